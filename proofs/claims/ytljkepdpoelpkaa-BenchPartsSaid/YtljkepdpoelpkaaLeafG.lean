import Derived.Test.YtljkepdpoelpkaaLeafF
namespace Go.Proofs.Ytljkepdpoelpkaa
open Go Go.RowKit
namespace LeafG
theorem fld_33_0 : Fld Try.prog 33 0 0 1 := ⟨_, _, Try.underlying33, rfl, rfl, by kernel_rfl, by decide⟩
theorem fld_33_1 : Fld Try.prog 33 1 1 1 := ⟨_, _, Try.underlying33, rfl, rfl, by kernel_rfl, by decide⟩
theorem sl_31 : Sl Try.prog 31 91 1 := ⟨by kernel_rfl, by kernel_rfl⟩
theorem ty_31 : Ty Try.prog 31 1 false := ⟨by kernel_rfl, by kernel_rfl⟩
theorem ty_33 : Ty Try.prog 33 2 true := ⟨by kernel_rfl, by kernel_rfl⟩
theorem ty_4 : Ty Try.prog 4 1 false := ⟨by kernel_rfl, by kernel_rfl⟩
theorem ty_91 : Ty Try.prog 91 1 false := ⟨by kernel_rfl, by kernel_rfl⟩
end LeafG
open LeafG
/-- the sign, as the program tells it. -/
def sgI (x : RI) : Int := if x.mag.length = 0 then 0 else if x.neg then -1 else 1
/-- -1, 0 or 1. -/
def cmpI (x y : RI) : Int := if sgI x ≠ sgI y then (if sgI x < sgI y then -1 else 1) else max (-1) (min 1 (if x.neg then -(sizeL x.mag y.mag) else sizeL x.mag y.mag))
/-- may a number be? -/
def okRI (x : RI) : Bool := !((decide ((x.mag.length : Int) > 2048) || (decide ((x.mag.length : Int) > 0) && (((x.mag.getD (x.mag.length - 1) 0 : Nat) : Int) == ((0 : Nat) : Int)))) || (((x.mag.length : Int) == 0) && x.neg))
theorem check_e0 {x : RI} (h : ((decide ((x.mag.length : Int) > 2048) || (decide ((x.mag.length : Int) > 0) && (((x.mag.getD (x.mag.length - 1) 0 : Nat) : Int) == ((0 : Nat) : Int)))) || (((x.mag.length : Int) == 0) && x.neg)) = true) : (1 : Int) = (if okRI x then 0 else 1) := by unfold okRI; rw [h]; rfl
theorem check_e1 {x : RI} (h : ((decide ((x.mag.length : Int) > 2048) || (decide ((x.mag.length : Int) > 0) && (((x.mag.getD (x.mag.length - 1) 0 : Nat) : Int) == ((0 : Nat) : Int)))) || (((x.mag.length : Int) == 0) && x.neg)) = false) : (0 : Int) = (if okRI x then 0 else 1) := by unfold okRI; rw [h]; rfl
theorem rsig_of {neg : Bool} {l : List Nat} {z : Int} (ok : okL l) (hv : val l = z.natAbs) (hn : z ≠ 0 → neg = decide (z < 0)) : rsig neg l = riOf z := by
  unfold rsig riOf
  rw [trimL_eq_limbs ok, hv]
  by_cases h : z = 0
  · subst h; simp [limbs_zero]
  · have h1 : limbs z.natAbs ≠ [] := by rw [limbs_pos (by omega)]; simp
    have h2 : (limbs z.natAbs).isEmpty = false := by cases hh : limbs z.natAbs <;> simp_all
    rw [h2, hn h]; simp
theorem ok_ri (z : Int) : okL (riOf z).mag := (canon_limbs _).1
theorem val_ri (z : Int) : val (riOf z).mag = z.natAbs := val_limbs _
theorem sizeL_bd {l m : List Nat} (hl : l.length ≤ 1099511627776) (hm : m.length ≤ 1099511627776) : -1099511627777 ≤ sizeL l m ∧ sizeL l m ≤ 1099511627777 := by
  unfold sizeL; split
  · omega
  · split
    · omega
    · split <;> omega
theorem sign_e0 {x : RI} (h : ((x.mag.length : Int) == 0) = true) : (0 : Int) = sgI x := by simp at h; simp [sgI, h]
theorem sign_e1 {x : RI} (h : ((x.mag.length : Int) == 0) = false) (h2 : x.neg = true) : (-1 : Int) = sgI x := by simp at h; simp [sgI, h, h2]
theorem sign_e2 {x : RI} (h : ((x.mag.length : Int) == 0) = false) (h2 : x.neg = false) : (1 : Int) = sgI x := by simp at h; simp [sgI, h, h2]
theorem cmp_e0 {x y : RI} (h : (sgI x != sgI y) = true) (h2 : decide (sgI x < sgI y) = true) : (-1 : Int) = cmpI x y := by simp at h h2; simp [cmpI, h, h2]
theorem cmp_e1 {x y : RI} (h : (sgI x != sgI y) = true) (h2 : decide (sgI x < sgI y) = false) : (1 : Int) = cmpI x y := by simp at h h2; simp [cmpI, h]; omega
theorem cmp_e2 {x y : RI} (h : (sgI x != sgI y) = false) : max (-1) (min 1 (if x.neg then -(sizeL x.mag y.mag) else sizeL x.mag y.mag)) = cmpI x y := by simp at h; simp [cmpI, h]

set_option maxRecDepth 100000 in
theorem sign_c (x : RI) : Cn Try.prog 59 [(RIA x).va] (In (sgI x)) := by
  refine Cn.intro Try.func59 rfl (by kernel_rfl) nq (fun B w0 a hst => ?_)
  have hst : St B w0 11 [(0, (RIA x).va)] [] a w0.w := hst
  refine wp_seq ?_
  refine gl (sts := []) (news := [⟨1, 33, ptrH, some 0, _, none⟩]) (sp := [.alc 0, .val 2 _]) [.o 1] hst (oc (ob_box rfl rfl rfl (gq 0 rfl)) (oc (ob_v rfl rfl (r_assign has_num)) o0)) (fun a w hst => ?_)
  have hst : St B w0 11 [(2, _)] [⟨1, 33, ptrH, _⟩] a w := hst
  refine thn_normal ?_
  refine wp_seq ?_
  refine wp_block ?_
  refine wp_seq ?_
  refine gl (sts := [none]) (news := []) (sp := [.adr 4 1 (.some 1) True, .val 5 _, .val 6 _, .val 7 _, .val 3 _]) [.g 0, .o 4] hst (oc (ob_a rfl rfl (a_fld (lz0 0 rfl) fld_33_1)) (oc (ob_v rfl rfl (r_loadf 0 rfl (by kernel_rfl) trivial (lz0 0 rfl) (Sub.part 1 rfl rfl) ty_31)) (oc (ob_v rfl rfl (r_lenm Try.underlying31 (vq 1 rfl))) (oc (ob_v rfl rfl (r_eql (vq 2 rfl) has_num)) (oc (ob_v rfl rfl (r_assign (vq 3 rfl))) o0))))) (fun a w hst => ?_)
  have hst : St B w0 11 [(2, _), (3, _)] [⟨1, 33, ptrH, _⟩] a w := hst
  refine thn_normal ?_
  refine cond_of hst (List.mem_of_getElem? (i := 1) rfl) (fun hb0 => ?_) (fun hb0 => ?_)
  · refine wp_seq ?_
    refine gl (sts := [none]) (news := []) (sp := [.val 2 _]) [.o 0] hst (oc (ob_v rfl rfl (r_assign has_num)) o0) (fun a w hst => ?_)
    have hst : St B w0 11 [(2, _)] [⟨1, 33, ptrH, _⟩] a w := hst
    refine thn_normal ?_
    refine wp_ret ?_
    refine blk_ret ?_
    refine thn_ret ?_
    refine ret_cast ?_ (ret_tmp rfl hst (List.mem_of_getElem? (i := 0) rfl))
    exact nu (sign_e0 hb0)
  · refine wp_seq ?_
    refine gl (sts := [none]) (news := []) (sp := [.adr 9 1 (.some 0) True, .val 10 _, .val 8 _]) [.g 0, .o 2] hst (oc (ob_a rfl rfl (a_fld (lz0 0 rfl) fld_33_0)) (oc (ob_v rfl rfl (r_loadf 0 rfl (by kernel_rfl) trivial (lz0 0 rfl) (Sub.part 0 rfl rfl) ty_4)) (oc (ob_v rfl rfl (r_assign (vq 1 rfl))) o0))) (fun a w hst => ?_)
    have hst : St B w0 11 [(2, _), (8, _)] [⟨1, 33, ptrH, _⟩] a w := hst
    refine thn_normal ?_
    refine cond_of hst (List.mem_of_getElem? (i := 1) rfl) (fun hb1 => ?_) (fun hb1 => ?_)
    · refine wp_seq ?_
      refine gl (sts := [none]) (news := []) (sp := [.val 2 _]) [.o 0] hst (oc (ob_v rfl rfl (r_assign has_num)) o0) (fun a w hst => ?_)
      have hst : St B w0 11 [(2, _)] [⟨1, 33, ptrH, _⟩] a w := hst
      refine thn_normal ?_
      refine wp_ret ?_
      refine blk_ret ?_
      refine thn_ret ?_
      refine ret_cast ?_ (ret_tmp rfl hst (List.mem_of_getElem? (i := 0) rfl))
      exact nu (sign_e1 hb0 hb1)
    · refine wp_skip ?_
      refine blk_normal ?_
      refine thn_normal ?_
      refine wp_seq ?_
      refine gl (sts := [none]) (news := []) (sp := [.val 2 _]) [.o 0] hst (oc (ob_v rfl rfl (r_assign has_num)) o0) (fun a w hst => ?_)
      have hst : St B w0 11 [(2, _)] [⟨1, 33, ptrH, _⟩] a w := hst
      refine thn_normal ?_
      refine wp_ret ?_
      refine ret_cast ?_ (ret_tmp rfl hst (List.mem_of_getElem? (i := 0) rfl))
      exact nu (sign_e2 hb0 hb1)

set_option maxRecDepth 100000 in
theorem cmpI_c (x y : RI) (hxs : x.mag.length ≤ 1099511627776) (hys : y.mag.length ≤ 1099511627776) : Cn Try.prog 60 [(RIA x).va, (RIA y).va] (In (cmpI x y)) := by
  refine Cn.intro Try.func60 rfl (by kernel_rfl) nq (fun B w0 a hst => ?_)
  have hst : St B w0 30 [(0, (RIA x).va), (1, (RIA y).va)] [] a w0.w := hst
  have hbd := sizeL_bd hxs hys
  refine wp_seq ?_
  refine gl (sts := []) (news := [⟨2, 33, ptrH, some 0, _, none⟩, ⟨3, 33, ptrH, some 1, _, none⟩]) (sp := [.alc 0, .alc 1, .val 4 _]) [.o 2] hst (oc (ob_box rfl rfl rfl (gq 0 rfl)) (oc (ob_box rfl rfl rfl (gq 1 rfl)) (oc (ob_v rfl rfl (r_assign has_num)) o0))) (fun a w hst => ?_)
  have hst : St B w0 30 [(4, _)] [⟨2, 33, ptrH, _⟩, ⟨3, 33, ptrH, _⟩] a w := hst
  refine thn_normal ?_
  refine wp_seq ?_
  refine wp_seq ?_
  refine go_draw (anc := [[], [0], [], [0, 1, 2], [0, 1, 2, 3], [0, 1, 2, 3, 4]]) (sts := [none, none]) (news := []) (sp := [.val 8 _, .val 9 _, .val 10 _, .val 11 _, .val 5 _, .val 6 _]) [.g 0, .o 4, .o 5] follows_mixed hst (oc (ob_v rfl rfl (r_load (lz0 0 rfl) ty_33)) (oc (ob_v rfl rfl (r_call (xs := [.tmp 8]) (sign_c _) (.cons (vq 0 rfl) .nil))) (oc (ob_v rfl rfl (r_load (lz0 1 rfl) ty_33)) (oc (ob_v rfl rfl (r_call (xs := [.tmp 10]) (sign_c _) (.cons (vq 2 rfl) .nil))) (oc (ob_v rfl rfl (r_assign (vq 1 rfl))) (oc (ob_v rfl rfl (r_assign (vq 3 rfl))) o0)))))) (by kernel_rfl) (by kernel_rfl) (by kernel_rfl) (by kernel_rfl) (fun a w hst => ?_)
  have hst : St B w0 30 [(4, _), (5, _), (6, _)] [⟨2, 33, ptrH, _⟩, ⟨3, 33, ptrH, _⟩] a w := hst
  refine thn_normal ?_
  refine wp_seq ?_
  refine gl (sts := [none, none]) (news := []) (sp := [.val 12 _, .val 13 _, .val 14 _]) [.g 0, .g 1, .g 2, .o 2] hst (oc (ob_v rfl rfl (r_move (gq 1 rfl))) (oc (ob_v rfl rfl (r_move (gq 2 rfl))) (oc (ob_v rfl rfl (r_neq (vq 0 rfl) (vq 1 rfl))) o0))) (fun a w hst => ?_)
  have hst : St B w0 30 [(4, _), (5, _), (6, _), (14, _)] [⟨2, 33, ptrH, _⟩, ⟨3, 33, ptrH, _⟩] a w := hst
  refine thn_normal ?_
  refine cond_of hst (List.mem_of_getElem? (i := 3) rfl) (fun hb0 => ?_) (fun hb0 => ?_)
  · refine wp_seq ?_
    refine wp_seq ?_
    refine gl (sts := [none, none]) (news := []) (sp := [.val 15 _, .val 16 _, .val 17 _]) [.g 0, .o 2] hst (oc (ob_v rfl rfl (r_move (gq 1 rfl))) (oc (ob_v rfl rfl (r_move (gq 2 rfl))) (oc (ob_v rfl rfl (r_lss (vq 0 rfl) (vq 1 rfl))) o0))) (fun a w hst => ?_)
    have hst : St B w0 30 [(4, _), (17, _)] [⟨2, 33, ptrH, _⟩, ⟨3, 33, ptrH, _⟩] a w := hst
    refine thn_normal ?_
    refine cond_of hst (List.mem_of_getElem? (i := 1) rfl) (fun hb1 => ?_) (fun hb1 => ?_)
    · refine wp_seq ?_
      refine gl (sts := [none, none]) (news := []) (sp := [.val 4 _]) [.o 0] hst (oc (ob_v rfl rfl (r_assign has_num)) o0) (fun a w hst => ?_)
      have hst : St B w0 30 [(4, _)] [⟨2, 33, ptrH, _⟩, ⟨3, 33, ptrH, _⟩] a w := hst
      refine thn_normal ?_
      refine wp_ret ?_
      refine thn_ret ?_
      refine thn_ret ?_
      refine ret_cast ?_ (ret_tmp rfl hst (List.mem_of_getElem? (i := 0) rfl))
      exact nu (cmp_e0 hb0 hb1)
    · refine wp_skip ?_
      refine thn_normal ?_
      refine wp_seq ?_
      refine gl (sts := [none, none]) (news := []) (sp := [.val 4 _]) [.o 0] hst (oc (ob_v rfl rfl (r_assign has_num)) o0) (fun a w hst => ?_)
      have hst : St B w0 30 [(4, _)] [⟨2, 33, ptrH, _⟩, ⟨3, 33, ptrH, _⟩] a w := hst
      refine thn_normal ?_
      refine wp_ret ?_
      refine thn_ret ?_
      refine ret_cast ?_ (ret_tmp rfl hst (List.mem_of_getElem? (i := 0) rfl))
      exact nu (cmp_e1 hb0 hb1)
  · refine wp_skip ?_
    refine thn_normal ?_
    refine wp_seq ?_
    refine gl (sts := [none, none]) (news := []) (sp := [.adr 18 2 (.some 1) True, .val 19 _, .adr 20 3 (.some 1) True, .val 21 _, .val 22 _, .val 7 _]) [.g 0, .o 5] hst (oc (ob_a rfl rfl (a_fld (lz0 0 rfl) fld_33_1)) (oc (ob_v rfl rfl (r_loadf 0 rfl (by kernel_rfl) trivial (lz0 0 rfl) (Sub.part 1 rfl rfl) ty_31)) (oc (ob_a rfl rfl (a_fld (lz0 1 rfl) fld_33_1)) (oc (ob_v rfl rfl (r_loadf 2 rfl (by kernel_rfl) trivial (lz0 1 rfl) (Sub.part 1 rfl rfl) ty_31)) (oc (ob_v rfl rfl (r_call (xs := [.tmp 19, .tmp 21]) (size_c _ _) (.cons (vq 1 rfl) (.cons (vq 3 rfl) .nil)))) (oc (ob_v rfl rfl (r_assign (vq 4 rfl))) o0)))))) (fun a w hst => ?_)
    have hst : St B w0 30 [(4, _), (7, _)] [⟨2, 33, ptrH, _⟩, ⟨3, 33, ptrH, _⟩] a w := hst
    refine thn_normal ?_
    refine wp_seq ?_
    refine wp_seq ?_
    refine gl (sts := [none, none]) (news := []) (sp := [.adr 23 2 (.some 0) True, .val 24 _]) [.g 0, .g 1, .o 1] hst (oc (ob_a rfl rfl (a_fld (lz0 0 rfl) fld_33_0)) (oc (ob_v rfl rfl (r_loadf 0 rfl (by kernel_rfl) trivial (lz0 0 rfl) (Sub.part 0 rfl rfl) ty_4)) o0)) (fun a w hst => ?_)
    have hst : St B w0 30 [(4, _), (7, _), (24, _)] [⟨2, 33, ptrH, _⟩, ⟨3, 33, ptrH, _⟩] a w := hst
    refine thn_normal ?_
    refine cond_join (fun a w =>  St B w0 30 [(7, In (if x.neg then -(sizeL x.mag y.mag) else sizeL x.mag y.mag))] [⟨2, 33, ptrH, RIA x⟩, ⟨3, 33, ptrH, RIA y⟩] a w) hst (List.mem_of_getElem? (i := 2) rfl) (fun hb2 => ?_) (fun hb2 => ?_) (fun a w hst => ?_)
    · refine gl (sts := [none, none]) (news := []) (sp := [.val 25 _, .val 26 _, .val 7 _]) [.g 0, .o 2] hst (oc (ob_v rfl rfl (r_move (gq 1 rfl))) (oc (ob_v rfl rfl (r_neg (vq 0 rfl) ((wi64 (by omega) (by omega)).trans (Int.zero_sub _)))) (oc (ob_v rfl rfl (r_assign (vq 1 rfl))) o0))) (fun a w hst => ?_)
      have hst : St B w0 30 [(4, _), (7, _)] [⟨2, 33, ptrH, _⟩, ⟨3, 33, ptrH, _⟩] a w := hst
      refine thn_normal ?_
      have hst := St.sel hst [1]
      rw [if_pos hb2]; exact hst
    · refine wp_skip ?_
      refine thn_normal ?_
      have hst := St.sel hst [1]
      rw [if_neg (by rw [hb2]; decide)]; exact hst
    refine thn_normal ?_
    refine wp_seq ?_
    refine gl (sts := [none, none]) (news := []) (sp := [.val 27 _, .val 28 _, .val 29 _, .val 4 _]) [.o 3] hst (oc (ob_v rfl rfl (r_move (gq 0 rfl))) (oc (ob_v rfl rfl (r_min has_num (vq 0 rfl))) (oc (ob_v rfl rfl (r_max has_num (vq 1 rfl))) (oc (ob_v rfl rfl (r_assign (vq 2 rfl))) o0)))) (fun a w hst => ?_)
    have hst : St B w0 30 [(4, _)] [⟨2, 33, ptrH, _⟩, ⟨3, 33, ptrH, _⟩] a w := hst
    refine thn_normal ?_
    refine wp_ret ?_
    refine ret_cast ?_ (ret_tmp rfl hst (List.mem_of_getElem? (i := 0) rfl))
    exact nu (cmp_e2 hb0)

set_option maxRecDepth 100000 in
theorem check_c (x : RI) : Cn Try.prog 82 [(RIA x).va] (In (if okRI x then 0 else 1)) := by
  refine Cn.intro Try.func82 rfl (by kernel_rfl) nq (fun B w0 a hst => ?_)
  have hst : St B w0 34 [(0, (RIA x).va)] [] a w0.w := hst
  have hk := (ri_know (hst.vals _ (List.mem_of_getElem? (i := 0) rfl))).2
  refine wp_seq ?_
  refine gl (sts := []) (news := [⟨1, 33, ptrH, some 0, _, none⟩]) (sp := [.alc 0, .val 2 _]) [.o 1] hst (oc (ob_box rfl rfl rfl (gq 0 rfl)) (oc (ob_v rfl rfl (r_assign has_num)) o0)) (fun a w hst => ?_)
  have hst : St B w0 34 [(2, _)] [⟨1, 33, ptrH, _⟩] a w := hst
  refine thn_normal ?_
  refine wp_seq ?_
  refine wp_seq ?_
  refine gl (sts := [none]) (news := []) (sp := ((.adr 3 1 (.some 1) True : Sp) :: (.val 4 _) :: (.val 5 _) :: (.val 6 _) :: (.val 7 _) :: (.adr 8 1 (.some 1) (_ = false)) :: (.val 9 (Wh (_ = false) _)) :: (.val 10 (Wh (_ = false) _)) :: (.val 11 (Wh (_ = false) _)) :: (.val 12 (Wh (_ = false) _)) :: (.adr 13 1 (.some 1) ((_ = false) ∧ _ = true)) :: (.val 14 (Wh ((_ = false) ∧ _ = true) _)) :: (.adr 15 1 (.some 1) ((_ = false) ∧ _ = true)) :: (.val 16 (Wh ((_ = false) ∧ _ = true) _)) :: (.val 17 (Wh ((_ = false) ∧ _ = true) _)) :: (.val 18 (Wh ((_ = false) ∧ _ = true) _)) :: (.val 19 (Wh ((_ = false) ∧ _ = true) _)) :: (.val 20 (Wh ((_ = false) ∧ _ = true) _)) :: (.val 21 (Wh ((_ = false) ∧ _ = true) _)) :: (.val 22 (Wh (_ = false) _)) :: (.val 23 _) :: (.val 24 _) :: (.adr 25 1 (.some 1) (_ = false)) :: (.val 26 (Wh (_ = false) _)) :: (.val 27 (Wh (_ = false) _)) :: (.val 28 (Wh (_ = false) _)) :: (.val 29 (Wh (_ = false) _)) :: (.adr 30 1 (.some 0) ((_ = false) ∧ _ = true)) :: (.val 31 (Wh ((_ = false) ∧ _ = true) _)) :: (.val 32 (Wh (_ = false) _)) :: (.val 33 _) :: [])) [.g 0, .o 30] hst (oc (ob_a rfl rfl (a_fld (lz0 0 rfl) fld_33_1)) (oc (ob_v rfl rfl (r_loadf 0 rfl (by kernel_rfl) trivial (lz0 0 rfl) (Sub.part 1 rfl rfl) ty_31)) (oc (ob_v rfl rfl (r_lenm Try.underlying31 (vq 1 rfl))) (oc (ob_v rfl rfl (r_gtr (vq 2 rfl) has_num)) (oc (ob_v rfl rfl (r_move (vq 3 rfl))) (oc (ob_ag rfl rfl rfl (vq 4 rfl) nq (fun hg => a_fld (lz0 0 rfl) fld_33_1)) (oc (ob_gd rfl rfl rfl (vq 4 rfl) nq (fun hg => r_loadf 5 rfl (by kernel_rfl) hg (lz0 0 rfl) (Sub.part 1 rfl rfl) ty_31)) (oc (ob_gd rfl rfl rfl (vq 4 rfl) nq (fun hg => r_lenm Try.underlying31 (has_wh (vq 6 rfl) hg))) (oc (ob_gd rfl rfl rfl (vq 4 rfl) nq (fun hg => r_gtr (has_wh (vq 7 rfl) hg) has_num)) (oc (ob_gd rfl rfl rfl (vq 4 rfl) nq (fun hg => r_move (has_wh (vq 8 rfl) hg))) (oc (ob_ag2 rfl rfl rfl (vq 9 rfl) nq (fun hg => a_fld (lz0 0 rfl) fld_33_1)) (oc (ob_gd2 rfl rfl rfl (vq 9 rfl) nq (fun hg => r_loadf 10 rfl (by kernel_rfl) hg (lz0 0 rfl) (Sub.part 1 rfl rfl) ty_31)) (oc (ob_ag2 rfl rfl rfl (vq 9 rfl) nq (fun hg => a_fld (lz0 0 rfl) fld_33_1)) (oc (ob_gd2 rfl rfl rfl (vq 9 rfl) nq (fun hg => r_loadf 12 rfl (by kernel_rfl) hg (lz0 0 rfl) (Sub.part 1 rfl rfl) ty_31)) (oc (ob_gd2 rfl rfl rfl (vq 9 rfl) nq (fun hg => r_lenm Try.underlying31 (has_wh (vq 13 rfl) hg))) (oc (ob_gd2 rfl rfl rfl (vq 9 rfl) nq (fun hg => r_sub (has_wh (vq 14 rfl) hg) has_num (wi_pm (by have h := hg.2; simp at h; omega) hk))) (oc (ob_gd2 rfl rfl rfl (vq 9 rfl) nq (fun hg => r_idxmd sl_31 (has_wh (vq 11 rfl) hg) (has_wh (vq 15 rfl) hg) (by have h := hg.2; simp at h; omega))) (oc (ob_gd2 rfl rfl rfl (vq 9 rfl) nq (fun hg => r_loade (has_wh (vq 16 rfl) hg) ty_91)) (oc (ob_gd2 rfl rfl rfl (vq 9 rfl) nq (fun hg => r_eql (has_wh (vq 17 rfl) hg) (has_nat 0 rfl))) (oc (ob_gd rfl rfl rfl (vq 4 rfl) nq (fun hg => r_and (has_wh (vq 9 rfl) hg) (has_wh2 (vq 18 rfl) hg))) (oc (ob_v rfl rfl (r_or (vq 4 rfl) (vq 19 rfl))) (oc (ob_v rfl rfl (r_move (vq 20 rfl))) (oc (ob_ag rfl rfl rfl (vq 21 rfl) nq (fun hg => a_fld (lz0 0 rfl) fld_33_1)) (oc (ob_gd rfl rfl rfl (vq 21 rfl) nq (fun hg => r_loadf 22 rfl (by kernel_rfl) hg (lz0 0 rfl) (Sub.part 1 rfl rfl) ty_31)) (oc (ob_gd rfl rfl rfl (vq 21 rfl) nq (fun hg => r_lenm Try.underlying31 (has_wh (vq 23 rfl) hg))) (oc (ob_gd rfl rfl rfl (vq 21 rfl) nq (fun hg => r_eql (has_wh (vq 24 rfl) hg) has_num)) (oc (ob_gd rfl rfl rfl (vq 21 rfl) nq (fun hg => r_move (has_wh (vq 25 rfl) hg))) (oc (ob_ag2 rfl rfl rfl (vq 26 rfl) nq (fun hg => a_fld (lz0 0 rfl) fld_33_0)) (oc (ob_gd2 rfl rfl rfl (vq 26 rfl) nq (fun hg => r_loadf 27 rfl (by kernel_rfl) hg (lz0 0 rfl) (Sub.part 0 rfl rfl) ty_4)) (oc (ob_gd rfl rfl rfl (vq 21 rfl) nq (fun hg => r_and (has_wh (vq 26 rfl) hg) (has_wh2 (vq 28 rfl) hg))) (oc (ob_v rfl rfl (r_or (vq 21 rfl) (vq 29 rfl))) o0))))))))))))))))))))))))))))))) (fun a w hst => ?_)
  have hst : St B w0 34 [(2, _), (33, _)] [⟨1, 33, ptrH, _⟩] a w := hst
  refine thn_normal ?_
  refine cond_of hst (List.mem_of_getElem? (i := 1) rfl) (fun hb0 => ?_) (fun hb0 => ?_)
  · refine wp_seq ?_
    refine gl (sts := [none]) (news := []) (sp := [.val 2 _]) [.o 0] hst (oc (ob_v rfl rfl (r_assign has_num)) o0) (fun a w hst => ?_)
    have hst : St B w0 34 [(2, _)] [⟨1, 33, ptrH, _⟩] a w := hst
    refine thn_normal ?_
    refine wp_ret ?_
    refine thn_ret ?_
    refine ret_cast ?_ (ret_tmp rfl hst (List.mem_of_getElem? (i := 0) rfl))
    exact nu (check_e0 hb0)
  · refine wp_skip ?_
    refine thn_normal ?_
    refine wp_seq ?_
    refine gl (sts := [none]) (news := []) (sp := [.val 2 _]) [.o 0] hst (oc (ob_v rfl rfl (r_assign has_num)) o0) (fun a w hst => ?_)
    have hst : St B w0 34 [(2, _)] [⟨1, 33, ptrH, _⟩] a w := hst
    refine thn_normal ?_
    refine wp_ret ?_
    refine ret_cast ?_ (ret_tmp rfl hst (List.mem_of_getElem? (i := 0) rfl))
    exact nu (check_e1 hb0)

theorem of_e0 {n : Int} (h0 : -9223372036854775808 ≤ n) (h : decide (n < 0) = true) : IntKind.u64.wrap (0 - IntKind.u64.wrap n) = (n.natAbs : Nat) := by
  simp at h; simp [IntKind.wrap, IntKind.bits, IntKind.signed]; omega
theorem of_e1 {n : Int} (h1 : n < 9223372036854775808) (h : decide (n < 0) = false) : IntKind.u64.wrap n = (n.natAbs : Nat) := by
  simp at h; simp [IntKind.wrap, IntKind.bits, IntKind.signed]; omega
theorem of_ok {n : Int} (h0 : -9223372036854775808 ≤ n) (h1 : n < 9223372036854775808) : okL [n.natAbs % 4294967296, n.natAbs / 4294967296] := by
  intro x hx
  simp at hx
  rcases hx with rfl | rfl <;> omega
theorem of_e2 {n : Int} (h0 : -9223372036854775808 ≤ n) (h1 : n < 9223372036854775808) : (RIA (rsig (decide (n < 0)) [n.natAbs % 4294967296, n.natAbs / 4294967296])).va = Zi n := by
  rw [rsig_of (of_ok h0 h1) (z := n) (by simp [val]; omega) (fun _ => rfl)]

set_option maxRecDepth 100000 in
theorem of_c (n : Int) (h0 : -9223372036854775808 ≤ n) (h1 : n < 9223372036854775808) : Cn Try.prog 62 [In n] (Zi n) := by
  refine Cn.intro Try.func62 rfl (by kernel_rfl) nq (fun B w0 a hst => ?_)
  have hst : St B w0 19 [(0, In n)] [] a w0.w := hst
  refine wp_seq ?_
  refine gl (sts := []) (news := [⟨2, 33, ptrH, some 0, _, none⟩]) (sp := [.alc 0]) [.g 0] hst (oc (ob_alc rfl rfl rfl (Str.zero str_int)) o0) (fun a w hst => ?_)
  have hst : St B w0 19 [(0, _)] [⟨2, 33, ptrH, _⟩] a w := hst
  refine thn_normal ?_
  refine wp_seq ?_
  refine gl (sts := [none]) (news := []) (sp := [.val 4 _, .val 5 _, .val 3 _]) [.g 0, .o 2] hst (oc (ob_v rfl rfl (r_move (gq 0 rfl))) (oc (ob_v rfl rfl (r_convk .u64 (by kernel_rfl) (by kernel_rfl) (vq 0 rfl) (rfl))) (oc (ob_v rfl rfl (r_assign (vq 1 rfl))) o0))) (fun a w hst => ?_)
  have hst : St B w0 19 [(0, _), (3, _)] [⟨2, 33, ptrH, _⟩] a w := hst
  refine thn_normal ?_
  refine wp_seq ?_
  refine wp_seq ?_
  refine gl (sts := [none]) (news := []) (sp := [.val 6 _, .val 7 _]) [.g 0, .g 1, .o 1] hst (oc (ob_v rfl rfl (r_move (gq 0 rfl))) (oc (ob_v rfl rfl (r_lss (vq 0 rfl) has_num)) o0)) (fun a w hst => ?_)
  have hst : St B w0 19 [(0, _), (3, _), (7, _)] [⟨2, 33, ptrH, _⟩] a w := hst
  refine thn_normal ?_
  refine cond_join (fun a w =>  St B w0 19 [(0, In n), (3, (NumA .u64 (n.natAbs : Nat)).va)] [⟨2, 33, ptrH, cat [BoA false, MgA []]⟩] a w) hst (List.mem_of_getElem? (i := 2) rfl) (fun hb0 => ?_) (fun hb0 => ?_) (fun a w hst => ?_)
  · refine gl (sts := [none]) (news := []) (sp := [.val 8 _, .val 9 _, .val 3 _]) [.g 0, .o 2] hst (oc (ob_v rfl rfl (r_move (gq 1 rfl))) (oc (ob_v rfl rfl (r_neg (vq 0 rfl) (rfl))) (oc (ob_v rfl rfl (r_assign (vq 1 rfl))) o0))) (fun a w hst => ?_)
    have hst : St B w0 19 [(0, _), (3, _)] [⟨2, 33, ptrH, _⟩] a w := hst
    refine thn_normal ?_
    have hst := St.sel hst [0, 1]
    rw [of_e0 h0 hb0] at hst; exact hst
  · refine wp_skip ?_
    refine thn_normal ?_
    have hst := St.sel hst [0, 1]
    rw [of_e1 h1 hb0] at hst; exact hst
  refine thn_normal ?_
  refine wp_seq ?_
  refine gl (sts := [some (9, _)]) (news := []) (sp := [.val 10 _, .val 11 _, .val 12 _, .val 13 _, .val 14 _, .val 15 _, .val 16 _, .val 17 _, .val 18 _, .sto 0]) [] hst (oc (ob_v rfl rfl (r_move (gq 0 rfl))) (oc (ob_v rfl rfl (r_lss (vq 0 rfl) has_num)) (oc (ob_v rfl rfl (r_move (gq 1 rfl))) (oc (ob_v rfl rfl (r_convk .u32 (by kernel_rfl) (by kernel_rfl) (vq 2 rfl) (wu32'))) (oc (ob_v rfl rfl (r_move (gq 1 rfl))) (oc (ob_v rfl rfl (r_shr (vq 4 rfl) (has_nat 32 rfl) (by decide) (nshr))) (oc (ob_v rfl rfl (r_convk .u32 (by kernel_rfl) (by kernel_rfl) (vq 5 rfl) (wu32 (by show n.natAbs / 4294967296 < _; omega)))) (oc (ob_v rfl rfl (r_slicem (l := [_, _]) (xs := [.tmp 13, .tmp 16]) sl_31 (by kernel_rfl) nq nq (of_ok h0 h1) (.cons (vq 3 rfl) (.cons (vq 6 rfl) .nil)) rfl rfl)) (oc (ob_v rfl rfl (r_call (xs := [.tmp 11, .tmp 17]) (signedA_c _ _) (.cons (vq 1 rfl) (.cons (vq 7 rfl) .nil)))) (oc (ob_sto rfl rfl rfl (vq 8 rfl) ty_33 (Eq.trans (b := 2) rfl rfl)) o0)))))))))) (fun a w hst => ?_)
  have hst : St B w0 19 [] [⟨2, 33, ptrH, _⟩] a w := hst
  refine thn_normal ?_
  refine wp_ret ?_
  refine ret_cast ?_ (ret_cell rfl hst (List.mem_of_getElem? (i := 0) rfl) ty_33)
  exact of_e2 h0 h1

theorem len_mono {m n : Nat} (h : m ≤ n) : (limbs m).length ≤ (limbs n).length := limbs_len_le (Nat.lt_of_le_of_lt h (lt_of_limbs_len (Nat.le_refl _)))
theorem sizeL_limbs {m n : Nat} : (0 ≤ sizeL (limbs m) (limbs n) ↔ n ≤ m) ∧ (0 < sizeL (limbs m) (limbs n) ↔ n < m) := by
  unfold sizeL
  rw [val_limbs, val_limbs]
  by_cases h : (limbs m).length = (limbs n).length
  · rw [if_neg (by omega)]
    split
    · omega
    · split <;> omega
  · rw [if_pos (by omega)]
    by_cases h2 : m ≤ n
    · have := len_mono h2
      have : m ≠ n := fun e => h (by rw [e])
      omega
    · have := len_mono (Nat.le_of_lt (Nat.lt_of_not_le h2))
      omega
theorem val_sum {a b : Nat} : val (digs (max (limbs a).length (limbs b).length + 1) (a + b)) = a + b := by
  rw [val_digs, Nat.mod_eq_of_lt]
  have h1 := lt_of_limbs_len (n := a) (k := max (limbs a).length (limbs b).length) (Nat.le_max_left _ _)
  have h2 := lt_of_limbs_len (n := b) (k := max (limbs a).length (limbs b).length) (Nat.le_max_right _ _)
  rw [Nat.pow_succ]
  omega
theorem plus_e0 {a b : Int} (h : ((riOf a).neg == (riOf b).neg) = true) : (RIA (rsig (riOf a).neg (digs (max (riOf a).mag.length (riOf b).mag.length + 1) (val (riOf a).mag + val (riOf b).mag)))).va = Zi (a + b) := by
  have h' : decide (a < 0) = decide (b < 0) := by simpa [riOf] using h
  rw [val_ri, val_ri, rsig_of (okL_digs _ _) (z := a + b) (by show val (digs (max (limbs a.natAbs).length (limbs b.natAbs).length + 1) _) = _; rw [val_sum]; simp only [decide_eq_decide] at h'; omega) (fun hz => by show decide (a < 0) = _; simp only [decide_eq_decide] at h' ⊢; omega)]
theorem plus_e1 {a b : Int} (h : ((riOf a).neg == (riOf b).neg) = false) (h2 : b.natAbs ≤ a.natAbs) : (RIA (rsig (riOf a).neg (limbs (val (riOf a).mag - val (riOf b).mag)))).va = Zi (a + b) := by
  have h' : ¬ decide (a < 0) = decide (b < 0) := by simpa [riOf] using h
  rw [val_ri, val_ri, rsig_of (canon_limbs _).1 (z := a + b) (by rw [val_limbs]; simp only [decide_eq_decide] at h'; omega) (fun hz => by show decide (a < 0) = _; simp only [decide_eq_decide] at h' ⊢; omega)]
theorem plus_e2 {a b : Int} (h : ((riOf a).neg == (riOf b).neg) = false) (h2 : a.natAbs ≤ b.natAbs) : (RIA (rsig (riOf b).neg (limbs (val (riOf b).mag - val (riOf a).mag)))).va = Zi (a + b) := by
  have h' : ¬ decide (a < 0) = decide (b < 0) := by simpa [riOf] using h
  rw [val_ri, val_ri, rsig_of (canon_limbs _).1 (z := a + b) (by rw [val_limbs]; simp only [decide_eq_decide] at h'; omega) (fun hz => by show decide (b < 0) = _; simp only [decide_eq_decide] at h' ⊢; omega)]
theorem plus_g1 {a b : Int} (h : decide (sizeL (riOf a).mag (riOf b).mag ≥ 0) = true) : b.natAbs ≤ a.natAbs := (sizeL_limbs (m := a.natAbs) (n := b.natAbs)).1.1 (by simpa [riOf] using h)
theorem plus_g2 {a b : Int} (h : decide (sizeL (riOf a).mag (riOf b).mag ≥ 0) = false) : a.natAbs ≤ b.natAbs := by
  have := (sizeL_limbs (m := a.natAbs) (n := b.natAbs)).1
  have h' : ¬ 0 ≤ sizeL (limbs a.natAbs) (limbs b.natAbs) := by simpa [riOf] using h
  omega
theorem minus_e {b : Int} : (cat (setAll [BoA false, MgA []] [(0, BoA (!(riOf b).neg && decide (((riOf b).mag.length : Int) > 0))), (1, MgA (riOf b).mag)])).va = Zi (-b) := by
  have e : (!(riOf b).neg && decide (((riOf b).mag.length : Int) > 0)) = (riOf (-b)).neg := by
    by_cases h : b = 0
    · subst h; simp [riOf, limbs_zero]
    · have : 0 < (limbs b.natAbs).length := by rw [limbs_pos (by omega)]; simp
      simp [riOf, this]
      by_cases h2 : b < 0 <;> simp [h2] <;> omega
  rw [e]
  have e2 : (riOf b).mag = (riOf (-b)).mag := by simp [riOf]
  rw [e2]
  rfl
theorem lz_neg (b : Int) : lz (-b) = lz b := by simp [lz]

set_option maxRecDepth 100000 in
theorem plus_c (p q : Int) (hp : lz p ≤ 1099511627776) (hq : lz q ≤ 1099511627776) : Cn Try.prog 66 [Zi p, Zi q] (Zi (p + q)) := by
  refine Cn.intro Try.func66 rfl (by kernel_rfl) nq (fun B w0 a hst => ?_)
  have hst : St B w0 40 [(0, Zi p), (1, Zi q)] [] a w0.w := hst
  refine wp_seq ?_
  refine gl (sts := []) (news := [⟨2, 33, ptrH, some 0, _, none⟩, ⟨3, 33, ptrH, some 1, _, none⟩, ⟨4, 33, ptrH, some 2, _, none⟩]) (sp := [.alc 0, .alc 1, .alc 2]) [] hst (oc (ob_box rfl rfl rfl (gq 0 rfl)) (oc (ob_box rfl rfl rfl (gq 1 rfl)) (oc (ob_alc rfl rfl rfl (Str.zero str_int)) o0))) (fun a w hst => ?_)
  have hst : St B w0 40 [] [⟨2, 33, ptrH, _⟩, ⟨3, 33, ptrH, _⟩, ⟨4, 33, ptrH, _⟩] a w := hst
  refine thn_normal ?_
  refine wp_seq ?_
  refine wp_seq ?_
  refine gl (sts := [none, none, none]) (news := []) (sp := [.adr 5 2 (.some 0) True, .val 6 _, .adr 7 3 (.some 0) True, .val 8 _, .val 9 _]) [.o 4] hst (oc (ob_a rfl rfl (a_fld (lz0 0 rfl) fld_33_0)) (oc (ob_v rfl rfl (r_loadf 0 rfl (by kernel_rfl) trivial (lz0 0 rfl) (Sub.part 0 rfl rfl) ty_4)) (oc (ob_a rfl rfl (a_fld (lz0 1 rfl) fld_33_0)) (oc (ob_v rfl rfl (r_loadf 2 rfl (by kernel_rfl) trivial (lz0 1 rfl) (Sub.part 0 rfl rfl) ty_4)) (oc (ob_v rfl rfl (r_eqlb (by kernel_rfl) (vq 1 rfl) (vq 3 rfl))) o0))))) (fun a w hst => ?_)
  have hst : St B w0 40 [(9, _)] [⟨2, 33, ptrH, _⟩, ⟨3, 33, ptrH, _⟩, ⟨4, 33, ptrH, _⟩] a w := hst
  refine thn_normal ?_
  refine cond_of hst (List.mem_of_getElem? (i := 0) rfl) (fun hb0 => ?_) (fun hb0 => ?_)
  · refine wp_seq ?_
    refine go_draw (anc := [[], [0], [], [2], [], [4], [2, 3, 4, 5], [0, 1, 2, 3, 4, 5, 6], [0, 1, 2, 3, 4, 5, 6, 7]]) (sts := [none, none, some (8, _)]) (news := []) (sp := [.adr 10 2 (.some 0) True, .val 11 _, .adr 12 2 (.some 1) True, .val 13 _, .adr 14 3 (.some 1) True, .val 15 _, .val 16 _, .val 17 _, .sto 2]) [] follows_mixed hst (oc (ob_a rfl rfl (a_fld (lz0 0 rfl) fld_33_0)) (oc (ob_v rfl rfl (r_loadf 0 rfl (by kernel_rfl) trivial (lz0 0 rfl) (Sub.part 0 rfl rfl) ty_4)) (oc (ob_a rfl rfl (a_fld (lz0 0 rfl) fld_33_1)) (oc (ob_v rfl rfl (r_loadf 2 rfl (by kernel_rfl) trivial (lz0 0 rfl) (Sub.part 1 rfl rfl) ty_31)) (oc (ob_a rfl rfl (a_fld (lz0 1 rfl) fld_33_1)) (oc (ob_v rfl rfl (r_loadf 4 rfl (by kernel_rfl) trivial (lz0 1 rfl) (Sub.part 1 rfl rfl) ty_31)) (oc (ob_v rfl rfl (r_call (xs := [.tmp 13, .tmp 15]) ((add_c _ _ hp hq).free (free_mgNA _).va) (.cons (vq 3 rfl) (.cons (vq 5 rfl) .nil)))) (oc (ob_v rfl rfl (r_call (xs := [.tmp 11, .tmp 16]) (signedA_c _ _) (.cons (vq 1 rfl) (.cons (vq 6 rfl) .nil)))) (oc (ob_sto rfl rfl rfl (vq 7 rfl) ty_33 (Eq.trans (b := 2) rfl rfl)) o0))))))))) (by kernel_rfl) (by kernel_rfl) (by kernel_rfl) (by kernel_rfl) (fun a w hst => ?_)
    have hst : St B w0 40 [] [⟨2, 33, ptrH, _⟩, ⟨3, 33, ptrH, _⟩, ⟨4, 33, ptrH, _⟩] a w := hst
    refine thn_normal ?_
    refine wp_ret ?_
    refine thn_ret ?_
    refine ret_cast ?_ (ret_cell rfl hst (List.mem_of_getElem? (i := 2) rfl) ty_33)
    exact plus_e0 hb0
  · refine wp_skip ?_
    refine thn_normal ?_
    refine wp_seq ?_
    refine wp_seq ?_
    refine gl (sts := [none, none, none]) (news := []) (sp := [.adr 18 2 (.some 1) True, .val 19 _, .adr 20 3 (.some 1) True, .val 21 _, .val 22 _, .val 23 _]) [.o 5] hst (oc (ob_a rfl rfl (a_fld (lz0 0 rfl) fld_33_1)) (oc (ob_v rfl rfl (r_loadf 0 rfl (by kernel_rfl) trivial (lz0 0 rfl) (Sub.part 1 rfl rfl) ty_31)) (oc (ob_a rfl rfl (a_fld (lz0 1 rfl) fld_33_1)) (oc (ob_v rfl rfl (r_loadf 2 rfl (by kernel_rfl) trivial (lz0 1 rfl) (Sub.part 1 rfl rfl) ty_31)) (oc (ob_v rfl rfl (r_call (xs := [.tmp 19, .tmp 21]) (size_c _ _) (.cons (vq 1 rfl) (.cons (vq 3 rfl) .nil)))) (oc (ob_v rfl rfl (r_geq (vq 4 rfl) has_num)) o0)))))) (fun a w hst => ?_)
    have hst : St B w0 40 [(23, _)] [⟨2, 33, ptrH, _⟩, ⟨3, 33, ptrH, _⟩, ⟨4, 33, ptrH, _⟩] a w := hst
    refine thn_normal ?_
    refine cond_of hst (List.mem_of_getElem? (i := 0) rfl) (fun hb1 => ?_) (fun hb1 => ?_)
    · refine wp_seq ?_
      refine go_draw (anc := [[], [0], [], [2], [], [4], [2, 3, 4, 5], [0, 1, 2, 3, 4, 5, 6], [0, 1, 2, 3, 4, 5, 6, 7]]) (sts := [none, none, some (8, _)]) (news := []) (sp := [.adr 24 2 (.some 0) True, .val 25 _, .adr 26 2 (.some 1) True, .val 27 _, .adr 28 3 (.some 1) True, .val 29 _, .val 30 _, .val 31 _, .sto 2]) [] follows_mixed hst (oc (ob_a rfl rfl (a_fld (lz0 0 rfl) fld_33_0)) (oc (ob_v rfl rfl (r_loadf 0 rfl (by kernel_rfl) trivial (lz0 0 rfl) (Sub.part 0 rfl rfl) ty_4)) (oc (ob_a rfl rfl (a_fld (lz0 0 rfl) fld_33_1)) (oc (ob_v rfl rfl (r_loadf 2 rfl (by kernel_rfl) trivial (lz0 0 rfl) (Sub.part 1 rfl rfl) ty_31)) (oc (ob_a rfl rfl (a_fld (lz0 1 rfl) fld_33_1)) (oc (ob_v rfl rfl (r_loadf 4 rfl (by kernel_rfl) trivial (lz0 1 rfl) (Sub.part 1 rfl rfl) ty_31)) (oc (ob_v rfl rfl (r_call (xs := [.tmp 27, .tmp 29]) ((sub_c _ _ hp (len_mono (plus_g1 hb1)) (by show val (limbs _) ≤ val (limbs _); rw [val_limbs, val_limbs]; exact plus_g1 hb1)).free (free_mgNA _).va) (.cons (vq 3 rfl) (.cons (vq 5 rfl) .nil)))) (oc (ob_v rfl rfl (r_call (xs := [.tmp 25, .tmp 30]) (signedA_c _ _) (.cons (vq 1 rfl) (.cons (vq 6 rfl) .nil)))) (oc (ob_sto rfl rfl rfl (vq 7 rfl) ty_33 (Eq.trans (b := 2) rfl rfl)) o0))))))))) (by kernel_rfl) (by kernel_rfl) (by kernel_rfl) (by kernel_rfl) (fun a w hst => ?_)
      have hst : St B w0 40 [] [⟨2, 33, ptrH, _⟩, ⟨3, 33, ptrH, _⟩, ⟨4, 33, ptrH, _⟩] a w := hst
      refine thn_normal ?_
      refine wp_ret ?_
      refine thn_ret ?_
      refine ret_cast ?_ (ret_cell rfl hst (List.mem_of_getElem? (i := 2) rfl) ty_33)
      exact plus_e1 hb0 (plus_g1 hb1)
    · refine wp_skip ?_
      refine thn_normal ?_
      refine wp_seq ?_
      refine go_draw (anc := [[], [0], [], [2], [], [4], [2, 3, 4, 5], [0, 1, 2, 3, 4, 5, 6], [0, 1, 2, 3, 4, 5, 6, 7]]) (sts := [none, none, some (8, _)]) (news := []) (sp := [.adr 32 3 (.some 0) True, .val 33 _, .adr 34 3 (.some 1) True, .val 35 _, .adr 36 2 (.some 1) True, .val 37 _, .val 38 _, .val 39 _, .sto 2]) [] follows_mixed hst (oc (ob_a rfl rfl (a_fld (lz0 1 rfl) fld_33_0)) (oc (ob_v rfl rfl (r_loadf 0 rfl (by kernel_rfl) trivial (lz0 1 rfl) (Sub.part 0 rfl rfl) ty_4)) (oc (ob_a rfl rfl (a_fld (lz0 1 rfl) fld_33_1)) (oc (ob_v rfl rfl (r_loadf 2 rfl (by kernel_rfl) trivial (lz0 1 rfl) (Sub.part 1 rfl rfl) ty_31)) (oc (ob_a rfl rfl (a_fld (lz0 0 rfl) fld_33_1)) (oc (ob_v rfl rfl (r_loadf 4 rfl (by kernel_rfl) trivial (lz0 0 rfl) (Sub.part 1 rfl rfl) ty_31)) (oc (ob_v rfl rfl (r_call (xs := [.tmp 35, .tmp 37]) ((sub_c _ _ hq (len_mono (plus_g2 hb1)) (by show val (limbs _) ≤ val (limbs _); rw [val_limbs, val_limbs]; exact plus_g2 hb1)).free (free_mgNA _).va) (.cons (vq 3 rfl) (.cons (vq 5 rfl) .nil)))) (oc (ob_v rfl rfl (r_call (xs := [.tmp 33, .tmp 38]) (signedA_c _ _) (.cons (vq 1 rfl) (.cons (vq 6 rfl) .nil)))) (oc (ob_sto rfl rfl rfl (vq 7 rfl) ty_33 (Eq.trans (b := 2) rfl rfl)) o0))))))))) (by kernel_rfl) (by kernel_rfl) (by kernel_rfl) (by kernel_rfl) (fun a w hst => ?_)
      have hst : St B w0 40 [] [⟨2, 33, ptrH, _⟩, ⟨3, 33, ptrH, _⟩, ⟨4, 33, ptrH, _⟩] a w := hst
      refine thn_normal ?_
      refine wp_ret ?_
      refine ret_cast ?_ (ret_cell rfl hst (List.mem_of_getElem? (i := 2) rfl) ty_33)
      exact plus_e2 hb0 (plus_g2 hb1)

set_option maxRecDepth 100000 in
theorem minus_c (p q : Int) (hp : lz p ≤ 1099511627776) (hq : lz q ≤ 1099511627776) : Cn Try.prog 61 [Zi p, Zi q] (Zi (p - q)) := by
  refine Cn.intro Try.func61 rfl (by kernel_rfl) nq (fun B w0 a hst => ?_)
  have hst : St B w0 19 [(0, Zi p), (1, Zi q)] [] a w0.w := hst
  refine wp_seq ?_
  refine gl (sts := []) (news := [⟨2, 33, ptrH, some 0, _, none⟩, ⟨3, 33, ptrH, some 1, _, none⟩, ⟨4, 33, ptrH, some 2, _, none⟩]) (sp := [.alc 0, .alc 1, .alc 2]) [] hst (oc (ob_box rfl rfl rfl (gq 0 rfl)) (oc (ob_box rfl rfl rfl (gq 1 rfl)) (oc (ob_alc rfl rfl rfl (Str.zero str_int)) o0))) (fun a w hst => ?_)
  have hst : St B w0 19 [] [⟨2, 33, ptrH, _⟩, ⟨3, 33, ptrH, _⟩, ⟨4, 33, ptrH, _⟩] a w := hst
  refine thn_normal ?_
  refine wp_seq ?_
  refine gl (sts := [none, none, some (14, _)]) (news := []) (sp := [.val 5 _, .adr 6 3 (.some 0) True, .val 7 _, .val 8 _, .val 9 _, .adr 10 3 (.some 1) (_ = true), .val 11 (Wh (_ = true) _), .val 12 (Wh (_ = true) _), .val 13 (Wh (_ = true) _), .val 14 _, .adr 15 3 (.some 1) True, .val 16 _, .val 17 _, .val 18 _, .sto 2]) [] hst (oc (ob_v rfl rfl (r_load (lz0 0 rfl) ty_33)) (oc (ob_a rfl rfl (a_fld (lz0 1 rfl) fld_33_0)) (oc (ob_v rfl rfl (r_loadf 1 rfl (by kernel_rfl) trivial (lz0 1 rfl) (Sub.part 0 rfl rfl) ty_4)) (oc (ob_v rfl rfl (r_not (vq 2 rfl))) (oc (ob_v rfl rfl (r_move (vq 3 rfl))) (oc (ob_ag rfl rfl rfl (vq 4 rfl) nq (fun hg => a_fld (lz0 1 rfl) fld_33_1)) (oc (ob_gd rfl rfl rfl (vq 4 rfl) nq (fun hg => r_loadf 5 rfl (by kernel_rfl) hg (lz0 1 rfl) (Sub.part 1 rfl rfl) ty_31)) (oc (ob_gd rfl rfl rfl (vq 4 rfl) nq (fun hg => r_lenm Try.underlying31 (has_wh (vq 6 rfl) hg))) (oc (ob_gd rfl rfl rfl (vq 4 rfl) nq (fun hg => r_gtr (has_wh (vq 7 rfl) hg) has_num)) (oc (ob_v rfl rfl (r_and (vq 4 rfl) (vq 8 rfl))) (oc (ob_a rfl rfl (a_fld (lz0 1 rfl) fld_33_1)) (oc (ob_v rfl rfl (r_loadf 10 rfl (by kernel_rfl) trivial (lz0 1 rfl) (Sub.part 1 rfl rfl) ty_31)) (oc (ob_v rfl rfl (r_build (xs := [(0, .tmp 14), (1, .tmp 16)]) (qs := [(0, _), (1, _)]) str_int (.cons ⟨rfl, (vq 9 rfl), rfl⟩ (.cons ⟨rfl, (vq 11 rfl), rfl⟩ .nil)))) (oc (ob_v rfl rfl (r_call (xs := [.tmp 5, .tmp 17]) ((plus_c p (-q) hp (by rw [lz_neg]; exact hq)).pre (congrArg (fun A => [Zi p, A]) minus_e)) (.cons (vq 0 rfl) (.cons (vq 12 rfl) .nil)))) (oc (ob_sto rfl rfl rfl (vq 13 rfl) ty_33 (Eq.trans (b := 2) rfl rfl)) o0))))))))))))))) (fun a w hst => ?_)
  have hst : St B w0 19 [] [⟨2, 33, ptrH, _⟩, ⟨3, 33, ptrH, _⟩, ⟨4, 33, ptrH, _⟩] a w := hst
  refine thn_normal ?_
  refine wp_ret ?_
  refine ret_cast ?_ (ret_cell rfl hst (List.mem_of_getElem? (i := 2) rfl) ty_33)
  exact congrArg Zi Int.sub_eq_add_neg.symm

set_option maxRecDepth 100000 in
theorem turnedZ_c (p : Int) (hp : lz p ≤ 1099511627776) : Cn Try.prog 69 [Zi p] (Zi (-p)) := by
  refine Cn.intro Try.func69 rfl (by kernel_rfl) nq (fun B w0 a hst => ?_)
  have hst : St B w0 6 [(0, Zi p)] [] a w0.w := hst
  refine wp_seq ?_
  refine gl (sts := []) (news := [⟨1, 33, ptrH, some 0, _, none⟩, ⟨2, 33, ptrH, some 1, _, none⟩]) (sp := [.alc 0, .alc 1]) [] hst (oc (ob_box rfl rfl rfl (gq 0 rfl)) (oc (ob_alc rfl rfl rfl (Str.zero str_int)) o0)) (fun a w hst => ?_)
  have hst : St B w0 6 [] [⟨1, 33, ptrH, _⟩, ⟨2, 33, ptrH, _⟩] a w := hst
  refine thn_normal ?_
  refine wp_seq ?_
  refine go_draw (anc := [[], [], [0, 1], [0, 1, 2]]) (sts := [none, some (3, _)]) (news := []) (sp := [.val 3 _, .val 4 _, .val 5 _, .sto 1]) [] follows_mixed hst (oc (ob_v rfl rfl (r_call (xs := [.const (.int .i64 (0))]) (of_c 0 (by decide) (by decide)) (.cons has_num .nil))) (oc (ob_v rfl rfl (r_load (lz0 0 rfl) ty_33)) (oc (ob_v rfl rfl (r_call (xs := [.tmp 3, .tmp 4]) (minus_c 0 p (by simp [lz, limbs_zero]) hp) (.cons (vq 0 rfl) (.cons (vq 1 rfl) .nil)))) (oc (ob_sto rfl rfl rfl (vq 2 rfl) ty_33 (Eq.trans (b := 2) rfl rfl)) o0)))) (by kernel_rfl) (by kernel_rfl) (by kernel_rfl) (by kernel_rfl) (fun a w hst => ?_)
  have hst : St B w0 6 [] [⟨1, 33, ptrH, _⟩, ⟨2, 33, ptrH, _⟩] a w := hst
  refine thn_normal ?_
  refine wp_ret ?_
  refine ret_cast ?_ (ret_cell rfl hst (List.mem_of_getElem? (i := 1) rfl) ty_33)
  exact congrArg Zi (Int.zero_sub p)

end Go.Proofs.Ytljkepdpoelpkaa
