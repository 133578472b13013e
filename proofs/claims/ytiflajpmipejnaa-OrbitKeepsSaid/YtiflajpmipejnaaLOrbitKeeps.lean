/- OrbitKeeps: for all matrices, rays and numbers the law of chapter 13 on what trips keep answers true. No condition. -/
import Derived.Test.YtiflajpmipejnaaOrbJ
import Derived.Test.YtiflajpmipejnaaRows
import Derived.WalkKit
import Derived.ProofKit
import Derived.OpenShut
import Derived.ShutString
import Derived.ChangeOld
import Derived.Below
namespace Go.Proofs.Ytiflajpmipejnaa
open Go Go.RowKit
namespace LOrbitKeeps
theorem fld_37_0 : Fld Try.prog 37 0 0 4 := ⟨_, _, Try.underlying37, rfl, rfl, by kernel_rfl, by decide⟩
theorem ty_29 : Ty Try.prog 29 4 true := ⟨by kernel_rfl, by kernel_rfl⟩
theorem ty_32 : Ty Try.prog 32 16 true := ⟨by kernel_rfl, by kernel_rfl⟩
theorem ty_37 : Ty Try.prog 37 8 true := ⟨by kernel_rfl, by kernel_rfl⟩
end LOrbitKeeps
open LOrbitKeeps
theorem ok_in {m : RM} {r : RR} (h : ((!true) || (!ftO m r)) = false) : ftO m r = true := by simpa using h
theorem af_04 {m : RM} {r : RR} {k : Nat} (hf : fiO m r = true) (hk : k < 48) : (afO m r (k : Int)).2 = 4 ∨ (∃ X, afO m r (k : Int) = (rrOf X, 0) ∧ X = goQ (powQ (toM m) k) (toY r) ∧ longQ X.y = false ∧ longQ X.u = false) := by
  have h0 : maO (k : Int) = 0 := by rw [maO, if_neg (by omega), if_neg (by omega)]
  rw [afO, if_pos hf, if_pos h0, Int.toNat_natCast, asY, if_pos rfl]
  split
  · exact .inl rfl
  · rename_i h
    refine .inr ⟨_, rfl, rfl, ?_⟩
    simpa using h
theorem to_04 (q : Rat) : (toO q = (rf0, 4) ∧ longQ q = true) ∨ (toO q = (rfOf q, 0) ∧ longQ q = false) := by
  unfold toO
  cases longQ q <;> simp

/-- what is answered, where all is. -/
structure KpOk (m : RM) (r : RR) (k : Nat) (X : YQ) : Prop where
  fi : fiO m r = true
  fx : fiO m (rrOf X) = true
  det : detM (toM m) = 1
  x : X = goQ (powQ (toM m) k) (toY r)
  af : afO m r (k : Int) = (rrOf X, 0)
  q : longQ (foQ (toM m) (toY r)) = false
  lx : longQ X.y = false ∧ longQ X.u = false
theorem kp_04 {m : RM} {r : RR} {k : Nat} (hf : fiO m r = true) (hk : k < 48) : ((((afO m r (k : Int)).2 == 0) || ((afO m r (k : Int)).2 == 4)) && (((foO m r).2 == 0) || ((foO m r).2 == 4))) = true := by
  have h1 : ((afO m r (k : Int)).2 == 0) || ((afO m r (k : Int)).2 == 4) := by
    rcases af_04 hf hk with h | ⟨X, h, _⟩ <;> rw [h] <;> rfl
  have h2 : ((foO m r).2 == 0) || ((foO m r).2 == 4) := by
    rw [foO, if_pos hf]
    rcases to_04 (foQ (toM m) (toY r)) with ⟨h, _⟩ | ⟨h, _⟩ <;> rw [h] <;> rfl
  rw [h1, h2]; rfl
theorem kp_ok {m : RM} {r : RR} {k : Nat} (hft : ftO m r = true) (hk : k < 48) (h : (((afO m r (k : Int)).2 != 0) || ((foO m r).2 != 0)) = false) : ∃ X, KpOk m r k X := by
  have hf := fi_of hft
  rw [Bool.or_eq_false_iff] at h
  rcases af_04 hf hk with h1 | ⟨X, h1, h2, h3⟩
  · rw [h1] at h; exact absurd h.1 (by decide)
  · refine ⟨X, hf, ?_, (okM_q (ft_ok hft).1).2, h2, h1, ?_, h3⟩
    · rw [fiO, (ft_ok hft).1]
      show (true && [rfOf X.y, rfOf X.u].all okX) = true
      simp [okX_of, h3.1, h3.2]
    · have h4 := h.2
      rw [foO, if_pos hf] at h4
      rcases to_04 (foQ (toM m) (toY r)) with ⟨h5, _⟩ | ⟨_, h5⟩
      · rw [h5] at h4; exact absurd h4 (by decide)
      · exact h5
theorem KpOk.form {m : RM} {r : RR} {k : Nat} {X : YQ} (h : KpOk m r k X) : foO m r = (rfOf (foQ (toM m) (toY r)), 0) ∧ foO m (rrOf X) = (rfOf (foQ (toM m) (toY r)), 0) := by
  have e : toO (foQ (toM m) (toY r)) = (rfOf (foQ (toM m) (toY r)), 0) := by rw [toO, if_neg (by rw [h.q]; decide)]
  refine ⟨by rw [foO, if_pos h.fi, e], ?_⟩
  rw [foO, if_pos h.fx, toY_of, h.x, fo_pow h.det, e]
theorem KpOk.stay {m : RM} {r : RR} {k : Nat} {X : YQ} (h : KpOk m r k X) : stO m r = (staQ (toM m) (toY r), 0) ∧ stO m (rrOf X) = (staQ (toM m) (toY r), 0) := by
  refine ⟨by rw [stO, if_pos h.fi], ?_⟩
  rw [stO, if_pos h.fx, toY_of, h.x, sta_pow h.det]

theorem kp_le {m : RM} {r : RR} {k : Nat} {X : YQ} (h : KpOk m r k X) (hs : staQ (toM m) (toY r) = true) : X.y * X.y ≤ boQ (toM m) (toY r) := by
  unfold boQ
  split
  · rename_i h1
    rw [h.x]
    exact sta_le h.det h1 hs k
  · rename_i h1
    have e4 : Rat.divInt (-4) 1 = -4 := by kernel_rfl
    have h2 : 0 < shQ' (toM m) := by
      have h3 := Int.sign_pos_iff.1 (show 0 < (shQ' (toM m)).num.sign by omega)
      exact Rat.lt_iff_le_and_ne.2 ⟨Rat.num_nonneg.1 (by omega), fun e => by rw [← e] at h3; exact absurd h3 (by decide)⟩
    have h3 := bound_ge h.det h2 X
    have h4 : foQ (toM m) X = foQ (toM m) (toY r) := by rw [h.x, fo_pow h.det]
    rw [h4] at h3
    rw [e4]
    exact h3
theorem kp_end {m : RM} {r : RR} {k : Nat} {X : YQ} (h : KpOk m r k X) (hs : staQ (toM m) (toY r) = true) (hb : longQ (boQ (toM m) (toY r)) = false) :
    (((mulF (rfOf X.y) (rfOf X.y)).2 == 4) || (((mulF (rfOf X.y) (rfOf X.y)).2 == 0) && decide (cmF (mulF (rfOf X.y) (rfOf X.y)).1 (rfOf (boQ (toM m) (toY r))) ≤ 0))) = true := by
  have e : mulF (rfOf X.y) (rfOf X.y) = ansF (X.y * X.y) := by
    unfold mulF doF
    rw [okX_of, h.lx.1, toQ_of]
    rfl
  rw [e]
  cases hl : longQ (X.y * X.y) with
  | true => rw [ansF, hl]; rfl
  | false =>
    rw [ansF_ok (longQ_false.1 hl), cmF_of hl hb, decide_eq_true (cm_le.2 (kp_le h hs))]
    rfl

theorem kb_no {m : RM} {r : RR} (h : fiO m r = true) (hs : staQ (toM m) (toY r) = false) : ((boO m r).2 == 8) = true := by rw [boO, if_pos h, if_neg (by rw [hs]; decide)]; rfl
theorem kb_4 {m : RM} {r : RR} (h : fiO m r = true) (hs : staQ (toM m) (toY r) = true) (hb : ((boO m r).2 != 0) = true) : ((boO m r).2 == 4) = true := by
  rw [boO, if_pos h, if_pos hs] at hb ⊢
  rcases to_04 (boQ (toM m) (toY r)) with ⟨e, _⟩ | ⟨e, _⟩
  · rw [e]; rfl
  · rw [e] at hb; simp at hb
theorem kb_0 {m : RM} {r : RR} (h : fiO m r = true) (hs : staQ (toM m) (toY r) = true) (hb : ((boO m r).2 != 0) = false) : boO m r = (rfOf (boQ (toM m) (toY r)), 0) ∧ longQ (boQ (toM m) (toY r)) = false := by
  rw [boO, if_pos h, if_pos hs] at hb ⊢
  rcases to_04 (boQ (toM m) (toY r)) with ⟨e, _⟩ | ⟨e, e2⟩
  · rw [e] at hb; exact absurd hb (by decide)
  · exact ⟨e, e2⟩

set_option maxRecDepth 100000 in
set_option maxHeartbeats 4000000 in
theorem keeps13_w (m : RM) (r : RR) (x : Nat) : Cn Try.prog 6 [(RMA m).va, (RRA r).va, (NumA .u8 (x : Nat)).va] (Bo true) := by
  refine Cn.intro Try.func6 rfl (by kernel_rfl) nq (fun B w0 a hst => ?_)
  have hst : St B w0 137 [(0, (RMA m).va), (1, (RRA r).va), (2, (NumA .u8 (x : Nat)).va)] [] a w0.w := hst
  refine wp_seq ?_
  refine gl (sts := []) (news := [⟨3, 32, ptrH, some 0, _, none⟩, ⟨4, 37, ptrH, some 1, _, none⟩]) (sp := [.alc 0, .alc 1, .val 6 _]) [.g 2, .o 2] hst (oc (ob_box rfl rfl rfl (gq 0 rfl)) (oc (ob_box rfl rfl rfl (gq 1 rfl)) (oc (ob_v rfl rfl (r_assign has_bo)) o0))) (fun a w hst => ?_)
  have hst : St B w0 137 [(2, _), (6, _)] [⟨3, 32, ptrH, _⟩, ⟨4, 37, ptrH, _⟩] a w := hst
  refine thn_normal ?_
  refine wp_seq ?_
  refine wp_seq ?_
  refine gl (sts := [none, none]) (news := []) (sp := [.val 21 _, .val 22 _, .val 23 _, .val 24 (Wh (_ = false) _), .val 25 (Wh (_ = false) _), .val 26 (Wh (_ = false) _), .val 27 (Wh (_ = false) _), .val 28 _]) [.g 0, .g 1, .o 7] hst (oc (ob_v rfl rfl (r_call (xs := []) alive13_c .nil)) (oc (ob_v rfl rfl (r_not (vq 0 rfl))) (oc (ob_v rfl rfl (r_move (vq 1 rfl))) (oc (ob_gd rfl rfl rfl (vq 2 rfl) nq (fun hg => r_load (lz0 0 rfl) ty_32)) (oc (ob_gd rfl rfl rfl (vq 2 rfl) nq (fun hg => r_load (lz0 1 rfl) ty_37)) (oc (ob_gd rfl rfl rfl (vq 2 rfl) nq (fun hg => r_call (xs := [.tmp 24, .tmp 25]) (fits13_c m r) (.cons (has_wh (vq 3 rfl) hg) (.cons (has_wh (vq 4 rfl) hg) .nil)))) (oc (ob_gd rfl rfl rfl (vq 2 rfl) nq (fun hg => r_not (has_wh (vq 5 rfl) hg))) (oc (ob_v rfl rfl (r_or (vq 2 rfl) (vq 6 rfl))) o0)))))))) (fun a w hst => ?_)
  have hst : St B w0 137 [(2, _), (6, _), (28, _)] [⟨3, 32, ptrH, _⟩, ⟨4, 37, ptrH, _⟩] a w := hst
  refine thn_normal ?_
  refine cond_of hst (List.mem_of_getElem? (i := 2) rfl) (fun hb0 => ?_) (fun hb0 => ?_)
  · refine wp_seq ?_
    refine gl (sts := [none, none]) (news := []) (sp := [.val 29 _, .val 6 _]) [.g 0, .o 1] hst (oc (ob_v rfl rfl (r_call (xs := []) alive13_c .nil)) (oc (ob_v rfl rfl (r_assign (vq 0 rfl))) o0)) (fun a w hst => ?_)
    have hst : St B w0 137 [(2, _), (6, _)] [⟨3, 32, ptrH, _⟩, ⟨4, 37, ptrH, _⟩] a w := hst
    refine thn_normal ?_
    refine wp_ret ?_
    refine thn_ret ?_
    refine ret_wk ?_ (ret_tmp rfl hst (List.mem_of_getElem? (i := 1) rfl))
    exact wk_id
  · have hft := ok_in hb0
    refine wp_skip ?_
    refine thn_normal ?_
    refine wp_seq ?_
    refine go_draw (anc := [[], [], [], [2], [0, 1, 2, 3], [0, 1, 2, 3, 4], [0, 1, 2, 3, 4, 5], [0, 1, 2, 3, 4, 5], [], [0, 1, 2, 3, 4, 5, 6, 8], [0, 1, 2, 3, 4, 5, 6, 7, 8, 9]]) (sts := [none, none]) (news := [⟨7, 37, ptrH, some 8, _, some (9, _)⟩]) (sp := [.val 31 _, .val 32 _, .val 33 _, .val 34 _, .val 35 _, .val 30 _, .val 36 _, .val 37 _, .alc 2, .sto 2, .val 8 _]) [.g 1, .o 10] follows_mixed hst (oc (ob_v rfl rfl (r_load (lz0 0 rfl) ty_32)) (oc (ob_v rfl rfl (r_load (lz0 1 rfl) ty_37)) (oc (ob_v rfl rfl (r_move (gq 0 rfl))) (oc (ob_v rfl rfl (r_call (xs := [.tmp 33]) few13_c (.cons (vq 2 rfl) .nil))) (oc (ob_v rfl rfl (r_call (xs := [.tmp 31, .tmp 32, .tmp 34]) (after_c m r ((x % 48 : Nat) : Int)) (.cons (vq 0 rfl) (.cons (vq 1 rfl) (.cons (vq 3 rfl) .nil))))) (oc (ob_v rfl rfl (r_move (vq 4 rfl))) (oc (ob_v rfl rfl (r_ex0 (vq 5 rfl))) (oc (ob_v rfl rfl (r_ex1 (vq 5 rfl))) (oc (ob_alc rfl rfl rfl (Str.zero str_ray)) (oc (ob_sto rfl rfl rfl (vq 6 rfl) ty_37 (Eq.trans (b := 8) rfl rfl)) (oc (ob_v rfl rfl (r_assign (vq 7 rfl))) o0))))))))))) (by kernel_rfl) (by kernel_rfl) (by kernel_rfl) (by kernel_rfl) (fun a w hst => ?_)
    have hst : St B w0 137 [(6, _), (8, _)] [⟨3, 32, ptrH, _⟩, ⟨4, 37, ptrH, _⟩, ⟨7, 37, ptrH, _⟩] a w := hst
    refine thn_normal ?_
    refine wp_seq ?_
    refine gl (sts := [none, none, none]) (news := [⟨9, 29, ptrH, some 6, _, some (7, _)⟩]) (sp := [.val 39 _, .val 40 _, .val 41 _, .val 38 _, .val 42 _, .val 43 _, .alc 3, .sto 3, .val 10 _]) [.g 0, .g 1, .o 8] hst (oc (ob_v rfl rfl (r_load (lz0 0 rfl) ty_32)) (oc (ob_v rfl rfl (r_load (lz0 1 rfl) ty_37)) (oc (ob_v rfl rfl (r_call (xs := [.tmp 39, .tmp 40]) (form_c m r) (.cons (vq 0 rfl) (.cons (vq 1 rfl) .nil)))) (oc (ob_v rfl rfl (r_move (vq 2 rfl))) (oc (ob_v rfl rfl (r_ex0 (vq 3 rfl))) (oc (ob_v rfl rfl (r_ex1 (vq 3 rfl))) (oc (ob_alc rfl rfl rfl (Str.zero str_frac)) (oc (ob_sto rfl rfl rfl (vq 4 rfl) ty_29 (Eq.trans (b := 4) rfl rfl)) (oc (ob_v rfl rfl (r_assign (vq 5 rfl))) o0))))))))) (fun a w hst => ?_)
    have hst : St B w0 137 [(6, _), (8, _), (10, _)] [⟨3, 32, ptrH, _⟩, ⟨4, 37, ptrH, _⟩, ⟨7, 37, ptrH, _⟩, ⟨9, 29, ptrH, _⟩] a w := hst
    refine thn_normal ?_
    refine wp_seq ?_
    refine wp_seq ?_
    refine gl (sts := [none, none, none, none]) (news := []) (sp := [.val 44 _, .val 45 _, .val 46 _, .val 47 (Wh (_ = false) _), .val 48 (Wh (_ = false) _), .val 49 _]) [.g 0, .g 1, .g 2, .o 5] hst (oc (ob_v rfl rfl (r_move (gq 1 rfl))) (oc (ob_v rfl rfl (r_neq (vq 0 rfl) has_num)) (oc (ob_v rfl rfl (r_move (vq 1 rfl))) (oc (ob_gd rfl rfl rfl (vq 2 rfl) nq (fun hg => r_move (gq 2 rfl))) (oc (ob_gd rfl rfl rfl (vq 2 rfl) nq (fun hg => r_neq (has_wh (vq 3 rfl) hg) has_num)) (oc (ob_v rfl rfl (r_or (vq 2 rfl) (vq 4 rfl))) o0)))))) (fun a w hst => ?_)
    have hst : St B w0 137 [(6, _), (8, _), (10, _), (49, _)] [⟨3, 32, ptrH, _⟩, ⟨4, 37, ptrH, _⟩, ⟨7, 37, ptrH, _⟩, ⟨9, 29, ptrH, _⟩] a w := hst
    refine thn_normal ?_
    refine cond_of hst (List.mem_of_getElem? (i := 3) rfl) (fun hb1 => ?_) (fun hb1 => ?_)
    · have hr := kp_04 (fi_of hft) (Nat.mod_lt x (by decide : 0 < 48))
      refine wp_seq ?_
      refine gl (sts := [none, none, none, none]) (news := []) (sp := [.val 50 _, .val 51 _, .val 52 _, .val 53 (Wh (_ = false) _), .val 54 (Wh (_ = false) _), .val 55 _, .val 56 _, .val 57 (Wh (_ = true) _), .val 58 (Wh (_ = true) _), .val 59 (Wh (_ = true) _), .val 60 (Wh ((_ = true) ∧ _ = false) _), .val 61 (Wh ((_ = true) ∧ _ = false) _), .val 62 (Wh (_ = true) _), .val 63 _, .val 6 _]) [.o 14] hst (oc (ob_v rfl rfl (r_move (gq 1 rfl))) (oc (ob_v rfl rfl (r_eql (vq 0 rfl) has_num)) (oc (ob_v rfl rfl (r_move (vq 1 rfl))) (oc (ob_gd rfl rfl rfl (vq 2 rfl) nq (fun hg => r_move (gq 1 rfl))) (oc (ob_gd rfl rfl rfl (vq 2 rfl) nq (fun hg => r_eql (has_wh (vq 3 rfl) hg) has_num)) (oc (ob_v rfl rfl (r_or (vq 2 rfl) (vq 4 rfl))) (oc (ob_v rfl rfl (r_move (vq 5 rfl))) (oc (ob_gd rfl rfl rfl (vq 6 rfl) nq (fun hg => r_move (gq 2 rfl))) (oc (ob_gd rfl rfl rfl (vq 6 rfl) nq (fun hg => r_eql (has_wh (vq 7 rfl) hg) has_num)) (oc (ob_gd rfl rfl rfl (vq 6 rfl) nq (fun hg => r_move (has_wh (vq 8 rfl) hg))) (oc (ob_gd2 rfl rfl rfl (vq 9 rfl) nq (fun hg => r_move (gq 2 rfl))) (oc (ob_gd2 rfl rfl rfl (vq 9 rfl) nq (fun hg => r_eql (has_wh (vq 10 rfl) hg) has_num)) (oc (ob_gd rfl rfl rfl (vq 6 rfl) nq (fun hg => r_or (has_wh (vq 9 rfl) hg) (has_wh2 (vq 11 rfl) hg))) (oc (ob_v rfl rfl (r_and (vq 6 rfl) (vq 12 rfl))) (oc (ob_v rfl rfl (r_assign (vq 13 rfl))) o0))))))))))))))) (fun a w hst => ?_)
      have hst : St B w0 137 [(6, _)] [⟨3, 32, ptrH, _⟩, ⟨4, 37, ptrH, _⟩, ⟨7, 37, ptrH, _⟩, ⟨9, 29, ptrH, _⟩] a w := hst
      refine thn_normal ?_
      refine wp_ret ?_
      refine thn_ret ?_
      refine ret_wk ?_ (ret_tmp rfl hst (List.mem_of_getElem? (i := 0) rfl))
      exact wk_eq (congrArg Bo hr)
    · obtain ⟨X, hk⟩ := kp_ok hft (Nat.mod_lt x (by decide : 0 < 48)) hb1
      have hst := St.cvA (A' := RRA (rrOf X)) hst 2 rfl (congrArg (fun r : RR × Int => RRA r.1) hk.af)
      have hst := St.cvA (A' := RFA (rfOf (foQ (toM m) (toY r)))) hst 3 rfl (congrArg (fun r : RF × Int => RFA r.1) hk.form.1)
      refine wp_skip ?_
      refine thn_normal ?_
      refine wp_seq ?_
      refine gl (sts := [none, none, none, none]) (news := [⟨11, 29, ptrH, some 6, _, some (7, _)⟩]) (sp := [.val 65 _, .val 66 _, .val 67 _, .val 64 _, .val 68 _, .val 69 _, .alc 4, .sto 4, .val 12 _]) [.g 0, .o 8] hst (oc (ob_v rfl rfl (r_load (lz0 0 rfl) ty_32)) (oc (ob_v rfl rfl (r_load (lz0 2 rfl) ty_37)) (oc (ob_v rfl rfl (r_call (xs := [.tmp 65, .tmp 66]) ((form_c m (rrOf X)).post (congrArg FrR hk.form.2)) (.cons (vq 0 rfl) (.cons (vq 1 rfl) .nil)))) (oc (ob_v rfl rfl (r_move (vq 2 rfl))) (oc (ob_v rfl rfl (r_ex0 (vq 3 rfl))) (oc (ob_v rfl rfl (r_ex1 (vq 3 rfl))) (oc (ob_alc rfl rfl rfl (Str.zero str_frac)) (oc (ob_sto rfl rfl rfl (vq 4 rfl) ty_29 (Eq.trans (b := 4) rfl rfl)) (oc (ob_v rfl rfl (r_assign (vq 5 rfl))) o0))))))))) (fun a w hst => ?_)
      have hst : St B w0 137 [(6, _), (12, _)] [⟨3, 32, ptrH, _⟩, ⟨4, 37, ptrH, _⟩, ⟨7, 37, ptrH, _⟩, ⟨9, 29, ptrH, _⟩, ⟨11, 29, ptrH, _⟩] a w := hst
      refine thn_normal ?_
      refine wp_seq ?_
      refine gl (sts := [none, none, none, none, none]) (news := []) (sp := [.val 71 _, .val 72 _, .val 73 _, .val 70 _, .val 74 _, .val 75 _, .val 13 _, .val 14 _]) [.g 0, .g 1, .o 6, .o 7] hst (oc (ob_v rfl rfl (r_load (lz0 0 rfl) ty_32)) (oc (ob_v rfl rfl (r_load (lz0 1 rfl) ty_37)) (oc (ob_v rfl rfl (r_call (xs := [.tmp 71, .tmp 72]) ((stays_c m r).post (by rw [hk.stay.1])) (.cons (vq 0 rfl) (.cons (vq 1 rfl) .nil)))) (oc (ob_v rfl rfl (r_move (vq 2 rfl))) (oc (ob_v rfl rfl (r_ex0 (vq 3 rfl))) (oc (ob_v rfl rfl (r_ex1 (vq 3 rfl))) (oc (ob_v rfl rfl (r_assign (vq 4 rfl))) (oc (ob_v rfl rfl (r_assign (vq 5 rfl))) o0)))))))) (fun a w hst => ?_)
      have hst : St B w0 137 [(6, _), (12, _), (13, _), (14, _)] [⟨3, 32, ptrH, _⟩, ⟨4, 37, ptrH, _⟩, ⟨7, 37, ptrH, _⟩, ⟨9, 29, ptrH, _⟩, ⟨11, 29, ptrH, _⟩] a w := hst
      refine thn_normal ?_
      refine wp_seq ?_
      refine gl (sts := [none, none, none, none, none]) (news := []) (sp := [.val 77 _, .val 78 _, .val 79 _, .val 76 _, .val 80 _, .val 81 _, .val 15 _, .val 16 _]) [.g 0, .g 1, .g 2, .g 3, .o 6, .o 7] hst (oc (ob_v rfl rfl (r_load (lz0 0 rfl) ty_32)) (oc (ob_v rfl rfl (r_load (lz0 2 rfl) ty_37)) (oc (ob_v rfl rfl (r_call (xs := [.tmp 77, .tmp 78]) ((stays_c m (rrOf X)).post (by rw [hk.stay.2])) (.cons (vq 0 rfl) (.cons (vq 1 rfl) .nil)))) (oc (ob_v rfl rfl (r_move (vq 2 rfl))) (oc (ob_v rfl rfl (r_ex0 (vq 3 rfl))) (oc (ob_v rfl rfl (r_ex1 (vq 3 rfl))) (oc (ob_v rfl rfl (r_assign (vq 4 rfl))) (oc (ob_v rfl rfl (r_assign (vq 5 rfl))) o0)))))))) (fun a w hst => ?_)
      have hst : St B w0 137 [(6, _), (12, _), (13, _), (14, _), (15, _), (16, _)] [⟨3, 32, ptrH, _⟩, ⟨4, 37, ptrH, _⟩, ⟨7, 37, ptrH, _⟩, ⟨9, 29, ptrH, _⟩, ⟨11, 29, ptrH, _⟩] a w := hst
      refine thn_normal ?_
      refine wp_seq ?_
      refine wp_seq ?_
      refine gl (sts := [none, none, none, none, none]) (news := []) (sp := [.val 82 _, .val 83 _, .val 84 _, .val 85 (Wh (_ = false) _), .val 86 (Wh (_ = false) _), .val 87 _, .val 88 _, .val 89 (Wh (_ = false) _), .val 90 (Wh (_ = false) _), .val 91 _, .val 92 _, .val 93 (Wh (_ = false) _), .val 94 (Wh (_ = false) _), .val 95 (Wh (_ = false) _), .val 96 _, .val 97 _, .val 98 (Wh (_ = false) _), .val 99 (Wh (_ = false) _), .val 100 (Wh (_ = false) _), .val 101 (Wh (_ = false) _), .val 102 _]) [.g 0, .g 2, .o 20] hst (oc (ob_v rfl rfl (r_move (gq 1 rfl))) (oc (ob_v rfl rfl (r_neq (vq 0 rfl) has_num)) (oc (ob_v rfl rfl (r_move (vq 1 rfl))) (oc (ob_gd rfl rfl rfl (vq 2 rfl) nq (fun hg => r_move (gq 3 rfl))) (oc (ob_gd rfl rfl rfl (vq 2 rfl) nq (fun hg => r_neq (has_wh (vq 3 rfl) hg) has_num)) (oc (ob_v rfl rfl (r_or (vq 2 rfl) (vq 4 rfl))) (oc (ob_v rfl rfl (r_move (vq 5 rfl))) (oc (ob_gd rfl rfl rfl (vq 6 rfl) nq (fun hg => r_move (gq 5 rfl))) (oc (ob_gd rfl rfl rfl (vq 6 rfl) nq (fun hg => r_neq (has_wh (vq 7 rfl) hg) has_num)) (oc (ob_v rfl rfl (r_or (vq 6 rfl) (vq 8 rfl))) (oc (ob_v rfl rfl (r_move (vq 9 rfl))) (oc (ob_gd rfl rfl rfl (vq 10 rfl) nq (fun hg => r_move (gq 2 rfl))) (oc (ob_gd rfl rfl rfl (vq 10 rfl) nq (fun hg => r_move (gq 4 rfl))) (oc (ob_gd rfl rfl rfl (vq 10 rfl) nq (fun hg => r_neqb (by kernel_rfl) (has_wh (vq 11 rfl) hg) (has_wh (vq 12 rfl) hg))) (oc (ob_v rfl rfl (r_or (vq 10 rfl) (vq 13 rfl))) (oc (ob_v rfl rfl (r_move (vq 14 rfl))) (oc (ob_gd rfl rfl rfl (vq 15 rfl) nq (fun hg => r_load (lz0 3 rfl) ty_29)) (oc (ob_gd rfl rfl rfl (vq 15 rfl) nq (fun hg => r_load (lz0 4 rfl) ty_29)) (oc (ob_gd rfl rfl rfl (vq 15 rfl) nq (fun hg => r_call (xs := [.tmp 98, .tmp 99]) (sameFrac_c _ _) (.cons (has_wh (vq 16 rfl) hg) (.cons (has_wh (vq 17 rfl) hg) .nil)))) (oc (ob_gd rfl rfl rfl (vq 15 rfl) nq (fun hg => r_not (has_wh (vq 18 rfl) hg))) (oc (ob_v rfl rfl (r_or (vq 15 rfl) (vq 19 rfl))) o0))))))))))))))))))))) (fun a w hst => ?_)
      have hst : St B w0 137 [(6, _), (13, _), (102, _)] [⟨3, 32, ptrH, _⟩, ⟨4, 37, ptrH, _⟩, ⟨7, 37, ptrH, _⟩, ⟨9, 29, ptrH, _⟩, ⟨11, 29, ptrH, _⟩] a w := hst
      refine thn_normal ?_
      refine cond_of hst (List.mem_of_getElem? (i := 2) rfl) (fun hb2 => ?_) (fun hb2 => ?_)
      · simp at hb2
      · refine wp_skip ?_
        refine thn_normal ?_
        refine wp_seq ?_
        refine gl (sts := [none, none, none, none, none]) (news := [⟨17, 29, ptrH, some 6, _, some (7, _)⟩]) (sp := [.val 104 _, .val 105 _, .val 106 _, .val 103 _, .val 107 _, .val 108 _, .alc 5, .sto 5, .val 18 _]) [.g 0, .g 1, .o 8] hst (oc (ob_v rfl rfl (r_load (lz0 0 rfl) ty_32)) (oc (ob_v rfl rfl (r_load (lz0 1 rfl) ty_37)) (oc (ob_v rfl rfl (r_call (xs := [.tmp 104, .tmp 105]) (bound_c m r) (.cons (vq 0 rfl) (.cons (vq 1 rfl) .nil)))) (oc (ob_v rfl rfl (r_move (vq 2 rfl))) (oc (ob_v rfl rfl (r_ex0 (vq 3 rfl))) (oc (ob_v rfl rfl (r_ex1 (vq 3 rfl))) (oc (ob_alc rfl rfl rfl (Str.zero str_frac)) (oc (ob_sto rfl rfl rfl (vq 4 rfl) ty_29 (Eq.trans (b := 4) rfl rfl)) (oc (ob_v rfl rfl (r_assign (vq 5 rfl))) o0))))))))) (fun a w hst => ?_)
        have hst : St B w0 137 [(6, _), (13, _), (18, _)] [⟨3, 32, ptrH, _⟩, ⟨4, 37, ptrH, _⟩, ⟨7, 37, ptrH, _⟩, ⟨9, 29, ptrH, _⟩, ⟨11, 29, ptrH, _⟩, ⟨17, 29, ptrH, _⟩] a w := hst
        refine thn_normal ?_
        refine wp_seq ?_
        refine wp_seq ?_
        refine gl (sts := [none, none, none, none, none, none]) (news := []) (sp := [.val 109 _, .val 110 _]) [.g 0, .g 2, .o 1] hst (oc (ob_v rfl rfl (r_move (gq 1 rfl))) (oc (ob_v rfl rfl (r_not (vq 0 rfl))) o0)) (fun a w hst => ?_)
        have hst : St B w0 137 [(6, _), (18, _), (110, _)] [⟨3, 32, ptrH, _⟩, ⟨4, 37, ptrH, _⟩, ⟨7, 37, ptrH, _⟩, ⟨9, 29, ptrH, _⟩, ⟨11, 29, ptrH, _⟩, ⟨17, 29, ptrH, _⟩] a w := hst
        refine thn_normal ?_
        refine cond_of hst (List.mem_of_getElem? (i := 2) rfl) (fun hb3 => ?_) (fun hb3 => ?_)
        · have hs : staQ (toM m) (toY r) = false := by simpa using hb3
          have hr := kb_no hk.fi hs
          refine wp_seq ?_
          refine gl (sts := [none, none, none, none, none, none]) (news := []) (sp := [.val 111 _, .val 112 _, .val 6 _]) [.g 1, .o 2] hst (oc (ob_v rfl rfl (r_move (gq 1 rfl))) (oc (ob_v rfl rfl (r_eql (vq 0 rfl) has_num)) (oc (ob_v rfl rfl (r_assign (vq 1 rfl))) o0))) (fun a w hst => ?_)
          have hst : St B w0 137 [(18, _), (6, _)] [⟨3, 32, ptrH, _⟩, ⟨4, 37, ptrH, _⟩, ⟨7, 37, ptrH, _⟩, ⟨9, 29, ptrH, _⟩, ⟨11, 29, ptrH, _⟩, ⟨17, 29, ptrH, _⟩] a w := hst
          refine thn_normal ?_
          refine wp_ret ?_
          refine thn_ret ?_
          refine ret_wk ?_ (ret_tmp rfl hst (List.mem_of_getElem? (i := 1) rfl))
          exact wk_eq (congrArg Bo hr)
        · have hs : staQ (toM m) (toY r) = true := by simpa using hb3
          refine wp_skip ?_
          refine thn_normal ?_
          refine wp_seq ?_
          refine wp_seq ?_
          refine gl (sts := [none, none, none, none, none, none]) (news := []) (sp := [.val 113 _, .val 114 _]) [.g 0, .g 1, .o 1] hst (oc (ob_v rfl rfl (r_move (gq 1 rfl))) (oc (ob_v rfl rfl (r_neq (vq 0 rfl) has_num)) o0)) (fun a w hst => ?_)
          have hst : St B w0 137 [(6, _), (18, _), (114, _)] [⟨3, 32, ptrH, _⟩, ⟨4, 37, ptrH, _⟩, ⟨7, 37, ptrH, _⟩, ⟨9, 29, ptrH, _⟩, ⟨11, 29, ptrH, _⟩, ⟨17, 29, ptrH, _⟩] a w := hst
          refine thn_normal ?_
          refine cond_of hst (List.mem_of_getElem? (i := 2) rfl) (fun hb4 => ?_) (fun hb4 => ?_)
          · have hr := kb_4 hk.fi hs hb4
            refine wp_seq ?_
            refine gl (sts := [none, none, none, none, none, none]) (news := []) (sp := [.val 115 _, .val 116 _, .val 6 _]) [.o 2] hst (oc (ob_v rfl rfl (r_move (gq 1 rfl))) (oc (ob_v rfl rfl (r_eql (vq 0 rfl) has_num)) (oc (ob_v rfl rfl (r_assign (vq 1 rfl))) o0))) (fun a w hst => ?_)
            have hst : St B w0 137 [(6, _)] [⟨3, 32, ptrH, _⟩, ⟨4, 37, ptrH, _⟩, ⟨7, 37, ptrH, _⟩, ⟨9, 29, ptrH, _⟩, ⟨11, 29, ptrH, _⟩, ⟨17, 29, ptrH, _⟩] a w := hst
            refine thn_normal ?_
            refine wp_ret ?_
            refine thn_ret ?_
            refine ret_wk ?_ (ret_tmp rfl hst (List.mem_of_getElem? (i := 0) rfl))
            exact wk_eq (congrArg Bo hr)
          · obtain ⟨z1, z2⟩ := kb_0 hk.fi hs hb4
            have hst := St.cvA (A' := RFA (rfOf (boQ (toM m) (toY r)))) hst 5 rfl (congrArg (fun r : RF × Int => RFA r.1) z1)
            have hr := kp_end hk hs z2
            refine wp_skip ?_
            refine thn_normal ?_
            refine wp_seq ?_
            refine gl (sts := [none, none, none, none, none, none]) (news := [⟨19, 29, ptrH, some 8, _, some (9, _)⟩]) (sp := [.adr 118 7 (.some 0) True, .val 119 _, .adr 120 7 (.some 0) True, .val 121 _, .val 122 _, .val 117 _, .val 123 _, .val 124 _, .alc 6, .sto 6, .val 20 _]) [.g 0, .o 10] hst (oc (ob_a rfl rfl (a_fld (lz0 2 rfl) fld_37_0)) (oc (ob_v rfl rfl (r_loadf 0 rfl (by kernel_rfl) trivial (lz0 2 rfl) (Sub.part 0 rfl rfl) ty_29)) (oc (ob_a rfl rfl (a_fld (lz0 2 rfl) fld_37_0)) (oc (ob_v rfl rfl (r_loadf 2 rfl (by kernel_rfl) trivial (lz0 2 rfl) (Sub.part 0 rfl rfl) ty_29)) (oc (ob_v rfl rfl (r_call (xs := [.tmp 119, .tmp 121]) (mul_c _ _) (.cons (vq 1 rfl) (.cons (vq 3 rfl) .nil)))) (oc (ob_v rfl rfl (r_move (vq 4 rfl))) (oc (ob_v rfl rfl (r_ex0 (vq 5 rfl))) (oc (ob_v rfl rfl (r_ex1 (vq 5 rfl))) (oc (ob_alc rfl rfl rfl (Str.zero str_frac)) (oc (ob_sto rfl rfl rfl (vq 6 rfl) ty_29 (Eq.trans (b := 4) rfl rfl)) (oc (ob_v rfl rfl (r_assign (vq 7 rfl))) o0))))))))))) (fun a w hst => ?_)
            have hst : St B w0 137 [(6, _), (20, _)] [⟨3, 32, ptrH, _⟩, ⟨4, 37, ptrH, _⟩, ⟨7, 37, ptrH, _⟩, ⟨9, 29, ptrH, _⟩, ⟨11, 29, ptrH, _⟩, ⟨17, 29, ptrH, _⟩, ⟨19, 29, ptrH, _⟩] a w := hst
            refine thn_normal ?_
            refine wp_seq ?_
            refine gl (sts := [none, none, none, none, none, none, none]) (news := []) (sp := [.val 125 _, .val 126 _, .val 127 _, .val 128 (Wh (_ = false) _), .val 129 (Wh (_ = false) _), .val 130 (Wh (_ = false) _), .val 131 (Wh ((_ = false) ∧ _ = true) _), .val 132 (Wh ((_ = false) ∧ _ = true) _), .val 133 (Wh ((_ = false) ∧ _ = true) _), .val 134 (Wh ((_ = false) ∧ _ = true) _), .val 135 (Wh (_ = false) _), .val 136 _, .val 6 _]) [.o 12] hst (oc (ob_v rfl rfl (r_move (gq 1 rfl))) (oc (ob_v rfl rfl (r_eql (vq 0 rfl) has_num)) (oc (ob_v rfl rfl (r_move (vq 1 rfl))) (oc (ob_gd rfl rfl rfl (vq 2 rfl) nq (fun hg => r_move (gq 1 rfl))) (oc (ob_gd rfl rfl rfl (vq 2 rfl) nq (fun hg => r_eql (has_wh (vq 3 rfl) hg) has_num)) (oc (ob_gd rfl rfl rfl (vq 2 rfl) nq (fun hg => r_move (has_wh (vq 4 rfl) hg))) (oc (ob_gd2 rfl rfl rfl (vq 5 rfl) nq (fun hg => r_load (lz0 6 rfl) ty_29)) (oc (ob_gd2 rfl rfl rfl (vq 5 rfl) nq (fun hg => r_load (lz0 5 rfl) ty_29)) (oc (ob_gd2 rfl rfl rfl (vq 5 rfl) nq (fun hg => r_call (xs := [.tmp 131, .tmp 132]) (fracCmp_c _ _) (.cons (has_wh (vq 6 rfl) hg) (.cons (has_wh (vq 7 rfl) hg) .nil)))) (oc (ob_gd2 rfl rfl rfl (vq 5 rfl) nq (fun hg => r_leq (has_wh (vq 8 rfl) hg) has_num)) (oc (ob_gd rfl rfl rfl (vq 2 rfl) nq (fun hg => r_and (has_wh (vq 5 rfl) hg) (has_wh2 (vq 9 rfl) hg))) (oc (ob_v rfl rfl (r_or (vq 2 rfl) (vq 10 rfl))) (oc (ob_v rfl rfl (r_assign (vq 11 rfl))) o0))))))))))))) (fun a w hst => ?_)
            have hst : St B w0 137 [(6, _)] [⟨3, 32, ptrH, _⟩, ⟨4, 37, ptrH, _⟩, ⟨7, 37, ptrH, _⟩, ⟨9, 29, ptrH, _⟩, ⟨11, 29, ptrH, _⟩, ⟨17, 29, ptrH, _⟩, ⟨19, 29, ptrH, _⟩] a w := hst
            refine thn_normal ?_
            refine wp_ret ?_
            refine ret_wk ?_ (ret_tmp rfl hst (List.mem_of_getElem? (i := 0) rfl))
            exact wk_eq (congrArg Bo hr)

theorem okWide_u8 {P : Program} {W : World} {r : Reach} {base t : Nat} {v : Value} (ht : P.underlying t = some (.int .u8)) (h : Value.okWide P W r base t v) : ∃ n : Nat, v = .int .u8 (n : Int) := by
  obtain ⟨n, rfl⟩ := Go.WideShapes.okWide_int ht h
  have h0 : 0 ≤ n := by
    simp [Value.okWide, ht, Cell.okWide, Cell.ok, IntKind.has] at h
    have e0 : IntKind.u8.min = 0 := by decide
    omega
  exact ⟨n.toNat, by rw [Int.toNat_of_nonneg h0]⟩

open Go.ChangeShapes Go.WideShapes Go.ChangeAt
open Go.ChangeMaps (open_string shut_string)
set_option linter.unusedVariables false
theorem own : ownKnob Try.prog.godebug = none := by kernel_rfl
theorem laidOut : laidOutB Try.prog = true := by kernel_rfl
set_option maxRecDepth 100000 in
theorem lifted (os : Os) (started : os.Started) (H : Type) (enc : TypeId × Value → H) :
    ReturnsInHanded {} Try.checked os 6 .any (Rows.orbitKeepsSpec.pre6 enc Try.prog Try.f6 Rows.orbitKeepsRow.domain false) (Rows.orbitKeepsSpec.post enc Try.prog Try.f6 false true false false) := by
  refine returnsInHanded_of_change (C := Try.checked) own started (by kernel_rfl) Try.func6
    (ChangeSpec.witness6 (enc := enc) (C := Try.checked) false ⟨#[], #[.agg #[.bool false, .slice none 0 0, .bool false, .slice none 0 0, .bool false, .slice none 0 0, .bool false, .slice none 0 0, .bool false, .slice none 0 0, .bool false, .slice none 0 0, .bool false, .slice none 0 0, .bool false, .slice none 0 0], .agg #[.bool false, .slice none 0 0, .bool false, .slice none 0 0, .bool false, .slice none 0 0, .bool false, .slice none 0 0], .int .u8 0], []⟩ 8 (by kernel_rfl) (by kernel_rfl) (by kernel_rfl) (by kernel_rfl)) ?_
  intro W base args ds gs before hval0 hW hcnd _
  have hval : ∀ (j : Nat) t v, Try.f6.params[j]? = some t → args[j]? = some v → Value.okWide Try.prog W .any base t v := hval0
  have hW' := hW
  obtain ⟨p, q, hA0, hV, rfl, hfz, hnd⟩ := hW
  have hA : DataW.TrodAll enc Try.prog W 0 (fun _ => true) true Try.f6.params.toList args.toList ds p := hA0
  rw [Try.params6] at hA hval
  obtain ⟨v0, vs0, d0, ds0, p0, q0, hargs, rfl, rfl, h0, r0⟩ := trodAll_cons hA
  obtain ⟨v1, vs1, d1, ds1, p1, q1, rfl, rfl, rfl, h1, r1⟩ := trodAll_cons r0
  obtain ⟨v2, vs2, d2, ds2, p2, q2, rfl, rfl, rfl, h2, r2⟩ := trodAll_cons r1
  obtain ⟨rfl, rfl, rfl⟩ := trodAll_nil r2
  obtain rfl : args = #[v0, v1, v2] := by cases args; simp_all
  obtain ⟨rfl, rfl⟩ := trodVars_none hV
  have k0 := h0
  have lt0 : ∀ x ∈ p0, x.block < W.heap.size := by obtain ⟨m, hm⟩ := k0; exact DataW.trod_lt m _ _ _ hm
  have k1 := h1
  have lt1 : ∀ x ∈ p1, x.block < W.heap.size := by obtain ⟨m, hm⟩ := k1; exact DataW.trod_lt m _ _ _ hm
  have k2 := h2
  have lt2 : ∀ x ∈ p2, x.block < W.heap.size := by obtain ⟨m, hm⟩ := k2; exact DataW.trod_lt m _ _ _ hm
  obtain ⟨x0, a0⟩ := arg_of (A := RMA) (fun _ => rfl) Try.underlying32 rd_rm (hval 0 32 v0 rfl rfl) h0
  obtain ⟨x1, a1⟩ := arg_of (A := RRA) (fun _ => rfl) Try.underlying37 rd_rr (hval 1 37 v1 rfl rfl) h1
  obtain ⟨x2, ex2⟩ := okWide_u8 Try.underlying5 (hval 2 5 v2 rfl rfl)
  have a2 : (NumA .u8 (x2 : Nat)).va.p W.heap.size v2 W := by rw [ex2]; exact val_num _ _ _ _
  clear hA0 hval0
  refine ((keeps13_w x0 x1 x2).2 W.heap.size W [v0, v1, v2] (Nat.le_refl _) (.cons a0 (.cons a1 (.cons a2 .nil)))).mono fun e W' ⟨v, he, hv, bel⟩ => ?_
  have hv' := bo_val hv
  subst hv' he
  exact ⟨_, rfl, _, _, _, [], _, [], hW', trodAll_mk1 (shut_bool Try.underlying4 _), (trodAll_cons_mk (Below.trod laidOut (by kernel_rfl) (of_decide_eq_true (by kernel_rfl)) k0 bel lt0) (trodAll_cons_mk (Below.trod laidOut (by kernel_rfl) (of_decide_eq_true (by kernel_rfl)) k1 bel lt1) (trodAll_cons_mk (Below.trod laidOut (by kernel_rfl) (of_decide_eq_true (by kernel_rfl)) k2 bel lt2) trodAll_mk0))), rfl, bel.frame _, fun h => by cases h⟩
theorem over : Rows.orbitKeepsRow.holds Try.pinned (OpenSpec.ofChange Rows.orbitKeepsSpec) :=
  OpenClaim.holds_of_wide 6 Try.f6 rfl rfl rfl rfl rfl rfl rfl ⟨rfl, rfl, rfl, rfl, rfl⟩ rfl rfl rfl rfl rfl (by kernel_rfl) Try.func6 (by kernel_rfl)
    (of_decide_eq_true (by kernel_rfl)) (by unfold Func.isWrapper; rw [if_neg (of_decide_eq_false (by kernel_rfl))]; exact ⟨rfl, rfl⟩)
    (fun os started H enc _ => lifted os started H enc)
theorem provedOrbitKeeps : Rows.OrbitKeepsSaid := over
#print axioms provedOrbitKeeps

end Go.Proofs.Ytiflajpmipejnaa
