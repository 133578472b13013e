/- OrbitPowers: for all matrices, rays and numbers the law of chapter 13 on powers answers true. No condition. -/
import Derived.Test.YtiflajpmipejnaaGreatOrbM
import Derived.Test.YtiflajpmipejnaaGreatRows
import Derived.WalkKit
import Derived.ProofKit
import Derived.OpenShut
import Derived.ShutString
import Derived.ChangeOld
import Derived.Below
namespace Go.Proofs.YtiflajpmipejnaaGreat
open Go Go.RowKit
namespace LOrbitPowers
theorem ty_29 : Ty Tryz.prog 29 8 true := ⟨by kernel_rfl, by kernel_rfl⟩
theorem ty_38 : Ty Tryz.prog 38 16 true := ⟨by kernel_rfl, by kernel_rfl⟩
end LOrbitPowers
open LOrbitPowers
theorem okWide_u16 {P : Program} {W : World} {r : Reach} {base t : Nat} {v : Value} (ht : P.underlying t = some (.int .u16)) (h : Value.okWide P W r base t v) : ∃ n : Nat, v = .int .u16 (n : Int) := by
  obtain ⟨n, rfl⟩ := Go.WideShapes.okWide_int ht h
  have h0 : 0 ≤ n := by
    simp [Value.okWide, ht, Cell.okWide, Cell.ok, IntKind.has] at h
    have e0 : IntKind.u16.min = 0 := by decide
    omega
  exact ⟨n.toNat, by rw [Int.toNat_of_nonneg h0]⟩
theorem wu8' {x : Nat} : IntKind.u8.wrap (x : Int) = ((x % 256 : Nat) : Int) := by simp [IntKind.wrap, IntKind.bits, IntKind.signed]
theorem pp_in {m : RM} {r : RR} (h : ((!true) || (!ftO m r)) = false) : ftO m r = true := by simpa using h
theorem po_04 {m : RM} {k : Nat} (hf : okM m = true) (hk : k ≤ 4096) : (((poO m (k : Int)).2 == 0) || ((poO m (k : Int)).2 == 4)) = true := by
  rcases po_at hf hk with h | ⟨h, _⟩ <;> rw [h] <;> rfl
theorem ap_04 {m : RM} {r : RR} {k : Nat} (hf : fiO m r = true) (hk : k ≤ 4096) : (((afO m r (k : Int)).2 == 0) || ((afO m r (k : Int)).2 == 4)) = true := by
  rcases af_at hf hk with h | ⟨h, _⟩ <;> rw [h] <;> rfl
theorem po_0 {m : RM} {k : Nat} (hf : okM m = true) (hk : k ≤ 4096) (h : ((poO m (k : Int)).2 != 0) = false) : poO m (k : Int) = (rmOf (powQ (toM m) k), 0) ∧ [(powQ (toM m) k).a, (powQ (toM m) k).b, (powQ (toM m) k).c, (powQ (toM m) k).d].any longQ = false := by
  rcases po_at hf hk with e | h2
  · rw [e] at h; exact absurd h (by decide)
  · exact h2
theorem ap_0 {m : RM} {r : RR} {k : Nat} (hf : fiO m r = true) (hk : k ≤ 4096) (h : ((afO m r (k : Int)).2 != 0) = false) : afO m r (k : Int) = (rrOf (goQ (powQ (toM m) k) (toY r)), 0) ∧ longQ (goQ (powQ (toM m) k) (toY r)).y = false ∧ longQ (goQ (powQ (toM m) k) (toY r)).u = false := by
  rcases af_at hf hk with e | h2
  · rw [e] at h; exact absurd h (by decide)
  · exact h2
theorem toM_of' (m : MQ) : toM (rmOf m) = m := by
  cases m
  unfold toM rmOf
  simp only [toQ_of]
theorem kM_ok {m : RM} (hm : okM m = true) : kM 0 m = 0 := by unfold kM; rw [hm]; rfl
/-- what is answered, where all is. -/
structure PpOk (m : RM) (r : RR) (j k : Nat) : Prop where
  ok : okM m = true
  rr : [r.y, r.u].all okX = true
  det : detM (toM m) = 1
  lj : [(powQ (toM m) j).a, (powQ (toM m) j).b, (powQ (toM m) j).c, (powQ (toM m) j).d].any longQ = false
  lk : [(powQ (toM m) k).a, (powQ (toM m) k).b, (powQ (toM m) k).c, (powQ (toM m) k).d].any longQ = false
  ljk : [(powQ (toM m) (j + k)).a, (powQ (toM m) (j + k)).b, (powQ (toM m) (j + k)).c, (powQ (toM m) (j + k)).d].any longQ = false
  ly : [(goQ (powQ (toM m) (j + k)) (toY r)).y, (goQ (powQ (toM m) (j + k)) (toY r)).u].any longQ = false
section
variable {m : RM} {r : RR} {j k : Nat}
theorem PpOk.okj (h : PpOk m r j k) : okM (rmOf (powQ (toM m) j)) = true := okM_all h.lj (det_pow h.det j)
theorem PpOk.okk (h : PpOk m r j k) : okM (rmOf (powQ (toM m) k)) = true := okM_all h.lk (det_pow h.det k)
theorem PpOk.okjk (h : PpOk m r j k) : okM (rmOf (powQ (toM m) (j + k))) = true := okM_all h.ljk (det_pow h.det (j + k))
theorem PpOk.mul (h : PpOk m r j k) : mulM (rmOf (powQ (toM m) j)) (rmOf (powQ (toM m) k)) = (rmOf (powQ (toM m) (j + k)), 0) := by
  unfold mulM
  rw [kM_ok h.okj, kM_ok h.okk, toM_of', toM_of', pow_add]
  exact po_ok h.ljk
theorem PpOk.go (h : PpOk m r j k) : goF (rmOf (powQ (toM m) (j + k))) r = (rrOf (goQ (powQ (toM m) (j + k)) (toY r)), 0) := by
  unfold goF
  have e : kR 0 r = 0 := by unfold kR; rw [h.rr]; rfl
  rw [kM_ok h.okjk, e, toM_of']
  exact af_ok h.ly
theorem PpOk.one (h : PpOk m r j k) : poO m 1 = (m, 0) := by
  have hl : [(toM m).a, (toM m).b, (toM m).c, (toM m).d].any longQ = false := by
    have := okM_rm h.ok
    have h2 := h.ok
    rw [this] at h2
    have h3 := (okM_q h2).1
    simp only [rmOf, List.all_cons, List.all_nil, Bool.and_true, Bool.and_eq_true, okX_of, Bool.not_eq_true'] at h3
    simp [h3.1, h3.2.1, h3.2.2.1, h3.2.2.2]
  show (if okM m = true then (if maO 1 = 0 then asM 0 (powQ (toM m) 1) else (rm0, maO 1)) else (rm0, 1)) = _
  rw [if_pos h.ok, if_pos (by decide), pow_one', po_ok hl, ← okM_rm h.ok]
theorem PpOk.none (h : PpOk m r j k) : poO m 0 = (rmOf ⟨1, 0, 0, 1⟩, 0) := by
  show (if okM m = true then (if maO 0 = 0 then asM 0 ⟨1, 0, 0, 1⟩ else (rm0, maO 0)) else (rm0, 1)) = _
  rw [if_pos h.ok, if_pos (by decide)]
  exact po_ok (by kernel_rfl)
end
theorem pp_ok {m : RM} {r : RR} {j k : Nat} (hft : ftO m r = true) (hj : j ≤ 48) (hk : k ≤ 48) (h : (((((poO m (j : Int)).2 != 0) || ((poO m (k : Int)).2 != 0)) || ((poO m ((j + k : Nat) : Int)).2 != 0)) || ((afO m r ((j + k : Nat) : Int)).2 != 0)) = false) :
    PpOk m r j k ∧ poO m (j : Int) = (rmOf (powQ (toM m) j), 0) ∧ poO m (k : Int) = (rmOf (powQ (toM m) k), 0) ∧ poO m ((j + k : Nat) : Int) = (rmOf (powQ (toM m) (j + k)), 0) ∧ afO m r ((j + k : Nat) : Int) = (rrOf (goQ (powQ (toM m) (j + k)) (toY r)), 0) := by
  simp only [Bool.or_eq_false_iff] at h
  obtain ⟨⟨⟨h1, h2⟩, h3⟩, h4⟩ := h
  obtain ⟨hok, hr⟩ := ft_ok hft
  obtain ⟨e1, l1⟩ := po_0 hok (by omega) h1
  obtain ⟨e2, l2⟩ := po_0 hok (by omega) h2
  obtain ⟨e3, l3⟩ := po_0 hok (by omega) h3
  obtain ⟨e4, l4, l5⟩ := ap_0 (fi_of hft) (by omega) h4
  exact ⟨⟨hok, hr, (okM_q hok).2, l1, l2, l3, by simp [l4, l5]⟩, e1, e2, e3, e4⟩
theorem one_l : Cn Tryz.prog 18 [] ((RMA (rmOf ⟨1, 0, 0, 1⟩)).va) := one09_q.wkp qmA.va

set_option maxRecDepth 100000 in
set_option maxHeartbeats 4000000 in
theorem powers13_w (m : RM) (r : RR) (x : Nat) : Cn Tryz.prog 4 [(RMA m).va, (RRA r).va, (NumA .u16 (x : Nat)).va] (Bo true) := by
  refine Cn.intro Tryz.func4 rfl (by kernel_rfl) nq (fun B w0 a hst => ?_)
  have hst : St B w0 175 [(0, (RMA m).va), (1, (RRA r).va), (2, (NumA .u16 (x : Nat)).va)] [] a w0.w := hst
  refine wp_seq ?_
  refine gl (sts := []) (news := [⟨3, 38, ptrH, some 0, _, none⟩, ⟨4, 29, ptrH, some 1, _, none⟩]) (sp := [.alc 0, .alc 1, .val 6 _]) [.g 2, .o 2] hst (oc (ob_box rfl rfl rfl (gq 0 rfl)) (oc (ob_box rfl rfl rfl (gq 1 rfl)) (oc (ob_v rfl rfl (r_assign has_bo)) o0))) (fun a w hst => ?_)
  have hst : St B w0 175 [(2, _), (6, _)] [⟨3, 38, ptrH, _⟩, ⟨4, 29, ptrH, _⟩] a w := hst
  refine thn_normal ?_
  refine wp_seq ?_
  refine wp_seq ?_
  refine gl (sts := [none, none]) (news := []) (sp := [.val 25 _, .val 26 _, .val 27 _, .val 28 (Wh (_ = false) _), .val 29 (Wh (_ = false) _), .val 30 (Wh (_ = false) _), .val 31 (Wh (_ = false) _), .val 32 _]) [.g 0, .g 1, .o 7] hst (oc (ob_v rfl rfl (r_call (xs := []) alive13_c .nil)) (oc (ob_v rfl rfl (r_not (vq 0 rfl))) (oc (ob_v rfl rfl (r_move (vq 1 rfl))) (oc (ob_gd rfl rfl rfl (vq 2 rfl) nq (fun hg => r_load (lz0 0 rfl) ty_38)) (oc (ob_gd rfl rfl rfl (vq 2 rfl) nq (fun hg => r_load (lz0 1 rfl) ty_29)) (oc (ob_gd rfl rfl rfl (vq 2 rfl) nq (fun hg => r_call (xs := [.tmp 28, .tmp 29]) (fits13_c m r) (.cons (has_wh (vq 3 rfl) hg) (.cons (has_wh (vq 4 rfl) hg) .nil)))) (oc (ob_gd rfl rfl rfl (vq 2 rfl) nq (fun hg => r_not (has_wh (vq 5 rfl) hg))) (oc (ob_v rfl rfl (r_or (vq 2 rfl) (vq 6 rfl))) o0)))))))) (fun a w hst => ?_)
  have hst : St B w0 175 [(2, _), (6, _), (32, _)] [⟨3, 38, ptrH, _⟩, ⟨4, 29, ptrH, _⟩] a w := hst
  refine thn_normal ?_
  refine cond_of hst (List.mem_of_getElem? (i := 2) rfl) (fun hb0 => ?_) (fun hb0 => ?_)
  · refine wp_seq ?_
    refine gl (sts := [none, none]) (news := []) (sp := [.val 33 _, .val 6 _]) [.g 0, .o 1] hst (oc (ob_v rfl rfl (r_call (xs := []) alive13_c .nil)) (oc (ob_v rfl rfl (r_assign (vq 0 rfl))) o0)) (fun a w hst => ?_)
    have hst : St B w0 175 [(2, _), (6, _)] [⟨3, 38, ptrH, _⟩, ⟨4, 29, ptrH, _⟩] a w := hst
    refine thn_normal ?_
    refine wp_ret ?_
    refine thn_ret ?_
    refine ret_wk ?_ (ret_tmp rfl hst (List.mem_of_getElem? (i := 1) rfl))
    exact wk_id
  · have hft := pp_in hb0
    have hok := (ft_ok hft).1
    have hJ : x % 256 % 48 ≤ 48 := by omega
    have hK : x / 2 ^ 8 % 256 % 48 ≤ 48 := by omega
    refine wp_skip ?_
    refine thn_normal ?_
    refine wp_seq ?_
    refine gl (sts := [none, none]) (news := []) (sp := [.val 34 _, .val 35 _, .val 36 _, .val 37 _, .val 38 _, .val 39 _, .val 40 _, .val 7 _, .val 8 _]) [.g 1, .o 7, .o 8] hst (oc (ob_v rfl rfl (r_move (gq 0 rfl))) (oc (ob_v rfl rfl (r_convk .u8 (by kernel_rfl) (by kernel_rfl) (vq 0 rfl) (wu8'))) (oc (ob_v rfl rfl (r_call (xs := [.tmp 35]) (few13_c (x := x % 256)) (.cons (vq 1 rfl) .nil))) (oc (ob_v rfl rfl (r_move (gq 0 rfl))) (oc (ob_v rfl rfl (r_shr (vq 3 rfl) (has_nat 8 rfl) (by decide) (nshr))) (oc (ob_v rfl rfl (r_convk .u8 (by kernel_rfl) (by kernel_rfl) (vq 4 rfl) (wu8'))) (oc (ob_v rfl rfl (r_call (xs := [.tmp 39]) (few13_c (x := x / 2 ^ 8 % 256)) (.cons (vq 5 rfl) .nil))) (oc (ob_v rfl rfl (r_assign (vq 2 rfl))) (oc (ob_v rfl rfl (r_assign (vq 6 rfl))) o0))))))))) (fun a w hst => ?_)
    have hst : St B w0 175 [(6, _), (7, _), (8, _)] [⟨3, 38, ptrH, _⟩, ⟨4, 29, ptrH, _⟩] a w := hst
    refine thn_normal ?_
    refine wp_seq ?_
    refine gl (sts := [none, none]) (news := [⟨9, 38, ptrH, some 6, _, some (7, _)⟩]) (sp := [.val 42 _, .val 43 _, .val 44 _, .val 41 _, .val 45 _, .val 46 _, .alc 2, .sto 2, .val 10 _]) [.g 0, .g 1, .g 2, .o 8] hst (oc (ob_v rfl rfl (r_load (lz0 0 rfl) ty_38)) (oc (ob_v rfl rfl (r_move (gq 1 rfl))) (oc (ob_v rfl rfl (r_call (xs := [.tmp 42, .tmp 43]) (power13_c m ((x % 256 % 48 : Nat) : Int)) (.cons (vq 0 rfl) (.cons (vq 1 rfl) .nil)))) (oc (ob_v rfl rfl (r_move (vq 2 rfl))) (oc (ob_v rfl rfl (r_ex0 (vq 3 rfl))) (oc (ob_v rfl rfl (r_ex1 (vq 3 rfl))) (oc (ob_alc rfl rfl rfl (Str.zero str_matrix)) (oc (ob_sto rfl rfl rfl (vq 4 rfl) ty_38 (Eq.trans (b := 16) rfl rfl)) (oc (ob_v rfl rfl (r_assign (vq 5 rfl))) o0))))))))) (fun a w hst => ?_)
    have hst : St B w0 175 [(6, _), (7, _), (8, _), (10, _)] [⟨3, 38, ptrH, _⟩, ⟨4, 29, ptrH, _⟩, ⟨9, 38, ptrH, _⟩] a w := hst
    refine thn_normal ?_
    refine wp_seq ?_
    refine gl (sts := [none, none, none]) (news := [⟨11, 38, ptrH, some 6, _, some (7, _)⟩]) (sp := [.val 48 _, .val 49 _, .val 50 _, .val 47 _, .val 51 _, .val 52 _, .alc 3, .sto 3, .val 12 _]) [.g 0, .g 1, .g 2, .g 3, .o 8] hst (oc (ob_v rfl rfl (r_load (lz0 0 rfl) ty_38)) (oc (ob_v rfl rfl (r_move (gq 2 rfl))) (oc (ob_v rfl rfl (r_call (xs := [.tmp 48, .tmp 49]) (power13_c m ((x / 2 ^ 8 % 256 % 48 : Nat) : Int)) (.cons (vq 0 rfl) (.cons (vq 1 rfl) .nil)))) (oc (ob_v rfl rfl (r_move (vq 2 rfl))) (oc (ob_v rfl rfl (r_ex0 (vq 3 rfl))) (oc (ob_v rfl rfl (r_ex1 (vq 3 rfl))) (oc (ob_alc rfl rfl rfl (Str.zero str_matrix)) (oc (ob_sto rfl rfl rfl (vq 4 rfl) ty_38 (Eq.trans (b := 16) rfl rfl)) (oc (ob_v rfl rfl (r_assign (vq 5 rfl))) o0))))))))) (fun a w hst => ?_)
    have hst : St B w0 175 [(6, _), (7, _), (8, _), (10, _), (12, _)] [⟨3, 38, ptrH, _⟩, ⟨4, 29, ptrH, _⟩, ⟨9, 38, ptrH, _⟩, ⟨11, 38, ptrH, _⟩] a w := hst
    refine thn_normal ?_
    refine wp_seq ?_
    refine gl (sts := [none, none, none, none]) (news := [⟨13, 38, ptrH, some 8, _, some (9, _)⟩]) (sp := [.val 54 _, .val 55 _, .val 56 _, .val 57 _, .val 58 _, .val 53 _, .val 59 _, .val 60 _, .alc 4, .sto 4, .val 14 _]) [.g 0, .g 1, .g 2, .g 3, .g 4, .o 10] hst (oc (ob_v rfl rfl (r_load (lz0 0 rfl) ty_38)) (oc (ob_v rfl rfl (r_move (gq 1 rfl))) (oc (ob_v rfl rfl (r_move (gq 2 rfl))) (oc (ob_v rfl rfl (r_add (vq 1 rfl) (vq 2 rfl) ((wi64 (by omega) (by omega)).trans (by omega : (_ : Int) = ((x % 256 % 48 + x / 2 ^ 8 % 256 % 48 : Nat) : Int))))) (oc (ob_v rfl rfl (r_call (xs := [.tmp 54, .tmp 57]) (power13_c m ((x % 256 % 48 + x / 2 ^ 8 % 256 % 48 : Nat) : Int)) (.cons (vq 0 rfl) (.cons (vq 3 rfl) .nil)))) (oc (ob_v rfl rfl (r_move (vq 4 rfl))) (oc (ob_v rfl rfl (r_ex0 (vq 5 rfl))) (oc (ob_v rfl rfl (r_ex1 (vq 5 rfl))) (oc (ob_alc rfl rfl rfl (Str.zero str_matrix)) (oc (ob_sto rfl rfl rfl (vq 6 rfl) ty_38 (Eq.trans (b := 16) rfl rfl)) (oc (ob_v rfl rfl (r_assign (vq 7 rfl))) o0))))))))))) (fun a w hst => ?_)
    have hst : St B w0 175 [(6, _), (7, _), (8, _), (10, _), (12, _), (14, _)] [⟨3, 38, ptrH, _⟩, ⟨4, 29, ptrH, _⟩, ⟨9, 38, ptrH, _⟩, ⟨11, 38, ptrH, _⟩, ⟨13, 38, ptrH, _⟩] a w := hst
    refine thn_normal ?_
    refine wp_seq ?_
    refine gl (sts := [none, none, none, none, none]) (news := [⟨15, 29, ptrH, some 9, _, some (10, _)⟩]) (sp := [.val 62 _, .val 63 _, .val 64 _, .val 65 _, .val 66 _, .val 67 _, .val 61 _, .val 68 _, .val 69 _, .alc 5, .sto 5, .val 16 _]) [.g 0, .g 3, .g 4, .g 5, .o 11] hst (oc (ob_v rfl rfl (r_load (lz0 0 rfl) ty_38)) (oc (ob_v rfl rfl (r_load (lz0 1 rfl) ty_29)) (oc (ob_v rfl rfl (r_move (gq 1 rfl))) (oc (ob_v rfl rfl (r_move (gq 2 rfl))) (oc (ob_v rfl rfl (r_add (vq 2 rfl) (vq 3 rfl) ((wi64 (by omega) (by omega)).trans (by omega : (_ : Int) = ((x % 256 % 48 + x / 2 ^ 8 % 256 % 48 : Nat) : Int))))) (oc (ob_v rfl rfl (r_call (xs := [.tmp 62, .tmp 63, .tmp 66]) (after_c m r ((x % 256 % 48 + x / 2 ^ 8 % 256 % 48 : Nat) : Int)) (.cons (vq 0 rfl) (.cons (vq 1 rfl) (.cons (vq 4 rfl) .nil))))) (oc (ob_v rfl rfl (r_move (vq 5 rfl))) (oc (ob_v rfl rfl (r_ex0 (vq 6 rfl))) (oc (ob_v rfl rfl (r_ex1 (vq 6 rfl))) (oc (ob_alc rfl rfl rfl (Str.zero str_ray)) (oc (ob_sto rfl rfl rfl (vq 7 rfl) ty_29 (Eq.trans (b := 8) rfl rfl)) (oc (ob_v rfl rfl (r_assign (vq 8 rfl))) o0)))))))))))) (fun a w hst => ?_)
    have hst : St B w0 175 [(6, _), (10, _), (12, _), (14, _), (16, _)] [⟨3, 38, ptrH, _⟩, ⟨4, 29, ptrH, _⟩, ⟨9, 38, ptrH, _⟩, ⟨11, 38, ptrH, _⟩, ⟨13, 38, ptrH, _⟩, ⟨15, 29, ptrH, _⟩] a w := hst
    refine thn_normal ?_
    refine wp_seq ?_
    refine wp_seq ?_
    refine gl (sts := [none, none, none, none, none, none]) (news := []) (sp := [.val 70 _, .val 71 _, .val 72 _, .val 73 (Wh (_ = false) _), .val 74 (Wh (_ = false) _), .val 75 _, .val 76 _, .val 77 (Wh (_ = false) _), .val 78 (Wh (_ = false) _), .val 79 _, .val 80 _, .val 81 (Wh (_ = false) _), .val 82 (Wh (_ = false) _), .val 83 _]) [.g 0, .g 1, .g 2, .g 3, .g 4, .o 13] hst (oc (ob_v rfl rfl (r_move (gq 1 rfl))) (oc (ob_v rfl rfl (r_neq (vq 0 rfl) has_num)) (oc (ob_v rfl rfl (r_move (vq 1 rfl))) (oc (ob_gd rfl rfl rfl (vq 2 rfl) nq (fun hg => r_move (gq 2 rfl))) (oc (ob_gd rfl rfl rfl (vq 2 rfl) nq (fun hg => r_neq (has_wh (vq 3 rfl) hg) has_num)) (oc (ob_v rfl rfl (r_or (vq 2 rfl) (vq 4 rfl))) (oc (ob_v rfl rfl (r_move (vq 5 rfl))) (oc (ob_gd rfl rfl rfl (vq 6 rfl) nq (fun hg => r_move (gq 3 rfl))) (oc (ob_gd rfl rfl rfl (vq 6 rfl) nq (fun hg => r_neq (has_wh (vq 7 rfl) hg) has_num)) (oc (ob_v rfl rfl (r_or (vq 6 rfl) (vq 8 rfl))) (oc (ob_v rfl rfl (r_move (vq 9 rfl))) (oc (ob_gd rfl rfl rfl (vq 10 rfl) nq (fun hg => r_move (gq 4 rfl))) (oc (ob_gd rfl rfl rfl (vq 10 rfl) nq (fun hg => r_neq (has_wh (vq 11 rfl) hg) has_num)) (oc (ob_v rfl rfl (r_or (vq 10 rfl) (vq 12 rfl))) o0)))))))))))))) (fun a w hst => ?_)
    have hst : St B w0 175 [(6, _), (10, _), (12, _), (14, _), (16, _), (83, _)] [⟨3, 38, ptrH, _⟩, ⟨4, 29, ptrH, _⟩, ⟨9, 38, ptrH, _⟩, ⟨11, 38, ptrH, _⟩, ⟨13, 38, ptrH, _⟩, ⟨15, 29, ptrH, _⟩] a w := hst
    refine thn_normal ?_
    refine cond_of hst (List.mem_of_getElem? (i := 5) rfl) (fun hb1 => ?_) (fun hb1 => ?_)
    · have hr : ((((((poO m ((x % 256 % 48 : Nat) : Int)).2 == 0) || ((poO m ((x % 256 % 48 : Nat) : Int)).2 == 4)) && (((poO m ((x / 2 ^ 8 % 256 % 48 : Nat) : Int)).2 == 0) || ((poO m ((x / 2 ^ 8 % 256 % 48 : Nat) : Int)).2 == 4))) && (((poO m ((x % 256 % 48 + x / 2 ^ 8 % 256 % 48 : Nat) : Int)).2 == 0) || ((poO m ((x % 256 % 48 + x / 2 ^ 8 % 256 % 48 : Nat) : Int)).2 == 4))) && (((afO m r ((x % 256 % 48 + x / 2 ^ 8 % 256 % 48 : Nat) : Int)).2 == 0) || ((afO m r ((x % 256 % 48 + x / 2 ^ 8 % 256 % 48 : Nat) : Int)).2 == 4))) = true := by rw [po_04 hok (by omega), po_04 hok (by omega), po_04 hok (by omega), ap_04 (fi_of hft) (by omega)]; rfl
      refine wp_seq ?_
      refine gl (sts := [none, none, none, none, none, none]) (news := []) (sp := ((.val 84 _ : Sp) :: (.val 85 _) :: (.val 86 _) :: (.val 87 (Wh (_ = false) _)) :: (.val 88 (Wh (_ = false) _)) :: (.val 89 _) :: (.val 90 _) :: (.val 91 (Wh (_ = true) _)) :: (.val 92 (Wh (_ = true) _)) :: (.val 93 (Wh (_ = true) _)) :: (.val 94 (Wh ((_ = true) ∧ _ = false) _)) :: (.val 95 (Wh ((_ = true) ∧ _ = false) _)) :: (.val 96 (Wh (_ = true) _)) :: (.val 97 _) :: (.val 98 _) :: (.val 99 (Wh (_ = true) _)) :: (.val 100 (Wh (_ = true) _)) :: (.val 101 (Wh (_ = true) _)) :: (.val 102 (Wh ((_ = true) ∧ _ = false) _)) :: (.val 103 (Wh ((_ = true) ∧ _ = false) _)) :: (.val 104 (Wh (_ = true) _)) :: (.val 105 _) :: (.val 106 _) :: (.val 107 (Wh (_ = true) _)) :: (.val 108 (Wh (_ = true) _)) :: (.val 109 (Wh (_ = true) _)) :: (.val 110 (Wh ((_ = true) ∧ _ = false) _)) :: (.val 111 (Wh ((_ = true) ∧ _ = false) _)) :: (.val 112 (Wh (_ = true) _)) :: (.val 113 _) :: (.val 6 _) :: [])) [.o 30] hst (oc (ob_v rfl rfl (r_move (gq 1 rfl))) (oc (ob_v rfl rfl (r_eql (vq 0 rfl) has_num)) (oc (ob_v rfl rfl (r_move (vq 1 rfl))) (oc (ob_gd rfl rfl rfl (vq 2 rfl) nq (fun hg => r_move (gq 1 rfl))) (oc (ob_gd rfl rfl rfl (vq 2 rfl) nq (fun hg => r_eql (has_wh (vq 3 rfl) hg) has_num)) (oc (ob_v rfl rfl (r_or (vq 2 rfl) (vq 4 rfl))) (oc (ob_v rfl rfl (r_move (vq 5 rfl))) (oc (ob_gd rfl rfl rfl (vq 6 rfl) nq (fun hg => r_move (gq 2 rfl))) (oc (ob_gd rfl rfl rfl (vq 6 rfl) nq (fun hg => r_eql (has_wh (vq 7 rfl) hg) has_num)) (oc (ob_gd rfl rfl rfl (vq 6 rfl) nq (fun hg => r_move (has_wh (vq 8 rfl) hg))) (oc (ob_gd2 rfl rfl rfl (vq 9 rfl) nq (fun hg => r_move (gq 2 rfl))) (oc (ob_gd2 rfl rfl rfl (vq 9 rfl) nq (fun hg => r_eql (has_wh (vq 10 rfl) hg) has_num)) (oc (ob_gd rfl rfl rfl (vq 6 rfl) nq (fun hg => r_or (has_wh (vq 9 rfl) hg) (has_wh2 (vq 11 rfl) hg))) (oc (ob_v rfl rfl (r_and (vq 6 rfl) (vq 12 rfl))) (oc (ob_v rfl rfl (r_move (vq 13 rfl))) (oc (ob_gd rfl rfl rfl (vq 14 rfl) nq (fun hg => r_move (gq 3 rfl))) (oc (ob_gd rfl rfl rfl (vq 14 rfl) nq (fun hg => r_eql (has_wh (vq 15 rfl) hg) has_num)) (oc (ob_gd rfl rfl rfl (vq 14 rfl) nq (fun hg => r_move (has_wh (vq 16 rfl) hg))) (oc (ob_gd2 rfl rfl rfl (vq 17 rfl) nq (fun hg => r_move (gq 3 rfl))) (oc (ob_gd2 rfl rfl rfl (vq 17 rfl) nq (fun hg => r_eql (has_wh (vq 18 rfl) hg) has_num)) (oc (ob_gd rfl rfl rfl (vq 14 rfl) nq (fun hg => r_or (has_wh (vq 17 rfl) hg) (has_wh2 (vq 19 rfl) hg))) (oc (ob_v rfl rfl (r_and (vq 14 rfl) (vq 20 rfl))) (oc (ob_v rfl rfl (r_move (vq 21 rfl))) (oc (ob_gd rfl rfl rfl (vq 22 rfl) nq (fun hg => r_move (gq 4 rfl))) (oc (ob_gd rfl rfl rfl (vq 22 rfl) nq (fun hg => r_eql (has_wh (vq 23 rfl) hg) has_num)) (oc (ob_gd rfl rfl rfl (vq 22 rfl) nq (fun hg => r_move (has_wh (vq 24 rfl) hg))) (oc (ob_gd2 rfl rfl rfl (vq 25 rfl) nq (fun hg => r_move (gq 4 rfl))) (oc (ob_gd2 rfl rfl rfl (vq 25 rfl) nq (fun hg => r_eql (has_wh (vq 26 rfl) hg) has_num)) (oc (ob_gd rfl rfl rfl (vq 22 rfl) nq (fun hg => r_or (has_wh (vq 25 rfl) hg) (has_wh2 (vq 27 rfl) hg))) (oc (ob_v rfl rfl (r_and (vq 22 rfl) (vq 28 rfl))) (oc (ob_v rfl rfl (r_assign (vq 29 rfl))) o0))))))))))))))))))))))))))))))) (fun a w hst => ?_)
      have hst : St B w0 175 [(6, _)] [⟨3, 38, ptrH, _⟩, ⟨4, 29, ptrH, _⟩, ⟨9, 38, ptrH, _⟩, ⟨11, 38, ptrH, _⟩, ⟨13, 38, ptrH, _⟩, ⟨15, 29, ptrH, _⟩] a w := hst
      refine thn_normal ?_
      refine wp_ret ?_
      refine thn_ret ?_
      refine ret_wk ?_ (ret_tmp rfl hst (List.mem_of_getElem? (i := 0) rfl))
      exact wk_eq (congrArg Bo hr)
    · obtain ⟨hp, e1, e2, e3, e4⟩ := pp_ok hft hJ hK hb1
      have hst := St.cvA (A' := RMA (rmOf (powQ (toM m) (x % 256 % 48)))) hst 2 rfl (congrArg (fun r : RM × Int => RMA r.1) e1)
      have hst := St.cvA (A' := RMA (rmOf (powQ (toM m) (x / 2 ^ 8 % 256 % 48)))) hst 3 rfl (congrArg (fun r : RM × Int => RMA r.1) e2)
      have hst := St.cvA (A' := RMA (rmOf (powQ (toM m) (x % 256 % 48 + x / 2 ^ 8 % 256 % 48)))) hst 4 rfl (congrArg (fun r : RM × Int => RMA r.1) e3)
      have hst := St.cvA (A' := RRA (rrOf (goQ (powQ (toM m) (x % 256 % 48 + x / 2 ^ 8 % 256 % 48)) (toY r)))) hst 5 rfl (congrArg (fun r : RR × Int => RRA r.1) e4)
      refine wp_skip ?_
      refine thn_normal ?_
      refine wp_seq ?_
      refine gl (sts := [none, none, none, none, none, none]) (news := [⟨17, 38, ptrH, some 6, _, some (7, _)⟩]) (sp := [.val 115 _, .val 116 _, .val 117 _, .val 114 _, .val 118 _, .val 119 _, .alc 6, .sto 6, .val 18 _]) [.g 0, .o 8] hst (oc (ob_v rfl rfl (r_load (lz0 2 rfl) ty_38)) (oc (ob_v rfl rfl (r_load (lz0 3 rfl) ty_38)) (oc (ob_v rfl rfl (r_call (xs := [.tmp 115, .tmp 116]) ((mul09_c (rmOf (powQ (toM m) (x % 256 % 48))) (rmOf (powQ (toM m) (x / 2 ^ 8 % 256 % 48)))).post (by rw [hp.mul])) (.cons (vq 0 rfl) (.cons (vq 1 rfl) .nil)))) (oc (ob_v rfl rfl (r_move (vq 2 rfl))) (oc (ob_v rfl rfl (r_ex0 (vq 3 rfl))) (oc (ob_v rfl rfl (r_ex1 (vq 3 rfl))) (oc (ob_alc rfl rfl rfl (Str.zero str_matrix)) (oc (ob_sto rfl rfl rfl (vq 4 rfl) ty_38 (Eq.trans (b := 16) rfl rfl)) (oc (ob_v rfl rfl (r_assign (vq 5 rfl))) o0))))))))) (fun a w hst => ?_)
      have hst : St B w0 175 [(6, _), (18, _)] [⟨3, 38, ptrH, _⟩, ⟨4, 29, ptrH, _⟩, ⟨9, 38, ptrH, _⟩, ⟨11, 38, ptrH, _⟩, ⟨13, 38, ptrH, _⟩, ⟨15, 29, ptrH, _⟩, ⟨17, 38, ptrH, _⟩] a w := hst
      refine thn_normal ?_
      refine wp_seq ?_
      refine gl (sts := [none, none, none, none, none, none, none]) (news := [⟨19, 29, ptrH, some 6, _, some (7, _)⟩]) (sp := [.val 121 _, .val 122 _, .val 123 _, .val 120 _, .val 124 _, .val 125 _, .alc 7, .sto 7, .val 20 _]) [.g 0, .g 1, .o 8] hst (oc (ob_v rfl rfl (r_load (lz0 4 rfl) ty_38)) (oc (ob_v rfl rfl (r_load (lz0 1 rfl) ty_29)) (oc (ob_v rfl rfl (r_call (xs := [.tmp 121, .tmp 122]) ((through_c (rmOf (powQ (toM m) (x % 256 % 48 + x / 2 ^ 8 % 256 % 48))) r).post (by rw [hp.go])) (.cons (vq 0 rfl) (.cons (vq 1 rfl) .nil)))) (oc (ob_v rfl rfl (r_move (vq 2 rfl))) (oc (ob_v rfl rfl (r_ex0 (vq 3 rfl))) (oc (ob_v rfl rfl (r_ex1 (vq 3 rfl))) (oc (ob_alc rfl rfl rfl (Str.zero str_ray)) (oc (ob_sto rfl rfl rfl (vq 4 rfl) ty_29 (Eq.trans (b := 8) rfl rfl)) (oc (ob_v rfl rfl (r_assign (vq 5 rfl))) o0))))))))) (fun a w hst => ?_)
      have hst : St B w0 175 [(6, _), (18, _), (20, _)] [⟨3, 38, ptrH, _⟩, ⟨4, 29, ptrH, _⟩, ⟨9, 38, ptrH, _⟩, ⟨11, 38, ptrH, _⟩, ⟨13, 38, ptrH, _⟩, ⟨15, 29, ptrH, _⟩, ⟨17, 38, ptrH, _⟩, ⟨19, 29, ptrH, _⟩] a w := hst
      refine thn_normal ?_
      refine wp_seq ?_
      refine gl (sts := [none, none, none, none, none, none, none, none]) (news := [⟨21, 38, ptrH, some 5, _, some (6, _)⟩]) (sp := [.val 127 _, .val 128 _, .val 126 _, .val 129 _, .val 130 _, .alc 8, .sto 8, .val 22 _]) [.g 0, .g 1, .g 2, .o 7] hst (oc (ob_v rfl rfl (r_load (lz0 0 rfl) ty_38)) (oc (ob_v rfl rfl (r_call (xs := [.tmp 127, .const (.int .i64 (1))]) ((power13_c m 1).post (by rw [hp.one])) (.cons (vq 0 rfl) (.cons has_num .nil)))) (oc (ob_v rfl rfl (r_move (vq 1 rfl))) (oc (ob_v rfl rfl (r_ex0 (vq 2 rfl))) (oc (ob_v rfl rfl (r_ex1 (vq 2 rfl))) (oc (ob_alc rfl rfl rfl (Str.zero str_matrix)) (oc (ob_sto rfl rfl rfl (vq 3 rfl) ty_38 (Eq.trans (b := 16) rfl rfl)) (oc (ob_v rfl rfl (r_assign (vq 4 rfl))) o0)))))))) (fun a w hst => ?_)
      have hst : St B w0 175 [(6, _), (18, _), (20, _), (22, _)] [⟨3, 38, ptrH, _⟩, ⟨4, 29, ptrH, _⟩, ⟨9, 38, ptrH, _⟩, ⟨11, 38, ptrH, _⟩, ⟨13, 38, ptrH, _⟩, ⟨15, 29, ptrH, _⟩, ⟨17, 38, ptrH, _⟩, ⟨19, 29, ptrH, _⟩, ⟨21, 38, ptrH, _⟩] a w := hst
      refine thn_normal ?_
      refine wp_seq ?_
      refine gl (sts := [none, none, none, none, none, none, none, none, none]) (news := [⟨23, 38, ptrH, some 5, _, some (6, _)⟩]) (sp := [.val 132 _, .val 133 _, .val 131 _, .val 134 _, .val 135 _, .alc 9, .sto 9, .val 24 _]) [.g 0, .g 1, .g 2, .g 3, .o 7] hst (oc (ob_v rfl rfl (r_load (lz0 0 rfl) ty_38)) (oc (ob_v rfl rfl (r_call (xs := [.tmp 132, .const (.int .i64 (0))]) ((power13_c m 0).post (by rw [hp.none])) (.cons (vq 0 rfl) (.cons has_num .nil)))) (oc (ob_v rfl rfl (r_move (vq 1 rfl))) (oc (ob_v rfl rfl (r_ex0 (vq 2 rfl))) (oc (ob_v rfl rfl (r_ex1 (vq 2 rfl))) (oc (ob_alc rfl rfl rfl (Str.zero str_matrix)) (oc (ob_sto rfl rfl rfl (vq 3 rfl) ty_38 (Eq.trans (b := 16) rfl rfl)) (oc (ob_v rfl rfl (r_assign (vq 4 rfl))) o0)))))))) (fun a w hst => ?_)
      have hst : St B w0 175 [(6, _), (18, _), (20, _), (22, _), (24, _)] [⟨3, 38, ptrH, _⟩, ⟨4, 29, ptrH, _⟩, ⟨9, 38, ptrH, _⟩, ⟨11, 38, ptrH, _⟩, ⟨13, 38, ptrH, _⟩, ⟨15, 29, ptrH, _⟩, ⟨17, 38, ptrH, _⟩, ⟨19, 29, ptrH, _⟩, ⟨21, 38, ptrH, _⟩, ⟨23, 38, ptrH, _⟩] a w := hst
      refine thn_normal ?_
      refine wp_seq ?_
      refine go_draw (anc := [[], [0], [0, 1], [0, 1, 2], [0, 1, 2, 3], [0, 1, 2, 3, 4], [0, 1, 2, 3, 4, 5], [0, 1, 2, 3, 4, 5, 6], [0, 1, 2, 3, 4, 5, 6, 7], [0, 1, 2, 3, 4, 5, 6, 7, 8], [0, 1, 2, 3, 4, 5, 6, 7, 8, 9], [0, 1, 2, 3, 4, 5, 6, 7, 8, 9, 10], [0, 1, 2, 3, 4, 5, 6, 7, 8, 9, 10, 11], [0, 1, 2, 3, 4, 5, 6, 7, 8, 9, 10, 11, 12], [0, 1, 2, 3, 4, 5, 6, 7, 8, 9, 10, 11, 12, 13], [0, 1, 2, 3, 4, 5, 6, 7, 8, 9, 10, 11, 12, 13, 14], [0, 1, 2, 3, 4, 5, 6, 7, 8, 9, 10, 11, 12, 13, 14, 15], [0, 1, 2, 3, 4, 5, 6, 7, 8, 9, 10, 11, 12, 13, 14, 15, 16], [0, 1, 2, 3, 4, 5, 6, 7, 8, 9, 10, 11, 12, 13, 14, 15, 16, 17], [0, 1, 2, 3, 4, 5, 6, 7, 8, 9, 10, 11, 12, 13, 14, 15, 16, 17, 18], [0, 1, 2, 3, 4, 5, 6, 7, 8, 9, 10, 11, 12, 13, 14, 15, 16, 17, 18, 19], [0, 1, 2, 3, 4, 5, 6, 7, 8, 9, 10, 11, 12, 13, 14, 15, 16, 17, 18, 19], [0, 1, 2, 3, 4, 5, 6, 7, 8, 9, 10, 11, 12, 13, 14, 15, 16, 17, 18, 19, 20, 21], [0, 1, 2, 3, 4, 5, 6, 7, 8, 9, 10, 11, 12, 13, 14, 15, 16, 17, 18, 19, 20, 21, 22], [0, 1, 2, 3, 4, 5, 6, 7, 8, 9, 10, 11, 12, 13, 14, 15, 16, 17, 18, 19, 20, 21, 22, 23], [0, 1, 2, 3, 4, 5, 6, 7, 8, 9, 10, 11, 12, 13, 14, 15, 16, 17, 18, 19, 20, 21, 22, 23, 24], [0, 1, 2, 3, 4, 5, 6, 7, 8, 9, 10, 11, 12, 13, 14, 15, 16, 17, 18, 19, 20, 21, 22, 23, 24], [0, 1, 2, 3, 4, 5, 6, 7, 8, 9, 10, 11, 12, 13, 14, 15, 16, 17, 18, 19, 20, 21, 22, 23, 24, 25, 26], [0, 1, 2, 3, 4, 5, 6, 7, 8, 9, 10, 11, 12, 13, 14, 15, 16, 17, 18, 19, 20, 21, 22, 23, 24, 25, 26, 27], [0, 1, 2, 3, 4, 5, 6, 7, 8, 9, 10, 11, 12, 13, 14, 15, 16, 17, 18, 19, 20, 21, 22, 23, 24, 25, 26, 27, 28], [0, 1, 2, 3, 4, 5, 6, 7, 8, 9, 10, 11, 12, 13, 14, 15, 16, 17, 18, 19, 20, 21, 22, 23, 24, 25, 26, 27, 28, 29], [0, 1, 2, 3, 4, 5, 6, 7, 8, 9, 10, 11, 12, 13, 14, 15, 16, 17, 18, 19, 20, 21, 22, 23, 24, 25, 26, 27, 28, 29], [0, 1, 2, 3, 4, 5, 6, 7, 8, 9, 10, 11, 12, 13, 14, 15, 16, 17, 18, 19, 20, 21, 22, 23, 24, 25, 26, 27, 28, 29, 30, 31], [0, 1, 2, 3, 4, 5, 6, 7, 8, 9, 10, 11, 12, 13, 14, 15, 16, 17, 18, 19, 20, 21, 22, 23, 24, 25, 26, 27, 28, 29, 30, 31, 32], [0, 1, 2, 3, 4, 5, 6, 7, 8, 9, 10, 11, 12, 13, 14, 15, 16, 17, 18, 19, 20, 21, 22, 23, 24, 25, 26, 27, 28, 29, 30, 31, 32, 33], [0, 1, 2, 3, 4, 5, 6, 7, 8, 9, 10, 11, 12, 13, 14, 15, 16, 17, 18, 19, 20, 21, 22, 23, 24, 25, 26, 27, 28, 29, 30, 31, 32, 33, 34], [0, 1, 2, 3, 4, 5, 6, 7, 8, 9, 10, 11, 12, 13, 14, 15, 16, 17, 18, 19, 20, 21, 22, 23, 24, 25, 26, 27, 28, 29, 30, 31, 32, 33, 34], [0, 1, 2, 3, 4, 5, 6, 7, 8, 9, 10, 11, 12, 13, 14, 15, 16, 17, 18, 19, 20, 21, 22, 23, 24, 25, 26, 27, 28, 29, 30, 31, 32, 33, 34, 35, 36], [0, 1, 2, 3, 4, 5, 6, 7, 8, 9, 10, 11, 12, 13, 14, 15, 16, 17, 18, 19, 20, 21, 22, 23, 24, 25, 26, 27, 28, 29, 30, 31, 32, 33, 34, 35, 36, 37], [0, 1, 2, 3, 4, 5, 6, 7, 8, 9, 10, 11, 12, 13, 14, 15, 16, 17, 18, 19, 20, 21, 22, 23, 24, 25, 26, 27, 28, 29, 30, 31, 32, 33, 34, 35, 36, 37, 38]]) (sts := [none, none, none, none, none, none, none, none, none, none]) (news := []) (sp := ((.val 136 _ : Sp) :: (.val 137 _) :: (.val 138 _) :: (.val 139 (Wh (_ = true) _)) :: (.val 140 (Wh (_ = true) _)) :: (.val 141 _) :: (.val 142 _) :: (.val 143 (Wh (_ = true) _)) :: (.val 144 (Wh (_ = true) _)) :: (.val 145 _) :: (.val 146 _) :: (.val 147 (Wh (_ = true) _)) :: (.val 148 (Wh (_ = true) _)) :: (.val 149 _) :: (.val 150 _) :: (.val 151 (Wh (_ = true) _)) :: (.val 152 (Wh (_ = true) _)) :: (.val 153 (Wh (_ = true) _)) :: (.val 154 _) :: (.val 155 _) :: (.val 156 (Wh (_ = true) _)) :: (.val 157 (Wh (_ = true) _)) :: (.val 158 (Wh (_ = true) _)) :: (.val 159 _) :: (.val 160 _) :: (.val 161 (Wh (_ = true) _)) :: (.val 162 (Wh (_ = true) _)) :: (.val 163 (Wh (_ = true) _)) :: (.val 164 _) :: (.val 165 _) :: (.val 166 (Wh (_ = true) _)) :: (.val 167 (Wh (_ = true) _)) :: (.val 168 (Wh (_ = true) _)) :: (.val 169 _) :: (.val 170 _) :: (.val 171 (Wh (_ = true) _)) :: (.val 172 (Wh (_ = true) _)) :: (.val 173 (Wh (_ = true) _)) :: (.val 174 _) :: (.val 6 _) :: [])) [.o 39] follows_mixed hst (oc (ob_v rfl rfl (r_move (gq 1 rfl))) (oc (ob_v rfl rfl (r_eql (vq 0 rfl) has_num)) (oc (ob_v rfl rfl (r_move (vq 1 rfl))) (oc (ob_gd rfl rfl rfl (vq 2 rfl) nq (fun hg => r_move (gq 2 rfl))) (oc (ob_gd rfl rfl rfl (vq 2 rfl) nq (fun hg => r_eql (has_wh (vq 3 rfl) hg) has_num)) (oc (ob_v rfl rfl (r_and (vq 2 rfl) (vq 4 rfl))) (oc (ob_v rfl rfl (r_move (vq 5 rfl))) (oc (ob_gd rfl rfl rfl (vq 6 rfl) nq (fun hg => r_move (gq 3 rfl))) (oc (ob_gd rfl rfl rfl (vq 6 rfl) nq (fun hg => r_eql (has_wh (vq 7 rfl) hg) has_num)) (oc (ob_v rfl rfl (r_and (vq 6 rfl) (vq 8 rfl))) (oc (ob_v rfl rfl (r_move (vq 9 rfl))) (oc (ob_gd rfl rfl rfl (vq 10 rfl) nq (fun hg => r_move (gq 4 rfl))) (oc (ob_gd rfl rfl rfl (vq 10 rfl) nq (fun hg => r_eql (has_wh (vq 11 rfl) hg) has_num)) (oc (ob_v rfl rfl (r_and (vq 10 rfl) (vq 12 rfl))) (oc (ob_v rfl rfl (r_move (vq 13 rfl))) (oc (ob_gd rfl rfl rfl (vq 14 rfl) nq (fun hg => r_load (lz0 4 rfl) ty_38)) (oc (ob_gd rfl rfl rfl (vq 14 rfl) nq (fun hg => r_call (xs := [.tmp 151]) (rayCheck_c _) (.cons (has_wh (vq 15 rfl) hg) .nil))) (oc (ob_gd rfl rfl rfl (vq 14 rfl) nq (fun hg => r_eql (has_wh (vq 16 rfl) hg) has_num)) (oc (ob_v rfl rfl (r_and (vq 14 rfl) (vq 17 rfl))) (oc (ob_v rfl rfl (r_move (vq 18 rfl))) (oc (ob_gd rfl rfl rfl (vq 19 rfl) nq (fun hg => r_load (lz0 6 rfl) ty_38)) (oc (ob_gd rfl rfl rfl (vq 19 rfl) nq (fun hg => r_load (lz0 4 rfl) ty_38)) (oc (ob_gd rfl rfl rfl (vq 19 rfl) nq (fun hg => r_call (xs := [.tmp 156, .tmp 157]) (sameMatrix_c _ _) (.cons (has_wh (vq 20 rfl) hg) (.cons (has_wh (vq 21 rfl) hg) .nil)))) (oc (ob_v rfl rfl (r_and (vq 19 rfl) (vq 22 rfl))) (oc (ob_v rfl rfl (r_move (vq 23 rfl))) (oc (ob_gd rfl rfl rfl (vq 24 rfl) nq (fun hg => r_load (lz0 5 rfl) ty_29)) (oc (ob_gd rfl rfl rfl (vq 24 rfl) nq (fun hg => r_load (lz0 7 rfl) ty_29)) (oc (ob_gd rfl rfl rfl (vq 24 rfl) nq (fun hg => r_call (xs := [.tmp 161, .tmp 162]) (sameRay_c _ _) (.cons (has_wh (vq 25 rfl) hg) (.cons (has_wh (vq 26 rfl) hg) .nil)))) (oc (ob_v rfl rfl (r_and (vq 24 rfl) (vq 27 rfl))) (oc (ob_v rfl rfl (r_move (vq 28 rfl))) (oc (ob_gd rfl rfl rfl (vq 29 rfl) nq (fun hg => r_load (lz0 8 rfl) ty_38)) (oc (ob_gd rfl rfl rfl (vq 29 rfl) nq (fun hg => r_load (lz0 0 rfl) ty_38)) (oc (ob_gd rfl rfl rfl (vq 29 rfl) nq (fun hg => r_call (xs := [.tmp 166, .tmp 167]) (sameMatrix_c _ _) (.cons (has_wh (vq 30 rfl) hg) (.cons (has_wh (vq 31 rfl) hg) .nil)))) (oc (ob_v rfl rfl (r_and (vq 29 rfl) (vq 32 rfl))) (oc (ob_v rfl rfl (r_move (vq 33 rfl))) (oc (ob_gd rfl rfl rfl (vq 34 rfl) nq (fun hg => r_load (lz0 9 rfl) ty_38)) (oc (ob_gd rfl rfl rfl (vq 34 rfl) nq (fun hg => r_call (xs := []) one_l .nil)) (oc (ob_gd rfl rfl rfl (vq 34 rfl) nq (fun hg => r_call (xs := [.tmp 171, .tmp 172]) (sameMatrix_c _ _) (.cons (has_wh (vq 35 rfl) hg) (.cons (has_wh (vq 36 rfl) hg) .nil)))) (oc (ob_v rfl rfl (r_and (vq 34 rfl) (vq 37 rfl))) (oc (ob_v rfl rfl (r_assign (vq 38 rfl))) o0)))))))))))))))))))))))))))))))))))))))) (by kernel_rfl) (by kernel_rfl) (by kernel_rfl) (by kernel_rfl) (fun a w hst => ?_)
      have hst : St B w0 175 [(6, _)] [⟨3, 38, ptrH, _⟩, ⟨4, 29, ptrH, _⟩, ⟨9, 38, ptrH, _⟩, ⟨11, 38, ptrH, _⟩, ⟨13, 38, ptrH, _⟩, ⟨15, 29, ptrH, _⟩, ⟨17, 38, ptrH, _⟩, ⟨19, 29, ptrH, _⟩, ⟨21, 38, ptrH, _⟩, ⟨23, 38, ptrH, _⟩] a w := hst
      refine thn_normal ?_
      refine wp_ret ?_
      refine ret_wk ?_ (ret_tmp rfl hst (List.mem_of_getElem? (i := 0) rfl))
      exact wk_eq (congrArg Bo (by rw [if_pos hp.okjk]; simp))

open Go.ChangeShapes Go.WideShapes Go.ChangeAt
open Go.ChangeMaps (open_string shut_string)
set_option linter.unusedVariables false
theorem own : ownKnob Tryz.prog.godebug = none := by kernel_rfl
theorem laidOut : laidOutB Tryz.prog = true := by kernel_rfl
set_option maxRecDepth 100000 in
theorem lifted (os : Os) (started : os.Started) (H : Type) (enc : TypeId × Value → H) :
    ReturnsInHanded {} Tryz.checked os 4 .any (Rows.orbitPowersSpec.pre6 enc Tryz.prog Tryz.f4 Rows.orbitPowersRow.domain false) (Rows.orbitPowersSpec.post enc Tryz.prog Tryz.f4 false true false false) := by
  refine returnsInHanded_of_change (C := Tryz.checked) own started (by kernel_rfl) Tryz.func4
    (ChangeSpec.witness6 (enc := enc) (C := Tryz.checked) false ⟨#[], #[.agg #[.bool false, .slice none 0 0, .bool false, .slice none 0 0, .bool false, .slice none 0 0, .bool false, .slice none 0 0, .bool false, .slice none 0 0, .bool false, .slice none 0 0, .bool false, .slice none 0 0, .bool false, .slice none 0 0], .agg #[.bool false, .slice none 0 0, .bool false, .slice none 0 0, .bool false, .slice none 0 0, .bool false, .slice none 0 0], .int .u16 0], []⟩ 8 (by kernel_rfl) (by kernel_rfl) (by kernel_rfl) (by kernel_rfl)) ?_
  intro W base args ds gs before hval0 hW hcnd _
  have hval : ∀ (j : Nat) t v, Tryz.f4.params[j]? = some t → args[j]? = some v → Value.okWide Tryz.prog W .any base t v := hval0
  have hW' := hW
  obtain ⟨p, q, hA0, hV, rfl, hfz, hnd⟩ := hW
  have hA : DataW.TrodAll enc Tryz.prog W 0 (fun _ => true) true Tryz.f4.params.toList args.toList ds p := hA0
  rw [Tryz.params4] at hA hval
  obtain ⟨v0, vs0, d0, ds0, p0, q0, hargs, rfl, rfl, h0, r0⟩ := trodAll_cons hA
  obtain ⟨v1, vs1, d1, ds1, p1, q1, rfl, rfl, rfl, h1, r1⟩ := trodAll_cons r0
  obtain ⟨v2, vs2, d2, ds2, p2, q2, rfl, rfl, rfl, h2, r2⟩ := trodAll_cons r1
  obtain ⟨rfl, rfl, rfl⟩ := trodAll_nil r2
  obtain rfl : args = #[v0, v1, v2] := by cases args; simp_all
  obtain ⟨rfl, rfl⟩ := trodVars_none hV
  have k0 := h0
  have lt0 : ∀ x ∈ p0, x.block < W.heap.size := by obtain ⟨m, hm⟩ := k0; exact DataW.trod_lt m _ _ _ hm
  have k1 := h1
  have lt1 : ∀ x ∈ p1, x.block < W.heap.size := by obtain ⟨m, hm⟩ := k1; exact DataW.trod_lt m _ _ _ hm
  have k2 := h2
  have lt2 : ∀ x ∈ p2, x.block < W.heap.size := by obtain ⟨m, hm⟩ := k2; exact DataW.trod_lt m _ _ _ hm
  obtain ⟨x0, a0⟩ := arg_of (A := RMA) (fun _ => rfl) Tryz.underlying38 rd_rm (hval 0 38 v0 rfl rfl) h0
  obtain ⟨x1, a1⟩ := arg_of (A := RRA) (fun _ => rfl) Tryz.underlying29 rd_rr (hval 1 29 v1 rfl rfl) h1
  obtain ⟨x2, ex2⟩ := okWide_u16 Tryz.underlying51 (hval 2 51 v2 rfl rfl)
  have a2 : (NumA .u16 (x2 : Nat)).va.p W.heap.size v2 W := by rw [ex2]; exact val_num _ _ _ _
  clear hA0 hval0
  refine ((powers13_w x0 x1 x2).2 W.heap.size W [v0, v1, v2] (Nat.le_refl _) (.cons a0 (.cons a1 (.cons a2 .nil)))).mono fun e W' ⟨v, he, hv, bel⟩ => ?_
  have hv' := bo_val hv
  subst hv' he
  exact ⟨_, rfl, _, _, _, [], _, [], hW', trodAll_mk1 (shut_bool Tryz.underlying4 _), (trodAll_cons_mk (Below.trod laidOut (by kernel_rfl) (of_decide_eq_true (by kernel_rfl)) k0 bel lt0) (trodAll_cons_mk (Below.trod laidOut (by kernel_rfl) (of_decide_eq_true (by kernel_rfl)) k1 bel lt1) (trodAll_cons_mk (Below.trod laidOut (by kernel_rfl) (of_decide_eq_true (by kernel_rfl)) k2 bel lt2) trodAll_mk0))), rfl, bel.frame _, fun h => by cases h⟩
theorem over : Rows.orbitPowersRow.holds Tryz.pinned (OpenSpec.ofChange Rows.orbitPowersSpec) :=
  OpenClaim.holds_of_wide 4 Tryz.f4 rfl rfl rfl rfl rfl rfl rfl ⟨rfl, rfl, rfl, rfl, rfl⟩ rfl rfl rfl rfl rfl (by kernel_rfl) Tryz.func4 (by kernel_rfl)
    (of_decide_eq_true (by kernel_rfl)) (by unfold Func.isWrapper; rw [if_neg (of_decide_eq_false (by kernel_rfl))]; exact ⟨rfl, rfl⟩)
    (fun os started H enc _ => lifted os started H enc)
theorem provedOrbitPowers : Rows.OrbitPowersSaid := over
#print axioms provedOrbitPowers

end Go.Proofs.YtiflajpmipejnaaGreat
