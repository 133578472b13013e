/- OrbitFirst: for all matrices, rays, limits and numbers the law of chapter 13 on the first trip behind which a ray is farther answers true. No condition. -/
import Derived.Test.YtiflajpmipejnaaOrbK
import Derived.Test.YtiflajpmipejnaaRows
import Derived.WalkKit
import Derived.ProofKit
import Derived.OpenShut
import Derived.ShutString
import Derived.ChangeOld
import Derived.Below
namespace Go.Proofs.Ytiflajpmipejnaa
open Go Go.RowKit
namespace LOrbitFirst
theorem fld_55_0 : Fld Try.prog 55 0 0 4 := ⟨_, _, Try.underlying55, rfl, rfl, by kernel_rfl, by decide⟩
theorem fld_55_1 : Fld Try.prog 55 1 4 1 := ⟨_, _, Try.underlying55, rfl, rfl, by kernel_rfl, by decide⟩
theorem fld_55_2 : Fld Try.prog 55 2 5 1 := ⟨_, _, Try.underlying55, rfl, rfl, by kernel_rfl, by decide⟩
theorem sl_88 : Sl Try.prog 88 3 1 := ⟨by kernel_rfl, by kernel_rfl⟩
theorem ty_29 : Ty Try.prog 29 4 true := ⟨by kernel_rfl, by kernel_rfl⟩
theorem ty_32 : Ty Try.prog 32 16 true := ⟨by kernel_rfl, by kernel_rfl⟩
theorem ty_37 : Ty Try.prog 37 8 true := ⟨by kernel_rfl, by kernel_rfl⟩
theorem ty_5 : Ty Try.prog 5 1 false := ⟨by kernel_rfl, by kernel_rfl⟩
end LOrbitFirst
open LOrbitFirst
open Go.ChangeShapes Go.WideShapes Go.ChangeAt
/-- a limit and two numbers. -/
structure RO where
  l : RF
  n : Nat
  m : Nat
  hn : n < 256
  hm : m < 256
def OutA (x : RO) : As := cat [RFA x.l, NumA .u8 (x.n : Nat), NumA .u8 (x.m : Nat)]
theorem cat_thr {B : Nat} {cs : List Value} {w : World} {A0 A1 A2 : As} (h0 : A0.p B ((cs.drop 0).take A0.n) w) (h1 : A1.p B ((cs.drop A0.n).take A1.n) w) (h2 : A2.p B ((cs.drop (A0.n + A1.n)).take A2.n) w) (hl : cs.length = A0.n + (A1.n + A2.n)) : (cat [A0, A1, A2]).p B cs w :=
  cat_of (by simpa using hl) fun k A hk => by
    match k, hk with
    | 0, hk => simp at hk; subst hk; exact h0
    | 1, hk => simp at hk; subst hk; simpa [offs] using h1
    | 2, hk => simp at hk; subst hk; simpa [offs] using h2
section
variable {H : Type} {enc : TypeId × Value → H} {w : World} {base : Nat} {spare : Nat → Bool} {held : Bool} {fuel : Nat} {cs : List Value} {x : DataW H × List MemPlace}
theorem rd_u8 (h : DataW.trod enc Try.prog w base spare held fuel 5 cs = some x) : ∃ n : Nat, n < 256 ∧ (NumA .u8 (n : Nat)).p w.heap.size cs w := by
  obtain ⟨b, hb, _, hw⟩ := DataW.trod_int Try.underlying5 h
  simp [Lit.wf, IntKind.min, IntKind.max, IntKind.signed, IntKind.bits] at hw
  exact ⟨b.toNat, by omega, by rw [Int.toNat_of_nonneg (by omega)]; exact hb⟩
theorem rd_out (h : DataW.trod enc Try.prog w base spare held fuel 55 cs = some x) : ∃ y, (OutA y).p w.heap.size cs w := by
  obtain ⟨xs, n, _, _, hl, hlen, hf⟩ := DataW.trod_struct Try.underlying55 h
  have hl' : cs.length = 6 := hl.trans (by kernel_rfl)
  have c0 : Try.prog.cellsOf 29 = 4 := by kernel_rfl
  have c1 : Try.prog.cellsOf 5 = 1 := by kernel_rfl
  match xs, hlen with
  | [y0, y1, y2], _ =>
    have h0 : DataW.trod enc Try.prog w base spare held n 29 ((cs.drop 0).take (Try.prog.cellsOf 29)) = some y0 := hf 0 _ rfl
    have h1 : DataW.trod enc Try.prog w base spare held n 5 ((cs.drop 4).take (Try.prog.cellsOf 5)) = some y1 := hf 1 _ rfl
    have h2 : DataW.trod enc Try.prog w base spare held n 5 ((cs.drop 5).take (Try.prog.cellsOf 5)) = some y2 := hf 2 _ rfl
    rw [c0] at h0
    rw [c1] at h1 h2
    obtain ⟨a, ha⟩ := rd_rf h0
    obtain ⟨b, qb, hb⟩ := rd_u8 h1
    obtain ⟨c, qc, hc⟩ := rd_u8 h2
    exact ⟨⟨a, b, c, qb, qc⟩, cat_thr ha hb hc hl'⟩
end

theorem fs_in {m : RM} {r : RR} {l : RF} {c : Bool} (h : ((((!true) || (!ftO m r)) || c) || ((if okX l then (0 : Int) else 1) != 0)) = false) : ftO m r = true ∧ okX l = true := by
  simp only [Bool.or_eq_false_iff] at h
  refine ⟨by simpa using h.1.1.2, ?_⟩
  have := h.2
  cases hl : okX l with
  | true => rfl
  | false => rw [hl] at this; simp at this
theorem fs_4 {m : RM} {r : RR} {k : Nat} (hf : fiO m r = true) (hk : k ≤ 4096) (h : ((afO m r (k : Int)).2 != 0) = true) : ((afO m r (k : Int)).2 == 4) = true := by
  rcases af_at hf hk with e | ⟨e, _⟩
  · rw [e]; rfl
  · rw [e] at h; simp at h
theorem fs_x {m : RM} {r : RR} {k : Nat} (hf : fiO m r = true) (hk : k ≤ 4096) (h : ((afO m r (k : Int)).2 != 0) = false) : ∃ X, afO m r (k : Int) = (rrOf X, 0) ∧ X = goQ (powQ (toM m) k) (toY r) ∧ longQ X.y = false ∧ longQ X.u = false := by
  rcases af_at hf hk with e | ⟨e, h2⟩
  · rw [e] at h; exact absurd h (by decide)
  · exact ⟨_, e, rfl, h2⟩
theorem fs_y {m : RM} {r : RR} {k : Nat} {l : RF} (hf : fiO m r = true) (hl : okX l = true) (hk : k ≤ 4096) (hF : farQ (toQ l) (goQ (powQ (toM m) k) (toY r)) = true) (h : (((afO m r (k : Int)).2 != 0) || (!frO (afO m r (k : Int)).1 l)) = true) : ((afO m r (k : Int)).2 == 4) = true := by
  rcases af_at hf hk with e | ⟨e, h2⟩
  · rw [e]; rfl
  · rw [e] at h
    simp only [fr_q h2 hl, hF] at h
    exact absurd h (by decide)
theorem fs_z {m : RM} {r : RR} {k : Nat} {l : RF} (hf : fiO m r = true) (hl : okX l = true) (hk : k ≤ 4096) (hF : farQ (toQ l) (goQ (powQ (toM m) k) (toY r)) = false) : (((afO m r (k : Int)).2 == 4) || (((afO m r (k : Int)).2 == 0) && (!frO (afO m r (k : Int)).1 l))) = true := by
  rcases af_at hf hk with e | ⟨e, h2⟩
  · rw [e]; rfl
  · rw [e]
    simp only [fr_q h2 hl, hF]
    rfl

set_option maxRecDepth 100000 in
set_option maxHeartbeats 4000000 in
theorem first13_w (m : RM) (r : RR) (x : RO) : Cn Try.prog 5 [(RMA m).va, (RRA r).va, (OutA x).va] (Bo true) := by
  have hxn := x.hn
  have hxm := x.hm
  refine Cn.intro Try.func5 rfl (by kernel_rfl) nq (fun B w0 a hst => ?_)
  have hst : St B w0 120 [(0, (RMA m).va), (1, (RRA r).va), (2, (OutA x).va)] [] a w0.w := hst
  refine wp_seq ?_
  refine gl (sts := []) (news := [⟨3, 32, ptrH, some 0, _, none⟩, ⟨4, 37, ptrH, some 1, _, none⟩, ⟨5, 55, ptrH, some 2, _, none⟩]) (sp := [.alc 0, .alc 1, .alc 2, .val 6 _]) [.o 3] hst (oc (ob_box rfl rfl rfl (gq 0 rfl)) (oc (ob_box rfl rfl rfl (gq 1 rfl)) (oc (ob_box rfl rfl rfl (gq 2 rfl)) (oc (ob_v rfl rfl (r_assign has_bo)) o0)))) (fun a w hst => ?_)
  have hst : St B w0 120 [(6, _)] [⟨3, 32, ptrH, _⟩, ⟨4, 37, ptrH, _⟩, ⟨5, 55, ptrH, _⟩] a w := hst
  refine thn_normal ?_
  refine wp_seq ?_
  refine wp_seq ?_
  refine gl (sts := [none, none, none]) (news := []) (sp := [.val 15 _, .val 16 _, .val 17 _, .val 18 (Wh (_ = false) _), .val 19 (Wh (_ = false) _), .val 20 (Wh (_ = false) _), .val 21 (Wh (_ = false) _), .val 22 _, .val 23 _, .adr 24 5 (.some 0) (_ = false), .val 25 (Wh (_ = false) _), .val 26 (Wh (_ = false) _), .val 27 (Wh (_ = false) _), .val 28 (Wh (_ = false) _), .val 29 _, .val 30 _, .adr 31 5 (.some 0) (_ = false), .val 32 (Wh (_ = false) _), .val 33 (Wh (_ = false) _), .val 34 (Wh (_ = false) _), .val 35 _]) [.g 0, .o 20] hst (oc (ob_v rfl rfl (r_call (xs := []) alive13_c .nil)) (oc (ob_v rfl rfl (r_not (vq 0 rfl))) (oc (ob_v rfl rfl (r_move (vq 1 rfl))) (oc (ob_gd rfl rfl rfl (vq 2 rfl) nq (fun hg => r_load (lz0 0 rfl) ty_32)) (oc (ob_gd rfl rfl rfl (vq 2 rfl) nq (fun hg => r_load (lz0 1 rfl) ty_37)) (oc (ob_gd rfl rfl rfl (vq 2 rfl) nq (fun hg => r_call (xs := [.tmp 18, .tmp 19]) (fits13_c m r) (.cons (has_wh (vq 3 rfl) hg) (.cons (has_wh (vq 4 rfl) hg) .nil)))) (oc (ob_gd rfl rfl rfl (vq 2 rfl) nq (fun hg => r_not (has_wh (vq 5 rfl) hg))) (oc (ob_v rfl rfl (r_or (vq 2 rfl) (vq 6 rfl))) (oc (ob_v rfl rfl (r_move (vq 7 rfl))) (oc (ob_ag rfl rfl rfl (vq 8 rfl) nq (fun hg => a_fld (lz0 2 rfl) fld_55_0)) (oc (ob_gd rfl rfl rfl (vq 8 rfl) nq (fun hg => r_loadf 9 rfl (by kernel_rfl) hg (lz0 2 rfl) (Sub.part 0 rfl rfl) ty_29)) (oc (ob_gd rfl rfl rfl (vq 8 rfl) nq (fun hg => r_call (xs := [.tmp 25]) (fracCost_c _) (.cons (has_wh (vq 10 rfl) hg) .nil))) (oc (ob_gd rfl rfl rfl (vq 8 rfl) nq (fun hg => r_slice (D := []) (l := [_]) (xs := [.tmp 26]) (nd_ok (by kernel_rfl)) sl_88 (by kernel_rfl) (n_ok (by kernel_rfl)) nq nq nq (.cons (has_wh (vq 11 rfl) hg) .nil) rfl rfl)) (oc (ob_gd rfl rfl rfl (vq 8 rfl) nq (fun hg => r_call (xs := [.tmp 27]) (beyond_c [_]) (.cons (has_wh (vq 12 rfl) hg) .nil))) (oc (ob_v rfl rfl (r_or (vq 8 rfl) (vq 13 rfl))) (oc (ob_v rfl rfl (r_move (vq 14 rfl))) (oc (ob_ag rfl rfl rfl (vq 15 rfl) nq (fun hg => a_fld (lz0 2 rfl) fld_55_0)) (oc (ob_gd rfl rfl rfl (vq 15 rfl) nq (fun hg => r_loadf 16 rfl (by kernel_rfl) hg (lz0 2 rfl) (Sub.part 0 rfl rfl) ty_29)) (oc (ob_gd rfl rfl rfl (vq 15 rfl) nq (fun hg => r_call (xs := [.tmp 32]) (fracCheck_c _) (.cons (has_wh (vq 17 rfl) hg) .nil))) (oc (ob_gd rfl rfl rfl (vq 15 rfl) nq (fun hg => r_neq (has_wh (vq 18 rfl) hg) has_num)) (oc (ob_v rfl rfl (r_or (vq 15 rfl) (vq 19 rfl))) o0))))))))))))))))))))) (fun a w hst => ?_)
  have hst : St B w0 120 [(6, _), (35, _)] [⟨3, 32, ptrH, _⟩, ⟨4, 37, ptrH, _⟩, ⟨5, 55, ptrH, _⟩] a w := hst
  refine thn_normal ?_
  refine cond_of hst (List.mem_of_getElem? (i := 1) rfl) (fun hb0 => ?_) (fun hb0 => ?_)
  · refine wp_seq ?_
    refine gl (sts := [none, none, none]) (news := []) (sp := [.val 36 _, .val 6 _]) [.o 1] hst (oc (ob_v rfl rfl (r_call (xs := []) alive13_c .nil)) (oc (ob_v rfl rfl (r_assign (vq 0 rfl))) o0)) (fun a w hst => ?_)
    have hst : St B w0 120 [(6, _)] [⟨3, 32, ptrH, _⟩, ⟨4, 37, ptrH, _⟩, ⟨5, 55, ptrH, _⟩] a w := hst
    refine thn_normal ?_
    refine wp_ret ?_
    refine thn_ret ?_
    refine ret_wk ?_ (ret_tmp rfl hst (List.mem_of_getElem? (i := 0) rfl))
    exact wk_id
  · obtain ⟨hft, hol⟩ := fs_in hb0
    have hfi := fi_of hft
    have hk : x.n % 48 ≤ 4096 := by omega
    refine wp_skip ?_
    refine thn_normal ?_
    refine wp_seq ?_
    refine go_draw (anc := [[], [], [], [2], [2, 3], [0, 1, 2, 3, 4], [0, 1, 2, 3, 4, 5], [0, 1, 2, 3, 4, 5, 6], [0, 1, 2, 3, 4, 5, 6], [], [0, 1, 2, 3, 4, 5, 6, 7, 9], [0, 1, 2, 3, 4, 5, 6, 7, 8, 9, 10]]) (sts := [none, none, none]) (news := [⟨7, 37, ptrH, some 9, _, some (10, _)⟩]) (sp := [.val 38 _, .val 39 _, .adr 40 5 (.some 4) True, .val 41 _, .val 42 _, .val 43 _, .val 37 _, .val 44 _, .val 45 _, .alc 3, .sto 3, .val 8 _]) [.g 0, .o 11] follows_mixed hst (oc (ob_v rfl rfl (r_load (lz0 0 rfl) ty_32)) (oc (ob_v rfl rfl (r_load (lz0 1 rfl) ty_37)) (oc (ob_a rfl rfl (a_fld (lz0 2 rfl) fld_55_1)) (oc (ob_v rfl rfl (r_loadf 2 rfl (by kernel_rfl) trivial (lz0 2 rfl) (Sub.part 1 rfl rfl) ty_5)) (oc (ob_v rfl rfl (r_call (xs := [.tmp 41]) (few13_c (x := x.n)) (.cons (vq 3 rfl) .nil))) (oc (ob_v rfl rfl (r_call (xs := [.tmp 38, .tmp 39, .tmp 42]) (after_c m r ((x.n % 48 : Nat) : Int)) (.cons (vq 0 rfl) (.cons (vq 1 rfl) (.cons (vq 4 rfl) .nil))))) (oc (ob_v rfl rfl (r_move (vq 5 rfl))) (oc (ob_v rfl rfl (r_ex0 (vq 6 rfl))) (oc (ob_v rfl rfl (r_ex1 (vq 6 rfl))) (oc (ob_alc rfl rfl rfl (Str.zero str_ray)) (oc (ob_sto rfl rfl rfl (vq 7 rfl) ty_37 (Eq.trans (b := 8) rfl rfl)) (oc (ob_v rfl rfl (r_assign (vq 8 rfl))) o0)))))))))))) (by kernel_rfl) (by kernel_rfl) (by kernel_rfl) (by kernel_rfl) (fun a w hst => ?_)
    have hst : St B w0 120 [(6, _), (8, _)] [⟨3, 32, ptrH, _⟩, ⟨4, 37, ptrH, _⟩, ⟨5, 55, ptrH, _⟩, ⟨7, 37, ptrH, _⟩] a w := hst
    refine thn_normal ?_
    refine wp_seq ?_
    refine wp_seq ?_
    refine gl (sts := [none, none, none, none]) (news := []) (sp := [.val 46 _, .val 47 _]) [.g 0, .g 1, .o 1] hst (oc (ob_v rfl rfl (r_move (gq 1 rfl))) (oc (ob_v rfl rfl (r_neq (vq 0 rfl) has_num)) o0)) (fun a w hst => ?_)
    have hst : St B w0 120 [(6, _), (8, _), (47, _)] [⟨3, 32, ptrH, _⟩, ⟨4, 37, ptrH, _⟩, ⟨5, 55, ptrH, _⟩, ⟨7, 37, ptrH, _⟩] a w := hst
    refine thn_normal ?_
    refine cond_of hst (List.mem_of_getElem? (i := 2) rfl) (fun hb1 => ?_) (fun hb1 => ?_)
    · have hr := fs_4 hfi hk hb1
      refine wp_seq ?_
      refine gl (sts := [none, none, none, none]) (news := []) (sp := [.val 48 _, .val 49 _, .val 6 _]) [.o 2] hst (oc (ob_v rfl rfl (r_move (gq 1 rfl))) (oc (ob_v rfl rfl (r_eql (vq 0 rfl) has_num)) (oc (ob_v rfl rfl (r_assign (vq 1 rfl))) o0))) (fun a w hst => ?_)
      have hst : St B w0 120 [(6, _)] [⟨3, 32, ptrH, _⟩, ⟨4, 37, ptrH, _⟩, ⟨5, 55, ptrH, _⟩, ⟨7, 37, ptrH, _⟩] a w := hst
      refine thn_normal ?_
      refine wp_ret ?_
      refine thn_ret ?_
      refine ret_wk ?_ (ret_tmp rfl hst (List.mem_of_getElem? (i := 0) rfl))
      exact wk_eq (congrArg Bo hr)
    · obtain ⟨X, hX, hX1, hX2⟩ := fs_x hfi hk hb1
      have hst := St.cvA (A' := RRA (rrOf X)) hst 3 rfl (congrArg (fun r : RR × Int => RRA r.1) hX)
      refine wp_skip ?_
      refine thn_normal ?_
      refine wp_seq ?_
      refine wp_seq ?_
      refine gl (sts := [none, none, none, none]) (news := []) (sp := [.val 50 _, .adr 51 5 (.some 0) True, .val 52 _, .val 53 _, .val 54 _]) [.g 0, .o 4] hst (oc (ob_v rfl rfl (r_load (lz0 3 rfl) ty_37)) (oc (ob_a rfl rfl (a_fld (lz0 2 rfl) fld_55_0)) (oc (ob_v rfl rfl (r_loadf 1 rfl (by kernel_rfl) trivial (lz0 2 rfl) (Sub.part 0 rfl rfl) ty_29)) (oc (ob_v rfl rfl (r_call (xs := [.tmp 50, .tmp 52]) (farther13_c _ _) (.cons (vq 0 rfl) (.cons (vq 2 rfl) .nil)))) (oc (ob_v rfl rfl (r_not (vq 3 rfl))) o0))))) (fun a w hst => ?_)
      have hst : St B w0 120 [(6, _), (54, _)] [⟨3, 32, ptrH, _⟩, ⟨4, 37, ptrH, _⟩, ⟨5, 55, ptrH, _⟩, ⟨7, 37, ptrH, _⟩] a w := hst
      refine thn_normal ?_
      refine cond_of hst (List.mem_of_getElem? (i := 1) rfl) (fun hb2 => ?_) (fun hb2 => ?_)
      · refine wp_seq ?_
        refine gl (sts := [none, none, none, none]) (news := []) (sp := [.val 6 _]) [.o 0] hst (oc (ob_v rfl rfl (r_assign has_bo)) o0) (fun a w hst => ?_)
        have hst : St B w0 120 [(6, _)] [⟨3, 32, ptrH, _⟩, ⟨4, 37, ptrH, _⟩, ⟨5, 55, ptrH, _⟩, ⟨7, 37, ptrH, _⟩] a w := hst
        refine thn_normal ?_
        refine wp_ret ?_
        refine thn_ret ?_
        refine ret_wk ?_ (ret_tmp rfl hst (List.mem_of_getElem? (i := 0) rfl))
        exact wk_id
      · have hF : frO (rrOf X) x.l = true := by simpa using hb2
        rw [fr_q hX2 hol, hX1] at hF
        obtain ⟨n, hnk, hle, hn1, hn2⟩ := le_at ⟨hfi, hol⟩ hk hF
        refine wp_skip ?_
        refine thn_normal ?_
        refine wp_seq ?_
        refine gl (sts := [none, none, none, none]) (news := []) (sp := [.val 56 _, .val 57 _, .adr 58 5 (.some 0) True, .val 59 _, .val 60 _, .val 55 _, .val 61 _, .val 62 _, .val 9 _, .val 10 _]) [.g 0, .o 8, .o 9] hst (oc (ob_v rfl rfl (r_load (lz0 0 rfl) ty_32)) (oc (ob_v rfl rfl (r_load (lz0 1 rfl) ty_37)) (oc (ob_a rfl rfl (a_fld (lz0 2 rfl) fld_55_0)) (oc (ob_v rfl rfl (r_loadf 2 rfl (by kernel_rfl) trivial (lz0 2 rfl) (Sub.part 0 rfl rfl) ty_29)) (oc (ob_v rfl rfl (r_call (xs := [.tmp 56, .tmp 57, .tmp 59]) ((leaves_c m r x.l).post (by rw [hle])) (.cons (vq 0 rfl) (.cons (vq 1 rfl) (.cons (vq 3 rfl) .nil))))) (oc (ob_v rfl rfl (r_move (vq 4 rfl))) (oc (ob_v rfl rfl (r_ex0 (vq 5 rfl))) (oc (ob_v rfl rfl (r_ex1 (vq 5 rfl))) (oc (ob_v rfl rfl (r_assign (vq 6 rfl))) (oc (ob_v rfl rfl (r_assign (vq 7 rfl))) o0)))))))))) (fun a w hst => ?_)
        have hst : St B w0 120 [(6, _), (9, _), (10, _)] [⟨3, 32, ptrH, _⟩, ⟨4, 37, ptrH, _⟩, ⟨5, 55, ptrH, _⟩, ⟨7, 37, ptrH, _⟩] a w := hst
        refine thn_normal ?_
        refine wp_seq ?_
        refine wp_seq ?_
        refine gl (sts := [none, none, none, none]) (news := []) (sp := [.val 63 _, .val 64 _, .val 65 _, .val 66 (Wh (_ = false) _), .val 67 (Wh (_ = false) _), .val 68 _, .val 69 _, .val 70 (Wh (_ = false) _), .adr 71 5 (.some 4) (_ = false), .val 72 (Wh (_ = false) _), .val 73 (Wh (_ = false) _), .val 74 (Wh (_ = false) _), .val 75 _]) [.g 0, .g 1, .o 12] hst (oc (ob_v rfl rfl (r_move (gq 2 rfl))) (oc (ob_v rfl rfl (r_neq (vq 0 rfl) has_num)) (oc (ob_v rfl rfl (r_move (vq 1 rfl))) (oc (ob_gd rfl rfl rfl (vq 2 rfl) nq (fun hg => r_move (gq 1 rfl))) (oc (ob_gd rfl rfl rfl (vq 2 rfl) nq (fun hg => r_lss (has_wh (vq 3 rfl) hg) has_num)) (oc (ob_v rfl rfl (r_or (vq 2 rfl) (vq 4 rfl))) (oc (ob_v rfl rfl (r_move (vq 5 rfl))) (oc (ob_gd rfl rfl rfl (vq 6 rfl) nq (fun hg => r_move (gq 1 rfl))) (oc (ob_ag rfl rfl rfl (vq 6 rfl) nq (fun hg => a_fld (lz0 2 rfl) fld_55_1)) (oc (ob_gd rfl rfl rfl (vq 6 rfl) nq (fun hg => r_loadf 8 rfl (by kernel_rfl) hg (lz0 2 rfl) (Sub.part 1 rfl rfl) ty_5)) (oc (ob_gd rfl rfl rfl (vq 6 rfl) nq (fun hg => r_call (xs := [.tmp 72]) (few13_c (x := x.n)) (.cons (has_wh (vq 9 rfl) hg) .nil))) (oc (ob_gd rfl rfl rfl (vq 6 rfl) nq (fun hg => r_gtr (has_wh (vq 7 rfl) hg) (has_wh (vq 10 rfl) hg))) (oc (ob_v rfl rfl (r_or (vq 6 rfl) (vq 11 rfl))) o0))))))))))))) (fun a w hst => ?_)
        have hst : St B w0 120 [(6, _), (9, _), (75, _)] [⟨3, 32, ptrH, _⟩, ⟨4, 37, ptrH, _⟩, ⟨5, 55, ptrH, _⟩, ⟨7, 37, ptrH, _⟩] a w := hst
        refine thn_normal ?_
        refine cond_of hst (List.mem_of_getElem? (i := 2) rfl) (fun hb3 => ?_) (fun hb3 => ?_)
        · exfalso; simp at hb3; omega
        · refine wp_skip ?_
          refine thn_normal ?_
          refine wp_seq ?_
          refine gl (sts := [none, none, none, none]) (news := [⟨11, 37, ptrH, some 7, _, some (8, _)⟩]) (sp := [.val 77 _, .val 78 _, .val 79 _, .val 80 _, .val 76 _, .val 81 _, .val 82 _, .alc 4, .sto 4, .val 12 _]) [.g 0, .g 1, .o 9] hst (oc (ob_v rfl rfl (r_load (lz0 0 rfl) ty_32)) (oc (ob_v rfl rfl (r_load (lz0 1 rfl) ty_37)) (oc (ob_v rfl rfl (r_move (gq 1 rfl))) (oc (ob_v rfl rfl (r_call (xs := [.tmp 77, .tmp 78, .tmp 79]) (after_c m r (n : Int)) (.cons (vq 0 rfl) (.cons (vq 1 rfl) (.cons (vq 2 rfl) .nil))))) (oc (ob_v rfl rfl (r_move (vq 3 rfl))) (oc (ob_v rfl rfl (r_ex0 (vq 4 rfl))) (oc (ob_v rfl rfl (r_ex1 (vq 4 rfl))) (oc (ob_alc rfl rfl rfl (Str.zero str_ray)) (oc (ob_sto rfl rfl rfl (vq 5 rfl) ty_37 (Eq.trans (b := 8) rfl rfl)) (oc (ob_v rfl rfl (r_assign (vq 6 rfl))) o0)))))))))) (fun a w hst => ?_)
          have hst : St B w0 120 [(6, _), (9, _), (12, _)] [⟨3, 32, ptrH, _⟩, ⟨4, 37, ptrH, _⟩, ⟨5, 55, ptrH, _⟩, ⟨7, 37, ptrH, _⟩, ⟨11, 37, ptrH, _⟩] a w := hst
          refine thn_normal ?_
          refine wp_seq ?_
          refine wp_seq ?_
          refine gl (sts := [none, none, none, none, none]) (news := []) (sp := [.val 83 _, .val 84 _, .val 85 _, .val 86 (Wh (_ = false) _), .adr 87 5 (.some 0) (_ = false), .val 88 (Wh (_ = false) _), .val 89 (Wh (_ = false) _), .val 90 (Wh (_ = false) _), .val 91 _]) [.g 0, .g 1, .g 2, .o 8] hst (oc (ob_v rfl rfl (r_move (gq 2 rfl))) (oc (ob_v rfl rfl (r_neq (vq 0 rfl) has_num)) (oc (ob_v rfl rfl (r_move (vq 1 rfl))) (oc (ob_gd rfl rfl rfl (vq 2 rfl) nq (fun hg => r_load (lz0 4 rfl) ty_37)) (oc (ob_ag rfl rfl rfl (vq 2 rfl) nq (fun hg => a_fld (lz0 2 rfl) fld_55_0)) (oc (ob_gd rfl rfl rfl (vq 2 rfl) nq (fun hg => r_loadf 4 rfl (by kernel_rfl) hg (lz0 2 rfl) (Sub.part 0 rfl rfl) ty_29)) (oc (ob_gd rfl rfl rfl (vq 2 rfl) nq (fun hg => r_call (xs := [.tmp 86, .tmp 88]) (farther13_c _ _) (.cons (has_wh (vq 3 rfl) hg) (.cons (has_wh (vq 5 rfl) hg) .nil)))) (oc (ob_gd rfl rfl rfl (vq 2 rfl) nq (fun hg => r_not (has_wh (vq 6 rfl) hg))) (oc (ob_v rfl rfl (r_or (vq 2 rfl) (vq 7 rfl))) o0))))))))) (fun a w hst => ?_)
          have hst : St B w0 120 [(6, _), (9, _), (12, _), (91, _)] [⟨3, 32, ptrH, _⟩, ⟨4, 37, ptrH, _⟩, ⟨5, 55, ptrH, _⟩, ⟨7, 37, ptrH, _⟩, ⟨11, 37, ptrH, _⟩] a w := hst
          refine thn_normal ?_
          refine cond_of hst (List.mem_of_getElem? (i := 3) rfl) (fun hb4 => ?_) (fun hb4 => ?_)
          · have hr := fs_y hfi hol (by omega) hn1 hb4
            refine wp_seq ?_
            refine gl (sts := [none, none, none, none, none]) (news := []) (sp := [.val 92 _, .val 93 _, .val 6 _]) [.g 1, .o 2] hst (oc (ob_v rfl rfl (r_move (gq 2 rfl))) (oc (ob_v rfl rfl (r_eql (vq 0 rfl) has_num)) (oc (ob_v rfl rfl (r_assign (vq 1 rfl))) o0))) (fun a w hst => ?_)
            have hst : St B w0 120 [(9, _), (6, _)] [⟨3, 32, ptrH, _⟩, ⟨4, 37, ptrH, _⟩, ⟨5, 55, ptrH, _⟩, ⟨7, 37, ptrH, _⟩, ⟨11, 37, ptrH, _⟩] a w := hst
            refine thn_normal ?_
            refine wp_ret ?_
            refine thn_ret ?_
            refine ret_wk ?_ (ret_tmp rfl hst (List.mem_of_getElem? (i := 1) rfl))
            exact wk_eq (congrArg Bo hr)
          · refine wp_skip ?_
            refine thn_normal ?_
            refine wp_seq ?_
            refine wp_seq ?_
            refine gl (sts := [none, none, none, none, none]) (news := []) (sp := [.val 94 _, .val 95 _]) [.g 0, .g 1, .o 1] hst (oc (ob_v rfl rfl (r_move (gq 1 rfl))) (oc (ob_v rfl rfl (r_eql (vq 0 rfl) has_num)) o0)) (fun a w hst => ?_)
            have hst : St B w0 120 [(6, _), (9, _), (95, _)] [⟨3, 32, ptrH, _⟩, ⟨4, 37, ptrH, _⟩, ⟨5, 55, ptrH, _⟩, ⟨7, 37, ptrH, _⟩, ⟨11, 37, ptrH, _⟩] a w := hst
            refine thn_normal ?_
            refine cond_of hst (List.mem_of_getElem? (i := 2) rfl) (fun hb5 => ?_) (fun hb5 => ?_)
            · refine wp_seq ?_
              refine gl (sts := [none, none, none, none, none]) (news := []) (sp := [.val 6 _]) [.g 1, .o 0] hst (oc (ob_v rfl rfl (r_assign has_bo)) o0) (fun a w hst => ?_)
              have hst : St B w0 120 [(9, _), (6, _)] [⟨3, 32, ptrH, _⟩, ⟨4, 37, ptrH, _⟩, ⟨5, 55, ptrH, _⟩, ⟨7, 37, ptrH, _⟩, ⟨11, 37, ptrH, _⟩] a w := hst
              refine thn_normal ?_
              refine wp_ret ?_
              refine thn_ret ?_
              refine ret_wk ?_ (ret_tmp rfl hst (List.mem_of_getElem? (i := 1) rfl))
              exact wk_id
            · have hn0 : n ≠ 0 := by simpa using hb5
              refine wp_skip ?_
              refine thn_normal ?_
              refine wp_seq ?_
              refine go_draw (anc := [[], [], [], [2], [2, 3], [], [2, 3, 4, 5], [0, 1, 2, 3, 4, 5, 6], [0, 1, 2, 3, 4, 5, 6, 7], [0, 1, 2, 3, 4, 5, 6, 7, 8], [0, 1, 2, 3, 4, 5, 6, 7, 8], [], [0, 1, 2, 3, 4, 5, 6, 7, 8, 9, 11], [0, 1, 2, 3, 4, 5, 6, 7, 8, 9, 10, 11, 12]]) (sts := [none, none, none, none, none]) (news := [⟨13, 37, ptrH, some 11, _, some (12, _)⟩]) (sp := [.val 97 _, .val 98 _, .adr 99 5 (.some 5) True, .val 100 _, .val 101 _, .val 102 _, .val 103 _, .val 104 _, .val 96 _, .val 105 _, .val 106 _, .alc 5, .sto 5, .val 14 _]) [.g 0, .o 13] follows_mixed hst (oc (ob_v rfl rfl (r_load (lz0 0 rfl) ty_32)) (oc (ob_v rfl rfl (r_load (lz0 1 rfl) ty_37)) (oc (ob_a rfl rfl (a_fld (lz0 2 rfl) fld_55_2)) (oc (ob_v rfl rfl (r_loadf 2 rfl (by kernel_rfl) trivial (lz0 2 rfl) (Sub.part 2 rfl rfl) ty_5)) (oc (ob_v rfl rfl (r_convk .i64 (by kernel_rfl) (by kernel_rfl) (vq 3 rfl) (wi64 (by omega) (by omega)))) (oc (ob_v rfl rfl (r_move (gq 1 rfl))) (oc (ob_v rfl rfl (r_rem (vq 4 rfl) (vq 5 rfl) (by omega) (nrem (y := n)))) (oc (ob_v rfl rfl (r_call (xs := [.tmp 97, .tmp 98, .tmp 103]) (after_c m r ((x.m % n : Nat) : Int)) (.cons (vq 0 rfl) (.cons (vq 1 rfl) (.cons (vq 6 rfl) .nil))))) (oc (ob_v rfl rfl (r_move (vq 7 rfl))) (oc (ob_v rfl rfl (r_ex0 (vq 8 rfl))) (oc (ob_v rfl rfl (r_ex1 (vq 8 rfl))) (oc (ob_alc rfl rfl rfl (Str.zero str_ray)) (oc (ob_sto rfl rfl rfl (vq 9 rfl) ty_37 (Eq.trans (b := 8) rfl rfl)) (oc (ob_v rfl rfl (r_assign (vq 10 rfl))) o0)))))))))))))) (by kernel_rfl) (by kernel_rfl) (by kernel_rfl) (by kernel_rfl) (fun a w hst => ?_)
              have hst : St B w0 120 [(6, _), (14, _)] [⟨3, 32, ptrH, _⟩, ⟨4, 37, ptrH, _⟩, ⟨5, 55, ptrH, _⟩, ⟨7, 37, ptrH, _⟩, ⟨11, 37, ptrH, _⟩, ⟨13, 37, ptrH, _⟩] a w := hst
              refine thn_normal ?_
              refine wp_seq ?_
              refine gl (sts := [none, none, none, none, none, none]) (news := []) (sp := [.val 107 _, .val 108 _, .val 109 _, .val 110 (Wh (_ = false) _), .val 111 (Wh (_ = false) _), .val 112 (Wh (_ = false) _), .val 113 (Wh ((_ = false) ∧ _ = true) _), .adr 114 5 (.some 0) ((_ = false) ∧ _ = true), .val 115 (Wh ((_ = false) ∧ _ = true) _), .val 116 (Wh ((_ = false) ∧ _ = true) _), .val 117 (Wh ((_ = false) ∧ _ = true) _), .val 118 (Wh (_ = false) _), .val 119 _, .val 6 _]) [.o 13] hst (oc (ob_v rfl rfl (r_move (gq 1 rfl))) (oc (ob_v rfl rfl (r_eql (vq 0 rfl) has_num)) (oc (ob_v rfl rfl (r_move (vq 1 rfl))) (oc (ob_gd rfl rfl rfl (vq 2 rfl) nq (fun hg => r_move (gq 1 rfl))) (oc (ob_gd rfl rfl rfl (vq 2 rfl) nq (fun hg => r_eql (has_wh (vq 3 rfl) hg) has_num)) (oc (ob_gd rfl rfl rfl (vq 2 rfl) nq (fun hg => r_move (has_wh (vq 4 rfl) hg))) (oc (ob_gd2 rfl rfl rfl (vq 5 rfl) nq (fun hg => r_load (lz0 5 rfl) ty_37)) (oc (ob_ag2 rfl rfl rfl (vq 5 rfl) nq (fun hg => a_fld (lz0 2 rfl) fld_55_0)) (oc (ob_gd2 rfl rfl rfl (vq 5 rfl) nq (fun hg => r_loadf 7 rfl (by kernel_rfl) hg (lz0 2 rfl) (Sub.part 0 rfl rfl) ty_29)) (oc (ob_gd2 rfl rfl rfl (vq 5 rfl) nq (fun hg => r_call (xs := [.tmp 113, .tmp 115]) (farther13_c _ _) (.cons (has_wh (vq 6 rfl) hg) (.cons (has_wh (vq 8 rfl) hg) .nil)))) (oc (ob_gd2 rfl rfl rfl (vq 5 rfl) nq (fun hg => r_not (has_wh (vq 9 rfl) hg))) (oc (ob_gd rfl rfl rfl (vq 2 rfl) nq (fun hg => r_and (has_wh (vq 5 rfl) hg) (has_wh2 (vq 10 rfl) hg))) (oc (ob_v rfl rfl (r_or (vq 2 rfl) (vq 11 rfl))) (oc (ob_v rfl rfl (r_assign (vq 12 rfl))) o0)))))))))))))) (fun a w hst => ?_)
              have hst : St B w0 120 [(6, _)] [⟨3, 32, ptrH, _⟩, ⟨4, 37, ptrH, _⟩, ⟨5, 55, ptrH, _⟩, ⟨7, 37, ptrH, _⟩, ⟨11, 37, ptrH, _⟩, ⟨13, 37, ptrH, _⟩] a w := hst
              refine thn_normal ?_
              refine wp_ret ?_
              refine ret_wk ?_ (ret_tmp rfl hst (List.mem_of_getElem? (i := 0) rfl))
              exact wk_eq (congrArg Bo (fs_z hfi hol (by have := Nat.mod_lt x.m (Nat.pos_of_ne_zero hn0); omega) (hn2 _ (Nat.mod_lt _ (Nat.pos_of_ne_zero hn0)))))

open Go.ChangeShapes Go.WideShapes Go.ChangeAt
open Go.ChangeMaps (open_string shut_string)
set_option linter.unusedVariables false
theorem own : ownKnob Try.prog.godebug = none := by kernel_rfl
theorem laidOut : laidOutB Try.prog = true := by kernel_rfl
set_option maxRecDepth 100000 in
theorem lifted (os : Os) (started : os.Started) (H : Type) (enc : TypeId × Value → H) :
    ReturnsInHanded {} Try.checked os 5 .any (Rows.orbitFirstSpec.pre6 enc Try.prog Try.f5 Rows.orbitFirstRow.domain false) (Rows.orbitFirstSpec.post enc Try.prog Try.f5 false true false false) := by
  refine returnsInHanded_of_change (C := Try.checked) own started (by kernel_rfl) Try.func5
    (ChangeSpec.witness6 (enc := enc) (C := Try.checked) false ⟨#[], #[.agg #[.bool false, .slice none 0 0, .bool false, .slice none 0 0, .bool false, .slice none 0 0, .bool false, .slice none 0 0, .bool false, .slice none 0 0, .bool false, .slice none 0 0, .bool false, .slice none 0 0, .bool false, .slice none 0 0], .agg #[.bool false, .slice none 0 0, .bool false, .slice none 0 0, .bool false, .slice none 0 0, .bool false, .slice none 0 0], .agg #[.bool false, .slice none 0 0, .bool false, .slice none 0 0, .int .u8 0, .int .u8 0]], []⟩ 8 (by kernel_rfl) (by kernel_rfl) (by kernel_rfl) (by kernel_rfl)) ?_
  intro W base args ds gs before hval0 hW hcnd _
  have hval : ∀ (j : Nat) t v, Try.f5.params[j]? = some t → args[j]? = some v → Value.okWide Try.prog W .any base t v := hval0
  have hW' := hW
  obtain ⟨p, q, hA0, hV, rfl, hfz, hnd⟩ := hW
  have hA : DataW.TrodAll enc Try.prog W 0 (fun _ => true) true Try.f5.params.toList args.toList ds p := hA0
  rw [Try.params5] at hA hval
  obtain ⟨v0, vs0, d0, ds0, p0, q0, hargs, rfl, rfl, h0, r0⟩ := trodAll_cons hA
  obtain ⟨v1, vs1, d1, ds1, p1, q1, rfl, rfl, rfl, h1, r1⟩ := trodAll_cons r0
  obtain ⟨v2, vs2, d2, ds2, p2, q2, rfl, rfl, rfl, h2, r2⟩ := trodAll_cons r1
  obtain ⟨rfl, rfl, rfl⟩ := trodAll_nil r2
  obtain rfl : args = #[v0, v1, v2] := by cases args; simp_all
  obtain ⟨rfl, rfl⟩ := trodVars_none hV
  have k0 := h0
  have lt0 : ∀ x ∈ p0, x.block < W.heap.size := by obtain ⟨m, hm⟩ := k0; exact DataW.trod_lt m _ _ _ hm
  have k1 := h1
  have lt1 : ∀ x ∈ p1, x.block < W.heap.size := by obtain ⟨m, hm⟩ := k1; exact DataW.trod_lt m _ _ _ hm
  have k2 := h2
  have lt2 : ∀ x ∈ p2, x.block < W.heap.size := by obtain ⟨m, hm⟩ := k2; exact DataW.trod_lt m _ _ _ hm
  obtain ⟨x0, a0⟩ := arg_of (A := RMA) (fun _ => rfl) Try.underlying32 rd_rm (hval 0 32 v0 rfl rfl) h0
  obtain ⟨x1, a1⟩ := arg_of (A := RRA) (fun _ => rfl) Try.underlying37 rd_rr (hval 1 37 v1 rfl rfl) h1
  obtain ⟨x2, a2⟩ := arg_of (A := OutA) (fun _ => rfl) Try.underlying55 rd_out (hval 2 55 v2 rfl rfl) h2
  clear hA0 hval0
  refine ((first13_w x0 x1 x2).2 W.heap.size W [v0, v1, v2] (Nat.le_refl _) (.cons a0 (.cons a1 (.cons a2 .nil)))).mono fun e W' ⟨v, he, hv, bel⟩ => ?_
  have hv' := bo_val hv
  subst hv' he
  exact ⟨_, rfl, _, _, _, [], _, [], hW', trodAll_mk1 (shut_bool Try.underlying4 _), (trodAll_cons_mk (Below.trod laidOut (by kernel_rfl) (of_decide_eq_true (by kernel_rfl)) k0 bel lt0) (trodAll_cons_mk (Below.trod laidOut (by kernel_rfl) (of_decide_eq_true (by kernel_rfl)) k1 bel lt1) (trodAll_cons_mk (Below.trod laidOut (by kernel_rfl) (of_decide_eq_true (by kernel_rfl)) k2 bel lt2) trodAll_mk0))), rfl, bel.frame _, fun h => by cases h⟩
theorem over : Rows.orbitFirstRow.holds Try.pinned (OpenSpec.ofChange Rows.orbitFirstSpec) :=
  OpenClaim.holds_of_wide 5 Try.f5 rfl rfl rfl rfl rfl rfl rfl ⟨rfl, rfl, rfl, rfl, rfl⟩ rfl rfl rfl rfl rfl (by kernel_rfl) Try.func5 (by kernel_rfl)
    (of_decide_eq_true (by kernel_rfl)) (by unfold Func.isWrapper; rw [if_neg (of_decide_eq_false (by kernel_rfl))]; exact ⟨rfl, rfl⟩)
    (fun os started H enc _ => lifted os started H enc)
theorem provedOrbitFirst : Rows.OrbitFirstSaid := over
#print axioms provedOrbitFirst

end Go.Proofs.Ytiflajpmipejnaa
