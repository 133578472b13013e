/- OrbitWild: for all small whole numbers the law of chapter 13 on the matrices t, -1, 1, 0 answers true. No condition. -/
import Derived.Test.YtiflajpmipejnaaOrbL
import Derived.Test.YtiflajpmipejnaaRows
import Derived.WalkKit
import Derived.ProofKit
import Derived.OpenShut
import Derived.ShutString
import Derived.ChangeOld
import Derived.Below
namespace Go.Proofs.Ytiflajpmipejnaa
open Go Go.RowKit
namespace LOrbitWild
theorem fld_46_0 : Fld Try.prog 46 0 0 1 := ⟨_, _, Try.underlying46, rfl, rfl, by kernel_rfl, by decide⟩
theorem fld_46_1 : Fld Try.prog 46 1 1 1 := ⟨_, _, Try.underlying46, rfl, rfl, by kernel_rfl, by decide⟩
theorem fld_46_2 : Fld Try.prog 46 2 2 1 := ⟨_, _, Try.underlying46, rfl, rfl, by kernel_rfl, by decide⟩
theorem fld_46_3 : Fld Try.prog 46 3 3 1 := ⟨_, _, Try.underlying46, rfl, rfl, by kernel_rfl, by decide⟩
theorem ty_22 : Ty Try.prog 22 1 false := ⟨by kernel_rfl, by kernel_rfl⟩
theorem ty_32 : Ty Try.prog 32 16 true := ⟨by kernel_rfl, by kernel_rfl⟩
theorem ty_37 : Ty Try.prog 37 8 true := ⟨by kernel_rfl, by kernel_rfl⟩
theorem ty_5 : Ty Try.prog 5 1 false := ⟨by kernel_rfl, by kernel_rfl⟩
end LOrbitWild
open LOrbitWild
open Go.ChangeShapes Go.WideShapes Go.ChangeAt
/-- three small whole numbers and a limit. -/
structure RWd where
  t : Int
  y : Int
  u : Int
  l : Nat
  ok : WdOk t y u l
def WildA (x : RWd) : As := cat [NumA .i8 x.t, NumA .i8 x.y, NumA .i8 x.u, NumA .u8 (x.l : Nat)]
section
variable {H : Type} {enc : TypeId × Value → H} {w : World} {base : Nat} {spare : Nat → Bool} {held : Bool} {fuel : Nat} {cs : List Value} {x : DataW H × List MemPlace}
theorem rd_u8 (h : DataW.trod enc Try.prog w base spare held fuel 5 cs = some x) : ∃ n : Nat, n < 256 ∧ (NumA .u8 (n : Nat)).p w.heap.size cs w := by
  obtain ⟨b, hb, _, hw⟩ := DataW.trod_int Try.underlying5 h
  simp [Lit.wf, IntKind.min, IntKind.max, IntKind.signed, IntKind.bits] at hw
  exact ⟨b.toNat, by omega, by rw [Int.toNat_of_nonneg (by omega)]; exact hb⟩
theorem rd_i8 (h : DataW.trod enc Try.prog w base spare held fuel 22 cs = some x) : ∃ n : Int, (-128 ≤ n ∧ n < 128) ∧ (NumA .i8 n).p w.heap.size cs w := by
  obtain ⟨b, hb, _, hw⟩ := DataW.trod_int Try.underlying22 h
  simp [Lit.wf, IntKind.min, IntKind.max, IntKind.signed, IntKind.bits] at hw
  exact ⟨b, by omega, hb⟩
theorem rd_wild (h : DataW.trod enc Try.prog w base spare held fuel 46 cs = some x) : ∃ y, (WildA y).p w.heap.size cs w := by
  obtain ⟨xs, n, _, _, hl, hlen, hf⟩ := DataW.trod_struct Try.underlying46 h
  have hl' : cs.length = 4 := hl.trans (by kernel_rfl)
  have c0 : Try.prog.cellsOf 22 = 1 := by kernel_rfl
  have c1 : Try.prog.cellsOf 5 = 1 := by kernel_rfl
  match xs, hlen with
  | [y0, y1, y2, y3], _ =>
    have h0 : DataW.trod enc Try.prog w base spare held n 22 ((cs.drop 0).take (Try.prog.cellsOf 22)) = some y0 := hf 0 _ rfl
    have h1 : DataW.trod enc Try.prog w base spare held n 22 ((cs.drop 1).take (Try.prog.cellsOf 22)) = some y1 := hf 1 _ rfl
    have h2 : DataW.trod enc Try.prog w base spare held n 22 ((cs.drop 2).take (Try.prog.cellsOf 22)) = some y2 := hf 2 _ rfl
    have h3 : DataW.trod enc Try.prog w base spare held n 5 ((cs.drop 3).take (Try.prog.cellsOf 5)) = some y3 := hf 3 _ rfl
    rw [c0] at h0 h1 h2
    rw [c1] at h3
    obtain ⟨a, qa, ha⟩ := rd_i8 h0
    obtain ⟨b, qb, hb⟩ := rd_i8 h1
    obtain ⟨c, qc, hc⟩ := rd_i8 h2
    obtain ⟨d, qd, hd⟩ := rd_u8 h3
    exact ⟨⟨a, b, c, d, ⟨qa, qb, qc, qd⟩⟩, cat_four ha hb hc hd hl'⟩
end

/-! what is answered -/
def wle (t y u : Int) (l : Nat) : Int × Int := leO (wm t) (wr y u) (rfOf (Rat.divInt (l : Int) 1))
section
variable {t y u : Int} {l : Nat}
theorem wd_zero (h : WdOk t y u l) (hb : ((y == 0) && (u == 0)) = true) : (staQ (wQ t) (yQ y u) && ((wle t y u l).2 == 7)) = true := by
  simp at hb
  obtain ⟨rfl, rfl⟩ := hb
  rw [ws_zero, wle, h.zero]
  rfl
theorem wd_wild (h : WdOk t y u l) (h0 : ((y == 0) && (u == 0)) = false) (hb : (decide (t > 2) || decide (t < -2)) = true) : (((!staQ (wQ t) (yQ y u)) && ((wle t y u l).2 == 0)) && decide ((wle t y u l).1 ≤ 16)) = true := by
  obtain ⟨e, n, hn, e2⟩ := h.wild (by simp at hb; omega) (by rintro ⟨rfl, rfl⟩; exact absurd h0 (by decide))
  rw [e, wle, e2]
  simp
  omega
theorem wd_two (h : WdOk t y u l) (hb : (t == 2) = true) : (((staQ (wQ t) (yQ y u) == (y == u)) && (((wle t y u l).2 == 0) || ((wle t y u l).2 == 7))) && (staQ (wQ t) (yQ y u) || (((wle t y u l).2 == 0) && decide ((wle t y u l).1 ≤ 600)))) = true := by
  have ht : t = 2 := by simpa using hb
  subst ht
  rw [ws_edge (by decide)]
  by_cases e : y = u
  · have F : foI 2 y u = 0 := by unfold foI; subst e; grind
    rw [decide_eq_true F, wle]
    rcases h.lv with q | ⟨n, q⟩ <;> rw [q] <;> simp [e]
  · have F : foI 2 y u ≠ 0 := fun F => by
      have F2 : (y - u) * (y - u) = 0 := by unfold foI at F; grind
      exact e (by have := (Int.mul_eq_zero.1 F2).elim id id; omega)
    obtain ⟨n, hn, q⟩ := h.far (.inl ⟨rfl, e⟩)
    rw [decide_eq_false F, wle, q]
    simp [e]
    omega
theorem wd_mtwo (h : WdOk t y u l) (hb : (t == -2) = true) : (((staQ (wQ t) (yQ y u) == (y == -u)) && (((wle t y u l).2 == 0) || ((wle t y u l).2 == 7))) && (staQ (wQ t) (yQ y u) || (((wle t y u l).2 == 0) && decide ((wle t y u l).1 ≤ 600)))) = true := by
  have ht : t = -2 := by simpa using hb
  subst ht
  rw [ws_edge (by decide)]
  by_cases e : y = -u
  · have F : foI (-2) y u = 0 := by unfold foI; subst e; grind
    rw [decide_eq_true F, wle]
    rcases h.lv with q | ⟨n, q⟩ <;> rw [q] <;> simp [e]
  · have F : foI (-2) y u ≠ 0 := fun F => by
      have F2 : (y + u) * (y + u) = 0 := by unfold foI at F; grind
      exact e (by have := (Int.mul_eq_zero.1 F2).elim id id; omega)
    obtain ⟨n, hn, q⟩ := h.far (.inr ⟨rfl, e⟩)
    rw [decide_eq_false F, wle, q]
    simp [e]
    omega
theorem wd_round (h : WdOk t y u l) (h1 : (decide (t > 2) || decide (t < -2)) = false) (h2 : (t == 2) = false) (h3 : (t == -2) = false) : (((staQ (wQ t) (yQ y u) && ((afO (wm t) (wr y u) 12).2 == 0)) && decide ((afO (wm t) (wr y u) 12).1 = wr y u)) && (((wle t y u l).2 == 7) || (((wle t y u l).2 == 0) && decide ((wle t y u l).1 ≤ 6)))) = true := by
  have ht : t.natAbs ≤ 1 := by
    simp at h1 h2 h3
    omega
  obtain ⟨e, q⟩ := h.round ht
  rw [ws_pos ht, e, wle]
  rcases q with q | ⟨n, hn, q⟩
  · rw [q]; simp
  · rw [q]; simp; omega
end

set_option maxRecDepth 100000 in
set_option maxHeartbeats 4000000 in
theorem wild13_w (x : RWd) : Cn Try.prog 4 [(WildA x).va] (Bo true) := by
  have hxt := x.ok.t
  have hxy := x.ok.y
  have hxu := x.ok.u
  have hxl := x.ok.l
  refine Cn.intro Try.func4 rfl (by kernel_rfl) nq (fun B w0 a hst => ?_)
  have hst : St B w0 162 [(0, (WildA x).va)] [] a w0.w := hst
  refine wp_seq ?_
  refine gl (sts := []) (news := [⟨1, 46, ptrH, some 0, _, none⟩]) (sp := [.alc 0, .val 2 _]) [.o 1] hst (oc (ob_box rfl rfl rfl (gq 0 rfl)) (oc (ob_v rfl rfl (r_assign has_bo)) o0)) (fun a w hst => ?_)
  have hst : St B w0 162 [(2, _)] [⟨1, 46, ptrH, _⟩] a w := hst
  refine thn_normal ?_
  refine wp_seq ?_
  refine go_draw (anc := [[], [0], [0, 1], [], [3], [3, 4], [], [6], [6, 7], [0, 1, 2], [0, 1, 2, 3, 4, 5, 9], [0, 1, 2, 3, 4, 5, 6, 7, 8, 9, 10]]) (sts := [none]) (news := []) (sp := [.adr 14 1 (.some 0) True, .val 15 _, .val 16 _, .adr 17 1 (.some 1) True, .val 18 _, .val 19 _, .adr 20 1 (.some 2) True, .val 21 _, .val 22 _, .val 3 _, .val 4 _, .val 5 _]) [.g 0, .o 9, .o 10, .o 11] follows_mixed hst (oc (ob_a rfl rfl (a_fld (lz0 0 rfl) fld_46_0)) (oc (ob_v rfl rfl (r_loadf 0 rfl (by kernel_rfl) trivial (lz0 0 rfl) (Sub.part 0 rfl rfl) ty_22)) (oc (ob_v rfl rfl (r_convk .i64 (by kernel_rfl) (by kernel_rfl) (vq 1 rfl) (wi64 (by omega) (by omega)))) (oc (ob_a rfl rfl (a_fld (lz0 0 rfl) fld_46_1)) (oc (ob_v rfl rfl (r_loadf 3 rfl (by kernel_rfl) trivial (lz0 0 rfl) (Sub.part 1 rfl rfl) ty_22)) (oc (ob_v rfl rfl (r_convk .i64 (by kernel_rfl) (by kernel_rfl) (vq 4 rfl) (wi64 (by omega) (by omega)))) (oc (ob_a rfl rfl (a_fld (lz0 0 rfl) fld_46_2)) (oc (ob_v rfl rfl (r_loadf 6 rfl (by kernel_rfl) trivial (lz0 0 rfl) (Sub.part 2 rfl rfl) ty_22)) (oc (ob_v rfl rfl (r_convk .i64 (by kernel_rfl) (by kernel_rfl) (vq 7 rfl) (wi64 (by omega) (by omega)))) (oc (ob_v rfl rfl (r_assign (vq 2 rfl))) (oc (ob_v rfl rfl (r_assign (vq 5 rfl))) (oc (ob_v rfl rfl (r_assign (vq 8 rfl))) o0)))))))))))) (by kernel_rfl) (by kernel_rfl) (by kernel_rfl) (by kernel_rfl) (fun a w hst => ?_)
  have hst : St B w0 162 [(2, _), (3, _), (4, _), (5, _)] [⟨1, 46, ptrH, _⟩] a w := hst
  refine thn_normal ?_
  refine wp_seq ?_
  refine gl (sts := [none]) (news := [⟨6, 32, ptrH, some 2, _, some (3, _)⟩]) (sp := [.val 23 _, .val 24 _, .alc 1, .sto 1]) [.g 0, .g 1, .g 2, .g 3] hst (oc (ob_v rfl rfl (r_move (gq 1 rfl))) (oc (ob_v rfl rfl (r_call (xs := [.tmp 23, .const (.int .i64 (-1)), .const (.int .i64 (1)), .const (.int .i64 (0))]) ((matrix13_c (x := x.t) (y := -1) (z := 1) (u := 0) (by omega) (by decide) (by decide) (by decide)).post (show _ = (RMA (wm x.t)).va from rfl)) (.cons (vq 0 rfl) (.cons has_num (.cons has_num (.cons has_num .nil)))))) (oc (ob_alc rfl rfl rfl (Str.zero str_matrix)) (oc (ob_sto rfl rfl rfl (vq 1 rfl) ty_32 (Eq.trans (b := 16) rfl rfl)) o0)))) (fun a w hst => ?_)
  have hst : St B w0 162 [(2, _), (3, _), (4, _), (5, _)] [⟨1, 46, ptrH, _⟩, ⟨6, 32, ptrH, _⟩] a w := hst
  refine thn_normal ?_
  refine wp_seq ?_
  refine gl (sts := [none, none]) (news := [⟨7, 37, ptrH, some 3, _, some (4, _)⟩]) (sp := [.val 25 _, .val 26 _, .val 27 _, .alc 2, .sto 2]) [.g 0, .g 1, .g 2, .g 3] hst (oc (ob_v rfl rfl (r_move (gq 2 rfl))) (oc (ob_v rfl rfl (r_move (gq 3 rfl))) (oc (ob_v rfl rfl (r_call (xs := [.tmp 25, .tmp 26]) ((aray13_c (x := x.y) (y := x.u) (by omega) (by omega)).post (show _ = (RRA (wr x.y x.u)).va from rfl)) (.cons (vq 0 rfl) (.cons (vq 1 rfl) .nil)))) (oc (ob_alc rfl rfl rfl (Str.zero str_ray)) (oc (ob_sto rfl rfl rfl (vq 2 rfl) ty_37 (Eq.trans (b := 8) rfl rfl)) o0))))) (fun a w hst => ?_)
  have hst : St B w0 162 [(2, _), (3, _), (4, _), (5, _)] [⟨1, 46, ptrH, _⟩, ⟨6, 32, ptrH, _⟩, ⟨7, 37, ptrH, _⟩] a w := hst
  refine thn_normal ?_
  refine wp_seq ?_
  refine gl (sts := [none, none, none]) (news := []) (sp := [.val 29 _, .val 30 _, .val 31 _, .val 28 _, .val 32 _, .val 33 _, .val 8 _, .val 9 _]) [.g 0, .g 1, .g 2, .g 3, .o 6, .o 7] hst (oc (ob_v rfl rfl (r_load (lz0 1 rfl) ty_32)) (oc (ob_v rfl rfl (r_load (lz0 2 rfl) ty_37)) (oc (ob_v rfl rfl (r_call (xs := [.tmp 29, .tmp 30]) ((stays_c (wm x.t) (wr x.y x.u)).post (by rw [x.ok.st])) (.cons (vq 0 rfl) (.cons (vq 1 rfl) .nil)))) (oc (ob_v rfl rfl (r_move (vq 2 rfl))) (oc (ob_v rfl rfl (r_ex0 (vq 3 rfl))) (oc (ob_v rfl rfl (r_ex1 (vq 3 rfl))) (oc (ob_v rfl rfl (r_assign (vq 4 rfl))) (oc (ob_v rfl rfl (r_assign (vq 5 rfl))) o0)))))))) (fun a w hst => ?_)
  have hst : St B w0 162 [(2, _), (3, _), (4, _), (5, _), (8, _), (9, _)] [⟨1, 46, ptrH, _⟩, ⟨6, 32, ptrH, _⟩, ⟨7, 37, ptrH, _⟩] a w := hst
  refine thn_normal ?_
  refine wp_seq ?_
  refine go_draw (anc := [[], [], [], [2], [2, 3], [2, 3, 4], [0, 1, 2, 3, 4, 5], [0, 1, 2, 3, 4, 5, 6], [0, 1, 2, 3, 4, 5, 6, 7], [0, 1, 2, 3, 4, 5, 6, 7], [0, 1, 2, 3, 4, 5, 6, 7, 8], [0, 1, 2, 3, 4, 5, 6, 7, 8, 9, 10]]) (sts := [none, none, none]) (news := []) (sp := [.val 35 _, .val 36 _, .adr 37 1 (.some 3) True, .val 38 _, .val 39 _, .val 40 _, .val 41 _, .val 34 _, .val 42 _, .val 43 _, .val 10 _, .val 11 _]) [.g 0, .g 1, .g 2, .g 3, .g 4, .g 5, .o 10, .o 11] follows_mixed hst (oc (ob_v rfl rfl (r_load (lz0 1 rfl) ty_32)) (oc (ob_v rfl rfl (r_load (lz0 2 rfl) ty_37)) (oc (ob_a rfl rfl (a_fld (lz0 0 rfl) fld_46_3)) (oc (ob_v rfl rfl (r_loadf 2 rfl (by kernel_rfl) trivial (lz0 0 rfl) (Sub.part 3 rfl rfl) ty_5)) (oc (ob_v rfl rfl (r_convk .i64 (by kernel_rfl) (by kernel_rfl) (vq 3 rfl) (wi64 (by omega) (by omega)))) (oc (ob_v rfl rfl (r_call (xs := [.tmp 39]) (small13_c (p := (x.l : Int)) (by omega)) (.cons (vq 4 rfl) .nil))) (oc (ob_v rfl rfl (r_call (xs := [.tmp 35, .tmp 36, .tmp 40]) ((leaves_c (wm x.t) (wr x.y x.u) (rfOf (Rat.divInt (x.l : Int) 1))).post (show _ = Tu [In (wle x.t x.y x.u x.l).1, In (wle x.t x.y x.u x.l).2] from rfl)) (.cons (vq 0 rfl) (.cons (vq 1 rfl) (.cons (vq 5 rfl) .nil))))) (oc (ob_v rfl rfl (r_move (vq 6 rfl))) (oc (ob_v rfl rfl (r_ex0 (vq 7 rfl))) (oc (ob_v rfl rfl (r_ex1 (vq 7 rfl))) (oc (ob_v rfl rfl (r_assign (vq 8 rfl))) (oc (ob_v rfl rfl (r_assign (vq 9 rfl))) o0)))))))))))) (by kernel_rfl) (by kernel_rfl) (by kernel_rfl) (by kernel_rfl) (fun a w hst => ?_)
  have hst : St B w0 162 [(2, _), (3, _), (4, _), (5, _), (8, _), (9, _), (10, _), (11, _)] [⟨1, 46, ptrH, _⟩, ⟨6, 32, ptrH, _⟩, ⟨7, 37, ptrH, _⟩] a w := hst
  refine thn_normal ?_
  refine wp_seq ?_
  refine wp_seq ?_
  refine gl (sts := [none, none, none]) (news := []) (sp := [.val 44 _, .val 45 _, .val 46 _, .val 47 (Wh (_ = false) _), .val 48 (Wh (_ = false) _), .val 49 _]) [.g 0, .g 1, .g 2, .g 3, .g 4, .g 6, .g 7, .o 5] hst (oc (ob_v rfl rfl (r_call (xs := []) alive13_c .nil)) (oc (ob_v rfl rfl (r_not (vq 0 rfl))) (oc (ob_v rfl rfl (r_move (vq 1 rfl))) (oc (ob_gd rfl rfl rfl (vq 2 rfl) nq (fun hg => r_move (gq 5 rfl))) (oc (ob_gd rfl rfl rfl (vq 2 rfl) nq (fun hg => r_neq (has_wh (vq 3 rfl) hg) has_num)) (oc (ob_v rfl rfl (r_or (vq 2 rfl) (vq 4 rfl))) o0)))))) (fun a w hst => ?_)
  have hst : St B w0 162 [(2, _), (3, _), (4, _), (5, _), (8, _), (10, _), (11, _), (49, _)] [⟨1, 46, ptrH, _⟩, ⟨6, 32, ptrH, _⟩, ⟨7, 37, ptrH, _⟩] a w := hst
  refine thn_normal ?_
  refine cond_of hst (List.mem_of_getElem? (i := 7) rfl) (fun hb0 => ?_) (fun hb0 => ?_)
  · simp at hb0
  · refine wp_skip ?_
    refine thn_normal ?_
    refine wp_seq ?_
    refine wp_block ?_
    refine wp_seq ?_
    refine gl (sts := [none, none, none]) (news := []) (sp := [.val 51 _, .val 52 _, .val 53 _, .val 54 (Wh (_ = true) _), .val 55 (Wh (_ = true) _), .val 56 _, .val 50 _]) [.g 0, .g 1, .g 2, .g 3, .g 4, .g 5, .g 6, .o 6] hst (oc (ob_v rfl rfl (r_move (gq 2 rfl))) (oc (ob_v rfl rfl (r_eql (vq 0 rfl) has_num)) (oc (ob_v rfl rfl (r_move (vq 1 rfl))) (oc (ob_gd rfl rfl rfl (vq 2 rfl) nq (fun hg => r_move (gq 3 rfl))) (oc (ob_gd rfl rfl rfl (vq 2 rfl) nq (fun hg => r_eql (has_wh (vq 3 rfl) hg) has_num)) (oc (ob_v rfl rfl (r_and (vq 2 rfl) (vq 4 rfl))) (oc (ob_v rfl rfl (r_assign (vq 5 rfl))) o0))))))) (fun a w hst => ?_)
    have hst : St B w0 162 [(2, _), (3, _), (4, _), (5, _), (8, _), (10, _), (11, _), (50, _)] [⟨1, 46, ptrH, _⟩, ⟨6, 32, ptrH, _⟩, ⟨7, 37, ptrH, _⟩] a w := hst
    refine thn_normal ?_
    refine cond_of hst (List.mem_of_getElem? (i := 7) rfl) (fun hb1 => ?_) (fun hb1 => ?_)
    · have hr := wd_zero x.ok hb1
      refine wp_seq ?_
      refine gl (sts := [none, none, none]) (news := []) (sp := [.val 57 _, .val 58 _, .val 59 (Wh (_ = true) _), .val 60 (Wh (_ = true) _), .val 61 _, .val 2 _]) [.g 4, .g 5, .g 6, .o 5] hst (oc (ob_v rfl rfl (r_move (gq 4 rfl))) (oc (ob_v rfl rfl (r_move (vq 0 rfl))) (oc (ob_gd rfl rfl rfl (vq 1 rfl) nq (fun hg => r_move (gq 6 rfl))) (oc (ob_gd rfl rfl rfl (vq 1 rfl) nq (fun hg => r_eql (has_wh (vq 2 rfl) hg) has_num)) (oc (ob_v rfl rfl (r_and (vq 1 rfl) (vq 3 rfl))) (oc (ob_v rfl rfl (r_assign (vq 4 rfl))) o0)))))) (fun a w hst => ?_)
      have hst : St B w0 162 [(8, _), (10, _), (11, _), (2, _)] [⟨1, 46, ptrH, _⟩, ⟨6, 32, ptrH, _⟩, ⟨7, 37, ptrH, _⟩] a w := hst
      refine thn_normal ?_
      refine wp_ret ?_
      refine blk_ret ?_
      refine thn_ret ?_
      refine ret_wk ?_ (ret_tmp rfl hst (List.mem_of_getElem? (i := 3) rfl))
      exact wk_eq (congrArg Bo hr)
    · refine wp_seq ?_
      refine gl (sts := [none, none, none]) (news := []) (sp := [.val 63 _, .val 64 _, .val 65 _, .val 66 (Wh (_ = false) _), .val 67 (Wh (_ = false) _), .val 68 _, .val 62 _]) [.g 0, .g 1, .g 2, .g 3, .g 4, .g 5, .g 6, .o 6] hst (oc (ob_v rfl rfl (r_move (gq 1 rfl))) (oc (ob_v rfl rfl (r_gtr (vq 0 rfl) has_num)) (oc (ob_v rfl rfl (r_move (vq 1 rfl))) (oc (ob_gd rfl rfl rfl (vq 2 rfl) nq (fun hg => r_move (gq 1 rfl))) (oc (ob_gd rfl rfl rfl (vq 2 rfl) nq (fun hg => r_lss (has_wh (vq 3 rfl) hg) has_num)) (oc (ob_v rfl rfl (r_or (vq 2 rfl) (vq 4 rfl))) (oc (ob_v rfl rfl (r_assign (vq 5 rfl))) o0))))))) (fun a w hst => ?_)
      have hst : St B w0 162 [(2, _), (3, _), (4, _), (5, _), (8, _), (10, _), (11, _), (62, _)] [⟨1, 46, ptrH, _⟩, ⟨6, 32, ptrH, _⟩, ⟨7, 37, ptrH, _⟩] a w := hst
      refine thn_normal ?_
      refine cond_of hst (List.mem_of_getElem? (i := 7) rfl) (fun hb2 => ?_) (fun hb2 => ?_)
      · have hr := wd_wild x.ok hb1 hb2
        refine wp_seq ?_
        refine gl (sts := [none, none, none]) (news := []) (sp := [.val 69 _, .val 70 _, .val 71 _, .val 72 (Wh (_ = true) _), .val 73 (Wh (_ = true) _), .val 74 _, .val 75 _, .val 76 (Wh (_ = true) _), .val 77 (Wh (_ = true) _), .val 78 _, .val 2 _]) [.g 4, .g 5, .g 6, .o 10] hst (oc (ob_v rfl rfl (r_move (gq 4 rfl))) (oc (ob_v rfl rfl (r_not (vq 0 rfl))) (oc (ob_v rfl rfl (r_move (vq 1 rfl))) (oc (ob_gd rfl rfl rfl (vq 2 rfl) nq (fun hg => r_move (gq 6 rfl))) (oc (ob_gd rfl rfl rfl (vq 2 rfl) nq (fun hg => r_eql (has_wh (vq 3 rfl) hg) has_num)) (oc (ob_v rfl rfl (r_and (vq 2 rfl) (vq 4 rfl))) (oc (ob_v rfl rfl (r_move (vq 5 rfl))) (oc (ob_gd rfl rfl rfl (vq 6 rfl) nq (fun hg => r_move (gq 5 rfl))) (oc (ob_gd rfl rfl rfl (vq 6 rfl) nq (fun hg => r_leq (has_wh (vq 7 rfl) hg) has_num)) (oc (ob_v rfl rfl (r_and (vq 6 rfl) (vq 8 rfl))) (oc (ob_v rfl rfl (r_assign (vq 9 rfl))) o0))))))))))) (fun a w hst => ?_)
        have hst : St B w0 162 [(8, _), (10, _), (11, _), (2, _)] [⟨1, 46, ptrH, _⟩, ⟨6, 32, ptrH, _⟩, ⟨7, 37, ptrH, _⟩] a w := hst
        refine thn_normal ?_
        refine wp_ret ?_
        refine blk_ret ?_
        refine thn_ret ?_
        refine ret_wk ?_ (ret_tmp rfl hst (List.mem_of_getElem? (i := 3) rfl))
        exact wk_eq (congrArg Bo hr)
      · refine wp_seq ?_
        refine gl (sts := [none, none, none]) (news := []) (sp := [.val 80 _, .val 81 _, .val 79 _]) [.g 0, .g 1, .g 2, .g 3, .g 4, .g 5, .g 6, .o 2] hst (oc (ob_v rfl rfl (r_move (gq 1 rfl))) (oc (ob_v rfl rfl (r_eql (vq 0 rfl) has_num)) (oc (ob_v rfl rfl (r_assign (vq 1 rfl))) o0))) (fun a w hst => ?_)
        have hst : St B w0 162 [(2, _), (3, _), (4, _), (5, _), (8, _), (10, _), (11, _), (79, _)] [⟨1, 46, ptrH, _⟩, ⟨6, 32, ptrH, _⟩, ⟨7, 37, ptrH, _⟩] a w := hst
        refine thn_normal ?_
        refine cond_of hst (List.mem_of_getElem? (i := 7) rfl) (fun hb3 => ?_) (fun hb3 => ?_)
        · have hr := wd_two x.ok hb3
          refine wp_seq ?_
          refine gl (sts := [none, none, none]) (news := []) (sp := ((.val 82 _ : Sp) :: (.val 83 _) :: (.val 84 _) :: (.val 85 _) :: (.val 86 _) :: (.val 87 _) :: (.val 88 (Wh (_ = true) _)) :: (.val 89 (Wh (_ = true) _)) :: (.val 90 (Wh (_ = true) _)) :: (.val 91 (Wh ((_ = true) ∧ _ = false) _)) :: (.val 92 (Wh ((_ = true) ∧ _ = false) _)) :: (.val 93 (Wh (_ = true) _)) :: (.val 94 _) :: (.val 95 _) :: (.val 96 (Wh (_ = true) _)) :: (.val 97 (Wh (_ = true) _)) :: (.val 98 (Wh ((_ = true) ∧ _ = false) _)) :: (.val 99 (Wh ((_ = true) ∧ _ = false) _)) :: (.val 100 (Wh ((_ = true) ∧ _ = false) _)) :: (.val 101 (Wh (((_ = true) ∧ _ = false) ∧ _ = true) _)) :: (.val 102 (Wh (((_ = true) ∧ _ = false) ∧ _ = true) _)) :: (.val 103 (Wh ((_ = true) ∧ _ = false) _)) :: (.val 104 (Wh (_ = true) _)) :: (.val 105 _) :: (.val 2 _) :: [])) [.g 4, .g 5, .g 6, .o 24] hst (oc (ob_v rfl rfl (r_move (gq 4 rfl))) (oc (ob_v rfl rfl (r_move (gq 2 rfl))) (oc (ob_v rfl rfl (r_move (gq 3 rfl))) (oc (ob_v rfl rfl (r_eql (vq 1 rfl) (vq 2 rfl))) (oc (ob_v rfl rfl (r_eqlb (by kernel_rfl) (vq 0 rfl) (vq 3 rfl))) (oc (ob_v rfl rfl (r_move (vq 4 rfl))) (oc (ob_gd rfl rfl rfl (vq 5 rfl) nq (fun hg => r_move (gq 6 rfl))) (oc (ob_gd rfl rfl rfl (vq 5 rfl) nq (fun hg => r_eql (has_wh (vq 6 rfl) hg) has_num)) (oc (ob_gd rfl rfl rfl (vq 5 rfl) nq (fun hg => r_move (has_wh (vq 7 rfl) hg))) (oc (ob_gd2 rfl rfl rfl (vq 8 rfl) nq (fun hg => r_move (gq 6 rfl))) (oc (ob_gd2 rfl rfl rfl (vq 8 rfl) nq (fun hg => r_eql (has_wh (vq 9 rfl) hg) has_num)) (oc (ob_gd rfl rfl rfl (vq 5 rfl) nq (fun hg => r_or (has_wh (vq 8 rfl) hg) (has_wh2 (vq 10 rfl) hg))) (oc (ob_v rfl rfl (r_and (vq 5 rfl) (vq 11 rfl))) (oc (ob_v rfl rfl (r_move (vq 12 rfl))) (oc (ob_gd rfl rfl rfl (vq 13 rfl) nq (fun hg => r_move (gq 4 rfl))) (oc (ob_gd rfl rfl rfl (vq 13 rfl) nq (fun hg => r_move (has_wh (vq 14 rfl) hg))) (oc (ob_gd2 rfl rfl rfl (vq 15 rfl) nq (fun hg => r_move (gq 6 rfl))) (oc (ob_gd2 rfl rfl rfl (vq 15 rfl) nq (fun hg => r_eql (has_wh (vq 16 rfl) hg) has_num)) (oc (ob_gd2 rfl rfl rfl (vq 15 rfl) nq (fun hg => r_move (has_wh (vq 17 rfl) hg))) (oc (ob_gd2 rfl rfl rfl (vq 18 rfl) nq (fun hg => r_move (gq 5 rfl))) (oc (ob_gd2 rfl rfl rfl (vq 18 rfl) nq (fun hg => r_leq (has_wh (vq 19 rfl) hg) has_num)) (oc (ob_gd2 rfl rfl rfl (vq 15 rfl) nq (fun hg => r_and (has_wh (vq 18 rfl) hg) (has_wh2 (vq 20 rfl) hg))) (oc (ob_gd rfl rfl rfl (vq 13 rfl) nq (fun hg => r_or (has_wh (vq 15 rfl) hg) (has_wh2 (vq 21 rfl) hg))) (oc (ob_v rfl rfl (r_and (vq 13 rfl) (vq 22 rfl))) (oc (ob_v rfl rfl (r_assign (vq 23 rfl))) o0))))))))))))))))))))))))) (fun a w hst => ?_)
          have hst : St B w0 162 [(8, _), (10, _), (11, _), (2, _)] [⟨1, 46, ptrH, _⟩, ⟨6, 32, ptrH, _⟩, ⟨7, 37, ptrH, _⟩] a w := hst
          refine thn_normal ?_
          refine wp_ret ?_
          refine blk_ret ?_
          refine thn_ret ?_
          refine ret_wk ?_ (ret_tmp rfl hst (List.mem_of_getElem? (i := 3) rfl))
          exact wk_eq (congrArg Bo hr)
        · refine wp_seq ?_
          refine gl (sts := [none, none, none]) (news := []) (sp := [.val 107 _, .val 108 _, .val 106 _]) [.g 0, .g 2, .g 3, .g 4, .g 5, .g 6, .o 2] hst (oc (ob_v rfl rfl (r_move (gq 1 rfl))) (oc (ob_v rfl rfl (r_eql (vq 0 rfl) has_num)) (oc (ob_v rfl rfl (r_assign (vq 1 rfl))) o0))) (fun a w hst => ?_)
          have hst : St B w0 162 [(2, _), (4, _), (5, _), (8, _), (10, _), (11, _), (106, _)] [⟨1, 46, ptrH, _⟩, ⟨6, 32, ptrH, _⟩, ⟨7, 37, ptrH, _⟩] a w := hst
          refine thn_normal ?_
          refine cond_of hst (List.mem_of_getElem? (i := 6) rfl) (fun hb4 => ?_) (fun hb4 => ?_)
          · have hr := wd_mtwo x.ok hb4
            refine wp_seq ?_
            refine gl (sts := [none, none, none]) (news := []) (sp := ((.val 109 _ : Sp) :: (.val 110 _) :: (.val 111 _) :: (.val 112 _) :: (.val 113 _) :: (.val 114 _) :: (.val 115 _) :: (.val 116 (Wh (_ = true) _)) :: (.val 117 (Wh (_ = true) _)) :: (.val 118 (Wh (_ = true) _)) :: (.val 119 (Wh ((_ = true) ∧ _ = false) _)) :: (.val 120 (Wh ((_ = true) ∧ _ = false) _)) :: (.val 121 (Wh (_ = true) _)) :: (.val 122 _) :: (.val 123 _) :: (.val 124 (Wh (_ = true) _)) :: (.val 125 (Wh (_ = true) _)) :: (.val 126 (Wh ((_ = true) ∧ _ = false) _)) :: (.val 127 (Wh ((_ = true) ∧ _ = false) _)) :: (.val 128 (Wh ((_ = true) ∧ _ = false) _)) :: (.val 129 (Wh (((_ = true) ∧ _ = false) ∧ _ = true) _)) :: (.val 130 (Wh (((_ = true) ∧ _ = false) ∧ _ = true) _)) :: (.val 131 (Wh ((_ = true) ∧ _ = false) _)) :: (.val 132 (Wh (_ = true) _)) :: (.val 133 _) :: (.val 2 _) :: [])) [.g 3, .g 4, .g 5, .o 25] hst (oc (ob_v rfl rfl (r_move (gq 3 rfl))) (oc (ob_v rfl rfl (r_move (gq 1 rfl))) (oc (ob_v rfl rfl (r_move (gq 2 rfl))) (oc (ob_v rfl rfl (r_neg (vq 2 rfl) ((wi64 (by omega) (by omega)).trans (by omega : (0 - x.u : Int) = -x.u)))) (oc (ob_v rfl rfl (r_eql (vq 1 rfl) (vq 3 rfl))) (oc (ob_v rfl rfl (r_eqlb (by kernel_rfl) (vq 0 rfl) (vq 4 rfl))) (oc (ob_v rfl rfl (r_move (vq 5 rfl))) (oc (ob_gd rfl rfl rfl (vq 6 rfl) nq (fun hg => r_move (gq 5 rfl))) (oc (ob_gd rfl rfl rfl (vq 6 rfl) nq (fun hg => r_eql (has_wh (vq 7 rfl) hg) has_num)) (oc (ob_gd rfl rfl rfl (vq 6 rfl) nq (fun hg => r_move (has_wh (vq 8 rfl) hg))) (oc (ob_gd2 rfl rfl rfl (vq 9 rfl) nq (fun hg => r_move (gq 5 rfl))) (oc (ob_gd2 rfl rfl rfl (vq 9 rfl) nq (fun hg => r_eql (has_wh (vq 10 rfl) hg) has_num)) (oc (ob_gd rfl rfl rfl (vq 6 rfl) nq (fun hg => r_or (has_wh (vq 9 rfl) hg) (has_wh2 (vq 11 rfl) hg))) (oc (ob_v rfl rfl (r_and (vq 6 rfl) (vq 12 rfl))) (oc (ob_v rfl rfl (r_move (vq 13 rfl))) (oc (ob_gd rfl rfl rfl (vq 14 rfl) nq (fun hg => r_move (gq 3 rfl))) (oc (ob_gd rfl rfl rfl (vq 14 rfl) nq (fun hg => r_move (has_wh (vq 15 rfl) hg))) (oc (ob_gd2 rfl rfl rfl (vq 16 rfl) nq (fun hg => r_move (gq 5 rfl))) (oc (ob_gd2 rfl rfl rfl (vq 16 rfl) nq (fun hg => r_eql (has_wh (vq 17 rfl) hg) has_num)) (oc (ob_gd2 rfl rfl rfl (vq 16 rfl) nq (fun hg => r_move (has_wh (vq 18 rfl) hg))) (oc (ob_gd2 rfl rfl rfl (vq 19 rfl) nq (fun hg => r_move (gq 4 rfl))) (oc (ob_gd2 rfl rfl rfl (vq 19 rfl) nq (fun hg => r_leq (has_wh (vq 20 rfl) hg) has_num)) (oc (ob_gd2 rfl rfl rfl (vq 16 rfl) nq (fun hg => r_and (has_wh (vq 19 rfl) hg) (has_wh2 (vq 21 rfl) hg))) (oc (ob_gd rfl rfl rfl (vq 14 rfl) nq (fun hg => r_or (has_wh (vq 16 rfl) hg) (has_wh2 (vq 22 rfl) hg))) (oc (ob_v rfl rfl (r_and (vq 14 rfl) (vq 23 rfl))) (oc (ob_v rfl rfl (r_assign (vq 24 rfl))) o0)))))))))))))))))))))))))) (fun a w hst => ?_)
            have hst : St B w0 162 [(8, _), (10, _), (11, _), (2, _)] [⟨1, 46, ptrH, _⟩, ⟨6, 32, ptrH, _⟩, ⟨7, 37, ptrH, _⟩] a w := hst
            refine thn_normal ?_
            refine wp_ret ?_
            refine blk_ret ?_
            refine thn_ret ?_
            refine ret_wk ?_ (ret_tmp rfl hst (List.mem_of_getElem? (i := 3) rfl))
            exact wk_eq (congrArg Bo hr)
          · have hr := wd_round x.ok hb2 hb3 hb4
            refine wp_skip ?_
            refine blk_normal ?_
            refine thn_normal ?_
            refine wp_seq ?_
            refine gl (sts := [none, none, none]) (news := [⟨12, 37, ptrH, some 6, _, some (7, _)⟩]) (sp := [.val 135 _, .val 136 _, .val 137 _, .val 134 _, .val 138 _, .val 139 _, .alc 3, .sto 3, .val 13 _]) [.g 0, .g 3, .g 4, .g 5, .o 8] hst (oc (ob_v rfl rfl (r_load (lz0 1 rfl) ty_32)) (oc (ob_v rfl rfl (r_load (lz0 2 rfl) ty_37)) (oc (ob_v rfl rfl (r_call (xs := [.tmp 135, .tmp 136, .const (.int .i64 (12))]) (after_c (wm x.t) (wr x.y x.u) 12) (.cons (vq 0 rfl) (.cons (vq 1 rfl) (.cons has_num .nil))))) (oc (ob_v rfl rfl (r_move (vq 2 rfl))) (oc (ob_v rfl rfl (r_ex0 (vq 3 rfl))) (oc (ob_v rfl rfl (r_ex1 (vq 3 rfl))) (oc (ob_alc rfl rfl rfl (Str.zero str_ray)) (oc (ob_sto rfl rfl rfl (vq 4 rfl) ty_37 (Eq.trans (b := 8) rfl rfl)) (oc (ob_v rfl rfl (r_assign (vq 5 rfl))) o0))))))))) (fun a w hst => ?_)
            have hst : St B w0 162 [(2, _), (8, _), (10, _), (11, _), (13, _)] [⟨1, 46, ptrH, _⟩, ⟨6, 32, ptrH, _⟩, ⟨7, 37, ptrH, _⟩, ⟨12, 37, ptrH, _⟩] a w := hst
            refine thn_normal ?_
            refine wp_seq ?_
            refine gl (sts := [none, none, none, none]) (news := []) (sp := [.val 140 _, .val 141 _, .val 142 (Wh (_ = true) _), .val 143 (Wh (_ = true) _), .val 144 _, .val 145 _, .val 146 (Wh (_ = true) _), .val 147 (Wh (_ = true) _), .val 148 (Wh (_ = true) _), .val 149 _, .val 150 _, .val 151 (Wh (_ = true) _), .val 152 (Wh (_ = true) _), .val 153 (Wh (_ = true) _), .val 154 (Wh ((_ = true) ∧ _ = false) _), .val 155 (Wh ((_ = true) ∧ _ = false) _), .val 156 (Wh ((_ = true) ∧ _ = false) _), .val 157 (Wh (((_ = true) ∧ _ = false) ∧ _ = true) _), .val 158 (Wh (((_ = true) ∧ _ = false) ∧ _ = true) _), .val 159 (Wh ((_ = true) ∧ _ = false) _), .val 160 (Wh (_ = true) _), .val 161 _, .val 2 _]) [.o 22] hst (oc (ob_v rfl rfl (r_move (gq 1 rfl))) (oc (ob_v rfl rfl (r_move (vq 0 rfl))) (oc (ob_gd rfl rfl rfl (vq 1 rfl) nq (fun hg => r_move (gq 4 rfl))) (oc (ob_gd rfl rfl rfl (vq 1 rfl) nq (fun hg => r_eql (has_wh (vq 2 rfl) hg) has_num)) (oc (ob_v rfl rfl (r_and (vq 1 rfl) (vq 3 rfl))) (oc (ob_v rfl rfl (r_move (vq 4 rfl))) (oc (ob_gd rfl rfl rfl (vq 5 rfl) nq (fun hg => r_load (lz0 3 rfl) ty_37)) (oc (ob_gd rfl rfl rfl (vq 5 rfl) nq (fun hg => r_load (lz0 2 rfl) ty_37)) (oc (ob_gd rfl rfl rfl (vq 5 rfl) nq (fun hg => r_call (xs := [.tmp 146, .tmp 147]) (sameRay_c _ _) (.cons (has_wh (vq 6 rfl) hg) (.cons (has_wh (vq 7 rfl) hg) .nil)))) (oc (ob_v rfl rfl (r_and (vq 5 rfl) (vq 8 rfl))) (oc (ob_v rfl rfl (r_move (vq 9 rfl))) (oc (ob_gd rfl rfl rfl (vq 10 rfl) nq (fun hg => r_move (gq 3 rfl))) (oc (ob_gd rfl rfl rfl (vq 10 rfl) nq (fun hg => r_eql (has_wh (vq 11 rfl) hg) has_num)) (oc (ob_gd rfl rfl rfl (vq 10 rfl) nq (fun hg => r_move (has_wh (vq 12 rfl) hg))) (oc (ob_gd2 rfl rfl rfl (vq 13 rfl) nq (fun hg => r_move (gq 3 rfl))) (oc (ob_gd2 rfl rfl rfl (vq 13 rfl) nq (fun hg => r_eql (has_wh (vq 14 rfl) hg) has_num)) (oc (ob_gd2 rfl rfl rfl (vq 13 rfl) nq (fun hg => r_move (has_wh (vq 15 rfl) hg))) (oc (ob_gd2 rfl rfl rfl (vq 16 rfl) nq (fun hg => r_move (gq 2 rfl))) (oc (ob_gd2 rfl rfl rfl (vq 16 rfl) nq (fun hg => r_leq (has_wh (vq 17 rfl) hg) has_num)) (oc (ob_gd2 rfl rfl rfl (vq 13 rfl) nq (fun hg => r_and (has_wh (vq 16 rfl) hg) (has_wh2 (vq 18 rfl) hg))) (oc (ob_gd rfl rfl rfl (vq 10 rfl) nq (fun hg => r_or (has_wh (vq 13 rfl) hg) (has_wh2 (vq 19 rfl) hg))) (oc (ob_v rfl rfl (r_and (vq 10 rfl) (vq 20 rfl))) (oc (ob_v rfl rfl (r_assign (vq 21 rfl))) o0))))))))))))))))))))))) (fun a w hst => ?_)
            have hst : St B w0 162 [(2, _)] [⟨1, 46, ptrH, _⟩, ⟨6, 32, ptrH, _⟩, ⟨7, 37, ptrH, _⟩, ⟨12, 37, ptrH, _⟩] a w := hst
            refine thn_normal ?_
            refine wp_ret ?_
            refine ret_wk ?_ (ret_tmp rfl hst (List.mem_of_getElem? (i := 0) rfl))
            exact wk_eq (congrArg Bo hr)

open Go.ChangeShapes Go.WideShapes Go.ChangeAt
open Go.ChangeMaps (open_string shut_string)
set_option linter.unusedVariables false
theorem own : ownKnob Try.prog.godebug = none := by kernel_rfl
theorem laidOut : laidOutB Try.prog = true := by kernel_rfl
set_option maxRecDepth 100000 in
theorem lifted (os : Os) (started : os.Started) (H : Type) (enc : TypeId × Value → H) :
    ReturnsInHanded {} Try.checked os 4 .any (Rows.orbitWildSpec.pre6 enc Try.prog Try.f4 Rows.orbitWildRow.domain false) (Rows.orbitWildSpec.post enc Try.prog Try.f4 false true false false) := by
  refine returnsInHanded_of_change (C := Try.checked) own started (by kernel_rfl) Try.func4
    (ChangeSpec.witness6 (enc := enc) (C := Try.checked) false ⟨#[], #[.agg #[.int .i8 0, .int .i8 0, .int .i8 0, .int .u8 0]], []⟩ 8 (by kernel_rfl) (by kernel_rfl) (by kernel_rfl) (by kernel_rfl)) ?_
  intro W base args ds gs before hval0 hW hcnd _
  have hval : ∀ (j : Nat) t v, Try.f4.params[j]? = some t → args[j]? = some v → Value.okWide Try.prog W .any base t v := hval0
  have hW' := hW
  obtain ⟨p, q, hA0, hV, rfl, hfz, hnd⟩ := hW
  have hA : DataW.TrodAll enc Try.prog W 0 (fun _ => true) true Try.f4.params.toList args.toList ds p := hA0
  rw [Try.params4] at hA hval
  obtain ⟨v0, vs0, d0, ds0, p0, q0, hargs, rfl, rfl, h0, r0⟩ := trodAll_cons hA
  obtain ⟨rfl, rfl, rfl⟩ := trodAll_nil r0
  obtain rfl : args = #[v0] := by cases args; simp_all
  obtain ⟨rfl, rfl⟩ := trodVars_none hV
  have k0 := h0
  have lt0 : ∀ x ∈ p0, x.block < W.heap.size := by obtain ⟨m, hm⟩ := k0; exact DataW.trod_lt m _ _ _ hm
  obtain ⟨x0, a0⟩ := arg_of (A := WildA) (fun _ => rfl) Try.underlying46 rd_wild (hval 0 46 v0 rfl rfl) h0
  clear hA0 hval0
  refine ((wild13_w x0).2 W.heap.size W [v0] (Nat.le_refl _) (.cons a0 .nil)).mono fun e W' ⟨v, he, hv, bel⟩ => ?_
  have hv' := bo_val hv
  subst hv' he
  exact ⟨_, rfl, _, _, _, [], _, [], hW', trodAll_mk1 (shut_bool Try.underlying4 _), (trodAll_cons_mk (Below.trod laidOut (by kernel_rfl) (of_decide_eq_true (by kernel_rfl)) k0 bel lt0) trodAll_mk0), rfl, bel.frame _, fun h => by cases h⟩
theorem over : Rows.orbitWildRow.holds Try.pinned (OpenSpec.ofChange Rows.orbitWildSpec) :=
  OpenClaim.holds_of_wide 4 Try.f4 rfl rfl rfl rfl rfl rfl rfl ⟨rfl, rfl, rfl, rfl, rfl⟩ rfl rfl rfl rfl rfl (by kernel_rfl) Try.func4 (by kernel_rfl)
    (of_decide_eq_true (by kernel_rfl)) (by unfold Func.isWrapper; rw [if_neg (of_decide_eq_false (by kernel_rfl))]; exact ⟨rfl, rfl⟩)
    (fun os started H enc _ => lifted os started H enc)
theorem provedOrbitWild : Rows.OrbitWildSaid := over
#print axioms provedOrbitWild

end Go.Proofs.Ytiflajpmipejnaa
