/- Contract of orbit.Leaves. -/
import Derived.Test.YtmghfjcjcfaagaaGreatOrbE
import Derived.Test.YtmghfjcjcfaagaaGreatRayL
namespace Go.Proofs.YtmghfjcjcfaagaaGreat
open Go Go.RowKit
namespace OrbH
theorem fld_24_0 : Fld Tryz.prog 24 0 0 1 := ⟨_, _, Tryz.underlying24, rfl, rfl, by kernel_rfl, by decide⟩
theorem fld_26_0 : Fld Tryz.prog 26 0 0 2 := ⟨_, _, Tryz.underlying26, rfl, rfl, by kernel_rfl, by decide⟩
theorem fld_26_1 : Fld Tryz.prog 26 1 2 2 := ⟨_, _, Tryz.underlying26, rfl, rfl, by kernel_rfl, by decide⟩
theorem ty_24 : Ty Tryz.prog 24 2 true := ⟨by kernel_rfl, by kernel_rfl⟩
theorem ty_26 : Ty Tryz.prog 26 4 true := ⟨by kernel_rfl, by kernel_rfl⟩
theorem ty_28 : Ty Tryz.prog 28 16 true := ⟨by kernel_rfl, by kernel_rfl⟩
theorem ty_3 : Ty Tryz.prog 3 1 false := ⟨by kernel_rfl, by kernel_rfl⟩
theorem ty_30 : Ty Tryz.prog 30 8 true := ⟨by kernel_rfl, by kernel_rfl⟩
theorem ty_38 : Ty Tryz.prog 38 1 false := ⟨by kernel_rfl, by kernel_rfl⟩
theorem ty_4 : Ty Tryz.prog 4 1 false := ⟨by kernel_rfl, by kernel_rfl⟩
theorem ty_78 : Ty Tryz.prog 78 4 true := ⟨by kernel_rfl, by kernel_rfl⟩
end OrbH
open OrbH
theorem le_in {m : RM} {r : RR} {l : RF} (h : ((!fiO m r) || ((if okX l then (0 : Int) else 1) != 0)) = false) : fiO m r = true ∧ okX l = true := by
  simp only [Bool.or_eq_false_iff] at h
  refine ⟨by simpa using h.1, ?_⟩
  have := h.2
  cases hl : okX l with
  | true => rfl
  | false => rw [hl] at this; simp at this
theorem le_no {m : RM} {r : RR} {l : RF} (h : ((!fiO m r) || ((if okX l then (0 : Int) else 1) != 0)) = true) : leO m r l = (0, 1) := by
  rw [leO, if_neg]
  intro h2
  rw [Bool.and_eq_true] at h2
  rw [h2.1, h2.2] at h
  simp at h

theorem far_some {l : Rat} {p : Int × Int} {d : Int} {j : Nat} (h : far1 l (if j = 0 then p.1 else p.2) d = true) : farO l p d = true := by
  unfold farO
  by_cases h0 : j = 0
  · rw [if_pos h0] at h
    rw [h]; rfl
  · rw [if_neg h0] at h
    rw [h, Bool.or_true]
theorem far_none {l : Rat} {p : Int × Int} {d : Int} (h : ∀ i, i < 2 → far1 l (if i = 0 then p.1 else p.2) d = false) : farO l p d = false := by
  have h0 := h 0 (by decide)
  have h1 := h 1 (by decide)
  unfold farO
  simp at h0 h1
  rw [h0, h1]; rfl
theorem all_nx2 {F : Nat → Bool} {j : Nat} (h : ∀ i, i < j → F i = false) (h2 : F j = false) : ∀ i, i < j + 1 → F i = false := fun i hi => by
  rcases Nat.lt_or_ge i j with h1 | h1
  · exact h i h1
  · have e : i = j := by omega
    rw [e]; exact h2
theorem abs_ri (z : Int) : riOf ((z.natAbs : Nat) : Int) = ⟨false, (riOf z).mag⟩ := by simp [riOf]
theorem abs_wk {z : Int} {c : Nat} (h : lz z ≤ c) : WkA (cat [BoA false, MgA (riOf z).mag]) (ZA c ((z.natAbs : Nat) : Int)) := ⟨rfl, rfl, fun B cs w hp => by
  refine ⟨by unfold lz at *; simpa using h, ?_⟩
  rw [abs_ri]
  exact hp⟩
theorem le_none {m : RM} {r : RR} {l : RF} (h : fiO m r = true ∧ okX l = true) (hn : ∀ i, i < 4097 → farK m r l i = false) : leO m r l = (0, 7) := by
  rw [leO, h.1, h.2, fst_none hn]
  rfl
theorem le_some {m : RM} {r : RR} {l : RF} {k : Nat} (h : fiO m r = true ∧ okX l = true) (hn : (List.range 4097).find? (farK m r l) = some k) : leO m r l = (((fstK m r l : Nat) : Int), 0) := by
  rw [fstK, leO, h.1, h.2, hn]
  rfl

set_option maxRecDepth 100000 in
theorem leaves_c (m : RM) (r : RR) (lm : RF) : Cn Tryz.prog 14 [(RMA m).va, (RRA r).va, (RFA lm).va] (Tu [In (leO m r lm).1, In (leO m r lm).2]) := by
  refine Cn.introR Tryz.func14 rfl (by kernel_rfl) nq (.cons (cat_up (.cons (upA_rf _) (.cons (upA_rf _) (.cons (upA_rf _) (.cons (upA_rf _) .nil))))).va (.cons (cat_up (.cons (upA_rf _) (.cons (upA_rf _) .nil))).va (.cons (upA_rf _).va .nil))) (free_tu (.cons (free_num _ _).va (.cons (free_num _ _).va .nil))) (fun B w0 a hB0 hN0 hst => ?_)
  have hst : St B w0 50 [(0, (RMA m).va), (1, (RRA r).va), (2, (RFA lm).va)] [] a w0.w := hst
  refine wp_seq ?_
  refine gl (sts := []) (news := [⟨3, 28, ptrH, some 0, _, none⟩, ⟨4, 30, ptrH, some 1, _, none⟩, ⟨5, 26, ptrH, some 2, _, none⟩, ⟨6, 3, ptrH, some 3, _, none⟩, ⟨7, 38, ptrH, some 4, _, none⟩]) (sp := [.alc 0, .alc 1, .alc 2, .alc 3, .alc 4]) [] hst (oc (ob_box rfl rfl rfl (gq 0 rfl)) (oc (ob_box rfl rfl rfl (gq 1 rfl)) (oc (ob_box rfl rfl rfl (gq 2 rfl)) (oc (ob_alc rfl rfl rfl zero_i3) (oc (ob_alc rfl rfl rfl zero_i38) o0))))) (fun a w hst => ?_)
  have hst : St B w0 50 [] [⟨3, 28, ptrH, _⟩, ⟨4, 30, ptrH, _⟩, ⟨5, 26, ptrH, _⟩, ⟨6, 3, ptrH, _⟩, ⟨7, 38, ptrH, _⟩] a w := hst
  refine thn_normal ?_
  refine wp_seq ?_
  refine wp_seq ?_
  refine gl (sts := [none, none, none, none, none]) (news := []) (sp := [.val 14 _, .val 15 _, .val 16 _, .val 17 _, .val 18 _, .val 19 (Wh (_ = false) _), .val 20 (Wh (_ = false) _), .val 21 (Wh (_ = false) _), .val 22 _]) [.o 8] hst (oc (ob_v rfl rfl (r_load (lz0 0 rfl) ty_28)) (oc (ob_v rfl rfl (r_load (lz0 1 rfl) ty_30)) (oc (ob_v rfl rfl (r_call (xs := [.tmp 14, .tmp 15]) (fine_c m r) (.cons (vq 0 rfl) (.cons (vq 1 rfl) .nil)))) (oc (ob_v rfl rfl (r_not (vq 2 rfl))) (oc (ob_v rfl rfl (r_move (vq 3 rfl))) (oc (ob_gd rfl rfl rfl (vq 4 rfl) nq (fun hg => r_load (lz0 2 rfl) ty_26)) (oc (ob_gd rfl rfl rfl (vq 4 rfl) nq (fun hg => r_call (xs := [.tmp 19]) (check_x lm) (.cons (has_wh (vq 5 rfl) hg) .nil))) (oc (ob_gd rfl rfl rfl (vq 4 rfl) nq (fun hg => r_neq (has_wh (vq 6 rfl) hg) has_num)) (oc (ob_v rfl rfl (r_or (vq 4 rfl) (vq 7 rfl))) o0))))))))) (fun a w hst => ?_)
  have hst : St B w0 50 [(22, _)] [⟨3, 28, ptrH, _⟩, ⟨4, 30, ptrH, _⟩, ⟨5, 26, ptrH, _⟩, ⟨6, 3, ptrH, _⟩, ⟨7, 38, ptrH, _⟩] a w := hst
  refine thn_normal ?_
  refine cond_of hst (List.mem_of_getElem? (i := 0) rfl) (fun hb0 => ?_) (fun hb0 => ?_)
  · refine wp_seq ?_
    refine gl (sts := [none, none, none, some (0, _), some (1, _)]) (news := []) (sp := [.sto 3, .sto 4]) [] hst (oc (ob_sto rfl rfl rfl has_num ty_3 (Eq.trans (b := 1) rfl rfl)) (oc (ob_sto rfl rfl rfl has_num ty_38 (Eq.trans (b := 1) rfl rfl)) o0)) (fun a w hst => ?_)
    have hst : St B w0 50 [] [⟨3, 28, ptrH, _⟩, ⟨4, 30, ptrH, _⟩, ⟨5, 26, ptrH, _⟩, ⟨6, 3, ptrH, _⟩, ⟨7, 38, ptrH, _⟩] a w := hst
    refine thn_normal ?_
    refine wp_ret ?_
    refine thn_ret ?_
    refine ret_wk ?_ (ret_many (rs := [.cell 6 3, .cell 7 38]) rfl hst (.cell (List.mem_of_getElem? (i := 3) rfl) ty_3 (.cell (List.mem_of_getElem? (i := 4) rfl) ty_38 .nil)) (by decide))
    rw [le_no hb0]; exact wk_id
  · have hin := le_in hb0
    have hok := fiO_ok (m := m) (r := r) (by rw [hin.1]; rfl)
    have hst := St.wkL hst 0 rfl (qm_x (okM_q hok.1).1)
    have hst := St.wkL hst 1 rfl (qr_x hok.2)
    have hst := St.wkL hst 2 rfl (qa_x hin.2 (Nat.le_refl _))
    refine wp_skip ?_
    refine thn_normal ?_
    refine wp_seq ?_
    refine gl (sts := [none, none, none, none, none]) (news := [⟨8, 3, ptrH, some 0, _, some (1, _)⟩]) (sp := [.alc 5, .sto 5]) [] hst (oc (ob_alc rfl rfl rfl zero_i3) (oc (ob_sto rfl rfl rfl has_num ty_3 (Eq.trans (b := 1) rfl rfl)) o0)) (fun a w hst => ?_)
    have hst : St B w0 50 [] [⟨3, 28, ptrH, _⟩, ⟨4, 30, ptrH, _⟩, ⟨5, 26, ptrH, _⟩, ⟨6, 3, ptrH, _⟩, ⟨7, 38, ptrH, _⟩, ⟨8, 3, ptrH, _⟩] a w := hst
    refine thn_normal ?_
    refine wp_seq ?_
    refine wp_seq ?_
    have hst := St.wkL (A' := (NumA .i64 0).and ((0 : Nat) ≤ 4097 ∧ (∀ i, i < (0 : Nat) → farK m r lm i = false))) hst 3 rfl ⟨rfl, rfl, fun _ _ _ h => ⟨⟨by decide, fun i hi => absurd hi (Nat.not_lt_zero _)⟩, h⟩⟩
    obtain ⟨q5, hst⟩ := St.nm hst 2 rfl
    obtain ⟨q6, hst⟩ := St.nm hst 3 rfl
    obtain ⟨q7, hst⟩ := St.nm hst 4 rfl
    obtain ⟨q8, hst⟩ := St.nm hst 5 rfl
    refine gl (sts := [none, none, none, none, none, none]) (news := []) (sp := [.val 23 _, .val 24 _, .val 25 _]) [.g 0, .g 1, .g 2, .g 3, .o 2] hst (oc (ob_v rfl rfl (r_load (lz0 0 rfl) ty_28)) (oc (ob_v rfl rfl (r_load (lz0 1 rfl) ty_30)) (oc (ob_v rfl rfl (r_callM (xs := [.tmp 23, .tmp 24]) [(5, q5), (6, q6), (7, q7), (8, q8)] (walk_c (toM m) (toY r)) (.cons (vq 0 rfl) (.cons (vq 1 rfl) .nil)) (.cons (gq 3 rfl) (lz0 2 rfl) (.cons (gq 2 rfl) (lz0 3 rfl) (.cons (gq 1 rfl) (lz0 4 rfl) (.cons (gq 0 rfl) (lz0 5 rfl) .nil)))))) o0))) (fun a w hst => ?_)
    have hst : St B w0 50 [(8, _), (7, _), (6, _), (5, _), (25, _)] [⟨3, 28, ptrH, _⟩, ⟨4, 30, ptrH, _⟩, ⟨5, 26, ptrH, _⟩, ⟨6, 3, ptrH, _⟩, ⟨7, 38, ptrH, _⟩, ⟨8, 3, ptrH, _⟩] a w := hst
    obtain ⟨gb, hst, hds⟩ := St.itm (ps := [(5, q5), (6, q6), (7, q7), (8, q8)]) 4 [3, 2, 1, 0] hst rfl ⟨rfl, rfl, rfl, rfl, trivial⟩
    have hdis : ∀ s ∈ [5, 6, 7, 8], ∀ g, blk (a.eval (.tmp s)) = some g → g ∉ gb := hds
    refine thn_normal ?_
    refine wp_block ?_
    have hst := St.selL hst [2, 3, 4, 5]
    refine go_range (k0 := 4) (gb := gb) (Dd := [24, U32]) (Db := [26, 3, 38]) (fun k => [⟨5, 26, ptrH, QA 2048 (toQ lm)⟩, ⟨6, 3, ptrH, (NumA .i64 0).and (k ≤ 4097 ∧ (∀ i, i < k → farK m r lm i = false))⟩, ⟨7, 38, ptrH, NumA .i64 0⟩, ⟨8, 3, ptrH, NumA .i64 ((k : Nat) : Int)⟩]) (some [⟨5, 26, ptrH, QA 2048 (toQ lm)⟩, ⟨6, 3, ptrH, (NumA .i64 ((fstK m r lm : Nat) : Int)).and (leO m r lm = (((fstK m r lm : Nat) : Int), 0))⟩, ⟨7, 38, ptrH, NumA .i64 0⟩, ⟨8, 3, ptrH, NumA .i64 ((fstK m r lm : Nat) : Int)⟩]) (fun id => if id = 0 then some [⟨5, 26, ptrH, QA 2048 (toQ lm)⟩, ⟨6, 3, ptrH, (NumA .i64 0).and (∀ i, i < 4097 → farK m r lm i = false)⟩, ⟨7, 38, ptrH, NumA .i64 0⟩, ⟨8, 3, ptrH, NumA .i64 ((4097 : Nat) : Int)⟩] else none) hst hB0 hN0 rfl (walk_it gb (mI (toM m)) (rI (toY r)) (mq (toM m)) (rq (toY r))) (M := 4100) (Y := fun k => [(cat [ZA (bL k) (wkL (mI (toM m)) (rI (toY r)) k).1, ZA (bL k) (wkL (mI (toM m)) (rI (toY r)) k).2]).va, Zs (bD k) (wkD (mq (toM m)) (rq (toY r)) k)]) (fun _ => by decide) (by kernel_rfl) [] (by kernel_rfl) (fun _ => by kernel_rfl) [5, 6, 7, 8] (fun _ => by kernel_rfl) hdis (fun L hL => by cases hL; kernel_rfl) (fun id L hL => by (try dsimp only at hL); split at hL; cases hL; kernel_rfl; cases hL) (fun _ => rfl) (by decide) (by kernel_rfl) (fun l k a1 Ws hk hBs hct hst => ?_) (fun a w hst => ?_) (fun L hL a w hst => ?_) (fun id L hL a w hst => ?_)
    · obtain ⟨a0, rfl⟩ : ∃ x, x = a := ⟨_, rfl⟩
      have hst : St B (rndB B [26, 3, 38] gb Ws Ws) 50 [(26, _), (27, _), (5, _), (6, _), (7, _), (8, _)] [⟨5, 26, ptrH, QA 2048 (toQ lm)⟩, ⟨6, 3, ptrH, (NumA .i64 0).and (k ≤ 4097 ∧ (∀ i, i < k → farK m r lm i = false))⟩, ⟨7, 38, ptrH, NumA .i64 0⟩, ⟨8, 3, ptrH, NumA .i64 ((k : Nat) : Int)⟩] a1 Ws := hst
      refine wpIn_seq ?_
      refine go_newF1 0 [0, 1, 2, 3, 4, 5] hst rfl rfl rfl (by kernel_rfl) (no_out fun _ _ h => h) zero_two rfl ty_78 rfl (by decide) rfl (by kernel_rfl) (by kernel_rfl) (fun a w hst => ?_)
      have hst : St B (rndB B [26, 3, 38] gb Ws Ws) 50 [(26, _), (27, _), (5, _), (6, _), (7, _), (8, _)] [⟨5, 26, ptrH, _⟩, ⟨6, 3, ptrH, _⟩, ⟨7, 38, ptrH, _⟩, ⟨8, 3, ptrH, _⟩, ⟨9, 78, ptrH, _⟩] a w := hst
      refine thn_normal ?_
      refine go_newF1 1 [0, 1, 2, 3, 4, 5] hst rfl rfl rfl (by kernel_rfl) (no_out fun _ _ h => h) (Str.zero str_int) rfl ty_24 rfl (by decide) rfl (by kernel_rfl) (by kernel_rfl) (fun a w hst => ?_)
      have hst : St B (rndB B [26, 3, 38] gb Ws Ws) 50 [(26, _), (27, _), (5, _), (6, _), (7, _), (8, _)] [⟨5, 26, ptrH, _⟩, ⟨6, 3, ptrH, _⟩, ⟨7, 38, ptrH, _⟩, ⟨8, 3, ptrH, _⟩, ⟨9, 78, ptrH, _⟩, ⟨10, 24, ptrH, _⟩] a w := hst
      refine thn_normal ?_
      refine ⟨hst.base, fun W3 hbg => ?_⟩
      have hkk := St.factL hst 1 rfl
      have hst := St.begin hst (Nat.le_refl _) hBs hbg
      refine wpIn_block ?_
      refine wpIn_seq ?_
      refine wpIn_seq ?_
      refine go_linF (sts := [none, none, none, none, none, none]) (news := []) (sp := [.val 28 _, .val 29 _]) [.g 0, .g 1, .g 2, .g 3, .g 4, .g 5, .o 1] (by kernel_rfl) (no_out fun _ _ h => h) hst (oc (ob_v rfl rfl (r_load (lz0 3 rfl) ty_3)) (oc (ob_v rfl rfl (r_gtr (vq 0 rfl) has_num)) o0)) (by kernel_rfl) (by kernel_rfl) (by kernel_rfl) (fun a w hst => ?_)
      have hst : St B (rndB B [26, 3, 38] gb Ws W3) 50 [(26, _), (27, _), (5, _), (6, _), (7, _), (8, _), (29, _)] [⟨5, 26, ptrH, _⟩, ⟨6, 3, ptrH, _⟩, ⟨7, 38, ptrH, _⟩, ⟨8, 3, ptrH, _⟩, ⟨9, 78, ptrH, _⟩, ⟨10, 24, ptrH, _⟩] a w := hst
      refine thn_normal ?_
      refine cond_ofF hst (List.mem_of_getElem? (i := 6) rfl) (fun hb1 => ?_) (fun hb1 => ?_)
      · have hk7 := of_decide_eq_true hb1
        refine wpIn_exit ?_
        refine thn_exit ?_
        refine blk_exit' (by decide) ?_
        obtain rfl : k = 4097 := by omega
        have hst := St.wkL (A' := (NumA .i64 0).and (∀ i, i < 4097 → farK m r lm i = false)) hst 1 rfl ⟨rfl, rfl, fun _ _ _ h => ⟨h.1.2, h.2⟩⟩
        have hst := St.selL hst [0, 1, 2, 3]
        exact ⟨_, rfl, rend_of [2, 3, 4, 5] hst ⟨rfl, ⟨rfl, ⟨rfl, ⟨rfl, trivial⟩⟩⟩⟩⟩
      · have hk6 : k ≤ 4096 := by have := of_decide_eq_false hb1; omega
        refine wpIn_skip ?_
        refine thn_normal ?_
        refine wpIn_seq ?_
        refine go_linF (sts := [none, none, none, none, none, none]) (news := [⟨11, 24, ptrH, some 4, _, some (5, _)⟩]) (sp := [.adr 30 5 (.some 0) True, .val 31 _, .val 32 _, .val 33 _, .alc 6, .sto 6]) [.g 0, .g 1, .g 2, .g 3, .g 4, .g 5] (by kernel_rfl) (no_out fun _ _ h => h) hst (oc (ob_a rfl rfl (a_fld (lz0 0 rfl) fld_26_0)) (oc (ob_v rfl rfl (r_loadf 0 rfl (by kernel_rfl) trivial (lz0 0 rfl) (Sub.part 0 rfl rfl) ty_24)) (oc (ob_v rfl rfl (r_load (lz0 5 rfl) ty_24)) (oc (ob_v rfl rfl (r_call (xs := [.tmp 31, .tmp 32]) (times_z (by first | omega | (unfold bD; omega) | (unfold bL; omega)) (by first | omega | (unfold bD; omega) | (unfold bL; omega))) (.cons (vq 1 rfl) (.cons (vq 2 rfl) .nil)))) (oc (ob_alc rfl rfl rfl (Str.zero str_int)) (oc (ob_sto rfl rfl rfl (vq 3 rfl) ty_24 (Eq.trans (b := 2) rfl rfl)) o0)))))) (by kernel_rfl) (by kernel_rfl) (by kernel_rfl) (fun a w hst => ?_)
        have hst : St B (rndB B [26, 3, 38] gb Ws W3) 50 [(26, _), (27, _), (5, _), (6, _), (7, _), (8, _)] [⟨5, 26, ptrH, _⟩, ⟨6, 3, ptrH, _⟩, ⟨7, 38, ptrH, _⟩, ⟨8, 3, ptrH, _⟩, ⟨9, 78, ptrH, _⟩, ⟨10, 24, ptrH, _⟩, ⟨11, 24, ptrH, _⟩] a w := hst
        refine thn_normal ?_
        refine wpIn_seq ?_
        refine wpIn_seq ?_
        refine go_linF (sts := [none, none, none, none, none, none, none]) (news := []) (sp := [.val 34 _, .val 35 _]) [.g 0, .g 1, .g 2, .g 3, .g 4, .g 5, .o 0, .o 1] (by kernel_rfl) (no_out fun _ _ h => h) hst (oc (ob_v rfl rfl (r_load (lz0 4 rfl) ty_78)) (oc (ob_v rfl rfl (r_move has_num)) o0)) (by kernel_rfl) (by kernel_rfl) (by kernel_rfl) (fun a w hst => ?_)
        have hst : St B (rndB B [26, 3, 38] gb Ws W3) 50 [(26, _), (27, _), (5, _), (6, _), (7, _), (8, _), (34, _), (35, _)] [⟨5, 26, ptrH, _⟩, ⟨6, 3, ptrH, _⟩, ⟨7, 38, ptrH, _⟩, ⟨8, 3, ptrH, _⟩, ⟨9, 78, ptrH, _⟩, ⟨10, 24, ptrH, _⟩, ⟨11, 24, ptrH, _⟩] a w := hst
        refine thn_normal ?_
        refine wpIn_block ?_
        have hst := St.sel hst [6, 7, 2, 3, 4, 5]
        have hst := St.selL hst [0, 1, 2, 3, 6]
        refine wpIn_loop_ghost (fun n a w => ∃ j : Nat, (n + j = 2 ∧ ∀ i, i < j → far1 (toQ lm) (if i = 0 then (wkL (mI (toM m)) (rI (toY r)) k).1 else (wkL (mI (toM m)) (rI (toY r)) k).2) (wkD (mq (toM m)) (rq (toY r)) k) = false) ∧ St B (rndB B [26, 3, 38] gb Ws W3) 50 [(34, (cat [ZA (bL k) (wkL (mI (toM m)) (rI (toY r)) k).1, ZA (bL k) (wkL (mI (toM m)) (rI (toY r)) k).2]).va), (35, In (j : Nat)), (5, EqV (a0.eval (.tmp 5))), (6, EqV (a0.eval (.tmp 6))), (7, EqV (a0.eval (.tmp 7))), (8, EqV (a0.eval (.tmp 8)))] [⟨5, 26, ptrH, QA 2048 (toQ lm)⟩, ⟨6, 3, ptrH, (NumA .i64 0).and (k ≤ 4097 ∧ (∀ i, i < k → farK m r lm i = false))⟩, ⟨7, 38, ptrH, NumA .i64 0⟩, ⟨8, 3, ptrH, NumA .i64 ((k : Nat) : Int)⟩, ⟨11, 24, ptrH, ZA (2048 + bD k) ((toQ lm).num * wkD (mq (toM m)) (rq (toY r)) k)⟩] a w) (2) ?_ ?_
        · exact ⟨0, ⟨rfl, fun i hi => absurd hi (Nat.not_lt_zero _)⟩, hst⟩
        intro n a w hI
        obtain ⟨j, ⟨hn, hfr⟩, hst⟩ := hI
        refine wpIn_seq ?_
        refine go_linF (sts := [none, none, none, none, none]) (news := []) (sp := [.val 36 _]) [.g 0, .g 1, .g 2, .g 3, .g 4, .g 5, .o 0] (by kernel_rfl) (no_out fun _ _ h => h) hst (oc (ob_v rfl rfl (r_lss (gq 1 rfl) has_num)) o0) (by kernel_rfl) (by kernel_rfl) (by kernel_rfl) (fun a w hst => ?_)
        have hst : St B (rndB B [26, 3, 38] gb Ws W3) 50 [(34, _), (35, _), (5, _), (6, _), (7, _), (8, _), (36, _)] [⟨5, 26, ptrH, _⟩, ⟨6, 3, ptrH, _⟩, ⟨7, 38, ptrH, _⟩, ⟨8, 3, ptrH, _⟩, ⟨11, 24, ptrH, _⟩] a w := hst
        refine thn_normal ?_
        refine wpIn_seq ?_
        refine cond_ofF hst (List.mem_of_getElem? (i := 6) rfl) (fun hb2 => ?_) (fun hb2 => ?_)
        · have hj : j < 2 := by have := of_decide_eq_true hb2; omega
          refine wpIn_skip ?_
          refine thn_normal ?_
          refine wpIn_seq ?_
          refine wpIn_block ?_
          refine wpIn_seq ?_
          refine go_linF (sts := [none, none, none, none, none]) (news := [⟨13, 24, ptrH, some 1, _, some (2, _)⟩]) (sp := [.val 37 _, .alc 5, .sto 5]) [.g 0, .g 1, .g 2, .g 3, .g 4, .g 5] (by kernel_rfl) (no_out fun _ _ h => h) hst (oc (ob_v rfl rfl (r_idxv (gq 0 rfl) rfl Tryz.underlying78 ty_24 (n_ok (by kernel_rfl)) (gq 1 rfl) (two_at hj))) (oc (ob_alc rfl rfl rfl (Str.zero str_int)) (oc (ob_sto rfl rfl rfl (vq 0 rfl) ty_24 (Eq.trans (b := 2) rfl rfl)) o0))) (by kernel_rfl) (by kernel_rfl) (by kernel_rfl) (fun a w hst => ?_)
          have hst : St B (rndB B [26, 3, 38] gb Ws W3) 50 [(34, _), (35, _), (5, _), (6, _), (7, _), (8, _)] [⟨5, 26, ptrH, _⟩, ⟨6, 3, ptrH, _⟩, ⟨7, 38, ptrH, _⟩, ⟨8, 3, ptrH, _⟩, ⟨11, 24, ptrH, _⟩, ⟨13, 24, ptrH, _⟩] a w := hst
          refine thn_normal ?_
          refine wpIn_seq ?_
          have hlz := St.factL hst 5 rfl
          have hst := St.wkL (A' := cat [BoA (riOf (if j = 0 then (wkL (mI (toM m)) (rI (toY r)) k).1 else (wkL (mI (toM m)) (rI (toY r)) k).2)).neg, MgA (riOf (if j = 0 then (wkL (mI (toM m)) (rI (toY r)) k).1 else (wkL (mI (toM m)) (rI (toY r)) k).2)).mag]) hst 5 rfl zaA
          refine go_linF (sts := [none, none, none, none, none, some (1, _)]) (news := []) (sp := [.adr 38 13 (.some 0) True, .sto 5]) [.g 0, .g 1, .g 2, .g 3, .g 4, .g 5] (by kernel_rfl) (no_out fun _ _ h => h) hst (oc (ob_a rfl rfl (a_fld (lz0 5 rfl) fld_24_0)) (oc (ob_stof 0 rfl rfl rfl rfl (by kernel_rfl) has_bo ty_4 (Put.part 0 rfl rfl rfl)) o0)) (by kernel_rfl) (by kernel_rfl) (by kernel_rfl) (fun a w hst => ?_)
          have hst : St B (rndB B [26, 3, 38] gb Ws W3) 50 [(34, _), (35, _), (5, _), (6, _), (7, _), (8, _)] [⟨5, 26, ptrH, _⟩, ⟨6, 3, ptrH, _⟩, ⟨7, 38, ptrH, _⟩, ⟨8, 3, ptrH, _⟩, ⟨11, 24, ptrH, _⟩, ⟨13, 24, ptrH, _⟩] a w := hst
          refine thn_normal ?_
          refine wpIn_seq ?_
          have hst := St.wkL (A' := ZA (bL k) (((if j = 0 then (wkL (mI (toM m)) (rI (toY r)) k).1 else (wkL (mI (toM m)) (rI (toY r)) k).2).natAbs : Nat) : Int)) hst 5 rfl (abs_wk hlz)
          refine go_drawF (anc := [[], [], [1], [0, 1, 2], [], [0, 1, 2, 3, 4], [0, 1, 2, 3, 4, 5]]) (sts := [none, none, none, none, none, none]) (news := []) (sp := [.val 39 _, .adr 40 5 (.some 2) True, .val 41 _, .val 42 _, .val 43 _, .val 44 _, .val 45 _]) [.g 0, .g 1, .g 2, .g 3, .g 4, .g 5, .o 6] follows_mixed (by kernel_rfl) (no_out fun _ _ h => h) hst (oc (ob_v rfl rfl (r_load (lz0 5 rfl) ty_24)) (oc (ob_a rfl rfl (a_fld (lz0 0 rfl) fld_26_1)) (oc (ob_v rfl rfl (r_loadf 1 rfl (by kernel_rfl) trivial (lz0 0 rfl) (Sub.part 1 rfl rfl) ty_24)) (oc (ob_v rfl rfl (r_call (xs := [.tmp 39, .tmp 41]) (times_z (by first | omega | (unfold bD; omega) | (unfold bL; omega)) (by first | omega | (unfold bD; omega) | (unfold bL; omega))) (.cons (vq 0 rfl) (.cons (vq 2 rfl) .nil)))) (oc (ob_v rfl rfl (r_load (lz0 4 rfl) ty_24)) (oc (ob_v rfl rfl (r_call (xs := [.tmp 42, .tmp 43]) (cmp_z (by first | omega | (unfold bD; omega) | (unfold bL; omega)) (by first | omega | (unfold bD; omega) | (unfold bL; omega))) (.cons (vq 3 rfl) (.cons (vq 4 rfl) .nil)))) (oc (ob_v rfl rfl (r_gtr (vq 5 rfl) has_num)) o0))))))) (by kernel_rfl) (by kernel_rfl) (by kernel_rfl) (by kernel_rfl) (fun a w hst => ?_)
          have hst : St B (rndB B [26, 3, 38] gb Ws W3) 50 [(34, _), (35, _), (5, _), (6, _), (7, _), (8, _), (45, _)] [⟨5, 26, ptrH, _⟩, ⟨6, 3, ptrH, _⟩, ⟨7, 38, ptrH, _⟩, ⟨8, 3, ptrH, _⟩, ⟨11, 24, ptrH, _⟩, ⟨13, 24, ptrH, _⟩] a w := hst
          refine thn_normal ?_
          refine cond_ofF hst (List.mem_of_getElem? (i := 6) rfl) (fun hb3 => ?_) (fun hb3 => ?_)
          · have hfar : farK m r lm k = true := far_some hb3
            refine wpIn_seq ?_
            refine go_linF (sts := [none, some (1, _), some (2, _), none, none, none]) (news := []) (sp := [.val 46 _, .sto 1, .sto 2]) [.g 0, .g 1, .g 2, .g 3, .g 4, .g 5] (by kernel_rfl) (no_out fun _ _ h => h) hst (oc (ob_v rfl rfl (r_load (lz0 3 rfl) ty_3)) (oc (ob_sto rfl rfl rfl (vq 0 rfl) ty_3 (Eq.trans (b := 1) rfl rfl)) (oc (ob_sto rfl rfl rfl has_num ty_38 (Eq.trans (b := 1) rfl rfl)) o0))) (by kernel_rfl) (by kernel_rfl) (by kernel_rfl) (fun a w hst => ?_)
            have hst : St B (rndB B [26, 3, 38] gb Ws W3) 50 [(34, _), (35, _), (5, _), (6, _), (7, _), (8, _)] [⟨5, 26, ptrH, _⟩, ⟨6, 3, ptrH, _⟩, ⟨7, 38, ptrH, _⟩, ⟨8, 3, ptrH, _⟩, ⟨11, 24, ptrH, _⟩, ⟨13, 24, ptrH, _⟩] a w := hst
            refine thn_normal ?_
            refine wpIn_ret ?_
            refine blk_ret ?_
            refine thn_ret ?_
            refine thn_ret ?_
            refine blk_ret ?_
            refine thn_ret ?_
            refine blk_ret ?_
            have hfk : k = fstK m r lm := by rw [fstK, fst_some hk6 hkk.2 hfar]; rfl
            have hle := le_some hin (fst_some hk6 hkk.2 hfar)
            rw [hfk] at hst
            have hst := St.wkL (A' := (NumA .i64 ((fstK m r lm : Nat) : Int)).and (leO m r lm = (((fstK m r lm : Nat) : Int), 0))) hst 1 rfl ⟨rfl, rfl, fun _ _ _ h => ⟨hle, h⟩⟩
            have hst := St.selL hst [0, 1, 2, 3]
            exact ⟨_, rfl, rend_of [2, 3, 4, 5] hst ⟨rfl, ⟨rfl, ⟨rfl, ⟨rfl, trivial⟩⟩⟩⟩⟩
          · refine wpIn_skip ?_
            refine blk_normal ?_
            refine thn_normal ?_
            refine go_linF (sts := [none, none, none, none, none, none]) (news := []) (sp := [.val 47 _, .val 35 _]) [.g 0, .g 2, .g 3, .g 4, .g 5, .o 1] (by kernel_rfl) (no_out fun _ _ h => h) hst (oc (ob_v rfl rfl (r_add (gq 1 rfl) has_num ((wi64 (by omega) (by omega)).trans (by omega : (_ : Int) = ((j + 1 : Nat) : Int))))) (oc (ob_v rfl rfl (r_move (vq 0 rfl))) o0)) (by kernel_rfl) (by kernel_rfl) (by kernel_rfl) (fun a w hst => ?_)
            have hst : St B (rndB B [26, 3, 38] gb Ws W3) 50 [(34, _), (5, _), (6, _), (7, _), (8, _), (35, _)] [⟨5, 26, ptrH, _⟩, ⟨6, 3, ptrH, _⟩, ⟨7, 38, ptrH, _⟩, ⟨8, 3, ptrH, _⟩, ⟨11, 24, ptrH, _⟩, ⟨13, 24, ptrH, _⟩] a w := hst
            refine thn_normal ?_
            have hst := St.sel hst [0, 5, 1, 2, 3, 4]
            have hst := St.selL hst [0, 1, 2, 3, 4]
            exact ⟨n - 1, by omega, j + 1, ⟨by omega, all_nx2 hfr hb3⟩, hst⟩
        · obtain rfl : j = 2 := by have := of_decide_eq_false hb2; omega
          have hnf : farK m r lm k = false := far_none hfr
          refine wpIn_exit ?_
          refine thn_exit ?_
          refine thn_exit ?_
          refine blk_exit ?_
          refine thn_normal ?_
          refine go_linF (sts := [none, none, none, some (2, _), none]) (news := []) (sp := [.val 48 _, .val 49 _, .sto 3]) [.g 2, .g 3, .g 4, .g 5] (by kernel_rfl) (no_out fun _ _ h => h) hst (oc (ob_v rfl rfl (r_load (lz0 3 rfl) ty_3)) (oc (ob_v rfl rfl (r_add (vq 0 rfl) has_num ((wi64 (by omega) (by omega)).trans (by omega : (_ : Int) = ((k + 1 : Nat) : Int))))) (oc (ob_sto rfl rfl rfl (vq 1 rfl) ty_3 (Eq.trans (b := 1) rfl rfl)) o0))) (by kernel_rfl) (by kernel_rfl) (by kernel_rfl) (fun a w hst => ?_)
          have hst : St B (rndB B [26, 3, 38] gb Ws W3) 50 [(5, _), (6, _), (7, _), (8, _)] [⟨5, 26, ptrH, _⟩, ⟨6, 3, ptrH, _⟩, ⟨7, 38, ptrH, _⟩, ⟨8, 3, ptrH, _⟩, ⟨11, 24, ptrH, _⟩] a w := hst
          refine blk_normal ?_
          have hst := St.wkL (A' := (NumA .i64 0).and (k + 1 ≤ 4097 ∧ (∀ i, i < (k + 1) → farK m r lm i = false))) hst 1 rfl ⟨rfl, rfl, fun _ _ _ h => ⟨⟨by omega, all_nx2 h.1.2 hnf⟩, h.2⟩⟩
          have hst := St.selL hst [0, 1, 2, 3]
          exact ⟨fun _ => by omega, rend_of [0, 1, 2, 3] hst ⟨rfl, ⟨rfl, ⟨rfl, ⟨rfl, trivial⟩⟩⟩⟩⟩
    · have hst : St B w0 50 [] [⟨5, 26, ptrH, _⟩, ⟨6, 3, ptrH, _⟩, ⟨7, 38, ptrH, _⟩, ⟨8, 3, ptrH, _⟩] a w := hst
      have hst := St.wkL (A' := (NumA .i64 0).and (∀ i, i < 4097 → farK m r lm i = false)) hst 1 rfl ⟨rfl, rfl, fun _ _ _ h => absurd h.1.1 (by decide)⟩
      have hle := le_none hin (St.factL hst 1 rfl)
      refine blk_normal ?_
      refine thn_normal ?_
      refine wp_seq ?_
      refine gl (sts := [none, some (0, _), some (1, _), none]) (news := []) (sp := [.sto 1, .sto 2]) [] hst (oc (ob_sto rfl rfl rfl has_num ty_3 (Eq.trans (b := 1) rfl rfl)) (oc (ob_sto rfl rfl rfl has_num ty_38 (Eq.trans (b := 1) rfl rfl)) o0)) (fun a w hst => ?_)
      have hst : St B w0 50 [] [⟨5, 26, ptrH, _⟩, ⟨6, 3, ptrH, _⟩, ⟨7, 38, ptrH, _⟩, ⟨8, 3, ptrH, _⟩] a w := hst
      refine thn_normal ?_
      refine wp_ret ?_
      refine ret_wk ?_ (ret_many (rs := [.cell 6 3, .cell 7 38]) rfl hst (.cell (List.mem_of_getElem? (i := 1) rfl) ty_3 (.cell (List.mem_of_getElem? (i := 2) rfl) ty_38 .nil)) (by decide))
      rw [hle]; exact wk_id
    · cases hL
      have hst : St B w0 50 [] [⟨5, 26, ptrH, _⟩, ⟨6, 3, ptrH, _⟩, ⟨7, 38, ptrH, _⟩, ⟨8, 3, ptrH, _⟩] a w := hst
      have hle := St.factL hst 1 rfl
      refine blk_ret ?_
      refine thn_ret ?_
      refine ret_wk ?_ (ret_many (rs := [.cell 6 3, .cell 7 38]) rfl hst (.cell (List.mem_of_getElem? (i := 1) rfl) ty_3 (.cell (List.mem_of_getElem? (i := 2) rfl) ty_38 .nil)) (by decide))
      rw [hle]; exact tu2w (fun _ _ _ h => (and_va h).2) wk_id
    · (try dsimp only at hL); split at hL; rotate_left; cases hL; cases hL; rename_i hid; subst hid
      have hst : St B w0 50 [] [⟨5, 26, ptrH, _⟩, ⟨6, 3, ptrH, _⟩, ⟨7, 38, ptrH, _⟩, ⟨8, 3, ptrH, _⟩] a w := hst
      have hle := le_none hin (St.factL hst 1 rfl)
      refine blk_exit ?_
      refine thn_normal ?_
      refine wp_seq ?_
      refine gl (sts := [none, some (0, _), some (1, _), none]) (news := []) (sp := [.sto 1, .sto 2]) [] hst (oc (ob_sto rfl rfl rfl has_num ty_3 (Eq.trans (b := 1) rfl rfl)) (oc (ob_sto rfl rfl rfl has_num ty_38 (Eq.trans (b := 1) rfl rfl)) o0)) (fun a w hst => ?_)
      have hst : St B w0 50 [] [⟨5, 26, ptrH, _⟩, ⟨6, 3, ptrH, _⟩, ⟨7, 38, ptrH, _⟩, ⟨8, 3, ptrH, _⟩] a w := hst
      refine thn_normal ?_
      refine wp_ret ?_
      refine ret_wk ?_ (ret_many (rs := [.cell 6 3, .cell 7 38]) rfl hst (.cell (List.mem_of_getElem? (i := 1) rfl) ty_3 (.cell (List.mem_of_getElem? (i := 2) rfl) ty_38 .nil)) (by decide))
      rw [hle]; exact wk_id

end Go.Proofs.YtmghfjcjcfaagaaGreat
