/- The reference of layer 1: Common. -/
import Derived.Test.YtmghfjcjcfaagaaGreatRefH
namespace Go.Proofs.YtmghfjcjcfaagaaGreat
open Go Go.RowKit
namespace RefI
theorem fld_24_1 : Fld Tryz.prog 24 1 1 1 := ⟨_, _, Tryz.underlying24, rfl, rfl, by kernel_rfl, by decide⟩
theorem ty_22 : Ty Tryz.prog 22 1 false := ⟨by kernel_rfl, by kernel_rfl⟩
theorem ty_24 : Ty Tryz.prog 24 2 true := ⟨by kernel_rfl, by kernel_rfl⟩
end RefI
open RefI
set_option linter.unusedVariables false
theorem rhalfL_c (X : Nat) (h : (limbs X).length ≤ 1099511627776) : Cn Tryz.prog 195 [(MgA (limbs X)).va] (MgA (limbs (X / 2))).va := by
  have := rhalf_c (limbs X) h
  rwa [val_limbs] at this
theorem limbs_lenpos {X : Nat} (h : 0 < X) : 0 < (limbs X).length := by rw [limbs_pos (by omega)]; simp
theorem revenL_c (X : Nat) (h : 0 < X) : Cn Tryz.prog 194 [(MgA (limbs X)).va] (Bo (((X % 2 : Nat) : Int) == ((0 : Nat) : Int))) := by
  have := reven_c (limbs X) (limbs_lenpos h)
  rwa [val_limbs] at this
theorem rsubL_c (X Y : Nat) (h : Y ≤ X) (hl : (limbs X).length ≤ 10000000000) : Cn Tryz.prog 169 [(MgA (limbs X)).va, (MgA (limbs Y)).va] (MgA (limbs (X - Y))).va := by
  have := rsub_c (limbs X) (limbs Y) hl (len_mono h) (by rw [val_limbs, val_limbs]; exact h)
  rwa [val_limbs, val_limbs] at this
theorem ev_yes {X : Nat} (h : (((X % 2 : Nat) : Int) == ((0 : Nat) : Int)) = true) : X % 2 = 0 := by
  have := beq_iff_eq.1 h
  omega
theorem ev_no {X : Nat} (h : (((X % 2 : Nat) : Int) == ((0 : Nat) : Int)) = false) : X % 2 = 1 := by
  have h2 : ¬ ((X % 2 : Nat) : Int) = ((0 : Nat) : Int) := fun e => by rw [e] at h; simp at h
  omega
theorem ev_two {X Y : Nat} (h : ((((X % 2 : Nat) : Int) == ((0 : Nat) : Int)) && (((Y % 2 : Nat) : Int) == ((0 : Nat) : Int))) = true) : X % 2 = 0 ∧ Y % 2 = 0 := by
  rw [Bool.and_eq_true] at h
  exact ⟨ev_yes h.1, ev_yes h.2⟩
theorem ev_one {X Y : Nat} (h : ((((X % 2 : Nat) : Int) == ((0 : Nat) : Int)) && (((Y % 2 : Nat) : Int) == ((0 : Nat) : Int))) = false) : X % 2 = 1 ∨ Y % 2 = 1 := by
  rw [Bool.and_eq_false_iff] at h
  rcases h with h | h
  · exact .inl (ev_no h)
  · exact .inr (ev_no h)
/-- of two whose greatest common divisor is odd. -/
theorem gcd_half {X Y g : Nat} (h : Nat.gcd X Y = g) (hg : g % 2 = 1) (hX : X % 2 = 0) : Nat.gcd (X / 2) Y = g := by
  have e : X = 2 * (X / 2) := by omega
  apply Nat.dvd_antisymm
  · rw [← h]
    exact Nat.dvd_gcd (Nat.dvd_trans (Nat.gcd_dvd_left _ _) ⟨2, by omega⟩) (Nat.gcd_dvd_right _ _)
  · refine Nat.dvd_gcd ?_ (h ▸ Nat.gcd_dvd_right _ _)
    have h1 : g ∣ 2 * (X / 2) := by rw [← e]; exact h ▸ Nat.gcd_dvd_left _ _
    refine Nat.Coprime.dvd_of_dvd_mul_left ?_ h1
    show Nat.gcd g 2 = 1
    have h2 : Nat.gcd g 2 ∣ 2 := Nat.gcd_dvd_right _ _
    have h3 : Nat.gcd g 2 ∣ g := Nat.gcd_dvd_left _ _
    have h4 := Nat.le_of_dvd (by decide) h2
    rcases Nat.lt_or_ge (Nat.gcd g 2) 2 with h5 | h5
    · have : Nat.gcd g 2 ≠ 0 := by intro e0; have := Nat.gcd_eq_zero_iff.1 e0; omega
      omega
    · have h6 : Nat.gcd g 2 = 2 := by omega
      rw [h6] at h3
      obtain ⟨c, hc⟩ := h3
      omega
theorem gcd_odd {X Y : Nat} (h : X % 2 = 1 ∨ Y % 2 = 1) : Nat.gcd X Y % 2 = 1 := by
  apply Decidable.byContradiction
  intro hn
  have h2 : 2 ∣ Nat.gcd X Y := Nat.dvd_of_mod_eq_zero (by omega)
  have h3 := Nat.dvd_trans h2 (Nat.gcd_dvd_left X Y)
  have h4 := Nat.dvd_trans h2 (Nat.gcd_dvd_right X Y)
  omega
theorem gcd_less {X Y g : Nat} (h : Nat.gcd X Y = g) (hle : Y ≤ X) : Nat.gcd (X - Y) Y = g := by
  rw [← h, Nat.gcd_comm, Nat.gcd_comm X Y]
  have := Nat.gcd_add_self_right (m := Y) (n := X - Y)
  rw [Nat.sub_add_cancel hle] at this
  exact this.symm
theorem two_pow_le {X t k : Nat} (hX : 0 < X) (h : X * 2 ^ t < 4294967296 ^ k) : t ≤ 32 * k := by
  rw [pow32] at h
  have h1 : 2 ^ t ≤ X * 2 ^ t := Nat.le_mul_of_pos_left _ hX
  exact Nat.le_of_lt ((Nat.pow_lt_pow_iff_right (by decide : 1 < 2)).1 (Nat.lt_of_le_of_lt h1 h))
/-- the noughts that both have are told. -/
structure Tw (P Q X Y t : Nat) : Prop where
  x : 0 < X
  y : 0 < Y
  p : P = X * 2 ^ t
  q : Q = Y * 2 ^ t
theorem Tw.next {P Q X Y t : Nat} (h : Tw P Q X Y t) (hX : X % 2 = 0) (hY : Y % 2 = 0) : Tw P Q (X / 2) (Y / 2) (t + 1) :=
  ⟨by have := h.x; omega, by have := h.y; omega, by rw [h.p, Nat.pow_succ, Nat.mul_comm (2 ^ t), ← Nat.mul_assoc]; congr 1; omega, by rw [h.q, Nat.pow_succ, Nat.mul_comm (2 ^ t), ← Nat.mul_assoc]; congr 1; omega⟩
theorem Tw.xle {P Q X Y t : Nat} (h : Tw P Q X Y t) : X ≤ P ∧ Y ≤ Q := by
  have h1 : 0 < 2 ^ t := Nat.pow_pos (by decide)
  rw [h.p, h.q]
  exact ⟨Nat.le_mul_of_pos_right _ h1, Nat.le_mul_of_pos_right _ h1⟩
theorem Tw.tle {P Q X Y t : Nat} (h : Tw P Q X Y t) (hl : (limbs P).length ≤ 1000000000) : t ≤ 32000000000 := by
  have h1 := lt_of_limbs_len (n := P) (Nat.le_refl _)
  rw [h.p] at h1
  have h2 := two_pow_le h.x h1
  rw [← h.p] at h2
  omega
theorem lenM {X M : Nat} (h : X ≤ M) (hM : (limbs M).length ≤ 1000000000) : (limbs X).length ≤ 1000000000 := Nat.le_trans (len_mono h) hM
theorem len_pos {X : Nat} (h : decide (((limbs X).length : Int) > 0) = true) : 0 < X := by
  apply Decidable.byContradiction
  intro hn
  obtain rfl : X = 0 := by omega
  rw [limbs_zero] at h
  exact absurd h (by decide)
theorem len_nil {X : Nat} (h : decide (((limbs X).length : Int) > 0) = false) : X = 0 := by
  apply Decidable.byContradiction
  intro hn
  have := limbs_lenpos (X := X) (by omega)
  exact absurd (of_decide_eq_false h) (by omega)
theorem sgn_e {Y : Nat} : (RIA (rsig false (limbs Y))).va = Zi ((Y : Nat) : Int) := by
  rw [rsig_of (canon_limbs _).1 (z := ((Y : Nat) : Int)) (by rw [val_limbs]; omega) (fun hz => by simp)]
theorem mag0 {p : Int} (h : (((riOf p).mag.length : Int) == 0) = true) : p = 0 := by
  apply Decidable.byContradiction
  intro hn
  have h1 := lz_pos hn
  have h2 : (riOf p).mag.length = lz p := rfl
  simp at h
  rw [h] at h2
  simp at h2
  omega
theorem mag1 {p : Int} (h : (((riOf p).mag.length : Int) == 0) = false) : 0 < p.natAbs := by
  apply Decidable.byContradiction
  intro hn
  obtain rfl : p = 0 := by omega
  exact absurd h (by rw [show (riOf (0 : Int)).mag = [] from limbs_zero]; decide)

set_option maxRecDepth 100000 in
set_option maxHeartbeats 1000000 in
theorem rcommonZ_c (p q : Int) (hp : lz p ≤ 1000000000) (hq : lz q ≤ 1000000000) : Cn Tryz.prog 162 [Zi p, Zi q] (Zi ((Int.gcd p q : Nat) : Int)) := by
  refine Cn.intro Tryz.func162 rfl (by kernel_rfl) nq (fun B w0 a hst => ?_)
  have hst : St B w0 60 [(0, Zi p), (1, Zi q)] [] a w0.w := hst
  refine wp_seq ?_
  refine gl (sts := []) (news := [⟨2, 24, ptrH, some 0, _, none⟩, ⟨3, 24, ptrH, some 1, _, none⟩, ⟨4, 24, ptrH, some 2, _, none⟩]) (sp := [.alc 0, .alc 1, .alc 2]) [] hst (oc (ob_box rfl rfl rfl (gq 0 rfl)) (oc (ob_box rfl rfl rfl (gq 1 rfl)) (oc (ob_alc rfl rfl rfl (Str.zero str_int)) o0))) (fun a w hst => ?_)
  have hst : St B w0 60 [] [⟨2, 24, ptrH, _⟩, ⟨3, 24, ptrH, _⟩, ⟨4, 24, ptrH, _⟩] a w := hst
  refine thn_normal ?_
  refine wp_seq ?_
  refine gl (sts := [none, none, none]) (news := []) (sp := [.adr 9 2 (.some 1) True, .val 10 _, .val 5 _]) [.o 2] hst (oc (ob_a rfl rfl (a_fld (lz0 0 rfl) fld_24_1)) (oc (ob_v rfl rfl (r_loadf 0 rfl (by kernel_rfl) trivial (lz0 0 rfl) (Sub.part 1 rfl rfl) ty_22)) (oc (ob_v rfl rfl (r_assign (vq 1 rfl))) o0))) (fun a w hst => ?_)
  have hst : St B w0 60 [(5, _)] [⟨2, 24, ptrH, _⟩, ⟨3, 24, ptrH, _⟩, ⟨4, 24, ptrH, _⟩] a w := hst
  refine thn_normal ?_
  refine wp_seq ?_
  refine gl (sts := [none, none, none]) (news := []) (sp := [.adr 11 3 (.some 1) True, .val 12 _, .val 6 _]) [.g 0, .o 2] hst (oc (ob_a rfl rfl (a_fld (lz0 1 rfl) fld_24_1)) (oc (ob_v rfl rfl (r_loadf 0 rfl (by kernel_rfl) trivial (lz0 1 rfl) (Sub.part 1 rfl rfl) ty_22)) (oc (ob_v rfl rfl (r_assign (vq 1 rfl))) o0))) (fun a w hst => ?_)
  have hst : St B w0 60 [(5, _), (6, _)] [⟨2, 24, ptrH, _⟩, ⟨3, 24, ptrH, _⟩, ⟨4, 24, ptrH, _⟩] a w := hst
  refine thn_normal ?_
  refine wp_seq ?_
  refine wp_seq ?_
  refine gl (sts := [none, none, none]) (news := []) (sp := [.val 13 _, .val 14 _, .val 15 _]) [.g 0, .g 1, .o 2] hst (oc (ob_v rfl rfl (r_move (gq 0 rfl))) (oc (ob_v rfl rfl (r_lenm Tryz.underlying22 (vq 0 rfl))) (oc (ob_v rfl rfl (r_eql (vq 1 rfl) has_num)) o0))) (fun a w hst => ?_)
  have hst : St B w0 60 [(5, _), (6, _), (15, _)] [⟨2, 24, ptrH, _⟩, ⟨3, 24, ptrH, _⟩, ⟨4, 24, ptrH, _⟩] a w := hst
  refine thn_normal ?_
  refine cond_of hst (List.mem_of_getElem? (i := 2) rfl) (fun hb0 => ?_) (fun hb0 => ?_)
  · obtain rfl := mag0 hb0
    refine wp_seq ?_
    refine gl (sts := [none, none, some (2, _)]) (news := []) (sp := [.val 16 _, .val 17 _, .sto 2]) [.g 0, .g 1] hst (oc (ob_v rfl rfl (r_move (gq 1 rfl))) (oc (ob_v rfl rfl (r_call (xs := [.const (.bool false), .tmp 16]) (rsignedA_c _ _) (.cons has_bo (.cons (vq 0 rfl) .nil)))) (oc (ob_sto rfl rfl rfl (vq 1 rfl) ty_24 (Eq.trans (b := 2) rfl rfl)) o0))) (fun a w hst => ?_)
    have hst : St B w0 60 [(5, _), (6, _)] [⟨2, 24, ptrH, _⟩, ⟨3, 24, ptrH, _⟩, ⟨4, 24, ptrH, _⟩] a w := hst
    refine thn_normal ?_
    refine wp_ret ?_
    refine thn_ret ?_
    refine ret_wk ?_ (ret_cell rfl hst (List.mem_of_getElem? (i := 2) rfl) ty_24)
    exact wk_eq (size_e.trans (by rw [show Int.gcd 0 q = q.natAbs from Int.gcd_zero_left ..]))
  · have hp0 := mag1 hb0
    refine wp_skip ?_
    refine thn_normal ?_
    refine wp_seq ?_
    refine wp_seq ?_
    refine gl (sts := [none, none, none]) (news := []) (sp := [.val 18 _, .val 19 _, .val 20 _]) [.g 0, .g 1, .o 2] hst (oc (ob_v rfl rfl (r_move (gq 1 rfl))) (oc (ob_v rfl rfl (r_lenm Tryz.underlying22 (vq 0 rfl))) (oc (ob_v rfl rfl (r_eql (vq 1 rfl) has_num)) o0))) (fun a w hst => ?_)
    have hst : St B w0 60 [(5, _), (6, _), (20, _)] [⟨2, 24, ptrH, _⟩, ⟨3, 24, ptrH, _⟩, ⟨4, 24, ptrH, _⟩] a w := hst
    refine thn_normal ?_
    refine cond_of hst (List.mem_of_getElem? (i := 2) rfl) (fun hb1 => ?_) (fun hb1 => ?_)
    · obtain rfl := mag0 hb1
      refine wp_seq ?_
      refine gl (sts := [none, none, some (2, _)]) (news := []) (sp := [.val 21 _, .val 22 _, .sto 2]) [.g 0, .g 1] hst (oc (ob_v rfl rfl (r_move (gq 0 rfl))) (oc (ob_v rfl rfl (r_call (xs := [.const (.bool false), .tmp 21]) (rsignedA_c _ _) (.cons has_bo (.cons (vq 0 rfl) .nil)))) (oc (ob_sto rfl rfl rfl (vq 1 rfl) ty_24 (Eq.trans (b := 2) rfl rfl)) o0))) (fun a w hst => ?_)
      have hst : St B w0 60 [(5, _), (6, _)] [⟨2, 24, ptrH, _⟩, ⟨3, 24, ptrH, _⟩, ⟨4, 24, ptrH, _⟩] a w := hst
      refine thn_normal ?_
      refine wp_ret ?_
      refine thn_ret ?_
      refine ret_wk ?_ (ret_cell rfl hst (List.mem_of_getElem? (i := 2) rfl) ty_24)
      exact wk_eq (size_e.trans (by rw [show Int.gcd p 0 = p.natAbs from Int.gcd_zero_right ..]))
    · have hq0 := mag1 hb1
      obtain ⟨M, hM0⟩ : ∃ M, M = max p.natAbs q.natAbs := ⟨_, rfl⟩
      have hPM : p.natAbs ≤ M := by omega
      have hQM : q.natAbs ≤ M := by omega
      have hM : (limbs M).length ≤ 1000000000 := by rcases Nat.le_total p.natAbs q.natAbs with h | h
                                                    · rw [show M = q.natAbs by omega]; exact hq
                                                    · rw [show M = p.natAbs by omega]; exact hp
      refine wp_skip ?_
      refine thn_normal ?_
      refine wp_seq ?_
      refine gl (sts := [none, none, none]) (news := []) (sp := [.val 7 _]) [.g 0, .g 1, .o 0] hst (oc (ob_v rfl rfl (r_assign has_num)) o0) (fun a w hst => ?_)
      have hst : St B w0 60 [(5, _), (6, _), (7, _)] [⟨2, 24, ptrH, _⟩, ⟨3, 24, ptrH, _⟩, ⟨4, 24, ptrH, _⟩] a w := hst
      refine thn_normal ?_
      refine wp_seq ?_
      refine wp_block ?_
      have hst := St.sel hst [0, 1, 2]
      refine wp_loop_ghost (fun n a w => ∃ X Y t : Nat, (Tw p.natAbs q.natAbs X Y t ∧ n = X) ∧ St B w0 60 [(5, (MgA (limbs X)).va), (6, (MgA (limbs Y)).va), (7, In (t : Nat))] [⟨2, 24, ptrH, RIA (riOf p)⟩, ⟨3, 24, ptrH, RIA (riOf q)⟩, ⟨4, 24, ptrH, cat [BoA false, MgA []]⟩] a w) (p.natAbs) ?_ ?_
      · exact ⟨p.natAbs, q.natAbs, 0, ⟨⟨hp0, hq0, (Nat.mul_one _).symm, (Nat.mul_one _).symm⟩, rfl⟩, hst⟩
      intro n a w hI
      obtain ⟨X, Y, t, ⟨hT, hnX⟩, hst⟩ := hI
      have htl := hT.tle hp
      have hTx := hT.x
      refine wp_seq ?_
      refine wp_seq ?_
      refine gl (sts := [none, none, none]) (news := []) (sp := [.val 23 _, .val 24 _, .val 25 _, .val 26 (Wh (_ = true) _), .val 27 (Wh (_ = true) _), .val 28 _]) [.g 0, .g 1, .g 2, .o 5] hst (oc (ob_v rfl rfl (r_move (gq 0 rfl))) (oc (ob_v rfl rfl (r_call (xs := [.tmp 23]) (revenL_c X hT.x) (.cons (vq 0 rfl) .nil))) (oc (ob_v rfl rfl (r_move (vq 1 rfl))) (oc (ob_gd rfl rfl rfl (vq 2 rfl) nq (fun hg => r_move (gq 1 rfl))) (oc (ob_gd rfl rfl rfl (vq 2 rfl) nq (fun hg => r_call (xs := [.tmp 26]) (revenL_c Y hT.y) (.cons (has_wh (vq 3 rfl) hg) .nil))) (oc (ob_v rfl rfl (r_and (vq 2 rfl) (vq 4 rfl))) o0)))))) (fun a w hst => ?_)
      have hst : St B w0 60 [(5, _), (6, _), (7, _), (28, _)] [⟨2, 24, ptrH, _⟩, ⟨3, 24, ptrH, _⟩, ⟨4, 24, ptrH, _⟩] a w := hst
      refine thn_normal ?_
      refine cond_of hst (List.mem_of_getElem? (i := 3) rfl) (fun hb2 => ?_) (fun hb2 => ?_)
      · have hev := ev_two hb2
        refine wp_skip ?_
        refine thn_normal ?_
        refine wp_block ?_
        refine wp_seq ?_
        refine gl (sts := [none, none, none]) (news := []) (sp := [.val 29 _, .val 30 _, .val 5 _]) [.g 1, .g 2, .o 2] hst (oc (ob_v rfl rfl (r_move (gq 0 rfl))) (oc (ob_v rfl rfl (r_call (xs := [.tmp 29]) (rhalfL_c X (Nat.le_trans (lenM (Nat.le_trans hT.xle.1 hPM) hM) (by decide))) (.cons (vq 0 rfl) .nil))) (oc (ob_v rfl rfl (r_assign (vq 1 rfl))) o0))) (fun a w hst => ?_)
        have hst : St B w0 60 [(6, _), (7, _), (5, _)] [⟨2, 24, ptrH, _⟩, ⟨3, 24, ptrH, _⟩, ⟨4, 24, ptrH, _⟩] a w := hst
        refine thn_normal ?_
        refine wp_seq ?_
        refine gl (sts := [none, none, none]) (news := []) (sp := [.val 31 _, .val 32 _, .val 6 _]) [.g 1, .g 2, .o 2] hst (oc (ob_v rfl rfl (r_move (gq 0 rfl))) (oc (ob_v rfl rfl (r_call (xs := [.tmp 31]) (rhalfL_c Y (Nat.le_trans (lenM (Nat.le_trans hT.xle.2 hQM) hM) (by decide))) (.cons (vq 0 rfl) .nil))) (oc (ob_v rfl rfl (r_assign (vq 1 rfl))) o0))) (fun a w hst => ?_)
        have hst : St B w0 60 [(7, _), (5, _), (6, _)] [⟨2, 24, ptrH, _⟩, ⟨3, 24, ptrH, _⟩, ⟨4, 24, ptrH, _⟩] a w := hst
        refine thn_normal ?_
        refine gl (sts := [none, none, none]) (news := []) (sp := [.val 33 _, .val 34 _, .val 7 _]) [.g 1, .g 2, .o 2] hst (oc (ob_v rfl rfl (r_move (gq 0 rfl))) (oc (ob_v rfl rfl (r_add (vq 0 rfl) has_num (wi_succ (by omega)))) (oc (ob_v rfl rfl (r_assign (vq 1 rfl))) o0))) (fun a w hst => ?_)
        have hst : St B w0 60 [(5, _), (6, _), (7, _)] [⟨2, 24, ptrH, _⟩, ⟨3, 24, ptrH, _⟩, ⟨4, 24, ptrH, _⟩] a w := hst
        refine blk_normal ?_
        refine thn_normal ?_
        have hst := St.sel hst [0, 1, 2]
        exact ⟨X / 2, by omega, X / 2, Y / 2, t + 1, ⟨hT.next hev.1 hev.2, rfl⟩, hst⟩
      · have hgo0 := gcd_odd (ev_one hb2)
        obtain ⟨g, hgd⟩ : ∃ g, Nat.gcd X Y = g := ⟨_, rfl⟩
        have hgo : g % 2 = 1 := by rw [← hgd]; exact hgo0
        have hgp : Int.gcd p q = g * 2 ^ t := by show Nat.gcd p.natAbs q.natAbs = _; rw [hT.p, hT.q, Nat.gcd_mul_right, hgd]
        refine wp_exit ?_
        refine thn_exit ?_
        refine thn_exit ?_
        refine blk_exit ?_
        refine thn_normal ?_
        refine wp_seq ?_
        refine wp_block ?_
        have hst := St.sel hst [0, 1, 2]
        refine wp_loop_ghost (fun n a w => ∃ X Y : Nat, (0 < Y ∧ X ≤ M ∧ Y ≤ M ∧ Nat.gcd X Y = g ∧ n = X + Y) ∧ St B w0 60 [(5, (MgA (limbs X)).va), (6, (MgA (limbs Y)).va), (7, In (t : Nat))] [⟨2, 24, ptrH, RIA (riOf p)⟩, ⟨3, 24, ptrH, RIA (riOf q)⟩, ⟨4, 24, ptrH, cat [BoA false, MgA []]⟩] a w) (X + Y) ?_ ?_
        · exact ⟨X, Y, ⟨hT.y, Nat.le_trans hT.xle.1 hPM, Nat.le_trans hT.xle.2 hQM, hgd, rfl⟩, hst⟩
        intro n a w hI
        clear hgd; obtain ⟨X, Y, ⟨hY0, hXM, hYM, hg1, hn1⟩, hst⟩ := hI
        obtain ⟨n1, hn2⟩ : ∃ n1, n1 = n := ⟨n, rfl⟩
        refine wp_seq ?_
        refine wp_seq ?_
        refine gl (sts := [none, none, none]) (news := []) (sp := [.val 35 _, .val 36 _, .val 37 _]) [.g 0, .g 1, .g 2, .o 2] hst (oc (ob_v rfl rfl (r_move (gq 0 rfl))) (oc (ob_v rfl rfl (r_lenm Tryz.underlying22 (vq 0 rfl))) (oc (ob_v rfl rfl (r_gtr (vq 1 rfl) has_num)) o0))) (fun a w hst => ?_)
        have hst : St B w0 60 [(5, _), (6, _), (7, _), (37, _)] [⟨2, 24, ptrH, _⟩, ⟨3, 24, ptrH, _⟩, ⟨4, 24, ptrH, _⟩] a w := hst
        refine thn_normal ?_
        refine cond_of hst (List.mem_of_getElem? (i := 3) rfl) (fun hb3 => ?_) (fun hb3 => ?_)
        · have hX0 := len_pos hb3
          refine wp_skip ?_
          refine thn_normal ?_
          refine wp_block ?_
          refine wp_seq ?_
          refine wp_block ?_
          have hst := St.sel hst [0, 1, 2]
          refine wp_loop_ghost (fun n a w => ∃ X2 : Nat, (0 < X2 ∧ X2 ≤ X ∧ Nat.gcd X2 Y = g ∧ n = X2) ∧ St B w0 60 [(5, (MgA (limbs X2)).va), (6, (MgA (limbs Y)).va), (7, In (t : Nat))] [⟨2, 24, ptrH, RIA (riOf p)⟩, ⟨3, 24, ptrH, RIA (riOf q)⟩, ⟨4, 24, ptrH, cat [BoA false, MgA []]⟩] a w) (X) ?_ ?_
          · exact ⟨X, ⟨hX0, Nat.le_refl _, hg1, rfl⟩, hst⟩
          intro n a w hI
          obtain ⟨X2, ⟨hX3, hX4, hg2, hn3⟩, hst⟩ := hI
          have hXM2 := Nat.le_trans hX4 hXM
          refine wp_seq ?_
          refine wp_seq ?_
          refine gl (sts := [none, none, none]) (news := []) (sp := [.val 38 _, .val 39 _]) [.g 0, .g 1, .g 2, .o 1] hst (oc (ob_v rfl rfl (r_move (gq 0 rfl))) (oc (ob_v rfl rfl (r_call (xs := [.tmp 38]) (revenL_c X2 hX3) (.cons (vq 0 rfl) .nil))) o0)) (fun a w hst => ?_)
          have hst : St B w0 60 [(5, _), (6, _), (7, _), (39, _)] [⟨2, 24, ptrH, _⟩, ⟨3, 24, ptrH, _⟩, ⟨4, 24, ptrH, _⟩] a w := hst
          refine thn_normal ?_
          refine cond_of hst (List.mem_of_getElem? (i := 3) rfl) (fun hb4 => ?_) (fun hb4 => ?_)
          · have hev := ev_yes hb4
            refine wp_skip ?_
            refine thn_normal ?_
            refine wp_block ?_
            refine gl (sts := [none, none, none]) (news := []) (sp := [.val 40 _, .val 41 _, .val 5 _]) [.g 1, .g 2, .o 2] hst (oc (ob_v rfl rfl (r_move (gq 0 rfl))) (oc (ob_v rfl rfl (r_call (xs := [.tmp 40]) (rhalfL_c X2 (Nat.le_trans (lenM hXM2 hM) (by decide))) (.cons (vq 0 rfl) .nil))) (oc (ob_v rfl rfl (r_assign (vq 1 rfl))) o0))) (fun a w hst => ?_)
            have hst : St B w0 60 [(6, _), (7, _), (5, _)] [⟨2, 24, ptrH, _⟩, ⟨3, 24, ptrH, _⟩, ⟨4, 24, ptrH, _⟩] a w := hst
            refine blk_normal ?_
            refine thn_normal ?_
            have hst := St.sel hst [2, 0, 1]
            exact ⟨X2 / 2, by omega, X2 / 2, ⟨by omega, by omega, gcd_half hg2 hgo hev, rfl⟩, hst⟩
          · have hoX := ev_no hb4
            refine wp_exit ?_
            refine thn_exit ?_
            refine thn_exit ?_
            refine blk_exit ?_
            refine thn_normal ?_
            refine wp_seq ?_
            refine wp_block ?_
            have hst := St.sel hst [0, 1, 2]
            refine wp_loop_ghost (fun n a w => ∃ Y2 : Nat, (0 < Y2 ∧ Y2 ≤ Y ∧ Nat.gcd X2 Y2 = g ∧ n = Y2) ∧ St B w0 60 [(5, (MgA (limbs X2)).va), (6, (MgA (limbs Y2)).va), (7, In (t : Nat))] [⟨2, 24, ptrH, RIA (riOf p)⟩, ⟨3, 24, ptrH, RIA (riOf q)⟩, ⟨4, 24, ptrH, cat [BoA false, MgA []]⟩] a w) (Y) ?_ ?_
            · exact ⟨Y, ⟨hY0, Nat.le_refl _, hg2, rfl⟩, hst⟩
            intro n a w hI
            obtain ⟨Y2, ⟨hY3, hY4, hg3, hn4⟩, hst⟩ := hI
            have hYM2 := Nat.le_trans hY4 hYM
            refine wp_seq ?_
            refine wp_seq ?_
            refine gl (sts := [none, none, none]) (news := []) (sp := [.val 42 _, .val 43 _]) [.g 0, .g 1, .g 2, .o 1] hst (oc (ob_v rfl rfl (r_move (gq 1 rfl))) (oc (ob_v rfl rfl (r_call (xs := [.tmp 42]) (revenL_c Y2 hY3) (.cons (vq 0 rfl) .nil))) o0)) (fun a w hst => ?_)
            have hst : St B w0 60 [(5, _), (6, _), (7, _), (43, _)] [⟨2, 24, ptrH, _⟩, ⟨3, 24, ptrH, _⟩, ⟨4, 24, ptrH, _⟩] a w := hst
            refine thn_normal ?_
            refine cond_of hst (List.mem_of_getElem? (i := 3) rfl) (fun hb5 => ?_) (fun hb5 => ?_)
            · have hev := ev_yes hb5
              refine wp_skip ?_
              refine thn_normal ?_
              refine wp_block ?_
              refine gl (sts := [none, none, none]) (news := []) (sp := [.val 44 _, .val 45 _, .val 6 _]) [.g 0, .g 2, .o 2] hst (oc (ob_v rfl rfl (r_move (gq 1 rfl))) (oc (ob_v rfl rfl (r_call (xs := [.tmp 44]) (rhalfL_c Y2 (Nat.le_trans (lenM hYM2 hM) (by decide))) (.cons (vq 0 rfl) .nil))) (oc (ob_v rfl rfl (r_assign (vq 1 rfl))) o0))) (fun a w hst => ?_)
              have hst : St B w0 60 [(5, _), (7, _), (6, _)] [⟨2, 24, ptrH, _⟩, ⟨3, 24, ptrH, _⟩, ⟨4, 24, ptrH, _⟩] a w := hst
              refine blk_normal ?_
              refine thn_normal ?_
              have hst := St.sel hst [0, 2, 1]
              exact ⟨Y2 / 2, by omega, Y2 / 2, ⟨by omega, by omega, by rw [Nat.gcd_comm]; exact gcd_half (by rw [Nat.gcd_comm]; exact hg3) hgo hev, rfl⟩, hst⟩
            · have hoY := ev_no hb5
              refine wp_exit ?_
              refine thn_exit ?_
              refine thn_exit ?_
              refine blk_exit ?_
              refine thn_normal ?_
              refine wp_seq ?_
              refine wp_seq ?_
              refine gl (sts := [none, none, none]) (news := []) (sp := [.val 46 _, .val 47 _, .val 48 _, .val 49 _]) [.g 0, .g 1, .g 2, .o 3] hst (oc (ob_v rfl rfl (r_move (gq 0 rfl))) (oc (ob_v rfl rfl (r_move (gq 1 rfl))) (oc (ob_v rfl rfl (r_call (xs := [.tmp 46, .tmp 47]) (rcmp_c _ _) (.cons (vq 0 rfl) (.cons (vq 1 rfl) .nil)))) (oc (ob_v rfl rfl (r_lss (vq 2 rfl) has_num)) o0)))) (fun a w hst => ?_)
              have hst : St B w0 60 [(5, _), (6, _), (7, _), (49, _)] [⟨2, 24, ptrH, _⟩, ⟨3, 24, ptrH, _⟩, ⟨4, 24, ptrH, _⟩] a w := hst
              refine thn_normal ?_
              refine cond_of hst (List.mem_of_getElem? (i := 3) rfl) (fun hb6 => ?_) (fun hb6 => ?_)
              · have hcm : X2 < Y2 := cm_lt0.1 (of_decide_eq_true hb6)
                refine wp_seq ?_
                refine gl (sts := [none, none, none]) (news := []) (sp := [.val 50 _, .val 8 _]) [.g 0, .g 1, .g 2, .o 1] hst (oc (ob_v rfl rfl (r_move (gq 0 rfl))) (oc (ob_v rfl rfl (r_assign (vq 0 rfl))) o0)) (fun a w hst => ?_)
                have hst : St B w0 60 [(5, _), (6, _), (7, _), (8, _)] [⟨2, 24, ptrH, _⟩, ⟨3, 24, ptrH, _⟩, ⟨4, 24, ptrH, _⟩] a w := hst
                refine thn_normal ?_
                refine wp_seq ?_
                refine gl (sts := [none, none, none]) (news := []) (sp := [.val 51 _, .val 5 _]) [.g 1, .g 2, .g 3, .o 1] hst (oc (ob_v rfl rfl (r_move (gq 1 rfl))) (oc (ob_v rfl rfl (r_assign (vq 0 rfl))) o0)) (fun a w hst => ?_)
                have hst : St B w0 60 [(6, _), (7, _), (8, _), (5, _)] [⟨2, 24, ptrH, _⟩, ⟨3, 24, ptrH, _⟩, ⟨4, 24, ptrH, _⟩] a w := hst
                refine thn_normal ?_
                refine gl (sts := [none, none, none]) (news := []) (sp := [.val 52 _, .val 6 _]) [.g 1, .g 3, .o 1] hst (oc (ob_v rfl rfl (r_move (gq 2 rfl))) (oc (ob_v rfl rfl (r_assign (vq 0 rfl))) o0)) (fun a w hst => ?_)
                have hst : St B w0 60 [(7, _), (5, _), (6, _)] [⟨2, 24, ptrH, _⟩, ⟨3, 24, ptrH, _⟩, ⟨4, 24, ptrH, _⟩] a w := hst
                refine thn_normal ?_
                refine gl (sts := [none, none, none]) (news := []) (sp := [.val 53 _, .val 54 _, .val 55 _, .val 5 _]) [.g 0, .g 2, .o 3] hst (oc (ob_v rfl rfl (r_move (gq 1 rfl))) (oc (ob_v rfl rfl (r_move (gq 2 rfl))) (oc (ob_v rfl rfl (r_call (xs := [.tmp 53, .tmp 54]) (rsubL_c Y2 X2 (Nat.le_of_lt hcm) (Nat.le_trans (lenM hYM2 hM) (by decide))) (.cons (vq 0 rfl) (.cons (vq 1 rfl) .nil)))) (oc (ob_v rfl rfl (r_assign (vq 2 rfl))) o0)))) (fun a w hst => ?_)
                have hst : St B w0 60 [(7, _), (6, _), (5, _)] [⟨2, 24, ptrH, _⟩, ⟨3, 24, ptrH, _⟩, ⟨4, 24, ptrH, _⟩] a w := hst
                refine blk_normal ?_
                refine thn_normal ?_
                have hst := St.sel hst [2, 1, 0]
                exact ⟨Y2 - X2 + X2, by omega, Y2 - X2, X2, ⟨hX3, by omega, hXM2, gcd_less (by rw [Nat.gcd_comm]; exact hg3) (Nat.le_of_lt hcm), rfl⟩, hst⟩
              · have hcm : Y2 ≤ X2 := Nat.le_of_not_lt fun h => of_decide_eq_false hb6 (cm_lt0.2 h)
                refine wp_skip ?_
                refine thn_normal ?_
                refine gl (sts := [none, none, none]) (news := []) (sp := [.val 53 _, .val 54 _, .val 55 _, .val 5 _]) [.g 1, .g 2, .o 3] hst (oc (ob_v rfl rfl (r_move (gq 0 rfl))) (oc (ob_v rfl rfl (r_move (gq 1 rfl))) (oc (ob_v rfl rfl (r_call (xs := [.tmp 53, .tmp 54]) (rsubL_c X2 Y2 hcm (Nat.le_trans (lenM hXM2 hM) (by decide))) (.cons (vq 0 rfl) (.cons (vq 1 rfl) .nil)))) (oc (ob_v rfl rfl (r_assign (vq 2 rfl))) o0)))) (fun a w hst => ?_)
                have hst : St B w0 60 [(6, _), (7, _), (5, _)] [⟨2, 24, ptrH, _⟩, ⟨3, 24, ptrH, _⟩, ⟨4, 24, ptrH, _⟩] a w := hst
                refine blk_normal ?_
                refine thn_normal ?_
                have hst := St.sel hst [2, 0, 1]
                exact ⟨X2 - Y2 + Y2, by omega, X2 - Y2, Y2, ⟨hY3, by omega, hYM2, gcd_less hg3 hcm, rfl⟩, hst⟩
        · obtain rfl := len_nil hb3
          rw [Nat.gcd_zero_left] at hg1
          refine wp_exit ?_
          refine thn_exit ?_
          refine thn_exit ?_
          refine blk_exit ?_
          refine thn_normal ?_
          refine wp_seq ?_
          refine gl (sts := [none, none, some (4, _)]) (news := []) (sp := [.val 56 _, .val 57 _, .val 58 _, .val 59 _, .sto 2]) [] hst (oc (ob_v rfl rfl (r_move (gq 1 rfl))) (oc (ob_v rfl rfl (r_call (xs := [.const (.bool false), .tmp 56]) ((rsignedA_c false (limbs Y)).post sgn_e) (.cons has_bo (.cons (vq 0 rfl) .nil)))) (oc (ob_v rfl rfl (r_move (gq 2 rfl))) (oc (ob_v rfl rfl (r_call (xs := [.tmp 57, .tmp 58]) ((rdouble_c ((Y : Nat) : Int) t (by omega) (lenM hYM hM) (by omega)).wkp wk_riN) (.cons (vq 1 rfl) (.cons (vq 2 rfl) .nil)))) (oc (ob_sto rfl rfl rfl (vq 3 rfl) ty_24 (Eq.trans (b := 2) rfl rfl)) o0))))) (fun a w hst => ?_)
          have hst : St B w0 60 [] [⟨2, 24, ptrH, _⟩, ⟨3, 24, ptrH, _⟩, ⟨4, 24, ptrH, _⟩] a w := hst
          refine thn_normal ?_
          refine wp_ret ?_
          refine ret_wk ?_ (ret_cell rfl hst (List.mem_of_getElem? (i := 2) rfl) ty_24)
          exact wk_eq (congrArg Zi (by rw [hgp, ← hg1]; push_cast; rfl))

end Go.Proofs.YtmghfjcjcfaagaaGreat
