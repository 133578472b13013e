/- TopAway: for all small whole numbers the law through the layers on rays that leave answers true. No condition. -/
import Derived.Test.YtiflajpmipejnaaTopA
import Derived.Test.YtiflajpmipejnaaOrbL
import Derived.Test.YtiflajpmipejnaaRows
import Derived.WalkKit
import Derived.ProofKit
import Derived.OpenShut
import Derived.ShutString
import Derived.ChangeOld
import Derived.Below
namespace Go.Proofs.Ytiflajpmipejnaa
open Go Go.RowKit
namespace LTopAway
theorem fld_24_0 : Fld Try.prog 24 0 0 1 := ⟨_, _, Try.underlying24, rfl, rfl, by kernel_rfl, by decide⟩
theorem fld_24_1 : Fld Try.prog 24 1 1 1 := ⟨_, _, Try.underlying24, rfl, rfl, by kernel_rfl, by decide⟩
theorem fld_24_2 : Fld Try.prog 24 2 2 1 := ⟨_, _, Try.underlying24, rfl, rfl, by kernel_rfl, by decide⟩
theorem fld_24_3 : Fld Try.prog 24 3 3 1 := ⟨_, _, Try.underlying24, rfl, rfl, by kernel_rfl, by decide⟩
theorem fld_24_4 : Fld Try.prog 24 4 4 1 := ⟨_, _, Try.underlying24, rfl, rfl, by kernel_rfl, by decide⟩
theorem fld_32_2 : Fld Try.prog 32 2 8 4 := ⟨_, _, Try.underlying32, rfl, rfl, by kernel_rfl, by decide⟩
theorem fld_32_3 : Fld Try.prog 32 3 12 4 := ⟨_, _, Try.underlying32, rfl, rfl, by kernel_rfl, by decide⟩
theorem ty_22 : Ty Try.prog 22 1 false := ⟨by kernel_rfl, by kernel_rfl⟩
theorem ty_29 : Ty Try.prog 29 4 true := ⟨by kernel_rfl, by kernel_rfl⟩
theorem ty_32 : Ty Try.prog 32 16 true := ⟨by kernel_rfl, by kernel_rfl⟩
theorem ty_37 : Ty Try.prog 37 8 true := ⟨by kernel_rfl, by kernel_rfl⟩
theorem ty_5 : Ty Try.prog 5 1 false := ⟨by kernel_rfl, by kernel_rfl⟩
end LTopAway
open LTopAway
open Go.ChangeShapes Go.WideShapes Go.ChangeAt
/-- what is asked of small ones. -/
structure AwOk (p b d : Int) (y u : Nat) : Prop where
  p : -128 ≤ p ∧ p < 128
  b : -128 ≤ b ∧ b < 128
  d : -128 ≤ d ∧ d < 128
  y : y < 256
  u : u < 256
structure RAw where
  p : Int
  b : Int
  d : Int
  y : Nat
  u : Nat
  ok : AwOk p b d y u
def AwayA (x : RAw) : As := cat [NumA .i8 x.p, NumA .i8 x.b, NumA .i8 x.d, NumA .u8 (x.y : Nat), NumA .u8 (x.u : Nat)]
theorem cat_fiv {B : Nat} {cs : List Value} {w : World} {A0 A1 A2 A3 A4 : As} (h0 : A0.p B ((cs.drop 0).take A0.n) w) (h1 : A1.p B ((cs.drop A0.n).take A1.n) w) (h2 : A2.p B ((cs.drop (A0.n + A1.n)).take A2.n) w) (h3 : A3.p B ((cs.drop (A0.n + (A1.n + A2.n))).take A3.n) w) (h4 : A4.p B ((cs.drop (A0.n + (A1.n + (A2.n + A3.n)))).take A4.n) w) (hl : cs.length = A0.n + (A1.n + (A2.n + (A3.n + A4.n)))) : (cat [A0, A1, A2, A3, A4]).p B cs w :=
  cat_of (by simpa using hl) fun k A hk => by
    match k, hk with
    | 0, hk => simp at hk; subst hk; exact h0
    | 1, hk => simp at hk; subst hk; simpa [offs] using h1
    | 2, hk => simp at hk; subst hk; simpa [offs] using h2
    | 3, hk => simp at hk; subst hk; simpa [offs] using h3
    | 4, hk => simp at hk; subst hk; simpa [offs] using h4
section
variable {H : Type} {enc : TypeId × Value → H} {w : World} {base : Nat} {spare : Nat → Bool} {held : Bool} {fuel : Nat} {cs : List Value} {x : DataW H × List MemPlace}
theorem rd_u8 (h : DataW.trod enc Try.prog w base spare held fuel 5 cs = some x) : ∃ n : Nat, n < 256 ∧ (NumA .u8 (n : Nat)).p w.heap.size cs w := by
  obtain ⟨b, hb, _, hw⟩ := DataW.trod_int Try.underlying5 h
  simp [Lit.wf, IntKind.min, IntKind.max, IntKind.signed, IntKind.bits] at hw
  exact ⟨b.toNat, by omega, by rw [Int.toNat_of_nonneg (by omega)]; exact hb⟩
theorem rd_i8 (h : DataW.trod enc Try.prog w base spare held fuel 22 cs = some x) : ∃ n : Int, (-128 ≤ n ∧ n < 128) ∧ (NumA .i8 n).p w.heap.size cs w := by
  obtain ⟨b, hb, _, hw⟩ := DataW.trod_int Try.underlying22 h
  simp [Lit.wf, IntKind.min, IntKind.max, IntKind.signed, IntKind.bits] at hw
  exact ⟨b, by omega, hb⟩
theorem rd_away (h : DataW.trod enc Try.prog w base spare held fuel 24 cs = some x) : ∃ y, (AwayA y).p w.heap.size cs w := by
  obtain ⟨xs, n, _, _, hl, hlen, hf⟩ := DataW.trod_struct Try.underlying24 h
  have hl' : cs.length = 5 := hl.trans (by kernel_rfl)
  have c0 : Try.prog.cellsOf 22 = 1 := by kernel_rfl
  have c1 : Try.prog.cellsOf 5 = 1 := by kernel_rfl
  match xs, hlen with
  | [y0, y1, y2, y3, y4], _ =>
    have h0 : DataW.trod enc Try.prog w base spare held n 22 ((cs.drop 0).take (Try.prog.cellsOf 22)) = some y0 := hf 0 _ rfl
    have h1 : DataW.trod enc Try.prog w base spare held n 22 ((cs.drop 1).take (Try.prog.cellsOf 22)) = some y1 := hf 1 _ rfl
    have h2 : DataW.trod enc Try.prog w base spare held n 22 ((cs.drop 2).take (Try.prog.cellsOf 22)) = some y2 := hf 2 _ rfl
    have h3 : DataW.trod enc Try.prog w base spare held n 5 ((cs.drop 3).take (Try.prog.cellsOf 5)) = some y3 := hf 3 _ rfl
    have h4 : DataW.trod enc Try.prog w base spare held n 5 ((cs.drop 4).take (Try.prog.cellsOf 5)) = some y4 := hf 4 _ rfl
    rw [c0] at h0 h1 h2
    rw [c1] at h3 h4
    obtain ⟨a, qa, ha⟩ := rd_i8 h0
    obtain ⟨b, qb, hb⟩ := rd_i8 h1
    obtain ⟨c, qc, hc⟩ := rd_i8 h2
    obtain ⟨d, qd, hd⟩ := rd_u8 h3
    obtain ⟨e, qe, he⟩ := rd_u8 h4
    exact ⟨⟨a, b, c, d, e, ⟨qa, qb, qc, qd, qe⟩⟩, cat_fiv ha hb hc hd he hl'⟩
end

/-! what is answered -/
def am (p b d : Int) : RM := ⟨rfOf (Rat.divInt p 1), rfOf (Rat.divInt b 1), rfOf (Rat.divInt (p * d - 1) b), rfOf (Rat.divInt d 1)⟩
theorem th_ok {p b d : Int} (h : (!(thI p b d).2) = false) : b ≠ 0 ∧ (thI p b d).1 = rfOf (Rat.divInt (p * d - 1) b) := by
  unfold thI at h ⊢
  by_cases e : b = 0
  · rw [if_pos e] at h; cases h
  · rw [if_neg e]; exact ⟨e, rfl⟩
theorem sta_nought {m : MQ} {r : YQ} (h : r.y = 0 ∧ r.u = 0) : staQ m r = true := by
  have hF : foQ m r = 0 := by unfold foQ; rw [h.1, h.2, Rat.zero_mul, Rat.zero_mul]; exact Rat.sub_self
  have e0 : r.y * r.y = 0 := by rw [h.1]; exact Rat.zero_mul 0
  have e1 : r.u * r.u = 0 := by rw [h.2]; exact Rat.zero_mul 0
  unfold staQ
  rw [go_nought _ h, hF, e0, e1]
  have hz : (0 : Rat).num.sign = 0 := rfl
  rw [hz]
  split
  · rfl
  · rename_i h
    split
    · rename_i h2
      have h3 : ((shQ' m).num.sign == 0) = true := by simpa using h2
      rw [h3] at h
      simp at h
    · have hc : cmQ 0 0 ≤ 0 := cm_le.2 Rat.le_refl
      simp [hc]
theorem fo_b {m : MQ} (h : detM m = 1) (r : YQ) : m.b * foQ m r = (m.a + m.d) * (goQ m r).y * r.y - r.y * r.y - (goQ m r).y * (goQ m r).y := by
  unfold detM at h
  unfold foQ goQ
  grind
section
variable {p b d : Int} {y u : Nat}
theorem am_q : toM (am p b d) = ⟨(p : Rat), (b : Rat), Rat.divInt (p * d - 1) b, (d : Rat)⟩ := by
  unfold toM am
  simp only [toQ_of, di_one]
theorem AwOk.fi (h : AwOk p b d y u) (hok : okM (am p b d) = true) : fiO (am p b d) (wr y u) = true := by
  have h5 : okX (wr y u).y = true := by show okX (rfOf (Rat.divInt y 1)) = true; rw [okX_of, di_one, int_long (by have := h.y; omega)]; rfl
  have h6 : okX (wr y u).u = true := by show okX (rfOf (Rat.divInt u 1)) = true; rw [okX_of, di_one, int_long (by have := h.u; omega)]; rfl
  unfold fiO
  rw [hok]
  simp [h5, h6]
theorem AwOk.leave (h : AwOk p b d y u) (hb : b ≠ 0) (hok : okM (am p b d) = true) (hs : staQ (toM (am p b d)) (toY (wr y u)) = false) : ∃ n : Nat, n ≤ 4000 ∧ leO (am p b d) (wr y u) (rfOf (Rat.divInt 1000 1)) = ((n : Int), 0) := by
  have hd := (okM_q hok).2
  have hfi := h.fi hok
  have hlm : okX (rfOf (Rat.divInt 1000 1)) = true := by rw [okX_of, di_one, int_long (by decide)]; rfl
  have hc : (decide ((shQ' (toM (am p b d))).num.sign > 0) || (((foQ (toM (am p b d)) (toY (wr y u))).num.sign == 0) && ((shQ' (toM (am p b d))).num.sign == 0))) = false := by
    cases hc : (decide ((shQ' (toM (am p b d))).num.sign > 0) || (((foQ (toM (am p b d)) (toY (wr y u))).num.sign == 0) && ((shQ' (toM (am p b d))).num.sign == 0))) with
    | false => rfl
    | true => rw [st_1 hc] at hs; cases hs
  have ht : (toM (am p b d)).a + (toM (am p b d)).d = ((p + d : Int) : Rat) := by rw [am_q, Rat.intCast_add]
  have hq : (toY (wr y u)).y = (((y : Nat) : Int) : Rat) := by rw [w_r]; rfl
  have hp : (goQ (toM (am p b d)) (toY (wr y u))).y = ((p * y + b * u : Int) : Rat) := by
    rw [w_r, am_q, Rat.intCast_add, Rat.intCast_mul, Rat.intCast_mul]
    rfl
  have hz := go_zp hd ht hq hp
  have hB : (toM (am p b d)).b = (b : Rat) := by rw [am_q]
  have hfb := fo_b hd (toY (wr y u))
  rw [ht, hq, hp, hB] at hfb
  have hsh : shQ' (toM (am p b d)) = ((4 - (p + d) * (p + d) : Int) : Rat) := by
    unfold shQ'
    rw [ht, Rat.intCast_sub, Rat.intCast_mul]
    rfl
  rw [hsh, w_sg] at hc
  have far : ∀ k : Nat, k ≤ 3999 → 1001 ≤ (zp (p + d) (p * y + b * u, (y : Int)) k).1.natAbs → ∃ n : Nat, n ≤ 4000 ∧ leO (am p b d) (wr y u) (rfOf (Rat.divInt 1000 1)) = ((n : Int), 0) := by
    intro k hk hf
    obtain ⟨n, h1, h2, _⟩ := le_at (k := k + 1) ⟨hfi, hlm⟩ (by omega) (by
      rw [go_next, toQ_of, di_one]
      exact far_z (n := 1001) (hz k).2 (Rat.intCast_lt_intCast.2 (by decide)) hf)
    exact ⟨n, by omega, h2⟩
  have hu : b * u = 0 → u = 0 := fun e => (Int.mul_eq_zero.1 e).elim (fun e => absurd e hb) (fun e => by omega)
  generalize hP : p * y + b * u = P at *
  by_cases h3 : 3 ≤ (p + d).natAbs
  · have hne : P ≠ 0 ∨ (y : Int) ≠ 0 := by
      apply Decidable.byContradiction
      intro hn
      have hy0 : y = 0 := by omega
      have hP0 : P = 0 := by omega
      rw [hP0, hy0] at hP
      have hu0 := hu (by simpa using hP)
      rw [sta_nought ⟨by rw [hq, hy0]; rfl, by rw [w_r, hu0]; rfl⟩] at hs
      cases hs
    obtain ⟨k, q1, q2⟩ := zp_leave3 h3 8 10 (x := (P, (y : Int))) (by have := h.y; show (y : Int).natAbs ≤ 256; omega) hne
    exact far k (by omega) (by have e : (2 : Nat) ^ 10 = 1024 := rfl; omega)
  · by_cases hbig : 1001 ≤ P.natAbs
    · exact far 0 (by decide) hbig
    · have hc1 : ¬ (4 - (p + d) * (p + d)).sign > 0 := by
        intro e
        rw [decide_eq_true e] at hc
        cases hc
      have h2 : p + d = 2 ∨ p + d = -2 := by
        have hT : p + d = -2 ∨ p + d = -1 ∨ p + d = 0 ∨ p + d = 1 ∨ p + d = 2 := by omega
        rcases hT with e | e | e | e | e
        · exact .inr e
        · rw [e] at hc1; exact absurd (by decide) hc1
        · rw [e] at hc1; exact absurd (by decide) hc1
        · rw [e] at hc1; exact absurd (by decide) hc1
        · exact .inl e
      have hF : foQ (toM (am p b d)) (toY (wr y u)) ≠ 0 := by
        intro e
        rw [e] at hc
        have e4 : (4 - (p + d) * (p + d)).sign = 0 := by rcases h2 with e2 | e2 <;> rw [e2] <;> rfl
        rw [e4] at hc
        exact absurd hc (by decide)
      have hcase : ((p + d) = 2 ∧ P ≠ (y : Int)) ∨ ((p + d) = -2 ∧ P ≠ -(y : Int)) := by
        have key : ∀ e : (((p + d : Int) : Rat) * (P : Rat) * ((y : Int) : Rat) - ((y : Int) : Rat) * ((y : Int) : Rat) - (P : Rat) * (P : Rat)) = 0, False := by
          intro e
          rw [e] at hfb
          rcases Rat.mul_eq_zero.1 hfb with e1 | e1
          · exact hb (Rat.intCast_eq_zero_iff.1 e1)
          · exact hF e1
        rcases h2 with e2 | e2
        · refine .inl ⟨e2, fun e => key ?_⟩
          rw [e2, e]
          have e3 : ((2 : Int) : Rat) = 2 := rfl
          rw [e3]
          grind
        · refine .inr ⟨e2, fun e => key ?_⟩
          have e3 : ((-2 : Int) : Rat) = -2 := rfl
          rw [e2, e, e3, Rat.intCast_neg]
          grind
      have q := zp_leave2 (x := (P, (y : Int))) hcase 2002
      exact far 2002 (by decide) (by have e : ((P, (y : Int)) : Int × Int).1 = P := rfl; rw [e] at q; omega)
end

set_option maxRecDepth 100000 in
set_option maxHeartbeats 4000000 in
theorem topAway_w (x : RAw) : Cn Try.prog 3 [(AwayA x).va] (Bo true) := by
  have hxp := x.ok.p
  have hxb := x.ok.b
  have hxd := x.ok.d
  have hxy := x.ok.y
  have hxu := x.ok.u
  refine Cn.intro Try.func3 rfl (by kernel_rfl) nq (fun B w0 a hst => ?_)
  have hst : St B w0 82 [(0, (AwayA x).va)] [] a w0.w := hst
  refine wp_seq ?_
  refine gl (sts := []) (news := [⟨1, 24, ptrH, some 0, _, none⟩]) (sp := [.alc 0, .val 2 _]) [.o 1] hst (oc (ob_box rfl rfl rfl (gq 0 rfl)) (oc (ob_v rfl rfl (r_assign has_bo)) o0)) (fun a w hst => ?_)
  have hst : St B w0 82 [(2, _)] [⟨1, 24, ptrH, _⟩] a w := hst
  refine thn_normal ?_
  refine wp_seq ?_
  refine go_draw (anc := [[], [0], [0, 1], [0, 1, 2], [], [4], [4, 5], [0, 1, 2, 3, 4, 5, 6], [0, 1, 2, 3, 4, 5, 6, 7], [], [0, 1, 2, 3, 4, 5, 6, 7, 8, 9]]) (sts := [none]) (news := [⟨3, 32, ptrH, some 9, _, some (10, _)⟩]) (sp := [.adr 11 1 (.some 0) True, .val 12 _, .val 13 _, .val 14 _, .adr 15 1 (.some 1) True, .val 16 _, .val 17 _, .val 18 _, .val 19 _, .alc 1, .sto 1]) [.g 0] follows_mixed hst (oc (ob_a rfl rfl (a_fld (lz0 0 rfl) fld_24_0)) (oc (ob_v rfl rfl (r_loadf 0 rfl (by kernel_rfl) trivial (lz0 0 rfl) (Sub.part 0 rfl rfl) ty_22)) (oc (ob_v rfl rfl (r_convk .i64 (by kernel_rfl) (by kernel_rfl) (vq 1 rfl) (wi64 (by omega) (by omega)))) (oc (ob_v rfl rfl (r_call (xs := [.tmp 13, .const (.int .i64 (1))]) (ofT_c (p := x.p) (q := 1) (by omega) (by decide) (by decide)) (.cons (vq 2 rfl) (.cons has_num .nil)))) (oc (ob_a rfl rfl (a_fld (lz0 0 rfl) fld_24_1)) (oc (ob_v rfl rfl (r_loadf 4 rfl (by kernel_rfl) trivial (lz0 0 rfl) (Sub.part 1 rfl rfl) ty_22)) (oc (ob_v rfl rfl (r_convk .i64 (by kernel_rfl) (by kernel_rfl) (vq 5 rfl) (wi64 (by omega) (by omega)))) (oc (ob_v rfl rfl (r_call (xs := [.tmp 17, .const (.int .i64 (1))]) (ofT_c (p := x.b) (q := 1) (by omega) (by decide) (by decide)) (.cons (vq 6 rfl) (.cons has_num .nil)))) (oc (ob_v rfl rfl (r_build (xs := [(0, .tmp 14), (1, .tmp 18)]) (qs := [(0, _), (1, _)]) str_matrix (.cons ⟨rfl, (vq 3 rfl), rfl⟩ (.cons ⟨rfl, (vq 7 rfl), rfl⟩ .nil)))) (oc (ob_alc rfl rfl rfl (Str.zero str_matrix)) (oc (ob_sto rfl rfl rfl (vq 8 rfl) ty_32 (Eq.trans (b := 16) rfl rfl)) o0))))))))))) (by kernel_rfl) (by kernel_rfl) (by kernel_rfl) (by kernel_rfl) (fun a w hst => ?_)
  have hst : St B w0 82 [(2, _)] [⟨1, 24, ptrH, _⟩, ⟨3, 32, ptrH, _⟩] a w := hst
  refine thn_normal ?_
  refine wp_seq ?_
  refine gl (sts := [none, none]) (news := [⟨4, 29, ptrH, some 13, _, some (14, _)⟩]) (sp := [.adr 21 1 (.some 0) True, .val 22 _, .val 23 _, .adr 24 1 (.some 1) True, .val 25 _, .val 26 _, .adr 27 1 (.some 2) True, .val 28 _, .val 29 _, .val 30 _, .val 20 _, .val 31 _, .val 32 _, .alc 2, .sto 2, .val 5 _]) [.g 0, .o 15] hst (oc (ob_a rfl rfl (a_fld (lz0 0 rfl) fld_24_0)) (oc (ob_v rfl rfl (r_loadf 0 rfl (by kernel_rfl) trivial (lz0 0 rfl) (Sub.part 0 rfl rfl) ty_22)) (oc (ob_v rfl rfl (r_convk .i64 (by kernel_rfl) (by kernel_rfl) (vq 1 rfl) (wi64 (by omega) (by omega)))) (oc (ob_a rfl rfl (a_fld (lz0 0 rfl) fld_24_1)) (oc (ob_v rfl rfl (r_loadf 3 rfl (by kernel_rfl) trivial (lz0 0 rfl) (Sub.part 1 rfl rfl) ty_22)) (oc (ob_v rfl rfl (r_convk .i64 (by kernel_rfl) (by kernel_rfl) (vq 4 rfl) (wi64 (by omega) (by omega)))) (oc (ob_a rfl rfl (a_fld (lz0 0 rfl) fld_24_2)) (oc (ob_v rfl rfl (r_loadf 6 rfl (by kernel_rfl) trivial (lz0 0 rfl) (Sub.part 2 rfl rfl) ty_22)) (oc (ob_v rfl rfl (r_convk .i64 (by kernel_rfl) (by kernel_rfl) (vq 7 rfl) (wi64 (by omega) (by omega)))) (oc (ob_v rfl rfl (r_call (xs := [.tmp 23, .tmp 26, .tmp 29]) (third_c (x := x.p) (y := x.b) (z := x.d) (by omega) (by omega) (by omega)) (.cons (vq 2 rfl) (.cons (vq 5 rfl) (.cons (vq 8 rfl) .nil))))) (oc (ob_v rfl rfl (r_move (vq 9 rfl))) (oc (ob_v rfl rfl (r_ex0 (vq 10 rfl))) (oc (ob_v rfl rfl (r_ex1 (vq 10 rfl))) (oc (ob_alc rfl rfl rfl (Str.zero str_frac)) (oc (ob_sto rfl rfl rfl (vq 11 rfl) ty_29 (Eq.trans (b := 4) rfl rfl)) (oc (ob_v rfl rfl (r_assign (vq 12 rfl))) o0)))))))))))))))) (fun a w hst => ?_)
  have hst : St B w0 82 [(2, _), (5, _)] [⟨1, 24, ptrH, _⟩, ⟨3, 32, ptrH, _⟩, ⟨4, 29, ptrH, _⟩] a w := hst
  refine thn_normal ?_
  refine wp_seq ?_
  refine wp_seq ?_
  refine gl (sts := [none, none, none]) (news := []) (sp := [.val 33 _, .val 34 _]) [.g 0, .o 1] hst (oc (ob_v rfl rfl (r_move (gq 1 rfl))) (oc (ob_v rfl rfl (r_not (vq 0 rfl))) o0)) (fun a w hst => ?_)
  have hst : St B w0 82 [(2, _), (34, _)] [⟨1, 24, ptrH, _⟩, ⟨3, 32, ptrH, _⟩, ⟨4, 29, ptrH, _⟩] a w := hst
  refine thn_normal ?_
  refine cond_of hst (List.mem_of_getElem? (i := 1) rfl) (fun hb0 => ?_) (fun hb0 => ?_)
  · refine wp_seq ?_
    refine gl (sts := [none, none, none]) (news := []) (sp := [.val 35 _, .val 2 _]) [.o 1] hst (oc (ob_v rfl rfl (r_call (xs := []) known14_c .nil)) (oc (ob_v rfl rfl (r_assign (vq 0 rfl))) o0)) (fun a w hst => ?_)
    have hst : St B w0 82 [(2, _)] [⟨1, 24, ptrH, _⟩, ⟨3, 32, ptrH, _⟩, ⟨4, 29, ptrH, _⟩] a w := hst
    refine thn_normal ?_
    refine wp_ret ?_
    refine thn_ret ?_
    refine ret_wk ?_ (ret_tmp rfl hst (List.mem_of_getElem? (i := 0) rfl))
    exact wk_id
  · obtain ⟨hb, hth⟩ := th_ok hb0
    have hst := St.cvA (A' := RFA (rfOf (Rat.divInt (x.p * x.d - 1) x.b))) hst 2 rfl (congrArg RFA hth)
    refine wp_skip ?_
    refine thn_normal ?_
    refine wp_seq ?_
    refine gl (sts := [none, some (2, _), none]) (news := []) (sp := [.val 36 _, .adr 37 3 (.some 8) True, .sto 1]) [.g 0] hst (oc (ob_v rfl rfl (r_load (lz0 2 rfl) ty_29)) (oc (ob_a rfl rfl (a_fld (lz0 1 rfl) fld_32_2)) (oc (ob_stof 1 rfl rfl rfl rfl (by kernel_rfl) (vq 0 rfl) ty_29 (Put.part 2 rfl rfl rfl)) o0))) (fun a w hst => ?_)
    have hst : St B w0 82 [(2, _)] [⟨1, 24, ptrH, _⟩, ⟨3, 32, ptrH, _⟩, ⟨4, 29, ptrH, _⟩] a w := hst
    refine thn_normal ?_
    refine wp_seq ?_
    refine gl (sts := [none, some (5, _), none]) (news := []) (sp := [.adr 38 1 (.some 2) True, .val 39 _, .val 40 _, .val 41 _, .adr 42 3 (.some 12) True, .sto 1]) [.g 0] hst (oc (ob_a rfl rfl (a_fld (lz0 0 rfl) fld_24_2)) (oc (ob_v rfl rfl (r_loadf 0 rfl (by kernel_rfl) trivial (lz0 0 rfl) (Sub.part 2 rfl rfl) ty_22)) (oc (ob_v rfl rfl (r_convk .i64 (by kernel_rfl) (by kernel_rfl) (vq 1 rfl) (wi64 (by omega) (by omega)))) (oc (ob_v rfl rfl (r_call (xs := [.tmp 40, .const (.int .i64 (1))]) (ofT_c (p := x.d) (q := 1) (by omega) (by decide) (by decide)) (.cons (vq 2 rfl) (.cons has_num .nil)))) (oc (ob_a rfl rfl (a_fld (lz0 1 rfl) fld_32_3)) (oc (ob_stof 4 rfl rfl rfl rfl (by kernel_rfl) (vq 3 rfl) ty_29 (Put.part 3 rfl rfl rfl)) o0)))))) (fun a w hst => ?_)
    have hst : St B w0 82 [(2, _)] [⟨1, 24, ptrH, _⟩, ⟨3, 32, ptrH, _⟩, ⟨4, 29, ptrH, _⟩] a w := hst
    refine thn_normal ?_
    refine wp_seq ?_
    refine go_draw (anc := [[], [0], [0, 1], [0, 1, 2], [], [4], [4, 5], [0, 1, 2, 3, 4, 5, 6], [0, 1, 2, 3, 4, 5, 6, 7], [], [0, 1, 2, 3, 4, 5, 6, 7, 8, 9]]) (sts := [none, none, none]) (news := [⟨6, 37, ptrH, some 9, _, some (10, _)⟩]) (sp := [.adr 43 1 (.some 3) True, .val 44 _, .val 45 _, .val 46 _, .adr 47 1 (.some 4) True, .val 48 _, .val 49 _, .val 50 _, .val 51 _, .alc 3, .sto 3]) [.g 0] follows_mixed hst (oc (ob_a rfl rfl (a_fld (lz0 0 rfl) fld_24_3)) (oc (ob_v rfl rfl (r_loadf 0 rfl (by kernel_rfl) trivial (lz0 0 rfl) (Sub.part 3 rfl rfl) ty_5)) (oc (ob_v rfl rfl (r_convk .i64 (by kernel_rfl) (by kernel_rfl) (vq 1 rfl) (wi64 (by omega) (by omega)))) (oc (ob_v rfl rfl (r_call (xs := [.tmp 45, .const (.int .i64 (1))]) (ofT_c (p := (x.y : Int)) (q := 1) (by omega) (by decide) (by decide)) (.cons (vq 2 rfl) (.cons has_num .nil)))) (oc (ob_a rfl rfl (a_fld (lz0 0 rfl) fld_24_4)) (oc (ob_v rfl rfl (r_loadf 4 rfl (by kernel_rfl) trivial (lz0 0 rfl) (Sub.part 4 rfl rfl) ty_5)) (oc (ob_v rfl rfl (r_convk .i64 (by kernel_rfl) (by kernel_rfl) (vq 5 rfl) (wi64 (by omega) (by omega)))) (oc (ob_v rfl rfl (r_call (xs := [.tmp 49, .const (.int .i64 (1))]) (ofT_c (p := (x.u : Int)) (q := 1) (by omega) (by decide) (by decide)) (.cons (vq 6 rfl) (.cons has_num .nil)))) (oc (ob_v rfl rfl (r_build (xs := [(0, .tmp 46), (1, .tmp 50)]) (qs := [(0, _), (1, _)]) str_ray (.cons ⟨rfl, (vq 3 rfl), rfl⟩ (.cons ⟨rfl, (vq 7 rfl), rfl⟩ .nil)))) (oc (ob_alc rfl rfl rfl (Str.zero str_ray)) (oc (ob_sto rfl rfl rfl (vq 8 rfl) ty_37 (Eq.trans (b := 8) rfl rfl)) o0))))))))))) (by kernel_rfl) (by kernel_rfl) (by kernel_rfl) (by kernel_rfl) (fun a w hst => ?_)
    have hst : St B w0 82 [(2, _)] [⟨1, 24, ptrH, _⟩, ⟨3, 32, ptrH, _⟩, ⟨4, 29, ptrH, _⟩, ⟨6, 37, ptrH, _⟩] a w := hst
    refine thn_normal ?_
    refine wp_seq ?_
    refine wp_seq ?_
    refine gl (sts := [none, none, none, none]) (news := []) (sp := [.val 52 _, .val 53 _, .val 54 _]) [.g 0, .o 2] hst (oc (ob_v rfl rfl (r_load (lz0 1 rfl) ty_32)) (oc (ob_v rfl rfl (r_call (xs := [.tmp 52]) (rayCheck_c (am x.p x.b x.d)) (.cons (vq 0 rfl) .nil))) (oc (ob_v rfl rfl (r_neq (vq 1 rfl) has_num)) o0))) (fun a w hst => ?_)
    have hst : St B w0 82 [(2, _), (54, _)] [⟨1, 24, ptrH, _⟩, ⟨3, 32, ptrH, _⟩, ⟨4, 29, ptrH, _⟩, ⟨6, 37, ptrH, _⟩] a w := hst
    refine thn_normal ?_
    refine cond_of hst (List.mem_of_getElem? (i := 1) rfl) (fun hb1 => ?_) (fun hb1 => ?_)
    · refine wp_seq ?_
      refine gl (sts := [none, none, none, none]) (news := []) (sp := [.val 55 _, .val 2 _]) [.o 1] hst (oc (ob_v rfl rfl (r_call (xs := []) known14_c .nil)) (oc (ob_v rfl rfl (r_assign (vq 0 rfl))) o0)) (fun a w hst => ?_)
      have hst : St B w0 82 [(2, _)] [⟨1, 24, ptrH, _⟩, ⟨3, 32, ptrH, _⟩, ⟨4, 29, ptrH, _⟩, ⟨6, 37, ptrH, _⟩] a w := hst
      refine thn_normal ?_
      refine wp_ret ?_
      refine thn_ret ?_
      refine ret_wk ?_ (ret_tmp rfl hst (List.mem_of_getElem? (i := 0) rfl))
      exact wk_id
    · have hok : okM (am x.p x.b x.d) = true := Decidable.byContradiction fun e => by rw [if_neg e] at hb1; simp at hb1
      have hfi := x.ok.fi hok
      refine wp_skip ?_
      refine thn_normal ?_
      refine wp_seq ?_
      refine gl (sts := [none, none, none, none]) (news := []) (sp := [.val 57 _, .val 58 _, .val 59 _, .val 56 _, .val 60 _, .val 61 _, .val 7 _, .val 8 _]) [.g 0, .o 6, .o 7] hst (oc (ob_v rfl rfl (r_load (lz0 1 rfl) ty_32)) (oc (ob_v rfl rfl (r_load (lz0 3 rfl) ty_37)) (oc (ob_v rfl rfl (r_call (xs := [.tmp 57, .tmp 58]) ((stays_c (am x.p x.b x.d) (wr x.y x.u)).post (by rw [stO, if_pos hfi])) (.cons (vq 0 rfl) (.cons (vq 1 rfl) .nil)))) (oc (ob_v rfl rfl (r_move (vq 2 rfl))) (oc (ob_v rfl rfl (r_ex0 (vq 3 rfl))) (oc (ob_v rfl rfl (r_ex1 (vq 3 rfl))) (oc (ob_v rfl rfl (r_assign (vq 4 rfl))) (oc (ob_v rfl rfl (r_assign (vq 5 rfl))) o0)))))))) (fun a w hst => ?_)
      have hst : St B w0 82 [(2, _), (7, _), (8, _)] [⟨1, 24, ptrH, _⟩, ⟨3, 32, ptrH, _⟩, ⟨4, 29, ptrH, _⟩, ⟨6, 37, ptrH, _⟩] a w := hst
      refine thn_normal ?_
      refine wp_seq ?_
      refine wp_seq ?_
      refine gl (sts := [none, none, none, none]) (news := []) (sp := [.val 62 _, .val 63 _]) [.g 0, .g 1, .o 1] hst (oc (ob_v rfl rfl (r_move (gq 2 rfl))) (oc (ob_v rfl rfl (r_neq (vq 0 rfl) has_num)) o0)) (fun a w hst => ?_)
      have hst : St B w0 82 [(2, _), (7, _), (63, _)] [⟨1, 24, ptrH, _⟩, ⟨3, 32, ptrH, _⟩, ⟨4, 29, ptrH, _⟩, ⟨6, 37, ptrH, _⟩] a w := hst
      refine thn_normal ?_
      refine cond_of hst (List.mem_of_getElem? (i := 2) rfl) (fun hb2 => ?_) (fun hb2 => ?_)
      · simp at hb2
      · refine wp_skip ?_
        refine thn_normal ?_
        refine wp_seq ?_
        refine go_draw (anc := [[], [], [], [0, 1, 2], [0, 1, 2, 3], [0, 1, 2, 3, 4], [0, 1, 2, 3, 4], [0, 1, 2, 3, 4, 5], [0, 1, 2, 3, 4, 5, 6, 7]]) (sts := [none, none, none, none]) (news := []) (sp := [.val 65 _, .val 66 _, .val 67 _, .val 68 _, .val 64 _, .val 69 _, .val 70 _, .val 9 _, .val 10 _]) [.g 0, .g 1, .o 7, .o 8] follows_mixed hst (oc (ob_v rfl rfl (r_load (lz0 1 rfl) ty_32)) (oc (ob_v rfl rfl (r_load (lz0 3 rfl) ty_37)) (oc (ob_v rfl rfl (r_call (xs := [.const (.int .i64 (1000)), .const (.int .i64 (1))]) (ofT_c (p := 1000) (q := 1) (by decide) (by decide) (by decide)) (.cons has_num (.cons has_num .nil)))) (oc (ob_v rfl rfl (r_call (xs := [.tmp 65, .tmp 66, .tmp 67]) (leaves_c (am x.p x.b x.d) (wr x.y x.u) (rfOf (Rat.divInt 1000 1))) (.cons (vq 0 rfl) (.cons (vq 1 rfl) (.cons (vq 2 rfl) .nil))))) (oc (ob_v rfl rfl (r_move (vq 3 rfl))) (oc (ob_v rfl rfl (r_ex0 (vq 4 rfl))) (oc (ob_v rfl rfl (r_ex1 (vq 4 rfl))) (oc (ob_v rfl rfl (r_assign (vq 5 rfl))) (oc (ob_v rfl rfl (r_assign (vq 6 rfl))) o0))))))))) (by kernel_rfl) (by kernel_rfl) (by kernel_rfl) (by kernel_rfl) (fun a w hst => ?_)
        have hst : St B w0 82 [(2, _), (7, _), (9, _), (10, _)] [⟨1, 24, ptrH, _⟩, ⟨3, 32, ptrH, _⟩, ⟨4, 29, ptrH, _⟩, ⟨6, 37, ptrH, _⟩] a w := hst
        refine thn_normal ?_
        refine wp_seq ?_
        refine wp_seq ?_
        refine gl (sts := [none, none, none, none]) (news := []) (sp := [.val 71 _]) [.g 0, .g 2, .g 3, .o 0] hst (oc (ob_v rfl rfl (r_move (gq 1 rfl))) o0) (fun a w hst => ?_)
        have hst : St B w0 82 [(2, _), (9, _), (10, _), (71, _)] [⟨1, 24, ptrH, _⟩, ⟨3, 32, ptrH, _⟩, ⟨4, 29, ptrH, _⟩, ⟨6, 37, ptrH, _⟩] a w := hst
        refine thn_normal ?_
        refine cond_of hst (List.mem_of_getElem? (i := 3) rfl) (fun hb3 => ?_) (fun hb3 => ?_)
        · refine wp_seq ?_
          refine gl (sts := [none, none, none, none]) (news := []) (sp := [.val 72 _, .val 2 _]) [.g 1, .g 2, .o 1] hst (oc (ob_v rfl rfl (r_call (xs := []) known14_c .nil)) (oc (ob_v rfl rfl (r_assign (vq 0 rfl))) o0)) (fun a w hst => ?_)
          have hst : St B w0 82 [(9, _), (10, _), (2, _)] [⟨1, 24, ptrH, _⟩, ⟨3, 32, ptrH, _⟩, ⟨4, 29, ptrH, _⟩, ⟨6, 37, ptrH, _⟩] a w := hst
          refine thn_normal ?_
          refine wp_ret ?_
          refine thn_ret ?_
          refine ret_wk ?_ (ret_tmp rfl hst (List.mem_of_getElem? (i := 2) rfl))
          exact wk_id
        · have hs : staQ (toM (am x.p x.b x.d)) (toY (wr x.y x.u)) = false := hb3
          obtain ⟨n, hn, hle⟩ := x.ok.leave hb hok hs
          have hr : ((((leO (am x.p x.b x.d) (wr x.y x.u) (rfOf (Rat.divInt 1000 1))).2 == 0) && decide ((leO (am x.p x.b x.d) (wr x.y x.u) (rfOf (Rat.divInt 1000 1))).1 ≤ 4000)) && true) = true := by rw [hle]; simp; omega
          refine wp_skip ?_
          refine thn_normal ?_
          refine wp_seq ?_
          refine gl (sts := [none, none, none, none]) (news := []) (sp := [.val 73 _, .val 74 _, .val 75 _, .val 76 (Wh (_ = true) _), .val 77 (Wh (_ = true) _), .val 78 _, .val 79 _, .val 80 (Wh (_ = true) _), .val 81 _, .val 2 _]) [.o 9] hst (oc (ob_v rfl rfl (r_move (gq 2 rfl))) (oc (ob_v rfl rfl (r_eql (vq 0 rfl) has_num)) (oc (ob_v rfl rfl (r_move (vq 1 rfl))) (oc (ob_gd rfl rfl rfl (vq 2 rfl) nq (fun hg => r_move (gq 1 rfl))) (oc (ob_gd rfl rfl rfl (vq 2 rfl) nq (fun hg => r_leq (has_wh (vq 3 rfl) hg) has_num)) (oc (ob_v rfl rfl (r_and (vq 2 rfl) (vq 4 rfl))) (oc (ob_v rfl rfl (r_move (vq 5 rfl))) (oc (ob_gd rfl rfl rfl (vq 6 rfl) nq (fun hg => r_call (xs := []) known14_c .nil)) (oc (ob_v rfl rfl (r_and (vq 6 rfl) (vq 7 rfl))) (oc (ob_v rfl rfl (r_assign (vq 8 rfl))) o0)))))))))) (fun a w hst => ?_)
          have hst : St B w0 82 [(2, _)] [⟨1, 24, ptrH, _⟩, ⟨3, 32, ptrH, _⟩, ⟨4, 29, ptrH, _⟩, ⟨6, 37, ptrH, _⟩] a w := hst
          refine thn_normal ?_
          refine wp_ret ?_
          refine ret_wk ?_ (ret_tmp rfl hst (List.mem_of_getElem? (i := 0) rfl))
          exact wk_eq (congrArg Bo hr)

open Go.ChangeShapes Go.WideShapes Go.ChangeAt
open Go.ChangeMaps (open_string shut_string)
set_option linter.unusedVariables false
theorem own : ownKnob Try.prog.godebug = none := by kernel_rfl
theorem laidOut : laidOutB Try.prog = true := by kernel_rfl
set_option maxRecDepth 100000 in
theorem lifted (os : Os) (started : os.Started) (H : Type) (enc : TypeId × Value → H) :
    ReturnsInHanded {} Try.checked os 3 .any (Rows.topAwaySpec.pre6 enc Try.prog Try.f3 Rows.topAwayRow.domain false) (Rows.topAwaySpec.post enc Try.prog Try.f3 false true false false) := by
  refine returnsInHanded_of_change (C := Try.checked) own started (by kernel_rfl) Try.func3
    (ChangeSpec.witness6 (enc := enc) (C := Try.checked) false ⟨#[], #[.agg #[.int .i8 0, .int .i8 0, .int .i8 0, .int .u8 0, .int .u8 0]], []⟩ 8 (by kernel_rfl) (by kernel_rfl) (by kernel_rfl) (by kernel_rfl)) ?_
  intro W base args ds gs before hval0 hW hcnd _
  have hval : ∀ (j : Nat) t v, Try.f3.params[j]? = some t → args[j]? = some v → Value.okWide Try.prog W .any base t v := hval0
  have hW' := hW
  obtain ⟨p, q, hA0, hV, rfl, hfz, hnd⟩ := hW
  have hA : DataW.TrodAll enc Try.prog W 0 (fun _ => true) true Try.f3.params.toList args.toList ds p := hA0
  rw [Try.params3] at hA hval
  obtain ⟨v0, vs0, d0, ds0, p0, q0, hargs, rfl, rfl, h0, r0⟩ := trodAll_cons hA
  obtain ⟨rfl, rfl, rfl⟩ := trodAll_nil r0
  obtain rfl : args = #[v0] := by cases args; simp_all
  obtain ⟨rfl, rfl⟩ := trodVars_none hV
  have k0 := h0
  have lt0 : ∀ x ∈ p0, x.block < W.heap.size := by obtain ⟨m, hm⟩ := k0; exact DataW.trod_lt m _ _ _ hm
  obtain ⟨x0, a0⟩ := arg_of (A := AwayA) (fun _ => rfl) Try.underlying24 rd_away (hval 0 24 v0 rfl rfl) h0
  clear hA0 hval0
  refine ((topAway_w x0).2 W.heap.size W [v0] (Nat.le_refl _) (.cons a0 .nil)).mono fun e W' ⟨v, he, hv, bel⟩ => ?_
  have hv' := bo_val hv
  subst hv' he
  exact ⟨_, rfl, _, _, _, [], _, [], hW', trodAll_mk1 (shut_bool Try.underlying4 _), (trodAll_cons_mk (Below.trod laidOut (by kernel_rfl) (of_decide_eq_true (by kernel_rfl)) k0 bel lt0) trodAll_mk0), rfl, bel.frame _, fun h => by cases h⟩
theorem over : Rows.topAwayRow.holds Try.pinned (OpenSpec.ofChange Rows.topAwaySpec) :=
  OpenClaim.holds_of_wide 3 Try.f3 rfl rfl rfl rfl rfl rfl rfl ⟨rfl, rfl, rfl, rfl, rfl⟩ rfl rfl rfl rfl rfl (by kernel_rfl) Try.func3 (by kernel_rfl)
    (of_decide_eq_true (by kernel_rfl)) (by unfold Func.isWrapper; rw [if_neg (of_decide_eq_false (by kernel_rfl))]; exact ⟨rfl, rfl⟩)
    (fun os started H enc _ => lifted os started H enc)
theorem provedTopAway : Rows.TopAwaySaid := over
#print axioms provedTopAway

end Go.Proofs.Ytiflajpmipejnaa
