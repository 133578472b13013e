/- row.Power: a matrix so many times, by squaring. -/
import Derived.Test.YtiflajpmipejnaaGreatOrbA
import Derived.Test.YtiflajpmipejnaaGreatCavA
namespace Go.Proofs.YtiflajpmipejnaaGreat
open Go Go.RowKit
namespace OrbC
theorem ty_38 : Ty Tryz.prog 38 16 true := ⟨by kernel_rfl, by kernel_rfl⟩
end OrbC
open OrbC
def powQ (m : MQ) : Nat → MQ
  | 0 => ⟨1, 0, 0, 1⟩
  | k + 1 => mulQ (powQ m k) m
theorem mul_one' (m : MQ) : mulQ m ⟨1, 0, 0, 1⟩ = m := by cases m; simp [mulQ, Rat.add_zero, Rat.zero_add]
theorem one_mul' (m : MQ) : mulQ ⟨1, 0, 0, 1⟩ m = m := by cases m; simp [mulQ, Rat.add_zero, Rat.zero_add]
theorem pow_add (m : MQ) (i j : Nat) : mulQ (powQ m i) (powQ m j) = powQ m (i + j) := by
  induction j with
  | zero => exact mul_one' _
  | succ j ih =>
    show mulQ (powQ m i) (mulQ (powQ m j) m) = mulQ (powQ m (i + j)) m
    rw [mul_assoc3, ih]
/-- four fractions over one denominator. -/
theorem rep_all {m : MQ} {k : Nat} (ha : bQ k m.a) (hb : bQ k m.b) (hc : bQ k m.c) (hd : bQ k m.d) : RepM (4 * k) m := by
  have na := m.a.den_nz; have nb := m.b.den_nz; have nc := m.c.den_nz; have nd := m.d.den_nz
  have l3 : ∀ {x y z u : Int}, lz x ≤ k → lz y ≤ k → lz z ≤ k → lz u ≤ k → lz (x * y * (z * u)) ≤ 4 * k := fun {x y z u} hx hy hz hu => by
    have h1 := lz_mul (x * y) (z * u)
    have h2 := lz_mul x y
    have h3 := lz_mul z u
    omega
  refine rep_of (m.a.num * (m.b.den : Int) * ((m.c.den : Int) * (m.d.den : Int))) (m.b.num * (m.a.den : Int) * ((m.c.den : Int) * (m.d.den : Int))) (m.c.num * (m.d.den : Int) * ((m.a.den : Int) * (m.b.den : Int))) (m.d.num * (m.c.den : Int) * ((m.a.den : Int) * (m.b.den : Int))) ((m.a.den : Int) * (m.b.den : Int) * ((m.c.den : Int) * (m.d.den : Int))) ?_ ?_ ?_ ?_ ?_ (l3 ha.1 hb.2 hc.2 hd.2) (l3 hb.1 ha.2 hc.2 hd.2) (l3 hc.1 hd.2 ha.2 hb.2) (l3 hd.1 hc.2 ha.2 hb.2) (l3 ha.2 hb.2 hc.2 hd.2)
  · refine Int.mul_ne_zero (Int.mul_ne_zero ?_ ?_) (Int.mul_ne_zero ?_ ?_) <;> omega
  · have := den_mul m.a; simp only [Rat.intCast_mul]; rw [← this]; grind
  · have := den_mul m.b; simp only [Rat.intCast_mul]; rw [← this]; grind
  · have := den_mul m.c; simp only [Rat.intCast_mul]; rw [← this]; grind
  · have := den_mul m.d; simp only [Rat.intCast_mul]; rw [← this]; grind
theorem rep_one' : RepM 1 ⟨1, 0, 0, 1⟩ := rep_1
theorem rep_pow {m : MQ} (h : RepM 8192 m) : ∀ k, RepM (8193 * k + 1) (powQ m k)
  | 0 => rep_1
  | k + 1 => rep_mono (rep_mul (rep_pow h k) h) (by omega)
theorem qa_low {c k : Nat} {r : Rat} (h : bQ c r) : WkA (QA k r) (QA c r) := cat_wk (.cons ⟨rfl, rfl, fun _ _ _ hp => ⟨h.1, hp.2⟩⟩ (.cons ⟨rfl, rfl, fun _ _ _ hp => ⟨h.2, hp.2⟩⟩ .nil))
theorem qm_repO {c k : Nat} {m : MQ} (h : RepM c m) : WkA (QMA k m) (QMA c m) := by
  obtain ⟨h1, h2, h3, h4⟩ := rep_bQ h
  exact cat_wk (.cons (qa_low h1) (.cons (qa_low h2) (.cons (qa_low h3) (.cons (qa_low h4) .nil))))
theorem qm_pow {m : MQ} {k c : Nat} (h : RepM 8192 m) (hk : k ≤ 8192) {q : MQ} (e : q = powQ m k) : WkA (QMA c q) (QMA 67117057 (powQ m k)) := by
  subst e
  exact qm_repO (rep_mono (rep_pow h k) (by omega))
theorem know_qm {B N : Nat} {w0 : Bs} {s : Nat} {m : MQ} {Γ : List (Nat × VA)} {Λ : List Lc} {a : Act} {w : World} (h : St B w0 N Γ Λ a w) (hm : Γ[0]? = some (s, (QMA 2048 m).va)) : RepM 8192 m ∧ St B w0 N Γ Λ a w := by
  obtain ⟨cs, ⟨ps, _, hp⟩, _⟩ := h.vals _ (List.mem_of_getElem? hm)
  have q : ∀ {r : Rat} {c : List Value}, (QA 2048 r).p B c w → bQ 2048 r := fun {r c} hp => qs_le ⟨c, hp, rfl⟩
  cases hp with
  | cons h1 hp => cases hp with | cons h2 hp => cases hp with | cons h3 hp => cases hp with | cons h4 _ => exact ⟨rep_all (q h1) (q h2) (q h3) (q h4), h⟩
theorem e_half {e : Nat} (_h : e ≤ 4096) : ((e : Int) / 2 ^ (1 : Int).toNat) = ((e / 2 : Nat) : Int) := by
  show (e : Int) / 2 = _
  omega
theorem e_bit {e : Nat} (h : e ≤ 4096) : bits .and .i64 (e : Int) 1 = ((e % 2 : Nat) : Int) := by
  have o : ∀ {x : Nat}, x ≤ 4096 → (BitVec.ofInt 64 (x : Int)).toNat = x := fun hx => by
    rw [BitVec.ofInt_natCast, BitVec.toNat_ofNat]
    exact Nat.mod_eq_of_lt (by omega)
  have e1 : (BitVec.ofInt 64 (e : Int) &&& BitVec.ofInt 64 ((1 : Nat) : Int)).toNat = e &&& 1 := by rw [BitVec.toNat_and, o h, o (by omega)]
  show IntKind.i64.wrap (((BitVec.ofInt 64 (e : Int) &&& BitVec.ofInt 64 ((1 : Nat) : Int)).toNat : Nat) : Int) = _
  rw [e1, Nat.and_one_is_mod, wi64 (by omega) (by omega)]
theorem p_dbl (m : MQ) (j : Nat) : mulQ (powQ m (2 ^ j)) (powQ m (2 ^ j)) = powQ m (2 ^ (j + 1)) := by
  rw [pow_add, Nat.pow_succ]
  congr 1
  omega
theorem p_lt {e j s x : Nat} (h : e * 2 ^ j + s = x) (hx : x ≤ 4096) (he : 0 < e) : 2 ^ j ≤ 4096 := by
  have : 1 * 2 ^ j ≤ e * 2 ^ j := Nat.mul_le_mul_right _ he
  omega
theorem p_odd {e j s x : Nat} (h : e * 2 ^ j + s = x) (h1 : e % 2 = 1) : e / 2 * 2 ^ (j + 1) + (s + 2 ^ j) = x := by
  have e1 : e = 2 * (e / 2) + 1 := by omega
  have e2 : e / 2 * 2 ^ (j + 1) = 2 * (e / 2) * 2 ^ j := by rw [Nat.pow_succ]; grind
  have e3 : e * 2 ^ j = 2 * (e / 2) * 2 ^ j + 2 ^ j := by
    conv => lhs; rw [e1]
    rw [Nat.add_mul, Nat.one_mul]
  omega
theorem p_even {e j s x : Nat} (h : e * 2 ^ j + s = x) (h1 : e % 2 = 0) : e / 2 * 2 ^ (j + 1) + s = x := by
  have e1 : e = 2 * (e / 2) := by omega
  have e2 : e / 2 * 2 ^ (j + 1) = 2 * (e / 2) * 2 ^ j := by rw [Nat.pow_succ]; grind
  rw [e1] at h
  omega

set_option maxRecDepth 100000 in
theorem rowPower_q {m : MQ} {x : Nat} (hx : x ≤ 4096) : Cn Tryz.prog 41 [(QMA 2048 m).va, In (x : Nat)] ((QMA 67117057 (powQ m x)).va) := by
  refine Cn.intro Tryz.func41 rfl (by kernel_rfl) nq (fun B w0 a hst => ?_)
  have hst : St B w0 21 [(0, (QMA 2048 m).va), (1, In (x : Nat))] [] a w0.w := hst
  obtain ⟨hm, hst⟩ := know_qm hst rfl
  refine wp_seq ?_
  refine gl (sts := []) (news := [⟨2, 38, ptrH, some 0, _, none⟩, ⟨4, 38, ptrH, some 1, _, none⟩]) (sp := [.alc 0, .alc 1]) [.g 1] hst (oc (ob_box rfl rfl rfl (gq 0 rfl)) (oc (ob_alc rfl rfl rfl (Str.zero str_matrix)) o0)) (fun a w hst => ?_)
  have hst : St B w0 21 [(1, _)] [⟨2, 38, ptrH, _⟩, ⟨4, 38, ptrH, _⟩] a w := hst
  refine thn_normal ?_
  refine wp_seq ?_
  refine gl (sts := [none, none]) (news := [⟨5, 38, ptrH, some 1, _, some (2, _)⟩]) (sp := [.val 6 _, .alc 2, .sto 2]) [.g 0] hst (oc (ob_v rfl rfl (r_call (xs := []) rowOne_q .nil)) (oc (ob_alc rfl rfl rfl (Str.zero str_matrix)) (oc (ob_sto rfl rfl rfl (vq 0 rfl) ty_38 (Eq.trans (b := 16) rfl rfl)) o0))) (fun a w hst => ?_)
  have hst : St B w0 21 [(1, _)] [⟨2, 38, ptrH, _⟩, ⟨4, 38, ptrH, _⟩, ⟨5, 38, ptrH, _⟩] a w := hst
  refine thn_normal ?_
  refine wp_seq ?_
  refine wp_block ?_
  have hst := St.sel hst [0]
  refine wp_loop_ghost (fun n a w => ∃ (e j s : Nat), (n = e ∧ e * 2 ^ j + s = x ∧ s ≤ x ∧ s < 2 ^ j) ∧ St B w0 21 [(1, In (e : Nat))] [⟨2, 38, ptrH, QMA 67117057 (powQ m (2 ^ j))⟩, ⟨4, 38, ptrH, RMA rm0⟩, ⟨5, 38, ptrH, QMA 67117057 (powQ m (s))⟩] a w) (x) ?_ ?_
  · exact ⟨x, 0, 0, ⟨rfl, by omega, by omega, by decide⟩, St.wkL (St.wkL hst 0 rfl (qm_pow (k := 1) hm (by decide) (one_mul' m).symm)) 2 rfl (qm_pow (k := 0) hm (by decide) rfl)⟩
  intro n a w hI
  obtain ⟨e, j, s, ⟨hn, he, hs, hs2⟩, hst⟩ := hI
  subst hn
  refine wp_seq ?_
  refine wp_seq ?_
  refine gl (sts := [none, none, none]) (news := []) (sp := [.val 7 _, .val 8 _]) [.g 0, .o 1] hst (oc (ob_v rfl rfl (r_move (gq 0 rfl))) (oc (ob_v rfl rfl (r_gtr (vq 0 rfl) has_num)) o0)) (fun a w hst => ?_)
  have hst : St B w0 21 [(1, _), (8, _)] [⟨2, 38, ptrH, _⟩, ⟨4, 38, ptrH, _⟩, ⟨5, 38, ptrH, _⟩] a w := hst
  refine thn_normal ?_
  refine cond_of hst (List.mem_of_getElem? (i := 1) rfl) (fun hb0 => ?_) (fun hb0 => ?_)
  · have h0 : 0 < n := by have := of_decide_eq_true hb0; omega
    have hj := p_lt he hx h0
    have h4 : n ≤ 4096 := by have : n * 1 ≤ n * 2 ^ j := Nat.mul_le_mul_left _ Nat.one_le_two_pow; omega
    refine wp_skip ?_
    refine thn_normal ?_
    refine wp_seq ?_
    refine wp_block ?_
    refine wp_seq ?_
    refine wp_seq ?_
    refine gl (sts := [none, none, none]) (news := []) (sp := [.val 11 _, .val 12 _, .val 13 _]) [.g 0, .o 2] hst (oc (ob_v rfl rfl (r_move (gq 0 rfl))) (oc (ob_v rfl rfl (r_band (vq 0 rfl) has_num (e_bit h4))) (oc (ob_v rfl rfl (r_eql (vq 1 rfl) has_num)) o0))) (fun a w hst => ?_)
    have hst : St B w0 21 [(1, _), (13, _)] [⟨2, 38, ptrH, _⟩, ⟨4, 38, ptrH, _⟩, ⟨5, 38, ptrH, _⟩] a w := hst
    refine thn_normal ?_
    refine cond_join (fun a w => ∃ s' : Nat, (n / 2 * 2 ^ (j + 1) + s' = x ∧ s' ≤ x ∧ s' < 2 ^ (j + 1)) ∧ St B w0 21 [(1, In (n : Nat))] [⟨2, 38, ptrH, QMA 67117057 (powQ m (2 ^ j))⟩, ⟨4, 38, ptrH, RMA rm0⟩, ⟨5, 38, ptrH, QMA 67117057 (powQ m (s'))⟩] a w) hst (List.mem_of_getElem? (i := 1) rfl) (fun hb1 => ?_) (fun hb1 => ?_) (fun a w hst => ?_)
    · refine gl (sts := [none, none, some (3, _)]) (news := []) (sp := [.val 14 _, .val 15 _, .val 16 _, .sto 2]) [.g 0] hst (oc (ob_v rfl rfl (r_load (lz0 2 rfl) ty_38)) (oc (ob_v rfl rfl (r_load (lz0 0 rfl) ty_38)) (oc (ob_v rfl rfl (r_call (xs := [.tmp 14, .tmp 15]) (rowTimes_q (m := powQ m _) (q := powQ m _) (by omega)) (.cons (vq 0 rfl) (.cons (vq 1 rfl) .nil)))) (oc (ob_sto rfl rfl rfl (vq 2 rfl) ty_38 (Eq.trans (b := 16) rfl rfl)) o0)))) (fun a w hst => ?_)
      have hst : St B w0 21 [(1, _)] [⟨2, 38, ptrH, _⟩, ⟨4, 38, ptrH, _⟩, ⟨5, 38, ptrH, _⟩] a w := hst
      refine thn_normal ?_
      have hst := St.sel hst [0]
      have h1 : n % 2 = 1 := by have := hb1; simp at this; omega
      have h2 := p_odd he h1
      exact ⟨s + 2 ^ j, ⟨h2, by omega, by rw [Nat.pow_succ]; omega⟩, St.wkL hst 2 rfl (qm_pow hm (by omega) (pow_add m s (2 ^ j)))⟩
    · refine wp_skip ?_
      refine thn_normal ?_
      have hst := St.sel hst [0]
      have h1 : n % 2 = 0 := by have := hb1; simp at this; omega
      exact ⟨s, ⟨p_even he h1, hs, by rw [Nat.pow_succ]; omega⟩, hst⟩
    obtain ⟨s', hs', hst⟩ := hst
    refine thn_normal ?_
    refine gl (sts := [some (3, _), none, none]) (news := []) (sp := [.val 17 _, .val 18 _, .val 19 _, .sto 0]) [.g 0] hst (oc (ob_v rfl rfl (r_load (lz0 0 rfl) ty_38)) (oc (ob_v rfl rfl (r_load (lz0 0 rfl) ty_38)) (oc (ob_v rfl rfl (r_call (xs := [.tmp 17, .tmp 18]) (rowTimes_q (m := powQ m _) (q := powQ m _) (by omega)) (.cons (vq 0 rfl) (.cons (vq 1 rfl) .nil)))) (oc (ob_sto rfl rfl rfl (vq 2 rfl) ty_38 (Eq.trans (b := 16) rfl rfl)) o0)))) (fun a w hst => ?_)
    have hst : St B w0 21 [(1, _)] [⟨2, 38, ptrH, _⟩, ⟨4, 38, ptrH, _⟩, ⟨5, 38, ptrH, _⟩] a w := hst
    refine blk_normal ?_
    refine thn_normal ?_
    refine gl (sts := [none, none, none]) (news := []) (sp := [.val 9 _, .val 10 _, .val 1 _]) [.o 2] hst (oc (ob_v rfl rfl (r_move (gq 0 rfl))) (oc (ob_v rfl rfl (r_shr (vq 0 rfl) (has_nat 1 rfl) (by decide) (e_half h4))) (oc (ob_v rfl rfl (r_assign (vq 1 rfl))) o0))) (fun a w hst => ?_)
    have hst : St B w0 21 [(1, _)] [⟨2, 38, ptrH, _⟩, ⟨4, 38, ptrH, _⟩, ⟨5, 38, ptrH, _⟩] a w := hst
    refine thn_normal ?_
    have hst := St.sel hst [0]
    exact ⟨n / 2, by omega, n / 2, j + 1, s', ⟨rfl, hs'.1, hs'.2.1, hs'.2.2⟩, St.wkL hst 0 rfl (qm_pow (k := 2 ^ (j + 1)) hm (by rw [Nat.pow_succ]; omega) (p_dbl m j))⟩
  · have h0 : n = 0 := by have := of_decide_eq_false hb0; omega
    have hsx : s = x := by rw [h0] at he; omega
    rw [hsx] at hst
    refine wp_exit ?_
    refine thn_exit ?_
    refine thn_exit ?_
    refine blk_exit ?_
    refine thn_normal ?_
    refine wp_seq ?_
    refine gl (sts := [none, some (1, _), none]) (news := []) (sp := [.val 20 _, .sto 1]) [] hst (oc (ob_v rfl rfl (r_load (lz0 2 rfl) ty_38)) (oc (ob_sto rfl rfl rfl (vq 0 rfl) ty_38 (Eq.trans (b := 16) rfl rfl)) o0)) (fun a w hst => ?_)
    have hst : St B w0 21 [] [⟨2, 38, ptrH, _⟩, ⟨4, 38, ptrH, _⟩, ⟨5, 38, ptrH, _⟩] a w := hst
    refine thn_normal ?_
    refine wp_ret ?_
    refine ret_wk ?_ (ret_cell rfl hst (List.mem_of_getElem? (i := 1) rfl) ty_38)
    exact wk_id

end Go.Proofs.YtiflajpmipejnaaGreat
