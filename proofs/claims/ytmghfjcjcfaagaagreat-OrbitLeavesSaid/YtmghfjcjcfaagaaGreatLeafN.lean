import Derived.Test.YtmghfjcjcfaagaaGreatLeafM
namespace Go.Proofs.YtmghfjcjcfaagaaGreat
open Go Go.RowKit
namespace LeafN
theorem fld_24_1 : Fld Tryz.prog 24 1 1 1 := ⟨_, _, Tryz.underlying24, rfl, rfl, by kernel_rfl, by decide⟩
theorem ty_22 : Ty Tryz.prog 22 1 false := ⟨by kernel_rfl, by kernel_rfl⟩
theorem ty_24 : Ty Tryz.prog 24 2 true := ⟨by kernel_rfl, by kernel_rfl⟩
end LeafN
open LeafN
theorem own_abs (p : Int) : rsig false (riOf p).mag = riOf ((p.natAbs : Nat) : Int) := rsig_of (ok_ri p) (by rw [val_ri]; omega) fun _ => by simp
theorem lz_abs (p : Int) : lz ((p.natAbs : Nat) : Int) = lz p := by simp [lz]
theorem len_nz {n : Nat} (h : decide (((riOf (n : Int)).mag.length : Int) > 0) = true) : 0 < n := by
  rcases Nat.eq_zero_or_pos n with rfl | hp
  · simp [riOf, limbs_zero] at h
  · exact hp
theorem len_z {n : Nat} (h : decide (((riOf (n : Int)).mag.length : Int) > 0) = false) : n = 0 := by
  rcases Nat.eq_zero_or_pos n with rfl | hp
  · rfl
  · have := lz_pos (q := (n : Int)) (by omega)
    have h' : ¬ (((riOf (n : Int)).mag.length : Int) > 0) := of_decide_eq_false h
    rw [ri_len] at h'
    omega
theorem lz_tmod {x n : Nat} (h : lz (n : Int) ≤ 1099511627776) (hn : 0 < n) : lz ((x % n : Nat) : Int) ≤ 1099511627776 := Nat.le_trans (lz_mono (by have := Nat.mod_lt x hn; omega)) h
theorem gcd_step {x n p : Nat} (h : Nat.gcd x n = p) : Nat.gcd n (x % n) = p := by rw [← h, Nat.gcd_comm n, Nat.gcd_comm x, Nat.gcd_rec n x]

set_option maxRecDepth 100000 in
theorem common_c (p q : Int) (hp : lz p ≤ 1099511627776) (hq : lz q ≤ 1099511627776) : Cn Tryz.prog 94 [Zi p, Zi q] ((RIN (riOf ((Int.gcd p q : Nat) : Int))).va) := by
  refine Cn.intro Tryz.func94 rfl (by kernel_rfl) nq (fun B w0 a hst => ?_)
  have hst : St B w0 28 [(0, Zi p), (1, Zi q)] [] a w0.w := hst
  refine wp_seq ?_
  refine gl (sts := []) (news := [⟨2, 24, ptrH, some 0, _, none⟩, ⟨3, 24, ptrH, some 1, _, none⟩, ⟨4, 24, ptrH, some 2, _, none⟩]) (sp := [.alc 0, .alc 1, .alc 2]) [] hst (oc (ob_box rfl rfl rfl (gq 0 rfl)) (oc (ob_box rfl rfl rfl (gq 1 rfl)) (oc (ob_alc rfl rfl rfl (Str.zero str_int)) o0))) (fun a w hst => ?_)
  have hst : St B w0 28 [] [⟨2, 24, ptrH, _⟩, ⟨3, 24, ptrH, _⟩, ⟨4, 24, ptrH, _⟩] a w := hst
  refine thn_normal ?_
  refine wp_seq ?_
  refine go_draw (anc := [[], [0], [0, 1], [], [3], [0, 1, 2, 3, 4], [], [], [0, 1, 2, 3, 4, 5, 6, 7], [0, 1, 2, 3, 4, 5, 6, 7, 8]]) (sts := [none, none, none]) (news := [⟨5, 24, ptrH, some 6, _, some (8, _)⟩, ⟨6, 24, ptrH, some 7, _, some (9, _)⟩]) (sp := [.adr 9 2 (.some 1) True, .val 10 _, .val 11 _, .adr 12 3 (.some 1) True, .val 13 _, .val 14 _, .alc 3, .alc 4, .sto 3, .sto 4]) [] follows_mixed hst (oc (ob_a rfl rfl (a_fld (lz0 0 rfl) fld_24_1)) (oc (ob_v rfl rfl (r_loadf 0 rfl (by kernel_rfl) trivial (lz0 0 rfl) (Sub.part 1 rfl rfl) ty_22)) (oc (ob_v rfl rfl (r_call (xs := [.const (.bool false), .tmp 10]) (own_c _ _ hp) (.cons has_bo (.cons (vq 1 rfl) .nil)))) (oc (ob_a rfl rfl (a_fld (lz0 1 rfl) fld_24_1)) (oc (ob_v rfl rfl (r_loadf 3 rfl (by kernel_rfl) trivial (lz0 1 rfl) (Sub.part 1 rfl rfl) ty_22)) (oc (ob_v rfl rfl (r_call (xs := [.const (.bool false), .tmp 13]) (own_c _ _ hq) (.cons has_bo (.cons (vq 4 rfl) .nil)))) (oc (ob_alc rfl rfl rfl (Str.zero str_int)) (oc (ob_alc rfl rfl rfl (Str.zero str_int)) (oc (ob_sto rfl rfl rfl (vq 2 rfl) ty_24 (Eq.trans (b := 2) rfl rfl)) (oc (ob_sto rfl rfl rfl (vq 5 rfl) ty_24 (Eq.trans (b := 2) rfl rfl)) o0)))))))))) (by kernel_rfl) (by kernel_rfl) (by kernel_rfl) (by kernel_rfl) (fun a w hst => ?_)
  have hst : St B w0 28 [] [⟨2, 24, ptrH, _⟩, ⟨3, 24, ptrH, _⟩, ⟨4, 24, ptrH, _⟩, ⟨5, 24, ptrH, _⟩, ⟨6, 24, ptrH, _⟩] a w := hst
  refine thn_normal ?_
  refine wp_seq ?_
  refine wp_block ?_
  have hst := St.sel hst []
  have hst := St.selL hst [2, 3, 4]
  refine wp_loop_ghost (fun n a w => ∃ x : Nat, (Nat.gcd x n = Int.gcd p q ∧ lz (x : Int) ≤ 1099511627776 ∧ lz (n : Int) ≤ 1099511627776) ∧ St B w0 28 [] [⟨4, 24, ptrH, cat [BoA false, MgA []]⟩, ⟨5, 24, ptrH, RIN (riOf ((x : Nat) : Int))⟩, ⟨6, 24, ptrH, RIN (riOf ((n : Nat) : Int))⟩] a w) (q.natAbs) ?_ ?_
  · exact ⟨p.natAbs, ⟨rfl, by rw [lz_abs]; exact hp, by rw [lz_abs]; exact hq⟩, by rw [show rsig false (limbs p.natAbs) = _ from own_abs p, show rsig false (limbs q.natAbs) = _ from own_abs q] at hst; exact hst⟩
  intro n a w hI
  obtain ⟨x, ⟨hg, hx, hn⟩, hst⟩ := hI
  refine wp_seq ?_
  refine wp_seq ?_
  refine gl (sts := [none, none, none]) (news := []) (sp := [.adr 15 6 (.some 1) True, .val 16 _, .val 17 _, .val 18 _]) [.o 3] hst (oc (ob_a rfl rfl (a_fld (lz0 2 rfl) fld_24_1)) (oc (ob_v rfl rfl (r_loadf 0 rfl (by kernel_rfl) trivial (lz0 2 rfl) (Sub.part 1 rfl rfl) ty_22)) (oc (ob_v rfl rfl (r_lenm Tryz.underlying22 (has_new (vq 1 rfl)))) (oc (ob_v rfl rfl (r_gtr (vq 2 rfl) has_num)) o0)))) (fun a w hst => ?_)
  have hst : St B w0 28 [(18, _)] [⟨4, 24, ptrH, _⟩, ⟨5, 24, ptrH, _⟩, ⟨6, 24, ptrH, _⟩] a w := hst
  refine thn_normal ?_
  refine cond_of hst (List.mem_of_getElem? (i := 0) rfl) (fun hb0 => ?_) (fun hb0 => ?_)
  · have h0 := len_nz hb0
    refine wp_skip ?_
    refine thn_normal ?_
    refine wp_block ?_
    refine wp_seq ?_
    refine gl (sts := [none, none, none]) (news := [⟨7, 24, ptrH, some 6, _, some (8, _)⟩, ⟨8, 24, ptrH, some 7, _, some (9, _)⟩]) (sp := [.val 20 _, .val 21 _, .val 22 _, .val 19 _, .val 23 _, .val 24 _, .alc 3, .alc 4, .sto 3, .sto 4]) [] hst (oc (ob_v rfl rfl (r_load (lz0 1 rfl) ty_24)) (oc (ob_v rfl rfl (r_load (lz0 2 rfl) ty_24)) (oc (ob_v rfl rfl (r_call (xs := [.tmp 20, .tmp 21]) ((divideZ_c _ _ (by omega) hx).wk (.cons wk_riN (.cons wk_riN .nil))) (.cons (vq 0 rfl) (.cons (vq 1 rfl) .nil)))) (oc (ob_v rfl rfl (r_move (vq 2 rfl))) (oc (ob_v rfl rfl (r_extract (vq 3 rfl) rfl)) (oc (ob_v rfl rfl (r_extract (vq 3 rfl) rfl)) (oc (ob_alc rfl rfl rfl (Str.zero str_int)) (oc (ob_alc rfl rfl rfl (Str.zero str_int)) (oc (ob_sto rfl rfl rfl (vq 4 rfl) ty_24 (Eq.trans (b := 2) rfl rfl)) (oc (ob_sto rfl rfl rfl (vq 5 rfl) ty_24 (Eq.trans (b := 2) rfl rfl)) o0)))))))))) (fun a w hst => ?_)
    have hst : St B w0 28 [] [⟨4, 24, ptrH, _⟩, ⟨5, 24, ptrH, _⟩, ⟨6, 24, ptrH, _⟩, ⟨7, 24, ptrH, _⟩, ⟨8, 24, ptrH, _⟩] a w := hst
    refine thn_normal ?_
    refine go_draw (anc := [[], [], [0], [0, 1, 2]]) (sts := [none, some (2, _), some (3, _), none, none]) (news := []) (sp := [.val 25 _, .val 26 _, .sto 1, .sto 2]) [] follows_mixed hst (oc (ob_v rfl rfl (r_load (lz0 2 rfl) ty_24)) (oc (ob_v rfl rfl (r_load (lz0 4 rfl) ty_24)) (oc (ob_sto rfl rfl rfl (vq 0 rfl) ty_24 (Eq.trans (b := 2) rfl rfl)) (oc (ob_sto rfl rfl rfl (vq 1 rfl) ty_24 (Eq.trans (b := 2) rfl rfl)) o0)))) (by kernel_rfl) (by kernel_rfl) (by kernel_rfl) (by kernel_rfl) (fun a w hst => ?_)
    have hst : St B w0 28 [] [⟨4, 24, ptrH, _⟩, ⟨5, 24, ptrH, _⟩, ⟨6, 24, ptrH, _⟩, ⟨7, 24, ptrH, _⟩, ⟨8, 24, ptrH, _⟩] a w := hst
    refine blk_normal ?_
    refine thn_normal ?_
    have hst := St.sel hst []
    have hst := St.selL hst [0, 1, 2]
    exact ⟨x % n, Nat.mod_lt _ h0, n, ⟨gcd_step hg, hn, lz_tmod hn h0⟩, hst⟩
  · obtain rfl := len_z hb0
    refine wp_exit ?_
    refine thn_exit ?_
    refine thn_exit ?_
    refine blk_exit ?_
    refine thn_normal ?_
    refine wp_seq ?_
    refine gl (sts := [some (1, _), none, none]) (news := []) (sp := [.val 27 _, .sto 0]) [] hst (oc (ob_v rfl rfl (r_load (lz0 1 rfl) ty_24)) (oc (ob_sto rfl rfl rfl (vq 0 rfl) ty_24 (Eq.trans (b := 2) rfl rfl)) o0)) (fun a w hst => ?_)
    have hst : St B w0 28 [] [⟨4, 24, ptrH, _⟩, ⟨5, 24, ptrH, _⟩, ⟨6, 24, ptrH, _⟩] a w := hst
    refine thn_normal ?_
    refine wp_ret ?_
    refine ret_cast ?_ (ret_cell rfl hst (List.mem_of_getElem? (i := 0) rfl) ty_24)
    exact congrArg (fun z : Nat => (RIN (riOf (z : Int))).va) ((Nat.gcd_zero_right x).symm.trans hg)

/-- the first one that is too long. -/
def bigI (x : RI) : Bool := decide ((x.mag.length : Int) > 2048)
theorem ret_wk {fn : Func} {P : Program} {B : Nat} {w0 : Bs} {A A' : VA} {a : Act} {w : World} (h : Wk A A') (hb : bPost P fn (RQ B w0 A) .ret a w) : bPost P fn (RQ B w0 A') .ret a w := by
  obtain ⟨Ds, e, nd, hD, hr⟩ := hb
  refine ⟨Ds, e, nd, hD, fun w' hs => ?_⟩
  obtain ⟨v, h1, v', e1, e2, e3⟩ := hr w' hs
  exact ⟨v, h1, v', e1, h _ _ _ e2, e3⟩
end Go.Proofs.YtmghfjcjcfaagaaGreat
