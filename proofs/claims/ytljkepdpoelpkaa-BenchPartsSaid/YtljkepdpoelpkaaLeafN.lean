import Derived.Test.YtljkepdpoelpkaaLeafM
namespace Go.Proofs.Ytljkepdpoelpkaa
open Go Go.RowKit
namespace LeafN
theorem fld_33_1 : Fld Try.prog 33 1 1 1 := ⟨_, _, Try.underlying33, rfl, rfl, by kernel_rfl, by decide⟩
theorem sl_95 : Sl Try.prog 95 33 2 := ⟨by kernel_rfl, by kernel_rfl⟩
theorem ty_31 : Ty Try.prog 31 1 false := ⟨by kernel_rfl, by kernel_rfl⟩
theorem ty_33 : Ty Try.prog 33 2 true := ⟨by kernel_rfl, by kernel_rfl⟩
end LeafN
open LeafN
theorem own_abs (p : Int) : rsig false (riOf p).mag = riOf ((p.natAbs : Nat) : Int) := rsig_of (ok_ri p) (by rw [val_ri]; omega) fun _ => by simp
theorem lz_abs (p : Int) : lz ((p.natAbs : Nat) : Int) = lz p := by simp [lz]
theorem len_nz {n : Nat} (h : decide (((riOf (n : Int)).mag.length : Int) > 0) = true) : 0 < n := by
  rcases Nat.eq_zero_or_pos n with rfl | hp
  · simp [riOf, limbs_zero] at h
  · exact hp
theorem len_z {n : Nat} (h : decide (((riOf (n : Int)).mag.length : Int) > 0) = false) : n = 0 := by
  rcases Nat.eq_zero_or_pos n with rfl | hp
  · rfl
  · have := lz_pos (q := (n : Int)) (by omega)
    have h' : ¬ (((riOf (n : Int)).mag.length : Int) > 0) := of_decide_eq_false h
    rw [ri_len] at h'
    omega
theorem lz_tmod {x n : Nat} (h : lz (n : Int) ≤ 1099511627776) (hn : 0 < n) : lz ((x % n : Nat) : Int) ≤ 1099511627776 := Nat.le_trans (lz_mono (by have := Nat.mod_lt x hn; omega)) h
theorem gcd_step {x n p : Nat} (h : Nat.gcd x n = p) : Nat.gcd n (x % n) = p := by rw [← h, Nat.gcd_comm n, Nat.gcd_comm x, Nat.gcd_rec n x]

set_option maxRecDepth 100000 in
theorem common_c (p q : Int) (hp : lz p ≤ 1099511627776) (hq : lz q ≤ 1099511627776) : Cn Try.prog 67 [Zi p, Zi q] ((RIN (riOf ((Int.gcd p q : Nat) : Int))).va) := by
  refine Cn.intro Try.func67 rfl (by kernel_rfl) nq (fun B w0 a hst => ?_)
  have hst : St B w0 28 [(0, Zi p), (1, Zi q)] [] a w0.w := hst
  refine wp_seq ?_
  refine gl (sts := []) (news := [⟨2, 33, ptrH, some 0, _, none⟩, ⟨3, 33, ptrH, some 1, _, none⟩, ⟨4, 33, ptrH, some 2, _, none⟩]) (sp := [.alc 0, .alc 1, .alc 2]) [] hst (oc (ob_box rfl rfl rfl (gq 0 rfl)) (oc (ob_box rfl rfl rfl (gq 1 rfl)) (oc (ob_alc rfl rfl rfl (Str.zero str_int)) o0))) (fun a w hst => ?_)
  have hst : St B w0 28 [] [⟨2, 33, ptrH, _⟩, ⟨3, 33, ptrH, _⟩, ⟨4, 33, ptrH, _⟩] a w := hst
  refine thn_normal ?_
  refine wp_seq ?_
  refine go_draw (anc := [[], [0], [0, 1], [], [3], [0, 1, 2, 3, 4], [], [], [0, 1, 2, 3, 4, 5, 6, 7], [0, 1, 2, 3, 4, 5, 6, 7, 8]]) (sts := [none, none, none]) (news := [⟨5, 33, ptrH, some 6, _, some (8, _)⟩, ⟨6, 33, ptrH, some 7, _, some (9, _)⟩]) (sp := [.adr 9 2 (.some 1) True, .val 10 _, .val 11 _, .adr 12 3 (.some 1) True, .val 13 _, .val 14 _, .alc 3, .alc 4, .sto 3, .sto 4]) [] follows_mixed hst (oc (ob_a rfl rfl (a_fld (lz0 0 rfl) fld_33_1)) (oc (ob_v rfl rfl (r_loadf 0 rfl (by kernel_rfl) trivial (lz0 0 rfl) (Sub.part 1 rfl rfl) ty_31)) (oc (ob_v rfl rfl (r_call (xs := [.const (.bool false), .tmp 10]) (own_c _ _ hp) (.cons has_bo (.cons (vq 1 rfl) .nil)))) (oc (ob_a rfl rfl (a_fld (lz0 1 rfl) fld_33_1)) (oc (ob_v rfl rfl (r_loadf 3 rfl (by kernel_rfl) trivial (lz0 1 rfl) (Sub.part 1 rfl rfl) ty_31)) (oc (ob_v rfl rfl (r_call (xs := [.const (.bool false), .tmp 13]) (own_c _ _ hq) (.cons has_bo (.cons (vq 4 rfl) .nil)))) (oc (ob_alc rfl rfl rfl (Str.zero str_int)) (oc (ob_alc rfl rfl rfl (Str.zero str_int)) (oc (ob_sto rfl rfl rfl (vq 2 rfl) ty_33 (Eq.trans (b := 2) rfl rfl)) (oc (ob_sto rfl rfl rfl (vq 5 rfl) ty_33 (Eq.trans (b := 2) rfl rfl)) o0)))))))))) (by kernel_rfl) (by kernel_rfl) (by kernel_rfl) (by kernel_rfl) (fun a w hst => ?_)
  have hst : St B w0 28 [] [⟨2, 33, ptrH, _⟩, ⟨3, 33, ptrH, _⟩, ⟨4, 33, ptrH, _⟩, ⟨5, 33, ptrH, _⟩, ⟨6, 33, ptrH, _⟩] a w := hst
  refine thn_normal ?_
  refine wp_seq ?_
  refine wp_block ?_
  have hst := St.sel hst []
  have hst := St.selL hst [2, 3, 4]
  refine wp_loop_ghost (fun n a w => ∃ x : Nat, (Nat.gcd x n = Int.gcd p q ∧ lz (x : Int) ≤ 1099511627776 ∧ lz (n : Int) ≤ 1099511627776) ∧ St B w0 28 [] [⟨4, 33, ptrH, cat [BoA false, MgA []]⟩, ⟨5, 33, ptrH, RIN (riOf ((x : Nat) : Int))⟩, ⟨6, 33, ptrH, RIN (riOf ((n : Nat) : Int))⟩] a w) (q.natAbs) ?_ ?_
  · exact ⟨p.natAbs, ⟨rfl, by rw [lz_abs]; exact hp, by rw [lz_abs]; exact hq⟩, by rw [show rsig false (limbs p.natAbs) = _ from own_abs p, show rsig false (limbs q.natAbs) = _ from own_abs q] at hst; exact hst⟩
  intro n a w hI
  obtain ⟨x, ⟨hg, hx, hn⟩, hst⟩ := hI
  refine wp_seq ?_
  refine wp_seq ?_
  refine gl (sts := [none, none, none]) (news := []) (sp := [.adr 15 6 (.some 1) True, .val 16 _, .val 17 _, .val 18 _]) [.o 3] hst (oc (ob_a rfl rfl (a_fld (lz0 2 rfl) fld_33_1)) (oc (ob_v rfl rfl (r_loadf 0 rfl (by kernel_rfl) trivial (lz0 2 rfl) (Sub.part 1 rfl rfl) ty_31)) (oc (ob_v rfl rfl (r_lenm Try.underlying31 (has_new (vq 1 rfl)))) (oc (ob_v rfl rfl (r_gtr (vq 2 rfl) has_num)) o0)))) (fun a w hst => ?_)
  have hst : St B w0 28 [(18, _)] [⟨4, 33, ptrH, _⟩, ⟨5, 33, ptrH, _⟩, ⟨6, 33, ptrH, _⟩] a w := hst
  refine thn_normal ?_
  refine cond_of hst (List.mem_of_getElem? (i := 0) rfl) (fun hb0 => ?_) (fun hb0 => ?_)
  · have h0 := len_nz hb0
    refine wp_skip ?_
    refine thn_normal ?_
    refine wp_block ?_
    refine wp_seq ?_
    refine gl (sts := [none, none, none]) (news := [⟨7, 33, ptrH, some 6, _, some (8, _)⟩, ⟨8, 33, ptrH, some 7, _, some (9, _)⟩]) (sp := [.val 20 _, .val 21 _, .val 22 _, .val 19 _, .val 23 _, .val 24 _, .alc 3, .alc 4, .sto 3, .sto 4]) [] hst (oc (ob_v rfl rfl (r_load (lz0 1 rfl) ty_33)) (oc (ob_v rfl rfl (r_load (lz0 2 rfl) ty_33)) (oc (ob_v rfl rfl (r_call (xs := [.tmp 20, .tmp 21]) ((divideZ_c _ _ (by omega) hx).wk (.cons wk_riN (.cons wk_riN .nil))) (.cons (vq 0 rfl) (.cons (vq 1 rfl) .nil)))) (oc (ob_v rfl rfl (r_move (vq 2 rfl))) (oc (ob_v rfl rfl (r_extract (vq 3 rfl) rfl)) (oc (ob_v rfl rfl (r_extract (vq 3 rfl) rfl)) (oc (ob_alc rfl rfl rfl (Str.zero str_int)) (oc (ob_alc rfl rfl rfl (Str.zero str_int)) (oc (ob_sto rfl rfl rfl (vq 4 rfl) ty_33 (Eq.trans (b := 2) rfl rfl)) (oc (ob_sto rfl rfl rfl (vq 5 rfl) ty_33 (Eq.trans (b := 2) rfl rfl)) o0)))))))))) (fun a w hst => ?_)
    have hst : St B w0 28 [] [⟨4, 33, ptrH, _⟩, ⟨5, 33, ptrH, _⟩, ⟨6, 33, ptrH, _⟩, ⟨7, 33, ptrH, _⟩, ⟨8, 33, ptrH, _⟩] a w := hst
    refine thn_normal ?_
    refine go_draw (anc := [[], [], [0], [0, 1, 2]]) (sts := [none, some (2, _), some (3, _), none, none]) (news := []) (sp := [.val 25 _, .val 26 _, .sto 1, .sto 2]) [] follows_mixed hst (oc (ob_v rfl rfl (r_load (lz0 2 rfl) ty_33)) (oc (ob_v rfl rfl (r_load (lz0 4 rfl) ty_33)) (oc (ob_sto rfl rfl rfl (vq 0 rfl) ty_33 (Eq.trans (b := 2) rfl rfl)) (oc (ob_sto rfl rfl rfl (vq 1 rfl) ty_33 (Eq.trans (b := 2) rfl rfl)) o0)))) (by kernel_rfl) (by kernel_rfl) (by kernel_rfl) (by kernel_rfl) (fun a w hst => ?_)
    have hst : St B w0 28 [] [⟨4, 33, ptrH, _⟩, ⟨5, 33, ptrH, _⟩, ⟨6, 33, ptrH, _⟩, ⟨7, 33, ptrH, _⟩, ⟨8, 33, ptrH, _⟩] a w := hst
    refine blk_normal ?_
    refine thn_normal ?_
    have hst := St.sel hst []
    have hst := St.selL hst [0, 1, 2]
    exact ⟨x % n, Nat.mod_lt _ h0, n, ⟨gcd_step hg, hn, lz_tmod hn h0⟩, hst⟩
  · obtain rfl := len_z hb0
    refine wp_exit ?_
    refine thn_exit ?_
    refine thn_exit ?_
    refine blk_exit ?_
    refine thn_normal ?_
    refine wp_seq ?_
    refine gl (sts := [some (1, _), none, none]) (news := []) (sp := [.val 27 _, .sto 0]) [] hst (oc (ob_v rfl rfl (r_load (lz0 1 rfl) ty_33)) (oc (ob_sto rfl rfl rfl (vq 0 rfl) ty_33 (Eq.trans (b := 2) rfl rfl)) o0)) (fun a w hst => ?_)
    have hst : St B w0 28 [] [⟨4, 33, ptrH, _⟩, ⟨5, 33, ptrH, _⟩, ⟨6, 33, ptrH, _⟩] a w := hst
    refine thn_normal ?_
    refine wp_ret ?_
    refine ret_cast ?_ (ret_cell rfl hst (List.mem_of_getElem? (i := 0) rfl) ty_33)
    exact congrArg (fun z : Nat => (RIN (riOf (z : Int))).va) ((Nat.gcd_zero_right x).symm.trans hg)

set_option maxRecDepth 100000 in
theorem long1_c (x : RI) : Cn Try.prog 72 [(RIA x).va] (Bo (decide ((x.mag.length : Int) > 2048))) := by
  refine Cn.intro Try.func72 rfl (by kernel_rfl) nq (fun B w0 a hst => ?_)
  have hst : St B w0 7 [(0, (RIA x).va)] [] a w0.w := hst
  refine wp_seq ?_
  refine gl (sts := []) (news := [⟨1, 33, ptrH, some 0, _, none⟩]) (sp := [.alc 0, .val 2 _]) [.o 1] hst (oc (ob_box rfl rfl rfl (gq 0 rfl)) (oc (ob_v rfl rfl (r_assign has_bo)) o0)) (fun a w hst => ?_)
  have hst : St B w0 7 [(2, _)] [⟨1, 33, ptrH, _⟩] a w := hst
  refine thn_normal ?_
  refine wp_seq ?_
  refine gl (sts := [none]) (news := []) (sp := [.adr 3 1 (.some 1) True, .val 4 _, .val 5 _, .val 6 _, .val 2 _]) [.o 4] hst (oc (ob_a rfl rfl (a_fld (lz0 0 rfl) fld_33_1)) (oc (ob_v rfl rfl (r_loadf 0 rfl (by kernel_rfl) trivial (lz0 0 rfl) (Sub.part 1 rfl rfl) ty_31)) (oc (ob_v rfl rfl (r_lenm Try.underlying31 (vq 1 rfl))) (oc (ob_v rfl rfl (r_gtr (vq 2 rfl) has_num)) (oc (ob_v rfl rfl (r_assign (vq 3 rfl))) o0))))) (fun a w hst => ?_)
  have hst : St B w0 7 [(2, _)] [⟨1, 33, ptrH, _⟩] a w := hst
  refine thn_normal ?_
  refine wp_ret ?_
  exact ret_tmp rfl hst (List.mem_of_getElem? (i := 0) rfl)

/-- the first one that is too long. -/
def bigI (x : RI) : Bool := decide ((x.mag.length : Int) > 2048)
theorem long1_b (x : RI) : Cn Try.prog 72 [(RIA x).va] (Bo (bigI x)) := long1_c x
theorem big_some {l : List RI} {j : Nat} (h : j < l.length) (h2 : bigI l[j] = true) : l.any bigI = true := List.any_eq_true.2 ⟨_, List.getElem_mem h, h2⟩
theorem take_no {l : List RI} {j : Nat} (h : j < l.length) (h1 : (l.take j).any bigI = false) (h2 : bigI l[j] = false) : (l.take (j + 1)).any bigI = false := by
  rw [List.take_succ_eq_append_getElem h, List.any_append, h1]
  simp [h2]

/-- a place, or -1: is there one? -/
def IxV (b : Bool) : VA where
  p _ v _ := ∃ n : Int, v = .int .i64 n ∧ b = decide (n ≥ 0)
  deps := []
  cg := fun _ _ _ _ _ h => h
  wr := fun _ _ _ _ _ _ _ _ _ _ _ _ h => h
theorem ix_of {n : Int} {b : Bool} (h : b = decide (n ≥ 0)) : Wk (In n) (IxV b) := fun _ _ _ hv => ⟨n, num_val hv, h⟩
theorem r_ix {P : Program} {Q : Exit → Act → World → Prop} {R : Rg} {B : Nat} {w0 : Bs} {i : Nat} {x : Operand} {xt yt : TypeId} {b : Bool} (hx : Has R B w0 i x (IxV b)) : Wv P Q R B w0 i (.binOp .geq xt x (.const (.int .i64 0)) yt) (Bo b) :=
  wv_run fun _ _ _ _ _ a w av => by
    obtain ⟨n, e1, rfl⟩ := hx a w av
    refine ⟨.bool (decide (n ≥ 0)), w, ?_, Grow.refl w, val_bo _ _ _⟩
    have hg : (eqGuard .geq xt x (.const (.int .i64 0)) (.int .i64 n) (.int .i64 0)).run P w = .ok () w := by unfold eqGuard; split <;> rfl
    have e2 : a.eval (.const (.int .i64 0)) = .int .i64 0 := rfl
    have hr : (binOp .geq xt (.int .i64 n) (.int .i64 0)).run P w = .ok (.bool (decide (n ≥ 0))) w := by rw [binOp_geq]; rfl
    simp only [execOp, e1, e2, Sem.run_bind, hg, hr, Result.andThen_ok, Sem.run_pure]

set_option maxRecDepth 100000 in
theorem index_c (l : List RI) (hl : l.length ≤ 1099511627776) : Cn Try.prog 91 [(SlA 33 [U32] (l.map RIA)).va, FnV Try.prog [] (fun x : RI => [(RIA x).va]) (fun x => Bo (bigI x))] (IxV (l.any bigI)) := by
  refine Cn.intro Try.func91 rfl (by kernel_rfl) nq (fun B w0 a hst => ?_)
  have hst : St B w0 19 [(0, (SlA 33 [U32] (l.map RIA)).va), (1, FnV Try.prog [] (fun x : RI => [(RIA x).va]) (fun x => Bo (bigI x)))] [] a w0.w := hst
  refine wp_seq ?_
  refine gl (sts := []) (news := []) (sp := [.val 4 _]) [.g 0, .g 1, .o 0] hst (oc (ob_v rfl rfl (r_assign has_num)) o0) (fun a w hst => ?_)
  have hst : St B w0 19 [(0, _), (1, _), (4, _)] [] a w := hst
  refine thn_normal ?_
  refine wp_seq ?_
  refine wp_seq ?_
  refine gl (sts := []) (news := []) (sp := [.val 6 _, .val 7 _, .val 8 _]) [.g 0, .g 1, .g 2, .o 1, .o 2] hst (oc (ob_v rfl rfl (r_move (gq 0 rfl))) (oc (ob_v rfl rfl (r_len Try.underlying95 (vq 0 rfl))) (oc (ob_v rfl rfl (r_move has_num)) o0))) (fun a w hst => ?_)
  have hst : St B w0 19 [(0, _), (1, _), (4, _), (7, _), (8, _)] [] a w := hst
  refine thn_normal ?_
  refine wp_block ?_
  have hst := St.sel hst [0, 1, 3, 4]
  refine wp_loop_ghost (fun n a w => ∃ j : Nat, (n + j = l.length ∧ (l.take j).any bigI = false) ∧ St B w0 19 [(0, (SlA 33 [U32] (l.map RIA)).va), (1, FnV Try.prog [] (fun x : RI => [(RIA x).va]) (fun x => Bo (bigI x))), (7, In (l.length : Nat)), (8, In (j : Nat))] [] a w) (l.length) ?_ ?_
  · exact ⟨0, ⟨by omega, rfl⟩, by rw [List.length_map] at hst; exact hst⟩
  intro n a w hI
  obtain ⟨j, ⟨hn, hno⟩, hst⟩ := hI
  refine wp_seq ?_
  refine gl (sts := []) (news := []) (sp := [.val 9 _]) [.g 0, .g 1, .g 2, .g 3, .o 0] hst (oc (ob_v rfl rfl (r_lss (gq 3 rfl) (gq 2 rfl))) o0) (fun a w hst => ?_)
  have hst : St B w0 19 [(0, _), (1, _), (7, _), (8, _), (9, _)] [] a w := hst
  refine thn_normal ?_
  refine wp_seq ?_
  refine cond_of hst (List.mem_of_getElem? (i := 4) rfl) (fun hb0 => ?_) (fun hb0 => ?_)
  · have hj : j < l.length := by simp at hb0; omega
    refine wp_skip ?_
    refine thn_normal ?_
    refine wp_seq ?_
    refine wp_block ?_
    refine wp_seq ?_
    refine gl (sts := []) (news := []) (sp := [.val 10 _, .val 5 _]) [.g 0, .g 1, .g 2, .g 3, .o 1] hst (oc (ob_v rfl rfl (r_move (gq 3 rfl))) (oc (ob_v rfl rfl (r_assign (vq 0 rfl))) o0)) (fun a w hst => ?_)
    have hst : St B w0 19 [(0, _), (1, _), (7, _), (8, _), (5, _)] [] a w := hst
    refine thn_normal ?_
    refine wp_seq ?_
    refine gl (sts := []) (news := []) (sp := [.val 11 _, .val 12 _, .val 13 _, .val 14 _, .val 15 _, .val 16 _]) [.g 0, .g 1, .g 2, .g 3, .g 4, .o 5] hst (oc (ob_v rfl rfl (r_move (gq 1 rfl))) (oc (ob_v rfl rfl (r_move (gq 0 rfl))) (oc (ob_v rfl rfl (r_move (gq 4 rfl))) (oc (ob_v rfl rfl (r_idx sl_95 (map_n fun _ => rfl) (vq 1 rfl) (vq 2 rfl) (map_at hj))) (oc (ob_v rfl rfl (r_loade (vq 3 rfl) ty_33)) (oc (ob_v rfl rfl (r_callv (xs := [.tmp 15]) _ (vq 0 rfl) (.cons (vq 4 rfl) .nil))) o0)))))) (fun a w hst => ?_)
    have hst : St B w0 19 [(0, _), (1, _), (7, _), (8, _), (5, _), (16, _)] [] a w := hst
    refine thn_normal ?_
    refine cond_of hst (List.mem_of_getElem? (i := 5) rfl) (fun hb1 => ?_) (fun hb1 => ?_)
    · refine wp_seq ?_
      refine gl (sts := []) (news := []) (sp := [.val 17 _, .val 4 _]) [.g 0, .g 1, .g 2, .g 3, .o 1] hst (oc (ob_v rfl rfl (r_move (gq 4 rfl))) (oc (ob_v rfl rfl (r_assign (vq 0 rfl))) o0)) (fun a w hst => ?_)
      have hst : St B w0 19 [(0, _), (1, _), (7, _), (8, _), (4, _)] [] a w := hst
      refine thn_normal ?_
      refine wp_ret ?_
      refine blk_ret ?_
      refine thn_ret ?_
      refine thn_ret ?_
      refine blk_ret ?_
      refine thn_ret ?_
      refine ret_wk ?_ (ret_tmp rfl hst (List.mem_of_getElem? (i := 4) rfl))
      exact ix_of (by rw [big_some hj hb1]; simp)
    · refine wp_skip ?_
      refine blk_normal ?_
      refine thn_normal ?_
      refine gl (sts := []) (news := []) (sp := [.val 18 _, .val 8 _]) [.g 0, .g 1, .g 2, .o 1] hst (oc (ob_v rfl rfl (r_add (gq 3 rfl) has_num (wi_succ (by omega)))) (oc (ob_v rfl rfl (r_move (vq 0 rfl))) o0)) (fun a w hst => ?_)
      have hst : St B w0 19 [(0, _), (1, _), (7, _), (8, _)] [] a w := hst
      refine thn_normal ?_
      have hst := St.sel hst [0, 1, 2, 3]
      exact ⟨n - 1, by omega, j + 1, ⟨by omega, take_no hj hno hb1⟩, hst⟩
  · obtain rfl : j = l.length := by simp at hb0; omega
    refine wp_exit ?_
    refine thn_exit ?_
    refine thn_exit ?_
    refine blk_exit ?_
    refine thn_normal ?_
    refine wp_seq ?_
    refine gl (sts := []) (news := []) (sp := [.val 4 _]) [.o 0] hst (oc (ob_v rfl rfl (r_assign has_num)) o0) (fun a w hst => ?_)
    have hst : St B w0 19 [(4, _)] [] a w := hst
    refine thn_normal ?_
    refine wp_ret ?_
    refine ret_wk ?_ (ret_tmp rfl hst (List.mem_of_getElem? (i := 0) rfl))
    exact ix_of (by rw [List.take_length] at hno; rw [hno]; rfl)

set_option maxRecDepth 100000 in
theorem contains_c (l : List RI) (hl : l.length ≤ 1099511627776) : Cn Try.prog 71 [(SlA 33 [U32] (l.map RIA)).va, FnV Try.prog [] (fun x : RI => [(RIA x).va]) (fun x => Bo (bigI x))] (Bo (l.any bigI)) := by
  refine Cn.intro Try.func71 rfl (by kernel_rfl) nq (fun B w0 a hst => ?_)
  have hst : St B w0 9 [(0, (SlA 33 [U32] (l.map RIA)).va), (1, FnV Try.prog [] (fun x : RI => [(RIA x).va]) (fun x => Bo (bigI x)))] [] a w0.w := hst
  refine wp_seq ?_
  refine gl (sts := []) (news := []) (sp := [.val 4 _]) [.g 0, .g 1, .o 0] hst (oc (ob_v rfl rfl (r_assign has_bo)) o0) (fun a w hst => ?_)
  have hst : St B w0 9 [(0, _), (1, _), (4, _)] [] a w := hst
  refine thn_normal ?_
  refine wp_seq ?_
  refine gl (sts := []) (news := []) (sp := [.val 5 _, .val 6 _, .val 7 _, .val 8 _, .val 4 _]) [.o 4] hst (oc (ob_v rfl rfl (r_move (gq 0 rfl))) (oc (ob_v rfl rfl (r_move (gq 1 rfl))) (oc (ob_v rfl rfl (r_call (xs := [.tmp 5, .tmp 6]) (index_c _ hl) (.cons (vq 0 rfl) (.cons (vq 1 rfl) .nil)))) (oc (ob_v rfl rfl (r_ix (vq 2 rfl))) (oc (ob_v rfl rfl (r_assign (vq 3 rfl))) o0))))) (fun a w hst => ?_)
  have hst : St B w0 9 [(4, _)] [] a w := hst
  refine thn_normal ?_
  refine wp_ret ?_
  exact ret_tmp rfl hst (List.mem_of_getElem? (i := 0) rfl)

set_option maxRecDepth 100000 in
theorem longI_c (l : List RI) (hl : l.length ≤ 1099511627776) : Cn Try.prog 49 [(SlA 33 [U32] (l.map RIA)).va] (Bo (l.any bigI)) := by
  refine Cn.intro Try.func49 rfl (by kernel_rfl) nq (fun B w0 a hst => ?_)
  have hst : St B w0 5 [(0, (SlA 33 [U32] (l.map RIA)).va)] [] a w0.w := hst
  refine wp_seq ?_
  refine gl (sts := []) (news := []) (sp := [.val 2 _]) [.g 0, .o 0] hst (oc (ob_v rfl rfl (r_assign has_bo)) o0) (fun a w hst => ?_)
  have hst : St B w0 5 [(0, _), (2, _)] [] a w := hst
  refine thn_normal ?_
  refine wp_seq ?_
  refine gl (sts := []) (news := []) (sp := [.val 3 _, .val 4 _, .val 2 _]) [.o 2] hst (oc (ob_v rfl rfl (r_move (gq 0 rfl))) (oc (ob_v rfl rfl (r_call (xs := [.tmp 3, .func 72]) (contains_c _ hl) (.cons (vq 0 rfl) (.cons (has_func long1_b) .nil)))) (oc (ob_v rfl rfl (r_assign (vq 1 rfl))) o0))) (fun a w hst => ?_)
  have hst : St B w0 5 [(2, _)] [] a w := hst
  refine thn_normal ?_
  refine wp_ret ?_
  exact ret_tmp rfl hst (List.mem_of_getElem? (i := 0) rfl)

end Go.Proofs.Ytljkepdpoelpkaa
