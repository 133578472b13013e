import Derived.Test.YtljkepdpoelpkaaLeafE
namespace Go.Proofs.Ytljkepdpoelpkaa
open Go Go.RowKit
namespace LeafF
theorem fld_33_0 : Fld Try.prog 33 0 0 1 := ⟨_, _, Try.underlying33, rfl, rfl, by kernel_rfl, by decide⟩
theorem fld_33_1 : Fld Try.prog 33 1 1 1 := ⟨_, _, Try.underlying33, rfl, rfl, by kernel_rfl, by decide⟩
theorem sl_31 : Sl Try.prog 31 91 1 := ⟨by kernel_rfl, by kernel_rfl⟩
theorem ty_31 : Ty Try.prog 31 1 false := ⟨by kernel_rfl, by kernel_rfl⟩
theorem ty_33 : Ty Try.prog 33 2 true := ⟨by kernel_rfl, by kernel_rfl⟩
theorem ty_4 : Ty Try.prog 4 1 false := ⟨by kernel_rfl, by kernel_rfl⟩
theorem ty_91 : Ty Try.prog 91 1 false := ⟨by kernel_rfl, by kernel_rfl⟩
end LeafF
open LeafF
theorem val_set : ∀ {l : List Nat} {j x : Nat} (h : j < l.length), val (l.set j x) + 4294967296 ^ j * l[j] = val l + 4294967296 ^ j * x
  | [], j, x, h => by simp at h
  | y :: ys, 0, x, _ => by simp [val]; omega
  | y :: ys, j + 1, x, h => by
    have := val_set (l := ys) (j := j) (x := x) (by simpa using h)
    simp only [List.set_cons_succ, val, List.getElem_cons_succ, Nat.pow_succ]
    have e : ∀ z, 4294967296 ^ j * 4294967296 * z = 4294967296 * (4294967296 ^ j * z) := fun z => by rw [Nat.mul_comm (4294967296 ^ j), Nat.mul_assoc]
    rw [e, e]
    omega
theorem okL_set {l : List Nat} (h : okL l) (j : Nat) {x : Nat} (hx : x < 4294967296) : okL (l.set j x) := fun y hy => by
  rcases List.mem_or_eq_of_mem_set hy with h1 | h1
  · exact h y h1
  · subst h1; exact hx
/-- the product, as it stands ahead of row i: the row that is written. -/
structure MulO (a b L : List Nat) (i : Nat) : Prop where
  len : L.length = a.length + b.length
  ok : okL L
  vl : val L = val (a.take i) * val b
  zero : ∀ j, i + b.length ≤ j → L.getD j 0 = 0
/-- ahead of place k of row i. -/
structure MulI (a b L : List Nat) (i u k c : Nat) : Prop where
  len : L.length = a.length + b.length
  ok : okL L
  cl : c < 4294967296
  vl : val L + c * 4294967296 ^ (i + k) = val (a.take i) * val b + 4294967296 ^ i * (u * val (b.take k))
  zero : ∀ j, i + b.length ≤ j → L.getD j 0 = 0
theorem MulO.start (a b : List Nat) : MulO a b (List.replicate (a.length + b.length) 0) 0 := ⟨by simp, fun x hx => by rw [(List.mem_replicate.1 hx).2]; decide, by simp [val_zeros], fun j _ => by rw [List.getD_eq_getElem?_getD, List.getElem?_replicate]; split <;> rfl⟩
theorem MulO.row {a b L : List Nat} {i : Nat} (h : MulO a b L i) (u : Nat) : MulI a b L i u 0 0 := ⟨h.len, h.ok, by decide, by rw [h.vl]; simp, h.zero⟩
theorem mul_lt {u v c l : Nat} (hu : u < 4294967296) (hv : v < 4294967296) (hc : c < 4294967296) (hl : l < 4294967296) : c + (u * v + l) < 18446744073709551616 := by
  have : u * v ≤ 4294967295 * 4294967295 := Nat.mul_le_mul (by omega) (by omega)
  omega
theorem mul_alg {V V' W Z p q r u x y c t B d m : Nat} (hp : p = q * r) (ht : t = c + (u * x + y)) (hd : B * d + m = t) (h2 : V' + p * y = V + p * m) (h3 : V + c * p = W + q * (u * Z)) : V' + d * (p * B) = W + q * (u * (Z + r * x)) := by
  grind
theorem MulI.step {a b L : List Nat} {i u k c : Nat} (h : MulI a b L i u k c) (hb : okL b) (hu : u < 4294967296) (hk : k < b.length) (hj : i + k < L.length) :
    MulI a b (L.set (i + k) ((c + (u * b[k] + L[i + k])) % 4294967296)) i u (k + 1) ((c + (u * b[k] + L[i + k])) / 4294967296) := by
  have h1 := mul_lt hu (hb _ (List.getElem_mem hk)) h.cl (h.ok _ (List.getElem_mem hj))
  refine ⟨by rw [List.length_set, h.len], okL_set h.ok _ (Nat.mod_lt _ (by decide)), Nat.div_lt_of_lt_mul h1, ?_, fun j hj' => ?_⟩
  · have h2 := val_set (x := (c + (u * b[k] + L[i + k])) % 4294967296) hj
    have h3 := h.vl
    rw [val_take_succ hk, show i + (k + 1) = (i + k) + 1 from rfl, Nat.pow_succ]
    exact mul_alg (Nat.pow_add _ _ _) rfl (Nat.div_add_mod _ _) h2 h3
  · have := h.zero j hj'
    rw [List.getD_eq_getElem?_getD, List.getElem?_set_ne (by omega), ← List.getD_eq_getElem?_getD]
    exact this
theorem MulI.done {a b L : List Nat} {i u c : Nat} (h : MulI a b L i u b.length c) (hi : i < a.length) (hu : a[i] = u) : MulO a b (L.set (i + b.length) c) (i + 1) := by
  have hj : i + b.length < L.length := by rw [h.len]; omega
  have h1 := val_set (x := c) hj
  have h2 := h.vl
  have h3 : L[i + b.length] = 0 := by have := h.zero _ (Nat.le_refl _); rwa [getD_lt hj] at this
  rw [h3, Nat.mul_zero, Nat.add_zero] at h1
  rw [List.take_of_length_le (Nat.le_refl _)] at h2
  refine ⟨by rw [List.length_set, h.len], okL_set h.ok _ h.cl, ?_, fun j hj' => ?_⟩
  · rw [h1, Nat.mul_comm _ c, h2, val_take_succ hi, hu, Nat.add_mul, Nat.mul_assoc]
  · rw [List.getD_eq_getElem?_getD, List.getElem?_set_ne (by omega), ← List.getD_eq_getElem?_getD]
    exact h.zero j (by omega)
theorem MulO.fin {a b L : List Nat} (h : MulO a b L a.length) : L = digs (a.length + b.length) (val a * val b) := digs_unique h.ok h.len (by rw [h.vl, List.take_length])

set_option maxRecDepth 100000 in
theorem times_c (x y : RI) (hxs : x.mag.length ≤ 1099511627776) (hys : y.mag.length ≤ 1099511627776) : Cn Try.prog 48 [(RIA x).va, (RIA y).va] ((RIN (rsig (x.neg != y.neg) (digs (x.mag.length + y.mag.length) (val x.mag * val y.mag)))).va) := by
  refine Cn.introW Try.func48 rfl (by kernel_rfl) nq (.cons (up_ri _).va (.cons (up_ri _).va .nil)) (free_ri _).va (fun B w0 a hB0 hst => ?_)
  have hst : St B w0 78 [(0, (RIO x).va), (1, (RIO y).va)] [] a w0.w := hst
  refine wp_seq ?_
  refine gl (sts := []) (news := [⟨2, 33, ptrH, some 0, _, none⟩, ⟨3, 33, ptrH, some 1, _, none⟩, ⟨4, 33, ptrH, some 2, _, none⟩]) (sp := [.alc 0, .alc 1, .alc 2]) [] hst (oc (ob_box rfl rfl rfl (gq 0 rfl)) (oc (ob_box rfl rfl rfl (gq 1 rfl)) (oc (ob_alc rfl rfl rfl (Str.zero str_intO)) o0))) (fun a w hst => ?_)
  have hst : St B w0 78 [] [⟨2, 33, ptrH, _⟩, ⟨3, 33, ptrH, _⟩, ⟨4, 33, ptrH, _⟩] a w := hst
  refine thn_normal ?_
  refine wp_seq ?_
  refine go_draw (anc := [[], [0], [], [2], [0, 1], [0, 1, 2, 3, 4]]) (sts := [none, none, none]) (news := []) (sp := [.adr 13 2 (.some 1) True, .val 14 _, .adr 15 3 (.some 1) True, .val 16 _, .val 5 _, .val 6 _]) [.o 4, .o 5] follows_mixed hst (oc (ob_a rfl rfl (a_fld (lz0 0 rfl) fld_33_1)) (oc (ob_v rfl rfl (r_loadf 0 rfl (by kernel_rfl) trivial (lz0 0 rfl) (Sub.part 1 rfl rfl) ty_31)) (oc (ob_a rfl rfl (a_fld (lz0 1 rfl) fld_33_1)) (oc (ob_v rfl rfl (r_loadf 2 rfl (by kernel_rfl) trivial (lz0 1 rfl) (Sub.part 1 rfl rfl) ty_31)) (oc (ob_v rfl rfl (r_assign (vq 1 rfl))) (oc (ob_v rfl rfl (r_assign (vq 3 rfl))) o0)))))) (by kernel_rfl) (by kernel_rfl) (by kernel_rfl) (by kernel_rfl) (fun a w hst => ?_)
  have hst : St B w0 78 [(5, _), (6, _)] [⟨2, 33, ptrH, _⟩, ⟨3, 33, ptrH, _⟩, ⟨4, 33, ptrH, _⟩] a w := hst
  refine thn_normal ?_
  refine wp_seq ?_
  refine go_linR (sts := [none, none, none]) (news := [⟨22, 91, slH _ _, some 5, _, none⟩]) (sp := [.val 17 _, .val 18 _, .val 19 _, .val 20 _, .val 21 _, .alc 3, .adr 7 22 .none True]) [.g 0, .g 1] [(7, 22)] [⟨2, 33, ptrH, _⟩, ⟨3, 33, ptrH, _⟩, ⟨4, 33, ptrH, _⟩, ⟨7, 91, slH _ _, _⟩] hst (oc (ob_v rfl rfl (r_move (gq 0 rfl))) (oc (ob_v rfl rfl (r_lenm Try.underlying31 (has_old (vq 0 rfl)))) (oc (ob_v rfl rfl (r_move (gq 1 rfl))) (oc (ob_v rfl rfl (r_lenm Try.underlying31 (has_old (vq 2 rfl)))) (oc (ob_v rfl rfl (r_add (vq 1 rfl) (vq 3 rfl) (wi_add (by omega)))) (oc (ob_make rfl rfl rfl mk_u32 (vq 4 rfl) (vq 4 rfl) (by omega)) (oc (ob_a rfl rfl a_asg) o0))))))) (by kernel_rfl) (by kernel_rfl) (by kernel_rfl) ⟨⟨6, rfl⟩, trivial⟩ rfl (by kernel_rfl) (fun a w hst => ?_)
  have hst : St B w0 78 [(5, _), (6, _)] [⟨2, 33, ptrH, _⟩, ⟨3, 33, ptrH, _⟩, ⟨4, 33, ptrH, _⟩, ⟨7, 91, slH _ _, _⟩] a w := hst
  refine thn_normal ?_
  refine wp_seq ?_
  refine wp_seq ?_
  refine gl (sts := [none, none, none, none]) (news := []) (sp := [.val 23 _, .val 24 _, .val 25 _]) [.g 1, .o 0, .o 1, .o 2] hst (oc (ob_v rfl rfl (r_move (gq 0 rfl))) (oc (ob_v rfl rfl (r_lenm Try.underlying31 (has_old (vq 0 rfl)))) (oc (ob_v rfl rfl (r_move has_num)) o0))) (fun a w hst => ?_)
  have hst : St B w0 78 [(6, _), (23, _), (24, _), (25, _)] [⟨2, 33, ptrH, _⟩, ⟨3, 33, ptrH, _⟩, ⟨4, 33, ptrH, _⟩, ⟨7, 91, slH _ _, _⟩] a w := hst
  refine thn_normal ?_
  refine wp_block ?_
  have hst := St.sel hst [0, 1, 2, 3]
  refine wp_loop_ghost (fun n a w => ∃ (i : Nat) (L : List Nat), n + i = x.mag.length ∧ MulO x.mag y.mag L i ∧ St B w0 78 [(6, (MgO y.mag).va), (23, (MgO x.mag).va), (24, In (x.mag.length : Nat)), (25, In (i : Nat))] [⟨2, 33, ptrH, RIO x⟩, ⟨3, 33, ptrH, RIO y⟩, ⟨4, 33, ptrH, cat [BoA false, MgO []]⟩, ⟨7, 91, slH (x.mag.length + y.mag.length) (x.mag.length + y.mag.length), Nums .u32 L⟩] a w) (x.mag.length) ?_ ?_
  · exact ⟨0, _, by omega, MulO.start _ _, hst⟩
  intro n a w hI
  obtain ⟨i, L, hn, hO, hst⟩ := hI; obtain ⟨n1, hn1⟩ : ∃ n1, n1 = n := ⟨n, rfl⟩; have hb := (hst.magO 0 rfl).1; have ha := (hst.magO 1 rfl).1; have hlen := hO.len
  refine wp_seq ?_
  refine gl (sts := [none, none, none, none]) (news := []) (sp := [.val 26 _]) [.g 0, .g 1, .g 2, .g 3, .o 0] hst (oc (ob_v rfl rfl (r_lss (gq 3 rfl) (gq 2 rfl))) o0) (fun a w hst => ?_)
  have hst : St B w0 78 [(6, _), (23, _), (24, _), (25, _), (26, _)] [⟨2, 33, ptrH, _⟩, ⟨3, 33, ptrH, _⟩, ⟨4, 33, ptrH, _⟩, ⟨7, 91, slH _ _, _⟩] a w := hst
  refine thn_normal ?_
  refine wp_seq ?_
  refine cond_of hst (List.mem_of_getElem? (i := 4) rfl) (fun hb0 => ?_) (fun hb0 => ?_)
  · have hi : i < x.mag.length := by simp at hb0; omega
    refine wp_skip ?_
    refine thn_normal ?_
    refine wp_seq ?_
    refine wp_block ?_
    refine wp_seq ?_
    refine gl (sts := [none, none, none, none]) (news := []) (sp := [.val 27 _, .val 28 _, .val 29 _, .val 8 _, .val 9 _]) [.g 0, .g 1, .g 2, .g 3, .o 3, .o 4] hst (oc (ob_v rfl rfl (r_move (gq 3 rfl))) (oc (ob_v rfl rfl (r_idxm sl_31 (has_old (gq 1 rfl)) (gq 3 rfl) (by omega))) (oc (ob_v rfl rfl (r_loade (vq 1 rfl) ty_91)) (oc (ob_v rfl rfl (r_assign (vq 0 rfl))) (oc (ob_v rfl rfl (r_assign (vq 2 rfl))) o0))))) (fun a w hst => ?_)
    have hst : St B w0 78 [(6, _), (23, _), (24, _), (25, _), (8, _), (9, _)] [⟨2, 33, ptrH, _⟩, ⟨3, 33, ptrH, _⟩, ⟨4, 33, ptrH, _⟩, ⟨7, 91, slH _ _, _⟩] a w := hst
    refine thn_normal ?_
    refine wp_seq ?_
    refine gl (sts := [none, none, none, none]) (news := []) (sp := [.val 10 _]) [.g 0, .g 1, .g 2, .g 3, .g 4, .g 5, .o 0] hst (oc (ob_v rfl rfl (r_assign (has_nat 0 rfl))) o0) (fun a w hst => ?_)
    have hst : St B w0 78 [(6, _), (23, _), (24, _), (25, _), (8, _), (9, _), (10, _)] [⟨2, 33, ptrH, _⟩, ⟨3, 33, ptrH, _⟩, ⟨4, 33, ptrH, _⟩, ⟨7, 91, slH _ _, _⟩] a w := hst
    refine thn_normal ?_
    refine wp_seq ?_
    refine wp_seq ?_
    refine gl (sts := [none, none, none, none]) (news := []) (sp := [.val 30 _, .val 31 _, .val 32 _]) [.g 0, .g 1, .g 2, .g 3, .g 4, .g 5, .g 6, .o 0, .o 1, .o 2] hst (oc (ob_v rfl rfl (r_move (gq 0 rfl))) (oc (ob_v rfl rfl (r_lenm Try.underlying31 (has_old (vq 0 rfl)))) (oc (ob_v rfl rfl (r_move has_num)) o0))) (fun a w hst => ?_)
    have hst : St B w0 78 [(6, _), (23, _), (24, _), (25, _), (8, _), (9, _), (10, _), (30, _), (31, _), (32, _)] [⟨2, 33, ptrH, _⟩, ⟨3, 33, ptrH, _⟩, ⟨4, 33, ptrH, _⟩, ⟨7, 91, slH _ _, _⟩] a w := hst
    refine thn_normal ?_
    refine wp_block ?_
    have hst := St.sel hst [0, 1, 2, 3, 4, 5, 6, 7, 8, 9]
    refine wp_loop_ghost (fun n a w => ∃ (k c : Nat) (L : List Nat), n + k = y.mag.length ∧ MulI x.mag y.mag L i x.mag[i] k c ∧ St B w0 78 [(6, (MgO y.mag).va), (23, (MgO x.mag).va), (24, In (x.mag.length : Nat)), (25, In (i : Nat)), (8, In (i : Nat)), (9, (NumA .u32 (x.mag[i] : Nat)).va), (10, (NumA .u64 (c : Nat)).va), (30, (MgO y.mag).va), (31, In (y.mag.length : Nat)), (32, In (k : Nat))] [⟨2, 33, ptrH, RIO x⟩, ⟨3, 33, ptrH, RIO y⟩, ⟨4, 33, ptrH, cat [BoA false, MgO []]⟩, ⟨7, 91, slH (x.mag.length + y.mag.length) (x.mag.length + y.mag.length), Nums .u32 L⟩] a w) (y.mag.length) ?_ ?_
    · exact ⟨0, 0, L, by omega, hO.row _, hst⟩
    intro n a w hI
    clear hlen hO; obtain ⟨k, c, L, hn2, hI, hst⟩ := hI; have hlen := hI.len; have hc := hI.cl
    refine wp_seq ?_
    refine gl (sts := [none, none, none, none]) (news := []) (sp := [.val 33 _]) [.g 0, .g 1, .g 2, .g 3, .g 4, .g 5, .g 6, .g 7, .g 8, .g 9, .o 0] hst (oc (ob_v rfl rfl (r_lss (gq 9 rfl) (gq 8 rfl))) o0) (fun a w hst => ?_)
    have hst : St B w0 78 [(6, _), (23, _), (24, _), (25, _), (8, _), (9, _), (10, _), (30, _), (31, _), (32, _), (33, _)] [⟨2, 33, ptrH, _⟩, ⟨3, 33, ptrH, _⟩, ⟨4, 33, ptrH, _⟩, ⟨7, 91, slH _ _, _⟩] a w := hst
    refine thn_normal ?_
    refine wp_seq ?_
    refine cond_of hst (List.mem_of_getElem? (i := 10) rfl) (fun hb1 => ?_) (fun hb1 => ?_)
    · have hk : k < y.mag.length := by simp at hb1; omega
      refine wp_skip ?_
      refine thn_normal ?_
      refine wp_seq ?_
      refine wp_block ?_
      refine wp_seq ?_
      refine gl (sts := [none, none, none, none]) (news := []) (sp := [.val 34 _, .val 35 _, .val 36 _, .val 11 _, .val 12 _]) [.g 0, .g 1, .g 2, .g 3, .g 4, .g 5, .g 6, .g 7, .g 8, .g 9, .o 3, .o 4] hst (oc (ob_v rfl rfl (r_move (gq 9 rfl))) (oc (ob_v rfl rfl (r_idxm sl_31 (has_old (gq 7 rfl)) (gq 9 rfl) (by omega))) (oc (ob_v rfl rfl (r_loade (vq 1 rfl) ty_91)) (oc (ob_v rfl rfl (r_assign (vq 0 rfl))) (oc (ob_v rfl rfl (r_assign (vq 2 rfl))) o0))))) (fun a w hst => ?_)
      have hst : St B w0 78 [(6, _), (23, _), (24, _), (25, _), (8, _), (9, _), (10, _), (30, _), (31, _), (32, _), (11, _), (12, _)] [⟨2, 33, ptrH, _⟩, ⟨3, 33, ptrH, _⟩, ⟨4, 33, ptrH, _⟩, ⟨7, 91, slH _ _, _⟩] a w := hst
      refine thn_normal ?_
      refine wp_seq ?_
      refine gl (sts := [none, none, none, none]) (news := []) (sp := [.val 37 _, .val 38 _, .val 39 _, .val 40 _, .val 41 _, .val 42 _, .adr 43 7 .none True, .val 44 _, .val 45 _, .val 46 _, .adr 47 7 (.some _) True, .val 48 _, .val 49 _, .val 50 _, .val 51 _, .val 10 _]) [.g 0, .g 1, .g 2, .g 3, .g 4, .g 5, .g 7, .g 8, .g 9, .g 10, .o 15] hst (oc (ob_v rfl rfl (r_move (gq 6 rfl))) (oc (ob_v rfl rfl (r_move (gq 5 rfl))) (oc (ob_v rfl rfl (r_convk .u64 (by kernel_rfl) (by kernel_rfl) (vq 1 rfl) (wu64 (Nat.lt_trans (ha _ (List.getElem_mem _)) (by decide))))) (oc (ob_v rfl rfl (r_move (gq 11 rfl))) (oc (ob_v rfl rfl (r_convk .u64 (by kernel_rfl) (by kernel_rfl) (vq 3 rfl) (wu64 (Nat.lt_trans (hb _ (List.getElem_mem _)) (by decide))))) (oc (ob_v rfl rfl (r_mul (vq 2 rfl) (vq 4 rfl) (wmul64 (Nat.lt_of_le_of_lt (Nat.le_trans (Nat.le_add_right _ _) (Nat.le_add_left _ _)) (mul_lt (ha _ (List.getElem_mem _)) (hb _ (List.getElem_mem _)) (show 0 < 4294967296 by decide) (show 0 < 4294967296 by decide)))))) (oc (ob_a rfl rfl a_mov) (oc (ob_v rfl rfl (r_move (gq 4 rfl))) (oc (ob_v rfl rfl (r_move (gq 10 rfl))) (oc (ob_v rfl rfl (r_add (vq 7 rfl) (vq 8 rfl) (wi_add (by omega)))) (oc (ob_a rfl rfl (a_elm 6 rfl (by kernel_rfl) (lz0 3 rfl) sl_31 (vq 9 rfl) (by omega))) (oc (ob_v rfl rfl (r_loadx 10 rfl (by kernel_rfl) (lz0 3 rfl) (fun _ => slH_off _ _ _ _) (nums_at (by omega)) ty_91)) (oc (ob_v rfl rfl (r_convk .u64 (by kernel_rfl) (by kernel_rfl) (vq 11 rfl) (wu64 (Nat.lt_trans (hI.ok _ (List.getElem_mem _)) (by decide))))) (oc (ob_v rfl rfl (r_add (vq 5 rfl) (vq 12 rfl) (wadd64 (Nat.lt_of_le_of_lt (Nat.le_add_left _ _) (mul_lt (ha _ (List.getElem_mem _)) (hb _ (List.getElem_mem _)) hc (hI.ok _ (List.getElem_mem _))))))) (oc (ob_v rfl rfl (r_add (vq 0 rfl) (vq 13 rfl) (wadd64 (mul_lt (ha _ (List.getElem_mem _)) (hb _ (List.getElem_mem _)) hc (hI.ok _ (List.getElem_mem _)))))) (oc (ob_v rfl rfl (r_assign (vq 14 rfl))) o0)))))))))))))))) (fun a w hst => ?_)
      have hst : St B w0 78 [(6, _), (23, _), (24, _), (25, _), (8, _), (9, _), (30, _), (31, _), (32, _), (11, _), (10, _)] [⟨2, 33, ptrH, _⟩, ⟨3, 33, ptrH, _⟩, ⟨4, 33, ptrH, _⟩, ⟨7, 91, slH _ _, _⟩] a w := hst
      refine thn_normal ?_
      refine wp_seq ?_
      refine gl (sts := [none, none, none, some (7, _)]) (news := []) (sp := [.adr 52 7 .none True, .val 53 _, .val 54 _, .val 55 _, .val 56 _, .val 57 _, .adr 58 7 (.some _) True, .sto 3]) [.g 0, .g 1, .g 2, .g 3, .g 4, .g 5, .g 6, .g 7, .g 8, .g 10] hst (oc (ob_a rfl rfl a_mov) (oc (ob_v rfl rfl (r_move (gq 4 rfl))) (oc (ob_v rfl rfl (r_move (gq 9 rfl))) (oc (ob_v rfl rfl (r_add (vq 1 rfl) (vq 2 rfl) (wi_add (by omega)))) (oc (ob_v rfl rfl (r_move (gq 10 rfl))) (oc (ob_v rfl rfl (r_convk .u32 (by kernel_rfl) (by kernel_rfl) (vq 4 rfl) (wu32'))) (oc (ob_a rfl rfl (a_elm 0 rfl (by kernel_rfl) (lz0 3 rfl) sl_31 (vq 3 rfl) (by omega))) (oc (ob_stox 6 rfl rfl rfl rfl (by kernel_rfl) (fun _ => slH_off _ _ _ _) (vq 5 rfl) ty_91 (nums_put (by omega))) o0)))))))) (fun a w hst => ?_)
      have hst : St B w0 78 [(6, _), (23, _), (24, _), (25, _), (8, _), (9, _), (30, _), (31, _), (32, _), (10, _)] [⟨2, 33, ptrH, _⟩, ⟨3, 33, ptrH, _⟩, ⟨4, 33, ptrH, _⟩, ⟨7, 91, slH _ _, _⟩] a w := hst
      refine thn_normal ?_
      refine gl (sts := [none, none, none, none]) (news := []) (sp := [.val 59 _, .val 60 _, .val 10 _]) [.g 0, .g 1, .g 2, .g 3, .g 4, .g 5, .g 6, .g 7, .g 8, .o 2] hst (oc (ob_v rfl rfl (r_move (gq 9 rfl))) (oc (ob_v rfl rfl (r_shr (vq 0 rfl) (has_nat 32 rfl) (by decide) (nshr))) (oc (ob_v rfl rfl (r_assign (vq 1 rfl))) o0))) (fun a w hst => ?_)
      have hst : St B w0 78 [(6, _), (23, _), (24, _), (25, _), (8, _), (9, _), (30, _), (31, _), (32, _), (10, _)] [⟨2, 33, ptrH, _⟩, ⟨3, 33, ptrH, _⟩, ⟨4, 33, ptrH, _⟩, ⟨7, 91, slH _ _, _⟩] a w := hst
      refine blk_normal ?_
      refine thn_normal ?_
      refine gl (sts := [none, none, none, none]) (news := []) (sp := [.val 61 _, .val 32 _]) [.g 0, .g 1, .g 2, .g 3, .g 4, .g 5, .g 6, .g 7, .g 9, .o 1] hst (oc (ob_v rfl rfl (r_add (gq 8 rfl) has_num (wi_succ (by omega)))) (oc (ob_v rfl rfl (r_move (vq 0 rfl))) o0)) (fun a w hst => ?_)
      have hst : St B w0 78 [(6, _), (23, _), (24, _), (25, _), (8, _), (9, _), (30, _), (31, _), (10, _), (32, _)] [⟨2, 33, ptrH, _⟩, ⟨3, 33, ptrH, _⟩, ⟨4, 33, ptrH, _⟩, ⟨7, 91, slH _ _, _⟩] a w := hst
      refine thn_normal ?_
      have hst := St.sel hst [0, 1, 2, 3, 4, 5, 8, 6, 7, 9]
      exact ⟨n - 1, by omega, k + 1, _, _, by omega, hI.step hb (ha _ (List.getElem_mem _)) hk (by omega), hst⟩
    · obtain rfl : k = y.mag.length := by simp at hb1; omega
      refine wp_exit ?_
      refine thn_exit ?_
      refine thn_exit ?_
      refine blk_exit ?_
      refine thn_normal ?_
      refine gl (sts := [none, none, none, some (8, _)]) (news := []) (sp := [.adr 62 7 .none True, .val 63 _, .val 64 _, .val 65 _, .val 66 _, .val 67 _, .val 68 _, .adr 69 7 (.some _) True, .sto 3]) [.g 0, .g 1, .g 2, .g 3] hst (oc (ob_a rfl rfl a_mov) (oc (ob_v rfl rfl (r_move (gq 4 rfl))) (oc (ob_v rfl rfl (r_move (gq 0 rfl))) (oc (ob_v rfl rfl (r_lenm Try.underlying31 (has_old (vq 2 rfl)))) (oc (ob_v rfl rfl (r_add (vq 1 rfl) (vq 3 rfl) (wi_add (by omega)))) (oc (ob_v rfl rfl (r_move (gq 6 rfl))) (oc (ob_v rfl rfl (r_convk .u32 (by kernel_rfl) (by kernel_rfl) (vq 5 rfl) (wu32 hc))) (oc (ob_a rfl rfl (a_elm 0 rfl (by kernel_rfl) (lz0 3 rfl) sl_31 (vq 4 rfl) (by omega))) (oc (ob_stox 7 rfl rfl rfl rfl (by kernel_rfl) (fun _ => slH_off _ _ _ _) (vq 6 rfl) ty_91 (nums_put (by omega))) o0))))))))) (fun a w hst => ?_)
      have hst : St B w0 78 [(6, _), (23, _), (24, _), (25, _)] [⟨2, 33, ptrH, _⟩, ⟨3, 33, ptrH, _⟩, ⟨4, 33, ptrH, _⟩, ⟨7, 91, slH _ _, _⟩] a w := hst
      refine blk_normal ?_
      refine thn_normal ?_
      refine gl (sts := [none, none, none, none]) (news := []) (sp := [.val 70 _, .val 25 _]) [.g 0, .g 1, .g 2, .o 1] hst (oc (ob_v rfl rfl (r_add (gq 3 rfl) has_num (wi_succ (by omega)))) (oc (ob_v rfl rfl (r_move (vq 0 rfl))) o0)) (fun a w hst => ?_)
      have hst : St B w0 78 [(6, _), (23, _), (24, _), (25, _)] [⟨2, 33, ptrH, _⟩, ⟨3, 33, ptrH, _⟩, ⟨4, 33, ptrH, _⟩, ⟨7, 91, slH _ _, _⟩] a w := hst
      refine thn_normal ?_
      have hst := St.sel hst [0, 1, 2, 3]
      exact ⟨n1 - 1, by omega, i + 1, _, by omega, hI.done hi rfl, hst⟩
  · obtain rfl : i = x.mag.length := by simp at hb0; omega
    refine wp_exit ?_
    refine thn_exit ?_
    refine thn_exit ?_
    refine blk_exit ?_
    refine thn_normal ?_
    refine wp_seq ?_
    refine gl (sts := [none, none, some (7, _), none]) (news := []) (sp := [.adr 71 2 (.some 0) True, .val 72 _, .adr 73 3 (.some 0) True, .val 74 _, .val 75 _, .adr 76 7 .none True, .val 77 _, .sto 2]) [] hst (oc (ob_a rfl rfl (a_fld (lz0 0 rfl) fld_33_0)) (oc (ob_v rfl rfl (r_loadf 0 rfl (by kernel_rfl) trivial (lz0 0 rfl) (Sub.part 0 rfl rfl) ty_4)) (oc (ob_a rfl rfl (a_fld (lz0 1 rfl) fld_33_0)) (oc (ob_v rfl rfl (r_loadf 2 rfl (by kernel_rfl) trivial (lz0 1 rfl) (Sub.part 0 rfl rfl) ty_4)) (oc (ob_v rfl rfl (r_neqb (by kernel_rfl) (vq 1 rfl) (vq 3 rfl))) (oc (ob_a rfl rfl a_mov) (oc (ob_v rfl rfl (r_call (xs := [.tmp 75, .tmp 76]) (signedN_c _ _) (.cons (vq 4 rfl) (.cons (has_rowN 5 rfl (by kernel_rfl) (lz0 3 rfl) ⟨hO.len.symm, Nat.le_refl _, by unfold maxLen; omega, hO.ok⟩ hO.len.symm) .nil)))) (oc (ob_sto rfl rfl rfl (vq 6 rfl) ty_33 (Eq.trans (b := 2) rfl rfl)) o0)))))))) (fun a w hst => ?_)
    have hst : St B w0 78 [] [⟨2, 33, ptrH, _⟩, ⟨3, 33, ptrH, _⟩, ⟨4, 33, ptrH, _⟩, ⟨7, 91, slH _ _, _⟩] a w := hst
    refine thn_normal ?_
    refine wp_ret ?_
    refine ret_cast ?_ (ret_cell rfl hst (List.mem_of_getElem? (i := 2) rfl) ty_33)
    rw [hO.fin]; rfl

end Go.Proofs.Ytljkepdpoelpkaa
