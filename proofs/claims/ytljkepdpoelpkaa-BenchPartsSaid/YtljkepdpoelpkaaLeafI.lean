import Derived.Test.YtljkepdpoelpkaaLeafH
namespace Go.Proofs.Ytljkepdpoelpkaa
open Go Go.RowKit
namespace LeafI
theorem sl_31 : Sl Try.prog 31 91 1 := ⟨by kernel_rfl, by kernel_rfl⟩
theorem ty_91 : Ty Try.prog 91 1 false := ⟨by kernel_rfl, by kernel_rfl⟩
end LeafI
open LeafI
theorem wshl {u s : Nat} : IntKind.u32.wrap ((u : Int) * 2 ^ ((s : Int).toNat)) = ((u * 2 ^ s % 4294967296 : Nat) : Int) := by
  rw [Int.toNat_natCast, show (u : Int) * 2 ^ s = ((u * 2 ^ s : Nat) : Int) from by simp]; exact wu32'
theorem shl_lt {u s : Nat} (hu : u < 4294967296) (hs : s < 32) : u * 2 ^ s < 18446744073709551616 := by
  have h1 : 2 ^ s ≤ 2 ^ 31 := Nat.pow_le_pow_right (by decide) (by omega)
  have h2 : u * 2 ^ s ≤ 4294967295 * 2 ^ 31 := Nat.mul_le_mul (by omega) h1
  omega
theorem wshl64 {u s : Nat} (hu : u < 4294967296) (hs : s < 32) : IntKind.u64.wrap ((u : Int) * 2 ^ ((s : Int).toNat)) = ((u * 2 ^ s : Nat) : Int) := by
  rw [Int.toNat_natCast, show (u : Int) * 2 ^ s = ((u * 2 ^ s : Nat) : Int) from by simp]; exact wu64 (shl_lt hu hs)
theorem up_mod {u s : Nat} (hs : s < 32) : u * 2 ^ s % 4294967296 = 2 ^ s * (u % 2 ^ (32 - s)) := by
  rw [show (4294967296 : Nat) = 2 ^ s * 2 ^ (32 - s) from by rw [← Nat.pow_add, show s + (32 - s) = 32 from by omega], Nat.mul_comm u, Nat.mul_mod_mul_left]
theorem up_or {u s c : Nat} (hs : s < 32) (hc : c < 2 ^ s) : u * 2 ^ s % 4294967296 ||| c = (c + u * 2 ^ s) % 4294967296 := by
  rw [up_mod hs, ← Nat.two_pow_add_eq_or_of_lt hc]
  have h1 : u % 2 ^ (32 - s) < 2 ^ (32 - s) := Nat.mod_lt _ (Nat.pow_pos (by decide))
  have h2 : 2 ^ s * (u % 2 ^ (32 - s) + 1) ≤ 2 ^ s * 2 ^ (32 - s) := Nat.mul_le_mul_left _ h1
  rw [← Nat.pow_add, show s + (32 - s) = 32 from by omega, Nat.mul_add, Nat.mul_one] at h2
  have h3 := up_mod (u := u) hs
  have h4 := Nat.div_add_mod (u * 2 ^ s) 4294967296
  omega
theorem up_div {u s c : Nat} (hs : s < 32) (hc : c < 2 ^ s) : u * 2 ^ s / 4294967296 = (c + u * 2 ^ s) / 4294967296 := by
  have h1 : u % 2 ^ (32 - s) < 2 ^ (32 - s) := Nat.mod_lt _ (Nat.pow_pos (by decide))
  have h2 : 2 ^ s * (u % 2 ^ (32 - s) + 1) ≤ 2 ^ s * 2 ^ (32 - s) := Nat.mul_le_mul_left _ h1
  rw [← Nat.pow_add, show s + (32 - s) = 32 from by omega, Nat.mul_add, Nat.mul_one] at h2
  have h3 := up_mod (u := u) hs
  have h4 := Nat.div_add_mod (u * 2 ^ s) 4294967296
  omega
def upSt (l : List Nat) (s i : Nat) : List Nat := digs i (val (l.take i) * 2 ^ s) ++ List.replicate (l.length + 1 - i) 0
theorem upSt_len {l : List Nat} {s i : Nat} (h : i ≤ l.length) : (upSt l s i).length = l.length + 1 := by simp [upSt, digs_length]; omega
theorem upSt_zero (l : List Nat) (s : Nat) : upSt l s 0 = List.replicate (l.length + 1) 0 := by simp [upSt, digs]
theorem up_val {l : List Nat} {s i : Nat} (h : i < l.length) : val (l.take (i + 1)) * 2 ^ s = val (l.take i) * 2 ^ s + 4294967296 ^ i * (l[i] * 2 ^ s) := by rw [val_take_succ h, Nat.add_mul, Nat.mul_assoc]
theorem up_cl {l : List Nat} (hl : okL l) (s i : Nat) : val (l.take i) * 2 ^ s / 4294967296 ^ i < 2 ^ s := by
  apply Nat.div_lt_of_lt_mul
  exact Nat.mul_lt_mul_of_pos_right (val_take_lt hl i) (Nat.pow_pos (by decide))
theorem upSt_step {l : List Nat} {s i : Nat} (h : i < l.length) : (upSt l s i).set i ((val (l.take i) * 2 ^ s / 4294967296 ^ i + l[i] * 2 ^ s) % 4294967296) = upSt l s (i + 1) := by
  unfold upSt
  rw [set_app _ _ _ _ (digs_length _ _), rep_set _ _ (by omega), up_val h, digs_step]
  simp only [List.append_assoc, List.singleton_append]
  congr 3
theorem up_carry {l : List Nat} {s i : Nat} (h : i < l.length) : (val (l.take i) * 2 ^ s / 4294967296 ^ i + l[i] * 2 ^ s) / 4294967296 = val (l.take (i + 1)) * 2 ^ s / 4294967296 ^ (i + 1) := by rw [up_val h, carry_step']
theorem upSt_end {l : List Nat} (hl : okL l) {s : Nat} (hs : s < 32) : (upSt l s l.length).set l.length (val (l.take l.length) * 2 ^ s / 4294967296 ^ l.length) = digs (l.length + 1) (val l * 2 ^ s) := by
  have h := up_cl hl s l.length
  have h1 : 2 ^ s ≤ 2 ^ 31 := Nat.pow_le_pow_right (by decide) (by omega)
  unfold upSt
  rw [set_app _ _ _ _ (digs_length _ _), rep_set _ _ (by omega), digs_snoc, List.take_length] at *
  rw [Nat.mod_eq_of_lt (by omega)]
  simp

set_option maxRecDepth 100000 in
theorem up_c (l : List Nat) (s : Nat) (hls : l.length ≤ 1099511627776) (hs : s < 32) : Cr Try.prog 97 91 (slH (l.length + 1) (l.length + 1)) (Nums .u32 (digs (l.length + 1) (val l * 2 ^ s))) [(MgA l).va, (NumA .u64 (s : Nat)).va] := by
  refine Cr.introW Try.func97 rfl (by kernel_rfl) nq (.cons (up_mg _).va (.cons (up_num _ _).va .nil)) (fun _ _ _ _ h => h) (fun B w0 a hB0 hst => ?_)
  have hst : St B w0 41 [(0, (MgO l).va), (1, (NumA .u64 (s : Nat)).va)] [] a w0.w := hst
  have hl := (hst.magO 0 rfl).1
  refine wp_seq ?_
  refine gl (sts := []) (news := []) (sp := [.val 4 _]) [.g 0, .g 1, .o 0] hst (oc (ob_v rfl rfl (r_assign has_const)) o0) (fun a w hst => ?_)
  have hst : St B w0 41 [(0, _), (1, _), (4, _)] [] a w := hst
  refine thn_normal ?_
  refine wp_seq ?_
  refine go_linR (sts := []) (news := [⟨12, 91, slH _ _, some 3, _, none⟩]) (sp := [.val 9 _, .val 10 _, .val 11 _, .alc 0, .adr 5 12 .none True]) [.g 0, .g 1, .g 2] [(5, 12)] [⟨5, 91, slH _ _, _⟩] hst (oc (ob_v rfl rfl (r_move (gq 0 rfl))) (oc (ob_v rfl rfl (r_lenm Try.underlying31 (has_old (vq 0 rfl)))) (oc (ob_v rfl rfl (r_add (vq 1 rfl) has_num (wi_succ (by omega)))) (oc (ob_make rfl rfl rfl mk_u32 (vq 2 rfl) (vq 2 rfl) (by omega)) (oc (ob_a rfl rfl a_asg) o0))))) (by kernel_rfl) (by kernel_rfl) (by kernel_rfl) ⟨⟨4, rfl⟩, trivial⟩ rfl (by kernel_rfl) (fun a w hst => ?_)
  have hst : St B w0 41 [(0, _), (1, _), (4, _)] [⟨5, 91, slH _ _, _⟩] a w := hst
  refine thn_normal ?_
  refine wp_seq ?_
  refine gl (sts := [none]) (news := []) (sp := [.val 6 _]) [.g 0, .g 1, .g 2, .o 0] hst (oc (ob_v rfl rfl (r_assign (has_nat 0 rfl))) o0) (fun a w hst => ?_)
  have hst : St B w0 41 [(0, _), (1, _), (4, _), (6, _)] [⟨5, 91, slH _ _, _⟩] a w := hst
  refine thn_normal ?_
  refine wp_seq ?_
  refine wp_seq ?_
  refine gl (sts := [none]) (news := []) (sp := [.val 13 _, .val 14 _, .val 15 _]) [.g 0, .g 1, .g 2, .g 3, .o 0, .o 1, .o 2] hst (oc (ob_v rfl rfl (r_move (gq 0 rfl))) (oc (ob_v rfl rfl (r_lenm Try.underlying31 (has_old (vq 0 rfl)))) (oc (ob_v rfl rfl (r_move has_num)) o0))) (fun a w hst => ?_)
  have hst : St B w0 41 [(0, _), (1, _), (4, _), (6, _), (13, _), (14, _), (15, _)] [⟨5, 91, slH _ _, _⟩] a w := hst
  refine thn_normal ?_
  refine wp_block ?_
  have hst := St.sel hst [0, 1, 3, 4, 5, 6]
  refine wp_loop_ghost (fun n a w => ∃ i : Nat, n + i = l.length ∧ St B w0 41 [(0, (MgO l).va), (1, (NumA .u64 (s : Nat)).va), (6, (NumA .u32 (val (l.take i) * 2 ^ s / 4294967296 ^ i : Nat)).va), (13, (MgO l).va), (14, In (l.length : Nat)), (15, In (i : Nat))] [⟨5, 91, slH (l.length + 1) (l.length + 1), Nums .u32 (upSt l s i)⟩] a w) (l.length) ?_ ?_
  · exact ⟨0, by omega, by rw [upSt_zero, show val (l.take 0) * 2 ^ s / 4294967296 ^ 0 = 0 from by simp]; exact hst⟩
  intro n a w hI
  obtain ⟨i, hn, hst⟩ := hI; have hc := up_cl hl s i; have h31 : 2 ^ s ≤ 2 ^ 31 := Nat.pow_le_pow_right (by decide) (by omega)
  refine wp_seq ?_
  refine gl (sts := [none]) (news := []) (sp := [.val 16 _]) [.g 0, .g 1, .g 2, .g 3, .g 4, .g 5, .o 0] hst (oc (ob_v rfl rfl (r_lss (gq 5 rfl) (gq 4 rfl))) o0) (fun a w hst => ?_)
  have hst : St B w0 41 [(0, _), (1, _), (6, _), (13, _), (14, _), (15, _), (16, _)] [⟨5, 91, slH _ _, _⟩] a w := hst
  refine thn_normal ?_
  refine wp_seq ?_
  refine cond_of hst (List.mem_of_getElem? (i := 6) rfl) (fun hb0 => ?_) (fun hb0 => ?_)
  · have hi : i < l.length := by simp at hb0; omega
    refine wp_skip ?_
    refine thn_normal ?_
    refine wp_seq ?_
    refine wp_block ?_
    refine wp_seq ?_
    refine gl (sts := [none]) (news := []) (sp := [.val 17 _, .val 18 _, .val 19 _, .val 7 _, .val 8 _]) [.g 0, .g 1, .g 2, .g 3, .g 4, .g 5, .o 3, .o 4] hst (oc (ob_v rfl rfl (r_move (gq 5 rfl))) (oc (ob_v rfl rfl (r_idxm sl_31 (has_old (gq 3 rfl)) (gq 5 rfl) (by omega))) (oc (ob_v rfl rfl (r_loade (vq 1 rfl) ty_91)) (oc (ob_v rfl rfl (r_assign (vq 0 rfl))) (oc (ob_v rfl rfl (r_assign (vq 2 rfl))) o0))))) (fun a w hst => ?_)
    have hst : St B w0 41 [(0, _), (1, _), (6, _), (13, _), (14, _), (15, _), (7, _), (8, _)] [⟨5, 91, slH _ _, _⟩] a w := hst
    refine thn_normal ?_
    refine wp_seq ?_
    refine gl (sts := [some (8, _)]) (news := []) (sp := [.adr 20 5 .none True, .val 21 _, .val 22 _, .val 23 _, .val 24 _, .val 25 _, .val 26 _, .adr 27 5 (.some _) True, .sto 0]) [.g 0, .g 1, .g 2, .g 3, .g 4, .g 5, .g 7] hst (oc (ob_a rfl rfl a_mov) (oc (ob_v rfl rfl (r_move (gq 6 rfl))) (oc (ob_v rfl rfl (r_move (gq 7 rfl))) (oc (ob_v rfl rfl (r_move (gq 1 rfl))) (oc (ob_v rfl rfl (r_shl (vq 2 rfl) (vq 3 rfl) (⟨by omega, by show (s : Int) ≤ 32; omega⟩) (wshl))) (oc (ob_v rfl rfl (r_move (gq 2 rfl))) (oc (ob_v rfl rfl (r_bor (vq 4 rfl) (vq 5 rfl) ((bor32 (Nat.mod_lt _ (by decide)) (by omega)).trans (congrArg _ (up_or hs hc))))) (oc (ob_a rfl rfl (a_elm 0 rfl (by kernel_rfl) (lz0 0 rfl) sl_31 (vq 1 rfl) (by omega))) (oc (ob_stox 7 rfl rfl rfl rfl (by kernel_rfl) (fun _ => slH_off _ _ _ _) (vq 6 rfl) ty_91 (nums_put (by rw [upSt_len (by omega)]; omega))) o0))))))))) (fun a w hst => ?_)
    have hst : St B w0 41 [(0, _), (1, _), (6, _), (13, _), (14, _), (15, _), (8, _)] [⟨5, 91, slH _ _, _⟩] a w := hst
    refine thn_normal ?_
    refine gl (sts := [none]) (news := []) (sp := [.val 28 _, .val 29 _, .val 30 _, .val 31 _, .val 32 _, .val 33 _, .val 6 _]) [.g 0, .g 1, .g 3, .g 4, .g 5, .o 6] hst (oc (ob_v rfl rfl (r_move (gq 6 rfl))) (oc (ob_v rfl rfl (r_convk .u64 (by kernel_rfl) (by kernel_rfl) (vq 0 rfl) (wu64 (Nat.lt_trans (hl _ (List.getElem_mem _)) (by decide))))) (oc (ob_v rfl rfl (r_move (gq 1 rfl))) (oc (ob_v rfl rfl (r_shl (vq 1 rfl) (vq 2 rfl) (⟨by omega, by show (s : Int) ≤ 64; omega⟩) (wshl64 (hl _ (List.getElem_mem _)) hs))) (oc (ob_v rfl rfl (r_shr (vq 3 rfl) (has_nat 32 rfl) (by decide) (nshr))) (oc (ob_v rfl rfl (r_convk .u32 (by kernel_rfl) (by kernel_rfl) (vq 4 rfl) ((wu32 (Nat.div_lt_of_lt_mul (shl_lt (hl _ (List.getElem_mem _)) hs))).trans (congrArg _ (up_div hs hc))))) (oc (ob_v rfl rfl (r_assign (vq 5 rfl))) o0))))))) (fun a w hst => ?_)
    have hst : St B w0 41 [(0, _), (1, _), (13, _), (14, _), (15, _), (6, _)] [⟨5, 91, slH _ _, _⟩] a w := hst
    refine blk_normal ?_
    refine thn_normal ?_
    refine gl (sts := [none]) (news := []) (sp := [.val 34 _, .val 15 _]) [.g 0, .g 1, .g 2, .g 3, .g 5, .o 1] hst (oc (ob_v rfl rfl (r_add (gq 4 rfl) has_num (wi_succ (by omega)))) (oc (ob_v rfl rfl (r_move (vq 0 rfl))) o0)) (fun a w hst => ?_)
    have hst : St B w0 41 [(0, _), (1, _), (13, _), (14, _), (6, _), (15, _)] [⟨5, 91, slH _ _, _⟩] a w := hst
    refine thn_normal ?_
    have hst := St.sel hst [0, 1, 4, 2, 3, 5]
    rw [upSt_step hi, up_carry hi] at hst; exact ⟨n - 1, by omega, i + 1, by omega, hst⟩
  · obtain rfl : i = l.length := by simp at hb0; omega
    refine wp_exit ?_
    refine thn_exit ?_
    refine thn_exit ?_
    refine blk_exit ?_
    refine thn_normal ?_
    refine wp_seq ?_
    refine gl (sts := [some (5, _)]) (news := []) (sp := [.adr 35 5 .none True, .val 36 _, .val 37 _, .val 38 _, .adr 39 5 (.some _) True, .sto 0]) [] hst (oc (ob_a rfl rfl a_mov) (oc (ob_v rfl rfl (r_move (gq 0 rfl))) (oc (ob_v rfl rfl (r_lenm Try.underlying31 (has_old (vq 1 rfl)))) (oc (ob_v rfl rfl (r_move (gq 2 rfl))) (oc (ob_a rfl rfl (a_elm 0 rfl (by kernel_rfl) (lz0 0 rfl) sl_31 (vq 2 rfl) (by omega))) (oc (ob_stox 4 rfl rfl rfl rfl (by kernel_rfl) (fun _ => slH_off _ _ _ _) (vq 3 rfl) ty_91 (nums_put (by rw [upSt_len (by omega)]; omega))) o0)))))) (fun a w hst => ?_)
    have hst : St B w0 41 [] [⟨5, 91, slH _ _, _⟩] a w := hst
    refine thn_normal ?_
    refine wp_seq ?_
    refine go_linR (sts := [none]) (news := []) (sp := [.adr 40 5 .none True, .adr 4 5 .none True]) [] [(4, 5)] [⟨4, 91, slH _ _, _⟩] hst (oc (ob_a rfl rfl a_mov) (oc (ob_a rfl rfl (a_asg2 0 rfl (by kernel_rfl))) o0)) (by kernel_rfl) (by kernel_rfl) (by kernel_rfl) ⟨⟨1, rfl⟩, trivial⟩ rfl (by kernel_rfl) (fun a w hst => ?_)
    have hst : St B w0 41 [] [⟨4, 91, slH _ _, _⟩] a w := hst
    refine thn_normal ?_
    refine wp_ret ?_
    rw [upSt_end hl hs] at hst
    exact ret_rowr rfl hst hB0 (List.mem_of_getElem? (i := 0) rfl)

end Go.Proofs.Ytljkepdpoelpkaa
