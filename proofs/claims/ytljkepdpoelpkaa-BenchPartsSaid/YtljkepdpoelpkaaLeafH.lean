import Derived.Test.YtljkepdpoelpkaaLeafG
namespace Go.Proofs.Ytljkepdpoelpkaa
open Go Go.RowKit
namespace LeafH
theorem sl_31 : Sl Try.prog 31 91 1 := ⟨by kernel_rfl, by kernel_rfl⟩
theorem ty_91 : Ty Try.prog 91 1 false := ⟨by kernel_rfl, by kernel_rfl⟩
end LeafH
open LeafH
/-- a row that is divided by one limb, from the top: place i is next. -/
def shSt (l ext : List Nat) (d i : Nat) : List Nat := l.take i ++ digs (l.length - i) (val (l.drop i) / d) ++ ext
theorem shSt_top (l ext : List Nat) (d : Nat) : shSt l ext d l.length = l ++ ext := by simp [shSt, digs]
theorem shSt_end (l ext : List Nat) (d : Nat) : shSt l ext d 0 = digs l.length (val l / d) ++ ext := by simp [shSt]
theorem shSt_len {l ext : List Nat} {d i : Nat} (h : i ≤ l.length) : (shSt l ext d i).length = l.length + ext.length := by simp [shSt, digs_length]; omega
theorem shSt_get {l ext : List Nat} {d i : Nat} (h : i < l.length) (h2 : i < (shSt l ext d (i + 1)).length) : (shSt l ext d (i + 1))[i] = l[i] := by
  simp only [shSt, List.append_assoc]
  rw [List.getElem_append_left (by simp; omega), List.getElem_take]
theorem sh_eq (V x d : Nat) : x + 4294967296 * V = d * (4294967296 * (V / d)) + (V % d * 4294967296 + x) := by
  have h := Nat.div_add_mod V d
  have e : 4294967296 * V = 4294967296 * (d * (V / d) + V % d) := by rw [h]
  rw [Nat.mul_add, ← Nat.mul_assoc, Nat.mul_comm 4294967296 d, Nat.mul_assoc] at e
  omega
theorem sh_div {V x d : Nat} (hd : 0 < d) : (x + 4294967296 * V) / d = 4294967296 * (V / d) + (V % d * 4294967296 + x) / d := by rw [sh_eq, Nat.mul_add_div hd]
theorem sh_mod {V x d : Nat} : (x + 4294967296 * V) % d = (V % d * 4294967296 + x) % d := by rw [sh_eq, Nat.mul_add_mod]
theorem drop_val {l : List Nat} {i : Nat} (h : i < l.length) : val (l.drop i) = l[i] + 4294967296 * val (l.drop (i + 1)) := by rw [List.drop_eq_getElem_cons h]; rfl
theorem digs_cons (n q V : Nat) (hq : q < 4294967296) : digs (n + 1) (4294967296 * V + q) = q :: digs n V := by
  show (4294967296 * V + q) % 4294967296 :: digs n ((4294967296 * V + q) / 4294967296) = _
  rw [show (4294967296 * V + q) % 4294967296 = q from by omega, show (4294967296 * V + q) / 4294967296 = V from by omega]
theorem shSt_step {l ext : List Nat} {d i : Nat} (h : i < l.length) (hl : okL l) (hd : 0 < d) : (shSt l ext d (i + 1)).set i ((val (l.drop (i + 1)) % d * 4294967296 + l[i]) / d) = shSt l ext d i := by
  have hq := div32_q (h := val (l.drop (i + 1)) % d) (l := l[i]) (d := d) (Nat.mod_lt _ hd) (hl _ (List.getElem_mem h))
  unfold shSt
  rw [drop_val h, sh_div hd, show l.length - i = (l.length - (i + 1)) + 1 from by omega, digs_cons _ _ _ hq, List.take_succ_eq_append_getElem h, List.append_assoc, List.append_assoc, List.append_assoc, set_app _ _ _ _ (by simp; omega)]
  simp

set_option maxRecDepth 100000 in
theorem short_c (l ext : List Nat) (c d : Nat) (hl : okL l) (hls : l.length ≤ 1099511627776) (hd0 : 0 < d) (hd : d < 4294967296) : Cm Try.prog 88 91 (Nums .u32 (l ++ ext)) (Nums .u32 (digs l.length (val l / d) ++ ext)) [.w (slH l.length c), .v ((NumA .u32 (d : Nat)).va)] ((NumA .u32 (val l % d : Nat)).va) := by
  refine Cm.intro Try.func88 rfl (by kernel_rfl) nq (fun B g w0 a hst => ?_)
  have hst : St B w0 28 [(0, EqV ((slH l.length c).f g)), (1, (NumA .u32 (d : Nat)).va)] [⟨0, 91, slH l.length c, Nums .u32 (l ++ ext)⟩] a w0.w := hst
  refine wp_seq ?_
  refine gl (sts := [none]) (news := []) (sp := [.val 4 _]) [.g 0, .g 1, .o 0] hst (oc (ob_v rfl rfl (r_assign (has_nat 0 rfl))) o0) (fun a w hst => ?_)
  have hst : St B w0 28 [(0, _), (1, _), (4, _)] [⟨0, 91, slH _ _, _⟩] a w := hst
  refine thn_normal ?_
  refine wp_seq ?_
  refine gl (sts := [none]) (news := []) (sp := [.val 5 _]) [.g 0, .g 1, .g 2, .o 0] hst (oc (ob_v rfl rfl (r_assign (has_nat 0 rfl))) o0) (fun a w hst => ?_)
  have hst : St B w0 28 [(0, _), (1, _), (4, _), (5, _)] [⟨0, 91, slH _ _, _⟩] a w := hst
  refine thn_normal ?_
  refine wp_seq ?_
  refine wp_seq ?_
  refine gl (sts := [none]) (news := []) (sp := [.adr 7 0 .none True, .val 8 _, .val 9 _, .val 6 _]) [.g 0, .g 1, .g 2, .g 3, .o 3] hst (oc (ob_a rfl rfl a_mov) (oc (ob_v rfl rfl (r_lenx 0 rfl (by kernel_rfl) (lz0 0 rfl) Try.underlying31)) (oc (ob_v rfl rfl (r_sub (vq 1 rfl) has_num (wi64 (by omega) (by omega)))) (oc (ob_v rfl rfl (r_assign (vq 2 rfl))) o0)))) (fun a w hst => ?_)
  have hst : St B w0 28 [(0, _), (1, _), (4, _), (5, _), (6, _)] [⟨0, 91, slH _ _, _⟩] a w := hst
  refine thn_normal ?_
  refine wp_block ?_
  have hst := St.sel hst [0, 1, 3, 4]
  refine wp_loop_ghost (fun n a w => n ≤ l.length ∧ St B w0 28 [(0, EqV ((slH l.length c).f g)), (1, (NumA .u32 (d : Nat)).va), (5, (NumA .u32 (val (l.drop n) % d : Nat)).va), (6, In ((n : Int) - 1))] [⟨0, 91, slH l.length c, Nums .u32 (shSt l ext d n)⟩] a w) (l.length) ?_ ?_
  · exact ⟨Nat.le_refl _, by rw [shSt_top, List.drop_length, show val [] % d = 0 from by simp [val]]; exact hst⟩
  intro n a w hI
  obtain ⟨hn, hst⟩ := hI; have hlen := shSt_len (ext := ext) (d := d) hn
  refine wp_seq ?_
  refine wp_seq ?_
  refine gl (sts := [none]) (news := []) (sp := [.val 10 _, .val 11 _]) [.g 0, .g 1, .g 2, .g 3, .o 1] hst (oc (ob_v rfl rfl (r_move (gq 3 rfl))) (oc (ob_v rfl rfl (r_geq (vq 0 rfl) has_num)) o0)) (fun a w hst => ?_)
  have hst : St B w0 28 [(0, _), (1, _), (5, _), (6, _), (11, _)] [⟨0, 91, slH _ _, _⟩] a w := hst
  refine thn_normal ?_
  refine cond_of hst (List.mem_of_getElem? (i := 4) rfl) (fun hb0 => ?_) (fun hb0 => ?_)
  · obtain ⟨j, rfl⟩ : ∃ j, n = j + 1 := ⟨n - 1, by simp at hb0; omega⟩; rw [show ((j + 1 : Nat) : Int) - 1 = (j : Int) from by omega] at hst
    refine wp_skip ?_
    refine thn_normal ?_
    refine wp_seq ?_
    refine wp_block ?_
    refine gl (sts := [some (13, _)]) (news := []) (sp := [.adr 15 0 .none True, .val 16 _, .val 17 _, .adr 18 0 .none True, .val 19 _, .adr 20 0 (.some _) True, .val 21 _, .val 22 _, .val 23 _, .val 14 _, .val 24 _, .val 25 _, .adr 26 0 (.some _) True, .sto 0, .val 5 _]) [.g 0, .g 1, .g 3, .o 14] hst (oc (ob_a rfl rfl a_mov) (oc (ob_v rfl rfl (r_move (gq 3 rfl))) (oc (ob_v rfl rfl (r_move (gq 2 rfl))) (oc (ob_a rfl rfl a_mov) (oc (ob_v rfl rfl (r_move (gq 3 rfl))) (oc (ob_a rfl rfl (a_elm 3 rfl (by kernel_rfl) (lz0 0 rfl) sl_31 (vq 4 rfl) (by omega))) (oc (ob_v rfl rfl (r_loadx 5 rfl (by kernel_rfl) (lz0 0 rfl) (fun _ => slH_off _ _ _ _) (nums_at (by omega)) ty_91)) (oc (ob_v rfl rfl (r_move (gq 1 rfl))) (oc (ob_v rfl rfl (r_call (xs := [.tmp 17, .tmp 21, .tmp 22]) (div32_c (Nat.mod_lt _ hd0) (by rw [shSt_get (by omega) (by omega)]; exact hl _ (List.getElem_mem _)) hd) (.cons (vq 2 rfl) (.cons (vq 6 rfl) (.cons (vq 7 rfl) .nil))))) (oc (ob_v rfl rfl (r_move (vq 8 rfl))) (oc (ob_v rfl rfl (r_extract (vq 9 rfl) rfl)) (oc (ob_v rfl rfl (r_extract (vq 9 rfl) rfl)) (oc (ob_a rfl rfl (a_elm 0 rfl (by kernel_rfl) (lz0 0 rfl) sl_31 (vq 1 rfl) (by omega))) (oc (ob_stox 12 rfl rfl rfl rfl (by kernel_rfl) (fun _ => slH_off _ _ _ _) (vq 10 rfl) ty_91 (nums_put (by omega))) (oc (ob_v rfl rfl (r_assign (vq 11 rfl))) o0))))))))))))))) (fun a w hst => ?_)
    have hst : St B w0 28 [(0, _), (1, _), (6, _), (5, _)] [⟨0, 91, slH _ _, _⟩] a w := hst
    refine blk_normal ?_
    refine thn_normal ?_
    refine gl (sts := [none]) (news := []) (sp := [.val 12 _, .val 13 _, .val 6 _]) [.g 0, .g 1, .g 3, .o 2] hst (oc (ob_v rfl rfl (r_move (gq 2 rfl))) (oc (ob_v rfl rfl (r_sub (vq 0 rfl) has_num (wi64 (by omega) (by omega)))) (oc (ob_v rfl rfl (r_assign (vq 1 rfl))) o0))) (fun a w hst => ?_)
    have hst : St B w0 28 [(0, _), (1, _), (5, _), (6, _)] [⟨0, 91, slH _ _, _⟩] a w := hst
    refine thn_normal ?_
    have hst := St.sel hst [0, 1, 2, 3]
    rw [shSt_get (by omega) (by omega), shSt_step (by omega) hl hd0, ← sh_mod, ← drop_val (by omega)] at hst; exact ⟨j, by omega, by omega, hst⟩
  · obtain rfl : n = 0 := (by simp at hb0; omega); rw [shSt_end] at hst
    refine wp_exit ?_
    refine thn_exit ?_
    refine thn_exit ?_
    refine blk_exit ?_
    refine thn_normal ?_
    refine wp_seq ?_
    refine gl (sts := [none]) (news := []) (sp := [.val 27 _, .val 4 _]) [.g 0, .o 1] hst (oc (ob_v rfl rfl (r_move (gq 2 rfl))) (oc (ob_v rfl rfl (r_assign (vq 0 rfl))) o0)) (fun a w hst => ?_)
    have hst : St B w0 28 [(0, _), (4, _)] [⟨0, 91, slH _ _, _⟩] a w := hst
    refine thn_normal ?_
    refine wp_ret ?_
    refine ret_m hst (List.mem_of_getElem? (i := 0) rfl) (List.mem_of_getElem? (i := 0) rfl) ?_
    exact ret_tmp rfl hst (List.mem_of_getElem? (i := 1) rfl)

end Go.Proofs.Ytljkepdpoelpkaa
