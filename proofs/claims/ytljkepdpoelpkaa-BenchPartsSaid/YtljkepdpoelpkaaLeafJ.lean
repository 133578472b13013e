import Derived.Test.YtljkepdpoelpkaaLeafI
import Derived.Test.YtljkepdpoelpkaaDiv
namespace Go.Proofs.Ytljkepdpoelpkaa
open Go Go.RowKit
namespace LeafJ
theorem sl_31 : Sl Try.prog 31 91 1 := ⟨by kernel_rfl, by kernel_rfl⟩
theorem ty_91 : Ty Try.prog 91 1 false := ⟨by kernel_rfl, by kernel_rfl⟩
end LeafJ
open LeafJ
theorem wsub64 {u x : Nat} (h : x < 18446744073709551616) (hu : u < 18446744073709551616) : IntKind.u64.wrap ((u : Int) - (x : Int)) = (((u + 18446744073709551616 - x) % 18446744073709551616 : Nat) : Int) := by
  simp [IntKind.wrap, IntKind.bits, IntKind.signed]; omega
theorem wsubl {u x : Nat} (hu : u < 4294967296) (hx : x < 4294967296) : IntKind.u32.wrap (((u + 18446744073709551616 - x) % 18446744073709551616 : Nat) : Int) = (((u + 4294967296 - x) % 4294967296 : Nat) : Int) := by
  rw [wlow]; congr 1; omega
theorem wsubs {u x : Nat} (hu : u < 4294967296) (hx : x < 4294967296) : (((u + 18446744073709551616 - x) % 18446744073709551616 : Nat) : Int) / 2 ^ ((63 : Int).toNat) = ((if u < x then 1 else 0 : Nat) : Int) := by
  refine (nshr (k := 63)).trans ?_
  congr 1
  split <;> omega
theorem sgn1 {u x : Nat} : (((if u < x then 1 else 0 : Nat) : Int) == ((1 : Nat) : Int)) = decide (u < x) := by
  split <;> simp [*]

set_option maxRecDepth 100000 in
theorem less_c (L Dx : List Nat) (o m c0 c1 q : Nat) (hL : okL L) (hDx : okL Dx) (hm : m ≤ Dx.length) (hlo : o + m + 1 ≤ L.length) (hms : m ≤ 1099511627776) (hq : q < 4294967296) : Cm2 Try.prog 98 91 (winH o (m + 1) c0) (slH m c1) (Nums .u32 L) (Nums .u32 (spl L o (digs (m + 1) (val ((L.drop o).take (m + 1)) + (if val ((L.drop o).take (m + 1)) < q * val (Dx.take m) then 4294967296 ^ (m + 1) else 0) - q * val (Dx.take m))))) .u32 (Dx) [(NumA .u64 (q : Nat)).va] (Bo (decide (val ((L.drop o).take (m + 1)) < q * val (Dx.take m)))) := by
  refine Cm2.intro Try.func98 rfl (by kernel_rfl) nq (fun B g0 g1 w0 a hst => ?_)
  have hst : St B w0 62 [(0, EqV ((winH o (m + 1) c0).f g0)), (1, EqV ((slH m c1).f g1)), (2, (NumA .u64 (q : Nat)).va)] [⟨0, 91, winH o (m + 1) c0, Nums .u32 L⟩, ⟨1, 91, slH m c1, Nums .u32 (Dx)⟩] a w0.w := hst
  have hW : okL ((L.drop o).take (m + 1)) := okL_take (okL_drop hL _) _
  have hD : okL (Dx.take m) := okL_take hDx _
  have hWl : (((L.drop o).take (m + 1))).length = m + 1 := by simp; omega
  have hDl : ((Dx.take m)).length = m := by simp; omega
  refine wp_seq ?_
  refine gl (sts := [none, none]) (news := []) (sp := [.val 6 _]) [.g 0, .g 1, .g 2, .o 0] hst (oc (ob_v rfl rfl (r_assign has_bo)) o0) (fun a w hst => ?_)
  have hst : St B w0 62 [(0, _), (1, _), (2, _), (6, _)] [⟨0, 91, winH o (m + 1) c0, _⟩, ⟨1, 91, slH m c1, _⟩] a w := hst
  refine thn_normal ?_
  refine wp_seq ?_
  refine gl (sts := [none, none]) (news := []) (sp := [.val 7 _]) [.g 0, .g 1, .g 2, .g 3, .o 0] hst (oc (ob_v rfl rfl (r_assign (has_nat 0 rfl))) o0) (fun a w hst => ?_)
  have hst : St B w0 62 [(0, _), (1, _), (2, _), (6, _), (7, _)] [⟨0, 91, winH o (m + 1) c0, _⟩, ⟨1, 91, slH m c1, _⟩] a w := hst
  refine thn_normal ?_
  refine wp_seq ?_
  refine wp_seq ?_
  refine gl (sts := [none, none]) (news := []) (sp := [.val 12 _, .val 13 _, .val 14 _]) [.g 0, .g 1, .g 2, .g 3, .g 4, .o 0, .o 1, .o 2] hst (oc (ob_v rfl rfl (r_move (gq 1 rfl))) (oc (ob_v rfl rfl (r_lenE Try.underlying31 (vq 0 rfl))) (oc (ob_v rfl rfl (r_move has_num)) o0))) (fun a w hst => ?_)
  have hst : St B w0 62 [(0, _), (1, _), (2, _), (6, _), (7, _), (12, _), (13, _), (14, _)] [⟨0, 91, winH o (m + 1) c0, _⟩, ⟨1, 91, slH m c1, _⟩] a w := hst
  refine thn_normal ?_
  refine wp_block ?_
  have hst := St.sel hst [0, 1, 2, 4, 5, 6, 7]
  refine wp_loop_ghost (fun n a w => ∃ k : Nat, n + k = m ∧ St B w0 62 [(0, EqV ((winH o (m + 1) c0).f g0)), (1, EqV ((slH m c1).f g1)), (2, (NumA .u64 (q : Nat)).va), (7, (NumA .u64 (lsB ((L.drop o).take (m + 1)) (Dx.take m) q k : Nat)).va), (12, EqV ((slH m c1).f g1)), (13, In (m : Nat)), (14, In (k : Nat))] [⟨0, 91, winH o (m + 1) c0, Nums .u32 (spl L o (lsO ((L.drop o).take (m + 1)) (Dx.take m) q k))⟩, ⟨1, 91, slH m c1, Nums .u32 Dx⟩] a w) (m) ?_ ?_
  · exact ⟨0, by omega, by rw [show lsO ((L.drop o).take (m + 1)) (Dx.take m) q 0 = [] from rfl, spl_nil]; exact hst⟩
  intro n a w hI
  obtain ⟨k, hn, hst⟩ := hI
  refine wp_seq ?_
  refine gl (sts := [none, none]) (news := []) (sp := [.val 15 _]) [.g 0, .g 1, .g 2, .g 3, .g 4, .g 5, .g 6, .o 0] hst (oc (ob_v rfl rfl (r_lss (gq 6 rfl) (gq 5 rfl))) o0) (fun a w hst => ?_)
  have hst : St B w0 62 [(0, _), (1, _), (2, _), (7, _), (12, _), (13, _), (14, _), (15, _)] [⟨0, 91, winH o (m + 1) c0, _⟩, ⟨1, 91, slH m c1, _⟩] a w := hst
  refine thn_normal ?_
  refine wp_seq ?_
  refine cond_of hst (List.mem_of_getElem? (i := 7) rfl) (fun hb0 => ?_) (fun hb0 => ?_)
  · have hk : k < m := by simp at hb0; omega
    have hdk := gD_lt hD k
    have hwk := gD_lt hW k
    have hbk := lsB_le (W := ((L.drop o).take (m + 1))) (q := q) hD k
    have hdx : Dx[0 + k]? = some (((Dx.take m)).getD k 0) := by rw [take_getD hk, Nat.zero_add]; exact getD_some (by omega)
    have hwx : (spl L o (lsO ((L.drop o).take (m + 1)) (Dx.take m) q k))[o + k]? = some ((((L.drop o).take (m + 1))).getD k 0) := by rw [win_getD (by omega), spl_get (by rw [lsO_len]; omega) (by omega)]
    have hpk : q * ((Dx.take m)).getD k 0 ≤ q * 4294967295 := Nat.mul_le_mul_left _ (by omega)
    refine wp_skip ?_
    refine thn_normal ?_
    refine wp_seq ?_
    refine wp_block ?_
    refine wp_seq ?_
    refine gl (sts := [none, none]) (news := []) (sp := [.val 16 _, .val 17 _, .val 18 _, .val 8 _, .val 9 _]) [.g 0, .g 1, .g 2, .g 3, .g 4, .g 5, .g 6, .o 3, .o 4] hst (oc (ob_v rfl rfl (r_move (gq 6 rfl))) (oc (ob_v rfl rfl (r_idxE sl_31 (gq 4 rfl) (gq 6 rfl) (by omega))) (oc (ob_v rfl rfl (r_loadE (vq 1 rfl) (lz0 1 rfl) (gq 1 rfl) (nums_at' hdx) ty_91)) (oc (ob_v rfl rfl (r_assign (vq 0 rfl))) (oc (ob_v rfl rfl (r_assign (vq 2 rfl))) o0))))) (fun a w hst => ?_)
    have hst : St B w0 62 [(0, _), (1, _), (2, _), (7, _), (12, _), (13, _), (14, _), (8, _), (9, _)] [⟨0, 91, winH o (m + 1) c0, _⟩, ⟨1, 91, slH m c1, _⟩] a w := hst
    refine thn_normal ?_
    refine wp_seq ?_
    refine gl (sts := [none, none]) (news := []) (sp := [.val 19 _, .val 20 _, .val 21 _, .val 22 _, .val 23 _, .val 24 _, .val 7 _]) [.g 0, .g 1, .g 2, .g 4, .g 5, .g 6, .g 7, .o 6] hst (oc (ob_v rfl rfl (r_move (gq 3 rfl))) (oc (ob_v rfl rfl (r_move (gq 2 rfl))) (oc (ob_v rfl rfl (r_move (gq 8 rfl))) (oc (ob_v rfl rfl (r_convk .u64 (by kernel_rfl) (by kernel_rfl) (vq 2 rfl) (wu64 (by omega)))) (oc (ob_v rfl rfl (r_mul (vq 1 rfl) (vq 3 rfl) (wmul64 (by omega)))) (oc (ob_v rfl rfl (r_add (vq 0 rfl) (vq 4 rfl) (wadd64 (by omega)))) (oc (ob_v rfl rfl (r_assign (vq 5 rfl))) o0))))))) (fun a w hst => ?_)
    have hst : St B w0 62 [(0, _), (1, _), (2, _), (12, _), (13, _), (14, _), (8, _), (7, _)] [⟨0, 91, winH o (m + 1) c0, _⟩, ⟨1, 91, slH m c1, _⟩] a w := hst
    refine thn_normal ?_
    refine wp_seq ?_
    refine gl (sts := [none, none]) (news := []) (sp := [.val 25 _, .val 26 _, .val 27 _, .val 28 _, .val 29 _, .val 30 _, .val 31 _, .val 32 _, .val 33 _, .val 10 _]) [.g 0, .g 1, .g 2, .g 3, .g 4, .g 5, .g 6, .g 7, .o 9] hst (oc (ob_v rfl rfl (r_move (gq 0 rfl))) (oc (ob_v rfl rfl (r_move (gq 6 rfl))) (oc (ob_v rfl rfl (r_idxE sl_31 (vq 0 rfl) (vq 1 rfl) (by omega))) (oc (ob_v rfl rfl (r_loadE (vq 2 rfl) (lz0 0 rfl) (gq 0 rfl) (nums_at' hwx) ty_91)) (oc (ob_v rfl rfl (r_convk .u64 (by kernel_rfl) (by kernel_rfl) (vq 3 rfl) (wu64 (by omega)))) (oc (ob_v rfl rfl (r_move (gq 7 rfl))) (oc (ob_v rfl rfl (r_convk .u32 (by kernel_rfl) (by kernel_rfl) (vq 5 rfl) (wlow))) (oc (ob_v rfl rfl (r_convk .u64 (by kernel_rfl) (by kernel_rfl) (vq 6 rfl) (wu64 (by omega)))) (oc (ob_v rfl rfl (r_sub (vq 4 rfl) (vq 7 rfl) (wsub64 (by omega) (by omega)))) (oc (ob_v rfl rfl (r_assign (vq 8 rfl))) o0)))))))))) (fun a w hst => ?_)
    have hst : St B w0 62 [(0, _), (1, _), (2, _), (12, _), (13, _), (14, _), (8, _), (7, _), (10, _)] [⟨0, 91, winH o (m + 1) c0, _⟩, ⟨1, 91, slH m c1, _⟩] a w := hst
    refine thn_normal ?_
    refine wp_seq ?_
    refine gl (sts := [some (5, _), none]) (news := []) (sp := [.val 34 _, .val 35 _, .val 36 _, .val 37 _, .val 38 _, .sto 0]) [.g 0, .g 1, .g 2, .g 3, .g 4, .g 5, .g 7, .g 8] hst (oc (ob_v rfl rfl (r_move (gq 0 rfl))) (oc (ob_v rfl rfl (r_move (gq 6 rfl))) (oc (ob_v rfl rfl (r_move (gq 8 rfl))) (oc (ob_v rfl rfl (r_convk .u32 (by kernel_rfl) (by kernel_rfl) (vq 2 rfl) (wsubl hwk (by omega)))) (oc (ob_v rfl rfl (r_idxE sl_31 (vq 0 rfl) (vq 1 rfl) (by omega))) (oc (ob_stoE rfl rfl rfl (vq 4 rfl) (gq 0 rfl) (vq 3 rfl) ty_91 (nums_put (by rw [spl_len (by rw [lsO_len]; omega)]; omega))) o0)))))) (fun a w hst => ?_)
    have hst : St B w0 62 [(0, _), (1, _), (2, _), (12, _), (13, _), (14, _), (7, _), (10, _)] [⟨0, 91, winH o (m + 1) c0, _⟩, ⟨1, 91, slH m c1, _⟩] a w := hst
    refine thn_normal ?_
    refine gl (sts := [none, none]) (news := []) (sp := [.val 39 _, .val 40 _, .val 41 _, .val 42 _, .val 43 _, .val 7 _]) [.g 0, .g 1, .g 2, .g 3, .g 4, .g 5, .o 5] hst (oc (ob_v rfl rfl (r_move (gq 6 rfl))) (oc (ob_v rfl rfl (r_shr (vq 0 rfl) (has_nat 32 rfl) (by decide) (nshr))) (oc (ob_v rfl rfl (r_move (gq 7 rfl))) (oc (ob_v rfl rfl (r_shr (vq 2 rfl) (has_nat 63 rfl) (by decide) (wsubs hwk (by omega)))) (oc (ob_v rfl rfl (r_add (vq 1 rfl) (vq 3 rfl) (wadd64 (by split <;> omega)))) (oc (ob_v rfl rfl (r_assign (vq 4 rfl))) o0)))))) (fun a w hst => ?_)
    have hst : St B w0 62 [(0, _), (1, _), (2, _), (12, _), (13, _), (14, _), (7, _)] [⟨0, 91, winH o (m + 1) c0, _⟩, ⟨1, 91, slH m c1, _⟩] a w := hst
    refine blk_normal ?_
    refine thn_normal ?_
    refine gl (sts := [none, none]) (news := []) (sp := [.val 44 _, .val 14 _]) [.g 0, .g 1, .g 2, .g 3, .g 4, .g 6, .o 1] hst (oc (ob_v rfl rfl (r_add (gq 5 rfl) has_num (wi_succ (by omega)))) (oc (ob_v rfl rfl (r_move (vq 0 rfl))) o0)) (fun a w hst => ?_)
    have hst : St B w0 62 [(0, _), (1, _), (2, _), (12, _), (13, _), (7, _), (14, _)] [⟨0, 91, winH o (m + 1) c0, _⟩, ⟨1, 91, slH m c1, _⟩] a w := hst
    refine thn_normal ?_
    have hst := St.sel hst [0, 1, 2, 5, 3, 4, 6]
    rw [spl_set (lsO_len _ _ _ _) (by omega)] at hst
    exact ⟨n - 1, by omega, k + 1, by omega, hst⟩
  · obtain rfl : m = k := by simp at hb0; omega
    have hbk := lsB_le (W := ((L.drop o).take (m + 1))) (q := q) hD m
    have hwk := gD_lt hW m
    have hwx : (spl L o (lsO ((L.drop o).take (m + 1)) (Dx.take m) q m))[o + m]? = some ((((L.drop o).take (m + 1))).getD m 0) := by rw [win_getD (by omega), spl_get (by rw [lsO_len]; omega) (by omega)]
    refine wp_exit ?_
    refine thn_exit ?_
    refine thn_exit ?_
    refine blk_exit ?_
    refine thn_normal ?_
    refine wp_seq ?_
    refine gl (sts := [none, none]) (news := []) (sp := [.val 45 _, .val 46 _, .val 47 _, .val 48 _, .val 49 _, .val 50 _, .val 51 _, .val 52 _, .val 11 _]) [.g 0, .g 1, .o 8] hst (oc (ob_v rfl rfl (r_move (gq 0 rfl))) (oc (ob_v rfl rfl (r_move (gq 1 rfl))) (oc (ob_v rfl rfl (r_lenE Try.underlying31 (vq 1 rfl))) (oc (ob_v rfl rfl (r_idxE sl_31 (vq 0 rfl) (vq 2 rfl) (by omega))) (oc (ob_v rfl rfl (r_loadE (vq 3 rfl) (lz0 0 rfl) (gq 0 rfl) (nums_at' hwx) ty_91)) (oc (ob_v rfl rfl (r_convk .u64 (by kernel_rfl) (by kernel_rfl) (vq 4 rfl) (wu64 (by omega)))) (oc (ob_v rfl rfl (r_move (gq 3 rfl))) (oc (ob_v rfl rfl (r_sub (vq 5 rfl) (vq 6 rfl) (wsub64 (by omega) (by omega)))) (oc (ob_v rfl rfl (r_assign (vq 7 rfl))) o0))))))))) (fun a w hst => ?_)
    have hst : St B w0 62 [(0, _), (1, _), (11, _)] [⟨0, 91, winH o (m + 1) c0, _⟩, ⟨1, 91, slH m c1, _⟩] a w := hst
    refine thn_normal ?_
    refine wp_seq ?_
    refine gl (sts := [some (6, _), none]) (news := []) (sp := [.val 53 _, .val 54 _, .val 55 _, .val 56 _, .val 57 _, .val 58 _, .sto 0]) [.g 0, .g 1, .g 2] hst (oc (ob_v rfl rfl (r_move (gq 0 rfl))) (oc (ob_v rfl rfl (r_move (gq 1 rfl))) (oc (ob_v rfl rfl (r_lenE Try.underlying31 (vq 1 rfl))) (oc (ob_v rfl rfl (r_move (gq 2 rfl))) (oc (ob_v rfl rfl (r_convk .u32 (by kernel_rfl) (by kernel_rfl) (vq 3 rfl) (wsubl hwk (by omega)))) (oc (ob_v rfl rfl (r_idxE sl_31 (vq 0 rfl) (vq 2 rfl) (by omega))) (oc (ob_stoE rfl rfl rfl (vq 5 rfl) (gq 0 rfl) (vq 4 rfl) ty_91 (nums_put (by rw [spl_len (by rw [lsO_len]; omega)]; omega))) o0))))))) (fun a w hst => ?_)
    have hst : St B w0 62 [(0, _), (1, _), (11, _)] [⟨0, 91, winH o (m + 1) c0, _⟩, ⟨1, 91, slH m c1, _⟩] a w := hst
    refine thn_normal ?_
    refine wp_seq ?_
    refine gl (sts := [none, none]) (news := []) (sp := [.val 59 _, .val 60 _, .val 61 _, .val 6 _]) [.g 0, .g 1, .o 3] hst (oc (ob_v rfl rfl (r_move (gq 2 rfl))) (oc (ob_v rfl rfl (r_shr (vq 0 rfl) (has_nat 63 rfl) (by decide) (wsubs hwk (by omega)))) (oc (ob_v rfl rfl (r_eql (vq 1 rfl) (has_nat 1 rfl))) (oc (ob_v rfl rfl (r_assign (vq 2 rfl))) o0)))) (fun a w hst => ?_)
    have hst : St B w0 62 [(0, _), (1, _), (6, _)] [⟨0, 91, winH o (m + 1) c0, _⟩, ⟨1, 91, slH m c1, _⟩] a w := hst
    refine thn_normal ?_
    refine wp_ret ?_
    rw [spl_set (lsO_len _ _ _ _) (by omega), (ls_end hW hD hDl hWl hq).2] at hst
    refine ret_m2 hst (List.mem_of_getElem? (i := 0) rfl) (List.mem_of_getElem? (i := 1) rfl) (List.mem_of_getElem? (i := 0) rfl) (List.mem_of_getElem? (i := 1) rfl) ?_
    refine ret_cast ?_ (ret_tmp rfl hst (List.mem_of_getElem? (i := 2) rfl))
    rw [sgn1, (ls_end hW hD hDl hWl hq).1]

end Go.Proofs.Ytljkepdpoelpkaa
