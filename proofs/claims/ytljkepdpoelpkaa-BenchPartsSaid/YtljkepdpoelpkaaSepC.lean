/- Package ratio: fractions in rows of their own. -/
import Derived.Test.YtljkepdpoelpkaaSepB
namespace Go.Proofs.Ytljkepdpoelpkaa
open Go Go.RowKit
namespace SepC
theorem fld_35_0 : Fld Try.prog 35 0 0 2 := ⟨_, _, Try.underlying35, rfl, rfl, by kernel_rfl, by decide⟩
theorem fld_35_1 : Fld Try.prog 35 1 2 2 := ⟨_, _, Try.underlying35, rfl, rfl, by kernel_rfl, by decide⟩
theorem ty_33 : Ty Try.prog 33 2 true := ⟨by kernel_rfl, by kernel_rfl⟩
theorem ty_35 : Ty Try.prog 35 4 true := ⟨by kernel_rfl, by kernel_rfl⟩
end SepC
open SepC
set_option linter.unusedVariables false
set_option linter.unusedSimpArgs false
theorem qd_pins {u v : Value} {c d k : Nat} {q : Rat} (hc : c ≤ k) (hd : d ≤ k) : WkA (cat [PinA u ((ZN c q.num).and (SepAll [] u)), PinA v ((ZN d (q.den : Int)).and (SepAll [u] v))]) (QD k q) :=
  (dis_pins (l := [(u, ZN c q.num), (v, ZN d (q.den : Int))]) (fun x hx => by
    simp at hx
    rcases hx with rfl | rfl <;> exact nod_zn)).trans (dis_mono (cat_wk (.cons (zn_mono hc) (.cons (zn_mono hd) .nil))))
theorem qd_of {k c : Nat} {q : Rat} (h1 : lz q.num ≤ c) (h2 : lz (q.den : Int) ≤ c) : WkA (QD k q) (QD c q) := dis_mono (cat_wk (.cons ⟨rfl, rfl, fun _ _ _ hp => ⟨h1, hp.2⟩⟩ (.cons ⟨rfl, rfl, fun _ _ _ hp => ⟨h2, hp.2⟩⟩ .nil)))

set_option maxRecDepth 100000 in
theorem lowestD_c {u0 v0 : Value} {c d : Nat} {p q : Int} (hc : c ≤ 549755813888) (hd : d ≤ 549755813888) (hq : q ≠ 0) : Cn Try.prog 47 [(PinA u0 ((ZN c p).and (SepAll [] u0))).va, (PinA v0 ((ZN d q).and (SepAll [u0] v0))).va] ((QD (max c d) (Rat.divInt p q)).va) := by
  have hg0 : 0 < Int.gcd p q := Int.gcd_pos_of_ne_zero_right p hq
  obtain ⟨hn1, hn2⟩ := low_num (p := p) hq
  refine Cn.intro Try.func47 rfl (by kernel_rfl) nq (fun B w0 a hst => ?_)
  have hst : St B w0 35 [(0, (PinA u0 ((ZN c p).and (SepAll [] u0))).va), (1, (PinA v0 ((ZN d q).and (SepAll [u0] v0))).va)] [] a w0.w := hst
  refine wp_seq ?_
  refine gl (sts := []) (news := [⟨2, 33, ptrH, some 0, _, none⟩, ⟨3, 33, ptrH, some 1, _, none⟩, ⟨4, 35, ptrH, some 2, _, none⟩]) (sp := [.alc 0, .alc 1, .alc 2]) [] hst (oc (ob_box rfl rfl rfl (gq 0 rfl)) (oc (ob_box rfl rfl rfl (gq 1 rfl)) (oc (ob_alc rfl rfl rfl (Str.zero str_frac)) o0))) (fun a w hst => ?_)
  have hst : St B w0 35 [] [⟨2, 33, ptrH, _⟩, ⟨3, 33, ptrH, _⟩, ⟨4, 35, ptrH, _⟩] a w := hst
  refine thn_normal ?_
  refine wp_seq ?_
  refine wp_seq ?_
  refine gl (sts := [none, none, none]) (news := [⟨5, 33, ptrH, some 3, _, some (4, _)⟩]) (sp := [.val 6 _, .val 7 _, .val 8 _, .alc 3, .sto 3]) [] hst (oc (ob_v rfl rfl (r_load (lz0 0 rfl) ty_33)) (oc (ob_v rfl rfl (r_load (lz0 1 rfl) ty_33)) (oc (ob_v rfl rfl (r_call (xs := [.tmp 6, .tmp 7]) (common_z (by omega) (by omega)) (.cons (has_wk' (vq 0 rfl) pz_za.va) (.cons (has_wk' (vq 1 rfl) pz_za.va) .nil)))) (oc (ob_alc rfl rfl rfl (Str.zero str_int)) (oc (ob_sto rfl rfl rfl (vq 2 rfl) ty_33 (Eq.trans (b := 2) rfl rfl)) o0))))) (fun a w hst => ?_)
  have hst : St B w0 35 [] [⟨2, 33, ptrH, _⟩, ⟨3, 33, ptrH, _⟩, ⟨4, 35, ptrH, _⟩, ⟨5, 33, ptrH, _⟩] a w := hst
  refine thn_normal ?_
  refine wp_seq ?_
  refine go_draw (anc := [[], [], [0, 1], [0, 1, 2]]) (sts := [none, none, none, none]) (news := []) (sp := [.val 9 _, .val 10 _, .val 11 _, .val 12 _]) [.o 3] follows_mixed hst (oc (ob_v rfl rfl (r_load (lz0 3 rfl) ty_33)) (oc (ob_v rfl rfl (r_call (xs := [.const (.int .i64 (1))]) (of_z (by decide) (by decide)) (.cons has_num .nil))) (oc (ob_v rfl rfl (r_call (xs := [.tmp 9, .tmp 10]) (cmp_z (by omega) (by omega)) (.cons (vq 0 rfl) (.cons (vq 1 rfl) .nil)))) (oc (ob_v rfl rfl (r_neq (vq 2 rfl) has_num)) o0)))) (by kernel_rfl) (by kernel_rfl) (by kernel_rfl) (by kernel_rfl) (fun a w hst => ?_)
  have hst : St B w0 35 [(12, _)] [⟨2, 33, ptrH, _⟩, ⟨3, 33, ptrH, _⟩, ⟨4, 35, ptrH, _⟩, ⟨5, 33, ptrH, _⟩] a w := hst
  refine thn_normal ?_
  refine cond_join (fun a w => ∃ u v : Value, St B w0 35 [] [⟨2, 33, ptrH, PinA u ((ZN c (p.tdiv ((Int.gcd p q : Nat) : Int))).and (SepAll [] u))⟩, ⟨3, 33, ptrH, PinA v ((ZN d (q.tdiv ((Int.gcd p q : Nat) : Int))).and (SepAll [u] v))⟩, ⟨4, 35, ptrH, RFA ⟨⟨false, []⟩, ⟨false, []⟩⟩⟩, ⟨5, 33, ptrH, ZA (max c d) ((Int.gcd p q : Nat) : Int)⟩] a w) hst (List.mem_of_getElem? (i := 0) rfl) (fun hb0 => ?_) (fun hb0 => ?_) (fun a w hst => ?_)
  · refine wp_seq ?_
    refine go_linV (sts := [some (6, fun ν => _), none, none, none]) (news := []) (sp := [(fun ν => .val 14 _), (fun ν => .val 15 _), (fun ν => .val 16 (PinT (ν 2) [ZN c (p.tdiv ((Int.gcd p q : Nat) : Int)), ZN (max c d) (p.tmod ((Int.gcd p q : Nat) : Int))] [v0])), (fun ν => .val 13 _), (fun ν => .val 17 (PinA (ν 4) ((ZN c (p.tdiv ((Int.gcd p q : Nat) : Int))).and (SepAll [v0] (ν 4)))).va), (fun ν => .val 18 (PinA (ν 5) ((ZN (max c d) (p.tmod ((Int.gcd p q : Nat) : Int))).and (SepAll [v0] (ν 5)))).va), (fun ν => .sto 0)]) [] hst ⟨of_u fun ν => ob_v rfl rfl (r_load (lz0 0 rfl) ty_33), ⟨of_u fun ν => ob_v rfl rfl (r_load (lz0 3 rfl) ty_33), ⟨of_callT (us := fun ν => [v0]) (xs := [.tmp 14, .tmp 15]) rfl rfl (divide_zn (by omega) (by omega)) nf_zn (.cons upA_za.va (.cons upA_za.va .nil)) (fun ν => (.cons (has_wk' (vq 0 rfl) pz_za.va) (.cons (vq 1 rfl) .nil))) (fun _ _ => rfl) (fun ν => (live_loc (new_and new_zn) (lz0 1 rfl) live_nil)), ⟨of_u fun ν => ob_v rfl rfl (r_move (vq 2 rfl)), ⟨of_ext (us := fun ν => [v0]) rfl rfl (fun ν => (vq 3 rfl)) rfl (fun _ _ => rfl), ⟨of_ext (us := fun ν => [v0]) rfl rfl (fun ν => (vq 3 rfl)) rfl (fun _ _ => rfl), ⟨of_u fun ν => ob_sto rfl rfl rfl (vq 4 rfl) ty_33 (Eq.trans (b := 2) rfl rfl), trivial⟩⟩⟩⟩⟩⟩⟩ ⟨(fun ν ν' h => rfl), ⟨(fun ν ν' h => rfl), ⟨(fun ν ν' h => by first | rfl | simp only [h 2 rfl]), ⟨(fun ν ν' h => by first | rfl | simp only [h 2 rfl]), ⟨(fun ν ν' h => by first | rfl | simp only [h 2 rfl, h 4 rfl]), ⟨(fun ν ν' h => by first | rfl | simp only [h 2 rfl, h 4 rfl, h 5 rfl]), ⟨(fun ν ν' h => by first | rfl | simp only [h 2 rfl, h 4 rfl, h 5 rfl]), trivial⟩⟩⟩⟩⟩⟩⟩ ⟨(fun ν ν' h => by first | rfl | simp only [h 2 rfl, h 4 rfl, h 5 rfl]), ⟨trivial, ⟨trivial, ⟨trivial, trivial⟩⟩⟩⟩ (by kernel_rfl) (fun ν => by kernel_rfl) (fun ν => by kernel_rfl) (fun ν3 a w hst => ?_)
    have hst : St B w0 35 [] [⟨2, 33, ptrH, _⟩, ⟨3, 33, ptrH, _⟩, ⟨4, 35, ptrH, _⟩, ⟨5, 33, ptrH, _⟩] a w := hst
    refine thn_normal ?_
    refine go_linV (sts := [none, some (6, fun ν => _), none, none]) (news := []) (sp := [(fun ν => .val 20 _), (fun ν => .val 21 _), (fun ν => .val 22 (PinT (ν 2) [ZN d (q.tdiv ((Int.gcd p q : Nat) : Int)), ZN (max c d) (q.tmod ((Int.gcd p q : Nat) : Int))] [(ν3 4)])), (fun ν => .val 19 _), (fun ν => .val 23 (PinA (ν 4) ((ZN d (q.tdiv ((Int.gcd p q : Nat) : Int))).and (SepAll [(ν3 4)] (ν 4)))).va), (fun ν => .val 24 (PinA (ν 5) ((ZN (max c d) (q.tmod ((Int.gcd p q : Nat) : Int))).and (SepAll [(ν3 4)] (ν 5)))).va), (fun ν => .sto 1)]) [] hst ⟨of_u fun ν => ob_v rfl rfl (r_load (lz0 1 rfl) ty_33), ⟨of_u fun ν => ob_v rfl rfl (r_load (lz0 3 rfl) ty_33), ⟨of_callT (us := fun ν => [(ν3 4)]) (xs := [.tmp 20, .tmp 21]) rfl rfl (divide_zn (by omega) (by omega)) nf_zn (.cons upA_za.va (.cons upA_za.va .nil)) (fun ν => (.cons (has_wk' (vq 0 rfl) pz_za.va) (.cons (vq 1 rfl) .nil))) (fun _ _ => rfl) (fun ν => (live_loc (new_and new_zn) (lz0 0 rfl) live_nil)), ⟨of_u fun ν => ob_v rfl rfl (r_move (vq 2 rfl)), ⟨of_ext (us := fun ν => [(ν3 4)]) rfl rfl (fun ν => (vq 3 rfl)) rfl (fun _ _ => rfl), ⟨of_ext (us := fun ν => [(ν3 4)]) rfl rfl (fun ν => (vq 3 rfl)) rfl (fun _ _ => rfl), ⟨of_u fun ν => ob_sto rfl rfl rfl (vq 4 rfl) ty_33 (Eq.trans (b := 2) rfl rfl), trivial⟩⟩⟩⟩⟩⟩⟩ ⟨(fun ν ν' h => rfl), ⟨(fun ν ν' h => rfl), ⟨(fun ν ν' h => by first | rfl | simp only [h 2 rfl]), ⟨(fun ν ν' h => by first | rfl | simp only [h 2 rfl]), ⟨(fun ν ν' h => by first | rfl | simp only [h 2 rfl, h 4 rfl]), ⟨(fun ν ν' h => by first | rfl | simp only [h 2 rfl, h 4 rfl, h 5 rfl]), ⟨(fun ν ν' h => by first | rfl | simp only [h 2 rfl, h 4 rfl, h 5 rfl]), trivial⟩⟩⟩⟩⟩⟩⟩ ⟨trivial, ⟨(fun ν ν' h => by first | rfl | simp only [h 2 rfl, h 4 rfl, h 5 rfl]), ⟨trivial, ⟨trivial, trivial⟩⟩⟩⟩ (by kernel_rfl) (fun ν => by kernel_rfl) (fun ν => by kernel_rfl) (fun ν4 a w hst => ?_)
    have hst : St B w0 35 [] [⟨2, 33, ptrH, _⟩, ⟨3, 33, ptrH, _⟩, ⟨4, 35, ptrH, _⟩, ⟨5, 33, ptrH, _⟩] a w := hst
    refine thn_normal ?_
    have hst := St.sel hst []
    have hst := St.wkL (A' := PinA (ν3 4) ((ZN c (p.tdiv ((Int.gcd p q : Nat) : Int))).and (SepAll [] (ν3 4)))) hst 0 rfl (pin_mono and_triv)
    exact ⟨ν3 4, ν4 4, hst⟩
  · refine wp_skip ?_
    refine thn_normal ?_
    have hst := St.sel hst []
    have hst := St.cvA (A' := PinA u0 ((ZN c (p.tdiv ((Int.gcd p q : Nat) : Int))).and (SepAll [] u0))) hst 0 rfl (congrArg (fun z => PinA u0 ((ZN c z).and (SepAll [] u0))) (tdiv_g hb0))
    have hst := St.cvA (A' := PinA v0 ((ZN d (q.tdiv ((Int.gcd p q : Nat) : Int))).and (SepAll [u0] v0))) hst 1 rfl (congrArg (fun z => PinA v0 ((ZN d z).and (SepAll [u0] v0))) (tdiv_g hb0))
    exact ⟨u0, v0, hst⟩
  obtain ⟨u1, v1, hst⟩ := hst
  refine thn_normal ?_
  refine wp_seq ?_
  refine wp_seq ?_
  refine gl (sts := [none, none, none, none]) (news := []) (sp := [.val 25 _, .val 26 _, .val 27 _]) [.o 2] hst (oc (ob_v rfl rfl (r_load (lz0 1 rfl) ty_33)) (oc (ob_v rfl rfl (r_call (xs := [.tmp 25]) sign_z (.cons (has_wk' (vq 0 rfl) pz_za.va) .nil))) (oc (ob_v rfl rfl (r_lss (vq 1 rfl) has_num)) o0))) (fun a w hst => ?_)
  have hst : St B w0 35 [(27, _)] [⟨2, 33, ptrH, _⟩, ⟨3, 33, ptrH, _⟩, ⟨4, 35, ptrH, _⟩, ⟨5, 33, ptrH, _⟩] a w := hst
  refine thn_normal ?_
  refine cond_join (fun a w => ∃ u v : Value, St B w0 35 [] [⟨2, 33, ptrH, PinA u ((ZN c (Rat.divInt p q).num).and (SepAll [] u))⟩, ⟨3, 33, ptrH, PinA v ((ZN d ((Rat.divInt p q).den : Int)).and (SepAll [u] v))⟩, ⟨4, 35, ptrH, RFA ⟨⟨false, []⟩, ⟨false, []⟩⟩⟩, ⟨5, 33, ptrH, ZA (max c d) ((Int.gcd p q : Nat) : Int)⟩] a w) hst (List.mem_of_getElem? (i := 0) rfl) (fun hb1 => ?_) (fun hb1 => ?_) (fun a w hst => ?_)
  · refine go_drawV' [[], [0], [], [0, 1, 2], [0, 1, 2, 3], [0, 1, 2, 3, 4]] (sts := [some (4, fun ν => _), some (5, fun ν => _), none, none]) (news := []) (sp := [(fun ν => .val 28 _), (fun ν => .val 29 (PinA (ν 1) ((ZN c (-(p.tdiv ((Int.gcd p q : Nat) : Int)))).and (SepAll [] (ν 1)))).va), (fun ν => .val 30 _), (fun ν => .val 31 (PinA (ν 3) ((ZN d (-(q.tdiv ((Int.gcd p q : Nat) : Int)))).and (SepAll [ν 1] (ν 3)))).va), (fun ν => .sto 0), (fun ν => .sto 1)]) [] follows_mixed hst ⟨of_u fun ν => ob_v rfl rfl (r_load (lz0 0 rfl) ty_33), ⟨of_call (us := fun ν => []) (xs := [.tmp 28]) rfl rfl (turned_zn (by omega)) new_zn free_zn (.cons upA_za.va .nil) (fun ν => (.cons (has_wk' (vq 0 rfl) pz_za.va) .nil)) (fun _ _ => rfl) (fun ν => live_nil), ⟨of_u fun ν => ob_v rfl rfl (r_load (lz0 1 rfl) ty_33), ⟨of_call (us := fun ν => [ν 1]) (xs := [.tmp 30]) rfl rfl (turned_zn (by omega)) new_zn free_zn (.cons upA_za.va .nil) (fun ν => (.cons (has_wk' (vq 2 rfl) pz_za.va) .nil)) (fun _ _ => rfl) (fun ν => (live_cons (new_and new_zn) (vq 1 rfl) live_nil)), ⟨of_u fun ν => ob_sto rfl rfl rfl (vq 1 rfl) ty_33 (Eq.trans (b := 2) rfl rfl), ⟨of_u fun ν => ob_sto rfl rfl rfl (vq 3 rfl) ty_33 (Eq.trans (b := 2) rfl rfl), trivial⟩⟩⟩⟩⟩⟩ ⟨(fun ν ν' h => rfl), ⟨(fun ν ν' h => by first | rfl | simp only [h 1 rfl]), ⟨(fun ν ν' h => rfl), ⟨(fun ν ν' h => by first | rfl | simp only [h 1 rfl, h 3 rfl]), ⟨(fun ν ν' h => by first | rfl | simp only [h 1 rfl, h 3 rfl]), ⟨(fun ν ν' h => by first | rfl | simp only [h 1 rfl, h 3 rfl]), trivial⟩⟩⟩⟩⟩⟩ ⟨(fun ν ν' h => by first | rfl | simp only [h 1 rfl, h 3 rfl]), ⟨(fun ν ν' h => by first | rfl | simp only [h 1 rfl, h 3 rfl]), ⟨trivial, ⟨trivial, trivial⟩⟩⟩⟩ (by kernel_rfl) (by kernel_rfl) (fun ν => by kernel_rfl) (fun ν => by kernel_rfl) (fun ν6 a w hst => ?_)
    have hst : St B w0 35 [] [⟨2, 33, ptrH, _⟩, ⟨3, 33, ptrH, _⟩, ⟨4, 35, ptrH, _⟩, ⟨5, 33, ptrH, _⟩] a w := hst
    refine thn_normal ?_
    have hst := St.sel hst []
    rw [if_pos (sgn_yes hb1)] at hn1 hn2; rw [hn1, hn2] at hst; exact ⟨ν6 1, ν6 3, hst⟩
  · refine wp_skip ?_
    refine thn_normal ?_
    have hst := St.sel hst []
    rw [if_neg (sgn_no hb1)] at hn1 hn2; rw [hn1, hn2] at hst; exact ⟨u1, v1, hst⟩
  obtain ⟨u2, v2, hst⟩ := hst
  refine thn_normal ?_
  refine wp_seq ?_
  refine gl (sts := [none, none, some (3, _), none]) (news := []) (sp := [.val 32 _, .val 33 _, .val 34 _, .sto 2]) [] hst (oc (ob_v rfl rfl (r_load (lz0 0 rfl) ty_33)) (oc (ob_v rfl rfl (r_load (lz0 1 rfl) ty_33)) (oc (ob_v rfl rfl (r_build (xs := [(0, .tmp 32), (1, .tmp 33)]) (qs := [(0, _), (1, _)]) str_frac (.cons ⟨rfl, (vq 0 rfl), rfl⟩ (.cons ⟨rfl, (vq 1 rfl), rfl⟩ .nil)))) (oc (ob_sto rfl rfl rfl (vq 2 rfl) ty_35 (Eq.trans (b := 4) rfl rfl)) o0)))) (fun a w hst => ?_)
  have hst : St B w0 35 [] [⟨2, 33, ptrH, _⟩, ⟨3, 33, ptrH, _⟩, ⟨4, 35, ptrH, _⟩, ⟨5, 33, ptrH, _⟩] a w := hst
  refine thn_normal ?_
  refine wp_ret ?_
  refine ret_wk ?_ (ret_cell rfl hst (List.mem_of_getElem? (i := 2) rfl) ty_35)
  exact (qd_pins (Nat.le_max_left _ _) (Nat.le_max_right _ _)).va

set_option maxRecDepth 100000 in
theorem plusD_q {c d : Nat} {x y : Rat} (hc : c + d ≤ 137438953472) : Cn Try.prog 46 [Qs c x, Qs d y] ((QD (c + d + 1) (x + y)).va) := by
  refine Cn.intro Try.func46 rfl (by kernel_rfl) nq (fun B w0 a hst => ?_)
  have hst : St B w0 22 [(0, Qs c x), (1, Qs d y)] [] a w0.w := hst
  refine wp_seq ?_
  refine gl (sts := []) (news := [⟨2, 35, ptrH, some 0, _, none⟩, ⟨3, 35, ptrH, some 1, _, none⟩, ⟨4, 35, ptrH, some 2, _, none⟩]) (sp := [.alc 0, .alc 1, .alc 2]) [] hst (oc (ob_box rfl rfl rfl (gq 0 rfl)) (oc (ob_box rfl rfl rfl (gq 1 rfl)) (oc (ob_alc rfl rfl rfl (Str.zero str_frac)) o0))) (fun a w hst => ?_)
  have hst : St B w0 22 [] [⟨2, 35, ptrH, _⟩, ⟨3, 35, ptrH, _⟩, ⟨4, 35, ptrH, _⟩] a w := hst
  refine thn_normal ?_
  refine wp_seq ?_
  refine go_drawV' [[], [0], [], [2], [0, 1, 2, 3], [], [5], [], [7], [0, 1, 2, 3, 4, 5, 6, 7, 8], [0, 1, 2, 3, 4, 5, 6, 7, 8, 9], [], [11], [], [13], [0, 1, 2, 3, 4, 5, 6, 7, 8, 9, 10, 11, 12, 13, 14], [0, 1, 2, 3, 4, 5, 6, 7, 8, 9, 10, 11, 12, 13, 14, 15], [0, 1, 2, 3, 4, 5, 6, 7, 8, 9, 10, 11, 12, 13, 14, 15, 16]] (sts := [none, none, some (17, fun ν => _)]) (news := []) (sp := [(fun ν => .adr 5 2 (.some 0) True), (fun ν => .val 6 _), (fun ν => .adr 7 3 (.some 2) True), (fun ν => .val 8 _), (fun ν => .val 9 _), (fun ν => .adr 10 3 (.some 0) True), (fun ν => .val 11 _), (fun ν => .adr 12 2 (.some 2) True), (fun ν => .val 13 _), (fun ν => .val 14 _), (fun ν => .val 15 (PinA (ν 10) ((ZN (max (c + d) (d + c) + 1) (x.num * (y.den : Int) + y.num * (x.den : Int))).and (SepAll [] (ν 10)))).va), (fun ν => .adr 16 2 (.some 2) True), (fun ν => .val 17 _), (fun ν => .adr 18 3 (.some 2) True), (fun ν => .val 19 _), (fun ν => .val 20 (PinA (ν 15) ((ZN (c + d) ((x.den : Int) * (y.den : Int))).and (SepAll [ν 10] (ν 15)))).va), (fun ν => .val 21 _), (fun ν => .sto 2)]) [] follows_mixed hst ⟨of_u fun ν => ob_a rfl rfl (a_fld (lz0 0 rfl) fld_35_0), ⟨of_u fun ν => ob_v rfl rfl (r_loadf 0 rfl (by kernel_rfl) trivial (lz0 0 rfl) (Sub.part 0 rfl rfl) ty_33), ⟨of_u fun ν => ob_a rfl rfl (a_fld (lz0 1 rfl) fld_35_1), ⟨of_u fun ν => ob_v rfl rfl (r_loadf 2 rfl (by kernel_rfl) trivial (lz0 1 rfl) (Sub.part 1 rfl rfl) ty_33), ⟨of_u fun ν => ob_v rfl rfl (r_call (xs := [.tmp 6, .tmp 8]) (times_z (by omega) (by omega)) (.cons (vq 1 rfl) (.cons (vq 3 rfl) .nil))), ⟨of_u fun ν => ob_a rfl rfl (a_fld (lz0 1 rfl) fld_35_0), ⟨of_u fun ν => ob_v rfl rfl (r_loadf 5 rfl (by kernel_rfl) trivial (lz0 1 rfl) (Sub.part 0 rfl rfl) ty_33), ⟨of_u fun ν => ob_a rfl rfl (a_fld (lz0 0 rfl) fld_35_1), ⟨of_u fun ν => ob_v rfl rfl (r_loadf 7 rfl (by kernel_rfl) trivial (lz0 0 rfl) (Sub.part 1 rfl rfl) ty_33), ⟨of_u fun ν => ob_v rfl rfl (r_call (xs := [.tmp 11, .tmp 13]) (times_z (by omega) (by omega)) (.cons (vq 6 rfl) (.cons (vq 8 rfl) .nil))), ⟨of_call (us := fun ν => []) (xs := [.tmp 9, .tmp 14]) rfl rfl (plus_zn (by omega) (by omega)) new_zn free_zn (.cons upA_za.va (.cons upA_za.va .nil)) (fun ν => (.cons (vq 4 rfl) (.cons (vq 9 rfl) .nil))) (fun _ _ => rfl) (fun ν => live_nil), ⟨of_u fun ν => ob_a rfl rfl (a_fld (lz0 0 rfl) fld_35_1), ⟨of_u fun ν => ob_v rfl rfl (r_loadf 11 rfl (by kernel_rfl) trivial (lz0 0 rfl) (Sub.part 1 rfl rfl) ty_33), ⟨of_u fun ν => ob_a rfl rfl (a_fld (lz0 1 rfl) fld_35_1), ⟨of_u fun ν => ob_v rfl rfl (r_loadf 13 rfl (by kernel_rfl) trivial (lz0 1 rfl) (Sub.part 1 rfl rfl) ty_33), ⟨of_call (us := fun ν => [ν 10]) (xs := [.tmp 17, .tmp 19]) rfl rfl (times_zn (by omega) (by omega)) new_zn free_zn (.cons upA_za.va (.cons upA_za.va .nil)) (fun ν => (.cons (vq 12 rfl) (.cons (vq 14 rfl) .nil))) (fun _ _ => rfl) (fun ν => (live_cons (new_and new_zn) (vq 10 rfl) live_nil)), ⟨of_u fun ν => ob_v rfl rfl (r_call (xs := [.tmp 15, .tmp 20]) (lowestD_c (by omega) (by omega) (den_nz x y)) (.cons (vq 10 rfl) (.cons (vq 15 rfl) .nil))), ⟨of_u fun ν => ob_sto rfl rfl rfl (vq 16 rfl) ty_35 (Eq.trans (b := 4) rfl rfl), trivial⟩⟩⟩⟩⟩⟩⟩⟩⟩⟩⟩⟩⟩⟩⟩⟩⟩⟩ ⟨(fun ν ν' h => rfl), ⟨(fun ν ν' h => rfl), ⟨(fun ν ν' h => rfl), ⟨(fun ν ν' h => rfl), ⟨(fun ν ν' h => rfl), ⟨(fun ν ν' h => rfl), ⟨(fun ν ν' h => rfl), ⟨(fun ν ν' h => rfl), ⟨(fun ν ν' h => rfl), ⟨(fun ν ν' h => rfl), ⟨(fun ν ν' h => by first | rfl | simp only [h 10 rfl]), ⟨(fun ν ν' h => rfl), ⟨(fun ν ν' h => rfl), ⟨(fun ν ν' h => rfl), ⟨(fun ν ν' h => rfl), ⟨(fun ν ν' h => by first | rfl | simp only [h 10 rfl, h 15 rfl]), ⟨(fun ν ν' h => by first | rfl | simp only [h 10 rfl, h 15 rfl]), ⟨(fun ν ν' h => by first | rfl | simp only [h 10 rfl, h 15 rfl]), trivial⟩⟩⟩⟩⟩⟩⟩⟩⟩⟩⟩⟩⟩⟩⟩⟩⟩⟩ ⟨trivial, ⟨trivial, ⟨(fun ν ν' h => by first | rfl | simp only [h 10 rfl, h 15 rfl]), trivial⟩⟩⟩ (by kernel_rfl) (by kernel_rfl) (fun ν => by kernel_rfl) (fun ν => by kernel_rfl) (fun ν1 a w hst => ?_)
  have hst : St B w0 22 [] [⟨2, 35, ptrH, _⟩, ⟨3, 35, ptrH, _⟩, ⟨4, 35, ptrH, _⟩] a w := hst
  refine thn_normal ?_
  refine wp_ret ?_
  refine ret_wk ?_ (ret_cell rfl hst (List.mem_of_getElem? (i := 2) rfl) ty_35)
  exact wk_trans (wk_eq (congrArg (fun z => (QD _ z).va) (rat_add x y))) (qd_mono (by omega)).va

set_option maxRecDepth 100000 in
theorem minusD_q {c d : Nat} {x y : Rat} (hc : c + d ≤ 137438953472) : Cn Try.prog 36 [Qs c x, Qs d y] ((QD (c + d + 1) (x - y)).va) := by
  refine Cn.intro Try.func36 rfl (by kernel_rfl) nq (fun B w0 a hst => ?_)
  have hst : St B w0 22 [(0, Qs c x), (1, Qs d y)] [] a w0.w := hst
  refine wp_seq ?_
  refine gl (sts := []) (news := [⟨2, 35, ptrH, some 0, _, none⟩, ⟨3, 35, ptrH, some 1, _, none⟩, ⟨4, 35, ptrH, some 2, _, none⟩]) (sp := [.alc 0, .alc 1, .alc 2]) [] hst (oc (ob_box rfl rfl rfl (gq 0 rfl)) (oc (ob_box rfl rfl rfl (gq 1 rfl)) (oc (ob_alc rfl rfl rfl (Str.zero str_frac)) o0))) (fun a w hst => ?_)
  have hst : St B w0 22 [] [⟨2, 35, ptrH, _⟩, ⟨3, 35, ptrH, _⟩, ⟨4, 35, ptrH, _⟩] a w := hst
  refine thn_normal ?_
  refine wp_seq ?_
  refine go_drawV' [[], [0], [], [2], [0, 1, 2, 3], [], [5], [], [7], [0, 1, 2, 3, 4, 5, 6, 7, 8], [0, 1, 2, 3, 4, 5, 6, 7, 8, 9], [], [11], [], [13], [0, 1, 2, 3, 4, 5, 6, 7, 8, 9, 10, 11, 12, 13, 14], [0, 1, 2, 3, 4, 5, 6, 7, 8, 9, 10, 11, 12, 13, 14, 15], [0, 1, 2, 3, 4, 5, 6, 7, 8, 9, 10, 11, 12, 13, 14, 15, 16]] (sts := [none, none, some (17, fun ν => _)]) (news := []) (sp := [(fun ν => .adr 5 2 (.some 0) True), (fun ν => .val 6 _), (fun ν => .adr 7 3 (.some 2) True), (fun ν => .val 8 _), (fun ν => .val 9 _), (fun ν => .adr 10 3 (.some 0) True), (fun ν => .val 11 _), (fun ν => .adr 12 2 (.some 2) True), (fun ν => .val 13 _), (fun ν => .val 14 _), (fun ν => .val 15 (PinA (ν 10) ((ZN (max (c + d) (d + c) + 1) (x.num * (y.den : Int) - y.num * (x.den : Int))).and (SepAll [] (ν 10)))).va), (fun ν => .adr 16 2 (.some 2) True), (fun ν => .val 17 _), (fun ν => .adr 18 3 (.some 2) True), (fun ν => .val 19 _), (fun ν => .val 20 (PinA (ν 15) ((ZN (c + d) ((x.den : Int) * (y.den : Int))).and (SepAll [ν 10] (ν 15)))).va), (fun ν => .val 21 _), (fun ν => .sto 2)]) [] follows_mixed hst ⟨of_u fun ν => ob_a rfl rfl (a_fld (lz0 0 rfl) fld_35_0), ⟨of_u fun ν => ob_v rfl rfl (r_loadf 0 rfl (by kernel_rfl) trivial (lz0 0 rfl) (Sub.part 0 rfl rfl) ty_33), ⟨of_u fun ν => ob_a rfl rfl (a_fld (lz0 1 rfl) fld_35_1), ⟨of_u fun ν => ob_v rfl rfl (r_loadf 2 rfl (by kernel_rfl) trivial (lz0 1 rfl) (Sub.part 1 rfl rfl) ty_33), ⟨of_u fun ν => ob_v rfl rfl (r_call (xs := [.tmp 6, .tmp 8]) (times_z (by omega) (by omega)) (.cons (vq 1 rfl) (.cons (vq 3 rfl) .nil))), ⟨of_u fun ν => ob_a rfl rfl (a_fld (lz0 1 rfl) fld_35_0), ⟨of_u fun ν => ob_v rfl rfl (r_loadf 5 rfl (by kernel_rfl) trivial (lz0 1 rfl) (Sub.part 0 rfl rfl) ty_33), ⟨of_u fun ν => ob_a rfl rfl (a_fld (lz0 0 rfl) fld_35_1), ⟨of_u fun ν => ob_v rfl rfl (r_loadf 7 rfl (by kernel_rfl) trivial (lz0 0 rfl) (Sub.part 1 rfl rfl) ty_33), ⟨of_u fun ν => ob_v rfl rfl (r_call (xs := [.tmp 11, .tmp 13]) (times_z (by omega) (by omega)) (.cons (vq 6 rfl) (.cons (vq 8 rfl) .nil))), ⟨of_call (us := fun ν => []) (xs := [.tmp 9, .tmp 14]) rfl rfl (minus_zn (by omega) (by omega)) new_zn free_zn (.cons upA_za.va (.cons upA_za.va .nil)) (fun ν => (.cons (vq 4 rfl) (.cons (vq 9 rfl) .nil))) (fun _ _ => rfl) (fun ν => live_nil), ⟨of_u fun ν => ob_a rfl rfl (a_fld (lz0 0 rfl) fld_35_1), ⟨of_u fun ν => ob_v rfl rfl (r_loadf 11 rfl (by kernel_rfl) trivial (lz0 0 rfl) (Sub.part 1 rfl rfl) ty_33), ⟨of_u fun ν => ob_a rfl rfl (a_fld (lz0 1 rfl) fld_35_1), ⟨of_u fun ν => ob_v rfl rfl (r_loadf 13 rfl (by kernel_rfl) trivial (lz0 1 rfl) (Sub.part 1 rfl rfl) ty_33), ⟨of_call (us := fun ν => [ν 10]) (xs := [.tmp 17, .tmp 19]) rfl rfl (times_zn (by omega) (by omega)) new_zn free_zn (.cons upA_za.va (.cons upA_za.va .nil)) (fun ν => (.cons (vq 12 rfl) (.cons (vq 14 rfl) .nil))) (fun _ _ => rfl) (fun ν => (live_cons (new_and new_zn) (vq 10 rfl) live_nil)), ⟨of_u fun ν => ob_v rfl rfl (r_call (xs := [.tmp 15, .tmp 20]) (lowestD_c (by omega) (by omega) (den_nz x y)) (.cons (vq 10 rfl) (.cons (vq 15 rfl) .nil))), ⟨of_u fun ν => ob_sto rfl rfl rfl (vq 16 rfl) ty_35 (Eq.trans (b := 4) rfl rfl), trivial⟩⟩⟩⟩⟩⟩⟩⟩⟩⟩⟩⟩⟩⟩⟩⟩⟩⟩ ⟨(fun ν ν' h => rfl), ⟨(fun ν ν' h => rfl), ⟨(fun ν ν' h => rfl), ⟨(fun ν ν' h => rfl), ⟨(fun ν ν' h => rfl), ⟨(fun ν ν' h => rfl), ⟨(fun ν ν' h => rfl), ⟨(fun ν ν' h => rfl), ⟨(fun ν ν' h => rfl), ⟨(fun ν ν' h => rfl), ⟨(fun ν ν' h => by first | rfl | simp only [h 10 rfl]), ⟨(fun ν ν' h => rfl), ⟨(fun ν ν' h => rfl), ⟨(fun ν ν' h => rfl), ⟨(fun ν ν' h => rfl), ⟨(fun ν ν' h => by first | rfl | simp only [h 10 rfl, h 15 rfl]), ⟨(fun ν ν' h => by first | rfl | simp only [h 10 rfl, h 15 rfl]), ⟨(fun ν ν' h => by first | rfl | simp only [h 10 rfl, h 15 rfl]), trivial⟩⟩⟩⟩⟩⟩⟩⟩⟩⟩⟩⟩⟩⟩⟩⟩⟩⟩ ⟨trivial, ⟨trivial, ⟨(fun ν ν' h => by first | rfl | simp only [h 10 rfl, h 15 rfl]), trivial⟩⟩⟩ (by kernel_rfl) (by kernel_rfl) (fun ν => by kernel_rfl) (fun ν => by kernel_rfl) (fun ν1 a w hst => ?_)
  have hst : St B w0 22 [] [⟨2, 35, ptrH, _⟩, ⟨3, 35, ptrH, _⟩, ⟨4, 35, ptrH, _⟩] a w := hst
  refine thn_normal ?_
  refine wp_ret ?_
  refine ret_wk ?_ (ret_cell rfl hst (List.mem_of_getElem? (i := 2) rfl) ty_35)
  exact wk_trans (wk_eq (congrArg (fun z => (QD _ z).va) (rat_sub x y))) (qd_mono (by omega)).va

set_option maxRecDepth 100000 in
theorem timesD_q {c d : Nat} {x y : Rat} (hc : c + d ≤ 137438953472) : Cn Try.prog 23 [Qs c x, Qs d y] ((QD (c + d) (x * y)).va) := by
  refine Cn.intro Try.func23 rfl (by kernel_rfl) nq (fun B w0 a hst => ?_)
  have hst : St B w0 16 [(0, Qs c x), (1, Qs d y)] [] a w0.w := hst
  refine wp_seq ?_
  refine gl (sts := []) (news := [⟨2, 35, ptrH, some 0, _, none⟩, ⟨3, 35, ptrH, some 1, _, none⟩, ⟨4, 35, ptrH, some 2, _, none⟩]) (sp := [.alc 0, .alc 1, .alc 2]) [] hst (oc (ob_box rfl rfl rfl (gq 0 rfl)) (oc (ob_box rfl rfl rfl (gq 1 rfl)) (oc (ob_alc rfl rfl rfl (Str.zero str_frac)) o0))) (fun a w hst => ?_)
  have hst : St B w0 16 [] [⟨2, 35, ptrH, _⟩, ⟨3, 35, ptrH, _⟩, ⟨4, 35, ptrH, _⟩] a w := hst
  refine thn_normal ?_
  refine wp_seq ?_
  refine go_drawV' [[], [0], [], [2], [0, 1, 2, 3], [], [5], [], [7], [0, 1, 2, 3, 4, 5, 6, 7, 8], [0, 1, 2, 3, 4, 5, 6, 7, 8, 9], [0, 1, 2, 3, 4, 5, 6, 7, 8, 9, 10]] (sts := [none, none, some (11, fun ν => _)]) (news := []) (sp := [(fun ν => .adr 5 2 (.some 0) True), (fun ν => .val 6 _), (fun ν => .adr 7 3 (.some 0) True), (fun ν => .val 8 _), (fun ν => .val 9 (PinA (ν 4) ((ZN (c + d) (x.num * y.num)).and (SepAll [] (ν 4)))).va), (fun ν => .adr 10 2 (.some 2) True), (fun ν => .val 11 _), (fun ν => .adr 12 3 (.some 2) True), (fun ν => .val 13 _), (fun ν => .val 14 (PinA (ν 9) ((ZN (c + d) ((x.den : Int) * (y.den : Int))).and (SepAll [ν 4] (ν 9)))).va), (fun ν => .val 15 _), (fun ν => .sto 2)]) [] follows_mixed hst ⟨of_u fun ν => ob_a rfl rfl (a_fld (lz0 0 rfl) fld_35_0), ⟨of_u fun ν => ob_v rfl rfl (r_loadf 0 rfl (by kernel_rfl) trivial (lz0 0 rfl) (Sub.part 0 rfl rfl) ty_33), ⟨of_u fun ν => ob_a rfl rfl (a_fld (lz0 1 rfl) fld_35_0), ⟨of_u fun ν => ob_v rfl rfl (r_loadf 2 rfl (by kernel_rfl) trivial (lz0 1 rfl) (Sub.part 0 rfl rfl) ty_33), ⟨of_call (us := fun ν => []) (xs := [.tmp 6, .tmp 8]) rfl rfl (times_zn (by omega) (by omega)) new_zn free_zn (.cons upA_za.va (.cons upA_za.va .nil)) (fun ν => (.cons (vq 1 rfl) (.cons (vq 3 rfl) .nil))) (fun _ _ => rfl) (fun ν => live_nil), ⟨of_u fun ν => ob_a rfl rfl (a_fld (lz0 0 rfl) fld_35_1), ⟨of_u fun ν => ob_v rfl rfl (r_loadf 5 rfl (by kernel_rfl) trivial (lz0 0 rfl) (Sub.part 1 rfl rfl) ty_33), ⟨of_u fun ν => ob_a rfl rfl (a_fld (lz0 1 rfl) fld_35_1), ⟨of_u fun ν => ob_v rfl rfl (r_loadf 7 rfl (by kernel_rfl) trivial (lz0 1 rfl) (Sub.part 1 rfl rfl) ty_33), ⟨of_call (us := fun ν => [ν 4]) (xs := [.tmp 11, .tmp 13]) rfl rfl (times_zn (by omega) (by omega)) new_zn free_zn (.cons upA_za.va (.cons upA_za.va .nil)) (fun ν => (.cons (vq 6 rfl) (.cons (vq 8 rfl) .nil))) (fun _ _ => rfl) (fun ν => (live_cons (new_and new_zn) (vq 4 rfl) live_nil)), ⟨of_u fun ν => ob_v rfl rfl (r_call (xs := [.tmp 9, .tmp 14]) (lowestD_c (by omega) (by omega) (den_nz x y)) (.cons (vq 4 rfl) (.cons (vq 9 rfl) .nil))), ⟨of_u fun ν => ob_sto rfl rfl rfl (vq 10 rfl) ty_35 (Eq.trans (b := 4) rfl rfl), trivial⟩⟩⟩⟩⟩⟩⟩⟩⟩⟩⟩⟩ ⟨(fun ν ν' h => rfl), ⟨(fun ν ν' h => rfl), ⟨(fun ν ν' h => rfl), ⟨(fun ν ν' h => rfl), ⟨(fun ν ν' h => by first | rfl | simp only [h 4 rfl]), ⟨(fun ν ν' h => rfl), ⟨(fun ν ν' h => rfl), ⟨(fun ν ν' h => rfl), ⟨(fun ν ν' h => rfl), ⟨(fun ν ν' h => by first | rfl | simp only [h 4 rfl, h 9 rfl]), ⟨(fun ν ν' h => by first | rfl | simp only [h 4 rfl, h 9 rfl]), ⟨(fun ν ν' h => by first | rfl | simp only [h 4 rfl, h 9 rfl]), trivial⟩⟩⟩⟩⟩⟩⟩⟩⟩⟩⟩⟩ ⟨trivial, ⟨trivial, ⟨(fun ν ν' h => by first | rfl | simp only [h 4 rfl, h 9 rfl]), trivial⟩⟩⟩ (by kernel_rfl) (by kernel_rfl) (fun ν => by kernel_rfl) (fun ν => by kernel_rfl) (fun ν1 a w hst => ?_)
  have hst : St B w0 16 [] [⟨2, 35, ptrH, _⟩, ⟨3, 35, ptrH, _⟩, ⟨4, 35, ptrH, _⟩] a w := hst
  refine thn_normal ?_
  refine wp_ret ?_
  refine ret_wk ?_ (ret_cell rfl hst (List.mem_of_getElem? (i := 2) rfl) ty_35)
  exact wk_trans (wk_eq (congrArg (fun z => (QD _ z).va) (rat_mul x y))) (qd_mono (by omega)).va

set_option maxRecDepth 100000 in
theorem overD_q {c d : Nat} {x y : Rat} (hc : c + d ≤ 137438953472) (h0 : y ≠ 0) : Cn Try.prog 22 [Qs c x, Qs d y] ((QD (c + d) (x / y)).va) := by
  refine Cn.intro Try.func22 rfl (by kernel_rfl) nq (fun B w0 a hst => ?_)
  have hst : St B w0 16 [(0, Qs c x), (1, Qs d y)] [] a w0.w := hst
  refine wp_seq ?_
  refine gl (sts := []) (news := [⟨2, 35, ptrH, some 0, _, none⟩, ⟨3, 35, ptrH, some 1, _, none⟩, ⟨4, 35, ptrH, some 2, _, none⟩]) (sp := [.alc 0, .alc 1, .alc 2]) [] hst (oc (ob_box rfl rfl rfl (gq 0 rfl)) (oc (ob_box rfl rfl rfl (gq 1 rfl)) (oc (ob_alc rfl rfl rfl (Str.zero str_frac)) o0))) (fun a w hst => ?_)
  have hst : St B w0 16 [] [⟨2, 35, ptrH, _⟩, ⟨3, 35, ptrH, _⟩, ⟨4, 35, ptrH, _⟩] a w := hst
  refine thn_normal ?_
  refine wp_seq ?_
  refine go_drawV' [[], [0], [], [2], [0, 1, 2, 3], [], [5], [], [7], [0, 1, 2, 3, 4, 5, 6, 7, 8], [0, 1, 2, 3, 4, 5, 6, 7, 8, 9], [0, 1, 2, 3, 4, 5, 6, 7, 8, 9, 10]] (sts := [none, none, some (11, fun ν => _)]) (news := []) (sp := [(fun ν => .adr 5 2 (.some 0) True), (fun ν => .val 6 _), (fun ν => .adr 7 3 (.some 2) True), (fun ν => .val 8 _), (fun ν => .val 9 (PinA (ν 4) ((ZN (c + d) (x.num * (y.den : Int))).and (SepAll [] (ν 4)))).va), (fun ν => .adr 10 2 (.some 2) True), (fun ν => .val 11 _), (fun ν => .adr 12 3 (.some 0) True), (fun ν => .val 13 _), (fun ν => .val 14 (PinA (ν 9) ((ZN (c + d) ((x.den : Int) * y.num)).and (SepAll [ν 4] (ν 9)))).va), (fun ν => .val 15 _), (fun ν => .sto 2)]) [] follows_mixed hst ⟨of_u fun ν => ob_a rfl rfl (a_fld (lz0 0 rfl) fld_35_0), ⟨of_u fun ν => ob_v rfl rfl (r_loadf 0 rfl (by kernel_rfl) trivial (lz0 0 rfl) (Sub.part 0 rfl rfl) ty_33), ⟨of_u fun ν => ob_a rfl rfl (a_fld (lz0 1 rfl) fld_35_1), ⟨of_u fun ν => ob_v rfl rfl (r_loadf 2 rfl (by kernel_rfl) trivial (lz0 1 rfl) (Sub.part 1 rfl rfl) ty_33), ⟨of_call (us := fun ν => []) (xs := [.tmp 6, .tmp 8]) rfl rfl (times_zn (by omega) (by omega)) new_zn free_zn (.cons upA_za.va (.cons upA_za.va .nil)) (fun ν => (.cons (vq 1 rfl) (.cons (vq 3 rfl) .nil))) (fun _ _ => rfl) (fun ν => live_nil), ⟨of_u fun ν => ob_a rfl rfl (a_fld (lz0 0 rfl) fld_35_1), ⟨of_u fun ν => ob_v rfl rfl (r_loadf 5 rfl (by kernel_rfl) trivial (lz0 0 rfl) (Sub.part 1 rfl rfl) ty_33), ⟨of_u fun ν => ob_a rfl rfl (a_fld (lz0 1 rfl) fld_35_0), ⟨of_u fun ν => ob_v rfl rfl (r_loadf 7 rfl (by kernel_rfl) trivial (lz0 1 rfl) (Sub.part 0 rfl rfl) ty_33), ⟨of_call (us := fun ν => [ν 4]) (xs := [.tmp 11, .tmp 13]) rfl rfl (times_zn (by omega) (by omega)) new_zn free_zn (.cons upA_za.va (.cons upA_za.va .nil)) (fun ν => (.cons (vq 6 rfl) (.cons (vq 8 rfl) .nil))) (fun _ _ => rfl) (fun ν => (live_cons (new_and new_zn) (vq 4 rfl) live_nil)), ⟨of_u fun ν => ob_v rfl rfl (r_call (xs := [.tmp 9, .tmp 14]) (lowestD_c (by omega) (by omega) (num_nz x h0)) (.cons (vq 4 rfl) (.cons (vq 9 rfl) .nil))), ⟨of_u fun ν => ob_sto rfl rfl rfl (vq 10 rfl) ty_35 (Eq.trans (b := 4) rfl rfl), trivial⟩⟩⟩⟩⟩⟩⟩⟩⟩⟩⟩⟩ ⟨(fun ν ν' h => rfl), ⟨(fun ν ν' h => rfl), ⟨(fun ν ν' h => rfl), ⟨(fun ν ν' h => rfl), ⟨(fun ν ν' h => by first | rfl | simp only [h 4 rfl]), ⟨(fun ν ν' h => rfl), ⟨(fun ν ν' h => rfl), ⟨(fun ν ν' h => rfl), ⟨(fun ν ν' h => rfl), ⟨(fun ν ν' h => by first | rfl | simp only [h 4 rfl, h 9 rfl]), ⟨(fun ν ν' h => by first | rfl | simp only [h 4 rfl, h 9 rfl]), ⟨(fun ν ν' h => by first | rfl | simp only [h 4 rfl, h 9 rfl]), trivial⟩⟩⟩⟩⟩⟩⟩⟩⟩⟩⟩⟩ ⟨trivial, ⟨trivial, ⟨(fun ν ν' h => by first | rfl | simp only [h 4 rfl, h 9 rfl]), trivial⟩⟩⟩ (by kernel_rfl) (by kernel_rfl) (fun ν => by kernel_rfl) (fun ν => by kernel_rfl) (fun ν1 a w hst => ?_)
  have hst : St B w0 16 [] [⟨2, 35, ptrH, _⟩, ⟨3, 35, ptrH, _⟩, ⟨4, 35, ptrH, _⟩] a w := hst
  refine thn_normal ?_
  refine wp_ret ?_
  refine ret_wk ?_ (ret_cell rfl hst (List.mem_of_getElem? (i := 2) rfl) ty_35)
  exact wk_trans (wk_eq (congrArg (fun z => (QD _ z).va) (rat_div x y))) (qd_mono (by omega)).va

theorem qd_tn {u v : Value} {c d k : Nat} {x : Rat} (hc : c ≤ k) (hd : d ≤ k) : WkA (cat [PinA u ((ZN c (-x.num)).and (SepAll [] u)), PinA v ((ZN d ((x.den : Int) + 0)).and (SepAll [u] v))]) (QD k (-x)) := by
  rw [Int.add_zero]
  exact qd_pins (q := -x) hc hd
theorem qd_cp {u v : Value} {c d k : Nat} {x : Rat} (hc : c ≤ k) (hd : d ≤ k) : WkA (cat [PinA u ((ZN c (x.num + 0)).and (SepAll [] u)), PinA v ((ZN d ((x.den : Int) + 0)).and (SepAll [u] v))]) (QD k x) := by
  rw [Int.add_zero, Int.add_zero]
  exact qd_pins hc hd

set_option maxRecDepth 100000 in
theorem copyD_r {c : Nat} {x : Rat} (hc : c ≤ 137438953472) : Cn Try.prog 45 [Qs c x] ((QD (max c 2 + 1) x).va) := by
  refine Cn.intro Try.func45 rfl (by kernel_rfl) nq (fun B w0 a hst => ?_)
  have hst : St B w0 14 [(0, Qs c x)] [] a w0.w := hst
  refine wp_seq ?_
  refine gl (sts := []) (news := [⟨1, 35, ptrH, some 0, _, none⟩, ⟨2, 35, ptrH, some 1, _, none⟩]) (sp := [.alc 0, .alc 1]) [] hst (oc (ob_box rfl rfl rfl (gq 0 rfl)) (oc (ob_alc rfl rfl rfl (Str.zero str_frac)) o0)) (fun a w hst => ?_)
  have hst : St B w0 14 [] [⟨1, 35, ptrH, _⟩, ⟨2, 35, ptrH, _⟩] a w := hst
  refine thn_normal ?_
  refine wp_seq ?_
  refine gl (sts := [none, none]) (news := [⟨3, 33, ptrH, some 1, _, some (2, _)⟩]) (sp := [.val 4 _, .alc 2, .sto 2]) [] hst (oc (ob_v rfl rfl (r_call (xs := [.const (.int .i64 (0))]) (of_z (by decide) (by decide)) (.cons has_num .nil))) (oc (ob_alc rfl rfl rfl (Str.zero str_int)) (oc (ob_sto rfl rfl rfl (vq 0 rfl) ty_33 (Eq.trans (b := 2) rfl rfl)) o0))) (fun a w hst => ?_)
  have hst : St B w0 14 [] [⟨1, 35, ptrH, _⟩, ⟨2, 35, ptrH, _⟩, ⟨3, 33, ptrH, _⟩] a w := hst
  refine thn_normal ?_
  refine wp_seq ?_
  refine go_drawV' [[], [0], [], [0, 1, 2], [], [4], [], [0, 1, 2, 3, 4, 5, 6], [0, 1, 2, 3, 4, 5, 6, 7], [0, 1, 2, 3, 4, 5, 6, 7, 8]] (sts := [none, some (9, fun ν => _), none]) (news := []) (sp := [(fun ν => .adr 5 1 (.some 0) True), (fun ν => .val 6 _), (fun ν => .val 7 _), (fun ν => .val 8 (PinA (ν 3) ((ZN (max c 2 + 1) (x.num + 0)).and (SepAll [] (ν 3)))).va), (fun ν => .adr 9 1 (.some 2) True), (fun ν => .val 10 _), (fun ν => .val 11 _), (fun ν => .val 12 (PinA (ν 7) ((ZN (max c 2 + 1) ((x.den : Int) + 0)).and (SepAll [ν 3] (ν 7)))).va), (fun ν => .val 13 _), (fun ν => .sto 1)]) [] follows_mixed hst ⟨of_u fun ν => ob_a rfl rfl (a_fld (lz0 0 rfl) fld_35_0), ⟨of_u fun ν => ob_v rfl rfl (r_loadf 0 rfl (by kernel_rfl) trivial (lz0 0 rfl) (Sub.part 0 rfl rfl) ty_33), ⟨of_u fun ν => ob_v rfl rfl (r_load (lz0 2 rfl) ty_33), ⟨of_call (us := fun ν => []) (xs := [.tmp 6, .tmp 7]) rfl rfl (plus_zn (by omega) (by omega)) new_zn free_zn (.cons upA_za.va (.cons upA_za.va .nil)) (fun ν => (.cons (vq 1 rfl) (.cons (vq 2 rfl) .nil))) (fun _ _ => rfl) (fun ν => live_nil), ⟨of_u fun ν => ob_a rfl rfl (a_fld (lz0 0 rfl) fld_35_1), ⟨of_u fun ν => ob_v rfl rfl (r_loadf 4 rfl (by kernel_rfl) trivial (lz0 0 rfl) (Sub.part 1 rfl rfl) ty_33), ⟨of_u fun ν => ob_v rfl rfl (r_load (lz0 2 rfl) ty_33), ⟨of_call (us := fun ν => [ν 3]) (xs := [.tmp 10, .tmp 11]) rfl rfl (plus_zn (by omega) (by omega)) new_zn free_zn (.cons upA_za.va (.cons upA_za.va .nil)) (fun ν => (.cons (vq 5 rfl) (.cons (vq 6 rfl) .nil))) (fun _ _ => rfl) (fun ν => (live_cons (new_and new_zn) (vq 3 rfl) live_nil)), ⟨of_u fun ν => ob_v rfl rfl (r_build (xs := [(0, .tmp 8), (1, .tmp 12)]) (qs := [(0, _), (1, _)]) str_frac (.cons ⟨rfl, (vq 3 rfl), rfl⟩ (.cons ⟨rfl, (vq 7 rfl), rfl⟩ .nil))), ⟨of_u fun ν => ob_sto rfl rfl rfl (vq 8 rfl) ty_35 (Eq.trans (b := 4) rfl rfl), trivial⟩⟩⟩⟩⟩⟩⟩⟩⟩⟩ ⟨(fun ν ν' h => rfl), ⟨(fun ν ν' h => rfl), ⟨(fun ν ν' h => rfl), ⟨(fun ν ν' h => by first | rfl | simp only [h 3 rfl]), ⟨(fun ν ν' h => rfl), ⟨(fun ν ν' h => rfl), ⟨(fun ν ν' h => rfl), ⟨(fun ν ν' h => by first | rfl | simp only [h 3 rfl, h 7 rfl]), ⟨(fun ν ν' h => by first | rfl | simp only [h 3 rfl, h 7 rfl]), ⟨(fun ν ν' h => by first | rfl | simp only [h 3 rfl, h 7 rfl]), trivial⟩⟩⟩⟩⟩⟩⟩⟩⟩⟩ ⟨trivial, ⟨(fun ν ν' h => by first | rfl | simp only [h 3 rfl, h 7 rfl]), ⟨trivial, trivial⟩⟩⟩ (by kernel_rfl) (by kernel_rfl) (fun ν => by kernel_rfl) (fun ν => by kernel_rfl) (fun ν2 a w hst => ?_)
  have hst : St B w0 14 [] [⟨1, 35, ptrH, _⟩, ⟨2, 35, ptrH, _⟩, ⟨3, 33, ptrH, _⟩] a w := hst
  refine thn_normal ?_
  refine wp_ret ?_
  refine ret_wk ?_ (ret_cell rfl hst (List.mem_of_getElem? (i := 1) rfl) ty_35)
  exact (qd_cp (by omega) (by omega)).va

theorem up_inS {n : Int} : Up (In n) (In n) := fun _ _ _ _ h => h

set_option maxRecDepth 100000 in
theorem smallD_q {p q : Int} (hp : -9223372036854775808 ≤ p) (hp1 : p < 9223372036854775808) (hq : -9223372036854775808 ≤ q) (hq1 : q < 9223372036854775808) (h0 : q ≠ 0) : Cn Try.prog 58 [In p, In q] ((QD 2 (Rat.divInt p q)).va) := by
  refine Cn.intro Try.func58 rfl (by kernel_rfl) nq (fun B w0 a hst => ?_)
  have hst : St B w0 10 [(0, In p), (1, In q)] [] a w0.w := hst
  refine wp_seq ?_
  refine gl (sts := []) (news := [⟨4, 35, ptrH, some 0, _, none⟩]) (sp := [.alc 0]) [.g 0, .g 1] hst (oc (ob_alc rfl rfl rfl (Str.zero str_frac)) o0) (fun a w hst => ?_)
  have hst : St B w0 10 [(0, _), (1, _)] [⟨4, 35, ptrH, _⟩] a w := hst
  refine thn_normal ?_
  refine wp_seq ?_
  refine go_linV (sts := [some (5, fun ν => _)]) (news := []) (sp := [(fun ν => .val 5 _), (fun ν => .val 6 (PinA (ν 1) ((ZN 2 p).and (SepAll [] (ν 1)))).va), (fun ν => .val 7 _), (fun ν => .val 8 (PinA (ν 3) ((ZN 2 q).and (SepAll [ν 1] (ν 3)))).va), (fun ν => .val 9 _), (fun ν => .sto 0)]) [] hst ⟨of_u fun ν => ob_v rfl rfl (r_move (gq 0 rfl)), ⟨of_call (us := fun ν => []) (xs := [.tmp 5]) rfl rfl (of_zn hp hp1) new_zn free_zn (.cons up_inS .nil) (fun ν => (.cons (vq 0 rfl) .nil)) (fun _ _ => rfl) (fun ν => live_nil), ⟨of_u fun ν => ob_v rfl rfl (r_move (gq 1 rfl)), ⟨of_call (us := fun ν => [ν 1]) (xs := [.tmp 7]) rfl rfl (of_zn hq hq1) new_zn free_zn (.cons up_inS .nil) (fun ν => (.cons (vq 2 rfl) .nil)) (fun _ _ => rfl) (fun ν => (live_cons (new_and new_zn) (vq 1 rfl) live_nil)), ⟨of_u fun ν => ob_v rfl rfl (r_call (xs := [.tmp 6, .tmp 8]) (lowestD_c (by decide) (by decide) h0) (.cons (vq 1 rfl) (.cons (vq 3 rfl) .nil))), ⟨of_u fun ν => ob_sto rfl rfl rfl (vq 4 rfl) ty_35 (Eq.trans (b := 4) rfl rfl), trivial⟩⟩⟩⟩⟩⟩ ⟨(fun ν ν' h => rfl), ⟨(fun ν ν' h => by first | rfl | simp only [h 1 rfl]), ⟨(fun ν ν' h => by first | rfl | simp only [h 1 rfl]), ⟨(fun ν ν' h => by first | rfl | simp only [h 1 rfl, h 3 rfl]), ⟨(fun ν ν' h => by first | rfl | simp only [h 1 rfl, h 3 rfl]), ⟨(fun ν ν' h => by first | rfl | simp only [h 1 rfl, h 3 rfl]), trivial⟩⟩⟩⟩⟩⟩ ⟨(fun ν ν' h => by first | rfl | simp only [h 1 rfl, h 3 rfl]), trivial⟩ (by kernel_rfl) (fun ν => by kernel_rfl) (fun ν => by kernel_rfl) (fun ν1 a w hst => ?_)
  have hst : St B w0 10 [] [⟨4, 35, ptrH, _⟩] a w := hst
  refine thn_normal ?_
  refine wp_ret ?_
  refine ret_wk ?_ (ret_cell rfl hst (List.mem_of_getElem? (i := 0) rfl) ty_35)
  exact wk_id

set_option maxRecDepth 100000 in
theorem oneD_q  : Cn Try.prog 33 [] ((QD 2 1).va) := by
  refine Cn.intro Try.func33 rfl (by kernel_rfl) nq (fun B w0 a hst => ?_)
  have hst : St B w0 2 [] [] a w0.w := hst
  refine wp_seq ?_
  refine gl (sts := []) (news := [⟨0, 35, ptrH, some 0, _, none⟩]) (sp := [.alc 0]) [] hst (oc (ob_alc rfl rfl rfl (Str.zero str_frac)) o0) (fun a w hst => ?_)
  have hst : St B w0 2 [] [⟨0, 35, ptrH, _⟩] a w := hst
  refine thn_normal ?_
  refine wp_seq ?_
  refine gl (sts := [some (1, _)]) (news := []) (sp := [.val 1 _, .sto 0]) [] hst (oc (ob_v rfl rfl (r_call (xs := [.const (.int .i64 (1)), .const (.int .i64 (1))]) (smallD_q (by decide) (by decide) (by decide) (by decide) (by decide)) (.cons has_num (.cons has_num .nil)))) (oc (ob_sto rfl rfl rfl (vq 0 rfl) ty_35 (Eq.trans (b := 4) rfl rfl)) o0)) (fun a w hst => ?_)
  have hst : St B w0 2 [] [⟨0, 35, ptrH, _⟩] a w := hst
  refine thn_normal ?_
  refine wp_ret ?_
  refine ret_wk ?_ (ret_cell rfl hst (List.mem_of_getElem? (i := 0) rfl) ty_35)
  exact wk_eq (congrArg (fun z => (QD 2 z).va) (show Rat.divInt 1 1 = 1 from rfl))

theorem copyD_q {c : Nat} {x : Rat} (hc : c ≤ 137438953472) : Cn Try.prog 45 [Qs c x] (QD c x).va :=
  Cn.know (c := lz x.num ≤ c ∧ lz (x.den : Int) ≤ c) ex_qcopy (fun B w args ha => by cases ha with | cons h1 _ => exact qs_le h1) fun h => (copyD_r hc).wkp (qd_of h.1 h.2).va

end Go.Proofs.Ytljkepdpoelpkaa
