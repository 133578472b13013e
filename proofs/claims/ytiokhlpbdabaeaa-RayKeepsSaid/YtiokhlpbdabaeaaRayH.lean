/- A function that writes a variable that is not its first argument; contracts of the helpers of chapter 9: less, alive, behind. -/
import Derived.Test.YtiokhlpbdabaeaaRayG
namespace Go.Proofs.Ytiokhlpbdabaeaa
open Go Go.RowKit
namespace RayH
theorem fld_42_2 : Fld Try.prog 42 2 8 4 := ⟨_, _, Try.underlying42, rfl, rfl, by kernel_rfl, by decide⟩
theorem fld_42_3 : Fld Try.prog 42 3 12 4 := ⟨_, _, Try.underlying42, rfl, rfl, by kernel_rfl, by decide⟩
theorem fld_80_0 : Fld Try.prog 80 0 0 4 := ⟨_, _, Try.underlying80, rfl, rfl, by kernel_rfl, by decide⟩
theorem fld_80_1 : Fld Try.prog 80 1 4 4 := ⟨_, _, Try.underlying80, rfl, rfl, by kernel_rfl, by decide⟩
theorem sl_107 : Sl Try.prog 107 42 16 := ⟨by kernel_rfl, by kernel_rfl⟩
theorem ty_26 : Ty Try.prog 26 4 true := ⟨by kernel_rfl, by kernel_rfl⟩
theorem ty_4 : Ty Try.prog 4 1 false := ⟨by kernel_rfl, by kernel_rfl⟩
theorem ty_42 : Ty Try.prog 42 16 true := ⟨by kernel_rfl, by kernel_rfl⟩
theorem ty_80 : Ty Try.prog 80 8 true := ⟨by kernel_rfl, by kernel_rfl⟩
end RayH
open RayH
theorem Cm.introK {P : Program} {f : FuncId} {fn : Func} {c : Code} {T : TypeId} {A0 A1 : As} {H : Hd} {pre : List Ar} {post : VA} (p : Nat) (hf : P.funcs[f]? = some fn) (hb : fn.body = some c) (hn : (fn.name == "runtime.NumGoroutine") = false) (hsz : pre.length ≤ fn.ntmps)
    (hm : ∀ g, (p, EqV (H.f g)) ∈ argΓ (pre.map (Ar.va g)))
    (h : ∀ (B g : Nat) (w0 : Bs) (a : Act), St B w0 fn.ntmps (argΓ (pre.map (Ar.va g))) [⟨p, T, H, A0⟩] a w0.w → c.wp P (bodyPost P fn (RQm B w0 g T A1 post)) a w0.w) : Cm P f T A0 A1 pre post := by
  refine ⟨⟨fn, hf, hn, by rw [hb]; rfl⟩, fun B w g cs args hB hg hp ha => (calls_of_wp hf hb (h B g ⟨w, fun k => k = g⟩ _ ?_)).mono fun _ _ ⟨v, cs', he, hv, hk, h1, h2⟩ => ⟨v, cs', he, hv, hk, h1, h2⟩⟩
  have hl := ha.length
  have hgw := (Array.getElem?_eq_some_iff.1 hg).1
  have ha' : All2 (fun (A : VA) v => A.p B v w) (pre.map (Ar.va g)) args := by
    clear hl hm h hsz
    induction ha with
    | nil => exact .nil
    | @cons x y xs ys h1 _ ih =>
      refine .cons ?_ ih
      cases x with
      | v A => exact h1
      | w H => exact h1
  have h0 : (⟨args.toArray ++ Array.replicate (fn.ntmps - args.toArray.size) undef, []⟩ : Act).eval (.tmp p) = H.f g :=
    All2.args (N := fn.ntmps - args.toArray.size) ha' (p, EqV (H.f g)) (hm g)
  refine ⟨fun k hk => ?_, rfl, ?_, Kept.refl _, All2.args ha', fun l hl => ?_, fun l hl m hm hne => ?_⟩
  · rcases hk with hk | hk
    · exact Nat.le_trans hB (Nat.le_trans (Nat.le_of_lt hgw) hk)
    · have : k = g := hk
      omega
  · simp only [Array.size_append, List.size_toArray, Array.size_replicate]
    omega
  · simp at hl
    subst hl
    exact ⟨g, cs, h0, .inr rfl, hg, hp⟩
  · simp at hl hm
    subst hl hm
    exact absurd rfl hne
theorem ret_mK {P : Program} {fn : Func} {B N g p : Nat} {w0 : Bs} {Γ : List (Nat × VA)} {Λ : List Lc} {a : Act} {w : World} {T : TypeId} {H : Hd} {A1 : As} {post : VA} (h : St B w0 N Γ Λ a w) (hm : (p, EqV (H.f g)) ∈ Γ) (hl : (⟨p, T, H, A1⟩ : Lc) ∈ Λ)
    (hb : bodyPost P fn (RQ B w0 post) .ret a w) : bodyPost P fn (RQm B w0 g T A1 post) .ret a w := by
  obtain ⟨hd, v, hr, v', e1, e2, e3⟩ := hb
  obtain ⟨g', cs, f1, _, f3, f4⟩ := h.locs _ hl
  have f0 : a.eval (.tmp p) = H.f g := h.vals _ hm
  have : g' = g := Rg.Hd.inj (H := H) (H' := H) (by rw [← f1, ← f0])
  subst this
  exact ⟨hd, v, hr, v', cs, e1, e2, e3, f3, f4⟩
theorem sub_self {A : As} : Sub A 0 A := fun B cs w h => by
  have hl := A.len B cs w h
  refine ⟨?_, by omega⟩
  rw [List.drop_zero, List.take_of_length_le (by omega)]
  exact h
theorem put_self {A A' : As} (hn : A'.n = A.n) : Put A 0 A' A' := fun B cs c w h h' => by
  have h1 := A.len B cs w h
  have h2 := A'.len B c w h'
  refine ⟨by omega, ?_⟩
  have : splice cs 0 c = c := by unfold splice; simp; omega
  rw [this]
  exact h'
def bhF (ok : Bool) (m q : RM) : Bool := (ok && ((mulM m q).2 == 0)) && ((if okM (mulM m q).1 then (0 : Int) else 1) == 0)

set_option maxRecDepth 100000 in
theorem behind_c (m q : RM) (ok : Bool) : Cm Try.prog 35 4 (BoA ok) (BoA (bhF ok m q)) [.v ((RMA m).va), .v ((RMA q).va), .w (ptrH)] ((RMA (mulM m q).1).va) := by
  refine Cm.introK 2 Try.func35 rfl (by kernel_rfl) (Nat.le_of_ble_eq_true (by kernel_rfl)) (fun g => List.mem_of_getElem? (i := 2) rfl) (fun B g w0 a hst => ?_)
  have hst : St B w0 30 [(0, (RMA m).va), (1, (RMA q).va), (2, EqV ((ptrH).f g))] [⟨2, 4, ptrH, BoA ok⟩] a w0.w := hst
  refine wp_seq ?_
  refine go_lin (sts := [none]) (news := [⟨3, 42, ptrH, some 0, _, none⟩, ⟨4, 42, ptrH, some 1, _, none⟩, ⟨6, 42, ptrH, some 2, _, none⟩]) (sp := [.alc 1, .alc 2, .alc 3]) [.g 2] hst (obs_cons (ob_box rfl rfl rfl (has_g 0 rfl (by kernel_rfl) (by kernel_rfl))) (obs_cons (ob_box rfl rfl rfl (has_g 1 rfl (by kernel_rfl) (by kernel_rfl))) (obs_cons (ob_alc rfl rfl rfl (Str.zero str_matrix)) (obs_nil)))) (by kernel_rfl) (by kernel_rfl) (by kernel_rfl) (fun a w hst => ?_)
  have hst : St B w0 30 [(2, _)] [⟨2, 4, ptrH, _⟩, ⟨3, 42, ptrH, _⟩, ⟨4, 42, ptrH, _⟩, ⟨6, 42, ptrH, _⟩] a w := hst
  refine thn_normal ?_
  refine wp_seq ?_
  refine go_lin (sts := [none, none, none, none]) (news := [⟨7, 42, ptrH, some 6, _, some (7, _)⟩]) (sp := [.val 10 _, .val 11 _, .val 12 _, .val 9 _, .val 13 _, .val 14 _, .alc 4, .sto 4, .val 8 _]) [.g 0, .o 8] hst (obs_cons (ob_v rfl rfl (r_load (loc_at0 1 rfl (by kernel_rfl)) ty_42)) (obs_cons (ob_v rfl rfl (r_load (loc_at0 2 rfl (by kernel_rfl)) ty_42)) (obs_cons (ob_v rfl rfl (r_call (xs := [.tmp 10, .tmp 11]) (mul09_c _ _) (.cons (has_v 0 rfl (by kernel_rfl) (by kernel_rfl)) (.cons (has_v 1 rfl (by kernel_rfl) (by kernel_rfl)) .nil)))) (obs_cons (ob_v rfl rfl (r_move (has_v 2 rfl (by kernel_rfl) (by kernel_rfl)))) (obs_cons (ob_v rfl rfl (r_ex0 (has_v 3 rfl (by kernel_rfl) (by kernel_rfl)))) (obs_cons (ob_v rfl rfl (r_ex1 (has_v 3 rfl (by kernel_rfl) (by kernel_rfl)))) (obs_cons (ob_alc rfl rfl rfl (Str.zero str_matrix)) (obs_cons (ob_sto rfl rfl rfl (has_v 4 rfl (by kernel_rfl) (by kernel_rfl)) ty_42 rfl) (obs_cons (ob_v rfl rfl (r_assign (has_v 5 rfl (by kernel_rfl) (by kernel_rfl)))) (obs_nil)))))))))) (by kernel_rfl) (by kernel_rfl) (by kernel_rfl) (fun a w hst => ?_)
  have hst : St B w0 30 [(2, _), (8, _)] [⟨2, 4, ptrH, _⟩, ⟨3, 42, ptrH, _⟩, ⟨4, 42, ptrH, _⟩, ⟨6, 42, ptrH, _⟩, ⟨7, 42, ptrH, _⟩] a w := hst
  refine thn_normal ?_
  refine wp_seq ?_
  refine go_lin (sts := [some (14, _), none, none, none, none]) (news := []) (sp := [.adr 15 2 (.some 0) True, .adr 16 2 (.some 0) True, .adr 17 2 (.some 0) True, .val 18 _, .val 19 _, .val 20 (Wh (_ = true) _), .val 21 (Wh (_ = true) _), .val 22 _, .val 23 _, .val 24 (Wh (_ = true) _), .val 25 (Wh (_ = true) _), .val 26 (Wh (_ = true) _), .val 27 _, .adr 28 2 (.some 0) True, .sto 0]) [.g 0] hst (obs_cons (ob_a rfl rfl (a_mov0 (loc_at0 0 rfl (by kernel_rfl)))) (obs_cons (ob_a rfl rfl (a_mov0 (loc_at0 0 rfl (by kernel_rfl)))) (obs_cons (ob_a rfl rfl (a_nil0 1 rfl (by kernel_rfl) (loc_at0 0 rfl (by kernel_rfl)))) (obs_cons (ob_v rfl rfl (r_loadf 2 rfl (by kernel_rfl) trivial (loc_at0 0 rfl (by kernel_rfl)) sub_self ty_4)) (obs_cons (ob_v rfl rfl (r_move (has_v 3 rfl (by kernel_rfl) (by kernel_rfl)))) (obs_cons (ob_gd rfl rfl rfl (has_v 4 rfl (by kernel_rfl) (by kernel_rfl)) (Nat.le_of_ble_eq_true (by kernel_rfl)) (fun hg => r_move (has_g 1 rfl (by kernel_rfl) (by kernel_rfl)))) (obs_cons (ob_gd rfl rfl rfl (has_v 4 rfl (by kernel_rfl) (by kernel_rfl)) (Nat.le_of_ble_eq_true (by kernel_rfl)) (fun hg => r_eql (has_wh (has_v 5 rfl (by kernel_rfl) (by kernel_rfl)) hg) has_num)) (obs_cons (ob_v rfl rfl (r_and (has_v 4 rfl (by kernel_rfl) (by kernel_rfl)) (has_v 6 rfl (by kernel_rfl) (by kernel_rfl)))) (obs_cons (ob_v rfl rfl (r_move (has_v 7 rfl (by kernel_rfl) (by kernel_rfl)))) (obs_cons (ob_gd rfl rfl rfl (has_v 8 rfl (by kernel_rfl) (by kernel_rfl)) (Nat.le_of_ble_eq_true (by kernel_rfl)) (fun hg => r_load (loc_at0 4 rfl (by kernel_rfl)) ty_42)) (obs_cons (ob_gd rfl rfl rfl (has_v 8 rfl (by kernel_rfl) (by kernel_rfl)) (Nat.le_of_ble_eq_true (by kernel_rfl)) (fun hg => r_call (xs := [.tmp 24]) (rayCheck_c _) (.cons (has_wh (has_v 9 rfl (by kernel_rfl) (by kernel_rfl)) hg) .nil))) (obs_cons (ob_gd rfl rfl rfl (has_v 8 rfl (by kernel_rfl) (by kernel_rfl)) (Nat.le_of_ble_eq_true (by kernel_rfl)) (fun hg => r_eql (has_wh (has_v 10 rfl (by kernel_rfl) (by kernel_rfl)) hg) has_num)) (obs_cons (ob_v rfl rfl (r_and (has_v 8 rfl (by kernel_rfl) (by kernel_rfl)) (has_v 11 rfl (by kernel_rfl) (by kernel_rfl)))) (obs_cons (ob_a rfl rfl (a_nil0 0 rfl (by kernel_rfl) (loc_at0 0 rfl (by kernel_rfl)))) (obs_cons (ob_stof 13 rfl rfl rfl rfl (by kernel_rfl) (has_v 12 rfl (by kernel_rfl) (by kernel_rfl)) ty_4 (put_self rfl)) (obs_nil)))))))))))))))) (by kernel_rfl) (by kernel_rfl) (by kernel_rfl) (fun a w hst => ?_)
  have hst : St B w0 30 [(2, _)] [⟨2, 4, ptrH, _⟩, ⟨3, 42, ptrH, _⟩, ⟨4, 42, ptrH, _⟩, ⟨6, 42, ptrH, _⟩, ⟨7, 42, ptrH, _⟩] a w := hst
  refine thn_normal ?_
  refine wp_seq ?_
  refine go_lin (sts := [none, none, none, some (1, _), none]) (news := []) (sp := [.val 29 _, .sto 3]) [.g 0] hst (obs_cons (ob_v rfl rfl (r_load (loc_at0 4 rfl (by kernel_rfl)) ty_42)) (obs_cons (ob_sto rfl rfl rfl (has_v 0 rfl (by kernel_rfl) (by kernel_rfl)) ty_42 rfl) (obs_nil))) (by kernel_rfl) (by kernel_rfl) (by kernel_rfl) (fun a w hst => ?_)
  have hst : St B w0 30 [(2, _)] [⟨2, 4, ptrH, _⟩, ⟨3, 42, ptrH, _⟩, ⟨4, 42, ptrH, _⟩, ⟨6, 42, ptrH, _⟩, ⟨7, 42, ptrH, _⟩] a w := hst
  refine thn_normal ?_
  refine wp_ret ?_
  refine ret_mK hst (List.mem_of_getElem? (i := 0) rfl) (List.mem_of_getElem? (i := 0) rfl) ?_
  refine ret_wk ?_ (ret_cell rfl hst (List.mem_of_getElem? (i := 3) rfl) ty_42)
  exact wk_id

set_option maxRecDepth 100000 in
theorem less09_c (x y : RF) : Cn Try.prog 46 [(RFA x).va, (RFA y).va] ((RFA (subF x y).1).va) := by
  refine Cn.intro Try.func46 rfl (by kernel_rfl) (Nat.le_of_ble_eq_true (by kernel_rfl)) (fun B w0 a hst => ?_)
  have hst : St B w0 14 [(0, (RFA x).va), (1, (RFA y).va)] [] a w0.w := hst
  refine wp_seq ?_
  refine go_lin (sts := []) (news := [⟨2, 26, ptrH, some 0, _, none⟩, ⟨3, 26, ptrH, some 1, _, none⟩, ⟨4, 26, ptrH, some 2, _, none⟩]) (sp := [.alc 0, .alc 1, .alc 2]) [] hst (obs_cons (ob_box rfl rfl rfl (has_g 0 rfl (by kernel_rfl) (by kernel_rfl))) (obs_cons (ob_box rfl rfl rfl (has_g 1 rfl (by kernel_rfl) (by kernel_rfl))) (obs_cons (ob_alc rfl rfl rfl (Str.zero str_frac)) (obs_nil)))) (by kernel_rfl) (by kernel_rfl) (by kernel_rfl) (fun a w hst => ?_)
  have hst : St B w0 14 [] [⟨2, 26, ptrH, _⟩, ⟨3, 26, ptrH, _⟩, ⟨4, 26, ptrH, _⟩] a w := hst
  refine thn_normal ?_
  refine wp_seq ?_
  refine go_lin (sts := [none, none, none]) (news := [⟨5, 26, ptrH, some 6, _, some (7, _)⟩]) (sp := [.val 8 _, .val 9 _, .val 10 _, .val 7 _, .val 11 _, .val 12 _, .alc 3, .sto 3, .val 6 _]) [] hst (obs_cons (ob_v rfl rfl (r_load (loc_at0 0 rfl (by kernel_rfl)) ty_26)) (obs_cons (ob_v rfl rfl (r_load (loc_at0 1 rfl (by kernel_rfl)) ty_26)) (obs_cons (ob_v rfl rfl (r_call (xs := [.tmp 8, .tmp 9]) (subF_c _ _) (.cons (has_v 0 rfl (by kernel_rfl) (by kernel_rfl)) (.cons (has_v 1 rfl (by kernel_rfl) (by kernel_rfl)) .nil)))) (obs_cons (ob_v rfl rfl (r_move (has_v 2 rfl (by kernel_rfl) (by kernel_rfl)))) (obs_cons (ob_v rfl rfl (r_ex0 (has_v 3 rfl (by kernel_rfl) (by kernel_rfl)))) (obs_cons (ob_v rfl rfl (r_ex1 (has_v 3 rfl (by kernel_rfl) (by kernel_rfl)))) (obs_cons (ob_alc rfl rfl rfl (Str.zero str_frac)) (obs_cons (ob_sto rfl rfl rfl (has_v 4 rfl (by kernel_rfl) (by kernel_rfl)) ty_26 rfl) (obs_cons (ob_v rfl rfl (r_assign (has_v 5 rfl (by kernel_rfl) (by kernel_rfl)))) (obs_nil)))))))))) (by kernel_rfl) (by kernel_rfl) (by kernel_rfl) (fun a w hst => ?_)
  have hst : St B w0 14 [] [⟨2, 26, ptrH, _⟩, ⟨3, 26, ptrH, _⟩, ⟨4, 26, ptrH, _⟩, ⟨5, 26, ptrH, _⟩] a w := hst
  refine thn_normal ?_
  refine wp_seq ?_
  refine go_lin (sts := [none, none, some (1, _), none]) (news := []) (sp := [.val 13 _, .sto 2]) [] hst (obs_cons (ob_v rfl rfl (r_load (loc_at0 3 rfl (by kernel_rfl)) ty_26)) (obs_cons (ob_sto rfl rfl rfl (has_v 0 rfl (by kernel_rfl) (by kernel_rfl)) ty_26 rfl) (obs_nil))) (by kernel_rfl) (by kernel_rfl) (by kernel_rfl) (fun a w hst => ?_)
  have hst : St B w0 14 [] [⟨2, 26, ptrH, _⟩, ⟨3, 26, ptrH, _⟩, ⟨4, 26, ptrH, _⟩, ⟨5, 26, ptrH, _⟩] a w := hst
  refine thn_normal ?_
  refine wp_ret ?_
  refine ret_wk ?_ (ret_cell rfl hst (List.mem_of_getElem? (i := 2) rfl) ty_26)
  exact wk_id

set_option maxRecDepth 100000 in
theorem alive_c  : Cn Try.prog 33 [] (Bo true) := by
  refine Cn.intro Try.func33 rfl (by kernel_rfl) (Nat.le_of_ble_eq_true (by kernel_rfl)) (fun B w0 a hst => ?_)
  have hst : St B w0 90 [] [] a w0.w := hst
  refine wp_seq ?_
  refine go_lin (sts := []) (news := []) (sp := [.val 0 _]) [.o 0] hst (obs_cons (ob_v rfl rfl (r_assign has_bo)) (obs_nil)) (by kernel_rfl) (by kernel_rfl) (by kernel_rfl) (fun a w hst => ?_)
  have hst : St B w0 90 [(0, _)] [] a w := hst
  refine thn_normal ?_
  refine wp_seq ?_
  refine go_lin (sts := []) (news := [⟨1, 26, ptrH, some 4, _, some (5, _)⟩]) (sp := [.val 14 _, .val 13 _, .val 15 _, .val 16 _, .alc 0, .sto 0, .val 2 _]) [.g 0] hst (obs_cons (ob_v rfl rfl (r_call (xs := [.const (.int .i64 (1)), .const (.int .i64 (1))]) (ofQ_c (by decide) (by decide) (by decide) (by decide) (by decide)) (.cons has_num (.cons has_num .nil)))) (obs_cons (ob_v rfl rfl (r_move (has_v 0 rfl (by kernel_rfl) (by kernel_rfl)))) (obs_cons (ob_v rfl rfl (r_ex0 (has_v 1 rfl (by kernel_rfl) (by kernel_rfl)))) (obs_cons (ob_v rfl rfl (r_ex1 (has_v 1 rfl (by kernel_rfl) (by kernel_rfl)))) (obs_cons (ob_alc rfl rfl rfl (Str.zero str_frac)) (obs_cons (ob_sto rfl rfl rfl (has_v 2 rfl (by kernel_rfl) (by kernel_rfl)) ty_26 rfl) (obs_cons (ob_v rfl rfl (r_assign (has_v 3 rfl (by kernel_rfl) (by kernel_rfl)))) (obs_nil)))))))) (by kernel_rfl) (by kernel_rfl) (by kernel_rfl) (fun a w hst => ?_)
  have hst : St B w0 90 [(0, _)] [⟨1, 26, ptrH, _⟩] a w := hst
  refine thn_normal ?_
  refine wp_seq ?_
  refine go_lin (sts := [none]) (news := [⟨3, 26, ptrH, some 4, _, some (5, _)⟩]) (sp := [.val 18 _, .val 17 _, .val 19 _, .val 20 _, .alc 1, .sto 1, .val 4 _]) [.g 0] hst (obs_cons (ob_v rfl rfl (r_call (xs := [.const (.int .i64 (0)), .const (.int .i64 (1))]) (ofQ_c (by decide) (by decide) (by decide) (by decide) (by decide)) (.cons has_num (.cons has_num .nil)))) (obs_cons (ob_v rfl rfl (r_move (has_v 0 rfl (by kernel_rfl) (by kernel_rfl)))) (obs_cons (ob_v rfl rfl (r_ex0 (has_v 1 rfl (by kernel_rfl) (by kernel_rfl)))) (obs_cons (ob_v rfl rfl (r_ex1 (has_v 1 rfl (by kernel_rfl) (by kernel_rfl)))) (obs_cons (ob_alc rfl rfl rfl (Str.zero str_frac)) (obs_cons (ob_sto rfl rfl rfl (has_v 2 rfl (by kernel_rfl) (by kernel_rfl)) ty_26 rfl) (obs_cons (ob_v rfl rfl (r_assign (has_v 3 rfl (by kernel_rfl) (by kernel_rfl)))) (obs_nil)))))))) (by kernel_rfl) (by kernel_rfl) (by kernel_rfl) (fun a w hst => ?_)
  have hst : St B w0 90 [(0, _)] [⟨1, 26, ptrH, _⟩, ⟨3, 26, ptrH, _⟩] a w := hst
  refine thn_normal ?_
  refine wp_seq ?_
  refine go_lin (sts := [none, none]) (news := [⟨5, 26, ptrH, some 4, _, some (5, _)⟩]) (sp := [.val 22 _, .val 21 _, .val 23 _, .val 24 _, .alc 2, .sto 2, .val 6 _]) [.g 0] hst (obs_cons (ob_v rfl rfl (r_call (xs := [.const (.int .i64 (1)), .const (.int .i64 (2))]) (ofQ_c (by decide) (by decide) (by decide) (by decide) (by decide)) (.cons has_num (.cons has_num .nil)))) (obs_cons (ob_v rfl rfl (r_move (has_v 0 rfl (by kernel_rfl) (by kernel_rfl)))) (obs_cons (ob_v rfl rfl (r_ex0 (has_v 1 rfl (by kernel_rfl) (by kernel_rfl)))) (obs_cons (ob_v rfl rfl (r_ex1 (has_v 1 rfl (by kernel_rfl) (by kernel_rfl)))) (obs_cons (ob_alc rfl rfl rfl (Str.zero str_frac)) (obs_cons (ob_sto rfl rfl rfl (has_v 2 rfl (by kernel_rfl) (by kernel_rfl)) ty_26 rfl) (obs_cons (ob_v rfl rfl (r_assign (has_v 3 rfl (by kernel_rfl) (by kernel_rfl)))) (obs_nil)))))))) (by kernel_rfl) (by kernel_rfl) (by kernel_rfl) (fun a w hst => ?_)
  have hst : St B w0 90 [(0, _)] [⟨1, 26, ptrH, _⟩, ⟨3, 26, ptrH, _⟩, ⟨5, 26, ptrH, _⟩] a w := hst
  refine thn_normal ?_
  refine wp_seq ?_
  refine go_lin (sts := [none, none, none]) (news := [⟨7, 26, ptrH, some 4, _, some (5, _)⟩]) (sp := [.val 26 _, .val 25 _, .val 27 _, .val 28 _, .alc 3, .sto 3, .val 8 _]) [.g 0] hst (obs_cons (ob_v rfl rfl (r_call (xs := [.const (.int .i64 (-2)), .const (.int .i64 (1))]) (ofQ_c (by decide) (by decide) (by decide) (by decide) (by decide)) (.cons has_num (.cons has_num .nil)))) (obs_cons (ob_v rfl rfl (r_move (has_v 0 rfl (by kernel_rfl) (by kernel_rfl)))) (obs_cons (ob_v rfl rfl (r_ex0 (has_v 1 rfl (by kernel_rfl) (by kernel_rfl)))) (obs_cons (ob_v rfl rfl (r_ex1 (has_v 1 rfl (by kernel_rfl) (by kernel_rfl)))) (obs_cons (ob_alc rfl rfl rfl (Str.zero str_frac)) (obs_cons (ob_sto rfl rfl rfl (has_v 2 rfl (by kernel_rfl) (by kernel_rfl)) ty_26 rfl) (obs_cons (ob_v rfl rfl (r_assign (has_v 3 rfl (by kernel_rfl) (by kernel_rfl)))) (obs_nil)))))))) (by kernel_rfl) (by kernel_rfl) (by kernel_rfl) (fun a w hst => ?_)
  have hst : St B w0 90 [(0, _)] [⟨1, 26, ptrH, _⟩, ⟨3, 26, ptrH, _⟩, ⟨5, 26, ptrH, _⟩, ⟨7, 26, ptrH, _⟩] a w := hst
  refine thn_normal ?_
  refine wp_seq ?_
  refine go_lin (sts := [none, none, none, none]) (news := [⟨9, 42, ptrH, some 14, _, some (15, _)⟩]) (sp := [.val 30 _, .val 31 _, .val 32 _, .val 33 _, .val 34 _, .val 35 _, .val 36 _, .val 37 _, .val 38 _, .val 39 _, .val 40 _, .val 29 _, .val 41 _, .val 42 _, .alc 4, .sto 4, .val 10 _]) [.g 0, .o 16] hst (obs_cons (ob_v rfl rfl (r_load (loc_at0 0 rfl (by kernel_rfl)) ty_26)) (obs_cons (ob_v rfl rfl (r_load (loc_at0 1 rfl (by kernel_rfl)) ty_26)) (obs_cons (ob_v rfl rfl (r_load (loc_at0 3 rfl (by kernel_rfl)) ty_26)) (obs_cons (ob_v rfl rfl (r_load (loc_at0 0 rfl (by kernel_rfl)) ty_26)) (obs_cons (ob_v rfl rfl (r_build (xs := [(0, .tmp 30), (1, .tmp 31), (2, .tmp 32), (3, .tmp 33)]) (qs := [(0, _), (1, _), (2, _), (3, _)]) str_matrix (.cons ⟨rfl, (has_v 0 rfl (by kernel_rfl) (by kernel_rfl)), rfl⟩ (.cons ⟨rfl, (has_v 1 rfl (by kernel_rfl) (by kernel_rfl)), rfl⟩ (.cons ⟨rfl, (has_v 2 rfl (by kernel_rfl) (by kernel_rfl)), rfl⟩ (.cons ⟨rfl, (has_v 3 rfl (by kernel_rfl) (by kernel_rfl)), rfl⟩ .nil)))))) (obs_cons (ob_v rfl rfl (r_load (loc_at0 0 rfl (by kernel_rfl)) ty_26)) (obs_cons (ob_v rfl rfl (r_load (loc_at0 2 rfl (by kernel_rfl)) ty_26)) (obs_cons (ob_v rfl rfl (r_load (loc_at0 1 rfl (by kernel_rfl)) ty_26)) (obs_cons (ob_v rfl rfl (r_load (loc_at0 0 rfl (by kernel_rfl)) ty_26)) (obs_cons (ob_v rfl rfl (r_build (xs := [(0, .tmp 35), (1, .tmp 36), (2, .tmp 37), (3, .tmp 38)]) (qs := [(0, _), (1, _), (2, _), (3, _)]) str_matrix (.cons ⟨rfl, (has_v 5 rfl (by kernel_rfl) (by kernel_rfl)), rfl⟩ (.cons ⟨rfl, (has_v 6 rfl (by kernel_rfl) (by kernel_rfl)), rfl⟩ (.cons ⟨rfl, (has_v 7 rfl (by kernel_rfl) (by kernel_rfl)), rfl⟩ (.cons ⟨rfl, (has_v 8 rfl (by kernel_rfl) (by kernel_rfl)), rfl⟩ .nil)))))) (obs_cons (ob_v rfl rfl (r_call (xs := [.tmp 34, .tmp 39]) (mul09_c ⟨_, _, _, _⟩ ⟨_, _, _, _⟩) (.cons (has_v 4 rfl (by kernel_rfl) (by kernel_rfl)) (.cons (has_v 9 rfl (by kernel_rfl) (by kernel_rfl)) .nil)))) (obs_cons (ob_v rfl rfl (r_move (has_v 10 rfl (by kernel_rfl) (by kernel_rfl)))) (obs_cons (ob_v rfl rfl (r_ex0 (has_v 11 rfl (by kernel_rfl) (by kernel_rfl)))) (obs_cons (ob_v rfl rfl (r_ex1 (has_v 11 rfl (by kernel_rfl) (by kernel_rfl)))) (obs_cons (ob_alc rfl rfl rfl (Str.zero str_matrix)) (obs_cons (ob_sto rfl rfl rfl (has_v 12 rfl (by kernel_rfl) (by kernel_rfl)) ty_42 rfl) (obs_cons (ob_v rfl rfl (r_assign (has_v 13 rfl (by kernel_rfl) (by kernel_rfl)))) (obs_nil)))))))))))))))))) (by kernel_rfl) (by kernel_rfl) (by kernel_rfl) (fun a w hst => ?_)
  have hst : St B w0 90 [(0, _), (10, _)] [⟨1, 26, ptrH, _⟩, ⟨3, 26, ptrH, _⟩, ⟨5, 26, ptrH, _⟩, ⟨7, 26, ptrH, _⟩, ⟨9, 42, ptrH, _⟩] a w := hst
  refine thn_normal ?_
  refine wp_seq ?_
  refine go_lin (sts := [none, none, none, none, none]) (news := [⟨11, 80, ptrH, some 8, _, some (9, _)⟩]) (sp := [.val 44 _, .val 45 _, .val 46 _, .val 47 _, .val 48 _, .val 43 _, .val 49 _, .val 50 _, .alc 5, .sto 5, .val 12 _]) [.g 0, .g 1, .o 10] hst (obs_cons (ob_v rfl rfl (r_load (loc_at0 4 rfl (by kernel_rfl)) ty_42)) (obs_cons (ob_v rfl rfl (r_load (loc_at0 1 rfl (by kernel_rfl)) ty_26)) (obs_cons (ob_v rfl rfl (r_load (loc_at0 0 rfl (by kernel_rfl)) ty_26)) (obs_cons (ob_v rfl rfl (r_build (xs := [(0, .tmp 45), (1, .tmp 46)]) (qs := [(0, _), (1, _)]) str_ray (.cons ⟨rfl, (has_v 1 rfl (by kernel_rfl) (by kernel_rfl)), rfl⟩ (.cons ⟨rfl, (has_v 2 rfl (by kernel_rfl) (by kernel_rfl)), rfl⟩ .nil)))) (obs_cons (ob_v rfl rfl (r_call (xs := [.tmp 44, .tmp 47]) (through_c _ ⟨_, _⟩) (.cons (has_v 0 rfl (by kernel_rfl) (by kernel_rfl)) (.cons (has_v 3 rfl (by kernel_rfl) (by kernel_rfl)) .nil)))) (obs_cons (ob_v rfl rfl (r_move (has_v 4 rfl (by kernel_rfl) (by kernel_rfl)))) (obs_cons (ob_v rfl rfl (r_ex0 (has_v 5 rfl (by kernel_rfl) (by kernel_rfl)))) (obs_cons (ob_v rfl rfl (r_ex1 (has_v 5 rfl (by kernel_rfl) (by kernel_rfl)))) (obs_cons (ob_alc rfl rfl rfl (Str.zero str_ray)) (obs_cons (ob_sto rfl rfl rfl (has_v 6 rfl (by kernel_rfl) (by kernel_rfl)) ty_80 rfl) (obs_cons (ob_v rfl rfl (r_assign (has_v 7 rfl (by kernel_rfl) (by kernel_rfl)))) (obs_nil)))))))))))) (by kernel_rfl) (by kernel_rfl) (by kernel_rfl) (fun a w hst => ?_)
  have hst : St B w0 90 [(0, _), (10, _), (12, _)] [⟨1, 26, ptrH, _⟩, ⟨3, 26, ptrH, _⟩, ⟨5, 26, ptrH, _⟩, ⟨7, 26, ptrH, _⟩, ⟨9, 42, ptrH, _⟩, ⟨11, 80, ptrH, _⟩] a w := hst
  refine thn_normal ?_
  refine wp_seq ?_
  refine go_lin (sts := [none, none, none, none, none, none]) (news := []) (sp := ((.val 51 _ : Sp) :: (.val 52 _) :: (.val 53 _) :: (.val 54 (Wh (_ = true) _)) :: (.val 55 (Wh (_ = true) _)) :: (.val 56 _) :: (.val 57 _) :: (.adr 58 9 (.some 12) (_ = true)) :: (.val 59 (Wh (_ = true) _)) :: (.val 60 (Wh (_ = true) _)) :: (.val 61 (Wh (_ = true) _)) :: (.val 62 _) :: (.val 63 _) :: (.adr 64 9 (.some 8) (_ = true)) :: (.val 65 (Wh (_ = true) _)) :: (.val 66 (Wh (_ = true) _)) :: (.val 67 (Wh (_ = true) _)) :: (.val 68 _) :: (.val 69 _) :: (.adr 70 11 (.some 0) (_ = true)) :: (.val 71 (Wh (_ = true) _)) :: (.val 72 (Wh (_ = true) _)) :: (.val 73 (Wh (_ = true) _)) :: (.val 74 _) :: (.val 75 _) :: (.adr 76 11 (.some 4) (_ = true)) :: (.val 77 (Wh (_ = true) _)) :: (.val 78 (Wh (_ = true) _)) :: (.val 79 (Wh (_ = true) _)) :: (.val 80 _) :: (.val 81 _) :: (.val 82 (Wh (_ = true) _)) :: (.val 83 (Wh (_ = true) _)) :: (.val 84 (Wh (_ = true) _)) :: (.val 85 (Wh (_ = true) _)) :: (.val 86 (Wh (_ = true) _)) :: (.val 87 (Wh (_ = true) _)) :: (.val 88 (Wh (_ = true) _)) :: (.val 89 _) :: (.val 0 _) :: [])) [.o 39] hst (obs_cons (ob_v rfl rfl (r_move (has_g 1 rfl (by kernel_rfl) (by kernel_rfl)))) (obs_cons (ob_v rfl rfl (r_eql (has_v 0 rfl (by kernel_rfl) (by kernel_rfl)) has_num)) (obs_cons (ob_v rfl rfl (r_move (has_v 1 rfl (by kernel_rfl) (by kernel_rfl)))) (obs_cons (ob_gd rfl rfl rfl (has_v 2 rfl (by kernel_rfl) (by kernel_rfl)) (Nat.le_of_ble_eq_true (by kernel_rfl)) (fun hg => r_move (has_g 2 rfl (by kernel_rfl) (by kernel_rfl)))) (obs_cons (ob_gd rfl rfl rfl (has_v 2 rfl (by kernel_rfl) (by kernel_rfl)) (Nat.le_of_ble_eq_true (by kernel_rfl)) (fun hg => r_eql (has_wh (has_v 3 rfl (by kernel_rfl) (by kernel_rfl)) hg) has_num)) (obs_cons (ob_v rfl rfl (r_and (has_v 2 rfl (by kernel_rfl) (by kernel_rfl)) (has_v 4 rfl (by kernel_rfl) (by kernel_rfl)))) (obs_cons (ob_v rfl rfl (r_move (has_v 5 rfl (by kernel_rfl) (by kernel_rfl)))) (obs_cons (ob_ag rfl rfl rfl (has_v 6 rfl (by kernel_rfl) (by kernel_rfl)) (Nat.le_of_ble_eq_true (by kernel_rfl)) (fun hg => a_fld (loc_at0 4 rfl (by kernel_rfl)) fld_42_3)) (obs_cons (ob_gd rfl rfl rfl (has_v 6 rfl (by kernel_rfl) (by kernel_rfl)) (Nat.le_of_ble_eq_true (by kernel_rfl)) (fun hg => r_loadf 7 rfl (by kernel_rfl) hg (loc_at0 4 rfl (by kernel_rfl)) (Sub.part 3 rfl rfl) ty_26)) (obs_cons (ob_gd rfl rfl rfl (has_v 6 rfl (by kernel_rfl) (by kernel_rfl)) (Nat.le_of_ble_eq_true (by kernel_rfl)) (fun hg => r_load (loc_at0 1 rfl (by kernel_rfl)) ty_26)) (obs_cons (ob_gd rfl rfl rfl (has_v 6 rfl (by kernel_rfl) (by kernel_rfl)) (Nat.le_of_ble_eq_true (by kernel_rfl)) (fun hg => r_call (xs := [.tmp 59, .tmp 60]) (sameFrac_c _ _) (.cons (has_wh (has_v 8 rfl (by kernel_rfl) (by kernel_rfl)) hg) (.cons (has_wh (has_v 9 rfl (by kernel_rfl) (by kernel_rfl)) hg) .nil)))) (obs_cons (ob_v rfl rfl (r_and (has_v 6 rfl (by kernel_rfl) (by kernel_rfl)) (has_v 10 rfl (by kernel_rfl) (by kernel_rfl)))) (obs_cons (ob_v rfl rfl (r_move (has_v 11 rfl (by kernel_rfl) (by kernel_rfl)))) (obs_cons (ob_ag rfl rfl rfl (has_v 12 rfl (by kernel_rfl) (by kernel_rfl)) (Nat.le_of_ble_eq_true (by kernel_rfl)) (fun hg => a_fld (loc_at0 4 rfl (by kernel_rfl)) fld_42_2)) (obs_cons (ob_gd rfl rfl rfl (has_v 12 rfl (by kernel_rfl) (by kernel_rfl)) (Nat.le_of_ble_eq_true (by kernel_rfl)) (fun hg => r_loadf 13 rfl (by kernel_rfl) hg (loc_at0 4 rfl (by kernel_rfl)) (Sub.part 2 rfl rfl) ty_26)) (obs_cons (ob_gd rfl rfl rfl (has_v 12 rfl (by kernel_rfl) (by kernel_rfl)) (Nat.le_of_ble_eq_true (by kernel_rfl)) (fun hg => r_load (loc_at0 3 rfl (by kernel_rfl)) ty_26)) (obs_cons (ob_gd rfl rfl rfl (has_v 12 rfl (by kernel_rfl) (by kernel_rfl)) (Nat.le_of_ble_eq_true (by kernel_rfl)) (fun hg => r_call (xs := [.tmp 65, .tmp 66]) (sameFrac_c _ _) (.cons (has_wh (has_v 14 rfl (by kernel_rfl) (by kernel_rfl)) hg) (.cons (has_wh (has_v 15 rfl (by kernel_rfl) (by kernel_rfl)) hg) .nil)))) (obs_cons (ob_v rfl rfl (r_and (has_v 12 rfl (by kernel_rfl) (by kernel_rfl)) (has_v 16 rfl (by kernel_rfl) (by kernel_rfl)))) (obs_cons (ob_v rfl rfl (r_move (has_v 17 rfl (by kernel_rfl) (by kernel_rfl)))) (obs_cons (ob_ag rfl rfl rfl (has_v 18 rfl (by kernel_rfl) (by kernel_rfl)) (Nat.le_of_ble_eq_true (by kernel_rfl)) (fun hg => a_fld (loc_at0 5 rfl (by kernel_rfl)) fld_80_0)) (obs_cons (ob_gd rfl rfl rfl (has_v 18 rfl (by kernel_rfl) (by kernel_rfl)) (Nat.le_of_ble_eq_true (by kernel_rfl)) (fun hg => r_loadf 19 rfl (by kernel_rfl) hg (loc_at0 5 rfl (by kernel_rfl)) (Sub.part 0 rfl rfl) ty_26)) (obs_cons (ob_gd rfl rfl rfl (has_v 18 rfl (by kernel_rfl) (by kernel_rfl)) (Nat.le_of_ble_eq_true (by kernel_rfl)) (fun hg => r_load (loc_at0 2 rfl (by kernel_rfl)) ty_26)) (obs_cons (ob_gd rfl rfl rfl (has_v 18 rfl (by kernel_rfl) (by kernel_rfl)) (Nat.le_of_ble_eq_true (by kernel_rfl)) (fun hg => r_call (xs := [.tmp 71, .tmp 72]) (sameFrac_c _ _) (.cons (has_wh (has_v 20 rfl (by kernel_rfl) (by kernel_rfl)) hg) (.cons (has_wh (has_v 21 rfl (by kernel_rfl) (by kernel_rfl)) hg) .nil)))) (obs_cons (ob_v rfl rfl (r_and (has_v 18 rfl (by kernel_rfl) (by kernel_rfl)) (has_v 22 rfl (by kernel_rfl) (by kernel_rfl)))) (obs_cons (ob_v rfl rfl (r_move (has_v 23 rfl (by kernel_rfl) (by kernel_rfl)))) (obs_cons (ob_ag rfl rfl rfl (has_v 24 rfl (by kernel_rfl) (by kernel_rfl)) (Nat.le_of_ble_eq_true (by kernel_rfl)) (fun hg => a_fld (loc_at0 5 rfl (by kernel_rfl)) fld_80_1)) (obs_cons (ob_gd rfl rfl rfl (has_v 24 rfl (by kernel_rfl) (by kernel_rfl)) (Nat.le_of_ble_eq_true (by kernel_rfl)) (fun hg => r_loadf 25 rfl (by kernel_rfl) hg (loc_at0 5 rfl (by kernel_rfl)) (Sub.part 1 rfl rfl) ty_26)) (obs_cons (ob_gd rfl rfl rfl (has_v 24 rfl (by kernel_rfl) (by kernel_rfl)) (Nat.le_of_ble_eq_true (by kernel_rfl)) (fun hg => r_load (loc_at0 1 rfl (by kernel_rfl)) ty_26)) (obs_cons (ob_gd rfl rfl rfl (has_v 24 rfl (by kernel_rfl) (by kernel_rfl)) (Nat.le_of_ble_eq_true (by kernel_rfl)) (fun hg => r_call (xs := [.tmp 77, .tmp 78]) (sameFrac_c _ _) (.cons (has_wh (has_v 26 rfl (by kernel_rfl) (by kernel_rfl)) hg) (.cons (has_wh (has_v 27 rfl (by kernel_rfl) (by kernel_rfl)) hg) .nil)))) (obs_cons (ob_v rfl rfl (r_and (has_v 24 rfl (by kernel_rfl) (by kernel_rfl)) (has_v 28 rfl (by kernel_rfl) (by kernel_rfl)))) (obs_cons (ob_v rfl rfl (r_move (has_v 29 rfl (by kernel_rfl) (by kernel_rfl)))) (obs_cons (ob_gd rfl rfl rfl (has_v 30 rfl (by kernel_rfl) (by kernel_rfl)) (Nat.le_of_ble_eq_true (by kernel_rfl)) (fun hg => r_load (loc_at0 0 rfl (by kernel_rfl)) ty_26)) (obs_cons (ob_gd rfl rfl rfl (has_v 30 rfl (by kernel_rfl) (by kernel_rfl)) (Nat.le_of_ble_eq_true (by kernel_rfl)) (fun hg => r_load (loc_at0 0 rfl (by kernel_rfl)) ty_26)) (obs_cons (ob_gd rfl rfl rfl (has_v 30 rfl (by kernel_rfl) (by kernel_rfl)) (Nat.le_of_ble_eq_true (by kernel_rfl)) (fun hg => r_load (loc_at0 0 rfl (by kernel_rfl)) ty_26)) (obs_cons (ob_gd rfl rfl rfl (has_v 30 rfl (by kernel_rfl) (by kernel_rfl)) (Nat.le_of_ble_eq_true (by kernel_rfl)) (fun hg => r_load (loc_at0 0 rfl (by kernel_rfl)) ty_26)) (obs_cons (ob_gd rfl rfl rfl (has_v 30 rfl (by kernel_rfl) (by kernel_rfl)) (Nat.le_of_ble_eq_true (by kernel_rfl)) (fun hg => r_build (xs := [(0, .tmp 82), (1, .tmp 83), (2, .tmp 84), (3, .tmp 85)]) (qs := [(0, _), (1, _), (2, _), (3, _)]) str_matrix (.cons ⟨rfl, (has_wh (has_v 31 rfl (by kernel_rfl) (by kernel_rfl)) hg), rfl⟩ (.cons ⟨rfl, (has_wh (has_v 32 rfl (by kernel_rfl) (by kernel_rfl)) hg), rfl⟩ (.cons ⟨rfl, (has_wh (has_v 33 rfl (by kernel_rfl) (by kernel_rfl)) hg), rfl⟩ (.cons ⟨rfl, (has_wh (has_v 34 rfl (by kernel_rfl) (by kernel_rfl)) hg), rfl⟩ .nil)))))) (obs_cons (ob_gd rfl rfl rfl (has_v 30 rfl (by kernel_rfl) (by kernel_rfl)) (Nat.le_of_ble_eq_true (by kernel_rfl)) (fun hg => r_call (xs := [.tmp 86]) (rayCheck_c ⟨_, _, _, _⟩) (.cons (has_wh (has_v 35 rfl (by kernel_rfl) (by kernel_rfl)) hg) .nil))) (obs_cons (ob_gd rfl rfl rfl (has_v 30 rfl (by kernel_rfl) (by kernel_rfl)) (Nat.le_of_ble_eq_true (by kernel_rfl)) (fun hg => r_eql (has_wh (has_v 36 rfl (by kernel_rfl) (by kernel_rfl)) hg) has_num)) (obs_cons (ob_v rfl rfl (r_and (has_v 30 rfl (by kernel_rfl) (by kernel_rfl)) (has_v 37 rfl (by kernel_rfl) (by kernel_rfl)))) (obs_cons (ob_v rfl rfl (r_assign (has_v 38 rfl (by kernel_rfl) (by kernel_rfl)))) (obs_nil))))))))))))))))))))))))))))))))))))))))) (by kernel_rfl) (by kernel_rfl) (by kernel_rfl) (fun a w hst => ?_)
  have hst : St B w0 90 [(0, _)] [⟨1, 26, ptrH, _⟩, ⟨3, 26, ptrH, _⟩, ⟨5, 26, ptrH, _⟩, ⟨7, 26, ptrH, _⟩, ⟨9, 42, ptrH, _⟩, ⟨11, 80, ptrH, _⟩] a w := hst
  refine thn_normal ?_
  refine wp_ret ?_
  refine ret_wk ?_ (ret_tmp rfl hst (List.mem_of_getElem? (i := 0) rfl))
  exact wk_eq (congrArg Bo (by kernel_rfl))

def mayF (m : RM) : Bool := !(decide (matSizeF m > 600) || ((if okM m then (0 : Int) else 1) != 0))
theorem mayF_no {m : RM} (h : (decide (matSizeF m > 600) || ((if okM m then (0 : Int) else 1) != 0)) = true) : mayF m = false := by rw [mayF, h]; rfl
theorem mayF_yes {m : RM} (h : (decide (matSizeF m > 600) || ((if okM m then (0 : Int) else 1) != 0)) = false) : mayF m = true := by rw [mayF, h]; rfl

set_option maxRecDepth 100000 in
theorem may09_c (xs : List RM) : Cn Try.prog 32 [(SlA 42 [U32] (xs.map RMA)).va] (Bo (xs.all mayF)) := by
  refine Cn.intro Try.func32 rfl (by kernel_rfl) (Nat.le_of_ble_eq_true (by kernel_rfl)) (fun B w0 a hst => ?_)
  have hst : St B w0 24 [(0, (SlA 42 [U32] (xs.map RMA)).va)] [] a w0.w := hst
  have hl := slA_lenm (hst.vals (0, (SlA 42 [U32] (xs.map RMA)).va) (List.mem_of_getElem? (i := 0) rfl))
  refine wp_seq ?_
  refine go_lin (sts := []) (news := []) (sp := [.val 2 _]) [.g 0, .o 0] hst (obs_cons (ob_v rfl rfl (r_assign has_bo)) (obs_nil)) (by kernel_rfl) (by kernel_rfl) (by kernel_rfl) (fun a w hst => ?_)
  have hst : St B w0 24 [(0, _), (2, _)] [] a w := hst
  refine thn_normal ?_
  refine wp_seq ?_
  refine wp_seq ?_
  refine go_lin (sts := []) (news := []) (sp := [.val 3 _]) [.g 0, .g 1, .o 0] hst (obs_cons (ob_v rfl rfl (r_assign has_num)) (obs_nil)) (by kernel_rfl) (by kernel_rfl) (by kernel_rfl) (fun a w hst => ?_)
  have hst : St B w0 24 [(0, _), (2, _), (3, _)] [] a w := hst
  refine thn_normal ?_
  refine wp_block ?_
  have hst := St.sel hst [0, 2]
  refine wp_loop_ghost (fun n a w => ∃ j : Nat, (n + j = xs.length ∧ (xs.take j).all mayF = true) ∧ St B w0 24 [(0, (SlA 42 [U32] (xs.map RMA)).va), (3, In (j : Nat))] [] a w) (xs.length) ?_ ?_
  · exact ⟨0, ⟨by omega, rfl⟩, hst⟩
  intro n a w hI
  obtain ⟨j, ⟨hn, hno⟩, hst⟩ := hI
  refine wp_seq ?_
  refine wp_seq ?_
  refine go_lin (sts := []) (news := []) (sp := [.val 4 _, .val 5 _, .val 6 _, .val 7 _]) [.g 0, .g 1, .o 3] hst (obs_cons (ob_v rfl rfl (r_move (has_g 1 rfl (by kernel_rfl) (by kernel_rfl)))) (obs_cons (ob_v rfl rfl (r_move (has_g 0 rfl (by kernel_rfl) (by kernel_rfl)))) (obs_cons (ob_v rfl rfl (r_len Try.underlying107 (has_v 1 rfl (by kernel_rfl) (by kernel_rfl)))) (obs_cons (ob_v rfl rfl (r_lss (has_v 0 rfl (by kernel_rfl) (by kernel_rfl)) (has_v 2 rfl (by kernel_rfl) (by kernel_rfl)))) (obs_nil))))) (by kernel_rfl) (by kernel_rfl) (by kernel_rfl) (fun a w hst => ?_)
  have hst : St B w0 24 [(0, _), (3, _), (7, _)] [] a w := hst
  refine thn_normal ?_
  refine cond_of hst (List.mem_of_getElem? (i := 2) rfl) (fun hb0 => ?_) (fun hb0 => ?_)
  · have hj : j < xs.length := by rw [List.length_map] at hb0; have := of_decide_eq_true hb0; omega
    refine wp_skip ?_
    refine thn_normal ?_
    refine wp_seq ?_
    refine wp_block ?_
    refine wp_seq ?_
    refine go_lin (sts := []) (news := []) (sp := [.val 10 _, .val 11 _, .val 12 _, .val 13 _, .val 14 _, .val 15 _, .val 16 _, .val 17 (Wh (_ = false) _), .val 18 (Wh (_ = false) _), .val 19 (Wh (_ = false) _), .val 20 (Wh (_ = false) _), .val 21 (Wh (_ = false) _), .val 22 (Wh (_ = false) _), .val 23 _]) [.g 0, .g 1, .o 13] hst (obs_cons (ob_v rfl rfl (r_move (has_g 0 rfl (by kernel_rfl) (by kernel_rfl)))) (obs_cons (ob_v rfl rfl (r_move (has_g 1 rfl (by kernel_rfl) (by kernel_rfl)))) (obs_cons (ob_v rfl rfl (r_idx sl_107 (map_n fun _ => rfl) (has_v 0 rfl (by kernel_rfl) (by kernel_rfl)) (has_v 1 rfl (by kernel_rfl) (by kernel_rfl)) (map_at hj))) (obs_cons (ob_v rfl rfl (r_loade (has_v 2 rfl (by kernel_rfl) (by kernel_rfl)) ty_42)) (obs_cons (ob_v rfl rfl (r_call (xs := [.tmp 13]) (matSize_c _) (.cons (has_v 3 rfl (by kernel_rfl) (by kernel_rfl)) .nil))) (obs_cons (ob_v rfl rfl (r_gtr (has_v 4 rfl (by kernel_rfl) (by kernel_rfl)) has_num)) (obs_cons (ob_v rfl rfl (r_move (has_v 5 rfl (by kernel_rfl) (by kernel_rfl)))) (obs_cons (ob_gd rfl rfl rfl (has_v 6 rfl (by kernel_rfl) (by kernel_rfl)) (Nat.le_of_ble_eq_true (by kernel_rfl)) (fun hg => r_move (has_g 0 rfl (by kernel_rfl) (by kernel_rfl)))) (obs_cons (ob_gd rfl rfl rfl (has_v 6 rfl (by kernel_rfl) (by kernel_rfl)) (Nat.le_of_ble_eq_true (by kernel_rfl)) (fun hg => r_move (has_g 1 rfl (by kernel_rfl) (by kernel_rfl)))) (obs_cons (ob_gd rfl rfl rfl (has_v 6 rfl (by kernel_rfl) (by kernel_rfl)) (Nat.le_of_ble_eq_true (by kernel_rfl)) (fun hg => r_idx sl_107 (map_n fun _ => rfl) (has_wh (has_v 7 rfl (by kernel_rfl) (by kernel_rfl)) hg) (has_wh (has_v 8 rfl (by kernel_rfl) (by kernel_rfl)) hg) (map_at hj))) (obs_cons (ob_gd rfl rfl rfl (has_v 6 rfl (by kernel_rfl) (by kernel_rfl)) (Nat.le_of_ble_eq_true (by kernel_rfl)) (fun hg => r_loade (has_wh (has_v 9 rfl (by kernel_rfl) (by kernel_rfl)) hg) ty_42)) (obs_cons (ob_gd rfl rfl rfl (has_v 6 rfl (by kernel_rfl) (by kernel_rfl)) (Nat.le_of_ble_eq_true (by kernel_rfl)) (fun hg => r_call (xs := [.tmp 20]) (rayCheck_c _) (.cons (has_wh (has_v 10 rfl (by kernel_rfl) (by kernel_rfl)) hg) .nil))) (obs_cons (ob_gd rfl rfl rfl (has_v 6 rfl (by kernel_rfl) (by kernel_rfl)) (Nat.le_of_ble_eq_true (by kernel_rfl)) (fun hg => r_neq (has_wh (has_v 11 rfl (by kernel_rfl) (by kernel_rfl)) hg) has_num)) (obs_cons (ob_v rfl rfl (r_or (has_v 6 rfl (by kernel_rfl) (by kernel_rfl)) (has_v 12 rfl (by kernel_rfl) (by kernel_rfl)))) (obs_nil))))))))))))))) (by kernel_rfl) (by kernel_rfl) (by kernel_rfl) (fun a w hst => ?_)
    have hst : St B w0 24 [(0, _), (3, _), (23, _)] [] a w := hst
    refine thn_normal ?_
    refine cond_of hst (List.mem_of_getElem? (i := 2) rfl) (fun hb1 => ?_) (fun hb1 => ?_)
    · refine wp_seq ?_
      refine go_lin (sts := []) (news := []) (sp := [.val 2 _]) [.g 0, .g 1, .o 0] hst (obs_cons (ob_v rfl rfl (r_assign has_bo)) (obs_nil)) (by kernel_rfl) (by kernel_rfl) (by kernel_rfl) (fun a w hst => ?_)
      have hst : St B w0 24 [(0, _), (3, _), (2, _)] [] a w := hst
      refine thn_normal ?_
      refine wp_ret ?_
      refine blk_ret ?_
      refine thn_ret ?_
      refine thn_ret ?_
      refine blk_ret ?_
      refine thn_ret ?_
      refine ret_wk ?_ (ret_tmp rfl hst (List.mem_of_getElem? (i := 2) rfl))
      rw [← all_some hj (mayF_no hb1)]; exact wk_id
    · refine wp_skip ?_
      refine blk_normal ?_
      refine thn_normal ?_
      refine go_lin (sts := []) (news := []) (sp := [.val 8 _, .val 9 _, .val 3 _]) [.g 0, .o 2] hst (obs_cons (ob_v rfl rfl (r_move (has_g 1 rfl (by kernel_rfl) (by kernel_rfl)))) (obs_cons (ob_v rfl rfl (r_add (has_v 0 rfl (by kernel_rfl) (by kernel_rfl)) has_num ((wi64 (by omega) (by omega)).trans (by omega : (_ : Int) = ((j + 1 : Nat) : Int))))) (obs_cons (ob_v rfl rfl (r_assign (has_v 1 rfl (by kernel_rfl) (by kernel_rfl)))) (obs_nil)))) (by kernel_rfl) (by kernel_rfl) (by kernel_rfl) (fun a w hst => ?_)
      have hst : St B w0 24 [(0, _), (3, _)] [] a w := hst
      refine thn_normal ?_
      have hst := St.sel hst [0, 1]
      exact ⟨n - 1, by omega, j + 1, ⟨by omega, all_no hj hno (mayF_yes hb1)⟩, hst⟩
  · obtain rfl : j = xs.length := by rw [List.length_map] at hb0; have := of_decide_eq_false hb0; omega
    refine wp_exit ?_
    refine thn_exit ?_
    refine thn_exit ?_
    refine blk_exit ?_
    refine thn_normal ?_
    refine wp_seq ?_
    refine go_lin (sts := []) (news := []) (sp := [.val 2 _]) [.o 0] hst (obs_cons (ob_v rfl rfl (r_assign has_bo)) (obs_nil)) (by kernel_rfl) (by kernel_rfl) (by kernel_rfl) (fun a w hst => ?_)
    have hst : St B w0 24 [(2, _)] [] a w := hst
    refine thn_normal ?_
    refine wp_ret ?_
    refine ret_wk ?_ (ret_tmp rfl hst (List.mem_of_getElem? (i := 0) rfl))
    rw [List.take_length] at hno; rw [hno]; exact wk_id

end Go.Proofs.Ytiokhlpbdabaeaa
