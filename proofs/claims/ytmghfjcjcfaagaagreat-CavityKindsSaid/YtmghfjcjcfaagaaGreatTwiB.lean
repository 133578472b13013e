/- Twins of numbers, fractions, rays, matrices, points; whether they are as they were. -/
import Derived.Test.YtmghfjcjcfaagaaGreatTwiA
import Derived.Test.YtmghfjcjcfaagaaGreatLeafX
namespace Go.Proofs.YtmghfjcjcfaagaaGreat
open Go Go.RowKit
namespace TwiB
theorem fld_24_0 : Fld Tryz.prog 24 0 0 1 := ⟨_, _, Tryz.underlying24, rfl, rfl, by kernel_rfl, by decide⟩
theorem fld_24_1 : Fld Tryz.prog 24 1 1 1 := ⟨_, _, Tryz.underlying24, rfl, rfl, by kernel_rfl, by decide⟩
theorem sl_22 : Sl Tryz.prog 22 122 1 := ⟨by kernel_rfl, by kernel_rfl⟩
theorem ty_22 : Ty Tryz.prog 22 1 false := ⟨by kernel_rfl, by kernel_rfl⟩
theorem ty_24 : Ty Tryz.prog 24 2 true := ⟨by kernel_rfl, by kernel_rfl⟩
theorem ty_4 : Ty Tryz.prog 4 1 false := ⟨by kernel_rfl, by kernel_rfl⟩
end TwiB
open TwiB
set_option linter.unusedVariables false
theorem oneK {g n c : Nat} : (Value.slice (some ⟨g, 0, none⟩) n c).oneCell' = true := rfl
theorem St.twin {B N : Nat} {w0 : Bs} {Γ : List (Nat × VA)} {Λ : List Lc} {a : Act} {w : World} (h : St B w0 N Γ Λ a w) {s s2 T2 g c : Nat} {H2 : Hd} {b : Bool} {l : List Nat} (k e2 e3 : Nat) (hm : Γ[k]? = some (s, EqV (.slice (some ⟨g, 0, none⟩) l.length c))) (he2 : Λ[e2]? = some ⟨s2, T2, H2, cat [BoA b, SlK (.slice (some ⟨g, 0, none⟩) l.length c) oneK]⟩)
    (he3 : Λ[e3]? = some ⟨s, U32, slH l.length c, Nums .u32 (l ++ [7777])⟩) (ok : okL l) (hc : c = l.length + 1) (hcm : c ≤ maxLen) (hB : B ≤ g) : St B w0 N Γ (Λ.set e2 ⟨s2, T2, H2, RIT ⟨b, l⟩⟩) a w := by
  obtain ⟨g3, cs3, f1, _, f3, f4⟩ := h.locs _ (List.mem_of_getElem? he3)
  have f4' : cs3 = (l ++ [7777]).map fun (x : Nat) => Value.int .u32 x := f4
  have f5 : a.eval (.tmp s) = .slice (some ⟨g, 0, none⟩) l.length c := h.vals _ (List.mem_of_getElem? hm)
  have eg : g = g3 := by
    rw [f5] at f1
    have : some g = some g3 := congrArg blk f1
    injection this
  subst eg
  rw [f4'] at f3
  have hset : ∀ m ∈ Λ.set e2 ⟨s2, T2, H2, RIT ⟨b, l⟩⟩, m = ⟨s2, T2, H2, RIT ⟨b, l⟩⟩ ∨ m ∈ Λ := fun m hm => (List.mem_or_eq_of_mem_set hm).symm
  have hin := List.mem_of_getElem? he2
  refine ⟨h.lo, h.defers, h.size, h.base, h.vals, fun m hm' => ?_, fun m hm1 m' hm2 hne => ?_⟩
  · rcases hset m hm' with rfl | hm'
    · obtain ⟨g2, cs, e1, e2', e3', e4⟩ := h.locs _ hin
      refine ⟨g2, cs, e1, e2', e3', ?_⟩
      obtain ⟨ps, q1, q2⟩ := e4
      cases q2 with
      | cons q3 q2 => cases q2 with
        | cons q4 q2 =>
          refine ⟨_, q1, .cons q3 (.cons ?_ q2)⟩
          exact ⟨ok, g, by rw [← hc]; exact q4, hB, by rw [← hc]; exact hcm, f3⟩
    · exact h.locs m hm'
  · have key : ∀ m ∈ Λ.set e2 ⟨s2, T2, H2, RIT ⟨b, l⟩⟩, ∃ m' ∈ Λ, m'.s = m.s := fun m hm => by
      rcases hset m hm with rfl | hm
      · exact ⟨_, hin, rfl⟩
      · exact ⟨m, hm, rfl⟩
    obtain ⟨p, p1, p2⟩ := key m hm1
    obtain ⟨p', p3, p4⟩ := key m' hm2
    rw [← p2, ← p4]
    exact h.dis p p1 p' p3 (by rw [p2, p4]; exact hne)
theorem drop_rep (n : Nat) : (List.replicate (n + 1) 0).drop n = [0] := by rw [List.drop_replicate, Nat.add_sub_cancel_left]; rfl

set_option maxRecDepth 100000 in
theorem twinInt_c (x : RI) (hx : x.mag.length ≤ 1000000000000) : Cn Tryz.prog 42 [(RIA x).va] ((RIT x).va) := by
  obtain ⟨it, z, e1, e2, e3, e4, e5⟩ := app_u32
  refine Cn.introW Tryz.func42 rfl (by kernel_rfl) nq (.cons (up_ri _).va .nil) (free_rit _).va (fun B w0 a hB0 hst => ?_)
  have hst : St B w0 23 [(0, (RIO x).va)] [] a w0.w := hst
  have hok : okL x.mag := (ri_know (wk_riO _ _ _ (hst.vals _ (List.mem_of_getElem? (i := 0) rfl)))).1
  refine wp_seq ?_
  refine gl (sts := []) (news := [⟨1, 24, ptrH, some 0, _, none⟩, ⟨2, 24, ptrH, some 1, _, none⟩]) (sp := [.alc 0, .alc 1]) [] hst (oc (ob_box rfl rfl rfl (gq 0 rfl)) (oc (ob_alc rfl rfl rfl (Str.zero str_intO)) o0)) (fun a w hst => ?_)
  have hst : St B w0 23 [] [⟨1, 24, ptrH, _⟩, ⟨2, 24, ptrH, _⟩] a w := hst
  refine thn_normal ?_
  refine wp_seq ?_
  refine gl (sts := [none, none]) (news := []) (sp := [.adr 4 1 (.some 1) True, .val 5 _, .val 6 _, .val 7 (In ((x.mag.length + 1 : Nat) : Int)), .val 8 _, .val 3 _]) [.o 5] hst (oc (ob_a rfl rfl (a_fld (lz0 0 rfl) fld_24_1)) (oc (ob_v rfl rfl (r_loadf 0 rfl (by kernel_rfl) trivial (lz0 0 rfl) (Sub.part 1 rfl rfl) ty_22)) (oc (ob_v rfl rfl (r_lenm Tryz.underlying22 (has_old (vq 1 rfl)))) (oc (ob_v rfl rfl (r_add (vq 2 rfl) has_num (wi_succ (by omega)))) (oc (ob_v rfl rfl (r_make0 mk_u32 (Nat.le_of_eq hB0) has_num (vq 3 rfl) (by omega))) (oc (ob_v rfl rfl (r_assign (vq 4 rfl))) o0)))))) (fun a w hst => ?_)
  have hst : St B w0 23 [(3, _)] [⟨1, 24, ptrH, _⟩, ⟨2, 24, ptrH, _⟩] a w := hst
  refine thn_normal ?_
  refine wp_seq ?_
  refine go_appX (sp := [.val 9 _, .adr 10 1 (.some 1) True, .val 11 _, .val 12 VT, .val 3 VT]) 3 [] 0 2 hst (oc (ob_v rfl rfl (r_move (gq 0 rfl))) (oc (ob_a rfl rfl (a_fld (lz0 0 rfl) fld_24_1)) (oc (ob_v rfl rfl (r_loadf 1 rfl (by kernel_rfl) trivial (lz0 0 rfl) (Sub.part 1 rfl rfl) ty_22)) o0))) rfl (by kernel_rfl) rfl rfl (by decide) rfl (by decide) rfl (xs := x.mag) (fun w u h k => wk_mgO _ _ _ h) Tryz.underlying22 e1 e3 (by simp) (by kernel_rfl) nq nq (by kernel_rfl) (by kernel_rfl) (fun a w hst => ?_)
  have hst := St.wkG (A' := RowX w0.w.heap.size (x.mag.length + 1) x.mag [0]) hst 0 rfl (wk_eq (by rw [drop_rep]; rfl))
  have hst : St B w0 23 [(3, _)] [⟨1, 24, ptrH, _⟩, ⟨2, 24, ptrH, _⟩] a w := hst
  refine thn_normal ?_
  refine wp_seq ?_
  obtain ⟨g, hBg, hce, hcm, hst⟩ := St.toRow hst 0 rfl rfl
  refine go_draw (anc := [[], [0], [], [], [2, 3], [], [5], [5, 6], [2, 3, 4, 5, 6, 7], [0, 1, 2, 3, 4, 5, 6, 7, 8], [0, 1, 2, 3, 4, 5, 6, 7, 8, 9]]) (sts := [none, some (10, _), some (4, _)]) (news := []) (sp := [.adr 13 1 (.some 0) True, .val 14 _, .val 15 _, .val 16 _, .cal 17 (EqV (.slice (some ⟨g, 0, none⟩) (x.mag.length + [7777].length) (x.mag.length + 1))) 2, .adr 18 1 (.some 1) True, .val 19 _, .val 20 _, .val 21 (EqV (.slice (some ⟨g, 0, none⟩) x.mag.length (x.mag.length + 1))), .val 22 _, .sto 1]) [.g 0] follows_mixed hst (oc (ob_a rfl rfl (a_fld (lz0 0 rfl) fld_24_0)) (oc (ob_v rfl rfl (r_loadf 0 rfl (by kernel_rfl) trivial (lz0 0 rfl) (Sub.part 0 rfl rfl) ty_4)) (oc (ob_v rfl rfl (r_move (gq 0 rfl))) (oc (ob_v rfl rfl (r_slicem (l := [_]) (xs := [.const (.int .u32 (7777))]) sl_22 (by kernel_rfl) nq nq (okL_one (by decide)) (.cons (has_nat 7777 rfl) .nil) rfl rfl)) (oc (ob_appI (l := x.mag) (r := [0]) (xs := [7777]) rfl rfl rfl Tryz.underlying22 e1 e3 (by decide) hce hcm (vq 2 rfl) (gq 0 rfl) (vq 3 rfl)) (oc (ob_a rfl rfl (a_fld (lz0 0 rfl) fld_24_1)) (oc (ob_v rfl rfl (r_loadf 5 rfl (by kernel_rfl) trivial (lz0 0 rfl) (Sub.part 1 rfl rfl) ty_22)) (oc (ob_v rfl rfl (r_lenm Tryz.underlying22 (has_old (vq 6 rfl)))) (oc (ob_v rfl rfl (r_winE0 sl_22 (has_c 4 rfl (by kernel_rfl) (by kernel_rfl)) (vq 7 rfl) ⟨by omega, by omega⟩)) (oc (ob_v rfl rfl (r_build (xs := [(0, .tmp 14), (1, .tmp 21)]) (qs := [(0, _), (1, SlK (.slice (some ⟨g, 0, none⟩) x.mag.length (x.mag.length + 1)) oneK)]) str_intO (.cons ⟨rfl, (vq 1 rfl), rfl⟩ (.cons ⟨rfl, has_wk' (vq 8 rfl) (eqv_slK (h := oneK)), rfl⟩ .nil)))) (oc (ob_sto rfl rfl rfl (vq 9 rfl) ty_24 (Eq.trans (b := 2) rfl rfl)) o0))))))))))) (by kernel_rfl) (by kernel_rfl) (by kernel_rfl) (by kernel_rfl) (fun a w hst => ?_)
  have hst : St B w0 23 [(3, _)] [⟨1, 24, ptrH, _⟩, ⟨2, 24, ptrH, _⟩, ⟨3, 122, slH _ _, _⟩] a w := hst
  have hst := St.wkL (A := Nums .u32 (x.mag ++ [7777] ++ [])) (A' := Nums .u32 (x.mag ++ [7777])) hst 2 rfl (wkA_eq (by rw [List.append_nil]))
  have hst := St.twin hst 0 1 2 rfl rfl rfl hok (by simp at hce; omega) hcm hBg
  refine thn_normal ?_
  refine wp_ret ?_
  refine ret_wk ?_ (ret_cell rfl hst (List.mem_of_getElem? (i := 1) rfl) ty_24)
  exact wk_id

end Go.Proofs.YtmghfjcjcfaagaaGreat
