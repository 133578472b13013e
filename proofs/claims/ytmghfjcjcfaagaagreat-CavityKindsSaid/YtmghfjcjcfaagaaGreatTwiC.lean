/- Twins of fractions, rays, matrices, beams; whether they are as they were. -/
import Derived.Test.YtmghfjcjcfaagaaGreatTwiB
import Derived.Test.YtmghfjcjcfaagaaGreatLeafX
namespace Go.Proofs.YtmghfjcjcfaagaaGreat
open Go Go.RowKit
namespace TwiC
theorem fld_24_1 : Fld Tryz.prog 24 1 1 1 := ⟨_, _, Tryz.underlying24, rfl, rfl, by kernel_rfl, by decide⟩
theorem fld_26_0 : Fld Tryz.prog 26 0 0 2 := ⟨_, _, Tryz.underlying26, rfl, rfl, by kernel_rfl, by decide⟩
theorem fld_26_1 : Fld Tryz.prog 26 1 2 2 := ⟨_, _, Tryz.underlying26, rfl, rfl, by kernel_rfl, by decide⟩
theorem fld_28_0 : Fld Tryz.prog 28 0 0 4 := ⟨_, _, Tryz.underlying28, rfl, rfl, by kernel_rfl, by decide⟩
theorem fld_28_1 : Fld Tryz.prog 28 1 4 4 := ⟨_, _, Tryz.underlying28, rfl, rfl, by kernel_rfl, by decide⟩
theorem fld_28_2 : Fld Tryz.prog 28 2 8 4 := ⟨_, _, Tryz.underlying28, rfl, rfl, by kernel_rfl, by decide⟩
theorem fld_28_3 : Fld Tryz.prog 28 3 12 4 := ⟨_, _, Tryz.underlying28, rfl, rfl, by kernel_rfl, by decide⟩
theorem fld_30_0 : Fld Tryz.prog 30 0 0 4 := ⟨_, _, Tryz.underlying30, rfl, rfl, by kernel_rfl, by decide⟩
theorem fld_30_1 : Fld Tryz.prog 30 1 4 4 := ⟨_, _, Tryz.underlying30, rfl, rfl, by kernel_rfl, by decide⟩
theorem fld_52_0 : Fld Tryz.prog 52 0 0 4 := ⟨_, _, Tryz.underlying52, rfl, rfl, by kernel_rfl, by decide⟩
theorem fld_52_1 : Fld Tryz.prog 52 1 4 4 := ⟨_, _, Tryz.underlying52, rfl, rfl, by kernel_rfl, by decide⟩
theorem sl_22 : Sl Tryz.prog 22 122 1 := ⟨by kernel_rfl, by kernel_rfl⟩
theorem ty_122 : Ty Tryz.prog 122 1 false := ⟨by kernel_rfl, by kernel_rfl⟩
theorem ty_22 : Ty Tryz.prog 22 1 false := ⟨by kernel_rfl, by kernel_rfl⟩
theorem ty_24 : Ty Tryz.prog 24 2 true := ⟨by kernel_rfl, by kernel_rfl⟩
theorem ty_26 : Ty Tryz.prog 26 4 true := ⟨by kernel_rfl, by kernel_rfl⟩
theorem ty_28 : Ty Tryz.prog 28 16 true := ⟨by kernel_rfl, by kernel_rfl⟩
theorem ty_30 : Ty Tryz.prog 30 8 true := ⟨by kernel_rfl, by kernel_rfl⟩
theorem ty_52 : Ty Tryz.prog 52 8 true := ⟨by kernel_rfl, by kernel_rfl⟩
end TwiC
open TwiC
set_option linter.unusedVariables false
def RFT (x : RF) : As := cat [RIT x.num, RIT x.den]
theorem wkA_twN {l : List Nat} : WkA (TwN l) (MgA l) := ⟨rfl, rfl, fun B cs w h => by
  obtain ⟨cs', h1, h2⟩ := twN_A B (shape false cs) w ⟨cs, h, rfl⟩
  have l1 := (TwN l).len _ _ _ h
  have l2 := (MgA l).len _ _ _ h1
  match cs, cs', l1, l2 with
  | [c], [c'], _, _ =>
    have e : c = c' := h2
    subst e
    exact h1⟩
theorem wkA_rit {x : RI} : WkA (RIT x) (RIA x) := cat_wk (.cons (.refl _) (.cons wkA_twN .nil))
theorem wkA_rft {x : RF} : WkA (RFT x) (RFA x) := cat_wk (.cons wkA_rit (.cons wkA_rit .nil))
section
variable {P : Program} {R : Rg} {Q : Exit → Act → World → Prop} {B i : Nat} {w0 : Bs}
theorem twN_va {l : List Nat} {B : Nat} {v : Value} {w : World} (h : (TwN l).va.p B v w) : okL l ∧ ∃ g, v = .slice (some ⟨g, 0, none⟩) l.length (l.length + 1) ∧ l.length + 1 ≤ maxLen ∧ w.heap[g]? = some (.cells ((l ++ [7777]).map fun (x : Nat) => Value.int .u32 x).toArray U32 (0, 0)) := by
  obtain ⟨cs, ⟨ok, g, e, h1, h2, h3⟩, hv⟩ := h
  subst e
  exact ⟨ok, g, hv, h2, h3⟩
theorem r_capT {x : Operand} {S E' : TypeId} {l : List Nat} (hS : P.underlying S = some (.slice E')) (hx : Has R B w0 i x (TwN l).va) : Wv P Q R B w0 i (.call ⟨.builtin .cap, #[x], #[S]⟩) (In ((l.length + 1 : Nat) : Int)) :=
  wv_run fun d T ps af gd a w av => by
    obtain ⟨_, g, hv, _, _⟩ := twN_va (hx a w av)
    refine ⟨.int .i64 ((l.length + 1 : Nat) : Int), w, ?_, Grow.refl w, val_num _ _ _ _⟩
    simp [execOp, resolve, invoke, builtin, hv, Builtin.cap_, run_underlying hS, goInt]
theorem r_reslT {x z : Operand} {S : TypeId} {l : List Nat} (hS : Sl P S U32 1) (hx : Has R B w0 i x (TwN l).va) (hz : Has R B w0 i z (In ((l.length + 1 : Nat) : Int))) : Wv P Q R B w0 i (.slice S x none (some z) none) (MgA (l ++ [7777])).va :=
  wv_run fun d T ps af gd a w av => by
    obtain ⟨hs1, hs2⟩ := hS
    obtain ⟨ok, g, e1, hm, hh⟩ := twN_va (hx a w av)
    have e3 := num_val (hz a w av)
    have hE : P.elem S = U32 := by simp [Program.elem, hs1]
    have hs1' : P.underlying S = some (.slice (P.elem S)) := by rw [hE]; exact hs1
    have hsz : ∀ w, (sizeOf U32).run P w = .ok 1 w := fun w => by
      cases hi : P.info? U32 with
      | none => rw [hi] at hs2; simp at hs2
      | some it => rw [hi] at hs2; simp [sizeOf, typeInfo, hi]; simpa using hs2
    refine ⟨.slice (some ⟨g, 0, none⟩) (l.length + 1) (l.length + 1), w, ?_, Grow.refl w, mg_shut (twN_full ok hm hh) (by simp)⟩
    have hr := run_slice_h (P := P) w S (some ⟨g, 0, none⟩) l.length (l.length + 1) hs1' .i64 ((l.length + 1 : Nat) : Int) (by omega) (by omega)
    rw [hE, hsz] at hr
    have hne : ¬ l.length + 1 = 0 := by omega
    simp only [Result.andThen_ok, sliced, Int.toNat_natCast, hne, if_false, Nat.mul_one, Option.map_some, Nat.sub_zero] at hr
    simp only [execOp, e1, e3, Option.map_some, run_sliceAt_slice _ _ _ _ _ _ hs1', Sem.run_bind, Sem.run_pure]
    erw [hr]
    simp [Addr.add]
theorem twn_at {l : List Nat} (h : l.length < (l ++ [7777]).length) : (l ++ [7777])[l.length]'h = 7777 := by simp
end

set_option maxRecDepth 100000 in
set_option maxHeartbeats 1000000 in
theorem leftInt_c (x y : RI) (hx : x.mag.length ≤ 1000000000000) : Cn Tryz.prog 53 [(RIT x).va, (RIA y).va] (Bo (decide (x = y))) := by
  refine Cn.intro Tryz.func53 rfl (by kernel_rfl) nq (fun B w0 a hst => ?_)
  have hst : St B w0 32 [(0, (RIT x).va), (1, (RIA y).va)] [] a w0.w := hst
  refine wp_seq ?_
  refine gl (sts := []) (news := [⟨2, 24, ptrH, some 0, _, none⟩, ⟨3, 24, ptrH, some 1, _, none⟩]) (sp := [.alc 0, .alc 1, .val 4 _]) [.o 2] hst (oc (ob_box rfl rfl rfl (gq 0 rfl)) (oc (ob_box rfl rfl rfl (gq 1 rfl)) (oc (ob_v rfl rfl (r_assign has_bo)) o0))) (fun a w hst => ?_)
  have hst : St B w0 32 [(4, _)] [⟨2, 24, ptrH, _⟩, ⟨3, 24, ptrH, _⟩] a w := hst
  refine thn_normal ?_
  refine wp_seq ?_
  refine go_draw (anc := [[], [], [0, 1], [0, 1, 2], [0, 1, 2, 3], [0, 1, 2, 3, 4], [0, 1, 2, 3, 4, 5], [0, 1, 2, 3], [0, 1, 2, 3, 7], [0, 1, 2, 3, 7, 8], [0, 1, 2, 3, 4, 5, 6, 7, 8, 9], [0, 1, 2, 3, 4, 5, 6, 7, 8, 9, 10], [0, 1, 2, 3, 4, 5, 6, 7, 8, 9, 10, 11], [0, 1, 2, 3, 4, 5, 6, 7, 8, 9, 10, 11, 12], [0, 1, 2, 3, 4, 5, 6, 7, 8, 9, 10, 11, 12, 13], [0, 1, 2, 3, 4, 5, 6, 7, 8, 9, 10, 11, 12], [0, 1, 2, 3, 4, 5, 6, 7, 8, 9, 10, 11, 12, 15], [0, 1, 2, 3, 4, 5, 6, 7, 8, 9, 10, 11, 12, 15, 16], [0, 1, 2, 3, 4, 5, 6, 7, 8, 9, 10, 11, 12, 15, 16, 17], [0, 1, 2, 3, 4, 5, 6, 7, 8, 9, 10, 11, 12, 13, 14, 15, 16, 17, 18], [0, 1, 2, 3, 4, 5, 6, 7, 8, 9, 10, 11, 12], [0, 1, 2, 3, 4, 5, 6, 7, 8, 9, 10, 11, 12, 20], [0, 1, 2, 3, 4, 5, 6, 7, 8, 9, 10, 11, 12, 20, 21], [0, 1, 2, 3, 4, 5, 6, 7, 8, 9, 10, 11, 12, 13, 14, 15, 16, 17, 18, 19, 20, 21, 22], [0, 1, 2, 3, 4, 5, 6, 7, 8, 9, 10, 11, 12, 13, 14, 15, 16, 17, 18, 19, 20, 21, 22, 23], [0, 1, 2, 3, 4, 5, 6, 7, 8, 9, 10, 11, 12, 13, 14, 15, 16, 17, 18, 19, 20, 21, 22, 23, 24], [0, 1, 2, 3, 4, 5, 6, 7, 8, 9, 10, 11, 12, 13, 14, 15, 16, 17, 18, 19, 20, 21, 22, 23, 24, 25], [0, 1, 2, 3, 4, 5, 6, 7, 8, 9, 10, 11, 12, 13, 14, 15, 16, 17, 18, 19, 20, 21, 22, 23, 24, 25, 26]]) (sts := [none, none]) (news := []) (sp := ((.val 5 _ : Sp) :: (.val 6 _) :: (.val 7 _) :: (.val 8 _) :: (.adr 9 2 (.some 1) (_ = true)) :: (.val 10 (Wh (_ = true) _)) :: (.val 11 (Wh (_ = true) _)) :: (.adr 12 2 (.some 1) (_ = true)) :: (.val 13 (Wh (_ = true) _)) :: (.val 14 (Wh (_ = true) _)) :: (.val 15 (Wh (_ = true) _)) :: (.val 16 _) :: (.val 17 _) :: (.adr 18 2 (.some 1) (_ = true)) :: (.val 19 (Wh (_ = true) _)) :: (.adr 20 2 (.some 1) (_ = true)) :: (.val 21 (Wh (_ = true) _)) :: (.val 22 (Wh (_ = true) _)) :: (.val 23 (Wh (_ = true) _)) :: (.val 24 (Wh (_ = true) _)) :: (.adr 25 2 (.some 1) (_ = true)) :: (.val 26 (Wh (_ = true) _)) :: (.val 27 (Wh (_ = true) _)) :: (.val 28 (Wh (_ = true) _)) :: (.val 29 (Wh (_ = true) _)) :: (.val 30 (Wh (_ = true) _)) :: (.val 31 _) :: (.val 4 _) :: [])) [.o 27] follows_mixed hst (oc (ob_v rfl rfl (r_load (lz0 0 rfl) ty_24)) (oc (ob_v rfl rfl (r_load (lz0 1 rfl) ty_24)) (oc (ob_v rfl rfl (r_call (xs := [.tmp 5, .tmp 6]) ((sameInt_c x y).wk (.cons wkA_rit.va (.cons wk_id .nil))) (.cons (vq 0 rfl) (.cons (vq 1 rfl) .nil)))) (oc (ob_v rfl rfl (r_move (vq 2 rfl))) (oc (ob_ag rfl rfl rfl (vq 3 rfl) nq (fun hg => a_fld (lz0 0 rfl) fld_24_1)) (oc (ob_gd rfl rfl rfl (vq 3 rfl) nq (fun hg => r_loadf 4 rfl (by kernel_rfl) hg (lz0 0 rfl) (Sub.part 1 rfl rfl) ty_22)) (oc (ob_gd rfl rfl rfl (vq 3 rfl) nq (fun hg => r_capT Tryz.underlying22 (has_wh (vq 5 rfl) hg))) (oc (ob_ag rfl rfl rfl (vq 3 rfl) nq (fun hg => a_fld (lz0 0 rfl) fld_24_1)) (oc (ob_gd rfl rfl rfl (vq 3 rfl) nq (fun hg => r_loadf 7 rfl (by kernel_rfl) hg (lz0 0 rfl) (Sub.part 1 rfl rfl) ty_22)) (oc (ob_gd rfl rfl rfl (vq 3 rfl) nq (fun hg => r_lenm Tryz.underlying22 (has_wk' (has_wh (vq 8 rfl) hg) twN_A))) (oc (ob_gd rfl rfl rfl (vq 3 rfl) nq (fun hg => r_gtr (has_wh (vq 6 rfl) hg) (has_wh (vq 9 rfl) hg))) (oc (ob_v rfl rfl (r_and (vq 3 rfl) (vq 10 rfl))) (oc (ob_v rfl rfl (r_move (vq 11 rfl))) (oc (ob_ag rfl rfl rfl (vq 12 rfl) nq (fun hg => a_fld (lz0 0 rfl) fld_24_1)) (oc (ob_gd rfl rfl rfl (vq 12 rfl) nq (fun hg => r_loadf 13 rfl (by kernel_rfl) hg (lz0 0 rfl) (Sub.part 1 rfl rfl) ty_22)) (oc (ob_ag rfl rfl rfl (vq 12 rfl) nq (fun hg => a_fld (lz0 0 rfl) fld_24_1)) (oc (ob_gd rfl rfl rfl (vq 12 rfl) nq (fun hg => r_loadf 15 rfl (by kernel_rfl) hg (lz0 0 rfl) (Sub.part 1 rfl rfl) ty_22)) (oc (ob_gd rfl rfl rfl (vq 12 rfl) nq (fun hg => r_lenm Tryz.underlying22 (has_wk' (has_wh (vq 16 rfl) hg) twN_A))) (oc (ob_gd rfl rfl rfl (vq 12 rfl) nq (fun hg => r_add (has_wh (vq 17 rfl) hg) has_num (wi_succ (by omega)))) (oc (ob_gd rfl rfl rfl (vq 12 rfl) nq (fun hg => r_reslT sl_22 (has_wh (vq 14 rfl) hg) (has_wh (vq 18 rfl) hg))) (oc (ob_ag rfl rfl rfl (vq 12 rfl) nq (fun hg => a_fld (lz0 0 rfl) fld_24_1)) (oc (ob_gd rfl rfl rfl (vq 12 rfl) nq (fun hg => r_loadf 20 rfl (by kernel_rfl) hg (lz0 0 rfl) (Sub.part 1 rfl rfl) ty_22)) (oc (ob_gd rfl rfl rfl (vq 12 rfl) nq (fun hg => r_lenm Tryz.underlying22 (has_wk' (has_wh (vq 21 rfl) hg) twN_A))) (oc (ob_gd rfl rfl rfl (vq 12 rfl) nq (fun hg => r_idxmd sl_22 (has_wh (vq 19 rfl) hg) (has_wh (vq 22 rfl) hg) (by simp))) (oc (ob_gd rfl rfl rfl (vq 12 rfl) nq (fun hg => r_loade (has_wh (vq 23 rfl) hg) ty_122)) (oc (ob_gd rfl rfl rfl (vq 12 rfl) nq (fun hg => r_eql (has_wh (vq 24 rfl) hg) (has_nat 7777 rfl))) (oc (ob_v rfl rfl (r_and (vq 12 rfl) (vq 25 rfl))) (oc (ob_v rfl rfl (r_assign (vq 26 rfl))) o0)))))))))))))))))))))))))))) (by kernel_rfl) (by kernel_rfl) (by kernel_rfl) (by kernel_rfl) (fun a w hst => ?_)
  have hst : St B w0 32 [(4, _)] [⟨2, 24, ptrH, _⟩, ⟨3, 24, ptrH, _⟩] a w := hst
  refine thn_normal ?_
  refine wp_ret ?_
  refine ret_wk ?_ (ret_tmp rfl hst (List.mem_of_getElem? (i := 0) rfl))
  refine wk_eq (congrArg Bo ?_); simp; omega

theorem RI_bd {x : RI} (h : x.mag.length ≤ 1000000000000) : x.mag.length ≤ 1000000000000 := h
/-- of such a length as a copy may have. -/
def bdF (x : RF) : Prop := x.num.mag.length ≤ 1000000000000 ∧ x.den.mag.length ≤ 1000000000000
def RGT (x : RG) : As := cat [RFT x.re, RFT x.im]
def RMT (x : RM) : As := cat [RFT x.a, RFT x.b, RFT x.c, RFT x.d]
def RRT (x : RR) : As := cat [RFT x.y, RFT x.u]
theorem wkA_rgt {x : RG} : WkA (RGT x) (RGA x) := cat_wk (.cons wkA_rft (.cons wkA_rft .nil))
theorem wkA_rmt {x : RM} : WkA (RMT x) (RMA x) := cat_wk (.cons wkA_rft (.cons wkA_rft (.cons wkA_rft (.cons wkA_rft .nil))))
theorem wkA_rrt {x : RR} : WkA (RRT x) (RRA x) := cat_wk (.cons wkA_rft (.cons wkA_rft .nil))

set_option maxRecDepth 100000 in
theorem twinFrac_c (x : RF) (hx : bdF x) : Cn Tryz.prog 13 [(RFA x).va] ((RFT x).va) := by
  refine Cn.intro Tryz.func13 rfl (by kernel_rfl) nq (fun B w0 a hst => ?_)
  have hst : St B w0 10 [(0, (RFA x).va)] [] a w0.w := hst
  refine wp_seq ?_
  refine gl (sts := []) (news := [⟨1, 26, ptrH, some 0, _, none⟩, ⟨2, 26, ptrH, some 1, _, none⟩]) (sp := [.alc 0, .alc 1]) [] hst (oc (ob_box rfl rfl rfl (gq 0 rfl)) (oc (ob_alc rfl rfl rfl (Str.zero str_frac)) o0)) (fun a w hst => ?_)
  have hst : St B w0 10 [] [⟨1, 26, ptrH, _⟩, ⟨2, 26, ptrH, _⟩] a w := hst
  refine thn_normal ?_
  refine wp_seq ?_
  refine go_draw (anc := [[], [0], [0, 1], [], [3], [0, 1, 2, 3, 4], [0, 1, 2, 3, 4, 5], [0, 1, 2, 3, 4, 5, 6]]) (sts := [none, some (7, _)]) (news := []) (sp := [.adr 3 1 (.some 0) True, .val 4 _, .val 5 _, .adr 6 1 (.some 2) True, .val 7 _, .val 8 _, .val 9 _, .sto 1]) [] follows_mixed hst (oc (ob_a rfl rfl (a_fld (lz0 0 rfl) fld_26_0)) (oc (ob_v rfl rfl (r_loadf 0 rfl (by kernel_rfl) trivial (lz0 0 rfl) (Sub.part 0 rfl rfl) ty_24)) (oc (ob_v rfl rfl (r_call (xs := [.tmp 4]) (twinInt_c _ hx.1) (.cons (vq 1 rfl) .nil))) (oc (ob_a rfl rfl (a_fld (lz0 0 rfl) fld_26_1)) (oc (ob_v rfl rfl (r_loadf 3 rfl (by kernel_rfl) trivial (lz0 0 rfl) (Sub.part 1 rfl rfl) ty_24)) (oc (ob_v rfl rfl (r_call (xs := [.tmp 7]) (twinInt_c _ hx.2) (.cons (vq 4 rfl) .nil))) (oc (ob_v rfl rfl (r_build (xs := [(0, .tmp 5), (1, .tmp 8)]) (qs := [(0, _), (1, _)]) str_frac (.cons ⟨rfl, (vq 2 rfl), rfl⟩ (.cons ⟨rfl, (vq 5 rfl), rfl⟩ .nil)))) (oc (ob_sto rfl rfl rfl (vq 6 rfl) ty_26 (Eq.trans (b := 4) rfl rfl)) o0)))))))) (by kernel_rfl) (by kernel_rfl) (by kernel_rfl) (by kernel_rfl) (fun a w hst => ?_)
  have hst : St B w0 10 [] [⟨1, 26, ptrH, _⟩, ⟨2, 26, ptrH, _⟩] a w := hst
  refine thn_normal ?_
  refine wp_ret ?_
  refine ret_wk ?_ (ret_cell rfl hst (List.mem_of_getElem? (i := 1) rfl) ty_26)
  exact wk_id

set_option maxRecDepth 100000 in
theorem leftFrac_c (x y : RF) (hx : bdF x) : Cn Tryz.prog 18 [(RFT x).va, (RFA y).va] (Bo (decide (x = y))) := by
  refine Cn.intro Tryz.func18 rfl (by kernel_rfl) nq (fun B w0 a hst => ?_)
  have hst : St B w0 17 [(0, (RFT x).va), (1, (RFA y).va)] [] a w0.w := hst
  refine wp_seq ?_
  refine gl (sts := []) (news := [⟨2, 26, ptrH, some 0, _, none⟩, ⟨3, 26, ptrH, some 1, _, none⟩]) (sp := [.alc 0, .alc 1, .val 4 _]) [.o 2] hst (oc (ob_box rfl rfl rfl (gq 0 rfl)) (oc (ob_box rfl rfl rfl (gq 1 rfl)) (oc (ob_v rfl rfl (r_assign has_bo)) o0))) (fun a w hst => ?_)
  have hst : St B w0 17 [(4, _)] [⟨2, 26, ptrH, _⟩, ⟨3, 26, ptrH, _⟩] a w := hst
  refine thn_normal ?_
  refine wp_seq ?_
  refine gl (sts := [none, none]) (news := []) (sp := [.adr 5 2 (.some 0) True, .val 6 _, .adr 7 3 (.some 0) True, .val 8 _, .val 9 _, .val 10 _, .adr 11 2 (.some 2) (_ = true), .val 12 (Wh (_ = true) _), .adr 13 3 (.some 2) (_ = true), .val 14 (Wh (_ = true) _), .val 15 (Wh (_ = true) _), .val 16 _, .val 4 _]) [.o 12] hst (oc (ob_a rfl rfl (a_fld (lz0 0 rfl) fld_26_0)) (oc (ob_v rfl rfl (r_loadf 0 rfl (by kernel_rfl) trivial (lz0 0 rfl) (Sub.part 0 rfl rfl) ty_24)) (oc (ob_a rfl rfl (a_fld (lz0 1 rfl) fld_26_0)) (oc (ob_v rfl rfl (r_loadf 2 rfl (by kernel_rfl) trivial (lz0 1 rfl) (Sub.part 0 rfl rfl) ty_24)) (oc (ob_v rfl rfl (r_call (xs := [.tmp 6, .tmp 8]) (leftInt_c _ _ hx.1) (.cons (vq 1 rfl) (.cons (vq 3 rfl) .nil)))) (oc (ob_v rfl rfl (r_move (vq 4 rfl))) (oc (ob_ag rfl rfl rfl (vq 5 rfl) nq (fun hg => a_fld (lz0 0 rfl) fld_26_1)) (oc (ob_gd rfl rfl rfl (vq 5 rfl) nq (fun hg => r_loadf 6 rfl (by kernel_rfl) hg (lz0 0 rfl) (Sub.part 1 rfl rfl) ty_24)) (oc (ob_ag rfl rfl rfl (vq 5 rfl) nq (fun hg => a_fld (lz0 1 rfl) fld_26_1)) (oc (ob_gd rfl rfl rfl (vq 5 rfl) nq (fun hg => r_loadf 8 rfl (by kernel_rfl) hg (lz0 1 rfl) (Sub.part 1 rfl rfl) ty_24)) (oc (ob_gd rfl rfl rfl (vq 5 rfl) nq (fun hg => r_call (xs := [.tmp 12, .tmp 14]) (leftInt_c _ _ hx.2) (.cons (has_wh (vq 7 rfl) hg) (.cons (has_wh (vq 9 rfl) hg) .nil)))) (oc (ob_v rfl rfl (r_and (vq 5 rfl) (vq 10 rfl))) (oc (ob_v rfl rfl (r_assign (vq 11 rfl))) o0))))))))))))) (fun a w hst => ?_)
  have hst : St B w0 17 [(4, _)] [⟨2, 26, ptrH, _⟩, ⟨3, 26, ptrH, _⟩] a w := hst
  refine thn_normal ?_
  refine wp_ret ?_
  refine ret_wk ?_ (ret_tmp rfl hst (List.mem_of_getElem? (i := 0) rfl))
  exact wk_eq (congrArg Bo rf_eq)

set_option maxRecDepth 100000 in
theorem twinGauss_c (x : RG) (hx : bdF x.re ∧ bdF x.im) : Cn Tryz.prog 25 [(RGA x).va] ((RGT x).va) := by
  refine Cn.intro Tryz.func25 rfl (by kernel_rfl) nq (fun B w0 a hst => ?_)
  have hst : St B w0 10 [(0, (RGA x).va)] [] a w0.w := hst
  refine wp_seq ?_
  refine gl (sts := []) (news := [⟨1, 52, ptrH, some 0, _, none⟩, ⟨2, 52, ptrH, some 1, _, none⟩]) (sp := [.alc 0, .alc 1]) [] hst (oc (ob_box rfl rfl rfl (gq 0 rfl)) (oc (ob_alc rfl rfl rfl (Str.zero str_gauss)) o0)) (fun a w hst => ?_)
  have hst : St B w0 10 [] [⟨1, 52, ptrH, _⟩, ⟨2, 52, ptrH, _⟩] a w := hst
  refine thn_normal ?_
  refine wp_seq ?_
  refine go_draw (anc := [[], [0], [0, 1], [], [3], [0, 1, 2, 3, 4], [0, 1, 2, 3, 4, 5], [0, 1, 2, 3, 4, 5, 6]]) (sts := [none, some (7, _)]) (news := []) (sp := [.adr 3 1 (.some 0) True, .val 4 _, .val 5 _, .adr 6 1 (.some 4) True, .val 7 _, .val 8 _, .val 9 _, .sto 1]) [] follows_mixed hst (oc (ob_a rfl rfl (a_fld (lz0 0 rfl) fld_52_0)) (oc (ob_v rfl rfl (r_loadf 0 rfl (by kernel_rfl) trivial (lz0 0 rfl) (Sub.part 0 rfl rfl) ty_26)) (oc (ob_v rfl rfl (r_call (xs := [.tmp 4]) (twinFrac_c _ hx.1) (.cons (vq 1 rfl) .nil))) (oc (ob_a rfl rfl (a_fld (lz0 0 rfl) fld_52_1)) (oc (ob_v rfl rfl (r_loadf 3 rfl (by kernel_rfl) trivial (lz0 0 rfl) (Sub.part 1 rfl rfl) ty_26)) (oc (ob_v rfl rfl (r_call (xs := [.tmp 7]) (twinFrac_c _ hx.2) (.cons (vq 4 rfl) .nil))) (oc (ob_v rfl rfl (r_build (xs := [(0, .tmp 5), (1, .tmp 8)]) (qs := [(0, _), (1, _)]) str_gauss (.cons ⟨rfl, (vq 2 rfl), rfl⟩ (.cons ⟨rfl, (vq 5 rfl), rfl⟩ .nil)))) (oc (ob_sto rfl rfl rfl (vq 6 rfl) ty_52 (Eq.trans (b := 8) rfl rfl)) o0)))))))) (by kernel_rfl) (by kernel_rfl) (by kernel_rfl) (by kernel_rfl) (fun a w hst => ?_)
  have hst : St B w0 10 [] [⟨1, 52, ptrH, _⟩, ⟨2, 52, ptrH, _⟩] a w := hst
  refine thn_normal ?_
  refine wp_ret ?_
  refine ret_wk ?_ (ret_cell rfl hst (List.mem_of_getElem? (i := 1) rfl) ty_52)
  exact wk_id

set_option maxRecDepth 100000 in
theorem leftGauss_c (x y : RG) (hx : bdF x.re ∧ bdF x.im) : Cn Tryz.prog 29 [(RGT x).va, (RGA y).va] (Bo (decide (x = y))) := by
  refine Cn.intro Tryz.func29 rfl (by kernel_rfl) nq (fun B w0 a hst => ?_)
  have hst : St B w0 17 [(0, (RGT x).va), (1, (RGA y).va)] [] a w0.w := hst
  refine wp_seq ?_
  refine gl (sts := []) (news := [⟨2, 52, ptrH, some 0, _, none⟩, ⟨3, 52, ptrH, some 1, _, none⟩]) (sp := [.alc 0, .alc 1, .val 4 _]) [.o 2] hst (oc (ob_box rfl rfl rfl (gq 0 rfl)) (oc (ob_box rfl rfl rfl (gq 1 rfl)) (oc (ob_v rfl rfl (r_assign has_bo)) o0))) (fun a w hst => ?_)
  have hst : St B w0 17 [(4, _)] [⟨2, 52, ptrH, _⟩, ⟨3, 52, ptrH, _⟩] a w := hst
  refine thn_normal ?_
  refine wp_seq ?_
  refine gl (sts := [none, none]) (news := []) (sp := [.adr 5 2 (.some 0) True, .val 6 _, .adr 7 3 (.some 0) True, .val 8 _, .val 9 _, .val 10 _, .adr 11 2 (.some 4) (_ = true), .val 12 (Wh (_ = true) _), .adr 13 3 (.some 4) (_ = true), .val 14 (Wh (_ = true) _), .val 15 (Wh (_ = true) _), .val 16 _, .val 4 _]) [.o 12] hst (oc (ob_a rfl rfl (a_fld (lz0 0 rfl) fld_52_0)) (oc (ob_v rfl rfl (r_loadf 0 rfl (by kernel_rfl) trivial (lz0 0 rfl) (Sub.part 0 rfl rfl) ty_26)) (oc (ob_a rfl rfl (a_fld (lz0 1 rfl) fld_52_0)) (oc (ob_v rfl rfl (r_loadf 2 rfl (by kernel_rfl) trivial (lz0 1 rfl) (Sub.part 0 rfl rfl) ty_26)) (oc (ob_v rfl rfl (r_call (xs := [.tmp 6, .tmp 8]) (leftFrac_c _ _ hx.1) (.cons (vq 1 rfl) (.cons (vq 3 rfl) .nil)))) (oc (ob_v rfl rfl (r_move (vq 4 rfl))) (oc (ob_ag rfl rfl rfl (vq 5 rfl) nq (fun hg => a_fld (lz0 0 rfl) fld_52_1)) (oc (ob_gd rfl rfl rfl (vq 5 rfl) nq (fun hg => r_loadf 6 rfl (by kernel_rfl) hg (lz0 0 rfl) (Sub.part 1 rfl rfl) ty_26)) (oc (ob_ag rfl rfl rfl (vq 5 rfl) nq (fun hg => a_fld (lz0 1 rfl) fld_52_1)) (oc (ob_gd rfl rfl rfl (vq 5 rfl) nq (fun hg => r_loadf 8 rfl (by kernel_rfl) hg (lz0 1 rfl) (Sub.part 1 rfl rfl) ty_26)) (oc (ob_gd rfl rfl rfl (vq 5 rfl) nq (fun hg => r_call (xs := [.tmp 12, .tmp 14]) (leftFrac_c _ _ hx.2) (.cons (has_wh (vq 7 rfl) hg) (.cons (has_wh (vq 9 rfl) hg) .nil)))) (oc (ob_v rfl rfl (r_and (vq 5 rfl) (vq 10 rfl))) (oc (ob_v rfl rfl (r_assign (vq 11 rfl))) o0))))))))))))) (fun a w hst => ?_)
  have hst : St B w0 17 [(4, _)] [⟨2, 52, ptrH, _⟩, ⟨3, 52, ptrH, _⟩] a w := hst
  refine thn_normal ?_
  refine wp_ret ?_
  refine ret_wk ?_ (ret_tmp rfl hst (List.mem_of_getElem? (i := 0) rfl))
  exact wk_eq (congrArg Bo rg_eq)

set_option maxRecDepth 100000 in
theorem twinRay_c (x : RR) (hx : bdF x.y ∧ bdF x.u) : Cn Tryz.prog 12 [(RRA x).va] ((RRT x).va) := by
  refine Cn.intro Tryz.func12 rfl (by kernel_rfl) nq (fun B w0 a hst => ?_)
  have hst : St B w0 10 [(0, (RRA x).va)] [] a w0.w := hst
  refine wp_seq ?_
  refine gl (sts := []) (news := [⟨1, 30, ptrH, some 0, _, none⟩, ⟨2, 30, ptrH, some 1, _, none⟩]) (sp := [.alc 0, .alc 1]) [] hst (oc (ob_box rfl rfl rfl (gq 0 rfl)) (oc (ob_alc rfl rfl rfl (Str.zero str_ray)) o0)) (fun a w hst => ?_)
  have hst : St B w0 10 [] [⟨1, 30, ptrH, _⟩, ⟨2, 30, ptrH, _⟩] a w := hst
  refine thn_normal ?_
  refine wp_seq ?_
  refine go_draw (anc := [[], [0], [0, 1], [], [3], [0, 1, 2, 3, 4], [0, 1, 2, 3, 4, 5], [0, 1, 2, 3, 4, 5, 6]]) (sts := [none, some (7, _)]) (news := []) (sp := [.adr 3 1 (.some 0) True, .val 4 _, .val 5 _, .adr 6 1 (.some 4) True, .val 7 _, .val 8 _, .val 9 _, .sto 1]) [] follows_mixed hst (oc (ob_a rfl rfl (a_fld (lz0 0 rfl) fld_30_0)) (oc (ob_v rfl rfl (r_loadf 0 rfl (by kernel_rfl) trivial (lz0 0 rfl) (Sub.part 0 rfl rfl) ty_26)) (oc (ob_v rfl rfl (r_call (xs := [.tmp 4]) (twinFrac_c _ hx.1) (.cons (vq 1 rfl) .nil))) (oc (ob_a rfl rfl (a_fld (lz0 0 rfl) fld_30_1)) (oc (ob_v rfl rfl (r_loadf 3 rfl (by kernel_rfl) trivial (lz0 0 rfl) (Sub.part 1 rfl rfl) ty_26)) (oc (ob_v rfl rfl (r_call (xs := [.tmp 7]) (twinFrac_c _ hx.2) (.cons (vq 4 rfl) .nil))) (oc (ob_v rfl rfl (r_build (xs := [(0, .tmp 5), (1, .tmp 8)]) (qs := [(0, _), (1, _)]) str_ray (.cons ⟨rfl, (vq 2 rfl), rfl⟩ (.cons ⟨rfl, (vq 5 rfl), rfl⟩ .nil)))) (oc (ob_sto rfl rfl rfl (vq 6 rfl) ty_30 (Eq.trans (b := 8) rfl rfl)) o0)))))))) (by kernel_rfl) (by kernel_rfl) (by kernel_rfl) (by kernel_rfl) (fun a w hst => ?_)
  have hst : St B w0 10 [] [⟨1, 30, ptrH, _⟩, ⟨2, 30, ptrH, _⟩] a w := hst
  refine thn_normal ?_
  refine wp_ret ?_
  refine ret_wk ?_ (ret_cell rfl hst (List.mem_of_getElem? (i := 1) rfl) ty_30)
  exact wk_id

set_option maxRecDepth 100000 in
theorem leftRay_c (x y : RR) (hx : bdF x.y ∧ bdF x.u) : Cn Tryz.prog 17 [(RRT x).va, (RRA y).va] (Bo (decide (x = y))) := by
  refine Cn.intro Tryz.func17 rfl (by kernel_rfl) nq (fun B w0 a hst => ?_)
  have hst : St B w0 17 [(0, (RRT x).va), (1, (RRA y).va)] [] a w0.w := hst
  refine wp_seq ?_
  refine gl (sts := []) (news := [⟨2, 30, ptrH, some 0, _, none⟩, ⟨3, 30, ptrH, some 1, _, none⟩]) (sp := [.alc 0, .alc 1, .val 4 _]) [.o 2] hst (oc (ob_box rfl rfl rfl (gq 0 rfl)) (oc (ob_box rfl rfl rfl (gq 1 rfl)) (oc (ob_v rfl rfl (r_assign has_bo)) o0))) (fun a w hst => ?_)
  have hst : St B w0 17 [(4, _)] [⟨2, 30, ptrH, _⟩, ⟨3, 30, ptrH, _⟩] a w := hst
  refine thn_normal ?_
  refine wp_seq ?_
  refine gl (sts := [none, none]) (news := []) (sp := [.adr 5 2 (.some 0) True, .val 6 _, .adr 7 3 (.some 0) True, .val 8 _, .val 9 _, .val 10 _, .adr 11 2 (.some 4) (_ = true), .val 12 (Wh (_ = true) _), .adr 13 3 (.some 4) (_ = true), .val 14 (Wh (_ = true) _), .val 15 (Wh (_ = true) _), .val 16 _, .val 4 _]) [.o 12] hst (oc (ob_a rfl rfl (a_fld (lz0 0 rfl) fld_30_0)) (oc (ob_v rfl rfl (r_loadf 0 rfl (by kernel_rfl) trivial (lz0 0 rfl) (Sub.part 0 rfl rfl) ty_26)) (oc (ob_a rfl rfl (a_fld (lz0 1 rfl) fld_30_0)) (oc (ob_v rfl rfl (r_loadf 2 rfl (by kernel_rfl) trivial (lz0 1 rfl) (Sub.part 0 rfl rfl) ty_26)) (oc (ob_v rfl rfl (r_call (xs := [.tmp 6, .tmp 8]) (leftFrac_c _ _ hx.1) (.cons (vq 1 rfl) (.cons (vq 3 rfl) .nil)))) (oc (ob_v rfl rfl (r_move (vq 4 rfl))) (oc (ob_ag rfl rfl rfl (vq 5 rfl) nq (fun hg => a_fld (lz0 0 rfl) fld_30_1)) (oc (ob_gd rfl rfl rfl (vq 5 rfl) nq (fun hg => r_loadf 6 rfl (by kernel_rfl) hg (lz0 0 rfl) (Sub.part 1 rfl rfl) ty_26)) (oc (ob_ag rfl rfl rfl (vq 5 rfl) nq (fun hg => a_fld (lz0 1 rfl) fld_30_1)) (oc (ob_gd rfl rfl rfl (vq 5 rfl) nq (fun hg => r_loadf 8 rfl (by kernel_rfl) hg (lz0 1 rfl) (Sub.part 1 rfl rfl) ty_26)) (oc (ob_gd rfl rfl rfl (vq 5 rfl) nq (fun hg => r_call (xs := [.tmp 12, .tmp 14]) (leftFrac_c _ _ hx.2) (.cons (has_wh (vq 7 rfl) hg) (.cons (has_wh (vq 9 rfl) hg) .nil)))) (oc (ob_v rfl rfl (r_and (vq 5 rfl) (vq 10 rfl))) (oc (ob_v rfl rfl (r_assign (vq 11 rfl))) o0))))))))))))) (fun a w hst => ?_)
  have hst : St B w0 17 [(4, _)] [⟨2, 30, ptrH, _⟩, ⟨3, 30, ptrH, _⟩] a w := hst
  refine thn_normal ?_
  refine wp_ret ?_
  refine ret_wk ?_ (ret_tmp rfl hst (List.mem_of_getElem? (i := 0) rfl))
  exact wk_eq (congrArg Bo rr_eq)

set_option maxRecDepth 100000 in
theorem twinMatrix_c (x : RM) (hx : bdF x.a ∧ bdF x.b ∧ bdF x.c ∧ bdF x.d) : Cn Tryz.prog 11 [(RMA x).va] ((RMT x).va) := by
  refine Cn.intro Tryz.func11 rfl (by kernel_rfl) nq (fun B w0 a hst => ?_)
  have hst : St B w0 16 [(0, (RMA x).va)] [] a w0.w := hst
  refine wp_seq ?_
  refine gl (sts := []) (news := [⟨1, 28, ptrH, some 0, _, none⟩, ⟨2, 28, ptrH, some 1, _, none⟩]) (sp := [.alc 0, .alc 1]) [] hst (oc (ob_box rfl rfl rfl (gq 0 rfl)) (oc (ob_alc rfl rfl rfl (Str.zero str_matrix)) o0)) (fun a w hst => ?_)
  have hst : St B w0 16 [] [⟨1, 28, ptrH, _⟩, ⟨2, 28, ptrH, _⟩] a w := hst
  refine thn_normal ?_
  refine wp_seq ?_
  refine go_draw (anc := [[], [0], [0, 1], [], [3], [0, 1, 2, 3, 4], [], [6], [0, 1, 2, 3, 4, 5, 6, 7], [], [9], [0, 1, 2, 3, 4, 5, 6, 7, 8, 9, 10], [0, 1, 2, 3, 4, 5, 6, 7, 8, 9, 10, 11], [0, 1, 2, 3, 4, 5, 6, 7, 8, 9, 10, 11, 12]]) (sts := [none, some (13, _)]) (news := []) (sp := [.adr 3 1 (.some 0) True, .val 4 _, .val 5 _, .adr 6 1 (.some 4) True, .val 7 _, .val 8 _, .adr 9 1 (.some 8) True, .val 10 _, .val 11 _, .adr 12 1 (.some 12) True, .val 13 _, .val 14 _, .val 15 _, .sto 1]) [] follows_mixed hst (oc (ob_a rfl rfl (a_fld (lz0 0 rfl) fld_28_0)) (oc (ob_v rfl rfl (r_loadf 0 rfl (by kernel_rfl) trivial (lz0 0 rfl) (Sub.part 0 rfl rfl) ty_26)) (oc (ob_v rfl rfl (r_call (xs := [.tmp 4]) (twinFrac_c _ hx.1) (.cons (vq 1 rfl) .nil))) (oc (ob_a rfl rfl (a_fld (lz0 0 rfl) fld_28_1)) (oc (ob_v rfl rfl (r_loadf 3 rfl (by kernel_rfl) trivial (lz0 0 rfl) (Sub.part 1 rfl rfl) ty_26)) (oc (ob_v rfl rfl (r_call (xs := [.tmp 7]) (twinFrac_c _ hx.2.1) (.cons (vq 4 rfl) .nil))) (oc (ob_a rfl rfl (a_fld (lz0 0 rfl) fld_28_2)) (oc (ob_v rfl rfl (r_loadf 6 rfl (by kernel_rfl) trivial (lz0 0 rfl) (Sub.part 2 rfl rfl) ty_26)) (oc (ob_v rfl rfl (r_call (xs := [.tmp 10]) (twinFrac_c _ hx.2.2.1) (.cons (vq 7 rfl) .nil))) (oc (ob_a rfl rfl (a_fld (lz0 0 rfl) fld_28_3)) (oc (ob_v rfl rfl (r_loadf 9 rfl (by kernel_rfl) trivial (lz0 0 rfl) (Sub.part 3 rfl rfl) ty_26)) (oc (ob_v rfl rfl (r_call (xs := [.tmp 13]) (twinFrac_c _ hx.2.2.2) (.cons (vq 10 rfl) .nil))) (oc (ob_v rfl rfl (r_build (xs := [(0, .tmp 5), (1, .tmp 8), (2, .tmp 11), (3, .tmp 14)]) (qs := [(0, _), (1, _), (2, _), (3, _)]) str_matrix (.cons ⟨rfl, (vq 2 rfl), rfl⟩ (.cons ⟨rfl, (vq 5 rfl), rfl⟩ (.cons ⟨rfl, (vq 8 rfl), rfl⟩ (.cons ⟨rfl, (vq 11 rfl), rfl⟩ .nil)))))) (oc (ob_sto rfl rfl rfl (vq 12 rfl) ty_28 (Eq.trans (b := 16) rfl rfl)) o0)))))))))))))) (by kernel_rfl) (by kernel_rfl) (by kernel_rfl) (by kernel_rfl) (fun a w hst => ?_)
  have hst : St B w0 16 [] [⟨1, 28, ptrH, _⟩, ⟨2, 28, ptrH, _⟩] a w := hst
  refine thn_normal ?_
  refine wp_ret ?_
  refine ret_wk ?_ (ret_cell rfl hst (List.mem_of_getElem? (i := 1) rfl) ty_28)
  exact wk_id

set_option maxRecDepth 100000 in
theorem leftMatrix_c (x y : RM) (hx : bdF x.a ∧ bdF x.b ∧ bdF x.c ∧ bdF x.d) : Cn Tryz.prog 16 [(RMT x).va, (RMA y).va] (Bo (decide (x = y))) := by
  refine Cn.intro Tryz.func16 rfl (by kernel_rfl) nq (fun B w0 a hst => ?_)
  have hst : St B w0 31 [(0, (RMT x).va), (1, (RMA y).va)] [] a w0.w := hst
  refine wp_seq ?_
  refine gl (sts := []) (news := [⟨2, 28, ptrH, some 0, _, none⟩, ⟨3, 28, ptrH, some 1, _, none⟩]) (sp := [.alc 0, .alc 1, .val 4 _]) [.o 2] hst (oc (ob_box rfl rfl rfl (gq 0 rfl)) (oc (ob_box rfl rfl rfl (gq 1 rfl)) (oc (ob_v rfl rfl (r_assign has_bo)) o0))) (fun a w hst => ?_)
  have hst : St B w0 31 [(4, _)] [⟨2, 28, ptrH, _⟩, ⟨3, 28, ptrH, _⟩] a w := hst
  refine thn_normal ?_
  refine wp_seq ?_
  refine gl (sts := [none, none]) (news := []) (sp := ((.adr 5 2 (.some 0) True : Sp) :: (.val 6 _) :: (.adr 7 3 (.some 0) True) :: (.val 8 _) :: (.val 9 _) :: (.val 10 _) :: (.adr 11 2 (.some 4) (_ = true)) :: (.val 12 (Wh (_ = true) _)) :: (.adr 13 3 (.some 4) (_ = true)) :: (.val 14 (Wh (_ = true) _)) :: (.val 15 (Wh (_ = true) _)) :: (.val 16 _) :: (.val 17 _) :: (.adr 18 2 (.some 8) (_ = true)) :: (.val 19 (Wh (_ = true) _)) :: (.adr 20 3 (.some 8) (_ = true)) :: (.val 21 (Wh (_ = true) _)) :: (.val 22 (Wh (_ = true) _)) :: (.val 23 _) :: (.val 24 _) :: (.adr 25 2 (.some 12) (_ = true)) :: (.val 26 (Wh (_ = true) _)) :: (.adr 27 3 (.some 12) (_ = true)) :: (.val 28 (Wh (_ = true) _)) :: (.val 29 (Wh (_ = true) _)) :: (.val 30 _) :: (.val 4 _) :: [])) [.o 26] hst (oc (ob_a rfl rfl (a_fld (lz0 0 rfl) fld_28_0)) (oc (ob_v rfl rfl (r_loadf 0 rfl (by kernel_rfl) trivial (lz0 0 rfl) (Sub.part 0 rfl rfl) ty_26)) (oc (ob_a rfl rfl (a_fld (lz0 1 rfl) fld_28_0)) (oc (ob_v rfl rfl (r_loadf 2 rfl (by kernel_rfl) trivial (lz0 1 rfl) (Sub.part 0 rfl rfl) ty_26)) (oc (ob_v rfl rfl (r_call (xs := [.tmp 6, .tmp 8]) (leftFrac_c _ _ hx.1) (.cons (vq 1 rfl) (.cons (vq 3 rfl) .nil)))) (oc (ob_v rfl rfl (r_move (vq 4 rfl))) (oc (ob_ag rfl rfl rfl (vq 5 rfl) nq (fun hg => a_fld (lz0 0 rfl) fld_28_1)) (oc (ob_gd rfl rfl rfl (vq 5 rfl) nq (fun hg => r_loadf 6 rfl (by kernel_rfl) hg (lz0 0 rfl) (Sub.part 1 rfl rfl) ty_26)) (oc (ob_ag rfl rfl rfl (vq 5 rfl) nq (fun hg => a_fld (lz0 1 rfl) fld_28_1)) (oc (ob_gd rfl rfl rfl (vq 5 rfl) nq (fun hg => r_loadf 8 rfl (by kernel_rfl) hg (lz0 1 rfl) (Sub.part 1 rfl rfl) ty_26)) (oc (ob_gd rfl rfl rfl (vq 5 rfl) nq (fun hg => r_call (xs := [.tmp 12, .tmp 14]) (leftFrac_c _ _ hx.2.1) (.cons (has_wh (vq 7 rfl) hg) (.cons (has_wh (vq 9 rfl) hg) .nil)))) (oc (ob_v rfl rfl (r_and (vq 5 rfl) (vq 10 rfl))) (oc (ob_v rfl rfl (r_move (vq 11 rfl))) (oc (ob_ag rfl rfl rfl (vq 12 rfl) nq (fun hg => a_fld (lz0 0 rfl) fld_28_2)) (oc (ob_gd rfl rfl rfl (vq 12 rfl) nq (fun hg => r_loadf 13 rfl (by kernel_rfl) hg (lz0 0 rfl) (Sub.part 2 rfl rfl) ty_26)) (oc (ob_ag rfl rfl rfl (vq 12 rfl) nq (fun hg => a_fld (lz0 1 rfl) fld_28_2)) (oc (ob_gd rfl rfl rfl (vq 12 rfl) nq (fun hg => r_loadf 15 rfl (by kernel_rfl) hg (lz0 1 rfl) (Sub.part 2 rfl rfl) ty_26)) (oc (ob_gd rfl rfl rfl (vq 12 rfl) nq (fun hg => r_call (xs := [.tmp 19, .tmp 21]) (leftFrac_c _ _ hx.2.2.1) (.cons (has_wh (vq 14 rfl) hg) (.cons (has_wh (vq 16 rfl) hg) .nil)))) (oc (ob_v rfl rfl (r_and (vq 12 rfl) (vq 17 rfl))) (oc (ob_v rfl rfl (r_move (vq 18 rfl))) (oc (ob_ag rfl rfl rfl (vq 19 rfl) nq (fun hg => a_fld (lz0 0 rfl) fld_28_3)) (oc (ob_gd rfl rfl rfl (vq 19 rfl) nq (fun hg => r_loadf 20 rfl (by kernel_rfl) hg (lz0 0 rfl) (Sub.part 3 rfl rfl) ty_26)) (oc (ob_ag rfl rfl rfl (vq 19 rfl) nq (fun hg => a_fld (lz0 1 rfl) fld_28_3)) (oc (ob_gd rfl rfl rfl (vq 19 rfl) nq (fun hg => r_loadf 22 rfl (by kernel_rfl) hg (lz0 1 rfl) (Sub.part 3 rfl rfl) ty_26)) (oc (ob_gd rfl rfl rfl (vq 19 rfl) nq (fun hg => r_call (xs := [.tmp 26, .tmp 28]) (leftFrac_c _ _ hx.2.2.2) (.cons (has_wh (vq 21 rfl) hg) (.cons (has_wh (vq 23 rfl) hg) .nil)))) (oc (ob_v rfl rfl (r_and (vq 19 rfl) (vq 24 rfl))) (oc (ob_v rfl rfl (r_assign (vq 25 rfl))) o0))))))))))))))))))))))))))) (fun a w hst => ?_)
  have hst : St B w0 31 [(4, _)] [⟨2, 28, ptrH, _⟩, ⟨3, 28, ptrH, _⟩] a w := hst
  refine thn_normal ?_
  refine wp_ret ?_
  refine ret_wk ?_ (ret_tmp rfl hst (List.mem_of_getElem? (i := 0) rfl))
  exact wk_eq (congrArg Bo rm_eq)

end Go.Proofs.YtmghfjcjcfaagaaGreat
