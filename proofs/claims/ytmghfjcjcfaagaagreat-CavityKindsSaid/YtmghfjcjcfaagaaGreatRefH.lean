/- The reference of layer 1: Double, Common. -/
import Derived.Test.YtmghfjcjcfaagaaGreatRefG
namespace Go.Proofs.YtmghfjcjcfaagaaGreat
open Go Go.RowKit
namespace RefH
theorem fld_24_0 : Fld Tryz.prog 24 0 0 1 := ⟨_, _, Tryz.underlying24, rfl, rfl, by kernel_rfl, by decide⟩
theorem fld_24_1 : Fld Tryz.prog 24 1 1 1 := ⟨_, _, Tryz.underlying24, rfl, rfl, by kernel_rfl, by decide⟩
theorem sl_22 : Sl Tryz.prog 22 122 1 := ⟨by kernel_rfl, by kernel_rfl⟩
theorem ty_22 : Ty Tryz.prog 22 1 false := ⟨by kernel_rfl, by kernel_rfl⟩
theorem ty_24 : Ty Tryz.prog 24 2 true := ⟨by kernel_rfl, by kernel_rfl⟩
theorem ty_4 : Ty Tryz.prog 4 1 false := ⟨by kernel_rfl, by kernel_rfl⟩
end RefH
open RefH
set_option maxRecDepth 100000 in
theorem rtimesN_c (l : List Nat) (x : Nat) (hls : l.length ≤ 1099511627776) (hx : x < 4294967296) : Cn Tryz.prog 212 [(MgA l).va, (NumA .u32 (x : Nat)).va] ((MgN (limbs (val l * x))).va) := by
  refine Cn.intro Tryz.func212 rfl (by kernel_rfl) nq (fun B w0 a hst => ?_)
  have hst : St B w0 10 [(0, (MgA l).va), (1, (NumA .u32 (x : Nat)).va)] [] a w0.w := hst
  refine wp_seq ?_
  refine gl (sts := []) (news := []) (sp := [.val 4 _]) [.g 0, .g 1, .o 0] hst (oc (ob_v rfl rfl (r_assign has_const)) o0) (fun a w hst => ?_)
  have hst : St B w0 10 [(0, _), (1, _), (4, _)] [] a w := hst
  refine thn_normal ?_
  refine wp_seq ?_
  refine gl (sts := []) (news := []) (sp := [.val 5 _, .val 6 _, .val 7 _, .val 8 _, .val 9 _, .val 4 _]) [.o 5] hst (oc (ob_v rfl rfl (r_move (gq 0 rfl))) (oc (ob_v rfl rfl (r_move (gq 1 rfl))) (oc (ob_v rfl rfl (r_slicem (l := [_]) (xs := [.tmp 6]) sl_22 (by kernel_rfl) nq nq ((okL_one hx)) (.cons (vq 1 rfl) .nil) rfl rfl)) (oc (ob_v rfl rfl (r_call (xs := [.tmp 7]) (rtrim_c famA _) (.cons (vq 2 rfl) .nil))) (oc (ob_v rfl rfl (r_call (xs := [.tmp 5, .tmp 8]) (rmul_c l (trimL [x]) hls (Nat.le_trans (trim_one x).1 (by decide))) (.cons (vq 0 rfl) (.cons (vq 3 rfl) .nil)))) (oc (ob_v rfl rfl (r_assign (vq 4 rfl))) o0)))))) (fun a w hst => ?_)
  have hst : St B w0 10 [(4, _)] [] a w := hst
  refine thn_normal ?_
  refine wp_ret ?_
  refine ret_wk ?_ (ret_tmp rfl hst (List.mem_of_getElem? (i := 0) rfl))
  rw [(trim_one x).2]; exact wk_id

set_option linter.unusedVariables false
theorem cat_numsR {B : Nat} {w : World} : ∀ (l : List Nat), (cat (NL l)).p B (l.map fun (x : Nat) => Value.int .u32 x) w
  | [] => ⟨[], rfl, .nil⟩
  | x :: l => by
    obtain ⟨ps, e, hp⟩ := cat_numsR (B := B) (w := w) l
    exact ⟨[.int .u32 x] :: ps, by show _ :: _ = _; rw [List.flatten_cons, ← e]; rfl, .cons rfl hp⟩
theorem St.rowO {B N : Nat} {w0 : Bs} {Γ : List (Nat × VA)} {Λ : List Lc} {a : Act} {w : World} (h : St B w0 N Γ Λ a w) (hB : B = w0.w.heap.size) {s : Nat} {l : List Nat} {n : Nat} (hn : n = l.length) (hl : l.length ≤ maxLen) (e : Nat) (he : Λ[e]? = some ⟨s, U32, slH n n, Nums .u32 l⟩) :
    St B w0 N ((s, OwnR w0.w.heap.size U32 1 [] (NL l)) :: Γ) (Λ.eraseIdx e) a w := by
  subst hn
  obtain ⟨g, cs, e1, e2, e3, e4⟩ := h.locs _ (List.mem_of_getElem? he)
  have e4' : cs = l.map fun (x : Nat) => Value.int .u32 x := e4
  refine ⟨h.lo, h.defers, h.size, h.base, fun x hx => ?_, fun m hm => h.locs m (List.mem_of_mem_eraseIdx hm), fun m hm m' hm' hne => h.dis m (List.mem_of_mem_eraseIdx hm) m' (List.mem_of_mem_eraseIdx hm') hne⟩
  rcases List.mem_cons.1 hx with rfl | hx
  · have q1 : ∀ A ∈ NL l, A.n = 1 := fun A hA => by
      obtain ⟨_, _, rfl⟩ := List.mem_map.1 hA; rfl
    have q2 : ∀ A ∈ NL l, ∀ T ∈ A.deps, T ∈ ([] : List TypeId) := nums_nd
    have q3 : (cat (NL l)).p B cs w := by rw [e4']; exact cat_numsR l
    have q4 : a.eval (.tmp s) = .slice (some ⟨g, 0, none⟩) l.length l.length := by rw [e1]; rfl
    exact ⟨q1, q2, cs, q3, by rw [e4']; simp, .inr ⟨g, l.length, cs.toArray, by rw [List.length_map]; exact q4, by rw [← hB]; exact h.lo g e2, e3, by simp, hl, by rw [e4']; simp, by rw [e4']; simp [List.take_of_length_le]⟩⟩
  · exact h.vals x hx
theorem qi64 {x : Nat} (h : x < 4611686018427387904) : IntKind.i64.wrap ((x : Int).tdiv 32) = ((x / 32 : Nat) : Int) := by
  rw [show (32 : Int) = ((32 : Nat) : Int) from rfl, Int.tdiv_eq_ediv_of_nonneg (by omega), ← Int.natCast_ediv, wi64 (by omega) (by omega)]
theorem wmul32 {i : Nat} (h : i < 31) : IntKind.u32.wrap (((2 : Nat) : Int) * ((2 ^ i : Nat) : Int)) = ((2 ^ (i + 1) : Nat) : Int) := by
  have h1 : 2 ^ (i + 1) ≤ 2 ^ 31 := Nat.pow_le_pow_right (by decide) (by omega)
  rw [← Int.natCast_mul, Nat.mul_comm, ← Nat.pow_succ, wu32 (Nat.lt_of_le_of_lt h1 (by decide))]
theorem pow32 (k : Nat) : 4294967296 ^ k = 2 ^ (32 * k) := by rw [Nat.pow_mul]
theorem pow_lt32 {i : Nat} (h : i < 32) : 2 ^ i < 4294967296 := Nat.lt_of_le_of_lt (Nat.pow_le_pow_right (by decide) (show i ≤ 31 by omega)) (by decide)
theorem dbl_e {p : Int} {t : Nat} : (RIN (rsig (riOf p).neg (limbs (val (List.replicate (t / 32) 0 ++ (riOf p).mag) * 2 ^ (t % 32))))).va = (RIN (riOf (p * ((2 ^ t : Nat) : Int)))).va := by
  have hpos : (0 : Int) < ((2 ^ t : Nat) : Int) := by exact_mod_cast Nat.pow_pos (by decide : 0 < 2)
  refine congrArg (fun x => (RIN x).va) (rsig_of (canon_limbs _).1 (z := p * ((2 ^ t : Nat) : Int)) ?_ fun hz => ?_)
  · rw [val_limbs, val_append, val_zeros, List.length_replicate, val_ri, Nat.zero_add, Int.natAbs_mul, Int.natAbs_natCast, pow32, Nat.mul_right_comm, ← Nat.pow_add, Nat.div_add_mod, Nat.mul_comm]
  · show decide (p < 0) = _
    rw [decide_eq_decide]
    exact ⟨fun h => Int.mul_neg_of_neg_of_pos h hpos, fun h => by
      apply Decidable.byContradiction
      intro hn
      have := Int.mul_nonneg (show 0 ≤ p by omega) (Int.le_of_lt hpos)
      omega⟩

set_option maxRecDepth 100000 in
theorem rdouble_c (p : Int) (t : Nat) (hp0 : p ≠ 0) (hp : lz p ≤ 1000000000) (ht : t ≤ 64000000000) : Cn Tryz.prog 196 [Zi p, In (t : Nat)] ((RIN (riOf (p * ((2 ^ t : Nat) : Int)))).va) := by
  obtain ⟨it, z, e1, e2, e3, e4, e5⟩ := app_u32
  refine Cn.introW Tryz.func196 rfl (by kernel_rfl) nq (.cons (up_ri _).va (.cons (up_num _ _).va .nil)) (free_ri _).va (fun B w0 a hB0 hst => ?_)
  have hst : St B w0 34 [(0, (RIO (riOf p)).va), (1, In (t : Nat))] [] a w0.w := hst
  refine wp_seq ?_
  refine gl (sts := []) (news := [⟨2, 24, ptrH, some 0, _, none⟩, ⟨4, 24, ptrH, some 1, _, none⟩]) (sp := [.alc 0, .alc 1]) [.g 1] hst (oc (ob_box rfl rfl rfl (gq 0 rfl)) (oc (ob_alc rfl rfl rfl (Str.zero str_intO)) o0)) (fun a w hst => ?_)
  have hst : St B w0 34 [(1, _)] [⟨2, 24, ptrH, _⟩, ⟨4, 24, ptrH, _⟩] a w := hst
  refine thn_normal ?_
  refine wp_seq ?_
  refine wp_seq ?_
  refine gl (sts := [none, none]) (news := []) (sp := [.adr 8 2 (.some 1) True, .val 9 _, .val 10 _, .val 11 _]) [.g 0, .o 3] hst (oc (ob_a rfl rfl (a_fld (lz0 0 rfl) fld_24_1)) (oc (ob_v rfl rfl (r_loadf 0 rfl (by kernel_rfl) trivial (lz0 0 rfl) (Sub.part 1 rfl rfl) ty_22)) (oc (ob_v rfl rfl (r_lenm Tryz.underlying22 (has_old (vq 1 rfl)))) (oc (ob_v rfl rfl (r_eql (vq 2 rfl) has_num)) o0)))) (fun a w hst => ?_)
  have hst : St B w0 34 [(1, _), (11, _)] [⟨2, 24, ptrH, _⟩, ⟨4, 24, ptrH, _⟩] a w := hst
  refine thn_normal ?_
  refine cond_of hst (List.mem_of_getElem? (i := 1) rfl) (fun hb0 => ?_) (fun hb0 => ?_)
  · have h0 : (riOf p).mag = [] := by simpa using hb0
    exact absurd (lz_pos hp0) (by show ¬ 0 < (riOf p).mag.length; rw [h0]; decide)
  · refine wp_skip ?_
    refine thn_normal ?_
    refine wp_seq ?_
    refine go_linR (sts := [none, none]) (news := [⟨15, 122, slH _ _, some 2, _, none⟩]) (sp := [.val 13 _, .val 14 _, .alc 2, .adr 5 15 .none True]) [.g 0] [(5, 15)] [⟨2, 24, ptrH, _⟩, ⟨4, 24, ptrH, _⟩, ⟨5, 122, slH _ _, _⟩] hst (oc (ob_v rfl rfl (r_move (gq 0 rfl))) (oc (ob_v rfl rfl (r_quo (vq 0 rfl) has_num (by decide) (qi64 (by omega)))) (oc (ob_make rfl rfl rfl mk_u32 (vq 1 rfl) (vq 1 rfl) (by omega)) (oc (ob_a rfl rfl a_asg) o0)))) (by kernel_rfl) (by kernel_rfl) (by kernel_rfl) ⟨⟨3, rfl⟩, trivial⟩ rfl (by kernel_rfl) (fun a w hst => ?_)
    have hst : St B w0 34 [(1, _)] [⟨2, 24, ptrH, _⟩, ⟨4, 24, ptrH, _⟩, ⟨5, 122, slH _ _, _⟩] a w := hst
    refine thn_normal ?_
    refine wp_seq ?_
    have hst := St.rowO hst hB0 (l := List.replicate (t / 32) 0) (by simp) (by simp; unfold maxLen; omega) 2 rfl
    have hst : St B w0 34 [(5, _), (1, _)] [⟨2, 24, ptrH, _⟩, ⟨4, 24, ptrH, _⟩] a w := hst
    refine go_appL (sp := [.val 16 _, .adr 17 2 (.some 1) True, .val 18 _, .val 19 VT, .val 5 VT]) 3 [1] 0 2 hst (oc (ob_v rfl rfl (r_move (gq 0 rfl))) (oc (ob_a rfl rfl (a_fld (lz0 0 rfl) fld_24_1)) (oc (ob_v rfl rfl (r_loadf 1 rfl (by kernel_rfl) trivial (lz0 0 rfl) (Sub.part 1 rfl rfl) ty_22)) o0))) rfl (by kernel_rfl) rfl rfl (by decide) rfl (by decide) rfl (fun w u h k => by have h2 := SlO.use h; exact (and_va h2).2) Tryz.underlying22 e1 e2 e3 e4 e5 (by decide) (by simp only [List.length_map, List.length_replicate]; have : (riOf p).mag.length = lz p := rfl; omega) (by decide) (fun T hT => hT) (by decide) (fun A hA => by obtain ⟨_, _, rfl⟩ := List.mem_map.1 hA; rfl) (by kernel_rfl) nq nq (by kernel_rfl) (by kernel_rfl) (fun a w hst => ?_)
    have hst : St B w0 34 [(5, _), (1, _)] [⟨2, 24, ptrH, _⟩, ⟨4, 24, ptrH, _⟩] a w := hst
    refine thn_normal ?_
    refine wp_seq ?_
    refine gl (sts := [none, none]) (news := []) (sp := [.val 6 _]) [.g 0, .g 1, .o 0] hst (oc (ob_v rfl rfl (r_assign (has_nat 1 rfl))) o0) (fun a w hst => ?_)
    have hst : St B w0 34 [(5, _), (1, _), (6, _)] [⟨2, 24, ptrH, _⟩, ⟨4, 24, ptrH, _⟩] a w := hst
    refine thn_normal ?_
    refine wp_seq ?_
    refine wp_seq ?_
    refine gl (sts := [none, none]) (news := []) (sp := [.val 7 _]) [.g 0, .g 1, .g 2, .o 0] hst (oc (ob_v rfl rfl (r_assign has_num)) o0) (fun a w hst => ?_)
    have hst : St B w0 34 [(5, _), (1, _), (6, _), (7, _)] [⟨2, 24, ptrH, _⟩, ⟨4, 24, ptrH, _⟩] a w := hst
    refine thn_normal ?_
    refine wp_block ?_
    have hst := St.sel hst [1, 0, 2, 3]
    refine wp_loop_ghost (fun n a w => ∃ i : Nat, (n + i = t % 32) ∧ St B w0 34 [(1, In (t : Nat)), (5, OwnR w0.w.heap.size U32 1 [] (NL (List.replicate (t / 32) 0) ++ NL (riOf p).mag)), (6, (NumA .u32 (2 ^ i : Nat)).va), (7, In (i : Nat))] [⟨2, 24, ptrH, RIO (riOf p)⟩, ⟨4, 24, ptrH, cat [BoA false, MgO []]⟩] a w) (t % 32) ?_ ?_
    · exact ⟨0, by omega, hst⟩
    intro n a w hI
    obtain ⟨i, hn, hst⟩ := hI
    have hm32 := Nat.mod_lt t (by decide : 0 < 32)
    refine wp_seq ?_
    refine wp_seq ?_
    refine gl (sts := [none, none]) (news := []) (sp := [.val 20 _, .val 21 _, .val 22 _, .val 23 _]) [.g 0, .g 1, .g 2, .g 3, .o 3] hst (oc (ob_v rfl rfl (r_move (gq 3 rfl))) (oc (ob_v rfl rfl (r_move (gq 0 rfl))) (oc (ob_v rfl rfl (r_rem (vq 1 rfl) has_num (by decide) (nrem (y := 32)))) (oc (ob_v rfl rfl (r_lss (vq 0 rfl) (vq 2 rfl))) o0)))) (fun a w hst => ?_)
    have hst : St B w0 34 [(1, _), (5, _), (6, _), (7, _), (23, _)] [⟨2, 24, ptrH, _⟩, ⟨4, 24, ptrH, _⟩] a w := hst
    refine thn_normal ?_
    refine cond_of hst (List.mem_of_getElem? (i := 4) rfl) (fun hb1 => ?_) (fun hb1 => ?_)
    · have hi : i < t % 32 := by have := of_decide_eq_true hb1; omega
      refine wp_skip ?_
      refine thn_normal ?_
      refine wp_seq ?_
      refine wp_block ?_
      refine gl (sts := [none, none]) (news := []) (sp := [.val 26 _, .val 27 _, .val 6 _]) [.g 0, .g 1, .g 3, .o 2] hst (oc (ob_v rfl rfl (r_move (gq 2 rfl))) (oc (ob_v rfl rfl (r_mul (has_nat 2 rfl) (vq 0 rfl) (wmul32 (by omega)))) (oc (ob_v rfl rfl (r_assign (vq 1 rfl))) o0))) (fun a w hst => ?_)
      have hst : St B w0 34 [(1, _), (5, _), (7, _), (6, _)] [⟨2, 24, ptrH, _⟩, ⟨4, 24, ptrH, _⟩] a w := hst
      refine blk_normal ?_
      refine thn_normal ?_
      refine gl (sts := [none, none]) (news := []) (sp := [.val 24 _, .val 25 _, .val 7 _]) [.g 0, .g 1, .g 3, .o 2] hst (oc (ob_v rfl rfl (r_move (gq 2 rfl))) (oc (ob_v rfl rfl (r_add (vq 0 rfl) has_num (wi_succ (by omega)))) (oc (ob_v rfl rfl (r_assign (vq 1 rfl))) o0))) (fun a w hst => ?_)
      have hst : St B w0 34 [(1, _), (5, _), (6, _), (7, _)] [⟨2, 24, ptrH, _⟩, ⟨4, 24, ptrH, _⟩] a w := hst
      refine thn_normal ?_
      have hst := St.sel hst [0, 1, 2, 3]
      exact ⟨n - 1, by omega, i + 1, by omega, hst⟩
    · obtain rfl : i = t % 32 := by have := of_decide_eq_false hb1; omega
      have hst := St.wkG (A' := (MgA (List.replicate (t / 32) 0 ++ (riOf p).mag)).va) hst 1 rfl (by unfold NL; rw [← List.map_append]; exact own_mg (okL_append.2 ⟨fun x hx => by rw [(List.mem_replicate.1 hx).2]; decide, ok_ri p⟩))
      refine wp_exit ?_
      refine thn_exit ?_
      refine thn_exit ?_
      refine blk_exit ?_
      refine thn_normal ?_
      refine wp_seq ?_
      refine go_draw (anc := [[], [0], [], [], [2, 3], [0, 1, 2, 3, 4], [0, 1, 2, 3, 4, 5]]) (sts := [none, some (6, _)]) (news := []) (sp := [.adr 28 2 (.some 0) True, .val 29 _, .val 30 _, .val 31 _, .val 32 _, .val 33 _, .sto 1]) [] follows_mixed hst (oc (ob_a rfl rfl (a_fld (lz0 0 rfl) fld_24_0)) (oc (ob_v rfl rfl (r_loadf 0 rfl (by kernel_rfl) trivial (lz0 0 rfl) (Sub.part 0 rfl rfl) ty_4)) (oc (ob_v rfl rfl (r_move (gq 1 rfl))) (oc (ob_v rfl rfl (r_move (gq 2 rfl))) (oc (ob_v rfl rfl (r_call (xs := [.tmp 30, .tmp 31]) (rtimesN_c _ (2 ^ (t % 32)) (by simp only [List.length_append, List.length_replicate]; have : (riOf p).mag.length = lz p := rfl; omega) (pow_lt32 (Nat.mod_lt _ (by decide)))) (.cons (vq 2 rfl) (.cons (vq 3 rfl) .nil)))) (oc (ob_v rfl rfl (r_call (xs := [.tmp 29, .tmp 32]) (rsignedN_c _ _) (.cons (vq 1 rfl) (.cons (vq 4 rfl) .nil)))) (oc (ob_sto rfl rfl rfl (vq 5 rfl) ty_24 (Eq.trans (b := 2) rfl rfl)) o0))))))) (by kernel_rfl) (by kernel_rfl) (by kernel_rfl) (by kernel_rfl) (fun a w hst => ?_)
      have hst : St B w0 34 [] [⟨2, 24, ptrH, _⟩, ⟨4, 24, ptrH, _⟩] a w := hst
      refine thn_normal ?_
      refine wp_ret ?_
      refine ret_wk ?_ (ret_cell rfl hst (List.mem_of_getElem? (i := 1) rfl) ty_24)
      exact wk_eq dbl_e

end Go.Proofs.YtmghfjcjcfaagaaGreat
