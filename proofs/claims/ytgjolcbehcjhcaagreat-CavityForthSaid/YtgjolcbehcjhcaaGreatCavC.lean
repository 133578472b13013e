/- Contract of cavity.Trip; sizes of benches; an append of a slice at the end of a region that draws its order. -/
import Derived.Test.YtgjolcbehcjhcaaGreatBenF
import Derived.Test.YtgjolcbehcjhcaaGreatBenE
import Derived.Test.YtgjolcbehcjhcaaGreatCavB
import Derived.Laws.AppendOwn
import Derived.Orders
namespace Go.Proofs.YtgjolcbehcjhcaaGreat
open Go Go.RowKit
namespace CavC
theorem fld_125_0 : Fld Tryz.prog 125 0 0 1 := ⟨_, _, Tryz.underlying125, rfl, rfl, by kernel_rfl, by decide⟩
theorem fld_125_1 : Fld Tryz.prog 125 1 1 1 := ⟨_, _, Tryz.underlying125, rfl, rfl, by kernel_rfl, by decide⟩
theorem fld_56_0 : Fld Tryz.prog 56 0 0 4 := ⟨_, _, Tryz.underlying56, rfl, rfl, by kernel_rfl, by decide⟩
theorem fld_56_1 : Fld Tryz.prog 56 1 4 4 := ⟨_, _, Tryz.underlying56, rfl, rfl, by kernel_rfl, by decide⟩
theorem fld_56_2 : Fld Tryz.prog 56 2 8 4 := ⟨_, _, Tryz.underlying56, rfl, rfl, by kernel_rfl, by decide⟩
theorem fld_56_3 : Fld Tryz.prog 56 3 12 4 := ⟨_, _, Tryz.underlying56, rfl, rfl, by kernel_rfl, by decide⟩
theorem fld_94_1 : Fld Tryz.prog 94 1 1 4 := ⟨_, _, Tryz.underlying94, rfl, rfl, by kernel_rfl, by decide⟩
theorem fld_94_2 : Fld Tryz.prog 94 2 5 4 := ⟨_, _, Tryz.underlying94, rfl, rfl, by kernel_rfl, by decide⟩
theorem sl_121 : Sl Tryz.prog 121 125 2 := ⟨by kernel_rfl, by kernel_rfl⟩
theorem sl_47 : Sl Tryz.prog 47 94 9 := ⟨by kernel_rfl, by kernel_rfl⟩
theorem ty_123 : Ty Tryz.prog 123 1 false := ⟨by kernel_rfl, by kernel_rfl⟩
theorem ty_125 : Ty Tryz.prog 125 2 true := ⟨by kernel_rfl, by kernel_rfl⟩
theorem ty_26 : Ty Tryz.prog 26 4 true := ⟨by kernel_rfl, by kernel_rfl⟩
theorem ty_4 : Ty Tryz.prog 4 1 false := ⟨by kernel_rfl, by kernel_rfl⟩
theorem ty_56 : Ty Tryz.prog 56 16 true := ⟨by kernel_rfl, by kernel_rfl⟩
theorem ty_94 : Ty Tryz.prog 94 9 true := ⟨by kernel_rfl, by kernel_rfl⟩
end CavC
open CavC
theorem str_way : Str Tryz.prog 125 [BoA false, NfA] :=
  Str.of (z := .agg #[.bool false, .nilFunc]) (by kernel_rfl) Tryz.underlying125 (by kernel_rfl) fun _ _ => ⟨[[.bool false], [.nilFunc]], rfl, .cons rfl (.cons ⟨rfl, rfl⟩ .nil)⟩
def wayF (j : Nat) : FuncId := if j = 0 then 123 else 122
def wayA (j : Nat) : As := cat [BoA (decide (j = 0)), EqA (.func (.func (wayF j)) #[] #[])]
def wayL : List As := [wayA 0, wayA 1]
theorem way_at {j : Nat} (h : j < 2) : wayL[j]? = some (wayA j) :=
  match j, h with
  | 0, _ => rfl
  | 1, _ => rfl
theorem way_n : ∀ A ∈ wayL, A.n = 2 := fun A hA => by
  rcases List.mem_cons.1 hA with rfl | hA
  · rfl
  · obtain rfl := List.mem_singleton.1 hA
    rfl
theorem free_eqA (v : Value) : FreeA (EqA v) (EqA v) := ⟨rfl, rfl, fun _ _ _ _ _ h => h⟩
theorem way_free : FreeA (cat wayL) (cat wayL) := cat_free (.cons (cat_free (.cons (free_bo _) (.cons (free_eqA _) .nil))) (.cons (cat_free (.cons (free_bo _) (.cons (free_eqA _) .nil))) .nil))
def wayQ (j : Nat) (m : MQ) : MQ := if j = 0 then m else mulQ (mirQ m) m
def wayT (ring : Bool) (j : Nat) (m : MQ) : MQ := if decide (j = 0) == ring then wayQ j m else m
def tripQ (ring : Bool) (m : MQ) : MQ := if ring then m else mulQ (mirQ m) m
def tripF (xs : List RE) (ring : Bool) : RM × Int := if chF xs = 0 then asM 0 (tripQ ring (prodQ xs)) else (rm0, chF xs)
/-- how far it is behind j ways. -/
def wayS (ring : Bool) (m : MQ) : Nat → MQ
  | 0 => m
  | j + 1 => wayT ring j (wayS ring m j)
theorem wayS_2 (ring : Bool) (m : MQ) : wayS ring m 2 = tripQ ring m := by cases ring <;> rfl
def wayB : Nat → Nat
  | 0 => 16781313
  | j + 1 => wayB j + wayB j + (wayB j + wayB j) + 1
theorem St.nbR {B N : Nat} {w0 : Bs} {Γ : List (Nat × VA)} {Λ : List Lc} {a : Act} {w : World} (h : St B w0 N Γ Λ a w) {s : Nat} {E : TypeId} {l : List As} (k : Nat) (hm : Γ[k]? = some (s, NewR w0.w.heap.size E l)) (hB : B = w0.w.heap.size) : St B w0 N (Γ.set k (s, NewB E l)) Λ a w :=
  ⟨h.lo, h.defers, h.size, h.base, fun x hx => by
    rcases List.mem_or_eq_of_mem_set hx with hx | rfl
    · exact h.vals x hx
    · have := h.vals _ (List.mem_of_getElem? hm)
      subst hB
      exact this, h.locs, h.dis⟩
theorem r_lenN {P : Program} {R : Rg} {Q : Exit → Act → World → Prop} {B i b : Nat} {w0 : Bs} {x : Operand} {S E E' : TypeId} {l : List As} (hS : P.underlying S = some (.slice E')) (hx : Has R B w0 i x (NewR b E l)) : Wv P Q R B w0 i (.call ⟨.builtin .len, #[x], #[S]⟩) (In l.length) :=
  wv_run fun d T ps af gd a w av => by
    obtain ⟨g, ds, h1, _⟩ := hx a w av
    refine ⟨.int .i64 l.length, w, ?_, Grow.refl w, val_num _ _ _ _⟩
    simp [execOp, resolve, invoke, builtin, h1, Builtin.len_, run_underlying hS, goInt]

set_option maxRecDepth 100000 in
theorem ways_c  : Cn Tryz.prog 79 [] (NewB 125 wayL) := by
  refine Cn.introW Tryz.func79 rfl (by kernel_rfl) nq .nil (fun _ _ _ _ hB ⟨g, ds, e, h1, h2, h3⟩ => ⟨g, ds, e, Nat.le_trans hB h1, h2, way_free.2.2 _ _ _ _ hB h3⟩) (fun B w0 a hB0 hst => ?_)
  have hst : St B w0 6 [] [] a w0.w := hst
  refine wp_seq ?_
  refine gl (sts := []) (news := []) (sp := [.val 0 _]) [.o 0] hst (oc (ob_v rfl rfl (r_assign has_const)) o0) (fun a w hst => ?_)
  have hst : St B w0 6 [(0, _)] [] a w := hst
  refine thn_normal ?_
  refine wp_seq ?_
  refine gl (sts := []) (news := []) (sp := [.val 1 _]) [.g 0, .o 0] hst (oc (ob_v rfl rfl (r_assign has_fnE)) o0) (fun a w hst => ?_)
  have hst : St B w0 6 [(0, _), (1, _)] [] a w := hst
  refine thn_normal ?_
  refine wp_seq ?_
  refine gl (sts := []) (news := []) (sp := [.val 2 _, .val 3 _, .val 4 _, .val 5 _, .val 0 _]) [.o 4] hst (oc (ob_v rfl rfl (r_build (xs := [(0, .const (.bool true)), (1, .func 123)]) (qs := [(0, _), (1, _)]) str_way (.cons ⟨rfl, has_bo, rfl⟩ (.cons ⟨rfl, has_fnE, rfl⟩ .nil)))) (oc (ob_v rfl rfl (r_move (gq 1 rfl))) (oc (ob_v rfl rfl (r_build (xs := [(1, .tmp 3)]) (qs := [(1, _)]) str_way (.cons ⟨rfl, (vq 1 rfl), rfl⟩ .nil))) (oc (ob_v rfl rfl (r_sliceN (l := [_, _]) (xs := [.tmp 2, .tmp 4]) sl_121 (by kernel_rfl) (n_ok (by kernel_rfl)) nq nq nq (.cons (vq 0 rfl) (.cons (vq 2 rfl) .nil)) rfl rfl)) (oc (ob_v rfl rfl (r_assign (vq 3 rfl))) o0))))) (fun a w hst => ?_)
  have hst : St B w0 6 [(0, _)] [] a w := hst
  refine thn_normal ?_
  refine wp_ret ?_
  have hst := St.nbR hst 0 rfl hB0
  refine ret_wk ?_ (ret_tmp rfl hst (List.mem_of_getElem? (i := 0) rfl))
  exact fun _ _ _ h => h

set_option maxRecDepth 100000 in
theorem ways1_q {c : Nat} {m : MQ} (hc : c ≤ 34359738368) : Cn Tryz.prog 122 [(QMA c m).va] ((QMA (c + c + (c + c) + 1) (mulQ (mirQ m) m)).va) := by
  refine Cn.intro Tryz.func122 rfl (by kernel_rfl) nq (fun B w0 a hst => ?_)
  have hst : St B w0 14 [(0, (QMA c m).va)] [] a w0.w := hst
  refine wp_seq ?_
  refine gl (sts := []) (news := [⟨1, 56, ptrH, some 0, _, none⟩, ⟨2, 56, ptrH, some 1, _, none⟩]) (sp := [.alc 0, .alc 1]) [] hst (oc (ob_box rfl rfl rfl (gq 0 rfl)) (oc (ob_alc rfl rfl rfl (Str.zero str_matrix)) o0)) (fun a w hst => ?_)
  have hst : St B w0 14 [] [⟨1, 56, ptrH, _⟩, ⟨2, 56, ptrH, _⟩] a w := hst
  refine thn_normal ?_
  refine wp_seq ?_
  refine gl (sts := [none, some (11, _)]) (news := []) (sp := [.adr 3 1 (.some 12) True, .val 4 _, .adr 5 1 (.some 4) True, .val 6 _, .adr 7 1 (.some 8) True, .val 8 _, .adr 9 1 (.some 0) True, .val 10 _, .val 11 _, .val 12 _, .val 13 _, .sto 1]) [] hst (oc (ob_a rfl rfl (a_fld (lz0 0 rfl) fld_56_3)) (oc (ob_v rfl rfl (r_loadf 0 rfl (by kernel_rfl) trivial (lz0 0 rfl) (Sub.part 3 rfl rfl) ty_26)) (oc (ob_a rfl rfl (a_fld (lz0 0 rfl) fld_56_1)) (oc (ob_v rfl rfl (r_loadf 2 rfl (by kernel_rfl) trivial (lz0 0 rfl) (Sub.part 1 rfl rfl) ty_26)) (oc (ob_a rfl rfl (a_fld (lz0 0 rfl) fld_56_2)) (oc (ob_v rfl rfl (r_loadf 4 rfl (by kernel_rfl) trivial (lz0 0 rfl) (Sub.part 2 rfl rfl) ty_26)) (oc (ob_a rfl rfl (a_fld (lz0 0 rfl) fld_56_0)) (oc (ob_v rfl rfl (r_loadf 6 rfl (by kernel_rfl) trivial (lz0 0 rfl) (Sub.part 0 rfl rfl) ty_26)) (oc (ob_v rfl rfl (r_build (xs := [(0, .tmp 4), (1, .tmp 6), (2, .tmp 8), (3, .tmp 10)]) (qs := [(0, _), (1, _), (2, _), (3, _)]) str_matrix (.cons ⟨rfl, (vq 1 rfl), rfl⟩ (.cons ⟨rfl, (vq 3 rfl), rfl⟩ (.cons ⟨rfl, (vq 5 rfl), rfl⟩ (.cons ⟨rfl, (vq 7 rfl), rfl⟩ .nil)))))) (oc (ob_v rfl rfl (r_load (lz0 0 rfl) ty_56)) (oc (ob_v rfl rfl (r_call (xs := [.tmp 11, .tmp 12]) (rowTimes_q (m := ⟨_, _, _, _⟩) (q := m) (by omega)) (.cons (vq 8 rfl) (.cons (vq 9 rfl) .nil)))) (oc (ob_sto rfl rfl rfl (vq 10 rfl) ty_56 (Eq.trans (b := 16) rfl rfl)) o0)))))))))))) (fun a w hst => ?_)
  have hst : St B w0 14 [] [⟨1, 56, ptrH, _⟩, ⟨2, 56, ptrH, _⟩] a w := hst
  refine thn_normal ?_
  refine wp_ret ?_
  refine ret_wk ?_ (ret_cell rfl hst (List.mem_of_getElem? (i := 1) rfl) ty_56)
  exact wk_id

set_option maxRecDepth 100000 in
theorem ways2_q {c : Nat} {m : MQ} : Cn Tryz.prog 123 [(QMA c m).va] ((QMA c m).va) := by
  refine Cn.intro Tryz.func123 rfl (by kernel_rfl) nq (fun B w0 a hst => ?_)
  have hst : St B w0 4 [(0, (QMA c m).va)] [] a w0.w := hst
  refine wp_seq ?_
  refine gl (sts := []) (news := [⟨1, 56, ptrH, some 0, _, none⟩, ⟨2, 56, ptrH, some 1, _, none⟩]) (sp := [.alc 0, .alc 1]) [] hst (oc (ob_box rfl rfl rfl (gq 0 rfl)) (oc (ob_alc rfl rfl rfl (Str.zero str_matrix)) o0)) (fun a w hst => ?_)
  have hst : St B w0 4 [] [⟨1, 56, ptrH, _⟩, ⟨2, 56, ptrH, _⟩] a w := hst
  refine thn_normal ?_
  refine wp_seq ?_
  refine gl (sts := [none, some (1, _)]) (news := []) (sp := [.val 3 _, .sto 1]) [] hst (oc (ob_v rfl rfl (r_load (lz0 0 rfl) ty_56)) (oc (ob_sto rfl rfl rfl (vq 0 rfl) ty_56 (Eq.trans (b := 16) rfl rfl)) o0)) (fun a w hst => ?_)
  have hst : St B w0 4 [] [⟨1, 56, ptrH, _⟩, ⟨2, 56, ptrH, _⟩] a w := hst
  refine thn_normal ?_
  refine wp_ret ?_
  refine ret_wk ?_ (ret_cell rfl hst (List.mem_of_getElem? (i := 1) rfl) ty_56)
  exact wk_id

theorem qm_mono' {k k' : Nat} {m : MQ} (h : k ≤ k') : WkA (QMA k m) (QMA k' m) := cat_wk (.cons (qa_mono h) (.cons (qa_mono h) (.cons (qa_mono h) (.cons (qa_mono h) .nil))))
theorem way_c {c : Nat} {m : MQ} {j : Nat} (hc : c ≤ 34359738368) : Cn Tryz.prog (wayF j) [(QMA c m).va] (QMA (c + c + (c + c) + 1) (wayQ j m)).va := by
  unfold wayF wayQ
  by_cases h : j = 0
  · rw [if_pos h, if_pos h]
    exact ways2_q.wkp (qm_mono' (by omega)).va
  · rw [if_neg h, if_neg h]
    exact ways1_q hc
theorem wayB_le {j : Nat} (h : j ≤ 2) : wayB j ≤ 1000000000 :=
  match j, h with
  | 0, _ => by decide
  | 1, _ => by decide
  | 2, _ => by decide

set_option maxRecDepth 100000 in
set_option maxHeartbeats 1000000 in
theorem trip_c (xs : List RE) (ring : Bool) : Cn Tryz.prog 33 [(SlA 94 [U32] (xs.map REA)).va, Bo ring] (MR (tripF xs ring)) := by
  refine Cn.intro Tryz.func33 rfl (by kernel_rfl) nq (fun B w0 a hst => ?_)
  have hst : St B w0 37 [(0, (SlA 94 [U32] (xs.map REA)).va), (1, Bo ring)] [] a w0.w := hst
  refine wp_seq ?_
  refine gl (sts := []) (news := [⟨4, 56, ptrH, some 0, _, none⟩]) (sp := [.alc 0, .val 5 _]) [.g 0, .g 1, .o 1] hst (oc (ob_alc rfl rfl rfl (Str.zero str_matrix)) (oc (ob_v rfl rfl (r_assign has_num)) o0)) (fun a w hst => ?_)
  have hst : St B w0 37 [(0, _), (1, _), (5, _)] [⟨4, 56, ptrH, _⟩] a w := hst
  refine thn_normal ?_
  refine wp_seq ?_
  refine wp_seq ?_
  refine gl (sts := [none]) (news := []) (sp := [.val 10 _, .val 11 _, .val 6 _]) [.g 0, .g 1, .g 2, .o 2] hst (oc (ob_v rfl rfl (r_move (gq 0 rfl))) (oc (ob_v rfl rfl (r_call (xs := [.tmp 10]) (benCheck_c xs) (.cons (vq 0 rfl) .nil))) (oc (ob_v rfl rfl (r_assign (vq 1 rfl))) o0))) (fun a w hst => ?_)
  have hst : St B w0 37 [(0, _), (1, _), (5, _), (6, _)] [⟨4, 56, ptrH, _⟩] a w := hst
  refine thn_normal ?_
  refine wp_seq ?_
  refine gl (sts := [none]) (news := []) (sp := [.val 12 _, .val 13 _]) [.g 0, .g 1, .g 2, .g 3, .o 1] hst (oc (ob_v rfl rfl (r_move (gq 3 rfl))) (oc (ob_v rfl rfl (r_neq (vq 0 rfl) has_num)) o0)) (fun a w hst => ?_)
  have hst : St B w0 37 [(0, _), (1, _), (5, _), (6, _), (13, _)] [⟨4, 56, ptrH, _⟩] a w := hst
  refine thn_normal ?_
  refine cond_of hst (List.mem_of_getElem? (i := 4) rfl) (fun hb0 => ?_) (fun hb0 => ?_)
  · have hc : ¬ chF xs = 0 := by simpa using hb0
    refine wp_seq ?_
    refine gl (sts := [some (2, _)]) (news := []) (sp := [.val 14 _, .val 15 _, .sto 0, .val 5 _]) [.g 0, .g 1, .o 3] hst (oc (ob_v rfl rfl (r_build (xs := []) (qs := []) str_matrix .nil)) (oc (ob_v rfl rfl (r_move (gq 3 rfl))) (oc (ob_sto rfl rfl rfl (vq 0 rfl) ty_56 (Eq.trans (b := 16) rfl rfl)) (oc (ob_v rfl rfl (r_assign (vq 1 rfl))) o0)))) (fun a w hst => ?_)
    have hst : St B w0 37 [(0, _), (1, _), (5, _)] [⟨4, 56, ptrH, _⟩] a w := hst
    refine thn_normal ?_
    refine wp_ret ?_
    refine thn_ret ?_
    refine ret_wk ?_ (ret_many (rs := [.cell 4 56, .tmp 5]) rfl hst (.cell (List.mem_of_getElem? (i := 0) rfl) ty_56 (.tmp (List.mem_of_getElem? (i := 2) rfl) .nil)) (by decide))
    rw [tripF, if_neg hc]; exact wk_id
  · have hc : chF xs = 0 := by simpa using hb0
    have hk := ch_ok hc
    refine wp_skip ?_
    refine thn_normal ?_
    refine wp_seq ?_
    refine gl (sts := [none]) (news := [⟨7, 56, ptrH, some 2, _, some (3, _)⟩]) (sp := [.val 16 _, .val 17 _, .alc 1, .sto 1]) [.g 1, .g 2] hst (oc (ob_v rfl rfl (r_move (gq 0 rfl))) (oc (ob_v rfl rfl (r_call (xs := [.tmp 16]) (rowMatrix_c hk.1 hk.2) (.cons (vq 0 rfl) .nil))) (oc (ob_alc rfl rfl rfl (Str.zero str_matrix)) (oc (ob_sto rfl rfl rfl (vq 1 rfl) ty_56 (Eq.trans (b := 16) rfl rfl)) o0)))) (fun a w hst => ?_)
    have hst : St B w0 37 [(1, _), (5, _)] [⟨4, 56, ptrH, _⟩, ⟨7, 56, ptrH, _⟩] a w := hst
    refine thn_normal ?_
    refine wp_seq ?_
    refine wp_seq ?_
    refine gl (sts := [none, none]) (news := []) (sp := [.val 18 _, .val 19 _, .val 20 _]) [.g 0, .g 1, .o 0, .o 1, .o 2] hst (oc (ob_v rfl rfl (r_callN ways_c way_free)) (oc (ob_v rfl rfl (r_lenN Tryz.underlying121 (vq 0 rfl))) (oc (ob_v rfl rfl (r_move has_num)) o0))) (fun a w hst => ?_)
    have hst : St B w0 37 [(1, _), (5, _), (18, _), (19, _), (20, _)] [⟨4, 56, ptrH, _⟩, ⟨7, 56, ptrH, _⟩] a w := hst
    have hst := St.toLoc hst 2 rfl (by kernel_rfl)
    have hst : St B w0 37 [(1, _), (5, _), (19, _), (20, _)] [⟨4, 56, ptrH, _⟩, ⟨7, 56, ptrH, _⟩, ⟨18, 125, slH 2 2, _⟩] a w := hst
    refine thn_normal ?_
    refine wp_block ?_
    have hst := St.sel hst [0, 2, 3]
    refine wp_loop_ghost (fun n a w => ∃ j : Nat, (n + j = 2) ∧ St B w0 37 [(1, Bo ring), (19, In (2 : Nat)), (20, In (j : Nat))] [⟨4, 56, ptrH, RMA rm0⟩, ⟨7, 56, ptrH, QMA (wayB j) (wayS ring (prodQ xs) j)⟩, ⟨18, 125, slH 2 2, cat wayL⟩] a w) (2) ?_ ?_
    · exact ⟨0, rfl, hst⟩
    intro n a w hI
    obtain ⟨j, hn, hst⟩ := hI
    refine wp_seq ?_
    refine gl (sts := [none, none, none]) (news := []) (sp := [.val 21 _]) [.g 0, .g 1, .g 2, .o 0] hst (oc (ob_v rfl rfl (r_lss (gq 2 rfl) (gq 1 rfl))) o0) (fun a w hst => ?_)
    have hst : St B w0 37 [(1, _), (19, _), (20, _), (21, _)] [⟨4, 56, ptrH, _⟩, ⟨7, 56, ptrH, _⟩, ⟨18, 125, slH 2 2, _⟩] a w := hst
    refine thn_normal ?_
    refine wp_seq ?_
    refine cond_of hst (List.mem_of_getElem? (i := 3) rfl) (fun hb1 => ?_) (fun hb1 => ?_)
    · have hj : j < 2 := by have := of_decide_eq_true hb1; omega
      refine wp_skip ?_
      refine thn_normal ?_
      refine wp_seq ?_
      refine wp_block ?_
      refine wp_seq ?_
      refine gl (sts := [none, none, none]) (news := [⟨9, 125, ptrH, some 2, _, some (3, _)⟩]) (sp := [.val 22 _, .val 23 _, .alc 3, .sto 3]) [.g 0, .g 1, .g 2] hst (oc (ob_v rfl rfl (r_rowv (lz0 2 rfl) sl_121 way_n (gq 2 rfl) (way_at hj) rfl)) (oc (ob_v rfl rfl (r_loade (vq 0 rfl) ty_125)) (oc (ob_alc rfl rfl rfl (Str.zero str_way)) (oc (ob_sto rfl rfl rfl (vq 1 rfl) ty_125 (Eq.trans (b := 2) rfl rfl)) o0)))) (fun a w hst => ?_)
      have hst : St B w0 37 [(1, _), (19, _), (20, _)] [⟨4, 56, ptrH, _⟩, ⟨7, 56, ptrH, _⟩, ⟨18, 125, slH 2 2, _⟩, ⟨9, 125, ptrH, _⟩] a w := hst
      refine thn_normal ?_
      refine wp_seq ?_
      refine gl (sts := [none, none, none, none]) (news := []) (sp := [.adr 24 9 (.some 0) True, .val 25 _, .val 26 _, .val 27 _]) [.g 0, .g 1, .g 2, .o 3] hst (oc (ob_a rfl rfl (a_fld (lz0 3 rfl) fld_125_0)) (oc (ob_v rfl rfl (r_loadf 0 rfl (by kernel_rfl) trivial (lz0 3 rfl) (Sub.part 0 rfl rfl) ty_4)) (oc (ob_v rfl rfl (r_move (gq 0 rfl))) (oc (ob_v rfl rfl (r_eqlb (by kernel_rfl) (vq 1 rfl) (vq 2 rfl))) o0)))) (fun a w hst => ?_)
      have hst : St B w0 37 [(1, _), (19, _), (20, _), (27, _)] [⟨4, 56, ptrH, _⟩, ⟨7, 56, ptrH, _⟩, ⟨18, 125, slH 2 2, _⟩, ⟨9, 125, ptrH, _⟩] a w := hst
      refine thn_normal ?_
      refine cond_join (fun a w =>  St B w0 37 [(1, Bo ring), (19, In (2 : Nat)), (20, In (j : Nat))] [⟨4, 56, ptrH, RMA rm0⟩, ⟨7, 56, ptrH, QMA (wayB (j + 1)) (wayS ring (prodQ xs) (j + 1))⟩, ⟨18, 125, slH 2 2, cat wayL⟩, ⟨9, 125, ptrH, wayA j⟩] a w) hst (List.mem_of_getElem? (i := 3) rfl) (fun hb2 => ?_) (fun hb2 => ?_) (fun a w hst => ?_)
      · refine gl (sts := [none, some (4, _), none, none]) (news := []) (sp := [.adr 28 9 (.some 1) True, .val 29 _, .val 30 _, .val 31 _, .sto 1]) [.g 0, .g 1, .g 2] hst (oc (ob_a rfl rfl (a_fld (lz0 3 rfl) fld_125_1)) (oc (ob_v rfl rfl (r_loadf 0 rfl (by kernel_rfl) trivial (lz0 3 rfl) (Sub.part 1 rfl rfl) ty_123)) (oc (ob_v rfl rfl (r_load (lz0 1 rfl) ty_56)) (oc (ob_v rfl rfl (r_callE (xs := [.tmp 30]) (way_c (Nat.le_trans (wayB_le (Nat.le_of_lt hj)) (by decide))) (vq 1 rfl) (.cons (vq 2 rfl) .nil))) (oc (ob_sto rfl rfl rfl (vq 3 rfl) ty_56 (Eq.trans (b := 16) rfl rfl)) o0))))) (fun a w hst => ?_)
        have hst : St B w0 37 [(1, _), (19, _), (20, _)] [⟨4, 56, ptrH, _⟩, ⟨7, 56, ptrH, _⟩, ⟨18, 125, slH 2 2, _⟩, ⟨9, 125, ptrH, _⟩] a w := hst
        refine thn_normal ?_
        have hst := St.sel hst [0, 1, 2]
        have e : wayS ring (prodQ xs) (j + 1) = wayQ j (wayS ring (prodQ xs) j) := by rw [wayS, wayT, if_pos hb2]
        rw [e]
        exact hst
      · refine wp_skip ?_
        refine thn_normal ?_
        have hst := St.sel hst [0, 1, 2]
        have e : wayS ring (prodQ xs) (j + 1) = wayS ring (prodQ xs) j := by rw [wayS, wayT, if_neg (by rw [hb2]; decide)]
        rw [e]
        exact St.wkL hst 1 rfl (qm_mono' (by rw [wayB]; omega))
      refine blk_normal ?_
      refine thn_normal ?_
      refine gl (sts := [none, none, none, none]) (news := []) (sp := [.val 32 _, .val 20 _]) [.g 0, .g 1, .o 1] hst (oc (ob_v rfl rfl (r_add (gq 2 rfl) has_num ((wi64 (by omega) (by omega)).trans (by omega : (_ : Int) = ((j + 1 : Nat) : Int))))) (oc (ob_v rfl rfl (r_move (vq 0 rfl))) o0)) (fun a w hst => ?_)
      have hst : St B w0 37 [(1, _), (19, _), (20, _)] [⟨4, 56, ptrH, _⟩, ⟨7, 56, ptrH, _⟩, ⟨18, 125, slH 2 2, _⟩, ⟨9, 125, ptrH, _⟩] a w := hst
      refine thn_normal ?_
      have hst := St.sel hst [0, 1, 2]
      have hst := St.selL hst [0, 1, 2]
      exact ⟨n - 1, by omega, j + 1, by omega, hst⟩
    · obtain rfl : j = 2 := by have := of_decide_eq_false hb1; omega
      refine wp_exit ?_
      refine thn_exit ?_
      refine thn_exit ?_
      refine blk_exit ?_
      refine thn_normal ?_
      refine wp_seq ?_
      refine gl (sts := [some (4, _), none, none]) (news := []) (sp := [.val 33 _, .val 34 _, .val 35 _, .val 36 _, .sto 0, .val 5 _]) [.o 5] hst (oc (ob_v rfl rfl (r_load (lz0 1 rfl) ty_56)) (oc (ob_v rfl rfl (r_call (xs := [.tmp 33]) (cavMatrix_q (c := wayB 2) (m := wayS ring (prodQ xs) 2) (by decide)) (.cons (vq 0 rfl) .nil))) (oc (ob_v rfl rfl (r_ex0 (vq 1 rfl))) (oc (ob_v rfl rfl (r_ex1 (vq 1 rfl))) (oc (ob_sto rfl rfl rfl (vq 2 rfl) ty_56 (Eq.trans (b := 16) rfl rfl)) (oc (ob_v rfl rfl (r_assign (vq 3 rfl))) o0)))))) (fun a w hst => ?_)
      have hst : St B w0 37 [(5, _)] [⟨4, 56, ptrH, _⟩, ⟨7, 56, ptrH, _⟩, ⟨18, 125, slH 2 2, _⟩] a w := hst
      refine thn_normal ?_
      refine wp_ret ?_
      refine ret_wk ?_ (ret_many (rs := [.cell 4 56, .tmp 5]) rfl hst (.cell (List.mem_of_getElem? (i := 0) rfl) ty_56 (.tmp (List.mem_of_getElem? (i := 0) rfl) .nil)) (by decide))
      rw [tripF, if_pos hc, ← wayS_2]; exact wk_id

def elSizeF (x : RE) : Int := IntKind.i64.wrap (fracSizeF x.p + fracSizeF x.q)
def elszF (n : Int) : List RE → Int
  | [] => n
  | x :: xs => if decide (n ≤ 1048576) then elszF (IntKind.i64.wrap (n + elSizeF x)) xs else n
theorem elsz_go {n : Int} {l : List RE} {j : Nat} (h : j < l.length) (h2 : n ≤ 1048576) : elszF n (l.drop j) = elszF (IntKind.i64.wrap (n + elSizeF l[j])) (l.drop (j + 1)) := by
  rw [List.drop_eq_getElem_cons h, elszF, if_pos (decide_eq_true h2)]
theorem elsz_end {n : Int} {l : List RE} {j : Nat} (h : ¬ (j < l.length ∧ n ≤ 1048576)) : elszF n (l.drop j) = n := by
  by_cases hj : j < l.length
  · rw [List.drop_eq_getElem_cons hj, elszF, if_neg (by simpa using fun hh => h ⟨hj, hh⟩)]
  · rw [List.drop_of_length_le (by omega)]; rfl
def szE (x : RE) : Nat := szQ (toQ x.p) + szQ (toQ x.q)
def sumE (xs : List RE) : Nat := (xs.map fun x => szE x + 4).sum
theorem fr_sz {x : RF} (h : okX x = true) : fracSizeF x = ((szQ (toQ x) + 2 : Nat) : Int) ∧ szQ (toQ x) ≤ 4096 := by
  obtain ⟨r, rfl, hr⟩ := ok_rf h
  rw [toQ_of]
  exact ⟨frac_sz hr, sz_le hr⟩
theorem el_sz {x : RE} (h : elF x = true) : elSizeF x = ((szE x + 4 : Nat) : Int) ∧ szE x ≤ 8192 := by
  obtain ⟨hx, _⟩ := el_kinds h
  simp only [List.all_cons, List.all_nil, Bool.and_true, Bool.and_eq_true] at hx
  obtain ⟨p1, p2⟩ := fr_sz hx.1
  obtain ⟨q1, q2⟩ := fr_sz hx.2
  unfold elSizeF szE
  rw [p1, q1, wi64 (by omega) (by omega)]
  exact ⟨by omega, by omega⟩
theorem elsz_le : ∀ (xs : List RE) (n : Int), 0 ≤ n → xs.all elF = true → elszF n xs ≤ 400 → n + (sumE xs : Int) ≤ 400
  | [], n, _, _, h => by unfold elszF at h; unfold sumE; simp; exact h
  | x :: xs, n, h0, ha, h => by
    rw [List.all_cons, Bool.and_eq_true] at ha
    obtain ⟨e1, e2⟩ := el_sz ha.1
    unfold elszF at h
    by_cases hn : n ≤ 1048576
    · rw [if_pos (decide_eq_true hn), e1, wi64 (by omega) (by omega)] at h
      have := elsz_le xs _ (by omega) ha.2 h
      have e : sumE (x :: xs) = (szE x + 4) + sumE xs := by simp [sumE]
      rw [e]
      omega
    · rw [if_neg (by simpa using hn)] at h
      omega
theorem el_rep' {x : RE} (h : elF x = true) : RepM (szE x + 1) (elM x) := by
  obtain ⟨hx, hk⟩ := el_kinds h
  have bp := bQ_sz (toQ x.p)
  have bq := bQ_sz (toQ x.q)
  unfold elM szE
  rcases hk with hk | hk | ⟨hk, h0⟩ | hk | hk <;> rw [hk]
  · exact rep_mono (rep_b bp) (by omega)
  · exact rep_mono (rep_c (bQ_min bp)) (by omega)
  · exact rep_mono (rep_b (bQ_div bp bq h0)) (by omega)
  · exact rep_mono (rep_c (bQ_min (bQ_mul bp bq))) (by omega)
  · exact rep_mono rep_f (by omega)
theorem prod_rep' : ∀ (xs : List RE), xs.all elF = true → RepM (sumE xs + 1) (prodQ xs) := fun xs => by
  induction xs with
  | nil => exact fun _ => rep_1
  | cons x xs ih =>
    intro h
    rw [List.all_cons, Bool.and_eq_true] at h
    have e : prodQ (x :: xs) = mulQ (prodQ xs) (prodQ [x]) := prod_app [x] xs
    have e1 : prodQ [x] = elM x := by
      show mulQ (elM x) ⟨1, 0, 0, 1⟩ = elM x
      exact mul_i1 _
    rw [e, e1]
    have es : sumE (x :: xs) = (szE x + 4) + sumE xs := by simp [sumE]
    rw [es]
    exact rep_mono (rep_mul (ih h.2) (el_rep' h.1)) (by omega)

set_option maxRecDepth 100000 in
theorem elSize_c (x : RE) : Cn Tryz.prog 75 [(REA x).va] (In (elSizeF x)) := by
  refine Cn.intro Tryz.func75 rfl (by kernel_rfl) nq (fun B w0 a hst => ?_)
  have hst : St B w0 10 [(0, (REA x).va)] [] a w0.w := hst
  refine wp_seq ?_
  refine gl (sts := []) (news := [⟨1, 94, ptrH, some 0, _, none⟩]) (sp := [.alc 0, .val 2 _]) [.o 1] hst (oc (ob_box rfl rfl rfl (gq 0 rfl)) (oc (ob_v rfl rfl (r_assign has_num)) o0)) (fun a w hst => ?_)
  have hst : St B w0 10 [(2, _)] [⟨1, 94, ptrH, _⟩] a w := hst
  refine thn_normal ?_
  refine wp_seq ?_
  refine go_draw (anc := [[], [0], [0, 1], [], [3], [0, 1, 2, 3, 4], [0, 1, 2, 3, 4, 5], [0, 1, 2, 3, 4, 5, 6]]) (sts := [none]) (news := []) (sp := [.adr 3 1 (.some 1) True, .val 4 _, .val 5 _, .adr 6 1 (.some 5) True, .val 7 _, .val 8 _, .val 9 _, .val 2 _]) [.o 7] follows_mixed hst (oc (ob_a rfl rfl (a_fld (lz0 0 rfl) fld_94_1)) (oc (ob_v rfl rfl (r_loadf 0 rfl (by kernel_rfl) trivial (lz0 0 rfl) (Sub.part 1 rfl rfl) ty_26)) (oc (ob_v rfl rfl (r_call (xs := [.tmp 4]) (fracSize_c _) (.cons (vq 1 rfl) .nil))) (oc (ob_a rfl rfl (a_fld (lz0 0 rfl) fld_94_2)) (oc (ob_v rfl rfl (r_loadf 3 rfl (by kernel_rfl) trivial (lz0 0 rfl) (Sub.part 2 rfl rfl) ty_26)) (oc (ob_v rfl rfl (r_call (xs := [.tmp 7]) (fracSize_c _) (.cons (vq 4 rfl) .nil))) (oc (ob_v rfl rfl (r_add (vq 2 rfl) (vq 5 rfl) (rfl))) (oc (ob_v rfl rfl (r_assign (vq 6 rfl))) o0)))))))) (by kernel_rfl) (by kernel_rfl) (by kernel_rfl) (by kernel_rfl) (fun a w hst => ?_)
  have hst : St B w0 10 [(2, _)] [⟨1, 94, ptrH, _⟩] a w := hst
  refine thn_normal ?_
  refine wp_ret ?_
  refine ret_wk ?_ (ret_tmp rfl hst (List.mem_of_getElem? (i := 0) rfl))
  exact wk_id

set_option maxRecDepth 100000 in
theorem elsSize_c (xs : List RE) : Cn Tryz.prog 30 [(SlA 94 [U32] (xs.map REA)).va] (In (elszF (xs.length : Nat) xs)) := by
  refine Cn.intro Tryz.func30 rfl (by kernel_rfl) nq (fun B w0 a hst => ?_)
  have hst : St B w0 25 [(0, (SlA 94 [U32] (xs.map REA)).va)] [] a w0.w := hst
  have hl := slA_lenm (hst.vals (0, (SlA 94 [U32] (xs.map REA)).va) (List.mem_of_getElem? (i := 0) rfl))
  refine wp_seq ?_
  refine gl (sts := []) (news := []) (sp := [.val 2 _]) [.g 0, .o 0] hst (oc (ob_v rfl rfl (r_assign has_num)) o0) (fun a w hst => ?_)
  have hst : St B w0 25 [(0, _), (2, _)] [] a w := hst
  refine thn_normal ?_
  refine wp_seq ?_
  refine gl (sts := []) (news := []) (sp := [.val 5 _, .val 6 _, .val 3 _]) [.g 0, .g 1, .o 2] hst (oc (ob_v rfl rfl (r_move (gq 0 rfl))) (oc (ob_v rfl rfl (r_len Tryz.underlying47 (vq 0 rfl))) (oc (ob_v rfl rfl (r_assign (vq 1 rfl))) o0))) (fun a w hst => ?_)
  have hst : St B w0 25 [(0, _), (2, _), (3, _)] [] a w := hst
  refine thn_normal ?_
  refine wp_seq ?_
  refine wp_seq ?_
  refine gl (sts := []) (news := []) (sp := [.val 4 _]) [.g 0, .g 1, .g 2, .o 0] hst (oc (ob_v rfl rfl (r_assign has_num)) o0) (fun a w hst => ?_)
  have hst : St B w0 25 [(0, _), (2, _), (3, _), (4, _)] [] a w := hst
  refine thn_normal ?_
  refine wp_block ?_
  have hst := St.sel hst [0, 2, 3]
  refine wp_loop_ghost (fun n a w => ∃ (j : Nat) (m : Int), (n + j = xs.length ∧ elszF (xs.length : Nat) xs = elszF m (xs.drop j)) ∧ St B w0 25 [(0, (SlA 94 [U32] (xs.map REA)).va), (3, In m), (4, In (j : Nat))] [] a w) (xs.length) ?_ ?_
  · exact ⟨0, (xs.length : Nat), ⟨by omega, rfl⟩, by rw [List.length_map] at hst; exact hst⟩
  intro n a w hI
  obtain ⟨j, m, ⟨hn, hm⟩, hst⟩ := hI
  refine wp_seq ?_
  refine wp_seq ?_
  refine gl (sts := []) (news := []) (sp := [.val 7 _, .val 8 _, .val 9 _, .val 10 _, .val 11 _, .val 12 (Wh (_ = true) _), .val 13 (Wh (_ = true) _), .val 14 _]) [.g 0, .g 1, .g 2, .o 7] hst (oc (ob_v rfl rfl (r_move (gq 2 rfl))) (oc (ob_v rfl rfl (r_move (gq 0 rfl))) (oc (ob_v rfl rfl (r_len Tryz.underlying47 (vq 1 rfl))) (oc (ob_v rfl rfl (r_lss (vq 0 rfl) (vq 2 rfl))) (oc (ob_v rfl rfl (r_move (vq 3 rfl))) (oc (ob_gd rfl rfl rfl (vq 4 rfl) nq (fun hg => r_move (gq 1 rfl))) (oc (ob_gd rfl rfl rfl (vq 4 rfl) nq (fun hg => r_leq (has_wh (vq 5 rfl) hg) has_num)) (oc (ob_v rfl rfl (r_and (vq 4 rfl) (vq 6 rfl))) o0)))))))) (fun a w hst => ?_)
  have hst : St B w0 25 [(0, _), (3, _), (4, _), (14, _)] [] a w := hst
  refine thn_normal ?_
  refine cond_of hst (List.mem_of_getElem? (i := 3) rfl) (fun hb0 => ?_) (fun hb0 => ?_)
  · rw [Bool.and_eq_true, decide_eq_true_eq, decide_eq_true_eq, List.length_map] at hb0
    have hj : j < xs.length := by omega
    have hm0 := hb0.2
    refine wp_skip ?_
    refine thn_normal ?_
    refine wp_seq ?_
    refine wp_block ?_
    refine gl (sts := []) (news := []) (sp := [.val 17 _, .val 18 _, .val 19 _, .val 20 _, .val 21 _, .val 22 _, .val 23 _, .val 3 _]) [.g 0, .g 2, .o 7] hst (oc (ob_v rfl rfl (r_move (gq 1 rfl))) (oc (ob_v rfl rfl (r_move (gq 0 rfl))) (oc (ob_v rfl rfl (r_move (gq 2 rfl))) (oc (ob_v rfl rfl (r_idx sl_47 (map_n fun _ => rfl) (vq 1 rfl) (vq 2 rfl) (map_at hj))) (oc (ob_v rfl rfl (r_loade (vq 3 rfl) ty_94)) (oc (ob_v rfl rfl (r_call (xs := [.tmp 21]) (elSize_c _) (.cons (vq 4 rfl) .nil))) (oc (ob_v rfl rfl (r_add (vq 0 rfl) (vq 5 rfl) (rfl))) (oc (ob_v rfl rfl (r_assign (vq 6 rfl))) o0)))))))) (fun a w hst => ?_)
    have hst : St B w0 25 [(0, _), (4, _), (3, _)] [] a w := hst
    refine blk_normal ?_
    refine thn_normal ?_
    refine gl (sts := []) (news := []) (sp := [.val 15 _, .val 16 _, .val 4 _]) [.g 0, .g 2, .o 2] hst (oc (ob_v rfl rfl (r_move (gq 1 rfl))) (oc (ob_v rfl rfl (r_add (vq 0 rfl) has_num (wi_nx hj hl))) (oc (ob_v rfl rfl (r_assign (vq 1 rfl))) o0))) (fun a w hst => ?_)
    have hst : St B w0 25 [(0, _), (3, _), (4, _)] [] a w := hst
    refine thn_normal ?_
    have hst := St.sel hst [0, 1, 2]
    exact ⟨n - 1, by omega, j + 1, _, ⟨by omega, hm.trans (elsz_go hj hm0)⟩, hst⟩
  · have hnj : ¬ (j < xs.length ∧ m ≤ 1048576) := by rintro ⟨h1, h2⟩; rw [List.length_map, decide_eq_true (by omega : (j : Int) < (xs.length : Int)), decide_eq_true h2] at hb0; exact absurd hb0 (by decide)
    refine wp_exit ?_
    refine thn_exit ?_
    refine thn_exit ?_
    refine blk_exit ?_
    refine thn_normal ?_
    refine wp_seq ?_
    refine gl (sts := []) (news := []) (sp := [.val 24 _, .val 2 _]) [.o 1] hst (oc (ob_v rfl rfl (r_move (gq 1 rfl))) (oc (ob_v rfl rfl (r_assign (vq 0 rfl))) o0)) (fun a w hst => ?_)
    have hst : St B w0 25 [(2, _)] [] a w := hst
    refine thn_normal ?_
    refine wp_ret ?_
    refine ret_wk ?_ (ret_tmp rfl hst (List.mem_of_getElem? (i := 0) rfl))
    exact wk_eq (congrArg In (hm.trans (elsz_end hnj)).symm)

end Go.Proofs.YtgjolcbehcjhcaaGreat
