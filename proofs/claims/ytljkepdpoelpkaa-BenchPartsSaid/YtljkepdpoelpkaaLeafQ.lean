import Derived.Test.YtljkepdpoelpkaaLeafP
namespace Go.Proofs.Ytljkepdpoelpkaa
open Go Go.RowKit
namespace LeafQ
theorem sl_80 : Sl Try.prog 80 35 4 := ⟨by kernel_rfl, by kernel_rfl⟩
theorem ty_35 : Ty Try.prog 35 4 true := ⟨by kernel_rfl, by kernel_rfl⟩
end LeafQ
open LeafQ
def okLb (l : List Nat) : Bool := l.all fun x => decide (x < 4294967296)
theorem okLb_iff {l : List Nat} : okLb l = true ↔ okL l := by simp [okLb, okL]
/-- may a fraction be? -/
def okX (x : RF) : Bool := okLb x.num.mag && okLb x.den.mag && okF x
def zI (x : RI) : Int := if x.neg then -(val x.mag : Nat) else (val x.mag : Nat)
/-- its worth. -/
def toQ (x : RF) : Rat := Rat.divInt (zI x.num) (zI x.den)
theorem zI_ri (z : Int) : zI (riOf z) = z := by
  unfold zI
  rw [val_ri]
  by_cases h : z < 0 <;> simp [riOf, h] <;> omega
theorem toQ_of (r : Rat) : toQ (rfOf r) = r := by
  show Rat.divInt (zI (riOf r.num)) (zI (riOf (r.den : Int))) = r
  rw [zI_ri, zI_ri]
  exact Rat.num_divInt_den r
theorem okX_know {x : RF} (h : okL x.num.mag ∧ okL x.den.mag) : okX x = okF x := by rw [okX, okLb_iff.2 h.1, okLb_iff.2 h.2]; rfl
theorem okX_q {x : RF} (h : okX x = true) : x = rfOf (toQ x) ∧ lz (toQ x).num ≤ 2048 ∧ lz ((toQ x).den : Int) ≤ 2048 := by
  simp only [okX, Bool.and_eq_true] at h
  obtain ⟨r, rfl, h1⟩ := okF_q ⟨okLb_iff.1 h.1.1, okLb_iff.1 h.1.2⟩ h.2
  rw [toQ_of]
  exact ⟨rfl, h1⟩
theorem okX_of (r : Rat) : okX (rfOf r) = !longQ r := by
  rw [okX_know ⟨ok_ri _, ok_ri _⟩, okF_of]
theorem okX_r {x : RF} (h : okX x = true) : ∃ r, x = rfOf r ∧ lz r.num ≤ 2048 ∧ lz (r.den : Int) ≤ 2048 := ⟨_, okX_q h⟩
theorem rfOf_inj {p q : Rat} (h : rfOf p = rfOf q) : p = q := by rw [← toQ_of p, h, toQ_of]
/-- nothing, as a struct. -/
abbrev rf0 : RF := ⟨⟨false, []⟩, ⟨false, []⟩⟩
theorem ex_check : ∃ fn, Try.prog.funcs[64]? = some fn ∧ (fn.name == "runtime.NumGoroutine") = false ∧ fn.body.isNone = false := ⟨_, Try.func64, by kernel_rfl, by kernel_rfl⟩
theorem check_x (x : RF) : Cn Try.prog 64 [(RFA x).va] (In (if okX x then 0 else 1)) :=
  Cn.know (c := okL x.num.mag ∧ okL x.den.mag) ex_check (fun B w args ha => by cases ha with | cons h1 _ => exact rf_know h1) fun h => (checkF_c x.num x.den).post (by rw [okX_know h])
theorem ok_no {l : List RF} {j : Nat} (h : j < l.length) (h2 : ((if okX l[j] then (0 : Int) else 1) != 0) = true) : false = l.all okX := by
  have h3 : okX l[j] = false := by cases hh : okX l[j] <;> simp [hh] at h2 ⊢
  exact (List.all_eq_false.2 ⟨_, List.getElem_mem h, by simp [h3]⟩).symm
theorem ok_yes {l : List RF} {j : Nat} (h : j < l.length) (h1 : (l.take j).all okX = true) (h2 : ((if okX l[j] then (0 : Int) else 1) != 0) = false) : (l.take (j + 1)).all okX = true := by
  rw [List.take_succ_eq_append_getElem h, List.all_append, h1]
  simp [ok1 h2]

set_option maxRecDepth 100000 in
theorem checks_c (xs : List RF) (hl : xs.length ≤ 1099511627776) : Cn Try.prog 39 [(SlA 35 [U32] (xs.map RFA)).va] (Bo (xs.all okX)) := by
  refine Cn.introW Try.func39 rfl (by kernel_rfl) nq (.cons (up_sl (fun A hA => by obtain ⟨x, _, rfl⟩ := List.mem_map.1 hA; exact upA_rf x)).va .nil) (free_bo _).va (fun B w0 a hB0 hst => ?_)
  have hst : St B w0 15 [(0, (SlO 35 [U32] (xs.map RFA) True).va)] [] a w0.w := hst
  refine wp_seq ?_
  refine gl (sts := []) (news := []) (sp := [.val 2 _]) [.g 0, .o 0] hst (oc (ob_v rfl rfl (r_assign has_bo)) o0) (fun a w hst => ?_)
  have hst : St B w0 15 [(0, _), (2, _)] [] a w := hst
  refine thn_normal ?_
  refine wp_seq ?_
  refine wp_seq ?_
  refine gl (sts := []) (news := []) (sp := [.val 5 _, .val 6 _, .val 7 _]) [.g 1, .o 0, .o 1, .o 2] hst (oc (ob_v rfl rfl (r_move (gq 0 rfl))) (oc (ob_v rfl rfl (r_len Try.underlying80 (has_and (has_old (vq 0 rfl))))) (oc (ob_v rfl rfl (r_move has_num)) o0))) (fun a w hst => ?_)
  have hst : St B w0 15 [(2, _), (5, _), (6, _), (7, _)] [] a w := hst
  refine thn_normal ?_
  refine wp_block ?_
  have hst := St.sel hst [1, 2, 3]
  refine wp_loop_ghost (fun n a w => ∃ j : Nat, (n + j = xs.length ∧ (xs.take j).all okX = true) ∧ St B w0 15 [(5, (SlO 35 [U32] (xs.map RFA) True).va), (6, In (xs.length : Nat)), (7, In (j : Nat))] [] a w) (xs.length) ?_ ?_
  · exact ⟨0, ⟨by omega, rfl⟩, by rw [List.length_map] at hst; exact hst⟩
  intro n a w hI
  obtain ⟨j, ⟨hn, hno⟩, hst⟩ := hI
  refine wp_seq ?_
  refine gl (sts := []) (news := []) (sp := [.val 8 _]) [.g 0, .g 1, .g 2, .o 0] hst (oc (ob_v rfl rfl (r_lss (gq 2 rfl) (gq 1 rfl))) o0) (fun a w hst => ?_)
  have hst : St B w0 15 [(5, _), (6, _), (7, _), (8, _)] [] a w := hst
  refine thn_normal ?_
  refine wp_seq ?_
  refine cond_of hst (List.mem_of_getElem? (i := 3) rfl) (fun hb0 => ?_) (fun hb0 => ?_)
  · have hj : j < xs.length := by simp at hb0; omega
    refine wp_skip ?_
    refine thn_normal ?_
    refine wp_seq ?_
    refine wp_block ?_
    refine wp_seq ?_
    refine gl (sts := []) (news := [⟨4, 35, ptrH, some 2, _, some (3, _)⟩]) (sp := [.val 9 _, .val 10 _, .alc 0, .sto 0]) [.g 0, .g 1, .g 2] hst (oc (ob_v rfl rfl (r_idx sl_80 (map_n fun _ => rfl) (has_and (has_old (gq 0 rfl))) (gq 2 rfl) (map_at hj))) (oc (ob_v rfl rfl (r_loade (vq 0 rfl) ty_35)) (oc (ob_alc rfl rfl rfl (Str.zero str_frac)) (oc (ob_sto rfl rfl rfl (vq 1 rfl) ty_35 (Eq.trans (b := 4) rfl rfl)) o0)))) (fun a w hst => ?_)
    have hst : St B w0 15 [(5, _), (6, _), (7, _)] [⟨4, 35, ptrH, _⟩] a w := hst
    refine thn_normal ?_
    refine wp_seq ?_
    refine gl (sts := [none]) (news := []) (sp := [.val 11 _, .val 12 _, .val 13 _]) [.g 0, .g 1, .g 2, .o 2] hst (oc (ob_v rfl rfl (r_load (lz0 0 rfl) ty_35)) (oc (ob_v rfl rfl (r_call (xs := [.tmp 11]) (check_x _) (.cons (vq 0 rfl) .nil))) (oc (ob_v rfl rfl (r_neq (vq 1 rfl) has_num)) o0))) (fun a w hst => ?_)
    have hst : St B w0 15 [(5, _), (6, _), (7, _), (13, _)] [⟨4, 35, ptrH, _⟩] a w := hst
    refine thn_normal ?_
    refine cond_of hst (List.mem_of_getElem? (i := 3) rfl) (fun hb1 => ?_) (fun hb1 => ?_)
    · refine wp_seq ?_
      refine gl (sts := [none]) (news := []) (sp := [.val 2 _]) [.g 0, .g 1, .g 2, .o 0] hst (oc (ob_v rfl rfl (r_assign has_bo)) o0) (fun a w hst => ?_)
      have hst : St B w0 15 [(5, _), (6, _), (7, _), (2, _)] [⟨4, 35, ptrH, _⟩] a w := hst
      refine thn_normal ?_
      refine wp_ret ?_
      refine blk_ret ?_
      refine thn_ret ?_
      refine thn_ret ?_
      refine blk_ret ?_
      refine thn_ret ?_
      refine ret_cast ?_ (ret_tmp rfl hst (List.mem_of_getElem? (i := 3) rfl))
      rw [← ok_no hj hb1]
    · refine wp_skip ?_
      refine blk_normal ?_
      refine thn_normal ?_
      refine gl (sts := [none]) (news := []) (sp := [.val 14 _, .val 7 _]) [.g 0, .g 1, .o 1] hst (oc (ob_v rfl rfl (r_add (gq 2 rfl) has_num (wi_succ (by omega)))) (oc (ob_v rfl rfl (r_move (vq 0 rfl))) o0)) (fun a w hst => ?_)
      have hst : St B w0 15 [(5, _), (6, _), (7, _)] [⟨4, 35, ptrH, _⟩] a w := hst
      refine thn_normal ?_
      have hst := St.sel hst [0, 1, 2]
      have hst := St.selL hst []
      exact ⟨n - 1, by omega, j + 1, ⟨by omega, ok_yes hj hno hb1⟩, hst⟩
  · obtain rfl : j = xs.length := by simp at hb0; omega
    refine wp_exit ?_
    refine thn_exit ?_
    refine thn_exit ?_
    refine blk_exit ?_
    refine thn_normal ?_
    refine wp_seq ?_
    refine gl (sts := []) (news := []) (sp := [.val 2 _]) [.o 0] hst (oc (ob_v rfl rfl (r_assign has_bo)) o0) (fun a w hst => ?_)
    have hst : St B w0 15 [(2, _)] [] a w := hst
    refine thn_normal ?_
    refine wp_ret ?_
    refine ret_cast ?_ (ret_tmp rfl hst (List.mem_of_getElem? (i := 0) rfl))
    rw [List.take_length] at hno; rw [hno]

/-- an answer: the fraction, or the limit. -/
def ansF (q : Rat) : RF × Int := if longQ q then (rf0, 4) else (rfOf q, 0)
abbrev FrR (r : RF × Int) : VA := Tu [(RFA r.1).va, In r.2]
theorem rq_wk {k : Nat} {r : Rat} : Wk (Qs k r) (RFA (rfOf r)).va := qaA.va
theorem tu2w {a b c d : VA} (h : Wk a c) (h' : Wk b d) : Wk (Tu [a, b]) (Tu [c, d]) := tu_wk (.cons h (.cons h' .nil))
theorem one_long {q : Rat} : [q].any longQ = longQ q := by simp
theorem ne0 {b : Bool} : ((if b then (4 : Int) else 0) != 0) = b := by cases b <;> rfl
/-- a function value in a variable. -/
def FnA (A : VA) (h : ∀ B v w, A.p B v w → v.oneCell' = true) : As where
  n := 1
  ag := false
  p B cs w := ∃ v, cs = [v] ∧ A.p B v w
  deps := A.deps
  len := by rintro B cs w ⟨v, rfl, _⟩; rfl
  one := by rintro B cs w ⟨v, rfl, hp⟩ c hc; simp at hc; subst hc; exact h B c w hp
  ag1 := fun _ => rfl
  cg := fun B _ w w' hg ⟨v, e, hp⟩ => ⟨v, e, A.cg B v w w' hg hp⟩
  wr := fun B _ w w' g c T fz h1 h2 h3 h4 ⟨v, e, hp⟩ => ⟨v, e, A.wr B v w w' g c T fz h1 h2 h3 h4 hp⟩
theorem fna_wk {A : VA} {h : ∀ B v w, A.p B v w → v.oneCell' = true} : Wk (FnA A h).va A := fun _ v _ ⟨cs, ⟨u, e, hp⟩, hv⟩ => by subst e; have : v = u := hv; subst this; exact hp
theorem wk_fna {A : VA} {h : ∀ B v w, A.p B v w → v.oneCell' = true} : Wk A (FnA A h).va := fun _ v _ hp => ⟨[v], ⟨v, rfl, hp⟩, rfl⟩
theorem fnv_one {P : Program} {D : List TypeId} {ι : Type} {pre : ι → List VA} {post : ι → VA} : ∀ (B : Nat) (v : Value) (w : World), (FnV P D pre post).p B v w → v.oneCell' = true := fun _ v _ h => by
  obtain ⟨f, fs, cs, F, C, rfl, _⟩ := h
  rfl
theorem nd_va {l : List VA} {D : List TypeId} (h : (l.all fun A => A.deps.all fun T => D.contains T) = true) : ∀ A ∈ l, ∀ T ∈ A.deps, T ∈ D := fun A hA T hT => by
  have := List.all_eq_true.1 (List.all_eq_true.1 h A hA) T hT
  simpa using this
theorem hasl_wk {R : Rg} {B : Nat} {w0 : Bs} {i : Nat} {xs : List Operand} {l l' : List VA} (h : HasL R B w0 i xs l) (hw : All2 Wk l l') : HasL R B w0 i xs l' := by
  induction h generalizing l' with
  | nil => cases hw; exact .nil
  | cons h1 _ ih => cases hw with | cons h2 h3 => exact .cons (fun a w av => h2 _ _ _ (h1 a w av)) (ih h3)
theorem has_wk' {R : Rg} {B : Nat} {w0 : Bs} {i : Nat} {x : Operand} {A A' : VA} (h : Has R B w0 i x A) (hw : Wk A A') : Has R B w0 i x A' := fun a w av => hw _ _ _ (h a w av)

set_option maxRecDepth 100000 in
theorem answered_q {c : Nat} {x : Rat} (hc : c ≤ 549755813888) : Cn Try.prog 83 [Qs c x] (FrR (ansF x)) := by
  refine Cn.intro Try.func83 rfl (by kernel_rfl) nq (fun B w0 a hst => ?_)
  have hst : St B w0 14 [(0, Qs c x)] [] a w0.w := hst
  refine wp_seq ?_
  refine gl (sts := []) (news := [⟨1, 35, ptrH, some 0, _, none⟩, ⟨2, 35, ptrH, some 1, _, none⟩]) (sp := [.alc 0, .alc 1, .val 3 _]) [.o 2] hst (oc (ob_box rfl rfl rfl (gq 0 rfl)) (oc (ob_alc rfl rfl rfl (Str.zero str_frac)) (oc (ob_v rfl rfl (r_assign has_num)) o0))) (fun a w hst => ?_)
  have hst : St B w0 14 [(3, _)] [⟨1, 35, ptrH, _⟩, ⟨2, 35, ptrH, _⟩] a w := hst
  refine thn_normal ?_
  refine wp_seq ?_
  refine wp_seq ?_
  refine gl (sts := [none, none]) (news := []) (sp := [.val 5 _, .val 6 _, .val 7 _, .val 4 _]) [.g 0, .o 3] hst (oc (ob_v rfl rfl (r_load (lz0 0 rfl) ty_35)) (oc (ob_v rfl rfl (r_slice (D := [U32]) (l := [_]) (xs := [.tmp 5]) (nd_ok (by kernel_rfl)) sl_80 (by kernel_rfl) (n_ok (by kernel_rfl)) nq nq nq (.cons (vq 0 rfl) .nil) rfl rfl)) (oc (ob_v rfl rfl (r_call (xs := [.tmp 6]) ((answer_q [x] (.cons ⟨_, rfl⟩ .nil) nq)) (.cons (vq 1 rfl) .nil))) (oc (ob_v rfl rfl (r_assign (vq 2 rfl))) o0)))) (fun a w hst => ?_)
  have hst : St B w0 14 [(3, _), (4, _)] [⟨1, 35, ptrH, _⟩, ⟨2, 35, ptrH, _⟩] a w := hst
  refine thn_normal ?_
  refine wp_seq ?_
  refine gl (sts := [none, none]) (news := []) (sp := [.val 8 _, .val 9 _]) [.g 0, .g 1, .o 1] hst (oc (ob_v rfl rfl (r_move (gq 1 rfl))) (oc (ob_v rfl rfl (r_neq (vq 0 rfl) has_num)) o0)) (fun a w hst => ?_)
  have hst : St B w0 14 [(3, _), (4, _), (9, _)] [⟨1, 35, ptrH, _⟩, ⟨2, 35, ptrH, _⟩] a w := hst
  refine thn_normal ?_
  refine cond_of hst (List.mem_of_getElem? (i := 2) rfl) (fun hb0 => ?_) (fun hb0 => ?_)
  · rw [one_long, ne0] at hb0
    refine wp_seq ?_
    refine gl (sts := [none, some (2, _)]) (news := []) (sp := [.val 10 _, .val 11 _, .sto 1, .val 3 _]) [.o 3] hst (oc (ob_v rfl rfl (r_build (xs := []) (qs := []) str_frac .nil)) (oc (ob_v rfl rfl (r_move (gq 1 rfl))) (oc (ob_sto rfl rfl rfl (vq 0 rfl) ty_35 (Eq.trans (b := 4) rfl rfl)) (oc (ob_v rfl rfl (r_assign (vq 1 rfl))) o0)))) (fun a w hst => ?_)
    have hst : St B w0 14 [(3, _)] [⟨1, 35, ptrH, _⟩, ⟨2, 35, ptrH, _⟩] a w := hst
    refine thn_normal ?_
    refine wp_ret ?_
    refine thn_ret ?_
    refine ret_wk ?_ (ret_many (rs := [.cell 2 35, .tmp 3]) rfl hst (.cell (List.mem_of_getElem? (i := 1) rfl) ty_35 (.tmp (List.mem_of_getElem? (i := 0) rfl) .nil)) (by decide))
    rw [ansF, if_pos hb0]; exact tu2w wk_id (wk_eq (by rw [one_long, hb0]; rfl))
  · rw [one_long, ne0] at hb0
    refine wp_skip ?_
    refine thn_normal ?_
    refine wp_seq ?_
    refine gl (sts := [none, some (2, _)]) (news := []) (sp := [.val 12 _, .val 13 _, .sto 1, .val 3 _]) [.o 3] hst (oc (ob_v rfl rfl (r_load (lz0 0 rfl) ty_35)) (oc (ob_v rfl rfl (r_call (xs := [.tmp 12]) (copy_q (by omega)) (.cons (vq 0 rfl) .nil))) (oc (ob_sto rfl rfl rfl (vq 1 rfl) ty_35 (Eq.trans (b := 4) rfl rfl)) (oc (ob_v rfl rfl (r_assign has_num)) o0)))) (fun a w hst => ?_)
    have hst : St B w0 14 [(3, _)] [⟨1, 35, ptrH, _⟩, ⟨2, 35, ptrH, _⟩] a w := hst
    refine thn_normal ?_
    refine wp_ret ?_
    refine ret_wk ?_ (ret_many (rs := [.cell 2 35, .tmp 3]) rfl hst (.cell (List.mem_of_getElem? (i := 1) rfl) ty_35 (.tmp (List.mem_of_getElem? (i := 0) rfl) .nil)) (by decide))
    rw [ansF, if_neg (by rw [hb0]; decide)]; exact tu2w rq_wk wk_id

/-- what an operation comes to. -/
def opA (k : Nat) : Option Rat → As
  | some z => QA k z
  | none => RFA rf0
abbrev opV (k : Nat) (o : Option Rat) : VA := Tu [(opA k o).va, Bo o.isSome]
abbrev FnO (k : Nat) (op : Rat → Rat → Option Rat) : VA := FnV Try.prog [0] (fun i : Rat × Rat => [Qs 2048 i.1, Qs 2048 i.2]) (fun i => opV k (op i.1 i.2))
abbrev FnT (k : Nat) (op : Rat → Rat → Rat) : VA := FnV Try.prog [] (fun i : Rat × Rat => [Qs 2048 i.1, Qs 2048 i.2]) (fun i => Qs k (op i.1 i.2))
def doF (op : Rat → Rat → Option Rat) (x y : RF) : RF × Int := if okX x && okX y then (match op (toQ x) (toQ y) with | some z => ansF z | none => (rf0, 3)) else (rf0, 1)
theorem two_ok {x y : RF} : [x, y].all okX = (okX x && okX y) := by simp

end Go.Proofs.Ytljkepdpoelpkaa
