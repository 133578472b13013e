/- What a function leaves that hands back an iterator over variables of its own; orbit.walk. -/
import Derived.Test.YtmghfjcjcfaagaaGreatOrbB
import Derived.Test.YtmghfjcjcfaagaaGreatOrbA
import Derived.Test.YtmghfjcjcfaagaaGreatCavA
namespace Go.Proofs.YtmghfjcjcfaagaaGreat
open Go Go.RowKit
namespace OrbD
theorem fld_28_0 : Fld Tryz.prog 28 0 0 4 := ⟨_, _, Tryz.underlying28, rfl, rfl, by kernel_rfl, by decide⟩
theorem fld_28_1 : Fld Tryz.prog 28 1 4 4 := ⟨_, _, Tryz.underlying28, rfl, rfl, by kernel_rfl, by decide⟩
theorem fld_28_2 : Fld Tryz.prog 28 2 8 4 := ⟨_, _, Tryz.underlying28, rfl, rfl, by kernel_rfl, by decide⟩
theorem fld_28_3 : Fld Tryz.prog 28 3 12 4 := ⟨_, _, Tryz.underlying28, rfl, rfl, by kernel_rfl, by decide⟩
theorem fld_30_0 : Fld Tryz.prog 30 0 0 4 := ⟨_, _, Tryz.underlying30, rfl, rfl, by kernel_rfl, by decide⟩
theorem fld_30_1 : Fld Tryz.prog 30 1 4 4 := ⟨_, _, Tryz.underlying30, rfl, rfl, by kernel_rfl, by decide⟩
theorem sl_71 : Sl Tryz.prog 71 26 4 := ⟨by kernel_rfl, by kernel_rfl⟩
theorem ty_126 : Ty Tryz.prog 126 1 false := ⟨by kernel_rfl, by kernel_rfl⟩
theorem ty_24 : Ty Tryz.prog 24 2 true := ⟨by kernel_rfl, by kernel_rfl⟩
theorem ty_26 : Ty Tryz.prog 26 4 true := ⟨by kernel_rfl, by kernel_rfl⟩
theorem ty_79 : Ty Tryz.prog 79 1 false := ⟨by kernel_rfl, by kernel_rfl⟩
end OrbD
open OrbD
/-- a row that lies ahead of block b. -/
def SlL (b : Nat) (E : TypeId) (D : List TypeId) (l : List As) : As where
  n := 1
  ag := false
  p B cs w := (SlA E D l).p B cs w ∧ ∀ v ∈ cs, ∀ g, blk v = some g → g < b
  deps := E :: D
  len := fun B cs w h => (SlA E D l).len B cs w h.1
  one := fun B cs w h => (SlA E D l).one B cs w h.1
  ag1 := fun _ => rfl
  cg := fun B cs w w' hg h => ⟨(SlA E D l).cg B cs w w' hg h.1, h.2⟩
  wr := fun B cs w w' g c T fz h1 h2 h3 h4 h => ⟨(SlA E D l).wr B cs w w' g c T fz h1 h2 h3 h4 h.1, h.2⟩
theorem sl_lt {E : TypeId} {D : List TypeId} {l : List As} (h0 : 0 < l.length) {B b : Nat} {cs : List Value} {w : World} (hb : w.heap.size = b) (h : (SlA E D l).p B cs w) : (SlL b E D l).p B cs w := by
  refine ⟨h, ?_⟩
  obtain ⟨_, A, c, ds, rfl, _, _, _, h4⟩ := h
  obtain ⟨b', o, rfl, h6, _⟩ := h4 h0
  intro v hv g hg
  obtain rfl := List.mem_singleton.1 hv
  have : b' = g := by simpa [blk] using hg
  omega
theorem slL_N {b g : Nat} {E : TypeId} {D : List TypeId} {l : List As} (hb : b ≤ g) : WkA (SlL b E D l) (SlN [g] E D l) := ⟨rfl, rfl, fun _ _ _ h => ⟨h.1, fun v hv g' hg hm => by
  obtain rfl := List.mem_singleton.1 hm
  have := h.2 v hv _ hg
  omega⟩⟩
theorem St.slL {B N : Nat} {w0 : Bs} {Γ : List (Nat × VA)} {Λ : List Lc} {a : Act} {w : World} (h : St B w0 N Γ Λ a w) {s T : Nat} {H : Hd} {E : TypeId} {D : List TypeId} {l : List As} (i s' : Nat) (hm : Λ[i]? = some ⟨s, T, H, SlA E D l⟩) (h0 : 0 < l.length) : ∃ b, St B w0 N ((s', SizeGe b) :: Γ) (Λ.set i ⟨s, T, H, SlL b E D l⟩) a w := by
  have hin : ∀ m ∈ Λ.set i ⟨s, T, H, SlL w.heap.size E D l⟩, ∃ m' ∈ Λ, m'.s = m.s := fun m hm' => by
    rcases List.mem_or_eq_of_mem_set hm' with hm' | rfl
    · exact ⟨m, hm', rfl⟩
    · exact ⟨_, List.mem_of_getElem? hm, rfl⟩
  refine ⟨w.heap.size, h.lo, h.defers, h.size, h.base, fun x hx => ?_, fun m hm' => ?_, fun m h1 m' h2 hne => ?_⟩
  · rcases List.mem_cons.1 hx with rfl | hx
    · exact Nat.le_refl _
    · exact h.vals x hx
  · rcases List.mem_or_eq_of_mem_set hm' with hm' | rfl
    · exact h.locs m hm'
    · obtain ⟨g, cs, e1, e2, e3, e4⟩ := h.locs _ (List.mem_of_getElem? hm)
      exact ⟨g, cs, e1, e2, e3, sl_lt h0 rfl e4⟩
  · obtain ⟨p, q1, q2⟩ := hin m h1
    obtain ⟨p', q3, q4⟩ := hin m' h2
    rw [← q2, ← q4]
    exact h.dis p q1 p' q3 (by rw [q2, q4]; exact hne)
/-- an iterator over new variables. -/
def ItB (b : Nat) (f : FuncId) (cf : List Nat → List (TypeId × As)) (D : List TypeId) (hD : ∀ gs, (ItV f (cf gs) gs).deps = D) : VA where
  p B v w := ∃ gs, (ItV f (cf gs) gs).p B v w ∧ ∀ g ∈ gs, b ≤ g
  deps := D
  cg := fun B v w w' hg ⟨gs, h1, h2⟩ => ⟨gs, (ItV f (cf gs) gs).cg B v w w' hg h1, h2⟩
  wr := fun B v w w' g c T fz h1 hT h3 h4 ⟨gs, h5, h6⟩ => ⟨gs, (ItV f (cf gs) gs).wr B v w w' g c T fz h1 (by rw [hD gs]; exact hT) h3 h4 h5, h6⟩
/-- an iterator; where its variables lie none of these blocks is. -/
def ItM (f : FuncId) (cf : List Nat → List (TypeId × As)) (D : List TypeId) (hD : ∀ gs, (ItV f (cf gs) gs).deps = D) (ns : List Nat) : VA where
  p B v w := ∃ gs, (ItV f (cf gs) gs).p B v w ∧ ∀ n ∈ ns, n ∉ gs
  deps := D
  cg := fun B v w w' hg ⟨gs, h1, h2⟩ => ⟨gs, (ItV f (cf gs) gs).cg B v w w' hg h1, h2⟩
  wr := fun B v w w' g c T fz h1 hT h3 h4 ⟨gs, h5, h6⟩ => ⟨gs, (ItV f (cf gs) gs).wr B v w w' g c T fz h1 (by rw [hD gs]; exact hT) h3 h4 h5, h6⟩
/-- the captured variables, by name. -/
def CapN (Γ : List (Nat × VA)) (Λ : List Lc) : List Nat → List (TypeId × As) → List Nat → List (Nat × Nat) → Prop
  | [], [], [], [] => True
  | g :: gs, c :: cs, s :: ss, (x, y) :: ix => (Γ[x]? = some (s, EqV (ptr g)) ∧ Λ[y]? = some ⟨s, c.1, ptrH, c.2⟩) ∧ CapN Γ Λ gs cs ss ix
  | _, _, _, _ => False
theorem capN_ok {B N : Nat} {w0 : Bs} {Γ : List (Nat × VA)} {Λ : List Lc} {a : Act} {w : World} (h : St B w0 N Γ Λ a w) : ∀ {gs : List Nat} {cs : List (TypeId × As)} {ss : List Nat} {ix : List (Nat × Nat)}, CapN Γ Λ gs cs ss ix →
    CapsOk B w cs gs ∧ (∀ g ∈ gs, w0.may g) ∧ ∀ g ∈ gs, ∃ s ∈ ss, ∃ l ∈ Λ, l.s = s ∧ a.eval (.tmp s) = ptr g
  | [], [], [], [], _ => ⟨.nil, (fun _ h => by cases h), (fun _ h => by cases h)⟩
  | g :: gs, c :: cs, s :: ss, (x, y) :: ix, hc => by
    obtain ⟨⟨e1, e2⟩, h3⟩ := hc
    obtain ⟨i1, i2, i3⟩ := capN_ok h h3
    have hn : a.eval (.tmp s) = ptr g := h.vals _ (List.mem_of_getElem? e1)
    obtain ⟨g', ds, f1, f2, f3, f4⟩ := h.locs _ (List.mem_of_getElem? e2)
    have f1' : a.eval (.tmp s) = ptr g' := f1
    have eg : g' = g := by rw [hn] at f1'; injection f1' with f1'; injection f1' with f1'; injection f1' with f1'; exact f1'.symm
    subst eg
    refine ⟨.cons ⟨h.lo _ f2, ds, f3, f4⟩ i1, fun g hg => ?_, fun g hg => ?_⟩
    · rcases List.mem_cons.1 hg with rfl | hg
      · exact f2
      · exact i2 g hg
    · rcases List.mem_cons.1 hg with rfl | hg
      · exact ⟨s, List.mem_cons_self, _, List.mem_of_getElem? e2, rfl, hn⟩
      · obtain ⟨s', q1, q2⟩ := i3 g hg
        exact ⟨s', List.mem_cons_of_mem _ q1, q2⟩
  | [], _ :: _, _, _, h => h.elim
  | [], [], _ :: _, _, h => h.elim
  | [], [], [], _ :: _, h => h.elim
  | _ :: _, [], _, _, h => h.elim
  | _ :: _, _ :: _, [], _, h => h.elim
  | _ :: _, _ :: _, _ :: _, [], h => h.elim
theorem capN_nd {B N : Nat} {w0 : Bs} {Γ : List (Nat × VA)} {Λ : List Lc} {a : Act} {w : World} (h : St B w0 N Γ Λ a w) : ∀ {gs : List Nat} {cs : List (TypeId × As)} {ss : List Nat} {ix : List (Nat × Nat)}, CapN Γ Λ gs cs ss ix → ss.Nodup → gs.Nodup
  | [], _, _, _, _, _ => List.nodup_nil
  | g :: gs, c :: cs, s :: ss, (x, y) :: ix, hc, hn => by
    obtain ⟨⟨e1, e2⟩, h3⟩ := hc
    obtain ⟨n1, n2⟩ := List.nodup_cons.1 hn
    refine List.nodup_cons.2 ⟨fun hm => ?_, capN_nd h h3 n2⟩
    obtain ⟨s', q1, l, q2, q3, q4⟩ := (capN_ok h h3).2.2 g hm
    have hg : a.eval (.tmp s) = ptr g := h.vals _ (List.mem_of_getElem? e1)
    refine h.dis _ (List.mem_of_getElem? e2) l q2 (fun e => n1 ?_) ?_
    · have e' : s = l.s := e
      rw [e', q3]; exact q1
    · show blk (a.eval (.tmp s)) = blk (a.eval (.tmp l.s))
      rw [q3, q4, hg]
  | _ :: _, [], _, _, h, _ => by simp [CapN] at h
  | _ :: _, _ :: _, [], _, h, _ => by simp [CapN] at h
  | _ :: _, _ :: _, _ :: _, [], h, _ => by simp [CapN] at h
theorem ret_it {P : Program} {fn : Func} {B N t : Nat} {w0 : Bs} {Γ : List (Nat × VA)} {Λ : List Lc} {a : Act} {w : World} {f : FuncId} {cf : List Nat → List (TypeId × As)} {D : List TypeId} {hD : ∀ gs, (ItV f (cf gs) gs).deps = D} (gs ss : List Nat) (ix : List (Nat × Nat)) (hr : fn.results = #[.tmp t]) (h : St B w0 N Γ Λ a w) (hF : ∀ g, ¬ w0.F g)
    (hm : (t, (EqA (.func (.func f) #[] (gs.map ptr).toArray)).va) ∈ Γ) (hc : CapN Γ Λ gs (cf gs) ss ix) (hs : ss.Nodup) : bPost P fn (RQ B w0 (ItB w0.w.heap.size f cf D hD)) .ret a w :=
  bPost_of h fun w h => by
    have h1 := capN_ok h hc
    refine ⟨_, results_tmp hr a.tmps P w, _, rfl, ⟨gs, ⟨eqA_va (h.vals _ hm), capN_nd h hc hs, h1.1⟩, fun g hg => ?_⟩, h.base⟩
    rcases h1.2.1 g hg with q | q
    · exact q
    · exact absurd q (hF _)

theorem zero_row : Zero Tryz.prog 126 (OwnC 24 2 [U32] []) := zero_own (by kernel_rfl)
theorem zero_fn : Zero Tryz.prog 79 (EqA .nilFunc) := Zero.of (z := .nilFunc) (by kernel_rfl) (fun _ _ => ⟨rfl, rfl⟩)
abbrev mI (m : MQ) : I4 := ((m.a.num * Int.tdiv (lqS [m.a, m.b, m.c, m.d] 4) (m.a.den : Int)), (m.b.num * Int.tdiv (lqS [m.a, m.b, m.c, m.d] 4) (m.b.den : Int)), (m.c.num * Int.tdiv (lqS [m.a, m.b, m.c, m.d] 4) (m.c.den : Int)), (m.d.num * Int.tdiv (lqS [m.a, m.b, m.c, m.d] 4) (m.d.den : Int)))
abbrev mq (m : MQ) : Int := lqS [m.a, m.b, m.c, m.d] 4
abbrev rI (r : YQ) : Int × Int := ((r.y.num * Int.tdiv (lqS [r.y, r.u] 2) (r.y.den : Int)), (r.u.num * Int.tdiv (lqS [r.y, r.u] 2) (r.u.den : Int)))
abbrev rq (r : YQ) : Int := lqS [r.y, r.u] 2
def wkC (m : I4) (p : Int × Int) (q d : Int) (gs : List Nat) : List (TypeId × As) := [(126, SlN [gs.getD 1 0] 24 [U32] [ZA 10242 p.1, ZA 10242 p.2]), (24, ZA 8194 d), (79, EqA (.func (.func 98) #[] #[ptr (gs.getD 0 0)])), (126, SlN [gs.getD 1 0] 24 [U32] [ZA 10242 m.1, ZA 10242 m.2.1, ZA 10242 m.2.2.1, ZA 10242 m.2.2.2]), (24, ZA 8194 q)]
abbrev wkDs : List TypeId := [126, 24, 79, 126, 24, 24, U32, U32, 24, U32, U32]
theorem wk_D (m : I4) (p : Int × Int) (q d : Int) : ∀ gs, (ItV 100 (wkC m p q d gs) gs).deps = wkDs := fun _ => rfl

set_option maxRecDepth 100000 in
theorem walk_c (m : MQ) (r : YQ) : CnI Tryz.prog 45 [(QMA 2048 m).va, (QRA 2048 r).va] (fun b => ItB b 100 (wkC (mI m) (rI r) (mq m) (rq r)) wkDs (wk_D _ _ _ _)) := by
  refine CnI.introF Tryz.func45 rfl (by kernel_rfl) nq (fun B w0 a hF0 hF hst => ?_)
  have hst : St B w0 37 [(0, (QMA 2048 m).va), (1, (QRA 2048 r).va)] [] a w0.w := hst
  refine wp_seq ?_
  refine gl (sts := []) (news := [⟨2, 28, ptrH, some 0, _, none⟩, ⟨3, 30, ptrH, some 1, _, none⟩]) (sp := [.alc 0, .alc 1, .val 4 _]) [.o 2] hst (oc (ob_box rfl rfl rfl (gq 0 rfl)) (oc (ob_box rfl rfl rfl (gq 1 rfl)) (oc (ob_v rfl rfl (r_assign has_const)) o0))) (fun a w hst => ?_)
  have hst : St B w0 37 [(4, _)] [⟨2, 28, ptrH, _⟩, ⟨3, 30, ptrH, _⟩] a w := hst
  refine thn_normal ?_
  refine wp_seq ?_
  refine gl (sts := [none, none]) (news := []) (sp := [.val 5 _]) [.g 0, .o 0] hst (oc (ob_v rfl rfl (r_assign has_fnE)) o0) (fun a w hst => ?_)
  have hst : St B w0 37 [(4, _), (5, _)] [⟨2, 28, ptrH, _⟩, ⟨3, 30, ptrH, _⟩] a w := hst
  refine thn_normal ?_
  refine wp_seq ?_
  refine go_linNew2 (sp := [.val 12 _, .adr 13 2 (.some 0) True, .val 14 _, .adr 15 2 (.some 4) True, .val 16 _, .adr 17 2 (.some 8) True, .val 18 _, .adr 19 2 (.some 12) True, .val 20 _, .val 21 _, .val 22 _, .val 11 _, .val 23 _, .val 24 _, .alc 2, .alc 3, .sto 2, .sto 3]) 14 [.g 0, .g 1, .o 12, .o 13] 2 3 [0, 1] hst (oc (ob_v rfl rfl (r_move (gq 1 rfl))) (oc (ob_a rfl rfl (a_fld (lz0 0 rfl) fld_28_0)) (oc (ob_v rfl rfl (r_loadf 1 rfl (by kernel_rfl) trivial (lz0 0 rfl) (Sub.part 0 rfl rfl) ty_26)) (oc (ob_a rfl rfl (a_fld (lz0 0 rfl) fld_28_1)) (oc (ob_v rfl rfl (r_loadf 3 rfl (by kernel_rfl) trivial (lz0 0 rfl) (Sub.part 1 rfl rfl) ty_26)) (oc (ob_a rfl rfl (a_fld (lz0 0 rfl) fld_28_2)) (oc (ob_v rfl rfl (r_loadf 5 rfl (by kernel_rfl) trivial (lz0 0 rfl) (Sub.part 2 rfl rfl) ty_26)) (oc (ob_a rfl rfl (a_fld (lz0 0 rfl) fld_28_3)) (oc (ob_v rfl rfl (r_loadf 7 rfl (by kernel_rfl) trivial (lz0 0 rfl) (Sub.part 3 rfl rfl) ty_26)) (oc (ob_v rfl rfl (r_slice (D := [U32]) (l := [_, _, _, _]) (xs := [.tmp 14, .tmp 16, .tmp 18, .tmp 20]) (nd_ok (by kernel_rfl)) sl_71 (by kernel_rfl) (n_ok (by kernel_rfl)) nq nq nq (.cons (vq 2 rfl) (.cons (vq 4 rfl) (.cons (vq 6 rfl) (.cons (vq 8 rfl) .nil)))) rfl rfl)) (oc (ob_v rfl rfl (r_callE (xs := [.tmp 21]) (shared_c [m.a, m.b, m.c, m.d] nq) (vq 0 rfl) (.cons (vq 9 rfl) .nil))) (oc (ob_v rfl rfl (r_move (vq 10 rfl))) (oc (ob_v rfl rfl (r_ex0 (vq 11 rfl))) (oc (ob_v rfl rfl (r_ex1 (vq 11 rfl))) o0)))))))))))))) rfl (by kernel_rfl) (by kernel_rfl) rfl rfl rfl rfl zero_row (Str.zero str_int) rfl rfl ty_126 ty_24 rfl rfl nq nq (by kernel_rfl) (by kernel_rfl) (by kernel_rfl) (fun a w hst => ?_)
  have hst : St B w0 37 [(4, _), (5, _)] [⟨2, 28, ptrH, _⟩, ⟨3, 30, ptrH, _⟩, ⟨6, 126, ptrH, _⟩, ⟨7, 24, ptrH, _⟩] a w := hst
  obtain ⟨b1, hst⟩ := St.slL hst 2 22 rfl nq
  have hst : St B w0 37 [(22, _), (4, _), (5, _)] [⟨2, 28, ptrH, _⟩, ⟨3, 30, ptrH, _⟩, ⟨6, 126, ptrH, _⟩, ⟨7, 24, ptrH, _⟩] a w := hst
  refine thn_normal ?_
  refine wp_seq ?_
  refine go_linNew2X (sp := [.val 26 _, .adr 27 3 (.some 0) True, .val 28 _, .adr 29 3 (.some 4) True, .val 30 _, .val 31 _, .val 32 _, .val 25 _, .val 33 _, .val 34 _, .alc 4, .alc 5, .sto 4, .sto 5]) (fun b => SlL b 24 [U32] ([r.y, r.u].map (ovA (lqS [r.y, r.u] 2)))) 10 [.g 0, .g 1, .o 8, .o 9] 2 3 0 [0, 1] hst (oc (ob_v rfl rfl (r_move (gq 2 rfl))) (oc (ob_a rfl rfl (a_fld (lz0 1 rfl) fld_30_0)) (oc (ob_v rfl rfl (r_loadf 1 rfl (by kernel_rfl) trivial (lz0 1 rfl) (Sub.part 0 rfl rfl) ty_26)) (oc (ob_a rfl rfl (a_fld (lz0 1 rfl) fld_30_1)) (oc (ob_v rfl rfl (r_loadf 3 rfl (by kernel_rfl) trivial (lz0 1 rfl) (Sub.part 1 rfl rfl) ty_26)) (oc (ob_v rfl rfl (r_slice (D := [U32]) (l := [_, _]) (xs := [.tmp 28, .tmp 30]) (nd_ok (by kernel_rfl)) sl_71 (by kernel_rfl) (n_ok (by kernel_rfl)) nq nq nq (.cons (vq 2 rfl) (.cons (vq 4 rfl) .nil)) rfl rfl)) (oc (ob_v rfl rfl (r_callE (xs := [.tmp 31]) (shared_c [r.y, r.u] nq) (vq 0 rfl) (.cons (vq 5 rfl) .nil))) (oc (ob_v rfl rfl (r_move (vq 6 rfl))) (oc (ob_v rfl rfl (r_ex0 (vq 7 rfl))) (oc (ob_v rfl rfl (r_ex1 (vq 7 rfl))) o0)))))))))) rfl (by kernel_rfl) (by kernel_rfl) rfl rfl rfl rfl (fun _ _ _ hb hp => sl_lt nq hb hp) rfl zero_row (Str.zero str_int) rfl rfl ty_126 ty_24 rfl rfl nq nq (by kernel_rfl) (by kernel_rfl) (by kernel_rfl) (fun q8 a w hb9 hst => ?_)
  have hst : St B w0 37 [(8, _), (9, _), (22, _), (4, _)] [⟨2, 28, ptrH, _⟩, ⟨3, 30, ptrH, _⟩, ⟨6, 126, ptrH, _⟩, ⟨7, 24, ptrH, _⟩, ⟨8, 126, ptrH, _⟩, ⟨9, 24, ptrH, _⟩] a w := hst
  obtain ⟨q6, hst⟩ := St.nm hst 2 rfl
  obtain ⟨q7, hst⟩ := St.nm hst 3 rfl
  have hst := St.wkL hst 4 rfl (slL_N (g := q8 + 1) (by omega))
  have hst := St.wkL hst 2 rfl (slL_N (g := q8 + 1) (by omega))
  refine thn_normal ?_
  refine wp_seq ?_
  refine gl (sts := [none, none, none, none, none, none]) (news := [⟨10, 79, ptrH, some 1, _, some (2, _)⟩]) (sp := [.val 35 _, .alc 6, .sto 6]) [.g 0, .g 1, .g 2, .g 3, .g 4, .g 5] hst (oc (ob_v rfl rfl (r_mkE (xs := [.tmp 8]) (vs := [ptr q8]) (.cons (gq 2 rfl) .nil))) (oc (ob_alc rfl rfl rfl zero_fn) (oc (ob_sto rfl rfl rfl (vq 0 rfl) ty_79 (Eq.trans (b := 1) rfl rfl)) o0))) (fun a w hst => ?_)
  have hst : St B w0 37 [(7, _), (6, _), (8, _), (9, _), (22, _), (4, _)] [⟨2, 28, ptrH, _⟩, ⟨3, 30, ptrH, _⟩, ⟨6, 126, ptrH, _⟩, ⟨7, 24, ptrH, _⟩, ⟨8, 126, ptrH, _⟩, ⟨9, 24, ptrH, _⟩, ⟨10, 79, ptrH, _⟩] a w := hst
  refine thn_normal ?_
  refine wp_seq ?_
  obtain ⟨q10, hst⟩ := St.nm hst 6 rfl
  refine gl (sts := [none, none, none, none, none, none, none]) (news := []) (sp := [.val 36 _, .val 4 _]) [.g 0, .g 1, .g 2, .g 3, .g 4, .g 5, .o 1] hst (oc (ob_v rfl rfl (r_mkE (xs := [.tmp 8, .tmp 9, .tmp 10, .tmp 6, .tmp 7]) (vs := [ptr q8, ptr (q8 + 1), ptr q10, ptr q6, ptr q7]) (.cons (gq 3 rfl) (.cons (gq 4 rfl) (.cons (gq 0 rfl) (.cons (gq 2 rfl) (.cons (gq 1 rfl) .nil))))))) (oc (ob_v rfl rfl (r_assign (vq 0 rfl))) o0)) (fun a w hst => ?_)
  have hst : St B w0 37 [(10, _), (7, _), (6, _), (8, _), (9, _), (22, _), (4, _)] [⟨2, 28, ptrH, _⟩, ⟨3, 30, ptrH, _⟩, ⟨6, 126, ptrH, _⟩, ⟨7, 24, ptrH, _⟩, ⟨8, 126, ptrH, _⟩, ⟨9, 24, ptrH, _⟩, ⟨10, 79, ptrH, _⟩] a w := hst
  refine thn_normal ?_
  refine wp_ret ?_
  exact ret_it [q8, q8 + 1, q10, q6, q7] [8, 9, 10, 6, 7] [(3, 4), (4, 5), (0, 6), (2, 2), (1, 3)] rfl hst hF0 (List.mem_of_getElem? (i := 6) rfl) ⟨⟨rfl, rfl⟩, ⟨rfl, rfl⟩, ⟨rfl, rfl⟩, ⟨rfl, rfl⟩, ⟨rfl, rfl⟩, trivial⟩ (by decide)

end Go.Proofs.YtmghfjcjcfaagaaGreat
