/- Contracts of package row (pair, Times, Through) and of package cavity without its benches: Kind, Two, Factors. -/
import Derived.Test.YtljkepdpoelpkaaRayL
namespace Go.Proofs.Ytljkepdpoelpkaa
open Go Go.RowKit
namespace CavA
theorem fld_37_0 : Fld Try.prog 37 0 0 4 := ⟨_, _, Try.underlying37, rfl, rfl, by kernel_rfl, by decide⟩
theorem fld_37_1 : Fld Try.prog 37 1 4 4 := ⟨_, _, Try.underlying37, rfl, rfl, by kernel_rfl, by decide⟩
theorem fld_37_2 : Fld Try.prog 37 2 8 4 := ⟨_, _, Try.underlying37, rfl, rfl, by kernel_rfl, by decide⟩
theorem fld_37_3 : Fld Try.prog 37 3 12 4 := ⟨_, _, Try.underlying37, rfl, rfl, by kernel_rfl, by decide⟩
theorem ty_35 : Ty Try.prog 35 4 true := ⟨by kernel_rfl, by kernel_rfl⟩
theorem ty_37 : Ty Try.prog 37 16 true := ⟨by kernel_rfl, by kernel_rfl⟩
end CavA
open CavA
set_option maxRecDepth 100000 in
theorem rowPair_q {c d e f : Nat} {x y z u : Rat} (hk : c + d + e + f ≤ 137438953472) : Cn Try.prog 73 [Qs c x, Qs d y, Qs e z, Qs f u] (Qs (c + d + (e + f) + 1) (x * y + z * u)) := by
  refine Cn.intro Try.func73 rfl (by kernel_rfl) nq (fun B w0 a hst => ?_)
  have hst : St B w0 16 [(0, Qs c x), (1, Qs d y), (2, Qs e z), (3, Qs f u)] [] a w0.w := hst
  refine wp_seq ?_
  refine gl (sts := []) (news := [⟨4, 35, ptrH, some 0, _, none⟩, ⟨5, 35, ptrH, some 1, _, none⟩, ⟨6, 35, ptrH, some 2, _, none⟩, ⟨7, 35, ptrH, some 3, _, none⟩, ⟨8, 35, ptrH, some 4, _, none⟩]) (sp := [.alc 0, .alc 1, .alc 2, .alc 3, .alc 4]) [] hst (oc (ob_box rfl rfl rfl (gq 0 rfl)) (oc (ob_box rfl rfl rfl (gq 1 rfl)) (oc (ob_box rfl rfl rfl (gq 2 rfl)) (oc (ob_box rfl rfl rfl (gq 3 rfl)) (oc (ob_alc rfl rfl rfl (Str.zero str_frac)) o0))))) (fun a w hst => ?_)
  have hst : St B w0 16 [] [⟨4, 35, ptrH, _⟩, ⟨5, 35, ptrH, _⟩, ⟨6, 35, ptrH, _⟩, ⟨7, 35, ptrH, _⟩, ⟨8, 35, ptrH, _⟩] a w := hst
  refine thn_normal ?_
  refine wp_seq ?_
  refine go_draw (anc := [[], [], [0, 1], [], [], [0, 1, 2, 3, 4], [0, 1, 2, 3, 4, 5], [0, 1, 2, 3, 4, 5, 6]]) (sts := [none, none, none, none, some (7, _)]) (news := []) (sp := [.val 9 _, .val 10 _, .val 11 _, .val 12 _, .val 13 _, .val 14 _, .val 15 _, .sto 4]) [] follows_mixed hst (oc (ob_v rfl rfl (r_load (lz0 0 rfl) ty_35)) (oc (ob_v rfl rfl (r_load (lz0 1 rfl) ty_35)) (oc (ob_v rfl rfl (r_call (xs := [.tmp 9, .tmp 10]) (times_q (by omega)) (.cons (vq 0 rfl) (.cons (vq 1 rfl) .nil)))) (oc (ob_v rfl rfl (r_load (lz0 2 rfl) ty_35)) (oc (ob_v rfl rfl (r_load (lz0 3 rfl) ty_35)) (oc (ob_v rfl rfl (r_call (xs := [.tmp 12, .tmp 13]) (times_q (by omega)) (.cons (vq 3 rfl) (.cons (vq 4 rfl) .nil)))) (oc (ob_v rfl rfl (r_call (xs := [.tmp 11, .tmp 14]) (plus_q (by omega)) (.cons (vq 2 rfl) (.cons (vq 5 rfl) .nil)))) (oc (ob_sto rfl rfl rfl (vq 6 rfl) ty_35 (Eq.trans (b := 4) rfl rfl)) o0)))))))) (by kernel_rfl) (by kernel_rfl) (by kernel_rfl) (by kernel_rfl) (fun a w hst => ?_)
  have hst : St B w0 16 [] [⟨4, 35, ptrH, _⟩, ⟨5, 35, ptrH, _⟩, ⟨6, 35, ptrH, _⟩, ⟨7, 35, ptrH, _⟩, ⟨8, 35, ptrH, _⟩] a w := hst
  refine thn_normal ?_
  refine wp_ret ?_
  refine ret_wk ?_ (ret_cell rfl hst (List.mem_of_getElem? (i := 4) rfl) ty_35)
  exact wk_id

set_option maxRecDepth 100000 in
theorem rowTimes_q {c d : Nat} {m q : MQ} (hk : c + d ≤ 68719476736) : Cn Try.prog 51 [(QMA c m).va, (QMA d q).va] ((QMA (c + d + (c + d) + 1) (mulQ m q)).va) := by
  refine Cn.intro Try.func51 rfl (by kernel_rfl) nq (fun B w0 a hst => ?_)
  have hst : St B w0 42 [(0, (QMA c m).va), (1, (QMA d q).va)] [] a w0.w := hst
  refine wp_seq ?_
  refine gl (sts := []) (news := [⟨2, 37, ptrH, some 0, _, none⟩, ⟨3, 37, ptrH, some 1, _, none⟩, ⟨4, 37, ptrH, some 2, _, none⟩]) (sp := [.alc 0, .alc 1, .alc 2]) [] hst (oc (ob_box rfl rfl rfl (gq 0 rfl)) (oc (ob_box rfl rfl rfl (gq 1 rfl)) (oc (ob_alc rfl rfl rfl (Str.zero str_matrix)) o0))) (fun a w hst => ?_)
  have hst : St B w0 42 [] [⟨2, 37, ptrH, _⟩, ⟨3, 37, ptrH, _⟩, ⟨4, 37, ptrH, _⟩] a w := hst
  refine thn_normal ?_
  refine wp_seq ?_
  refine go_draw (anc := [[], [0], [], [2], [], [4], [], [6], [0, 1, 2, 3, 4, 5, 6, 7], [], [9], [], [11], [], [13], [], [15], [0, 1, 2, 3, 4, 5, 6, 7, 8, 9, 10, 11, 12, 13, 14, 15, 16], [], [18], [], [20], [], [22], [], [24], [0, 1, 2, 3, 4, 5, 6, 7, 8, 9, 10, 11, 12, 13, 14, 15, 16, 17, 18, 19, 20, 21, 22, 23, 24, 25], [], [27], [], [29], [], [31], [], [33], [0, 1, 2, 3, 4, 5, 6, 7, 8, 9, 10, 11, 12, 13, 14, 15, 16, 17, 18, 19, 20, 21, 22, 23, 24, 25, 26, 27, 28, 29, 30, 31, 32, 33, 34], [0, 1, 2, 3, 4, 5, 6, 7, 8, 9, 10, 11, 12, 13, 14, 15, 16, 17, 18, 19, 20, 21, 22, 23, 24, 25, 26, 27, 28, 29, 30, 31, 32, 33, 34, 35], [0, 1, 2, 3, 4, 5, 6, 7, 8, 9, 10, 11, 12, 13, 14, 15, 16, 17, 18, 19, 20, 21, 22, 23, 24, 25, 26, 27, 28, 29, 30, 31, 32, 33, 34, 35, 36]]) (sts := [none, none, some (37, _)]) (news := []) (sp := ((.adr 5 2 (.some 0) True : Sp) :: (.val 6 _) :: (.adr 7 3 (.some 0) True) :: (.val 8 _) :: (.adr 9 2 (.some 4) True) :: (.val 10 _) :: (.adr 11 3 (.some 8) True) :: (.val 12 _) :: (.val 13 _) :: (.adr 14 2 (.some 0) True) :: (.val 15 _) :: (.adr 16 3 (.some 4) True) :: (.val 17 _) :: (.adr 18 2 (.some 4) True) :: (.val 19 _) :: (.adr 20 3 (.some 12) True) :: (.val 21 _) :: (.val 22 _) :: (.adr 23 2 (.some 8) True) :: (.val 24 _) :: (.adr 25 3 (.some 0) True) :: (.val 26 _) :: (.adr 27 2 (.some 12) True) :: (.val 28 _) :: (.adr 29 3 (.some 8) True) :: (.val 30 _) :: (.val 31 _) :: (.adr 32 2 (.some 8) True) :: (.val 33 _) :: (.adr 34 3 (.some 4) True) :: (.val 35 _) :: (.adr 36 2 (.some 12) True) :: (.val 37 _) :: (.adr 38 3 (.some 12) True) :: (.val 39 _) :: (.val 40 _) :: (.val 41 _) :: (.sto 2) :: [])) [] follows_mixed hst (oc (ob_a rfl rfl (a_fld (lz0 0 rfl) fld_37_0)) (oc (ob_v rfl rfl (r_loadf 0 rfl (by kernel_rfl) trivial (lz0 0 rfl) (Sub.part 0 rfl rfl) ty_35)) (oc (ob_a rfl rfl (a_fld (lz0 1 rfl) fld_37_0)) (oc (ob_v rfl rfl (r_loadf 2 rfl (by kernel_rfl) trivial (lz0 1 rfl) (Sub.part 0 rfl rfl) ty_35)) (oc (ob_a rfl rfl (a_fld (lz0 0 rfl) fld_37_1)) (oc (ob_v rfl rfl (r_loadf 4 rfl (by kernel_rfl) trivial (lz0 0 rfl) (Sub.part 1 rfl rfl) ty_35)) (oc (ob_a rfl rfl (a_fld (lz0 1 rfl) fld_37_2)) (oc (ob_v rfl rfl (r_loadf 6 rfl (by kernel_rfl) trivial (lz0 1 rfl) (Sub.part 2 rfl rfl) ty_35)) (oc (ob_v rfl rfl (r_call (xs := [.tmp 6, .tmp 8, .tmp 10, .tmp 12]) (rowPair_q (by omega)) (.cons (vq 1 rfl) (.cons (vq 3 rfl) (.cons (vq 5 rfl) (.cons (vq 7 rfl) .nil)))))) (oc (ob_a rfl rfl (a_fld (lz0 0 rfl) fld_37_0)) (oc (ob_v rfl rfl (r_loadf 9 rfl (by kernel_rfl) trivial (lz0 0 rfl) (Sub.part 0 rfl rfl) ty_35)) (oc (ob_a rfl rfl (a_fld (lz0 1 rfl) fld_37_1)) (oc (ob_v rfl rfl (r_loadf 11 rfl (by kernel_rfl) trivial (lz0 1 rfl) (Sub.part 1 rfl rfl) ty_35)) (oc (ob_a rfl rfl (a_fld (lz0 0 rfl) fld_37_1)) (oc (ob_v rfl rfl (r_loadf 13 rfl (by kernel_rfl) trivial (lz0 0 rfl) (Sub.part 1 rfl rfl) ty_35)) (oc (ob_a rfl rfl (a_fld (lz0 1 rfl) fld_37_3)) (oc (ob_v rfl rfl (r_loadf 15 rfl (by kernel_rfl) trivial (lz0 1 rfl) (Sub.part 3 rfl rfl) ty_35)) (oc (ob_v rfl rfl (r_call (xs := [.tmp 15, .tmp 17, .tmp 19, .tmp 21]) (rowPair_q (by omega)) (.cons (vq 10 rfl) (.cons (vq 12 rfl) (.cons (vq 14 rfl) (.cons (vq 16 rfl) .nil)))))) (oc (ob_a rfl rfl (a_fld (lz0 0 rfl) fld_37_2)) (oc (ob_v rfl rfl (r_loadf 18 rfl (by kernel_rfl) trivial (lz0 0 rfl) (Sub.part 2 rfl rfl) ty_35)) (oc (ob_a rfl rfl (a_fld (lz0 1 rfl) fld_37_0)) (oc (ob_v rfl rfl (r_loadf 20 rfl (by kernel_rfl) trivial (lz0 1 rfl) (Sub.part 0 rfl rfl) ty_35)) (oc (ob_a rfl rfl (a_fld (lz0 0 rfl) fld_37_3)) (oc (ob_v rfl rfl (r_loadf 22 rfl (by kernel_rfl) trivial (lz0 0 rfl) (Sub.part 3 rfl rfl) ty_35)) (oc (ob_a rfl rfl (a_fld (lz0 1 rfl) fld_37_2)) (oc (ob_v rfl rfl (r_loadf 24 rfl (by kernel_rfl) trivial (lz0 1 rfl) (Sub.part 2 rfl rfl) ty_35)) (oc (ob_v rfl rfl (r_call (xs := [.tmp 24, .tmp 26, .tmp 28, .tmp 30]) (rowPair_q (by omega)) (.cons (vq 19 rfl) (.cons (vq 21 rfl) (.cons (vq 23 rfl) (.cons (vq 25 rfl) .nil)))))) (oc (ob_a rfl rfl (a_fld (lz0 0 rfl) fld_37_2)) (oc (ob_v rfl rfl (r_loadf 27 rfl (by kernel_rfl) trivial (lz0 0 rfl) (Sub.part 2 rfl rfl) ty_35)) (oc (ob_a rfl rfl (a_fld (lz0 1 rfl) fld_37_1)) (oc (ob_v rfl rfl (r_loadf 29 rfl (by kernel_rfl) trivial (lz0 1 rfl) (Sub.part 1 rfl rfl) ty_35)) (oc (ob_a rfl rfl (a_fld (lz0 0 rfl) fld_37_3)) (oc (ob_v rfl rfl (r_loadf 31 rfl (by kernel_rfl) trivial (lz0 0 rfl) (Sub.part 3 rfl rfl) ty_35)) (oc (ob_a rfl rfl (a_fld (lz0 1 rfl) fld_37_3)) (oc (ob_v rfl rfl (r_loadf 33 rfl (by kernel_rfl) trivial (lz0 1 rfl) (Sub.part 3 rfl rfl) ty_35)) (oc (ob_v rfl rfl (r_call (xs := [.tmp 33, .tmp 35, .tmp 37, .tmp 39]) (rowPair_q (by omega)) (.cons (vq 28 rfl) (.cons (vq 30 rfl) (.cons (vq 32 rfl) (.cons (vq 34 rfl) .nil)))))) (oc (ob_v rfl rfl (r_build (xs := [(0, .tmp 13), (1, .tmp 22), (2, .tmp 31), (3, .tmp 40)]) (qs := [(0, _), (1, _), (2, _), (3, _)]) str_matrix (.cons ⟨rfl, (vq 8 rfl), rfl⟩ (.cons ⟨rfl, (vq 17 rfl), rfl⟩ (.cons ⟨rfl, (vq 26 rfl), rfl⟩ (.cons ⟨rfl, (vq 35 rfl), rfl⟩ .nil)))))) (oc (ob_sto rfl rfl rfl (vq 36 rfl) ty_37 (Eq.trans (b := 16) rfl rfl)) o0)))))))))))))))))))))))))))))))))))))) (by kernel_rfl) (by kernel_rfl) (by kernel_rfl) (by kernel_rfl) (fun a w hst => ?_)
  have hst : St B w0 42 [] [⟨2, 37, ptrH, _⟩, ⟨3, 37, ptrH, _⟩, ⟨4, 37, ptrH, _⟩] a w := hst
  refine thn_normal ?_
  refine wp_ret ?_
  refine ret_wk ?_ (ret_cell rfl hst (List.mem_of_getElem? (i := 2) rfl) ty_37)
  exact wk_id

set_option maxRecDepth 100000 in
theorem rowOne_q  : Cn Try.prog 50 [] ((QMA 2 ⟨1, 0, 0, 1⟩).va) := by
  refine Cn.intro Try.func50 rfl (by kernel_rfl) nq (fun B w0 a hst => ?_)
  have hst : St B w0 6 [] [] a w0.w := hst
  refine wp_seq ?_
  refine gl (sts := []) (news := [⟨0, 37, ptrH, some 0, _, none⟩]) (sp := [.alc 0]) [] hst (oc (ob_alc rfl rfl rfl (Str.zero str_matrix)) o0) (fun a w hst => ?_)
  have hst : St B w0 6 [] [⟨0, 37, ptrH, _⟩] a w := hst
  refine thn_normal ?_
  refine wp_seq ?_
  refine gl (sts := [some (5, _)]) (news := []) (sp := [.val 1 _, .val 2 _, .val 3 _, .val 4 _, .val 5 _, .sto 0]) [] hst (oc (ob_v rfl rfl (r_call (xs := []) one_q .nil)) (oc (ob_v rfl rfl (r_call (xs := []) nought_q .nil)) (oc (ob_v rfl rfl (r_call (xs := []) nought_q .nil)) (oc (ob_v rfl rfl (r_call (xs := []) one_q .nil)) (oc (ob_v rfl rfl (r_build (xs := [(0, .tmp 1), (1, .tmp 2), (2, .tmp 3), (3, .tmp 4)]) (qs := [(0, _), (1, _), (2, _), (3, _)]) str_matrix (.cons ⟨rfl, (vq 0 rfl), rfl⟩ (.cons ⟨rfl, (vq 1 rfl), rfl⟩ (.cons ⟨rfl, (vq 2 rfl), rfl⟩ (.cons ⟨rfl, (vq 3 rfl), rfl⟩ .nil)))))) (oc (ob_sto rfl rfl rfl (vq 4 rfl) ty_37 (Eq.trans (b := 16) rfl rfl)) o0)))))) (fun a w hst => ?_)
  have hst : St B w0 6 [] [⟨0, 37, ptrH, _⟩] a w := hst
  refine thn_normal ?_
  refine wp_ret ?_
  refine ret_wk ?_ (ret_cell rfl hst (List.mem_of_getElem? (i := 0) rfl) ty_37)
  exact wk_id

end Go.Proofs.Ytljkepdpoelpkaa
