import Derived.Test.YthncfchnkjemiaaGreatDoorCpAa
import Derived.Test.YthncfchnkjemiaaGreatDoorCpAc
import Derived.Test.YthncfchnkjemiaaGreatDoorCpAo
import Derived.Test.YthncfchnkjemiaaGreatDoorCpBc
import Derived.Test.YthncfchnkjemiaaGreatDoorCpBe
import Derived.ProofKit
import Derived.OpenShut
import Derived.ChangeOld
import Derived.Below
import Derived.Deep.Slices
import Derived.SizedLaws
set_option linter.unusedVariables false
set_option linter.unusedSimpArgs false
set_option linter.unusedSectionVars false
set_option maxRecDepth 100000
namespace Go.Proofs.YthncfchnkjemiaaGreatDoor
open Go Go.RowKit
theorem asm_lo {m:MQ} (h:[m.a,m.b,m.c,m.d].any longQ=true):asM 0 m=(rm0,4):=by rw [asM,if_pos rfl,if_pos h]
theorem asm_ok {m:MQ} (h:¬ [m.a,m.b,m.c,m.d].any longQ=true):asM 0 m=(rmOf m,0):=by rw [asM,if_pos rfl,if_neg h]
theorem r9times_q {c d:Nat} {m q:MQ} (hk:c+d≤200000000):Cn Tryz.prog 196 [(QMA c m).va,(QMA d q).va] ((QMA (c+d+(c+d)+1) (mulQ m q)).va):=by
 refine Cn.intro Tryz.func196 rfl zk nq (fun B w0 a hst=>?_)
 have hst:St B w0 42 [(0,(QMA c m).va),(1,(QMA d q).va)] [] a w0.w:=hst
 refine wp_seq ?_
 refine gl (sts:=[]) (news:=[⟨2,28,ptrH,some 0,_,none⟩,⟨3,28,ptrH,some 1,_,none⟩,⟨4,28,ptrH,some 2,_,none⟩]) (sp:=[.alc 0,.alc 1,.alc 2]) [] hst (oc (ob_box rfl rfl rfl (gq 0 rfl)) (oc (ob_box rfl rfl rfl (gq 1 rfl)) (oc (ob_alc rfl rfl rfl (Str.zero str_matrix)) o0))) (fun a w hst=>?_)
 have hst:St B w0 42 [] [⟨2,28,ptrH,_⟩,⟨3,28,ptrH,_⟩,⟨4,28,ptrH,_⟩] a w:=hst
 refine zt ?_
 refine go_draw (anc:=[[],[0],[],[2],[],[4],[],[6],[0,1,2,3,4,5,6,7],[],[9],[],[11],[],[13],[],[15],[0,1,2,3,4,5,6,7,8,9,10,11,12,13,14,15,16],[],[18],[],[20],[],[22],[],[24],[0,1,2,3,4,5,6,7,8,9,10,11,12,13,14,15,16,17,18,19,20,21,22,23,24,25],[],[27],[],[29],[],[31],[],[33],[0,1,2,3,4,5,6,7,8,9,10,11,12,13,14,15,16,17,18,19,20,21,22,23,24,25,26,27,28,29,30,31,32,33,34],[0,1,2,3,4,5,6,7,8,9,10,11,12,13,14,15,16,17,18,19,20,21,22,23,24,25,26,27,28,29,30,31,32,33,34,35],[0,1,2,3,4,5,6,7,8,9,10,11,12,13,14,15,16,17,18,19,20,21,22,23,24,25,26,27,28,29,30,31,32,33,34,35,36]]) (sts:=[none,none,some (37,_)]) (news:=[]) (sp:=((.adr 5 2 (.some 0) True:Sp)::(.val 6 _)::(.adr 7 3 (.some 0) True)::(.val 8 _)::(.adr 9 2 (.some 4) True)::(.val 10 _)::(.adr 11 3 (.some 8) True)::(.val 12 _)::(.val 13 _)::(.adr 14 2 (.some 0) True)::(.val 15 _)::(.adr 16 3 (.some 4) True)::(.val 17 _)::(.adr 18 2 (.some 4) True)::(.val 19 _)::(.adr 20 3 (.some 12) True)::(.val 21 _)::(.val 22 _)::(.adr 23 2 (.some 8) True)::(.val 24 _)::(.adr 25 3 (.some 0) True)::(.val 26 _)::(.adr 27 2 (.some 12) True)::(.val 28 _)::(.adr 29 3 (.some 8) True)::(.val 30 _)::(.val 31 _)::(.adr 32 2 (.some 8) True)::(.val 33 _)::(.adr 34 3 (.some 4) True)::(.val 35 _)::(.adr 36 2 (.some 12) True)::(.val 37 _)::(.adr 38 3 (.some 12) True)::(.val 39 _)::(.val 40 _)::(.val 41 _)::(.sto 2)::[])) [] follows_mixed hst (oc (ob_a rfl rfl (a_fld (lz0 0 rfl) fld_28_0)) (zv rfl rfl (r_loadf 0 rfl zk trivial (lz0 0 rfl) (Sub.part 0 rfl rfl) ty_26) (oc (ob_a rfl rfl (a_fld (lz0 1 rfl) fld_28_0)) (zv rfl rfl (r_loadf 2 rfl zk trivial (lz0 1 rfl) (Sub.part 0 rfl rfl) ty_26) (oc (ob_a rfl rfl (a_fld (lz0 0 rfl) fld_28_1)) (zv rfl rfl (r_loadf 4 rfl zk trivial (lz0 0 rfl) (Sub.part 1 rfl rfl) ty_26) (oc (ob_a rfl rfl (a_fld (lz0 1 rfl) fld_28_2)) (zv rfl rfl (r_loadf 6 rfl zk trivial (lz0 1 rfl) (Sub.part 2 rfl rfl) ty_26) (zv rfl rfl (r_call (xs:=[.tmp 6,.tmp 8,.tmp 10,.tmp 12]) (r9pair_q zo) (.cons (vq 1 rfl) (.cons (vq 3 rfl) (.cons (vq 5 rfl) (.cons (vq 7 rfl) .nil))))) (oc (ob_a rfl rfl (a_fld (lz0 0 rfl) fld_28_0)) (zv rfl rfl (r_loadf 9 rfl zk trivial (lz0 0 rfl) (Sub.part 0 rfl rfl) ty_26) (oc (ob_a rfl rfl (a_fld (lz0 1 rfl) fld_28_1)) (zv rfl rfl (r_loadf 11 rfl zk trivial (lz0 1 rfl) (Sub.part 1 rfl rfl) ty_26) (oc (ob_a rfl rfl (a_fld (lz0 0 rfl) fld_28_1)) (zv rfl rfl (r_loadf 13 rfl zk trivial (lz0 0 rfl) (Sub.part 1 rfl rfl) ty_26) (oc (ob_a rfl rfl (a_fld (lz0 1 rfl) fld_28_3)) (zv rfl rfl (r_loadf 15 rfl zk trivial (lz0 1 rfl) (Sub.part 3 rfl rfl) ty_26) (zv rfl rfl (r_call (xs:=[.tmp 15,.tmp 17,.tmp 19,.tmp 21]) (r9pair_q zo) (.cons (vq 10 rfl) (.cons (vq 12 rfl) (.cons (vq 14 rfl) (.cons (vq 16 rfl) .nil))))) (oc (ob_a rfl rfl (a_fld (lz0 0 rfl) fld_28_2)) (zv rfl rfl (r_loadf 18 rfl zk trivial (lz0 0 rfl) (Sub.part 2 rfl rfl) ty_26) (oc (ob_a rfl rfl (a_fld (lz0 1 rfl) fld_28_0)) (zv rfl rfl (r_loadf 20 rfl zk trivial (lz0 1 rfl) (Sub.part 0 rfl rfl) ty_26) (oc (ob_a rfl rfl (a_fld (lz0 0 rfl) fld_28_3)) (zv rfl rfl (r_loadf 22 rfl zk trivial (lz0 0 rfl) (Sub.part 3 rfl rfl) ty_26) (oc (ob_a rfl rfl (a_fld (lz0 1 rfl) fld_28_2)) (zv rfl rfl (r_loadf 24 rfl zk trivial (lz0 1 rfl) (Sub.part 2 rfl rfl) ty_26) (zv rfl rfl (r_call (xs:=[.tmp 24,.tmp 26,.tmp 28,.tmp 30]) (r9pair_q zo) (.cons (vq 19 rfl) (.cons (vq 21 rfl) (.cons (vq 23 rfl) (.cons (vq 25 rfl) .nil))))) (oc (ob_a rfl rfl (a_fld (lz0 0 rfl) fld_28_2)) (zv rfl rfl (r_loadf 27 rfl zk trivial (lz0 0 rfl) (Sub.part 2 rfl rfl) ty_26) (oc (ob_a rfl rfl (a_fld (lz0 1 rfl) fld_28_1)) (zv rfl rfl (r_loadf 29 rfl zk trivial (lz0 1 rfl) (Sub.part 1 rfl rfl) ty_26) (oc (ob_a rfl rfl (a_fld (lz0 0 rfl) fld_28_3)) (zv rfl rfl (r_loadf 31 rfl zk trivial (lz0 0 rfl) (Sub.part 3 rfl rfl) ty_26) (oc (ob_a rfl rfl (a_fld (lz0 1 rfl) fld_28_3)) (zv rfl rfl (r_loadf 33 rfl zk trivial (lz0 1 rfl) (Sub.part 3 rfl rfl) ty_26) (zv rfl rfl (r_call (xs:=[.tmp 33,.tmp 35,.tmp 37,.tmp 39]) (r9pair_q zo) (.cons (vq 28 rfl) (.cons (vq 30 rfl) (.cons (vq 32 rfl) (.cons (vq 34 rfl) .nil))))) (zv rfl rfl (r_build (xs:=[(0,.tmp 13),(1,.tmp 22),(2,.tmp 31),(3,.tmp 40)]) (qs:=[(0,_),(1,_),(2,_),(3,_)]) str_matrix (.cons ⟨rfl,(vq 8 rfl),rfl⟩ (.cons ⟨rfl,(vq 17 rfl),rfl⟩ (.cons ⟨rfl,(vq 26 rfl),rfl⟩ (.cons ⟨rfl,(vq 35 rfl),rfl⟩ .nil))))) (oc (ob_sto rfl rfl rfl (vq 36 rfl) ty_28 (Eq.trans (b:=16) rfl rfl)) o0)))))))))))))))))))))))))))))))))))))) zk zk zk zk (fun a w hst=>?_)
 have hst:St B w0 42 [] [⟨2,28,ptrH,_⟩,⟨3,28,ptrH,_⟩,⟨4,28,ptrH,_⟩] a w:=hst
 refine thn_normal ?_
 refine wp_ret ?_
 refine ret_wk ?_ (ret_cell rfl hst (zm 2 rfl) ty_28)
 exact wk_id
theorem r9answer_q {c:Nat} {m:MQ} (hc:c≤549755813888):Cn Tryz.prog 199 [(QMA c m).va] (MR (asM 0 m)):=by
 refine Cn.intro Tryz.func199 rfl zk nq (fun B w0 a hst=>?_)
 have hst:St B w0 20 [(0,(QMA c m).va)] [] a w0.w:=hst
 refine wp_seq ?_
 refine gl (sts:=[]) (news:=[⟨1,28,ptrH,some 0,_,none⟩,⟨2,28,ptrH,some 1,_,none⟩]) (sp:=[.alc 0,.alc 1,.val 3 _]) [.o 2] hst (oc (ob_box rfl rfl rfl (gq 0 rfl)) (oc (ob_alc rfl rfl rfl (Str.zero str_matrix)) (zv rfl rfl (r_assign has_num) o0))) (fun a w hst=>?_)
 have hst:St B w0 20 [(3,_)] [⟨1,28,ptrH,_⟩,⟨2,28,ptrH,_⟩] a w:=hst
 refine zt ?_
 refine gl (sts:=[none,none]) (news:=[]) (sp:=[.adr 5 1 (.some 0) True,.val 6 _,.adr 7 1 (.some 4) True,.val 8 _,.adr 9 1 (.some 8) True,.val 10 _,.adr 11 1 (.some 12) True,.val 12 _,.val 13 _,.val 14 _,.val 4 _]) [.g 0,.o 10] hst (oc (ob_a rfl rfl (a_fld (lz0 0 rfl) fld_28_0)) (zv rfl rfl (r_loadf 0 rfl zk trivial (lz0 0 rfl) (Sub.part 0 rfl rfl) ty_26) (oc (ob_a rfl rfl (a_fld (lz0 0 rfl) fld_28_1)) (zv rfl rfl (r_loadf 2 rfl zk trivial (lz0 0 rfl) (Sub.part 1 rfl rfl) ty_26) (oc (ob_a rfl rfl (a_fld (lz0 0 rfl) fld_28_2)) (zv rfl rfl (r_loadf 4 rfl zk trivial (lz0 0 rfl) (Sub.part 2 rfl rfl) ty_26) (oc (ob_a rfl rfl (a_fld (lz0 0 rfl) fld_28_3)) (zv rfl rfl (r_loadf 6 rfl zk trivial (lz0 0 rfl) (Sub.part 3 rfl rfl) ty_26) (zv rfl rfl (r_slice (D:=[U32]) (l:=[_,_,_,_]) (xs:=[.tmp 6,.tmp 8,.tmp 10,.tmp 12]) (nd_ok zk) sl_142 zk (n_ok zk) nq nq nq (.cons (vq 1 rfl) (.cons (vq 3 rfl) (.cons (vq 5 rfl) (.cons (vq 7 rfl) .nil)))) rfl rfl) (zv rfl rfl (r_call (xs:=[.tmp 13]) (r2answer_q [m.a,m.b,m.c,m.d] (.cons ⟨_,rfl⟩ (.cons ⟨_,rfl⟩ (.cons ⟨_,rfl⟩ (.cons ⟨_,rfl⟩ .nil)))) nq) (.cons (vq 8 rfl) .nil)) (zv rfl rfl (r_assign (vq 9 rfl)) o0))))))))))) (fun a w hst=>?_)
 have hst:St B w0 20 [(3,_),(4,_)] [⟨1,28,ptrH,_⟩,⟨2,28,ptrH,_⟩] a w:=hst
 refine zt ?_
 refine wp_seq ?_
 refine gl (sts:=[none,none]) (news:=[]) (sp:=[.val 15 _,.val 16 _]) [.g 0,.g 1,.o 1] hst (zv rfl rfl (r_move (gq 1 rfl)) (zv rfl rfl (r_neq (vq 0 rfl) has_num) o0)) (fun a w hst=>?_)
 have hst:St B w0 20 [(3,_),(4,_),(16,_)] [⟨1,28,ptrH,_⟩,⟨2,28,ptrH,_⟩] a w:=hst
 refine thn_normal ?_
 refine cond_of hst (zm 2 rfl) (fun hb0=>?_) (fun hb0=>?_)
 ·have hl:=as_yes hb0
  refine wp_seq ?_
  refine gl (sts:=[none,some (2,_)]) (news:=[]) (sp:=[.val 17 _,.val 18 _,.sto 1,.val 3 _]) [.o 3] hst (zv rfl rfl (r_build (xs:=[]) (qs:=[]) str_matrix .nil) (zv rfl rfl (r_move (gq 1 rfl)) (oc (ob_sto rfl rfl rfl (vq 0 rfl) ty_28 (Eq.trans (b:=16) rfl rfl)) (zv rfl rfl (r_assign (vq 1 rfl)) o0)))) (fun a w hst=>?_)
  have hst:St B w0 20 [(3,_)] [⟨1,28,ptrH,_⟩,⟨2,28,ptrH,_⟩] a w:=hst
  refine thn_normal ?_
  refine wp_ret ?_
  refine thn_ret ?_
  refine ret_wk ?_ (ret_many (rs:=[.cell 2 28,.tmp 3]) rfl hst (.cell (zm 1 rfl) ty_28 (.tmp (zm 0 rfl) .nil)) zd)
  rw [asm_lo hl]; exact tu2w wk_id (wk_eq (by rw [if_pos hl]))
 ·have hl:=as_no hb0
  refine wp_skip ?_
  refine zt ?_
  refine gl (sts:=[none,some (1,_)]) (news:=[]) (sp:=[.val 19 _,.sto 1,.val 3 _]) [.o 2] hst (zv rfl rfl (r_load (lz0 0 rfl) ty_28) (oc (ob_sto rfl rfl rfl (vq 0 rfl) ty_28 (Eq.trans (b:=16) rfl rfl)) (zv rfl rfl (r_assign has_num) o0))) (fun a w hst=>?_)
  have hst:St B w0 20 [(3,_)] [⟨1,28,ptrH,_⟩,⟨2,28,ptrH,_⟩] a w:=hst
  refine thn_normal ?_
  refine wp_ret ?_
  refine ret_wk ?_ (ret_many (rs:=[.cell 2 28,.tmp 3]) rfl hst (.cell (zm 1 rfl) ty_28 (.tmp (zm 0 rfl) .nil)) zd)
  rw [asm_ok hl]; exact tu2w qmA.va wk_id
def miQ (p:Rat):MQ:=⟨1,0,0 - (p+p),1⟩
def spQ (l:Rat):MQ:=⟨1,l+0,0,1⟩
theorem half_e {p l:Rat}:mulQ (spQ l) (miQ p)=halfQ p l:=by
 unfold mulQ spQ miQ halfQ
 simp only [MQ.mk.injEq]
 exact ⟨by grind,by grind,by grind,by grind⟩
theorem r2sgn_l {p q l:RF} (h:[p,q,l].all okX=true):Cn Tryz.prog 165 [(RFA l).va] (In (toQ l).num.sign):=by
 simp only [List.all_cons,List.all_nil,Bool.and_true,Bool.and_eq_true] at h
 exact r2sign_q.wk (.cons (qa_x h.2.2 (Nat.le_refl 2048)).va .nil)
theorem r12may_c (p q l:RF):Cn Tryz.prog 195 [(RFA p).va,(RFA q).va,(RFA l).va] (Bo (mayP p q l)):=by
 refine Cn.intro Tryz.func195 rfl zk nq (fun B w0 a hst=>?_)
 have hst:St B w0 17 [(0,(RFA p).va),(1,(RFA q).va),(2,(RFA l).va)] [] a w0.w:=hst
 refine wp_seq ?_
 refine gl (sts:=[]) (news:=[⟨3,26,ptrH,some 0,_,none⟩,⟨4,26,ptrH,some 1,_,none⟩,⟨5,26,ptrH,some 2,_,none⟩]) (sp:=[.alc 0,.alc 1,.alc 2,.val 6 _]) [.o 3] hst (oc (ob_box rfl rfl rfl (gq 0 rfl)) (oc (ob_box rfl rfl rfl (gq 1 rfl)) (oc (ob_box rfl rfl rfl (gq 2 rfl)) (zv rfl rfl (r_assign has_bo) o0)))) (fun a w hst=>?_)
 have hst:St B w0 17 [(6,_)] [⟨3,26,ptrH,_⟩,⟨4,26,ptrH,_⟩,⟨5,26,ptrH,_⟩] a w:=hst
 refine zt ?_
 refine gl (sts:=[none,none,none]) (news:=[]) (sp:=[.val 7 _,.val 8 _,.val 9 _,.val 10 _,.val 11 _,.val 12 _,.val 13 (Wh (_=true) _),.val 14 (Wh (_=true) _),.val 15 (Wh (_=true) _),.val 16 _,.val 6 _]) [.o 10] hst (zv rfl rfl (r_load (lz0 0 rfl) ty_26) (zv rfl rfl (r_load (lz0 1 rfl) ty_26) (zv rfl rfl (r_load (lz0 2 rfl) ty_26) (zv rfl rfl (r_slice (D:=[U32]) (l:=[_,_,_]) (xs:=[.tmp 7,.tmp 8,.tmp 9]) (nd_ok zk) sl_142 zk (n_ok zk) nq nq nq (.cons (vq 0 rfl) (.cons (vq 1 rfl) (.cons (vq 2 rfl) .nil))) rfl rfl) (zv rfl rfl (r_call (xs:=[.tmp 10]) (r2checks_c [p,q,l] nq) (.cons (vq 3 rfl) .nil)) (zv rfl rfl (r_move (vq 4 rfl)) (oc (ob_gd rfl rfl rfl (vq 5 rfl) nq (fun hg=>r_load (lz0 2 rfl) ty_26)) (oc (ob_gd rfl rfl rfl (vq 5 rfl) nq (fun hg=>r_call (xs:=[.tmp 13]) (r2sgn_l hg) (.cons (has_wh (vq 6 rfl) hg) .nil))) (oc (ob_gd rfl rfl rfl (vq 5 rfl) nq (fun hg=>r_geq (has_wh (vq 7 rfl) hg) has_num)) (zv rfl rfl (r_and (vq 5 rfl) (vq 8 rfl)) (zv rfl rfl (r_assign (vq 9 rfl)) o0))))))))))) (fun a w hst=>?_)
 have hst:St B w0 17 [(6,_)] [⟨3,26,ptrH,_⟩,⟨4,26,ptrH,_⟩,⟨5,26,ptrH,_⟩] a w:=hst
 refine thn_normal ?_
 refine wp_ret ?_
 refine ret_wk ?_ (ret_tmp rfl hst (zm 0 rfl))
 exact wk_id
theorem r12mirror_q {p:Rat}:Cn Tryz.prog 198 [Qs 2048 p] ((QMA 4100 (miQ p)).va):=by
 refine Cn.intro Tryz.func198 rfl zk nq (fun B w0 a hst=>?_)
 have hst:St B w0 12 [(0,Qs 2048 p)] [] a w0.w:=hst
 refine wp_seq ?_
 refine gl (sts:=[]) (news:=[⟨1,26,ptrH,some 0,_,none⟩,⟨2,28,ptrH,some 1,_,none⟩]) (sp:=[.alc 0,.alc 1]) [] hst (oc (ob_box rfl rfl rfl (gq 0 rfl)) (oc (ob_alc rfl rfl rfl (Str.zero str_matrix)) o0)) (fun a w hst=>?_)
 have hst:St B w0 12 [] [⟨1,26,ptrH,_⟩,⟨2,28,ptrH,_⟩] a w:=hst
 refine zt ?_
 refine go_draw (anc:=[[],[0],[0,1],[],[],[0,1,2,3,4],[0,1,2,3,4,5],[0,1,2,3,4,5,6],[0,1,2,3,4,5,6,7],[0,1,2,3,4,5,6,7,8]]) (sts:=[none,some (9,_)]) (news:=[]) (sp:=[.val 3 _,.val 4 _,.val 5 _,.val 6 _,.val 7 _,.val 8 _,.val 9 _,.val 10 _,.val 11 _,.sto 1]) [] follows_mixed hst (zv rfl rfl (r_call (xs:=[]) r2one_q .nil) (zv rfl rfl (r_call (xs:=[]) r2nought_q .nil) (zv rfl rfl (r_call (xs:=[]) r2nought_q .nil) (zv rfl rfl (r_load (lz0 0 rfl) ty_26) (zv rfl rfl (r_load (lz0 0 rfl) ty_26) (zv rfl rfl (r_call (xs:=[.tmp 6,.tmp 7]) (r2plus_q zo) (.cons (vq 3 rfl) (.cons (vq 4 rfl) .nil))) (zv rfl rfl (r_call (xs:=[.tmp 5,.tmp 8]) (r2minus_q zo) (.cons (vq 2 rfl) (.cons (vq 5 rfl) .nil))) (zv rfl rfl (r_call (xs:=[]) r2one_q .nil) (zv rfl rfl (r_build (xs:=[(0,.tmp 3),(1,.tmp 4),(2,.tmp 9),(3,.tmp 10)]) (qs:=[(0,_),(1,_),(2,_),(3,_)]) str_matrix (.cons ⟨rfl,(vq 0 rfl),rfl⟩ (.cons ⟨rfl,(vq 1 rfl),rfl⟩ (.cons ⟨rfl,(vq 6 rfl),rfl⟩ (.cons ⟨rfl,(vq 7 rfl),rfl⟩ .nil))))) (oc (ob_sto rfl rfl rfl (vq 8 rfl) ty_28 (Eq.trans (b:=16) rfl rfl)) o0)))))))))) zk zk zk zk (fun a w hst=>?_)
 have hst:St B w0 12 [] [⟨1,26,ptrH,_⟩,⟨2,28,ptrH,_⟩] a w:=hst
 refine thn_normal ?_
 refine wp_ret ?_
 refine ret_wk ?_ (ret_cell rfl hst (zm 1 rfl) ty_28)
 exact (cat_wk (.cons (qa_mono zd) (.cons (qa_mono zd) (.cons (qa_mono zd) (.cons (qa_mono zd) .nil))))).va
theorem r12space_q {l:Rat}:Cn Tryz.prog 197 [Qs 2048 l] ((QMA 2051 (spQ l)).va):=by
 refine Cn.intro Tryz.func197 rfl zk nq (fun B w0 a hst=>?_)
 have hst:St B w0 10 [(0,Qs 2048 l)] [] a w0.w:=hst
 refine wp_seq ?_
 refine gl (sts:=[]) (news:=[⟨1,26,ptrH,some 0,_,none⟩,⟨2,28,ptrH,some 1,_,none⟩]) (sp:=[.alc 0,.alc 1]) [] hst (oc (ob_box rfl rfl rfl (gq 0 rfl)) (oc (ob_alc rfl rfl rfl (Str.zero str_matrix)) o0)) (fun a w hst=>?_)
 have hst:St B w0 10 [] [⟨1,26,ptrH,_⟩,⟨2,28,ptrH,_⟩] a w:=hst
 refine zt ?_
 refine go_draw (anc:=[[],[],[0],[0,1,2],[0,1,2,3],[0,1,2,3,4],[0,1,2,3,4,5],[0,1,2,3,4,5,6]]) (sts:=[none,some (7,_)]) (news:=[]) (sp:=[.val 3 _,.val 4 _,.val 5 _,.val 6 _,.val 7 _,.val 8 _,.val 9 _,.sto 1]) [] follows_mixed hst (zv rfl rfl (r_call (xs:=[]) r2one_q .nil) (zv rfl rfl (r_load (lz0 0 rfl) ty_26) (zv rfl rfl (r_call (xs:=[]) r2nought_q .nil) (zv rfl rfl (r_call (xs:=[.tmp 4,.tmp 5]) (r2plus_q zo) (.cons (vq 1 rfl) (.cons (vq 2 rfl) .nil))) (zv rfl rfl (r_call (xs:=[]) r2nought_q .nil) (zv rfl rfl (r_call (xs:=[]) r2one_q .nil) (zv rfl rfl (r_build (xs:=[(0,.tmp 3),(1,.tmp 6),(2,.tmp 7),(3,.tmp 8)]) (qs:=[(0,_),(1,_),(2,_),(3,_)]) str_matrix (.cons ⟨rfl,(vq 0 rfl),rfl⟩ (.cons ⟨rfl,(vq 3 rfl),rfl⟩ (.cons ⟨rfl,(vq 4 rfl),rfl⟩ (.cons ⟨rfl,(vq 5 rfl),rfl⟩ .nil))))) (oc (ob_sto rfl rfl rfl (vq 6 rfl) ty_28 (Eq.trans (b:=16) rfl rfl)) o0)))))))) zk zk zk zk (fun a w hst=>?_)
 have hst:St B w0 10 [] [⟨1,26,ptrH,_⟩,⟨2,28,ptrH,_⟩] a w:=hst
 refine thn_normal ?_
 refine wp_ret ?_
 refine ret_wk ?_ (ret_cell rfl hst (zm 1 rfl) ty_28)
 exact (cat_wk (.cons (qa_mono zd) (.cons (qa_mono zd) (.cons (qa_mono zd) (.cons (qa_mono zd) .nil))))).va
theorem r12two_c (p q l:RF):Cn Tryz.prog 55 [(RFA p).va,(RFA q).va,(RFA l).va] (MR (twoF p q l)):=by
 refine Cn.intro Tryz.func55 rfl zk nq (fun B w0 a hst=>?_)
 have hst:St B w0 32 [(0,(RFA p).va),(1,(RFA q).va),(2,(RFA l).va)] [] a w0.w:=hst
 refine wp_seq ?_
 refine gl (sts:=[]) (news:=[⟨3,26,ptrH,some 0,_,none⟩,⟨4,26,ptrH,some 1,_,none⟩,⟨5,26,ptrH,some 2,_,none⟩,⟨6,28,ptrH,some 3,_,none⟩]) (sp:=[.alc 0,.alc 1,.alc 2,.alc 3,.val 7 _]) [.o 4] hst (oc (ob_box rfl rfl rfl (gq 0 rfl)) (oc (ob_box rfl rfl rfl (gq 1 rfl)) (oc (ob_box rfl rfl rfl (gq 2 rfl)) (oc (ob_alc rfl rfl rfl (Str.zero str_matrix)) (zv rfl rfl (r_assign has_num) o0))))) (fun a w hst=>?_)
 have hst:St B w0 32 [(7,_)] [⟨3,26,ptrH,_⟩,⟨4,26,ptrH,_⟩,⟨5,26,ptrH,_⟩,⟨6,28,ptrH,_⟩] a w:=hst
 refine zt ?_
 refine wp_seq ?_
 refine gl (sts:=[none,none,none,none]) (news:=[]) (sp:=[.val 10 _,.val 11 _,.val 12 _,.val 13 _,.val 14 _]) [.g 0,.o 4] hst (zv rfl rfl (r_load (lz0 0 rfl) ty_26) (zv rfl rfl (r_load (lz0 1 rfl) ty_26) (zv rfl rfl (r_load (lz0 2 rfl) ty_26) (zv rfl rfl (r_call (xs:=[.tmp 10,.tmp 11,.tmp 12]) (r12may_c p q l) (.cons (vq 0 rfl) (.cons (vq 1 rfl) (.cons (vq 2 rfl) .nil)))) (zv rfl rfl (r_not (vq 3 rfl)) o0))))) (fun a w hst=>?_)
 have hst:St B w0 32 [(7,_),(14,_)] [⟨3,26,ptrH,_⟩,⟨4,26,ptrH,_⟩,⟨5,26,ptrH,_⟩,⟨6,28,ptrH,_⟩] a w:=hst
 refine thn_normal ?_
 refine cond_of hst (zm 1 rfl) (fun hb0=>?_) (fun hb0=>?_)
 ·rw [Bool.not_eq_true'] at hb0
  refine wp_seq ?_
  refine gl (sts:=[none,none,none,some (1,_)]) (news:=[]) (sp:=[.val 15 _,.sto 3,.val 7 _]) [.o 2] hst (zv rfl rfl (r_build (xs:=[]) (qs:=[]) str_matrix .nil) (oc (ob_sto rfl rfl rfl (vq 0 rfl) ty_28 (Eq.trans (b:=16) rfl rfl)) (zv rfl rfl (r_assign has_num) o0))) (fun a w hst=>?_)
  have hst:St B w0 32 [(7,_)] [⟨3,26,ptrH,_⟩,⟨4,26,ptrH,_⟩,⟨5,26,ptrH,_⟩,⟨6,28,ptrH,_⟩] a w:=hst
  refine thn_normal ?_
  refine wp_ret ?_
  refine thn_ret ?_
  refine ret_wk ?_ (ret_many (rs:=[.cell 6 28,.tmp 7]) rfl hst (.cell (zm 3 rfl) ty_28 (.tmp (zm 0 rfl) .nil)) zd)
  rw [twoF,if_neg (by rw [hb0]; decide)]; exact wk_id
 ·rw [Bool.not_eq_false'] at hb0
  obtain ⟨h1,h2,h3⟩:=mayP_q hb0
  have hst:=St.wkL hst 0 rfl h1
  have hst:=St.wkL hst 1 rfl h2
  have hst:=St.wkL hst 2 rfl h3
  refine wp_skip ?_
  refine zt ?_
  refine go_draw (anc:=[[],[0],[],[0,1,2],[0,1,2,3],[],[0,1,2,3,4,5]]) (sts:=[none,none,none,none]) (news:=[⟨8,28,ptrH,some 5,_,some (6,_)⟩]) (sp:=[.val 16 _,.val 17 _,.val 18 _,.val 19 _,.val 20 _,.alc 4,.sto 4]) [.g 0] follows_mixed hst (zv rfl rfl (r_load (lz0 2 rfl) ty_26) (zv rfl rfl (r_call (xs:=[.tmp 16]) r12space_q (.cons (vq 0 rfl) .nil)) (zv rfl rfl (r_load (lz0 0 rfl) ty_26) (zv rfl rfl (r_call (xs:=[.tmp 18]) r12mirror_q (.cons (vq 2 rfl) .nil)) (zv rfl rfl (r_call (xs:=[.tmp 17,.tmp 19]) (r9times_q (m:=spQ (toQ l)) (q:=miQ (toQ p)) zd) (.cons (vq 1 rfl) (.cons (vq 3 rfl) .nil))) (oc (ob_alc rfl rfl rfl (Str.zero str_matrix)) (oc (ob_sto rfl rfl rfl (vq 4 rfl) ty_28 (Eq.trans (b:=16) rfl rfl)) o0))))))) zk zk zk zk (fun a w hst=>?_)
  have hst:St B w0 32 [(7,_)] [⟨3,26,ptrH,_⟩,⟨4,26,ptrH,_⟩,⟨5,26,ptrH,_⟩,⟨6,28,ptrH,_⟩,⟨8,28,ptrH,_⟩] a w:=hst
  refine zt ?_
  refine go_draw (anc:=[[],[0],[],[0,1,2],[0,1,2,3],[],[0,1,2,3,4,5]]) (sts:=[none,none,none,none,none]) (news:=[⟨9,28,ptrH,some 5,_,some (6,_)⟩]) (sp:=[.val 21 _,.val 22 _,.val 23 _,.val 24 _,.val 25 _,.alc 5,.sto 5]) [.g 0] follows_mixed hst (zv rfl rfl (r_load (lz0 2 rfl) ty_26) (zv rfl rfl (r_call (xs:=[.tmp 21]) r12space_q (.cons (vq 0 rfl) .nil)) (zv rfl rfl (r_load (lz0 1 rfl) ty_26) (zv rfl rfl (r_call (xs:=[.tmp 23]) r12mirror_q (.cons (vq 2 rfl) .nil)) (zv rfl rfl (r_call (xs:=[.tmp 22,.tmp 24]) (r9times_q (m:=spQ (toQ l)) (q:=miQ (toQ q)) zd) (.cons (vq 1 rfl) (.cons (vq 3 rfl) .nil))) (oc (ob_alc rfl rfl rfl (Str.zero str_matrix)) (oc (ob_sto rfl rfl rfl (vq 4 rfl) ty_28 (Eq.trans (b:=16) rfl rfl)) o0))))))) zk zk zk zk (fun a w hst=>?_)
  have hst:St B w0 32 [(7,_)] [⟨3,26,ptrH,_⟩,⟨4,26,ptrH,_⟩,⟨5,26,ptrH,_⟩,⟨6,28,ptrH,_⟩,⟨8,28,ptrH,_⟩,⟨9,28,ptrH,_⟩] a w:=hst
  refine zt ?_
  refine gl (sts:=[none,none,none,some (6,_),none,none]) (news:=[]) (sp:=[.val 26 _,.val 27 _,.val 28 _,.val 29 _,.val 30 _,.val 31 _,.sto 3,.val 7 _]) [.o 7] hst (zv rfl rfl (r_load (lz0 5 rfl) ty_28) (zv rfl rfl (r_load (lz0 4 rfl) ty_28) (zv rfl rfl (r_call (xs:=[.tmp 26,.tmp 27]) (r9times_q (m:=mulQ (spQ (toQ l)) (miQ (toQ q))) (q:=mulQ (spQ (toQ l)) (miQ (toQ p))) zd) (.cons (vq 0 rfl) (.cons (vq 1 rfl) .nil))) (zv rfl rfl (r_call (xs:=[.tmp 28]) (r9answer_q (m:=mulQ (mulQ (spQ (toQ l)) (miQ (toQ q))) (mulQ (spQ (toQ l)) (miQ (toQ p)))) zd) (.cons (vq 2 rfl) .nil)) (zv rfl rfl (r_ex0 (vq 3 rfl)) (zv rfl rfl (r_ex1 (vq 3 rfl)) (oc (ob_sto rfl rfl rfl (vq 4 rfl) ty_28 (Eq.trans (b:=16) rfl rfl)) (zv rfl rfl (r_assign (vq 5 rfl)) o0)))))))) (fun a w hst=>?_)
  have hst:St B w0 32 [(7,_)] [⟨3,26,ptrH,_⟩,⟨4,26,ptrH,_⟩,⟨5,26,ptrH,_⟩,⟨6,28,ptrH,_⟩,⟨8,28,ptrH,_⟩,⟨9,28,ptrH,_⟩] a w:=hst
  refine thn_normal ?_
  refine wp_ret ?_
  refine ret_wk ?_ (ret_many (rs:=[.cell 6 28,.tmp 7]) rfl hst (.cell (zm 3 rfl) ty_28 (.tmp (zm 0 rfl) .nil)) zd)
  rw [twoF,if_pos hb0,← half_e,← half_e]; exact wk_id
theorem r12factors_c (p q l:RF):Cn Tryz.prog 56 [(RFA p).va,(RFA q).va,(RFA l).va] (FcR (facF p q l)):=by
 refine Cn.intro Tryz.func56 rfl zk nq (fun B w0 a hst=>?_)
 have hst:St B w0 40 [(0,(RFA p).va),(1,(RFA q).va),(2,(RFA l).va)] [] a w0.w:=hst
 refine wp_seq ?_
 refine gl (sts:=[]) (news:=[⟨3,26,ptrH,some 0,_,none⟩,⟨4,26,ptrH,some 1,_,none⟩,⟨5,26,ptrH,some 2,_,none⟩,⟨6,26,ptrH,some 3,_,none⟩,⟨7,26,ptrH,some 4,_,none⟩]) (sp:=[.alc 0,.alc 1,.alc 2,.alc 3,.alc 4,.val 8 _]) [.o 5] hst (oc (ob_box rfl rfl rfl (gq 0 rfl)) (oc (ob_box rfl rfl rfl (gq 1 rfl)) (oc (ob_box rfl rfl rfl (gq 2 rfl)) (oc (ob_alc rfl rfl rfl (Str.zero str_frac)) (oc (ob_alc rfl rfl rfl (Str.zero str_frac)) (zv rfl rfl (r_assign has_num) o0)))))) (fun a w hst=>?_)
 have hst:St B w0 40 [(8,_)] [⟨3,26,ptrH,_⟩,⟨4,26,ptrH,_⟩,⟨5,26,ptrH,_⟩,⟨6,26,ptrH,_⟩,⟨7,26,ptrH,_⟩] a w:=hst
 refine zt ?_
 refine wp_seq ?_
 refine gl (sts:=[none,none,none,none,none]) (news:=[]) (sp:=[.val 12 _,.val 13 _,.val 14 _,.val 15 _,.val 16 _]) [.g 0,.o 4] hst (zv rfl rfl (r_load (lz0 0 rfl) ty_26) (zv rfl rfl (r_load (lz0 1 rfl) ty_26) (zv rfl rfl (r_load (lz0 2 rfl) ty_26) (zv rfl rfl (r_call (xs:=[.tmp 12,.tmp 13,.tmp 14]) (r12may_c p q l) (.cons (vq 0 rfl) (.cons (vq 1 rfl) (.cons (vq 2 rfl) .nil)))) (zv rfl rfl (r_not (vq 3 rfl)) o0))))) (fun a w hst=>?_)
 have hst:St B w0 40 [(8,_),(16,_)] [⟨3,26,ptrH,_⟩,⟨4,26,ptrH,_⟩,⟨5,26,ptrH,_⟩,⟨6,26,ptrH,_⟩,⟨7,26,ptrH,_⟩] a w:=hst
 refine thn_normal ?_
 refine cond_of hst (zm 1 rfl) (fun hb0=>?_) (fun hb0=>?_)
 ·rw [Bool.not_eq_true'] at hb0
  refine wp_seq ?_
  refine gl (sts:=[none,none,none,some (2,_),some (3,_)]) (news:=[]) (sp:=[.val 17 _,.val 18 _,.sto 3,.sto 4,.val 8 _]) [.o 4] hst (zv rfl rfl (r_build (xs:=[]) (qs:=[]) str_frac .nil) (zv rfl rfl (r_build (xs:=[]) (qs:=[]) str_frac .nil) (oc (ob_sto rfl rfl rfl (vq 0 rfl) ty_26 (Eq.trans (b:=4) rfl rfl)) (oc (ob_sto rfl rfl rfl (vq 1 rfl) ty_26 (Eq.trans (b:=4) rfl rfl)) (zv rfl rfl (r_assign has_num) o0))))) (fun a w hst=>?_)
  have hst:St B w0 40 [(8,_)] [⟨3,26,ptrH,_⟩,⟨4,26,ptrH,_⟩,⟨5,26,ptrH,_⟩,⟨6,26,ptrH,_⟩,⟨7,26,ptrH,_⟩] a w:=hst
  refine thn_normal ?_
  refine wp_ret ?_
  refine thn_ret ?_
  refine ret_wk ?_ (ret_many (rs:=[.cell 6 26,.cell 7 26,.tmp 8]) rfl hst (.cell (zm 3 rfl) ty_26 (.cell (zm 4 rfl) ty_26 (.tmp (zm 0 rfl) .nil))) zd)
  rw [facF,if_neg (by rw [hb0]; decide)]; exact wk_id
 ·rw [Bool.not_eq_false'] at hb0
  obtain ⟨h1,h2,h3⟩:=mayP_q hb0
  have hst:=St.wkL hst 0 rfl h1
  have hst:=St.wkL hst 1 rfl h2
  have hst:=St.wkL hst 2 rfl h3
  refine wp_skip ?_
  refine zt ?_
  refine go_draw (anc:=[[],[],[],[0,1,2],[0,1,2,3],[],[0,1,2,3,4,5]]) (sts:=[none,none,none,none,none]) (news:=[⟨9,26,ptrH,some 5,_,some (6,_)⟩]) (sp:=[.val 19 _,.val 20 _,.val 21 _,.val 22 _,.val 23 _,.alc 5,.sto 5]) [.g 0] follows_mixed hst (zv rfl rfl (r_call (xs:=[]) r2one_q .nil) (zv rfl rfl (r_load (lz0 0 rfl) ty_26) (zv rfl rfl (r_load (lz0 2 rfl) ty_26) (zv rfl rfl (r_call (xs:=[.tmp 20,.tmp 21]) (r2times_q zo) (.cons (vq 1 rfl) (.cons (vq 2 rfl) .nil))) (zv rfl rfl (r_call (xs:=[.tmp 19,.tmp 22]) (r2minus_q zo) (.cons (vq 0 rfl) (.cons (vq 3 rfl) .nil))) (oc (ob_alc rfl rfl rfl (Str.zero str_frac)) (oc (ob_sto rfl rfl rfl (vq 4 rfl) ty_26 (Eq.trans (b:=4) rfl rfl)) o0))))))) zk zk zk zk (fun a w hst=>?_)
  have hst:St B w0 40 [(8,_)] [⟨3,26,ptrH,_⟩,⟨4,26,ptrH,_⟩,⟨5,26,ptrH,_⟩,⟨6,26,ptrH,_⟩,⟨7,26,ptrH,_⟩,⟨9,26,ptrH,_⟩] a w:=hst
  refine zt ?_
  refine go_draw (anc:=[[],[],[],[0,1,2],[0,1,2,3],[],[0,1,2,3,4,5]]) (sts:=[none,none,none,none,none,none]) (news:=[⟨10,26,ptrH,some 5,_,some (6,_)⟩]) (sp:=[.val 24 _,.val 25 _,.val 26 _,.val 27 _,.val 28 _,.alc 6,.sto 6]) [.g 0] follows_mixed hst (zv rfl rfl (r_call (xs:=[]) r2one_q .nil) (zv rfl rfl (r_load (lz0 1 rfl) ty_26) (zv rfl rfl (r_load (lz0 2 rfl) ty_26) (zv rfl rfl (r_call (xs:=[.tmp 25,.tmp 26]) (r2times_q zo) (.cons (vq 1 rfl) (.cons (vq 2 rfl) .nil))) (zv rfl rfl (r_call (xs:=[.tmp 24,.tmp 27]) (r2minus_q zo) (.cons (vq 0 rfl) (.cons (vq 3 rfl) .nil))) (oc (ob_alc rfl rfl rfl (Str.zero str_frac)) (oc (ob_sto rfl rfl rfl (vq 4 rfl) ty_26 (Eq.trans (b:=4) rfl rfl)) o0))))))) zk zk zk zk (fun a w hst=>?_)
  have hst:St B w0 40 [(8,_)] [⟨3,26,ptrH,_⟩,⟨4,26,ptrH,_⟩,⟨5,26,ptrH,_⟩,⟨6,26,ptrH,_⟩,⟨7,26,ptrH,_⟩,⟨9,26,ptrH,_⟩,⟨10,26,ptrH,_⟩] a w:=hst
  refine zt ?_
  refine gl (sts:=[none,none,none,none,none,none,none]) (news:=[]) (sp:=[.val 29 _,.val 30 _,.val 31 _,.val 32 _,.val 11 _]) [.g 0,.o 4] hst (zv rfl rfl (r_load (lz0 5 rfl) ty_26) (zv rfl rfl (r_load (lz0 6 rfl) ty_26) (zv rfl rfl (r_slice (D:=[U32]) (l:=[_,_]) (xs:=[.tmp 29,.tmp 30]) (nd_ok zk) sl_142 zk (n_ok zk) nq nq nq (.cons (vq 0 rfl) (.cons (vq 1 rfl) .nil)) rfl rfl) (zv rfl rfl (r_call (xs:=[.tmp 31]) (r2answer_q [(1 - toQ p*toQ l),(1 - toQ q*toQ l)] (.cons ⟨_,rfl⟩ (.cons ⟨_,rfl⟩ .nil)) nq) (.cons (vq 2 rfl) .nil)) (zv rfl rfl (r_assign (vq 3 rfl)) o0))))) (fun a w hst=>?_)
  have hst:St B w0 40 [(8,_),(11,_)] [⟨3,26,ptrH,_⟩,⟨4,26,ptrH,_⟩,⟨5,26,ptrH,_⟩,⟨6,26,ptrH,_⟩,⟨7,26,ptrH,_⟩,⟨9,26,ptrH,_⟩,⟨10,26,ptrH,_⟩] a w:=hst
  refine zt ?_
  refine wp_seq ?_
  refine gl (sts:=[none,none,none,none,none,none,none]) (news:=[]) (sp:=[.val 33 _,.val 34 _]) [.g 0,.g 1,.o 1] hst (zv rfl rfl (r_move (gq 1 rfl)) (zv rfl rfl (r_neq (vq 0 rfl) has_num) o0)) (fun a w hst=>?_)
  have hst:St B w0 40 [(8,_),(11,_),(34,_)] [⟨3,26,ptrH,_⟩,⟨4,26,ptrH,_⟩,⟨5,26,ptrH,_⟩,⟨6,26,ptrH,_⟩,⟨7,26,ptrH,_⟩,⟨9,26,ptrH,_⟩,⟨10,26,ptrH,_⟩] a w:=hst
  refine thn_normal ?_
  refine cond_of hst (zm 2 rfl) (fun hb1=>?_) (fun hb1=>?_)
  ·have hl:=as_yes hb1
   refine wp_seq ?_
   refine gl (sts:=[none,none,none,some (3,_),some (4,_),none,none]) (news:=[]) (sp:=[.val 35 _,.val 36 _,.val 37 _,.sto 3,.sto 4,.val 8 _]) [.o 5] hst (zv rfl rfl (r_build (xs:=[]) (qs:=[]) str_frac .nil) (zv rfl rfl (r_build (xs:=[]) (qs:=[]) str_frac .nil) (zv rfl rfl (r_move (gq 1 rfl)) (oc (ob_sto rfl rfl rfl (vq 0 rfl) ty_26 (Eq.trans (b:=4) rfl rfl)) (oc (ob_sto rfl rfl rfl (vq 1 rfl) ty_26 (Eq.trans (b:=4) rfl rfl)) (zv rfl rfl (r_assign (vq 2 rfl)) o0)))))) (fun a w hst=>?_)
   have hst:St B w0 40 [(8,_)] [⟨3,26,ptrH,_⟩,⟨4,26,ptrH,_⟩,⟨5,26,ptrH,_⟩,⟨6,26,ptrH,_⟩,⟨7,26,ptrH,_⟩,⟨9,26,ptrH,_⟩,⟨10,26,ptrH,_⟩] a w:=hst
   refine thn_normal ?_
   refine wp_ret ?_
   refine thn_ret ?_
   refine ret_wk ?_ (ret_many (rs:=[.cell 6 26,.cell 7 26,.tmp 8]) rfl hst (.cell (zm 3 rfl) ty_26 (.cell (zm 4 rfl) ty_26 (.tmp (zm 0 rfl) .nil))) zd)
   have e:facF p q l=(rf0,rf0,4):=by rw [facF,if_pos hb0,if_pos hl]
   rw [e]; exact tu3w wk_id wk_id (wk_eq (by rw [if_pos hl]))
  ·have hl:=as_no hb1
   refine wp_skip ?_
   refine zt ?_
   refine go_draw (anc:=[[],[],[0],[0,1,2],[0,1,2,3]]) (sts:=[none,none,none,some (2,_),some (3,_),none,none]) (news:=[]) (sp:=[.val 38 _,.val 39 _,.sto 3,.sto 4,.val 8 _]) [.o 4] follows_mixed hst (zv rfl rfl (r_load (lz0 5 rfl) ty_26) (zv rfl rfl (r_load (lz0 6 rfl) ty_26) (oc (ob_sto rfl rfl rfl (vq 0 rfl) ty_26 (Eq.trans (b:=4) rfl rfl)) (oc (ob_sto rfl rfl rfl (vq 1 rfl) ty_26 (Eq.trans (b:=4) rfl rfl)) (zv rfl rfl (r_assign has_num) o0))))) zk zk zk zk (fun a w hst=>?_)
   have hst:St B w0 40 [(8,_)] [⟨3,26,ptrH,_⟩,⟨4,26,ptrH,_⟩,⟨5,26,ptrH,_⟩,⟨6,26,ptrH,_⟩,⟨7,26,ptrH,_⟩,⟨9,26,ptrH,_⟩,⟨10,26,ptrH,_⟩] a w:=hst
   refine thn_normal ?_
   refine wp_ret ?_
   refine ret_wk ?_ (ret_many (rs:=[.cell 6 26,.cell 7 26,.tmp 8]) rfl hst (.cell (zm 3 rfl) ty_26 (.cell (zm 4 rfl) ty_26 (.tmp (zm 0 rfl) .nil))) zd)
   have e:facF p q l=(rfOf (1 - toQ p*toQ l),rfOf (1 - toQ q*toQ l),0):=by rw [facF,if_pos hb0,if_neg hl]
   rw [e]; exact tu3w qaA.va qaA.va wk_id
end Go.Proofs.YthncfchnkjemiaaGreatDoor
namespace Go.Proofs.YthncfchnkjemiaaGreatDoor
open Go Go.RowKit
theorem alive12_c  : Cn Tryz.prog 58 [] (Bo true):=by
 refine Cn.intro Tryz.func58 rfl zk nq (fun B w0 a hst=>?_)
 have hst:St B w0 93 [] [] a w0.w:=hst
 refine wp_seq ?_
 refine gl (sts:=[]) (news:=[]) (sp:=[.val 0 _]) [.o 0] hst (zv rfl rfl (r_assign has_bo) o0) (fun a w hst=>?_)
 have hst:St B w0 93 [(0,_)] [] a w:=hst
 refine zt ?_
 refine gl (sts:=[]) (news:=[⟨1,26,ptrH,some 4,_,some (5,_)⟩]) (sp:=[.val 18 _,.val 17 _,.val 19 _,.val 20 _,.alc 0,.sto 0,.val 2 _]) [.g 0] hst (zv rfl rfl (r_call (xs:=[.const (.int .i64 (1)),.const (.int .i64 (2))]) (ofQ_c zd zd zd zd zd) (.cons has_num (.cons has_num .nil))) (zv rfl rfl (r_move (vq 0 rfl)) (zv rfl rfl (r_ex0 (vq 1 rfl)) (zv rfl rfl (r_ex1 (vq 1 rfl)) (oc (ob_alc rfl rfl rfl (Str.zero str_frac)) (oc (ob_sto rfl rfl rfl (vq 2 rfl) ty_26 (Eq.trans (b:=4) rfl rfl)) (zv rfl rfl (r_assign (vq 3 rfl)) o0))))))) (fun a w hst=>?_)
 have hst:St B w0 93 [(0,_)] [⟨1,26,ptrH,_⟩] a w:=hst
 refine zt ?_
 refine gl (sts:=[none]) (news:=[⟨3,26,ptrH,some 4,_,some (5,_)⟩]) (sp:=[.val 22 _,.val 21 _,.val 23 _,.val 24 _,.alc 1,.sto 1,.val 4 _]) [.g 0] hst (zv rfl rfl (r_call (xs:=[.const (.int .i64 (1)),.const (.int .i64 (1))]) (ofQ_c zd zd zd zd zd) (.cons has_num (.cons has_num .nil))) (zv rfl rfl (r_move (vq 0 rfl)) (zv rfl rfl (r_ex0 (vq 1 rfl)) (zv rfl rfl (r_ex1 (vq 1 rfl)) (oc (ob_alc rfl rfl rfl (Str.zero str_frac)) (oc (ob_sto rfl rfl rfl (vq 2 rfl) ty_26 (Eq.trans (b:=4) rfl rfl)) (zv rfl rfl (r_assign (vq 3 rfl)) o0))))))) (fun a w hst=>?_)
 have hst:St B w0 93 [(0,_)] [⟨1,26,ptrH,_⟩,⟨3,26,ptrH,_⟩] a w:=hst
 refine zt ?_
 refine gl (sts:=[none,none]) (news:=[⟨5,26,ptrH,some 4,_,some (5,_)⟩]) (sp:=[.val 26 _,.val 25 _,.val 27 _,.val 28 _,.alc 2,.sto 2,.val 6 _]) [.g 0] hst (zv rfl rfl (r_call (xs:=[.const (.int .i64 (-1)),.const (.int .i64 (1))]) (ofQ_c zd zd zd zd zd) (.cons has_num (.cons has_num .nil))) (zv rfl rfl (r_move (vq 0 rfl)) (zv rfl rfl (r_ex0 (vq 1 rfl)) (zv rfl rfl (r_ex1 (vq 1 rfl)) (oc (ob_alc rfl rfl rfl (Str.zero str_frac)) (oc (ob_sto rfl rfl rfl (vq 2 rfl) ty_26 (Eq.trans (b:=4) rfl rfl)) (zv rfl rfl (r_assign (vq 3 rfl)) o0))))))) (fun a w hst=>?_)
 have hst:St B w0 93 [(0,_)] [⟨1,26,ptrH,_⟩,⟨3,26,ptrH,_⟩,⟨5,26,ptrH,_⟩] a w:=hst
 refine zt ?_
 refine gl (sts:=[none,none,none]) (news:=[⟨7,26,ptrH,some 4,_,some (5,_)⟩]) (sp:=[.val 30 _,.val 29 _,.val 31 _,.val 32 _,.alc 3,.sto 3,.val 8 _]) [.g 0] hst (zv rfl rfl (r_call (xs:=[.const (.int .i64 (0)),.const (.int .i64 (1))]) (ofQ_c zd zd zd zd zd) (.cons has_num (.cons has_num .nil))) (zv rfl rfl (r_move (vq 0 rfl)) (zv rfl rfl (r_ex0 (vq 1 rfl)) (zv rfl rfl (r_ex1 (vq 1 rfl)) (oc (ob_alc rfl rfl rfl (Str.zero str_frac)) (oc (ob_sto rfl rfl rfl (vq 2 rfl) ty_26 (Eq.trans (b:=4) rfl rfl)) (zv rfl rfl (r_assign (vq 3 rfl)) o0))))))) (fun a w hst=>?_)
 have hst:St B w0 93 [(0,_)] [⟨1,26,ptrH,_⟩,⟨3,26,ptrH,_⟩,⟨5,26,ptrH,_⟩,⟨7,26,ptrH,_⟩] a w:=hst
 refine zt ?_
 refine gl (sts:=[none,none,none,none]) (news:=[⟨9,28,ptrH,some 7,_,some (8,_)⟩]) (sp:=[.val 34 _,.val 35 _,.val 36 _,.val 37 _,.val 33 _,.val 38 _,.val 39 _,.alc 4,.sto 4,.val 10 _]) [.g 0,.o 9] hst (zv rfl rfl (r_load (lz0 0 rfl) ty_26) (zv rfl rfl (r_load (lz0 0 rfl) ty_26) (zv rfl rfl (r_load (lz0 1 rfl) ty_26) (zv rfl rfl (r_call (xs:=[.tmp 34,.tmp 35,.tmp 36]) (two_c _ _ _) (.cons (vq 0 rfl) (.cons (vq 1 rfl) (.cons (vq 2 rfl) .nil)))) (zv rfl rfl (r_move (vq 3 rfl)) (zv rfl rfl (r_ex0 (vq 4 rfl)) (zv rfl rfl (r_ex1 (vq 4 rfl)) (oc (ob_alc rfl rfl rfl (Str.zero str_matrix)) (oc (ob_sto rfl rfl rfl (vq 5 rfl) ty_28 (Eq.trans (b:=16) rfl rfl)) (zv rfl rfl (r_assign (vq 6 rfl)) o0)))))))))) (fun a w hst=>?_)
 have hst:St B w0 93 [(0,_),(10,_)] [⟨1,26,ptrH,_⟩,⟨3,26,ptrH,_⟩,⟨5,26,ptrH,_⟩,⟨7,26,ptrH,_⟩,⟨9,28,ptrH,_⟩] a w:=hst
 refine zt ?_
 refine gl (sts:=[none,none,none,none,none]) (news:=[]) (sp:=[.val 41 _,.val 42 _,.val 40 _,.val 43 _,.val 44 _,.val 11 _,.val 12 _]) [.g 0,.g 1,.o 5,.o 6] hst (zv rfl rfl (r_load (lz0 4 rfl) ty_28) (zv rfl rfl (r_call (xs:=[.tmp 41]) (kind_c _) (.cons (vq 0 rfl) .nil)) (zv rfl rfl (r_move (vq 1 rfl)) (zv rfl rfl (r_ex0 (vq 2 rfl)) (zv rfl rfl (r_ex1 (vq 2 rfl)) (zv rfl rfl (r_assign (vq 3 rfl)) (zv rfl rfl (r_assign (vq 4 rfl)) o0))))))) (fun a w hst=>?_)
 have hst:St B w0 93 [(0,_),(10,_),(11,_),(12,_)] [⟨1,26,ptrH,_⟩,⟨3,26,ptrH,_⟩,⟨5,26,ptrH,_⟩,⟨7,26,ptrH,_⟩,⟨9,28,ptrH,_⟩] a w:=hst
 refine zt ?_
 refine gl (sts:=[none,none,none,none,none]) (news:=[]) (sp:=[.val 46 _,.val 47 _,.val 48 _,.val 49 _,.val 50 _,.val 51 _,.val 45 _,.val 52 _,.val 53 _,.val 13 _,.val 14 _]) [.g 0,.g 1,.g 2,.g 3,.o 9,.o 10] hst (zv rfl rfl (r_load (lz0 2 rfl) ty_26) (zv rfl rfl (r_load (lz0 3 rfl) ty_26) (zv rfl rfl (r_load (lz0 3 rfl) ty_26) (zv rfl rfl (r_load (lz0 2 rfl) ty_26) (zv rfl rfl (r_build (xs:=[(0,.tmp 46),(1,.tmp 47),(2,.tmp 48),(3,.tmp 49)]) (qs:=[(0,_),(1,_),(2,_),(3,_)]) str_matrix (.cons ⟨rfl,(vq 0 rfl),rfl⟩ (.cons ⟨rfl,(vq 1 rfl),rfl⟩ (.cons ⟨rfl,(vq 2 rfl),rfl⟩ (.cons ⟨rfl,(vq 3 rfl),rfl⟩ .nil))))) (zv rfl rfl (r_call (xs:=[.tmp 50]) (kind_c ⟨_,_,_,_⟩) (.cons (vq 4 rfl) .nil)) (zv rfl rfl (r_move (vq 5 rfl)) (zv rfl rfl (r_ex0 (vq 6 rfl)) (zv rfl rfl (r_ex1 (vq 6 rfl)) (zv rfl rfl (r_assign (vq 7 rfl)) (zv rfl rfl (r_assign (vq 8 rfl)) o0))))))))))) (fun a w hst=>?_)
 have hst:St B w0 93 [(0,_),(10,_),(11,_),(12,_),(13,_),(14,_)] [⟨1,26,ptrH,_⟩,⟨3,26,ptrH,_⟩,⟨5,26,ptrH,_⟩,⟨7,26,ptrH,_⟩,⟨9,28,ptrH,_⟩] a w:=hst
 refine zt ?_
 refine gl (sts:=[none,none,none,none,none]) (news:=[]) (sp:=[.val 55 _,.val 56 _,.val 54 _,.val 57 _,.val 58 _,.val 15 _,.val 16 _]) [.g 0,.g 1,.g 2,.g 3,.g 4,.g 5,.o 6] hst (zv rfl rfl (r_build (xs:=[]) (qs:=[]) str_matrix .nil) (zv rfl rfl (r_call (xs:=[.tmp 55]) (kind_c rm0) (.cons (vq 0 rfl) .nil)) (zv rfl rfl (r_move (vq 1 rfl)) (zv rfl rfl (r_ex0 (vq 2 rfl)) (zv rfl rfl (r_ex1 (vq 2 rfl)) (zv rfl rfl (r_assign (vq 3 rfl)) (zv rfl rfl (r_assign (vq 4 rfl)) o0))))))) (fun a w hst=>?_)
 have hst:St B w0 93 [(0,_),(10,_),(11,_),(12,_),(13,_),(14,_),(16,_)] [⟨1,26,ptrH,_⟩,⟨3,26,ptrH,_⟩,⟨5,26,ptrH,_⟩,⟨7,26,ptrH,_⟩,⟨9,28,ptrH,_⟩] a w:=hst
 refine zt ?_
 refine gl (sts:=[none,none,none,none,none]) (news:=[]) (sp:=((.val 59 _:Sp)::(.val 60 _)::(.val 61 _)::(.val 62 (Wh (_=true) _))::(.val 63 (Wh (_=true) _))::(.val 64 _)::(.val 65 _)::(.val 66 (Wh (_=true) _))::(.val 67 (Wh (_=true) _))::(.val 68 _)::(.val 69 _)::(.val 70 (Wh (_=true) _))::(.val 71 (Wh (_=true) _))::(.val 72 _)::(.val 73 _)::(.val 74 (Wh (_=true) _))::(.val 75 (Wh (_=true) _))::(.val 76 _)::(.val 77 _)::(.val 78 (Wh (_=true) _))::(.val 79 (Wh (_=true) _))::(.val 80 _)::(.val 81 _)::(.adr 82 9 (.some 8) (_=true))::(.val 83 (Wh (_=true) _))::(.val 84 (Wh (_=true) _))::(.val 85 (Wh (_=true) _))::(.val 86 _)::(.val 87 _)::(.adr 88 9 (.some 12) (_=true))::(.val 89 (Wh (_=true) _))::(.val 90 (Wh (_=true) _))::(.val 91 (Wh (_=true) _))::(.val 92 _)::(.val 0 _)::[])) [.o 34] hst (zv rfl rfl (r_move (gq 1 rfl)) (zv rfl rfl (r_eql (vq 0 rfl) has_num) (zv rfl rfl (r_move (vq 1 rfl)) (oc (ob_gd rfl rfl rfl (vq 2 rfl) nq (fun hg=>r_move (gq 3 rfl))) (oc (ob_gd rfl rfl rfl (vq 2 rfl) nq (fun hg=>r_eql (has_wh (vq 3 rfl) hg) has_num)) (zv rfl rfl (r_and (vq 2 rfl) (vq 4 rfl)) (zv rfl rfl (r_move (vq 5 rfl)) (oc (ob_gd rfl rfl rfl (vq 6 rfl) nq (fun hg=>r_move (gq 5 rfl))) (oc (ob_gd rfl rfl rfl (vq 6 rfl) nq (fun hg=>r_eql (has_wh (vq 7 rfl) hg) has_num)) (zv rfl rfl (r_and (vq 6 rfl) (vq 8 rfl)) (zv rfl rfl (r_move (vq 9 rfl)) (oc (ob_gd rfl rfl rfl (vq 10 rfl) nq (fun hg=>r_move (gq 2 rfl))) (oc (ob_gd rfl rfl rfl (vq 10 rfl) nq (fun hg=>r_eql (has_wh (vq 11 rfl) hg) has_num)) (zv rfl rfl (r_and (vq 10 rfl) (vq 12 rfl)) (zv rfl rfl (r_move (vq 13 rfl)) (oc (ob_gd rfl rfl rfl (vq 14 rfl) nq (fun hg=>r_move (gq 4 rfl))) (oc (ob_gd rfl rfl rfl (vq 14 rfl) nq (fun hg=>r_eql (has_wh (vq 15 rfl) hg) has_num)) (zv rfl rfl (r_and (vq 14 rfl) (vq 16 rfl)) (zv rfl rfl (r_move (vq 17 rfl)) (oc (ob_gd rfl rfl rfl (vq 18 rfl) nq (fun hg=>r_move (gq 6 rfl))) (oc (ob_gd rfl rfl rfl (vq 18 rfl) nq (fun hg=>r_eql (has_wh (vq 19 rfl) hg) has_num)) (zv rfl rfl (r_and (vq 18 rfl) (vq 20 rfl)) (zv rfl rfl (r_move (vq 21 rfl)) (oc (ob_ag rfl rfl rfl (vq 22 rfl) nq (fun hg=>a_fld (lz0 4 rfl) fld_28_2)) (oc (ob_gd rfl rfl rfl (vq 22 rfl) nq (fun hg=>r_loadf 23 rfl zk hg (lz0 4 rfl) (Sub.part 2 rfl rfl) ty_26)) (oc (ob_gd rfl rfl rfl (vq 22 rfl) nq (fun hg=>r_load (lz0 2 rfl) ty_26)) (oc (ob_gd rfl rfl rfl (vq 22 rfl) nq (fun hg=>r_call (xs:=[.tmp 83,.tmp 84]) (sameFrac_c _ _) (.cons (has_wh (vq 24 rfl) hg) (.cons (has_wh (vq 25 rfl) hg) .nil)))) (zv rfl rfl (r_and (vq 22 rfl) (vq 26 rfl)) (zv rfl rfl (r_move (vq 27 rfl)) (oc (ob_ag rfl rfl rfl (vq 28 rfl) nq (fun hg=>a_fld (lz0 4 rfl) fld_28_3)) (oc (ob_gd rfl rfl rfl (vq 28 rfl) nq (fun hg=>r_loadf 29 rfl zk hg (lz0 4 rfl) (Sub.part 3 rfl rfl) ty_26)) (oc (ob_gd rfl rfl rfl (vq 28 rfl) nq (fun hg=>r_load (lz0 3 rfl) ty_26)) (oc (ob_gd rfl rfl rfl (vq 28 rfl) nq (fun hg=>r_call (xs:=[.tmp 89,.tmp 90]) (sameFrac_c _ _) (.cons (has_wh (vq 30 rfl) hg) (.cons (has_wh (vq 31 rfl) hg) .nil)))) (zv rfl rfl (r_and (vq 28 rfl) (vq 32 rfl)) (zv rfl rfl (r_assign (vq 33 rfl)) o0))))))))))))))))))))))))))))))))))) (fun a w hst=>?_)
 have hst:St B w0 93 [(0,_)] [⟨1,26,ptrH,_⟩,⟨3,26,ptrH,_⟩,⟨5,26,ptrH,_⟩,⟨7,26,ptrH,_⟩,⟨9,28,ptrH,_⟩] a w:=hst
 refine thn_normal ?_
 refine wp_ret ?_
 refine ret_wk ?_ (ret_tmp rfl hst (zm 0 rfl))
 exact wk_eq (congrArg Bo zk)
end Go.Proofs.YthncfchnkjemiaaGreatDoor
namespace Go.Proofs.YthncfchnkjemiaaGreatDoor
open Go Go.RowKit
open Go.ChangeShapes Go.WideShapes Go.ChangeAt
section
variable {H:Type} {enc:TypeId × Value→H} {w:World} {base:Nat} {spare:Nat→Bool} {held:Bool} {fuel:Nat} {cs:List Value} {x:DataW H × List MemPlace}
end
end Go.Proofs.YthncfchnkjemiaaGreatDoor
namespace Go.Proofs.YthncfchnkjemiaaGreatDoor
open Go Go.RowKit
open Go.ChangeShapes Go.WideShapes Go.ChangeAt
def wdI (x:RI):Prop:=x.mag.length≤140737488355328
def wdF (x:RF):Prop:=wdI x.num∧wdI x.den
abbrev Wt {H:Type} (P:Program) (t:TypeId) (d:DataW H):Prop:=∀ n∈d.weights P t,n≤reachBytes
section
variable {H:Type} {enc:TypeId × Value→H} {w:World} {base:Nat} {spare:Nat→Bool} {held:Bool} {fuel:Nat} {cs:List Value} {x:DataW H × List MemPlace}
theorem rb_mg (h:DataW.trod enc Tryz.prog w base spare held fuel 22 cs=some x) (hw:Wt Tryz.prog 22 x.1):∃ l,(MgA l).p w.heap.size cs w∧l.length≤140737488355328:=by
 obtain ⟨l,hl⟩:=rd_mg h
 refine ⟨l,hl,?_⟩
 rcases open_ints Tryz.underlying22 Tryz.underlying168 zk h with ⟨hcs,_⟩ | ⟨a,len,cap,zs,rfl,_,h1,hm,hz,hx,hcell,hwz⟩
 ·subst hcs
  obtain ⟨_,_,A,c,ds,e,_⟩:=hl
  rw [List.length_map] at e
  simp only [List.cons.injEq,Value.slice.injEq,and_true] at e
  omega
 ·obtain ⟨_,_,A,c,ds,e,_⟩:=hl
  rw [List.length_map] at e
  simp only [List.cons.injEq,Value.slice.injEq,and_true] at e
  have h4:Tryz.prog.bytesOf 168=4:=by kernel_rfl
  have:=hw (((lits .u32 (zs.take len):List (DataW H)).length+(lits .u32 (zs.drop len):List (DataW H)).length)*Tryz.prog.bytesOf 168) (by rw [hx]; simp [DataW.weights,Tryz.underlying22,lits])
  rw [h4] at this
  simp only [lits,List.length_map,List.length_take,List.length_drop] at this
  have hlen:len≤zs.length:=by rw [hz]; split <;> omega
  unfold reachBytes at this
  omega
theorem rb_part {P:Program} {t:TypeId} {fs:Array Field} (ht:P.underlying t=some (.struct fs)) (h:DataW.trod enc P w base spare held fuel t cs=some x) (hw:Wt P t x.1) (j:Nat) {f:Field} (hf:fs[j]?=some f) :
  ∃ n y,DataW.trod enc P w base spare held n f.type ((cs.drop f.offset).take (P.cellsOf f.type))=some y∧Wt P f.type y.1:=by
 obtain ⟨xs,n,_,hx,_,hlen,hel⟩:=DataW.trod_struct ht h
 have hj:j<fs.size:=(Array.getElem?_eq_some_iff.1 hf).1
 have h1:=hel j f hf
 rw [List.getElem?_eq_getElem zo] at h1
 refine ⟨n,_,h1,fun k hk=>hw k ?_⟩
 rw [hx]
 simp only [DataW.weights,ht]
 exact DataW.weights_mem_each (j:=j) (by rw [List.getElem?_map]; show (fs.toList[j]?).map _=_; rw [Array.getElem?_toList,hf]; rfl) (by rw [List.getElem?_map,List.getElem?_eq_getElem zo]; rfl) k hk
theorem rb_ri (h:DataW.trod enc Tryz.prog w base spare held fuel 24 cs=some x) (hw:Wt Tryz.prog 24 x.1):∃ y,(RIA y).p w.heap.size cs w∧wdI y:=by
 have hl:cs.length=2:=by
  obtain ⟨_,_,_,_,hl,_,_⟩:=DataW.trod_struct Tryz.underlying24 h
  exact hl.trans zk
 obtain ⟨n0,y0,h0,w0⟩:=rb_part Tryz.underlying24 h hw 0 rfl
 have c0:Tryz.prog.cellsOf 4=1:=by kernel_rfl
 have h0:DataW.trod enc Tryz.prog w base spare held n0 4 ((cs.drop 0).take (Tryz.prog.cellsOf 4))=some y0:=h0
 rw [c0] at h0
 obtain ⟨a0,q0⟩:=rd_bo h0
 obtain ⟨n1,y1,h1,w1⟩:=rb_part Tryz.underlying24 h hw 1 rfl
 have c1:Tryz.prog.cellsOf 22=1:=by kernel_rfl
 have h1:DataW.trod enc Tryz.prog w base spare held n1 22 ((cs.drop 1).take (Tryz.prog.cellsOf 22))=some y1:=h1
 rw [c1] at h1
 obtain ⟨a1,q1,b1⟩:=rb_mg h1 w1
 exact ⟨⟨a0,a1⟩,cat_two q0 q1 hl,b1⟩
theorem rb_rf (h:DataW.trod enc Tryz.prog w base spare held fuel 26 cs=some x) (hw:Wt Tryz.prog 26 x.1):∃ y,(RFA y).p w.heap.size cs w∧wdF y:=by
 have hl:cs.length=4:=by
  obtain ⟨_,_,_,_,hl,_,_⟩:=DataW.trod_struct Tryz.underlying26 h
  exact hl.trans zk
 obtain ⟨n0,y0,h0,w0⟩:=rb_part Tryz.underlying26 h hw 0 rfl
 have c0:Tryz.prog.cellsOf 24=2:=by kernel_rfl
 have h0:DataW.trod enc Tryz.prog w base spare held n0 24 ((cs.drop 0).take (Tryz.prog.cellsOf 24))=some y0:=h0
 rw [c0] at h0
 obtain ⟨a0,q0,b0⟩:=rb_ri h0 w0
 obtain ⟨n1,y1,h1,w1⟩:=rb_part Tryz.underlying26 h hw 1 rfl
 have c1:Tryz.prog.cellsOf 24=2:=by kernel_rfl
 have h1:DataW.trod enc Tryz.prog w base spare held n1 24 ((cs.drop 2).take (Tryz.prog.cellsOf 24))=some y1:=h1
 rw [c1] at h1
 obtain ⟨a1,q1,b1⟩:=rb_ri h1 w1
 exact ⟨⟨a0,a1⟩,cat_two q0 q1 hl,⟨b0,b1⟩⟩
theorem arg_ofB {P:Program} {α:Type} {A:α→As} {bd:α→Prop} {t:TypeId} {fs:Array Field} {r:Reach} {b0:Nat} {v:Value} {d:DataW H} {p:List MemPlace} (hag:∀ y,(A y).ag=true) (ht:P.underlying t=some (.struct fs))
  (rd:∀ {fuel:Nat} {cs:List Value} {x:DataW H × List MemPlace},DataW.trod enc P w base spare held fuel t cs=some x→Wt P t x.1→∃ y,(A y).p w.heap.size cs w∧bd y)
  (hv:Value.okWide P w r b0 t v) (h:DataW.Trod enc P w base spare held t v d p) (hw:Wt P t d):∃ y,(A y).va.p w.heap.size v w∧bd y:=by
 obtain ⟨cs,hcs,_⟩:=okWide_struct ht hv
 subst hcs
 obtain ⟨fuel,hf⟩:=h
 obtain ⟨y,hy,hb⟩:=rd hf hw
 refine ⟨y,⟨cs.toList,hy,?_⟩,hb⟩
 unfold shape
 rw [hag y,if_pos rfl]
theorem wt_of {P:Program} {ts:List TypeId} {ds:List (DataW H)} (h:(DataW.weightsEach P ts ds).all (· ≤ reachBytes)=true) (j:Nat) {t:TypeId} {d:DataW H} (ht:ts[j]?=some t) (hd:ds[j]?=some d):Wt P t d:=fun n hn=>by
 have:=List.all_eq_true.1 h n (DataW.weights_mem_each ht hd n hn)
 simpa using this
end
theorem frac_cost {x:RF} (h:wdF x):∃ c:Nat,fracCostF x=(c:Int)∧x.num.mag.length+x.den.mag.length+2≤c∧c≤4503599627370496:=by
 obtain ⟨h1,h2⟩:=h
 unfold wdI at h1 h2
 have e1:intSizeF x.num=((1+x.num.mag.length:Nat):Int):=by unfold intSizeF; rw [wi64 zo zo]; omega
 have e2:intSizeF x.den=((1+x.den.mag.length:Nat):Int):=by unfold intSizeF; rw [wi64 zo zo]; omega
 have e3:fracSizeF x=((2+x.num.mag.length+x.den.mag.length:Nat):Int):=by unfold fracSizeF; rw [e1,e2,wi64 zo zo]; omega
 obtain ⟨u,hu⟩:∃ u:Nat,u=min x.num.mag.length 1048576:=⟨_,rfl⟩
 obtain ⟨v,hv⟩:∃ v:Nat,v=min x.den.mag.length 1048576:=⟨_,rfl⟩
 have hu':min (x.num.mag.length:Int) 1048576=(u:Int):=by omega
 have hv':min (x.den.mag.length:Int) 1048576=(v:Int):=by omega
 have huv:u*v≤1048576*1048576:=Nat.mul_le_mul zo zo
 have h16:u*v / 16≤68719476736:=Nat.le_trans (Nat.div_le_div_right huv) zd
 have e4:lowCostF x.num x.den=((u*v / 16*1024:Nat):Int):=by
  unfold lowCostF
  have t1:IntKind.i64.wrap (((u*v:Nat):Int))=((u*v:Nat):Int):=wi64 zo zo
  have t2:(((u*v:Nat):Int)).tdiv 16=((u*v / 16:Nat):Int):=by rw [show (16:Int)=((16:Nat):Int) from rfl,Int.tdiv_eq_ediv_of_nonneg zo,← Int.natCast_ediv]
  have t3:IntKind.i64.wrap (((u*v / 16:Nat):Int))=((u*v / 16:Nat):Int):=wi64 zo zo
  rw [hu',hv',← Int.natCast_mul,t1,t2,t3,wi64 zo zo]
  omega
 refine ⟨2+x.num.mag.length+x.den.mag.length+u*v / 16*1024,?_,by omega,by omega⟩
 unfold fracCostF
 rw [e3,e4,wi64 zo zo]
 omega
theorem byd_sum {n:Nat} {l:List Nat} (hn:n+l.sum≤9223372036854775807) (h:bydF (n:Int) (l.map fun (x:Nat)=>(x:Int))=false):n≤1048576∨l=[]→n+l.sum≤1048576∨l=[]:=by
 induction l generalizing n with
 | nil=>exact fun _=>.inr rfl
 | cons x l ih =>
  intro _
  simp only [List.sum_cons] at hn
  simp only [List.map_cons,bydF] at h
  rw [wi64 zo zo] at h
  split at h
  ·cases h
  ·rename_i h1
   have h2:n+x≤1048576:=by
    rw [decide_eq_true_eq] at h1
    omega
   rw [show ((n:Int)+(x:Int))=((n+x:Nat):Int) from rfl] at h
   rcases ih (n:=n+x) zo h (.inl h2) with h3 | h3
   ·left; simp only [List.sum_cons]; omega
   ·subst h3; left; simp; omega
theorem byd_0 {l:List Nat} (hn:l.sum≤9223372036854775807) (h:bydF 0 (l.map fun (x:Nat)=>(x:Int))=false):l.sum≤1048576:=by
 rcases byd_sum (n:=0) zo h (.inl zd) with h | h
 ·omega
 ·subst h; decide
end Go.Proofs.YthncfchnkjemiaaGreatDoor
