import Derived.Test.YthncfchnkjemiaaGreatDoorCpAa
import Derived.Test.YthncfchnkjemiaaGreatDoorCpAc
import Derived.Test.YthncfchnkjemiaaGreatDoorCpBb
import Derived.Test.YthncfchnkjemiaaGreatDoorCpBc
set_option linter.unusedVariables false
set_option linter.unusedSimpArgs false
set_option linter.unusedSectionVars false
set_option maxRecDepth 100000
namespace Go.Proofs.YthncfchnkjemiaaGreatDoor
open Go Go.RowKit
theorem nil_frac {B:Nat} {w:World}:(cat [NilI,NilI]).p B ([.bool false,.slice none 0 0,.bool false,.slice none 0 0]:List Value) w:=⟨[[.bool false,.slice none 0 0],[.bool false,.slice none 0 0]],rfl,.cons ⟨[[.bool false],[.slice none 0 0]],rfl,.cons rfl (.cons rfl .nil)⟩ (.cons ⟨[[.bool false],[.slice none 0 0]],rfl,.cons rfl (.cons rfl .nil)⟩ .nil)⟩
abbrev NilF:As:=cat [NilI,NilI]
theorem str_matZ:Str Tryz.prog 28 [NilF,NilF,NilF,NilF] :=
 Str.of (z:=.agg (([.bool false,.slice none 0 0,.bool false,.slice none 0 0]:List Value)++([.bool false,.slice none 0 0,.bool false,.slice none 0 0]:List Value)++([.bool false,.slice none 0 0,.bool false,.slice none 0 0]:List Value)++([.bool false,.slice none 0 0,.bool false,.slice none 0 0]:List Value)).toArray) zk Tryz.underlying28 zk fun B w=>⟨[([.bool false,.slice none 0 0,.bool false,.slice none 0 0]:List Value),([.bool false,.slice none 0 0,.bool false,.slice none 0 0]:List Value),([.bool false,.slice none 0 0,.bool false,.slice none 0 0]:List Value),([.bool false,.slice none 0 0,.bool false,.slice none 0 0]:List Value)],rfl,.cons nil_frac (.cons nil_frac (.cons nil_frac (.cons nil_frac .nil)))⟩
theorem nilF_rfn:WkA NilF (RFN rf0):=⟨rfl,rfl,fun B cs w h=>(zf_rfd.2.2 _ _ _ h).1⟩
theorem nilF_cbl {B:Nat} {cs:List Value} {w:World} (h:NilF.p B cs w):cbl cs=[]:=by rw [nil_cells h]; rfl
theorem cbl_nils {B:Nat} {w:World}:∀ {l:List As} {ps:List (List Value)},(∀ A∈l,A=NilF)→All2 (fun (A:As) c=>A.p B c w) l ps→cbl ps.flatten=[]
 | [],_,_,h=>by cases h; rfl
 | A::l,_,hn,h=>by
  cases h with
  | cons h1 h2 =>
   rw [hn A (by simp)] at h1
   rw [List.flatten_cons,cbl_app,nilF_cbl h1,cbl_nils (fun A' hA=>hn A' (by simp [hA])) h2]
   rfl
theorem zm_rmd:WkA (cat [NilF,NilF,NilF,NilF]) (RMD rm0):=⟨rfl,rfl,fun B cs w h=>by
 have h1:=(cat_wk (.cons nilF_rfn (.cons nilF_rfn (.cons nilF_rfn (.cons nilF_rfn .nil))))).2.2 _ _ _ h
 obtain ⟨ps,e,hp⟩:=h
 refine ⟨h1,?_⟩
 rw [e,cbl_nils (fun A hA=>by simp at hA; exact hA) hp]
 exact List.nodup_nil⟩
abbrev MRD (r:RM × Int):VA:=Tu [(RMD r.1).va,In r.2]
theorem md_pins {u v s t:Value} {k1 k2 k3 k4:Nat} {m:MQ}:WkA (cat [PinA u ((QD k1 m.a).and (SepAll [] u)),PinA v ((QD k2 m.b).and (SepAll [u] v)),PinA s ((QD k3 m.c).and (SepAll [u,v] s)),PinA t ((QD k4 m.d).and (SepAll [u,v,s] t))]) (RMD (rmOf m)) :=
 (dis_pins (l:=[(u,QD k1 m.a),(v,QD k2 m.b),(s,QD k3 m.c),(t,QD k4 m.d)]) (fun y hy=>by
  simp at hy
  rcases hy with rfl | rfl | rfl | rfl <;> exact nod_qd)).trans (dis_mono (cat_wk (.cons qd_rfn (.cons qd_rfn (.cons qd_rfn (.cons qd_rfn .nil))))))
theorem cavMatrixD_q {c:Nat} {m:MQ} (hc:c≤137438953472):Cn Tryz.prog 190 [(QMA c m).va] (MRD (asM 0 m)):=by
 refine Cn.intro Tryz.func190 rfl zk nq (fun B w0 a hst=>?_)
 have hst:St B w0 32 [(0,(QMA c m).va)] [] a w0.w:=hst
 refine wp_seq ?_
 refine gl (sts:=[]) (news:=[⟨1,28,ptrH,some 0,_,none⟩,⟨2,28,ptrH,some 1,_,none⟩]) (sp:=[.alc 0,.alc 1,.val 3 _]) [.o 2] hst (oc (ob_box rfl rfl rfl (gq 0 rfl)) (oc (ob_alc rfl rfl rfl (Str.zero str_matZ)) (zv rfl rfl (r_assign has_num) o0))) (fun a w hst=>?_)
 have hst:St B w0 32 [(3,_)] [⟨1,28,ptrH,_⟩,⟨2,28,ptrH,_⟩] a w:=hst
 refine zt ?_
 refine wp_seq ?_
 refine gl (sts:=[none,none]) (news:=[]) (sp:=[.adr 5 1 (.some 0) True,.val 6 _,.adr 7 1 (.some 4) True,.val 8 _,.adr 9 1 (.some 8) True,.val 10 _,.adr 11 1 (.some 12) True,.val 12 _,.val 13 _,.val 14 _,.val 4 _]) [.g 0,.o 10] hst (oc (ob_a rfl rfl (a_fld (lz0 0 rfl) fld_28_0)) (zv rfl rfl (r_loadf 0 rfl zk trivial (lz0 0 rfl) (Sub.part 0 rfl rfl) ty_26) (oc (ob_a rfl rfl (a_fld (lz0 0 rfl) fld_28_1)) (zv rfl rfl (r_loadf 2 rfl zk trivial (lz0 0 rfl) (Sub.part 1 rfl rfl) ty_26) (oc (ob_a rfl rfl (a_fld (lz0 0 rfl) fld_28_2)) (zv rfl rfl (r_loadf 4 rfl zk trivial (lz0 0 rfl) (Sub.part 2 rfl rfl) ty_26) (oc (ob_a rfl rfl (a_fld (lz0 0 rfl) fld_28_3)) (zv rfl rfl (r_loadf 6 rfl zk trivial (lz0 0 rfl) (Sub.part 3 rfl rfl) ty_26) (zv rfl rfl (r_slice (D:=[U32]) (l:=[_,_,_,_]) (xs:=[.tmp 6,.tmp 8,.tmp 10,.tmp 12]) (nd_ok zk) sl_142 zk (n_ok zk) nq nq nq (.cons (vq 1 rfl) (.cons (vq 3 rfl) (.cons (vq 5 rfl) (.cons (vq 7 rfl) .nil)))) rfl rfl) (zv rfl rfl (r_call (xs:=[.tmp 13]) (cavAnswer_q [m.a,m.b,m.c,m.d] (.cons ⟨_,rfl⟩ (.cons ⟨_,rfl⟩ (.cons ⟨_,rfl⟩ (.cons ⟨_,rfl⟩ .nil)))) nq) (.cons (vq 8 rfl) .nil)) (zv rfl rfl (r_assign (vq 9 rfl)) o0))))))))))) (fun a w hst=>?_)
 have hst:St B w0 32 [(3,_),(4,_)] [⟨1,28,ptrH,_⟩,⟨2,28,ptrH,_⟩] a w:=hst
 refine zt ?_
 refine gl (sts:=[none,none]) (news:=[]) (sp:=[.val 15 _,.val 16 _]) [.g 0,.g 1,.o 1] hst (zv rfl rfl (r_move (gq 1 rfl)) (zv rfl rfl (r_neq (vq 0 rfl) has_num) o0)) (fun a w hst=>?_)
 have hst:St B w0 32 [(3,_),(4,_),(16,_)] [⟨1,28,ptrH,_⟩,⟨2,28,ptrH,_⟩] a w:=hst
 refine thn_normal ?_
 refine cond_of hst (zm 2 rfl) (fun hb0=>?_) (fun hb0=>?_)
 ·have hl:=as_yes hb0
  refine wp_seq ?_
  refine gl (sts:=[none,some (2,_)]) (news:=[]) (sp:=[.val 17 _,.val 18 _,.sto 1,.val 3 _]) [.o 3] hst (zv rfl rfl (r_build (xs:=[]) (qs:=[]) str_matZ .nil) (zv rfl rfl (r_move (gq 1 rfl)) (oc (ob_sto rfl rfl rfl (vq 0 rfl) ty_28 (Eq.trans (b:=16) rfl rfl)) (zv rfl rfl (r_assign (vq 1 rfl)) o0)))) (fun a w hst=>?_)
  have hst:St B w0 32 [(3,_)] [⟨1,28,ptrH,_⟩,⟨2,28,ptrH,_⟩] a w:=hst
  refine thn_normal ?_
  refine wp_ret ?_
  refine thn_ret ?_
  refine ret_wk ?_ (ret_many (rs:=[.cell 2 28,.tmp 3]) rfl hst (.cell (zm 1 rfl) ty_28 (.tmp (zm 0 rfl) .nil)) zd)
  have e:asM 0 m=(rm0,4):=by rw [asM,if_pos rfl,if_pos hl]
  rw [e]; exact tu2w zm_rmd.va (wk_eq (by rw [if_pos hl]))
 ·have hl:=as_no hb0
  refine wp_skip ?_
  refine zt ?_
  refine go_drawV' [[],[0],[0,1],[],[3],[0,1,2,3,4],[],[6],[0,1,2,3,4,5,6,7],[],[9],[0,1,2,3,4,5,6,7,8,9,10],[0,1,2,3,4,5,6,7,8,9,10,11],[0,1,2,3,4,5,6,7,8,9,10,11,12],[0,1,2,3,4,5,6,7,8,9,10,11,12,13]] (sts:=[none,some (13,fun ν=>_)]) (news:=[]) (sp:=[(fun ν=>.adr 19 1 (.some 0) True),(fun ν=>.val 20 _),(fun ν=>.val 21 (PinA (ν 2) ((QD c m.a).and (SepAll [] (ν 2)))).va),(fun ν=>.adr 22 1 (.some 4) True),(fun ν=>.val 23 _),(fun ν=>.val 24 (PinA (ν 5) ((QD c m.b).and (SepAll [ν 2] (ν 5)))).va),(fun ν=>.adr 25 1 (.some 8) True),(fun ν=>.val 26 _),(fun ν=>.val 27 (PinA (ν 8) ((QD c m.c).and (SepAll [ν 2,ν 5] (ν 8)))).va),(fun ν=>.adr 28 1 (.some 12) True),(fun ν=>.val 29 _),(fun ν=>.val 30 (PinA (ν 11) ((QD c m.d).and (SepAll [ν 2,ν 5,ν 8] (ν 11)))).va),(fun ν=>.val 31 _),(fun ν=>.sto 1),(fun ν=>.val 3 _)]) [.o 14] follows_mixed hst ⟨of_u fun ν=>ob_a rfl rfl (a_fld (lz0 0 rfl) fld_28_0),⟨of_u fun ν=>ob_v rfl rfl (r_loadf 0 rfl zk trivial (lz0 0 rfl) (Sub.part 0 rfl rfl) ty_26),⟨of_call (us:=fun ν=>[]) (xs:=[.tmp 20]) rfl rfl (copyD_q hc) new_qd free_qd (.cons upA_qa.va .nil) (fun ν=>(.cons (vq 1 rfl) .nil)) (fun _ _=>rfl) (fun ν=>live_nil),⟨of_u fun ν=>ob_a rfl rfl (a_fld (lz0 0 rfl) fld_28_1),⟨of_u fun ν=>ob_v rfl rfl (r_loadf 3 rfl zk trivial (lz0 0 rfl) (Sub.part 1 rfl rfl) ty_26),⟨of_call (us:=fun ν=>[ν 2]) (xs:=[.tmp 23]) rfl rfl (copyD_q hc) new_qd free_qd (.cons upA_qa.va .nil) (fun ν=>(.cons (vq 4 rfl) .nil)) (fun _ _=>rfl) (fun ν=>(live_cons (new_and new_qd) (vq 2 rfl) live_nil)),⟨of_u fun ν=>ob_a rfl rfl (a_fld (lz0 0 rfl) fld_28_2),⟨of_u fun ν=>ob_v rfl rfl (r_loadf 6 rfl zk trivial (lz0 0 rfl) (Sub.part 2 rfl rfl) ty_26),⟨of_call (us:=fun ν=>[ν 2,ν 5]) (xs:=[.tmp 26]) rfl rfl (copyD_q hc) new_qd free_qd (.cons upA_qa.va .nil) (fun ν=>(.cons (vq 7 rfl) .nil)) (fun _ _=>rfl) (fun ν=>(live_cons (new_and new_qd) (vq 2 rfl) (live_cons (new_and new_qd) (vq 5 rfl) live_nil))),⟨of_u fun ν=>ob_a rfl rfl (a_fld (lz0 0 rfl) fld_28_3),⟨of_u fun ν=>ob_v rfl rfl (r_loadf 9 rfl zk trivial (lz0 0 rfl) (Sub.part 3 rfl rfl) ty_26),⟨of_call (us:=fun ν=>[ν 2,ν 5,ν 8]) (xs:=[.tmp 29]) rfl rfl (copyD_q hc) new_qd free_qd (.cons upA_qa.va .nil) (fun ν=>(.cons (vq 10 rfl) .nil)) (fun _ _=>rfl) (fun ν=>(live_cons (new_and new_qd) (vq 2 rfl) (live_cons (new_and new_qd) (vq 5 rfl) (live_cons (new_and new_qd) (vq 8 rfl) live_nil)))),⟨of_u fun ν=>ob_v rfl rfl (r_build (xs:=[(0,.tmp 21),(1,.tmp 24),(2,.tmp 27),(3,.tmp 30)]) (qs:=[(0,_),(1,_),(2,_),(3,_)]) str_matZ (.cons ⟨rfl,(vq 2 rfl),rfl⟩ (.cons ⟨rfl,(vq 5 rfl),rfl⟩ (.cons ⟨rfl,(vq 8 rfl),rfl⟩ (.cons ⟨rfl,(vq 11 rfl),rfl⟩ .nil))))),⟨of_u fun ν=>ob_sto rfl rfl rfl (vq 12 rfl) ty_28 (Eq.trans (b:=16) rfl rfl),⟨of_u fun ν=>ob_v rfl rfl (r_assign has_num),trivial⟩⟩⟩⟩⟩⟩⟩⟩⟩⟩⟩⟩⟩⟩⟩ ⟨(fun ν ν' h=>rfl),⟨(fun ν ν' h=>rfl),⟨(fun ν ν' h=>by first | rfl | simp only [h 2 rfl]),⟨(fun ν ν' h=>rfl),⟨(fun ν ν' h=>rfl),⟨(fun ν ν' h=>by first | rfl | simp only [h 2 rfl,h 5 rfl]),⟨(fun ν ν' h=>rfl),⟨(fun ν ν' h=>rfl),⟨(fun ν ν' h=>by first | rfl | simp only [h 2 rfl,h 5 rfl,h 8 rfl]),⟨(fun ν ν' h=>rfl),⟨(fun ν ν' h=>rfl),⟨(fun ν ν' h=>by first | rfl | simp only [h 2 rfl,h 5 rfl,h 8 rfl,h 11 rfl]),⟨(fun ν ν' h=>by first | rfl | simp only [h 2 rfl,h 5 rfl,h 8 rfl,h 11 rfl]),⟨(fun ν ν' h=>by first | rfl | simp only [h 2 rfl,h 5 rfl,h 8 rfl,h 11 rfl]),⟨(fun ν ν' h=>by first | rfl | simp only [h 2 rfl,h 5 rfl,h 8 rfl,h 11 rfl]),trivial⟩⟩⟩⟩⟩⟩⟩⟩⟩⟩⟩⟩⟩⟩⟩ ⟨trivial,⟨(fun ν ν' h=>by first | rfl | simp only [h 2 rfl,h 5 rfl,h 8 rfl,h 11 rfl]),trivial⟩⟩ zk zk (fun ν=>by kernel_rfl) (fun ν=>by kernel_rfl) (fun ν4 a w hst=>?_)
  have hst:St B w0 32 [(3,_)] [⟨1,28,ptrH,_⟩,⟨2,28,ptrH,_⟩] a w:=hst
  refine thn_normal ?_
  refine wp_ret ?_
  refine ret_wk ?_ (ret_many (rs:=[.cell 2 28,.tmp 3]) rfl hst (.cell (zm 1 rfl) ty_28 (.tmp (zm 0 rfl) .nil)) zd)
  have e:asM 0 m=(rmOf m,0):=by rw [asM,if_pos rfl,if_neg hl]
  rw [e]; exact tu2w md_pins.va wk_id
theorem twoD_c (p q l:RF):Cn Tryz.prog 53 [(RFA p).va,(RFA q).va,(RFA l).va] (MRD (twoF p q l)):=by
 refine Cn.intro Tryz.func53 rfl zk nq (fun B w0 a hst=>?_)
 have hst:St B w0 24 [(0,(RFA p).va),(1,(RFA q).va),(2,(RFA l).va)] [] a w0.w:=hst
 refine wp_seq ?_
 refine gl (sts:=[]) (news:=[⟨3,26,ptrH,some 0,_,none⟩,⟨4,26,ptrH,some 1,_,none⟩,⟨5,26,ptrH,some 2,_,none⟩,⟨6,28,ptrH,some 3,_,none⟩]) (sp:=[.alc 0,.alc 1,.alc 2,.alc 3,.val 7 _]) [.o 4] hst (oc (ob_box rfl rfl rfl (gq 0 rfl)) (oc (ob_box rfl rfl rfl (gq 1 rfl)) (oc (ob_box rfl rfl rfl (gq 2 rfl)) (oc (ob_alc rfl rfl rfl (Str.zero str_matZ)) (zv rfl rfl (r_assign has_num) o0))))) (fun a w hst=>?_)
 have hst:St B w0 24 [(7,_)] [⟨3,26,ptrH,_⟩,⟨4,26,ptrH,_⟩,⟨5,26,ptrH,_⟩,⟨6,28,ptrH,_⟩] a w:=hst
 refine zt ?_
 refine wp_seq ?_
 refine gl (sts:=[none,none,none,none]) (news:=[]) (sp:=[.val 8 _,.val 9 _,.val 10 _,.val 11 _,.val 12 _]) [.g 0,.o 4] hst (zv rfl rfl (r_load (lz0 0 rfl) ty_26) (zv rfl rfl (r_load (lz0 1 rfl) ty_26) (zv rfl rfl (r_load (lz0 2 rfl) ty_26) (zv rfl rfl (r_call (xs:=[.tmp 8,.tmp 9,.tmp 10]) (cavMay_c p q l) (.cons (vq 0 rfl) (.cons (vq 1 rfl) (.cons (vq 2 rfl) .nil)))) (zv rfl rfl (r_not (vq 3 rfl)) o0))))) (fun a w hst=>?_)
 have hst:St B w0 24 [(7,_),(12,_)] [⟨3,26,ptrH,_⟩,⟨4,26,ptrH,_⟩,⟨5,26,ptrH,_⟩,⟨6,28,ptrH,_⟩] a w:=hst
 refine thn_normal ?_
 refine cond_of hst (zm 1 rfl) (fun hb0=>?_) (fun hb0=>?_)
 ·rw [Bool.not_eq_true'] at hb0
  refine wp_seq ?_
  refine gl (sts:=[none,none,none,some (1,_)]) (news:=[]) (sp:=[.val 13 _,.sto 3,.val 7 _]) [.o 2] hst (zv rfl rfl (r_build (xs:=[]) (qs:=[]) str_matZ .nil) (oc (ob_sto rfl rfl rfl (vq 0 rfl) ty_28 (Eq.trans (b:=16) rfl rfl)) (zv rfl rfl (r_assign has_num) o0))) (fun a w hst=>?_)
  have hst:St B w0 24 [(7,_)] [⟨3,26,ptrH,_⟩,⟨4,26,ptrH,_⟩,⟨5,26,ptrH,_⟩,⟨6,28,ptrH,_⟩] a w:=hst
  refine thn_normal ?_
  refine wp_ret ?_
  refine thn_ret ?_
  refine ret_wk ?_ (ret_many (rs:=[.cell 6 28,.tmp 7]) rfl hst (.cell (zm 3 rfl) ty_28 (.tmp (zm 0 rfl) .nil)) zd)
  rw [twoF,if_neg (by rw [hb0]; decide)]; exact tu2w zm_rmd.va wk_id
 ·rw [Bool.not_eq_false'] at hb0
  obtain ⟨h1,h2,h3⟩:=mayP_q hb0
  have hst:=St.wkL hst 0 rfl h1
  have hst:=St.wkL hst 1 rfl h2
  have hst:=St.wkL hst 2 rfl h3
  refine wp_skip ?_
  refine zt ?_
  refine go_draw (anc:=[[],[],[0,1],[],[],[0,1,2,3,4],[0,1,2,3,4,5],[0,1,2,3,4,5,6],[0,1,2,3,4,5,6,7],[0,1,2,3,4,5,6,7],[0,1,2,3,4,5,6,7,8,9],[0,1,2,3,4,5,6,7,8,9,10]]) (sts:=[none,none,none,some (10,_)]) (news:=[]) (sp:=[.val 14 _,.val 15 _,.val 16 _,.val 17 _,.val 18 _,.val 19 _,.val 20 _,.val 21 _,.val 22 _,.val 23 _,.sto 3,.val 7 _]) [.o 11] follows_mixed hst (zv rfl rfl (r_load (lz0 1 rfl) ty_26) (zv rfl rfl (r_load (lz0 2 rfl) ty_26) (zv rfl rfl (r_call (xs:=[.tmp 14,.tmp 15]) cavHalf_q (.cons (vq 0 rfl) (.cons (vq 1 rfl) .nil))) (zv rfl rfl (r_load (lz0 0 rfl) ty_26) (zv rfl rfl (r_load (lz0 2 rfl) ty_26) (zv rfl rfl (r_call (xs:=[.tmp 17,.tmp 18]) cavHalf_q (.cons (vq 3 rfl) (.cons (vq 4 rfl) .nil))) (zv rfl rfl (r_call (xs:=[.tmp 16,.tmp 19]) (rowTimes_q (m:=⟨_,_,_,_⟩) (q:=⟨_,_,_,_⟩) zo) (.cons (vq 2 rfl) (.cons (vq 5 rfl) .nil))) (zv rfl rfl (r_call (xs:=[.tmp 20]) (cavMatrixD_q (m:=⟨_,_,_,_⟩) zd) (.cons (vq 6 rfl) .nil)) (zv rfl rfl (r_ex0 (vq 7 rfl)) (zv rfl rfl (r_ex1 (vq 7 rfl)) (oc (ob_sto rfl rfl rfl (vq 8 rfl) ty_28 (Eq.trans (b:=16) rfl rfl)) (zv rfl rfl (r_assign (vq 9 rfl)) o0)))))))))))) zk zk zk zk (fun a w hst=>?_)
  have hst:St B w0 24 [(7,_)] [⟨3,26,ptrH,_⟩,⟨4,26,ptrH,_⟩,⟨5,26,ptrH,_⟩,⟨6,28,ptrH,_⟩] a w:=hst
  refine thn_normal ?_
  refine wp_ret ?_
  refine ret_wk ?_ (ret_many (rs:=[.cell 6 28,.tmp 7]) rfl hst (.cell (zm 3 rfl) ty_28 (.tmp (zm 0 rfl) .nil)) zd)
  rw [twoF,if_pos hb0]; exact wk_id
theorem cavFactorD_q {p l:Rat}:Cn Tryz.prog 193 [Qs 2048 p,Qs 2048 l] ((QD 4099 (1 - p*l)).va):=by
 refine Cn.intro Tryz.func193 rfl zk nq (fun B w0 a hst=>?_)
 have hst:St B w0 10 [(0,Qs 2048 p),(1,Qs 2048 l)] [] a w0.w:=hst
 refine wp_seq ?_
 refine gl (sts:=[]) (news:=[⟨2,26,ptrH,some 0,_,none⟩,⟨3,26,ptrH,some 1,_,none⟩,⟨4,26,ptrH,some 2,_,none⟩]) (sp:=[.alc 0,.alc 1,.alc 2]) [] hst (oc (ob_box rfl rfl rfl (gq 0 rfl)) (oc (ob_box rfl rfl rfl (gq 1 rfl)) (oc (ob_alc rfl rfl rfl (Str.zero str_fracZ)) o0))) (fun a w hst=>?_)
 have hst:St B w0 10 [] [⟨2,26,ptrH,_⟩,⟨3,26,ptrH,_⟩,⟨4,26,ptrH,_⟩] a w:=hst
 refine zt ?_
 refine go_draw (anc:=[[],[],[],[0,1,2],[0,1,2,3],[0,1,2,3,4]]) (sts:=[none,none,some (5,_)]) (news:=[]) (sp:=[.val 5 _,.val 6 _,.val 7 _,.val 8 _,.val 9 _,.sto 2]) [] follows_mixed hst (zv rfl rfl (r_call (xs:=[]) one_q .nil) (zv rfl rfl (r_load (lz0 0 rfl) ty_26) (zv rfl rfl (r_load (lz0 1 rfl) ty_26) (zv rfl rfl (r_call (xs:=[.tmp 6,.tmp 7]) (times_q zo) (.cons (vq 1 rfl) (.cons (vq 2 rfl) .nil))) (zv rfl rfl (r_call (xs:=[.tmp 5,.tmp 8]) (minusD_q zo) (.cons (vq 0 rfl) (.cons (vq 3 rfl) .nil))) (oc (ob_sto rfl rfl rfl (vq 4 rfl) ty_26 (Eq.trans (b:=4) rfl rfl)) o0)))))) zk zk zk zk (fun a w hst=>?_)
 have hst:St B w0 10 [] [⟨2,26,ptrH,_⟩,⟨3,26,ptrH,_⟩,⟨4,26,ptrH,_⟩] a w:=hst
 refine thn_normal ?_
 refine wp_ret ?_
 refine ret_wk ?_ (ret_cell rfl hst (zm 2 rfl) ty_26)
 exact wk_id
theorem factorsD_c (p q l:RF):Cn Tryz.prog 54 [(RFA p).va,(RFA q).va,(RFA l).va] (TwD (facF p q l)):=by
 refine Cn.intro Tryz.func54 rfl zk nq (fun B w0 a hst=>?_)
 have hst:St B w0 34 [(0,(RFA p).va),(1,(RFA q).va),(2,(RFA l).va)] [] a w0.w:=hst
 refine wp_seq ?_
 refine gl (sts:=[]) (news:=[⟨3,26,ptrH,some 0,_,none⟩,⟨4,26,ptrH,some 1,_,none⟩,⟨5,26,ptrH,some 2,_,none⟩,⟨6,26,ptrH,some 3,_,none⟩,⟨7,26,ptrH,some 4,_,none⟩]) (sp:=[.alc 0,.alc 1,.alc 2,.alc 3,.alc 4,.val 8 _]) [.o 5] hst (oc (ob_box rfl rfl rfl (gq 0 rfl)) (oc (ob_box rfl rfl rfl (gq 1 rfl)) (oc (ob_box rfl rfl rfl (gq 2 rfl)) (oc (ob_alc rfl rfl rfl (Str.zero str_fracZ)) (oc (ob_alc rfl rfl rfl (Str.zero str_fracZ)) (zv rfl rfl (r_assign has_num) o0)))))) (fun a w hst=>?_)
 have hst:St B w0 34 [(8,_)] [⟨3,26,ptrH,_⟩,⟨4,26,ptrH,_⟩,⟨5,26,ptrH,_⟩,⟨6,26,ptrH,_⟩,⟨7,26,ptrH,_⟩] a w:=hst
 refine zt ?_
 refine wp_seq ?_
 refine gl (sts:=[none,none,none,none,none]) (news:=[]) (sp:=[.val 10 _,.val 11 _,.val 12 _,.val 13 _,.val 14 _]) [.g 0,.o 4] hst (zv rfl rfl (r_load (lz0 0 rfl) ty_26) (zv rfl rfl (r_load (lz0 1 rfl) ty_26) (zv rfl rfl (r_load (lz0 2 rfl) ty_26) (zv rfl rfl (r_call (xs:=[.tmp 10,.tmp 11,.tmp 12]) (cavMay_c p q l) (.cons (vq 0 rfl) (.cons (vq 1 rfl) (.cons (vq 2 rfl) .nil)))) (zv rfl rfl (r_not (vq 3 rfl)) o0))))) (fun a w hst=>?_)
 have hst:St B w0 34 [(8,_),(14,_)] [⟨3,26,ptrH,_⟩,⟨4,26,ptrH,_⟩,⟨5,26,ptrH,_⟩,⟨6,26,ptrH,_⟩,⟨7,26,ptrH,_⟩] a w:=hst
 refine thn_normal ?_
 refine cond_of hst (zm 1 rfl) (fun hb0=>?_) (fun hb0=>?_)
 ·rw [Bool.not_eq_true'] at hb0
  refine wp_seq ?_
  refine gl (sts:=[none,none,none,some (2,_),some (3,_)]) (news:=[]) (sp:=[.val 15 _,.val 16 _,.sto 3,.sto 4,.val 8 _]) [.o 4] hst (zv rfl rfl (r_build (xs:=[]) (qs:=[]) str_fracZ .nil) (zv rfl rfl (r_build (xs:=[]) (qs:=[]) str_fracZ .nil) (oc (ob_sto rfl rfl rfl (vq 0 rfl) ty_26 (Eq.trans (b:=4) rfl rfl)) (oc (ob_sto rfl rfl rfl (vq 1 rfl) ty_26 (Eq.trans (b:=4) rfl rfl)) (zv rfl rfl (r_assign has_num) o0))))) (fun a w hst=>?_)
  have hst:St B w0 34 [(8,_)] [⟨3,26,ptrH,_⟩,⟨4,26,ptrH,_⟩,⟨5,26,ptrH,_⟩,⟨6,26,ptrH,_⟩,⟨7,26,ptrH,_⟩] a w:=hst
  refine thn_normal ?_
  refine wp_ret ?_
  refine thn_ret ?_
  refine ret_wk ?_ (ret_many (rs:=[.cell 6 26,.cell 7 26,.tmp 8]) rfl hst (.cell (zm 3 rfl) ty_26 (.cell (zm 4 rfl) ty_26 (.tmp (zm 0 rfl) .nil))) zd)
  rw [facF,if_neg (by rw [hb0]; decide)]; exact tw_zero wk_id
 ·rw [Bool.not_eq_false'] at hb0
  obtain ⟨h1,h2,h3⟩:=mayP_q hb0
  have hst:=St.wkL hst 0 rfl h1
  have hst:=St.wkL hst 1 rfl h2
  have hst:=St.wkL hst 2 rfl h3
  refine wp_skip ?_
  refine zt ?_
  refine go_drawV' [[],[],[0,1],[],[],[0,1,2,3,4],[0,1,2,3,4,5],[0,1,2,3,4,5,6]] (sts:=[none,none,none,some (6,fun ν=>_),some (7,fun ν=>_)]) (news:=[]) (sp:=[(fun ν=>.val 17 _),(fun ν=>.val 18 _),(fun ν=>.val 19 (PinA (ν 2) ((QD 4099 (1 - toQ p*toQ l)).and (SepAll [] (ν 2)))).va),(fun ν=>.val 20 _),(fun ν=>.val 21 _),(fun ν=>.val 22 (PinA (ν 5) ((QD 4099 (1 - toQ q*toQ l)).and (SepAll [ν 2] (ν 5)))).va),(fun ν=>.sto 3),(fun ν=>.sto 4)]) [.g 0] follows_mixed hst ⟨of_u fun ν=>ob_v rfl rfl (r_load (lz0 0 rfl) ty_26),⟨of_u fun ν=>ob_v rfl rfl (r_load (lz0 2 rfl) ty_26),⟨of_call (us:=fun ν=>[]) (xs:=[.tmp 17,.tmp 18]) rfl rfl cavFactorD_q new_qd free_qd (.cons upA_qa.va (.cons upA_qa.va .nil)) (fun ν=>(.cons (vq 0 rfl) (.cons (vq 1 rfl) .nil))) (fun _ _=>rfl) (fun ν=>live_nil),⟨of_u fun ν=>ob_v rfl rfl (r_load (lz0 1 rfl) ty_26),⟨of_u fun ν=>ob_v rfl rfl (r_load (lz0 2 rfl) ty_26),⟨of_call (us:=fun ν=>[ν 2]) (xs:=[.tmp 20,.tmp 21]) rfl rfl cavFactorD_q new_qd free_qd (.cons upA_qa.va (.cons upA_qa.va .nil)) (fun ν=>(.cons (vq 3 rfl) (.cons (vq 4 rfl) .nil))) (fun _ _=>rfl) (fun ν=>(live_cons (new_and new_qd) (vq 2 rfl) live_nil)),⟨of_u fun ν=>ob_sto rfl rfl rfl (vq 2 rfl) ty_26 (Eq.trans (b:=4) rfl rfl),⟨of_u fun ν=>ob_sto rfl rfl rfl (vq 5 rfl) ty_26 (Eq.trans (b:=4) rfl rfl),trivial⟩⟩⟩⟩⟩⟩⟩⟩ ⟨(fun ν ν' h=>rfl),⟨(fun ν ν' h=>rfl),⟨(fun ν ν' h=>by first | rfl | simp only [h 2 rfl]),⟨(fun ν ν' h=>rfl),⟨(fun ν ν' h=>rfl),⟨(fun ν ν' h=>by first | rfl | simp only [h 2 rfl,h 5 rfl]),⟨(fun ν ν' h=>by first | rfl | simp only [h 2 rfl,h 5 rfl]),⟨(fun ν ν' h=>by first | rfl | simp only [h 2 rfl,h 5 rfl]),trivial⟩⟩⟩⟩⟩⟩⟩⟩ ⟨trivial,⟨trivial,⟨trivial,⟨(fun ν ν' h=>by first | rfl | simp only [h 2 rfl,h 5 rfl]),⟨(fun ν ν' h=>by first | rfl | simp only [h 2 rfl,h 5 rfl]),trivial⟩⟩⟩⟩⟩ zk zk (fun ν=>by kernel_rfl) (fun ν=>by kernel_rfl) (fun ν3 a w hst=>?_)
  have hst:St B w0 34 [(8,_)] [⟨3,26,ptrH,_⟩,⟨4,26,ptrH,_⟩,⟨5,26,ptrH,_⟩,⟨6,26,ptrH,_⟩,⟨7,26,ptrH,_⟩] a w:=hst
  refine zt ?_
  refine wp_seq ?_
  refine gl (sts:=[none,none,none,none,none]) (news:=[]) (sp:=[.val 23 _,.val 24 _,.val 25 _,.val 26 _,.val 9 _]) [.g 0,.o 4] hst (zv rfl rfl (r_load (lz0 3 rfl) ty_26) (zv rfl rfl (r_load (lz0 4 rfl) ty_26) (zv rfl rfl (r_slice (D:=[U32]) (l:=[_,_]) (xs:=[.tmp 23,.tmp 24]) (nd_ok zk) sl_142 zk (n_ok zk) nq nq nq (.cons (has_wk' (vq 0 rfl) (pin_wk.trans (and_wk.trans qd_qa)).va) (.cons (has_wk' (vq 1 rfl) (pin_wk.trans (and_wk.trans qd_qa)).va) .nil)) rfl rfl) (zv rfl rfl (r_call (xs:=[.tmp 25]) (cavAnswer_q [(1 - toQ p*toQ l),(1 - toQ q*toQ l)] (.cons ⟨_,rfl⟩ (.cons ⟨_,rfl⟩ .nil)) nq) (.cons (vq 2 rfl) .nil)) (zv rfl rfl (r_assign (vq 3 rfl)) o0))))) (fun a w hst=>?_)
  have hst:St B w0 34 [(8,_),(9,_)] [⟨3,26,ptrH,_⟩,⟨4,26,ptrH,_⟩,⟨5,26,ptrH,_⟩,⟨6,26,ptrH,_⟩,⟨7,26,ptrH,_⟩] a w:=hst
  refine zt ?_
  refine gl (sts:=[none,none,none,none,none]) (news:=[]) (sp:=[.val 27 _,.val 28 _]) [.g 0,.g 1,.o 1] hst (zv rfl rfl (r_move (gq 1 rfl)) (zv rfl rfl (r_neq (vq 0 rfl) has_num) o0)) (fun a w hst=>?_)
  have hst:St B w0 34 [(8,_),(9,_),(28,_)] [⟨3,26,ptrH,_⟩,⟨4,26,ptrH,_⟩,⟨5,26,ptrH,_⟩,⟨6,26,ptrH,_⟩,⟨7,26,ptrH,_⟩] a w:=hst
  refine thn_normal ?_
  refine cond_of hst (zm 2 rfl) (fun hb1=>?_) (fun hb1=>?_)
  ·have hl:=as_yes hb1
   refine wp_seq ?_
   refine gl (sts:=[none,none,none,some (3,_),some (4,_)]) (news:=[]) (sp:=[.val 29 _,.val 30 _,.val 31 _,.sto 3,.sto 4,.val 8 _]) [.o 5] hst (zv rfl rfl (r_build (xs:=[]) (qs:=[]) str_fracZ .nil) (zv rfl rfl (r_build (xs:=[]) (qs:=[]) str_fracZ .nil) (zv rfl rfl (r_move (gq 1 rfl)) (oc (ob_sto rfl rfl rfl (vq 0 rfl) ty_26 (Eq.trans (b:=4) rfl rfl)) (oc (ob_sto rfl rfl rfl (vq 1 rfl) ty_26 (Eq.trans (b:=4) rfl rfl)) (zv rfl rfl (r_assign (vq 2 rfl)) o0)))))) (fun a w hst=>?_)
   have hst:St B w0 34 [(8,_)] [⟨3,26,ptrH,_⟩,⟨4,26,ptrH,_⟩,⟨5,26,ptrH,_⟩,⟨6,26,ptrH,_⟩,⟨7,26,ptrH,_⟩] a w:=hst
   refine thn_normal ?_
   refine wp_ret ?_
   refine thn_ret ?_
   refine ret_wk ?_ (ret_many (rs:=[.cell 6 26,.cell 7 26,.tmp 8]) rfl hst (.cell (zm 3 rfl) ty_26 (.cell (zm 4 rfl) ty_26 (.tmp (zm 0 rfl) .nil))) zd)
   have e:facF p q l=(rf0,rf0,4):=by rw [facF,if_pos hb0,if_pos hl]
   rw [e]; exact tw_zero (wk_eq (by rw [if_pos hl]))
  ·have hl:=as_no hb1
   refine wp_skip ?_
   refine zt ?_
   refine go_draw (anc:=[[],[],[0],[0,1,2],[0,1,2,3]]) (sts:=[none,none,none,some (2,_),some (3,_)]) (news:=[]) (sp:=[.val 32 _,.val 33 _,.sto 3,.sto 4,.val 8 _]) [.o 4] follows_mixed hst (zv rfl rfl (r_load (lz0 3 rfl) ty_26) (zv rfl rfl (r_load (lz0 4 rfl) ty_26) (oc (ob_sto rfl rfl rfl (vq 0 rfl) ty_26 (Eq.trans (b:=4) rfl rfl)) (oc (ob_sto rfl rfl rfl (vq 1 rfl) ty_26 (Eq.trans (b:=4) rfl rfl)) (zv rfl rfl (r_assign has_num) o0))))) zk zk zk zk (fun a w hst=>?_)
   have hst:St B w0 34 [(8,_)] [⟨3,26,ptrH,_⟩,⟨4,26,ptrH,_⟩,⟨5,26,ptrH,_⟩,⟨6,26,ptrH,_⟩,⟨7,26,ptrH,_⟩] a w:=hst
   refine thn_normal ?_
   refine wp_ret ?_
   refine ret_wk ?_ (ret_many (rs:=[.cell 6 26,.cell 7 26,.tmp 8]) rfl hst (.cell (zm 3 rfl) ty_26 (.cell (zm 4 rfl) ty_26 (.tmp (zm 0 rfl) .nil))) zd)
   have e:facF p q l=(rfOf (1 - toQ p*toQ l),rfOf (1 - toQ q*toQ l),0):=by rw [facF,if_pos hb0,if_neg hl]
   rw [e]; exact tw_pins wk_id
end Go.Proofs.YthncfchnkjemiaaGreatDoor
