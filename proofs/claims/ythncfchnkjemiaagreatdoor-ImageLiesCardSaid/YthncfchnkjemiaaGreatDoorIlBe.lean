import Derived.Test.YthncfchnkjemiaaGreatDoorIlAa
import Derived.Test.YthncfchnkjemiaaGreatDoorIlAc
import Derived.Test.YthncfchnkjemiaaGreatDoorIlAr
import Derived.Test.YthncfchnkjemiaaGreatDoorIlBb
import Derived.Test.YthncfchnkjemiaaGreatDoorIlBd
set_option linter.unusedVariables false
set_option linter.unusedSimpArgs false
set_option linter.unusedSectionVars false
set_option maxRecDepth 100000
namespace Go.Proofs.YthncfchnkjemiaaGreatDoor
open Go Go.RowKit
theorem byd_mff {x:RM} {y z:RF} (hx:wdM x) (hy:wdF y) (hz:wdF z) (h:bydF 0 [matCostF x,fracCostF y,fracCostF z]=false):(bdF x.a∧bdF x.b∧bdF x.c∧bdF x.d)∧bdF y∧bdF z:=by
 obtain ⟨a,b,c,d,e,l,hs⟩:=mat_cost hx
 obtain ⟨a1,e1,l1,s1⟩:=frac_cost hy
 obtain ⟨a2,e2,l2,s2⟩:=frac_cost hz
 rw [e,e1,e2] at h
 have:=byd_0 (l:=[a+b+c+d,a1,a2]) (by simp; omega) h
 simp at this
 unfold bdF
 omega
theorem bd_st (x:RM) (t:RF):bdF (stF x t).1:=by
 unfold stF
 repeat' split
 all_goals first | exact bd_ans _ | exact bd_rf0
theorem bd_im1 (x:RM) (t:RF):bdF (imF x t).1:=by
 unfold imF
 repeat' split
 all_goals first | exact bd_tw1 _ _ | exact bd_rf0
theorem bd_im2 (x:RM) (t:RF):bdF (imF x t).2.1:=by
 unfold imF
 repeat' split
 all_goals first | exact bd_tw2 _ _ | exact bd_rf0
theorem lies_w (x:RM) (hx:wdM x) (y:RF) (hy:wdF y) (z:RF) (hz:wdF z):Cn Tryz.prog 4 [(RMA x).va,(RFA y).va,(RFA z).va] (Bo true):=by
 refine Cn.introD Tryz.func4 rfl zk nq (fun B w0 a hF0 hnd hF hst=>?_)
 have hst:St B w0 112 [(0,(RMA x).va),(1,(RFA y).va),(2,(RFA z).va)] [] a w0.w:=hst
 refine wp_seq ?_
 refine gl (sts:=[]) (news:=[⟨3,28,ptrH,some 0,_,none⟩,⟨4,26,ptrH,some 1,_,none⟩,⟨5,26,ptrH,some 2,_,none⟩]) (sp:=[.alc 0,.alc 1,.alc 2,.val 6 _]) [.o 3] hst (oc (ob_box rfl rfl rfl (gq 0 rfl)) (oc (ob_box rfl rfl rfl (gq 1 rfl)) (oc (ob_box rfl rfl rfl (gq 2 rfl)) (zv rfl rfl (r_assign has_bo) o0)))) (fun a w hst=>?_)
 have hst:St B w0 112 [(6,_)] [⟨3,28,ptrH,_⟩,⟨4,26,ptrH,_⟩,⟨5,26,ptrH,_⟩] a w:=hst
 refine zt ?_
 refine wp_seq ?_
 refine go_draw (anc:=[[],[0],[],[0,1,2],[],[0,1,2,3,4],[0,1,2,3,4,5],[0,1,2,3,4,5,6]]) (sts:=[none,none,none]) (news:=[]) (sp:=[.val 21 _,.val 22 _,.val 23 _,.val 24 _,.val 25 _,.val 26 _,.val 27 _,.val 28 _]) [.g 0,.o 7] follows_mixed hst (zv rfl rfl (r_load (lz0 0 rfl) ty_28) (zv rfl rfl (r_call (xs:=[.tmp 21]) (matCost_c _) (.cons (vq 0 rfl) .nil)) (zv rfl rfl (r_load (lz0 1 rfl) ty_26) (zv rfl rfl (r_call (xs:=[.tmp 23]) (fracCost_c _) (.cons (vq 2 rfl) .nil)) (zv rfl rfl (r_load (lz0 2 rfl) ty_26) (zv rfl rfl (r_call (xs:=[.tmp 25]) (fracCost_c _) (.cons (vq 4 rfl) .nil)) (zv rfl rfl (r_slice (D:=[]) (l:=[_,_,_]) (xs:=[.tmp 22,.tmp 24,.tmp 26]) (nd_ok zk) sl_114 zk (n_ok zk) nq nq nq (.cons (vq 1 rfl) (.cons (vq 3 rfl) (.cons (vq 5 rfl) .nil))) rfl rfl) (zv rfl rfl (r_call (xs:=[.tmp 27]) (beyond_c [_,_,_]) (.cons (vq 6 rfl) .nil)) o0)))))))) zk zk zk zk (fun a w hst=>?_)
 have hst:St B w0 112 [(6,_),(28,_)] [⟨3,28,ptrH,_⟩,⟨4,26,ptrH,_⟩,⟨5,26,ptrH,_⟩] a w:=hst
 refine thn_normal ?_
 refine cond_of hst (zm 1 rfl) (fun hb0=>?_) (fun hb0=>?_)
 ·refine wp_seq ?_
  refine gl (sts:=[none,none,none]) (news:=[]) (sp:=[.val 6 _]) [.o 0] hst (zv rfl rfl (r_assign has_bo) o0) (fun a w hst=>?_)
  have hst:St B w0 112 [(6,_)] [⟨3,28,ptrH,_⟩,⟨4,26,ptrH,_⟩,⟨5,26,ptrH,_⟩] a w:=hst
  refine thn_normal ?_
  refine wp_ret ?_
  refine thn_ret ?_
  refine ret_wk ?_ (ret_tmp rfl hst (zm 0 rfl))
  exact wk_id
 ·have hb:=byd_mff hx hy hz hb0
  refine wp_skip ?_
  refine zt ?_
  refine gl (sts:=[none,none,none]) (news:=[⟨7,28,ptrH,some 2,_,some (3,_)⟩]) (sp:=[.val 29 _,.val 30 _,.alc 3,.sto 3]) [.g 0] hst (zv rfl rfl (r_load (lz0 0 rfl) ty_28) (zv rfl rfl (r_call (xs:=[.tmp 29]) (twinMatrix_c x hb.1) (.cons (vq 0 rfl) .nil)) (oc (ob_alc rfl rfl rfl (Str.zero str_matrix)) (oc (ob_sto rfl rfl rfl (vq 1 rfl) ty_28 (Eq.trans (b:=16) rfl rfl)) o0)))) (fun a w hst=>?_)
  have hst:St B w0 112 [(6,_)] [⟨3,28,ptrH,_⟩,⟨4,26,ptrH,_⟩,⟨5,26,ptrH,_⟩,⟨7,28,ptrH,_⟩] a w:=hst
  refine zt ?_
  refine gl (sts:=[none,none,none,none]) (news:=[⟨8,26,ptrH,some 2,_,some (3,_)⟩]) (sp:=[.val 31 _,.val 32 _,.alc 4,.sto 4]) [.g 0] hst (zv rfl rfl (r_load (lz0 1 rfl) ty_26) (zv rfl rfl (r_call (xs:=[.tmp 31]) (twinFrac_c y hb.2.1) (.cons (vq 0 rfl) .nil)) (oc (ob_alc rfl rfl rfl (Str.zero str_frac)) (oc (ob_sto rfl rfl rfl (vq 1 rfl) ty_26 (Eq.trans (b:=4) rfl rfl)) o0)))) (fun a w hst=>?_)
  have hst:St B w0 112 [(6,_)] [⟨3,28,ptrH,_⟩,⟨4,26,ptrH,_⟩,⟨5,26,ptrH,_⟩,⟨7,28,ptrH,_⟩,⟨8,26,ptrH,_⟩] a w:=hst
  refine zt ?_
  refine gl (sts:=[none,none,none,none,none]) (news:=[⟨9,26,ptrH,some 2,_,some (3,_)⟩]) (sp:=[.val 33 _,.val 34 _,.alc 5,.sto 5]) [.g 0] hst (zv rfl rfl (r_load (lz0 2 rfl) ty_26) (zv rfl rfl (r_call (xs:=[.tmp 33]) (twinFrac_c z hb.2.2) (.cons (vq 0 rfl) .nil)) (oc (ob_alc rfl rfl rfl (Str.zero str_frac)) (oc (ob_sto rfl rfl rfl (vq 1 rfl) ty_26 (Eq.trans (b:=4) rfl rfl)) o0)))) (fun a w hst=>?_)
  have hst:St B w0 112 [(6,_)] [⟨3,28,ptrH,_⟩,⟨4,26,ptrH,_⟩,⟨5,26,ptrH,_⟩,⟨7,28,ptrH,_⟩,⟨8,26,ptrH,_⟩,⟨9,26,ptrH,_⟩] a w:=hst
  refine ground [(3,ElO 28 (OM x)),(4,ElO 26 (OF y)),(5,ElO 26 (OF z)),(7,ElO 28 (ROM x)),(8,ElO 26 (ROF y)),(9,ElO 26 (ROF z))] hst hnd ⟨reb_l hst 0 rfl up_om,reb_l hst 1 rfl up_of,reb_l hst 2 rfl up_of,reb_l hst 3 rfl up_rmt,reb_l hst 4 rfl up_rft,reb_l hst 5 rfl up_rft,trivial⟩ (fun B w0 w hnd hF0 hB hst=>?_)
  have hst:St B w0 112 [(3,_),(4,_),(5,_),(7,_),(8,_),(9,_)] [] a w:=hst
  refine zt ?_
  refine go_linV (sts:=[]) (news:=[⟨10,26,ptrH,some 7,_,some (9,fun ν=>_)⟩,⟨11,26,ptrH,some 8,_,some (10,fun ν=>_)⟩]) (sp:=[(fun ν=>.val 36 _),(fun ν=>.val 37 _),(fun ν=>.val 38 (PinD (ν 2) (imF x y) [])),(fun ν=>.val 35 _),(fun ν=>.val 39 (PinA (ν 4) ((RFD (imF x y).1).and (ν 4=prj 0 (ν 2)∧Apr (ν 2)∧SepAll [] (ν 4)))).va),(fun ν=>.val 40 (PinA (ν 5) ((RFD (imF x y).2.1).and (ν 5=prj 1 (ν 2)∧Apr (ν 2)∧SepAll [] (ν 5)))).va),(fun ν=>.val 41 _),(fun ν=>.alc 0),(fun ν=>.alc 1),(fun ν=>.sto 0),(fun ν=>.sto 1),(fun ν=>.val 12 _)]) [.g 0,.g 1,.g 2,.g 3,.g 4,.g 5,.o 11] hst ⟨of_u fun ν=>ob_v rfl rfl (r_loade (has_wk' (gq 3 rfl) elo_p) ty_28),⟨of_u fun ν=>ob_v rfl rfl (r_loade (has_wk' (gq 4 rfl) elo_p) ty_26),⟨of_callD (us:=fun ν=>[]) (xs:=[.tmp 36,.tmp 37]) rfl rfl ((imageD_c x y).wk (.cons wkA_rmr.va (.cons wkA_rfr.va .nil))) (.cons upA_rmr.va (.cons upA_rfr.va .nil)) (fun ν=>(.cons (has_wk' (vq 0 rfl) rom_rmr.va) (.cons (has_wk' (vq 1 rfl) rof_rfr.va) .nil))) (fun _ _=>rfl) (fun ν=>live_nil),⟨of_u fun ν=>ob_v rfl rfl (r_move (vq 2 rfl)),⟨of_prjD0 (tv:=fun ν=>ν 2) (us:=fun ν=>[]) rfl rfl (fun ν=>(vq 3 rfl)) (fun _ _=>rfl) (fun _ _=>rfl),⟨of_prjD1 (tv:=fun ν=>ν 2) (us:=fun ν=>[]) rfl rfl (fun ν=>(vq 3 rfl)) (fun _ _=>rfl) (fun _ _=>rfl),⟨of_u fun ν=>ob_v rfl rfl (r_prjD2 (vq 3 rfl)),⟨of_u fun ν=>ob_alc rfl rfl rfl (Str.zero str_frac),⟨of_u fun ν=>ob_alc rfl rfl rfl (Str.zero str_frac),⟨of_u fun ν=>ob_sto rfl rfl rfl (vq 4 rfl) ty_26 (Eq.trans (b:=4) rfl rfl),⟨of_u fun ν=>ob_sto rfl rfl rfl (vq 5 rfl) ty_26 (Eq.trans (b:=4) rfl rfl),⟨of_u fun ν=>ob_v rfl rfl (r_assign (vq 6 rfl)),trivial⟩⟩⟩⟩⟩⟩⟩⟩⟩⟩⟩⟩ ⟨(fun ν ν' h=>rfl),⟨(fun ν ν' h=>rfl),⟨(fun ν ν' h=>by first | rfl | simp only [h 2 rfl]),⟨(fun ν ν' h=>by first | rfl | simp only [h 2 rfl]),⟨(fun ν ν' h=>by first | rfl | simp only [h 2 rfl,h 4 rfl]),⟨(fun ν ν' h=>by first | rfl | simp only [h 2 rfl,h 4 rfl,h 5 rfl]),⟨(fun ν ν' h=>by first | rfl | simp only [h 2 rfl,h 4 rfl,h 5 rfl]),⟨(fun ν ν' h=>by first | rfl | simp only [h 2 rfl,h 4 rfl,h 5 rfl]),⟨(fun ν ν' h=>by first | rfl | simp only [h 2 rfl,h 4 rfl,h 5 rfl]),⟨(fun ν ν' h=>by first | rfl | simp only [h 2 rfl,h 4 rfl,h 5 rfl]),⟨(fun ν ν' h=>by first | rfl | simp only [h 2 rfl,h 4 rfl,h 5 rfl]),⟨(fun ν ν' h=>by first | rfl | simp only [h 2 rfl,h 4 rfl,h 5 rfl]),trivial⟩⟩⟩⟩⟩⟩⟩⟩⟩⟩⟩⟩ ⟨(fun ν ν' h=>by first | rfl | simp only [h 2 rfl,h 4 rfl,h 5 rfl]),⟨(fun ν ν' h=>by first | rfl | simp only [h 2 rfl,h 4 rfl,h 5 rfl]),trivial⟩⟩ zk (fun ν=>by kernel_rfl) (fun ν=>by kernel_rfl) (fun ν6 a w hst=>?_)
  have hst:St B w0 112 [(3,_),(4,_),(5,_),(7,_),(8,_),(9,_),(12,_)] [⟨10,26,ptrH,_⟩,⟨11,26,ptrH,_⟩] a w:=hst
  refine zt ?_
  refine gl (sts:=[none,none]) (news:=[⟨13,26,ptrH,some 7,_,some (9,_)⟩,⟨14,26,ptrH,some 8,_,some (10,_)⟩]) (sp:=[.val 43 _,.val 44 _,.val 45 _,.val 42 _,.val 46 _,.val 47 _,.val 48 _,.alc 2,.alc 3,.sto 2,.sto 3,.val 15 _]) [.g 0,.g 1,.g 2,.g 3,.g 4,.g 5,.g 6,.o 11] hst (zv rfl rfl (r_loade (has_wk' (gq 0 rfl) elo_p) ty_28) (zv rfl rfl (r_loade (has_wk' (gq 1 rfl) elo_p) ty_26) (zv rfl rfl (r_call (xs:=[.tmp 43,.tmp 44]) (r11image_c x y) (.cons (has_wk' (vq 0 rfl) om_rma.va) (.cons (has_wk' (vq 1 rfl) of_rfa.va) .nil))) (zv rfl rfl (r_move (vq 2 rfl)) (zv rfl rfl (r_ex0 (vq 3 rfl)) (zv rfl rfl (r_ex1 (vq 3 rfl)) (zv rfl rfl (r_ex2 (vq 3 rfl)) (oc (ob_alc rfl rfl rfl (Str.zero str_frac)) (oc (ob_alc rfl rfl rfl (Str.zero str_frac)) (oc (ob_sto rfl rfl rfl (vq 4 rfl) ty_26 (Eq.trans (b:=4) rfl rfl)) (oc (ob_sto rfl rfl rfl (vq 5 rfl) ty_26 (Eq.trans (b:=4) rfl rfl)) (zv rfl rfl (r_assign (vq 6 rfl)) o0)))))))))))) (fun a w hst=>?_)
  have hst:St B w0 112 [(3,_),(4,_),(5,_),(7,_),(8,_),(9,_),(12,_),(15,_)] [⟨10,26,ptrH,_⟩,⟨11,26,ptrH,_⟩,⟨13,26,ptrH,_⟩,⟨14,26,ptrH,_⟩] a w:=hst
  refine zt ?_
  refine go_linV (sts:=[none,none,none,none]) (news:=[⟨16,26,ptrH,some 6,_,some (7,fun ν=>_)⟩]) (sp:=[(fun ν=>.val 50 _),(fun ν=>.val 51 _),(fun ν=>.val 52 (PinT (ν 2) [RFD (stF x z).1,NumA .i64 (stF x z).2] [(ν6 4),(ν6 5)])),(fun ν=>.val 49 _),(fun ν=>.val 53 (PinA (ν 4) ((RFD (stF x z).1).and (SepAll [(ν6 4),(ν6 5)] (ν 4)))).va),(fun ν=>.val 54 _),(fun ν=>.alc 4),(fun ν=>.sto 4),(fun ν=>.val 17 _)]) [.g 0,.g 1,.g 2,.g 3,.g 4,.g 5,.g 6,.g 7,.o 8] hst ⟨of_u fun ν=>ob_v rfl rfl (r_loade (has_wk' (gq 3 rfl) elo_p) ty_28),⟨of_u fun ν=>ob_v rfl rfl (r_loade (has_wk' (gq 5 rfl) elo_p) ty_26),⟨of_callT (us:=fun ν=>[(ν6 4),(ν6 5)]) (xs:=[.tmp 50,.tmp 51]) rfl rfl ((stopD_c x z).wk (.cons wkA_rmr.va (.cons wkA_rfr.va .nil))) nf_frd (.cons upA_rmr.va (.cons upA_rfr.va .nil)) (fun ν=>(.cons (has_wk' (vq 0 rfl) rom_rmr.va) (.cons (has_wk' (vq 1 rfl) rof_rfr.va) .nil))) (fun _ _=>rfl) (fun ν=>(live_loc (new_and new_rfd) (lz0 0 rfl) (live_loc (new_and new_rfd) (lz0 1 rfl) live_nil))),⟨of_u fun ν=>ob_v rfl rfl (r_move (vq 2 rfl)),⟨of_ext (us:=fun ν=>[(ν6 4),(ν6 5)]) rfl rfl (fun ν=>(vq 3 rfl)) rfl (fun _ _=>rfl),⟨of_u fun ν=>ob_v rfl rfl (r_extT (A:=NumA .i64 (stF x z).2) (vq 3 rfl) rfl),⟨of_u fun ν=>ob_alc rfl rfl rfl (Str.zero str_frac),⟨of_u fun ν=>ob_sto rfl rfl rfl (vq 4 rfl) ty_26 (Eq.trans (b:=4) rfl rfl),⟨of_u fun ν=>ob_v rfl rfl (r_assign (vq 5 rfl)),trivial⟩⟩⟩⟩⟩⟩⟩⟩⟩ ⟨(fun ν ν' h=>rfl),⟨(fun ν ν' h=>rfl),⟨(fun ν ν' h=>by first | rfl | simp only [h 2 rfl]),⟨(fun ν ν' h=>by first | rfl | simp only [h 2 rfl]),⟨(fun ν ν' h=>by first | rfl | simp only [h 2 rfl,h 4 rfl]),⟨(fun ν ν' h=>by first | rfl | simp only [h 2 rfl,h 4 rfl]),⟨(fun ν ν' h=>by first | rfl | simp only [h 2 rfl,h 4 rfl]),⟨(fun ν ν' h=>by first | rfl | simp only [h 2 rfl,h 4 rfl]),⟨(fun ν ν' h=>by first | rfl | simp only [h 2 rfl,h 4 rfl]),trivial⟩⟩⟩⟩⟩⟩⟩⟩⟩ ⟨trivial,⟨trivial,⟨trivial,⟨trivial,⟨(fun ν ν' h=>by first | rfl | simp only [h 2 rfl,h 4 rfl]),trivial⟩⟩⟩⟩⟩ zk (fun ν=>by kernel_rfl) (fun ν=>by kernel_rfl) (fun ν8 a w hst=>?_)
  have hst:St B w0 112 [(3,_),(4,_),(5,_),(7,_),(8,_),(9,_),(12,_),(15,_),(17,_)] [⟨10,26,ptrH,_⟩,⟨11,26,ptrH,_⟩,⟨13,26,ptrH,_⟩,⟨14,26,ptrH,_⟩,⟨16,26,ptrH,_⟩] a w:=hst
  refine zt ?_
  refine gl (sts:=[none,none,none,none,none]) (news:=[⟨18,26,ptrH,some 6,_,some (7,_)⟩]) (sp:=[.val 56 _,.val 57 _,.val 58 _,.val 55 _,.val 59 _,.val 60 _,.alc 5,.sto 5,.val 19 _]) [.g 0,.g 1,.g 2,.g 3,.g 4,.g 5,.g 6,.g 7,.g 8,.o 8] hst (zv rfl rfl (r_loade (has_wk' (gq 0 rfl) elo_p) ty_28) (zv rfl rfl (r_loade (has_wk' (gq 2 rfl) elo_p) ty_26) (zv rfl rfl (r_call (xs:=[.tmp 56,.tmp 57]) (r11stop_c x z) (.cons (has_wk' (vq 0 rfl) om_rma.va) (.cons (has_wk' (vq 1 rfl) of_rfa.va) .nil))) (zv rfl rfl (r_move (vq 2 rfl)) (zv rfl rfl (r_ex0 (vq 3 rfl)) (zv rfl rfl (r_ex1 (vq 3 rfl)) (oc (ob_alc rfl rfl rfl (Str.zero str_frac)) (oc (ob_sto rfl rfl rfl (vq 4 rfl) ty_26 (Eq.trans (b:=4) rfl rfl)) (zv rfl rfl (r_assign (vq 5 rfl)) o0))))))))) (fun a w hst=>?_)
  have hst:St B w0 112 [(3,_),(4,_),(5,_),(7,_),(8,_),(9,_),(12,_),(15,_),(17,_),(19,_)] [⟨10,26,ptrH,_⟩,⟨11,26,ptrH,_⟩,⟨13,26,ptrH,_⟩,⟨14,26,ptrH,_⟩,⟨16,26,ptrH,_⟩,⟨18,26,ptrH,_⟩] a w:=hst
  refine zt ?_
  refine wp_seq ?_
  refine gl (sts:=[none,none,none,none,none,none]) (news:=[]) (sp:=((.val 61 _:Sp)::(.val 62 _)::(.val 63 _)::(.val 64 _)::(.val 65 _)::(.val 66 (Wh (_=false) _))::(.val 67 (Wh (_=false) _))::(.val 68 (Wh (_=false) _))::(.val 69 (Wh (_=false) _))::(.val 70 _)::(.val 71 _)::(.val 72 (Wh (_=false) _))::(.val 73 (Wh (_=false) _))::(.val 74 (Wh (_=false) _))::(.val 75 _)::(.val 76 _)::(.val 77 (Wh (_=false) _))::(.val 78 (Wh (_=false) _))::(.val 79 (Wh (_=false) _))::(.val 80 (Wh (_=false) _))::(.val 81 _)::(.val 82 _)::(.val 83 (Wh (_=false) _))::(.val 84 (Wh (_=false) _))::(.val 85 (Wh (_=false) _))::(.val 86 _)::[])) [.g 0,.g 1,.g 2,.g 3,.g 4,.g 5,.o 25] hst (zv rfl rfl (r_load (lz0 0 rfl) ty_26) (zv rfl rfl (r_load (lz0 2 rfl) ty_26) (zv rfl rfl (r_call (xs:=[.tmp 61,.tmp 62]) (sameFrac_c _ _) (.cons (has_wk' (vq 0 rfl) (pin_wk.trans (and_wk.trans rfd_rfa)).va) (.cons (vq 1 rfl) .nil))) (zv rfl rfl (r_not (vq 2 rfl)) (zv rfl rfl (r_move (vq 3 rfl)) (oc (ob_gd rfl rfl rfl (vq 4 rfl) nq (fun hg=>r_load (lz0 1 rfl) ty_26)) (oc (ob_gd rfl rfl rfl (vq 4 rfl) nq (fun hg=>r_load (lz0 3 rfl) ty_26)) (oc (ob_gd rfl rfl rfl (vq 4 rfl) nq (fun hg=>r_call (xs:=[.tmp 66,.tmp 67]) (sameFrac_c _ _) (.cons (has_wk' (has_wh (vq 5 rfl) hg) (pin_wk.trans (and_wk.trans rfd_rfa)).va) (.cons (has_wh (vq 6 rfl) hg) .nil)))) (oc (ob_gd rfl rfl rfl (vq 4 rfl) nq (fun hg=>r_not (has_wh (vq 7 rfl) hg))) (zv rfl rfl (r_or (vq 4 rfl) (vq 8 rfl)) (zv rfl rfl (r_move (vq 9 rfl)) (oc (ob_gd rfl rfl rfl (vq 10 rfl) nq (fun hg=>r_move (gq 6 rfl))) (oc (ob_gd rfl rfl rfl (vq 10 rfl) nq (fun hg=>r_move (gq 7 rfl))) (oc (ob_gd rfl rfl rfl (vq 10 rfl) nq (fun hg=>r_neq (has_wh (vq 11 rfl) hg) (has_wh (vq 12 rfl) hg))) (zv rfl rfl (r_or (vq 10 rfl) (vq 13 rfl)) (zv rfl rfl (r_move (vq 14 rfl)) (oc (ob_gd rfl rfl rfl (vq 15 rfl) nq (fun hg=>r_load (lz0 4 rfl) ty_26)) (oc (ob_gd rfl rfl rfl (vq 15 rfl) nq (fun hg=>r_load (lz0 5 rfl) ty_26)) (oc (ob_gd rfl rfl rfl (vq 15 rfl) nq (fun hg=>r_call (xs:=[.tmp 77,.tmp 78]) (sameFrac_c _ _) (.cons (has_wk' (has_wh (vq 16 rfl) hg) (pin_wk.trans (and_wk.trans rfd_rfa)).va) (.cons (has_wh (vq 17 rfl) hg) .nil)))) (oc (ob_gd rfl rfl rfl (vq 15 rfl) nq (fun hg=>r_not (has_wh (vq 18 rfl) hg))) (zv rfl rfl (r_or (vq 15 rfl) (vq 19 rfl)) (zv rfl rfl (r_move (vq 20 rfl)) (oc (ob_gd rfl rfl rfl (vq 21 rfl) nq (fun hg=>r_move (gq 8 rfl))) (oc (ob_gd rfl rfl rfl (vq 21 rfl) nq (fun hg=>r_move (gq 9 rfl))) (oc (ob_gd rfl rfl rfl (vq 21 rfl) nq (fun hg=>r_neq (has_wh (vq 22 rfl) hg) (has_wh (vq 23 rfl) hg))) (zv rfl rfl (r_or (vq 21 rfl) (vq 24 rfl)) o0)))))))))))))))))))))))))) (fun a w hst=>?_)
  have hst:St B w0 112 [(3,_),(4,_),(5,_),(7,_),(8,_),(9,_),(86,_)] [⟨10,26,ptrH,_⟩,⟨11,26,ptrH,_⟩,⟨13,26,ptrH,_⟩,⟨14,26,ptrH,_⟩,⟨16,26,ptrH,_⟩,⟨18,26,ptrH,_⟩] a w:=hst
  refine thn_normal ?_
  refine cond_of hst (zm 6 rfl) (fun hb1=>?_) (fun hb1=>?_)
  ·exact absurd hb1 (by simp)
  ·refine wp_skip ?_
   refine zt ?_
   refine gl (sts:=[none,none,none,none,none,none]) (news:=[⟨20,59,ptrH,some 0,_,none⟩]) (sp:=[.alc 6]) [.g 0,.g 1,.g 2,.g 3,.g 4,.g 5] hst (oc (ob_alc rfl rfl rfl zero_book) o0) (fun a w hst=>?_)
   have hst:St B w0 112 [(3,_),(4,_),(5,_),(7,_),(8,_),(9,_)] [⟨10,26,ptrH,_⟩,⟨11,26,ptrH,_⟩,⟨13,26,ptrH,_⟩,⟨14,26,ptrH,_⟩,⟨16,26,ptrH,_⟩,⟨18,26,ptrH,_⟩,⟨20,59,ptrH,_⟩] a w:=hst
   refine zt ?_
   obtain ⟨m10,v10,n10,o10,⟨e10,a10,s10⟩,hst⟩:=St.splitN (AP:=(fun m:Nat→Value=>FracP (imF x y).1 (m 0) (m 1))) (kl:=(fun m:Nat→Value=>kf (imF x y).1 (m 0) (m 1))) (WkA.refl _) fracs_names hst 0 rfl
   obtain ⟨m11,v11,n11,o11,⟨e11,a11,s11⟩,hst⟩:=St.splitN (AP:=(fun m:Nat→Value=>FracP (imF x y).2.1 (m 0) (m 1))) (kl:=(fun m:Nat→Value=>kf (imF x y).2.1 (m 0) (m 1))) (WkA.refl _) fracs_names hst 1 rfl
   obtain ⟨m16,v16,n16,o16,s16,hst⟩:=St.splitN (AP:=(fun m:Nat→Value=>FracP (stF x z).1 (m 0) (m 1))) (kl:=(fun m:Nat→Value=>kf (stF x z).1 (m 0) (m 1))) (WkA.refl _) fracs_names hst 4 rfl
   have hq0:=kb_add kb_nil v10 n10 sepAll_nil
   have hk0:=kb_sep hq0
   have hq1:=kb_add hq0 v11 n11 (sepAll_cons ((by rw [e10,e11]; exact a10)) sepAll_nil)
   have hk1:=kb_sep hq1
   have hq2:=kb_add hq1 v16 n16 (sepAll_cons (sep_of s16 0 rfl) (sepAll_cons (sep_of s16 1 rfl) sepAll_nil))
   have hk2:=kb_sep hq2
   refine go_head (sp:=[.val 87 _,.val 88 VT]) 1 1 99 1 OneC [.g 0,.g 1,.g 2,.g 3,.g 4,.g 5,.o 0] hst (zv rfl rfl (r_load (lz0 0 rfl) ty_26) o0) rfl zd zk zk (fun a w hst=>?_)
   have hst:St B w0 112 [(3,_),(4,_),(5,_),(7,_),(8,_),(9,_),(87,_)] [⟨10,26,ptrH,_⟩,⟨11,26,ptrH,_⟩,⟨13,26,ptrH,_⟩,⟨14,26,ptrH,_⟩,⟨16,26,ptrH,_⟩,⟨18,26,ptrH,_⟩,⟨20,59,ptrH,_⟩] a w:=hst
   rw [show List.range' 1 1=[1] from rfl]
   rw [wpOps_cons]
   refine op_ckS (A1:=BkE (addL [] ([]++kf (imF x y).1 (m10 0) (m10 1)))) (xs:=[.tmp 87]) [0,1,2,3,4,5] [6] 6 rfl hst ((keepF_c (imF x y).1 (m10 0) (m10 1) (addL [] []) (sepL_app hk0).2 (by rw [addL_len]; exact Nat.le_of_ble_eq_true zk)).wk (fun B cs w h=>by rw [addL_app]; exact h)) rfl rfl (.cons ⟨_,rfl,rfl⟩ .nil) rfl (may_all hB) zd zk zk zk zk (fun a w hst=>?_)
   refine wpOps_nS ?_
   have hst:St B w0 112 [(88,_),(3,_),(4,_),(5,_),(7,_),(8,_),(9,_)] [⟨10,26,ptrH,_⟩,⟨11,26,ptrH,_⟩,⟨13,26,ptrH,_⟩,⟨14,26,ptrH,_⟩,⟨16,26,ptrH,_⟩,⟨18,26,ptrH,_⟩,⟨20,59,ptrH,BkE (addL [] ([]++kf (imF x y).1 (m10 0) (m10 1)))⟩] a w:=hst
   refine zt ?_
   refine go_head (sp:=[.val 89 _,.val 90 VT]) 1 1 99 1 OneC [.g 1,.g 2,.g 3,.g 4,.g 5,.g 6,.o 0] hst (zv rfl rfl (r_load (lz0 1 rfl) ty_26) o0) rfl zd zk zk (fun a w hst=>?_)
   have hst:St B w0 112 [(3,_),(4,_),(5,_),(7,_),(8,_),(9,_),(89,_)] [⟨10,26,ptrH,_⟩,⟨11,26,ptrH,_⟩,⟨13,26,ptrH,_⟩,⟨14,26,ptrH,_⟩,⟨16,26,ptrH,_⟩,⟨18,26,ptrH,_⟩,⟨20,59,ptrH,_⟩] a w:=hst
   rw [show List.range' 1 1=[1] from rfl]
   rw [wpOps_cons]
   refine op_ckS (A1:=BkE (addL [] (([]++kf (imF x y).1 (m10 0) (m10 1))++kf (imF x y).2.1 (m11 0) (m11 1)))) (xs:=[.tmp 89]) [0,1,2,3,4,5] [6] 6 rfl hst ((keepF_c (imF x y).2.1 (m11 0) (m11 1) (addL [] ([]++kf (imF x y).1 (m10 0) (m10 1))) (sepL_app hk1).2 (by rw [addL_len]; exact Nat.le_of_ble_eq_true zk)).wk (fun B cs w h=>by rw [addL_app]; exact h)) rfl rfl (.cons ⟨_,rfl,rfl⟩ .nil) rfl (may_all hB) zd zk zk zk zk (fun a w hst=>?_)
   refine wpOps_nS ?_
   have hst:St B w0 112 [(90,_),(3,_),(4,_),(5,_),(7,_),(8,_),(9,_)] [⟨10,26,ptrH,_⟩,⟨11,26,ptrH,_⟩,⟨13,26,ptrH,_⟩,⟨14,26,ptrH,_⟩,⟨16,26,ptrH,_⟩,⟨18,26,ptrH,_⟩,⟨20,59,ptrH,BkE (addL [] (([]++kf (imF x y).1 (m10 0) (m10 1))++kf (imF x y).2.1 (m11 0) (m11 1)))⟩] a w:=hst
   refine zt ?_
   refine go_head (sp:=[.val 91 _,.val 92 VT]) 1 1 99 1 OneC [.g 1,.g 2,.g 3,.g 4,.g 5,.g 6,.o 0] hst (zv rfl rfl (r_load (lz0 4 rfl) ty_26) o0) rfl zd zk zk (fun a w hst=>?_)
   have hst:St B w0 112 [(3,_),(4,_),(5,_),(7,_),(8,_),(9,_),(91,_)] [⟨10,26,ptrH,_⟩,⟨11,26,ptrH,_⟩,⟨13,26,ptrH,_⟩,⟨14,26,ptrH,_⟩,⟨16,26,ptrH,_⟩,⟨18,26,ptrH,_⟩,⟨20,59,ptrH,_⟩] a w:=hst
   rw [show List.range' 1 1=[1] from rfl]
   rw [wpOps_cons]
   refine op_ckS (A1:=BkE (addL [] ((([]++kf (imF x y).1 (m10 0) (m10 1))++kf (imF x y).2.1 (m11 0) (m11 1))++kf (stF x z).1 (m16 0) (m16 1)))) (xs:=[.tmp 91]) [0,1,2,3,4,5] [6] 6 rfl hst ((keepF_c (stF x z).1 (m16 0) (m16 1) (addL [] (([]++kf (imF x y).1 (m10 0) (m10 1))++kf (imF x y).2.1 (m11 0) (m11 1))) (sepL_app hk2).2 (by rw [addL_len]; exact Nat.le_of_ble_eq_true zk)).wk (fun B cs w h=>by rw [addL_app]; exact h)) rfl rfl (.cons ⟨_,rfl,rfl⟩ .nil) rfl (may_all hB) zd zk zk zk zk (fun a w hst=>?_)
   refine wpOps_nS ?_
   have hst:St B w0 112 [(92,_),(3,_),(4,_),(5,_),(7,_),(8,_),(9,_)] [⟨10,26,ptrH,_⟩,⟨11,26,ptrH,_⟩,⟨13,26,ptrH,_⟩,⟨14,26,ptrH,_⟩,⟨16,26,ptrH,_⟩,⟨18,26,ptrH,_⟩,⟨20,59,ptrH,BkE (addL [] ((([]++kf (imF x y).1 (m10 0) (m10 1))++kf (imF x y).2.1 (m11 0) (m11 1))++kf (stF x z).1 (m16 0) (m16 1)))⟩] a w:=hst
   refine zt ?_
   have hst:=St.selL hst [6]
   refine go_first (m:=19) zk ?_
   refine op_ckS (A1:=JkA) (xs:=[]) [1,2,3,4,5,6] [] 0 rfl hst (apartE_c ((([]++kf (imF x y).1 (m10 0) (m10 1))++kf (imF x y).2.1 (m11 0) (m11 1))++kf (stF x z).1 (m16 0) (m16 1)) (okK_len (okK_app (okK_app (okK_app okK_nil o10) o11) o16) (lnK_app (lnK_app (lnK_app lnK_nil (lnK_f (bd_im1 x y))) (lnK_f (bd_im2 x y))) (lnK_f (bd_st x z)))) nq) rfl rfl .nil rfl (may_all hB) zd zk zk zk zk (fun a w hst=>?_)
   have hst:St B w0 112 [(93,Bo true),(3,_),(4,_),(5,_),(7,_),(8,_),(9,_)] [⟨20,_,ptrH,JkA⟩] a w:=hst
   refine go_restM (sp:=[.val 93 (Bo true),.val 94 _,.val 95 (Wh (_=true) _),.val 96 (Wh (_=true) _),.val 97 (Wh (_=true) _),.val 98 _,.val 99 _,.val 100 (Wh (_=true) _),.val 101 (Wh (_=true) _),.val 102 (Wh (_=true) _),.val 103 _,.val 104 _,.val 105 (Wh (_=true) _),.val 106 (Wh (_=true) _),.val 107 (Wh (_=true) _),.val 108 _,.val 109 _,.val 110 (Wh (_=true) _),.val 111 _,.val 6 _]) [.o 19] hst rfl zk (zv rfl rfl (r_move (vq 0 rfl)) (oc (ob_gd rfl rfl rfl (vq 1 rfl) nq (fun hg=>r_loade (has_wk' (gq 3 rfl) elo_p) ty_28)) (oc (ob_gd rfl rfl rfl (vq 1 rfl) nq (fun hg=>r_loade (has_wk' (gq 0 rfl) elo_p) ty_28)) (oc (ob_gd rfl rfl rfl (vq 1 rfl) nq (fun hg=>r_call (xs:=[.tmp 95,.tmp 96]) (leftMatrixR_c x x hb.1) (.cons (has_wk' (has_wh (vq 2 rfl) hg) rom_rmr.va) (.cons (has_wk' (has_wh (vq 3 rfl) hg) om_rma.va) .nil)))) (zv rfl rfl (r_and (vq 1 rfl) (vq 4 rfl)) (zv rfl rfl (r_move (vq 5 rfl)) (oc (ob_gd rfl rfl rfl (vq 6 rfl) nq (fun hg=>r_loade (has_wk' (gq 4 rfl) elo_p) ty_26)) (oc (ob_gd rfl rfl rfl (vq 6 rfl) nq (fun hg=>r_loade (has_wk' (gq 1 rfl) elo_p) ty_26)) (oc (ob_gd rfl rfl rfl (vq 6 rfl) nq (fun hg=>r_call (xs:=[.tmp 100,.tmp 101]) (leftFracR_c y y hb.2.1) (.cons (has_wk' (has_wh (vq 7 rfl) hg) rof_rfr.va) (.cons (has_wk' (has_wh (vq 8 rfl) hg) of_rfa.va) .nil)))) (zv rfl rfl (r_and (vq 6 rfl) (vq 9 rfl)) (zv rfl rfl (r_move (vq 10 rfl)) (oc (ob_gd rfl rfl rfl (vq 11 rfl) nq (fun hg=>r_loade (has_wk' (gq 5 rfl) elo_p) ty_26)) (oc (ob_gd rfl rfl rfl (vq 11 rfl) nq (fun hg=>r_loade (has_wk' (gq 2 rfl) elo_p) ty_26)) (oc (ob_gd rfl rfl rfl (vq 11 rfl) nq (fun hg=>r_call (xs:=[.tmp 105,.tmp 106]) (leftFracR_c z z hb.2.2) (.cons (has_wk' (has_wh (vq 12 rfl) hg) rof_rfr.va) (.cons (has_wk' (has_wh (vq 13 rfl) hg) of_rfa.va) .nil)))) (zv rfl rfl (r_and (vq 11 rfl) (vq 14 rfl)) (zv rfl rfl (r_move (vq 15 rfl)) (oc (ob_gd rfl rfl rfl (vq 16 rfl) nq (fun hg=>r_call (xs:=[]) lives11_c .nil)) (zv rfl rfl (r_and (vq 16 rfl) (vq 17 rfl)) (zv rfl rfl (r_assign (vq 18 rfl)) o0))))))))))))))))))) zk zk (fun a w hst=>?_)
   have hst:St B w0 112 [(6,_)] [⟨20,59,ptrH,_⟩] a w:=hst
   refine thn_normal ?_
   refine wp_ret ?_
   refine ret_wk ?_ (ret_tmp rfl hst (zm 0 rfl))
   refine wk_eq (congrArg Bo ?_); simp
end Go.Proofs.YthncfchnkjemiaaGreatDoor
