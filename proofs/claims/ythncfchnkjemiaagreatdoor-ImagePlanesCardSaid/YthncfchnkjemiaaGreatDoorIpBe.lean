import Derived.Test.YthncfchnkjemiaaGreatDoorIpAa
import Derived.Test.YthncfchnkjemiaaGreatDoorIpAc
import Derived.Test.YthncfchnkjemiaaGreatDoorIpAr
import Derived.Test.YthncfchnkjemiaaGreatDoorIpBb
import Derived.Test.YthncfchnkjemiaaGreatDoorIpBd
set_option linter.unusedVariables false
set_option linter.unusedSimpArgs false
set_option linter.unusedSectionVars false
set_option maxRecDepth 100000
namespace Go.Proofs.YthncfchnkjemiaaGreatDoor
open Go Go.RowKit
theorem byd_m1 {x:RM} (hx:wdM x) (h:bydF 0 [matCostF x]=false):bdF x.a∧bdF x.b∧bdF x.c∧bdF x.d:=by
 obtain ⟨a,b,c,d,e,l,hs⟩:=mat_cost hx
 rw [e] at h
 have:=byd_0 (l:=[a+b+c+d]) (by simp; omega) h
 simp at this
 unfold bdF
 omega
theorem bd_pow (x:RM):bdF (powF x).1:=by
 unfold powF
 split
 ·exact bd_ans _
 ·exact bd_rf0
theorem bd_pl1 (x:RM):bdF (plF x).1:=by
 unfold plF
 repeat' split
 all_goals first | exact bd_tw1 _ _ | exact bd_rf0
theorem bd_pl2 (x:RM):bdF (plF x).2.1:=by
 unfold plF
 repeat' split
 all_goals first | exact bd_tw2 _ _ | exact bd_rf0
theorem planes_w (x:RM) (hx:wdM x):Cn Tryz.prog 6 [(RMA x).va] (Bo true):=by
 refine Cn.introD Tryz.func6 rfl zk nq (fun B w0 a hF0 hnd hF hst=>?_)
 have hst:St B w0 108 [(0,(RMA x).va)] [] a w0.w:=hst
 refine wp_seq ?_
 refine gl (sts:=[]) (news:=[⟨1,28,ptrH,some 0,_,none⟩]) (sp:=[.alc 0,.val 2 _]) [.o 1] hst (oc (ob_box rfl rfl rfl (gq 0 rfl)) (zv rfl rfl (r_assign has_bo) o0)) (fun a w hst=>?_)
 have hst:St B w0 108 [(2,_)] [⟨1,28,ptrH,_⟩] a w:=hst
 refine zt ?_
 refine wp_seq ?_
 refine gl (sts:=[none]) (news:=[]) (sp:=[.val 19 _,.val 20 _,.val 21 _,.val 22 _]) [.g 0,.o 3] hst (zv rfl rfl (r_load (lz0 0 rfl) ty_28) (zv rfl rfl (r_call (xs:=[.tmp 19]) (matCost_c _) (.cons (vq 0 rfl) .nil)) (zv rfl rfl (r_slice (D:=[]) (l:=[_]) (xs:=[.tmp 20]) (nd_ok zk) sl_114 zk (n_ok zk) nq nq nq (.cons (vq 1 rfl) .nil) rfl rfl) (zv rfl rfl (r_call (xs:=[.tmp 21]) (beyond_c [_]) (.cons (vq 2 rfl) .nil)) o0)))) (fun a w hst=>?_)
 have hst:St B w0 108 [(2,_),(22,_)] [⟨1,28,ptrH,_⟩] a w:=hst
 refine thn_normal ?_
 refine cond_of hst (zm 1 rfl) (fun hb0=>?_) (fun hb0=>?_)
 ·refine wp_seq ?_
  refine gl (sts:=[none]) (news:=[]) (sp:=[.val 2 _]) [.o 0] hst (zv rfl rfl (r_assign has_bo) o0) (fun a w hst=>?_)
  have hst:St B w0 108 [(2,_)] [⟨1,28,ptrH,_⟩] a w:=hst
  refine thn_normal ?_
  refine wp_ret ?_
  refine thn_ret ?_
  refine ret_wk ?_ (ret_tmp rfl hst (zm 0 rfl))
  exact wk_id
 ·have hbd:=byd_m1 hx hb0
  refine wp_skip ?_
  refine zt ?_
  refine gl (sts:=[none]) (news:=[⟨3,28,ptrH,some 2,_,some (3,_)⟩]) (sp:=[.val 23 _,.val 24 _,.alc 1,.sto 1]) [.g 0] hst (zv rfl rfl (r_load (lz0 0 rfl) ty_28) (zv rfl rfl (r_call (xs:=[.tmp 23]) (twinMatrix_c x hbd) (.cons (vq 0 rfl) .nil)) (oc (ob_alc rfl rfl rfl (Str.zero str_matrix)) (oc (ob_sto rfl rfl rfl (vq 1 rfl) ty_28 (Eq.trans (b:=16) rfl rfl)) o0)))) (fun a w hst=>?_)
  have hst:St B w0 108 [(2,_)] [⟨1,28,ptrH,_⟩,⟨3,28,ptrH,_⟩] a w:=hst
  refine ground [(1,ElO 28 (OM x)),(3,ElO 28 (ROM x))] hst hnd ⟨reb_l hst 0 rfl up_om,reb_l hst 1 rfl up_rmt,trivial⟩ (fun B w0 w hnd hF0 hB hst=>?_)
  have hst:St B w0 108 [(1,_),(3,_)] [] a w:=hst
  refine zt ?_
  refine go_linV (sts:=[]) (news:=[⟨4,26,ptrH,some 5,_,some (6,fun ν=>_)⟩]) (sp:=[(fun ν=>.val 26 _),(fun ν=>.val 27 (PinT (ν 1) [RFD (powF x).1,NumA .i64 (powF x).2] [])),(fun ν=>.val 25 _),(fun ν=>.val 28 (PinA (ν 3) ((RFD (powF x).1).and (SepAll [] (ν 3)))).va),(fun ν=>.val 29 _),(fun ν=>.alc 0),(fun ν=>.sto 0),(fun ν=>.val 5 _)]) [.g 0,.g 1,.o 7] hst ⟨of_u fun ν=>ob_v rfl rfl (r_loade (has_wk' (gq 1 rfl) elo_p) ty_28),⟨of_callT (us:=fun ν=>[]) (xs:=[.tmp 26]) rfl rfl ((powerD_c x).wk (.cons wkA_rmr.va .nil)) nf_frd (.cons upA_rmr.va .nil) (fun ν=>(.cons (has_wk' (vq 0 rfl) rom_rmr.va) .nil)) (fun _ _=>rfl) (fun ν=>live_nil),⟨of_u fun ν=>ob_v rfl rfl (r_move (vq 1 rfl)),⟨of_ext (us:=fun ν=>[]) rfl rfl (fun ν=>(vq 2 rfl)) rfl (fun _ _=>rfl),⟨of_u fun ν=>ob_v rfl rfl (r_extT (A:=NumA .i64 (powF x).2) (vq 2 rfl) rfl),⟨of_u fun ν=>ob_alc rfl rfl rfl (Str.zero str_frac),⟨of_u fun ν=>ob_sto rfl rfl rfl (vq 3 rfl) ty_26 (Eq.trans (b:=4) rfl rfl),⟨of_u fun ν=>ob_v rfl rfl (r_assign (vq 4 rfl)),trivial⟩⟩⟩⟩⟩⟩⟩⟩ ⟨(fun ν ν' h=>rfl),⟨(fun ν ν' h=>by first | rfl | simp only [h 1 rfl]),⟨(fun ν ν' h=>by first | rfl | simp only [h 1 rfl]),⟨(fun ν ν' h=>by first | rfl | simp only [h 1 rfl,h 3 rfl]),⟨(fun ν ν' h=>by first | rfl | simp only [h 1 rfl,h 3 rfl]),⟨(fun ν ν' h=>by first | rfl | simp only [h 1 rfl,h 3 rfl]),⟨(fun ν ν' h=>by first | rfl | simp only [h 1 rfl,h 3 rfl]),⟨(fun ν ν' h=>by first | rfl | simp only [h 1 rfl,h 3 rfl]),trivial⟩⟩⟩⟩⟩⟩⟩⟩ ⟨(fun ν ν' h=>by first | rfl | simp only [h 1 rfl,h 3 rfl]),trivial⟩ zk (fun ν=>by kernel_rfl) (fun ν=>by kernel_rfl) (fun ν4 a w hst=>?_)
  have hst:St B w0 108 [(1,_),(3,_),(5,_)] [⟨4,26,ptrH,_⟩] a w:=hst
  refine zt ?_
  refine gl (sts:=[none]) (news:=[⟨6,26,ptrH,some 5,_,some (6,_)⟩]) (sp:=[.val 31 _,.val 32 _,.val 30 _,.val 33 _,.val 34 _,.alc 1,.sto 1,.val 7 _]) [.g 0,.g 1,.g 2,.o 7] hst (zv rfl rfl (r_loade (has_wk' (gq 0 rfl) elo_p) ty_28) (zv rfl rfl (r_call (xs:=[.tmp 31]) (r11power_c x) (.cons (has_wk' (vq 0 rfl) om_rma.va) .nil)) (zv rfl rfl (r_move (vq 1 rfl)) (zv rfl rfl (r_ex0 (vq 2 rfl)) (zv rfl rfl (r_ex1 (vq 2 rfl)) (oc (ob_alc rfl rfl rfl (Str.zero str_frac)) (oc (ob_sto rfl rfl rfl (vq 3 rfl) ty_26 (Eq.trans (b:=4) rfl rfl)) (zv rfl rfl (r_assign (vq 4 rfl)) o0)))))))) (fun a w hst=>?_)
  have hst:St B w0 108 [(1,_),(3,_),(5,_),(7,_)] [⟨4,26,ptrH,_⟩,⟨6,26,ptrH,_⟩] a w:=hst
  refine zt ?_
  refine go_linV (sts:=[none,none]) (news:=[⟨8,26,ptrH,some 6,_,some (8,fun ν=>_)⟩,⟨9,26,ptrH,some 7,_,some (9,fun ν=>_)⟩]) (sp:=[(fun ν=>.val 36 _),(fun ν=>.val 37 (PinD (ν 1) (plF x) [(ν4 3)])),(fun ν=>.val 35 _),(fun ν=>.val 38 (PinA (ν 3) ((RFD (plF x).1).and (ν 3=prj 0 (ν 1)∧Apr (ν 1)∧SepAll [(ν4 3)] (ν 3)))).va),(fun ν=>.val 39 (PinA (ν 4) ((RFD (plF x).2.1).and (ν 4=prj 1 (ν 1)∧Apr (ν 1)∧SepAll [(ν4 3)] (ν 4)))).va),(fun ν=>.val 40 _),(fun ν=>.alc 2),(fun ν=>.alc 3),(fun ν=>.sto 2),(fun ν=>.sto 3),(fun ν=>.val 10 _)]) [.g 0,.g 1,.g 2,.g 3,.o 10] hst ⟨of_u fun ν=>ob_v rfl rfl (r_loade (has_wk' (gq 1 rfl) elo_p) ty_28),⟨of_callD (us:=fun ν=>[(ν4 3)]) (xs:=[.tmp 36]) rfl rfl ((planesD_c x).wk (.cons wkA_rmr.va .nil)) (.cons upA_rmr.va .nil) (fun ν=>(.cons (has_wk' (vq 0 rfl) rom_rmr.va) .nil)) (fun _ _=>rfl) (fun ν=>(live_loc (new_and new_rfd) (lz0 0 rfl) live_nil)),⟨of_u fun ν=>ob_v rfl rfl (r_move (vq 1 rfl)),⟨of_prjD0 (tv:=fun ν=>ν 1) (us:=fun ν=>[(ν4 3)]) rfl rfl (fun ν=>(vq 2 rfl)) (fun _ _=>rfl) (fun _ _=>rfl),⟨of_prjD1 (tv:=fun ν=>ν 1) (us:=fun ν=>[(ν4 3)]) rfl rfl (fun ν=>(vq 2 rfl)) (fun _ _=>rfl) (fun _ _=>rfl),⟨of_u fun ν=>ob_v rfl rfl (r_prjD2 (vq 2 rfl)),⟨of_u fun ν=>ob_alc rfl rfl rfl (Str.zero str_frac),⟨of_u fun ν=>ob_alc rfl rfl rfl (Str.zero str_frac),⟨of_u fun ν=>ob_sto rfl rfl rfl (vq 3 rfl) ty_26 (Eq.trans (b:=4) rfl rfl),⟨of_u fun ν=>ob_sto rfl rfl rfl (vq 4 rfl) ty_26 (Eq.trans (b:=4) rfl rfl),⟨of_u fun ν=>ob_v rfl rfl (r_assign (vq 5 rfl)),trivial⟩⟩⟩⟩⟩⟩⟩⟩⟩⟩⟩ ⟨(fun ν ν' h=>rfl),⟨(fun ν ν' h=>by first | rfl | simp only [h 1 rfl]),⟨(fun ν ν' h=>by first | rfl | simp only [h 1 rfl]),⟨(fun ν ν' h=>by first | rfl | simp only [h 1 rfl,h 3 rfl]),⟨(fun ν ν' h=>by first | rfl | simp only [h 1 rfl,h 3 rfl,h 4 rfl]),⟨(fun ν ν' h=>by first | rfl | simp only [h 1 rfl,h 3 rfl,h 4 rfl]),⟨(fun ν ν' h=>by first | rfl | simp only [h 1 rfl,h 3 rfl,h 4 rfl]),⟨(fun ν ν' h=>by first | rfl | simp only [h 1 rfl,h 3 rfl,h 4 rfl]),⟨(fun ν ν' h=>by first | rfl | simp only [h 1 rfl,h 3 rfl,h 4 rfl]),⟨(fun ν ν' h=>by first | rfl | simp only [h 1 rfl,h 3 rfl,h 4 rfl]),⟨(fun ν ν' h=>by first | rfl | simp only [h 1 rfl,h 3 rfl,h 4 rfl]),trivial⟩⟩⟩⟩⟩⟩⟩⟩⟩⟩⟩ ⟨trivial,⟨trivial,⟨(fun ν ν' h=>by first | rfl | simp only [h 1 rfl,h 3 rfl,h 4 rfl]),⟨(fun ν ν' h=>by first | rfl | simp only [h 1 rfl,h 3 rfl,h 4 rfl]),trivial⟩⟩⟩⟩ zk (fun ν=>by kernel_rfl) (fun ν=>by kernel_rfl) (fun ν6 a w hst=>?_)
  have hst:St B w0 108 [(1,_),(3,_),(5,_),(7,_),(10,_)] [⟨4,26,ptrH,_⟩,⟨6,26,ptrH,_⟩,⟨8,26,ptrH,_⟩,⟨9,26,ptrH,_⟩] a w:=hst
  refine zt ?_
  refine gl (sts:=[none,none,none,none]) (news:=[⟨11,26,ptrH,some 6,_,some (8,_)⟩,⟨12,26,ptrH,some 7,_,some (9,_)⟩]) (sp:=[.val 42 _,.val 43 _,.val 41 _,.val 44 _,.val 45 _,.val 46 _,.alc 4,.alc 5,.sto 4,.sto 5,.val 13 _]) [.g 0,.g 1,.g 2,.g 3,.g 4,.o 10] hst (zv rfl rfl (r_loade (has_wk' (gq 0 rfl) elo_p) ty_28) (zv rfl rfl (r_call (xs:=[.tmp 42]) (r11planes_c x) (.cons (has_wk' (vq 0 rfl) om_rma.va) .nil)) (zv rfl rfl (r_move (vq 1 rfl)) (zv rfl rfl (r_ex0 (vq 2 rfl)) (zv rfl rfl (r_ex1 (vq 2 rfl)) (zv rfl rfl (r_ex2 (vq 2 rfl)) (oc (ob_alc rfl rfl rfl (Str.zero str_frac)) (oc (ob_alc rfl rfl rfl (Str.zero str_frac)) (oc (ob_sto rfl rfl rfl (vq 3 rfl) ty_26 (Eq.trans (b:=4) rfl rfl)) (oc (ob_sto rfl rfl rfl (vq 4 rfl) ty_26 (Eq.trans (b:=4) rfl rfl)) (zv rfl rfl (r_assign (vq 5 rfl)) o0))))))))))) (fun a w hst=>?_)
  have hst:St B w0 108 [(1,_),(3,_),(5,_),(7,_),(10,_),(13,_)] [⟨4,26,ptrH,_⟩,⟨6,26,ptrH,_⟩,⟨8,26,ptrH,_⟩,⟨9,26,ptrH,_⟩,⟨11,26,ptrH,_⟩,⟨12,26,ptrH,_⟩] a w:=hst
  refine zt ?_
  refine gl (sts:=[none,none,none,none,none,none]) (news:=[]) (sp:=[.val 48 _,.val 49 _,.val 47 _,.val 50 _,.val 51 _,.val 14 _,.val 15 _]) [.g 0,.g 1,.g 2,.g 3,.g 4,.g 5,.o 5,.o 6] hst (zv rfl rfl (r_loade (has_wk' (gq 1 rfl) elo_p) ty_28) (zv rfl rfl (r_call (xs:=[.tmp 48]) ((sharp_c x).wk (.cons wkA_rmr.va .nil)) (.cons (has_wk' (vq 0 rfl) rom_rmr.va) .nil)) (zv rfl rfl (r_move (vq 1 rfl)) (zv rfl rfl (r_ex0 (vq 2 rfl)) (zv rfl rfl (r_ex1 (vq 2 rfl)) (zv rfl rfl (r_assign (vq 3 rfl)) (zv rfl rfl (r_assign (vq 4 rfl)) o0))))))) (fun a w hst=>?_)
  have hst:St B w0 108 [(1,_),(3,_),(5,_),(7,_),(10,_),(13,_),(14,_),(15,_)] [⟨4,26,ptrH,_⟩,⟨6,26,ptrH,_⟩,⟨8,26,ptrH,_⟩,⟨9,26,ptrH,_⟩,⟨11,26,ptrH,_⟩,⟨12,26,ptrH,_⟩] a w:=hst
  refine zt ?_
  refine gl (sts:=[none,none,none,none,none,none]) (news:=[]) (sp:=[.val 53 _,.val 54 _,.val 52 _,.val 55 _,.val 56 _,.val 16 _,.val 17 _]) [.g 0,.g 1,.g 2,.g 3,.g 4,.g 5,.g 6,.g 7,.o 5,.o 6] hst (zv rfl rfl (r_loade (has_wk' (gq 0 rfl) elo_p) ty_28) (zv rfl rfl (r_call (xs:=[.tmp 53]) (r11sharp_c x) (.cons (has_wk' (vq 0 rfl) om_rma.va) .nil)) (zv rfl rfl (r_move (vq 1 rfl)) (zv rfl rfl (r_ex0 (vq 2 rfl)) (zv rfl rfl (r_ex1 (vq 2 rfl)) (zv rfl rfl (r_assign (vq 3 rfl)) (zv rfl rfl (r_assign (vq 4 rfl)) o0))))))) (fun a w hst=>?_)
  have hst:St B w0 108 [(1,_),(3,_),(5,_),(7,_),(10,_),(13,_),(14,_),(15,_),(16,_),(17,_)] [⟨4,26,ptrH,_⟩,⟨6,26,ptrH,_⟩,⟨8,26,ptrH,_⟩,⟨9,26,ptrH,_⟩,⟨11,26,ptrH,_⟩,⟨12,26,ptrH,_⟩] a w:=hst
  refine zt ?_
  refine wp_seq ?_
  refine gl (sts:=[none,none,none,none,none,none]) (news:=[]) (sp:=((.val 57 _:Sp)::(.val 58 _)::(.val 59 _)::(.val 60 _)::(.val 61 _)::(.val 62 (Wh (_=false) _))::(.val 63 (Wh (_=false) _))::(.val 64 (Wh (_=false) _))::(.val 65 _)::(.val 66 _)::(.val 67 (Wh (_=false) _))::(.val 68 (Wh (_=false) _))::(.val 69 (Wh (_=false) _))::(.val 70 (Wh (_=false) _))::(.val 71 _)::(.val 72 _)::(.val 73 (Wh (_=false) _))::(.val 74 (Wh (_=false) _))::(.val 75 (Wh (_=false) _))::(.val 76 (Wh (_=false) _))::(.val 77 _)::(.val 78 _)::(.val 79 (Wh (_=false) _))::(.val 80 (Wh (_=false) _))::(.val 81 (Wh (_=false) _))::(.val 82 _)::(.val 83 _)::(.val 84 (Wh (_=false) _))::(.val 85 (Wh (_=false) _))::(.val 86 (Wh (_=false) _))::(.val 87 _)::(.val 88 _)::(.val 89 (Wh (_=false) _))::(.val 90 (Wh (_=false) _))::(.val 91 (Wh (_=false) _))::(.val 92 _)::[])) [.g 0,.g 1,.o 35] hst (zv rfl rfl (r_load (lz0 0 rfl) ty_26) (zv rfl rfl (r_load (lz0 1 rfl) ty_26) (zv rfl rfl (r_call (xs:=[.tmp 57,.tmp 58]) (sameFrac_c _ _) (.cons (has_wk' (vq 0 rfl) (pin_wk.trans (and_wk.trans rfd_rfa)).va) (.cons (vq 1 rfl) .nil))) (zv rfl rfl (r_not (vq 2 rfl)) (zv rfl rfl (r_move (vq 3 rfl)) (oc (ob_gd rfl rfl rfl (vq 4 rfl) nq (fun hg=>r_move (gq 2 rfl))) (oc (ob_gd rfl rfl rfl (vq 4 rfl) nq (fun hg=>r_move (gq 3 rfl))) (oc (ob_gd rfl rfl rfl (vq 4 rfl) nq (fun hg=>r_neq (has_wh (vq 5 rfl) hg) (has_wh (vq 6 rfl) hg))) (zv rfl rfl (r_or (vq 4 rfl) (vq 7 rfl)) (zv rfl rfl (r_move (vq 8 rfl)) (oc (ob_gd rfl rfl rfl (vq 9 rfl) nq (fun hg=>r_load (lz0 2 rfl) ty_26)) (oc (ob_gd rfl rfl rfl (vq 9 rfl) nq (fun hg=>r_load (lz0 4 rfl) ty_26)) (oc (ob_gd rfl rfl rfl (vq 9 rfl) nq (fun hg=>r_call (xs:=[.tmp 67,.tmp 68]) (sameFrac_c _ _) (.cons (has_wk' (has_wh (vq 10 rfl) hg) (pin_wk.trans (and_wk.trans rfd_rfa)).va) (.cons (has_wh (vq 11 rfl) hg) .nil)))) (oc (ob_gd rfl rfl rfl (vq 9 rfl) nq (fun hg=>r_not (has_wh (vq 12 rfl) hg))) (zv rfl rfl (r_or (vq 9 rfl) (vq 13 rfl)) (zv rfl rfl (r_move (vq 14 rfl)) (oc (ob_gd rfl rfl rfl (vq 15 rfl) nq (fun hg=>r_load (lz0 3 rfl) ty_26)) (oc (ob_gd rfl rfl rfl (vq 15 rfl) nq (fun hg=>r_load (lz0 5 rfl) ty_26)) (oc (ob_gd rfl rfl rfl (vq 15 rfl) nq (fun hg=>r_call (xs:=[.tmp 73,.tmp 74]) (sameFrac_c _ _) (.cons (has_wk' (has_wh (vq 16 rfl) hg) (pin_wk.trans (and_wk.trans rfd_rfa)).va) (.cons (has_wh (vq 17 rfl) hg) .nil)))) (oc (ob_gd rfl rfl rfl (vq 15 rfl) nq (fun hg=>r_not (has_wh (vq 18 rfl) hg))) (zv rfl rfl (r_or (vq 15 rfl) (vq 19 rfl)) (zv rfl rfl (r_move (vq 20 rfl)) (oc (ob_gd rfl rfl rfl (vq 21 rfl) nq (fun hg=>r_move (gq 4 rfl))) (oc (ob_gd rfl rfl rfl (vq 21 rfl) nq (fun hg=>r_move (gq 5 rfl))) (oc (ob_gd rfl rfl rfl (vq 21 rfl) nq (fun hg=>r_neq (has_wh (vq 22 rfl) hg) (has_wh (vq 23 rfl) hg))) (zv rfl rfl (r_or (vq 21 rfl) (vq 24 rfl)) (zv rfl rfl (r_move (vq 25 rfl)) (oc (ob_gd rfl rfl rfl (vq 26 rfl) nq (fun hg=>r_move (gq 6 rfl))) (oc (ob_gd rfl rfl rfl (vq 26 rfl) nq (fun hg=>r_move (gq 8 rfl))) (oc (ob_gd rfl rfl rfl (vq 26 rfl) nq (fun hg=>r_neqb zk (has_wh (vq 27 rfl) hg) (has_wh (vq 28 rfl) hg))) (zv rfl rfl (r_or (vq 26 rfl) (vq 29 rfl)) (zv rfl rfl (r_move (vq 30 rfl)) (oc (ob_gd rfl rfl rfl (vq 31 rfl) nq (fun hg=>r_move (gq 7 rfl))) (oc (ob_gd rfl rfl rfl (vq 31 rfl) nq (fun hg=>r_move (gq 9 rfl))) (oc (ob_gd rfl rfl rfl (vq 31 rfl) nq (fun hg=>r_neq (has_wh (vq 32 rfl) hg) (has_wh (vq 33 rfl) hg))) (zv rfl rfl (r_or (vq 31 rfl) (vq 34 rfl)) o0)))))))))))))))))))))))))))))))))))) (fun a w hst=>?_)
  have hst:St B w0 108 [(1,_),(3,_),(92,_)] [⟨4,26,ptrH,_⟩,⟨6,26,ptrH,_⟩,⟨8,26,ptrH,_⟩,⟨9,26,ptrH,_⟩,⟨11,26,ptrH,_⟩,⟨12,26,ptrH,_⟩] a w:=hst
  refine thn_normal ?_
  refine cond_of hst (zm 2 rfl) (fun hb1=>?_) (fun hb1=>?_)
  ·exact absurd hb1 (by simp)
  ·refine wp_skip ?_
   refine zt ?_
   refine gl (sts:=[none,none,none,none,none,none]) (news:=[⟨18,59,ptrH,some 0,_,none⟩]) (sp:=[.alc 6]) [.g 0,.g 1] hst (oc (ob_alc rfl rfl rfl zero_book) o0) (fun a w hst=>?_)
   have hst:St B w0 108 [(1,_),(3,_)] [⟨4,26,ptrH,_⟩,⟨6,26,ptrH,_⟩,⟨8,26,ptrH,_⟩,⟨9,26,ptrH,_⟩,⟨11,26,ptrH,_⟩,⟨12,26,ptrH,_⟩,⟨18,59,ptrH,_⟩] a w:=hst
   refine zt ?_
   obtain ⟨m4,v4,n4,o4,s4,hst⟩:=St.splitN (AP:=(fun m:Nat→Value=>FracP (powF x).1 (m 0) (m 1))) (kl:=(fun m:Nat→Value=>kf (powF x).1 (m 0) (m 1))) (WkA.refl _) fracs_names hst 0 rfl
   obtain ⟨m8,v8,n8,o8,⟨e8,a8,s8⟩,hst⟩:=St.splitN (AP:=(fun m:Nat→Value=>FracP (plF x).1 (m 0) (m 1))) (kl:=(fun m:Nat→Value=>kf (plF x).1 (m 0) (m 1))) (WkA.refl _) fracs_names hst 2 rfl
   obtain ⟨m9,v9,n9,o9,⟨e9,a9,s9⟩,hst⟩:=St.splitN (AP:=(fun m:Nat→Value=>FracP (plF x).2.1 (m 0) (m 1))) (kl:=(fun m:Nat→Value=>kf (plF x).2.1 (m 0) (m 1))) (WkA.refl _) fracs_names hst 3 rfl
   have hq0:=kb_add kb_nil v4 n4 sepAll_nil
   have hk0:=kb_sep hq0
   have hq1:=kb_add hq0 v8 n8 (sepAll_cons (sep_of s8 0 rfl) sepAll_nil)
   have hk1:=kb_sep hq1
   have hq2:=kb_add hq1 v9 n9 (sepAll_cons (sep_of s9 0 rfl) (sepAll_cons ((by rw [e8,e9]; exact a8)) sepAll_nil))
   have hk2:=kb_sep hq2
   refine go_head (sp:=[.val 93 _,.val 94 VT]) 1 1 99 1 OneC [.g 0,.g 1,.o 0] hst (zv rfl rfl (r_load (lz0 0 rfl) ty_26) o0) rfl zd zk zk (fun a w hst=>?_)
   have hst:St B w0 108 [(1,_),(3,_),(93,_)] [⟨4,26,ptrH,_⟩,⟨6,26,ptrH,_⟩,⟨8,26,ptrH,_⟩,⟨9,26,ptrH,_⟩,⟨11,26,ptrH,_⟩,⟨12,26,ptrH,_⟩,⟨18,59,ptrH,_⟩] a w:=hst
   rw [show List.range' 1 1=[1] from rfl]
   rw [wpOps_cons]
   refine op_ckS (A1:=BkE (addL [] ([]++kf (powF x).1 (m4 0) (m4 1)))) (xs:=[.tmp 93]) [0,1] [2] 6 rfl hst ((keepF_c (powF x).1 (m4 0) (m4 1) (addL [] []) (sepL_app hk0).2 (by rw [addL_len]; exact Nat.le_of_ble_eq_true zk)).wk (fun B cs w h=>by rw [addL_app]; exact h)) rfl rfl (.cons ⟨_,rfl,rfl⟩ .nil) rfl (may_all hB) zd zk zk zk zk (fun a w hst=>?_)
   refine wpOps_nS ?_
   have hst:St B w0 108 [(94,_),(1,_),(3,_)] [⟨4,26,ptrH,_⟩,⟨6,26,ptrH,_⟩,⟨8,26,ptrH,_⟩,⟨9,26,ptrH,_⟩,⟨11,26,ptrH,_⟩,⟨12,26,ptrH,_⟩,⟨18,59,ptrH,BkE (addL [] ([]++kf (powF x).1 (m4 0) (m4 1)))⟩] a w:=hst
   refine zt ?_
   refine go_head (sp:=[.val 95 _,.val 96 VT]) 1 1 99 1 OneC [.g 1,.g 2,.o 0] hst (zv rfl rfl (r_load (lz0 2 rfl) ty_26) o0) rfl zd zk zk (fun a w hst=>?_)
   have hst:St B w0 108 [(1,_),(3,_),(95,_)] [⟨4,26,ptrH,_⟩,⟨6,26,ptrH,_⟩,⟨8,26,ptrH,_⟩,⟨9,26,ptrH,_⟩,⟨11,26,ptrH,_⟩,⟨12,26,ptrH,_⟩,⟨18,59,ptrH,_⟩] a w:=hst
   rw [show List.range' 1 1=[1] from rfl]
   rw [wpOps_cons]
   refine op_ckS (A1:=BkE (addL [] (([]++kf (powF x).1 (m4 0) (m4 1))++kf (plF x).1 (m8 0) (m8 1)))) (xs:=[.tmp 95]) [0,1] [2] 6 rfl hst ((keepF_c (plF x).1 (m8 0) (m8 1) (addL [] ([]++kf (powF x).1 (m4 0) (m4 1))) (sepL_app hk1).2 (by rw [addL_len]; exact Nat.le_of_ble_eq_true zk)).wk (fun B cs w h=>by rw [addL_app]; exact h)) rfl rfl (.cons ⟨_,rfl,rfl⟩ .nil) rfl (may_all hB) zd zk zk zk zk (fun a w hst=>?_)
   refine wpOps_nS ?_
   have hst:St B w0 108 [(96,_),(1,_),(3,_)] [⟨4,26,ptrH,_⟩,⟨6,26,ptrH,_⟩,⟨8,26,ptrH,_⟩,⟨9,26,ptrH,_⟩,⟨11,26,ptrH,_⟩,⟨12,26,ptrH,_⟩,⟨18,59,ptrH,BkE (addL [] (([]++kf (powF x).1 (m4 0) (m4 1))++kf (plF x).1 (m8 0) (m8 1)))⟩] a w:=hst
   refine zt ?_
   refine go_head (sp:=[.val 97 _,.val 98 VT]) 1 1 99 1 OneC [.g 1,.g 2,.o 0] hst (zv rfl rfl (r_load (lz0 3 rfl) ty_26) o0) rfl zd zk zk (fun a w hst=>?_)
   have hst:St B w0 108 [(1,_),(3,_),(97,_)] [⟨4,26,ptrH,_⟩,⟨6,26,ptrH,_⟩,⟨8,26,ptrH,_⟩,⟨9,26,ptrH,_⟩,⟨11,26,ptrH,_⟩,⟨12,26,ptrH,_⟩,⟨18,59,ptrH,_⟩] a w:=hst
   rw [show List.range' 1 1=[1] from rfl]
   rw [wpOps_cons]
   refine op_ckS (A1:=BkE (addL [] ((([]++kf (powF x).1 (m4 0) (m4 1))++kf (plF x).1 (m8 0) (m8 1))++kf (plF x).2.1 (m9 0) (m9 1)))) (xs:=[.tmp 97]) [0,1] [2] 6 rfl hst ((keepF_c (plF x).2.1 (m9 0) (m9 1) (addL [] (([]++kf (powF x).1 (m4 0) (m4 1))++kf (plF x).1 (m8 0) (m8 1))) (sepL_app hk2).2 (by rw [addL_len]; exact Nat.le_of_ble_eq_true zk)).wk (fun B cs w h=>by rw [addL_app]; exact h)) rfl rfl (.cons ⟨_,rfl,rfl⟩ .nil) rfl (may_all hB) zd zk zk zk zk (fun a w hst=>?_)
   refine wpOps_nS ?_
   have hst:St B w0 108 [(98,_),(1,_),(3,_)] [⟨4,26,ptrH,_⟩,⟨6,26,ptrH,_⟩,⟨8,26,ptrH,_⟩,⟨9,26,ptrH,_⟩,⟨11,26,ptrH,_⟩,⟨12,26,ptrH,_⟩,⟨18,59,ptrH,BkE (addL [] ((([]++kf (powF x).1 (m4 0) (m4 1))++kf (plF x).1 (m8 0) (m8 1))++kf (plF x).2.1 (m9 0) (m9 1)))⟩] a w:=hst
   refine zt ?_
   have hst:=St.selL hst [6]
   refine go_first (m:=9) zk ?_
   refine op_ckS (A1:=JkA) (xs:=[]) [1,2] [] 0 rfl hst (apartE_c ((([]++kf (powF x).1 (m4 0) (m4 1))++kf (plF x).1 (m8 0) (m8 1))++kf (plF x).2.1 (m9 0) (m9 1)) (okK_len (okK_app (okK_app (okK_app okK_nil o4) o8) o9) (lnK_app (lnK_app (lnK_app lnK_nil (lnK_f (bd_pow x))) (lnK_f (bd_pl1 x))) (lnK_f (bd_pl2 x)))) nq) rfl rfl .nil rfl (may_all hB) zd zk zk zk zk (fun a w hst=>?_)
   have hst:St B w0 108 [(99,Bo true),(1,_),(3,_)] [⟨18,_,ptrH,JkA⟩] a w:=hst
   refine go_restM (sp:=[.val 99 (Bo true),.val 100 _,.val 101 (Wh (_=true) _),.val 102 (Wh (_=true) _),.val 103 (Wh (_=true) _),.val 104 _,.val 105 _,.val 106 (Wh (_=true) _),.val 107 _,.val 2 _]) [.o 9] hst rfl zk (zv rfl rfl (r_move (vq 0 rfl)) (oc (ob_gd rfl rfl rfl (vq 1 rfl) nq (fun hg=>r_loade (has_wk' (gq 1 rfl) elo_p) ty_28)) (oc (ob_gd rfl rfl rfl (vq 1 rfl) nq (fun hg=>r_loade (has_wk' (gq 0 rfl) elo_p) ty_28)) (oc (ob_gd rfl rfl rfl (vq 1 rfl) nq (fun hg=>r_call (xs:=[.tmp 101,.tmp 102]) (leftMatrixR_c x x hbd) (.cons (has_wk' (has_wh (vq 2 rfl) hg) rom_rmr.va) (.cons (has_wk' (has_wh (vq 3 rfl) hg) om_rma.va) .nil)))) (zv rfl rfl (r_and (vq 1 rfl) (vq 4 rfl)) (zv rfl rfl (r_move (vq 5 rfl)) (oc (ob_gd rfl rfl rfl (vq 6 rfl) nq (fun hg=>r_call (xs:=[]) lives11_c .nil)) (zv rfl rfl (r_and (vq 6 rfl) (vq 7 rfl)) (zv rfl rfl (r_assign (vq 8 rfl)) o0))))))))) zk zk (fun a w hst=>?_)
   have hst:St B w0 108 [(2,_)] [⟨18,59,ptrH,_⟩] a w:=hst
   refine thn_normal ?_
   refine wp_ret ?_
   refine ret_wk ?_ (ret_tmp rfl hst (zm 0 rfl))
   refine wk_eq (congrArg Bo ?_); simp
end Go.Proofs.YthncfchnkjemiaaGreatDoor
