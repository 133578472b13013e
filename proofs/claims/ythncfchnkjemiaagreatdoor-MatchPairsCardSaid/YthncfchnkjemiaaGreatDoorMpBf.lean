import Derived.Test.YthncfchnkjemiaaGreatDoorMpAa
import Derived.Test.YthncfchnkjemiaaGreatDoorMpAc
import Derived.Test.YthncfchnkjemiaaGreatDoorMpAp
import Derived.Test.YthncfchnkjemiaaGreatDoorMpBb
import Derived.Test.YthncfchnkjemiaaGreatDoorMpBe
set_option linter.unusedVariables false
set_option linter.unusedSimpArgs false
set_option linter.unusedSectionVars false
set_option maxRecDepth 100000
namespace Go.Proofs.YthncfchnkjemiaaGreatDoor
open Go Go.RowKit
theorem byd_gg2 {x y:RG} (hx:wdG x) (hy:wdG y) (h:bydF 0 [gaussCostF x,gaussCostF y]=false):(bdF x.re∧bdF x.im)∧(bdF y.re∧bdF y.im):=by
 obtain ⟨a,b,e,l,hs⟩:=gauss_cost hx
 obtain ⟨a1,b1,e1,l1,s1⟩:=gauss_cost hy
 rw [e,e1] at h
 have:=byd_0 (l:=[a+b,a1+b1]) (by simp; omega) h
 simp at this
 unfold bdF
 omega
theorem bd_fd (q:Rat):bdF (fdF q).1:=by
 unfold fdF
 split
 ·exact bd_rf0
 ·rename_i h; exact bd_of h
theorem bd_ov (x y:RG):bdF (ovF x y).1:=by
 unfold ovF
 repeat' split
 all_goals first | exact bd_ans _ | exact bd_rf0
theorem bd_ln (x y:RG):bdF (lnF x y).1:=by
 unfold lnF
 repeat' split
 all_goals first | exact bd_fd _ | exact bd_rf0
theorem bd_sp (x y:RG):bdF (spF x y).1:=by
 unfold spF
 repeat' split
 all_goals first | exact bd_fd _ | exact bd_rf0
theorem nf_r3d {x:RF} {b:Bool} {n:Int}:∀ A∈[RFD x,BoA b,NumA .i64 n],NewA A∧FreeA A A:=fun A hA=>by
 simp at hA
 rcases hA with rfl | rfl | rfl
 ·exact ⟨new_rfd,free_rfd⟩
 ·exact ⟨new_bo _,free_bo _⟩
 ·exact ⟨new_num _ _,free_num _ _⟩
theorem pairs_w (x:RG) (hx:wdG x) (y:RG) (hy:wdG y):Cn Tryz.prog 5 [(RGA x).va,(RGA y).va] (Bo true):=by
 refine Cn.introD Tryz.func5 rfl zk nq (fun B w0 a hF0 hnd hF hst=>?_)
 have hst:St B w0 135 [(0,(RGA x).va),(1,(RGA y).va)] [] a w0.w:=hst
 refine wp_seq ?_
 refine gl (sts:=[]) (news:=[⟨2,73,ptrH,some 0,_,none⟩,⟨3,73,ptrH,some 1,_,none⟩]) (sp:=[.alc 0,.alc 1,.val 4 _]) [.o 2] hst (oc (ob_box rfl rfl rfl (gq 0 rfl)) (oc (ob_box rfl rfl rfl (gq 1 rfl)) (zv rfl rfl (r_assign has_bo) o0))) (fun a w hst=>?_)
 have hst:St B w0 135 [(4,_)] [⟨2,73,ptrH,_⟩,⟨3,73,ptrH,_⟩] a w:=hst
 refine zt ?_
 refine wp_seq ?_
 refine go_draw (anc:=[[],[0],[],[0,1,2],[0,1,2,3],[0,1,2,3,4]]) (sts:=[none,none]) (news:=[]) (sp:=[.val 24 _,.val 25 _,.val 26 _,.val 27 _,.val 28 _,.val 29 _]) [.g 0,.o 5] follows_mixed hst (zv rfl rfl (r_load (lz0 0 rfl) ty_73) (zv rfl rfl (r_call (xs:=[.tmp 24]) (gaussCost_c _) (.cons (vq 0 rfl) .nil)) (zv rfl rfl (r_load (lz0 1 rfl) ty_73) (zv rfl rfl (r_call (xs:=[.tmp 26]) (gaussCost_c _) (.cons (vq 2 rfl) .nil)) (zv rfl rfl (r_slice (D:=[]) (l:=[_,_]) (xs:=[.tmp 25,.tmp 27]) (nd_ok zk) sl_114 zk (n_ok zk) nq nq nq (.cons (vq 1 rfl) (.cons (vq 3 rfl) .nil)) rfl rfl) (zv rfl rfl (r_call (xs:=[.tmp 28]) (beyond_c [_,_]) (.cons (vq 4 rfl) .nil)) o0)))))) zk zk zk zk (fun a w hst=>?_)
 have hst:St B w0 135 [(4,_),(29,_)] [⟨2,73,ptrH,_⟩,⟨3,73,ptrH,_⟩] a w:=hst
 refine thn_normal ?_
 refine cond_of hst (zm 1 rfl) (fun hb0=>?_) (fun hb0=>?_)
 ·refine wp_seq ?_
  refine gl (sts:=[none,none]) (news:=[]) (sp:=[.val 4 _]) [.o 0] hst (zv rfl rfl (r_assign has_bo) o0) (fun a w hst=>?_)
  have hst:St B w0 135 [(4,_)] [⟨2,73,ptrH,_⟩,⟨3,73,ptrH,_⟩] a w:=hst
  refine thn_normal ?_
  refine wp_ret ?_
  refine thn_ret ?_
  refine ret_wk ?_ (ret_tmp rfl hst (zm 0 rfl))
  exact wk_id
 ·have hb:=byd_gg2 hx hy hb0
  refine wp_skip ?_
  refine zt ?_
  refine gl (sts:=[none,none]) (news:=[⟨5,73,ptrH,some 2,_,some (3,_)⟩]) (sp:=[.val 30 _,.val 31 _,.alc 2,.sto 2]) [.g 0] hst (zv rfl rfl (r_load (lz0 0 rfl) ty_73) (zv rfl rfl (r_call (xs:=[.tmp 30]) (twinGauss_c x hb.1) (.cons (vq 0 rfl) .nil)) (oc (ob_alc rfl rfl rfl (Str.zero str_gauss)) (oc (ob_sto rfl rfl rfl (vq 1 rfl) ty_73 (Eq.trans (b:=8) rfl rfl)) o0)))) (fun a w hst=>?_)
  have hst:St B w0 135 [(4,_)] [⟨2,73,ptrH,_⟩,⟨3,73,ptrH,_⟩,⟨5,73,ptrH,_⟩] a w:=hst
  refine zt ?_
  refine gl (sts:=[none,none,none]) (news:=[⟨6,73,ptrH,some 2,_,some (3,_)⟩]) (sp:=[.val 32 _,.val 33 _,.alc 3,.sto 3]) [.g 0] hst (zv rfl rfl (r_load (lz0 1 rfl) ty_73) (zv rfl rfl (r_call (xs:=[.tmp 32]) (twinGauss_c y hb.2) (.cons (vq 0 rfl) .nil)) (oc (ob_alc rfl rfl rfl (Str.zero str_gauss)) (oc (ob_sto rfl rfl rfl (vq 1 rfl) ty_73 (Eq.trans (b:=8) rfl rfl)) o0)))) (fun a w hst=>?_)
  have hst:St B w0 135 [(4,_)] [⟨2,73,ptrH,_⟩,⟨3,73,ptrH,_⟩,⟨5,73,ptrH,_⟩,⟨6,73,ptrH,_⟩] a w:=hst
  refine ground [(2,ElO 73 (OG x)),(3,ElO 73 (OG y)),(5,ElO 73 (ROG x)),(6,ElO 73 (ROG y))] hst hnd ⟨reb_l hst 0 rfl up_og,reb_l hst 1 rfl up_og,reb_l hst 2 rfl up_rgt,reb_l hst 3 rfl up_rgt,trivial⟩ (fun B w0 w hnd hF0 hB hst=>?_)
  have hst:St B w0 135 [(2,_),(3,_),(5,_),(6,_)] [] a w:=hst
  refine zt ?_
  refine go_linV (sts:=[]) (news:=[⟨7,26,ptrH,some 6,_,some (7,fun ν=>_)⟩]) (sp:=[(fun ν=>.val 35 _),(fun ν=>.val 36 _),(fun ν=>.val 37 (PinT (ν 2) [RFD (ovF x y).1,NumA .i64 (ovF x y).2] [])),(fun ν=>.val 34 _),(fun ν=>.val 38 (PinA (ν 4) ((RFD (ovF x y).1).and (SepAll [] (ν 4)))).va),(fun ν=>.val 39 _),(fun ν=>.alc 0),(fun ν=>.sto 0),(fun ν=>.val 8 _)]) [.g 0,.g 1,.g 2,.g 3,.o 8] hst ⟨of_u fun ν=>ob_v rfl rfl (r_loade (has_wk' (gq 2 rfl) elo_p) ty_73),⟨of_u fun ν=>ob_v rfl rfl (r_loade (has_wk' (gq 3 rfl) elo_p) ty_73),⟨of_callT (us:=fun ν=>[]) (xs:=[.tmp 35,.tmp 36]) rfl rfl ((overlapD_c x y).wk (.cons wkA_rgr.va (.cons wkA_rgr.va .nil))) nf_frd (.cons upA_rgr.va (.cons upA_rgr.va .nil)) (fun ν=>(.cons (has_wk' (vq 0 rfl) rog_rgr.va) (.cons (has_wk' (vq 1 rfl) rog_rgr.va) .nil))) (fun _ _=>rfl) (fun ν=>live_nil),⟨of_u fun ν=>ob_v rfl rfl (r_move (vq 2 rfl)),⟨of_ext (us:=fun ν=>[]) rfl rfl (fun ν=>(vq 3 rfl)) rfl (fun _ _=>rfl),⟨of_u fun ν=>ob_v rfl rfl (r_extT (A:=NumA .i64 (ovF x y).2) (vq 3 rfl) rfl),⟨of_u fun ν=>ob_alc rfl rfl rfl (Str.zero str_frac),⟨of_u fun ν=>ob_sto rfl rfl rfl (vq 4 rfl) ty_26 (Eq.trans (b:=4) rfl rfl),⟨of_u fun ν=>ob_v rfl rfl (r_assign (vq 5 rfl)),trivial⟩⟩⟩⟩⟩⟩⟩⟩⟩ ⟨(fun ν ν' h=>rfl),⟨(fun ν ν' h=>rfl),⟨(fun ν ν' h=>by first | rfl | simp only [h 2 rfl]),⟨(fun ν ν' h=>by first | rfl | simp only [h 2 rfl]),⟨(fun ν ν' h=>by first | rfl | simp only [h 2 rfl,h 4 rfl]),⟨(fun ν ν' h=>by first | rfl | simp only [h 2 rfl,h 4 rfl]),⟨(fun ν ν' h=>by first | rfl | simp only [h 2 rfl,h 4 rfl]),⟨(fun ν ν' h=>by first | rfl | simp only [h 2 rfl,h 4 rfl]),⟨(fun ν ν' h=>by first | rfl | simp only [h 2 rfl,h 4 rfl]),trivial⟩⟩⟩⟩⟩⟩⟩⟩⟩ ⟨(fun ν ν' h=>by first | rfl | simp only [h 2 rfl,h 4 rfl]),trivial⟩ zk (fun ν=>by kernel_rfl) (fun ν=>by kernel_rfl) (fun ν5 a w hst=>?_)
  have hst:St B w0 135 [(2,_),(3,_),(5,_),(6,_),(8,_)] [⟨7,26,ptrH,_⟩] a w:=hst
  refine zt ?_
  refine gl (sts:=[none]) (news:=[⟨9,26,ptrH,some 6,_,some (7,_)⟩]) (sp:=[.val 41 _,.val 42 _,.val 43 _,.val 40 _,.val 44 _,.val 45 _,.alc 1,.sto 1,.val 10 _]) [.g 0,.g 1,.g 2,.g 3,.g 4,.o 8] hst (zv rfl rfl (r_loade (has_wk' (gq 0 rfl) elo_p) ty_73) (zv rfl rfl (r_loade (has_wk' (gq 1 rfl) elo_p) ty_73) (zv rfl rfl (r_call (xs:=[.tmp 41,.tmp 42]) (r20overlap_c x y) (.cons (has_wk' (vq 0 rfl) og_rga.va) (.cons (has_wk' (vq 1 rfl) og_rga.va) .nil))) (zv rfl rfl (r_move (vq 2 rfl)) (zv rfl rfl (r_ex0 (vq 3 rfl)) (zv rfl rfl (r_ex1 (vq 3 rfl)) (oc (ob_alc rfl rfl rfl (Str.zero str_frac)) (oc (ob_sto rfl rfl rfl (vq 4 rfl) ty_26 (Eq.trans (b:=4) rfl rfl)) (zv rfl rfl (r_assign (vq 5 rfl)) o0))))))))) (fun a w hst=>?_)
  have hst:St B w0 135 [(2,_),(3,_),(5,_),(6,_),(8,_),(10,_)] [⟨7,26,ptrH,_⟩,⟨9,26,ptrH,_⟩] a w:=hst
  refine zt ?_
  refine go_linV (sts:=[none,none]) (news:=[⟨11,26,ptrH,some 7,_,some (8,fun ν=>_)⟩]) (sp:=[(fun ν=>.val 47 _),(fun ν=>.val 48 _),(fun ν=>.val 49 (PinT (ν 2) [RFD (lnF x y).1,BoA (lnF x y).2.1,NumA .i64 (lnF x y).2.2] [(ν5 4)])),(fun ν=>.val 46 _),(fun ν=>.val 50 (PinA (ν 4) ((RFD (lnF x y).1).and (SepAll [(ν5 4)] (ν 4)))).va),(fun ν=>.val 51 _),(fun ν=>.val 52 _),(fun ν=>.alc 2),(fun ν=>.sto 2),(fun ν=>.val 12 _),(fun ν=>.val 13 _)]) [.g 0,.g 1,.g 2,.g 3,.g 4,.g 5,.o 9,.o 10] hst ⟨of_u fun ν=>ob_v rfl rfl (r_loade (has_wk' (gq 2 rfl) elo_p) ty_73),⟨of_u fun ν=>ob_v rfl rfl (r_loade (has_wk' (gq 3 rfl) elo_p) ty_73),⟨of_callT (us:=fun ν=>[(ν5 4)]) (xs:=[.tmp 47,.tmp 48]) rfl rfl ((lensD_c x y).wk (.cons wkA_rgr.va (.cons wkA_rgr.va .nil))) nf_r3d (.cons upA_rgr.va (.cons upA_rgr.va .nil)) (fun ν=>(.cons (has_wk' (vq 0 rfl) rog_rgr.va) (.cons (has_wk' (vq 1 rfl) rog_rgr.va) .nil))) (fun _ _=>rfl) (fun ν=>(live_loc (new_and new_rfd) (lz0 0 rfl) live_nil)),⟨of_u fun ν=>ob_v rfl rfl (r_move (vq 2 rfl)),⟨of_ext (us:=fun ν=>[(ν5 4)]) rfl rfl (fun ν=>(vq 3 rfl)) rfl (fun _ _=>rfl),⟨of_u fun ν=>ob_v rfl rfl (r_extT (A:=BoA (lnF x y).2.1) (vq 3 rfl) rfl),⟨of_u fun ν=>ob_v rfl rfl (r_extT (A:=NumA .i64 (lnF x y).2.2) (vq 3 rfl) rfl),⟨of_u fun ν=>ob_alc rfl rfl rfl (Str.zero str_frac),⟨of_u fun ν=>ob_sto rfl rfl rfl (vq 4 rfl) ty_26 (Eq.trans (b:=4) rfl rfl),⟨of_u fun ν=>ob_v rfl rfl (r_assign (vq 5 rfl)),⟨of_u fun ν=>ob_v rfl rfl (r_assign (vq 6 rfl)),trivial⟩⟩⟩⟩⟩⟩⟩⟩⟩⟩⟩ ⟨(fun ν ν' h=>rfl),⟨(fun ν ν' h=>rfl),⟨(fun ν ν' h=>by first | rfl | simp only [h 2 rfl]),⟨(fun ν ν' h=>by first | rfl | simp only [h 2 rfl]),⟨(fun ν ν' h=>by first | rfl | simp only [h 2 rfl,h 4 rfl]),⟨(fun ν ν' h=>by first | rfl | simp only [h 2 rfl,h 4 rfl]),⟨(fun ν ν' h=>by first | rfl | simp only [h 2 rfl,h 4 rfl]),⟨(fun ν ν' h=>by first | rfl | simp only [h 2 rfl,h 4 rfl]),⟨(fun ν ν' h=>by first | rfl | simp only [h 2 rfl,h 4 rfl]),⟨(fun ν ν' h=>by first | rfl | simp only [h 2 rfl,h 4 rfl]),⟨(fun ν ν' h=>by first | rfl | simp only [h 2 rfl,h 4 rfl]),trivial⟩⟩⟩⟩⟩⟩⟩⟩⟩⟩⟩ ⟨trivial,⟨trivial,⟨(fun ν ν' h=>by first | rfl | simp only [h 2 rfl,h 4 rfl]),trivial⟩⟩⟩ zk (fun ν=>by kernel_rfl) (fun ν=>by kernel_rfl) (fun ν7 a w hst=>?_)
  have hst:St B w0 135 [(2,_),(3,_),(5,_),(6,_),(8,_),(10,_),(12,_),(13,_)] [⟨7,26,ptrH,_⟩,⟨9,26,ptrH,_⟩,⟨11,26,ptrH,_⟩] a w:=hst
  refine zt ?_
  refine gl (sts:=[none,none,none]) (news:=[⟨14,26,ptrH,some 7,_,some (8,_)⟩]) (sp:=[.val 54 _,.val 55 _,.val 56 _,.val 53 _,.val 57 _,.val 58 _,.val 59 _,.alc 3,.sto 3,.val 15 _,.val 16 _]) [.g 0,.g 1,.g 2,.g 3,.g 4,.g 5,.g 6,.g 7,.o 9,.o 10] hst (zv rfl rfl (r_loade (has_wk' (gq 0 rfl) elo_p) ty_73) (zv rfl rfl (r_loade (has_wk' (gq 1 rfl) elo_p) ty_73) (zv rfl rfl (r_call (xs:=[.tmp 54,.tmp 55]) (r20lens_c x y) (.cons (has_wk' (vq 0 rfl) og_rga.va) (.cons (has_wk' (vq 1 rfl) og_rga.va) .nil))) (zv rfl rfl (r_move (vq 2 rfl)) (zv rfl rfl (r_ex0 (vq 3 rfl)) (zv rfl rfl (r_ex1 (vq 3 rfl)) (zv rfl rfl (r_ex2 (vq 3 rfl)) (oc (ob_alc rfl rfl rfl (Str.zero str_frac)) (oc (ob_sto rfl rfl rfl (vq 4 rfl) ty_26 (Eq.trans (b:=4) rfl rfl)) (zv rfl rfl (r_assign (vq 5 rfl)) (zv rfl rfl (r_assign (vq 6 rfl)) o0))))))))))) (fun a w hst=>?_)
  have hst:St B w0 135 [(2,_),(3,_),(5,_),(6,_),(8,_),(10,_),(12,_),(13,_),(15,_),(16,_)] [⟨7,26,ptrH,_⟩,⟨9,26,ptrH,_⟩,⟨11,26,ptrH,_⟩,⟨14,26,ptrH,_⟩] a w:=hst
  refine zt ?_
  refine go_linV (sts:=[none,none,none,none]) (news:=[⟨17,26,ptrH,some 7,_,some (8,fun ν=>_)⟩]) (sp:=[(fun ν=>.val 61 _),(fun ν=>.val 62 _),(fun ν=>.val 63 (PinT (ν 2) [RFD (spF x y).1,BoA (spF x y).2.1,NumA .i64 (spF x y).2.2] [(ν5 4),(ν7 4)])),(fun ν=>.val 60 _),(fun ν=>.val 64 (PinA (ν 4) ((RFD (spF x y).1).and (SepAll [(ν5 4),(ν7 4)] (ν 4)))).va),(fun ν=>.val 65 _),(fun ν=>.val 66 _),(fun ν=>.alc 4),(fun ν=>.sto 4),(fun ν=>.val 18 _),(fun ν=>.val 19 _)]) [.g 0,.g 1,.g 2,.g 3,.g 4,.g 5,.g 6,.g 7,.g 8,.g 9,.o 9,.o 10] hst ⟨of_u fun ν=>ob_v rfl rfl (r_loade (has_wk' (gq 2 rfl) elo_p) ty_73),⟨of_u fun ν=>ob_v rfl rfl (r_loade (has_wk' (gq 3 rfl) elo_p) ty_73),⟨of_callT (us:=fun ν=>[(ν5 4),(ν7 4)]) (xs:=[.tmp 61,.tmp 62]) rfl rfl ((spaceD_c x y).wk (.cons wkA_rgr.va (.cons wkA_rgr.va .nil))) nf_r3d (.cons upA_rgr.va (.cons upA_rgr.va .nil)) (fun ν=>(.cons (has_wk' (vq 0 rfl) rog_rgr.va) (.cons (has_wk' (vq 1 rfl) rog_rgr.va) .nil))) (fun _ _=>rfl) (fun ν=>(live_loc (new_and new_rfd) (lz0 0 rfl) (live_loc (new_and new_rfd) (lz0 2 rfl) live_nil))),⟨of_u fun ν=>ob_v rfl rfl (r_move (vq 2 rfl)),⟨of_ext (us:=fun ν=>[(ν5 4),(ν7 4)]) rfl rfl (fun ν=>(vq 3 rfl)) rfl (fun _ _=>rfl),⟨of_u fun ν=>ob_v rfl rfl (r_extT (A:=BoA (spF x y).2.1) (vq 3 rfl) rfl),⟨of_u fun ν=>ob_v rfl rfl (r_extT (A:=NumA .i64 (spF x y).2.2) (vq 3 rfl) rfl),⟨of_u fun ν=>ob_alc rfl rfl rfl (Str.zero str_frac),⟨of_u fun ν=>ob_sto rfl rfl rfl (vq 4 rfl) ty_26 (Eq.trans (b:=4) rfl rfl),⟨of_u fun ν=>ob_v rfl rfl (r_assign (vq 5 rfl)),⟨of_u fun ν=>ob_v rfl rfl (r_assign (vq 6 rfl)),trivial⟩⟩⟩⟩⟩⟩⟩⟩⟩⟩⟩ ⟨(fun ν ν' h=>rfl),⟨(fun ν ν' h=>rfl),⟨(fun ν ν' h=>by first | rfl | simp only [h 2 rfl]),⟨(fun ν ν' h=>by first | rfl | simp only [h 2 rfl]),⟨(fun ν ν' h=>by first | rfl | simp only [h 2 rfl,h 4 rfl]),⟨(fun ν ν' h=>by first | rfl | simp only [h 2 rfl,h 4 rfl]),⟨(fun ν ν' h=>by first | rfl | simp only [h 2 rfl,h 4 rfl]),⟨(fun ν ν' h=>by first | rfl | simp only [h 2 rfl,h 4 rfl]),⟨(fun ν ν' h=>by first | rfl | simp only [h 2 rfl,h 4 rfl]),⟨(fun ν ν' h=>by first | rfl | simp only [h 2 rfl,h 4 rfl]),⟨(fun ν ν' h=>by first | rfl | simp only [h 2 rfl,h 4 rfl]),trivial⟩⟩⟩⟩⟩⟩⟩⟩⟩⟩⟩ ⟨trivial,⟨trivial,⟨trivial,⟨trivial,⟨(fun ν ν' h=>by first | rfl | simp only [h 2 rfl,h 4 rfl]),trivial⟩⟩⟩⟩⟩ zk (fun ν=>by kernel_rfl) (fun ν=>by kernel_rfl) (fun ν9 a w hst=>?_)
  have hst:St B w0 135 [(2,_),(3,_),(5,_),(6,_),(8,_),(10,_),(12,_),(13,_),(15,_),(16,_),(18,_),(19,_)] [⟨7,26,ptrH,_⟩,⟨9,26,ptrH,_⟩,⟨11,26,ptrH,_⟩,⟨14,26,ptrH,_⟩,⟨17,26,ptrH,_⟩] a w:=hst
  refine zt ?_
  refine gl (sts:=[none,none,none,none,none]) (news:=[⟨20,26,ptrH,some 7,_,some (8,_)⟩]) (sp:=[.val 68 _,.val 69 _,.val 70 _,.val 67 _,.val 71 _,.val 72 _,.val 73 _,.alc 5,.sto 5,.val 21 _,.val 22 _]) [.g 0,.g 1,.g 2,.g 3,.g 4,.g 5,.g 6,.g 7,.g 8,.g 9,.g 10,.g 11,.o 9,.o 10] hst (zv rfl rfl (r_loade (has_wk' (gq 0 rfl) elo_p) ty_73) (zv rfl rfl (r_loade (has_wk' (gq 1 rfl) elo_p) ty_73) (zv rfl rfl (r_call (xs:=[.tmp 68,.tmp 69]) (r20space_c x y) (.cons (has_wk' (vq 0 rfl) og_rga.va) (.cons (has_wk' (vq 1 rfl) og_rga.va) .nil))) (zv rfl rfl (r_move (vq 2 rfl)) (zv rfl rfl (r_ex0 (vq 3 rfl)) (zv rfl rfl (r_ex1 (vq 3 rfl)) (zv rfl rfl (r_ex2 (vq 3 rfl)) (oc (ob_alc rfl rfl rfl (Str.zero str_frac)) (oc (ob_sto rfl rfl rfl (vq 4 rfl) ty_26 (Eq.trans (b:=4) rfl rfl)) (zv rfl rfl (r_assign (vq 5 rfl)) (zv rfl rfl (r_assign (vq 6 rfl)) o0))))))))))) (fun a w hst=>?_)
  have hst:St B w0 135 [(2,_),(3,_),(5,_),(6,_),(8,_),(10,_),(12,_),(13,_),(15,_),(16,_),(18,_),(19,_),(21,_),(22,_)] [⟨7,26,ptrH,_⟩,⟨9,26,ptrH,_⟩,⟨11,26,ptrH,_⟩,⟨14,26,ptrH,_⟩,⟨17,26,ptrH,_⟩,⟨20,26,ptrH,_⟩] a w:=hst
  refine zt ?_
  refine wp_seq ?_
  refine gl (sts:=[none,none,none,none,none,none]) (news:=[]) (sp:=((.val 74 _:Sp)::(.val 75 _)::(.val 76 _)::(.val 77 _)::(.val 78 _)::(.val 79 (Wh (_=false) _))::(.val 80 (Wh (_=false) _))::(.val 81 (Wh (_=false) _))::(.val 82 _)::(.val 83 _)::(.val 84 (Wh (_=false) _))::(.val 85 (Wh (_=false) _))::(.val 86 (Wh (_=false) _))::(.val 87 (Wh (_=false) _))::(.val 88 _)::(.val 89 _)::(.val 90 (Wh (_=false) _))::(.val 91 (Wh (_=false) _))::(.val 92 (Wh (_=false) _))::(.val 93 _)::(.val 94 _)::(.val 95 (Wh (_=false) _))::(.val 96 (Wh (_=false) _))::(.val 97 (Wh (_=false) _))::(.val 98 _)::(.val 99 _)::(.val 100 (Wh (_=false) _))::(.val 101 (Wh (_=false) _))::(.val 102 (Wh (_=false) _))::(.val 103 (Wh (_=false) _))::(.val 104 _)::(.val 105 _)::(.val 106 (Wh (_=false) _))::(.val 107 (Wh (_=false) _))::(.val 108 (Wh (_=false) _))::(.val 109 _)::(.val 110 _)::(.val 111 (Wh (_=false) _))::(.val 112 (Wh (_=false) _))::(.val 113 (Wh (_=false) _))::(.val 114 _)::[])) [.g 0,.g 1,.g 2,.g 3,.o 40] hst (zv rfl rfl (r_load (lz0 0 rfl) ty_26) (zv rfl rfl (r_load (lz0 1 rfl) ty_26) (zv rfl rfl (r_call (xs:=[.tmp 74,.tmp 75]) (sameFrac_c _ _) (.cons (has_wk' (vq 0 rfl) (pin_wk.trans (and_wk.trans rfd_rfa)).va) (.cons (vq 1 rfl) .nil))) (zv rfl rfl (r_not (vq 2 rfl)) (zv rfl rfl (r_move (vq 3 rfl)) (oc (ob_gd rfl rfl rfl (vq 4 rfl) nq (fun hg=>r_move (gq 4 rfl))) (oc (ob_gd rfl rfl rfl (vq 4 rfl) nq (fun hg=>r_move (gq 5 rfl))) (oc (ob_gd rfl rfl rfl (vq 4 rfl) nq (fun hg=>r_neq (has_wh (vq 5 rfl) hg) (has_wh (vq 6 rfl) hg))) (zv rfl rfl (r_or (vq 4 rfl) (vq 7 rfl)) (zv rfl rfl (r_move (vq 8 rfl)) (oc (ob_gd rfl rfl rfl (vq 9 rfl) nq (fun hg=>r_load (lz0 2 rfl) ty_26)) (oc (ob_gd rfl rfl rfl (vq 9 rfl) nq (fun hg=>r_load (lz0 3 rfl) ty_26)) (oc (ob_gd rfl rfl rfl (vq 9 rfl) nq (fun hg=>r_call (xs:=[.tmp 84,.tmp 85]) (sameFrac_c _ _) (.cons (has_wk' (has_wh (vq 10 rfl) hg) (pin_wk.trans (and_wk.trans rfd_rfa)).va) (.cons (has_wh (vq 11 rfl) hg) .nil)))) (oc (ob_gd rfl rfl rfl (vq 9 rfl) nq (fun hg=>r_not (has_wh (vq 12 rfl) hg))) (zv rfl rfl (r_or (vq 9 rfl) (vq 13 rfl)) (zv rfl rfl (r_move (vq 14 rfl)) (oc (ob_gd rfl rfl rfl (vq 15 rfl) nq (fun hg=>r_move (gq 6 rfl))) (oc (ob_gd rfl rfl rfl (vq 15 rfl) nq (fun hg=>r_move (gq 8 rfl))) (oc (ob_gd rfl rfl rfl (vq 15 rfl) nq (fun hg=>r_neqb zk (has_wh (vq 16 rfl) hg) (has_wh (vq 17 rfl) hg))) (zv rfl rfl (r_or (vq 15 rfl) (vq 18 rfl)) (zv rfl rfl (r_move (vq 19 rfl)) (oc (ob_gd rfl rfl rfl (vq 20 rfl) nq (fun hg=>r_move (gq 7 rfl))) (oc (ob_gd rfl rfl rfl (vq 20 rfl) nq (fun hg=>r_move (gq 9 rfl))) (oc (ob_gd rfl rfl rfl (vq 20 rfl) nq (fun hg=>r_neq (has_wh (vq 21 rfl) hg) (has_wh (vq 22 rfl) hg))) (zv rfl rfl (r_or (vq 20 rfl) (vq 23 rfl)) (zv rfl rfl (r_move (vq 24 rfl)) (oc (ob_gd rfl rfl rfl (vq 25 rfl) nq (fun hg=>r_load (lz0 4 rfl) ty_26)) (oc (ob_gd rfl rfl rfl (vq 25 rfl) nq (fun hg=>r_load (lz0 5 rfl) ty_26)) (oc (ob_gd rfl rfl rfl (vq 25 rfl) nq (fun hg=>r_call (xs:=[.tmp 100,.tmp 101]) (sameFrac_c _ _) (.cons (has_wk' (has_wh (vq 26 rfl) hg) (pin_wk.trans (and_wk.trans rfd_rfa)).va) (.cons (has_wh (vq 27 rfl) hg) .nil)))) (oc (ob_gd rfl rfl rfl (vq 25 rfl) nq (fun hg=>r_not (has_wh (vq 28 rfl) hg))) (zv rfl rfl (r_or (vq 25 rfl) (vq 29 rfl)) (zv rfl rfl (r_move (vq 30 rfl)) (oc (ob_gd rfl rfl rfl (vq 31 rfl) nq (fun hg=>r_move (gq 10 rfl))) (oc (ob_gd rfl rfl rfl (vq 31 rfl) nq (fun hg=>r_move (gq 12 rfl))) (oc (ob_gd rfl rfl rfl (vq 31 rfl) nq (fun hg=>r_neqb zk (has_wh (vq 32 rfl) hg) (has_wh (vq 33 rfl) hg))) (zv rfl rfl (r_or (vq 31 rfl) (vq 34 rfl)) (zv rfl rfl (r_move (vq 35 rfl)) (oc (ob_gd rfl rfl rfl (vq 36 rfl) nq (fun hg=>r_move (gq 11 rfl))) (oc (ob_gd rfl rfl rfl (vq 36 rfl) nq (fun hg=>r_move (gq 13 rfl))) (oc (ob_gd rfl rfl rfl (vq 36 rfl) nq (fun hg=>r_neq (has_wh (vq 37 rfl) hg) (has_wh (vq 38 rfl) hg))) (zv rfl rfl (r_or (vq 36 rfl) (vq 39 rfl)) o0))))))))))))))))))))))))))))))))))))))))) (fun a w hst=>?_)
  have hst:St B w0 135 [(2,_),(3,_),(5,_),(6,_),(114,_)] [⟨7,26,ptrH,_⟩,⟨9,26,ptrH,_⟩,⟨11,26,ptrH,_⟩,⟨14,26,ptrH,_⟩,⟨17,26,ptrH,_⟩,⟨20,26,ptrH,_⟩] a w:=hst
  refine thn_normal ?_
  refine cond_of hst (zm 4 rfl) (fun hb1=>?_) (fun hb1=>?_)
  ·exact absurd hb1 (by simp)
  ·refine wp_skip ?_
   refine zt ?_
   refine gl (sts:=[none,none,none,none,none,none]) (news:=[⟨23,59,ptrH,some 0,_,none⟩]) (sp:=[.alc 6]) [.g 0,.g 1,.g 2,.g 3] hst (oc (ob_alc rfl rfl rfl zero_book) o0) (fun a w hst=>?_)
   have hst:St B w0 135 [(2,_),(3,_),(5,_),(6,_)] [⟨7,26,ptrH,_⟩,⟨9,26,ptrH,_⟩,⟨11,26,ptrH,_⟩,⟨14,26,ptrH,_⟩,⟨17,26,ptrH,_⟩,⟨20,26,ptrH,_⟩,⟨23,59,ptrH,_⟩] a w:=hst
   refine zt ?_
   obtain ⟨m7,v7,n7,o7,s7,hst⟩:=St.splitN (AP:=(fun m:Nat→Value=>FracP (ovF x y).1 (m 0) (m 1))) (kl:=(fun m:Nat→Value=>kf (ovF x y).1 (m 0) (m 1))) (WkA.refl _) fracs_names hst 0 rfl
   obtain ⟨m11,v11,n11,o11,s11,hst⟩:=St.splitN (AP:=(fun m:Nat→Value=>FracP (lnF x y).1 (m 0) (m 1))) (kl:=(fun m:Nat→Value=>kf (lnF x y).1 (m 0) (m 1))) (WkA.refl _) fracs_names hst 2 rfl
   obtain ⟨m17,v17,n17,o17,s17,hst⟩:=St.splitN (AP:=(fun m:Nat→Value=>FracP (spF x y).1 (m 0) (m 1))) (kl:=(fun m:Nat→Value=>kf (spF x y).1 (m 0) (m 1))) (WkA.refl _) fracs_names hst 4 rfl
   have hq0:=kb_add kb_nil v7 n7 sepAll_nil
   have hk0:=kb_sep hq0
   have hq1:=kb_add hq0 v11 n11 (sepAll_cons (sep_of s11 0 rfl) sepAll_nil)
   have hk1:=kb_sep hq1
   have hq2:=kb_add hq1 v17 n17 (sepAll_cons (sep_of s17 0 rfl) (sepAll_cons (sep_of s17 1 rfl) sepAll_nil))
   have hk2:=kb_sep hq2
   refine go_head (sp:=[.val 115 _,.val 116 VT]) 1 1 99 1 OneC [.g 0,.g 1,.g 2,.g 3,.o 0] hst (zv rfl rfl (r_load (lz0 0 rfl) ty_26) o0) rfl zd zk zk (fun a w hst=>?_)
   have hst:St B w0 135 [(2,_),(3,_),(5,_),(6,_),(115,_)] [⟨7,26,ptrH,_⟩,⟨9,26,ptrH,_⟩,⟨11,26,ptrH,_⟩,⟨14,26,ptrH,_⟩,⟨17,26,ptrH,_⟩,⟨20,26,ptrH,_⟩,⟨23,59,ptrH,_⟩] a w:=hst
   rw [show List.range' 1 1=[1] from rfl]
   rw [wpOps_cons]
   refine op_ckS (A1:=BkE (addL [] ([]++kf (ovF x y).1 (m7 0) (m7 1)))) (xs:=[.tmp 115]) [0,1,2,3] [4] 6 rfl hst ((keepF_c (ovF x y).1 (m7 0) (m7 1) (addL [] []) (sepL_app hk0).2 (by rw [addL_len]; exact Nat.le_of_ble_eq_true zk)).wk (fun B cs w h=>by rw [addL_app]; exact h)) rfl rfl (.cons ⟨_,rfl,rfl⟩ .nil) rfl (may_all hB) zd zk zk zk zk (fun a w hst=>?_)
   refine wpOps_nS ?_
   have hst:St B w0 135 [(116,_),(2,_),(3,_),(5,_),(6,_)] [⟨7,26,ptrH,_⟩,⟨9,26,ptrH,_⟩,⟨11,26,ptrH,_⟩,⟨14,26,ptrH,_⟩,⟨17,26,ptrH,_⟩,⟨20,26,ptrH,_⟩,⟨23,59,ptrH,BkE (addL [] ([]++kf (ovF x y).1 (m7 0) (m7 1)))⟩] a w:=hst
   refine zt ?_
   refine go_head (sp:=[.val 117 _,.val 118 VT]) 1 1 99 1 OneC [.g 1,.g 2,.g 3,.g 4,.o 0] hst (zv rfl rfl (r_load (lz0 2 rfl) ty_26) o0) rfl zd zk zk (fun a w hst=>?_)
   have hst:St B w0 135 [(2,_),(3,_),(5,_),(6,_),(117,_)] [⟨7,26,ptrH,_⟩,⟨9,26,ptrH,_⟩,⟨11,26,ptrH,_⟩,⟨14,26,ptrH,_⟩,⟨17,26,ptrH,_⟩,⟨20,26,ptrH,_⟩,⟨23,59,ptrH,_⟩] a w:=hst
   rw [show List.range' 1 1=[1] from rfl]
   rw [wpOps_cons]
   refine op_ckS (A1:=BkE (addL [] (([]++kf (ovF x y).1 (m7 0) (m7 1))++kf (lnF x y).1 (m11 0) (m11 1)))) (xs:=[.tmp 117]) [0,1,2,3] [4] 6 rfl hst ((keepF_c (lnF x y).1 (m11 0) (m11 1) (addL [] ([]++kf (ovF x y).1 (m7 0) (m7 1))) (sepL_app hk1).2 (by rw [addL_len]; exact Nat.le_of_ble_eq_true zk)).wk (fun B cs w h=>by rw [addL_app]; exact h)) rfl rfl (.cons ⟨_,rfl,rfl⟩ .nil) rfl (may_all hB) zd zk zk zk zk (fun a w hst=>?_)
   refine wpOps_nS ?_
   have hst:St B w0 135 [(118,_),(2,_),(3,_),(5,_),(6,_)] [⟨7,26,ptrH,_⟩,⟨9,26,ptrH,_⟩,⟨11,26,ptrH,_⟩,⟨14,26,ptrH,_⟩,⟨17,26,ptrH,_⟩,⟨20,26,ptrH,_⟩,⟨23,59,ptrH,BkE (addL [] (([]++kf (ovF x y).1 (m7 0) (m7 1))++kf (lnF x y).1 (m11 0) (m11 1)))⟩] a w:=hst
   refine zt ?_
   refine go_head (sp:=[.val 119 _,.val 120 VT]) 1 1 99 1 OneC [.g 1,.g 2,.g 3,.g 4,.o 0] hst (zv rfl rfl (r_load (lz0 4 rfl) ty_26) o0) rfl zd zk zk (fun a w hst=>?_)
   have hst:St B w0 135 [(2,_),(3,_),(5,_),(6,_),(119,_)] [⟨7,26,ptrH,_⟩,⟨9,26,ptrH,_⟩,⟨11,26,ptrH,_⟩,⟨14,26,ptrH,_⟩,⟨17,26,ptrH,_⟩,⟨20,26,ptrH,_⟩,⟨23,59,ptrH,_⟩] a w:=hst
   rw [show List.range' 1 1=[1] from rfl]
   rw [wpOps_cons]
   refine op_ckS (A1:=BkE (addL [] ((([]++kf (ovF x y).1 (m7 0) (m7 1))++kf (lnF x y).1 (m11 0) (m11 1))++kf (spF x y).1 (m17 0) (m17 1)))) (xs:=[.tmp 119]) [0,1,2,3] [4] 6 rfl hst ((keepF_c (spF x y).1 (m17 0) (m17 1) (addL [] (([]++kf (ovF x y).1 (m7 0) (m7 1))++kf (lnF x y).1 (m11 0) (m11 1))) (sepL_app hk2).2 (by rw [addL_len]; exact Nat.le_of_ble_eq_true zk)).wk (fun B cs w h=>by rw [addL_app]; exact h)) rfl rfl (.cons ⟨_,rfl,rfl⟩ .nil) rfl (may_all hB) zd zk zk zk zk (fun a w hst=>?_)
   refine wpOps_nS ?_
   have hst:St B w0 135 [(120,_),(2,_),(3,_),(5,_),(6,_)] [⟨7,26,ptrH,_⟩,⟨9,26,ptrH,_⟩,⟨11,26,ptrH,_⟩,⟨14,26,ptrH,_⟩,⟨17,26,ptrH,_⟩,⟨20,26,ptrH,_⟩,⟨23,59,ptrH,BkE (addL [] ((([]++kf (ovF x y).1 (m7 0) (m7 1))++kf (lnF x y).1 (m11 0) (m11 1))++kf (spF x y).1 (m17 0) (m17 1)))⟩] a w:=hst
   refine zt ?_
   have hst:=St.selL hst [6]
   refine go_first (m:=14) zk ?_
   refine op_ckS (A1:=JkA) (xs:=[]) [1,2,3,4] [] 0 rfl hst (apartE_c ((([]++kf (ovF x y).1 (m7 0) (m7 1))++kf (lnF x y).1 (m11 0) (m11 1))++kf (spF x y).1 (m17 0) (m17 1)) (okK_len (okK_app (okK_app (okK_app okK_nil o7) o11) o17) (lnK_app (lnK_app (lnK_app lnK_nil (lnK_f (bd_ov x y))) (lnK_f (bd_ln x y))) (lnK_f (bd_sp x y)))) nq) rfl rfl .nil rfl (may_all hB) zd zk zk zk zk (fun a w hst=>?_)
   have hst:St B w0 135 [(121,Bo true),(2,_),(3,_),(5,_),(6,_)] [⟨23,_,ptrH,JkA⟩] a w:=hst
   refine go_restM (sp:=[.val 121 (Bo true),.val 122 _,.val 123 (Wh (_=true) _),.val 124 (Wh (_=true) _),.val 125 (Wh (_=true) _),.val 126 _,.val 127 _,.val 128 (Wh (_=true) _),.val 129 (Wh (_=true) _),.val 130 (Wh (_=true) _),.val 131 _,.val 132 _,.val 133 (Wh (_=true) _),.val 134 _,.val 4 _]) [.o 14] hst rfl zk (zv rfl rfl (r_move (vq 0 rfl)) (oc (ob_gd rfl rfl rfl (vq 1 rfl) nq (fun hg=>r_loade (has_wk' (gq 2 rfl) elo_p) ty_73)) (oc (ob_gd rfl rfl rfl (vq 1 rfl) nq (fun hg=>r_loade (has_wk' (gq 0 rfl) elo_p) ty_73)) (oc (ob_gd rfl rfl rfl (vq 1 rfl) nq (fun hg=>r_call (xs:=[.tmp 123,.tmp 124]) (leftGaussR_c x x hb.1) (.cons (has_wk' (has_wh (vq 2 rfl) hg) rog_rgr.va) (.cons (has_wk' (has_wh (vq 3 rfl) hg) og_rga.va) .nil)))) (zv rfl rfl (r_and (vq 1 rfl) (vq 4 rfl)) (zv rfl rfl (r_move (vq 5 rfl)) (oc (ob_gd rfl rfl rfl (vq 6 rfl) nq (fun hg=>r_loade (has_wk' (gq 3 rfl) elo_p) ty_73)) (oc (ob_gd rfl rfl rfl (vq 6 rfl) nq (fun hg=>r_loade (has_wk' (gq 1 rfl) elo_p) ty_73)) (oc (ob_gd rfl rfl rfl (vq 6 rfl) nq (fun hg=>r_call (xs:=[.tmp 128,.tmp 129]) (leftGaussR_c y y hb.2) (.cons (has_wk' (has_wh (vq 7 rfl) hg) rog_rgr.va) (.cons (has_wk' (has_wh (vq 8 rfl) hg) og_rga.va) .nil)))) (zv rfl rfl (r_and (vq 6 rfl) (vq 9 rfl)) (zv rfl rfl (r_move (vq 10 rfl)) (oc (ob_gd rfl rfl rfl (vq 11 rfl) nq (fun hg=>r_call (xs:=[]) lives20_c .nil)) (zv rfl rfl (r_and (vq 11 rfl) (vq 12 rfl)) (zv rfl rfl (r_assign (vq 13 rfl)) o0)))))))))))))) zk zk (fun a w hst=>?_)
   have hst:St B w0 135 [(4,_)] [⟨23,59,ptrH,_⟩] a w:=hst
   refine thn_normal ?_
   refine wp_ret ?_
   refine ret_wk ?_ (ret_tmp rfl hst (zm 0 rfl))
   refine wk_eq (congrArg Bo ?_); simp
end Go.Proofs.YthncfchnkjemiaaGreatDoor
