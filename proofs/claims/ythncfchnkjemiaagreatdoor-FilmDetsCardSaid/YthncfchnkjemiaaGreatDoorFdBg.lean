import Derived.Test.YthncfchnkjemiaaGreatDoorFdAa
import Derived.Test.YthncfchnkjemiaaGreatDoorFdAc
import Derived.Test.YthncfchnkjemiaaGreatDoorFdBc
import Derived.Test.YthncfchnkjemiaaGreatDoorFdBe
import Derived.Test.YthncfchnkjemiaaGreatDoorFdBf
set_option linter.unusedVariables false
set_option linter.unusedSimpArgs false
set_option linter.unusedSectionVars false
set_option maxRecDepth 100000
namespace Go.Proofs.YthncfchnkjemiaaGreatDoor
open Go Go.RowKit
theorem byd_4g {x:RQ4} (hx:wdQ x) (h:bydF 0 [gaussCostF x.a,gaussCostF x.b,gaussCostF x.c,gaussCostF x.d]=false):bdQ x:=by
 obtain ⟨h1,h2,h3,h4⟩:=hx
 obtain ⟨a1,b1,e1,l1,s1⟩:=zg0 h1
 obtain ⟨a2,b2,e2,l2,s2⟩:=zg0 h2
 obtain ⟨a3,b3,e3,l3,s3⟩:=zg0 h3
 obtain ⟨a4,b4,e4,l4,s4⟩:=zg0 h4
 rw [e1,e2,e3,e4] at h
 have:=byd_0 (l:=[a1+b1,a2+b2,a3+b3,a4+b4]) (by simp; omega) h
 simp at this
 unfold bdQ bdG bdF
 omega
theorem bd_det (q:RQ4):bdG (detF q).1:=by
 unfold detF
 split
 ·unfold ansG
  split
  ·exact ⟨bd_rf0,bd_rf0⟩
  ·rename_i h; exact ⟨bd_of fun e=>h (by simp [longG,e]),bd_of fun e=>h (by simp [longG,e])⟩
 ·exact ⟨bd_rf0,bd_rf0⟩
theorem nf_grd {x:RG} {n:Int}:∀ A∈[RGD x,NumA .i64 n],NewA A∧FreeA A A:=fun A hA=>by
 simp at hA
 rcases hA with rfl | rfl
 ·exact ⟨new_rgd,free_rgd⟩
 ·exact ⟨new_num _ _,free_num _ _⟩
theorem addL_kg {x:RG} {m:Nat→Value} {L:List Slot}:addL L (kg x m)=addL (addL L (kf x.re (m 0) (m 1))) (kf x.im (m 2) (m 3)):=by
 unfold kg
 rw [zcx (l:=(kf x.re (m 0) (m 1))) (m:=kf x.im (m 2) (m 3))]
theorem addL_kq {x:RQ4} {m:Nat→Value} {L:List Slot}:addL L (kq x m)=addL (addL (addL (addL L (kg x.a (fun i=>m (i+0)))) (kg x.b (fun i=>m (i+4)))) (kg x.c (fun i=>m (i+8)))) (kg x.d (fun i=>m (i+12))):=by
 unfold kq
 rw [zcx (l:=(kg x.a (fun i=>m (i+0)))++(kg x.b (fun i=>m (i+4)))++(kg x.c (fun i=>m (i+8)))) (m:=kg x.d (fun i=>m (i+12))),zcx (l:=(kg x.a (fun i=>m (i+0)))++(kg x.b (fun i=>m (i+4)))) (m:=kg x.c (fun i=>m (i+8))),zcx (l:=(kg x.a (fun i=>m (i+0)))) (m:=kg x.b (fun i=>m (i+4)))]
set_option maxHeartbeats 2000000 in
theorem dets_w (x:RQ4) (hx:wdQ x):Cn Tryz.prog 10 [(RQA x).va] (Bo true):=by
 refine Cn.introW Tryz.func10 rfl zk nq (.cons up_oq.va .nil) (zfo _).va (fun B w0 a hB0 hst=>?_)
 have hst:St B w0 79 [(0,(OQ x).va)] [] a w0.w:=hst
 have hB:=hB0
 refine wp_seq ?_
 refine gl (sts:=[]) (news:=[⟨1,98,ptrH,some 0,_,none⟩]) (sp:=[.alc 0,.val 2 _]) [.o 1] hst (oc (zai rfl rfl rfl (gq 0 rfl)) (zv rfl rfl (za2 zb7) o0)) (fun a w hst=>?_)
 have hst:St B w0 79 [(2,_)] [⟨1,98,ptrH,_⟩] a w:=hst
 refine zt ?_
 refine wp_seq ?_
 refine zau (anc:=[[],[0],[0,1],[],[3],[0,1,2,3,4],[],[6],[0,1,2,3,4,5,6,7],[],[9],[0,1,2,3,4,5,6,7,8,9,10],[0,1,2,3,4,5,6,7,8,9,10,11],[0,1,2,3,4,5,6,7,8,9,10,11,12]]) (sts:=[none]) (news:=[]) (sp:=[.adr 11 1 (.some 0) True,.val 12 _,.val 13 _,.adr 14 1 (.some 8) True,.val 15 _,.val 16 _,.adr 17 1 (.some 16) True,.val 18 _,.val 19 _,.adr 20 1 (.some 24) True,.val 21 _,.val 22 _,.val 23 _,.val 24 _]) [.g 0,.o 13] za6 hst (oc (ob_a rfl rfl (za9 (lz0 0 rfl) zdi)) (zv rfl rfl (za4 0 rfl zk trivial (lz0 0 rfl) (Sub.part 0 rfl rfl) zb1) (zv rfl rfl (za5 (xs:=[.tmp 12]) (zf3 x.a) (.cons (has_wk' (vq 1 rfl) og_rga.va) .nil)) (oc (ob_a rfl rfl (za9 (lz0 0 rfl) zdh)) (zv rfl rfl (za4 3 rfl zk trivial (lz0 0 rfl) (Sub.part 1 rfl rfl) zb1) (zv rfl rfl (za5 (xs:=[.tmp 15]) (zf3 x.b) (.cons (has_wk' (vq 4 rfl) og_rga.va) .nil)) (oc (ob_a rfl rfl (za9 (lz0 0 rfl) zdx)) (zv rfl rfl (za4 6 rfl zk trivial (lz0 0 rfl) (Sub.part 2 rfl rfl) zb1) (zv rfl rfl (za5 (xs:=[.tmp 18]) (zf3 x.c) (.cons (has_wk' (vq 7 rfl) og_rga.va) .nil)) (oc (ob_a rfl rfl (za9 (lz0 0 rfl) zdw)) (zv rfl rfl (za4 9 rfl zk trivial (lz0 0 rfl) (Sub.part 3 rfl rfl) zb1) (zv rfl rfl (za5 (xs:=[.tmp 21]) (zf3 x.d) (.cons (has_wk' (vq 10 rfl) og_rga.va) .nil)) (zv rfl rfl (zco (D:=[]) (l:=[_,_,_,_]) (xs:=[.tmp 13,.tmp 16,.tmp 19,.tmp 22]) (zf9 zk) sl_114 zk (n_ok zk) nq nq nq (.cons (vq 2 rfl) (.cons (vq 5 rfl) (.cons (vq 8 rfl) (.cons (vq 11 rfl) .nil)))) rfl rfl) (zv rfl rfl (za5 (xs:=[.tmp 23]) (beyond_c [_,_,_,_]) (.cons (vq 12 rfl) .nil)) o0)))))))))))))) zk zk zk zk (fun a w hst=>?_)
 have hst:St B w0 79 [(2,_),(24,_)] [⟨1,98,ptrH,_⟩] a w:=hst
 refine za0 ?_
 refine za8 hst (zm 1 rfl) (fun hb0=>?_) (fun hb0=>?_)
 ·refine wp_seq ?_
  refine gl (sts:=[none]) (news:=[]) (sp:=[.val 2 _]) [.o 0] hst (zv rfl rfl (za2 zb7) o0) (fun a w hst=>?_)
  have hst:St B w0 79 [(2,_)] [⟨1,98,ptrH,_⟩] a w:=hst
  refine za0 ?_
  refine wp_ret ?_
  refine zao ?_
  refine zaq ?_ (zah rfl hst (zm 0 rfl))
  exact zbt
 ·have hb:=byd_4g hx hb0
  refine wp_skip ?_
  refine zt ?_
  refine zj5 (sts:=[none]) (news:=[⟨3,98,ptrH,some 2,_,some (3,fun ν=>_)⟩]) (sp:=[(fun ν=>.val 25 _),(fun ν=>.val 26 (PinA (ν 1) ((TQD x).and (SepAll [] (ν 1)))).va),(fun ν=>.alc 1),(fun ν=>.sto 1)]) [.g 0] hst ⟨of_u fun ν=>ob_v rfl rfl (zad (lz0 0 rfl) zea),⟨zdd (us:=fun ν=>[]) (xs:=[.tmp 25]) rfl rfl (twinQuadD_c x hb) new_tqd free_tqd (.cons (upA_rq _).va .nil) (fun ν=>(.cons (has_wk' (vq 0 rfl) oq_rqa.va) .nil)) (fun _ _=>rfl) (fun ν=>zc8),⟨of_u fun ν=>zan rfl rfl rfl (Str.zero zd7),⟨of_u fun ν=>zaa rfl rfl rfl (vq 1 rfl) zea (Eq.trans (b:=32) rfl rfl),trivial⟩⟩⟩⟩ ⟨(fun ν ν' h=>rfl),⟨(fun ν ν' h=>by first | rfl | simp only [h 1 rfl]),⟨(fun ν ν' h=>by first | rfl | simp only [h 1 rfl]),⟨(fun ν ν' h=>by first | rfl | simp only [h 1 rfl]),trivial⟩⟩⟩⟩ ⟨trivial,⟨(fun ν ν' h=>by first | rfl | simp only [h 1 rfl]),trivial⟩⟩ zk (fun ν=>by kernel_rfl) (fun ν=>by kernel_rfl) (fun ν3 a w hst=>?_)
  have hst:St B w0 79 [(2,_)] [⟨1,98,ptrH,_⟩,⟨3,98,ptrH,_⟩] a w:=hst
  refine zt ?_
  refine zj5 (sts:=[none,none]) (news:=[⟨4,73,ptrH,some 5,_,some (6,fun ν=>_)⟩]) (sp:=[(fun ν=>.val 28 _),(fun ν=>.val 29 (PinT (ν 1) [RGD (detF x).1,NumA .i64 (detF x).2] [(ν3 1)])),(fun ν=>.val 27 _),(fun ν=>.val 30 (PinA (ν 3) ((RGD (detF x).1).and (SepAll [(ν3 1)] (ν 3)))).va),(fun ν=>.val 31 _),(fun ν=>.alc 2),(fun ν=>.sto 2),(fun ν=>.val 5 _)]) [.g 0,.o 7] hst ⟨of_u fun ν=>ob_v rfl rfl (zad (lz0 1 rfl) zea),⟨zia (us:=fun ν=>[(ν3 1)]) (xs:=[.tmp 28]) rfl rfl ((detD_c x).wk (.cons wkA_rqr.va .nil)) nf_grd (.cons upA_rqr.va .nil) (fun ν=>(.cons (has_wk' (vq 0 rfl) (pin_wk.trans (and_wk.trans (dis_wk.trans rqt_rqr))).va) .nil)) (fun _ _=>rfl) (fun ν=>(zgx (zcr new_tqd) (lz0 1 rfl) zc8)),⟨of_u fun ν=>ob_v rfl rfl (za1 (vq 1 rfl)),⟨zk8 (us:=fun ν=>[(ν3 1)]) rfl rfl (fun ν=>(vq 2 rfl)) rfl (fun _ _=>rfl),⟨of_u fun ν=>ob_v rfl rfl (r_extT (A:=NumA .i64 (detF x).2) (vq 2 rfl) rfl),⟨of_u fun ν=>zan rfl rfl rfl (Str.zero zaz),⟨of_u fun ν=>zaa rfl rfl rfl (vq 3 rfl) zb1 (Eq.trans (b:=8) rfl rfl),⟨of_u fun ν=>ob_v rfl rfl (za2 (vq 4 rfl)),trivial⟩⟩⟩⟩⟩⟩⟩⟩ ⟨(fun ν ν' h=>rfl),⟨(fun ν ν' h=>by first | rfl | simp only [h 1 rfl]),⟨(fun ν ν' h=>by first | rfl | simp only [h 1 rfl]),⟨(fun ν ν' h=>by first | rfl | simp only [h 1 rfl,h 3 rfl]),⟨(fun ν ν' h=>by first | rfl | simp only [h 1 rfl,h 3 rfl]),⟨(fun ν ν' h=>by first | rfl | simp only [h 1 rfl,h 3 rfl]),⟨(fun ν ν' h=>by first | rfl | simp only [h 1 rfl,h 3 rfl]),⟨(fun ν ν' h=>by first | rfl | simp only [h 1 rfl,h 3 rfl]),trivial⟩⟩⟩⟩⟩⟩⟩⟩ ⟨trivial,⟨trivial,⟨(fun ν ν' h=>by first | rfl | simp only [h 1 rfl,h 3 rfl]),trivial⟩⟩⟩ zk (fun ν=>by kernel_rfl) (fun ν=>by kernel_rfl) (fun ν4 a w hst=>?_)
  have hst:St B w0 79 [(2,_),(5,_)] [⟨1,98,ptrH,_⟩,⟨3,98,ptrH,_⟩,⟨4,73,ptrH,_⟩] a w:=hst
  refine zt ?_
  refine zj5 (sts:=[none,none,none]) (news:=[⟨6,73,ptrH,some 5,_,some (6,fun ν=>_)⟩]) (sp:=[(fun ν=>.val 33 _),(fun ν=>.val 34 (PinT (ν 1) [RGD (detF x).1,NumA .i64 (detF x).2] [(ν3 1),(ν4 3)])),(fun ν=>.val 32 _),(fun ν=>.val 35 (PinA (ν 3) ((RGD (detF x).1).and (SepAll [(ν3 1),(ν4 3)] (ν 3)))).va),(fun ν=>.val 36 _),(fun ν=>.alc 3),(fun ν=>.sto 3),(fun ν=>.val 7 _)]) [.g 0,.g 1,.o 7] hst ⟨of_u fun ν=>ob_v rfl rfl (zad (lz0 1 rfl) zea),⟨zia (us:=fun ν=>[(ν3 1),(ν4 3)]) (xs:=[.tmp 33]) rfl rfl ((detD_c x).wk (.cons wkA_rqr.va .nil)) nf_grd (.cons upA_rqr.va .nil) (fun ν=>(.cons (has_wk' (vq 0 rfl) (pin_wk.trans (and_wk.trans (dis_wk.trans rqt_rqr))).va) .nil)) (fun _ _=>rfl) (fun ν=>(zgx (zcr new_tqd) (lz0 1 rfl) (zgx (zcr new_rgd) (lz0 2 rfl) zc8))),⟨of_u fun ν=>ob_v rfl rfl (za1 (vq 1 rfl)),⟨zk8 (us:=fun ν=>[(ν3 1),(ν4 3)]) rfl rfl (fun ν=>(vq 2 rfl)) rfl (fun _ _=>rfl),⟨of_u fun ν=>ob_v rfl rfl (r_extT (A:=NumA .i64 (detF x).2) (vq 2 rfl) rfl),⟨of_u fun ν=>zan rfl rfl rfl (Str.zero zaz),⟨of_u fun ν=>zaa rfl rfl rfl (vq 3 rfl) zb1 (Eq.trans (b:=8) rfl rfl),⟨of_u fun ν=>ob_v rfl rfl (za2 (vq 4 rfl)),trivial⟩⟩⟩⟩⟩⟩⟩⟩ ⟨(fun ν ν' h=>rfl),⟨(fun ν ν' h=>by first | rfl | simp only [h 1 rfl]),⟨(fun ν ν' h=>by first | rfl | simp only [h 1 rfl]),⟨(fun ν ν' h=>by first | rfl | simp only [h 1 rfl,h 3 rfl]),⟨(fun ν ν' h=>by first | rfl | simp only [h 1 rfl,h 3 rfl]),⟨(fun ν ν' h=>by first | rfl | simp only [h 1 rfl,h 3 rfl]),⟨(fun ν ν' h=>by first | rfl | simp only [h 1 rfl,h 3 rfl]),⟨(fun ν ν' h=>by first | rfl | simp only [h 1 rfl,h 3 rfl]),trivial⟩⟩⟩⟩⟩⟩⟩⟩ ⟨trivial,⟨trivial,⟨trivial,⟨(fun ν ν' h=>by first | rfl | simp only [h 1 rfl,h 3 rfl]),trivial⟩⟩⟩⟩ zk (fun ν=>by kernel_rfl) (fun ν=>by kernel_rfl) (fun ν5 a w hst=>?_)
  have hst:St B w0 79 [(2,_),(5,_),(7,_)] [⟨1,98,ptrH,_⟩,⟨3,98,ptrH,_⟩,⟨4,73,ptrH,_⟩,⟨6,73,ptrH,_⟩] a w:=hst
  refine zt ?_
  refine gl (sts:=[none,none,none,none]) (news:=[⟨8,73,ptrH,some 5,_,some (6,_)⟩]) (sp:=[.val 38 _,.val 39 _,.val 37 _,.val 40 _,.val 41 _,.alc 4,.sto 4,.val 9 _]) [.g 0,.g 1,.g 2,.o 7] hst (zv rfl rfl (zad (lz0 0 rfl) zea) (zv rfl rfl (za5 (xs:=[.tmp 38]) (r18det_c x) (.cons (has_wk' (vq 0 rfl) oq_rqa.va) .nil)) (zv rfl rfl (za1 (vq 1 rfl)) (zv rfl rfl (zgs (vq 2 rfl)) (zv rfl rfl (zgr (vq 2 rfl)) (oc (zan rfl rfl rfl (Str.zero zaz)) (oc (zaa rfl rfl rfl (vq 3 rfl) zb1 (Eq.trans (b:=8) rfl rfl)) (zv rfl rfl (za2 (vq 4 rfl)) o0)))))))) (fun a w hst=>?_)
  have hst:St B w0 79 [(2,_),(5,_),(7,_),(9,_)] [⟨1,98,ptrH,_⟩,⟨3,98,ptrH,_⟩,⟨4,73,ptrH,_⟩,⟨6,73,ptrH,_⟩,⟨8,73,ptrH,_⟩] a w:=hst
  refine zt ?_
  refine wp_seq ?_
  refine gl (sts:=[none,none,none,none,none]) (news:=[]) (sp:=((.val 42 _:Sp)::(.val 43 _)::(.val 44 _)::(.val 45 _)::(.val 46 (Wh (_=false) _))::(.val 47 (Wh (_=false) _))::(.val 48 (Wh (_=false) _))::(.val 49 _)::(.val 50 _)::(.val 51 (Wh (_=false) _))::(.val 52 (Wh (_=false) _))::(.val 53 (Wh (_=false) _))::(.val 54 (Wh (_=false) _))::(.val 55 _)::(.val 56 _)::(.val 57 (Wh (_=false) _))::(.val 58 (Wh (_=false) _))::(.val 59 (Wh (_=false) _))::(.val 60 (Wh (_=false) _))::(.val 61 _)::(.val 62 _)::(.val 63 (Wh (_=false) _))::(.val 64 (Wh (_=false) _))::(.val 65 (Wh (_=false) _))::(.val 66 (Wh (_=false) _))::(.val 67 _)::[])) [.g 0,.o 25] hst (zv rfl rfl (za1 (gq 1 rfl)) (zv rfl rfl (za1 (gq 3 rfl)) (zv rfl rfl (zd5 (vq 0 rfl) (vq 1 rfl)) (zv rfl rfl (za1 (vq 2 rfl)) (oc (zam rfl rfl rfl (vq 3 rfl) nq (fun hg=>za1 (gq 2 rfl))) (oc (zam rfl rfl rfl (vq 3 rfl) nq (fun hg=>za1 (gq 3 rfl))) (oc (zam rfl rfl rfl (vq 3 rfl) nq (fun hg=>zd5 (zac (vq 4 rfl) hg) (zac (vq 5 rfl) hg))) (zv rfl rfl (r_or (vq 3 rfl) (vq 6 rfl)) (zv rfl rfl (za1 (vq 7 rfl)) (oc (zam rfl rfl rfl (vq 8 rfl) nq (fun hg=>zad (lz0 2 rfl) zb1)) (oc (zam rfl rfl rfl (vq 8 rfl) nq (fun hg=>zad (lz0 4 rfl) zb1)) (oc (zam rfl rfl rfl (vq 8 rfl) nq (fun hg=>za5 (xs:=[.tmp 51,.tmp 52]) (zev _ _) (.cons (has_wk' (zac (vq 9 rfl) hg) (pin_wk.trans (and_wk.trans rgd_rga)).va) (.cons (zac (vq 10 rfl) hg) .nil)))) (oc (zam rfl rfl rfl (vq 8 rfl) nq (fun hg=>zew (zac (vq 11 rfl) hg))) (zv rfl rfl (r_or (vq 8 rfl) (vq 12 rfl)) (zv rfl rfl (za1 (vq 13 rfl)) (oc (zam rfl rfl rfl (vq 14 rfl) nq (fun hg=>zad (lz0 3 rfl) zb1)) (oc (zam rfl rfl rfl (vq 14 rfl) nq (fun hg=>zad (lz0 4 rfl) zb1)) (oc (zam rfl rfl rfl (vq 14 rfl) nq (fun hg=>za5 (xs:=[.tmp 57,.tmp 58]) (zev _ _) (.cons (has_wk' (zac (vq 15 rfl) hg) (pin_wk.trans (and_wk.trans rgd_rga)).va) (.cons (zac (vq 16 rfl) hg) .nil)))) (oc (zam rfl rfl rfl (vq 14 rfl) nq (fun hg=>zew (zac (vq 17 rfl) hg))) (zv rfl rfl (r_or (vq 14 rfl) (vq 18 rfl)) (zv rfl rfl (za1 (vq 19 rfl)) (oc (zam rfl rfl rfl (vq 20 rfl) nq (fun hg=>zad (lz0 1 rfl) zea)) (oc (zam rfl rfl rfl (vq 20 rfl) nq (fun hg=>zad (lz0 0 rfl) zea)) (oc (zam rfl rfl rfl (vq 20 rfl) nq (fun hg=>za5 (xs:=[.tmp 63,.tmp 64]) (leftQuadR_c x x hb) (.cons (has_wk' (zac (vq 21 rfl) hg) (pin_wk.trans (and_wk.trans (dis_wk.trans rqt_rqr))).va) (.cons (has_wk' (zac (vq 22 rfl) hg) oq_rqa.va) .nil)))) (oc (zam rfl rfl rfl (vq 20 rfl) nq (fun hg=>zew (zac (vq 23 rfl) hg))) (zv rfl rfl (r_or (vq 20 rfl) (vq 24 rfl)) o0)))))))))))))))))))))))))) (fun a w hst=>?_)
  have hst:St B w0 79 [(2,_),(67,_)] [⟨1,98,ptrH,_⟩,⟨3,98,ptrH,_⟩,⟨4,73,ptrH,_⟩,⟨6,73,ptrH,_⟩,⟨8,73,ptrH,_⟩] a w:=hst
  refine za0 ?_
  refine za8 hst (zm 1 rfl) (fun hb1=>?_) (fun hb1=>?_)
  ·exact absurd hb1 (by simp)
  ·refine wp_skip ?_
   refine zt ?_
   refine gl (sts:=[none,none,none,none,none]) (news:=[⟨10,59,ptrH,some 1,_,some (2,_)⟩]) (sp:=[.val 68 _,.alc 5,.sto 5]) [.g 0] hst (zv rfl rfl (zb3 (xs:=[]) (qs:=[]) str_book .nil) (oc (zan rfl rfl rfl zero_book) (oc (zaa rfl rfl rfl (vq 0 rfl) ty_59 (Eq.trans (b:=17) rfl rfl)) o0))) (fun a w hst=>?_)
   have hst:St B w0 79 [(2,_)] [⟨1,98,ptrH,_⟩,⟨3,98,ptrH,_⟩,⟨4,73,ptrH,_⟩,⟨6,73,ptrH,_⟩,⟨8,73,ptrH,_⟩,⟨10,59,ptrH,_⟩] a w:=hst
   have hst:=St.wkL (A':=BkE []) hst 5 rfl zbk_bke
   refine zt ?_
   obtain ⟨m4,v4,n4,o4,s4,hst⟩:=St.splitN (AP:=(fun m:Nat→Value=>GauP (detF x).1 m)) (kl:=(fun m:Nat→Value=>kg (detF x).1 m)) (WkA.refl _) zeo hst 2 rfl
   obtain ⟨m6,v6,n6,o6,s6,hst⟩:=St.splitN (AP:=(fun m:Nat→Value=>GauP (detF x).1 m)) (kl:=(fun m:Nat→Value=>kg (detF x).1 m)) (WkA.refl _) zeo hst 3 rfl
   obtain ⟨m3,v3,n3,o3,s3,hst⟩:=St.splitN (AP:=(fun m:Nat→Value=>QuaP x m)) (kl:=(fun m:Nat→Value=>kq x m)) tqd_rqn qua_names hst 1 rfl
   have hq0:=kb_add kb_nil v4 n4 zhk
   have hk0:=kb_sep hq0
   have hq1:=kb_add hq0 v6 n6 (zg8 (sep_of s6 1 rfl) zhk)
   have hk1:=kb_sep hq1
   have hq2:=kb_add hq1 v3 n3 (zg8 (sep_sym (sep_of s4 0 rfl)) (zg8 (sep_sym (sep_of s6 0 rfl)) zhk))
   have hk2:=kb_sep hq2
   refine zcj (sp:=[.val 69 _,.val 70 VT]) 1 1 99 1 OneC [.g 0,.o 0] hst (zv rfl rfl (zad (lz0 2 rfl) zb1) o0) rfl zd zk zk (fun a w hst=>?_)
   have hst:St B w0 79 [(2,_),(69,_)] [⟨1,98,ptrH,_⟩,⟨3,98,ptrH,_⟩,⟨4,73,ptrH,_⟩,⟨6,73,ptrH,_⟩,⟨8,73,ptrH,_⟩,⟨10,59,ptrH,_⟩] a w:=hst
   rw [show List.range' 1 1=[1] from rfl]
   rw [wpOps_cons]
   refine ze2 (A1:=BkE (addL [] ([]++kg (detF x).1 m4))) (xs:=[.tmp 69]) [0] [1] 5 rfl hst ((zhq (detF x).1 m4 (addL [] []) (zdv hk0).2 (by rw [zcw]; exact Nat.le_of_ble_eq_true zk)).wk (fun B cs w h=>by rw [zcx,addL_kg]; exact h)) rfl rfl (.cons ⟨_,rfl,rfl⟩ .nil) rfl (may_all hB) zd zk zk zk zk (fun a w hst=>?_)
   refine zc9 ?_
   have hst:St B w0 79 [(70,_),(2,_)] [⟨1,98,ptrH,_⟩,⟨3,98,ptrH,_⟩,⟨4,73,ptrH,_⟩,⟨6,73,ptrH,_⟩,⟨8,73,ptrH,_⟩,⟨10,59,ptrH,BkE (addL [] ([]++kg (detF x).1 m4))⟩] a w:=hst
   refine zt ?_
   refine zcj (sp:=[.val 71 _,.val 72 VT]) 1 1 99 1 OneC [.g 1,.o 0] hst (zv rfl rfl (zad (lz0 3 rfl) zb1) o0) rfl zd zk zk (fun a w hst=>?_)
   have hst:St B w0 79 [(2,_),(71,_)] [⟨1,98,ptrH,_⟩,⟨3,98,ptrH,_⟩,⟨4,73,ptrH,_⟩,⟨6,73,ptrH,_⟩,⟨8,73,ptrH,_⟩,⟨10,59,ptrH,_⟩] a w:=hst
   rw [show List.range' 1 1=[1] from rfl]
   rw [wpOps_cons]
   refine ze2 (A1:=BkE (addL [] (([]++kg (detF x).1 m4)++kg (detF x).1 m6))) (xs:=[.tmp 71]) [0] [1] 5 rfl hst ((zhq (detF x).1 m6 (addL [] ([]++kg (detF x).1 m4)) (zdv hk1).2 (by rw [zcw]; exact Nat.le_of_ble_eq_true zk)).wk (fun B cs w h=>by rw [zcx,addL_kg]; exact h)) rfl rfl (.cons ⟨_,rfl,rfl⟩ .nil) rfl (may_all hB) zd zk zk zk zk (fun a w hst=>?_)
   refine zc9 ?_
   have hst:St B w0 79 [(72,_),(2,_)] [⟨1,98,ptrH,_⟩,⟨3,98,ptrH,_⟩,⟨4,73,ptrH,_⟩,⟨6,73,ptrH,_⟩,⟨8,73,ptrH,_⟩,⟨10,59,ptrH,BkE (addL [] (([]++kg (detF x).1 m4)++kg (detF x).1 m6))⟩] a w:=hst
   refine zt ?_
   refine zcj (sp:=[.val 73 _,.val 74 VT]) 1 1 99 1 OneC [.g 1,.o 0] hst (zv rfl rfl (zad (lz0 1 rfl) zea) o0) rfl zd zk zk (fun a w hst=>?_)
   have hst:St B w0 79 [(2,_),(73,_)] [⟨1,98,ptrH,_⟩,⟨3,98,ptrH,_⟩,⟨4,73,ptrH,_⟩,⟨6,73,ptrH,_⟩,⟨8,73,ptrH,_⟩,⟨10,59,ptrH,_⟩] a w:=hst
   rw [show List.range' 1 1=[1] from rfl]
   rw [wpOps_cons]
   refine ze2 (A1:=BkE (addL [] ((([]++kg (detF x).1 m4)++kg (detF x).1 m6)++kq x m3))) (xs:=[.tmp 73]) [0] [1] 5 rfl hst ((keepQ_c x m3 (addL [] (([]++kg (detF x).1 m4)++kg (detF x).1 m6)) (zdv hk2).2 (by rw [zcw]; exact Nat.le_of_ble_eq_true zk)).wk (fun B cs w h=>by rw [zcx,addL_kq]; exact h)) rfl rfl (.cons ⟨_,rfl,rfl⟩ .nil) rfl (may_all hB) zd zk zk zk zk (fun a w hst=>?_)
   refine zc9 ?_
   have hst:St B w0 79 [(74,_),(2,_)] [⟨1,98,ptrH,_⟩,⟨3,98,ptrH,_⟩,⟨4,73,ptrH,_⟩,⟨6,73,ptrH,_⟩,⟨8,73,ptrH,_⟩,⟨10,59,ptrH,BkE (addL [] ((([]++kg (detF x).1 m4)++kg (detF x).1 m6)++kq x m3))⟩] a w:=hst
   refine zt ?_
   have hst:=St.selL hst [5]
   refine go_first (m:=4) zk ?_
   refine ze2 (A1:=JkA) (xs:=[]) [] [] 0 rfl hst (apartE_c ((([]++kg (detF x).1 m4)++kg (detF x).1 m6)++kq x m3) (okK_len (zg9 (zg9 (zg9 okK_nil o4) o6) o3) (zgc (zgc (zgc lnK_nil (lnK_g (bd_det x))) (lnK_g (bd_det x))) (lnK_q hb))) nq) rfl rfl .nil rfl (may_all hB) zd zk zk zk zk (fun a w hst=>?_)
   have hst:St B w0 79 [(75,Bo true)] [⟨10,_,ptrH,JkA⟩] a w:=hst
   refine go_restM (sp:=[.val 75 (Bo true),.val 76 _,.val 77 (Wh (_=true) _),.val 78 _,.val 2 _]) [.o 4] hst rfl zk (zv rfl rfl (za1 (vq 0 rfl)) (oc (zam rfl rfl rfl (vq 1 rfl) nq (fun hg=>za5 (xs:=[]) alive18_c .nil)) (zv rfl rfl (zch (vq 1 rfl) (vq 2 rfl)) (zv rfl rfl (za2 (vq 3 rfl)) o0)))) zk zk (fun a w hst=>?_)
   have hst:St B w0 79 [(2,_)] [⟨10,59,ptrH,_⟩] a w:=hst
   refine za0 ?_
   refine wp_ret ?_
   refine zaq ?_ (zah rfl hst (zm 0 rfl))
   refine zc3 (congrArg Bo ?_); simp
end Go.Proofs.YthncfchnkjemiaaGreatDoor
