import Derived.Test.YthncfchnkjemiaaGreatDoorRmAa
import Derived.Test.YthncfchnkjemiaaGreatDoorRmAc
import Derived.Test.YthncfchnkjemiaaGreatDoorRmAl
import Derived.Test.YthncfchnkjemiaaGreatDoorRmAn
import Derived.Test.YthncfchnkjemiaaGreatDoorRmAo
import Derived.Test.YthncfchnkjemiaaGreatDoorRmAy
import Derived.Test.YthncfchnkjemiaaGreatDoorRmBb
import Derived.ProofKit
import Derived.OpenShut
import Derived.ChangeOld
import Derived.Below
import Derived.Deep.Slices
import Derived.SizedLaws
set_option linter.unusedVariables false
set_option linter.unusedSimpArgs false
set_option linter.unusedSectionVars false
set_option maxRecDepth 100000
namespace Go.Proofs.YthncfchnkjemiaaGreatDoor
open Go Go.RowKit
theorem big_e {x:RI}:decide ((x.mag.length:Int)>2048)=bigI x:=by unfold bigI; simp
theorem lq_e {q:Rat}:(bigI (riOf q.num) || bigI (riOf (q.den:Int)))=longQ q:=by simp [longQ]
theorem zq5 (x:RI):Cn Tryz.prog 301 [(RIA x).va] (Bo (bigI x)):=by
 refine Cn.intro Tryz.func301 rfl zk nq (fun B w0 a hst=>?_)
 have hst:St B w0 7 [(0,(RIA x).va)] [] a w0.w:=hst
 refine wp_seq ?_
 refine gl (sts:=[]) (news:=[⟨1,24,ptrH,some 0,_,none⟩]) (sp:=[.alc 0,.val 2 _]) [.o 1] hst (oc (zak rfl rfl rfl (gq 0 rfl)) (zv rfl (za1 zb7) o0)) (fun a w hst=>?_)
 have hst:St B w0 7 [(2,_)] [⟨1,24,ptrH,_⟩] a w:=hst
 refine zt<|gl (sts:=[none]) (news:=[]) (sp:=[.adr 3 1 (.some 1) True,.val 4 _,.val 5 _,.val 6 _,.val 2 _]) [.o 4] hst (oc (ob_a rfl rfl (zaa (lz0 0 rfl) zal)) (zv rfl (za4 0 rfl zk trivial (lz0 0 rfl) (Sub.part 1 rfl rfl) zbg) (zv rfl (zaz Tryz.underlying22 (vq 1 rfl)) (zv rfl (zgq (vq 2 rfl) za3) (zv rfl (za1 (vq 3 rfl)) o0))))) (fun a w hst=>?_)
 have hst:St B w0 7 [(2,_)] [⟨1,24,ptrH,_⟩] a w:=hst
 refine za0 ?_
 refine wp_ret ?_
 refine zan ?_ (zai rfl hst (zm 0 rfl))
 exact zbz (congrArg Bo big_e)
theorem zyl {L:List As}(qs:List Rat)(hL:All2 IsQ L qs)(hl:qs.length≤1099511627776):Cn Tryz.prog 179 [(SlA 26 [U32] L).va] (Bo (qs.any longQ)):=by
 have hLl:=hL.length
 refine Cn.introW Tryz.func179 rfl zk nq (.cons (zxh (isq_up hL)).va .nil) (zg6 _).va (fun B w0 a hB0 hst=>?_)
 have hst:St B w0 24 [(0,(SlO 26 [U32] L True).va)] [] a w0.w:=hst
 refine wp_seq ?_
 refine gl (sts:=[]) (news:=[]) (sp:=[.val 2 _]) [.g 0,.o 0] hst (zv rfl (za1 zb7) o0) (fun a w hst=>?_)
 have hst:St B w0 24 [(0,_),(2,_)] [] a w:=hst
 refine zt ?_
 refine wp_seq ?_
 refine gl (sts:=[]) (news:=[]) (sp:=[.val 3 _]) [.g 0,.g 1,.o 0] hst (zv rfl (za1 za3) o0) (fun a w hst=>?_)
 have hst:St B w0 24 [(0,_),(2,_),(3,_)] [] a w:=hst
 refine za0 ?_
 refine wp_block ?_
 have hst:=St.sel hst [0,2]
 refine wp_loop_ghost (fun n a w=>∃ j:Nat,(n+j=qs.length∧(qs.take j).any longQ=false)∧St B w0 24 [(0,(SlO 26 [U32] L True).va),(3,In (j:Nat))] [] a w) (qs.length) ?_ ?_
 ·exact ⟨0,⟨by omega,rfl⟩,hst⟩
 intro n a w hI
 obtain ⟨j,⟨hn,hno⟩,hst⟩:=hI
 refine wp_seq ?_
 refine wp_seq ?_
 refine gl (sts:=[]) (news:=[]) (sp:=[.val 4 _,.val 5 _,.val 6 _,.val 7 _]) [.g 0,.g 1,.o 3] hst (zv rfl (za2 (gq 1 rfl)) (zv rfl (za2 (gq 0 rfl)) (zv rfl (zc7 Tryz.underlying142 (zf0 (zb2 (vq 1 rfl)))) (zv rfl (zba (vq 0 rfl) (vq 2 rfl)) o0)))) (fun a w hst=>?_)
 have hst:St B w0 24 [(0,_),(3,_),(7,_)] [] a w:=hst
 refine za0 ?_
 refine za8 hst (zm 2 rfl) (fun hb0=>?_) (fun hb0=>?_)
 ·have hj:j<qs.length:=by rw [hLl] at hb0; simp at hb0; omega
  obtain ⟨kj,hLj⟩:=isq_at hL hj
  refine wp_skip ?_
  refine zt ?_
  refine wp_block ?_
  refine wp_seq ?_
  refine gl (sts:=[]) (news:=[]) (sp:=[.val 10 _,.val 11 _,.val 12 _,.val 13 _,.val 14 _,.val 15 _,.val 16 _,.val 17 (Wh (_=false) _),.val 18 (Wh (_=false) _),.val 19 (Wh (_=false) _),.val 20 (Wh (_=false) _),.val 21 (Wh (_=false) _),.val 22 (Wh (_=false) _),.val 23 _]) [.g 0,.g 1,.o 13] hst (zv rfl (za2 (gq 0 rfl)) (zv rfl (za2 (gq 1 rfl)) (zv rfl (zhb zdu (isq_n hL) (zf0 (zb2 (vq 0 rfl))) (vq 1 rfl) hLj) (zv rfl (zau (vq 2 rfl) zbn (Sub.part 0 rfl rfl)) (zv rfl (zae (vq 3 rfl) zac) (zv rfl (za5 (xs:=[.tmp 14]) ((zq5 (riOf (qs[j]).num)).wk (.cons zaA.va .nil)) (.cons (vq 4 rfl) .nil)) (zv rfl (za2 (vq 5 rfl)) (oc (zad rfl rfl rfl (vq 6 rfl) nq (fun hg=>za2 (gq 0 rfl))) (oc (zad rfl rfl rfl (vq 6 rfl) nq (fun hg=>za2 (gq 1 rfl))) (oc (zad rfl rfl rfl (vq 6 rfl) nq (fun hg=>zhb zdu (isq_n hL) (zf0 (zb2 (za9 (vq 7 rfl) hg))) (za9 (vq 8 rfl) hg) hLj)) (oc (zad rfl rfl rfl (vq 6 rfl) nq (fun hg=>zau (za9 (vq 9 rfl) hg) zbf (Sub.part 1 rfl rfl))) (oc (zad rfl rfl rfl (vq 6 rfl) nq (fun hg=>zae (za9 (vq 10 rfl) hg) zac)) (oc (zad rfl rfl rfl (vq 6 rfl) nq (fun hg=>za5 (xs:=[.tmp 21]) ((zq5 (riOf ((qs[j]).den:Int))).wk (.cons zaA.va .nil)) (.cons (za9 (vq 11 rfl) hg) .nil))) (zv rfl (r_or (vq 6 rfl) (vq 12 rfl)) o0)))))))))))))) (fun a w hst=>?_)
  have hst:St B w0 24 [(0,_),(3,_),(23,_)] [] a w:=hst
  refine za0 ?_
  refine za8 hst (zm 2 rfl) (fun hb1=>?_) (fun hb1=>?_)
  ·rw [lq_e] at hb1
   refine wp_seq ?_
   refine gl (sts:=[]) (news:=[]) (sp:=[.val 2 _]) [.g 0,.g 1,.o 0] hst (zv rfl (za1 zb7) o0) (fun a w hst=>?_)
   have hst:St B w0 24 [(0,_),(3,_),(2,_)] [] a w:=hst
   refine za0 ?_
   refine wp_ret ?_
   refine zcf ?_
   refine zar ?_
   refine zar ?_
   refine zcf ?_
   refine zar ?_
   refine zap ?_ (zai rfl hst (zm 2 rfl))
   rw [← zvv hj hb1]
  ·rw [lq_e] at hb1
   refine wp_skip ?_
   refine zat ?_
   refine za0 ?_
   refine gl (sts:=[]) (news:=[]) (sp:=[.val 8 _,.val 9 _,.val 3 _]) [.g 0,.o 2] hst (zv rfl (za2 (gq 1 rfl)) (zv rfl (zbl (vq 0 rfl) za3 (zbo zo)) (zv rfl (za1 (vq 1 rfl)) o0))) (fun a w hst=>?_)
   have hst:St B w0 24 [(0,_),(3,_)] [] a w:=hst
   refine za0 ?_
   have hst:=St.sel hst [0,1]
   exact ⟨n-1,by omega,j+1,⟨by omega,lq_no hj hno hb1⟩,hst⟩
 ·obtain rfl:j=qs.length:=by rw [hLl] at hb0; simp at hb0; omega
  refine wp_exit ?_
  refine za6 ?_
  refine za6 ?_
  refine zaj ?_
  refine zt<|gl (sts:=[]) (news:=[]) (sp:=[.val 2 _]) [.o 0] hst (zv rfl (za1 zb7) o0) (fun a w hst=>?_)
  have hst:St B w0 24 [(2,_)] [] a w:=hst
  refine za0 ?_
  refine wp_ret ?_
  refine zap ?_ (zai rfl hst (zm 0 rfl))
  rw [List.take_length] at hno; rw [hno]
end Go.Proofs.YthncfchnkjemiaaGreatDoor
namespace Go.Proofs.YthncfchnkjemiaaGreatDoor
open Go Go.RowKit
theorem zkr {L:List As}(qs:List Rat)(hL:All2 IsQ L qs)(hl:qs.length≤1099511627776):Cn Tryz.prog 200 [(SlA 26 [U32] L).va] (In (if qs.any longQ then 4 else 0)):=by
 refine Cn.intro Tryz.func200 rfl zk nq (fun B w0 a hst=>?_)
 have hst:St B w0 5 [(0,(SlA 26 [U32] L).va)] [] a w0.w:=hst
 refine wp_seq ?_
 refine gl (sts:=[]) (news:=[]) (sp:=[.val 2 _]) [.g 0,.o 0] hst (zv rfl (za1 za3) o0) (fun a w hst=>?_)
 have hst:St B w0 5 [(0,_),(2,_)] [] a w:=hst
 refine zt ?_
 refine wp_seq ?_
 refine gl (sts:=[]) (news:=[]) (sp:=[.val 3 _,.val 4 _]) [.g 1,.o 1] hst (zv rfl (za2 (gq 0 rfl)) (zv rfl (za5 (xs:=[.tmp 3]) (zyl qs hL hl) (.cons (vq 0 rfl) .nil)) o0)) (fun a w hst=>?_)
 have hst:St B w0 5 [(2,_),(4,_)] [] a w:=hst
 refine za0 ?_
 refine za8 hst (zm 1 rfl) (fun hb0=>?_) (fun hb0=>?_)
 ·refine wp_seq ?_
  refine gl (sts:=[]) (news:=[]) (sp:=[.val 2 _]) [.o 0] hst (zv rfl (za1 za3) o0) (fun a w hst=>?_)
  have hst:St B w0 5 [(2,_)] [] a w:=hst
  refine za0 ?_
  refine wp_ret ?_
  refine zar ?_
  refine zan ?_ (zai rfl hst (zm 0 rfl))
  rw [hb0]; exact zbt
 ·refine wp_skip ?_
  refine zt<|gl (sts:=[]) (news:=[]) (sp:=[.val 2 _]) [.o 0] hst (zv rfl (za1 za3) o0) (fun a w hst=>?_)
  have hst:St B w0 5 [(2,_)] [] a w:=hst
  refine za0 ?_
  refine wp_ret ?_
  refine zan ?_ (zai rfl hst (zm 0 rfl))
  rw [hb0]; exact zbt
theorem zix {c d e f:Nat}{x y z u:Rat}(hk:c+d+e+f≤900000000):Cn Tryz.prog 306 [Qs c x,Qs d y,Qs e z,Qs f u] (Qs (c+d+(e+f)+1) (x*y+z*u)):=by
 refine Cn.intro Tryz.func306 rfl zk nq (fun B w0 a hst=>?_)
 have hst:St B w0 16 [(0,Qs c x),(1,Qs d y),(2,Qs e z),(3,Qs f u)] [] a w0.w:=hst
 refine wp_seq ?_
 refine gl (sts:=[]) (news:=[⟨4,26,ptrH,some 0,_,none⟩,⟨5,26,ptrH,some 1,_,none⟩,⟨6,26,ptrH,some 2,_,none⟩,⟨7,26,ptrH,some 3,_,none⟩,⟨8,26,ptrH,some 4,_,none⟩]) (sp:=[.alc 0,.alc 1,.alc 2,.alc 3,.alc 4]) [] hst (oc (zak rfl rfl rfl (gq 0 rfl)) (oc (zak rfl rfl rfl (gq 1 rfl)) (oc (zak rfl rfl rfl (gq 2 rfl)) (oc (zak rfl rfl rfl (gq 3 rfl)) (oc (zas rfl rfl rfl (Str.zero zb0)) o0))))) (fun a w hst=>?_)
 have hst:St B w0 16 [] [⟨4,26,ptrH,_⟩,⟨5,26,ptrH,_⟩,⟨6,26,ptrH,_⟩,⟨7,26,ptrH,_⟩,⟨8,26,ptrH,_⟩] a w:=hst
 refine zt<|zay (anc:=[[],[],[0,1],[],[],[0,1,2,3,4],[0,1,2,3,4,5],[0,1,2,3,4,5,6]]) (sts:=[none,none,none,none,some (7,_)]) (news:=[]) (sp:=[.val 9 _,.val 10 _,.val 11 _,.val 12 _,.val 13 _,.val 14 _,.val 15 _,.sto 4]) [] za7 hst (zv rfl (zab (lz0 0 rfl) zaf) (zv rfl (zab (lz0 1 rfl) zaf) (zv rfl (za5 (xs:=[.tmp 9,.tmp 10]) (zhd zo) (.cons (vq 0 rfl) (.cons (vq 1 rfl) .nil))) (zv rfl (zab (lz0 2 rfl) zaf) (zv rfl (zab (lz0 3 rfl) zaf) (zv rfl (za5 (xs:=[.tmp 12,.tmp 13]) (zhd zo) (.cons (vq 3 rfl) (.cons (vq 4 rfl) .nil))) (zv rfl (za5 (xs:=[.tmp 11,.tmp 14]) (ziy zo) (.cons (vq 2 rfl) (.cons (vq 5 rfl) .nil))) (oc (zag rfl rfl rfl (vq 6 rfl) zaf (Eq.trans (b:=4) rfl rfl)) o0)))))))) zk zk zk zk (fun a w hst=>?_)
 have hst:St B w0 16 [] [⟨4,26,ptrH,_⟩,⟨5,26,ptrH,_⟩,⟨6,26,ptrH,_⟩,⟨7,26,ptrH,_⟩,⟨8,26,ptrH,_⟩] a w:=hst
 refine za0 ?_
 refine wp_ret ?_
 refine zan ?_ (zao rfl hst (zm 4 rfl) zaf)
 exact zbt
end Go.Proofs.YthncfchnkjemiaaGreatDoor
namespace Go.Proofs.YthncfchnkjemiaaGreatDoor
open Go Go.RowKit
theorem asm_lo {m:MQ}(h:[m.a,m.b,m.c,m.d].any longQ=true):asM 0 m=(rm0,4):=by rw [asM,if_pos rfl,if_pos h]
theorem asm_ok {m:MQ}(h:¬ [m.a,m.b,m.c,m.d].any longQ=true):asM 0 m=(rmOf m,0):=by rw [asM,if_pos rfl,if_neg h]
theorem zup {c d:Nat}{m q:MQ}(hk:c+d≤200000000):Cn Tryz.prog 196 [(QMA c m).va,(QMA d q).va] ((QMA (c+d+(c+d)+1) (mulQ m q)).va):=by
 refine Cn.intro Tryz.func196 rfl zk nq (fun B w0 a hst=>?_)
 have hst:St B w0 42 [(0,(QMA c m).va),(1,(QMA d q).va)] [] a w0.w:=hst
 refine wp_seq ?_
 refine gl (sts:=[]) (news:=[⟨2,28,ptrH,some 0,_,none⟩,⟨3,28,ptrH,some 1,_,none⟩,⟨4,28,ptrH,some 2,_,none⟩]) (sp:=[.alc 0,.alc 1,.alc 2]) [] hst (oc (zak rfl rfl rfl (gq 0 rfl)) (oc (zak rfl rfl rfl (gq 1 rfl)) (oc (zas rfl rfl rfl (Str.zero zb5)) o0))) (fun a w hst=>?_)
 have hst:St B w0 42 [] [⟨2,28,ptrH,_⟩,⟨3,28,ptrH,_⟩,⟨4,28,ptrH,_⟩] a w:=hst
 refine zt<|zay (anc:=[[],[0],[],[2],[],[4],[],[6],[0,1,2,3,4,5,6,7],[],[9],[],[11],[],[13],[],[15],[0,1,2,3,4,5,6,7,8,9,10,11,12,13,14,15,16],[],[18],[],[20],[],[22],[],[24],[0,1,2,3,4,5,6,7,8,9,10,11,12,13,14,15,16,17,18,19,20,21,22,23,24,25],[],[27],[],[29],[],[31],[],[33],[0,1,2,3,4,5,6,7,8,9,10,11,12,13,14,15,16,17,18,19,20,21,22,23,24,25,26,27,28,29,30,31,32,33,34],[0,1,2,3,4,5,6,7,8,9,10,11,12,13,14,15,16,17,18,19,20,21,22,23,24,25,26,27,28,29,30,31,32,33,34,35],[0,1,2,3,4,5,6,7,8,9,10,11,12,13,14,15,16,17,18,19,20,21,22,23,24,25,26,27,28,29,30,31,32,33,34,35,36]]) (sts:=[none,none,some (37,_)]) (news:=[]) (sp:=((.adr 5 2 (.some 0) True:Sp)::(.val 6 _)::(.adr 7 3 (.some 0) True)::(.val 8 _)::(.adr 9 2 (.some 4) True)::(.val 10 _)::(.adr 11 3 (.some 8) True)::(.val 12 _)::(.val 13 _)::(.adr 14 2 (.some 0) True)::(.val 15 _)::(.adr 16 3 (.some 4) True)::(.val 17 _)::(.adr 18 2 (.some 4) True)::(.val 19 _)::(.adr 20 3 (.some 12) True)::(.val 21 _)::(.val 22 _)::(.adr 23 2 (.some 8) True)::(.val 24 _)::(.adr 25 3 (.some 0) True)::(.val 26 _)::(.adr 27 2 (.some 12) True)::(.val 28 _)::(.adr 29 3 (.some 8) True)::(.val 30 _)::(.val 31 _)::(.adr 32 2 (.some 8) True)::(.val 33 _)::(.adr 34 3 (.some 4) True)::(.val 35 _)::(.adr 36 2 (.some 12) True)::(.val 37 _)::(.adr 38 3 (.some 12) True)::(.val 39 _)::(.val 40 _)::(.val 41 _)::(.sto 2)::[])) [] za7 hst (oc (ob_a rfl rfl (zaa (lz0 0 rfl) zc4)) (zv rfl (za4 0 rfl zk trivial (lz0 0 rfl) (Sub.part 0 rfl rfl) zaf) (oc (ob_a rfl rfl (zaa (lz0 1 rfl) zc4)) (zv rfl (za4 2 rfl zk trivial (lz0 1 rfl) (Sub.part 0 rfl rfl) zaf) (oc (ob_a rfl rfl (zaa (lz0 0 rfl) zca)) (zv rfl (za4 4 rfl zk trivial (lz0 0 rfl) (Sub.part 1 rfl rfl) zaf) (oc (ob_a rfl rfl (zaa (lz0 1 rfl) zc6)) (zv rfl (za4 6 rfl zk trivial (lz0 1 rfl) (Sub.part 2 rfl rfl) zaf) (zv rfl (za5 (xs:=[.tmp 6,.tmp 8,.tmp 10,.tmp 12]) (zix zo) (.cons (vq 1 rfl) (.cons (vq 3 rfl) (.cons (vq 5 rfl) (.cons (vq 7 rfl) .nil))))) (oc (ob_a rfl rfl (zaa (lz0 0 rfl) zc4)) (zv rfl (za4 9 rfl zk trivial (lz0 0 rfl) (Sub.part 0 rfl rfl) zaf) (oc (ob_a rfl rfl (zaa (lz0 1 rfl) zca)) (zv rfl (za4 11 rfl zk trivial (lz0 1 rfl) (Sub.part 1 rfl rfl) zaf) (oc (ob_a rfl rfl (zaa (lz0 0 rfl) zca)) (zv rfl (za4 13 rfl zk trivial (lz0 0 rfl) (Sub.part 1 rfl rfl) zaf) (oc (ob_a rfl rfl (zaa (lz0 1 rfl) zc1)) (zv rfl (za4 15 rfl zk trivial (lz0 1 rfl) (Sub.part 3 rfl rfl) zaf) (zv rfl (za5 (xs:=[.tmp 15,.tmp 17,.tmp 19,.tmp 21]) (zix zo) (.cons (vq 10 rfl) (.cons (vq 12 rfl) (.cons (vq 14 rfl) (.cons (vq 16 rfl) .nil))))) (oc (ob_a rfl rfl (zaa (lz0 0 rfl) zc6)) (zv rfl (za4 18 rfl zk trivial (lz0 0 rfl) (Sub.part 2 rfl rfl) zaf) (oc (ob_a rfl rfl (zaa (lz0 1 rfl) zc4)) (zv rfl (za4 20 rfl zk trivial (lz0 1 rfl) (Sub.part 0 rfl rfl) zaf) (oc (ob_a rfl rfl (zaa (lz0 0 rfl) zc1)) (zv rfl (za4 22 rfl zk trivial (lz0 0 rfl) (Sub.part 3 rfl rfl) zaf) (oc (ob_a rfl rfl (zaa (lz0 1 rfl) zc6)) (zv rfl (za4 24 rfl zk trivial (lz0 1 rfl) (Sub.part 2 rfl rfl) zaf) (zv rfl (za5 (xs:=[.tmp 24,.tmp 26,.tmp 28,.tmp 30]) (zix zo) (.cons (vq 19 rfl) (.cons (vq 21 rfl) (.cons (vq 23 rfl) (.cons (vq 25 rfl) .nil))))) (oc (ob_a rfl rfl (zaa (lz0 0 rfl) zc6)) (zv rfl (za4 27 rfl zk trivial (lz0 0 rfl) (Sub.part 2 rfl rfl) zaf) (oc (ob_a rfl rfl (zaa (lz0 1 rfl) zca)) (zv rfl (za4 29 rfl zk trivial (lz0 1 rfl) (Sub.part 1 rfl rfl) zaf) (oc (ob_a rfl rfl (zaa (lz0 0 rfl) zc1)) (zv rfl (za4 31 rfl zk trivial (lz0 0 rfl) (Sub.part 3 rfl rfl) zaf) (oc (ob_a rfl rfl (zaa (lz0 1 rfl) zc1)) (zv rfl (za4 33 rfl zk trivial (lz0 1 rfl) (Sub.part 3 rfl rfl) zaf) (zv rfl (za5 (xs:=[.tmp 33,.tmp 35,.tmp 37,.tmp 39]) (zix zo) (.cons (vq 28 rfl) (.cons (vq 30 rfl) (.cons (vq 32 rfl) (.cons (vq 34 rfl) .nil))))) (zv rfl (zbb (xs:=[(0,.tmp 13),(1,.tmp 22),(2,.tmp 31),(3,.tmp 40)]) (qs:=[(0,_),(1,_),(2,_),(3,_)]) zb5 (.cons ⟨rfl,(vq 8 rfl),rfl⟩ (.cons ⟨rfl,(vq 17 rfl),rfl⟩ (.cons ⟨rfl,(vq 26 rfl),rfl⟩ (.cons ⟨rfl,(vq 35 rfl),rfl⟩ .nil))))) (oc (zag rfl rfl rfl (vq 36 rfl) zb4 (Eq.trans (b:=16) rfl rfl)) o0)))))))))))))))))))))))))))))))))))))) zk zk zk zk (fun a w hst=>?_)
 have hst:St B w0 42 [] [⟨2,28,ptrH,_⟩,⟨3,28,ptrH,_⟩,⟨4,28,ptrH,_⟩] a w:=hst
 refine za0 ?_
 refine wp_ret ?_
 refine zan ?_ (zao rfl hst (zm 2 rfl) zb4)
 exact zbt
theorem zrt {c:Nat}{m:MQ}(hc:c≤549755813888):Cn Tryz.prog 199 [(QMA c m).va] (MR (asM 0 m)):=by
 refine Cn.intro Tryz.func199 rfl zk nq (fun B w0 a hst=>?_)
 have hst:St B w0 20 [(0,(QMA c m).va)] [] a w0.w:=hst
 refine wp_seq ?_
 refine gl (sts:=[]) (news:=[⟨1,28,ptrH,some 0,_,none⟩,⟨2,28,ptrH,some 1,_,none⟩]) (sp:=[.alc 0,.alc 1,.val 3 _]) [.o 2] hst (oc (zak rfl rfl rfl (gq 0 rfl)) (oc (zas rfl rfl rfl (Str.zero zb5)) (zv rfl (za1 za3) o0))) (fun a w hst=>?_)
 have hst:St B w0 20 [(3,_)] [⟨1,28,ptrH,_⟩,⟨2,28,ptrH,_⟩] a w:=hst
 refine zt<|gl (sts:=[none,none]) (news:=[]) (sp:=[.adr 5 1 (.some 0) True,.val 6 _,.adr 7 1 (.some 4) True,.val 8 _,.adr 9 1 (.some 8) True,.val 10 _,.adr 11 1 (.some 12) True,.val 12 _,.val 13 _,.val 14 _,.val 4 _]) [.g 0,.o 10] hst (oc (ob_a rfl rfl (zaa (lz0 0 rfl) zc4)) (zv rfl (za4 0 rfl zk trivial (lz0 0 rfl) (Sub.part 0 rfl rfl) zaf) (oc (ob_a rfl rfl (zaa (lz0 0 rfl) zca)) (zv rfl (za4 2 rfl zk trivial (lz0 0 rfl) (Sub.part 1 rfl rfl) zaf) (oc (ob_a rfl rfl (zaa (lz0 0 rfl) zc6)) (zv rfl (za4 4 rfl zk trivial (lz0 0 rfl) (Sub.part 2 rfl rfl) zaf) (oc (ob_a rfl rfl (zaa (lz0 0 rfl) zc1)) (zv rfl (za4 6 rfl zk trivial (lz0 0 rfl) (Sub.part 3 rfl rfl) zaf) (zv rfl (zda (D:=[U32]) (l:=[_,_,_,_]) (xs:=[.tmp 6,.tmp 8,.tmp 10,.tmp 12]) (zfz zk) zdu zk (n_ok zk) nq nq nq (.cons (vq 1 rfl) (.cons (vq 3 rfl) (.cons (vq 5 rfl) (.cons (vq 7 rfl) .nil)))) rfl rfl) (zv rfl (za5 (xs:=[.tmp 13]) (zkr [m.a,m.b,m.c,m.d] (.cons ⟨_,rfl⟩ (.cons ⟨_,rfl⟩ (.cons ⟨_,rfl⟩ (.cons ⟨_,rfl⟩ .nil)))) nq) (.cons (vq 8 rfl) .nil)) (zv rfl (za1 (vq 9 rfl)) o0))))))))))) (fun a w hst=>?_)
 have hst:St B w0 20 [(3,_),(4,_)] [⟨1,28,ptrH,_⟩,⟨2,28,ptrH,_⟩] a w:=hst
 refine zt ?_
 refine wp_seq ?_
 refine gl (sts:=[none,none]) (news:=[]) (sp:=[.val 15 _,.val 16 _]) [.g 0,.g 1,.o 1] hst (zv rfl (za2 (gq 1 rfl)) (zv rfl (zd8 (vq 0 rfl) za3) o0)) (fun a w hst=>?_)
 have hst:St B w0 20 [(3,_),(4,_),(16,_)] [⟨1,28,ptrH,_⟩,⟨2,28,ptrH,_⟩] a w:=hst
 refine za0 ?_
 refine za8 hst (zm 2 rfl) (fun hb0=>?_) (fun hb0=>?_)
 ·have hl:=as_yes hb0
  refine wp_seq ?_
  refine gl (sts:=[none,some (2,_)]) (news:=[]) (sp:=[.val 17 _,.val 18 _,.sto 1,.val 3 _]) [.o 3] hst (zv rfl (zbb (xs:=[]) (qs:=[]) zb5 .nil) (zv rfl (za2 (gq 1 rfl)) (oc (zag rfl rfl rfl (vq 0 rfl) zb4 (Eq.trans (b:=16) rfl rfl)) (zv rfl (za1 (vq 1 rfl)) o0)))) (fun a w hst=>?_)
  have hst:St B w0 20 [(3,_)] [⟨1,28,ptrH,_⟩,⟨2,28,ptrH,_⟩] a w:=hst
  refine za0 ?_
  refine wp_ret ?_
  refine zar ?_
  refine zan ?_ (zaq (rs:=[.cell 2 28,.tmp 3]) rfl hst (.cell (zm 1 rfl) zb4 (.tmp (zm 0 rfl) .nil)) zd)
  rw [asm_lo hl]; exact tu2w zbt (zbz (by rw [if_pos hl]))
 ·have hl:=as_no hb0
  refine wp_skip ?_
  refine zt<|gl (sts:=[none,some (1,_)]) (news:=[]) (sp:=[.val 19 _,.sto 1,.val 3 _]) [.o 2] hst (zv rfl (zab (lz0 0 rfl) zb4) (oc (zag rfl rfl rfl (vq 0 rfl) zb4 (Eq.trans (b:=16) rfl rfl)) (zv rfl (za1 za3) o0))) (fun a w hst=>?_)
  have hst:St B w0 20 [(3,_)] [⟨1,28,ptrH,_⟩,⟨2,28,ptrH,_⟩] a w:=hst
  refine za0 ?_
  refine wp_ret ?_
  refine zan ?_ (zaq (rs:=[.cell 2 28,.tmp 3]) rfl hst (.cell (zm 1 rfl) zb4 (.tmp (zm 0 rfl) .nil)) zd)
  rw [asm_ok hl]; exact tu2w qmA.va zbt
end Go.Proofs.YthncfchnkjemiaaGreatDoor
namespace Go.Proofs.YthncfchnkjemiaaGreatDoor
open Go Go.RowKit
theorem zyt {x:RF}(h:okX x=true):longQ (toQ x)=false∧longQ (-(toQ x))=false:=by
 obtain ⟨_,h1,h2⟩:=okX_q h
 exact ⟨longQ_false.2 ⟨h1,h2⟩,longQ_false.2 (by rw [Rat.neg_num,zgv,Rat.neg_den]; exact ⟨h1,h2⟩)⟩
theorem km_no {m:RM}(h:(!(okM m))=true):kM 0 m=1:=by
 rw [kM,if_pos rfl,if_neg (by intro e; rw [e] at h; cases h)]
theorem zjn {m:RM}(h:(!(okM m))=false):okM m=true∧kM 0 m=0:=by
 have e:okM m=true:=by simpa using h
 exact ⟨e,by rw [kM,if_pos rfl,if_pos e]⟩
theorem asM_1 {q:MQ}:asM 1 q=(rm0,1):=by rw [asM,if_neg zd]
theorem asF_1 {q:Rat}:asF 1 q=(rf0,1):=by rw [asF,if_neg zd]
theorem bk_no {m:RM}(h:(!(okM m))=true):backF m=(rm0,1)∧mirF m=(rm0,1)∧trF m=(rf0,1):=by
 rw [backF,mirF,trF,km_no h]
 exact ⟨asM_1,asM_1,asF_1⟩
theorem zrb {m:RM}(h:(!(okM m))=false):backF m=(rmOf (backQ (toM m)),0)∧mirF m=(rmOf (mirQ (toM m)),0)∧trF m=ansF ((toM m).a+(toM m).d):=by
 obtain ⟨h0,h1⟩:=zjn h
 have hk:=(ziq h0).1
 have ha:=zyt (x:=m.a) (by simp at hk; exact hk.1)
 have hb:=zyt (x:=m.b) (by simp at hk; exact hk.2.1)
 have hc:=zyt (x:=m.c) (by simp at hk; exact hk.2.2.1)
 have hd:=zyt (x:=m.d) (by simp at hk; exact hk.2.2.2)
 rw [backF,mirF,trF,h1]
 refine ⟨?_,?_,by rw [asF,if_pos rfl]⟩
 ·rw [asM,if_pos rfl,if_neg (by simp [backQ,toM,ha.1,hb.2,hc.2,hd.1])]
 ·rw [asM,if_pos rfl,if_neg (by simp [mirQ,toM,ha.1,hb.1,hc.1,hd.1])]
theorem mu_no {m q:RM}(h:((!(okM m)) || (!(okM q)))=true):mulM m q=(rm0,1):=by
 have e:kM (kM 0 m) q=1:=by
  cases h1:(!(okM m)) with
  | true=>rw [km_no h1,kM,if_neg zd]
  | false =>
   rw [h1,Bool.false_or] at h
   rw [(zjn h1).2,km_no h]
 rw [mulM,e,asM_1]
theorem mu_yes {m q:RM}(h:((!(okM m)) || (!(okM q)))=false):(okM m=true∧okM q=true)∧mulM m q=asM 0 (mulQ (toM m) (toM q)):=by
 rw [Bool.or_eq_false_iff] at h
 have h1:=zjn h.1
 have h2:=zjn h.2
 exact ⟨⟨h1.1,h2.1⟩,by rw [mulM,h1.2,h2.2]⟩
theorem zgh {c:Nat}{x:Rat}(hc:c≤800000000):Cn Tryz.prog 309 [Qs c x] (Qs (c+2+1) x):=by
 refine Cn.intro Tryz.func309 rfl zk nq (fun B w0 a hst=>?_)
 have hst:St B w0 6 [(0,Qs c x)] [] a w0.w:=hst
 refine wp_seq ?_
 refine gl (sts:=[]) (news:=[⟨1,26,ptrH,some 0,_,none⟩,⟨2,26,ptrH,some 1,_,none⟩]) (sp:=[.alc 0,.alc 1]) [] hst (oc (zak rfl rfl rfl (gq 0 rfl)) (oc (zas rfl rfl rfl (Str.zero zb0)) o0)) (fun a w hst=>?_)
 have hst:St B w0 6 [] [⟨1,26,ptrH,_⟩,⟨2,26,ptrH,_⟩] a w:=hst
 refine zt<|zay (anc:=[[],[],[0,1],[0,1,2]]) (sts:=[none,some (3,_)]) (news:=[]) (sp:=[.val 3 _,.val 4 _,.val 5 _,.sto 1]) [] za7 hst (zv rfl (zab (lz0 0 rfl) zaf) (zv rfl (za5 (xs:=[]) zgi .nil) (zv rfl (za5 (xs:=[.tmp 3,.tmp 4]) (ziy zo) (.cons (vq 0 rfl) (.cons (vq 1 rfl) .nil))) (oc (zag rfl rfl rfl (vq 2 rfl) zaf (Eq.trans (b:=4) rfl rfl)) o0)))) zk zk zk zk (fun a w hst=>?_)
 have hst:St B w0 6 [] [⟨1,26,ptrH,_⟩,⟨2,26,ptrH,_⟩] a w:=hst
 refine za0 ?_
 refine wp_ret ?_
 refine zan ?_ (zao rfl hst (zm 1 rfl) zaf)
 exact zbz (congrArg (Qs _) (Rat.add_zero x))
theorem zq4 {c:Nat}{x:Rat}(hc:c≤800000000):Cn Tryz.prog 310 [Qs c x] (Qs (2+c+1) (-x)):=by
 refine Cn.intro Tryz.func310 rfl zk nq (fun B w0 a hst=>?_)
 have hst:St B w0 6 [(0,Qs c x)] [] a w0.w:=hst
 refine wp_seq ?_
 refine gl (sts:=[]) (news:=[⟨1,26,ptrH,some 0,_,none⟩,⟨2,26,ptrH,some 1,_,none⟩]) (sp:=[.alc 0,.alc 1]) [] hst (oc (zak rfl rfl rfl (gq 0 rfl)) (oc (zas rfl rfl rfl (Str.zero zb0)) o0)) (fun a w hst=>?_)
 have hst:St B w0 6 [] [⟨1,26,ptrH,_⟩,⟨2,26,ptrH,_⟩] a w:=hst
 refine zt<|zay (anc:=[[],[],[0,1],[0,1,2]]) (sts:=[none,some (3,_)]) (news:=[]) (sp:=[.val 3 _,.val 4 _,.val 5 _,.sto 1]) [] za7 hst (zv rfl (za5 (xs:=[]) zgi .nil) (zv rfl (zab (lz0 0 rfl) zaf) (zv rfl (za5 (xs:=[.tmp 3,.tmp 4]) (zna zo) (.cons (vq 0 rfl) (.cons (vq 1 rfl) .nil))) (oc (zag rfl rfl rfl (vq 2 rfl) zaf (Eq.trans (b:=4) rfl rfl)) o0)))) zk zk zk zk (fun a w hst=>?_)
 have hst:St B w0 6 [] [⟨1,26,ptrH,_⟩,⟨2,26,ptrH,_⟩] a w:=hst
 refine za0 ?_
 refine wp_ret ?_
 refine zan ?_ (zao rfl hst (zm 1 rfl) zaf)
 exact zbz (congrArg (Qs _) (show (0:Rat)-x = -x from by grind))
theorem zrr (m:MQ):Cn Tryz.prog 222 [(QMA 2048 m).va] ((QMA 2051 (backQ m)).va):=by
 refine Cn.intro Tryz.func222 rfl zk nq (fun B w0 a hst=>?_)
 have hst:St B w0 16 [(0,(QMA 2048 m).va)] [] a w0.w:=hst
 refine wp_seq ?_
 refine gl (sts:=[]) (news:=[⟨1,28,ptrH,some 0,_,none⟩,⟨2,28,ptrH,some 1,_,none⟩]) (sp:=[.alc 0,.alc 1]) [] hst (oc (zak rfl rfl rfl (gq 0 rfl)) (oc (zas rfl rfl rfl (Str.zero zb5)) o0)) (fun a w hst=>?_)
 have hst:St B w0 16 [] [⟨1,28,ptrH,_⟩,⟨2,28,ptrH,_⟩] a w:=hst
 refine zt<|zay (anc:=[[],[0],[0,1],[],[3],[0,1,2,3,4],[],[6],[0,1,2,3,4,5,6,7],[],[9],[0,1,2,3,4,5,6,7,8,9,10],[0,1,2,3,4,5,6,7,8,9,10,11],[0,1,2,3,4,5,6,7,8,9,10,11,12]]) (sts:=[none,some (13,_)]) (news:=[]) (sp:=[.adr 3 1 (.some 12) True,.val 4 _,.val 5 _,.adr 6 1 (.some 4) True,.val 7 _,.val 8 _,.adr 9 1 (.some 8) True,.val 10 _,.val 11 _,.adr 12 1 (.some 0) True,.val 13 _,.val 14 _,.val 15 _,.sto 1]) [] za7 hst (oc (ob_a rfl rfl (zaa (lz0 0 rfl) zc1)) (zv rfl (za4 0 rfl zk trivial (lz0 0 rfl) (Sub.part 3 rfl rfl) zaf) (zv rfl (za5 (xs:=[.tmp 4]) (zgh (c:=2048) zd) (.cons (vq 1 rfl) .nil)) (oc (ob_a rfl rfl (zaa (lz0 0 rfl) zca)) (zv rfl (za4 3 rfl zk trivial (lz0 0 rfl) (Sub.part 1 rfl rfl) zaf) (zv rfl (za5 (xs:=[.tmp 7]) (zq4 (c:=2048) zd) (.cons (vq 4 rfl) .nil)) (oc (ob_a rfl rfl (zaa (lz0 0 rfl) zc6)) (zv rfl (za4 6 rfl zk trivial (lz0 0 rfl) (Sub.part 2 rfl rfl) zaf) (zv rfl (za5 (xs:=[.tmp 10]) (zq4 (c:=2048) zd) (.cons (vq 7 rfl) .nil)) (oc (ob_a rfl rfl (zaa (lz0 0 rfl) zc4)) (zv rfl (za4 9 rfl zk trivial (lz0 0 rfl) (Sub.part 0 rfl rfl) zaf) (zv rfl (za5 (xs:=[.tmp 13]) (zgh (c:=2048) zd) (.cons (vq 10 rfl) .nil)) (zv rfl (zbb (xs:=[(0,.tmp 5),(1,.tmp 8),(2,.tmp 11),(3,.tmp 14)]) (qs:=[(0,_),(1,_),(2,_),(3,_)]) zb5 (.cons ⟨rfl,(vq 2 rfl),rfl⟩ (.cons ⟨rfl,(vq 5 rfl),rfl⟩ (.cons ⟨rfl,(vq 8 rfl),rfl⟩ (.cons ⟨rfl,(vq 11 rfl),rfl⟩ .nil))))) (oc (zag rfl rfl rfl (vq 12 rfl) zb4 (Eq.trans (b:=16) rfl rfl)) o0)))))))))))))) zk zk zk zk (fun a w hst=>?_)
 have hst:St B w0 16 [] [⟨1,28,ptrH,_⟩,⟨2,28,ptrH,_⟩] a w:=hst
 refine za0 ?_
 refine wp_ret ?_
 refine zan ?_ (zao rfl hst (zm 1 rfl) zb4)
 exact zbt
theorem zn8 (m:MQ):Cn Tryz.prog 223 [(QMA 2048 m).va] ((QMA 2051 (mirQ m)).va):=by
 refine Cn.intro Tryz.func223 rfl zk nq (fun B w0 a hst=>?_)
 have hst:St B w0 16 [(0,(QMA 2048 m).va)] [] a w0.w:=hst
 refine wp_seq ?_
 refine gl (sts:=[]) (news:=[⟨1,28,ptrH,some 0,_,none⟩,⟨2,28,ptrH,some 1,_,none⟩]) (sp:=[.alc 0,.alc 1]) [] hst (oc (zak rfl rfl rfl (gq 0 rfl)) (oc (zas rfl rfl rfl (Str.zero zb5)) o0)) (fun a w hst=>?_)
 have hst:St B w0 16 [] [⟨1,28,ptrH,_⟩,⟨2,28,ptrH,_⟩] a w:=hst
 refine zt<|zay (anc:=[[],[0],[0,1],[],[3],[0,1,2,3,4],[],[6],[0,1,2,3,4,5,6,7],[],[9],[0,1,2,3,4,5,6,7,8,9,10],[0,1,2,3,4,5,6,7,8,9,10,11],[0,1,2,3,4,5,6,7,8,9,10,11,12]]) (sts:=[none,some (13,_)]) (news:=[]) (sp:=[.adr 3 1 (.some 12) True,.val 4 _,.val 5 _,.adr 6 1 (.some 4) True,.val 7 _,.val 8 _,.adr 9 1 (.some 8) True,.val 10 _,.val 11 _,.adr 12 1 (.some 0) True,.val 13 _,.val 14 _,.val 15 _,.sto 1]) [] za7 hst (oc (ob_a rfl rfl (zaa (lz0 0 rfl) zc1)) (zv rfl (za4 0 rfl zk trivial (lz0 0 rfl) (Sub.part 3 rfl rfl) zaf) (zv rfl (za5 (xs:=[.tmp 4]) (zgh (c:=2048) zd) (.cons (vq 1 rfl) .nil)) (oc (ob_a rfl rfl (zaa (lz0 0 rfl) zca)) (zv rfl (za4 3 rfl zk trivial (lz0 0 rfl) (Sub.part 1 rfl rfl) zaf) (zv rfl (za5 (xs:=[.tmp 7]) (zgh (c:=2048) zd) (.cons (vq 4 rfl) .nil)) (oc (ob_a rfl rfl (zaa (lz0 0 rfl) zc6)) (zv rfl (za4 6 rfl zk trivial (lz0 0 rfl) (Sub.part 2 rfl rfl) zaf) (zv rfl (za5 (xs:=[.tmp 10]) (zgh (c:=2048) zd) (.cons (vq 7 rfl) .nil)) (oc (ob_a rfl rfl (zaa (lz0 0 rfl) zc4)) (zv rfl (za4 9 rfl zk trivial (lz0 0 rfl) (Sub.part 0 rfl rfl) zaf) (zv rfl (za5 (xs:=[.tmp 13]) (zgh (c:=2048) zd) (.cons (vq 10 rfl) .nil)) (zv rfl (zbb (xs:=[(0,.tmp 5),(1,.tmp 8),(2,.tmp 11),(3,.tmp 14)]) (qs:=[(0,_),(1,_),(2,_),(3,_)]) zb5 (.cons ⟨rfl,(vq 2 rfl),rfl⟩ (.cons ⟨rfl,(vq 5 rfl),rfl⟩ (.cons ⟨rfl,(vq 8 rfl),rfl⟩ (.cons ⟨rfl,(vq 11 rfl),rfl⟩ .nil))))) (oc (zag rfl rfl rfl (vq 12 rfl) zb4 (Eq.trans (b:=16) rfl rfl)) o0)))))))))))))) zk zk zk zk (fun a w hst=>?_)
 have hst:St B w0 16 [] [⟨1,28,ptrH,_⟩,⟨2,28,ptrH,_⟩] a w:=hst
 refine za0 ?_
 refine wp_ret ?_
 refine zan ?_ (zao rfl hst (zm 1 rfl) zb4)
 exact zbt
theorem zyj (m:RM):Cn Tryz.prog 71 [(RMA m).va] (MR (backF m)):=by
 refine Cn.intro Tryz.func71 rfl zk nq (fun B w0 a hst=>?_)
 have hst:St B w0 10 [(0,(RMA m).va)] [] a w0.w:=hst
 refine wp_seq ?_
 refine gl (sts:=[]) (news:=[⟨1,28,ptrH,some 0,_,none⟩,⟨2,28,ptrH,some 1,_,none⟩]) (sp:=[.alc 0,.alc 1,.val 3 _]) [.o 2] hst (oc (zak rfl rfl rfl (gq 0 rfl)) (oc (zas rfl rfl rfl (Str.zero zb5)) (zv rfl (za1 za3) o0))) (fun a w hst=>?_)
 have hst:St B w0 10 [(3,_)] [⟨1,28,ptrH,_⟩,⟨2,28,ptrH,_⟩] a w:=hst
 refine zt ?_
 refine wp_seq ?_
 refine gl (sts:=[none,none]) (news:=[]) (sp:=[.val 4 _,.val 5 _,.val 6 _]) [.g 0,.o 2] hst (zv rfl (zab (lz0 0 rfl) zb4) (zv rfl (za5 (xs:=[.tmp 4]) (zi7 _) (.cons (vq 0 rfl) .nil)) (zv rfl (zem (vq 1 rfl)) o0))) (fun a w hst=>?_)
 have hst:St B w0 10 [(3,_),(6,_)] [⟨1,28,ptrH,_⟩,⟨2,28,ptrH,_⟩] a w:=hst
 refine za0 ?_
 refine za8 hst (zm 1 rfl) (fun hb0=>?_) (fun hb0=>?_)
 ·refine wp_seq ?_
  refine gl (sts:=[none,some (1,_)]) (news:=[]) (sp:=[.val 7 _,.sto 1,.val 3 _]) [.o 2] hst (zv rfl (zbb (xs:=[]) (qs:=[]) zb5 .nil) (oc (zag rfl rfl rfl (vq 0 rfl) zb4 (Eq.trans (b:=16) rfl rfl)) (zv rfl (za1 za3) o0))) (fun a w hst=>?_)
  have hst:St B w0 10 [(3,_)] [⟨1,28,ptrH,_⟩,⟨2,28,ptrH,_⟩] a w:=hst
  refine za0 ?_
  refine wp_ret ?_
  refine zar ?_
  refine zan ?_ (zaq (rs:=[.cell 2 28,.tmp 3]) rfl hst (.cell (zm 1 rfl) zb4 (.tmp (zm 0 rfl) .nil)) zd)
  rw [(bk_no hb0).1]; exact zbt
 ·have hok:=(ziq (zjn hb0).1).1
  have hst:=St.wkL hst 0 rfl (qm_x hok)
  refine wp_skip ?_
  refine zt<|gl (sts:=[none,some (2,_)]) (news:=[]) (sp:=[.val 8 _,.val 9 _,.sto 1,.val 3 _]) [.o 3] hst (zv rfl (zab (lz0 0 rfl) zb4) (zv rfl (za5 (xs:=[.tmp 8]) (zrr (toM m)) (.cons (vq 0 rfl) .nil)) (oc (zag rfl rfl rfl (vq 1 rfl) zb4 (Eq.trans (b:=16) rfl rfl)) (zv rfl (za1 za3) o0)))) (fun a w hst=>?_)
  have hst:St B w0 10 [(3,_)] [⟨1,28,ptrH,_⟩,⟨2,28,ptrH,_⟩] a w:=hst
  refine za0 ?_
  refine wp_ret ?_
  refine zan ?_ (zaq (rs:=[.cell 2 28,.tmp 3]) rfl hst (.cell (zm 1 rfl) zb4 (.tmp (zm 0 rfl) .nil)) zd)
  rw [(zrb hb0).1]; exact tu2w qmA.va zbt
theorem zrs (m:RM):Cn Tryz.prog 72 [(RMA m).va] (MR (mirF m)):=by
 refine Cn.intro Tryz.func72 rfl zk nq (fun B w0 a hst=>?_)
 have hst:St B w0 10 [(0,(RMA m).va)] [] a w0.w:=hst
 refine wp_seq ?_
 refine gl (sts:=[]) (news:=[⟨1,28,ptrH,some 0,_,none⟩,⟨2,28,ptrH,some 1,_,none⟩]) (sp:=[.alc 0,.alc 1,.val 3 _]) [.o 2] hst (oc (zak rfl rfl rfl (gq 0 rfl)) (oc (zas rfl rfl rfl (Str.zero zb5)) (zv rfl (za1 za3) o0))) (fun a w hst=>?_)
 have hst:St B w0 10 [(3,_)] [⟨1,28,ptrH,_⟩,⟨2,28,ptrH,_⟩] a w:=hst
 refine zt ?_
 refine wp_seq ?_
 refine gl (sts:=[none,none]) (news:=[]) (sp:=[.val 4 _,.val 5 _,.val 6 _]) [.g 0,.o 2] hst (zv rfl (zab (lz0 0 rfl) zb4) (zv rfl (za5 (xs:=[.tmp 4]) (zi7 _) (.cons (vq 0 rfl) .nil)) (zv rfl (zem (vq 1 rfl)) o0))) (fun a w hst=>?_)
 have hst:St B w0 10 [(3,_),(6,_)] [⟨1,28,ptrH,_⟩,⟨2,28,ptrH,_⟩] a w:=hst
 refine za0 ?_
 refine za8 hst (zm 1 rfl) (fun hb0=>?_) (fun hb0=>?_)
 ·refine wp_seq ?_
  refine gl (sts:=[none,some (1,_)]) (news:=[]) (sp:=[.val 7 _,.sto 1,.val 3 _]) [.o 2] hst (zv rfl (zbb (xs:=[]) (qs:=[]) zb5 .nil) (oc (zag rfl rfl rfl (vq 0 rfl) zb4 (Eq.trans (b:=16) rfl rfl)) (zv rfl (za1 za3) o0))) (fun a w hst=>?_)
  have hst:St B w0 10 [(3,_)] [⟨1,28,ptrH,_⟩,⟨2,28,ptrH,_⟩] a w:=hst
  refine za0 ?_
  refine wp_ret ?_
  refine zar ?_
  refine zan ?_ (zaq (rs:=[.cell 2 28,.tmp 3]) rfl hst (.cell (zm 1 rfl) zb4 (.tmp (zm 0 rfl) .nil)) zd)
  rw [(bk_no hb0).2.1]; exact zbt
 ·have hok:=(ziq (zjn hb0).1).1
  have hst:=St.wkL hst 0 rfl (qm_x hok)
  refine wp_skip ?_
  refine zt<|gl (sts:=[none,some (2,_)]) (news:=[]) (sp:=[.val 8 _,.val 9 _,.sto 1,.val 3 _]) [.o 3] hst (zv rfl (zab (lz0 0 rfl) zb4) (zv rfl (za5 (xs:=[.tmp 8]) (zn8 (toM m)) (.cons (vq 0 rfl) .nil)) (oc (zag rfl rfl rfl (vq 1 rfl) zb4 (Eq.trans (b:=16) rfl rfl)) (zv rfl (za1 za3) o0)))) (fun a w hst=>?_)
  have hst:St B w0 10 [(3,_)] [⟨1,28,ptrH,_⟩,⟨2,28,ptrH,_⟩] a w:=hst
  refine za0 ?_
  refine wp_ret ?_
  refine zan ?_ (zaq (rs:=[.cell 2 28,.tmp 3]) rfl hst (.cell (zm 1 rfl) zb4 (.tmp (zm 0 rfl) .nil)) zd)
  rw [(zrb hb0).2.1]; exact tu2w qmA.va zbt
theorem zuo (m:RM):Cn Tryz.prog 73 [(RMA m).va] (FrR (trF m)):=by
 refine Cn.intro Tryz.func73 rfl zk nq (fun B w0 a hst=>?_)
 have hst:St B w0 23 [(0,(RMA m).va)] [] a w0.w:=hst
 refine wp_seq ?_
 refine gl (sts:=[]) (news:=[⟨1,28,ptrH,some 0,_,none⟩,⟨2,26,ptrH,some 1,_,none⟩]) (sp:=[.alc 0,.alc 1,.val 3 _]) [.o 2] hst (oc (zak rfl rfl rfl (gq 0 rfl)) (oc (zas rfl rfl rfl (Str.zero zb0)) (zv rfl (za1 za3) o0))) (fun a w hst=>?_)
 have hst:St B w0 23 [(3,_)] [⟨1,28,ptrH,_⟩,⟨2,26,ptrH,_⟩] a w:=hst
 refine zt ?_
 refine wp_seq ?_
 refine gl (sts:=[none,none]) (news:=[]) (sp:=[.val 6 _,.val 7 _,.val 8 _]) [.g 0,.o 2] hst (zv rfl (zab (lz0 0 rfl) zb4) (zv rfl (za5 (xs:=[.tmp 6]) (zi7 _) (.cons (vq 0 rfl) .nil)) (zv rfl (zem (vq 1 rfl)) o0))) (fun a w hst=>?_)
 have hst:St B w0 23 [(3,_),(8,_)] [⟨1,28,ptrH,_⟩,⟨2,26,ptrH,_⟩] a w:=hst
 refine za0 ?_
 refine za8 hst (zm 1 rfl) (fun hb0=>?_) (fun hb0=>?_)
 ·refine wp_seq ?_
  refine gl (sts:=[none,some (1,_)]) (news:=[]) (sp:=[.val 9 _,.sto 1,.val 3 _]) [.o 2] hst (zv rfl (zbb (xs:=[]) (qs:=[]) zb0 .nil) (oc (zag rfl rfl rfl (vq 0 rfl) zaf (Eq.trans (b:=4) rfl rfl)) (zv rfl (za1 za3) o0))) (fun a w hst=>?_)
  have hst:St B w0 23 [(3,_)] [⟨1,28,ptrH,_⟩,⟨2,26,ptrH,_⟩] a w:=hst
  refine za0 ?_
  refine wp_ret ?_
  refine zar ?_
  refine zan ?_ (zaq (rs:=[.cell 2 26,.tmp 3]) rfl hst (.cell (zm 1 rfl) zaf (.tmp (zm 0 rfl) .nil)) zd)
  rw [(bk_no hb0).2.2]; exact zbt
 ·have hok:=(ziq (zjn hb0).1).1
  have hst:=St.wkL hst 0 rfl (qm_x hok)
  refine wp_skip ?_
  refine zt<|gl (sts:=[none,none]) (news:=[⟨4,26,ptrH,some 5,_,some (6,_)⟩]) (sp:=[.adr 10 1 (.some 0) True,.val 11 _,.adr 12 1 (.some 12) True,.val 13 _,.val 14 _,.alc 2,.sto 2]) [.g 0] hst (oc (ob_a rfl rfl (zaa (lz0 0 rfl) zc4)) (zv rfl (za4 0 rfl zk trivial (lz0 0 rfl) (Sub.part 0 rfl rfl) zaf) (oc (ob_a rfl rfl (zaa (lz0 0 rfl) zc1)) (zv rfl (za4 2 rfl zk trivial (lz0 0 rfl) (Sub.part 3 rfl rfl) zaf) (zv rfl (za5 (xs:=[.tmp 11,.tmp 13]) (ziy (c:=2048) (d:=2048) zd) (.cons (vq 1 rfl) (.cons (vq 3 rfl) .nil))) (oc (zas rfl rfl rfl (Str.zero zb0)) (oc (zag rfl rfl rfl (vq 4 rfl) zaf (Eq.trans (b:=4) rfl rfl)) o0))))))) (fun a w hst=>?_)
  have hst:St B w0 23 [(3,_)] [⟨1,28,ptrH,_⟩,⟨2,26,ptrH,_⟩,⟨4,26,ptrH,_⟩] a w:=hst
  refine zt<|gl (sts:=[none,none,none]) (news:=[]) (sp:=[.val 15 _,.val 16 _,.val 17 _,.val 5 _]) [.g 0,.o 3] hst (zv rfl (zab (lz0 2 rfl) zaf) (zv rfl (zda (D:=[U32]) (l:=[_]) (xs:=[.tmp 15]) (zfz zk) zdu zk (n_ok zk) nq nq nq (.cons (vq 0 rfl) .nil) rfl rfl) (zv rfl (za5 (xs:=[.tmp 16]) (zkr [(toM m).a+(toM m).d] (.cons ⟨_,rfl⟩ .nil) nq) (.cons (vq 1 rfl) .nil)) (zv rfl (za1 (vq 2 rfl)) o0)))) (fun a w hst=>?_)
  have hst:St B w0 23 [(3,_),(5,_)] [⟨1,28,ptrH,_⟩,⟨2,26,ptrH,_⟩,⟨4,26,ptrH,_⟩] a w:=hst
  refine zt ?_
  refine wp_seq ?_
  refine gl (sts:=[none,none,none]) (news:=[]) (sp:=[.val 18 _,.val 19 _]) [.g 0,.g 1,.o 1] hst (zv rfl (za2 (gq 1 rfl)) (zv rfl (zd8 (vq 0 rfl) za3) o0)) (fun a w hst=>?_)
  have hst:St B w0 23 [(3,_),(5,_),(19,_)] [⟨1,28,ptrH,_⟩,⟨2,26,ptrH,_⟩,⟨4,26,ptrH,_⟩] a w:=hst
  refine za0 ?_
  refine za8 hst (zm 2 rfl) (fun hb1=>?_) (fun hb1=>?_)
  ·rw [ne0,zep] at hb1
   refine wp_seq ?_
   refine gl (sts:=[none,some (2,_),none]) (news:=[]) (sp:=[.val 20 _,.val 21 _,.sto 1,.val 3 _]) [.o 3] hst (zv rfl (zbb (xs:=[]) (qs:=[]) zb0 .nil) (zv rfl (za2 (gq 1 rfl)) (oc (zag rfl rfl rfl (vq 0 rfl) zaf (Eq.trans (b:=4) rfl rfl)) (zv rfl (za1 (vq 1 rfl)) o0)))) (fun a w hst=>?_)
   have hst:St B w0 23 [(3,_)] [⟨1,28,ptrH,_⟩,⟨2,26,ptrH,_⟩,⟨4,26,ptrH,_⟩] a w:=hst
   refine za0 ?_
   refine wp_ret ?_
   refine zar ?_
   refine zan ?_ (zaq (rs:=[.cell 2 26,.tmp 3]) rfl hst (.cell (zm 1 rfl) zaf (.tmp (zm 0 rfl) .nil)) zd)
   rw [(zrb hb0).2.2,ansF,if_pos hb1]; exact tu2w zbt (zbz (by rw [zep,hb1]; rfl))
  ·rw [ne0,zep] at hb1
   refine wp_skip ?_
   refine zt<|gl (sts:=[none,some (1,_),none]) (news:=[]) (sp:=[.val 22 _,.sto 1,.val 3 _]) [.o 2] hst (zv rfl (zab (lz0 2 rfl) zaf) (oc (zag rfl rfl rfl (vq 0 rfl) zaf (Eq.trans (b:=4) rfl rfl)) (zv rfl (za1 za3) o0))) (fun a w hst=>?_)
   have hst:St B w0 23 [(3,_)] [⟨1,28,ptrH,_⟩,⟨2,26,ptrH,_⟩,⟨4,26,ptrH,_⟩] a w:=hst
   refine za0 ?_
   refine wp_ret ?_
   refine zan ?_ (zaq (rs:=[.cell 2 26,.tmp 3]) rfl hst (.cell (zm 1 rfl) zaf (.tmp (zm 0 rfl) .nil)) zd)
   rw [(zrb hb0).2.2,ansF,if_neg (by rw [hb1]; decide)]; exact tu2w rq_wk zbt
theorem zur (m q:RM):Cn Tryz.prog 70 [(RMA m).va,(RMA q).va] (MR (mulM m q)):=by
 refine Cn.intro Tryz.func70 rfl zk nq (fun B w0 a hst=>?_)
 have hst:St B w0 21 [(0,(RMA m).va),(1,(RMA q).va)] [] a w0.w:=hst
 refine wp_seq ?_
 refine gl (sts:=[]) (news:=[⟨2,28,ptrH,some 0,_,none⟩,⟨3,28,ptrH,some 1,_,none⟩,⟨4,28,ptrH,some 2,_,none⟩]) (sp:=[.alc 0,.alc 1,.alc 2,.val 5 _]) [.o 3] hst (oc (zak rfl rfl rfl (gq 0 rfl)) (oc (zak rfl rfl rfl (gq 1 rfl)) (oc (zas rfl rfl rfl (Str.zero zb5)) (zv rfl (za1 za3) o0)))) (fun a w hst=>?_)
 have hst:St B w0 21 [(5,_)] [⟨2,28,ptrH,_⟩,⟨3,28,ptrH,_⟩,⟨4,28,ptrH,_⟩] a w:=hst
 refine zt ?_
 refine wp_seq ?_
 refine gl (sts:=[none,none,none]) (news:=[]) (sp:=[.val 6 _,.val 7 _,.val 8 _,.val 9 _,.val 10 (Wh (_=false) _),.val 11 (Wh (_=false) _),.val 12 (Wh (_=false) _),.val 13 _]) [.g 0,.o 7] hst (zv rfl (zab (lz0 0 rfl) zb4) (zv rfl (za5 (xs:=[.tmp 6]) (zi7 m) (.cons (vq 0 rfl) .nil)) (zv rfl (zem (vq 1 rfl)) (zv rfl (za2 (vq 2 rfl)) (oc (zad rfl rfl rfl (vq 3 rfl) nq (fun hg=>zab (lz0 1 rfl) zb4)) (oc (zad rfl rfl rfl (vq 3 rfl) nq (fun hg=>za5 (xs:=[.tmp 10]) (zi7 q) (.cons (za9 (vq 4 rfl) hg) .nil))) (oc (zad rfl rfl rfl (vq 3 rfl) nq (fun hg=>zem (za9 (vq 5 rfl) hg))) (zv rfl (r_or (vq 3 rfl) (vq 6 rfl)) o0)))))))) (fun a w hst=>?_)
 have hst:St B w0 21 [(5,_),(13,_)] [⟨2,28,ptrH,_⟩,⟨3,28,ptrH,_⟩,⟨4,28,ptrH,_⟩] a w:=hst
 refine za0 ?_
 refine za8 hst (zm 1 rfl) (fun hb0=>?_) (fun hb0=>?_)
 ·refine wp_seq ?_
  refine gl (sts:=[none,none,some (1,_)]) (news:=[]) (sp:=[.val 14 _,.sto 2,.val 5 _]) [.o 2] hst (zv rfl (zbb (xs:=[]) (qs:=[]) zb5 .nil) (oc (zag rfl rfl rfl (vq 0 rfl) zb4 (Eq.trans (b:=16) rfl rfl)) (zv rfl (za1 za3) o0))) (fun a w hst=>?_)
  have hst:St B w0 21 [(5,_)] [⟨2,28,ptrH,_⟩,⟨3,28,ptrH,_⟩,⟨4,28,ptrH,_⟩] a w:=hst
  refine za0 ?_
  refine wp_ret ?_
  refine zar ?_
  refine zan ?_ (zaq (rs:=[.cell 4 28,.tmp 5]) rfl hst (.cell (zm 2 rfl) zb4 (.tmp (zm 0 rfl) .nil)) zd)
  rw [mu_no hb0]; exact zbt
 ·have hok:=(mu_yes hb0).1
  have hst:=St.wkL hst 0 rfl (qm_x (ziq hok.1).1)
  have hst:=St.wkL hst 1 rfl (qm_x (ziq hok.2).1)
  refine wp_skip ?_
  refine zt<|gl (sts:=[none,none,some (6,_)]) (news:=[]) (sp:=[.val 15 _,.val 16 _,.val 17 _,.val 18 _,.val 19 _,.val 20 _,.sto 2,.val 5 _]) [.o 7] hst (zv rfl (zab (lz0 0 rfl) zb4) (zv rfl (zab (lz0 1 rfl) zb4) (zv rfl (za5 (xs:=[.tmp 15,.tmp 16]) (zup (c:=2048) (d:=2048) (m:=toM m) (q:=toM q) zd) (.cons (vq 0 rfl) (.cons (vq 1 rfl) .nil))) (zv rfl (za5 (xs:=[.tmp 17]) (zrt (m:=mulQ (toM m) (toM q)) zd) (.cons (vq 2 rfl) .nil)) (zv rfl (zfs (vq 3 rfl)) (zv rfl (zfr (vq 3 rfl)) (oc (zag rfl rfl rfl (vq 4 rfl) zb4 (Eq.trans (b:=16) rfl rfl)) (zv rfl (za1 (vq 5 rfl)) o0)))))))) (fun a w hst=>?_)
  have hst:St B w0 21 [(5,_)] [⟨2,28,ptrH,_⟩,⟨3,28,ptrH,_⟩,⟨4,28,ptrH,_⟩] a w:=hst
  refine za0 ?_
  refine wp_ret ?_
  refine zan ?_ (zaq (rs:=[.cell 4 28,.tmp 5]) rfl hst (.cell (zm 2 rfl) zb4 (.tmp (zm 0 rfl) .nil)) zd)
  rw [(mu_yes hb0).2]; exact zbt
end Go.Proofs.YthncfchnkjemiaaGreatDoor
namespace Go.Proofs.YthncfchnkjemiaaGreatDoor
open Go Go.RowKit
open Go.ChangeShapes Go.WideShapes Go.ChangeAt
section
variable {H:Type} {enc:TypeId × Value→H} {w:World} {base:Nat} {spare:Nat→Bool} {held:Bool} {fuel:Nat} {cs:List Value} {x:DataW H × List MemPlace}
end
end Go.Proofs.YthncfchnkjemiaaGreatDoor
namespace Go.Proofs.YthncfchnkjemiaaGreatDoor
open Go Go.RowKit
open Go.ChangeShapes Go.WideShapes Go.ChangeAt
def wdI (x:RI):Prop:=x.mag.length≤140737488355328
def wdF (x:RF):Prop:=wdI x.num∧wdI x.den
def wdM (x:RM):Prop:=wdF x.a∧wdF x.b∧wdF x.c∧wdF x.d
abbrev Wt {H:Type}(P:Program)(t:TypeId)(d:DataW H):Prop:=∀ n∈d.weights P t,n≤reachBytes
section
variable {H:Type} {enc:TypeId × Value→H} {w:World} {base:Nat} {spare:Nat→Bool} {held:Bool} {fuel:Nat} {cs:List Value} {x:DataW H × List MemPlace}
theorem rb_mg (h:DataW.trod enc Tryz.prog w base spare held fuel 22 cs=some x)(hw:Wt Tryz.prog 22 x.1):∃ l,(MgA l).p w.heap.size cs w∧l.length≤140737488355328:=by
 obtain ⟨l,hl⟩:=rd_mg h
 refine ⟨l,hl,?_⟩
 rcases open_ints Tryz.underlying22 Tryz.underlying168 zk h with ⟨hcs,_⟩ | ⟨a,len,cap,zs,rfl,_,h1,hm,hz,hx,hcell,hwz⟩
 ·subst hcs
  obtain ⟨_,_,A,c,ds,e,_⟩:=hl
  rw [List.length_map] at e
  simp only [List.cons.injEq,Value.slice.injEq,and_true] at e
  omega
 ·obtain ⟨_,_,A,c,ds,e,_⟩:=hl
  rw [List.length_map] at e
  simp only [List.cons.injEq,Value.slice.injEq,and_true] at e
  have h4:Tryz.prog.bytesOf 168=4:=by kernel_rfl
  have:=hw (((lits .u32 (zs.take len):List (DataW H)).length+(lits .u32 (zs.drop len):List (DataW H)).length)*Tryz.prog.bytesOf 168) (by rw [hx]; simp [DataW.weights,Tryz.underlying22,lits])
  rw [h4] at this
  simp only [lits,List.length_map,List.length_take,List.length_drop] at this
  have hlen:len≤zs.length:=by rw [hz]; split <;> omega
  unfold reachBytes at this
  omega
theorem zfx {P:Program}{t:TypeId}{fs:Array Field}(ht:P.underlying t=some (.struct fs))(h:DataW.trod enc P w base spare held fuel t cs=some x)(hw:Wt P t x.1)(j:Nat){f:Field}(hf:fs[j]?=some f) :
  ∃ n y,DataW.trod enc P w base spare held n f.type ((cs.drop f.offset).take (P.cellsOf f.type))=some y∧Wt P f.type y.1:=by
 obtain ⟨xs,n,_,hx,_,hlen,hel⟩:=DataW.trod_struct ht h
 have hj:j<fs.size:=(Array.getElem?_eq_some_iff.1 hf).1
 have h1:=hel j f hf
 rw [List.getElem?_eq_getElem zo] at h1
 refine ⟨n,_,h1,fun k hk=>hw k ?_⟩
 rw [hx]
 simp only [DataW.weights,ht]
 exact DataW.weights_mem_each (j:=j) (by rw [List.getElem?_map]; show (fs.toList[j]?).map _=_; rw [Array.getElem?_toList,hf]; rfl) (by rw [List.getElem?_map,List.getElem?_eq_getElem zo]; rfl) k hk
theorem rb_ri (h:DataW.trod enc Tryz.prog w base spare held fuel 24 cs=some x)(hw:Wt Tryz.prog 24 x.1):∃ y,(RIA y).p w.heap.size cs w∧wdI y:=by
 have hl:cs.length=2:=by
  obtain ⟨_,_,_,_,hl,_,_⟩:=DataW.trod_struct Tryz.underlying24 h
  exact hl.trans zk
 obtain ⟨n0,y0,h0,w0⟩:=zfx Tryz.underlying24 h hw 0 rfl
 have c0:Tryz.prog.cellsOf 4=1:=by kernel_rfl
 have h0:DataW.trod enc Tryz.prog w base spare held n0 4 ((cs.drop 0).take (Tryz.prog.cellsOf 4))=some y0:=h0
 rw [c0] at h0
 obtain ⟨a0,q0⟩:=rd_bo h0
 obtain ⟨n1,y1,h1,w1⟩:=zfx Tryz.underlying24 h hw 1 rfl
 have c1:Tryz.prog.cellsOf 22=1:=by kernel_rfl
 have h1:DataW.trod enc Tryz.prog w base spare held n1 22 ((cs.drop 1).take (Tryz.prog.cellsOf 22))=some y1:=h1
 rw [c1] at h1
 obtain ⟨a1,q1,b1⟩:=rb_mg h1 w1
 exact ⟨⟨a0,a1⟩,zx1 q0 q1 hl,b1⟩
theorem zyg (h:DataW.trod enc Tryz.prog w base spare held fuel 26 cs=some x)(hw:Wt Tryz.prog 26 x.1):∃ y,(RFA y).p w.heap.size cs w∧wdF y:=by
 have hl:cs.length=4:=by
  obtain ⟨_,_,_,_,hl,_,_⟩:=DataW.trod_struct Tryz.underlying26 h
  exact hl.trans zk
 obtain ⟨n0,y0,h0,w0⟩:=zfx Tryz.underlying26 h hw 0 rfl
 have c0:Tryz.prog.cellsOf 24=2:=by kernel_rfl
 have h0:DataW.trod enc Tryz.prog w base spare held n0 24 ((cs.drop 0).take (Tryz.prog.cellsOf 24))=some y0:=h0
 rw [c0] at h0
 obtain ⟨a0,q0,b0⟩:=rb_ri h0 w0
 obtain ⟨n1,y1,h1,w1⟩:=zfx Tryz.underlying26 h hw 1 rfl
 have c1:Tryz.prog.cellsOf 24=2:=by kernel_rfl
 have h1:DataW.trod enc Tryz.prog w base spare held n1 24 ((cs.drop 2).take (Tryz.prog.cellsOf 24))=some y1:=h1
 rw [c1] at h1
 obtain ⟨a1,q1,b1⟩:=rb_ri h1 w1
 exact ⟨⟨a0,a1⟩,zx1 q0 q1 hl,⟨b0,b1⟩⟩
theorem rb_rm (h:DataW.trod enc Tryz.prog w base spare held fuel 28 cs=some x)(hw:Wt Tryz.prog 28 x.1):∃ y,(RMA y).p w.heap.size cs w∧wdM y:=by
 have hl:cs.length=16:=by
  obtain ⟨_,_,_,_,hl,_,_⟩:=DataW.trod_struct Tryz.underlying28 h
  exact hl.trans zk
 obtain ⟨n0,y0,h0,w0⟩:=zfx Tryz.underlying28 h hw 0 rfl
 have c0:Tryz.prog.cellsOf 26=4:=by kernel_rfl
 have h0:DataW.trod enc Tryz.prog w base spare held n0 26 ((cs.drop 0).take (Tryz.prog.cellsOf 26))=some y0:=h0
 rw [c0] at h0
 obtain ⟨a0,q0,b0⟩:=zyg h0 w0
 obtain ⟨n1,y1,h1,w1⟩:=zfx Tryz.underlying28 h hw 1 rfl
 have c1:Tryz.prog.cellsOf 26=4:=by kernel_rfl
 have h1:DataW.trod enc Tryz.prog w base spare held n1 26 ((cs.drop 4).take (Tryz.prog.cellsOf 26))=some y1:=h1
 rw [c1] at h1
 obtain ⟨a1,q1,b1⟩:=zyg h1 w1
 obtain ⟨n2,y2,h2,w2⟩:=zfx Tryz.underlying28 h hw 2 rfl
 have c2:Tryz.prog.cellsOf 26=4:=by kernel_rfl
 have h2:DataW.trod enc Tryz.prog w base spare held n2 26 ((cs.drop 8).take (Tryz.prog.cellsOf 26))=some y2:=h2
 rw [c2] at h2
 obtain ⟨a2,q2,b2⟩:=zyg h2 w2
 obtain ⟨n3,y3,h3,w3⟩:=zfx Tryz.underlying28 h hw 3 rfl
 have c3:Tryz.prog.cellsOf 26=4:=by kernel_rfl
 have h3:DataW.trod enc Tryz.prog w base spare held n3 26 ((cs.drop 12).take (Tryz.prog.cellsOf 26))=some y3:=h3
 rw [c3] at h3
 obtain ⟨a3,q3,b3⟩:=zyg h3 w3
 exact ⟨⟨a0,a1,a2,a3⟩,cat_four q0 q1 q2 q3 hl,⟨b0,b1,b2,b3⟩⟩
theorem zxd {P:Program}{α:Type}{A:α→As}{bd:α→Prop}{t:TypeId}{fs:Array Field}{r:Reach}{b0:Nat}{v:Value}{d:DataW H}{p:List MemPlace}(hag:∀ y,(A y).ag=true)(ht:P.underlying t=some (.struct fs))
  (rd:∀ {fuel:Nat} {cs:List Value} {x:DataW H × List MemPlace},DataW.trod enc P w base spare held fuel t cs=some x→Wt P t x.1→∃ y,(A y).p w.heap.size cs w∧bd y)
  (hv:Value.okWide P w r b0 t v) (h:DataW.Trod enc P w base spare held t v d p) (hw:Wt P t d):∃ y,(A y).va.p w.heap.size v w∧bd y:=by
 obtain ⟨cs,hcs,_⟩:=okWide_struct ht hv
 subst hcs
 obtain ⟨fuel,hf⟩:=h
 obtain ⟨y,hy,hb⟩:=rd hf hw
 refine ⟨y,⟨cs.toList,hy,?_⟩,hb⟩
 unfold shape
 rw [hag y,if_pos rfl]
theorem wt_of {P:Program}{ts:List TypeId}{ds:List (DataW H)}(h:(DataW.weightsEach P ts ds).all (· ≤ reachBytes)=true)(j:Nat){t:TypeId}{d:DataW H}(ht:ts[j]?=some t)(hd:ds[j]?=some d):Wt P t d:=fun n hn=>by
 have:=List.all_eq_true.1 h n (DataW.weights_mem_each ht hd n hn)
 simpa using this
end
theorem zhp {x:RF}(h:wdF x):∃ c:Nat,fracCostF x=(c:Int)∧x.num.mag.length+x.den.mag.length+2≤c∧c≤4503599627370496:=by
 obtain ⟨h1,h2⟩:=h
 unfold wdI at h1 h2
 have e1:intSizeF x.num=((1+x.num.mag.length:Nat):Int):=by unfold intSizeF; rw [wi64 zo zo]; omega
 have e2:intSizeF x.den=((1+x.den.mag.length:Nat):Int):=by unfold intSizeF; rw [wi64 zo zo]; omega
 have e3:fracSizeF x=((2+x.num.mag.length+x.den.mag.length:Nat):Int):=by unfold fracSizeF; rw [e1,e2,wi64 zo zo]; omega
 obtain ⟨u,hu⟩:∃ u:Nat,u=min x.num.mag.length 1048576:=⟨_,rfl⟩
 obtain ⟨v,hv⟩:∃ v:Nat,v=min x.den.mag.length 1048576:=⟨_,rfl⟩
 have hu':min (x.num.mag.length:Int) 1048576=(u:Int):=by omega
 have hv':min (x.den.mag.length:Int) 1048576=(v:Int):=by omega
 have huv:u*v≤1048576*1048576:=Nat.mul_le_mul zo zo
 have h16:u*v/16≤68719476736:=Nat.le_trans (Nat.div_le_div_right huv) zd
 have e4:lowCostF x.num x.den=((u*v/16*1024:Nat):Int):=by
  unfold lowCostF
  have t1:IntKind.i64.wrap (((u*v:Nat):Int))=((u*v:Nat):Int):=wi64 zo zo
  have t2:(((u*v:Nat):Int)).tdiv 16=((u*v/16:Nat):Int):=by rw [show (16:Int)=((16:Nat):Int) from rfl,Int.tdiv_eq_ediv_of_nonneg zo,← Int.natCast_ediv]
  have t3:IntKind.i64.wrap (((u*v/16:Nat):Int))=((u*v/16:Nat):Int):=wi64 zo zo
  rw [hu',hv',← Int.natCast_mul,t1,t2,t3,wi64 zo zo]
  omega
 refine ⟨2+x.num.mag.length+x.den.mag.length+u*v/16*1024,?_,by omega,by omega⟩
 unfold fracCostF
 rw [e3,e4,wi64 zo zo]
 omega
theorem zqe {x:RM}(h:wdM x):∃ a b c d:Nat,matCostF x=((a+b+c+d:Nat):Int)∧(x.a.num.mag.length+x.a.den.mag.length≤a∧x.b.num.mag.length+x.b.den.mag.length≤b∧x.c.num.mag.length+x.c.den.mag.length≤c∧x.d.num.mag.length+x.d.den.mag.length≤d)∧a+b+c+d≤18014398509481984:=by
 obtain ⟨h1,h2,h3,h4⟩:=h
 obtain ⟨a,ea,la,ma⟩:=zhp h1
 obtain ⟨b,eb,lb,mb⟩:=zhp h2
 obtain ⟨c,ec,lc,mc⟩:=zhp h3
 obtain ⟨d,ed,ld,md⟩:=zhp h4
 refine ⟨a,b,c,d,?_,⟨by omega,by omega,by omega,by omega⟩,by omega⟩
 unfold matCostF
 rw [ea,eb,ec,ed,wi64 (x:=(a:Int)+b) zo zo,wi64 (x:=(a:Int)+b+c) zo zo,wi64 zo zo]
 omega
theorem byd_sum {n:Nat}{l:List Nat}(hn:n+l.sum≤9223372036854775807)(h:bydF (n:Int) (l.map fun (x:Nat)=>(x:Int))=false):n≤1048576∨l=[]→n+l.sum≤1048576∨l=[]:=by
 induction l generalizing n with
 | nil=>exact fun _=>.inr rfl
 | cons x l ih =>
  intro _
  simp only [List.sum_cons] at hn
  simp only [List.map_cons,bydF] at h
  rw [wi64 zo zo] at h
  split at h
  ·cases h
  ·rename_i h1
   have h2:n+x≤1048576:=by
    rw [decide_eq_true_eq] at h1
    omega
   rw [show ((n:Int)+(x:Int))=((n+x:Nat):Int) from rfl] at h
   rcases ih (n:=n+x) zo h (.inl h2) with h3 | h3
   ·left; simp only [List.sum_cons]; omega
   ·subst h3; left; simp; omega
theorem byd_0 {l:List Nat}(hn:l.sum≤9223372036854775807)(h:bydF 0 (l.map fun (x:Nat)=>(x:Int))=false):l.sum≤1048576:=by
 rcases byd_sum (n:=0) zo h (.inl zd) with h | h
 ·omega
 ·subst h; decide
end Go.Proofs.YthncfchnkjemiaaGreatDoor
