import Derived.Test.YthncfchnkjemiaaGreatDoorRgAa
import Derived.Test.YthncfchnkjemiaaGreatDoorRgAc
import Derived.Test.YthncfchnkjemiaaGreatDoorRgAm
import Derived.Test.YthncfchnkjemiaaGreatDoorRgAo
import Derived.Test.YthncfchnkjemiaaGreatDoorRgAp
import Derived.Test.YthncfchnkjemiaaGreatDoorRgBb
import Derived.ProofKit
import Derived.OpenShut
import Derived.ChangeOld
import Derived.Below
import Derived.Deep.Slices
import Derived.SizedLaws
set_option linter.unusedVariables false
set_option linter.unusedSimpArgs false
set_option linter.unusedSectionVars false
set_option maxRecDepth 100000
namespace Go.Proofs.YthncfchnkjemiaaGreatDoor
open Go Go.RowKit
theorem big_e {x:RI}:decide ((x.mag.length:Int)>2048)=bigI x:=by unfold bigI; simp
theorem lq_e {q:Rat}:(bigI (riOf q.num) || bigI (riOf (q.den:Int)))=longQ q:=by simp [longQ]
theorem r1long_c (x:RI):Cn Tryz.prog 301 [(RIA x).va] (Bo (bigI x)):=by
 refine Cn.intro Tryz.func301 rfl zk nq (fun B w0 a hst=>?_)
 have hst:St B w0 7 [(0,(RIA x).va)] [] a w0.w:=hst
 refine wp_seq ?_
 refine gl (sts:=[]) (news:=[⟨1,24,ptrH,some 0,_,none⟩]) (sp:=[.alc 0,.val 2 _]) [.o 1] hst (oc (zai rfl rfl rfl (gq 0 rfl)) (zv rfl rfl (za1 zb2) o0)) (fun a w hst=>?_)
 have hst:St B w0 7 [(2,_)] [⟨1,24,ptrH,_⟩] a w:=hst
 refine zt ?_
 refine gl (sts:=[none]) (news:=[]) (sp:=[.adr 3 1 (.some 1) True,.val 4 _,.val 5 _,.val 6 _,.val 2 _]) [.o 4] hst (oc (ob_a rfl rfl (za9 (lz0 0 rfl) zal)) (zv rfl rfl (za4 0 rfl zk trivial (lz0 0 rfl) (Sub.part 1 rfl rfl) zbb) (zv rfl rfl (zaz Tryz.underlying22 (vq 1 rfl)) (zv rfl rfl (zgg (vq 2 rfl) za3) (zv rfl rfl (za1 (vq 3 rfl)) o0))))) (fun a w hst=>?_)
 have hst:St B w0 7 [(2,_)] [⟨1,24,ptrH,_⟩] a w:=hst
 refine za0 ?_
 refine wp_ret ?_
 refine zan ?_ (zae rfl hst (zm 0 rfl))
 exact zbv (congrArg Bo big_e)
theorem r2long_q {L:List As} (qs:List Rat) (hL:All2 IsQ L qs) (hl:qs.length≤1099511627776):Cn Tryz.prog 179 [(SlA 26 [U32] L).va] (Bo (qs.any longQ)):=by
 have hLl:=hL.length
 refine Cn.introW Tryz.func179 rfl zk nq (.cons (up_sl (isq_up hL)).va .nil) (zfz _).va (fun B w0 a hB0 hst=>?_)
 have hst:St B w0 24 [(0,(SlO 26 [U32] L True).va)] [] a w0.w:=hst
 refine wp_seq ?_
 refine gl (sts:=[]) (news:=[]) (sp:=[.val 2 _]) [.g 0,.o 0] hst (zv rfl rfl (za1 zb2) o0) (fun a w hst=>?_)
 have hst:St B w0 24 [(0,_),(2,_)] [] a w:=hst
 refine zt ?_
 refine wp_seq ?_
 refine gl (sts:=[]) (news:=[]) (sp:=[.val 3 _]) [.g 0,.g 1,.o 0] hst (zv rfl rfl (za1 za3) o0) (fun a w hst=>?_)
 have hst:St B w0 24 [(0,_),(2,_),(3,_)] [] a w:=hst
 refine za0 ?_
 refine wp_block ?_
 have hst:=St.sel hst [0,2]
 refine wp_loop_ghost (fun n a w=>∃ j:Nat,(n+j=qs.length∧(qs.take j).any longQ=false)∧St B w0 24 [(0,(SlO 26 [U32] L True).va),(3,In (j:Nat))] [] a w) (qs.length) ?_ ?_
 ·exact ⟨0,⟨by omega,rfl⟩,hst⟩
 intro n a w hI
 obtain ⟨j,⟨hn,hno⟩,hst⟩:=hI
 refine wp_seq ?_
 refine wp_seq ?_
 refine gl (sts:=[]) (news:=[]) (sp:=[.val 4 _,.val 5 _,.val 6 _,.val 7 _]) [.g 0,.g 1,.o 3] hst (zv rfl rfl (za2 (gq 1 rfl)) (zv rfl rfl (za2 (gq 0 rfl)) (zv rfl rfl (zbz Tryz.underlying142 (zey (zb0 (vq 1 rfl)))) (zv rfl rfl (zb7 (vq 0 rfl) (vq 2 rfl)) o0)))) (fun a w hst=>?_)
 have hst:St B w0 24 [(0,_),(3,_),(7,_)] [] a w:=hst
 refine za0 ?_
 refine za8 hst (zm 2 rfl) (fun hb0=>?_) (fun hb0=>?_)
 ·have hj:j<qs.length:=by rw [hLl] at hb0; simp at hb0; omega
  obtain ⟨kj,hLj⟩:=isq_at hL hj
  refine wp_skip ?_
  refine zt ?_
  refine wp_block ?_
  refine wp_seq ?_
  refine gl (sts:=[]) (news:=[]) (sp:=[.val 10 _,.val 11 _,.val 12 _,.val 13 _,.val 14 _,.val 15 _,.val 16 _,.val 17 (Wh (_=false) _),.val 18 (Wh (_=false) _),.val 19 (Wh (_=false) _),.val 20 (Wh (_=false) _),.val 21 (Wh (_=false) _),.val 22 (Wh (_=false) _),.val 23 _]) [.g 0,.g 1,.o 13] hst (zv rfl rfl (za2 (gq 0 rfl)) (zv rfl rfl (za2 (gq 1 rfl)) (zv rfl rfl (zgf zda (isq_n hL) (zey (zb0 (vq 0 rfl))) (vq 1 rfl) hLj) (zv rfl rfl (zas (vq 2 rfl) zbh (Sub.part 0 rfl rfl)) (zv rfl rfl (zad (vq 3 rfl) zab) (zv rfl rfl (za5 (xs:=[.tmp 14]) ((r1long_c (riOf (qs[j]).num)).wk (.cons zaA.va .nil)) (.cons (vq 4 rfl) .nil)) (zv rfl rfl (za2 (vq 5 rfl)) (oc (zah rfl rfl rfl (vq 6 rfl) nq (fun hg=>za2 (gq 0 rfl))) (oc (zah rfl rfl rfl (vq 6 rfl) nq (fun hg=>za2 (gq 1 rfl))) (oc (zah rfl rfl rfl (vq 6 rfl) nq (fun hg=>zgf zda (isq_n hL) (zey (zb0 (zaa (vq 7 rfl) hg))) (zaa (vq 8 rfl) hg) hLj)) (oc (zah rfl rfl rfl (vq 6 rfl) nq (fun hg=>zas (zaa (vq 9 rfl) hg) zb3 (Sub.part 1 rfl rfl))) (oc (zah rfl rfl rfl (vq 6 rfl) nq (fun hg=>zad (zaa (vq 10 rfl) hg) zab)) (oc (zah rfl rfl rfl (vq 6 rfl) nq (fun hg=>za5 (xs:=[.tmp 21]) ((r1long_c (riOf ((qs[j]).den:Int))).wk (.cons zaA.va .nil)) (.cons (zaa (vq 11 rfl) hg) .nil))) (zv rfl rfl (r_or (vq 6 rfl) (vq 12 rfl)) o0)))))))))))))) (fun a w hst=>?_)
  have hst:St B w0 24 [(0,_),(3,_),(23,_)] [] a w:=hst
  refine za0 ?_
  refine za8 hst (zm 2 rfl) (fun hb1=>?_) (fun hb1=>?_)
  ·rw [lq_e] at hb1
   refine wp_seq ?_
   refine gl (sts:=[]) (news:=[]) (sp:=[.val 2 _]) [.g 0,.g 1,.o 0] hst (zv rfl rfl (za1 zb2) o0) (fun a w hst=>?_)
   have hst:St B w0 24 [(0,_),(3,_),(2,_)] [] a w:=hst
   refine za0 ?_
   refine wp_ret ?_
   refine zc7 ?_
   refine zap ?_
   refine zap ?_
   refine zc7 ?_
   refine zap ?_
   refine zao ?_ (zae rfl hst (zm 2 rfl))
   rw [← lq_some hj hb1]
  ·rw [lq_e] at hb1
   refine wp_skip ?_
   refine zat ?_
   refine za0 ?_
   refine gl (sts:=[]) (news:=[]) (sp:=[.val 8 _,.val 9 _,.val 3 _]) [.g 0,.o 2] hst (zv rfl rfl (za2 (gq 1 rfl)) (zv rfl rfl (zbg (vq 0 rfl) za3 (zbj zo)) (zv rfl rfl (za1 (vq 1 rfl)) o0))) (fun a w hst=>?_)
   have hst:St B w0 24 [(0,_),(3,_)] [] a w:=hst
   refine za0 ?_
   have hst:=St.sel hst [0,1]
   exact ⟨n - 1,by omega,j+1,⟨by omega,lq_no hj hno hb1⟩,hst⟩
 ·obtain rfl:j=qs.length:=by rw [hLl] at hb0; simp at hb0; omega
  refine wp_exit ?_
  refine za6 ?_
  refine za6 ?_
  refine zaj ?_
  refine zt ?_
  refine gl (sts:=[]) (news:=[]) (sp:=[.val 2 _]) [.o 0] hst (zv rfl rfl (za1 zb2) o0) (fun a w hst=>?_)
  have hst:St B w0 24 [(2,_)] [] a w:=hst
  refine za0 ?_
  refine wp_ret ?_
  refine zao ?_ (zae rfl hst (zm 0 rfl))
  rw [List.take_length] at hno; rw [hno]
end Go.Proofs.YthncfchnkjemiaaGreatDoor
namespace Go.Proofs.YthncfchnkjemiaaGreatDoor
open Go Go.RowKit
theorem go_no {m:RM} {r:RR} (h:(!okM m || ![r.y,r.u].all okX)=true):goF m r=(rr0,1):=by
 unfold goF kR kM
 cases h1:okM m with
 | false=>rfl
 | true =>
  rw [h1] at h
  have h2:[r.y,r.u].all okX=false:=by simpa only [Bool.not_true,Bool.false_or,Bool.not_eq_true'] using h
  rw [h2]
  rfl
theorem go_yes {m:RM} {r:RR} (h:(!okM m || ![r.y,r.u].all okX)=false):(okM m=true∧[r.y,r.u].all okX=true)∧goF m r=if [(goQ (toM m) (toY r)).y,(goQ (toM m) (toY r)).u].any longQ then (rr0,4) else (rrOf (goQ (toM m) (toY r)),0):=by
 rw [Bool.or_eq_false_iff,Bool.not_eq_false',Bool.not_eq_false'] at h
 refine ⟨h,?_⟩
 unfold goF kR kM
 rw [h.1,h.2]
 rfl
theorem cr_no {r s:RR} (h:(![r.y,r.u].all okX || ![s.y,s.u].all okX)=true):crF r s=(rf0,1):=by
 unfold crF kR
 cases h1:[r.y,r.u].all okX with
 | false=>rfl
 | true =>
  rw [h1] at h
  have h2:[s.y,s.u].all okX=false:=by simpa only [Bool.not_true,Bool.false_or,Bool.not_eq_true'] using h
  rw [h2]
  rfl
theorem cr_yes {r s:RR} (h:(![r.y,r.u].all okX || ![s.y,s.u].all okX)=false):([r.y,r.u].all okX=true∧[s.y,s.u].all okX=true)∧crF r s=ansF (crossQ (toY r) (toY s)):=by
 rw [Bool.or_eq_false_iff,Bool.not_eq_false',Bool.not_eq_false'] at h
 refine ⟨h,?_⟩
 unfold crF kR
 rw [h.1,h.2]
 rfl
theorem zkg {L:List As} (qs:List Rat) (hL:All2 IsQ L qs) (hl:qs.length≤1099511627776):Cn Tryz.prog 200 [(SlA 26 [U32] L).va] (In (if qs.any longQ then 4 else 0)):=by
 refine Cn.intro Tryz.func200 rfl zk nq (fun B w0 a hst=>?_)
 have hst:St B w0 5 [(0,(SlA 26 [U32] L).va)] [] a w0.w:=hst
 refine wp_seq ?_
 refine gl (sts:=[]) (news:=[]) (sp:=[.val 2 _]) [.g 0,.o 0] hst (zv rfl rfl (za1 za3) o0) (fun a w hst=>?_)
 have hst:St B w0 5 [(0,_),(2,_)] [] a w:=hst
 refine zt ?_
 refine wp_seq ?_
 refine gl (sts:=[]) (news:=[]) (sp:=[.val 3 _,.val 4 _]) [.g 1,.o 1] hst (zv rfl rfl (za2 (gq 0 rfl)) (zv rfl rfl (za5 (xs:=[.tmp 3]) (r2long_q qs hL hl) (.cons (vq 0 rfl) .nil)) o0)) (fun a w hst=>?_)
 have hst:St B w0 5 [(2,_),(4,_)] [] a w:=hst
 refine za0 ?_
 refine za8 hst (zm 1 rfl) (fun hb0=>?_) (fun hb0=>?_)
 ·refine wp_seq ?_
  refine gl (sts:=[]) (news:=[]) (sp:=[.val 2 _]) [.o 0] hst (zv rfl rfl (za1 za3) o0) (fun a w hst=>?_)
  have hst:St B w0 5 [(2,_)] [] a w:=hst
  refine za0 ?_
  refine wp_ret ?_
  refine zap ?_
  refine zan ?_ (zae rfl hst (zm 0 rfl))
  rw [hb0]; exact zbs
 ·refine wp_skip ?_
  refine zt ?_
  refine gl (sts:=[]) (news:=[]) (sp:=[.val 2 _]) [.o 0] hst (zv rfl rfl (za1 za3) o0) (fun a w hst=>?_)
  have hst:St B w0 5 [(2,_)] [] a w:=hst
  refine za0 ?_
  refine wp_ret ?_
  refine zan ?_ (zae rfl hst (zm 0 rfl))
  rw [hb0]; exact zbs
theorem r9pair_q {c d e f:Nat} {x y z u:Rat} (hk:c+d+e+f≤900000000):Cn Tryz.prog 306 [Qs c x,Qs d y,Qs e z,Qs f u] (Qs (c+d+(e+f)+1) (x*y+z*u)):=by
 refine Cn.intro Tryz.func306 rfl zk nq (fun B w0 a hst=>?_)
 have hst:St B w0 16 [(0,Qs c x),(1,Qs d y),(2,Qs e z),(3,Qs f u)] [] a w0.w:=hst
 refine wp_seq ?_
 refine gl (sts:=[]) (news:=[⟨4,26,ptrH,some 0,_,none⟩,⟨5,26,ptrH,some 1,_,none⟩,⟨6,26,ptrH,some 2,_,none⟩,⟨7,26,ptrH,some 3,_,none⟩,⟨8,26,ptrH,some 4,_,none⟩]) (sp:=[.alc 0,.alc 1,.alc 2,.alc 3,.alc 4]) [] hst (oc (zai rfl rfl rfl (gq 0 rfl)) (oc (zai rfl rfl rfl (gq 1 rfl)) (oc (zai rfl rfl rfl (gq 2 rfl)) (oc (zai rfl rfl rfl (gq 3 rfl)) (oc (zau rfl rfl rfl (Str.zero zb5)) o0))))) (fun a w hst=>?_)
 have hst:St B w0 16 [] [⟨4,26,ptrH,_⟩,⟨5,26,ptrH,_⟩,⟨6,26,ptrH,_⟩,⟨7,26,ptrH,_⟩,⟨8,26,ptrH,_⟩] a w:=hst
 refine zt ?_
 refine zaw (anc:=[[],[],[0,1],[],[],[0,1,2,3,4],[0,1,2,3,4,5],[0,1,2,3,4,5,6]]) (sts:=[none,none,none,none,some (7,_)]) (news:=[]) (sp:=[.val 9 _,.val 10 _,.val 11 _,.val 12 _,.val 13 _,.val 14 _,.val 15 _,.sto 4]) [] za7 hst (zv rfl rfl (zac (lz0 0 rfl) zag) (zv rfl rfl (zac (lz0 1 rfl) zag) (zv rfl rfl (za5 (xs:=[.tmp 9,.tmp 10]) (zh0 zo) (.cons (vq 0 rfl) (.cons (vq 1 rfl) .nil))) (zv rfl rfl (zac (lz0 2 rfl) zag) (zv rfl rfl (zac (lz0 3 rfl) zag) (zv rfl rfl (za5 (xs:=[.tmp 12,.tmp 13]) (zh0 zo) (.cons (vq 3 rfl) (.cons (vq 4 rfl) .nil))) (zv rfl rfl (za5 (xs:=[.tmp 11,.tmp 14]) (r2plus_q zo) (.cons (vq 2 rfl) (.cons (vq 5 rfl) .nil))) (oc (zak rfl rfl rfl (vq 6 rfl) zag (Eq.trans (b:=4) rfl rfl)) o0)))))))) zk zk zk zk (fun a w hst=>?_)
 have hst:St B w0 16 [] [⟨4,26,ptrH,_⟩,⟨5,26,ptrH,_⟩,⟨6,26,ptrH,_⟩,⟨7,26,ptrH,_⟩,⟨8,26,ptrH,_⟩] a w:=hst
 refine za0 ?_
 refine wp_ret ?_
 refine zan ?_ (zar rfl hst (zm 4 rfl) zag)
 exact zbs
theorem r9gone_q (m:MQ) (r:YQ):Cn Tryz.prog 212 [(QMA 2048 m).va,(QRA 2048 r).va] ((QRA 8193 (goQ m r)).va):=by
 refine Cn.intro Tryz.func212 rfl zk nq (fun B w0 a hst=>?_)
 have hst:St B w0 24 [(0,(QMA 2048 m).va),(1,(QRA 2048 r).va)] [] a w0.w:=hst
 refine wp_seq ?_
 refine gl (sts:=[]) (news:=[⟨2,28,ptrH,some 0,_,none⟩,⟨3,30,ptrH,some 1,_,none⟩,⟨4,30,ptrH,some 2,_,none⟩]) (sp:=[.alc 0,.alc 1,.alc 2]) [] hst (oc (zai rfl rfl rfl (gq 0 rfl)) (oc (zai rfl rfl rfl (gq 1 rfl)) (oc (zau rfl rfl rfl (Str.zero zcn)) o0))) (fun a w hst=>?_)
 have hst:St B w0 24 [] [⟨2,28,ptrH,_⟩,⟨3,30,ptrH,_⟩,⟨4,30,ptrH,_⟩] a w:=hst
 refine zt ?_
 refine zaw (anc:=[[],[0],[],[2],[],[4],[],[6],[0,1,2,3,4,5,6,7],[],[9],[],[11],[],[13],[],[15],[0,1,2,3,4,5,6,7,8,9,10,11,12,13,14,15,16],[0,1,2,3,4,5,6,7,8,9,10,11,12,13,14,15,16,17],[0,1,2,3,4,5,6,7,8,9,10,11,12,13,14,15,16,17,18]]) (sts:=[none,none,some (19,_)]) (news:=[]) (sp:=[.adr 5 2 (.some 0) True,.val 6 _,.adr 7 3 (.some 0) True,.val 8 _,.adr 9 2 (.some 4) True,.val 10 _,.adr 11 3 (.some 4) True,.val 12 _,.val 13 _,.adr 14 2 (.some 8) True,.val 15 _,.adr 16 3 (.some 0) True,.val 17 _,.adr 18 2 (.some 12) True,.val 19 _,.adr 20 3 (.some 4) True,.val 21 _,.val 22 _,.val 23 _,.sto 2]) [] za7 hst (oc (ob_a rfl rfl (za9 (lz0 0 rfl) zd6)) (zv rfl rfl (za4 0 rfl zk trivial (lz0 0 rfl) (Sub.part 0 rfl rfl) zag) (oc (ob_a rfl rfl (za9 (lz0 1 rfl) zc6)) (zv rfl rfl (za4 2 rfl zk trivial (lz0 1 rfl) (Sub.part 0 rfl rfl) zag) (oc (ob_a rfl rfl (za9 (lz0 0 rfl) zd5)) (zv rfl rfl (za4 4 rfl zk trivial (lz0 0 rfl) (Sub.part 1 rfl rfl) zag) (oc (ob_a rfl rfl (za9 (lz0 1 rfl) zc5)) (zv rfl rfl (za4 6 rfl zk trivial (lz0 1 rfl) (Sub.part 1 rfl rfl) zag) (zv rfl rfl (za5 (xs:=[.tmp 6,.tmp 8,.tmp 10,.tmp 12]) (r9pair_q zd) (.cons (vq 1 rfl) (.cons (vq 3 rfl) (.cons (vq 5 rfl) (.cons (vq 7 rfl) .nil))))) (oc (ob_a rfl rfl (za9 (lz0 0 rfl) zcx)) (zv rfl rfl (za4 9 rfl zk trivial (lz0 0 rfl) (Sub.part 2 rfl rfl) zag) (oc (ob_a rfl rfl (za9 (lz0 1 rfl) zc6)) (zv rfl rfl (za4 11 rfl zk trivial (lz0 1 rfl) (Sub.part 0 rfl rfl) zag) (oc (ob_a rfl rfl (za9 (lz0 0 rfl) zcw)) (zv rfl rfl (za4 13 rfl zk trivial (lz0 0 rfl) (Sub.part 3 rfl rfl) zag) (oc (ob_a rfl rfl (za9 (lz0 1 rfl) zc5)) (zv rfl rfl (za4 15 rfl zk trivial (lz0 1 rfl) (Sub.part 1 rfl rfl) zag) (zv rfl rfl (za5 (xs:=[.tmp 15,.tmp 17,.tmp 19,.tmp 21]) (r9pair_q zd) (.cons (vq 10 rfl) (.cons (vq 12 rfl) (.cons (vq 14 rfl) (.cons (vq 16 rfl) .nil))))) (zv rfl rfl (zbd (xs:=[(0,.tmp 13),(1,.tmp 22)]) (qs:=[(0,_),(1,_)]) zcn (.cons ⟨rfl,(vq 8 rfl),rfl⟩ (.cons ⟨rfl,(vq 17 rfl),rfl⟩ .nil))) (oc (zak rfl rfl rfl (vq 18 rfl) zbu (Eq.trans (b:=8) rfl rfl)) o0)))))))))))))))))))) zk zk zk zk (fun a w hst=>?_)
 have hst:St B w0 24 [] [⟨2,28,ptrH,_⟩,⟨3,30,ptrH,_⟩,⟨4,30,ptrH,_⟩] a w:=hst
 refine za0 ?_
 refine wp_ret ?_
 refine zan ?_ (zar rfl hst (zm 2 rfl) zbu)
 exact zbs
theorem zj5 (m:RM) (r:RR):Cn Tryz.prog 62 [(RMA m).va,(RRA r).va] (Tu [(RRA (goF m r).1).va,In (goF m r).2]):=by
 refine Cn.intro Tryz.func62 rfl zk nq (fun B w0 a hst=>?_)
 have hst:St B w0 31 [(0,(RMA m).va),(1,(RRA r).va)] [] a w0.w:=hst
 refine wp_seq ?_
 refine gl (sts:=[]) (news:=[⟨2,28,ptrH,some 0,_,none⟩,⟨3,30,ptrH,some 1,_,none⟩,⟨4,30,ptrH,some 2,_,none⟩]) (sp:=[.alc 0,.alc 1,.alc 2,.val 5 _]) [.o 3] hst (oc (zai rfl rfl rfl (gq 0 rfl)) (oc (zai rfl rfl rfl (gq 1 rfl)) (oc (zau rfl rfl rfl (Str.zero zcn)) (zv rfl rfl (za1 za3) o0)))) (fun a w hst=>?_)
 have hst:St B w0 31 [(5,_)] [⟨2,28,ptrH,_⟩,⟨3,30,ptrH,_⟩,⟨4,30,ptrH,_⟩] a w:=hst
 refine zt ?_
 refine wp_seq ?_
 refine gl (sts:=[none,none,none]) (news:=[]) (sp:=[.val 8 _,.val 9 _,.val 10 _,.val 11 _,.val 12 (Wh (_=false) _),.val 13 (Wh (_=false) _),.val 14 (Wh (_=false) _),.val 15 _]) [.g 0,.o 7] hst (zv rfl rfl (zac (lz0 0 rfl) zd9) (zv rfl rfl (za5 (xs:=[.tmp 8]) (r9may_c _) (.cons (vq 0 rfl) .nil)) (zv rfl rfl (zf8 (vq 1 rfl)) (zv rfl rfl (za2 (vq 2 rfl)) (oc (zah rfl rfl rfl (vq 3 rfl) nq (fun hg=>zac (lz0 1 rfl) zbu)) (oc (zah rfl rfl rfl (vq 3 rfl) nq (fun hg=>za5 (xs:=[.tmp 12]) (zhu _) (.cons (zaa (vq 4 rfl) hg) .nil))) (oc (zah rfl rfl rfl (vq 3 rfl) nq (fun hg=>zf8 (zaa (vq 5 rfl) hg))) (zv rfl rfl (r_or (vq 3 rfl) (vq 6 rfl)) o0)))))))) (fun a w hst=>?_)
 have hst:St B w0 31 [(5,_),(15,_)] [⟨2,28,ptrH,_⟩,⟨3,30,ptrH,_⟩,⟨4,30,ptrH,_⟩] a w:=hst
 refine za0 ?_
 refine za8 hst (zm 1 rfl) (fun hb0=>?_) (fun hb0=>?_)
 ·refine wp_seq ?_
  refine gl (sts:=[none,none,some (1,_)]) (news:=[]) (sp:=[.val 16 _,.sto 2,.val 5 _]) [.o 2] hst (zv rfl rfl (zbd (xs:=[]) (qs:=[]) zcn .nil) (oc (zak rfl rfl rfl (vq 0 rfl) zbu (Eq.trans (b:=8) rfl rfl)) (zv rfl rfl (za1 za3) o0))) (fun a w hst=>?_)
  have hst:St B w0 31 [(5,_)] [⟨2,28,ptrH,_⟩,⟨3,30,ptrH,_⟩,⟨4,30,ptrH,_⟩] a w:=hst
  refine za0 ?_
  refine wp_ret ?_
  refine zap ?_
  refine zan ?_ (zaq (rs:=[.cell 4 30,.tmp 5]) rfl hst (.cell (zm 2 rfl) zbu (.tmp (zm 0 rfl) .nil)) zd)
  rw [go_no hb0]; exact zbs
 ·have hok:=(go_yes hb0).1
  have hgo:=(go_yes hb0).2
  have hst:=St.wkL hst 0 rfl (qm_x (okM_all hok.1))
  have hst:=St.wkL hst 1 rfl (qr_x hok.2)
  refine wp_skip ?_
  refine zt ?_
  refine gl (sts:=[none,none,none]) (news:=[⟨6,30,ptrH,some 3,_,some (4,_)⟩]) (sp:=[.val 17 _,.val 18 _,.val 19 _,.alc 3,.sto 3]) [.g 0] hst (zv rfl rfl (zac (lz0 0 rfl) zd9) (zv rfl rfl (zac (lz0 1 rfl) zbu) (zv rfl rfl (za5 (xs:=[.tmp 17,.tmp 18]) (r9gone_q (toM m) (toY r)) (.cons (vq 0 rfl) (.cons (vq 1 rfl) .nil))) (oc (zau rfl rfl rfl (Str.zero zcn)) (oc (zak rfl rfl rfl (vq 2 rfl) zbu (Eq.trans (b:=8) rfl rfl)) o0))))) (fun a w hst=>?_)
  have hst:St B w0 31 [(5,_)] [⟨2,28,ptrH,_⟩,⟨3,30,ptrH,_⟩,⟨4,30,ptrH,_⟩,⟨6,30,ptrH,_⟩] a w:=hst
  refine zt ?_
  refine gl (sts:=[none,none,none,none]) (news:=[]) (sp:=[.adr 20 6 (.some 0) True,.val 21 _,.adr 22 6 (.some 4) True,.val 23 _,.val 24 _,.val 25 _,.val 7 _]) [.g 0,.o 6] hst (oc (ob_a rfl rfl (za9 (lz0 3 rfl) zc6)) (zv rfl rfl (za4 0 rfl zk trivial (lz0 3 rfl) (Sub.part 0 rfl rfl) zag) (oc (ob_a rfl rfl (za9 (lz0 3 rfl) zc5)) (zv rfl rfl (za4 2 rfl zk trivial (lz0 3 rfl) (Sub.part 1 rfl rfl) zag) (zv rfl rfl (zd7 (D:=[U32]) (l:=[_,_]) (xs:=[.tmp 21,.tmp 23]) (zfs zk) zda zk (n_ok zk) nq nq nq (.cons (vq 1 rfl) (.cons (vq 3 rfl) .nil)) rfl rfl) (zv rfl rfl (za5 (xs:=[.tmp 24]) (zkg [(goQ (toM m) (toY r)).y,(goQ (toM m) (toY r)).u] (.cons ⟨_,rfl⟩ (.cons ⟨_,rfl⟩ .nil)) nq) (.cons (vq 4 rfl) .nil)) (zv rfl rfl (za1 (vq 5 rfl)) o0))))))) (fun a w hst=>?_)
  have hst:St B w0 31 [(5,_),(7,_)] [⟨2,28,ptrH,_⟩,⟨3,30,ptrH,_⟩,⟨4,30,ptrH,_⟩,⟨6,30,ptrH,_⟩] a w:=hst
  refine zt ?_
  refine wp_seq ?_
  refine gl (sts:=[none,none,none,none]) (news:=[]) (sp:=[.val 26 _,.val 27 _]) [.g 0,.g 1,.o 1] hst (zv rfl rfl (za2 (gq 1 rfl)) (zv rfl rfl (zdc (vq 0 rfl) za3) o0)) (fun a w hst=>?_)
  have hst:St B w0 31 [(5,_),(7,_),(27,_)] [⟨2,28,ptrH,_⟩,⟨3,30,ptrH,_⟩,⟨4,30,ptrH,_⟩,⟨6,30,ptrH,_⟩] a w:=hst
  refine za0 ?_
  refine za8 hst (zm 2 rfl) (fun hb1=>?_) (fun hb1=>?_)
  ·rw [ne0] at hb1
   refine wp_seq ?_
   refine gl (sts:=[none,none,some (2,_),none]) (news:=[]) (sp:=[.val 28 _,.val 29 _,.sto 2,.val 5 _]) [.o 3] hst (zv rfl rfl (zbd (xs:=[]) (qs:=[]) zcn .nil) (zv rfl rfl (za2 (gq 1 rfl)) (oc (zak rfl rfl rfl (vq 0 rfl) zbu (Eq.trans (b:=8) rfl rfl)) (zv rfl rfl (za1 (vq 1 rfl)) o0)))) (fun a w hst=>?_)
   have hst:St B w0 31 [(5,_)] [⟨2,28,ptrH,_⟩,⟨3,30,ptrH,_⟩,⟨4,30,ptrH,_⟩,⟨6,30,ptrH,_⟩] a w:=hst
   refine za0 ?_
   refine wp_ret ?_
   refine zap ?_
   refine zan ?_ (zaq (rs:=[.cell 4 30,.tmp 5]) rfl hst (.cell (zm 2 rfl) zbu (.tmp (zm 0 rfl) .nil)) zd)
   rw [hgo.trans (if_pos hb1)]; exact tu2w zbs (zbv (by rw [hb1]; rfl))
  ·rw [ne0] at hb1
   refine wp_skip ?_
   refine zt ?_
   refine gl (sts:=[none,none,some (1,_),none]) (news:=[]) (sp:=[.val 30 _,.sto 2,.val 5 _]) [.o 2] hst (zv rfl rfl (zac (lz0 3 rfl) zbu) (oc (zak rfl rfl rfl (vq 0 rfl) zbu (Eq.trans (b:=8) rfl rfl)) (zv rfl rfl (za1 za3) o0))) (fun a w hst=>?_)
   have hst:St B w0 31 [(5,_)] [⟨2,28,ptrH,_⟩,⟨3,30,ptrH,_⟩,⟨4,30,ptrH,_⟩,⟨6,30,ptrH,_⟩] a w:=hst
   refine za0 ?_
   refine wp_ret ?_
   refine zan ?_ (zaq (rs:=[.cell 4 30,.tmp 5]) rfl hst (.cell (zm 2 rfl) zbu (.tmp (zm 0 rfl) .nil)) zd)
   rw [hgo.trans (if_neg (by rw [hb1]; decide))]; exact tu2w (zc0 (.cons qaA (.cons qaA .nil))).va zbs
theorem r9crossF_c (r s:RR):Cn Tryz.prog 63 [(RRA r).va,(RRA s).va] (FrR (crF r s)):=by
 refine Cn.intro Tryz.func63 rfl zk nq (fun B w0 a hst=>?_)
 have hst:St B w0 34 [(0,(RRA r).va),(1,(RRA s).va)] [] a w0.w:=hst
 refine wp_seq ?_
 refine gl (sts:=[]) (news:=[⟨2,30,ptrH,some 0,_,none⟩,⟨3,30,ptrH,some 1,_,none⟩,⟨4,26,ptrH,some 2,_,none⟩]) (sp:=[.alc 0,.alc 1,.alc 2,.val 5 _]) [.o 3] hst (oc (zai rfl rfl rfl (gq 0 rfl)) (oc (zai rfl rfl rfl (gq 1 rfl)) (oc (zau rfl rfl rfl (Str.zero zb5)) (zv rfl rfl (za1 za3) o0)))) (fun a w hst=>?_)
 have hst:St B w0 34 [(5,_)] [⟨2,30,ptrH,_⟩,⟨3,30,ptrH,_⟩,⟨4,26,ptrH,_⟩] a w:=hst
 refine zt ?_
 refine wp_seq ?_
 refine gl (sts:=[none,none,none]) (news:=[]) (sp:=[.val 8 _,.val 9 _,.val 10 _,.val 11 _,.val 12 (Wh (_=false) _),.val 13 (Wh (_=false) _),.val 14 (Wh (_=false) _),.val 15 _]) [.g 0,.o 7] hst (zv rfl rfl (zac (lz0 0 rfl) zbu) (zv rfl rfl (za5 (xs:=[.tmp 8]) (zhu _) (.cons (vq 0 rfl) .nil)) (zv rfl rfl (zf8 (vq 1 rfl)) (zv rfl rfl (za2 (vq 2 rfl)) (oc (zah rfl rfl rfl (vq 3 rfl) nq (fun hg=>zac (lz0 1 rfl) zbu)) (oc (zah rfl rfl rfl (vq 3 rfl) nq (fun hg=>za5 (xs:=[.tmp 12]) (zhu _) (.cons (zaa (vq 4 rfl) hg) .nil))) (oc (zah rfl rfl rfl (vq 3 rfl) nq (fun hg=>zf8 (zaa (vq 5 rfl) hg))) (zv rfl rfl (r_or (vq 3 rfl) (vq 6 rfl)) o0)))))))) (fun a w hst=>?_)
 have hst:St B w0 34 [(5,_),(15,_)] [⟨2,30,ptrH,_⟩,⟨3,30,ptrH,_⟩,⟨4,26,ptrH,_⟩] a w:=hst
 refine za0 ?_
 refine za8 hst (zm 1 rfl) (fun hb0=>?_) (fun hb0=>?_)
 ·refine wp_seq ?_
  refine gl (sts:=[none,none,some (1,_)]) (news:=[]) (sp:=[.val 16 _,.sto 2,.val 5 _]) [.o 2] hst (zv rfl rfl (zbd (xs:=[]) (qs:=[]) zb5 .nil) (oc (zak rfl rfl rfl (vq 0 rfl) zag (Eq.trans (b:=4) rfl rfl)) (zv rfl rfl (za1 za3) o0))) (fun a w hst=>?_)
  have hst:St B w0 34 [(5,_)] [⟨2,30,ptrH,_⟩,⟨3,30,ptrH,_⟩,⟨4,26,ptrH,_⟩] a w:=hst
  refine za0 ?_
  refine wp_ret ?_
  refine zap ?_
  refine zan ?_ (zaq (rs:=[.cell 4 26,.tmp 5]) rfl hst (.cell (zm 2 rfl) zag (.tmp (zm 0 rfl) .nil)) zd)
  rw [cr_no hb0]; exact zbs
 ·have hok:=(cr_yes hb0).1
  have hcr:=(cr_yes hb0).2
  have hst:=St.wkL hst 0 rfl (qr_x hok.1)
  have hst:=St.wkL hst 1 rfl (qr_x hok.2)
  refine wp_skip ?_
  refine zt ?_
  refine gl (sts:=[none,none,none]) (news:=[⟨6,26,ptrH,some 9,_,some (10,_)⟩]) (sp:=[.adr 17 2 (.some 0) True,.val 18 _,.adr 19 2 (.some 4) True,.val 20 _,.adr 21 3 (.some 0) True,.val 22 _,.adr 23 3 (.some 4) True,.val 24 _,.val 25 _,.alc 3,.sto 3]) [.g 0] hst (oc (ob_a rfl rfl (za9 (lz0 0 rfl) zc6)) (zv rfl rfl (za4 0 rfl zk trivial (lz0 0 rfl) (Sub.part 0 rfl rfl) zag) (oc (ob_a rfl rfl (za9 (lz0 0 rfl) zc5)) (zv rfl rfl (za4 2 rfl zk trivial (lz0 0 rfl) (Sub.part 1 rfl rfl) zag) (oc (ob_a rfl rfl (za9 (lz0 1 rfl) zc6)) (zv rfl rfl (za4 4 rfl zk trivial (lz0 1 rfl) (Sub.part 0 rfl rfl) zag) (oc (ob_a rfl rfl (za9 (lz0 1 rfl) zc5)) (zv rfl rfl (za4 6 rfl zk trivial (lz0 1 rfl) (Sub.part 1 rfl rfl) zag) (zv rfl rfl (za5 (xs:=[.tmp 18,.tmp 20,.tmp 22,.tmp 24]) (r9cross_q zd) (.cons (vq 1 rfl) (.cons (vq 3 rfl) (.cons (vq 5 rfl) (.cons (vq 7 rfl) .nil))))) (oc (zau rfl rfl rfl (Str.zero zb5)) (oc (zak rfl rfl rfl (vq 8 rfl) zag (Eq.trans (b:=4) rfl rfl)) o0))))))))))) (fun a w hst=>?_)
  have hst:St B w0 34 [(5,_)] [⟨2,30,ptrH,_⟩,⟨3,30,ptrH,_⟩,⟨4,26,ptrH,_⟩,⟨6,26,ptrH,_⟩] a w:=hst
  refine zt ?_
  refine gl (sts:=[none,none,none,none]) (news:=[]) (sp:=[.val 26 _,.val 27 _,.val 28 _,.val 7 _]) [.g 0,.o 3] hst (zv rfl rfl (zac (lz0 3 rfl) zag) (zv rfl rfl (zd7 (D:=[U32]) (l:=[_]) (xs:=[.tmp 26]) (zfs zk) zda zk (n_ok zk) nq nq nq (.cons (vq 0 rfl) .nil) rfl rfl) (zv rfl rfl (za5 (xs:=[.tmp 27]) (zkg [crossQ (toY r) (toY s)] (.cons ⟨_,rfl⟩ .nil) nq) (.cons (vq 1 rfl) .nil)) (zv rfl rfl (za1 (vq 2 rfl)) o0)))) (fun a w hst=>?_)
  have hst:St B w0 34 [(5,_),(7,_)] [⟨2,30,ptrH,_⟩,⟨3,30,ptrH,_⟩,⟨4,26,ptrH,_⟩,⟨6,26,ptrH,_⟩] a w:=hst
  refine zt ?_
  refine wp_seq ?_
  refine gl (sts:=[none,none,none,none]) (news:=[]) (sp:=[.val 29 _,.val 30 _]) [.g 0,.g 1,.o 1] hst (zv rfl rfl (za2 (gq 1 rfl)) (zv rfl rfl (zdc (vq 0 rfl) za3) o0)) (fun a w hst=>?_)
  have hst:St B w0 34 [(5,_),(7,_),(30,_)] [⟨2,30,ptrH,_⟩,⟨3,30,ptrH,_⟩,⟨4,26,ptrH,_⟩,⟨6,26,ptrH,_⟩] a w:=hst
  refine za0 ?_
  refine za8 hst (zm 2 rfl) (fun hb1=>?_) (fun hb1=>?_)
  ·rw [ne0,zen] at hb1
   refine wp_seq ?_
   refine gl (sts:=[none,none,some (2,_),none]) (news:=[]) (sp:=[.val 31 _,.val 32 _,.sto 2,.val 5 _]) [.o 3] hst (zv rfl rfl (zbd (xs:=[]) (qs:=[]) zb5 .nil) (zv rfl rfl (za2 (gq 1 rfl)) (oc (zak rfl rfl rfl (vq 0 rfl) zag (Eq.trans (b:=4) rfl rfl)) (zv rfl rfl (za1 (vq 1 rfl)) o0)))) (fun a w hst=>?_)
   have hst:St B w0 34 [(5,_)] [⟨2,30,ptrH,_⟩,⟨3,30,ptrH,_⟩,⟨4,26,ptrH,_⟩,⟨6,26,ptrH,_⟩] a w:=hst
   refine za0 ?_
   refine wp_ret ?_
   refine zap ?_
   refine zan ?_ (zaq (rs:=[.cell 4 26,.tmp 5]) rfl hst (.cell (zm 2 rfl) zag (.tmp (zm 0 rfl) .nil)) zd)
   rw [hcr,ansF,if_pos hb1]; exact tu2w zbs (zbv (by rw [zen,hb1]; rfl))
  ·rw [ne0,zen] at hb1
   refine wp_skip ?_
   refine zt ?_
   refine gl (sts:=[none,none,some (1,_),none]) (news:=[]) (sp:=[.val 33 _,.sto 2,.val 5 _]) [.o 2] hst (zv rfl rfl (zac (lz0 3 rfl) zag) (oc (zak rfl rfl rfl (vq 0 rfl) zag (Eq.trans (b:=4) rfl rfl)) (zv rfl rfl (za1 za3) o0))) (fun a w hst=>?_)
   have hst:St B w0 34 [(5,_)] [⟨2,30,ptrH,_⟩,⟨3,30,ptrH,_⟩,⟨4,26,ptrH,_⟩,⟨6,26,ptrH,_⟩] a w:=hst
   refine za0 ?_
   refine wp_ret ?_
   refine zan ?_ (zaq (rs:=[.cell 4 26,.tmp 5]) rfl hst (.cell (zm 2 rfl) zag (.tmp (zm 0 rfl) .nil)) zd)
   rw [hcr,ansF,if_neg (by rw [hb1]; decide)]; exact tu2w rq_wk zbs
end Go.Proofs.YthncfchnkjemiaaGreatDoor
namespace Go.Proofs.YthncfchnkjemiaaGreatDoor
open Go Go.RowKit
open Go.ChangeShapes Go.WideShapes Go.ChangeAt
section
variable {H:Type} {enc:TypeId × Value→H} {w:World} {base:Nat} {spare:Nat→Bool} {held:Bool} {fuel:Nat} {cs:List Value} {x:DataW H × List MemPlace}
end
end Go.Proofs.YthncfchnkjemiaaGreatDoor
namespace Go.Proofs.YthncfchnkjemiaaGreatDoor
open Go Go.RowKit
open Go.ChangeShapes Go.WideShapes Go.ChangeAt
def wdI (x:RI):Prop:=x.mag.length≤140737488355328
def wdF (x:RF):Prop:=wdI x.num∧wdI x.den
def wdM (x:RM):Prop:=wdF x.a∧wdF x.b∧wdF x.c∧wdF x.d
def wdR (x:RR):Prop:=wdF x.y∧wdF x.u
abbrev Wt {H:Type} (P:Program) (t:TypeId) (d:DataW H):Prop:=∀ n∈d.weights P t,n≤reachBytes
section
variable {H:Type} {enc:TypeId × Value→H} {w:World} {base:Nat} {spare:Nat→Bool} {held:Bool} {fuel:Nat} {cs:List Value} {x:DataW H × List MemPlace}
theorem rb_mg (h:DataW.trod enc Tryz.prog w base spare held fuel 22 cs=some x) (hw:Wt Tryz.prog 22 x.1):∃ l,(MgA l).p w.heap.size cs w∧l.length≤140737488355328:=by
 obtain ⟨l,hl⟩:=rd_mg h
 refine ⟨l,hl,?_⟩
 rcases open_ints Tryz.underlying22 Tryz.underlying168 zk h with ⟨hcs,_⟩ | ⟨a,len,cap,zs,rfl,_,h1,hm,hz,hx,hcell,hwz⟩
 ·subst hcs
  obtain ⟨_,_,A,c,ds,e,_⟩:=hl
  rw [List.length_map] at e
  simp only [List.cons.injEq,Value.slice.injEq,and_true] at e
  omega
 ·obtain ⟨_,_,A,c,ds,e,_⟩:=hl
  rw [List.length_map] at e
  simp only [List.cons.injEq,Value.slice.injEq,and_true] at e
  have h4:Tryz.prog.bytesOf 168=4:=by kernel_rfl
  have:=hw (((lits .u32 (zs.take len):List (DataW H)).length+(lits .u32 (zs.drop len):List (DataW H)).length)*Tryz.prog.bytesOf 168) (by rw [hx]; simp [DataW.weights,Tryz.underlying22,lits])
  rw [h4] at this
  simp only [lits,List.length_map,List.length_take,List.length_drop] at this
  have hlen:len≤zs.length:=by rw [hz]; split <;> omega
  unfold reachBytes at this
  omega
theorem zev {P:Program} {t:TypeId} {fs:Array Field} (ht:P.underlying t=some (.struct fs)) (h:DataW.trod enc P w base spare held fuel t cs=some x) (hw:Wt P t x.1) (j:Nat) {f:Field} (hf:fs[j]?=some f) :
  ∃ n y,DataW.trod enc P w base spare held n f.type ((cs.drop f.offset).take (P.cellsOf f.type))=some y∧Wt P f.type y.1:=by
 obtain ⟨xs,n,_,hx,_,hlen,hel⟩:=DataW.trod_struct ht h
 have hj:j<fs.size:=(Array.getElem?_eq_some_iff.1 hf).1
 have h1:=hel j f hf
 rw [List.getElem?_eq_getElem zo] at h1
 refine ⟨n,_,h1,fun k hk=>hw k ?_⟩
 rw [hx]
 simp only [DataW.weights,ht]
 exact DataW.weights_mem_each (j:=j) (by rw [List.getElem?_map]; show (fs.toList[j]?).map _=_; rw [Array.getElem?_toList,hf]; rfl) (by rw [List.getElem?_map,List.getElem?_eq_getElem zo]; rfl) k hk
theorem rb_ri (h:DataW.trod enc Tryz.prog w base spare held fuel 24 cs=some x) (hw:Wt Tryz.prog 24 x.1):∃ y,(RIA y).p w.heap.size cs w∧wdI y:=by
 have hl:cs.length=2:=by
  obtain ⟨_,_,_,_,hl,_,_⟩:=DataW.trod_struct Tryz.underlying24 h
  exact hl.trans zk
 obtain ⟨n0,y0,h0,w0⟩:=zev Tryz.underlying24 h hw 0 rfl
 have c0:Tryz.prog.cellsOf 4=1:=by kernel_rfl
 have h0:DataW.trod enc Tryz.prog w base spare held n0 4 ((cs.drop 0).take (Tryz.prog.cellsOf 4))=some y0:=h0
 rw [c0] at h0
 obtain ⟨a0,q0⟩:=rd_bo h0
 obtain ⟨n1,y1,h1,w1⟩:=zev Tryz.underlying24 h hw 1 rfl
 have c1:Tryz.prog.cellsOf 22=1:=by kernel_rfl
 have h1:DataW.trod enc Tryz.prog w base spare held n1 22 ((cs.drop 1).take (Tryz.prog.cellsOf 22))=some y1:=h1
 rw [c1] at h1
 obtain ⟨a1,q1,b1⟩:=rb_mg h1 w1
 exact ⟨⟨a0,a1⟩,cat_two q0 q1 hl,b1⟩
theorem rb_rf (h:DataW.trod enc Tryz.prog w base spare held fuel 26 cs=some x) (hw:Wt Tryz.prog 26 x.1):∃ y,(RFA y).p w.heap.size cs w∧wdF y:=by
 have hl:cs.length=4:=by
  obtain ⟨_,_,_,_,hl,_,_⟩:=DataW.trod_struct Tryz.underlying26 h
  exact hl.trans zk
 obtain ⟨n0,y0,h0,w0⟩:=zev Tryz.underlying26 h hw 0 rfl
 have c0:Tryz.prog.cellsOf 24=2:=by kernel_rfl
 have h0:DataW.trod enc Tryz.prog w base spare held n0 24 ((cs.drop 0).take (Tryz.prog.cellsOf 24))=some y0:=h0
 rw [c0] at h0
 obtain ⟨a0,q0,b0⟩:=rb_ri h0 w0
 obtain ⟨n1,y1,h1,w1⟩:=zev Tryz.underlying26 h hw 1 rfl
 have c1:Tryz.prog.cellsOf 24=2:=by kernel_rfl
 have h1:DataW.trod enc Tryz.prog w base spare held n1 24 ((cs.drop 2).take (Tryz.prog.cellsOf 24))=some y1:=h1
 rw [c1] at h1
 obtain ⟨a1,q1,b1⟩:=rb_ri h1 w1
 exact ⟨⟨a0,a1⟩,cat_two q0 q1 hl,⟨b0,b1⟩⟩
theorem rb_rr (h:DataW.trod enc Tryz.prog w base spare held fuel 30 cs=some x) (hw:Wt Tryz.prog 30 x.1):∃ y,(RRA y).p w.heap.size cs w∧wdR y:=by
 have hl:cs.length=8:=by
  obtain ⟨_,_,_,_,hl,_,_⟩:=DataW.trod_struct Tryz.underlying30 h
  exact hl.trans zk
 obtain ⟨n0,y0,h0,w0⟩:=zev Tryz.underlying30 h hw 0 rfl
 have c0:Tryz.prog.cellsOf 26=4:=by kernel_rfl
 have h0:DataW.trod enc Tryz.prog w base spare held n0 26 ((cs.drop 0).take (Tryz.prog.cellsOf 26))=some y0:=h0
 rw [c0] at h0
 obtain ⟨a0,q0,b0⟩:=rb_rf h0 w0
 obtain ⟨n1,y1,h1,w1⟩:=zev Tryz.underlying30 h hw 1 rfl
 have c1:Tryz.prog.cellsOf 26=4:=by kernel_rfl
 have h1:DataW.trod enc Tryz.prog w base spare held n1 26 ((cs.drop 4).take (Tryz.prog.cellsOf 26))=some y1:=h1
 rw [c1] at h1
 obtain ⟨a1,q1,b1⟩:=rb_rf h1 w1
 exact ⟨⟨a0,a1⟩,cat_two q0 q1 hl,⟨b0,b1⟩⟩
theorem rb_rm (h:DataW.trod enc Tryz.prog w base spare held fuel 28 cs=some x) (hw:Wt Tryz.prog 28 x.1):∃ y,(RMA y).p w.heap.size cs w∧wdM y:=by
 have hl:cs.length=16:=by
  obtain ⟨_,_,_,_,hl,_,_⟩:=DataW.trod_struct Tryz.underlying28 h
  exact hl.trans zk
 obtain ⟨n0,y0,h0,w0⟩:=zev Tryz.underlying28 h hw 0 rfl
 have c0:Tryz.prog.cellsOf 26=4:=by kernel_rfl
 have h0:DataW.trod enc Tryz.prog w base spare held n0 26 ((cs.drop 0).take (Tryz.prog.cellsOf 26))=some y0:=h0
 rw [c0] at h0
 obtain ⟨a0,q0,b0⟩:=rb_rf h0 w0
 obtain ⟨n1,y1,h1,w1⟩:=zev Tryz.underlying28 h hw 1 rfl
 have c1:Tryz.prog.cellsOf 26=4:=by kernel_rfl
 have h1:DataW.trod enc Tryz.prog w base spare held n1 26 ((cs.drop 4).take (Tryz.prog.cellsOf 26))=some y1:=h1
 rw [c1] at h1
 obtain ⟨a1,q1,b1⟩:=rb_rf h1 w1
 obtain ⟨n2,y2,h2,w2⟩:=zev Tryz.underlying28 h hw 2 rfl
 have c2:Tryz.prog.cellsOf 26=4:=by kernel_rfl
 have h2:DataW.trod enc Tryz.prog w base spare held n2 26 ((cs.drop 8).take (Tryz.prog.cellsOf 26))=some y2:=h2
 rw [c2] at h2
 obtain ⟨a2,q2,b2⟩:=rb_rf h2 w2
 obtain ⟨n3,y3,h3,w3⟩:=zev Tryz.underlying28 h hw 3 rfl
 have c3:Tryz.prog.cellsOf 26=4:=by kernel_rfl
 have h3:DataW.trod enc Tryz.prog w base spare held n3 26 ((cs.drop 12).take (Tryz.prog.cellsOf 26))=some y3:=h3
 rw [c3] at h3
 obtain ⟨a3,q3,b3⟩:=rb_rf h3 w3
 exact ⟨⟨a0,a1,a2,a3⟩,cat_four q0 q1 q2 q3 hl,⟨b0,b1,b2,b3⟩⟩
theorem arg_ofB {P:Program} {α:Type} {A:α→As} {bd:α→Prop} {t:TypeId} {fs:Array Field} {r:Reach} {b0:Nat} {v:Value} {d:DataW H} {p:List MemPlace} (hag:∀ y,(A y).ag=true) (ht:P.underlying t=some (.struct fs))
  (rd:∀ {fuel:Nat} {cs:List Value} {x:DataW H × List MemPlace},DataW.trod enc P w base spare held fuel t cs=some x→Wt P t x.1→∃ y,(A y).p w.heap.size cs w∧bd y)
  (hv:Value.okWide P w r b0 t v) (h:DataW.Trod enc P w base spare held t v d p) (hw:Wt P t d):∃ y,(A y).va.p w.heap.size v w∧bd y:=by
 obtain ⟨cs,hcs,_⟩:=okWide_struct ht hv
 subst hcs
 obtain ⟨fuel,hf⟩:=h
 obtain ⟨y,hy,hb⟩:=rd hf hw
 refine ⟨y,⟨cs.toList,hy,?_⟩,hb⟩
 unfold shape
 rw [hag y,if_pos rfl]
theorem wt_of {P:Program} {ts:List TypeId} {ds:List (DataW H)} (h:(DataW.weightsEach P ts ds).all (· ≤ reachBytes)=true) (j:Nat) {t:TypeId} {d:DataW H} (ht:ts[j]?=some t) (hd:ds[j]?=some d):Wt P t d:=fun n hn=>by
 have:=List.all_eq_true.1 h n (DataW.weights_mem_each ht hd n hn)
 simpa using this
end
theorem zf0 {x:RF} (h:wdF x):∃ c:Nat,fracCostF x=(c:Int)∧x.num.mag.length+x.den.mag.length+2≤c∧c≤4503599627370496:=by
 obtain ⟨h1,h2⟩:=h
 unfold wdI at h1 h2
 have e1:intSizeF x.num=((1+x.num.mag.length:Nat):Int):=by unfold intSizeF; rw [wi64 zo zo]; omega
 have e2:intSizeF x.den=((1+x.den.mag.length:Nat):Int):=by unfold intSizeF; rw [wi64 zo zo]; omega
 have e3:fracSizeF x=((2+x.num.mag.length+x.den.mag.length:Nat):Int):=by unfold fracSizeF; rw [e1,e2,wi64 zo zo]; omega
 obtain ⟨u,hu⟩:∃ u:Nat,u=min x.num.mag.length 1048576:=⟨_,rfl⟩
 obtain ⟨v,hv⟩:∃ v:Nat,v=min x.den.mag.length 1048576:=⟨_,rfl⟩
 have hu':min (x.num.mag.length:Int) 1048576=(u:Int):=by omega
 have hv':min (x.den.mag.length:Int) 1048576=(v:Int):=by omega
 have huv:u*v≤1048576*1048576:=Nat.mul_le_mul zo zo
 have h16:u*v / 16≤68719476736:=Nat.le_trans (Nat.div_le_div_right huv) zd
 have e4:lowCostF x.num x.den=((u*v / 16*1024:Nat):Int):=by
  unfold lowCostF
  have t1:IntKind.i64.wrap (((u*v:Nat):Int))=((u*v:Nat):Int):=wi64 zo zo
  have t2:(((u*v:Nat):Int)).tdiv 16=((u*v / 16:Nat):Int):=by rw [show (16:Int)=((16:Nat):Int) from rfl,Int.tdiv_eq_ediv_of_nonneg zo,← Int.natCast_ediv]
  have t3:IntKind.i64.wrap (((u*v / 16:Nat):Int))=((u*v / 16:Nat):Int):=wi64 zo zo
  rw [hu',hv',← Int.natCast_mul,t1,t2,t3,wi64 zo zo]
  omega
 refine ⟨2+x.num.mag.length+x.den.mag.length+u*v / 16*1024,?_,by omega,by omega⟩
 unfold fracCostF
 rw [e3,e4,wi64 zo zo]
 omega
theorem mat_cost {x:RM} (h:wdM x):∃ a b c d:Nat,matCostF x=((a+b+c+d:Nat):Int)∧(x.a.num.mag.length+x.a.den.mag.length≤a∧x.b.num.mag.length+x.b.den.mag.length≤b∧x.c.num.mag.length+x.c.den.mag.length≤c∧x.d.num.mag.length+x.d.den.mag.length≤d)∧a+b+c+d≤18014398509481984:=by
 obtain ⟨h1,h2,h3,h4⟩:=h
 obtain ⟨a,ea,la,ma⟩:=zf0 h1
 obtain ⟨b,eb,lb,mb⟩:=zf0 h2
 obtain ⟨c,ec,lc,mc⟩:=zf0 h3
 obtain ⟨d,ed,ld,md⟩:=zf0 h4
 refine ⟨a,b,c,d,?_,⟨by omega,by omega,by omega,by omega⟩,by omega⟩
 unfold matCostF
 rw [ea,eb,ec,ed,wi64 (x:=(a:Int)+b) zo zo,wi64 (x:=(a:Int)+b+c) zo zo,wi64 zo zo]
 omega
theorem ray_cost {x:RR} (h:wdR x):∃ a b:Nat,rayCostF x=((a+b:Nat):Int)∧(x.y.num.mag.length+x.y.den.mag.length≤a∧x.u.num.mag.length+x.u.den.mag.length≤b)∧a+b≤9007199254740992:=by
 obtain ⟨h1,h2⟩:=h
 obtain ⟨a,ea,la,ma⟩:=zf0 h1
 obtain ⟨b,eb,lb,mb⟩:=zf0 h2
 refine ⟨a,b,?_,⟨by omega,by omega⟩,by omega⟩
 unfold rayCostF
 rw [ea,eb,wi64 zo zo]
 omega
theorem byd_sum {n:Nat} {l:List Nat} (hn:n+l.sum≤9223372036854775807) (h:bydF (n:Int) (l.map fun (x:Nat)=>(x:Int))=false):n≤1048576∨l=[]→n+l.sum≤1048576∨l=[]:=by
 induction l generalizing n with
 | nil=>exact fun _=>.inr rfl
 | cons x l ih =>
  intro _
  simp only [List.sum_cons] at hn
  simp only [List.map_cons,bydF] at h
  rw [wi64 zo zo] at h
  split at h
  ·cases h
  ·rename_i h1
   have h2:n+x≤1048576:=by
    rw [decide_eq_true_eq] at h1
    omega
   rw [show ((n:Int)+(x:Int))=((n+x:Nat):Int) from rfl] at h
   rcases ih (n:=n+x) zo h (.inl h2) with h3 | h3
   ·left; simp only [List.sum_cons]; omega
   ·subst h3; left; simp; omega
theorem byd_0 {l:List Nat} (hn:l.sum≤9223372036854775807) (h:bydF 0 (l.map fun (x:Nat)=>(x:Int))=false):l.sum≤1048576:=by
 rcases byd_sum (n:=0) zo h (.inl zd) with h | h
 ·omega
 ·subst h; decide
end Go.Proofs.YthncfchnkjemiaaGreatDoor
