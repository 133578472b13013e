import Derived.Test.YthncfchnkjemiaaGreatDoorRgAa
import Derived.Test.YthncfchnkjemiaaGreatDoorRgAc
import Derived.Test.YthncfchnkjemiaaGreatDoorRgAp
import Derived.Test.YthncfchnkjemiaaGreatDoorRgAz
import Derived.ProofKit
import Derived.OpenShut
import Derived.ChangeOld
import Derived.Below
set_option linter.unusedVariables false
set_option linter.unusedSimpArgs false
set_option linter.unusedSectionVars false
set_option maxRecDepth 100000
namespace Go.Proofs.YthncfchnkjemiaaGreatDoor
open Go Go.RowKit
def p4 (m:MQ) (j:Nat):Rat:=[m.a,m.b,m.c,m.d].getD j 0
def mE (m q:MQ) (j:Nat):Rat:=p4 m (j / 2*2)*p4 q (j % 2)+p4 m (j / 2*2+1)*p4 q (j % 2+2)
def mulQ (m q:MQ):MQ:=⟨m.a*q.a+m.b*q.c,m.a*q.b+m.b*q.d,m.c*q.a+m.d*q.c,m.c*q.b+m.d*q.d⟩
def mulL (m q:MQ) (i:Nat):List As:=(List.range i).map fun j=>QA 8193 (mE m q j)
theorem mulL_len (m q:MQ) (i:Nat):(mulL m q i).length=i:=by simp [mulL]
theorem mulL_succ (m q:MQ) (i:Nat):mulL m q i++[QA 8193 (mE m q i)]=mulL m q (i+1):=by simp [mulL,List.range_succ]
theorem mulL_end (m q:MQ):mulL m q 4=[QA 8193 (mulQ m q).a,QA 8193 (mulQ m q).b,QA 8193 (mulQ m q).c,QA 8193 (mulQ m q).d]:=rfl
theorem arr_at {k:Nat} {m:MQ} {j:Nat} (h:j<4):[QA k m.a,QA k m.b,QA k m.c,QA k m.d][j]?=some (QA k (p4 m j)) :=
 match j,h with
 | 0,_=>rfl
 | 1,_=>rfl
 | 2,_=>rfl
 | 3,_=>rfl
theorem ar_quo {i:Nat} (h:i<4):IntKind.i64.wrap (Int.tdiv (i:Int) 2)=((i / 2:Nat):Int) :=
 match i,h with
 | 0,_=>by decide
 | 1,_=>by decide
 | 2,_=>by decide
 | 3,_=>by decide
theorem ar_rem {i:Nat} (h:i<4):Int.tmod (i:Int) 2=((i % 2:Nat):Int) :=
 match i,h with
 | 0,_=>by decide
 | 1,_=>by decide
 | 2,_=>by decide
 | 3,_=>by decide
theorem ar_mul {i:Nat} (h:i<4):IntKind.i64.wrap (((i / 2:Nat):Int)*2)=((i / 2*2:Nat):Int) :=
 match i,h with
 | 0,_=>by decide
 | 1,_=>by decide
 | 2,_=>by decide
 | 3,_=>by decide
theorem ar_one {i:Nat} (h:i<4):IntKind.i64.wrap (((i / 2*2:Nat):Int)+1)=((i / 2*2+1:Nat):Int) :=
 match i,h with
 | 0,_=>by decide
 | 1,_=>by decide
 | 2,_=>by decide
 | 3,_=>by decide
theorem ar_two {i:Nat} (h:i<4):IntKind.i64.wrap (((i % 2:Nat):Int)+2)=((i % 2+2:Nat):Int) :=
 match i,h with
 | 0,_=>by decide
 | 1,_=>by decide
 | 2,_=>by decide
 | 3,_=>by decide
theorem ar_nxt {i:Nat} (h:i<4):IntKind.i64.wrap ((i:Int)+1)=((i+1:Nat):Int) :=
 match i,h with
 | 0,_=>by decide
 | 1,_=>by decide
 | 2,_=>by decide
 | 3,_=>by decide
theorem app_frac:∃ it z,Tryz.prog.info? 26=some it∧it.zero=some z∧it.size=4∧it.bytes=64∧z.cells.size=4:=by
 have h:((Tryz.prog.info? 26).bind fun it=>it.zero.map fun z=>(it.size,it.bytes,z.cells.size))=some (4,64,4):=by kernel_rfl
 cases hi:Tryz.prog.info? 26 with
 | none=>rw [hi] at h; simp at h
 | some it =>
  rw [hi] at h
  cases hz:it.zero with
  | none=>simp [hz] at h
  | some z =>
   simp [hz] at h
   exact ⟨it,z,rfl,hz,h.1,h.2.1,h.2.2⟩
theorem fourOf_c {k:Nat} (m:MQ):Cn Tryz.prog 216 [(QMA k m).va] ((QMA k m).va):=by
 refine Cn.intro Tryz.func216 rfl zk nq (fun B w0 a hst=>?_)
 have hst:St B w0 12 [(0,(QMA k m).va)] [] a w0.w:=hst
 refine wp_seq ?_
 refine gl (sts:=[]) (news:=[⟨1,28,ptrH,some 0,_,none⟩,⟨2,151,ptrH,some 1,_,none⟩]) (sp:=[.alc 0,.alc 1]) [] hst (oc (zai rfl rfl rfl (gq 0 rfl)) (oc (zau rfl rfl rfl (Arr.zero zis)) o0)) (fun a w hst=>?_)
 have hst:St B w0 12 [] [⟨1,28,ptrH,_⟩,⟨2,151,ptrH,_⟩] a w:=hst
 refine zt ?_
 refine gl (sts:=[none,some (9,_)]) (news:=[]) (sp:=[.adr 3 1 (.some 0) True,.val 4 _,.adr 5 1 (.some 4) True,.val 6 _,.adr 7 1 (.some 8) True,.val 8 _,.adr 9 1 (.some 12) True,.val 10 _,.val 11 _,.sto 1]) [] hst (oc (ob_a rfl rfl (za9 (lz0 0 rfl) zd6)) (zv rfl rfl (za4 0 rfl zk trivial (lz0 0 rfl) (Sub.part 0 rfl rfl) zag) (oc (ob_a rfl rfl (za9 (lz0 0 rfl) zd5)) (zv rfl rfl (za4 2 rfl zk trivial (lz0 0 rfl) (Sub.part 1 rfl rfl) zag) (oc (ob_a rfl rfl (za9 (lz0 0 rfl) zcx)) (zv rfl rfl (za4 4 rfl zk trivial (lz0 0 rfl) (Sub.part 2 rfl rfl) zag) (oc (ob_a rfl rfl (za9 (lz0 0 rfl) zcw)) (zv rfl rfl (za4 6 rfl zk trivial (lz0 0 rfl) (Sub.part 3 rfl rfl) zag) (zv rfl rfl (r_buildA (xs:=[(0,.tmp 4),(1,.tmp 6),(2,.tmp 8),(3,.tmp 10)]) (qs:=[(0,_),(1,_),(2,_),(3,_)]) zis (.cons ⟨rfl,(vq 1 rfl),rfl⟩ (.cons ⟨rfl,(vq 3 rfl),rfl⟩ (.cons ⟨rfl,(vq 5 rfl),rfl⟩ (.cons ⟨rfl,(vq 7 rfl),rfl⟩ .nil))))) (oc (zak rfl rfl rfl (vq 8 rfl) ty_151 (Eq.trans (b:=16) rfl rfl)) o0)))))))))) (fun a w hst=>?_)
 have hst:St B w0 12 [] [⟨1,28,ptrH,_⟩,⟨2,151,ptrH,_⟩] a w:=hst
 refine za0 ?_
 refine wp_ret ?_
 refine zan ?_ (zar rfl hst (zm 1 rfl) ty_151)
 exact zbs
theorem mul1_c (m q:MQ):Cn Tryz.prog 215 [(ElP 28 (QMA 2048 m)),(ElP 28 (QMA 2048 q))] ((SlA 26 [U32] [QA 8193 (mulQ m q).a,QA 8193 (mulQ m q).b,QA 8193 (mulQ m q).c,QA 8193 (mulQ m q).d]).va):=by
 obtain ⟨it,z,e1,e2,e3,e4,e5⟩:=app_frac
 refine Cn.intro Tryz.func215 rfl zk nq (fun B w0 a hst=>?_)
 have hst:St B w0 41 [(0,(ElP 28 (QMA 2048 m))),(1,(ElP 28 (QMA 2048 q)))] [] a w0.w:=hst
 refine wp_seq ?_
 refine gl (sts:=[]) (news:=[]) (sp:=[.val 2 _]) [.g 0,.g 1,.o 0] hst (zv rfl rfl (za1 zba) o0) (fun a w hst=>?_)
 have hst:St B w0 41 [(0,_),(1,_),(2,_)] [] a w:=hst
 refine zt ?_
 refine zaw (anc:=[[],[0],[],[0,1,2],[],[],[0,1,2,3,4,5],[0,1,2,3,4,5,6]]) (sts:=[]) (news:=[⟨3,151,ptrH,some 4,_,some (6,_)⟩,⟨4,151,ptrH,some 5,_,some (7,_)⟩]) (sp:=[.val 9 _,.val 10 _,.val 11 _,.val 12 _,.alc 0,.alc 1,.sto 0,.sto 1]) [.g 2] za7 hst (zv rfl rfl (zad (gq 0 rfl) zd9) (zv rfl rfl (za5 (xs:=[.tmp 9]) (fourOf_c _) (.cons (vq 0 rfl) .nil)) (zv rfl rfl (zad (gq 1 rfl) zd9) (zv rfl rfl (za5 (xs:=[.tmp 11]) (fourOf_c _) (.cons (vq 2 rfl) .nil)) (oc (zau rfl rfl rfl (Arr.zero zis)) (oc (zau rfl rfl rfl (Arr.zero zis)) (oc (zak rfl rfl rfl (vq 1 rfl) ty_151 (Eq.trans (b:=16) rfl rfl)) (oc (zak rfl rfl rfl (vq 3 rfl) ty_151 (Eq.trans (b:=16) rfl rfl)) o0)))))))) zk zk zk zk (fun a w hst=>?_)
 have hst:St B w0 41 [(2,_)] [⟨3,151,ptrH,_⟩,⟨4,151,ptrH,_⟩] a w:=hst
 refine zt ?_
 refine gl (sts:=[none,none]) (news:=[]) (sp:=[.val 5 _]) [.g 0,.o 0] hst (zv rfl rfl (za1 zba) o0) (fun a w hst=>?_)
 have hst:St B w0 41 [(2,_),(5,_)] [⟨3,151,ptrH,_⟩,⟨4,151,ptrH,_⟩] a w:=hst
 refine zt ?_
 refine wp_seq ?_
 refine gl (sts:=[none,none]) (news:=[]) (sp:=[.val 13 _]) [.g 0,.g 1,.o 0] hst (zv rfl rfl (za2 za3) o0) (fun a w hst=>?_)
 have hst:St B w0 41 [(2,_),(5,_),(13,_)] [⟨3,151,ptrH,_⟩,⟨4,151,ptrH,_⟩] a w:=hst
 refine za0 ?_
 refine wp_block ?_
 have hst:=St.sel hst [2,1]
 refine wp_loop_ghost (fun n a w=>∃ i:Nat,i+n=4∧St B w0 41 [(13,In (i:Int)),(5,OwnR w0.w.heap.size 26 4 [U32] (mulL m q i))] [⟨3,151,ptrH,QMA 2048 m⟩,⟨4,151,ptrH,QMA 2048 q⟩] a w) (4) ?_ ?_
 ·exact ⟨0,rfl,St.wkG hst 1 rfl own_nil⟩
 intro n a w hI
 obtain ⟨i,hi,hst⟩:=hI
 refine wp_seq ?_
 refine gl (sts:=[none,none]) (news:=[]) (sp:=[.val 14 _]) [.g 0,.g 1,.o 0] hst (zv rfl rfl (zb7 (gq 0 rfl) za3) o0) (fun a w hst=>?_)
 have hst:St B w0 41 [(13,_),(5,_),(14,_)] [⟨3,151,ptrH,_⟩,⟨4,151,ptrH,_⟩] a w:=hst
 refine zt ?_
 refine za8 hst (zm 2 rfl) (fun hb0=>?_) (fun hb0=>?_)
 ·have hi4:i<4:=(by have:=of_decide_eq_true hb0; omega)
  refine wp_skip ?_
  refine zt ?_
  refine wp_block ?_
  refine wp_seq ?_
  refine gl (sts:=[none,none]) (news:=[]) (sp:=[.val 15 _,.val 6 _]) [.g 0,.g 1,.o 1] hst (zv rfl rfl (za2 (gq 0 rfl)) (zv rfl rfl (za1 (vq 0 rfl)) o0)) (fun a w hst=>?_)
  have hst:St B w0 41 [(13,_),(5,_),(6,_)] [⟨3,151,ptrH,_⟩,⟨4,151,ptrH,_⟩] a w:=hst
  refine zt ?_
  refine gl (sts:=[none,none]) (news:=[]) (sp:=[.val 16 _,.val 17 _,.val 18 _,.val 19 _,.val 20 _,.val 7 _,.val 8 _]) [.g 0,.g 1,.o 5,.o 6] hst (zv rfl rfl (za2 (gq 2 rfl)) (zv rfl rfl (zj4 (vq 0 rfl) za3 zd (ar_quo hi4)) (zv rfl rfl (zk0 (vq 1 rfl) za3 (ar_mul hi4)) (zv rfl rfl (za2 (gq 2 rfl)) (zv rfl rfl (zl2 (vq 3 rfl) za3 zd (ar_rem hi4)) (zv rfl rfl (za1 (vq 2 rfl)) (zv rfl rfl (za1 (vq 4 rfl)) o0))))))) (fun a w hst=>?_)
  have hst:St B w0 41 [(13,_),(5,_),(7,_),(8,_)] [⟨3,151,ptrH,_⟩,⟨4,151,ptrH,_⟩] a w:=hst
  refine za0 ?_
  refine go_app (sp:=[.val 21 _,.val 22 _,.val 23 _,.val 24 _,.val 25 _,.val 26 _,.val 27 _,.val 28 _,.val 29 _,.val 30 _,.val 31 _,.val 32 _,.val 33 _,.val 34 _,.val 35 _,.val 36 _,.val 37 _,.val 38 VT,.val 5 VT]) [[],[],[1],[1,2],[],[4],[4,5],[],[7],[7,8],[7,8,9],[],[11],[11,12],[11,12,13],[1,2,3,4,5,6,7,8,9,10,11,12,13,14],[1,2,3,4,5,6,7,8,9,10,11,12,13,14,15],[0,1,2,3,4,5,6,7,8,9,10,11,12,13,14,15,16],[0,1,2,3,4,5,6,7,8,9,10,11,12,13,14,15,16,17]] 17 [0] 0 16 za7 hst (zv rfl rfl (za2 (gq 1 rfl)) (zv rfl rfl (za2 (gq 2 rfl)) (zv rfl rfl (zi6 (m:=4) (lz0 0 rfl) Tryz.underlying151 zk (n_ok zk) (vq 1 rfl) (arr_at zo)) (zv rfl rfl (zad (vq 2 rfl) zag) (zv rfl rfl (za2 (gq 3 rfl)) (zv rfl rfl (zi6 (m:=4) (lz0 1 rfl) Tryz.underlying151 zk (n_ok zk) (vq 4 rfl) (arr_at zo)) (zv rfl rfl (zad (vq 5 rfl) zag) (zv rfl rfl (za2 (gq 2 rfl)) (zv rfl rfl (zbg (vq 7 rfl) za3 (ar_one hi4)) (zv rfl rfl (zi6 (m:=4) (lz0 0 rfl) Tryz.underlying151 zk (n_ok zk) (vq 8 rfl) (arr_at zo)) (zv rfl rfl (zad (vq 9 rfl) zag) (zv rfl rfl (za2 (gq 3 rfl)) (zv rfl rfl (zbg (vq 11 rfl) za3 (ar_two hi4)) (zv rfl rfl (zi6 (m:=4) (lz0 1 rfl) Tryz.underlying151 zk (n_ok zk) (vq 12 rfl) (arr_at zo)) (zv rfl rfl (zad (vq 13 rfl) zag) (zv rfl rfl (za5 (xs:=[.tmp 24,.tmp 27,.tmp 31,.tmp 35]) (rpair_q zd) (.cons (vq 3 rfl) (.cons (vq 6 rfl) (.cons (vq 10 rfl) (.cons (vq 14 rfl) .nil))))) (zv rfl rfl (zd7 (D:=[U32]) (l:=[_]) (xs:=[.tmp 36]) (zfs zk) zda zk (n_ok zk) nq nq nq (.cons (vq 15 rfl) .nil) rfl rfl) o0))))))))))))))))) rfl zk zk zk zk rfl rfl zd rfl zd rfl Tryz.underlying142 e1 e2 e3 e4 e5 zd (by rw [mulL_len]; omega) zd (fun T hT=>hT) zd rfl zk nq nq zk zk (fun a w hst=>?_)
  have hst:St B w0 41 [(5,_),(13,_)] [⟨3,151,ptrH,_⟩,⟨4,151,ptrH,_⟩] a w:=hst
  refine zat ?_
  refine za0 ?_
  refine gl (sts:=[none,none]) (news:=[]) (sp:=[.val 39 _,.val 13 _]) [.g 0,.o 1] hst (zv rfl rfl (zbg (gq 1 rfl) za3 (ar_nxt hi4)) (zv rfl rfl (za2 (vq 0 rfl)) o0)) (fun a w hst=>?_)
  have hst:St B w0 41 [(5,_),(13,_)] [⟨3,151,ptrH,_⟩,⟨4,151,ptrH,_⟩] a w:=hst
  refine za0 ?_
  have hst:=St.sel hst [1,0]
  have hst:=St.wkG (A':=OwnR w0.w.heap.size 26 4 [U32] (mulL m q (i+1))) hst 1 rfl (zbv (congrArg (OwnR w0.w.heap.size 26 4 [U32]) (mulL_succ m q i)))
  obtain ⟨j,rfl⟩:∃ j,n=j+1:=⟨n - 1,by omega⟩; exact ⟨j,by omega,i+1,by omega,hst⟩
 ·obtain rfl:i=4:=(by have:=of_decide_eq_false hb0; omega)
  refine wp_exit ?_
  refine za6 ?_
  refine za6 ?_
  refine zaj ?_
  refine zt ?_
  refine gl (sts:=[none,none]) (news:=[]) (sp:=[.val 40 _,.val 2 _]) [.o 1] hst (zv rfl rfl (za2 (gq 1 rfl)) (zv rfl rfl (za1 (vq 0 rfl)) o0)) (fun a w hst=>?_)
  have hst:St B w0 41 [(2,_)] [⟨3,151,ptrH,_⟩,⟨4,151,ptrH,_⟩] a w:=hst
  refine za0 ?_
  refine wp_ret ?_
  refine zan ?_ (zae rfl hst (zm 0 rfl))
  exact zci own_sl (zbv (by rw [mulL_end]))
def mulM (m q:RM):RM × Int:=asM (kM (kM 0 m) q) (mulQ (toM m) (toM q))
theorem mul1_x {m q:RM} (h:kM (kM 0 m) q=0):Cn Tryz.prog 215 [(ElP 28 (RMA m)),(ElP 28 (RMA q))] (SlA 26 [U32] [QA 8193 (mulQ (toM m) (toM q)).a,QA 8193 (mulQ (toM m) (toM q)).b,QA 8193 (mulQ (toM m) (toM q)).c,QA 8193 (mulQ (toM m) (toM q)).d]).va:=(mul1_c (toM m) (toM q)).wk (.cons (zic (qm_x (okM_q (kM_0 (kM_0 h).2).1).1)) (.cons (zic (qm_x (okM_q (kM_0 h).1).1)) .nil))
theorem mul09_c (m q:RM):Cn Tryz.prog 66 [(RMA m).va,(RMA q).va] (MR (mulM m q)):=by
 refine Cn.intro Tryz.func66 rfl zk nq (fun B w0 a hst=>?_)
 have hst:St B w0 20 [(0,(RMA m).va),(1,(RMA q).va)] [] a w0.w:=hst
 refine wp_seq ?_
 refine gl (sts:=[]) (news:=[⟨2,28,ptrH,some 0,_,none⟩,⟨3,28,ptrH,some 1,_,none⟩,⟨4,28,ptrH,some 2,_,none⟩]) (sp:=[.alc 0,.alc 1,.alc 2,.val 5 _]) [.o 3] hst (oc (zai rfl rfl rfl (gq 0 rfl)) (oc (zai rfl rfl rfl (gq 1 rfl)) (oc (zau rfl rfl rfl (Str.zero zch)) (zv rfl rfl (za1 za3) o0)))) (fun a w hst=>?_)
 have hst:St B w0 20 [(5,_)] [⟨2,28,ptrH,_⟩,⟨3,28,ptrH,_⟩,⟨4,28,ptrH,_⟩] a w:=hst
 refine zt ?_
 refine zd2 (sts:=[none,none,none]) (news:=[⟨8,141,ptrH,some 1,_,none⟩]) (sp:=[.val 7 _,.alc 3,.adr 6 8 .none True]) [.g 0] [(6,8)] [⟨2,28,ptrH,_⟩,⟨3,28,ptrH,_⟩,⟨4,28,ptrH,_⟩,⟨6,141,ptrH,_⟩] hst (zv rfl rfl (zbd (xs:=[]) (qs:=[]) zg5 .nil) (oc (zai rfl rfl rfl (vq 0 rfl)) (oc (ob_a rfl rfl zgq) o0))) zk zk zk ⟨⟨2,rfl⟩,trivial⟩ rfl zk (fun a w hst=>?_)
 have hst:St B w0 20 [(5,_)] [⟨2,28,ptrH,_⟩,⟨3,28,ptrH,_⟩,⟨4,28,ptrH,_⟩,⟨6,141,ptrH,_⟩] a w:=hst
 refine zt ?_
 refine gl (sts:=[none,none,none,some (2,_)]) (news:=[]) (sp:=[.adr 9 6 (.some 0) True,.val 10 _,.cal 11 _ 3]) [.g 0] hst (oc (ob_a rfl rfl (zca (lz0 3 rfl))) (zv rfl rfl (zac (lz0 0 rfl) zd9) (oc (zeg (xs:=[.tmp 9,.tmp 10]) rfl rfl rfl (zh5 _ _) (.cons (arw0 0 rfl zk (lz0 3 rfl)) (.cons (vq 1 rfl) .nil))) o0))) (fun a w hst=>?_)
 have hst:St B w0 20 [(5,_)] [⟨2,28,ptrH,_⟩,⟨3,28,ptrH,_⟩,⟨4,28,ptrH,_⟩,⟨6,141,ptrH,_⟩] a w:=hst
 refine zt ?_
 refine gl (sts:=[none,none,none,some (2,_)]) (news:=[]) (sp:=[.adr 12 6 (.some 0) True,.val 13 _,.cal 14 _ 3]) [.g 0] hst (oc (ob_a rfl rfl (zca (lz0 3 rfl))) (zv rfl rfl (zac (lz0 1 rfl) zd9) (oc (zeg (xs:=[.tmp 12,.tmp 13]) rfl rfl rfl (zh5 _ _) (.cons (arw0 0 rfl zk (lz0 3 rfl)) (.cons (vq 1 rfl) .nil))) o0))) (fun a w hst=>?_)
 have hst:St B w0 20 [(5,_)] [⟨2,28,ptrH,_⟩,⟨3,28,ptrH,_⟩,⟨4,28,ptrH,_⟩,⟨6,141,ptrH,_⟩] a w:=hst
 refine zt ?_
 refine gl (sts:=[none,none,some (5,_),some (2,_)]) (news:=[]) (sp:=[.adr 15 6 (.some 0) True,.val 16 _,.cal 17 _ 3,.val 18 _,.val 19 _,.sto 2,.val 5 _]) [.o 6] hst (oc (ob_a rfl rfl (zca (lz0 3 rfl))) (zv rfl rfl (zim (xs:=[.tmp 2,.tmp 3]) (D:=[28,30,168]) (pre:=fun _:PLift (kM (kM 0 m) q=0)=>[]) (post:=fun _=>(SlA 26 [U32] [QA 8193 (mulQ (toM m) (toM q)).a,QA 8193 (mulQ (toM m) (toM q)).b,QA 8193 (mulQ (toM m) (toM q)).c,QA 8193 (mulQ (toM m) (toM q)).d]).va) (fun i=>mul1_x i.down) (nd_va rfl) (.cons (zb6 (lz0 0 rfl)) (.cons (zb6 (lz0 1 rfl)) .nil))) (oc (zeg (xs:=[.tmp 15,.tmp 16]) rfl rfl rfl (kasMatrix_c _ 8193 (mulQ (toM m) (toM q))) (.cons (arw0 0 rfl zk (lz0 3 rfl)) (.cons (vq 1 rfl) .nil))) (zv rfl rfl (zht (zjd 2 rfl zk zk)) (zv rfl rfl (zhs (zjd 2 rfl zk zk)) (oc (zak rfl rfl rfl (vq 3 rfl) zd9 (Eq.trans (b:=16) rfl rfl)) (zv rfl rfl (za1 (vq 4 rfl)) o0))))))) (fun a w hst=>?_)
 have hst:St B w0 20 [(5,_)] [⟨2,28,ptrH,_⟩,⟨3,28,ptrH,_⟩,⟨4,28,ptrH,_⟩,⟨6,141,ptrH,_⟩] a w:=hst
 refine za0 ?_
 refine wp_ret ?_
 refine zan ?_ (zaq (rs:=[.cell 4 28,.tmp 5]) rfl hst (.cell (zm 2 rfl) zd9 (.tmp (zm 0 rfl) .nil)) zd)
 exact zbs
end Go.Proofs.YthncfchnkjemiaaGreatDoor
namespace Go.Proofs.YthncfchnkjemiaaGreatDoor
open Go Go.RowKit
end Go.Proofs.YthncfchnkjemiaaGreatDoor
namespace Go.Proofs.YthncfchnkjemiaaGreatDoor
open Go Go.RowKit
theorem sub_self {A:As}:Sub A 0 A:=fun B cs w h=>by
 have hl:=A.len B cs w h
 refine ⟨?_,by omega⟩
 rw [List.drop_zero,List.take_of_length_le zo]
 exact h
end Go.Proofs.YthncfchnkjemiaaGreatDoor
namespace Go.Proofs.YthncfchnkjemiaaGreatDoor
open Go Go.RowKit
end Go.Proofs.YthncfchnkjemiaaGreatDoor
namespace Go.Proofs.YthncfchnkjemiaaGreatDoor
open Go Go.RowKit
end Go.Proofs.YthncfchnkjemiaaGreatDoor
namespace Go.Proofs.YthncfchnkjemiaaGreatDoor
open Go Go.RowKit
section
variable {P:Program} {R:Rg} {Q:Exit→Act→World→Prop} {B i:Nat} {w0:Bs}
end
end Go.Proofs.YthncfchnkjemiaaGreatDoor
namespace Go.Proofs.YthncfchnkjemiaaGreatDoor
open Go Go.RowKit
end Go.Proofs.YthncfchnkjemiaaGreatDoor
namespace Go.Proofs.YthncfchnkjemiaaGreatDoor
open Go Go.RowKit
end Go.Proofs.YthncfchnkjemiaaGreatDoor
namespace Go.Proofs.YthncfchnkjemiaaGreatDoor
open Go Go.RowKit
theorem nil_frac {B:Nat} {w:World}:(cat [NilI,NilI]).p B ([.bool false,.slice none 0 0,.bool false,.slice none 0 0]:List Value) w:=⟨[[.bool false,.slice none 0 0],[.bool false,.slice none 0 0]],rfl,.cons ⟨[[.bool false],[.slice none 0 0]],rfl,.cons rfl (.cons rfl .nil)⟩ (.cons ⟨[[.bool false],[.slice none 0 0]],rfl,.cons rfl (.cons rfl .nil)⟩ .nil)⟩
abbrev NilF:As:=cat [NilI,NilI]
theorem nilF_rfn:WkA NilF (RFN rf0):=⟨rfl,rfl,fun B cs w h=>(zf_rfd.2.2 _ _ _ h).1⟩
theorem nilF_cbl {B:Nat} {cs:List Value} {w:World} (h:NilF.p B cs w):cbl cs=[]:=by rw [nil_cells h]; rfl
theorem cbl_nils {B:Nat} {w:World}:∀ {l:List As} {ps:List (List Value)},(∀ A∈l,A=NilF)→All2 (fun (A:As) c=>A.p B c w) l ps→cbl ps.flatten=[]
 | [],_,_,h=>by cases h; rfl
 | A::l,_,hn,h=>by
  cases h with
  | cons h1 h2 =>
   rw [hn A (by simp)] at h1
   rw [List.flatten_cons,zfi,nilF_cbl h1,cbl_nils (fun A' hA=>hn A' (by simp [hA])) h2]
   rfl
end Go.Proofs.YthncfchnkjemiaaGreatDoor
namespace Go.Proofs.YthncfchnkjemiaaGreatDoor
open Go Go.RowKit
theorem zkw:Str Tryz.prog 30 [NilF,NilF] :=
 Str.of (z:=.agg (([.bool false,.slice none 0 0,.bool false,.slice none 0 0]:List Value)++([.bool false,.slice none 0 0,.bool false,.slice none 0 0]:List Value)).toArray) zk Tryz.underlying30 zk fun B w=>⟨[([.bool false,.slice none 0 0,.bool false,.slice none 0 0]:List Value),([.bool false,.slice none 0 0,.bool false,.slice none 0 0]:List Value)],rfl,.cons nil_frac (.cons nil_frac .nil)⟩
theorem zr_rrd:WkA (cat [NilF,NilF]) (RRD rr0):=⟨rfl,rfl,fun B cs w h=>by
 have h1:=(zc0 (.cons nilF_rfn (.cons nilF_rfn .nil))).2.2 _ _ _ h
 obtain ⟨ps,e,hp⟩:=h
 refine ⟨h1,?_⟩
 rw [e,cbl_nils (fun A hA=>by simp at hA; exact hA) hp]
 exact List.nodup_nil⟩
abbrev YRD (r:RR × Int):VA:=Tu [(RRD r.1).va,In r.2]
theorem yd_pins {u v:Value} {k1 k2:Nat} {r:YQ}:WkA (cat [PinA u ((QD k1 r.y).and (SepAll [] u)),PinA v ((QD k2 r.u).and (SepAll [u] v))]) (RRD (rrOf r)) :=
 (zhc (l:=[(u,QD k1 r.y),(v,QD k2 r.u)]) (fun y hy=>by
  simp at hy
  rcases hy with rfl | rfl <;> exact nod_qd)).trans (zer (zc0 (.cons qd_rfn (.cons qd_rfn .nil))))
def SlX (l:List As):As where
 n:=1
 ag:=false
 p B cs w:=∃ us:List Value,us.length=l.length∧(SlA 26 [U32] (pins [] (us.zip l))).p B cs w
 deps:=[26,U32]
 len:=fun B cs w ⟨us,_,h⟩=>(SlA 26 [U32] _).len B cs w h
 one:=fun B cs w ⟨us,_,h⟩=>(SlA 26 [U32] _).one B cs w h
 ag1:=fun _=>rfl
 cg:=fun B cs w w' hg ⟨us,e,h⟩=>⟨us,e,(SlA 26 [U32] _).cg B cs w w' hg h⟩
 wr:=fun B cs w w' g c T fz h1 h2 h3 h4 ⟨us,e,h⟩=>⟨us,e,(SlA 26 [U32] _).wr B cs w w' g c T fz h1 h2 h3 h4 h⟩
theorem pins_wk:∀ {l l':List As} {us pre:List Value},us.length=l.length→All2 WkA l l'→All2 WkA (pins pre (us.zip l)) l'
 | [],_,us,pre,hl,h=>by cases h; cases us with
  | nil=>exact .nil
  | cons u us=>cases hl
 | A::l,_,us,pre,hl,h=>by
  cases h with
  | cons h1 h2=>cases us with
   | nil=>cases hl
   | cons u us=>exact .cons (pin_wk.trans (and_wk.trans h1)) (pins_wk (by simpa using hl) h2)
theorem slx_sl {l l':List As} (h:All2 WkA l l') (hD:∀ A∈l',∀ T∈A.deps,T∈[U32]):WkA (SlX l) (SlA 26 [U32] l'):=⟨rfl,rfl,fun B cs w ⟨us,hl,hp⟩=>(sl_wk (pins_wk hl h) hD).2.2 _ _ _ hp⟩
theorem qd_dep {k:Nat} {q:Rat}:∀ T∈(QD k q).deps,T∈[U32]:=fun T hT=>by
 have h:(QD k q).deps=[U32,U32]:=by kernel_rfl
 rw [h] at hT
 simpa using hT
theorem slx_of2 {u v:Value} {A A':As}:Wk (SlA 26 [U32] [PinA u (A.and (SepAll [] u)),PinA v (A'.and (SepAll [u] v))]).va (SlX [A,A']).va:=fun B x w ⟨cs,h,e⟩=>⟨cs,⟨[u,v],rfl,h⟩,e⟩
theorem slx_of1 {u:Value} {A:As}:Wk (SlA 26 [U32] [PinA u (A.and (SepAll [] u))]).va (SlX [A]).va:=fun B x w ⟨cs,h,e⟩=>⟨cs,⟨[u],rfl,h⟩,e⟩
theorem slx_nil:Wk (SlA 26 [U32] []).va (SlX []).va:=fun B x w ⟨cs,h,e⟩=>⟨cs,⟨[],rfl,h⟩,e⟩
theorem St.openX2 {B N:Nat} {w0:Bs} {Γ:List (Nat × VA)} {Λ:List Lc} {a:Act} {w:World} (h:St B w0 N Γ Λ a w) {t:Nat} {A A':As} (k:Nat) (hm:Γ[k]?=some (t,(SlX [A,A']).va)):∃ u v,St B w0 N (Γ.set k (t,(SlA 26 [U32] [PinA u (A.and (SepAll [] u)),PinA v (A'.and (SepAll [u] v))]).va)) Λ a w:=by
 obtain ⟨cs,⟨us,hl,hp⟩,e⟩:=h.vals _ (List.mem_of_getElem? hm)
 match us,hl with
 | [u,v],_ =>
  refine ⟨u,v,h.lo,h.defers,h.size,h.base,fun x hx=>?_,h.locs,h.dis⟩
  rcases List.mem_or_eq_of_mem_set hx with hx | rfl
  ·exact h.vals x hx
  ·exact ⟨cs,hp,e⟩
abbrev FnX (c:Prop) (L:List As):VA:=FnV Tryz.prog [28,30,168] (fun _:PLift c=>[]) (fun _=>(SlX L).va)
theorem if_dep {c:Prop} [Decidable c] {l:List As} (h:∀ A∈l,∀ T∈A.deps,T∈[U32]):∀ A∈(if c then l else []),∀ T∈A.deps,T∈[U32]:=fun A hA=>by
 split at hA
 ·exact h A hA
 ·cases hA
theorem all_refl:∀ {l:List As},All2 WkA l l
 | []=>.nil
 | A::l=>.cons (WkA.refl A) all_refl
theorem zkm (e:Int) (L L':List As) (qs:List Rat) (hL:All2 IsQ L' qs) (hw:All2 WkA L L') (hD:∀ A∈L',∀ T∈A.deps,T∈[U32]) (hl:qs.length≤1099511627776):Cm Tryz.prog 205 141 (KA e) (KA (ansE e qs)) [.w (ptrH),.v (FnX (e=0) L)] ((SlX (if ansE e qs=0 then L else [])).va):=by
 refine Cm.intro Tryz.func205 rfl zk nq (fun B g w0 a hst=>?_)
 have hst:St B w0 24 [(0,EqV ((ptrH).f g)),(1,FnX (e=0) L)] [⟨0,141,ptrH,KA e⟩] a w0.w:=hst
 refine wp_seq ?_
 refine gl (sts:=[none]) (news:=[]) (sp:=[.val 4 _]) [.g 0,.g 1,.o 0] hst (zv rfl rfl (za1 zba) o0) (fun a w hst=>?_)
 have hst:St B w0 24 [(0,_),(1,_),(4,_)] [⟨0,141,ptrH,_⟩] a w:=hst
 refine zt ?_
 refine wp_seq ?_
 refine gl (sts:=[none]) (news:=[]) (sp:=[.adr 6 0 (.some 0) True,.adr 7 0 (.some 0) True,.adr 8 0 (.some (0+0)) True,.val 9 _,.val 10 _]) [.g 0,.g 1,.g 2,.o 4] hst (oc (ob_a rfl rfl (zca (lz0 0 rfl))) (oc (ob_a rfl rfl (zds 0 rfl zk (lz0 0 rfl))) (oc (ob_a rfl rfl (zdt 1 rfl zk trivial (lz0 0 rfl) zcj)) (zv rfl rfl (za4 2 rfl zk trivial (lz0 0 rfl) (Sub.part 0 rfl rfl) zgu) (zv rfl rfl (zdc (vq 3 rfl) za3) o0))))) (fun a w hst=>?_)
 have hst:St B w0 24 [(0,_),(1,_),(4,_),(10,_)] [⟨0,141,ptrH,_⟩] a w:=hst
 refine za0 ?_
 refine za8 hst (zm 3 rfl) (fun hb0=>?_) (fun hb0=>?_)
 ·refine wp_seq ?_
  refine gl (sts:=[none]) (news:=[]) (sp:=[.val 4 _]) [.g 0,.g 1,.o 0] hst (zv rfl rfl (za1 zba) o0) (fun a w hst=>?_)
  have hst:St B w0 24 [(0,_),(1,_),(4,_)] [⟨0,141,ptrH,_⟩] a w:=hst
  refine za0 ?_
  refine wp_ret ?_
  refine zap ?_
  have hst:=St.cvA (A':=KA (ansE e qs)) hst 0 rfl (congrArg KA (an_no hb0).1)
  refine zeb hst (zm 0 rfl) (zm 0 rfl) ?_
  refine zan ?_ (zae rfl hst (zm 2 rfl))
  rw [if_neg (an_no hb0).2]; exact zci nil_sl slx_nil
 ·have h0:e=0:=by simpa using hb0
  refine wp_skip ?_
  refine zt ?_
  refine gl (sts:=[none]) (news:=[]) (sp:=[.val 11 _,.val 12 _,.val 5 _]) [.g 0,.g 2,.o 2] hst (zv rfl rfl (za2 (gq 1 rfl)) (zv rfl rfl (r_callv (xs:=[]) ⟨h0⟩ (vq 0 rfl) .nil) (zv rfl rfl (za1 (vq 1 rfl)) o0))) (fun a w hst=>?_)
  have hst:St B w0 24 [(0,_),(4,_),(5,_)] [⟨0,141,ptrH,_⟩] a w:=hst
  refine zt ?_
  refine wp_seq ?_
  refine gl (sts:=[some (5,_)]) (news:=[]) (sp:=[.adr 13 0 (.some 0) True,.val 14 _,.val 15 _,.adr 16 0 (.some 0) True,.adr 17 0 (.some (0+0)) True,.sto 0]) [.g 0,.g 1,.g 2] hst (oc (ob_a rfl rfl (zca (lz0 0 rfl))) (zv rfl rfl (za2 (gq 2 rfl)) (zv rfl rfl (za5 (xs:=[.tmp 14]) (answer_q qs hL hl) (.cons (has_wk' (vq 1 rfl) (slx_sl hw hD).va) .nil)) (oc (ob_a rfl rfl (zds 0 rfl zk (lz0 0 rfl))) (oc (ob_a rfl rfl (zdt 3 rfl zk trivial (lz0 0 rfl) zcj)) (oc (ob_stof 4 rfl rfl rfl rfl zk (vq 2 rfl) zgu (Put.part 0 rfl rfl rfl)) o0)))))) (fun a w hst=>?_)
  have hst:St B w0 24 [(0,_),(4,_),(5,_)] [⟨0,141,ptrH,_⟩] a w:=hst
  refine zt ?_
  refine gl (sts:=[none]) (news:=[]) (sp:=[.adr 18 0 (.some 0) True,.adr 19 0 (.some 0) True,.adr 20 0 (.some (0+0)) True,.val 21 _,.val 22 _]) [.g 0,.g 1,.g 2,.o 4] hst (oc (ob_a rfl rfl (zca (lz0 0 rfl))) (oc (ob_a rfl rfl (zds 0 rfl zk (lz0 0 rfl))) (oc (ob_a rfl rfl (zdt 1 rfl zk trivial (lz0 0 rfl) zcj)) (zv rfl rfl (za4 2 rfl zk trivial (lz0 0 rfl) (Sub.part 0 rfl rfl) zgu) (zv rfl rfl (zdc (vq 3 rfl) za3) o0))))) (fun a w hst=>?_)
  have hst:St B w0 24 [(0,_),(4,_),(5,_),(22,_)] [⟨0,141,ptrH,_⟩] a w:=hst
  refine za0 ?_
  refine za8 hst (zm 3 rfl) (fun hb1=>?_) (fun hb1=>?_)
  ·refine wp_seq ?_
   refine gl (sts:=[none]) (news:=[]) (sp:=[.val 4 _]) [.g 0,.g 2,.o 0] hst (zv rfl rfl (za1 zba) o0) (fun a w hst=>?_)
   have hst:St B w0 24 [(0,_),(5,_),(4,_)] [⟨0,141,ptrH,_⟩] a w:=hst
   refine za0 ?_
   refine wp_ret ?_
   refine zap ?_
   have hst:=St.cvA (A':=KA (ansE e qs)) hst 0 rfl (congrArg KA (an_lo hb0))
   refine zeb hst (zm 0 rfl) (zm 0 rfl) ?_
   refine zan ?_ (zae rfl hst (zm 2 rfl))
   rw [if_neg (by rw [← an_lo hb0]; simpa using hb1)]; exact zci nil_sl slx_nil
  ·refine wp_skip ?_
   refine zt ?_
   refine gl (sts:=[none]) (news:=[]) (sp:=[.val 23 _,.val 4 _]) [.g 0,.o 1] hst (zv rfl rfl (za2 (gq 2 rfl)) (zv rfl rfl (za1 (vq 0 rfl)) o0)) (fun a w hst=>?_)
   have hst:St B w0 24 [(0,_),(4,_)] [⟨0,141,ptrH,_⟩] a w:=hst
   refine za0 ?_
   refine wp_ret ?_
   have hst:=St.cvA (A':=KA (ansE e qs)) hst 0 rfl (congrArg KA (an_lo hb0))
   refine zeb hst (zm 0 rfl) (zm 0 rfl) ?_
   refine zan ?_ (zae rfl hst (zm 1 rfl))
   rw [if_pos (by rw [← an_lo hb0]; simpa using hb1)]; exact zbs
theorem qd1_dep {k:Nat} {q:Rat}:∀ A∈[QD k q],∀ T∈A.deps,T∈[U32]:=fun A hA=>by
 simp at hA
 subst hA
 exact qd_dep
theorem qd2_dep {k j:Nat} {q r:Rat}:∀ A∈[QD k q,QD j r],∀ T∈A.deps,T∈[U32]:=fun A hA=>by
 simp at hA
 rcases hA with rfl | rfl <;> exact qd_dep
theorem qa_dep {k:Nat} {q:Rat}:∀ T∈(QA k q).deps,T∈[U32]:=fun T hT=>by
 have h:(QA k q).deps=[U32,U32]:=by kernel_rfl
 rw [h] at hT
 simpa using hT
theorem qa1_dep {k:Nat} {q:Rat}:∀ A∈[QA k q],∀ T∈A.deps,T∈[U32]:=fun A hA=>by
 simp at hA
 subst hA
 exact qa_dep
theorem qa2_dep {k j:Nat} {q r:Rat}:∀ A∈[QA k q,QA j r],∀ T∈A.deps,T∈[U32]:=fun A hA=>by
 simp at hA
 rcases hA with rfl | rfl <;> exact qa_dep
theorem slx_if {c:Prop} [Decidable c] {l:List As} (h:∀ A∈l,∀ T∈A.deps,T∈[U32]):Wk (SlX (if c then l else [])).va (SlA 26 [U32] (if c then l else [])).va:=(slx_sl all_refl (if_dep h)).va
theorem kasFracD_c (e:Int) (k:Nat) (q:Rat):Cm Tryz.prog 208 141 (KA e) (KA (ansE e [q])) [.w (ptrH),.v (FnX (e=0) [QD k q])] (FrD (asF e q)):=by
 refine Cm.intro Tryz.func208 rfl zk nq (fun B g w0 a hst=>?_)
 have hst:St B w0 21 [(0,EqV ((ptrH).f g)),(1,FnX (e=0) [QD k q])] [⟨0,141,ptrH,KA e⟩] a w0.w:=hst
 refine wp_seq ?_
 refine gl (sts:=[none]) (news:=[⟨4,26,ptrH,some 0,_,none⟩]) (sp:=[.alc 1,.val 5 _]) [.g 0,.g 1,.o 1] hst (oc (zau rfl rfl rfl (Str.zero zfo)) (zv rfl rfl (za1 za3) o0)) (fun a w hst=>?_)
 have hst:St B w0 21 [(0,_),(1,_),(5,_)] [⟨0,141,ptrH,_⟩,⟨4,26,ptrH,_⟩] a w:=hst
 refine zt ?_
 refine gl (sts:=[some (2,_),none]) (news:=[]) (sp:=[.adr 7 0 (.some 0) True,.val 8 _,.cal 9 _ 0,.val 6 _]) [.g 0,.g 2,.o 3] hst (oc (ob_a rfl rfl (zca (lz0 0 rfl))) (zv rfl rfl (za2 (gq 1 rfl)) (oc (zeg (xs:=[.tmp 7,.tmp 8]) rfl rfl rfl (zkm e [QD k q] [QA k q] [q] (.cons ⟨_,rfl⟩ .nil) (.cons qd_qa .nil) qa1_dep nq) (.cons (arw0 0 rfl zk (lz0 0 rfl)) (.cons (vq 1 rfl) .nil))) (zv rfl rfl (za1 (zjd 2 rfl zk zk)) o0)))) (fun a w hst=>?_)
 have hst:St B w0 21 [(0,_),(5,_),(6,_)] [⟨0,141,ptrH,_⟩,⟨4,26,ptrH,_⟩] a w:=hst
 refine zt ?_
 refine wp_seq ?_
 refine gl (sts:=[none,none]) (news:=[]) (sp:=[.val 10 _,.val 11 _,.val 12 _]) [.g 0,.g 1,.g 2,.o 2] hst (zv rfl rfl (za2 (gq 2 rfl)) (zv rfl rfl (zbz Tryz.underlying142 (has_wk' (vq 0 rfl) (slx_if qd1_dep))) (zv rfl rfl (zb7 (vq 1 rfl) za3) o0))) (fun a w hst=>?_)
 have hst:St B w0 21 [(0,_),(5,_),(6,_),(12,_)] [⟨0,141,ptrH,_⟩,⟨4,26,ptrH,_⟩] a w:=hst
 refine za0 ?_
 refine za8 hst (zm 3 rfl) (fun hb0=>?_) (fun hb0=>?_)
 ·have hst:=St.sel hst [0,1,3]
  have hE:=zij hb0 (by simp)
  refine wp_seq ?_
  refine zaw (anc:=[[],[],[1],[1,2],[1,2,3],[0],[0,1,2,3,4,5]]) (sts:=[none,some (5,_)]) (news:=[]) (sp:=[.val 13 _,.adr 14 0 (.some 0) True,.adr 15 0 (.some 0) True,.adr 16 0 (.some (0+0)) True,.val 17 _,.sto 1,.val 5 _]) [.g 0,.o 6] za7 hst (zv rfl rfl (zbd (xs:=[]) (qs:=[]) zfo .nil) (oc (ob_a rfl rfl (zca (lz0 0 rfl))) (oc (ob_a rfl rfl (zds 1 rfl zk (lz0 0 rfl))) (oc (ob_a rfl rfl (zdt 2 rfl zk trivial (lz0 0 rfl) zcj)) (zv rfl rfl (za4 3 rfl zk trivial (lz0 0 rfl) (Sub.part 0 rfl rfl) zgu) (oc (zak rfl rfl rfl (vq 0 rfl) zag (Eq.trans (b:=4) rfl rfl)) (zv rfl rfl (za1 (vq 4 rfl)) o0))))))) zk zk zk zk (fun a w hst=>?_)
  have hst:St B w0 21 [(0,_),(5,_)] [⟨0,141,ptrH,_⟩,⟨4,26,ptrH,_⟩] a w:=hst
  refine za0 ?_
  refine wp_ret ?_
  refine zap ?_
  refine zeb hst (zm 0 rfl) (zm 0 rfl) ?_
  refine zan ?_ (zaq (rs:=[.cell 4 26,.tmp 5]) rfl hst (.cell (zm 1 rfl) zag (.tmp (zm 1 rfl) .nil)) zd)
  rw [asF_no hE]; exact tu2w zf_rfd.va zbs
 ·have hE:=zgy hb0 zd
  have hst:=St.cvG (A':=(SlX [QD k q]).va) hst 2 rfl (by rw [if_pos hE])
  have hst:=St.wkG hst 2 rfl (slx_sl all_refl qd1_dep).va
  refine wp_skip ?_
  refine zt ?_
  refine gl (sts:=[none,some (3,_)]) (news:=[]) (sp:=[.val 18 _,.val 19 _,.val 20 _,.sto 1,.val 5 _]) [.g 0,.o 4] hst (zv rfl rfl (za2 (gq 2 rfl)) (zv rfl rfl (zgf zda (n_ok zk) (vq 0 rfl) (zav 0 rfl) rfl) (zv rfl rfl (zad (vq 1 rfl) zag) (oc (zak rfl rfl rfl (vq 2 rfl) zag (Eq.trans (b:=4) rfl rfl)) (zv rfl rfl (za1 za3) o0))))) (fun a w hst=>?_)
  have hst:St B w0 21 [(0,_),(5,_)] [⟨0,141,ptrH,_⟩,⟨4,26,ptrH,_⟩] a w:=hst
  refine za0 ?_
  refine wp_ret ?_
  refine zeb hst (zm 0 rfl) (zm 0 rfl) ?_
  refine zan ?_ (zaq (rs:=[.cell 4 26,.tmp 5]) rfl hst (.cell (zm 1 rfl) zag (.tmp (zm 1 rfl) .nil)) zd)
  rw [asF_yes hE]; exact tu2w qd_rfd.va zbs
theorem rpairD_q {c d e f:Nat} {x y z u:Rat} (hk:c+d+e+f≤68719476736):Cn Tryz.prog 207 [Qs c x,Qs d y,Qs e z,Qs f u] ((QD (c+d+(e+f)+1) (x*y+z*u)).va):=by
 refine Cn.intro Tryz.func207 rfl zk nq (fun B w0 a hst=>?_)
 have hst:St B w0 16 [(0,Qs c x),(1,Qs d y),(2,Qs e z),(3,Qs f u)] [] a w0.w:=hst
 refine wp_seq ?_
 refine gl (sts:=[]) (news:=[⟨4,26,ptrH,some 0,_,none⟩,⟨5,26,ptrH,some 1,_,none⟩,⟨6,26,ptrH,some 2,_,none⟩,⟨7,26,ptrH,some 3,_,none⟩,⟨8,26,ptrH,some 4,_,none⟩]) (sp:=[.alc 0,.alc 1,.alc 2,.alc 3,.alc 4]) [] hst (oc (zai rfl rfl rfl (gq 0 rfl)) (oc (zai rfl rfl rfl (gq 1 rfl)) (oc (zai rfl rfl rfl (gq 2 rfl)) (oc (zai rfl rfl rfl (gq 3 rfl)) (oc (zau rfl rfl rfl (Str.zero zfo)) o0))))) (fun a w hst=>?_)
 have hst:St B w0 16 [] [⟨4,26,ptrH,_⟩,⟨5,26,ptrH,_⟩,⟨6,26,ptrH,_⟩,⟨7,26,ptrH,_⟩,⟨8,26,ptrH,_⟩] a w:=hst
 refine zt ?_
 refine zaw (anc:=[[],[],[0,1],[],[],[0,1,2,3,4],[0,1,2,3,4,5],[0,1,2,3,4,5,6]]) (sts:=[none,none,none,none,some (7,_)]) (news:=[]) (sp:=[.val 9 _,.val 10 _,.val 11 _,.val 12 _,.val 13 _,.val 14 _,.val 15 _,.sto 4]) [] za7 hst (zv rfl rfl (zac (lz0 0 rfl) zag) (zv rfl rfl (zac (lz0 1 rfl) zag) (zv rfl rfl (za5 (xs:=[.tmp 9,.tmp 10]) (zfn zo) (.cons (vq 0 rfl) (.cons (vq 1 rfl) .nil))) (zv rfl rfl (zac (lz0 2 rfl) zag) (zv rfl rfl (zac (lz0 3 rfl) zag) (zv rfl rfl (za5 (xs:=[.tmp 12,.tmp 13]) (zfn zo) (.cons (vq 3 rfl) (.cons (vq 4 rfl) .nil))) (zv rfl rfl (za5 (xs:=[.tmp 11,.tmp 14]) (plusD_q zo) (.cons (vq 2 rfl) (.cons (vq 5 rfl) .nil))) (oc (zak rfl rfl rfl (vq 6 rfl) zag (Eq.trans (b:=4) rfl rfl)) o0)))))))) zk zk zk zk (fun a w hst=>?_)
 have hst:St B w0 16 [] [⟨4,26,ptrH,_⟩,⟨5,26,ptrH,_⟩,⟨6,26,ptrH,_⟩,⟨7,26,ptrH,_⟩,⟨8,26,ptrH,_⟩] a w:=hst
 refine za0 ?_
 refine wp_ret ?_
 refine zan ?_ (zar rfl hst (zm 4 rfl) zag)
 exact zbs
theorem rdetD_q {c d e f:Nat} {x y z u:Rat} (hk:c+d+e+f≤68719476736):Cn Tryz.prog 210 [Qs c x,Qs d y,Qs e z,Qs f u] ((QD (c+f+(d+e)+1) (x*u - y*z)).va):=by
 refine Cn.intro Tryz.func210 rfl zk nq (fun B w0 a hst=>?_)
 have hst:St B w0 16 [(0,Qs c x),(1,Qs d y),(2,Qs e z),(3,Qs f u)] [] a w0.w:=hst
 refine wp_seq ?_
 refine gl (sts:=[]) (news:=[⟨4,26,ptrH,some 0,_,none⟩,⟨5,26,ptrH,some 1,_,none⟩,⟨6,26,ptrH,some 2,_,none⟩,⟨7,26,ptrH,some 3,_,none⟩,⟨8,26,ptrH,some 4,_,none⟩]) (sp:=[.alc 0,.alc 1,.alc 2,.alc 3,.alc 4]) [] hst (oc (zai rfl rfl rfl (gq 0 rfl)) (oc (zai rfl rfl rfl (gq 1 rfl)) (oc (zai rfl rfl rfl (gq 2 rfl)) (oc (zai rfl rfl rfl (gq 3 rfl)) (oc (zau rfl rfl rfl (Str.zero zfo)) o0))))) (fun a w hst=>?_)
 have hst:St B w0 16 [] [⟨4,26,ptrH,_⟩,⟨5,26,ptrH,_⟩,⟨6,26,ptrH,_⟩,⟨7,26,ptrH,_⟩,⟨8,26,ptrH,_⟩] a w:=hst
 refine zt ?_
 refine zaw (anc:=[[],[],[0,1],[],[],[0,1,2,3,4],[0,1,2,3,4,5],[0,1,2,3,4,5,6]]) (sts:=[none,none,none,none,some (7,_)]) (news:=[]) (sp:=[.val 9 _,.val 10 _,.val 11 _,.val 12 _,.val 13 _,.val 14 _,.val 15 _,.sto 4]) [] za7 hst (zv rfl rfl (zac (lz0 0 rfl) zag) (zv rfl rfl (zac (lz0 3 rfl) zag) (zv rfl rfl (za5 (xs:=[.tmp 9,.tmp 10]) (zfn zo) (.cons (vq 0 rfl) (.cons (vq 1 rfl) .nil))) (zv rfl rfl (zac (lz0 1 rfl) zag) (zv rfl rfl (zac (lz0 2 rfl) zag) (zv rfl rfl (za5 (xs:=[.tmp 12,.tmp 13]) (zfn zo) (.cons (vq 3 rfl) (.cons (vq 4 rfl) .nil))) (zv rfl rfl (za5 (xs:=[.tmp 11,.tmp 14]) (minusD_q zo) (.cons (vq 2 rfl) (.cons (vq 5 rfl) .nil))) (oc (zak rfl rfl rfl (vq 6 rfl) zag (Eq.trans (b:=4) rfl rfl)) o0)))))))) zk zk zk zk (fun a w hst=>?_)
 have hst:St B w0 16 [] [⟨4,26,ptrH,_⟩,⟨5,26,ptrH,_⟩,⟨6,26,ptrH,_⟩,⟨7,26,ptrH,_⟩,⟨8,26,ptrH,_⟩] a w:=hst
 refine za0 ?_
 refine wp_ret ?_
 refine zan ?_ (zar rfl hst (zm 4 rfl) zag)
 exact zbs
theorem crossD1_c (r s:YQ):Cn Tryz.prog 209 [(ElP 30 (QRA 2048 r)),(ElP 30 (QRA 2048 s))] ((SlX [QD 8193 (crossQ r s)]).va):=by
 refine Cn.intro Tryz.func209 rfl zk nq (fun B w0 a hst=>?_)
 have hst:St B w0 13 [(0,(ElP 30 (QRA 2048 r))),(1,(ElP 30 (QRA 2048 s)))] [] a w0.w:=hst
 refine wp_seq ?_
 refine gl (sts:=[]) (news:=[]) (sp:=[.val 2 _]) [.g 0,.g 1,.o 0] hst (zv rfl rfl (za1 zba) o0) (fun a w hst=>?_)
 have hst:St B w0 13 [(0,_),(1,_),(2,_)] [] a w:=hst
 refine zt ?_
 refine zgo (sts:=[]) (news:=[]) (sp:=[(fun ν=>.val 3 _),(fun ν=>.val 4 _),(fun ν=>.val 5 _),(fun ν=>.val 6 _),(fun ν=>.val 7 _),(fun ν=>.val 8 _),(fun ν=>.val 9 _),(fun ν=>.val 10 _),(fun ν=>.val 11 (PinA (ν 8) ((QD 8193 (crossQ r s)).and (SepAll [] (ν 8)))).va),(fun ν=>.val 12 _),(fun ν=>.val 2 _)]) [.o 10] hst ⟨of_u fun ν=>ob_v rfl rfl (zas (gq 0 rfl) zc6 (Sub.part 0 rfl rfl)),⟨of_u fun ν=>ob_v rfl rfl (zad (vq 0 rfl) zag),⟨of_u fun ν=>ob_v rfl rfl (zas (gq 0 rfl) zc5 (Sub.part 1 rfl rfl)),⟨of_u fun ν=>ob_v rfl rfl (zad (vq 2 rfl) zag),⟨of_u fun ν=>ob_v rfl rfl (zas (gq 1 rfl) zc6 (Sub.part 0 rfl rfl)),⟨of_u fun ν=>ob_v rfl rfl (zad (vq 4 rfl) zag),⟨of_u fun ν=>ob_v rfl rfl (zas (gq 1 rfl) zc5 (Sub.part 1 rfl rfl)),⟨of_u fun ν=>ob_v rfl rfl (zad (vq 6 rfl) zag),⟨zcq (us:=fun ν=>[]) (xs:=[.tmp 4,.tmp 6,.tmp 8,.tmp 10]) rfl rfl (rdetD_q (c:=2048) (d:=2048) (e:=2048) (f:=2048) zd) new_qd free_qd (.cons upA_qa.va (.cons upA_qa.va (.cons upA_qa.va (.cons upA_qa.va .nil)))) (fun ν=>(.cons (vq 1 rfl) (.cons (vq 3 rfl) (.cons (vq 5 rfl) (.cons (vq 7 rfl) .nil))))) (fun _ _=>rfl) (fun ν=>zbp),⟨of_u fun ν=>ob_v rfl rfl (zd7 (D:=[U32]) (l:=[_]) (xs:=[.tmp 11]) (zfs zk) zda zk (n_ok zk) nq nq nq (.cons (vq 8 rfl) .nil) rfl rfl),⟨of_u fun ν=>ob_v rfl rfl (za1 (vq 9 rfl)),trivial⟩⟩⟩⟩⟩⟩⟩⟩⟩⟩⟩ ⟨(fun ν ν' h=>rfl),⟨(fun ν ν' h=>rfl),⟨(fun ν ν' h=>rfl),⟨(fun ν ν' h=>rfl),⟨(fun ν ν' h=>rfl),⟨(fun ν ν' h=>rfl),⟨(fun ν ν' h=>rfl),⟨(fun ν ν' h=>rfl),⟨(fun ν ν' h=>by first | rfl | simp only [h 8 rfl]),⟨(fun ν ν' h=>by first | rfl | simp only [h 8 rfl]),⟨(fun ν ν' h=>by first | rfl | simp only [h 8 rfl]),trivial⟩⟩⟩⟩⟩⟩⟩⟩⟩⟩⟩ trivial zk (fun ν=>by kernel_rfl) (fun ν=>by kernel_rfl) (fun ν1 a w hst=>?_)
 have hst:St B w0 13 [(2,_)] [] a w:=hst
 refine za0 ?_
 refine wp_ret ?_
 refine zan ?_ (zae rfl hst (zm 0 rfl))
 exact slx_of1
theorem crossD1_x {r s:RR} (h:kR (kR 0 r) s=0):Cn Tryz.prog 209 [(ElP 30 (RRA r)),(ElP 30 (RRA s))] (SlX [QD 8193 (crossQ (toY r) (toY s))]).va:=(crossD1_c (toY r) (toY s)).wk (.cons (zic (qr_x (kR_0 (kR_0 h).2).1)) (.cons (zic (qr_x (kR_0 h).1)) .nil))
theorem crossD_c (r s:RR):Cn Tryz.prog 61 [(RRA r).va,(RRA s).va] (FrD (crF r s)):=by
 refine Cn.intro Tryz.func61 rfl zk nq (fun B w0 a hst=>?_)
 have hst:St B w0 20 [(0,(RRA r).va),(1,(RRA s).va)] [] a w0.w:=hst
 refine wp_seq ?_
 refine gl (sts:=[]) (news:=[⟨2,30,ptrH,some 0,_,none⟩,⟨3,30,ptrH,some 1,_,none⟩,⟨4,26,ptrH,some 2,_,none⟩]) (sp:=[.alc 0,.alc 1,.alc 2,.val 5 _]) [.o 3] hst (oc (zai rfl rfl rfl (gq 0 rfl)) (oc (zai rfl rfl rfl (gq 1 rfl)) (oc (zau rfl rfl rfl (Str.zero zfo)) (zv rfl rfl (za1 za3) o0)))) (fun a w hst=>?_)
 have hst:St B w0 20 [(5,_)] [⟨2,30,ptrH,_⟩,⟨3,30,ptrH,_⟩,⟨4,26,ptrH,_⟩] a w:=hst
 refine zt ?_
 refine zd2 (sts:=[none,none,none]) (news:=[⟨8,141,ptrH,some 1,_,none⟩]) (sp:=[.val 7 _,.alc 3,.adr 6 8 .none True]) [.g 0] [(6,8)] [⟨2,30,ptrH,_⟩,⟨3,30,ptrH,_⟩,⟨4,26,ptrH,_⟩,⟨6,141,ptrH,_⟩] hst (zv rfl rfl (zbd (xs:=[]) (qs:=[]) zg5 .nil) (oc (zai rfl rfl rfl (vq 0 rfl)) (oc (ob_a rfl rfl zgq) o0))) zk zk zk ⟨⟨2,rfl⟩,trivial⟩ rfl zk (fun a w hst=>?_)
 have hst:St B w0 20 [(5,_)] [⟨2,30,ptrH,_⟩,⟨3,30,ptrH,_⟩,⟨4,26,ptrH,_⟩,⟨6,141,ptrH,_⟩] a w:=hst
 refine zt ?_
 refine gl (sts:=[none,none,none,some (2,_)]) (news:=[]) (sp:=[.adr 9 6 (.some 0) True,.val 10 _,.cal 11 _ 3]) [.g 0] hst (oc (ob_a rfl rfl (zca (lz0 3 rfl))) (zv rfl rfl (zac (lz0 0 rfl) zbu) (oc (zeg (xs:=[.tmp 9,.tmp 10]) rfl rfl rfl (kray_c _ _) (.cons (arw0 0 rfl zk (lz0 3 rfl)) (.cons (vq 1 rfl) .nil))) o0))) (fun a w hst=>?_)
 have hst:St B w0 20 [(5,_)] [⟨2,30,ptrH,_⟩,⟨3,30,ptrH,_⟩,⟨4,26,ptrH,_⟩,⟨6,141,ptrH,_⟩] a w:=hst
 refine zt ?_
 refine gl (sts:=[none,none,none,some (2,_)]) (news:=[]) (sp:=[.adr 12 6 (.some 0) True,.val 13 _,.cal 14 _ 3]) [.g 0] hst (oc (ob_a rfl rfl (zca (lz0 3 rfl))) (zv rfl rfl (zac (lz0 1 rfl) zbu) (oc (zeg (xs:=[.tmp 12,.tmp 13]) rfl rfl rfl (kray_c _ _) (.cons (arw0 0 rfl zk (lz0 3 rfl)) (.cons (vq 1 rfl) .nil))) o0))) (fun a w hst=>?_)
 have hst:St B w0 20 [(5,_)] [⟨2,30,ptrH,_⟩,⟨3,30,ptrH,_⟩,⟨4,26,ptrH,_⟩,⟨6,141,ptrH,_⟩] a w:=hst
 refine zt ?_
 refine gl (sts:=[none,none,some (5,_),some (2,_)]) (news:=[]) (sp:=[.adr 15 6 (.some 0) True,.val 16 _,.cal 17 _ 3,.val 18 _,.val 19 _,.sto 2,.val 5 _]) [.o 6] hst (oc (ob_a rfl rfl (zca (lz0 3 rfl))) (zv rfl rfl (zim (xs:=[.tmp 2,.tmp 3]) (D:=[28,30,168]) (pre:=fun _:PLift (kR (kR 0 r) s=0)=>[]) (post:=fun _=>(SlX [QD 8193 (crossQ (toY r) (toY s))]).va) (fun i=>crossD1_x i.down) (nd_va rfl) (.cons (zb6 (lz0 0 rfl)) (.cons (zb6 (lz0 1 rfl)) .nil))) (oc (zeg (xs:=[.tmp 15,.tmp 16]) rfl rfl rfl (kasFracD_c _ 8193 (crossQ (toY r) (toY s))) (.cons (arw0 0 rfl zk (lz0 3 rfl)) (.cons (vq 1 rfl) .nil))) (zv rfl rfl (zht (zjd 2 rfl zk zk)) (zv rfl rfl (zhs (zjd 2 rfl zk zk)) (oc (zak rfl rfl rfl (vq 3 rfl) zag (Eq.trans (b:=4) rfl rfl)) (zv rfl rfl (za1 (vq 4 rfl)) o0))))))) (fun a w hst=>?_)
 have hst:St B w0 20 [(5,_)] [⟨2,30,ptrH,_⟩,⟨3,30,ptrH,_⟩,⟨4,26,ptrH,_⟩,⟨6,141,ptrH,_⟩] a w:=hst
 refine za0 ?_
 refine wp_ret ?_
 refine zan ?_ (zaq (rs:=[.cell 4 26,.tmp 5]) rfl hst (.cell (zm 2 rfl) zag (.tmp (zm 0 rfl) .nil)) zd)
 exact zbs
theorem throughD1_c (m:MQ) (r:YQ):Cn Tryz.prog 206 [(ElP 28 (QMA 2048 m)),(ElP 30 (QRA 2048 r))] ((SlX [QD 8193 (goQ m r).y,QD 8193 (goQ m r).u]).va):=by
 refine Cn.intro Tryz.func206 rfl zk nq (fun B w0 a hst=>?_)
 have hst:St B w0 22 [(0,(ElP 28 (QMA 2048 m))),(1,(ElP 30 (QRA 2048 r)))] [] a w0.w:=hst
 refine wp_seq ?_
 refine gl (sts:=[]) (news:=[]) (sp:=[.val 2 _]) [.g 0,.g 1,.o 0] hst (zv rfl rfl (za1 zba) o0) (fun a w hst=>?_)
 have hst:St B w0 22 [(0,_),(1,_),(2,_)] [] a w:=hst
 refine zt ?_
 refine go_drawV' [[],[0],[],[2],[],[4],[],[6],[0,1,2,3,4,5,6,7],[],[9],[],[11],[],[13],[],[15],[0,1,2,3,4,5,6,7,8,9,10,11,12,13,14,15,16],[0,1,2,3,4,5,6,7,8,9,10,11,12,13,14,15,16,17],[0,1,2,3,4,5,6,7,8,9,10,11,12,13,14,15,16,17,18]] (sts:=[]) (news:=[]) (sp:=[(fun ν=>.val 3 _),(fun ν=>.val 4 _),(fun ν=>.val 5 _),(fun ν=>.val 6 _),(fun ν=>.val 7 _),(fun ν=>.val 8 _),(fun ν=>.val 9 _),(fun ν=>.val 10 _),(fun ν=>.val 11 (PinA (ν 8) ((QD 8193 (goQ m r).y).and (SepAll [] (ν 8)))).va),(fun ν=>.val 12 _),(fun ν=>.val 13 _),(fun ν=>.val 14 _),(fun ν=>.val 15 _),(fun ν=>.val 16 _),(fun ν=>.val 17 _),(fun ν=>.val 18 _),(fun ν=>.val 19 _),(fun ν=>.val 20 (PinA (ν 17) ((QD 8193 (goQ m r).u).and (SepAll [ν 8] (ν 17)))).va),(fun ν=>.val 21 _),(fun ν=>.val 2 _)]) [.o 19] za7 hst ⟨of_u fun ν=>ob_v rfl rfl (zas (gq 0 rfl) zd6 (Sub.part 0 rfl rfl)),⟨of_u fun ν=>ob_v rfl rfl (zad (vq 0 rfl) zag),⟨of_u fun ν=>ob_v rfl rfl (zas (gq 1 rfl) zc6 (Sub.part 0 rfl rfl)),⟨of_u fun ν=>ob_v rfl rfl (zad (vq 2 rfl) zag),⟨of_u fun ν=>ob_v rfl rfl (zas (gq 0 rfl) zd5 (Sub.part 1 rfl rfl)),⟨of_u fun ν=>ob_v rfl rfl (zad (vq 4 rfl) zag),⟨of_u fun ν=>ob_v rfl rfl (zas (gq 1 rfl) zc5 (Sub.part 1 rfl rfl)),⟨of_u fun ν=>ob_v rfl rfl (zad (vq 6 rfl) zag),⟨zcq (us:=fun ν=>[]) (xs:=[.tmp 4,.tmp 6,.tmp 8,.tmp 10]) rfl rfl (rpairD_q (c:=2048) (d:=2048) (e:=2048) (f:=2048) zd) new_qd free_qd (.cons upA_qa.va (.cons upA_qa.va (.cons upA_qa.va (.cons upA_qa.va .nil)))) (fun ν=>(.cons (vq 1 rfl) (.cons (vq 3 rfl) (.cons (vq 5 rfl) (.cons (vq 7 rfl) .nil))))) (fun _ _=>rfl) (fun ν=>zbp),⟨of_u fun ν=>ob_v rfl rfl (zas (gq 0 rfl) zcx (Sub.part 2 rfl rfl)),⟨of_u fun ν=>ob_v rfl rfl (zad (vq 9 rfl) zag),⟨of_u fun ν=>ob_v rfl rfl (zas (gq 1 rfl) zc6 (Sub.part 0 rfl rfl)),⟨of_u fun ν=>ob_v rfl rfl (zad (vq 11 rfl) zag),⟨of_u fun ν=>ob_v rfl rfl (zas (gq 0 rfl) zcw (Sub.part 3 rfl rfl)),⟨of_u fun ν=>ob_v rfl rfl (zad (vq 13 rfl) zag),⟨of_u fun ν=>ob_v rfl rfl (zas (gq 1 rfl) zc5 (Sub.part 1 rfl rfl)),⟨of_u fun ν=>ob_v rfl rfl (zad (vq 15 rfl) zag),⟨zcq (us:=fun ν=>[ν 8]) (xs:=[.tmp 13,.tmp 15,.tmp 17,.tmp 19]) rfl rfl (rpairD_q (c:=2048) (d:=2048) (e:=2048) (f:=2048) zd) new_qd free_qd (.cons upA_qa.va (.cons upA_qa.va (.cons upA_qa.va (.cons upA_qa.va .nil)))) (fun ν=>(.cons (vq 10 rfl) (.cons (vq 12 rfl) (.cons (vq 14 rfl) (.cons (vq 16 rfl) .nil))))) (fun _ _=>rfl) (fun ν=>(zcd (zbn new_qd) (vq 8 rfl) zbp)),⟨of_u fun ν=>ob_v rfl rfl (zd7 (D:=[U32]) (l:=[_,_]) (xs:=[.tmp 11,.tmp 20]) (zfs zk) zda zk (n_ok zk) nq nq nq (.cons (vq 8 rfl) (.cons (vq 17 rfl) .nil)) rfl rfl),⟨of_u fun ν=>ob_v rfl rfl (za1 (vq 18 rfl)),trivial⟩⟩⟩⟩⟩⟩⟩⟩⟩⟩⟩⟩⟩⟩⟩⟩⟩⟩⟩⟩ ⟨(fun ν ν' h=>rfl),⟨(fun ν ν' h=>rfl),⟨(fun ν ν' h=>rfl),⟨(fun ν ν' h=>rfl),⟨(fun ν ν' h=>rfl),⟨(fun ν ν' h=>rfl),⟨(fun ν ν' h=>rfl),⟨(fun ν ν' h=>rfl),⟨(fun ν ν' h=>by first | rfl | simp only [h 8 rfl]),⟨(fun ν ν' h=>rfl),⟨(fun ν ν' h=>rfl),⟨(fun ν ν' h=>rfl),⟨(fun ν ν' h=>rfl),⟨(fun ν ν' h=>rfl),⟨(fun ν ν' h=>rfl),⟨(fun ν ν' h=>rfl),⟨(fun ν ν' h=>rfl),⟨(fun ν ν' h=>by first | rfl | simp only [h 8 rfl,h 17 rfl]),⟨(fun ν ν' h=>by first | rfl | simp only [h 8 rfl,h 17 rfl]),⟨(fun ν ν' h=>by first | rfl | simp only [h 8 rfl,h 17 rfl]),trivial⟩⟩⟩⟩⟩⟩⟩⟩⟩⟩⟩⟩⟩⟩⟩⟩⟩⟩⟩⟩ trivial zk zk (fun ν=>by kernel_rfl) (fun ν=>by kernel_rfl) (fun ν1 a w hst=>?_)
 have hst:St B w0 22 [(2,_)] [] a w:=hst
 refine za0 ?_
 refine wp_ret ?_
 refine zan ?_ (zae rfl hst (zm 0 rfl))
 exact slx_of2
theorem throughD1_x {m:RM} {r:RR} (h:kR (kM 0 m) r=0):Cn Tryz.prog 206 [(ElP 28 (RMA m)),(ElP 30 (RRA r))] (SlX [QD 8193 (goQ (toM m) (toY r)).y,QD 8193 (goQ (toM m) (toY r)).u]).va:=(throughD1_c (toM m) (toY r)).wk (.cons (zic (qm_x (okM_q (kM_0 (kR_0 h).2).1).1)) (.cons (zic (qr_x (kR_0 h).1)) .nil))
theorem zhn (m:RM) (r:RR):Cn Tryz.prog 60 [(RMA m).va,(RRA r).va] (YRD (goF m r)):=by
 refine Cn.intro Tryz.func60 rfl zk nq (fun B w0 a hst=>?_)
 have hst:St B w0 34 [(0,(RMA m).va),(1,(RRA r).va)] [] a w0.w:=hst
 refine wp_seq ?_
 refine gl (sts:=[]) (news:=[⟨2,28,ptrH,some 0,_,none⟩,⟨3,30,ptrH,some 1,_,none⟩,⟨4,30,ptrH,some 2,_,none⟩]) (sp:=[.alc 0,.alc 1,.alc 2,.val 5 _]) [.o 3] hst (oc (zai rfl rfl rfl (gq 0 rfl)) (oc (zai rfl rfl rfl (gq 1 rfl)) (oc (zau rfl rfl rfl (Str.zero zkw)) (zv rfl rfl (za1 za3) o0)))) (fun a w hst=>?_)
 have hst:St B w0 34 [(5,_)] [⟨2,28,ptrH,_⟩,⟨3,30,ptrH,_⟩,⟨4,30,ptrH,_⟩] a w:=hst
 refine zt ?_
 refine zd2 (sts:=[none,none,none]) (news:=[⟨9,141,ptrH,some 1,_,none⟩]) (sp:=[.val 8 _,.alc 3,.adr 6 9 .none True]) [.g 0] [(6,9)] [⟨2,28,ptrH,_⟩,⟨3,30,ptrH,_⟩,⟨4,30,ptrH,_⟩,⟨6,141,ptrH,_⟩] hst (zv rfl rfl (zbd (xs:=[]) (qs:=[]) zg5 .nil) (oc (zai rfl rfl rfl (vq 0 rfl)) (oc (ob_a rfl rfl zgq) o0))) zk zk zk ⟨⟨2,rfl⟩,trivial⟩ rfl zk (fun a w hst=>?_)
 have hst:St B w0 34 [(5,_)] [⟨2,28,ptrH,_⟩,⟨3,30,ptrH,_⟩,⟨4,30,ptrH,_⟩,⟨6,141,ptrH,_⟩] a w:=hst
 refine zt ?_
 refine gl (sts:=[none,none,none,some (2,_)]) (news:=[]) (sp:=[.adr 10 6 (.some 0) True,.val 11 _,.cal 12 _ 3]) [.g 0] hst (oc (ob_a rfl rfl (zca (lz0 3 rfl))) (zv rfl rfl (zac (lz0 0 rfl) zd9) (oc (zeg (xs:=[.tmp 10,.tmp 11]) rfl rfl rfl (zh5 _ _) (.cons (arw0 0 rfl zk (lz0 3 rfl)) (.cons (vq 1 rfl) .nil))) o0))) (fun a w hst=>?_)
 have hst:St B w0 34 [(5,_)] [⟨2,28,ptrH,_⟩,⟨3,30,ptrH,_⟩,⟨4,30,ptrH,_⟩,⟨6,141,ptrH,_⟩] a w:=hst
 refine zt ?_
 refine gl (sts:=[none,none,none,some (2,_)]) (news:=[]) (sp:=[.adr 13 6 (.some 0) True,.val 14 _,.cal 15 _ 3]) [.g 0] hst (oc (ob_a rfl rfl (zca (lz0 3 rfl))) (zv rfl rfl (zac (lz0 1 rfl) zbu) (oc (zeg (xs:=[.tmp 13,.tmp 14]) rfl rfl rfl (kray_c _ _) (.cons (arw0 0 rfl zk (lz0 3 rfl)) (.cons (vq 1 rfl) .nil))) o0))) (fun a w hst=>?_)
 have hst:St B w0 34 [(5,_)] [⟨2,28,ptrH,_⟩,⟨3,30,ptrH,_⟩,⟨4,30,ptrH,_⟩,⟨6,141,ptrH,_⟩] a w:=hst
 refine zt ?_
 refine gl (sts:=[none,none,none,some (2,_)]) (news:=[]) (sp:=[.adr 16 6 (.some 0) True,.val 17 _,.cal 18 _ 3,.val 7 _]) [.g 0,.o 3] hst (oc (ob_a rfl rfl (zca (lz0 3 rfl))) (zv rfl rfl (zim (xs:=[.tmp 2,.tmp 3]) (D:=[28,30,168]) (pre:=fun _:PLift (kR (kM 0 m) r=0)=>[]) (post:=fun _=>(SlX [QD 8193 (goQ (toM m) (toY r)).y,QD 8193 (goQ (toM m) (toY r)).u]).va) (fun i=>throughD1_x i.down) (nd_va rfl) (.cons (zb6 (lz0 0 rfl)) (.cons (zb6 (lz0 1 rfl)) .nil))) (oc (zeg (xs:=[.tmp 16,.tmp 17]) rfl rfl rfl (zkm _ [QD 8193 (goQ (toM m) (toY r)).y,QD 8193 (goQ (toM m) (toY r)).u] [QA 8193 (goQ (toM m) (toY r)).y,QA 8193 (goQ (toM m) (toY r)).u] [(goQ (toM m) (toY r)).y,(goQ (toM m) (toY r)).u] (.cons ⟨_,rfl⟩ (.cons ⟨_,rfl⟩ .nil)) (.cons qd_qa (.cons qd_qa .nil)) qa2_dep nq) (.cons (arw0 0 rfl zk (lz0 3 rfl)) (.cons (vq 1 rfl) .nil))) (zv rfl rfl (za1 (zjd 2 rfl zk zk)) o0)))) (fun a w hst=>?_)
 have hst:St B w0 34 [(5,_),(7,_)] [⟨2,28,ptrH,_⟩,⟨3,30,ptrH,_⟩,⟨4,30,ptrH,_⟩,⟨6,141,ptrH,_⟩] a w:=hst
 refine zt ?_
 refine wp_seq ?_
 refine gl (sts:=[none,none,none,none]) (news:=[]) (sp:=[.val 19 _,.val 20 _,.val 21 _]) [.g 0,.g 1,.o 2] hst (zv rfl rfl (za2 (gq 1 rfl)) (zv rfl rfl (zbz Tryz.underlying142 (has_wk' (vq 0 rfl) (slx_if qd2_dep))) (zv rfl rfl (zb7 (vq 1 rfl) za3) o0))) (fun a w hst=>?_)
 have hst:St B w0 34 [(5,_),(7,_),(21,_)] [⟨2,28,ptrH,_⟩,⟨3,30,ptrH,_⟩,⟨4,30,ptrH,_⟩,⟨6,141,ptrH,_⟩] a w:=hst
 refine za0 ?_
 refine za8 hst (zm 2 rfl) (fun hb0=>?_) (fun hb0=>?_)
 ·have hE:=zij hb0 (by simp)
  refine wp_seq ?_
  refine zaw (anc:=[[],[],[1],[1,2],[1,2,3],[0],[0,1,2,3,4,5]]) (sts:=[none,none,some (5,_),none]) (news:=[]) (sp:=[.val 22 _,.adr 23 6 (.some 0) True,.adr 24 6 (.some 0) True,.adr 25 6 (.some (0+0)) True,.val 26 _,.sto 2,.val 5 _]) [.g 1,.o 6] za7 hst (zv rfl rfl (zbd (xs:=[]) (qs:=[]) zkw .nil) (oc (ob_a rfl rfl (zca (lz0 3 rfl))) (oc (ob_a rfl rfl (zds 1 rfl zk (lz0 3 rfl))) (oc (ob_a rfl rfl (zdt 2 rfl zk trivial (lz0 3 rfl) zcj)) (zv rfl rfl (za4 3 rfl zk trivial (lz0 3 rfl) (Sub.part 0 rfl rfl) zgu) (oc (zak rfl rfl rfl (vq 0 rfl) zbu (Eq.trans (b:=8) rfl rfl)) (zv rfl rfl (za1 (vq 4 rfl)) o0))))))) zk zk zk zk (fun a w hst=>?_)
  have hst:St B w0 34 [(7,_),(5,_)] [⟨2,28,ptrH,_⟩,⟨3,30,ptrH,_⟩,⟨4,30,ptrH,_⟩,⟨6,141,ptrH,_⟩] a w:=hst
  refine za0 ?_
  refine wp_ret ?_
  refine zap ?_
  refine zan ?_ (zaq (rs:=[.cell 4 30,.tmp 5]) rfl hst (.cell (zm 2 rfl) zbu (.tmp (zm 1 rfl) .nil)) zd)
  rw [goF,asY_no hE]; exact tu2w zr_rrd.va zbs
 ·have hE:=zgy hb0 zd
  have hst:=St.cvG (A':=(SlX [QD 8193 (goQ (toM m) (toY r)).y,QD 8193 (goQ (toM m) (toY r)).u]).va) hst 1 rfl (by rw [if_pos hE])
  obtain ⟨u1,u2,hst⟩:=St.openX2 hst 1 rfl
  refine wp_skip ?_
  refine zt ?_
  refine zaw (anc:=[[],[0],[0,1],[],[3],[3,4],[0,1,2,3,4,5],[0,1,2,3,4,5,6],[0,1,2,3,4,5,6,7]]) (sts:=[none,none,some (7,_),none]) (news:=[]) (sp:=[.val 27 _,.val 28 _,.val 29 _,.val 30 _,.val 31 _,.val 32 _,.val 33 _,.sto 2,.val 5 _]) [.o 8] za7 hst (zv rfl rfl (za2 (gq 1 rfl)) (zv rfl rfl (zgf zda (n_ok zk) (vq 0 rfl) (zav 0 rfl) rfl) (zv rfl rfl (zad (vq 1 rfl) zag) (zv rfl rfl (za2 (gq 1 rfl)) (zv rfl rfl (zgf zda (n_ok zk) (vq 3 rfl) (zav 1 rfl) rfl) (zv rfl rfl (zad (vq 4 rfl) zag) (zv rfl rfl (zbd (xs:=[(0,.tmp 29),(1,.tmp 32)]) (qs:=[(0,_),(1,_)]) zkw (.cons ⟨rfl,(vq 2 rfl),rfl⟩ (.cons ⟨rfl,(vq 5 rfl),rfl⟩ .nil))) (oc (zak rfl rfl rfl (vq 6 rfl) zbu (Eq.trans (b:=8) rfl rfl)) (zv rfl rfl (za1 za3) o0))))))))) zk zk zk zk (fun a w hst=>?_)
  have hst:St B w0 34 [(5,_)] [⟨2,28,ptrH,_⟩,⟨3,30,ptrH,_⟩,⟨4,30,ptrH,_⟩,⟨6,141,ptrH,_⟩] a w:=hst
  refine za0 ?_
  refine wp_ret ?_
  refine zan ?_ (zaq (rs:=[.cell 4 30,.tmp 5]) rfl hst (.cell (zm 2 rfl) zbu (.tmp (zm 0 rfl) .nil)) zd)
  rw [goF,asY_yes hE]; exact tu2w yd_pins.va zbs
end Go.Proofs.YthncfchnkjemiaaGreatDoor
