import Derived.Test.YtagabklfjmchaaaGreatTpAa
import Derived.Test.YtagabklfjmchaaaGreatTpAc
import Derived.Test.YtagabklfjmchaaaGreatTpAm
import Derived.Test.YtagabklfjmchaaaGreatTpAo
import Derived.Test.YtagabklfjmchaaaGreatTpAs
import Derived.Test.YtagabklfjmchaaaGreatTpAt
set_option linter.unusedVariables false
set_option linter.unusedSimpArgs false
set_option linter.unusedSectionVars false
set_option maxRecDepth 100000
namespace Go.Proofs.YtagabklfjmchaaaGreat
open Go Go.RowKit
def trI (q:Rat):Int × Bool:=if q.den=1 ∧ -2≤q.num∧q.num≤2 then (q.num,true) else (0,false)
def plQ (m:MQ):Bool:=((m.b.num.sign==0)&&(m.c.num.sign==0))&&(cmQ m.a m.d==0)
def orQ (m:MQ):Int:=if (!(trI (m.a+m.d)).2) || ((((trI (m.a+m.d)).1==2) || ((trI (m.a+m.d)).1 == -2))&&(!plQ m)) then 0 else if (trI (m.a+m.d)).1==2 then 1 else if (trI (m.a+m.d)).1 == -2 then 2 else if (trI (m.a+m.d)).1 == -1 then 3 else if (trI (m.a+m.d)).1==0 then 4 else 6
def orF (m:RM):Int × Int:=if okM m then (orQ (toM m),0) else (0,1)
theorem sg3_0 {p q:Int}:(sg3 p q==0)=true↔p=q:=by
 rw [beq_iff_eq]
 unfold sg3
 split
 ·constructor <;> intro h <;> omega
 ·split <;> constructor <;> intro h <;> omega
theorem tr_yes {q:Rat}{k:Int}(h:((sg3 (q.den:Int) 1==0)&&(sg3 q.num k==0))=true)(h1 : -2≤k)(h2:k≤2):trI q=(k,true):=by
 rw [Bool.and_eq_true,sg3_0,sg3_0] at h
 obtain ⟨h3,h4⟩:=h
 rw [trI,if_pos ⟨by omega,by omega,by omega⟩,h4]
theorem tr_no {q:Rat}{j:Nat}(h:((sg3 (q.den:Int) 1==0)&&(sg3 q.num ((j:Int)-2)==0))=false)(ha:∀ i:Nat,i<j→¬ (q.den=1∧q.num=(i:Int)-2)):∀ i:Nat,i<j+1→¬ (q.den=1∧q.num=(i:Int)-2):=fun i hi hq=>by
 by_cases e:i=j
 ·subst e
  have h2:((sg3 (q.den:Int) 1==0)&&(sg3 q.num ((i:Int)-2)==0))=true:=by
   rw [Bool.and_eq_true,sg3_0,sg3_0]
   exact ⟨by omega,hq.2⟩
  rw [h2] at h
  cases h
 ·exact ha i zo hq
theorem tr_out {q:Rat}(ha:∀ i:Nat,i<5→¬ (q.den=1∧q.num=(i:Int)-2)):trI q=(0,false):=by
 rw [trI,if_neg]
 rintro ⟨h1,h2,h3⟩
 exact ha (q.num+2).toNat zo ⟨h1,by omega⟩
theorem perTrace_q {m:MQ}:Cn Tryz.prog 66 [(QMA 2048 m).va] (Tu [In (trI (m.a+m.d)).1,Bo (trI (m.a+m.d)).2]):=by
 refine Cn.intro Tryz.func66 rfl zk nq (fun B w0 a hst=>?_)
 have hst:St B w0 29 [(0,(QMA 2048 m).va)] [] a w0.w:=hst
 refine wp_seq ?_
 refine gl (sts:=[]) (news:=[⟨1,38,ptrH,some 0,_,none⟩]) (sp:=[.alc 0,.val 2 _,.val 3 _]) [.o 1,.o 2] hst (oc (zam rfl rfl rfl (gq 0 rfl)) (zv rfl (za1 za3) (zv rfl (za1 zbk) o0))) (fun a w hst=>?_)
 have hst:St B w0 29 [(2,_),(3,_)] [⟨1,38,ptrH,_⟩] a w:=hst
 refine zt<|gl (sts:=[none]) (news:=[⟨4,27,ptrH,some 5,_,some (6,_)⟩]) (sp:=[.adr 6 1 (.some 0) True,.val 7 _,.adr 8 1 (.some 12) True,.val 9 _,.val 10 _,.alc 1,.sto 1]) [.g 0,.g 1] hst (oc (ob_a rfl rfl (za7 (lz0 0 rfl) zbc)) (zv rfl (za4 0 rfl zk trivial (lz0 0 rfl) (Sub.part 0 rfl rfl) za9) (oc (ob_a rfl rfl (za7 (lz0 0 rfl) zbf)) (zv rfl (za4 2 rfl zk trivial (lz0 0 rfl) (Sub.part 3 rfl rfl) za9) (zv rfl (za5 (xs:=[.tmp 7,.tmp 9]) (zhb zo) (.cons (vq 1 rfl) (.cons (vq 3 rfl) .nil))) (oc (zao rfl rfl rfl (Str.zero zb3)) (oc (zad rfl rfl rfl (vq 4 rfl) za9 (Eq.trans (b:=4) rfl rfl)) o0))))))) (fun a w hst=>?_)
 have hst:St B w0 29 [(2,_),(3,_)] [⟨1,38,ptrH,_⟩,⟨4,27,ptrH,_⟩] a w:=hst
 refine zt ?_
 refine wp_seq ?_
 refine gl (sts:=[none,none]) (news:=[]) (sp:=[.val 5 _]) [.g 0,.g 1,.o 0] hst (zv rfl (za1 za3) o0) (fun a w hst=>?_)
 have hst:St B w0 29 [(2,_),(3,_),(5,_)] [⟨1,38,ptrH,_⟩,⟨4,27,ptrH,_⟩] a w:=hst
 refine za0 ?_
 refine wp_block ?_
 have hst:=St.sel hst [2]
 refine wp_loop_ghost (fun n a w=>∃ j:Nat,(n+j=5∧∀ i:Nat,i<j→¬ ((m.a+m.d).den=1∧(m.a+m.d).num=(i:Int)-2))∧St B w0 29 [(5,In ((j:Int)-2))] [⟨1,38,ptrH,QMA 2048 m⟩,⟨4,27,ptrH,QA (2048+2048+1) (m.a+m.d)⟩] a w) (5) ?_ ?_
 ·exact ⟨0,⟨rfl,fun i hi=>absurd hi (Nat.not_lt_zero _)⟩,hst⟩
 intro n a w hI
 obtain ⟨j,⟨hn,hall⟩,hst⟩:=hI
 refine wp_seq ?_
 refine wp_seq ?_
 refine gl (sts:=[none,none]) (news:=[]) (sp:=[.val 11 _,.val 12 _]) [.g 0,.o 1] hst (zv rfl (za2 (gq 0 rfl)) (zv rfl (r_leq (vq 0 rfl) za3) o0)) (fun a w hst=>?_)
 have hst:St B w0 29 [(5,_),(12,_)] [⟨1,38,ptrH,_⟩,⟨4,27,ptrH,_⟩] a w:=hst
 refine za0 ?_
 refine zaa hst (zm 1 rfl) (fun hb0=>?_) (fun hb0=>?_)
 ·have hj:j<5:=by have:=of_decide_eq_true hb0; omega
  refine wp_skip ?_
  refine zt ?_
  refine wp_block ?_
  refine wp_seq ?_
  refine zav (anc:=[[],[0],[],[0,1,2],[0,1,2,3],[0,1,2,3,4],[0,1,2,3,4,5],[0,1,2,3,4,5,6],[0,1,2,3,4,5],[0,1,2,3,4,5,8],[0,1,2,3,4,5,6,7,8,9],[0,1,2,3,4,5,6,7,8,9,10],[0,1,2,3,4,5,6,7,8,9,10,11]]) (sts:=[none,none]) (news:=[]) (sp:=[.adr 15 4 (.some 2) True,.val 16 _,.val 17 _,.val 18 _,.val 19 _,.val 20 _,.adr 21 4 (.some 0) (_=true),.val 22 (Wh (_=true) _),.val 23 (Wh (_=true) _),.val 24 (Wh (_=true) _),.val 25 (Wh (_=true) _),.val 26 (Wh (_=true) _),.val 27 _]) [.g 0,.o 12] za6 hst (oc (ob_a rfl rfl (za7 (lz0 1 rfl) zb5)) (zv rfl (za4 0 rfl zk trivial (lz0 1 rfl) (Sub.part 1 rfl rfl) zak) (zv rfl (za5 (xs:=[.const (.int .i64 (1))]) (of_z zd zd) (.cons za3 .nil)) (zv rfl (za5 (xs:=[.tmp 16,.tmp 17]) (cmp_z zo zo) (.cons (vq 1 rfl) (.cons (vq 2 rfl) .nil))) (zv rfl (zbs (vq 3 rfl) za3) (zv rfl (za2 (vq 4 rfl)) (oc (zc8 rfl rfl rfl (vq 5 rfl) nq (fun hg=>za7 (lz0 1 rfl) zba)) (oc (zal rfl rfl rfl (vq 5 rfl) nq (fun hg=>za4 6 rfl zk hg (lz0 1 rfl) (Sub.part 0 rfl rfl) zak)) (oc (zal rfl rfl rfl (vq 5 rfl) nq (fun hg=>za2 (gq 0 rfl))) (oc (zal rfl rfl rfl (vq 5 rfl) nq (fun hg=>za5 (xs:=[.tmp 23]) (of_z zo zo) (.cons (zaf (vq 8 rfl) hg) .nil))) (oc (zal rfl rfl rfl (vq 5 rfl) nq (fun hg=>za5 (xs:=[.tmp 22,.tmp 24]) (cmp_z zo zo) (.cons (zaf (vq 7 rfl) hg) (.cons (zaf (vq 9 rfl) hg) .nil)))) (oc (zal rfl rfl rfl (vq 5 rfl) nq (fun hg=>zbs (zaf (vq 10 rfl) hg) za3)) (zv rfl (zc9 (vq 5 rfl) (vq 11 rfl)) o0))))))))))))) zk zk zk zk (fun a w hst=>?_)
  have hst:St B w0 29 [(5,_),(27,_)] [⟨1,38,ptrH,_⟩,⟨4,27,ptrH,_⟩] a w:=hst
  refine za0 ?_
  refine zaa hst (zm 1 rfl) (fun hb1=>?_) (fun hb1=>?_)
  ·have hq:=tr_yes hb1 zo zo
   refine wp_seq ?_
   refine gl (sts:=[none,none]) (news:=[]) (sp:=[.val 28 _,.val 2 _,.val 3 _]) [.g 0,.o 1,.o 2] hst (zv rfl (za2 (gq 0 rfl)) (zv rfl (za1 (vq 0 rfl)) (zv rfl (za1 zbk) o0))) (fun a w hst=>?_)
   have hst:St B w0 29 [(5,_),(2,_),(3,_)] [⟨1,38,ptrH,_⟩,⟨4,27,ptrH,_⟩] a w:=hst
   refine za0 ?_
   refine wp_ret ?_
   refine zb1 ?_
   refine zah ?_
   refine zah ?_
   refine zb1 ?_
   refine zah ?_
   refine zag ?_ (zaq (rs:=[.tmp 2,.tmp 3]) rfl hst (.tmp (zm 1 rfl) (.tmp (zm 2 rfl) .nil)) zd)
   rw [hq]; exact zb2
  ·have hall2:=tr_no hb1 hall
   refine wp_skip ?_
   refine zan ?_
   refine za0 ?_
   refine gl (sts:=[none,none]) (news:=[]) (sp:=[.val 13 _,.val 14 _,.val 5 _]) [.o 2] hst (zv rfl (za2 (gq 0 rfl)) (zv rfl (zb8 (vq 0 rfl) za3 ((wi64 zo zo).trans (by omega:(_:Int)=((j+1:Nat):Int)-2))) (zv rfl (za1 (vq 1 rfl)) o0))) (fun a w hst=>?_)
   have hst:St B w0 29 [(5,_)] [⟨1,38,ptrH,_⟩,⟨4,27,ptrH,_⟩] a w:=hst
   refine za0 ?_
   have hst:=St.sel hst [0]
   exact ⟨4-j,by omega,j+1,⟨by omega,hall2⟩,hst⟩
 ·obtain rfl:j=5:=by have:=of_decide_eq_false hb0; omega
  refine wp_exit ?_
  refine zae ?_
  refine zae ?_
  refine zaw ?_
  refine zt<|gl (sts:=[none,none]) (news:=[]) (sp:=[.val 2 _,.val 3 _]) [.o 0,.o 1] hst (zv rfl (za1 za3) (zv rfl (za1 zbk) o0)) (fun a w hst=>?_)
  have hst:St B w0 29 [(2,_),(3,_)] [⟨1,38,ptrH,_⟩,⟨4,27,ptrH,_⟩] a w:=hst
  refine za0 ?_
  refine wp_ret ?_
  refine zag ?_ (zaq (rs:=[.tmp 2,.tmp 3]) rfl hst (.tmp (zm 0 rfl) (.tmp (zm 1 rfl) .nil)) zd)
  rw [tr_out hall]; exact zb2
theorem perPlain_q {m:MQ}:Cn Tryz.prog 67 [(QMA 2048 m).va] (Bo (plQ m)):=by
 refine Cn.intro Tryz.func67 rfl zk nq (fun B w0 a hst=>?_)
 have hst:St B w0 21 [(0,(QMA 2048 m).va)] [] a w0.w:=hst
 refine wp_seq ?_
 refine gl (sts:=[]) (news:=[⟨1,38,ptrH,some 0,_,none⟩]) (sp:=[.alc 0,.val 2 _]) [.o 1] hst (oc (zam rfl rfl rfl (gq 0 rfl)) (zv rfl (za1 zbk) o0)) (fun a w hst=>?_)
 have hst:St B w0 21 [(2,_)] [⟨1,38,ptrH,_⟩] a w:=hst
 refine zt<|gl (sts:=[none]) (news:=[]) (sp:=[.adr 3 1 (.some 4) True,.val 4 _,.val 5 _,.val 6 _,.val 7 _,.adr 8 1 (.some 8) (_=true),.val 9 (Wh (_=true) _),.val 10 (Wh (_=true) _),.val 11 (Wh (_=true) _),.val 12 _,.val 13 _,.adr 14 1 (.some 0) (_=true),.val 15 (Wh (_=true) _),.adr 16 1 (.some 12) (_=true),.val 17 (Wh (_=true) _),.val 18 (Wh (_=true) _),.val 19 (Wh (_=true) _),.val 20 _,.val 2 _]) [.o 18] hst (oc (ob_a rfl rfl (za7 (lz0 0 rfl) zbi)) (zv rfl (za4 0 rfl zk trivial (lz0 0 rfl) (Sub.part 1 rfl rfl) za9) (zv rfl (za5 (xs:=[.tmp 4]) sign_q (.cons (vq 1 rfl) .nil)) (zv rfl (zbs (vq 2 rfl) za3) (zv rfl (za2 (vq 3 rfl)) (oc (zc8 rfl rfl rfl (vq 4 rfl) nq (fun hg=>za7 (lz0 0 rfl) zbh)) (oc (zal rfl rfl rfl (vq 4 rfl) nq (fun hg=>za4 5 rfl zk hg (lz0 0 rfl) (Sub.part 2 rfl rfl) za9)) (oc (zal rfl rfl rfl (vq 4 rfl) nq (fun hg=>za5 (xs:=[.tmp 9]) sign_q (.cons (zaf (vq 6 rfl) hg) .nil))) (oc (zal rfl rfl rfl (vq 4 rfl) nq (fun hg=>zbs (zaf (vq 7 rfl) hg) za3)) (zv rfl (zc9 (vq 4 rfl) (vq 8 rfl)) (zv rfl (za2 (vq 9 rfl)) (oc (zc8 rfl rfl rfl (vq 10 rfl) nq (fun hg=>za7 (lz0 0 rfl) zbc)) (oc (zal rfl rfl rfl (vq 10 rfl) nq (fun hg=>za4 11 rfl zk hg (lz0 0 rfl) (Sub.part 0 rfl rfl) za9)) (oc (zc8 rfl rfl rfl (vq 10 rfl) nq (fun hg=>za7 (lz0 0 rfl) zbf)) (oc (zal rfl rfl rfl (vq 10 rfl) nq (fun hg=>za4 13 rfl zk hg (lz0 0 rfl) (Sub.part 3 rfl rfl) za9)) (oc (zal rfl rfl rfl (vq 10 rfl) nq (fun hg=>za5 (xs:=[.tmp 15,.tmp 17]) (cmp_q zo) (.cons (zaf (vq 12 rfl) hg) (.cons (zaf (vq 14 rfl) hg) .nil)))) (oc (zal rfl rfl rfl (vq 10 rfl) nq (fun hg=>zbs (zaf (vq 15 rfl) hg) za3)) (zv rfl (zc9 (vq 10 rfl) (vq 16 rfl)) (zv rfl (za1 (vq 17 rfl)) o0))))))))))))))))))) (fun a w hst=>?_)
 have hst:St B w0 21 [(2,_)] [⟨1,38,ptrH,_⟩] a w:=hst
 refine za0 ?_
 refine wp_ret ?_
 refine zag ?_ (zaj rfl hst (zm 0 rfl))
 exact zb2
theorem perOrder_q {m:MQ}:Cn Tryz.prog 30 [(QMA 2048 m).va] (In (orQ m)):=by
 refine Cn.intro Tryz.func30 rfl zk nq (fun B w0 a hst=>?_)
 have hst:St B w0 38 [(0,(QMA 2048 m).va)] [] a w0.w:=hst
 refine wp_seq ?_
 refine gl (sts:=[]) (news:=[⟨1,38,ptrH,some 0,_,none⟩]) (sp:=[.alc 0,.val 2 _]) [.o 1] hst (oc (zam rfl rfl rfl (gq 0 rfl)) (zv rfl (za1 za3) o0)) (fun a w hst=>?_)
 have hst:St B w0 38 [(2,_)] [⟨1,38,ptrH,_⟩] a w:=hst
 refine zt<|gl (sts:=[none]) (news:=[]) (sp:=[.val 6 _,.val 7 _,.val 5 _,.val 8 _,.val 9 _,.val 3 _,.val 4 _]) [.g 0,.o 5,.o 6] hst (zv rfl (zab (lz0 0 rfl) zat) (zv rfl (za5 (xs:=[.tmp 6]) (perTrace_q (m:=m)) (.cons (vq 0 rfl) .nil)) (zv rfl (za2 (vq 1 rfl)) (zv rfl (ze4 (vq 2 rfl)) (zv rfl (ze3 (vq 2 rfl)) (zv rfl (za1 (vq 3 rfl)) (zv rfl (za1 (vq 4 rfl)) o0))))))) (fun a w hst=>?_)
 have hst:St B w0 38 [(2,_),(3,_),(4,_)] [⟨1,38,ptrH,_⟩] a w:=hst
 refine zt ?_
 refine wp_block ?_
 refine wp_seq ?_
 refine gl (sts:=[none]) (news:=[]) (sp:=[.val 11 _,.val 12 _,.val 13 _,.val 14 (Wh (_=false) _),.val 15 (Wh (_=false) _),.val 16 (Wh (_=false) _),.val 17 (Wh ((_=false)∧_=false) _),.val 18 (Wh ((_=false)∧_=false) _),.val 19 (Wh (_=false) _),.val 20 (Wh (_=false) _),.val 21 (Wh ((_=false)∧_=true) _),.val 22 (Wh ((_=false)∧_=true) _),.val 23 (Wh ((_=false)∧_=true) _),.val 24 (Wh (_=false) _),.val 25 _,.val 10 _]) [.g 0,.g 1,.o 15] hst (zv rfl (za2 (gq 2 rfl)) (zv rfl (zft (vq 0 rfl)) (zv rfl (za2 (vq 1 rfl)) (oc (zal rfl rfl rfl (vq 2 rfl) nq (fun hg=>za2 (gq 1 rfl))) (oc (zal rfl rfl rfl (vq 2 rfl) nq (fun hg=>zbs (zaf (vq 3 rfl) hg) za3)) (oc (zal rfl rfl rfl (vq 2 rfl) nq (fun hg=>za2 (zaf (vq 4 rfl) hg))) (oc (zcw rfl rfl rfl (vq 5 rfl) nq (fun hg=>za2 (gq 1 rfl))) (oc (zcw rfl rfl rfl (vq 5 rfl) nq (fun hg=>zbs (zaf (vq 6 rfl) hg) za3)) (oc (zal rfl rfl rfl (vq 2 rfl) nq (fun hg=>r_or (zaf (vq 5 rfl) hg) (zgr (vq 7 rfl) hg))) (oc (zal rfl rfl rfl (vq 2 rfl) nq (fun hg=>za2 (zaf (vq 8 rfl) hg))) (oc (zcw rfl rfl rfl (vq 9 rfl) nq (fun hg=>zab (lz0 0 rfl) zat)) (oc (zcw rfl rfl rfl (vq 9 rfl) nq (fun hg=>za5 (xs:=[.tmp 21]) (perPlain_q (m:=m)) (.cons (zaf (vq 10 rfl) hg) .nil))) (oc (zcw rfl rfl rfl (vq 9 rfl) nq (fun hg=>zft (zaf (vq 11 rfl) hg))) (oc (zal rfl rfl rfl (vq 2 rfl) nq (fun hg=>zc9 (zaf (vq 9 rfl) hg) (zgr (vq 12 rfl) hg))) (zv rfl (r_or (vq 2 rfl) (vq 13 rfl)) (zv rfl (za1 (vq 14 rfl)) o0)))))))))))))))) (fun a w hst=>?_)
 have hst:St B w0 38 [(2,_),(3,_),(10,_)] [⟨1,38,ptrH,_⟩] a w:=hst
 refine za0 ?_
 refine zaa hst (zm 2 rfl) (fun hb0=>?_) (fun hb0=>?_)
 ·refine wp_seq ?_
  refine gl (sts:=[none]) (news:=[]) (sp:=[.val 2 _]) [.o 0] hst (zv rfl (za1 za3) o0) (fun a w hst=>?_)
  have hst:St B w0 38 [(2,_)] [⟨1,38,ptrH,_⟩] a w:=hst
  refine za0 ?_
  refine wp_ret ?_
  refine zb1 ?_
  refine zah ?_
  refine zag ?_ (zaj rfl hst (zm 0 rfl))
  rw [orQ,if_pos hb0]; exact zb2
 ·refine wp_seq ?_
  refine gl (sts:=[none]) (news:=[]) (sp:=[.val 27 _,.val 28 _,.val 26 _]) [.g 0,.g 1,.o 2] hst (zv rfl (za2 (gq 1 rfl)) (zv rfl (zbs (vq 0 rfl) za3) (zv rfl (za1 (vq 1 rfl)) o0))) (fun a w hst=>?_)
  have hst:St B w0 38 [(2,_),(3,_),(26,_)] [⟨1,38,ptrH,_⟩] a w:=hst
  refine za0 ?_
  refine zaa hst (zm 2 rfl) (fun hb1=>?_) (fun hb1=>?_)
  ·refine wp_seq ?_
   refine gl (sts:=[none]) (news:=[]) (sp:=[.val 2 _]) [.o 0] hst (zv rfl (za1 za3) o0) (fun a w hst=>?_)
   have hst:St B w0 38 [(2,_)] [⟨1,38,ptrH,_⟩] a w:=hst
   refine za0 ?_
   refine wp_ret ?_
   refine zb1 ?_
   refine zah ?_
   refine zag ?_ (zaj rfl hst (zm 0 rfl))
   rw [orQ,if_neg (by rw [hb0]; decide),if_pos hb1]; exact zb2
  ·refine wp_seq ?_
   refine gl (sts:=[none]) (news:=[]) (sp:=[.val 30 _,.val 31 _,.val 29 _]) [.g 0,.g 1,.o 2] hst (zv rfl (za2 (gq 1 rfl)) (zv rfl (zbs (vq 0 rfl) za3) (zv rfl (za1 (vq 1 rfl)) o0))) (fun a w hst=>?_)
   have hst:St B w0 38 [(2,_),(3,_),(29,_)] [⟨1,38,ptrH,_⟩] a w:=hst
   refine za0 ?_
   refine zaa hst (zm 2 rfl) (fun hb2=>?_) (fun hb2=>?_)
   ·refine wp_seq ?_
    refine gl (sts:=[none]) (news:=[]) (sp:=[.val 2 _]) [.o 0] hst (zv rfl (za1 za3) o0) (fun a w hst=>?_)
    have hst:St B w0 38 [(2,_)] [⟨1,38,ptrH,_⟩] a w:=hst
    refine za0 ?_
    refine wp_ret ?_
    refine zb1 ?_
    refine zah ?_
    refine zag ?_ (zaj rfl hst (zm 0 rfl))
    rw [orQ,if_neg (by rw [hb0]; decide),if_neg (by rw [hb1]; decide),if_pos hb2]; exact zb2
   ·refine wp_seq ?_
    refine gl (sts:=[none]) (news:=[]) (sp:=[.val 33 _,.val 34 _,.val 32 _]) [.g 0,.g 1,.o 2] hst (zv rfl (za2 (gq 1 rfl)) (zv rfl (zbs (vq 0 rfl) za3) (zv rfl (za1 (vq 1 rfl)) o0))) (fun a w hst=>?_)
    have hst:St B w0 38 [(2,_),(3,_),(32,_)] [⟨1,38,ptrH,_⟩] a w:=hst
    refine za0 ?_
    refine zaa hst (zm 2 rfl) (fun hb3=>?_) (fun hb3=>?_)
    ·refine wp_seq ?_
     refine gl (sts:=[none]) (news:=[]) (sp:=[.val 2 _]) [.o 0] hst (zv rfl (za1 za3) o0) (fun a w hst=>?_)
     have hst:St B w0 38 [(2,_)] [⟨1,38,ptrH,_⟩] a w:=hst
     refine za0 ?_
     refine wp_ret ?_
     refine zb1 ?_
     refine zah ?_
     refine zag ?_ (zaj rfl hst (zm 0 rfl))
     rw [orQ,if_neg (by rw [hb0]; decide),if_neg (by rw [hb1]; decide),if_neg (by rw [hb2]; decide),if_pos hb3]; exact zb2
    ·refine wp_seq ?_
     refine gl (sts:=[none]) (news:=[]) (sp:=[.val 36 _,.val 37 _,.val 35 _]) [.g 0,.o 2] hst (zv rfl (za2 (gq 1 rfl)) (zv rfl (zbs (vq 0 rfl) za3) (zv rfl (za1 (vq 1 rfl)) o0))) (fun a w hst=>?_)
     have hst:St B w0 38 [(2,_),(35,_)] [⟨1,38,ptrH,_⟩] a w:=hst
     refine za0 ?_
     refine zaa hst (zm 1 rfl) (fun hb4=>?_) (fun hb4=>?_)
     ·refine wp_seq ?_
      refine gl (sts:=[none]) (news:=[]) (sp:=[.val 2 _]) [.o 0] hst (zv rfl (za1 za3) o0) (fun a w hst=>?_)
      have hst:St B w0 38 [(2,_)] [⟨1,38,ptrH,_⟩] a w:=hst
      refine za0 ?_
      refine wp_ret ?_
      refine zb1 ?_
      refine zah ?_
      refine zag ?_ (zaj rfl hst (zm 0 rfl))
      rw [orQ,if_neg (by rw [hb0]; decide),if_neg (by rw [hb1]; decide),if_neg (by rw [hb2]; decide),if_neg (by rw [hb3]; decide),if_pos hb4]; exact zb2
     ·refine wp_skip ?_
      refine zan ?_
      refine zt<|gl (sts:=[none]) (news:=[]) (sp:=[.val 2 _]) [.o 0] hst (zv rfl (za1 za3) o0) (fun a w hst=>?_)
      have hst:St B w0 38 [(2,_)] [⟨1,38,ptrH,_⟩] a w:=hst
      refine za0 ?_
      refine wp_ret ?_
      refine zag ?_ (zaj rfl hst (zm 0 rfl))
      rw [orQ,if_neg (by rw [hb0]; decide),if_neg (by rw [hb1]; decide),if_neg (by rw [hb2]; decide),if_neg (by rw [hb3]; decide),if_neg (by rw [hb4]; decide)]; exact zb2
theorem order_c (m:RM):Cn Tryz.prog 12 [(RMA m).va] (Tu [In (orF m).1,In (orF m).2]):=by
 refine Cn.intro Tryz.func12 rfl zk nq (fun B w0 a hst=>?_)
 have hst:St B w0 9 [(0,(RMA m).va)] [] a w0.w:=hst
 refine wp_seq ?_
 refine gl (sts:=[]) (news:=[⟨1,38,ptrH,some 0,_,none⟩]) (sp:=[.alc 0,.val 2 _,.val 3 _]) [.o 1,.o 2] hst (oc (zam rfl rfl rfl (gq 0 rfl)) (zv rfl (za1 za3) (zv rfl (za1 za3) o0))) (fun a w hst=>?_)
 have hst:St B w0 9 [(2,_),(3,_)] [⟨1,38,ptrH,_⟩] a w:=hst
 refine zt ?_
 refine wp_seq ?_
 refine gl (sts:=[none]) (news:=[]) (sp:=[.val 4 _,.val 5 _,.val 6 _]) [.g 0,.g 1,.o 2] hst (zv rfl (zab (lz0 0 rfl) zat) (zv rfl (za5 (xs:=[.tmp 4]) (zha m) (.cons (vq 0 rfl) .nil)) (zv rfl (zco (vq 1 rfl) za3) o0))) (fun a w hst=>?_)
 have hst:St B w0 9 [(2,_),(3,_),(6,_)] [⟨1,38,ptrH,_⟩] a w:=hst
 refine za0 ?_
 refine zaa hst (zm 2 rfl) (fun hb0=>?_) (fun hb0=>?_)
 ·have hok:¬ okM m=true:=fun e=>by rw [if_pos e] at hb0; simp at hb0
  refine wp_seq ?_
  refine gl (sts:=[none]) (news:=[]) (sp:=[.val 2 _,.val 3 _]) [.o 0,.o 1] hst (zv rfl (za1 za3) (zv rfl (za1 za3) o0)) (fun a w hst=>?_)
  have hst:St B w0 9 [(2,_),(3,_)] [⟨1,38,ptrH,_⟩] a w:=hst
  refine za0 ?_
  refine wp_ret ?_
  refine zah ?_
  refine zag ?_ (zaq (rs:=[.tmp 2,.tmp 3]) rfl hst (.tmp (zm 0 rfl) (.tmp (zm 1 rfl) .nil)) zd)
  rw [orF,if_neg hok]; exact zb2
 ·have hok:okM m=true:=Decidable.byContradiction fun e=>by rw [if_neg e] at hb0; simp at hb0
  have hst:=St.wkL hst 0 rfl (qm_x (zhv hok).1)
  refine wp_skip ?_
  refine zt<|gl (sts:=[none]) (news:=[]) (sp:=[.val 7 _,.val 8 _,.val 2 _,.val 3 _]) [.o 2,.o 3] hst (zv rfl (zab (lz0 0 rfl) zat) (zv rfl (za5 (xs:=[.tmp 7]) (perOrder_q (m:=toM m)) (.cons (vq 0 rfl) .nil)) (zv rfl (za1 (vq 1 rfl)) (zv rfl (za1 za3) o0)))) (fun a w hst=>?_)
  have hst:St B w0 9 [(2,_),(3,_)] [⟨1,38,ptrH,_⟩] a w:=hst
  refine za0 ?_
  refine wp_ret ?_
  refine zag ?_ (zaq (rs:=[.tmp 2,.tmp 3]) rfl hst (.tmp (zm 0 rfl) (.tmp (zm 1 rfl) .nil)) zd)
  rw [orF,if_pos hok]; exact zb2
theorem zh4 {p q:Int}(hp : -9223372036854775808≤p∧p<9223372036854775808)(hq : -9223372036854775808≤q∧q<9223372036854775808)(h0:q≠0):Cn Tryz.prog 22 [In p,In q] ((RFA (rfOf (Rat.divInt p q))).va):=by
 refine Cn.intro Tryz.func22 rfl zk nq (fun B w0 a hst=>?_)
 have hst:St B w0 14 [(0,In p),(1,In q)] [] a w0.w:=hst
 refine wp_seq ?_
 refine gl (sts:=[]) (news:=[⟨4,27,ptrH,some 0,_,none⟩]) (sp:=[.alc 0]) [.g 0,.g 1] hst (oc (zao rfl rfl rfl (Str.zero zb3)) o0) (fun a w hst=>?_)
 have hst:St B w0 14 [(0,_),(1,_)] [⟨4,27,ptrH,_⟩] a w:=hst
 refine zt<|gl (sts:=[none]) (news:=[⟨5,27,ptrH,some 6,_,some (7,_)⟩]) (sp:=[.val 8 _,.val 9 _,.val 10 _,.val 7 _,.val 11 _,.val 12 _,.alc 1,.sto 1,.val 6 _]) [] hst (zv rfl (za2 (gq 0 rfl)) (zv rfl (za2 (gq 1 rfl)) (zv rfl (za5 (xs:=[.tmp 8,.tmp 9]) (ofQ_c hp.1 hp.2 hq.1 hq.2 h0) (.cons (vq 0 rfl) (.cons (vq 1 rfl) .nil))) (zv rfl (za2 (vq 2 rfl)) (zv rfl (ze4 (vq 3 rfl)) (zv rfl (ze3 (vq 3 rfl)) (oc (zao rfl rfl rfl (Str.zero zb3)) (oc (zad rfl rfl rfl (vq 4 rfl) za9 (Eq.trans (b:=4) rfl rfl)) (zv rfl (za1 (vq 5 rfl)) o0))))))))) (fun a w hst=>?_)
 have hst:St B w0 14 [] [⟨4,27,ptrH,_⟩,⟨5,27,ptrH,_⟩] a w:=hst
 refine zt<|gl (sts:=[some (1,_),none]) (news:=[]) (sp:=[.val 13 _,.sto 0]) [] hst (zv rfl (zab (lz0 1 rfl) za9) (oc (zad rfl rfl rfl (vq 0 rfl) za9 (Eq.trans (b:=4) rfl rfl)) o0)) (fun a w hst=>?_)
 have hst:St B w0 14 [] [⟨4,27,ptrH,_⟩,⟨5,27,ptrH,_⟩] a w:=hst
 refine za0 ?_
 refine wp_ret ?_
 refine zag ?_ (zau rfl hst (zm 0 rfl) za9)
 exact zb2
set_option maxHeartbeats 4000000 in
theorem zff  : Cn Tryz.prog 8 [] (Bo true):=by
 refine Cn.intro Tryz.func8 rfl zk nq (fun B w0 a hst=>?_)
 have hst:St B w0 67 [] [] a w0.w:=hst
 refine wp_seq ?_
 refine gl (sts:=[]) (news:=[]) (sp:=[.val 0 _]) [.o 0] hst (zv rfl (za1 zbk) o0) (fun a w hst=>?_)
 have hst:St B w0 67 [(0,_)] [] a w:=hst
 refine zt<|gl (sts:=[]) (news:=[⟨1,38,ptrH,some 7,_,some (8,_)⟩]) (sp:=[.val 11 _,.val 12 _,.val 13 _,.val 14 _,.val 10 _,.val 15 _,.val 16 _,.alc 0,.sto 0,.val 2 _]) [.g 0,.o 9] hst (zv rfl (za5 (xs:=[.const (.int .i64 (1)),.const (.int .i64 (2))]) (zh4 zd zd zd) (.cons za3 (.cons za3 .nil))) (zv rfl (za5 (xs:=[.const (.int .i64 (1)),.const (.int .i64 (2))]) (zh4 zd zd zd) (.cons za3 (.cons za3 .nil))) (zv rfl (za5 (xs:=[.const (.int .i64 (1)),.const (.int .i64 (1))]) (zh4 zd zd zd) (.cons za3 (.cons za3 .nil))) (zv rfl (za5 (xs:=[.tmp 11,.tmp 12,.tmp 13]) (two_c _ _ _) (.cons (vq 0 rfl) (.cons (vq 1 rfl) (.cons (vq 2 rfl) .nil)))) (zv rfl (za2 (vq 3 rfl)) (zv rfl (ze4 (vq 4 rfl)) (zv rfl (ze3 (vq 4 rfl)) (oc (zao rfl rfl rfl (Str.zero zai)) (oc (zad rfl rfl rfl (vq 5 rfl) zat (Eq.trans (b:=16) rfl rfl)) (zv rfl (za1 (vq 6 rfl)) o0)))))))))) (fun a w hst=>?_)
 have hst:St B w0 67 [(0,_),(2,_)] [⟨1,38,ptrH,_⟩] a w:=hst
 refine zt<|gl (sts:=[none]) (news:=[]) (sp:=[.val 18 _,.val 19 _,.val 17 _,.val 20 _,.val 21 _,.val 3 _,.val 4 _]) [.g 0,.g 1,.o 5,.o 6] hst (zv rfl (zab (lz0 0 rfl) zat) (zv rfl (za5 (xs:=[.tmp 18]) (kind_c _) (.cons (vq 0 rfl) .nil)) (zv rfl (za2 (vq 1 rfl)) (zv rfl (ze4 (vq 2 rfl)) (zv rfl (ze3 (vq 2 rfl)) (zv rfl (za1 (vq 3 rfl)) (zv rfl (za1 (vq 4 rfl)) o0))))))) (fun a w hst=>?_)
 have hst:St B w0 67 [(0,_),(2,_),(3,_),(4,_)] [⟨1,38,ptrH,_⟩] a w:=hst
 refine zt<|gl (sts:=[none]) (news:=[]) (sp:=[.val 23 _,.val 24 _,.val 22 _,.val 25 _,.val 26 _,.val 5 _,.val 6 _]) [.g 0,.g 1,.g 2,.g 3,.o 5,.o 6] hst (zv rfl (zab (lz0 0 rfl) zat) (zv rfl (za5 (xs:=[.tmp 23]) (order_c _) (.cons (vq 0 rfl) .nil)) (zv rfl (za2 (vq 1 rfl)) (zv rfl (ze4 (vq 2 rfl)) (zv rfl (ze3 (vq 2 rfl)) (zv rfl (za1 (vq 3 rfl)) (zv rfl (za1 (vq 4 rfl)) o0))))))) (fun a w hst=>?_)
 have hst:St B w0 67 [(0,_),(2,_),(3,_),(4,_),(5,_),(6,_)] [⟨1,38,ptrH,_⟩] a w:=hst
 refine zt<|gl (sts:=[none]) (news:=[⟨7,38,ptrH,some 5,_,some (6,_)⟩]) (sp:=[.val 27 _,.val 28 _,.val 29 _,.val 30 _,.val 31 _,.alc 1,.sto 1]) [.g 0,.g 1,.g 2,.g 3,.g 4,.g 5] hst (zv rfl (za5 (xs:=[.const (.int .i64 (2)),.const (.int .i64 (1))]) (zh4 zd zd zd) (.cons za3 (.cons za3 .nil))) (zv rfl (za5 (xs:=[.const (.int .i64 (3)),.const (.int .i64 (1))]) (zh4 zd zd zd) (.cons za3 (.cons za3 .nil))) (zv rfl (za5 (xs:=[.const (.int .i64 (1)),.const (.int .i64 (1))]) (zh4 zd zd zd) (.cons za3 (.cons za3 .nil))) (zv rfl (za5 (xs:=[.const (.int .i64 (2)),.const (.int .i64 (1))]) (zh4 zd zd zd) (.cons za3 (.cons za3 .nil))) (zv rfl (zbd (xs:=[(0,.tmp 27),(1,.tmp 28),(2,.tmp 29),(3,.tmp 30)]) (qs:=[(0,_),(1,_),(2,_),(3,_)]) zai (.cons ⟨rfl,(vq 0 rfl),rfl⟩ (.cons ⟨rfl,(vq 1 rfl),rfl⟩ (.cons ⟨rfl,(vq 2 rfl),rfl⟩ (.cons ⟨rfl,(vq 3 rfl),rfl⟩ .nil))))) (oc (zao rfl rfl rfl (Str.zero zai)) (oc (zad rfl rfl rfl (vq 4 rfl) zat (Eq.trans (b:=16) rfl rfl)) o0))))))) (fun a w hst=>?_)
 have hst:St B w0 67 [(0,_),(2,_),(3,_),(4,_),(5,_),(6,_)] [⟨1,38,ptrH,_⟩,⟨7,38,ptrH,_⟩] a w:=hst
 refine zt<|zav (anc:=[[],[],[1],[1,2],[1,2],[0,1,2,3,4],[0,1,2,3,4,5],[0,1,2,3,4,5,6],[0,1,2,3,4,5,6],[0,1,2,3,4,5,6,7],[0,1,2,3,4,5,6,7,8,9]]) (sts:=[none,none]) (news:=[]) (sp:=[.val 33 _,.val 34 _,.val 35 _,.val 36 _,.val 37 _,.val 38 _,.val 32 _,.val 39 _,.val 40 _,.val 8 _,.val 9 _]) [.g 0,.g 1,.g 2,.g 3,.g 4,.g 5,.o 9,.o 10] za6 hst (zv rfl (zab (lz0 1 rfl) zat) (zv rfl (za5 (xs:=[.const (.int .i64 (1)),.const (.int .i64 (1))]) (zh4 zd zd zd) (.cons za3 (.cons za3 .nil))) (zv rfl (za5 (xs:=[.const (.int .i64 (0)),.const (.int .i64 (1))]) (zh4 zd zd zd) (.cons za3 (.cons za3 .nil))) (zv rfl (zbd (xs:=[(0,.tmp 34),(1,.tmp 35)]) (qs:=[(0,_),(1,_)]) str_ray (.cons ⟨rfl,(vq 1 rfl),rfl⟩ (.cons ⟨rfl,(vq 2 rfl),rfl⟩ .nil))) (zv rfl (za5 (xs:=[.const (.int .i64 (5)),.const (.int .i64 (1))]) (zh4 zd zd zd) (.cons za3 (.cons za3 .nil))) (zv rfl (za5 (xs:=[.tmp 33,.tmp 36,.tmp 37]) (leaves_c ⟨_,_,_,_⟩ ⟨_,_⟩ _) (.cons (vq 0 rfl) (.cons (vq 3 rfl) (.cons (vq 4 rfl) .nil)))) (zv rfl (za2 (vq 5 rfl)) (zv rfl (ze4 (vq 6 rfl)) (zv rfl (ze3 (vq 6 rfl)) (zv rfl (za1 (vq 7 rfl)) (zv rfl (za1 (vq 8 rfl)) o0))))))))))) zk zk zk zk (fun a w hst=>?_)
 have hst:St B w0 67 [(0,_),(2,_),(3,_),(4,_),(5,_),(6,_),(8,_),(9,_)] [⟨1,38,ptrH,_⟩,⟨7,38,ptrH,_⟩] a w:=hst
 refine zt<|gl (sts:=[none,none]) (news:=[]) (sp:=((.val 41 _:Sp)::(.val 42 _)::(.val 43 _)::(.val 44 (Wh (_=true) _))::(.val 45 (Wh (_=true) _))::(.val 46 _)::(.val 47 _)::(.val 48 (Wh (_=true) _))::(.val 49 (Wh (_=true) _))::(.val 50 _)::(.val 51 _)::(.val 52 (Wh (_=true) _))::(.val 53 (Wh (_=true) _))::(.val 54 _)::(.val 55 _)::(.val 56 (Wh (_=true) _))::(.val 57 (Wh (_=true) _))::(.val 58 _)::(.val 59 _)::(.val 60 (Wh (_=true) _))::(.val 61 (Wh (_=true) _))::(.val 62 _)::(.val 63 _)::(.val 64 (Wh (_=true) _))::(.val 65 (Wh (_=true) _))::(.val 66 _)::(.val 0 _)::[])) [.o 26] hst (zv rfl (za2 (gq 1 rfl)) (zv rfl (zbs (vq 0 rfl) za3) (zv rfl (za2 (vq 1 rfl)) (oc (zal rfl rfl rfl (vq 2 rfl) nq (fun hg=>za2 (gq 3 rfl))) (oc (zal rfl rfl rfl (vq 2 rfl) nq (fun hg=>zbs (zaf (vq 3 rfl) hg) za3)) (zv rfl (zc9 (vq 2 rfl) (vq 4 rfl)) (zv rfl (za2 (vq 5 rfl)) (oc (zal rfl rfl rfl (vq 6 rfl) nq (fun hg=>za2 (gq 2 rfl))) (oc (zal rfl rfl rfl (vq 6 rfl) nq (fun hg=>zbs (zaf (vq 7 rfl) hg) za3)) (zv rfl (zc9 (vq 6 rfl) (vq 8 rfl)) (zv rfl (za2 (vq 9 rfl)) (oc (zal rfl rfl rfl (vq 10 rfl) nq (fun hg=>za2 (gq 5 rfl))) (oc (zal rfl rfl rfl (vq 10 rfl) nq (fun hg=>zbs (zaf (vq 11 rfl) hg) za3)) (zv rfl (zc9 (vq 10 rfl) (vq 12 rfl)) (zv rfl (za2 (vq 13 rfl)) (oc (zal rfl rfl rfl (vq 14 rfl) nq (fun hg=>za2 (gq 4 rfl))) (oc (zal rfl rfl rfl (vq 14 rfl) nq (fun hg=>zbs (zaf (vq 15 rfl) hg) za3)) (zv rfl (zc9 (vq 14 rfl) (vq 16 rfl)) (zv rfl (za2 (vq 17 rfl)) (oc (zal rfl rfl rfl (vq 18 rfl) nq (fun hg=>za2 (gq 7 rfl))) (oc (zal rfl rfl rfl (vq 18 rfl) nq (fun hg=>zbs (zaf (vq 19 rfl) hg) za3)) (zv rfl (zc9 (vq 18 rfl) (vq 20 rfl)) (zv rfl (za2 (vq 21 rfl)) (oc (zal rfl rfl rfl (vq 22 rfl) nq (fun hg=>za2 (gq 6 rfl))) (oc (zal rfl rfl rfl (vq 22 rfl) nq (fun hg=>zbs (zaf (vq 23 rfl) hg) za3)) (zv rfl (zc9 (vq 22 rfl) (vq 24 rfl)) (zv rfl (za1 (vq 25 rfl)) o0))))))))))))))))))))))))))) (fun a w hst=>?_)
 have hst:St B w0 67 [(0,_)] [⟨1,38,ptrH,_⟩,⟨7,38,ptrH,_⟩] a w:=hst
 refine za0 ?_
 refine wp_ret ?_
 refine zag ?_ (zaj rfl hst (zm 0 rfl))
 exact zd2 (congrArg Bo zk)
end Go.Proofs.YtagabklfjmchaaaGreat
namespace Go.Proofs.YtagabklfjmchaaaGreat
open Go Go.RowKit
def chP (t:Rat):Nat→Rat × Rat
 | 0=>(-1,0)
 | n+1=>((chP t n).2,t*(chP t n).2-(chP t n).1)
def trC (t:Rat)(n:Nat):Rat:=(chP t n).2*t-2*(chP t n).1
theorem zh3 (t:Rat):trC t 0=2:=by unfold trC chP; grind
theorem zgh (t:Rat):trC t 1=t:=by
 show (t*0-(-1:Rat))*t-2*0=t
 grind
theorem zck (t:Rat)(n:Nat):trC t (n+2)=t*trC t (n+1)-trC t n:=by
 show (t*(t*(chP t n).2-(chP t n).1)-(chP t n).2)*t-2*(t*(chP t n).2-(chP t n).1)=t*((t*(chP t n).2-(chP t n).1)*t-2*(chP t n).2)-((chP t n).2*t-2*(chP t n).1)
 generalize (chP t n).1=x
 generalize (chP t n).2=y
 grind
theorem zfd {m:MQ}(h:detM m=1):∀ n,powQ m n=⟨(chP (m.a+m.d) n).2*m.a-(chP (m.a+m.d) n).1,(chP (m.a+m.d) n).2*m.b,(chP (m.a+m.d) n).2*m.c,(chP (m.a+m.d) n).2*m.d-(chP (m.a+m.d) n).1⟩
 | 0=>by
  show (⟨1,0,0,1⟩:MQ)=⟨0*m.a-(-1:Rat),0*m.b,0*m.c,0*m.d-(-1:Rat)⟩
  simp only [MQ.mk.injEq]
  exact ⟨by grind,by grind,by grind,by grind⟩
 | n+1=>by
  show mulQ (powQ m n) m=_
  rw [zfd h n]
  obtain ⟨a,b,c,d⟩:=m
  have h:a*d-b*c=1:=h
  show mulQ ⟨(chP (a+d) n).2*a-(chP (a+d) n).1,(chP (a+d) n).2*b,(chP (a+d) n).2*c,(chP (a+d) n).2*d-(chP (a+d) n).1⟩ ⟨a,b,c,d⟩=⟨((a+d)*(chP (a+d) n).2-(chP (a+d) n).1)*a-(chP (a+d) n).2,((a+d)*(chP (a+d) n).2-(chP (a+d) n).1)*b,((a+d)*(chP (a+d) n).2-(chP (a+d) n).1)*c,((a+d)*(chP (a+d) n).2-(chP (a+d) n).1)*d-(chP (a+d) n).2⟩
  generalize (chP (a+d) n).1=x
  generalize (chP (a+d) n).2=y
  unfold mulQ
  simp only [MQ.mk.injEq]
  exact ⟨by grind,by grind,by grind,by grind⟩
theorem tr_pow {m:MQ}(h:detM m=1)(n:Nat):(powQ m n).a+(powQ m n).d=trC (m.a+m.d) n:=by
 rw [zfd h n]
 unfold trC
 generalize (chP (m.a+m.d) n).1=x
 generalize (chP (m.a+m.d) n).2=y
 grind
theorem zg9 {P:Nat→Prop}(h0:P 0)(h1:P 1)(h:∀ n,P n→P (n+1)→P (n+2)):∀ n,P n:=fun n=>by
 have key:P n∧P (n+1):=by
  induction n with
  | zero=>exact ⟨h0,h1⟩
  | succ n ih=>exact ⟨ih.2,h n ih.1 ih.2⟩
 exact key.1
def cI (p q:Int):Nat→Int
 | 0=>2
 | 1=>p
 | n+2=>p*cI p q (n+1)-q*q*cI p q n
theorem cI_tr {t:Rat}{p q:Int}(h:t*(q:Rat)=(p:Rat)):∀ n,trC t n*((q^n:Int):Rat)=((cI p q n:Int):Rat) :=
 zg9 (by rw [zh3]; show (2:Rat)*((q^0:Int):Rat)=((2:Int):Rat); rw [Int.pow_zero]; kernel_rfl) (by rw [zgh,Int.pow_one]; exact h) fun n h1 h2=>by
  rw [zck]
  show _=((p*cI p q (n+1)-q*q*cI p q n:Int):Rat)
  rw [Rat.intCast_sub,Rat.intCast_mul,Rat.intCast_mul,Rat.intCast_mul,← h1,← h2,← h]
  have e1:((q^(n+2):Int):Rat)=(q:Rat)*(q:Rat)*((q^n:Int):Rat):=by rw [← Rat.intCast_mul,← Rat.intCast_mul,Int.pow_succ,Int.pow_succ]; congr 1; grind
  have e2:((q^(n+1):Int):Rat)=(q:Rat)*((q^n:Int):Rat):=by rw [← Rat.intCast_mul,Int.pow_succ]; congr 1; grind
  rw [e1,e2]
  generalize ((q^n:Int):Rat)=z
  generalize (q:Rat)=y
  generalize trC t (n+1)=u
  generalize trC t n=v
  grind
theorem cI_mod (p q:Int):∀ n,∃ k,cI p q (n+1)=p^(n+1)+q*k :=
 zg9 ⟨0,by show p=p^1+q*0; rw [Int.pow_one]; omega⟩ ⟨-(q*2),by show p*p-q*q*2=p^2+q*(-(q*2)); rw [Int.pow_succ,Int.pow_one]; grind⟩ fun n ⟨k1,h1⟩ ⟨k2,h2⟩=>⟨p*k2-q*cI p q (n+1),by
  show p*cI p q (n+2)-q*q*cI p q (n+1)=_
  rw [h2,Int.pow_succ]
  have:p^(n+1+1)*p=p^(n+2)*p:=rfl
  generalize cI p q (n+1)=z
  grind⟩
theorem den_1 {t:Rat}{n:Nat}(h:trC t (n+1)=2):t.den=1:=by
 have hd:t*((t.den:Int):Rat)=(t.num:Rat):=zdy t
 have h1:=cI_tr hd (n+1)
 rw [h] at h1
 obtain ⟨k,hk⟩:=cI_mod t.num (t.den:Int) n
 have h2:(2:Int)*(t.den:Int)^(n+1)=t.num^(n+1)+(t.den:Int)*k:=by
  rw [← hk]
  have:((2*(t.den:Int)^(n+1):Int):Rat)=((cI t.num (t.den:Int) (n+1):Int):Rat):=by
   rw [Rat.intCast_mul]
   exact h1
  exact_mod_cast this
 have h3:(t.den:Int)∣t.num^(n+1):=⟨2*(t.den:Int)^n-k,by rw [Int.pow_succ] at h2; grind⟩
 have h4:t.den∣t.num.natAbs^(n+1):=by
  have:=Int.natAbs_dvd_natAbs.2 h3
  rw [Int.natAbs_pow] at this
  simpa using this
 have h5:Nat.Coprime (t.num.natAbs^(n+1)) t.den:=Nat.Coprime.pow_left _ t.reduced
 exact Nat.Coprime.eq_one_of_dvd h5.symm h4
theorem zjg {t:Rat}(h:3≤t):∀ n,2≤trC t n∧trC t n+1≤trC t (n+1)
 | 0=>by rw [zh3,zgh]; exact ⟨by grind,by grind⟩
 | n+1=>by
  obtain ⟨h1,h2⟩:=zjg h n
  refine ⟨by grind,?_⟩
  rw [zck]
  have h3:0≤(t-3)*trC t (n+1):=Rat.mul_nonneg (by grind) (by grind)
  grind
theorem zkc (t:Rat):∀ n,trC (-t) (2*n)=trC t (2*n)∧trC (-t) (2*n+1) = -trC t (2*n+1)
 | 0=>by
  rw [Nat.mul_zero,zh3,zh3,zgh,zgh]
  exact ⟨rfl,rfl⟩
 | n+1=>by
  obtain ⟨h1,h2⟩:=zkc t n
  have e1:trC (-t) (2*n+2)=trC t (2*n+2):=by
   rw [zck,zck,h1,h2]
   grind
  refine ⟨e1,?_⟩
  have e2:trC (-t) (2*n+1+2) = -t*trC (-t) (2*n+2)-trC (-t) (2*n+1):=zck _ _
  have e3:trC t (2*n+1+2)=t*trC t (2*n+2)-trC t (2*n+1):=zck _ _
  show trC (-t) (2*n+1+2) = -trC t (2*n+1+2)
  rw [e2,e3,h2,e1]
  grind
theorem tr_ne {t:Rat}(h:3≤t∨t ≤ -3)(n:Nat):trC t (n+1)≠2:=by
 rcases h with h | h
 ·have:=zjg h n
  grind
 ·have h3:3 ≤ -t:=by grind
  have hg:=zjg h3 n
  rcases Nat.mod_two_eq_zero_or_one (n+1) with hp | hp
  ·obtain ⟨k,hk⟩:∃ k,n+1=2*k:=⟨(n+1)/2,by omega⟩
   rw [hk] at hg ⊢
   rw [(zkc t k).1] at hg
   grind
  ·obtain ⟨k,hk⟩:∃ k,n+1=2*k+1:=⟨(n+1)/2,by omega⟩
   rw [hk] at hg ⊢
   rw [(zkc t k).2] at hg
   grind
theorem ch_2:∀ n:Nat,chP 2 n=((n:Rat)-1,(n:Rat))
 | 0=>by show ((-1:Rat),(0:Rat))=(((0:Nat):Rat)-1,((0:Nat):Rat)); rw [Prod.mk.injEq]; exact ⟨by grind,rfl⟩
 | n+1=>by
  show ((chP 2 n).2,2*(chP 2 n).2-(chP 2 n).1)=_
  rw [ch_2 n,Rat.natCast_add,Prod.mk.injEq]
  exact ⟨by show (n:Rat)=_; have:((1:Nat):Rat)=1:=rfl; grind,by have:((1:Nat):Rat)=1:=rfl; show 2*(n:Rat)-((n:Rat)-1)=_; grind⟩
theorem ch_m2:∀ n:Nat,chP (-2) (2*n)=(2*(n:Rat)-1,-(2*(n:Rat)))
 | 0=>by show ((-1:Rat),(0:Rat))=_; rw [Prod.mk.injEq]; exact ⟨by show _=2*((0:Nat):Rat)-1; have:((0:Nat):Rat)=0:=rfl; grind,by show _ = -(2*((0:Nat):Rat)); have:((0:Nat):Rat)=0:=rfl; grind⟩
 | n+1=>by
  show (-2*(chP (-2) (2*n)).2-(chP (-2) (2*n)).1,-2*(-2*(chP (-2) (2*n)).2-(chP (-2) (2*n)).1)-(chP (-2) (2*n)).2)=_
  rw [ch_m2 n,Rat.natCast_add,Prod.mk.injEq]
  have:((1:Nat):Rat)=1:=rfl
  exact ⟨by grind,by grind⟩
theorem tr_m2:∀ n:Nat,trC (-2) (2*n+1) = -2
 | 0=>zgh _
 | n+1=>by
  show trC (-2) (2*n+1+2) = -2
  rw [zck,tr_m2 n]
  have e:trC (-2) (2*n+2)=2:=by
   have:=(zkc 2 (n+1)).1
   rw [show (-(2:Rat)) = -2 from rfl] at this
   show trC (-2) (2*(n+1))=2
   rw [this]
   unfold trC
   rw [ch_2]
   grind
  show -2*trC (-2) (2*n+2) - -2 = -2
  rw [e]
  grind
theorem per3:∀ n:Nat,trC (-1) (3*n)=2∧trC (-1) (3*n+1) = -1∧trC (-1) (3*n+2) = -1
 | 0=>⟨zh3 _,zgh _,by rw [Nat.mul_zero,Nat.zero_add,zck,zgh,zh3]; grind⟩
 | n+1=>by
  obtain ⟨h0,h1,h2⟩:=per3 n
  have e0:trC (-1) (3*n+3)=2:=by rw [zck,h2,h1]; grind
  have e1:trC (-1) (3*n+4) = -1:=by rw [zck,e0,h2]; grind
  have e2:trC (-1) (3*n+5) = -1:=by rw [zck,e1,e0]; grind
  exact ⟨e0,e1,e2⟩
theorem per4:∀ n:Nat,trC 0 (4*n)=2∧trC 0 (4*n+1)=0∧trC 0 (4*n+2) = -2∧trC 0 (4*n+3)=0
 | 0=>⟨zh3 _,zgh _,by rw [Nat.mul_zero,Nat.zero_add,zck,zgh,zh3]; grind,by rw [Nat.mul_zero,Nat.zero_add,zck,zck,zgh,zh3]; grind⟩
 | n+1=>by
  obtain ⟨h0,h1,h2,h3⟩:=per4 n
  have e0:trC 0 (4*n+4)=2:=by rw [zck,h3,h2]; grind
  have e1:trC 0 (4*n+5)=0:=by rw [zck,e0,h3]; grind
  have e2:trC 0 (4*n+6) = -2:=by rw [zck,e1,e0]; grind
  have e3:trC 0 (4*n+7)=0:=by rw [zck,e2,e1]; grind
  exact ⟨e0,e1,e2,e3⟩
theorem per6:∀ n:Nat,trC 1 (6*n)=2∧trC 1 (6*n+1)=1∧trC 1 (6*n+2) = -1∧trC 1 (6*n+3) = -2∧trC 1 (6*n+4) = -1∧trC 1 (6*n+5)=1
 | 0=>by
  have h0:=zh3 1
  have h1:=zgh 1
  have h2:trC 1 2 = -1:=by rw [zck,h1,h0]; grind
  have h3:trC 1 3 = -2:=by rw [zck,h2,h1]; grind
  have h4:trC 1 4 = -1:=by rw [zck,h3,h2]; grind
  have h5:trC 1 5=1:=by rw [zck,h4,h3]; grind
  exact ⟨h0,h1,h2,h3,h4,h5⟩
 | n+1=>by
  obtain ⟨h0,h1,h2,h3,h4,h5⟩:=per6 n
  have e0:trC 1 (6*n+6)=2:=by rw [zck,h5,h4]; grind
  have e1:trC 1 (6*n+7)=1:=by rw [zck,e0,h5]; grind
  have e2:trC 1 (6*n+8) = -1:=by rw [zck,e1,e0]; grind
  have e3:trC 1 (6*n+9) = -2:=by rw [zck,e2,e1]; grind
  have e4:trC 1 (6*n+10) = -1:=by rw [zck,e3,e2]; grind
  have e5:trC 1 (6*n+11)=1:=by rw [zck,e4,e3]; grind
  exact ⟨e0,e1,e2,e3,e4,e5⟩
abbrev oneM:MQ:=⟨1,0,0,1⟩
theorem zcr {m:MQ}{k:Nat}(h:powQ m k=oneM):∀ i,powQ m (k*i)=oneM
 | 0=>rfl
 | i+1=>by
  rw [Nat.mul_succ,← pow_add,zcr h i,h]
  kernel_rfl
theorem pl_iff {m:MQ}:plQ m=true↔m.b=0∧m.c=0∧m.a=m.d:=by
 unfold plQ
 have hz:∀ x:Rat,(x.num.sign==0)=decide (x=0):=fun x=>by rw [Bool.eq_iff_iff,beq_iff_eq,decide_eq_true_eq,Int.sign_eq_zero_iff_zero,Rat.num_eq_zero]
 rw [hz,hz,cm_eq]
 simp [and_assoc]
theorem tr_num {q:Rat}(h:q.den=1):q=(q.num:Rat):=by
 have:=zdy q
 rw [h] at this
 have e:(((1:Nat):Int):Rat)=1:=rfl
 rw [e] at this
 grind
theorem trI_yes {q:Rat}{k:Int}(h:q=(k:Rat))(h1 : -2≤k)(h2:k≤2):trI q=(k,true):=by
 subst h
 rw [trI,if_pos ⟨Rat.den_intCast k,by rw [Rat.num_intCast]; exact h1,by rw [Rat.num_intCast]; exact h2⟩,Rat.num_intCast]
theorem orQ_at {m:MQ}{k:Int}(h:m.a+m.d=(k:Rat))(h1 : -2≤k)(h2:k≤2):orQ m=if ((k==2) || (k == -2))&&(!plQ m) then 0 else if k==2 then 1 else if k == -2 then 2 else if k == -1 then 3 else if k==0 then 4 else 6:=by
 rw [orQ,trI_yes h h1 h2]
 simp
theorem num_out {q:Rat}(h:q.den=1)(ho:¬ (-2≤q.num∧q.num≤2)):3≤q∨q ≤ -3:=by
 have e:=tr_num h
 by_cases h1:3≤q.num
 ·refine .inl ?_
  rw [e]
  exact_mod_cast h1
 ·refine .inr ?_
  have h2:q.num ≤ -3:=by omega
  rw [e]
  have h3:((q.num:Int):Rat)≤((-3:Int):Rat):=by exact_mod_cast h2
  exact h3
theorem ord_ok {m:MQ}(h:detM m=1){n:Nat}:powQ m (n+1)=oneM↔(orQ m>0∧((n+1:Nat):Int)%orQ m=0):=by
 have hdet:m.a*m.d-m.b*m.c=1:=h
 have htr:=tr_pow h (n+1)
 by_cases hs:(m.a+m.d).den=1 ∧ -2≤(m.a+m.d).num∧(m.a+m.d).num≤2
 ·obtain ⟨hd,h1,h2⟩:=hs
  obtain ⟨k,hk⟩:∃ k:Int,(m.a+m.d).num=k:=⟨_,rfl⟩
  have ht:m.a+m.d=(k:Rat):=by rw [← hk]; exact tr_num hd
  rw [hk] at h1 h2
  rw [orQ_at ht h1 h2]
  have hpow:=zfd h (n+1)
  have hone:powQ m (n+1)=oneM→trC (k:Rat) (n+1)=2:=fun e=>by rw [← ht,← htr,e]; show (1:Rat)+1=2; grind
  rcases show k=2∨k = -2∨k = -1∨k=0∨k=1 by omega with e | e | e | e | e <;> subst e
  ·have ht:m.a+m.d=2:=ht
   constructor
   ·intro hp
    rw [ht,ch_2] at hpow
    rw [hp] at hpow
    simp only [MQ.mk.injEq] at hpow
    obtain ⟨e1,e2,e3,e4⟩:=hpow
    have hn:(((n+1:Nat):Rat))≠0:=by exact_mod_cast Nat.succ_ne_zero n
    generalize (((n+1:Nat):Rat))=z at *
    have hb:m.b=0:=by
     rcases Rat.mul_eq_zero.1 e2.symm with e | e
     ·exact absurd e hn
     ·exact e
    have hc:m.c=0:=by
     rcases Rat.mul_eq_zero.1 e3.symm with e | e
     ·exact absurd e hn
     ·exact e
    have ha:m.a=m.d:=by
     have:z*(m.a-m.d)=0:=by grind
     rcases Rat.mul_eq_zero.1 this with e | e
     ·exact absurd e hn
     ·grind
    rw [pl_iff.2 ⟨hb,hc,ha⟩]
    exact ⟨by decide,Int.emod_one _⟩
   ·intro ⟨hp,_⟩
    cases hpl:plQ m with
    | false=>rw [hpl] at hp; exact absurd hp zd
    | true =>
     obtain ⟨hb,hc,ha⟩:=pl_iff.1 hpl
     have e1:powQ m 1=oneM:=by
      rw [pow_one']
      obtain ⟨a,b,c,d⟩:=m
      simp only at hb hc ha ht
      subst hb hc ha
      have:a=1:=by grind
      subst this
      rfl
     have:=zcr e1 (n+1)
     rwa [Nat.one_mul] at this
  ·have ht:m.a+m.d = -2:=ht
   constructor
   ·intro hp
    have ht2:=hone hp
    have ht2:trC (-2) (n+1)=2:=ht2
    rcases Nat.mod_two_eq_zero_or_one (n+1) with hm | hm
    ·obtain ⟨i,hi⟩:∃ i,n+1=2*i:=⟨(n+1)/2,by omega⟩
     rw [ht,hi,ch_m2] at hpow
     rw [hi] at hp
     rw [hp] at hpow
     simp only [MQ.mk.injEq] at hpow
     obtain ⟨e1,e2,e3,e4⟩:=hpow
     have hn:((i:Nat):Rat)≠0:=by
      have:i≠0:=by omega
      exact_mod_cast this
     generalize ((i:Nat):Rat)=z at *
     have hn2 : -(2*z)≠0:=by grind
     have hb:m.b=0:=by
      rcases Rat.mul_eq_zero.1 e2.symm with e | e
      ·exact absurd e hn2
      ·exact e
     have hc:m.c=0:=by
      rcases Rat.mul_eq_zero.1 e3.symm with e | e
      ·exact absurd e hn2
      ·exact e
     have ha:m.a=m.d:=by
      have : -(2*z)*(m.a-m.d)=0:=by grind
      rcases Rat.mul_eq_zero.1 this with e | e
      ·exact absurd e hn2
      ·grind
     rw [pl_iff.2 ⟨hb,hc,ha⟩]
     exact ⟨by decide,by show ((n+1:Nat):Int)%2=0; omega⟩
    ·obtain ⟨i,hi⟩:∃ i,n+1=2*i+1:=⟨(n+1)/2,by omega⟩
     rw [hi,tr_m2] at ht2
     exact absurd ht2 zd
   ·intro ⟨hp,hq⟩
    cases hpl:plQ m with
    | false=>rw [hpl] at hp; exact absurd hp zd
    | true =>
     rw [hpl] at hq
     have hq:((n+1:Nat):Int)%2=0:=hq
     obtain ⟨hb,hc,ha⟩:=pl_iff.1 hpl
     obtain ⟨i,hi⟩:∃ i,n+1=2*i:=⟨(n+1)/2,by omega⟩
     rw [hi]
     refine zcr ?_ i
     rw [zfd h 2,ht,show (2:Nat)=2*1 from rfl,ch_m2]
     obtain ⟨a,b,c,d⟩:=m
     simp only at hb hc ha ht
     subst hb hc ha
     have:a = -1:=by grind
     subst this
     have e:((1:Nat):Rat)=1:=rfl
     rw [e]
     simp only [MQ.mk.injEq]
     exact ⟨by grind,by grind,by grind,by grind⟩
  ·have ht:m.a+m.d = -1:=ht
   show _↔(3>(0:Int)∧((n+1:Nat):Int)%3=0)
   constructor
   ·intro hp
    have ht2:trC (-1) (n+1)=2:=hone hp
    refine ⟨by decide,?_⟩
    obtain ⟨h0,h1,h2⟩:=per3 ((n+1)/3)
    rcases show n+1=3*((n+1)/3)∨n+1=3*((n+1)/3)+1∨n+1=3*((n+1)/3)+2 by omega with e | e | e
    ·omega
    ·rw [e,h1] at ht2; exact absurd ht2 zd
    ·rw [e,h2] at ht2; exact absurd ht2 zd
   ·intro ⟨_,hq⟩
    obtain ⟨i,hi⟩:∃ i,n+1=3*i:=⟨(n+1)/3,by omega⟩
    rw [hi]
    refine zcr ?_ i
    rw [zfd h 3,ht,show chP (-1) 3=(-1,0) from by kernel_rfl]
    simp only [MQ.mk.injEq]
    exact ⟨by grind,by grind,by grind,by grind⟩
  ·have ht:m.a+m.d=0:=ht
   show _↔(4>(0:Int)∧((n+1:Nat):Int)%4=0)
   constructor
   ·intro hp
    have ht2:trC 0 (n+1)=2:=hone hp
    refine ⟨by decide,?_⟩
    obtain ⟨h0,h1,h2,h3⟩:=per4 ((n+1)/4)
    rcases show n+1=4*((n+1)/4)∨n+1=4*((n+1)/4)+1∨n+1=4*((n+1)/4)+2∨n+1=4*((n+1)/4)+3 by omega with e | e | e | e
    ·omega
    ·rw [e,h1] at ht2; exact absurd ht2 zd
    ·rw [e,h2] at ht2; exact absurd ht2 zd
    ·rw [e,h3] at ht2; exact absurd ht2 zd
   ·intro ⟨_,hq⟩
    obtain ⟨i,hi⟩:∃ i,n+1=4*i:=⟨(n+1)/4,by omega⟩
    rw [hi]
    refine zcr ?_ i
    rw [zfd h 4,ht,show chP 0 4=(-1,0) from by kernel_rfl]
    simp only [MQ.mk.injEq]
    exact ⟨by grind,by grind,by grind,by grind⟩
  ·have ht:m.a+m.d=1:=ht
   show _↔(6>(0:Int)∧((n+1:Nat):Int)%6=0)
   constructor
   ·intro hp
    have ht2:trC 1 (n+1)=2:=hone hp
    refine ⟨by decide,?_⟩
    obtain ⟨h0,h1,h2,h3,h4,h5⟩:=per6 ((n+1)/6)
    rcases show n+1=6*((n+1)/6)∨n+1=6*((n+1)/6)+1∨n+1=6*((n+1)/6)+2∨n+1=6*((n+1)/6)+3∨n+1=6*((n+1)/6)+4∨n+1=6*((n+1)/6)+5 by omega with e | e | e | e | e | e
    ·omega
    ·rw [e,h1] at ht2; exact absurd ht2 zd
    ·rw [e,h2] at ht2; exact absurd ht2 zd
    ·rw [e,h3] at ht2; exact absurd ht2 zd
    ·rw [e,h4] at ht2; exact absurd ht2 zd
    ·rw [e,h5] at ht2; exact absurd ht2 zd
   ·intro ⟨_,hq⟩
    obtain ⟨i,hi⟩:∃ i,n+1=6*i:=⟨(n+1)/6,by omega⟩
    rw [hi]
    refine zcr ?_ i
    rw [zfd h 6,ht,show chP 1 6=(-1,0) from by kernel_rfl]
    simp only [MQ.mk.injEq]
    exact ⟨by grind,by grind,by grind,by grind⟩
 ·have h0:orQ m=0:=by
   rw [orQ,trI,if_neg hs]
   rfl
  rw [h0]
  constructor
  ·intro hp
   exfalso
   rw [hp] at htr
   have ht2:trC (m.a+m.d) (n+1)=2:=by rw [← htr]; show (1:Rat)+1=2; grind
   have hd:=den_1 ht2
   exact tr_ne (num_out hd fun hh=>hs ⟨hd,hh⟩) n ht2
  ·intro ⟨hp,_⟩
   exact absurd hp zd
end Go.Proofs.YtagabklfjmchaaaGreat
namespace Go.Proofs.YtagabklfjmchaaaGreat
open Go Go.RowKit
namespace Rg
structure LeF where
 s:Nat
 T:TypeId
 H:Hd
 cr:Option Nat
 A0:As
 st:Option (Nat × ((Nat→Value)→As))
def LeF.on (ν:Nat→Value)(e:LeF):Le:=⟨e.s,e.T,e.H,e.cr,e.A0,match e.st with | none=>none | some (j,f)=>some (j,f ν)⟩
abbrev fam (ops:Array Oper)(N:Nat)(Γ:List (Nat × VA))(les:List LeF)(sp:List ((Nat→Value)→Sp))(anc:Nat→List Nat)(ν:Nat→Value):Rg:=⟨ops,N,Γ,les.map (LeF.on ν),sp.map (fun f=>f ν),anc⟩
def Dep {α:Type}(S:Nat→Bool)(f:(Nat→Value)→α):Prop:=∀ ν ν',(∀ k,S k=true→ν k=ν' k)→f ν=f ν'
def bef (anc:Nat→List Nat)(i k:Nat):Bool:=k==i || (anc i).contains k
def nuSet (ν:Nat→Value)(i:Nat)(v:Value):Nat→Value:=fun k=>if k=i then v else ν k
section
variable {ops:Array Oper} {N:Nat} {Γ:List (Nat × VA)} {les:List LeF} {sp:List ((Nat→Value)→Sp)} {anc:Nat→List Nat} {ν ν':Nat→Value} {B:Nat} {w0:Bs} {L:Nat→Bool} {a:Act} {w:World} {P:Program} {Q:Exit→Act→World→Prop} {i:Nat}
theorem zj9 {deps:List TypeId}:clash (fam ops N Γ les sp anc ν) L deps=clash (fam ops N Γ les sp anc ν') L deps:=by
 unfold clash
 show (les.map (LeF.on ν)).any _=(les.map (LeF.on ν')).any _
 rw [List.any_map,List.any_map]
 congr 1
 funext e
 obtain ⟨s,T,H,cr,A0,st⟩:=e
 cases st with
 | none=>rfl
 | some x=>rfl
theorem zjx (hdL:∀ e∈les,∀ j f,e.st=some (j,f)→Dep (bef anc j) f)(hc:Closed (fam ops N Γ les sp anc ν) L)(hn:∀ k,L k=true→ν k=ν' k){e:LeF}(he:e∈les):cur L (e.on ν)=cur L (e.on ν'):=by
 obtain ⟨s,T,H,cr,A0,st⟩:=e
 cases st with
 | none=>rfl
 | some x =>
  obtain ⟨j,f⟩:=x
  show (if crOk L cr=true then some (if L j=true then f ν else A0) else none)=(if crOk L cr=true then some (if L j=true then f ν' else A0) else none)
  cases hj:L j with
  | false=>rfl
  | true =>
   have:f ν=f ν':=hdL _ he j f rfl ν ν' fun k hk=>hn k (by
    simp only [bef,Bool.or_eq_true,beq_iff_eq] at hk
    rcases hk with rfl | hk
    ·exact hj
    ·exact hc j hj k hk)
   rw [this]
theorem sp_fam (hdS:∀ i f,sp[i]?=some f→Dep (bef anc i) f)(hc:Closed (fam ops N Γ les sp anc ν) L)(hn:∀ k,L k=true→ν k=ν' k){j:Nat}(hj:L j=true):(sp.map fun f=>f ν')[j]?=(sp.map fun f=>f ν)[j]?:=by
 rw [List.getElem?_map,List.getElem?_map]
 cases hs:sp[j]? with
 | none=>rfl
 | some f =>
  have:f ν=f ν':=hdS j f hs ν ν' fun k hk=>hn k (by
   simp only [bef,Bool.or_eq_true,beq_iff_eq] at hk
   rcases hk with rfl | hk
   ·exact hj
   ·exact hc j hj k hk)
  show some (f ν')=some (f ν)
  rw [this]
theorem Inv.nu (hdS:∀ i f,sp[i]?=some f→Dep (bef anc i) f)(hdL:∀ e∈les,∀ j f,e.st=some (j,f)→Dep (bef anc j) f)(hc:Closed (fam ops N Γ les sp anc ν) L)(hn:∀ k,L k=true→ν k=ν' k)(h:(fam ops N Γ les sp anc ν).Inv B w0 L a w):(fam ops N Γ les sp anc ν').Inv B w0 L a w:=by
 refine ⟨h.lo,h.defers,h.size,h.base,fun x hx h1 h2=>h.g x hx h1 (by rw [zj9 (ν':=ν')]; exact h2),fun i y d A hs hv hL h2=>?_,fun i d b k c hs hL hc'=>?_,fun e he A hA=>?_,fun e he f hf hne h1 h2=>?_⟩
 ·exact h.v i y d A (by rw [← hs]; exact (sp_fam hdS hc hn hL).symm) hv hL (by rw [zj9 (ν':=ν')]; exact h2)
 ·exact h.d i d b k c (by rw [← hs]; exact (sp_fam hdS hc hn hL).symm) hL hc'
 ·obtain ⟨e0,he0,rfl⟩:=List.mem_map.1 he
  exact h.c (e0.on ν) (List.mem_map.2 ⟨e0,he0,rfl⟩) A (by rw [zjx hdL hc hn he0]; exact hA)
 ·obtain ⟨e0,he0,rfl⟩:=List.mem_map.1 he
  obtain ⟨f0,hf0,rfl⟩:=List.mem_map.1 hf
  exact h.x (e0.on ν) (List.mem_map.2 ⟨e0,he0,rfl⟩) (f0.on ν) (List.mem_map.2 ⟨f0,hf0,rfl⟩) hne (by rw [zjx hdL hc hn he0]; exact h1) (by rw [zjx hdL hc hn hf0]; exact h2)
def ObF (P:Program)(Q:Exit→Act→World→Prop)(ops:Array Oper)(N:Nat)(Γ:List (Nat × VA))(les:List LeF)(sp:List ((Nat→Value)→Sp))(anc:Nat→List Nat)(B:Nat)(w0:Bs)(i:Nat):Prop :=
 (∀ ν,(fam ops N Γ les sp anc ν).Ob P Q B w0 i)∨∃ (d:Nat) (A:(Nat→Value)→VA),sp[i]?=some (fun ν=>.val d (A ν))∧∀ ν a w,(fam ops N Γ les sp anc ν).Av B w0 i a w→∀ K:Act→World→Prop,(∀ v w',Grow w w'→(A (nuSet ν i v)).p B v w'→K (a.put (some d) v) w')→wpOp P ops Q i K a w
end
def DepS (anc:Nat→List Nat):Nat→List ((Nat→Value)→Sp)→Prop
 | _,[]=>True
 | k,f::l=>Dep (bef anc k) f∧DepS anc (k+1) l
theorem DepS.at {anc:Nat→List Nat}:∀ {l:List ((Nat→Value)→Sp)} {k:Nat},DepS anc k l→∀ i f,l[i]?=some f→Dep (bef anc (k+i)) f
 | g::l,k,h,0,f,hf=>by
  simp at hf
  subst hf
  exact h.1
 | g::l,k,h,i+1,f,hf=>by
  have:=DepS.at h.2 i f (by simpa using hf)
  rwa [show k+1+i=k+(i+1) by omega] at this
def DepL (anc:Nat→List Nat):List LeF→Prop
 | []=>True
 | e::l=>(match e.st with | none=>True | some (j,f)=>Dep (bef anc j) f)∧DepL anc l
theorem DepL.mem {anc:Nat→List Nat}:∀ {l:List LeF},DepL anc l→∀ e∈l,∀ j f,e.st=some (j,f)→Dep (bef anc j) f
 | g::l,h,e,he,j,f,hf=>by
  rcases List.mem_cons.1 he with rfl | he
  ·have h1:=h.1
   rw [hf] at h1
   exact h1
  ·exact DepL.mem h.2 e he j f hf
end Rg
open Rg in
def ObsF (P:Program)(Q:Exit→Act→World→Prop)(ops:Array Oper)(N:Nat)(Γ:List (Nat × VA))(les:List LeF)(sp:List ((Nat→Value)→Sp))(anc:Nat→List Nat)(B:Nat)(w0:Bs):Nat→Nat→Prop
 | _,0=>True
 | k,m+1=>ObF P Q ops N Γ les sp anc B w0 k∧ObsF P Q ops N Γ les sp anc B w0 (k+1) m
open Rg in
theorem ObsF.all {P:Program}{Q:Exit→Act→World→Prop}{ops:Array Oper}{N:Nat}{Γ:List (Nat × VA)}{les:List LeF}{sp:List ((Nat→Value)→Sp)}{anc:Nat→List Nat}{B:Nat}{w0:Bs}{k m:Nat}(h:ObsF P Q ops N Γ les sp anc B w0 k m):∀ j,k≤j→j<k+m→ObF P Q ops N Γ les sp anc B w0 j:=by
 induction m generalizing k with
 | zero=>intro j h1 h2; omega
 | succ m ih =>
  intro j h1 h2
  by_cases hj:j=k
  ·subst hj; exact h.1
  ·exact ih h.2 j zo zo
section
open Rg
variable {P:Program} {Q:Exit→Act→World→Prop} {B N:Nat} {w0:Bs} {Γ:List (Nat × VA)} {Λ:List Lc} {a:Act} {w:World}
variable {ops:Array Oper} {les:List LeF} {sp:List ((Nat→Value)→Sp)} {anc:Nat→List Nat} {i:Nat}
end
end Go.Proofs.YtagabklfjmchaaaGreat
namespace Go.Proofs.YtagabklfjmchaaaGreat
open Go Go.RowKit
section
variable {a b:Nat} {p q:Int} (ha:a≤549755813888)
include ha
variable (hb:b≤549755813888)
include hb
end
end Go.Proofs.YtagabklfjmchaaaGreat
namespace Go.Proofs.YtagabklfjmchaaaGreat
open Go Go.RowKit
end Go.Proofs.YtagabklfjmchaaaGreat
