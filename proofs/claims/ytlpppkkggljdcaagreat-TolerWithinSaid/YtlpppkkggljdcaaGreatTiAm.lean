import Derived.Test.YtlpppkkggljdcaaGreatTiAa
import Derived.Test.YtlpppkkggljdcaaGreatTiAc
import Derived.Test.YtlpppkkggljdcaaGreatTiAl
import Derived.ProofKit
import Derived.OpenShut
import Derived.ChangeOld
import Derived.Below
import Derived.WalkKit
set_option linter.unusedVariables false
set_option linter.unusedSimpArgs false
set_option linter.unusedSectionVars false
set_option maxRecDepth 100000
namespace Go.Proofs.YtlpppkkggljdcaaGreat
open Go Go.RowKit
structure RG where
 re:RF
 im:RF
 deriving DecidableEq
structure RM where
 a:RF
 b:RF
 c:RF
 d:RF
 deriving DecidableEq
structure RR where
 y:RF
 u:RF
 deriving DecidableEq
structure GQ where
 re:Rat
 im:Rat
 deriving DecidableEq
structure MQ where
 a:Rat
 b:Rat
 c:Rat
 d:Rat
 deriving DecidableEq
structure YQ where
 y:Rat
 u:Rat
 deriving DecidableEq
def RMA (x:RM):As:=cat [RFA x.a,RFA x.b,RFA x.c,RFA x.d]
def QMA (k:Nat)(x:MQ):As:=cat [QA k x.a,QA k x.b,QA k x.c,QA k x.d]
abbrev rm0:RM:=⟨rf0,rf0,rf0,rf0⟩
def rmOf (m:MQ):RM:=⟨rfOf m.a,rfOf m.b,rfOf m.c,rfOf m.d⟩
def toM (x:RM):MQ:=⟨toQ x.a,toQ x.b,toQ x.c,toQ x.d⟩
def detM (m:MQ):Rat:=m.a*m.d-m.b*m.c
theorem qa_x {k:Nat}{x:RF}(h:okX x=true)(hk:2048≤k):WkA (RFA x) (QA k (toQ x)):=by
 obtain ⟨h1,h2,h3⟩:=zh9 h
 exact (zhu (congrArg RFA h1)).trans (zga (Nat.le_trans h2 hk) (Nat.le_trans h3 hk))
theorem qm_x {x:RM}(h:[x.a,x.b,x.c,x.d].all okX=true):WkA (RMA x) (QMA 2048 (toM x)):=by
 simp only [List.all_cons,List.all_nil,Bool.and_true,Bool.and_eq_true] at h
 exact zc7 (.cons (qa_x h.1 (Nat.le_refl _)) (.cons (qa_x h.2.1 (Nat.le_refl _)) (.cons (qa_x h.2.2.1 (Nat.le_refl _)) (.cons (qa_x h.2.2.2 (Nat.le_refl _)) .nil))))
theorem qmA {k:Nat}{x:MQ}:WkA (QMA k x) (RMA (rmOf x)):=zc7 (.cons qaA (.cons qaA (.cons qaA (.cons qaA .nil))))
def okM (m:RM):Bool:=[m.a,m.b,m.c,m.d].all okX&&decide (detM (toM m)=1)
theorem cm_ne {x y:Rat}:(cmQ x y != 0) = !decide (x=y):=by
 unfold cmQ
 by_cases h:x<y
 ·rw [if_pos h]; simp [Rat.ne_of_lt h]
 ·rw [if_neg h]
  by_cases h2:y<x
  ·rw [if_pos h2]; simp [Rat.ne_of_gt h2]
  ·rw [if_neg h2]
   have:x=y:=Rat.le_antisymm (Rat.not_lt.1 h2) (Rat.not_lt.1 h)
   simp [this]
theorem cm_eq {x y:Rat}:(cmQ x y==0)=decide (x=y):=by
 have:=cm_ne (x:=x) (y:=y)
 simp only [bne] at this
 cases h:cmQ x y==0 <;> cases h2:decide (x=y) <;> simp_all
theorem all4 {m:RM}(h:(![m.a,m.b,m.c,m.d].all okX)=false):[m.a,m.b,m.c,m.d].all okX=true:=by simpa using h
theorem zaw:Str Tryz.prog 56 [RFA rf0,RFA rf0,RFA rf0,RFA rf0] :=
 Str.of (z:=.agg #[.bool false,.slice none 0 0,.bool false,.slice none 0 0,.bool false,.slice none 0 0,.bool false,.slice none 0 0,.bool false,.slice none 0 0,.bool false,.slice none 0 0,.bool false,.slice none 0 0,.bool false,.slice none 0 0]) zk Tryz.underlying56 zk fun B w=>⟨[[.bool false,.slice none 0 0,.bool false,.slice none 0 0],[.bool false,.slice none 0 0,.bool false,.slice none 0 0],[.bool false,.slice none 0 0,.bool false,.slice none 0 0],[.bool false,.slice none 0 0,.bool false,.slice none 0 0]],rfl,(.cons (zh4 B w) (.cons (zh4 B w) (.cons (zh4 B w) (.cons (zh4 B w) .nil))))⟩
theorem rdet_q {c d e f:Nat}{x y z u:Rat}(hk:c+d+e+f≤137438953472):Cn Tryz.prog 101 [Qs c x,Qs d y,Qs e z,Qs f u] (Qs (c+f+(d+e)+1) (x*u-y*z)):=by
 refine Cn.intro Tryz.func101 rfl zk nq (fun B w0 a hst=>?_)
 have hst:St B w0 16 [(0,Qs c x),(1,Qs d y),(2,Qs e z),(3,Qs f u)] [] a w0.w:=hst
 refine wp_seq ?_
 refine gl (sts:=[]) (news:=[⟨4,37,ptrH,some 0,_,none⟩,⟨5,37,ptrH,some 1,_,none⟩,⟨6,37,ptrH,some 2,_,none⟩,⟨7,37,ptrH,some 3,_,none⟩,⟨8,37,ptrH,some 4,_,none⟩]) (sp:=[.alc 0,.alc 1,.alc 2,.alc 3,.alc 4]) [] hst (oc (zak rfl rfl rfl (gq 0 rfl)) (oc (zak rfl rfl rfl (gq 1 rfl)) (oc (zak rfl rfl rfl (gq 2 rfl)) (oc (zak rfl rfl rfl (gq 3 rfl)) (oc (zag rfl rfl rfl (Str.zero zam)) o0))))) (fun a w hst=>?_)
 have hst:St B w0 16 [] [⟨4,37,ptrH,_⟩,⟨5,37,ptrH,_⟩,⟨6,37,ptrH,_⟩,⟨7,37,ptrH,_⟩,⟨8,37,ptrH,_⟩] a w:=hst
 refine zt<|zav (anc:=[[],[],[0,1],[],[],[0,1,2,3,4],[0,1,2,3,4,5],[0,1,2,3,4,5,6]]) (sts:=[none,none,none,none,some (7,_)]) (news:=[]) (sp:=[.val 9 _,.val 10 _,.val 11 _,.val 12 _,.val 13 _,.val 14 _,.val 15 _,.sto 4]) [] za6 hst (zv rfl (zac (lz0 0 rfl) za7) (zv rfl (zac (lz0 3 rfl) za7) (zv rfl (za5 (xs:=[.tmp 9,.tmp 10]) (zds zo) (.cons (vq 0 rfl) (.cons (vq 1 rfl) .nil))) (zv rfl (zac (lz0 1 rfl) za7) (zv rfl (zac (lz0 2 rfl) za7) (zv rfl (za5 (xs:=[.tmp 12,.tmp 13]) (zds zo) (.cons (vq 3 rfl) (.cons (vq 4 rfl) .nil))) (zv rfl (za5 (xs:=[.tmp 11,.tmp 14]) (zj3 zo) (.cons (vq 2 rfl) (.cons (vq 5 rfl) .nil))) (oc (za9 rfl rfl rfl (vq 6 rfl) za7 (Eq.trans (b:=4) rfl rfl)) o0)))))))) zk zk zk zk (fun a w hst=>?_)
 have hst:St B w0 16 [] [⟨4,37,ptrH,_⟩,⟨5,37,ptrH,_⟩,⟨6,37,ptrH,_⟩,⟨7,37,ptrH,_⟩,⟨8,37,ptrH,_⟩] a w:=hst
 refine za0 ?_
 refine wp_ret ?_
 refine zad ?_ (zao rfl hst (zm 4 rfl) za7)
 exact zay
theorem chkM_yes {m:RM}(h:((![m.a,m.b,m.c,m.d].all okX) || (cmQ (toQ m.a*toQ m.d-toQ m.b*toQ m.c) 1 != 0))=true):(1:Int)=if okM m then 0 else 1:=by
 have:okM m=false:=by
  unfold okM
  rw [cm_ne] at h
  show ([m.a,m.b,m.c,m.d].all okX&&decide (toQ m.a*toQ m.d-toQ m.b*toQ m.c=1))=false
  cases h1:[m.a,m.b,m.c,m.d].all okX
  ·rfl
  ·rw [h1] at h; simpa using h
 rw [this]; rfl
theorem chkM_no {m:RM}(h:((![m.a,m.b,m.c,m.d].all okX) || (cmQ (toQ m.a*toQ m.d-toQ m.b*toQ m.c) 1 != 0))=false):(0:Int)=if okM m then 0 else 1:=by
 have:okM m=true:=by
  unfold okM
  rw [cm_ne] at h
  show ([m.a,m.b,m.c,m.d].all okX&&decide (toQ m.a*toQ m.d-toQ m.b*toQ m.c=1))=true
  cases h1:[m.a,m.b,m.c,m.d].all okX
  ·rw [h1] at h; simp at h
  ·rw [h1] at h; simpa using h
 rw [this]; rfl
theorem det_x {m:RM}(h:(![m.a,m.b,m.c,m.d].all okX)=false):Cn Tryz.prog 101 [(RFA m.a).va,(RFA m.b).va,(RFA m.c).va,(RFA m.d).va] (Qs 8193 (toQ m.a*toQ m.d-toQ m.b*toQ m.c)):=by
 have h4:=all4 h
 simp only [List.all_cons,List.all_nil,Bool.and_true,Bool.and_eq_true] at h4
 exact (rdet_q (c:=2048) (d:=2048) (e:=2048) (f:=2048) zd).wk (.cons (qa_x h4.1 (Nat.le_refl _)).va (.cons (qa_x h4.2.1 (Nat.le_refl _)).va (.cons (qa_x h4.2.2.1 (Nat.le_refl _)).va (.cons (qa_x h4.2.2.2 (Nat.le_refl _)).va .nil))))
theorem zi0 (m:RM):Cn Tryz.prog 64 [(RMA m).va] (In (if okM m then 0 else 1)):=by
 refine Cn.intro Tryz.func64 rfl zk nq (fun B w0 a hst=>?_)
 have hst:St B w0 28 [(0,(RMA m).va)] [] a w0.w:=hst
 refine wp_seq ?_
 refine gl (sts:=[]) (news:=[⟨1,56,ptrH,some 0,_,none⟩]) (sp:=[.alc 0,.val 2 _]) [.o 1] hst (oc (zak rfl rfl rfl (gq 0 rfl)) (zv rfl (za1 za3) o0)) (fun a w hst=>?_)
 have hst:St B w0 28 [(2,_)] [⟨1,56,ptrH,_⟩] a w:=hst
 refine zt ?_
 refine wp_seq ?_
 refine gl (sts:=[none]) (news:=[]) (sp:=((.adr 3 1 (.some 0) True:Sp)::(.val 4 _)::(.adr 5 1 (.some 4) True)::(.val 6 _)::(.adr 7 1 (.some 8) True)::(.val 8 _)::(.adr 9 1 (.some 12) True)::(.val 10 _)::(.val 11 _)::(.val 12 _)::(.val 13 _)::(.val 14 _)::(.adr 15 1 (.some 0) (_=false))::(.val 16 (Wh (_=false) _))::(.adr 17 1 (.some 4) (_=false))::(.val 18 (Wh (_=false) _))::(.adr 19 1 (.some 8) (_=false))::(.val 20 (Wh (_=false) _))::(.adr 21 1 (.some 12) (_=false))::(.val 22 (Wh (_=false) _))::(.val 23 (Wh (_=false) _))::(.val 24 (Wh (_=false) _))::(.val 25 (Wh (_=false) _))::(.val 26 (Wh (_=false) _))::(.val 27 _)::[])) [.g 0,.o 24] hst (oc (ob_a rfl rfl (za8 (lz0 0 rfl) zbu)) (zv rfl (za4 0 rfl zk trivial (lz0 0 rfl) (Sub.part 0 rfl rfl) za7) (oc (ob_a rfl rfl (za8 (lz0 0 rfl) zc6)) (zv rfl (za4 2 rfl zk trivial (lz0 0 rfl) (Sub.part 1 rfl rfl) za7) (oc (ob_a rfl rfl (za8 (lz0 0 rfl) zbt)) (zv rfl (za4 4 rfl zk trivial (lz0 0 rfl) (Sub.part 2 rfl rfl) za7) (oc (ob_a rfl rfl (za8 (lz0 0 rfl) zc0)) (zv rfl (za4 6 rfl zk trivial (lz0 0 rfl) (Sub.part 3 rfl rfl) za7) (zv rfl (zc5 (D:=[U32]) (l:=[_,_,_,_]) (xs:=[.tmp 4,.tmp 6,.tmp 8,.tmp 10]) (zdt zk) zdf zk (n_ok zk) nq nq nq (.cons (vq 1 rfl) (.cons (vq 3 rfl) (.cons (vq 5 rfl) (.cons (vq 7 rfl) .nil)))) rfl rfl) (zv rfl (za5 (xs:=[.tmp 11]) (zdr [m.a,m.b,m.c,m.d] nq) (.cons (vq 8 rfl) .nil)) (zv rfl (zdl (vq 9 rfl)) (zv rfl (za2 (vq 10 rfl)) (oc (zd5 rfl rfl rfl (vq 11 rfl) nq (fun hg=>za8 (lz0 0 rfl) zbu)) (oc (zan rfl rfl rfl (vq 11 rfl) nq (fun hg=>za4 12 rfl zk hg (lz0 0 rfl) (Sub.part 0 rfl rfl) za7)) (oc (zd5 rfl rfl rfl (vq 11 rfl) nq (fun hg=>za8 (lz0 0 rfl) zc6)) (oc (zan rfl rfl rfl (vq 11 rfl) nq (fun hg=>za4 14 rfl zk hg (lz0 0 rfl) (Sub.part 1 rfl rfl) za7)) (oc (zd5 rfl rfl rfl (vq 11 rfl) nq (fun hg=>za8 (lz0 0 rfl) zbt)) (oc (zan rfl rfl rfl (vq 11 rfl) nq (fun hg=>za4 16 rfl zk hg (lz0 0 rfl) (Sub.part 2 rfl rfl) za7)) (oc (zd5 rfl rfl rfl (vq 11 rfl) nq (fun hg=>za8 (lz0 0 rfl) zc0)) (oc (zan rfl rfl rfl (vq 11 rfl) nq (fun hg=>za4 18 rfl zk hg (lz0 0 rfl) (Sub.part 3 rfl rfl) za7)) (oc (zan rfl rfl rfl (vq 11 rfl) nq (fun hg=>za5 (xs:=[.tmp 16,.tmp 18,.tmp 20,.tmp 22]) (det_x hg) (.cons (zah (vq 13 rfl) hg) (.cons (zah (vq 15 rfl) hg) (.cons (zah (vq 17 rfl) hg) (.cons (zah (vq 19 rfl) hg) .nil)))))) (oc (zan rfl rfl rfl (vq 11 rfl) nq (fun hg=>za5 (xs:=[]) one_q .nil)) (oc (zan rfl rfl rfl (vq 11 rfl) nq (fun hg=>za5 (xs:=[.tmp 23,.tmp 24]) (zhr zo) (.cons (zah (vq 20 rfl) hg) (.cons (zah (vq 21 rfl) hg) .nil)))) (oc (zan rfl rfl rfl (vq 11 rfl) nq (fun hg=>zcf (zah (vq 22 rfl) hg) za3)) (zv rfl (r_or (vq 11 rfl) (vq 23 rfl)) o0))))))))))))))))))))))))) (fun a w hst=>?_)
 have hst:St B w0 28 [(2,_),(27,_)] [⟨1,56,ptrH,_⟩] a w:=hst
 refine za0 ?_
 refine zaa hst (zm 1 rfl) (fun hb0=>?_) (fun hb0=>?_)
 ·refine wp_seq ?_
  refine gl (sts:=[none]) (news:=[]) (sp:=[.val 2 _]) [.o 0] hst (zv rfl (za1 za3) o0) (fun a w hst=>?_)
  have hst:St B w0 28 [(2,_)] [⟨1,56,ptrH,_⟩] a w:=hst
  refine za0 ?_
  refine wp_ret ?_
  refine zaf ?_
  refine zad ?_ (zaj rfl hst (zm 0 rfl))
  exact zcp (congrArg In (chkM_yes hb0))
 ·refine wp_skip ?_
  refine zt<|gl (sts:=[none]) (news:=[]) (sp:=[.val 2 _]) [.o 0] hst (zv rfl (za1 za3) o0) (fun a w hst=>?_)
  have hst:St B w0 28 [(2,_)] [⟨1,56,ptrH,_⟩] a w:=hst
  refine za0 ?_
  refine wp_ret ?_
  refine zad ?_ (zaj rfl hst (zm 0 rfl))
  exact zcp (congrArg In (chkM_no hb0))
theorem rowDet_q {c:Nat}{m:MQ}(hk:c≤137438953472):Cn Tryz.prog 104 [(QMA c m).va] (Qs (c+c+(c+c)+1) (detM m)):=by
 refine Cn.intro Tryz.func104 rfl zk nq (fun B w0 a hst=>?_)
 have hst:St B w0 14 [(0,(QMA c m).va)] [] a w0.w:=hst
 refine wp_seq ?_
 refine gl (sts:=[]) (news:=[⟨1,56,ptrH,some 0,_,none⟩,⟨2,37,ptrH,some 1,_,none⟩]) (sp:=[.alc 0,.alc 1]) [] hst (oc (zak rfl rfl rfl (gq 0 rfl)) (oc (zag rfl rfl rfl (Str.zero zam)) o0)) (fun a w hst=>?_)
 have hst:St B w0 14 [] [⟨1,56,ptrH,_⟩,⟨2,37,ptrH,_⟩] a w:=hst
 refine zt<|zav (anc:=[[],[0],[],[2],[0,1,2,3],[],[5],[],[7],[0,1,2,3,4,5,6,7,8],[0,1,2,3,4,5,6,7,8,9],[0,1,2,3,4,5,6,7,8,9,10]]) (sts:=[none,some (11,_)]) (news:=[]) (sp:=[.adr 3 1 (.some 0) True,.val 4 _,.adr 5 1 (.some 12) True,.val 6 _,.val 7 _,.adr 8 1 (.some 4) True,.val 9 _,.adr 10 1 (.some 8) True,.val 11 _,.val 12 _,.val 13 _,.sto 1]) [] za6 hst (oc (ob_a rfl rfl (za8 (lz0 0 rfl) zbu)) (zv rfl (za4 0 rfl zk trivial (lz0 0 rfl) (Sub.part 0 rfl rfl) za7) (oc (ob_a rfl rfl (za8 (lz0 0 rfl) zc0)) (zv rfl (za4 2 rfl zk trivial (lz0 0 rfl) (Sub.part 3 rfl rfl) za7) (zv rfl (za5 (xs:=[.tmp 4,.tmp 6]) (zds zo) (.cons (vq 1 rfl) (.cons (vq 3 rfl) .nil))) (oc (ob_a rfl rfl (za8 (lz0 0 rfl) zc6)) (zv rfl (za4 5 rfl zk trivial (lz0 0 rfl) (Sub.part 1 rfl rfl) za7) (oc (ob_a rfl rfl (za8 (lz0 0 rfl) zbt)) (zv rfl (za4 7 rfl zk trivial (lz0 0 rfl) (Sub.part 2 rfl rfl) za7) (zv rfl (za5 (xs:=[.tmp 9,.tmp 11]) (zds zo) (.cons (vq 6 rfl) (.cons (vq 8 rfl) .nil))) (zv rfl (za5 (xs:=[.tmp 7,.tmp 12]) (zj3 zo) (.cons (vq 4 rfl) (.cons (vq 9 rfl) .nil))) (oc (za9 rfl rfl rfl (vq 10 rfl) za7 (Eq.trans (b:=4) rfl rfl)) o0)))))))))))) zk zk zk zk (fun a w hst=>?_)
 have hst:St B w0 14 [] [⟨1,56,ptrH,_⟩,⟨2,37,ptrH,_⟩] a w:=hst
 refine za0 ?_
 refine wp_ret ?_
 refine zad ?_ (zao rfl hst (zm 1 rfl) za7)
 exact zay
theorem rowDet_x {m:RM}(h:[m.a,m.b,m.c,m.d].all okX=true):Cn Tryz.prog 104 [(RMA m).va] (Qs 8193 (detM (toM m))):=(rowDet_q (c:=2048) zd).wk (.cons (qm_x h).va .nil)
theorem may_e {m:RM}:Bo ([m.a,m.b,m.c,m.d].all okX&&(cmQ (detM (toM m)) 1==0))=Bo (okM m):=by rw [cm_eq]; rfl
theorem rowMay_c (m:RM):Cn Tryz.prog 67 [(RMA m).va] (Bo (okM m)):=by
 refine Cn.intro Tryz.func67 rfl zk nq (fun B w0 a hst=>?_)
 have hst:St B w0 20 [(0,(RMA m).va)] [] a w0.w:=hst
 refine wp_seq ?_
 refine gl (sts:=[]) (news:=[⟨1,56,ptrH,some 0,_,none⟩]) (sp:=[.alc 0,.val 2 _]) [.o 1] hst (oc (zak rfl rfl rfl (gq 0 rfl)) (zv rfl (za1 zbk) o0)) (fun a w hst=>?_)
 have hst:St B w0 20 [(2,_)] [⟨1,56,ptrH,_⟩] a w:=hst
 refine zt<|gl (sts:=[none]) (news:=[]) (sp:=[.adr 3 1 (.some 0) True,.val 4 _,.adr 5 1 (.some 4) True,.val 6 _,.adr 7 1 (.some 8) True,.val 8 _,.adr 9 1 (.some 12) True,.val 10 _,.val 11 _,.val 12 _,.val 13 _,.val 14 (Wh (_=true) _),.val 15 (Wh (_=true) _),.val 16 (Wh (_=true) _),.val 17 (Wh (_=true) _),.val 18 (Wh (_=true) _),.val 19 _,.val 2 _]) [.o 17] hst (oc (ob_a rfl rfl (za8 (lz0 0 rfl) zbu)) (zv rfl (za4 0 rfl zk trivial (lz0 0 rfl) (Sub.part 0 rfl rfl) za7) (oc (ob_a rfl rfl (za8 (lz0 0 rfl) zc6)) (zv rfl (za4 2 rfl zk trivial (lz0 0 rfl) (Sub.part 1 rfl rfl) za7) (oc (ob_a rfl rfl (za8 (lz0 0 rfl) zbt)) (zv rfl (za4 4 rfl zk trivial (lz0 0 rfl) (Sub.part 2 rfl rfl) za7) (oc (ob_a rfl rfl (za8 (lz0 0 rfl) zc0)) (zv rfl (za4 6 rfl zk trivial (lz0 0 rfl) (Sub.part 3 rfl rfl) za7) (zv rfl (zc5 (D:=[U32]) (l:=[_,_,_,_]) (xs:=[.tmp 4,.tmp 6,.tmp 8,.tmp 10]) (zdt zk) zdf zk (n_ok zk) nq nq nq (.cons (vq 1 rfl) (.cons (vq 3 rfl) (.cons (vq 5 rfl) (.cons (vq 7 rfl) .nil)))) rfl rfl) (zv rfl (za5 (xs:=[.tmp 11]) (zdr [m.a,m.b,m.c,m.d] nq) (.cons (vq 8 rfl) .nil)) (zv rfl (za2 (vq 9 rfl)) (oc (zan rfl rfl rfl (vq 10 rfl) nq (fun hg=>zac (lz0 0 rfl) zbc)) (oc (zan rfl rfl rfl (vq 10 rfl) nq (fun hg=>za5 (xs:=[.tmp 14]) (rowDet_x hg) (.cons (zah (vq 11 rfl) hg) .nil))) (oc (zan rfl rfl rfl (vq 10 rfl) nq (fun hg=>za5 (xs:=[]) one_q .nil)) (oc (zan rfl rfl rfl (vq 10 rfl) nq (fun hg=>za5 (xs:=[.tmp 15,.tmp 16]) (zhr zo) (.cons (zah (vq 12 rfl) hg) (.cons (zah (vq 13 rfl) hg) .nil)))) (oc (zan rfl rfl rfl (vq 10 rfl) nq (fun hg=>zcc (zah (vq 14 rfl) hg) za3)) (zv rfl (zcq (vq 10 rfl) (vq 15 rfl)) (zv rfl (za1 (vq 16 rfl)) o0)))))))))))))))))) (fun a w hst=>?_)
 have hst:St B w0 20 [(2,_)] [⟨1,56,ptrH,_⟩] a w:=hst
 refine za0 ?_
 refine wp_ret ?_
 refine zad ?_ (zaj rfl hst (zm 0 rfl))
 exact zcp may_e
end Go.Proofs.YtlpppkkggljdcaaGreat
namespace Go.Proofs.YtlpppkkggljdcaaGreat
open Go Go.RowKit
theorem okM_q {m:RM}(h:okM m=true):[m.a,m.b,m.c,m.d].all okX=true∧detM (toM m)=1:=by
 unfold okM at h
 rw [Bool.and_eq_true,decide_eq_true_eq] at h
 exact h
end Go.Proofs.YtlpppkkggljdcaaGreat
namespace Go.Proofs.YtlpppkkggljdcaaGreat
open Go Go.RowKit
def intSizeF (x:RI):Int:=IntKind.i64.wrap (1+(x.mag.length:Int))
def fracSizeF (x:RF):Int:=IntKind.i64.wrap (intSizeF x.num+intSizeF x.den)
theorem wi_nx {j m:Nat}(h:j<m)(hm:m≤9223372036854775807):IntKind.i64.wrap ((j:Int)+1)=((j+1:Nat):Int):=by rw [wi64 zo zo]; rfl
theorem slA_len {E:TypeId}{D:List TypeId}{l:List As}{B:Nat}{v:Value}{w:World}(h:(SlA E D l).va.p B v w):l.length≤9223372036854775807:=by
 obtain ⟨cs,⟨_,A,c,ds,_,h1,h2,_⟩,_⟩:=h
 unfold maxLen at h2
 omega
theorem slA_lenm {E:TypeId}{D:List TypeId}{α:Type}{f:α→As}{l:List α}{B:Nat}{v:Value}{w:World}(h:(SlA E D (l.map f)).va.p B v w):l.length≤9223372036854775807:=by
 have:=slA_len h
 rwa [List.length_map] at this
theorem zk6 (x:RI):Cn Tryz.prog 137 [(RIA x).va] (In (intSizeF x)):=by
 refine Cn.intro Tryz.func137 rfl zk nq (fun B w0 a hst=>?_)
 have hst:St B w0 7 [(0,(RIA x).va)] [] a w0.w:=hst
 refine wp_seq ?_
 refine gl (sts:=[]) (news:=[⟨1,35,ptrH,some 0,_,none⟩]) (sp:=[.alc 0,.val 2 _]) [.o 1] hst (oc (zak rfl rfl rfl (gq 0 rfl)) (zv rfl (za1 za3) o0)) (fun a w hst=>?_)
 have hst:St B w0 7 [(2,_)] [⟨1,35,ptrH,_⟩] a w:=hst
 refine zt<|gl (sts:=[none]) (news:=[]) (sp:=[.adr 3 1 (.some 1) True,.val 4 _,.val 5 _,.val 6 _,.val 2 _]) [.o 4] hst (oc (ob_a rfl rfl (za8 (lz0 0 rfl) zas)) (zv rfl (za4 0 rfl zk trivial (lz0 0 rfl) (Sub.part 1 rfl rfl) zbr) (zv rfl (zb7 Tryz.underlying33 (vq 1 rfl)) (zv rfl (zbd za3 (vq 2 rfl) (rfl)) (zv rfl (za1 (vq 3 rfl)) o0))))) (fun a w hst=>?_)
 have hst:St B w0 7 [(2,_)] [⟨1,35,ptrH,_⟩] a w:=hst
 refine za0 ?_
 refine wp_ret ?_
 refine zad ?_ (zaj rfl hst (zm 0 rfl))
 exact zay
theorem zi5 (x:RF):Cn Tryz.prog 105 [(RFA x).va] (In (fracSizeF x)):=by
 refine Cn.intro Tryz.func105 rfl zk nq (fun B w0 a hst=>?_)
 have hst:St B w0 10 [(0,(RFA x).va)] [] a w0.w:=hst
 refine wp_seq ?_
 refine gl (sts:=[]) (news:=[⟨1,37,ptrH,some 0,_,none⟩]) (sp:=[.alc 0,.val 2 _]) [.o 1] hst (oc (zak rfl rfl rfl (gq 0 rfl)) (zv rfl (za1 za3) o0)) (fun a w hst=>?_)
 have hst:St B w0 10 [(2,_)] [⟨1,37,ptrH,_⟩] a w:=hst
 refine zt<|zav (anc:=[[],[0],[0,1],[],[3],[0,1,2,3,4],[0,1,2,3,4,5],[0,1,2,3,4,5,6]]) (sts:=[none]) (news:=[]) (sp:=[.adr 3 1 (.some 0) True,.val 4 _,.val 5 _,.adr 6 1 (.some 2) True,.val 7 _,.val 8 _,.val 9 _,.val 2 _]) [.o 7] za6 hst (oc (ob_a rfl rfl (za8 (lz0 0 rfl) zbi)) (zv rfl (za4 0 rfl zk trivial (lz0 0 rfl) (Sub.part 0 rfl rfl) zal) (zv rfl (za5 (xs:=[.tmp 4]) (zk6 _) (.cons (vq 1 rfl) .nil)) (oc (ob_a rfl rfl (za8 (lz0 0 rfl) zb5)) (zv rfl (za4 3 rfl zk trivial (lz0 0 rfl) (Sub.part 1 rfl rfl) zal) (zv rfl (za5 (xs:=[.tmp 7]) (zk6 _) (.cons (vq 4 rfl) .nil)) (zv rfl (zbd (vq 2 rfl) (vq 5 rfl) (rfl)) (zv rfl (za1 (vq 6 rfl)) o0)))))))) zk zk zk zk (fun a w hst=>?_)
 have hst:St B w0 10 [(2,_)] [⟨1,37,ptrH,_⟩] a w:=hst
 refine za0 ?_
 refine wp_ret ?_
 refine zad ?_ (zaj rfl hst (zm 0 rfl))
 exact zay
theorem same_yes {a b:RI}(hn:a.neg=b.neg)(h:a.mag=b.mag):true=decide (a=b):=by
 cases a; cases b; simp_all
theorem same_no1 {a b:RI}(h:((a.neg != b.neg) || (((a.mag.length:Nat):Int) != ((b.mag.length:Nat):Int)))=true):false=decide (a=b):=by
 symm
 apply decide_eq_false
 rintro rfl
 simp at h
theorem same_two {a b:RI}(h:((a.neg != b.neg) || (((a.mag.length:Nat):Int) != ((b.mag.length:Nat):Int)))=false):a.neg=b.neg∧a.mag.length=b.mag.length:=by
 simp only [Bool.or_eq_false_iff,bne_eq_false_iff_eq] at h
 exact ⟨h.1,by omega⟩
theorem same_no2 {a b:RI}{j:Nat}(h1:j<a.mag.length)(h2:j<b.mag.length)(h:(((a.mag[j]:Nat):Int) != ((b.mag[j]:Nat):Int))=true):false=decide (a=b):=by
 symm
 apply decide_eq_false
 rintro rfl
 simp at h
theorem take_eq {l m:List Nat}{j:Nat}(h1:j<l.length)(h2:j<m.length)(h:l.take j=m.take j)(h3:(((l[j]:Nat):Int) != ((m[j]:Nat):Int))=false):l.take (j+1)=m.take (j+1):=by
 rw [List.take_succ_eq_append_getElem h1,List.take_succ_eq_append_getElem h2,h]
 simp only [bne_eq_false_iff_eq] at h3
 rw [show l[j]=m[j] by omega]
theorem rf_eq {a b:RF}:(decide (a.num=b.num)&&decide (a.den=b.den))=decide (a=b):=by
 cases a; cases b; rw [Bool.eq_iff_iff]; simp
theorem zjw (x y:RI):Cn Tryz.prog 63 [(RIA x).va,(RIA y).va] (Bo (decide (x=y))):=by
 refine Cn.intro Tryz.func63 rfl zk nq (fun B w0 a hst=>?_)
 have hst:St B w0 38 [(0,(RIA x).va),(1,(RIA y).va)] [] a w0.w:=hst
 have hxk:=zio (hst.vals (0,(RIA x).va) (zm 0 rfl))
 refine wp_seq ?_
 refine gl (sts:=[]) (news:=[⟨2,35,ptrH,some 0,_,none⟩,⟨3,35,ptrH,some 1,_,none⟩]) (sp:=[.alc 0,.alc 1,.val 4 _]) [.o 2] hst (oc (zak rfl rfl rfl (gq 0 rfl)) (oc (zak rfl rfl rfl (gq 1 rfl)) (zv rfl (za1 zbk) o0))) (fun a w hst=>?_)
 have hst:St B w0 38 [(4,_)] [⟨2,35,ptrH,_⟩,⟨3,35,ptrH,_⟩] a w:=hst
 refine zt ?_
 refine wp_seq ?_
 refine gl (sts:=[none,none]) (news:=[]) (sp:=[.adr 6 2 (.some 0) True,.val 7 _,.adr 8 3 (.some 0) True,.val 9 _,.val 10 _,.val 11 _,.adr 12 2 (.some 1) (_=false),.val 13 (Wh (_=false) _),.val 14 (Wh (_=false) _),.adr 15 3 (.some 1) (_=false),.val 16 (Wh (_=false) _),.val 17 (Wh (_=false) _),.val 18 (Wh (_=false) _),.val 19 _]) [.g 0,.o 13] hst (oc (ob_a rfl rfl (za8 (lz0 0 rfl) zb8)) (zv rfl (za4 0 rfl zk trivial (lz0 0 rfl) (Sub.part 0 rfl rfl) ty_4) (oc (ob_a rfl rfl (za8 (lz0 1 rfl) zb8)) (zv rfl (za4 2 rfl zk trivial (lz0 1 rfl) (Sub.part 0 rfl rfl) ty_4) (zv rfl (r_neqb zk (vq 1 rfl) (vq 3 rfl)) (zv rfl (za2 (vq 4 rfl)) (oc (zd5 rfl rfl rfl (vq 5 rfl) nq (fun hg=>za8 (lz0 0 rfl) zas)) (oc (zan rfl rfl rfl (vq 5 rfl) nq (fun hg=>za4 6 rfl zk hg (lz0 0 rfl) (Sub.part 1 rfl rfl) zbr)) (oc (zan rfl rfl rfl (vq 5 rfl) nq (fun hg=>zb7 Tryz.underlying33 (zah (vq 7 rfl) hg))) (oc (zd5 rfl rfl rfl (vq 5 rfl) nq (fun hg=>za8 (lz0 1 rfl) zas)) (oc (zan rfl rfl rfl (vq 5 rfl) nq (fun hg=>za4 9 rfl zk hg (lz0 1 rfl) (Sub.part 1 rfl rfl) zbr)) (oc (zan rfl rfl rfl (vq 5 rfl) nq (fun hg=>zb7 Tryz.underlying33 (zah (vq 10 rfl) hg))) (oc (zan rfl rfl rfl (vq 5 rfl) nq (fun hg=>zcf (zah (vq 8 rfl) hg) (zah (vq 11 rfl) hg))) (zv rfl (r_or (vq 5 rfl) (vq 12 rfl)) o0)))))))))))))) (fun a w hst=>?_)
 have hst:St B w0 38 [(4,_),(19,_)] [⟨2,35,ptrH,_⟩,⟨3,35,ptrH,_⟩] a w:=hst
 refine za0 ?_
 refine zaa hst (zm 1 rfl) (fun hb0=>?_) (fun hb0=>?_)
 ·refine wp_seq ?_
  refine gl (sts:=[none,none]) (news:=[]) (sp:=[.val 4 _]) [.o 0] hst (zv rfl (za1 zbk) o0) (fun a w hst=>?_)
  have hst:St B w0 38 [(4,_)] [⟨2,35,ptrH,_⟩,⟨3,35,ptrH,_⟩] a w:=hst
  refine za0 ?_
  refine wp_ret ?_
  refine zaf ?_
  refine zad ?_ (zaj rfl hst (zm 0 rfl))
  exact zcp (congrArg Bo (same_no1 hb0))
 ·obtain ⟨hn1,hl⟩:=same_two hb0
  refine wp_skip ?_
  refine zt ?_
  refine wp_seq ?_
  refine gl (sts:=[none,none]) (news:=[]) (sp:=[.val 5 _]) [.g 0,.o 0] hst (zv rfl (za1 za3) o0) (fun a w hst=>?_)
  have hst:St B w0 38 [(4,_),(5,_)] [⟨2,35,ptrH,_⟩,⟨3,35,ptrH,_⟩] a w:=hst
  refine za0 ?_
  refine wp_block ?_
  have hst:=St.sel hst [1]
  refine wp_loop_ghost (fun n a w=>∃ j:Nat,(n+j=x.mag.length∧x.mag.take j=y.mag.take j)∧St B w0 38 [(5,In (j:Nat))] [⟨2,35,ptrH,RIA x⟩,⟨3,35,ptrH,RIA y⟩] a w) (x.mag.length) ?_ ?_
  ·exact ⟨0,⟨by omega,rfl⟩,hst⟩
  intro n a w hI
  obtain ⟨j,⟨hn,ht⟩,hst⟩:=hI
  refine wp_seq ?_
  refine wp_seq ?_
  refine gl (sts:=[none,none]) (news:=[]) (sp:=[.val 20 _,.adr 21 2 (.some 1) True,.val 22 _,.val 23 _,.val 24 _]) [.g 0,.o 4] hst (zv rfl (za2 (gq 0 rfl)) (oc (ob_a rfl rfl (za8 (lz0 0 rfl) zas)) (zv rfl (za4 1 rfl zk trivial (lz0 0 rfl) (Sub.part 1 rfl rfl) zbr) (zv rfl (zb7 Tryz.underlying33 (vq 2 rfl)) (zv rfl (zc2 (vq 0 rfl) (vq 3 rfl)) o0))))) (fun a w hst=>?_)
  have hst:St B w0 38 [(5,_),(24,_)] [⟨2,35,ptrH,_⟩,⟨3,35,ptrH,_⟩] a w:=hst
  refine za0 ?_
  refine zaa hst (zm 1 rfl) (fun hb1=>?_) (fun hb1=>?_)
  ·have hj:j<x.mag.length:=by simp at hb1; omega
   refine wp_skip ?_
   refine zt ?_
   refine wp_block ?_
   refine wp_seq ?_
   refine zav (anc:=[[],[0],[],[0,1,2],[0,1,2,3],[],[5],[],[5,6,7],[5,6,7,8],[0,1,2,3,4,5,6,7,8,9]]) (sts:=[none,none]) (news:=[]) (sp:=[.adr 27 2 (.some 1) True,.val 28 _,.val 29 _,.val 30 _,.val 31 _,.adr 32 3 (.some 1) True,.val 33 _,.val 34 _,.val 35 _,.val 36 _,.val 37 _]) [.g 0,.o 10] za6 hst (oc (ob_a rfl rfl (za8 (lz0 0 rfl) zas)) (zv rfl (za4 0 rfl zk trivial (lz0 0 rfl) (Sub.part 1 rfl rfl) zbr) (zv rfl (za2 (gq 0 rfl)) (zv rfl (zch zbg (vq 1 rfl) (vq 2 rfl) zo) (zv rfl (zat (vq 3 rfl) zb1) (oc (ob_a rfl rfl (za8 (lz0 1 rfl) zas)) (zv rfl (za4 5 rfl zk trivial (lz0 1 rfl) (Sub.part 1 rfl rfl) zbr) (zv rfl (za2 (gq 0 rfl)) (zv rfl (zch zbg (vq 6 rfl) (vq 7 rfl) zo) (zv rfl (zat (vq 8 rfl) zb1) (zv rfl (zcf (vq 4 rfl) (vq 9 rfl)) o0))))))))))) zk zk zk zk (fun a w hst=>?_)
   have hst:St B w0 38 [(5,_),(37,_)] [⟨2,35,ptrH,_⟩,⟨3,35,ptrH,_⟩] a w:=hst
   refine za0 ?_
   refine zaa hst (zm 1 rfl) (fun hb2=>?_) (fun hb2=>?_)
   ·refine wp_seq ?_
    refine gl (sts:=[none,none]) (news:=[]) (sp:=[.val 4 _]) [.g 0,.o 0] hst (zv rfl (za1 zbk) o0) (fun a w hst=>?_)
    have hst:St B w0 38 [(5,_),(4,_)] [⟨2,35,ptrH,_⟩,⟨3,35,ptrH,_⟩] a w:=hst
    refine za0 ?_
    refine wp_ret ?_
    refine zb4 ?_
    refine zaf ?_
    refine zaf ?_
    refine zb4 ?_
    refine zaf ?_
    refine zad ?_ (zaj rfl hst (zm 1 rfl))
    exact zcp (congrArg Bo (same_no2 hj zo hb2))
   ·refine wp_skip ?_
    refine zap ?_
    refine za0 ?_
    refine gl (sts:=[none,none]) (news:=[]) (sp:=[.val 25 _,.val 26 _,.val 5 _]) [.o 2] hst (zv rfl (za2 (gq 0 rfl)) (zv rfl (zbd (vq 0 rfl) za3 (wi_nx hj hxk.2)) (zv rfl (za1 (vq 1 rfl)) o0))) (fun a w hst=>?_)
    have hst:St B w0 38 [(5,_)] [⟨2,35,ptrH,_⟩,⟨3,35,ptrH,_⟩] a w:=hst
    refine za0 ?_
    have hst:=St.sel hst [0]
    exact ⟨n-1,by omega,j+1,⟨by omega,take_eq hj zo ht hb2⟩,hst⟩
  ·obtain rfl:j=x.mag.length:=by simp at hb1; omega
   refine wp_exit ?_
   refine zae ?_
   refine zae ?_
   refine zaz ?_
   refine zt<|gl (sts:=[none,none]) (news:=[]) (sp:=[.val 4 _]) [.o 0] hst (zv rfl (za1 zbk) o0) (fun a w hst=>?_)
   have hst:St B w0 38 [(4,_)] [⟨2,35,ptrH,_⟩,⟨3,35,ptrH,_⟩] a w:=hst
   refine za0 ?_
   refine wp_ret ?_
   refine zad ?_ (zaj rfl hst (zm 0 rfl))
   exact zcp (congrArg Bo (same_yes hn1 (by rw [List.take_of_length_le (Nat.le_refl _),List.take_of_length_le zo] at ht; exact ht)))
theorem zez (x y:RF):Cn Tryz.prog 28 [(RFA x).va,(RFA y).va] (Bo (decide (x=y))):=by
 refine Cn.intro Tryz.func28 rfl zk nq (fun B w0 a hst=>?_)
 have hst:St B w0 17 [(0,(RFA x).va),(1,(RFA y).va)] [] a w0.w:=hst
 refine wp_seq ?_
 refine gl (sts:=[]) (news:=[⟨2,37,ptrH,some 0,_,none⟩,⟨3,37,ptrH,some 1,_,none⟩]) (sp:=[.alc 0,.alc 1,.val 4 _]) [.o 2] hst (oc (zak rfl rfl rfl (gq 0 rfl)) (oc (zak rfl rfl rfl (gq 1 rfl)) (zv rfl (za1 zbk) o0))) (fun a w hst=>?_)
 have hst:St B w0 17 [(4,_)] [⟨2,37,ptrH,_⟩,⟨3,37,ptrH,_⟩] a w:=hst
 refine zt<|gl (sts:=[none,none]) (news:=[]) (sp:=[.adr 5 2 (.some 0) True,.val 6 _,.adr 7 3 (.some 0) True,.val 8 _,.val 9 _,.val 10 _,.adr 11 2 (.some 2) (_=true),.val 12 (Wh (_=true) _),.adr 13 3 (.some 2) (_=true),.val 14 (Wh (_=true) _),.val 15 (Wh (_=true) _),.val 16 _,.val 4 _]) [.o 12] hst (oc (ob_a rfl rfl (za8 (lz0 0 rfl) zbi)) (zv rfl (za4 0 rfl zk trivial (lz0 0 rfl) (Sub.part 0 rfl rfl) zal) (oc (ob_a rfl rfl (za8 (lz0 1 rfl) zbi)) (zv rfl (za4 2 rfl zk trivial (lz0 1 rfl) (Sub.part 0 rfl rfl) zal) (zv rfl (za5 (xs:=[.tmp 6,.tmp 8]) (zjw _ _) (.cons (vq 1 rfl) (.cons (vq 3 rfl) .nil))) (zv rfl (za2 (vq 4 rfl)) (oc (zd5 rfl rfl rfl (vq 5 rfl) nq (fun hg=>za8 (lz0 0 rfl) zb5)) (oc (zan rfl rfl rfl (vq 5 rfl) nq (fun hg=>za4 6 rfl zk hg (lz0 0 rfl) (Sub.part 1 rfl rfl) zal)) (oc (zd5 rfl rfl rfl (vq 5 rfl) nq (fun hg=>za8 (lz0 1 rfl) zb5)) (oc (zan rfl rfl rfl (vq 5 rfl) nq (fun hg=>za4 8 rfl zk hg (lz0 1 rfl) (Sub.part 1 rfl rfl) zal)) (oc (zan rfl rfl rfl (vq 5 rfl) nq (fun hg=>za5 (xs:=[.tmp 12,.tmp 14]) (zjw _ _) (.cons (zah (vq 7 rfl) hg) (.cons (zah (vq 9 rfl) hg) .nil)))) (zv rfl (zcq (vq 5 rfl) (vq 10 rfl)) (zv rfl (za1 (vq 11 rfl)) o0))))))))))))) (fun a w hst=>?_)
 have hst:St B w0 17 [(4,_)] [⟨2,37,ptrH,_⟩,⟨3,37,ptrH,_⟩] a w:=hst
 refine za0 ?_
 refine wp_ret ?_
 refine zad ?_ (zaj rfl hst (zm 0 rfl))
 exact zcp (congrArg Bo rf_eq)
end Go.Proofs.YtlpppkkggljdcaaGreat
namespace Go.Proofs.YtlpppkkggljdcaaGreat
open Go Go.RowKit
open Go.ChangeShapes Go.WideShapes Go.ChangeAt
theorem cat_of {B:Nat}{w:World}:∀ {l:List As} {cs:List Value},cs.length=(l.map (·.n)).sum→(∀ (k:Nat) (A:As),l[k]?=some A→A.p B ((cs.drop (offs l k)).take A.n) w)→(cat l).p B cs w
 | [],cs,hl,_=>by
  have:cs=[]:=List.length_eq_zero_iff.1 (by simpa using hl)
  subst this
  exact ⟨[],rfl,.nil⟩
 | A::l,cs,hl,h=>by
  simp only [List.map_cons,List.sum_cons] at hl
  have h0:=h 0 A rfl
  simp only [offs,List.take_zero,List.map_nil,List.sum_nil,List.drop_zero] at h0
  obtain ⟨ps,e,hps⟩:=cat_of (l:=l) (cs:=cs.drop A.n) (B:=B) (w:=w) (by simp; omega) fun k A' hk=>by
   have:=h (k+1) A' (by simpa using hk)
   simp only [offs,List.take_succ_cons,List.map_cons,List.sum_cons] at this
   rw [List.drop_drop]
   exact this
  exact ⟨cs.take A.n::ps,by rw [List.flatten_cons,← e,List.take_append_drop],.cons h0 hps⟩
section
variable {H:Type} {enc:TypeId × Value→H} {w:World} {base:Nat} {spare:Nat→Bool} {held:Bool} {fuel:Nat} {cs:List Value} {x:DataW H × List MemPlace}
theorem rd_mg (h:DataW.trod enc Tryz.prog w base spare held fuel 33 cs=some x):∃ l,(MgA l).p w.heap.size cs w:=by
 rcases open_ints Tryz.underlying33 Tryz.underlying130 zk h with ⟨hcs,_⟩ | ⟨a,len,cap,zs,rfl,_,hl,hm,hz,_,hcell,hwz⟩
 ·subst hcs
  exact ⟨[],zhe _ _⟩
 ·have hzl:len≤zs.length:=by rw [hz]; split <;> omega
  have hnn:∀ n∈zs,0≤n∧n<4294967296:=fun n hn=>by
   have:=hwz n hn
   simp [Lit.wf,IntKind.min,IntKind.max,IntKind.signed,IntKind.bits] at this
   omega
  have hlen:((zs.take len).map Int.toNat).length=len:=by simp; omega
  refine ⟨(zs.take len).map Int.toNat,?_⟩
  have hM:Mag w.heap.size w (some a) cap ((zs.take len).map Int.toNat):=by
   refine ⟨fun y hy=>?_,by omega,hm,fun hn=>?_⟩
   ·obtain ⟨n,hn,rfl⟩:=List.mem_map.1 hy
    have:=hnn n (List.mem_of_mem_take hn)
    omega
   ·obtain ⟨b,off,rfl,hc⟩:=ints_at hcell zo
    have hb:b<w.heap.size:=World.block_lt_of_cell? w _ (hc 0 zo)
    refine ⟨b,off,rfl,hb,.inl hb,fun j hj=>?_⟩
    rw [hc j zo]
    have hjz:j<zs.length:=by omega
    have:=hnn _ (List.getElem_mem hjz)
    congr 2
    simp only [List.getElem_map,List.getElem_take]
    rw [Int.toNat_of_nonneg this.1]
    simp [List.getD_eq_getElem?_getD,List.getElem?_eq_getElem hjz]
  obtain ⟨ds,hp,hv⟩:=zhb hM hlen.symm
  have hd:=(MgA ((zs.take len).map Int.toNat)).len _ _ _ hp
  match ds,hd with
  | [d],_ =>
   have:d=.slice (some a) len cap:=hv.symm
   subst this
   exact hp
theorem cat_two {B:Nat}{A0 A1:As}(h0:A0.p B ((cs.drop 0).take A0.n) w)(h1:A1.p B ((cs.drop A0.n).take A1.n) w)(hl:cs.length=A0.n+A1.n):(cat [A0,A1]).p B cs w :=
 cat_of (by simpa using hl) fun k A hk=>by
  match k,hk with
  | 0,hk=>simp at hk; subst hk; exact h0
  | 1,hk=>simp at hk; subst hk; simpa [offs] using h1
theorem rd_bo (h:DataW.trod enc Tryz.prog w base spare held fuel 4 cs=some x):∃ b,(BoA b).p w.heap.size cs w:=by
 obtain ⟨b,hb,_⟩:=DataW.trod_bool Tryz.underlying4 h
 exact ⟨b,hb⟩
theorem rd_ri (h:DataW.trod enc Tryz.prog w base spare held fuel 35 cs=some x):∃ y,(RIA y).p w.heap.size cs w:=by
 obtain ⟨y0,y1,n,_,hl,h0,h1⟩:=trod_struct2 Tryz.underlying35 h
 have hl':cs.length=2:=hl.trans zk
 have c0:Tryz.prog.cellsOf 4=1:=by kernel_rfl
 have c1:Tryz.prog.cellsOf 33=1:=by kernel_rfl
 simp only [c0,c1] at h0 h1
 obtain ⟨a,ha⟩:=rd_bo h0
 obtain ⟨b,hb⟩:=rd_mg h1
 exact ⟨⟨a,b⟩,cat_two ha hb hl'⟩
theorem rd_rf (h:DataW.trod enc Tryz.prog w base spare held fuel 37 cs=some x):∃ y,(RFA y).p w.heap.size cs w:=by
 obtain ⟨y0,y1,n,_,hl,h0,h1⟩:=trod_struct2 Tryz.underlying37 h
 have hl':cs.length=4:=hl.trans zk
 have c0:Tryz.prog.cellsOf 35=2:=by kernel_rfl
 simp only [c0] at h0 h1
 obtain ⟨a,ha⟩:=rd_ri h0
 obtain ⟨b,hb⟩:=rd_ri h1
 exact ⟨⟨a,b⟩,cat_two ha hb hl'⟩
end
end Go.Proofs.YtlpppkkggljdcaaGreat
namespace Go.Proofs.YtlpppkkggljdcaaGreat
open Go Go.RowKit
theorem cmF_of {a b:Rat}(ha:longQ a=false)(hb:longQ b=false):cmF (rfOf a) (rfOf b)=cmQ a b:=by
 rw [cmF,zgj,zgj,ha,hb,zd8,zd8]; rfl
end Go.Proofs.YtlpppkkggljdcaaGreat
namespace Go.Proofs.YtlpppkkggljdcaaGreat
open Go Go.RowKit
theorem div_pos {x y:Rat}(h:0<x)(h':0<y):0<x/y:=Rat.mul_pos h (Rat.inv_pos.2 h')
theorem toM_of (m:MQ):toM (rmOf m)=m:=by show (⟨toQ (rfOf m.a),toQ (rfOf m.b),toQ (rfOf m.c),toQ (rfOf m.d)⟩:MQ)=m; rw [zd8,zd8,zd8,zd8]
theorem okM_of {m:MQ}(ha:longQ m.a=false)(hb:longQ m.b=false)(hc:longQ m.c=false)(hd:longQ m.d=false)(h:detM m=1):okM (rmOf m)=true:=by
 unfold okM
 rw [toM_of,decide_eq_true h]
 show ([rfOf m.a,rfOf m.b,rfOf m.c,rfOf m.d].all okX&&true)=true
 simp [zgj,ha,hb,hc,hd]
theorem ok_rf {x:RF}(h:okX x=true):∃ r,x=rfOf r∧longQ r=false:=by
 obtain ⟨e,h1⟩:=zh9 h
 exact ⟨_,e,longQ_false.2 h1⟩
end Go.Proofs.YtlpppkkggljdcaaGreat
