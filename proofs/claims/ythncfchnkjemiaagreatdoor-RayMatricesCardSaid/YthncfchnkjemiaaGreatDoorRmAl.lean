import Derived.Test.YthncfchnkjemiaaGreatDoorRmAa
import Derived.Test.YthncfchnkjemiaaGreatDoorRmAc
import Derived.Test.YthncfchnkjemiaaGreatDoorRmAk
import Derived.ProofKit
import Derived.OpenShut
import Derived.ChangeOld
import Derived.Below
import Derived.WalkKit
set_option linter.unusedVariables false
set_option linter.unusedSimpArgs false
set_option linter.unusedSectionVars false
set_option maxRecDepth 100000
namespace Go.Proofs.YthncfchnkjemiaaGreatDoor
open Go Go.RowKit
structure RG where
 re:RF
 im:RF
 deriving DecidableEq
structure RM where
 a:RF
 b:RF
 c:RF
 d:RF
 deriving DecidableEq
structure RR where
 y:RF
 u:RF
 deriving DecidableEq
structure GQ where
 re:Rat
 im:Rat
 deriving DecidableEq
structure MQ where
 a:Rat
 b:Rat
 c:Rat
 d:Rat
 deriving DecidableEq
structure YQ where
 y:Rat
 u:Rat
 deriving DecidableEq
def RMA (x:RM):As:=cat [RFA x.a,RFA x.b,RFA x.c,RFA x.d]
def RRA (x:RR):As:=cat [RFA x.y,RFA x.u]
def QMA (k:Nat)(x:MQ):As:=cat [QA k x.a,QA k x.b,QA k x.c,QA k x.d]
def QRA (k:Nat)(x:YQ):As:=cat [QA k x.y,QA k x.u]
abbrev rm0:RM:=⟨rf0,rf0,rf0,rf0⟩
abbrev rr0:RR:=⟨rf0,rf0⟩
def rmOf (m:MQ):RM:=⟨rfOf m.a,rfOf m.b,rfOf m.c,rfOf m.d⟩
def rrOf (r:YQ):RR:=⟨rfOf r.y,rfOf r.u⟩
def toM (x:RM):MQ:=⟨toQ x.a,toQ x.b,toQ x.c,toQ x.d⟩
def toY (x:RR):YQ:=⟨toQ x.y,toQ x.u⟩
def detM (m:MQ):Rat:=m.a*m.d-m.b*m.c
theorem qa_x {k:Nat}{x:RF}(h:okX x=true)(hk:2048≤k):WkA (RFA x) (QA k (toQ x)):=by
 obtain ⟨h1,h2,h3⟩:=okX_q h
 exact (zmp (congrArg RFA h1)).trans (qa_of (Nat.le_trans h2 hk) (Nat.le_trans h3 hk))
theorem qm_x {x:RM}(h:[x.a,x.b,x.c,x.d].all okX=true):WkA (RMA x) (QMA 2048 (toM x)):=by
 simp only [List.all_cons,List.all_nil,Bool.and_true,Bool.and_eq_true] at h
 exact zc8 (.cons (qa_x h.1 (Nat.le_refl _)) (.cons (qa_x h.2.1 (Nat.le_refl _)) (.cons (qa_x h.2.2.1 (Nat.le_refl _)) (.cons (qa_x h.2.2.2 (Nat.le_refl _)) .nil))))
theorem qr_x {x:RR}(h:[x.y,x.u].all okX=true):WkA (RRA x) (QRA 2048 (toY x)):=by
 simp only [List.all_cons,List.all_nil,Bool.and_true,Bool.and_eq_true] at h
 exact zc8 (.cons (qa_x h.1 (Nat.le_refl _)) (.cons (qa_x h.2 (Nat.le_refl _)) .nil))
theorem qmA {k:Nat}{x:MQ}:WkA (QMA k x) (RMA (rmOf x)):=zc8 (.cons qaA (.cons qaA (.cons qaA (.cons qaA .nil))))
def okM (m:RM):Bool:=[m.a,m.b,m.c,m.d].all okX&&decide (detM (toM m)=1)
theorem cm_ne {x y:Rat}:(cmQ x y != 0) = !decide (x=y):=by
 unfold cmQ
 by_cases h:x<y
 ·rw [if_pos h]; simp [Rat.ne_of_lt h]
 ·rw [if_neg h]
  by_cases h2:y<x
  ·rw [if_pos h2]; simp [Rat.ne_of_gt h2]
  ·rw [if_neg h2]
   have:x=y:=Rat.le_antisymm (Rat.not_lt.1 h2) (Rat.not_lt.1 h)
   simp [this]
theorem cm_eq {x y:Rat}:(cmQ x y==0)=decide (x=y):=by
 have:=cm_ne (x:=x) (y:=y)
 simp only [bne] at this
 cases h:cmQ x y==0 <;> cases h2:decide (x=y) <;> simp_all
theorem all4 {m:RM}(h:(![m.a,m.b,m.c,m.d].all okX)=false):[m.a,m.b,m.c,m.d].all okX=true:=by simpa using h
theorem zb5:Str Tryz.prog 28 [RFA rf0,RFA rf0,RFA rf0,RFA rf0] :=
 Str.of (z:=.agg #[.bool false,.slice none 0 0,.bool false,.slice none 0 0,.bool false,.slice none 0 0,.bool false,.slice none 0 0,.bool false,.slice none 0 0,.bool false,.slice none 0 0,.bool false,.slice none 0 0,.bool false,.slice none 0 0]) zk Tryz.underlying28 zk fun B w=>⟨[[.bool false,.slice none 0 0,.bool false,.slice none 0 0],[.bool false,.slice none 0 0,.bool false,.slice none 0 0],[.bool false,.slice none 0 0,.bool false,.slice none 0 0],[.bool false,.slice none 0 0,.bool false,.slice none 0 0]],rfl,(.cons (zji B w) (.cons (zji B w) (.cons (zji B w) (.cons (zji B w) .nil))))⟩
theorem ztn:Str Tryz.prog 30 [RFA rf0,RFA rf0] :=
 Str.of (z:=.agg #[.bool false,.slice none 0 0,.bool false,.slice none 0 0,.bool false,.slice none 0 0,.bool false,.slice none 0 0]) zk Tryz.underlying30 zk fun B w=>⟨[[.bool false,.slice none 0 0,.bool false,.slice none 0 0],[.bool false,.slice none 0 0,.bool false,.slice none 0 0]],rfl,(.cons (zji B w) (.cons (zji B w) .nil))⟩
theorem rdet_q {c d e f:Nat}{x y z u:Rat}(hk:c+d+e+f≤137438953472):Cn Tryz.prog 210 [Qs c x,Qs d y,Qs e z,Qs f u] (Qs (c+f+(d+e)+1) (x*u-y*z)):=by
 refine Cn.intro Tryz.func210 rfl zk nq (fun B w0 a hst=>?_)
 have hst:St B w0 16 [(0,Qs c x),(1,Qs d y),(2,Qs e z),(3,Qs f u)] [] a w0.w:=hst
 refine wp_seq ?_
 refine gl (sts:=[]) (news:=[⟨4,26,ptrH,some 0,_,none⟩,⟨5,26,ptrH,some 1,_,none⟩,⟨6,26,ptrH,some 2,_,none⟩,⟨7,26,ptrH,some 3,_,none⟩,⟨8,26,ptrH,some 4,_,none⟩]) (sp:=[.alc 0,.alc 1,.alc 2,.alc 3,.alc 4]) [] hst (oc (zak rfl rfl rfl (gq 0 rfl)) (oc (zak rfl rfl rfl (gq 1 rfl)) (oc (zak rfl rfl rfl (gq 2 rfl)) (oc (zak rfl rfl rfl (gq 3 rfl)) (oc (zas rfl rfl rfl (Str.zero zb0)) o0))))) (fun a w hst=>?_)
 have hst:St B w0 16 [] [⟨4,26,ptrH,_⟩,⟨5,26,ptrH,_⟩,⟨6,26,ptrH,_⟩,⟨7,26,ptrH,_⟩,⟨8,26,ptrH,_⟩] a w:=hst
 refine zt<|zay (anc:=[[],[],[0,1],[],[],[0,1,2,3,4],[0,1,2,3,4,5],[0,1,2,3,4,5,6]]) (sts:=[none,none,none,none,some (7,_)]) (news:=[]) (sp:=[.val 9 _,.val 10 _,.val 11 _,.val 12 _,.val 13 _,.val 14 _,.val 15 _,.sto 4]) [] za7 hst (zv rfl (zab (lz0 0 rfl) zaf) (zv rfl (zab (lz0 3 rfl) zaf) (zv rfl (za5 (xs:=[.tmp 9,.tmp 10]) (zl4 zo) (.cons (vq 0 rfl) (.cons (vq 1 rfl) .nil))) (zv rfl (zab (lz0 1 rfl) zaf) (zv rfl (zab (lz0 2 rfl) zaf) (zv rfl (za5 (xs:=[.tmp 12,.tmp 13]) (zl4 zo) (.cons (vq 3 rfl) (.cons (vq 4 rfl) .nil))) (zv rfl (za5 (xs:=[.tmp 11,.tmp 14]) (minus_q zo) (.cons (vq 2 rfl) (.cons (vq 5 rfl) .nil))) (oc (zag rfl rfl rfl (vq 6 rfl) zaf (Eq.trans (b:=4) rfl rfl)) o0)))))))) zk zk zk zk (fun a w hst=>?_)
 have hst:St B w0 16 [] [⟨4,26,ptrH,_⟩,⟨5,26,ptrH,_⟩,⟨6,26,ptrH,_⟩,⟨7,26,ptrH,_⟩,⟨8,26,ptrH,_⟩] a w:=hst
 refine za0 ?_
 refine wp_ret ?_
 refine zan ?_ (zao rfl hst (zm 4 rfl) zaf)
 exact zbt
theorem chkM_yes {m:RM}(h:((![m.a,m.b,m.c,m.d].all okX) || (cmQ (toQ m.a*toQ m.d-toQ m.b*toQ m.c) 1 != 0))=true):(1:Int)=if okM m then 0 else 1:=by
 have:okM m=false:=by
  unfold okM
  rw [cm_ne] at h
  show ([m.a,m.b,m.c,m.d].all okX&&decide (toQ m.a*toQ m.d-toQ m.b*toQ m.c=1))=false
  cases h1:[m.a,m.b,m.c,m.d].all okX
  ·rfl
  ·rw [h1] at h; simpa using h
 rw [this]; rfl
theorem chkM_no {m:RM}(h:((![m.a,m.b,m.c,m.d].all okX) || (cmQ (toQ m.a*toQ m.d-toQ m.b*toQ m.c) 1 != 0))=false):(0:Int)=if okM m then 0 else 1:=by
 have:okM m=true:=by
  unfold okM
  rw [cm_ne] at h
  show ([m.a,m.b,m.c,m.d].all okX&&decide (toQ m.a*toQ m.d-toQ m.b*toQ m.c=1))=true
  cases h1:[m.a,m.b,m.c,m.d].all okX
  ·rw [h1] at h; simp at h
  ·rw [h1] at h; simpa using h
 rw [this]; rfl
theorem det_x {m:RM}(h:(![m.a,m.b,m.c,m.d].all okX)=false):Cn Tryz.prog 210 [(RFA m.a).va,(RFA m.b).va,(RFA m.c).va,(RFA m.d).va] (Qs 8193 (toQ m.a*toQ m.d-toQ m.b*toQ m.c)):=by
 have h4:=all4 h
 simp only [List.all_cons,List.all_nil,Bool.and_true,Bool.and_eq_true] at h4
 exact (rdet_q (c:=2048) (d:=2048) (e:=2048) (f:=2048) zd).wk (.cons (qa_x h4.1 (Nat.le_refl _)).va (.cons (qa_x h4.2.1 (Nat.le_refl _)).va (.cons (qa_x h4.2.2.1 (Nat.le_refl _)).va (.cons (qa_x h4.2.2.2 (Nat.le_refl _)).va .nil))))
theorem zgg (m:RM):Cn Tryz.prog 74 [(RMA m).va] (In (if okM m then 0 else 1)):=by
 refine Cn.intro Tryz.func74 rfl zk nq (fun B w0 a hst=>?_)
 have hst:St B w0 28 [(0,(RMA m).va)] [] a w0.w:=hst
 refine wp_seq ?_
 refine gl (sts:=[]) (news:=[⟨1,28,ptrH,some 0,_,none⟩]) (sp:=[.alc 0,.val 2 _]) [.o 1] hst (oc (zak rfl rfl rfl (gq 0 rfl)) (zv rfl (za1 za3) o0)) (fun a w hst=>?_)
 have hst:St B w0 28 [(2,_)] [⟨1,28,ptrH,_⟩] a w:=hst
 refine zt ?_
 refine wp_seq ?_
 refine gl (sts:=[none]) (news:=[]) (sp:=((.adr 3 1 (.some 0) True:Sp)::(.val 4 _)::(.adr 5 1 (.some 4) True)::(.val 6 _)::(.adr 7 1 (.some 8) True)::(.val 8 _)::(.adr 9 1 (.some 12) True)::(.val 10 _)::(.val 11 _)::(.val 12 _)::(.val 13 _)::(.val 14 _)::(.adr 15 1 (.some 0) (_=false))::(.val 16 (Wh (_=false) _))::(.adr 17 1 (.some 4) (_=false))::(.val 18 (Wh (_=false) _))::(.adr 19 1 (.some 8) (_=false))::(.val 20 (Wh (_=false) _))::(.adr 21 1 (.some 12) (_=false))::(.val 22 (Wh (_=false) _))::(.val 23 (Wh (_=false) _))::(.val 24 (Wh (_=false) _))::(.val 25 (Wh (_=false) _))::(.val 26 (Wh (_=false) _))::(.val 27 _)::[])) [.g 0,.o 24] hst (oc (ob_a rfl rfl (zaa (lz0 0 rfl) zc4)) (zv rfl (za4 0 rfl zk trivial (lz0 0 rfl) (Sub.part 0 rfl rfl) zaf) (oc (ob_a rfl rfl (zaa (lz0 0 rfl) zca)) (zv rfl (za4 2 rfl zk trivial (lz0 0 rfl) (Sub.part 1 rfl rfl) zaf) (oc (ob_a rfl rfl (zaa (lz0 0 rfl) zc6)) (zv rfl (za4 4 rfl zk trivial (lz0 0 rfl) (Sub.part 2 rfl rfl) zaf) (oc (ob_a rfl rfl (zaa (lz0 0 rfl) zc1)) (zv rfl (za4 6 rfl zk trivial (lz0 0 rfl) (Sub.part 3 rfl rfl) zaf) (zv rfl (zda (D:=[U32]) (l:=[_,_,_,_]) (xs:=[.tmp 4,.tmp 6,.tmp 8,.tmp 10]) (zfz zk) zdu zk (n_ok zk) nq nq nq (.cons (vq 1 rfl) (.cons (vq 3 rfl) (.cons (vq 5 rfl) (.cons (vq 7 rfl) .nil)))) rfl rfl) (zv rfl (za5 (xs:=[.tmp 11]) (zr7 [m.a,m.b,m.c,m.d] nq) (.cons (vq 8 rfl) .nil)) (zv rfl (zem (vq 9 rfl)) (zv rfl (za2 (vq 10 rfl)) (oc (zci rfl rfl rfl (vq 11 rfl) nq (fun hg=>zaa (lz0 0 rfl) zc4)) (oc (zad rfl rfl rfl (vq 11 rfl) nq (fun hg=>za4 12 rfl zk hg (lz0 0 rfl) (Sub.part 0 rfl rfl) zaf)) (oc (zci rfl rfl rfl (vq 11 rfl) nq (fun hg=>zaa (lz0 0 rfl) zca)) (oc (zad rfl rfl rfl (vq 11 rfl) nq (fun hg=>za4 14 rfl zk hg (lz0 0 rfl) (Sub.part 1 rfl rfl) zaf)) (oc (zci rfl rfl rfl (vq 11 rfl) nq (fun hg=>zaa (lz0 0 rfl) zc6)) (oc (zad rfl rfl rfl (vq 11 rfl) nq (fun hg=>za4 16 rfl zk hg (lz0 0 rfl) (Sub.part 2 rfl rfl) zaf)) (oc (zci rfl rfl rfl (vq 11 rfl) nq (fun hg=>zaa (lz0 0 rfl) zc1)) (oc (zad rfl rfl rfl (vq 11 rfl) nq (fun hg=>za4 18 rfl zk hg (lz0 0 rfl) (Sub.part 3 rfl rfl) zaf)) (oc (zad rfl rfl rfl (vq 11 rfl) nq (fun hg=>za5 (xs:=[.tmp 16,.tmp 18,.tmp 20,.tmp 22]) (det_x hg) (.cons (za9 (vq 13 rfl) hg) (.cons (za9 (vq 15 rfl) hg) (.cons (za9 (vq 17 rfl) hg) (.cons (za9 (vq 19 rfl) hg) .nil)))))) (oc (zad rfl rfl rfl (vq 11 rfl) nq (fun hg=>za5 (xs:=[]) one_q .nil)) (oc (zad rfl rfl rfl (vq 11 rfl) nq (fun hg=>za5 (xs:=[.tmp 23,.tmp 24]) (cmp_q zo) (.cons (za9 (vq 20 rfl) hg) (.cons (za9 (vq 21 rfl) hg) .nil)))) (oc (zad rfl rfl rfl (vq 11 rfl) nq (fun hg=>zd8 (za9 (vq 22 rfl) hg) za3)) (zv rfl (r_or (vq 11 rfl) (vq 23 rfl)) o0))))))))))))))))))))))))) (fun a w hst=>?_)
 have hst:St B w0 28 [(2,_),(27,_)] [⟨1,28,ptrH,_⟩] a w:=hst
 refine za0 ?_
 refine za8 hst (zm 1 rfl) (fun hb0=>?_) (fun hb0=>?_)
 ·refine wp_seq ?_
  refine gl (sts:=[none]) (news:=[]) (sp:=[.val 2 _]) [.o 0] hst (zv rfl (za1 za3) o0) (fun a w hst=>?_)
  have hst:St B w0 28 [(2,_)] [⟨1,28,ptrH,_⟩] a w:=hst
  refine za0 ?_
  refine wp_ret ?_
  refine zar ?_
  refine zan ?_ (zai rfl hst (zm 0 rfl))
  exact zbz (congrArg In (chkM_yes hb0))
 ·refine wp_skip ?_
  refine zt<|gl (sts:=[none]) (news:=[]) (sp:=[.val 2 _]) [.o 0] hst (zv rfl (za1 za3) o0) (fun a w hst=>?_)
  have hst:St B w0 28 [(2,_)] [⟨1,28,ptrH,_⟩] a w:=hst
  refine za0 ?_
  refine wp_ret ?_
  refine zan ?_ (zai rfl hst (zm 0 rfl))
  exact zbz (congrArg In (chkM_no hb0))
end Go.Proofs.YthncfchnkjemiaaGreatDoor
namespace Go.Proofs.YthncfchnkjemiaaGreatDoor
open Go Go.RowKit
theorem ziq {m:RM}(h:okM m=true):[m.a,m.b,m.c,m.d].all okX=true∧detM (toM m)=1:=by
 unfold okM at h
 rw [Bool.and_eq_true,decide_eq_true_eq] at h
 exact h
end Go.Proofs.YthncfchnkjemiaaGreatDoor
namespace Go.Proofs.YthncfchnkjemiaaGreatDoor
open Go Go.RowKit
def intSizeF (x:RI):Int:=IntKind.i64.wrap (1+(x.mag.length:Int))
def fracSizeF (x:RF):Int:=IntKind.i64.wrap (intSizeF x.num+intSizeF x.den)
def lowCostF (x y:RI):Int:=IntKind.i64.wrap (IntKind.i64.wrap ((IntKind.i64.wrap (min (x.mag.length:Int) 1048576*min (y.mag.length:Int) 1048576)).tdiv 16)*1024)
def fracCostF (x:RF):Int:=IntKind.i64.wrap (fracSizeF x+lowCostF x.num x.den)
def matCostF (x:RM):Int:=IntKind.i64.wrap (IntKind.i64.wrap (IntKind.i64.wrap (fracCostF x.a+fracCostF x.b)+fracCostF x.c)+fracCostF x.d)
def bydF (n:Int):List Int→Bool
 | []=>false
 | x::xs=>if decide (IntKind.i64.wrap (n+x)>1048576) then true else bydF (IntKind.i64.wrap (n+x)) xs
theorem byd_yes {n:Int}{l:List Int}{j:Nat}(h:j<l.length)(h2:decide (IntKind.i64.wrap (n+l[j])>1048576)=true):true=bydF n (l.drop j):=by
 rw [List.drop_eq_getElem_cons h,bydF,h2]; rfl
theorem byd_no {n:Int}{l:List Int}{j:Nat}(h:j<l.length)(h2:decide (IntKind.i64.wrap (n+l[j])>1048576)=false):bydF n (l.drop j)=bydF (IntKind.i64.wrap (n+l[j])) (l.drop (j+1)):=by
 rw [List.drop_eq_getElem_cons h,bydF,h2]; rfl
theorem wi_nx {j m:Nat}(h:j<m)(hm:m≤9223372036854775807):IntKind.i64.wrap ((j:Int)+1)=((j+1:Nat):Int):=by rw [wi64 zo zo]; rfl
theorem slA_len {E:TypeId}{D:List TypeId}{l:List As}{B:Nat}{v:Value}{w:World}(h:(SlA E D l).va.p B v w):l.length≤9223372036854775807:=by
 obtain ⟨cs,⟨_,A,c,ds,_,h1,h2,_⟩,_⟩:=h
 unfold maxLen at h2
 omega
theorem zxv {E:TypeId}{D:List TypeId}{α:Type}{f:α→As}{l:List α}{B:Nat}{v:Value}{w:World}(h:(SlA E D (l.map f)).va.p B v w):l.length≤9223372036854775807:=by
 have:=slA_len h
 rwa [List.length_map] at this
theorem znr (x:RI):Cn Tryz.prog 287 [(RIA x).va] (In (intSizeF x)):=by
 refine Cn.intro Tryz.func287 rfl zk nq (fun B w0 a hst=>?_)
 have hst:St B w0 7 [(0,(RIA x).va)] [] a w0.w:=hst
 refine wp_seq ?_
 refine gl (sts:=[]) (news:=[⟨1,24,ptrH,some 0,_,none⟩]) (sp:=[.alc 0,.val 2 _]) [.o 1] hst (oc (zak rfl rfl rfl (gq 0 rfl)) (zv rfl (za1 za3) o0)) (fun a w hst=>?_)
 have hst:St B w0 7 [(2,_)] [⟨1,24,ptrH,_⟩] a w:=hst
 refine zt<|gl (sts:=[none]) (news:=[]) (sp:=[.adr 3 1 (.some 1) True,.val 4 _,.val 5 _,.val 6 _,.val 2 _]) [.o 4] hst (oc (ob_a rfl rfl (zaa (lz0 0 rfl) zal)) (zv rfl (za4 0 rfl zk trivial (lz0 0 rfl) (Sub.part 1 rfl rfl) zbg) (zv rfl (zaz Tryz.underlying22 (vq 1 rfl)) (zv rfl (zbl za3 (vq 2 rfl) (rfl)) (zv rfl (za1 (vq 3 rfl)) o0))))) (fun a w hst=>?_)
 have hst:St B w0 7 [(2,_)] [⟨1,24,ptrH,_⟩] a w:=hst
 refine za0 ?_
 refine wp_ret ?_
 refine zan ?_ (zai rfl hst (zm 0 rfl))
 exact zbt
theorem zsf (x:RF):Cn Tryz.prog 155 [(RFA x).va] (In (fracSizeF x)):=by
 refine Cn.intro Tryz.func155 rfl zk nq (fun B w0 a hst=>?_)
 have hst:St B w0 10 [(0,(RFA x).va)] [] a w0.w:=hst
 refine wp_seq ?_
 refine gl (sts:=[]) (news:=[⟨1,26,ptrH,some 0,_,none⟩]) (sp:=[.alc 0,.val 2 _]) [.o 1] hst (oc (zak rfl rfl rfl (gq 0 rfl)) (zv rfl (za1 za3) o0)) (fun a w hst=>?_)
 have hst:St B w0 10 [(2,_)] [⟨1,26,ptrH,_⟩] a w:=hst
 refine zt<|zay (anc:=[[],[0],[0,1],[],[3],[0,1,2,3,4],[0,1,2,3,4,5],[0,1,2,3,4,5,6]]) (sts:=[none]) (news:=[]) (sp:=[.adr 3 1 (.some 0) True,.val 4 _,.val 5 _,.adr 6 1 (.some 2) True,.val 7 _,.val 8 _,.val 9 _,.val 2 _]) [.o 7] za7 hst (oc (ob_a rfl rfl (zaa (lz0 0 rfl) zbn)) (zv rfl (za4 0 rfl zk trivial (lz0 0 rfl) (Sub.part 0 rfl rfl) zac) (zv rfl (za5 (xs:=[.tmp 4]) (znr _) (.cons (vq 1 rfl) .nil)) (oc (ob_a rfl rfl (zaa (lz0 0 rfl) zbf)) (zv rfl (za4 3 rfl zk trivial (lz0 0 rfl) (Sub.part 1 rfl rfl) zac) (zv rfl (za5 (xs:=[.tmp 7]) (znr _) (.cons (vq 4 rfl) .nil)) (zv rfl (zbl (vq 2 rfl) (vq 5 rfl) (rfl)) (zv rfl (za1 (vq 6 rfl)) o0)))))))) zk zk zk zk (fun a w hst=>?_)
 have hst:St B w0 10 [(2,_)] [⟨1,26,ptrH,_⟩] a w:=hst
 refine za0 ?_
 refine wp_ret ?_
 refine zan ?_ (zai rfl hst (zm 0 rfl))
 exact zbt
theorem zvw (x y:RI):Cn Tryz.prog 156 [(RIA x).va,(RIA y).va] (In (lowCostF x y)):=by
 refine Cn.intro Tryz.func156 rfl zk nq (fun B w0 a hst=>?_)
 have hst:St B w0 16 [(0,(RIA x).va),(1,(RIA y).va)] [] a w0.w:=hst
 refine wp_seq ?_
 refine gl (sts:=[]) (news:=[⟨2,24,ptrH,some 0,_,none⟩,⟨3,24,ptrH,some 1,_,none⟩]) (sp:=[.alc 0,.alc 1,.val 4 _]) [.o 2] hst (oc (zak rfl rfl rfl (gq 0 rfl)) (oc (zak rfl rfl rfl (gq 1 rfl)) (zv rfl (za1 za3) o0))) (fun a w hst=>?_)
 have hst:St B w0 16 [(4,_)] [⟨2,24,ptrH,_⟩,⟨3,24,ptrH,_⟩] a w:=hst
 refine zt<|gl (sts:=[none,none]) (news:=[]) (sp:=[.adr 5 2 (.some 1) True,.val 6 _,.val 7 _,.val 8 _,.adr 9 3 (.some 1) True,.val 10 _,.val 11 _,.val 12 _,.val 13 _,.val 14 _,.val 15 _,.val 4 _]) [.o 11] hst (oc (ob_a rfl rfl (zaa (lz0 0 rfl) zal)) (zv rfl (za4 0 rfl zk trivial (lz0 0 rfl) (Sub.part 1 rfl rfl) zbg) (zv rfl (zaz Tryz.underlying22 (vq 1 rfl)) (zv rfl (r_min (vq 2 rfl) za3) (oc (ob_a rfl rfl (zaa (lz0 1 rfl) zal)) (zv rfl (za4 4 rfl zk trivial (lz0 1 rfl) (Sub.part 1 rfl rfl) zbg) (zv rfl (zaz Tryz.underlying22 (vq 5 rfl)) (zv rfl (r_min (vq 6 rfl) za3) (zv rfl (zkd (vq 3 rfl) (vq 7 rfl) (rfl)) (zv rfl (zjk (vq 8 rfl) za3 zd (rfl)) (zv rfl (zkd (vq 9 rfl) za3 (rfl)) (zv rfl (za1 (vq 10 rfl)) o0)))))))))))) (fun a w hst=>?_)
 have hst:St B w0 16 [(4,_)] [⟨2,24,ptrH,_⟩,⟨3,24,ptrH,_⟩] a w:=hst
 refine za0 ?_
 refine wp_ret ?_
 refine zan ?_ (zai rfl hst (zm 0 rfl))
 exact zbt
theorem zgm (x:RF):Cn Tryz.prog 29 [(RFA x).va] (In (fracCostF x)):=by
 refine Cn.intro Tryz.func29 rfl zk nq (fun B w0 a hst=>?_)
 have hst:St B w0 11 [(0,(RFA x).va)] [] a w0.w:=hst
 refine wp_seq ?_
 refine gl (sts:=[]) (news:=[⟨1,26,ptrH,some 0,_,none⟩]) (sp:=[.alc 0,.val 2 _]) [.o 1] hst (oc (zak rfl rfl rfl (gq 0 rfl)) (zv rfl (za1 za3) o0)) (fun a w hst=>?_)
 have hst:St B w0 11 [(2,_)] [⟨1,26,ptrH,_⟩] a w:=hst
 refine zt<|zay (anc:=[[],[0],[],[2],[],[4],[0,1,2,3,4,5],[0,1,2,3,4,5,6],[0,1,2,3,4,5,6,7]]) (sts:=[none]) (news:=[]) (sp:=[.val 3 _,.val 4 _,.adr 5 1 (.some 0) True,.val 6 _,.adr 7 1 (.some 2) True,.val 8 _,.val 9 _,.val 10 _,.val 2 _]) [.o 8] za7 hst (zv rfl (zab (lz0 0 rfl) zaf) (zv rfl (za5 (xs:=[.tmp 3]) (zsf _) (.cons (vq 0 rfl) .nil)) (oc (ob_a rfl rfl (zaa (lz0 0 rfl) zbn)) (zv rfl (za4 2 rfl zk trivial (lz0 0 rfl) (Sub.part 0 rfl rfl) zac) (oc (ob_a rfl rfl (zaa (lz0 0 rfl) zbf)) (zv rfl (za4 4 rfl zk trivial (lz0 0 rfl) (Sub.part 1 rfl rfl) zac) (zv rfl (za5 (xs:=[.tmp 6,.tmp 8]) (zvw _ _) (.cons (vq 3 rfl) (.cons (vq 5 rfl) .nil))) (zv rfl (zbl (vq 1 rfl) (vq 6 rfl) (rfl)) (zv rfl (za1 (vq 7 rfl)) o0))))))))) zk zk zk zk (fun a w hst=>?_)
 have hst:St B w0 11 [(2,_)] [⟨1,26,ptrH,_⟩] a w:=hst
 refine za0 ?_
 refine wp_ret ?_
 refine zan ?_ (zai rfl hst (zm 0 rfl))
 exact zbt
theorem znk (x:RM):Cn Tryz.prog 28 [(RMA x).va] (In (matCostF x)):=by
 refine Cn.intro Tryz.func28 rfl zk nq (fun B w0 a hst=>?_)
 have hst:St B w0 18 [(0,(RMA x).va)] [] a w0.w:=hst
 refine wp_seq ?_
 refine gl (sts:=[]) (news:=[⟨1,28,ptrH,some 0,_,none⟩]) (sp:=[.alc 0,.val 2 _]) [.o 1] hst (oc (zak rfl rfl rfl (gq 0 rfl)) (zv rfl (za1 za3) o0)) (fun a w hst=>?_)
 have hst:St B w0 18 [(2,_)] [⟨1,28,ptrH,_⟩] a w:=hst
 refine zt<|zay (anc:=[[],[0],[0,1],[],[3],[0,1,2,3,4],[0,1,2,3,4,5],[],[7],[0,1,2,3,4,5,7,8],[0,1,2,3,4,5,6,7,8,9],[],[11],[0,1,2,3,4,5,7,8,9,11,12],[0,1,2,3,4,5,6,7,8,9,10,11,12,13],[0,1,2,3,4,5,6,7,8,9,10,11,12,13,14]]) (sts:=[none]) (news:=[]) (sp:=[.adr 3 1 (.some 0) True,.val 4 _,.val 5 _,.adr 6 1 (.some 4) True,.val 7 _,.val 8 _,.val 9 _,.adr 10 1 (.some 8) True,.val 11 _,.val 12 _,.val 13 _,.adr 14 1 (.some 12) True,.val 15 _,.val 16 _,.val 17 _,.val 2 _]) [.o 15] za7 hst (oc (ob_a rfl rfl (zaa (lz0 0 rfl) zc4)) (zv rfl (za4 0 rfl zk trivial (lz0 0 rfl) (Sub.part 0 rfl rfl) zaf) (zv rfl (za5 (xs:=[.tmp 4]) (zgm _) (.cons (vq 1 rfl) .nil)) (oc (ob_a rfl rfl (zaa (lz0 0 rfl) zca)) (zv rfl (za4 3 rfl zk trivial (lz0 0 rfl) (Sub.part 1 rfl rfl) zaf) (zv rfl (za5 (xs:=[.tmp 7]) (zgm _) (.cons (vq 4 rfl) .nil)) (zv rfl (zbl (vq 2 rfl) (vq 5 rfl) (rfl)) (oc (ob_a rfl rfl (zaa (lz0 0 rfl) zc6)) (zv rfl (za4 7 rfl zk trivial (lz0 0 rfl) (Sub.part 2 rfl rfl) zaf) (zv rfl (za5 (xs:=[.tmp 11]) (zgm _) (.cons (vq 8 rfl) .nil)) (zv rfl (zbl (vq 6 rfl) (vq 9 rfl) (rfl)) (oc (ob_a rfl rfl (zaa (lz0 0 rfl) zc1)) (zv rfl (za4 11 rfl zk trivial (lz0 0 rfl) (Sub.part 3 rfl rfl) zaf) (zv rfl (za5 (xs:=[.tmp 15]) (zgm _) (.cons (vq 12 rfl) .nil)) (zv rfl (zbl (vq 10 rfl) (vq 13 rfl) (rfl)) (zv rfl (za1 (vq 14 rfl)) o0)))))))))))))))) zk zk zk zk (fun a w hst=>?_)
 have hst:St B w0 18 [(2,_)] [⟨1,28,ptrH,_⟩] a w:=hst
 refine za0 ?_
 refine wp_ret ?_
 refine zan ?_ (zai rfl hst (zm 0 rfl))
 exact zbt
theorem beyond_c (l:List Int):Cn Tryz.prog 27 [(SlA 3 [] (l.map (NumA .i64))).va] (Bo (bydF 0 l)):=by
 refine Cn.intro Tryz.func27 rfl zk nq (fun B w0 a hst=>?_)
 have hst:St B w0 19 [(0,(SlA 3 [] (l.map (NumA .i64))).va)] [] a w0.w:=hst
 have hl:=zxv (hst.vals (0,(SlA 3 [] (l.map (NumA .i64))).va) (zm 0 rfl))
 refine wp_seq ?_
 refine gl (sts:=[]) (news:=[]) (sp:=[.val 2 _]) [.g 0,.o 0] hst (zv rfl (za1 zb7) o0) (fun a w hst=>?_)
 have hst:St B w0 19 [(0,_),(2,_)] [] a w:=hst
 refine zt<|gl (sts:=[]) (news:=[]) (sp:=[.val 3 _]) [.g 0,.g 1,.o 0] hst (zv rfl (za1 za3) o0) (fun a w hst=>?_)
 have hst:St B w0 19 [(0,_),(2,_),(3,_)] [] a w:=hst
 refine zt ?_
 refine wp_seq ?_
 refine gl (sts:=[]) (news:=[]) (sp:=[.val 4 _]) [.g 0,.g 1,.g 2,.o 0] hst (zv rfl (za1 za3) o0) (fun a w hst=>?_)
 have hst:St B w0 19 [(0,_),(2,_),(3,_),(4,_)] [] a w:=hst
 refine za0 ?_
 refine wp_block ?_
 have hst:=St.sel hst [0,2,3]
 refine wp_loop_ghost (fun n a w=>∃ (j:Nat) (m:Int),(n+j=l.length∧bydF 0 l=bydF m (l.drop j))∧St B w0 19 [(0,(SlA 3 [] (l.map (NumA .i64))).va),(3,In m),(4,In (j:Nat))] [] a w) (l.length) ?_ ?_
 ·exact ⟨0,0,⟨by omega,rfl⟩,hst⟩
 intro n a w hI
 obtain ⟨j,m,⟨hn,hm⟩,hst⟩:=hI
 refine wp_seq ?_
 refine wp_seq ?_
 refine gl (sts:=[]) (news:=[]) (sp:=[.val 5 _,.val 6 _,.val 7 _,.val 8 _]) [.g 0,.g 1,.g 2,.o 3] hst (zv rfl (za2 (gq 2 rfl)) (zv rfl (za2 (gq 0 rfl)) (zv rfl (zc7 Tryz.underlying114 (vq 1 rfl)) (zv rfl (zba (vq 0 rfl) (vq 2 rfl)) o0)))) (fun a w hst=>?_)
 have hst:St B w0 19 [(0,_),(3,_),(4,_),(8,_)] [] a w:=hst
 refine za0 ?_
 refine za8 hst (zm 3 rfl) (fun hb0=>?_) (fun hb0=>?_)
 ·have hj:j<l.length:=by rw [List.length_map] at hb0; simp at hb0; omega
  refine wp_skip ?_
  refine zt ?_
  refine wp_block ?_
  refine wp_seq ?_
  refine gl (sts:=[]) (news:=[]) (sp:=[.val 11 _,.val 12 _,.val 13 _,.val 14 _,.val 15 _,.val 16 _,.val 3 _]) [.g 0,.g 2,.o 6] hst (zv rfl (za2 (gq 1 rfl)) (zv rfl (za2 (gq 0 rfl)) (zv rfl (za2 (gq 2 rfl)) (zv rfl (zhb sl_114 (map_n fun _=>rfl) (vq 1 rfl) (vq 2 rfl) (zqf hj)) (zv rfl (zae (vq 3 rfl) ty_3) (zv rfl (zbl (vq 0 rfl) (vq 4 rfl) (rfl)) (zv rfl (za1 (vq 5 rfl)) o0))))))) (fun a w hst=>?_)
  have hst:St B w0 19 [(0,_),(4,_),(3,_)] [] a w:=hst
  refine zt<|gl (sts:=[]) (news:=[]) (sp:=[.val 17 _,.val 18 _]) [.g 0,.g 1,.g 2,.o 1] hst (zv rfl (za2 (gq 2 rfl)) (zv rfl (zgq (vq 0 rfl) za3) o0)) (fun a w hst=>?_)
  have hst:St B w0 19 [(0,_),(4,_),(3,_),(18,_)] [] a w:=hst
  refine za0 ?_
  refine za8 hst (zm 3 rfl) (fun hb1=>?_) (fun hb1=>?_)
  ·refine wp_seq ?_
   refine gl (sts:=[]) (news:=[]) (sp:=[.val 2 _]) [.g 0,.g 1,.g 2,.o 0] hst (zv rfl (za1 zb7) o0) (fun a w hst=>?_)
   have hst:St B w0 19 [(0,_),(4,_),(3,_),(2,_)] [] a w:=hst
   refine za0 ?_
   refine wp_ret ?_
   refine zcf ?_
   refine zar ?_
   refine zar ?_
   refine zcf ?_
   refine zar ?_
   refine zan ?_ (zai rfl hst (zm 3 rfl))
   exact zbz (congrArg Bo ((byd_yes hj hb1).trans hm.symm))
  ·refine wp_skip ?_
   refine zat ?_
   refine za0 ?_
   refine gl (sts:=[]) (news:=[]) (sp:=[.val 9 _,.val 10 _,.val 4 _]) [.g 0,.g 2,.o 2] hst (zv rfl (za2 (gq 1 rfl)) (zv rfl (zbl (vq 0 rfl) za3 (wi_nx hj hl)) (zv rfl (za1 (vq 1 rfl)) o0))) (fun a w hst=>?_)
   have hst:St B w0 19 [(0,_),(3,_),(4,_)] [] a w:=hst
   refine za0 ?_
   have hst:=St.sel hst [0,1,2]
   exact ⟨n-1,by omega,j+1,_,⟨by omega,hm.trans (byd_no hj hb1)⟩,hst⟩
 ·obtain rfl:j=l.length:=by rw [List.length_map] at hb0; simp at hb0; omega
  refine wp_exit ?_
  refine za6 ?_
  refine za6 ?_
  refine zaj ?_
  refine zt<|gl (sts:=[]) (news:=[]) (sp:=[.val 2 _]) [.o 0] hst (zv rfl (za1 zb7) o0) (fun a w hst=>?_)
  have hst:St B w0 19 [(2,_)] [] a w:=hst
  refine za0 ?_
  refine wp_ret ?_
  refine zan ?_ (zai rfl hst (zm 0 rfl))
  exact zbz (congrArg Bo (by rw [hm,List.drop_of_length_le (Nat.le_refl _)]; rfl))
theorem zy3 {a b:RI}(hn:a.neg=b.neg)(h:a.mag=b.mag):true=decide (a=b):=by
 cases a; cases b; simp_all
theorem zy6 {a b:RI}(h:((a.neg != b.neg) || (((a.mag.length:Nat):Int) != ((b.mag.length:Nat):Int)))=true):false=decide (a=b):=by
 symm
 apply decide_eq_false
 rintro rfl
 simp at h
theorem zy4 {a b:RI}(h:((a.neg != b.neg) || (((a.mag.length:Nat):Int) != ((b.mag.length:Nat):Int)))=false):a.neg=b.neg∧a.mag.length=b.mag.length:=by
 simp only [Bool.or_eq_false_iff,bne_eq_false_iff_eq] at h
 exact ⟨h.1,by omega⟩
theorem zy5 {a b:RI}{j:Nat}(h1:j<a.mag.length)(h2:j<b.mag.length)(h:(((a.mag[j]:Nat):Int) != ((b.mag[j]:Nat):Int))=true):false=decide (a=b):=by
 symm
 apply decide_eq_false
 rintro rfl
 simp at h
theorem take_eq {l m:List Nat}{j:Nat}(h1:j<l.length)(h2:j<m.length)(h:l.take j=m.take j)(h3:(((l[j]:Nat):Int) != ((m[j]:Nat):Int))=false):l.take (j+1)=m.take (j+1):=by
 rw [List.take_succ_eq_append_getElem h1,List.take_succ_eq_append_getElem h2,h]
 simp only [bne_eq_false_iff_eq] at h3
 rw [show l[j]=m[j] by omega]
theorem rf_eq {a b:RF}:(decide (a.num=b.num)&&decide (a.den=b.den))=decide (a=b):=by
 cases a; cases b; rw [Bool.eq_iff_iff]; simp
theorem rm_eq {a b:RM}:(((decide (a.a=b.a)&&decide (a.b=b.b))&&decide (a.c=b.c))&&decide (a.d=b.d))=decide (a=b):=by
 cases a; cases b; rw [Bool.eq_iff_iff]; simp [and_assoc]
theorem zjg (x y:RI):Cn Tryz.prog 105 [(RIA x).va,(RIA y).va] (Bo (decide (x=y))):=by
 refine Cn.intro Tryz.func105 rfl zk nq (fun B w0 a hst=>?_)
 have hst:St B w0 38 [(0,(RIA x).va),(1,(RIA y).va)] [] a w0.w:=hst
 have hxk:=zi4 (hst.vals (0,(RIA x).va) (zm 0 rfl))
 refine wp_seq ?_
 refine gl (sts:=[]) (news:=[⟨2,24,ptrH,some 0,_,none⟩,⟨3,24,ptrH,some 1,_,none⟩]) (sp:=[.alc 0,.alc 1,.val 4 _]) [.o 2] hst (oc (zak rfl rfl rfl (gq 0 rfl)) (oc (zak rfl rfl rfl (gq 1 rfl)) (zv rfl (za1 zb7) o0))) (fun a w hst=>?_)
 have hst:St B w0 38 [(4,_)] [⟨2,24,ptrH,_⟩,⟨3,24,ptrH,_⟩] a w:=hst
 refine zt ?_
 refine wp_seq ?_
 refine gl (sts:=[none,none]) (news:=[]) (sp:=[.adr 6 2 (.some 0) True,.val 7 _,.adr 8 3 (.some 0) True,.val 9 _,.val 10 _,.val 11 _,.adr 12 2 (.some 1) (_=false),.val 13 (Wh (_=false) _),.val 14 (Wh (_=false) _),.adr 15 3 (.some 1) (_=false),.val 16 (Wh (_=false) _),.val 17 (Wh (_=false) _),.val 18 (Wh (_=false) _),.val 19 _]) [.g 0,.o 13] hst (oc (ob_a rfl rfl (zaa (lz0 0 rfl) zbd)) (zv rfl (za4 0 rfl zk trivial (lz0 0 rfl) (Sub.part 0 rfl rfl) ty_4) (oc (ob_a rfl rfl (zaa (lz0 1 rfl) zbd)) (zv rfl (za4 2 rfl zk trivial (lz0 1 rfl) (Sub.part 0 rfl rfl) ty_4) (zv rfl (zkp zk (vq 1 rfl) (vq 3 rfl)) (zv rfl (za2 (vq 4 rfl)) (oc (zci rfl rfl rfl (vq 5 rfl) nq (fun hg=>zaa (lz0 0 rfl) zal)) (oc (zad rfl rfl rfl (vq 5 rfl) nq (fun hg=>za4 6 rfl zk hg (lz0 0 rfl) (Sub.part 1 rfl rfl) zbg)) (oc (zad rfl rfl rfl (vq 5 rfl) nq (fun hg=>zaz Tryz.underlying22 (za9 (vq 7 rfl) hg))) (oc (zci rfl rfl rfl (vq 5 rfl) nq (fun hg=>zaa (lz0 1 rfl) zal)) (oc (zad rfl rfl rfl (vq 5 rfl) nq (fun hg=>za4 9 rfl zk hg (lz0 1 rfl) (Sub.part 1 rfl rfl) zbg)) (oc (zad rfl rfl rfl (vq 5 rfl) nq (fun hg=>zaz Tryz.underlying22 (za9 (vq 10 rfl) hg))) (oc (zad rfl rfl rfl (vq 5 rfl) nq (fun hg=>zd8 (za9 (vq 8 rfl) hg) (za9 (vq 11 rfl) hg))) (zv rfl (r_or (vq 5 rfl) (vq 12 rfl)) o0)))))))))))))) (fun a w hst=>?_)
 have hst:St B w0 38 [(4,_),(19,_)] [⟨2,24,ptrH,_⟩,⟨3,24,ptrH,_⟩] a w:=hst
 refine za0 ?_
 refine za8 hst (zm 1 rfl) (fun hb0=>?_) (fun hb0=>?_)
 ·refine wp_seq ?_
  refine gl (sts:=[none,none]) (news:=[]) (sp:=[.val 4 _]) [.o 0] hst (zv rfl (za1 zb7) o0) (fun a w hst=>?_)
  have hst:St B w0 38 [(4,_)] [⟨2,24,ptrH,_⟩,⟨3,24,ptrH,_⟩] a w:=hst
  refine za0 ?_
  refine wp_ret ?_
  refine zar ?_
  refine zan ?_ (zai rfl hst (zm 0 rfl))
  exact zbz (congrArg Bo (zy6 hb0))
 ·obtain ⟨hn1,hl⟩:=zy4 hb0
  refine wp_skip ?_
  refine zt ?_
  refine wp_seq ?_
  refine gl (sts:=[none,none]) (news:=[]) (sp:=[.val 5 _]) [.g 0,.o 0] hst (zv rfl (za1 za3) o0) (fun a w hst=>?_)
  have hst:St B w0 38 [(4,_),(5,_)] [⟨2,24,ptrH,_⟩,⟨3,24,ptrH,_⟩] a w:=hst
  refine za0 ?_
  refine wp_block ?_
  have hst:=St.sel hst [1]
  refine wp_loop_ghost (fun n a w=>∃ j:Nat,(n+j=x.mag.length∧x.mag.take j=y.mag.take j)∧St B w0 38 [(5,In (j:Nat))] [⟨2,24,ptrH,RIA x⟩,⟨3,24,ptrH,RIA y⟩] a w) (x.mag.length) ?_ ?_
  ·exact ⟨0,⟨by omega,rfl⟩,hst⟩
  intro n a w hI
  obtain ⟨j,⟨hn,ht⟩,hst⟩:=hI
  refine wp_seq ?_
  refine wp_seq ?_
  refine gl (sts:=[none,none]) (news:=[]) (sp:=[.val 20 _,.adr 21 2 (.some 1) True,.val 22 _,.val 23 _,.val 24 _]) [.g 0,.o 4] hst (zv rfl (za2 (gq 0 rfl)) (oc (ob_a rfl rfl (zaa (lz0 0 rfl) zal)) (zv rfl (za4 1 rfl zk trivial (lz0 0 rfl) (Sub.part 1 rfl rfl) zbg) (zv rfl (zaz Tryz.underlying22 (vq 2 rfl)) (zv rfl (zba (vq 0 rfl) (vq 3 rfl)) o0))))) (fun a w hst=>?_)
  have hst:St B w0 38 [(5,_),(24,_)] [⟨2,24,ptrH,_⟩,⟨3,24,ptrH,_⟩] a w:=hst
  refine za0 ?_
  refine za8 hst (zm 1 rfl) (fun hb1=>?_) (fun hb1=>?_)
  ·have hj:j<x.mag.length:=by simp at hb1; omega
   refine wp_skip ?_
   refine zt ?_
   refine wp_block ?_
   refine wp_seq ?_
   refine zay (anc:=[[],[0],[],[0,1,2],[0,1,2,3],[],[5],[],[5,6,7],[5,6,7,8],[0,1,2,3,4,5,6,7,8,9]]) (sts:=[none,none]) (news:=[]) (sp:=[.adr 27 2 (.some 1) True,.val 28 _,.val 29 _,.val 30 _,.val 31 _,.adr 32 3 (.some 1) True,.val 33 _,.val 34 _,.val 35 _,.val 36 _,.val 37 _]) [.g 0,.o 10] za7 hst (oc (ob_a rfl rfl (zaa (lz0 0 rfl) zal)) (zv rfl (za4 0 rfl zk trivial (lz0 0 rfl) (Sub.part 1 rfl rfl) zbg) (zv rfl (za2 (gq 0 rfl)) (zv rfl (zcb zbi (vq 1 rfl) (vq 2 rfl) zo) (zv rfl (zae (vq 3 rfl) zb3) (oc (ob_a rfl rfl (zaa (lz0 1 rfl) zal)) (zv rfl (za4 5 rfl zk trivial (lz0 1 rfl) (Sub.part 1 rfl rfl) zbg) (zv rfl (za2 (gq 0 rfl)) (zv rfl (zcb zbi (vq 6 rfl) (vq 7 rfl) zo) (zv rfl (zae (vq 8 rfl) zb3) (zv rfl (zd8 (vq 4 rfl) (vq 9 rfl)) o0))))))))))) zk zk zk zk (fun a w hst=>?_)
   have hst:St B w0 38 [(5,_),(37,_)] [⟨2,24,ptrH,_⟩,⟨3,24,ptrH,_⟩] a w:=hst
   refine za0 ?_
   refine za8 hst (zm 1 rfl) (fun hb2=>?_) (fun hb2=>?_)
   ·refine wp_seq ?_
    refine gl (sts:=[none,none]) (news:=[]) (sp:=[.val 4 _]) [.g 0,.o 0] hst (zv rfl (za1 zb7) o0) (fun a w hst=>?_)
    have hst:St B w0 38 [(5,_),(4,_)] [⟨2,24,ptrH,_⟩,⟨3,24,ptrH,_⟩] a w:=hst
    refine za0 ?_
    refine wp_ret ?_
    refine zcf ?_
    refine zar ?_
    refine zar ?_
    refine zcf ?_
    refine zar ?_
    refine zan ?_ (zai rfl hst (zm 1 rfl))
    exact zbz (congrArg Bo (zy5 hj zo hb2))
   ·refine wp_skip ?_
    refine zat ?_
    refine za0 ?_
    refine gl (sts:=[none,none]) (news:=[]) (sp:=[.val 25 _,.val 26 _,.val 5 _]) [.o 2] hst (zv rfl (za2 (gq 0 rfl)) (zv rfl (zbl (vq 0 rfl) za3 (wi_nx hj hxk.2)) (zv rfl (za1 (vq 1 rfl)) o0))) (fun a w hst=>?_)
    have hst:St B w0 38 [(5,_)] [⟨2,24,ptrH,_⟩,⟨3,24,ptrH,_⟩] a w:=hst
    refine za0 ?_
    have hst:=St.sel hst [0]
    exact ⟨n-1,by omega,j+1,⟨by omega,take_eq hj zo ht hb2⟩,hst⟩
  ·obtain rfl:j=x.mag.length:=by simp at hb1; omega
   refine wp_exit ?_
   refine za6 ?_
   refine za6 ?_
   refine zaj ?_
   refine zt<|gl (sts:=[none,none]) (news:=[]) (sp:=[.val 4 _]) [.o 0] hst (zv rfl (za1 zb7) o0) (fun a w hst=>?_)
   have hst:St B w0 38 [(4,_)] [⟨2,24,ptrH,_⟩,⟨3,24,ptrH,_⟩] a w:=hst
   refine za0 ?_
   refine wp_ret ?_
   refine zan ?_ (zai rfl hst (zm 0 rfl))
   exact zbz (congrArg Bo (zy3 hn1 (by rw [List.take_of_length_le (Nat.le_refl _),List.take_of_length_le zo] at ht; exact ht)))
theorem zd7 (x y:RF):Cn Tryz.prog 20 [(RFA x).va,(RFA y).va] (Bo (decide (x=y))):=by
 refine Cn.intro Tryz.func20 rfl zk nq (fun B w0 a hst=>?_)
 have hst:St B w0 17 [(0,(RFA x).va),(1,(RFA y).va)] [] a w0.w:=hst
 refine wp_seq ?_
 refine gl (sts:=[]) (news:=[⟨2,26,ptrH,some 0,_,none⟩,⟨3,26,ptrH,some 1,_,none⟩]) (sp:=[.alc 0,.alc 1,.val 4 _]) [.o 2] hst (oc (zak rfl rfl rfl (gq 0 rfl)) (oc (zak rfl rfl rfl (gq 1 rfl)) (zv rfl (za1 zb7) o0))) (fun a w hst=>?_)
 have hst:St B w0 17 [(4,_)] [⟨2,26,ptrH,_⟩,⟨3,26,ptrH,_⟩] a w:=hst
 refine zt<|gl (sts:=[none,none]) (news:=[]) (sp:=[.adr 5 2 (.some 0) True,.val 6 _,.adr 7 3 (.some 0) True,.val 8 _,.val 9 _,.val 10 _,.adr 11 2 (.some 2) (_=true),.val 12 (Wh (_=true) _),.adr 13 3 (.some 2) (_=true),.val 14 (Wh (_=true) _),.val 15 (Wh (_=true) _),.val 16 _,.val 4 _]) [.o 12] hst (oc (ob_a rfl rfl (zaa (lz0 0 rfl) zbn)) (zv rfl (za4 0 rfl zk trivial (lz0 0 rfl) (Sub.part 0 rfl rfl) zac) (oc (ob_a rfl rfl (zaa (lz0 1 rfl) zbn)) (zv rfl (za4 2 rfl zk trivial (lz0 1 rfl) (Sub.part 0 rfl rfl) zac) (zv rfl (za5 (xs:=[.tmp 6,.tmp 8]) (zjg _ _) (.cons (vq 1 rfl) (.cons (vq 3 rfl) .nil))) (zv rfl (za2 (vq 4 rfl)) (oc (zci rfl rfl rfl (vq 5 rfl) nq (fun hg=>zaa (lz0 0 rfl) zbf)) (oc (zad rfl rfl rfl (vq 5 rfl) nq (fun hg=>za4 6 rfl zk hg (lz0 0 rfl) (Sub.part 1 rfl rfl) zac)) (oc (zci rfl rfl rfl (vq 5 rfl) nq (fun hg=>zaa (lz0 1 rfl) zbf)) (oc (zad rfl rfl rfl (vq 5 rfl) nq (fun hg=>za4 8 rfl zk hg (lz0 1 rfl) (Sub.part 1 rfl rfl) zac)) (oc (zad rfl rfl rfl (vq 5 rfl) nq (fun hg=>za5 (xs:=[.tmp 12,.tmp 14]) (zjg _ _) (.cons (za9 (vq 7 rfl) hg) (.cons (za9 (vq 9 rfl) hg) .nil)))) (zv rfl (zcm (vq 5 rfl) (vq 10 rfl)) (zv rfl (za1 (vq 11 rfl)) o0))))))))))))) (fun a w hst=>?_)
 have hst:St B w0 17 [(4,_)] [⟨2,26,ptrH,_⟩,⟨3,26,ptrH,_⟩] a w:=hst
 refine za0 ?_
 refine wp_ret ?_
 refine zan ?_ (zai rfl hst (zm 0 rfl))
 exact zbz (congrArg Bo rf_eq)
theorem zd1 (x y:RM):Cn Tryz.prog 57 [(RMA x).va,(RMA y).va] (Bo (decide (x=y))):=by
 refine Cn.intro Tryz.func57 rfl zk nq (fun B w0 a hst=>?_)
 have hst:St B w0 31 [(0,(RMA x).va),(1,(RMA y).va)] [] a w0.w:=hst
 refine wp_seq ?_
 refine gl (sts:=[]) (news:=[⟨2,28,ptrH,some 0,_,none⟩,⟨3,28,ptrH,some 1,_,none⟩]) (sp:=[.alc 0,.alc 1,.val 4 _]) [.o 2] hst (oc (zak rfl rfl rfl (gq 0 rfl)) (oc (zak rfl rfl rfl (gq 1 rfl)) (zv rfl (za1 zb7) o0))) (fun a w hst=>?_)
 have hst:St B w0 31 [(4,_)] [⟨2,28,ptrH,_⟩,⟨3,28,ptrH,_⟩] a w:=hst
 refine zt<|gl (sts:=[none,none]) (news:=[]) (sp:=((.adr 5 2 (.some 0) True:Sp)::(.val 6 _)::(.adr 7 3 (.some 0) True)::(.val 8 _)::(.val 9 _)::(.val 10 _)::(.adr 11 2 (.some 4) (_=true))::(.val 12 (Wh (_=true) _))::(.adr 13 3 (.some 4) (_=true))::(.val 14 (Wh (_=true) _))::(.val 15 (Wh (_=true) _))::(.val 16 _)::(.val 17 _)::(.adr 18 2 (.some 8) (_=true))::(.val 19 (Wh (_=true) _))::(.adr 20 3 (.some 8) (_=true))::(.val 21 (Wh (_=true) _))::(.val 22 (Wh (_=true) _))::(.val 23 _)::(.val 24 _)::(.adr 25 2 (.some 12) (_=true))::(.val 26 (Wh (_=true) _))::(.adr 27 3 (.some 12) (_=true))::(.val 28 (Wh (_=true) _))::(.val 29 (Wh (_=true) _))::(.val 30 _)::(.val 4 _)::[])) [.o 26] hst (oc (ob_a rfl rfl (zaa (lz0 0 rfl) zc4)) (zv rfl (za4 0 rfl zk trivial (lz0 0 rfl) (Sub.part 0 rfl rfl) zaf) (oc (ob_a rfl rfl (zaa (lz0 1 rfl) zc4)) (zv rfl (za4 2 rfl zk trivial (lz0 1 rfl) (Sub.part 0 rfl rfl) zaf) (zv rfl (za5 (xs:=[.tmp 6,.tmp 8]) (zd7 _ _) (.cons (vq 1 rfl) (.cons (vq 3 rfl) .nil))) (zv rfl (za2 (vq 4 rfl)) (oc (zci rfl rfl rfl (vq 5 rfl) nq (fun hg=>zaa (lz0 0 rfl) zca)) (oc (zad rfl rfl rfl (vq 5 rfl) nq (fun hg=>za4 6 rfl zk hg (lz0 0 rfl) (Sub.part 1 rfl rfl) zaf)) (oc (zci rfl rfl rfl (vq 5 rfl) nq (fun hg=>zaa (lz0 1 rfl) zca)) (oc (zad rfl rfl rfl (vq 5 rfl) nq (fun hg=>za4 8 rfl zk hg (lz0 1 rfl) (Sub.part 1 rfl rfl) zaf)) (oc (zad rfl rfl rfl (vq 5 rfl) nq (fun hg=>za5 (xs:=[.tmp 12,.tmp 14]) (zd7 _ _) (.cons (za9 (vq 7 rfl) hg) (.cons (za9 (vq 9 rfl) hg) .nil)))) (zv rfl (zcm (vq 5 rfl) (vq 10 rfl)) (zv rfl (za2 (vq 11 rfl)) (oc (zci rfl rfl rfl (vq 12 rfl) nq (fun hg=>zaa (lz0 0 rfl) zc6)) (oc (zad rfl rfl rfl (vq 12 rfl) nq (fun hg=>za4 13 rfl zk hg (lz0 0 rfl) (Sub.part 2 rfl rfl) zaf)) (oc (zci rfl rfl rfl (vq 12 rfl) nq (fun hg=>zaa (lz0 1 rfl) zc6)) (oc (zad rfl rfl rfl (vq 12 rfl) nq (fun hg=>za4 15 rfl zk hg (lz0 1 rfl) (Sub.part 2 rfl rfl) zaf)) (oc (zad rfl rfl rfl (vq 12 rfl) nq (fun hg=>za5 (xs:=[.tmp 19,.tmp 21]) (zd7 _ _) (.cons (za9 (vq 14 rfl) hg) (.cons (za9 (vq 16 rfl) hg) .nil)))) (zv rfl (zcm (vq 12 rfl) (vq 17 rfl)) (zv rfl (za2 (vq 18 rfl)) (oc (zci rfl rfl rfl (vq 19 rfl) nq (fun hg=>zaa (lz0 0 rfl) zc1)) (oc (zad rfl rfl rfl (vq 19 rfl) nq (fun hg=>za4 20 rfl zk hg (lz0 0 rfl) (Sub.part 3 rfl rfl) zaf)) (oc (zci rfl rfl rfl (vq 19 rfl) nq (fun hg=>zaa (lz0 1 rfl) zc1)) (oc (zad rfl rfl rfl (vq 19 rfl) nq (fun hg=>za4 22 rfl zk hg (lz0 1 rfl) (Sub.part 3 rfl rfl) zaf)) (oc (zad rfl rfl rfl (vq 19 rfl) nq (fun hg=>za5 (xs:=[.tmp 26,.tmp 28]) (zd7 _ _) (.cons (za9 (vq 21 rfl) hg) (.cons (za9 (vq 23 rfl) hg) .nil)))) (zv rfl (zcm (vq 19 rfl) (vq 24 rfl)) (zv rfl (za1 (vq 25 rfl)) o0))))))))))))))))))))))))))) (fun a w hst=>?_)
 have hst:St B w0 31 [(4,_)] [⟨2,28,ptrH,_⟩,⟨3,28,ptrH,_⟩] a w:=hst
 refine za0 ?_
 refine wp_ret ?_
 refine zan ?_ (zai rfl hst (zm 0 rfl))
 exact zbz (congrArg Bo rm_eq)
end Go.Proofs.YthncfchnkjemiaaGreatDoor
namespace Go.Proofs.YthncfchnkjemiaaGreatDoor
open Go Go.RowKit
open Go.ChangeShapes Go.WideShapes Go.ChangeAt
theorem zx3 {B:Nat}{w:World}:∀ {l:List As} {cs:List Value},cs.length=(l.map (·.n)).sum→(∀ (k:Nat) (A:As),l[k]?=some A→A.p B ((cs.drop (offs l k)).take A.n) w)→(cat l).p B cs w
 | [],cs,hl,_=>by
  have:cs=[]:=List.length_eq_zero_iff.1 (by simpa using hl)
  subst this
  exact ⟨[],rfl,.nil⟩
 | A::l,cs,hl,h=>by
  simp only [List.map_cons,List.sum_cons] at hl
  have h0:=h 0 A rfl
  simp only [offs,List.take_zero,List.map_nil,List.sum_nil,List.drop_zero] at h0
  obtain ⟨ps,e,hps⟩:=zx3 (l:=l) (cs:=cs.drop A.n) (B:=B) (w:=w) (by simp; omega) fun k A' hk=>by
   have:=h (k+1) A' (by simpa using hk)
   simp only [offs,List.take_succ_cons,List.map_cons,List.sum_cons] at this
   rw [List.drop_drop]
   exact this
  exact ⟨cs.take A.n::ps,by rw [List.flatten_cons,← e,List.take_append_drop],.cons h0 hps⟩
section
variable {H:Type} {enc:TypeId × Value→H} {w:World} {base:Nat} {spare:Nat→Bool} {held:Bool} {fuel:Nat} {cs:List Value} {x:DataW H × List MemPlace}
theorem rd_mg (h:DataW.trod enc Tryz.prog w base spare held fuel 22 cs=some x):∃ l,(MgA l).p w.heap.size cs w:=by
 rcases open_ints Tryz.underlying22 Tryz.underlying168 zk h with ⟨hcs,_⟩ | ⟨a,len,cap,zs,rfl,_,hl,hm,hz,_,hcell,hwz⟩
 ·subst hcs
  exact ⟨[],zg1 _ _⟩
 ·have hzl:len≤zs.length:=by rw [hz]; split <;> omega
  have hnn:∀ n∈zs,0≤n∧n<4294967296:=fun n hn=>by
   have:=hwz n hn
   simp [Lit.wf,IntKind.min,IntKind.max,IntKind.signed,IntKind.bits] at this
   omega
  have hlen:((zs.take len).map Int.toNat).length=len:=by simp; omega
  refine ⟨(zs.take len).map Int.toNat,?_⟩
  have hM:Mag w.heap.size w (some a) cap ((zs.take len).map Int.toNat):=by
   refine ⟨fun y hy=>?_,by omega,hm,fun hn=>?_⟩
   ·obtain ⟨n,hn,rfl⟩:=List.mem_map.1 hy
    have:=hnn n (List.mem_of_mem_take hn)
    omega
   ·obtain ⟨b,off,rfl,hc⟩:=ints_at hcell zo
    have hb:b<w.heap.size:=World.block_lt_of_cell? w _ (hc 0 zo)
    refine ⟨b,off,rfl,hb,.inl hb,fun j hj=>?_⟩
    rw [hc j zo]
    have hjz:j<zs.length:=by omega
    have:=hnn _ (List.getElem_mem hjz)
    congr 2
    simp only [List.getElem_map,List.getElem_take]
    rw [Int.toNat_of_nonneg this.1]
    simp [List.getD_eq_getElem?_getD,List.getElem?_eq_getElem hjz]
  obtain ⟨ds,hp,hv⟩:=zez hM hlen.symm
  have hd:=(MgA ((zs.take len).map Int.toNat)).len _ _ _ hp
  match ds,hd with
  | [d],_ =>
   have:d=.slice (some a) len cap:=hv.symm
   subst this
   exact hp
theorem zx1 {B:Nat}{A0 A1:As}(h0:A0.p B ((cs.drop 0).take A0.n) w)(h1:A1.p B ((cs.drop A0.n).take A1.n) w)(hl:cs.length=A0.n+A1.n):(cat [A0,A1]).p B cs w :=
 zx3 (by simpa using hl) fun k A hk=>by
  match k,hk with
  | 0,hk=>simp at hk; subst hk; exact h0
  | 1,hk=>simp at hk; subst hk; simpa [offs] using h1
theorem cat_four {B:Nat}{A0 A1 A2 A3:As}(h0:A0.p B ((cs.drop 0).take A0.n) w)(h1:A1.p B ((cs.drop A0.n).take A1.n) w)(h2:A2.p B ((cs.drop (A0.n+A1.n)).take A2.n) w)(h3:A3.p B ((cs.drop (A0.n+(A1.n+A2.n))).take A3.n) w)(hl:cs.length=A0.n+(A1.n+(A2.n+A3.n))):(cat [A0,A1,A2,A3]).p B cs w :=
 zx3 (by simpa using hl) fun k A hk=>by
  match k,hk with
  | 0,hk=>simp at hk; subst hk; exact h0
  | 1,hk=>simp at hk; subst hk; simpa [offs] using h1
  | 2,hk=>simp at hk; subst hk; simpa [offs] using h2
  | 3,hk=>simp at hk; subst hk; simpa [offs] using h3
theorem rd_bo (h:DataW.trod enc Tryz.prog w base spare held fuel 4 cs=some x):∃ b,(BoA b).p w.heap.size cs w:=by
 obtain ⟨b,hb,_⟩:=DataW.trod_bool Tryz.underlying4 h
 exact ⟨b,hb⟩
end
end Go.Proofs.YthncfchnkjemiaaGreatDoor
namespace Go.Proofs.YthncfchnkjemiaaGreatDoor
open Go Go.RowKit
theorem zkl {r:Rat}(h:r.num.natAbs<4294967296∧r.den<4294967296):longQ r=false :=
 longQ_of (k:=1) ⟨zlu zo,zlu zo⟩ zd
structure OkG (p:GQ):Prop where
 re:longQ p.re=false
 im:longQ p.im=false
 pos:0<p.im
theorem zqh:longQ 1=false:=zkl zd
end Go.Proofs.YthncfchnkjemiaaGreatDoor
namespace Go.Proofs.YthncfchnkjemiaaGreatDoor
open Go Go.RowKit
theorem div_pos {x y:Rat}(h:0<x)(h':0<y):0<x/y:=Rat.mul_pos h (Rat.inv_pos.2 h')
theorem znn:longQ 0=false:=zkl zd
end Go.Proofs.YthncfchnkjemiaaGreatDoor
