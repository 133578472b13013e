import Derived.Test.YtlpppkkggljdcaaGreatTwAa
import Derived.Test.YtlpppkkggljdcaaGreatTwAc
import Derived.Test.YtlpppkkggljdcaaGreatTwAo
set_option linter.unusedVariables false
set_option linter.unusedSimpArgs false
set_option linter.unusedSectionVars false
set_option maxRecDepth 100000
namespace Go.Proofs.YtlpppkkggljdcaaGreat
open Go Go.RowKit
theorem zfo {c d e f:Nat}{x y z u:Rat}(hk:c+d+e+f≤137438953472):Cn Tryz.prog 120 [Qs c x,Qs d y,Qs e z,Qs f u] (Qs (c+d+(e+f)+1) (x*y+z*u)):=by
 refine Cn.intro Tryz.func120 rfl zk nq (fun B w0 a hst=>?_)
 have hst:St B w0 16 [(0,Qs c x),(1,Qs d y),(2,Qs e z),(3,Qs f u)] [] a w0.w:=hst
 refine wp_seq ?_
 refine gl (sts:=[]) (news:=[⟨4,37,ptrH,some 0,_,none⟩,⟨5,37,ptrH,some 1,_,none⟩,⟨6,37,ptrH,some 2,_,none⟩,⟨7,37,ptrH,some 3,_,none⟩,⟨8,37,ptrH,some 4,_,none⟩]) (sp:=[.alc 0,.alc 1,.alc 2,.alc 3,.alc 4]) [] hst (oc (zam rfl rfl rfl (gq 0 rfl)) (oc (zam rfl rfl rfl (gq 1 rfl)) (oc (zam rfl rfl rfl (gq 2 rfl)) (oc (zam rfl rfl rfl (gq 3 rfl)) (oc (zag rfl rfl rfl (Str.zero zaq)) o0))))) (fun a w hst=>?_)
 have hst:St B w0 16 [] [⟨4,37,ptrH,_⟩,⟨5,37,ptrH,_⟩,⟨6,37,ptrH,_⟩,⟨7,37,ptrH,_⟩,⟨8,37,ptrH,_⟩] a w:=hst
 refine zt<|zau (anc:=[[],[],[0,1],[],[],[0,1,2,3,4],[0,1,2,3,4,5],[0,1,2,3,4,5,6]]) (sts:=[none,none,none,none,some (7,_)]) (news:=[]) (sp:=[.val 9 _,.val 10 _,.val 11 _,.val 12 _,.val 13 _,.val 14 _,.val 15 _,.sto 4]) [] za6 hst (zv rfl (zad (lz0 0 rfl) za7) (zv rfl (zad (lz0 1 rfl) za7) (zv rfl (za5 (xs:=[.tmp 9,.tmp 10]) (zfc zo) (.cons (vq 0 rfl) (.cons (vq 1 rfl) .nil))) (zv rfl (zad (lz0 2 rfl) za7) (zv rfl (zad (lz0 3 rfl) za7) (zv rfl (za5 (xs:=[.tmp 12,.tmp 13]) (zfc zo) (.cons (vq 3 rfl) (.cons (vq 4 rfl) .nil))) (zv rfl (za5 (xs:=[.tmp 11,.tmp 14]) (plus_q zo) (.cons (vq 2 rfl) (.cons (vq 5 rfl) .nil))) (oc (za8 rfl rfl rfl (vq 6 rfl) za7 (Eq.trans (b:=4) rfl rfl)) o0)))))))) zk zk zk zk (fun a w hst=>?_)
 have hst:St B w0 16 [] [⟨4,37,ptrH,_⟩,⟨5,37,ptrH,_⟩,⟨6,37,ptrH,_⟩,⟨7,37,ptrH,_⟩,⟨8,37,ptrH,_⟩] a w:=hst
 refine za0 ?_
 refine wp_ret ?_
 refine zae ?_ (zao rfl hst (zm 4 rfl) za7)
 exact zay
theorem zhv {c d:Nat}{m q:MQ}(hk:c+d≤68719476736):Cn Tryz.prog 87 [(QMA c m).va,(QMA d q).va] ((QMA (c+d+(c+d)+1) (mulQ m q)).va):=by
 refine Cn.intro Tryz.func87 rfl zk nq (fun B w0 a hst=>?_)
 have hst:St B w0 42 [(0,(QMA c m).va),(1,(QMA d q).va)] [] a w0.w:=hst
 refine wp_seq ?_
 refine gl (sts:=[]) (news:=[⟨2,56,ptrH,some 0,_,none⟩,⟨3,56,ptrH,some 1,_,none⟩,⟨4,56,ptrH,some 2,_,none⟩]) (sp:=[.alc 0,.alc 1,.alc 2]) [] hst (oc (zam rfl rfl rfl (gq 0 rfl)) (oc (zam rfl rfl rfl (gq 1 rfl)) (oc (zag rfl rfl rfl (Str.zero zav)) o0))) (fun a w hst=>?_)
 have hst:St B w0 42 [] [⟨2,56,ptrH,_⟩,⟨3,56,ptrH,_⟩,⟨4,56,ptrH,_⟩] a w:=hst
 refine zt<|zau (anc:=[[],[0],[],[2],[],[4],[],[6],[0,1,2,3,4,5,6,7],[],[9],[],[11],[],[13],[],[15],[0,1,2,3,4,5,6,7,8,9,10,11,12,13,14,15,16],[],[18],[],[20],[],[22],[],[24],[0,1,2,3,4,5,6,7,8,9,10,11,12,13,14,15,16,17,18,19,20,21,22,23,24,25],[],[27],[],[29],[],[31],[],[33],[0,1,2,3,4,5,6,7,8,9,10,11,12,13,14,15,16,17,18,19,20,21,22,23,24,25,26,27,28,29,30,31,32,33,34],[0,1,2,3,4,5,6,7,8,9,10,11,12,13,14,15,16,17,18,19,20,21,22,23,24,25,26,27,28,29,30,31,32,33,34,35],[0,1,2,3,4,5,6,7,8,9,10,11,12,13,14,15,16,17,18,19,20,21,22,23,24,25,26,27,28,29,30,31,32,33,34,35,36]]) (sts:=[none,none,some (37,_)]) (news:=[]) (sp:=((.adr 5 2 (.some 0) True:Sp)::(.val 6 _)::(.adr 7 3 (.some 0) True)::(.val 8 _)::(.adr 9 2 (.some 4) True)::(.val 10 _)::(.adr 11 3 (.some 8) True)::(.val 12 _)::(.val 13 _)::(.adr 14 2 (.some 0) True)::(.val 15 _)::(.adr 16 3 (.some 4) True)::(.val 17 _)::(.adr 18 2 (.some 4) True)::(.val 19 _)::(.adr 20 3 (.some 12) True)::(.val 21 _)::(.val 22 _)::(.adr 23 2 (.some 8) True)::(.val 24 _)::(.adr 25 3 (.some 0) True)::(.val 26 _)::(.adr 27 2 (.some 12) True)::(.val 28 _)::(.adr 29 3 (.some 8) True)::(.val 30 _)::(.val 31 _)::(.adr 32 2 (.some 8) True)::(.val 33 _)::(.adr 34 3 (.some 4) True)::(.val 35 _)::(.adr 36 2 (.some 12) True)::(.val 37 _)::(.adr 38 3 (.some 12) True)::(.val 39 _)::(.val 40 _)::(.val 41 _)::(.sto 2)::[])) [] za6 hst (oc (ob_a rfl rfl (za9 (lz0 0 rfl) zcg)) (zv rfl (za4 0 rfl zk trivial (lz0 0 rfl) (Sub.part 0 rfl rfl) za7) (oc (ob_a rfl rfl (za9 (lz0 1 rfl) zcg)) (zv rfl (za4 2 rfl zk trivial (lz0 1 rfl) (Sub.part 0 rfl rfl) za7) (oc (ob_a rfl rfl (za9 (lz0 0 rfl) zcf)) (zv rfl (za4 4 rfl zk trivial (lz0 0 rfl) (Sub.part 1 rfl rfl) za7) (oc (ob_a rfl rfl (za9 (lz0 1 rfl) zce)) (zv rfl (za4 6 rfl zk trivial (lz0 1 rfl) (Sub.part 2 rfl rfl) za7) (zv rfl (za5 (xs:=[.tmp 6,.tmp 8,.tmp 10,.tmp 12]) (zfo zo) (.cons (vq 1 rfl) (.cons (vq 3 rfl) (.cons (vq 5 rfl) (.cons (vq 7 rfl) .nil))))) (oc (ob_a rfl rfl (za9 (lz0 0 rfl) zcg)) (zv rfl (za4 9 rfl zk trivial (lz0 0 rfl) (Sub.part 0 rfl rfl) za7) (oc (ob_a rfl rfl (za9 (lz0 1 rfl) zcf)) (zv rfl (za4 11 rfl zk trivial (lz0 1 rfl) (Sub.part 1 rfl rfl) za7) (oc (ob_a rfl rfl (za9 (lz0 0 rfl) zcf)) (zv rfl (za4 13 rfl zk trivial (lz0 0 rfl) (Sub.part 1 rfl rfl) za7) (oc (ob_a rfl rfl (za9 (lz0 1 rfl) zcd)) (zv rfl (za4 15 rfl zk trivial (lz0 1 rfl) (Sub.part 3 rfl rfl) za7) (zv rfl (za5 (xs:=[.tmp 15,.tmp 17,.tmp 19,.tmp 21]) (zfo zo) (.cons (vq 10 rfl) (.cons (vq 12 rfl) (.cons (vq 14 rfl) (.cons (vq 16 rfl) .nil))))) (oc (ob_a rfl rfl (za9 (lz0 0 rfl) zce)) (zv rfl (za4 18 rfl zk trivial (lz0 0 rfl) (Sub.part 2 rfl rfl) za7) (oc (ob_a rfl rfl (za9 (lz0 1 rfl) zcg)) (zv rfl (za4 20 rfl zk trivial (lz0 1 rfl) (Sub.part 0 rfl rfl) za7) (oc (ob_a rfl rfl (za9 (lz0 0 rfl) zcd)) (zv rfl (za4 22 rfl zk trivial (lz0 0 rfl) (Sub.part 3 rfl rfl) za7) (oc (ob_a rfl rfl (za9 (lz0 1 rfl) zce)) (zv rfl (za4 24 rfl zk trivial (lz0 1 rfl) (Sub.part 2 rfl rfl) za7) (zv rfl (za5 (xs:=[.tmp 24,.tmp 26,.tmp 28,.tmp 30]) (zfo zo) (.cons (vq 19 rfl) (.cons (vq 21 rfl) (.cons (vq 23 rfl) (.cons (vq 25 rfl) .nil))))) (oc (ob_a rfl rfl (za9 (lz0 0 rfl) zce)) (zv rfl (za4 27 rfl zk trivial (lz0 0 rfl) (Sub.part 2 rfl rfl) za7) (oc (ob_a rfl rfl (za9 (lz0 1 rfl) zcf)) (zv rfl (za4 29 rfl zk trivial (lz0 1 rfl) (Sub.part 1 rfl rfl) za7) (oc (ob_a rfl rfl (za9 (lz0 0 rfl) zcd)) (zv rfl (za4 31 rfl zk trivial (lz0 0 rfl) (Sub.part 3 rfl rfl) za7) (oc (ob_a rfl rfl (za9 (lz0 1 rfl) zcd)) (zv rfl (za4 33 rfl zk trivial (lz0 1 rfl) (Sub.part 3 rfl rfl) za7) (zv rfl (za5 (xs:=[.tmp 33,.tmp 35,.tmp 37,.tmp 39]) (zfo zo) (.cons (vq 28 rfl) (.cons (vq 30 rfl) (.cons (vq 32 rfl) (.cons (vq 34 rfl) .nil))))) (zv rfl (zb3 (xs:=[(0,.tmp 13),(1,.tmp 22),(2,.tmp 31),(3,.tmp 40)]) (qs:=[(0,_),(1,_),(2,_),(3,_)]) zav (.cons ⟨rfl,(vq 8 rfl),rfl⟩ (.cons ⟨rfl,(vq 17 rfl),rfl⟩ (.cons ⟨rfl,(vq 26 rfl),rfl⟩ (.cons ⟨rfl,(vq 35 rfl),rfl⟩ .nil))))) (oc (za8 rfl rfl rfl (vq 36 rfl) zbk (Eq.trans (b:=16) rfl rfl)) o0)))))))))))))))))))))))))))))))))))))) zk zk zk zk (fun a w hst=>?_)
 have hst:St B w0 42 [] [⟨2,56,ptrH,_⟩,⟨3,56,ptrH,_⟩,⟨4,56,ptrH,_⟩] a w:=hst
 refine za0 ?_
 refine wp_ret ?_
 refine zae ?_ (zao rfl hst (zm 2 rfl) zbk)
 exact zay
theorem zeu  : Cn Tryz.prog 86 [] ((QMA 2 ⟨1,0,0,1⟩).va):=by
 refine Cn.intro Tryz.func86 rfl zk nq (fun B w0 a hst=>?_)
 have hst:St B w0 6 [] [] a w0.w:=hst
 refine wp_seq ?_
 refine gl (sts:=[]) (news:=[⟨0,56,ptrH,some 0,_,none⟩]) (sp:=[.alc 0]) [] hst (oc (zag rfl rfl rfl (Str.zero zav)) o0) (fun a w hst=>?_)
 have hst:St B w0 6 [] [⟨0,56,ptrH,_⟩] a w:=hst
 refine zt<|gl (sts:=[some (5,_)]) (news:=[]) (sp:=[.val 1 _,.val 2 _,.val 3 _,.val 4 _,.val 5 _,.sto 0]) [] hst (zv rfl (za5 (xs:=[]) one_q .nil) (zv rfl (za5 (xs:=[]) zgq .nil) (zv rfl (za5 (xs:=[]) zgq .nil) (zv rfl (za5 (xs:=[]) one_q .nil) (zv rfl (zb3 (xs:=[(0,.tmp 1),(1,.tmp 2),(2,.tmp 3),(3,.tmp 4)]) (qs:=[(0,_),(1,_),(2,_),(3,_)]) zav (.cons ⟨rfl,(vq 0 rfl),rfl⟩ (.cons ⟨rfl,(vq 1 rfl),rfl⟩ (.cons ⟨rfl,(vq 2 rfl),rfl⟩ (.cons ⟨rfl,(vq 3 rfl),rfl⟩ .nil))))) (oc (za8 rfl rfl rfl (vq 4 rfl) zbk (Eq.trans (b:=16) rfl rfl)) o0)))))) (fun a w hst=>?_)
 have hst:St B w0 6 [] [⟨0,56,ptrH,_⟩] a w:=hst
 refine za0 ?_
 refine wp_ret ?_
 refine zae ?_ (zao rfl hst (zm 0 rfl) zbk)
 exact zay
def trsQ (m:MQ):Rat:=(m.a+m.d)*(m.a+m.d)
theorem as_no {c:Prop}[Decidable c](h:((if c then (4:Int) else 0) != 0)=false):¬ c:=fun hc=>by rw [if_pos hc] at h; simp at h
theorem as_yes {c:Prop}[Decidable c](h:((if c then (4:Int) else 0) != 0)=true):c:=Decidable.byContradiction fun hc=>by rw [if_neg hc] at h; simp at h
theorem cavAnswer_q {L:List As}(qs:List Rat)(hL:All2 IsQ L qs)(hl:qs.length≤1099511627776):Cn Tryz.prog 95 [(SlA 37 [U32] L).va] (In (if qs.any longQ then 4 else 0)):=by
 refine Cn.intro Tryz.func95 rfl zk nq (fun B w0 a hst=>?_)
 have hst:St B w0 5 [(0,(SlA 37 [U32] L).va)] [] a w0.w:=hst
 refine wp_seq ?_
 refine gl (sts:=[]) (news:=[]) (sp:=[.val 2 _]) [.g 0,.o 0] hst (zv rfl (za1 za3) o0) (fun a w hst=>?_)
 have hst:St B w0 5 [(0,_),(2,_)] [] a w:=hst
 refine zt<|gl (sts:=[]) (news:=[]) (sp:=[.val 3 _,.val 4 _,.val 2 _]) [.o 2] hst (zv rfl (za2 (gq 0 rfl)) (zv rfl (za5 (xs:=[.tmp 3]) (zgv qs hL hl) (.cons (vq 0 rfl) .nil)) (zv rfl (za1 (vq 1 rfl)) o0))) (fun a w hst=>?_)
 have hst:St B w0 5 [(2,_)] [] a w:=hst
 refine za0 ?_
 refine wp_ret ?_
 refine zae ?_ (zah rfl hst (zm 0 rfl))
 exact zay
theorem cavMatrix_q {c:Nat}{m:MQ}(hc:c≤549755813888):Cn Tryz.prog 56 [(QMA c m).va] (MR (asM 0 m)):=by
 refine Cn.intro Tryz.func56 rfl zk nq (fun B w0 a hst=>?_)
 have hst:St B w0 32 [(0,(QMA c m).va)] [] a w0.w:=hst
 refine wp_seq ?_
 refine gl (sts:=[]) (news:=[⟨1,56,ptrH,some 0,_,none⟩,⟨2,56,ptrH,some 1,_,none⟩]) (sp:=[.alc 0,.alc 1,.val 3 _]) [.o 2] hst (oc (zam rfl rfl rfl (gq 0 rfl)) (oc (zag rfl rfl rfl (Str.zero zav)) (zv rfl (za1 za3) o0))) (fun a w hst=>?_)
 have hst:St B w0 32 [(3,_)] [⟨1,56,ptrH,_⟩,⟨2,56,ptrH,_⟩] a w:=hst
 refine zt ?_
 refine wp_seq ?_
 refine gl (sts:=[none,none]) (news:=[]) (sp:=[.adr 5 1 (.some 0) True,.val 6 _,.adr 7 1 (.some 4) True,.val 8 _,.adr 9 1 (.some 8) True,.val 10 _,.adr 11 1 (.some 12) True,.val 12 _,.val 13 _,.val 14 _,.val 4 _]) [.g 0,.o 10] hst (oc (ob_a rfl rfl (za9 (lz0 0 rfl) zcg)) (zv rfl (za4 0 rfl zk trivial (lz0 0 rfl) (Sub.part 0 rfl rfl) za7) (oc (ob_a rfl rfl (za9 (lz0 0 rfl) zcf)) (zv rfl (za4 2 rfl zk trivial (lz0 0 rfl) (Sub.part 1 rfl rfl) za7) (oc (ob_a rfl rfl (za9 (lz0 0 rfl) zce)) (zv rfl (za4 4 rfl zk trivial (lz0 0 rfl) (Sub.part 2 rfl rfl) za7) (oc (ob_a rfl rfl (za9 (lz0 0 rfl) zcd)) (zv rfl (za4 6 rfl zk trivial (lz0 0 rfl) (Sub.part 3 rfl rfl) za7) (zv rfl (zc8 (D:=[U32]) (l:=[_,_,_,_]) (xs:=[.tmp 6,.tmp 8,.tmp 10,.tmp 12]) (zdu zk) zdc zk (n_ok zk) nq nq nq (.cons (vq 1 rfl) (.cons (vq 3 rfl) (.cons (vq 5 rfl) (.cons (vq 7 rfl) .nil)))) rfl rfl) (zv rfl (za5 (xs:=[.tmp 13]) (cavAnswer_q [m.a,m.b,m.c,m.d] (.cons ⟨_,rfl⟩ (.cons ⟨_,rfl⟩ (.cons ⟨_,rfl⟩ (.cons ⟨_,rfl⟩ .nil)))) nq) (.cons (vq 8 rfl) .nil)) (zv rfl (za1 (vq 9 rfl)) o0))))))))))) (fun a w hst=>?_)
 have hst:St B w0 32 [(3,_),(4,_)] [⟨1,56,ptrH,_⟩,⟨2,56,ptrH,_⟩] a w:=hst
 refine zt<|gl (sts:=[none,none]) (news:=[]) (sp:=[.val 15 _,.val 16 _]) [.g 0,.g 1,.o 1] hst (zv rfl (za2 (gq 1 rfl)) (zv rfl (zca (vq 0 rfl) za3) o0)) (fun a w hst=>?_)
 have hst:St B w0 32 [(3,_),(4,_),(16,_)] [⟨1,56,ptrH,_⟩,⟨2,56,ptrH,_⟩] a w:=hst
 refine za0 ?_
 refine zac hst (zm 2 rfl) (fun hb0=>?_) (fun hb0=>?_)
 ·have hl:=as_yes hb0
  refine wp_seq ?_
  refine gl (sts:=[none,some (2,_)]) (news:=[]) (sp:=[.val 17 _,.val 18 _,.sto 1,.val 3 _]) [.o 3] hst (zv rfl (zb3 (xs:=[]) (qs:=[]) zav .nil) (zv rfl (za2 (gq 1 rfl)) (oc (za8 rfl rfl rfl (vq 0 rfl) zbk (Eq.trans (b:=16) rfl rfl)) (zv rfl (za1 (vq 1 rfl)) o0)))) (fun a w hst=>?_)
  have hst:St B w0 32 [(3,_)] [⟨1,56,ptrH,_⟩,⟨2,56,ptrH,_⟩] a w:=hst
  refine za0 ?_
  refine wp_ret ?_
  refine zaj ?_
  refine zae ?_ (zaw (rs:=[.cell 2 56,.tmp 3]) rfl hst (.cell (zm 1 rfl) zbk (.tmp (zm 0 rfl) .nil)) zd)
  have e:asM 0 m=(rm0,4):=by rw [asM,if_pos rfl,if_pos hl]
  rw [e]; exact tu2w zay (zcm (by rw [if_pos hl]))
 ·have hl:=as_no hb0
  refine wp_skip ?_
  refine zt<|zau (anc:=[[],[0],[0,1],[],[3],[0,1,2,3,4],[],[6],[0,1,2,3,4,5,6,7],[],[9],[0,1,2,3,4,5,6,7,8,9,10],[0,1,2,3,4,5,6,7,8,9,10,11],[0,1,2,3,4,5,6,7,8,9,10,11,12],[0,1,2,3,4,5,6,7,8,9,10,11,12,13]]) (sts:=[none,some (13,_)]) (news:=[]) (sp:=[.adr 19 1 (.some 0) True,.val 20 _,.val 21 _,.adr 22 1 (.some 4) True,.val 23 _,.val 24 _,.adr 25 1 (.some 8) True,.val 26 _,.val 27 _,.adr 28 1 (.some 12) True,.val 29 _,.val 30 _,.val 31 _,.sto 1,.val 3 _]) [.o 14] za6 hst (oc (ob_a rfl rfl (za9 (lz0 0 rfl) zcg)) (zv rfl (za4 0 rfl zk trivial (lz0 0 rfl) (Sub.part 0 rfl rfl) za7) (zv rfl (za5 (xs:=[.tmp 20]) (zgk zo) (.cons (vq 1 rfl) .nil)) (oc (ob_a rfl rfl (za9 (lz0 0 rfl) zcf)) (zv rfl (za4 3 rfl zk trivial (lz0 0 rfl) (Sub.part 1 rfl rfl) za7) (zv rfl (za5 (xs:=[.tmp 23]) (zgk zo) (.cons (vq 4 rfl) .nil)) (oc (ob_a rfl rfl (za9 (lz0 0 rfl) zce)) (zv rfl (za4 6 rfl zk trivial (lz0 0 rfl) (Sub.part 2 rfl rfl) za7) (zv rfl (za5 (xs:=[.tmp 26]) (zgk zo) (.cons (vq 7 rfl) .nil)) (oc (ob_a rfl rfl (za9 (lz0 0 rfl) zcd)) (zv rfl (za4 9 rfl zk trivial (lz0 0 rfl) (Sub.part 3 rfl rfl) za7) (zv rfl (za5 (xs:=[.tmp 29]) (zgk zo) (.cons (vq 10 rfl) .nil)) (zv rfl (zb3 (xs:=[(0,.tmp 21),(1,.tmp 24),(2,.tmp 27),(3,.tmp 30)]) (qs:=[(0,_),(1,_),(2,_),(3,_)]) zav (.cons ⟨rfl,(vq 2 rfl),rfl⟩ (.cons ⟨rfl,(vq 5 rfl),rfl⟩ (.cons ⟨rfl,(vq 8 rfl),rfl⟩ (.cons ⟨rfl,(vq 11 rfl),rfl⟩ .nil))))) (oc (za8 rfl rfl rfl (vq 12 rfl) zbk (Eq.trans (b:=16) rfl rfl)) (zv rfl (za1 za3) o0))))))))))))))) zk zk zk zk (fun a w hst=>?_)
  have hst:St B w0 32 [(3,_)] [⟨1,56,ptrH,_⟩,⟨2,56,ptrH,_⟩] a w:=hst
  refine za0 ?_
  refine wp_ret ?_
  refine zae ?_ (zaw (rs:=[.cell 2 56,.tmp 3]) rfl hst (.cell (zm 1 rfl) zbk (.tmp (zm 0 rfl) .nil)) zd)
  have e:asM 0 m=(rmOf m,0):=by rw [asM,if_pos rfl,if_neg hl]
  rw [e]; exact tu2w qmA.va zay
end Go.Proofs.YtlpppkkggljdcaaGreat
namespace Go.Proofs.YtlpppkkggljdcaaGreat
open Go Go.RowKit
def EqA (v:Value):As where
 n:=1
 ag:=false
 p _ cs _:=cs=[v]∧v.oneCell'=true
 deps:=[]
 len:=by rintro B cs w ⟨rfl,_⟩; rfl
 one:=by rintro B cs w ⟨rfl,h⟩ c hc; simp at hc; subst hc; exact h
 ag1:=fun _=>rfl
 cg:=fun _ _ _ _ _ h=>h
 wr:=fun _ _ _ _ _ _ _ _ _ _ _ _ h=>h
theorem va_eqA {v:Value}(h:v.oneCell'=true){B:Nat}{w:World}:(EqA v).va.p B v w:=⟨[v],⟨rfl,h⟩,rfl⟩
theorem eqA_va {v u:Value}{B:Nat}{w:World}(h:(EqA v).va.p B u w):u=v:=by
 obtain ⟨cs,⟨rfl,_⟩,h2⟩:=h
 exact h2
theorem St.nm {B N:Nat}{w0:Bs}{Γ:List (Nat × VA)}{Λ:List Lc}{a:Act}{w:World}(h:St B w0 N Γ Λ a w){s T:Nat}{A:As}(k:Nat)(hm:Λ[k]?=some ⟨s,T,ptrH,A⟩):∃ g,St B w0 N ((s,EqV (ptr g))::Γ) Λ a w:=by
 obtain ⟨g,cs,e,_⟩:=h.locs _ (List.mem_of_getElem? hm)
 refine ⟨g,h.lo,h.defers,h.size,h.base,fun x hx=>?_,h.locs,h.dis⟩
 rcases List.mem_cons.1 hx with rfl | hx
 ·exact e
 ·exact h.vals x hx
section
variable {P:Program} {R:Rg} {Q:Exit→Act→World→Prop} {B i:Nat} {w0:Bs}
theorem zl2 {xs:List Operand}{vs:List Value}(hx:HasL R B w0 i xs (vs.map EqV)){a:Act}{w:World}(av:R.Av B w0 i a w):xs.map a.eval=vs:=by
 induction vs generalizing xs with
 | nil=>cases hx; rfl
 | cons v vs ih =>
  cases hx with
  | cons h1 h2 =>
   rw [List.map_cons,ih h2]
   have:_=v:=h1 a w av
   rw [this]
theorem zd2 {f:FuncId}{xs:List Operand}{vs:List Value}(hx:HasL R B w0 i xs (vs.map EqV)):Wv P Q R B w0 i (.makeFunc (.func f) #[] xs.toArray) (EqA (.func (.func f) #[] vs.toArray)).va :=
 zb8 fun _ _ _ _ _ a w av=>by
  have e:=zl2 hx av
  refine ⟨.func (.func f) #[] vs.toArray,w,?_,Grow.refl w,va_eqA rfl⟩
  simp [execOp,Instr.makeFunc,e]
theorem zem {f:FuncId}:Has R B w0 i (.func f) (EqA (.func (.func f) #[] #[])).va:=fun _ _ _=>va_eqA rfl
theorem zh8 {d s e c:Nat}{T:TypeId}{H:Hd}{cr:Option Nat}{A0 A1:As}{A:VA}{f:FuncId}{xs:List Operand}{vs:List Value}{pre:List Ar}{at_:Array TypeId}{ty:TypeId}{ps:String}{af:Array Edge}
  (hs:R.sp[i]?=some (.cal d A e)) (he:R.les[e]?=some ⟨s,T,H,cr,A0,some (i,A1)⟩) (ho:R.ops[i]?=some ⟨some d,.call ⟨.value (.tmp c),#[],at_⟩,ty,ps,af,none⟩)
  (hc:Cm P f T A0 A1 pre A) (hv:Has R B w0 i (.tmp c) (EqA (.func (.func f) #[] vs.toArray)).va) (hvs:HasL R B w0 i xs (vs.map EqV)) (hx:All2 (ArH R B w0 i s H) pre xs):R.Ob P Q B w0 i:=by
 unfold Rg.Ob
 simp only [hs,he]
 intro a w av g cs h1 hB h3 h4 _ K hK
 obtain ⟨⟨fn,hf,hn,hb2⟩,hcall⟩:=hc
 have ev:a.eval (.tmp c)=.func (.func f) #[] vs.toArray:=eqA_va (hv a w av)
 have evs:=zl2 hvs av
 have hrun:(execOp a.eval ⟨some d,.call ⟨.value (.tmp c),#[],at_⟩,ty,ps,af,none⟩).run P w=.ok (.enter f (xs.map a.eval).toArray) w:=by
  simp only [execOp,resolve,ev,Deferred.ofValue,Sem.run_bind,Sem.run_pure,Result.andThen_ok,invoke,zbb hf hn hb2,evs]
  simp
 refine zbz ho rfl ?_
 unfold Oper.wp
 rw [hrun]
 refine (hcall B w g cs _ hB h3 h4 ?_).mono fun e w' ⟨v,cs',he,hv,hg,h5,h6⟩=>by subst he; exact hK v cs' w' hg h5 h6 hv
 clear hcall hrun ho hs he hvs evs
 induction hx with
 | nil=>exact .nil
 | @cons x y _ _ h _ ih =>
  refine .cons ?_ ih
  cases x with
  | v A=>exact h a w av
  | w H' =>
   obtain ⟨rfl,h2⟩:=h
   exact (h2 a w av).trans h1
end
structure RE where
 k:Int
 p:RF
 q:RF
 deriving DecidableEq
def REA (x:RE):As:=cat [NumA .u8 x.k,RFA x.p,RFA x.q]
def QEA (c:Nat)(k:Int)(p q:Rat):As:=cat [NumA .u8 k,QA c p,QA c q]
abbrev NfA:As:=EqA .nilFunc
theorem zet:Str Tryz.prog 62 [NumA .u8 0,RFA rf0,RFA rf0] :=
 Str.of (z:=.agg #[.int .u8 0,.bool false,.slice none 0 0,.bool false,.slice none 0 0,.bool false,.slice none 0 0,.bool false,.slice none 0 0]) zk Tryz.underlying62 zk fun B w=>⟨[[.int .u8 0],[.bool false,.slice none 0 0,.bool false,.slice none 0 0],[.bool false,.slice none 0 0,.bool false,.slice none 0 0]],rfl,.cons rfl (.cons (zh4 B w) (.cons (zh4 B w) .nil))⟩
theorem zdp:Arr Tryz.prog 141 [NfA,NfA,NfA,NfA,NfA,NfA]:=by
 have hz:((Tryz.prog.info? 141).bind (·.zero))=some (.agg #[.nilFunc,.nilFunc,.nilFunc,.nilFunc,.nilFunc,.nilFunc]):=by kernel_rfl
 obtain ⟨it,e1,e2⟩:=Option.bind_eq_some_iff.1 hz
 have h:(Tryz.prog.info? 1).map (·.size)=some 1:=by kernel_rfl
 obtain ⟨ie,h1,h2⟩:∃ ie,Tryz.prog.info? 1=some ie∧ie.size=1:=by
  cases hi:Tryz.prog.info? 1 with
  | none=>rw [hi] at h; simp at h
  | some ie=>rw [hi] at h; exact ⟨ie,rfl,by simpa using h⟩
 refine ⟨it,_,6,1,ie,e1,e2,Tryz.underlying141,h1,?_,fun B w=>⟨[[.nilFunc],[.nilFunc],[.nilFunc],[.nilFunc],[.nilFunc],[.nilFunc]],rfl,(.cons ⟨rfl,rfl⟩ (.cons ⟨rfl,rfl⟩ (.cons ⟨rfl,rfl⟩ (.cons ⟨rfl,rfl⟩ (.cons ⟨rfl,rfl⟩ (.cons ⟨rfl,rfl⟩ .nil))))))⟩⟩
 rw [h2]
 intro f hf
 match f,hf with
 | 0,_=>rfl
 | 1,_=>rfl
 | 2,_=>rfl
 | 3,_=>rfl
 | 4,_=>rfl
 | 5,_=>rfl
theorem zcx {c:Nat}{x:Rat}(hc:c≤137438953472):Cn Tryz.prog 124 [Qs c x] (Qs (2+c+1) (0-x)):=by
 refine Cn.intro Tryz.func124 rfl zk nq (fun B w0 a hst=>?_)
 have hst:St B w0 6 [(0,Qs c x)] [] a w0.w:=hst
 refine wp_seq ?_
 refine gl (sts:=[]) (news:=[⟨1,37,ptrH,some 0,_,none⟩,⟨2,37,ptrH,some 1,_,none⟩]) (sp:=[.alc 0,.alc 1]) [] hst (oc (zam rfl rfl rfl (gq 0 rfl)) (oc (zag rfl rfl rfl (Str.zero zaq)) o0)) (fun a w hst=>?_)
 have hst:St B w0 6 [] [⟨1,37,ptrH,_⟩,⟨2,37,ptrH,_⟩] a w:=hst
 refine zt<|zau (anc:=[[],[],[0,1],[0,1,2]]) (sts:=[none,some (3,_)]) (news:=[]) (sp:=[.val 3 _,.val 4 _,.val 5 _,.sto 1]) [] za6 hst (zv rfl (za5 (xs:=[]) zgq .nil) (zv rfl (zad (lz0 0 rfl) za7) (zv rfl (za5 (xs:=[.tmp 3,.tmp 4]) (zku zo) (.cons (vq 0 rfl) (.cons (vq 1 rfl) .nil))) (oc (za8 rfl rfl rfl (vq 2 rfl) za7 (Eq.trans (b:=4) rfl rfl)) o0)))) zk zk zk zk (fun a w hst=>?_)
 have hst:St B w0 6 [] [⟨1,37,ptrH,_⟩,⟨2,37,ptrH,_⟩] a w:=hst
 refine za0 ?_
 refine wp_ret ?_
 refine zae ?_ (zao rfl hst (zm 1 rfl) za7)
 exact zay
theorem zjt {c:Nat}{m:MQ}(hc:c≤137438953472):Cn Tryz.prog 129 [(QMA c m).va] ((QMA (2+c+1) ⟨0-m.a,0-m.b,0-m.c,0-m.d⟩).va):=by
 refine Cn.intro Tryz.func129 rfl zk nq (fun B w0 a hst=>?_)
 have hst:St B w0 16 [(0,(QMA c m).va)] [] a w0.w:=hst
 refine wp_seq ?_
 refine gl (sts:=[]) (news:=[⟨1,56,ptrH,some 0,_,none⟩,⟨2,56,ptrH,some 1,_,none⟩]) (sp:=[.alc 0,.alc 1]) [] hst (oc (zam rfl rfl rfl (gq 0 rfl)) (oc (zag rfl rfl rfl (Str.zero zav)) o0)) (fun a w hst=>?_)
 have hst:St B w0 16 [] [⟨1,56,ptrH,_⟩,⟨2,56,ptrH,_⟩] a w:=hst
 refine zt<|zau (anc:=[[],[0],[0,1],[],[3],[0,1,2,3,4],[],[6],[0,1,2,3,4,5,6,7],[],[9],[0,1,2,3,4,5,6,7,8,9,10],[0,1,2,3,4,5,6,7,8,9,10,11],[0,1,2,3,4,5,6,7,8,9,10,11,12]]) (sts:=[none,some (13,_)]) (news:=[]) (sp:=[.adr 3 1 (.some 0) True,.val 4 _,.val 5 _,.adr 6 1 (.some 4) True,.val 7 _,.val 8 _,.adr 9 1 (.some 8) True,.val 10 _,.val 11 _,.adr 12 1 (.some 12) True,.val 13 _,.val 14 _,.val 15 _,.sto 1]) [] za6 hst (oc (ob_a rfl rfl (za9 (lz0 0 rfl) zcg)) (zv rfl (za4 0 rfl zk trivial (lz0 0 rfl) (Sub.part 0 rfl rfl) za7) (zv rfl (za5 (xs:=[.tmp 4]) (zcx zo) (.cons (vq 1 rfl) .nil)) (oc (ob_a rfl rfl (za9 (lz0 0 rfl) zcf)) (zv rfl (za4 3 rfl zk trivial (lz0 0 rfl) (Sub.part 1 rfl rfl) za7) (zv rfl (za5 (xs:=[.tmp 7]) (zcx zo) (.cons (vq 4 rfl) .nil)) (oc (ob_a rfl rfl (za9 (lz0 0 rfl) zce)) (zv rfl (za4 6 rfl zk trivial (lz0 0 rfl) (Sub.part 2 rfl rfl) za7) (zv rfl (za5 (xs:=[.tmp 10]) (zcx zo) (.cons (vq 7 rfl) .nil)) (oc (ob_a rfl rfl (za9 (lz0 0 rfl) zcd)) (zv rfl (za4 9 rfl zk trivial (lz0 0 rfl) (Sub.part 3 rfl rfl) za7) (zv rfl (za5 (xs:=[.tmp 13]) (zcx zo) (.cons (vq 10 rfl) .nil)) (zv rfl (zb3 (xs:=[(0,.tmp 5),(1,.tmp 8),(2,.tmp 11),(3,.tmp 14)]) (qs:=[(0,_),(1,_),(2,_),(3,_)]) zav (.cons ⟨rfl,(vq 2 rfl),rfl⟩ (.cons ⟨rfl,(vq 5 rfl),rfl⟩ (.cons ⟨rfl,(vq 8 rfl),rfl⟩ (.cons ⟨rfl,(vq 11 rfl),rfl⟩ .nil))))) (oc (za8 rfl rfl rfl (vq 12 rfl) zbk (Eq.trans (b:=16) rfl rfl)) o0)))))))))))))) zk zk zk zk (fun a w hst=>?_)
 have hst:St B w0 16 [] [⟨1,56,ptrH,_⟩,⟨2,56,ptrH,_⟩] a w:=hst
 refine za0 ?_
 refine wp_ret ?_
 refine zae ?_ (zao rfl hst (zm 1 rfl) zbk)
 exact zay
theorem rowOf2_c {p q:Rat}{kd:Int}  : Cm Tryz.prog 122 56 (QMA 2 ⟨1,0,0,1⟩) (cat [QA 2 1,QA 2048 p,QA 2 0,QA 2 1]) [.v ((ElP 62 (QEA 2048 kd p q))),.w (ptrH)] (Tu []):=by
 refine Cm.introK 1 Tryz.func122 rfl zk nq (fun g=>zm 1 rfl) (fun B g w0 a hst=>?_)
 have hst:St B w0 6 [(0,(ElP 62 (QEA 2048 kd p q))),(1,EqV ((ptrH).f g))] [⟨1,56,ptrH,QMA 2 ⟨1,0,0,1⟩⟩] a w0.w:=hst
 refine gl (sts:=[some (4,_)]) (news:=[]) (sp:=[.val 2 _,.val 3 _,.val 4 _,.adr 5 1 (.some 4) True,.sto 0]) [.g 1] hst (zv rfl (zbd (gq 0 rfl) ze6 (Sub.part 1 rfl rfl)) (zv rfl (zas (vq 0 rfl) za7) (zv rfl (za5 (xs:=[.tmp 3]) (zgk zo) (.cons (vq 1 rfl) .nil)) (oc (ob_a rfl rfl (za9 (lz0 0 rfl) zcf)) (oc (zdz 3 rfl rfl rfl rfl zk (vq 2 rfl) za7 (Put.part 1 rfl rfl rfl)) o0))))) (fun a w hst=>?_)
 have hst:St B w0 6 [(1,_)] [⟨1,56,ptrH,_⟩] a w:=hst
 refine zei ?_
 refine zh5 hst (zm 0 rfl) (zm 0 rfl) ?_
 refine zae ?_ (zaw (rs:=[]) rfl hst .nil zd)
 exact zay
theorem rowOf3_c {p q:Rat}{kd:Int}  : Cm Tryz.prog 123 56 (QMA 2 ⟨1,0,0,1⟩) (cat [QA 2 1,QA 2 0,QA 2051 (0-p),QA 2 1]) [.v ((ElP 62 (QEA 2048 kd p q))),.w (ptrH)] (Tu []):=by
 refine Cm.introK 1 Tryz.func123 rfl zk nq (fun g=>zm 1 rfl) (fun B g w0 a hst=>?_)
 have hst:St B w0 6 [(0,(ElP 62 (QEA 2048 kd p q))),(1,EqV ((ptrH).f g))] [⟨1,56,ptrH,QMA 2 ⟨1,0,0,1⟩⟩] a w0.w:=hst
 refine gl (sts:=[some (4,_)]) (news:=[]) (sp:=[.val 2 _,.val 3 _,.val 4 _,.adr 5 1 (.some 8) True,.sto 0]) [.g 1] hst (zv rfl (zbd (gq 0 rfl) ze6 (Sub.part 1 rfl rfl)) (zv rfl (zas (vq 0 rfl) za7) (zv rfl (za5 (xs:=[.tmp 3]) (zcx zo) (.cons (vq 1 rfl) .nil)) (oc (ob_a rfl rfl (za9 (lz0 0 rfl) zce)) (oc (zdz 3 rfl rfl rfl rfl zk (vq 2 rfl) za7 (Put.part 2 rfl rfl rfl)) o0))))) (fun a w hst=>?_)
 have hst:St B w0 6 [(1,_)] [⟨1,56,ptrH,_⟩] a w:=hst
 refine zei ?_
 refine zh5 hst (zm 0 rfl) (zm 0 rfl) ?_
 refine zae ?_ (zaw (rs:=[]) rfl hst .nil zd)
 exact zay
theorem rowOf4_c {p q:Rat}{kd:Int}(h0:q≠0):Cm Tryz.prog 125 56 (QMA 2 ⟨1,0,0,1⟩) (cat [QA 2 1,QA 4096 (p/q),QA 2 0,QA 2 1]) [.v ((ElP 62 (QEA 2048 kd p q))),.w (ptrH)] (Tu []):=by
 refine Cm.introK 1 Tryz.func125 rfl zk nq (fun g=>zm 1 rfl) (fun B g w0 a hst=>?_)
 have hst:St B w0 8 [(0,(ElP 62 (QEA 2048 kd p q))),(1,EqV ((ptrH).f g))] [⟨1,56,ptrH,QMA 2 ⟨1,0,0,1⟩⟩] a w0.w:=hst
 refine gl (sts:=[some (6,_)]) (news:=[]) (sp:=[.val 2 _,.val 3 _,.val 4 _,.val 5 _,.val 6 _,.adr 7 1 (.some 4) True,.sto 0]) [.g 1] hst (zv rfl (zbd (gq 0 rfl) ze6 (Sub.part 1 rfl rfl)) (zv rfl (zas (vq 0 rfl) za7) (zv rfl (zbd (gq 0 rfl) zf1 (Sub.part 2 rfl rfl)) (zv rfl (zas (vq 2 rfl) za7) (zv rfl (za5 (xs:=[.tmp 3,.tmp 5]) (over_q zd h0) (.cons (vq 1 rfl) (.cons (vq 3 rfl) .nil))) (oc (ob_a rfl rfl (za9 (lz0 0 rfl) zcf)) (oc (zdz 5 rfl rfl rfl rfl zk (vq 4 rfl) za7 (Put.part 1 rfl rfl rfl)) o0))))))) (fun a w hst=>?_)
 have hst:St B w0 8 [(1,_)] [⟨1,56,ptrH,_⟩] a w:=hst
 refine zei ?_
 refine zh5 hst (zm 0 rfl) (zm 0 rfl) ?_
 refine zae ?_ (zaw (rs:=[]) rfl hst .nil zd)
 exact zay
theorem rowOf5_c {p q:Rat}{kd:Int}  : Cm Tryz.prog 127 56 (QMA 2 ⟨1,0,0,1⟩) (cat [QA 2 1,QA 2 0,QA 4099 (0-p*q),QA 2 1]) [.v ((ElP 62 (QEA 2048 kd p q))),.w (ptrH)] (Tu []):=by
 refine Cm.introK 1 Tryz.func127 rfl zk nq (fun g=>zm 1 rfl) (fun B g w0 a hst=>?_)
 have hst:St B w0 9 [(0,(ElP 62 (QEA 2048 kd p q))),(1,EqV ((ptrH).f g))] [⟨1,56,ptrH,QMA 2 ⟨1,0,0,1⟩⟩] a w0.w:=hst
 refine gl (sts:=[some (7,_)]) (news:=[]) (sp:=[.val 2 _,.val 3 _,.val 4 _,.val 5 _,.val 6 _,.val 7 _,.adr 8 1 (.some 8) True,.sto 0]) [.g 1] hst (zv rfl (zbd (gq 0 rfl) ze6 (Sub.part 1 rfl rfl)) (zv rfl (zas (vq 0 rfl) za7) (zv rfl (zbd (gq 0 rfl) zf1 (Sub.part 2 rfl rfl)) (zv rfl (zas (vq 2 rfl) za7) (zv rfl (za5 (xs:=[.tmp 3,.tmp 5]) (zfc zo) (.cons (vq 1 rfl) (.cons (vq 3 rfl) .nil))) (zv rfl (za5 (xs:=[.tmp 6]) (zcx zo) (.cons (vq 4 rfl) .nil)) (oc (ob_a rfl rfl (za9 (lz0 0 rfl) zce)) (oc (zdz 6 rfl rfl rfl rfl zk (vq 5 rfl) za7 (Put.part 2 rfl rfl rfl)) o0)))))))) (fun a w hst=>?_)
 have hst:St B w0 9 [(1,_)] [⟨1,56,ptrH,_⟩] a w:=hst
 refine zei ?_
 refine zh5 hst (zm 0 rfl) (zm 0 rfl) ?_
 refine zae ?_ (zaw (rs:=[]) rfl hst .nil zd)
 exact zay
theorem rowOf6_c  : Cm Tryz.prog 128 56 (QMA 2 ⟨1,0,0,1⟩) (QMA 5 ⟨0-1,0-0,0-0,0-1⟩) [.w (ptrH),] (Tu []):=by
 refine Cm.intro Tryz.func128 rfl zk nq (fun B g w0 a hst=>?_)
 have hst:St B w0 3 [(0,EqV ((ptrH).f g)),] [⟨0,56,ptrH,QMA 2 ⟨1,0,0,1⟩⟩] a w0.w:=hst
 refine gl (sts:=[some (2,_)]) (news:=[]) (sp:=[.val 1 _,.val 2 _,.sto 0]) [.g 0] hst (zv rfl (zad (lz0 0 rfl) zbk) (zv rfl (za5 (xs:=[.tmp 1]) (zjt (m:=⟨_,_,_,_⟩) zo) (.cons (vq 0 rfl) .nil)) (oc (za8 rfl rfl rfl (vq 1 rfl) zbk (Eq.trans (b:=16) rfl rfl)) o0))) (fun a w hst=>?_)
 have hst:St B w0 3 [(0,_)] [⟨0,56,ptrH,_⟩] a w:=hst
 refine zei ?_
 refine zig hst (zm 0 rfl) (zm 0 rfl) ?_
 refine zae ?_ (zaw (rs:=[]) rfl hst .nil zd)
 exact zay
theorem rowOfK1 {p q:Rat}  : Cn Tryz.prog 88 [(QEA 2048 ((1:Nat):Int) p q).va] ((QMA 4099 ⟨1,p,0,1⟩).va):=by
 refine Cn.intro Tryz.func88 rfl zk nq (fun B w0 a hst=>?_)
 have hst:St B w0 18 [(0,(QEA 2048 ((1:Nat):Int) p q).va)] [] a w0.w:=hst
 refine wp_seq ?_
 refine gl (sts:=[]) (news:=[⟨1,62,ptrH,some 0,_,none⟩,⟨2,56,ptrH,some 1,_,none⟩]) (sp:=[.alc 0,.alc 1]) [] hst (oc (zam rfl rfl rfl (gq 0 rfl)) (oc (zag rfl rfl rfl (Str.zero zav)) o0)) (fun a w hst=>?_)
 have hst:St B w0 18 [] [⟨1,62,ptrH,_⟩,⟨2,56,ptrH,_⟩] a w:=hst
 refine zt<|gl (sts:=[none,none]) (news:=[⟨3,56,ptrH,some 1,_,some (2,_)⟩]) (sp:=[.val 5 _,.alc 2,.sto 2]) [] hst (zv rfl (za5 (xs:=[]) zeu .nil) (oc (zag rfl rfl rfl (Str.zero zav)) (oc (za8 rfl rfl rfl (vq 0 rfl) zbk (Eq.trans (b:=16) rfl rfl)) o0))) (fun a w hst=>?_)
 have hst:St B w0 18 [] [⟨1,62,ptrH,_⟩,⟨2,56,ptrH,_⟩,⟨3,56,ptrH,_⟩] a w:=hst
 refine zt ?_
 obtain ⟨q1,hst⟩:=St.nm hst 0 rfl
 obtain ⟨q3,hst⟩:=St.nm hst 2 rfl
 refine gl (sts:=[none,none,none]) (news:=[⟨4,141,ptrH,some 6,_,some (7,_)⟩]) (sp:=[.val 6 _,.val 7 _,.val 8 _,.val 9 _,.val 10 _,.val 11 _,.alc 3,.sto 3]) [.g 0,.g 1] hst (zv rfl (zd2 (xs:=[.tmp 1,.tmp 3]) (vs:=[ptr q1,ptr q3]) (.cons (gq 1 rfl) (.cons (gq 0 rfl) .nil))) (zv rfl (zd2 (xs:=[.tmp 1,.tmp 3]) (vs:=[ptr q1,ptr q3]) (.cons (gq 1 rfl) (.cons (gq 0 rfl) .nil))) (zv rfl (zd2 (xs:=[.tmp 1,.tmp 3]) (vs:=[ptr q1,ptr q3]) (.cons (gq 1 rfl) (.cons (gq 0 rfl) .nil))) (zv rfl (zd2 (xs:=[.tmp 1,.tmp 3]) (vs:=[ptr q1,ptr q3]) (.cons (gq 1 rfl) (.cons (gq 0 rfl) .nil))) (zv rfl (zd2 (xs:=[.tmp 3]) (vs:=[ptr q3]) (.cons (gq 0 rfl) .nil)) (zv rfl (zdy (xs:=[(0,.func 121),(1,.tmp 6),(2,.tmp 7),(3,.tmp 8),(4,.tmp 9),(5,.tmp 10)]) (qs:=[(0,_),(1,_),(2,_),(3,_),(4,_),(5,_)]) zdp (.cons ⟨rfl,zem,rfl⟩ (.cons ⟨rfl,(vq 0 rfl),rfl⟩ (.cons ⟨rfl,(vq 1 rfl),rfl⟩ (.cons ⟨rfl,(vq 2 rfl),rfl⟩ (.cons ⟨rfl,(vq 3 rfl),rfl⟩ (.cons ⟨rfl,(vq 4 rfl),rfl⟩ .nil))))))) (oc (zag rfl rfl rfl (Arr.zero zdp)) (oc (za8 rfl rfl rfl (vq 5 rfl) zjh (Eq.trans (b:=6) rfl rfl)) o0)))))))) (fun a w hst=>?_)
 have hst:St B w0 18 [(3,_),(1,_)] [⟨1,62,ptrH,_⟩,⟨2,56,ptrH,_⟩,⟨3,56,ptrH,_⟩,⟨4,141,ptrH,_⟩] a w:=hst
 refine zt<|gl (sts:=[none,none,some (4,_),none]) (news:=[]) (sp:=[.adr 12 1 (.some 0) True,.val 13 _,.val 14 _,.val 15 _,.cal 16 _ 2]) [.g 0,.g 1] hst (oc (ob_a rfl rfl (za9 (lz0 0 rfl) zdm)) (zv rfl (za4 0 rfl zk trivial (lz0 0 rfl) (Sub.part 0 rfl rfl) zgm) (zv rfl (zjv (m:=1) (lz0 3 rfl) Tryz.underlying141 zk (n_ok zk) (vq 1 rfl) rfl) (zv rfl (zas (vq 2 rfl) ty_1) (oc (zh8 (xs:=[.tmp 1,.tmp 3]) (vs:=[ptr q1,ptr q3]) rfl rfl rfl rowOf2_c (vq 3 rfl) (.cons (gq 1 rfl) (.cons (gq 0 rfl) .nil)) (.cons (zge (lz0 0 rfl)) (.cons arw .nil))) o0))))) (fun a w hst=>?_)
 have hst:St B w0 18 [(3,_),(1,_)] [⟨1,62,ptrH,_⟩,⟨2,56,ptrH,_⟩,⟨3,56,ptrH,_⟩,⟨4,141,ptrH,_⟩] a w:=hst
 refine zt<|gl (sts:=[none,some (1,_),none,none]) (news:=[]) (sp:=[.val 17 _,.sto 1]) [.g 0,.g 1] hst (zv rfl (zad (lz0 2 rfl) zbk) (oc (za8 rfl rfl rfl (vq 0 rfl) zbk (Eq.trans (b:=16) rfl rfl)) o0)) (fun a w hst=>?_)
 have hst:St B w0 18 [(3,_),(1,_)] [⟨1,62,ptrH,_⟩,⟨2,56,ptrH,_⟩,⟨3,56,ptrH,_⟩,⟨4,141,ptrH,_⟩] a w:=hst
 refine za0 ?_
 refine wp_ret ?_
 refine zae ?_ (zao rfl hst (zm 1 rfl) zbk)
 exact (zc6 (.cons (zb6 zd) (.cons (zb6 zd) (.cons (zb6 zd) (.cons (zb6 zd) .nil))))).va
theorem rowOfK2 {p q:Rat}  : Cn Tryz.prog 88 [(QEA 2048 ((2:Nat):Int) p q).va] ((QMA 4099 ⟨1,0,0-p,1⟩).va):=by
 refine Cn.intro Tryz.func88 rfl zk nq (fun B w0 a hst=>?_)
 have hst:St B w0 18 [(0,(QEA 2048 ((2:Nat):Int) p q).va)] [] a w0.w:=hst
 refine wp_seq ?_
 refine gl (sts:=[]) (news:=[⟨1,62,ptrH,some 0,_,none⟩,⟨2,56,ptrH,some 1,_,none⟩]) (sp:=[.alc 0,.alc 1]) [] hst (oc (zam rfl rfl rfl (gq 0 rfl)) (oc (zag rfl rfl rfl (Str.zero zav)) o0)) (fun a w hst=>?_)
 have hst:St B w0 18 [] [⟨1,62,ptrH,_⟩,⟨2,56,ptrH,_⟩] a w:=hst
 refine zt<|gl (sts:=[none,none]) (news:=[⟨3,56,ptrH,some 1,_,some (2,_)⟩]) (sp:=[.val 5 _,.alc 2,.sto 2]) [] hst (zv rfl (za5 (xs:=[]) zeu .nil) (oc (zag rfl rfl rfl (Str.zero zav)) (oc (za8 rfl rfl rfl (vq 0 rfl) zbk (Eq.trans (b:=16) rfl rfl)) o0))) (fun a w hst=>?_)
 have hst:St B w0 18 [] [⟨1,62,ptrH,_⟩,⟨2,56,ptrH,_⟩,⟨3,56,ptrH,_⟩] a w:=hst
 refine zt ?_
 obtain ⟨q1,hst⟩:=St.nm hst 0 rfl
 obtain ⟨q3,hst⟩:=St.nm hst 2 rfl
 refine gl (sts:=[none,none,none]) (news:=[⟨4,141,ptrH,some 6,_,some (7,_)⟩]) (sp:=[.val 6 _,.val 7 _,.val 8 _,.val 9 _,.val 10 _,.val 11 _,.alc 3,.sto 3]) [.g 0,.g 1] hst (zv rfl (zd2 (xs:=[.tmp 1,.tmp 3]) (vs:=[ptr q1,ptr q3]) (.cons (gq 1 rfl) (.cons (gq 0 rfl) .nil))) (zv rfl (zd2 (xs:=[.tmp 1,.tmp 3]) (vs:=[ptr q1,ptr q3]) (.cons (gq 1 rfl) (.cons (gq 0 rfl) .nil))) (zv rfl (zd2 (xs:=[.tmp 1,.tmp 3]) (vs:=[ptr q1,ptr q3]) (.cons (gq 1 rfl) (.cons (gq 0 rfl) .nil))) (zv rfl (zd2 (xs:=[.tmp 1,.tmp 3]) (vs:=[ptr q1,ptr q3]) (.cons (gq 1 rfl) (.cons (gq 0 rfl) .nil))) (zv rfl (zd2 (xs:=[.tmp 3]) (vs:=[ptr q3]) (.cons (gq 0 rfl) .nil)) (zv rfl (zdy (xs:=[(0,.func 121),(1,.tmp 6),(2,.tmp 7),(3,.tmp 8),(4,.tmp 9),(5,.tmp 10)]) (qs:=[(0,_),(1,_),(2,_),(3,_),(4,_),(5,_)]) zdp (.cons ⟨rfl,zem,rfl⟩ (.cons ⟨rfl,(vq 0 rfl),rfl⟩ (.cons ⟨rfl,(vq 1 rfl),rfl⟩ (.cons ⟨rfl,(vq 2 rfl),rfl⟩ (.cons ⟨rfl,(vq 3 rfl),rfl⟩ (.cons ⟨rfl,(vq 4 rfl),rfl⟩ .nil))))))) (oc (zag rfl rfl rfl (Arr.zero zdp)) (oc (za8 rfl rfl rfl (vq 5 rfl) zjh (Eq.trans (b:=6) rfl rfl)) o0)))))))) (fun a w hst=>?_)
 have hst:St B w0 18 [(3,_),(1,_)] [⟨1,62,ptrH,_⟩,⟨2,56,ptrH,_⟩,⟨3,56,ptrH,_⟩,⟨4,141,ptrH,_⟩] a w:=hst
 refine zt<|gl (sts:=[none,none,some (4,_),none]) (news:=[]) (sp:=[.adr 12 1 (.some 0) True,.val 13 _,.val 14 _,.val 15 _,.cal 16 _ 2]) [.g 0,.g 1] hst (oc (ob_a rfl rfl (za9 (lz0 0 rfl) zdm)) (zv rfl (za4 0 rfl zk trivial (lz0 0 rfl) (Sub.part 0 rfl rfl) zgm) (zv rfl (zjv (m:=1) (lz0 3 rfl) Tryz.underlying141 zk (n_ok zk) (vq 1 rfl) rfl) (zv rfl (zas (vq 2 rfl) ty_1) (oc (zh8 (xs:=[.tmp 1,.tmp 3]) (vs:=[ptr q1,ptr q3]) rfl rfl rfl rowOf3_c (vq 3 rfl) (.cons (gq 1 rfl) (.cons (gq 0 rfl) .nil)) (.cons (zge (lz0 0 rfl)) (.cons arw .nil))) o0))))) (fun a w hst=>?_)
 have hst:St B w0 18 [(3,_),(1,_)] [⟨1,62,ptrH,_⟩,⟨2,56,ptrH,_⟩,⟨3,56,ptrH,_⟩,⟨4,141,ptrH,_⟩] a w:=hst
 refine zt<|gl (sts:=[none,some (1,_),none,none]) (news:=[]) (sp:=[.val 17 _,.sto 1]) [.g 0,.g 1] hst (zv rfl (zad (lz0 2 rfl) zbk) (oc (za8 rfl rfl rfl (vq 0 rfl) zbk (Eq.trans (b:=16) rfl rfl)) o0)) (fun a w hst=>?_)
 have hst:St B w0 18 [(3,_),(1,_)] [⟨1,62,ptrH,_⟩,⟨2,56,ptrH,_⟩,⟨3,56,ptrH,_⟩,⟨4,141,ptrH,_⟩] a w:=hst
 refine za0 ?_
 refine wp_ret ?_
 refine zae ?_ (zao rfl hst (zm 1 rfl) zbk)
 exact (zc6 (.cons (zb6 zd) (.cons (zb6 zd) (.cons (zb6 zd) (.cons (zb6 zd) .nil))))).va
theorem rowOfK3 {p q:Rat}(h0:q≠0):Cn Tryz.prog 88 [(QEA 2048 ((3:Nat):Int) p q).va] ((QMA 4099 ⟨1,p/q,0,1⟩).va):=by
 refine Cn.intro Tryz.func88 rfl zk nq (fun B w0 a hst=>?_)
 have hst:St B w0 18 [(0,(QEA 2048 ((3:Nat):Int) p q).va)] [] a w0.w:=hst
 refine wp_seq ?_
 refine gl (sts:=[]) (news:=[⟨1,62,ptrH,some 0,_,none⟩,⟨2,56,ptrH,some 1,_,none⟩]) (sp:=[.alc 0,.alc 1]) [] hst (oc (zam rfl rfl rfl (gq 0 rfl)) (oc (zag rfl rfl rfl (Str.zero zav)) o0)) (fun a w hst=>?_)
 have hst:St B w0 18 [] [⟨1,62,ptrH,_⟩,⟨2,56,ptrH,_⟩] a w:=hst
 refine zt<|gl (sts:=[none,none]) (news:=[⟨3,56,ptrH,some 1,_,some (2,_)⟩]) (sp:=[.val 5 _,.alc 2,.sto 2]) [] hst (zv rfl (za5 (xs:=[]) zeu .nil) (oc (zag rfl rfl rfl (Str.zero zav)) (oc (za8 rfl rfl rfl (vq 0 rfl) zbk (Eq.trans (b:=16) rfl rfl)) o0))) (fun a w hst=>?_)
 have hst:St B w0 18 [] [⟨1,62,ptrH,_⟩,⟨2,56,ptrH,_⟩,⟨3,56,ptrH,_⟩] a w:=hst
 refine zt ?_
 obtain ⟨q1,hst⟩:=St.nm hst 0 rfl
 obtain ⟨q3,hst⟩:=St.nm hst 2 rfl
 refine gl (sts:=[none,none,none]) (news:=[⟨4,141,ptrH,some 6,_,some (7,_)⟩]) (sp:=[.val 6 _,.val 7 _,.val 8 _,.val 9 _,.val 10 _,.val 11 _,.alc 3,.sto 3]) [.g 0,.g 1] hst (zv rfl (zd2 (xs:=[.tmp 1,.tmp 3]) (vs:=[ptr q1,ptr q3]) (.cons (gq 1 rfl) (.cons (gq 0 rfl) .nil))) (zv rfl (zd2 (xs:=[.tmp 1,.tmp 3]) (vs:=[ptr q1,ptr q3]) (.cons (gq 1 rfl) (.cons (gq 0 rfl) .nil))) (zv rfl (zd2 (xs:=[.tmp 1,.tmp 3]) (vs:=[ptr q1,ptr q3]) (.cons (gq 1 rfl) (.cons (gq 0 rfl) .nil))) (zv rfl (zd2 (xs:=[.tmp 1,.tmp 3]) (vs:=[ptr q1,ptr q3]) (.cons (gq 1 rfl) (.cons (gq 0 rfl) .nil))) (zv rfl (zd2 (xs:=[.tmp 3]) (vs:=[ptr q3]) (.cons (gq 0 rfl) .nil)) (zv rfl (zdy (xs:=[(0,.func 121),(1,.tmp 6),(2,.tmp 7),(3,.tmp 8),(4,.tmp 9),(5,.tmp 10)]) (qs:=[(0,_),(1,_),(2,_),(3,_),(4,_),(5,_)]) zdp (.cons ⟨rfl,zem,rfl⟩ (.cons ⟨rfl,(vq 0 rfl),rfl⟩ (.cons ⟨rfl,(vq 1 rfl),rfl⟩ (.cons ⟨rfl,(vq 2 rfl),rfl⟩ (.cons ⟨rfl,(vq 3 rfl),rfl⟩ (.cons ⟨rfl,(vq 4 rfl),rfl⟩ .nil))))))) (oc (zag rfl rfl rfl (Arr.zero zdp)) (oc (za8 rfl rfl rfl (vq 5 rfl) zjh (Eq.trans (b:=6) rfl rfl)) o0)))))))) (fun a w hst=>?_)
 have hst:St B w0 18 [(3,_),(1,_)] [⟨1,62,ptrH,_⟩,⟨2,56,ptrH,_⟩,⟨3,56,ptrH,_⟩,⟨4,141,ptrH,_⟩] a w:=hst
 refine zt<|gl (sts:=[none,none,some (4,_),none]) (news:=[]) (sp:=[.adr 12 1 (.some 0) True,.val 13 _,.val 14 _,.val 15 _,.cal 16 _ 2]) [.g 0,.g 1] hst (oc (ob_a rfl rfl (za9 (lz0 0 rfl) zdm)) (zv rfl (za4 0 rfl zk trivial (lz0 0 rfl) (Sub.part 0 rfl rfl) zgm) (zv rfl (zjv (m:=1) (lz0 3 rfl) Tryz.underlying141 zk (n_ok zk) (vq 1 rfl) rfl) (zv rfl (zas (vq 2 rfl) ty_1) (oc (zh8 (xs:=[.tmp 1,.tmp 3]) (vs:=[ptr q1,ptr q3]) rfl rfl rfl (rowOf4_c h0) (vq 3 rfl) (.cons (gq 1 rfl) (.cons (gq 0 rfl) .nil)) (.cons (zge (lz0 0 rfl)) (.cons arw .nil))) o0))))) (fun a w hst=>?_)
 have hst:St B w0 18 [(3,_),(1,_)] [⟨1,62,ptrH,_⟩,⟨2,56,ptrH,_⟩,⟨3,56,ptrH,_⟩,⟨4,141,ptrH,_⟩] a w:=hst
 refine zt<|gl (sts:=[none,some (1,_),none,none]) (news:=[]) (sp:=[.val 17 _,.sto 1]) [.g 0,.g 1] hst (zv rfl (zad (lz0 2 rfl) zbk) (oc (za8 rfl rfl rfl (vq 0 rfl) zbk (Eq.trans (b:=16) rfl rfl)) o0)) (fun a w hst=>?_)
 have hst:St B w0 18 [(3,_),(1,_)] [⟨1,62,ptrH,_⟩,⟨2,56,ptrH,_⟩,⟨3,56,ptrH,_⟩,⟨4,141,ptrH,_⟩] a w:=hst
 refine za0 ?_
 refine wp_ret ?_
 refine zae ?_ (zao rfl hst (zm 1 rfl) zbk)
 exact (zc6 (.cons (zb6 zd) (.cons (zb6 zd) (.cons (zb6 zd) (.cons (zb6 zd) .nil))))).va
theorem rowOfK4 {p q:Rat}  : Cn Tryz.prog 88 [(QEA 2048 ((4:Nat):Int) p q).va] ((QMA 4099 ⟨1,0,0-p*q,1⟩).va):=by
 refine Cn.intro Tryz.func88 rfl zk nq (fun B w0 a hst=>?_)
 have hst:St B w0 18 [(0,(QEA 2048 ((4:Nat):Int) p q).va)] [] a w0.w:=hst
 refine wp_seq ?_
 refine gl (sts:=[]) (news:=[⟨1,62,ptrH,some 0,_,none⟩,⟨2,56,ptrH,some 1,_,none⟩]) (sp:=[.alc 0,.alc 1]) [] hst (oc (zam rfl rfl rfl (gq 0 rfl)) (oc (zag rfl rfl rfl (Str.zero zav)) o0)) (fun a w hst=>?_)
 have hst:St B w0 18 [] [⟨1,62,ptrH,_⟩,⟨2,56,ptrH,_⟩] a w:=hst
 refine zt<|gl (sts:=[none,none]) (news:=[⟨3,56,ptrH,some 1,_,some (2,_)⟩]) (sp:=[.val 5 _,.alc 2,.sto 2]) [] hst (zv rfl (za5 (xs:=[]) zeu .nil) (oc (zag rfl rfl rfl (Str.zero zav)) (oc (za8 rfl rfl rfl (vq 0 rfl) zbk (Eq.trans (b:=16) rfl rfl)) o0))) (fun a w hst=>?_)
 have hst:St B w0 18 [] [⟨1,62,ptrH,_⟩,⟨2,56,ptrH,_⟩,⟨3,56,ptrH,_⟩] a w:=hst
 refine zt ?_
 obtain ⟨q1,hst⟩:=St.nm hst 0 rfl
 obtain ⟨q3,hst⟩:=St.nm hst 2 rfl
 refine gl (sts:=[none,none,none]) (news:=[⟨4,141,ptrH,some 6,_,some (7,_)⟩]) (sp:=[.val 6 _,.val 7 _,.val 8 _,.val 9 _,.val 10 _,.val 11 _,.alc 3,.sto 3]) [.g 0,.g 1] hst (zv rfl (zd2 (xs:=[.tmp 1,.tmp 3]) (vs:=[ptr q1,ptr q3]) (.cons (gq 1 rfl) (.cons (gq 0 rfl) .nil))) (zv rfl (zd2 (xs:=[.tmp 1,.tmp 3]) (vs:=[ptr q1,ptr q3]) (.cons (gq 1 rfl) (.cons (gq 0 rfl) .nil))) (zv rfl (zd2 (xs:=[.tmp 1,.tmp 3]) (vs:=[ptr q1,ptr q3]) (.cons (gq 1 rfl) (.cons (gq 0 rfl) .nil))) (zv rfl (zd2 (xs:=[.tmp 1,.tmp 3]) (vs:=[ptr q1,ptr q3]) (.cons (gq 1 rfl) (.cons (gq 0 rfl) .nil))) (zv rfl (zd2 (xs:=[.tmp 3]) (vs:=[ptr q3]) (.cons (gq 0 rfl) .nil)) (zv rfl (zdy (xs:=[(0,.func 121),(1,.tmp 6),(2,.tmp 7),(3,.tmp 8),(4,.tmp 9),(5,.tmp 10)]) (qs:=[(0,_),(1,_),(2,_),(3,_),(4,_),(5,_)]) zdp (.cons ⟨rfl,zem,rfl⟩ (.cons ⟨rfl,(vq 0 rfl),rfl⟩ (.cons ⟨rfl,(vq 1 rfl),rfl⟩ (.cons ⟨rfl,(vq 2 rfl),rfl⟩ (.cons ⟨rfl,(vq 3 rfl),rfl⟩ (.cons ⟨rfl,(vq 4 rfl),rfl⟩ .nil))))))) (oc (zag rfl rfl rfl (Arr.zero zdp)) (oc (za8 rfl rfl rfl (vq 5 rfl) zjh (Eq.trans (b:=6) rfl rfl)) o0)))))))) (fun a w hst=>?_)
 have hst:St B w0 18 [(3,_),(1,_)] [⟨1,62,ptrH,_⟩,⟨2,56,ptrH,_⟩,⟨3,56,ptrH,_⟩,⟨4,141,ptrH,_⟩] a w:=hst
 refine zt<|gl (sts:=[none,none,some (4,_),none]) (news:=[]) (sp:=[.adr 12 1 (.some 0) True,.val 13 _,.val 14 _,.val 15 _,.cal 16 _ 2]) [.g 0,.g 1] hst (oc (ob_a rfl rfl (za9 (lz0 0 rfl) zdm)) (zv rfl (za4 0 rfl zk trivial (lz0 0 rfl) (Sub.part 0 rfl rfl) zgm) (zv rfl (zjv (m:=1) (lz0 3 rfl) Tryz.underlying141 zk (n_ok zk) (vq 1 rfl) rfl) (zv rfl (zas (vq 2 rfl) ty_1) (oc (zh8 (xs:=[.tmp 1,.tmp 3]) (vs:=[ptr q1,ptr q3]) rfl rfl rfl rowOf5_c (vq 3 rfl) (.cons (gq 1 rfl) (.cons (gq 0 rfl) .nil)) (.cons (zge (lz0 0 rfl)) (.cons arw .nil))) o0))))) (fun a w hst=>?_)
 have hst:St B w0 18 [(3,_),(1,_)] [⟨1,62,ptrH,_⟩,⟨2,56,ptrH,_⟩,⟨3,56,ptrH,_⟩,⟨4,141,ptrH,_⟩] a w:=hst
 refine zt<|gl (sts:=[none,some (1,_),none,none]) (news:=[]) (sp:=[.val 17 _,.sto 1]) [.g 0,.g 1] hst (zv rfl (zad (lz0 2 rfl) zbk) (oc (za8 rfl rfl rfl (vq 0 rfl) zbk (Eq.trans (b:=16) rfl rfl)) o0)) (fun a w hst=>?_)
 have hst:St B w0 18 [(3,_),(1,_)] [⟨1,62,ptrH,_⟩,⟨2,56,ptrH,_⟩,⟨3,56,ptrH,_⟩,⟨4,141,ptrH,_⟩] a w:=hst
 refine za0 ?_
 refine wp_ret ?_
 refine zae ?_ (zao rfl hst (zm 1 rfl) zbk)
 exact (zc6 (.cons (zb6 zd) (.cons (zb6 zd) (.cons (zb6 zd) (.cons (zb6 zd) .nil))))).va
theorem rowOfK5 {p q:Rat}  : Cn Tryz.prog 88 [(QEA 2048 ((5:Nat):Int) p q).va] ((QMA 4099 ⟨0-1,0-0,0-0,0-1⟩).va):=by
 refine Cn.intro Tryz.func88 rfl zk nq (fun B w0 a hst=>?_)
 have hst:St B w0 18 [(0,(QEA 2048 ((5:Nat):Int) p q).va)] [] a w0.w:=hst
 refine wp_seq ?_
 refine gl (sts:=[]) (news:=[⟨1,62,ptrH,some 0,_,none⟩,⟨2,56,ptrH,some 1,_,none⟩]) (sp:=[.alc 0,.alc 1]) [] hst (oc (zam rfl rfl rfl (gq 0 rfl)) (oc (zag rfl rfl rfl (Str.zero zav)) o0)) (fun a w hst=>?_)
 have hst:St B w0 18 [] [⟨1,62,ptrH,_⟩,⟨2,56,ptrH,_⟩] a w:=hst
 refine zt<|gl (sts:=[none,none]) (news:=[⟨3,56,ptrH,some 1,_,some (2,_)⟩]) (sp:=[.val 5 _,.alc 2,.sto 2]) [] hst (zv rfl (za5 (xs:=[]) zeu .nil) (oc (zag rfl rfl rfl (Str.zero zav)) (oc (za8 rfl rfl rfl (vq 0 rfl) zbk (Eq.trans (b:=16) rfl rfl)) o0))) (fun a w hst=>?_)
 have hst:St B w0 18 [] [⟨1,62,ptrH,_⟩,⟨2,56,ptrH,_⟩,⟨3,56,ptrH,_⟩] a w:=hst
 refine zt ?_
 obtain ⟨q1,hst⟩:=St.nm hst 0 rfl
 obtain ⟨q3,hst⟩:=St.nm hst 2 rfl
 refine gl (sts:=[none,none,none]) (news:=[⟨4,141,ptrH,some 6,_,some (7,_)⟩]) (sp:=[.val 6 _,.val 7 _,.val 8 _,.val 9 _,.val 10 _,.val 11 _,.alc 3,.sto 3]) [.g 0,.g 1] hst (zv rfl (zd2 (xs:=[.tmp 1,.tmp 3]) (vs:=[ptr q1,ptr q3]) (.cons (gq 1 rfl) (.cons (gq 0 rfl) .nil))) (zv rfl (zd2 (xs:=[.tmp 1,.tmp 3]) (vs:=[ptr q1,ptr q3]) (.cons (gq 1 rfl) (.cons (gq 0 rfl) .nil))) (zv rfl (zd2 (xs:=[.tmp 1,.tmp 3]) (vs:=[ptr q1,ptr q3]) (.cons (gq 1 rfl) (.cons (gq 0 rfl) .nil))) (zv rfl (zd2 (xs:=[.tmp 1,.tmp 3]) (vs:=[ptr q1,ptr q3]) (.cons (gq 1 rfl) (.cons (gq 0 rfl) .nil))) (zv rfl (zd2 (xs:=[.tmp 3]) (vs:=[ptr q3]) (.cons (gq 0 rfl) .nil)) (zv rfl (zdy (xs:=[(0,.func 121),(1,.tmp 6),(2,.tmp 7),(3,.tmp 8),(4,.tmp 9),(5,.tmp 10)]) (qs:=[(0,_),(1,_),(2,_),(3,_),(4,_),(5,_)]) zdp (.cons ⟨rfl,zem,rfl⟩ (.cons ⟨rfl,(vq 0 rfl),rfl⟩ (.cons ⟨rfl,(vq 1 rfl),rfl⟩ (.cons ⟨rfl,(vq 2 rfl),rfl⟩ (.cons ⟨rfl,(vq 3 rfl),rfl⟩ (.cons ⟨rfl,(vq 4 rfl),rfl⟩ .nil))))))) (oc (zag rfl rfl rfl (Arr.zero zdp)) (oc (za8 rfl rfl rfl (vq 5 rfl) zjh (Eq.trans (b:=6) rfl rfl)) o0)))))))) (fun a w hst=>?_)
 have hst:St B w0 18 [(3,_),(1,_)] [⟨1,62,ptrH,_⟩,⟨2,56,ptrH,_⟩,⟨3,56,ptrH,_⟩,⟨4,141,ptrH,_⟩] a w:=hst
 refine zt<|gl (sts:=[none,none,some (4,_),none]) (news:=[]) (sp:=[.adr 12 1 (.some 0) True,.val 13 _,.val 14 _,.val 15 _,.cal 16 _ 2]) [.g 0,.g 1] hst (oc (ob_a rfl rfl (za9 (lz0 0 rfl) zdm)) (zv rfl (za4 0 rfl zk trivial (lz0 0 rfl) (Sub.part 0 rfl rfl) zgm) (zv rfl (zjv (m:=1) (lz0 3 rfl) Tryz.underlying141 zk (n_ok zk) (vq 1 rfl) rfl) (zv rfl (zas (vq 2 rfl) ty_1) (oc (zh8 (xs:=[.tmp 3]) (vs:=[ptr q3]) rfl rfl rfl rowOf6_c (vq 3 rfl) (.cons (gq 0 rfl) .nil) (.cons arw .nil)) o0))))) (fun a w hst=>?_)
 have hst:St B w0 18 [(3,_),(1,_)] [⟨1,62,ptrH,_⟩,⟨2,56,ptrH,_⟩,⟨3,56,ptrH,_⟩,⟨4,141,ptrH,_⟩] a w:=hst
 refine zt<|gl (sts:=[none,some (1,_),none,none]) (news:=[]) (sp:=[.val 17 _,.sto 1]) [.g 0,.g 1] hst (zv rfl (zad (lz0 2 rfl) zbk) (oc (za8 rfl rfl rfl (vq 0 rfl) zbk (Eq.trans (b:=16) rfl rfl)) o0)) (fun a w hst=>?_)
 have hst:St B w0 18 [(3,_),(1,_)] [⟨1,62,ptrH,_⟩,⟨2,56,ptrH,_⟩,⟨3,56,ptrH,_⟩,⟨4,141,ptrH,_⟩] a w:=hst
 refine za0 ?_
 refine wp_ret ?_
 refine zae ?_ (zao rfl hst (zm 1 rfl) zbk)
 exact (zc6 (.cons (zb6 zd) (.cons (zb6 zd) (.cons (zb6 zd) (.cons (zb6 zd) .nil))))).va
end Go.Proofs.YtlpppkkggljdcaaGreat
