import Derived.Test.YtndjeibbjjpkfaaGreatDoorCtAa
import Derived.Test.YtndjeibbjjpkfaaGreatDoorCtAc
import Derived.Test.YtndjeibbjjpkfaaGreatDoorCtAk
import Derived.ProofKit
import Derived.OpenShut
import Derived.ChangeOld
import Derived.Below
import Derived.WalkKit
set_option linter.unusedVariables false
set_option linter.unusedSimpArgs false
set_option linter.unusedSectionVars false
set_option maxRecDepth 100000
namespace Go.Proofs.YtndjeibbjjpkfaaGreatDoor
open Go Go.RowKit
structure RG where
 re:RF
 im:RF
 deriving DecidableEq
structure RM where
 a:RF
 b:RF
 c:RF
 d:RF
 deriving DecidableEq
structure RR where
 y:RF
 u:RF
 deriving DecidableEq
structure GQ where
 re:Rat
 im:Rat
 deriving DecidableEq
structure MQ where
 a:Rat
 b:Rat
 c:Rat
 d:Rat
 deriving DecidableEq
structure YQ where
 y:Rat
 u:Rat
 deriving DecidableEq
def RMA (x:RM):As:=cat [RFA x.a,RFA x.b,RFA x.c,RFA x.d]
def QMA (k:Nat)(x:MQ):As:=cat [QA k x.a,QA k x.b,QA k x.c,QA k x.d]
abbrev rm0:RM:=⟨rf0,rf0,rf0,rf0⟩
def rmOf (m:MQ):RM:=⟨rfOf m.a,rfOf m.b,rfOf m.c,rfOf m.d⟩
def toM (x:RM):MQ:=⟨toQ x.a,toQ x.b,toQ x.c,toQ x.d⟩
def detM (m:MQ):Rat:=m.a*m.d-m.b*m.c
theorem qa_x {k:Nat}{x:RF}(h:okX x=true)(hk:2048≤k):WkA (RFA x) (QA k (toQ x)):=by
 obtain ⟨h1,h2,h3⟩:=okX_q h
 exact (zi4 (congrArg RFA h1)).trans (qa_of (Nat.le_trans h2 hk) (Nat.le_trans h3 hk))
theorem qm_x {x:RM}(h:[x.a,x.b,x.c,x.d].all okX=true):WkA (RMA x) (QMA 2048 (toM x)):=by
 simp only [List.all_cons,List.all_nil,Bool.and_true,Bool.and_eq_true] at h
 exact zc8 (.cons (qa_x h.1 (Nat.le_refl _)) (.cons (qa_x h.2.1 (Nat.le_refl _)) (.cons (qa_x h.2.2.1 (Nat.le_refl _)) (.cons (qa_x h.2.2.2 (Nat.le_refl _)) .nil))))
theorem qmA {k:Nat}{x:MQ}:WkA (QMA k x) (RMA (rmOf x)):=zc8 (.cons qaA (.cons qaA (.cons qaA (.cons qaA .nil))))
def okM (m:RM):Bool:=[m.a,m.b,m.c,m.d].all okX&&decide (detM (toM m)=1)
theorem cm_ne {x y:Rat}:(cmQ x y != 0) = !decide (x=y):=by
 unfold cmQ
 by_cases h:x<y
 ·rw [if_pos h]; simp [Rat.ne_of_lt h]
 ·rw [if_neg h]
  by_cases h2:y<x
  ·rw [if_pos h2]; simp [Rat.ne_of_gt h2]
  ·rw [if_neg h2]
   have:x=y:=Rat.le_antisymm (Rat.not_lt.1 h2) (Rat.not_lt.1 h)
   simp [this]
theorem cm_eq {x y:Rat}:(cmQ x y==0)=decide (x=y):=by
 have:=cm_ne (x:=x) (y:=y)
 simp only [bne] at this
 cases h:cmQ x y==0 <;> cases h2:decide (x=y) <;> simp_all
theorem zar:Str Tryz.prog 32 [RFA rf0,RFA rf0,RFA rf0,RFA rf0] :=
 Str.of (z:=.agg #[.bool false,.slice none 0 0,.bool false,.slice none 0 0,.bool false,.slice none 0 0,.bool false,.slice none 0 0,.bool false,.slice none 0 0,.bool false,.slice none 0 0,.bool false,.slice none 0 0,.bool false,.slice none 0 0]) zk Tryz.underlying32 zk fun B w=>⟨[[.bool false,.slice none 0 0,.bool false,.slice none 0 0],[.bool false,.slice none 0 0,.bool false,.slice none 0 0],[.bool false,.slice none 0 0,.bool false,.slice none 0 0],[.bool false,.slice none 0 0,.bool false,.slice none 0 0]],rfl,(.cons (zpc B w) (.cons (zpc B w) (.cons (zpc B w) (.cons (zpc B w) .nil))))⟩
theorem zzs {c:Nat}{m:MQ}(hk:c≤137438953472):Cn Tryz.prog 185 [(QMA c m).va] (Qs (c+c+(c+c)+1) (detM m)):=by
 refine Cn.intro Tryz.func185 rfl zk nq (fun B w0 a O=>?_)
 have O:=zn [(0,(QMA c m).va)] [] O
 refine wp_seq<|zg [] [⟨1,32,ptrH,some 0,_,none⟩,⟨2,30,ptrH,some 1,_,none⟩] [.alc 0,.alc 1] [] O (oc (zan rfl rfl rfl (gq 0 rfl)) (oc (zaq rfl rfl rfl (Str.zero zb3)) o0)) (zz [] [⟨1,32,ptrH,_⟩,⟨2,30,ptrH,_⟩] fun a w O=>?_)
 refine zt<|zgd [[],[0],[],[2],[0,1,2,3],[],[5],[],[7],[0,1,2,3,4,5,6,7,8],[0,1,2,3,4,5,6,7,8,9],[0,1,2,3,4,5,6,7,8,9,10]] [none,some (11,_)] [] [.adr 3 1 (.some 0) True,.val 4 _,.adr 5 1 (.some 12) True,.val 6 _,.val 7 _,.adr 8 1 (.some 4) True,.val 9 _,.adr 10 1 (.some 8) True,.val 11 _,.val 12 _,.val 13 _,.sto 1] [] za6 O (oc (ob_a rfl rfl (za7 (lz0 0 rfl) zc2)) (zv rfl (za4 0 rfl zk trivial (lz0 0 rfl) (Sub.part 0 rfl rfl) zad) (oc (ob_a rfl rfl (za7 (lz0 0 rfl) zc0)) (zv rfl (za4 2 rfl zk trivial (lz0 0 rfl) (Sub.part 3 rfl rfl) zad) (zv rfl (za5 (xs:=[.tmp 4,.tmp 6]) (zgl zo) (.cons (vq 1 rfl) (.cons (vq 3 rfl) .nil))) (oc (ob_a rfl rfl (za7 (lz0 0 rfl) zc1)) (zv rfl (za4 5 rfl zk trivial (lz0 0 rfl) (Sub.part 1 rfl rfl) zad) (oc (ob_a rfl rfl (za7 (lz0 0 rfl) zbw)) (zv rfl (za4 7 rfl zk trivial (lz0 0 rfl) (Sub.part 2 rfl rfl) zad) (zv rfl (za5 (xs:=[.tmp 9,.tmp 11]) (zgl zo) (.cons (vq 6 rfl) (.cons (vq 8 rfl) .nil))) (zv rfl (za5 (xs:=[.tmp 7,.tmp 12]) (zwi zo) (.cons (vq 4 rfl) (.cons (vq 9 rfl) .nil))) (oc (zac rfl rfl rfl (vq 10 rfl) zad (Eq.trans (b:=4) rfl rfl)) o0)))))))))))) zk zk zk zk (zz [] [⟨1,32,ptrH,_⟩,⟨2,30,ptrH,_⟩] fun a w O=>?_)
 refine za0<|wp_ret<|zae ?_ (zak rfl O (zm 1 rfl) zad)
 exact zbi
theorem zzr {m:RM}(h:[m.a,m.b,m.c,m.d].all okX=true):Cn Tryz.prog 185 [(RMA m).va] (Qs 8193 (detM (toM m))):=(zzs (c:=2048) zd).wk (.cons (qm_x h).va .nil)
theorem may_e {m:RM}:Bo ([m.a,m.b,m.c,m.d].all okX&&(cmQ (detM (toM m)) 1==0))=Bo (okM m):=by rw [cm_eq]; rfl
theorem zzq (m:RM):Cn Tryz.prog 136 [(RMA m).va] (Bo (okM m)):=by
 refine Cn.intro Tryz.func136 rfl zk nq (fun B w0 a O=>?_)
 have O:=zn [(0,(RMA m).va)] [] O
 refine wp_seq<|zg [] [⟨1,32,ptrH,some 0,_,none⟩] [.alc 0,.val 2 _] [.o 1] O (oc (zan rfl rfl rfl (gq 0 rfl)) (zv rfl (za1 zau) o0)) (zz [(2,_)] [⟨1,32,ptrH,_⟩] fun a w O=>?_)
 refine zt<|zg [none] [] [.adr 3 1 (.some 0) True,.val 4 _,.adr 5 1 (.some 4) True,.val 6 _,.adr 7 1 (.some 8) True,.val 8 _,.adr 9 1 (.some 12) True,.val 10 _,.val 11 _,.val 12 _,.val 13 _,.val 14 (Wh (_=true) _),.val 15 (Wh (_=true) _),.val 16 (Wh (_=true) _),.val 17 (Wh (_=true) _),.val 18 (Wh (_=true) _),.val 19 _,.val 2 _] [.o 17] O (oc (ob_a rfl rfl (za7 (lz0 0 rfl) zc2)) (zv rfl (za4 0 rfl zk trivial (lz0 0 rfl) (Sub.part 0 rfl rfl) zad) (oc (ob_a rfl rfl (za7 (lz0 0 rfl) zc1)) (zv rfl (za4 2 rfl zk trivial (lz0 0 rfl) (Sub.part 1 rfl rfl) zad) (oc (ob_a rfl rfl (za7 (lz0 0 rfl) zbw)) (zv rfl (za4 4 rfl zk trivial (lz0 0 rfl) (Sub.part 2 rfl rfl) zad) (oc (ob_a rfl rfl (za7 (lz0 0 rfl) zc0)) (zv rfl (za4 6 rfl zk trivial (lz0 0 rfl) (Sub.part 3 rfl rfl) zad) (zv rfl (zcy (D:=[U32]) (l:=[_,_,_,_]) (xs:=[.tmp 4,.tmp 6,.tmp 8,.tmp 10]) (zff zk) zeo zk (n_ok zk) nq nq nq (.cons (vq 1 rfl) (.cons (vq 3 rfl) (.cons (vq 5 rfl) (.cons (vq 7 rfl) .nil)))) rfl rfl) (zv rfl (za5 (xs:=[.tmp 11]) (zn8 [m.a,m.b,m.c,m.d] nq) (.cons (vq 8 rfl) .nil)) (zv rfl (za2 (vq 9 rfl)) (oc (zai rfl rfl rfl (vq 10 rfl) nq (fun hg=>zam (lz0 0 rfl) zb2)) (oc (zai rfl rfl rfl (vq 10 rfl) nq (fun hg=>za5 (xs:=[.tmp 14]) (zzr hg) (.cons (zaa (vq 11 rfl) hg) .nil))) (oc (zai rfl rfl rfl (vq 10 rfl) nq (fun hg=>za5 (xs:=[]) zw8 .nil)) (oc (zai rfl rfl rfl (vq 10 rfl) nq (fun hg=>za5 (xs:=[.tmp 15,.tmp 16]) (cmp_q zo) (.cons (zaa (vq 12 rfl) hg) (.cons (zaa (vq 13 rfl) hg) .nil)))) (oc (zai rfl rfl rfl (vq 10 rfl) nq (fun hg=>zc5 (zaa (vq 14 rfl) hg) za3)) (zv rfl (zc9 (vq 10 rfl) (vq 15 rfl)) (zv rfl (za1 (vq 16 rfl)) o0)))))))))))))))))) (zz [(2,_)] [⟨1,32,ptrH,_⟩] fun a w O=>?_)
 refine za0<|wp_ret<|zae ?_ (zag rfl O (zm 0 rfl))
 exact zbt may_e
end Go.Proofs.YtndjeibbjjpkfaaGreatDoor
namespace Go.Proofs.YtndjeibbjjpkfaaGreatDoor
open Go Go.RowKit
theorem okM_q {m:RM}(h:okM m=true):[m.a,m.b,m.c,m.d].all okX=true∧detM (toM m)=1:=by
 unfold okM at h
 rw [Bool.and_eq_true,decide_eq_true_eq] at h
 exact h
end Go.Proofs.YtndjeibbjjpkfaaGreatDoor
namespace Go.Proofs.YtndjeibbjjpkfaaGreatDoor
open Go Go.RowKit
def intSizeF (x:RI):Int:=IntKind.i64.wrap (1+(x.mag.length:Int))
def fracSizeF (x:RF):Int:=IntKind.i64.wrap (intSizeF x.num+intSizeF x.den)
def lowCostF (x y:RI):Int:=IntKind.i64.wrap (IntKind.i64.wrap ((IntKind.i64.wrap (min (x.mag.length:Int) 1048576*min (y.mag.length:Int) 1048576)).tdiv 16)*1024)
def fracCostF (x:RF):Int:=IntKind.i64.wrap (fracSizeF x+lowCostF x.num x.den)
def bydF (n:Int):List Int→Bool
 | []=>false
 | x::xs=>if decide (IntKind.i64.wrap (n+x)>1048576) then true else bydF (IntKind.i64.wrap (n+x)) xs
theorem byd_yes {n:Int}{l:List Int}{j:Nat}(h:j<l.length)(h2:decide (IntKind.i64.wrap (n+l[j])>1048576)=true):true=bydF n (l.drop j):=by
 rw [List.drop_eq_getElem_cons h,bydF,h2]; rfl
theorem byd_no {n:Int}{l:List Int}{j:Nat}(h:j<l.length)(h2:decide (IntKind.i64.wrap (n+l[j])>1048576)=false):bydF n (l.drop j)=bydF (IntKind.i64.wrap (n+l[j])) (l.drop (j+1)):=by
 rw [List.drop_eq_getElem_cons h,bydF,h2]; rfl
theorem wi_nx {j m:Nat}(h:j<m)(hm:m≤9223372036854775807):IntKind.i64.wrap ((j:Int)+1)=((j+1:Nat):Int):=by rw [wi64 zo zo]; rfl
theorem slA_len {E:TypeId}{D:List TypeId}{l:List As}{B:Nat}{v:Value}{w:World}(h:(SlA E D l).va.p B v w):l.length≤9223372036854775807:=by
 obtain ⟨cs,⟨_,A,c,ds,_,h1,h2,_⟩,_⟩:=h
 unfold maxLen at h2
 omega
theorem zqq {E:TypeId}{D:List TypeId}{α:Type}{f:α→As}{l:List α}{B:Nat}{v:Value}{w:World}(h:(SlA E D (l.map f)).va.p B v w):l.length≤9223372036854775807:=by
 have:=slA_len h
 rwa [List.length_map] at this
theorem zob (x:RI):Cn Tryz.prog 188 [(RIA x).va] (In (intSizeF x)):=by
 refine Cn.intro Tryz.func188 rfl zk nq (fun B w0 a O=>?_)
 have O:=zn [(0,(RIA x).va)] [] O
 refine wp_seq<|zg [] [⟨1,28,ptrH,some 0,_,none⟩] [.alc 0,.val 2 _] [.o 1] O (oc (zan rfl rfl rfl (gq 0 rfl)) (zv rfl (za1 za3) o0)) (zz [(2,_)] [⟨1,28,ptrH,_⟩] fun a w O=>?_)
 refine zt<|zg [none] [] [.adr 3 1 (.some 1) True,.val 4 _,.val 5 _,.val 6 _,.val 2 _] [.o 4] O (oc (ob_a rfl rfl (za7 (lz0 0 rfl) zao)) (zv rfl (za4 0 rfl zk trivial (lz0 0 rfl) (Sub.part 1 rfl rfl) zbd) (zv rfl (zay Tryz.underlying26 (vq 1 rfl)) (zv rfl (zbb za3 (vq 2 rfl) (rfl)) (zv rfl (za1 (vq 3 rfl)) o0))))) (zz [(2,_)] [⟨1,28,ptrH,_⟩] fun a w O=>?_)
 refine za0<|wp_ret<|zae ?_ (zag rfl O (zm 0 rfl))
 exact zbi
theorem zts (x:RF):Cn Tryz.prog 142 [(RFA x).va] (In (fracSizeF x)):=by
 refine Cn.intro Tryz.func142 rfl zk nq (fun B w0 a O=>?_)
 have O:=zn [(0,(RFA x).va)] [] O
 refine wp_seq<|zg [] [⟨1,30,ptrH,some 0,_,none⟩] [.alc 0,.val 2 _] [.o 1] O (oc (zan rfl rfl rfl (gq 0 rfl)) (zv rfl (za1 za3) o0)) (zz [(2,_)] [⟨1,30,ptrH,_⟩] fun a w O=>?_)
 refine zt<|zgd [[],[0],[0,1],[],[3],[0,1,2,3,4],[0,1,2,3,4,5],[0,1,2,3,4,5,6]] [none] [] [.adr 3 1 (.some 0) True,.val 4 _,.val 5 _,.adr 6 1 (.some 2) True,.val 7 _,.val 8 _,.val 9 _,.val 2 _] [.o 7] za6 O (oc (ob_a rfl rfl (za7 (lz0 0 rfl) zbf)) (zv rfl (za4 0 rfl zk trivial (lz0 0 rfl) (Sub.part 0 rfl rfl) zaf) (zv rfl (za5 (xs:=[.tmp 4]) (zob _) (.cons (vq 1 rfl) .nil)) (oc (ob_a rfl rfl (za7 (lz0 0 rfl) zb9)) (zv rfl (za4 3 rfl zk trivial (lz0 0 rfl) (Sub.part 1 rfl rfl) zaf) (zv rfl (za5 (xs:=[.tmp 7]) (zob _) (.cons (vq 4 rfl) .nil)) (zv rfl (zbb (vq 2 rfl) (vq 5 rfl) (rfl)) (zv rfl (za1 (vq 6 rfl)) o0)))))))) zk zk zk zk (zz [(2,_)] [⟨1,30,ptrH,_⟩] fun a w O=>?_)
 refine za0<|wp_ret<|zae ?_ (zag rfl O (zm 0 rfl))
 exact zbi
theorem zwq (x y:RI):Cn Tryz.prog 143 [(RIA x).va,(RIA y).va] (In (lowCostF x y)):=by
 refine Cn.intro Tryz.func143 rfl zk nq (fun B w0 a O=>?_)
 have O:=zn [(0,(RIA x).va),(1,(RIA y).va)] [] O
 refine wp_seq<|zg [] [⟨2,28,ptrH,some 0,_,none⟩,⟨3,28,ptrH,some 1,_,none⟩] [.alc 0,.alc 1,.val 4 _] [.o 2] O (oc (zan rfl rfl rfl (gq 0 rfl)) (oc (zan rfl rfl rfl (gq 1 rfl)) (zv rfl (za1 za3) o0))) (zz [(4,_)] [⟨2,28,ptrH,_⟩,⟨3,28,ptrH,_⟩] fun a w O=>?_)
 refine zt<|zg [none,none] [] [.adr 5 2 (.some 1) True,.val 6 _,.val 7 _,.val 8 _,.adr 9 3 (.some 1) True,.val 10 _,.val 11 _,.val 12 _,.val 13 _,.val 14 _,.val 15 _,.val 4 _] [.o 11] O (oc (ob_a rfl rfl (za7 (lz0 0 rfl) zao)) (zv rfl (za4 0 rfl zk trivial (lz0 0 rfl) (Sub.part 1 rfl rfl) zbd) (zv rfl (zay Tryz.underlying26 (vq 1 rfl)) (zv rfl (r_min (vq 2 rfl) za3) (oc (ob_a rfl rfl (za7 (lz0 1 rfl) zao)) (zv rfl (za4 4 rfl zk trivial (lz0 1 rfl) (Sub.part 1 rfl rfl) zbd) (zv rfl (zay Tryz.underlying26 (vq 5 rfl)) (zv rfl (r_min (vq 6 rfl) za3) (zv rfl (zlm (vq 3 rfl) (vq 7 rfl) (rfl)) (zv rfl (zkl (vq 8 rfl) za3 zd (rfl)) (zv rfl (zlm (vq 9 rfl) za3 (rfl)) (zv rfl (za1 (vq 10 rfl)) o0)))))))))))) (zz [(4,_)] [⟨2,28,ptrH,_⟩,⟨3,28,ptrH,_⟩] fun a w O=>?_)
 refine za0<|wp_ret<|zae ?_ (zag rfl O (zm 0 rfl))
 exact zbi
theorem zl6 (x:RF):Cn Tryz.prog 81 [(RFA x).va] (In (fracCostF x)):=by
 refine Cn.intro Tryz.func81 rfl zk nq (fun B w0 a O=>?_)
 have O:=zn [(0,(RFA x).va)] [] O
 refine wp_seq<|zg [] [⟨1,30,ptrH,some 0,_,none⟩] [.alc 0,.val 2 _] [.o 1] O (oc (zan rfl rfl rfl (gq 0 rfl)) (zv rfl (za1 za3) o0)) (zz [(2,_)] [⟨1,30,ptrH,_⟩] fun a w O=>?_)
 refine zt<|zgd [[],[0],[],[2],[],[4],[0,1,2,3,4,5],[0,1,2,3,4,5,6],[0,1,2,3,4,5,6,7]] [none] [] [.val 3 _,.val 4 _,.adr 5 1 (.some 0) True,.val 6 _,.adr 7 1 (.some 2) True,.val 8 _,.val 9 _,.val 10 _,.val 2 _] [.o 8] za6 O (zv rfl (zam (lz0 0 rfl) zad) (zv rfl (za5 (xs:=[.tmp 3]) (zts _) (.cons (vq 0 rfl) .nil)) (oc (ob_a rfl rfl (za7 (lz0 0 rfl) zbf)) (zv rfl (za4 2 rfl zk trivial (lz0 0 rfl) (Sub.part 0 rfl rfl) zaf) (oc (ob_a rfl rfl (za7 (lz0 0 rfl) zb9)) (zv rfl (za4 4 rfl zk trivial (lz0 0 rfl) (Sub.part 1 rfl rfl) zaf) (zv rfl (za5 (xs:=[.tmp 6,.tmp 8]) (zwq _ _) (.cons (vq 3 rfl) (.cons (vq 5 rfl) .nil))) (zv rfl (zbb (vq 1 rfl) (vq 6 rfl) (rfl)) (zv rfl (za1 (vq 7 rfl)) o0))))))))) zk zk zk zk (zz [(2,_)] [⟨1,30,ptrH,_⟩] fun a w O=>?_)
 refine za0<|wp_ret<|zae ?_ (zag rfl O (zm 0 rfl))
 exact zbi
theorem beyond_c (l:List Int):Cn Tryz.prog 4 [(SlA 3 [] (l.map (NumA .i64))).va] (Bo (bydF 0 l)):=by
 refine Cn.intro Tryz.func4 rfl zk nq (fun B w0 a O=>?_)
 have O:=zn [(0,(SlA 3 [] (l.map (NumA .i64))).va)] [] O
 have hl:=zqq (O.vals (0,(SlA 3 [] (l.map (NumA .i64))).va) (zm 0 rfl))
 refine wp_seq<|zh [.val 2 _] [.g 0,.o 0] O (zv rfl (za1 zau) o0) (zz [(0,_),(2,_)] [] fun a w O=>?_)
 refine zt<|zh [.val 3 _] [.g 0,.g 1,.o 0] O (zv rfl (za1 za3) o0) (zz [(0,_),(2,_),(3,_)] [] fun a w O=>?_)
 refine zt<|wp_seq<|zh [.val 4 _] [.g 0,.g 1,.g 2,.o 0] O (zv rfl (za1 za3) o0) (zz [(0,_),(2,_),(3,_),(4,_)] [] fun a w O=>?_)
 refine za0<|wp_block ?_
 have O:=St.sel O [0,2,3]
 refine wp_loop_ghost (fun n a w=>∃ (j:Nat) (m:Int),(n+j=l.length∧bydF 0 l=bydF m (l.drop j))∧St B w0 19 [(0,(SlA 3 [] (l.map (NumA .i64))).va),(3,In m),(4,In (j:Nat))] [] a w) (l.length) ?_ ?_
 ·exact ⟨0,0,⟨by omega,rfl⟩,O⟩
 intro n a w hI
 obtain ⟨j,m,⟨hn,hm⟩,O⟩:=hI
 refine wp_seq<|wp_seq<|zh [.val 5 _,.val 6 _,.val 7 _,.val 8 _] [.g 0,.g 1,.g 2,.o 3] O (zv rfl (za2 (gq 2 rfl)) (zv rfl (za2 (gq 0 rfl)) (zv rfl (zbq Tryz.underlying60 (vq 1 rfl)) (zv rfl (zb6 (vq 0 rfl) (vq 2 rfl)) o0)))) (zz [(0,_),(3,_),(4,_),(8,_)] [] fun a w O=>?_)
 refine za0<|za9 O (zm 3 rfl) (fun hb0=>?_) (fun hb0=>?_)
 ·have hj:j<l.length:=by rw [List.length_map] at hb0; simp at hb0; omega
  refine wp_skip<|zt<|wp_block<|wp_seq<|zh [.val 11 _,.val 12 _,.val 13 _,.val 14 _,.val 15 _,.val 16 _,.val 3 _] [.g 0,.g 2,.o 6] O (zv rfl (za2 (gq 1 rfl)) (zv rfl (za2 (gq 0 rfl)) (zv rfl (za2 (gq 2 rfl)) (zv rfl (zdv sl_60 (zie fun _=>rfl) (vq 1 rfl) (vq 2 rfl) (zfb hj)) (zv rfl (zaj (vq 3 rfl) ty_3) (zv rfl (zbb (vq 0 rfl) (vq 4 rfl) (rfl)) (zv rfl (za1 (vq 5 rfl)) o0))))))) (zz [(0,_),(4,_),(3,_)] [] fun a w O=>?_)
  refine zt<|zh [.val 17 _,.val 18 _] [.g 0,.g 1,.g 2,.o 1] O (zv rfl (za2 (gq 2 rfl)) (zv rfl (zex (vq 0 rfl) za3) o0)) (zz [(0,_),(4,_),(3,_),(18,_)] [] fun a w O=>?_)
  refine za0<|za9 O (zm 3 rfl) (fun hb1=>?_) (fun hb1=>?_)
  ·refine wp_seq<|zh [.val 2 _] [.g 0,.g 1,.g 2,.o 0] O (zv rfl (za1 zau) o0) (zz [(0,_),(4,_),(3,_),(2,_)] [] fun a w O=>?_)
   refine za0<|wp_ret<|zb7 ?_
   refine zah ?_
   refine zah ?_
   refine zb7 ?_
   refine zah ?_
   refine zae ?_ (zag rfl O (zm 3 rfl))
   exact zbt (congrArg Bo ((byd_yes hj hb1).trans hm.symm))
  ·refine wp_skip<|zal ?_
   refine za0<|zh [.val 9 _,.val 10 _,.val 4 _] [.g 0,.g 2,.o 2] O (zv rfl (za2 (gq 1 rfl)) (zv rfl (zbb (vq 0 rfl) za3 (wi_nx hj hl)) (zv rfl (za1 (vq 1 rfl)) o0))) (zz [(0,_),(3,_),(4,_)] [] fun a w O=>?_)
   refine za0 ?_
   have O:=St.sel O [0,1,2]
   exact ⟨n-1,by omega,j+1,_,⟨by omega,hm.trans (byd_no hj hb1)⟩,O⟩
 ·obtain rfl:j=l.length:=by rw [List.length_map] at hb0; simp at hb0; omega
  refine wp_exit<|za8<|za8<|zat<|zt<|zh [.val 2 _] [.o 0] O (zv rfl (za1 zau) o0) (zz [(2,_)] [] fun a w O=>?_)
  refine za0<|wp_ret<|zae ?_ (zag rfl O (zm 0 rfl))
  exact zbt (congrArg Bo (by rw [hm,List.drop_of_length_le (Nat.le_refl _)]; rfl))
theorem zzc {a b:RI}(hn:a.neg=b.neg)(h:a.mag=b.mag):true=decide (a=b):=by
 cases a; cases b; simp_all
theorem zzf {a b:RI}(h:((a.neg != b.neg) || (((a.mag.length:Nat):Int) != ((b.mag.length:Nat):Int)))=true):false=decide (a=b):=by
 symm
 apply decide_eq_false
 rintro rfl
 simp at h
theorem zzd {a b:RI}(h:((a.neg != b.neg) || (((a.mag.length:Nat):Int) != ((b.mag.length:Nat):Int)))=false):a.neg=b.neg∧a.mag.length=b.mag.length:=by
 simp only [Bool.or_eq_false_iff,bne_eq_false_iff_eq] at h
 exact ⟨h.1,by omega⟩
theorem zze {a b:RI}{j:Nat}(h1:j<a.mag.length)(h2:j<b.mag.length)(h:(((a.mag[j]:Nat):Int) != ((b.mag[j]:Nat):Int))=true):false=decide (a=b):=by
 symm
 apply decide_eq_false
 rintro rfl
 simp at h
theorem take_eq {l m:List Nat}{j:Nat}(h1:j<l.length)(h2:j<m.length)(h:l.take j=m.take j)(h3:(((l[j]:Nat):Int) != ((m[j]:Nat):Int))=false):l.take (j+1)=m.take (j+1):=by
 rw [List.take_succ_eq_append_getElem h1,List.take_succ_eq_append_getElem h2,h]
 simp only [bne_eq_false_iff_eq] at h3
 rw [show l[j]=m[j] by omega]
theorem rf_eq {a b:RF}:(decide (a.num=b.num)&&decide (a.den=b.den))=decide (a=b):=by
 cases a; cases b; rw [Bool.eq_iff_iff]; simp
theorem rm_eq {a b:RM}:(((decide (a.a=b.a)&&decide (a.b=b.b))&&decide (a.c=b.c))&&decide (a.d=b.d))=decide (a=b):=by
 cases a; cases b; rw [Bool.eq_iff_iff]; simp [and_assoc]
theorem zjg (x y:RI):Cn Tryz.prog 97 [(RIA x).va,(RIA y).va] (Bo (decide (x=y))):=by
 refine Cn.intro Tryz.func97 rfl zk nq (fun B w0 a O=>?_)
 have O:=zn [(0,(RIA x).va),(1,(RIA y).va)] [] O
 have hxk:=zhn (O.vals (0,(RIA x).va) (zm 0 rfl))
 refine wp_seq<|zg [] [⟨2,28,ptrH,some 0,_,none⟩,⟨3,28,ptrH,some 1,_,none⟩] [.alc 0,.alc 1,.val 4 _] [.o 2] O (oc (zan rfl rfl rfl (gq 0 rfl)) (oc (zan rfl rfl rfl (gq 1 rfl)) (zv rfl (za1 zau) o0))) (zz [(4,_)] [⟨2,28,ptrH,_⟩,⟨3,28,ptrH,_⟩] fun a w O=>?_)
 refine zt<|wp_seq<|zg [none,none] [] [.adr 6 2 (.some 0) True,.val 7 _,.adr 8 3 (.some 0) True,.val 9 _,.val 10 _,.val 11 _,.adr 12 2 (.some 1) (_=false),.val 13 (Wh (_=false) _),.val 14 (Wh (_=false) _),.adr 15 3 (.some 1) (_=false),.val 16 (Wh (_=false) _),.val 17 (Wh (_=false) _),.val 18 (Wh (_=false) _),.val 19 _] [.g 0,.o 13] O (oc (ob_a rfl rfl (za7 (lz0 0 rfl) zba)) (zv rfl (za4 0 rfl zk trivial (lz0 0 rfl) (Sub.part 0 rfl rfl) ty_4) (oc (ob_a rfl rfl (za7 (lz0 1 rfl) zba)) (zv rfl (za4 2 rfl zk trivial (lz0 1 rfl) (Sub.part 0 rfl rfl) ty_4) (zv rfl (zky zk (vq 1 rfl) (vq 3 rfl)) (zv rfl (za2 (vq 4 rfl)) (oc (zce rfl rfl rfl (vq 5 rfl) nq (fun hg=>za7 (lz0 0 rfl) zao)) (oc (zai rfl rfl rfl (vq 5 rfl) nq (fun hg=>za4 6 rfl zk hg (lz0 0 rfl) (Sub.part 1 rfl rfl) zbd)) (oc (zai rfl rfl rfl (vq 5 rfl) nq (fun hg=>zay Tryz.underlying26 (zaa (vq 7 rfl) hg))) (oc (zce rfl rfl rfl (vq 5 rfl) nq (fun hg=>za7 (lz0 1 rfl) zao)) (oc (zai rfl rfl rfl (vq 5 rfl) nq (fun hg=>za4 9 rfl zk hg (lz0 1 rfl) (Sub.part 1 rfl rfl) zbd)) (oc (zai rfl rfl rfl (vq 5 rfl) nq (fun hg=>zay Tryz.underlying26 (zaa (vq 10 rfl) hg))) (oc (zai rfl rfl rfl (vq 5 rfl) nq (fun hg=>zd9 (zaa (vq 8 rfl) hg) (zaa (vq 11 rfl) hg))) (zv rfl (r_or (vq 5 rfl) (vq 12 rfl)) o0)))))))))))))) (zz [(4,_),(19,_)] [⟨2,28,ptrH,_⟩,⟨3,28,ptrH,_⟩] fun a w O=>?_)
 refine za0<|za9 O (zm 1 rfl) (fun hb0=>?_) (fun hb0=>?_)
 ·refine wp_seq<|zg [none,none] [] [.val 4 _] [.o 0] O (zv rfl (za1 zau) o0) (zz [(4,_)] [⟨2,28,ptrH,_⟩,⟨3,28,ptrH,_⟩] fun a w O=>?_)
  refine za0<|wp_ret<|zah ?_
  refine zae ?_ (zag rfl O (zm 0 rfl))
  exact zbt (congrArg Bo (zzf hb0))
 ·obtain ⟨hn1,hl⟩:=zzd hb0
  refine wp_skip<|zt<|wp_seq<|zg [none,none] [] [.val 5 _] [.g 0,.o 0] O (zv rfl (za1 za3) o0) (zz [(4,_),(5,_)] [⟨2,28,ptrH,_⟩,⟨3,28,ptrH,_⟩] fun a w O=>?_)
  refine za0<|wp_block ?_
  have O:=St.sel O [1]
  refine wp_loop_ghost (fun n a w=>∃ j:Nat,(n+j=x.mag.length∧x.mag.take j=y.mag.take j)∧St B w0 38 [(5,In (j:Nat))] [⟨2,28,ptrH,RIA x⟩,⟨3,28,ptrH,RIA y⟩] a w) (x.mag.length) ?_ ?_
  ·exact ⟨0,⟨by omega,rfl⟩,O⟩
  intro n a w hI
  obtain ⟨j,⟨hn,ht⟩,O⟩:=hI
  refine wp_seq<|wp_seq<|zg [none,none] [] [.val 20 _,.adr 21 2 (.some 1) True,.val 22 _,.val 23 _,.val 24 _] [.g 0,.o 4] O (zv rfl (za2 (gq 0 rfl)) (oc (ob_a rfl rfl (za7 (lz0 0 rfl) zao)) (zv rfl (za4 1 rfl zk trivial (lz0 0 rfl) (Sub.part 1 rfl rfl) zbd) (zv rfl (zay Tryz.underlying26 (vq 2 rfl)) (zv rfl (zb6 (vq 0 rfl) (vq 3 rfl)) o0))))) (zz [(5,_),(24,_)] [⟨2,28,ptrH,_⟩,⟨3,28,ptrH,_⟩] fun a w O=>?_)
  refine za0<|za9 O (zm 1 rfl) (fun hb1=>?_) (fun hb1=>?_)
  ·have hj:j<x.mag.length:=by simp at hb1; omega
   refine wp_skip<|zt<|wp_block<|wp_seq<|zgd [[],[0],[],[0,1,2],[0,1,2,3],[],[5],[],[5,6,7],[5,6,7,8],[0,1,2,3,4,5,6,7,8,9]] [none,none] [] [.adr 27 2 (.some 1) True,.val 28 _,.val 29 _,.val 30 _,.val 31 _,.adr 32 3 (.some 1) True,.val 33 _,.val 34 _,.val 35 _,.val 36 _,.val 37 _] [.g 0,.o 10] za6 O (oc (ob_a rfl rfl (za7 (lz0 0 rfl) zao)) (zv rfl (za4 0 rfl zk trivial (lz0 0 rfl) (Sub.part 1 rfl rfl) zbd) (zv rfl (za2 (gq 0 rfl)) (zv rfl (zca zbh (vq 1 rfl) (vq 2 rfl) zo) (zv rfl (zaj (vq 3 rfl) zbj) (oc (ob_a rfl rfl (za7 (lz0 1 rfl) zao)) (zv rfl (za4 5 rfl zk trivial (lz0 1 rfl) (Sub.part 1 rfl rfl) zbd) (zv rfl (za2 (gq 0 rfl)) (zv rfl (zca zbh (vq 6 rfl) (vq 7 rfl) zo) (zv rfl (zaj (vq 8 rfl) zbj) (zv rfl (zd9 (vq 4 rfl) (vq 9 rfl)) o0))))))))))) zk zk zk zk (zz [(5,_),(37,_)] [⟨2,28,ptrH,_⟩,⟨3,28,ptrH,_⟩] fun a w O=>?_)
   refine za0<|za9 O (zm 1 rfl) (fun hb2=>?_) (fun hb2=>?_)
   ·refine wp_seq<|zg [none,none] [] [.val 4 _] [.g 0,.o 0] O (zv rfl (za1 zau) o0) (zz [(5,_),(4,_)] [⟨2,28,ptrH,_⟩,⟨3,28,ptrH,_⟩] fun a w O=>?_)
    refine za0<|wp_ret<|zb7 ?_
    refine zah ?_
    refine zah ?_
    refine zb7 ?_
    refine zah ?_
    refine zae ?_ (zag rfl O (zm 1 rfl))
    exact zbt (congrArg Bo (zze hj zo hb2))
   ·refine wp_skip<|zal ?_
    refine za0<|zg [none,none] [] [.val 25 _,.val 26 _,.val 5 _] [.o 2] O (zv rfl (za2 (gq 0 rfl)) (zv rfl (zbb (vq 0 rfl) za3 (wi_nx hj hxk.2)) (zv rfl (za1 (vq 1 rfl)) o0))) (zz [(5,_)] [⟨2,28,ptrH,_⟩,⟨3,28,ptrH,_⟩] fun a w O=>?_)
    refine za0 ?_
    have O:=St.sel O [0]
    exact ⟨n-1,by omega,j+1,⟨by omega,take_eq hj zo ht hb2⟩,O⟩
  ·obtain rfl:j=x.mag.length:=by simp at hb1; omega
   refine wp_exit<|za8<|za8<|zat<|zt<|zg [none,none] [] [.val 4 _] [.o 0] O (zv rfl (za1 zau) o0) (zz [(4,_)] [⟨2,28,ptrH,_⟩,⟨3,28,ptrH,_⟩] fun a w O=>?_)
   refine za0<|wp_ret<|zae ?_ (zag rfl O (zm 0 rfl))
   exact zbt (congrArg Bo (zzc hn1 (by rw [List.take_of_length_le (Nat.le_refl _),List.take_of_length_le zo] at ht; exact ht)))
theorem ze4 (x y:RF):Cn Tryz.prog 25 [(RFA x).va,(RFA y).va] (Bo (decide (x=y))):=by
 refine Cn.intro Tryz.func25 rfl zk nq (fun B w0 a O=>?_)
 have O:=zn [(0,(RFA x).va),(1,(RFA y).va)] [] O
 refine wp_seq<|zg [] [⟨2,30,ptrH,some 0,_,none⟩,⟨3,30,ptrH,some 1,_,none⟩] [.alc 0,.alc 1,.val 4 _] [.o 2] O (oc (zan rfl rfl rfl (gq 0 rfl)) (oc (zan rfl rfl rfl (gq 1 rfl)) (zv rfl (za1 zau) o0))) (zz [(4,_)] [⟨2,30,ptrH,_⟩,⟨3,30,ptrH,_⟩] fun a w O=>?_)
 refine zt<|zg [none,none] [] [.adr 5 2 (.some 0) True,.val 6 _,.adr 7 3 (.some 0) True,.val 8 _,.val 9 _,.val 10 _,.adr 11 2 (.some 2) (_=true),.val 12 (Wh (_=true) _),.adr 13 3 (.some 2) (_=true),.val 14 (Wh (_=true) _),.val 15 (Wh (_=true) _),.val 16 _,.val 4 _] [.o 12] O (oc (ob_a rfl rfl (za7 (lz0 0 rfl) zbf)) (zv rfl (za4 0 rfl zk trivial (lz0 0 rfl) (Sub.part 0 rfl rfl) zaf) (oc (ob_a rfl rfl (za7 (lz0 1 rfl) zbf)) (zv rfl (za4 2 rfl zk trivial (lz0 1 rfl) (Sub.part 0 rfl rfl) zaf) (zv rfl (za5 (xs:=[.tmp 6,.tmp 8]) (zjg _ _) (.cons (vq 1 rfl) (.cons (vq 3 rfl) .nil))) (zv rfl (za2 (vq 4 rfl)) (oc (zce rfl rfl rfl (vq 5 rfl) nq (fun hg=>za7 (lz0 0 rfl) zb9)) (oc (zai rfl rfl rfl (vq 5 rfl) nq (fun hg=>za4 6 rfl zk hg (lz0 0 rfl) (Sub.part 1 rfl rfl) zaf)) (oc (zce rfl rfl rfl (vq 5 rfl) nq (fun hg=>za7 (lz0 1 rfl) zb9)) (oc (zai rfl rfl rfl (vq 5 rfl) nq (fun hg=>za4 8 rfl zk hg (lz0 1 rfl) (Sub.part 1 rfl rfl) zaf)) (oc (zai rfl rfl rfl (vq 5 rfl) nq (fun hg=>za5 (xs:=[.tmp 12,.tmp 14]) (zjg _ _) (.cons (zaa (vq 7 rfl) hg) (.cons (zaa (vq 9 rfl) hg) .nil)))) (zv rfl (zc9 (vq 5 rfl) (vq 10 rfl)) (zv rfl (za1 (vq 11 rfl)) o0))))))))))))) (zz [(4,_)] [⟨2,30,ptrH,_⟩,⟨3,30,ptrH,_⟩] fun a w O=>?_)
 refine za0<|wp_ret<|zae ?_ (zag rfl O (zm 0 rfl))
 exact zbt (congrArg Bo rf_eq)
theorem zfk (x y:RM):Cn Tryz.prog 9 [(RMA x).va,(RMA y).va] (Bo (decide (x=y))):=by
 refine Cn.intro Tryz.func9 rfl zk nq (fun B w0 a O=>?_)
 have O:=zn [(0,(RMA x).va),(1,(RMA y).va)] [] O
 refine wp_seq<|zg [] [⟨2,32,ptrH,some 0,_,none⟩,⟨3,32,ptrH,some 1,_,none⟩] [.alc 0,.alc 1,.val 4 _] [.o 2] O (oc (zan rfl rfl rfl (gq 0 rfl)) (oc (zan rfl rfl rfl (gq 1 rfl)) (zv rfl (za1 zau) o0))) (zz [(4,_)] [⟨2,32,ptrH,_⟩,⟨3,32,ptrH,_⟩] fun a w O=>?_)
 refine zt<|gl (sts:=[none,none]) (news:=[]) (sp:=((.adr 5 2 (.some 0) True:Sp)::(.val 6 _)::(.adr 7 3 (.some 0) True)::(.val 8 _)::(.val 9 _)::(.val 10 _)::(.adr 11 2 (.some 4) (_=true))::(.val 12 (Wh (_=true) _))::(.adr 13 3 (.some 4) (_=true))::(.val 14 (Wh (_=true) _))::(.val 15 (Wh (_=true) _))::(.val 16 _)::(.val 17 _)::(.adr 18 2 (.some 8) (_=true))::(.val 19 (Wh (_=true) _))::(.adr 20 3 (.some 8) (_=true))::(.val 21 (Wh (_=true) _))::(.val 22 (Wh (_=true) _))::(.val 23 _)::(.val 24 _)::(.adr 25 2 (.some 12) (_=true))::(.val 26 (Wh (_=true) _))::(.adr 27 3 (.some 12) (_=true))::(.val 28 (Wh (_=true) _))::(.val 29 (Wh (_=true) _))::(.val 30 _)::(.val 4 _)::[])) [.o 26] O (oc (ob_a rfl rfl (za7 (lz0 0 rfl) zc2)) (zv rfl (za4 0 rfl zk trivial (lz0 0 rfl) (Sub.part 0 rfl rfl) zad) (oc (ob_a rfl rfl (za7 (lz0 1 rfl) zc2)) (zv rfl (za4 2 rfl zk trivial (lz0 1 rfl) (Sub.part 0 rfl rfl) zad) (zv rfl (za5 (xs:=[.tmp 6,.tmp 8]) (ze4 _ _) (.cons (vq 1 rfl) (.cons (vq 3 rfl) .nil))) (zv rfl (za2 (vq 4 rfl)) (oc (zce rfl rfl rfl (vq 5 rfl) nq (fun hg=>za7 (lz0 0 rfl) zc1)) (oc (zai rfl rfl rfl (vq 5 rfl) nq (fun hg=>za4 6 rfl zk hg (lz0 0 rfl) (Sub.part 1 rfl rfl) zad)) (oc (zce rfl rfl rfl (vq 5 rfl) nq (fun hg=>za7 (lz0 1 rfl) zc1)) (oc (zai rfl rfl rfl (vq 5 rfl) nq (fun hg=>za4 8 rfl zk hg (lz0 1 rfl) (Sub.part 1 rfl rfl) zad)) (oc (zai rfl rfl rfl (vq 5 rfl) nq (fun hg=>za5 (xs:=[.tmp 12,.tmp 14]) (ze4 _ _) (.cons (zaa (vq 7 rfl) hg) (.cons (zaa (vq 9 rfl) hg) .nil)))) (zv rfl (zc9 (vq 5 rfl) (vq 10 rfl)) (zv rfl (za2 (vq 11 rfl)) (oc (zce rfl rfl rfl (vq 12 rfl) nq (fun hg=>za7 (lz0 0 rfl) zbw)) (oc (zai rfl rfl rfl (vq 12 rfl) nq (fun hg=>za4 13 rfl zk hg (lz0 0 rfl) (Sub.part 2 rfl rfl) zad)) (oc (zce rfl rfl rfl (vq 12 rfl) nq (fun hg=>za7 (lz0 1 rfl) zbw)) (oc (zai rfl rfl rfl (vq 12 rfl) nq (fun hg=>za4 15 rfl zk hg (lz0 1 rfl) (Sub.part 2 rfl rfl) zad)) (oc (zai rfl rfl rfl (vq 12 rfl) nq (fun hg=>za5 (xs:=[.tmp 19,.tmp 21]) (ze4 _ _) (.cons (zaa (vq 14 rfl) hg) (.cons (zaa (vq 16 rfl) hg) .nil)))) (zv rfl (zc9 (vq 12 rfl) (vq 17 rfl)) (zv rfl (za2 (vq 18 rfl)) (oc (zce rfl rfl rfl (vq 19 rfl) nq (fun hg=>za7 (lz0 0 rfl) zc0)) (oc (zai rfl rfl rfl (vq 19 rfl) nq (fun hg=>za4 20 rfl zk hg (lz0 0 rfl) (Sub.part 3 rfl rfl) zad)) (oc (zce rfl rfl rfl (vq 19 rfl) nq (fun hg=>za7 (lz0 1 rfl) zc0)) (oc (zai rfl rfl rfl (vq 19 rfl) nq (fun hg=>za4 22 rfl zk hg (lz0 1 rfl) (Sub.part 3 rfl rfl) zad)) (oc (zai rfl rfl rfl (vq 19 rfl) nq (fun hg=>za5 (xs:=[.tmp 26,.tmp 28]) (ze4 _ _) (.cons (zaa (vq 21 rfl) hg) (.cons (zaa (vq 23 rfl) hg) .nil)))) (zv rfl (zc9 (vq 19 rfl) (vq 24 rfl)) (zv rfl (za1 (vq 25 rfl)) o0))))))))))))))))))))))))))) (zz [(4,_)] [⟨2,32,ptrH,_⟩,⟨3,32,ptrH,_⟩] fun a w O=>?_)
 refine za0<|wp_ret<|zae ?_ (zag rfl O (zm 0 rfl))
 exact zbt (congrArg Bo rm_eq)
end Go.Proofs.YtndjeibbjjpkfaaGreatDoor
namespace Go.Proofs.YtndjeibbjjpkfaaGreatDoor
open Go Go.RowKit
open Go.ChangeShapes Go.WideShapes Go.ChangeAt
theorem zya {B:Nat}{w:World}:∀ {l:List As} {cs:List Value},cs.length=(l.map (·.n)).sum→(∀ (k:Nat) (A:As),l[k]?=some A→A.p B ((cs.drop (offs l k)).take A.n) w)→(cat l).p B cs w
 | [],cs,hl,_=>by
  have:cs=[]:=List.length_eq_zero_iff.1 (by simpa using hl)
  subst this
  exact ⟨[],rfl,.nil⟩
 | A::l,cs,hl,h=>by
  simp only [List.map_cons,List.sum_cons] at hl
  have h0:=h 0 A rfl
  simp only [offs,List.take_zero,List.map_nil,List.sum_nil,List.drop_zero] at h0
  obtain ⟨ps,e,hps⟩:=zya (l:=l) (cs:=cs.drop A.n) (B:=B) (w:=w) (by simp; omega) fun k A' hk=>by
   have:=h (k+1) A' (by simpa using hk)
   simp only [offs,List.take_succ_cons,List.map_cons,List.sum_cons] at this
   rw [List.drop_drop]
   exact this
  exact ⟨cs.take A.n::ps,by rw [List.flatten_cons,← e,List.take_append_drop],.cons h0 hps⟩
section
variable {H:Type} {enc:TypeId × Value→H} {w:World} {base:Nat} {spare:Nat→Bool} {held:Bool} {fuel:Nat} {cs:List Value} {x:DataW H × List MemPlace}
theorem rd_mg (h:DataW.trod enc Tryz.prog w base spare held fuel 26 cs=some x):∃ l,(MgA l).p w.heap.size cs w:=by
 rcases open_ints Tryz.underlying26 Tryz.underlying98 zk h with ⟨hcs,_⟩ | ⟨a,len,cap,zs,rfl,_,hl,hm,hz,_,hcell,hwz⟩
 ·subst hcs
  exact ⟨[],zfm _ _⟩
 ·have hzl:len≤zs.length:=by rw [hz]; split <;> omega
  have hnn:∀ n∈zs,0≤n∧n<4294967296:=fun n hn=>by
   have:=hwz n hn
   simp [Lit.wf,IntKind.min,IntKind.max,IntKind.signed,IntKind.bits] at this
   omega
  have hlen:((zs.take len).map Int.toNat).length=len:=by simp; omega
  refine ⟨(zs.take len).map Int.toNat,?_⟩
  have hM:Mag w.heap.size w (some a) cap ((zs.take len).map Int.toNat):=by
   refine ⟨fun y hy=>?_,by omega,hm,fun hn=>?_⟩
   ·obtain ⟨n,hn,rfl⟩:=List.mem_map.1 hy
    have:=hnn n (List.mem_of_mem_take hn)
    omega
   ·obtain ⟨b,off,rfl,hc⟩:=ints_at hcell zo
    have hb:b<w.heap.size:=World.block_lt_of_cell? w _ (hc 0 zo)
    refine ⟨b,off,rfl,hb,.inl hb,fun j hj=>?_⟩
    rw [hc j zo]
    have hjz:j<zs.length:=by omega
    have:=hnn _ (List.getElem_mem hjz)
    congr 2
    simp only [List.getElem_map,List.getElem_take]
    rw [Int.toNat_of_nonneg this.1]
    simp [List.getD_eq_getElem?_getD,List.getElem?_eq_getElem hjz]
  obtain ⟨ds,hp,hv⟩:=zem hM hlen.symm
  have hd:=(MgA ((zs.take len).map Int.toNat)).len _ _ _ hp
  match ds,hd with
  | [d],_ =>
   have:d=.slice (some a) len cap:=hv.symm
   subst this
   exact hp
theorem zy7 {B:Nat}{A0 A1:As}(h0:A0.p B ((cs.drop 0).take A0.n) w)(h1:A1.p B ((cs.drop A0.n).take A1.n) w)(hl:cs.length=A0.n+A1.n):(cat [A0,A1]).p B cs w :=
 zya (by simpa using hl) fun k A hk=>by
  match k,hk with
  | 0,hk=>simp at hk; subst hk; exact h0
  | 1,hk=>simp at hk; subst hk; simpa [offs] using h1
theorem rd_bo (h:DataW.trod enc Tryz.prog w base spare held fuel 4 cs=some x):∃ b,(BoA b).p w.heap.size cs w:=by
 obtain ⟨b,hb,_⟩:=DataW.trod_bool Tryz.underlying4 h
 exact ⟨b,hb⟩
end
end Go.Proofs.YtndjeibbjjpkfaaGreatDoor
namespace Go.Proofs.YtndjeibbjjpkfaaGreatDoor
open Go Go.RowKit
structure OkG (p:GQ):Prop where
 re:longQ p.re=false
 im:longQ p.im=false
 pos:0<p.im
end Go.Proofs.YtndjeibbjjpkfaaGreatDoor
namespace Go.Proofs.YtndjeibbjjpkfaaGreatDoor
open Go Go.RowKit
theorem div_pos {x y:Rat}(h:0<x)(h':0<y):0<x/y:=Rat.mul_pos h (Rat.inv_pos.2 h')
end Go.Proofs.YtndjeibbjjpkfaaGreatDoor
