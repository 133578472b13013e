import Derived.Test.YtlpppkkggljdcaaGreatTcAa
import Derived.Test.YtlpppkkggljdcaaGreatTcAc
import Derived.Test.YtlpppkkggljdcaaGreatTcAk
import Derived.ProofKit
import Derived.OpenShut
import Derived.ChangeOld
import Derived.Below
import Derived.WalkKit
set_option linter.unusedVariables false
set_option linter.unusedSimpArgs false
set_option linter.unusedSectionVars false
set_option maxRecDepth 100000
namespace Go.Proofs.YtlpppkkggljdcaaGreat
open Go Go.RowKit
theorem ex_checkI : ∃ fn, Tryz.prog.funcs[131]? = some fn ∧ (fn.name == "runtime.NumGoroutine") = false ∧ fn.body.isNone = false := ⟨_, Tryz.func131, by kernel_rfl, by kernel_rfl⟩
theorem check_z {c:Nat}{p:Int}(hc:c≤2048):Cn Tryz.prog 131 [Zs c p] (In 0):=zs1 ex_checkI fun h=>(check_c (riOf p)).post (by rw [okRI_ri,decide_eq_true (by omega:lz p≤2048)]; rfl)
theorem lz_i64 {p:Int}(h0 : -9223372036854775808≤p)(h1:p<9223372036854775808):lz p≤2:=lz_le zo
theorem ansF_ok {q:Rat}(h:lz q.num≤2048∧lz (q.den:Int)≤2048):ansF q=(rfOf q,0):=by rw [ansF,longQ_false.2 h]; rfl
theorem ansF_low {p q:Int}(hq:q≠0)(hp:lz p≤2)(h2:lz q≤2):ansF (Rat.divInt p q)=(rfOf (Rat.divInt p q),0):=by
 have:=zf4 (p:=p) hq
 exact ansF_ok zo
theorem make_q {p q:Int}(hq:q≠0):Cn Tryz.prog 113 [Zs 2 p,Zs 2 q] (FrR (ansF (Rat.divInt p q))):=by
 refine Cn.intro Tryz.func113 rfl zk nq (fun B w0 a hst=>?_)
 have hst:St B w0 25 [(0,Zs 2 p),(1,Zs 2 q)] [] a w0.w:=hst
 refine wp_seq ?_
 refine gl (sts:=[]) (news:=[⟨2,35,ptrH,some 0,_,none⟩,⟨3,35,ptrH,some 1,_,none⟩,⟨4,37,ptrH,some 2,_,none⟩]) (sp:=[.alc 0,.alc 1,.alc 2,.val 5 _]) [.o 3] hst (oc (zan rfl rfl rfl (gq 0 rfl)) (oc (zan rfl rfl rfl (gq 1 rfl)) (oc (zap rfl rfl rfl (Str.zero zb9)) (zv rfl (za1 za3) o0)))) (fun a w hst=>?_)
 have hst:St B w0 25 [(5,_)] [⟨2,35,ptrH,_⟩,⟨3,35,ptrH,_⟩,⟨4,37,ptrH,_⟩] a w:=hst
 refine zt ?_
 refine wp_seq ?_
 refine gl (sts:=[none,none,none]) (news:=[]) (sp:=[.val 6 _,.val 7 _,.val 8 _,.val 9 _,.val 10 (Wh (_=false) _),.val 11 (Wh (_=false) _),.val 12 (Wh (_=false) _),.val 13 _]) [.g 0,.o 7] hst (zv rfl (zaq (lz0 0 rfl) zab) (zv rfl (za5 (xs:=[.tmp 6]) (check_z zd) (.cons (vq 0 rfl) .nil)) (zv rfl (zdh (vq 1 rfl) za3) (zv rfl (za2 (vq 2 rfl)) (oc (zal rfl rfl rfl (vq 3 rfl) nq (fun hg=>zaq (lz0 1 rfl) zab)) (oc (zal rfl rfl rfl (vq 3 rfl) nq (fun hg=>za5 (xs:=[.tmp 10]) (check_z zd) (.cons (zae (vq 4 rfl) hg) .nil))) (oc (zal rfl rfl rfl (vq 3 rfl) nq (fun hg=>zdh (zae (vq 5 rfl) hg) za3)) (zv rfl (r_or (vq 3 rfl) (vq 6 rfl)) o0)))))))) (fun a w hst=>?_)
 have hst:St B w0 25 [(5,_),(13,_)] [⟨2,35,ptrH,_⟩,⟨3,35,ptrH,_⟩,⟨4,37,ptrH,_⟩] a w:=hst
 refine za0 ?_
 refine za8 hst (zm 1 rfl) (fun hb0=>?_) (fun hb0=>?_)
 ·exact absurd hb0 zd
 ·refine wp_skip ?_
  refine zt ?_
  refine wp_seq ?_
  refine gl (sts:=[none,none,none]) (news:=[]) (sp:=[.val 15 _,.val 16 _,.val 17 _]) [.g 0,.o 2] hst (zv rfl (zaq (lz0 1 rfl) zab) (zv rfl (za5 (xs:=[.tmp 15]) sign_z (.cons (vq 0 rfl) .nil)) (zv rfl (zc2 (vq 1 rfl) za3) o0))) (fun a w hst=>?_)
  have hst:St B w0 25 [(5,_),(17,_)] [⟨2,35,ptrH,_⟩,⟨3,35,ptrH,_⟩,⟨4,37,ptrH,_⟩] a w:=hst
  refine za0 ?_
  refine za8 hst (zm 1 rfl) (fun hb1=>?_) (fun hb1=>?_)
  ·exact absurd hb1 (by simpa using hq)
  ·refine wp_skip ?_
   refine zt<|gl (sts:=[none,none,some (6,_)]) (news:=[]) (sp:=[.val 19 _,.val 20 _,.val 21 _,.val 22 _,.val 23 _,.val 24 _,.sto 2,.val 5 _]) [.o 7] hst (zv rfl (zaq (lz0 0 rfl) zab) (zv rfl (zaq (lz0 1 rfl) zab) (zv rfl (za5 (xs:=[.tmp 19,.tmp 20]) (zfh zd zd hq) (.cons (vq 0 rfl) (.cons (vq 1 rfl) .nil))) (zv rfl (za5 (xs:=[.tmp 21]) (answered_q zd) (.cons (vq 2 rfl) .nil)) (zv rfl (r_ex0 (vq 3 rfl)) (zv rfl (r_ex1 (vq 3 rfl)) (oc (zaf rfl rfl rfl (vq 4 rfl) zao (Eq.trans (b:=4) rfl rfl)) (zv rfl (za1 (vq 5 rfl)) o0)))))))) (fun a w hst=>?_)
   have hst:St B w0 25 [(5,_)] [⟨2,35,ptrH,_⟩,⟨3,35,ptrH,_⟩,⟨4,37,ptrH,_⟩] a w:=hst
   refine za0 ?_
   refine wp_ret ?_
   refine zai ?_ (zbi (rs:=[.cell 4 37,.tmp 5]) rfl hst (.cell (zm 2 rfl) zao (.tmp (zm 0 rfl) .nil)) zd)
   exact zb6
theorem ofQ_c {p q:Int}(hp : -9223372036854775808≤p)(hp1:p<9223372036854775808)(hq0 : -9223372036854775808≤q)(hq1:q<9223372036854775808)(hq:q≠0):Cn Tryz.prog 75 [In p,In q] (FrR (rfOf (Rat.divInt p q),0)):=by
 refine Cn.intro Tryz.func75 rfl zk nq (fun B w0 a hst=>?_)
 have hst:St B w0 13 [(0,In p),(1,In q)] [] a w0.w:=hst
 refine wp_seq ?_
 refine gl (sts:=[]) (news:=[⟨4,37,ptrH,some 0,_,none⟩]) (sp:=[.alc 0,.val 5 _]) [.g 0,.g 1,.o 1] hst (oc (zap rfl rfl rfl (Str.zero zb9)) (zv rfl (za1 za3) o0)) (fun a w hst=>?_)
 have hst:St B w0 13 [(0,_),(1,_),(5,_)] [⟨4,37,ptrH,_⟩] a w:=hst
 refine zt<|gl (sts:=[some (7,_)]) (news:=[]) (sp:=[.val 6 _,.val 7 _,.val 8 _,.val 9 _,.val 10 _,.val 11 _,.val 12 _,.sto 0,.val 5 _]) [.o 8] hst (zv rfl (za2 (gq 0 rfl)) (zv rfl (za5 (xs:=[.tmp 6]) (of_z hp hp1) (.cons (vq 0 rfl) .nil)) (zv rfl (za2 (gq 1 rfl)) (zv rfl (za5 (xs:=[.tmp 8]) (of_z hq0 hq1) (.cons (vq 2 rfl) .nil)) (zv rfl (za5 (xs:=[.tmp 7,.tmp 9]) (make_q hq) (.cons (vq 1 rfl) (.cons (vq 3 rfl) .nil))) (zv rfl (r_ex0 (vq 4 rfl)) (zv rfl (r_ex1 (vq 4 rfl)) (oc (zaf rfl rfl rfl (vq 5 rfl) zao (Eq.trans (b:=4) rfl rfl)) (zv rfl (za1 (vq 6 rfl)) o0))))))))) (fun a w hst=>?_)
 have hst:St B w0 13 [(5,_)] [⟨4,37,ptrH,_⟩] a w:=hst
 refine za0 ?_
 refine wp_ret ?_
 refine zai ?_ (zbi (rs:=[.cell 4 37,.tmp 5]) rfl hst (.cell (zm 0 rfl) zao (.tmp (zm 0 rfl) .nil)) zd)
 rw [← ansF_low hq (lz_i64 hp hp1) (lz_i64 hq0 hq1)]; exact zb6
end Go.Proofs.YtlpppkkggljdcaaGreat
namespace Go.Proofs.YtlpppkkggljdcaaGreat
open Go Go.RowKit
structure RG where
 re:RF
 im:RF
 deriving DecidableEq
structure RM where
 a:RF
 b:RF
 c:RF
 d:RF
 deriving DecidableEq
structure RR where
 y:RF
 u:RF
 deriving DecidableEq
structure GQ where
 re:Rat
 im:Rat
 deriving DecidableEq
structure MQ where
 a:Rat
 b:Rat
 c:Rat
 d:Rat
 deriving DecidableEq
structure YQ where
 y:Rat
 u:Rat
 deriving DecidableEq
def RMA (x:RM):As:=cat [RFA x.a,RFA x.b,RFA x.c,RFA x.d]
def QMA (k:Nat)(x:MQ):As:=cat [QA k x.a,QA k x.b,QA k x.c,QA k x.d]
abbrev rm0:RM:=⟨rf0,rf0,rf0,rf0⟩
theorem qa_x {k:Nat}{x:RF}(h:okX x=true)(hk:2048≤k):WkA (RFA x) (QA k (toQ x)):=by
 obtain ⟨h1,h2,h3⟩:=okX_q h
 exact (zig (congrArg RFA h1)).trans (qa_of (Nat.le_trans h2 hk) (Nat.le_trans h3 hk))
theorem zbn:Str Tryz.prog 56 [RFA rf0,RFA rf0,RFA rf0,RFA rf0] :=
 Str.of (z:=.agg #[.bool false,.slice none 0 0,.bool false,.slice none 0 0,.bool false,.slice none 0 0,.bool false,.slice none 0 0,.bool false,.slice none 0 0,.bool false,.slice none 0 0,.bool false,.slice none 0 0,.bool false,.slice none 0 0]) zk Tryz.underlying56 zk fun B w=>⟨[[.bool false,.slice none 0 0,.bool false,.slice none 0 0],[.bool false,.slice none 0 0,.bool false,.slice none 0 0],[.bool false,.slice none 0 0,.bool false,.slice none 0 0],[.bool false,.slice none 0 0,.bool false,.slice none 0 0]],rfl,(.cons (zhv B w) (.cons (zhv B w) (.cons (zhv B w) (.cons (zhv B w) .nil))))⟩
end Go.Proofs.YtlpppkkggljdcaaGreat
namespace Go.Proofs.YtlpppkkggljdcaaGreat
open Go Go.RowKit
end Go.Proofs.YtlpppkkggljdcaaGreat
namespace Go.Proofs.YtlpppkkggljdcaaGreat
open Go Go.RowKit
def intSizeF (x:RI):Int:=IntKind.i64.wrap (1+(x.mag.length:Int))
def fracSizeF (x:RF):Int:=IntKind.i64.wrap (intSizeF x.num+intSizeF x.den)
def lowCostF (x y:RI):Int:=IntKind.i64.wrap (IntKind.i64.wrap ((IntKind.i64.wrap (min (x.mag.length:Int) 1048576*min (y.mag.length:Int) 1048576)).tdiv 16)*1024)
def fracCostF (x:RF):Int:=IntKind.i64.wrap (fracSizeF x+lowCostF x.num x.den)
def bydF (n:Int):List Int→Bool
 | []=>false
 | x::xs=>if decide (IntKind.i64.wrap (n+x)>1048576) then true else bydF (IntKind.i64.wrap (n+x)) xs
theorem byd_yes {n:Int}{l:List Int}{j:Nat}(h:j<l.length)(h2:decide (IntKind.i64.wrap (n+l[j])>1048576)=true):true=bydF n (l.drop j):=by
 rw [List.drop_eq_getElem_cons h,bydF,h2]; rfl
theorem byd_no {n:Int}{l:List Int}{j:Nat}(h:j<l.length)(h2:decide (IntKind.i64.wrap (n+l[j])>1048576)=false):bydF n (l.drop j)=bydF (IntKind.i64.wrap (n+l[j])) (l.drop (j+1)):=by
 rw [List.drop_eq_getElem_cons h,bydF,h2]; rfl
theorem wi_nx {j m:Nat}(h:j<m)(hm:m≤9223372036854775807):IntKind.i64.wrap ((j:Int)+1)=((j+1:Nat):Int):=by rw [wi64 zo zo]; rfl
theorem slA_len {E:TypeId}{D:List TypeId}{l:List As}{B:Nat}{v:Value}{w:World}(h:(SlA E D l).va.p B v w):l.length≤9223372036854775807:=by
 obtain ⟨cs,⟨_,A,c,ds,_,h1,h2,_⟩,_⟩:=h
 unfold maxLen at h2
 omega
theorem slA_lenm {E:TypeId}{D:List TypeId}{α:Type}{f:α→As}{l:List α}{B:Nat}{v:Value}{w:World}(h:(SlA E D (l.map f)).va.p B v w):l.length≤9223372036854775807:=by
 have:=slA_len h
 rwa [List.length_map] at this
theorem zl4 (x:RI):Cn Tryz.prog 137 [(RIA x).va] (In (intSizeF x)):=by
 refine Cn.intro Tryz.func137 rfl zk nq (fun B w0 a hst=>?_)
 have hst:St B w0 7 [(0,(RIA x).va)] [] a w0.w:=hst
 refine wp_seq ?_
 refine gl (sts:=[]) (news:=[⟨1,35,ptrH,some 0,_,none⟩]) (sp:=[.alc 0,.val 2 _]) [.o 1] hst (oc (zan rfl rfl rfl (gq 0 rfl)) (zv rfl (za1 za3) o0)) (fun a w hst=>?_)
 have hst:St B w0 7 [(2,_)] [⟨1,35,ptrH,_⟩] a w:=hst
 refine zt<|gl (sts:=[none]) (news:=[]) (sp:=[.adr 3 1 (.some 1) True,.val 4 _,.val 5 _,.val 6 _,.val 2 _]) [.o 4] hst (oc (ob_a rfl rfl (za7 (lz0 0 rfl) zag)) (zv rfl (za4 0 rfl zk trivial (lz0 0 rfl) (Sub.part 1 rfl rfl) zb8) (zv rfl (zaw Tryz.underlying33 (vq 1 rfl)) (zv rfl (zb7 za3 (vq 2 rfl) (rfl)) (zv rfl (za1 (vq 3 rfl)) o0))))) (fun a w hst=>?_)
 have hst:St B w0 7 [(2,_)] [⟨1,35,ptrH,_⟩] a w:=hst
 refine za0 ?_
 refine wp_ret ?_
 refine zai ?_ (zaa rfl hst (zm 0 rfl))
 exact zb6
theorem fracSize_c (x:RF):Cn Tryz.prog 105 [(RFA x).va] (In (fracSizeF x)):=by
 refine Cn.intro Tryz.func105 rfl zk nq (fun B w0 a hst=>?_)
 have hst:St B w0 10 [(0,(RFA x).va)] [] a w0.w:=hst
 refine wp_seq ?_
 refine gl (sts:=[]) (news:=[⟨1,37,ptrH,some 0,_,none⟩]) (sp:=[.alc 0,.val 2 _]) [.o 1] hst (oc (zan rfl rfl rfl (gq 0 rfl)) (zv rfl (za1 za3) o0)) (fun a w hst=>?_)
 have hst:St B w0 10 [(2,_)] [⟨1,37,ptrH,_⟩] a w:=hst
 refine zt<|zaz (anc:=[[],[0],[0,1],[],[3],[0,1,2,3,4],[0,1,2,3,4,5],[0,1,2,3,4,5,6]]) (sts:=[none]) (news:=[]) (sp:=[.adr 3 1 (.some 0) True,.val 4 _,.val 5 _,.adr 6 1 (.some 2) True,.val 7 _,.val 8 _,.val 9 _,.val 2 _]) [.o 7] za6 hst (oc (ob_a rfl rfl (za7 (lz0 0 rfl) zbf)) (zv rfl (za4 0 rfl zk trivial (lz0 0 rfl) (Sub.part 0 rfl rfl) zab) (zv rfl (za5 (xs:=[.tmp 4]) (zl4 _) (.cons (vq 1 rfl) .nil)) (oc (ob_a rfl rfl (za7 (lz0 0 rfl) zb5)) (zv rfl (za4 3 rfl zk trivial (lz0 0 rfl) (Sub.part 1 rfl rfl) zab) (zv rfl (za5 (xs:=[.tmp 7]) (zl4 _) (.cons (vq 4 rfl) .nil)) (zv rfl (zb7 (vq 2 rfl) (vq 5 rfl) (rfl)) (zv rfl (za1 (vq 6 rfl)) o0)))))))) zk zk zk zk (fun a w hst=>?_)
 have hst:St B w0 10 [(2,_)] [⟨1,37,ptrH,_⟩] a w:=hst
 refine za0 ?_
 refine wp_ret ?_
 refine zai ?_ (zaa rfl hst (zm 0 rfl))
 exact zb6
theorem lowCost_c (x y:RI):Cn Tryz.prog 106 [(RIA x).va,(RIA y).va] (In (lowCostF x y)):=by
 refine Cn.intro Tryz.func106 rfl zk nq (fun B w0 a hst=>?_)
 have hst:St B w0 16 [(0,(RIA x).va),(1,(RIA y).va)] [] a w0.w:=hst
 refine wp_seq ?_
 refine gl (sts:=[]) (news:=[⟨2,35,ptrH,some 0,_,none⟩,⟨3,35,ptrH,some 1,_,none⟩]) (sp:=[.alc 0,.alc 1,.val 4 _]) [.o 2] hst (oc (zan rfl rfl rfl (gq 0 rfl)) (oc (zan rfl rfl rfl (gq 1 rfl)) (zv rfl (za1 za3) o0))) (fun a w hst=>?_)
 have hst:St B w0 16 [(4,_)] [⟨2,35,ptrH,_⟩,⟨3,35,ptrH,_⟩] a w:=hst
 refine zt<|gl (sts:=[none,none]) (news:=[]) (sp:=[.adr 5 2 (.some 1) True,.val 6 _,.val 7 _,.val 8 _,.adr 9 3 (.some 1) True,.val 10 _,.val 11 _,.val 12 _,.val 13 _,.val 14 _,.val 15 _,.val 4 _]) [.o 11] hst (oc (ob_a rfl rfl (za7 (lz0 0 rfl) zag)) (zv rfl (za4 0 rfl zk trivial (lz0 0 rfl) (Sub.part 1 rfl rfl) zb8) (zv rfl (zaw Tryz.underlying33 (vq 1 rfl)) (zv rfl (r_min (vq 2 rfl) za3) (oc (ob_a rfl rfl (za7 (lz0 1 rfl) zag)) (zv rfl (za4 4 rfl zk trivial (lz0 1 rfl) (Sub.part 1 rfl rfl) zb8) (zv rfl (zaw Tryz.underlying33 (vq 5 rfl)) (zv rfl (r_min (vq 6 rfl) za3) (zv rfl (zji (vq 3 rfl) (vq 7 rfl) (rfl)) (zv rfl (zie (vq 8 rfl) za3 zd (rfl)) (zv rfl (zji (vq 9 rfl) za3 (rfl)) (zv rfl (za1 (vq 10 rfl)) o0)))))))))))) (fun a w hst=>?_)
 have hst:St B w0 16 [(4,_)] [⟨2,35,ptrH,_⟩,⟨3,35,ptrH,_⟩] a w:=hst
 refine za0 ?_
 refine wp_ret ?_
 refine zai ?_ (zaa rfl hst (zm 0 rfl))
 exact zb6
theorem zj3 (x:RF):Cn Tryz.prog 69 [(RFA x).va] (In (fracCostF x)):=by
 refine Cn.intro Tryz.func69 rfl zk nq (fun B w0 a hst=>?_)
 have hst:St B w0 11 [(0,(RFA x).va)] [] a w0.w:=hst
 refine wp_seq ?_
 refine gl (sts:=[]) (news:=[⟨1,37,ptrH,some 0,_,none⟩]) (sp:=[.alc 0,.val 2 _]) [.o 1] hst (oc (zan rfl rfl rfl (gq 0 rfl)) (zv rfl (za1 za3) o0)) (fun a w hst=>?_)
 have hst:St B w0 11 [(2,_)] [⟨1,37,ptrH,_⟩] a w:=hst
 refine zt<|zaz (anc:=[[],[0],[],[2],[],[4],[0,1,2,3,4,5],[0,1,2,3,4,5,6],[0,1,2,3,4,5,6,7]]) (sts:=[none]) (news:=[]) (sp:=[.val 3 _,.val 4 _,.adr 5 1 (.some 0) True,.val 6 _,.adr 7 1 (.some 2) True,.val 8 _,.val 9 _,.val 10 _,.val 2 _]) [.o 8] za6 hst (zv rfl (zaq (lz0 0 rfl) zao) (zv rfl (za5 (xs:=[.tmp 3]) (fracSize_c _) (.cons (vq 0 rfl) .nil)) (oc (ob_a rfl rfl (za7 (lz0 0 rfl) zbf)) (zv rfl (za4 2 rfl zk trivial (lz0 0 rfl) (Sub.part 0 rfl rfl) zab) (oc (ob_a rfl rfl (za7 (lz0 0 rfl) zb5)) (zv rfl (za4 4 rfl zk trivial (lz0 0 rfl) (Sub.part 1 rfl rfl) zab) (zv rfl (za5 (xs:=[.tmp 6,.tmp 8]) (lowCost_c _ _) (.cons (vq 3 rfl) (.cons (vq 5 rfl) .nil))) (zv rfl (zb7 (vq 1 rfl) (vq 6 rfl) (rfl)) (zv rfl (za1 (vq 7 rfl)) o0))))))))) zk zk zk zk (fun a w hst=>?_)
 have hst:St B w0 11 [(2,_)] [⟨1,37,ptrH,_⟩] a w:=hst
 refine za0 ?_
 refine wp_ret ?_
 refine zai ?_ (zaa rfl hst (zm 0 rfl))
 exact zb6
theorem beyond_c (l:List Int):Cn Tryz.prog 7 [(SlA 3 [] (l.map (NumA .i64))).va] (Bo (bydF 0 l)):=by
 refine Cn.intro Tryz.func7 rfl zk nq (fun B w0 a hst=>?_)
 have hst:St B w0 19 [(0,(SlA 3 [] (l.map (NumA .i64))).va)] [] a w0.w:=hst
 have hl:=slA_lenm (hst.vals (0,(SlA 3 [] (l.map (NumA .i64))).va) (zm 0 rfl))
 refine wp_seq ?_
 refine gl (sts:=[]) (news:=[]) (sp:=[.val 2 _]) [.g 0,.o 0] hst (zv rfl (za1 zba) o0) (fun a w hst=>?_)
 have hst:St B w0 19 [(0,_),(2,_)] [] a w:=hst
 refine zt<|gl (sts:=[]) (news:=[]) (sp:=[.val 3 _]) [.g 0,.g 1,.o 0] hst (zv rfl (za1 za3) o0) (fun a w hst=>?_)
 have hst:St B w0 19 [(0,_),(2,_),(3,_)] [] a w:=hst
 refine zt ?_
 refine wp_seq ?_
 refine gl (sts:=[]) (news:=[]) (sp:=[.val 4 _]) [.g 0,.g 1,.g 2,.o 0] hst (zv rfl (za1 za3) o0) (fun a w hst=>?_)
 have hst:St B w0 19 [(0,_),(2,_),(3,_),(4,_)] [] a w:=hst
 refine za0 ?_
 refine wp_block ?_
 have hst:=St.sel hst [0,2,3]
 refine wp_loop_ghost (fun n a w=>∃ (j:Nat) (m:Int),(n+j=l.length∧bydF 0 l=bydF m (l.drop j))∧St B w0 19 [(0,(SlA 3 [] (l.map (NumA .i64))).va),(3,In m),(4,In (j:Nat))] [] a w) (l.length) ?_ ?_
 ·exact ⟨0,0,⟨by omega,rfl⟩,hst⟩
 intro n a w hI
 obtain ⟨j,m,⟨hn,hm⟩,hst⟩:=hI
 refine wp_seq ?_
 refine wp_seq ?_
 refine gl (sts:=[]) (news:=[]) (sp:=[.val 5 _,.val 6 _,.val 7 _,.val 8 _]) [.g 0,.g 1,.g 2,.o 3] hst (zv rfl (za2 (gq 2 rfl)) (zv rfl (za2 (gq 0 rfl)) (zv rfl (zd4 Tryz.underlying69 (vq 1 rfl)) (zv rfl (zbt (vq 0 rfl) (vq 2 rfl)) o0)))) (fun a w hst=>?_)
 have hst:St B w0 19 [(0,_),(3,_),(4,_),(8,_)] [] a w:=hst
 refine za0 ?_
 refine za8 hst (zm 3 rfl) (fun hb0=>?_) (fun hb0=>?_)
 ·have hj:j<l.length:=by rw [List.length_map] at hb0; simp at hb0; omega
  refine wp_skip ?_
  refine zt ?_
  refine wp_block ?_
  refine wp_seq ?_
  refine gl (sts:=[]) (news:=[]) (sp:=[.val 11 _,.val 12 _,.val 13 _,.val 14 _,.val 15 _,.val 16 _,.val 3 _]) [.g 0,.g 2,.o 6] hst (zv rfl (za2 (gq 1 rfl)) (zv rfl (za2 (gq 0 rfl)) (zv rfl (za2 (gq 2 rfl)) (zv rfl (ze5 sl_69 (zf1 fun _=>rfl) (vq 1 rfl) (vq 2 rfl) (zdg hj)) (zv rfl (zav (vq 3 rfl) ty_3) (zv rfl (zb7 (vq 0 rfl) (vq 4 rfl) (rfl)) (zv rfl (za1 (vq 5 rfl)) o0))))))) (fun a w hst=>?_)
  have hst:St B w0 19 [(0,_),(4,_),(3,_)] [] a w:=hst
  refine zt<|gl (sts:=[]) (news:=[]) (sp:=[.val 17 _,.val 18 _]) [.g 0,.g 1,.g 2,.o 1] hst (zv rfl (za2 (gq 2 rfl)) (zv rfl (zdo (vq 0 rfl) za3) o0)) (fun a w hst=>?_)
  have hst:St B w0 19 [(0,_),(4,_),(3,_),(18,_)] [] a w:=hst
  refine za0 ?_
  refine za8 hst (zm 3 rfl) (fun hb1=>?_) (fun hb1=>?_)
  ·refine wp_seq ?_
   refine gl (sts:=[]) (news:=[]) (sp:=[.val 2 _]) [.g 0,.g 1,.g 2,.o 0] hst (zv rfl (za1 zba) o0) (fun a w hst=>?_)
   have hst:St B w0 19 [(0,_),(4,_),(3,_),(2,_)] [] a w:=hst
   refine za0 ?_
   refine wp_ret ?_
   refine zb3 ?_
   refine zad ?_
   refine zad ?_
   refine zb3 ?_
   refine zad ?_
   refine zai ?_ (zaa rfl hst (zm 3 rfl))
   exact zbv (congrArg Bo ((byd_yes hj hb1).trans hm.symm))
  ·refine wp_skip ?_
   refine zaj ?_
   refine za0 ?_
   refine gl (sts:=[]) (news:=[]) (sp:=[.val 9 _,.val 10 _,.val 4 _]) [.g 0,.g 2,.o 2] hst (zv rfl (za2 (gq 1 rfl)) (zv rfl (zb7 (vq 0 rfl) za3 (wi_nx hj hl)) (zv rfl (za1 (vq 1 rfl)) o0))) (fun a w hst=>?_)
   have hst:St B w0 19 [(0,_),(3,_),(4,_)] [] a w:=hst
   refine za0 ?_
   have hst:=St.sel hst [0,1,2]
   exact ⟨n-1,by omega,j+1,_,⟨by omega,hm.trans (byd_no hj hb1)⟩,hst⟩
 ·obtain rfl:j=l.length:=by rw [List.length_map] at hb0; simp at hb0; omega
  refine wp_exit ?_
  refine zac ?_
  refine zac ?_
  refine zay ?_
  refine zt<|gl (sts:=[]) (news:=[]) (sp:=[.val 2 _]) [.o 0] hst (zv rfl (za1 zba) o0) (fun a w hst=>?_)
  have hst:St B w0 19 [(2,_)] [] a w:=hst
  refine za0 ?_
  refine wp_ret ?_
  refine zai ?_ (zaa rfl hst (zm 0 rfl))
  exact zbv (congrArg Bo (by rw [hm,List.drop_of_length_le (Nat.le_refl _)]; rfl))
theorem same_yes {a b:RI}(hn:a.neg=b.neg)(h:a.mag=b.mag):true=decide (a=b):=by
 cases a; cases b; simp_all
theorem same_no1 {a b:RI}(h:((a.neg != b.neg) || (((a.mag.length:Nat):Int) != ((b.mag.length:Nat):Int)))=true):false=decide (a=b):=by
 symm
 apply decide_eq_false
 rintro rfl
 simp at h
theorem same_two {a b:RI}(h:((a.neg != b.neg) || (((a.mag.length:Nat):Int) != ((b.mag.length:Nat):Int)))=false):a.neg=b.neg∧a.mag.length=b.mag.length:=by
 simp only [Bool.or_eq_false_iff,bne_eq_false_iff_eq] at h
 exact ⟨h.1,by omega⟩
theorem same_no2 {a b:RI}{j:Nat}(h1:j<a.mag.length)(h2:j<b.mag.length)(h:(((a.mag[j]:Nat):Int) != ((b.mag[j]:Nat):Int))=true):false=decide (a=b):=by
 symm
 apply decide_eq_false
 rintro rfl
 simp at h
theorem take_eq {l m:List Nat}{j:Nat}(h1:j<l.length)(h2:j<m.length)(h:l.take j=m.take j)(h3:(((l[j]:Nat):Int) != ((m[j]:Nat):Int))=false):l.take (j+1)=m.take (j+1):=by
 rw [List.take_succ_eq_append_getElem h1,List.take_succ_eq_append_getElem h2,h]
 simp only [bne_eq_false_iff_eq] at h3
 rw [show l[j]=m[j] by omega]
theorem rf_eq {a b:RF}:(decide (a.num=b.num)&&decide (a.den=b.den))=decide (a=b):=by
 cases a; cases b; rw [Bool.eq_iff_iff]; simp
theorem zht (x y:RI):Cn Tryz.prog 63 [(RIA x).va,(RIA y).va] (Bo (decide (x=y))):=by
 refine Cn.intro Tryz.func63 rfl zk nq (fun B w0 a hst=>?_)
 have hst:St B w0 38 [(0,(RIA x).va),(1,(RIA y).va)] [] a w0.w:=hst
 have hxk:=zgr (hst.vals (0,(RIA x).va) (zm 0 rfl))
 refine wp_seq ?_
 refine gl (sts:=[]) (news:=[⟨2,35,ptrH,some 0,_,none⟩,⟨3,35,ptrH,some 1,_,none⟩]) (sp:=[.alc 0,.alc 1,.val 4 _]) [.o 2] hst (oc (zan rfl rfl rfl (gq 0 rfl)) (oc (zan rfl rfl rfl (gq 1 rfl)) (zv rfl (za1 zba) o0))) (fun a w hst=>?_)
 have hst:St B w0 38 [(4,_)] [⟨2,35,ptrH,_⟩,⟨3,35,ptrH,_⟩] a w:=hst
 refine zt ?_
 refine wp_seq ?_
 refine gl (sts:=[none,none]) (news:=[]) (sp:=[.adr 6 2 (.some 0) True,.val 7 _,.adr 8 3 (.some 0) True,.val 9 _,.val 10 _,.val 11 _,.adr 12 2 (.some 1) (_=false),.val 13 (Wh (_=false) _),.val 14 (Wh (_=false) _),.adr 15 3 (.some 1) (_=false),.val 16 (Wh (_=false) _),.val 17 (Wh (_=false) _),.val 18 (Wh (_=false) _),.val 19 _]) [.g 0,.o 13] hst (oc (ob_a rfl rfl (za7 (lz0 0 rfl) zb2)) (zv rfl (za4 0 rfl zk trivial (lz0 0 rfl) (Sub.part 0 rfl rfl) ty_4) (oc (ob_a rfl rfl (za7 (lz0 1 rfl) zb2)) (zv rfl (za4 2 rfl zk trivial (lz0 1 rfl) (Sub.part 0 rfl rfl) ty_4) (zv rfl (zit zk (vq 1 rfl) (vq 3 rfl)) (zv rfl (za2 (vq 4 rfl)) (oc (zbz rfl rfl rfl (vq 5 rfl) nq (fun hg=>za7 (lz0 0 rfl) zag)) (oc (zal rfl rfl rfl (vq 5 rfl) nq (fun hg=>za4 6 rfl zk hg (lz0 0 rfl) (Sub.part 1 rfl rfl) zb8)) (oc (zal rfl rfl rfl (vq 5 rfl) nq (fun hg=>zaw Tryz.underlying33 (zae (vq 7 rfl) hg))) (oc (zbz rfl rfl rfl (vq 5 rfl) nq (fun hg=>za7 (lz0 1 rfl) zag)) (oc (zal rfl rfl rfl (vq 5 rfl) nq (fun hg=>za4 9 rfl zk hg (lz0 1 rfl) (Sub.part 1 rfl rfl) zb8)) (oc (zal rfl rfl rfl (vq 5 rfl) nq (fun hg=>zaw Tryz.underlying33 (zae (vq 10 rfl) hg))) (oc (zal rfl rfl rfl (vq 5 rfl) nq (fun hg=>zdh (zae (vq 8 rfl) hg) (zae (vq 11 rfl) hg))) (zv rfl (r_or (vq 5 rfl) (vq 12 rfl)) o0)))))))))))))) (fun a w hst=>?_)
 have hst:St B w0 38 [(4,_),(19,_)] [⟨2,35,ptrH,_⟩,⟨3,35,ptrH,_⟩] a w:=hst
 refine za0 ?_
 refine za8 hst (zm 1 rfl) (fun hb0=>?_) (fun hb0=>?_)
 ·refine wp_seq ?_
  refine gl (sts:=[none,none]) (news:=[]) (sp:=[.val 4 _]) [.o 0] hst (zv rfl (za1 zba) o0) (fun a w hst=>?_)
  have hst:St B w0 38 [(4,_)] [⟨2,35,ptrH,_⟩,⟨3,35,ptrH,_⟩] a w:=hst
  refine za0 ?_
  refine wp_ret ?_
  refine zad ?_
  refine zai ?_ (zaa rfl hst (zm 0 rfl))
  exact zbv (congrArg Bo (same_no1 hb0))
 ·obtain ⟨hn1,hl⟩:=same_two hb0
  refine wp_skip ?_
  refine zt ?_
  refine wp_seq ?_
  refine gl (sts:=[none,none]) (news:=[]) (sp:=[.val 5 _]) [.g 0,.o 0] hst (zv rfl (za1 za3) o0) (fun a w hst=>?_)
  have hst:St B w0 38 [(4,_),(5,_)] [⟨2,35,ptrH,_⟩,⟨3,35,ptrH,_⟩] a w:=hst
  refine za0 ?_
  refine wp_block ?_
  have hst:=St.sel hst [1]
  refine wp_loop_ghost (fun n a w=>∃ j:Nat,(n+j=x.mag.length∧x.mag.take j=y.mag.take j)∧St B w0 38 [(5,In (j:Nat))] [⟨2,35,ptrH,RIA x⟩,⟨3,35,ptrH,RIA y⟩] a w) (x.mag.length) ?_ ?_
  ·exact ⟨0,⟨by omega,rfl⟩,hst⟩
  intro n a w hI
  obtain ⟨j,⟨hn,ht⟩,hst⟩:=hI
  refine wp_seq ?_
  refine wp_seq ?_
  refine gl (sts:=[none,none]) (news:=[]) (sp:=[.val 20 _,.adr 21 2 (.some 1) True,.val 22 _,.val 23 _,.val 24 _]) [.g 0,.o 4] hst (zv rfl (za2 (gq 0 rfl)) (oc (ob_a rfl rfl (za7 (lz0 0 rfl) zag)) (zv rfl (za4 1 rfl zk trivial (lz0 0 rfl) (Sub.part 1 rfl rfl) zb8) (zv rfl (zaw Tryz.underlying33 (vq 2 rfl)) (zv rfl (zbt (vq 0 rfl) (vq 3 rfl)) o0))))) (fun a w hst=>?_)
  have hst:St B w0 38 [(5,_),(24,_)] [⟨2,35,ptrH,_⟩,⟨3,35,ptrH,_⟩] a w:=hst
  refine za0 ?_
  refine za8 hst (zm 1 rfl) (fun hb1=>?_) (fun hb1=>?_)
  ·have hj:j<x.mag.length:=by simp at hb1; omega
   refine wp_skip ?_
   refine zt ?_
   refine wp_block ?_
   refine wp_seq ?_
   refine zaz (anc:=[[],[0],[],[0,1,2],[0,1,2,3],[],[5],[],[5,6,7],[5,6,7,8],[0,1,2,3,4,5,6,7,8,9]]) (sts:=[none,none]) (news:=[]) (sp:=[.adr 27 2 (.some 1) True,.val 28 _,.val 29 _,.val 30 _,.val 31 _,.adr 32 3 (.some 1) True,.val 33 _,.val 34 _,.val 35 _,.val 36 _,.val 37 _]) [.g 0,.o 10] za6 hst (oc (ob_a rfl rfl (za7 (lz0 0 rfl) zag)) (zv rfl (za4 0 rfl zk trivial (lz0 0 rfl) (Sub.part 1 rfl rfl) zb8) (zv rfl (za2 (gq 0 rfl)) (zv rfl (zc0 zb4 (vq 1 rfl) (vq 2 rfl) zo) (zv rfl (zav (vq 3 rfl) zb0) (oc (ob_a rfl rfl (za7 (lz0 1 rfl) zag)) (zv rfl (za4 5 rfl zk trivial (lz0 1 rfl) (Sub.part 1 rfl rfl) zb8) (zv rfl (za2 (gq 0 rfl)) (zv rfl (zc0 zb4 (vq 6 rfl) (vq 7 rfl) zo) (zv rfl (zav (vq 8 rfl) zb0) (zv rfl (zdh (vq 4 rfl) (vq 9 rfl)) o0))))))))))) zk zk zk zk (fun a w hst=>?_)
   have hst:St B w0 38 [(5,_),(37,_)] [⟨2,35,ptrH,_⟩,⟨3,35,ptrH,_⟩] a w:=hst
   refine za0 ?_
   refine za8 hst (zm 1 rfl) (fun hb2=>?_) (fun hb2=>?_)
   ·refine wp_seq ?_
    refine gl (sts:=[none,none]) (news:=[]) (sp:=[.val 4 _]) [.g 0,.o 0] hst (zv rfl (za1 zba) o0) (fun a w hst=>?_)
    have hst:St B w0 38 [(5,_),(4,_)] [⟨2,35,ptrH,_⟩,⟨3,35,ptrH,_⟩] a w:=hst
    refine za0 ?_
    refine wp_ret ?_
    refine zb3 ?_
    refine zad ?_
    refine zad ?_
    refine zb3 ?_
    refine zad ?_
    refine zai ?_ (zaa rfl hst (zm 1 rfl))
    exact zbv (congrArg Bo (same_no2 hj zo hb2))
   ·refine wp_skip ?_
    refine zaj ?_
    refine za0 ?_
    refine gl (sts:=[none,none]) (news:=[]) (sp:=[.val 25 _,.val 26 _,.val 5 _]) [.o 2] hst (zv rfl (za2 (gq 0 rfl)) (zv rfl (zb7 (vq 0 rfl) za3 (wi_nx hj hxk.2)) (zv rfl (za1 (vq 1 rfl)) o0))) (fun a w hst=>?_)
    have hst:St B w0 38 [(5,_)] [⟨2,35,ptrH,_⟩,⟨3,35,ptrH,_⟩] a w:=hst
    refine za0 ?_
    have hst:=St.sel hst [0]
    exact ⟨n-1,by omega,j+1,⟨by omega,take_eq hj zo ht hb2⟩,hst⟩
  ·obtain rfl:j=x.mag.length:=by simp at hb1; omega
   refine wp_exit ?_
   refine zac ?_
   refine zac ?_
   refine zay ?_
   refine zt<|gl (sts:=[none,none]) (news:=[]) (sp:=[.val 4 _]) [.o 0] hst (zv rfl (za1 zba) o0) (fun a w hst=>?_)
   have hst:St B w0 38 [(4,_)] [⟨2,35,ptrH,_⟩,⟨3,35,ptrH,_⟩] a w:=hst
   refine za0 ?_
   refine wp_ret ?_
   refine zai ?_ (zaa rfl hst (zm 0 rfl))
   exact zbv (congrArg Bo (same_yes hn1 (by rw [List.take_of_length_le (Nat.le_refl _),List.take_of_length_le zo] at ht; exact ht)))
theorem zio (x y:RF):Cn Tryz.prog 28 [(RFA x).va,(RFA y).va] (Bo (decide (x=y))):=by
 refine Cn.intro Tryz.func28 rfl zk nq (fun B w0 a hst=>?_)
 have hst:St B w0 17 [(0,(RFA x).va),(1,(RFA y).va)] [] a w0.w:=hst
 refine wp_seq ?_
 refine gl (sts:=[]) (news:=[⟨2,37,ptrH,some 0,_,none⟩,⟨3,37,ptrH,some 1,_,none⟩]) (sp:=[.alc 0,.alc 1,.val 4 _]) [.o 2] hst (oc (zan rfl rfl rfl (gq 0 rfl)) (oc (zan rfl rfl rfl (gq 1 rfl)) (zv rfl (za1 zba) o0))) (fun a w hst=>?_)
 have hst:St B w0 17 [(4,_)] [⟨2,37,ptrH,_⟩,⟨3,37,ptrH,_⟩] a w:=hst
 refine zt<|gl (sts:=[none,none]) (news:=[]) (sp:=[.adr 5 2 (.some 0) True,.val 6 _,.adr 7 3 (.some 0) True,.val 8 _,.val 9 _,.val 10 _,.adr 11 2 (.some 2) (_=true),.val 12 (Wh (_=true) _),.adr 13 3 (.some 2) (_=true),.val 14 (Wh (_=true) _),.val 15 (Wh (_=true) _),.val 16 _,.val 4 _]) [.o 12] hst (oc (ob_a rfl rfl (za7 (lz0 0 rfl) zbf)) (zv rfl (za4 0 rfl zk trivial (lz0 0 rfl) (Sub.part 0 rfl rfl) zab) (oc (ob_a rfl rfl (za7 (lz0 1 rfl) zbf)) (zv rfl (za4 2 rfl zk trivial (lz0 1 rfl) (Sub.part 0 rfl rfl) zab) (zv rfl (za5 (xs:=[.tmp 6,.tmp 8]) (zht _ _) (.cons (vq 1 rfl) (.cons (vq 3 rfl) .nil))) (zv rfl (za2 (vq 4 rfl)) (oc (zbz rfl rfl rfl (vq 5 rfl) nq (fun hg=>za7 (lz0 0 rfl) zb5)) (oc (zal rfl rfl rfl (vq 5 rfl) nq (fun hg=>za4 6 rfl zk hg (lz0 0 rfl) (Sub.part 1 rfl rfl) zab)) (oc (zbz rfl rfl rfl (vq 5 rfl) nq (fun hg=>za7 (lz0 1 rfl) zb5)) (oc (zal rfl rfl rfl (vq 5 rfl) nq (fun hg=>za4 8 rfl zk hg (lz0 1 rfl) (Sub.part 1 rfl rfl) zab)) (oc (zal rfl rfl rfl (vq 5 rfl) nq (fun hg=>za5 (xs:=[.tmp 12,.tmp 14]) (zht _ _) (.cons (zae (vq 7 rfl) hg) (.cons (zae (vq 9 rfl) hg) .nil)))) (zv rfl (zcj (vq 5 rfl) (vq 10 rfl)) (zv rfl (za1 (vq 11 rfl)) o0))))))))))))) (fun a w hst=>?_)
 have hst:St B w0 17 [(4,_)] [⟨2,37,ptrH,_⟩,⟨3,37,ptrH,_⟩] a w:=hst
 refine za0 ?_
 refine wp_ret ?_
 refine zai ?_ (zaa rfl hst (zm 0 rfl))
 exact zbv (congrArg Bo rf_eq)
end Go.Proofs.YtlpppkkggljdcaaGreat
namespace Go.Proofs.YtlpppkkggljdcaaGreat
open Go Go.RowKit
open Go.ChangeShapes Go.WideShapes Go.ChangeAt
theorem cat_of {B:Nat}{w:World}:∀ {l:List As} {cs:List Value},cs.length=(l.map (·.n)).sum→(∀ (k:Nat) (A:As),l[k]?=some A→A.p B ((cs.drop (offs l k)).take A.n) w)→(cat l).p B cs w
 | [],cs,hl,_=>by
  have:cs=[]:=List.length_eq_zero_iff.1 (by simpa using hl)
  subst this
  exact ⟨[],rfl,.nil⟩
 | A::l,cs,hl,h=>by
  simp only [List.map_cons,List.sum_cons] at hl
  have h0:=h 0 A rfl
  simp only [offs,List.take_zero,List.map_nil,List.sum_nil,List.drop_zero] at h0
  obtain ⟨ps,e,hps⟩:=cat_of (l:=l) (cs:=cs.drop A.n) (B:=B) (w:=w) (by simp; omega) fun k A' hk=>by
   have:=h (k+1) A' (by simpa using hk)
   simp only [offs,List.take_succ_cons,List.map_cons,List.sum_cons] at this
   rw [List.drop_drop]
   exact this
  exact ⟨cs.take A.n::ps,by rw [List.flatten_cons,← e,List.take_append_drop],.cons h0 hps⟩
section
variable {H:Type} {enc:TypeId × Value→H} {w:World} {base:Nat} {spare:Nat→Bool} {held:Bool} {fuel:Nat} {cs:List Value} {x:DataW H × List MemPlace}
theorem rd_mg (h:DataW.trod enc Tryz.prog w base spare held fuel 33 cs=some x):∃ l,(MgA l).p w.heap.size cs w:=by
 rcases open_ints Tryz.underlying33 Tryz.underlying130 zk h with ⟨hcs,_⟩ | ⟨a,len,cap,zs,rfl,_,hl,hm,hz,_,hcell,hwz⟩
 ·subst hcs
  exact ⟨[],zf2 _ _⟩
 ·have hzl:len≤zs.length:=by rw [hz]; split <;> omega
  have hnn:∀ n∈zs,0≤n∧n<4294967296:=fun n hn=>by
   have:=hwz n hn
   simp [Lit.wf,IntKind.min,IntKind.max,IntKind.signed,IntKind.bits] at this
   omega
  have hlen:((zs.take len).map Int.toNat).length=len:=by simp; omega
  refine ⟨(zs.take len).map Int.toNat,?_⟩
  have hM:Mag w.heap.size w (some a) cap ((zs.take len).map Int.toNat):=by
   refine ⟨fun y hy=>?_,by omega,hm,fun hn=>?_⟩
   ·obtain ⟨n,hn,rfl⟩:=List.mem_map.1 hy
    have:=hnn n (List.mem_of_mem_take hn)
    omega
   ·obtain ⟨b,off,rfl,hc⟩:=ints_at hcell zo
    have hb:b<w.heap.size:=World.block_lt_of_cell? w _ (hc 0 zo)
    refine ⟨b,off,rfl,hb,.inl hb,fun j hj=>?_⟩
    rw [hc j zo]
    have hjz:j<zs.length:=by omega
    have:=hnn _ (List.getElem_mem hjz)
    congr 2
    simp only [List.getElem_map,List.getElem_take]
    rw [Int.toNat_of_nonneg this.1]
    simp [List.getD_eq_getElem?_getD,List.getElem?_eq_getElem hjz]
  obtain ⟨ds,hp,hv⟩:=zf0 hM hlen.symm
  have hd:=(MgA ((zs.take len).map Int.toNat)).len _ _ _ hp
  match ds,hd with
  | [d],_ =>
   have:d=.slice (some a) len cap:=hv.symm
   subst this
   exact hp
theorem cat_two {B:Nat}{A0 A1:As}(h0:A0.p B ((cs.drop 0).take A0.n) w)(h1:A1.p B ((cs.drop A0.n).take A1.n) w)(hl:cs.length=A0.n+A1.n):(cat [A0,A1]).p B cs w :=
 cat_of (by simpa using hl) fun k A hk=>by
  match k,hk with
  | 0,hk=>simp at hk; subst hk; exact h0
  | 1,hk=>simp at hk; subst hk; simpa [offs] using h1
theorem rd_bo (h:DataW.trod enc Tryz.prog w base spare held fuel 4 cs=some x):∃ b,(BoA b).p w.heap.size cs w:=by
 obtain ⟨b,hb,_⟩:=DataW.trod_bool Tryz.underlying4 h
 exact ⟨b,hb⟩
end
end Go.Proofs.YtlpppkkggljdcaaGreat
namespace Go.Proofs.YtlpppkkggljdcaaGreat
open Go Go.RowKit
end Go.Proofs.YtlpppkkggljdcaaGreat
namespace Go.Proofs.YtlpppkkggljdcaaGreat
open Go Go.RowKit
theorem div_pos {x y:Rat}(h:0<x)(h':0<y):0<x/y:=Rat.mul_pos h (Rat.inv_pos.2 h')
end Go.Proofs.YtlpppkkggljdcaaGreat
namespace Go.Proofs.YtlpppkkggljdcaaGreat
open Go Go.RowKit
end Go.Proofs.YtlpppkkggljdcaaGreat
