import Derived.Test.YtlpppkkggljdcaaGreatTcAa
import Derived.Test.YtlpppkkggljdcaaGreatTcAc
import Derived.Test.YtlpppkkggljdcaaGreatTcAl
import Derived.Test.YtlpppkkggljdcaaGreatTcAr
import Derived.Test.YtlpppkkggljdcaaGreatTcAy
set_option linter.unusedVariables false
set_option linter.unusedSimpArgs false
set_option linter.unusedSectionVars false
set_option maxRecDepth 100000
namespace Go.Proofs.YtlpppkkggljdcaaGreat
open Go Go.RowKit
theorem ex_rTimes : ∃ fn, Tryz.prog.funcs[141]? = some fn ∧ (fn.name == "runtime.NumGoroutine") = false ∧ fn.body.isNone = false := ⟨_, Tryz.func141, by kernel_rfl, by kernel_rfl⟩
theorem ex_rMinus : ∃ fn, Tryz.prog.funcs[140]? = some fn ∧ (fn.name == "runtime.NumGoroutine") = false ∧ fn.body.isNone = false := ⟨_, Tryz.func140, by kernel_rfl, by kernel_rfl⟩
theorem ex_rSign : ∃ fn, Tryz.prog.funcs[142]? = some fn ∧ (fn.name == "runtime.NumGoroutine") = false ∧ fn.body.isNone = false := ⟨_, Tryz.func142, by kernel_rfl, by kernel_rfl⟩
section
variable {a b:Nat} {p q:Int} (ha:a≤1000000000)
include ha
variable (hb:b≤1000000000)
include hb
theorem rtimes_z:Cn Tryz.prog 141 [Zs a p,Zs b q] (Zs (a+b) (p*q)):=zs2 ex_rTimes fun h h'=>(rtimesZ_c p q zo zo).wkp (zic (by have:=ze6 p q; omega))
theorem rminus_z:Cn Tryz.prog 140 [Zs a p,Zs b q] (Zs (max a b+1) (p-q)):=zs2 ex_rMinus fun h h'=>(rminusZ_c p q zo zo).wkp (zic (by have:=lz_sub p q; omega))
end
theorem rsign_z {a:Nat}{p:Int}:Cn Tryz.prog 142 [Zs a p] (In p.sign):=zs1 ex_rSign fun _=>(zhu (riOf p)).post (by rw [zdd])
theorem lz_tmod1 {p q:Int}(h:q≠0)(hq:lz q≤1000000000):lz (p.tmod q)≤1000000000:=Nat.le_trans (lz_tm h) hq
theorem gcd_tmod {X Y:Int}(h:Y≠0):Int.gcd Y (X.tmod Y)=Int.gcd X Y:=by
 show Nat.gcd Y.natAbs (X.tmod Y).natAbs=Nat.gcd X.natAbs Y.natAbs
 rw [zgb,Nat.gcd_comm X.natAbs,Nat.gcd_comm,← Nat.gcd_rec]
theorem r2commonZ_c (p q:Int)(hp:lz p≤1000000000)(hq:lz q≤1000000000):Cn Tryz.prog 153 [Zi p,Zi q] (Zi ((Int.gcd p q:Nat):Int)):=by
 refine Cn.intro Tryz.func153 rfl zk nq (fun B w0 a hst=>?_)
 have hst:St B w0 33 [(0,Zi p),(1,Zi q)] [] a w0.w:=hst
 refine wp_seq ?_
 refine gl (sts:=[]) (news:=[⟨2,35,ptrH,some 0,_,none⟩,⟨3,35,ptrH,some 1,_,none⟩,⟨4,35,ptrH,some 2,_,none⟩]) (sp:=[.alc 0,.alc 1,.alc 2]) [] hst (oc (zan rfl rfl rfl (gq 0 rfl)) (oc (zan rfl rfl rfl (gq 1 rfl)) (oc (zap rfl rfl rfl (Str.zero zbs)) o0))) (fun a w hst=>?_)
 have hst:St B w0 33 [] [⟨2,35,ptrH,_⟩,⟨3,35,ptrH,_⟩,⟨4,35,ptrH,_⟩] a w:=hst
 refine zt ?_
 refine wp_seq ?_
 refine zaz (anc:=[[],[0],[],[0,1,2],[0,1,2,3]]) (sts:=[none,none,none]) (news:=[]) (sp:=[.val 7 _,.val 8 _,.val 9 _,.val 10 _,.val 11 _]) [.o 4] za6 hst (zv rfl (zaq (lz0 0 rfl) zab) (zv rfl (za5 (xs:=[.tmp 7]) (rbits_c p hp) (.cons (vq 0 rfl) .nil)) (zv rfl (zaq (lz0 1 rfl) zab) (zv rfl (za5 (xs:=[.tmp 9]) (rbits_c q hq) (.cons (vq 2 rfl) .nil)) (zv rfl (zbt (vq 1 rfl) (vq 3 rfl)) o0))))) zk zk zk zk (fun a w hst=>?_)
 have hst:St B w0 33 [(11,_)] [⟨2,35,ptrH,_⟩,⟨3,35,ptrH,_⟩,⟨4,35,ptrH,_⟩] a w:=hst
 refine za0 ?_
 refine zc3 (fun a w=>∃ X Y:Int,(lz X≤1000000000∧lz Y≤1000000000∧Int.gcd X Y=Int.gcd p q)∧St B w0 33 [] [⟨2,35,ptrH,RIA (riOf X)⟩,⟨3,35,ptrH,RIA (riOf Y)⟩,⟨4,35,ptrH,cat [BoA false,MgA []]⟩] a w) hst (zm 0 rfl) (fun hb0=>?_) (fun hb0=>?_) (fun a w hst=>?_)
 ·refine gl (sts:=[some (2,_),some (3,_),none]) (news:=[]) (sp:=[.val 12 _,.val 13 _,.sto 0,.sto 1]) [] hst (zv rfl (zaq (lz0 1 rfl) zab) (zv rfl (zaq (lz0 0 rfl) zab) (oc (zaf rfl rfl rfl (vq 0 rfl) zab (Eq.trans (b:=2) rfl rfl)) (oc (zaf rfl rfl rfl (vq 1 rfl) zab (Eq.trans (b:=2) rfl rfl)) o0)))) (fun a w hst=>?_)
  have hst:St B w0 33 [] [⟨2,35,ptrH,_⟩,⟨3,35,ptrH,_⟩,⟨4,35,ptrH,_⟩] a w:=hst
  refine za0 ?_
  have hst:=St.sel hst []
  exact ⟨q,p,⟨hq,hp,Int.gcd_comm q p⟩,hst⟩
 ·refine wp_skip ?_
  refine za0 ?_
  have hst:=St.sel hst []
  exact ⟨p,q,⟨hp,hq,rfl⟩,hst⟩
 obtain ⟨X,Y,⟨hX,hY,hg⟩,hst⟩:=hst
 refine zt ?_
 refine wp_seq ?_
 refine gl (sts:=[none,none,none]) (news:=[]) (sp:=[.val 14 _,.val 15 _,.val 16 _]) [.o 2] hst (zv rfl (zaq (lz0 1 rfl) zab) (zv rfl (za5 (xs:=[.tmp 14]) ((zhu (riOf Y)).post (by rw [zdd])) (.cons (vq 0 rfl) .nil)) (zv rfl (zc2 (vq 1 rfl) za3) o0))) (fun a w hst=>?_)
 have hst:St B w0 33 [(16,_)] [⟨2,35,ptrH,_⟩,⟨3,35,ptrH,_⟩,⟨4,35,ptrH,_⟩] a w:=hst
 refine za0 ?_
 refine za8 hst (zm 0 rfl) (fun hb1=>?_) (fun hb1=>?_)
 ·refine wp_seq ?_
  refine gl (sts:=[none,none,some (3,_)]) (news:=[]) (sp:=[.val 17 _,.val 18 _,.val 19 _,.sto 2]) [] hst (zv rfl (zaq (lz0 0 rfl) zab) (zv rfl (zaq (lz0 1 rfl) zab) (zv rfl (za5 (xs:=[.tmp 17,.tmp 18]) (zis X Y hX hY) (.cons (vq 0 rfl) (.cons (vq 1 rfl) .nil))) (oc (zaf rfl rfl rfl (vq 2 rfl) zab (Eq.trans (b:=2) rfl rfl)) o0)))) (fun a w hst=>?_)
  have hst:St B w0 33 [] [⟨2,35,ptrH,_⟩,⟨3,35,ptrH,_⟩,⟨4,35,ptrH,_⟩] a w:=hst
  refine za0 ?_
  refine wp_ret ?_
  refine zad ?_
  refine zai ?_ (zam rfl hst (zm 2 rfl) zab)
  exact zbv (congrArg (fun n:Nat=>Zi (n:Int)) hg)
 ·have hY0:Y≠0:=fun e=>by rw [e] at hb1; exact absurd hb1 zd
  refine wp_skip ?_
  refine zt<|gl (sts:=[none,none,none]) (news:=[⟨5,35,ptrH,some 6,_,some (8,_)⟩,⟨6,35,ptrH,some 7,_,some (9,_)⟩]) (sp:=[.val 21 _,.val 22 _,.val 23 _,.val 20 _,.val 24 _,.val 25 _,.alc 3,.alc 4,.sto 3,.sto 4]) [] hst (zv rfl (zaq (lz0 0 rfl) zab) (zv rfl (zaq (lz0 1 rfl) zab) (zv rfl (za5 (xs:=[.tmp 21,.tmp 22]) (rdivideZ_c X Y hY0 hX hY) (.cons (vq 0 rfl) (.cons (vq 1 rfl) .nil))) (zv rfl (za2 (vq 2 rfl)) (zv rfl (zb1 (vq 3 rfl) rfl) (zv rfl (zb1 (vq 3 rfl) rfl) (oc (zap rfl rfl rfl (Str.zero zbs)) (oc (zap rfl rfl rfl (Str.zero zbs)) (oc (zaf rfl rfl rfl (vq 4 rfl) zab (Eq.trans (b:=2) rfl rfl)) (oc (zaf rfl rfl rfl (vq 5 rfl) zab (Eq.trans (b:=2) rfl rfl)) o0)))))))))) (fun a w hst=>?_)
  have hst:St B w0 33 [] [⟨2,35,ptrH,_⟩,⟨3,35,ptrH,_⟩,⟨4,35,ptrH,_⟩,⟨5,35,ptrH,_⟩,⟨6,35,ptrH,_⟩] a w:=hst
  refine zt ?_
  refine wp_seq ?_
  refine gl (sts:=[none,none,none,none,none]) (news:=[]) (sp:=[.val 26 _,.val 27 _,.val 28 _]) [.o 2] hst (zv rfl (zaq (lz0 1 rfl) zab) (zv rfl (za5 (xs:=[.tmp 26]) (rbits_c Y hY) (.cons (vq 0 rfl) .nil)) (zv rfl (zc2 (vq 1 rfl) za3) o0))) (fun a w hst=>?_)
  have hst:St B w0 33 [(28,_)] [⟨2,35,ptrH,_⟩,⟨3,35,ptrH,_⟩,⟨4,35,ptrH,_⟩,⟨5,35,ptrH,_⟩,⟨6,35,ptrH,_⟩] a w:=hst
  refine za0 ?_
  refine za8 hst (zm 0 rfl) (fun hb2=>?_) (fun hb2=>?_)
  ·have h1:Y.natAbs=1:=bitF_one (by have:=beq_iff_eq.1 hb2; omega)
   refine wp_seq ?_
   refine gl (sts:=[none,none,some (1,_),none,none]) (news:=[]) (sp:=[.val 29 _,.sto 2]) [] hst (zv rfl (za5 (xs:=[.const (.int .i64 (1))]) (rof_c 1 zd zd) (.cons za3 .nil)) (oc (zaf rfl rfl rfl (vq 0 rfl) zab (Eq.trans (b:=2) rfl rfl)) o0)) (fun a w hst=>?_)
   have hst:St B w0 33 [] [⟨2,35,ptrH,_⟩,⟨3,35,ptrH,_⟩,⟨4,35,ptrH,_⟩,⟨5,35,ptrH,_⟩,⟨6,35,ptrH,_⟩] a w:=hst
   refine za0 ?_
   refine wp_ret ?_
   refine zad ?_
   refine zai ?_ (zam rfl hst (zm 2 rfl) zab)
   exact zbv (congrArg (fun n:Nat=>Zi (n:Int)) (show 1=Int.gcd p q by rw [← hg]; show 1=Nat.gcd X.natAbs Y.natAbs; rw [h1,Nat.gcd_one_right]))
  ·refine wp_skip ?_
   refine zt<|gl (sts:=[none,none,some (3,_),none,none]) (news:=[]) (sp:=[.val 30 _,.val 31 _,.val 32 _,.sto 2]) [] hst (zv rfl (zaq (lz0 1 rfl) zab) (zv rfl (zaq (lz0 4 rfl) zab) (zv rfl (za5 (xs:=[.tmp 30,.tmp 31]) (zis Y (X.tmod Y) hY (lz_tmod1 hY0 hY)) (.cons (vq 0 rfl) (.cons (vq 1 rfl) .nil))) (oc (zaf rfl rfl rfl (vq 2 rfl) zab (Eq.trans (b:=2) rfl rfl)) o0)))) (fun a w hst=>?_)
   have hst:St B w0 33 [] [⟨2,35,ptrH,_⟩,⟨3,35,ptrH,_⟩,⟨4,35,ptrH,_⟩,⟨5,35,ptrH,_⟩,⟨6,35,ptrH,_⟩] a w:=hst
   refine za0 ?_
   refine wp_ret ?_
   refine zai ?_ (zam rfl hst (zm 2 rfl) zab)
   exact zbv (congrArg (fun n:Nat=>Zi (n:Int)) ((gcd_tmod hY0).trans hg))
theorem cm_sgn (x y:Rat):(x.num*(y.den:Int)-y.num*(x.den:Int)).sign=cmQ x y:=by
 rw [← cm_sg,zhs]
 unfold sg3
 generalize x.num*(y.den:Int)=u
 generalize y.num*(x.den:Int)=v
 by_cases h1:u<v
 ·rw [if_pos zo,if_pos h1]
 ·by_cases h2:v<u
  ·rw [if_neg zo,if_neg zo,if_neg h1,if_pos h2]
  ·rw [if_neg zo,if_pos zo,if_neg h1,if_neg h2]
theorem r2cmp_q {c d:Nat}{x y:Rat}(hc:c+d≤900000000):Cn Tryz.prog 109 [Qs c x,Qs d y] (In (cmQ x y)):=by
 refine Cn.intro Tryz.func109 rfl zk nq (fun B w0 a hst=>?_)
 have hst:St B w0 19 [(0,Qs c x),(1,Qs d y)] [] a w0.w:=hst
 refine wp_seq ?_
 refine gl (sts:=[]) (news:=[⟨2,37,ptrH,some 0,_,none⟩,⟨3,37,ptrH,some 1,_,none⟩]) (sp:=[.alc 0,.alc 1,.val 4 _]) [.o 2] hst (oc (zan rfl rfl rfl (gq 0 rfl)) (oc (zan rfl rfl rfl (gq 1 rfl)) (zv rfl (za1 za3) o0))) (fun a w hst=>?_)
 have hst:St B w0 19 [(4,_)] [⟨2,37,ptrH,_⟩,⟨3,37,ptrH,_⟩] a w:=hst
 refine zt<|zaz (anc:=[[],[0],[],[2],[0,1,2,3],[],[5],[],[7],[0,1,2,3,4,5,6,7,8],[0,1,2,3,4,5,6,7,8,9],[],[0,1,2,3,4,5,6,7,8,9,10,11]]) (sts:=[none,none]) (news:=[⟨5,35,ptrH,some 11,_,some (12,_)⟩]) (sp:=[.adr 6 2 (.some 0) True,.val 7 _,.adr 8 3 (.some 2) True,.val 9 _,.val 10 _,.adr 11 3 (.some 0) True,.val 12 _,.adr 13 2 (.some 2) True,.val 14 _,.val 15 _,.val 16 _,.alc 2,.sto 2]) [.g 0] za6 hst (oc (ob_a rfl rfl (za7 (lz0 0 rfl) zbf)) (zv rfl (za4 0 rfl zk trivial (lz0 0 rfl) (Sub.part 0 rfl rfl) zab) (oc (ob_a rfl rfl (za7 (lz0 1 rfl) zb5)) (zv rfl (za4 2 rfl zk trivial (lz0 1 rfl) (Sub.part 1 rfl rfl) zab) (zv rfl (za5 (xs:=[.tmp 7,.tmp 9]) (rtimes_z zo zo) (.cons (vq 1 rfl) (.cons (vq 3 rfl) .nil))) (oc (ob_a rfl rfl (za7 (lz0 1 rfl) zbf)) (zv rfl (za4 5 rfl zk trivial (lz0 1 rfl) (Sub.part 0 rfl rfl) zab) (oc (ob_a rfl rfl (za7 (lz0 0 rfl) zb5)) (zv rfl (za4 7 rfl zk trivial (lz0 0 rfl) (Sub.part 1 rfl rfl) zab) (zv rfl (za5 (xs:=[.tmp 12,.tmp 14]) (rtimes_z zo zo) (.cons (vq 6 rfl) (.cons (vq 8 rfl) .nil))) (zv rfl (za5 (xs:=[.tmp 10,.tmp 15]) (rminus_z zo zo) (.cons (vq 4 rfl) (.cons (vq 9 rfl) .nil))) (oc (zap rfl rfl rfl (Str.zero zbs)) (oc (zaf rfl rfl rfl (vq 10 rfl) zab (Eq.trans (b:=2) rfl rfl)) o0))))))))))))) zk zk zk zk (fun a w hst=>?_)
 have hst:St B w0 19 [(4,_)] [⟨2,37,ptrH,_⟩,⟨3,37,ptrH,_⟩,⟨5,35,ptrH,_⟩] a w:=hst
 refine zt<|gl (sts:=[none,none,none]) (news:=[]) (sp:=[.val 17 _,.val 18 _,.val 4 _]) [.o 2] hst (zv rfl (zaq (lz0 2 rfl) zab) (zv rfl (za5 (xs:=[.tmp 17]) rsign_z (.cons (vq 0 rfl) .nil)) (zv rfl (za1 (vq 1 rfl)) o0))) (fun a w hst=>?_)
 have hst:St B w0 19 [(4,_)] [⟨2,37,ptrH,_⟩,⟨3,37,ptrH,_⟩,⟨5,35,ptrH,_⟩] a w:=hst
 refine za0 ?_
 refine wp_ret ?_
 refine zai ?_ (zaa rfl hst (zm 0 rfl))
 exact zbv (congrArg In (cm_sgn x y))
theorem zhf {c:Nat}{x:Rat}:Cn Tryz.prog 110 [Qs c x] (In x.num.sign):=by
 refine Cn.intro Tryz.func110 rfl zk nq (fun B w0 a hst=>?_)
 have hst:St B w0 6 [(0,Qs c x)] [] a w0.w:=hst
 refine wp_seq ?_
 refine gl (sts:=[]) (news:=[⟨1,37,ptrH,some 0,_,none⟩]) (sp:=[.alc 0,.val 2 _]) [.o 1] hst (oc (zan rfl rfl rfl (gq 0 rfl)) (zv rfl (za1 za3) o0)) (fun a w hst=>?_)
 have hst:St B w0 6 [(2,_)] [⟨1,37,ptrH,_⟩] a w:=hst
 refine zt<|gl (sts:=[none]) (news:=[]) (sp:=[.adr 3 1 (.some 0) True,.val 4 _,.val 5 _,.val 2 _]) [.o 3] hst (oc (ob_a rfl rfl (za7 (lz0 0 rfl) zbf)) (zv rfl (za4 0 rfl zk trivial (lz0 0 rfl) (Sub.part 0 rfl rfl) zab) (zv rfl (za5 (xs:=[.tmp 4]) rsign_z (.cons (vq 1 rfl) .nil)) (zv rfl (za1 (vq 2 rfl)) o0)))) (fun a w hst=>?_)
 have hst:St B w0 6 [(2,_)] [⟨1,37,ptrH,_⟩] a w:=hst
 refine za0 ?_
 refine wp_ret ?_
 refine zai ?_ (zaa rfl hst (zm 0 rfl))
 exact zb6
theorem rchk1 {g:Nat}(h:decide ((1:Int)<((g:Nat):Int))=true):g≠1:=by have:=of_decide_eq_true h; omega
theorem rchk2 {g:Nat}(h:decide ((1:Int)<((g:Nat):Int))=false)(h0:g≠0):g=1:=by have:=of_decide_eq_false h; omega
theorem r2checkF_c (xn xd:RI):Cn Tryz.prog 139 [(RFA ⟨xn,xd⟩).va] (In (if okF ⟨xn,xd⟩ then 0 else 1)):=by
 refine Cn.intro Tryz.func139 rfl zk nq (fun B w0 a hst=>?_)
 have hst:St B w0 28 [(0,(RFA ⟨xn,xd⟩).va)] [] a w0.w:=hst
 have hok:=zjh (hst.vals (0,(RFA ⟨xn,xd⟩).va) (zm 0 rfl))
 refine wp_seq ?_
 refine gl (sts:=[]) (news:=[⟨1,37,ptrH,some 0,_,none⟩]) (sp:=[.alc 0,.val 2 _]) [.o 1] hst (oc (zan rfl rfl rfl (gq 0 rfl)) (zv rfl (za1 za3) o0)) (fun a w hst=>?_)
 have hst:St B w0 28 [(2,_)] [⟨1,37,ptrH,_⟩] a w:=hst
 refine zt ?_
 refine wp_seq ?_
 refine gl (sts:=[none]) (news:=[]) (sp:=[.adr 4 1 (.some 0) True,.val 5 _,.val 6 _,.val 7 _,.val 8 _,.adr 9 1 (.some 2) (_=false),.val 10 (Wh (_=false) _),.val 11 (Wh (_=false) _),.val 12 (Wh (_=false) _),.val 13 _,.val 14 _,.adr 15 1 (.some 2) (_=false),.val 16 (Wh (_=false) _),.val 17 (Wh (_=false) _),.val 18 (Wh (_=false) _),.val 19 _]) [.g 0,.o 15] hst (oc (ob_a rfl rfl (za7 (lz0 0 rfl) zbf)) (zv rfl (za4 0 rfl zk trivial (lz0 0 rfl) (Sub.part 0 rfl rfl) zab) (zv rfl (za5 (xs:=[.tmp 5]) (rcheck_c _) (.cons (vq 1 rfl) .nil)) (zv rfl (zdh (vq 2 rfl) za3) (zv rfl (za2 (vq 3 rfl)) (oc (zbz rfl rfl rfl (vq 4 rfl) nq (fun hg=>za7 (lz0 0 rfl) zb5)) (oc (zal rfl rfl rfl (vq 4 rfl) nq (fun hg=>za4 5 rfl zk hg (lz0 0 rfl) (Sub.part 1 rfl rfl) zab)) (oc (zal rfl rfl rfl (vq 4 rfl) nq (fun hg=>za5 (xs:=[.tmp 10]) (rcheck_c _) (.cons (zae (vq 6 rfl) hg) .nil))) (oc (zal rfl rfl rfl (vq 4 rfl) nq (fun hg=>zdh (zae (vq 7 rfl) hg) za3)) (zv rfl (r_or (vq 4 rfl) (vq 8 rfl)) (zv rfl (za2 (vq 9 rfl)) (oc (zbz rfl rfl rfl (vq 10 rfl) nq (fun hg=>za7 (lz0 0 rfl) zb5)) (oc (zal rfl rfl rfl (vq 10 rfl) nq (fun hg=>za4 11 rfl zk hg (lz0 0 rfl) (Sub.part 1 rfl rfl) zab)) (oc (zal rfl rfl rfl (vq 10 rfl) nq (fun hg=>za5 (xs:=[.tmp 16]) (zhu _) (.cons (zae (vq 12 rfl) hg) .nil))) (oc (zal rfl rfl rfl (vq 10 rfl) nq (fun hg=>zkt (zae (vq 13 rfl) hg) za3)) (zv rfl (r_or (vq 10 rfl) (vq 14 rfl)) o0)))))))))))))))) (fun a w hst=>?_)
 have hst:St B w0 28 [(2,_),(19,_)] [⟨1,37,ptrH,_⟩] a w:=hst
 refine za0 ?_
 refine za8 hst (zm 1 rfl) (fun hb0=>?_) (fun hb0=>?_)
 ·refine wp_seq ?_
  refine gl (sts:=[none]) (news:=[]) (sp:=[.val 2 _]) [.o 0] hst (zv rfl (za1 za3) o0) (fun a w hst=>?_)
  have hst:St B w0 28 [(2,_)] [⟨1,37,ptrH,_⟩] a w:=hst
  refine za0 ?_
  refine wp_ret ?_
  refine zad ?_
  refine zai ?_ (zaa rfl hst (zm 0 rfl))
  exact zbv (congrArg In (chk_no hb0))
 ·rw [Bool.or_eq_false_iff,Bool.or_eq_false_iff] at hb0
  obtain ⟨p,rfl,hp⟩:=ziw hok.1 (ok1 hb0.1.1)
  obtain ⟨q,rfl,hq⟩:=ziw hok.2 (ok1 hb0.1.2)
  have hq0:0<sgI (riOf q):=by have h2:¬ sgI (riOf q)≤0:=of_decide_eq_false hb0.2; omega
  have hqn:q≠0:=fun e=>by rw [e,zdd] at hq0; exact absurd hq0 zd
  have hgn:Int.gcd p q≠0:=by have:=Int.gcd_pos_of_ne_zero_right p hqn; omega
  refine wp_skip ?_
  refine zt<|gl (sts:=[none]) (news:=[⟨3,35,ptrH,some 5,_,some (6,_)⟩]) (sp:=[.adr 20 1 (.some 0) True,.val 21 _,.adr 22 1 (.some 2) True,.val 23 _,.val 24 _,.alc 1,.sto 1]) [.g 0] hst (oc (ob_a rfl rfl (za7 (lz0 0 rfl) zbf)) (zv rfl (za4 0 rfl zk trivial (lz0 0 rfl) (Sub.part 0 rfl rfl) zab) (oc (ob_a rfl rfl (za7 (lz0 0 rfl) zb5)) (zv rfl (za4 2 rfl zk trivial (lz0 0 rfl) (Sub.part 1 rfl rfl) zab) (zv rfl (za5 (xs:=[.tmp 21,.tmp 23]) (r2commonZ_c p q zo zo) (.cons (vq 1 rfl) (.cons (vq 3 rfl) .nil))) (oc (zap rfl rfl rfl (Str.zero zbs)) (oc (zaf rfl rfl rfl (vq 4 rfl) zab (Eq.trans (b:=2) rfl rfl)) o0))))))) (fun a w hst=>?_)
  have hst:St B w0 28 [(2,_)] [⟨1,37,ptrH,_⟩,⟨3,35,ptrH,_⟩] a w:=hst
  refine zt ?_
  refine wp_seq ?_
  refine zaz (anc:=[[],[],[0,1]]) (sts:=[none,none]) (news:=[]) (sp:=[.val 25 _,.val 26 _,.val 27 _]) [.g 0,.o 2] za6 hst (zv rfl (za5 (xs:=[.const (.int .i64 (1))]) (rof_c 1 zd zd) (.cons za3 .nil)) (zv rfl (zaq (lz0 1 rfl) zab) (zv rfl (za5 (xs:=[.tmp 25,.tmp 26]) (rbelow_c _ _) (.cons (vq 0 rfl) (.cons (vq 1 rfl) .nil))) o0))) zk zk zk zk (fun a w hst=>?_)
  have hst:St B w0 28 [(2,_),(27,_)] [⟨1,37,ptrH,_⟩,⟨3,35,ptrH,_⟩] a w:=hst
  refine za0 ?_
  refine za8 hst (zm 1 rfl) (fun hb1=>?_) (fun hb1=>?_)
  ·refine wp_seq ?_
   refine gl (sts:=[none,none]) (news:=[]) (sp:=[.val 2 _]) [.o 0] hst (zv rfl (za1 za3) o0) (fun a w hst=>?_)
   have hst:St B w0 28 [(2,_)] [⟨1,37,ptrH,_⟩,⟨3,35,ptrH,_⟩] a w:=hst
   refine za0 ?_
   refine wp_ret ?_
   refine zad ?_
   refine zai ?_ (zaa rfl hst (zm 0 rfl))
   have e1:=rchk1 hb1; exact zbv (congrArg In (by rw [show okF ⟨riOf p,riOf q⟩=false from by unfold okF; rw [zbp,zbp]; simp [show ¬ Nat.gcd p.natAbs q.natAbs=1 from e1]]; rfl))
  ·refine wp_skip ?_
   refine zt<|gl (sts:=[none,none]) (news:=[]) (sp:=[.val 2 _]) [.o 0] hst (zv rfl (za1 za3) o0) (fun a w hst=>?_)
   have hst:St B w0 28 [(2,_)] [⟨1,37,ptrH,_⟩,⟨3,35,ptrH,_⟩] a w:=hst
   refine za0 ?_
   refine wp_ret ?_
   refine zai ?_ (zaa rfl hst (zm 0 rfl))
   have e1:=rchk2 hb1 hgn; exact zbv (congrArg In (by rw [show okF ⟨riOf p,riOf q⟩=true from by unfold okF; rw [zbp,zbp,ok1 hb0.1.1,ok1 hb0.1.2]; simp [hq0,show Nat.gcd p.natAbs q.natAbs=1 from e1]]; rfl))
theorem ex_r2check : ∃ fn, Tryz.prog.funcs[139]? = some fn ∧ (fn.name == "runtime.NumGoroutine") = false ∧ fn.body.isNone = false := ⟨_, Tryz.func139, by kernel_rfl, by kernel_rfl⟩
theorem r2check_x (x:RF):Cn Tryz.prog 139 [(RFA x).va] (In (if okX x then 0 else 1)) :=
 Cn.know (c:=okL x.num.mag∧okL x.den.mag) ex_r2check (fun B w args ha=>by cases ha with | cons h1 _=>exact zjh h1) fun h=>(r2checkF_c x.num x.den).post (by rw [okX_know h])
theorem ziu (xs:List RF)(hl:xs.length≤1099511627776):Cn Tryz.prog 108 [(SlA 37 [U32] (xs.map RFA)).va] (Bo (xs.all okX)):=by
 refine Cn.introW Tryz.func108 rfl zk nq (.cons (zjb (fun A hA=>by obtain ⟨x,_,rfl⟩:=List.mem_map.1 hA; exact zij x)).va .nil) (zek _).va (fun B w0 a hB0 hst=>?_)
 have hst:St B w0 16 [(0,(SlO 37 [U32] (xs.map RFA) True).va)] [] a w0.w:=hst
 refine wp_seq ?_
 refine gl (sts:=[]) (news:=[]) (sp:=[.val 2 _]) [.g 0,.o 0] hst (zv rfl (za1 zba) o0) (fun a w hst=>?_)
 have hst:St B w0 16 [(0,_),(2,_)] [] a w:=hst
 refine zt ?_
 refine wp_seq ?_
 refine gl (sts:=[]) (news:=[]) (sp:=[.val 3 _]) [.g 0,.g 1,.o 0] hst (zv rfl (za1 za3) o0) (fun a w hst=>?_)
 have hst:St B w0 16 [(0,_),(2,_),(3,_)] [] a w:=hst
 refine za0 ?_
 refine wp_block ?_
 have hst:=St.sel hst [0,2]
 refine wp_loop_ghost (fun n a w=>∃ j:Nat,(n+j=xs.length∧(xs.take j).all okX=true)∧St B w0 16 [(0,(SlO 37 [U32] (xs.map RFA) True).va),(3,In (j:Nat))] [] a w) (xs.length) ?_ ?_
 ·exact ⟨0,⟨by omega,rfl⟩,hst⟩
 intro n a w hI
 obtain ⟨j,⟨hn,hno⟩,hst⟩:=hI
 refine wp_seq ?_
 refine wp_seq ?_
 refine gl (sts:=[]) (news:=[]) (sp:=[.val 4 _,.val 5 _,.val 6 _,.val 7 _]) [.g 0,.g 1,.o 3] hst (zv rfl (za2 (gq 1 rfl)) (zv rfl (za2 (gq 0 rfl)) (zv rfl (zd4 Tryz.underlying101 (zca (zas (vq 1 rfl)))) (zv rfl (zbt (vq 0 rfl) (vq 2 rfl)) o0)))) (fun a w hst=>?_)
 have hst:St B w0 16 [(0,_),(3,_),(7,_)] [] a w:=hst
 refine za0 ?_
 refine za8 hst (zm 2 rfl) (fun hb0=>?_) (fun hb0=>?_)
 ·have hj:j<xs.length:=by simp at hb0; omega
  refine wp_skip ?_
  refine zt ?_
  refine wp_block ?_
  refine wp_seq ?_
  refine gl (sts:=[]) (news:=[]) (sp:=[.val 10 _,.val 11 _,.val 12 _,.val 13 _,.val 14 _,.val 15 _]) [.g 0,.g 1,.o 5] hst (zv rfl (za2 (gq 0 rfl)) (zv rfl (za2 (gq 1 rfl)) (zv rfl (ze5 zg4 (zf1 fun _=>rfl) (zca (zas (vq 0 rfl))) (vq 1 rfl) (zdg hj)) (zv rfl (zav (vq 2 rfl) zao) (zv rfl (za5 (xs:=[.tmp 13]) (r2check_x _) (.cons (vq 3 rfl) .nil)) (zv rfl (zdh (vq 4 rfl) za3) o0)))))) (fun a w hst=>?_)
  have hst:St B w0 16 [(0,_),(3,_),(15,_)] [] a w:=hst
  refine za0 ?_
  refine za8 hst (zm 2 rfl) (fun hb1=>?_) (fun hb1=>?_)
  ·refine wp_seq ?_
   refine gl (sts:=[]) (news:=[]) (sp:=[.val 2 _]) [.g 0,.g 1,.o 0] hst (zv rfl (za1 zba) o0) (fun a w hst=>?_)
   have hst:St B w0 16 [(0,_),(3,_),(2,_)] [] a w:=hst
   refine za0 ?_
   refine wp_ret ?_
   refine zb3 ?_
   refine zad ?_
   refine zad ?_
   refine zb3 ?_
   refine zad ?_
   refine zak ?_ (zaa rfl hst (zm 2 rfl))
   rw [← ok_no hj hb1]
  ·refine wp_skip ?_
   refine zaj ?_
   refine za0 ?_
   refine gl (sts:=[]) (news:=[]) (sp:=[.val 8 _,.val 9 _,.val 3 _]) [.g 0,.o 2] hst (zv rfl (za2 (gq 1 rfl)) (zv rfl (zb7 (vq 0 rfl) za3 (zbh zo)) (zv rfl (za1 (vq 1 rfl)) o0))) (fun a w hst=>?_)
   have hst:St B w0 16 [(0,_),(3,_)] [] a w:=hst
   refine za0 ?_
   have hst:=St.sel hst [0,1]
   exact ⟨n-1,by omega,j+1,⟨by omega,ok_yes hj hno hb1⟩,hst⟩
 ·obtain rfl:j=xs.length:=by simp at hb0; omega
  refine wp_exit ?_
  refine zac ?_
  refine zac ?_
  refine zay ?_
  refine zt<|gl (sts:=[]) (news:=[]) (sp:=[.val 2 _]) [.o 0] hst (zv rfl (za1 zba) o0) (fun a w hst=>?_)
  have hst:St B w0 16 [(2,_)] [] a w:=hst
  refine za0 ?_
  refine wp_ret ?_
  refine zak ?_ (zaa rfl hst (zm 0 rfl))
  rw [List.take_length] at hno; rw [hno]
end Go.Proofs.YtlpppkkggljdcaaGreat
namespace Go.Proofs.YtlpppkkggljdcaaGreat
open Go Go.RowKit
end Go.Proofs.YtlpppkkggljdcaaGreat
namespace Go.Proofs.YtlpppkkggljdcaaGreat
open Go Go.RowKit
theorem kd6 {k ps qs:Int}(h1:(k==1)=false)(h2:(k==2)=false)(h3:(k==3)=false)(h4:(k==4)=false)(h5:(k==5)=true):elK k ps qs=((ps==0)&&(qs==0)):=by rw [kd5 h1 h2 h3 h4,h5]; rfl
theorem kd7 {k ps qs:Int}(h1:(k==1)=false)(h2:(k==2)=false)(h3:(k==3)=false)(h4:(k==4)=false)(h5:(k==5)=false):elK k ps qs=false:=by rw [kd5 h1 h2 h3 h4,h5]; rfl
theorem zga {c:Nat}{x:Rat}:Cn Tryz.prog 111 [Qs c x] (Bo (x.num.sign==0)):=by
 refine Cn.intro Tryz.func111 rfl zk nq (fun B w0 a hst=>?_)
 have hst:St B w0 6 [(0,Qs c x)] [] a w0.w:=hst
 refine wp_seq ?_
 refine gl (sts:=[]) (news:=[⟨1,37,ptrH,some 0,_,none⟩]) (sp:=[.alc 0,.val 2 _]) [.o 1] hst (oc (zan rfl rfl rfl (gq 0 rfl)) (zv rfl (za1 zba) o0)) (fun a w hst=>?_)
 have hst:St B w0 6 [(2,_)] [⟨1,37,ptrH,_⟩] a w:=hst
 refine zt<|gl (sts:=[none]) (news:=[]) (sp:=[.val 3 _,.val 4 _,.val 5 _,.val 2 _]) [.o 3] hst (zv rfl (zaq (lz0 0 rfl) zao) (zv rfl (za5 (xs:=[.tmp 3]) zhf (.cons (vq 0 rfl) .nil)) (zv rfl (zc2 (vq 1 rfl) za3) (zv rfl (za1 (vq 2 rfl)) o0)))) (fun a w hst=>?_)
 have hst:St B w0 6 [(2,_)] [⟨1,37,ptrH,_⟩] a w:=hst
 refine za0 ?_
 refine wp_ret ?_
 refine zai ?_ (zaa rfl hst (zm 0 rfl))
 exact zb6
theorem zhg (x:RE):Cn Tryz.prog 72 [(REA x).va] (Bo (elF x)):=by
 refine Cn.intro Tryz.func72 rfl zk nq (fun B w0 a hst=>?_)
 have hst:St B w0 52 [(0,(REA x).va)] [] a w0.w:=hst
 refine wp_seq ?_
 refine gl (sts:=[]) (news:=[⟨1,62,ptrH,some 0,_,none⟩]) (sp:=[.alc 0,.val 2 _]) [.o 1] hst (oc (zan rfl rfl rfl (gq 0 rfl)) (zv rfl (za1 zba) o0)) (fun a w hst=>?_)
 have hst:St B w0 52 [(2,_)] [⟨1,62,ptrH,_⟩] a w:=hst
 refine zt ?_
 refine wp_seq ?_
 refine gl (sts:=[none]) (news:=[]) (sp:=[.adr 3 1 (.some 1) True,.val 4 _,.adr 5 1 (.some 5) True,.val 6 _,.val 7 _,.val 8 _,.val 9 _]) [.g 0,.o 6] hst (oc (ob_a rfl rfl (za7 (lz0 0 rfl) zdb)) (zv rfl (za4 0 rfl zk trivial (lz0 0 rfl) (Sub.part 1 rfl rfl) zao) (oc (ob_a rfl rfl (za7 (lz0 0 rfl) zda)) (zv rfl (za4 2 rfl zk trivial (lz0 0 rfl) (Sub.part 2 rfl rfl) zao) (zv rfl (zcx (D:=[U32]) (l:=[_,_]) (xs:=[.tmp 4,.tmp 6]) (zfq zk) zg4 zk (n_ok zk) nq nq nq (.cons (vq 1 rfl) (.cons (vq 3 rfl) .nil)) rfl rfl) (zv rfl (za5 (xs:=[.tmp 7]) (ziu [x.p,x.q] nq) (.cons (vq 4 rfl) .nil)) (zv rfl (zev (vq 5 rfl)) o0))))))) (fun a w hst=>?_)
 have hst:St B w0 52 [(2,_),(9,_)] [⟨1,62,ptrH,_⟩] a w:=hst
 refine za0 ?_
 refine za8 hst (zm 1 rfl) (fun hb0=>?_) (fun hb0=>?_)
 ·refine wp_seq ?_
  refine gl (sts:=[none]) (news:=[]) (sp:=[.val 2 _]) [.o 0] hst (zv rfl (za1 zba) o0) (fun a w hst=>?_)
  have hst:St B w0 52 [(2,_)] [⟨1,62,ptrH,_⟩] a w:=hst
  refine za0 ?_
  refine wp_ret ?_
  refine zad ?_
  refine zai ?_ (zaa rfl hst (zm 0 rfl))
  rw [elF_no hb0]; exact zb6
 ·obtain ⟨hx,he⟩:=elF_ok hb0
  have hst:=St.wkL hst 0 rfl (el_q hx)
  refine wp_skip ?_
  refine zt ?_
  refine wp_seq ?_
  refine gl (sts:=[none]) (news:=[]) (sp:=[.adr 10 1 (.some 0) True,.val 11 _]) [.g 0,.o 1] hst (oc (ob_a rfl rfl (za7 (lz0 0 rfl) ze0)) (zv rfl (za4 0 rfl zk trivial (lz0 0 rfl) (Sub.part 0 rfl rfl) zeb) o0)) (fun a w hst=>?_)
  have hst:St B w0 52 [(2,_),(11,_)] [⟨1,62,ptrH,_⟩] a w:=hst
  refine za0 ?_
  refine wp_block ?_
  refine wp_seq ?_
  refine gl (sts:=[none]) (news:=[]) (sp:=[.val 13 _,.val 12 _]) [.g 0,.g 1,.o 1] hst (zv rfl (zc2 (gq 1 rfl) za3) (zv rfl (za1 (vq 0 rfl)) o0)) (fun a w hst=>?_)
  have hst:St B w0 52 [(2,_),(11,_),(12,_)] [⟨1,62,ptrH,_⟩] a w:=hst
  refine za0 ?_
  refine za8 hst (zm 2 rfl) (fun hb1=>?_) (fun hb1=>?_)
  ·refine wp_seq ?_
   refine gl (sts:=[none]) (news:=[]) (sp:=[.adr 14 1 (.some 1) True,.val 15 _,.val 16 _,.val 17 _,.val 18 _,.adr 19 1 (.some 5) (_=true),.val 20 (Wh (_=true) _),.val 21 (Wh (_=true) _),.val 22 _,.val 2 _]) [.o 9] hst (oc (ob_a rfl rfl (za7 (lz0 0 rfl) zdb)) (zv rfl (za4 0 rfl zk trivial (lz0 0 rfl) (Sub.part 1 rfl rfl) zao) (zv rfl (za5 (xs:=[.tmp 15]) zhf (.cons (vq 1 rfl) .nil)) (zv rfl (zee (vq 2 rfl) za3) (zv rfl (za2 (vq 3 rfl)) (oc (zbz rfl rfl rfl (vq 4 rfl) nq (fun hg=>za7 (lz0 0 rfl) zda)) (oc (zal rfl rfl rfl (vq 4 rfl) nq (fun hg=>za4 5 rfl zk hg (lz0 0 rfl) (Sub.part 2 rfl rfl) zao)) (oc (zal rfl rfl rfl (vq 4 rfl) nq (fun hg=>za5 (xs:=[.tmp 20]) zga (.cons (zae (vq 6 rfl) hg) .nil))) (zv rfl (zcj (vq 4 rfl) (vq 7 rfl)) (zv rfl (za1 (vq 8 rfl)) o0)))))))))) (fun a w hst=>?_)
   have hst:St B w0 52 [(2,_)] [⟨1,62,ptrH,_⟩] a w:=hst
   refine za0 ?_
   refine wp_ret ?_
   refine zb3 ?_
   refine zad ?_
   refine zai ?_ (zaa rfl hst (zm 0 rfl))
   rw [he,kd1 hb1]; exact zb6
  ·refine wp_seq ?_
   refine gl (sts:=[none]) (news:=[]) (sp:=[.val 24 _,.val 23 _]) [.g 0,.g 1,.o 1] hst (zv rfl (zc2 (gq 1 rfl) za3) (zv rfl (za1 (vq 0 rfl)) o0)) (fun a w hst=>?_)
   have hst:St B w0 52 [(2,_),(11,_),(23,_)] [⟨1,62,ptrH,_⟩] a w:=hst
   refine za0 ?_
   refine za8 hst (zm 2 rfl) (fun hb2=>?_) (fun hb2=>?_)
   ·refine wp_seq ?_
    refine gl (sts:=[none]) (news:=[]) (sp:=[.adr 25 1 (.some 5) True,.val 26 _,.val 27 _,.val 2 _]) [.o 3] hst (oc (ob_a rfl rfl (za7 (lz0 0 rfl) zda)) (zv rfl (za4 0 rfl zk trivial (lz0 0 rfl) (Sub.part 2 rfl rfl) zao) (zv rfl (za5 (xs:=[.tmp 26]) zga (.cons (vq 1 rfl) .nil)) (zv rfl (za1 (vq 2 rfl)) o0)))) (fun a w hst=>?_)
    have hst:St B w0 52 [(2,_)] [⟨1,62,ptrH,_⟩] a w:=hst
    refine za0 ?_
    refine wp_ret ?_
    refine zb3 ?_
    refine zad ?_
    refine zai ?_ (zaa rfl hst (zm 0 rfl))
    rw [he,kd2 hb1 hb2]; exact zb6
   ·refine wp_seq ?_
    refine gl (sts:=[none]) (news:=[]) (sp:=[.val 29 _,.val 28 _]) [.g 0,.g 1,.o 1] hst (zv rfl (zc2 (gq 1 rfl) za3) (zv rfl (za1 (vq 0 rfl)) o0)) (fun a w hst=>?_)
    have hst:St B w0 52 [(2,_),(11,_),(28,_)] [⟨1,62,ptrH,_⟩] a w:=hst
    refine za0 ?_
    refine za8 hst (zm 2 rfl) (fun hb3=>?_) (fun hb3=>?_)
    ·refine wp_seq ?_
     refine gl (sts:=[none]) (news:=[]) (sp:=[.adr 30 1 (.some 1) True,.val 31 _,.val 32 _,.val 33 _,.val 34 _,.adr 35 1 (.some 5) (_=true),.val 36 (Wh (_=true) _),.val 37 (Wh (_=true) _),.val 38 (Wh (_=true) _),.val 39 _,.val 2 _]) [.o 10] hst (oc (ob_a rfl rfl (za7 (lz0 0 rfl) zdb)) (zv rfl (za4 0 rfl zk trivial (lz0 0 rfl) (Sub.part 1 rfl rfl) zao) (zv rfl (za5 (xs:=[.tmp 31]) zhf (.cons (vq 1 rfl) .nil)) (zv rfl (zee (vq 2 rfl) za3) (zv rfl (za2 (vq 3 rfl)) (oc (zbz rfl rfl rfl (vq 4 rfl) nq (fun hg=>za7 (lz0 0 rfl) zda)) (oc (zal rfl rfl rfl (vq 4 rfl) nq (fun hg=>za4 5 rfl zk hg (lz0 0 rfl) (Sub.part 2 rfl rfl) zao)) (oc (zal rfl rfl rfl (vq 4 rfl) nq (fun hg=>za5 (xs:=[.tmp 36]) zhf (.cons (zae (vq 6 rfl) hg) .nil))) (oc (zal rfl rfl rfl (vq 4 rfl) nq (fun hg=>zdo (zae (vq 7 rfl) hg) za3)) (zv rfl (zcj (vq 4 rfl) (vq 8 rfl)) (zv rfl (za1 (vq 9 rfl)) o0))))))))))) (fun a w hst=>?_)
     have hst:St B w0 52 [(2,_)] [⟨1,62,ptrH,_⟩] a w:=hst
     refine za0 ?_
     refine wp_ret ?_
     refine zb3 ?_
     refine zad ?_
     refine zai ?_ (zaa rfl hst (zm 0 rfl))
     rw [he,kd3 hb1 hb2 hb3]; exact zb6
    ·refine wp_seq ?_
     refine gl (sts:=[none]) (news:=[]) (sp:=[.val 41 _,.val 40 _]) [.g 0,.g 1,.o 1] hst (zv rfl (zc2 (gq 1 rfl) za3) (zv rfl (za1 (vq 0 rfl)) o0)) (fun a w hst=>?_)
     have hst:St B w0 52 [(2,_),(11,_),(40,_)] [⟨1,62,ptrH,_⟩] a w:=hst
     refine za0 ?_
     refine za8 hst (zm 2 rfl) (fun hb4=>?_) (fun hb4=>?_)
     ·refine wp_seq ?_
      refine gl (sts:=[none]) (news:=[]) (sp:=[.val 2 _]) [.o 0] hst (zv rfl (za1 zba) o0) (fun a w hst=>?_)
      have hst:St B w0 52 [(2,_)] [⟨1,62,ptrH,_⟩] a w:=hst
      refine za0 ?_
      refine wp_ret ?_
      refine zb3 ?_
      refine zad ?_
      refine zai ?_ (zaa rfl hst (zm 0 rfl))
      rw [he,kd4 hb1 hb2 hb3 hb4]; exact zb6
     ·refine wp_seq ?_
      refine gl (sts:=[none]) (news:=[]) (sp:=[.val 43 _,.val 42 _]) [.g 0,.o 1] hst (zv rfl (zc2 (gq 1 rfl) za3) (zv rfl (za1 (vq 0 rfl)) o0)) (fun a w hst=>?_)
      have hst:St B w0 52 [(2,_),(42,_)] [⟨1,62,ptrH,_⟩] a w:=hst
      refine za0 ?_
      refine za8 hst (zm 1 rfl) (fun hb5=>?_) (fun hb5=>?_)
      ·refine wp_seq ?_
       refine gl (sts:=[none]) (news:=[]) (sp:=[.adr 44 1 (.some 1) True,.val 45 _,.val 46 _,.val 47 _,.adr 48 1 (.some 5) (_=true),.val 49 (Wh (_=true) _),.val 50 (Wh (_=true) _),.val 51 _,.val 2 _]) [.o 8] hst (oc (ob_a rfl rfl (za7 (lz0 0 rfl) zdb)) (zv rfl (za4 0 rfl zk trivial (lz0 0 rfl) (Sub.part 1 rfl rfl) zao) (zv rfl (za5 (xs:=[.tmp 45]) zga (.cons (vq 1 rfl) .nil)) (zv rfl (za2 (vq 2 rfl)) (oc (zbz rfl rfl rfl (vq 3 rfl) nq (fun hg=>za7 (lz0 0 rfl) zda)) (oc (zal rfl rfl rfl (vq 3 rfl) nq (fun hg=>za4 4 rfl zk hg (lz0 0 rfl) (Sub.part 2 rfl rfl) zao)) (oc (zal rfl rfl rfl (vq 3 rfl) nq (fun hg=>za5 (xs:=[.tmp 49]) zga (.cons (zae (vq 5 rfl) hg) .nil))) (zv rfl (zcj (vq 3 rfl) (vq 6 rfl)) (zv rfl (za1 (vq 7 rfl)) o0))))))))) (fun a w hst=>?_)
       have hst:St B w0 52 [(2,_)] [⟨1,62,ptrH,_⟩] a w:=hst
       refine za0 ?_
       refine wp_ret ?_
       refine zb3 ?_
       refine zad ?_
       refine zai ?_ (zaa rfl hst (zm 0 rfl))
       rw [he,kd6 hb1 hb2 hb3 hb4 hb5]; exact zb6
      ·refine wp_skip ?_
       refine zaj ?_
       refine zt<|gl (sts:=[none]) (news:=[]) (sp:=[.val 2 _]) [.o 0] hst (zv rfl (za1 zba) o0) (fun a w hst=>?_)
       have hst:St B w0 52 [(2,_)] [⟨1,62,ptrH,_⟩] a w:=hst
       refine za0 ?_
       refine wp_ret ?_
       refine zai ?_ (zaa rfl hst (zm 0 rfl))
       rw [he,kd7 hb1 hb2 hb3 hb4 hb5]; exact zb6
end Go.Proofs.YtlpppkkggljdcaaGreat
