import Derived.Test.YtlakjmncfooodaaSnAi
import Derived.ProofKit
import Derived.OpenShut
import Derived.ChangeOld
import Derived.Below
set_option linter.all false
set_option maxRecDepth 100000
namespace Go.Proofs.Ytlakjmncfooodaa
open Go Go.RowKit
variable {w:World}{B:Nat}{a:Act}{v:Value}{T:TypeId}{w0:Bs}{Γ:List (Nat × VA)}{Λ:List Lc}{ps:String}{af:Array Edge}{vr:Value}{H:Hd}{cs:List Value}{w':World}{P:Program}{D:List TypeId}
theorem rat_add (x y:Rat):Rat.divInt (x.num*(y.den:Int)+y.num*(x.den:Int)) ((x.den:Int)*(y.den:Int))=x+y:=by
 rw [Rat.add_def',← x7,xw]
theorem rat_sub (x y:Rat):Rat.divInt (x.num*(y.den:Int)-y.num*(x.den:Int)) ((x.den:Int)*(y.den:Int))=x-y:=by
 rw [Rat.sub_def',← x7,xw]
theorem rat_mul (x y:Rat):Rat.divInt (x.num*y.num) ((x.den:Int)*(y.den:Int))=x*y:=by
 rw [Rat.mul_def',← x7,xw]
theorem rat_div (x y:Rat):Rat.divInt (x.num*(y.den:Int)) ((x.den:Int)*y.num)=x/y:=by
 rw [Rat.div_def,Rat.inv_def,← Rat.divInt_mul_divInt,xW]
theorem den_nz (x y:Rat):(x.den:Int)*(y.den:Int)≠0:=jf (by have:=x.den_pos; omega) (by have:=y.den_pos; omega)
theorem num_nz (x:Rat){y:Rat}(h:y≠0):(x.den:Int)*y.num≠0:=jf (by have:=x.den_pos; omega) (λ e=>h (Rat.num_eq_zero.1 e))
def cmQ (x y:Rat):Int:=if x<y then -1 else if y<x then 1 else 0
theorem cm_sg (x y:Rat):sg3 (x.num*(y.den:Int)) (y.num*(x.den:Int))=cmQ x y:=by
 unfold sg3 cmQ
 simp only [Rat.lt_iff]
theorem copy_e (x:Rat):cat [RIA (riOf (x.num+0)),RIA (riOf ((x.den:Int)+0))]=RFA (rfOf x):=by rw [xz,xz]; rfl
theorem q0_wk {k:Nat}:WkA (cat [RIA ⟨false,[]⟩,ZA k 1]) (QA k 0):=bc (.cons ((eX (show RIA ⟨false,[]⟩=RIA (riOf 0) from by simp [riOf,bb])).trans (za_of (by simp [lz,bb]))) (.cons (WkA.refl _) .nil))
theorem nought_q  : Cn Try.prog 39 [] (Qs 2 0):=by
 refine Cn.intro Try.func39 G zk nq (λ B w0 a U=>?_)
 have U:=zn [] [] U
 refine qb<|zg [] [⟨0,27,ptrH,some 0,_,none⟩] [.alc 0] [] U (zY G (Str.zero aI) o0) (zz [] [O 0 27 _] λ a w U=>?_)
 refine zt<|zg [some (2,_)] [] [.v 1 _,.v 2 _,.sto 0] [] U (zQ G (of_z zd zd) (.cons a5 .nil) (zv G (aO (qs:=[(1,_)]) aI (.cons ⟨rfl,vq 0 rfl,rfl⟩ .nil)) (zS 1 G ar o0))) (zz [] [O 0 27 _] λ a w U=>?_)
 refine a4<|qh<|an ?_ (ax G U (zm 0 G) ar)
 exact q0_wk.va
theorem small_q {p q:Int}(hp : -9223372036854775808≤p)(hp1:p<9223372036854775808)(hq : -9223372036854775808≤q)(hq1:q<9223372036854775808)(h0:q≠0):Cn Try.prog 57 [In p,In q] (Qs 2 (Rat.divInt p q)):=by
 refine Cn.intro Try.func57 G zk nq (λ B w0 a U=>?_)
 have U:=zn [(0,In p),(1,In q)] [] U
 refine qb<|zg [] [⟨4,27,ptrH,some 0,_,none⟩] [.alc 0] [.g 0,.g 1] U (zY G (Str.zero aI) o0) (zz [(0,_),(1,_)] [O 4 27 _] λ a w U=>?_)
 refine zt<|zg [some (5,_)] [] [.v 5 _,.v 6 _,.v 7 _,.v 8 _,.v 9 _,.sto 0] [] U (zM 0 G (zQ G (of_z hp hp1) (.o (vq 0 G)) (zM 1 G (zQ G (of_z hq hq1) (.o (vq 2 G)) (zQ G (dh zo zo h0) (.p (vq 1 G) (vq 3 G)) (zS 4 G ar o0)))))) (zz [] [O 4 27 _] λ a w U=>?_)
 refine a4<|qh<|an ?_ (ax G U (zm 0 G) ar)
 exact aC
theorem one_q  : Cn Try.prog 38 [] (Qs 2 1):=by
 refine Cn.intro Try.func38 G zk nq (λ B w0 a U=>?_)
 have U:=zn [] [] U
 refine qb<|zg [] [⟨0,27,ptrH,some 0,_,none⟩] [.alc 0] [] U (zY G (Str.zero aI) o0) (zz [] [O 0 27 _] λ a w U=>?_)
 refine zt<|zg [some (1,_)] [] [.v 1 _,.sto 0] [] U (zQ G (small_q zd zd zd zd zd) (.cons a5 (.cons a5 .nil)) (zS 0 G ar o0)) (zz [] [O 0 27 _] λ a w U=>?_)
 refine a4<|qh<|an ?_ (ax G U (zm 0 G) ar)
 exact cd (qu (Qs 2) (show Rat.divInt 1 1=1 from G))
theorem plus_q {c d:Nat}{x y:Rat}(hc:c+d≤549755813888):Cn Try.prog 33 [Qs c x,Qs d y] (Qs (c+d+1) (x+y)):=by
 refine Cn.intro Try.func33 G zk nq (λ B w0 a U=>?_)
 have U:=zn [(0,Qs c x),(1,Qs d y)] [] U
 refine qb<|zg [] [⟨2,27,ptrH,some 0,_,none⟩,⟨3,27,ptrH,some 1,_,none⟩,⟨4,27,ptrH,some 2,_,none⟩] [.alc 0,.alc 1,.alc 2] [] U (zW 0 G (zW 1 G (zY G (Str.zero aI) o0))) (zz [] [O 2 27 _,O 3 27 _,O 4 27 _] λ a w U=>?_)
 refine zt<|zgd [[],[0],[],[2],[0,1,2,3],[],[5],[],[7],[0,1,2,3,4,5,6,7,8],[0,1,2,3,4,5,6,7,8,9],[],[11],[],[13],[0,1,2,3,4,5,6,7,8,9,10,11,12,13,14],[0,1,2,3,4,5,6,7,8,9,10,11,12,13,14,15],[0,1,2,3,4,5,6,7,8,9,10,11,12,13,14,15,16]] [none,none,some (17,_)] [] [.adr 5 2 (.some 0) True,.v 6 _,.adr 7 3 (.some 2) True,.v 8 _,.v 9 _,.adr 10 3 (.some 0) True,.v 11 _,.adr 12 2 (.some 2) True,.v 13 _,.v 14 _,.v 15 _,.adr 16 2 (.some 2) True,.v 17 _,.adr 18 3 (.some 2) True,.v 19 _,.v 20 _,.v 21 _,.sto 2] [] a8 U (zO 0 G bg (zL 0 0 0 G am (zO 1 G aP (zL 2 1 1 G am (zQ G (ce zo zo) (.p (vq 1 G) (vq 3 G)) (zO 1 G bg (zL 5 1 0 G am (zO 0 G aP (zL 7 0 1 G am (zQ G (ce zo zo) (.p (vq 6 G) (vq 8 G)) (zQ G (plus_z zo zo) (.p (vq 4 G) (vq 9 G)) (zO 0 G aP (zL 11 0 1 G am (zO 1 G aP (zL 13 1 1 G am (zQ G (ce zo zo) (.p (vq 12 G) (vq 14 G)) (zQ G (dh zo zo (den_nz x y)) (.p (vq 10 G) (vq 15 G)) (zS 16 G ar o0)))))))))))))))))) zk zk zk zk (zz [] [O 2 27 _,O 3 27 _,O 4 27 _] λ a w U=>?_)
 refine a4<|qh<|an ?_ (ax G U (zm 2 G) ar)
 exact bn (cd (qu (Qs _) (rat_add x y))) (ew zo).va
theorem iL {c d:Nat}{x y:Rat}(hc:c+d≤549755813888):Cn Try.prog 36 [Qs c x,Qs d y] (Qs (c+d+1) (x-y)):=by
 refine Cn.intro Try.func36 G zk nq (λ B w0 a U=>?_)
 have U:=zn [(0,Qs c x),(1,Qs d y)] [] U
 refine qb<|zg [] [⟨2,27,ptrH,some 0,_,none⟩,⟨3,27,ptrH,some 1,_,none⟩,⟨4,27,ptrH,some 2,_,none⟩] [.alc 0,.alc 1,.alc 2] [] U (zW 0 G (zW 1 G (zY G (Str.zero aI) o0))) (zz [] [O 2 27 _,O 3 27 _,O 4 27 _] λ a w U=>?_)
 refine zt<|zgd [[],[0],[],[2],[0,1,2,3],[],[5],[],[7],[0,1,2,3,4,5,6,7,8],[0,1,2,3,4,5,6,7,8,9],[],[11],[],[13],[0,1,2,3,4,5,6,7,8,9,10,11,12,13,14],[0,1,2,3,4,5,6,7,8,9,10,11,12,13,14,15],[0,1,2,3,4,5,6,7,8,9,10,11,12,13,14,15,16]] [none,none,some (17,_)] [] [.adr 5 2 (.some 0) True,.v 6 _,.adr 7 3 (.some 2) True,.v 8 _,.v 9 _,.adr 10 3 (.some 0) True,.v 11 _,.adr 12 2 (.some 2) True,.v 13 _,.v 14 _,.v 15 _,.adr 16 2 (.some 2) True,.v 17 _,.adr 18 3 (.some 2) True,.v 19 _,.v 20 _,.v 21 _,.sto 2] [] a8 U (zO 0 G bg (zL 0 0 0 G am (zO 1 G aP (zL 2 1 1 G am (zQ G (ce zo zo) (.p (vq 1 G) (vq 3 G)) (zO 1 G bg (zL 5 1 0 G am (zO 0 G aP (zL 7 0 1 G am (zQ G (ce zo zo) (.p (vq 6 G) (vq 8 G)) (zQ G (minus_z zo zo) (.p (vq 4 G) (vq 9 G)) (zO 0 G aP (zL 11 0 1 G am (zO 1 G aP (zL 13 1 1 G am (zQ G (ce zo zo) (.p (vq 12 G) (vq 14 G)) (zQ G (dh zo zo (den_nz x y)) (.p (vq 10 G) (vq 15 G)) (zS 16 G ar o0)))))))))))))))))) zk zk zk zk (zz [] [O 2 27 _,O 3 27 _,O 4 27 _] λ a w U=>?_)
 refine a4<|qh<|an ?_ (ax G U (zm 2 G) ar)
 exact bn (cd (qu (Qs _) (rat_sub x y))) (ew zo).va
theorem em {c d:Nat}{x y:Rat}(hc:c+d≤549755813888):Cn Try.prog 34 [Qs c x,Qs d y] (Qs (c+d) (x*y)):=by
 refine Cn.intro Try.func34 G zk nq (λ B w0 a U=>?_)
 have U:=zn [(0,Qs c x),(1,Qs d y)] [] U
 refine qb<|zg [] [⟨2,27,ptrH,some 0,_,none⟩,⟨3,27,ptrH,some 1,_,none⟩,⟨4,27,ptrH,some 2,_,none⟩] [.alc 0,.alc 1,.alc 2] [] U (zW 0 G (zW 1 G (zY G (Str.zero aI) o0))) (zz [] [O 2 27 _,O 3 27 _,O 4 27 _] λ a w U=>?_)
 refine zt<|zgd [[],[0],[],[2],[0,1,2,3],[],[5],[],[7],[0,1,2,3,4,5,6,7,8],[0,1,2,3,4,5,6,7,8,9],[0,1,2,3,4,5,6,7,8,9,10]] [none,none,some (11,_)] [] [.adr 5 2 (.some 0) True,.v 6 _,.adr 7 3 (.some 0) True,.v 8 _,.v 9 _,.adr 10 2 (.some 2) True,.v 11 _,.adr 12 3 (.some 2) True,.v 13 _,.v 14 _,.v 15 _,.sto 2] [] a8 U (zO 0 G bg (zL 0 0 0 G am (zO 1 G bg (zL 2 1 0 G am (zQ G (ce zo zo) (.p (vq 1 G) (vq 3 G)) (zO 0 G aP (zL 5 0 1 G am (zO 1 G aP (zL 7 1 1 G am (zQ G (ce zo zo) (.p (vq 6 G) (vq 8 G)) (zQ G (dh zo zo (den_nz x y)) (.p (vq 4 G) (vq 9 G)) (zS 10 G ar o0)))))))))))) zk zk zk zk (zz [] [O 2 27 _,O 3 27 _,O 4 27 _] λ a w U=>?_)
 refine a4<|qh<|an ?_ (ax G U (zm 2 G) ar)
 exact bn (cd (qu (Qs _) (rat_mul x y))) (ew zo).va
theorem over_q {c d:Nat}{x y:Rat}(hc:c+d≤549755813888)(h0:y≠0):Cn Try.prog 56 [Qs c x,Qs d y] (Qs (c+d) (x/y)):=by
 refine Cn.intro Try.func56 G zk nq (λ B w0 a U=>?_)
 have U:=zn [(0,Qs c x),(1,Qs d y)] [] U
 refine qb<|zg [] [⟨2,27,ptrH,some 0,_,none⟩,⟨3,27,ptrH,some 1,_,none⟩,⟨4,27,ptrH,some 2,_,none⟩] [.alc 0,.alc 1,.alc 2] [] U (zW 0 G (zW 1 G (zY G (Str.zero aI) o0))) (zz [] [O 2 27 _,O 3 27 _,O 4 27 _] λ a w U=>?_)
 refine zt<|zgd [[],[0],[],[2],[0,1,2,3],[],[5],[],[7],[0,1,2,3,4,5,6,7,8],[0,1,2,3,4,5,6,7,8,9],[0,1,2,3,4,5,6,7,8,9,10]] [none,none,some (11,_)] [] [.adr 5 2 (.some 0) True,.v 6 _,.adr 7 3 (.some 2) True,.v 8 _,.v 9 _,.adr 10 2 (.some 2) True,.v 11 _,.adr 12 3 (.some 0) True,.v 13 _,.v 14 _,.v 15 _,.sto 2] [] a8 U (zO 0 G bg (zL 0 0 0 G am (zO 1 G aP (zL 2 1 1 G am (zQ G (ce zo zo) (.p (vq 1 G) (vq 3 G)) (zO 0 G aP (zL 5 0 1 G am (zO 1 G bg (zL 7 1 0 G am (zQ G (ce zo zo) (.p (vq 6 G) (vq 8 G)) (zQ G (dh zo zo (num_nz x h0)) (.p (vq 4 G) (vq 9 G)) (zS 10 G ar o0)))))))))))) zk zk zk zk (zz [] [O 2 27 _,O 3 27 _,O 4 27 _] λ a w U=>?_)
 refine a4<|qh<|an ?_ (ax G U (zm 2 G) ar)
 exact bn (cd (qu (Qs _) (rat_div x y))) (ew zo).va
theorem turned_r {c:Nat}{x:Rat}(hc:c≤549755813888):Cn Try.prog 35 [Qs c x] ((RFA (rfOf (-x))).va):=by
 refine Cn.intro Try.func35 G zk nq (λ B w0 a U=>?_)
 have U:=zn [(0,Qs c x)] [] U
 refine qb<|zg [] [⟨1,27,ptrH,some 0,_,none⟩,⟨2,27,ptrH,some 1,_,none⟩] [.alc 0,.alc 1] [] U (zW 0 G (zY G (Str.zero aI) o0)) (zz [] [O 1 27 _,O 2 27 _] λ a w U=>?_)
 refine zt<|zgd [[],[0],[0,1],[],[3],[0,1,2],[0,1,2,3,4,5],[0,1,2,3,4,5,6],[0,1,2,3,4,5,6,7]] [none,some (8,_)] [] [.adr 3 1 (.some 0) True,.v 4 _,.v 5 _,.adr 6 1 (.some 2) True,.v 7 _,.v 8 _,.v 9 _,.v 10 _,.sto 1] [] a8 U (zO 0 G bg (zL 0 0 0 G am (zQ G (g8 zo) (.o (vq 1 G)) (zO 0 G aP (zL 3 0 1 G am (zQ G (of_z zd zd) (.cons a5 .nil) (zQ G (plus_z zo zo) (.p (vq 4 G) (vq 5 G)) (zv G (aO (qs:=[(0,_),(1,_)]) aI (.cons ⟨rfl,vq 2 rfl,rfl⟩ (.cons ⟨rfl,vq 6 rfl,rfl⟩ .nil))) (zS 7 G ar o0))))))))) zk zk zk zk (zz [] [O 1 27 _,O 2 27 _] λ a w U=>?_)
 refine a4<|qh<|an ?_ (ax G U (zm 1 G) ar)
 exact ((bc (.cons zaA (.cons zaA .nil))).trans (eX (qu (λ z=>cat [RIA (riOf (-x.num)),RIA (riOf z)]) (xz _)))).va
theorem copy_r {c:Nat}{x:Rat}(hc:c≤549755813888):Cn Try.prog 19 [Qs c x] ((RFA (rfOf x)).va):=by
 refine Cn.intro Try.func19 G zk nq (λ B w0 a U=>?_)
 have U:=zn [(0,Qs c x)] [] U
 refine qb<|zg [] [⟨1,27,ptrH,some 0,_,none⟩,⟨2,27,ptrH,some 1,_,none⟩] [.alc 0,.alc 1] [] U (zW 0 G (zY G (Str.zero aI) o0)) (zz [] [O 1 27 _,O 2 27 _] λ a w U=>?_)
 refine zt<|zg [η,η] [⟨3,25,ptrH,some 1,_,some (2,_)⟩] [.v 4 _,.alc 2,.sto 2] [] U (zQ G (of_z zd zd) (.cons a5 .nil) (zY G (Str.zero bS) (zS 0 G am o0))) (zz [] [O 1 27 _,O 2 27 _,O 3 25 _] λ a w U=>?_)
 refine zt<|zgd [[],[0],[],[0,1,2],[],[4],[],[0,1,2,3,4,5,6],[0,1,2,3,4,5,6,7],[0,1,2,3,4,5,6,7,8]] [none,some (9,_),none] [] [.adr 5 1 (.some 0) True,.v 6 _,.v 7 _,.v 8 _,.adr 9 1 (.some 2) True,.v 10 _,.v 11 _,.v 12 _,.v 13 _,.sto 1] [] a8 U (zO 0 G bg (zL 0 0 0 G am (zl 2 G am (zQ G (plus_z zo zo) (.p (vq 1 G) (vq 2 G)) (zO 0 G aP (zL 4 0 1 G am (zl 2 G am (zQ G (plus_z zo zo) (.p (vq 5 G) (vq 6 G)) (zv G (aO (qs:=[(0,_),(1,_)]) aI (.cons ⟨rfl,vq 3 rfl,rfl⟩ (.cons ⟨rfl,vq 7 rfl,rfl⟩ .nil))) (zS 8 G ar o0)))))))))) zk zk zk zk (zz [] [O 1 27 _,O 2 27 _,O 3 25 _] λ a w U=>?_)
 refine a4<|qh<|an ?_ (ax G U (zm 1 G) ar)
 exact ((bc (.cons zaA (.cons zaA .nil))).trans (eX (copy_e x))).va
theorem cmp_q {c d:Nat}{x y:Rat}(hc:c+d≤549755813888):Cn Try.prog 23 [Qs c x,Qs d y] (In (cmQ x y)):=by
 refine Cn.intro Try.func23 G zk nq (λ B w0 a U=>?_)
 have U:=zn [(0,Qs c x),(1,Qs d y)] [] U
 refine qb<|zg [] [⟨2,27,ptrH,some 0,_,none⟩,⟨3,27,ptrH,some 1,_,none⟩] [.alc 0,.alc 1,.v 4 _] [.o 2] U (zW 0 G (zW 1 G (zv G (a6 a5) o0))) (zz [(4,_)] [O 2 27 _,O 3 27 _] λ a w U=>?_)
 refine zt<|zgd [[],[0],[],[2],[0,1,2,3],[],[5],[],[7],[0,1,2,3,4,5,6,7,8],[0,1,2,3,4,5,6,7,8,9],[0,1,2,3,4,5,6,7,8,9,10]] [none,none] [] [.adr 5 2 (.some 0) True,.v 6 _,.adr 7 3 (.some 2) True,.v 8 _,.v 9 _,.adr 10 3 (.some 0) True,.v 11 _,.adr 12 2 (.some 2) True,.v 13 _,.v 14 _,.v 15 _,.v 4 _] [.o 11] a8 U (zO 0 G bg (zL 0 0 0 G am (zO 1 G aP (zL 2 1 1 G am (zQ G (ce zo zo) (.p (vq 1 G) (vq 3 G)) (zO 1 G bg (zL 5 1 0 G am (zO 0 G aP (zL 7 0 1 G am (zQ G (ce zo zo) (.p (vq 6 G) (vq 8 G)) (zQ G (cmp_z zo zo) (.p (vq 4 G) (vq 9 G)) (zA 10 G o0)))))))))))) zk zk zk zk (zz [(4,_)] [O 2 27 _,O 3 27 _] λ a w U=>?_)
 refine a4<|qh<|an ?_ (ae G U (zm 0 G))
 exact cd (qu In (cm_sg x y))
theorem sign_q {c:Nat}{x:Rat}:Cn Try.prog 27 [Qs c x] (In x.num.sign):=by
 refine Cn.intro Try.func27 G zk nq (λ B w0 a U=>?_)
 have U:=zn [(0,Qs c x)] [] U
 refine qb<|zg [] [⟨1,27,ptrH,some 0,_,none⟩] [.alc 0,.v 2 _] [.o 1] U (zW 0 G (zv G (a6 a5) o0)) (zz [(2,_)] [O 1 27 _] λ a w U=>?_)
 refine zt<|zg [η] [] [.adr 3 1 (.some 0) True,.v 4 _,.v 5 _,.v 2 _] [.o 3] U (zO 0 G bg (zL 0 0 0 G am (zQ G sign_z (.o (vq 1 G)) (zA 2 G o0)))) (zz [(2,_)] [O 1 27 _] λ a w U=>?_)
 refine a4<|qh<|an ?_ (ae G U (zm 0 G))
 exact aC
theorem ex_qturned : ∃ fn, Try.prog.funcs[35]? = some fn ∧ (fn.name == "runtime.NumGoroutine") = false ∧ fn.body.isNone = false := ⟨_, Try.func35, by kernel_rfl, by kernel_rfl⟩
theorem ex_qcopy : ∃ fn, Try.prog.funcs[19]? = some fn ∧ (fn.name == "runtime.NumGoroutine") = false ∧ fn.body.isNone = false := ⟨_, Try.func19, by kernel_rfl, by kernel_rfl⟩
theorem qs_le {k B:Nat}{r:Rat}(h:(Qs k r).p B v w):lz r.num≤k∧lz (r.den:Int)≤k:=by
 obtain ⟨cs,⟨ps,_,hp⟩,_⟩:=h
 cases hp with
 | cons h1 hp=>cases hp with | cons h2 _=>exact ⟨h1.1,h2.1⟩
theorem eK {c:Nat}{x:Rat}(hc:c≤549755813888):Cn Try.prog 35 [Qs c x] (Qs c (-x)) :=
 Cn.know (c:=lz x.num≤c∧lz (x.den:Int)≤c) ex_qturned (λ B w args ha=>by cases ha with | cons h1 _=>exact qs_le h1) λ h=>(turned_r hc).wkp (qa_of (by rw [Rat.neg_num,fR]; exact h.1) (by rw [Rat.neg_den]; exact h.2)).va
theorem copy_q {c:Nat}{x:Rat}(hc:c≤549755813888):Cn Try.prog 19 [Qs c x] (Qs c x) :=
 Cn.know (c:=lz x.num≤c∧lz (x.den:Int)≤c) ex_qcopy (λ B w args ha=>by cases ha with | cons h1 _=>exact qs_le h1) λ h=>(copy_r hc).wkp (qa_of h.1 h.2).va
theorem upA_mg (l:List Nat):UpA (MgA l) (MgA l):=⟨rfl,rfl,λ B cs w hB hp=>by
 obtain ⟨ok,h0,A,c,ds,rfl,h1,h2,h3,h4⟩:=hp
 refine ⟨ok,h0,A,c,ds,rfl,h1,h2,?_,λ hn=>?_⟩
 ·exact cat_nums.2 (cat_nums.1 h3)
 ·obtain ⟨b,o,e1,e2,e3,e4⟩:=h4 hn
  exact ⟨b,o,e1,e2,.inl e2,e4⟩⟩
theorem upA_and {A:As}{c:Prop}(h:UpA A A):UpA (A.and c) (A.and c):=⟨rfl,rfl,λ B cs w hB hp=>⟨hp.1,h.2.2 B cs w hB hp.2⟩⟩
theorem upA_ri (x:RI):UpA (RIA x) (RIA x):=dB (.cons (up_bo _) (.cons (upA_mg _) .nil))
theorem eD (x:RF):UpA (RFA x) (RFA x):=dB (.cons (upA_ri _) (.cons (upA_ri _) .nil))
theorem upA_za {k:Nat}{z:Int}:UpA (ZA k z) (ZA k z):=upA_and (upA_ri _)
theorem upA_qa {k:Nat}{r:Rat}:UpA (QA k r) (QA k r):=dB (.cons upA_za (.cons upA_za .nil))
theorem all_upA {l:List As}(h:∀ A∈l,UpA A A):All2 UpA l l:=by
 induction l with
 | nil=>exact .nil
 | cons A l ih=>exact .cons (h A (by simp)) (ih λ A' hA=>h A' (by simp [hA]))
theorem gZ {E:TypeId}{l:List As}(h:∀ A∈l,UpA A A):UpA (SlA E D l) (SlO E D l True):=⟨rfl,rfl,λ B cs w hB hp=>by
 obtain ⟨hD,A,c,ds,rfl,h1,h2,h3,h4⟩:=hp
 refine ⟨trivial,hD,A,c,ds,rfl,h1,h2,(dB (all_upA h)).2.2 B ds w hB h3,λ hn=>?_⟩
 obtain ⟨b,o,e1,e2,e3,e4⟩:=h4 hn
 exact ⟨b,o,e1,e2,e2,e4⟩⟩
theorem slO_len {E:TypeId}{l:List As}{p:Prop}(h:(SlO E D l p).va.p B v w):l.length≤9223372036854775807:=by
 obtain ⟨cs,⟨_,_,A,c,ds,_,h1,h2,_⟩,_⟩:=h
 unfold maxLen at h2
 omega
def longQ (q:Rat):Bool:=[riOf q.num].any bigI || [riOf (q.den:Int)].any bigI
theorem longQ_false {q:Rat}:longQ q=false↔lz q.num≤2048∧lz (q.den:Int)≤2048:=by
 simp [longQ,bigI,cX]
 omega
def IsQ (A:As)(q:Rat):Prop:=∃ k,A=QA k q
theorem sl_wk {E:TypeId}{l l':List As}(h:All2 WkA l l')(hD:∀ A∈l',∀ T∈A.deps,T∈D):WkA (SlA E D l) (SlA E D l'):=⟨rfl,rfl,λ B cs w ⟨_,A,c,ds,e,h1,h2,h3,h4⟩=>by
 have hl:=h.length
 exact ⟨hD,A,c,ds,by rw [← hl]; exact e,by rw [← hl]; exact h1,h2,(bc h).2.2 B ds w h3,λ hn=>h4 (by rw [hl]; exact hn)⟩⟩
theorem isq_at {L:List As}{qs:List Rat}(h:All2 IsQ L qs){j:Nat}(hj:j<qs.length):∃ k,L[j]?=some (QA k qs[j]):=by
 have hl:=h.length
 obtain ⟨q,h1,k,h2⟩:=h.get (List.getElem?_eq_getElem (show j<L.length by omega))
 rw [List.getElem?_eq_getElem hj] at h1
 injection h1 with h1
 exact ⟨k,by rw [List.getElem?_eq_getElem zo,h2,h1]⟩
theorem isq_up {L:List As}{qs:List Rat}(h:All2 IsQ L qs):∀ A∈L,UpA A A:=λ A hA=>by
 obtain ⟨j,hj⟩:=List.getElem?_of_mem hA
 obtain ⟨q,_,k,rfl⟩:=h.get hj
 exact upA_qa
theorem isq_n {L:List As}{qs:List Rat}(h:All2 IsQ L qs):∀ A∈L,A.n=4:=λ A hA=>by
 obtain ⟨j,hj⟩:=List.getElem?_of_mem hA
 obtain ⟨q,_,k,rfl⟩:=h.get hj
 rfl
theorem lq_some {l:List Rat}{j:Nat}(h:j<l.length)(h2:longQ l[j]=true):true=l.any longQ:=(jb.2 ⟨_,qg h,h2⟩).symm
theorem lq_no {l:List Rat}{j:Nat}(h:j<l.length)(h1:(l.take j).any longQ=false)(h2:longQ l[j]=false):(l.take (j+1)).any longQ=false:=by
 rw [qp h,kh,h1]
 simp [h2]
theorem long_q {L:List As}(qs:List Rat)(hL:All2 IsQ L qs)(hl:qs.length≤1099511627776):Cn Try.prog 41 [(SlA 27 [U32] L).va] (Bo (qs.any longQ)):=by
 have hLl:=hL.length
 refine Cn.introW Try.func41 G zk nq (.cons (gZ (isq_up hL)).va .nil) (ft _).va (λ B w0 a hB0 U=>?_)
 have U:=zn [(0,(SlO 27 [U32] L True).va)] [] U
 refine qb<|zh [.v 2 _] [.g 0,.o 0] U (zv G (a6 aE) o0) (zz [(0,_),(2,_)] [] λ a w U=>?_)
 refine zt<|qb<|zh [.v 5 _,.v 6 _,.v 7 _] [.g 1,.o 0,.o 1,.o 2] U (zM 0 G (zv G (bH Try.underlying33 (bj (ap (vq 0 G)))) (zv G (a7 a5) o0))) (zz [(2,_),(5,_),(6,_),(7,_)] [] λ a w U=>?_)
 refine a4<|qt ?_
 have U:=St.sel U [1,2,3]
 refine wp_loop_ghost (λ n a w=>∃ j:Nat,(n+j=qs.length∧(qs.take j).any longQ=false)∧St B w0 22 [(5,(SlO 27 [U32] L True).va),(6,In (qs.length:Nat)),(7,In (j:Nat))] [] a w) (qs.length) ?_ ?_
 ·exact ⟨0,⟨by omega,rfl⟩,by rw [hLl] at U; exact U⟩
 intro n a w hI
 obtain ⟨j,⟨hn,hno⟩,U⟩:=hI
 refine qb<|zh [.v 8 _] [.g 0,.g 1,.g 2,.o 0] U (zv G (aY (gq 2 G) (gq 1 G)) o0) (zz [(5,_),(6,_),(7,_),(8,_)] [] λ a w U=>?_)
 refine zt<|aa U (zm 3 G) (λ hb0=>?_) (λ hb0=>?_)
 ·have hj:j<qs.length:=by simp at hb0; omega
  obtain ⟨kj,hLj⟩:=isq_at hL hj
  refine qk<|zt<|qt<|qb<|zg [] [⟨4,27,ptrH,some 2,_,some (3,_)⟩] [.v 9 _,.v 10 _,.alc 0,.sto 0] [.g 0,.g 1,.g 2] U (zv G (cy dF (isq_n hL) (bj (ap (gq 0 G))) (gq 2 G) hLj) (zv G (al (vq 0 G) ar) (zY G (Str.zero aI) (zS 1 G ar o0)))) (zz [(5,_),(6,_),(7,_)] [O 4 27 _] λ a w U=>?_)
  refine zt<|zg [η] [] [.adr 11 4 (.some 0) True,.v 12 _,.v 13 _,.v 14 _,.v 15 _,.adr 16 4 (.some 2) (_=false),.f 17 _,.f 18 _,.f 19 _,.v 20 _] [.g 0,.g 1,.g 2,.o 9] U (zO 0 G bg (zL 0 0 0 G am (zv G (aV (D:=[U32]) (l:=[_]) (xs:=[.tmp 12]) (bN zk) sl_113 zk (n_ok zk) nq nq nq (.o (vq 1 G)) G G) (zQ G ((longI_c [riOf (qs[j]).num] nq).wk (.cons (sl_wk (.cons zaA .nil) (bN zk)).va .nil)) (.o (vq 2 G)) (zv G (a7 (vq 3 G)) (zC 4 0 G aP (zB 4 G (λ hg=>aD 5 G zk hg (lz0 0 G) (Sub.part 1 G G) am) (zB 4 G (λ hg=>aV (D:=[U32]) (l:=[_]) (xs:=[.tmp 17]) (bN zk) sl_113 zk (n_ok zk) nq nq nq (.o (a9 (vq 6 G) hg)) G G) (zB 4 G (λ hg=>aW ((longI_c [riOf ((qs[j]).den:Int)] nq).wk (.cons (sl_wk (.cons zaA .nil) (bN zk)).va .nil)) (.o (a9 (vq 7 G) hg))) (zv G (r_or (vq 4 G) (vq 8 G)) o0)))))))))) (zz [(5,_),(6,_),(7,_),(20,_)] [O 4 27 _] λ a w U=>?_)
  refine a4<|aa U (zm 3 G) (λ hb1=>?_) (λ hb1=>?_)
  ·refine qb<|zg [η] [] [.v 2 _] [.g 0,.g 1,.g 2,.o 0] U (zv G (a6 aE) o0) (zz [(5,_),(6,_),(7,_),(2,_)] [O 4 27 _] λ a w U=>?_)
   refine a4<|qh<|aA ?_
   refine ac ?_
   refine ac ?_
   refine aA ?_
   refine ac ?_
   refine ao ?_ (ae G U (zm 3 G))
   rw [← lq_some hj hb1]
  ·refine qk<|ai ?_
   refine a4<|zg [η] [] [.v 21 _,.v 7 _] [.g 0,.g 1,.o 1] U (zv G (aU (gq 2 G) a5 (bo zo)) (zv G (a7 (vq 0 G)) o0)) (zz [(5,_),(6,_),(7,_)] [O 4 27 _] λ a w U=>?_)
   refine a4 ?_
   have U:=St.sel U [0,1,2]
   have U:=St.selL U []
   exact ⟨n-1,by omega,j+1,⟨by omega,lq_no hj hno hb1⟩,U⟩
 ·obtain rfl:j=qs.length:=by simp at hb0; omega
  refine zf<|aj<|aj<|az<|zt<|zh [.v 2 _] [.o 0] U (zv G (a6 aE) o0) (zz [(2,_)] [] λ a w U=>?_)
  refine a4<|qh<|ao ?_ (ae G U (zm 0 G))
  rw [qN] at hno; rw [hno]
theorem gO {L:List As}(qs:List Rat)(hL:All2 IsQ L qs)(hl:qs.length≤1099511627776):Cn Try.prog 18 [(SlA 27 [U32] L).va] (In (if qs.any longQ then 4 else 0)):=by
 refine Cn.intro Try.func18 G zk nq (λ B w0 a U=>?_)
 have U:=zn [(0,(SlA 27 [U32] L).va)] [] U
 refine qb<|zh [.v 2 _] [.g 0,.o 0] U (zv G (a6 a5) o0) (zz [(0,_),(2,_)] [] λ a w U=>?_)
 refine zt<|qb<|zh [.v 3 _,.v 4 _] [.g 1,.o 1] U (zM 0 G (zQ G (long_q qs hL hl) (.o (vq 0 G)) o0)) (zz [(2,_),(4,_)] [] λ a w U=>?_)
 refine a4<|aa U (zm 1 G) (λ hb0=>?_) (λ hb0=>?_)
 ·refine qb<|zh [.v 2 _] [.o 0] U (zv G (a6 a5) o0) (zz [(2,_)] [] λ a w U=>?_)
  refine a4<|qh<|ac ?_
  refine ao ?_ (ae G U (zm 0 G))
  rw [hb0]; rfl
 ·refine qk<|zt<|zh [.v 2 _] [.o 0] U (zv G (a6 a5) o0) (zz [(2,_)] [] λ a w U=>?_)
  refine a4<|qh<|ao ?_ (ae G U (zm 0 G))
  rw [hb0]; rfl
def okF (x:RF):Bool:=okRI x.num&&okRI x.den&&decide (0<sgI x.den)&&decide (Nat.gcd (val x.num.mag) (val x.den.mag)=1)
theorem okRI_z {x:RI}(ok:okL x.mag)(h:okRI x=true):∃ z,x=riOf z∧lz z≤2048:=by
 obtain ⟨neg,l⟩:=x
 simp only [okRI,qq,qJ,jA,qn,beq_eq_false_iff_ne,ne_eq] at h ok
 obtain ⟨⟨h1,h2⟩,h3⟩:=h
 have hc:Canon l:=by
  refine ⟨ok,λ e=>?_⟩
  rcases List.eq_nil_or_concat l with rfl | ⟨m,y,rfl⟩
  ·simp at e
  ·simp at e
   subst e
   rcases h2 with h2 | h2
   ·simp at h2
   ·exact h2 (by simp)
 have e:limbs (val l)=l:=ij hc
 cases neg with
 | false=>exact ⟨(val l:Nat),by simp [riOf,e],by show (limbs _).length≤2048; rw [jR,e]; omega⟩
 | true =>
  have hl:l≠[]:=λ e=>by subst e; simp at h3
  have hv:0<val l:=hc.val_pos hl
  exact ⟨-(val l:Nat),by simp [riOf,e]; omega,by show (limbs _).length≤2048; rw [Int.natAbs_neg,jR,e]; omega⟩
theorem okRI_ri {z:Int}:okRI (riOf z)=decide (lz z≤2048):=by
 unfold okRI
 by_cases h0:z=0
 ·subst h0; simp [riOf,bb,lz]
 ·have h1:=fo h0
  have h2:=(bu z.natAbs).2
  have e:(riOf z).mag=limbs z.natAbs:=rfl
  have e2:(limbs z.natAbs).length=lz z:=rfl
  have h3:(limbs z.natAbs).getD (lz z-1) 0≠0:=λ hh=>by
   apply h2
   rw [List.getLast?_eq_getElem?,e2,List.getElem?_eq_getElem zo]
   rw [List.getD_eq_getElem?_getD,List.getElem?_eq_getElem zo] at hh
   simpa using hh
  rw [e,e2]
  by_cases h4:lz z≤2048
  ·have h5:¬ ((lz z:Int)>2048):=by omega
   have h6:¬ ((lz z:Int)=0):=by omega
   have h7:¬ (((limbs z.natAbs).getD (lz z-1) 0:Nat):Int)=((0:Nat):Int):=by omega
   simp only [h4,h5,decide_true,decide_false,beq_eq_false_iff_ne.2 h7,beq_eq_false_iff_ne.2 h6,Bool.and_false,Bool.false_and,Bool.or_self,xS]
  ·have h5:((lz z:Int)>2048):=by omega
   simp only [h4,h5,decide_true,decide_false,Bool.true_or,Bool.not_true]
theorem okF_q {x:RF}(ok:okL x.num.mag∧okL x.den.mag)(h:okF x=true):∃ r:Rat,x=rfOf r∧lz r.num≤2048∧lz (r.den:Int)≤2048:=by
 obtain ⟨xn,xd⟩:=x
 simp only [okF,qi,qQ] at h ok
 obtain ⟨⟨⟨h1,h2⟩,h3⟩,h4⟩:=h
 obtain ⟨p,rfl,hp⟩:=okRI_z ok.1 h1
 obtain ⟨q,rfl,hq⟩:=okRI_z ok.2 h2
 rw [sgI_ri] at h3
 have hq0:0<q:=Int.sign_pos_iff.1 h3
 rw [bk,bk] at h4
 refine ⟨⟨p,q.natAbs,by omega,h4⟩,?_,hp,?_⟩
 ·show RF.mk _ _=RF.mk (riOf p) (riOf (q.natAbs:Nat))
  rw [show ((q.natAbs:Nat):Int)=q by omega]
 ·show lz ((q.natAbs:Nat):Int)≤2048
  rw [show ((q.natAbs:Nat):Int)=q by omega]
  exact hq
theorem ok1 {b:Bool}(h:(((if b then (0:Int) else 1) != 0))=false):b=true:=by cases b <;> simp at h ⊢
theorem chk_no {x:RF}(h:((((if okRI x.num then (0:Int) else 1) != 0) || ((if okRI x.den then (0:Int) else 1) != 0)) || decide (sgI x.den≤0))=true):(1:Int)=if okF x then 0 else 1:=by
 have:okF x=false:=by
  unfold okF
  cases h1:okRI x.num <;> cases h2:okRI x.den <;> simp [h1,h2] at h ⊢
  omega
 rw [this]; rfl
theorem sg_one {p q:Int}(h:(sg3 ((Int.gcd p q:Nat):Int) 1 != 0)=true):Int.gcd p q≠1:=λ e=>by rw [e] at h; simp [sg3] at h
theorem rf_know {x:RF}(h:(RFA x).va.p B v w):okL x.num.mag∧okL x.den.mag:=by
 obtain ⟨cs,⟨ps,_,hp⟩,_⟩:=h
 cases hp with
 | cons h1 hp=>cases hp with | cons h2 _=>exact ⟨(gi ⟨_,h1,rfl⟩).1,(gi ⟨_,h2,rfl⟩).1⟩
theorem cmp_i {p q:Int}(hp:lz p≤1099511627776)(hq:lz q≤1099511627776):Cn Try.prog 46 [Zi p,Zi q] (In (sg3 p q)):=(cmpI_c (riOf p) (riOf q) (by rw [cX]; omega) (by rw [cX]; omega)).post (by rw [cmp_ri])
theorem lz_one:lz 1≤1099511627776:=qe (lz_le (k:=1) zd) zd
theorem checkF_c (xn xd:RI):Cn Try.prog 26 [(RFA ⟨xn,xd⟩).va] (In (if okF ⟨xn,xd⟩ then 0 else 1)):=by
 refine Cn.intro Try.func26 G zk nq (λ B w0 a U=>?_)
 have U:=zn [(0,(RFA ⟨xn,xd⟩).va)] [] U
 have hok:=rf_know (U.vals (0,(RFA ⟨xn,xd⟩).va) (zm 0 rfl))
 refine qb<|zg [] [⟨1,27,ptrH,some 0,_,none⟩] [.alc 0,.v 2 _] [.o 1] U (zW 0 G (zv G (a6 a5) o0)) (zz [(2,_)] [O 1 27 _] λ a w U=>?_)
 refine zt<|qb<|zg [η] [] [.adr 3 1 (.some 0) True,.v 4 _,.v 5 _,.v 6 _,.v 7 _,.adr 8 1 (.some 2) (_=false),.f 9 _,.f 10 _,.f 11 _,.v 12 _,.v 13 _,.adr 14 1 (.some 2) (_=false),.f 15 _,.f 16 _,.f 17 _,.v 18 _] [.g 0,.o 15] U (zO 0 G bg (zL 0 0 0 G am (zQ G (iZ _) (.o (vq 1 G)) (zv G (bM (vq 2 G) a5) (zv G (a7 (vq 3 G)) (zC 4 0 G aP (zB 4 G (λ hg=>aD 5 G zk hg (lz0 0 G) (Sub.part 1 G G) am) (zB 4 G (λ hg=>aW (iZ _) (.o (a9 (vq 6 G) hg))) (zB 4 G (λ hg=>bM (a9 (vq 7 G) hg) a5) (zv G (r_or (vq 4 G) (vq 8 G)) (zv G (a7 (vq 9 G)) (zC 10 0 G aP (zB 10 G (λ hg=>aD 11 G zk hg (lz0 0 G) (Sub.part 1 G G) am) (zB 10 G (λ hg=>aW (sign_c _) (.o (a9 (vq 12 G) hg))) (zB 10 G (λ hg=>r_leq (a9 (vq 13 G) hg) a5) (zv G (r_or (vq 10 G) (vq 14 G)) o0)))))))))))))))) (zz [(2,_),(18,_)] [O 1 27 _] λ a w U=>?_)
 refine a4<|aa U (zm 1 G) (λ hb0=>?_) (λ hb0=>?_)
 ·refine qb<|zg [η] [] [.v 2 _] [.o 0] U (zv G (a6 a5) o0) (zz [(2,_)] [O 1 27 _] λ a w U=>?_)
  refine a4<|qh<|ac ?_
  refine ao ?_ (ae G U (zm 0 G))
  exact qu In (chk_no hb0)
 ·rw [qJ,qJ] at hb0
  obtain ⟨p,rfl,hp⟩:=okRI_z hok.1 (ok1 hb0.1.1)
  obtain ⟨q,rfl,hq⟩:=okRI_z hok.2 (ok1 hb0.1.2)
  have hq0:0<sgI (riOf q):=by have h2:¬ sgI (riOf q)≤0:=qx hb0.2; omega
  have hpq:=lz_gcd p q
  refine qk<|zt<|qb<|zg [η] [] [.adr 19 1 (.some 0) True,.v 20 _,.adr 21 1 (.some 2) True,.v 22 _,.v 23 _,.v 24 _,.v 25 _,.v 26 _] [.g 0,.o 7] U (zO 0 G bg (zL 0 0 0 G am (zO 0 G aP (zL 2 0 1 G am (zQ G ((common_c p q zo zo).wkp eW) (.p (vq 1 G) (vq 3 G)) (zQ G (of_c 1 zd zd) (.cons a5 .nil) (zQ G (cmp_i zo lz_one) (.p (vq 4 G) (vq 5 G)) (zv G (bM (vq 6 G) a5) o0)))))))) (zz [(2,_),(26,_)] [O 1 27 _] λ a w U=>?_)
  refine a4<|aa U (zm 1 G) (λ hb1=>?_) (λ hb1=>?_)
  ·refine qb<|zg [η] [] [.v 2 _] [.o 0] U (zv G (a6 a5) o0) (zz [(2,_)] [O 1 27 _] λ a w U=>?_)
   refine a4<|qh<|ac ?_
   refine ao ?_ (ae G U (zm 0 G))
   have e1:=sg_one hb1; exact qu In (by rw [show okF ⟨riOf p,riOf q⟩=false from by unfold okF; rw [bk,bk]; simp [show ¬ Nat.gcd p.natAbs q.natAbs=1 from e1]]; rfl)
  ·refine qk<|zt<|zg [η] [] [.v 2 _] [.o 0] U (zv G (a6 a5) o0) (zz [(2,_)] [O 1 27 _] λ a w U=>?_)
   refine a4<|qh<|ao ?_ (ae G U (zm 0 G))
   have e1:=gcd_one hb1; exact qu In (by rw [show okF ⟨riOf p,riOf q⟩=true from by unfold okF; rw [bk,bk,ok1 hb0.1.1,ok1 hb0.1.2]; simp [hq0,show Nat.gcd p.natAbs q.natAbs=1 from e1]]; rfl)
def okLb (l:List Nat):Bool:=l.all λ x=>decide (x<4294967296)
theorem okLb_iff {l:List Nat}:okLb l=true↔okL l:=by simp [okLb,okL]
def okX (x:RF):Bool:=okLb x.num.mag&&okLb x.den.mag&&okF x
def zI (x:RI):Int:=if x.neg then -(val x.mag:Nat) else (val x.mag:Nat)
def toQ (x:RF):Rat:=Rat.divInt (zI x.num) (zI x.den)
theorem zI_ri (z:Int):zI (riOf z)=z:=by
 unfold zI
 rw [bk]
 by_cases h:z<0 <;> simp [riOf,h] <;> omega
theorem toQ_of (r:Rat):toQ (rfOf r)=r:=by
 show Rat.divInt (zI (riOf r.num)) (zI (riOf (r.den:Int)))=r
 rw [zI_ri,zI_ri]
 exact xW r
theorem okX_know {x:RF}(h:okL x.num.mag∧okL x.den.mag):okX x=okF x:=by rw [okX,okLb_iff.2 h.1,okLb_iff.2 h.2]; rfl
theorem okX_q {x:RF}(h:okX x=true):x=rfOf (toQ x)∧lz (toQ x).num≤2048∧lz ((toQ x).den:Int)≤2048:=by
 simp only [okX,qi] at h
 obtain ⟨r,rfl,h1⟩:=okF_q ⟨okLb_iff.1 h.1.1,okLb_iff.1 h.1.2⟩ h.2
 rw [toQ_of]
 exact ⟨rfl,h1⟩
abbrev rf0:RF:=⟨⟨false,[]⟩,⟨false,[]⟩⟩
theorem ex_check : ∃ fn, Try.prog.funcs[26]? = some fn ∧ (fn.name == "runtime.NumGoroutine") = false ∧ fn.body.isNone = false := ⟨_, Try.func26, by kernel_rfl, by kernel_rfl⟩
theorem iY (x:RF):Cn Try.prog 26 [(RFA x).va] (In (if okX x then 0 else 1)) :=
 Cn.know (c:=okL x.num.mag∧okL x.den.mag) ex_check (λ B w args ha=>by cases ha with | cons h1 _=>exact rf_know h1) λ h=>(checkF_c x.num x.den).post (by rw [okX_know h])
theorem ok_no {l:List RF}{j:Nat}(h:j<l.length)(h2:((if okX l[j] then (0:Int) else 1) != 0)=true):false=l.all okX:=by
 have h3:okX l[j]=false:=by cases hh:okX l[j] <;> simp [hh] at h2 ⊢
 exact (jZ.2 ⟨_,qg h,by simp [h3]⟩).symm
theorem ok_yes {l:List RF}{j:Nat}(h:j<l.length)(h1:(l.take j).all okX=true)(h2:((if okX l[j] then (0:Int) else 1) != 0)=false):(l.take (j+1)).all okX=true:=by
 rw [qp h,ki,h1]
 simp [ok1 h2]
theorem checks_c (xs:List RF)(hl:xs.length≤1099511627776):Cn Try.prog 68 [(SlA 27 [U32] (xs.map RFA)).va] (Bo (xs.all okX)):=by
 refine Cn.introW Try.func68 rfl zk nq (.cons (gZ (λ A hA=>by obtain ⟨x,_,rfl⟩:=qo.1 hA; exact eD x)).va .nil) (ft _).va (λ B w0 a hB0 U=>?_)
 have U:=zn [(0,(SlO 27 [U32] (xs.map RFA) True).va)] [] U
 refine qb<|zh [.v 2 _] [.g 0,.o 0] U (zv G (a6 aE) o0) (zz [(0,_),(2,_)] [] λ a w U=>?_)
 refine zt<|qb<|zh [.v 5 _,.v 6 _,.v 7 _] [.g 1,.o 0,.o 1,.o 2] U (zM 0 G (zv G (bH Try.underlying33 (bj (ap (vq 0 G)))) (zv G (a7 a5) o0))) (zz [(2,_),(5,_),(6,_),(7,_)] [] λ a w U=>?_)
 refine a4<|qt ?_
 have U:=St.sel U [1,2,3]
 refine wp_loop_ghost (λ n a w=>∃ j:Nat,(n+j=xs.length∧(xs.take j).all okX=true)∧St B w0 15 [(5,(SlO 27 [U32] (xs.map RFA) True).va),(6,In (xs.length:Nat)),(7,In (j:Nat))] [] a w) (xs.length) ?_ ?_
 ·exact ⟨0,⟨by omega,rfl⟩,by rw [qd] at U; exact U⟩
 intro n a w hI
 obtain ⟨j,⟨hn,hno⟩,U⟩:=hI
 refine qb<|zh [.v 8 _] [.g 0,.g 1,.g 2,.o 0] U (zv G (aY (gq 2 G) (gq 1 G)) o0) (zz [(5,_),(6,_),(7,_),(8,_)] [] λ a w U=>?_)
 refine zt<|aa U (zm 3 G) (λ hb0=>?_) (λ hb0=>?_)
 ·have hj:j<xs.length:=by simp at hb0; omega
  refine qk<|zt<|qt<|qb<|zg [] [⟨4,27,ptrH,some 2,_,some (3,_)⟩] [.v 9 _,.v 10 _,.alc 0,.sto 0] [.g 0,.g 1,.g 2] U (zv G (cy dF (cE λ _=>rfl) (bj (ap (gq 0 G))) (gq 2 G) (cb hj)) (zv G (al (vq 0 G) ar) (zY G (Str.zero aI) (zS 1 G ar o0)))) (zz [(5,_),(6,_),(7,_)] [O 4 27 _] λ a w U=>?_)
  refine zt<|zg [η] [] [.v 11 _,.v 12 _,.v 13 _] [.g 0,.g 1,.g 2,.o 2] U (zl 0 G ar (zQ G (iY _) (.o (vq 0 G)) (zv G (bM (vq 1 G) a5) o0))) (zz [(5,_),(6,_),(7,_),(13,_)] [O 4 27 _] λ a w U=>?_)
  refine a4<|aa U (zm 3 G) (λ hb1=>?_) (λ hb1=>?_)
  ·refine qb<|zg [η] [] [.v 2 _] [.g 0,.g 1,.g 2,.o 0] U (zv G (a6 aE) o0) (zz [(5,_),(6,_),(7,_),(2,_)] [O 4 27 _] λ a w U=>?_)
   refine a4<|qh<|aA ?_
   refine ac ?_
   refine ac ?_
   refine aA ?_
   refine ac ?_
   refine ao ?_ (ae G U (zm 3 G))
   rw [← ok_no hj hb1]
  ·refine qk<|ai ?_
   refine a4<|zg [η] [] [.v 14 _,.v 7 _] [.g 0,.g 1,.o 1] U (zv G (aU (gq 2 G) a5 (bo zo)) (zv G (a7 (vq 0 G)) o0)) (zz [(5,_),(6,_),(7,_)] [O 4 27 _] λ a w U=>?_)
   refine a4 ?_
   have U:=St.sel U [0,1,2]
   have U:=St.selL U []
   exact ⟨n-1,by omega,j+1,⟨by omega,ok_yes hj hno hb1⟩,U⟩
 ·obtain rfl:j=xs.length:=by simp at hb0; omega
  refine zf<|aj<|aj<|az<|zt<|zh [.v 2 _] [.o 0] U (zv G (a6 aE) o0) (zz [(2,_)] [] λ a w U=>?_)
  refine a4<|qh<|ao ?_ (ae G U (zm 0 G))
  rw [qN] at hno; rw [hno]
def ansF (q:Rat):RF × Int:=if longQ q then (rf0,4) else (rfOf q,0)
abbrev FrR (r:RF × Int):VA:=Tu [(RFA r.1).va,In r.2]
theorem rq_wk {k:Nat}{r:Rat}:Wk (Qs k r) (RFA (rfOf r)).va:=qaA.va
theorem tu2w {a b c d:VA}(h:Wk a c)(h':Wk b d):Wk (Tu [a,b]) (Tu [c,d]):=tu_wk (.cons h (.cons h' .nil))
theorem gr {q:Rat}:[q].any longQ=longQ q:=by simp
theorem ne0 {b:Bool}:((if b then (4:Int) else 0) != 0)=b:=by cases b <;> rfl
theorem has_wk' {R:Rg}{i:Nat}{x:Operand}{A A':VA}(h:Has R B w0 i x A)(hw:Wk A A'):Has R B w0 i x A':=λ a w av=>hw _ _ _ (h a w av)
theorem answered_q {c:Nat}{x:Rat}(hc:c≤549755813888):Cn Try.prog 65 [Qs c x] (FrR (ansF x)):=by
 refine Cn.intro Try.func65 G zk nq (λ B w0 a U=>?_)
 have U:=zn [(0,Qs c x)] [] U
 refine qb<|zg [] [⟨1,27,ptrH,some 0,_,none⟩,⟨2,27,ptrH,some 1,_,none⟩] [.alc 0,.alc 1,.v 3 _] [.o 2] U (zW 0 G (zY G (Str.zero aI) (zv G (a6 a5) o0))) (zz [(3,_)] [O 1 27 _,O 2 27 _] λ a w U=>?_)
 refine zt<|qb<|zg [η,η] [] [.v 5 _,.v 6 _,.v 7 _,.v 4 _] [.g 0,.o 3] U (zl 0 G ar (zv G (aV (D:=[U32]) (l:=[_]) (xs:=[.tmp 5]) (bN zk) dF zk (n_ok zk) nq nq nq (.o (vq 0 G)) G G) (zQ G ((gO [x] (.cons ⟨_,rfl⟩ .nil) nq)) (.o (vq 1 G)) (zA 2 G o0)))) (zz [(3,_),(4,_)] [O 1 27 _,O 2 27 _] λ a w U=>?_)
 refine zt<|zg [η,η] [] [.v 8 _,.v 9 _] [.g 0,.g 1,.o 1] U (zM 1 G (zv G (bM (vq 0 G) a5) o0)) (zz [(3,_),(4,_),(9,_)] [O 1 27 _,O 2 27 _] λ a w U=>?_)
 refine a4<|aa U (zm 2 G) (λ hb0=>?_) (λ hb0=>?_)
 ·rw [gr,ne0] at hb0
  refine qb<|zg [η,some (2,_)] [] [.v 10 _,.v 11 _,.sto 1,.v 3 _] [.o 3] U (zv G (aO (qs:=[]) aI .nil) (zM 1 G (zS 0 G ar (zA 1 G o0)))) (zz [(3,_)] [O 1 27 _,O 2 27 _] λ a w U=>?_)
  refine a4<|qh<|ac ?_
  refine an ?_ (aM (rs:=[.cell 2 27,.tmp 3]) G U (.cell (zm 1 G) ar (.tmp (zm 0 G) .nil)) zd)
  rw [ansF,qy hb0]; exact tu2w aC (cd (by rw [gr,hb0]; rfl))
 ·rw [gr,ne0] at hb0
  refine qk<|zt<|zg [η,some (2,_)] [] [.v 12 _,.v 13 _,.sto 1,.v 3 _] [.o 3] U (zl 0 G ar (zQ G (copy_q zo) (.o (vq 0 G)) (zS 1 G ar (zv G (a6 a5) o0)))) (zz [(3,_)] [O 1 27 _,O 2 27 _] λ a w U=>?_)
  refine a4<|qh<|an ?_ (aM (rs:=[.cell 2 27,.tmp 3]) G U (.cell (zm 1 G) ar (.tmp (zm 0 G) .nil)) zd)
  rw [ansF,qm (by rw [hb0]; decide)]; exact tu2w rq_wk aC
theorem ex_checkI : ∃ fn, Try.prog.funcs[49]? = some fn ∧ (fn.name == "runtime.NumGoroutine") = false ∧ fn.body.isNone = false := ⟨_, Try.func49, by kernel_rfl, by kernel_rfl⟩
theorem check_z {c:Nat}{p:Int}(hc:c≤2048):Cn Try.prog 49 [Zs c p] (In 0):=zs1 ex_checkI λ h=>(iZ (riOf p)).post (by rw [okRI_ri,zw (by omega:lz p≤2048)]; rfl)
theorem lz_i64 {p:Int}(h0 : -9223372036854775808≤p)(h1:p<9223372036854775808):lz p≤2:=lz_le zo
theorem ansF_ok {q:Rat}(h:lz q.num≤2048∧lz (q.den:Int)≤2048):ansF q=(rfOf q,0):=by rw [ansF,longQ_false.2 h]; rfl
theorem ansF_low {p q:Int}(hq:q≠0)(hp:lz p≤2)(h2:lz q≤2):ansF (Rat.divInt p q)=(rfOf (Rat.divInt p q),0):=by
 have:=dJ (p:=p) hq
 exact ansF_ok zo
theorem make_q {p q:Int}(hq:q≠0):Cn Try.prog 48 [Zs 2 p,Zs 2 q] (FrR (ansF (Rat.divInt p q))):=by
 refine Cn.intro Try.func48 G zk nq (λ B w0 a U=>?_)
 have U:=zn [(0,Zs 2 p),(1,Zs 2 q)] [] U
 refine qb<|zg [] [⟨2,25,ptrH,some 0,_,none⟩,⟨3,25,ptrH,some 1,_,none⟩,⟨4,27,ptrH,some 2,_,none⟩] [.alc 0,.alc 1,.alc 2,.v 5 _] [.o 3] U (zW 0 G (zW 1 G (zY G (Str.zero aI) (zv G (a6 a5) o0)))) (zz [(5,_)] [O 2 25 _,O 3 25 _,O 4 27 _] λ a w U=>?_)
 refine zt<|qb<|zg [η,η,η] [] [.v 6 _,.v 7 _,.v 8 _,.v 9 _,.f 10 _,.f 11 _,.f 12 _,.v 13 _] [.g 0,.o 7] U (zl 0 G am (zQ G (check_z zd) (.o (vq 0 G)) (zv G (bM (vq 1 G) a5) (zv G (a7 (vq 2 G)) (zB 3 G (λ hg=>d0 (lz0 1 G) am) (zB 3 G (λ hg=>aW (check_z zd) (.o (a9 (vq 4 G) hg))) (zB 3 G (λ hg=>bM (a9 (vq 5 G) hg) a5) (zv G (r_or (vq 3 G) (vq 6 G)) o0)))))))) (zz [(5,_),(13,_)] [O 2 25 _,O 3 25 _,O 4 27 _] λ a w U=>?_)
 refine a4<|aa U (zm 1 G) (λ hb0=>?_) (λ hb0=>?_)
 ·exact absurd hb0 zd
 ·refine qk<|zt<|qb<|zg [η,η,η] [] [.v 15 _,.v 16 _,.v 17 _] [.g 0,.o 2] U (zl 1 G am (zQ G sign_z (.o (vq 0 G)) (zv G (bd (vq 1 G) a5) o0))) (zz [(5,_),(17,_)] [O 2 25 _,O 3 25 _,O 4 27 _] λ a w U=>?_)
  refine a4<|aa U (zm 1 G) (λ hb1=>?_) (λ hb1=>?_)
  ·exact absurd hb1 (by simpa using hq)
  ·refine qk<|zt<|zg [η,η,some (6,_)] [] [.v 19 _,.v 20 _,.v 21 _,.v 22 _,.v 23 _,.v 24 _,.sto 2,.v 5 _] [.o 7] U (zl 0 G am (zl 1 G am (zQ G (dh zd zd hq) (.p (vq 0 G) (vq 1 G)) (zQ G (answered_q zd) (.o (vq 2 G)) (zv G (dS (vq 3 G)) (zv G (dR (vq 3 G)) (zS 4 G ar (zA 5 G o0)))))))) (zz [(5,_)] [O 2 25 _,O 3 25 _,O 4 27 _] λ a w U=>?_)
   refine a4<|qh<|an ?_ (aM (rs:=[.cell 4 27,.tmp 5]) G U (.cell (zm 2 G) ar (.tmp (zm 0 G) .nil)) zd)
   exact aC
theorem ofQ_c {p q:Int}(hp : -9223372036854775808≤p)(hp1:p<9223372036854775808)(hq0 : -9223372036854775808≤q)(hq1:q<9223372036854775808)(hq:q≠0):Cn Try.prog 24 [In p,In q] (FrR (rfOf (Rat.divInt p q),0)):=by
 refine Cn.intro Try.func24 G zk nq (λ B w0 a U=>?_)
 have U:=zn [(0,In p),(1,In q)] [] U
 refine qb<|zg [] [⟨4,27,ptrH,some 0,_,none⟩] [.alc 0,.v 5 _] [.g 0,.g 1,.o 1] U (zY G (Str.zero aI) (zv G (a6 a5) o0)) (zz [(0,_),(1,_),(5,_)] [O 4 27 _] λ a w U=>?_)
 refine zt<|zg [some (7,_)] [] [.v 6 _,.v 7 _,.v 8 _,.v 9 _,.v 10 _,.v 11 _,.v 12 _,.sto 0,.v 5 _] [.o 8] U (zM 0 G (zQ G (of_z hp hp1) (.o (vq 0 G)) (zM 1 G (zQ G (of_z hq0 hq1) (.o (vq 2 G)) (zQ G (make_q hq) (.p (vq 1 G) (vq 3 G)) (zv G (dS (vq 4 G)) (zv G (dR (vq 4 G)) (zS 5 G ar (zA 6 G o0))))))))) (zz [(5,_)] [O 4 27 _] λ a w U=>?_)
 refine a4<|qh<|an ?_ (aM (rs:=[.cell 4 27,.tmp 5]) G U (.cell (zm 0 G) ar (.tmp (zm 0 G) .nil)) zd)
 rw [← ansF_low hq (lz_i64 hp hp1) (lz_i64 hq0 hq1)]; exact aC
structure RG where
 re:RF
 im:RF
 deriving DecidableEq
structure RM where
 a:RF
 b:RF
 c:RF
 d:RF
 deriving DecidableEq
structure RR where
 y:RF
 u:RF
 deriving DecidableEq
structure GQ where
 re:Rat
 im:Rat
 deriving DecidableEq
structure MQ where
 a:Rat
 b:Rat
 c:Rat
 d:Rat
 deriving DecidableEq
structure YQ where
 y:Rat
 u:Rat
 deriving DecidableEq
theorem qa_x {k:Nat}{x:RF}(h:okX x=true)(hk:2048≤k):WkA (RFA x) (QA k (toQ x)):=by
 obtain ⟨h1,h2,h3⟩:=okX_q h
 exact (eX (qu RFA h1)).trans (qa_of (qe h2 hk) (qe h3 hk))
theorem str_ray:Str Try.prog 82 [RFA rf0,RFA rf0] :=
 Str.of (z:=.agg #[.bool false,.slice none 0 0,.bool false,.slice none 0 0,.bool false,.slice none 0 0,.bool false,.slice none 0 0]) zk Try.underlying82 zk λ B w=>⟨[[.bool false,.slice none 0 0,.bool false,.slice none 0 0],[.bool false,.slice none 0 0,.bool false,.slice none 0 0]],rfl,(.cons (et B w) (.cons (et B w) .nil))⟩
theorem tu3w {a b c d e f:VA}(h:Wk a d)(h':Wk b e)(h'':Wk c f):Wk (Tu [a,b,c]) (Tu [d,e,f]):=tu_wk (.cons h (.cons h' (.cons h'' .nil)))
theorem wi_nx {j m:Nat}(h:j<m)(hm:m≤9223372036854775807):IntKind.i64.wrap ((j:Int)+1)=((j+1:Nat):Int):=by rw [wi64 zo zo]; rfl
theorem slA_len {E:TypeId}{l:List As}(h:(SlA E D l).va.p B v w):l.length≤9223372036854775807:=by
 obtain ⟨cs,⟨_,A,c,ds,_,h1,h2,_⟩,_⟩:=h
 unfold maxLen at h2
 omega
theorem gg {E:TypeId}{α:Type}{f:α→As}{l:List α}(h:(SlA E D (l.map f)).va.p B v w):l.length≤9223372036854775807:=by
 have:=slA_len h
 rwa [qd] at this
theorem same_yes {a b:RI}(hn:a.neg=b.neg)(h:a.mag=b.mag):true=decide (a=b):=by
 cases a; cases b; simp_all
theorem same_no1 {a b:RI}(h:((a.neg != b.neg) || (((a.mag.length:Nat):Int) != ((b.mag.length:Nat):Int)))=true):false=decide (a=b):=by
 symm
 apply zH
 rintro rfl
 simp at h
theorem same_two {a b:RI}(h:((a.neg != b.neg) || (((a.mag.length:Nat):Int) != ((b.mag.length:Nat):Int)))=false):a.neg=b.neg∧a.mag.length=b.mag.length:=by
 simp only [qJ,bne_eq_false_iff_eq] at h
 exact ⟨h.1,by omega⟩
theorem same_no2 {a b:RI}{j:Nat}(h1:j<a.mag.length)(h2:j<b.mag.length)(h:(((a.mag[j]:Nat):Int) != ((b.mag[j]:Nat):Int))=true):false=decide (a=b):=by
 symm
 apply zH
 rintro rfl
 simp at h
theorem take_eq {l m:List Nat}{j:Nat}(h1:j<l.length)(h2:j<m.length)(h:l.take j=m.take j)(h3:(((l[j]:Nat):Int) != ((m[j]:Nat):Int))=false):l.take (j+1)=m.take (j+1):=by
 rw [qp h1,qp h2,h]
 simp only [bne_eq_false_iff_eq] at h3
 rw [show l[j]=m[j] by omega]
theorem rf_eq {a b:RF}:(decide (a.num=b.num)&&decide (a.den=b.den))=decide (a=b):=by
 cases a; cases b; rw [Bool.eq_iff_iff]; simp
theorem i8 (x y:RI):Cn Try.prog 25 [(RIA x).va,(RIA y).va] (Bo (decide (x=y))):=by
 refine Cn.intro Try.func25 G zk nq (λ B w0 a U=>?_)
 have U:=zn [(0,(RIA x).va),(1,(RIA y).va)] [] U
 have hxk:=gi (U.vals (0,(RIA x).va) (zm 0 rfl))
 refine qb<|zg [] [⟨2,25,ptrH,some 0,_,none⟩,⟨3,25,ptrH,some 1,_,none⟩] [.alc 0,.alc 1,.v 4 _] [.o 2] U (zW 0 G (zW 1 G (zv G (a6 aE) o0))) (zz [(4,_)] [O 2 25 _,O 3 25 _] λ a w U=>?_)
 refine zt<|qb<|zg [η,η] [] [.adr 6 2 (.some 0) True,.v 7 _,.adr 8 3 (.some 0) True,.v 9 _,.v 10 _,.v 11 _,.adr 12 2 (.some 1) (_=false),.f 13 _,.f 14 _,.adr 15 3 (.some 1) (_=false),.f 16 _,.f 17 _,.f 18 _,.v 19 _] [.g 0,.o 13] U (zO 0 G aJ (zL 0 0 0 G ty_4 (zO 1 G aJ (zL 2 1 0 G ty_4 (zv G (r_neqb zk (vq 1 G) (vq 3 G)) (zv G (a7 (vq 4 G)) (zC 5 0 G aq (zB 5 G (λ hg=>aD 6 G zk hg (lz0 0 G) (Sub.part 1 G G) bm) (zB 5 G (λ hg=>aG Try.underlying23 (a9 (vq 7 G) hg)) (zC 5 1 G aq (zB 5 G (λ hg=>aD 9 G zk hg (lz0 1 G) (Sub.part 1 G G) bm) (zB 5 G (λ hg=>aG Try.underlying23 (a9 (vq 10 G) hg)) (zB 5 G (λ hg=>bM (a9 (vq 8 G) hg) (a9 (vq 11 G) hg)) (zv G (r_or (vq 5 G) (vq 12 G)) o0)))))))))))))) (zz [(4,_),(19,_)] [O 2 25 _,O 3 25 _] λ a w U=>?_)
 refine a4<|aa U (zm 1 G) (λ hb0=>?_) (λ hb0=>?_)
 ·refine qb<|zg [η,η] [] [.v 4 _] [.o 0] U (zv G (a6 aE) o0) (zz [(4,_)] [O 2 25 _,O 3 25 _] λ a w U=>?_)
  refine a4<|qh<|ac ?_
  refine an ?_ (ae G U (zm 0 G))
  exact cd (qu Bo (same_no1 hb0))
 ·obtain ⟨hn1,hl⟩:=same_two hb0
  refine qk<|zt<|qb<|zg [η,η] [] [.v 5 _] [.g 0,.o 0] U (zv G (a6 a5) o0) (zz [(4,_),(5,_)] [O 2 25 _,O 3 25 _] λ a w U=>?_)
  refine a4<|qt ?_
  have U:=St.sel U [1]
  refine wp_loop_ghost (λ n a w=>∃ j:Nat,(n+j=x.mag.length∧x.mag.take j=y.mag.take j)∧St B w0 38 [(5,In (j:Nat))] [⟨2,25,ptrH,RIA x⟩,⟨3,25,ptrH,RIA y⟩] a w) (x.mag.length) ?_ ?_
  ·exact ⟨0,⟨by omega,rfl⟩,U⟩
  intro n a w hI
  obtain ⟨j,⟨hn,ht⟩,U⟩:=hI
  refine qb<|qb<|zg [η,η] [] [.v 20 _,.adr 21 2 (.some 1) True,.v 22 _,.v 23 _,.v 24 _] [.g 0,.o 4] U (zM 0 G (zO 0 G aq (zL 1 0 1 G bm (zv G (aG Try.underlying23 (vq 2 G)) (zv G (aY (vq 0 G) (vq 3 G)) o0))))) (zz [(5,_),(24,_)] [O 2 25 _,O 3 25 _] λ a w U=>?_)
  refine a4<|aa U (zm 1 G) (λ hb1=>?_) (λ hb1=>?_)
  ·have hj:j<x.mag.length:=by simp at hb1; omega
   refine qk<|zt<|qt<|qb<|zgd [[],[0],[],[0,1,2],[0,1,2,3],[],[5],[],[5,6,7],[5,6,7,8],[0,1,2,3,4,5,6,7,8,9]] [none,none] [] [.adr 27 2 (.some 1) True,.v 28 _,.v 29 _,.v 30 _,.v 31 _,.adr 32 3 (.some 1) True,.v 33 _,.v 34 _,.v 35 _,.v 36 _,.v 37 _] [.g 0,.o 10] a8 U (zO 0 G aq (zL 0 0 1 G bm (zM 0 G (zv G (bI aN (vq 1 G) (vq 2 G) zo) (zv G (al (vq 3 G) aT) (zO 1 G aq (zL 5 1 1 G bm (zM 0 G (zv G (bI aN (vq 6 G) (vq 7 G) zo) (zv G (al (vq 8 G) aT) (zv G (bM (vq 4 G) (vq 9 G)) o0))))))))))) zk zk zk zk (zz [(5,_),(37,_)] [O 2 25 _,O 3 25 _] λ a w U=>?_)
   refine a4<|aa U (zm 1 G) (λ hb2=>?_) (λ hb2=>?_)
   ·refine qb<|zg [η,η] [] [.v 4 _] [.g 0,.o 0] U (zv G (a6 aE) o0) (zz [(5,_),(4,_)] [O 2 25 _,O 3 25 _] λ a w U=>?_)
    refine a4<|qh<|aA ?_
    refine ac ?_
    refine ac ?_
    refine aA ?_
    refine ac ?_
    refine an ?_ (ae G U (zm 1 G))
    exact cd (qu Bo (same_no2 hj zo hb2))
   ·refine qk<|ai ?_
    refine a4<|zg [η,η] [] [.v 25 _,.v 26 _,.v 5 _] [.o 2] U (zM 0 G (zv G (aU (vq 0 G) a5 (wi_nx hj hxk.2)) (zA 1 G o0))) (zz [(5,_)] [O 2 25 _,O 3 25 _] λ a w U=>?_)
    refine a4 ?_
    have U:=St.sel U [0]
    exact ⟨n-1,by omega,j+1,⟨by omega,take_eq hj zo ht hb2⟩,U⟩
  ·obtain rfl:j=x.mag.length:=by simp at hb1; omega
   refine zf<|aj<|aj<|az<|zt<|zg [η,η] [] [.v 4 _] [.o 0] U (zv G (a6 aE) o0) (zz [(4,_)] [O 2 25 _,O 3 25 _] λ a w U=>?_)
   refine a4<|qh<|an ?_ (ae G U (zm 0 G))
   exact cd (qu Bo (same_yes hn1 (by rw [qA (qf _),qA zo] at ht; exact ht)))
theorem dg (x y:RF):Cn Try.prog 12 [(RFA x).va,(RFA y).va] (Bo (decide (x=y))):=by
 refine Cn.intro Try.func12 G zk nq (λ B w0 a U=>?_)
 have U:=zn [(0,(RFA x).va),(1,(RFA y).va)] [] U
 refine qb<|zg [] [⟨2,27,ptrH,some 0,_,none⟩,⟨3,27,ptrH,some 1,_,none⟩] [.alc 0,.alc 1,.v 4 _] [.o 2] U (zW 0 G (zW 1 G (zv G (a6 aE) o0))) (zz [(4,_)] [O 2 27 _,O 3 27 _] λ a w U=>?_)
 refine zt<|zg [η,η] [] [.adr 5 2 (.some 0) True,.v 6 _,.adr 7 3 (.some 0) True,.v 8 _,.v 9 _,.v 10 _,.adr 11 2 (.some 2) (_=true),.t 12 _,.adr 13 3 (.some 2) (_=true),.t 14 _,.t 15 _,.v 16 _,.v 4 _] [.o 12] U (zO 0 G bg (zL 0 0 0 G am (zO 1 G bg (zL 2 1 0 G am (zQ G (i8 _ _) (.p (vq 1 G) (vq 3 G)) (zv G (a7 (vq 4 G)) (zC 5 0 G aP (zB 5 G (λ hg=>aD 6 G zk hg (lz0 0 G) (Sub.part 1 G G) am) (zC 5 1 G aP (zB 5 G (λ hg=>aD 8 G zk hg (lz0 1 G) (Sub.part 1 G G) am) (zB 5 G (λ hg=>aW (i8 _ _) (.p (a9 (vq 7 G) hg) (a9 (vq 9 G) hg))) (zv G (bi (vq 5 G) (vq 10 G)) (zA 11 G o0))))))))))))) (zz [(4,_)] [O 2 27 _,O 3 27 _] λ a w U=>?_)
 refine a4<|qh<|an ?_ (ae G U (zm 0 G))
 exact cd (qu Bo rf_eq)
open Go.ChangeShapes Go.WideShapes Go.ChangeAt
section
variable {H:Type} {enc:TypeId × Value→H} {w:World} {base:Nat} {spare:Nat→Bool} {held:Bool} {fuel:Nat} {cs:List Value} {x:DataW H × List MemPlace}
end
theorem div_pos {x y:Rat}(h:0<x)(h':0<y):0<x/y:=Rat.mul_pos h (Rat.inv_pos.2 h')
end Go.Proofs.Ytlakjmncfooodaa
