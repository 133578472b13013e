import Derived.Test.YtlakjmncfooodaaGreatSsAi
set_option linter.all false
set_option maxRecDepth 100000
namespace Go.Proofs.YtlakjmncfooodaaGreat
open Go Go.RowKit
variable {w:World}{B:Nat}{a:Act}{v:Value}{T:TypeId}{w0:Bs}{Γ:List (Nat × VA)}{Λ:List Lc}{ps:String}{af:Array Edge}{vr:Value}{H:Hd}{cs:List Value}{w':World}{P:Program}{D:List TypeId}
theorem rat_add (x y:Rat):Rat.divInt (x.num*(y.den:Int)+y.num*(x.den:Int)) ((x.den:Int)*(y.den:Int))=x+y:=by
 rw [Rat.add_def',← jh,xg]
theorem rat_sub (x y:Rat):Rat.divInt (x.num*(y.den:Int)-y.num*(x.den:Int)) ((x.den:Int)*(y.den:Int))=x-y:=by
 rw [Rat.sub_def',← jh,xg]
theorem rat_mul (x y:Rat):Rat.divInt (x.num*y.num) ((x.den:Int)*(y.den:Int))=x*y:=by
 rw [Rat.mul_def',← jh,xg]
theorem rat_div (x y:Rat):Rat.divInt (x.num*(y.den:Int)) ((x.den:Int)*y.num)=x/y:=by
 rw [Rat.div_def,Rat.inv_def,← Rat.divInt_mul_divInt,x7]
theorem den_nz (x y:Rat):(x.den:Int)*(y.den:Int)≠0:=jo (by have:=x.den_pos; omega) (by have:=y.den_pos; omega)
theorem num_nz (x:Rat){y:Rat}(h:y≠0):(x.den:Int)*y.num≠0:=jo (by have:=x.den_pos; omega) (λ e=>h (Rat.num_eq_zero.1 e))
def cmQ (x y:Rat):Int:=if x<y then -1 else if y<x then 1 else 0
theorem cm_sg (x y:Rat):sg3 (x.num*(y.den:Int)) (y.num*(x.den:Int))=cmQ x y:=by
 unfold sg3 cmQ
 simp only [Rat.lt_iff]
theorem copy_e (x:Rat):cat [RIA (riOf (x.num+0)),RIA (riOf ((x.den:Int)+0))]=RFA (rfOf x):=by rw [xE,xE]; rfl
theorem q0_wk {k:Nat}:WkA (cat [RIA ⟨false,[]⟩,ZA k 1]) (QA k 0):=aS (.cons ((eO (show RIA ⟨false,[]⟩=RIA (riOf 0) from by simp [riOf,bd])).trans (za_of (by simp [lz,bd]))) (.cons (WkA.refl _) .nil))
theorem ej  : Cn Tryz.prog 58 [] (Qs 2 0):=by
 refine Cn.intro Tryz.func58 G zk nq (λ B w0 a U=>?_)
 have U:=zn [] [] U
 refine qa<|zg [] [⟨0,28,ptrH,some 0,_,none⟩] [.alc 0] [] U (zY G (Str.zero aA) o0) (zz [] [O 0 28 _] λ a w U=>?_)
 refine zt<|zg [some (2,_)] [] [.v 1 _,.v 2 _,.sto 0] [] U (zQ G (of_z zd zd) (.cons a5 .nil) (zv G (aI (qs:=[(1,_)]) aA (.cons ⟨rfl,vq 0 rfl,rfl⟩ .nil)) (zS 1 G ac o0))) (zz [] [O 0 28 _] λ a w U=>?_)
 refine a4<|qe<|aj ?_ (au G U (zm 0 G) ac)
 exact q0_wk.va
theorem small_q {p q:Int}(hp : -9223372036854775808≤p)(hp1:p<9223372036854775808)(hq : -9223372036854775808≤q)(hq1:q<9223372036854775808)(h0:q≠0):Cn Tryz.prog 84 [In p,In q] (Qs 2 (Rat.divInt p q)):=by
 refine Cn.intro Tryz.func84 G zk nq (λ B w0 a U=>?_)
 have U:=zn [(0,In p),(1,In q)] [] U
 refine qa<|zg [] [⟨4,28,ptrH,some 0,_,none⟩] [.alc 0] [.g 0,.g 1] U (zY G (Str.zero aA) o0) (zz [(0,_),(1,_)] [O 4 28 _] λ a w U=>?_)
 refine zt<|zg [some (5,_)] [] [.v 5 _,.v 6 _,.v 7 _,.v 8 _,.v 9 _,.sto 0] [] U (zM 0 G (zQ G (of_z hp hp1) (.o (vq 0 G)) (zM 1 G (zQ G (of_z hq hq1) (.o (vq 2 G)) (zQ G (dC zo zo h0) (.p (vq 1 G) (vq 3 G)) (zS 4 G ac o0)))))) (zz [] [O 4 28 _] λ a w U=>?_)
 refine a4<|qe<|aj ?_ (au G U (zm 0 G) ac)
 exact ay
theorem one_q  : Cn Tryz.prog 57 [] (Qs 2 1):=by
 refine Cn.intro Tryz.func57 G zk nq (λ B w0 a U=>?_)
 have U:=zn [] [] U
 refine qa<|zg [] [⟨0,28,ptrH,some 0,_,none⟩] [.alc 0] [] U (zY G (Str.zero aA) o0) (zz [] [O 0 28 _] λ a w U=>?_)
 refine zt<|zg [some (1,_)] [] [.v 1 _,.sto 0] [] U (zQ G (small_q zd zd zd zd zd) (.cons a5 (.cons a5 .nil)) (zS 0 G ac o0)) (zz [] [O 0 28 _] λ a w U=>?_)
 refine a4<|qe<|aj ?_ (au G U (zm 0 G) ac)
 exact bA (qt (Qs 2) (show Rat.divInt 1 1=1 from G))
theorem plus_q {c d:Nat}{x y:Rat}(hc:c+d≤549755813888):Cn Tryz.prog 54 [Qs c x,Qs d y] (Qs (c+d+1) (x+y)):=by
 refine Cn.intro Tryz.func54 G zk nq (λ B w0 a U=>?_)
 have U:=zn [(0,Qs c x),(1,Qs d y)] [] U
 refine qa<|zg [] [⟨2,28,ptrH,some 0,_,none⟩,⟨3,28,ptrH,some 1,_,none⟩,⟨4,28,ptrH,some 2,_,none⟩] [.alc 0,.alc 1,.alc 2] [] U (zW 0 G (zW 1 G (zY G (Str.zero aA) o0))) (zz [] [O 2 28 _,O 3 28 _,O 4 28 _] λ a w U=>?_)
 refine zt<|zgd [[],[0],[],[2],[0,1,2,3],[],[5],[],[7],[0,1,2,3,4,5,6,7,8],[0,1,2,3,4,5,6,7,8,9],[],[11],[],[13],[0,1,2,3,4,5,6,7,8,9,10,11,12,13,14],[0,1,2,3,4,5,6,7,8,9,10,11,12,13,14,15],[0,1,2,3,4,5,6,7,8,9,10,11,12,13,14,15,16]] [none,none,some (17,_)] [] [.adr 5 2 (.some 0) True,.v 6 _,.adr 7 3 (.some 2) True,.v 8 _,.v 9 _,.adr 10 3 (.some 0) True,.v 11 _,.adr 12 2 (.some 2) True,.v 13 _,.v 14 _,.v 15 _,.adr 16 2 (.some 2) True,.v 17 _,.adr 18 3 (.some 2) True,.v 19 _,.v 20 _,.v 21 _,.sto 2] [] a7 U (zO 0 G bb (zL 0 0 0 G ap (zO 1 G aO (zL 2 1 1 G ap (zQ G (cm zo zo) (.p (vq 1 G) (vq 3 G)) (zO 1 G bb (zL 5 1 0 G ap (zO 0 G aO (zL 7 0 1 G ap (zQ G (cm zo zo) (.p (vq 6 G) (vq 8 G)) (zQ G (plus_z zo zo) (.p (vq 4 G) (vq 9 G)) (zO 0 G aO (zL 11 0 1 G ap (zO 1 G aO (zL 13 1 1 G ap (zQ G (cm zo zo) (.p (vq 12 G) (vq 14 G)) (zQ G (dC zo zo (den_nz x y)) (.p (vq 10 G) (vq 15 G)) (zS 16 G ac o0)))))))))))))))))) zk zk zk zk (zz [] [O 2 28 _,O 3 28 _,O 4 28 _] λ a w U=>?_)
 refine a4<|qe<|aj ?_ (au G U (zm 2 G) ac)
 exact bN (bA (qt (Qs _) (rat_add x y))) (aU zo).va
theorem fB {c d:Nat}{x y:Rat}(hc:c+d≤549755813888):Cn Tryz.prog 39 [Qs c x,Qs d y] (Qs (c+d+1) (x-y)):=by
 refine Cn.intro Tryz.func39 G zk nq (λ B w0 a U=>?_)
 have U:=zn [(0,Qs c x),(1,Qs d y)] [] U
 refine qa<|zg [] [⟨2,28,ptrH,some 0,_,none⟩,⟨3,28,ptrH,some 1,_,none⟩,⟨4,28,ptrH,some 2,_,none⟩] [.alc 0,.alc 1,.alc 2] [] U (zW 0 G (zW 1 G (zY G (Str.zero aA) o0))) (zz [] [O 2 28 _,O 3 28 _,O 4 28 _] λ a w U=>?_)
 refine zt<|zgd [[],[0],[],[2],[0,1,2,3],[],[5],[],[7],[0,1,2,3,4,5,6,7,8],[0,1,2,3,4,5,6,7,8,9],[],[11],[],[13],[0,1,2,3,4,5,6,7,8,9,10,11,12,13,14],[0,1,2,3,4,5,6,7,8,9,10,11,12,13,14,15],[0,1,2,3,4,5,6,7,8,9,10,11,12,13,14,15,16]] [none,none,some (17,_)] [] [.adr 5 2 (.some 0) True,.v 6 _,.adr 7 3 (.some 2) True,.v 8 _,.v 9 _,.adr 10 3 (.some 0) True,.v 11 _,.adr 12 2 (.some 2) True,.v 13 _,.v 14 _,.v 15 _,.adr 16 2 (.some 2) True,.v 17 _,.adr 18 3 (.some 2) True,.v 19 _,.v 20 _,.v 21 _,.sto 2] [] a7 U (zO 0 G bb (zL 0 0 0 G ap (zO 1 G aO (zL 2 1 1 G ap (zQ G (cm zo zo) (.p (vq 1 G) (vq 3 G)) (zO 1 G bb (zL 5 1 0 G ap (zO 0 G aO (zL 7 0 1 G ap (zQ G (cm zo zo) (.p (vq 6 G) (vq 8 G)) (zQ G (minus_z zo zo) (.p (vq 4 G) (vq 9 G)) (zO 0 G aO (zL 11 0 1 G ap (zO 1 G aO (zL 13 1 1 G ap (zQ G (cm zo zo) (.p (vq 12 G) (vq 14 G)) (zQ G (dC zo zo (den_nz x y)) (.p (vq 10 G) (vq 15 G)) (zS 16 G ac o0)))))))))))))))))) zk zk zk zk (zz [] [O 2 28 _,O 3 28 _,O 4 28 _] λ a w U=>?_)
 refine a4<|qe<|aj ?_ (au G U (zm 2 G) ac)
 exact bN (bA (qt (Qs _) (rat_sub x y))) (aU zo).va
theorem cB {c d:Nat}{x y:Rat}(hc:c+d≤549755813888):Cn Tryz.prog 41 [Qs c x,Qs d y] (Qs (c+d) (x*y)):=by
 refine Cn.intro Tryz.func41 G zk nq (λ B w0 a U=>?_)
 have U:=zn [(0,Qs c x),(1,Qs d y)] [] U
 refine qa<|zg [] [⟨2,28,ptrH,some 0,_,none⟩,⟨3,28,ptrH,some 1,_,none⟩,⟨4,28,ptrH,some 2,_,none⟩] [.alc 0,.alc 1,.alc 2] [] U (zW 0 G (zW 1 G (zY G (Str.zero aA) o0))) (zz [] [O 2 28 _,O 3 28 _,O 4 28 _] λ a w U=>?_)
 refine zt<|zgd [[],[0],[],[2],[0,1,2,3],[],[5],[],[7],[0,1,2,3,4,5,6,7,8],[0,1,2,3,4,5,6,7,8,9],[0,1,2,3,4,5,6,7,8,9,10]] [none,none,some (11,_)] [] [.adr 5 2 (.some 0) True,.v 6 _,.adr 7 3 (.some 0) True,.v 8 _,.v 9 _,.adr 10 2 (.some 2) True,.v 11 _,.adr 12 3 (.some 2) True,.v 13 _,.v 14 _,.v 15 _,.sto 2] [] a7 U (zO 0 G bb (zL 0 0 0 G ap (zO 1 G bb (zL 2 1 0 G ap (zQ G (cm zo zo) (.p (vq 1 G) (vq 3 G)) (zO 0 G aO (zL 5 0 1 G ap (zO 1 G aO (zL 7 1 1 G ap (zQ G (cm zo zo) (.p (vq 6 G) (vq 8 G)) (zQ G (dC zo zo (den_nz x y)) (.p (vq 4 G) (vq 9 G)) (zS 10 G ac o0)))))))))))) zk zk zk zk (zz [] [O 2 28 _,O 3 28 _,O 4 28 _] λ a w U=>?_)
 refine a4<|qe<|aj ?_ (au G U (zm 2 G) ac)
 exact bN (bA (qt (Qs _) (rat_mul x y))) (aU zo).va
theorem over_q {c d:Nat}{x y:Rat}(hc:c+d≤549755813888)(h0:y≠0):Cn Tryz.prog 83 [Qs c x,Qs d y] (Qs (c+d) (x/y)):=by
 refine Cn.intro Tryz.func83 G zk nq (λ B w0 a U=>?_)
 have U:=zn [(0,Qs c x),(1,Qs d y)] [] U
 refine qa<|zg [] [⟨2,28,ptrH,some 0,_,none⟩,⟨3,28,ptrH,some 1,_,none⟩,⟨4,28,ptrH,some 2,_,none⟩] [.alc 0,.alc 1,.alc 2] [] U (zW 0 G (zW 1 G (zY G (Str.zero aA) o0))) (zz [] [O 2 28 _,O 3 28 _,O 4 28 _] λ a w U=>?_)
 refine zt<|zgd [[],[0],[],[2],[0,1,2,3],[],[5],[],[7],[0,1,2,3,4,5,6,7,8],[0,1,2,3,4,5,6,7,8,9],[0,1,2,3,4,5,6,7,8,9,10]] [none,none,some (11,_)] [] [.adr 5 2 (.some 0) True,.v 6 _,.adr 7 3 (.some 2) True,.v 8 _,.v 9 _,.adr 10 2 (.some 2) True,.v 11 _,.adr 12 3 (.some 0) True,.v 13 _,.v 14 _,.v 15 _,.sto 2] [] a7 U (zO 0 G bb (zL 0 0 0 G ap (zO 1 G aO (zL 2 1 1 G ap (zQ G (cm zo zo) (.p (vq 1 G) (vq 3 G)) (zO 0 G aO (zL 5 0 1 G ap (zO 1 G bb (zL 7 1 0 G ap (zQ G (cm zo zo) (.p (vq 6 G) (vq 8 G)) (zQ G (dC zo zo (num_nz x h0)) (.p (vq 4 G) (vq 9 G)) (zS 10 G ac o0)))))))))))) zk zk zk zk (zz [] [O 2 28 _,O 3 28 _,O 4 28 _] λ a w U=>?_)
 refine a4<|qe<|aj ?_ (au G U (zm 2 G) ac)
 exact bN (bA (qt (Qs _) (rat_div x y))) (aU zo).va
theorem turned_r {c:Nat}{x:Rat}(hc:c≤549755813888):Cn Tryz.prog 55 [Qs c x] ((RFA (rfOf (-x))).va):=by
 refine Cn.intro Tryz.func55 G zk nq (λ B w0 a U=>?_)
 have U:=zn [(0,Qs c x)] [] U
 refine qa<|zg [] [⟨1,28,ptrH,some 0,_,none⟩,⟨2,28,ptrH,some 1,_,none⟩] [.alc 0,.alc 1] [] U (zW 0 G (zY G (Str.zero aA) o0)) (zz [] [O 1 28 _,O 2 28 _] λ a w U=>?_)
 refine zt<|zgd [[],[0],[0,1],[],[3],[0,1,2],[0,1,2,3,4,5],[0,1,2,3,4,5,6],[0,1,2,3,4,5,6,7]] [none,some (8,_)] [] [.adr 3 1 (.some 0) True,.v 4 _,.v 5 _,.adr 6 1 (.some 2) True,.v 7 _,.v 8 _,.v 9 _,.v 10 _,.sto 1] [] a7 U (zO 0 G bb (zL 0 0 0 G ap (zQ G (gz zo) (.o (vq 1 G)) (zO 0 G aO (zL 3 0 1 G ap (zQ G (of_z zd zd) (.cons a5 .nil) (zQ G (plus_z zo zo) (.p (vq 4 G) (vq 5 G)) (zv G (aI (qs:=[(0,_),(1,_)]) aA (.cons ⟨rfl,vq 2 rfl,rfl⟩ (.cons ⟨rfl,vq 6 rfl,rfl⟩ .nil))) (zS 7 G ac o0))))))))) zk zk zk zk (zz [] [O 1 28 _,O 2 28 _] λ a w U=>?_)
 refine a4<|qe<|aj ?_ (au G U (zm 1 G) ac)
 exact ((aS (.cons zaA (.cons zaA .nil))).trans (eO (qt (λ z=>cat [RIA (riOf (-x.num)),RIA (riOf z)]) (xE _)))).va
theorem copy_r {c:Nat}{x:Rat}(hc:c≤549755813888):Cn Tryz.prog 27 [Qs c x] ((RFA (rfOf x)).va):=by
 refine Cn.intro Tryz.func27 G zk nq (λ B w0 a U=>?_)
 have U:=zn [(0,Qs c x)] [] U
 refine qa<|zg [] [⟨1,28,ptrH,some 0,_,none⟩,⟨2,28,ptrH,some 1,_,none⟩] [.alc 0,.alc 1] [] U (zW 0 G (zY G (Str.zero aA) o0)) (zz [] [O 1 28 _,O 2 28 _] λ a w U=>?_)
 refine zt<|zg [η,η] [⟨3,26,ptrH,some 1,_,some (2,_)⟩] [.v 4 _,.alc 2,.sto 2] [] U (zQ G (of_z zd zd) (.cons a5 .nil) (zY G (Str.zero bW) (zS 0 G ap o0))) (zz [] [O 1 28 _,O 2 28 _,O 3 26 _] λ a w U=>?_)
 refine zt<|zgd [[],[0],[],[0,1,2],[],[4],[],[0,1,2,3,4,5,6],[0,1,2,3,4,5,6,7],[0,1,2,3,4,5,6,7,8]] [none,some (9,_),none] [] [.adr 5 1 (.some 0) True,.v 6 _,.v 7 _,.v 8 _,.adr 9 1 (.some 2) True,.v 10 _,.v 11 _,.v 12 _,.v 13 _,.sto 1] [] a7 U (zO 0 G bb (zL 0 0 0 G ap (zl 2 G ap (zQ G (plus_z zo zo) (.p (vq 1 G) (vq 2 G)) (zO 0 G aO (zL 4 0 1 G ap (zl 2 G ap (zQ G (plus_z zo zo) (.p (vq 5 G) (vq 6 G)) (zv G (aI (qs:=[(0,_),(1,_)]) aA (.cons ⟨rfl,vq 3 rfl,rfl⟩ (.cons ⟨rfl,vq 7 rfl,rfl⟩ .nil))) (zS 8 G ac o0)))))))))) zk zk zk zk (zz [] [O 1 28 _,O 2 28 _,O 3 26 _] λ a w U=>?_)
 refine a4<|qe<|aj ?_ (au G U (zm 1 G) ac)
 exact ((aS (.cons zaA (.cons zaA .nil))).trans (eO (copy_e x))).va
theorem cmp_q {c d:Nat}{x y:Rat}(hc:c+d≤549755813888):Cn Tryz.prog 25 [Qs c x,Qs d y] (In (cmQ x y)):=by
 refine Cn.intro Tryz.func25 G zk nq (λ B w0 a U=>?_)
 have U:=zn [(0,Qs c x),(1,Qs d y)] [] U
 refine qa<|zg [] [⟨2,28,ptrH,some 0,_,none⟩,⟨3,28,ptrH,some 1,_,none⟩] [.alc 0,.alc 1,.v 4 _] [.o 2] U (zW 0 G (zW 1 G (zv G (a6 a5) o0))) (zz [(4,_)] [O 2 28 _,O 3 28 _] λ a w U=>?_)
 refine zt<|zgd [[],[0],[],[2],[0,1,2,3],[],[5],[],[7],[0,1,2,3,4,5,6,7,8],[0,1,2,3,4,5,6,7,8,9],[0,1,2,3,4,5,6,7,8,9,10]] [none,none] [] [.adr 5 2 (.some 0) True,.v 6 _,.adr 7 3 (.some 2) True,.v 8 _,.v 9 _,.adr 10 3 (.some 0) True,.v 11 _,.adr 12 2 (.some 2) True,.v 13 _,.v 14 _,.v 15 _,.v 4 _] [.o 11] a7 U (zO 0 G bb (zL 0 0 0 G ap (zO 1 G aO (zL 2 1 1 G ap (zQ G (cm zo zo) (.p (vq 1 G) (vq 3 G)) (zO 1 G bb (zL 5 1 0 G ap (zO 0 G aO (zL 7 0 1 G ap (zQ G (cm zo zo) (.p (vq 6 G) (vq 8 G)) (zQ G (cmp_z zo zo) (.p (vq 4 G) (vq 9 G)) (zA 10 G o0)))))))))))) zk zk zk zk (zz [(4,_)] [O 2 28 _,O 3 28 _] λ a w U=>?_)
 refine a4<|qe<|aj ?_ (ai G U (zm 0 G))
 exact bA (qt In (cm_sg x y))
theorem sign_q {c:Nat}{x:Rat}:Cn Tryz.prog 46 [Qs c x] (In x.num.sign):=by
 refine Cn.intro Tryz.func46 G zk nq (λ B w0 a U=>?_)
 have U:=zn [(0,Qs c x)] [] U
 refine qa<|zg [] [⟨1,28,ptrH,some 0,_,none⟩] [.alc 0,.v 2 _] [.o 1] U (zW 0 G (zv G (a6 a5) o0)) (zz [(2,_)] [O 1 28 _] λ a w U=>?_)
 refine zt<|zg [η] [] [.adr 3 1 (.some 0) True,.v 4 _,.v 5 _,.v 2 _] [.o 3] U (zO 0 G bb (zL 0 0 0 G ap (zQ G sign_z (.o (vq 1 G)) (zA 2 G o0)))) (zz [(2,_)] [O 1 28 _] λ a w U=>?_)
 refine a4<|qe<|aj ?_ (ai G U (zm 0 G))
 exact ay
theorem ex_qturned : ∃ fn, Tryz.prog.funcs[55]? = some fn ∧ (fn.name == "runtime.NumGoroutine") = false ∧ fn.body.isNone = false := ⟨_, Tryz.func55, by kernel_rfl, by kernel_rfl⟩
theorem ex_qcopy : ∃ fn, Tryz.prog.funcs[27]? = some fn ∧ (fn.name == "runtime.NumGoroutine") = false ∧ fn.body.isNone = false := ⟨_, Tryz.func27, by kernel_rfl, by kernel_rfl⟩
theorem qs_le {k B:Nat}{r:Rat}(h:(Qs k r).p B v w):lz r.num≤k∧lz (r.den:Int)≤k:=by
 obtain ⟨cs,⟨ps,_,hp⟩,_⟩:=h
 cases hp with
 | cons h1 hp=>cases hp with | cons h2 _=>exact ⟨h1.1,h2.1⟩
theorem e8 {c:Nat}{x:Rat}(hc:c≤549755813888):Cn Tryz.prog 55 [Qs c x] (Qs c (-x)) :=
 Cn.know (c:=lz x.num≤c∧lz (x.den:Int)≤c) ex_qturned (λ B w args ha=>by cases ha with | cons h1 _=>exact qs_le h1) λ h=>(turned_r hc).wkp (qa_of (by rw [Rat.neg_num,gh]; exact h.1) (by rw [Rat.neg_den]; exact h.2)).va
theorem iO {c:Nat}{x:Rat}(hc:c≤549755813888):Cn Tryz.prog 27 [Qs c x] (Qs c x) :=
 Cn.know (c:=lz x.num≤c∧lz (x.den:Int)≤c) ex_qcopy (λ B w args ha=>by cases ha with | cons h1 _=>exact qs_le h1) λ h=>(copy_r hc).wkp (qa_of h.1 h.2).va
theorem upA_mg (l:List Nat):UpA (MgA l) (MgA l):=⟨rfl,rfl,λ B cs w hB hp=>by
 obtain ⟨ok,h0,A,c,ds,rfl,h1,h2,h3,h4⟩:=hp
 refine ⟨ok,h0,A,c,ds,rfl,h1,h2,?_,λ hn=>?_⟩
 ·exact cat_nums.2 (cat_nums.1 h3)
 ·obtain ⟨b,o,e1,e2,e3,e4⟩:=h4 hn
  exact ⟨b,o,e1,e2,.inl e2,e4⟩⟩
theorem upA_and {A:As}{c:Prop}(h:UpA A A):UpA (A.and c) (A.and c):=⟨rfl,rfl,λ B cs w hB hp=>⟨hp.1,h.2.2 B cs w hB hp.2⟩⟩
theorem upA_ri (x:RI):UpA (RIA x) (RIA x):=eR (.cons (up_bo _) (.cons (upA_mg _) .nil))
theorem ik (x:RF):UpA (RFA x) (RFA x):=eR (.cons (upA_ri _) (.cons (upA_ri _) .nil))
theorem upA_za {k:Nat}{z:Int}:UpA (ZA k z) (ZA k z):=upA_and (upA_ri _)
theorem upA_qa {k:Nat}{r:Rat}:UpA (QA k r) (QA k r):=eR (.cons upA_za (.cons upA_za .nil))
theorem all_upA {l:List As}(h:∀ A∈l,UpA A A):All2 UpA l l:=by
 induction l with
 | nil=>exact .nil
 | cons A l ih=>exact .cons (h A (by simp)) (ih λ A' hA=>h A' (by simp [hA]))
theorem up_sl {E:TypeId}{l:List As}(h:∀ A∈l,UpA A A):UpA (SlA E D l) (SlO E D l True):=⟨rfl,rfl,λ B cs w hB hp=>by
 obtain ⟨hD,A,c,ds,rfl,h1,h2,h3,h4⟩:=hp
 refine ⟨trivial,hD,A,c,ds,rfl,h1,h2,(eR (all_upA h)).2.2 B ds w hB h3,λ hn=>?_⟩
 obtain ⟨b,o,e1,e2,e3,e4⟩:=h4 hn
 exact ⟨b,o,e1,e2,e2,e4⟩⟩
theorem slO_len {E:TypeId}{l:List As}{p:Prop}(h:(SlO E D l p).va.p B v w):l.length≤9223372036854775807:=by
 obtain ⟨cs,⟨_,_,A,c,ds,_,h1,h2,_⟩,_⟩:=h
 unfold maxLen at h2
 omega
def longQ (q:Rat):Bool:=[riOf q.num].any bigI || [riOf (q.den:Int)].any bigI
theorem longQ_false {q:Rat}:longQ q=false↔lz q.num≤2048∧lz (q.den:Int)≤2048:=by
 simp [longQ,bigI,dg]
 omega
def IsQ (A:As)(q:Rat):Prop:=∃ k,A=QA k q
theorem sl_wk {E:TypeId}{l l':List As}(h:All2 WkA l l')(hD:∀ A∈l',∀ T∈A.deps,T∈D):WkA (SlA E D l) (SlA E D l'):=⟨rfl,rfl,λ B cs w ⟨_,A,c,ds,e,h1,h2,h3,h4⟩=>by
 have hl:=h.length
 exact ⟨hD,A,c,ds,by rw [← hl]; exact e,by rw [← hl]; exact h1,h2,(aS h).2.2 B ds w h3,λ hn=>h4 (by rw [hl]; exact hn)⟩⟩
theorem isq_at {L:List As}{qs:List Rat}(h:All2 IsQ L qs){j:Nat}(hj:j<qs.length):∃ k,L[j]?=some (QA k qs[j]):=by
 have hl:=h.length
 obtain ⟨q,h1,k,h2⟩:=h.get (List.getElem?_eq_getElem (show j<L.length by omega))
 rw [List.getElem?_eq_getElem hj] at h1
 injection h1 with h1
 exact ⟨k,by rw [List.getElem?_eq_getElem zo,h2,h1]⟩
theorem isq_up {L:List As}{qs:List Rat}(h:All2 IsQ L qs):∀ A∈L,UpA A A:=λ A hA=>by
 obtain ⟨j,hj⟩:=List.getElem?_of_mem hA
 obtain ⟨q,_,k,rfl⟩:=h.get hj
 exact upA_qa
theorem isq_n {L:List As}{qs:List Rat}(h:All2 IsQ L qs):∀ A∈L,A.n=4:=λ A hA=>by
 obtain ⟨j,hj⟩:=List.getElem?_of_mem hA
 obtain ⟨q,_,k,rfl⟩:=h.get hj
 rfl
theorem lq_some {l:List Rat}{j:Nat}(h:j<l.length)(h2:longQ l[j]=true):true=l.any longQ:=(xu.2 ⟨_,qi h,h2⟩).symm
theorem lq_no {l:List Rat}{j:Nat}(h:j<l.length)(h1:(l.take j).any longQ=false)(h2:longQ l[j]=false):(l.take (j+1)).any longQ=false:=by
 rw [qu h,xA,h1]
 simp [h2]
theorem long_q {L:List As}(qs:List Rat)(hL:All2 IsQ L qs)(hl:qs.length≤1099511627776):Cn Tryz.prog 61 [(SlA 28 [U32] L).va] (Bo (qs.any longQ)):=by
 have hLl:=hL.length
 refine Cn.introW Tryz.func61 G zk nq (.cons (up_sl (isq_up hL)).va .nil) (fI _).va (λ B w0 a hB0 U=>?_)
 have U:=zn [(0,(SlO 28 [U32] L True).va)] [] U
 refine qa<|zh [.v 2 _] [.g 0,.o 0] U (zv G (a6 aH) o0) (zz [(0,_),(2,_)] [] λ a w U=>?_)
 refine zt<|qa<|zh [.v 5 _,.v 6 _,.v 7 _] [.g 1,.o 0,.o 1,.o 2] U (zM 0 G (zv G (bn Tryz.underlying22 (aV (ao (vq 0 G)))) (zv G (a8 a5) o0))) (zz [(2,_),(5,_),(6,_),(7,_)] [] λ a w U=>?_)
 refine a4<|qq ?_
 have U:=St.sel U [1,2,3]
 refine wp_loop_ghost (λ n a w=>∃ j:Nat,(n+j=qs.length∧(qs.take j).any longQ=false)∧St B w0 22 [(5,(SlO 28 [U32] L True).va),(6,In (qs.length:Nat)),(7,In (j:Nat))] [] a w) (qs.length) ?_ ?_
 ·exact ⟨0,⟨by omega,rfl⟩,by rw [hLl] at U; exact U⟩
 intro n a w hI
 obtain ⟨j,⟨hn,hno⟩,U⟩:=hI
 refine qa<|zh [.v 8 _] [.g 0,.g 1,.g 2,.o 0] U (zv G (aX (gq 2 G) (gq 1 G)) o0) (zz [(5,_),(6,_),(7,_),(8,_)] [] λ a w U=>?_)
 refine zt<|a9 U (zm 3 G) (λ hb0=>?_) (λ hb0=>?_)
 ·have hj:j<qs.length:=by simp at hb0; omega
  obtain ⟨kj,hLj⟩:=isq_at hL hj
  refine qk<|zt<|qq<|qa<|zg [] [⟨4,28,ptrH,some 2,_,some (3,_)⟩] [.v 9 _,.v 10 _,.alc 0,.sto 0] [.g 0,.g 1,.g 2] U (zv G (cn dM (isq_n hL) (aV (ao (gq 0 G))) (gq 2 G) hLj) (zv G (am (vq 0 G) ac) (zY G (Str.zero aA) (zS 1 G ac o0)))) (zz [(5,_),(6,_),(7,_)] [O 4 28 _] λ a w U=>?_)
  refine zt<|zg [η] [] [.adr 11 4 (.some 0) True,.v 12 _,.v 13 _,.v 14 _,.v 15 _,.adr 16 4 (.some 2) (_=false),.f 17 _,.f 18 _,.f 19 _,.v 20 _] [.g 0,.g 1,.g 2,.o 9] U (zO 0 G bb (zL 0 0 0 G ap (zv G (bB (D:=[U32]) (l:=[_]) (xs:=[.tmp 12]) (cU zk) sl_138 zk (n_ok zk) nq nq nq (.o (vq 1 G)) G G) (zQ G ((longI_c [riOf (qs[j]).num] nq).wk (.cons (sl_wk (.cons zaA .nil) (cU zk)).va .nil)) (.o (vq 2 G)) (zv G (a8 (vq 3 G)) (zC 4 0 G aO (zB 4 G (λ hg=>ax 5 G zk hg (lz0 0 G) (Sub.part 1 G G) ap) (zB 4 G (λ hg=>bB (D:=[U32]) (l:=[_]) (xs:=[.tmp 17]) (cU zk) sl_138 zk (n_ok zk) nq nq nq (.o (aa (vq 6 G) hg)) G G) (zB 4 G (λ hg=>aW ((longI_c [riOf ((qs[j]).den:Int)] nq).wk (.cons (sl_wk (.cons zaA .nil) (cU zk)).va .nil)) (.o (aa (vq 7 G) hg))) (zv G (r_or (vq 4 G) (vq 8 G)) o0)))))))))) (zz [(5,_),(6,_),(7,_),(20,_)] [O 4 28 _] λ a w U=>?_)
  refine a4<|a9 U (zm 3 G) (λ hb1=>?_) (λ hb1=>?_)
  ·refine qa<|zg [η] [] [.v 2 _] [.g 0,.g 1,.g 2,.o 0] U (zv G (a6 aH) o0) (zz [(5,_),(6,_),(7,_),(2,_)] [O 4 28 _] λ a w U=>?_)
   refine a4<|qe<|aD ?_
   refine ab ?_
   refine ab ?_
   refine aD ?_
   refine ab ?_
   refine aq ?_ (ai G U (zm 3 G))
   rw [← lq_some hj hb1]
  ·refine qk<|al ?_
   refine a4<|zg [η] [] [.v 21 _,.v 7 _] [.g 0,.g 1,.o 1] U (zv G (aJ (gq 2 G) a5 (bk zo)) (zv G (a8 (vq 0 G)) o0)) (zz [(5,_),(6,_),(7,_)] [O 4 28 _] λ a w U=>?_)
   refine a4 ?_
   have U:=St.sel U [0,1,2]
   have U:=St.selL U []
   exact ⟨n-1,by omega,j+1,⟨by omega,lq_no hj hno hb1⟩,U⟩
 ·obtain rfl:j=qs.length:=by simp at hb0; omega
  refine za<|ak<|ak<|aC<|zt<|zh [.v 2 _] [.o 0] U (zv G (a6 aH) o0) (zz [(2,_)] [] λ a w U=>?_)
  refine a4<|qe<|aq ?_ (ai G U (zm 0 G))
  rw [qO] at hno; rw [hno]
theorem fg {L:List As}(qs:List Rat)(hL:All2 IsQ L qs)(hl:qs.length≤1099511627776):Cn Tryz.prog 26 [(SlA 28 [U32] L).va] (In (if qs.any longQ then 4 else 0)):=by
 refine Cn.intro Tryz.func26 G zk nq (λ B w0 a U=>?_)
 have U:=zn [(0,(SlA 28 [U32] L).va)] [] U
 refine qa<|zh [.v 2 _] [.g 0,.o 0] U (zv G (a6 a5) o0) (zz [(0,_),(2,_)] [] λ a w U=>?_)
 refine zt<|qa<|zh [.v 3 _,.v 4 _] [.g 1,.o 1] U (zM 0 G (zQ G (long_q qs hL hl) (.o (vq 0 G)) o0)) (zz [(2,_),(4,_)] [] λ a w U=>?_)
 refine a4<|a9 U (zm 1 G) (λ hb0=>?_) (λ hb0=>?_)
 ·refine qa<|zh [.v 2 _] [.o 0] U (zv G (a6 a5) o0) (zz [(2,_)] [] λ a w U=>?_)
  refine a4<|qe<|ab ?_
  refine aq ?_ (ai G U (zm 0 G))
  rw [hb0]; rfl
 ·refine qk<|zt<|zh [.v 2 _] [.o 0] U (zv G (a6 a5) o0) (zz [(2,_)] [] λ a w U=>?_)
  refine a4<|qe<|aq ?_ (ai G U (zm 0 G))
  rw [hb0]; rfl
def okF (x:RF):Bool:=okRI x.num&&okRI x.den&&decide (0<sgI x.den)&&decide (Nat.gcd (val x.num.mag) (val x.den.mag)=1)
theorem okRI_z {x:RI}(ok:okL x.mag)(h:okRI x=true):∃ z,x=riOf z∧lz z≤2048:=by
 obtain ⟨neg,l⟩:=x
 simp only [okRI,qv,qI,jI,qw,beq_eq_false_iff_ne,ne_eq] at h ok
 obtain ⟨⟨h1,h2⟩,h3⟩:=h
 have hc:Canon l:=by
  refine ⟨ok,λ e=>?_⟩
  rcases List.eq_nil_or_concat l with rfl | ⟨m,y,rfl⟩
  ·simp at e
  ·simp at e
   subst e
   rcases h2 with h2 | h2
   ·simp at h2
   ·exact h2 (by simp)
 have e:limbs (val l)=l:=iG hc
 cases neg with
 | false=>exact ⟨(val l:Nat),by simp [riOf,e],by show (limbs _).length≤2048; rw [ja,e]; omega⟩
 | true =>
  have hl:l≠[]:=λ e=>by subst e; simp at h3
  have hv:0<val l:=hc.val_pos hl
  exact ⟨-(val l:Nat),by simp [riOf,e]; omega,by show (limbs _).length≤2048; rw [Int.natAbs_neg,ja,e]; omega⟩
theorem k7 {z:Int}:okRI (riOf z)=decide (lz z≤2048):=by
 unfold okRI
 by_cases h0:z=0
 ·subst h0; simp [riOf,bd,lz]
 ·have h1:=fF h0
  have h2:=(bo z.natAbs).2
  have e:(riOf z).mag=limbs z.natAbs:=rfl
  have e2:(limbs z.natAbs).length=lz z:=rfl
  have h3:(limbs z.natAbs).getD (lz z-1) 0≠0:=λ hh=>by
   apply h2
   rw [List.getLast?_eq_getElem?,e2,List.getElem?_eq_getElem zo]
   rw [List.getD_eq_getElem?_getD,List.getElem?_eq_getElem zo] at hh
   simpa using hh
  rw [e,e2]
  by_cases h4:lz z≤2048
  ·have h5:¬ ((lz z:Int)>2048):=by omega
   have h6:¬ ((lz z:Int)=0):=by omega
   have h7:¬ (((limbs z.natAbs).getD (lz z-1) 0:Nat):Int)=((0:Nat):Int):=by omega
   simp only [h4,h5,decide_true,decide_false,beq_eq_false_iff_ne.2 h7,beq_eq_false_iff_ne.2 h6,Bool.and_false,Bool.false_and,Bool.or_self,x3]
  ·have h5:((lz z:Int)>2048):=by omega
   simp only [h4,h5,decide_true,decide_false,Bool.true_or,Bool.not_true]
theorem okF_q {x:RF}(ok:okL x.num.mag∧okL x.den.mag)(h:okF x=true):∃ r:Rat,x=rfOf r∧lz r.num≤2048∧lz (r.den:Int)≤2048:=by
 obtain ⟨xn,xd⟩:=x
 simp only [okF,qh,qr] at h ok
 obtain ⟨⟨⟨h1,h2⟩,h3⟩,h4⟩:=h
 obtain ⟨p,rfl,hp⟩:=okRI_z ok.1 h1
 obtain ⟨q,rfl,hq⟩:=okRI_z ok.2 h2
 rw [iy] at h3
 have hq0:0<q:=j9.1 h3
 rw [bg,bg] at h4
 refine ⟨⟨p,q.natAbs,by omega,h4⟩,?_,hp,?_⟩
 ·show RF.mk _ _=RF.mk (riOf p) (riOf (q.natAbs:Nat))
  rw [show ((q.natAbs:Nat):Int)=q by omega]
 ·show lz ((q.natAbs:Nat):Int)≤2048
  rw [show ((q.natAbs:Nat):Int)=q by omega]
  exact hq
theorem okF_of (r:Rat):okF (rfOf r) = !longQ r:=by
 have e:okF (rfOf r)=(decide (lz r.num≤2048)&&decide (lz (r.den:Int)≤2048)):=by
  show (okRI (riOf r.num)&&okRI (riOf (r.den:Int))&&decide (0<sgI (riOf (r.den:Int)))&&decide (Nat.gcd (val (riOf r.num).mag) (val (riOf (r.den:Int)).mag)=1))=_
  rw [k7,k7,iy,bg,bg,ja]
  have hred:Nat.gcd r.num.natAbs r.den=1:=r.reduced
  have:0<(r.den:Int).sign:=j9.2 (by have:=r.den_pos; omega)
  simp [this,hred]
 rw [e]
 cases h:longQ r with
 | false=>have:=longQ_false.1 h; simp [this.1,this.2]
 | true =>
  cases h2:(decide (lz r.num≤2048)&&decide (lz (r.den:Int)≤2048)) with
  | false=>rfl
  | true =>
   simp only [qh,qr] at h2
   rw [longQ_false.2 h2] at h
   cases h
theorem ok1 {b:Bool}(h:(((if b then (0:Int) else 1) != 0))=false):b=true:=by cases b <;> simp at h ⊢
theorem chk_no {x:RF}(h:((((if okRI x.num then (0:Int) else 1) != 0) || ((if okRI x.den then (0:Int) else 1) != 0)) || decide (sgI x.den≤0))=true):(1:Int)=if okF x then 0 else 1:=by
 have:okF x=false:=by
  unfold okF
  cases h1:okRI x.num <;> cases h2:okRI x.den <;> simp [h1,h2] at h ⊢
  omega
 rw [this]; rfl
theorem sg_one {p q:Int}(h:(sg3 ((Int.gcd p q:Nat):Int) 1 != 0)=true):Int.gcd p q≠1:=λ e=>by rw [e] at h; simp [sg3] at h
theorem rf_know {x:RF}(h:(RFA x).va.p B v w):okL x.num.mag∧okL x.den.mag:=by
 obtain ⟨cs,⟨ps,_,hp⟩,_⟩:=h
 cases hp with
 | cons h1 hp=>cases hp with | cons h2 _=>exact ⟨(gH ⟨_,h1,rfl⟩).1,(gH ⟨_,h2,rfl⟩).1⟩
theorem cmp_i {p q:Int}(hp:lz p≤1099511627776)(hq:lz q≤1099511627776):Cn Tryz.prog 59 [Zi p,Zi q] (In (sg3 p q)):=(cmpI_c (riOf p) (riOf q) (by rw [dg]; omega) (by rw [dg]; omega)).post (by rw [cmp_ri])
theorem lz_one:lz 1≤1099511627776:=qg (lz_le (k:=1) zd) zd
theorem checkF_c (xn xd:RI):Cn Tryz.prog 45 [(RFA ⟨xn,xd⟩).va] (In (if okF ⟨xn,xd⟩ then 0 else 1)):=by
 refine Cn.intro Tryz.func45 G zk nq (λ B w0 a U=>?_)
 have U:=zn [(0,(RFA ⟨xn,xd⟩).va)] [] U
 have hok:=rf_know (U.vals (0,(RFA ⟨xn,xd⟩).va) (zm 0 rfl))
 refine qa<|zg [] [⟨1,28,ptrH,some 0,_,none⟩] [.alc 0,.v 2 _] [.o 1] U (zW 0 G (zv G (a6 a5) o0)) (zz [(2,_)] [O 1 28 _] λ a w U=>?_)
 refine zt<|qa<|zg [η] [] [.adr 3 1 (.some 0) True,.v 4 _,.v 5 _,.v 6 _,.v 7 _,.adr 8 1 (.some 2) (_=false),.f 9 _,.f 10 _,.f 11 _,.v 12 _,.v 13 _,.adr 14 1 (.some 2) (_=false),.f 15 _,.f 16 _,.f 17 _,.v 18 _] [.g 0,.o 15] U (zO 0 G bb (zL 0 0 0 G ap (zQ G (check_c _) (.o (vq 1 G)) (zv G (bz (vq 2 G) a5) (zv G (a8 (vq 3 G)) (zC 4 0 G aO (zB 4 G (λ hg=>ax 5 G zk hg (lz0 0 G) (Sub.part 1 G G) ap) (zB 4 G (λ hg=>aW (check_c _) (.o (aa (vq 6 G) hg))) (zB 4 G (λ hg=>bz (aa (vq 7 G) hg) a5) (zv G (r_or (vq 4 G) (vq 8 G)) (zv G (a8 (vq 9 G)) (zC 10 0 G aO (zB 10 G (λ hg=>ax 11 G zk hg (lz0 0 G) (Sub.part 1 G G) ap) (zB 10 G (λ hg=>aW (sign_c _) (.o (aa (vq 12 G) hg))) (zB 10 G (λ hg=>r_leq (aa (vq 13 G) hg) a5) (zv G (r_or (vq 10 G) (vq 14 G)) o0)))))))))))))))) (zz [(2,_),(18,_)] [O 1 28 _] λ a w U=>?_)
 refine a4<|a9 U (zm 1 G) (λ hb0=>?_) (λ hb0=>?_)
 ·refine qa<|zg [η] [] [.v 2 _] [.o 0] U (zv G (a6 a5) o0) (zz [(2,_)] [O 1 28 _] λ a w U=>?_)
  refine a4<|qe<|ab ?_
  refine aq ?_ (ai G U (zm 0 G))
  exact qt In (chk_no hb0)
 ·rw [qI,qI] at hb0
  obtain ⟨p,rfl,hp⟩:=okRI_z hok.1 (ok1 hb0.1.1)
  obtain ⟨q,rfl,hq⟩:=okRI_z hok.2 (ok1 hb0.1.2)
  have hq0:0<sgI (riOf q):=by have h2:¬ sgI (riOf q)≤0:=qx hb0.2; omega
  have hpq:=lz_gcd p q
  refine qk<|zt<|qa<|zg [η] [] [.adr 19 1 (.some 0) True,.v 20 _,.adr 21 1 (.some 2) True,.v 22 _,.v 23 _,.v 24 _,.v 25 _,.v 26 _] [.g 0,.o 7] U (zO 0 G bb (zL 0 0 0 G ap (zO 0 G aO (zL 2 0 1 G ap (zQ G ((common_c p q zo zo).wkp fh) (.p (vq 1 G) (vq 3 G)) (zQ G (of_c 1 zd zd) (.cons a5 .nil) (zQ G (cmp_i zo lz_one) (.p (vq 4 G) (vq 5 G)) (zv G (bz (vq 6 G) a5) o0)))))))) (zz [(2,_),(26,_)] [O 1 28 _] λ a w U=>?_)
  refine a4<|a9 U (zm 1 G) (λ hb1=>?_) (λ hb1=>?_)
  ·refine qa<|zg [η] [] [.v 2 _] [.o 0] U (zv G (a6 a5) o0) (zz [(2,_)] [O 1 28 _] λ a w U=>?_)
   refine a4<|qe<|ab ?_
   refine aq ?_ (ai G U (zm 0 G))
   have e1:=sg_one hb1; exact qt In (by rw [show okF ⟨riOf p,riOf q⟩=false from by unfold okF; rw [bg,bg]; simp [show ¬ Nat.gcd p.natAbs q.natAbs=1 from e1]]; rfl)
  ·refine qk<|zt<|zg [η] [] [.v 2 _] [.o 0] U (zv G (a6 a5) o0) (zz [(2,_)] [O 1 28 _] λ a w U=>?_)
   refine a4<|qe<|aq ?_ (ai G U (zm 0 G))
   have e1:=gcd_one hb1; exact qt In (by rw [show okF ⟨riOf p,riOf q⟩=true from by unfold okF; rw [bg,bg,ok1 hb0.1.1,ok1 hb0.1.2]; simp [hq0,show Nat.gcd p.natAbs q.natAbs=1 from e1]]; rfl)
def okLb (l:List Nat):Bool:=l.all λ x=>decide (x<4294967296)
theorem okLb_iff {l:List Nat}:okLb l=true↔okL l:=by simp [okLb,okL]
def okX (x:RF):Bool:=okLb x.num.mag&&okLb x.den.mag&&okF x
def zI (x:RI):Int:=if x.neg then -(val x.mag:Nat) else (val x.mag:Nat)
def toQ (x:RF):Rat:=Rat.divInt (zI x.num) (zI x.den)
theorem zI_ri (z:Int):zI (riOf z)=z:=by
 unfold zI
 rw [bg]
 by_cases h:z<0 <;> simp [riOf,h] <;> omega
theorem fj (r:Rat):toQ (rfOf r)=r:=by
 show Rat.divInt (zI (riOf r.num)) (zI (riOf (r.den:Int)))=r
 rw [zI_ri,zI_ri]
 exact x7 r
theorem okX_know {x:RF}(h:okL x.num.mag∧okL x.den.mag):okX x=okF x:=by rw [okX,okLb_iff.2 h.1,okLb_iff.2 h.2]; rfl
theorem k6 {x:RF}(h:okX x=true):x=rfOf (toQ x)∧lz (toQ x).num≤2048∧lz ((toQ x).den:Int)≤2048:=by
 simp only [okX,qh] at h
 obtain ⟨r,rfl,h1⟩:=okF_q ⟨okLb_iff.1 h.1.1,okLb_iff.1 h.1.2⟩ h.2
 rw [fj]
 exact ⟨rfl,h1⟩
theorem okX_of (r:Rat):okX (rfOf r) = !longQ r:=by
 rw [okX_know ⟨ok_ri _,ok_ri _⟩,okF_of]
abbrev rf0:RF:=⟨⟨false,[]⟩,⟨false,[]⟩⟩
theorem ex_check : ∃ fn, Tryz.prog.funcs[45]? = some fn ∧ (fn.name == "runtime.NumGoroutine") = false ∧ fn.body.isNone = false := ⟨_, Tryz.func45, by kernel_rfl, by kernel_rfl⟩
theorem check_x (x:RF):Cn Tryz.prog 45 [(RFA x).va] (In (if okX x then 0 else 1)) :=
 Cn.know (c:=okL x.num.mag∧okL x.den.mag) ex_check (λ B w args ha=>by cases ha with | cons h1 _=>exact rf_know h1) λ h=>(checkF_c x.num x.den).post (by rw [okX_know h])
theorem ok_no {l:List RF}{j:Nat}(h:j<l.length)(h2:((if okX l[j] then (0:Int) else 1) != 0)=true):false=l.all okX:=by
 have h3:okX l[j]=false:=by cases hh:okX l[j] <;> simp [hh] at h2 ⊢
 exact (j3.2 ⟨_,qi h,by simp [h3]⟩).symm
theorem ok_yes {l:List RF}{j:Nat}(h:j<l.length)(h1:(l.take j).all okX=true)(h2:((if okX l[j] then (0:Int) else 1) != 0)=false):(l.take (j+1)).all okX=true:=by
 rw [qu h,kl,h1]
 simp [ok1 h2]
theorem i6 (xs:List RF)(hl:xs.length≤1099511627776):Cn Tryz.prog 30 [(SlA 28 [U32] (xs.map RFA)).va] (Bo (xs.all okX)):=by
 refine Cn.introW Tryz.func30 rfl zk nq (.cons (up_sl (λ A hA=>by obtain ⟨x,_,rfl⟩:=qp.1 hA; exact ik x)).va .nil) (fI _).va (λ B w0 a hB0 U=>?_)
 have U:=zn [(0,(SlO 28 [U32] (xs.map RFA) True).va)] [] U
 refine qa<|zh [.v 2 _] [.g 0,.o 0] U (zv G (a6 aH) o0) (zz [(0,_),(2,_)] [] λ a w U=>?_)
 refine zt<|qa<|zh [.v 5 _,.v 6 _,.v 7 _] [.g 1,.o 0,.o 1,.o 2] U (zM 0 G (zv G (bn Tryz.underlying22 (aV (ao (vq 0 G)))) (zv G (a8 a5) o0))) (zz [(2,_),(5,_),(6,_),(7,_)] [] λ a w U=>?_)
 refine a4<|qq ?_
 have U:=St.sel U [1,2,3]
 refine wp_loop_ghost (λ n a w=>∃ j:Nat,(n+j=xs.length∧(xs.take j).all okX=true)∧St B w0 15 [(5,(SlO 28 [U32] (xs.map RFA) True).va),(6,In (xs.length:Nat)),(7,In (j:Nat))] [] a w) (xs.length) ?_ ?_
 ·exact ⟨0,⟨by omega,rfl⟩,by rw [qc] at U; exact U⟩
 intro n a w hI
 obtain ⟨j,⟨hn,hno⟩,U⟩:=hI
 refine qa<|zh [.v 8 _] [.g 0,.g 1,.g 2,.o 0] U (zv G (aX (gq 2 G) (gq 1 G)) o0) (zz [(5,_),(6,_),(7,_),(8,_)] [] λ a w U=>?_)
 refine zt<|a9 U (zm 3 G) (λ hb0=>?_) (λ hb0=>?_)
 ·have hj:j<xs.length:=by simp at hb0; omega
  refine qk<|zt<|qq<|qa<|zg [] [⟨4,28,ptrH,some 2,_,some (3,_)⟩] [.v 9 _,.v 10 _,.alc 0,.sto 0] [.g 0,.g 1,.g 2] U (zv G (cn dM (cE λ _=>rfl) (aV (ao (gq 0 G))) (gq 2 G) (bI hj)) (zv G (am (vq 0 G) ac) (zY G (Str.zero aA) (zS 1 G ac o0)))) (zz [(5,_),(6,_),(7,_)] [O 4 28 _] λ a w U=>?_)
  refine zt<|zg [η] [] [.v 11 _,.v 12 _,.v 13 _] [.g 0,.g 1,.g 2,.o 2] U (zl 0 G ac (zQ G (check_x _) (.o (vq 0 G)) (zv G (bz (vq 1 G) a5) o0))) (zz [(5,_),(6,_),(7,_),(13,_)] [O 4 28 _] λ a w U=>?_)
  refine a4<|a9 U (zm 3 G) (λ hb1=>?_) (λ hb1=>?_)
  ·refine qa<|zg [η] [] [.v 2 _] [.g 0,.g 1,.g 2,.o 0] U (zv G (a6 aH) o0) (zz [(5,_),(6,_),(7,_),(2,_)] [O 4 28 _] λ a w U=>?_)
   refine a4<|qe<|aD ?_
   refine ab ?_
   refine ab ?_
   refine aD ?_
   refine ab ?_
   refine aq ?_ (ai G U (zm 3 G))
   rw [← ok_no hj hb1]
  ·refine qk<|al ?_
   refine a4<|zg [η] [] [.v 14 _,.v 7 _] [.g 0,.g 1,.o 1] U (zv G (aJ (gq 2 G) a5 (bk zo)) (zv G (a8 (vq 0 G)) o0)) (zz [(5,_),(6,_),(7,_)] [O 4 28 _] λ a w U=>?_)
   refine a4 ?_
   have U:=St.sel U [0,1,2]
   have U:=St.selL U []
   exact ⟨n-1,by omega,j+1,⟨by omega,ok_yes hj hno hb1⟩,U⟩
 ·obtain rfl:j=xs.length:=by simp at hb0; omega
  refine za<|ak<|ak<|aC<|zt<|zh [.v 2 _] [.o 0] U (zv G (a6 aH) o0) (zz [(2,_)] [] λ a w U=>?_)
  refine a4<|qe<|aq ?_ (ai G U (zm 0 G))
  rw [qO] at hno; rw [hno]
def ansF (q:Rat):RF × Int:=if longQ q then (rf0,4) else (rfOf q,0)
abbrev FrR (r:RF × Int):VA:=Tu [(RFA r.1).va,In r.2]
theorem rq_wk {k:Nat}{r:Rat}:Wk (Qs k r) (RFA (rfOf r)).va:=qaA.va
theorem tu2w {a b c d:VA}(h:Wk a c)(h':Wk b d):Wk (Tu [a,b]) (Tu [c,d]):=tu_wk (.cons h (.cons h' .nil))
theorem dB {q:Rat}:[q].any longQ=longQ q:=by simp
theorem ne0 {b:Bool}:((if b then (4:Int) else 0) != 0)=b:=by cases b <;> rfl
theorem has_wk' {R:Rg}{i:Nat}{x:Operand}{A A':VA}(h:Has R B w0 i x A)(hw:Wk A A'):Has R B w0 i x A':=λ a w av=>hw _ _ _ (h a w av)
theorem answered_q {c:Nat}{x:Rat}(hc:c≤549755813888):Cn Tryz.prog 75 [Qs c x] (FrR (ansF x)):=by
 refine Cn.intro Tryz.func75 G zk nq (λ B w0 a U=>?_)
 have U:=zn [(0,Qs c x)] [] U
 refine qa<|zg [] [⟨1,28,ptrH,some 0,_,none⟩,⟨2,28,ptrH,some 1,_,none⟩] [.alc 0,.alc 1,.v 3 _] [.o 2] U (zW 0 G (zY G (Str.zero aA) (zv G (a6 a5) o0))) (zz [(3,_)] [O 1 28 _,O 2 28 _] λ a w U=>?_)
 refine zt<|qa<|zg [η,η] [] [.v 5 _,.v 6 _,.v 7 _,.v 4 _] [.g 0,.o 3] U (zl 0 G ac (zv G (bB (D:=[U32]) (l:=[_]) (xs:=[.tmp 5]) (cU zk) dM zk (n_ok zk) nq nq nq (.o (vq 0 G)) G G) (zQ G ((fg [x] (.cons ⟨_,rfl⟩ .nil) nq)) (.o (vq 1 G)) (zA 2 G o0)))) (zz [(3,_),(4,_)] [O 1 28 _,O 2 28 _] λ a w U=>?_)
 refine zt<|zg [η,η] [] [.v 8 _,.v 9 _] [.g 0,.g 1,.o 1] U (zM 1 G (zv G (bz (vq 0 G) a5) o0)) (zz [(3,_),(4,_),(9,_)] [O 1 28 _,O 2 28 _] λ a w U=>?_)
 refine a4<|a9 U (zm 2 G) (λ hb0=>?_) (λ hb0=>?_)
 ·rw [dB,ne0] at hb0
  refine qa<|zg [η,some (2,_)] [] [.v 10 _,.v 11 _,.sto 1,.v 3 _] [.o 3] U (zv G (aI (qs:=[]) aA .nil) (zM 1 G (zS 0 G ac (zA 1 G o0)))) (zz [(3,_)] [O 1 28 _,O 2 28 _] λ a w U=>?_)
  refine a4<|qe<|ab ?_
  refine aj ?_ (aB (rs:=[.cell 2 28,.tmp 3]) G U (.cell (zm 1 G) ac (.tmp (zm 0 G) .nil)) zd)
  rw [ansF,ql hb0]; exact tu2w ay (bA (by rw [dB,hb0]; rfl))
 ·rw [dB,ne0] at hb0
  refine qk<|zt<|zg [η,some (2,_)] [] [.v 12 _,.v 13 _,.sto 1,.v 3 _] [.o 3] U (zl 0 G ac (zQ G (iO zo) (.o (vq 0 G)) (zS 1 G ac (zv G (a6 a5) o0)))) (zz [(3,_)] [O 1 28 _,O 2 28 _] λ a w U=>?_)
  refine a4<|qe<|aj ?_ (aB (rs:=[.cell 2 28,.tmp 3]) G U (.cell (zm 1 G) ac (.tmp (zm 0 G) .nil)) zd)
  rw [ansF,qj (by rw [hb0]; decide)]; exact tu2w rq_wk ay
theorem two_ok {x y:RF}:[x,y].all okX=(okX x&&okX y):=by simp
def cmF (x y:RF):Int:=if okX x&&okX y then cmQ (toQ x) (toQ y) else 0
theorem ex_checkI : ∃ fn, Tryz.prog.funcs[77]? = some fn ∧ (fn.name == "runtime.NumGoroutine") = false ∧ fn.body.isNone = false := ⟨_, Tryz.func77, by kernel_rfl, by kernel_rfl⟩
theorem check_z {c:Nat}{p:Int}(hc:c≤2048):Cn Tryz.prog 77 [Zs c p] (In 0):=zs1 ex_checkI λ h=>(check_c (riOf p)).post (by rw [k7,qK (by omega:lz p≤2048)]; rfl)
theorem lz_i64 {p:Int}(h0 : -9223372036854775808≤p)(h1:p<9223372036854775808):lz p≤2:=lz_le zo
theorem ansF_ok {q:Rat}(h:lz q.num≤2048∧lz (q.den:Int)≤2048):ansF q=(rfOf q,0):=by rw [ansF,longQ_false.2 h]; rfl
theorem ansF_low {p q:Int}(hq:q≠0)(hp:lz p≤2)(h2:lz q≤2):ansF (Rat.divInt p q)=(rfOf (Rat.divInt p q),0):=by
 have:=dT (p:=p) hq
 exact ansF_ok zo
theorem make_q {p q:Int}(hq:q≠0):Cn Tryz.prog 90 [Zs 2 p,Zs 2 q] (FrR (ansF (Rat.divInt p q))):=by
 refine Cn.intro Tryz.func90 G zk nq (λ B w0 a U=>?_)
 have U:=zn [(0,Zs 2 p),(1,Zs 2 q)] [] U
 refine qa<|zg [] [⟨2,26,ptrH,some 0,_,none⟩,⟨3,26,ptrH,some 1,_,none⟩,⟨4,28,ptrH,some 2,_,none⟩] [.alc 0,.alc 1,.alc 2,.v 5 _] [.o 3] U (zW 0 G (zW 1 G (zY G (Str.zero aA) (zv G (a6 a5) o0)))) (zz [(5,_)] [O 2 26 _,O 3 26 _,O 4 28 _] λ a w U=>?_)
 refine zt<|qa<|zg [η,η,η] [] [.v 6 _,.v 7 _,.v 8 _,.v 9 _,.f 10 _,.f 11 _,.f 12 _,.v 13 _] [.g 0,.o 7] U (zl 0 G ap (zQ G (check_z zd) (.o (vq 0 G)) (zv G (bz (vq 1 G) a5) (zv G (a8 (vq 2 G)) (zB 3 G (λ hg=>dh (lz0 1 G) ap) (zB 3 G (λ hg=>aW (check_z zd) (.o (aa (vq 4 G) hg))) (zB 3 G (λ hg=>bz (aa (vq 5 G) hg) a5) (zv G (r_or (vq 3 G) (vq 6 G)) o0)))))))) (zz [(5,_),(13,_)] [O 2 26 _,O 3 26 _,O 4 28 _] λ a w U=>?_)
 refine a4<|a9 U (zm 1 G) (λ hb0=>?_) (λ hb0=>?_)
 ·exact absurd hb0 zd
 ·refine qk<|zt<|qa<|zg [η,η,η] [] [.v 15 _,.v 16 _,.v 17 _] [.g 0,.o 2] U (zl 1 G ap (zQ G sign_z (.o (vq 0 G)) (zv G (bv (vq 1 G) a5) o0))) (zz [(5,_),(17,_)] [O 2 26 _,O 3 26 _,O 4 28 _] λ a w U=>?_)
  refine a4<|a9 U (zm 1 G) (λ hb1=>?_) (λ hb1=>?_)
  ·exact absurd hb1 (by simpa using hq)
  ·refine qk<|zt<|zg [η,η,some (6,_)] [] [.v 19 _,.v 20 _,.v 21 _,.v 22 _,.v 23 _,.v 24 _,.sto 2,.v 5 _] [.o 7] U (zl 0 G ap (zl 1 G ap (zQ G (dC zd zd hq) (.p (vq 0 G) (vq 1 G)) (zQ G (answered_q zd) (.o (vq 2 G)) (zv G (eh (vq 3 G)) (zv G (ee (vq 3 G)) (zS 4 G ac (zA 5 G o0)))))))) (zz [(5,_)] [O 2 26 _,O 3 26 _,O 4 28 _] λ a w U=>?_)
   refine a4<|qe<|aj ?_ (aB (rs:=[.cell 4 28,.tmp 5]) G U (.cell (zm 2 G) ac (.tmp (zm 0 G) .nil)) zd)
   exact ay
theorem ofQ_c {p q:Int}(hp : -9223372036854775808≤p)(hp1:p<9223372036854775808)(hq0 : -9223372036854775808≤q)(hq1:q<9223372036854775808)(hq:q≠0):Cn Tryz.prog 65 [In p,In q] (FrR (rfOf (Rat.divInt p q),0)):=by
 refine Cn.intro Tryz.func65 G zk nq (λ B w0 a U=>?_)
 have U:=zn [(0,In p),(1,In q)] [] U
 refine qa<|zg [] [⟨4,28,ptrH,some 0,_,none⟩] [.alc 0,.v 5 _] [.g 0,.g 1,.o 1] U (zY G (Str.zero aA) (zv G (a6 a5) o0)) (zz [(0,_),(1,_),(5,_)] [O 4 28 _] λ a w U=>?_)
 refine zt<|zg [some (7,_)] [] [.v 6 _,.v 7 _,.v 8 _,.v 9 _,.v 10 _,.v 11 _,.v 12 _,.sto 0,.v 5 _] [.o 8] U (zM 0 G (zQ G (of_z hp hp1) (.o (vq 0 G)) (zM 1 G (zQ G (of_z hq0 hq1) (.o (vq 2 G)) (zQ G (make_q hq) (.p (vq 1 G) (vq 3 G)) (zv G (eh (vq 4 G)) (zv G (ee (vq 4 G)) (zS 5 G ac (zA 6 G o0))))))))) (zz [(5,_)] [O 4 28 _] λ a w U=>?_)
 refine a4<|qe<|aj ?_ (aB (rs:=[.cell 4 28,.tmp 5]) G U (.cell (zm 0 G) ac (.tmp (zm 0 G) .nil)) zd)
 rw [← ansF_low hq (lz_i64 hp hp1) (lz_i64 hq0 hq1)]; exact ay
theorem cF (x y:RF):Cn Tryz.prog 11 [(RFA x).va,(RFA y).va] (In (cmF x y)):=by
 refine Cn.intro Tryz.func11 G zk nq (λ B w0 a U=>?_)
 have U:=zn [(0,(RFA x).va),(1,(RFA y).va)] [] U
 refine qa<|zg [] [⟨2,28,ptrH,some 0,_,none⟩,⟨3,28,ptrH,some 1,_,none⟩] [.alc 0,.alc 1,.v 4 _] [.o 2] U (zW 0 G (zW 1 G (zv G (a6 a5) o0))) (zz [(4,_)] [O 2 28 _,O 3 28 _] λ a w U=>?_)
 refine zt<|qa<|zg [η,η] [] [.v 5 _,.v 6 _,.v 7 _,.v 8 _,.v 9 _] [.g 0,.o 4] U (zl 0 G ac (zl 1 G ac (zv G (bB (D:=[U32]) (l:=[_,_]) (xs:=[.tmp 5,.tmp 6]) (cU zk) dM zk (n_ok zk) nq nq nq (.p (vq 0 G) (vq 1 G)) G G) (zQ G (i6 [x,y] nq) (.o (vq 2 G)) (zv G (fu (vq 3 G)) o0))))) (zz [(4,_),(9,_)] [O 2 28 _,O 3 28 _] λ a w U=>?_)
 refine a4<|a9 U (zm 1 G) (λ hb0=>?_) (λ hb0=>?_)
 ·rw [two_ok] at hb0
  refine qa<|zg [η,η] [] [.v 4 _] [.o 0] U (zv G (a6 a5) o0) (zz [(4,_)] [O 2 28 _,O 3 28 _] λ a w U=>?_)
  refine a4<|qe<|ab ?_
  refine aj ?_ (ai G U (zm 0 G))
  exact bA (by rw [cmF,qj (by intro hh; rw [hh] at hb0; exact absurd hb0 zd)])
 ·rw [two_ok,xG,qh] at hb0
  have hx:=k6 hb0.1
  have hy:=k6 hb0.2
  refine qk<|zt<|zg [η,η] [] [.v 10 _,.v 11 _,.v 12 _,.v 4 _] [.o 3] U (zl 0 G ac (zl 1 G ac (zQ G ((cmp_q zd).wk (.cons (bN (bA (qt (λ y=>(RFA y).va) hx.1)) (qa_of hx.2.1 hx.2.2).va) (.cons (bN (bA (qt (λ y=>(RFA y).va) hy.1)) (qa_of hy.2.1 hy.2.2).va) .nil))) (.p (vq 0 G) (vq 1 G)) (zA 2 G o0)))) (zz [(4,_)] [O 2 28 _,O 3 28 _] λ a w U=>?_)
  refine a4<|qe<|aj ?_ (ai G U (zm 0 G))
  exact bA (by rw [cmF,ql (by rw [hb0.1,hb0.2]; rfl)])
structure RG where
 re:RF
 im:RF
 deriving DecidableEq
structure RM where
 a:RF
 b:RF
 c:RF
 d:RF
 deriving DecidableEq
structure RR where
 y:RF
 u:RF
 deriving DecidableEq
structure GQ where
 re:Rat
 im:Rat
 deriving DecidableEq
structure MQ where
 a:Rat
 b:Rat
 c:Rat
 d:Rat
 deriving DecidableEq
structure YQ where
 y:Rat
 u:Rat
 deriving DecidableEq
def RMA (x:RM):As:=cat [RFA x.a,RFA x.b,RFA x.c,RFA x.d]
def QMA (k:Nat)(x:MQ):As:=cat [QA k x.a,QA k x.b,QA k x.c,QA k x.d]
abbrev rm0:RM:=⟨rf0,rf0,rf0,rf0⟩
def rmOf (m:MQ):RM:=⟨rfOf m.a,rfOf m.b,rfOf m.c,rfOf m.d⟩
def toM (x:RM):MQ:=⟨toQ x.a,toQ x.b,toQ x.c,toQ x.d⟩
def detM (m:MQ):Rat:=m.a*m.d-m.b*m.c
theorem qa_x {k:Nat}{x:RF}(h:okX x=true)(hk:2048≤k):WkA (RFA x) (QA k (toQ x)):=by
 obtain ⟨h1,h2,h3⟩:=k6 h
 exact (eO (qt RFA h1)).trans (qa_of (qg h2 hk) (qg h3 hk))
theorem qm_x {x:RM}(h:[x.a,x.b,x.c,x.d].all okX=true):WkA (RMA x) (QMA 2048 (toM x)):=by
 simp only [xa,xm,xc,qh] at h
 exact aS (.cons (qa_x h.1 (qf _)) (.cons (qa_x h.2.1 (qf _)) (.cons (qa_x h.2.2.1 (qf _)) (.cons (qa_x h.2.2.2 (qf _)) .nil))))
theorem qmA {k:Nat}{x:MQ}:WkA (QMA k x) (RMA (rmOf x)):=aS (.cons qaA (.cons qaA (.cons qaA (.cons qaA .nil))))
def okM (m:RM):Bool:=[m.a,m.b,m.c,m.d].all okX&&decide (detM (toM m)=1)
theorem cm_ne {x y:Rat}:(cmQ x y != 0) = !decide (x=y):=by
 unfold cmQ
 by_cases h:x<y
 ·rw [ql h]; simp [Rat.ne_of_lt h]
 ·rw [qj h]
  by_cases h2:y<x
  ·rw [ql h2]; simp [Rat.ne_of_gt h2]
  ·rw [qj h2]
   have:x=y:=Rat.le_antisymm (Rat.not_lt.1 h2) (Rat.not_lt.1 h)
   simp [this]
theorem all4 {m:RM}(h:(![m.a,m.b,m.c,m.d].all okX)=false):[m.a,m.b,m.c,m.d].all okX=true:=by simpa using h
theorem aF:Str Tryz.prog 79 [RFA rf0,RFA rf0,RFA rf0,RFA rf0] :=
 Str.of (z:=.agg #[.bool false,.slice none 0 0,.bool false,.slice none 0 0,.bool false,.slice none 0 0,.bool false,.slice none 0 0,.bool false,.slice none 0 0,.bool false,.slice none 0 0,.bool false,.slice none 0 0,.bool false,.slice none 0 0]) zk Tryz.underlying79 zk λ B w=>⟨[[.bool false,.slice none 0 0,.bool false,.slice none 0 0],[.bool false,.slice none 0 0,.bool false,.slice none 0 0],[.bool false,.slice none 0 0,.bool false,.slice none 0 0],[.bool false,.slice none 0 0,.bool false,.slice none 0 0]],rfl,(.cons (dk B w) (.cons (dk B w) (.cons (dk B w) (.cons (dk B w) .nil))))⟩
theorem str_ray:Str Tryz.prog 101 [RFA rf0,RFA rf0] :=
 Str.of (z:=.agg #[.bool false,.slice none 0 0,.bool false,.slice none 0 0,.bool false,.slice none 0 0,.bool false,.slice none 0 0]) zk Tryz.underlying101 zk λ B w=>⟨[[.bool false,.slice none 0 0,.bool false,.slice none 0 0],[.bool false,.slice none 0 0,.bool false,.slice none 0 0]],rfl,(.cons (dk B w) (.cons (dk B w) .nil))⟩
theorem rdet_q {c d e f:Nat}{x y z u:Rat}(hk:c+d+e+f≤137438953472):Cn Tryz.prog 94 [Qs c x,Qs d y,Qs e z,Qs f u] (Qs (c+f+(d+e)+1) (x*u-y*z)):=by
 refine Cn.intro Tryz.func94 G zk nq (λ B w0 a U=>?_)
 have U:=zn [(0,Qs c x),(1,Qs d y),(2,Qs e z),(3,Qs f u)] [] U
 refine qa<|zg [] [⟨4,28,ptrH,some 0,_,none⟩,⟨5,28,ptrH,some 1,_,none⟩,⟨6,28,ptrH,some 2,_,none⟩,⟨7,28,ptrH,some 3,_,none⟩,⟨8,28,ptrH,some 4,_,none⟩] [.alc 0,.alc 1,.alc 2,.alc 3,.alc 4] [] U (zW 0 G (zW 1 G (zW 2 G (zW 3 G (zY G (Str.zero aA) o0))))) (zz [] [O 4 28 _,O 5 28 _,O 6 28 _,O 7 28 _,O 8 28 _] λ a w U=>?_)
 refine zt<|zgd [[],[],[0,1],[],[],[0,1,2,3,4],[0,1,2,3,4,5],[0,1,2,3,4,5,6]] [none,none,none,none,some (7,_)] [] [.v 9 _,.v 10 _,.v 11 _,.v 12 _,.v 13 _,.v 14 _,.v 15 _,.sto 4] [] a7 U (zl 0 G ac (zl 3 G ac (zQ G (cB zo) (.p (vq 0 G) (vq 1 G)) (zl 1 G ac (zl 2 G ac (zQ G (cB zo) (.p (vq 3 G) (vq 4 G)) (zQ G (fB zo) (.p (vq 2 G) (vq 5 G)) (zS 6 G ac o0)))))))) zk zk zk zk (zz [] [O 4 28 _,O 5 28 _,O 6 28 _,O 7 28 _,O 8 28 _] λ a w U=>?_)
 refine a4<|qe<|aj ?_ (au G U (zm 4 G) ac)
 exact ay
theorem chkM_yes {m:RM}(h:((![m.a,m.b,m.c,m.d].all okX) || (cmQ (toQ m.a*toQ m.d-toQ m.b*toQ m.c) 1 != 0))=true):(1:Int)=if okM m then 0 else 1:=by
 have:okM m=false:=by
  unfold okM
  rw [cm_ne] at h
  show ([m.a,m.b,m.c,m.d].all okX&&decide (toQ m.a*toQ m.d-toQ m.b*toQ m.c=1))=false
  cases h1:[m.a,m.b,m.c,m.d].all okX
  ·rfl
  ·rw [h1] at h; simpa using h
 rw [this]; rfl
theorem chkM_no {m:RM}(h:((![m.a,m.b,m.c,m.d].all okX) || (cmQ (toQ m.a*toQ m.d-toQ m.b*toQ m.c) 1 != 0))=false):(0:Int)=if okM m then 0 else 1:=by
 have:okM m=true:=by
  unfold okM
  rw [cm_ne] at h
  show ([m.a,m.b,m.c,m.d].all okX&&decide (toQ m.a*toQ m.d-toQ m.b*toQ m.c=1))=true
  cases h1:[m.a,m.b,m.c,m.d].all okX
  ·rw [h1] at h; simp at h
  ·rw [h1] at h; simpa using h
 rw [this]; rfl
theorem det_x {m:RM}(h:(![m.a,m.b,m.c,m.d].all okX)=false):Cn Tryz.prog 94 [(RFA m.a).va,(RFA m.b).va,(RFA m.c).va,(RFA m.d).va] (Qs 8193 (toQ m.a*toQ m.d-toQ m.b*toQ m.c)):=by
 have h4:=all4 h
 simp only [xa,xm,xc,qh] at h4
 exact (rdet_q (c:=2048) (d:=2048) (e:=2048) (f:=2048) zd).wk (.cons (qa_x h4.1 (qf _)).va (.cons (qa_x h4.2.1 (qf _)).va (.cons (qa_x h4.2.2.1 (qf _)).va (.cons (qa_x h4.2.2.2 (qf _)).va .nil))))
theorem rayCheck_c (m:RM):Cn Tryz.prog 69 [(RMA m).va] (In (if okM m then 0 else 1)):=by
 refine Cn.intro Tryz.func69 G zk nq (λ B w0 a U=>?_)
 have U:=zn [(0,(RMA m).va)] [] U
 refine qa<|zg [] [⟨1,79,ptrH,some 0,_,none⟩] [.alc 0,.v 2 _] [.o 1] U (zW 0 G (zv G (a6 a5) o0)) (zz [(2,_)] [O 1 79 _] λ a w U=>?_)
 refine zt<|qa<|gl (sts:=[none]) (news:=[]) (sp:=((.adr 3 1 (.some 0) True:Sp)::(.v 4 _)::(.adr 5 1 (.some 4) True)::(.v 6 _)::(.adr 7 1 (.some 8) True)::(.v 8 _)::(.adr 9 1 (.some 12) True)::(.v 10 _)::(.v 11 _)::(.v 12 _)::(.v 13 _)::(.v 14 _)::(.adr 15 1 (.some 0) (_=false))::(.f 16 _)::(.adr 17 1 (.some 4) (_=false))::(.f 18 _)::(.adr 19 1 (.some 8) (_=false))::(.f 20 _)::(.adr 21 1 (.some 12) (_=false))::(.f 22 _)::(.f 23 _)::(.f 24 _)::(.f 25 _)::(.f 26 _)::(.v 27 _)::[])) [.g 0,.o 24] U (zO 0 G cN (zL 0 0 0 G ac (zO 0 G cc (zL 2 0 1 G ac (zO 0 G c4 (zL 4 0 2 G ac (zO 0 G cM (zL 6 0 3 G ac (zv G (bB (D:=[U32]) (l:=[_,_,_,_]) (xs:=[.tmp 4,.tmp 6,.tmp 8,.tmp 10]) (cU zk) dM zk (n_ok zk) nq nq nq (.cons (vq 1 G) (.cons (vq 3 G) (.p (vq 5 G) (vq 7 G)))) G G) (zQ G (i6 [m.a,m.b,m.c,m.d] nq) (.o (vq 8 G)) (zv G (fu (vq 9 G)) (zv G (a8 (vq 10 G)) (zC 11 0 G cN (zB 11 G (λ hg=>ax 12 G zk hg (lz0 0 G) (Sub.part 0 G G) ac) (zC 11 0 G cc (zB 11 G (λ hg=>ax 14 G zk hg (lz0 0 G) (Sub.part 1 G G) ac) (zC 11 0 G c4 (zB 11 G (λ hg=>ax 16 G zk hg (lz0 0 G) (Sub.part 2 G G) ac) (zC 11 0 G cM (zB 11 G (λ hg=>ax 18 G zk hg (lz0 0 G) (Sub.part 3 G G) ac) (zB 11 G (λ hg=>aW (det_x hg) (.cons (aa (vq 13 G) hg) (.cons (aa (vq 15 G) hg) (.p (aa (vq 17 G) hg) (aa (vq 19 G) hg))))) (zB 11 G (λ hg=>aW one_q .nil) (zB 11 G (λ hg=>aW (cmp_q zo) (.p (aa (vq 20 G) hg) (aa (vq 21 G) hg))) (zB 11 G (λ hg=>bz (aa (vq 22 G) hg) a5) (zv G (r_or (vq 11 G) (vq 23 G)) o0))))))))))))))))))))))))) (zz [(2,_),(27,_)] [O 1 79 _] λ a w U=>?_)
 refine a4<|a9 U (zm 1 G) (λ hb0=>?_) (λ hb0=>?_)
 ·refine qa<|zg [η] [] [.v 2 _] [.o 0] U (zv G (a6 a5) o0) (zz [(2,_)] [O 1 79 _] λ a w U=>?_)
  refine a4<|qe<|ab ?_
  refine aj ?_ (ai G U (zm 0 G))
  exact bA (qt In (chkM_yes hb0))
 ·refine qk<|zt<|zg [η] [] [.v 2 _] [.o 0] U (zv G (a6 a5) o0) (zz [(2,_)] [O 1 79 _] λ a w U=>?_)
  refine a4<|qe<|aj ?_ (ai G U (zm 0 G))
  exact bA (qt In (chkM_no hb0))
theorem okM_q {m:RM}(h:okM m=true):[m.a,m.b,m.c,m.d].all okX=true∧detM (toM m)=1:=by
 unfold okM at h
 rw [qh,qr] at h
 exact h
theorem tu3w {a b c d e f:VA}(h:Wk a d)(h':Wk b e)(h'':Wk c f):Wk (Tu [a,b,c]) (Tu [d,e,f]):=tu_wk (.cons h (.cons h' (.cons h'' .nil)))
end Go.Proofs.YtlakjmncfooodaaGreat
