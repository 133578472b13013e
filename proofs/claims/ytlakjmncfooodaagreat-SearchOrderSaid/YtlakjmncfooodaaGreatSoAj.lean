import Derived.Test.YtlakjmncfooodaaGreatSoAi
set_option linter.all false
set_option maxRecDepth 100000
namespace Go.Proofs.YtlakjmncfooodaaGreat
open Go Go.RowKit
variable {w:World}{B:Nat}{a:Act}{v:Value}{T:TypeId}{w0:Bs}{Γ:List (Nat × VA)}{Λ:List Lc}{ps:String}{af:Array Edge}{vr:Value}{H:Hd}{cs:List Value}{w':World}{P:Program}{D:List TypeId}
theorem rat_add (x y:Rat):Rat.divInt (x.num*(y.den:Int)+y.num*(x.den:Int)) ((x.den:Int)*(y.den:Int))=x+y:=by
 rw [Rat.add_def',← x8,xu]
theorem rat_sub (x y:Rat):Rat.divInt (x.num*(y.den:Int)-y.num*(x.den:Int)) ((x.den:Int)*(y.den:Int))=x-y:=by
 rw [Rat.sub_def',← x8,xu]
theorem rat_mul (x y:Rat):Rat.divInt (x.num*y.num) ((x.den:Int)*(y.den:Int))=x*y:=by
 rw [Rat.mul_def',← x8,xu]
theorem rat_div (x y:Rat):Rat.divInt (x.num*(y.den:Int)) ((x.den:Int)*y.num)=x/y:=by
 rw [Rat.div_def,Rat.inv_def,← Rat.divInt_mul_divInt,xV]
theorem den_nz (x y:Rat):(x.den:Int)*(y.den:Int)≠0:=jh (by have:=x.den_pos; omega) (by have:=y.den_pos; omega)
theorem num_nz (x:Rat){y:Rat}(h:y≠0):(x.den:Int)*y.num≠0:=jh (by have:=x.den_pos; omega) (λ e=>h (Rat.num_eq_zero.1 e))
def cmQ (x y:Rat):Int:=if x<y then -1 else if y<x then 1 else 0
theorem cm_sg (x y:Rat):sg3 (x.num*(y.den:Int)) (y.num*(x.den:Int))=cmQ x y:=by
 unfold sg3 cmQ
 simp only [Rat.lt_iff]
theorem copy_e (x:Rat):cat [RIA (riOf (x.num+0)),RIA (riOf ((x.den:Int)+0))]=RFA (rfOf x):=by rw [xy,xy]; rfl
theorem q0_wk {k:Nat}:WkA (cat [RIA ⟨false,[]⟩,ZA k 1]) (QA k 0):=aS (.cons ((eQ (show RIA ⟨false,[]⟩=RIA (riOf 0) from by simp [riOf,bc])).trans (za_of (by simp [lz,bc]))) (.cons (WkA.refl _) .nil))
theorem ei  : Cn Tryz.prog 58 [] (Qs 2 0):=by
 refine Cn.intro Tryz.func58 G zk nq (λ B w0 a U=>?_)
 have U:=zn [] [] U
 refine qa<|zg [] [⟨0,28,ptrH,some 0,_,none⟩] [.alc 0] [] U (zY G (Str.zero ap) o0) (zz [] [O 0 28 _] λ a w U=>?_)
 refine zt<|zg [some (2,_)] [] [.v 1 _,.v 2 _,.sto 0] [] U (zQ G (of_z zd zd) (.cons a5 .nil) (zv G (aI (qs:=[(1,_)]) ap (.cons ⟨rfl,vq 0 rfl,rfl⟩ .nil)) (zS 1 G aa o0))) (zz [] [O 0 28 _] λ a w U=>?_)
 refine a4<|qe<|ai ?_ (ay G U (zm 0 G) aa)
 exact q0_wk.va
theorem small_q {p q:Int}(hp : -9223372036854775808≤p)(hp1:p<9223372036854775808)(hq : -9223372036854775808≤q)(hq1:q<9223372036854775808)(h0:q≠0):Cn Tryz.prog 84 [In p,In q] (Qs 2 (Rat.divInt p q)):=by
 refine Cn.intro Tryz.func84 G zk nq (λ B w0 a U=>?_)
 have U:=zn [(0,In p),(1,In q)] [] U
 refine qa<|zg [] [⟨4,28,ptrH,some 0,_,none⟩] [.alc 0] [.g 0,.g 1] U (zY G (Str.zero ap) o0) (zz [(0,_),(1,_)] [O 4 28 _] λ a w U=>?_)
 refine zt<|zg [some (5,_)] [] [.v 5 _,.v 6 _,.v 7 _,.v 8 _,.v 9 _,.sto 0] [] U (zM 0 G (zQ G (of_z hp hp1) (.o (vq 0 G)) (zM 1 G (zQ G (of_z hq hq1) (.o (vq 2 G)) (zQ G (dB zo zo h0) (.p (vq 1 G) (vq 3 G)) (zS 4 G aa o0)))))) (zz [] [O 4 28 _] λ a w U=>?_)
 refine a4<|qe<|ai ?_ (ay G U (zm 0 G) aa)
 exact az
theorem one_q  : Cn Tryz.prog 57 [] (Qs 2 1):=by
 refine Cn.intro Tryz.func57 G zk nq (λ B w0 a U=>?_)
 have U:=zn [] [] U
 refine qa<|zg [] [⟨0,28,ptrH,some 0,_,none⟩] [.alc 0] [] U (zY G (Str.zero ap) o0) (zz [] [O 0 28 _] λ a w U=>?_)
 refine zt<|zg [some (1,_)] [] [.v 1 _,.sto 0] [] U (zQ G (small_q zd zd zd zd zd) (.cons a5 (.cons a5 .nil)) (zS 0 G aa o0)) (zz [] [O 0 28 _] λ a w U=>?_)
 refine a4<|qe<|ai ?_ (ay G U (zm 0 G) aa)
 exact bE (qr (Qs 2) (show Rat.divInt 1 1=1 from G))
theorem plus_q {c d:Nat}{x y:Rat}(hc:c+d≤549755813888):Cn Tryz.prog 54 [Qs c x,Qs d y] (Qs (c+d+1) (x+y)):=by
 refine Cn.intro Tryz.func54 G zk nq (λ B w0 a U=>?_)
 have U:=zn [(0,Qs c x),(1,Qs d y)] [] U
 refine qa<|zg [] [⟨2,28,ptrH,some 0,_,none⟩,⟨3,28,ptrH,some 1,_,none⟩,⟨4,28,ptrH,some 2,_,none⟩] [.alc 0,.alc 1,.alc 2] [] U (zW 0 G (zW 1 G (zY G (Str.zero ap) o0))) (zz [] [O 2 28 _,O 3 28 _,O 4 28 _] λ a w U=>?_)
 refine zt<|zgd [[],[0],[],[2],[0,1,2,3],[],[5],[],[7],[0,1,2,3,4,5,6,7,8],[0,1,2,3,4,5,6,7,8,9],[],[11],[],[13],[0,1,2,3,4,5,6,7,8,9,10,11,12,13,14],[0,1,2,3,4,5,6,7,8,9,10,11,12,13,14,15],[0,1,2,3,4,5,6,7,8,9,10,11,12,13,14,15,16]] [none,none,some (17,_)] [] [.adr 5 2 (.some 0) True,.v 6 _,.adr 7 3 (.some 2) True,.v 8 _,.v 9 _,.adr 10 3 (.some 0) True,.v 11 _,.adr 12 2 (.some 2) True,.v 13 _,.v 14 _,.v 15 _,.adr 16 2 (.some 2) True,.v 17 _,.adr 18 3 (.some 2) True,.v 19 _,.v 20 _,.v 21 _,.sto 2] [] a7 U (zO 0 G aZ (zL 0 0 0 G ao (zO 1 G aP (zL 2 1 1 G ao (zQ G (ci zo zo) (.p (vq 1 G) (vq 3 G)) (zO 1 G aZ (zL 5 1 0 G ao (zO 0 G aP (zL 7 0 1 G ao (zQ G (ci zo zo) (.p (vq 6 G) (vq 8 G)) (zQ G (plus_z zo zo) (.p (vq 4 G) (vq 9 G)) (zO 0 G aP (zL 11 0 1 G ao (zO 1 G aP (zL 13 1 1 G ao (zQ G (ci zo zo) (.p (vq 12 G) (vq 14 G)) (zQ G (dB zo zo (den_nz x y)) (.p (vq 10 G) (vq 15 G)) (zS 16 G aa o0)))))))))))))))))) zk zk zk zk (zz [] [O 2 28 _,O 3 28 _,O 4 28 _] λ a w U=>?_)
 refine a4<|qe<|ai ?_ (ay G U (zm 2 G) aa)
 exact bM (bE (qr (Qs _) (rat_add x y))) (aU zo).va
theorem eM {c d:Nat}{x y:Rat}(hc:c+d≤549755813888):Cn Tryz.prog 39 [Qs c x,Qs d y] (Qs (c+d+1) (x-y)):=by
 refine Cn.intro Tryz.func39 G zk nq (λ B w0 a U=>?_)
 have U:=zn [(0,Qs c x),(1,Qs d y)] [] U
 refine qa<|zg [] [⟨2,28,ptrH,some 0,_,none⟩,⟨3,28,ptrH,some 1,_,none⟩,⟨4,28,ptrH,some 2,_,none⟩] [.alc 0,.alc 1,.alc 2] [] U (zW 0 G (zW 1 G (zY G (Str.zero ap) o0))) (zz [] [O 2 28 _,O 3 28 _,O 4 28 _] λ a w U=>?_)
 refine zt<|zgd [[],[0],[],[2],[0,1,2,3],[],[5],[],[7],[0,1,2,3,4,5,6,7,8],[0,1,2,3,4,5,6,7,8,9],[],[11],[],[13],[0,1,2,3,4,5,6,7,8,9,10,11,12,13,14],[0,1,2,3,4,5,6,7,8,9,10,11,12,13,14,15],[0,1,2,3,4,5,6,7,8,9,10,11,12,13,14,15,16]] [none,none,some (17,_)] [] [.adr 5 2 (.some 0) True,.v 6 _,.adr 7 3 (.some 2) True,.v 8 _,.v 9 _,.adr 10 3 (.some 0) True,.v 11 _,.adr 12 2 (.some 2) True,.v 13 _,.v 14 _,.v 15 _,.adr 16 2 (.some 2) True,.v 17 _,.adr 18 3 (.some 2) True,.v 19 _,.v 20 _,.v 21 _,.sto 2] [] a7 U (zO 0 G aZ (zL 0 0 0 G ao (zO 1 G aP (zL 2 1 1 G ao (zQ G (ci zo zo) (.p (vq 1 G) (vq 3 G)) (zO 1 G aZ (zL 5 1 0 G ao (zO 0 G aP (zL 7 0 1 G ao (zQ G (ci zo zo) (.p (vq 6 G) (vq 8 G)) (zQ G (minus_z zo zo) (.p (vq 4 G) (vq 9 G)) (zO 0 G aP (zL 11 0 1 G ao (zO 1 G aP (zL 13 1 1 G ao (zQ G (ci zo zo) (.p (vq 12 G) (vq 14 G)) (zQ G (dB zo zo (den_nz x y)) (.p (vq 10 G) (vq 15 G)) (zS 16 G aa o0)))))))))))))))))) zk zk zk zk (zz [] [O 2 28 _,O 3 28 _,O 4 28 _] λ a w U=>?_)
 refine a4<|qe<|ai ?_ (ay G U (zm 2 G) aa)
 exact bM (bE (qr (Qs _) (rat_sub x y))) (aU zo).va
theorem cj {c d:Nat}{x y:Rat}(hc:c+d≤549755813888):Cn Tryz.prog 41 [Qs c x,Qs d y] (Qs (c+d) (x*y)):=by
 refine Cn.intro Tryz.func41 G zk nq (λ B w0 a U=>?_)
 have U:=zn [(0,Qs c x),(1,Qs d y)] [] U
 refine qa<|zg [] [⟨2,28,ptrH,some 0,_,none⟩,⟨3,28,ptrH,some 1,_,none⟩,⟨4,28,ptrH,some 2,_,none⟩] [.alc 0,.alc 1,.alc 2] [] U (zW 0 G (zW 1 G (zY G (Str.zero ap) o0))) (zz [] [O 2 28 _,O 3 28 _,O 4 28 _] λ a w U=>?_)
 refine zt<|zgd [[],[0],[],[2],[0,1,2,3],[],[5],[],[7],[0,1,2,3,4,5,6,7,8],[0,1,2,3,4,5,6,7,8,9],[0,1,2,3,4,5,6,7,8,9,10]] [none,none,some (11,_)] [] [.adr 5 2 (.some 0) True,.v 6 _,.adr 7 3 (.some 0) True,.v 8 _,.v 9 _,.adr 10 2 (.some 2) True,.v 11 _,.adr 12 3 (.some 2) True,.v 13 _,.v 14 _,.v 15 _,.sto 2] [] a7 U (zO 0 G aZ (zL 0 0 0 G ao (zO 1 G aZ (zL 2 1 0 G ao (zQ G (ci zo zo) (.p (vq 1 G) (vq 3 G)) (zO 0 G aP (zL 5 0 1 G ao (zO 1 G aP (zL 7 1 1 G ao (zQ G (ci zo zo) (.p (vq 6 G) (vq 8 G)) (zQ G (dB zo zo (den_nz x y)) (.p (vq 4 G) (vq 9 G)) (zS 10 G aa o0)))))))))))) zk zk zk zk (zz [] [O 2 28 _,O 3 28 _,O 4 28 _] λ a w U=>?_)
 refine a4<|qe<|ai ?_ (ay G U (zm 2 G) aa)
 exact bM (bE (qr (Qs _) (rat_mul x y))) (aU zo).va
theorem over_q {c d:Nat}{x y:Rat}(hc:c+d≤549755813888)(h0:y≠0):Cn Tryz.prog 83 [Qs c x,Qs d y] (Qs (c+d) (x/y)):=by
 refine Cn.intro Tryz.func83 G zk nq (λ B w0 a U=>?_)
 have U:=zn [(0,Qs c x),(1,Qs d y)] [] U
 refine qa<|zg [] [⟨2,28,ptrH,some 0,_,none⟩,⟨3,28,ptrH,some 1,_,none⟩,⟨4,28,ptrH,some 2,_,none⟩] [.alc 0,.alc 1,.alc 2] [] U (zW 0 G (zW 1 G (zY G (Str.zero ap) o0))) (zz [] [O 2 28 _,O 3 28 _,O 4 28 _] λ a w U=>?_)
 refine zt<|zgd [[],[0],[],[2],[0,1,2,3],[],[5],[],[7],[0,1,2,3,4,5,6,7,8],[0,1,2,3,4,5,6,7,8,9],[0,1,2,3,4,5,6,7,8,9,10]] [none,none,some (11,_)] [] [.adr 5 2 (.some 0) True,.v 6 _,.adr 7 3 (.some 2) True,.v 8 _,.v 9 _,.adr 10 2 (.some 2) True,.v 11 _,.adr 12 3 (.some 0) True,.v 13 _,.v 14 _,.v 15 _,.sto 2] [] a7 U (zO 0 G aZ (zL 0 0 0 G ao (zO 1 G aP (zL 2 1 1 G ao (zQ G (ci zo zo) (.p (vq 1 G) (vq 3 G)) (zO 0 G aP (zL 5 0 1 G ao (zO 1 G aZ (zL 7 1 0 G ao (zQ G (ci zo zo) (.p (vq 6 G) (vq 8 G)) (zQ G (dB zo zo (num_nz x h0)) (.p (vq 4 G) (vq 9 G)) (zS 10 G aa o0)))))))))))) zk zk zk zk (zz [] [O 2 28 _,O 3 28 _,O 4 28 _] λ a w U=>?_)
 refine a4<|qe<|ai ?_ (ay G U (zm 2 G) aa)
 exact bM (bE (qr (Qs _) (rat_div x y))) (aU zo).va
theorem turned_r {c:Nat}{x:Rat}(hc:c≤549755813888):Cn Tryz.prog 55 [Qs c x] ((RFA (rfOf (-x))).va):=by
 refine Cn.intro Tryz.func55 G zk nq (λ B w0 a U=>?_)
 have U:=zn [(0,Qs c x)] [] U
 refine qa<|zg [] [⟨1,28,ptrH,some 0,_,none⟩,⟨2,28,ptrH,some 1,_,none⟩] [.alc 0,.alc 1] [] U (zW 0 G (zY G (Str.zero ap) o0)) (zz [] [O 1 28 _,O 2 28 _] λ a w U=>?_)
 refine zt<|zgd [[],[0],[0,1],[],[3],[0,1,2],[0,1,2,3,4,5],[0,1,2,3,4,5,6],[0,1,2,3,4,5,6,7]] [none,some (8,_)] [] [.adr 3 1 (.some 0) True,.v 4 _,.v 5 _,.adr 6 1 (.some 2) True,.v 7 _,.v 8 _,.v 9 _,.v 10 _,.sto 1] [] a7 U (zO 0 G aZ (zL 0 0 0 G ao (zQ G (gC zo) (.o (vq 1 G)) (zO 0 G aP (zL 3 0 1 G ao (zQ G (of_z zd zd) (.cons a5 .nil) (zQ G (plus_z zo zo) (.p (vq 4 G) (vq 5 G)) (zv G (aI (qs:=[(0,_),(1,_)]) ap (.cons ⟨rfl,vq 2 rfl,rfl⟩ (.cons ⟨rfl,vq 6 rfl,rfl⟩ .nil))) (zS 7 G aa o0))))))))) zk zk zk zk (zz [] [O 1 28 _,O 2 28 _] λ a w U=>?_)
 refine a4<|qe<|ai ?_ (ay G U (zm 1 G) aa)
 exact ((aS (.cons zaA (.cons zaA .nil))).trans (eQ (qr (λ z=>cat [RIA (riOf (-x.num)),RIA (riOf z)]) (xy _)))).va
theorem copy_r {c:Nat}{x:Rat}(hc:c≤549755813888):Cn Tryz.prog 27 [Qs c x] ((RFA (rfOf x)).va):=by
 refine Cn.intro Tryz.func27 G zk nq (λ B w0 a U=>?_)
 have U:=zn [(0,Qs c x)] [] U
 refine qa<|zg [] [⟨1,28,ptrH,some 0,_,none⟩,⟨2,28,ptrH,some 1,_,none⟩] [.alc 0,.alc 1] [] U (zW 0 G (zY G (Str.zero ap) o0)) (zz [] [O 1 28 _,O 2 28 _] λ a w U=>?_)
 refine zt<|zg [η,η] [⟨3,26,ptrH,some 1,_,some (2,_)⟩] [.v 4 _,.alc 2,.sto 2] [] U (zQ G (of_z zd zd) (.cons a5 .nil) (zY G (Str.zero bV) (zS 0 G ao o0))) (zz [] [O 1 28 _,O 2 28 _,O 3 26 _] λ a w U=>?_)
 refine zt<|zgd [[],[0],[],[0,1,2],[],[4],[],[0,1,2,3,4,5,6],[0,1,2,3,4,5,6,7],[0,1,2,3,4,5,6,7,8]] [none,some (9,_),none] [] [.adr 5 1 (.some 0) True,.v 6 _,.v 7 _,.v 8 _,.adr 9 1 (.some 2) True,.v 10 _,.v 11 _,.v 12 _,.v 13 _,.sto 1] [] a7 U (zO 0 G aZ (zL 0 0 0 G ao (zl 2 G ao (zQ G (plus_z zo zo) (.p (vq 1 G) (vq 2 G)) (zO 0 G aP (zL 4 0 1 G ao (zl 2 G ao (zQ G (plus_z zo zo) (.p (vq 5 G) (vq 6 G)) (zv G (aI (qs:=[(0,_),(1,_)]) ap (.cons ⟨rfl,vq 3 rfl,rfl⟩ (.cons ⟨rfl,vq 7 rfl,rfl⟩ .nil))) (zS 8 G aa o0)))))))))) zk zk zk zk (zz [] [O 1 28 _,O 2 28 _,O 3 26 _] λ a w U=>?_)
 refine a4<|qe<|ai ?_ (ay G U (zm 1 G) aa)
 exact ((aS (.cons zaA (.cons zaA .nil))).trans (eQ (copy_e x))).va
theorem cmp_q {c d:Nat}{x y:Rat}(hc:c+d≤549755813888):Cn Tryz.prog 25 [Qs c x,Qs d y] (In (cmQ x y)):=by
 refine Cn.intro Tryz.func25 G zk nq (λ B w0 a U=>?_)
 have U:=zn [(0,Qs c x),(1,Qs d y)] [] U
 refine qa<|zg [] [⟨2,28,ptrH,some 0,_,none⟩,⟨3,28,ptrH,some 1,_,none⟩] [.alc 0,.alc 1,.v 4 _] [.o 2] U (zW 0 G (zW 1 G (zv G (a6 a5) o0))) (zz [(4,_)] [O 2 28 _,O 3 28 _] λ a w U=>?_)
 refine zt<|zgd [[],[0],[],[2],[0,1,2,3],[],[5],[],[7],[0,1,2,3,4,5,6,7,8],[0,1,2,3,4,5,6,7,8,9],[0,1,2,3,4,5,6,7,8,9,10]] [none,none] [] [.adr 5 2 (.some 0) True,.v 6 _,.adr 7 3 (.some 2) True,.v 8 _,.v 9 _,.adr 10 3 (.some 0) True,.v 11 _,.adr 12 2 (.some 2) True,.v 13 _,.v 14 _,.v 15 _,.v 4 _] [.o 11] a7 U (zO 0 G aZ (zL 0 0 0 G ao (zO 1 G aP (zL 2 1 1 G ao (zQ G (ci zo zo) (.p (vq 1 G) (vq 3 G)) (zO 1 G aZ (zL 5 1 0 G ao (zO 0 G aP (zL 7 0 1 G ao (zQ G (ci zo zo) (.p (vq 6 G) (vq 8 G)) (zQ G (cmp_z zo zo) (.p (vq 4 G) (vq 9 G)) (zA 10 G o0)))))))))))) zk zk zk zk (zz [(4,_)] [O 2 28 _,O 3 28 _] λ a w U=>?_)
 refine a4<|qe<|ai ?_ (aj G U (zm 0 G))
 exact bE (qr In (cm_sg x y))
theorem sign_q {c:Nat}{x:Rat}:Cn Tryz.prog 46 [Qs c x] (In x.num.sign):=by
 refine Cn.intro Tryz.func46 G zk nq (λ B w0 a U=>?_)
 have U:=zn [(0,Qs c x)] [] U
 refine qa<|zg [] [⟨1,28,ptrH,some 0,_,none⟩] [.alc 0,.v 2 _] [.o 1] U (zW 0 G (zv G (a6 a5) o0)) (zz [(2,_)] [O 1 28 _] λ a w U=>?_)
 refine zt<|zg [η] [] [.adr 3 1 (.some 0) True,.v 4 _,.v 5 _,.v 2 _] [.o 3] U (zO 0 G aZ (zL 0 0 0 G ao (zQ G sign_z (.o (vq 1 G)) (zA 2 G o0)))) (zz [(2,_)] [O 1 28 _] λ a w U=>?_)
 refine a4<|qe<|ai ?_ (aj G U (zm 0 G))
 exact az
theorem ex_qturned : ∃ fn, Tryz.prog.funcs[55]? = some fn ∧ (fn.name == "runtime.NumGoroutine") = false ∧ fn.body.isNone = false := ⟨_, Tryz.func55, by kernel_rfl, by kernel_rfl⟩
theorem ex_qcopy : ∃ fn, Tryz.prog.funcs[27]? = some fn ∧ (fn.name == "runtime.NumGoroutine") = false ∧ fn.body.isNone = false := ⟨_, Tryz.func27, by kernel_rfl, by kernel_rfl⟩
theorem qs_le {k B:Nat}{r:Rat}(h:(Qs k r).p B v w):lz r.num≤k∧lz (r.den:Int)≤k:=by
 obtain ⟨cs,⟨ps,_,hp⟩,_⟩:=h
 cases hp with
 | cons h1 hp=>cases hp with | cons h2 _=>exact ⟨h1.1,h2.1⟩
theorem ea {c:Nat}{x:Rat}(hc:c≤549755813888):Cn Tryz.prog 55 [Qs c x] (Qs c (-x)) :=
 Cn.know (c:=lz x.num≤c∧lz (x.den:Int)≤c) ex_qturned (λ B w args ha=>by cases ha with | cons h1 _=>exact qs_le h1) λ h=>(turned_r hc).wkp (fV (by rw [Rat.neg_num,gh]; exact h.1) (by rw [Rat.neg_den]; exact h.2)).va
theorem iY {c:Nat}{x:Rat}(hc:c≤549755813888):Cn Tryz.prog 27 [Qs c x] (Qs c x) :=
 Cn.know (c:=lz x.num≤c∧lz (x.den:Int)≤c) ex_qcopy (λ B w args ha=>by cases ha with | cons h1 _=>exact qs_le h1) λ h=>(copy_r hc).wkp (fV h.1 h.2).va
theorem upA_mg (l:List Nat):UpA (MgA l) (MgA l):=⟨rfl,rfl,λ B cs w hB hp=>by
 obtain ⟨ok,h0,A,c,ds,rfl,h1,h2,h3,h4⟩:=hp
 refine ⟨ok,h0,A,c,ds,rfl,h1,h2,?_,λ hn=>?_⟩
 ·exact cat_nums.2 (cat_nums.1 h3)
 ·obtain ⟨b,o,e1,e2,e3,e4⟩:=h4 hn
  exact ⟨b,o,e1,e2,.inl e2,e4⟩⟩
theorem upA_and {A:As}{c:Prop}(h:UpA A A):UpA (A.and c) (A.and c):=⟨rfl,rfl,λ B cs w hB hp=>⟨hp.1,h.2.2 B cs w hB hp.2⟩⟩
theorem upA_ri (x:RI):UpA (RIA x) (RIA x):=eT (.cons (up_bo _) (.cons (upA_mg _) .nil))
theorem iw (x:RF):UpA (RFA x) (RFA x):=eT (.cons (upA_ri _) (.cons (upA_ri _) .nil))
theorem upA_za {k:Nat}{z:Int}:UpA (ZA k z) (ZA k z):=upA_and (upA_ri _)
theorem upA_qa {k:Nat}{r:Rat}:UpA (QA k r) (QA k r):=eT (.cons upA_za (.cons upA_za .nil))
theorem all_upA {l:List As}(h:∀ A∈l,UpA A A):All2 UpA l l:=by
 induction l with
 | nil=>exact .nil
 | cons A l ih=>exact .cons (h A (by simp)) (ih λ A' hA=>h A' (by simp [hA]))
theorem up_sl {E:TypeId}{l:List As}(h:∀ A∈l,UpA A A):UpA (SlA E D l) (SlO E D l True):=⟨rfl,rfl,λ B cs w hB hp=>by
 obtain ⟨hD,A,c,ds,rfl,h1,h2,h3,h4⟩:=hp
 refine ⟨trivial,hD,A,c,ds,rfl,h1,h2,(eT (all_upA h)).2.2 B ds w hB h3,λ hn=>?_⟩
 obtain ⟨b,o,e1,e2,e3,e4⟩:=h4 hn
 exact ⟨b,o,e1,e2,e2,e4⟩⟩
theorem slO_len {E:TypeId}{l:List As}{p:Prop}(h:(SlO E D l p).va.p B v w):l.length≤9223372036854775807:=by
 obtain ⟨cs,⟨_,_,A,c,ds,_,h1,h2,_⟩,_⟩:=h
 unfold maxLen at h2
 omega
def longQ (q:Rat):Bool:=[riOf q.num].any bigI || [riOf (q.den:Int)].any bigI
theorem longQ_false {q:Rat}:longQ q=false↔lz q.num≤2048∧lz (q.den:Int)≤2048:=by
 simp [longQ,bigI,dh]
 omega
theorem f9 {q:Rat}{k:Nat}(h:lz q.num≤k∧lz (q.den:Int)≤k)(hk:k≤2048):longQ q=false:=longQ_false.2 zo
def IsQ (A:As)(q:Rat):Prop:=∃ k,A=QA k q
theorem sl_wk {E:TypeId}{l l':List As}(h:All2 WkA l l')(hD:∀ A∈l',∀ T∈A.deps,T∈D):WkA (SlA E D l) (SlA E D l'):=⟨rfl,rfl,λ B cs w ⟨_,A,c,ds,e,h1,h2,h3,h4⟩=>by
 have hl:=h.length
 exact ⟨hD,A,c,ds,by rw [← hl]; exact e,by rw [← hl]; exact h1,h2,(aS h).2.2 B ds w h3,λ hn=>h4 (by rw [hl]; exact hn)⟩⟩
theorem isq_at {L:List As}{qs:List Rat}(h:All2 IsQ L qs){j:Nat}(hj:j<qs.length):∃ k,L[j]?=some (QA k qs[j]):=by
 have hl:=h.length
 obtain ⟨q,h1,k,h2⟩:=h.get (List.getElem?_eq_getElem (show j<L.length by omega))
 rw [List.getElem?_eq_getElem hj] at h1
 injection h1 with h1
 exact ⟨k,by rw [List.getElem?_eq_getElem zo,h2,h1]⟩
theorem isq_up {L:List As}{qs:List Rat}(h:All2 IsQ L qs):∀ A∈L,UpA A A:=λ A hA=>by
 obtain ⟨j,hj⟩:=List.getElem?_of_mem hA
 obtain ⟨q,_,k,rfl⟩:=h.get hj
 exact upA_qa
theorem isq_n {L:List As}{qs:List Rat}(h:All2 IsQ L qs):∀ A∈L,A.n=4:=λ A hA=>by
 obtain ⟨j,hj⟩:=List.getElem?_of_mem hA
 obtain ⟨q,_,k,rfl⟩:=h.get hj
 rfl
theorem lq_some {l:List Rat}{j:Nat}(h:j<l.length)(h2:longQ l[j]=true):true=l.any longQ:=(jb.2 ⟨_,qi h,h2⟩).symm
theorem lq_no {l:List Rat}{j:Nat}(h:j<l.length)(h1:(l.take j).any longQ=false)(h2:longQ l[j]=false):(l.take (j+1)).any longQ=false:=by
 rw [qq h,ke,h1]
 simp [h2]
theorem long_q {L:List As}(qs:List Rat)(hL:All2 IsQ L qs)(hl:qs.length≤1099511627776):Cn Tryz.prog 61 [(SlA 28 [U32] L).va] (Bo (qs.any longQ)):=by
 have hLl:=hL.length
 refine Cn.introW Tryz.func61 G zk nq (.cons (up_sl (isq_up hL)).va .nil) (eO _).va (λ B w0 a hB0 U=>?_)
 have U:=zn [(0,(SlO 28 [U32] L True).va)] [] U
 refine qa<|zh [.v 2 _] [.g 0,.o 0] U (zv G (a6 aG) o0) (zz [(0,_),(2,_)] [] λ a w U=>?_)
 refine zt<|qa<|zh [.v 5 _,.v 6 _,.v 7 _] [.g 1,.o 0,.o 1,.o 2] U (zM 0 G (zv G (bz Tryz.underlying22 (ba (aq (vq 0 G)))) (zv G (a8 a5) o0))) (zz [(2,_),(5,_),(6,_),(7,_)] [] λ a w U=>?_)
 refine a4<|qo ?_
 have U:=St.sel U [1,2,3]
 refine wp_loop_ghost (λ n a w=>∃ j:Nat,(n+j=qs.length∧(qs.take j).any longQ=false)∧St B w0 22 [(5,(SlO 28 [U32] L True).va),(6,In (qs.length:Nat)),(7,In (j:Nat))] [] a w) (qs.length) ?_ ?_
 ·exact ⟨0,⟨by omega,rfl⟩,by rw [hLl] at U; exact U⟩
 intro n a w hI
 obtain ⟨j,⟨hn,hno⟩,U⟩:=hI
 refine qa<|zh [.v 8 _] [.g 0,.g 1,.g 2,.o 0] U (zv G (aX (gq 2 G) (gq 1 G)) o0) (zz [(5,_),(6,_),(7,_),(8,_)] [] λ a w U=>?_)
 refine zt<|a9 U (zm 3 G) (λ hb0=>?_) (λ hb0=>?_)
 ·have hj:j<qs.length:=by simp at hb0; omega
  obtain ⟨kj,hLj⟩:=isq_at hL hj
  refine qj<|zt<|qo<|qa<|zg [] [⟨4,28,ptrH,some 2,_,some (3,_)⟩] [.v 9 _,.v 10 _,.alc 0,.sto 0] [.g 0,.g 1,.g 2] U (zv G (cm cZ (isq_n hL) (ba (aq (gq 0 G))) (gq 2 G) hLj) (zv G (am (vq 0 G) aa) (zY G (Str.zero ap) (zS 1 G aa o0)))) (zz [(5,_),(6,_),(7,_)] [O 4 28 _] λ a w U=>?_)
  refine zt<|zg [η] [] [.adr 11 4 (.some 0) True,.v 12 _,.v 13 _,.v 14 _,.v 15 _,.adr 16 4 (.some 2) (_=false),.f 17 _,.f 18 _,.f 19 _,.v 20 _] [.g 0,.g 1,.g 2,.o 9] U (zO 0 G aZ (zL 0 0 0 G ao (zv G (bt (D:=[U32]) (l:=[_]) (xs:=[.tmp 12]) (cI zk) sl_138 zk (n_ok zk) nq nq nq (.o (vq 1 G)) G G) (zQ G ((longI_c [riOf (qs[j]).num] nq).wk (.cons (sl_wk (.cons zaA .nil) (cI zk)).va .nil)) (.o (vq 2 G)) (zv G (a8 (vq 3 G)) (zC 4 0 G aP (zB 4 G (λ hg=>aH 5 G zk hg (lz0 0 G) (Sub.part 1 G G) ao) (zB 4 G (λ hg=>bt (D:=[U32]) (l:=[_]) (xs:=[.tmp 17]) (cI zk) sl_138 zk (n_ok zk) nq nq nq (.o (ab (vq 6 G) hg)) G G) (zB 4 G (λ hg=>bk ((longI_c [riOf ((qs[j]).den:Int)] nq).wk (.cons (sl_wk (.cons zaA .nil) (cI zk)).va .nil)) (.o (ab (vq 7 G) hg))) (zv G (r_or (vq 4 G) (vq 8 G)) o0)))))))))) (zz [(5,_),(6,_),(7,_),(20,_)] [O 4 28 _] λ a w U=>?_)
  refine a4<|a9 U (zm 3 G) (λ hb1=>?_) (λ hb1=>?_)
  ·refine qa<|zg [η] [] [.v 2 _] [.g 0,.g 1,.g 2,.o 0] U (zv G (a6 aG) o0) (zz [(5,_),(6,_),(7,_),(2,_)] [O 4 28 _] λ a w U=>?_)
   refine a4<|qe<|aC ?_
   refine ac ?_
   refine ac ?_
   refine aC ?_
   refine ac ?_
   refine ar ?_ (aj G U (zm 3 G))
   rw [← lq_some hj hb1]
  ·refine qj<|al ?_
   refine a4<|zg [η] [] [.v 21 _,.v 7 _] [.g 0,.g 1,.o 1] U (zv G (aK (gq 2 G) a5 (bm zo)) (zv G (a8 (vq 0 G)) o0)) (zz [(5,_),(6,_),(7,_)] [O 4 28 _] λ a w U=>?_)
   refine a4 ?_
   have U:=St.sel U [0,1,2]
   have U:=St.selL U []
   exact ⟨n-1,by omega,j+1,⟨by omega,lq_no hj hno hb1⟩,U⟩
 ·obtain rfl:j=qs.length:=by simp at hb0; omega
  refine qZ<|ak<|ak<|aB<|zt<|zh [.v 2 _] [.o 0] U (zv G (a6 aG) o0) (zz [(2,_)] [] λ a w U=>?_)
  refine a4<|qe<|ar ?_ (aj G U (zm 0 G))
  rw [qM] at hno; rw [hno]
theorem fj {L:List As}(qs:List Rat)(hL:All2 IsQ L qs)(hl:qs.length≤1099511627776):Cn Tryz.prog 26 [(SlA 28 [U32] L).va] (In (if qs.any longQ then 4 else 0)):=by
 refine Cn.intro Tryz.func26 G zk nq (λ B w0 a U=>?_)
 have U:=zn [(0,(SlA 28 [U32] L).va)] [] U
 refine qa<|zh [.v 2 _] [.g 0,.o 0] U (zv G (a6 a5) o0) (zz [(0,_),(2,_)] [] λ a w U=>?_)
 refine zt<|qa<|zh [.v 3 _,.v 4 _] [.g 1,.o 1] U (zM 0 G (zQ G (long_q qs hL hl) (.o (vq 0 G)) o0)) (zz [(2,_),(4,_)] [] λ a w U=>?_)
 refine a4<|a9 U (zm 1 G) (λ hb0=>?_) (λ hb0=>?_)
 ·refine qa<|zh [.v 2 _] [.o 0] U (zv G (a6 a5) o0) (zz [(2,_)] [] λ a w U=>?_)
  refine a4<|qe<|ac ?_
  refine ar ?_ (aj G U (zm 0 G))
  rw [hb0]; rfl
 ·refine qj<|zt<|zh [.v 2 _] [.o 0] U (zv G (a6 a5) o0) (zz [(2,_)] [] λ a w U=>?_)
  refine a4<|qe<|ar ?_ (aj G U (zm 0 G))
  rw [hb0]; rfl
def okF (x:RF):Bool:=okRI x.num&&okRI x.den&&decide (0<sgI x.den)&&decide (Nat.gcd (val x.num.mag) (val x.den.mag)=1)
theorem okRI_z {x:RI}(ok:okL x.mag)(h:okRI x=true):∃ z,x=riOf z∧lz z≤2048:=by
 obtain ⟨neg,l⟩:=x
 simp only [okRI,qw,qG,jB,qx,beq_eq_false_iff_ne,ne_eq] at h ok
 obtain ⟨⟨h1,h2⟩,h3⟩:=h
 have hc:Canon l:=by
  refine ⟨ok,λ e=>?_⟩
  rcases List.eq_nil_or_concat l with rfl | ⟨m,y,rfl⟩
  ·simp at e
  ·simp at e
   subst e
   rcases h2 with h2 | h2
   ·simp at h2
   ·exact h2 (by simp)
 have e:limbs (val l)=l:=iR hc
 cases neg with
 | false=>exact ⟨(val l:Nat),by simp [riOf,e],by show (limbs _).length≤2048; rw [xX,e]; omega⟩
 | true =>
  have hl:l≠[]:=λ e=>by subst e; simp at h3
  have hv:0<val l:=hc.val_pos hl
  exact ⟨-(val l:Nat),by simp [riOf,e]; omega,by show (limbs _).length≤2048; rw [Int.natAbs_neg,xX,e]; omega⟩
theorem kz {z:Int}:okRI (riOf z)=decide (lz z≤2048):=by
 unfold okRI
 by_cases h0:z=0
 ·subst h0; simp [riOf,bc,lz]
 ·have h1:=fF h0
  have h2:=(bo z.natAbs).2
  have e:(riOf z).mag=limbs z.natAbs:=rfl
  have e2:(limbs z.natAbs).length=lz z:=rfl
  have h3:(limbs z.natAbs).getD (lz z-1) 0≠0:=λ hh=>by
   apply h2
   rw [List.getLast?_eq_getElem?,e2,List.getElem?_eq_getElem zo]
   rw [List.getD_eq_getElem?_getD,List.getElem?_eq_getElem zo] at hh
   simpa using hh
  rw [e,e2]
  by_cases h4:lz z≤2048
  ·have h5:¬ ((lz z:Int)>2048):=by omega
   have h6:¬ ((lz z:Int)=0):=by omega
   have h7:¬ (((limbs z.natAbs).getD (lz z-1) 0:Nat):Int)=((0:Nat):Int):=by omega
   simp only [h4,h5,decide_true,decide_false,beq_eq_false_iff_ne.2 h7,beq_eq_false_iff_ne.2 h6,Bool.and_false,Bool.false_and,Bool.or_self,xR]
  ·have h5:((lz z:Int)>2048):=by omega
   simp only [h4,h5,decide_true,decide_false,Bool.true_or,Bool.not_true]
theorem okF_q {x:RF}(ok:okL x.num.mag∧okL x.den.mag)(h:okF x=true):∃ r:Rat,x=rfOf r∧lz r.num≤2048∧lz (r.den:Int)≤2048:=by
 obtain ⟨xn,xd⟩:=x
 simp only [okF,qf,qu] at h ok
 obtain ⟨⟨⟨h1,h2⟩,h3⟩,h4⟩:=h
 obtain ⟨p,rfl,hp⟩:=okRI_z ok.1 h1
 obtain ⟨q,rfl,hq⟩:=okRI_z ok.2 h2
 rw [iG] at h3
 have hq0:0<q:=j5.1 h3
 rw [bg,bg] at h4
 refine ⟨⟨p,q.natAbs,by omega,h4⟩,?_,hp,?_⟩
 ·show RF.mk _ _=RF.mk (riOf p) (riOf (q.natAbs:Nat))
  rw [show ((q.natAbs:Nat):Int)=q by omega]
 ·show lz ((q.natAbs:Nat):Int)≤2048
  rw [show ((q.natAbs:Nat):Int)=q by omega]
  exact hq
theorem okF_of (r:Rat):okF (rfOf r) = !longQ r:=by
 have e:okF (rfOf r)=(decide (lz r.num≤2048)&&decide (lz (r.den:Int)≤2048)):=by
  show (okRI (riOf r.num)&&okRI (riOf (r.den:Int))&&decide (0<sgI (riOf (r.den:Int)))&&decide (Nat.gcd (val (riOf r.num).mag) (val (riOf (r.den:Int)).mag)=1))=_
  rw [kz,kz,iG,bg,bg,xX]
  have hred:Nat.gcd r.num.natAbs r.den=1:=r.reduced
  have:0<(r.den:Int).sign:=j5.2 (by have:=r.den_pos; omega)
  simp [this,hred]
 rw [e]
 cases h:longQ r with
 | false=>have:=longQ_false.1 h; simp [this.1,this.2]
 | true =>
  cases h2:(decide (lz r.num≤2048)&&decide (lz (r.den:Int)≤2048)) with
  | false=>rfl
  | true =>
   simp only [qf,qu] at h2
   rw [longQ_false.2 h2] at h
   cases h
theorem ok1 {b:Bool}(h:(((if b then (0:Int) else 1) != 0))=false):b=true:=by cases b <;> simp at h ⊢
theorem chk_no {x:RF}(h:((((if okRI x.num then (0:Int) else 1) != 0) || ((if okRI x.den then (0:Int) else 1) != 0)) || decide (sgI x.den≤0))=true):(1:Int)=if okF x then 0 else 1:=by
 have:okF x=false:=by
  unfold okF
  cases h1:okRI x.num <;> cases h2:okRI x.den <;> simp [h1,h2] at h ⊢
  omega
 rw [this]; rfl
theorem sg_one {p q:Int}(h:(sg3 ((Int.gcd p q:Nat):Int) 1 != 0)=true):Int.gcd p q≠1:=λ e=>by rw [e] at h; simp [sg3] at h
theorem rf_know {x:RF}(h:(RFA x).va.p B v w):okL x.num.mag∧okL x.den.mag:=by
 obtain ⟨cs,⟨ps,_,hp⟩,_⟩:=h
 cases hp with
 | cons h1 hp=>cases hp with | cons h2 _=>exact ⟨(gJ ⟨_,h1,rfl⟩).1,(gJ ⟨_,h2,rfl⟩).1⟩
theorem cmp_i {p q:Int}(hp:lz p≤1099511627776)(hq:lz q≤1099511627776):Cn Tryz.prog 59 [Zi p,Zi q] (In (sg3 p q)):=(cmpI_c (riOf p) (riOf q) (by rw [dh]; omega) (by rw [dh]; omega)).post (by rw [cmp_ri])
theorem lz_one:lz 1≤1099511627776:=qh (lz_le (k:=1) zd) zd
theorem checkF_c (xn xd:RI):Cn Tryz.prog 45 [(RFA ⟨xn,xd⟩).va] (In (if okF ⟨xn,xd⟩ then 0 else 1)):=by
 refine Cn.intro Tryz.func45 G zk nq (λ B w0 a U=>?_)
 have U:=zn [(0,(RFA ⟨xn,xd⟩).va)] [] U
 have hok:=rf_know (U.vals (0,(RFA ⟨xn,xd⟩).va) (zm 0 rfl))
 refine qa<|zg [] [⟨1,28,ptrH,some 0,_,none⟩] [.alc 0,.v 2 _] [.o 1] U (zW 0 G (zv G (a6 a5) o0)) (zz [(2,_)] [O 1 28 _] λ a w U=>?_)
 refine zt<|qa<|zg [η] [] [.adr 3 1 (.some 0) True,.v 4 _,.v 5 _,.v 6 _,.v 7 _,.adr 8 1 (.some 2) (_=false),.f 9 _,.f 10 _,.f 11 _,.v 12 _,.v 13 _,.adr 14 1 (.some 2) (_=false),.f 15 _,.f 16 _,.f 17 _,.v 18 _] [.g 0,.o 15] U (zO 0 G aZ (zL 0 0 0 G ao (zQ G (check_c _) (.o (vq 1 G)) (zv G (bv (vq 2 G) a5) (zv G (a8 (vq 3 G)) (zC 4 0 G aP (zB 4 G (λ hg=>aH 5 G zk hg (lz0 0 G) (Sub.part 1 G G) ao) (zB 4 G (λ hg=>bk (check_c _) (.o (ab (vq 6 G) hg))) (zB 4 G (λ hg=>bv (ab (vq 7 G) hg) a5) (zv G (r_or (vq 4 G) (vq 8 G)) (zv G (a8 (vq 9 G)) (zC 10 0 G aP (zB 10 G (λ hg=>aH 11 G zk hg (lz0 0 G) (Sub.part 1 G G) ao) (zB 10 G (λ hg=>bk (sign_c _) (.o (ab (vq 12 G) hg))) (zB 10 G (λ hg=>r_leq (ab (vq 13 G) hg) a5) (zv G (r_or (vq 10 G) (vq 14 G)) o0)))))))))))))))) (zz [(2,_),(18,_)] [O 1 28 _] λ a w U=>?_)
 refine a4<|a9 U (zm 1 G) (λ hb0=>?_) (λ hb0=>?_)
 ·refine qa<|zg [η] [] [.v 2 _] [.o 0] U (zv G (a6 a5) o0) (zz [(2,_)] [O 1 28 _] λ a w U=>?_)
  refine a4<|qe<|ac ?_
  refine ar ?_ (aj G U (zm 0 G))
  exact qr In (chk_no hb0)
 ·rw [qG,qG] at hb0
  obtain ⟨p,rfl,hp⟩:=okRI_z hok.1 (ok1 hb0.1.1)
  obtain ⟨q,rfl,hq⟩:=okRI_z hok.2 (ok1 hb0.1.2)
  have hq0:0<sgI (riOf q):=by have h2:¬ sgI (riOf q)≤0:=qy hb0.2; omega
  have hpq:=lz_gcd p q
  refine qj<|zt<|qa<|zg [η] [] [.adr 19 1 (.some 0) True,.v 20 _,.adr 21 1 (.some 2) True,.v 22 _,.v 23 _,.v 24 _,.v 25 _,.v 26 _] [.g 0,.o 7] U (zO 0 G aZ (zL 0 0 0 G ao (zO 0 G aP (zL 2 0 1 G ao (zQ G ((common_c p q zo zo).wkp fk) (.p (vq 1 G) (vq 3 G)) (zQ G (of_c 1 zd zd) (.cons a5 .nil) (zQ G (cmp_i zo lz_one) (.p (vq 4 G) (vq 5 G)) (zv G (bv (vq 6 G) a5) o0)))))))) (zz [(2,_),(26,_)] [O 1 28 _] λ a w U=>?_)
  refine a4<|a9 U (zm 1 G) (λ hb1=>?_) (λ hb1=>?_)
  ·refine qa<|zg [η] [] [.v 2 _] [.o 0] U (zv G (a6 a5) o0) (zz [(2,_)] [O 1 28 _] λ a w U=>?_)
   refine a4<|qe<|ac ?_
   refine ar ?_ (aj G U (zm 0 G))
   have e1:=sg_one hb1; exact qr In (by rw [show okF ⟨riOf p,riOf q⟩=false from by unfold okF; rw [bg,bg]; simp [show ¬ Nat.gcd p.natAbs q.natAbs=1 from e1]]; rfl)
  ·refine qj<|zt<|zg [η] [] [.v 2 _] [.o 0] U (zv G (a6 a5) o0) (zz [(2,_)] [O 1 28 _] λ a w U=>?_)
   refine a4<|qe<|ar ?_ (aj G U (zm 0 G))
   have e1:=gcd_one hb1; exact qr In (by rw [show okF ⟨riOf p,riOf q⟩=true from by unfold okF; rw [bg,bg,ok1 hb0.1.1,ok1 hb0.1.2]; simp [hq0,show Nat.gcd p.natAbs q.natAbs=1 from e1]]; rfl)
def okLb (l:List Nat):Bool:=l.all λ x=>decide (x<4294967296)
theorem okLb_iff {l:List Nat}:okLb l=true↔okL l:=by simp [okLb,okL]
def okX (x:RF):Bool:=okLb x.num.mag&&okLb x.den.mag&&okF x
def zI (x:RI):Int:=if x.neg then -(val x.mag:Nat) else (val x.mag:Nat)
def toQ (x:RF):Rat:=Rat.divInt (zI x.num) (zI x.den)
theorem zI_ri (z:Int):zI (riOf z)=z:=by
 unfold zI
 rw [bg]
 by_cases h:z<0 <;> simp [riOf,h] <;> omega
theorem cz (r:Rat):toQ (rfOf r)=r:=by
 show Rat.divInt (zI (riOf r.num)) (zI (riOf (r.den:Int)))=r
 rw [zI_ri,zI_ri]
 exact xV r
theorem okX_know {x:RF}(h:okL x.num.mag∧okL x.den.mag):okX x=okF x:=by rw [okX,okLb_iff.2 h.1,okLb_iff.2 h.2]; rfl
theorem iO {x:RF}(h:okX x=true):x=rfOf (toQ x)∧lz (toQ x).num≤2048∧lz ((toQ x).den:Int)≤2048:=by
 simp only [okX,qf] at h
 obtain ⟨r,rfl,h1⟩:=okF_q ⟨okLb_iff.1 h.1.1,okLb_iff.1 h.1.2⟩ h.2
 rw [cz]
 exact ⟨rfl,h1⟩
theorem gc (r:Rat):okX (rfOf r) = !longQ r:=by
 rw [okX_know ⟨ok_ri _,ok_ri _⟩,okF_of]
theorem okX_r {x:RF}(h:okX x=true):∃ r,x=rfOf r∧lz r.num≤2048∧lz (r.den:Int)≤2048:=⟨_,iO h⟩
abbrev rf0:RF:=⟨⟨false,[]⟩,⟨false,[]⟩⟩
theorem ex_check : ∃ fn, Tryz.prog.funcs[45]? = some fn ∧ (fn.name == "runtime.NumGoroutine") = false ∧ fn.body.isNone = false := ⟨_, Tryz.func45, by kernel_rfl, by kernel_rfl⟩
theorem check_x (x:RF):Cn Tryz.prog 45 [(RFA x).va] (In (if okX x then 0 else 1)) :=
 Cn.know (c:=okL x.num.mag∧okL x.den.mag) ex_check (λ B w args ha=>by cases ha with | cons h1 _=>exact rf_know h1) λ h=>(checkF_c x.num x.den).post (by rw [okX_know h])
theorem ok_no {l:List RF}{j:Nat}(h:j<l.length)(h2:((if okX l[j] then (0:Int) else 1) != 0)=true):false=l.all okX:=by
 have h3:okX l[j]=false:=by cases hh:okX l[j] <;> simp [hh] at h2 ⊢
 exact (jY.2 ⟨_,qi h,by simp [h3]⟩).symm
theorem ok_yes {l:List RF}{j:Nat}(h:j<l.length)(h1:(l.take j).all okX=true)(h2:((if okX l[j] then (0:Int) else 1) != 0)=false):(l.take (j+1)).all okX=true:=by
 rw [qq h,kf,h1]
 simp [ok1 h2]
theorem dH (xs:List RF)(hl:xs.length≤1099511627776):Cn Tryz.prog 30 [(SlA 28 [U32] (xs.map RFA)).va] (Bo (xs.all okX)):=by
 refine Cn.introW Tryz.func30 rfl zk nq (.cons (up_sl (λ A hA=>by obtain ⟨x,_,rfl⟩:=qt.1 hA; exact iw x)).va .nil) (eO _).va (λ B w0 a hB0 U=>?_)
 have U:=zn [(0,(SlO 28 [U32] (xs.map RFA) True).va)] [] U
 refine qa<|zh [.v 2 _] [.g 0,.o 0] U (zv G (a6 aG) o0) (zz [(0,_),(2,_)] [] λ a w U=>?_)
 refine zt<|qa<|zh [.v 5 _,.v 6 _,.v 7 _] [.g 1,.o 0,.o 1,.o 2] U (zM 0 G (zv G (bz Tryz.underlying22 (ba (aq (vq 0 G)))) (zv G (a8 a5) o0))) (zz [(2,_),(5,_),(6,_),(7,_)] [] λ a w U=>?_)
 refine a4<|qo ?_
 have U:=St.sel U [1,2,3]
 refine wp_loop_ghost (λ n a w=>∃ j:Nat,(n+j=xs.length∧(xs.take j).all okX=true)∧St B w0 15 [(5,(SlO 28 [U32] (xs.map RFA) True).va),(6,In (xs.length:Nat)),(7,In (j:Nat))] [] a w) (xs.length) ?_ ?_
 ·exact ⟨0,⟨by omega,rfl⟩,by rw [qc] at U; exact U⟩
 intro n a w hI
 obtain ⟨j,⟨hn,hno⟩,U⟩:=hI
 refine qa<|zh [.v 8 _] [.g 0,.g 1,.g 2,.o 0] U (zv G (aX (gq 2 G) (gq 1 G)) o0) (zz [(5,_),(6,_),(7,_),(8,_)] [] λ a w U=>?_)
 refine zt<|a9 U (zm 3 G) (λ hb0=>?_) (λ hb0=>?_)
 ·have hj:j<xs.length:=by simp at hb0; omega
  refine qj<|zt<|qo<|qa<|zg [] [⟨4,28,ptrH,some 2,_,some (3,_)⟩] [.v 9 _,.v 10 _,.alc 0,.sto 0] [.g 0,.g 1,.g 2] U (zv G (cm cZ (cE λ _=>rfl) (ba (aq (gq 0 G))) (gq 2 G) (bH hj)) (zv G (am (vq 0 G) aa) (zY G (Str.zero ap) (zS 1 G aa o0)))) (zz [(5,_),(6,_),(7,_)] [O 4 28 _] λ a w U=>?_)
  refine zt<|zg [η] [] [.v 11 _,.v 12 _,.v 13 _] [.g 0,.g 1,.g 2,.o 2] U (zl 0 G aa (zQ G (check_x _) (.o (vq 0 G)) (zv G (bv (vq 1 G) a5) o0))) (zz [(5,_),(6,_),(7,_),(13,_)] [O 4 28 _] λ a w U=>?_)
  refine a4<|a9 U (zm 3 G) (λ hb1=>?_) (λ hb1=>?_)
  ·refine qa<|zg [η] [] [.v 2 _] [.g 0,.g 1,.g 2,.o 0] U (zv G (a6 aG) o0) (zz [(5,_),(6,_),(7,_),(2,_)] [O 4 28 _] λ a w U=>?_)
   refine a4<|qe<|aC ?_
   refine ac ?_
   refine ac ?_
   refine aC ?_
   refine ac ?_
   refine ar ?_ (aj G U (zm 3 G))
   rw [← ok_no hj hb1]
  ·refine qj<|al ?_
   refine a4<|zg [η] [] [.v 14 _,.v 7 _] [.g 0,.g 1,.o 1] U (zv G (aK (gq 2 G) a5 (bm zo)) (zv G (a8 (vq 0 G)) o0)) (zz [(5,_),(6,_),(7,_)] [O 4 28 _] λ a w U=>?_)
   refine a4 ?_
   have U:=St.sel U [0,1,2]
   have U:=St.selL U []
   exact ⟨n-1,by omega,j+1,⟨by omega,ok_yes hj hno hb1⟩,U⟩
 ·obtain rfl:j=xs.length:=by simp at hb0; omega
  refine qZ<|ak<|ak<|aB<|zt<|zh [.v 2 _] [.o 0] U (zv G (a6 aG) o0) (zz [(2,_)] [] λ a w U=>?_)
  refine a4<|qe<|ar ?_ (aj G U (zm 0 G))
  rw [qM] at hno; rw [hno]
def ansF (q:Rat):RF × Int:=if longQ q then (rf0,4) else (rfOf q,0)
abbrev FrR (r:RF × Int):VA:=Tu [(RFA r.1).va,In r.2]
theorem rq_wk {k:Nat}{r:Rat}:Wk (Qs k r) (RFA (rfOf r)).va:=qaA.va
theorem tu2w {a b c d:VA}(h:Wk a c)(h':Wk b d):Wk (Tu [a,b]) (Tu [c,d]):=tu_wk (.cons h (.cons h' .nil))
theorem dA {q:Rat}:[q].any longQ=longQ q:=by simp
theorem ne0 {b:Bool}:((if b then (4:Int) else 0) != 0)=b:=by cases b <;> rfl
def FnA (A:VA)(h:∀ B v w,A.p B v w→v.oneCell'=true):As where
 n:=1
 ag:=false
 p B cs w:=∃ v,cs=[v]∧A.p B v w
 deps:=A.deps
 len:=by rintro B cs w ⟨v,rfl,_⟩; rfl
 one:=by rintro B cs w ⟨v,rfl,hp⟩ c hc; simp at hc; subst hc; exact h B c w hp
 ag1:=λ _=>rfl
 cg:=λ B _ w w' hg ⟨v,e,hp⟩=>⟨v,e,A.cg B v w w' hg hp⟩
 wr:=λ B _ w w' g c T fz h1 h2 h3 h4 ⟨v,e,hp⟩=>⟨v,e,A.wr B v w w' g c T fz h1 h2 h3 h4 hp⟩
theorem fna_wk {A:VA}{h:∀ B v w,A.p B v w→v.oneCell'=true}:Wk (FnA A h).va A:=λ _ v _ ⟨cs,⟨u,e,hp⟩,hv⟩=>by subst e; have:v=u:=hv; subst this; exact hp
theorem wk_fna {A:VA}{h:∀ B v w,A.p B v w→v.oneCell'=true}:Wk A (FnA A h).va:=λ _ v _ hp=>⟨[v],⟨v,rfl,hp⟩,rfl⟩
theorem fnv_one {ι:Type}{pre:ι→List VA}{post:ι→VA}:∀ (B:Nat) (v:Value) (w:World),(FnV P D pre post).p B v w→v.oneCell'=true:=λ _ v _ h=>by
 obtain ⟨f,fs,cs,F,C,rfl,_⟩:=h
 rfl
theorem nd_va {l:List VA}(h:(l.all λ A=>A.deps.all λ T=>D.contains T)=true):∀ A∈l,∀ T∈A.deps,T∈D:=λ A hA T hT=>by
 have:=qd.1 (qd.1 h A hA) T hT
 simpa using this
theorem hasl_wk {R:Rg}{i:Nat}{xs:List Operand}{l l':List VA}(h:HasL R B w0 i xs l)(hw:All2 Wk l l'):HasL R B w0 i xs l':=by
 induction h generalizing l' with
 | nil=>cases hw; exact .nil
 | cons h1 _ ih=>cases hw with | cons h2 h3=>exact .cons (λ a w av=>h2 _ _ _ (h1 a w av)) (ih h3)
theorem has_wk' {R:Rg}{i:Nat}{x:Operand}{A A':VA}(h:Has R B w0 i x A)(hw:Wk A A'):Has R B w0 i x A':=λ a w av=>hw _ _ _ (h a w av)
theorem gr {c:Nat}{x:Rat}(hc:c≤549755813888):Cn Tryz.prog 75 [Qs c x] (FrR (ansF x)):=by
 refine Cn.intro Tryz.func75 G zk nq (λ B w0 a U=>?_)
 have U:=zn [(0,Qs c x)] [] U
 refine qa<|zg [] [⟨1,28,ptrH,some 0,_,none⟩,⟨2,28,ptrH,some 1,_,none⟩] [.alc 0,.alc 1,.v 3 _] [.o 2] U (zW 0 G (zY G (Str.zero ap) (zv G (a6 a5) o0))) (zz [(3,_)] [O 1 28 _,O 2 28 _] λ a w U=>?_)
 refine zt<|qa<|zg [η,η] [] [.v 5 _,.v 6 _,.v 7 _,.v 4 _] [.g 0,.o 3] U (zl 0 G aa (zv G (bt (D:=[U32]) (l:=[_]) (xs:=[.tmp 5]) (cI zk) cZ zk (n_ok zk) nq nq nq (.o (vq 0 G)) G G) (zQ G ((fj [x] (.cons ⟨_,rfl⟩ .nil) nq)) (.o (vq 1 G)) (zA 2 G o0)))) (zz [(3,_),(4,_)] [O 1 28 _,O 2 28 _] λ a w U=>?_)
 refine zt<|zg [η,η] [] [.v 8 _,.v 9 _] [.g 0,.g 1,.o 1] U (zM 1 G (zv G (bv (vq 0 G) a5) o0)) (zz [(3,_),(4,_),(9,_)] [O 1 28 _,O 2 28 _] λ a w U=>?_)
 refine a4<|a9 U (zm 2 G) (λ hb0=>?_) (λ hb0=>?_)
 ·rw [dA,ne0] at hb0
  refine qa<|zg [η,some (2,_)] [] [.v 10 _,.v 11 _,.sto 1,.v 3 _] [.o 3] U (zv G (aI (qs:=[]) ap .nil) (zM 1 G (zS 0 G aa (zA 1 G o0)))) (zz [(3,_)] [O 1 28 _,O 2 28 _] λ a w U=>?_)
  refine a4<|qe<|ac ?_
  refine ai ?_ (ax (rs:=[.cell 2 28,.tmp 3]) G U (.cell (zm 1 G) aa (.tmp (zm 0 G) .nil)) zd)
  rw [ansF,ql hb0]; exact tu2w az (bE (by rw [dA,hb0]; rfl))
 ·rw [dA,ne0] at hb0
  refine qj<|zt<|zg [η,some (2,_)] [] [.v 12 _,.v 13 _,.sto 1,.v 3 _] [.o 3] U (zl 0 G aa (zQ G (iY zo) (.o (vq 0 G)) (zS 1 G aa (zv G (a6 a5) o0)))) (zz [(3,_)] [O 1 28 _,O 2 28 _] λ a w U=>?_)
  refine a4<|qe<|ai ?_ (ax (rs:=[.cell 2 28,.tmp 3]) G U (.cell (zm 1 G) aa (.tmp (zm 0 G) .nil)) zd)
  rw [ansF,qk (by rw [hb0]; decide)]; exact tu2w rq_wk az
def opA (k:Nat):Option Rat→As
 | some z=>QA k z
 | none=>RFA rf0
abbrev opV (k:Nat)(o:Option Rat):VA:=Tu [(opA k o).va,Bo o.isSome]
abbrev FnO (k:Nat)(op:Rat→Rat→Option Rat):VA:=FnV Tryz.prog [89] (λ i:Rat × Rat=>[Qs 2048 i.1,Qs 2048 i.2]) (λ i=>opV k (op i.1 i.2))
abbrev FnT (k:Nat)(op:Rat→Rat→Rat):VA:=FnV Tryz.prog [] (λ i:Rat × Rat=>[Qs 2048 i.1,Qs 2048 i.2]) (λ i=>Qs k (op i.1 i.2))
def doF (op:Rat→Rat→Option Rat)(x y:RF):RF × Int:=if okX x&&okX y then (match op (toQ x) (toQ y) with | some z=>ansF z | none=>(rf0,3)) else (rf0,1)
theorem iA {x y:RF}:[x,y].all okX=(okX x&&okX y):=by simp
theorem do_no {k:Nat}{op:Rat→Rat→Option Rat}{x y:RF}(h:(okX x&&okX y)=false):Cn Tryz.prog 40 [FnO k op,(RFA x).va,(RFA y).va] (FrR (rf0,1)):=by
 refine Cn.intro Tryz.func40 G zk nq (λ B w0 a U=>?_)
 have U:=zn [(0,FnO k op),(1,(RFA x).va),(2,(RFA y).va)] [] U
 refine qa<|zg [] [⟨4,28,ptrH,some 0,_,none⟩,⟨5,28,ptrH,some 1,_,none⟩,⟨6,28,ptrH,some 2,_,none⟩] [.alc 0,.alc 1,.alc 2,.v 7 _] [.g 0,.o 3] U (zW 1 G (zW 2 G (zY G (Str.zero ap) (zv G (a6 a5) o0)))) (zz [(0,_),(7,_)] [O 4 28 _,O 5 28 _,O 6 28 _] λ a w U=>?_)
 refine zt<|qa<|zg [η,η,η] [] [.v 10 _,.v 11 _,.v 12 _,.v 13 _,.v 14 _] [.g 0,.g 1,.o 4] U (zl 0 G aa (zl 1 G aa (zv G (bt (D:=[U32]) (l:=[_,_]) (xs:=[.tmp 10,.tmp 11]) (cI zk) cZ zk (n_ok zk) nq nq nq (.p (vq 0 G) (vq 1 G)) G G) (zQ G (dH [x,y] nq) (.o (vq 2 G)) (zv G (cH (vq 3 G)) o0))))) (zz [(0,_),(7,_),(14,_)] [O 4 28 _,O 5 28 _,O 6 28 _] λ a w U=>?_)
 refine a4<|a9 U (zm 2 G) (λ hb0=>?_) (λ hb0=>?_)
 ·refine qa<|zg [η,η,some (1,_)] [] [.v 15 _,.sto 2,.v 7 _] [.g 0,.o 2] U (zv G (aI (qs:=[]) ap .nil) (zS 0 G aa (zv G (a6 a5) o0))) (zz [(0,_),(7,_)] [O 4 28 _,O 5 28 _,O 6 28 _] λ a w U=>?_)
  refine a4<|qe<|ac ?_
  refine ai ?_ (ax (rs:=[.cell 6 28,.tmp 7]) G U (.cell (zm 2 G) aa (.tmp (zm 1 G) .nil)) zd)
  exact az
 ·exact absurd hb0 (by rw [iA,h]; decide)
theorem do_none {k:Nat}{op:Rat→Rat→Option Rat}{r s:Rat}(hr:lz r.num≤2048∧lz (r.den:Int)≤2048)(hs:lz s.num≤2048∧lz (s.den:Int)≤2048)(ho:op r s=none):Cn Tryz.prog 40 [FnO k op,(RFA (rfOf r)).va,(RFA (rfOf s)).va] (FrR (rf0,3)):=by
 have hwk:Wk (opV k (op (r,s).1 (r,s).2)) (opV k none):=by rw [ho]; exact az
 refine Cn.intro Tryz.func40 G zk nq (λ B w0 a U=>?_)
 have U:=zn [(0,FnO k op),(1,(RFA (rfOf r)).va),(2,(RFA (rfOf s)).va)] [] U
 refine qa<|zg [] [⟨4,28,ptrH,some 0,_,none⟩,⟨5,28,ptrH,some 1,_,none⟩,⟨6,28,ptrH,some 2,_,none⟩] [.alc 0,.alc 1,.alc 2,.v 7 _] [.g 0,.o 3] U (zW 1 G (zW 2 G (zY G (Str.zero ap) (zv G (a6 a5) o0)))) (zz [(0,_),(7,_)] [O 4 28 _,O 5 28 _,O 6 28 _] λ a w U=>?_)
 refine zt<|qa<|zg [η,η,η] [] [.v 10 _,.v 11 _,.v 12 _,.v 13 _,.v 14 _] [.g 0,.g 1,.o 4] U (zl 0 G aa (zl 1 G aa (zv G (bt (D:=[U32]) (l:=[_,_]) (xs:=[.tmp 10,.tmp 11]) (cI zk) cZ zk (n_ok zk) nq nq nq (.p (vq 0 G) (vq 1 G)) G G) (zQ G (dH [rfOf r,rfOf s] nq) (.o (vq 2 G)) (zv G (cH (vq 3 G)) o0))))) (zz [(0,_),(7,_),(14,_)] [O 4 28 _,O 5 28 _,O 6 28 _] λ a w U=>?_)
 refine a4<|a9 U (zm 2 G) (λ hb0=>?_) (λ hb0=>?_)
 ·exact absurd hb0 (by rw [iA,gc,gc,f9 hr (qg _),f9 hs (qg _)]; decide)
 ·refine qj<|zt<|zg [η,η,η] [⟨8,28,ptrH,some 7,_,some (8,_)⟩] [.v 17 _,.v 18 _,.v 19 _,.v 20 _,.v 16 _,.v 21 _,.v 22 _,.alc 3,.sto 3,.v 9 _] [.g 1,.o 9] U (zM 0 G (zl 0 G aa (zl 1 G aa (zv G ((gM (r,s) (vq 0 G) (hasl_wk (.p (vq 1 G) (vq 2 G)) (.cons (fV hr.1 hr.2).va (.cons (fV hs.1 hs.2).va .nil)))).wk hwk) (zv G (a8 (vq 3 G)) (zv G (co (vq 4 G)) (zv G (cn (vq 4 G)) (zY G (Str.zero ap) (zS 5 G aa (zA 6 G o0)))))))))) (zz [(7,_),(9,_)] [O 4 28 _,O 5 28 _,O 6 28 _,O 8 28 _] λ a w U=>?_)
  refine zt<|qa<|zg [η,η,η,η] [] [.v 23 _,.v 24 _] [.g 0,.o 1] U (zM 1 G (zv G (cH (vq 0 G)) o0)) (zz [(7,_),(24,_)] [O 4 28 _,O 5 28 _,O 6 28 _,O 8 28 _] λ a w U=>?_)
  refine a4<|a9 U (zm 1 G) (λ hb1=>?_) (λ hb1=>?_)
  ·refine qa<|zg [η,η,some (1,_),η] [] [.v 25 _,.sto 2,.v 7 _] [.o 2] U (zv G (aI (qs:=[]) ap .nil) (zS 0 G aa (zv G (a6 a5) o0))) (zz [(7,_)] [O 4 28 _,O 5 28 _,O 6 28 _,O 8 28 _] λ a w U=>?_)
   refine a4<|qe<|ac ?_
   refine ai ?_ (ax (rs:=[.cell 6 28,.tmp 7]) G U (.cell (zm 2 G) aa (.tmp (zm 0 G) .nil)) zd)
   exact az
  ·exact absurd hb1 zd
theorem do_some {k:Nat}{op:Rat→Rat→Option Rat}{r s:Rat}{z:Rat}(hk:k≤549755813888)(hr:lz r.num≤2048∧lz (r.den:Int)≤2048)(hs:lz s.num≤2048∧lz (s.den:Int)≤2048)(ho:op r s=(some z)):Cn Tryz.prog 40 [FnO k op,(RFA (rfOf r)).va,(RFA (rfOf s)).va] (FrR (ansF z)):=by
 have hwk:Wk (opV k (op (r,s).1 (r,s).2)) (opV k (some z)):=by rw [ho]; exact az
 refine Cn.intro Tryz.func40 G zk nq (λ B w0 a U=>?_)
 have U:=zn [(0,FnO k op),(1,(RFA (rfOf r)).va),(2,(RFA (rfOf s)).va)] [] U
 refine qa<|zg [] [⟨4,28,ptrH,some 0,_,none⟩,⟨5,28,ptrH,some 1,_,none⟩,⟨6,28,ptrH,some 2,_,none⟩] [.alc 0,.alc 1,.alc 2,.v 7 _] [.g 0,.o 3] U (zW 1 G (zW 2 G (zY G (Str.zero ap) (zv G (a6 a5) o0)))) (zz [(0,_),(7,_)] [O 4 28 _,O 5 28 _,O 6 28 _] λ a w U=>?_)
 refine zt<|qa<|zg [η,η,η] [] [.v 10 _,.v 11 _,.v 12 _,.v 13 _,.v 14 _] [.g 0,.g 1,.o 4] U (zl 0 G aa (zl 1 G aa (zv G (bt (D:=[U32]) (l:=[_,_]) (xs:=[.tmp 10,.tmp 11]) (cI zk) cZ zk (n_ok zk) nq nq nq (.p (vq 0 G) (vq 1 G)) G G) (zQ G (dH [rfOf r,rfOf s] nq) (.o (vq 2 G)) (zv G (cH (vq 3 G)) o0))))) (zz [(0,_),(7,_),(14,_)] [O 4 28 _,O 5 28 _,O 6 28 _] λ a w U=>?_)
 refine a4<|a9 U (zm 2 G) (λ hb0=>?_) (λ hb0=>?_)
 ·exact absurd hb0 (by rw [iA,gc,gc,f9 hr (qg _),f9 hs (qg _)]; decide)
 ·refine qj<|zt<|zg [η,η,η] [⟨8,28,ptrH,some 7,_,some (8,QA k z)⟩] [.v 17 _,.v 18 _,.v 19 _,.v 20 _,.v 16 _,.v 21 _,.v 22 _,.alc 3,.sto 3,.v 9 _] [.g 1,.o 9] U (zM 0 G (zl 0 G aa (zl 1 G aa (zv G ((gM (r,s) (vq 0 G) (hasl_wk (.p (vq 1 G) (vq 2 G)) (.cons (fV hr.1 hr.2).va (.cons (fV hs.1 hs.2).va .nil)))).wk hwk) (zv G (a8 (vq 3 G)) (zv G (co (vq 4 G)) (zv G (cn (vq 4 G)) (zY G (Str.zero ap) (zS 5 G aa (zA 6 G o0)))))))))) (zz [(7,_),(9,_)] [O 4 28 _,O 5 28 _,O 6 28 _,O 8 28 _] λ a w U=>?_)
  refine zt<|qa<|zg [η,η,η,η] [] [.v 23 _,.v 24 _] [.g 0,.o 1] U (zM 1 G (zv G (cH (vq 0 G)) o0)) (zz [(7,_),(24,_)] [O 4 28 _,O 5 28 _,O 6 28 _,O 8 28 _] λ a w U=>?_)
  refine a4<|a9 U (zm 1 G) (λ hb1=>?_) (λ hb1=>?_)
  ·exact absurd hb1 (by simp)
  ·refine qj<|zt<|zg [η,η,some (4,_),η] [] [.v 26 _,.v 27 _,.v 28 _,.v 29 _,.sto 2,.v 7 _] [.o 5] U (zl 3 G aa (zQ G (gr hk) (.o (vq 0 G)) (zv G (co (vq 1 G)) (zv G (cn (vq 1 G)) (zS 2 G aa (zA 3 G o0)))))) (zz [(7,_)] [O 4 28 _,O 5 28 _,O 6 28 _,O 8 28 _] λ a w U=>?_)
   refine a4<|qe<|ai ?_ (ax (rs:=[.cell 6 28,.tmp 7]) G U (.cell (zm 2 G) aa (.tmp (zm 0 G) .nil)) zd)
   exact az
theorem do_c {k:Nat}{op:Rat→Rat→Option Rat}(hk:k≤549755813888)(x y:RF):Cn Tryz.prog 40 [FnO k op,(RFA x).va,(RFA y).va] (FrR (doF op x y)):=by
 unfold doF
 cases h:okX x&&okX y with
 | false=>exact do_no h
 | true =>
  rw [ql rfl]
  rw [qf] at h
  obtain ⟨r,rfl,hr⟩:=okX_r h.1
  obtain ⟨s,rfl,hs⟩:=okX_r h.2
  rw [cz,cz]
  cases ho:op r s with
  | none=>exact do_none hr hs ho
  | some z=>exact do_some hk hr hs ho
theorem always1_c {k:Nat}{op:Rat→Rat→Rat}(i:Rat × Rat):Cn Tryz.prog 72 [Qs 2048 i.1,Qs 2048 i.2,(ElP 89 (FnA (FnT k op) fnv_one))] (opV k (some (op i.1 i.2))):=by
 refine Cn.intro Tryz.func72 G zk nq (λ B w0 a U=>?_)
 have U:=zn [(0,Qs 2048 i.1),(1,Qs 2048 i.2),(2,(ElP 89 (FnA (FnT k op) fnv_one)))] [] U
 refine qa<|zg [] [⟨3,28,ptrH,some 0,_,none⟩,⟨4,28,ptrH,some 1,_,none⟩,⟨5,28,ptrH,some 2,_,none⟩] [.alc 0,.alc 1,.alc 2,.v 6 _] [.g 2,.o 3] U (zW 0 G (zW 1 G (zY G (Str.zero ap) (zv G (a6 aG) o0)))) (zz [(2,_),(6,_)] [O 3 28 _,O 4 28 _,O 5 28 _] λ a w U=>?_)
 refine zt<|zg [η,η,some (4,QA k (op i.1 i.2))] [] [.v 7 _,.v 8 _,.v 9 _,.v 10 _,.sto 2,.v 6 _] [.o 5] U (zv G ((am (gq 0 G) ty_89).wk fna_wk) (zl 0 G aa (zl 1 G aa (zv G (gM i (vq 0 G) (.p (vq 1 G) (vq 2 G))) (zS 3 G aa (zv G (a6 aG) o0)))))) (zz [(6,_)] [O 3 28 _,O 4 28 _,O 5 28 _] λ a w U=>?_)
 refine a4<|qe<|ai ?_ (ax (rs:=[.cell 5 28,.tmp 6]) G U (.cell (zm 2 G) aa (.tmp (zm 0 G) .nil)) zd)
 exact az
theorem always_c {k:Nat}{op:Rat→Rat→Rat}:Cn Tryz.prog 38 [FnT k op] (FnO k (λ x y=>some (op x y))):=by
 refine Cn.intro Tryz.func38 G zk nq (λ B w0 a U=>?_)
 have U:=zn [(0,FnT k op)] [] U
 refine qa<|zg [] [⟨1,89,ptrH,some 0,_,none⟩] [.alc 0,.v 2 _] [.o 1] U (oc (ob_box G G G (has_wk' (gq 0 G) (wk_fna (h:=fnv_one)))) (zv G (a6 bd) o0)) (zz [(2,_)] [O 1 89 _] λ a w U=>?_)
 refine zt<|zg [η] [] [.v 3 _,.v 2 _] [.o 1] U (zv G (r_mkfunc (D:=[89]) (pre:=λ i:Rat × Rat=>[Qs 2048 i.1,Qs 2048 i.2]) (post:=λ i=>opV k (some (op i.1 i.2))) (λ i=>always1_c i) (nd_va G) (.o (fH (lz0 0 G)))) (zA 0 G o0)) (zz [(2,_)] [O 1 89 _] λ a w U=>?_)
 refine a4<|qe<|ai ?_ (aj G U (zm 0 G))
 exact az
end Go.Proofs.YtlakjmncfooodaaGreat
