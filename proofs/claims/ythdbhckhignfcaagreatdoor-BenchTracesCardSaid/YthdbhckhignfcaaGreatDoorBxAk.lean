import Derived.Test.YthdbhckhignfcaaGreatDoorBxAa
import Derived.Test.YthdbhckhignfcaaGreatDoorBxAc
import Derived.Test.YthdbhckhignfcaaGreatDoorBxAj
set_option linter.unusedVariables false
set_option linter.unusedSimpArgs false
set_option linter.unusedSectionVars false
set_option maxRecDepth 100000
namespace Go.Proofs.YthdbhckhignfcaaGreatDoor
open Go Go.RowKit
theorem zpv (x y:Rat):Rat.divInt (x.num*(y.den:Int)+y.num*(x.den:Int)) ((x.den:Int)*(y.den:Int))=x+y:=by
 rw [Rat.add_def',← Rat.divInt_ofNat,Int.natCast_mul]
theorem rat_sub (x y:Rat):Rat.divInt (x.num*(y.den:Int)-y.num*(x.den:Int)) ((x.den:Int)*(y.den:Int))=x-y:=by
 rw [Rat.sub_def',← Rat.divInt_ofNat,Int.natCast_mul]
theorem zpt (x y:Rat):Rat.divInt (x.num*y.num) ((x.den:Int)*(y.den:Int))=x*y:=by
 rw [Rat.mul_def',← Rat.divInt_ofNat,Int.natCast_mul]
theorem zpu (x y:Rat):Rat.divInt (x.num*(y.den:Int)) ((x.den:Int)*y.num)=x/y:=by
 rw [Rat.div_def,Rat.inv_def,← Rat.divInt_mul_divInt,Rat.num_divInt_den]
theorem den_nz (x y:Rat):(x.den:Int)*(y.den:Int)≠0:=Int.mul_ne_zero (by have:=x.den_pos; omega) (by have:=y.den_pos; omega)
theorem zwx (x:Rat){y:Rat}(h:y≠0):(x.den:Int)*y.num≠0:=Int.mul_ne_zero (by have:=x.den_pos; omega) (fun e=>h (Rat.num_eq_zero.1 e))
theorem copy_e (x:Rat):cat [RIA (riOf (x.num+0)),RIA (riOf ((x.den:Int)+0))]=RFA (rfOf x):=by rw [Int.add_zero,Int.add_zero]; rfl
theorem q0_wk {k:Nat}:WkA (cat [RIA ⟨false,[]⟩,ZA k 1]) (QA k 0):=zc1 (.cons ((zju (show RIA ⟨false,[]⟩=RIA (riOf 0) from by simp [riOf,zbv])).trans (za_of (by simp [lz,zbv]))) (.cons (WkA.refl _) .nil))
theorem zmv  : Cn Tryz.prog 160 [] (Qs 2 0):=by
 refine Cn.intro Tryz.func160 rfl zk nq (fun B w0 a O=>?_)
 have O:=zn [] [] O
 refine wp_seq<|zg [] [⟨0,27,ptrH,some 0,_,none⟩] [.alc 0] [] O (oc (zas rfl rfl rfl (Str.zero zbe)) o0) (zz [] [⟨0,27,ptrH,_⟩] fun a w O=>?_)
 refine zt<|zg [some (2,_)] [] [.v 1 _,.v 2 _,.sto 0] [] O (zv rfl (za5 (xs:=[.const (.int .i64 (1))]) (of_z zd zd) (.cons za3 .nil)) (zv rfl (zbg (xs:=[(1,.tmp 1)]) (qs:=[(1,_)]) zbe (.cons ⟨rfl,(vq 0 rfl),rfl⟩ .nil)) (oc (zak rfl rfl rfl (vq 1 rfl) zar (Eq.trans (b:=4) rfl rfl)) o0))) (zz [] [⟨0,27,ptrH,_⟩] fun a w O=>?_)
 refine za0<|wp_ret<|zai ?_ (zaj rfl O (zm 0 rfl) zar)
 exact q0_wk.va
theorem small_q {p q:Int}(hp : -9223372036854775808≤p)(hp1:p<9223372036854775808)(hq : -9223372036854775808≤q)(hq1:q<9223372036854775808)(h0:q≠0):Cn Tryz.prog 186 [In p,In q] (Qs 2 (Rat.divInt p q)):=by
 refine Cn.intro Tryz.func186 rfl zk nq (fun B w0 a O=>?_)
 have O:=zn [(0,In p),(1,In q)] [] O
 refine wp_seq<|zg [] [⟨4,27,ptrH,some 0,_,none⟩] [.alc 0] [.g 0,.g 1] O (oc (zas rfl rfl rfl (Str.zero zbe)) o0) (zz [(0,_),(1,_)] [⟨4,27,ptrH,_⟩] fun a w O=>?_)
 refine zt<|zg [some (5,_)] [] [.v 5 _,.v 6 _,.v 7 _,.v 8 _,.v 9 _,.sto 0] [] O (zv rfl (za1 (gq 0 rfl)) (zv rfl (za5 (xs:=[.tmp 5]) (of_z hp hp1) (.cons (vq 0 rfl) .nil)) (zv rfl (za1 (gq 1 rfl)) (zv rfl (za5 (xs:=[.tmp 7]) (of_z hq hq1) (.cons (vq 2 rfl) .nil)) (zv rfl (za5 (xs:=[.tmp 6,.tmp 8]) (zjj zo zo h0) (.cons (vq 1 rfl) (.cons (vq 3 rfl) .nil))) (oc (zak rfl rfl rfl (vq 4 rfl) zar (Eq.trans (b:=4) rfl rfl)) o0)))))) (zz [] [⟨4,27,ptrH,_⟩] fun a w O=>?_)
 refine za0<|wp_ret<|zai ?_ (zaj rfl O (zm 0 rfl) zar)
 exact zbn
theorem one_q  : Cn Tryz.prog 159 [] (Qs 2 1):=by
 refine Cn.intro Tryz.func159 rfl zk nq (fun B w0 a O=>?_)
 have O:=zn [] [] O
 refine wp_seq<|zg [] [⟨0,27,ptrH,some 0,_,none⟩] [.alc 0] [] O (oc (zas rfl rfl rfl (Str.zero zbe)) o0) (zz [] [⟨0,27,ptrH,_⟩] fun a w O=>?_)
 refine zt<|zg [some (1,_)] [] [.v 1 _,.sto 0] [] O (zv rfl (za5 (xs:=[.const (.int .i64 (1)),.const (.int .i64 (1))]) (small_q zd zd zd zd zd) (.cons za3 (.cons za3 .nil))) (oc (zak rfl rfl rfl (vq 0 rfl) zar (Eq.trans (b:=4) rfl rfl)) o0)) (zz [] [⟨0,27,ptrH,_⟩] fun a w O=>?_)
 refine za0<|wp_ret<|zai ?_ (zaj rfl O (zm 0 rfl) zar)
 exact zbt (congrArg (Qs 2) (show Rat.divInt 1 1=1 from rfl))
theorem minus_q {c d:Nat}{x y:Rat}(hc:c+d≤549755813888):Cn Tryz.prog 162 [Qs c x,Qs d y] (Qs (c+d+1) (x-y)):=by
 refine Cn.intro Tryz.func162 rfl zk nq (fun B w0 a O=>?_)
 have O:=zn [(0,Qs c x),(1,Qs d y)] [] O
 refine wp_seq<|zg [] [⟨2,27,ptrH,some 0,_,none⟩,⟨3,27,ptrH,some 1,_,none⟩,⟨4,27,ptrH,some 2,_,none⟩] [.alc 0,.alc 1,.alc 2] [] O (oc (zam rfl rfl rfl (gq 0 rfl)) (oc (zam rfl rfl rfl (gq 1 rfl)) (oc (zas rfl rfl rfl (Str.zero zbe)) o0))) (zz [] [⟨2,27,ptrH,_⟩,⟨3,27,ptrH,_⟩,⟨4,27,ptrH,_⟩] fun a w O=>?_)
 refine zt<|zgd [[],[0],[],[2],[0,1,2,3],[],[5],[],[7],[0,1,2,3,4,5,6,7,8],[0,1,2,3,4,5,6,7,8,9],[],[11],[],[13],[0,1,2,3,4,5,6,7,8,9,10,11,12,13,14],[0,1,2,3,4,5,6,7,8,9,10,11,12,13,14,15],[0,1,2,3,4,5,6,7,8,9,10,11,12,13,14,15,16]] [none,none,some (17,_)] [] [.adr 5 2 (.some 0) True,.v 6 _,.adr 7 3 (.some 2) True,.v 8 _,.v 9 _,.adr 10 3 (.some 0) True,.v 11 _,.adr 12 2 (.some 2) True,.v 13 _,.v 14 _,.v 15 _,.adr 16 2 (.some 2) True,.v 17 _,.adr 18 3 (.some 2) True,.v 19 _,.v 20 _,.v 21 _,.sto 2] [] za6 O (oc (ob_a rfl rfl (za9 (lz0 0 rfl) zbf)) (zv rfl (za4 0 rfl zk trivial (lz0 0 rfl) (Sub.part 0 rfl rfl) zac) (oc (ob_a rfl rfl (za9 (lz0 1 rfl) zbb)) (zv rfl (za4 2 rfl zk trivial (lz0 1 rfl) (Sub.part 1 rfl rfl) zac) (zv rfl (za5 (xs:=[.tmp 6,.tmp 8]) (zf7 zo zo) (.cons (vq 1 rfl) (.cons (vq 3 rfl) .nil))) (oc (ob_a rfl rfl (za9 (lz0 1 rfl) zbf)) (zv rfl (za4 5 rfl zk trivial (lz0 1 rfl) (Sub.part 0 rfl rfl) zac) (oc (ob_a rfl rfl (za9 (lz0 0 rfl) zbb)) (zv rfl (za4 7 rfl zk trivial (lz0 0 rfl) (Sub.part 1 rfl rfl) zac) (zv rfl (za5 (xs:=[.tmp 11,.tmp 13]) (zf7 zo zo) (.cons (vq 6 rfl) (.cons (vq 8 rfl) .nil))) (zv rfl (za5 (xs:=[.tmp 9,.tmp 14]) (minus_z zo zo) (.cons (vq 4 rfl) (.cons (vq 9 rfl) .nil))) (oc (ob_a rfl rfl (za9 (lz0 0 rfl) zbb)) (zv rfl (za4 11 rfl zk trivial (lz0 0 rfl) (Sub.part 1 rfl rfl) zac) (oc (ob_a rfl rfl (za9 (lz0 1 rfl) zbb)) (zv rfl (za4 13 rfl zk trivial (lz0 1 rfl) (Sub.part 1 rfl rfl) zac) (zv rfl (za5 (xs:=[.tmp 17,.tmp 19]) (zf7 zo zo) (.cons (vq 12 rfl) (.cons (vq 14 rfl) .nil))) (zv rfl (za5 (xs:=[.tmp 15,.tmp 20]) (zjj zo zo (den_nz x y)) (.cons (vq 10 rfl) (.cons (vq 15 rfl) .nil))) (oc (zak rfl rfl rfl (vq 16 rfl) zar (Eq.trans (b:=4) rfl rfl)) o0)))))))))))))))))) zk zk zk zk (zz [] [⟨2,27,ptrH,_⟩,⟨3,27,ptrH,_⟩,⟨4,27,ptrH,_⟩] fun a w O=>?_)
 refine za0<|wp_ret<|zai ?_ (zaj rfl O (zm 2 rfl) zar)
 exact zc6 (zbt (congrArg (Qs _) (rat_sub x y))) (zbp zo).va
theorem zpm {c d:Nat}{x y:Rat}(hc:c+d≤549755813888):Cn Tryz.prog 102 [Qs c x,Qs d y] (Qs (c+d) (x*y)):=by
 refine Cn.intro Tryz.func102 rfl zk nq (fun B w0 a O=>?_)
 have O:=zn [(0,Qs c x),(1,Qs d y)] [] O
 refine wp_seq<|zg [] [⟨2,27,ptrH,some 0,_,none⟩,⟨3,27,ptrH,some 1,_,none⟩,⟨4,27,ptrH,some 2,_,none⟩] [.alc 0,.alc 1,.alc 2] [] O (oc (zam rfl rfl rfl (gq 0 rfl)) (oc (zam rfl rfl rfl (gq 1 rfl)) (oc (zas rfl rfl rfl (Str.zero zbe)) o0))) (zz [] [⟨2,27,ptrH,_⟩,⟨3,27,ptrH,_⟩,⟨4,27,ptrH,_⟩] fun a w O=>?_)
 refine zt<|zgd [[],[0],[],[2],[0,1,2,3],[],[5],[],[7],[0,1,2,3,4,5,6,7,8],[0,1,2,3,4,5,6,7,8,9],[0,1,2,3,4,5,6,7,8,9,10]] [none,none,some (11,_)] [] [.adr 5 2 (.some 0) True,.v 6 _,.adr 7 3 (.some 0) True,.v 8 _,.v 9 _,.adr 10 2 (.some 2) True,.v 11 _,.adr 12 3 (.some 2) True,.v 13 _,.v 14 _,.v 15 _,.sto 2] [] za6 O (oc (ob_a rfl rfl (za9 (lz0 0 rfl) zbf)) (zv rfl (za4 0 rfl zk trivial (lz0 0 rfl) (Sub.part 0 rfl rfl) zac) (oc (ob_a rfl rfl (za9 (lz0 1 rfl) zbf)) (zv rfl (za4 2 rfl zk trivial (lz0 1 rfl) (Sub.part 0 rfl rfl) zac) (zv rfl (za5 (xs:=[.tmp 6,.tmp 8]) (zf7 zo zo) (.cons (vq 1 rfl) (.cons (vq 3 rfl) .nil))) (oc (ob_a rfl rfl (za9 (lz0 0 rfl) zbb)) (zv rfl (za4 5 rfl zk trivial (lz0 0 rfl) (Sub.part 1 rfl rfl) zac) (oc (ob_a rfl rfl (za9 (lz0 1 rfl) zbb)) (zv rfl (za4 7 rfl zk trivial (lz0 1 rfl) (Sub.part 1 rfl rfl) zac) (zv rfl (za5 (xs:=[.tmp 11,.tmp 13]) (zf7 zo zo) (.cons (vq 6 rfl) (.cons (vq 8 rfl) .nil))) (zv rfl (za5 (xs:=[.tmp 9,.tmp 14]) (zjj zo zo (den_nz x y)) (.cons (vq 4 rfl) (.cons (vq 9 rfl) .nil))) (oc (zak rfl rfl rfl (vq 10 rfl) zar (Eq.trans (b:=4) rfl rfl)) o0)))))))))))) zk zk zk zk (zz [] [⟨2,27,ptrH,_⟩,⟨3,27,ptrH,_⟩,⟨4,27,ptrH,_⟩] fun a w O=>?_)
 refine za0<|wp_ret<|zai ?_ (zaj rfl O (zm 2 rfl) zar)
 exact zc6 (zbt (congrArg (Qs _) (zpt x y))) (zbp zo).va
theorem over_q {c d:Nat}{x y:Rat}(hc:c+d≤549755813888)(h0:y≠0):Cn Tryz.prog 100 [Qs c x,Qs d y] (Qs (c+d) (x/y)):=by
 refine Cn.intro Tryz.func100 rfl zk nq (fun B w0 a O=>?_)
 have O:=zn [(0,Qs c x),(1,Qs d y)] [] O
 refine wp_seq<|zg [] [⟨2,27,ptrH,some 0,_,none⟩,⟨3,27,ptrH,some 1,_,none⟩,⟨4,27,ptrH,some 2,_,none⟩] [.alc 0,.alc 1,.alc 2] [] O (oc (zam rfl rfl rfl (gq 0 rfl)) (oc (zam rfl rfl rfl (gq 1 rfl)) (oc (zas rfl rfl rfl (Str.zero zbe)) o0))) (zz [] [⟨2,27,ptrH,_⟩,⟨3,27,ptrH,_⟩,⟨4,27,ptrH,_⟩] fun a w O=>?_)
 refine zt<|zgd [[],[0],[],[2],[0,1,2,3],[],[5],[],[7],[0,1,2,3,4,5,6,7,8],[0,1,2,3,4,5,6,7,8,9],[0,1,2,3,4,5,6,7,8,9,10]] [none,none,some (11,_)] [] [.adr 5 2 (.some 0) True,.v 6 _,.adr 7 3 (.some 2) True,.v 8 _,.v 9 _,.adr 10 2 (.some 2) True,.v 11 _,.adr 12 3 (.some 0) True,.v 13 _,.v 14 _,.v 15 _,.sto 2] [] za6 O (oc (ob_a rfl rfl (za9 (lz0 0 rfl) zbf)) (zv rfl (za4 0 rfl zk trivial (lz0 0 rfl) (Sub.part 0 rfl rfl) zac) (oc (ob_a rfl rfl (za9 (lz0 1 rfl) zbb)) (zv rfl (za4 2 rfl zk trivial (lz0 1 rfl) (Sub.part 1 rfl rfl) zac) (zv rfl (za5 (xs:=[.tmp 6,.tmp 8]) (zf7 zo zo) (.cons (vq 1 rfl) (.cons (vq 3 rfl) .nil))) (oc (ob_a rfl rfl (za9 (lz0 0 rfl) zbb)) (zv rfl (za4 5 rfl zk trivial (lz0 0 rfl) (Sub.part 1 rfl rfl) zac) (oc (ob_a rfl rfl (za9 (lz0 1 rfl) zbf)) (zv rfl (za4 7 rfl zk trivial (lz0 1 rfl) (Sub.part 0 rfl rfl) zac) (zv rfl (za5 (xs:=[.tmp 11,.tmp 13]) (zf7 zo zo) (.cons (vq 6 rfl) (.cons (vq 8 rfl) .nil))) (zv rfl (za5 (xs:=[.tmp 9,.tmp 14]) (zjj zo zo (zwx x h0)) (.cons (vq 4 rfl) (.cons (vq 9 rfl) .nil))) (oc (zak rfl rfl rfl (vq 10 rfl) zar (Eq.trans (b:=4) rfl rfl)) o0)))))))))))) zk zk zk zk (zz [] [⟨2,27,ptrH,_⟩,⟨3,27,ptrH,_⟩,⟨4,27,ptrH,_⟩] fun a w O=>?_)
 refine za0<|wp_ret<|zai ?_ (zaj rfl O (zm 2 rfl) zar)
 exact zc6 (zbt (congrArg (Qs _) (zpu x y))) (zbp zo).va
theorem copy_r {c:Nat}{x:Rat}(hc:c≤549755813888):Cn Tryz.prog 96 [Qs c x] ((RFA (rfOf x)).va):=by
 refine Cn.intro Tryz.func96 rfl zk nq (fun B w0 a O=>?_)
 have O:=zn [(0,Qs c x)] [] O
 refine wp_seq<|zg [] [⟨1,27,ptrH,some 0,_,none⟩,⟨2,27,ptrH,some 1,_,none⟩] [.alc 0,.alc 1] [] O (oc (zam rfl rfl rfl (gq 0 rfl)) (oc (zas rfl rfl rfl (Str.zero zbe)) o0)) (zz [] [⟨1,27,ptrH,_⟩,⟨2,27,ptrH,_⟩] fun a w O=>?_)
 refine zt<|zg [none,none] [⟨3,25,ptrH,some 1,_,some (2,_)⟩] [.v 4 _,.alc 2,.sto 2] [] O (zv rfl (za5 (xs:=[.const (.int .i64 (0))]) (of_z zd zd) (.cons za3 .nil)) (oc (zas rfl rfl rfl (Str.zero zbo)) (oc (zak rfl rfl rfl (vq 0 rfl) zac (Eq.trans (b:=2) rfl rfl)) o0))) (zz [] [⟨1,27,ptrH,_⟩,⟨2,27,ptrH,_⟩,⟨3,25,ptrH,_⟩] fun a w O=>?_)
 refine zt<|zgd [[],[0],[],[0,1,2],[],[4],[],[0,1,2,3,4,5,6],[0,1,2,3,4,5,6,7],[0,1,2,3,4,5,6,7,8]] [none,some (9,_),none] [] [.adr 5 1 (.some 0) True,.v 6 _,.v 7 _,.v 8 _,.adr 9 1 (.some 2) True,.v 10 _,.v 11 _,.v 12 _,.v 13 _,.sto 1] [] za6 O (oc (ob_a rfl rfl (za9 (lz0 0 rfl) zbf)) (zv rfl (za4 0 rfl zk trivial (lz0 0 rfl) (Sub.part 0 rfl rfl) zac) (zv rfl (zaq (lz0 2 rfl) zac) (zv rfl (za5 (xs:=[.tmp 6,.tmp 7]) (plus_z zo zo) (.cons (vq 1 rfl) (.cons (vq 2 rfl) .nil))) (oc (ob_a rfl rfl (za9 (lz0 0 rfl) zbb)) (zv rfl (za4 4 rfl zk trivial (lz0 0 rfl) (Sub.part 1 rfl rfl) zac) (zv rfl (zaq (lz0 2 rfl) zac) (zv rfl (za5 (xs:=[.tmp 10,.tmp 11]) (plus_z zo zo) (.cons (vq 5 rfl) (.cons (vq 6 rfl) .nil))) (zv rfl (zbg (xs:=[(0,.tmp 8),(1,.tmp 12)]) (qs:=[(0,_),(1,_)]) zbe (.cons ⟨rfl,(vq 3 rfl),rfl⟩ (.cons ⟨rfl,(vq 7 rfl),rfl⟩ .nil))) (oc (zak rfl rfl rfl (vq 8 rfl) zar (Eq.trans (b:=4) rfl rfl)) o0)))))))))) zk zk zk zk (zz [] [⟨1,27,ptrH,_⟩,⟨2,27,ptrH,_⟩,⟨3,25,ptrH,_⟩] fun a w O=>?_)
 refine za0<|wp_ret<|zai ?_ (zaj rfl O (zm 1 rfl) zar)
 exact ((zc1 (.cons zaA (.cons zaA .nil))).trans (zju (copy_e x))).va
theorem sign_q {c:Nat}{x:Rat}:Cn Tryz.prog 152 [Qs c x] (In x.num.sign):=by
 refine Cn.intro Tryz.func152 rfl zk nq (fun B w0 a O=>?_)
 have O:=zn [(0,Qs c x)] [] O
 refine wp_seq<|zg [] [⟨1,27,ptrH,some 0,_,none⟩] [.alc 0,.v 2 _] [.o 1] O (oc (zam rfl rfl rfl (gq 0 rfl)) (zv rfl (za2 za3) o0)) (zz [(2,_)] [⟨1,27,ptrH,_⟩] fun a w O=>?_)
 refine zt<|zg [none] [] [.adr 3 1 (.some 0) True,.v 4 _,.v 5 _,.v 2 _] [.o 3] O (oc (ob_a rfl rfl (za9 (lz0 0 rfl) zbf)) (zv rfl (za4 0 rfl zk trivial (lz0 0 rfl) (Sub.part 0 rfl rfl) zac) (zv rfl (za5 (xs:=[.tmp 4]) zvj (.cons (vq 1 rfl) .nil)) (zv rfl (za2 (vq 2 rfl)) o0)))) (zz [(2,_)] [⟨1,27,ptrH,_⟩] fun a w O=>?_)
 refine za0<|wp_ret<|zai ?_ (zaf rfl O (zm 0 rfl))
 exact zbn
theorem ex_qcopy : ∃ fn, Tryz.prog.funcs[96]? = some fn ∧ (fn.name == "runtime.NumGoroutine") = false ∧ fn.body.isNone = false := ⟨_, Tryz.func96, by kernel_rfl, by kernel_rfl⟩
theorem qs_le {k B:Nat}{r:Rat}{v:Value}{w:World}(h:(Qs k r).p B v w):lz r.num≤k∧lz (r.den:Int)≤k:=by
 obtain ⟨cs,⟨ps,_,hp⟩,_⟩:=h
 cases hp with
 | cons h1 hp=>cases hp with | cons h2 _=>exact ⟨h1.1,h2.1⟩
theorem copy_q {c:Nat}{x:Rat}(hc:c≤549755813888):Cn Tryz.prog 96 [Qs c x] (Qs c x) :=
 Cn.know (c:=lz x.num≤c∧lz (x.den:Int)≤c) ex_qcopy (fun B w args ha=>by cases ha with | cons h1 _=>exact qs_le h1) fun h=>(copy_r hc).wkp (qa_of h.1 h.2).va
theorem upA_mg (l:List Nat):UpA (MgA l) (MgA l):=⟨rfl,rfl,fun B cs w hB hp=>by
 obtain ⟨ok,h0,A,c,ds,rfl,h1,h2,h3,h4⟩:=hp
 refine ⟨ok,h0,A,c,ds,rfl,h1,h2,?_,fun hn=>?_⟩
 ·exact cat_nums.2 (cat_nums.1 h3)
 ·obtain ⟨b,o,e1,e2,e3,e4⟩:=h4 hn
  exact ⟨b,o,e1,e2,.inl e2,e4⟩⟩
theorem upA_and {A:As}{c:Prop}(h:UpA A A):UpA (A.and c) (A.and c):=⟨rfl,rfl,fun B cs w hB hp=>⟨hp.1,h.2.2 B cs w hB hp.2⟩⟩
theorem zo5 (x:RI):UpA (RIA x) (RIA x):=zi3 (.cons (up_bo _) (.cons (upA_mg _) .nil))
theorem zgr (x:RF):UpA (RFA x) (RFA x):=zi3 (.cons (zo5 _) (.cons (zo5 _) .nil))
theorem upA_za {k:Nat}{z:Int}:UpA (ZA k z) (ZA k z):=upA_and (zo5 _)
theorem upA_qa {k:Nat}{r:Rat}:UpA (QA k r) (QA k r):=zi3 (.cons upA_za (.cons upA_za .nil))
theorem all_upA {l:List As}(h:∀ A∈l,UpA A A):All2 UpA l l:=by
 induction l with
 | nil=>exact .nil
 | cons A l ih=>exact .cons (h A (by simp)) (ih fun A' hA=>h A' (by simp [hA]))
theorem zpl {E:TypeId}{D:List TypeId}{l:List As}(h:∀ A∈l,UpA A A):UpA (SlA E D l) (SlO E D l True):=⟨rfl,rfl,fun B cs w hB hp=>by
 obtain ⟨hD,A,c,ds,rfl,h1,h2,h3,h4⟩:=hp
 refine ⟨trivial,hD,A,c,ds,rfl,h1,h2,(zi3 (all_upA h)).2.2 B ds w hB h3,fun hn=>?_⟩
 obtain ⟨b,o,e1,e2,e3,e4⟩:=h4 hn
 exact ⟨b,o,e1,e2,e2,e4⟩⟩
theorem slO_len {E:TypeId}{D:List TypeId}{l:List As}{p:Prop}{B:Nat}{v:Value}{w:World}(h:(SlO E D l p).va.p B v w):l.length≤9223372036854775807:=by
 obtain ⟨cs,⟨_,_,A,c,ds,_,h1,h2,_⟩,_⟩:=h
 unfold maxLen at h2
 omega
def longQ (q:Rat):Bool:=[riOf q.num].any bigI || [riOf (q.den:Int)].any bigI
def IsQ (A:As)(q:Rat):Prop:=∃ k,A=QA k q
theorem zth {E:TypeId}{D:List TypeId}{l l':List As}(h:All2 WkA l l')(hD:∀ A∈l',∀ T∈A.deps,T∈D):WkA (SlA E D l) (SlA E D l'):=⟨rfl,rfl,fun B cs w ⟨_,A,c,ds,e,h1,h2,h3,h4⟩=>by
 have hl:=h.length
 exact ⟨hD,A,c,ds,by rw [← hl]; exact e,by rw [← hl]; exact h1,h2,(zc1 h).2.2 B ds w h3,fun hn=>h4 (by rw [hl]; exact hn)⟩⟩
theorem isq_at {L:List As}{qs:List Rat}(h:All2 IsQ L qs){j:Nat}(hj:j<qs.length):∃ k,L[j]?=some (QA k qs[j]):=by
 have hl:=h.length
 obtain ⟨q,h1,k,h2⟩:=h.get (List.getElem?_eq_getElem (show j<L.length by omega))
 rw [List.getElem?_eq_getElem hj] at h1
 injection h1 with h1
 exact ⟨k,by rw [List.getElem?_eq_getElem zo,h2,h1]⟩
theorem isq_up {L:List As}{qs:List Rat}(h:All2 IsQ L qs):∀ A∈L,UpA A A:=fun A hA=>by
 obtain ⟨j,hj⟩:=List.getElem?_of_mem hA
 obtain ⟨q,_,k,rfl⟩:=h.get hj
 exact upA_qa
theorem isq_n {L:List As}{qs:List Rat}(h:All2 IsQ L qs):∀ A∈L,A.n=4:=fun A hA=>by
 obtain ⟨j,hj⟩:=List.getElem?_of_mem hA
 obtain ⟨q,_,k,rfl⟩:=h.get hj
 rfl
theorem zxe {l:List Rat}{j:Nat}(h:j<l.length)(h2:longQ l[j]=true):true=l.any longQ:=(List.any_eq_true.2 ⟨_,List.getElem_mem h,h2⟩).symm
theorem lq_no {l:List Rat}{j:Nat}(h:j<l.length)(h1:(l.take j).any longQ=false)(h2:longQ l[j]=false):(l.take (j+1)).any longQ=false:=by
 rw [List.take_succ_eq_append_getElem h,List.any_append,h1]
 simp [h2]
theorem long_q {L:List As}(qs:List Rat)(hL:All2 IsQ L qs)(hl:qs.length≤1099511627776):Cn Tryz.prog 105 [(SlA 27 [U32] L).va] (Bo (qs.any longQ)):=by
 have hLl:=hL.length
 refine Cn.introW Tryz.func105 rfl zk nq (.cons (zpl (isq_up hL)).va .nil) (zes _).va (fun B w0 a hB0 O=>?_)
 have O:=zn [(0,(SlO 27 [U32] L True).va)] [] O
 refine wp_seq<|zh [.v 2 _] [.g 0,.o 0] O (zv rfl (za2 zav) o0) (zz [(0,_),(2,_)] [] fun a w O=>?_)
 refine zt<|wp_seq<|zh [.v 5 _,.v 6 _,.v 7 _] [.g 1,.o 0,.o 1,.o 2] O (zv rfl (za1 (gq 0 rfl)) (zv rfl (zbk Tryz.underlying75 (zd7 (zaz (vq 0 rfl)))) (zv rfl (za1 za3) o0))) (zz [(2,_),(5,_),(6,_),(7,_)] [] fun a w O=>?_)
 refine za0<|wp_block ?_
 have O:=St.sel O [1,2,3]
 refine wp_loop_ghost (fun n a w=>∃ j:Nat,(n+j=qs.length∧(qs.take j).any longQ=false)∧St B w0 22 [(5,(SlO 27 [U32] L True).va),(6,In (qs.length:Nat)),(7,In (j:Nat))] [] a w) (qs.length) ?_ ?_
 ·exact ⟨0,⟨by omega,rfl⟩,by rw [hLl] at O; exact O⟩
 intro n a w hI
 obtain ⟨j,⟨hn,hno⟩,O⟩:=hI
 refine wp_seq<|zh [.v 8 _] [.g 0,.g 1,.g 2,.o 0] O (zv rfl (zb1 (gq 2 rfl) (gq 1 rfl)) o0) (zz [(5,_),(6,_),(7,_),(8,_)] [] fun a w O=>?_)
 refine zt<|za8 O (zm 3 rfl) (fun hb0=>?_) (fun hb0=>?_)
 ·have hj:j<qs.length:=by simp at hb0; omega
  obtain ⟨kj,hLj⟩:=isq_at hL hj
  refine wp_skip<|zt<|wp_block<|wp_seq<|zg [] [⟨4,27,ptrH,some 2,_,some (3,_)⟩] [.v 9 _,.v 10 _,.alc 0,.sto 0] [.g 0,.g 1,.g 2] O (zv rfl (zd0 zk1 (isq_n hL) (zd7 (zaz (gq 0 rfl))) (gq 2 rfl) hLj) (zv rfl (zad (vq 0 rfl) zar) (oc (zas rfl rfl rfl (Str.zero zbe)) (oc (zak rfl rfl rfl (vq 1 rfl) zar (Eq.trans (b:=4) rfl rfl)) o0)))) (zz [(5,_),(6,_),(7,_)] [⟨4,27,ptrH,_⟩] fun a w O=>?_)
  refine zt<|zg [none] [] [.adr 11 4 (.some 0) True,.v 12 _,.v 13 _,.v 14 _,.v 15 _,.adr 16 4 (.some 2) (_=false),.v 17 (Wh (_=false) _),.v 18 (Wh (_=false) _),.v 19 (Wh (_=false) _),.v 20 _] [.g 0,.g 1,.g 2,.o 9] O (oc (ob_a rfl rfl (za9 (lz0 0 rfl) zbf)) (zv rfl (za4 0 rfl zk trivial (lz0 0 rfl) (Sub.part 0 rfl rfl) zac) (zv rfl (zcr (D:=[U32]) (l:=[_]) (xs:=[.tmp 12]) (zeq zk) zvg zk (n_ok zk) nq nq nq (.cons (vq 1 rfl) .nil) rfl rfl) (zv rfl (za5 (xs:=[.tmp 13]) ((zxk [riOf (qs[j]).num] nq).wk (.cons (zth (.cons zaA .nil) (zeq zk)).va .nil)) (.cons (vq 2 rfl) .nil)) (zv rfl (za1 (vq 3 rfl)) (oc (zce rfl rfl rfl (vq 4 rfl) nq (fun hg=>za9 (lz0 0 rfl) zbb)) (oc (zan rfl rfl rfl (vq 4 rfl) nq (fun hg=>za4 5 rfl zk hg (lz0 0 rfl) (Sub.part 1 rfl rfl) zac)) (oc (zan rfl rfl rfl (vq 4 rfl) nq (fun hg=>zcr (D:=[U32]) (l:=[_]) (xs:=[.tmp 17]) (zeq zk) zvg zk (n_ok zk) nq nq nq (.cons (zab (vq 6 rfl) hg) .nil) rfl rfl)) (oc (zan rfl rfl rfl (vq 4 rfl) nq (fun hg=>za5 (xs:=[.tmp 18]) ((zxk [riOf ((qs[j]).den:Int)] nq).wk (.cons (zth (.cons zaA .nil) (zeq zk)).va .nil)) (.cons (zab (vq 7 rfl) hg) .nil))) (zv rfl (r_or (vq 4 rfl) (vq 8 rfl)) o0)))))))))) (zz [(5,_),(6,_),(7,_),(20,_)] [⟨4,27,ptrH,_⟩] fun a w O=>?_)
  refine za0<|za8 O (zm 3 rfl) (fun hb1=>?_) (fun hb1=>?_)
  ·refine wp_seq<|zg [none] [] [.v 2 _] [.g 0,.g 1,.g 2,.o 0] O (zv rfl (za2 zav) o0) (zz [(5,_),(6,_),(7,_),(2,_)] [⟨4,27,ptrH,_⟩] fun a w O=>?_)
   refine za0<|wp_ret<|zba ?_
   refine zag ?_
   refine zag ?_
   refine zba ?_
   refine zag ?_
   refine zao ?_ (zaf rfl O (zm 3 rfl))
   rw [← zxe hj hb1]
  ·refine wp_skip<|zae ?_
   refine za0<|zg [none] [] [.v 21 _,.v 7 _] [.g 0,.g 1,.o 1] O (zv rfl (zb5 (gq 2 rfl) za3 (zb3 zo)) (zv rfl (za1 (vq 0 rfl)) o0)) (zz [(5,_),(6,_),(7,_)] [⟨4,27,ptrH,_⟩] fun a w O=>?_)
   refine za0 ?_
   have O:=St.sel O [0,1,2]
   have O:=St.selL O []
   exact ⟨n-1,by omega,j+1,⟨by omega,lq_no hj hno hb1⟩,O⟩
 ·obtain rfl:j=qs.length:=by simp at hb0; omega
  refine wp_exit<|za7<|za7<|zap<|zt<|zh [.v 2 _] [.o 0] O (zv rfl (za2 zav) o0) (zz [(2,_)] [] fun a w O=>?_)
  refine za0<|wp_ret<|zao ?_ (zaf rfl O (zm 0 rfl))
  rw [List.take_length] at hno; rw [hno]
def okF (x:RF):Bool:=okRI x.num&&okRI x.den&&decide (0<sgI x.den)&&decide (Nat.gcd (val x.num.mag) (val x.den.mag)=1)
theorem zlv {x:RI}(ok:okL x.mag)(h:okRI x=true):∃ z,x=riOf z∧lz z≤2048:=by
 obtain ⟨neg,l⟩:=x
 simp only [okRI,Bool.not_eq_true',Bool.or_eq_false_iff,Bool.and_eq_false_iff,decide_eq_false_iff_not,beq_eq_false_iff_ne,ne_eq] at h ok
 obtain ⟨⟨h1,h2⟩,h3⟩:=h
 have hc:Canon l:=by
  refine ⟨ok,fun e=>?_⟩
  rcases List.eq_nil_or_concat l with rfl | ⟨m,y,rfl⟩
  ·simp at e
  ·simp at e
   subst e
   rcases h2 with h2 | h2
   ·simp at h2
   ·exact h2 (by simp)
 have e:limbs (val l)=l:=zou hc
 cases neg with
 | false=>exact ⟨(val l:Nat),by simp [riOf,e],by show (limbs _).length≤2048; rw [Int.natAbs_natCast,e]; omega⟩
 | true =>
  have hl:l≠[]:=fun e=>by subst e; simp at h3
  have hv:0<val l:=hc.val_pos hl
  exact ⟨-(val l:Nat),by simp [riOf,e]; omega,by show (limbs _).length≤2048; rw [Int.natAbs_neg,Int.natAbs_natCast,e]; omega⟩
theorem okF_q {x:RF}(ok:okL x.num.mag∧okL x.den.mag)(h:okF x=true):∃ r:Rat,x=rfOf r∧lz r.num≤2048∧lz (r.den:Int)≤2048:=by
 obtain ⟨xn,xd⟩:=x
 simp only [okF,Bool.and_eq_true,decide_eq_true_eq] at h ok
 obtain ⟨⟨⟨h1,h2⟩,h3⟩,h4⟩:=h
 obtain ⟨p,rfl,hp⟩:=zlv ok.1 h1
 obtain ⟨q,rfl,hq⟩:=zlv ok.2 h2
 rw [zdt] at h3
 have hq0:0<q:=Int.sign_pos_iff.1 h3
 rw [zbx,zbx] at h4
 refine ⟨⟨p,q.natAbs,by omega,h4⟩,?_,hp,?_⟩
 ·show RF.mk _ _=RF.mk (riOf p) (riOf (q.natAbs:Nat))
  rw [show ((q.natAbs:Nat):Int)=q by omega]
 ·show lz ((q.natAbs:Nat):Int)≤2048
  rw [show ((q.natAbs:Nat):Int)=q by omega]
  exact hq
theorem ok1 {b:Bool}(h:(((if b then (0:Int) else 1) != 0))=false):b=true:=by cases b <;> simp at h ⊢
theorem chk_no {x:RF}(h:((((if okRI x.num then (0:Int) else 1) != 0) || ((if okRI x.den then (0:Int) else 1) != 0)) || decide (sgI x.den≤0))=true):(1:Int)=if okF x then 0 else 1:=by
 have:okF x=false:=by
  unfold okF
  cases h1:okRI x.num <;> cases h2:okRI x.den <;> simp [h1,h2] at h ⊢
  omega
 rw [this]; rfl
theorem sg_one {p q:Int}(h:(sg3 ((Int.gcd p q:Nat):Int) 1 != 0)=true):Int.gcd p q≠1:=fun e=>by rw [e] at h; simp [sg3] at h
theorem zmd {x:RF}{B:Nat}{v:Value}{w:World}(h:(RFA x).va.p B v w):okL x.num.mag∧okL x.den.mag:=by
 obtain ⟨cs,⟨ps,_,hp⟩,_⟩:=h
 cases hp with
 | cons h1 hp=>cases hp with | cons h2 _=>exact ⟨(zie ⟨_,h1,rfl⟩).1,(zie ⟨_,h2,rfl⟩).1⟩
theorem cmp_i {p q:Int}(hp:lz p≤1099511627776)(hq:lz q≤1099511627776):Cn Tryz.prog 155 [Zi p,Zi q] (In (sg3 p q)):=(cmpI_c (riOf p) (riOf q) (by rw [zeu]; omega) (by rw [zeu]; omega)).post (by rw [cmp_ri])
theorem lz_one:lz 1≤1099511627776:=Nat.le_trans (zx9 (k:=1) zd) zd
theorem checkF_c (xn xd:RI):Cn Tryz.prog 91 [(RFA ⟨xn,xd⟩).va] (In (if okF ⟨xn,xd⟩ then 0 else 1)):=by
 refine Cn.intro Tryz.func91 rfl zk nq (fun B w0 a O=>?_)
 have O:=zn [(0,(RFA ⟨xn,xd⟩).va)] [] O
 have hok:=zmd (O.vals (0,(RFA ⟨xn,xd⟩).va) (zm 0 rfl))
 refine wp_seq<|zg [] [⟨1,27,ptrH,some 0,_,none⟩] [.alc 0,.v 2 _] [.o 1] O (oc (zam rfl rfl rfl (gq 0 rfl)) (zv rfl (za2 za3) o0)) (zz [(2,_)] [⟨1,27,ptrH,_⟩] fun a w O=>?_)
 refine zt<|wp_seq<|zg [none] [] [.adr 3 1 (.some 0) True,.v 4 _,.v 5 _,.v 6 _,.v 7 _,.adr 8 1 (.some 2) (_=false),.v 9 (Wh (_=false) _),.v 10 (Wh (_=false) _),.v 11 (Wh (_=false) _),.v 12 _,.v 13 _,.adr 14 1 (.some 2) (_=false),.v 15 (Wh (_=false) _),.v 16 (Wh (_=false) _),.v 17 (Wh (_=false) _),.v 18 _] [.g 0,.o 15] O (oc (ob_a rfl rfl (za9 (lz0 0 rfl) zbf)) (zv rfl (za4 0 rfl zk trivial (lz0 0 rfl) (Sub.part 0 rfl rfl) zac) (zv rfl (za5 (xs:=[.tmp 4]) (zz9 _) (.cons (vq 1 rfl) .nil)) (zv rfl (zdw (vq 2 rfl) za3) (zv rfl (za1 (vq 3 rfl)) (oc (zce rfl rfl rfl (vq 4 rfl) nq (fun hg=>za9 (lz0 0 rfl) zbb)) (oc (zan rfl rfl rfl (vq 4 rfl) nq (fun hg=>za4 5 rfl zk hg (lz0 0 rfl) (Sub.part 1 rfl rfl) zac)) (oc (zan rfl rfl rfl (vq 4 rfl) nq (fun hg=>za5 (xs:=[.tmp 9]) (zz9 _) (.cons (zab (vq 6 rfl) hg) .nil))) (oc (zan rfl rfl rfl (vq 4 rfl) nq (fun hg=>zdw (zab (vq 7 rfl) hg) za3)) (zv rfl (r_or (vq 4 rfl) (vq 8 rfl)) (zv rfl (za1 (vq 9 rfl)) (oc (zce rfl rfl rfl (vq 10 rfl) nq (fun hg=>za9 (lz0 0 rfl) zbb)) (oc (zan rfl rfl rfl (vq 10 rfl) nq (fun hg=>za4 11 rfl zk hg (lz0 0 rfl) (Sub.part 1 rfl rfl) zac)) (oc (zan rfl rfl rfl (vq 10 rfl) nq (fun hg=>za5 (xs:=[.tmp 15]) (zr9 _) (.cons (zab (vq 12 rfl) hg) .nil))) (oc (zan rfl rfl rfl (vq 10 rfl) nq (fun hg=>ztn (zab (vq 13 rfl) hg) za3)) (zv rfl (r_or (vq 10 rfl) (vq 14 rfl)) o0)))))))))))))))) (zz [(2,_),(18,_)] [⟨1,27,ptrH,_⟩] fun a w O=>?_)
 refine za0<|za8 O (zm 1 rfl) (fun hb0=>?_) (fun hb0=>?_)
 ·refine wp_seq<|zg [none] [] [.v 2 _] [.o 0] O (zv rfl (za2 za3) o0) (zz [(2,_)] [⟨1,27,ptrH,_⟩] fun a w O=>?_)
  refine za0<|wp_ret<|zag ?_
  refine zao ?_ (zaf rfl O (zm 0 rfl))
  exact congrArg In (chk_no hb0)
 ·rw [Bool.or_eq_false_iff,Bool.or_eq_false_iff] at hb0
  obtain ⟨p,rfl,hp⟩:=zlv hok.1 (ok1 hb0.1.1)
  obtain ⟨q,rfl,hq⟩:=zlv hok.2 (ok1 hb0.1.2)
  have hq0:0<sgI (riOf q):=by have h2:¬ sgI (riOf q)≤0:=of_decide_eq_false hb0.2; omega
  have hpq:=zxa p q
  refine wp_skip<|zt<|wp_seq<|zg [none] [] [.adr 19 1 (.some 0) True,.v 20 _,.adr 21 1 (.some 2) True,.v 22 _,.v 23 _,.v 24 _,.v 25 _,.v 26 _] [.g 0,.o 7] O (oc (ob_a rfl rfl (za9 (lz0 0 rfl) zbf)) (zv rfl (za4 0 rfl zk trivial (lz0 0 rfl) (Sub.part 0 rfl rfl) zac) (oc (ob_a rfl rfl (za9 (lz0 0 rfl) zbb)) (zv rfl (za4 2 rfl zk trivial (lz0 0 rfl) (Sub.part 1 rfl rfl) zac) (zv rfl (za5 (xs:=[.tmp 20,.tmp 22]) ((zt3 p q zo zo).wkp ziz) (.cons (vq 1 rfl) (.cons (vq 3 rfl) .nil))) (zv rfl (za5 (xs:=[.const (.int .i64 (1))]) (of_c 1 zd zd) (.cons za3 .nil)) (zv rfl (za5 (xs:=[.tmp 23,.tmp 24]) (cmp_i zo lz_one) (.cons (vq 4 rfl) (.cons (vq 5 rfl) .nil))) (zv rfl (zdw (vq 6 rfl) za3) o0)))))))) (zz [(2,_),(26,_)] [⟨1,27,ptrH,_⟩] fun a w O=>?_)
  refine za0<|za8 O (zm 1 rfl) (fun hb1=>?_) (fun hb1=>?_)
  ·refine wp_seq<|zg [none] [] [.v 2 _] [.o 0] O (zv rfl (za2 za3) o0) (zz [(2,_)] [⟨1,27,ptrH,_⟩] fun a w O=>?_)
   refine za0<|wp_ret<|zag ?_
   refine zao ?_ (zaf rfl O (zm 0 rfl))
   have e1:=sg_one hb1; exact congrArg In (by rw [show okF ⟨riOf p,riOf q⟩=false from by unfold okF; rw [zbx,zbx]; simp [show ¬ Nat.gcd p.natAbs q.natAbs=1 from e1]]; rfl)
  ·refine wp_skip<|zt<|zg [none] [] [.v 2 _] [.o 0] O (zv rfl (za2 za3) o0) (zz [(2,_)] [⟨1,27,ptrH,_⟩] fun a w O=>?_)
   refine za0<|wp_ret<|zao ?_ (zaf rfl O (zm 0 rfl))
   have e1:=zya hb1; exact congrArg In (by rw [show okF ⟨riOf p,riOf q⟩=true from by unfold okF; rw [zbx,zbx,ok1 hb0.1.1,ok1 hb0.1.2]; simp [hq0,show Nat.gcd p.natAbs q.natAbs=1 from e1]]; rfl)
end Go.Proofs.YthdbhckhignfcaaGreatDoor
namespace Go.Proofs.YthdbhckhignfcaaGreatDoor
open Go Go.RowKit
def okLb (l:List Nat):Bool:=l.all fun x=>decide (x<4294967296)
theorem okLb_iff {l:List Nat}:okLb l=true↔okL l:=by simp [okLb,okL]
def okX (x:RF):Bool:=okLb x.num.mag&&okLb x.den.mag&&okF x
def zI (x:RI):Int:=if x.neg then -(val x.mag:Nat) else (val x.mag:Nat)
def toQ (x:RF):Rat:=Rat.divInt (zI x.num) (zI x.den)
theorem zI_ri (z:Int):zI (riOf z)=z:=by
 unfold zI
 rw [zbx]
 by_cases h:z<0 <;> simp [riOf,h] <;> omega
theorem toQ_of (r:Rat):toQ (rfOf r)=r:=by
 show Rat.divInt (zI (riOf r.num)) (zI (riOf (r.den:Int)))=r
 rw [zI_ri,zI_ri]
 exact Rat.num_divInt_den r
theorem zro {x:RF}(h:okL x.num.mag∧okL x.den.mag):okX x=okF x:=by rw [okX,okLb_iff.2 h.1,okLb_iff.2 h.2]; rfl
theorem okX_q {x:RF}(h:okX x=true):x=rfOf (toQ x)∧lz (toQ x).num≤2048∧lz ((toQ x).den:Int)≤2048:=by
 simp only [okX,Bool.and_eq_true] at h
 obtain ⟨r,rfl,h1⟩:=okF_q ⟨okLb_iff.1 h.1.1,okLb_iff.1 h.1.2⟩ h.2
 rw [toQ_of]
 exact ⟨rfl,h1⟩
abbrev rf0:RF:=⟨⟨false,[]⟩,⟨false,[]⟩⟩
theorem ex_check : ∃ fn, Tryz.prog.funcs[91]? = some fn ∧ (fn.name == "runtime.NumGoroutine") = false ∧ fn.body.isNone = false := ⟨_, Tryz.func91, by kernel_rfl, by kernel_rfl⟩
theorem check_x (x:RF):Cn Tryz.prog 91 [(RFA x).va] (In (if okX x then 0 else 1)) :=
 Cn.know (c:=okL x.num.mag∧okL x.den.mag) ex_check (fun B w args ha=>by cases ha with | cons h1 _=>exact zmd h1) fun h=>(checkF_c x.num x.den).post (by rw [zro h])
theorem ok_no {l:List RF}{j:Nat}(h:j<l.length)(h2:((if okX l[j] then (0:Int) else 1) != 0)=true):false=l.all okX:=by
 have h3:okX l[j]=false:=by cases hh:okX l[j] <;> simp [hh] at h2 ⊢
 exact (List.all_eq_false.2 ⟨_,List.getElem_mem h,by simp [h3]⟩).symm
theorem ok_yes {l:List RF}{j:Nat}(h:j<l.length)(h1:(l.take j).all okX=true)(h2:((if okX l[j] then (0:Int) else 1) != 0)=false):(l.take (j+1)).all okX=true:=by
 rw [List.take_succ_eq_append_getElem h,List.all_append,h1]
 simp [ok1 h2]
theorem zt5 (xs:List RF)(hl:xs.length≤1099511627776):Cn Tryz.prog 23 [(SlA 27 [U32] (xs.map RFA)).va] (Bo (xs.all okX)):=by
 refine Cn.introW Tryz.func23 rfl zk nq (.cons (zpl (fun A hA=>by obtain ⟨x,_,rfl⟩:=List.mem_map.1 hA; exact zgr x)).va .nil) (zes _).va (fun B w0 a hB0 O=>?_)
 have O:=zn [(0,(SlO 27 [U32] (xs.map RFA) True).va)] [] O
 refine wp_seq<|zh [.v 2 _] [.g 0,.o 0] O (zv rfl (za2 zav) o0) (zz [(0,_),(2,_)] [] fun a w O=>?_)
 refine zt<|wp_seq<|zh [.v 5 _,.v 6 _,.v 7 _] [.g 1,.o 0,.o 1,.o 2] O (zv rfl (za1 (gq 0 rfl)) (zv rfl (zbk Tryz.underlying75 (zd7 (zaz (vq 0 rfl)))) (zv rfl (za1 za3) o0))) (zz [(2,_),(5,_),(6,_),(7,_)] [] fun a w O=>?_)
 refine za0<|wp_block ?_
 have O:=St.sel O [1,2,3]
 refine wp_loop_ghost (fun n a w=>∃ j:Nat,(n+j=xs.length∧(xs.take j).all okX=true)∧St B w0 15 [(5,(SlO 27 [U32] (xs.map RFA) True).va),(6,In (xs.length:Nat)),(7,In (j:Nat))] [] a w) (xs.length) ?_ ?_
 ·exact ⟨0,⟨by omega,rfl⟩,by rw [List.length_map] at O; exact O⟩
 intro n a w hI
 obtain ⟨j,⟨hn,hno⟩,O⟩:=hI
 refine wp_seq<|zh [.v 8 _] [.g 0,.g 1,.g 2,.o 0] O (zv rfl (zb1 (gq 2 rfl) (gq 1 rfl)) o0) (zz [(5,_),(6,_),(7,_),(8,_)] [] fun a w O=>?_)
 refine zt<|za8 O (zm 3 rfl) (fun hb0=>?_) (fun hb0=>?_)
 ·have hj:j<xs.length:=by simp at hb0; omega
  refine wp_skip<|zt<|wp_block<|wp_seq<|zg [] [⟨4,27,ptrH,some 2,_,some (3,_)⟩] [.v 9 _,.v 10 _,.alc 0,.sto 0] [.g 0,.g 1,.g 2] O (zv rfl (zd0 zk1 (zgp fun _=>rfl) (zd7 (zaz (gq 0 rfl))) (gq 2 rfl) (ze1 hj)) (zv rfl (zad (vq 0 rfl) zar) (oc (zas rfl rfl rfl (Str.zero zbe)) (oc (zak rfl rfl rfl (vq 1 rfl) zar (Eq.trans (b:=4) rfl rfl)) o0)))) (zz [(5,_),(6,_),(7,_)] [⟨4,27,ptrH,_⟩] fun a w O=>?_)
  refine zt<|zg [none] [] [.v 11 _,.v 12 _,.v 13 _] [.g 0,.g 1,.g 2,.o 2] O (zv rfl (zaq (lz0 0 rfl) zar) (zv rfl (za5 (xs:=[.tmp 11]) (check_x _) (.cons (vq 0 rfl) .nil)) (zv rfl (zdw (vq 1 rfl) za3) o0))) (zz [(5,_),(6,_),(7,_),(13,_)] [⟨4,27,ptrH,_⟩] fun a w O=>?_)
  refine za0<|za8 O (zm 3 rfl) (fun hb1=>?_) (fun hb1=>?_)
  ·refine wp_seq<|zg [none] [] [.v 2 _] [.g 0,.g 1,.g 2,.o 0] O (zv rfl (za2 zav) o0) (zz [(5,_),(6,_),(7,_),(2,_)] [⟨4,27,ptrH,_⟩] fun a w O=>?_)
   refine za0<|wp_ret<|zba ?_
   refine zag ?_
   refine zag ?_
   refine zba ?_
   refine zag ?_
   refine zao ?_ (zaf rfl O (zm 3 rfl))
   rw [← ok_no hj hb1]
  ·refine wp_skip<|zae ?_
   refine za0<|zg [none] [] [.v 14 _,.v 7 _] [.g 0,.g 1,.o 1] O (zv rfl (zb5 (gq 2 rfl) za3 (zb3 zo)) (zv rfl (za1 (vq 0 rfl)) o0)) (zz [(5,_),(6,_),(7,_)] [⟨4,27,ptrH,_⟩] fun a w O=>?_)
   refine za0 ?_
   have O:=St.sel O [0,1,2]
   have O:=St.selL O []
   exact ⟨n-1,by omega,j+1,⟨by omega,ok_yes hj hno hb1⟩,O⟩
 ·obtain rfl:j=xs.length:=by simp at hb0; omega
  refine wp_exit<|za7<|za7<|zap<|zt<|zh [.v 2 _] [.o 0] O (zv rfl (za2 zav) o0) (zz [(2,_)] [] fun a w O=>?_)
  refine za0<|wp_ret<|zao ?_ (zaf rfl O (zm 0 rfl))
  rw [List.take_length] at hno; rw [hno]
theorem tu2w {a b c d:VA}(h:Wk a c)(h':Wk b d):Wk (Tu [a,b]) (Tu [c,d]):=zzx (.cons h (.cons h' .nil))
theorem has_wk' {R:Rg}{B:Nat}{w0:Bs}{i:Nat}{x:Operand}{A A':VA}(h:Has R B w0 i x A)(hw:Wk A A'):Has R B w0 i x A':=fun a w av=>hw _ _ _ (h a w av)
end Go.Proofs.YthdbhckhignfcaaGreatDoor
namespace Go.Proofs.YthdbhckhignfcaaGreatDoor
open Go Go.RowKit
end Go.Proofs.YthdbhckhignfcaaGreatDoor
namespace Go.Proofs.YthdbhckhignfcaaGreatDoor
open Go Go.RowKit
structure RG where
 re:RF
 im:RF
 deriving DecidableEq
structure RM where
 a:RF
 b:RF
 c:RF
 d:RF
 deriving DecidableEq
structure RR where
 y:RF
 u:RF
 deriving DecidableEq
structure GQ where
 re:Rat
 im:Rat
 deriving DecidableEq
structure MQ where
 a:Rat
 b:Rat
 c:Rat
 d:Rat
 deriving DecidableEq
structure YQ where
 y:Rat
 u:Rat
 deriving DecidableEq
def RRA (x:RR):As:=cat [RFA x.y,RFA x.u]
def QMA (k:Nat)(x:MQ):As:=cat [QA k x.a,QA k x.b,QA k x.c,QA k x.d]
def QRA (k:Nat)(x:YQ):As:=cat [QA k x.y,QA k x.u]
def rrOf (r:YQ):RR:=⟨rfOf r.y,rfOf r.u⟩
def toY (x:RR):YQ:=⟨toQ x.y,toQ x.u⟩
theorem qa_x {k:Nat}{x:RF}(h:okX x=true)(hk:2048≤k):WkA (RFA x) (QA k (toQ x)):=by
 obtain ⟨h1,h2,h3⟩:=okX_q h
 exact (zju (congrArg RFA h1)).trans (qa_of (Nat.le_trans h2 hk) (Nat.le_trans h3 hk))
theorem qr_x {x:RR}(h:[x.y,x.u].all okX=true):WkA (RRA x) (QRA 2048 (toY x)):=by
 simp only [List.all_cons,List.all_nil,Bool.and_true,Bool.and_eq_true] at h
 exact zc1 (.cons (qa_x h.1 (Nat.le_refl _)) (.cons (qa_x h.2 (Nat.le_refl _)) .nil))
theorem qrA {k:Nat}{x:YQ}:WkA (QRA k x) (RRA (rrOf x)):=zc1 (.cons qaA (.cons qaA .nil))
theorem zbj:Str Tryz.prog 78 [RFA rf0,RFA rf0,RFA rf0,RFA rf0] :=
 Str.of (z:=.agg #[.bool false,.slice none 0 0,.bool false,.slice none 0 0,.bool false,.slice none 0 0,.bool false,.slice none 0 0,.bool false,.slice none 0 0,.bool false,.slice none 0 0,.bool false,.slice none 0 0,.bool false,.slice none 0 0]) zk Tryz.underlying78 zk fun B w=>⟨[[.bool false,.slice none 0 0,.bool false,.slice none 0 0],[.bool false,.slice none 0 0,.bool false,.slice none 0 0],[.bool false,.slice none 0 0,.bool false,.slice none 0 0],[.bool false,.slice none 0 0,.bool false,.slice none 0 0]],rfl,(.cons (zme B w) (.cons (zme B w) (.cons (zme B w) (.cons (zme B w) .nil))))⟩
theorem zgy:Str Tryz.prog 29 [RFA rf0,RFA rf0] :=
 Str.of (z:=.agg #[.bool false,.slice none 0 0,.bool false,.slice none 0 0,.bool false,.slice none 0 0,.bool false,.slice none 0 0]) zk Tryz.underlying29 zk fun B w=>⟨[[.bool false,.slice none 0 0,.bool false,.slice none 0 0],[.bool false,.slice none 0 0,.bool false,.slice none 0 0]],rfl,(.cons (zme B w) (.cons (zme B w) .nil))⟩
end Go.Proofs.YthdbhckhignfcaaGreatDoor
namespace Go.Proofs.YthdbhckhignfcaaGreatDoor
open Go Go.RowKit
end Go.Proofs.YthdbhckhignfcaaGreatDoor
