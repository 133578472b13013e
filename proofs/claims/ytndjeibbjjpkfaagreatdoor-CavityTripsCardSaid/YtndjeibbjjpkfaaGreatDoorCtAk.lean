import Derived.Test.YtndjeibbjjpkfaaGreatDoorCtAa
import Derived.Test.YtndjeibbjjpkfaaGreatDoorCtAc
import Derived.Test.YtndjeibbjjpkfaaGreatDoorCtAj
set_option linter.unusedVariables false
set_option linter.unusedSimpArgs false
set_option linter.unusedSectionVars false
set_option maxRecDepth 100000
namespace Go.Proofs.YtndjeibbjjpkfaaGreatDoor
open Go Go.RowKit
theorem zvq (x y:Rat):Rat.divInt (x.num*(y.den:Int)+y.num*(x.den:Int)) ((x.den:Int)*(y.den:Int))=x+y:=by
 rw [Rat.add_def',← Rat.divInt_ofNat,Int.natCast_mul]
theorem rat_sub (x y:Rat):Rat.divInt (x.num*(y.den:Int)-y.num*(x.den:Int)) ((x.den:Int)*(y.den:Int))=x-y:=by
 rw [Rat.sub_def',← Rat.divInt_ofNat,Int.natCast_mul]
theorem zpe (x y:Rat):Rat.divInt (x.num*y.num) ((x.den:Int)*(y.den:Int))=x*y:=by
 rw [Rat.mul_def',← Rat.divInt_ofNat,Int.natCast_mul]
theorem zpf (x y:Rat):Rat.divInt (x.num*(y.den:Int)) ((x.den:Int)*y.num)=x/y:=by
 rw [Rat.div_def,Rat.inv_def,← Rat.divInt_mul_divInt,Rat.num_divInt_den]
theorem den_nz (x y:Rat):(x.den:Int)*(y.den:Int)≠0:=Int.mul_ne_zero (by have:=x.den_pos; omega) (by have:=y.den_pos; omega)
theorem zwb (x:Rat){y:Rat}(h:y≠0):(x.den:Int)*y.num≠0:=Int.mul_ne_zero (by have:=x.den_pos; omega) (fun e=>h (Rat.num_eq_zero.1 e))
def cmQ (x y:Rat):Int:=if x<y then -1 else if y<x then 1 else 0
theorem cm_sg (x y:Rat):sg3 (x.num*(y.den:Int)) (y.num*(x.den:Int))=cmQ x y:=by
 unfold sg3 cmQ
 simp only [Rat.lt_iff]
theorem copy_e (x:Rat):cat [RIA (riOf (x.num+0)),RIA (riOf ((x.den:Int)+0))]=RFA (rfOf x):=by rw [Int.add_zero,Int.add_zero]; rfl
theorem q0_wk {k:Nat}:WkA (cat [RIA ⟨false,[]⟩,ZA k 1]) (QA k 0):=zc8 (.cons ((zi4 (show RIA ⟨false,[]⟩=RIA (riOf 0) from by simp [riOf,zbx])).trans (za_of (by simp [lz,zbx]))) (.cons (WkA.refl _) .nil))
theorem zm2  : Cn Tryz.prog 148 [] (Qs 2 0):=by
 refine Cn.intro Tryz.func148 rfl zk nq (fun B w0 a O=>?_)
 have O:=zn [] [] O
 refine wp_seq<|zg [] [⟨0,30,ptrH,some 0,_,none⟩] [.alc 0] [] O (oc (zaq rfl rfl rfl (Str.zero zb3)) o0) (zz [] [⟨0,30,ptrH,_⟩] fun a w O=>?_)
 refine zt<|zg [some (2,_)] [] [.val 1 _,.val 2 _,.sto 0] [] O (zv rfl (za5 (xs:=[.const (.int .i64 (1))]) (of_z zd zd) (.cons za3 .nil)) (zv rfl (zb8 (xs:=[(1,.tmp 1)]) (qs:=[(1,_)]) zb3 (.cons ⟨rfl,(vq 0 rfl),rfl⟩ .nil)) (oc (zac rfl rfl rfl (vq 1 rfl) zad (Eq.trans (b:=4) rfl rfl)) o0))) (zz [] [⟨0,30,ptrH,_⟩] fun a w O=>?_)
 refine za0<|wp_ret<|zae ?_ (zak rfl O (zm 0 rfl) zad)
 exact q0_wk.va
theorem zp8 {p q:Int}(hp : -9223372036854775808≤p)(hp1:p<9223372036854775808)(hq : -9223372036854775808≤q)(hq1:q<9223372036854775808)(h0:q≠0):Cn Tryz.prog 140 [In p,In q] (Qs 2 (Rat.divInt p q)):=by
 refine Cn.intro Tryz.func140 rfl zk nq (fun B w0 a O=>?_)
 have O:=zn [(0,In p),(1,In q)] [] O
 refine wp_seq<|zg [] [⟨4,30,ptrH,some 0,_,none⟩] [.alc 0] [.g 0,.g 1] O (oc (zaq rfl rfl rfl (Str.zero zb3)) o0) (zz [(0,_),(1,_)] [⟨4,30,ptrH,_⟩] fun a w O=>?_)
 refine zt<|zg [some (5,_)] [] [.val 5 _,.val 6 _,.val 7 _,.val 8 _,.val 9 _,.sto 0] [] O (zv rfl (za2 (gq 0 rfl)) (zv rfl (za5 (xs:=[.tmp 5]) (of_z hp hp1) (.cons (vq 0 rfl) .nil)) (zv rfl (za2 (gq 1 rfl)) (zv rfl (za5 (xs:=[.tmp 7]) (of_z hq hq1) (.cons (vq 2 rfl) .nil)) (zv rfl (za5 (xs:=[.tmp 6,.tmp 8]) (zg3 zo zo h0) (.cons (vq 1 rfl) (.cons (vq 3 rfl) .nil))) (oc (zac rfl rfl rfl (vq 4 rfl) zad (Eq.trans (b:=4) rfl rfl)) o0)))))) (zz [] [⟨4,30,ptrH,_⟩] fun a w O=>?_)
 refine za0<|wp_ret<|zae ?_ (zak rfl O (zm 0 rfl) zad)
 exact zbi
theorem zw8  : Cn Tryz.prog 147 [] (Qs 2 1):=by
 refine Cn.intro Tryz.func147 rfl zk nq (fun B w0 a O=>?_)
 have O:=zn [] [] O
 refine wp_seq<|zg [] [⟨0,30,ptrH,some 0,_,none⟩] [.alc 0] [] O (oc (zaq rfl rfl rfl (Str.zero zb3)) o0) (zz [] [⟨0,30,ptrH,_⟩] fun a w O=>?_)
 refine zt<|zg [some (1,_)] [] [.val 1 _,.sto 0] [] O (zv rfl (za5 (xs:=[.const (.int .i64 (1)),.const (.int .i64 (1))]) (zp8 zd zd zd zd zd) (.cons za3 (.cons za3 .nil))) (oc (zac rfl rfl rfl (vq 0 rfl) zad (Eq.trans (b:=4) rfl rfl)) o0)) (zz [] [⟨0,30,ptrH,_⟩] fun a w O=>?_)
 refine za0<|wp_ret<|zae ?_ (zak rfl O (zm 0 rfl) zad)
 exact zbt (congrArg (Qs 2) (show Rat.divInt 1 1=1 from rfl))
theorem zr9 {c d:Nat}{x y:Rat}(hc:c+d≤549755813888):Cn Tryz.prog 137 [Qs c x,Qs d y] (Qs (c+d+1) (x+y)):=by
 refine Cn.intro Tryz.func137 rfl zk nq (fun B w0 a O=>?_)
 have O:=zn [(0,Qs c x),(1,Qs d y)] [] O
 refine wp_seq<|zg [] [⟨2,30,ptrH,some 0,_,none⟩,⟨3,30,ptrH,some 1,_,none⟩,⟨4,30,ptrH,some 2,_,none⟩] [.alc 0,.alc 1,.alc 2] [] O (oc (zan rfl rfl rfl (gq 0 rfl)) (oc (zan rfl rfl rfl (gq 1 rfl)) (oc (zaq rfl rfl rfl (Str.zero zb3)) o0))) (zz [] [⟨2,30,ptrH,_⟩,⟨3,30,ptrH,_⟩,⟨4,30,ptrH,_⟩] fun a w O=>?_)
 refine zt<|zgd [[],[0],[],[2],[0,1,2,3],[],[5],[],[7],[0,1,2,3,4,5,6,7,8],[0,1,2,3,4,5,6,7,8,9],[],[11],[],[13],[0,1,2,3,4,5,6,7,8,9,10,11,12,13,14],[0,1,2,3,4,5,6,7,8,9,10,11,12,13,14,15],[0,1,2,3,4,5,6,7,8,9,10,11,12,13,14,15,16]] [none,none,some (17,_)] [] [.adr 5 2 (.some 0) True,.val 6 _,.adr 7 3 (.some 2) True,.val 8 _,.val 9 _,.adr 10 3 (.some 0) True,.val 11 _,.adr 12 2 (.some 2) True,.val 13 _,.val 14 _,.val 15 _,.adr 16 2 (.some 2) True,.val 17 _,.adr 18 3 (.some 2) True,.val 19 _,.val 20 _,.val 21 _,.sto 2] [] za6 O (oc (ob_a rfl rfl (za7 (lz0 0 rfl) zbf)) (zv rfl (za4 0 rfl zk trivial (lz0 0 rfl) (Sub.part 0 rfl rfl) zaf) (oc (ob_a rfl rfl (za7 (lz0 1 rfl) zb9)) (zv rfl (za4 2 rfl zk trivial (lz0 1 rfl) (Sub.part 1 rfl rfl) zaf) (zv rfl (za5 (xs:=[.tmp 6,.tmp 8]) (zdw zo zo) (.cons (vq 1 rfl) (.cons (vq 3 rfl) .nil))) (oc (ob_a rfl rfl (za7 (lz0 1 rfl) zbf)) (zv rfl (za4 5 rfl zk trivial (lz0 1 rfl) (Sub.part 0 rfl rfl) zaf) (oc (ob_a rfl rfl (za7 (lz0 0 rfl) zb9)) (zv rfl (za4 7 rfl zk trivial (lz0 0 rfl) (Sub.part 1 rfl rfl) zaf) (zv rfl (za5 (xs:=[.tmp 11,.tmp 13]) (zdw zo zo) (.cons (vq 6 rfl) (.cons (vq 8 rfl) .nil))) (zv rfl (za5 (xs:=[.tmp 9,.tmp 14]) (zr8 zo zo) (.cons (vq 4 rfl) (.cons (vq 9 rfl) .nil))) (oc (ob_a rfl rfl (za7 (lz0 0 rfl) zb9)) (zv rfl (za4 11 rfl zk trivial (lz0 0 rfl) (Sub.part 1 rfl rfl) zaf) (oc (ob_a rfl rfl (za7 (lz0 1 rfl) zb9)) (zv rfl (za4 13 rfl zk trivial (lz0 1 rfl) (Sub.part 1 rfl rfl) zaf) (zv rfl (za5 (xs:=[.tmp 17,.tmp 19]) (zdw zo zo) (.cons (vq 12 rfl) (.cons (vq 14 rfl) .nil))) (zv rfl (za5 (xs:=[.tmp 15,.tmp 20]) (zg3 zo zo (den_nz x y)) (.cons (vq 10 rfl) (.cons (vq 15 rfl) .nil))) (oc (zac rfl rfl rfl (vq 16 rfl) zad (Eq.trans (b:=4) rfl rfl)) o0)))))))))))))))))) zk zk zk zk (zz [] [⟨2,30,ptrH,_⟩,⟨3,30,ptrH,_⟩,⟨4,30,ptrH,_⟩] fun a w O=>?_)
 refine za0<|wp_ret<|zae ?_ (zak rfl O (zm 2 rfl) zad)
 exact zcj (zbt (congrArg (Qs _) (zvq x y))) (zbg zo).va
theorem zwi {c d:Nat}{x y:Rat}(hc:c+d≤549755813888):Cn Tryz.prog 190 [Qs c x,Qs d y] (Qs (c+d+1) (x-y)):=by
 refine Cn.intro Tryz.func190 rfl zk nq (fun B w0 a O=>?_)
 have O:=zn [(0,Qs c x),(1,Qs d y)] [] O
 refine wp_seq<|zg [] [⟨2,30,ptrH,some 0,_,none⟩,⟨3,30,ptrH,some 1,_,none⟩,⟨4,30,ptrH,some 2,_,none⟩] [.alc 0,.alc 1,.alc 2] [] O (oc (zan rfl rfl rfl (gq 0 rfl)) (oc (zan rfl rfl rfl (gq 1 rfl)) (oc (zaq rfl rfl rfl (Str.zero zb3)) o0))) (zz [] [⟨2,30,ptrH,_⟩,⟨3,30,ptrH,_⟩,⟨4,30,ptrH,_⟩] fun a w O=>?_)
 refine zt<|zgd [[],[0],[],[2],[0,1,2,3],[],[5],[],[7],[0,1,2,3,4,5,6,7,8],[0,1,2,3,4,5,6,7,8,9],[],[11],[],[13],[0,1,2,3,4,5,6,7,8,9,10,11,12,13,14],[0,1,2,3,4,5,6,7,8,9,10,11,12,13,14,15],[0,1,2,3,4,5,6,7,8,9,10,11,12,13,14,15,16]] [none,none,some (17,_)] [] [.adr 5 2 (.some 0) True,.val 6 _,.adr 7 3 (.some 2) True,.val 8 _,.val 9 _,.adr 10 3 (.some 0) True,.val 11 _,.adr 12 2 (.some 2) True,.val 13 _,.val 14 _,.val 15 _,.adr 16 2 (.some 2) True,.val 17 _,.adr 18 3 (.some 2) True,.val 19 _,.val 20 _,.val 21 _,.sto 2] [] za6 O (oc (ob_a rfl rfl (za7 (lz0 0 rfl) zbf)) (zv rfl (za4 0 rfl zk trivial (lz0 0 rfl) (Sub.part 0 rfl rfl) zaf) (oc (ob_a rfl rfl (za7 (lz0 1 rfl) zb9)) (zv rfl (za4 2 rfl zk trivial (lz0 1 rfl) (Sub.part 1 rfl rfl) zaf) (zv rfl (za5 (xs:=[.tmp 6,.tmp 8]) (zdw zo zo) (.cons (vq 1 rfl) (.cons (vq 3 rfl) .nil))) (oc (ob_a rfl rfl (za7 (lz0 1 rfl) zbf)) (zv rfl (za4 5 rfl zk trivial (lz0 1 rfl) (Sub.part 0 rfl rfl) zaf) (oc (ob_a rfl rfl (za7 (lz0 0 rfl) zb9)) (zv rfl (za4 7 rfl zk trivial (lz0 0 rfl) (Sub.part 1 rfl rfl) zaf) (zv rfl (za5 (xs:=[.tmp 11,.tmp 13]) (zdw zo zo) (.cons (vq 6 rfl) (.cons (vq 8 rfl) .nil))) (zv rfl (za5 (xs:=[.tmp 9,.tmp 14]) (minus_z zo zo) (.cons (vq 4 rfl) (.cons (vq 9 rfl) .nil))) (oc (ob_a rfl rfl (za7 (lz0 0 rfl) zb9)) (zv rfl (za4 11 rfl zk trivial (lz0 0 rfl) (Sub.part 1 rfl rfl) zaf) (oc (ob_a rfl rfl (za7 (lz0 1 rfl) zb9)) (zv rfl (za4 13 rfl zk trivial (lz0 1 rfl) (Sub.part 1 rfl rfl) zaf) (zv rfl (za5 (xs:=[.tmp 17,.tmp 19]) (zdw zo zo) (.cons (vq 12 rfl) (.cons (vq 14 rfl) .nil))) (zv rfl (za5 (xs:=[.tmp 15,.tmp 20]) (zg3 zo zo (den_nz x y)) (.cons (vq 10 rfl) (.cons (vq 15 rfl) .nil))) (oc (zac rfl rfl rfl (vq 16 rfl) zad (Eq.trans (b:=4) rfl rfl)) o0)))))))))))))))))) zk zk zk zk (zz [] [⟨2,30,ptrH,_⟩,⟨3,30,ptrH,_⟩,⟨4,30,ptrH,_⟩] fun a w O=>?_)
 refine za0<|wp_ret<|zae ?_ (zak rfl O (zm 2 rfl) zad)
 exact zcj (zbt (congrArg (Qs _) (rat_sub x y))) (zbg zo).va
theorem zgl {c d:Nat}{x y:Rat}(hc:c+d≤549755813888):Cn Tryz.prog 138 [Qs c x,Qs d y] (Qs (c+d) (x*y)):=by
 refine Cn.intro Tryz.func138 rfl zk nq (fun B w0 a O=>?_)
 have O:=zn [(0,Qs c x),(1,Qs d y)] [] O
 refine wp_seq<|zg [] [⟨2,30,ptrH,some 0,_,none⟩,⟨3,30,ptrH,some 1,_,none⟩,⟨4,30,ptrH,some 2,_,none⟩] [.alc 0,.alc 1,.alc 2] [] O (oc (zan rfl rfl rfl (gq 0 rfl)) (oc (zan rfl rfl rfl (gq 1 rfl)) (oc (zaq rfl rfl rfl (Str.zero zb3)) o0))) (zz [] [⟨2,30,ptrH,_⟩,⟨3,30,ptrH,_⟩,⟨4,30,ptrH,_⟩] fun a w O=>?_)
 refine zt<|zgd [[],[0],[],[2],[0,1,2,3],[],[5],[],[7],[0,1,2,3,4,5,6,7,8],[0,1,2,3,4,5,6,7,8,9],[0,1,2,3,4,5,6,7,8,9,10]] [none,none,some (11,_)] [] [.adr 5 2 (.some 0) True,.val 6 _,.adr 7 3 (.some 0) True,.val 8 _,.val 9 _,.adr 10 2 (.some 2) True,.val 11 _,.adr 12 3 (.some 2) True,.val 13 _,.val 14 _,.val 15 _,.sto 2] [] za6 O (oc (ob_a rfl rfl (za7 (lz0 0 rfl) zbf)) (zv rfl (za4 0 rfl zk trivial (lz0 0 rfl) (Sub.part 0 rfl rfl) zaf) (oc (ob_a rfl rfl (za7 (lz0 1 rfl) zbf)) (zv rfl (za4 2 rfl zk trivial (lz0 1 rfl) (Sub.part 0 rfl rfl) zaf) (zv rfl (za5 (xs:=[.tmp 6,.tmp 8]) (zdw zo zo) (.cons (vq 1 rfl) (.cons (vq 3 rfl) .nil))) (oc (ob_a rfl rfl (za7 (lz0 0 rfl) zb9)) (zv rfl (za4 5 rfl zk trivial (lz0 0 rfl) (Sub.part 1 rfl rfl) zaf) (oc (ob_a rfl rfl (za7 (lz0 1 rfl) zb9)) (zv rfl (za4 7 rfl zk trivial (lz0 1 rfl) (Sub.part 1 rfl rfl) zaf) (zv rfl (za5 (xs:=[.tmp 11,.tmp 13]) (zdw zo zo) (.cons (vq 6 rfl) (.cons (vq 8 rfl) .nil))) (zv rfl (za5 (xs:=[.tmp 9,.tmp 14]) (zg3 zo zo (den_nz x y)) (.cons (vq 4 rfl) (.cons (vq 9 rfl) .nil))) (oc (zac rfl rfl rfl (vq 10 rfl) zad (Eq.trans (b:=4) rfl rfl)) o0)))))))))))) zk zk zk zk (zz [] [⟨2,30,ptrH,_⟩,⟨3,30,ptrH,_⟩,⟨4,30,ptrH,_⟩] fun a w O=>?_)
 refine za0<|wp_ret<|zae ?_ (zak rfl O (zm 2 rfl) zad)
 exact zcj (zbt (congrArg (Qs _) (zpe x y))) (zbg zo).va
theorem over_q {c d:Nat}{x y:Rat}(hc:c+d≤549755813888)(h0:y≠0):Cn Tryz.prog 155 [Qs c x,Qs d y] (Qs (c+d) (x/y)):=by
 refine Cn.intro Tryz.func155 rfl zk nq (fun B w0 a O=>?_)
 have O:=zn [(0,Qs c x),(1,Qs d y)] [] O
 refine wp_seq<|zg [] [⟨2,30,ptrH,some 0,_,none⟩,⟨3,30,ptrH,some 1,_,none⟩,⟨4,30,ptrH,some 2,_,none⟩] [.alc 0,.alc 1,.alc 2] [] O (oc (zan rfl rfl rfl (gq 0 rfl)) (oc (zan rfl rfl rfl (gq 1 rfl)) (oc (zaq rfl rfl rfl (Str.zero zb3)) o0))) (zz [] [⟨2,30,ptrH,_⟩,⟨3,30,ptrH,_⟩,⟨4,30,ptrH,_⟩] fun a w O=>?_)
 refine zt<|zgd [[],[0],[],[2],[0,1,2,3],[],[5],[],[7],[0,1,2,3,4,5,6,7,8],[0,1,2,3,4,5,6,7,8,9],[0,1,2,3,4,5,6,7,8,9,10]] [none,none,some (11,_)] [] [.adr 5 2 (.some 0) True,.val 6 _,.adr 7 3 (.some 2) True,.val 8 _,.val 9 _,.adr 10 2 (.some 2) True,.val 11 _,.adr 12 3 (.some 0) True,.val 13 _,.val 14 _,.val 15 _,.sto 2] [] za6 O (oc (ob_a rfl rfl (za7 (lz0 0 rfl) zbf)) (zv rfl (za4 0 rfl zk trivial (lz0 0 rfl) (Sub.part 0 rfl rfl) zaf) (oc (ob_a rfl rfl (za7 (lz0 1 rfl) zb9)) (zv rfl (za4 2 rfl zk trivial (lz0 1 rfl) (Sub.part 1 rfl rfl) zaf) (zv rfl (za5 (xs:=[.tmp 6,.tmp 8]) (zdw zo zo) (.cons (vq 1 rfl) (.cons (vq 3 rfl) .nil))) (oc (ob_a rfl rfl (za7 (lz0 0 rfl) zb9)) (zv rfl (za4 5 rfl zk trivial (lz0 0 rfl) (Sub.part 1 rfl rfl) zaf) (oc (ob_a rfl rfl (za7 (lz0 1 rfl) zbf)) (zv rfl (za4 7 rfl zk trivial (lz0 1 rfl) (Sub.part 0 rfl rfl) zaf) (zv rfl (za5 (xs:=[.tmp 11,.tmp 13]) (zdw zo zo) (.cons (vq 6 rfl) (.cons (vq 8 rfl) .nil))) (zv rfl (za5 (xs:=[.tmp 9,.tmp 14]) (zg3 zo zo (zwb x h0)) (.cons (vq 4 rfl) (.cons (vq 9 rfl) .nil))) (oc (zac rfl rfl rfl (vq 10 rfl) zad (Eq.trans (b:=4) rfl rfl)) o0)))))))))))) zk zk zk zk (zz [] [⟨2,30,ptrH,_⟩,⟨3,30,ptrH,_⟩,⟨4,30,ptrH,_⟩] fun a w O=>?_)
 refine za0<|wp_ret<|zae ?_ (zak rfl O (zm 2 rfl) zad)
 exact zcj (zbt (congrArg (Qs _) (zpf x y))) (zbg zo).va
theorem zyv {c:Nat}{x:Rat}(hc:c≤549755813888):Cn Tryz.prog 184 [Qs c x] ((RFA (rfOf (-x))).va):=by
 refine Cn.intro Tryz.func184 rfl zk nq (fun B w0 a O=>?_)
 have O:=zn [(0,Qs c x)] [] O
 refine wp_seq<|zg [] [⟨1,30,ptrH,some 0,_,none⟩,⟨2,30,ptrH,some 1,_,none⟩] [.alc 0,.alc 1] [] O (oc (zan rfl rfl rfl (gq 0 rfl)) (oc (zaq rfl rfl rfl (Str.zero zb3)) o0)) (zz [] [⟨1,30,ptrH,_⟩,⟨2,30,ptrH,_⟩] fun a w O=>?_)
 refine zt<|zgd [[],[0],[0,1],[],[3],[0,1,2],[0,1,2,3,4,5],[0,1,2,3,4,5,6],[0,1,2,3,4,5,6,7]] [none,some (8,_)] [] [.adr 3 1 (.some 0) True,.val 4 _,.val 5 _,.adr 6 1 (.some 2) True,.val 7 _,.val 8 _,.val 9 _,.val 10 _,.sto 1] [] za6 O (oc (ob_a rfl rfl (za7 (lz0 0 rfl) zbf)) (zv rfl (za4 0 rfl zk trivial (lz0 0 rfl) (Sub.part 0 rfl rfl) zaf) (zv rfl (za5 (xs:=[.tmp 4]) (zlg zo) (.cons (vq 1 rfl) .nil)) (oc (ob_a rfl rfl (za7 (lz0 0 rfl) zb9)) (zv rfl (za4 3 rfl zk trivial (lz0 0 rfl) (Sub.part 1 rfl rfl) zaf) (zv rfl (za5 (xs:=[.const (.int .i64 (0))]) (of_z zd zd) (.cons za3 .nil)) (zv rfl (za5 (xs:=[.tmp 7,.tmp 8]) (zr8 zo zo) (.cons (vq 4 rfl) (.cons (vq 5 rfl) .nil))) (zv rfl (zb8 (xs:=[(0,.tmp 5),(1,.tmp 9)]) (qs:=[(0,_),(1,_)]) zb3 (.cons ⟨rfl,(vq 2 rfl),rfl⟩ (.cons ⟨rfl,(vq 6 rfl),rfl⟩ .nil))) (oc (zac rfl rfl rfl (vq 7 rfl) zad (Eq.trans (b:=4) rfl rfl)) o0))))))))) zk zk zk zk (zz [] [⟨1,30,ptrH,_⟩,⟨2,30,ptrH,_⟩] fun a w O=>?_)
 refine za0<|wp_ret<|zae ?_ (zak rfl O (zm 1 rfl) zad)
 exact ((zc8 (.cons zaA (.cons zaA .nil))).trans (zi4 (congrArg (fun z=>cat [RIA (riOf (-x.num)),RIA (riOf z)]) (Int.add_zero _)))).va
theorem copy_r {c:Nat}{x:Rat}(hc:c≤549755813888):Cn Tryz.prog 90 [Qs c x] ((RFA (rfOf x)).va):=by
 refine Cn.intro Tryz.func90 rfl zk nq (fun B w0 a O=>?_)
 have O:=zn [(0,Qs c x)] [] O
 refine wp_seq<|zg [] [⟨1,30,ptrH,some 0,_,none⟩,⟨2,30,ptrH,some 1,_,none⟩] [.alc 0,.alc 1] [] O (oc (zan rfl rfl rfl (gq 0 rfl)) (oc (zaq rfl rfl rfl (Str.zero zb3)) o0)) (zz [] [⟨1,30,ptrH,_⟩,⟨2,30,ptrH,_⟩] fun a w O=>?_)
 refine zt<|zg [none,none] [⟨3,28,ptrH,some 1,_,some (2,_)⟩] [.val 4 _,.alc 2,.sto 2] [] O (zv rfl (za5 (xs:=[.const (.int .i64 (0))]) (of_z zd zd) (.cons za3 .nil)) (oc (zaq rfl rfl rfl (Str.zero zbu)) (oc (zac rfl rfl rfl (vq 0 rfl) zaf (Eq.trans (b:=2) rfl rfl)) o0))) (zz [] [⟨1,30,ptrH,_⟩,⟨2,30,ptrH,_⟩,⟨3,28,ptrH,_⟩] fun a w O=>?_)
 refine zt<|zgd [[],[0],[],[0,1,2],[],[4],[],[0,1,2,3,4,5,6],[0,1,2,3,4,5,6,7],[0,1,2,3,4,5,6,7,8]] [none,some (9,_),none] [] [.adr 5 1 (.some 0) True,.val 6 _,.val 7 _,.val 8 _,.adr 9 1 (.some 2) True,.val 10 _,.val 11 _,.val 12 _,.val 13 _,.sto 1] [] za6 O (oc (ob_a rfl rfl (za7 (lz0 0 rfl) zbf)) (zv rfl (za4 0 rfl zk trivial (lz0 0 rfl) (Sub.part 0 rfl rfl) zaf) (zv rfl (zam (lz0 2 rfl) zaf) (zv rfl (za5 (xs:=[.tmp 6,.tmp 7]) (zr8 zo zo) (.cons (vq 1 rfl) (.cons (vq 2 rfl) .nil))) (oc (ob_a rfl rfl (za7 (lz0 0 rfl) zb9)) (zv rfl (za4 4 rfl zk trivial (lz0 0 rfl) (Sub.part 1 rfl rfl) zaf) (zv rfl (zam (lz0 2 rfl) zaf) (zv rfl (za5 (xs:=[.tmp 10,.tmp 11]) (zr8 zo zo) (.cons (vq 5 rfl) (.cons (vq 6 rfl) .nil))) (zv rfl (zb8 (xs:=[(0,.tmp 8),(1,.tmp 12)]) (qs:=[(0,_),(1,_)]) zb3 (.cons ⟨rfl,(vq 3 rfl),rfl⟩ (.cons ⟨rfl,(vq 7 rfl),rfl⟩ .nil))) (oc (zac rfl rfl rfl (vq 8 rfl) zad (Eq.trans (b:=4) rfl rfl)) o0)))))))))) zk zk zk zk (zz [] [⟨1,30,ptrH,_⟩,⟨2,30,ptrH,_⟩,⟨3,28,ptrH,_⟩] fun a w O=>?_)
 refine za0<|wp_ret<|zae ?_ (zak rfl O (zm 1 rfl) zad)
 exact ((zc8 (.cons zaA (.cons zaA .nil))).trans (zi4 (copy_e x))).va
theorem cmp_q {c d:Nat}{x y:Rat}(hc:c+d≤549755813888):Cn Tryz.prog 139 [Qs c x,Qs d y] (In (cmQ x y)):=by
 refine Cn.intro Tryz.func139 rfl zk nq (fun B w0 a O=>?_)
 have O:=zn [(0,Qs c x),(1,Qs d y)] [] O
 refine wp_seq<|zg [] [⟨2,30,ptrH,some 0,_,none⟩,⟨3,30,ptrH,some 1,_,none⟩] [.alc 0,.alc 1,.val 4 _] [.o 2] O (oc (zan rfl rfl rfl (gq 0 rfl)) (oc (zan rfl rfl rfl (gq 1 rfl)) (zv rfl (za1 za3) o0))) (zz [(4,_)] [⟨2,30,ptrH,_⟩,⟨3,30,ptrH,_⟩] fun a w O=>?_)
 refine zt<|zgd [[],[0],[],[2],[0,1,2,3],[],[5],[],[7],[0,1,2,3,4,5,6,7,8],[0,1,2,3,4,5,6,7,8,9],[0,1,2,3,4,5,6,7,8,9,10]] [none,none] [] [.adr 5 2 (.some 0) True,.val 6 _,.adr 7 3 (.some 2) True,.val 8 _,.val 9 _,.adr 10 3 (.some 0) True,.val 11 _,.adr 12 2 (.some 2) True,.val 13 _,.val 14 _,.val 15 _,.val 4 _] [.o 11] za6 O (oc (ob_a rfl rfl (za7 (lz0 0 rfl) zbf)) (zv rfl (za4 0 rfl zk trivial (lz0 0 rfl) (Sub.part 0 rfl rfl) zaf) (oc (ob_a rfl rfl (za7 (lz0 1 rfl) zb9)) (zv rfl (za4 2 rfl zk trivial (lz0 1 rfl) (Sub.part 1 rfl rfl) zaf) (zv rfl (za5 (xs:=[.tmp 6,.tmp 8]) (zdw zo zo) (.cons (vq 1 rfl) (.cons (vq 3 rfl) .nil))) (oc (ob_a rfl rfl (za7 (lz0 1 rfl) zbf)) (zv rfl (za4 5 rfl zk trivial (lz0 1 rfl) (Sub.part 0 rfl rfl) zaf) (oc (ob_a rfl rfl (za7 (lz0 0 rfl) zb9)) (zv rfl (za4 7 rfl zk trivial (lz0 0 rfl) (Sub.part 1 rfl rfl) zaf) (zv rfl (za5 (xs:=[.tmp 11,.tmp 13]) (zdw zo zo) (.cons (vq 6 rfl) (.cons (vq 8 rfl) .nil))) (zv rfl (za5 (xs:=[.tmp 9,.tmp 14]) (cmp_z zo zo) (.cons (vq 4 rfl) (.cons (vq 9 rfl) .nil))) (zv rfl (za1 (vq 10 rfl)) o0)))))))))))) zk zk zk zk (zz [(4,_)] [⟨2,30,ptrH,_⟩,⟨3,30,ptrH,_⟩] fun a w O=>?_)
 refine za0<|wp_ret<|zae ?_ (zag rfl O (zm 0 rfl))
 exact zbt (congrArg In (cm_sg x y))
theorem sign_q {c:Nat}{x:Rat}:Cn Tryz.prog 146 [Qs c x] (In x.num.sign):=by
 refine Cn.intro Tryz.func146 rfl zk nq (fun B w0 a O=>?_)
 have O:=zn [(0,Qs c x)] [] O
 refine wp_seq<|zg [] [⟨1,30,ptrH,some 0,_,none⟩] [.alc 0,.val 2 _] [.o 1] O (oc (zan rfl rfl rfl (gq 0 rfl)) (zv rfl (za1 za3) o0)) (zz [(2,_)] [⟨1,30,ptrH,_⟩] fun a w O=>?_)
 refine zt<|zg [none] [] [.adr 3 1 (.some 0) True,.val 4 _,.val 5 _,.val 2 _] [.o 3] O (oc (ob_a rfl rfl (za7 (lz0 0 rfl) zbf)) (zv rfl (za4 0 rfl zk trivial (lz0 0 rfl) (Sub.part 0 rfl rfl) zaf) (zv rfl (za5 (xs:=[.tmp 4]) zuz (.cons (vq 1 rfl) .nil)) (zv rfl (za1 (vq 2 rfl)) o0)))) (zz [(2,_)] [⟨1,30,ptrH,_⟩] fun a w O=>?_)
 refine za0<|wp_ret<|zae ?_ (zag rfl O (zm 0 rfl))
 exact zbi
theorem zu1 : ∃ fn, Tryz.prog.funcs[184]? = some fn ∧ (fn.name == "runtime.NumGoroutine") = false ∧ fn.body.isNone = false := ⟨_, Tryz.func184, by kernel_rfl, by kernel_rfl⟩
theorem zs7 : ∃ fn, Tryz.prog.funcs[90]? = some fn ∧ (fn.name == "runtime.NumGoroutine") = false ∧ fn.body.isNone = false := ⟨_, Tryz.func90, by kernel_rfl, by kernel_rfl⟩
theorem qs_le {k B:Nat}{r:Rat}{v:Value}{w:World}(h:(Qs k r).p B v w):lz r.num≤k∧lz (r.den:Int)≤k:=by
 obtain ⟨cs,⟨ps,_,hp⟩,_⟩:=h
 cases hp with
 | cons h1 hp=>cases hp with | cons h2 _=>exact ⟨h1.1,h2.1⟩
theorem zyw {c:Nat}{x:Rat}(hc:c≤549755813888):Cn Tryz.prog 184 [Qs c x] (Qs c (-x)) :=
 Cn.know (c:=lz x.num≤c∧lz (x.den:Int)≤c) zu1 (fun B w args ha=>by cases ha with | cons h1 _=>exact qs_le h1) fun h=>(zyv hc).wkp (qa_of (by rw [Rat.neg_num,zi9]; exact h.1) (by rw [Rat.neg_den]; exact h.2)).va
theorem zl9 {c:Nat}{x:Rat}(hc:c≤549755813888):Cn Tryz.prog 90 [Qs c x] (Qs c x) :=
 Cn.know (c:=lz x.num≤c∧lz (x.den:Int)≤c) zs7 (fun B w args ha=>by cases ha with | cons h1 _=>exact qs_le h1) fun h=>(copy_r hc).wkp (qa_of h.1 h.2).va
theorem upA_mg (l:List Nat):UpA (MgA l) (MgA l):=⟨rfl,rfl,fun B cs w hB hp=>by
 obtain ⟨ok,h0,A,c,ds,rfl,h1,h2,h3,h4⟩:=hp
 refine ⟨ok,h0,A,c,ds,rfl,h1,h2,?_,fun hn=>?_⟩
 ·exact cat_nums.2 (cat_nums.1 h3)
 ·obtain ⟨b,o,e1,e2,e3,e4⟩:=h4 hn
  exact ⟨b,o,e1,e2,.inl e2,e4⟩⟩
theorem upA_and {A:As}{c:Prop}(h:UpA A A):UpA (A.and c) (A.and c):=⟨rfl,rfl,fun B cs w hB hp=>⟨hp.1,h.2.2 B cs w hB hp.2⟩⟩
theorem zni (x:RI):UpA (RIA x) (RIA x):=zlb (.cons (zui _) (.cons (upA_mg _) .nil))
theorem zkr (x:RF):UpA (RFA x) (RFA x):=zlb (.cons (zni _) (.cons (zni _) .nil))
theorem upA_za {k:Nat}{z:Int}:UpA (ZA k z) (ZA k z):=upA_and (zni _)
theorem upA_qa {k:Nat}{r:Rat}:UpA (QA k r) (QA k r):=zlb (.cons upA_za (.cons upA_za .nil))
theorem all_upA {l:List As}(h:∀ A∈l,UpA A A):All2 UpA l l:=by
 induction l with
 | nil=>exact .nil
 | cons A l ih=>exact .cons (h A (by simp)) (ih fun A' hA=>h A' (by simp [hA]))
theorem zp3 {E:TypeId}{D:List TypeId}{l:List As}(h:∀ A∈l,UpA A A):UpA (SlA E D l) (SlO E D l True):=⟨rfl,rfl,fun B cs w hB hp=>by
 obtain ⟨hD,A,c,ds,rfl,h1,h2,h3,h4⟩:=hp
 refine ⟨trivial,hD,A,c,ds,rfl,h1,h2,(zlb (all_upA h)).2.2 B ds w hB h3,fun hn=>?_⟩
 obtain ⟨b,o,e1,e2,e3,e4⟩:=h4 hn
 exact ⟨b,o,e1,e2,e2,e4⟩⟩
theorem slO_len {E:TypeId}{D:List TypeId}{l:List As}{p:Prop}{B:Nat}{v:Value}{w:World}(h:(SlO E D l p).va.p B v w):l.length≤9223372036854775807:=by
 obtain ⟨cs,⟨_,_,A,c,ds,_,h1,h2,_⟩,_⟩:=h
 unfold maxLen at h2
 omega
def longQ (q:Rat):Bool:=[riOf q.num].any bigI || [riOf (q.den:Int)].any bigI
theorem longQ_false {q:Rat}:longQ q=false↔lz q.num≤2048∧lz (q.den:Int)≤2048:=by
 simp [longQ,bigI,zf9]
 omega
def IsQ (A:As)(q:Rat):Prop:=∃ k,A=QA k q
theorem sl_wk {E:TypeId}{D:List TypeId}{l l':List As}(h:All2 WkA l l')(hD:∀ A∈l',∀ T∈A.deps,T∈D):WkA (SlA E D l) (SlA E D l'):=⟨rfl,rfl,fun B cs w ⟨_,A,c,ds,e,h1,h2,h3,h4⟩=>by
 have hl:=h.length
 exact ⟨hD,A,c,ds,by rw [← hl]; exact e,by rw [← hl]; exact h1,h2,(zc8 h).2.2 B ds w h3,fun hn=>h4 (by rw [hl]; exact hn)⟩⟩
theorem isq_at {L:List As}{qs:List Rat}(h:All2 IsQ L qs){j:Nat}(hj:j<qs.length):∃ k,L[j]?=some (QA k qs[j]):=by
 have hl:=h.length
 obtain ⟨q,h1,k,h2⟩:=h.get (List.getElem?_eq_getElem (show j<L.length by omega))
 rw [List.getElem?_eq_getElem hj] at h1
 injection h1 with h1
 exact ⟨k,by rw [List.getElem?_eq_getElem zo,h2,h1]⟩
theorem isq_up {L:List As}{qs:List Rat}(h:All2 IsQ L qs):∀ A∈L,UpA A A:=fun A hA=>by
 obtain ⟨j,hj⟩:=List.getElem?_of_mem hA
 obtain ⟨q,_,k,rfl⟩:=h.get hj
 exact upA_qa
theorem isq_n {L:List As}{qs:List Rat}(h:All2 IsQ L qs):∀ A∈L,A.n=4:=fun A hA=>by
 obtain ⟨j,hj⟩:=List.getElem?_of_mem hA
 obtain ⟨q,_,k,rfl⟩:=h.get hj
 rfl
theorem zwp {l:List Rat}{j:Nat}(h:j<l.length)(h2:longQ l[j]=true):true=l.any longQ:=(List.any_eq_true.2 ⟨_,List.getElem_mem h,h2⟩).symm
theorem lq_no {l:List Rat}{j:Nat}(h:j<l.length)(h1:(l.take j).any longQ=false)(h2:longQ l[j]=false):(l.take (j+1)).any longQ=false:=by
 rw [List.take_succ_eq_append_getElem h,List.any_append,h1]
 simp [h2]
theorem long_q {L:List As}(qs:List Rat)(hL:All2 IsQ L qs)(hl:qs.length≤1099511627776):Cn Tryz.prog 191 [(SlA 30 [U32] L).va] (Bo (qs.any longQ)):=by
 have hLl:=hL.length
 refine Cn.introW Tryz.func191 rfl zk nq (.cons (zp3 (isq_up hL)).va .nil) (zdz _).va (fun B w0 a hB0 O=>?_)
 have O:=zn [(0,(SlO 30 [U32] L True).va)] [] O
 refine wp_seq<|zh [.val 2 _] [.g 0,.o 0] O (zv rfl (za1 zau) o0) (zz [(0,_),(2,_)] [] fun a w O=>?_)
 refine zt<|wp_seq<|zh [.val 5 _,.val 6 _,.val 7 _] [.g 1,.o 0,.o 1,.o 2] O (zv rfl (za2 (gq 0 rfl)) (zv rfl (zbq Tryz.underlying117 (zd1 (zaz (vq 0 rfl)))) (zv rfl (za2 za3) o0))) (zz [(2,_),(5,_),(6,_),(7,_)] [] fun a w O=>?_)
 refine za0<|wp_block ?_
 have O:=St.sel O [1,2,3]
 refine wp_loop_ghost (fun n a w=>∃ j:Nat,(n+j=qs.length∧(qs.take j).any longQ=false)∧St B w0 22 [(5,(SlO 30 [U32] L True).va),(6,In (qs.length:Nat)),(7,In (j:Nat))] [] a w) (qs.length) ?_ ?_
 ·exact ⟨0,⟨by omega,rfl⟩,by rw [hLl] at O; exact O⟩
 intro n a w hI
 obtain ⟨j,⟨hn,hno⟩,O⟩:=hI
 refine wp_seq<|zh [.val 8 _] [.g 0,.g 1,.g 2,.o 0] O (zv rfl (zb6 (gq 2 rfl) (gq 1 rfl)) o0) (zz [(5,_),(6,_),(7,_),(8,_)] [] fun a w O=>?_)
 refine zt<|za9 O (zm 3 rfl) (fun hb0=>?_) (fun hb0=>?_)
 ·have hj:j<qs.length:=by simp at hb0; omega
  obtain ⟨kj,hLj⟩:=isq_at hL hj
  refine wp_skip<|zt<|wp_block<|wp_seq<|zg [] [⟨4,30,ptrH,some 2,_,some (3,_)⟩] [.val 9 _,.val 10 _,.alc 0,.sto 0] [.g 0,.g 1,.g 2] O (zv rfl (zdv zeo (isq_n hL) (zd1 (zaz (gq 0 rfl))) (gq 2 rfl) hLj) (zv rfl (zaj (vq 0 rfl) zad) (oc (zaq rfl rfl rfl (Str.zero zb3)) (oc (zac rfl rfl rfl (vq 1 rfl) zad (Eq.trans (b:=4) rfl rfl)) o0)))) (zz [(5,_),(6,_),(7,_)] [⟨4,30,ptrH,_⟩] fun a w O=>?_)
  refine zt<|zg [none] [] [.adr 11 4 (.some 0) True,.val 12 _,.val 13 _,.val 14 _,.val 15 _,.adr 16 4 (.some 2) (_=false),.val 17 (Wh (_=false) _),.val 18 (Wh (_=false) _),.val 19 (Wh (_=false) _),.val 20 _] [.g 0,.g 1,.g 2,.o 9] O (oc (ob_a rfl rfl (za7 (lz0 0 rfl) zbf)) (zv rfl (za4 0 rfl zk trivial (lz0 0 rfl) (Sub.part 0 rfl rfl) zaf) (zv rfl (zcy (D:=[U32]) (l:=[_]) (xs:=[.tmp 12]) (zff zk) zuw zk (n_ok zk) nq nq nq (.cons (vq 1 rfl) .nil) rfl rfl) (zv rfl (za5 (xs:=[.tmp 13]) ((zwu [riOf (qs[j]).num] nq).wk (.cons (sl_wk (.cons zaA .nil) (zff zk)).va .nil)) (.cons (vq 2 rfl) .nil)) (zv rfl (za2 (vq 3 rfl)) (oc (zce rfl rfl rfl (vq 4 rfl) nq (fun hg=>za7 (lz0 0 rfl) zb9)) (oc (zai rfl rfl rfl (vq 4 rfl) nq (fun hg=>za4 5 rfl zk hg (lz0 0 rfl) (Sub.part 1 rfl rfl) zaf)) (oc (zai rfl rfl rfl (vq 4 rfl) nq (fun hg=>zcy (D:=[U32]) (l:=[_]) (xs:=[.tmp 17]) (zff zk) zuw zk (n_ok zk) nq nq nq (.cons (zaa (vq 6 rfl) hg) .nil) rfl rfl)) (oc (zai rfl rfl rfl (vq 4 rfl) nq (fun hg=>za5 (xs:=[.tmp 18]) ((zwu [riOf ((qs[j]).den:Int)] nq).wk (.cons (sl_wk (.cons zaA .nil) (zff zk)).va .nil)) (.cons (zaa (vq 7 rfl) hg) .nil))) (zv rfl (r_or (vq 4 rfl) (vq 8 rfl)) o0)))))))))) (zz [(5,_),(6,_),(7,_),(20,_)] [⟨4,30,ptrH,_⟩] fun a w O=>?_)
  refine za0<|za9 O (zm 3 rfl) (fun hb1=>?_) (fun hb1=>?_)
  ·refine wp_seq<|zg [none] [] [.val 2 _] [.g 0,.g 1,.g 2,.o 0] O (zv rfl (za1 zau) o0) (zz [(5,_),(6,_),(7,_),(2,_)] [⟨4,30,ptrH,_⟩] fun a w O=>?_)
   refine za0<|wp_ret<|zb7 ?_
   refine zah ?_
   refine zah ?_
   refine zb7 ?_
   refine zah ?_
   refine zas ?_ (zag rfl O (zm 3 rfl))
   rw [← zwp hj hb1]
  ·refine wp_skip<|zal ?_
   refine za0<|zg [none] [] [.val 21 _,.val 7 _] [.g 0,.g 1,.o 1] O (zv rfl (zbb (gq 2 rfl) za3 (zbc zo)) (zv rfl (za2 (vq 0 rfl)) o0)) (zz [(5,_),(6,_),(7,_)] [⟨4,30,ptrH,_⟩] fun a w O=>?_)
   refine za0 ?_
   have O:=St.sel O [0,1,2]
   have O:=St.selL O []
   exact ⟨n-1,by omega,j+1,⟨by omega,lq_no hj hno hb1⟩,O⟩
 ·obtain rfl:j=qs.length:=by simp at hb0; omega
  refine wp_exit<|za8<|za8<|zat<|zt<|zh [.val 2 _] [.o 0] O (zv rfl (za1 zau) o0) (zz [(2,_)] [] fun a w O=>?_)
  refine za0<|wp_ret<|zas ?_ (zag rfl O (zm 0 rfl))
  rw [List.take_length] at hno; rw [hno]
theorem zsq {L:List As}(qs:List Rat)(hL:All2 IsQ L qs)(hl:qs.length≤1099511627776):Cn Tryz.prog 159 [(SlA 30 [U32] L).va] (In (if qs.any longQ then 4 else 0)):=by
 refine Cn.intro Tryz.func159 rfl zk nq (fun B w0 a O=>?_)
 have O:=zn [(0,(SlA 30 [U32] L).va)] [] O
 refine wp_seq<|zh [.val 2 _] [.g 0,.o 0] O (zv rfl (za1 za3) o0) (zz [(0,_),(2,_)] [] fun a w O=>?_)
 refine zt<|wp_seq<|zh [.val 3 _,.val 4 _] [.g 1,.o 1] O (zv rfl (za2 (gq 0 rfl)) (zv rfl (za5 (xs:=[.tmp 3]) (long_q qs hL hl) (.cons (vq 0 rfl) .nil)) o0)) (zz [(2,_),(4,_)] [] fun a w O=>?_)
 refine za0<|za9 O (zm 1 rfl) (fun hb0=>?_) (fun hb0=>?_)
 ·refine wp_seq<|zh [.val 2 _] [.o 0] O (zv rfl (za1 za3) o0) (zz [(2,_)] [] fun a w O=>?_)
  refine za0<|wp_ret<|zah ?_
  refine zas ?_ (zag rfl O (zm 0 rfl))
  rw [hb0]; rfl
 ·refine wp_skip<|zt<|zh [.val 2 _] [.o 0] O (zv rfl (za1 za3) o0) (zz [(2,_)] [] fun a w O=>?_)
  refine za0<|wp_ret<|zas ?_ (zag rfl O (zm 0 rfl))
  rw [hb0]; rfl
def okF (x:RF):Bool:=okRI x.num&&okRI x.den&&decide (0<sgI x.den)&&decide (Nat.gcd (val x.num.mag) (val x.den.mag)=1)
theorem zl1 {x:RI}(ok:okL x.mag)(h:okRI x=true):∃ z,x=riOf z∧lz z≤2048:=by
 obtain ⟨neg,l⟩:=x
 simp only [okRI,Bool.not_eq_true',Bool.or_eq_false_iff,Bool.and_eq_false_iff,decide_eq_false_iff_not,beq_eq_false_iff_ne,ne_eq] at h ok
 obtain ⟨⟨h1,h2⟩,h3⟩:=h
 have hc:Canon l:=by
  refine ⟨ok,fun e=>?_⟩
  rcases List.eq_nil_or_concat l with rfl | ⟨m,y,rfl⟩
  ·simp at e
  ·simp at e
   subst e
   rcases h2 with h2 | h2
   ·simp at h2
   ·exact h2 (by simp)
 have e:limbs (val l)=l:=zo7 hc
 cases neg with
 | false=>exact ⟨(val l:Nat),by simp [riOf,e],by show (limbs _).length≤2048; rw [Int.natAbs_natCast,e]; omega⟩
 | true =>
  have hl:l≠[]:=fun e=>by subst e; simp at h3
  have hv:0<val l:=hc.val_pos hl
  exact ⟨-(val l:Nat),by simp [riOf,e]; omega,by show (limbs _).length≤2048; rw [Int.natAbs_neg,Int.natAbs_natCast,e]; omega⟩
theorem okRI_ri {z:Int}:okRI (riOf z)=decide (lz z≤2048):=by
 unfold okRI
 by_cases h0:z=0
 ·subst h0; simp [riOf,zbx,lz]
 ·have h1:=zh4 h0
  have h2:=(zbl z.natAbs).2
  have e:(riOf z).mag=limbs z.natAbs:=rfl
  have e2:(limbs z.natAbs).length=lz z:=rfl
  have h3:(limbs z.natAbs).getD (lz z-1) 0≠0:=fun hh=>by
   apply h2
   rw [List.getLast?_eq_getElem?,e2,List.getElem?_eq_getElem zo]
   rw [List.getD_eq_getElem?_getD,List.getElem?_eq_getElem zo] at hh
   simpa using hh
  rw [e,e2]
  by_cases h4:lz z≤2048
  ·have h5:¬ ((lz z:Int)>2048):=by omega
   have h6:¬ ((lz z:Int)=0):=by omega
   have h7:¬ (((limbs z.natAbs).getD (lz z-1) 0:Nat):Int)=((0:Nat):Int):=by omega
   simp only [h4,h5,decide_true,decide_false,beq_eq_false_iff_ne.2 h7,beq_eq_false_iff_ne.2 h6,Bool.and_false,Bool.false_and,Bool.or_self,Bool.not_false]
  ·have h5:((lz z:Int)>2048):=by omega
   simp only [h4,h5,decide_true,decide_false,Bool.true_or,Bool.not_true]
theorem okF_q {x:RF}(ok:okL x.num.mag∧okL x.den.mag)(h:okF x=true):∃ r:Rat,x=rfOf r∧lz r.num≤2048∧lz (r.den:Int)≤2048:=by
 obtain ⟨xn,xd⟩:=x
 simp only [okF,Bool.and_eq_true,decide_eq_true_eq] at h ok
 obtain ⟨⟨⟨h1,h2⟩,h3⟩,h4⟩:=h
 obtain ⟨p,rfl,hp⟩:=zl1 ok.1 h1
 obtain ⟨q,rfl,hq⟩:=zl1 ok.2 h2
 rw [zdt] at h3
 have hq0:0<q:=Int.sign_pos_iff.1 h3
 rw [zby,zby] at h4
 refine ⟨⟨p,q.natAbs,by omega,h4⟩,?_,hp,?_⟩
 ·show RF.mk _ _=RF.mk (riOf p) (riOf (q.natAbs:Nat))
  rw [show ((q.natAbs:Nat):Int)=q by omega]
 ·show lz ((q.natAbs:Nat):Int)≤2048
  rw [show ((q.natAbs:Nat):Int)=q by omega]
  exact hq
theorem ok1 {b:Bool}(h:(((if b then (0:Int) else 1) != 0))=false):b=true:=by cases b <;> simp at h ⊢
theorem chk_no {x:RF}(h:((((if okRI x.num then (0:Int) else 1) != 0) || ((if okRI x.den then (0:Int) else 1) != 0)) || decide (sgI x.den≤0))=true):(1:Int)=if okF x then 0 else 1:=by
 have:okF x=false:=by
  unfold okF
  cases h1:okRI x.num <;> cases h2:okRI x.den <;> simp [h1,h2] at h ⊢
  omega
 rw [this]; rfl
theorem sg_one {p q:Int}(h:(sg3 ((Int.gcd p q:Nat):Int) 1 != 0)=true):Int.gcd p q≠1:=fun e=>by rw [e] at h; simp [sg3] at h
theorem zll {x:RF}{B:Nat}{v:Value}{w:World}(h:(RFA x).va.p B v w):okL x.num.mag∧okL x.den.mag:=by
 obtain ⟨cs,⟨ps,_,hp⟩,_⟩:=h
 cases hp with
 | cons h1 hp=>cases hp with | cons h2 _=>exact ⟨(zhn ⟨_,h1,rfl⟩).1,(zhn ⟨_,h2,rfl⟩).1⟩
theorem cmp_i {p q:Int}(hp:lz p≤1099511627776)(hq:lz q≤1099511627776):Cn Tryz.prog 187 [Zi p,Zi q] (In (sg3 p q)):=(cmpI_c (riOf p) (riOf q) (by rw [zf9]; omega) (by rw [zf9]; omega)).post (by rw [cmp_ri])
theorem lz_one:lz 1≤1099511627776:=Nat.le_trans (ztd (k:=1) zd) zd
theorem checkF_c (xn xd:RI):Cn Tryz.prog 189 [(RFA ⟨xn,xd⟩).va] (In (if okF ⟨xn,xd⟩ then 0 else 1)):=by
 refine Cn.intro Tryz.func189 rfl zk nq (fun B w0 a O=>?_)
 have O:=zn [(0,(RFA ⟨xn,xd⟩).va)] [] O
 have hok:=zll (O.vals (0,(RFA ⟨xn,xd⟩).va) (zm 0 rfl))
 refine wp_seq<|zg [] [⟨1,30,ptrH,some 0,_,none⟩] [.alc 0,.val 2 _] [.o 1] O (oc (zan rfl rfl rfl (gq 0 rfl)) (zv rfl (za1 za3) o0)) (zz [(2,_)] [⟨1,30,ptrH,_⟩] fun a w O=>?_)
 refine zt<|wp_seq<|zg [none] [] [.adr 3 1 (.some 0) True,.val 4 _,.val 5 _,.val 6 _,.val 7 _,.adr 8 1 (.some 2) (_=false),.val 9 (Wh (_=false) _),.val 10 (Wh (_=false) _),.val 11 (Wh (_=false) _),.val 12 _,.val 13 _,.adr 14 1 (.some 2) (_=false),.val 15 (Wh (_=false) _),.val 16 (Wh (_=false) _),.val 17 (Wh (_=false) _),.val 18 _] [.g 0,.o 15] O (oc (ob_a rfl rfl (za7 (lz0 0 rfl) zbf)) (zv rfl (za4 0 rfl zk trivial (lz0 0 rfl) (Sub.part 0 rfl rfl) zaf) (zv rfl (za5 (xs:=[.tmp 4]) (zqa _) (.cons (vq 1 rfl) .nil)) (zv rfl (zd9 (vq 2 rfl) za3) (zv rfl (za2 (vq 3 rfl)) (oc (zce rfl rfl rfl (vq 4 rfl) nq (fun hg=>za7 (lz0 0 rfl) zb9)) (oc (zai rfl rfl rfl (vq 4 rfl) nq (fun hg=>za4 5 rfl zk hg (lz0 0 rfl) (Sub.part 1 rfl rfl) zaf)) (oc (zai rfl rfl rfl (vq 4 rfl) nq (fun hg=>za5 (xs:=[.tmp 9]) (zqa _) (.cons (zaa (vq 6 rfl) hg) .nil))) (oc (zai rfl rfl rfl (vq 4 rfl) nq (fun hg=>zd9 (zaa (vq 7 rfl) hg) za3)) (zv rfl (r_or (vq 4 rfl) (vq 8 rfl)) (zv rfl (za2 (vq 9 rfl)) (oc (zce rfl rfl rfl (vq 10 rfl) nq (fun hg=>za7 (lz0 0 rfl) zb9)) (oc (zai rfl rfl rfl (vq 10 rfl) nq (fun hg=>za4 11 rfl zk hg (lz0 0 rfl) (Sub.part 1 rfl rfl) zaf)) (oc (zai rfl rfl rfl (vq 10 rfl) nq (fun hg=>za5 (xs:=[.tmp 15]) (zqs _) (.cons (zaa (vq 12 rfl) hg) .nil))) (oc (zai rfl rfl rfl (vq 10 rfl) nq (fun hg=>zt3 (zaa (vq 13 rfl) hg) za3)) (zv rfl (r_or (vq 10 rfl) (vq 14 rfl)) o0)))))))))))))))) (zz [(2,_),(18,_)] [⟨1,30,ptrH,_⟩] fun a w O=>?_)
 refine za0<|za9 O (zm 1 rfl) (fun hb0=>?_) (fun hb0=>?_)
 ·refine wp_seq<|zg [none] [] [.val 2 _] [.o 0] O (zv rfl (za1 za3) o0) (zz [(2,_)] [⟨1,30,ptrH,_⟩] fun a w O=>?_)
  refine za0<|wp_ret<|zah ?_
  refine zas ?_ (zag rfl O (zm 0 rfl))
  exact congrArg In (chk_no hb0)
 ·rw [Bool.or_eq_false_iff,Bool.or_eq_false_iff] at hb0
  obtain ⟨p,rfl,hp⟩:=zl1 hok.1 (ok1 hb0.1.1)
  obtain ⟨q,rfl,hq⟩:=zl1 hok.2 (ok1 hb0.1.2)
  have hq0:0<sgI (riOf q):=by have h2:¬ sgI (riOf q)≤0:=of_decide_eq_false hb0.2; omega
  have hpq:=zwn p q
  refine wp_skip<|zt<|wp_seq<|zg [none] [] [.adr 19 1 (.some 0) True,.val 20 _,.adr 21 1 (.some 2) True,.val 22 _,.val 23 _,.val 24 _,.val 25 _,.val 26 _] [.g 0,.o 7] O (oc (ob_a rfl rfl (za7 (lz0 0 rfl) zbf)) (zv rfl (za4 0 rfl zk trivial (lz0 0 rfl) (Sub.part 0 rfl rfl) zaf) (oc (ob_a rfl rfl (za7 (lz0 0 rfl) zb9)) (zv rfl (za4 2 rfl zk trivial (lz0 0 rfl) (Sub.part 1 rfl rfl) zaf) (zv rfl (za5 (xs:=[.tmp 20,.tmp 22]) ((zsh p q zo zo).wkp zi2) (.cons (vq 1 rfl) (.cons (vq 3 rfl) .nil))) (zv rfl (za5 (xs:=[.const (.int .i64 (1))]) (of_c 1 zd zd) (.cons za3 .nil)) (zv rfl (za5 (xs:=[.tmp 23,.tmp 24]) (cmp_i zo lz_one) (.cons (vq 4 rfl) (.cons (vq 5 rfl) .nil))) (zv rfl (zd9 (vq 6 rfl) za3) o0)))))))) (zz [(2,_),(26,_)] [⟨1,30,ptrH,_⟩] fun a w O=>?_)
  refine za0<|za9 O (zm 1 rfl) (fun hb1=>?_) (fun hb1=>?_)
  ·refine wp_seq<|zg [none] [] [.val 2 _] [.o 0] O (zv rfl (za1 za3) o0) (zz [(2,_)] [⟨1,30,ptrH,_⟩] fun a w O=>?_)
   refine za0<|wp_ret<|zah ?_
   refine zas ?_ (zag rfl O (zm 0 rfl))
   have e1:=sg_one hb1; exact congrArg In (by rw [show okF ⟨riOf p,riOf q⟩=false from by unfold okF; rw [zby,zby]; simp [show ¬ Nat.gcd p.natAbs q.natAbs=1 from e1]]; rfl)
  ·refine wp_skip<|zt<|zg [none] [] [.val 2 _] [.o 0] O (zv rfl (za1 za3) o0) (zz [(2,_)] [⟨1,30,ptrH,_⟩] fun a w O=>?_)
   refine za0<|wp_ret<|zas ?_ (zag rfl O (zm 0 rfl))
   have e1:=zx9 hb1; exact congrArg In (by rw [show okF ⟨riOf p,riOf q⟩=true from by unfold okF; rw [zby,zby,ok1 hb0.1.1,ok1 hb0.1.2]; simp [hq0,show Nat.gcd p.natAbs q.natAbs=1 from e1]]; rfl)
end Go.Proofs.YtndjeibbjjpkfaaGreatDoor
namespace Go.Proofs.YtndjeibbjjpkfaaGreatDoor
open Go Go.RowKit
def okLb (l:List Nat):Bool:=l.all fun x=>decide (x<4294967296)
theorem okLb_iff {l:List Nat}:okLb l=true↔okL l:=by simp [okLb,okL]
def okX (x:RF):Bool:=okLb x.num.mag&&okLb x.den.mag&&okF x
def zI (x:RI):Int:=if x.neg then -(val x.mag:Nat) else (val x.mag:Nat)
def toQ (x:RF):Rat:=Rat.divInt (zI x.num) (zI x.den)
theorem zI_ri (z:Int):zI (riOf z)=z:=by
 unfold zI
 rw [zby]
 by_cases h:z<0 <;> simp [riOf,h] <;> omega
theorem toQ_of (r:Rat):toQ (rfOf r)=r:=by
 show Rat.divInt (zI (riOf r.num)) (zI (riOf (r.den:Int)))=r
 rw [zI_ri,zI_ri]
 exact Rat.num_divInt_den r
theorem zrb {x:RF}(h:okL x.num.mag∧okL x.den.mag):okX x=okF x:=by rw [okX,okLb_iff.2 h.1,okLb_iff.2 h.2]; rfl
theorem okX_q {x:RF}(h:okX x=true):x=rfOf (toQ x)∧lz (toQ x).num≤2048∧lz ((toQ x).den:Int)≤2048:=by
 simp only [okX,Bool.and_eq_true] at h
 obtain ⟨r,rfl,h1⟩:=okF_q ⟨okLb_iff.1 h.1.1,okLb_iff.1 h.1.2⟩ h.2
 rw [toQ_of]
 exact ⟨rfl,h1⟩
abbrev rf0:RF:=⟨⟨false,[]⟩,⟨false,[]⟩⟩
theorem ex_check : ∃ fn, Tryz.prog.funcs[189]? = some fn ∧ (fn.name == "runtime.NumGoroutine") = false ∧ fn.body.isNone = false := ⟨_, Tryz.func189, by kernel_rfl, by kernel_rfl⟩
theorem check_x (x:RF):Cn Tryz.prog 189 [(RFA x).va] (In (if okX x then 0 else 1)) :=
 Cn.know (c:=okL x.num.mag∧okL x.den.mag) ex_check (fun B w args ha=>by cases ha with | cons h1 _=>exact zll h1) fun h=>(checkF_c x.num x.den).post (by rw [zrb h])
theorem ok_no {l:List RF}{j:Nat}(h:j<l.length)(h2:((if okX l[j] then (0:Int) else 1) != 0)=true):false=l.all okX:=by
 have h3:okX l[j]=false:=by cases hh:okX l[j] <;> simp [hh] at h2 ⊢
 exact (List.all_eq_false.2 ⟨_,List.getElem_mem h,by simp [h3]⟩).symm
theorem ok_yes {l:List RF}{j:Nat}(h:j<l.length)(h1:(l.take j).all okX=true)(h2:((if okX l[j] then (0:Int) else 1) != 0)=false):(l.take (j+1)).all okX=true:=by
 rw [List.take_succ_eq_append_getElem h,List.all_append,h1]
 simp [ok1 h2]
theorem zn8 (xs:List RF)(hl:xs.length≤1099511627776):Cn Tryz.prog 145 [(SlA 30 [U32] (xs.map RFA)).va] (Bo (xs.all okX)):=by
 refine Cn.introW Tryz.func145 rfl zk nq (.cons (zp3 (fun A hA=>by obtain ⟨x,_,rfl⟩:=List.mem_map.1 hA; exact zkr x)).va .nil) (zdz _).va (fun B w0 a hB0 O=>?_)
 have O:=zn [(0,(SlO 30 [U32] (xs.map RFA) True).va)] [] O
 refine wp_seq<|zh [.val 2 _] [.g 0,.o 0] O (zv rfl (za1 zau) o0) (zz [(0,_),(2,_)] [] fun a w O=>?_)
 refine zt<|wp_seq<|zh [.val 5 _,.val 6 _,.val 7 _] [.g 1,.o 0,.o 1,.o 2] O (zv rfl (za2 (gq 0 rfl)) (zv rfl (zbq Tryz.underlying117 (zd1 (zaz (vq 0 rfl)))) (zv rfl (za2 za3) o0))) (zz [(2,_),(5,_),(6,_),(7,_)] [] fun a w O=>?_)
 refine za0<|wp_block ?_
 have O:=St.sel O [1,2,3]
 refine wp_loop_ghost (fun n a w=>∃ j:Nat,(n+j=xs.length∧(xs.take j).all okX=true)∧St B w0 15 [(5,(SlO 30 [U32] (xs.map RFA) True).va),(6,In (xs.length:Nat)),(7,In (j:Nat))] [] a w) (xs.length) ?_ ?_
 ·exact ⟨0,⟨by omega,rfl⟩,by rw [List.length_map] at O; exact O⟩
 intro n a w hI
 obtain ⟨j,⟨hn,hno⟩,O⟩:=hI
 refine wp_seq<|zh [.val 8 _] [.g 0,.g 1,.g 2,.o 0] O (zv rfl (zb6 (gq 2 rfl) (gq 1 rfl)) o0) (zz [(5,_),(6,_),(7,_),(8,_)] [] fun a w O=>?_)
 refine zt<|za9 O (zm 3 rfl) (fun hb0=>?_) (fun hb0=>?_)
 ·have hj:j<xs.length:=by simp at hb0; omega
  refine wp_skip<|zt<|wp_block<|wp_seq<|zg [] [⟨4,30,ptrH,some 2,_,some (3,_)⟩] [.val 9 _,.val 10 _,.alc 0,.sto 0] [.g 0,.g 1,.g 2] O (zv rfl (zdv zeo (zie fun _=>rfl) (zd1 (zaz (gq 0 rfl))) (gq 2 rfl) (zfb hj)) (zv rfl (zaj (vq 0 rfl) zad) (oc (zaq rfl rfl rfl (Str.zero zb3)) (oc (zac rfl rfl rfl (vq 1 rfl) zad (Eq.trans (b:=4) rfl rfl)) o0)))) (zz [(5,_),(6,_),(7,_)] [⟨4,30,ptrH,_⟩] fun a w O=>?_)
  refine zt<|zg [none] [] [.val 11 _,.val 12 _,.val 13 _] [.g 0,.g 1,.g 2,.o 2] O (zv rfl (zam (lz0 0 rfl) zad) (zv rfl (za5 (xs:=[.tmp 11]) (check_x _) (.cons (vq 0 rfl) .nil)) (zv rfl (zd9 (vq 1 rfl) za3) o0))) (zz [(5,_),(6,_),(7,_),(13,_)] [⟨4,30,ptrH,_⟩] fun a w O=>?_)
  refine za0<|za9 O (zm 3 rfl) (fun hb1=>?_) (fun hb1=>?_)
  ·refine wp_seq<|zg [none] [] [.val 2 _] [.g 0,.g 1,.g 2,.o 0] O (zv rfl (za1 zau) o0) (zz [(5,_),(6,_),(7,_),(2,_)] [⟨4,30,ptrH,_⟩] fun a w O=>?_)
   refine za0<|wp_ret<|zb7 ?_
   refine zah ?_
   refine zah ?_
   refine zb7 ?_
   refine zah ?_
   refine zas ?_ (zag rfl O (zm 3 rfl))
   rw [← ok_no hj hb1]
  ·refine wp_skip<|zal ?_
   refine za0<|zg [none] [] [.val 14 _,.val 7 _] [.g 0,.g 1,.o 1] O (zv rfl (zbb (gq 2 rfl) za3 (zbc zo)) (zv rfl (za2 (vq 0 rfl)) o0)) (zz [(5,_),(6,_),(7,_)] [⟨4,30,ptrH,_⟩] fun a w O=>?_)
   refine za0 ?_
   have O:=St.sel O [0,1,2]
   have O:=St.selL O []
   exact ⟨n-1,by omega,j+1,⟨by omega,ok_yes hj hno hb1⟩,O⟩
 ·obtain rfl:j=xs.length:=by simp at hb0; omega
  refine wp_exit<|za8<|za8<|zat<|zt<|zh [.val 2 _] [.o 0] O (zv rfl (za1 zau) o0) (zz [(2,_)] [] fun a w O=>?_)
  refine za0<|wp_ret<|zas ?_ (zag rfl O (zm 0 rfl))
  rw [List.take_length] at hno; rw [hno]
def ansF (q:Rat):RF × Int:=if longQ q then (rf0,4) else (rfOf q,0)
abbrev FrR (r:RF × Int):VA:=Tu [(RFA r.1).va,In r.2]
theorem rq_wk {k:Nat}{r:Rat}:Wk (Qs k r) (RFA (rfOf r)).va:=qaA.va
theorem tu2w {a b c d:VA}(h:Wk a c)(h':Wk b d):Wk (Tu [a,b]) (Tu [c,d]):=tu_wk (.cons h (.cons h' .nil))
theorem zlv {q:Rat}:[q].any longQ=longQ q:=by simp
theorem ne0 {b:Bool}:((if b then (4:Int) else 0) != 0)=b:=by cases b <;> rfl
theorem has_wk' {R:Rg}{B:Nat}{w0:Bs}{i:Nat}{x:Operand}{A A':VA}(h:Has R B w0 i x A)(hw:Wk A A'):Has R B w0 i x A':=fun a w av=>hw _ _ _ (h a w av)
theorem zu7 {c:Nat}{x:Rat}(hc:c≤549755813888):Cn Tryz.prog 181 [Qs c x] (FrR (ansF x)):=by
 refine Cn.intro Tryz.func181 rfl zk nq (fun B w0 a O=>?_)
 have O:=zn [(0,Qs c x)] [] O
 refine wp_seq<|zg [] [⟨1,30,ptrH,some 0,_,none⟩,⟨2,30,ptrH,some 1,_,none⟩] [.alc 0,.alc 1,.val 3 _] [.o 2] O (oc (zan rfl rfl rfl (gq 0 rfl)) (oc (zaq rfl rfl rfl (Str.zero zb3)) (zv rfl (za1 za3) o0))) (zz [(3,_)] [⟨1,30,ptrH,_⟩,⟨2,30,ptrH,_⟩] fun a w O=>?_)
 refine zt<|wp_seq<|zg [none,none] [] [.val 5 _,.val 6 _,.val 7 _,.val 4 _] [.g 0,.o 3] O (zv rfl (zam (lz0 0 rfl) zad) (zv rfl (zcy (D:=[U32]) (l:=[_]) (xs:=[.tmp 5]) (zff zk) zeo zk (n_ok zk) nq nq nq (.cons (vq 0 rfl) .nil) rfl rfl) (zv rfl (za5 (xs:=[.tmp 6]) ((zsq [x] (.cons ⟨_,rfl⟩ .nil) nq)) (.cons (vq 1 rfl) .nil)) (zv rfl (za1 (vq 2 rfl)) o0)))) (zz [(3,_),(4,_)] [⟨1,30,ptrH,_⟩,⟨2,30,ptrH,_⟩] fun a w O=>?_)
 refine zt<|zg [none,none] [] [.val 8 _,.val 9 _] [.g 0,.g 1,.o 1] O (zv rfl (za2 (gq 1 rfl)) (zv rfl (zd9 (vq 0 rfl) za3) o0)) (zz [(3,_),(4,_),(9,_)] [⟨1,30,ptrH,_⟩,⟨2,30,ptrH,_⟩] fun a w O=>?_)
 refine za0<|za9 O (zm 2 rfl) (fun hb0=>?_) (fun hb0=>?_)
 ·rw [zlv,ne0] at hb0
  refine wp_seq<|zg [none,some (2,_)] [] [.val 10 _,.val 11 _,.sto 1,.val 3 _] [.o 3] O (zv rfl (zb8 (xs:=[]) (qs:=[]) zb3 .nil) (zv rfl (za2 (gq 1 rfl)) (oc (zac rfl rfl rfl (vq 0 rfl) zad (Eq.trans (b:=4) rfl rfl)) (zv rfl (za1 (vq 1 rfl)) o0)))) (zz [(3,_)] [⟨1,30,ptrH,_⟩,⟨2,30,ptrH,_⟩] fun a w O=>?_)
  refine za0<|wp_ret<|zah ?_
  refine zae ?_ (zb1 (rs:=[.cell 2 30,.tmp 3]) rfl O (.cell (zm 1 rfl) zad (.tmp (zm 0 rfl) .nil)) zd)
  rw [ansF,if_pos hb0]; exact tu2w zbi (zbt (by rw [zlv,hb0]; rfl))
 ·rw [zlv,ne0] at hb0
  refine wp_skip<|zt<|zg [none,some (2,_)] [] [.val 12 _,.val 13 _,.sto 1,.val 3 _] [.o 3] O (zv rfl (zam (lz0 0 rfl) zad) (zv rfl (za5 (xs:=[.tmp 12]) (zl9 zo) (.cons (vq 0 rfl) .nil)) (oc (zac rfl rfl rfl (vq 1 rfl) zad (Eq.trans (b:=4) rfl rfl)) (zv rfl (za1 za3) o0)))) (zz [(3,_)] [⟨1,30,ptrH,_⟩,⟨2,30,ptrH,_⟩] fun a w O=>?_)
  refine za0<|wp_ret<|zae ?_ (zb1 (rs:=[.cell 2 30,.tmp 3]) rfl O (.cell (zm 1 rfl) zad (.tmp (zm 0 rfl) .nil)) zd)
  rw [ansF,if_neg (by rw [hb0]; decide)]; exact tu2w rq_wk zbi
end Go.Proofs.YtndjeibbjjpkfaaGreatDoor
namespace Go.Proofs.YtndjeibbjjpkfaaGreatDoor
open Go Go.RowKit
theorem zxo : ∃ fn, Tryz.prog.funcs[179]? = some fn ∧ (fn.name == "runtime.NumGoroutine") = false ∧ fn.body.isNone = false := ⟨_, Tryz.func179, by kernel_rfl, by kernel_rfl⟩
theorem zy5 {c:Nat}{p:Int}(hc:c≤2048):Cn Tryz.prog 179 [Zs c p] (In 0):=zs1 zxo fun h=>(zqa (riOf p)).post (by rw [okRI_ri,decide_eq_true (by omega:lz p≤2048)]; rfl)
theorem lz_i64 {p:Int}(h0 : -9223372036854775808≤p)(h1:p<9223372036854775808):lz p≤2:=ztd zo
theorem ansF_ok {q:Rat}(h:lz q.num≤2048∧lz (q.den:Int)≤2048):ansF q=(rfOf q,0):=by rw [ansF,longQ_false.2 h]; rfl
theorem ansF_low {p q:Int}(hq:q≠0)(hp:lz p≤2)(h2:lz q≤2):ansF (Rat.divInt p q)=(rfOf (Rat.divInt p q),0):=by
 have:=zgq (p:=p) hq
 exact ansF_ok zo
theorem make_q {p q:Int}(hq:q≠0):Cn Tryz.prog 132 [Zs 2 p,Zs 2 q] (FrR (ansF (Rat.divInt p q))):=by
 refine Cn.intro Tryz.func132 rfl zk nq (fun B w0 a O=>?_)
 have O:=zn [(0,Zs 2 p),(1,Zs 2 q)] [] O
 refine wp_seq<|zg [] [⟨2,28,ptrH,some 0,_,none⟩,⟨3,28,ptrH,some 1,_,none⟩,⟨4,30,ptrH,some 2,_,none⟩] [.alc 0,.alc 1,.alc 2,.val 5 _] [.o 3] O (oc (zan rfl rfl rfl (gq 0 rfl)) (oc (zan rfl rfl rfl (gq 1 rfl)) (oc (zaq rfl rfl rfl (Str.zero zb3)) (zv rfl (za1 za3) o0)))) (zz [(5,_)] [⟨2,28,ptrH,_⟩,⟨3,28,ptrH,_⟩,⟨4,30,ptrH,_⟩] fun a w O=>?_)
 refine zt<|wp_seq<|zg [none,none,none] [] [.val 6 _,.val 7 _,.val 8 _,.val 9 _,.val 10 (Wh (_=false) _),.val 11 (Wh (_=false) _),.val 12 (Wh (_=false) _),.val 13 _] [.g 0,.o 7] O (zv rfl (zam (lz0 0 rfl) zaf) (zv rfl (za5 (xs:=[.tmp 6]) (zy5 zd) (.cons (vq 0 rfl) .nil)) (zv rfl (zd9 (vq 1 rfl) za3) (zv rfl (za2 (vq 2 rfl)) (oc (zai rfl rfl rfl (vq 3 rfl) nq (fun hg=>zam (lz0 1 rfl) zaf)) (oc (zai rfl rfl rfl (vq 3 rfl) nq (fun hg=>za5 (xs:=[.tmp 10]) (zy5 zd) (.cons (zaa (vq 4 rfl) hg) .nil))) (oc (zai rfl rfl rfl (vq 3 rfl) nq (fun hg=>zd9 (zaa (vq 5 rfl) hg) za3)) (zv rfl (r_or (vq 3 rfl) (vq 6 rfl)) o0)))))))) (zz [(5,_),(13,_)] [⟨2,28,ptrH,_⟩,⟨3,28,ptrH,_⟩,⟨4,30,ptrH,_⟩] fun a w O=>?_)
 refine za0<|za9 O (zm 1 rfl) (fun hb0=>?_) (fun hb0=>?_)
 ·exact absurd hb0 zd
 ·refine wp_skip<|zt<|wp_seq<|zg [none,none,none] [] [.val 15 _,.val 16 _,.val 17 _] [.g 0,.o 2] O (zv rfl (zam (lz0 1 rfl) zaf) (zv rfl (za5 (xs:=[.tmp 15]) zuz (.cons (vq 0 rfl) .nil)) (zv rfl (zc5 (vq 1 rfl) za3) o0))) (zz [(5,_),(17,_)] [⟨2,28,ptrH,_⟩,⟨3,28,ptrH,_⟩,⟨4,30,ptrH,_⟩] fun a w O=>?_)
  refine za0<|za9 O (zm 1 rfl) (fun hb1=>?_) (fun hb1=>?_)
  ·exact absurd hb1 (by simpa using hq)
  ·refine wp_skip<|zt<|zg [none,none,some (6,_)] [] [.val 19 _,.val 20 _,.val 21 _,.val 22 _,.val 23 _,.val 24 _,.sto 2,.val 5 _] [.o 7] O (zv rfl (zam (lz0 0 rfl) zaf) (zv rfl (zam (lz0 1 rfl) zaf) (zv rfl (za5 (xs:=[.tmp 19,.tmp 20]) (zg3 zd zd hq) (.cons (vq 0 rfl) (.cons (vq 1 rfl) .nil))) (zv rfl (za5 (xs:=[.tmp 21]) (zu7 zd) (.cons (vq 2 rfl) .nil)) (zv rfl (zfe (vq 3 rfl)) (zv rfl (zfd (vq 3 rfl)) (oc (zac rfl rfl rfl (vq 4 rfl) zad (Eq.trans (b:=4) rfl rfl)) (zv rfl (za1 (vq 5 rfl)) o0)))))))) (zz [(5,_)] [⟨2,28,ptrH,_⟩,⟨3,28,ptrH,_⟩,⟨4,30,ptrH,_⟩] fun a w O=>?_)
   refine za0<|wp_ret<|zae ?_ (zb1 (rs:=[.cell 4 30,.tmp 5]) rfl O (.cell (zm 2 rfl) zad (.tmp (zm 0 rfl) .nil)) zd)
   exact zbi
theorem ofQ_c {p q:Int}(hp : -9223372036854775808≤p)(hp1:p<9223372036854775808)(hq0 : -9223372036854775808≤q)(hq1:q<9223372036854775808)(hq:q≠0):Cn Tryz.prog 78 [In p,In q] (FrR (rfOf (Rat.divInt p q),0)):=by
 refine Cn.intro Tryz.func78 rfl zk nq (fun B w0 a O=>?_)
 have O:=zn [(0,In p),(1,In q)] [] O
 refine wp_seq<|zg [] [⟨4,30,ptrH,some 0,_,none⟩] [.alc 0,.val 5 _] [.g 0,.g 1,.o 1] O (oc (zaq rfl rfl rfl (Str.zero zb3)) (zv rfl (za1 za3) o0)) (zz [(0,_),(1,_),(5,_)] [⟨4,30,ptrH,_⟩] fun a w O=>?_)
 refine zt<|zg [some (7,_)] [] [.val 6 _,.val 7 _,.val 8 _,.val 9 _,.val 10 _,.val 11 _,.val 12 _,.sto 0,.val 5 _] [.o 8] O (zv rfl (za2 (gq 0 rfl)) (zv rfl (za5 (xs:=[.tmp 6]) (of_z hp hp1) (.cons (vq 0 rfl) .nil)) (zv rfl (za2 (gq 1 rfl)) (zv rfl (za5 (xs:=[.tmp 8]) (of_z hq0 hq1) (.cons (vq 2 rfl) .nil)) (zv rfl (za5 (xs:=[.tmp 7,.tmp 9]) (make_q hq) (.cons (vq 1 rfl) (.cons (vq 3 rfl) .nil))) (zv rfl (zfe (vq 4 rfl)) (zv rfl (zfd (vq 4 rfl)) (oc (zac rfl rfl rfl (vq 5 rfl) zad (Eq.trans (b:=4) rfl rfl)) (zv rfl (za1 (vq 6 rfl)) o0))))))))) (zz [(5,_)] [⟨4,30,ptrH,_⟩] fun a w O=>?_)
 refine za0<|wp_ret<|zae ?_ (zb1 (rs:=[.cell 4 30,.tmp 5]) rfl O (.cell (zm 0 rfl) zad (.tmp (zm 0 rfl) .nil)) zd)
 rw [← ansF_low hq (lz_i64 hp hp1) (lz_i64 hq0 hq1)]; exact zbi
end Go.Proofs.YtndjeibbjjpkfaaGreatDoor
