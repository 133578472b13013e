import Derived.Test.YtlpppkkggljdcaaGreatTcAa
import Derived.Test.YtlpppkkggljdcaaGreatTcAc
import Derived.Test.YtlpppkkggljdcaaGreatTcAj
set_option linter.unusedVariables false
set_option linter.unusedSimpArgs false
set_option linter.unusedSectionVars false
set_option maxRecDepth 100000
namespace Go.Proofs.YtlpppkkggljdcaaGreat
open Go Go.RowKit
theorem rat_add (x y:Rat):Rat.divInt (x.num*(y.den:Int)+y.num*(x.den:Int)) ((x.den:Int)*(y.den:Int))=x+y:=by
 rw [Rat.add_def',← Rat.divInt_ofNat,Int.natCast_mul]
theorem rat_sub (x y:Rat):Rat.divInt (x.num*(y.den:Int)-y.num*(x.den:Int)) ((x.den:Int)*(y.den:Int))=x-y:=by
 rw [Rat.sub_def',← Rat.divInt_ofNat,Int.natCast_mul]
theorem rat_mul (x y:Rat):Rat.divInt (x.num*y.num) ((x.den:Int)*(y.den:Int))=x*y:=by
 rw [Rat.mul_def',← Rat.divInt_ofNat,Int.natCast_mul]
theorem rat_div (x y:Rat):Rat.divInt (x.num*(y.den:Int)) ((x.den:Int)*y.num)=x/y:=by
 rw [Rat.div_def,Rat.inv_def,← Rat.divInt_mul_divInt,Rat.num_divInt_den]
theorem den_nz (x y:Rat):(x.den:Int)*(y.den:Int)≠0:=Int.mul_ne_zero (by have:=x.den_pos; omega) (by have:=y.den_pos; omega)
theorem num_nz (x:Rat){y:Rat}(h:y≠0):(x.den:Int)*y.num≠0:=Int.mul_ne_zero (by have:=x.den_pos; omega) (fun e=>h (Rat.num_eq_zero.1 e))
def cmQ (x y:Rat):Int:=if x<y then -1 else if y<x then 1 else 0
theorem cm_sg (x y:Rat):sg3 (x.num*(y.den:Int)) (y.num*(x.den:Int))=cmQ x y:=by
 unfold sg3 cmQ
 simp only [Rat.lt_iff]
theorem copy_e (x:Rat):cat [RIA (riOf (x.num+0)),RIA (riOf ((x.den:Int)+0))]=RFA (rfOf x):=by rw [Int.add_zero,Int.add_zero]; rfl
theorem q0_wk {k:Nat}:WkA (cat [RIA ⟨false,[]⟩,ZA k 1]) (QA k 0):=zci (.cons ((zig (show RIA ⟨false,[]⟩=RIA (riOf 0) from by simp [riOf,zbo])).trans (za_of (by simp [lz,zbo]))) (.cons (WkA.refl _) .nil))
theorem zjs  : Cn Tryz.prog 53 [] (Qs 2 0):=by
 refine Cn.intro Tryz.func53 rfl zk nq (fun B w0 a hst=>?_)
 have hst:St B w0 3 [] [] a w0.w:=hst
 refine wp_seq ?_
 refine gl (sts:=[]) (news:=[⟨0,37,ptrH,some 0,_,none⟩]) (sp:=[.alc 0]) [] hst (oc (zap rfl rfl rfl (Str.zero zb9)) o0) (fun a w hst=>?_)
 have hst:St B w0 3 [] [⟨0,37,ptrH,_⟩] a w:=hst
 refine zt<|gl (sts:=[some (2,_)]) (news:=[]) (sp:=[.val 1 _,.val 2 _,.sto 0]) [] hst (zv rfl (za5 (xs:=[.const (.int .i64 (1))]) (of_z zd zd) (.cons za3 .nil)) (zv rfl (zbb (xs:=[(1,.tmp 1)]) (qs:=[(1,_)]) zb9 (.cons ⟨rfl,(vq 0 rfl),rfl⟩ .nil)) (oc (zaf rfl rfl rfl (vq 1 rfl) zao (Eq.trans (b:=4) rfl rfl)) o0))) (fun a w hst=>?_)
 have hst:St B w0 3 [] [⟨0,37,ptrH,_⟩] a w:=hst
 refine za0 ?_
 refine wp_ret ?_
 refine zai ?_ (zam rfl hst (zm 0 rfl) zao)
 exact q0_wk.va
theorem small_q {p q:Int}(hp : -9223372036854775808≤p)(hp1:p<9223372036854775808)(hq : -9223372036854775808≤q)(hq1:q<9223372036854775808)(h0:q≠0):Cn Tryz.prog 47 [In p,In q] (Qs 2 (Rat.divInt p q)):=by
 refine Cn.intro Tryz.func47 rfl zk nq (fun B w0 a hst=>?_)
 have hst:St B w0 10 [(0,In p),(1,In q)] [] a w0.w:=hst
 refine wp_seq ?_
 refine gl (sts:=[]) (news:=[⟨4,37,ptrH,some 0,_,none⟩]) (sp:=[.alc 0]) [.g 0,.g 1] hst (oc (zap rfl rfl rfl (Str.zero zb9)) o0) (fun a w hst=>?_)
 have hst:St B w0 10 [(0,_),(1,_)] [⟨4,37,ptrH,_⟩] a w:=hst
 refine zt<|gl (sts:=[some (5,_)]) (news:=[]) (sp:=[.val 5 _,.val 6 _,.val 7 _,.val 8 _,.val 9 _,.sto 0]) [] hst (zv rfl (za2 (gq 0 rfl)) (zv rfl (za5 (xs:=[.tmp 5]) (of_z hp hp1) (.cons (vq 0 rfl) .nil)) (zv rfl (za2 (gq 1 rfl)) (zv rfl (za5 (xs:=[.tmp 7]) (of_z hq hq1) (.cons (vq 2 rfl) .nil)) (zv rfl (za5 (xs:=[.tmp 6,.tmp 8]) (zfh zo zo h0) (.cons (vq 1 rfl) (.cons (vq 3 rfl) .nil))) (oc (zaf rfl rfl rfl (vq 4 rfl) zao (Eq.trans (b:=4) rfl rfl)) o0)))))) (fun a w hst=>?_)
 have hst:St B w0 10 [] [⟨4,37,ptrH,_⟩] a w:=hst
 refine za0 ?_
 refine wp_ret ?_
 refine zai ?_ (zam rfl hst (zm 0 rfl) zao)
 exact zb6
theorem one_q  : Cn Tryz.prog 102 [] (Qs 2 1):=by
 refine Cn.intro Tryz.func102 rfl zk nq (fun B w0 a hst=>?_)
 have hst:St B w0 2 [] [] a w0.w:=hst
 refine wp_seq ?_
 refine gl (sts:=[]) (news:=[⟨0,37,ptrH,some 0,_,none⟩]) (sp:=[.alc 0]) [] hst (oc (zap rfl rfl rfl (Str.zero zb9)) o0) (fun a w hst=>?_)
 have hst:St B w0 2 [] [⟨0,37,ptrH,_⟩] a w:=hst
 refine zt<|gl (sts:=[some (1,_)]) (news:=[]) (sp:=[.val 1 _,.sto 0]) [] hst (zv rfl (za5 (xs:=[.const (.int .i64 (1)),.const (.int .i64 (1))]) (small_q zd zd zd zd zd) (.cons za3 (.cons za3 .nil))) (oc (zaf rfl rfl rfl (vq 0 rfl) zao (Eq.trans (b:=4) rfl rfl)) o0)) (fun a w hst=>?_)
 have hst:St B w0 2 [] [⟨0,37,ptrH,_⟩] a w:=hst
 refine za0 ?_
 refine wp_ret ?_
 refine zai ?_ (zam rfl hst (zm 0 rfl) zao)
 exact zbv (congrArg (Qs 2) (show Rat.divInt 1 1=1 from rfl))
theorem plus_q {c d:Nat}{x y:Rat}(hc:c+d≤549755813888):Cn Tryz.prog 60 [Qs c x,Qs d y] (Qs (c+d+1) (x+y)):=by
 refine Cn.intro Tryz.func60 rfl zk nq (fun B w0 a hst=>?_)
 have hst:St B w0 22 [(0,Qs c x),(1,Qs d y)] [] a w0.w:=hst
 refine wp_seq ?_
 refine gl (sts:=[]) (news:=[⟨2,37,ptrH,some 0,_,none⟩,⟨3,37,ptrH,some 1,_,none⟩,⟨4,37,ptrH,some 2,_,none⟩]) (sp:=[.alc 0,.alc 1,.alc 2]) [] hst (oc (zan rfl rfl rfl (gq 0 rfl)) (oc (zan rfl rfl rfl (gq 1 rfl)) (oc (zap rfl rfl rfl (Str.zero zb9)) o0))) (fun a w hst=>?_)
 have hst:St B w0 22 [] [⟨2,37,ptrH,_⟩,⟨3,37,ptrH,_⟩,⟨4,37,ptrH,_⟩] a w:=hst
 refine zt<|zaz (anc:=[[],[0],[],[2],[0,1,2,3],[],[5],[],[7],[0,1,2,3,4,5,6,7,8],[0,1,2,3,4,5,6,7,8,9],[],[11],[],[13],[0,1,2,3,4,5,6,7,8,9,10,11,12,13,14],[0,1,2,3,4,5,6,7,8,9,10,11,12,13,14,15],[0,1,2,3,4,5,6,7,8,9,10,11,12,13,14,15,16]]) (sts:=[none,none,some (17,_)]) (news:=[]) (sp:=[.adr 5 2 (.some 0) True,.val 6 _,.adr 7 3 (.some 2) True,.val 8 _,.val 9 _,.adr 10 3 (.some 0) True,.val 11 _,.adr 12 2 (.some 2) True,.val 13 _,.val 14 _,.val 15 _,.adr 16 2 (.some 2) True,.val 17 _,.adr 18 3 (.some 2) True,.val 19 _,.val 20 _,.val 21 _,.sto 2]) [] za6 hst (oc (ob_a rfl rfl (za7 (lz0 0 rfl) zbf)) (zv rfl (za4 0 rfl zk trivial (lz0 0 rfl) (Sub.part 0 rfl rfl) zab) (oc (ob_a rfl rfl (za7 (lz0 1 rfl) zb5)) (zv rfl (za4 2 rfl zk trivial (lz0 1 rfl) (Sub.part 1 rfl rfl) zab) (zv rfl (za5 (xs:=[.tmp 6,.tmp 8]) (zcv zo zo) (.cons (vq 1 rfl) (.cons (vq 3 rfl) .nil))) (oc (ob_a rfl rfl (za7 (lz0 1 rfl) zbf)) (zv rfl (za4 5 rfl zk trivial (lz0 1 rfl) (Sub.part 0 rfl rfl) zab) (oc (ob_a rfl rfl (za7 (lz0 0 rfl) zb5)) (zv rfl (za4 7 rfl zk trivial (lz0 0 rfl) (Sub.part 1 rfl rfl) zab) (zv rfl (za5 (xs:=[.tmp 11,.tmp 13]) (zcv zo zo) (.cons (vq 6 rfl) (.cons (vq 8 rfl) .nil))) (zv rfl (za5 (xs:=[.tmp 9,.tmp 14]) (plus_z zo zo) (.cons (vq 4 rfl) (.cons (vq 9 rfl) .nil))) (oc (ob_a rfl rfl (za7 (lz0 0 rfl) zb5)) (zv rfl (za4 11 rfl zk trivial (lz0 0 rfl) (Sub.part 1 rfl rfl) zab) (oc (ob_a rfl rfl (za7 (lz0 1 rfl) zb5)) (zv rfl (za4 13 rfl zk trivial (lz0 1 rfl) (Sub.part 1 rfl rfl) zab) (zv rfl (za5 (xs:=[.tmp 17,.tmp 19]) (zcv zo zo) (.cons (vq 12 rfl) (.cons (vq 14 rfl) .nil))) (zv rfl (za5 (xs:=[.tmp 15,.tmp 20]) (zfh zo zo (den_nz x y)) (.cons (vq 10 rfl) (.cons (vq 15 rfl) .nil))) (oc (zaf rfl rfl rfl (vq 16 rfl) zao (Eq.trans (b:=4) rfl rfl)) o0)))))))))))))))))) zk zk zk zk (fun a w hst=>?_)
 have hst:St B w0 22 [] [⟨2,37,ptrH,_⟩,⟨3,37,ptrH,_⟩,⟨4,37,ptrH,_⟩] a w:=hst
 refine za0 ?_
 refine wp_ret ?_
 refine zai ?_ (zam rfl hst (zm 2 rfl) zao)
 exact zcn (zbv (congrArg (Qs _) (rat_add x y))) (zbx zo).va
theorem minus_q {c d:Nat}{x y:Rat}(hc:c+d≤549755813888):Cn Tryz.prog 99 [Qs c x,Qs d y] (Qs (c+d+1) (x-y)):=by
 refine Cn.intro Tryz.func99 rfl zk nq (fun B w0 a hst=>?_)
 have hst:St B w0 22 [(0,Qs c x),(1,Qs d y)] [] a w0.w:=hst
 refine wp_seq ?_
 refine gl (sts:=[]) (news:=[⟨2,37,ptrH,some 0,_,none⟩,⟨3,37,ptrH,some 1,_,none⟩,⟨4,37,ptrH,some 2,_,none⟩]) (sp:=[.alc 0,.alc 1,.alc 2]) [] hst (oc (zan rfl rfl rfl (gq 0 rfl)) (oc (zan rfl rfl rfl (gq 1 rfl)) (oc (zap rfl rfl rfl (Str.zero zb9)) o0))) (fun a w hst=>?_)
 have hst:St B w0 22 [] [⟨2,37,ptrH,_⟩,⟨3,37,ptrH,_⟩,⟨4,37,ptrH,_⟩] a w:=hst
 refine zt<|zaz (anc:=[[],[0],[],[2],[0,1,2,3],[],[5],[],[7],[0,1,2,3,4,5,6,7,8],[0,1,2,3,4,5,6,7,8,9],[],[11],[],[13],[0,1,2,3,4,5,6,7,8,9,10,11,12,13,14],[0,1,2,3,4,5,6,7,8,9,10,11,12,13,14,15],[0,1,2,3,4,5,6,7,8,9,10,11,12,13,14,15,16]]) (sts:=[none,none,some (17,_)]) (news:=[]) (sp:=[.adr 5 2 (.some 0) True,.val 6 _,.adr 7 3 (.some 2) True,.val 8 _,.val 9 _,.adr 10 3 (.some 0) True,.val 11 _,.adr 12 2 (.some 2) True,.val 13 _,.val 14 _,.val 15 _,.adr 16 2 (.some 2) True,.val 17 _,.adr 18 3 (.some 2) True,.val 19 _,.val 20 _,.val 21 _,.sto 2]) [] za6 hst (oc (ob_a rfl rfl (za7 (lz0 0 rfl) zbf)) (zv rfl (za4 0 rfl zk trivial (lz0 0 rfl) (Sub.part 0 rfl rfl) zab) (oc (ob_a rfl rfl (za7 (lz0 1 rfl) zb5)) (zv rfl (za4 2 rfl zk trivial (lz0 1 rfl) (Sub.part 1 rfl rfl) zab) (zv rfl (za5 (xs:=[.tmp 6,.tmp 8]) (zcv zo zo) (.cons (vq 1 rfl) (.cons (vq 3 rfl) .nil))) (oc (ob_a rfl rfl (za7 (lz0 1 rfl) zbf)) (zv rfl (za4 5 rfl zk trivial (lz0 1 rfl) (Sub.part 0 rfl rfl) zab) (oc (ob_a rfl rfl (za7 (lz0 0 rfl) zb5)) (zv rfl (za4 7 rfl zk trivial (lz0 0 rfl) (Sub.part 1 rfl rfl) zab) (zv rfl (za5 (xs:=[.tmp 11,.tmp 13]) (zcv zo zo) (.cons (vq 6 rfl) (.cons (vq 8 rfl) .nil))) (zv rfl (za5 (xs:=[.tmp 9,.tmp 14]) (minus_z zo zo) (.cons (vq 4 rfl) (.cons (vq 9 rfl) .nil))) (oc (ob_a rfl rfl (za7 (lz0 0 rfl) zb5)) (zv rfl (za4 11 rfl zk trivial (lz0 0 rfl) (Sub.part 1 rfl rfl) zab) (oc (ob_a rfl rfl (za7 (lz0 1 rfl) zb5)) (zv rfl (za4 13 rfl zk trivial (lz0 1 rfl) (Sub.part 1 rfl rfl) zab) (zv rfl (za5 (xs:=[.tmp 17,.tmp 19]) (zcv zo zo) (.cons (vq 12 rfl) (.cons (vq 14 rfl) .nil))) (zv rfl (za5 (xs:=[.tmp 15,.tmp 20]) (zfh zo zo (den_nz x y)) (.cons (vq 10 rfl) (.cons (vq 15 rfl) .nil))) (oc (zaf rfl rfl rfl (vq 16 rfl) zao (Eq.trans (b:=4) rfl rfl)) o0)))))))))))))))))) zk zk zk zk (fun a w hst=>?_)
 have hst:St B w0 22 [] [⟨2,37,ptrH,_⟩,⟨3,37,ptrH,_⟩,⟨4,37,ptrH,_⟩] a w:=hst
 refine za0 ?_
 refine wp_ret ?_
 refine zai ?_ (zam rfl hst (zm 2 rfl) zao)
 exact zcn (zbv (congrArg (Qs _) (rat_sub x y))) (zbx zo).va
theorem zjc {c d:Nat}{x y:Rat}(hc:c+d≤549755813888):Cn Tryz.prog 51 [Qs c x,Qs d y] (Qs (c+d) (x*y)):=by
 refine Cn.intro Tryz.func51 rfl zk nq (fun B w0 a hst=>?_)
 have hst:St B w0 16 [(0,Qs c x),(1,Qs d y)] [] a w0.w:=hst
 refine wp_seq ?_
 refine gl (sts:=[]) (news:=[⟨2,37,ptrH,some 0,_,none⟩,⟨3,37,ptrH,some 1,_,none⟩,⟨4,37,ptrH,some 2,_,none⟩]) (sp:=[.alc 0,.alc 1,.alc 2]) [] hst (oc (zan rfl rfl rfl (gq 0 rfl)) (oc (zan rfl rfl rfl (gq 1 rfl)) (oc (zap rfl rfl rfl (Str.zero zb9)) o0))) (fun a w hst=>?_)
 have hst:St B w0 16 [] [⟨2,37,ptrH,_⟩,⟨3,37,ptrH,_⟩,⟨4,37,ptrH,_⟩] a w:=hst
 refine zt<|zaz (anc:=[[],[0],[],[2],[0,1,2,3],[],[5],[],[7],[0,1,2,3,4,5,6,7,8],[0,1,2,3,4,5,6,7,8,9],[0,1,2,3,4,5,6,7,8,9,10]]) (sts:=[none,none,some (11,_)]) (news:=[]) (sp:=[.adr 5 2 (.some 0) True,.val 6 _,.adr 7 3 (.some 0) True,.val 8 _,.val 9 _,.adr 10 2 (.some 2) True,.val 11 _,.adr 12 3 (.some 2) True,.val 13 _,.val 14 _,.val 15 _,.sto 2]) [] za6 hst (oc (ob_a rfl rfl (za7 (lz0 0 rfl) zbf)) (zv rfl (za4 0 rfl zk trivial (lz0 0 rfl) (Sub.part 0 rfl rfl) zab) (oc (ob_a rfl rfl (za7 (lz0 1 rfl) zbf)) (zv rfl (za4 2 rfl zk trivial (lz0 1 rfl) (Sub.part 0 rfl rfl) zab) (zv rfl (za5 (xs:=[.tmp 6,.tmp 8]) (zcv zo zo) (.cons (vq 1 rfl) (.cons (vq 3 rfl) .nil))) (oc (ob_a rfl rfl (za7 (lz0 0 rfl) zb5)) (zv rfl (za4 5 rfl zk trivial (lz0 0 rfl) (Sub.part 1 rfl rfl) zab) (oc (ob_a rfl rfl (za7 (lz0 1 rfl) zb5)) (zv rfl (za4 7 rfl zk trivial (lz0 1 rfl) (Sub.part 1 rfl rfl) zab) (zv rfl (za5 (xs:=[.tmp 11,.tmp 13]) (zcv zo zo) (.cons (vq 6 rfl) (.cons (vq 8 rfl) .nil))) (zv rfl (za5 (xs:=[.tmp 9,.tmp 14]) (zfh zo zo (den_nz x y)) (.cons (vq 4 rfl) (.cons (vq 9 rfl) .nil))) (oc (zaf rfl rfl rfl (vq 10 rfl) zao (Eq.trans (b:=4) rfl rfl)) o0)))))))))))) zk zk zk zk (fun a w hst=>?_)
 have hst:St B w0 16 [] [⟨2,37,ptrH,_⟩,⟨3,37,ptrH,_⟩,⟨4,37,ptrH,_⟩] a w:=hst
 refine za0 ?_
 refine wp_ret ?_
 refine zai ?_ (zam rfl hst (zm 2 rfl) zao)
 exact zcn (zbv (congrArg (Qs _) (rat_mul x y))) (zbx zo).va
theorem over_q {c d:Nat}{x y:Rat}(hc:c+d≤549755813888)(h0:y≠0):Cn Tryz.prog 126 [Qs c x,Qs d y] (Qs (c+d) (x/y)):=by
 refine Cn.intro Tryz.func126 rfl zk nq (fun B w0 a hst=>?_)
 have hst:St B w0 16 [(0,Qs c x),(1,Qs d y)] [] a w0.w:=hst
 refine wp_seq ?_
 refine gl (sts:=[]) (news:=[⟨2,37,ptrH,some 0,_,none⟩,⟨3,37,ptrH,some 1,_,none⟩,⟨4,37,ptrH,some 2,_,none⟩]) (sp:=[.alc 0,.alc 1,.alc 2]) [] hst (oc (zan rfl rfl rfl (gq 0 rfl)) (oc (zan rfl rfl rfl (gq 1 rfl)) (oc (zap rfl rfl rfl (Str.zero zb9)) o0))) (fun a w hst=>?_)
 have hst:St B w0 16 [] [⟨2,37,ptrH,_⟩,⟨3,37,ptrH,_⟩,⟨4,37,ptrH,_⟩] a w:=hst
 refine zt<|zaz (anc:=[[],[0],[],[2],[0,1,2,3],[],[5],[],[7],[0,1,2,3,4,5,6,7,8],[0,1,2,3,4,5,6,7,8,9],[0,1,2,3,4,5,6,7,8,9,10]]) (sts:=[none,none,some (11,_)]) (news:=[]) (sp:=[.adr 5 2 (.some 0) True,.val 6 _,.adr 7 3 (.some 2) True,.val 8 _,.val 9 _,.adr 10 2 (.some 2) True,.val 11 _,.adr 12 3 (.some 0) True,.val 13 _,.val 14 _,.val 15 _,.sto 2]) [] za6 hst (oc (ob_a rfl rfl (za7 (lz0 0 rfl) zbf)) (zv rfl (za4 0 rfl zk trivial (lz0 0 rfl) (Sub.part 0 rfl rfl) zab) (oc (ob_a rfl rfl (za7 (lz0 1 rfl) zb5)) (zv rfl (za4 2 rfl zk trivial (lz0 1 rfl) (Sub.part 1 rfl rfl) zab) (zv rfl (za5 (xs:=[.tmp 6,.tmp 8]) (zcv zo zo) (.cons (vq 1 rfl) (.cons (vq 3 rfl) .nil))) (oc (ob_a rfl rfl (za7 (lz0 0 rfl) zb5)) (zv rfl (za4 5 rfl zk trivial (lz0 0 rfl) (Sub.part 1 rfl rfl) zab) (oc (ob_a rfl rfl (za7 (lz0 1 rfl) zbf)) (zv rfl (za4 7 rfl zk trivial (lz0 1 rfl) (Sub.part 0 rfl rfl) zab) (zv rfl (za5 (xs:=[.tmp 11,.tmp 13]) (zcv zo zo) (.cons (vq 6 rfl) (.cons (vq 8 rfl) .nil))) (zv rfl (za5 (xs:=[.tmp 9,.tmp 14]) (zfh zo zo (num_nz x h0)) (.cons (vq 4 rfl) (.cons (vq 9 rfl) .nil))) (oc (zaf rfl rfl rfl (vq 10 rfl) zao (Eq.trans (b:=4) rfl rfl)) o0)))))))))))) zk zk zk zk (fun a w hst=>?_)
 have hst:St B w0 16 [] [⟨2,37,ptrH,_⟩,⟨3,37,ptrH,_⟩,⟨4,37,ptrH,_⟩] a w:=hst
 refine za0 ?_
 refine wp_ret ?_
 refine zai ?_ (zam rfl hst (zm 2 rfl) zao)
 exact zcn (zbv (congrArg (Qs _) (rat_div x y))) (zbx zo).va
theorem copy_r {c:Nat}{x:Rat}(hc:c≤549755813888):Cn Tryz.prog 81 [Qs c x] ((RFA (rfOf x)).va):=by
 refine Cn.intro Tryz.func81 rfl zk nq (fun B w0 a hst=>?_)
 have hst:St B w0 14 [(0,Qs c x)] [] a w0.w:=hst
 refine wp_seq ?_
 refine gl (sts:=[]) (news:=[⟨1,37,ptrH,some 0,_,none⟩,⟨2,37,ptrH,some 1,_,none⟩]) (sp:=[.alc 0,.alc 1]) [] hst (oc (zan rfl rfl rfl (gq 0 rfl)) (oc (zap rfl rfl rfl (Str.zero zb9)) o0)) (fun a w hst=>?_)
 have hst:St B w0 14 [] [⟨1,37,ptrH,_⟩,⟨2,37,ptrH,_⟩] a w:=hst
 refine zt<|gl (sts:=[none,none]) (news:=[⟨3,35,ptrH,some 1,_,some (2,_)⟩]) (sp:=[.val 4 _,.alc 2,.sto 2]) [] hst (zv rfl (za5 (xs:=[.const (.int .i64 (0))]) (of_z zd zd) (.cons za3 .nil)) (oc (zap rfl rfl rfl (Str.zero zbs)) (oc (zaf rfl rfl rfl (vq 0 rfl) zab (Eq.trans (b:=2) rfl rfl)) o0))) (fun a w hst=>?_)
 have hst:St B w0 14 [] [⟨1,37,ptrH,_⟩,⟨2,37,ptrH,_⟩,⟨3,35,ptrH,_⟩] a w:=hst
 refine zt<|zaz (anc:=[[],[0],[],[0,1,2],[],[4],[],[0,1,2,3,4,5,6],[0,1,2,3,4,5,6,7],[0,1,2,3,4,5,6,7,8]]) (sts:=[none,some (9,_),none]) (news:=[]) (sp:=[.adr 5 1 (.some 0) True,.val 6 _,.val 7 _,.val 8 _,.adr 9 1 (.some 2) True,.val 10 _,.val 11 _,.val 12 _,.val 13 _,.sto 1]) [] za6 hst (oc (ob_a rfl rfl (za7 (lz0 0 rfl) zbf)) (zv rfl (za4 0 rfl zk trivial (lz0 0 rfl) (Sub.part 0 rfl rfl) zab) (zv rfl (zaq (lz0 2 rfl) zab) (zv rfl (za5 (xs:=[.tmp 6,.tmp 7]) (plus_z zo zo) (.cons (vq 1 rfl) (.cons (vq 2 rfl) .nil))) (oc (ob_a rfl rfl (za7 (lz0 0 rfl) zb5)) (zv rfl (za4 4 rfl zk trivial (lz0 0 rfl) (Sub.part 1 rfl rfl) zab) (zv rfl (zaq (lz0 2 rfl) zab) (zv rfl (za5 (xs:=[.tmp 10,.tmp 11]) (plus_z zo zo) (.cons (vq 5 rfl) (.cons (vq 6 rfl) .nil))) (zv rfl (zbb (xs:=[(0,.tmp 8),(1,.tmp 12)]) (qs:=[(0,_),(1,_)]) zb9 (.cons ⟨rfl,(vq 3 rfl),rfl⟩ (.cons ⟨rfl,(vq 7 rfl),rfl⟩ .nil))) (oc (zaf rfl rfl rfl (vq 8 rfl) zao (Eq.trans (b:=4) rfl rfl)) o0)))))))))) zk zk zk zk (fun a w hst=>?_)
 have hst:St B w0 14 [] [⟨1,37,ptrH,_⟩,⟨2,37,ptrH,_⟩,⟨3,35,ptrH,_⟩] a w:=hst
 refine za0 ?_
 refine wp_ret ?_
 refine zai ?_ (zam rfl hst (zm 1 rfl) zao)
 exact ((zci (.cons zaA (.cons zaA .nil))).trans (zig (copy_e x))).va
theorem cmp_q {c d:Nat}{x y:Rat}(hc:c+d≤549755813888):Cn Tryz.prog 50 [Qs c x,Qs d y] (In (cmQ x y)):=by
 refine Cn.intro Tryz.func50 rfl zk nq (fun B w0 a hst=>?_)
 have hst:St B w0 16 [(0,Qs c x),(1,Qs d y)] [] a w0.w:=hst
 refine wp_seq ?_
 refine gl (sts:=[]) (news:=[⟨2,37,ptrH,some 0,_,none⟩,⟨3,37,ptrH,some 1,_,none⟩]) (sp:=[.alc 0,.alc 1,.val 4 _]) [.o 2] hst (oc (zan rfl rfl rfl (gq 0 rfl)) (oc (zan rfl rfl rfl (gq 1 rfl)) (zv rfl (za1 za3) o0))) (fun a w hst=>?_)
 have hst:St B w0 16 [(4,_)] [⟨2,37,ptrH,_⟩,⟨3,37,ptrH,_⟩] a w:=hst
 refine zt<|zaz (anc:=[[],[0],[],[2],[0,1,2,3],[],[5],[],[7],[0,1,2,3,4,5,6,7,8],[0,1,2,3,4,5,6,7,8,9],[0,1,2,3,4,5,6,7,8,9,10]]) (sts:=[none,none]) (news:=[]) (sp:=[.adr 5 2 (.some 0) True,.val 6 _,.adr 7 3 (.some 2) True,.val 8 _,.val 9 _,.adr 10 3 (.some 0) True,.val 11 _,.adr 12 2 (.some 2) True,.val 13 _,.val 14 _,.val 15 _,.val 4 _]) [.o 11] za6 hst (oc (ob_a rfl rfl (za7 (lz0 0 rfl) zbf)) (zv rfl (za4 0 rfl zk trivial (lz0 0 rfl) (Sub.part 0 rfl rfl) zab) (oc (ob_a rfl rfl (za7 (lz0 1 rfl) zb5)) (zv rfl (za4 2 rfl zk trivial (lz0 1 rfl) (Sub.part 1 rfl rfl) zab) (zv rfl (za5 (xs:=[.tmp 6,.tmp 8]) (zcv zo zo) (.cons (vq 1 rfl) (.cons (vq 3 rfl) .nil))) (oc (ob_a rfl rfl (za7 (lz0 1 rfl) zbf)) (zv rfl (za4 5 rfl zk trivial (lz0 1 rfl) (Sub.part 0 rfl rfl) zab) (oc (ob_a rfl rfl (za7 (lz0 0 rfl) zb5)) (zv rfl (za4 7 rfl zk trivial (lz0 0 rfl) (Sub.part 1 rfl rfl) zab) (zv rfl (za5 (xs:=[.tmp 11,.tmp 13]) (zcv zo zo) (.cons (vq 6 rfl) (.cons (vq 8 rfl) .nil))) (zv rfl (za5 (xs:=[.tmp 9,.tmp 14]) (cmp_z zo zo) (.cons (vq 4 rfl) (.cons (vq 9 rfl) .nil))) (zv rfl (za1 (vq 10 rfl)) o0)))))))))))) zk zk zk zk (fun a w hst=>?_)
 have hst:St B w0 16 [(4,_)] [⟨2,37,ptrH,_⟩,⟨3,37,ptrH,_⟩] a w:=hst
 refine za0 ?_
 refine wp_ret ?_
 refine zai ?_ (zaa rfl hst (zm 0 rfl))
 exact zbv (congrArg In (cm_sg x y))
theorem sign_q {c:Nat}{x:Rat}:Cn Tryz.prog 92 [Qs c x] (In x.num.sign):=by
 refine Cn.intro Tryz.func92 rfl zk nq (fun B w0 a hst=>?_)
 have hst:St B w0 6 [(0,Qs c x)] [] a w0.w:=hst
 refine wp_seq ?_
 refine gl (sts:=[]) (news:=[⟨1,37,ptrH,some 0,_,none⟩]) (sp:=[.alc 0,.val 2 _]) [.o 1] hst (oc (zan rfl rfl rfl (gq 0 rfl)) (zv rfl (za1 za3) o0)) (fun a w hst=>?_)
 have hst:St B w0 6 [(2,_)] [⟨1,37,ptrH,_⟩] a w:=hst
 refine zt<|gl (sts:=[none]) (news:=[]) (sp:=[.adr 3 1 (.some 0) True,.val 4 _,.val 5 _,.val 2 _]) [.o 3] hst (oc (ob_a rfl rfl (za7 (lz0 0 rfl) zbf)) (zv rfl (za4 0 rfl zk trivial (lz0 0 rfl) (Sub.part 0 rfl rfl) zab) (zv rfl (za5 (xs:=[.tmp 4]) sign_z (.cons (vq 1 rfl) .nil)) (zv rfl (za1 (vq 2 rfl)) o0)))) (fun a w hst=>?_)
 have hst:St B w0 6 [(2,_)] [⟨1,37,ptrH,_⟩] a w:=hst
 refine za0 ?_
 refine wp_ret ?_
 refine zai ?_ (zaa rfl hst (zm 0 rfl))
 exact zb6
theorem ex_qcopy : ∃ fn, Tryz.prog.funcs[81]? = some fn ∧ (fn.name == "runtime.NumGoroutine") = false ∧ fn.body.isNone = false := ⟨_, Tryz.func81, by kernel_rfl, by kernel_rfl⟩
theorem qs_le {k B:Nat}{r:Rat}{v:Value}{w:World}(h:(Qs k r).p B v w):lz r.num≤k∧lz (r.den:Int)≤k:=by
 obtain ⟨cs,⟨ps,_,hp⟩,_⟩:=h
 cases hp with
 | cons h1 hp=>cases hp with | cons h2 _=>exact ⟨h1.1,h2.1⟩
theorem copy_q {c:Nat}{x:Rat}(hc:c≤549755813888):Cn Tryz.prog 81 [Qs c x] (Qs c x) :=
 Cn.know (c:=lz x.num≤c∧lz (x.den:Int)≤c) ex_qcopy (fun B w args ha=>by cases ha with | cons h1 _=>exact qs_le h1) fun h=>(copy_r hc).wkp (qa_of h.1 h.2).va
theorem upA_mg (l:List Nat):UpA (MgA l) (MgA l):=⟨rfl,rfl,fun B cs w hB hp=>by
 obtain ⟨ok,h0,A,c,ds,rfl,h1,h2,h3,h4⟩:=hp
 refine ⟨ok,h0,A,c,ds,rfl,h1,h2,?_,fun hn=>?_⟩
 ·exact cat_nums.2 (cat_nums.1 h3)
 ·obtain ⟨b,o,e1,e2,e3,e4⟩:=h4 hn
  exact ⟨b,o,e1,e2,.inl e2,e4⟩⟩
theorem upA_and {A:As}{c:Prop}(h:UpA A A):UpA (A.and c) (A.and c):=⟨rfl,rfl,fun B cs w hB hp=>⟨hp.1,h.2.2 B cs w hB hp.2⟩⟩
theorem upA_ri (x:RI):UpA (RIA x) (RIA x):=zh9 (.cons (up_bo _) (.cons (upA_mg _) .nil))
theorem zij (x:RF):UpA (RFA x) (RFA x):=zh9 (.cons (upA_ri _) (.cons (upA_ri _) .nil))
theorem upA_za {k:Nat}{z:Int}:UpA (ZA k z) (ZA k z):=upA_and (upA_ri _)
theorem upA_qa {k:Nat}{r:Rat}:UpA (QA k r) (QA k r):=zh9 (.cons upA_za (.cons upA_za .nil))
theorem all_upA {l:List As}(h:∀ A∈l,UpA A A):All2 UpA l l:=by
 induction l with
 | nil=>exact .nil
 | cons A l ih=>exact .cons (h A (by simp)) (ih fun A' hA=>h A' (by simp [hA]))
theorem zjb {E:TypeId}{D:List TypeId}{l:List As}(h:∀ A∈l,UpA A A):UpA (SlA E D l) (SlO E D l True):=⟨rfl,rfl,fun B cs w hB hp=>by
 obtain ⟨hD,A,c,ds,rfl,h1,h2,h3,h4⟩:=hp
 refine ⟨trivial,hD,A,c,ds,rfl,h1,h2,(zh9 (all_upA h)).2.2 B ds w hB h3,fun hn=>?_⟩
 obtain ⟨b,o,e1,e2,e3,e4⟩:=h4 hn
 exact ⟨b,o,e1,e2,e2,e4⟩⟩
theorem slO_len {E:TypeId}{D:List TypeId}{l:List As}{p:Prop}{B:Nat}{v:Value}{w:World}(h:(SlO E D l p).va.p B v w):l.length≤9223372036854775807:=by
 obtain ⟨cs,⟨_,_,A,c,ds,_,h1,h2,_⟩,_⟩:=h
 unfold maxLen at h2
 omega
def longQ (q:Rat):Bool:=[riOf q.num].any bigI || [riOf (q.den:Int)].any bigI
theorem longQ_false {q:Rat}:longQ q=false↔lz q.num≤2048∧lz (q.den:Int)≤2048:=by
 simp [longQ,bigI,zdu]
 omega
def IsQ (A:As)(q:Rat):Prop:=∃ k,A=QA k q
theorem sl_wk {E:TypeId}{D:List TypeId}{l l':List As}(h:All2 WkA l l')(hD:∀ A∈l',∀ T∈A.deps,T∈D):WkA (SlA E D l) (SlA E D l'):=⟨rfl,rfl,fun B cs w ⟨_,A,c,ds,e,h1,h2,h3,h4⟩=>by
 have hl:=h.length
 exact ⟨hD,A,c,ds,by rw [← hl]; exact e,by rw [← hl]; exact h1,h2,(zci h).2.2 B ds w h3,fun hn=>h4 (by rw [hl]; exact hn)⟩⟩
theorem isq_at {L:List As}{qs:List Rat}(h:All2 IsQ L qs){j:Nat}(hj:j<qs.length):∃ k,L[j]?=some (QA k qs[j]):=by
 have hl:=h.length
 obtain ⟨q,h1,k,h2⟩:=h.get (List.getElem?_eq_getElem (show j<L.length by omega))
 rw [List.getElem?_eq_getElem hj] at h1
 injection h1 with h1
 exact ⟨k,by rw [List.getElem?_eq_getElem zo,h2,h1]⟩
theorem isq_up {L:List As}{qs:List Rat}(h:All2 IsQ L qs):∀ A∈L,UpA A A:=fun A hA=>by
 obtain ⟨j,hj⟩:=List.getElem?_of_mem hA
 obtain ⟨q,_,k,rfl⟩:=h.get hj
 exact upA_qa
theorem isq_n {L:List As}{qs:List Rat}(h:All2 IsQ L qs):∀ A∈L,A.n=4:=fun A hA=>by
 obtain ⟨j,hj⟩:=List.getElem?_of_mem hA
 obtain ⟨q,_,k,rfl⟩:=h.get hj
 rfl
theorem lq_some {l:List Rat}{j:Nat}(h:j<l.length)(h2:longQ l[j]=true):true=l.any longQ:=(List.any_eq_true.2 ⟨_,List.getElem_mem h,h2⟩).symm
theorem lq_no {l:List Rat}{j:Nat}(h:j<l.length)(h1:(l.take j).any longQ=false)(h2:longQ l[j]=false):(l.take (j+1)).any longQ=false:=by
 rw [List.take_succ_eq_append_getElem h,List.any_append,h1]
 simp [h2]
theorem long_q {L:List As}(qs:List Rat)(hL:All2 IsQ L qs)(hl:qs.length≤1099511627776):Cn Tryz.prog 114 [(SlA 37 [U32] L).va] (Bo (qs.any longQ)):=by
 have hLl:=hL.length
 refine Cn.introW Tryz.func114 rfl zk nq (.cons (zjb (isq_up hL)).va .nil) (zek _).va (fun B w0 a hB0 hst=>?_)
 have hst:St B w0 22 [(0,(SlO 37 [U32] L True).va)] [] a w0.w:=hst
 refine wp_seq ?_
 refine gl (sts:=[]) (news:=[]) (sp:=[.val 2 _]) [.g 0,.o 0] hst (zv rfl (za1 zba) o0) (fun a w hst=>?_)
 have hst:St B w0 22 [(0,_),(2,_)] [] a w:=hst
 refine zt ?_
 refine wp_seq ?_
 refine gl (sts:=[]) (news:=[]) (sp:=[.val 5 _,.val 6 _,.val 7 _]) [.g 1,.o 0,.o 1,.o 2] hst (zv rfl (za2 (gq 0 rfl)) (zv rfl (zd4 Tryz.underlying101 (zca (zas (vq 0 rfl)))) (zv rfl (za2 za3) o0))) (fun a w hst=>?_)
 have hst:St B w0 22 [(2,_),(5,_),(6,_),(7,_)] [] a w:=hst
 refine za0 ?_
 refine wp_block ?_
 have hst:=St.sel hst [1,2,3]
 refine wp_loop_ghost (fun n a w=>∃ j:Nat,(n+j=qs.length∧(qs.take j).any longQ=false)∧St B w0 22 [(5,(SlO 37 [U32] L True).va),(6,In (qs.length:Nat)),(7,In (j:Nat))] [] a w) (qs.length) ?_ ?_
 ·exact ⟨0,⟨by omega,rfl⟩,by rw [hLl] at hst; exact hst⟩
 intro n a w hI
 obtain ⟨j,⟨hn,hno⟩,hst⟩:=hI
 refine wp_seq ?_
 refine gl (sts:=[]) (news:=[]) (sp:=[.val 8 _]) [.g 0,.g 1,.g 2,.o 0] hst (zv rfl (zbt (gq 2 rfl) (gq 1 rfl)) o0) (fun a w hst=>?_)
 have hst:St B w0 22 [(5,_),(6,_),(7,_),(8,_)] [] a w:=hst
 refine zt ?_
 refine za8 hst (zm 3 rfl) (fun hb0=>?_) (fun hb0=>?_)
 ·have hj:j<qs.length:=by simp at hb0; omega
  obtain ⟨kj,hLj⟩:=isq_at hL hj
  refine wp_skip ?_
  refine zt ?_
  refine wp_block ?_
  refine wp_seq ?_
  refine gl (sts:=[]) (news:=[⟨4,37,ptrH,some 2,_,some (3,_)⟩]) (sp:=[.val 9 _,.val 10 _,.alc 0,.sto 0]) [.g 0,.g 1,.g 2] hst (zv rfl (ze5 zg4 (isq_n hL) (zca (zas (gq 0 rfl))) (gq 2 rfl) hLj) (zv rfl (zav (vq 0 rfl) zao) (oc (zap rfl rfl rfl (Str.zero zb9)) (oc (zaf rfl rfl rfl (vq 1 rfl) zao (Eq.trans (b:=4) rfl rfl)) o0)))) (fun a w hst=>?_)
  have hst:St B w0 22 [(5,_),(6,_),(7,_)] [⟨4,37,ptrH,_⟩] a w:=hst
  refine zt<|gl (sts:=[none]) (news:=[]) (sp:=[.adr 11 4 (.some 0) True,.val 12 _,.val 13 _,.val 14 _,.val 15 _,.adr 16 4 (.some 2) (_=false),.val 17 (Wh (_=false) _),.val 18 (Wh (_=false) _),.val 19 (Wh (_=false) _),.val 20 _]) [.g 0,.g 1,.g 2,.o 9] hst (oc (ob_a rfl rfl (za7 (lz0 0 rfl) zbf)) (zv rfl (za4 0 rfl zk trivial (lz0 0 rfl) (Sub.part 0 rfl rfl) zab) (zv rfl (zcx (D:=[U32]) (l:=[_]) (xs:=[.tmp 12]) (zfq zk) sl_153 zk (n_ok zk) nq nq nq (.cons (vq 1 rfl) .nil) rfl rfl) (zv rfl (za5 (xs:=[.tmp 13]) ((longI_c [riOf (qs[j]).num] nq).wk (.cons (sl_wk (.cons zaA .nil) (zfq zk)).va .nil)) (.cons (vq 2 rfl) .nil)) (zv rfl (za2 (vq 3 rfl)) (oc (zbz rfl rfl rfl (vq 4 rfl) nq (fun hg=>za7 (lz0 0 rfl) zb5)) (oc (zal rfl rfl rfl (vq 4 rfl) nq (fun hg=>za4 5 rfl zk hg (lz0 0 rfl) (Sub.part 1 rfl rfl) zab)) (oc (zal rfl rfl rfl (vq 4 rfl) nq (fun hg=>zcx (D:=[U32]) (l:=[_]) (xs:=[.tmp 17]) (zfq zk) sl_153 zk (n_ok zk) nq nq nq (.cons (zae (vq 6 rfl) hg) .nil) rfl rfl)) (oc (zal rfl rfl rfl (vq 4 rfl) nq (fun hg=>za5 (xs:=[.tmp 18]) ((longI_c [riOf ((qs[j]).den:Int)] nq).wk (.cons (sl_wk (.cons zaA .nil) (zfq zk)).va .nil)) (.cons (zae (vq 7 rfl) hg) .nil))) (zv rfl (r_or (vq 4 rfl) (vq 8 rfl)) o0)))))))))) (fun a w hst=>?_)
  have hst:St B w0 22 [(5,_),(6,_),(7,_),(20,_)] [⟨4,37,ptrH,_⟩] a w:=hst
  refine za0 ?_
  refine za8 hst (zm 3 rfl) (fun hb1=>?_) (fun hb1=>?_)
  ·refine wp_seq ?_
   refine gl (sts:=[none]) (news:=[]) (sp:=[.val 2 _]) [.g 0,.g 1,.g 2,.o 0] hst (zv rfl (za1 zba) o0) (fun a w hst=>?_)
   have hst:St B w0 22 [(5,_),(6,_),(7,_),(2,_)] [⟨4,37,ptrH,_⟩] a w:=hst
   refine za0 ?_
   refine wp_ret ?_
   refine zb3 ?_
   refine zad ?_
   refine zad ?_
   refine zb3 ?_
   refine zad ?_
   refine zak ?_ (zaa rfl hst (zm 3 rfl))
   rw [← lq_some hj hb1]
  ·refine wp_skip ?_
   refine zaj ?_
   refine za0 ?_
   refine gl (sts:=[none]) (news:=[]) (sp:=[.val 21 _,.val 7 _]) [.g 0,.g 1,.o 1] hst (zv rfl (zb7 (gq 2 rfl) za3 (zbh zo)) (zv rfl (za2 (vq 0 rfl)) o0)) (fun a w hst=>?_)
   have hst:St B w0 22 [(5,_),(6,_),(7,_)] [⟨4,37,ptrH,_⟩] a w:=hst
   refine za0 ?_
   have hst:=St.sel hst [0,1,2]
   have hst:=St.selL hst []
   exact ⟨n-1,by omega,j+1,⟨by omega,lq_no hj hno hb1⟩,hst⟩
 ·obtain rfl:j=qs.length:=by simp at hb0; omega
  refine wp_exit ?_
  refine zac ?_
  refine zac ?_
  refine zay ?_
  refine zt<|gl (sts:=[]) (news:=[]) (sp:=[.val 2 _]) [.o 0] hst (zv rfl (za1 zba) o0) (fun a w hst=>?_)
  have hst:St B w0 22 [(2,_)] [] a w:=hst
  refine za0 ?_
  refine wp_ret ?_
  refine zak ?_ (zaa rfl hst (zm 0 rfl))
  rw [List.take_length] at hno; rw [hno]
theorem answer_q {L:List As}(qs:List Rat)(hL:All2 IsQ L qs)(hl:qs.length≤1099511627776):Cn Tryz.prog 80 [(SlA 37 [U32] L).va] (In (if qs.any longQ then 4 else 0)):=by
 refine Cn.intro Tryz.func80 rfl zk nq (fun B w0 a hst=>?_)
 have hst:St B w0 5 [(0,(SlA 37 [U32] L).va)] [] a w0.w:=hst
 refine wp_seq ?_
 refine gl (sts:=[]) (news:=[]) (sp:=[.val 2 _]) [.g 0,.o 0] hst (zv rfl (za1 za3) o0) (fun a w hst=>?_)
 have hst:St B w0 5 [(0,_),(2,_)] [] a w:=hst
 refine zt ?_
 refine wp_seq ?_
 refine gl (sts:=[]) (news:=[]) (sp:=[.val 3 _,.val 4 _]) [.g 1,.o 1] hst (zv rfl (za2 (gq 0 rfl)) (zv rfl (za5 (xs:=[.tmp 3]) (long_q qs hL hl) (.cons (vq 0 rfl) .nil)) o0)) (fun a w hst=>?_)
 have hst:St B w0 5 [(2,_),(4,_)] [] a w:=hst
 refine za0 ?_
 refine za8 hst (zm 1 rfl) (fun hb0=>?_) (fun hb0=>?_)
 ·refine wp_seq ?_
  refine gl (sts:=[]) (news:=[]) (sp:=[.val 2 _]) [.o 0] hst (zv rfl (za1 za3) o0) (fun a w hst=>?_)
  have hst:St B w0 5 [(2,_)] [] a w:=hst
  refine za0 ?_
  refine wp_ret ?_
  refine zad ?_
  refine zak ?_ (zaa rfl hst (zm 0 rfl))
  rw [hb0]; rfl
 ·refine wp_skip ?_
  refine zt<|gl (sts:=[]) (news:=[]) (sp:=[.val 2 _]) [.o 0] hst (zv rfl (za1 za3) o0) (fun a w hst=>?_)
  have hst:St B w0 5 [(2,_)] [] a w:=hst
  refine za0 ?_
  refine wp_ret ?_
  refine zak ?_ (zaa rfl hst (zm 0 rfl))
  rw [hb0]; rfl
def okF (x:RF):Bool:=okRI x.num&&okRI x.den&&decide (0<sgI x.den)&&decide (Nat.gcd (val x.num.mag) (val x.den.mag)=1)
theorem ziw {x:RI}(ok:okL x.mag)(h:okRI x=true):∃ z,x=riOf z∧lz z≤2048:=by
 obtain ⟨neg,l⟩:=x
 simp only [okRI,Bool.not_eq_true',Bool.or_eq_false_iff,Bool.and_eq_false_iff,decide_eq_false_iff_not,beq_eq_false_iff_ne,ne_eq] at h ok
 obtain ⟨⟨h1,h2⟩,h3⟩:=h
 have hc:Canon l:=by
  refine ⟨ok,fun e=>?_⟩
  rcases List.eq_nil_or_concat l with rfl | ⟨m,y,rfl⟩
  ·simp at e
  ·simp at e
   subst e
   rcases h2 with h2 | h2
   ·simp at h2
   ·exact h2 (by simp)
 have e:limbs (val l)=l:=zkz hc
 cases neg with
 | false=>exact ⟨(val l:Nat),by simp [riOf,e],by show (limbs _).length≤2048; rw [Int.natAbs_natCast,e]; omega⟩
 | true =>
  have hl:l≠[]:=fun e=>by subst e; simp at h3
  have hv:0<val l:=hc.val_pos hl
  exact ⟨-(val l:Nat),by simp [riOf,e]; omega,by show (limbs _).length≤2048; rw [Int.natAbs_neg,Int.natAbs_natCast,e]; omega⟩
theorem okRI_ri {z:Int}:okRI (riOf z)=decide (lz z≤2048):=by
 unfold okRI
 by_cases h0:z=0
 ·subst h0; simp [riOf,zbo,lz]
 ·have h1:=zgc h0
  have h2:=(zbd z.natAbs).2
  have e:(riOf z).mag=limbs z.natAbs:=rfl
  have e2:(limbs z.natAbs).length=lz z:=rfl
  have h3:(limbs z.natAbs).getD (lz z-1) 0≠0:=fun hh=>by
   apply h2
   rw [List.getLast?_eq_getElem?,e2,List.getElem?_eq_getElem zo]
   rw [List.getD_eq_getElem?_getD,List.getElem?_eq_getElem zo] at hh
   simpa using hh
  rw [e,e2]
  by_cases h4:lz z≤2048
  ·have h5:¬ ((lz z:Int)>2048):=by omega
   have h6:¬ ((lz z:Int)=0):=by omega
   have h7:¬ (((limbs z.natAbs).getD (lz z-1) 0:Nat):Int)=((0:Nat):Int):=by omega
   simp only [h4,h5,decide_true,decide_false,beq_eq_false_iff_ne.2 h7,beq_eq_false_iff_ne.2 h6,Bool.and_false,Bool.false_and,Bool.or_self,Bool.not_false]
  ·have h5:((lz z:Int)>2048):=by omega
   simp only [h4,h5,decide_true,decide_false,Bool.true_or,Bool.not_true]
theorem okF_q {x:RF}(ok:okL x.num.mag∧okL x.den.mag)(h:okF x=true):∃ r:Rat,x=rfOf r∧lz r.num≤2048∧lz (r.den:Int)≤2048:=by
 obtain ⟨xn,xd⟩:=x
 simp only [okF,Bool.and_eq_true,decide_eq_true_eq] at h ok
 obtain ⟨⟨⟨h1,h2⟩,h3⟩,h4⟩:=h
 obtain ⟨p,rfl,hp⟩:=ziw ok.1 h1
 obtain ⟨q,rfl,hq⟩:=ziw ok.2 h2
 rw [zdd] at h3
 have hq0:0<q:=Int.sign_pos_iff.1 h3
 rw [zbp,zbp] at h4
 refine ⟨⟨p,q.natAbs,by omega,h4⟩,?_,hp,?_⟩
 ·show RF.mk _ _=RF.mk (riOf p) (riOf (q.natAbs:Nat))
  rw [show ((q.natAbs:Nat):Int)=q by omega]
 ·show lz ((q.natAbs:Nat):Int)≤2048
  rw [show ((q.natAbs:Nat):Int)=q by omega]
  exact hq
theorem ok1 {b:Bool}(h:(((if b then (0:Int) else 1) != 0))=false):b=true:=by cases b <;> simp at h ⊢
theorem chk_no {x:RF}(h:((((if okRI x.num then (0:Int) else 1) != 0) || ((if okRI x.den then (0:Int) else 1) != 0)) || decide (sgI x.den≤0))=true):(1:Int)=if okF x then 0 else 1:=by
 have:okF x=false:=by
  unfold okF
  cases h1:okRI x.num <;> cases h2:okRI x.den <;> simp [h1,h2] at h ⊢
  omega
 rw [this]; rfl
theorem sg_one {p q:Int}(h:(sg3 ((Int.gcd p q:Nat):Int) 1 != 0)=true):Int.gcd p q≠1:=fun e=>by rw [e] at h; simp [sg3] at h
theorem zjh {x:RF}{B:Nat}{v:Value}{w:World}(h:(RFA x).va.p B v w):okL x.num.mag∧okL x.den.mag:=by
 obtain ⟨cs,⟨ps,_,hp⟩,_⟩:=h
 cases hp with
 | cons h1 hp=>cases hp with | cons h2 _=>exact ⟨(zgr ⟨_,h1,rfl⟩).1,(zgr ⟨_,h2,rfl⟩).1⟩
theorem cmp_i {p q:Int}(hp:lz p≤1099511627776)(hq:lz q≤1099511627776):Cn Tryz.prog 89 [Zi p,Zi q] (In (sg3 p q)):=(cmpI_c (riOf p) (riOf q) (by rw [zdu]; omega) (by rw [zdu]; omega)).post (by rw [cmp_ri])
theorem lz_one:lz 1≤1099511627776:=Nat.le_trans (lz_le (k:=1) zd) zd
theorem checkF_c (xn xd:RI):Cn Tryz.prog 91 [(RFA ⟨xn,xd⟩).va] (In (if okF ⟨xn,xd⟩ then 0 else 1)):=by
 refine Cn.intro Tryz.func91 rfl zk nq (fun B w0 a hst=>?_)
 have hst:St B w0 27 [(0,(RFA ⟨xn,xd⟩).va)] [] a w0.w:=hst
 have hok:=zjh (hst.vals (0,(RFA ⟨xn,xd⟩).va) (zm 0 rfl))
 refine wp_seq ?_
 refine gl (sts:=[]) (news:=[⟨1,37,ptrH,some 0,_,none⟩]) (sp:=[.alc 0,.val 2 _]) [.o 1] hst (oc (zan rfl rfl rfl (gq 0 rfl)) (zv rfl (za1 za3) o0)) (fun a w hst=>?_)
 have hst:St B w0 27 [(2,_)] [⟨1,37,ptrH,_⟩] a w:=hst
 refine zt ?_
 refine wp_seq ?_
 refine gl (sts:=[none]) (news:=[]) (sp:=[.adr 3 1 (.some 0) True,.val 4 _,.val 5 _,.val 6 _,.val 7 _,.adr 8 1 (.some 2) (_=false),.val 9 (Wh (_=false) _),.val 10 (Wh (_=false) _),.val 11 (Wh (_=false) _),.val 12 _,.val 13 _,.adr 14 1 (.some 2) (_=false),.val 15 (Wh (_=false) _),.val 16 (Wh (_=false) _),.val 17 (Wh (_=false) _),.val 18 _]) [.g 0,.o 15] hst (oc (ob_a rfl rfl (za7 (lz0 0 rfl) zbf)) (zv rfl (za4 0 rfl zk trivial (lz0 0 rfl) (Sub.part 0 rfl rfl) zab) (zv rfl (za5 (xs:=[.tmp 4]) (check_c _) (.cons (vq 1 rfl) .nil)) (zv rfl (zdh (vq 2 rfl) za3) (zv rfl (za2 (vq 3 rfl)) (oc (zbz rfl rfl rfl (vq 4 rfl) nq (fun hg=>za7 (lz0 0 rfl) zb5)) (oc (zal rfl rfl rfl (vq 4 rfl) nq (fun hg=>za4 5 rfl zk hg (lz0 0 rfl) (Sub.part 1 rfl rfl) zab)) (oc (zal rfl rfl rfl (vq 4 rfl) nq (fun hg=>za5 (xs:=[.tmp 9]) (check_c _) (.cons (zae (vq 6 rfl) hg) .nil))) (oc (zal rfl rfl rfl (vq 4 rfl) nq (fun hg=>zdh (zae (vq 7 rfl) hg) za3)) (zv rfl (r_or (vq 4 rfl) (vq 8 rfl)) (zv rfl (za2 (vq 9 rfl)) (oc (zbz rfl rfl rfl (vq 10 rfl) nq (fun hg=>za7 (lz0 0 rfl) zb5)) (oc (zal rfl rfl rfl (vq 10 rfl) nq (fun hg=>za4 11 rfl zk hg (lz0 0 rfl) (Sub.part 1 rfl rfl) zab)) (oc (zal rfl rfl rfl (vq 10 rfl) nq (fun hg=>za5 (xs:=[.tmp 15]) (sign_c _) (.cons (zae (vq 12 rfl) hg) .nil))) (oc (zal rfl rfl rfl (vq 10 rfl) nq (fun hg=>zkt (zae (vq 13 rfl) hg) za3)) (zv rfl (r_or (vq 10 rfl) (vq 14 rfl)) o0)))))))))))))))) (fun a w hst=>?_)
 have hst:St B w0 27 [(2,_),(18,_)] [⟨1,37,ptrH,_⟩] a w:=hst
 refine za0 ?_
 refine za8 hst (zm 1 rfl) (fun hb0=>?_) (fun hb0=>?_)
 ·refine wp_seq ?_
  refine gl (sts:=[none]) (news:=[]) (sp:=[.val 2 _]) [.o 0] hst (zv rfl (za1 za3) o0) (fun a w hst=>?_)
  have hst:St B w0 27 [(2,_)] [⟨1,37,ptrH,_⟩] a w:=hst
  refine za0 ?_
  refine wp_ret ?_
  refine zad ?_
  refine zak ?_ (zaa rfl hst (zm 0 rfl))
  exact congrArg In (chk_no hb0)
 ·rw [Bool.or_eq_false_iff,Bool.or_eq_false_iff] at hb0
  obtain ⟨p,rfl,hp⟩:=ziw hok.1 (ok1 hb0.1.1)
  obtain ⟨q,rfl,hq⟩:=ziw hok.2 (ok1 hb0.1.2)
  have hq0:0<sgI (riOf q):=by have h2:¬ sgI (riOf q)≤0:=of_decide_eq_false hb0.2; omega
  have hpq:=lz_gcd p q
  refine wp_skip ?_
  refine zt ?_
  refine wp_seq ?_
  refine gl (sts:=[none]) (news:=[]) (sp:=[.adr 19 1 (.some 0) True,.val 20 _,.adr 21 1 (.some 2) True,.val 22 _,.val 23 _,.val 24 _,.val 25 _,.val 26 _]) [.g 0,.o 7] hst (oc (ob_a rfl rfl (za7 (lz0 0 rfl) zbf)) (zv rfl (za4 0 rfl zk trivial (lz0 0 rfl) (Sub.part 0 rfl rfl) zab) (oc (ob_a rfl rfl (za7 (lz0 0 rfl) zb5)) (zv rfl (za4 2 rfl zk trivial (lz0 0 rfl) (Sub.part 1 rfl rfl) zab) (zv rfl (za5 (xs:=[.tmp 20,.tmp 22]) ((common_c p q zo zo).wkp zh1) (.cons (vq 1 rfl) (.cons (vq 3 rfl) .nil))) (zv rfl (za5 (xs:=[.const (.int .i64 (1))]) (of_c 1 zd zd) (.cons za3 .nil)) (zv rfl (za5 (xs:=[.tmp 23,.tmp 24]) (cmp_i zo lz_one) (.cons (vq 4 rfl) (.cons (vq 5 rfl) .nil))) (zv rfl (zdh (vq 6 rfl) za3) o0)))))))) (fun a w hst=>?_)
  have hst:St B w0 27 [(2,_),(26,_)] [⟨1,37,ptrH,_⟩] a w:=hst
  refine za0 ?_
  refine za8 hst (zm 1 rfl) (fun hb1=>?_) (fun hb1=>?_)
  ·refine wp_seq ?_
   refine gl (sts:=[none]) (news:=[]) (sp:=[.val 2 _]) [.o 0] hst (zv rfl (za1 za3) o0) (fun a w hst=>?_)
   have hst:St B w0 27 [(2,_)] [⟨1,37,ptrH,_⟩] a w:=hst
   refine za0 ?_
   refine wp_ret ?_
   refine zad ?_
   refine zak ?_ (zaa rfl hst (zm 0 rfl))
   have e1:=sg_one hb1; exact congrArg In (by rw [show okF ⟨riOf p,riOf q⟩=false from by unfold okF; rw [zbp,zbp]; simp [show ¬ Nat.gcd p.natAbs q.natAbs=1 from e1]]; rfl)
  ·refine wp_skip ?_
   refine zt<|gl (sts:=[none]) (news:=[]) (sp:=[.val 2 _]) [.o 0] hst (zv rfl (za1 za3) o0) (fun a w hst=>?_)
   have hst:St B w0 27 [(2,_)] [⟨1,37,ptrH,_⟩] a w:=hst
   refine za0 ?_
   refine wp_ret ?_
   refine zak ?_ (zaa rfl hst (zm 0 rfl))
   have e1:=gcd_one hb1; exact congrArg In (by rw [show okF ⟨riOf p,riOf q⟩=true from by unfold okF; rw [zbp,zbp,ok1 hb0.1.1,ok1 hb0.1.2]; simp [hq0,show Nat.gcd p.natAbs q.natAbs=1 from e1]]; rfl)
end Go.Proofs.YtlpppkkggljdcaaGreat
namespace Go.Proofs.YtlpppkkggljdcaaGreat
open Go Go.RowKit
def okLb (l:List Nat):Bool:=l.all fun x=>decide (x<4294967296)
theorem okLb_iff {l:List Nat}:okLb l=true↔okL l:=by simp [okLb,okL]
def okX (x:RF):Bool:=okLb x.num.mag&&okLb x.den.mag&&okF x
def zI (x:RI):Int:=if x.neg then -(val x.mag:Nat) else (val x.mag:Nat)
def toQ (x:RF):Rat:=Rat.divInt (zI x.num) (zI x.den)
theorem zI_ri (z:Int):zI (riOf z)=z:=by
 unfold zI
 rw [zbp]
 by_cases h:z<0 <;> simp [riOf,h] <;> omega
theorem toQ_of (r:Rat):toQ (rfOf r)=r:=by
 show Rat.divInt (zI (riOf r.num)) (zI (riOf (r.den:Int)))=r
 rw [zI_ri,zI_ri]
 exact Rat.num_divInt_den r
theorem okX_know {x:RF}(h:okL x.num.mag∧okL x.den.mag):okX x=okF x:=by rw [okX,okLb_iff.2 h.1,okLb_iff.2 h.2]; rfl
theorem okX_q {x:RF}(h:okX x=true):x=rfOf (toQ x)∧lz (toQ x).num≤2048∧lz ((toQ x).den:Int)≤2048:=by
 simp only [okX,Bool.and_eq_true] at h
 obtain ⟨r,rfl,h1⟩:=okF_q ⟨okLb_iff.1 h.1.1,okLb_iff.1 h.1.2⟩ h.2
 rw [toQ_of]
 exact ⟨rfl,h1⟩
abbrev rf0:RF:=⟨⟨false,[]⟩,⟨false,[]⟩⟩
theorem ex_check : ∃ fn, Tryz.prog.funcs[91]? = some fn ∧ (fn.name == "runtime.NumGoroutine") = false ∧ fn.body.isNone = false := ⟨_, Tryz.func91, by kernel_rfl, by kernel_rfl⟩
theorem check_x (x:RF):Cn Tryz.prog 91 [(RFA x).va] (In (if okX x then 0 else 1)) :=
 Cn.know (c:=okL x.num.mag∧okL x.den.mag) ex_check (fun B w args ha=>by cases ha with | cons h1 _=>exact zjh h1) fun h=>(checkF_c x.num x.den).post (by rw [okX_know h])
theorem ok_no {l:List RF}{j:Nat}(h:j<l.length)(h2:((if okX l[j] then (0:Int) else 1) != 0)=true):false=l.all okX:=by
 have h3:okX l[j]=false:=by cases hh:okX l[j] <;> simp [hh] at h2 ⊢
 exact (List.all_eq_false.2 ⟨_,List.getElem_mem h,by simp [h3]⟩).symm
theorem ok_yes {l:List RF}{j:Nat}(h:j<l.length)(h1:(l.take j).all okX=true)(h2:((if okX l[j] then (0:Int) else 1) != 0)=false):(l.take (j+1)).all okX=true:=by
 rw [List.take_succ_eq_append_getElem h,List.all_append,h1]
 simp [ok1 h2]
theorem checks_c (xs:List RF)(hl:xs.length≤1099511627776):Cn Tryz.prog 52 [(SlA 37 [U32] (xs.map RFA)).va] (Bo (xs.all okX)):=by
 refine Cn.introW Tryz.func52 rfl zk nq (.cons (zjb (fun A hA=>by obtain ⟨x,_,rfl⟩:=List.mem_map.1 hA; exact zij x)).va .nil) (zek _).va (fun B w0 a hB0 hst=>?_)
 have hst:St B w0 15 [(0,(SlO 37 [U32] (xs.map RFA) True).va)] [] a w0.w:=hst
 refine wp_seq ?_
 refine gl (sts:=[]) (news:=[]) (sp:=[.val 2 _]) [.g 0,.o 0] hst (zv rfl (za1 zba) o0) (fun a w hst=>?_)
 have hst:St B w0 15 [(0,_),(2,_)] [] a w:=hst
 refine zt ?_
 refine wp_seq ?_
 refine gl (sts:=[]) (news:=[]) (sp:=[.val 5 _,.val 6 _,.val 7 _]) [.g 1,.o 0,.o 1,.o 2] hst (zv rfl (za2 (gq 0 rfl)) (zv rfl (zd4 Tryz.underlying101 (zca (zas (vq 0 rfl)))) (zv rfl (za2 za3) o0))) (fun a w hst=>?_)
 have hst:St B w0 15 [(2,_),(5,_),(6,_),(7,_)] [] a w:=hst
 refine za0 ?_
 refine wp_block ?_
 have hst:=St.sel hst [1,2,3]
 refine wp_loop_ghost (fun n a w=>∃ j:Nat,(n+j=xs.length∧(xs.take j).all okX=true)∧St B w0 15 [(5,(SlO 37 [U32] (xs.map RFA) True).va),(6,In (xs.length:Nat)),(7,In (j:Nat))] [] a w) (xs.length) ?_ ?_
 ·exact ⟨0,⟨by omega,rfl⟩,by rw [List.length_map] at hst; exact hst⟩
 intro n a w hI
 obtain ⟨j,⟨hn,hno⟩,hst⟩:=hI
 refine wp_seq ?_
 refine gl (sts:=[]) (news:=[]) (sp:=[.val 8 _]) [.g 0,.g 1,.g 2,.o 0] hst (zv rfl (zbt (gq 2 rfl) (gq 1 rfl)) o0) (fun a w hst=>?_)
 have hst:St B w0 15 [(5,_),(6,_),(7,_),(8,_)] [] a w:=hst
 refine zt ?_
 refine za8 hst (zm 3 rfl) (fun hb0=>?_) (fun hb0=>?_)
 ·have hj:j<xs.length:=by simp at hb0; omega
  refine wp_skip ?_
  refine zt ?_
  refine wp_block ?_
  refine wp_seq ?_
  refine gl (sts:=[]) (news:=[⟨4,37,ptrH,some 2,_,some (3,_)⟩]) (sp:=[.val 9 _,.val 10 _,.alc 0,.sto 0]) [.g 0,.g 1,.g 2] hst (zv rfl (ze5 zg4 (zf1 fun _=>rfl) (zca (zas (gq 0 rfl))) (gq 2 rfl) (zdg hj)) (zv rfl (zav (vq 0 rfl) zao) (oc (zap rfl rfl rfl (Str.zero zb9)) (oc (zaf rfl rfl rfl (vq 1 rfl) zao (Eq.trans (b:=4) rfl rfl)) o0)))) (fun a w hst=>?_)
  have hst:St B w0 15 [(5,_),(6,_),(7,_)] [⟨4,37,ptrH,_⟩] a w:=hst
  refine zt<|gl (sts:=[none]) (news:=[]) (sp:=[.val 11 _,.val 12 _,.val 13 _]) [.g 0,.g 1,.g 2,.o 2] hst (zv rfl (zaq (lz0 0 rfl) zao) (zv rfl (za5 (xs:=[.tmp 11]) (check_x _) (.cons (vq 0 rfl) .nil)) (zv rfl (zdh (vq 1 rfl) za3) o0))) (fun a w hst=>?_)
  have hst:St B w0 15 [(5,_),(6,_),(7,_),(13,_)] [⟨4,37,ptrH,_⟩] a w:=hst
  refine za0 ?_
  refine za8 hst (zm 3 rfl) (fun hb1=>?_) (fun hb1=>?_)
  ·refine wp_seq ?_
   refine gl (sts:=[none]) (news:=[]) (sp:=[.val 2 _]) [.g 0,.g 1,.g 2,.o 0] hst (zv rfl (za1 zba) o0) (fun a w hst=>?_)
   have hst:St B w0 15 [(5,_),(6,_),(7,_),(2,_)] [⟨4,37,ptrH,_⟩] a w:=hst
   refine za0 ?_
   refine wp_ret ?_
   refine zb3 ?_
   refine zad ?_
   refine zad ?_
   refine zb3 ?_
   refine zad ?_
   refine zak ?_ (zaa rfl hst (zm 3 rfl))
   rw [← ok_no hj hb1]
  ·refine wp_skip ?_
   refine zaj ?_
   refine za0 ?_
   refine gl (sts:=[none]) (news:=[]) (sp:=[.val 14 _,.val 7 _]) [.g 0,.g 1,.o 1] hst (zv rfl (zb7 (gq 2 rfl) za3 (zbh zo)) (zv rfl (za2 (vq 0 rfl)) o0)) (fun a w hst=>?_)
   have hst:St B w0 15 [(5,_),(6,_),(7,_)] [⟨4,37,ptrH,_⟩] a w:=hst
   refine za0 ?_
   have hst:=St.sel hst [0,1,2]
   have hst:=St.selL hst []
   exact ⟨n-1,by omega,j+1,⟨by omega,ok_yes hj hno hb1⟩,hst⟩
 ·obtain rfl:j=xs.length:=by simp at hb0; omega
  refine wp_exit ?_
  refine zac ?_
  refine zac ?_
  refine zay ?_
  refine zt<|gl (sts:=[]) (news:=[]) (sp:=[.val 2 _]) [.o 0] hst (zv rfl (za1 zba) o0) (fun a w hst=>?_)
  have hst:St B w0 15 [(2,_)] [] a w:=hst
  refine za0 ?_
  refine wp_ret ?_
  refine zak ?_ (zaa rfl hst (zm 0 rfl))
  rw [List.take_length] at hno; rw [hno]
def ansF (q:Rat):RF × Int:=if longQ q then (rf0,4) else (rfOf q,0)
abbrev FrR (r:RF × Int):VA:=Tu [(RFA r.1).va,In r.2]
theorem rq_wk {k:Nat}{r:Rat}:Wk (Qs k r) (RFA (rfOf r)).va:=qaA.va
theorem tu2w {a b c d:VA}(h:Wk a c)(h':Wk b d):Wk (Tu [a,b]) (Tu [c,d]):=tu_wk (.cons h (.cons h' .nil))
theorem zjl {q:Rat}:[q].any longQ=longQ q:=by simp
theorem ne0 {b:Bool}:((if b then (4:Int) else 0) != 0)=b:=by cases b <;> rfl
theorem has_wk' {R:Rg}{B:Nat}{w0:Bs}{i:Nat}{x:Operand}{A A':VA}(h:Has R B w0 i x A)(hw:Wk A A'):Has R B w0 i x A':=fun a w av=>hw _ _ _ (h a w av)
theorem answered_q {c:Nat}{x:Rat}(hc:c≤549755813888):Cn Tryz.prog 136 [Qs c x] (FrR (ansF x)):=by
 refine Cn.intro Tryz.func136 rfl zk nq (fun B w0 a hst=>?_)
 have hst:St B w0 14 [(0,Qs c x)] [] a w0.w:=hst
 refine wp_seq ?_
 refine gl (sts:=[]) (news:=[⟨1,37,ptrH,some 0,_,none⟩,⟨2,37,ptrH,some 1,_,none⟩]) (sp:=[.alc 0,.alc 1,.val 3 _]) [.o 2] hst (oc (zan rfl rfl rfl (gq 0 rfl)) (oc (zap rfl rfl rfl (Str.zero zb9)) (zv rfl (za1 za3) o0))) (fun a w hst=>?_)
 have hst:St B w0 14 [(3,_)] [⟨1,37,ptrH,_⟩,⟨2,37,ptrH,_⟩] a w:=hst
 refine zt ?_
 refine wp_seq ?_
 refine gl (sts:=[none,none]) (news:=[]) (sp:=[.val 5 _,.val 6 _,.val 7 _,.val 4 _]) [.g 0,.o 3] hst (zv rfl (zaq (lz0 0 rfl) zao) (zv rfl (zcx (D:=[U32]) (l:=[_]) (xs:=[.tmp 5]) (zfq zk) zg4 zk (n_ok zk) nq nq nq (.cons (vq 0 rfl) .nil) rfl rfl) (zv rfl (za5 (xs:=[.tmp 6]) ((answer_q [x] (.cons ⟨_,rfl⟩ .nil) nq)) (.cons (vq 1 rfl) .nil)) (zv rfl (za1 (vq 2 rfl)) o0)))) (fun a w hst=>?_)
 have hst:St B w0 14 [(3,_),(4,_)] [⟨1,37,ptrH,_⟩,⟨2,37,ptrH,_⟩] a w:=hst
 refine zt<|gl (sts:=[none,none]) (news:=[]) (sp:=[.val 8 _,.val 9 _]) [.g 0,.g 1,.o 1] hst (zv rfl (za2 (gq 1 rfl)) (zv rfl (zdh (vq 0 rfl) za3) o0)) (fun a w hst=>?_)
 have hst:St B w0 14 [(3,_),(4,_),(9,_)] [⟨1,37,ptrH,_⟩,⟨2,37,ptrH,_⟩] a w:=hst
 refine za0 ?_
 refine za8 hst (zm 2 rfl) (fun hb0=>?_) (fun hb0=>?_)
 ·rw [zjl,ne0] at hb0
  refine wp_seq ?_
  refine gl (sts:=[none,some (2,_)]) (news:=[]) (sp:=[.val 10 _,.val 11 _,.sto 1,.val 3 _]) [.o 3] hst (zv rfl (zbb (xs:=[]) (qs:=[]) zb9 .nil) (zv rfl (za2 (gq 1 rfl)) (oc (zaf rfl rfl rfl (vq 0 rfl) zao (Eq.trans (b:=4) rfl rfl)) (zv rfl (za1 (vq 1 rfl)) o0)))) (fun a w hst=>?_)
  have hst:St B w0 14 [(3,_)] [⟨1,37,ptrH,_⟩,⟨2,37,ptrH,_⟩] a w:=hst
  refine za0 ?_
  refine wp_ret ?_
  refine zad ?_
  refine zai ?_ (zbi (rs:=[.cell 2 37,.tmp 3]) rfl hst (.cell (zm 1 rfl) zao (.tmp (zm 0 rfl) .nil)) zd)
  rw [ansF,if_pos hb0]; exact tu2w zb6 (zbv (by rw [zjl,hb0]; rfl))
 ·rw [zjl,ne0] at hb0
  refine wp_skip ?_
  refine zt<|gl (sts:=[none,some (2,_)]) (news:=[]) (sp:=[.val 12 _,.val 13 _,.sto 1,.val 3 _]) [.o 3] hst (zv rfl (zaq (lz0 0 rfl) zao) (zv rfl (za5 (xs:=[.tmp 12]) (copy_q zo) (.cons (vq 0 rfl) .nil)) (oc (zaf rfl rfl rfl (vq 1 rfl) zao (Eq.trans (b:=4) rfl rfl)) (zv rfl (za1 za3) o0)))) (fun a w hst=>?_)
  have hst:St B w0 14 [(3,_)] [⟨1,37,ptrH,_⟩,⟨2,37,ptrH,_⟩] a w:=hst
  refine za0 ?_
  refine wp_ret ?_
  refine zai ?_ (zbi (rs:=[.cell 2 37,.tmp 3]) rfl hst (.cell (zm 1 rfl) zao (.tmp (zm 0 rfl) .nil)) zd)
  rw [ansF,if_neg (by rw [hb0]; decide)]; exact tu2w rq_wk zb6
end Go.Proofs.YtlpppkkggljdcaaGreat
