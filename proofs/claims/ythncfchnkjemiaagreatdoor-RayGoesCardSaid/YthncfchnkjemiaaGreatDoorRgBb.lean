import Derived.Test.YthncfchnkjemiaaGreatDoorRgAa
import Derived.Test.YthncfchnkjemiaaGreatDoorRgAc
import Derived.Test.YthncfchnkjemiaaGreatDoorRgAm
import Derived.Test.YthncfchnkjemiaaGreatDoorRgAy
set_option linter.unusedVariables false
set_option linter.unusedSimpArgs false
set_option linter.unusedSectionVars false
set_option maxRecDepth 100000
namespace Go.Proofs.YthncfchnkjemiaaGreatDoor
open Go Go.RowKit
theorem ex_rTimes : ∃ fn, Tryz.prog.funcs[251]? = some fn ∧ (fn.name == "runtime.NumGoroutine") = false ∧ fn.body.isNone = false := ⟨_, Tryz.func251, by kernel_rfl, by kernel_rfl⟩
theorem ex_rPlus : ∃ fn, Tryz.prog.funcs[252]? = some fn ∧ (fn.name == "runtime.NumGoroutine") = false ∧ fn.body.isNone = false := ⟨_, Tryz.func252, by kernel_rfl, by kernel_rfl⟩
theorem ex_rMinus : ∃ fn, Tryz.prog.funcs[327]? = some fn ∧ (fn.name == "runtime.NumGoroutine") = false ∧ fn.body.isNone = false := ⟨_, Tryz.func327, by kernel_rfl, by kernel_rfl⟩
theorem ex_rDivide : ∃ fn, Tryz.prog.funcs[329]? = some fn ∧ (fn.name == "runtime.NumGoroutine") = false ∧ fn.body.isNone = false := ⟨_, Tryz.func329, by kernel_rfl, by kernel_rfl⟩
theorem ex_rSign : ∃ fn, Tryz.prog.funcs[297]? = some fn ∧ (fn.name == "runtime.NumGoroutine") = false ∧ fn.body.isNone = false := ⟨_, Tryz.func297, by kernel_rfl, by kernel_rfl⟩
theorem ex_r2turned : ∃ fn, Tryz.prog.funcs[298]? = some fn ∧ (fn.name == "runtime.NumGoroutine") = false ∧ fn.body.isNone = false := ⟨_, Tryz.func298, by kernel_rfl, by kernel_rfl⟩
theorem r2turnedZ_c (p:Int) (hp:lz p≤1000000000):Cn Tryz.prog 298 [Zi p] (Zi (-p)):=by
 refine Cn.intro Tryz.func298 rfl zk nq (fun B w0 a hst=>?_)
 have hst:St B w0 6 [(0,Zi p)] [] a w0.w:=hst
 refine wp_seq ?_
 refine gl (sts:=[]) (news:=[⟨1,24,ptrH,some 0,_,none⟩,⟨2,24,ptrH,some 1,_,none⟩]) (sp:=[.alc 0,.alc 1]) [] hst (oc (zai rfl rfl rfl (gq 0 rfl)) (oc (zau rfl rfl rfl (Str.zero zbm)) o0)) (fun a w hst=>?_)
 have hst:St B w0 6 [] [⟨1,24,ptrH,_⟩,⟨2,24,ptrH,_⟩] a w:=hst
 refine zt ?_
 refine zaw (anc:=[[],[],[0,1],[0,1,2]]) (sts:=[none,some (3,_)]) (news:=[]) (sp:=[.val 3 _,.val 4 _,.val 5 _,.sto 1]) [] za7 hst (zv rfl rfl (za5 (xs:=[.const (.int .i64 (0))]) (rof_c 0 zd zd) (.cons za3 .nil)) (zv rfl rfl (zac (lz0 0 rfl) zab) (zv rfl rfl (za5 (xs:=[.tmp 3,.tmp 4]) (rminusZ_c 0 p (by simp [lz,zbx]) hp) (.cons (vq 0 rfl) (.cons (vq 1 rfl) .nil))) (oc (zak rfl rfl rfl (vq 2 rfl) zab (Eq.trans (b:=2) rfl rfl)) o0)))) zk zk zk zk (fun a w hst=>?_)
 have hst:St B w0 6 [] [⟨1,24,ptrH,_⟩,⟨2,24,ptrH,_⟩] a w:=hst
 refine za0 ?_
 refine wp_ret ?_
 refine zan ?_ (zar rfl hst (zm 1 rfl) zab)
 exact zbv (congrArg Zi (Int.zero_sub p))
section
variable {a b:Nat} {p q:Int} (ha:a≤1000000000)
include ha
theorem zhv:Cn Tryz.prog 298 [Zs a p] (Zs a (-p)):=zs1 ex_r2turned fun h=>(r2turnedZ_c p zo).wkp (zge (by rw [zia]; exact h))
variable (hb:b≤1000000000)
include hb
theorem zf7:Cn Tryz.prog 251 [Zs a p,Zs b q] (Zs (a+b) (p*q)):=zs2 ex_rTimes fun h h'=>(rtimesZ_c p q zo zo).wkp (zge (by have:=lz_mul p q; omega))
theorem rplus_z:Cn Tryz.prog 252 [Zs a p,Zs b q] (Zs (max a b+1) (p+q)):=zs2 ex_rPlus fun h h'=>(rplusZ_c p q zo zo).wkp (zge (by have:=lz_add p q; omega))
theorem rminus_z:Cn Tryz.prog 327 [Zs a p,Zs b q] (Zs (max a b+1) (p - q)):=zs2 ex_rMinus fun h h'=>(rminusZ_c p q zo zo).wkp (zge (by have:=lz_sub p q; omega))
theorem rdivide_z (hq:q≠0):Cn Tryz.prog 329 [Zs a p,Zs b q] (Tu [Zs a (p.tdiv q),Zs b (p.tmod q)]):=zs2 ex_rDivide fun h h'=>(zkb p q hq zo zo).wkp (tu_wk (.cons (zge (by have:=zj8 p q; omega)) (.cons (zge (by have:=lz_tm (p:=p) hq; omega)) .nil)))
end
theorem rsign_z {a:Nat} {p:Int}:Cn Tryz.prog 297 [Zs a p] (In p.sign):=zs1 ex_rSign fun _=>(zj1 (riOf p)).post (by rw [ze7])
theorem rof_z {n:Int} (h0 : -9223372036854775808≤n) (h1:n<9223372036854775808):Cn Tryz.prog 253 [In n] (Zs 2 n):=(rof_c n h0 h1).wkp (zge (lz_le zo))
theorem lz_tmod1 {p q:Int} (h:q≠0) (hq:lz q≤1000000000):lz (p.tmod q)≤1000000000:=Nat.le_trans (lz_tm h) hq
theorem gcd_tmod {X Y:Int} (h:Y≠0):Int.gcd Y (X.tmod Y)=Int.gcd X Y:=by
 show Nat.gcd Y.natAbs (X.tmod Y).natAbs=Nat.gcd X.natAbs Y.natAbs
 rw [zh2,Nat.gcd_comm X.natAbs,Nat.gcd_comm,← Nat.gcd_rec]
theorem zj6 (p q:Int) (hp:lz p≤1000000000) (hq:lz q≤1000000000):Cn Tryz.prog 328 [Zi p,Zi q] (Zi ((Int.gcd p q:Nat):Int)):=by
 refine Cn.intro Tryz.func328 rfl zk nq (fun B w0 a hst=>?_)
 have hst:St B w0 33 [(0,Zi p),(1,Zi q)] [] a w0.w:=hst
 refine wp_seq ?_
 refine gl (sts:=[]) (news:=[⟨2,24,ptrH,some 0,_,none⟩,⟨3,24,ptrH,some 1,_,none⟩,⟨4,24,ptrH,some 2,_,none⟩]) (sp:=[.alc 0,.alc 1,.alc 2]) [] hst (oc (zai rfl rfl rfl (gq 0 rfl)) (oc (zai rfl rfl rfl (gq 1 rfl)) (oc (zau rfl rfl rfl (Str.zero zbm)) o0))) (fun a w hst=>?_)
 have hst:St B w0 33 [] [⟨2,24,ptrH,_⟩,⟨3,24,ptrH,_⟩,⟨4,24,ptrH,_⟩] a w:=hst
 refine zt ?_
 refine wp_seq ?_
 refine zaw (anc:=[[],[0],[],[0,1,2],[0,1,2,3]]) (sts:=[none,none,none]) (news:=[]) (sp:=[.val 7 _,.val 8 _,.val 9 _,.val 10 _,.val 11 _]) [.o 4] za7 hst (zv rfl rfl (zac (lz0 0 rfl) zab) (zv rfl rfl (za5 (xs:=[.tmp 7]) (rbits_c p hp) (.cons (vq 0 rfl) .nil)) (zv rfl rfl (zac (lz0 1 rfl) zab) (zv rfl rfl (za5 (xs:=[.tmp 9]) (rbits_c q hq) (.cons (vq 2 rfl) .nil)) (zv rfl rfl (zb7 (vq 1 rfl) (vq 3 rfl)) o0))))) zk zk zk zk (fun a w hst=>?_)
 have hst:St B w0 33 [(11,_)] [⟨2,24,ptrH,_⟩,⟨3,24,ptrH,_⟩,⟨4,24,ptrH,_⟩] a w:=hst
 refine za0 ?_
 refine zcs (fun a w=>∃ X Y:Int,(lz X≤1000000000∧lz Y≤1000000000∧Int.gcd X Y=Int.gcd p q)∧St B w0 33 [] [⟨2,24,ptrH,RIA (riOf X)⟩,⟨3,24,ptrH,RIA (riOf Y)⟩,⟨4,24,ptrH,cat [BoA false,MgA []]⟩] a w) hst (zm 0 rfl) (fun hb0=>?_) (fun hb0=>?_) (fun a w hst=>?_)
 ·refine gl (sts:=[some (2,_),some (3,_),none]) (news:=[]) (sp:=[.val 12 _,.val 13 _,.sto 0,.sto 1]) [] hst (zv rfl rfl (zac (lz0 1 rfl) zab) (zv rfl rfl (zac (lz0 0 rfl) zab) (oc (zak rfl rfl rfl (vq 0 rfl) zab (Eq.trans (b:=2) rfl rfl)) (oc (zak rfl rfl rfl (vq 1 rfl) zab (Eq.trans (b:=2) rfl rfl)) o0)))) (fun a w hst=>?_)
  have hst:St B w0 33 [] [⟨2,24,ptrH,_⟩,⟨3,24,ptrH,_⟩,⟨4,24,ptrH,_⟩] a w:=hst
  refine za0 ?_
  have hst:=St.sel hst []
  exact ⟨q,p,⟨hq,hp,Int.gcd_comm q p⟩,hst⟩
 ·refine wp_skip ?_
  refine za0 ?_
  have hst:=St.sel hst []
  exact ⟨p,q,⟨hp,hq,rfl⟩,hst⟩
 obtain ⟨X,Y,⟨hX,hY,hg⟩,hst⟩:=hst
 refine zt ?_
 refine wp_seq ?_
 refine gl (sts:=[none,none,none]) (news:=[]) (sp:=[.val 14 _,.val 15 _,.val 16 _]) [.o 2] hst (zv rfl rfl (zac (lz0 1 rfl) zab) (zv rfl rfl (za5 (xs:=[.tmp 14]) ((zj1 (riOf Y)).post (by rw [ze7])) (.cons (vq 0 rfl) .nil)) (zv rfl rfl (zdj (vq 1 rfl) za3) o0))) (fun a w hst=>?_)
 have hst:St B w0 33 [(16,_)] [⟨2,24,ptrH,_⟩,⟨3,24,ptrH,_⟩,⟨4,24,ptrH,_⟩] a w:=hst
 refine za0 ?_
 refine za8 hst (zm 0 rfl) (fun hb1=>?_) (fun hb1=>?_)
 ·refine wp_seq ?_
  refine gl (sts:=[none,none,some (3,_)]) (news:=[]) (sp:=[.val 17 _,.val 18 _,.val 19 _,.sto 2]) [] hst (zv rfl rfl (zac (lz0 0 rfl) zab) (zv rfl rfl (zac (lz0 1 rfl) zab) (zv rfl rfl (za5 (xs:=[.tmp 17,.tmp 18]) (zkc X Y hX hY) (.cons (vq 0 rfl) (.cons (vq 1 rfl) .nil))) (oc (zak rfl rfl rfl (vq 2 rfl) zab (Eq.trans (b:=2) rfl rfl)) o0)))) (fun a w hst=>?_)
  have hst:St B w0 33 [] [⟨2,24,ptrH,_⟩,⟨3,24,ptrH,_⟩,⟨4,24,ptrH,_⟩] a w:=hst
  refine za0 ?_
  refine wp_ret ?_
  refine zap ?_
  refine zan ?_ (zar rfl hst (zm 2 rfl) zab)
  exact zbv (congrArg (fun n:Nat=>Zi (n:Int)) hg)
 ·have hY0:Y≠0:=fun e=>by rw [e] at hb1; exact absurd hb1 zd
  refine wp_skip ?_
  refine zt ?_
  refine gl (sts:=[none,none,none]) (news:=[⟨5,24,ptrH,some 6,_,some (8,_)⟩,⟨6,24,ptrH,some 7,_,some (9,_)⟩]) (sp:=[.val 21 _,.val 22 _,.val 23 _,.val 20 _,.val 24 _,.val 25 _,.alc 3,.alc 4,.sto 3,.sto 4]) [] hst (zv rfl rfl (zac (lz0 0 rfl) zab) (zv rfl rfl (zac (lz0 1 rfl) zab) (zv rfl rfl (za5 (xs:=[.tmp 21,.tmp 22]) (zkb X Y hY0 hX hY) (.cons (vq 0 rfl) (.cons (vq 1 rfl) .nil))) (zv rfl rfl (za2 (vq 2 rfl)) (zv rfl rfl (zb4 (vq 3 rfl) rfl) (zv rfl rfl (zb4 (vq 3 rfl) rfl) (oc (zau rfl rfl rfl (Str.zero zbm)) (oc (zau rfl rfl rfl (Str.zero zbm)) (oc (zak rfl rfl rfl (vq 4 rfl) zab (Eq.trans (b:=2) rfl rfl)) (oc (zak rfl rfl rfl (vq 5 rfl) zab (Eq.trans (b:=2) rfl rfl)) o0)))))))))) (fun a w hst=>?_)
  have hst:St B w0 33 [] [⟨2,24,ptrH,_⟩,⟨3,24,ptrH,_⟩,⟨4,24,ptrH,_⟩,⟨5,24,ptrH,_⟩,⟨6,24,ptrH,_⟩] a w:=hst
  refine zt ?_
  refine wp_seq ?_
  refine gl (sts:=[none,none,none,none,none]) (news:=[]) (sp:=[.val 26 _,.val 27 _,.val 28 _]) [.o 2] hst (zv rfl rfl (zac (lz0 1 rfl) zab) (zv rfl rfl (za5 (xs:=[.tmp 26]) (rbits_c Y hY) (.cons (vq 0 rfl) .nil)) (zv rfl rfl (zdj (vq 1 rfl) za3) o0))) (fun a w hst=>?_)
  have hst:St B w0 33 [(28,_)] [⟨2,24,ptrH,_⟩,⟨3,24,ptrH,_⟩,⟨4,24,ptrH,_⟩,⟨5,24,ptrH,_⟩,⟨6,24,ptrH,_⟩] a w:=hst
  refine za0 ?_
  refine za8 hst (zm 0 rfl) (fun hb2=>?_) (fun hb2=>?_)
  ·have h1:Y.natAbs=1:=bitF_one (by have:=beq_iff_eq.1 hb2; omega)
   refine wp_seq ?_
   refine gl (sts:=[none,none,some (1,_),none,none]) (news:=[]) (sp:=[.val 29 _,.sto 2]) [] hst (zv rfl rfl (za5 (xs:=[.const (.int .i64 (1))]) (rof_c 1 zd zd) (.cons za3 .nil)) (oc (zak rfl rfl rfl (vq 0 rfl) zab (Eq.trans (b:=2) rfl rfl)) o0)) (fun a w hst=>?_)
   have hst:St B w0 33 [] [⟨2,24,ptrH,_⟩,⟨3,24,ptrH,_⟩,⟨4,24,ptrH,_⟩,⟨5,24,ptrH,_⟩,⟨6,24,ptrH,_⟩] a w:=hst
   refine za0 ?_
   refine wp_ret ?_
   refine zap ?_
   refine zan ?_ (zar rfl hst (zm 2 rfl) zab)
   exact zbv (congrArg (fun n:Nat=>Zi (n:Int)) (show 1=Int.gcd p q by rw [← hg]; show 1=Nat.gcd X.natAbs Y.natAbs; rw [h1,Nat.gcd_one_right]))
  ·refine wp_skip ?_
   refine zt ?_
   refine gl (sts:=[none,none,some (3,_),none,none]) (news:=[]) (sp:=[.val 30 _,.val 31 _,.val 32 _,.sto 2]) [] hst (zv rfl rfl (zac (lz0 1 rfl) zab) (zv rfl rfl (zac (lz0 4 rfl) zab) (zv rfl rfl (za5 (xs:=[.tmp 30,.tmp 31]) (zkc Y (X.tmod Y) hY (lz_tmod1 hY0 hY)) (.cons (vq 0 rfl) (.cons (vq 1 rfl) .nil))) (oc (zak rfl rfl rfl (vq 2 rfl) zab (Eq.trans (b:=2) rfl rfl)) o0)))) (fun a w hst=>?_)
   have hst:St B w0 33 [] [⟨2,24,ptrH,_⟩,⟨3,24,ptrH,_⟩,⟨4,24,ptrH,_⟩,⟨5,24,ptrH,_⟩,⟨6,24,ptrH,_⟩] a w:=hst
   refine za0 ?_
   refine wp_ret ?_
   refine zan ?_ (zar rfl hst (zm 2 rfl) zab)
   exact zbv (congrArg (fun n:Nat=>Zi (n:Int)) ((gcd_tmod hY0).trans hg))
theorem ex_r2common : ∃ fn, Tryz.prog.funcs[328]? = some fn ∧ (fn.name == "runtime.NumGoroutine") = false ∧ fn.body.isNone = false := ⟨_, Tryz.func328, by kernel_rfl, by kernel_rfl⟩
theorem r2common_z {a b:Nat} {p q:Int} (ha:a≤1000000000) (hb:b≤1000000000):Cn Tryz.prog 328 [Zs a p,Zs b q] (Zs (max a b) ((Int.gcd p q:Nat):Int)):=zs2 ex_r2common fun h h'=>(zj6 p q zo zo).wkp (zge (by have:=lz_gcd p q; omega))
theorem zhw {c d:Nat} {p q:Int} (hc:c≤1000000000) (hd:d≤1000000000) (hq:q≠0):Cn Tryz.prog 250 [Zs c p,Zs d q] (Qs (max c d) (Rat.divInt p q)):=by
 have hg0:0<Int.gcd p q:=Int.gcd_pos_of_ne_zero_right p hq
 obtain ⟨hn1,hn2⟩:=low_num (p:=p) hq
 refine Cn.intro Tryz.func250 rfl zk nq (fun B w0 a hst=>?_)
 have hst:St B w0 36 [(0,Zs c p),(1,Zs d q)] [] a w0.w:=hst
 refine wp_seq ?_
 refine gl (sts:=[]) (news:=[⟨2,24,ptrH,some 0,_,none⟩,⟨3,24,ptrH,some 1,_,none⟩,⟨4,26,ptrH,some 2,_,none⟩]) (sp:=[.alc 0,.alc 1,.alc 2]) [] hst (oc (zai rfl rfl rfl (gq 0 rfl)) (oc (zai rfl rfl rfl (gq 1 rfl)) (oc (zau rfl rfl rfl (Str.zero zb5)) o0))) (fun a w hst=>?_)
 have hst:St B w0 36 [] [⟨2,24,ptrH,_⟩,⟨3,24,ptrH,_⟩,⟨4,26,ptrH,_⟩] a w:=hst
 refine zt ?_
 refine gl (sts:=[none,none,none]) (news:=[⟨5,24,ptrH,some 3,_,some (4,_)⟩]) (sp:=[.val 10 _,.val 11 _,.val 12 _,.alc 3,.sto 3]) [] hst (zv rfl rfl (zac (lz0 0 rfl) zab) (zv rfl rfl (zac (lz0 1 rfl) zab) (zv rfl rfl (za5 (xs:=[.tmp 10,.tmp 11]) (r2common_z zo zo) (.cons (vq 0 rfl) (.cons (vq 1 rfl) .nil))) (oc (zau rfl rfl rfl (Str.zero zbm)) (oc (zak rfl rfl rfl (vq 2 rfl) zab (Eq.trans (b:=2) rfl rfl)) o0))))) (fun a w hst=>?_)
 have hst:St B w0 36 [] [⟨2,24,ptrH,_⟩,⟨3,24,ptrH,_⟩,⟨4,26,ptrH,_⟩,⟨5,24,ptrH,_⟩] a w:=hst
 refine zt ?_
 refine gl (sts:=[none,none,none,none]) (news:=[⟨6,24,ptrH,some 6,_,some (8,_)⟩,⟨7,24,ptrH,some 7,_,some (9,_)⟩]) (sp:=[.val 14 _,.val 15 _,.val 16 _,.val 13 _,.val 17 _,.val 18 _,.alc 4,.alc 5,.sto 4,.sto 5]) [] hst (zv rfl rfl (zac (lz0 0 rfl) zab) (zv rfl rfl (zac (lz0 3 rfl) zab) (zv rfl rfl (za5 (xs:=[.tmp 14,.tmp 15]) (rdivide_z zo zo zo) (.cons (vq 0 rfl) (.cons (vq 1 rfl) .nil))) (zv rfl rfl (za2 (vq 2 rfl)) (zv rfl rfl (zb4 (vq 3 rfl) rfl) (zv rfl rfl (zb4 (vq 3 rfl) rfl) (oc (zau rfl rfl rfl (Str.zero zbm)) (oc (zau rfl rfl rfl (Str.zero zbm)) (oc (zak rfl rfl rfl (vq 4 rfl) zab (Eq.trans (b:=2) rfl rfl)) (oc (zak rfl rfl rfl (vq 5 rfl) zab (Eq.trans (b:=2) rfl rfl)) o0)))))))))) (fun a w hst=>?_)
 have hst:St B w0 36 [] [⟨2,24,ptrH,_⟩,⟨3,24,ptrH,_⟩,⟨4,26,ptrH,_⟩,⟨5,24,ptrH,_⟩,⟨6,24,ptrH,_⟩,⟨7,24,ptrH,_⟩] a w:=hst
 refine zt ?_
 refine gl (sts:=[none,none,none,none,none,none]) (news:=[⟨8,24,ptrH,some 6,_,some (8,_)⟩,⟨9,24,ptrH,some 7,_,some (9,_)⟩]) (sp:=[.val 20 _,.val 21 _,.val 22 _,.val 19 _,.val 23 _,.val 24 _,.alc 6,.alc 7,.sto 6,.sto 7]) [] hst (zv rfl rfl (zac (lz0 1 rfl) zab) (zv rfl rfl (zac (lz0 3 rfl) zab) (zv rfl rfl (za5 (xs:=[.tmp 20,.tmp 21]) (rdivide_z zo zo zo) (.cons (vq 0 rfl) (.cons (vq 1 rfl) .nil))) (zv rfl rfl (za2 (vq 2 rfl)) (zv rfl rfl (zb4 (vq 3 rfl) rfl) (zv rfl rfl (zb4 (vq 3 rfl) rfl) (oc (zau rfl rfl rfl (Str.zero zbm)) (oc (zau rfl rfl rfl (Str.zero zbm)) (oc (zak rfl rfl rfl (vq 4 rfl) zab (Eq.trans (b:=2) rfl rfl)) (oc (zak rfl rfl rfl (vq 5 rfl) zab (Eq.trans (b:=2) rfl rfl)) o0)))))))))) (fun a w hst=>?_)
 have hst:St B w0 36 [] [⟨2,24,ptrH,_⟩,⟨3,24,ptrH,_⟩,⟨4,26,ptrH,_⟩,⟨5,24,ptrH,_⟩,⟨6,24,ptrH,_⟩,⟨7,24,ptrH,_⟩,⟨8,24,ptrH,_⟩,⟨9,24,ptrH,_⟩] a w:=hst
 refine zt ?_
 refine wp_seq ?_
 refine gl (sts:=[none,none,none,none,none,none,none,none]) (news:=[]) (sp:=[.val 25 _,.val 26 _,.val 27 _]) [.o 2] hst (zv rfl rfl (zac (lz0 6 rfl) zab) (zv rfl rfl (za5 (xs:=[.tmp 25]) rsign_z (.cons (vq 0 rfl) .nil)) (zv rfl rfl (zb7 (vq 1 rfl) za3) o0))) (fun a w hst=>?_)
 have hst:St B w0 36 [(27,_)] [⟨2,24,ptrH,_⟩,⟨3,24,ptrH,_⟩,⟨4,26,ptrH,_⟩,⟨5,24,ptrH,_⟩,⟨6,24,ptrH,_⟩,⟨7,24,ptrH,_⟩,⟨8,24,ptrH,_⟩,⟨9,24,ptrH,_⟩] a w:=hst
 refine za0 ?_
 refine za8 hst (zm 0 rfl) (fun hb0=>?_) (fun hb0=>?_)
 ·refine wp_seq ?_
  refine zaw (anc:=[[],[0],[],[0,1,2],[0,1,2,3],[0,1,2,3,4]]) (sts:=[none,none,some (5,_),none,none,none,none,none]) (news:=[]) (sp:=[.val 28 _,.val 29 _,.val 30 _,.val 31 _,.val 32 _,.sto 2]) [] za7 hst (zv rfl rfl (zac (lz0 4 rfl) zab) (zv rfl rfl (za5 (xs:=[.tmp 28]) (zhv zo) (.cons (vq 0 rfl) .nil)) (zv rfl rfl (zac (lz0 6 rfl) zab) (zv rfl rfl (za5 (xs:=[.tmp 30]) (zhv zo) (.cons (vq 2 rfl) .nil)) (zv rfl rfl (zbd (xs:=[(0,.tmp 29),(1,.tmp 31)]) (qs:=[(0,_),(1,_)]) zb5 (.cons ⟨rfl,(vq 1 rfl),rfl⟩ (.cons ⟨rfl,(vq 3 rfl),rfl⟩ .nil))) (oc (zak rfl rfl rfl (vq 4 rfl) zag (Eq.trans (b:=4) rfl rfl)) o0)))))) zk zk zk zk (fun a w hst=>?_)
  have hst:St B w0 36 [] [⟨2,24,ptrH,_⟩,⟨3,24,ptrH,_⟩,⟨4,26,ptrH,_⟩,⟨5,24,ptrH,_⟩,⟨6,24,ptrH,_⟩,⟨7,24,ptrH,_⟩,⟨8,24,ptrH,_⟩,⟨9,24,ptrH,_⟩] a w:=hst
  refine za0 ?_
  refine wp_ret ?_
  refine zap ?_
  refine zan ?_ (zar rfl hst (zm 2 rfl) zag)
  rw [if_pos (sgn_yes hb0)] at hn1 hn2; rw [hn1,hn2]; exact (zc0 (.cons (zfl (Nat.le_max_left _ _)) (.cons (zfl (Nat.le_max_right _ _)) .nil))).va
 ·refine wp_skip ?_
  refine zt ?_
  refine gl (sts:=[none,none,some (3,_),none,none,none,none,none]) (news:=[]) (sp:=[.val 33 _,.val 34 _,.val 35 _,.sto 2]) [] hst (zv rfl rfl (zac (lz0 4 rfl) zab) (zv rfl rfl (zac (lz0 6 rfl) zab) (zv rfl rfl (zbd (xs:=[(0,.tmp 33),(1,.tmp 34)]) (qs:=[(0,_),(1,_)]) zb5 (.cons ⟨rfl,(vq 0 rfl),rfl⟩ (.cons ⟨rfl,(vq 1 rfl),rfl⟩ .nil))) (oc (zak rfl rfl rfl (vq 2 rfl) zag (Eq.trans (b:=4) rfl rfl)) o0)))) (fun a w hst=>?_)
  have hst:St B w0 36 [] [⟨2,24,ptrH,_⟩,⟨3,24,ptrH,_⟩,⟨4,26,ptrH,_⟩,⟨5,24,ptrH,_⟩,⟨6,24,ptrH,_⟩,⟨7,24,ptrH,_⟩,⟨8,24,ptrH,_⟩,⟨9,24,ptrH,_⟩] a w:=hst
  refine za0 ?_
  refine wp_ret ?_
  refine zan ?_ (zar rfl hst (zm 2 rfl) zag)
  rw [if_neg (sgn_no hb0)] at hn1 hn2; rw [hn1,hn2]; exact (zc0 (.cons (zfl (Nat.le_max_left _ _)) (.cons (zfl (Nat.le_max_right _ _)) .nil))).va
theorem r2small_q {p q:Int} (hp : -9223372036854775808≤p) (hp1:p<9223372036854775808) (hq : -9223372036854775808≤q) (hq1:q<9223372036854775808) (h0:q≠0):Cn Tryz.prog 102 [In p,In q] (Qs 2 (Rat.divInt p q)):=by
 refine Cn.intro Tryz.func102 rfl zk nq (fun B w0 a hst=>?_)
 have hst:St B w0 10 [(0,In p),(1,In q)] [] a w0.w:=hst
 refine wp_seq ?_
 refine gl (sts:=[]) (news:=[⟨4,26,ptrH,some 0,_,none⟩]) (sp:=[.alc 0]) [.g 0,.g 1] hst (oc (zau rfl rfl rfl (Str.zero zb5)) o0) (fun a w hst=>?_)
 have hst:St B w0 10 [(0,_),(1,_)] [⟨4,26,ptrH,_⟩] a w:=hst
 refine zt ?_
 refine gl (sts:=[some (5,_)]) (news:=[]) (sp:=[.val 5 _,.val 6 _,.val 7 _,.val 8 _,.val 9 _,.sto 0]) [] hst (zv rfl rfl (za2 (gq 0 rfl)) (zv rfl rfl (za5 (xs:=[.tmp 5]) (rof_z hp hp1) (.cons (vq 0 rfl) .nil)) (zv rfl rfl (za2 (gq 1 rfl)) (zv rfl rfl (za5 (xs:=[.tmp 7]) (rof_z hq hq1) (.cons (vq 2 rfl) .nil)) (zv rfl rfl (za5 (xs:=[.tmp 6,.tmp 8]) (zhw zo zo h0) (.cons (vq 1 rfl) (.cons (vq 3 rfl) .nil))) (oc (zak rfl rfl rfl (vq 4 rfl) zag (Eq.trans (b:=4) rfl rfl)) o0)))))) (fun a w hst=>?_)
 have hst:St B w0 10 [] [⟨4,26,ptrH,_⟩] a w:=hst
 refine za0 ?_
 refine wp_ret ?_
 refine zan ?_ (zar rfl hst (zm 0 rfl) zag)
 exact zbs
theorem r2one_q  : Cn Tryz.prog 168 [] (Qs 2 1):=by
 refine Cn.intro Tryz.func168 rfl zk nq (fun B w0 a hst=>?_)
 have hst:St B w0 2 [] [] a w0.w:=hst
 refine wp_seq ?_
 refine gl (sts:=[]) (news:=[⟨0,26,ptrH,some 0,_,none⟩]) (sp:=[.alc 0]) [] hst (oc (zau rfl rfl rfl (Str.zero zb5)) o0) (fun a w hst=>?_)
 have hst:St B w0 2 [] [⟨0,26,ptrH,_⟩] a w:=hst
 refine zt ?_
 refine gl (sts:=[some (1,_)]) (news:=[]) (sp:=[.val 1 _,.sto 0]) [] hst (zv rfl rfl (za5 (xs:=[.const (.int .i64 (1)),.const (.int .i64 (1))]) (r2small_q zd zd zd zd zd) (.cons za3 (.cons za3 .nil))) (oc (zak rfl rfl rfl (vq 0 rfl) zag (Eq.trans (b:=4) rfl rfl)) o0)) (fun a w hst=>?_)
 have hst:St B w0 2 [] [⟨0,26,ptrH,_⟩] a w:=hst
 refine za0 ?_
 refine wp_ret ?_
 refine zan ?_ (zar rfl hst (zm 0 rfl) zag)
 exact zbv (congrArg (Qs 2) (show Rat.divInt 1 1=1 from rfl))
theorem r2plus_q {c d:Nat} {x y:Rat} (hc:c+d≤900000000):Cn Tryz.prog 101 [Qs c x,Qs d y] (Qs (c+d+1) (x+y)):=by
 refine Cn.intro Tryz.func101 rfl zk nq (fun B w0 a hst=>?_)
 have hst:St B w0 24 [(0,Qs c x),(1,Qs d y)] [] a w0.w:=hst
 refine wp_seq ?_
 refine gl (sts:=[]) (news:=[⟨2,26,ptrH,some 0,_,none⟩,⟨3,26,ptrH,some 1,_,none⟩,⟨4,26,ptrH,some 2,_,none⟩]) (sp:=[.alc 0,.alc 1,.alc 2]) [] hst (oc (zai rfl rfl rfl (gq 0 rfl)) (oc (zai rfl rfl rfl (gq 1 rfl)) (oc (zau rfl rfl rfl (Str.zero zb5)) o0))) (fun a w hst=>?_)
 have hst:St B w0 24 [] [⟨2,26,ptrH,_⟩,⟨3,26,ptrH,_⟩,⟨4,26,ptrH,_⟩] a w:=hst
 refine zt ?_
 refine zaw (anc:=[[],[0],[],[2],[0,1,2,3],[],[5],[],[7],[0,1,2,3,4,5,6,7,8],[0,1,2,3,4,5,6,7,8,9],[],[0,1,2,3,4,5,6,7,8,9,10,11]]) (sts:=[none,none,none]) (news:=[⟨5,24,ptrH,some 11,_,some (12,_)⟩]) (sp:=[.adr 6 2 (.some 0) True,.val 7 _,.adr 8 3 (.some 2) True,.val 9 _,.val 10 _,.adr 11 3 (.some 0) True,.val 12 _,.adr 13 2 (.some 2) True,.val 14 _,.val 15 _,.val 16 _,.alc 3,.sto 3]) [] za7 hst (oc (ob_a rfl rfl (za9 (lz0 0 rfl) zbh)) (zv rfl rfl (za4 0 rfl zk trivial (lz0 0 rfl) (Sub.part 0 rfl rfl) zab) (oc (ob_a rfl rfl (za9 (lz0 1 rfl) zb3)) (zv rfl rfl (za4 2 rfl zk trivial (lz0 1 rfl) (Sub.part 1 rfl rfl) zab) (zv rfl rfl (za5 (xs:=[.tmp 7,.tmp 9]) (zf7 zo zo) (.cons (vq 1 rfl) (.cons (vq 3 rfl) .nil))) (oc (ob_a rfl rfl (za9 (lz0 1 rfl) zbh)) (zv rfl rfl (za4 5 rfl zk trivial (lz0 1 rfl) (Sub.part 0 rfl rfl) zab) (oc (ob_a rfl rfl (za9 (lz0 0 rfl) zb3)) (zv rfl rfl (za4 7 rfl zk trivial (lz0 0 rfl) (Sub.part 1 rfl rfl) zab) (zv rfl rfl (za5 (xs:=[.tmp 12,.tmp 14]) (zf7 zo zo) (.cons (vq 6 rfl) (.cons (vq 8 rfl) .nil))) (zv rfl rfl (za5 (xs:=[.tmp 10,.tmp 15]) (rplus_z zo zo) (.cons (vq 4 rfl) (.cons (vq 9 rfl) .nil))) (oc (zau rfl rfl rfl (Str.zero zbm)) (oc (zak rfl rfl rfl (vq 10 rfl) zab (Eq.trans (b:=2) rfl rfl)) o0))))))))))))) zk zk zk zk (fun a w hst=>?_)
 have hst:St B w0 24 [] [⟨2,26,ptrH,_⟩,⟨3,26,ptrH,_⟩,⟨4,26,ptrH,_⟩,⟨5,24,ptrH,_⟩] a w:=hst
 refine zt ?_
 refine zaw (anc:=[[],[],[1],[],[3],[1,2,3,4],[0,1,2,3,4,5],[0,1,2,3,4,5,6]]) (sts:=[none,none,some (7,_),none]) (news:=[]) (sp:=[.val 17 _,.adr 18 2 (.some 2) True,.val 19 _,.adr 20 3 (.some 2) True,.val 21 _,.val 22 _,.val 23 _,.sto 2]) [] za7 hst (zv rfl rfl (zac (lz0 3 rfl) zab) (oc (ob_a rfl rfl (za9 (lz0 0 rfl) zb3)) (zv rfl rfl (za4 1 rfl zk trivial (lz0 0 rfl) (Sub.part 1 rfl rfl) zab) (oc (ob_a rfl rfl (za9 (lz0 1 rfl) zb3)) (zv rfl rfl (za4 3 rfl zk trivial (lz0 1 rfl) (Sub.part 1 rfl rfl) zab) (zv rfl rfl (za5 (xs:=[.tmp 19,.tmp 21]) (zf7 zo zo) (.cons (vq 2 rfl) (.cons (vq 4 rfl) .nil))) (zv rfl rfl (za5 (xs:=[.tmp 17,.tmp 22]) (zhw zo zo (zjr x y)) (.cons (vq 0 rfl) (.cons (vq 5 rfl) .nil))) (oc (zak rfl rfl rfl (vq 6 rfl) zag (Eq.trans (b:=4) rfl rfl)) o0)))))))) zk zk zk zk (fun a w hst=>?_)
 have hst:St B w0 24 [] [⟨2,26,ptrH,_⟩,⟨3,26,ptrH,_⟩,⟨4,26,ptrH,_⟩,⟨5,24,ptrH,_⟩] a w:=hst
 refine za0 ?_
 refine wp_ret ?_
 refine zan ?_ (zar rfl hst (zm 2 rfl) zag)
 exact zci (zbv (congrArg (Qs _) (rat_add x y))) (zj7 zo).va
theorem zh0 {c d:Nat} {x y:Rat} (hc:c+d≤900000000):Cn Tryz.prog 100 [Qs c x,Qs d y] (Qs (c+d) (x*y)):=by
 refine Cn.intro Tryz.func100 rfl zk nq (fun B w0 a hst=>?_)
 have hst:St B w0 16 [(0,Qs c x),(1,Qs d y)] [] a w0.w:=hst
 refine wp_seq ?_
 refine gl (sts:=[]) (news:=[⟨2,26,ptrH,some 0,_,none⟩,⟨3,26,ptrH,some 1,_,none⟩,⟨4,26,ptrH,some 2,_,none⟩]) (sp:=[.alc 0,.alc 1,.alc 2]) [] hst (oc (zai rfl rfl rfl (gq 0 rfl)) (oc (zai rfl rfl rfl (gq 1 rfl)) (oc (zau rfl rfl rfl (Str.zero zb5)) o0))) (fun a w hst=>?_)
 have hst:St B w0 16 [] [⟨2,26,ptrH,_⟩,⟨3,26,ptrH,_⟩,⟨4,26,ptrH,_⟩] a w:=hst
 refine zt ?_
 refine zaw (anc:=[[],[0],[],[2],[0,1,2,3],[],[5],[],[7],[0,1,2,3,4,5,6,7,8],[0,1,2,3,4,5,6,7,8,9],[0,1,2,3,4,5,6,7,8,9,10]]) (sts:=[none,none,some (11,_)]) (news:=[]) (sp:=[.adr 5 2 (.some 0) True,.val 6 _,.adr 7 3 (.some 0) True,.val 8 _,.val 9 _,.adr 10 2 (.some 2) True,.val 11 _,.adr 12 3 (.some 2) True,.val 13 _,.val 14 _,.val 15 _,.sto 2]) [] za7 hst (oc (ob_a rfl rfl (za9 (lz0 0 rfl) zbh)) (zv rfl rfl (za4 0 rfl zk trivial (lz0 0 rfl) (Sub.part 0 rfl rfl) zab) (oc (ob_a rfl rfl (za9 (lz0 1 rfl) zbh)) (zv rfl rfl (za4 2 rfl zk trivial (lz0 1 rfl) (Sub.part 0 rfl rfl) zab) (zv rfl rfl (za5 (xs:=[.tmp 6,.tmp 8]) (zf7 zo zo) (.cons (vq 1 rfl) (.cons (vq 3 rfl) .nil))) (oc (ob_a rfl rfl (za9 (lz0 0 rfl) zb3)) (zv rfl rfl (za4 5 rfl zk trivial (lz0 0 rfl) (Sub.part 1 rfl rfl) zab) (oc (ob_a rfl rfl (za9 (lz0 1 rfl) zb3)) (zv rfl rfl (za4 7 rfl zk trivial (lz0 1 rfl) (Sub.part 1 rfl rfl) zab) (zv rfl rfl (za5 (xs:=[.tmp 11,.tmp 13]) (zf7 zo zo) (.cons (vq 6 rfl) (.cons (vq 8 rfl) .nil))) (zv rfl rfl (za5 (xs:=[.tmp 9,.tmp 14]) (zhw zo zo (zjr x y)) (.cons (vq 4 rfl) (.cons (vq 9 rfl) .nil))) (oc (zak rfl rfl rfl (vq 10 rfl) zag (Eq.trans (b:=4) rfl rfl)) o0)))))))))))) zk zk zk zk (fun a w hst=>?_)
 have hst:St B w0 16 [] [⟨2,26,ptrH,_⟩,⟨3,26,ptrH,_⟩,⟨4,26,ptrH,_⟩] a w:=hst
 refine za0 ?_
 refine wp_ret ?_
 refine zan ?_ (zar rfl hst (zm 2 rfl) zag)
 exact zci (zbv (congrArg (Qs _) (rat_mul x y))) (zj7 zo).va
theorem neg_wk {c:Nat} {x:Rat}:WkA (cat [ZA c (-x.num),ZA c (x.den:Int)]) (QA c (-x)):=wkA_eq (by unfold QA; rw [Rat.neg_num,Rat.neg_den])
theorem r2turned_q {c:Nat} {x:Rat} (hc:c≤900000000):Cn Tryz.prog 167 [Qs c x] (Qs c (-x)):=by
 refine Cn.intro Tryz.func167 rfl zk nq (fun B w0 a hst=>?_)
 have hst:St B w0 9 [(0,Qs c x)] [] a w0.w:=hst
 refine wp_seq ?_
 refine gl (sts:=[]) (news:=[⟨1,26,ptrH,some 0,_,none⟩,⟨2,26,ptrH,some 1,_,none⟩]) (sp:=[.alc 0,.alc 1]) [] hst (oc (zai rfl rfl rfl (gq 0 rfl)) (oc (zau rfl rfl rfl (Str.zero zb5)) o0)) (fun a w hst=>?_)
 have hst:St B w0 9 [] [⟨1,26,ptrH,_⟩,⟨2,26,ptrH,_⟩] a w:=hst
 refine zt ?_
 refine zaw (anc:=[[],[0],[0,1],[],[3],[0,1,2,3,4],[0,1,2,3,4,5]]) (sts:=[none,some (6,_)]) (news:=[]) (sp:=[.adr 3 1 (.some 0) True,.val 4 _,.val 5 _,.adr 6 1 (.some 2) True,.val 7 _,.val 8 _,.sto 1]) [] za7 hst (oc (ob_a rfl rfl (za9 (lz0 0 rfl) zbh)) (zv rfl rfl (za4 0 rfl zk trivial (lz0 0 rfl) (Sub.part 0 rfl rfl) zab) (zv rfl rfl (za5 (xs:=[.tmp 4]) (zhv zo) (.cons (vq 1 rfl) .nil)) (oc (ob_a rfl rfl (za9 (lz0 0 rfl) zb3)) (zv rfl rfl (za4 3 rfl zk trivial (lz0 0 rfl) (Sub.part 1 rfl rfl) zab) (zv rfl rfl (zbd (xs:=[(0,.tmp 5),(1,.tmp 7)]) (qs:=[(0,_),(1,_)]) zb5 (.cons ⟨rfl,(vq 2 rfl),rfl⟩ (.cons ⟨rfl,(vq 4 rfl),rfl⟩ .nil))) (oc (zak rfl rfl rfl (vq 5 rfl) zag (Eq.trans (b:=4) rfl rfl)) o0))))))) zk zk zk zk (fun a w hst=>?_)
 have hst:St B w0 9 [] [⟨1,26,ptrH,_⟩,⟨2,26,ptrH,_⟩] a w:=hst
 refine za0 ?_
 refine wp_ret ?_
 refine zan ?_ (zar rfl hst (zm 1 rfl) zag)
 exact neg_wk.va
theorem r2minus_q {c d:Nat} {x y:Rat} (hc:c+d≤900000000):Cn Tryz.prog 104 [Qs c x,Qs d y] (Qs (c+d+1) (x - y)):=by
 refine Cn.intro Tryz.func104 rfl zk nq (fun B w0 a hst=>?_)
 have hst:St B w0 9 [(0,Qs c x),(1,Qs d y)] [] a w0.w:=hst
 refine wp_seq ?_
 refine gl (sts:=[]) (news:=[⟨2,26,ptrH,some 0,_,none⟩,⟨3,26,ptrH,some 1,_,none⟩,⟨4,26,ptrH,some 2,_,none⟩]) (sp:=[.alc 0,.alc 1,.alc 2]) [] hst (oc (zai rfl rfl rfl (gq 0 rfl)) (oc (zai rfl rfl rfl (gq 1 rfl)) (oc (zau rfl rfl rfl (Str.zero zb5)) o0))) (fun a w hst=>?_)
 have hst:St B w0 9 [] [⟨2,26,ptrH,_⟩,⟨3,26,ptrH,_⟩,⟨4,26,ptrH,_⟩] a w:=hst
 refine zt ?_
 refine zaw (anc:=[[],[],[1],[0,1,2],[0,1,2,3]]) (sts:=[none,none,some (4,_)]) (news:=[]) (sp:=[.val 5 _,.val 6 _,.val 7 _,.val 8 _,.sto 2]) [] za7 hst (zv rfl rfl (zac (lz0 0 rfl) zag) (zv rfl rfl (zac (lz0 1 rfl) zag) (zv rfl rfl (za5 (xs:=[.tmp 6]) (r2turned_q zo) (.cons (vq 1 rfl) .nil)) (zv rfl rfl (za5 (xs:=[.tmp 5,.tmp 7]) (r2plus_q zo) (.cons (vq 0 rfl) (.cons (vq 2 rfl) .nil))) (oc (zak rfl rfl rfl (vq 3 rfl) zag (Eq.trans (b:=4) rfl rfl)) o0))))) zk zk zk zk (fun a w hst=>?_)
 have hst:St B w0 9 [] [⟨2,26,ptrH,_⟩,⟨3,26,ptrH,_⟩,⟨4,26,ptrH,_⟩] a w:=hst
 refine za0 ?_
 refine wp_ret ?_
 refine zan ?_ (zar rfl hst (zm 2 rfl) zag)
 exact zbv (congrArg (Qs _) (show x + -y=x - y by grind))
theorem cm_sgn (x y:Rat):(x.num*(y.den:Int) - y.num*(x.den:Int)).sign=cmQ x y:=by
 rw [← cm_sg,ziy]
 unfold sg3
 generalize x.num*(y.den:Int)=u
 generalize y.num*(x.den:Int)=v
 by_cases h1:u<v
 ·rw [if_pos zo,if_pos h1]
 ·by_cases h2:v<u
  ·rw [if_neg zo,if_neg zo,if_neg h1,if_pos h2]
  ·rw [if_neg zo,if_pos zo,if_neg h1,if_neg h2]
theorem r2cmp_q {c d:Nat} {x y:Rat} (hc:c+d≤900000000):Cn Tryz.prog 248 [Qs c x,Qs d y] (In (cmQ x y)):=by
 refine Cn.intro Tryz.func248 rfl zk nq (fun B w0 a hst=>?_)
 have hst:St B w0 19 [(0,Qs c x),(1,Qs d y)] [] a w0.w:=hst
 refine wp_seq ?_
 refine gl (sts:=[]) (news:=[⟨2,26,ptrH,some 0,_,none⟩,⟨3,26,ptrH,some 1,_,none⟩]) (sp:=[.alc 0,.alc 1,.val 4 _]) [.o 2] hst (oc (zai rfl rfl rfl (gq 0 rfl)) (oc (zai rfl rfl rfl (gq 1 rfl)) (zv rfl rfl (za1 za3) o0))) (fun a w hst=>?_)
 have hst:St B w0 19 [(4,_)] [⟨2,26,ptrH,_⟩,⟨3,26,ptrH,_⟩] a w:=hst
 refine zt ?_
 refine zaw (anc:=[[],[0],[],[2],[0,1,2,3],[],[5],[],[7],[0,1,2,3,4,5,6,7,8],[0,1,2,3,4,5,6,7,8,9],[],[0,1,2,3,4,5,6,7,8,9,10,11]]) (sts:=[none,none]) (news:=[⟨5,24,ptrH,some 11,_,some (12,_)⟩]) (sp:=[.adr 6 2 (.some 0) True,.val 7 _,.adr 8 3 (.some 2) True,.val 9 _,.val 10 _,.adr 11 3 (.some 0) True,.val 12 _,.adr 13 2 (.some 2) True,.val 14 _,.val 15 _,.val 16 _,.alc 2,.sto 2]) [.g 0] za7 hst (oc (ob_a rfl rfl (za9 (lz0 0 rfl) zbh)) (zv rfl rfl (za4 0 rfl zk trivial (lz0 0 rfl) (Sub.part 0 rfl rfl) zab) (oc (ob_a rfl rfl (za9 (lz0 1 rfl) zb3)) (zv rfl rfl (za4 2 rfl zk trivial (lz0 1 rfl) (Sub.part 1 rfl rfl) zab) (zv rfl rfl (za5 (xs:=[.tmp 7,.tmp 9]) (zf7 zo zo) (.cons (vq 1 rfl) (.cons (vq 3 rfl) .nil))) (oc (ob_a rfl rfl (za9 (lz0 1 rfl) zbh)) (zv rfl rfl (za4 5 rfl zk trivial (lz0 1 rfl) (Sub.part 0 rfl rfl) zab) (oc (ob_a rfl rfl (za9 (lz0 0 rfl) zb3)) (zv rfl rfl (za4 7 rfl zk trivial (lz0 0 rfl) (Sub.part 1 rfl rfl) zab) (zv rfl rfl (za5 (xs:=[.tmp 12,.tmp 14]) (zf7 zo zo) (.cons (vq 6 rfl) (.cons (vq 8 rfl) .nil))) (zv rfl rfl (za5 (xs:=[.tmp 10,.tmp 15]) (rminus_z zo zo) (.cons (vq 4 rfl) (.cons (vq 9 rfl) .nil))) (oc (zau rfl rfl rfl (Str.zero zbm)) (oc (zak rfl rfl rfl (vq 10 rfl) zab (Eq.trans (b:=2) rfl rfl)) o0))))))))))))) zk zk zk zk (fun a w hst=>?_)
 have hst:St B w0 19 [(4,_)] [⟨2,26,ptrH,_⟩,⟨3,26,ptrH,_⟩,⟨5,24,ptrH,_⟩] a w:=hst
 refine zt ?_
 refine gl (sts:=[none,none,none]) (news:=[]) (sp:=[.val 17 _,.val 18 _,.val 4 _]) [.o 2] hst (zv rfl rfl (zac (lz0 2 rfl) zab) (zv rfl rfl (za5 (xs:=[.tmp 17]) rsign_z (.cons (vq 0 rfl) .nil)) (zv rfl rfl (za1 (vq 1 rfl)) o0))) (fun a w hst=>?_)
 have hst:St B w0 19 [(4,_)] [⟨2,26,ptrH,_⟩,⟨3,26,ptrH,_⟩,⟨5,24,ptrH,_⟩] a w:=hst
 refine za0 ?_
 refine wp_ret ?_
 refine zan ?_ (zae rfl hst (zm 0 rfl))
 exact zbv (congrArg In (cm_sgn x y))
theorem r2same_q {c d:Nat} {x y:Rat} (hc:c+d≤900000000):Cn Tryz.prog 295 [Qs c x,Qs d y] (Bo (cmQ x y == 0)):=by
 refine Cn.intro Tryz.func295 rfl zk nq (fun B w0 a hst=>?_)
 have hst:St B w0 9 [(0,Qs c x),(1,Qs d y)] [] a w0.w:=hst
 refine wp_seq ?_
 refine gl (sts:=[]) (news:=[⟨2,26,ptrH,some 0,_,none⟩,⟨3,26,ptrH,some 1,_,none⟩]) (sp:=[.alc 0,.alc 1,.val 4 _]) [.o 2] hst (oc (zai rfl rfl rfl (gq 0 rfl)) (oc (zai rfl rfl rfl (gq 1 rfl)) (zv rfl rfl (za1 zb2) o0))) (fun a w hst=>?_)
 have hst:St B w0 9 [(4,_)] [⟨2,26,ptrH,_⟩,⟨3,26,ptrH,_⟩] a w:=hst
 refine zt ?_
 refine gl (sts:=[none,none]) (news:=[]) (sp:=[.val 5 _,.val 6 _,.val 7 _,.val 8 _,.val 4 _]) [.o 4] hst (zv rfl rfl (zac (lz0 0 rfl) zag) (zv rfl rfl (zac (lz0 1 rfl) zag) (zv rfl rfl (za5 (xs:=[.tmp 5,.tmp 6]) (r2cmp_q zo) (.cons (vq 0 rfl) (.cons (vq 1 rfl) .nil))) (zv rfl rfl (zdj (vq 2 rfl) za3) (zv rfl rfl (za1 (vq 3 rfl)) o0))))) (fun a w hst=>?_)
 have hst:St B w0 9 [(4,_)] [⟨2,26,ptrH,_⟩,⟨3,26,ptrH,_⟩] a w:=hst
 refine za0 ?_
 refine wp_ret ?_
 refine zan ?_ (zae rfl hst (zm 0 rfl))
 exact zbs
theorem rchk1 {g:Nat} (h:decide ((1:Int)<((g:Nat):Int))=true):g≠1:=by have:=of_decide_eq_true h; omega
theorem rchk2 {g:Nat} (h:decide ((1:Int)<((g:Nat):Int))=false) (h0:g≠0):g=1:=by have:=of_decide_eq_false h; omega
theorem r2checkF_c (xn xd:RI):Cn Tryz.prog 296 [(RFA ⟨xn,xd⟩).va] (In (if okF ⟨xn,xd⟩ then 0 else 1)):=by
 refine Cn.intro Tryz.func296 rfl zk nq (fun B w0 a hst=>?_)
 have hst:St B w0 28 [(0,(RFA ⟨xn,xd⟩).va)] [] a w0.w:=hst
 have hok:=zl1 (hst.vals (0,(RFA ⟨xn,xd⟩).va) (zm 0 rfl))
 refine wp_seq ?_
 refine gl (sts:=[]) (news:=[⟨1,26,ptrH,some 0,_,none⟩]) (sp:=[.alc 0,.val 2 _]) [.o 1] hst (oc (zai rfl rfl rfl (gq 0 rfl)) (zv rfl rfl (za1 za3) o0)) (fun a w hst=>?_)
 have hst:St B w0 28 [(2,_)] [⟨1,26,ptrH,_⟩] a w:=hst
 refine zt ?_
 refine wp_seq ?_
 refine gl (sts:=[none]) (news:=[]) (sp:=[.adr 4 1 (.some 0) True,.val 5 _,.val 6 _,.val 7 _,.val 8 _,.adr 9 1 (.some 2) (_=false),.val 10 (Wh (_=false) _),.val 11 (Wh (_=false) _),.val 12 (Wh (_=false) _),.val 13 _,.val 14 _,.adr 15 1 (.some 2) (_=false),.val 16 (Wh (_=false) _),.val 17 (Wh (_=false) _),.val 18 (Wh (_=false) _),.val 19 _]) [.g 0,.o 15] hst (oc (ob_a rfl rfl (za9 (lz0 0 rfl) zbh)) (zv rfl rfl (za4 0 rfl zk trivial (lz0 0 rfl) (Sub.part 0 rfl rfl) zab) (zv rfl rfl (za5 (xs:=[.tmp 5]) (rcheck_c _) (.cons (vq 1 rfl) .nil)) (zv rfl rfl (zdc (vq 2 rfl) za3) (zv rfl rfl (za2 (vq 3 rfl)) (oc (zcc rfl rfl rfl (vq 4 rfl) nq (fun hg=>za9 (lz0 0 rfl) zb3)) (oc (zah rfl rfl rfl (vq 4 rfl) nq (fun hg=>za4 5 rfl zk hg (lz0 0 rfl) (Sub.part 1 rfl rfl) zab)) (oc (zah rfl rfl rfl (vq 4 rfl) nq (fun hg=>za5 (xs:=[.tmp 10]) (rcheck_c _) (.cons (zaa (vq 6 rfl) hg) .nil))) (oc (zah rfl rfl rfl (vq 4 rfl) nq (fun hg=>zdc (zaa (vq 7 rfl) hg) za3)) (zv rfl rfl (r_or (vq 4 rfl) (vq 8 rfl)) (zv rfl rfl (za2 (vq 9 rfl)) (oc (zcc rfl rfl rfl (vq 10 rfl) nq (fun hg=>za9 (lz0 0 rfl) zb3)) (oc (zah rfl rfl rfl (vq 10 rfl) nq (fun hg=>za4 11 rfl zk hg (lz0 0 rfl) (Sub.part 1 rfl rfl) zab)) (oc (zah rfl rfl rfl (vq 10 rfl) nq (fun hg=>za5 (xs:=[.tmp 16]) (zj1 _) (.cons (zaa (vq 12 rfl) hg) .nil))) (oc (zah rfl rfl rfl (vq 10 rfl) nq (fun hg=>r_leq (zaa (vq 13 rfl) hg) za3)) (zv rfl rfl (r_or (vq 10 rfl) (vq 14 rfl)) o0)))))))))))))))) (fun a w hst=>?_)
 have hst:St B w0 28 [(2,_),(19,_)] [⟨1,26,ptrH,_⟩] a w:=hst
 refine za0 ?_
 refine za8 hst (zm 1 rfl) (fun hb0=>?_) (fun hb0=>?_)
 ·refine wp_seq ?_
  refine gl (sts:=[none]) (news:=[]) (sp:=[.val 2 _]) [.o 0] hst (zv rfl rfl (za1 za3) o0) (fun a w hst=>?_)
  have hst:St B w0 28 [(2,_)] [⟨1,26,ptrH,_⟩] a w:=hst
  refine za0 ?_
  refine wp_ret ?_
  refine zap ?_
  refine zan ?_ (zae rfl hst (zm 0 rfl))
  exact zbv (congrArg In (chk_no hb0))
 ·rw [Bool.or_eq_false_iff,Bool.or_eq_false_iff] at hb0
  obtain ⟨p,rfl,hp⟩:=zkh hok.1 (ok1 hb0.1.1)
  obtain ⟨q,rfl,hq⟩:=zkh hok.2 (ok1 hb0.1.2)
  have hq0:0<sgI (riOf q):=by have h2:¬ sgI (riOf q)≤0:=of_decide_eq_false hb0.2; omega
  have hqn:q≠0:=fun e=>by rw [e,ze7] at hq0; exact absurd hq0 zd
  have hgn:Int.gcd p q≠0:=by have:=Int.gcd_pos_of_ne_zero_right p hqn; omega
  refine wp_skip ?_
  refine zt ?_
  refine gl (sts:=[none]) (news:=[⟨3,24,ptrH,some 5,_,some (6,_)⟩]) (sp:=[.adr 20 1 (.some 0) True,.val 21 _,.adr 22 1 (.some 2) True,.val 23 _,.val 24 _,.alc 1,.sto 1]) [.g 0] hst (oc (ob_a rfl rfl (za9 (lz0 0 rfl) zbh)) (zv rfl rfl (za4 0 rfl zk trivial (lz0 0 rfl) (Sub.part 0 rfl rfl) zab) (oc (ob_a rfl rfl (za9 (lz0 0 rfl) zb3)) (zv rfl rfl (za4 2 rfl zk trivial (lz0 0 rfl) (Sub.part 1 rfl rfl) zab) (zv rfl rfl (za5 (xs:=[.tmp 21,.tmp 23]) (zj6 p q zo zo) (.cons (vq 1 rfl) (.cons (vq 3 rfl) .nil))) (oc (zau rfl rfl rfl (Str.zero zbm)) (oc (zak rfl rfl rfl (vq 4 rfl) zab (Eq.trans (b:=2) rfl rfl)) o0))))))) (fun a w hst=>?_)
  have hst:St B w0 28 [(2,_)] [⟨1,26,ptrH,_⟩,⟨3,24,ptrH,_⟩] a w:=hst
  refine zt ?_
  refine wp_seq ?_
  refine zaw (anc:=[[],[],[0,1]]) (sts:=[none,none]) (news:=[]) (sp:=[.val 25 _,.val 26 _,.val 27 _]) [.g 0,.o 2] za7 hst (zv rfl rfl (za5 (xs:=[.const (.int .i64 (1))]) (rof_c 1 zd zd) (.cons za3 .nil)) (zv rfl rfl (zac (lz0 1 rfl) zab) (zv rfl rfl (za5 (xs:=[.tmp 25,.tmp 26]) (rbelow_c _ _) (.cons (vq 0 rfl) (.cons (vq 1 rfl) .nil))) o0))) zk zk zk zk (fun a w hst=>?_)
  have hst:St B w0 28 [(2,_),(27,_)] [⟨1,26,ptrH,_⟩,⟨3,24,ptrH,_⟩] a w:=hst
  refine za0 ?_
  refine za8 hst (zm 1 rfl) (fun hb1=>?_) (fun hb1=>?_)
  ·refine wp_seq ?_
   refine gl (sts:=[none,none]) (news:=[]) (sp:=[.val 2 _]) [.o 0] hst (zv rfl rfl (za1 za3) o0) (fun a w hst=>?_)
   have hst:St B w0 28 [(2,_)] [⟨1,26,ptrH,_⟩,⟨3,24,ptrH,_⟩] a w:=hst
   refine za0 ?_
   refine wp_ret ?_
   refine zap ?_
   refine zan ?_ (zae rfl hst (zm 0 rfl))
   have e1:=rchk1 hb1; exact zbv (congrArg In (by rw [show okF ⟨riOf p,riOf q⟩=false from by unfold okF; rw [zbr,zbr]; simp [show ¬ Nat.gcd p.natAbs q.natAbs=1 from e1]]; rfl))
  ·refine wp_skip ?_
   refine zt ?_
   refine gl (sts:=[none,none]) (news:=[]) (sp:=[.val 2 _]) [.o 0] hst (zv rfl rfl (za1 za3) o0) (fun a w hst=>?_)
   have hst:St B w0 28 [(2,_)] [⟨1,26,ptrH,_⟩,⟨3,24,ptrH,_⟩] a w:=hst
   refine za0 ?_
   refine wp_ret ?_
   refine zan ?_ (zae rfl hst (zm 0 rfl))
   have e1:=rchk2 hb1 hgn; exact zbv (congrArg In (by rw [show okF ⟨riOf p,riOf q⟩=true from by unfold okF; rw [zbr,zbr,ok1 hb0.1.1,ok1 hb0.1.2]; simp [hq0,show Nat.gcd p.natAbs q.natAbs=1 from e1]]; rfl))
theorem ex_r2check : ∃ fn, Tryz.prog.funcs[296]? = some fn ∧ (fn.name == "runtime.NumGoroutine") = false ∧ fn.body.isNone = false := ⟨_, Tryz.func296, by kernel_rfl, by kernel_rfl⟩
theorem r2check_x (x:RF):Cn Tryz.prog 296 [(RFA x).va] (In (if okX x then 0 else 1)) :=
 Cn.know (c:=okL x.num.mag∧okL x.den.mag) ex_r2check (fun B w args ha=>by cases ha with | cons h1 _=>exact zl1 h1) fun h=>(r2checkF_c x.num x.den).post (by rw [okX_know h])
theorem zkf (xs:List RF) (hl:xs.length≤1099511627776):Cn Tryz.prog 164 [(SlA 26 [U32] (xs.map RFA)).va] (Bo (xs.all okX)):=by
 refine Cn.introW Tryz.func164 rfl zk nq (.cons (up_sl (fun A hA=>by obtain ⟨x,_,rfl⟩:=List.mem_map.1 hA; exact zel x)).va .nil) (zfz _).va (fun B w0 a hB0 hst=>?_)
 have hst:St B w0 16 [(0,(SlO 26 [U32] (xs.map RFA) True).va)] [] a w0.w:=hst
 refine wp_seq ?_
 refine gl (sts:=[]) (news:=[]) (sp:=[.val 2 _]) [.g 0,.o 0] hst (zv rfl rfl (za1 zb2) o0) (fun a w hst=>?_)
 have hst:St B w0 16 [(0,_),(2,_)] [] a w:=hst
 refine zt ?_
 refine wp_seq ?_
 refine gl (sts:=[]) (news:=[]) (sp:=[.val 3 _]) [.g 0,.g 1,.o 0] hst (zv rfl rfl (za1 za3) o0) (fun a w hst=>?_)
 have hst:St B w0 16 [(0,_),(2,_),(3,_)] [] a w:=hst
 refine za0 ?_
 refine wp_block ?_
 have hst:=St.sel hst [0,2]
 refine wp_loop_ghost (fun n a w=>∃ j:Nat,(n+j=xs.length∧(xs.take j).all okX=true)∧St B w0 16 [(0,(SlO 26 [U32] (xs.map RFA) True).va),(3,In (j:Nat))] [] a w) (xs.length) ?_ ?_
 ·exact ⟨0,⟨by omega,rfl⟩,hst⟩
 intro n a w hI
 obtain ⟨j,⟨hn,hno⟩,hst⟩:=hI
 refine wp_seq ?_
 refine wp_seq ?_
 refine gl (sts:=[]) (news:=[]) (sp:=[.val 4 _,.val 5 _,.val 6 _,.val 7 _]) [.g 0,.g 1,.o 3] hst (zv rfl rfl (za2 (gq 1 rfl)) (zv rfl rfl (za2 (gq 0 rfl)) (zv rfl rfl (zbz Tryz.underlying142 (zey (zb0 (vq 1 rfl)))) (zv rfl rfl (zb7 (vq 0 rfl) (vq 2 rfl)) o0)))) (fun a w hst=>?_)
 have hst:St B w0 16 [(0,_),(3,_),(7,_)] [] a w:=hst
 refine za0 ?_
 refine za8 hst (zm 2 rfl) (fun hb0=>?_) (fun hb0=>?_)
 ·have hj:j<xs.length:=by simp at hb0; omega
  refine wp_skip ?_
  refine zt ?_
  refine wp_block ?_
  refine wp_seq ?_
  refine gl (sts:=[]) (news:=[]) (sp:=[.val 10 _,.val 11 _,.val 12 _,.val 13 _,.val 14 _,.val 15 _]) [.g 0,.g 1,.o 5] hst (zv rfl rfl (za2 (gq 0 rfl)) (zv rfl rfl (za2 (gq 1 rfl)) (zv rfl rfl (zgf zda (map_n fun _=>rfl) (zey (zb0 (vq 0 rfl))) (vq 1 rfl) (map_at hj)) (zv rfl rfl (zad (vq 2 rfl) zag) (zv rfl rfl (za5 (xs:=[.tmp 13]) (r2check_x _) (.cons (vq 3 rfl) .nil)) (zv rfl rfl (zdc (vq 4 rfl) za3) o0)))))) (fun a w hst=>?_)
  have hst:St B w0 16 [(0,_),(3,_),(15,_)] [] a w:=hst
  refine za0 ?_
  refine za8 hst (zm 2 rfl) (fun hb1=>?_) (fun hb1=>?_)
  ·refine wp_seq ?_
   refine gl (sts:=[]) (news:=[]) (sp:=[.val 2 _]) [.g 0,.g 1,.o 0] hst (zv rfl rfl (za1 zb2) o0) (fun a w hst=>?_)
   have hst:St B w0 16 [(0,_),(3,_),(2,_)] [] a w:=hst
   refine za0 ?_
   refine wp_ret ?_
   refine zc7 ?_
   refine zap ?_
   refine zap ?_
   refine zc7 ?_
   refine zap ?_
   refine zao ?_ (zae rfl hst (zm 2 rfl))
   rw [← ok_no hj hb1]
  ·refine wp_skip ?_
   refine zat ?_
   refine za0 ?_
   refine gl (sts:=[]) (news:=[]) (sp:=[.val 8 _,.val 9 _,.val 3 _]) [.g 0,.o 2] hst (zv rfl rfl (za2 (gq 1 rfl)) (zv rfl rfl (zbg (vq 0 rfl) za3 (zbj zo)) (zv rfl rfl (za1 (vq 1 rfl)) o0))) (fun a w hst=>?_)
   have hst:St B w0 16 [(0,_),(3,_)] [] a w:=hst
   refine za0 ?_
   have hst:=St.sel hst [0,1]
   exact ⟨n - 1,by omega,j+1,⟨by omega,ok_yes hj hno hb1⟩,hst⟩
 ·obtain rfl:j=xs.length:=by simp at hb0; omega
  refine wp_exit ?_
  refine za6 ?_
  refine za6 ?_
  refine zaj ?_
  refine zt ?_
  refine gl (sts:=[]) (news:=[]) (sp:=[.val 2 _]) [.o 0] hst (zv rfl rfl (za1 zb2) o0) (fun a w hst=>?_)
  have hst:St B w0 16 [(2,_)] [] a w:=hst
  refine za0 ?_
  refine wp_ret ?_
  refine zao ?_ (zae rfl hst (zm 0 rfl))
  rw [List.take_length] at hno; rw [hno]
end Go.Proofs.YthncfchnkjemiaaGreatDoor
namespace Go.Proofs.YthncfchnkjemiaaGreatDoor
open Go Go.RowKit
theorem r9cross_q {c d e f:Nat} {x y z u:Rat} (hk:c+d+e+f≤900000000):Cn Tryz.prog 213 [Qs c x,Qs d y,Qs e z,Qs f u] (Qs (c+f+(d+e)+1) (x*u - y*z)):=by
 refine Cn.intro Tryz.func213 rfl zk nq (fun B w0 a hst=>?_)
 have hst:St B w0 16 [(0,Qs c x),(1,Qs d y),(2,Qs e z),(3,Qs f u)] [] a w0.w:=hst
 refine wp_seq ?_
 refine gl (sts:=[]) (news:=[⟨4,26,ptrH,some 0,_,none⟩,⟨5,26,ptrH,some 1,_,none⟩,⟨6,26,ptrH,some 2,_,none⟩,⟨7,26,ptrH,some 3,_,none⟩,⟨8,26,ptrH,some 4,_,none⟩]) (sp:=[.alc 0,.alc 1,.alc 2,.alc 3,.alc 4]) [] hst (oc (zai rfl rfl rfl (gq 0 rfl)) (oc (zai rfl rfl rfl (gq 1 rfl)) (oc (zai rfl rfl rfl (gq 2 rfl)) (oc (zai rfl rfl rfl (gq 3 rfl)) (oc (zau rfl rfl rfl (Str.zero zb5)) o0))))) (fun a w hst=>?_)
 have hst:St B w0 16 [] [⟨4,26,ptrH,_⟩,⟨5,26,ptrH,_⟩,⟨6,26,ptrH,_⟩,⟨7,26,ptrH,_⟩,⟨8,26,ptrH,_⟩] a w:=hst
 refine zt ?_
 refine zaw (anc:=[[],[],[0,1],[],[],[0,1,2,3,4],[0,1,2,3,4,5],[0,1,2,3,4,5,6]]) (sts:=[none,none,none,none,some (7,_)]) (news:=[]) (sp:=[.val 9 _,.val 10 _,.val 11 _,.val 12 _,.val 13 _,.val 14 _,.val 15 _,.sto 4]) [] za7 hst (zv rfl rfl (zac (lz0 0 rfl) zag) (zv rfl rfl (zac (lz0 3 rfl) zag) (zv rfl rfl (za5 (xs:=[.tmp 9,.tmp 10]) (zh0 zo) (.cons (vq 0 rfl) (.cons (vq 1 rfl) .nil))) (zv rfl rfl (zac (lz0 1 rfl) zag) (zv rfl rfl (zac (lz0 2 rfl) zag) (zv rfl rfl (za5 (xs:=[.tmp 12,.tmp 13]) (zh0 zo) (.cons (vq 3 rfl) (.cons (vq 4 rfl) .nil))) (zv rfl rfl (za5 (xs:=[.tmp 11,.tmp 14]) (r2minus_q zo) (.cons (vq 2 rfl) (.cons (vq 5 rfl) .nil))) (oc (zak rfl rfl rfl (vq 6 rfl) zag (Eq.trans (b:=4) rfl rfl)) o0)))))))) zk zk zk zk (fun a w hst=>?_)
 have hst:St B w0 16 [] [⟨4,26,ptrH,_⟩,⟨5,26,ptrH,_⟩,⟨6,26,ptrH,_⟩,⟨7,26,ptrH,_⟩,⟨8,26,ptrH,_⟩] a w:=hst
 refine za0 ?_
 refine wp_ret ?_
 refine zan ?_ (zar rfl hst (zm 4 rfl) zag)
 exact zbs
theorem r9det_x {m:RM} (h:[m.a,m.b,m.c,m.d].all okX=true):Cn Tryz.prog 213 [(RFA m.a).va,(RFA m.b).va,(RFA m.c).va,(RFA m.d).va] (Qs 8193 (toQ m.a*toQ m.d - toQ m.b*toQ m.c)):=by
 simp only [List.all_cons,List.all_nil,Bool.and_true,Bool.and_eq_true] at h
 exact (r9cross_q (c:=2048) (d:=2048) (e:=2048) (f:=2048) zd).wk (.cons (qa_x h.1 (Nat.le_refl _)).va (.cons (qa_x h.2.1 (Nat.le_refl _)).va (.cons (qa_x h.2.2.1 (Nat.le_refl _)).va (.cons (qa_x h.2.2.2 (Nat.le_refl _)).va .nil))))
theorem r9may_e {m:RM}:Bo ([m.a,m.b,m.c,m.d].all okX && (cmQ (toQ m.a*toQ m.d - toQ m.b*toQ m.c) 1 == 0))=Bo (okM m):=by rw [cm_eq]; rfl
theorem r9may_c (m:RM):Cn Tryz.prog 163 [(RMA m).va] (Bo (okM m)):=by
 refine Cn.intro Tryz.func163 rfl zk nq (fun B w0 a hst=>?_)
 have hst:St B w0 26 [(0,(RMA m).va)] [] a w0.w:=hst
 refine wp_seq ?_
 refine gl (sts:=[]) (news:=[⟨1,28,ptrH,some 0,_,none⟩]) (sp:=[.alc 0,.val 2 _]) [.o 1] hst (oc (zai rfl rfl rfl (gq 0 rfl)) (zv rfl rfl (za1 zb2) o0)) (fun a w hst=>?_)
 have hst:St B w0 26 [(2,_)] [⟨1,28,ptrH,_⟩] a w:=hst
 refine zt ?_
 refine gl (sts:=[none]) (news:=[]) (sp:=((.adr 3 1 (.some 0) True:Sp)::(.val 4 _)::(.adr 5 1 (.some 4) True)::(.val 6 _)::(.adr 7 1 (.some 8) True)::(.val 8 _)::(.adr 9 1 (.some 12) True)::(.val 10 _)::(.val 11 _)::(.val 12 _)::(.val 13 _)::(.adr 14 1 (.some 0) (_=true))::(.val 15 (Wh (_=true) _))::(.adr 16 1 (.some 4) (_=true))::(.val 17 (Wh (_=true) _))::(.adr 18 1 (.some 8) (_=true))::(.val 19 (Wh (_=true) _))::(.adr 20 1 (.some 12) (_=true))::(.val 21 (Wh (_=true) _))::(.val 22 (Wh (_=true) _))::(.val 23 (Wh (_=true) _))::(.val 24 (Wh (_=true) _))::(.val 25 _)::(.val 2 _)::[])) [.o 23] hst (oc (ob_a rfl rfl (za9 (lz0 0 rfl) zd6)) (zv rfl rfl (za4 0 rfl zk trivial (lz0 0 rfl) (Sub.part 0 rfl rfl) zag) (oc (ob_a rfl rfl (za9 (lz0 0 rfl) zd5)) (zv rfl rfl (za4 2 rfl zk trivial (lz0 0 rfl) (Sub.part 1 rfl rfl) zag) (oc (ob_a rfl rfl (za9 (lz0 0 rfl) zcx)) (zv rfl rfl (za4 4 rfl zk trivial (lz0 0 rfl) (Sub.part 2 rfl rfl) zag) (oc (ob_a rfl rfl (za9 (lz0 0 rfl) zcw)) (zv rfl rfl (za4 6 rfl zk trivial (lz0 0 rfl) (Sub.part 3 rfl rfl) zag) (zv rfl rfl (zd7 (D:=[U32]) (l:=[_,_,_,_]) (xs:=[.tmp 4,.tmp 6,.tmp 8,.tmp 10]) (zfs zk) zda zk (n_ok zk) nq nq nq (.cons (vq 1 rfl) (.cons (vq 3 rfl) (.cons (vq 5 rfl) (.cons (vq 7 rfl) .nil)))) rfl rfl) (zv rfl rfl (za5 (xs:=[.tmp 11]) (zkf [m.a,m.b,m.c,m.d] nq) (.cons (vq 8 rfl) .nil)) (zv rfl rfl (za2 (vq 9 rfl)) (oc (zcc rfl rfl rfl (vq 10 rfl) nq (fun hg=>za9 (lz0 0 rfl) zd6)) (oc (zah rfl rfl rfl (vq 10 rfl) nq (fun hg=>za4 11 rfl zk hg (lz0 0 rfl) (Sub.part 0 rfl rfl) zag)) (oc (zcc rfl rfl rfl (vq 10 rfl) nq (fun hg=>za9 (lz0 0 rfl) zd5)) (oc (zah rfl rfl rfl (vq 10 rfl) nq (fun hg=>za4 13 rfl zk hg (lz0 0 rfl) (Sub.part 1 rfl rfl) zag)) (oc (zcc rfl rfl rfl (vq 10 rfl) nq (fun hg=>za9 (lz0 0 rfl) zcx)) (oc (zah rfl rfl rfl (vq 10 rfl) nq (fun hg=>za4 15 rfl zk hg (lz0 0 rfl) (Sub.part 2 rfl rfl) zag)) (oc (zcc rfl rfl rfl (vq 10 rfl) nq (fun hg=>za9 (lz0 0 rfl) zcw)) (oc (zah rfl rfl rfl (vq 10 rfl) nq (fun hg=>za4 17 rfl zk hg (lz0 0 rfl) (Sub.part 3 rfl rfl) zag)) (oc (zah rfl rfl rfl (vq 10 rfl) nq (fun hg=>za5 (xs:=[.tmp 15,.tmp 17,.tmp 19,.tmp 21]) (r9det_x hg) (.cons (zaa (vq 12 rfl) hg) (.cons (zaa (vq 14 rfl) hg) (.cons (zaa (vq 16 rfl) hg) (.cons (zaa (vq 18 rfl) hg) .nil)))))) (oc (zah rfl rfl rfl (vq 10 rfl) nq (fun hg=>za5 (xs:=[]) r2one_q .nil)) (oc (zah rfl rfl rfl (vq 10 rfl) nq (fun hg=>za5 (xs:=[.tmp 22,.tmp 23]) (r2same_q zo) (.cons (zaa (vq 19 rfl) hg) (.cons (zaa (vq 20 rfl) hg) .nil)))) (zv rfl rfl (zcl (vq 10 rfl) (vq 21 rfl)) (zv rfl rfl (za1 (vq 22 rfl)) o0)))))))))))))))))))))))) (fun a w hst=>?_)
 have hst:St B w0 26 [(2,_)] [⟨1,28,ptrH,_⟩] a w:=hst
 refine za0 ?_
 refine wp_ret ?_
 refine zan ?_ (zae rfl hst (zm 0 rfl))
 exact zbv r9may_e
theorem zhu (r:RR):Cn Tryz.prog 211 [(RRA r).va] (Bo ([r.y,r.u].all okX)):=by
 refine Cn.intro Tryz.func211 rfl zk nq (fun B w0 a hst=>?_)
 have hst:St B w0 9 [(0,(RRA r).va)] [] a w0.w:=hst
 refine wp_seq ?_
 refine gl (sts:=[]) (news:=[⟨1,30,ptrH,some 0,_,none⟩]) (sp:=[.alc 0,.val 2 _]) [.o 1] hst (oc (zai rfl rfl rfl (gq 0 rfl)) (zv rfl rfl (za1 zb2) o0)) (fun a w hst=>?_)
 have hst:St B w0 9 [(2,_)] [⟨1,30,ptrH,_⟩] a w:=hst
 refine zt ?_
 refine gl (sts:=[none]) (news:=[]) (sp:=[.adr 3 1 (.some 0) True,.val 4 _,.adr 5 1 (.some 4) True,.val 6 _,.val 7 _,.val 8 _,.val 2 _]) [.o 6] hst (oc (ob_a rfl rfl (za9 (lz0 0 rfl) zc6)) (zv rfl rfl (za4 0 rfl zk trivial (lz0 0 rfl) (Sub.part 0 rfl rfl) zag) (oc (ob_a rfl rfl (za9 (lz0 0 rfl) zc5)) (zv rfl rfl (za4 2 rfl zk trivial (lz0 0 rfl) (Sub.part 1 rfl rfl) zag) (zv rfl rfl (zd7 (D:=[U32]) (l:=[_,_]) (xs:=[.tmp 4,.tmp 6]) (zfs zk) zda zk (n_ok zk) nq nq nq (.cons (vq 1 rfl) (.cons (vq 3 rfl) .nil)) rfl rfl) (zv rfl rfl (za5 (xs:=[.tmp 7]) (zkf [r.y,r.u] nq) (.cons (vq 4 rfl) .nil)) (zv rfl rfl (za1 (vq 5 rfl)) o0))))))) (fun a w hst=>?_)
 have hst:St B w0 9 [(2,_)] [⟨1,30,ptrH,_⟩] a w:=hst
 refine za0 ?_
 refine wp_ret ?_
 refine zan ?_ (zae rfl hst (zm 0 rfl))
 exact zbs
end Go.Proofs.YthncfchnkjemiaaGreatDoor
