import Derived.Test.YthncfchnkjemiaaGreatDoorFdAa
import Derived.Test.YthncfchnkjemiaaGreatDoorFdAc
import Derived.Test.YthncfchnkjemiaaGreatDoorFdAm
import Derived.Test.YthncfchnkjemiaaGreatDoorFdAo
import Derived.Test.YthncfchnkjemiaaGreatDoorFdAx
import Derived.ProofKit
import Derived.OpenShut
import Derived.ChangeOld
import Derived.Below
import Derived.Deep.Slices
set_option linter.unusedVariables false
set_option linter.unusedSimpArgs false
set_option linter.unusedSectionVars false
set_option maxRecDepth 100000
namespace Go.Proofs.YthncfchnkjemiaaGreatDoor
open Go Go.RowKit
theorem ex_rTimes : ∃ fn, Tryz.prog.funcs[251]? = some fn ∧ (fn.name == "runtime.NumGoroutine") = false ∧ fn.body.isNone = false := ⟨_, Tryz.func251, by kernel_rfl, by kernel_rfl⟩
theorem ex_rPlus : ∃ fn, Tryz.prog.funcs[252]? = some fn ∧ (fn.name == "runtime.NumGoroutine") = false ∧ fn.body.isNone = false := ⟨_, Tryz.func252, by kernel_rfl, by kernel_rfl⟩
theorem ex_rDivide : ∃ fn, Tryz.prog.funcs[329]? = some fn ∧ (fn.name == "runtime.NumGoroutine") = false ∧ fn.body.isNone = false := ⟨_, Tryz.func329, by kernel_rfl, by kernel_rfl⟩
theorem ex_rSign : ∃ fn, Tryz.prog.funcs[297]? = some fn ∧ (fn.name == "runtime.NumGoroutine") = false ∧ fn.body.isNone = false := ⟨_, Tryz.func297, by kernel_rfl, by kernel_rfl⟩
theorem ex_r2turned : ∃ fn, Tryz.prog.funcs[298]? = some fn ∧ (fn.name == "runtime.NumGoroutine") = false ∧ fn.body.isNone = false := ⟨_, Tryz.func298, by kernel_rfl, by kernel_rfl⟩
theorem r2turnedZ_c (p:Int) (hp:lz p≤1000000000):Cn Tryz.prog 298 [Zi p] (Zi (-p)):=by
 refine Cn.intro Tryz.func298 rfl zk nq (fun B w0 a hst=>?_)
 have hst:St B w0 6 [(0,Zi p)] [] a w0.w:=hst
 refine wp_seq ?_
 refine gl (sts:=[]) (news:=[⟨1,24,ptrH,some 0,_,none⟩,⟨2,24,ptrH,some 1,_,none⟩]) (sp:=[.alc 0,.alc 1]) [] hst (oc (zai rfl rfl rfl (gq 0 rfl)) (oc (zan rfl rfl rfl (Str.zero zbq)) o0)) (fun a w hst=>?_)
 have hst:St B w0 6 [] [⟨1,24,ptrH,_⟩,⟨2,24,ptrH,_⟩] a w:=hst
 refine zt ?_
 refine zau (anc:=[[],[],[0,1],[0,1,2]]) (sts:=[none,some (3,_)]) (news:=[]) (sp:=[.val 3 _,.val 4 _,.val 5 _,.sto 1]) [] za6 hst (zv rfl rfl (za5 (xs:=[.const (.int .i64 (0))]) (rof_c 0 zd zd) (.cons za3 .nil)) (zv rfl rfl (zad (lz0 0 rfl) zab) (zv rfl rfl (za5 (xs:=[.tmp 3,.tmp 4]) (rminusZ_c 0 p (by simp [lz,zbu]) hp) (.cons (vq 0 rfl) (.cons (vq 1 rfl) .nil))) (oc (zaa rfl rfl rfl (vq 2 rfl) zab (Eq.trans (b:=2) rfl rfl)) o0)))) zk zk zk zk (fun a w hst=>?_)
 have hst:St B w0 6 [] [⟨1,24,ptrH,_⟩,⟨2,24,ptrH,_⟩] a w:=hst
 refine za0 ?_
 refine wp_ret ?_
 refine zaq ?_ (zal rfl hst (zm 1 rfl) zab)
 exact zc3 (congrArg Zi (Int.zero_sub p))
section
variable {a b:Nat} {p q:Int} (ha:a≤1000000000)
include ha
theorem zhm:Cn Tryz.prog 298 [Zs a p] (Zs a (-p)):=zs1 ex_r2turned fun h=>(r2turnedZ_c p zo).wkp (zgg (by rw [zfk]; exact h))
variable (hb:b≤1000000000)
include hb
theorem zgo:Cn Tryz.prog 251 [Zs a p,Zs b q] (Zs (a+b) (p*q)):=zs2 ex_rTimes fun h h'=>(rtimesZ_c p q zo zo).wkp (zgg (by have:=zdo p q; omega))
theorem rplus_z:Cn Tryz.prog 252 [Zs a p,Zs b q] (Zs (max a b+1) (p+q)):=zs2 ex_rPlus fun h h'=>(rplusZ_c p q zo zo).wkp (zgg (by have:=zj1 p q; omega))
theorem rdivide_z (hq:q≠0):Cn Tryz.prog 329 [Zs a p,Zs b q] (Tu [Zs a (p.tdiv q),Zs b (p.tmod q)]):=zs2 ex_rDivide fun h h'=>(zk3 p q hq zo zo).wkp (tu_wk (.cons (zgg (by have:=ziz p q; omega)) (.cons (zgg (by have:=lz_tm (p:=p) hq; omega)) .nil)))
end
theorem rsign_z {a:Nat} {p:Int}:Cn Tryz.prog 297 [Zs a p] (In p.sign):=zs1 ex_rSign fun _=>(zis (riOf p)).post (by rw [zdm])
theorem lz_tmod1 {p q:Int} (h:q≠0) (hq:lz q≤1000000000):lz (p.tmod q)≤1000000000:=Nat.le_trans (lz_tm h) hq
theorem gcd_tmod {X Y:Int} (h:Y≠0):Int.gcd Y (X.tmod Y)=Int.gcd X Y:=by
 show Nat.gcd Y.natAbs (X.tmod Y).natAbs=Nat.gcd X.natAbs Y.natAbs
 rw [zgv,Nat.gcd_comm X.natAbs,Nat.gcd_comm,← Nat.gcd_rec]
theorem ziv (p q:Int) (hp:lz p≤1000000000) (hq:lz q≤1000000000):Cn Tryz.prog 328 [Zi p,Zi q] (Zi ((Int.gcd p q:Nat):Int)):=by
 refine Cn.intro Tryz.func328 rfl zk nq (fun B w0 a hst=>?_)
 have hst:St B w0 33 [(0,Zi p),(1,Zi q)] [] a w0.w:=hst
 refine wp_seq ?_
 refine gl (sts:=[]) (news:=[⟨2,24,ptrH,some 0,_,none⟩,⟨3,24,ptrH,some 1,_,none⟩,⟨4,24,ptrH,some 2,_,none⟩]) (sp:=[.alc 0,.alc 1,.alc 2]) [] hst (oc (zai rfl rfl rfl (gq 0 rfl)) (oc (zai rfl rfl rfl (gq 1 rfl)) (oc (zan rfl rfl rfl (Str.zero zbq)) o0))) (fun a w hst=>?_)
 have hst:St B w0 33 [] [⟨2,24,ptrH,_⟩,⟨3,24,ptrH,_⟩,⟨4,24,ptrH,_⟩] a w:=hst
 refine zt ?_
 refine wp_seq ?_
 refine zau (anc:=[[],[0],[],[0,1,2],[0,1,2,3]]) (sts:=[none,none,none]) (news:=[]) (sp:=[.val 7 _,.val 8 _,.val 9 _,.val 10 _,.val 11 _]) [.o 4] za6 hst (zv rfl rfl (zad (lz0 0 rfl) zab) (zv rfl rfl (za5 (xs:=[.tmp 7]) (rbits_c p hp) (.cons (vq 0 rfl) .nil)) (zv rfl rfl (zad (lz0 1 rfl) zab) (zv rfl rfl (za5 (xs:=[.tmp 9]) (rbits_c q hq) (.cons (vq 2 rfl) .nil)) (zv rfl rfl (zb9 (vq 1 rfl) (vq 3 rfl)) o0))))) zk zk zk zk (fun a w hst=>?_)
 have hst:St B w0 33 [(11,_)] [⟨2,24,ptrH,_⟩,⟨3,24,ptrH,_⟩,⟨4,24,ptrH,_⟩] a w:=hst
 refine za0 ?_
 refine zcg (fun a w=>∃ X Y:Int,(lz X≤1000000000∧lz Y≤1000000000∧Int.gcd X Y=Int.gcd p q)∧St B w0 33 [] [⟨2,24,ptrH,RIA (riOf X)⟩,⟨3,24,ptrH,RIA (riOf Y)⟩,⟨4,24,ptrH,cat [BoA false,MgA []]⟩] a w) hst (zm 0 rfl) (fun hb0=>?_) (fun hb0=>?_) (fun a w hst=>?_)
 ·refine gl (sts:=[some (2,_),some (3,_),none]) (news:=[]) (sp:=[.val 12 _,.val 13 _,.sto 0,.sto 1]) [] hst (zv rfl rfl (zad (lz0 1 rfl) zab) (zv rfl rfl (zad (lz0 0 rfl) zab) (oc (zaa rfl rfl rfl (vq 0 rfl) zab (Eq.trans (b:=2) rfl rfl)) (oc (zaa rfl rfl rfl (vq 1 rfl) zab (Eq.trans (b:=2) rfl rfl)) o0)))) (fun a w hst=>?_)
  have hst:St B w0 33 [] [⟨2,24,ptrH,_⟩,⟨3,24,ptrH,_⟩,⟨4,24,ptrH,_⟩] a w:=hst
  refine za0 ?_
  have hst:=St.sel hst []
  exact ⟨q,p,⟨hq,hp,Int.gcd_comm q p⟩,hst⟩
 ·refine wp_skip ?_
  refine za0 ?_
  have hst:=St.sel hst []
  exact ⟨p,q,⟨hp,hq,rfl⟩,hst⟩
 obtain ⟨X,Y,⟨hX,hY,hg⟩,hst⟩:=hst
 refine zt ?_
 refine wp_seq ?_
 refine gl (sts:=[none,none,none]) (news:=[]) (sp:=[.val 14 _,.val 15 _,.val 16 _]) [.o 2] hst (zv rfl rfl (zad (lz0 1 rfl) zab) (zv rfl rfl (za5 (xs:=[.tmp 14]) ((zis (riOf Y)).post (by rw [zdm])) (.cons (vq 0 rfl) .nil)) (zv rfl rfl (zd8 (vq 1 rfl) za3) o0))) (fun a w hst=>?_)
 have hst:St B w0 33 [(16,_)] [⟨2,24,ptrH,_⟩,⟨3,24,ptrH,_⟩,⟨4,24,ptrH,_⟩] a w:=hst
 refine za0 ?_
 refine za8 hst (zm 0 rfl) (fun hb1=>?_) (fun hb1=>?_)
 ·refine wp_seq ?_
  refine gl (sts:=[none,none,some (3,_)]) (news:=[]) (sp:=[.val 17 _,.val 18 _,.val 19 _,.sto 2]) [] hst (zv rfl rfl (zad (lz0 0 rfl) zab) (zv rfl rfl (zad (lz0 1 rfl) zab) (zv rfl rfl (za5 (xs:=[.tmp 17,.tmp 18]) (zk4 X Y hX hY) (.cons (vq 0 rfl) (.cons (vq 1 rfl) .nil))) (oc (zaa rfl rfl rfl (vq 2 rfl) zab (Eq.trans (b:=2) rfl rfl)) o0)))) (fun a w hst=>?_)
  have hst:St B w0 33 [] [⟨2,24,ptrH,_⟩,⟨3,24,ptrH,_⟩,⟨4,24,ptrH,_⟩] a w:=hst
  refine za0 ?_
  refine wp_ret ?_
  refine zao ?_
  refine zaq ?_ (zal rfl hst (zm 2 rfl) zab)
  exact zc3 (congrArg (fun n:Nat=>Zi (n:Int)) hg)
 ·have hY0:Y≠0:=fun e=>by rw [e] at hb1; exact absurd hb1 zd
  refine wp_skip ?_
  refine zt ?_
  refine gl (sts:=[none,none,none]) (news:=[⟨5,24,ptrH,some 6,_,some (8,_)⟩,⟨6,24,ptrH,some 7,_,some (9,_)⟩]) (sp:=[.val 21 _,.val 22 _,.val 23 _,.val 20 _,.val 24 _,.val 25 _,.alc 3,.alc 4,.sto 3,.sto 4]) [] hst (zv rfl rfl (zad (lz0 0 rfl) zab) (zv rfl rfl (zad (lz0 1 rfl) zab) (zv rfl rfl (za5 (xs:=[.tmp 21,.tmp 22]) (zk3 X Y hY0 hX hY) (.cons (vq 0 rfl) (.cons (vq 1 rfl) .nil))) (zv rfl rfl (za1 (vq 2 rfl)) (zv rfl rfl (zb6 (vq 3 rfl) rfl) (zv rfl rfl (zb6 (vq 3 rfl) rfl) (oc (zan rfl rfl rfl (Str.zero zbq)) (oc (zan rfl rfl rfl (Str.zero zbq)) (oc (zaa rfl rfl rfl (vq 4 rfl) zab (Eq.trans (b:=2) rfl rfl)) (oc (zaa rfl rfl rfl (vq 5 rfl) zab (Eq.trans (b:=2) rfl rfl)) o0)))))))))) (fun a w hst=>?_)
  have hst:St B w0 33 [] [⟨2,24,ptrH,_⟩,⟨3,24,ptrH,_⟩,⟨4,24,ptrH,_⟩,⟨5,24,ptrH,_⟩,⟨6,24,ptrH,_⟩] a w:=hst
  refine zt ?_
  refine wp_seq ?_
  refine gl (sts:=[none,none,none,none,none]) (news:=[]) (sp:=[.val 26 _,.val 27 _,.val 28 _]) [.o 2] hst (zv rfl rfl (zad (lz0 1 rfl) zab) (zv rfl rfl (za5 (xs:=[.tmp 26]) (rbits_c Y hY) (.cons (vq 0 rfl) .nil)) (zv rfl rfl (zd8 (vq 1 rfl) za3) o0))) (fun a w hst=>?_)
  have hst:St B w0 33 [(28,_)] [⟨2,24,ptrH,_⟩,⟨3,24,ptrH,_⟩,⟨4,24,ptrH,_⟩,⟨5,24,ptrH,_⟩,⟨6,24,ptrH,_⟩] a w:=hst
  refine za0 ?_
  refine za8 hst (zm 0 rfl) (fun hb2=>?_) (fun hb2=>?_)
  ·have h1:Y.natAbs=1:=bitF_one (by have:=beq_iff_eq.1 hb2; omega)
   refine wp_seq ?_
   refine gl (sts:=[none,none,some (1,_),none,none]) (news:=[]) (sp:=[.val 29 _,.sto 2]) [] hst (zv rfl rfl (za5 (xs:=[.const (.int .i64 (1))]) (rof_c 1 zd zd) (.cons za3 .nil)) (oc (zaa rfl rfl rfl (vq 0 rfl) zab (Eq.trans (b:=2) rfl rfl)) o0)) (fun a w hst=>?_)
   have hst:St B w0 33 [] [⟨2,24,ptrH,_⟩,⟨3,24,ptrH,_⟩,⟨4,24,ptrH,_⟩,⟨5,24,ptrH,_⟩,⟨6,24,ptrH,_⟩] a w:=hst
   refine za0 ?_
   refine wp_ret ?_
   refine zao ?_
   refine zaq ?_ (zal rfl hst (zm 2 rfl) zab)
   exact zc3 (congrArg (fun n:Nat=>Zi (n:Int)) (show 1=Int.gcd p q by rw [← hg]; show 1=Nat.gcd X.natAbs Y.natAbs; rw [h1,Nat.gcd_one_right]))
  ·refine wp_skip ?_
   refine zt ?_
   refine gl (sts:=[none,none,some (3,_),none,none]) (news:=[]) (sp:=[.val 30 _,.val 31 _,.val 32 _,.sto 2]) [] hst (zv rfl rfl (zad (lz0 1 rfl) zab) (zv rfl rfl (zad (lz0 4 rfl) zab) (zv rfl rfl (za5 (xs:=[.tmp 30,.tmp 31]) (zk4 Y (X.tmod Y) hY (lz_tmod1 hY0 hY)) (.cons (vq 0 rfl) (.cons (vq 1 rfl) .nil))) (oc (zaa rfl rfl rfl (vq 2 rfl) zab (Eq.trans (b:=2) rfl rfl)) o0)))) (fun a w hst=>?_)
   have hst:St B w0 33 [] [⟨2,24,ptrH,_⟩,⟨3,24,ptrH,_⟩,⟨4,24,ptrH,_⟩,⟨5,24,ptrH,_⟩,⟨6,24,ptrH,_⟩] a w:=hst
   refine za0 ?_
   refine wp_ret ?_
   refine zaq ?_ (zal rfl hst (zm 2 rfl) zab)
   exact zc3 (congrArg (fun n:Nat=>Zi (n:Int)) ((gcd_tmod hY0).trans hg))
theorem ex_r2common : ∃ fn, Tryz.prog.funcs[328]? = some fn ∧ (fn.name == "runtime.NumGoroutine") = false ∧ fn.body.isNone = false := ⟨_, Tryz.func328, by kernel_rfl, by kernel_rfl⟩
theorem r2common_z {a b:Nat} {p q:Int} (ha:a≤1000000000) (hb:b≤1000000000):Cn Tryz.prog 328 [Zs a p,Zs b q] (Zs (max a b) ((Int.gcd p q:Nat):Int)):=zs2 ex_r2common fun h h'=>(ziv p q zo zo).wkp (zgg (by have:=lz_gcd p q; omega))
theorem zk6 {c d:Nat} {p q:Int} (hc:c≤1000000000) (hd:d≤1000000000) (hq:q≠0):Cn Tryz.prog 250 [Zs c p,Zs d q] (Qs (max c d) (Rat.divInt p q)):=by
 have hg0:0<Int.gcd p q:=Int.gcd_pos_of_ne_zero_right p hq
 obtain ⟨hn1,hn2⟩:=low_num (p:=p) hq
 refine Cn.intro Tryz.func250 rfl zk nq (fun B w0 a hst=>?_)
 have hst:St B w0 36 [(0,Zs c p),(1,Zs d q)] [] a w0.w:=hst
 refine wp_seq ?_
 refine gl (sts:=[]) (news:=[⟨2,24,ptrH,some 0,_,none⟩,⟨3,24,ptrH,some 1,_,none⟩,⟨4,26,ptrH,some 2,_,none⟩]) (sp:=[.alc 0,.alc 1,.alc 2]) [] hst (oc (zai rfl rfl rfl (gq 0 rfl)) (oc (zai rfl rfl rfl (gq 1 rfl)) (oc (zan rfl rfl rfl (Str.zero zav)) o0))) (fun a w hst=>?_)
 have hst:St B w0 36 [] [⟨2,24,ptrH,_⟩,⟨3,24,ptrH,_⟩,⟨4,26,ptrH,_⟩] a w:=hst
 refine zt ?_
 refine gl (sts:=[none,none,none]) (news:=[⟨5,24,ptrH,some 3,_,some (4,_)⟩]) (sp:=[.val 10 _,.val 11 _,.val 12 _,.alc 3,.sto 3]) [] hst (zv rfl rfl (zad (lz0 0 rfl) zab) (zv rfl rfl (zad (lz0 1 rfl) zab) (zv rfl rfl (za5 (xs:=[.tmp 10,.tmp 11]) (r2common_z zo zo) (.cons (vq 0 rfl) (.cons (vq 1 rfl) .nil))) (oc (zan rfl rfl rfl (Str.zero zbq)) (oc (zaa rfl rfl rfl (vq 2 rfl) zab (Eq.trans (b:=2) rfl rfl)) o0))))) (fun a w hst=>?_)
 have hst:St B w0 36 [] [⟨2,24,ptrH,_⟩,⟨3,24,ptrH,_⟩,⟨4,26,ptrH,_⟩,⟨5,24,ptrH,_⟩] a w:=hst
 refine zt ?_
 refine gl (sts:=[none,none,none,none]) (news:=[⟨6,24,ptrH,some 6,_,some (8,_)⟩,⟨7,24,ptrH,some 7,_,some (9,_)⟩]) (sp:=[.val 14 _,.val 15 _,.val 16 _,.val 13 _,.val 17 _,.val 18 _,.alc 4,.alc 5,.sto 4,.sto 5]) [] hst (zv rfl rfl (zad (lz0 0 rfl) zab) (zv rfl rfl (zad (lz0 3 rfl) zab) (zv rfl rfl (za5 (xs:=[.tmp 14,.tmp 15]) (rdivide_z zo zo zo) (.cons (vq 0 rfl) (.cons (vq 1 rfl) .nil))) (zv rfl rfl (za1 (vq 2 rfl)) (zv rfl rfl (zb6 (vq 3 rfl) rfl) (zv rfl rfl (zb6 (vq 3 rfl) rfl) (oc (zan rfl rfl rfl (Str.zero zbq)) (oc (zan rfl rfl rfl (Str.zero zbq)) (oc (zaa rfl rfl rfl (vq 4 rfl) zab (Eq.trans (b:=2) rfl rfl)) (oc (zaa rfl rfl rfl (vq 5 rfl) zab (Eq.trans (b:=2) rfl rfl)) o0)))))))))) (fun a w hst=>?_)
 have hst:St B w0 36 [] [⟨2,24,ptrH,_⟩,⟨3,24,ptrH,_⟩,⟨4,26,ptrH,_⟩,⟨5,24,ptrH,_⟩,⟨6,24,ptrH,_⟩,⟨7,24,ptrH,_⟩] a w:=hst
 refine zt ?_
 refine gl (sts:=[none,none,none,none,none,none]) (news:=[⟨8,24,ptrH,some 6,_,some (8,_)⟩,⟨9,24,ptrH,some 7,_,some (9,_)⟩]) (sp:=[.val 20 _,.val 21 _,.val 22 _,.val 19 _,.val 23 _,.val 24 _,.alc 6,.alc 7,.sto 6,.sto 7]) [] hst (zv rfl rfl (zad (lz0 1 rfl) zab) (zv rfl rfl (zad (lz0 3 rfl) zab) (zv rfl rfl (za5 (xs:=[.tmp 20,.tmp 21]) (rdivide_z zo zo zo) (.cons (vq 0 rfl) (.cons (vq 1 rfl) .nil))) (zv rfl rfl (za1 (vq 2 rfl)) (zv rfl rfl (zb6 (vq 3 rfl) rfl) (zv rfl rfl (zb6 (vq 3 rfl) rfl) (oc (zan rfl rfl rfl (Str.zero zbq)) (oc (zan rfl rfl rfl (Str.zero zbq)) (oc (zaa rfl rfl rfl (vq 4 rfl) zab (Eq.trans (b:=2) rfl rfl)) (oc (zaa rfl rfl rfl (vq 5 rfl) zab (Eq.trans (b:=2) rfl rfl)) o0)))))))))) (fun a w hst=>?_)
 have hst:St B w0 36 [] [⟨2,24,ptrH,_⟩,⟨3,24,ptrH,_⟩,⟨4,26,ptrH,_⟩,⟨5,24,ptrH,_⟩,⟨6,24,ptrH,_⟩,⟨7,24,ptrH,_⟩,⟨8,24,ptrH,_⟩,⟨9,24,ptrH,_⟩] a w:=hst
 refine zt ?_
 refine wp_seq ?_
 refine gl (sts:=[none,none,none,none,none,none,none,none]) (news:=[]) (sp:=[.val 25 _,.val 26 _,.val 27 _]) [.o 2] hst (zv rfl rfl (zad (lz0 6 rfl) zab) (zv rfl rfl (za5 (xs:=[.tmp 25]) rsign_z (.cons (vq 0 rfl) .nil)) (zv rfl rfl (zb9 (vq 1 rfl) za3) o0))) (fun a w hst=>?_)
 have hst:St B w0 36 [(27,_)] [⟨2,24,ptrH,_⟩,⟨3,24,ptrH,_⟩,⟨4,26,ptrH,_⟩,⟨5,24,ptrH,_⟩,⟨6,24,ptrH,_⟩,⟨7,24,ptrH,_⟩,⟨8,24,ptrH,_⟩,⟨9,24,ptrH,_⟩] a w:=hst
 refine za0 ?_
 refine za8 hst (zm 0 rfl) (fun hb0=>?_) (fun hb0=>?_)
 ·refine wp_seq ?_
  refine zau (anc:=[[],[0],[],[0,1,2],[0,1,2,3],[0,1,2,3,4]]) (sts:=[none,none,some (5,_),none,none,none,none,none]) (news:=[]) (sp:=[.val 28 _,.val 29 _,.val 30 _,.val 31 _,.val 32 _,.sto 2]) [] za6 hst (zv rfl rfl (zad (lz0 4 rfl) zab) (zv rfl rfl (za5 (xs:=[.tmp 28]) (zhm zo) (.cons (vq 0 rfl) .nil)) (zv rfl rfl (zad (lz0 6 rfl) zab) (zv rfl rfl (za5 (xs:=[.tmp 30]) (zhm zo) (.cons (vq 2 rfl) .nil)) (zv rfl rfl (zb3 (xs:=[(0,.tmp 29),(1,.tmp 31)]) (qs:=[(0,_),(1,_)]) zav (.cons ⟨rfl,(vq 1 rfl),rfl⟩ (.cons ⟨rfl,(vq 3 rfl),rfl⟩ .nil))) (oc (zaa rfl rfl rfl (vq 4 rfl) zae (Eq.trans (b:=4) rfl rfl)) o0)))))) zk zk zk zk (fun a w hst=>?_)
  have hst:St B w0 36 [] [⟨2,24,ptrH,_⟩,⟨3,24,ptrH,_⟩,⟨4,26,ptrH,_⟩,⟨5,24,ptrH,_⟩,⟨6,24,ptrH,_⟩,⟨7,24,ptrH,_⟩,⟨8,24,ptrH,_⟩,⟨9,24,ptrH,_⟩] a w:=hst
  refine za0 ?_
  refine wp_ret ?_
  refine zao ?_
  refine zaq ?_ (zal rfl hst (zm 2 rfl) zae)
  rw [if_pos (sgn_yes hb0)] at hn1 hn2; rw [hn1,hn2]; exact (zbg (.cons (zei (Nat.le_max_left _ _)) (.cons (zei (Nat.le_max_right _ _)) .nil))).va
 ·refine wp_skip ?_
  refine zt ?_
  refine gl (sts:=[none,none,some (3,_),none,none,none,none,none]) (news:=[]) (sp:=[.val 33 _,.val 34 _,.val 35 _,.sto 2]) [] hst (zv rfl rfl (zad (lz0 4 rfl) zab) (zv rfl rfl (zad (lz0 6 rfl) zab) (zv rfl rfl (zb3 (xs:=[(0,.tmp 33),(1,.tmp 34)]) (qs:=[(0,_),(1,_)]) zav (.cons ⟨rfl,(vq 0 rfl),rfl⟩ (.cons ⟨rfl,(vq 1 rfl),rfl⟩ .nil))) (oc (zaa rfl rfl rfl (vq 2 rfl) zae (Eq.trans (b:=4) rfl rfl)) o0)))) (fun a w hst=>?_)
  have hst:St B w0 36 [] [⟨2,24,ptrH,_⟩,⟨3,24,ptrH,_⟩,⟨4,26,ptrH,_⟩,⟨5,24,ptrH,_⟩,⟨6,24,ptrH,_⟩,⟨7,24,ptrH,_⟩,⟨8,24,ptrH,_⟩,⟨9,24,ptrH,_⟩] a w:=hst
  refine za0 ?_
  refine wp_ret ?_
  refine zaq ?_ (zal rfl hst (zm 2 rfl) zae)
  rw [if_neg (sgn_no hb0)] at hn1 hn2; rw [hn1,hn2]; exact (zbg (.cons (zei (Nat.le_max_left _ _)) (.cons (zei (Nat.le_max_right _ _)) .nil))).va
theorem r2plus_q {c d:Nat} {x y:Rat} (hc:c+d≤900000000):Cn Tryz.prog 101 [Qs c x,Qs d y] (Qs (c+d+1) (x+y)):=by
 refine Cn.intro Tryz.func101 rfl zk nq (fun B w0 a hst=>?_)
 have hst:St B w0 24 [(0,Qs c x),(1,Qs d y)] [] a w0.w:=hst
 refine wp_seq ?_
 refine gl (sts:=[]) (news:=[⟨2,26,ptrH,some 0,_,none⟩,⟨3,26,ptrH,some 1,_,none⟩,⟨4,26,ptrH,some 2,_,none⟩]) (sp:=[.alc 0,.alc 1,.alc 2]) [] hst (oc (zai rfl rfl rfl (gq 0 rfl)) (oc (zai rfl rfl rfl (gq 1 rfl)) (oc (zan rfl rfl rfl (Str.zero zav)) o0))) (fun a w hst=>?_)
 have hst:St B w0 24 [] [⟨2,26,ptrH,_⟩,⟨3,26,ptrH,_⟩,⟨4,26,ptrH,_⟩] a w:=hst
 refine zt ?_
 refine zau (anc:=[[],[0],[],[2],[0,1,2,3],[],[5],[],[7],[0,1,2,3,4,5,6,7,8],[0,1,2,3,4,5,6,7,8,9],[],[0,1,2,3,4,5,6,7,8,9,10,11]]) (sts:=[none,none,none]) (news:=[⟨5,24,ptrH,some 11,_,some (12,_)⟩]) (sp:=[.adr 6 2 (.some 0) True,.val 7 _,.adr 8 3 (.some 2) True,.val 9 _,.val 10 _,.adr 11 3 (.some 0) True,.val 12 _,.adr 13 2 (.some 2) True,.val 14 _,.val 15 _,.val 16 _,.alc 3,.sto 3]) [] za6 hst (oc (ob_a rfl rfl (za9 (lz0 0 rfl) zbi)) (zv rfl rfl (za4 0 rfl zk trivial (lz0 0 rfl) (Sub.part 0 rfl rfl) zab) (oc (ob_a rfl rfl (za9 (lz0 1 rfl) zb8)) (zv rfl rfl (za4 2 rfl zk trivial (lz0 1 rfl) (Sub.part 1 rfl rfl) zab) (zv rfl rfl (za5 (xs:=[.tmp 7,.tmp 9]) (zgo zo zo) (.cons (vq 1 rfl) (.cons (vq 3 rfl) .nil))) (oc (ob_a rfl rfl (za9 (lz0 1 rfl) zbi)) (zv rfl rfl (za4 5 rfl zk trivial (lz0 1 rfl) (Sub.part 0 rfl rfl) zab) (oc (ob_a rfl rfl (za9 (lz0 0 rfl) zb8)) (zv rfl rfl (za4 7 rfl zk trivial (lz0 0 rfl) (Sub.part 1 rfl rfl) zab) (zv rfl rfl (za5 (xs:=[.tmp 12,.tmp 14]) (zgo zo zo) (.cons (vq 6 rfl) (.cons (vq 8 rfl) .nil))) (zv rfl rfl (za5 (xs:=[.tmp 10,.tmp 15]) (rplus_z zo zo) (.cons (vq 4 rfl) (.cons (vq 9 rfl) .nil))) (oc (zan rfl rfl rfl (Str.zero zbq)) (oc (zaa rfl rfl rfl (vq 10 rfl) zab (Eq.trans (b:=2) rfl rfl)) o0))))))))))))) zk zk zk zk (fun a w hst=>?_)
 have hst:St B w0 24 [] [⟨2,26,ptrH,_⟩,⟨3,26,ptrH,_⟩,⟨4,26,ptrH,_⟩,⟨5,24,ptrH,_⟩] a w:=hst
 refine zt ?_
 refine zau (anc:=[[],[],[1],[],[3],[1,2,3,4],[0,1,2,3,4,5],[0,1,2,3,4,5,6]]) (sts:=[none,none,some (7,_),none]) (news:=[]) (sp:=[.val 17 _,.adr 18 2 (.some 2) True,.val 19 _,.adr 20 3 (.some 2) True,.val 21 _,.val 22 _,.val 23 _,.sto 2]) [] za6 hst (zv rfl rfl (zad (lz0 3 rfl) zab) (oc (ob_a rfl rfl (za9 (lz0 0 rfl) zb8)) (zv rfl rfl (za4 1 rfl zk trivial (lz0 0 rfl) (Sub.part 1 rfl rfl) zab) (oc (ob_a rfl rfl (za9 (lz0 1 rfl) zb8)) (zv rfl rfl (za4 3 rfl zk trivial (lz0 1 rfl) (Sub.part 1 rfl rfl) zab) (zv rfl rfl (za5 (xs:=[.tmp 19,.tmp 21]) (zgo zo zo) (.cons (vq 2 rfl) (.cons (vq 4 rfl) .nil))) (zv rfl rfl (za5 (xs:=[.tmp 17,.tmp 22]) (zk6 zo zo (den_nz x y)) (.cons (vq 0 rfl) (.cons (vq 5 rfl) .nil))) (oc (zaa rfl rfl rfl (vq 6 rfl) zae (Eq.trans (b:=4) rfl rfl)) o0)))))))) zk zk zk zk (fun a w hst=>?_)
 have hst:St B w0 24 [] [⟨2,26,ptrH,_⟩,⟨3,26,ptrH,_⟩,⟨4,26,ptrH,_⟩,⟨5,24,ptrH,_⟩] a w:=hst
 refine za0 ?_
 refine wp_ret ?_
 refine zaq ?_ (zal rfl hst (zm 2 rfl) zae)
 exact zcl (zc3 (congrArg (Qs _) (rat_add x y))) (zc6 zo).va
theorem zgt {c d:Nat} {x y:Rat} (hc:c+d≤900000000):Cn Tryz.prog 100 [Qs c x,Qs d y] (Qs (c+d) (x*y)):=by
 refine Cn.intro Tryz.func100 rfl zk nq (fun B w0 a hst=>?_)
 have hst:St B w0 16 [(0,Qs c x),(1,Qs d y)] [] a w0.w:=hst
 refine wp_seq ?_
 refine gl (sts:=[]) (news:=[⟨2,26,ptrH,some 0,_,none⟩,⟨3,26,ptrH,some 1,_,none⟩,⟨4,26,ptrH,some 2,_,none⟩]) (sp:=[.alc 0,.alc 1,.alc 2]) [] hst (oc (zai rfl rfl rfl (gq 0 rfl)) (oc (zai rfl rfl rfl (gq 1 rfl)) (oc (zan rfl rfl rfl (Str.zero zav)) o0))) (fun a w hst=>?_)
 have hst:St B w0 16 [] [⟨2,26,ptrH,_⟩,⟨3,26,ptrH,_⟩,⟨4,26,ptrH,_⟩] a w:=hst
 refine zt ?_
 refine zau (anc:=[[],[0],[],[2],[0,1,2,3],[],[5],[],[7],[0,1,2,3,4,5,6,7,8],[0,1,2,3,4,5,6,7,8,9],[0,1,2,3,4,5,6,7,8,9,10]]) (sts:=[none,none,some (11,_)]) (news:=[]) (sp:=[.adr 5 2 (.some 0) True,.val 6 _,.adr 7 3 (.some 0) True,.val 8 _,.val 9 _,.adr 10 2 (.some 2) True,.val 11 _,.adr 12 3 (.some 2) True,.val 13 _,.val 14 _,.val 15 _,.sto 2]) [] za6 hst (oc (ob_a rfl rfl (za9 (lz0 0 rfl) zbi)) (zv rfl rfl (za4 0 rfl zk trivial (lz0 0 rfl) (Sub.part 0 rfl rfl) zab) (oc (ob_a rfl rfl (za9 (lz0 1 rfl) zbi)) (zv rfl rfl (za4 2 rfl zk trivial (lz0 1 rfl) (Sub.part 0 rfl rfl) zab) (zv rfl rfl (za5 (xs:=[.tmp 6,.tmp 8]) (zgo zo zo) (.cons (vq 1 rfl) (.cons (vq 3 rfl) .nil))) (oc (ob_a rfl rfl (za9 (lz0 0 rfl) zb8)) (zv rfl rfl (za4 5 rfl zk trivial (lz0 0 rfl) (Sub.part 1 rfl rfl) zab) (oc (ob_a rfl rfl (za9 (lz0 1 rfl) zb8)) (zv rfl rfl (za4 7 rfl zk trivial (lz0 1 rfl) (Sub.part 1 rfl rfl) zab) (zv rfl rfl (za5 (xs:=[.tmp 11,.tmp 13]) (zgo zo zo) (.cons (vq 6 rfl) (.cons (vq 8 rfl) .nil))) (zv rfl rfl (za5 (xs:=[.tmp 9,.tmp 14]) (zk6 zo zo (den_nz x y)) (.cons (vq 4 rfl) (.cons (vq 9 rfl) .nil))) (oc (zaa rfl rfl rfl (vq 10 rfl) zae (Eq.trans (b:=4) rfl rfl)) o0)))))))))))) zk zk zk zk (fun a w hst=>?_)
 have hst:St B w0 16 [] [⟨2,26,ptrH,_⟩,⟨3,26,ptrH,_⟩,⟨4,26,ptrH,_⟩] a w:=hst
 refine za0 ?_
 refine wp_ret ?_
 refine zaq ?_ (zal rfl hst (zm 2 rfl) zae)
 exact zcl (zc3 (congrArg (Qs _) (rat_mul x y))) (zc6 zo).va
theorem neg_wk {c:Nat} {x:Rat}:WkA (cat [ZA c (-x.num),ZA c (x.den:Int)]) (QA c (-x)):=zfa (by unfold QA; rw [Rat.neg_num,Rat.neg_den])
theorem r2turned_q {c:Nat} {x:Rat} (hc:c≤900000000):Cn Tryz.prog 167 [Qs c x] (Qs c (-x)):=by
 refine Cn.intro Tryz.func167 rfl zk nq (fun B w0 a hst=>?_)
 have hst:St B w0 9 [(0,Qs c x)] [] a w0.w:=hst
 refine wp_seq ?_
 refine gl (sts:=[]) (news:=[⟨1,26,ptrH,some 0,_,none⟩,⟨2,26,ptrH,some 1,_,none⟩]) (sp:=[.alc 0,.alc 1]) [] hst (oc (zai rfl rfl rfl (gq 0 rfl)) (oc (zan rfl rfl rfl (Str.zero zav)) o0)) (fun a w hst=>?_)
 have hst:St B w0 9 [] [⟨1,26,ptrH,_⟩,⟨2,26,ptrH,_⟩] a w:=hst
 refine zt ?_
 refine zau (anc:=[[],[0],[0,1],[],[3],[0,1,2,3,4],[0,1,2,3,4,5]]) (sts:=[none,some (6,_)]) (news:=[]) (sp:=[.adr 3 1 (.some 0) True,.val 4 _,.val 5 _,.adr 6 1 (.some 2) True,.val 7 _,.val 8 _,.sto 1]) [] za6 hst (oc (ob_a rfl rfl (za9 (lz0 0 rfl) zbi)) (zv rfl rfl (za4 0 rfl zk trivial (lz0 0 rfl) (Sub.part 0 rfl rfl) zab) (zv rfl rfl (za5 (xs:=[.tmp 4]) (zhm zo) (.cons (vq 1 rfl) .nil)) (oc (ob_a rfl rfl (za9 (lz0 0 rfl) zb8)) (zv rfl rfl (za4 3 rfl zk trivial (lz0 0 rfl) (Sub.part 1 rfl rfl) zab) (zv rfl rfl (zb3 (xs:=[(0,.tmp 5),(1,.tmp 7)]) (qs:=[(0,_),(1,_)]) zav (.cons ⟨rfl,(vq 2 rfl),rfl⟩ (.cons ⟨rfl,(vq 4 rfl),rfl⟩ .nil))) (oc (zaa rfl rfl rfl (vq 5 rfl) zae (Eq.trans (b:=4) rfl rfl)) o0))))))) zk zk zk zk (fun a w hst=>?_)
 have hst:St B w0 9 [] [⟨1,26,ptrH,_⟩,⟨2,26,ptrH,_⟩] a w:=hst
 refine za0 ?_
 refine wp_ret ?_
 refine zaq ?_ (zal rfl hst (zm 1 rfl) zae)
 exact neg_wk.va
theorem ziu {c d:Nat} {x y:Rat} (hc:c+d≤900000000):Cn Tryz.prog 104 [Qs c x,Qs d y] (Qs (c+d+1) (x - y)):=by
 refine Cn.intro Tryz.func104 rfl zk nq (fun B w0 a hst=>?_)
 have hst:St B w0 9 [(0,Qs c x),(1,Qs d y)] [] a w0.w:=hst
 refine wp_seq ?_
 refine gl (sts:=[]) (news:=[⟨2,26,ptrH,some 0,_,none⟩,⟨3,26,ptrH,some 1,_,none⟩,⟨4,26,ptrH,some 2,_,none⟩]) (sp:=[.alc 0,.alc 1,.alc 2]) [] hst (oc (zai rfl rfl rfl (gq 0 rfl)) (oc (zai rfl rfl rfl (gq 1 rfl)) (oc (zan rfl rfl rfl (Str.zero zav)) o0))) (fun a w hst=>?_)
 have hst:St B w0 9 [] [⟨2,26,ptrH,_⟩,⟨3,26,ptrH,_⟩,⟨4,26,ptrH,_⟩] a w:=hst
 refine zt ?_
 refine zau (anc:=[[],[],[1],[0,1,2],[0,1,2,3]]) (sts:=[none,none,some (4,_)]) (news:=[]) (sp:=[.val 5 _,.val 6 _,.val 7 _,.val 8 _,.sto 2]) [] za6 hst (zv rfl rfl (zad (lz0 0 rfl) zae) (zv rfl rfl (zad (lz0 1 rfl) zae) (zv rfl rfl (za5 (xs:=[.tmp 6]) (r2turned_q zo) (.cons (vq 1 rfl) .nil)) (zv rfl rfl (za5 (xs:=[.tmp 5,.tmp 7]) (r2plus_q zo) (.cons (vq 0 rfl) (.cons (vq 2 rfl) .nil))) (oc (zaa rfl rfl rfl (vq 3 rfl) zae (Eq.trans (b:=4) rfl rfl)) o0))))) zk zk zk zk (fun a w hst=>?_)
 have hst:St B w0 9 [] [⟨2,26,ptrH,_⟩,⟨3,26,ptrH,_⟩,⟨4,26,ptrH,_⟩] a w:=hst
 refine za0 ?_
 refine wp_ret ?_
 refine zaq ?_ (zal rfl hst (zm 2 rfl) zae)
 exact zc3 (congrArg (Qs _) (show x + -y=x - y by grind))
theorem rchk1 {g:Nat} (h:decide ((1:Int)<((g:Nat):Int))=true):g≠1:=by have:=of_decide_eq_true h; omega
theorem rchk2 {g:Nat} (h:decide ((1:Int)<((g:Nat):Int))=false) (h0:g≠0):g=1:=by have:=of_decide_eq_false h; omega
theorem r2checkF_c (xn xd:RI):Cn Tryz.prog 296 [(RFA ⟨xn,xd⟩).va] (In (if okF ⟨xn,xd⟩ then 0 else 1)):=by
 refine Cn.intro Tryz.func296 rfl zk nq (fun B w0 a hst=>?_)
 have hst:St B w0 28 [(0,(RFA ⟨xn,xd⟩).va)] [] a w0.w:=hst
 have hok:=zkt (hst.vals (0,(RFA ⟨xn,xd⟩).va) (zm 0 rfl))
 refine wp_seq ?_
 refine gl (sts:=[]) (news:=[⟨1,26,ptrH,some 0,_,none⟩]) (sp:=[.alc 0,.val 2 _]) [.o 1] hst (oc (zai rfl rfl rfl (gq 0 rfl)) (zv rfl rfl (za2 za3) o0)) (fun a w hst=>?_)
 have hst:St B w0 28 [(2,_)] [⟨1,26,ptrH,_⟩] a w:=hst
 refine zt ?_
 refine wp_seq ?_
 refine gl (sts:=[none]) (news:=[]) (sp:=[.adr 4 1 (.some 0) True,.val 5 _,.val 6 _,.val 7 _,.val 8 _,.adr 9 1 (.some 2) (_=false),.val 10 (Wh (_=false) _),.val 11 (Wh (_=false) _),.val 12 (Wh (_=false) _),.val 13 _,.val 14 _,.adr 15 1 (.some 2) (_=false),.val 16 (Wh (_=false) _),.val 17 (Wh (_=false) _),.val 18 (Wh (_=false) _),.val 19 _]) [.g 0,.o 15] hst (oc (ob_a rfl rfl (za9 (lz0 0 rfl) zbi)) (zv rfl rfl (za4 0 rfl zk trivial (lz0 0 rfl) (Sub.part 0 rfl rfl) zab) (zv rfl rfl (za5 (xs:=[.tmp 5]) (rcheck_c _) (.cons (vq 1 rfl) .nil)) (zv rfl rfl (zd5 (vq 2 rfl) za3) (zv rfl rfl (za1 (vq 3 rfl)) (oc (zcc rfl rfl rfl (vq 4 rfl) nq (fun hg=>za9 (lz0 0 rfl) zb8)) (oc (zam rfl rfl rfl (vq 4 rfl) nq (fun hg=>za4 5 rfl zk hg (lz0 0 rfl) (Sub.part 1 rfl rfl) zab)) (oc (zam rfl rfl rfl (vq 4 rfl) nq (fun hg=>za5 (xs:=[.tmp 10]) (rcheck_c _) (.cons (zac (vq 6 rfl) hg) .nil))) (oc (zam rfl rfl rfl (vq 4 rfl) nq (fun hg=>zd5 (zac (vq 7 rfl) hg) za3)) (zv rfl rfl (r_or (vq 4 rfl) (vq 8 rfl)) (zv rfl rfl (za1 (vq 9 rfl)) (oc (zcc rfl rfl rfl (vq 10 rfl) nq (fun hg=>za9 (lz0 0 rfl) zb8)) (oc (zam rfl rfl rfl (vq 10 rfl) nq (fun hg=>za4 11 rfl zk hg (lz0 0 rfl) (Sub.part 1 rfl rfl) zab)) (oc (zam rfl rfl rfl (vq 10 rfl) nq (fun hg=>za5 (xs:=[.tmp 16]) (zis _) (.cons (zac (vq 12 rfl) hg) .nil))) (oc (zam rfl rfl rfl (vq 10 rfl) nq (fun hg=>r_leq (zac (vq 13 rfl) hg) za3)) (zv rfl rfl (r_or (vq 10 rfl) (vq 14 rfl)) o0)))))))))))))))) (fun a w hst=>?_)
 have hst:St B w0 28 [(2,_),(19,_)] [⟨1,26,ptrH,_⟩] a w:=hst
 refine za0 ?_
 refine za8 hst (zm 1 rfl) (fun hb0=>?_) (fun hb0=>?_)
 ·refine wp_seq ?_
  refine gl (sts:=[none]) (news:=[]) (sp:=[.val 2 _]) [.o 0] hst (zv rfl rfl (za2 za3) o0) (fun a w hst=>?_)
  have hst:St B w0 28 [(2,_)] [⟨1,26,ptrH,_⟩] a w:=hst
  refine za0 ?_
  refine wp_ret ?_
  refine zao ?_
  refine zaq ?_ (zah rfl hst (zm 0 rfl))
  exact zc3 (congrArg In (chk_no hb0))
 ·rw [Bool.or_eq_false_iff,Bool.or_eq_false_iff] at hb0
  obtain ⟨p,rfl,hp⟩:=zk7 hok.1 (ok1 hb0.1.1)
  obtain ⟨q,rfl,hq⟩:=zk7 hok.2 (ok1 hb0.1.2)
  have hq0:0<sgI (riOf q):=by have h2:¬ sgI (riOf q)≤0:=of_decide_eq_false hb0.2; omega
  have hqn:q≠0:=fun e=>by rw [e,zdm] at hq0; exact absurd hq0 zd
  have hgn:Int.gcd p q≠0:=by have:=Int.gcd_pos_of_ne_zero_right p hqn; omega
  refine wp_skip ?_
  refine zt ?_
  refine gl (sts:=[none]) (news:=[⟨3,24,ptrH,some 5,_,some (6,_)⟩]) (sp:=[.adr 20 1 (.some 0) True,.val 21 _,.adr 22 1 (.some 2) True,.val 23 _,.val 24 _,.alc 1,.sto 1]) [.g 0] hst (oc (ob_a rfl rfl (za9 (lz0 0 rfl) zbi)) (zv rfl rfl (za4 0 rfl zk trivial (lz0 0 rfl) (Sub.part 0 rfl rfl) zab) (oc (ob_a rfl rfl (za9 (lz0 0 rfl) zb8)) (zv rfl rfl (za4 2 rfl zk trivial (lz0 0 rfl) (Sub.part 1 rfl rfl) zab) (zv rfl rfl (za5 (xs:=[.tmp 21,.tmp 23]) (ziv p q zo zo) (.cons (vq 1 rfl) (.cons (vq 3 rfl) .nil))) (oc (zan rfl rfl rfl (Str.zero zbq)) (oc (zaa rfl rfl rfl (vq 4 rfl) zab (Eq.trans (b:=2) rfl rfl)) o0))))))) (fun a w hst=>?_)
  have hst:St B w0 28 [(2,_)] [⟨1,26,ptrH,_⟩,⟨3,24,ptrH,_⟩] a w:=hst
  refine zt ?_
  refine wp_seq ?_
  refine zau (anc:=[[],[],[0,1]]) (sts:=[none,none]) (news:=[]) (sp:=[.val 25 _,.val 26 _,.val 27 _]) [.g 0,.o 2] za6 hst (zv rfl rfl (za5 (xs:=[.const (.int .i64 (1))]) (rof_c 1 zd zd) (.cons za3 .nil)) (zv rfl rfl (zad (lz0 1 rfl) zab) (zv rfl rfl (za5 (xs:=[.tmp 25,.tmp 26]) (rbelow_c _ _) (.cons (vq 0 rfl) (.cons (vq 1 rfl) .nil))) o0))) zk zk zk zk (fun a w hst=>?_)
  have hst:St B w0 28 [(2,_),(27,_)] [⟨1,26,ptrH,_⟩,⟨3,24,ptrH,_⟩] a w:=hst
  refine za0 ?_
  refine za8 hst (zm 1 rfl) (fun hb1=>?_) (fun hb1=>?_)
  ·refine wp_seq ?_
   refine gl (sts:=[none,none]) (news:=[]) (sp:=[.val 2 _]) [.o 0] hst (zv rfl rfl (za2 za3) o0) (fun a w hst=>?_)
   have hst:St B w0 28 [(2,_)] [⟨1,26,ptrH,_⟩,⟨3,24,ptrH,_⟩] a w:=hst
   refine za0 ?_
   refine wp_ret ?_
   refine zao ?_
   refine zaq ?_ (zah rfl hst (zm 0 rfl))
   have e1:=rchk1 hb1; exact zc3 (congrArg In (by rw [show okF ⟨riOf p,riOf q⟩=false from by unfold okF; rw [zbw,zbw]; simp [show ¬ Nat.gcd p.natAbs q.natAbs=1 from e1]]; rfl))
  ·refine wp_skip ?_
   refine zt ?_
   refine gl (sts:=[none,none]) (news:=[]) (sp:=[.val 2 _]) [.o 0] hst (zv rfl rfl (za2 za3) o0) (fun a w hst=>?_)
   have hst:St B w0 28 [(2,_)] [⟨1,26,ptrH,_⟩,⟨3,24,ptrH,_⟩] a w:=hst
   refine za0 ?_
   refine wp_ret ?_
   refine zaq ?_ (zah rfl hst (zm 0 rfl))
   have e1:=rchk2 hb1 hgn; exact zc3 (congrArg In (by rw [show okF ⟨riOf p,riOf q⟩=true from by unfold okF; rw [zbw,zbw,ok1 hb0.1.1,ok1 hb0.1.2]; simp [hq0,show Nat.gcd p.natAbs q.natAbs=1 from e1]]; rfl))
theorem ex_r2check : ∃ fn, Tryz.prog.funcs[296]? = some fn ∧ (fn.name == "runtime.NumGoroutine") = false ∧ fn.body.isNone = false := ⟨_, Tryz.func296, by kernel_rfl, by kernel_rfl⟩
theorem r2check_x (x:RF):Cn Tryz.prog 296 [(RFA x).va] (In (if okX x then 0 else 1)) :=
 Cn.know (c:=okL x.num.mag∧okL x.den.mag) ex_r2check (fun B w args ha=>by cases ha with | cons h1 _=>exact zkt h1) fun h=>(r2checkF_c x.num x.den).post (by rw [okX_know h])
theorem r2checks_c (xs:List RF) (hl:xs.length≤1099511627776):Cn Tryz.prog 164 [(SlA 26 [U32] (xs.map RFA)).va] (Bo (xs.all okX)):=by
 refine Cn.introW Tryz.func164 rfl zk nq (.cons (up_sl (fun A hA=>by obtain ⟨x,_,rfl⟩:=List.mem_map.1 hA; exact zjx x)).va .nil) (zfo _).va (fun B w0 a hB0 hst=>?_)
 have hst:St B w0 16 [(0,(SlO 26 [U32] (xs.map RFA) True).va)] [] a w0.w:=hst
 refine wp_seq ?_
 refine gl (sts:=[]) (news:=[]) (sp:=[.val 2 _]) [.g 0,.o 0] hst (zv rfl rfl (za2 zb7) o0) (fun a w hst=>?_)
 have hst:St B w0 16 [(0,_),(2,_)] [] a w:=hst
 refine zt ?_
 refine wp_seq ?_
 refine gl (sts:=[]) (news:=[]) (sp:=[.val 3 _]) [.g 0,.g 1,.o 0] hst (zv rfl rfl (za2 za3) o0) (fun a w hst=>?_)
 have hst:St B w0 16 [(0,_),(2,_),(3,_)] [] a w:=hst
 refine za0 ?_
 refine wp_block ?_
 have hst:=St.sel hst [0,2]
 refine wp_loop_ghost (fun n a w=>∃ j:Nat,(n+j=xs.length∧(xs.take j).all okX=true)∧St B w0 16 [(0,(SlO 26 [U32] (xs.map RFA) True).va),(3,In (j:Nat))] [] a w) (xs.length) ?_ ?_
 ·exact ⟨0,⟨by omega,rfl⟩,hst⟩
 intro n a w hI
 obtain ⟨j,⟨hn,hno⟩,hst⟩:=hI
 refine wp_seq ?_
 refine wp_seq ?_
 refine gl (sts:=[]) (news:=[]) (sp:=[.val 4 _,.val 5 _,.val 6 _,.val 7 _]) [.g 0,.g 1,.o 3] hst (zv rfl rfl (za1 (gq 1 rfl)) (zv rfl rfl (za1 (gq 0 rfl)) (zv rfl rfl (zc1 Tryz.underlying142 (zdq (zb2 (vq 1 rfl)))) (zv rfl rfl (zb9 (vq 0 rfl) (vq 2 rfl)) o0)))) (fun a w hst=>?_)
 have hst:St B w0 16 [(0,_),(3,_),(7,_)] [] a w:=hst
 refine za0 ?_
 refine za8 hst (zm 2 rfl) (fun hb0=>?_) (fun hb0=>?_)
 ·have hj:j<xs.length:=by simp at hb0; omega
  refine wp_skip ?_
  refine zt ?_
  refine wp_block ?_
  refine wp_seq ?_
  refine gl (sts:=[]) (news:=[]) (sp:=[.val 10 _,.val 11 _,.val 12 _,.val 13 _,.val 14 _,.val 15 _]) [.g 0,.g 1,.o 5] hst (zv rfl rfl (za1 (gq 0 rfl)) (zv rfl rfl (za1 (gq 1 rfl)) (zv rfl rfl (zgp zdt (map_n fun _=>rfl) (zdq (zb2 (vq 0 rfl))) (vq 1 rfl) (zka hj)) (zv rfl rfl (zap (vq 2 rfl) zae) (zv rfl rfl (za5 (xs:=[.tmp 13]) (r2check_x _) (.cons (vq 3 rfl) .nil)) (zv rfl rfl (zd5 (vq 4 rfl) za3) o0)))))) (fun a w hst=>?_)
  have hst:St B w0 16 [(0,_),(3,_),(15,_)] [] a w:=hst
  refine za0 ?_
  refine za8 hst (zm 2 rfl) (fun hb1=>?_) (fun hb1=>?_)
  ·refine wp_seq ?_
   refine gl (sts:=[]) (news:=[]) (sp:=[.val 2 _]) [.g 0,.g 1,.o 0] hst (zv rfl rfl (za2 zb7) o0) (fun a w hst=>?_)
   have hst:St B w0 16 [(0,_),(3,_),(2,_)] [] a w:=hst
   refine za0 ?_
   refine wp_ret ?_
   refine zbx ?_
   refine zao ?_
   refine zao ?_
   refine zbx ?_
   refine zao ?_
   refine zar ?_ (zah rfl hst (zm 2 rfl))
   rw [← ok_no hj hb1]
  ·refine wp_skip ?_
   refine zas ?_
   refine za0 ?_
   refine gl (sts:=[]) (news:=[]) (sp:=[.val 8 _,.val 9 _,.val 3 _]) [.g 0,.o 2] hst (zv rfl rfl (za1 (gq 1 rfl)) (zv rfl rfl (zbh (vq 0 rfl) za3 (zbl zo)) (zv rfl rfl (za2 (vq 1 rfl)) o0))) (fun a w hst=>?_)
   have hst:St B w0 16 [(0,_),(3,_)] [] a w:=hst
   refine za0 ?_
   have hst:=St.sel hst [0,1]
   exact ⟨n - 1,by omega,j+1,⟨by omega,ok_yes hj hno hb1⟩,hst⟩
 ·obtain rfl:j=xs.length:=by simp at hb0; omega
  refine wp_exit ?_
  refine za7 ?_
  refine za7 ?_
  refine zag ?_
  refine zt ?_
  refine gl (sts:=[]) (news:=[]) (sp:=[.val 2 _]) [.o 0] hst (zv rfl rfl (za2 zb7) o0) (fun a w hst=>?_)
  have hst:St B w0 16 [(2,_)] [] a w:=hst
  refine za0 ?_
  refine wp_ret ?_
  refine zar ?_ (zah rfl hst (zm 0 rfl))
  rw [List.take_length] at hno; rw [hno]
end Go.Proofs.YthncfchnkjemiaaGreatDoor
namespace Go.Proofs.YthncfchnkjemiaaGreatDoor
open Go Go.RowKit
end Go.Proofs.YthncfchnkjemiaaGreatDoor
namespace Go.Proofs.YthncfchnkjemiaaGreatDoor
open Go Go.RowKit
theorem zkz (x:RG):Cn Tryz.prog 231 [(RGA x).va] (Bo ([x.re,x.im].all okX)):=by
 refine Cn.intro Tryz.func231 rfl zk nq (fun B w0 a hst=>?_)
 have hst:St B w0 9 [(0,(RGA x).va)] [] a w0.w:=hst
 refine wp_seq ?_
 refine gl (sts:=[]) (news:=[⟨1,73,ptrH,some 0,_,none⟩]) (sp:=[.alc 0,.val 2 _]) [.o 1] hst (oc (zai rfl rfl rfl (gq 0 rfl)) (zv rfl rfl (za2 zb7) o0)) (fun a w hst=>?_)
 have hst:St B w0 9 [(2,_)] [⟨1,73,ptrH,_⟩] a w:=hst
 refine zt ?_
 refine gl (sts:=[none]) (news:=[]) (sp:=[.adr 3 1 (.some 0) True,.val 4 _,.adr 5 1 (.some 4) True,.val 6 _,.val 7 _,.val 8 _,.val 2 _]) [.o 6] hst (oc (ob_a rfl rfl (za9 (lz0 0 rfl) zbk)) (zv rfl rfl (za4 0 rfl zk trivial (lz0 0 rfl) (Sub.part 0 rfl rfl) zae) (oc (ob_a rfl rfl (za9 (lz0 0 rfl) zbj)) (zv rfl rfl (za4 2 rfl zk trivial (lz0 0 rfl) (Sub.part 1 rfl rfl) zae) (zv rfl rfl (zco (D:=[U32]) (l:=[_,_]) (xs:=[.tmp 4,.tmp 6]) (zf9 zk) zdt zk (n_ok zk) nq nq nq (.cons (vq 1 rfl) (.cons (vq 3 rfl) .nil)) rfl rfl) (zv rfl rfl (za5 (xs:=[.tmp 7]) (r2checks_c [x.re,x.im] nq) (.cons (vq 4 rfl) .nil)) (zv rfl rfl (za2 (vq 5 rfl)) o0))))))) (fun a w hst=>?_)
 have hst:St B w0 9 [(2,_)] [⟨1,73,ptrH,_⟩] a w:=hst
 refine za0 ?_
 refine wp_ret ?_
 refine zaq ?_ (zah rfl hst (zm 0 rfl))
 exact zbt
end Go.Proofs.YthncfchnkjemiaaGreatDoor
namespace Go.Proofs.YthncfchnkjemiaaGreatDoor
open Go Go.RowKit
theorem big_e {x:RI}:decide ((x.mag.length:Int)>2048)=bigI x:=by unfold bigI; simp
theorem lq_e {q:Rat}:(bigI (riOf q.num) || bigI (riOf (q.den:Int)))=longQ q:=by simp [longQ]
theorem r1long_c (x:RI):Cn Tryz.prog 301 [(RIA x).va] (Bo (bigI x)):=by
 refine Cn.intro Tryz.func301 rfl zk nq (fun B w0 a hst=>?_)
 have hst:St B w0 7 [(0,(RIA x).va)] [] a w0.w:=hst
 refine wp_seq ?_
 refine gl (sts:=[]) (news:=[⟨1,24,ptrH,some 0,_,none⟩]) (sp:=[.alc 0,.val 2 _]) [.o 1] hst (oc (zai rfl rfl rfl (gq 0 rfl)) (zv rfl rfl (za2 zb7) o0)) (fun a w hst=>?_)
 have hst:St B w0 7 [(2,_)] [⟨1,24,ptrH,_⟩] a w:=hst
 refine zt ?_
 refine gl (sts:=[none]) (news:=[]) (sp:=[.adr 3 1 (.some 1) True,.val 4 _,.val 5 _,.val 6 _,.val 2 _]) [.o 4] hst (oc (ob_a rfl rfl (za9 (lz0 0 rfl) zaj)) (zv rfl rfl (za4 0 rfl zk trivial (lz0 0 rfl) (Sub.part 1 rfl rfl) zbb) (zv rfl rfl (zb0 Tryz.underlying22 (vq 1 rfl)) (zv rfl rfl (zfg (vq 2 rfl) za3) (zv rfl rfl (za2 (vq 3 rfl)) o0))))) (fun a w hst=>?_)
 have hst:St B w0 7 [(2,_)] [⟨1,24,ptrH,_⟩] a w:=hst
 refine za0 ?_
 refine wp_ret ?_
 refine zaq ?_ (zah rfl hst (zm 0 rfl))
 exact zc3 (congrArg Bo big_e)
theorem r2long_q {L:List As} (qs:List Rat) (hL:All2 IsQ L qs) (hl:qs.length≤1099511627776):Cn Tryz.prog 179 [(SlA 26 [U32] L).va] (Bo (qs.any longQ)):=by
 have hLl:=hL.length
 refine Cn.introW Tryz.func179 rfl zk nq (.cons (up_sl (isq_up hL)).va .nil) (zfo _).va (fun B w0 a hB0 hst=>?_)
 have hst:St B w0 24 [(0,(SlO 26 [U32] L True).va)] [] a w0.w:=hst
 refine wp_seq ?_
 refine gl (sts:=[]) (news:=[]) (sp:=[.val 2 _]) [.g 0,.o 0] hst (zv rfl rfl (za2 zb7) o0) (fun a w hst=>?_)
 have hst:St B w0 24 [(0,_),(2,_)] [] a w:=hst
 refine zt ?_
 refine wp_seq ?_
 refine gl (sts:=[]) (news:=[]) (sp:=[.val 3 _]) [.g 0,.g 1,.o 0] hst (zv rfl rfl (za2 za3) o0) (fun a w hst=>?_)
 have hst:St B w0 24 [(0,_),(2,_),(3,_)] [] a w:=hst
 refine za0 ?_
 refine wp_block ?_
 have hst:=St.sel hst [0,2]
 refine wp_loop_ghost (fun n a w=>∃ j:Nat,(n+j=qs.length∧(qs.take j).any longQ=false)∧St B w0 24 [(0,(SlO 26 [U32] L True).va),(3,In (j:Nat))] [] a w) (qs.length) ?_ ?_
 ·exact ⟨0,⟨by omega,rfl⟩,hst⟩
 intro n a w hI
 obtain ⟨j,⟨hn,hno⟩,hst⟩:=hI
 refine wp_seq ?_
 refine wp_seq ?_
 refine gl (sts:=[]) (news:=[]) (sp:=[.val 4 _,.val 5 _,.val 6 _,.val 7 _]) [.g 0,.g 1,.o 3] hst (zv rfl rfl (za1 (gq 1 rfl)) (zv rfl rfl (za1 (gq 0 rfl)) (zv rfl rfl (zc1 Tryz.underlying142 (zdq (zb2 (vq 1 rfl)))) (zv rfl rfl (zb9 (vq 0 rfl) (vq 2 rfl)) o0)))) (fun a w hst=>?_)
 have hst:St B w0 24 [(0,_),(3,_),(7,_)] [] a w:=hst
 refine za0 ?_
 refine za8 hst (zm 2 rfl) (fun hb0=>?_) (fun hb0=>?_)
 ·have hj:j<qs.length:=by rw [hLl] at hb0; simp at hb0; omega
  obtain ⟨kj,hLj⟩:=isq_at hL hj
  refine wp_skip ?_
  refine zt ?_
  refine wp_block ?_
  refine wp_seq ?_
  refine gl (sts:=[]) (news:=[]) (sp:=[.val 10 _,.val 11 _,.val 12 _,.val 13 _,.val 14 _,.val 15 _,.val 16 _,.val 17 (Wh (_=false) _),.val 18 (Wh (_=false) _),.val 19 (Wh (_=false) _),.val 20 (Wh (_=false) _),.val 21 (Wh (_=false) _),.val 22 (Wh (_=false) _),.val 23 _]) [.g 0,.g 1,.o 13] hst (zv rfl rfl (za1 (gq 0 rfl)) (zv rfl rfl (za1 (gq 1 rfl)) (zv rfl rfl (zgp zdt (isq_n hL) (zdq (zb2 (vq 0 rfl))) (vq 1 rfl) hLj) (zv rfl rfl (zb4 (vq 2 rfl) zbi (Sub.part 0 rfl rfl)) (zv rfl rfl (zap (vq 3 rfl) zab) (zv rfl rfl (za5 (xs:=[.tmp 14]) ((r1long_c (riOf (qs[j]).num)).wk (.cons zaA.va .nil)) (.cons (vq 4 rfl) .nil)) (zv rfl rfl (za1 (vq 5 rfl)) (oc (zam rfl rfl rfl (vq 6 rfl) nq (fun hg=>za1 (gq 0 rfl))) (oc (zam rfl rfl rfl (vq 6 rfl) nq (fun hg=>za1 (gq 1 rfl))) (oc (zam rfl rfl rfl (vq 6 rfl) nq (fun hg=>zgp zdt (isq_n hL) (zdq (zb2 (zac (vq 7 rfl) hg))) (zac (vq 8 rfl) hg) hLj)) (oc (zam rfl rfl rfl (vq 6 rfl) nq (fun hg=>zb4 (zac (vq 9 rfl) hg) zb8 (Sub.part 1 rfl rfl))) (oc (zam rfl rfl rfl (vq 6 rfl) nq (fun hg=>zap (zac (vq 10 rfl) hg) zab)) (oc (zam rfl rfl rfl (vq 6 rfl) nq (fun hg=>za5 (xs:=[.tmp 21]) ((r1long_c (riOf ((qs[j]).den:Int))).wk (.cons zaA.va .nil)) (.cons (zac (vq 11 rfl) hg) .nil))) (zv rfl rfl (r_or (vq 6 rfl) (vq 12 rfl)) o0)))))))))))))) (fun a w hst=>?_)
  have hst:St B w0 24 [(0,_),(3,_),(23,_)] [] a w:=hst
  refine za0 ?_
  refine za8 hst (zm 2 rfl) (fun hb1=>?_) (fun hb1=>?_)
  ·rw [lq_e] at hb1
   refine wp_seq ?_
   refine gl (sts:=[]) (news:=[]) (sp:=[.val 2 _]) [.g 0,.g 1,.o 0] hst (zv rfl rfl (za2 zb7) o0) (fun a w hst=>?_)
   have hst:St B w0 24 [(0,_),(3,_),(2,_)] [] a w:=hst
   refine za0 ?_
   refine wp_ret ?_
   refine zbx ?_
   refine zao ?_
   refine zao ?_
   refine zbx ?_
   refine zao ?_
   refine zar ?_ (zah rfl hst (zm 2 rfl))
   rw [← lq_some hj hb1]
  ·rw [lq_e] at hb1
   refine wp_skip ?_
   refine zas ?_
   refine za0 ?_
   refine gl (sts:=[]) (news:=[]) (sp:=[.val 8 _,.val 9 _,.val 3 _]) [.g 0,.o 2] hst (zv rfl rfl (za1 (gq 1 rfl)) (zv rfl rfl (zbh (vq 0 rfl) za3 (zbl zo)) (zv rfl rfl (za2 (vq 1 rfl)) o0))) (fun a w hst=>?_)
   have hst:St B w0 24 [(0,_),(3,_)] [] a w:=hst
   refine za0 ?_
   have hst:=St.sel hst [0,1]
   exact ⟨n - 1,by omega,j+1,⟨by omega,lq_no hj hno hb1⟩,hst⟩
 ·obtain rfl:j=qs.length:=by rw [hLl] at hb0; simp at hb0; omega
  refine wp_exit ?_
  refine za7 ?_
  refine za7 ?_
  refine zag ?_
  refine zt ?_
  refine gl (sts:=[]) (news:=[]) (sp:=[.val 2 _]) [.o 0] hst (zv rfl rfl (za2 zb7) o0) (fun a w hst=>?_)
  have hst:St B w0 24 [(2,_)] [] a w:=hst
  refine za0 ?_
  refine wp_ret ?_
  refine zar ?_ (zah rfl hst (zm 0 rfl))
  rw [List.take_length] at hno; rw [hno]
end Go.Proofs.YthncfchnkjemiaaGreatDoor
namespace Go.Proofs.YthncfchnkjemiaaGreatDoor
open Go Go.RowKit
def g3min (x y:GQ):GQ:=⟨x.re - y.re,x.im - y.im⟩
def g3tm (x y:GQ):GQ:=⟨x.re*y.re - x.im*y.im,x.re*y.im+x.im*y.re⟩
theorem r3minus_q {c d:Nat} {x y:GQ} (hk:c+d≤900000000):Cn Tryz.prog 184 [(QGA c x).va,(QGA d y).va] ((QGA (c+d+1) (g3min x y)).va):=by
 refine Cn.intro Tryz.func184 rfl zk nq (fun B w0 a hst=>?_)
 have hst:St B w0 16 [(0,(QGA c x).va),(1,(QGA d y).va)] [] a w0.w:=hst
 refine wp_seq ?_
 refine gl (sts:=[]) (news:=[⟨2,73,ptrH,some 0,_,none⟩,⟨3,73,ptrH,some 1,_,none⟩,⟨4,73,ptrH,some 2,_,none⟩]) (sp:=[.alc 0,.alc 1,.alc 2]) [] hst (oc (zai rfl rfl rfl (gq 0 rfl)) (oc (zai rfl rfl rfl (gq 1 rfl)) (oc (zan rfl rfl rfl (Str.zero zaz)) o0))) (fun a w hst=>?_)
 have hst:St B w0 16 [] [⟨2,73,ptrH,_⟩,⟨3,73,ptrH,_⟩,⟨4,73,ptrH,_⟩] a w:=hst
 refine zt ?_
 refine zau (anc:=[[],[0],[],[2],[0,1,2,3],[],[5],[],[7],[0,1,2,3,4,5,6,7,8],[0,1,2,3,4,5,6,7,8,9],[0,1,2,3,4,5,6,7,8,9,10]]) (sts:=[none,none,some (11,_)]) (news:=[]) (sp:=[.adr 5 2 (.some 0) True,.val 6 _,.adr 7 3 (.some 0) True,.val 8 _,.val 9 _,.adr 10 2 (.some 4) True,.val 11 _,.adr 12 3 (.some 4) True,.val 13 _,.val 14 _,.val 15 _,.sto 2]) [] za6 hst (oc (ob_a rfl rfl (za9 (lz0 0 rfl) zbk)) (zv rfl rfl (za4 0 rfl zk trivial (lz0 0 rfl) (Sub.part 0 rfl rfl) zae) (oc (ob_a rfl rfl (za9 (lz0 1 rfl) zbk)) (zv rfl rfl (za4 2 rfl zk trivial (lz0 1 rfl) (Sub.part 0 rfl rfl) zae) (zv rfl rfl (za5 (xs:=[.tmp 6,.tmp 8]) (ziu zo) (.cons (vq 1 rfl) (.cons (vq 3 rfl) .nil))) (oc (ob_a rfl rfl (za9 (lz0 0 rfl) zbj)) (zv rfl rfl (za4 5 rfl zk trivial (lz0 0 rfl) (Sub.part 1 rfl rfl) zae) (oc (ob_a rfl rfl (za9 (lz0 1 rfl) zbj)) (zv rfl rfl (za4 7 rfl zk trivial (lz0 1 rfl) (Sub.part 1 rfl rfl) zae) (zv rfl rfl (za5 (xs:=[.tmp 11,.tmp 13]) (ziu zo) (.cons (vq 6 rfl) (.cons (vq 8 rfl) .nil))) (zv rfl rfl (zb3 (xs:=[(0,.tmp 9),(1,.tmp 14)]) (qs:=[(0,_),(1,_)]) zaz (.cons ⟨rfl,(vq 4 rfl),rfl⟩ (.cons ⟨rfl,(vq 9 rfl),rfl⟩ .nil))) (oc (zaa rfl rfl rfl (vq 10 rfl) zb1 (Eq.trans (b:=8) rfl rfl)) o0)))))))))))) zk zk zk zk (fun a w hst=>?_)
 have hst:St B w0 16 [] [⟨2,73,ptrH,_⟩,⟨3,73,ptrH,_⟩,⟨4,73,ptrH,_⟩] a w:=hst
 refine za0 ?_
 refine wp_ret ?_
 refine zaq ?_ (zal rfl hst (zm 2 rfl) zb1)
 exact zbt
theorem r3times_q {c d:Nat} {x y:GQ} (hk:c+d≤200000000):Cn Tryz.prog 233 [(QGA c x).va,(QGA d y).va] ((QGA (c+d+(c+d)+1) (g3tm x y)).va):=by
 refine Cn.intro Tryz.func233 rfl zk nq (fun B w0 a hst=>?_)
 have hst:St B w0 32 [(0,(QGA c x).va),(1,(QGA d y).va)] [] a w0.w:=hst
 refine wp_seq ?_
 refine gl (sts:=[]) (news:=[⟨2,73,ptrH,some 0,_,none⟩,⟨3,73,ptrH,some 1,_,none⟩,⟨4,73,ptrH,some 2,_,none⟩]) (sp:=[.alc 0,.alc 1,.alc 2]) [] hst (oc (zai rfl rfl rfl (gq 0 rfl)) (oc (zai rfl rfl rfl (gq 1 rfl)) (oc (zan rfl rfl rfl (Str.zero zaz)) o0))) (fun a w hst=>?_)
 have hst:St B w0 32 [] [⟨2,73,ptrH,_⟩,⟨3,73,ptrH,_⟩,⟨4,73,ptrH,_⟩] a w:=hst
 refine zt ?_
 refine zau (anc:=[[],[0],[],[2],[0,1,2,3],[],[5],[],[7],[0,1,2,3,4,5,6,7,8],[0,1,2,3,4,5,6,7,8,9],[],[0,1,2,3,4,5,6,7,8,9,10,11]]) (sts:=[none,none,none]) (news:=[⟨5,26,ptrH,some 11,_,some (12,_)⟩]) (sp:=[.adr 7 2 (.some 0) True,.val 8 _,.adr 9 3 (.some 0) True,.val 10 _,.val 11 _,.adr 12 2 (.some 4) True,.val 13 _,.adr 14 3 (.some 4) True,.val 15 _,.val 16 _,.val 17 _,.alc 3,.sto 3]) [] za6 hst (oc (ob_a rfl rfl (za9 (lz0 0 rfl) zbk)) (zv rfl rfl (za4 0 rfl zk trivial (lz0 0 rfl) (Sub.part 0 rfl rfl) zae) (oc (ob_a rfl rfl (za9 (lz0 1 rfl) zbk)) (zv rfl rfl (za4 2 rfl zk trivial (lz0 1 rfl) (Sub.part 0 rfl rfl) zae) (zv rfl rfl (za5 (xs:=[.tmp 8,.tmp 10]) (zgt zo) (.cons (vq 1 rfl) (.cons (vq 3 rfl) .nil))) (oc (ob_a rfl rfl (za9 (lz0 0 rfl) zbj)) (zv rfl rfl (za4 5 rfl zk trivial (lz0 0 rfl) (Sub.part 1 rfl rfl) zae) (oc (ob_a rfl rfl (za9 (lz0 1 rfl) zbj)) (zv rfl rfl (za4 7 rfl zk trivial (lz0 1 rfl) (Sub.part 1 rfl rfl) zae) (zv rfl rfl (za5 (xs:=[.tmp 13,.tmp 15]) (zgt zo) (.cons (vq 6 rfl) (.cons (vq 8 rfl) .nil))) (zv rfl rfl (za5 (xs:=[.tmp 11,.tmp 16]) (ziu zo) (.cons (vq 4 rfl) (.cons (vq 9 rfl) .nil))) (oc (zan rfl rfl rfl (Str.zero zav)) (oc (zaa rfl rfl rfl (vq 10 rfl) zae (Eq.trans (b:=4) rfl rfl)) o0))))))))))))) zk zk zk zk (fun a w hst=>?_)
 have hst:St B w0 32 [] [⟨2,73,ptrH,_⟩,⟨3,73,ptrH,_⟩,⟨4,73,ptrH,_⟩,⟨5,26,ptrH,_⟩] a w:=hst
 refine zt ?_
 refine zau (anc:=[[],[0],[],[2],[0,1,2,3],[],[5],[],[7],[0,1,2,3,4,5,6,7,8],[0,1,2,3,4,5,6,7,8,9],[],[0,1,2,3,4,5,6,7,8,9,10,11]]) (sts:=[none,none,none,none]) (news:=[⟨6,26,ptrH,some 11,_,some (12,_)⟩]) (sp:=[.adr 18 2 (.some 0) True,.val 19 _,.adr 20 3 (.some 4) True,.val 21 _,.val 22 _,.adr 23 2 (.some 4) True,.val 24 _,.adr 25 3 (.some 0) True,.val 26 _,.val 27 _,.val 28 _,.alc 4,.sto 4]) [] za6 hst (oc (ob_a rfl rfl (za9 (lz0 0 rfl) zbk)) (zv rfl rfl (za4 0 rfl zk trivial (lz0 0 rfl) (Sub.part 0 rfl rfl) zae) (oc (ob_a rfl rfl (za9 (lz0 1 rfl) zbj)) (zv rfl rfl (za4 2 rfl zk trivial (lz0 1 rfl) (Sub.part 1 rfl rfl) zae) (zv rfl rfl (za5 (xs:=[.tmp 19,.tmp 21]) (zgt zo) (.cons (vq 1 rfl) (.cons (vq 3 rfl) .nil))) (oc (ob_a rfl rfl (za9 (lz0 0 rfl) zbj)) (zv rfl rfl (za4 5 rfl zk trivial (lz0 0 rfl) (Sub.part 1 rfl rfl) zae) (oc (ob_a rfl rfl (za9 (lz0 1 rfl) zbk)) (zv rfl rfl (za4 7 rfl zk trivial (lz0 1 rfl) (Sub.part 0 rfl rfl) zae) (zv rfl rfl (za5 (xs:=[.tmp 24,.tmp 26]) (zgt zo) (.cons (vq 6 rfl) (.cons (vq 8 rfl) .nil))) (zv rfl rfl (za5 (xs:=[.tmp 22,.tmp 27]) (r2plus_q zo) (.cons (vq 4 rfl) (.cons (vq 9 rfl) .nil))) (oc (zan rfl rfl rfl (Str.zero zav)) (oc (zaa rfl rfl rfl (vq 10 rfl) zae (Eq.trans (b:=4) rfl rfl)) o0))))))))))))) zk zk zk zk (fun a w hst=>?_)
 have hst:St B w0 32 [] [⟨2,73,ptrH,_⟩,⟨3,73,ptrH,_⟩,⟨4,73,ptrH,_⟩,⟨5,26,ptrH,_⟩,⟨6,26,ptrH,_⟩] a w:=hst
 refine zt ?_
 refine gl (sts:=[none,none,some (3,_),none,none]) (news:=[]) (sp:=[.val 29 _,.val 30 _,.val 31 _,.sto 2]) [] hst (zv rfl rfl (zad (lz0 3 rfl) zae) (zv rfl rfl (zad (lz0 4 rfl) zae) (zv rfl rfl (zb3 (xs:=[(0,.tmp 29),(1,.tmp 30)]) (qs:=[(0,_),(1,_)]) zaz (.cons ⟨rfl,(vq 0 rfl),rfl⟩ (.cons ⟨rfl,(vq 1 rfl),rfl⟩ .nil))) (oc (zaa rfl rfl rfl (vq 2 rfl) zb1 (Eq.trans (b:=8) rfl rfl)) o0)))) (fun a w hst=>?_)
 have hst:St B w0 32 [] [⟨2,73,ptrH,_⟩,⟨3,73,ptrH,_⟩,⟨4,73,ptrH,_⟩,⟨5,26,ptrH,_⟩,⟨6,26,ptrH,_⟩] a w:=hst
 refine za0 ?_
 refine wp_ret ?_
 refine zaq ?_ (zal rfl hst (zm 2 rfl) zb1)
 exact zbt
end Go.Proofs.YthncfchnkjemiaaGreatDoor
namespace Go.Proofs.YthncfchnkjemiaaGreatDoor
open Go Go.RowKit
theorem r2answer_q {L:List As} (qs:List Rat) (hL:All2 IsQ L qs) (hl:qs.length≤1099511627776):Cn Tryz.prog 200 [(SlA 26 [U32] L).va] (In (if qs.any longQ then 4 else 0)):=by
 refine Cn.intro Tryz.func200 rfl zk nq (fun B w0 a hst=>?_)
 have hst:St B w0 5 [(0,(SlA 26 [U32] L).va)] [] a w0.w:=hst
 refine wp_seq ?_
 refine gl (sts:=[]) (news:=[]) (sp:=[.val 2 _]) [.g 0,.o 0] hst (zv rfl rfl (za2 za3) o0) (fun a w hst=>?_)
 have hst:St B w0 5 [(0,_),(2,_)] [] a w:=hst
 refine zt ?_
 refine wp_seq ?_
 refine gl (sts:=[]) (news:=[]) (sp:=[.val 3 _,.val 4 _]) [.g 1,.o 1] hst (zv rfl rfl (za1 (gq 0 rfl)) (zv rfl rfl (za5 (xs:=[.tmp 3]) (r2long_q qs hL hl) (.cons (vq 0 rfl) .nil)) o0)) (fun a w hst=>?_)
 have hst:St B w0 5 [(2,_),(4,_)] [] a w:=hst
 refine za0 ?_
 refine za8 hst (zm 1 rfl) (fun hb0=>?_) (fun hb0=>?_)
 ·refine wp_seq ?_
  refine gl (sts:=[]) (news:=[]) (sp:=[.val 2 _]) [.o 0] hst (zv rfl rfl (za2 za3) o0) (fun a w hst=>?_)
  have hst:St B w0 5 [(2,_)] [] a w:=hst
  refine za0 ?_
  refine wp_ret ?_
  refine zao ?_
  refine zaq ?_ (zah rfl hst (zm 0 rfl))
  rw [hb0]; exact zbt
 ·refine wp_skip ?_
  refine zt ?_
  refine gl (sts:=[]) (news:=[]) (sp:=[.val 2 _]) [.o 0] hst (zv rfl rfl (za2 za3) o0) (fun a w hst=>?_)
  have hst:St B w0 5 [(2,_)] [] a w:=hst
  refine za0 ?_
  refine wp_ret ?_
  refine zaq ?_ (zah rfl hst (zm 0 rfl))
  rw [hb0]; exact zbt
end Go.Proofs.YthncfchnkjemiaaGreatDoor
namespace Go.Proofs.YthncfchnkjemiaaGreatDoor
open Go Go.RowKit
open Go.ChangeShapes Go.WideShapes Go.ChangeAt
section
variable {H:Type} {enc:TypeId × Value→H} {w:World} {base:Nat} {spare:Nat→Bool} {held:Bool} {fuel:Nat} {cs:List Value} {x:DataW H × List MemPlace}
end
end Go.Proofs.YthncfchnkjemiaaGreatDoor
