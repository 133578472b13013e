import Derived.Test.YthncfchnkjemiaaGreatDoorRmAa
import Derived.Test.YthncfchnkjemiaaGreatDoorRmAc
import Derived.Test.YthncfchnkjemiaaGreatDoorRmAl
import Derived.Test.YthncfchnkjemiaaGreatDoorRmAx
set_option linter.unusedVariables false
set_option linter.unusedSimpArgs false
set_option linter.unusedSectionVars false
set_option maxRecDepth 100000
namespace Go.Proofs.YthncfchnkjemiaaGreatDoor
open Go Go.RowKit
theorem zwk : ∃ fn, Tryz.prog.funcs[251]? = some fn ∧ (fn.name == "runtime.NumGoroutine") = false ∧ fn.body.isNone = false := ⟨_, Tryz.func251, by kernel_rfl, by kernel_rfl⟩
theorem ex_rPlus : ∃ fn, Tryz.prog.funcs[252]? = some fn ∧ (fn.name == "runtime.NumGoroutine") = false ∧ fn.body.isNone = false := ⟨_, Tryz.func252, by kernel_rfl, by kernel_rfl⟩
theorem zwl : ∃ fn, Tryz.prog.funcs[327]? = some fn ∧ (fn.name == "runtime.NumGoroutine") = false ∧ fn.body.isNone = false := ⟨_, Tryz.func327, by kernel_rfl, by kernel_rfl⟩
theorem zso : ∃ fn, Tryz.prog.funcs[329]? = some fn ∧ (fn.name == "runtime.NumGoroutine") = false ∧ fn.body.isNone = false := ⟨_, Tryz.func329, by kernel_rfl, by kernel_rfl⟩
theorem ex_rSign : ∃ fn, Tryz.prog.funcs[297]? = some fn ∧ (fn.name == "runtime.NumGoroutine") = false ∧ fn.body.isNone = false := ⟨_, Tryz.func297, by kernel_rfl, by kernel_rfl⟩
theorem zpa : ∃ fn, Tryz.prog.funcs[298]? = some fn ∧ (fn.name == "runtime.NumGoroutine") = false ∧ fn.body.isNone = false := ⟨_, Tryz.func298, by kernel_rfl, by kernel_rfl⟩
theorem zol (p:Int)(hp:lz p≤1000000000):Cn Tryz.prog 298 [Zi p] (Zi (-p)):=by
 refine Cn.intro Tryz.func298 rfl zk nq (fun B w0 a hst=>?_)
 have hst:St B w0 6 [(0,Zi p)] [] a w0.w:=hst
 refine wp_seq ?_
 refine gl (sts:=[]) (news:=[⟨1,24,ptrH,some 0,_,none⟩,⟨2,24,ptrH,some 1,_,none⟩]) (sp:=[.alc 0,.alc 1]) [] hst (oc (zak rfl rfl rfl (gq 0 rfl)) (oc (zas rfl rfl rfl (Str.zero zbq)) o0)) (fun a w hst=>?_)
 have hst:St B w0 6 [] [⟨1,24,ptrH,_⟩,⟨2,24,ptrH,_⟩] a w:=hst
 refine zt<|zay (anc:=[[],[],[0,1],[0,1,2]]) (sts:=[none,some (3,_)]) (news:=[]) (sp:=[.val 3 _,.val 4 _,.val 5 _,.sto 1]) [] za7 hst (zv rfl (za5 (xs:=[.const (.int .i64 (0))]) (zyc 0 zd zd) (.cons za3 .nil)) (zv rfl (zab (lz0 0 rfl) zac) (zv rfl (za5 (xs:=[.tmp 3,.tmp 4]) (zn3 0 p (by simp [lz,zbv]) hp) (.cons (vq 0 rfl) (.cons (vq 1 rfl) .nil))) (oc (zag rfl rfl rfl (vq 2 rfl) zac (Eq.trans (b:=2) rfl rfl)) o0)))) zk zk zk zk (fun a w hst=>?_)
 have hst:St B w0 6 [] [⟨1,24,ptrH,_⟩,⟨2,24,ptrH,_⟩] a w:=hst
 refine za0 ?_
 refine wp_ret ?_
 refine zan ?_ (zao rfl hst (zm 1 rfl) zac)
 exact zbz (congrArg Zi (Int.zero_sub p))
section
variable {a b:Nat} {p q:Int} (ha:a≤1000000000)
include ha
theorem zi8:Cn Tryz.prog 298 [Zs a p] (Zs a (-p)):=zs1 zpa fun h=>(zol p zo).wkp (zgp (by rw [zgv]; exact h))
variable (hb:b≤1000000000)
include hb
theorem zfe:Cn Tryz.prog 251 [Zs a p,Zs b q] (Zs (a+b) (p*q)):=zs2 zwk fun h h'=>(zu6 p q zo zo).wkp (zgp (by have:=zvs p q; omega))
theorem rplus_z:Cn Tryz.prog 252 [Zs a p,Zs b q] (Zs (max a b+1) (p+q)):=zs2 ex_rPlus fun h h'=>(zpz p q zo zo).wkp (zgp (by have:=zqg p q; omega))
theorem zyd:Cn Tryz.prog 327 [Zs a p,Zs b q] (Zs (max a b+1) (p-q)):=zs2 zwl fun h h'=>(zn3 p q zo zo).wkp (zgp (by have:=lz_sub p q; omega))
theorem zn4 (hq:q≠0):Cn Tryz.prog 329 [Zs a p,Zs b q] (Tu [Zs a (p.tdiv q),Zs b (p.tmod q)]):=zs2 zso fun h h'=>(zkn p q hq zo zo).wkp (zxm (.cons (zgp (by have:=zjm p q; omega)) (.cons (zgp (by have:=lz_tm (p:=p) hq; omega)) .nil)))
end
theorem zub {a:Nat}{p:Int}:Cn Tryz.prog 297 [Zs a p] (In p.sign):=zs1 ex_rSign fun _=>(zjh (riOf p)).post (by rw [ze8])
theorem rof_z {n:Int}(h0 : -9223372036854775808≤n)(h1:n<9223372036854775808):Cn Tryz.prog 253 [In n] (Zs 2 n):=(zyc n h0 h1).wkp (zgp (zlu zo))
theorem lz_tmod1 {p q:Int}(h:q≠0)(hq:lz q≤1000000000):lz (p.tmod q)≤1000000000:=Nat.le_trans (lz_tm h) hq
theorem gcd_tmod {X Y:Int}(h:Y≠0):Int.gcd Y (X.tmod Y)=Int.gcd X Y:=by
 show Nat.gcd Y.natAbs (X.tmod Y).natAbs=Nat.gcd X.natAbs Y.natAbs
 rw [zhf,Nat.gcd_comm X.natAbs,Nat.gcd_comm,← Nat.gcd_rec]
theorem zjl (p q:Int)(hp:lz p≤1000000000)(hq:lz q≤1000000000):Cn Tryz.prog 328 [Zi p,Zi q] (Zi ((Int.gcd p q:Nat):Int)):=by
 refine Cn.intro Tryz.func328 rfl zk nq (fun B w0 a hst=>?_)
 have hst:St B w0 33 [(0,Zi p),(1,Zi q)] [] a w0.w:=hst
 refine wp_seq ?_
 refine gl (sts:=[]) (news:=[⟨2,24,ptrH,some 0,_,none⟩,⟨3,24,ptrH,some 1,_,none⟩,⟨4,24,ptrH,some 2,_,none⟩]) (sp:=[.alc 0,.alc 1,.alc 2]) [] hst (oc (zak rfl rfl rfl (gq 0 rfl)) (oc (zak rfl rfl rfl (gq 1 rfl)) (oc (zas rfl rfl rfl (Str.zero zbq)) o0))) (fun a w hst=>?_)
 have hst:St B w0 33 [] [⟨2,24,ptrH,_⟩,⟨3,24,ptrH,_⟩,⟨4,24,ptrH,_⟩] a w:=hst
 refine zt ?_
 refine wp_seq ?_
 refine zay (anc:=[[],[0],[],[0,1,2],[0,1,2,3]]) (sts:=[none,none,none]) (news:=[]) (sp:=[.val 7 _,.val 8 _,.val 9 _,.val 10 _,.val 11 _]) [.o 4] za7 hst (zv rfl (zab (lz0 0 rfl) zac) (zv rfl (za5 (xs:=[.tmp 7]) (zoi p hp) (.cons (vq 0 rfl) .nil)) (zv rfl (zab (lz0 1 rfl) zac) (zv rfl (za5 (xs:=[.tmp 9]) (zoi q hq) (.cons (vq 2 rfl) .nil)) (zv rfl (zba (vq 1 rfl) (vq 3 rfl)) o0))))) zk zk zk zk (fun a w hst=>?_)
 have hst:St B w0 33 [(11,_)] [⟨2,24,ptrH,_⟩,⟨3,24,ptrH,_⟩,⟨4,24,ptrH,_⟩] a w:=hst
 refine za0 ?_
 refine zcn (fun a w=>∃ X Y:Int,(lz X≤1000000000∧lz Y≤1000000000∧Int.gcd X Y=Int.gcd p q)∧St B w0 33 [] [⟨2,24,ptrH,RIA (riOf X)⟩,⟨3,24,ptrH,RIA (riOf Y)⟩,⟨4,24,ptrH,cat [BoA false,MgA []]⟩] a w) hst (zm 0 rfl) (fun hb0=>?_) (fun hb0=>?_) (fun a w hst=>?_)
 ·refine gl (sts:=[some (2,_),some (3,_),none]) (news:=[]) (sp:=[.val 12 _,.val 13 _,.sto 0,.sto 1]) [] hst (zv rfl (zab (lz0 1 rfl) zac) (zv rfl (zab (lz0 0 rfl) zac) (oc (zag rfl rfl rfl (vq 0 rfl) zac (Eq.trans (b:=2) rfl rfl)) (oc (zag rfl rfl rfl (vq 1 rfl) zac (Eq.trans (b:=2) rfl rfl)) o0)))) (fun a w hst=>?_)
  have hst:St B w0 33 [] [⟨2,24,ptrH,_⟩,⟨3,24,ptrH,_⟩,⟨4,24,ptrH,_⟩] a w:=hst
  refine za0 ?_
  have hst:=St.sel hst []
  exact ⟨q,p,⟨hq,hp,Int.gcd_comm q p⟩,hst⟩
 ·refine wp_skip ?_
  refine za0 ?_
  have hst:=St.sel hst []
  exact ⟨p,q,⟨hp,hq,rfl⟩,hst⟩
 obtain ⟨X,Y,⟨hX,hY,hg⟩,hst⟩:=hst
 refine zt ?_
 refine wp_seq ?_
 refine gl (sts:=[none,none,none]) (news:=[]) (sp:=[.val 14 _,.val 15 _,.val 16 _]) [.o 2] hst (zv rfl (zab (lz0 1 rfl) zac) (zv rfl (za5 (xs:=[.tmp 14]) ((zjh (riOf Y)).post (by rw [ze8])) (.cons (vq 0 rfl) .nil)) (zv rfl (zdq (vq 1 rfl) za3) o0))) (fun a w hst=>?_)
 have hst:St B w0 33 [(16,_)] [⟨2,24,ptrH,_⟩,⟨3,24,ptrH,_⟩,⟨4,24,ptrH,_⟩] a w:=hst
 refine za0 ?_
 refine za8 hst (zm 0 rfl) (fun hb1=>?_) (fun hb1=>?_)
 ·refine wp_seq ?_
  refine gl (sts:=[none,none,some (3,_)]) (news:=[]) (sp:=[.val 17 _,.val 18 _,.val 19 _,.sto 2]) [] hst (zv rfl (zab (lz0 0 rfl) zac) (zv rfl (zab (lz0 1 rfl) zac) (zv rfl (za5 (xs:=[.tmp 17,.tmp 18]) (zko X Y hX hY) (.cons (vq 0 rfl) (.cons (vq 1 rfl) .nil))) (oc (zag rfl rfl rfl (vq 2 rfl) zac (Eq.trans (b:=2) rfl rfl)) o0)))) (fun a w hst=>?_)
  have hst:St B w0 33 [] [⟨2,24,ptrH,_⟩,⟨3,24,ptrH,_⟩,⟨4,24,ptrH,_⟩] a w:=hst
  refine za0 ?_
  refine wp_ret ?_
  refine zar ?_
  refine zan ?_ (zao rfl hst (zm 2 rfl) zac)
  exact zbz (congrArg (fun n:Nat=>Zi (n:Int)) hg)
 ·have hY0:Y≠0:=fun e=>by rw [e] at hb1; exact absurd hb1 zd
  refine wp_skip ?_
  refine zt<|gl (sts:=[none,none,none]) (news:=[⟨5,24,ptrH,some 6,_,some (8,_)⟩,⟨6,24,ptrH,some 7,_,some (9,_)⟩]) (sp:=[.val 21 _,.val 22 _,.val 23 _,.val 20 _,.val 24 _,.val 25 _,.alc 3,.alc 4,.sto 3,.sto 4]) [] hst (zv rfl (zab (lz0 0 rfl) zac) (zv rfl (zab (lz0 1 rfl) zac) (zv rfl (za5 (xs:=[.tmp 21,.tmp 22]) (zkn X Y hY0 hX hY) (.cons (vq 0 rfl) (.cons (vq 1 rfl) .nil))) (zv rfl (za2 (vq 2 rfl)) (zv rfl (zb6 (vq 3 rfl) rfl) (zv rfl (zb6 (vq 3 rfl) rfl) (oc (zas rfl rfl rfl (Str.zero zbq)) (oc (zas rfl rfl rfl (Str.zero zbq)) (oc (zag rfl rfl rfl (vq 4 rfl) zac (Eq.trans (b:=2) rfl rfl)) (oc (zag rfl rfl rfl (vq 5 rfl) zac (Eq.trans (b:=2) rfl rfl)) o0)))))))))) (fun a w hst=>?_)
  have hst:St B w0 33 [] [⟨2,24,ptrH,_⟩,⟨3,24,ptrH,_⟩,⟨4,24,ptrH,_⟩,⟨5,24,ptrH,_⟩,⟨6,24,ptrH,_⟩] a w:=hst
  refine zt ?_
  refine wp_seq ?_
  refine gl (sts:=[none,none,none,none,none]) (news:=[]) (sp:=[.val 26 _,.val 27 _,.val 28 _]) [.o 2] hst (zv rfl (zab (lz0 1 rfl) zac) (zv rfl (za5 (xs:=[.tmp 26]) (zoi Y hY) (.cons (vq 0 rfl) .nil)) (zv rfl (zdq (vq 1 rfl) za3) o0))) (fun a w hst=>?_)
  have hst:St B w0 33 [(28,_)] [⟨2,24,ptrH,_⟩,⟨3,24,ptrH,_⟩,⟨4,24,ptrH,_⟩,⟨5,24,ptrH,_⟩,⟨6,24,ptrH,_⟩] a w:=hst
  refine za0 ?_
  refine za8 hst (zm 0 rfl) (fun hb2=>?_) (fun hb2=>?_)
  ·have h1:Y.natAbs=1:=bitF_one (by have:=beq_iff_eq.1 hb2; omega)
   refine wp_seq ?_
   refine gl (sts:=[none,none,some (1,_),none,none]) (news:=[]) (sp:=[.val 29 _,.sto 2]) [] hst (zv rfl (za5 (xs:=[.const (.int .i64 (1))]) (zyc 1 zd zd) (.cons za3 .nil)) (oc (zag rfl rfl rfl (vq 0 rfl) zac (Eq.trans (b:=2) rfl rfl)) o0)) (fun a w hst=>?_)
   have hst:St B w0 33 [] [⟨2,24,ptrH,_⟩,⟨3,24,ptrH,_⟩,⟨4,24,ptrH,_⟩,⟨5,24,ptrH,_⟩,⟨6,24,ptrH,_⟩] a w:=hst
   refine za0 ?_
   refine wp_ret ?_
   refine zar ?_
   refine zan ?_ (zao rfl hst (zm 2 rfl) zac)
   exact zbz (congrArg (fun n:Nat=>Zi (n:Int)) (show 1=Int.gcd p q by rw [← hg]; show 1=Nat.gcd X.natAbs Y.natAbs; rw [h1,Nat.gcd_one_right]))
  ·refine wp_skip ?_
   refine zt<|gl (sts:=[none,none,some (3,_),none,none]) (news:=[]) (sp:=[.val 30 _,.val 31 _,.val 32 _,.sto 2]) [] hst (zv rfl (zab (lz0 1 rfl) zac) (zv rfl (zab (lz0 4 rfl) zac) (zv rfl (za5 (xs:=[.tmp 30,.tmp 31]) (zko Y (X.tmod Y) hY (lz_tmod1 hY0 hY)) (.cons (vq 0 rfl) (.cons (vq 1 rfl) .nil))) (oc (zag rfl rfl rfl (vq 2 rfl) zac (Eq.trans (b:=2) rfl rfl)) o0)))) (fun a w hst=>?_)
   have hst:St B w0 33 [] [⟨2,24,ptrH,_⟩,⟨3,24,ptrH,_⟩,⟨4,24,ptrH,_⟩,⟨5,24,ptrH,_⟩,⟨6,24,ptrH,_⟩] a w:=hst
   refine za0 ?_
   refine wp_ret ?_
   refine zan ?_ (zao rfl hst (zm 2 rfl) zac)
   exact zbz (congrArg (fun n:Nat=>Zi (n:Int)) ((gcd_tmod hY0).trans hg))
theorem zpb : ∃ fn, Tryz.prog.funcs[328]? = some fn ∧ (fn.name == "runtime.NumGoroutine") = false ∧ fn.body.isNone = false := ⟨_, Tryz.func328, by kernel_rfl, by kernel_rfl⟩
theorem zrv {a b:Nat}{p q:Int}(ha:a≤1000000000)(hb:b≤1000000000):Cn Tryz.prog 328 [Zs a p,Zs b q] (Zs (max a b) ((Int.gcd p q:Nat):Int)):=zs2 zpb fun h h'=>(zjl p q zo zo).wkp (zgp (by have:=zvt p q; omega))
theorem zi9 {c d:Nat}{p q:Int}(hc:c≤1000000000)(hd:d≤1000000000)(hq:q≠0):Cn Tryz.prog 250 [Zs c p,Zs d q] (Qs (max c d) (Rat.divInt p q)):=by
 have hg0:0<Int.gcd p q:=Int.gcd_pos_of_ne_zero_right p hq
 obtain ⟨hn1,hn2⟩:=zlv (p:=p) hq
 refine Cn.intro Tryz.func250 rfl zk nq (fun B w0 a hst=>?_)
 have hst:St B w0 36 [(0,Zs c p),(1,Zs d q)] [] a w0.w:=hst
 refine wp_seq ?_
 refine gl (sts:=[]) (news:=[⟨2,24,ptrH,some 0,_,none⟩,⟨3,24,ptrH,some 1,_,none⟩,⟨4,26,ptrH,some 2,_,none⟩]) (sp:=[.alc 0,.alc 1,.alc 2]) [] hst (oc (zak rfl rfl rfl (gq 0 rfl)) (oc (zak rfl rfl rfl (gq 1 rfl)) (oc (zas rfl rfl rfl (Str.zero zb0)) o0))) (fun a w hst=>?_)
 have hst:St B w0 36 [] [⟨2,24,ptrH,_⟩,⟨3,24,ptrH,_⟩,⟨4,26,ptrH,_⟩] a w:=hst
 refine zt<|gl (sts:=[none,none,none]) (news:=[⟨5,24,ptrH,some 3,_,some (4,_)⟩]) (sp:=[.val 10 _,.val 11 _,.val 12 _,.alc 3,.sto 3]) [] hst (zv rfl (zab (lz0 0 rfl) zac) (zv rfl (zab (lz0 1 rfl) zac) (zv rfl (za5 (xs:=[.tmp 10,.tmp 11]) (zrv zo zo) (.cons (vq 0 rfl) (.cons (vq 1 rfl) .nil))) (oc (zas rfl rfl rfl (Str.zero zbq)) (oc (zag rfl rfl rfl (vq 2 rfl) zac (Eq.trans (b:=2) rfl rfl)) o0))))) (fun a w hst=>?_)
 have hst:St B w0 36 [] [⟨2,24,ptrH,_⟩,⟨3,24,ptrH,_⟩,⟨4,26,ptrH,_⟩,⟨5,24,ptrH,_⟩] a w:=hst
 refine zt<|gl (sts:=[none,none,none,none]) (news:=[⟨6,24,ptrH,some 6,_,some (8,_)⟩,⟨7,24,ptrH,some 7,_,some (9,_)⟩]) (sp:=[.val 14 _,.val 15 _,.val 16 _,.val 13 _,.val 17 _,.val 18 _,.alc 4,.alc 5,.sto 4,.sto 5]) [] hst (zv rfl (zab (lz0 0 rfl) zac) (zv rfl (zab (lz0 3 rfl) zac) (zv rfl (za5 (xs:=[.tmp 14,.tmp 15]) (zn4 zo zo zo) (.cons (vq 0 rfl) (.cons (vq 1 rfl) .nil))) (zv rfl (za2 (vq 2 rfl)) (zv rfl (zb6 (vq 3 rfl) rfl) (zv rfl (zb6 (vq 3 rfl) rfl) (oc (zas rfl rfl rfl (Str.zero zbq)) (oc (zas rfl rfl rfl (Str.zero zbq)) (oc (zag rfl rfl rfl (vq 4 rfl) zac (Eq.trans (b:=2) rfl rfl)) (oc (zag rfl rfl rfl (vq 5 rfl) zac (Eq.trans (b:=2) rfl rfl)) o0)))))))))) (fun a w hst=>?_)
 have hst:St B w0 36 [] [⟨2,24,ptrH,_⟩,⟨3,24,ptrH,_⟩,⟨4,26,ptrH,_⟩,⟨5,24,ptrH,_⟩,⟨6,24,ptrH,_⟩,⟨7,24,ptrH,_⟩] a w:=hst
 refine zt<|gl (sts:=[none,none,none,none,none,none]) (news:=[⟨8,24,ptrH,some 6,_,some (8,_)⟩,⟨9,24,ptrH,some 7,_,some (9,_)⟩]) (sp:=[.val 20 _,.val 21 _,.val 22 _,.val 19 _,.val 23 _,.val 24 _,.alc 6,.alc 7,.sto 6,.sto 7]) [] hst (zv rfl (zab (lz0 1 rfl) zac) (zv rfl (zab (lz0 3 rfl) zac) (zv rfl (za5 (xs:=[.tmp 20,.tmp 21]) (zn4 zo zo zo) (.cons (vq 0 rfl) (.cons (vq 1 rfl) .nil))) (zv rfl (za2 (vq 2 rfl)) (zv rfl (zb6 (vq 3 rfl) rfl) (zv rfl (zb6 (vq 3 rfl) rfl) (oc (zas rfl rfl rfl (Str.zero zbq)) (oc (zas rfl rfl rfl (Str.zero zbq)) (oc (zag rfl rfl rfl (vq 4 rfl) zac (Eq.trans (b:=2) rfl rfl)) (oc (zag rfl rfl rfl (vq 5 rfl) zac (Eq.trans (b:=2) rfl rfl)) o0)))))))))) (fun a w hst=>?_)
 have hst:St B w0 36 [] [⟨2,24,ptrH,_⟩,⟨3,24,ptrH,_⟩,⟨4,26,ptrH,_⟩,⟨5,24,ptrH,_⟩,⟨6,24,ptrH,_⟩,⟨7,24,ptrH,_⟩,⟨8,24,ptrH,_⟩,⟨9,24,ptrH,_⟩] a w:=hst
 refine zt ?_
 refine wp_seq ?_
 refine gl (sts:=[none,none,none,none,none,none,none,none]) (news:=[]) (sp:=[.val 25 _,.val 26 _,.val 27 _]) [.o 2] hst (zv rfl (zab (lz0 6 rfl) zac) (zv rfl (za5 (xs:=[.tmp 25]) zub (.cons (vq 0 rfl) .nil)) (zv rfl (zba (vq 1 rfl) za3) o0))) (fun a w hst=>?_)
 have hst:St B w0 36 [(27,_)] [⟨2,24,ptrH,_⟩,⟨3,24,ptrH,_⟩,⟨4,26,ptrH,_⟩,⟨5,24,ptrH,_⟩,⟨6,24,ptrH,_⟩,⟨7,24,ptrH,_⟩,⟨8,24,ptrH,_⟩,⟨9,24,ptrH,_⟩] a w:=hst
 refine za0 ?_
 refine za8 hst (zm 0 rfl) (fun hb0=>?_) (fun hb0=>?_)
 ·refine wp_seq ?_
  refine zay (anc:=[[],[0],[],[0,1,2],[0,1,2,3],[0,1,2,3,4]]) (sts:=[none,none,some (5,_),none,none,none,none,none]) (news:=[]) (sp:=[.val 28 _,.val 29 _,.val 30 _,.val 31 _,.val 32 _,.sto 2]) [] za7 hst (zv rfl (zab (lz0 4 rfl) zac) (zv rfl (za5 (xs:=[.tmp 28]) (zi8 zo) (.cons (vq 0 rfl) .nil)) (zv rfl (zab (lz0 6 rfl) zac) (zv rfl (za5 (xs:=[.tmp 30]) (zi8 zo) (.cons (vq 2 rfl) .nil)) (zv rfl (zbb (xs:=[(0,.tmp 29),(1,.tmp 31)]) (qs:=[(0,_),(1,_)]) zb0 (.cons ⟨rfl,(vq 1 rfl),rfl⟩ (.cons ⟨rfl,(vq 3 rfl),rfl⟩ .nil))) (oc (zag rfl rfl rfl (vq 4 rfl) zaf (Eq.trans (b:=4) rfl rfl)) o0)))))) zk zk zk zk (fun a w hst=>?_)
  have hst:St B w0 36 [] [⟨2,24,ptrH,_⟩,⟨3,24,ptrH,_⟩,⟨4,26,ptrH,_⟩,⟨5,24,ptrH,_⟩,⟨6,24,ptrH,_⟩,⟨7,24,ptrH,_⟩,⟨8,24,ptrH,_⟩,⟨9,24,ptrH,_⟩] a w:=hst
  refine za0 ?_
  refine wp_ret ?_
  refine zar ?_
  refine zan ?_ (zao rfl hst (zm 2 rfl) zaf)
  rw [if_pos (zof hb0)] at hn1 hn2; rw [hn1,hn2]; exact (zc8 (.cons (zft (Nat.le_max_left _ _)) (.cons (zft (Nat.le_max_right _ _)) .nil))).va
 ·refine wp_skip ?_
  refine zt<|gl (sts:=[none,none,some (3,_),none,none,none,none,none]) (news:=[]) (sp:=[.val 33 _,.val 34 _,.val 35 _,.sto 2]) [] hst (zv rfl (zab (lz0 4 rfl) zac) (zv rfl (zab (lz0 6 rfl) zac) (zv rfl (zbb (xs:=[(0,.tmp 33),(1,.tmp 34)]) (qs:=[(0,_),(1,_)]) zb0 (.cons ⟨rfl,(vq 0 rfl),rfl⟩ (.cons ⟨rfl,(vq 1 rfl),rfl⟩ .nil))) (oc (zag rfl rfl rfl (vq 2 rfl) zaf (Eq.trans (b:=4) rfl rfl)) o0)))) (fun a w hst=>?_)
  have hst:St B w0 36 [] [⟨2,24,ptrH,_⟩,⟨3,24,ptrH,_⟩,⟨4,26,ptrH,_⟩,⟨5,24,ptrH,_⟩,⟨6,24,ptrH,_⟩,⟨7,24,ptrH,_⟩,⟨8,24,ptrH,_⟩,⟨9,24,ptrH,_⟩] a w:=hst
  refine za0 ?_
  refine wp_ret ?_
  refine zan ?_ (zao rfl hst (zm 2 rfl) zaf)
  rw [if_neg (zu0 hb0)] at hn1 hn2; rw [hn1,hn2]; exact (zc8 (.cons (zft (Nat.le_max_left _ _)) (.cons (zft (Nat.le_max_right _ _)) .nil))).va
theorem zgi  : Cn Tryz.prog 183 [] (Qs 2 0):=by
 refine Cn.intro Tryz.func183 rfl zk nq (fun B w0 a hst=>?_)
 have hst:St B w0 3 [] [] a w0.w:=hst
 refine wp_seq ?_
 refine gl (sts:=[]) (news:=[⟨0,26,ptrH,some 0,_,none⟩]) (sp:=[.alc 0]) [] hst (oc (zas rfl rfl rfl (Str.zero zb0)) o0) (fun a w hst=>?_)
 have hst:St B w0 3 [] [⟨0,26,ptrH,_⟩] a w:=hst
 refine zt<|gl (sts:=[some (2,_)]) (news:=[]) (sp:=[.val 1 _,.val 2 _,.sto 0]) [] hst (zv rfl (za5 (xs:=[.const (.int .i64 (1))]) (rof_z zd zd) (.cons za3 .nil)) (zv rfl (zbb (xs:=[(1,.tmp 1)]) (qs:=[(1,_)]) zb0 (.cons ⟨rfl,(vq 0 rfl),rfl⟩ .nil)) (oc (zag rfl rfl rfl (vq 1 rfl) zaf (Eq.trans (b:=4) rfl rfl)) o0))) (fun a w hst=>?_)
 have hst:St B w0 3 [] [⟨0,26,ptrH,_⟩] a w:=hst
 refine za0 ?_
 refine wp_ret ?_
 refine zan ?_ (zao rfl hst (zm 0 rfl) zaf)
 exact q0_wk.va
theorem zut {p q:Int}(hp : -9223372036854775808≤p)(hp1:p<9223372036854775808)(hq : -9223372036854775808≤q)(hq1:q<9223372036854775808)(h0:q≠0):Cn Tryz.prog 102 [In p,In q] (Qs 2 (Rat.divInt p q)):=by
 refine Cn.intro Tryz.func102 rfl zk nq (fun B w0 a hst=>?_)
 have hst:St B w0 10 [(0,In p),(1,In q)] [] a w0.w:=hst
 refine wp_seq ?_
 refine gl (sts:=[]) (news:=[⟨4,26,ptrH,some 0,_,none⟩]) (sp:=[.alc 0]) [.g 0,.g 1] hst (oc (zas rfl rfl rfl (Str.zero zb0)) o0) (fun a w hst=>?_)
 have hst:St B w0 10 [(0,_),(1,_)] [⟨4,26,ptrH,_⟩] a w:=hst
 refine zt<|gl (sts:=[some (5,_)]) (news:=[]) (sp:=[.val 5 _,.val 6 _,.val 7 _,.val 8 _,.val 9 _,.sto 0]) [] hst (zv rfl (za2 (gq 0 rfl)) (zv rfl (za5 (xs:=[.tmp 5]) (rof_z hp hp1) (.cons (vq 0 rfl) .nil)) (zv rfl (za2 (gq 1 rfl)) (zv rfl (za5 (xs:=[.tmp 7]) (rof_z hq hq1) (.cons (vq 2 rfl) .nil)) (zv rfl (za5 (xs:=[.tmp 6,.tmp 8]) (zi9 zo zo h0) (.cons (vq 1 rfl) (.cons (vq 3 rfl) .nil))) (oc (zag rfl rfl rfl (vq 4 rfl) zaf (Eq.trans (b:=4) rfl rfl)) o0)))))) (fun a w hst=>?_)
 have hst:St B w0 10 [] [⟨4,26,ptrH,_⟩] a w:=hst
 refine za0 ?_
 refine wp_ret ?_
 refine zan ?_ (zao rfl hst (zm 0 rfl) zaf)
 exact zbt
theorem zom  : Cn Tryz.prog 168 [] (Qs 2 1):=by
 refine Cn.intro Tryz.func168 rfl zk nq (fun B w0 a hst=>?_)
 have hst:St B w0 2 [] [] a w0.w:=hst
 refine wp_seq ?_
 refine gl (sts:=[]) (news:=[⟨0,26,ptrH,some 0,_,none⟩]) (sp:=[.alc 0]) [] hst (oc (zas rfl rfl rfl (Str.zero zb0)) o0) (fun a w hst=>?_)
 have hst:St B w0 2 [] [⟨0,26,ptrH,_⟩] a w:=hst
 refine zt<|gl (sts:=[some (1,_)]) (news:=[]) (sp:=[.val 1 _,.sto 0]) [] hst (zv rfl (za5 (xs:=[.const (.int .i64 (1)),.const (.int .i64 (1))]) (zut zd zd zd zd zd) (.cons za3 (.cons za3 .nil))) (oc (zag rfl rfl rfl (vq 0 rfl) zaf (Eq.trans (b:=4) rfl rfl)) o0)) (fun a w hst=>?_)
 have hst:St B w0 2 [] [⟨0,26,ptrH,_⟩] a w:=hst
 refine za0 ?_
 refine wp_ret ?_
 refine zan ?_ (zao rfl hst (zm 0 rfl) zaf)
 exact zbz (congrArg (Qs 2) (show Rat.divInt 1 1=1 from rfl))
theorem ziy {c d:Nat}{x y:Rat}(hc:c+d≤900000000):Cn Tryz.prog 101 [Qs c x,Qs d y] (Qs (c+d+1) (x+y)):=by
 refine Cn.intro Tryz.func101 rfl zk nq (fun B w0 a hst=>?_)
 have hst:St B w0 24 [(0,Qs c x),(1,Qs d y)] [] a w0.w:=hst
 refine wp_seq ?_
 refine gl (sts:=[]) (news:=[⟨2,26,ptrH,some 0,_,none⟩,⟨3,26,ptrH,some 1,_,none⟩,⟨4,26,ptrH,some 2,_,none⟩]) (sp:=[.alc 0,.alc 1,.alc 2]) [] hst (oc (zak rfl rfl rfl (gq 0 rfl)) (oc (zak rfl rfl rfl (gq 1 rfl)) (oc (zas rfl rfl rfl (Str.zero zb0)) o0))) (fun a w hst=>?_)
 have hst:St B w0 24 [] [⟨2,26,ptrH,_⟩,⟨3,26,ptrH,_⟩,⟨4,26,ptrH,_⟩] a w:=hst
 refine zt<|zay (anc:=[[],[0],[],[2],[0,1,2,3],[],[5],[],[7],[0,1,2,3,4,5,6,7,8],[0,1,2,3,4,5,6,7,8,9],[],[0,1,2,3,4,5,6,7,8,9,10,11]]) (sts:=[none,none,none]) (news:=[⟨5,24,ptrH,some 11,_,some (12,_)⟩]) (sp:=[.adr 6 2 (.some 0) True,.val 7 _,.adr 8 3 (.some 2) True,.val 9 _,.val 10 _,.adr 11 3 (.some 0) True,.val 12 _,.adr 13 2 (.some 2) True,.val 14 _,.val 15 _,.val 16 _,.alc 3,.sto 3]) [] za7 hst (oc (ob_a rfl rfl (zaa (lz0 0 rfl) zbn)) (zv rfl (za4 0 rfl zk trivial (lz0 0 rfl) (Sub.part 0 rfl rfl) zac) (oc (ob_a rfl rfl (zaa (lz0 1 rfl) zbf)) (zv rfl (za4 2 rfl zk trivial (lz0 1 rfl) (Sub.part 1 rfl rfl) zac) (zv rfl (za5 (xs:=[.tmp 7,.tmp 9]) (zfe zo zo) (.cons (vq 1 rfl) (.cons (vq 3 rfl) .nil))) (oc (ob_a rfl rfl (zaa (lz0 1 rfl) zbn)) (zv rfl (za4 5 rfl zk trivial (lz0 1 rfl) (Sub.part 0 rfl rfl) zac) (oc (ob_a rfl rfl (zaa (lz0 0 rfl) zbf)) (zv rfl (za4 7 rfl zk trivial (lz0 0 rfl) (Sub.part 1 rfl rfl) zac) (zv rfl (za5 (xs:=[.tmp 12,.tmp 14]) (zfe zo zo) (.cons (vq 6 rfl) (.cons (vq 8 rfl) .nil))) (zv rfl (za5 (xs:=[.tmp 10,.tmp 15]) (rplus_z zo zo) (.cons (vq 4 rfl) (.cons (vq 9 rfl) .nil))) (oc (zas rfl rfl rfl (Str.zero zbq)) (oc (zag rfl rfl rfl (vq 10 rfl) zac (Eq.trans (b:=2) rfl rfl)) o0))))))))))))) zk zk zk zk (fun a w hst=>?_)
 have hst:St B w0 24 [] [⟨2,26,ptrH,_⟩,⟨3,26,ptrH,_⟩,⟨4,26,ptrH,_⟩,⟨5,24,ptrH,_⟩] a w:=hst
 refine zt<|zay (anc:=[[],[],[1],[],[3],[1,2,3,4],[0,1,2,3,4,5],[0,1,2,3,4,5,6]]) (sts:=[none,none,some (7,_),none]) (news:=[]) (sp:=[.val 17 _,.adr 18 2 (.some 2) True,.val 19 _,.adr 20 3 (.some 2) True,.val 21 _,.val 22 _,.val 23 _,.sto 2]) [] za7 hst (zv rfl (zab (lz0 3 rfl) zac) (oc (ob_a rfl rfl (zaa (lz0 0 rfl) zbf)) (zv rfl (za4 1 rfl zk trivial (lz0 0 rfl) (Sub.part 1 rfl rfl) zac) (oc (ob_a rfl rfl (zaa (lz0 1 rfl) zbf)) (zv rfl (za4 3 rfl zk trivial (lz0 1 rfl) (Sub.part 1 rfl rfl) zac) (zv rfl (za5 (xs:=[.tmp 19,.tmp 21]) (zfe zo zo) (.cons (vq 2 rfl) (.cons (vq 4 rfl) .nil))) (zv rfl (za5 (xs:=[.tmp 17,.tmp 22]) (zi9 zo zo (zo1 x y)) (.cons (vq 0 rfl) (.cons (vq 5 rfl) .nil))) (oc (zag rfl rfl rfl (vq 6 rfl) zaf (Eq.trans (b:=4) rfl rfl)) o0)))))))) zk zk zk zk (fun a w hst=>?_)
 have hst:St B w0 24 [] [⟨2,26,ptrH,_⟩,⟨3,26,ptrH,_⟩,⟨4,26,ptrH,_⟩,⟨5,24,ptrH,_⟩] a w:=hst
 refine za0 ?_
 refine wp_ret ?_
 refine zan ?_ (zao rfl hst (zm 2 rfl) zaf)
 exact zcv (zbz (congrArg (Qs _) (zuk x y))) (zlj zo).va
theorem zhd {c d:Nat}{x y:Rat}(hc:c+d≤900000000):Cn Tryz.prog 100 [Qs c x,Qs d y] (Qs (c+d) (x*y)):=by
 refine Cn.intro Tryz.func100 rfl zk nq (fun B w0 a hst=>?_)
 have hst:St B w0 16 [(0,Qs c x),(1,Qs d y)] [] a w0.w:=hst
 refine wp_seq ?_
 refine gl (sts:=[]) (news:=[⟨2,26,ptrH,some 0,_,none⟩,⟨3,26,ptrH,some 1,_,none⟩,⟨4,26,ptrH,some 2,_,none⟩]) (sp:=[.alc 0,.alc 1,.alc 2]) [] hst (oc (zak rfl rfl rfl (gq 0 rfl)) (oc (zak rfl rfl rfl (gq 1 rfl)) (oc (zas rfl rfl rfl (Str.zero zb0)) o0))) (fun a w hst=>?_)
 have hst:St B w0 16 [] [⟨2,26,ptrH,_⟩,⟨3,26,ptrH,_⟩,⟨4,26,ptrH,_⟩] a w:=hst
 refine zt<|zay (anc:=[[],[0],[],[2],[0,1,2,3],[],[5],[],[7],[0,1,2,3,4,5,6,7,8],[0,1,2,3,4,5,6,7,8,9],[0,1,2,3,4,5,6,7,8,9,10]]) (sts:=[none,none,some (11,_)]) (news:=[]) (sp:=[.adr 5 2 (.some 0) True,.val 6 _,.adr 7 3 (.some 0) True,.val 8 _,.val 9 _,.adr 10 2 (.some 2) True,.val 11 _,.adr 12 3 (.some 2) True,.val 13 _,.val 14 _,.val 15 _,.sto 2]) [] za7 hst (oc (ob_a rfl rfl (zaa (lz0 0 rfl) zbn)) (zv rfl (za4 0 rfl zk trivial (lz0 0 rfl) (Sub.part 0 rfl rfl) zac) (oc (ob_a rfl rfl (zaa (lz0 1 rfl) zbn)) (zv rfl (za4 2 rfl zk trivial (lz0 1 rfl) (Sub.part 0 rfl rfl) zac) (zv rfl (za5 (xs:=[.tmp 6,.tmp 8]) (zfe zo zo) (.cons (vq 1 rfl) (.cons (vq 3 rfl) .nil))) (oc (ob_a rfl rfl (zaa (lz0 0 rfl) zbf)) (zv rfl (za4 5 rfl zk trivial (lz0 0 rfl) (Sub.part 1 rfl rfl) zac) (oc (ob_a rfl rfl (zaa (lz0 1 rfl) zbf)) (zv rfl (za4 7 rfl zk trivial (lz0 1 rfl) (Sub.part 1 rfl rfl) zac) (zv rfl (za5 (xs:=[.tmp 11,.tmp 13]) (zfe zo zo) (.cons (vq 6 rfl) (.cons (vq 8 rfl) .nil))) (zv rfl (za5 (xs:=[.tmp 9,.tmp 14]) (zi9 zo zo (zo1 x y)) (.cons (vq 4 rfl) (.cons (vq 9 rfl) .nil))) (oc (zag rfl rfl rfl (vq 10 rfl) zaf (Eq.trans (b:=4) rfl rfl)) o0)))))))))))) zk zk zk zk (fun a w hst=>?_)
 have hst:St B w0 16 [] [⟨2,26,ptrH,_⟩,⟨3,26,ptrH,_⟩,⟨4,26,ptrH,_⟩] a w:=hst
 refine za0 ?_
 refine wp_ret ?_
 refine zan ?_ (zao rfl hst (zm 2 rfl) zaf)
 exact zcv (zbz (congrArg (Qs _) (zuj x y))) (zlj zo).va
theorem neg_wk {c:Nat}{x:Rat}:WkA (cat [ZA c (-x.num),ZA c (x.den:Int)]) (QA c (-x)):=zmp (by unfold QA; rw [Rat.neg_num,Rat.neg_den])
theorem zru {c:Nat}{x:Rat}(hc:c≤900000000):Cn Tryz.prog 167 [Qs c x] (Qs c (-x)):=by
 refine Cn.intro Tryz.func167 rfl zk nq (fun B w0 a hst=>?_)
 have hst:St B w0 9 [(0,Qs c x)] [] a w0.w:=hst
 refine wp_seq ?_
 refine gl (sts:=[]) (news:=[⟨1,26,ptrH,some 0,_,none⟩,⟨2,26,ptrH,some 1,_,none⟩]) (sp:=[.alc 0,.alc 1]) [] hst (oc (zak rfl rfl rfl (gq 0 rfl)) (oc (zas rfl rfl rfl (Str.zero zb0)) o0)) (fun a w hst=>?_)
 have hst:St B w0 9 [] [⟨1,26,ptrH,_⟩,⟨2,26,ptrH,_⟩] a w:=hst
 refine zt<|zay (anc:=[[],[0],[0,1],[],[3],[0,1,2,3,4],[0,1,2,3,4,5]]) (sts:=[none,some (6,_)]) (news:=[]) (sp:=[.adr 3 1 (.some 0) True,.val 4 _,.val 5 _,.adr 6 1 (.some 2) True,.val 7 _,.val 8 _,.sto 1]) [] za7 hst (oc (ob_a rfl rfl (zaa (lz0 0 rfl) zbn)) (zv rfl (za4 0 rfl zk trivial (lz0 0 rfl) (Sub.part 0 rfl rfl) zac) (zv rfl (za5 (xs:=[.tmp 4]) (zi8 zo) (.cons (vq 1 rfl) .nil)) (oc (ob_a rfl rfl (zaa (lz0 0 rfl) zbf)) (zv rfl (za4 3 rfl zk trivial (lz0 0 rfl) (Sub.part 1 rfl rfl) zac) (zv rfl (zbb (xs:=[(0,.tmp 5),(1,.tmp 7)]) (qs:=[(0,_),(1,_)]) zb0 (.cons ⟨rfl,(vq 2 rfl),rfl⟩ (.cons ⟨rfl,(vq 4 rfl),rfl⟩ .nil))) (oc (zag rfl rfl rfl (vq 5 rfl) zaf (Eq.trans (b:=4) rfl rfl)) o0))))))) zk zk zk zk (fun a w hst=>?_)
 have hst:St B w0 9 [] [⟨1,26,ptrH,_⟩,⟨2,26,ptrH,_⟩] a w:=hst
 refine za0 ?_
 refine wp_ret ?_
 refine zan ?_ (zao rfl hst (zm 1 rfl) zaf)
 exact neg_wk.va
theorem zna {c d:Nat}{x y:Rat}(hc:c+d≤900000000):Cn Tryz.prog 104 [Qs c x,Qs d y] (Qs (c+d+1) (x-y)):=by
 refine Cn.intro Tryz.func104 rfl zk nq (fun B w0 a hst=>?_)
 have hst:St B w0 9 [(0,Qs c x),(1,Qs d y)] [] a w0.w:=hst
 refine wp_seq ?_
 refine gl (sts:=[]) (news:=[⟨2,26,ptrH,some 0,_,none⟩,⟨3,26,ptrH,some 1,_,none⟩,⟨4,26,ptrH,some 2,_,none⟩]) (sp:=[.alc 0,.alc 1,.alc 2]) [] hst (oc (zak rfl rfl rfl (gq 0 rfl)) (oc (zak rfl rfl rfl (gq 1 rfl)) (oc (zas rfl rfl rfl (Str.zero zb0)) o0))) (fun a w hst=>?_)
 have hst:St B w0 9 [] [⟨2,26,ptrH,_⟩,⟨3,26,ptrH,_⟩,⟨4,26,ptrH,_⟩] a w:=hst
 refine zt<|zay (anc:=[[],[],[1],[0,1,2],[0,1,2,3]]) (sts:=[none,none,some (4,_)]) (news:=[]) (sp:=[.val 5 _,.val 6 _,.val 7 _,.val 8 _,.sto 2]) [] za7 hst (zv rfl (zab (lz0 0 rfl) zaf) (zv rfl (zab (lz0 1 rfl) zaf) (zv rfl (za5 (xs:=[.tmp 6]) (zru zo) (.cons (vq 1 rfl) .nil)) (zv rfl (za5 (xs:=[.tmp 5,.tmp 7]) (ziy zo) (.cons (vq 0 rfl) (.cons (vq 2 rfl) .nil))) (oc (zag rfl rfl rfl (vq 3 rfl) zaf (Eq.trans (b:=4) rfl rfl)) o0))))) zk zk zk zk (fun a w hst=>?_)
 have hst:St B w0 9 [] [⟨2,26,ptrH,_⟩,⟨3,26,ptrH,_⟩,⟨4,26,ptrH,_⟩] a w:=hst
 refine za0 ?_
 refine wp_ret ?_
 refine zan ?_ (zao rfl hst (zm 2 rfl) zaf)
 exact zbz (congrArg (Qs _) (show x + -y=x-y by grind))
theorem cm_sgn (x y:Rat):(x.num*(y.den:Int)-y.num*(x.den:Int)).sign=cmQ x y:=by
 rw [← cm_sg,zjf]
 unfold sg3
 generalize x.num*(y.den:Int)=u
 generalize y.num*(x.den:Int)=v
 by_cases h1:u<v
 ·rw [if_pos zo,if_pos h1]
 ·by_cases h2:v<u
  ·rw [if_neg zo,if_neg zo,if_neg h1,if_pos h2]
  ·rw [if_neg zo,if_pos zo,if_neg h1,if_neg h2]
theorem r2cmp_q {c d:Nat}{x y:Rat}(hc:c+d≤900000000):Cn Tryz.prog 248 [Qs c x,Qs d y] (In (cmQ x y)):=by
 refine Cn.intro Tryz.func248 rfl zk nq (fun B w0 a hst=>?_)
 have hst:St B w0 19 [(0,Qs c x),(1,Qs d y)] [] a w0.w:=hst
 refine wp_seq ?_
 refine gl (sts:=[]) (news:=[⟨2,26,ptrH,some 0,_,none⟩,⟨3,26,ptrH,some 1,_,none⟩]) (sp:=[.alc 0,.alc 1,.val 4 _]) [.o 2] hst (oc (zak rfl rfl rfl (gq 0 rfl)) (oc (zak rfl rfl rfl (gq 1 rfl)) (zv rfl (za1 za3) o0))) (fun a w hst=>?_)
 have hst:St B w0 19 [(4,_)] [⟨2,26,ptrH,_⟩,⟨3,26,ptrH,_⟩] a w:=hst
 refine zt<|zay (anc:=[[],[0],[],[2],[0,1,2,3],[],[5],[],[7],[0,1,2,3,4,5,6,7,8],[0,1,2,3,4,5,6,7,8,9],[],[0,1,2,3,4,5,6,7,8,9,10,11]]) (sts:=[none,none]) (news:=[⟨5,24,ptrH,some 11,_,some (12,_)⟩]) (sp:=[.adr 6 2 (.some 0) True,.val 7 _,.adr 8 3 (.some 2) True,.val 9 _,.val 10 _,.adr 11 3 (.some 0) True,.val 12 _,.adr 13 2 (.some 2) True,.val 14 _,.val 15 _,.val 16 _,.alc 2,.sto 2]) [.g 0] za7 hst (oc (ob_a rfl rfl (zaa (lz0 0 rfl) zbn)) (zv rfl (za4 0 rfl zk trivial (lz0 0 rfl) (Sub.part 0 rfl rfl) zac) (oc (ob_a rfl rfl (zaa (lz0 1 rfl) zbf)) (zv rfl (za4 2 rfl zk trivial (lz0 1 rfl) (Sub.part 1 rfl rfl) zac) (zv rfl (za5 (xs:=[.tmp 7,.tmp 9]) (zfe zo zo) (.cons (vq 1 rfl) (.cons (vq 3 rfl) .nil))) (oc (ob_a rfl rfl (zaa (lz0 1 rfl) zbn)) (zv rfl (za4 5 rfl zk trivial (lz0 1 rfl) (Sub.part 0 rfl rfl) zac) (oc (ob_a rfl rfl (zaa (lz0 0 rfl) zbf)) (zv rfl (za4 7 rfl zk trivial (lz0 0 rfl) (Sub.part 1 rfl rfl) zac) (zv rfl (za5 (xs:=[.tmp 12,.tmp 14]) (zfe zo zo) (.cons (vq 6 rfl) (.cons (vq 8 rfl) .nil))) (zv rfl (za5 (xs:=[.tmp 10,.tmp 15]) (zyd zo zo) (.cons (vq 4 rfl) (.cons (vq 9 rfl) .nil))) (oc (zas rfl rfl rfl (Str.zero zbq)) (oc (zag rfl rfl rfl (vq 10 rfl) zac (Eq.trans (b:=2) rfl rfl)) o0))))))))))))) zk zk zk zk (fun a w hst=>?_)
 have hst:St B w0 19 [(4,_)] [⟨2,26,ptrH,_⟩,⟨3,26,ptrH,_⟩,⟨5,24,ptrH,_⟩] a w:=hst
 refine zt<|gl (sts:=[none,none,none]) (news:=[]) (sp:=[.val 17 _,.val 18 _,.val 4 _]) [.o 2] hst (zv rfl (zab (lz0 2 rfl) zac) (zv rfl (za5 (xs:=[.tmp 17]) zub (.cons (vq 0 rfl) .nil)) (zv rfl (za1 (vq 1 rfl)) o0))) (fun a w hst=>?_)
 have hst:St B w0 19 [(4,_)] [⟨2,26,ptrH,_⟩,⟨3,26,ptrH,_⟩,⟨5,24,ptrH,_⟩] a w:=hst
 refine za0 ?_
 refine wp_ret ?_
 refine zan ?_ (zai rfl hst (zm 0 rfl))
 exact zbz (congrArg In (cm_sgn x y))
theorem zyk {c d:Nat}{x y:Rat}(hc:c+d≤900000000):Cn Tryz.prog 295 [Qs c x,Qs d y] (Bo (cmQ x y==0)):=by
 refine Cn.intro Tryz.func295 rfl zk nq (fun B w0 a hst=>?_)
 have hst:St B w0 9 [(0,Qs c x),(1,Qs d y)] [] a w0.w:=hst
 refine wp_seq ?_
 refine gl (sts:=[]) (news:=[⟨2,26,ptrH,some 0,_,none⟩,⟨3,26,ptrH,some 1,_,none⟩]) (sp:=[.alc 0,.alc 1,.val 4 _]) [.o 2] hst (oc (zak rfl rfl rfl (gq 0 rfl)) (oc (zak rfl rfl rfl (gq 1 rfl)) (zv rfl (za1 zb7) o0))) (fun a w hst=>?_)
 have hst:St B w0 9 [(4,_)] [⟨2,26,ptrH,_⟩,⟨3,26,ptrH,_⟩] a w:=hst
 refine zt<|gl (sts:=[none,none]) (news:=[]) (sp:=[.val 5 _,.val 6 _,.val 7 _,.val 8 _,.val 4 _]) [.o 4] hst (zv rfl (zab (lz0 0 rfl) zaf) (zv rfl (zab (lz0 1 rfl) zaf) (zv rfl (za5 (xs:=[.tmp 5,.tmp 6]) (r2cmp_q zo) (.cons (vq 0 rfl) (.cons (vq 1 rfl) .nil))) (zv rfl (zdq (vq 2 rfl) za3) (zv rfl (za1 (vq 3 rfl)) o0))))) (fun a w hst=>?_)
 have hst:St B w0 9 [(4,_)] [⟨2,26,ptrH,_⟩,⟨3,26,ptrH,_⟩] a w:=hst
 refine za0 ?_
 refine wp_ret ?_
 refine zan ?_ (zai rfl hst (zm 0 rfl))
 exact zbt
theorem rchk1 {g:Nat}(h:decide ((1:Int)<((g:Nat):Int))=true):g≠1:=by have:=of_decide_eq_true h; omega
theorem rchk2 {g:Nat}(h:decide ((1:Int)<((g:Nat):Int))=false)(h0:g≠0):g=1:=by have:=of_decide_eq_false h; omega
theorem zrx (xn xd:RI):Cn Tryz.prog 296 [(RFA ⟨xn,xd⟩).va] (In (if okF ⟨xn,xd⟩ then 0 else 1)):=by
 refine Cn.intro Tryz.func296 rfl zk nq (fun B w0 a hst=>?_)
 have hst:St B w0 28 [(0,(RFA ⟨xn,xd⟩).va)] [] a w0.w:=hst
 have hok:=zlf (hst.vals (0,(RFA ⟨xn,xd⟩).va) (zm 0 rfl))
 refine wp_seq ?_
 refine gl (sts:=[]) (news:=[⟨1,26,ptrH,some 0,_,none⟩]) (sp:=[.alc 0,.val 2 _]) [.o 1] hst (oc (zak rfl rfl rfl (gq 0 rfl)) (zv rfl (za1 za3) o0)) (fun a w hst=>?_)
 have hst:St B w0 28 [(2,_)] [⟨1,26,ptrH,_⟩] a w:=hst
 refine zt ?_
 refine wp_seq ?_
 refine gl (sts:=[none]) (news:=[]) (sp:=[.adr 4 1 (.some 0) True,.val 5 _,.val 6 _,.val 7 _,.val 8 _,.adr 9 1 (.some 2) (_=false),.val 10 (Wh (_=false) _),.val 11 (Wh (_=false) _),.val 12 (Wh (_=false) _),.val 13 _,.val 14 _,.adr 15 1 (.some 2) (_=false),.val 16 (Wh (_=false) _),.val 17 (Wh (_=false) _),.val 18 (Wh (_=false) _),.val 19 _]) [.g 0,.o 15] hst (oc (ob_a rfl rfl (zaa (lz0 0 rfl) zbn)) (zv rfl (za4 0 rfl zk trivial (lz0 0 rfl) (Sub.part 0 rfl rfl) zac) (zv rfl (za5 (xs:=[.tmp 5]) (zq0 _) (.cons (vq 1 rfl) .nil)) (zv rfl (zd8 (vq 2 rfl) za3) (zv rfl (za2 (vq 3 rfl)) (oc (zci rfl rfl rfl (vq 4 rfl) nq (fun hg=>zaa (lz0 0 rfl) zbf)) (oc (zad rfl rfl rfl (vq 4 rfl) nq (fun hg=>za4 5 rfl zk hg (lz0 0 rfl) (Sub.part 1 rfl rfl) zac)) (oc (zad rfl rfl rfl (vq 4 rfl) nq (fun hg=>za5 (xs:=[.tmp 10]) (zq0 _) (.cons (za9 (vq 6 rfl) hg) .nil))) (oc (zad rfl rfl rfl (vq 4 rfl) nq (fun hg=>zd8 (za9 (vq 7 rfl) hg) za3)) (zv rfl (r_or (vq 4 rfl) (vq 8 rfl)) (zv rfl (za2 (vq 9 rfl)) (oc (zci rfl rfl rfl (vq 10 rfl) nq (fun hg=>zaa (lz0 0 rfl) zbf)) (oc (zad rfl rfl rfl (vq 10 rfl) nq (fun hg=>za4 11 rfl zk hg (lz0 0 rfl) (Sub.part 1 rfl rfl) zac)) (oc (zad rfl rfl rfl (vq 10 rfl) nq (fun hg=>za5 (xs:=[.tmp 16]) (zjh _) (.cons (za9 (vq 12 rfl) hg) .nil))) (oc (zad rfl rfl rfl (vq 10 rfl) nq (fun hg=>zyi (za9 (vq 13 rfl) hg) za3)) (zv rfl (r_or (vq 10 rfl) (vq 14 rfl)) o0)))))))))))))))) (fun a w hst=>?_)
 have hst:St B w0 28 [(2,_),(19,_)] [⟨1,26,ptrH,_⟩] a w:=hst
 refine za0 ?_
 refine za8 hst (zm 1 rfl) (fun hb0=>?_) (fun hb0=>?_)
 ·refine wp_seq ?_
  refine gl (sts:=[none]) (news:=[]) (sp:=[.val 2 _]) [.o 0] hst (zv rfl (za1 za3) o0) (fun a w hst=>?_)
  have hst:St B w0 28 [(2,_)] [⟨1,26,ptrH,_⟩] a w:=hst
  refine za0 ?_
  refine wp_ret ?_
  refine zar ?_
  refine zan ?_ (zai rfl hst (zm 0 rfl))
  exact zbz (congrArg In (chk_no hb0))
 ·rw [Bool.or_eq_false_iff,Bool.or_eq_false_iff] at hb0
  obtain ⟨p,rfl,hp⟩:=zkt hok.1 (ok1 hb0.1.1)
  obtain ⟨q,rfl,hq⟩:=zkt hok.2 (ok1 hb0.1.2)
  have hq0:0<sgI (riOf q):=by have h2:¬ sgI (riOf q)≤0:=of_decide_eq_false hb0.2; omega
  have hqn:q≠0:=fun e=>by rw [e,ze8] at hq0; exact absurd hq0 zd
  have hgn:Int.gcd p q≠0:=by have:=Int.gcd_pos_of_ne_zero_right p hqn; omega
  refine wp_skip ?_
  refine zt<|gl (sts:=[none]) (news:=[⟨3,24,ptrH,some 5,_,some (6,_)⟩]) (sp:=[.adr 20 1 (.some 0) True,.val 21 _,.adr 22 1 (.some 2) True,.val 23 _,.val 24 _,.alc 1,.sto 1]) [.g 0] hst (oc (ob_a rfl rfl (zaa (lz0 0 rfl) zbn)) (zv rfl (za4 0 rfl zk trivial (lz0 0 rfl) (Sub.part 0 rfl rfl) zac) (oc (ob_a rfl rfl (zaa (lz0 0 rfl) zbf)) (zv rfl (za4 2 rfl zk trivial (lz0 0 rfl) (Sub.part 1 rfl rfl) zac) (zv rfl (za5 (xs:=[.tmp 21,.tmp 23]) (zjl p q zo zo) (.cons (vq 1 rfl) (.cons (vq 3 rfl) .nil))) (oc (zas rfl rfl rfl (Str.zero zbq)) (oc (zag rfl rfl rfl (vq 4 rfl) zac (Eq.trans (b:=2) rfl rfl)) o0))))))) (fun a w hst=>?_)
  have hst:St B w0 28 [(2,_)] [⟨1,26,ptrH,_⟩,⟨3,24,ptrH,_⟩] a w:=hst
  refine zt ?_
  refine wp_seq ?_
  refine zay (anc:=[[],[],[0,1]]) (sts:=[none,none]) (news:=[]) (sp:=[.val 25 _,.val 26 _,.val 27 _]) [.g 0,.o 2] za7 hst (zv rfl (za5 (xs:=[.const (.int .i64 (1))]) (zyc 1 zd zd) (.cons za3 .nil)) (zv rfl (zab (lz0 1 rfl) zac) (zv rfl (za5 (xs:=[.tmp 25,.tmp 26]) (zyf _ _) (.cons (vq 0 rfl) (.cons (vq 1 rfl) .nil))) o0))) zk zk zk zk (fun a w hst=>?_)
  have hst:St B w0 28 [(2,_),(27,_)] [⟨1,26,ptrH,_⟩,⟨3,24,ptrH,_⟩] a w:=hst
  refine za0 ?_
  refine za8 hst (zm 1 rfl) (fun hb1=>?_) (fun hb1=>?_)
  ·refine wp_seq ?_
   refine gl (sts:=[none,none]) (news:=[]) (sp:=[.val 2 _]) [.o 0] hst (zv rfl (za1 za3) o0) (fun a w hst=>?_)
   have hst:St B w0 28 [(2,_)] [⟨1,26,ptrH,_⟩,⟨3,24,ptrH,_⟩] a w:=hst
   refine za0 ?_
   refine wp_ret ?_
   refine zar ?_
   refine zan ?_ (zai rfl hst (zm 0 rfl))
   have e1:=rchk1 hb1; exact zbz (congrArg In (by rw [show okF ⟨riOf p,riOf q⟩=false from by unfold okF; rw [zby,zby]; simp [show ¬ Nat.gcd p.natAbs q.natAbs=1 from e1]]; rfl))
  ·refine wp_skip ?_
   refine zt<|gl (sts:=[none,none]) (news:=[]) (sp:=[.val 2 _]) [.o 0] hst (zv rfl (za1 za3) o0) (fun a w hst=>?_)
   have hst:St B w0 28 [(2,_)] [⟨1,26,ptrH,_⟩,⟨3,24,ptrH,_⟩] a w:=hst
   refine za0 ?_
   refine wp_ret ?_
   refine zan ?_ (zai rfl hst (zm 0 rfl))
   have e1:=rchk2 hb1 hgn; exact zbz (congrArg In (by rw [show okF ⟨riOf p,riOf q⟩=true from by unfold okF; rw [zby,zby,ok1 hb0.1.1,ok1 hb0.1.2]; simp [hq0,show Nat.gcd p.natAbs q.natAbs=1 from e1]]; rfl))
theorem zsp : ∃ fn, Tryz.prog.funcs[296]? = some fn ∧ (fn.name == "runtime.NumGoroutine") = false ∧ fn.body.isNone = false := ⟨_, Tryz.func296, by kernel_rfl, by kernel_rfl⟩
theorem zuu (x:RF):Cn Tryz.prog 296 [(RFA x).va] (In (if okX x then 0 else 1)) :=
 Cn.know (c:=okL x.num.mag∧okL x.den.mag) zsp (fun B w args ha=>by cases ha with | cons h1 _=>exact zlf h1) fun h=>(zrx x.num x.den).post (by rw [zq8 h])
theorem zrw (xs:List RF)(hl:xs.length≤1099511627776):Cn Tryz.prog 164 [(SlA 26 [U32] (xs.map RFA)).va] (Bo (xs.all okX)):=by
 refine Cn.introW Tryz.func164 rfl zk nq (.cons (zxh (fun A hA=>by obtain ⟨x,_,rfl⟩:=List.mem_map.1 hA; exact zgs x)).va .nil) (zg6 _).va (fun B w0 a hB0 hst=>?_)
 have hst:St B w0 16 [(0,(SlO 26 [U32] (xs.map RFA) True).va)] [] a w0.w:=hst
 refine wp_seq ?_
 refine gl (sts:=[]) (news:=[]) (sp:=[.val 2 _]) [.g 0,.o 0] hst (zv rfl (za1 zb7) o0) (fun a w hst=>?_)
 have hst:St B w0 16 [(0,_),(2,_)] [] a w:=hst
 refine zt ?_
 refine wp_seq ?_
 refine gl (sts:=[]) (news:=[]) (sp:=[.val 3 _]) [.g 0,.g 1,.o 0] hst (zv rfl (za1 za3) o0) (fun a w hst=>?_)
 have hst:St B w0 16 [(0,_),(2,_),(3,_)] [] a w:=hst
 refine za0 ?_
 refine wp_block ?_
 have hst:=St.sel hst [0,2]
 refine wp_loop_ghost (fun n a w=>∃ j:Nat,(n+j=xs.length∧(xs.take j).all okX=true)∧St B w0 16 [(0,(SlO 26 [U32] (xs.map RFA) True).va),(3,In (j:Nat))] [] a w) (xs.length) ?_ ?_
 ·exact ⟨0,⟨by omega,rfl⟩,hst⟩
 intro n a w hI
 obtain ⟨j,⟨hn,hno⟩,hst⟩:=hI
 refine wp_seq ?_
 refine wp_seq ?_
 refine gl (sts:=[]) (news:=[]) (sp:=[.val 4 _,.val 5 _,.val 6 _,.val 7 _]) [.g 0,.g 1,.o 3] hst (zv rfl (za2 (gq 1 rfl)) (zv rfl (za2 (gq 0 rfl)) (zv rfl (zc7 Tryz.underlying142 (zf0 (zb2 (vq 1 rfl)))) (zv rfl (zba (vq 0 rfl) (vq 2 rfl)) o0)))) (fun a w hst=>?_)
 have hst:St B w0 16 [(0,_),(3,_),(7,_)] [] a w:=hst
 refine za0 ?_
 refine za8 hst (zm 2 rfl) (fun hb0=>?_) (fun hb0=>?_)
 ·have hj:j<xs.length:=by simp at hb0; omega
  refine wp_skip ?_
  refine zt ?_
  refine wp_block ?_
  refine wp_seq ?_
  refine gl (sts:=[]) (news:=[]) (sp:=[.val 10 _,.val 11 _,.val 12 _,.val 13 _,.val 14 _,.val 15 _]) [.g 0,.g 1,.o 5] hst (zv rfl (za2 (gq 0 rfl)) (zv rfl (za2 (gq 1 rfl)) (zv rfl (zhb zdu (map_n fun _=>rfl) (zf0 (zb2 (vq 0 rfl))) (vq 1 rfl) (zqf hj)) (zv rfl (zae (vq 2 rfl) zaf) (zv rfl (za5 (xs:=[.tmp 13]) (zuu _) (.cons (vq 3 rfl) .nil)) (zv rfl (zd8 (vq 4 rfl) za3) o0)))))) (fun a w hst=>?_)
  have hst:St B w0 16 [(0,_),(3,_),(15,_)] [] a w:=hst
  refine za0 ?_
  refine za8 hst (zm 2 rfl) (fun hb1=>?_) (fun hb1=>?_)
  ·refine wp_seq ?_
   refine gl (sts:=[]) (news:=[]) (sp:=[.val 2 _]) [.g 0,.g 1,.o 0] hst (zv rfl (za1 zb7) o0) (fun a w hst=>?_)
   have hst:St B w0 16 [(0,_),(3,_),(2,_)] [] a w:=hst
   refine za0 ?_
   refine wp_ret ?_
   refine zcf ?_
   refine zar ?_
   refine zar ?_
   refine zcf ?_
   refine zar ?_
   refine zap ?_ (zai rfl hst (zm 2 rfl))
   rw [← ok_no hj hb1]
  ·refine wp_skip ?_
   refine zat ?_
   refine za0 ?_
   refine gl (sts:=[]) (news:=[]) (sp:=[.val 8 _,.val 9 _,.val 3 _]) [.g 0,.o 2] hst (zv rfl (za2 (gq 1 rfl)) (zv rfl (zbl (vq 0 rfl) za3 (zbo zo)) (zv rfl (za1 (vq 1 rfl)) o0))) (fun a w hst=>?_)
   have hst:St B w0 16 [(0,_),(3,_)] [] a w:=hst
   refine za0 ?_
   have hst:=St.sel hst [0,1]
   exact ⟨n-1,by omega,j+1,⟨by omega,ok_yes hj hno hb1⟩,hst⟩
 ·obtain rfl:j=xs.length:=by simp at hb0; omega
  refine wp_exit ?_
  refine za6 ?_
  refine za6 ?_
  refine zaj ?_
  refine zt<|gl (sts:=[]) (news:=[]) (sp:=[.val 2 _]) [.o 0] hst (zv rfl (za1 zb7) o0) (fun a w hst=>?_)
  have hst:St B w0 16 [(2,_)] [] a w:=hst
  refine za0 ?_
  refine wp_ret ?_
  refine zap ?_ (zai rfl hst (zm 0 rfl))
  rw [List.take_length] at hno; rw [hno]
end Go.Proofs.YthncfchnkjemiaaGreatDoor
namespace Go.Proofs.YthncfchnkjemiaaGreatDoor
open Go Go.RowKit
theorem zus {c d e f:Nat}{x y z u:Rat}(hk:c+d+e+f≤900000000):Cn Tryz.prog 213 [Qs c x,Qs d y,Qs e z,Qs f u] (Qs (c+f+(d+e)+1) (x*u-y*z)):=by
 refine Cn.intro Tryz.func213 rfl zk nq (fun B w0 a hst=>?_)
 have hst:St B w0 16 [(0,Qs c x),(1,Qs d y),(2,Qs e z),(3,Qs f u)] [] a w0.w:=hst
 refine wp_seq ?_
 refine gl (sts:=[]) (news:=[⟨4,26,ptrH,some 0,_,none⟩,⟨5,26,ptrH,some 1,_,none⟩,⟨6,26,ptrH,some 2,_,none⟩,⟨7,26,ptrH,some 3,_,none⟩,⟨8,26,ptrH,some 4,_,none⟩]) (sp:=[.alc 0,.alc 1,.alc 2,.alc 3,.alc 4]) [] hst (oc (zak rfl rfl rfl (gq 0 rfl)) (oc (zak rfl rfl rfl (gq 1 rfl)) (oc (zak rfl rfl rfl (gq 2 rfl)) (oc (zak rfl rfl rfl (gq 3 rfl)) (oc (zas rfl rfl rfl (Str.zero zb0)) o0))))) (fun a w hst=>?_)
 have hst:St B w0 16 [] [⟨4,26,ptrH,_⟩,⟨5,26,ptrH,_⟩,⟨6,26,ptrH,_⟩,⟨7,26,ptrH,_⟩,⟨8,26,ptrH,_⟩] a w:=hst
 refine zt<|zay (anc:=[[],[],[0,1],[],[],[0,1,2,3,4],[0,1,2,3,4,5],[0,1,2,3,4,5,6]]) (sts:=[none,none,none,none,some (7,_)]) (news:=[]) (sp:=[.val 9 _,.val 10 _,.val 11 _,.val 12 _,.val 13 _,.val 14 _,.val 15 _,.sto 4]) [] za7 hst (zv rfl (zab (lz0 0 rfl) zaf) (zv rfl (zab (lz0 3 rfl) zaf) (zv rfl (za5 (xs:=[.tmp 9,.tmp 10]) (zhd zo) (.cons (vq 0 rfl) (.cons (vq 1 rfl) .nil))) (zv rfl (zab (lz0 1 rfl) zaf) (zv rfl (zab (lz0 2 rfl) zaf) (zv rfl (za5 (xs:=[.tmp 12,.tmp 13]) (zhd zo) (.cons (vq 3 rfl) (.cons (vq 4 rfl) .nil))) (zv rfl (za5 (xs:=[.tmp 11,.tmp 14]) (zna zo) (.cons (vq 2 rfl) (.cons (vq 5 rfl) .nil))) (oc (zag rfl rfl rfl (vq 6 rfl) zaf (Eq.trans (b:=4) rfl rfl)) o0)))))))) zk zk zk zk (fun a w hst=>?_)
 have hst:St B w0 16 [] [⟨4,26,ptrH,_⟩,⟨5,26,ptrH,_⟩,⟨6,26,ptrH,_⟩,⟨7,26,ptrH,_⟩,⟨8,26,ptrH,_⟩] a w:=hst
 refine za0 ?_
 refine wp_ret ?_
 refine zan ?_ (zao rfl hst (zm 4 rfl) zaf)
 exact zbt
theorem r9det_x {m:RM}(h:[m.a,m.b,m.c,m.d].all okX=true):Cn Tryz.prog 213 [(RFA m.a).va,(RFA m.b).va,(RFA m.c).va,(RFA m.d).va] (Qs 8193 (toQ m.a*toQ m.d-toQ m.b*toQ m.c)):=by
 simp only [List.all_cons,List.all_nil,Bool.and_true,Bool.and_eq_true] at h
 exact (zus (c:=2048) (d:=2048) (e:=2048) (f:=2048) zd).wk (.cons (qa_x h.1 (Nat.le_refl _)).va (.cons (qa_x h.2.1 (Nat.le_refl _)).va (.cons (qa_x h.2.2.1 (Nat.le_refl _)).va (.cons (qa_x h.2.2.2 (Nat.le_refl _)).va .nil))))
theorem r9may_e {m:RM}:Bo ([m.a,m.b,m.c,m.d].all okX&&(cmQ (toQ m.a*toQ m.d-toQ m.b*toQ m.c) 1==0))=Bo (okM m):=by rw [cm_eq]; rfl
theorem zi7 (m:RM):Cn Tryz.prog 163 [(RMA m).va] (Bo (okM m)):=by
 refine Cn.intro Tryz.func163 rfl zk nq (fun B w0 a hst=>?_)
 have hst:St B w0 26 [(0,(RMA m).va)] [] a w0.w:=hst
 refine wp_seq ?_
 refine gl (sts:=[]) (news:=[⟨1,28,ptrH,some 0,_,none⟩]) (sp:=[.alc 0,.val 2 _]) [.o 1] hst (oc (zak rfl rfl rfl (gq 0 rfl)) (zv rfl (za1 zb7) o0)) (fun a w hst=>?_)
 have hst:St B w0 26 [(2,_)] [⟨1,28,ptrH,_⟩] a w:=hst
 refine zt<|gl (sts:=[none]) (news:=[]) (sp:=((.adr 3 1 (.some 0) True:Sp)::(.val 4 _)::(.adr 5 1 (.some 4) True)::(.val 6 _)::(.adr 7 1 (.some 8) True)::(.val 8 _)::(.adr 9 1 (.some 12) True)::(.val 10 _)::(.val 11 _)::(.val 12 _)::(.val 13 _)::(.adr 14 1 (.some 0) (_=true))::(.val 15 (Wh (_=true) _))::(.adr 16 1 (.some 4) (_=true))::(.val 17 (Wh (_=true) _))::(.adr 18 1 (.some 8) (_=true))::(.val 19 (Wh (_=true) _))::(.adr 20 1 (.some 12) (_=true))::(.val 21 (Wh (_=true) _))::(.val 22 (Wh (_=true) _))::(.val 23 (Wh (_=true) _))::(.val 24 (Wh (_=true) _))::(.val 25 _)::(.val 2 _)::[])) [.o 23] hst (oc (ob_a rfl rfl (zaa (lz0 0 rfl) zc4)) (zv rfl (za4 0 rfl zk trivial (lz0 0 rfl) (Sub.part 0 rfl rfl) zaf) (oc (ob_a rfl rfl (zaa (lz0 0 rfl) zca)) (zv rfl (za4 2 rfl zk trivial (lz0 0 rfl) (Sub.part 1 rfl rfl) zaf) (oc (ob_a rfl rfl (zaa (lz0 0 rfl) zc6)) (zv rfl (za4 4 rfl zk trivial (lz0 0 rfl) (Sub.part 2 rfl rfl) zaf) (oc (ob_a rfl rfl (zaa (lz0 0 rfl) zc1)) (zv rfl (za4 6 rfl zk trivial (lz0 0 rfl) (Sub.part 3 rfl rfl) zaf) (zv rfl (zda (D:=[U32]) (l:=[_,_,_,_]) (xs:=[.tmp 4,.tmp 6,.tmp 8,.tmp 10]) (zfz zk) zdu zk (n_ok zk) nq nq nq (.cons (vq 1 rfl) (.cons (vq 3 rfl) (.cons (vq 5 rfl) (.cons (vq 7 rfl) .nil)))) rfl rfl) (zv rfl (za5 (xs:=[.tmp 11]) (zrw [m.a,m.b,m.c,m.d] nq) (.cons (vq 8 rfl) .nil)) (zv rfl (za2 (vq 9 rfl)) (oc (zci rfl rfl rfl (vq 10 rfl) nq (fun hg=>zaa (lz0 0 rfl) zc4)) (oc (zad rfl rfl rfl (vq 10 rfl) nq (fun hg=>za4 11 rfl zk hg (lz0 0 rfl) (Sub.part 0 rfl rfl) zaf)) (oc (zci rfl rfl rfl (vq 10 rfl) nq (fun hg=>zaa (lz0 0 rfl) zca)) (oc (zad rfl rfl rfl (vq 10 rfl) nq (fun hg=>za4 13 rfl zk hg (lz0 0 rfl) (Sub.part 1 rfl rfl) zaf)) (oc (zci rfl rfl rfl (vq 10 rfl) nq (fun hg=>zaa (lz0 0 rfl) zc6)) (oc (zad rfl rfl rfl (vq 10 rfl) nq (fun hg=>za4 15 rfl zk hg (lz0 0 rfl) (Sub.part 2 rfl rfl) zaf)) (oc (zci rfl rfl rfl (vq 10 rfl) nq (fun hg=>zaa (lz0 0 rfl) zc1)) (oc (zad rfl rfl rfl (vq 10 rfl) nq (fun hg=>za4 17 rfl zk hg (lz0 0 rfl) (Sub.part 3 rfl rfl) zaf)) (oc (zad rfl rfl rfl (vq 10 rfl) nq (fun hg=>za5 (xs:=[.tmp 15,.tmp 17,.tmp 19,.tmp 21]) (r9det_x hg) (.cons (za9 (vq 12 rfl) hg) (.cons (za9 (vq 14 rfl) hg) (.cons (za9 (vq 16 rfl) hg) (.cons (za9 (vq 18 rfl) hg) .nil)))))) (oc (zad rfl rfl rfl (vq 10 rfl) nq (fun hg=>za5 (xs:=[]) zom .nil)) (oc (zad rfl rfl rfl (vq 10 rfl) nq (fun hg=>za5 (xs:=[.tmp 22,.tmp 23]) (zyk zo) (.cons (za9 (vq 19 rfl) hg) (.cons (za9 (vq 20 rfl) hg) .nil)))) (zv rfl (zcm (vq 10 rfl) (vq 21 rfl)) (zv rfl (za1 (vq 22 rfl)) o0)))))))))))))))))))))))) (fun a w hst=>?_)
 have hst:St B w0 26 [(2,_)] [⟨1,28,ptrH,_⟩] a w:=hst
 refine za0 ?_
 refine wp_ret ?_
 refine zan ?_ (zai rfl hst (zm 0 rfl))
 exact zbz r9may_e
theorem zn9 (m:RM):Cn Tryz.prog 75 [(RMA m).va] (In (if okM m then 0 else 1)):=by
 refine Cn.intro Tryz.func75 rfl zk nq (fun B w0 a hst=>?_)
 have hst:St B w0 6 [(0,(RMA m).va)] [] a w0.w:=hst
 refine wp_seq ?_
 refine gl (sts:=[]) (news:=[⟨1,28,ptrH,some 0,_,none⟩]) (sp:=[.alc 0,.val 2 _]) [.o 1] hst (oc (zak rfl rfl rfl (gq 0 rfl)) (zv rfl (za1 za3) o0)) (fun a w hst=>?_)
 have hst:St B w0 6 [(2,_)] [⟨1,28,ptrH,_⟩] a w:=hst
 refine zt ?_
 refine wp_seq ?_
 refine gl (sts:=[none]) (news:=[]) (sp:=[.val 3 _,.val 4 _,.val 5 _]) [.g 0,.o 2] hst (zv rfl (zab (lz0 0 rfl) zb4) (zv rfl (za5 (xs:=[.tmp 3]) (zi7 m) (.cons (vq 0 rfl) .nil)) (zv rfl (zem (vq 1 rfl)) o0))) (fun a w hst=>?_)
 have hst:St B w0 6 [(2,_),(5,_)] [⟨1,28,ptrH,_⟩] a w:=hst
 refine za0 ?_
 refine za8 hst (zm 1 rfl) (fun hb0=>?_) (fun hb0=>?_)
 ·refine wp_seq ?_
  refine gl (sts:=[none]) (news:=[]) (sp:=[.val 2 _]) [.o 0] hst (zv rfl (za1 za3) o0) (fun a w hst=>?_)
  have hst:St B w0 6 [(2,_)] [⟨1,28,ptrH,_⟩] a w:=hst
  refine za0 ?_
  refine wp_ret ?_
  refine zar ?_
  refine zan ?_ (zai rfl hst (zm 0 rfl))
  rw [if_neg (by intro e; rw [e] at hb0; exact absurd hb0 zd)]; exact zbt
 ·refine wp_skip ?_
  refine zt<|gl (sts:=[none]) (news:=[]) (sp:=[.val 2 _]) [.o 0] hst (zv rfl (za1 za3) o0) (fun a w hst=>?_)
  have hst:St B w0 6 [(2,_)] [⟨1,28,ptrH,_⟩] a w:=hst
  refine za0 ?_
  refine wp_ret ?_
  refine zan ?_ (zai rfl hst (zm 0 rfl))
  rw [if_pos (by simpa using hb0)]; exact zbt
theorem zuq  : Cn Tryz.prog 77 [] ((QMA 2 ⟨1,0,0,1⟩).va):=by
 refine Cn.intro Tryz.func77 rfl zk nq (fun B w0 a hst=>?_)
 have hst:St B w0 6 [] [] a w0.w:=hst
 refine wp_seq ?_
 refine gl (sts:=[]) (news:=[⟨0,28,ptrH,some 0,_,none⟩]) (sp:=[.alc 0]) [] hst (oc (zas rfl rfl rfl (Str.zero zb5)) o0) (fun a w hst=>?_)
 have hst:St B w0 6 [] [⟨0,28,ptrH,_⟩] a w:=hst
 refine zt<|gl (sts:=[some (5,_)]) (news:=[]) (sp:=[.val 1 _,.val 2 _,.val 3 _,.val 4 _,.val 5 _,.sto 0]) [] hst (zv rfl (za5 (xs:=[]) zom .nil) (zv rfl (za5 (xs:=[]) zgi .nil) (zv rfl (za5 (xs:=[]) zgi .nil) (zv rfl (za5 (xs:=[]) zom .nil) (zv rfl (zbb (xs:=[(0,.tmp 1),(1,.tmp 2),(2,.tmp 3),(3,.tmp 4)]) (qs:=[(0,_),(1,_),(2,_),(3,_)]) zb5 (.cons ⟨rfl,(vq 0 rfl),rfl⟩ (.cons ⟨rfl,(vq 1 rfl),rfl⟩ (.cons ⟨rfl,(vq 2 rfl),rfl⟩ (.cons ⟨rfl,(vq 3 rfl),rfl⟩ .nil))))) (oc (zag rfl rfl rfl (vq 4 rfl) zb4 (Eq.trans (b:=16) rfl rfl)) o0)))))) (fun a w hst=>?_)
 have hst:St B w0 6 [] [⟨0,28,ptrH,_⟩] a w:=hst
 refine za0 ?_
 refine wp_ret ?_
 refine zan ?_ (zao rfl hst (zm 0 rfl) zb4)
 exact zbt
end Go.Proofs.YthncfchnkjemiaaGreatDoor
