import Derived.Test.YtndjeibbjjpkfaaGreatDoorCtAa
import Derived.Test.YtndjeibbjjpkfaaGreatDoorCtAc
import Derived.Test.YtndjeibbjjpkfaaGreatDoorCtAl
import Derived.Test.YtndjeibbjjpkfaaGreatDoorCtAx
import Derived.Test.YtndjeibbjjpkfaaGreatDoorCtBa
set_option linter.unusedVariables false
set_option linter.unusedSimpArgs false
set_option linter.unusedSectionVars false
set_option maxRecDepth 100000
namespace Go.Proofs.YtndjeibbjjpkfaaGreatDoor
open Go Go.RowKit
theorem zxn : ∃ fn, Tryz.prog.funcs[204]? = some fn ∧ (fn.name == "runtime.NumGoroutine") = false ∧ fn.body.isNone = false := ⟨_, Tryz.func204, by kernel_rfl, by kernel_rfl⟩
theorem ex_rPlus : ∃ fn, Tryz.prog.funcs[219]? = some fn ∧ (fn.name == "runtime.NumGoroutine") = false ∧ fn.body.isNone = false := ⟨_, Tryz.func219, by kernel_rfl, by kernel_rfl⟩
theorem ztz : ∃ fn, Tryz.prog.funcs[221]? = some fn ∧ (fn.name == "runtime.NumGoroutine") = false ∧ fn.body.isNone = false := ⟨_, Tryz.func221, by kernel_rfl, by kernel_rfl⟩
theorem ex_rSign : ∃ fn, Tryz.prog.funcs[196]? = some fn ∧ (fn.name == "runtime.NumGoroutine") = false ∧ fn.body.isNone = false := ⟨_, Tryz.func196, by kernel_rfl, by kernel_rfl⟩
theorem zq5 : ∃ fn, Tryz.prog.funcs[222]? = some fn ∧ (fn.name == "runtime.NumGoroutine") = false ∧ fn.body.isNone = false := ⟨_, Tryz.func222, by kernel_rfl, by kernel_rfl⟩
theorem zph (p:Int)(hp:lz p≤1000000000):Cn Tryz.prog 222 [Zi p] (Zi (-p)):=by
 refine Cn.intro Tryz.func222 rfl zk nq (fun B w0 a O=>?_)
 have O:=zn [(0,Zi p)] [] O
 refine wp_seq<|zg [] [⟨1,28,ptrH,some 0,_,none⟩,⟨2,28,ptrH,some 1,_,none⟩] [.alc 0,.alc 1] [] O (oc (zan rfl rfl rfl (gq 0 rfl)) (oc (zaq rfl rfl rfl (Str.zero zbu)) o0)) (zz [] [⟨1,28,ptrH,_⟩,⟨2,28,ptrH,_⟩] fun a w O=>?_)
 refine zt<|zgd [[],[],[0,1],[0,1,2]] [none,some (3,_)] [] [.val 3 _,.val 4 _,.val 5 _,.sto 1] [] za6 O (zv rfl (za5 (xs:=[.const (.int .i64 (0))]) (zzt 0 zd zd) (.cons za3 .nil)) (zv rfl (zam (lz0 0 rfl) zaf) (zv rfl (za5 (xs:=[.tmp 3,.tmp 4]) (zvi 0 p (by simp [lz,zbx]) hp) (.cons (vq 0 rfl) (.cons (vq 1 rfl) .nil))) (oc (zac rfl rfl rfl (vq 2 rfl) zaf (Eq.trans (b:=2) rfl rfl)) o0)))) zk zk zk zk (zz [] [⟨1,28,ptrH,_⟩,⟨2,28,ptrH,_⟩] fun a w O=>?_)
 refine za0<|wp_ret<|zae ?_ (zak rfl O (zm 1 rfl) zaf)
 exact zbt (congrArg Zi (Int.zero_sub p))
section
variable {a b:Nat} {p q:Int} (ha:a≤1000000000)
include ha
theorem zho:Cn Tryz.prog 222 [Zs a p] (Zs a (-p)):=zs1 zq5 fun h=>(zph p zo).wkp (zgk (by rw [zi9]; exact h))
variable (hb:b≤1000000000)
include hb
theorem zew:Cn Tryz.prog 204 [Zs a p,Zs b q] (Zs (a+b) (p*q)):=zs2 zxn fun h h'=>(zva p q zo zo).wkp (zgk (by have:=zh5 p q; omega))
theorem rplus_z:Cn Tryz.prog 219 [Zs a p,Zs b q] (Zs (max a b+1) (p+q)):=zs2 ex_rPlus fun h h'=>(zqz p q zo zo).wkp (zgk (by have:=zo4 p q; omega))
theorem znr (hq:q≠0):Cn Tryz.prog 221 [Zs a p,Zs b q] (Tu [Zs a (p.tdiv q),Zs b (p.tmod q)]):=zs2 ztz fun h h'=>(zkw p q hq zo zo).wkp (tu_wk (.cons (zgk (by have:=zm9 p q; omega)) (.cons (zgk (by have:=lz_tm (p:=p) hq; omega)) .nil)))
end
theorem zvf {a:Nat}{p:Int}:Cn Tryz.prog 196 [Zs a p] (In p.sign):=zs1 ex_rSign fun _=>(zjh (riOf p)).post (by rw [zdt])
theorem rof_z {n:Int}(h0 : -9223372036854775808≤n)(h1:n<9223372036854775808):Cn Tryz.prog 198 [In n] (Zs 2 n):=(zzt n h0 h1).wkp (zgk (ztd zo))
theorem lz_tmod1 {p q:Int}(h:q≠0)(hq:lz q≤1000000000):lz (p.tmod q)≤1000000000:=Nat.le_trans (lz_tm h) hq
theorem gcd_tmod {X Y:Int}(h:Y≠0):Int.gcd Y (X.tmod Y)=Int.gcd X Y:=by
 show Nat.gcd Y.natAbs (X.tmod Y).natAbs=Nat.gcd X.natAbs Y.natAbs
 rw [zh2,Nat.gcd_comm X.natAbs,Nat.gcd_comm,← Nat.gcd_rec]
theorem zjl (p q:Int)(hp:lz p≤1000000000)(hq:lz q≤1000000000):Cn Tryz.prog 216 [Zi p,Zi q] (Zi ((Int.gcd p q:Nat):Int)):=by
 refine Cn.intro Tryz.func216 rfl zk nq (fun B w0 a O=>?_)
 have O:=zn [(0,Zi p),(1,Zi q)] [] O
 refine wp_seq<|zg [] [⟨2,28,ptrH,some 0,_,none⟩,⟨3,28,ptrH,some 1,_,none⟩,⟨4,28,ptrH,some 2,_,none⟩] [.alc 0,.alc 1,.alc 2] [] O (oc (zan rfl rfl rfl (gq 0 rfl)) (oc (zan rfl rfl rfl (gq 1 rfl)) (oc (zaq rfl rfl rfl (Str.zero zbu)) o0))) (zz [] [⟨2,28,ptrH,_⟩,⟨3,28,ptrH,_⟩,⟨4,28,ptrH,_⟩] fun a w O=>?_)
 refine zt<|wp_seq<|zgd [[],[0],[],[0,1,2],[0,1,2,3]] [none,none,none] [] [.val 7 _,.val 8 _,.val 9 _,.val 10 _,.val 11 _] [.o 4] za6 O (zv rfl (zam (lz0 0 rfl) zaf) (zv rfl (za5 (xs:=[.tmp 7]) (zpd p hp) (.cons (vq 0 rfl) .nil)) (zv rfl (zam (lz0 1 rfl) zaf) (zv rfl (za5 (xs:=[.tmp 9]) (zpd q hq) (.cons (vq 2 rfl) .nil)) (zv rfl (zb6 (vq 1 rfl) (vq 3 rfl)) o0))))) zk zk zk zk (zz [(11,_)] [⟨2,28,ptrH,_⟩,⟨3,28,ptrH,_⟩,⟨4,28,ptrH,_⟩] fun a w O=>?_)
 refine za0<|zcn (fun a w=>∃ X Y:Int,(lz X≤1000000000∧lz Y≤1000000000∧Int.gcd X Y=Int.gcd p q)∧St B w0 33 [] [⟨2,28,ptrH,RIA (riOf X)⟩,⟨3,28,ptrH,RIA (riOf Y)⟩,⟨4,28,ptrH,cat [BoA false,MgA []]⟩] a w) O (zm 0 rfl) (fun hb0=>?_) (fun hb0=>?_) (fun a w O=>?_)
 ·refine zg [some (2,_),some (3,_),none] [] [.val 12 _,.val 13 _,.sto 0,.sto 1] [] O (zv rfl (zam (lz0 1 rfl) zaf) (zv rfl (zam (lz0 0 rfl) zaf) (oc (zac rfl rfl rfl (vq 0 rfl) zaf (Eq.trans (b:=2) rfl rfl)) (oc (zac rfl rfl rfl (vq 1 rfl) zaf (Eq.trans (b:=2) rfl rfl)) o0)))) (zz [] [⟨2,28,ptrH,_⟩,⟨3,28,ptrH,_⟩,⟨4,28,ptrH,_⟩] fun a w O=>?_)
  refine za0 ?_
  have O:=St.sel O []
  exact ⟨q,p,⟨hq,hp,Int.gcd_comm q p⟩,O⟩
 ·refine wp_skip<|za0 ?_
  have O:=St.sel O []
  exact ⟨p,q,⟨hp,hq,rfl⟩,O⟩
 obtain ⟨X,Y,⟨hX,hY,hg⟩,O⟩:=O
 refine zt<|wp_seq<|zg [none,none,none] [] [.val 14 _,.val 15 _,.val 16 _] [.o 2] O (zv rfl (zam (lz0 1 rfl) zaf) (zv rfl (za5 (xs:=[.tmp 14]) ((zjh (riOf Y)).post (by rw [zdt])) (.cons (vq 0 rfl) .nil)) (zv rfl (zc5 (vq 1 rfl) za3) o0))) (zz [(16,_)] [⟨2,28,ptrH,_⟩,⟨3,28,ptrH,_⟩,⟨4,28,ptrH,_⟩] fun a w O=>?_)
 refine za0<|za9 O (zm 0 rfl) (fun hb1=>?_) (fun hb1=>?_)
 ·refine wp_seq<|zg [none,none,some (3,_)] [] [.val 17 _,.val 18 _,.val 19 _,.sto 2] [] O (zv rfl (zam (lz0 0 rfl) zaf) (zv rfl (zam (lz0 1 rfl) zaf) (zv rfl (za5 (xs:=[.tmp 17,.tmp 18]) (zkx X Y hX hY) (.cons (vq 0 rfl) (.cons (vq 1 rfl) .nil))) (oc (zac rfl rfl rfl (vq 2 rfl) zaf (Eq.trans (b:=2) rfl rfl)) o0)))) (zz [] [⟨2,28,ptrH,_⟩,⟨3,28,ptrH,_⟩,⟨4,28,ptrH,_⟩] fun a w O=>?_)
  refine za0<|wp_ret<|zah ?_
  refine zae ?_ (zak rfl O (zm 2 rfl) zaf)
  exact zbt (congrArg (fun n:Nat=>Zi (n:Int)) hg)
 ·have hY0:Y≠0:=fun e=>by rw [e] at hb1; exact absurd hb1 zd
  refine wp_skip<|zt<|zg [none,none,none] [⟨5,28,ptrH,some 6,_,some (8,_)⟩,⟨6,28,ptrH,some 7,_,some (9,_)⟩] [.val 21 _,.val 22 _,.val 23 _,.val 20 _,.val 24 _,.val 25 _,.alc 3,.alc 4,.sto 3,.sto 4] [] O (zv rfl (zam (lz0 0 rfl) zaf) (zv rfl (zam (lz0 1 rfl) zaf) (zv rfl (za5 (xs:=[.tmp 21,.tmp 22]) (zkw X Y hY0 hX hY) (.cons (vq 0 rfl) (.cons (vq 1 rfl) .nil))) (zv rfl (za2 (vq 2 rfl)) (zv rfl (zb5 (vq 3 rfl) rfl) (zv rfl (zb5 (vq 3 rfl) rfl) (oc (zaq rfl rfl rfl (Str.zero zbu)) (oc (zaq rfl rfl rfl (Str.zero zbu)) (oc (zac rfl rfl rfl (vq 4 rfl) zaf (Eq.trans (b:=2) rfl rfl)) (oc (zac rfl rfl rfl (vq 5 rfl) zaf (Eq.trans (b:=2) rfl rfl)) o0)))))))))) (zz [] [⟨2,28,ptrH,_⟩,⟨3,28,ptrH,_⟩,⟨4,28,ptrH,_⟩,⟨5,28,ptrH,_⟩,⟨6,28,ptrH,_⟩] fun a w O=>?_)
  refine zt<|wp_seq<|zg [none,none,none,none,none] [] [.val 26 _,.val 27 _,.val 28 _] [.o 2] O (zv rfl (zam (lz0 1 rfl) zaf) (zv rfl (za5 (xs:=[.tmp 26]) (zpd Y hY) (.cons (vq 0 rfl) .nil)) (zv rfl (zc5 (vq 1 rfl) za3) o0))) (zz [(28,_)] [⟨2,28,ptrH,_⟩,⟨3,28,ptrH,_⟩,⟨4,28,ptrH,_⟩,⟨5,28,ptrH,_⟩,⟨6,28,ptrH,_⟩] fun a w O=>?_)
  refine za0<|za9 O (zm 0 rfl) (fun hb2=>?_) (fun hb2=>?_)
  ·have h1:Y.natAbs=1:=bitF_one (by have:=beq_iff_eq.1 hb2; omega)
   refine wp_seq<|zg [none,none,some (1,_),none,none] [] [.val 29 _,.sto 2] [] O (zv rfl (za5 (xs:=[.const (.int .i64 (1))]) (zzt 1 zd zd) (.cons za3 .nil)) (oc (zac rfl rfl rfl (vq 0 rfl) zaf (Eq.trans (b:=2) rfl rfl)) o0)) (zz [] [⟨2,28,ptrH,_⟩,⟨3,28,ptrH,_⟩,⟨4,28,ptrH,_⟩,⟨5,28,ptrH,_⟩,⟨6,28,ptrH,_⟩] fun a w O=>?_)
   refine za0<|wp_ret<|zah ?_
   refine zae ?_ (zak rfl O (zm 2 rfl) zaf)
   exact zbt (congrArg (fun n:Nat=>Zi (n:Int)) (show 1=Int.gcd p q by rw [← hg]; show 1=Nat.gcd X.natAbs Y.natAbs; rw [h1,Nat.gcd_one_right]))
  ·refine wp_skip<|zt<|zg [none,none,some (3,_),none,none] [] [.val 30 _,.val 31 _,.val 32 _,.sto 2] [] O (zv rfl (zam (lz0 1 rfl) zaf) (zv rfl (zam (lz0 4 rfl) zaf) (zv rfl (za5 (xs:=[.tmp 30,.tmp 31]) (zkx Y (X.tmod Y) hY (lz_tmod1 hY0 hY)) (.cons (vq 0 rfl) (.cons (vq 1 rfl) .nil))) (oc (zac rfl rfl rfl (vq 2 rfl) zaf (Eq.trans (b:=2) rfl rfl)) o0)))) (zz [] [⟨2,28,ptrH,_⟩,⟨3,28,ptrH,_⟩,⟨4,28,ptrH,_⟩,⟨5,28,ptrH,_⟩,⟨6,28,ptrH,_⟩] fun a w O=>?_)
   refine za0<|wp_ret<|zae ?_ (zak rfl O (zm 2 rfl) zaf)
   exact zbt (congrArg (fun n:Nat=>Zi (n:Int)) ((gcd_tmod hY0).trans hg))
theorem zq6 : ∃ fn, Tryz.prog.funcs[216]? = some fn ∧ (fn.name == "runtime.NumGoroutine") = false ∧ fn.body.isNone = false := ⟨_, Tryz.func216, by kernel_rfl, by kernel_rfl⟩
theorem zt7 {a b:Nat}{p q:Int}(ha:a≤1000000000)(hb:b≤1000000000):Cn Tryz.prog 216 [Zs a p,Zs b q] (Zs (max a b) ((Int.gcd p q:Nat):Int)):=zs2 zq6 fun h h'=>(zjl p q zo zo).wkp (zgk (by have:=zwn p q; omega))
theorem zg2 {c d:Nat}{p q:Int}(hc:c≤1000000000)(hd:d≤1000000000)(hq:q≠0):Cn Tryz.prog 203 [Zs c p,Zs d q] (Qs (max c d) (Rat.divInt p q)):=by
 have hg0:0<Int.gcd p q:=Int.gcd_pos_of_ne_zero_right p hq
 obtain ⟨hn1,hn2⟩:=zps (p:=p) hq
 refine Cn.intro Tryz.func203 rfl zk nq (fun B w0 a O=>?_)
 have O:=zn [(0,Zs c p),(1,Zs d q)] [] O
 refine wp_seq<|zg [] [⟨2,28,ptrH,some 0,_,none⟩,⟨3,28,ptrH,some 1,_,none⟩,⟨4,30,ptrH,some 2,_,none⟩] [.alc 0,.alc 1,.alc 2] [] O (oc (zan rfl rfl rfl (gq 0 rfl)) (oc (zan rfl rfl rfl (gq 1 rfl)) (oc (zaq rfl rfl rfl (Str.zero zb3)) o0))) (zz [] [⟨2,28,ptrH,_⟩,⟨3,28,ptrH,_⟩,⟨4,30,ptrH,_⟩] fun a w O=>?_)
 refine zt<|zg [none,none,none] [⟨5,28,ptrH,some 3,_,some (4,_)⟩] [.val 10 _,.val 11 _,.val 12 _,.alc 3,.sto 3] [] O (zv rfl (zam (lz0 0 rfl) zaf) (zv rfl (zam (lz0 1 rfl) zaf) (zv rfl (za5 (xs:=[.tmp 10,.tmp 11]) (zt7 zo zo) (.cons (vq 0 rfl) (.cons (vq 1 rfl) .nil))) (oc (zaq rfl rfl rfl (Str.zero zbu)) (oc (zac rfl rfl rfl (vq 2 rfl) zaf (Eq.trans (b:=2) rfl rfl)) o0))))) (zz [] [⟨2,28,ptrH,_⟩,⟨3,28,ptrH,_⟩,⟨4,30,ptrH,_⟩,⟨5,28,ptrH,_⟩] fun a w O=>?_)
 refine zt<|zg [none,none,none,none] [⟨6,28,ptrH,some 6,_,some (8,_)⟩,⟨7,28,ptrH,some 7,_,some (9,_)⟩] [.val 14 _,.val 15 _,.val 16 _,.val 13 _,.val 17 _,.val 18 _,.alc 4,.alc 5,.sto 4,.sto 5] [] O (zv rfl (zam (lz0 0 rfl) zaf) (zv rfl (zam (lz0 3 rfl) zaf) (zv rfl (za5 (xs:=[.tmp 14,.tmp 15]) (znr zo zo zo) (.cons (vq 0 rfl) (.cons (vq 1 rfl) .nil))) (zv rfl (za2 (vq 2 rfl)) (zv rfl (zb5 (vq 3 rfl) rfl) (zv rfl (zb5 (vq 3 rfl) rfl) (oc (zaq rfl rfl rfl (Str.zero zbu)) (oc (zaq rfl rfl rfl (Str.zero zbu)) (oc (zac rfl rfl rfl (vq 4 rfl) zaf (Eq.trans (b:=2) rfl rfl)) (oc (zac rfl rfl rfl (vq 5 rfl) zaf (Eq.trans (b:=2) rfl rfl)) o0)))))))))) (zz [] [⟨2,28,ptrH,_⟩,⟨3,28,ptrH,_⟩,⟨4,30,ptrH,_⟩,⟨5,28,ptrH,_⟩,⟨6,28,ptrH,_⟩,⟨7,28,ptrH,_⟩] fun a w O=>?_)
 refine zt<|zg [none,none,none,none,none,none] [⟨8,28,ptrH,some 6,_,some (8,_)⟩,⟨9,28,ptrH,some 7,_,some (9,_)⟩] [.val 20 _,.val 21 _,.val 22 _,.val 19 _,.val 23 _,.val 24 _,.alc 6,.alc 7,.sto 6,.sto 7] [] O (zv rfl (zam (lz0 1 rfl) zaf) (zv rfl (zam (lz0 3 rfl) zaf) (zv rfl (za5 (xs:=[.tmp 20,.tmp 21]) (znr zo zo zo) (.cons (vq 0 rfl) (.cons (vq 1 rfl) .nil))) (zv rfl (za2 (vq 2 rfl)) (zv rfl (zb5 (vq 3 rfl) rfl) (zv rfl (zb5 (vq 3 rfl) rfl) (oc (zaq rfl rfl rfl (Str.zero zbu)) (oc (zaq rfl rfl rfl (Str.zero zbu)) (oc (zac rfl rfl rfl (vq 4 rfl) zaf (Eq.trans (b:=2) rfl rfl)) (oc (zac rfl rfl rfl (vq 5 rfl) zaf (Eq.trans (b:=2) rfl rfl)) o0)))))))))) (zz [] [⟨2,28,ptrH,_⟩,⟨3,28,ptrH,_⟩,⟨4,30,ptrH,_⟩,⟨5,28,ptrH,_⟩,⟨6,28,ptrH,_⟩,⟨7,28,ptrH,_⟩,⟨8,28,ptrH,_⟩,⟨9,28,ptrH,_⟩] fun a w O=>?_)
 refine zt<|wp_seq<|zg [none,none,none,none,none,none,none,none] [] [.val 25 _,.val 26 _,.val 27 _] [.o 2] O (zv rfl (zam (lz0 6 rfl) zaf) (zv rfl (za5 (xs:=[.tmp 25]) zvf (.cons (vq 0 rfl) .nil)) (zv rfl (zb6 (vq 1 rfl) za3) o0))) (zz [(27,_)] [⟨2,28,ptrH,_⟩,⟨3,28,ptrH,_⟩,⟨4,30,ptrH,_⟩,⟨5,28,ptrH,_⟩,⟨6,28,ptrH,_⟩,⟨7,28,ptrH,_⟩,⟨8,28,ptrH,_⟩,⟨9,28,ptrH,_⟩] fun a w O=>?_)
 refine za0<|za9 O (zm 0 rfl) (fun hb0=>?_) (fun hb0=>?_)
 ·refine wp_seq<|zgd [[],[0],[],[0,1,2],[0,1,2,3],[0,1,2,3,4]] [none,none,some (5,_),none,none,none,none,none] [] [.val 28 _,.val 29 _,.val 30 _,.val 31 _,.val 32 _,.sto 2] [] za6 O (zv rfl (zam (lz0 4 rfl) zaf) (zv rfl (za5 (xs:=[.tmp 28]) (zho zo) (.cons (vq 0 rfl) .nil)) (zv rfl (zam (lz0 6 rfl) zaf) (zv rfl (za5 (xs:=[.tmp 30]) (zho zo) (.cons (vq 2 rfl) .nil)) (zv rfl (zb8 (xs:=[(0,.tmp 29),(1,.tmp 31)]) (qs:=[(0,_),(1,_)]) zb3 (.cons ⟨rfl,(vq 1 rfl),rfl⟩ (.cons ⟨rfl,(vq 3 rfl),rfl⟩ .nil))) (oc (zac rfl rfl rfl (vq 4 rfl) zad (Eq.trans (b:=4) rfl rfl)) o0)))))) zk zk zk zk (zz [] [⟨2,28,ptrH,_⟩,⟨3,28,ptrH,_⟩,⟨4,30,ptrH,_⟩,⟨5,28,ptrH,_⟩,⟨6,28,ptrH,_⟩,⟨7,28,ptrH,_⟩,⟨8,28,ptrH,_⟩,⟨9,28,ptrH,_⟩] fun a w O=>?_)
  refine za0<|wp_ret<|zah ?_
  refine zae ?_ (zak rfl O (zm 2 rfl) zad)
  rw [if_pos (zv4 hb0)] at hn1 hn2; rw [hn1,hn2]; exact (zc8 (.cons (zfg (Nat.le_max_left _ _)) (.cons (zfg (Nat.le_max_right _ _)) .nil))).va
 ·refine wp_skip<|zt<|zg [none,none,some (3,_),none,none,none,none,none] [] [.val 33 _,.val 34 _,.val 35 _,.sto 2] [] O (zv rfl (zam (lz0 4 rfl) zaf) (zv rfl (zam (lz0 6 rfl) zaf) (zv rfl (zb8 (xs:=[(0,.tmp 33),(1,.tmp 34)]) (qs:=[(0,_),(1,_)]) zb3 (.cons ⟨rfl,(vq 0 rfl),rfl⟩ (.cons ⟨rfl,(vq 1 rfl),rfl⟩ .nil))) (oc (zac rfl rfl rfl (vq 2 rfl) zad (Eq.trans (b:=4) rfl rfl)) o0)))) (zz [] [⟨2,28,ptrH,_⟩,⟨3,28,ptrH,_⟩,⟨4,30,ptrH,_⟩,⟨5,28,ptrH,_⟩,⟨6,28,ptrH,_⟩,⟨7,28,ptrH,_⟩,⟨8,28,ptrH,_⟩,⟨9,28,ptrH,_⟩] fun a w O=>?_)
  refine za0<|wp_ret<|zae ?_ (zak rfl O (zm 2 rfl) zad)
  rw [if_neg (sgn_no hb0)] at hn1 hn2; rw [hn1,hn2]; exact (zc8 (.cons (zfg (Nat.le_max_left _ _)) (.cons (zfg (Nat.le_max_right _ _)) .nil))).va
theorem zdk  : Cn Tryz.prog 165 [] (Qs 2 0):=by
 refine Cn.intro Tryz.func165 rfl zk nq (fun B w0 a O=>?_)
 have O:=zn [] [] O
 refine wp_seq<|zg [] [⟨0,30,ptrH,some 0,_,none⟩] [.alc 0] [] O (oc (zaq rfl rfl rfl (Str.zero zb3)) o0) (zz [] [⟨0,30,ptrH,_⟩] fun a w O=>?_)
 refine zt<|zg [some (2,_)] [] [.val 1 _,.val 2 _,.sto 0] [] O (zv rfl (za5 (xs:=[.const (.int .i64 (1))]) (rof_z zd zd) (.cons za3 .nil)) (zv rfl (zb8 (xs:=[(1,.tmp 1)]) (qs:=[(1,_)]) zb3 (.cons ⟨rfl,(vq 0 rfl),rfl⟩ .nil)) (oc (zac rfl rfl rfl (vq 1 rfl) zad (Eq.trans (b:=4) rfl rfl)) o0))) (zz [] [⟨0,30,ptrH,_⟩] fun a w O=>?_)
 refine za0<|wp_ret<|zae ?_ (zak rfl O (zm 0 rfl) zad)
 exact q0_wk.va
theorem zvu {p q:Int}(hp : -9223372036854775808≤p)(hp1:p<9223372036854775808)(hq : -9223372036854775808≤q)(hq1:q<9223372036854775808)(h0:q≠0):Cn Tryz.prog 197 [In p,In q] (Qs 2 (Rat.divInt p q)):=by
 refine Cn.intro Tryz.func197 rfl zk nq (fun B w0 a O=>?_)
 have O:=zn [(0,In p),(1,In q)] [] O
 refine wp_seq<|zg [] [⟨4,30,ptrH,some 0,_,none⟩] [.alc 0] [.g 0,.g 1] O (oc (zaq rfl rfl rfl (Str.zero zb3)) o0) (zz [(0,_),(1,_)] [⟨4,30,ptrH,_⟩] fun a w O=>?_)
 refine zt<|zg [some (5,_)] [] [.val 5 _,.val 6 _,.val 7 _,.val 8 _,.val 9 _,.sto 0] [] O (zv rfl (za2 (gq 0 rfl)) (zv rfl (za5 (xs:=[.tmp 5]) (rof_z hp hp1) (.cons (vq 0 rfl) .nil)) (zv rfl (za2 (gq 1 rfl)) (zv rfl (za5 (xs:=[.tmp 7]) (rof_z hq hq1) (.cons (vq 2 rfl) .nil)) (zv rfl (za5 (xs:=[.tmp 6,.tmp 8]) (zg2 zo zo h0) (.cons (vq 1 rfl) (.cons (vq 3 rfl) .nil))) (oc (zac rfl rfl rfl (vq 4 rfl) zad (Eq.trans (b:=4) rfl rfl)) o0)))))) (zz [] [⟨4,30,ptrH,_⟩] fun a w O=>?_)
 refine za0<|wp_ret<|zae ?_ (zak rfl O (zm 0 rfl) zad)
 exact zbi
theorem zhp  : Cn Tryz.prog 164 [] (Qs 2 1):=by
 refine Cn.intro Tryz.func164 rfl zk nq (fun B w0 a O=>?_)
 have O:=zn [] [] O
 refine wp_seq<|zg [] [⟨0,30,ptrH,some 0,_,none⟩] [.alc 0] [] O (oc (zaq rfl rfl rfl (Str.zero zb3)) o0) (zz [] [⟨0,30,ptrH,_⟩] fun a w O=>?_)
 refine zt<|zg [some (1,_)] [] [.val 1 _,.sto 0] [] O (zv rfl (za5 (xs:=[.const (.int .i64 (1)),.const (.int .i64 (1))]) (zvu zd zd zd zd zd) (.cons za3 (.cons za3 .nil))) (oc (zac rfl rfl rfl (vq 0 rfl) zad (Eq.trans (b:=4) rfl rfl)) o0)) (zz [] [⟨0,30,ptrH,_⟩] fun a w O=>?_)
 refine za0<|wp_ret<|zae ?_ (zak rfl O (zm 0 rfl) zad)
 exact zbt (congrArg (Qs 2) (show Rat.divInt 1 1=1 from rfl))
theorem zir {c d:Nat}{x y:Rat}(hc:c+d≤900000000):Cn Tryz.prog 199 [Qs c x,Qs d y] (Qs (c+d+1) (x+y)):=by
 refine Cn.intro Tryz.func199 rfl zk nq (fun B w0 a O=>?_)
 have O:=zn [(0,Qs c x),(1,Qs d y)] [] O
 refine wp_seq<|zg [] [⟨2,30,ptrH,some 0,_,none⟩,⟨3,30,ptrH,some 1,_,none⟩,⟨4,30,ptrH,some 2,_,none⟩] [.alc 0,.alc 1,.alc 2] [] O (oc (zan rfl rfl rfl (gq 0 rfl)) (oc (zan rfl rfl rfl (gq 1 rfl)) (oc (zaq rfl rfl rfl (Str.zero zb3)) o0))) (zz [] [⟨2,30,ptrH,_⟩,⟨3,30,ptrH,_⟩,⟨4,30,ptrH,_⟩] fun a w O=>?_)
 refine zt<|zgd [[],[0],[],[2],[0,1,2,3],[],[5],[],[7],[0,1,2,3,4,5,6,7,8],[0,1,2,3,4,5,6,7,8,9],[],[0,1,2,3,4,5,6,7,8,9,10,11]] [none,none,none] [⟨5,28,ptrH,some 11,_,some (12,_)⟩] [.adr 6 2 (.some 0) True,.val 7 _,.adr 8 3 (.some 2) True,.val 9 _,.val 10 _,.adr 11 3 (.some 0) True,.val 12 _,.adr 13 2 (.some 2) True,.val 14 _,.val 15 _,.val 16 _,.alc 3,.sto 3] [] za6 O (oc (ob_a rfl rfl (za7 (lz0 0 rfl) zbf)) (zv rfl (za4 0 rfl zk trivial (lz0 0 rfl) (Sub.part 0 rfl rfl) zaf) (oc (ob_a rfl rfl (za7 (lz0 1 rfl) zb9)) (zv rfl (za4 2 rfl zk trivial (lz0 1 rfl) (Sub.part 1 rfl rfl) zaf) (zv rfl (za5 (xs:=[.tmp 7,.tmp 9]) (zew zo zo) (.cons (vq 1 rfl) (.cons (vq 3 rfl) .nil))) (oc (ob_a rfl rfl (za7 (lz0 1 rfl) zbf)) (zv rfl (za4 5 rfl zk trivial (lz0 1 rfl) (Sub.part 0 rfl rfl) zaf) (oc (ob_a rfl rfl (za7 (lz0 0 rfl) zb9)) (zv rfl (za4 7 rfl zk trivial (lz0 0 rfl) (Sub.part 1 rfl rfl) zaf) (zv rfl (za5 (xs:=[.tmp 12,.tmp 14]) (zew zo zo) (.cons (vq 6 rfl) (.cons (vq 8 rfl) .nil))) (zv rfl (za5 (xs:=[.tmp 10,.tmp 15]) (rplus_z zo zo) (.cons (vq 4 rfl) (.cons (vq 9 rfl) .nil))) (oc (zaq rfl rfl rfl (Str.zero zbu)) (oc (zac rfl rfl rfl (vq 10 rfl) zaf (Eq.trans (b:=2) rfl rfl)) o0))))))))))))) zk zk zk zk (zz [] [⟨2,30,ptrH,_⟩,⟨3,30,ptrH,_⟩,⟨4,30,ptrH,_⟩,⟨5,28,ptrH,_⟩] fun a w O=>?_)
 refine zt<|zgd [[],[],[1],[],[3],[1,2,3,4],[0,1,2,3,4,5],[0,1,2,3,4,5,6]] [none,none,some (7,_),none] [] [.val 17 _,.adr 18 2 (.some 2) True,.val 19 _,.adr 20 3 (.some 2) True,.val 21 _,.val 22 _,.val 23 _,.sto 2] [] za6 O (zv rfl (zam (lz0 3 rfl) zaf) (oc (ob_a rfl rfl (za7 (lz0 0 rfl) zb9)) (zv rfl (za4 1 rfl zk trivial (lz0 0 rfl) (Sub.part 1 rfl rfl) zaf) (oc (ob_a rfl rfl (za7 (lz0 1 rfl) zb9)) (zv rfl (za4 3 rfl zk trivial (lz0 1 rfl) (Sub.part 1 rfl rfl) zaf) (zv rfl (za5 (xs:=[.tmp 19,.tmp 21]) (zew zo zo) (.cons (vq 2 rfl) (.cons (vq 4 rfl) .nil))) (zv rfl (za5 (xs:=[.tmp 17,.tmp 22]) (zg2 zo zo (den_nz x y)) (.cons (vq 0 rfl) (.cons (vq 5 rfl) .nil))) (oc (zac rfl rfl rfl (vq 6 rfl) zad (Eq.trans (b:=4) rfl rfl)) o0)))))))) zk zk zk zk (zz [] [⟨2,30,ptrH,_⟩,⟨3,30,ptrH,_⟩,⟨4,30,ptrH,_⟩,⟨5,28,ptrH,_⟩] fun a w O=>?_)
 refine za0<|wp_ret<|zae ?_ (zak rfl O (zm 2 rfl) zad)
 exact zcj (zbt (congrArg (Qs _) (zvq x y))) (zbg zo).va
theorem zjk {c d:Nat}{x y:Rat}(hc:c+d≤900000000):Cn Tryz.prog 170 [Qs c x,Qs d y] (Qs (c+d) (x*y)):=by
 refine Cn.intro Tryz.func170 rfl zk nq (fun B w0 a O=>?_)
 have O:=zn [(0,Qs c x),(1,Qs d y)] [] O
 refine wp_seq<|zg [] [⟨2,30,ptrH,some 0,_,none⟩,⟨3,30,ptrH,some 1,_,none⟩,⟨4,30,ptrH,some 2,_,none⟩] [.alc 0,.alc 1,.alc 2] [] O (oc (zan rfl rfl rfl (gq 0 rfl)) (oc (zan rfl rfl rfl (gq 1 rfl)) (oc (zaq rfl rfl rfl (Str.zero zb3)) o0))) (zz [] [⟨2,30,ptrH,_⟩,⟨3,30,ptrH,_⟩,⟨4,30,ptrH,_⟩] fun a w O=>?_)
 refine zt<|zgd [[],[0],[],[2],[0,1,2,3],[],[5],[],[7],[0,1,2,3,4,5,6,7,8],[0,1,2,3,4,5,6,7,8,9],[0,1,2,3,4,5,6,7,8,9,10]] [none,none,some (11,_)] [] [.adr 5 2 (.some 0) True,.val 6 _,.adr 7 3 (.some 0) True,.val 8 _,.val 9 _,.adr 10 2 (.some 2) True,.val 11 _,.adr 12 3 (.some 2) True,.val 13 _,.val 14 _,.val 15 _,.sto 2] [] za6 O (oc (ob_a rfl rfl (za7 (lz0 0 rfl) zbf)) (zv rfl (za4 0 rfl zk trivial (lz0 0 rfl) (Sub.part 0 rfl rfl) zaf) (oc (ob_a rfl rfl (za7 (lz0 1 rfl) zbf)) (zv rfl (za4 2 rfl zk trivial (lz0 1 rfl) (Sub.part 0 rfl rfl) zaf) (zv rfl (za5 (xs:=[.tmp 6,.tmp 8]) (zew zo zo) (.cons (vq 1 rfl) (.cons (vq 3 rfl) .nil))) (oc (ob_a rfl rfl (za7 (lz0 0 rfl) zb9)) (zv rfl (za4 5 rfl zk trivial (lz0 0 rfl) (Sub.part 1 rfl rfl) zaf) (oc (ob_a rfl rfl (za7 (lz0 1 rfl) zb9)) (zv rfl (za4 7 rfl zk trivial (lz0 1 rfl) (Sub.part 1 rfl rfl) zaf) (zv rfl (za5 (xs:=[.tmp 11,.tmp 13]) (zew zo zo) (.cons (vq 6 rfl) (.cons (vq 8 rfl) .nil))) (zv rfl (za5 (xs:=[.tmp 9,.tmp 14]) (zg2 zo zo (den_nz x y)) (.cons (vq 4 rfl) (.cons (vq 9 rfl) .nil))) (oc (zac rfl rfl rfl (vq 10 rfl) zad (Eq.trans (b:=4) rfl rfl)) o0)))))))))))) zk zk zk zk (zz [] [⟨2,30,ptrH,_⟩,⟨3,30,ptrH,_⟩,⟨4,30,ptrH,_⟩] fun a w O=>?_)
 refine za0<|wp_ret<|zae ?_ (zak rfl O (zm 2 rfl) zad)
 exact zcj (zbt (congrArg (Qs _) (zpe x y))) (zbg zo).va
theorem r2over_q {c d:Nat}{x y:Rat}(hc:c+d≤900000000)(h0:y≠0):Cn Tryz.prog 169 [Qs c x,Qs d y] (Qs (c+d) (x/y)):=by
 refine Cn.intro Tryz.func169 rfl zk nq (fun B w0 a O=>?_)
 have O:=zn [(0,Qs c x),(1,Qs d y)] [] O
 refine wp_seq<|zg [] [⟨2,30,ptrH,some 0,_,none⟩,⟨3,30,ptrH,some 1,_,none⟩,⟨4,30,ptrH,some 2,_,none⟩] [.alc 0,.alc 1,.alc 2] [] O (oc (zan rfl rfl rfl (gq 0 rfl)) (oc (zan rfl rfl rfl (gq 1 rfl)) (oc (zaq rfl rfl rfl (Str.zero zb3)) o0))) (zz [] [⟨2,30,ptrH,_⟩,⟨3,30,ptrH,_⟩,⟨4,30,ptrH,_⟩] fun a w O=>?_)
 refine zt<|zgd [[],[0],[],[2],[0,1,2,3],[],[5],[],[7],[0,1,2,3,4,5,6,7,8],[0,1,2,3,4,5,6,7,8,9],[0,1,2,3,4,5,6,7,8,9,10]] [none,none,some (11,_)] [] [.adr 5 2 (.some 0) True,.val 6 _,.adr 7 3 (.some 2) True,.val 8 _,.val 9 _,.adr 10 2 (.some 2) True,.val 11 _,.adr 12 3 (.some 0) True,.val 13 _,.val 14 _,.val 15 _,.sto 2] [] za6 O (oc (ob_a rfl rfl (za7 (lz0 0 rfl) zbf)) (zv rfl (za4 0 rfl zk trivial (lz0 0 rfl) (Sub.part 0 rfl rfl) zaf) (oc (ob_a rfl rfl (za7 (lz0 1 rfl) zb9)) (zv rfl (za4 2 rfl zk trivial (lz0 1 rfl) (Sub.part 1 rfl rfl) zaf) (zv rfl (za5 (xs:=[.tmp 6,.tmp 8]) (zew zo zo) (.cons (vq 1 rfl) (.cons (vq 3 rfl) .nil))) (oc (ob_a rfl rfl (za7 (lz0 0 rfl) zb9)) (zv rfl (za4 5 rfl zk trivial (lz0 0 rfl) (Sub.part 1 rfl rfl) zaf) (oc (ob_a rfl rfl (za7 (lz0 1 rfl) zbf)) (zv rfl (za4 7 rfl zk trivial (lz0 1 rfl) (Sub.part 0 rfl rfl) zaf) (zv rfl (za5 (xs:=[.tmp 11,.tmp 13]) (zew zo zo) (.cons (vq 6 rfl) (.cons (vq 8 rfl) .nil))) (zv rfl (za5 (xs:=[.tmp 9,.tmp 14]) (zg2 zo zo (zwb x h0)) (.cons (vq 4 rfl) (.cons (vq 9 rfl) .nil))) (oc (zac rfl rfl rfl (vq 10 rfl) zad (Eq.trans (b:=4) rfl rfl)) o0)))))))))))) zk zk zk zk (zz [] [⟨2,30,ptrH,_⟩,⟨3,30,ptrH,_⟩,⟨4,30,ptrH,_⟩] fun a w O=>?_)
 refine za0<|wp_ret<|zae ?_ (zak rfl O (zm 2 rfl) zad)
 exact zcj (zbt (congrArg (Qs _) (zpf x y))) (zbg zo).va
theorem neg_wk {c:Nat}{x:Rat}:WkA (cat [ZA c (-x.num),ZA c (x.den:Int)]) (QA c (-x)):=zi4 (by unfold QA; rw [Rat.neg_num,Rat.neg_den])
theorem zt6 {c:Nat}{x:Rat}(hc:c≤900000000):Cn Tryz.prog 238 [Qs c x] (Qs c (-x)):=by
 refine Cn.intro Tryz.func238 rfl zk nq (fun B w0 a O=>?_)
 have O:=zn [(0,Qs c x)] [] O
 refine wp_seq<|zg [] [⟨1,30,ptrH,some 0,_,none⟩,⟨2,30,ptrH,some 1,_,none⟩] [.alc 0,.alc 1] [] O (oc (zan rfl rfl rfl (gq 0 rfl)) (oc (zaq rfl rfl rfl (Str.zero zb3)) o0)) (zz [] [⟨1,30,ptrH,_⟩,⟨2,30,ptrH,_⟩] fun a w O=>?_)
 refine zt<|zgd [[],[0],[0,1],[],[3],[0,1,2,3,4],[0,1,2,3,4,5]] [none,some (6,_)] [] [.adr 3 1 (.some 0) True,.val 4 _,.val 5 _,.adr 6 1 (.some 2) True,.val 7 _,.val 8 _,.sto 1] [] za6 O (oc (ob_a rfl rfl (za7 (lz0 0 rfl) zbf)) (zv rfl (za4 0 rfl zk trivial (lz0 0 rfl) (Sub.part 0 rfl rfl) zaf) (zv rfl (za5 (xs:=[.tmp 4]) (zho zo) (.cons (vq 1 rfl) .nil)) (oc (ob_a rfl rfl (za7 (lz0 0 rfl) zb9)) (zv rfl (za4 3 rfl zk trivial (lz0 0 rfl) (Sub.part 1 rfl rfl) zaf) (zv rfl (zb8 (xs:=[(0,.tmp 5),(1,.tmp 7)]) (qs:=[(0,_),(1,_)]) zb3 (.cons ⟨rfl,(vq 2 rfl),rfl⟩ (.cons ⟨rfl,(vq 4 rfl),rfl⟩ .nil))) (oc (zac rfl rfl rfl (vq 5 rfl) zad (Eq.trans (b:=4) rfl rfl)) o0))))))) zk zk zk zk (zz [] [⟨1,30,ptrH,_⟩,⟨2,30,ptrH,_⟩] fun a w O=>?_)
 refine za0<|wp_ret<|zae ?_ (zak rfl O (zm 1 rfl) zad)
 exact neg_wk.va
theorem zvv {c d:Nat}{x y:Rat}(hc:c+d≤900000000):Cn Tryz.prog 220 [Qs c x,Qs d y] (Qs (c+d+1) (x-y)):=by
 refine Cn.intro Tryz.func220 rfl zk nq (fun B w0 a O=>?_)
 have O:=zn [(0,Qs c x),(1,Qs d y)] [] O
 refine wp_seq<|zg [] [⟨2,30,ptrH,some 0,_,none⟩,⟨3,30,ptrH,some 1,_,none⟩,⟨4,30,ptrH,some 2,_,none⟩] [.alc 0,.alc 1,.alc 2] [] O (oc (zan rfl rfl rfl (gq 0 rfl)) (oc (zan rfl rfl rfl (gq 1 rfl)) (oc (zaq rfl rfl rfl (Str.zero zb3)) o0))) (zz [] [⟨2,30,ptrH,_⟩,⟨3,30,ptrH,_⟩,⟨4,30,ptrH,_⟩] fun a w O=>?_)
 refine zt<|zgd [[],[],[1],[0,1,2],[0,1,2,3]] [none,none,some (4,_)] [] [.val 5 _,.val 6 _,.val 7 _,.val 8 _,.sto 2] [] za6 O (zv rfl (zam (lz0 0 rfl) zad) (zv rfl (zam (lz0 1 rfl) zad) (zv rfl (za5 (xs:=[.tmp 6]) (zt6 zo) (.cons (vq 1 rfl) .nil)) (zv rfl (za5 (xs:=[.tmp 5,.tmp 7]) (zir zo) (.cons (vq 0 rfl) (.cons (vq 2 rfl) .nil))) (oc (zac rfl rfl rfl (vq 3 rfl) zad (Eq.trans (b:=4) rfl rfl)) o0))))) zk zk zk zk (zz [] [⟨2,30,ptrH,_⟩,⟨3,30,ptrH,_⟩,⟨4,30,ptrH,_⟩] fun a w O=>?_)
 refine za0<|wp_ret<|zae ?_ (zak rfl O (zm 2 rfl) zad)
 exact zbt (congrArg (Qs _) (show x + -y=x-y by grind))
theorem ziq {c:Nat}{x:Rat}:Cn Tryz.prog 162 [Qs c x] (In x.num.sign):=by
 refine Cn.intro Tryz.func162 rfl zk nq (fun B w0 a O=>?_)
 have O:=zn [(0,Qs c x)] [] O
 refine wp_seq<|zg [] [⟨1,30,ptrH,some 0,_,none⟩] [.alc 0,.val 2 _] [.o 1] O (oc (zan rfl rfl rfl (gq 0 rfl)) (zv rfl (za1 za3) o0)) (zz [(2,_)] [⟨1,30,ptrH,_⟩] fun a w O=>?_)
 refine zt<|zg [none] [] [.adr 3 1 (.some 0) True,.val 4 _,.val 5 _,.val 2 _] [.o 3] O (oc (ob_a rfl rfl (za7 (lz0 0 rfl) zbf)) (zv rfl (za4 0 rfl zk trivial (lz0 0 rfl) (Sub.part 0 rfl rfl) zaf) (zv rfl (za5 (xs:=[.tmp 4]) zvf (.cons (vq 1 rfl) .nil)) (zv rfl (za1 (vq 2 rfl)) o0)))) (zz [(2,_)] [⟨1,30,ptrH,_⟩] fun a w O=>?_)
 refine za0<|wp_ret<|zae ?_ (zag rfl O (zm 0 rfl))
 exact zbi
theorem rchk1 {g:Nat}(h:decide ((1:Int)<((g:Nat):Int))=true):g≠1:=by have:=of_decide_eq_true h; omega
theorem rchk2 {g:Nat}(h:decide ((1:Int)<((g:Nat):Int))=false)(h0:g≠0):g=1:=by have:=of_decide_eq_false h; omega
theorem zt9 (xn xd:RI):Cn Tryz.prog 195 [(RFA ⟨xn,xd⟩).va] (In (if okF ⟨xn,xd⟩ then 0 else 1)):=by
 refine Cn.intro Tryz.func195 rfl zk nq (fun B w0 a O=>?_)
 have O:=zn [(0,(RFA ⟨xn,xd⟩).va)] [] O
 have hok:=zll (O.vals (0,(RFA ⟨xn,xd⟩).va) (zm 0 rfl))
 refine wp_seq<|zg [] [⟨1,30,ptrH,some 0,_,none⟩] [.alc 0,.val 2 _] [.o 1] O (oc (zan rfl rfl rfl (gq 0 rfl)) (zv rfl (za1 za3) o0)) (zz [(2,_)] [⟨1,30,ptrH,_⟩] fun a w O=>?_)
 refine zt<|wp_seq<|zg [none] [] [.adr 4 1 (.some 0) True,.val 5 _,.val 6 _,.val 7 _,.val 8 _,.adr 9 1 (.some 2) (_=false),.val 10 (Wh (_=false) _),.val 11 (Wh (_=false) _),.val 12 (Wh (_=false) _),.val 13 _,.val 14 _,.adr 15 1 (.some 2) (_=false),.val 16 (Wh (_=false) _),.val 17 (Wh (_=false) _),.val 18 (Wh (_=false) _),.val 19 _] [.g 0,.o 15] O (oc (ob_a rfl rfl (za7 (lz0 0 rfl) zbf)) (zv rfl (za4 0 rfl zk trivial (lz0 0 rfl) (Sub.part 0 rfl rfl) zaf) (zv rfl (za5 (xs:=[.tmp 5]) (zr2 _) (.cons (vq 1 rfl) .nil)) (zv rfl (zd9 (vq 2 rfl) za3) (zv rfl (za2 (vq 3 rfl)) (oc (zce rfl rfl rfl (vq 4 rfl) nq (fun hg=>za7 (lz0 0 rfl) zb9)) (oc (zai rfl rfl rfl (vq 4 rfl) nq (fun hg=>za4 5 rfl zk hg (lz0 0 rfl) (Sub.part 1 rfl rfl) zaf)) (oc (zai rfl rfl rfl (vq 4 rfl) nq (fun hg=>za5 (xs:=[.tmp 10]) (zr2 _) (.cons (zaa (vq 6 rfl) hg) .nil))) (oc (zai rfl rfl rfl (vq 4 rfl) nq (fun hg=>zd9 (zaa (vq 7 rfl) hg) za3)) (zv rfl (r_or (vq 4 rfl) (vq 8 rfl)) (zv rfl (za2 (vq 9 rfl)) (oc (zce rfl rfl rfl (vq 10 rfl) nq (fun hg=>za7 (lz0 0 rfl) zb9)) (oc (zai rfl rfl rfl (vq 10 rfl) nq (fun hg=>za4 11 rfl zk hg (lz0 0 rfl) (Sub.part 1 rfl rfl) zaf)) (oc (zai rfl rfl rfl (vq 10 rfl) nq (fun hg=>za5 (xs:=[.tmp 16]) (zjh _) (.cons (zaa (vq 12 rfl) hg) .nil))) (oc (zai rfl rfl rfl (vq 10 rfl) nq (fun hg=>zt3 (zaa (vq 13 rfl) hg) za3)) (zv rfl (r_or (vq 10 rfl) (vq 14 rfl)) o0)))))))))))))))) (zz [(2,_),(19,_)] [⟨1,30,ptrH,_⟩] fun a w O=>?_)
 refine za0<|za9 O (zm 1 rfl) (fun hb0=>?_) (fun hb0=>?_)
 ·refine wp_seq<|zg [none] [] [.val 2 _] [.o 0] O (zv rfl (za1 za3) o0) (zz [(2,_)] [⟨1,30,ptrH,_⟩] fun a w O=>?_)
  refine za0<|wp_ret<|zah ?_
  refine zae ?_ (zag rfl O (zm 0 rfl))
  exact zbt (congrArg In (chk_no hb0))
 ·rw [Bool.or_eq_false_iff,Bool.or_eq_false_iff] at hb0
  obtain ⟨p,rfl,hp⟩:=zl1 hok.1 (ok1 hb0.1.1)
  obtain ⟨q,rfl,hq⟩:=zl1 hok.2 (ok1 hb0.1.2)
  have hq0:0<sgI (riOf q):=by have h2:¬ sgI (riOf q)≤0:=of_decide_eq_false hb0.2; omega
  have hqn:q≠0:=fun e=>by rw [e,zdt] at hq0; exact absurd hq0 zd
  have hgn:Int.gcd p q≠0:=by have:=Int.gcd_pos_of_ne_zero_right p hqn; omega
  refine wp_skip<|zt<|zg [none] [⟨3,28,ptrH,some 5,_,some (6,_)⟩] [.adr 20 1 (.some 0) True,.val 21 _,.adr 22 1 (.some 2) True,.val 23 _,.val 24 _,.alc 1,.sto 1] [.g 0] O (oc (ob_a rfl rfl (za7 (lz0 0 rfl) zbf)) (zv rfl (za4 0 rfl zk trivial (lz0 0 rfl) (Sub.part 0 rfl rfl) zaf) (oc (ob_a rfl rfl (za7 (lz0 0 rfl) zb9)) (zv rfl (za4 2 rfl zk trivial (lz0 0 rfl) (Sub.part 1 rfl rfl) zaf) (zv rfl (za5 (xs:=[.tmp 21,.tmp 23]) (zjl p q zo zo) (.cons (vq 1 rfl) (.cons (vq 3 rfl) .nil))) (oc (zaq rfl rfl rfl (Str.zero zbu)) (oc (zac rfl rfl rfl (vq 4 rfl) zaf (Eq.trans (b:=2) rfl rfl)) o0))))))) (zz [(2,_)] [⟨1,30,ptrH,_⟩,⟨3,28,ptrH,_⟩] fun a w O=>?_)
  refine zt<|wp_seq<|zgd [[],[],[0,1]] [none,none] [] [.val 25 _,.val 26 _,.val 27 _] [.g 0,.o 2] za6 O (zv rfl (za5 (xs:=[.const (.int .i64 (1))]) (zzt 1 zd zd) (.cons za3 .nil)) (zv rfl (zam (lz0 1 rfl) zaf) (zv rfl (za5 (xs:=[.tmp 25,.tmp 26]) (zzv _ _) (.cons (vq 0 rfl) (.cons (vq 1 rfl) .nil))) o0))) zk zk zk zk (zz [(2,_),(27,_)] [⟨1,30,ptrH,_⟩,⟨3,28,ptrH,_⟩] fun a w O=>?_)
  refine za0<|za9 O (zm 1 rfl) (fun hb1=>?_) (fun hb1=>?_)
  ·refine wp_seq<|zg [none,none] [] [.val 2 _] [.o 0] O (zv rfl (za1 za3) o0) (zz [(2,_)] [⟨1,30,ptrH,_⟩,⟨3,28,ptrH,_⟩] fun a w O=>?_)
   refine za0<|wp_ret<|zah ?_
   refine zae ?_ (zag rfl O (zm 0 rfl))
   have e1:=rchk1 hb1; exact zbt (congrArg In (by rw [show okF ⟨riOf p,riOf q⟩=false from by unfold okF; rw [zby,zby]; simp [show ¬ Nat.gcd p.natAbs q.natAbs=1 from e1]]; rfl))
  ·refine wp_skip<|zt<|zg [none,none] [] [.val 2 _] [.o 0] O (zv rfl (za1 za3) o0) (zz [(2,_)] [⟨1,30,ptrH,_⟩,⟨3,28,ptrH,_⟩] fun a w O=>?_)
   refine za0<|wp_ret<|zae ?_ (zag rfl O (zm 0 rfl))
   have e1:=rchk2 hb1 hgn; exact zbt (congrArg In (by rw [show okF ⟨riOf p,riOf q⟩=true from by unfold okF; rw [zby,zby,ok1 hb0.1.1,ok1 hb0.1.2]; simp [hq0,show Nat.gcd p.natAbs q.natAbs=1 from e1]]; rfl))
theorem zu0 : ∃ fn, Tryz.prog.funcs[195]? = some fn ∧ (fn.name == "runtime.NumGoroutine") = false ∧ fn.body.isNone = false := ⟨_, Tryz.func195, by kernel_rfl, by kernel_rfl⟩
theorem zvw (x:RF):Cn Tryz.prog 195 [(RFA x).va] (In (if okX x then 0 else 1)) :=
 Cn.know (c:=okL x.num.mag∧okL x.den.mag) zu0 (fun B w args ha=>by cases ha with | cons h1 _=>exact zll h1) fun h=>(zt9 x.num x.den).post (by rw [zrb h])
theorem zt8 (xs:List RF)(hl:xs.length≤1099511627776):Cn Tryz.prog 161 [(SlA 30 [U32] (xs.map RFA)).va] (Bo (xs.all okX)):=by
 refine Cn.introW Tryz.func161 rfl zk nq (.cons (zp3 (fun A hA=>by obtain ⟨x,_,rfl⟩:=List.mem_map.1 hA; exact zkr x)).va .nil) (zdz _).va (fun B w0 a hB0 O=>?_)
 have O:=zn [(0,(SlO 30 [U32] (xs.map RFA) True).va)] [] O
 refine wp_seq<|zh [.val 2 _] [.g 0,.o 0] O (zv rfl (za1 zau) o0) (zz [(0,_),(2,_)] [] fun a w O=>?_)
 refine zt<|wp_seq<|zh [.val 3 _] [.g 0,.g 1,.o 0] O (zv rfl (za1 za3) o0) (zz [(0,_),(2,_),(3,_)] [] fun a w O=>?_)
 refine za0<|wp_block ?_
 have O:=St.sel O [0,2]
 refine wp_loop_ghost (fun n a w=>∃ j:Nat,(n+j=xs.length∧(xs.take j).all okX=true)∧St B w0 16 [(0,(SlO 30 [U32] (xs.map RFA) True).va),(3,In (j:Nat))] [] a w) (xs.length) ?_ ?_
 ·exact ⟨0,⟨by omega,rfl⟩,O⟩
 intro n a w hI
 obtain ⟨j,⟨hn,hno⟩,O⟩:=hI
 refine wp_seq<|wp_seq<|zh [.val 4 _,.val 5 _,.val 6 _,.val 7 _] [.g 0,.g 1,.o 3] O (zv rfl (za2 (gq 1 rfl)) (zv rfl (za2 (gq 0 rfl)) (zv rfl (zbq Tryz.underlying117 (zd1 (zaz (vq 1 rfl)))) (zv rfl (zb6 (vq 0 rfl) (vq 2 rfl)) o0)))) (zz [(0,_),(3,_),(7,_)] [] fun a w O=>?_)
 refine za0<|za9 O (zm 2 rfl) (fun hb0=>?_) (fun hb0=>?_)
 ·have hj:j<xs.length:=by simp at hb0; omega
  refine wp_skip<|zt<|wp_block<|wp_seq<|zh [.val 10 _,.val 11 _,.val 12 _,.val 13 _,.val 14 _,.val 15 _] [.g 0,.g 1,.o 5] O (zv rfl (za2 (gq 0 rfl)) (zv rfl (za2 (gq 1 rfl)) (zv rfl (zdv zeo (zie fun _=>rfl) (zd1 (zaz (vq 0 rfl))) (vq 1 rfl) (zfb hj)) (zv rfl (zaj (vq 2 rfl) zad) (zv rfl (za5 (xs:=[.tmp 13]) (zvw _) (.cons (vq 3 rfl) .nil)) (zv rfl (zd9 (vq 4 rfl) za3) o0)))))) (zz [(0,_),(3,_),(15,_)] [] fun a w O=>?_)
  refine za0<|za9 O (zm 2 rfl) (fun hb1=>?_) (fun hb1=>?_)
  ·refine wp_seq<|zh [.val 2 _] [.g 0,.g 1,.o 0] O (zv rfl (za1 zau) o0) (zz [(0,_),(3,_),(2,_)] [] fun a w O=>?_)
   refine za0<|wp_ret<|zb7 ?_
   refine zah ?_
   refine zah ?_
   refine zb7 ?_
   refine zah ?_
   refine zas ?_ (zag rfl O (zm 2 rfl))
   rw [← ok_no hj hb1]
  ·refine wp_skip<|zal ?_
   refine za0<|zh [.val 8 _,.val 9 _,.val 3 _] [.g 0,.o 2] O (zv rfl (za2 (gq 1 rfl)) (zv rfl (zbb (vq 0 rfl) za3 (zbc zo)) (zv rfl (za1 (vq 1 rfl)) o0))) (zz [(0,_),(3,_)] [] fun a w O=>?_)
   refine za0 ?_
   have O:=St.sel O [0,1]
   exact ⟨n-1,by omega,j+1,⟨by omega,ok_yes hj hno hb1⟩,O⟩
 ·obtain rfl:j=xs.length:=by simp at hb0; omega
  refine wp_exit<|za8<|za8<|zat<|zt<|zh [.val 2 _] [.o 0] O (zv rfl (za1 zau) o0) (zz [(2,_)] [] fun a w O=>?_)
  refine za0<|wp_ret<|zas ?_ (zag rfl O (zm 0 rfl))
  rw [List.take_length] at hno; rw [hno]
end Go.Proofs.YtndjeibbjjpkfaaGreatDoor
namespace Go.Proofs.YtndjeibbjjpkfaaGreatDoor
open Go Go.RowKit
theorem zvt  : Cn Tryz.prog 92 [] ((QMA 2 ⟨1,0,0,1⟩).va):=by
 refine Cn.intro Tryz.func92 rfl zk nq (fun B w0 a O=>?_)
 have O:=zn [] [] O
 refine wp_seq<|zg [] [⟨0,32,ptrH,some 0,_,none⟩] [.alc 0] [] O (oc (zaq rfl rfl rfl (Str.zero zar)) o0) (zz [] [⟨0,32,ptrH,_⟩] fun a w O=>?_)
 refine zt<|zg [some (5,_)] [] [.val 1 _,.val 2 _,.val 3 _,.val 4 _,.val 5 _,.sto 0] [] O (zv rfl (za5 (xs:=[]) zhp .nil) (zv rfl (za5 (xs:=[]) zdk .nil) (zv rfl (za5 (xs:=[]) zdk .nil) (zv rfl (za5 (xs:=[]) zhp .nil) (zv rfl (zb8 (xs:=[(0,.tmp 1),(1,.tmp 2),(2,.tmp 3),(3,.tmp 4)]) (qs:=[(0,_),(1,_),(2,_),(3,_)]) zar (.cons ⟨rfl,(vq 0 rfl),rfl⟩ (.cons ⟨rfl,(vq 1 rfl),rfl⟩ (.cons ⟨rfl,(vq 2 rfl),rfl⟩ (.cons ⟨rfl,(vq 3 rfl),rfl⟩ .nil))))) (oc (zac rfl rfl rfl (vq 4 rfl) zb2 (Eq.trans (b:=16) rfl rfl)) o0)))))) (zz [] [⟨0,32,ptrH,_⟩] fun a w O=>?_)
 refine za0<|wp_ret<|zae ?_ (zak rfl O (zm 0 rfl) zb2)
 exact zbi
end Go.Proofs.YtndjeibbjjpkfaaGreatDoor
namespace Go.Proofs.YtndjeibbjjpkfaaGreatDoor
open Go Go.RowKit
theorem kd6 {k ps qs:Int}(h1:(k==1)=false)(h2:(k==2)=false)(h3:(k==3)=false)(h4:(k==4)=false)(h5:(k==5)=true):elK k ps qs=((ps==0)&&(qs==0)):=by rw [kd5 h1 h2 h3 h4,h5]; rfl
theorem kd7 {k ps qs:Int}(h1:(k==1)=false)(h2:(k==2)=false)(h3:(k==3)=false)(h4:(k==4)=false)(h5:(k==5)=false):elK k ps qs=false:=by rw [kd5 h1 h2 h3 h4,h5]; rfl
theorem zh1 {c:Nat}{x:Rat}:Cn Tryz.prog 163 [Qs c x] (Bo (x.num.sign==0)):=by
 refine Cn.intro Tryz.func163 rfl zk nq (fun B w0 a O=>?_)
 have O:=zn [(0,Qs c x)] [] O
 refine wp_seq<|zg [] [⟨1,30,ptrH,some 0,_,none⟩] [.alc 0,.val 2 _] [.o 1] O (oc (zan rfl rfl rfl (gq 0 rfl)) (zv rfl (za1 zau) o0)) (zz [(2,_)] [⟨1,30,ptrH,_⟩] fun a w O=>?_)
 refine zt<|zg [none] [] [.val 3 _,.val 4 _,.val 5 _,.val 2 _] [.o 3] O (zv rfl (zam (lz0 0 rfl) zad) (zv rfl (za5 (xs:=[.tmp 3]) ziq (.cons (vq 0 rfl) .nil)) (zv rfl (zc5 (vq 1 rfl) za3) (zv rfl (za1 (vq 2 rfl)) o0)))) (zz [(2,_)] [⟨1,30,ptrH,_⟩] fun a w O=>?_)
 refine za0<|wp_ret<|zae ?_ (zag rfl O (zm 0 rfl))
 exact zbi
theorem r10may_c (x:RE):Cn Tryz.prog 91 [(REA x).va] (Bo (elF x)):=by
 refine Cn.intro Tryz.func91 rfl zk nq (fun B w0 a O=>?_)
 have O:=zn [(0,(REA x).va)] [] O
 refine wp_seq<|zg [] [⟨1,64,ptrH,some 0,_,none⟩] [.alc 0,.val 2 _] [.o 1] O (oc (zan rfl rfl rfl (gq 0 rfl)) (zv rfl (za1 zau) o0)) (zz [(2,_)] [⟨1,64,ptrH,_⟩] fun a w O=>?_)
 refine zt<|wp_seq<|zg [none] [] [.adr 3 1 (.some 1) True,.val 4 _,.adr 5 1 (.some 5) True,.val 6 _,.val 7 _,.val 8 _,.val 9 _] [.g 0,.o 6] O (oc (ob_a rfl rfl (za7 (lz0 0 rfl) zcd)) (zv rfl (za4 0 rfl zk trivial (lz0 0 rfl) (Sub.part 1 rfl rfl) zad) (oc (ob_a rfl rfl (za7 (lz0 0 rfl) zcg)) (zv rfl (za4 2 rfl zk trivial (lz0 0 rfl) (Sub.part 2 rfl rfl) zad) (zv rfl (zcy (D:=[U32]) (l:=[_,_]) (xs:=[.tmp 4,.tmp 6]) (zff zk) zeo zk (n_ok zk) nq nq nq (.cons (vq 1 rfl) (.cons (vq 3 rfl) .nil)) rfl rfl) (zv rfl (za5 (xs:=[.tmp 7]) (zt8 [x.p,x.q] nq) (.cons (vq 4 rfl) .nil)) (zv rfl (zep (vq 5 rfl)) o0))))))) (zz [(2,_),(9,_)] [⟨1,64,ptrH,_⟩] fun a w O=>?_)
 refine za0<|za9 O (zm 1 rfl) (fun hb0=>?_) (fun hb0=>?_)
 ·refine wp_seq<|zg [none] [] [.val 2 _] [.o 0] O (zv rfl (za1 zau) o0) (zz [(2,_)] [⟨1,64,ptrH,_⟩] fun a w O=>?_)
  refine za0<|wp_ret<|zah ?_
  refine zae ?_ (zag rfl O (zm 0 rfl))
  rw [elF_no hb0]; exact zbi
 ·obtain ⟨hx,he⟩:=elF_ok hb0
  have O:=St.wkL O 0 rfl (el_q hx)
  refine wp_skip<|zt<|wp_seq<|zg [none] [] [.adr 10 1 (.some 0) True,.val 11 _] [.g 0,.o 1] O (oc (ob_a rfl rfl (za7 (lz0 0 rfl) zcw)) (zv rfl (za4 0 rfl zk trivial (lz0 0 rfl) (Sub.part 0 rfl rfl) zgu) o0)) (zz [(2,_),(11,_)] [⟨1,64,ptrH,_⟩] fun a w O=>?_)
  refine za0<|wp_block<|wp_seq<|zg [none] [] [.val 13 _,.val 12 _] [.g 0,.g 1,.o 1] O (zv rfl (zc5 (gq 1 rfl) za3) (zv rfl (za1 (vq 0 rfl)) o0)) (zz [(2,_),(11,_),(12,_)] [⟨1,64,ptrH,_⟩] fun a w O=>?_)
  refine za0<|za9 O (zm 2 rfl) (fun hb1=>?_) (fun hb1=>?_)
  ·refine wp_seq<|zg [none] [] [.adr 14 1 (.some 1) True,.val 15 _,.val 16 _,.val 17 _,.val 18 _,.adr 19 1 (.some 5) (_=true),.val 20 (Wh (_=true) _),.val 21 (Wh (_=true) _),.val 22 _,.val 2 _] [.o 9] O (oc (ob_a rfl rfl (za7 (lz0 0 rfl) zcd)) (zv rfl (za4 0 rfl zk trivial (lz0 0 rfl) (Sub.part 1 rfl rfl) zad) (zv rfl (za5 (xs:=[.tmp 15]) ziq (.cons (vq 1 rfl) .nil)) (zv rfl (zey (vq 2 rfl) za3) (zv rfl (za2 (vq 3 rfl)) (oc (zce rfl rfl rfl (vq 4 rfl) nq (fun hg=>za7 (lz0 0 rfl) zcg)) (oc (zai rfl rfl rfl (vq 4 rfl) nq (fun hg=>za4 5 rfl zk hg (lz0 0 rfl) (Sub.part 2 rfl rfl) zad)) (oc (zai rfl rfl rfl (vq 4 rfl) nq (fun hg=>za5 (xs:=[.tmp 20]) zh1 (.cons (zaa (vq 6 rfl) hg) .nil))) (zv rfl (zc9 (vq 4 rfl) (vq 7 rfl)) (zv rfl (za1 (vq 8 rfl)) o0)))))))))) (zz [(2,_)] [⟨1,64,ptrH,_⟩] fun a w O=>?_)
   refine za0<|wp_ret<|zb7 ?_
   refine zah ?_
   refine zae ?_ (zag rfl O (zm 0 rfl))
   rw [he,kd1 hb1]; exact zbi
  ·refine wp_seq<|zg [none] [] [.val 24 _,.val 23 _] [.g 0,.g 1,.o 1] O (zv rfl (zc5 (gq 1 rfl) za3) (zv rfl (za1 (vq 0 rfl)) o0)) (zz [(2,_),(11,_),(23,_)] [⟨1,64,ptrH,_⟩] fun a w O=>?_)
   refine za0<|za9 O (zm 2 rfl) (fun hb2=>?_) (fun hb2=>?_)
   ·refine wp_seq<|zg [none] [] [.adr 25 1 (.some 5) True,.val 26 _,.val 27 _,.val 2 _] [.o 3] O (oc (ob_a rfl rfl (za7 (lz0 0 rfl) zcg)) (zv rfl (za4 0 rfl zk trivial (lz0 0 rfl) (Sub.part 2 rfl rfl) zad) (zv rfl (za5 (xs:=[.tmp 26]) zh1 (.cons (vq 1 rfl) .nil)) (zv rfl (za1 (vq 2 rfl)) o0)))) (zz [(2,_)] [⟨1,64,ptrH,_⟩] fun a w O=>?_)
    refine za0<|wp_ret<|zb7 ?_
    refine zah ?_
    refine zae ?_ (zag rfl O (zm 0 rfl))
    rw [he,kd2 hb1 hb2]; exact zbi
   ·refine wp_seq<|zg [none] [] [.val 29 _,.val 28 _] [.g 0,.g 1,.o 1] O (zv rfl (zc5 (gq 1 rfl) za3) (zv rfl (za1 (vq 0 rfl)) o0)) (zz [(2,_),(11,_),(28,_)] [⟨1,64,ptrH,_⟩] fun a w O=>?_)
    refine za0<|za9 O (zm 2 rfl) (fun hb3=>?_) (fun hb3=>?_)
    ·refine wp_seq<|zg [none] [] [.adr 30 1 (.some 1) True,.val 31 _,.val 32 _,.val 33 _,.val 34 _,.adr 35 1 (.some 5) (_=true),.val 36 (Wh (_=true) _),.val 37 (Wh (_=true) _),.val 38 (Wh (_=true) _),.val 39 _,.val 2 _] [.o 10] O (oc (ob_a rfl rfl (za7 (lz0 0 rfl) zcd)) (zv rfl (za4 0 rfl zk trivial (lz0 0 rfl) (Sub.part 1 rfl rfl) zad) (zv rfl (za5 (xs:=[.tmp 31]) ziq (.cons (vq 1 rfl) .nil)) (zv rfl (zey (vq 2 rfl) za3) (zv rfl (za2 (vq 3 rfl)) (oc (zce rfl rfl rfl (vq 4 rfl) nq (fun hg=>za7 (lz0 0 rfl) zcg)) (oc (zai rfl rfl rfl (vq 4 rfl) nq (fun hg=>za4 5 rfl zk hg (lz0 0 rfl) (Sub.part 2 rfl rfl) zad)) (oc (zai rfl rfl rfl (vq 4 rfl) nq (fun hg=>za5 (xs:=[.tmp 36]) ziq (.cons (zaa (vq 6 rfl) hg) .nil))) (oc (zai rfl rfl rfl (vq 4 rfl) nq (fun hg=>zex (zaa (vq 7 rfl) hg) za3)) (zv rfl (zc9 (vq 4 rfl) (vq 8 rfl)) (zv rfl (za1 (vq 9 rfl)) o0))))))))))) (zz [(2,_)] [⟨1,64,ptrH,_⟩] fun a w O=>?_)
     refine za0<|wp_ret<|zb7 ?_
     refine zah ?_
     refine zae ?_ (zag rfl O (zm 0 rfl))
     rw [he,kd3 hb1 hb2 hb3]; exact zbi
    ·refine wp_seq<|zg [none] [] [.val 41 _,.val 40 _] [.g 0,.g 1,.o 1] O (zv rfl (zc5 (gq 1 rfl) za3) (zv rfl (za1 (vq 0 rfl)) o0)) (zz [(2,_),(11,_),(40,_)] [⟨1,64,ptrH,_⟩] fun a w O=>?_)
     refine za0<|za9 O (zm 2 rfl) (fun hb4=>?_) (fun hb4=>?_)
     ·refine wp_seq<|zg [none] [] [.val 2 _] [.o 0] O (zv rfl (za1 zau) o0) (zz [(2,_)] [⟨1,64,ptrH,_⟩] fun a w O=>?_)
      refine za0<|wp_ret<|zb7 ?_
      refine zah ?_
      refine zae ?_ (zag rfl O (zm 0 rfl))
      rw [he,kd4 hb1 hb2 hb3 hb4]; exact zbi
     ·refine wp_seq<|zg [none] [] [.val 43 _,.val 42 _] [.g 0,.o 1] O (zv rfl (zc5 (gq 1 rfl) za3) (zv rfl (za1 (vq 0 rfl)) o0)) (zz [(2,_),(42,_)] [⟨1,64,ptrH,_⟩] fun a w O=>?_)
      refine za0<|za9 O (zm 1 rfl) (fun hb5=>?_) (fun hb5=>?_)
      ·refine wp_seq<|zg [none] [] [.adr 44 1 (.some 1) True,.val 45 _,.val 46 _,.val 47 _,.adr 48 1 (.some 5) (_=true),.val 49 (Wh (_=true) _),.val 50 (Wh (_=true) _),.val 51 _,.val 2 _] [.o 8] O (oc (ob_a rfl rfl (za7 (lz0 0 rfl) zcd)) (zv rfl (za4 0 rfl zk trivial (lz0 0 rfl) (Sub.part 1 rfl rfl) zad) (zv rfl (za5 (xs:=[.tmp 45]) zh1 (.cons (vq 1 rfl) .nil)) (zv rfl (za2 (vq 2 rfl)) (oc (zce rfl rfl rfl (vq 3 rfl) nq (fun hg=>za7 (lz0 0 rfl) zcg)) (oc (zai rfl rfl rfl (vq 3 rfl) nq (fun hg=>za4 4 rfl zk hg (lz0 0 rfl) (Sub.part 2 rfl rfl) zad)) (oc (zai rfl rfl rfl (vq 3 rfl) nq (fun hg=>za5 (xs:=[.tmp 49]) zh1 (.cons (zaa (vq 5 rfl) hg) .nil))) (zv rfl (zc9 (vq 3 rfl) (vq 6 rfl)) (zv rfl (za1 (vq 7 rfl)) o0))))))))) (zz [(2,_)] [⟨1,64,ptrH,_⟩] fun a w O=>?_)
       refine za0<|wp_ret<|zb7 ?_
       refine zah ?_
       refine zae ?_ (zag rfl O (zm 0 rfl))
       rw [he,kd6 hb1 hb2 hb3 hb4 hb5]; exact zbi
      ·refine wp_skip<|zal ?_
       refine zt<|zg [none] [] [.val 2 _] [.o 0] O (zv rfl (za1 zau) o0) (zz [(2,_)] [⟨1,64,ptrH,_⟩] fun a w O=>?_)
       refine za0<|wp_ret<|zae ?_ (zag rfl O (zm 0 rfl))
       rw [he,kd7 hb1 hb2 hb3 hb4 hb5]; exact zbi
theorem ztc (xs:List RE):Cn Tryz.prog 21 [(SlA 64 [U32] (xs.map REA)).va] (In (chF xs)):=by
 refine Cn.intro Tryz.func21 rfl zk nq (fun B w0 a O=>?_)
 have O:=zn [(0,(SlA 64 [U32] (xs.map REA)).va)] [] O
 refine wp_seq<|zh [.val 2 _] [.g 0,.o 0] O (zv rfl (za1 za3) o0) (zz [(0,_),(2,_)] [] fun a w O=>?_)
 refine zt<|wp_seq<|zh [.val 4 _,.val 5 _,.val 6 _] [.g 0,.g 1,.o 2] O (zv rfl (za2 (gq 0 rfl)) (zv rfl (zbq Tryz.underlying22 (vq 0 rfl)) (zv rfl (zex (vq 1 rfl) za3) o0))) (zz [(0,_),(2,_),(6,_)] [] fun a w O=>?_)
 refine za0<|za9 O (zm 2 rfl) (fun hb0=>?_) (fun hb0=>?_)
 ·have hbig:xs.length>4096:=by rw [List.length_map] at hb0; have:=of_decide_eq_true hb0; omega
  refine wp_seq<|zh [.val 2 _] [.g 0,.o 0] O (zv rfl (za1 za3) o0) (zz [(0,_),(2,_)] [] fun a w O=>?_)
  refine za0<|wp_ret<|zah ?_
  refine zae ?_ (zag rfl O (zm 1 rfl))
  rw [chF,if_pos hbig]; exact zbi
 ·have hbig:¬ xs.length>4096:=by rw [List.length_map] at hb0; have:=of_decide_eq_false hb0; omega
  refine wp_skip<|zt<|wp_seq<|zh [.val 3 _] [.g 0,.g 1,.o 0] O (zv rfl (za1 za3) o0) (zz [(0,_),(2,_),(3,_)] [] fun a w O=>?_)
  refine za0<|wp_block ?_
  have O:=St.sel O [0,2]
  refine wp_loop_ghost (fun n a w=>∃ j:Nat,(n+j=xs.length∧(xs.take j).all elF=true)∧St B w0 19 [(0,(SlA 64 [U32] (xs.map REA)).va),(3,In (j:Nat))] [] a w) (xs.length) ?_ ?_
  ·exact ⟨0,⟨by omega,rfl⟩,O⟩
  intro n a w hI
  obtain ⟨j,⟨hn,hno⟩,O⟩:=hI
  refine wp_seq<|wp_seq<|zh [.val 7 _,.val 8 _,.val 9 _,.val 10 _] [.g 0,.g 1,.o 3] O (zv rfl (za2 (gq 1 rfl)) (zv rfl (za2 (gq 0 rfl)) (zv rfl (zbq Tryz.underlying22 (vq 1 rfl)) (zv rfl (zb6 (vq 0 rfl) (vq 2 rfl)) o0)))) (zz [(0,_),(3,_),(10,_)] [] fun a w O=>?_)
  refine za0<|za9 O (zm 2 rfl) (fun hb1=>?_) (fun hb1=>?_)
  ·have hj:j<xs.length:=by rw [List.length_map] at hb1; have:=of_decide_eq_true hb1; omega
   refine wp_skip<|zt<|wp_block<|wp_seq<|zh [.val 13 _,.val 14 _,.val 15 _,.val 16 _,.val 17 _,.val 18 _] [.g 0,.g 1,.o 5] O (zv rfl (za2 (gq 0 rfl)) (zv rfl (za2 (gq 1 rfl)) (zv rfl (zdv zgw (zie fun _=>rfl) (vq 0 rfl) (vq 1 rfl) (zfb hj)) (zv rfl (zaj (vq 2 rfl) zed) (zv rfl (za5 (xs:=[.tmp 16]) (r10may_c _) (.cons (vq 3 rfl) .nil)) (zv rfl (zep (vq 4 rfl)) o0)))))) (zz [(0,_),(3,_),(18,_)] [] fun a w O=>?_)
   refine za0<|za9 O (zm 2 rfl) (fun hb2=>?_) (fun hb2=>?_)
   ·refine wp_seq<|zh [.val 2 _] [.g 0,.g 1,.o 0] O (zv rfl (za1 za3) o0) (zz [(0,_),(3,_),(2,_)] [] fun a w O=>?_)
    refine za0<|wp_ret<|zb7 ?_
    refine zah ?_
    refine zah ?_
    refine zb7 ?_
    refine zah ?_
    refine zae ?_ (zag rfl O (zm 2 rfl))
    rw [chF,if_neg hbig,all_so hj (by simpa using hb2)]; exact zbi
   ·refine wp_skip<|zal ?_
    refine za0<|zh [.val 11 _,.val 12 _,.val 3 _] [.g 0,.o 2] O (zv rfl (za2 (gq 1 rfl)) (zv rfl (zbb (vq 0 rfl) za3 ((wi64 zo zo).trans (by omega:(_:Int)=((j+1:Nat):Int)))) (zv rfl (za1 (vq 1 rfl)) o0))) (zz [(0,_),(3,_)] [] fun a w O=>?_)
    refine za0 ?_
    have O:=St.sel O [0,1]
    exact ⟨n-1,by omega,j+1,⟨by omega,all_nx hj hno (by simpa using hb2)⟩,O⟩
  ·obtain rfl:j=xs.length:=by rw [List.length_map] at hb1; have:=of_decide_eq_false hb1; omega
   refine wp_exit<|za8<|za8<|zat<|zt<|zh [.val 2 _] [.o 0] O (zv rfl (za1 za3) o0) (zz [(2,_)] [] fun a w O=>?_)
   refine za0<|wp_ret<|zae ?_ (zag rfl O (zm 0 rfl))
   rw [List.take_length] at hno; rw [chF,if_neg hbig,hno]; exact zbi
end Go.Proofs.YtndjeibbjjpkfaaGreatDoor
