import Derived.Test.YtmfgafhlaeolgaaGreatDoorBtAa
import Derived.Test.YtmfgafhlaeolgaaGreatDoorBtAc
import Derived.Test.YtmfgafhlaeolgaaGreatDoorBtAk
import Derived.Test.YtmfgafhlaeolgaaGreatDoorBtAx
import Derived.Test.YtmfgafhlaeolgaaGreatDoorBtAy
set_option linter.unusedVariables false
set_option linter.unusedSimpArgs false
set_option linter.unusedSectionVars false
set_option maxRecDepth 100000
namespace Go.Proofs.YtmfgafhlaeolgaaGreatDoor
open Go Go.RowKit
theorem zwi : ∃ fn, Tryz.prog.funcs[98]? = some fn ∧ (fn.name == "runtime.NumGoroutine") = false ∧ fn.body.isNone = false := ⟨_, Tryz.func98, by kernel_rfl, by kernel_rfl⟩
theorem ex_rPlus : ∃ fn, Tryz.prog.funcs[97]? = some fn ∧ (fn.name == "runtime.NumGoroutine") = false ∧ fn.body.isNone = false := ⟨_, Tryz.func97, by kernel_rfl, by kernel_rfl⟩
theorem zs7 : ∃ fn, Tryz.prog.funcs[159]? = some fn ∧ (fn.name == "runtime.NumGoroutine") = false ∧ fn.body.isNone = false := ⟨_, Tryz.func159, by kernel_rfl, by kernel_rfl⟩
theorem ex_rSign : ∃ fn, Tryz.prog.funcs[160]? = some fn ∧ (fn.name == "runtime.NumGoroutine") = false ∧ fn.body.isNone = false := ⟨_, Tryz.func160, by kernel_rfl, by kernel_rfl⟩
theorem zog : ∃ fn, Tryz.prog.funcs[161]? = some fn ∧ (fn.name == "runtime.NumGoroutine") = false ∧ fn.body.isNone = false := ⟨_, Tryz.func161, by kernel_rfl, by kernel_rfl⟩
theorem znj (p:Int)(hp:lz p≤1000000000):Cn Tryz.prog 161 [Zi p] (Zi (-p)):=by
 refine Cn.intro Tryz.func161 rfl zk nq (fun B w0 a O=>?_)
 have O:=zn [(0,Zi p)] [] O
 refine wp_seq<|zg [] [⟨1,31,ptrH,some 0,_,none⟩,⟨2,31,ptrH,some 1,_,none⟩] [.alc 0,.alc 1] [] O (oc (zav rfl rfl rfl (gq 0 rfl)) (oc (zb0 rfl rfl rfl (Str.zero zbr)) o0)) (zz [] [⟨1,31,ptrH,_⟩,⟨2,31,ptrH,_⟩] fun a w O=>?_)
 refine zt<|zgd [[],[],[0,1],[0,1,2]] [none,some (3,_)] [] [.v 3 _,.v 4 _,.v 5 _,.sto 1] [] za9 O (zv rfl (za5 (xs:=[.const (.int .i64 (0))]) (zye 0 zd zd) (.cons za3 .nil)) (zv rfl (zay (lz0 0 rfl) zah) (zv rfl (za5 (xs:=[.tmp 3,.tmp 4]) (ztu 0 p (by simp [lz,zbt]) hp) (.cons (vq 0 rfl) (.cons (vq 1 rfl) .nil))) (oc (zan rfl rfl rfl (vq 2 rfl) zah (Eq.trans (b:=2) rfl rfl)) o0)))) zk zk zk zk (zz [] [⟨1,31,ptrH,_⟩,⟨2,31,ptrH,_⟩] fun a w O=>?_)
 refine za0<|wp_ret<|zal ?_ (zaw rfl O (zm 1 rfl) zah)
 exact zbw (congrArg Zi (Int.zero_sub p))
section
variable {a b:Nat} {p q:Int} (ha:a≤1000000000)
include ha
theorem zjt:Cn Tryz.prog 161 [Zs a p] (Zs a (-p)):=zs1 zog fun h=>(znj p zo).wkp (zj8 (by rw [zpl]; exact h))
variable (hb:b≤1000000000)
include hb
theorem zke:Cn Tryz.prog 98 [Zs a p,Zs b q] (Zs (a+b) (p*q)):=zs2 zwi fun h h'=>(ztm p q zo zo).wkp (zj8 (by have:=zv5 p q; omega))
theorem rplus_z:Cn Tryz.prog 97 [Zs a p,Zs b q] (Zs (max a b+1) (p+q)):=zs2 ex_rPlus fun h h'=>(zp7 p q zo zo).wkp (zj8 (by have:=lz_add p q; omega))
theorem zm4 (hq:q≠0):Cn Tryz.prog 159 [Zs a p,Zs b q] (Tu [Zs a (p.tdiv q),Zs b (p.tmod q)]):=zs2 zs7 fun h h'=>(zjq p q hq zo zo).wkp (tu_wk (.cons (zj8 (by have:=zv4 p q; omega)) (.cons (zj8 (by have:=lz_tm (p:=p) hq; omega)) .nil)))
end
theorem ztr {a:Nat}{p:Int}:Cn Tryz.prog 160 [Zs a p] (In p.sign):=zs1 ex_rSign fun _=>(zia (riOf p)).post (by rw [zdo])
theorem rof_z {n:Int}(h0 : -9223372036854775808≤n)(h1:n<9223372036854775808):Cn Tryz.prog 96 [In n] (Zs 2 n):=(zye n h0 h1).wkp (zj8 (zri zo))
theorem zz7 {p q:Int}(h:q≠0)(hq:lz q≤1000000000):lz (p.tmod q)≤1000000000:=Nat.le_trans (lz_tm h) hq
theorem zzk {X Y:Int}(h:Y≠0):Int.gcd Y (X.tmod Y)=Int.gcd X Y:=by
 show Nat.gcd Y.natAbs (X.tmod Y).natAbs=Nat.gcd X.natAbs Y.natAbs
 rw [zge,Nat.gcd_comm X.natAbs,Nat.gcd_comm,← Nat.gcd_rec]
theorem zic (p q:Int)(hp:lz p≤1000000000)(hq:lz q≤1000000000):Cn Tryz.prog 158 [Zi p,Zi q] (Zi ((Int.gcd p q:Nat):Int)):=by
 refine Cn.intro Tryz.func158 rfl zk nq (fun B w0 a O=>?_)
 have O:=zn [(0,Zi p),(1,Zi q)] [] O
 refine wp_seq<|zg [] [⟨2,31,ptrH,some 0,_,none⟩,⟨3,31,ptrH,some 1,_,none⟩,⟨4,31,ptrH,some 2,_,none⟩] [.alc 0,.alc 1,.alc 2] [] O (oc (zav rfl rfl rfl (gq 0 rfl)) (oc (zav rfl rfl rfl (gq 1 rfl)) (oc (zb0 rfl rfl rfl (Str.zero zbr)) o0))) (zz [] [⟨2,31,ptrH,_⟩,⟨3,31,ptrH,_⟩,⟨4,31,ptrH,_⟩] fun a w O=>?_)
 refine zt<|wp_seq<|zgd [[],[0],[],[0,1,2],[0,1,2,3]] [none,none,none] [] [.v 7 _,.v 8 _,.v 9 _,.v 10 _,.v 11 _] [.o 4] za9 O (zv rfl (zay (lz0 0 rfl) zah) (zv rfl (za5 (xs:=[.tmp 7]) (znh p hp) (.cons (vq 0 rfl) .nil)) (zv rfl (zay (lz0 1 rfl) zah) (zv rfl (za5 (xs:=[.tmp 9]) (znh q hq) (.cons (vq 2 rfl) .nil)) (zv rfl (zaz (vq 1 rfl) (vq 3 rfl)) o0))))) zk zk zk zk (zz [(11,_)] [⟨2,31,ptrH,_⟩,⟨3,31,ptrH,_⟩,⟨4,31,ptrH,_⟩] fun a w O=>?_)
 refine za0<|zc8 (fun a w=>∃ X Y:Int,(lz X≤1000000000∧lz Y≤1000000000∧Int.gcd X Y=Int.gcd p q)∧St B w0 33 [] [⟨2,31,ptrH,RIA (riOf X)⟩,⟨3,31,ptrH,RIA (riOf Y)⟩,⟨4,31,ptrH,cat [BoA false,MgA []]⟩] a w) O (zm 0 rfl) (fun hb0=>?_) (fun hb0=>?_) (fun a w O=>?_)
 ·refine zg [some (2,_),some (3,_),none] [] [.v 12 _,.v 13 _,.sto 0,.sto 1] [] O (zv rfl (zay (lz0 1 rfl) zah) (zv rfl (zay (lz0 0 rfl) zah) (oc (zan rfl rfl rfl (vq 0 rfl) zah (Eq.trans (b:=2) rfl rfl)) (oc (zan rfl rfl rfl (vq 1 rfl) zah (Eq.trans (b:=2) rfl rfl)) o0)))) (zz [] [⟨2,31,ptrH,_⟩,⟨3,31,ptrH,_⟩,⟨4,31,ptrH,_⟩] fun a w O=>?_)
  refine za0 ?_
  have O:=St.sel O []
  exact ⟨q,p,⟨hq,hp,Int.gcd_comm q p⟩,O⟩
 ·refine wp_skip<|za0 ?_
  have O:=St.sel O []
  exact ⟨p,q,⟨hp,hq,rfl⟩,O⟩
 obtain ⟨X,Y,⟨hX,hY,hg⟩,O⟩:=O
 refine zt<|wp_seq<|zg [none,none,none] [] [.v 14 _,.v 15 _,.v 16 _] [.o 2] O (zv rfl (zay (lz0 1 rfl) zah) (zv rfl (za5 (xs:=[.tmp 14]) ((zia (riOf Y)).post (by rw [zdo])) (.cons (vq 0 rfl) .nil)) (zv rfl (zc3 (vq 1 rfl) za3) o0))) (zz [(16,_)] [⟨2,31,ptrH,_⟩,⟨3,31,ptrH,_⟩,⟨4,31,ptrH,_⟩] fun a w O=>?_)
 refine za0<|za8 O (zm 0 rfl) (fun hb1=>?_) (fun hb1=>?_)
 ·refine wp_seq<|zg [none,none,some (3,_)] [] [.v 17 _,.v 18 _,.v 19 _,.sto 2] [] O (zv rfl (zay (lz0 0 rfl) zah) (zv rfl (zay (lz0 1 rfl) zah) (zv rfl (za5 (xs:=[.tmp 17,.tmp 18]) (zjr X Y hX hY) (.cons (vq 0 rfl) (.cons (vq 1 rfl) .nil))) (oc (zan rfl rfl rfl (vq 2 rfl) zah (Eq.trans (b:=2) rfl rfl)) o0)))) (zz [] [⟨2,31,ptrH,_⟩,⟨3,31,ptrH,_⟩,⟨4,31,ptrH,_⟩] fun a w O=>?_)
  refine za0<|wp_ret<|zaf ?_
  refine zal ?_ (zaw rfl O (zm 2 rfl) zah)
  exact zbw (congrArg (fun n:Nat=>Zi (n:Int)) hg)
 ·have hY0:Y≠0:=fun e=>by rw [e] at hb1; exact absurd hb1 zd
  refine wp_skip<|zt<|zg [none,none,none] [⟨5,31,ptrH,some 6,_,some (8,_)⟩,⟨6,31,ptrH,some 7,_,some (9,_)⟩] [.v 21 _,.v 22 _,.v 23 _,.v 20 _,.v 24 _,.v 25 _,.alc 3,.alc 4,.sto 3,.sto 4] [] O (zv rfl (zay (lz0 0 rfl) zah) (zv rfl (zay (lz0 1 rfl) zah) (zv rfl (za5 (xs:=[.tmp 21,.tmp 22]) (zjq X Y hY0 hX hY) (.cons (vq 0 rfl) (.cons (vq 1 rfl) .nil))) (zv rfl (za1 (vq 2 rfl)) (zv rfl (zb1 (vq 3 rfl) rfl) (zv rfl (zb1 (vq 3 rfl) rfl) (oc (zb0 rfl rfl rfl (Str.zero zbr)) (oc (zb0 rfl rfl rfl (Str.zero zbr)) (oc (zan rfl rfl rfl (vq 4 rfl) zah (Eq.trans (b:=2) rfl rfl)) (oc (zan rfl rfl rfl (vq 5 rfl) zah (Eq.trans (b:=2) rfl rfl)) o0)))))))))) (zz [] [⟨2,31,ptrH,_⟩,⟨3,31,ptrH,_⟩,⟨4,31,ptrH,_⟩,⟨5,31,ptrH,_⟩,⟨6,31,ptrH,_⟩] fun a w O=>?_)
  refine zt<|wp_seq<|zg [none,none,none,none,none] [] [.v 26 _,.v 27 _,.v 28 _] [.o 2] O (zv rfl (zay (lz0 1 rfl) zah) (zv rfl (za5 (xs:=[.tmp 26]) (znh Y hY) (.cons (vq 0 rfl) .nil)) (zv rfl (zc3 (vq 1 rfl) za3) o0))) (zz [(28,_)] [⟨2,31,ptrH,_⟩,⟨3,31,ptrH,_⟩,⟨4,31,ptrH,_⟩,⟨5,31,ptrH,_⟩,⟨6,31,ptrH,_⟩] fun a w O=>?_)
  refine za0<|za8 O (zm 0 rfl) (fun hb2=>?_) (fun hb2=>?_)
  ·have h1:Y.natAbs=1:=bitF_one (by have:=beq_iff_eq.1 hb2; omega)
   refine wp_seq<|zg [none,none,some (1,_),none,none] [] [.v 29 _,.sto 2] [] O (zv rfl (za5 (xs:=[.const (.int .i64 (1))]) (zye 1 zd zd) (.cons za3 .nil)) (oc (zan rfl rfl rfl (vq 0 rfl) zah (Eq.trans (b:=2) rfl rfl)) o0)) (zz [] [⟨2,31,ptrH,_⟩,⟨3,31,ptrH,_⟩,⟨4,31,ptrH,_⟩,⟨5,31,ptrH,_⟩,⟨6,31,ptrH,_⟩] fun a w O=>?_)
   refine za0<|wp_ret<|zaf ?_
   refine zal ?_ (zaw rfl O (zm 2 rfl) zah)
   exact zbw (congrArg (fun n:Nat=>Zi (n:Int)) (show 1=Int.gcd p q by rw [← hg]; show 1=Nat.gcd X.natAbs Y.natAbs; rw [h1,Nat.gcd_one_right]))
  ·refine wp_skip<|zt<|zg [none,none,some (3,_),none,none] [] [.v 30 _,.v 31 _,.v 32 _,.sto 2] [] O (zv rfl (zay (lz0 1 rfl) zah) (zv rfl (zay (lz0 4 rfl) zah) (zv rfl (za5 (xs:=[.tmp 30,.tmp 31]) (zjr Y (X.tmod Y) hY (zz7 hY0 hY)) (.cons (vq 0 rfl) (.cons (vq 1 rfl) .nil))) (oc (zan rfl rfl rfl (vq 2 rfl) zah (Eq.trans (b:=2) rfl rfl)) o0)))) (zz [] [⟨2,31,ptrH,_⟩,⟨3,31,ptrH,_⟩,⟨4,31,ptrH,_⟩,⟨5,31,ptrH,_⟩,⟨6,31,ptrH,_⟩] fun a w O=>?_)
   refine za0<|wp_ret<|zal ?_ (zaw rfl O (zm 2 rfl) zah)
   exact zbw (congrArg (fun n:Nat=>Zi (n:Int)) ((zzk hY0).trans hg))
theorem zoh : ∃ fn, Tryz.prog.funcs[158]? = some fn ∧ (fn.name == "runtime.NumGoroutine") = false ∧ fn.body.isNone = false := ⟨_, Tryz.func158, by kernel_rfl, by kernel_rfl⟩
theorem zrf {a b:Nat}{p q:Int}(ha:a≤1000000000)(hb:b≤1000000000):Cn Tryz.prog 158 [Zs a p,Zs b q] (Zs (max a b) ((Int.gcd p q:Nat):Int)):=zs2 zoh fun h h'=>(zic p q zo zo).wkp (zj8 (by have:=zv6 p q; omega))
theorem zre {c d:Nat}{p q:Int}(hc:c≤1000000000)(hd:d≤1000000000)(hq:q≠0):Cn Tryz.prog 99 [Zs c p,Zs d q] (Qs (max c d) (Rat.divInt p q)):=by
 have hg0:0<Int.gcd p q:=Int.gcd_pos_of_ne_zero_right p hq
 obtain ⟨hn1,hn2⟩:=zvc (p:=p) hq
 refine Cn.intro Tryz.func99 rfl zk nq (fun B w0 a O=>?_)
 have O:=zn [(0,Zs c p),(1,Zs d q)] [] O
 refine wp_seq<|zg [] [⟨2,31,ptrH,some 0,_,none⟩,⟨3,31,ptrH,some 1,_,none⟩,⟨4,33,ptrH,some 2,_,none⟩] [.alc 0,.alc 1,.alc 2] [] O (oc (zav rfl rfl rfl (gq 0 rfl)) (oc (zav rfl rfl rfl (gq 1 rfl)) (oc (zb0 rfl rfl rfl (Str.zero zbz)) o0))) (zz [] [⟨2,31,ptrH,_⟩,⟨3,31,ptrH,_⟩,⟨4,33,ptrH,_⟩] fun a w O=>?_)
 refine zt<|zg [none,none,none] [⟨5,31,ptrH,some 3,_,some (4,_)⟩] [.v 10 _,.v 11 _,.v 12 _,.alc 3,.sto 3] [] O (zv rfl (zay (lz0 0 rfl) zah) (zv rfl (zay (lz0 1 rfl) zah) (zv rfl (za5 (xs:=[.tmp 10,.tmp 11]) (zrf zo zo) (.cons (vq 0 rfl) (.cons (vq 1 rfl) .nil))) (oc (zb0 rfl rfl rfl (Str.zero zbr)) (oc (zan rfl rfl rfl (vq 2 rfl) zah (Eq.trans (b:=2) rfl rfl)) o0))))) (zz [] [⟨2,31,ptrH,_⟩,⟨3,31,ptrH,_⟩,⟨4,33,ptrH,_⟩,⟨5,31,ptrH,_⟩] fun a w O=>?_)
 refine zt<|zg [none,none,none,none] [⟨6,31,ptrH,some 6,_,some (8,_)⟩,⟨7,31,ptrH,some 7,_,some (9,_)⟩] [.v 14 _,.v 15 _,.v 16 _,.v 13 _,.v 17 _,.v 18 _,.alc 4,.alc 5,.sto 4,.sto 5] [] O (zv rfl (zay (lz0 0 rfl) zah) (zv rfl (zay (lz0 3 rfl) zah) (zv rfl (za5 (xs:=[.tmp 14,.tmp 15]) (zm4 zo zo zo) (.cons (vq 0 rfl) (.cons (vq 1 rfl) .nil))) (zv rfl (za1 (vq 2 rfl)) (zv rfl (zb1 (vq 3 rfl) rfl) (zv rfl (zb1 (vq 3 rfl) rfl) (oc (zb0 rfl rfl rfl (Str.zero zbr)) (oc (zb0 rfl rfl rfl (Str.zero zbr)) (oc (zan rfl rfl rfl (vq 4 rfl) zah (Eq.trans (b:=2) rfl rfl)) (oc (zan rfl rfl rfl (vq 5 rfl) zah (Eq.trans (b:=2) rfl rfl)) o0)))))))))) (zz [] [⟨2,31,ptrH,_⟩,⟨3,31,ptrH,_⟩,⟨4,33,ptrH,_⟩,⟨5,31,ptrH,_⟩,⟨6,31,ptrH,_⟩,⟨7,31,ptrH,_⟩] fun a w O=>?_)
 refine zt<|zg [none,none,none,none,none,none] [⟨8,31,ptrH,some 6,_,some (8,_)⟩,⟨9,31,ptrH,some 7,_,some (9,_)⟩] [.v 20 _,.v 21 _,.v 22 _,.v 19 _,.v 23 _,.v 24 _,.alc 6,.alc 7,.sto 6,.sto 7] [] O (zv rfl (zay (lz0 1 rfl) zah) (zv rfl (zay (lz0 3 rfl) zah) (zv rfl (za5 (xs:=[.tmp 20,.tmp 21]) (zm4 zo zo zo) (.cons (vq 0 rfl) (.cons (vq 1 rfl) .nil))) (zv rfl (za1 (vq 2 rfl)) (zv rfl (zb1 (vq 3 rfl) rfl) (zv rfl (zb1 (vq 3 rfl) rfl) (oc (zb0 rfl rfl rfl (Str.zero zbr)) (oc (zb0 rfl rfl rfl (Str.zero zbr)) (oc (zan rfl rfl rfl (vq 4 rfl) zah (Eq.trans (b:=2) rfl rfl)) (oc (zan rfl rfl rfl (vq 5 rfl) zah (Eq.trans (b:=2) rfl rfl)) o0)))))))))) (zz [] [⟨2,31,ptrH,_⟩,⟨3,31,ptrH,_⟩,⟨4,33,ptrH,_⟩,⟨5,31,ptrH,_⟩,⟨6,31,ptrH,_⟩,⟨7,31,ptrH,_⟩,⟨8,31,ptrH,_⟩,⟨9,31,ptrH,_⟩] fun a w O=>?_)
 refine zt<|wp_seq<|zg [none,none,none,none,none,none,none,none] [] [.v 25 _,.v 26 _,.v 27 _] [.o 2] O (zv rfl (zay (lz0 6 rfl) zah) (zv rfl (za5 (xs:=[.tmp 25]) ztr (.cons (vq 0 rfl) .nil)) (zv rfl (zaz (vq 1 rfl) za3) o0))) (zz [(27,_)] [⟨2,31,ptrH,_⟩,⟨3,31,ptrH,_⟩,⟨4,33,ptrH,_⟩,⟨5,31,ptrH,_⟩,⟨6,31,ptrH,_⟩,⟨7,31,ptrH,_⟩,⟨8,31,ptrH,_⟩,⟨9,31,ptrH,_⟩] fun a w O=>?_)
 refine za0<|za8 O (zm 0 rfl) (fun hb0=>?_) (fun hb0=>?_)
 ·refine wp_seq<|zgd [[],[0],[],[0,1,2],[0,1,2,3],[0,1,2,3,4]] [none,none,some (5,_),none,none,none,none,none] [] [.v 28 _,.v 29 _,.v 30 _,.v 31 _,.v 32 _,.sto 2] [] za9 O (zv rfl (zay (lz0 4 rfl) zah) (zv rfl (za5 (xs:=[.tmp 28]) (zjt zo) (.cons (vq 0 rfl) .nil)) (zv rfl (zay (lz0 6 rfl) zah) (zv rfl (za5 (xs:=[.tmp 30]) (zjt zo) (.cons (vq 2 rfl) .nil)) (zv rfl (zbn (xs:=[(0,.tmp 29),(1,.tmp 31)]) (qs:=[(0,_),(1,_)]) zbz (.cons ⟨rfl,(vq 1 rfl),rfl⟩ (.cons ⟨rfl,(vq 3 rfl),rfl⟩ .nil))) (oc (zan rfl rfl rfl (vq 4 rfl) zb5 (Eq.trans (b:=4) rfl rfl)) o0)))))) zk zk zk zk (zz [] [⟨2,31,ptrH,_⟩,⟨3,31,ptrH,_⟩,⟨4,33,ptrH,_⟩,⟨5,31,ptrH,_⟩,⟨6,31,ptrH,_⟩,⟨7,31,ptrH,_⟩,⟨8,31,ptrH,_⟩,⟨9,31,ptrH,_⟩] fun a w O=>?_)
  refine za0<|wp_ret<|zaf ?_
  refine zal ?_ (zaw rfl O (zm 2 rfl) zb5)
  rw [if_pos (ztf hb0)] at hn1 hn2; rw [hn1,hn2]; exact (zch (.cons (zgs (Nat.le_max_left _ _)) (.cons (zgs (Nat.le_max_right _ _)) .nil))).va
 ·refine wp_skip<|zt<|zg [none,none,some (3,_),none,none,none,none,none] [] [.v 33 _,.v 34 _,.v 35 _,.sto 2] [] O (zv rfl (zay (lz0 4 rfl) zah) (zv rfl (zay (lz0 6 rfl) zah) (zv rfl (zbn (xs:=[(0,.tmp 33),(1,.tmp 34)]) (qs:=[(0,_),(1,_)]) zbz (.cons ⟨rfl,(vq 0 rfl),rfl⟩ (.cons ⟨rfl,(vq 1 rfl),rfl⟩ .nil))) (oc (zan rfl rfl rfl (vq 2 rfl) zb5 (Eq.trans (b:=4) rfl rfl)) o0)))) (zz [] [⟨2,31,ptrH,_⟩,⟨3,31,ptrH,_⟩,⟨4,33,ptrH,_⟩,⟨5,31,ptrH,_⟩,⟨6,31,ptrH,_⟩,⟨7,31,ptrH,_⟩,⟨8,31,ptrH,_⟩,⟨9,31,ptrH,_⟩] fun a w O=>?_)
  refine za0<|wp_ret<|zal ?_ (zaw rfl O (zm 2 rfl) zb5)
  rw [if_neg (sgn_no hb0)] at hn1 hn2; rw [hn1,hn2]; exact (zch (.cons (zgs (Nat.le_max_left _ _)) (.cons (zgs (Nat.le_max_right _ _)) .nil))).va
theorem zju  : Cn Tryz.prog 27 [] (Qs 2 0):=by
 refine Cn.intro Tryz.func27 rfl zk nq (fun B w0 a O=>?_)
 have O:=zn [] [] O
 refine wp_seq<|zg [] [⟨0,33,ptrH,some 0,_,none⟩] [.alc 0] [] O (oc (zb0 rfl rfl rfl (Str.zero zbz)) o0) (zz [] [⟨0,33,ptrH,_⟩] fun a w O=>?_)
 refine zt<|zg [some (2,_)] [] [.v 1 _,.v 2 _,.sto 0] [] O (zv rfl (za5 (xs:=[.const (.int .i64 (1))]) (rof_z zd zd) (.cons za3 .nil)) (zv rfl (zbn (xs:=[(1,.tmp 1)]) (qs:=[(1,_)]) zbz (.cons ⟨rfl,(vq 0 rfl),rfl⟩ .nil)) (oc (zan rfl rfl rfl (vq 1 rfl) zb5 (Eq.trans (b:=4) rfl rfl)) o0))) (zz [] [⟨0,33,ptrH,_⟩] fun a w O=>?_)
 refine za0<|wp_ret<|zal ?_ (zaw rfl O (zm 0 rfl) zb5)
 exact q0_wk.va
theorem zpa {c d:Nat}{x y:Rat}(hc:c+d≤900000000):Cn Tryz.prog 28 [Qs c x,Qs d y] (Qs (c+d+1) (x+y)):=by
 refine Cn.intro Tryz.func28 rfl zk nq (fun B w0 a O=>?_)
 have O:=zn [(0,Qs c x),(1,Qs d y)] [] O
 refine wp_seq<|zg [] [⟨2,33,ptrH,some 0,_,none⟩,⟨3,33,ptrH,some 1,_,none⟩,⟨4,33,ptrH,some 2,_,none⟩] [.alc 0,.alc 1,.alc 2] [] O (oc (zav rfl rfl rfl (gq 0 rfl)) (oc (zav rfl rfl rfl (gq 1 rfl)) (oc (zb0 rfl rfl rfl (Str.zero zbz)) o0))) (zz [] [⟨2,33,ptrH,_⟩,⟨3,33,ptrH,_⟩,⟨4,33,ptrH,_⟩] fun a w O=>?_)
 refine zt<|zgd [[],[0],[],[2],[0,1,2,3],[],[5],[],[7],[0,1,2,3,4,5,6,7,8],[0,1,2,3,4,5,6,7,8,9],[],[0,1,2,3,4,5,6,7,8,9,10,11]] [none,none,none] [⟨5,31,ptrH,some 11,_,some (12,_)⟩] [.adr 6 2 (.some 0) True,.v 7 _,.adr 8 3 (.some 2) True,.v 9 _,.v 10 _,.adr 11 3 (.some 0) True,.v 12 _,.adr 13 2 (.some 2) True,.v 14 _,.v 15 _,.v 16 _,.alc 3,.sto 3] [] za9 O (oc (ob_a rfl rfl (zae (lz0 0 rfl) zbx)) (zv rfl (za4 0 rfl zk trivial (lz0 0 rfl) (Sub.part 0 rfl rfl) zah) (oc (ob_a rfl rfl (zae (lz0 1 rfl) zbq)) (zv rfl (za4 2 rfl zk trivial (lz0 1 rfl) (Sub.part 1 rfl rfl) zah) (zv rfl (za5 (xs:=[.tmp 7,.tmp 9]) (zke zo zo) (.cons (vq 1 rfl) (.cons (vq 3 rfl) .nil))) (oc (ob_a rfl rfl (zae (lz0 1 rfl) zbx)) (zv rfl (za4 5 rfl zk trivial (lz0 1 rfl) (Sub.part 0 rfl rfl) zah) (oc (ob_a rfl rfl (zae (lz0 0 rfl) zbq)) (zv rfl (za4 7 rfl zk trivial (lz0 0 rfl) (Sub.part 1 rfl rfl) zah) (zv rfl (za5 (xs:=[.tmp 12,.tmp 14]) (zke zo zo) (.cons (vq 6 rfl) (.cons (vq 8 rfl) .nil))) (zv rfl (za5 (xs:=[.tmp 10,.tmp 15]) (rplus_z zo zo) (.cons (vq 4 rfl) (.cons (vq 9 rfl) .nil))) (oc (zb0 rfl rfl rfl (Str.zero zbr)) (oc (zan rfl rfl rfl (vq 10 rfl) zah (Eq.trans (b:=2) rfl rfl)) o0))))))))))))) zk zk zk zk (zz [] [⟨2,33,ptrH,_⟩,⟨3,33,ptrH,_⟩,⟨4,33,ptrH,_⟩,⟨5,31,ptrH,_⟩] fun a w O=>?_)
 refine zt<|zgd [[],[],[1],[],[3],[1,2,3,4],[0,1,2,3,4,5],[0,1,2,3,4,5,6]] [none,none,some (7,_),none] [] [.v 17 _,.adr 18 2 (.some 2) True,.v 19 _,.adr 20 3 (.some 2) True,.v 21 _,.v 22 _,.v 23 _,.sto 2] [] za9 O (zv rfl (zay (lz0 3 rfl) zah) (oc (ob_a rfl rfl (zae (lz0 0 rfl) zbq)) (zv rfl (za4 1 rfl zk trivial (lz0 0 rfl) (Sub.part 1 rfl rfl) zah) (oc (ob_a rfl rfl (zae (lz0 1 rfl) zbq)) (zv rfl (za4 3 rfl zk trivial (lz0 1 rfl) (Sub.part 1 rfl rfl) zah) (zv rfl (za5 (xs:=[.tmp 19,.tmp 21]) (zke zo zo) (.cons (vq 2 rfl) (.cons (vq 4 rfl) .nil))) (zv rfl (za5 (xs:=[.tmp 17,.tmp 22]) (zre zo zo (den_nz x y)) (.cons (vq 0 rfl) (.cons (vq 5 rfl) .nil))) (oc (zan rfl rfl rfl (vq 6 rfl) zb5 (Eq.trans (b:=4) rfl rfl)) o0)))))))) zk zk zk zk (zz [] [⟨2,33,ptrH,_⟩,⟨3,33,ptrH,_⟩,⟨4,33,ptrH,_⟩,⟨5,31,ptrH,_⟩] fun a w O=>?_)
 refine za0<|wp_ret<|zal ?_ (zaw rfl O (zm 2 rfl) zb5)
 exact zcx (zbw (congrArg (Qs _) (zu5 x y))) (znn zo).va
theorem zhp {c:Nat}{x:Rat}:Cn Tryz.prog 151 [Qs c x] (In x.num.sign):=by
 refine Cn.intro Tryz.func151 rfl zk nq (fun B w0 a O=>?_)
 have O:=zn [(0,Qs c x)] [] O
 refine wp_seq<|zg [] [⟨1,33,ptrH,some 0,_,none⟩] [.alc 0,.v 2 _] [.o 1] O (oc (zav rfl rfl rfl (gq 0 rfl)) (zv rfl (za2 za3) o0)) (zz [(2,_)] [⟨1,33,ptrH,_⟩] fun a w O=>?_)
 refine zt<|zg [none] [] [.adr 3 1 (.some 0) True,.v 4 _,.v 5 _,.v 2 _] [.o 3] O (oc (ob_a rfl rfl (zae (lz0 0 rfl) zbx)) (zv rfl (za4 0 rfl zk trivial (lz0 0 rfl) (Sub.part 0 rfl rfl) zah) (zv rfl (za5 (xs:=[.tmp 4]) ztr (.cons (vq 1 rfl) .nil)) (zv rfl (za2 (vq 2 rfl)) o0)))) (zz [(2,_)] [⟨1,33,ptrH,_⟩] fun a w O=>?_)
 refine za0<|wp_ret<|zal ?_ (zac rfl O (zm 0 rfl))
 exact zbv
theorem rchk1 {g:Nat}(h:decide ((1:Int)<((g:Nat):Int))=true):g≠1:=by have:=of_decide_eq_true h; omega
theorem rchk2 {g:Nat}(h:decide ((1:Int)<((g:Nat):Int))=false)(h0:g≠0):g=1:=by have:=of_decide_eq_false h; omega
theorem zrh (xn xd:RI):Cn Tryz.prog 178 [(RFA ⟨xn,xd⟩).va] (In (if okF ⟨xn,xd⟩ then 0 else 1)):=by
 refine Cn.intro Tryz.func178 rfl zk nq (fun B w0 a O=>?_)
 have O:=zn [(0,(RFA ⟨xn,xd⟩).va)] [] O
 have hok:=zkh (O.vals (0,(RFA ⟨xn,xd⟩).va) (zm 0 rfl))
 refine wp_seq<|zg [] [⟨1,33,ptrH,some 0,_,none⟩] [.alc 0,.v 2 _] [.o 1] O (oc (zav rfl rfl rfl (gq 0 rfl)) (zv rfl (za2 za3) o0)) (zz [(2,_)] [⟨1,33,ptrH,_⟩] fun a w O=>?_)
 refine zt<|wp_seq<|zg [none] [] [.adr 4 1 (.some 0) True,.v 5 _,.v 6 _,.v 7 _,.v 8 _,.adr 9 1 (.some 2) (_=false),.v 10 (Wh (_=false) _),.v 11 (Wh (_=false) _),.v 12 (Wh (_=false) _),.v 13 _,.v 14 _,.adr 15 1 (.some 2) (_=false),.v 16 (Wh (_=false) _),.v 17 (Wh (_=false) _),.v 18 (Wh (_=false) _),.v 19 _] [.g 0,.o 15] O (oc (ob_a rfl rfl (zae (lz0 0 rfl) zbx)) (zv rfl (za4 0 rfl zk trivial (lz0 0 rfl) (Sub.part 0 rfl rfl) zah) (zv rfl (za5 (xs:=[.tmp 5]) (zp8 _) (.cons (vq 1 rfl) .nil)) (zv rfl (zdp (vq 2 rfl) za3) (zv rfl (za1 (vq 3 rfl)) (oc (zcf rfl rfl rfl (vq 4 rfl) nq (fun hg=>zae (lz0 0 rfl) zbq)) (oc (zai rfl rfl rfl (vq 4 rfl) nq (fun hg=>za4 5 rfl zk hg (lz0 0 rfl) (Sub.part 1 rfl rfl) zah)) (oc (zai rfl rfl rfl (vq 4 rfl) nq (fun hg=>za5 (xs:=[.tmp 10]) (zp8 _) (.cons (zaa (vq 6 rfl) hg) .nil))) (oc (zai rfl rfl rfl (vq 4 rfl) nq (fun hg=>zdp (zaa (vq 7 rfl) hg) za3)) (zv rfl (r_or (vq 4 rfl) (vq 8 rfl)) (zv rfl (za1 (vq 9 rfl)) (oc (zcf rfl rfl rfl (vq 10 rfl) nq (fun hg=>zae (lz0 0 rfl) zbq)) (oc (zai rfl rfl rfl (vq 10 rfl) nq (fun hg=>za4 11 rfl zk hg (lz0 0 rfl) (Sub.part 1 rfl rfl) zah)) (oc (zai rfl rfl rfl (vq 10 rfl) nq (fun hg=>za5 (xs:=[.tmp 16]) (zia _) (.cons (zaa (vq 12 rfl) hg) .nil))) (oc (zai rfl rfl rfl (vq 10 rfl) nq (fun hg=>zrc (zaa (vq 13 rfl) hg) za3)) (zv rfl (r_or (vq 10 rfl) (vq 14 rfl)) o0)))))))))))))))) (zz [(2,_),(19,_)] [⟨1,33,ptrH,_⟩] fun a w O=>?_)
 refine za0<|za8 O (zm 1 rfl) (fun hb0=>?_) (fun hb0=>?_)
 ·refine wp_seq<|zg [none] [] [.v 2 _] [.o 0] O (zv rfl (za2 za3) o0) (zz [(2,_)] [⟨1,33,ptrH,_⟩] fun a w O=>?_)
  refine za0<|wp_ret<|zaf ?_
  refine zal ?_ (zac rfl O (zm 0 rfl))
  exact zbw (congrArg In (chk_no hb0))
 ·rw [Bool.or_eq_false_iff,Bool.or_eq_false_iff] at hb0
  obtain ⟨p,rfl,hp⟩:=zjw hok.1 (ok1 hb0.1.1)
  obtain ⟨q,rfl,hq⟩:=zjw hok.2 (ok1 hb0.1.2)
  have hq0:0<sgI (riOf q):=by have h2:¬ sgI (riOf q)≤0:=of_decide_eq_false hb0.2; omega
  have hqn:q≠0:=fun e=>by rw [e,zdo] at hq0; exact absurd hq0 zd
  have hgn:Int.gcd p q≠0:=by have:=Int.gcd_pos_of_ne_zero_right p hqn; omega
  refine wp_skip<|zt<|zg [none] [⟨3,31,ptrH,some 5,_,some (6,_)⟩] [.adr 20 1 (.some 0) True,.v 21 _,.adr 22 1 (.some 2) True,.v 23 _,.v 24 _,.alc 1,.sto 1] [.g 0] O (oc (ob_a rfl rfl (zae (lz0 0 rfl) zbx)) (zv rfl (za4 0 rfl zk trivial (lz0 0 rfl) (Sub.part 0 rfl rfl) zah) (oc (ob_a rfl rfl (zae (lz0 0 rfl) zbq)) (zv rfl (za4 2 rfl zk trivial (lz0 0 rfl) (Sub.part 1 rfl rfl) zah) (zv rfl (za5 (xs:=[.tmp 21,.tmp 23]) (zic p q zo zo) (.cons (vq 1 rfl) (.cons (vq 3 rfl) .nil))) (oc (zb0 rfl rfl rfl (Str.zero zbr)) (oc (zan rfl rfl rfl (vq 4 rfl) zah (Eq.trans (b:=2) rfl rfl)) o0))))))) (zz [(2,_)] [⟨1,33,ptrH,_⟩,⟨3,31,ptrH,_⟩] fun a w O=>?_)
  refine zt<|wp_seq<|zgd [[],[],[0,1]] [none,none] [] [.v 25 _,.v 26 _,.v 27 _] [.g 0,.o 2] za9 O (zv rfl (za5 (xs:=[.const (.int .i64 (1))]) (zye 1 zd zd) (.cons za3 .nil)) (zv rfl (zay (lz0 1 rfl) zah) (zv rfl (za5 (xs:=[.tmp 25,.tmp 26]) (zyh _ _) (.cons (vq 0 rfl) (.cons (vq 1 rfl) .nil))) o0))) zk zk zk zk (zz [(2,_),(27,_)] [⟨1,33,ptrH,_⟩,⟨3,31,ptrH,_⟩] fun a w O=>?_)
  refine za0<|za8 O (zm 1 rfl) (fun hb1=>?_) (fun hb1=>?_)
  ·refine wp_seq<|zg [none,none] [] [.v 2 _] [.o 0] O (zv rfl (za2 za3) o0) (zz [(2,_)] [⟨1,33,ptrH,_⟩,⟨3,31,ptrH,_⟩] fun a w O=>?_)
   refine za0<|wp_ret<|zaf ?_
   refine zal ?_ (zac rfl O (zm 0 rfl))
   have e1:=rchk1 hb1; exact zbw (congrArg In (by rw [show okF ⟨riOf p,riOf q⟩=false from by unfold okF; rw [zbs,zbs]; simp [show ¬ Nat.gcd p.natAbs q.natAbs=1 from e1]]; rfl))
  ·refine wp_skip<|zt<|zg [none,none] [] [.v 2 _] [.o 0] O (zv rfl (za2 za3) o0) (zz [(2,_)] [⟨1,33,ptrH,_⟩,⟨3,31,ptrH,_⟩] fun a w O=>?_)
   refine za0<|wp_ret<|zal ?_ (zac rfl O (zm 0 rfl))
   have e1:=rchk2 hb1 hgn; exact zbw (congrArg In (by rw [show okF ⟨riOf p,riOf q⟩=true from by unfold okF; rw [zbs,zbs,ok1 hb0.1.1,ok1 hb0.1.2]; simp [hq0,show Nat.gcd p.natAbs q.natAbs=1 from e1]]; rfl))
theorem zs8 : ∃ fn, Tryz.prog.funcs[178]? = some fn ∧ (fn.name == "runtime.NumGoroutine") = false ∧ fn.body.isNone = false := ⟨_, Tryz.func178, by kernel_rfl, by kernel_rfl⟩
theorem zub (x:RF):Cn Tryz.prog 178 [(RFA x).va] (In (if okX x then 0 else 1)) :=
 Cn.know (c:=okL x.num.mag∧okL x.den.mag) zs8 (fun B w args ha=>by cases ha with | cons h1 _=>exact zkh h1) fun h=>(zrh x.num x.den).post (by rw [zpg h])
theorem zrg (xs:List RF)(hl:xs.length≤1099511627776):Cn Tryz.prog 150 [(SlA 33 [U32] (xs.map RFA)).va] (Bo (xs.all okX)):=by
 refine Cn.introW Tryz.func150 rfl zk nq (.cons (zlv (fun A hA=>by obtain ⟨x,_,rfl⟩:=List.mem_map.1 hA; exact zjl x)).va .nil) (zeb _).va (fun B w0 a hB0 O=>?_)
 have O:=zn [(0,(SlO 33 [U32] (xs.map RFA) True).va)] [] O
 refine wp_seq<|zh [.v 2 _] [.g 0,.o 0] O (zv rfl (za2 zat) o0) (zz [(0,_),(2,_)] [] fun a w O=>?_)
 refine zt<|wp_seq<|zh [.v 3 _] [.g 0,.g 1,.o 0] O (zv rfl (za2 za3) o0) (zz [(0,_),(2,_),(3,_)] [] fun a w O=>?_)
 refine za0<|wp_block ?_
 have O:=St.sel O [0,2]
 refine wp_loop_ghost (fun n a w=>∃ j:Nat,(n+j=xs.length∧(xs.take j).all okX=true)∧St B w0 16 [(0,(SlO 33 [U32] (xs.map RFA) True).va),(3,In (j:Nat))] [] a w) (xs.length) ?_ ?_
 ·exact ⟨0,⟨by omega,rfl⟩,O⟩
 intro n a w hI
 obtain ⟨j,⟨hn,hno⟩,O⟩:=hI
 refine wp_seq<|wp_seq<|zh [.v 4 _,.v 5 _,.v 6 _,.v 7 _] [.g 0,.g 1,.o 3] O (zv rfl (za1 (gq 1 rfl)) (zv rfl (za1 (gq 0 rfl)) (zv rfl (zbf Tryz.underlying86 (zcm (zar (vq 1 rfl)))) (zv rfl (zaz (vq 0 rfl) (vq 2 rfl)) o0)))) (zz [(0,_),(3,_),(7,_)] [] fun a w O=>?_)
 refine za0<|za8 O (zm 2 rfl) (fun hb0=>?_) (fun hb0=>?_)
 ·have hj:j<xs.length:=by simp at hb0; omega
  refine wp_skip<|zt<|wp_block<|wp_seq<|zh [.v 10 _,.v 11 _,.v 12 _,.v 13 _,.v 14 _,.v 15 _] [.g 0,.g 1,.o 5] O (zv rfl (za1 (gq 0 rfl)) (zv rfl (za1 (gq 1 rfl)) (zv rfl (zcv zkc (zf3 fun _=>rfl) (zcm (zar (vq 0 rfl))) (vq 1 rfl) (zdt hj)) (zv rfl (zad (vq 2 rfl) zb5) (zv rfl (za5 (xs:=[.tmp 13]) (zub _) (.cons (vq 3 rfl) .nil)) (zv rfl (zdp (vq 4 rfl) za3) o0)))))) (zz [(0,_),(3,_),(15,_)] [] fun a w O=>?_)
  refine za0<|za8 O (zm 2 rfl) (fun hb1=>?_) (fun hb1=>?_)
  ·refine wp_seq<|zh [.v 2 _] [.g 0,.g 1,.o 0] O (zv rfl (za2 zat) o0) (zz [(0,_),(3,_),(2,_)] [] fun a w O=>?_)
   refine za0<|wp_ret<|zb8 ?_
   refine zaf ?_
   refine zaf ?_
   refine zb8 ?_
   refine zaf ?_
   refine zak ?_ (zac rfl O (zm 2 rfl))
   rw [← ok_no hj hb1]
  ·refine wp_skip<|zab ?_
   refine za0<|zh [.v 8 _,.v 9 _,.v 3 _] [.g 0,.o 2] O (zv rfl (za1 (gq 1 rfl)) (zv rfl (zb2 (vq 0 rfl) za3 (zb3 zo)) (zv rfl (za2 (vq 1 rfl)) o0))) (zz [(0,_),(3,_)] [] fun a w O=>?_)
   refine za0 ?_
   have O:=St.sel O [0,1]
   exact ⟨n-1,by omega,j+1,⟨by omega,ok_yes hj hno hb1⟩,O⟩
 ·obtain rfl:j=xs.length:=by simp at hb0; omega
  refine wp_exit<|za7<|za7<|zam<|zt<|zh [.v 2 _] [.o 0] O (zv rfl (za2 zat) o0) (zz [(2,_)] [] fun a w O=>?_)
  refine za0<|wp_ret<|zak ?_ (zac rfl O (zm 0 rfl))
  rw [List.take_length] at hno; rw [hno]
end Go.Proofs.YtmfgafhlaeolgaaGreatDoor
namespace Go.Proofs.YtmfgafhlaeolgaaGreatDoor
open Go Go.RowKit
end Go.Proofs.YtmfgafhlaeolgaaGreatDoor
namespace Go.Proofs.YtmfgafhlaeolgaaGreatDoor
open Go Go.RowKit
theorem kd6 {k ps qs:Int}(h1:(k==1)=false)(h2:(k==2)=false)(h3:(k==3)=false)(h4:(k==4)=false)(h5:(k==5)=true):elK k ps qs=((ps==0)&&(qs==0)):=by rw [kd5 h1 h2 h3 h4,h5]; rfl
theorem kd7 {k ps qs:Int}(h1:(k==1)=false)(h2:(k==2)=false)(h3:(k==3)=false)(h4:(k==4)=false)(h5:(k==5)=false):elK k ps qs=false:=by rw [kd5 h1 h2 h3 h4,h5]; rfl
theorem zgc {c:Nat}{x:Rat}:Cn Tryz.prog 152 [Qs c x] (Bo (x.num.sign==0)):=by
 refine Cn.intro Tryz.func152 rfl zk nq (fun B w0 a O=>?_)
 have O:=zn [(0,Qs c x)] [] O
 refine wp_seq<|zg [] [⟨1,33,ptrH,some 0,_,none⟩] [.alc 0,.v 2 _] [.o 1] O (oc (zav rfl rfl rfl (gq 0 rfl)) (zv rfl (za2 zat) o0)) (zz [(2,_)] [⟨1,33,ptrH,_⟩] fun a w O=>?_)
 refine zt<|zg [none] [] [.v 3 _,.v 4 _,.v 5 _,.v 2 _] [.o 3] O (zv rfl (zay (lz0 0 rfl) zb5) (zv rfl (za5 (xs:=[.tmp 3]) zhp (.cons (vq 0 rfl) .nil)) (zv rfl (zc3 (vq 1 rfl) za3) (zv rfl (za2 (vq 2 rfl)) o0)))) (zz [(2,_)] [⟨1,33,ptrH,_⟩] fun a w O=>?_)
 refine za0<|wp_ret<|zal ?_ (zac rfl O (zm 0 rfl))
 exact zbv
theorem zyl (x:RE):Cn Tryz.prog 94 [(REA x).va] (Bo (elF x)):=by
 refine Cn.intro Tryz.func94 rfl zk nq (fun B w0 a O=>?_)
 have O:=zn [(0,(REA x).va)] [] O
 refine wp_seq<|zg [] [⟨1,64,ptrH,some 0,_,none⟩] [.alc 0,.v 2 _] [.o 1] O (oc (zav rfl rfl rfl (gq 0 rfl)) (zv rfl (za2 zat) o0)) (zz [(2,_)] [⟨1,64,ptrH,_⟩] fun a w O=>?_)
 refine zt<|wp_seq<|zg [none] [] [.adr 3 1 (.some 1) True,.v 4 _,.adr 5 1 (.some 5) True,.v 6 _,.v 7 _,.v 8 _,.v 9 _] [.g 0,.o 6] O (oc (ob_a rfl rfl (zae (lz0 0 rfl) zc4)) (zv rfl (za4 0 rfl zk trivial (lz0 0 rfl) (Sub.part 1 rfl rfl) zb5) (oc (ob_a rfl rfl (zae (lz0 0 rfl) zc7)) (zv rfl (za4 2 rfl zk trivial (lz0 0 rfl) (Sub.part 2 rfl rfl) zb5) (zv rfl (zd0 (D:=[U32]) (l:=[_,_]) (xs:=[.tmp 4,.tmp 6]) (zfv zk) zkc zk (n_ok zk) nq nq nq (.cons (vq 1 rfl) (.cons (vq 3 rfl) .nil)) rfl rfl) (zv rfl (za5 (xs:=[.tmp 7]) (zrg [x.p,x.q] nq) (.cons (vq 4 rfl) .nil)) (zv rfl (zf7 (vq 5 rfl)) o0))))))) (zz [(2,_),(9,_)] [⟨1,64,ptrH,_⟩] fun a w O=>?_)
 refine za0<|za8 O (zm 1 rfl) (fun hb0=>?_) (fun hb0=>?_)
 ·refine wp_seq<|zg [none] [] [.v 2 _] [.o 0] O (zv rfl (za2 zat) o0) (zz [(2,_)] [⟨1,64,ptrH,_⟩] fun a w O=>?_)
  refine za0<|wp_ret<|zaf ?_
  refine zal ?_ (zac rfl O (zm 0 rfl))
  rw [elF_no hb0]; exact zbv
 ·obtain ⟨hx,he⟩:=elF_ok hb0
  have O:=St.wkL O 0 rfl (el_q hx)
  refine wp_skip<|zt<|wp_seq<|zg [none] [] [.adr 10 1 (.some 0) True,.v 11 _] [.g 0,.o 1] O (oc (ob_a rfl rfl (zae (lz0 0 rfl) zcc)) (zv rfl (za4 0 rfl zk trivial (lz0 0 rfl) (Sub.part 0 rfl rfl) zfu) o0)) (zz [(2,_),(11,_)] [⟨1,64,ptrH,_⟩] fun a w O=>?_)
  refine za0<|wp_block<|wp_seq<|zg [none] [] [.v 13 _,.v 12 _] [.g 0,.g 1,.o 1] O (zv rfl (zc3 (gq 1 rfl) za3) (zv rfl (za2 (vq 0 rfl)) o0)) (zz [(2,_),(11,_),(12,_)] [⟨1,64,ptrH,_⟩] fun a w O=>?_)
  refine za0<|za8 O (zm 2 rfl) (fun hb1=>?_) (fun hb1=>?_)
  ·refine wp_seq<|zg [none] [] [.adr 14 1 (.some 1) True,.v 15 _,.v 16 _,.v 17 _,.v 18 _,.adr 19 1 (.some 5) (_=true),.v 20 (Wh (_=true) _),.v 21 (Wh (_=true) _),.v 22 _,.v 2 _] [.o 9] O (oc (ob_a rfl rfl (zae (lz0 0 rfl) zc4)) (zv rfl (za4 0 rfl zk trivial (lz0 0 rfl) (Sub.part 1 rfl rfl) zb5) (zv rfl (za5 (xs:=[.tmp 15]) zhp (.cons (vq 1 rfl) .nil)) (zv rfl (zeo (vq 2 rfl) za3) (zv rfl (za1 (vq 3 rfl)) (oc (zcf rfl rfl rfl (vq 4 rfl) nq (fun hg=>zae (lz0 0 rfl) zc7)) (oc (zai rfl rfl rfl (vq 4 rfl) nq (fun hg=>za4 5 rfl zk hg (lz0 0 rfl) (Sub.part 2 rfl rfl) zb5)) (oc (zai rfl rfl rfl (vq 4 rfl) nq (fun hg=>za5 (xs:=[.tmp 20]) zgc (.cons (zaa (vq 6 rfl) hg) .nil))) (zv rfl (zca (vq 4 rfl) (vq 7 rfl)) (zv rfl (za2 (vq 8 rfl)) o0)))))))))) (zz [(2,_)] [⟨1,64,ptrH,_⟩] fun a w O=>?_)
   refine za0<|wp_ret<|zb8 ?_
   refine zaf ?_
   refine zal ?_ (zac rfl O (zm 0 rfl))
   rw [he,kd1 hb1]; exact zbv
  ·refine wp_seq<|zg [none] [] [.v 24 _,.v 23 _] [.g 0,.g 1,.o 1] O (zv rfl (zc3 (gq 1 rfl) za3) (zv rfl (za2 (vq 0 rfl)) o0)) (zz [(2,_),(11,_),(23,_)] [⟨1,64,ptrH,_⟩] fun a w O=>?_)
   refine za0<|za8 O (zm 2 rfl) (fun hb2=>?_) (fun hb2=>?_)
   ·refine wp_seq<|zg [none] [] [.adr 25 1 (.some 5) True,.v 26 _,.v 27 _,.v 2 _] [.o 3] O (oc (ob_a rfl rfl (zae (lz0 0 rfl) zc7)) (zv rfl (za4 0 rfl zk trivial (lz0 0 rfl) (Sub.part 2 rfl rfl) zb5) (zv rfl (za5 (xs:=[.tmp 26]) zgc (.cons (vq 1 rfl) .nil)) (zv rfl (za2 (vq 2 rfl)) o0)))) (zz [(2,_)] [⟨1,64,ptrH,_⟩] fun a w O=>?_)
    refine za0<|wp_ret<|zb8 ?_
    refine zaf ?_
    refine zal ?_ (zac rfl O (zm 0 rfl))
    rw [he,kd2 hb1 hb2]; exact zbv
   ·refine wp_seq<|zg [none] [] [.v 29 _,.v 28 _] [.g 0,.g 1,.o 1] O (zv rfl (zc3 (gq 1 rfl) za3) (zv rfl (za2 (vq 0 rfl)) o0)) (zz [(2,_),(11,_),(28,_)] [⟨1,64,ptrH,_⟩] fun a w O=>?_)
    refine za0<|za8 O (zm 2 rfl) (fun hb3=>?_) (fun hb3=>?_)
    ·refine wp_seq<|zg [none] [] [.adr 30 1 (.some 1) True,.v 31 _,.v 32 _,.v 33 _,.v 34 _,.adr 35 1 (.some 5) (_=true),.v 36 (Wh (_=true) _),.v 37 (Wh (_=true) _),.v 38 (Wh (_=true) _),.v 39 _,.v 2 _] [.o 10] O (oc (ob_a rfl rfl (zae (lz0 0 rfl) zc4)) (zv rfl (za4 0 rfl zk trivial (lz0 0 rfl) (Sub.part 1 rfl rfl) zb5) (zv rfl (za5 (xs:=[.tmp 31]) zhp (.cons (vq 1 rfl) .nil)) (zv rfl (zeo (vq 2 rfl) za3) (zv rfl (za1 (vq 3 rfl)) (oc (zcf rfl rfl rfl (vq 4 rfl) nq (fun hg=>zae (lz0 0 rfl) zc7)) (oc (zai rfl rfl rfl (vq 4 rfl) nq (fun hg=>za4 5 rfl zk hg (lz0 0 rfl) (Sub.part 2 rfl rfl) zb5)) (oc (zai rfl rfl rfl (vq 4 rfl) nq (fun hg=>za5 (xs:=[.tmp 36]) zhp (.cons (zaa (vq 6 rfl) hg) .nil))) (oc (zai rfl rfl rfl (vq 4 rfl) nq (fun hg=>zen (zaa (vq 7 rfl) hg) za3)) (zv rfl (zca (vq 4 rfl) (vq 8 rfl)) (zv rfl (za2 (vq 9 rfl)) o0))))))))))) (zz [(2,_)] [⟨1,64,ptrH,_⟩] fun a w O=>?_)
     refine za0<|wp_ret<|zb8 ?_
     refine zaf ?_
     refine zal ?_ (zac rfl O (zm 0 rfl))
     rw [he,kd3 hb1 hb2 hb3]; exact zbv
    ·refine wp_seq<|zg [none] [] [.v 41 _,.v 40 _] [.g 0,.g 1,.o 1] O (zv rfl (zc3 (gq 1 rfl) za3) (zv rfl (za2 (vq 0 rfl)) o0)) (zz [(2,_),(11,_),(40,_)] [⟨1,64,ptrH,_⟩] fun a w O=>?_)
     refine za0<|za8 O (zm 2 rfl) (fun hb4=>?_) (fun hb4=>?_)
     ·refine wp_seq<|zg [none] [] [.v 2 _] [.o 0] O (zv rfl (za2 zat) o0) (zz [(2,_)] [⟨1,64,ptrH,_⟩] fun a w O=>?_)
      refine za0<|wp_ret<|zb8 ?_
      refine zaf ?_
      refine zal ?_ (zac rfl O (zm 0 rfl))
      rw [he,kd4 hb1 hb2 hb3 hb4]; exact zbv
     ·refine wp_seq<|zg [none] [] [.v 43 _,.v 42 _] [.g 0,.o 1] O (zv rfl (zc3 (gq 1 rfl) za3) (zv rfl (za2 (vq 0 rfl)) o0)) (zz [(2,_),(42,_)] [⟨1,64,ptrH,_⟩] fun a w O=>?_)
      refine za0<|za8 O (zm 1 rfl) (fun hb5=>?_) (fun hb5=>?_)
      ·refine wp_seq<|zg [none] [] [.adr 44 1 (.some 1) True,.v 45 _,.v 46 _,.v 47 _,.adr 48 1 (.some 5) (_=true),.v 49 (Wh (_=true) _),.v 50 (Wh (_=true) _),.v 51 _,.v 2 _] [.o 8] O (oc (ob_a rfl rfl (zae (lz0 0 rfl) zc4)) (zv rfl (za4 0 rfl zk trivial (lz0 0 rfl) (Sub.part 1 rfl rfl) zb5) (zv rfl (za5 (xs:=[.tmp 45]) zgc (.cons (vq 1 rfl) .nil)) (zv rfl (za1 (vq 2 rfl)) (oc (zcf rfl rfl rfl (vq 3 rfl) nq (fun hg=>zae (lz0 0 rfl) zc7)) (oc (zai rfl rfl rfl (vq 3 rfl) nq (fun hg=>za4 4 rfl zk hg (lz0 0 rfl) (Sub.part 2 rfl rfl) zb5)) (oc (zai rfl rfl rfl (vq 3 rfl) nq (fun hg=>za5 (xs:=[.tmp 49]) zgc (.cons (zaa (vq 5 rfl) hg) .nil))) (zv rfl (zca (vq 3 rfl) (vq 6 rfl)) (zv rfl (za2 (vq 7 rfl)) o0))))))))) (zz [(2,_)] [⟨1,64,ptrH,_⟩] fun a w O=>?_)
       refine za0<|wp_ret<|zb8 ?_
       refine zaf ?_
       refine zal ?_ (zac rfl O (zm 0 rfl))
       rw [he,kd6 hb1 hb2 hb3 hb4 hb5]; exact zbv
      ·refine wp_skip<|zab ?_
       refine zt<|zg [none] [] [.v 2 _] [.o 0] O (zv rfl (za2 zat) o0) (zz [(2,_)] [⟨1,64,ptrH,_⟩] fun a w O=>?_)
       refine za0<|wp_ret<|zal ?_ (zac rfl O (zm 0 rfl))
       rw [he,kd7 hb1 hb2 hb3 hb4 hb5]; exact zbv
theorem zjv (xs:List RE):Cn Tryz.prog 25 [(SlA 64 [U32] (xs.map REA)).va] (In (chF xs)):=by
 refine Cn.intro Tryz.func25 rfl zk nq (fun B w0 a O=>?_)
 have O:=zn [(0,(SlA 64 [U32] (xs.map REA)).va)] [] O
 refine wp_seq<|zh [.v 2 _] [.g 0,.o 0] O (zv rfl (za2 za3) o0) (zz [(0,_),(2,_)] [] fun a w O=>?_)
 refine zt<|wp_seq<|zh [.v 4 _,.v 5 _,.v 6 _] [.g 0,.g 1,.o 2] O (zv rfl (za1 (gq 0 rfl)) (zv rfl (zbf Tryz.underlying22 (vq 0 rfl)) (zv rfl (zen (vq 1 rfl) za3) o0))) (zz [(0,_),(2,_),(6,_)] [] fun a w O=>?_)
 refine za0<|za8 O (zm 2 rfl) (fun hb0=>?_) (fun hb0=>?_)
 ·have hbig:xs.length>4096:=by rw [List.length_map] at hb0; have:=of_decide_eq_true hb0; omega
  refine wp_seq<|zh [.v 2 _] [.g 0,.o 0] O (zv rfl (za2 za3) o0) (zz [(0,_),(2,_)] [] fun a w O=>?_)
  refine za0<|wp_ret<|zaf ?_
  refine zal ?_ (zac rfl O (zm 1 rfl))
  rw [chF,if_pos hbig]; exact zbv
 ·have hbig:¬ xs.length>4096:=by rw [List.length_map] at hb0; have:=of_decide_eq_false hb0; omega
  refine wp_skip<|zt<|wp_seq<|zh [.v 3 _] [.g 0,.g 1,.o 0] O (zv rfl (za2 za3) o0) (zz [(0,_),(2,_),(3,_)] [] fun a w O=>?_)
  refine za0<|wp_block ?_
  have O:=St.sel O [0,2]
  refine wp_loop_ghost (fun n a w=>∃ j:Nat,(n+j=xs.length∧(xs.take j).all elF=true)∧St B w0 19 [(0,(SlA 64 [U32] (xs.map REA)).va),(3,In (j:Nat))] [] a w) (xs.length) ?_ ?_
  ·exact ⟨0,⟨by omega,rfl⟩,O⟩
  intro n a w hI
  obtain ⟨j,⟨hn,hno⟩,O⟩:=hI
  refine wp_seq<|wp_seq<|zh [.v 7 _,.v 8 _,.v 9 _,.v 10 _] [.g 0,.g 1,.o 3] O (zv rfl (za1 (gq 1 rfl)) (zv rfl (za1 (gq 0 rfl)) (zv rfl (zbf Tryz.underlying22 (vq 1 rfl)) (zv rfl (zaz (vq 0 rfl) (vq 2 rfl)) o0)))) (zz [(0,_),(3,_),(10,_)] [] fun a w O=>?_)
  refine za0<|za8 O (zm 2 rfl) (fun hb1=>?_) (fun hb1=>?_)
  ·have hj:j<xs.length:=by rw [List.length_map] at hb1; have:=of_decide_eq_true hb1; omega
   refine wp_skip<|zt<|wp_block<|wp_seq<|zh [.v 13 _,.v 14 _,.v 15 _,.v 16 _,.v 17 _,.v 18 _] [.g 0,.g 1,.o 5] O (zv rfl (za1 (gq 0 rfl)) (zv rfl (za1 (gq 1 rfl)) (zv rfl (zcv ze3 (zf3 fun _=>rfl) (vq 0 rfl) (vq 1 rfl) (zdt hj)) (zv rfl (zad (vq 2 rfl) zd5) (zv rfl (za5 (xs:=[.tmp 16]) (zyl _) (.cons (vq 3 rfl) .nil)) (zv rfl (zf7 (vq 4 rfl)) o0)))))) (zz [(0,_),(3,_),(18,_)] [] fun a w O=>?_)
   refine za0<|za8 O (zm 2 rfl) (fun hb2=>?_) (fun hb2=>?_)
   ·refine wp_seq<|zh [.v 2 _] [.g 0,.g 1,.o 0] O (zv rfl (za2 za3) o0) (zz [(0,_),(3,_),(2,_)] [] fun a w O=>?_)
    refine za0<|wp_ret<|zb8 ?_
    refine zaf ?_
    refine zaf ?_
    refine zb8 ?_
    refine zaf ?_
    refine zal ?_ (zac rfl O (zm 2 rfl))
    rw [chF,if_neg hbig,all_so hj (by simpa using hb2)]; exact zbv
   ·refine wp_skip<|zab ?_
    refine za0<|zh [.v 11 _,.v 12 _,.v 3 _] [.g 0,.o 2] O (zv rfl (za1 (gq 1 rfl)) (zv rfl (zb2 (vq 0 rfl) za3 ((wi64 zo zo).trans (by omega:(_:Int)=((j+1:Nat):Int)))) (zv rfl (za2 (vq 1 rfl)) o0))) (zz [(0,_),(3,_)] [] fun a w O=>?_)
    refine za0 ?_
    have O:=St.sel O [0,1]
    exact ⟨n-1,by omega,j+1,⟨by omega,all_nx hj hno (by simpa using hb2)⟩,O⟩
  ·obtain rfl:j=xs.length:=by rw [List.length_map] at hb1; have:=of_decide_eq_false hb1; omega
   refine wp_exit<|za7<|za7<|zam<|zt<|zh [.v 2 _] [.o 0] O (zv rfl (za2 za3) o0) (zz [(2,_)] [] fun a w O=>?_)
   refine za0<|wp_ret<|zal ?_ (zac rfl O (zm 0 rfl))
   rw [List.take_length] at hno; rw [chF,if_neg hbig,hno]; exact zbv
end Go.Proofs.YtmfgafhlaeolgaaGreatDoor
namespace Go.Proofs.YtmfgafhlaeolgaaGreatDoor
open Go Go.RowKit
theorem big_e {x:RI}:decide ((x.mag.length:Int)>2048)=bigI x:=by unfold bigI; simp
theorem lq_e {q:Rat}:(bigI (riOf q.num) || bigI (riOf (q.den:Int)))=longQ q:=by simp [longQ]
theorem zpb (x:RI):Cn Tryz.prog 100 [(RIA x).va] (Bo (bigI x)):=by
 refine Cn.intro Tryz.func100 rfl zk nq (fun B w0 a O=>?_)
 have O:=zn [(0,(RIA x).va)] [] O
 refine wp_seq<|zg [] [⟨1,31,ptrH,some 0,_,none⟩] [.alc 0,.v 2 _] [.o 1] O (oc (zav rfl rfl rfl (gq 0 rfl)) (zv rfl (za2 zat) o0)) (zz [(2,_)] [⟨1,31,ptrH,_⟩] fun a w O=>?_)
 refine zt<|zg [none] [] [.adr 3 1 (.some 1) True,.v 4 _,.v 5 _,.v 6 _,.v 2 _] [.o 4] O (oc (ob_a rfl rfl (zae (lz0 0 rfl) zaj)) (zv rfl (za4 0 rfl zk trivial (lz0 0 rfl) (Sub.part 1 rfl rfl) zb7) (zv rfl (zas Tryz.underlying29 (vq 1 rfl)) (zv rfl (zen (vq 2 rfl) za3) (zv rfl (za2 (vq 3 rfl)) o0))))) (zz [(2,_)] [⟨1,31,ptrH,_⟩] fun a w O=>?_)
 refine za0<|wp_ret<|zal ?_ (zac rfl O (zm 0 rfl))
 exact zbw (congrArg Bo big_e)
theorem zyk {L:List As}(qs:List Rat)(hL:All2 IsQ L qs)(hl:qs.length≤1099511627776):Cn Tryz.prog 29 [(SlA 33 [U32] L).va] (Bo (qs.any longQ)):=by
 have hLl:=hL.length
 refine Cn.introW Tryz.func29 rfl zk nq (.cons (zlv (isq_up hL)).va .nil) (zeb _).va (fun B w0 a hB0 O=>?_)
 have O:=zn [(0,(SlO 33 [U32] L True).va)] [] O
 refine wp_seq<|zh [.v 2 _] [.g 0,.o 0] O (zv rfl (za2 zat) o0) (zz [(0,_),(2,_)] [] fun a w O=>?_)
 refine zt<|wp_seq<|zh [.v 3 _] [.g 0,.g 1,.o 0] O (zv rfl (za2 za3) o0) (zz [(0,_),(2,_),(3,_)] [] fun a w O=>?_)
 refine za0<|wp_block ?_
 have O:=St.sel O [0,2]
 refine wp_loop_ghost (fun n a w=>∃ j:Nat,(n+j=qs.length∧(qs.take j).any longQ=false)∧St B w0 24 [(0,(SlO 33 [U32] L True).va),(3,In (j:Nat))] [] a w) (qs.length) ?_ ?_
 ·exact ⟨0,⟨by omega,rfl⟩,O⟩
 intro n a w hI
 obtain ⟨j,⟨hn,hno⟩,O⟩:=hI
 refine wp_seq<|wp_seq<|zh [.v 4 _,.v 5 _,.v 6 _,.v 7 _] [.g 0,.g 1,.o 3] O (zv rfl (za1 (gq 1 rfl)) (zv rfl (za1 (gq 0 rfl)) (zv rfl (zbf Tryz.underlying86 (zcm (zar (vq 1 rfl)))) (zv rfl (zaz (vq 0 rfl) (vq 2 rfl)) o0)))) (zz [(0,_),(3,_),(7,_)] [] fun a w O=>?_)
 refine za0<|za8 O (zm 2 rfl) (fun hb0=>?_) (fun hb0=>?_)
 ·have hj:j<qs.length:=by rw [hLl] at hb0; simp at hb0; omega
  obtain ⟨kj,hLj⟩:=isq_at hL hj
  refine wp_skip<|zt<|wp_block<|wp_seq<|zh [.v 10 _,.v 11 _,.v 12 _,.v 13 _,.v 14 _,.v 15 _,.v 16 _,.v 17 (Wh (_=false) _),.v 18 (Wh (_=false) _),.v 19 (Wh (_=false) _),.v 20 (Wh (_=false) _),.v 21 (Wh (_=false) _),.v 22 (Wh (_=false) _),.v 23 _] [.g 0,.g 1,.o 13] O (zv rfl (za1 (gq 0 rfl)) (zv rfl (za1 (gq 1 rfl)) (zv rfl (zcv zkc (isq_n hL) (zcm (zar (vq 0 rfl))) (vq 1 rfl) hLj) (zv rfl (zax (vq 2 rfl) zbx (Sub.part 0 rfl rfl)) (zv rfl (zad (vq 3 rfl) zah) (zv rfl (za5 (xs:=[.tmp 14]) ((zpb (riOf (qs[j]).num)).wk (.cons zaA.va .nil)) (.cons (vq 4 rfl) .nil)) (zv rfl (za1 (vq 5 rfl)) (oc (zai rfl rfl rfl (vq 6 rfl) nq (fun hg=>za1 (gq 0 rfl))) (oc (zai rfl rfl rfl (vq 6 rfl) nq (fun hg=>za1 (gq 1 rfl))) (oc (zai rfl rfl rfl (vq 6 rfl) nq (fun hg=>zcv zkc (isq_n hL) (zcm (zar (zaa (vq 7 rfl) hg))) (zaa (vq 8 rfl) hg) hLj)) (oc (zai rfl rfl rfl (vq 6 rfl) nq (fun hg=>zax (zaa (vq 9 rfl) hg) zbq (Sub.part 1 rfl rfl))) (oc (zai rfl rfl rfl (vq 6 rfl) nq (fun hg=>zad (zaa (vq 10 rfl) hg) zah)) (oc (zai rfl rfl rfl (vq 6 rfl) nq (fun hg=>za5 (xs:=[.tmp 21]) ((zpb (riOf ((qs[j]).den:Int))).wk (.cons zaA.va .nil)) (.cons (zaa (vq 11 rfl) hg) .nil))) (zv rfl (r_or (vq 6 rfl) (vq 12 rfl)) o0)))))))))))))) (zz [(0,_),(3,_),(23,_)] [] fun a w O=>?_)
  refine za0<|za8 O (zm 2 rfl) (fun hb1=>?_) (fun hb1=>?_)
  ·rw [lq_e] at hb1
   refine wp_seq<|zh [.v 2 _] [.g 0,.g 1,.o 0] O (zv rfl (za2 zat) o0) (zz [(0,_),(3,_),(2,_)] [] fun a w O=>?_)
   refine za0<|wp_ret<|zb8 ?_
   refine zaf ?_
   refine zaf ?_
   refine zb8 ?_
   refine zaf ?_
   refine zak ?_ (zac rfl O (zm 2 rfl))
   rw [← zva hj hb1]
  ·rw [lq_e] at hb1
   refine wp_skip<|zab ?_
   refine za0<|zh [.v 8 _,.v 9 _,.v 3 _] [.g 0,.o 2] O (zv rfl (za1 (gq 1 rfl)) (zv rfl (zb2 (vq 0 rfl) za3 (zb3 zo)) (zv rfl (za2 (vq 1 rfl)) o0))) (zz [(0,_),(3,_)] [] fun a w O=>?_)
   refine za0 ?_
   have O:=St.sel O [0,1]
   exact ⟨n-1,by omega,j+1,⟨by omega,lq_no hj hno hb1⟩,O⟩
 ·obtain rfl:j=qs.length:=by rw [hLl] at hb0; simp at hb0; omega
  refine wp_exit<|za7<|za7<|zam<|zt<|zh [.v 2 _] [.o 0] O (zv rfl (za2 zat) o0) (zz [(2,_)] [] fun a w O=>?_)
  refine za0<|wp_ret<|zak ?_ (zac rfl O (zm 0 rfl))
  rw [List.take_length] at hno; rw [hno]
end Go.Proofs.YtmfgafhlaeolgaaGreatDoor
