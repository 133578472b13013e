import Derived.Test.YthdbhckhignfcaaGreatDoorBxAa
import Derived.Test.YthdbhckhignfcaaGreatDoorBxAc
import Derived.Test.YthdbhckhignfcaaGreatDoorBxAl
import Derived.Test.YthdbhckhignfcaaGreatDoorBxAz
import Derived.Test.YthdbhckhignfcaaGreatDoorBxBb
set_option linter.unusedVariables false
set_option linter.unusedSimpArgs false
set_option linter.unusedSectionVars false
set_option maxRecDepth 100000
namespace Go.Proofs.YthdbhckhignfcaaGreatDoor
open Go Go.RowKit
theorem zyt : ∃ fn, Tryz.prog.funcs[176]? = some fn ∧ (fn.name == "runtime.NumGoroutine") = false ∧ fn.body.isNone = false := ⟨_, Tryz.func176, by kernel_rfl, by kernel_rfl⟩
theorem ex_rPlus : ∃ fn, Tryz.prog.funcs[198]? = some fn ∧ (fn.name == "runtime.NumGoroutine") = false ∧ fn.body.isNone = false := ⟨_, Tryz.func198, by kernel_rfl, by kernel_rfl⟩
theorem zui : ∃ fn, Tryz.prog.funcs[201]? = some fn ∧ (fn.name == "runtime.NumGoroutine") = false ∧ fn.body.isNone = false := ⟨_, Tryz.func201, by kernel_rfl, by kernel_rfl⟩
theorem ex_rSign : ∃ fn, Tryz.prog.funcs[193]? = some fn ∧ (fn.name == "runtime.NumGoroutine") = false ∧ fn.body.isNone = false := ⟨_, Tryz.func193, by kernel_rfl, by kernel_rfl⟩
theorem zqh : ∃ fn, Tryz.prog.funcs[202]? = some fn ∧ (fn.name == "runtime.NumGoroutine") = false ∧ fn.body.isNone = false := ⟨_, Tryz.func202, by kernel_rfl, by kernel_rfl⟩
theorem zpx (p:Int)(hp:lz p≤1000000000):Cn Tryz.prog 202 [Zi p] (Zi (-p)):=by
 refine Cn.intro Tryz.func202 rfl zk nq (fun B w0 a O=>?_)
 have O:=zn [(0,Zi p)] [] O
 refine wp_seq<|zg [] [⟨1,25,ptrH,some 0,_,none⟩,⟨2,25,ptrH,some 1,_,none⟩] [.alc 0,.alc 1] [] O (oc (zam rfl rfl rfl (gq 0 rfl)) (oc (zas rfl rfl rfl (Str.zero zbo)) o0)) (zz [] [⟨1,25,ptrH,_⟩,⟨2,25,ptrH,_⟩] fun a w O=>?_)
 refine zt<|zgd [[],[],[0,1],[0,1,2]] [none,some (3,_)] [] [.v 3 _,.v 4 _,.v 5 _,.sto 1] [] za6 O (zv rfl (za5 (xs:=[.const (.int .i64 (0))]) (rof_c 0 zd zd) (.cons za3 .nil)) (zv rfl (zaq (lz0 0 rfl) zac) (zv rfl (za5 (xs:=[.tmp 3,.tmp 4]) (zw2 0 p (by simp [lz,zbv]) hp) (.cons (vq 0 rfl) (.cons (vq 1 rfl) .nil))) (oc (zak rfl rfl rfl (vq 2 rfl) zac (Eq.trans (b:=2) rfl rfl)) o0)))) zk zk zk zk (zz [] [⟨1,25,ptrH,_⟩,⟨2,25,ptrH,_⟩] fun a w O=>?_)
 refine za0<|wp_ret<|zai ?_ (zaj rfl O (zm 1 rfl) zac)
 exact zbt (congrArg Zi (Int.zero_sub p))
section
variable {a b:Nat} {p q:Int} (ha:a≤1000000000)
include ha
theorem zif:Cn Tryz.prog 202 [Zs a p] (Zs a (-p)):=zs1 zqh fun h=>(zpx p zo).wkp (zgx (by rw [zhm]; exact h))
variable (hb:b≤1000000000)
include hb
theorem zf9:Cn Tryz.prog 176 [Zs a p,Zs b q] (Zs (a+b) (p*q)):=zs2 zyt fun h h'=>(zvu p q zo zo).wkp (zgx (by have:=zew p q; omega))
theorem rplus_z:Cn Tryz.prog 198 [Zs a p,Zs b q] (Zs (max a b+1) (p+q)):=zs2 ex_rPlus fun h h'=>(zrf p q zo zo).wkp (zgx (by have:=zlx p q; omega))
theorem zoh (hq:q≠0):Cn Tryz.prog 201 [Zs a p,Zs b q] (Tu [Zs a (p.tdiv q),Zs b (p.tmod q)]):=zs2 zui fun h h'=>(zlq p q hq zo zo).wkp (zzx (.cons (zgx (by have:=zkb p q; omega)) (.cons (zgx (by have:=lz_tm (p:=p) hq; omega)) .nil)))
end
theorem zvz {a:Nat}{p:Int}:Cn Tryz.prog 193 [Zs a p] (In p.sign):=zs1 ex_rSign fun _=>(zk3 (riOf p)).post (by rw [zdt])
theorem rof_z {n:Int}(h0 : -9223372036854775808≤n)(h1:n<9223372036854775808):Cn Tryz.prog 197 [In n] (Zs 2 n):=(rof_c n h0 h1).wkp (zgx (zx9 zo))
theorem lz_tmod1 {p q:Int}(h:q≠0)(hq:lz q≤1000000000):lz (p.tmod q)≤1000000000:=Nat.le_trans (lz_tm h) hq
theorem gcd_tmod {X Y:Int}(h:Y≠0):Int.gcd Y (X.tmod Y)=Int.gcd X Y:=by
 show Nat.gcd Y.natAbs (X.tmod Y).natAbs=Nat.gcd X.natAbs Y.natAbs
 rw [zhk,Nat.gcd_comm X.natAbs,Nat.gcd_comm,← Nat.gcd_rec]
theorem zk6 (p q:Int)(hp:lz p≤1000000000)(hq:lz q≤1000000000):Cn Tryz.prog 195 [Zi p,Zi q] (Zi ((Int.gcd p q:Nat):Int)):=by
 refine Cn.intro Tryz.func195 rfl zk nq (fun B w0 a O=>?_)
 have O:=zn [(0,Zi p),(1,Zi q)] [] O
 refine wp_seq<|zg [] [⟨2,25,ptrH,some 0,_,none⟩,⟨3,25,ptrH,some 1,_,none⟩,⟨4,25,ptrH,some 2,_,none⟩] [.alc 0,.alc 1,.alc 2] [] O (oc (zam rfl rfl rfl (gq 0 rfl)) (oc (zam rfl rfl rfl (gq 1 rfl)) (oc (zas rfl rfl rfl (Str.zero zbo)) o0))) (zz [] [⟨2,25,ptrH,_⟩,⟨3,25,ptrH,_⟩,⟨4,25,ptrH,_⟩] fun a w O=>?_)
 refine zt<|wp_seq<|zgd [[],[0],[],[0,1,2],[0,1,2,3]] [none,none,none] [] [.v 7 _,.v 8 _,.v 9 _,.v 10 _,.v 11 _] [.o 4] za6 O (zv rfl (zaq (lz0 0 rfl) zac) (zv rfl (za5 (xs:=[.tmp 7]) (zpr p hp) (.cons (vq 0 rfl) .nil)) (zv rfl (zaq (lz0 1 rfl) zac) (zv rfl (za5 (xs:=[.tmp 9]) (zpr q hq) (.cons (vq 2 rfl) .nil)) (zv rfl (zb1 (vq 1 rfl) (vq 3 rfl)) o0))))) zk zk zk zk (zz [(11,_)] [⟨2,25,ptrH,_⟩,⟨3,25,ptrH,_⟩,⟨4,25,ptrH,_⟩] fun a w O=>?_)
 refine za0<|zcn (fun a w=>∃ X Y:Int,(lz X≤1000000000∧lz Y≤1000000000∧Int.gcd X Y=Int.gcd p q)∧St B w0 33 [] [⟨2,25,ptrH,RIA (riOf X)⟩,⟨3,25,ptrH,RIA (riOf Y)⟩,⟨4,25,ptrH,cat [BoA false,MgA []]⟩] a w) O (zm 0 rfl) (fun hb0=>?_) (fun hb0=>?_) (fun a w O=>?_)
 ·refine zg [some (2,_),some (3,_),none] [] [.v 12 _,.v 13 _,.sto 0,.sto 1] [] O (zv rfl (zaq (lz0 1 rfl) zac) (zv rfl (zaq (lz0 0 rfl) zac) (oc (zak rfl rfl rfl (vq 0 rfl) zac (Eq.trans (b:=2) rfl rfl)) (oc (zak rfl rfl rfl (vq 1 rfl) zac (Eq.trans (b:=2) rfl rfl)) o0)))) (zz [] [⟨2,25,ptrH,_⟩,⟨3,25,ptrH,_⟩,⟨4,25,ptrH,_⟩] fun a w O=>?_)
  refine za0 ?_
  have O:=St.sel O []
  exact ⟨q,p,⟨hq,hp,Int.gcd_comm q p⟩,O⟩
 ·refine wp_skip<|za0 ?_
  have O:=St.sel O []
  exact ⟨p,q,⟨hp,hq,rfl⟩,O⟩
 obtain ⟨X,Y,⟨hX,hY,hg⟩,O⟩:=O
 refine zt<|wp_seq<|zg [none,none,none] [] [.v 14 _,.v 15 _,.v 16 _] [.o 2] O (zv rfl (zaq (lz0 1 rfl) zac) (zv rfl (za5 (xs:=[.tmp 14]) ((zk3 (riOf Y)).post (by rw [zdt])) (.cons (vq 0 rfl) .nil)) (zv rfl (zca (vq 1 rfl) za3) o0))) (zz [(16,_)] [⟨2,25,ptrH,_⟩,⟨3,25,ptrH,_⟩,⟨4,25,ptrH,_⟩] fun a w O=>?_)
 refine za0<|za8 O (zm 0 rfl) (fun hb1=>?_) (fun hb1=>?_)
 ·refine wp_seq<|zg [none,none,some (3,_)] [] [.v 17 _,.v 18 _,.v 19 _,.sto 2] [] O (zv rfl (zaq (lz0 0 rfl) zac) (zv rfl (zaq (lz0 1 rfl) zac) (zv rfl (za5 (xs:=[.tmp 17,.tmp 18]) (zlr X Y hX hY) (.cons (vq 0 rfl) (.cons (vq 1 rfl) .nil))) (oc (zak rfl rfl rfl (vq 2 rfl) zac (Eq.trans (b:=2) rfl rfl)) o0)))) (zz [] [⟨2,25,ptrH,_⟩,⟨3,25,ptrH,_⟩,⟨4,25,ptrH,_⟩] fun a w O=>?_)
  refine za0<|wp_ret<|zag ?_
  refine zai ?_ (zaj rfl O (zm 2 rfl) zac)
  exact zbt (congrArg (fun n:Nat=>Zi (n:Int)) hg)
 ·have hY0:Y≠0:=fun e=>by rw [e] at hb1; exact absurd hb1 zd
  refine wp_skip<|zt<|zg [none,none,none] [⟨5,25,ptrH,some 6,_,some (8,_)⟩,⟨6,25,ptrH,some 7,_,some (9,_)⟩] [.v 21 _,.v 22 _,.v 23 _,.v 20 _,.v 24 _,.v 25 _,.alc 3,.alc 4,.sto 3,.sto 4] [] O (zv rfl (zaq (lz0 0 rfl) zac) (zv rfl (zaq (lz0 1 rfl) zac) (zv rfl (za5 (xs:=[.tmp 21,.tmp 22]) (zlq X Y hY0 hX hY) (.cons (vq 0 rfl) (.cons (vq 1 rfl) .nil))) (zv rfl (za1 (vq 2 rfl)) (zv rfl (zb4 (vq 3 rfl) rfl) (zv rfl (zb4 (vq 3 rfl) rfl) (oc (zas rfl rfl rfl (Str.zero zbo)) (oc (zas rfl rfl rfl (Str.zero zbo)) (oc (zak rfl rfl rfl (vq 4 rfl) zac (Eq.trans (b:=2) rfl rfl)) (oc (zak rfl rfl rfl (vq 5 rfl) zac (Eq.trans (b:=2) rfl rfl)) o0)))))))))) (zz [] [⟨2,25,ptrH,_⟩,⟨3,25,ptrH,_⟩,⟨4,25,ptrH,_⟩,⟨5,25,ptrH,_⟩,⟨6,25,ptrH,_⟩] fun a w O=>?_)
  refine zt<|wp_seq<|zg [none,none,none,none,none] [] [.v 26 _,.v 27 _,.v 28 _] [.o 2] O (zv rfl (zaq (lz0 1 rfl) zac) (zv rfl (za5 (xs:=[.tmp 26]) (zpr Y hY) (.cons (vq 0 rfl) .nil)) (zv rfl (zca (vq 1 rfl) za3) o0))) (zz [(28,_)] [⟨2,25,ptrH,_⟩,⟨3,25,ptrH,_⟩,⟨4,25,ptrH,_⟩,⟨5,25,ptrH,_⟩,⟨6,25,ptrH,_⟩] fun a w O=>?_)
  refine za0<|za8 O (zm 0 rfl) (fun hb2=>?_) (fun hb2=>?_)
  ·have h1:Y.natAbs=1:=bitF_one (by have:=beq_iff_eq.1 hb2; omega)
   refine wp_seq<|zg [none,none,some (1,_),none,none] [] [.v 29 _,.sto 2] [] O (zv rfl (za5 (xs:=[.const (.int .i64 (1))]) (rof_c 1 zd zd) (.cons za3 .nil)) (oc (zak rfl rfl rfl (vq 0 rfl) zac (Eq.trans (b:=2) rfl rfl)) o0)) (zz [] [⟨2,25,ptrH,_⟩,⟨3,25,ptrH,_⟩,⟨4,25,ptrH,_⟩,⟨5,25,ptrH,_⟩,⟨6,25,ptrH,_⟩] fun a w O=>?_)
   refine za0<|wp_ret<|zag ?_
   refine zai ?_ (zaj rfl O (zm 2 rfl) zac)
   exact zbt (congrArg (fun n:Nat=>Zi (n:Int)) (show 1=Int.gcd p q by rw [← hg]; show 1=Nat.gcd X.natAbs Y.natAbs; rw [h1,Nat.gcd_one_right]))
  ·refine wp_skip<|zt<|zg [none,none,some (3,_),none,none] [] [.v 30 _,.v 31 _,.v 32 _,.sto 2] [] O (zv rfl (zaq (lz0 1 rfl) zac) (zv rfl (zaq (lz0 4 rfl) zac) (zv rfl (za5 (xs:=[.tmp 30,.tmp 31]) (zlr Y (X.tmod Y) hY (lz_tmod1 hY0 hY)) (.cons (vq 0 rfl) (.cons (vq 1 rfl) .nil))) (oc (zak rfl rfl rfl (vq 2 rfl) zac (Eq.trans (b:=2) rfl rfl)) o0)))) (zz [] [⟨2,25,ptrH,_⟩,⟨3,25,ptrH,_⟩,⟨4,25,ptrH,_⟩,⟨5,25,ptrH,_⟩,⟨6,25,ptrH,_⟩] fun a w O=>?_)
   refine za0<|wp_ret<|zai ?_ (zaj rfl O (zm 2 rfl) zac)
   exact zbt (congrArg (fun n:Nat=>Zi (n:Int)) ((gcd_tmod hY0).trans hg))
theorem zqi : ∃ fn, Tryz.prog.funcs[195]? = some fn ∧ (fn.name == "runtime.NumGoroutine") = false ∧ fn.body.isNone = false := ⟨_, Tryz.func195, by kernel_rfl, by kernel_rfl⟩
theorem ztr {a b:Nat}{p q:Int}(ha:a≤1000000000)(hb:b≤1000000000):Cn Tryz.prog 195 [Zs a p,Zs b q] (Zs (max a b) ((Int.gcd p q:Nat):Int)):=zs2 zqi fun h h'=>(zk6 p q zo zo).wkp (zgx (by have:=zxa p q; omega))
theorem zge {c d:Nat}{p q:Int}(hc:c≤1000000000)(hd:d≤1000000000)(hq:q≠0):Cn Tryz.prog 175 [Zs c p,Zs d q] (Qs (max c d) (Rat.divInt p q)):=by
 have hg0:0<Int.gcd p q:=Int.gcd_pos_of_ne_zero_right p hq
 obtain ⟨hn1,hn2⟩:=zn4 (p:=p) hq
 refine Cn.intro Tryz.func175 rfl zk nq (fun B w0 a O=>?_)
 have O:=zn [(0,Zs c p),(1,Zs d q)] [] O
 refine wp_seq<|zg [] [⟨2,25,ptrH,some 0,_,none⟩,⟨3,25,ptrH,some 1,_,none⟩,⟨4,27,ptrH,some 2,_,none⟩] [.alc 0,.alc 1,.alc 2] [] O (oc (zam rfl rfl rfl (gq 0 rfl)) (oc (zam rfl rfl rfl (gq 1 rfl)) (oc (zas rfl rfl rfl (Str.zero zbe)) o0))) (zz [] [⟨2,25,ptrH,_⟩,⟨3,25,ptrH,_⟩,⟨4,27,ptrH,_⟩] fun a w O=>?_)
 refine zt<|zg [none,none,none] [⟨5,25,ptrH,some 3,_,some (4,_)⟩] [.v 10 _,.v 11 _,.v 12 _,.alc 3,.sto 3] [] O (zv rfl (zaq (lz0 0 rfl) zac) (zv rfl (zaq (lz0 1 rfl) zac) (zv rfl (za5 (xs:=[.tmp 10,.tmp 11]) (ztr zo zo) (.cons (vq 0 rfl) (.cons (vq 1 rfl) .nil))) (oc (zas rfl rfl rfl (Str.zero zbo)) (oc (zak rfl rfl rfl (vq 2 rfl) zac (Eq.trans (b:=2) rfl rfl)) o0))))) (zz [] [⟨2,25,ptrH,_⟩,⟨3,25,ptrH,_⟩,⟨4,27,ptrH,_⟩,⟨5,25,ptrH,_⟩] fun a w O=>?_)
 refine zt<|zg [none,none,none,none] [⟨6,25,ptrH,some 6,_,some (8,_)⟩,⟨7,25,ptrH,some 7,_,some (9,_)⟩] [.v 14 _,.v 15 _,.v 16 _,.v 13 _,.v 17 _,.v 18 _,.alc 4,.alc 5,.sto 4,.sto 5] [] O (zv rfl (zaq (lz0 0 rfl) zac) (zv rfl (zaq (lz0 3 rfl) zac) (zv rfl (za5 (xs:=[.tmp 14,.tmp 15]) (zoh zo zo zo) (.cons (vq 0 rfl) (.cons (vq 1 rfl) .nil))) (zv rfl (za1 (vq 2 rfl)) (zv rfl (zb4 (vq 3 rfl) rfl) (zv rfl (zb4 (vq 3 rfl) rfl) (oc (zas rfl rfl rfl (Str.zero zbo)) (oc (zas rfl rfl rfl (Str.zero zbo)) (oc (zak rfl rfl rfl (vq 4 rfl) zac (Eq.trans (b:=2) rfl rfl)) (oc (zak rfl rfl rfl (vq 5 rfl) zac (Eq.trans (b:=2) rfl rfl)) o0)))))))))) (zz [] [⟨2,25,ptrH,_⟩,⟨3,25,ptrH,_⟩,⟨4,27,ptrH,_⟩,⟨5,25,ptrH,_⟩,⟨6,25,ptrH,_⟩,⟨7,25,ptrH,_⟩] fun a w O=>?_)
 refine zt<|zg [none,none,none,none,none,none] [⟨8,25,ptrH,some 6,_,some (8,_)⟩,⟨9,25,ptrH,some 7,_,some (9,_)⟩] [.v 20 _,.v 21 _,.v 22 _,.v 19 _,.v 23 _,.v 24 _,.alc 6,.alc 7,.sto 6,.sto 7] [] O (zv rfl (zaq (lz0 1 rfl) zac) (zv rfl (zaq (lz0 3 rfl) zac) (zv rfl (za5 (xs:=[.tmp 20,.tmp 21]) (zoh zo zo zo) (.cons (vq 0 rfl) (.cons (vq 1 rfl) .nil))) (zv rfl (za1 (vq 2 rfl)) (zv rfl (zb4 (vq 3 rfl) rfl) (zv rfl (zb4 (vq 3 rfl) rfl) (oc (zas rfl rfl rfl (Str.zero zbo)) (oc (zas rfl rfl rfl (Str.zero zbo)) (oc (zak rfl rfl rfl (vq 4 rfl) zac (Eq.trans (b:=2) rfl rfl)) (oc (zak rfl rfl rfl (vq 5 rfl) zac (Eq.trans (b:=2) rfl rfl)) o0)))))))))) (zz [] [⟨2,25,ptrH,_⟩,⟨3,25,ptrH,_⟩,⟨4,27,ptrH,_⟩,⟨5,25,ptrH,_⟩,⟨6,25,ptrH,_⟩,⟨7,25,ptrH,_⟩,⟨8,25,ptrH,_⟩,⟨9,25,ptrH,_⟩] fun a w O=>?_)
 refine zt<|wp_seq<|zg [none,none,none,none,none,none,none,none] [] [.v 25 _,.v 26 _,.v 27 _] [.o 2] O (zv rfl (zaq (lz0 6 rfl) zac) (zv rfl (za5 (xs:=[.tmp 25]) zvz (.cons (vq 0 rfl) .nil)) (zv rfl (zb1 (vq 1 rfl) za3) o0))) (zz [(27,_)] [⟨2,25,ptrH,_⟩,⟨3,25,ptrH,_⟩,⟨4,27,ptrH,_⟩,⟨5,25,ptrH,_⟩,⟨6,25,ptrH,_⟩,⟨7,25,ptrH,_⟩,⟨8,25,ptrH,_⟩,⟨9,25,ptrH,_⟩] fun a w O=>?_)
 refine za0<|za8 O (zm 0 rfl) (fun hb0=>?_) (fun hb0=>?_)
 ·refine wp_seq<|zgd [[],[0],[],[0,1,2],[0,1,2,3],[0,1,2,3,4]] [none,none,some (5,_),none,none,none,none,none] [] [.v 28 _,.v 29 _,.v 30 _,.v 31 _,.v 32 _,.sto 2] [] za6 O (zv rfl (zaq (lz0 4 rfl) zac) (zv rfl (za5 (xs:=[.tmp 28]) (zif zo) (.cons (vq 0 rfl) .nil)) (zv rfl (zaq (lz0 6 rfl) zac) (zv rfl (za5 (xs:=[.tmp 30]) (zif zo) (.cons (vq 2 rfl) .nil)) (zv rfl (zbg (xs:=[(0,.tmp 29),(1,.tmp 31)]) (qs:=[(0,_),(1,_)]) zbe (.cons ⟨rfl,(vq 1 rfl),rfl⟩ (.cons ⟨rfl,(vq 3 rfl),rfl⟩ .nil))) (oc (zak rfl rfl rfl (vq 4 rfl) zar (Eq.trans (b:=4) rfl rfl)) o0)))))) zk zk zk zk (zz [] [⟨2,25,ptrH,_⟩,⟨3,25,ptrH,_⟩,⟨4,27,ptrH,_⟩,⟨5,25,ptrH,_⟩,⟨6,25,ptrH,_⟩,⟨7,25,ptrH,_⟩,⟨8,25,ptrH,_⟩,⟨9,25,ptrH,_⟩] fun a w O=>?_)
  refine za0<|wp_ret<|zag ?_
  refine zai ?_ (zaj rfl O (zm 2 rfl) zar)
  rw [if_pos (zpo hb0)] at hn1 hn2; rw [hn1,hn2]; exact (zc1 (.cons (zfv (Nat.le_max_left _ _)) (.cons (zfv (Nat.le_max_right _ _)) .nil))).va
 ·refine wp_skip<|zt<|zg [none,none,some (3,_),none,none,none,none,none] [] [.v 33 _,.v 34 _,.v 35 _,.sto 2] [] O (zv rfl (zaq (lz0 4 rfl) zac) (zv rfl (zaq (lz0 6 rfl) zac) (zv rfl (zbg (xs:=[(0,.tmp 33),(1,.tmp 34)]) (qs:=[(0,_),(1,_)]) zbe (.cons ⟨rfl,(vq 0 rfl),rfl⟩ (.cons ⟨rfl,(vq 1 rfl),rfl⟩ .nil))) (oc (zak rfl rfl rfl (vq 2 rfl) zar (Eq.trans (b:=4) rfl rfl)) o0)))) (zz [] [⟨2,25,ptrH,_⟩,⟨3,25,ptrH,_⟩,⟨4,27,ptrH,_⟩,⟨5,25,ptrH,_⟩,⟨6,25,ptrH,_⟩,⟨7,25,ptrH,_⟩,⟨8,25,ptrH,_⟩,⟨9,25,ptrH,_⟩] fun a w O=>?_)
  refine za0<|wp_ret<|zai ?_ (zaj rfl O (zm 2 rfl) zar)
  rw [if_neg (zvo hb0)] at hn1 hn2; rw [hn1,hn2]; exact (zc1 (.cons (zfv (Nat.le_max_left _ _)) (.cons (zfv (Nat.le_max_right _ _)) .nil))).va
theorem ze5  : Cn Tryz.prog 173 [] (Qs 2 0):=by
 refine Cn.intro Tryz.func173 rfl zk nq (fun B w0 a O=>?_)
 have O:=zn [] [] O
 refine wp_seq<|zg [] [⟨0,27,ptrH,some 0,_,none⟩] [.alc 0] [] O (oc (zas rfl rfl rfl (Str.zero zbe)) o0) (zz [] [⟨0,27,ptrH,_⟩] fun a w O=>?_)
 refine zt<|zg [some (2,_)] [] [.v 1 _,.v 2 _,.sto 0] [] O (zv rfl (za5 (xs:=[.const (.int .i64 (1))]) (rof_z zd zd) (.cons za3 .nil)) (zv rfl (zbg (xs:=[(1,.tmp 1)]) (qs:=[(1,_)]) zbe (.cons ⟨rfl,(vq 0 rfl),rfl⟩ .nil)) (oc (zak rfl rfl rfl (vq 1 rfl) zar (Eq.trans (b:=4) rfl rfl)) o0))) (zz [] [⟨0,27,ptrH,_⟩] fun a w O=>?_)
 refine za0<|wp_ret<|zai ?_ (zaj rfl O (zm 0 rfl) zar)
 exact q0_wk.va
theorem zwf {p q:Int}(hp : -9223372036854775808≤p)(hp1:p<9223372036854775808)(hq : -9223372036854775808≤q)(hq1:q<9223372036854775808)(h0:q≠0):Cn Tryz.prog 199 [In p,In q] (Qs 2 (Rat.divInt p q)):=by
 refine Cn.intro Tryz.func199 rfl zk nq (fun B w0 a O=>?_)
 have O:=zn [(0,In p),(1,In q)] [] O
 refine wp_seq<|zg [] [⟨4,27,ptrH,some 0,_,none⟩] [.alc 0] [.g 0,.g 1] O (oc (zas rfl rfl rfl (Str.zero zbe)) o0) (zz [(0,_),(1,_)] [⟨4,27,ptrH,_⟩] fun a w O=>?_)
 refine zt<|zg [some (5,_)] [] [.v 5 _,.v 6 _,.v 7 _,.v 8 _,.v 9 _,.sto 0] [] O (zv rfl (za1 (gq 0 rfl)) (zv rfl (za5 (xs:=[.tmp 5]) (rof_z hp hp1) (.cons (vq 0 rfl) .nil)) (zv rfl (za1 (gq 1 rfl)) (zv rfl (za5 (xs:=[.tmp 7]) (rof_z hq hq1) (.cons (vq 2 rfl) .nil)) (zv rfl (za5 (xs:=[.tmp 6,.tmp 8]) (zge zo zo h0) (.cons (vq 1 rfl) (.cons (vq 3 rfl) .nil))) (oc (zak rfl rfl rfl (vq 4 rfl) zar (Eq.trans (b:=4) rfl rfl)) o0)))))) (zz [] [⟨4,27,ptrH,_⟩] fun a w O=>?_)
 refine za0<|wp_ret<|zai ?_ (zaj rfl O (zm 0 rfl) zar)
 exact zbn
theorem zig  : Cn Tryz.prog 171 [] (Qs 2 1):=by
 refine Cn.intro Tryz.func171 rfl zk nq (fun B w0 a O=>?_)
 have O:=zn [] [] O
 refine wp_seq<|zg [] [⟨0,27,ptrH,some 0,_,none⟩] [.alc 0] [] O (oc (zas rfl rfl rfl (Str.zero zbe)) o0) (zz [] [⟨0,27,ptrH,_⟩] fun a w O=>?_)
 refine zt<|zg [some (1,_)] [] [.v 1 _,.sto 0] [] O (zv rfl (za5 (xs:=[.const (.int .i64 (1)),.const (.int .i64 (1))]) (zwf zd zd zd zd zd) (.cons za3 (.cons za3 .nil))) (oc (zak rfl rfl rfl (vq 0 rfl) zar (Eq.trans (b:=4) rfl rfl)) o0)) (zz [] [⟨0,27,ptrH,_⟩] fun a w O=>?_)
 refine za0<|wp_ret<|zai ?_ (zaj rfl O (zm 0 rfl) zar)
 exact zbt (congrArg (Qs 2) (show Rat.divInt 1 1=1 from rfl))
theorem zml {c d:Nat}{x y:Rat}(hc:c+d≤900000000):Cn Tryz.prog 169 [Qs c x,Qs d y] (Qs (c+d+1) (x+y)):=by
 refine Cn.intro Tryz.func169 rfl zk nq (fun B w0 a O=>?_)
 have O:=zn [(0,Qs c x),(1,Qs d y)] [] O
 refine wp_seq<|zg [] [⟨2,27,ptrH,some 0,_,none⟩,⟨3,27,ptrH,some 1,_,none⟩,⟨4,27,ptrH,some 2,_,none⟩] [.alc 0,.alc 1,.alc 2] [] O (oc (zam rfl rfl rfl (gq 0 rfl)) (oc (zam rfl rfl rfl (gq 1 rfl)) (oc (zas rfl rfl rfl (Str.zero zbe)) o0))) (zz [] [⟨2,27,ptrH,_⟩,⟨3,27,ptrH,_⟩,⟨4,27,ptrH,_⟩] fun a w O=>?_)
 refine zt<|zgd [[],[0],[],[2],[0,1,2,3],[],[5],[],[7],[0,1,2,3,4,5,6,7,8],[0,1,2,3,4,5,6,7,8,9],[],[0,1,2,3,4,5,6,7,8,9,10,11]] [none,none,none] [⟨5,25,ptrH,some 11,_,some (12,_)⟩] [.adr 6 2 (.some 0) True,.v 7 _,.adr 8 3 (.some 2) True,.v 9 _,.v 10 _,.adr 11 3 (.some 0) True,.v 12 _,.adr 13 2 (.some 2) True,.v 14 _,.v 15 _,.v 16 _,.alc 3,.sto 3] [] za6 O (oc (ob_a rfl rfl (za9 (lz0 0 rfl) zbf)) (zv rfl (za4 0 rfl zk trivial (lz0 0 rfl) (Sub.part 0 rfl rfl) zac) (oc (ob_a rfl rfl (za9 (lz0 1 rfl) zbb)) (zv rfl (za4 2 rfl zk trivial (lz0 1 rfl) (Sub.part 1 rfl rfl) zac) (zv rfl (za5 (xs:=[.tmp 7,.tmp 9]) (zf9 zo zo) (.cons (vq 1 rfl) (.cons (vq 3 rfl) .nil))) (oc (ob_a rfl rfl (za9 (lz0 1 rfl) zbf)) (zv rfl (za4 5 rfl zk trivial (lz0 1 rfl) (Sub.part 0 rfl rfl) zac) (oc (ob_a rfl rfl (za9 (lz0 0 rfl) zbb)) (zv rfl (za4 7 rfl zk trivial (lz0 0 rfl) (Sub.part 1 rfl rfl) zac) (zv rfl (za5 (xs:=[.tmp 12,.tmp 14]) (zf9 zo zo) (.cons (vq 6 rfl) (.cons (vq 8 rfl) .nil))) (zv rfl (za5 (xs:=[.tmp 10,.tmp 15]) (rplus_z zo zo) (.cons (vq 4 rfl) (.cons (vq 9 rfl) .nil))) (oc (zas rfl rfl rfl (Str.zero zbo)) (oc (zak rfl rfl rfl (vq 10 rfl) zac (Eq.trans (b:=2) rfl rfl)) o0))))))))))))) zk zk zk zk (zz [] [⟨2,27,ptrH,_⟩,⟨3,27,ptrH,_⟩,⟨4,27,ptrH,_⟩,⟨5,25,ptrH,_⟩] fun a w O=>?_)
 refine zt<|zgd [[],[],[1],[],[3],[1,2,3,4],[0,1,2,3,4,5],[0,1,2,3,4,5,6]] [none,none,some (7,_),none] [] [.v 17 _,.adr 18 2 (.some 2) True,.v 19 _,.adr 20 3 (.some 2) True,.v 21 _,.v 22 _,.v 23 _,.sto 2] [] za6 O (zv rfl (zaq (lz0 3 rfl) zac) (oc (ob_a rfl rfl (za9 (lz0 0 rfl) zbb)) (zv rfl (za4 1 rfl zk trivial (lz0 0 rfl) (Sub.part 1 rfl rfl) zac) (oc (ob_a rfl rfl (za9 (lz0 1 rfl) zbb)) (zv rfl (za4 3 rfl zk trivial (lz0 1 rfl) (Sub.part 1 rfl rfl) zac) (zv rfl (za5 (xs:=[.tmp 19,.tmp 21]) (zf9 zo zo) (.cons (vq 2 rfl) (.cons (vq 4 rfl) .nil))) (zv rfl (za5 (xs:=[.tmp 17,.tmp 22]) (zge zo zo (den_nz x y)) (.cons (vq 0 rfl) (.cons (vq 5 rfl) .nil))) (oc (zak rfl rfl rfl (vq 6 rfl) zar (Eq.trans (b:=4) rfl rfl)) o0)))))))) zk zk zk zk (zz [] [⟨2,27,ptrH,_⟩,⟨3,27,ptrH,_⟩,⟨4,27,ptrH,_⟩,⟨5,25,ptrH,_⟩] fun a w O=>?_)
 refine za0<|wp_ret<|zai ?_ (zaj rfl O (zm 2 rfl) zar)
 exact zc6 (zbt (congrArg (Qs _) (zpv x y))) (zbp zo).va
theorem zk5 {c d:Nat}{x y:Rat}(hc:c+d≤900000000):Cn Tryz.prog 112 [Qs c x,Qs d y] (Qs (c+d) (x*y)):=by
 refine Cn.intro Tryz.func112 rfl zk nq (fun B w0 a O=>?_)
 have O:=zn [(0,Qs c x),(1,Qs d y)] [] O
 refine wp_seq<|zg [] [⟨2,27,ptrH,some 0,_,none⟩,⟨3,27,ptrH,some 1,_,none⟩,⟨4,27,ptrH,some 2,_,none⟩] [.alc 0,.alc 1,.alc 2] [] O (oc (zam rfl rfl rfl (gq 0 rfl)) (oc (zam rfl rfl rfl (gq 1 rfl)) (oc (zas rfl rfl rfl (Str.zero zbe)) o0))) (zz [] [⟨2,27,ptrH,_⟩,⟨3,27,ptrH,_⟩,⟨4,27,ptrH,_⟩] fun a w O=>?_)
 refine zt<|zgd [[],[0],[],[2],[0,1,2,3],[],[5],[],[7],[0,1,2,3,4,5,6,7,8],[0,1,2,3,4,5,6,7,8,9],[0,1,2,3,4,5,6,7,8,9,10]] [none,none,some (11,_)] [] [.adr 5 2 (.some 0) True,.v 6 _,.adr 7 3 (.some 0) True,.v 8 _,.v 9 _,.adr 10 2 (.some 2) True,.v 11 _,.adr 12 3 (.some 2) True,.v 13 _,.v 14 _,.v 15 _,.sto 2] [] za6 O (oc (ob_a rfl rfl (za9 (lz0 0 rfl) zbf)) (zv rfl (za4 0 rfl zk trivial (lz0 0 rfl) (Sub.part 0 rfl rfl) zac) (oc (ob_a rfl rfl (za9 (lz0 1 rfl) zbf)) (zv rfl (za4 2 rfl zk trivial (lz0 1 rfl) (Sub.part 0 rfl rfl) zac) (zv rfl (za5 (xs:=[.tmp 6,.tmp 8]) (zf9 zo zo) (.cons (vq 1 rfl) (.cons (vq 3 rfl) .nil))) (oc (ob_a rfl rfl (za9 (lz0 0 rfl) zbb)) (zv rfl (za4 5 rfl zk trivial (lz0 0 rfl) (Sub.part 1 rfl rfl) zac) (oc (ob_a rfl rfl (za9 (lz0 1 rfl) zbb)) (zv rfl (za4 7 rfl zk trivial (lz0 1 rfl) (Sub.part 1 rfl rfl) zac) (zv rfl (za5 (xs:=[.tmp 11,.tmp 13]) (zf9 zo zo) (.cons (vq 6 rfl) (.cons (vq 8 rfl) .nil))) (zv rfl (za5 (xs:=[.tmp 9,.tmp 14]) (zge zo zo (den_nz x y)) (.cons (vq 4 rfl) (.cons (vq 9 rfl) .nil))) (oc (zak rfl rfl rfl (vq 10 rfl) zar (Eq.trans (b:=4) rfl rfl)) o0)))))))))))) zk zk zk zk (zz [] [⟨2,27,ptrH,_⟩,⟨3,27,ptrH,_⟩,⟨4,27,ptrH,_⟩] fun a w O=>?_)
 refine za0<|wp_ret<|zai ?_ (zaj rfl O (zm 2 rfl) zar)
 exact zc6 (zbt (congrArg (Qs _) (zpt x y))) (zbp zo).va
theorem r2over_q {c d:Nat}{x y:Rat}(hc:c+d≤900000000)(h0:y≠0):Cn Tryz.prog 111 [Qs c x,Qs d y] (Qs (c+d) (x/y)):=by
 refine Cn.intro Tryz.func111 rfl zk nq (fun B w0 a O=>?_)
 have O:=zn [(0,Qs c x),(1,Qs d y)] [] O
 refine wp_seq<|zg [] [⟨2,27,ptrH,some 0,_,none⟩,⟨3,27,ptrH,some 1,_,none⟩,⟨4,27,ptrH,some 2,_,none⟩] [.alc 0,.alc 1,.alc 2] [] O (oc (zam rfl rfl rfl (gq 0 rfl)) (oc (zam rfl rfl rfl (gq 1 rfl)) (oc (zas rfl rfl rfl (Str.zero zbe)) o0))) (zz [] [⟨2,27,ptrH,_⟩,⟨3,27,ptrH,_⟩,⟨4,27,ptrH,_⟩] fun a w O=>?_)
 refine zt<|zgd [[],[0],[],[2],[0,1,2,3],[],[5],[],[7],[0,1,2,3,4,5,6,7,8],[0,1,2,3,4,5,6,7,8,9],[0,1,2,3,4,5,6,7,8,9,10]] [none,none,some (11,_)] [] [.adr 5 2 (.some 0) True,.v 6 _,.adr 7 3 (.some 2) True,.v 8 _,.v 9 _,.adr 10 2 (.some 2) True,.v 11 _,.adr 12 3 (.some 0) True,.v 13 _,.v 14 _,.v 15 _,.sto 2] [] za6 O (oc (ob_a rfl rfl (za9 (lz0 0 rfl) zbf)) (zv rfl (za4 0 rfl zk trivial (lz0 0 rfl) (Sub.part 0 rfl rfl) zac) (oc (ob_a rfl rfl (za9 (lz0 1 rfl) zbb)) (zv rfl (za4 2 rfl zk trivial (lz0 1 rfl) (Sub.part 1 rfl rfl) zac) (zv rfl (za5 (xs:=[.tmp 6,.tmp 8]) (zf9 zo zo) (.cons (vq 1 rfl) (.cons (vq 3 rfl) .nil))) (oc (ob_a rfl rfl (za9 (lz0 0 rfl) zbb)) (zv rfl (za4 5 rfl zk trivial (lz0 0 rfl) (Sub.part 1 rfl rfl) zac) (oc (ob_a rfl rfl (za9 (lz0 1 rfl) zbf)) (zv rfl (za4 7 rfl zk trivial (lz0 1 rfl) (Sub.part 0 rfl rfl) zac) (zv rfl (za5 (xs:=[.tmp 11,.tmp 13]) (zf9 zo zo) (.cons (vq 6 rfl) (.cons (vq 8 rfl) .nil))) (zv rfl (za5 (xs:=[.tmp 9,.tmp 14]) (zge zo zo (zwx x h0)) (.cons (vq 4 rfl) (.cons (vq 9 rfl) .nil))) (oc (zak rfl rfl rfl (vq 10 rfl) zar (Eq.trans (b:=4) rfl rfl)) o0)))))))))))) zk zk zk zk (zz [] [⟨2,27,ptrH,_⟩,⟨3,27,ptrH,_⟩,⟨4,27,ptrH,_⟩] fun a w O=>?_)
 refine za0<|wp_ret<|zai ?_ (zaj rfl O (zm 2 rfl) zar)
 exact zc6 (zbt (congrArg (Qs _) (zpu x y))) (zbp zo).va
theorem neg_wk {c:Nat}{x:Rat}:WkA (cat [ZA c (-x.num),ZA c (x.den:Int)]) (QA c (-x)):=zju (by unfold QA; rw [Rat.neg_num,Rat.neg_den])
theorem ztq {c:Nat}{x:Rat}(hc:c≤900000000):Cn Tryz.prog 219 [Qs c x] (Qs c (-x)):=by
 refine Cn.intro Tryz.func219 rfl zk nq (fun B w0 a O=>?_)
 have O:=zn [(0,Qs c x)] [] O
 refine wp_seq<|zg [] [⟨1,27,ptrH,some 0,_,none⟩,⟨2,27,ptrH,some 1,_,none⟩] [.alc 0,.alc 1] [] O (oc (zam rfl rfl rfl (gq 0 rfl)) (oc (zas rfl rfl rfl (Str.zero zbe)) o0)) (zz [] [⟨1,27,ptrH,_⟩,⟨2,27,ptrH,_⟩] fun a w O=>?_)
 refine zt<|zgd [[],[0],[0,1],[],[3],[0,1,2,3,4],[0,1,2,3,4,5]] [none,some (6,_)] [] [.adr 3 1 (.some 0) True,.v 4 _,.v 5 _,.adr 6 1 (.some 2) True,.v 7 _,.v 8 _,.sto 1] [] za6 O (oc (ob_a rfl rfl (za9 (lz0 0 rfl) zbf)) (zv rfl (za4 0 rfl zk trivial (lz0 0 rfl) (Sub.part 0 rfl rfl) zac) (zv rfl (za5 (xs:=[.tmp 4]) (zif zo) (.cons (vq 1 rfl) .nil)) (oc (ob_a rfl rfl (za9 (lz0 0 rfl) zbb)) (zv rfl (za4 3 rfl zk trivial (lz0 0 rfl) (Sub.part 1 rfl rfl) zac) (zv rfl (zbg (xs:=[(0,.tmp 5),(1,.tmp 7)]) (qs:=[(0,_),(1,_)]) zbe (.cons ⟨rfl,(vq 2 rfl),rfl⟩ (.cons ⟨rfl,(vq 4 rfl),rfl⟩ .nil))) (oc (zak rfl rfl rfl (vq 5 rfl) zar (Eq.trans (b:=4) rfl rfl)) o0))))))) zk zk zk zk (zz [] [⟨1,27,ptrH,_⟩,⟨2,27,ptrH,_⟩] fun a w O=>?_)
 refine za0<|wp_ret<|zai ?_ (zaj rfl O (zm 1 rfl) zar)
 exact neg_wk.va
theorem zwg {c d:Nat}{x y:Rat}(hc:c+d≤900000000):Cn Tryz.prog 200 [Qs c x,Qs d y] (Qs (c+d+1) (x-y)):=by
 refine Cn.intro Tryz.func200 rfl zk nq (fun B w0 a O=>?_)
 have O:=zn [(0,Qs c x),(1,Qs d y)] [] O
 refine wp_seq<|zg [] [⟨2,27,ptrH,some 0,_,none⟩,⟨3,27,ptrH,some 1,_,none⟩,⟨4,27,ptrH,some 2,_,none⟩] [.alc 0,.alc 1,.alc 2] [] O (oc (zam rfl rfl rfl (gq 0 rfl)) (oc (zam rfl rfl rfl (gq 1 rfl)) (oc (zas rfl rfl rfl (Str.zero zbe)) o0))) (zz [] [⟨2,27,ptrH,_⟩,⟨3,27,ptrH,_⟩,⟨4,27,ptrH,_⟩] fun a w O=>?_)
 refine zt<|zgd [[],[],[1],[0,1,2],[0,1,2,3]] [none,none,some (4,_)] [] [.v 5 _,.v 6 _,.v 7 _,.v 8 _,.sto 2] [] za6 O (zv rfl (zaq (lz0 0 rfl) zar) (zv rfl (zaq (lz0 1 rfl) zar) (zv rfl (za5 (xs:=[.tmp 6]) (ztq zo) (.cons (vq 1 rfl) .nil)) (zv rfl (za5 (xs:=[.tmp 5,.tmp 7]) (zml zo) (.cons (vq 0 rfl) (.cons (vq 2 rfl) .nil))) (oc (zak rfl rfl rfl (vq 3 rfl) zar (Eq.trans (b:=4) rfl rfl)) o0))))) zk zk zk zk (zz [] [⟨2,27,ptrH,_⟩,⟨3,27,ptrH,_⟩,⟨4,27,ptrH,_⟩] fun a w O=>?_)
 refine za0<|wp_ret<|zai ?_ (zaj rfl O (zm 2 rfl) zar)
 exact zbt (congrArg (Qs _) (show x + -y=x-y by grind))
theorem zjh {c:Nat}{x:Rat}:Cn Tryz.prog 166 [Qs c x] (In x.num.sign):=by
 refine Cn.intro Tryz.func166 rfl zk nq (fun B w0 a O=>?_)
 have O:=zn [(0,Qs c x)] [] O
 refine wp_seq<|zg [] [⟨1,27,ptrH,some 0,_,none⟩] [.alc 0,.v 2 _] [.o 1] O (oc (zam rfl rfl rfl (gq 0 rfl)) (zv rfl (za2 za3) o0)) (zz [(2,_)] [⟨1,27,ptrH,_⟩] fun a w O=>?_)
 refine zt<|zg [none] [] [.adr 3 1 (.some 0) True,.v 4 _,.v 5 _,.v 2 _] [.o 3] O (oc (ob_a rfl rfl (za9 (lz0 0 rfl) zbf)) (zv rfl (za4 0 rfl zk trivial (lz0 0 rfl) (Sub.part 0 rfl rfl) zac) (zv rfl (za5 (xs:=[.tmp 4]) zvz (.cons (vq 1 rfl) .nil)) (zv rfl (za2 (vq 2 rfl)) o0)))) (zz [(2,_)] [⟨1,27,ptrH,_⟩] fun a w O=>?_)
 refine za0<|wp_ret<|zai ?_ (zaf rfl O (zm 0 rfl))
 exact zbn
theorem rchk1 {g:Nat}(h:decide ((1:Int)<((g:Nat):Int))=true):g≠1:=by have:=of_decide_eq_true h; omega
theorem rchk2 {g:Nat}(h:decide ((1:Int)<((g:Nat):Int))=false)(h0:g≠0):g=1:=by have:=of_decide_eq_false h; omega
theorem zts (xn xd:RI):Cn Tryz.prog 168 [(RFA ⟨xn,xd⟩).va] (In (if okF ⟨xn,xd⟩ then 0 else 1)):=by
 refine Cn.intro Tryz.func168 rfl zk nq (fun B w0 a O=>?_)
 have O:=zn [(0,(RFA ⟨xn,xd⟩).va)] [] O
 have hok:=zmd (O.vals (0,(RFA ⟨xn,xd⟩).va) (zm 0 rfl))
 refine wp_seq<|zg [] [⟨1,27,ptrH,some 0,_,none⟩] [.alc 0,.v 2 _] [.o 1] O (oc (zam rfl rfl rfl (gq 0 rfl)) (zv rfl (za2 za3) o0)) (zz [(2,_)] [⟨1,27,ptrH,_⟩] fun a w O=>?_)
 refine zt<|wp_seq<|zg [none] [] [.adr 4 1 (.some 0) True,.v 5 _,.v 6 _,.v 7 _,.v 8 _,.adr 9 1 (.some 2) (_=false),.v 10 (Wh (_=false) _),.v 11 (Wh (_=false) _),.v 12 (Wh (_=false) _),.v 13 _,.v 14 _,.adr 15 1 (.some 2) (_=false),.v 16 (Wh (_=false) _),.v 17 (Wh (_=false) _),.v 18 (Wh (_=false) _),.v 19 _] [.g 0,.o 15] O (oc (ob_a rfl rfl (za9 (lz0 0 rfl) zbf)) (zv rfl (za4 0 rfl zk trivial (lz0 0 rfl) (Sub.part 0 rfl rfl) zac) (zv rfl (za5 (xs:=[.tmp 5]) (zrj _) (.cons (vq 1 rfl) .nil)) (zv rfl (zdw (vq 2 rfl) za3) (zv rfl (za1 (vq 3 rfl)) (oc (zce rfl rfl rfl (vq 4 rfl) nq (fun hg=>za9 (lz0 0 rfl) zbb)) (oc (zan rfl rfl rfl (vq 4 rfl) nq (fun hg=>za4 5 rfl zk hg (lz0 0 rfl) (Sub.part 1 rfl rfl) zac)) (oc (zan rfl rfl rfl (vq 4 rfl) nq (fun hg=>za5 (xs:=[.tmp 10]) (zrj _) (.cons (zab (vq 6 rfl) hg) .nil))) (oc (zan rfl rfl rfl (vq 4 rfl) nq (fun hg=>zdw (zab (vq 7 rfl) hg) za3)) (zv rfl (r_or (vq 4 rfl) (vq 8 rfl)) (zv rfl (za1 (vq 9 rfl)) (oc (zce rfl rfl rfl (vq 10 rfl) nq (fun hg=>za9 (lz0 0 rfl) zbb)) (oc (zan rfl rfl rfl (vq 10 rfl) nq (fun hg=>za4 11 rfl zk hg (lz0 0 rfl) (Sub.part 1 rfl rfl) zac)) (oc (zan rfl rfl rfl (vq 10 rfl) nq (fun hg=>za5 (xs:=[.tmp 16]) (zk3 _) (.cons (zab (vq 12 rfl) hg) .nil))) (oc (zan rfl rfl rfl (vq 10 rfl) nq (fun hg=>ztn (zab (vq 13 rfl) hg) za3)) (zv rfl (r_or (vq 10 rfl) (vq 14 rfl)) o0)))))))))))))))) (zz [(2,_),(19,_)] [⟨1,27,ptrH,_⟩] fun a w O=>?_)
 refine za0<|za8 O (zm 1 rfl) (fun hb0=>?_) (fun hb0=>?_)
 ·refine wp_seq<|zg [none] [] [.v 2 _] [.o 0] O (zv rfl (za2 za3) o0) (zz [(2,_)] [⟨1,27,ptrH,_⟩] fun a w O=>?_)
  refine za0<|wp_ret<|zag ?_
  refine zai ?_ (zaf rfl O (zm 0 rfl))
  exact zbt (congrArg In (chk_no hb0))
 ·rw [Bool.or_eq_false_iff,Bool.or_eq_false_iff] at hb0
  obtain ⟨p,rfl,hp⟩:=zlv hok.1 (ok1 hb0.1.1)
  obtain ⟨q,rfl,hq⟩:=zlv hok.2 (ok1 hb0.1.2)
  have hq0:0<sgI (riOf q):=by have h2:¬ sgI (riOf q)≤0:=of_decide_eq_false hb0.2; omega
  have hqn:q≠0:=fun e=>by rw [e,zdt] at hq0; exact absurd hq0 zd
  have hgn:Int.gcd p q≠0:=by have:=Int.gcd_pos_of_ne_zero_right p hqn; omega
  refine wp_skip<|zt<|zg [none] [⟨3,25,ptrH,some 5,_,some (6,_)⟩] [.adr 20 1 (.some 0) True,.v 21 _,.adr 22 1 (.some 2) True,.v 23 _,.v 24 _,.alc 1,.sto 1] [.g 0] O (oc (ob_a rfl rfl (za9 (lz0 0 rfl) zbf)) (zv rfl (za4 0 rfl zk trivial (lz0 0 rfl) (Sub.part 0 rfl rfl) zac) (oc (ob_a rfl rfl (za9 (lz0 0 rfl) zbb)) (zv rfl (za4 2 rfl zk trivial (lz0 0 rfl) (Sub.part 1 rfl rfl) zac) (zv rfl (za5 (xs:=[.tmp 21,.tmp 23]) (zk6 p q zo zo) (.cons (vq 1 rfl) (.cons (vq 3 rfl) .nil))) (oc (zas rfl rfl rfl (Str.zero zbo)) (oc (zak rfl rfl rfl (vq 4 rfl) zac (Eq.trans (b:=2) rfl rfl)) o0))))))) (zz [(2,_)] [⟨1,27,ptrH,_⟩,⟨3,25,ptrH,_⟩] fun a w O=>?_)
  refine zt<|wp_seq<|zgd [[],[],[0,1]] [none,none] [] [.v 25 _,.v 26 _,.v 27 _] [.g 0,.o 2] za6 O (zv rfl (za5 (xs:=[.const (.int .i64 (1))]) (rof_c 1 zd zd) (.cons za3 .nil)) (zv rfl (zaq (lz0 1 rfl) zac) (zv rfl (za5 (xs:=[.tmp 25,.tmp 26]) (rbelow_c _ _) (.cons (vq 0 rfl) (.cons (vq 1 rfl) .nil))) o0))) zk zk zk zk (zz [(2,_),(27,_)] [⟨1,27,ptrH,_⟩,⟨3,25,ptrH,_⟩] fun a w O=>?_)
  refine za0<|za8 O (zm 1 rfl) (fun hb1=>?_) (fun hb1=>?_)
  ·refine wp_seq<|zg [none,none] [] [.v 2 _] [.o 0] O (zv rfl (za2 za3) o0) (zz [(2,_)] [⟨1,27,ptrH,_⟩,⟨3,25,ptrH,_⟩] fun a w O=>?_)
   refine za0<|wp_ret<|zag ?_
   refine zai ?_ (zaf rfl O (zm 0 rfl))
   have e1:=rchk1 hb1; exact zbt (congrArg In (by rw [show okF ⟨riOf p,riOf q⟩=false from by unfold okF; rw [zbx,zbx]; simp [show ¬ Nat.gcd p.natAbs q.natAbs=1 from e1]]; rfl))
  ·refine wp_skip<|zt<|zg [none,none] [] [.v 2 _] [.o 0] O (zv rfl (za2 za3) o0) (zz [(2,_)] [⟨1,27,ptrH,_⟩,⟨3,25,ptrH,_⟩] fun a w O=>?_)
   refine za0<|wp_ret<|zai ?_ (zaf rfl O (zm 0 rfl))
   have e1:=rchk2 hb1 hgn; exact zbt (congrArg In (by rw [show okF ⟨riOf p,riOf q⟩=true from by unfold okF; rw [zbx,zbx,ok1 hb0.1.1,ok1 hb0.1.2]; simp [hq0,show Nat.gcd p.natAbs q.natAbs=1 from e1]]; rfl))
theorem zuj : ∃ fn, Tryz.prog.funcs[168]? = some fn ∧ (fn.name == "runtime.NumGoroutine") = false ∧ fn.body.isNone = false := ⟨_, Tryz.func168, by kernel_rfl, by kernel_rfl⟩
theorem zwh (x:RF):Cn Tryz.prog 168 [(RFA x).va] (In (if okX x then 0 else 1)) :=
 Cn.know (c:=okL x.num.mag∧okL x.den.mag) zuj (fun B w args ha=>by cases ha with | cons h1 _=>exact zmd h1) fun h=>(zts x.num x.den).post (by rw [zro h])
theorem zlt (xs:List RF)(hl:xs.length≤1099511627776):Cn Tryz.prog 107 [(SlA 27 [U32] (xs.map RFA)).va] (Bo (xs.all okX)):=by
 refine Cn.introW Tryz.func107 rfl zk nq (.cons (zpl (fun A hA=>by obtain ⟨x,_,rfl⟩:=List.mem_map.1 hA; exact zgr x)).va .nil) (zes _).va (fun B w0 a hB0 O=>?_)
 have O:=zn [(0,(SlO 27 [U32] (xs.map RFA) True).va)] [] O
 refine wp_seq<|zh [.v 2 _] [.g 0,.o 0] O (zv rfl (za2 zav) o0) (zz [(0,_),(2,_)] [] fun a w O=>?_)
 refine zt<|wp_seq<|zh [.v 3 _] [.g 0,.g 1,.o 0] O (zv rfl (za2 za3) o0) (zz [(0,_),(2,_),(3,_)] [] fun a w O=>?_)
 refine za0<|wp_block ?_
 have O:=St.sel O [0,2]
 refine wp_loop_ghost (fun n a w=>∃ j:Nat,(n+j=xs.length∧(xs.take j).all okX=true)∧St B w0 16 [(0,(SlO 27 [U32] (xs.map RFA) True).va),(3,In (j:Nat))] [] a w) (xs.length) ?_ ?_
 ·exact ⟨0,⟨by omega,rfl⟩,O⟩
 intro n a w hI
 obtain ⟨j,⟨hn,hno⟩,O⟩:=hI
 refine wp_seq<|wp_seq<|zh [.v 4 _,.v 5 _,.v 6 _,.v 7 _] [.g 0,.g 1,.o 3] O (zv rfl (za1 (gq 1 rfl)) (zv rfl (za1 (gq 0 rfl)) (zv rfl (zbk Tryz.underlying75 (zd7 (zaz (vq 1 rfl)))) (zv rfl (zb1 (vq 0 rfl) (vq 2 rfl)) o0)))) (zz [(0,_),(3,_),(7,_)] [] fun a w O=>?_)
 refine za0<|za8 O (zm 2 rfl) (fun hb0=>?_) (fun hb0=>?_)
 ·have hj:j<xs.length:=by simp at hb0; omega
  refine wp_skip<|zt<|wp_block<|wp_seq<|zh [.v 10 _,.v 11 _,.v 12 _,.v 13 _,.v 14 _,.v 15 _] [.g 0,.g 1,.o 5] O (zv rfl (za1 (gq 0 rfl)) (zv rfl (za1 (gq 1 rfl)) (zv rfl (zd0 zk1 (zgp fun _=>rfl) (zd7 (zaz (vq 0 rfl))) (vq 1 rfl) (ze1 hj)) (zv rfl (zad (vq 2 rfl) zar) (zv rfl (za5 (xs:=[.tmp 13]) (zwh _) (.cons (vq 3 rfl) .nil)) (zv rfl (zdw (vq 4 rfl) za3) o0)))))) (zz [(0,_),(3,_),(15,_)] [] fun a w O=>?_)
  refine za0<|za8 O (zm 2 rfl) (fun hb1=>?_) (fun hb1=>?_)
  ·refine wp_seq<|zh [.v 2 _] [.g 0,.g 1,.o 0] O (zv rfl (za2 zav) o0) (zz [(0,_),(3,_),(2,_)] [] fun a w O=>?_)
   refine za0<|wp_ret<|zba ?_
   refine zag ?_
   refine zag ?_
   refine zba ?_
   refine zag ?_
   refine zao ?_ (zaf rfl O (zm 2 rfl))
   rw [← ok_no hj hb1]
  ·refine wp_skip<|zae ?_
   refine za0<|zh [.v 8 _,.v 9 _,.v 3 _] [.g 0,.o 2] O (zv rfl (za1 (gq 1 rfl)) (zv rfl (zb5 (vq 0 rfl) za3 (zb3 zo)) (zv rfl (za2 (vq 1 rfl)) o0))) (zz [(0,_),(3,_)] [] fun a w O=>?_)
   refine za0 ?_
   have O:=St.sel O [0,1]
   exact ⟨n-1,by omega,j+1,⟨by omega,ok_yes hj hno hb1⟩,O⟩
 ·obtain rfl:j=xs.length:=by simp at hb0; omega
  refine wp_exit<|za7<|za7<|zap<|zt<|zh [.v 2 _] [.o 0] O (zv rfl (za2 zav) o0) (zz [(2,_)] [] fun a w O=>?_)
  refine za0<|wp_ret<|zao ?_ (zaf rfl O (zm 0 rfl))
  rw [List.take_length] at hno; rw [hno]
end Go.Proofs.YthdbhckhignfcaaGreatDoor
namespace Go.Proofs.YthdbhckhignfcaaGreatDoor
open Go Go.RowKit
theorem ztp (r:RR):Cn Tryz.prog 28 [(RRA r).va] (Bo ([r.y,r.u].all okX)):=by
 refine Cn.intro Tryz.func28 rfl zk nq (fun B w0 a O=>?_)
 have O:=zn [(0,(RRA r).va)] [] O
 refine wp_seq<|zg [] [⟨1,29,ptrH,some 0,_,none⟩] [.alc 0,.v 2 _] [.o 1] O (oc (zam rfl rfl rfl (gq 0 rfl)) (zv rfl (za2 zav) o0)) (zz [(2,_)] [⟨1,29,ptrH,_⟩] fun a w O=>?_)
 refine zt<|zg [none] [] [.adr 3 1 (.some 0) True,.v 4 _,.adr 5 1 (.some 4) True,.v 6 _,.v 7 _,.v 8 _,.v 2 _] [.o 6] O (oc (ob_a rfl rfl (za9 (lz0 0 rfl) zci)) (zv rfl (za4 0 rfl zk trivial (lz0 0 rfl) (Sub.part 0 rfl rfl) zar) (oc (ob_a rfl rfl (za9 (lz0 0 rfl) zch)) (zv rfl (za4 2 rfl zk trivial (lz0 0 rfl) (Sub.part 1 rfl rfl) zar) (zv rfl (zcr (D:=[U32]) (l:=[_,_]) (xs:=[.tmp 4,.tmp 6]) (zeq zk) zk1 zk (n_ok zk) nq nq nq (.cons (vq 1 rfl) (.cons (vq 3 rfl) .nil)) rfl rfl) (zv rfl (za5 (xs:=[.tmp 7]) (zlt [r.y,r.u] nq) (.cons (vq 4 rfl) .nil)) (zv rfl (za2 (vq 5 rfl)) o0))))))) (zz [(2,_)] [⟨1,29,ptrH,_⟩] fun a w O=>?_)
 refine za0<|wp_ret<|zai ?_ (zaf rfl O (zm 0 rfl))
 exact zbn
theorem r9one_q  : Cn Tryz.prog 114 [] ((QMA 2 ⟨1,0,0,1⟩).va):=by
 refine Cn.intro Tryz.func114 rfl zk nq (fun B w0 a O=>?_)
 have O:=zn [] [] O
 refine wp_seq<|zg [] [⟨0,78,ptrH,some 0,_,none⟩] [.alc 0] [] O (oc (zas rfl rfl rfl (Str.zero zbj)) o0) (zz [] [⟨0,78,ptrH,_⟩] fun a w O=>?_)
 refine zt<|zg [some (5,_)] [] [.v 1 _,.v 2 _,.v 3 _,.v 4 _,.v 5 _,.sto 0] [] O (zv rfl (za5 (xs:=[]) zig .nil) (zv rfl (za5 (xs:=[]) ze5 .nil) (zv rfl (za5 (xs:=[]) ze5 .nil) (zv rfl (za5 (xs:=[]) zig .nil) (zv rfl (zbg (xs:=[(0,.tmp 1),(1,.tmp 2),(2,.tmp 3),(3,.tmp 4)]) (qs:=[(0,_),(1,_),(2,_),(3,_)]) zbj (.cons ⟨rfl,(vq 0 rfl),rfl⟩ (.cons ⟨rfl,(vq 1 rfl),rfl⟩ (.cons ⟨rfl,(vq 2 rfl),rfl⟩ (.cons ⟨rfl,(vq 3 rfl),rfl⟩ .nil))))) (oc (zak rfl rfl rfl (vq 4 rfl) zcb (Eq.trans (b:=16) rfl rfl)) o0)))))) (zz [] [⟨0,78,ptrH,_⟩] fun a w O=>?_)
 refine za0<|wp_ret<|zai ?_ (zaj rfl O (zm 0 rfl) zcb)
 exact zbn
end Go.Proofs.YthdbhckhignfcaaGreatDoor
namespace Go.Proofs.YthdbhckhignfcaaGreatDoor
open Go Go.RowKit
theorem kd6 {k ps qs:Int}(h1:(k==1)=false)(h2:(k==2)=false)(h3:(k==3)=false)(h4:(k==4)=false)(h5:(k==5)=true):elK k ps qs=((ps==0)&&(qs==0)):=by rw [kd5 h1 h2 h3 h4,h5]; rfl
theorem kd7 {k ps qs:Int}(h1:(k==1)=false)(h2:(k==2)=false)(h3:(k==3)=false)(h4:(k==4)=false)(h5:(k==5)=false):elK k ps qs=false:=by rw [kd5 h1 h2 h3 h4,h5]; rfl
theorem zhi {c:Nat}{x:Rat}:Cn Tryz.prog 167 [Qs c x] (Bo (x.num.sign==0)):=by
 refine Cn.intro Tryz.func167 rfl zk nq (fun B w0 a O=>?_)
 have O:=zn [(0,Qs c x)] [] O
 refine wp_seq<|zg [] [⟨1,27,ptrH,some 0,_,none⟩] [.alc 0,.v 2 _] [.o 1] O (oc (zam rfl rfl rfl (gq 0 rfl)) (zv rfl (za2 zav) o0)) (zz [(2,_)] [⟨1,27,ptrH,_⟩] fun a w O=>?_)
 refine zt<|zg [none] [] [.v 3 _,.v 4 _,.v 5 _,.v 2 _] [.o 3] O (zv rfl (zaq (lz0 0 rfl) zar) (zv rfl (za5 (xs:=[.tmp 3]) zjh (.cons (vq 0 rfl) .nil)) (zv rfl (zca (vq 1 rfl) za3) (zv rfl (za2 (vq 2 rfl)) o0)))) (zz [(2,_)] [⟨1,27,ptrH,_⟩] fun a w O=>?_)
 refine za0<|wp_ret<|zai ?_ (zaf rfl O (zm 0 rfl))
 exact zbn
theorem r10may_c (x:RE):Cn Tryz.prog 106 [(REA x).va] (Bo (elF x)):=by
 refine Cn.intro Tryz.func106 rfl zk nq (fun B w0 a O=>?_)
 have O:=zn [(0,(REA x).va)] [] O
 refine wp_seq<|zg [] [⟨1,69,ptrH,some 0,_,none⟩] [.alc 0,.v 2 _] [.o 1] O (oc (zam rfl rfl rfl (gq 0 rfl)) (zv rfl (za2 zav) o0)) (zz [(2,_)] [⟨1,69,ptrH,_⟩] fun a w O=>?_)
 refine zt<|wp_seq<|zg [none] [] [.adr 3 1 (.some 1) True,.v 4 _,.adr 5 1 (.some 5) True,.v 6 _,.v 7 _,.v 8 _,.v 9 _] [.g 0,.o 6] O (oc (ob_a rfl rfl (za9 (lz0 0 rfl) zc8)) (zv rfl (za4 0 rfl zk trivial (lz0 0 rfl) (Sub.part 1 rfl rfl) zar) (oc (ob_a rfl rfl (za9 (lz0 0 rfl) zcf)) (zv rfl (za4 2 rfl zk trivial (lz0 0 rfl) (Sub.part 2 rfl rfl) zar) (zv rfl (zcr (D:=[U32]) (l:=[_,_]) (xs:=[.tmp 4,.tmp 6]) (zeq zk) zk1 zk (n_ok zk) nq nq nq (.cons (vq 1 rfl) (.cons (vq 3 rfl) .nil)) rfl rfl) (zv rfl (za5 (xs:=[.tmp 7]) (zlt [x.p,x.q] nq) (.cons (vq 4 rfl) .nil)) (zv rfl (zeh (vq 5 rfl)) o0))))))) (zz [(2,_),(9,_)] [⟨1,69,ptrH,_⟩] fun a w O=>?_)
 refine za0<|za8 O (zm 1 rfl) (fun hb0=>?_) (fun hb0=>?_)
 ·refine wp_seq<|zg [none] [] [.v 2 _] [.o 0] O (zv rfl (za2 zav) o0) (zz [(2,_)] [⟨1,69,ptrH,_⟩] fun a w O=>?_)
  refine za0<|wp_ret<|zag ?_
  refine zai ?_ (zaf rfl O (zm 0 rfl))
  rw [elF_no hb0]; exact zbn
 ·obtain ⟨hx,he⟩:=elF_ok hb0
  have O:=St.wkL O 0 rfl (el_q hx)
  refine wp_skip<|zt<|wp_seq<|zg [none] [] [.adr 10 1 (.some 0) True,.v 11 _] [.g 0,.o 1] O (oc (ob_a rfl rfl (za9 (lz0 0 rfl) zcy)) (zv rfl (za4 0 rfl zk trivial (lz0 0 rfl) (Sub.part 0 rfl rfl) zha) o0)) (zz [(2,_),(11,_)] [⟨1,69,ptrH,_⟩] fun a w O=>?_)
  refine za0<|wp_block<|wp_seq<|zg [none] [] [.v 13 _,.v 12 _] [.g 0,.g 1,.o 1] O (zv rfl (zca (gq 1 rfl) za3) (zv rfl (za2 (vq 0 rfl)) o0)) (zz [(2,_),(11,_),(12,_)] [⟨1,69,ptrH,_⟩] fun a w O=>?_)
  refine za0<|za8 O (zm 2 rfl) (fun hb1=>?_) (fun hb1=>?_)
  ·refine wp_seq<|zg [none] [] [.adr 14 1 (.some 1) True,.v 15 _,.v 16 _,.v 17 _,.v 18 _,.adr 19 1 (.some 5) (_=true),.v 20 (Wh (_=true) _),.v 21 (Wh (_=true) _),.v 22 _,.v 2 _] [.o 9] O (oc (ob_a rfl rfl (za9 (lz0 0 rfl) zc8)) (zv rfl (za4 0 rfl zk trivial (lz0 0 rfl) (Sub.part 1 rfl rfl) zar) (zv rfl (za5 (xs:=[.tmp 15]) zjh (.cons (vq 1 rfl) .nil)) (zv rfl (zfu (vq 2 rfl) za3) (zv rfl (za1 (vq 3 rfl)) (oc (zce rfl rfl rfl (vq 4 rfl) nq (fun hg=>za9 (lz0 0 rfl) zcf)) (oc (zan rfl rfl rfl (vq 4 rfl) nq (fun hg=>za4 5 rfl zk hg (lz0 0 rfl) (Sub.part 2 rfl rfl) zar)) (oc (zan rfl rfl rfl (vq 4 rfl) nq (fun hg=>za5 (xs:=[.tmp 20]) zhi (.cons (zab (vq 6 rfl) hg) .nil))) (zv rfl (zcc (vq 4 rfl) (vq 7 rfl)) (zv rfl (za2 (vq 8 rfl)) o0)))))))))) (zz [(2,_)] [⟨1,69,ptrH,_⟩] fun a w O=>?_)
   refine za0<|wp_ret<|zba ?_
   refine zag ?_
   refine zai ?_ (zaf rfl O (zm 0 rfl))
   rw [he,kd1 hb1]; exact zbn
  ·refine wp_seq<|zg [none] [] [.v 24 _,.v 23 _] [.g 0,.g 1,.o 1] O (zv rfl (zca (gq 1 rfl) za3) (zv rfl (za2 (vq 0 rfl)) o0)) (zz [(2,_),(11,_),(23,_)] [⟨1,69,ptrH,_⟩] fun a w O=>?_)
   refine za0<|za8 O (zm 2 rfl) (fun hb2=>?_) (fun hb2=>?_)
   ·refine wp_seq<|zg [none] [] [.adr 25 1 (.some 5) True,.v 26 _,.v 27 _,.v 2 _] [.o 3] O (oc (ob_a rfl rfl (za9 (lz0 0 rfl) zcf)) (zv rfl (za4 0 rfl zk trivial (lz0 0 rfl) (Sub.part 2 rfl rfl) zar) (zv rfl (za5 (xs:=[.tmp 26]) zhi (.cons (vq 1 rfl) .nil)) (zv rfl (za2 (vq 2 rfl)) o0)))) (zz [(2,_)] [⟨1,69,ptrH,_⟩] fun a w O=>?_)
    refine za0<|wp_ret<|zba ?_
    refine zag ?_
    refine zai ?_ (zaf rfl O (zm 0 rfl))
    rw [he,kd2 hb1 hb2]; exact zbn
   ·refine wp_seq<|zg [none] [] [.v 29 _,.v 28 _] [.g 0,.g 1,.o 1] O (zv rfl (zca (gq 1 rfl) za3) (zv rfl (za2 (vq 0 rfl)) o0)) (zz [(2,_),(11,_),(28,_)] [⟨1,69,ptrH,_⟩] fun a w O=>?_)
    refine za0<|za8 O (zm 2 rfl) (fun hb3=>?_) (fun hb3=>?_)
    ·refine wp_seq<|zg [none] [] [.adr 30 1 (.some 1) True,.v 31 _,.v 32 _,.v 33 _,.v 34 _,.adr 35 1 (.some 5) (_=true),.v 36 (Wh (_=true) _),.v 37 (Wh (_=true) _),.v 38 (Wh (_=true) _),.v 39 _,.v 2 _] [.o 10] O (oc (ob_a rfl rfl (za9 (lz0 0 rfl) zc8)) (zv rfl (za4 0 rfl zk trivial (lz0 0 rfl) (Sub.part 1 rfl rfl) zar) (zv rfl (za5 (xs:=[.tmp 31]) zjh (.cons (vq 1 rfl) .nil)) (zv rfl (zfu (vq 2 rfl) za3) (zv rfl (za1 (vq 3 rfl)) (oc (zce rfl rfl rfl (vq 4 rfl) nq (fun hg=>za9 (lz0 0 rfl) zcf)) (oc (zan rfl rfl rfl (vq 4 rfl) nq (fun hg=>za4 5 rfl zk hg (lz0 0 rfl) (Sub.part 2 rfl rfl) zar)) (oc (zan rfl rfl rfl (vq 4 rfl) nq (fun hg=>za5 (xs:=[.tmp 36]) zjh (.cons (zab (vq 6 rfl) hg) .nil))) (oc (zan rfl rfl rfl (vq 4 rfl) nq (fun hg=>zev (zab (vq 7 rfl) hg) za3)) (zv rfl (zcc (vq 4 rfl) (vq 8 rfl)) (zv rfl (za2 (vq 9 rfl)) o0))))))))))) (zz [(2,_)] [⟨1,69,ptrH,_⟩] fun a w O=>?_)
     refine za0<|wp_ret<|zba ?_
     refine zag ?_
     refine zai ?_ (zaf rfl O (zm 0 rfl))
     rw [he,kd3 hb1 hb2 hb3]; exact zbn
    ·refine wp_seq<|zg [none] [] [.v 41 _,.v 40 _] [.g 0,.g 1,.o 1] O (zv rfl (zca (gq 1 rfl) za3) (zv rfl (za2 (vq 0 rfl)) o0)) (zz [(2,_),(11,_),(40,_)] [⟨1,69,ptrH,_⟩] fun a w O=>?_)
     refine za0<|za8 O (zm 2 rfl) (fun hb4=>?_) (fun hb4=>?_)
     ·refine wp_seq<|zg [none] [] [.v 2 _] [.o 0] O (zv rfl (za2 zav) o0) (zz [(2,_)] [⟨1,69,ptrH,_⟩] fun a w O=>?_)
      refine za0<|wp_ret<|zba ?_
      refine zag ?_
      refine zai ?_ (zaf rfl O (zm 0 rfl))
      rw [he,kd4 hb1 hb2 hb3 hb4]; exact zbn
     ·refine wp_seq<|zg [none] [] [.v 43 _,.v 42 _] [.g 0,.o 1] O (zv rfl (zca (gq 1 rfl) za3) (zv rfl (za2 (vq 0 rfl)) o0)) (zz [(2,_),(42,_)] [⟨1,69,ptrH,_⟩] fun a w O=>?_)
      refine za0<|za8 O (zm 1 rfl) (fun hb5=>?_) (fun hb5=>?_)
      ·refine wp_seq<|zg [none] [] [.adr 44 1 (.some 1) True,.v 45 _,.v 46 _,.v 47 _,.adr 48 1 (.some 5) (_=true),.v 49 (Wh (_=true) _),.v 50 (Wh (_=true) _),.v 51 _,.v 2 _] [.o 8] O (oc (ob_a rfl rfl (za9 (lz0 0 rfl) zc8)) (zv rfl (za4 0 rfl zk trivial (lz0 0 rfl) (Sub.part 1 rfl rfl) zar) (zv rfl (za5 (xs:=[.tmp 45]) zhi (.cons (vq 1 rfl) .nil)) (zv rfl (za1 (vq 2 rfl)) (oc (zce rfl rfl rfl (vq 3 rfl) nq (fun hg=>za9 (lz0 0 rfl) zcf)) (oc (zan rfl rfl rfl (vq 3 rfl) nq (fun hg=>za4 4 rfl zk hg (lz0 0 rfl) (Sub.part 2 rfl rfl) zar)) (oc (zan rfl rfl rfl (vq 3 rfl) nq (fun hg=>za5 (xs:=[.tmp 49]) zhi (.cons (zab (vq 5 rfl) hg) .nil))) (zv rfl (zcc (vq 3 rfl) (vq 6 rfl)) (zv rfl (za2 (vq 7 rfl)) o0))))))))) (zz [(2,_)] [⟨1,69,ptrH,_⟩] fun a w O=>?_)
       refine za0<|wp_ret<|zba ?_
       refine zag ?_
       refine zai ?_ (zaf rfl O (zm 0 rfl))
       rw [he,kd6 hb1 hb2 hb3 hb4 hb5]; exact zbn
      ·refine wp_skip<|zae ?_
       refine zt<|zg [none] [] [.v 2 _] [.o 0] O (zv rfl (za2 zav) o0) (zz [(2,_)] [⟨1,69,ptrH,_⟩] fun a w O=>?_)
       refine za0<|wp_ret<|zai ?_ (zaf rfl O (zm 0 rfl))
       rw [he,kd7 hb1 hb2 hb3 hb4 hb5]; exact zbn
theorem ztu (xs:List RE):Cn Tryz.prog 27 [(SlA 69 [U32] (xs.map REA)).va] (In (chF xs)):=by
 refine Cn.intro Tryz.func27 rfl zk nq (fun B w0 a O=>?_)
 have O:=zn [(0,(SlA 69 [U32] (xs.map REA)).va)] [] O
 refine wp_seq<|zh [.v 2 _] [.g 0,.o 0] O (zv rfl (za2 za3) o0) (zz [(0,_),(2,_)] [] fun a w O=>?_)
 refine zt<|wp_seq<|zh [.v 4 _,.v 5 _,.v 6 _] [.g 0,.g 1,.o 2] O (zv rfl (za1 (gq 0 rfl)) (zv rfl (zbk Tryz.underlying22 (vq 0 rfl)) (zv rfl (zev (vq 1 rfl) za3) o0))) (zz [(0,_),(2,_),(6,_)] [] fun a w O=>?_)
 refine za0<|za8 O (zm 2 rfl) (fun hb0=>?_) (fun hb0=>?_)
 ·have hbig:xs.length>4096:=by rw [List.length_map] at hb0; have:=of_decide_eq_true hb0; omega
  refine wp_seq<|zh [.v 2 _] [.g 0,.o 0] O (zv rfl (za2 za3) o0) (zz [(0,_),(2,_)] [] fun a w O=>?_)
  refine za0<|wp_ret<|zag ?_
  refine zai ?_ (zaf rfl O (zm 1 rfl))
  rw [chF,if_pos hbig]; exact zbn
 ·have hbig:¬ xs.length>4096:=by rw [List.length_map] at hb0; have:=of_decide_eq_false hb0; omega
  refine wp_skip<|zt<|wp_seq<|zh [.v 3 _] [.g 0,.g 1,.o 0] O (zv rfl (za2 za3) o0) (zz [(0,_),(2,_),(3,_)] [] fun a w O=>?_)
  refine za0<|wp_block ?_
  have O:=St.sel O [0,2]
  refine wp_loop_ghost (fun n a w=>∃ j:Nat,(n+j=xs.length∧(xs.take j).all elF=true)∧St B w0 19 [(0,(SlA 69 [U32] (xs.map REA)).va),(3,In (j:Nat))] [] a w) (xs.length) ?_ ?_
  ·exact ⟨0,⟨by omega,rfl⟩,O⟩
  intro n a w hI
  obtain ⟨j,⟨hn,hno⟩,O⟩:=hI
  refine wp_seq<|wp_seq<|zh [.v 7 _,.v 8 _,.v 9 _,.v 10 _] [.g 0,.g 1,.o 3] O (zv rfl (za1 (gq 1 rfl)) (zv rfl (za1 (gq 0 rfl)) (zv rfl (zbk Tryz.underlying22 (vq 1 rfl)) (zv rfl (zb1 (vq 0 rfl) (vq 2 rfl)) o0)))) (zz [(0,_),(3,_),(10,_)] [] fun a w O=>?_)
  refine za0<|za8 O (zm 2 rfl) (fun hb1=>?_) (fun hb1=>?_)
  ·have hj:j<xs.length:=by rw [List.length_map] at hb1; have:=of_decide_eq_true hb1; omega
   refine wp_skip<|zt<|wp_block<|wp_seq<|zh [.v 13 _,.v 14 _,.v 15 _,.v 16 _,.v 17 _,.v 18 _] [.g 0,.g 1,.o 5] O (zv rfl (za1 (gq 0 rfl)) (zv rfl (za1 (gq 1 rfl)) (zv rfl (zd0 zhc (zgp fun _=>rfl) (vq 0 rfl) (vq 1 rfl) (ze1 hj)) (zv rfl (zad (vq 2 rfl) zeg) (zv rfl (za5 (xs:=[.tmp 16]) (r10may_c _) (.cons (vq 3 rfl) .nil)) (zv rfl (zeh (vq 4 rfl)) o0)))))) (zz [(0,_),(3,_),(18,_)] [] fun a w O=>?_)
   refine za0<|za8 O (zm 2 rfl) (fun hb2=>?_) (fun hb2=>?_)
   ·refine wp_seq<|zh [.v 2 _] [.g 0,.g 1,.o 0] O (zv rfl (za2 za3) o0) (zz [(0,_),(3,_),(2,_)] [] fun a w O=>?_)
    refine za0<|wp_ret<|zba ?_
    refine zag ?_
    refine zag ?_
    refine zba ?_
    refine zag ?_
    refine zai ?_ (zaf rfl O (zm 2 rfl))
    rw [chF,if_neg hbig,all_so hj (by simpa using hb2)]; exact zbn
   ·refine wp_skip<|zae ?_
    refine za0<|zh [.v 11 _,.v 12 _,.v 3 _] [.g 0,.o 2] O (zv rfl (za1 (gq 1 rfl)) (zv rfl (zb5 (vq 0 rfl) za3 ((wi64 zo zo).trans (by omega:(_:Int)=((j+1:Nat):Int)))) (zv rfl (za2 (vq 1 rfl)) o0))) (zz [(0,_),(3,_)] [] fun a w O=>?_)
    refine za0 ?_
    have O:=St.sel O [0,1]
    exact ⟨n-1,by omega,j+1,⟨by omega,all_nx hj hno (by simpa using hb2)⟩,O⟩
  ·obtain rfl:j=xs.length:=by rw [List.length_map] at hb1; have:=of_decide_eq_false hb1; omega
   refine wp_exit<|za7<|za7<|zap<|zt<|zh [.v 2 _] [.o 0] O (zv rfl (za2 za3) o0) (zz [(2,_)] [] fun a w O=>?_)
   refine za0<|wp_ret<|zai ?_ (zaf rfl O (zm 0 rfl))
   rw [List.take_length] at hno; rw [chF,if_neg hbig,hno]; exact zbn
end Go.Proofs.YthdbhckhignfcaaGreatDoor
