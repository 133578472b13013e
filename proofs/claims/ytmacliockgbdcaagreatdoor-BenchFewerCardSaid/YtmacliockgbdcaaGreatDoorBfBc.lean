import Derived.Test.YtmacliockgbdcaaGreatDoorBfAa
import Derived.Test.YtmacliockgbdcaaGreatDoorBfAc
import Derived.Test.YtmacliockgbdcaaGreatDoorBfAj
import Derived.Test.YtmacliockgbdcaaGreatDoorBfAv
import Derived.Test.YtmacliockgbdcaaGreatDoorBfAw
set_option linter.unusedVariables false
set_option linter.unusedSimpArgs false
set_option linter.unusedSectionVars false
set_option maxRecDepth 100000
namespace Go.Proofs.YtmacliockgbdcaaGreatDoor
open Go Go.RowKit
theorem uy : ∃ fn, Tryz.prog.funcs[121]? = some fn ∧ (fn.name == "runtime.NumGoroutine") = false ∧ fn.body.isNone = false := ⟨_, Tryz.func121, by kernel_rfl, by kernel_rfl⟩
theorem xg : ∃ fn, Tryz.prog.funcs[120]? = some fn ∧ (fn.name == "runtime.NumGoroutine") = false ∧ fn.body.isNone = false := ⟨_, Tryz.func120, by kernel_rfl, by kernel_rfl⟩
theorem uz : ∃ fn, Tryz.prog.funcs[196]? = some fn ∧ (fn.name == "runtime.NumGoroutine") = false ∧ fn.body.isNone = false := ⟨_, Tryz.func196, by kernel_rfl, by kernel_rfl⟩
theorem r9 : ∃ fn, Tryz.prog.funcs[188]? = some fn ∧ (fn.name == "runtime.NumGoroutine") = false ∧ fn.body.isNone = false := ⟨_, Tryz.func188, by kernel_rfl, by kernel_rfl⟩
theorem xf : ∃ fn, Tryz.prog.funcs[189]? = some fn ∧ (fn.name == "runtime.NumGoroutine") = false ∧ fn.body.isNone = false := ⟨_, Tryz.func189, by kernel_rfl, by kernel_rfl⟩
theorem oi : ∃ fn, Tryz.prog.funcs[190]? = some fn ∧ (fn.name == "runtime.NumGoroutine") = false ∧ fn.body.isNone = false := ⟨_, Tryz.func190, by kernel_rfl, by kernel_rfl⟩
theorem nG (p:Int)(hp:lz p≤1000000000):Cn Tryz.prog 190 [Zi p] (Zi (-p)):=by
 refine Cn.intro Tryz.func190 G zk nq (fun B w0 a U=>?_)
 have U:=zn [(0,Zi p)] [] U
 refine wp_seq<|zg [] [⟨1,25,ptrH,some 0,_,none⟩,⟨2,25,ptrH,some 1,_,none⟩] [.alc 0,.alc 1] [] U (oc (ay G G G (gq 0 G)) (oc (aJ G G G (Str.zero bm)) o0)) (zz [] [O 1 25 _,O 2 25 _] fun a w U=>?_)
 refine zt<|zgd [[],[],[0,1],[0,1,2]] [none,some (3,_)] [] [.v 3 _,.v 4 _,.v 5 _,.sto 1] [] ab U (zv G (aa (xs:=[.const (.int .i64 (0))]) (w6 0 zd zd) (.cons a8 .nil)) (zl 0 G al (zv G (aa (xs:=[.tmp 3,.tmp 4]) (mj 0 p (by simp [lz,bt]) hp) (.cons (vq 0 G) (.cons (vq 1 G) .nil))) (oc (aA G G G (vq 2 G) al (Eq.trans (b:=2) G G)) o0)))) zk zk zk zk (zz [] [O 1 25 _,O 2 25 _] fun a w U=>?_)
 refine a7<|wp_ret<|ar ?_ (az G U (zm 1 G) al)
 exact bc (congrArg Zi (Int.zero_sub p))
section
variable {a b:Nat} {p q:Int} (ha:a≤1000000000)
include ha
theorem gI:Cn Tryz.prog 190 [Zs a p] (Zs a (-p)):=zs1 oi fun h=>(nG p zo).wkp (fF (by rw [j3]; exact h))
variable (hb:b≤1000000000)
include hb
theorem dp:Cn Tryz.prog 121 [Zs a p,Zs b q] (Zs (a+b) (p*q)):=zs2 uy fun h h'=>(sd p q zo zo).wkp (fF (by have:=tA p q; omega))
theorem Al:Cn Tryz.prog 120 [Zs a p,Zs b q] (Zs (max a b+1) (p+q)):=zs2 xg fun h h'=>(oV p q zo zo).wkp (fF (by have:=tC p q; omega))
theorem w7:Cn Tryz.prog 196 [Zs a p,Zs b q] (Zs (max a b+1) (p-q)):=zs2 uz fun h h'=>(mj p q zo zo).wkp (fF (by have:=yu p q; omega))
theorem mm (hq:q≠0):Cn Tryz.prog 188 [Zs a p,Zs b q] (Tu [Zs a (p.tdiv q),Zs b (p.tmod q)]):=zs2 r9 fun h h'=>(jW p q hq zo zo).wkp (vp (.cons (fF (by have:=nP p q; omega)) (.cons (fF (by have:=wF (p:=p) hq; omega)) .nil)))
end
theorem nz {a:Nat}{p:Int}:Cn Tryz.prog 189 [Zs a p] (In p.sign):=zs1 xf fun _=>(iP (riOf p)).post (by rw [de])
theorem An {n:Int}(h0 : -9223372036854775808≤n)(h1:n<9223372036854775808):Cn Tryz.prog 212 [In n] (Zs 2 n):=(w6 n h0 h1).wkp (fF (qH zo))
theorem wE {p q:Int}(h:q≠0)(hq:lz q≤1000000000):lz (p.tmod q)≤1000000000:=Nat.le_trans (wF h) hq
theorem wW {X Y:Int}(h:Y≠0):Int.gcd Y (X.tmod Y)=Int.gcd X Y:=by
 show Nat.gcd Y.natAbs (X.tmod Y).natAbs=Nat.gcd X.natAbs Y.natAbs
 rw [fY,Nat.gcd_comm X.natAbs,Nat.gcd_comm,← Nat.gcd_rec]
theorem iS (p q:Int)(hp:lz p≤1000000000)(hq:lz q≤1000000000):Cn Tryz.prog 187 [Zi p,Zi q] (Zi ((Int.gcd p q:Nat):Int)):=by
 refine Cn.intro Tryz.func187 G zk nq (fun B w0 a U=>?_)
 have U:=zn [(0,Zi p),(1,Zi q)] [] U
 refine wp_seq<|zg [] [⟨2,25,ptrH,some 0,_,none⟩,⟨3,25,ptrH,some 1,_,none⟩,⟨4,25,ptrH,some 2,_,none⟩] [.alc 0,.alc 1,.alc 2] [] U (oc (ay G G G (gq 0 G)) (oc (ay G G G (gq 1 G)) (oc (aJ G G G (Str.zero bm)) o0))) (zz [] [O 2 25 _,O 3 25 _,O 4 25 _] fun a w U=>?_)
 refine zt<|wp_seq<|zgd [[],[0],[],[0,1,2],[0,1,2,3]] [none,none,none] [] [.v 7 _,.v 8 _,.v 9 _,.v 10 _,.v 11 _] [.o 4] ab U (zl 0 G al (zv G (aa (xs:=[.tmp 7]) (nD p hp) (.cons (vq 0 G) .nil)) (zl 1 G al (zv G (aa (xs:=[.tmp 9]) (nD q hq) (.cons (vq 2 G) .nil)) (zv G (aN (vq 1 G) (vq 3 G)) o0))))) zk zk zk zk (zz [(11,_)] [O 2 25 _,O 3 25 _,O 4 25 _] fun a w U=>?_)
 refine a7<|bO (fun a w=>∃ X Y:Int,(lz X≤1000000000∧lz Y≤1000000000∧Int.gcd X Y=Int.gcd p q)∧St B w0 33 [] [⟨2,25,ptrH,RIA (riOf X)⟩,⟨3,25,ptrH,RIA (riOf Y)⟩,⟨4,25,ptrH,cat [BoA false,MgA []]⟩] a w) U (zm 0 G) (fun hb0=>?_) (fun hb0=>?_) (fun a w U=>?_)
 ·refine zg [some (2,_),some (3,_),none] [] [.v 12 _,.v 13 _,.sto 0,.sto 1] [] U (zl 1 G al (zl 0 G al (oc (aA G G G (vq 0 G) al (Eq.trans (b:=2) G G)) (oc (aA G G G (vq 1 G) al (Eq.trans (b:=2) G G)) o0)))) (zz [] [O 2 25 _,O 3 25 _,O 4 25 _] fun a w U=>?_)
  refine a7 ?_
  have U:=St.sel U []
  exact ⟨q,p,⟨hq,hp,Int.gcd_comm q p⟩,U⟩
 ·refine wp_skip<|a7 ?_
  have U:=St.sel U []
  exact ⟨p,q,⟨hp,hq,rfl⟩,U⟩
 obtain ⟨X,Y,⟨hX,hY,hg⟩,U⟩:=U
 refine zt<|wp_seq<|zg [none,none,none] [] [.v 14 _,.v 15 _,.v 16 _] [.o 2] U (zl 1 G al (zv G (aa (xs:=[.tmp 14]) ((iP (riOf Y)).post (by rw [de])) (.cons (vq 0 G) .nil)) (zv G (bD (vq 1 G) a8) o0))) (zz [(16,_)] [O 2 25 _,O 3 25 _,O 4 25 _] fun a w U=>?_)
 refine a7<|ah U (zm 0 G) (fun hb1=>?_) (fun hb1=>?_)
 ·refine wp_seq<|zg [none,none,some (3,_)] [] [.v 17 _,.v 18 _,.v 19 _,.sto 2] [] U (zl 0 G al (zl 1 G al (zv G (aa (xs:=[.tmp 17,.tmp 18]) (jX X Y hX hY) (.cons (vq 0 G) (.cons (vq 1 G) .nil))) (oc (aA G G G (vq 2 G) al (Eq.trans (b:=2) G G)) o0)))) (zz [] [O 2 25 _,O 3 25 _,O 4 25 _] fun a w U=>?_)
  refine a7<|wp_ret<|ap ?_
  refine ar ?_ (az G U (zm 2 G) al)
  exact bc (congrArg (fun n:Nat=>Zi (n:Int)) hg)
 ·have hY0:Y≠0:=fun e=>by rw [e] at hb1; exact absurd hb1 zd
  refine wp_skip<|zt<|zg [none,none,none] [⟨5,25,ptrH,some 6,_,some (8,_)⟩,⟨6,25,ptrH,some 7,_,some (9,_)⟩] [.v 21 _,.v 22 _,.v 23 _,.v 20 _,.v 24 _,.v 25 _,.alc 3,.alc 4,.sto 3,.sto 4] [] U (zl 0 G al (zl 1 G al (zv G (aa (xs:=[.tmp 21,.tmp 22]) (jW X Y hY0 hX hY) (.cons (vq 0 G) (.cons (vq 1 G) .nil))) (zv G (ae (vq 2 G)) (zv G (aQ (vq 3 G) G) (zv G (aQ (vq 3 G) G) (oc (aJ G G G (Str.zero bm)) (oc (aJ G G G (Str.zero bm)) (oc (aA G G G (vq 4 G) al (Eq.trans (b:=2) G G)) (oc (aA G G G (vq 5 G) al (Eq.trans (b:=2) G G)) o0)))))))))) (zz [] [O 2 25 _,O 3 25 _,O 4 25 _,O 5 25 _,O 6 25 _] fun a w U=>?_)
  refine zt<|wp_seq<|zg [none,none,none,none,none] [] [.v 26 _,.v 27 _,.v 28 _] [.o 2] U (zl 1 G al (zv G (aa (xs:=[.tmp 26]) (nD Y hY) (.cons (vq 0 G) .nil)) (zv G (bD (vq 1 G) a8) o0))) (zz [(28,_)] [O 2 25 _,O 3 25 _,O 4 25 _,O 5 25 _,O 6 25 _] fun a w U=>?_)
  refine a7<|ah U (zm 0 G) (fun hb2=>?_) (fun hb2=>?_)
  ·have h1:Y.natAbs=1:=xB (by have:=beq_iff_eq.1 hb2; omega)
   refine wp_seq<|zg [none,none,some (1,_),none,none] [] [.v 29 _,.sto 2] [] U (zv G (aa (xs:=[.const (.int .i64 (1))]) (w6 1 zd zd) (.cons a8 .nil)) (oc (aA G G G (vq 0 G) al (Eq.trans (b:=2) G G)) o0)) (zz [] [O 2 25 _,O 3 25 _,O 4 25 _,O 5 25 _,O 6 25 _] fun a w U=>?_)
   refine a7<|wp_ret<|ap ?_
   refine ar ?_ (az G U (zm 2 G) al)
   exact bc (congrArg (fun n:Nat=>Zi (n:Int)) (show 1=Int.gcd p q by rw [← hg]; show 1=Nat.gcd X.natAbs Y.natAbs; rw [h1,Nat.gcd_one_right]))
  ·refine wp_skip<|zt<|zg [none,none,some (3,_),none,none] [] [.v 30 _,.v 31 _,.v 32 _,.sto 2] [] U (zl 1 G al (zl 4 G al (zv G (aa (xs:=[.tmp 30,.tmp 31]) (jX Y (X.tmod Y) hY (wE hY0 hY)) (.cons (vq 0 G) (.cons (vq 1 G) .nil))) (oc (aA G G G (vq 2 G) al (Eq.trans (b:=2) G G)) o0)))) (zz [] [O 2 25 _,O 3 25 _,O 4 25 _,O 5 25 _,O 6 25 _] fun a w U=>?_)
   refine a7<|wp_ret<|ar ?_ (az G U (zm 2 G) al)
   exact bc (congrArg (fun n:Nat=>Zi (n:Int)) ((wW hY0).trans hg))
theorem oj : ∃ fn, Tryz.prog.funcs[187]? = some fn ∧ (fn.name == "runtime.NumGoroutine") = false ∧ fn.body.isNone = false := ⟨_, Tryz.func187, by kernel_rfl, by kernel_rfl⟩
theorem qy {a b:Nat}{p q:Int}(ha:a≤1000000000)(hb:b≤1000000000):Cn Tryz.prog 187 [Zs a p,Zs b q] (Zs (max a b) ((Int.gcd p q:Nat):Int)):=zs2 oj fun h h'=>(iS p q zo zo).wkp (fF (by have:=tB p q; omega))
theorem fp {c d:Nat}{p q:Int}(hc:c≤1000000000)(hd:d≤1000000000)(hq:q≠0):Cn Tryz.prog 122 [Zs c p,Zs d q] (Qs (max c d) (Rat.divInt p q)):=by
 have hg0:0<Int.gcd p q:=Int.gcd_pos_of_ne_zero_right p hq
 obtain ⟨hn1,hn2⟩:=nR (p:=p) hq
 refine Cn.intro Tryz.func122 G zk nq (fun B w0 a U=>?_)
 have U:=zn [(0,Zs c p),(1,Zs d q)] [] U
 refine wp_seq<|zg [] [⟨2,25,ptrH,some 0,_,none⟩,⟨3,25,ptrH,some 1,_,none⟩,⟨4,27,ptrH,some 2,_,none⟩] [.alc 0,.alc 1,.alc 2] [] U (oc (ay G G G (gq 0 G)) (oc (ay G G G (gq 1 G)) (oc (aJ G G G (Str.zero b4)) o0))) (zz [] [O 2 25 _,O 3 25 _,O 4 27 _] fun a w U=>?_)
 refine zt<|zg [none,none,none] [⟨5,25,ptrH,some 3,_,some (4,_)⟩] [.v 10 _,.v 11 _,.v 12 _,.alc 3,.sto 3] [] U (zl 0 G al (zl 1 G al (zv G (aa (xs:=[.tmp 10,.tmp 11]) (qy zo zo) (.cons (vq 0 G) (.cons (vq 1 G) .nil))) (oc (aJ G G G (Str.zero bm)) (oc (aA G G G (vq 2 G) al (Eq.trans (b:=2) G G)) o0))))) (zz [] [O 2 25 _,O 3 25 _,O 4 27 _,O 5 25 _] fun a w U=>?_)
 refine zt<|zg [none,none,none,none] [⟨6,25,ptrH,some 6,_,some (8,_)⟩,⟨7,25,ptrH,some 7,_,some (9,_)⟩] [.v 14 _,.v 15 _,.v 16 _,.v 13 _,.v 17 _,.v 18 _,.alc 4,.alc 5,.sto 4,.sto 5] [] U (zl 0 G al (zl 3 G al (zv G (aa (xs:=[.tmp 14,.tmp 15]) (mm zo zo zo) (.cons (vq 0 G) (.cons (vq 1 G) .nil))) (zv G (ae (vq 2 G)) (zv G (aQ (vq 3 G) G) (zv G (aQ (vq 3 G) G) (oc (aJ G G G (Str.zero bm)) (oc (aJ G G G (Str.zero bm)) (oc (aA G G G (vq 4 G) al (Eq.trans (b:=2) G G)) (oc (aA G G G (vq 5 G) al (Eq.trans (b:=2) G G)) o0)))))))))) (zz [] [O 2 25 _,O 3 25 _,O 4 27 _,O 5 25 _,O 6 25 _,O 7 25 _] fun a w U=>?_)
 refine zt<|zg [none,none,none,none,none,none] [⟨8,25,ptrH,some 6,_,some (8,_)⟩,⟨9,25,ptrH,some 7,_,some (9,_)⟩] [.v 20 _,.v 21 _,.v 22 _,.v 19 _,.v 23 _,.v 24 _,.alc 6,.alc 7,.sto 6,.sto 7] [] U (zl 1 G al (zl 3 G al (zv G (aa (xs:=[.tmp 20,.tmp 21]) (mm zo zo zo) (.cons (vq 0 G) (.cons (vq 1 G) .nil))) (zv G (ae (vq 2 G)) (zv G (aQ (vq 3 G) G) (zv G (aQ (vq 3 G) G) (oc (aJ G G G (Str.zero bm)) (oc (aJ G G G (Str.zero bm)) (oc (aA G G G (vq 4 G) al (Eq.trans (b:=2) G G)) (oc (aA G G G (vq 5 G) al (Eq.trans (b:=2) G G)) o0)))))))))) (zz [] [O 2 25 _,O 3 25 _,O 4 27 _,O 5 25 _,O 6 25 _,O 7 25 _,O 8 25 _,O 9 25 _] fun a w U=>?_)
 refine zt<|wp_seq<|zg [none,none,none,none,none,none,none,none] [] [.v 25 _,.v 26 _,.v 27 _] [.o 2] U (zl 6 G al (zv G (aa (xs:=[.tmp 25]) nz (.cons (vq 0 G) .nil)) (zv G (aN (vq 1 G) a8) o0))) (zz [(27,_)] [O 2 25 _,O 3 25 _,O 4 27 _,O 5 25 _,O 6 25 _,O 7 25 _,O 8 25 _,O 9 25 _] fun a w U=>?_)
 refine a7<|ah U (zm 0 G) (fun hb0=>?_) (fun hb0=>?_)
 ·refine wp_seq<|zgd [[],[0],[],[0,1,2],[0,1,2,3],[0,1,2,3,4]] [none,none,some (5,_),none,none,none,none,none] [] [.v 28 _,.v 29 _,.v 30 _,.v 31 _,.v 32 _,.sto 2] [] ab U (zl 4 G al (zv G (aa (xs:=[.tmp 28]) (gI zo) (.cons (vq 0 G) .nil)) (zl 6 G al (zv G (aa (xs:=[.tmp 30]) (gI zo) (.cons (vq 2 G) .nil)) (zv G (bi (xs:=[(0,.tmp 29),(1,.tmp 31)]) (qs:=[(0,_),(1,_)]) b4 (.cons ⟨rfl,(vq 1 G),rfl⟩ (.cons ⟨rfl,(vq 3 G),rfl⟩ .nil))) (oc (aA G G G (vq 4 G) ax (Eq.trans (b:=4) G G)) o0)))))) zk zk zk zk (zz [] [O 2 25 _,O 3 25 _,O 4 27 _,O 5 25 _,O 6 25 _,O 7 25 _,O 8 25 _,O 9 25 _] fun a w U=>?_)
  refine a7<|wp_ret<|ap ?_
  refine ar ?_ (az G U (zm 2 G) ax)
  rw [if_pos (ny hb0)] at hn1 hn2; rw [hn1,hn2]; exact (bz (.cons (eL (Nat.le_max_left _ _)) (.cons (eL (Nat.le_max_right _ _)) .nil))).va
 ·refine wp_skip<|zt<|zg [none,none,some (3,_),none,none,none,none,none] [] [.v 33 _,.v 34 _,.v 35 _,.sto 2] [] U (zl 4 G al (zl 6 G al (zv G (bi (xs:=[(0,.tmp 33),(1,.tmp 34)]) (qs:=[(0,_),(1,_)]) b4 (.cons ⟨rfl,(vq 0 G),rfl⟩ (.cons ⟨rfl,(vq 1 G),rfl⟩ .nil))) (oc (aA G G G (vq 2 G) ax (Eq.trans (b:=4) G G)) o0)))) (zz [] [O 2 25 _,O 3 25 _,O 4 27 _,O 5 25 _,O 6 25 _,O 7 25 _,O 8 25 _,O 9 25 _] fun a w U=>?_)
  refine a7<|wp_ret<|ar ?_ (az G U (zm 2 G) ax)
  rw [if_neg (rX hb0)] at hn1 hn2; rw [hn1,hn2]; exact (bz (.cons (eL (Nat.le_max_left _ _)) (.cons (eL (Nat.le_max_right _ _)) .nil))).va
theorem fo  : Cn Tryz.prog 181 [] (Qs 2 0):=by
 refine Cn.intro Tryz.func181 G zk nq (fun B w0 a U=>?_)
 have U:=zn [] [] U
 refine wp_seq<|zg [] [⟨0,27,ptrH,some 0,_,none⟩] [.alc 0] [] U (oc (aJ G G G (Str.zero b4)) o0) (zz [] [O 0 27 _] fun a w U=>?_)
 refine zt<|zg [some (2,_)] [] [.v 1 _,.v 2 _,.sto 0] [] U (zv G (aa (xs:=[.const (.int .i64 (1))]) (An zd zd) (.cons a8 .nil)) (zv G (bi (xs:=[(1,.tmp 1)]) (qs:=[(1,_)]) b4 (.cons ⟨rfl,(vq 0 G),rfl⟩ .nil)) (oc (aA G G G (vq 1 G) ax (Eq.trans (b:=4) G G)) o0))) (zz [] [O 0 27 _] fun a w U=>?_)
 refine a7<|wp_ret<|ar ?_ (az G U (zm 0 G) ax)
 exact q0_wk.va
theorem sF {p q:Int}(hp : -9223372036854775808≤p)(hp1:p<9223372036854775808)(hq : -9223372036854775808≤q)(hq1:q<9223372036854775808)(h0:q≠0):Cn Tryz.prog 194 [In p,In q] (Qs 2 (Rat.divInt p q)):=by
 refine Cn.intro Tryz.func194 G zk nq (fun B w0 a U=>?_)
 have U:=zn [(0,In p),(1,In q)] [] U
 refine wp_seq<|zg [] [⟨4,27,ptrH,some 0,_,none⟩] [.alc 0] [.g 0,.g 1] U (oc (aJ G G G (Str.zero b4)) o0) (zz [(0,_),(1,_)] [O 4 27 _] fun a w U=>?_)
 refine zt<|zg [some (5,_)] [] [.v 5 _,.v 6 _,.v 7 _,.v 8 _,.v 9 _,.sto 0] [] U (zM 0 G (zv G (aa (xs:=[.tmp 5]) (An hp hp1) (.cons (vq 0 G) .nil)) (zM 1 G (zv G (aa (xs:=[.tmp 7]) (An hq hq1) (.cons (vq 2 G) .nil)) (zv G (aa (xs:=[.tmp 6,.tmp 8]) (fp zo zo h0) (.cons (vq 1 G) (.cons (vq 3 G) .nil))) (oc (aA G G G (vq 4 G) ax (Eq.trans (b:=4) G G)) o0)))))) (zz [] [O 4 27 _] fun a w U=>?_)
 refine a7<|wp_ret<|ar ?_ (az G U (zm 0 G) ax)
 exact bh
theorem sG  : Cn Tryz.prog 126 [] (Qs 2 1):=by
 refine Cn.intro Tryz.func126 G zk nq (fun B w0 a U=>?_)
 have U:=zn [] [] U
 refine wp_seq<|zg [] [⟨0,27,ptrH,some 0,_,none⟩] [.alc 0] [] U (oc (aJ G G G (Str.zero b4)) o0) (zz [] [O 0 27 _] fun a w U=>?_)
 refine zt<|zg [some (1,_)] [] [.v 1 _,.sto 0] [] U (zv G (aa (xs:=[.const (.int .i64 (1)),.const (.int .i64 (1))]) (sF zd zd zd zd zd) (.cons a8 (.cons a8 .nil))) (oc (aA G G G (vq 0 G) ax (Eq.trans (b:=4) G G)) o0)) (zz [] [O 0 27 _] fun a w U=>?_)
 refine a7<|wp_ret<|ar ?_ (az G U (zm 0 G) ax)
 exact bc (congrArg (Qs 2) (show Rat.divInt 1 1=1 from G))
theorem kN {c d:Nat}{x y:Rat}(hc:c+d≤900000000):Cn Tryz.prog 38 [Qs c x,Qs d y] (Qs (c+d+1) (x+y)):=by
 refine Cn.intro Tryz.func38 G zk nq (fun B w0 a U=>?_)
 have U:=zn [(0,Qs c x),(1,Qs d y)] [] U
 refine wp_seq<|zg [] [⟨2,27,ptrH,some 0,_,none⟩,⟨3,27,ptrH,some 1,_,none⟩,⟨4,27,ptrH,some 2,_,none⟩] [.alc 0,.alc 1,.alc 2] [] U (oc (ay G G G (gq 0 G)) (oc (ay G G G (gq 1 G)) (oc (aJ G G G (Str.zero b4)) o0))) (zz [] [O 2 27 _,O 3 27 _,O 4 27 _] fun a w U=>?_)
 refine zt<|zgd [[],[0],[],[2],[0,1,2,3],[],[5],[],[7],[0,1,2,3,4,5,6,7,8],[0,1,2,3,4,5,6,7,8,9],[],[0,1,2,3,4,5,6,7,8,9,10,11]] [none,none,none] [⟨5,25,ptrH,some 11,_,some (12,_)⟩] [.adr 6 2 (.some 0) True,.v 7 _,.adr 8 3 (.some 2) True,.v 9 _,.v 10 _,.adr 11 3 (.some 0) True,.v 12 _,.adr 13 2 (.some 2) True,.v 14 _,.v 15 _,.v 16 _,.alc 3,.sto 3] [] ab U (oc (ob_a G G (ac (lz0 0 G) aY)) (zL 0 0 0 G al (oc (ob_a G G (ac (lz0 1 G) aT)) (zL 2 1 1 G al (zv G (aa (xs:=[.tmp 7,.tmp 9]) (dp zo zo) (.cons (vq 1 G) (.cons (vq 3 G) .nil))) (oc (ob_a G G (ac (lz0 1 G) aY)) (zL 5 1 0 G al (oc (ob_a G G (ac (lz0 0 G) aT)) (zL 7 0 1 G al (zv G (aa (xs:=[.tmp 12,.tmp 14]) (dp zo zo) (.cons (vq 6 G) (.cons (vq 8 G) .nil))) (zv G (aa (xs:=[.tmp 10,.tmp 15]) (Al zo zo) (.cons (vq 4 G) (.cons (vq 9 G) .nil))) (oc (aJ G G G (Str.zero bm)) (oc (aA G G G (vq 10 G) al (Eq.trans (b:=2) G G)) o0))))))))))))) zk zk zk zk (zz [] [O 2 27 _,O 3 27 _,O 4 27 _,O 5 25 _] fun a w U=>?_)
 refine zt<|zgd [[],[],[1],[],[3],[1,2,3,4],[0,1,2,3,4,5],[0,1,2,3,4,5,6]] [none,none,some (7,_),none] [] [.v 17 _,.adr 18 2 (.some 2) True,.v 19 _,.adr 20 3 (.some 2) True,.v 21 _,.v 22 _,.v 23 _,.sto 2] [] ab U (zl 3 G al (oc (ob_a G G (ac (lz0 0 G) aT)) (zL 1 0 1 G al (oc (ob_a G G (ac (lz0 1 G) aT)) (zL 3 1 1 G al (zv G (aa (xs:=[.tmp 19,.tmp 21]) (dp zo zo) (.cons (vq 2 G) (.cons (vq 4 G) .nil))) (zv G (aa (xs:=[.tmp 17,.tmp 22]) (fp zo zo (mX x y)) (.cons (vq 0 G) (.cons (vq 5 G) .nil))) (oc (aA G G G (vq 6 G) ax (Eq.trans (b:=4) G G)) o0)))))))) zk zk zk zk (zz [] [O 2 27 _,O 3 27 _,O 4 27 _,O 5 25 _] fun a w U=>?_)
 refine a7<|wp_ret<|ar ?_ (az G U (zm 2 G) ax)
 exact br (bc (congrArg (Qs _) (sy x y))) (bT zo).va
theorem iR {c d:Nat}{x y:Rat}(hc:c+d≤900000000):Cn Tryz.prog 118 [Qs c x,Qs d y] (Qs (c+d) (x*y)):=by
 refine Cn.intro Tryz.func118 G zk nq (fun B w0 a U=>?_)
 have U:=zn [(0,Qs c x),(1,Qs d y)] [] U
 refine wp_seq<|zg [] [⟨2,27,ptrH,some 0,_,none⟩,⟨3,27,ptrH,some 1,_,none⟩,⟨4,27,ptrH,some 2,_,none⟩] [.alc 0,.alc 1,.alc 2] [] U (oc (ay G G G (gq 0 G)) (oc (ay G G G (gq 1 G)) (oc (aJ G G G (Str.zero b4)) o0))) (zz [] [O 2 27 _,O 3 27 _,O 4 27 _] fun a w U=>?_)
 refine zt<|zgd [[],[0],[],[2],[0,1,2,3],[],[5],[],[7],[0,1,2,3,4,5,6,7,8],[0,1,2,3,4,5,6,7,8,9],[0,1,2,3,4,5,6,7,8,9,10]] [none,none,some (11,_)] [] [.adr 5 2 (.some 0) True,.v 6 _,.adr 7 3 (.some 0) True,.v 8 _,.v 9 _,.adr 10 2 (.some 2) True,.v 11 _,.adr 12 3 (.some 2) True,.v 13 _,.v 14 _,.v 15 _,.sto 2] [] ab U (oc (ob_a G G (ac (lz0 0 G) aY)) (zL 0 0 0 G al (oc (ob_a G G (ac (lz0 1 G) aY)) (zL 2 1 0 G al (zv G (aa (xs:=[.tmp 6,.tmp 8]) (dp zo zo) (.cons (vq 1 G) (.cons (vq 3 G) .nil))) (oc (ob_a G G (ac (lz0 0 G) aT)) (zL 5 0 1 G al (oc (ob_a G G (ac (lz0 1 G) aT)) (zL 7 1 1 G al (zv G (aa (xs:=[.tmp 11,.tmp 13]) (dp zo zo) (.cons (vq 6 G) (.cons (vq 8 G) .nil))) (zv G (aa (xs:=[.tmp 9,.tmp 14]) (fp zo zo (mX x y)) (.cons (vq 4 G) (.cons (vq 9 G) .nil))) (oc (aA G G G (vq 10 G) ax (Eq.trans (b:=4) G G)) o0)))))))))))) zk zk zk zk (zz [] [O 2 27 _,O 3 27 _,O 4 27 _] fun a w U=>?_)
 refine a7<|wp_ret<|ar ?_ (az G U (zm 2 G) ax)
 exact br (bc (congrArg (Qs _) (sv x y))) (bT zo).va
theorem kO {c d:Nat}{x y:Rat}(hc:c+d≤900000000)(h0:y≠0):Cn Tryz.prog 117 [Qs c x,Qs d y] (Qs (c+d) (x/y)):=by
 refine Cn.intro Tryz.func117 G zk nq (fun B w0 a U=>?_)
 have U:=zn [(0,Qs c x),(1,Qs d y)] [] U
 refine wp_seq<|zg [] [⟨2,27,ptrH,some 0,_,none⟩,⟨3,27,ptrH,some 1,_,none⟩,⟨4,27,ptrH,some 2,_,none⟩] [.alc 0,.alc 1,.alc 2] [] U (oc (ay G G G (gq 0 G)) (oc (ay G G G (gq 1 G)) (oc (aJ G G G (Str.zero b4)) o0))) (zz [] [O 2 27 _,O 3 27 _,O 4 27 _] fun a w U=>?_)
 refine zt<|zgd [[],[0],[],[2],[0,1,2,3],[],[5],[],[7],[0,1,2,3,4,5,6,7,8],[0,1,2,3,4,5,6,7,8,9],[0,1,2,3,4,5,6,7,8,9,10]] [none,none,some (11,_)] [] [.adr 5 2 (.some 0) True,.v 6 _,.adr 7 3 (.some 2) True,.v 8 _,.v 9 _,.adr 10 2 (.some 2) True,.v 11 _,.adr 12 3 (.some 0) True,.v 13 _,.v 14 _,.v 15 _,.sto 2] [] ab U (oc (ob_a G G (ac (lz0 0 G) aY)) (zL 0 0 0 G al (oc (ob_a G G (ac (lz0 1 G) aT)) (zL 2 1 1 G al (zv G (aa (xs:=[.tmp 6,.tmp 8]) (dp zo zo) (.cons (vq 1 G) (.cons (vq 3 G) .nil))) (oc (ob_a G G (ac (lz0 0 G) aT)) (zL 5 0 1 G al (oc (ob_a G G (ac (lz0 1 G) aY)) (zL 7 1 0 G al (zv G (aa (xs:=[.tmp 11,.tmp 13]) (dp zo zo) (.cons (vq 6 G) (.cons (vq 8 G) .nil))) (zv G (aa (xs:=[.tmp 9,.tmp 14]) (fp zo zo (yj x h0)) (.cons (vq 4 G) (.cons (vq 9 G) .nil))) (oc (aA G G G (vq 10 G) ax (Eq.trans (b:=4) G G)) o0)))))))))))) zk zk zk zk (zz [] [O 2 27 _,O 3 27 _,O 4 27 _] fun a w U=>?_)
 refine a7<|wp_ret<|ar ?_ (az G U (zm 2 G) ax)
 exact br (bc (congrArg (Qs _) (sw x y))) (bT zo).va
theorem neg_wk {c:Nat}{x:Rat}:WkA (cat [ZA c (-x.num),ZA c (x.den:Int)]) (QA c (-x)):=jJ (by unfold QA; rw [Rat.neg_num,Rat.neg_den])
theorem qx {c:Nat}{x:Rat}(hc:c≤900000000):Cn Tryz.prog 195 [Qs c x] (Qs c (-x)):=by
 refine Cn.intro Tryz.func195 G zk nq (fun B w0 a U=>?_)
 have U:=zn [(0,Qs c x)] [] U
 refine wp_seq<|zg [] [⟨1,27,ptrH,some 0,_,none⟩,⟨2,27,ptrH,some 1,_,none⟩] [.alc 0,.alc 1] [] U (oc (ay G G G (gq 0 G)) (oc (aJ G G G (Str.zero b4)) o0)) (zz [] [O 1 27 _,O 2 27 _] fun a w U=>?_)
 refine zt<|zgd [[],[0],[0,1],[],[3],[0,1,2,3,4],[0,1,2,3,4,5]] [none,some (6,_)] [] [.adr 3 1 (.some 0) True,.v 4 _,.v 5 _,.adr 6 1 (.some 2) True,.v 7 _,.v 8 _,.sto 1] [] ab U (oc (ob_a G G (ac (lz0 0 G) aY)) (zL 0 0 0 G al (zv G (aa (xs:=[.tmp 4]) (gI zo) (.cons (vq 1 G) .nil)) (oc (ob_a G G (ac (lz0 0 G) aT)) (zL 3 0 1 G al (zv G (bi (xs:=[(0,.tmp 5),(1,.tmp 7)]) (qs:=[(0,_),(1,_)]) b4 (.cons ⟨rfl,(vq 2 G),rfl⟩ (.cons ⟨rfl,(vq 4 G),rfl⟩ .nil))) (oc (aA G G G (vq 5 G) ax (Eq.trans (b:=4) G G)) o0))))))) zk zk zk zk (zz [] [O 1 27 _,O 2 27 _] fun a w U=>?_)
 refine a7<|wp_ret<|ar ?_ (az G U (zm 1 G) ax)
 exact neg_wk.va
theorem dZ {c d:Nat}{x y:Rat}(hc:c+d≤900000000):Cn Tryz.prog 128 [Qs c x,Qs d y] (Qs (c+d+1) (x-y)):=by
 refine Cn.intro Tryz.func128 G zk nq (fun B w0 a U=>?_)
 have U:=zn [(0,Qs c x),(1,Qs d y)] [] U
 refine wp_seq<|zg [] [⟨2,27,ptrH,some 0,_,none⟩,⟨3,27,ptrH,some 1,_,none⟩,⟨4,27,ptrH,some 2,_,none⟩] [.alc 0,.alc 1,.alc 2] [] U (oc (ay G G G (gq 0 G)) (oc (ay G G G (gq 1 G)) (oc (aJ G G G (Str.zero b4)) o0))) (zz [] [O 2 27 _,O 3 27 _,O 4 27 _] fun a w U=>?_)
 refine zt<|zgd [[],[],[1],[0,1,2],[0,1,2,3]] [none,none,some (4,_)] [] [.v 5 _,.v 6 _,.v 7 _,.v 8 _,.sto 2] [] ab U (zl 0 G ax (zl 1 G ax (zv G (aa (xs:=[.tmp 6]) (qx zo) (.cons (vq 1 G) .nil)) (zv G (aa (xs:=[.tmp 5,.tmp 7]) (kN zo) (.cons (vq 0 G) (.cons (vq 2 G) .nil))) (oc (aA G G G (vq 3 G) ax (Eq.trans (b:=4) G G)) o0))))) zk zk zk zk (zz [] [O 2 27 _,O 3 27 _,O 4 27 _] fun a w U=>?_)
 refine a7<|wp_ret<|ar ?_ (az G U (zm 2 G) ax)
 exact bc (congrArg (Qs _) (show x + -y=x-y by grind))
theorem cm_sgn (x y:Rat):(x.num*(y.den:Int)-y.num*(x.den:Int)).sign=cmQ x y:=by
 rw [← cm_sg,iN]
 unfold sg3
 generalize x.num*(y.den:Int)=u
 generalize y.num*(x.den:Int)=v
 by_cases h1:u<v
 ·rw [if_pos zo,if_pos h1]
 ·by_cases h2:v<u
  ·rw [if_neg zo,if_neg zo,if_neg h1,if_pos h2]
  ·rw [if_neg zo,if_pos zo,if_neg h1,if_neg h2]
theorem nH {c d:Nat}{x y:Rat}(hc:c+d≤900000000):Cn Tryz.prog 132 [Qs c x,Qs d y] (In (cmQ x y)):=by
 refine Cn.intro Tryz.func132 G zk nq (fun B w0 a U=>?_)
 have U:=zn [(0,Qs c x),(1,Qs d y)] [] U
 refine wp_seq<|zg [] [⟨2,27,ptrH,some 0,_,none⟩,⟨3,27,ptrH,some 1,_,none⟩] [.alc 0,.alc 1,.v 4 _] [.o 2] U (oc (ay G G G (gq 0 G)) (oc (ay G G G (gq 1 G)) (zv G (a9 a8) o0))) (zz [(4,_)] [O 2 27 _,O 3 27 _] fun a w U=>?_)
 refine zt<|zgd [[],[0],[],[2],[0,1,2,3],[],[5],[],[7],[0,1,2,3,4,5,6,7,8],[0,1,2,3,4,5,6,7,8,9],[],[0,1,2,3,4,5,6,7,8,9,10,11]] [none,none] [⟨5,25,ptrH,some 11,_,some (12,_)⟩] [.adr 6 2 (.some 0) True,.v 7 _,.adr 8 3 (.some 2) True,.v 9 _,.v 10 _,.adr 11 3 (.some 0) True,.v 12 _,.adr 13 2 (.some 2) True,.v 14 _,.v 15 _,.v 16 _,.alc 2,.sto 2] [.g 0] ab U (oc (ob_a G G (ac (lz0 0 G) aY)) (zL 0 0 0 G al (oc (ob_a G G (ac (lz0 1 G) aT)) (zL 2 1 1 G al (zv G (aa (xs:=[.tmp 7,.tmp 9]) (dp zo zo) (.cons (vq 1 G) (.cons (vq 3 G) .nil))) (oc (ob_a G G (ac (lz0 1 G) aY)) (zL 5 1 0 G al (oc (ob_a G G (ac (lz0 0 G) aT)) (zL 7 0 1 G al (zv G (aa (xs:=[.tmp 12,.tmp 14]) (dp zo zo) (.cons (vq 6 G) (.cons (vq 8 G) .nil))) (zv G (aa (xs:=[.tmp 10,.tmp 15]) (w7 zo zo) (.cons (vq 4 G) (.cons (vq 9 G) .nil))) (oc (aJ G G G (Str.zero bm)) (oc (aA G G G (vq 10 G) al (Eq.trans (b:=2) G G)) o0))))))))))))) zk zk zk zk (zz [(4,_)] [O 2 27 _,O 3 27 _,O 5 25 _] fun a w U=>?_)
 refine zt<|zg [none,none,none] [] [.v 17 _,.v 18 _,.v 4 _] [.o 2] U (zl 2 G al (zv G (aa (xs:=[.tmp 17]) nz (.cons (vq 0 G) .nil)) (zA 1 G o0))) (zz [(4,_)] [O 2 27 _,O 3 27 _,O 5 25 _] fun a w U=>?_)
 refine a7<|wp_ret<|ar ?_ (am G U (zm 0 G))
 exact bc (congrArg In (cm_sgn x y))
theorem fm {c:Nat}{x:Rat}:Cn Tryz.prog 123 [Qs c x] (In x.num.sign):=by
 refine Cn.intro Tryz.func123 G zk nq (fun B w0 a U=>?_)
 have U:=zn [(0,Qs c x)] [] U
 refine wp_seq<|zg [] [⟨1,27,ptrH,some 0,_,none⟩] [.alc 0,.v 2 _] [.o 1] U (oc (ay G G G (gq 0 G)) (zv G (a9 a8) o0)) (zz [(2,_)] [O 1 27 _] fun a w U=>?_)
 refine zt<|zg [none] [] [.adr 3 1 (.some 0) True,.v 4 _,.v 5 _,.v 2 _] [.o 3] U (oc (ob_a G G (ac (lz0 0 G) aY)) (zL 0 0 0 G al (zv G (aa (xs:=[.tmp 4]) nz (.cons (vq 1 G) .nil)) (zA 2 G o0)))) (zz [(2,_)] [O 1 27 _] fun a w U=>?_)
 refine a7<|wp_ret<|ar ?_ (am G U (zm 0 G))
 exact bh
theorem wb {c d:Nat}{x y:Rat}(hc:c+d≤900000000):Cn Tryz.prog 192 [Qs c x,Qs d y] (Bo (cmQ x y==0)):=by
 refine Cn.intro Tryz.func192 G zk nq (fun B w0 a U=>?_)
 have U:=zn [(0,Qs c x),(1,Qs d y)] [] U
 refine wp_seq<|zg [] [⟨2,27,ptrH,some 0,_,none⟩,⟨3,27,ptrH,some 1,_,none⟩] [.alc 0,.alc 1,.v 4 _] [.o 2] U (oc (ay G G G (gq 0 G)) (oc (ay G G G (gq 1 G)) (zv G (a9 aK) o0))) (zz [(4,_)] [O 2 27 _,O 3 27 _] fun a w U=>?_)
 refine zt<|zg [none,none] [] [.v 5 _,.v 6 _,.v 7 _,.v 8 _,.v 4 _] [.o 4] U (zl 0 G ax (zl 1 G ax (zv G (aa (xs:=[.tmp 5,.tmp 6]) (nH zo) (.cons (vq 0 G) (.cons (vq 1 G) .nil))) (zv G (bD (vq 2 G) a8) (zA 3 G o0))))) (zz [(4,_)] [O 2 27 _,O 3 27 _] fun a w U=>?_)
 refine a7<|wp_ret<|ar ?_ (am G U (zm 0 G))
 exact bh
theorem rchk1 {g:Nat}(h:decide ((1:Int)<((g:Nat):Int))=true):g≠1:=by have:=of_decide_eq_true h; omega
theorem rchk2 {g:Nat}(h:decide ((1:Int)<((g:Nat):Int))=false)(h0:g≠0):g=1:=by have:=of_decide_eq_false h; omega
theorem qz (xn xd:RI):Cn Tryz.prog 211 [(RFA ⟨xn,xd⟩).va] (In (if okF ⟨xn,xd⟩ then 0 else 1)):=by
 refine Cn.intro Tryz.func211 G zk nq (fun B w0 a U=>?_)
 have U:=zn [(0,(RFA ⟨xn,xd⟩).va)] [] U
 have hok:=kF (U.vals (0,(RFA ⟨xn,xd⟩).va) (zm 0 rfl))
 refine wp_seq<|zg [] [⟨1,27,ptrH,some 0,_,none⟩] [.alc 0,.v 2 _] [.o 1] U (oc (ay G G G (gq 0 G)) (zv G (a9 a8) o0)) (zz [(2,_)] [O 1 27 _] fun a w U=>?_)
 refine zt<|wp_seq<|zg [none] [] [.adr 4 1 (.some 0) True,.v 5 _,.v 6 _,.v 7 _,.v 8 _,.adr 9 1 (.some 2) (_=false),.v 10 (Wh (_=false) _),.v 11 (Wh (_=false) _),.v 12 (Wh (_=false) _),.v 13 _,.v 14 _,.adr 15 1 (.some 2) (_=false),.v 16 (Wh (_=false) _),.v 17 (Wh (_=false) _),.v 18 (Wh (_=false) _),.v 19 _] [.g 0,.o 15] U (oc (ob_a G G (ac (lz0 0 G) aY)) (zL 0 0 0 G al (zv G (aa (xs:=[.tmp 5]) (oW _) (.cons (vq 1 G) .nil)) (zv G (cI (vq 2 G) a8) (zv G (ae (vq 3 G)) (oc (bM G G G (vq 4 G) nq (fun hg=>ac (lz0 0 G) aT)) (oc (an G G G (vq 4 G) nq (fun hg=>aD 5 G zk hg (lz0 0 G) (Sub.part 1 G G) al)) (oc (an G G G (vq 4 G) nq (fun hg=>aa (xs:=[.tmp 10]) (oW _) (.cons (ai (vq 6 G) hg) .nil))) (oc (an G G G (vq 4 G) nq (fun hg=>cI (ai (vq 7 G) hg) a8)) (zv G (r_or (vq 4 G) (vq 8 G)) (zv G (ae (vq 9 G)) (oc (bM G G G (vq 10 G) nq (fun hg=>ac (lz0 0 G) aT)) (oc (an G G G (vq 10 G) nq (fun hg=>aD 11 G zk hg (lz0 0 G) (Sub.part 1 G G) al)) (oc (an G G G (vq 10 G) nq (fun hg=>aa (xs:=[.tmp 16]) (iP _) (.cons (ai (vq 12 G) hg) .nil))) (oc (an G G G (vq 10 G) nq (fun hg=>qv (ai (vq 13 G) hg) a8)) (zv G (r_or (vq 10 G) (vq 14 G)) o0)))))))))))))))) (zz [(2,_),(19,_)] [O 1 27 _] fun a w U=>?_)
 refine a7<|ah U (zm 1 G) (fun hb0=>?_) (fun hb0=>?_)
 ·refine wp_seq<|zg [none] [] [.v 2 _] [.o 0] U (zv G (a9 a8) o0) (zz [(2,_)] [O 1 27 _] fun a w U=>?_)
  refine a7<|wp_ret<|ap ?_
  refine ar ?_ (am G U (zm 0 G))
  exact bc (congrArg In (yV hb0))
 ·rw [Bool.or_eq_false_iff,Bool.or_eq_false_iff] at hb0
  obtain ⟨p,rfl,hp⟩:=k9 hok.1 (ok1 hb0.1.1)
  obtain ⟨q,rfl,hq⟩:=k9 hok.2 (ok1 hb0.1.2)
  have hq0:0<sgI (riOf q):=by have h2:¬ sgI (riOf q)≤0:=of_decide_eq_false hb0.2; omega
  have hqn:q≠0:=fun e=>by rw [e,de] at hq0; exact absurd hq0 zd
  have hgn:Int.gcd p q≠0:=by have:=Int.gcd_pos_of_ne_zero_right p hqn; omega
  refine wp_skip<|zt<|zg [none] [⟨3,25,ptrH,some 5,_,some (6,_)⟩] [.adr 20 1 (.some 0) True,.v 21 _,.adr 22 1 (.some 2) True,.v 23 _,.v 24 _,.alc 1,.sto 1] [.g 0] U (oc (ob_a G G (ac (lz0 0 G) aY)) (zL 0 0 0 G al (oc (ob_a G G (ac (lz0 0 G) aT)) (zL 2 0 1 G al (zv G (aa (xs:=[.tmp 21,.tmp 23]) (iS p q zo zo) (.cons (vq 1 G) (.cons (vq 3 G) .nil))) (oc (aJ G G G (Str.zero bm)) (oc (aA G G G (vq 4 G) al (Eq.trans (b:=2) G G)) o0))))))) (zz [(2,_)] [O 1 27 _,O 3 25 _] fun a w U=>?_)
  refine zt<|wp_seq<|zgd [[],[],[0,1]] [none,none] [] [.v 25 _,.v 26 _,.v 27 _] [.g 0,.o 2] ab U (zv G (aa (xs:=[.const (.int .i64 (1))]) (w6 1 zd zd) (.cons a8 .nil)) (zl 1 G al (zv G (aa (xs:=[.tmp 25,.tmp 26]) (wa _ _) (.cons (vq 0 G) (.cons (vq 1 G) .nil))) o0))) zk zk zk zk (zz [(2,_),(27,_)] [O 1 27 _,O 3 25 _] fun a w U=>?_)
  refine a7<|ah U (zm 1 G) (fun hb1=>?_) (fun hb1=>?_)
  ·refine wp_seq<|zg [none,none] [] [.v 2 _] [.o 0] U (zv G (a9 a8) o0) (zz [(2,_)] [O 1 27 _,O 3 25 _] fun a w U=>?_)
   refine a7<|wp_ret<|ap ?_
   refine ar ?_ (am G U (zm 0 G))
   have e1:=rchk1 hb1; exact bc (congrArg In (by rw [show okF ⟨riOf p,riOf q⟩=false from by unfold okF; rw [bx,bx]; simp [show ¬ Nat.gcd p.natAbs q.natAbs=1 from e1]]; rfl))
  ·refine wp_skip<|zt<|zg [none,none] [] [.v 2 _] [.o 0] U (zv G (a9 a8) o0) (zz [(2,_)] [O 1 27 _,O 3 25 _] fun a w U=>?_)
   refine a7<|wp_ret<|ar ?_ (am G U (zm 0 G))
   have e1:=rchk2 hb1 hgn; exact bc (congrArg In (by rw [show okF ⟨riOf p,riOf q⟩=true from by unfold okF; rw [bx,bx,ok1 hb0.1.1,ok1 hb0.1.2]; simp [hq0,show Nat.gcd p.natAbs q.natAbs=1 from e1]]; rfl))
theorem rb : ∃ fn, Tryz.prog.funcs[211]? = some fn ∧ (fn.name == "runtime.NumGoroutine") = false ∧ fn.body.isNone = false := ⟨_, Tryz.func211, by kernel_rfl, by kernel_rfl⟩
theorem sH (x:RF):Cn Tryz.prog 211 [(RFA x).va] (In (if okX x then 0 else 1)) :=
 Cn.know (c:=okL x.num.mag∧okL x.den.mag) rb (fun B w args ha=>by cases ha with | cons h1 _=>exact kF h1) fun h=>(qz x.num x.den).post (by rw [p9 h])
theorem jZ (xs:List RF)(hl:xs.length≤1099511627776):Cn Tryz.prog 180 [(SlA 27 [U32] (xs.map RFA)).va] (Bo (xs.all okX)):=by
 refine Cn.introW Tryz.func180 rfl zk nq (.cons (ns (fun A hA=>by obtain ⟨x,_,rfl⟩:=List.mem_map.1 hA; exact cY x)).va .nil) (eF _).va (fun B w0 a hB0 U=>?_)
 have U:=zn [(0,(SlO 27 [U32] (xs.map RFA) True).va)] [] U
 refine wp_seq<|zh [.v 2 _] [.g 0,.o 0] U (zv G (a9 aK) o0) (zz [(0,_),(2,_)] [] fun a w U=>?_)
 refine zt<|wp_seq<|zh [.v 3 _] [.g 0,.g 1,.o 0] U (zv G (a9 a8) o0) (zz [(0,_),(2,_),(3,_)] [] fun a w U=>?_)
 refine a7<|wp_block ?_
 have U:=St.sel U [0,2]
 refine wp_loop_ghost (fun n a w=>∃ j:Nat,(n+j=xs.length∧(xs.take j).all okX=true)∧St B w0 16 [(0,(SlO 27 [U32] (xs.map RFA) True).va),(3,In (j:Nat))] [] a w) (xs.length) ?_ ?_
 ·exact ⟨0,⟨by omega,rfl⟩,U⟩
 intro n a w hI
 obtain ⟨j,⟨hn,hno⟩,U⟩:=hI
 refine wp_seq<|wp_seq<|zh [.v 4 _,.v 5 _,.v 6 _,.v 7 _] [.g 0,.g 1,.o 3] U (zM 1 G (zM 0 G (zv G (be Tryz.underlying128 (cE (aL (vq 1 G)))) (zv G (aN (vq 0 G) (vq 2 G)) o0)))) (zz [(0,_),(3,_),(7,_)] [] fun a w U=>?_)
 refine a7<|ah U (zm 2 G) (fun hb0=>?_) (fun hb0=>?_)
 ·have hj:j<xs.length:=by simp at hb0; omega
  refine wp_skip<|zt<|wp_block<|wp_seq<|zh [.v 10 _,.v 11 _,.v 12 _,.v 13 _,.v 14 _,.v 15 _] [.g 0,.g 1,.o 5] U (zM 0 G (zM 1 G (zv G (cB fS (fM fun _=>rfl) (cE (aL (vq 0 G))) (vq 1 G) (dD hj)) (zv G (aq (vq 2 G) ax) (zv G (aa (xs:=[.tmp 13]) (sH _) (.cons (vq 3 G) .nil)) (zv G (cI (vq 4 G) a8) o0)))))) (zz [(0,_),(3,_),(15,_)] [] fun a w U=>?_)
  refine a7<|ah U (zm 2 G) (fun hb1=>?_) (fun hb1=>?_)
  ·refine wp_seq<|zh [.v 2 _] [.g 0,.g 1,.o 0] U (zv G (a9 aK) o0) (zz [(0,_),(3,_),(2,_)] [] fun a w U=>?_)
   refine a7<|wp_ret<|aV ?_
   refine ap ?_
   refine ap ?_
   refine aV ?_
   refine ap ?_
   refine aB ?_ (am G U (zm 2 G))
   rw [← ok_no hj hb1]
  ·refine wp_skip<|ao ?_
   refine a7<|zh [.v 8 _,.v 9 _,.v 3 _] [.g 0,.o 2] U (zM 1 G (zv G (aR (vq 0 G) a8 (aX zo)) (zA 1 G o0))) (zz [(0,_),(3,_)] [] fun a w U=>?_)
   refine a7 ?_
   have U:=St.sel U [0,1]
   exact ⟨n-1,by omega,j+1,⟨by omega,yi hj hno hb1⟩,U⟩
 ·obtain rfl:j=xs.length:=by simp at hb0; omega
  refine wp_exit<|ak<|ak<|aC<|zt<|zh [.v 2 _] [.o 0] U (zv G (a9 aK) o0) (zz [(2,_)] [] fun a w U=>?_)
  refine a7<|wp_ret<|aB ?_ (am G U (zm 0 G))
  rw [List.take_length] at hno; rw [hno]
theorem sC {c d e f:Nat}{x y z u:Rat}(hk:c+d+e+f≤900000000):Cn Tryz.prog 193 [Qs c x,Qs d y,Qs e z,Qs f u] (Qs (c+f+(d+e)+1) (x*u-y*z)):=by
 refine Cn.intro Tryz.func193 G zk nq (fun B w0 a U=>?_)
 have U:=zn [(0,Qs c x),(1,Qs d y),(2,Qs e z),(3,Qs f u)] [] U
 refine wp_seq<|zg [] [⟨4,27,ptrH,some 0,_,none⟩,⟨5,27,ptrH,some 1,_,none⟩,⟨6,27,ptrH,some 2,_,none⟩,⟨7,27,ptrH,some 3,_,none⟩,⟨8,27,ptrH,some 4,_,none⟩] [.alc 0,.alc 1,.alc 2,.alc 3,.alc 4] [] U (oc (ay G G G (gq 0 G)) (oc (ay G G G (gq 1 G)) (oc (ay G G G (gq 2 G)) (oc (ay G G G (gq 3 G)) (oc (aJ G G G (Str.zero b4)) o0))))) (zz [] [O 4 27 _,O 5 27 _,O 6 27 _,O 7 27 _,O 8 27 _] fun a w U=>?_)
 refine zt<|zgd [[],[],[0,1],[],[],[0,1,2,3,4],[0,1,2,3,4,5],[0,1,2,3,4,5,6]] [none,none,none,none,some (7,_)] [] [.v 9 _,.v 10 _,.v 11 _,.v 12 _,.v 13 _,.v 14 _,.v 15 _,.sto 4] [] ab U (zl 0 G ax (zl 3 G ax (zv G (aa (xs:=[.tmp 9,.tmp 10]) (iR zo) (.cons (vq 0 G) (.cons (vq 1 G) .nil))) (zl 1 G ax (zl 2 G ax (zv G (aa (xs:=[.tmp 12,.tmp 13]) (iR zo) (.cons (vq 3 G) (.cons (vq 4 G) .nil))) (zv G (aa (xs:=[.tmp 11,.tmp 14]) (dZ zo) (.cons (vq 2 G) (.cons (vq 5 G) .nil))) (oc (aA G G G (vq 6 G) ax (Eq.trans (b:=4) G G)) o0)))))))) zk zk zk zk (zz [] [O 4 27 _,O 5 27 _,O 6 27 _,O 7 27 _,O 8 27 _] fun a w U=>?_)
 refine a7<|wp_ret<|ar ?_ (az G U (zm 4 G) ax)
 exact bh
theorem AL {m:RM}(h:[m.a,m.b,m.c,m.d].all okX=true):Cn Tryz.prog 193 [(RFA m.a).va,(RFA m.b).va,(RFA m.c).va,(RFA m.d).va] (Qs 8193 (toQ m.a*toQ m.d-toQ m.b*toQ m.c)):=by
 simp only [List.all_cons,List.all_nil,Bool.and_true,Bool.and_eq_true] at h
 exact (sC (c:=2048) (d:=2048) (e:=2048) (f:=2048) zd).wk (.cons (qa_x h.1 (Nat.le_refl _)).va (.cons (qa_x h.2.1 (Nat.le_refl _)).va (.cons (qa_x h.2.2.1 (Nat.le_refl _)).va (.cons (qa_x h.2.2.2 (Nat.le_refl _)).va .nil))))
theorem AJ {m:RM}:Bo ([m.a,m.b,m.c,m.d].all okX&&(cmQ (toQ m.a*toQ m.d-toQ m.b*toQ m.c) 1==0))=Bo (okM m):=by rw [uN]; rfl
theorem AK (m:RM):Cn Tryz.prog 125 [(RMA m).va] (Bo (okM m)):=by
 refine Cn.intro Tryz.func125 G zk nq (fun B w0 a U=>?_)
 have U:=zn [(0,(RMA m).va)] [] U
 refine wp_seq<|zg [] [⟨1,29,ptrH,some 0,_,none⟩] [.alc 0,.v 2 _] [.o 1] U (oc (ay G G G (gq 0 G)) (zv G (a9 aK) o0)) (zz [(2,_)] [O 1 29 _] fun a w U=>?_)
 refine zt<|gl (sts:=[none]) (news:=[]) (sp:=((.adr 3 1 (.some 0) True:Sp)::(.v 4 _)::(.adr 5 1 (.some 4) True)::(.v 6 _)::(.adr 7 1 (.some 8) True)::(.v 8 _)::(.adr 9 1 (.some 12) True)::(.v 10 _)::(.v 11 _)::(.v 12 _)::(.v 13 _)::(.adr 14 1 (.some 0) (_=true))::(.v 15 (Wh (_=true) _))::(.adr 16 1 (.some 4) (_=true))::(.v 17 (Wh (_=true) _))::(.adr 18 1 (.some 8) (_=true))::(.v 19 (Wh (_=true) _))::(.adr 20 1 (.some 12) (_=true))::(.v 21 (Wh (_=true) _))::(.v 22 (Wh (_=true) _))::(.v 23 (Wh (_=true) _))::(.v 24 (Wh (_=true) _))::(.v 25 _)::(.v 2 _)::[])) [.o 23] U (oc (ob_a G G (ac (lz0 0 G) bG)) (zL 0 0 0 G ax (oc (ob_a G G (ac (lz0 0 G) bF)) (zL 2 0 1 G ax (oc (ob_a G G (ac (lz0 0 G) bU)) (zL 4 0 2 G ax (oc (ob_a G G (ac (lz0 0 G) bW)) (zL 6 0 3 G ax (zv G (cz (D:=[U32]) (l:=[_,_,_,_]) (xs:=[.tmp 4,.tmp 6,.tmp 8,.tmp 10]) (dK zk) fS zk (n_ok zk) nq nq nq (.cons (vq 1 G) (.cons (vq 3 G) (.cons (vq 5 G) (.cons (vq 7 G) .nil)))) G G) (zv G (aa (xs:=[.tmp 11]) (jZ [m.a,m.b,m.c,m.d] nq) (.cons (vq 8 G) .nil)) (zv G (ae (vq 9 G)) (oc (bM G G G (vq 10 G) nq (fun hg=>ac (lz0 0 G) bG)) (oc (an G G G (vq 10 G) nq (fun hg=>aD 11 G zk hg (lz0 0 G) (Sub.part 0 G G) ax)) (oc (bM G G G (vq 10 G) nq (fun hg=>ac (lz0 0 G) bF)) (oc (an G G G (vq 10 G) nq (fun hg=>aD 13 G zk hg (lz0 0 G) (Sub.part 1 G G) ax)) (oc (bM G G G (vq 10 G) nq (fun hg=>ac (lz0 0 G) bU)) (oc (an G G G (vq 10 G) nq (fun hg=>aD 15 G zk hg (lz0 0 G) (Sub.part 2 G G) ax)) (oc (bM G G G (vq 10 G) nq (fun hg=>ac (lz0 0 G) bW)) (oc (an G G G (vq 10 G) nq (fun hg=>aD 17 G zk hg (lz0 0 G) (Sub.part 3 G G) ax)) (oc (an G G G (vq 10 G) nq (fun hg=>aa (xs:=[.tmp 15,.tmp 17,.tmp 19,.tmp 21]) (AL hg) (.cons (ai (vq 12 G) hg) (.cons (ai (vq 14 G) hg) (.cons (ai (vq 16 G) hg) (.cons (ai (vq 18 G) hg) .nil)))))) (oc (an G G G (vq 10 G) nq (fun hg=>aa (xs:=[]) sG .nil)) (oc (an G G G (vq 10 G) nq (fun hg=>aa (xs:=[.tmp 22,.tmp 23]) (wb zo) (.cons (ai (vq 19 G) hg) (.cons (ai (vq 20 G) hg) .nil)))) (zv G (bJ (vq 10 G) (vq 21 G)) (zA 22 G o0)))))))))))))))))))))))) (zz [(2,_)] [O 1 29 _] fun a w U=>?_)
 refine a7<|wp_ret<|ar ?_ (am G U (zm 0 G))
 exact bc AJ
theorem sD (m:RM):Cn Tryz.prog 41 [(RMA m).va] (In (if okM m then 0 else 1)):=by
 refine Cn.intro Tryz.func41 G zk nq (fun B w0 a U=>?_)
 have U:=zn [(0,(RMA m).va)] [] U
 refine wp_seq<|zg [] [⟨1,29,ptrH,some 0,_,none⟩] [.alc 0,.v 2 _] [.o 1] U (oc (ay G G G (gq 0 G)) (zv G (a9 a8) o0)) (zz [(2,_)] [O 1 29 _] fun a w U=>?_)
 refine zt<|wp_seq<|zg [none] [] [.v 3 _,.v 4 _,.v 5 _] [.g 0,.o 2] U (zl 0 G dg (zv G (aa (xs:=[.tmp 3]) (AK m) (.cons (vq 0 G) .nil)) (zv G (dS (vq 1 G)) o0))) (zz [(2,_),(5,_)] [O 1 29 _] fun a w U=>?_)
 refine a7<|ah U (zm 1 G) (fun hb0=>?_) (fun hb0=>?_)
 ·refine wp_seq<|zg [none] [] [.v 2 _] [.o 0] U (zv G (a9 a8) o0) (zz [(2,_)] [O 1 29 _] fun a w U=>?_)
  refine a7<|wp_ret<|ap ?_
  refine ar ?_ (am G U (zm 0 G))
  rw [if_neg (by intro e; rw [e] at hb0; exact absurd hb0 zd)]; exact bh
 ·refine wp_skip<|zt<|zg [none] [] [.v 2 _] [.o 0] U (zv G (a9 a8) o0) (zz [(2,_)] [O 1 29 _] fun a w U=>?_)
  refine a7<|wp_ret<|ar ?_ (am G U (zm 0 G))
  rw [if_pos (by simpa using hb0)]; exact bh
theorem kd6 {k ps qs:Int}(h1:(k==1)=false)(h2:(k==2)=false)(h3:(k==3)=false)(h4:(k==4)=false)(h5:(k==5)=true):elK k ps qs=((ps==0)&&(qs==0)):=by rw [kd5 h1 h2 h3 h4,h5]; rfl
theorem kd7 {k ps qs:Int}(h1:(k==1)=false)(h2:(k==2)=false)(h3:(k==3)=false)(h4:(k==4)=false)(h5:(k==5)=false):elK k ps qs=false:=by rw [kd5 h1 h2 h3 h4,h5]; rfl
theorem dC {c:Nat}{x:Rat}:Cn Tryz.prog 39 [Qs c x] (Bo (x.num.sign==0)):=by
 refine Cn.intro Tryz.func39 G zk nq (fun B w0 a U=>?_)
 have U:=zn [(0,Qs c x)] [] U
 refine wp_seq<|zg [] [⟨1,27,ptrH,some 0,_,none⟩] [.alc 0,.v 2 _] [.o 1] U (oc (ay G G G (gq 0 G)) (zv G (a9 aK) o0)) (zz [(2,_)] [O 1 27 _] fun a w U=>?_)
 refine zt<|zg [none] [] [.v 3 _,.v 4 _,.v 5 _,.v 2 _] [.o 3] U (zl 0 G ax (zv G (aa (xs:=[.tmp 3]) fm (.cons (vq 0 G) .nil)) (zv G (bD (vq 1 G) a8) (zA 2 G o0)))) (zz [(2,_)] [O 1 27 _] fun a w U=>?_)
 refine a7<|wp_ret<|ar ?_ (am G U (zm 0 G))
 exact bh
theorem wd (x:RE):Cn Tryz.prog 115 [(REA x).va] (Bo (elF x)):=by
 refine Cn.intro Tryz.func115 G zk nq (fun B w0 a U=>?_)
 have U:=zn [(0,(REA x).va)] [] U
 refine wp_seq<|zg [] [⟨1,67,ptrH,some 0,_,none⟩] [.alc 0,.v 2 _] [.o 1] U (oc (ay G G G (gq 0 G)) (zv G (a9 aK) o0)) (zz [(2,_)] [O 1 67 _] fun a w U=>?_)
 refine zt<|wp_seq<|zg [none] [] [.adr 3 1 (.some 1) True,.v 4 _,.adr 5 1 (.some 5) True,.v 6 _,.v 7 _,.v 8 _,.v 9 _] [.g 0,.o 6] U (oc (ob_a G G (ac (lz0 0 G) bg)) (zL 0 0 1 G ax (oc (ob_a G G (ac (lz0 0 G) bK)) (zL 2 0 2 G ax (zv G (cz (D:=[U32]) (l:=[_,_]) (xs:=[.tmp 4,.tmp 6]) (dK zk) fS zk (n_ok zk) nq nq nq (.cons (vq 1 G) (.cons (vq 3 G) .nil)) G G) (zv G (aa (xs:=[.tmp 7]) (jZ [x.p,x.q] nq) (.cons (vq 4 G) .nil)) (zv G (dS (vq 5 G)) o0))))))) (zz [(2,_),(9,_)] [O 1 67 _] fun a w U=>?_)
 refine a7<|ah U (zm 1 G) (fun hb0=>?_) (fun hb0=>?_)
 ·refine wp_seq<|zg [none] [] [.v 2 _] [.o 0] U (zv G (a9 aK) o0) (zz [(2,_)] [O 1 67 _] fun a w U=>?_)
  refine a7<|wp_ret<|ap ?_
  refine ar ?_ (am G U (zm 0 G))
  rw [yN hb0]; exact bh
 ·obtain ⟨hx,he⟩:=yM hb0
  have U:=St.wkL U 0 rfl (el_q hx)
  refine wp_skip<|zt<|wp_seq<|zg [none] [] [.adr 10 1 (.some 0) True,.v 11 _] [.g 0,.o 1] U (oc (ob_a G G (ac (lz0 0 G) bP)) (zL 0 0 0 G er o0)) (zz [(2,_),(11,_)] [O 1 67 _] fun a w U=>?_)
  refine a7<|wp_block<|wp_seq<|zg [none] [] [.v 13 _,.v 12 _] [.g 0,.g 1,.o 1] U (zv G (bD (gq 1 G) a8) (zA 0 G o0)) (zz [(2,_),(11,_),(12,_)] [O 1 67 _] fun a w U=>?_)
  refine a7<|ah U (zm 2 G) (fun hb1=>?_) (fun hb1=>?_)
  ·refine wp_seq<|zg [none] [] [.adr 14 1 (.some 1) True,.v 15 _,.v 16 _,.v 17 _,.v 18 _,.adr 19 1 (.some 5) (_=true),.v 20 (Wh (_=true) _),.v 21 (Wh (_=true) _),.v 22 _,.v 2 _] [.o 9] U (oc (ob_a G G (ac (lz0 0 G) bg)) (zL 0 0 1 G ax (zv G (aa (xs:=[.tmp 15]) fm (.cons (vq 1 G) .nil)) (zv G (eK (vq 2 G) a8) (zv G (ae (vq 3 G)) (oc (bM G G G (vq 4 G) nq (fun hg=>ac (lz0 0 G) bK)) (oc (an G G G (vq 4 G) nq (fun hg=>aD 5 G zk hg (lz0 0 G) (Sub.part 2 G G) ax)) (oc (an G G G (vq 4 G) nq (fun hg=>aa (xs:=[.tmp 20]) dC (.cons (ai (vq 6 G) hg) .nil))) (zv G (bJ (vq 4 G) (vq 7 G)) (zA 8 G o0)))))))))) (zz [(2,_)] [O 1 67 _] fun a w U=>?_)
   refine a7<|wp_ret<|aV ?_
   refine ap ?_
   refine ar ?_ (am G U (zm 0 G))
   rw [he,kd1 hb1]; exact bh
  ·refine wp_seq<|zg [none] [] [.v 24 _,.v 23 _] [.g 0,.g 1,.o 1] U (zv G (bD (gq 1 G) a8) (zA 0 G o0)) (zz [(2,_),(11,_),(23,_)] [O 1 67 _] fun a w U=>?_)
   refine a7<|ah U (zm 2 G) (fun hb2=>?_) (fun hb2=>?_)
   ·refine wp_seq<|zg [none] [] [.adr 25 1 (.some 5) True,.v 26 _,.v 27 _,.v 2 _] [.o 3] U (oc (ob_a G G (ac (lz0 0 G) bK)) (zL 0 0 2 G ax (zv G (aa (xs:=[.tmp 26]) dC (.cons (vq 1 G) .nil)) (zA 2 G o0)))) (zz [(2,_)] [O 1 67 _] fun a w U=>?_)
    refine a7<|wp_ret<|aV ?_
    refine ap ?_
    refine ar ?_ (am G U (zm 0 G))
    rw [he,kd2 hb1 hb2]; exact bh
   ·refine wp_seq<|zg [none] [] [.v 29 _,.v 28 _] [.g 0,.g 1,.o 1] U (zv G (bD (gq 1 G) a8) (zA 0 G o0)) (zz [(2,_),(11,_),(28,_)] [O 1 67 _] fun a w U=>?_)
    refine a7<|ah U (zm 2 G) (fun hb3=>?_) (fun hb3=>?_)
    ·refine wp_seq<|zg [none] [] [.adr 30 1 (.some 1) True,.v 31 _,.v 32 _,.v 33 _,.v 34 _,.adr 35 1 (.some 5) (_=true),.v 36 (Wh (_=true) _),.v 37 (Wh (_=true) _),.v 38 (Wh (_=true) _),.v 39 _,.v 2 _] [.o 10] U (oc (ob_a G G (ac (lz0 0 G) bg)) (zL 0 0 1 G ax (zv G (aa (xs:=[.tmp 31]) fm (.cons (vq 1 G) .nil)) (zv G (eK (vq 2 G) a8) (zv G (ae (vq 3 G)) (oc (bM G G G (vq 4 G) nq (fun hg=>ac (lz0 0 G) bK)) (oc (an G G G (vq 4 G) nq (fun hg=>aD 5 G zk hg (lz0 0 G) (Sub.part 2 G G) ax)) (oc (an G G G (vq 4 G) nq (fun hg=>aa (xs:=[.tmp 36]) fm (.cons (ai (vq 6 G) hg) .nil))) (oc (an G G G (vq 4 G) nq (fun hg=>dJ (ai (vq 7 G) hg) a8)) (zv G (bJ (vq 4 G) (vq 8 G)) (zA 9 G o0))))))))))) (zz [(2,_)] [O 1 67 _] fun a w U=>?_)
     refine a7<|wp_ret<|aV ?_
     refine ap ?_
     refine ar ?_ (am G U (zm 0 G))
     rw [he,kd3 hb1 hb2 hb3]; exact bh
    ·refine wp_seq<|zg [none] [] [.v 41 _,.v 40 _] [.g 0,.g 1,.o 1] U (zv G (bD (gq 1 G) a8) (zA 0 G o0)) (zz [(2,_),(11,_),(40,_)] [O 1 67 _] fun a w U=>?_)
     refine a7<|ah U (zm 2 G) (fun hb4=>?_) (fun hb4=>?_)
     ·refine wp_seq<|zg [none] [] [.v 2 _] [.o 0] U (zv G (a9 aK) o0) (zz [(2,_)] [O 1 67 _] fun a w U=>?_)
      refine a7<|wp_ret<|aV ?_
      refine ap ?_
      refine ar ?_ (am G U (zm 0 G))
      rw [he,kd4 hb1 hb2 hb3 hb4]; exact bh
     ·refine wp_seq<|zg [none] [] [.v 43 _,.v 42 _] [.g 0,.o 1] U (zv G (bD (gq 1 G) a8) (zA 0 G o0)) (zz [(2,_),(42,_)] [O 1 67 _] fun a w U=>?_)
      refine a7<|ah U (zm 1 G) (fun hb5=>?_) (fun hb5=>?_)
      ·refine wp_seq<|zg [none] [] [.adr 44 1 (.some 1) True,.v 45 _,.v 46 _,.v 47 _,.adr 48 1 (.some 5) (_=true),.v 49 (Wh (_=true) _),.v 50 (Wh (_=true) _),.v 51 _,.v 2 _] [.o 8] U (oc (ob_a G G (ac (lz0 0 G) bg)) (zL 0 0 1 G ax (zv G (aa (xs:=[.tmp 45]) dC (.cons (vq 1 G) .nil)) (zv G (ae (vq 2 G)) (oc (bM G G G (vq 3 G) nq (fun hg=>ac (lz0 0 G) bK)) (oc (an G G G (vq 3 G) nq (fun hg=>aD 4 G zk hg (lz0 0 G) (Sub.part 2 G G) ax)) (oc (an G G G (vq 3 G) nq (fun hg=>aa (xs:=[.tmp 49]) dC (.cons (ai (vq 5 G) hg) .nil))) (zv G (bJ (vq 3 G) (vq 6 G)) (zA 7 G o0))))))))) (zz [(2,_)] [O 1 67 _] fun a w U=>?_)
       refine a7<|wp_ret<|aV ?_
       refine ap ?_
       refine ar ?_ (am G U (zm 0 G))
       rw [he,kd6 hb1 hb2 hb3 hb4 hb5]; exact bh
      ·refine wp_skip<|ao ?_
       refine zt<|zg [none] [] [.v 2 _] [.o 0] U (zv G (a9 aK) o0) (zz [(2,_)] [O 1 67 _] fun a w U=>?_)
       refine a7<|wp_ret<|ar ?_ (am G U (zm 0 G))
       rw [he,kd7 hb1 hb2 hb3 hb4 hb5]; exact bh
theorem qD (xs:List RE):Cn Tryz.prog 35 [(SlA 67 [U32] (xs.map REA)).va] (In (chF xs)):=by
 refine Cn.intro Tryz.func35 G zk nq (fun B w0 a U=>?_)
 have U:=zn [(0,(SlA 67 [U32] (xs.map REA)).va)] [] U
 refine wp_seq<|zh [.v 2 _] [.g 0,.o 0] U (zv G (a9 a8) o0) (zz [(0,_),(2,_)] [] fun a w U=>?_)
 refine zt<|wp_seq<|zh [.v 4 _,.v 5 _,.v 6 _] [.g 0,.g 1,.o 2] U (zM 0 G (zv G (be Tryz.underlying22 (vq 0 G)) (zv G (dJ (vq 1 G) a8) o0))) (zz [(0,_),(2,_),(6,_)] [] fun a w U=>?_)
 refine a7<|ah U (zm 2 G) (fun hb0=>?_) (fun hb0=>?_)
 ·have hbig:xs.length>4096:=by rw [List.length_map] at hb0; have:=of_decide_eq_true hb0; omega
  refine wp_seq<|zh [.v 2 _] [.g 0,.o 0] U (zv G (a9 a8) o0) (zz [(0,_),(2,_)] [] fun a w U=>?_)
  refine a7<|wp_ret<|ap ?_
  refine ar ?_ (am G U (zm 1 G))
  rw [chF,if_pos hbig]; exact bh
 ·have hbig:¬ xs.length>4096:=by rw [List.length_map] at hb0; have:=of_decide_eq_false hb0; omega
  refine wp_skip<|zt<|wp_seq<|zh [.v 3 _] [.g 0,.g 1,.o 0] U (zv G (a9 a8) o0) (zz [(0,_),(2,_),(3,_)] [] fun a w U=>?_)
  refine a7<|wp_block ?_
  have U:=St.sel U [0,2]
  refine wp_loop_ghost (fun n a w=>∃ j:Nat,(n+j=xs.length∧(xs.take j).all elF=true)∧St B w0 19 [(0,(SlA 67 [U32] (xs.map REA)).va),(3,In (j:Nat))] [] a w) (xs.length) ?_ ?_
  ·exact ⟨0,⟨by omega,rfl⟩,U⟩
  intro n a w hI
  obtain ⟨j,⟨hn,hno⟩,U⟩:=hI
  refine wp_seq<|wp_seq<|zh [.v 7 _,.v 8 _,.v 9 _,.v 10 _] [.g 0,.g 1,.o 3] U (zM 1 G (zM 0 G (zv G (be Tryz.underlying22 (vq 1 G)) (zv G (aN (vq 0 G) (vq 2 G)) o0)))) (zz [(0,_),(3,_),(10,_)] [] fun a w U=>?_)
  refine a7<|ah U (zm 2 G) (fun hb1=>?_) (fun hb1=>?_)
  ·have hj:j<xs.length:=by rw [List.length_map] at hb1; have:=of_decide_eq_true hb1; omega
   refine wp_skip<|zt<|wp_block<|wp_seq<|zh [.v 13 _,.v 14 _,.v 15 _,.v 16 _,.v 17 _,.v 18 _] [.g 0,.g 1,.o 5] U (zM 0 G (zM 1 G (zv G (cB cC (fM fun _=>rfl) (vq 0 G) (vq 1 G) (dD hj)) (zv G (aq (vq 2 G) cb) (zv G (aa (xs:=[.tmp 16]) (wd _) (.cons (vq 3 G) .nil)) (zv G (dS (vq 4 G)) o0)))))) (zz [(0,_),(3,_),(18,_)] [] fun a w U=>?_)
   refine a7<|ah U (zm 2 G) (fun hb2=>?_) (fun hb2=>?_)
   ·refine wp_seq<|zh [.v 2 _] [.g 0,.g 1,.o 0] U (zv G (a9 a8) o0) (zz [(0,_),(3,_),(2,_)] [] fun a w U=>?_)
    refine a7<|wp_ret<|aV ?_
    refine ap ?_
    refine ap ?_
    refine aV ?_
    refine ap ?_
    refine ar ?_ (am G U (zm 2 G))
    rw [chF,if_neg hbig,z8 hj (by simpa using hb2)]; exact bh
   ·refine wp_skip<|ao ?_
    refine a7<|zh [.v 11 _,.v 12 _,.v 3 _] [.g 0,.o 2] U (zM 1 G (zv G (aR (vq 0 G) a8 ((wi64 zo zo).trans (by omega:(_:Int)=((j+1:Nat):Int)))) (zA 1 G o0))) (zz [(0,_),(3,_)] [] fun a w U=>?_)
    refine a7 ?_
    have U:=St.sel U [0,1]
    exact ⟨n-1,by omega,j+1,⟨by omega,z9 hj hno (by simpa using hb2)⟩,U⟩
  ·obtain rfl:j=xs.length:=by rw [List.length_map] at hb1; have:=of_decide_eq_false hb1; omega
   refine wp_exit<|ak<|ak<|aC<|zt<|zh [.v 2 _] [.o 0] U (zv G (a9 a8) o0) (zz [(2,_)] [] fun a w U=>?_)
   refine a7<|wp_ret<|ar ?_ (am G U (zm 0 G))
   rw [List.take_length] at hno; rw [chF,if_neg hbig,hno]; exact bh
end Go.Proofs.YtmacliockgbdcaaGreatDoor
