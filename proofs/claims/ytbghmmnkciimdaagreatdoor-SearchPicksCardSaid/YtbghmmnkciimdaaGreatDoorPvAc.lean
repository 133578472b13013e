import Derived.Test.YtbghmmnkciimdaaGreatDoorPvAb
import Derived.ProofKit
import Derived.OpenShut
import Derived.ChangeOld
import Derived.Below
import Derived.Laws.AppendOwn
import Derived.Laws.OwnMore
import Derived.Deep.DeepAppendRoom
set_option linter.all false
set_option maxRecDepth 100000
namespace Go.Proofs.YtbghmmnkciimdaaGreatDoor
open Go Go.RowKit
variable {w:World}{B:Nat}{a:Act}{v:Value}{T:TypeId}{w0:Bs}{Γ:List (Nat × VA)}{Λ:List Lc}{ps:String}{af:Array Edge}{vr:Value}{H:Hd}{cs:List Value}{w':World}{P:Program}{D:List TypeId}{N:Nat}{i:Nat}{k:Nat}{n:Nat}{j:Nat}{m:Nat}{s:Nat}{b:Nat}{c:Nat}{g:Nat}{d:Nat}{id:Nat}{hi:Nat}{ops:Array Oper}{x:Operand}{y:Operand}{E:TypeId}{S:TypeId}{A:As}{l:List Nat}{fn:Func}{Q:Exit→Act→World→Prop}{xs:List Operand}{gs:List Nat}{W:World}{W':World}{ds:List Value}{q:Int}{A':As}{A0:As}{A1:As}{sp:List Sp}{ty:TypeId}
theorem Bz (x y:Rat):Rat.divInt (x.num*(y.den:Int)+y.num*(x.den:Int)) ((x.den:Int)*(y.den:Int))=x+y:=by
 rw [Rat.add_def',← kU,xF]
theorem Je (x y:Rat):Rat.divInt (x.num*(y.den:Int)-y.num*(x.den:Int)) ((x.den:Int)*(y.den:Int))=x-y:=by
 rw [Rat.sub_def',← kU,xF]
theorem sP (x y:Rat):Rat.divInt (x.num*y.num) ((x.den:Int)*(y.den:Int))=x*y:=by
 rw [Rat.mul_def',← kU,xF]
theorem sQ (x y:Rat):Rat.divInt (x.num*(y.den:Int)) ((x.den:Int)*y.num)=x/y:=by
 rw [Rat.div_def,Rat.inv_def,← Rat.divInt_mul_divInt,kt]
theorem den_nz (x y:Rat):(x.den:Int)*(y.den:Int)≠0:=k7 (by have:=x.den_pos;omega) (by have:=y.den_pos;omega)
theorem C7 (x:Rat){y:Rat}(h:y≠0):(x.den:Int)*y.num≠0:=k7 (by have:=x.den_pos;omega) (λ e=>h (Rat.num_eq_zero.1 e))
def cmQ (x y:Rat):Int:=if x<y then -1 else if y<x then 1 else 0
theorem OA (x y:Rat):sg3 (x.num*(y.den:Int)) (y.num*(x.den:Int))=cmQ x y:=by
 unfold sg3 cmQ;simp only [Rat.lt_iff]
theorem On (x:Rat):cat [RIA (riOf (x.num+0)),RIA (riOf ((x.den:Int)+0))]=RFA (rfOf x):=by rw [jM,jM];rfl
theorem q0_wk :WkA (cat [RIA ⟨false,[]⟩,ZA k 1]) (QA k 0):=br (.cons ((gZ (show RIA ⟨false,[]⟩=RIA (riOf 0) from by simp [riOf,bE])).trans (Ib (by simp [lz,bE]))) (.cons (WkA.refl _) .nil))
theorem Fk  : Cn Tryz.prog 106 [] (Qs 2 0):=by
 refine Cn.intro Tryz.func106 G zk nq (zy [] λ B w0 a U=>?_);refine qb<|zg [] Rv Uf [] U (zY G (Str.zero aS) o0) (zz [] Rw ?_);refine ztA<|zgA [some (2,_)] [] (W6 1 [.sto 0]) [] (zQ G (of_z zd zd) (.cons ab .nil) (zv G (aT (qs:=[(1,_)]) aS (.cons ⟨rfl,vq 0 rfl,rfl⟩ .nil)) (zS 1 G ax o0))) (zz [] Rw λ a w U=>?_);refine aa<|qh<|al ?_ (au G U (zm 0 G) ax);exact q0_wk.va
theorem IQ {p q:Int}(hp : -9223372036854775808≤p)(hp1:p<9223372036854775808)(hq : -9223372036854775808≤q)(hq1:q<9223372036854775808)(h0:q≠0):Cn Tryz.prog 195 [In p,In q] (Qs 2 (Rat.divInt p q)):=by
 refine Cn.intro Tryz.func195 G zk nq (zy [(0,In p),(1,In q)] λ B w0 a U=>?_);refine qb<|zg [] [zpL 4 28 0 _] Uf We U (zY G (Str.zero aS) o0) (zz Ug Rx ?_);refine ztA<|zgA Uc [] (Wd 5 [.sto 0]) [] (zM 0 G (zQ G (of_z hp hp1) (.o (vq 0 G)) (zM 1 G (zQ G (of_z hq hq1) (.o (vq 2 G)) (zQ G (gj zo zo h0) (.p (vq 1 G) (vq 3 G)) (zS 4 G ax o0)))))) (zz [] Rx λ a w U=>?_);refine aa<|qh<|al ?_ (au G U (zm 0 G) ax);exact aG
theorem Q7  : Cn Tryz.prog 123 [] (Qs 2 1):=by
 refine Cn.intro Tryz.func123 G zk nq (zy [] λ B w0 a U=>?_);refine qb<|zg [] Rv Uf [] U (zY G (Str.zero aS) o0) (zz [] Rw ?_);refine ztA<|zgA Uj [] [.v 1 _,.sto 0] [] (zQ G (IQ zd zd zd zd zd) (.cons ab (.cons ab .nil)) (zS 0 G ax o0)) (zz [] Rw λ a w U=>?_);refine aa<|qh<|al ?_ (au G U (zm 0 G) ax);exact ba (qp (Qs 2) (show Rat.divInt 1 1=1 from G))
theorem BP {x y:Rat}(hc:c+d≤549755813888):Cn Tryz.prog 118 [Qs c x,Qs d y] (Qs (c+d+1) (x+y)):=by
 refine Cn.intro Tryz.func118 G zk nq (zy [(0,Qs c x),(1,Qs d y)] λ B w0 a U=>?_);refine qb<|zg [] Ry Um [] U (zW 0 G (zW 1 G (zY G (Str.zero aS) o0))) (zz [] Rz λ a w U=>?_);refine zt<|zgd [[],[0],[],[2],(Wm 4),[],[5],[],[7],(Wm 9),(Wm 10),[],[11],[],[13],(Wm 15),(Wm 16),(Wm 17)] [none,none,some (17,_)] [] (.adr 5 2 (.some 0) True::.v 6 _::.adr 7 3 (.some 2) True::(W6 8 (.adr 10 3 (.some 0) True::.v 11 _::.adr 12 2 (.some 2) True::(Wb 13 (.adr 16 2 (.some 2) True::.v 17 _::.adr 18 3 (.some 2) True::(Wb 19 [.sto 2])))))) [] ac U (zO 0 G aZ (zL 0 0 0 G ap (zO 1 G aU (zL 2 1 1 G ap (zQ G (dO zo zo) (.p (vq 1 G) (vq 3 G)) (zO 1 G aZ (zL 5 1 0 G ap (zO 0 G aU (zL 7 0 1 G ap (zQ G (dO zo zo) (.p (vq 6 G) (vq 8 G)) (zQ G (ux zo zo) (.p (vq 4 G) (vq 9 G)) (zO 0 G aU (zL 11 0 1 G ap (zO 1 G aU (zL 13 1 1 G ap (zQ G (dO zo zo) (.p (vq 12 G) (vq 14 G)) (zQ G (gj zo zo (den_nz x y)) (.p (vq 10 G) (vq 15 G)) (zS 16 G ax o0)))))))))))))))))) zk zk zk zk (zz [] Rz λ a w U=>?_);refine aa<|qh<|al ?_ (au G U (zm 2 G) ax);exact cB (ba (qp (Qs _) (Bz x y))) (cc zo).va
theorem t6 {x y:Rat}(hc:c+d≤549755813888):Cn Tryz.prog 121 [Qs c x,Qs d y] (Qs (c+d+1) (x-y)):=by
 refine Cn.intro Tryz.func121 G zk nq (zy [(0,Qs c x),(1,Qs d y)] λ B w0 a U=>?_);refine qb<|zg [] Ry Um [] U (zW 0 G (zW 1 G (zY G (Str.zero aS) o0))) (zz [] Rz λ a w U=>?_);refine zt<|zgd [[],[0],[],[2],(Wm 4),[],[5],[],[7],(Wm 9),(Wm 10),[],[11],[],[13],(Wm 15),(Wm 16),(Wm 17)] [none,none,some (17,_)] [] (.adr 5 2 (.some 0) True::.v 6 _::.adr 7 3 (.some 2) True::(W6 8 (.adr 10 3 (.some 0) True::.v 11 _::.adr 12 2 (.some 2) True::(Wb 13 (.adr 16 2 (.some 2) True::.v 17 _::.adr 18 3 (.some 2) True::(Wb 19 [.sto 2])))))) [] ac U (zO 0 G aZ (zL 0 0 0 G ap (zO 1 G aU (zL 2 1 1 G ap (zQ G (dO zo zo) (.p (vq 1 G) (vq 3 G)) (zO 1 G aZ (zL 5 1 0 G ap (zO 0 G aU (zL 7 0 1 G ap (zQ G (dO zo zo) (.p (vq 6 G) (vq 8 G)) (zQ G (K4 zo zo) (.p (vq 4 G) (vq 9 G)) (zO 0 G aU (zL 11 0 1 G ap (zO 1 G aU (zL 13 1 1 G ap (zQ G (dO zo zo) (.p (vq 12 G) (vq 14 G)) (zQ G (gj zo zo (den_nz x y)) (.p (vq 10 G) (vq 15 G)) (zS 16 G ax o0)))))))))))))))))) zk zk zk zk (zz [] Rz λ a w U=>?_);refine aa<|qh<|al ?_ (au G U (zm 2 G) ax);exact cB (ba (qp (Qs _) (Je x y))) (cc zo).va
theorem l4 {x y:Rat}(hc:c+d≤549755813888):Cn Tryz.prog 119 [Qs c x,Qs d y] (Qs (c+d) (x*y)):=by
 refine Cn.intro Tryz.func119 G zk nq (zy [(0,Qs c x),(1,Qs d y)] λ B w0 a U=>?_);refine qb<|zg [] Ry Um [] U (zW 0 G (zW 1 G (zY G (Str.zero aS) o0))) (zz [] Rz λ a w U=>?_);refine zt<|zgd RA RB [] (.adr 5 2 (.some 0) True::.v 6 _::.adr 7 3 (.some 0) True::(W6 8 (.adr 10 2 (.some 2) True::.v 11 _::.adr 12 3 (.some 2) True::(Wb 13 [.sto 2])))) [] ac U (zO 0 G aZ (zL 0 0 0 G ap (zO 1 G aZ (zL 2 1 0 G ap (zQ G (dO zo zo) (.p (vq 1 G) (vq 3 G)) (zO 0 G aU (zL 5 0 1 G ap (zO 1 G aU (zL 7 1 1 G ap (zQ G (dO zo zo) (.p (vq 6 G) (vq 8 G)) (zQ G (gj zo zo (den_nz x y)) (.p (vq 4 G) (vq 9 G)) (zS 10 G ax o0)))))))))))) zk zk zk zk (zz [] Rz λ a w U=>?_);refine aa<|qh<|al ?_ (au G U (zm 2 G) ax);exact cB (ba (qp (Qs _) (sP x y))) (cc zo).va
theorem Nc {x y:Rat}(hc:c+d≤549755813888)(h0:y≠0):Cn Tryz.prog 194 [Qs c x,Qs d y] (Qs (c+d) (x/y)):=by
 refine Cn.intro Tryz.func194 G zk nq (zy [(0,Qs c x),(1,Qs d y)] λ B w0 a U=>?_);refine qb<|zg [] Ry Um [] U (zW 0 G (zW 1 G (zY G (Str.zero aS) o0))) (zz [] Rz λ a w U=>?_);refine zt<|zgd RA RB [] (.adr 5 2 (.some 0) True::.v 6 _::.adr 7 3 (.some 2) True::(W6 8 (.adr 10 2 (.some 2) True::.v 11 _::.adr 12 3 (.some 0) True::(Wb 13 [.sto 2])))) [] ac U (zO 0 G aZ (zL 0 0 0 G ap (zO 1 G aU (zL 2 1 1 G ap (zQ G (dO zo zo) (.p (vq 1 G) (vq 3 G)) (zO 0 G aU (zL 5 0 1 G ap (zO 1 G aZ (zL 7 1 0 G ap (zQ G (dO zo zo) (.p (vq 6 G) (vq 8 G)) (zQ G (gj zo zo (C7 x h0)) (.p (vq 4 G) (vq 9 G)) (zS 10 G ax o0)))))))))))) zk zk zk zk (zz [] Rz λ a w U=>?_);refine aa<|qh<|al ?_ (au G U (zm 2 G) ax);exact cB (ba (qp (Qs _) (sQ x y))) (cc zo).va
theorem Ei {x:Rat}(hc:c≤549755813888):Cn Tryz.prog 120 [Qs c x] ((RFA (rfOf (-x))).va):=by
 refine Cn.intro Tryz.func120 G zk nq (zy [(0,Qs c x)] λ B w0 a U=>?_);refine qb<|zg [] RC UU [] U (zW 0 G (zY G (Str.zero aS) o0)) (zz [] RD λ a w U=>?_);refine zt<|zgd [[],[0],[0,1],[],[3],[0,1,2],(Wm 6),(Wm 7),(Wm 8)] [none,some (8,_)] [] (.adr 3 1 (.some 0) True::(W6 4 (.adr 6 1 (.some 2) True::(Ww 7 [.sto 1])))) [] ac U (zO 0 G aZ (zL 0 0 0 G ap (zQ G (ov zo) (.o (vq 1 G)) (zO 0 G aU (zL 3 0 1 G ap (zQ G (of_z zd zd) (.cons ab .nil) (zQ G (ux zo zo) (.p (vq 4 G) (vq 5 G)) (zv G (aT (qs:=[(0,_),(1,_)]) aS (.cons ⟨rfl,vq 2 rfl,rfl⟩ (.cons ⟨rfl,vq 6 rfl,rfl⟩ .nil))) (zS 7 G ax o0))))))))) zk zk zk zk (zz [] RD λ a w U=>?_);refine aa<|qh<|al ?_ (au G U (zm 1 G) ax);exact ((br (.cons zaA (.cons zaA .nil))).trans (gZ (qp (λ z=>cat [RIA (riOf (-x.num)),RIA (riOf z)]) (jM _)))).va
theorem Ol {x:Rat}(hc:c≤549755813888):Cn Tryz.prog 27 [Qs c x] ((RFA (rfOf x)).va):=by
 refine Cn.intro Tryz.func27 G zk nq (zy [(0,Qs c x)] λ B w0 a U=>?_);refine qb<|zg [] RC UU [] U (zW 0 G (zY G (Str.zero aS) o0)) (zz [] RD ?_);refine ztA<|zgA UF [⟨3,26,ptrH,some 1,_,some (2,_)⟩] [.v 4 _,.alc 2,.sto 2] [] (zQ G (of_z zd zd) (.cons ab .nil) (zY G (Str.zero bu) (zS 0 G ap o0))) (zz [] RH λ a w U=>?_);refine zt<|zgd [[],[0],[],[0,1,2],[],[4],[],(Wm 7),(Wm 8),(Wm 9)] [none,some (9,_),none] [] (.adr 5 1 (.some 0) True::(Wb 6 (.adr 9 1 (.some 2) True::(Ww 10 [.sto 1])))) [] ac U (zO 0 G aZ (zL 0 0 0 G ap (zl 2 G ap (zQ G (ux zo zo) (.p (vq 1 G) (vq 2 G)) (zO 0 G aU (zL 4 0 1 G ap (zl 2 G ap (zQ G (ux zo zo) (.p (vq 5 G) (vq 6 G)) (zv G (aT (qs:=[(0,_),(1,_)]) aS (.cons ⟨rfl,vq 3 rfl,rfl⟩ (.cons ⟨rfl,vq 7 rfl,rfl⟩ .nil))) (zS 8 G ax o0)))))))))) zk zk zk zk (zz [] RH λ a w U=>?_);refine aa<|qh<|al ?_ (au G U (zm 1 G) ax);exact ((br (.cons zaA (.cons zaA .nil))).trans (gZ (On x))).va
theorem Lq {x y:Rat}(hc:c+d≤549755813888):Cn Tryz.prog 124 [Qs c x,Qs d y] (In (cmQ x y)):=by
 refine Cn.intro Tryz.func124 G zk nq (zy [(0,Qs c x),(1,Qs d y)] λ B w0 a U=>?_);refine qb<|zg [] RJ UC Ud U (zW 0 G (zW 1 G (zE G ab))) (zz U3 RK λ a w U=>?_);refine zt<|zgd RA UF [] (.adr 5 2 (.some 0) True::.v 6 _::.adr 7 3 (.some 2) True::(W6 8 (.adr 10 3 (.some 0) True::.v 11 _::.adr 12 2 (.some 2) True::(Wb 13 [.v 4 _])))) [.o 11] ac U (zO 0 G aZ (zL 0 0 0 G ap (zO 1 G aU (zL 2 1 1 G ap (zQ G (dO zo zo) (.p (vq 1 G) (vq 3 G)) (zO 1 G aZ (zL 5 1 0 G ap (zO 0 G aU (zL 7 0 1 G ap (zQ G (dO zo zo) (.p (vq 6 G) (vq 8 G)) (zQ G (Ot zo zo) (.p (vq 4 G) (vq 9 G)) (zA 10 G o0)))))))))))) zk zk zk zk (zz U3 RK λ a w U=>?_);refine aa<|qh<|al ?_ (am G U (zm 0 G));exact ba (qp In (OA x y))
theorem sign_q {x:Rat}:Cn Tryz.prog 101 [Qs c x] (In x.num.sign):=by
 refine Cn.intro Tryz.func101 G zk nq (zy [(0,Qs c x)] λ B w0 a U=>?_);refine qb<|zg [] RL Uv Uw U (zW 0 G (zE G ab)) (zz Ux RN ?_);refine ztA<|zgA U4 [] (.adr 3 1 (.some 0) True::(W6 4 [.v 2 _])) UJ (zO 0 G aZ (zL 0 0 0 G ap (zQ G AZ (.o (vq 1 G)) (zA 2 G o0)))) (zz Ux RN λ a w U=>?_);refine aa<|qh<|al ?_ (am G U (zm 0 G));exact aG
theorem A6:Xx Tryz.prog 120:=⟨_,Tryz.func120,zk,zk⟩
theorem wB:Xx Tryz.prog 27:=⟨_,Tryz.func27,zk,zk⟩
theorem Js {r:Rat}(h:(Qs k r).p B v w):lz r.num≤k∧lz (r.den:Int)≤k:=by
 obtain ⟨cs,⟨ps,_,hp⟩,_⟩:=h;cases hp with
 | cons h1 hp=>cases hp with|cons h2 _=>exact ⟨h1.1,h2.1⟩
theorem lU {x:Rat}(hc:c≤549755813888):Cn Tryz.prog 120 [Qs c x] (Qs c (-x)) :=
 Cn.know (c:=lz x.num≤c∧lz (x.den:Int)≤c) A6 (λ B w args ha=>by cases ha with|cons h1 _=>exact Js h1) λ h=>(Ei hc).wkp (F7 (by rw [vz,lK];exact h.1) (by rw [vA];exact h.2)).va
theorem Om {x:Rat}(hc:c≤549755813888):Cn Tryz.prog 27 [Qs c x] (Qs c x) :=
 Cn.know (c:=lz x.num≤c∧lz (x.den:Int)≤c) wB (λ B w args ha=>by cases ha with|cons h1 _=>exact Js h1) λ h=>(Ol hc).wkp (F7 h.1 h.2).va
theorem Md (l:Ya):UpA (MgA l) (MgA l):=⟨rfl,rfl,λ B cs w hB hp=>by
 obtain ⟨ok,h0,A,c,ds,rfl,h1,h2,h3,h4⟩:=hp;refine ⟨ok,h0,A,c,ds,rfl,h1,h2,?_,λ hn=>?_⟩
 ·exact cat_nums.2 (cat_nums.1 h3)
 ·obtain ⟨b,o,e1,e2,e3,e4⟩:=h4 hn;exact ⟨b,o,e1,e2,.inl e2,e4⟩⟩
theorem Io {c:Prop}(h:UpA A A):UpA (A.and c) (A.and c):=⟨rfl,rfl,λ B cs w hB hp=>⟨hp.1,h.2.2 B cs w hB hp.2⟩⟩
theorem Ay (x:RI):UpA (RIA x) (RIA x):=iS (.cons (Mc _) (.cons (Md _) .nil))
theorem eI (x:RF):UpA (RFA x) (RFA x):=iS (.cons (Ay _) (.cons (Ay _) .nil))
theorem upA_za {z:Int}:UpA (ZA k z) (ZA k z):=Io (Ay _)
theorem upA_qa {r:Rat}:UpA (QA k r) (QA k r):=iS (.cons upA_za (.cons upA_za .nil))
theorem LJ {l:Yb}(h:∀ A∈l,UpA A A):All2 UpA l l:=by
 induction l with
 | nil=>exact .nil
 | cons A l ih=>exact .cons (h A (by simp)) (ih λ A' hA=>h A' (by simp [hA]))
theorem iY {l:Yb}(h:∀ A∈l,UpA A A):UpA (SlA E D l) (SlO E D l True):=⟨rfl,rfl,λ B cs w hB hp=>by
 obtain ⟨hD,A,c,ds,rfl,h1,h2,h3,h4⟩:=hp;refine ⟨trivial,hD,A,c,ds,rfl,h1,h2,(iS (LJ h)).2.2 B ds w hB h3,λ hn=>?_⟩;obtain ⟨b,o,e1,e2,e3,e4⟩:=h4 hn;exact ⟨b,o,e1,e2,e2,e4⟩⟩
theorem IS {l:Yb}{p:Prop}(h:(SlO E D l p).va.p B v w):l.length≤9223372036854775807:=by
 obtain ⟨cs,⟨_,_,A,c,ds,_,h1,h2,_⟩,_⟩:=h;unfold maxLen at h2;omega
def dX (q:Rat):Bool:=[riOf q.num].any bigI || [riOf (q.den:Int)].any bigI
theorem longQ_false {q:Rat}:dX q=false↔lz q.num≤2048∧lz (q.den:Int)≤2048:=by
 simp [dX,bigI,fy];omega
def IsQ (A:As)(q:Rat):Prop:=∃ k,A=QA k q
theorem AT {l l':Yb}(h:All2 WkA l l')(hD:∀ A∈l',∀ T∈A.deps,T∈D):WkA (SlA E D l) (SlA E D l'):=⟨rfl,rfl,λ B cs w ⟨_,A,c,ds,e,h1,h2,h3,h4⟩=>by
 have hl:=h.length;exact ⟨hD,A,c,ds,by rw [← hl];exact e,by rw [← hl];exact h1,h2,(br h).2.2 B ds w h3,λ hn=>h4 (by rw [hl];exact hn)⟩⟩
theorem NP {L:Yb}{qs:List Rat}(h:All2 IsQ L qs)(hj:j<qs.length):∃ k,L[j]?=some (QA k qs[j]):=by
 have hl:=h.length;obtain ⟨q,h1,k,h2⟩:=h.get (List.getElem?_eq_getElem (show j<L.length by omega));rw [List.getElem?_eq_getElem hj] at h1;injection h1 with h1;exact ⟨k,by rw [List.getElem?_eq_getElem zo,h2,h1]⟩
theorem NO {L:Yb}{qs:List Rat}(h:All2 IsQ L qs):∀ A∈L,UpA A A:=λ A hA=>by
 obtain ⟨j,hj⟩:=List.getElem?_of_mem hA;obtain ⟨q,_,k,rfl⟩:=h.get hj;exact upA_qa
theorem Qt {L:Yb}{qs:List Rat}(h:All2 IsQ L qs):∀ A∈L,A.n=4:=λ A hA=>by
 obtain ⟨j,hj⟩:=List.getElem?_of_mem hA;obtain ⟨q,_,k,rfl⟩:=h.get hj
 rfl
theorem Ke {l:List Rat}(h:j<l.length)(h2:dX l[j]=true):true=l.any dX:=(jk.2 ⟨_,qg h,h2⟩).symm
theorem Qo {l:List Rat}(h:j<l.length)(h1:(l.take j).any dX=false)(h2:dX l[j]=false):(l.take (j+1)).any dX=false:=by
 rw [qw h,kb,h1];simp [h2]
theorem NC {L:Yb}(qs:List Rat)(hL:All2 IsQ L qs)(hl:qs.length≤1099511627776):Cn Tryz.prog 215 [(SlA 28 [U32] L).va] (Bo (qs.any dX)):=by
 have hLl:=hL.length;refine Cn.introW Tryz.func215 G zk nq (.cons (iY (NO hL)).va .nil) (ep _).va (λ B w0 a hB0 U=>?_);have U:=zn [(0,(SlO 28 [U32] L True).va)] [] U;refine qb<|zh UA Rk U (zE G aE) (zz Rl [] ?_);refine ztA<|zsA<|zhA (Wb 5) Ur (zM 0 G (zv G (bg qQ (bz (aC (vq 0 G)))) (zv G (aq ab) o0))) (zz (Wf 2 5 6 7) [] λ a w U=>?_);refine aa<|qk ?_;have U:=U.sel [1,2,3];refine wp_loop_ghost (λ n a w=>∃ j:Nat,(n+j=qs.length∧(qs.take j).any dX=false)∧St B w0 22 [(5,(SlO 28 [U32] L True).va),(6,In (qs.length:Nat)),(7,In (j:Nat))] [] a w) (qs.length) ?_ ?_
 ·exact ⟨0,⟨by omega,rfl⟩,by rw [hLl] at U;exact U⟩
 intro n a w hI;obtain ⟨j,⟨hn,hno⟩,U⟩:=hI;refine qb<|zh [.v 8 _] WZ U (zv G (aN (gq 2 G) (gq 1 G)) o0) (zz (Wf 5 6 7 8) [] λ a w U=>?_);refine zt<|cd U (zm 3 G) (λ hb0=>?_) (λ hb0=>?_)
 ·have hj:j<qs.length:=by simp at hb0;omega
  obtain ⟨kj,hLj⟩:=NP hL hj;refine qj<|zt<|qk<|qb<|zg [] [⟨4,28,ptrH,some 2,_,some (3,_)⟩] (W6 9 [.alc 0,.sto 0]) W7 U (zv G (bB du (Qt hL) (bz (aC (gq 0 G))) (gq 2 G) hLj) (zv G (ao (vq 0 G) ax) (zY G (Str.zero aS) (zS 1 G ax o0)))) (zz (Wa 5 6 7) Rx ?_);refine ztA<|zgA U4 [] (.adr 11 4 (.some 0) True::(Ww 12 [.adr 16 4 (.some 2) (_=false),.f 17 _,.f 18 _,.f 19 _,.v 20 _])) (W7 [.o 9]) (zO 0 G aZ (zL 0 0 0 G ap (zv G (bR (D:=[U32]) (l:=[_]) (xs:=[.tmp 12]) (cO zk) AW zk (n_ok zk) nq nq nq (.o (vq 1 G)) G G) (zQ G ((Cu [riOf (qs[j]).num] nq).wk (.cons (AT (.cons zaA .nil) (cO zk)).va .nil)) (.o (vq 2 G)) (zV 3 G (zC 4 0 G aU (zB 4 G (λ hg=>aB 5 G zk hg (lz0 0 G) (Sub.part 1 G G) ap) (zB 4 G (λ hg=>bR (D:=[U32]) (l:=[_]) (xs:=[.tmp 17]) (cO zk) AW zk (n_ok zk) nq nq nq (.o (ae (vq 6 G) hg)) G G) (zB 4 G (λ hg=>be ((Cu [riOf ((qs[j]).den:Int)] nq).wk (.cons (AT (.cons zaA .nil) (cO zk)).va .nil)) (.o (ae (vq 7 G) hg))) (zv G (r_or (vq 4 G) (vq 8 G)) o0)))))))))) (zz (Wf 5 6 7 20) Rx λ a w U=>?_);refine zJ 3 U G (λ hb1=>?_) (λ hb1=>?_)
  ·refine qb<|zg U6 [] UA WZ U (zE G aE) (zz (Wf 5 6 7 2) Rx λ a w U=>?_);refine aa<|qh<|aD ?_;refine aj ?_;refine aj ?_;refine aD ?_;refine aj ?_;refine aJ ?_ (am G U (zm 3 G));rw [← Ke hj hb1]
  ·refine qj<|ak ?_;refine aa<|zg U6 [] [.v 21 _,.v 7 _] UI U (zv G (aL (gq 2 G) ab (aW zo)) (zV 0 G o0)) (zz (Wa 5 6 7) Rx λ a w U=>?_);refine aa ?_;have U:=U.sel [0,1,2];have U:=U.selL [];exact ⟨n-1,by omega,j+1,⟨by omega,Qo hj hno hb1⟩,U⟩
 ·obtain rfl:j=qs.length:=by simp at hb0;omega
  refine qL<|ai<|ai<|az<|zt<|zh UA U2 U (zE G aE) (zz Ux [] λ a w U=>?_);refine zN 0 U G G ?_;rw [qH] at hno;rw [hno]
theorem r5 {L:Yb}(qs:List Rat)(hL:All2 IsQ L qs)(hl:qs.length≤1099511627776):Cn Tryz.prog 169 [(SlA 28 [U32] L).va] (In (if qs.any dX then 4 else 0)):=by
 refine Cn.intro Tryz.func169 G zk nq (zy [(0,(SlA 28 [U32] L).va)] λ B w0 a U=>?_);refine qb<|zh UA Rk U (zE G ab) (zz Rl [] ?_);refine ztA<|zsA<|zhA (W6 3) RO (zM 0 G (zQ G (NC qs hL hl) (.o (vq 0 G)) o0)) (zz (Wc 2 4) [] λ a w U=>?_);refine zJ 1 U G (λ hb0=>?_) (λ hb0=>?_)
 ·refine qb<|zh UA U2 U (zE G ab) (zz Ux [] λ a w U=>?_);refine aa<|qh<|aj ?_;refine aJ ?_ (am G U (zm 0 G));rw [hb0];rfl
 ·refine qj<|zt<|zh UA U2 U (zE G ab) (zz Ux [] λ a w U=>?_);refine zN 0 U G G ?_;rw [hb0];rfl
def okF (x:RF):Bool:=okRI x.num&&okRI x.den&&decide (0<sgI x.den)&&decide (Nat.gcd (val x.num.mag) (val x.den.mag)=1)
theorem o6 {x:RI}(ok:okL x.mag)(h:okRI x=true):∃ z,x=riOf z∧lz z≤2048:=by
 obtain ⟨neg,l⟩:=x;simp only [okRI,qy,qN,jA,qm,beq_eq_false_iff_ne,ne_eq] at h ok;obtain ⟨⟨h1,h2⟩,h3⟩:=h;have hc:Canon l:=by
  refine ⟨ok,λ e=>?_⟩;rcases List.eq_nil_or_concat l with rfl|⟨m,y,rfl⟩
  ·simp at e
  ·simp at e;subst e;rcases h2 with h2|h2
   ·simp at h2
   ·exact h2 (by simp)
 have e:aA (val l)=l:=rO hc;cases neg with
 | false=>exact ⟨(val l:Nat),by simp [riOf,e],by show (aA _).length≤2048;rw [kz,e];omega⟩
 | true =>
  have hl:l≠[]:=λ e=>by subst e;simp at h3
  have hv:0<val l:=hc.val_pos hl;exact ⟨-(val l:Nat),by simp [riOf,e];omega,by show (aA _).length≤2048;rw [Int.natAbs_neg,kz,e];omega⟩
theorem JL {z:Int}:okRI (riOf z)=decide (lz z≤2048):=by
 unfold okRI;by_cases h0:z=0
 ·subst h0;simp [riOf,bE,lz]
 ·have h1:=iw h0;have h2:=(bm z.natAbs).2;have e:(riOf z).mag=aA z.natAbs:=rfl;have e2:(aA z.natAbs).length=lz z:=rfl;have h3:(aA z.natAbs).getD (lz z-1) 0≠0:=λ hh=>by
   apply h2;rw [List.getLast?_eq_getElem?,e2,List.getElem?_eq_getElem zo];rw [List.getD_eq_getElem?_getD,List.getElem?_eq_getElem zo] at hh;simpa using hh
  rw [e,e2];by_cases h4:lz z≤2048
  ·have h5:¬ ((lz z:Int)>2048):=by omega
   have h6:¬ ((lz z:Int)=0):=by omega
   have h7:¬ (((aA z.natAbs).getD (lz z-1) 0:Nat):Int)=((0:Nat):Int):=by omega
   simp only [h4,h5,decide_true,decide_false,beq_eq_false_iff_ne.2 h7,beq_eq_false_iff_ne.2 h6,Bool.and_false,Bool.false_and,Bool.or_self,jT]
  ·have h5:((lz z:Int)>2048):=by omega
   simp only [h4,h5,decide_true,decide_false,Bool.true_or,vj]
theorem Qa {x:RF}(ok:okL x.num.mag∧okL x.den.mag)(h:okF x=true):∃ r:Rat,x=rfOf r∧lz r.num≤2048∧lz (r.den:Int)≤2048:=by
 obtain ⟨xn,xd⟩:=x;simp only [okF,ql,qI] at h ok;obtain ⟨⟨⟨h1,h2⟩,h3⟩,h4⟩:=h;obtain ⟨p,rfl,hp⟩:=o6 ok.1 h1;obtain ⟨q,rfl,hq⟩:=o6 ok.2 h2;rw [dL] at h3;have hq0:0<q:=Int.sign_pos_iff.1 h3;rw [bF,bF] at h4;refine ⟨⟨p,q.natAbs,by omega,h4⟩,?_,hp,?_⟩
 ·show RF.mk _ _=RF.mk (riOf p) (riOf (q.natAbs:Nat));rw [show ((q.natAbs:Nat):Int)=q by omega]
 ·show lz ((q.natAbs:Nat):Int)≤2048;rw [show ((q.natAbs:Nat):Int)=q by omega];exact hq
theorem ok1 {b:Bool}(h:(((if b then (0:Int) else 1) != 0))=false):b=true:=by cases b <;> simp at h ⊢
theorem HR {x:RF}(h:((((if okRI x.num then (0:Int) else 1) != 0) || ((if okRI x.den then (0:Int) else 1) != 0)) || decide (sgI x.den≤0))=true):(1:Int)=if okF x then 0 else 1:=by
 have:okF x=false:=by
  unfold okF;cases h1:okRI x.num <;> cases h2:okRI x.den <;> simp [h1,h2] at h ⊢;omega
 rw [this];rfl
theorem Mv {p q:Int}(h:(sg3 ((Int.gcd p q:Nat):Int) 1 != 0)=true):Int.gcd p q≠1:=λ e=>by rw [e] at h;simp [sg3] at h
theorem oI {x:RF}(h:(RFA x).va.p B v w):okL x.num.mag∧okL x.den.mag:=by
 obtain ⟨cs,⟨ps,_,hp⟩,_⟩:=h;cases hp with
 | cons h1 hp=>cases hp with|cons h2 _=>exact ⟨(l7 ⟨_,h1,rfl⟩).1,(l7 ⟨_,h2,rfl⟩).1⟩
theorem QR {p q:Int}(hp:lz p≤1099511627776)(hq:lz q≤1099511627776):Cn Tryz.prog 177 [Zi p,Zi q] (In (sg3 p q)):=(HP (riOf p) (riOf q) (by rw [fy];omega) (by rw [fy];omega)).post (by rw [HO])
theorem Nw:lz 1≤1099511627776:=qf (t8 (k:=1) zd) zd
theorem Gn (xn xd:RI):Cn Tryz.prog 100 [(RFA ⟨xn,xd⟩).va] (In (if okF ⟨xn,xd⟩ then 0 else 1)):=by
 refine Cn.intro Tryz.func100 G zk nq (zy [(0,(RFA ⟨xn,xd⟩).va)] λ B w0 a U=>?_);have hok:=oI (U.vals (0,(RFA ⟨xn,xd⟩).va) (zm 0 rfl));refine qb<|zg [] RL Uv Uw U (zW 0 G (zE G ab)) (zz Ux RN ?_);refine ztA<|zsA<|zgA U4 [] (.adr 3 1 (.some 0) True::(Ww 4 (.adr 8 1 (.some 2) (_=false)::.f 9 _::.f 10 _::.f 11 _::(W6 12 [.adr 14 1 (.some 2) (_=false),.f 15 _,.f 16 _,.f 17 _,.v 18 _])))) [.g 0,.o 15] (zO 0 G aZ (zL 0 0 0 G ap (zQ G (tI _) (.o (vq 1 G)) (zv G (ca (vq 2 G) ab) (zV 3 G (zC 4 0 G aU (zB 4 G (λ hg=>aB 5 G zk hg (lz0 0 G) (Sub.part 1 G G) ap) (zB 4 G (λ hg=>be (tI _) (.o (ae (vq 6 G) hg))) (zB 4 G (λ hg=>ca (ae (vq 7 G) hg) ab) (zv G (r_or (vq 4 G) (vq 8 G)) (zV 9 G (zC 10 0 G aU (zB 10 G (λ hg=>aB 11 G zk hg (lz0 0 G) (Sub.part 1 G G) ap) (zB 10 G (λ hg=>be (ug _) (.o (ae (vq 12 G) hg))) (zB 10 G (λ hg=>l9 (ae (vq 13 G) hg) ab) (zv G (r_or (vq 10 G) (vq 14 G)) o0)))))))))))))))) (zz (Wc 2 18) RN λ a w U=>?_);refine zJ 1 U G (λ hb0=>?_) (λ hb0=>?_)
 ·refine qb<|zg U6 [] UA U2 U (zE G ab) (zz Ux RN λ a w U=>?_);refine aa<|qh<|aj ?_;refine aJ ?_ (am G U (zm 0 G));exact qp In (HR hb0)
 ·rw [qN,qN] at hb0;obtain ⟨p,rfl,hp⟩:=o6 hok.1 (ok1 hb0.1.1);obtain ⟨q,rfl,hq⟩:=o6 hok.2 (ok1 hb0.1.2);have hq0:0<sgI (riOf q):=by have h2:¬ sgI (riOf q)≤0:=qv hb0.2;omega
  have hpq:=Cj p q;refine qj<|zt<|qb<|zg U6 [] (.adr 19 1 (.some 0) True::.v 20 _::.adr 21 1 (.some 2) True::(Wd 22)) [.g 0,.o 7] U (zO 0 G aZ (zL 0 0 0 G ap (zO 0 G aU (zL 2 0 1 G ap (zQ G ((wR p q zo zo).wkp lB) (.p (vq 1 G) (vq 3 G)) (zQ G (of_c 1 zd zd) (.cons ab .nil) (zQ G (QR zo Nw) (.p (vq 4 G) (vq 5 G)) (zv G (ca (vq 6 G) ab) o0)))))))) (zz (Wc 2 26) RN λ a w U=>?_);refine zJ 1 U G (λ hb1=>?_) (λ hb1=>?_)
  ·refine qb<|zg U6 [] UA U2 U (zE G ab) (zz Ux RN λ a w U=>?_);refine aa<|qh<|aj ?_;refine aJ ?_ (am G U (zm 0 G));have e1:=Mv hb1;exact qp In (by rw [show okF ⟨riOf p,riOf q⟩=false from by unfold okF;rw [bF,bF];simp [show ¬ Nat.gcd p.natAbs q.natAbs=1 from e1]];rfl)
  ·refine qj<|zt<|zg U6 [] UA U2 U (zE G ab) (zz Ux RN λ a w U=>?_);refine zN 0 U G G ?_;have e1:=CW hb1;exact qp In (by rw [show okF ⟨riOf p,riOf q⟩=true from by unfold okF;rw [bF,bF,ok1 hb0.1.1,ok1 hb0.1.2];simp [hq0,show Nat.gcd p.natAbs q.natAbs=1 from e1]];rfl)
def okLb (l:List Nat):Bool:=l.all λ x=>decide (x<4294967296)
theorem okLb_iff :okLb l=true↔okL l:=by simp [okLb,okL]
def okX (x:RF):Bool:=okLb x.num.mag&&okLb x.den.mag&&okF x
def zI (x:RI):Int:=if x.neg then -(val x.mag:Nat) else (val x.mag:Nat)
def toQ (x:RF):Rat:=Rat.divInt (zI x.num) (zI x.den)
theorem LQ (z:Int):zI (riOf z)=z:=by
 unfold zI;rw [bF];by_cases h:z<0 <;> simp [riOf,h] <;> omega
theorem Mk (r:Rat):toQ (rfOf r)=r:=by
 show Rat.divInt (zI (riOf r.num)) (zI (riOf (r.den:Int)))=r;rw [LQ,LQ];exact kt r
theorem uC {x:RF}(h:okL x.num.mag∧okL x.den.mag):okX x=okF x:=by rw [okX,okLb_iff.2 h.1,okLb_iff.2 h.2];rfl
theorem yB {x:RF}(h:okX x=true):x=rfOf (toQ x)∧lz (toQ x).num≤2048∧lz ((toQ x).den:Int)≤2048:=by
 simp only [okX,ql] at h;obtain ⟨r,rfl,h1⟩:=Qa ⟨okLb_iff.1 h.1.1,okLb_iff.1 h.1.2⟩ h.2;rw [Mk];exact ⟨rfl,h1⟩
abbrev rf0:RF:=⟨⟨false,[]⟩,⟨false,[]⟩⟩
theorem G4:Xx Tryz.prog 100:=⟨_,Tryz.func100,zk,zk⟩
theorem tH (x:RF):Cn Tryz.prog 100 [(RFA x).va] (In (if okX x then 0 else 1)) :=
 Cn.know (c:=okL x.num.mag∧okL x.den.mag) G4 (λ B w args ha=>by cases ha with|cons h1 _=>exact oI h1) λ h=>(Gn x.num x.den).post (by rw [uC h])
theorem Nk {l:List RF}(h:j<l.length)(h2:((if okX l[j] then (0:Int) else 1) != 0)=true):false=l.all okX:=by
 have h3:okX l[j]=false:=by cases hh:okX l[j] <;> simp [hh] at h2 ⊢
 exact (wa.2 ⟨_,qg h,by simp [h3]⟩).symm
theorem Hg {l:List RF}(h:j<l.length)(h1:(l.take j).all okX=true)(h2:((if okX l[j] then (0:Int) else 1) != 0)=false):(l.take (j+1)).all okX=true:=by
 rw [qw h,wt,h1];simp [ok1 h2]
theorem Gm (xs:List RF)(hl:xs.length≤1099511627776):Cn Tryz.prog 219 [(SlA 28 [U32] (xs.map RFA)).va] (Bo (xs.all okX)):=by
 refine Cn.introW Tryz.func219 rfl zk nq (.cons (iY (λ A hA=>by obtain ⟨x,_,rfl⟩:=qq.1 hA;exact eI x)).va .nil) (ep _).va (λ B w0 a hB0 U=>?_);have U:=zn [(0,(SlO 28 [U32] (xs.map RFA) True).va)] [] U;refine qb<|zh UA Rk U (zE G aE) (zz Rl [] ?_);refine ztA<|zsA<|zhA (Wb 5) Ur (zM 0 G (zv G (bg qQ (bz (aC (vq 0 G)))) (zv G (aq ab) o0))) (zz (Wf 2 5 6 7) [] λ a w U=>?_);refine aa<|qk ?_;have U:=U.sel [1,2,3];refine wp_loop_ghost (λ n a w=>∃ j:Nat,(n+j=xs.length∧(xs.take j).all okX=true)∧St B w0 15 [(5,(SlO 28 [U32] (xs.map RFA) True).va),(6,In (xs.length:Nat)),(7,In (j:Nat))] [] a w) (xs.length) ?_ ?_
 ·exact ⟨0,⟨by omega,rfl⟩,by rw [qc] at U;exact U⟩
 intro n a w hI;obtain ⟨j,⟨hn,hno⟩,U⟩:=hI;refine qb<|zh [.v 8 _] WZ U (zv G (aN (gq 2 G) (gq 1 G)) o0) (zz (Wf 5 6 7 8) [] λ a w U=>?_);refine zt<|cd U (zm 3 G) (λ hb0=>?_) (λ hb0=>?_)
 ·have hj:j<xs.length:=by simp at hb0;omega
  refine qj<|zt<|qk<|qb<|zg [] [⟨4,28,ptrH,some 2,_,some (3,_)⟩] (W6 9 [.alc 0,.sto 0]) W7 U (zv G (bB du (bX λ _=>rfl) (bz (aC (gq 0 G))) (gq 2 G) (bn hj)) (zv G (ao (vq 0 G) ax) (zY G (Str.zero aS) (zS 1 G ax o0)))) (zz (Wa 5 6 7) Rx ?_);refine ztA<|zgA U4 [] (Wb 11) UG (zl 0 G ax (zQ G (tH _) (.o (vq 0 G)) (zv G (ca (vq 1 G) ab) o0))) (zz (Wf 5 6 7 13) Rx λ a w U=>?_);refine zJ 3 U G (λ hb1=>?_) (λ hb1=>?_)
  ·refine qb<|zg U6 [] UA WZ U (zE G aE) (zz (Wf 5 6 7 2) Rx λ a w U=>?_);refine aa<|qh<|aD ?_;refine aj ?_;refine aj ?_;refine aD ?_;refine aj ?_;refine aJ ?_ (am G U (zm 3 G));rw [← Nk hj hb1]
  ·refine qj<|ak ?_;refine aa<|zg U6 [] [.v 14 _,.v 7 _] UI U (zv G (aL (gq 2 G) ab (aW zo)) (zV 0 G o0)) (zz (Wa 5 6 7) Rx λ a w U=>?_);refine aa ?_;have U:=U.sel [0,1,2];have U:=U.selL [];exact ⟨n-1,by omega,j+1,⟨by omega,Hg hj hno hb1⟩,U⟩
 ·obtain rfl:j=xs.length:=by simp at hb0;omega
  refine qL<|ai<|ai<|az<|zt<|zh UA U2 U (zE G aE) (zz Ux [] λ a w U=>?_);refine zN 0 U G G ?_;rw [qH] at hno;rw [hno]
def ansF (q:Rat):RF × Int:=if dX q then (rf0,4) else (rfOf q,0)
abbrev FrR (r:RF × Int):VA:=Tu [(RFA r.1).va,In r.2]
theorem Pz {r:Rat}:Wk (Qs k r) (RFA (rfOf r)).va:=qaA.va
theorem tu2w {a b c d:VA}(h:Wk a c)(h':Wk b d):Wk (Tu [a,b]) (Tu [c,d]):=Ej (.cons h (.cons h' .nil))
theorem oT {q:Rat}:[q].any dX=dX q:=by simp
theorem ne0 {b:Bool}:((if b then (4:Int) else 0) != 0)=b:=by cases b <;> rfl
theorem has_wk' {R:Rg}{A A':VA}(h:Has R B w0 i x A)(hw:Wk A A'):Has R B w0 i x A':=λ a w av=>hw _ _ _ (h a w av)
theorem Ae {x:Rat}(hc:c≤549755813888):Cn Tryz.prog 240 [Qs c x] (FrR (ansF x)):=by
 refine Cn.intro Tryz.func240 G zk nq (zy [(0,Qs c x)] λ B w0 a U=>?_);refine qb<|zg [] RC [.alc 0,.alc 1,.v 3 _] Ud U (zW 0 G (zY G (Str.zero aS) (zE G ab))) (zz RP RD ?_);refine ztA<|zsA<|zgA UF [] (Wb 5 [.v 4 _]) RS (zl 0 G ax (zv G (bR (D:=[U32]) (l:=[_]) (xs:=[.tmp 5]) (cO zk) du zk (n_ok zk) nq nq nq (.o (vq 0 G)) G G) (zQ G ((r5 [x] (.cons ⟨_,rfl⟩ .nil) nq)) (.o (vq 1 G)) (zA 2 G o0)))) (zz (Wc 3 4) RD ?_);refine ztA<|zgA UF [] (W6 8) UI (zM 1 G (zv G (ca (vq 0 G) ab) o0)) (zz (Wa 3 4 9) RD λ a w U=>?_);refine zJ 2 U G (λ hb0=>?_) (λ hb0=>?_)
 ·rw [oT,ne0] at hb0;refine qb<|zg [η,some (2,_)] [] (W6 10 [.sto 1,.v 3 _]) UJ U (zv G (aT (qs:=[]) aS .nil) (zM 1 G (zS 0 G ax (zA 1 G o0)))) (zz RP RD λ a w U=>?_);refine aa<|qh<|aj ?_;refine al ?_ (aP (rs:=[.cell 2 28,.tmp 3]) G U (.cell (zm 1 G) ax (.tmp (zm 0 G) .nil)) zd);rw [ansF,qC hb0];exact tu2w aG (ba (by rw [oT,hb0];rfl))
 ·rw [oT,ne0] at hb0;refine qj<|zt<|zg [η,some (2,_)] [] (W6 12 [.sto 1,.v 3 _]) UJ U (zl 0 G ax (zQ G (Om zo) (.o (vq 0 G)) (zS 1 G ax (zE G ab)))) (zz RP RD λ a w U=>?_);refine aa<|qh<|al ?_ (aP (rs:=[.cell 2 28,.tmp 3]) G U (.cell (zm 1 G) ax (.tmp (zm 0 G) .nil)) zd);rw [ansF,qz (by rw [hb0];decide)];exact tu2w Pz aG
theorem Dh:Xx Tryz.prog 175:=⟨_,Tryz.func175,zk,zk⟩
theorem DK {p:Int}(hc:c≤2048):Cn Tryz.prog 175 [Zs c p] (In 0):=zs1 Dh λ h=>(tI (riOf p)).post (by rw [JL,qG (by omega:lz p≤2048)];rfl)
theorem Hp {p:Int}(h0 : -9223372036854775808≤p)(h1:p<9223372036854775808):lz p≤2:=t8 zo
theorem LI {q:Rat}(h:lz q.num≤2048∧lz (q.den:Int)≤2048):ansF q=(rfOf q,0):=by rw [ansF,longQ_false.2 h];rfl
theorem GC {p q:Int}(hq:q≠0)(hp:lz p≤2)(h2:lz q≤2):ansF (Rat.divInt p q)=(rfOf (Rat.divInt p q),0):=by
 have:=gV (p:=p) hq;exact LI zo
theorem Nv {p q:Int}(hq:q≠0):Cn Tryz.prog 216 [Zs 2 p,Zs 2 q] (FrR (ansF (Rat.divInt p q))):=by
 refine Cn.intro Tryz.func216 G zk nq (zy [(0,Zs 2 p),(1,Zs 2 q)] λ B w0 a U=>?_);refine qb<|zg [] Rr [.alc 0,.alc 1,.alc 2,.v 5 _] UJ U (zW 0 G (zW 1 G (zY G (Str.zero aS) (zE G ab)))) (zz [(5,_)] Rt ?_);refine ztA<|zsA<|zgA Uo [] (Ww 6 [.f 10 _,.f 11 _,.f 12 _,.v 13 _]) [.g 0,.o 7] (zl 0 G ap (zQ G (DK zd) (.o (vq 0 G)) (zv G (ca (vq 1 G) ab) (zV 2 G (zB 3 G (λ hg=>eL (lz0 1 G) ap) (zB 3 G (λ hg=>be (DK zd) (.o (ae (vq 4 G) hg))) (zB 3 G (λ hg=>ca (ae (vq 5 G) hg) ab) (zv G (r_or (vq 3 G) (vq 6 G)) o0)))))))) (zz (Wc 5 13) Rt λ a w U=>?_);refine zJ 1 U G (λ hb0=>?_) (λ hb0=>?_)
 ·exact absurd hb0 zd
 ·refine qj<|zt<|qb<|zg US [] (Wb 15) Ui U (zl 1 G ap (zQ G AZ (.o (vq 0 G)) (zv G (bC (vq 1 G) ab) o0))) (zz (Wc 5 17) Rt λ a w U=>?_);refine zJ 1 U G (λ hb1=>?_) (λ hb1=>?_)
  ·exact absurd hb1 (by simpa using hq)
  ·refine qj<|zt<|zg [η,η,some (6,_)] [] (Wl 19 [.sto 2,.v 5 _]) [.o 7] U (zl 0 G ap (zl 1 G ap (zQ G (gj zd zd hq) (.p (vq 0 G) (vq 1 G)) (zQ G (Ae zd) (.o (vq 2 G)) (zv G (nJ (vq 3 G)) (zv G (nI (vq 3 G)) (zS 4 G ax (zA 5 G o0)))))))) (zz [(5,_)] Rt λ a w U=>?_);refine aa<|qh<|al ?_ (aP (rs:=[.cell 4 28,.tmp 5]) G U (.cell (zm 2 G) ax (.tmp (zm 0 G) .nil)) zd);exact aG
theorem Qc {p q:Int}(hp : -9223372036854775808≤p)(hp1:p<9223372036854775808)(hq0 : -9223372036854775808≤q)(hq1:q<9223372036854775808)(hq:q≠0):Cn Tryz.prog 172 [In p,In q] (FrR (rfOf (Rat.divInt p q),0)):=by
 refine Cn.intro Tryz.func172 G zk nq (zy [(0,In p),(1,In q)] λ B w0 a U=>?_);refine qb<|zg [] [zpL 4 28 0 _] [.alc 0,.v 5 _] UI U (zY G (Str.zero aS) (zE G ab)) (zz (Wa 0 1 5) Rx ?_);refine ztA<|zgA [some (7,_)] [] (WG 6 [.sto 0,.v 5 _]) [.o 8] (zM 0 G (zQ G (of_z hp hp1) (.o (vq 0 G)) (zM 1 G (zQ G (of_z hq0 hq1) (.o (vq 2 G)) (zQ G (Nv hq) (.p (vq 1 G) (vq 3 G)) (zv G (nJ (vq 4 G)) (zv G (nI (vq 4 G)) (zS 5 G ax (zA 6 G o0))))))))) (zz [(5,_)] Rx λ a w U=>?_);refine aa<|qh<|al ?_ (aP (rs:=[.cell 4 28,.tmp 5]) G U (.cell (zm 0 G) ax (.tmp (zm 0 G) .nil)) zd);rw [← GC hq (Hp hp hp1) (Hp hq0 hq1)];exact aG
structure RG where
 re:RF
 im:RF
 deriving DecidableEq
structure RM where
 a:RF
 b:RF
 c:RF
 d:RF
 deriving DecidableEq
structure RR where
 y:RF
 u:RF
 deriving DecidableEq
structure GQ where
 re:Rat
 im:Rat
 deriving DecidableEq
structure MQ where
 a:Rat
 b:Rat
 c:Rat
 d:Rat
 deriving DecidableEq
structure YQ where
 y:Rat
 u:Rat
 deriving DecidableEq
def QMA (k:Nat)(x:MQ):As:=cat [QA k x.a,QA k x.b,QA k x.c,QA k x.d]
def QRA (k:Nat)(x:YQ):As:=cat [QA k x.y,QA k x.u]
theorem qa_x {x:RF}(h:okX x=true)(hk:2048≤k):WkA (RFA x) (QA k (toQ x)):=by
 obtain ⟨h1,h2,h3⟩:=yB h;exact (gZ (qp RFA h1)).trans (F7 (qf h2 hk) (qf h3 hk))
theorem cZ:Str Tryz.prog 131 [RFA rf0,RFA rf0,RFA rf0,RFA rf0] :=
 Str.of (z:=.agg #[.bool false,.slice none 0 0,.bool false,.slice none 0 0,.bool false,.slice none 0 0,.bool false,.slice none 0 0,.bool false,.slice none 0 0,.bool false,.slice none 0 0,.bool false,.slice none 0 0,.bool false,.slice none 0 0]) zk Tryz.underlying131 zk λ B w=>⟨[[.bool false,.slice none 0 0,.bool false,.slice none 0 0],[.bool false,.slice none 0 0,.bool false,.slice none 0 0],[.bool false,.slice none 0 0,.bool false,.slice none 0 0],[.bool false,.slice none 0 0,.bool false,.slice none 0 0]],rfl,(.cons (f9 B w) (.cons (f9 B w) (.cons (f9 B w) (.cons (f9 B w) .nil))))⟩
theorem l5:Str Tryz.prog 124 [RFA rf0,RFA rf0] :=
 Str.of (z:=.agg #[.bool false,.slice none 0 0,.bool false,.slice none 0 0,.bool false,.slice none 0 0,.bool false,.slice none 0 0]) zk Tryz.underlying124 zk λ B w=>⟨[[.bool false,.slice none 0 0,.bool false,.slice none 0 0],[.bool false,.slice none 0 0,.bool false,.slice none 0 0]],rfl,(.cons (f9 B w) (.cons (f9 B w) .nil))⟩
theorem tu3w {a b c d e f:VA}(h:Wk a d)(h':Wk b e)(h'':Wk c f):Wk (Tu [a,b,c]) (Tu [d,e,f]):=Ej (.cons h (.cons h' (.cons h'' .nil)))
def fk (x:RI):Int:=IntKind.i64.wrap (1+(x.mag.length:Int))
def iH (x:RF):Int:=IntKind.i64.wrap (fk x.num+fk x.den)
def m7 (x y:RI):Int:=IntKind.i64.wrap (IntKind.i64.wrap ((IntKind.i64.wrap (min (x.mag.length:Int) 1048576*min (y.mag.length:Int) 1048576)).tdiv 16)*1024)
def dN (x:RF):Int:=IntKind.i64.wrap (iH x+m7 x.num x.den)
def bydF (n:Int):List Int→Bool
 | []=>false
 | x::xs=>if decide (IntKind.i64.wrap (n+x)>1048576) then true else bydF (IntKind.i64.wrap (n+x)) xs
theorem Ly {n:Int}{l:Yl}(h:j<l.length)(h2:decide (IntKind.i64.wrap (n+l[j])>1048576)=true):true=bydF n (l.drop j):=by
 rw [qK h,bydF,h2];rfl
theorem ON {n:Int}{l:Yl}(h:j<l.length)(h2:decide (IntKind.i64.wrap (n+l[j])>1048576)=false):bydF n (l.drop j)=bydF (IntKind.i64.wrap (n+l[j])) (l.drop (j+1)):=by
 rw [qK h,bydF,h2];rfl
theorem Ec (h:j<m)(hm:m≤9223372036854775807):IntKind.i64.wrap ((j:Int)+1)=((j+1:Nat):Int):=by rw [wi64 zo zo];rfl
theorem IT {l:Yb}(h:(SlA E D l).va.p B v w):l.length≤9223372036854775807:=by
 obtain ⟨cs,⟨_,A,c,ds,_,h1,h2,_⟩,_⟩:=h;unfold maxLen at h2;omega
theorem eu {α:Type}{f:α→As}{l:List α}(h:(SlA E D (l.map f)).va.p B v w):l.length≤9223372036854775807:=by
 have:=IT h;rwa [qc] at this
theorem rU (x:RI):Cn Tryz.prog 173 [(RIA x).va] (In (fk x)):=by
 refine Cn.intro Tryz.func173 G zk nq (zy [(0,(RIA x).va)] λ B w0 a U=>?_);refine qb<|zg [] Uu Uv Uw U (zW 0 G (zE G ab)) (zz Ux Uy ?_);refine ztA<|zgA U4 [] (.adr 3 1 (.some 1) True::(Wb 4 [.v 2 _])) UP (zO 0 G ar (zL 0 0 1 G bb (zv G (aK qd (vq 1 G)) (zv G (aL ab (vq 2 G) (G)) (zA 3 G o0))))) (zz Ux Uy λ a w U=>?_);refine aa<|qh<|al ?_ (am G U (zm 0 G));exact aG
theorem yU (x:RF):Cn Tryz.prog 96 [(RFA x).va] (In (iH x)):=by
 refine Cn.intro Tryz.func96 G zk nq (zy [(0,(RFA x).va)] λ B w0 a U=>?_);refine qb<|zg [] RL Uv Uw U (zW 0 G (zE G ab)) (zz Ux RN λ a w U=>?_);refine zt<|zgd RT U4 [] (.adr 3 1 (.some 0) True::(W6 4 (.adr 6 1 (.some 2) True::(Wb 7 [.v 2 _])))) [.o 7] ac U (zO 0 G aZ (zL 0 0 0 G ap (zQ G (rU _) (.o (vq 1 G)) (zO 0 G aU (zL 3 0 1 G ap (zQ G (rU _) (.o (vq 4 G)) (zv G (aL (vq 2 G) (vq 5 G) (G)) (zA 6 G o0)))))))) zk zk zk zk (zz Ux RN λ a w U=>?_);refine aa<|qh<|al ?_ (am G U (zm 0 G));exact aG
theorem Co (x y:RI):Cn Tryz.prog 97 [(RIA x).va,(RIA y).va] (In (m7 x y)):=by
 refine Cn.intro Tryz.func97 G zk nq (zy [(0,(RIA x).va),(1,(RIA y).va)] λ B w0 a U=>?_);refine qb<|zg [] UB UC Ud U (zW 0 G (zW 1 G (zE G ab))) (zz U3 UD ?_);refine ztA<|zgA UF [] (.adr 5 2 (.some 1) True::(Wb 6 (.adr 9 3 (.some 1) True::(Wl 10 [.v 4 _])))) [.o 11] (zO 0 G ar (zL 0 0 1 G bb (zv G (aK qd (vq 1 G)) (zv G (Jg (vq 2 G) ab) (zO 1 G ar (zL 4 1 1 G bb (zv G (aK qd (vq 5 G)) (zv G (Jg (vq 6 G) ab) (zv G (mF (vq 3 G) (vq 7 G) (G)) (zv G (nH (vq 8 G) ab zd (G)) (zv G (mF (vq 9 G) ab (G)) (zA 10 G o0)))))))))))) (zz U3 UD λ a w U=>?_);refine aa<|qh<|al ?_ (am G U (zm 0 G));exact aG
theorem gm (x:RF):Cn Tryz.prog 20 [(RFA x).va] (In (dN x)):=by
 refine Cn.intro Tryz.func20 G zk nq (zy [(0,(RFA x).va)] λ B w0 a U=>?_);refine qb<|zg [] RL Uv Uw U (zW 0 G (zE G ab)) (zz Ux RN λ a w U=>?_);refine zt<|zgd [[],[0],[],[2],[],[4],(Wm 6),(Wm 7),(Wm 8)] U4 [] (W6 3 (.adr 5 1 (.some 0) True::.v 6 _::.adr 7 1 (.some 2) True::(Wb 8 [.v 2 _]))) [.o 8] ac U (zl 0 G ax (zQ G (yU _) (.o (vq 0 G)) (zO 0 G aZ (zL 2 0 0 G ap (zO 0 G aU (zL 4 0 1 G ap (zQ G (Co _ _) (.p (vq 3 G) (vq 5 G)) (zv G (aL (vq 1 G) (vq 6 G) (G)) (zA 7 G o0))))))))) zk zk zk zk (zz Ux RN λ a w U=>?_);refine aa<|qh<|al ?_ (am G U (zm 0 G));exact aG
theorem Gy (l:Yl):Cn Tryz.prog 4 [(SlA 3 [] (l.map (NumA .i64))).va] (Bo (bydF 0 l)):=by
 refine Cn.intro Tryz.func4 G zk nq (zy [(0,(SlA 3 [] (l.map (NumA .i64))).va)] λ B w0 a U=>?_);have hl:=eu (U.vals (0,(SlA 3 [] (l.map (NumA .i64))).va) (zm 0 rfl));refine qb<|zh UA Rk U (zE G aE) (zz Rl [] ?_);refine ztA<|zhA [.v 3 _] WS (zE G ab) (zz (Wa 0 2 3) [] ?_);refine ztA<|zsA<|zhA WR WZ (zE G ab) (zz (Wf 0 2 3 4) [] λ a w U=>?_);refine aa<|qk ?_;have U:=U.sel [0,2,3];refine wp_loop_ghost (λ n a w=>∃ (j:Nat) (m:Int),(n+j=l.length∧bydF 0 l=bydF m (l.drop j))∧St B w0 19 [(0,(SlA 3 [] (l.map (NumA .i64))).va),(3,In m),(4,In (j:Nat))] [] a w) (l.length) ?_ ?_
 ·exact ⟨0,0,⟨by omega,rfl⟩,U⟩
 intro n a w hI;obtain ⟨j,m,⟨hn,hm⟩,U⟩:=hI;refine qb<|qb<|zh (Ww 5) WV U (zM 2 G (zM 0 G (zv G (bg qE (vq 1 G)) (zv G (aN (vq 0 G) (vq 2 G)) o0)))) (zz (Wf 0 3 4 8) [] λ a w U=>?_);refine zJ 3 U G (λ hb0=>?_) (λ hb0=>?_)
 ·have hj:j<l.length:=by rw [qc] at hb0;simp at hb0;omega
  refine qj<|zt<|qk<|qb<|zh (Wl 11 [.v 3 _]) [.g 0,.g 2,.o 6] U (zM 1 G (zM 0 G (zM 2 G (zv G (bB dr (bX λ _=>rfl) (vq 1 G) (vq 2 G) (bn hj)) (zv G (ao (vq 3 G) ty_3) (zv G (aL (vq 0 G) (vq 4 G) (G)) (zA 5 G o0))))))) (zz (Wa 0 4 3) [] ?_);refine ztA<|zhA (W6 17) WX (zM 2 G (zv G (cM (vq 0 G) ab) o0)) (zz (Wf 0 4 3 18) [] λ a w U=>?_);refine zJ 3 U G (λ hb1=>?_) (λ hb1=>?_)
  ·refine qb<|zh UA WZ U (zE G aE) (zz (Wf 0 4 3 2) [] λ a w U=>?_);refine aa<|qh<|aD ?_;refine aj ?_;refine aj ?_;refine aD ?_;refine aj ?_;refine al ?_ (am G U (zm 3 G));exact ba (qp Bo ((Ly hj hb1).trans hm.symm))
  ·refine qj<|ak ?_;refine aa<|zh (W6 9 [.v 4 _]) [.g 0,.g 2,.o 2] U (zM 1 G (zv G (aL (vq 0 G) ab (Ec hj hl)) (zA 1 G o0))) (zz (Wa 0 3 4) [] λ a w U=>?_);refine aa ?_;have U:=U.sel [0,1,2];exact ⟨n-1,by omega,j+1,_,⟨by omega,hm.trans (ON hj hb1)⟩,U⟩
 ·obtain rfl:j=l.length:=by rw [qc] at hb0;simp at hb0;omega
  refine qL<|ai<|ai<|az<|zt<|zh UA U2 U (zE G aE) (zz Ux [] λ a w U=>?_);refine aa<|qh<|al ?_ (am G U (zm 0 G));exact ba (qp Bo (by rw [hm,zG (qi _)];rfl))
theorem EF {a b:RI}(hn:a.neg=b.neg)(h:a.mag=b.mag):true=decide (a=b):=by
 cases a;cases b;simp_all
theorem EI {a b:RI}(h:((a.neg != b.neg) || (((a.mag.length:Nat):Int) != ((b.mag.length:Nat):Int)))=true):false=decide (a=b):=by
 symm;apply zT;rintro rfl;simp at h
theorem EG {a b:RI}(h:((a.neg != b.neg) || (((a.mag.length:Nat):Int) != ((b.mag.length:Nat):Int)))=false):a.neg=b.neg∧a.mag.length=b.mag.length:=by
 simp only [qN,bne_eq_false_iff_eq] at h;exact ⟨h.1,by omega⟩
theorem EH {a b:RI}(h1:j<a.mag.length)(h2:j<b.mag.length)(h:(((a.mag[j]:Nat):Int) != ((b.mag[j]:Nat):Int))=true):false=decide (a=b):=by
 symm;apply zT;rintro rfl;simp at h
theorem IF {l m:Ya}(h1:j<l.length)(h2:j<m.length)(h:l.take j=m.take j)(h3:(((l[j]:Nat):Int) != ((m[j]:Nat):Int))=false):l.take (j+1)=m.take (j+1):=by
 rw [qw h1,qw h2,h];simp only [bne_eq_false_iff_eq] at h3;rw [show l[j]=m[j] by omega]
theorem Mz {a b:RF}:(decide (a.num=b.num)&&decide (a.den=b.den))=decide (a=b):=by
 cases a;cases b;rw [jr];simp
theorem mA (x y:RI):Cn Tryz.prog 171 [(RIA x).va,(RIA y).va] (Bo (decide (x=y))):=by
 refine Cn.intro Tryz.func171 G zk nq (zy [(0,(RIA x).va),(1,(RIA y).va)] λ B w0 a U=>?_);have hxk:=l7 (U.vals (0,(RIA x).va) (zm 0 rfl));refine qb<|zg [] UB UC Ud U (zW 0 G (zW 1 G (zE G aE))) (zz U3 UD ?_);refine ztA<|zsA<|zgA UF [] (.adr 6 2 (.some 0) True::.v 7 _::.adr 8 3 (.some 0) True::(Wb 9 [.adr 12 2 (.some 1) (_=false),.f 13 _,.f 14 _,.adr 15 3 (.some 1) (_=false),.f 16 _,.f 17 _,.f 18 _,.v 19 _])) [.g 0,.o 13] (zO 0 G aY (zL 0 0 0 G ty_4 (zO 1 G aY (zL 2 1 0 G ty_4 (zv G (mE zk (vq 1 G) (vq 3 G)) (zV 4 G (zC 5 0 G ar (zB 5 G (λ hg=>aB 6 G zk hg (lz0 0 G) (Sub.part 1 G G) bb) (zB 5 G (λ hg=>aK qd (ae (vq 7 G) hg)) (zC 5 1 G ar (zB 5 G (λ hg=>aB 9 G zk hg (lz0 1 G) (Sub.part 1 G G) bb) (zB 5 G (λ hg=>aK qd (ae (vq 10 G) hg)) (zB 5 G (λ hg=>ca (ae (vq 8 G) hg) (ae (vq 11 G) hg)) (zv G (r_or (vq 5 G) (vq 12 G)) o0)))))))))))))) (zz (Wc 4 19) UD λ a w U=>?_);refine zJ 1 U G (λ hb0=>?_) (λ hb0=>?_)
 ·refine qb<|zg UH [] WR U2 U (zE G aE) (zz U3 UD λ a w U=>?_);refine aa<|qh<|aj ?_;refine al ?_ (am G U (zm 0 G));exact ba (qp Bo (EI hb0))
 ·obtain ⟨hn1,hl⟩:=EG hb0;refine qj<|zt<|qb<|zg UH [] UY Rk U (zE G ab) (zz (Wc 4 5) UD λ a w U=>?_);refine aa<|qk ?_;have U:=U.sel [1];refine wp_loop_ghost (λ n a w=>∃ j:Nat,(n+j=x.mag.length∧x.mag.take j=y.mag.take j)∧St B w0 38 [(5,In (j:Nat))] [⟨2,26,ptrH,RIA x⟩,⟨3,26,ptrH,RIA y⟩] a w) (x.mag.length) ?_ ?_
  ·exact ⟨0,⟨by omega,rfl⟩,U⟩
  intro n a w hI;obtain ⟨j,⟨hn,ht⟩,U⟩:=hI;refine qb<|qb<|zg UH [] (.v 20 _::.adr 21 2 (.some 1) True::(Wb 22)) Uz U (zM 0 G (zO 0 G ar (zL 1 0 1 G bb (zv G (aK qd (vq 2 G)) (zv G (aN (vq 0 G) (vq 3 G)) o0))))) (zz (Wc 5 24) UD λ a w U=>?_);refine zJ 1 U G (λ hb1=>?_) (λ hb1=>?_)
  ·have hj:j<x.mag.length:=by simp at hb1;omega
   refine qj<|zt<|qk<|qb<|zgd [[],[0],[],[0,1,2],(Wm 4),[],[5],[],[5,6,7],[5,6,7,8],(Wm 10)] UF [] (.adr 27 2 (.some 1) True::(Ww 28 (.adr 32 3 (.some 1) True::(Wd 33)))) [.g 0,.o 10] ac U (zO 0 G ar (zL 0 0 1 G bb (zM 0 G (zv G (bO bc (vq 1 G) (vq 2 G) zo) (zv G (ao (vq 3 G) aO) (zO 1 G ar (zL 5 1 1 G bb (zM 0 G (zv G (bO bc (vq 6 G) (vq 7 G) zo) (zv G (ao (vq 8 G) aO) (zv G (ca (vq 4 G) (vq 9 G)) o0))))))))))) zk zk zk zk (zz (Wc 5 37) UD λ a w U=>?_);refine zJ 1 U G (λ hb2=>?_) (λ hb2=>?_)
   ·refine qb<|zg UH [] WR Rk U (zE G aE) (zz (Wc 5 4) UD λ a w U=>?_);refine aa<|qh<|aD ?_;refine aj ?_;refine aj ?_;refine aD ?_;refine aj ?_;refine al ?_ (am G U (zm 1 G));exact ba (qp Bo (EH hj zo hb2))
   ·refine qj<|ak ?_;refine aa<|zg UH [] (W6 25 [.v 5 _]) Ud U (zM 0 G (zv G (aL (vq 0 G) ab (Ec hj hxk.2)) (zA 1 G o0))) (zz [(5,_)] UD λ a w U=>?_);refine aa ?_;have U:=U.sel [0];exact ⟨n-1,by omega,j+1,⟨by omega,IF hj zo ht hb2⟩,U⟩
  ·obtain rfl:j=x.mag.length:=by simp at hb1;omega
   refine qL<|ai<|ai<|az<|zt<|zg UH [] WR U2 U (zE G aE) (zz U3 UD λ a w U=>?_);refine aa<|qh<|al ?_ (am G U (zm 0 G));exact ba (qp Bo (EF hn1 (by rw [qF (qi _),qF zo] at ht;exact ht)))
theorem eK (x y:RF):Cn Tryz.prog 92 [(RFA x).va,(RFA y).va] (Bo (decide (x=y))):=by
 refine Cn.intro Tryz.func92 G zk nq (zy [(0,(RFA x).va),(1,(RFA y).va)] λ B w0 a U=>?_);refine qb<|zg [] RJ UC Ud U (zW 0 G (zW 1 G (zE G aE))) (zz U3 RK ?_);refine ztA<|zgA UF [] (.adr 5 2 (.some 0) True::.v 6 _::.adr 7 3 (.some 0) True::(Wb 8 [.adr 11 2 (.some 2) (_=true),.t 12 _,.adr 13 3 (.some 2) (_=true),.t 14 _,.t 15 _,.v 16 _,.v 4 _])) [.o 12] (zO 0 G aZ (zL 0 0 0 G ap (zO 1 G aZ (zL 2 1 0 G ap (zQ G (mA _ _) (.p (vq 1 G) (vq 3 G)) (zV 4 G (zC 5 0 G aU (zB 5 G (λ hg=>aB 6 G zk hg (lz0 0 G) (Sub.part 1 G G) ap) (zC 5 1 G aU (zB 5 G (λ hg=>aB 8 G zk hg (lz0 1 G) (Sub.part 1 G G) ap) (zB 5 G (λ hg=>be (mA _ _) (.p (ae (vq 7 G) hg) (ae (vq 9 G) hg))) (zv G (bv (vq 5 G) (vq 10 G)) (zA 11 G o0))))))))))))) (zz U3 RK λ a w U=>?_);refine aa<|qh<|al ?_ (am G U (zm 0 G));exact ba (qp Bo Mz)
open Go.ChangeShapes Go.WideShapes Go.ChangeAt
theorem DO {B:Nat}{w:Yi}:∀ {l:Yb}{cs:Ym},cs.length=(l.map (·.n)).sum→(∀ (k:Nat) (A:As),l[k]?=some A→A.p B ((cs.drop (offs l k)).take A.n) w)→(cat l).p B cs w
 | [],cs,hl,_=>by
  have:cs=[]:=vk.1 (by simpa using hl);subst this;exact ⟨[],rfl,.nil⟩
 | A::l,cs,hl,h=>by
  simp only [qS,xe] at hl;have h0:=h 0 A rfl;simp only [offs,ki,jL,List.sum_nil,xk] at h0;obtain ⟨ps,e,hps⟩:=DO (l:=l) (cs:=cs.drop A.n) (B:=B) (w:=w) (by simp;omega) λ k A' hk=>by
   have:=h (k+1) A' (by simpa using hk);simp only [offs,vI,qS,xe] at this;rw [List.drop_drop];exact this
  exact ⟨cs.take A.n::ps,by rw [qZ,← e,xO],.cons h0 hps⟩
section
variable {H:Type}{enc:TypeId × Value→H}{w:World}{base:Nat}{spare:Nat→Bool}{held:Bool}{fuel:Nat}{cs:List Value}{x:DataW H × List MemPlace}
theorem PD (h:DataW.trod enc Tryz.prog w base spare held fuel 24 cs=some x):∃ l,(MgA l).p w.heap.size cs w:=by
 rcases open_ints qd vO zk h with ⟨hcs,_⟩|⟨a,len,cap,zs,rfl,_,hl,hm,hz,_,hcell,hwz⟩
 ·subst hcs;exact ⟨[],fN _ _⟩
 ·have hzl:len≤zs.length:=by rw [hz];split <;> omega
  have hnn:∀ n∈zs,0≤n∧n<4294967296:=λ n hn=>by
   have:=hwz n hn;simp [Lit.wf,IntKind.min,IntKind.max,IntKind.signed,IntKind.bits] at this;omega
  have hlen:((zs.take len).map Int.toNat).length=len:=by simp;omega
  refine ⟨(zs.take len).map Int.toNat,?_⟩;have hM:Mag w.heap.size w (some a) cap ((zs.take len).map Int.toNat):=by
   refine ⟨λ y hy=>?_,by omega,hm,λ hn=>?_⟩
   ·obtain ⟨n,hn,rfl⟩:=qq.1 hy;have:=hnn n (xj hn);omega
   ·obtain ⟨b,off,rfl,hc⟩:=ints_at hcell zo;have hb:b<w.heap.size:=World.block_lt_of_cell? w _ (hc 0 zo);refine ⟨b,off,rfl,hb,.inl hb,λ j hj=>?_⟩;rw [hc j zo];have hjz:j<zs.length:=by omega
    have:=hnn _ (qg hjz)
    congr 2
    simp only [we,v6];rw [Int.toNat_of_nonneg this.1];simp [List.getD_eq_getElem?_getD,List.getElem?_eq_getElem hjz]
  obtain ⟨ds,hp,hv⟩:=eG hM hlen.symm;have hd:=(MgA ((zs.take len).map Int.toNat)).len _ _ _ hp
  match ds,hd with
  | [d],_ =>
   have:d=.slice (some a) len cap:=hv.symm;subst this;exact hp
theorem DL (h0:A0.p B ((cs.drop 0).take A0.n) w)(h1:A1.p B ((cs.drop A0.n).take A1.n) w)(hl:cs.length=A0.n+A1.n):(cat [A0,A1]).p B cs w :=
 DO (by simpa using hl) λ k A hk=>by
  match k,hk with
  | 0,hk=>simp at hk;subst hk;exact h0
  | 1,hk=>simp at hk;subst hk;simpa [offs] using h1
theorem PF (h:DataW.trod enc Tryz.prog w base spare held fuel 4 cs=some x):∃ b,(BoA b).p w.heap.size cs w:=by
 obtain ⟨b,hb,_⟩:=DataW.trod_bool wb h;exact ⟨b,hb⟩
end
structure OkG (p:GQ):Prop where
 re:dX p.re=false
 im:dX p.im=false
 pos:0<p.im
theorem div_pos {x y:Rat}(h:0<x)(h':0<y):0<x/y:=Rat.mul_pos h (Rat.inv_pos.2 h')
theorem Q8 {x:RF}(h:okX x=true):∃ r,x=rfOf r∧dX r=false:=by
 obtain ⟨e,h1⟩:=yB h;exact ⟨_,e,longQ_false.2 h1⟩
def cbl (cs:List Value):List Nat:=cs.filterMap blk
def vbl (v:Value):List Nat:=cbl v.cells.toList
def Sep (u v:Value):Prop:=∀ g∈vbl u,g ∉ vbl v
def cu (us:List Value)(v:Value):Prop:=∀ u∈us,Sep u v
theorem mn (h:A.p B cs w):vbl (cL A.ag cs)=cbl cs:=by
 show cbl (cL A.ag cs).cells.toList=_;rw [A.cells_shape h]
def PinA (v:Value)(A:As):As where
 n:=A.n
 ag:=A.ag
 p B cs w:=A.p B cs w∧cL A.ag cs=v
 deps:=A.deps
 len:=λ B cs w h=>A.len B cs w h.1
 one:=λ B cs w h=>A.one B cs w h.1
 ag1:=A.ag1
 cg:=λ B cs w w' hg h=>⟨A.cg B cs w w' hg h.1,h.2⟩
 wr:=λ B cs w w' g c T fz h1 h2 h3 h4 h=>⟨A.wr B cs w w' g c T fz h1 h2 h3 h4 h.1,h.2⟩
theorem I6 {c:Prop}:WkA (A.and c) A:=⟨rfl,rfl,λ _ _ _ h=>h.2⟩
def NewA (A:As):Prop:=∀ B cs w,A.p B cs w→∀ g∈cbl cs,B≤g∧g<w.heap.size
def NodA (A:As):Prop:=∀ B cs w,A.p B cs w→(cbl cs).Nodup
def DisA (A:As):As where
 n:=A.n
 ag:=A.ag
 p B cs w:=A.p B cs w∧(cbl cs).Nodup
 deps:=A.deps
 len:=λ B cs w h=>A.len B cs w h.1
 one:=λ B cs w h=>A.one B cs w h.1
 ag1:=A.ag1
 cg:=λ B cs w w' hg h=>⟨A.cg B cs w w' hg h.1,h.2⟩
 wr:=λ B cs w w' g c T fz h1 h2 h3 h4 h=>⟨A.wr B cs w w' g c T fz h1 h2 h3 h4 h.1,h.2⟩
theorem dis_wk :WkA (DisA A) A:=⟨rfl,rfl,λ _ _ _ h=>h.1⟩
theorem tB :NodA (DisA A):=λ _ _ _ h=>h.2
theorem DA (h:NewA A):NewA (DisA A):=λ B cs w hp=>h B cs w hp.1
theorem mh (h:FreeA A A):FreeA (DisA A) (DisA A):=⟨rfl,rfl,λ B B' cs w hB hp=>⟨h.2.2 B B' cs w hB hp.1,hp.2⟩⟩
theorem dB {a b:Ym}:cbl (a++b)=cbl a++cbl b:=vw ..
theorem pb {B:Nat}{w:Yi}:∀ {l:Yb}{ps:Yy},(∀ A∈l,NewA A)→All2 (λ (A:As) c=>A.p B c w) l ps→∀ g∈cbl ps.flatten,B≤g∧g<w.heap.size
 | [],_,_,h,g,hg=>by cases h;cases hg
 | A::l,_,hn,h,g,hg=>by
  cases h with
  | cons h1 h2 =>
   rw [qZ,dB,qo] at hg;rcases hg with hg|hg
   ·exact hn A (by simp) _ _ _ h1 g hg
   ·exact pb (λ A' hA=>hn A' (by simp [hA])) h2 g hg
theorem pc {l:Yb}(h:∀ A∈l,NewA A):NewA (cat l):=λ B cs w ⟨ps,e,hp⟩=>by
 subst e;exact pb h hp
def pins:List Value→List (Value × As)→List As
 | _,[]=>[]
 | us,(v,A)::l=>PinA v (A.and (cu us v))::pins (us++[v]) l
theorem BS:∀ {l:List (Yo × As)}{us:Ym}{B:Nat}{w:Yi}{ps:Yy},(∀ x∈l,NodA x.2)→All2 (λ (A:As) c=>A.p B c w) (pins us l) ps →
  All2 (λ (A:As) c=>A.p B c w) (l.map (·.2)) ps∧(cbl ps.flatten).Nodup∧∀ u∈us,∀ g∈vbl u,g ∉ cbl ps.flatten
 | [],us,B,w,ps,_,h=>by
  cases h;exact ⟨.nil,jf,λ _ _ _ _ h=>by cases h⟩
 | (v,A)::l,us,B,w,ps,hn,h=>by
  cases h with
  | @cons _ c _ cs h1 h2 =>
   obtain ⟨q1,q2,q3⟩:=BS (λ x hx=>hn x (by simp [hx])) h2;obtain ⟨⟨hsep,hA⟩,hv⟩:=h1;have hvb:vbl v=cbl c:=by
    have hv':cL A.ag c=v:=hv;rw [← hv'];exact mn hA
   refine ⟨.cons hA q1,?_,λ u hu g hg hm=>?_⟩
   ·rw [qZ,dB];refine xC.2 ⟨hn (v,A) (by simp) _ _ _ hA,q2,λ x hx y hy e=>?_⟩;subst e;exact q3 v (by simp) x (by rw [hvb];exact hx) hy
   ·rw [qZ,dB,qo] at hm;rcases hm with hm|hm
    ·exact hsep u hu g hg (by rw [hvb];exact hm)
    ·exact q3 u (by simp [hu]) g hg hm
theorem mf {l:List (Yo × As)}(hn:∀ x∈l,NodA x.2):WkA (cat (pins [] l)) (DisA (cat (l.map (·.2)))):=by
 have hlen:∀ (us:List Value) (l:List (Value × As)),((pins us l).map (·.n)).sum=((l.map (·.2)).map (·.n)).sum:=by
  intro us l
  induction l generalizing us with
  | nil=>rfl
  | cons x l ih=>obtain ⟨v,A⟩:=x;simp only [pins,qS,xe,ih];rfl
 refine ⟨(hlen [] l).symm,rfl,λ B cs w ⟨ps,e,hp⟩=>?_⟩;obtain ⟨q1,q2,_⟩:=BS hn hp;subst e;exact ⟨⟨ps,rfl,q1⟩,q2⟩
namespace Rg
structure LeF where
 s:Nat
 T:TypeId
 H:Hd
 cr:Option Nat
 A0:As
 st:Option (Nat × ((Nat→Value)→As))
def LeF.on (ν:Nat→Value)(e:LeF):Le:=⟨e.s,e.T,e.H,e.cr,e.A0,match e.st with|none=>none|some (j,f)=>some (j,f ν)⟩
abbrev fam (ops:Array Oper)(N:Nat)(Γ:List (Nat × VA))(les:List LeF)(sp:List ((Nat→Value)→Sp))(anc:Nat→List Nat)(ν:Nat→Value):Rg:=⟨ops,N,Γ,les.map (LeF.on ν),sp.map (λ f=>f ν),anc⟩
def Dep {α:Type}(S:Nat→Bool)(f:(Nat→Value)→α):Prop:=∀ ν ν',(∀ k,S k=true→ν k=ν' k)→f ν=f ν'
def bef (anc:Nat→List Nat)(i k:Nat):Bool:=k==i || (anc i).contains k
def nK (ν:Nat→Value)(i:Nat)(v:Value):Nat→Value:=λ k=>if k=i then v else ν k
theorem oZ {ν:Yz}:nK ν i v i=v:=qC rfl
theorem Qf {ν:Yz}(h:k≠i):nK ν i v k=ν k:=qz h
section
variable {ops:Array Oper}{N:Nat}{Γ:List (Nat × VA)}{les:List LeF}{sp:List ((Nat→Value)→Sp)}{anc:Nat→List Nat}{ν ν':Nat→Value}{B:Nat}{w0:Bs}{L:Nat→Bool}{a:Act}{w:World}{P:Program}{Q:Exit→Act→World→Prop}{i:Nat}
theorem sn {deps:Yq}:clash (fam ops N Γ les sp anc ν) L deps=clash (fam ops N Γ les sp anc ν') L deps:=by
 unfold clash;show (les.map (LeF.on ν)).any _=(les.map (LeF.on ν')).any _;rw [List.any_map,List.any_map]
 congr 1
 funext e;obtain ⟨s,T,H,cr,A0,st⟩:=e;cases st with
 | none=>rfl
 | some x=>rfl
theorem tC (hdL:∀ e∈les,∀ j f,e.st=some (j,f)→Dep (bef anc j) f)(hc:cG (fam ops N Γ les sp anc ν) L)(hn:∀ k,L k=true→ν k=ν' k){e:LeF}(he:e∈les):cur L (e.on ν)=cur L (e.on ν'):=by
 obtain ⟨s,T,H,cr,A0,st⟩:=e;cases st with
 | none=>rfl
 | some x =>
  obtain ⟨j,f⟩:=x;show (if crOk L cr=true then some (if L j=true then f ν else A0) else none)=(if crOk L cr=true then some (if L j=true then f ν' else A0) else none)
  cases hj:L j with
  | false=>rfl
  | true =>
   have:f ν=f ν':=hdL _ he j f rfl ν ν' λ k hk=>hn k (by
    simp only [bef,z4,xv] at hk;rcases hk with rfl|hk
    ·exact hj
    ·exact hc j hj k hk)
   rw [this]
theorem GX (hdS:∀ i f,sp[i]?=some f→Dep (bef anc i) f)(hc:cG (fam ops N Γ les sp anc ν) L)(hn:∀ k,L k=true→ν k=ν' k)(hj:L j=true):(sp.map λ f=>f ν')[j]?=(sp.map λ f=>f ν)[j]?:=by
 rw [List.getElem?_map,List.getElem?_map];cases hs:sp[j]? with
 | none=>rfl
 | some f =>
  have:f ν=f ν':=hdS j f hs ν ν' λ k hk=>hn k (by
   simp only [bef,z4,xv] at hk;rcases hk with rfl|hk
   ·exact hj
   ·exact hc j hj k hk)
  show some (f ν')=some (f ν);rw [this]
theorem Inv.nu (hdS:∀ i f,sp[i]?=some f→Dep (bef anc i) f)(hdL:∀ e∈les,∀ j f,e.st=some (j,f)→Dep (bef anc j) f)(hc:cG (fam ops N Γ les sp anc ν) L)(hn:∀ k,L k=true→ν k=ν' k)(h:(fam ops N Γ les sp anc ν).Inv B w0 L a w):(fam ops N Γ les sp anc ν').Inv B w0 L a w:=by
 refine ⟨h.lo,h.defers,h.size,h.base,λ x hx h1 h2=>h.g x hx h1 (by rw [sn (ν':=ν')];exact h2),λ i y d A hs hv hL h2=>?_,λ i d b k c hs hL hc'=>?_,λ e he A hA=>?_,λ e he f hf hne h1 h2=>?_⟩
 ·exact h.v i y d A (by rw [← hs];exact (GX hdS hc hn hL).symm) hv hL (by rw [sn (ν':=ν')];exact h2)
 ·exact h.d i d b k c (by rw [← hs];exact (GX hdS hc hn hL).symm) hL hc'
 ·obtain ⟨e0,he0,rfl⟩:=qq.1 he;exact h.c (e0.on ν) (qq.2 ⟨e0,he0,rfl⟩) A (by rw [tC hdL hc hn he0];exact hA)
 ·obtain ⟨e0,he0,rfl⟩:=qq.1 he;obtain ⟨f0,hf0,rfl⟩:=qq.1 hf;exact h.x (e0.on ν) (qq.2 ⟨e0,he0,rfl⟩) (f0.on ν) (qq.2 ⟨f0,hf0,rfl⟩) hne (by rw [tC hdL hc hn he0];exact h1) (by rw [tC hdL hc hn hf0];exact h2)
def ObF (P:Program)(Q:Exit→Act→World→Prop)(ops:Array Oper)(N:Nat)(Γ:List (Nat × VA))(les:List LeF)(sp:List ((Nat→Value)→Sp))(anc:Nat→List Nat)(B:Nat)(w0:Bs)(i:Nat):Prop :=
 (∀ ν,(fam ops N Γ les sp anc ν).Ob P Q B w0 i)∨∃ (d:Nat) (A:(Nat→Value)→VA),sp[i]?=some (λ ν=>.v d (A ν))∧∀ ν a w,(fam ops N Γ les sp anc ν).Av B w0 i a w→∀ K:Act→World→Prop,(∀ v w',Grow w w'→(A (nK ν i v)).p B v w'→K (a.put (some d) v) w')→wpOp P ops Q i K a w
theorem IK (hk:∀ ν,chk (fam ops N Γ les sp anc ν)=true)(hdS:∀ i f,sp[i]?=some f→Dep (bef anc i) f)(hdL:∀ e∈les,∀ j f,e.st=some (j,f)→Dep (bef anc j) f)(hob:ObF P Q ops N Γ les sp anc B w0 i)(h:(fam ops N Γ les sp anc ν).Inv B w0 L a w)(hc:cG (fam ops N Γ les sp anc ν) L)(hL:L i=false)(ha:∀ j,(anc i).contains j=true→L j=true)(K:Ye)
  (hK:∀ ν' a' w',(fam ops N Γ les sp anc ν').Inv B w0 (upd L i) a' w'→K a' w'):wpOp P ops Q i K a w:=by
 rcases hob with hob|⟨d,A,hs,hob⟩
 ·exact step (hk ν) (hob ν) h hc hL ha K λ a' w' hi=>hK ν a' w' hi
 ·refine hob ν a w (h.av hc hL ha) K λ v w' hg hA=>hK (nK ν i v) _ _ ?_;have hi':=h.nu (ν':=nK ν i v) hdS hdL hc λ k hk=>(Qf (λ e=>by rw [e,hL] at hk;cases hk)).symm;have hs':(fam ops N Γ les sp anc (nK ν i v)).sp[i]?=some (.v d (A (nK ν i v))):=by
   show (sp.map _)[i]?=_;rw [List.getElem?_map,hs];rfl
  have hop:=(fW (hk (nK ν i v)) (chk_lt (hk _) hs')).1;simp only [hs',ql,xv,qI] at hop;exact hi'.put (hk _) hc hL hs' hop.1 hop.2 ⟨(λ e he=>by cases he),rfl⟩ hg
   (λ d' A' he=>by simp only [Sp.vl,Option.some.injEq,Prod.mk.injEq] at he;obtain ⟨rfl,rfl⟩:=he;exact ⟨rfl,hA⟩) (λ d' b k c he=>by cases he)
theorem linV (hanc:anc=λ i=>List.range i)(hk:∀ ν,chk (fam ops N Γ les sp anc ν)=true)(hdS:∀ i f,sp[i]?=some f→Dep (bef anc i) f)(hdL:∀ e∈les,∀ j f,e.st=some (j,f)→Dep (bef anc j) f)(ν0:Yz)(h:St B w0 N Γ Λ a w)(hles:∀ e∈(fam ops N Γ les sp anc ν0).les,e.cr=none→(⟨e.s,e.T,e.H,e.A0⟩:Lc)∈Λ)
  (hob:∀ i,i<ops.size→ObF P Q ops N Γ les sp anc B w0 i) (hQ:∀ ν a' w',Fin (fam ops N Γ les sp anc ν) B w0 a' w'→Q .normal a' w'):(Code.region id ops false).wp P Q a w:=by
 refine wp_region ?_;have key:∀ m k,k+m=ops.size→∀ ν a w,(fam ops N Γ les sp anc ν).Inv B w0 (λ j=>decide (j<k)) a w→wpOps P ops Q (List.range' k m) a w:=by
  intro m
  induction m with
  | zero =>
   intro k hkm ν a w hi;have:k=ops.size:=by omega
   subst this;exact hQ ν a w ⟨hi⟩
  | succ m ih =>
   intro k hkm ν a w hi;rw [List.range'_succ,qx];refine IK hk hdS hdL (hob k zo) hi ?_ (by simp) ?_ _ λ ν' a' w' hi'=>ih (k+1) zo ν' a' w' (hi'.congr λ j=>?_)
   ·intro i hi j hj;have hj:(anc i).contains j=true:=hj;rw [hanc] at hj;simp at hi hj ⊢;omega
   ·intro j hj;rw [hanc] at hj;simpa using hj
   ·unfold upd;by_cases h1:j=k
    ·subst h1;simp
    ·have h2:(j==k)=false:=by simpa using h1
     rw [h2,xI,qU];omega
 rw [List.range_eq_range'];exact key _ 0 zo ν0 a w ((start (R:=fam ops N Γ les sp anc ν0) h hles).congr λ j=>by simp)
theorem drawV (hm:P.follows .mixedOrders=true)(hanc:ancOk (fam ops N Γ les sp anc (λ _=>undef))=true)(hk:∀ ν,chk (fam ops N Γ les sp anc ν)=true)(hdS:∀ i f,sp[i]?=some f→Dep (bef anc i) f)(hdL:∀ e∈les,∀ j f,e.st=some (j,f)→Dep (bef anc j) f)(ν0:Yz)(h:St B w0 N Γ Λ a w)(hles:∀ e∈(fam ops N Γ les sp anc ν0).les,e.cr=none→(⟨e.s,e.T,e.H,e.A0⟩:Lc)∈Λ)
  (hob:∀ i,i<ops.size→ObF P Q ops N Γ les sp anc B w0 i) (hQ:∀ ν a' w',Fin (fam ops N Γ les sp anc ν) B w0 a' w'→Q .normal a' w'):(Code.region id ops true).wp P Q a w:=by
 refine wp_region_any hm ?_;have ho:∀ i,i<ops.size→∃ o,ops[i]?=some o∧(∀ j,(anc i).contains j=true→∃ e∈o.after,Region.binds .any e=true∧(e.on=j∨(anc e.on).contains j=true)) ∧
   ∀ e∈o.after,Region.binds .any e=true→e.on<i:=by
  intro i hi;have:=qe.1 hanc i (by simpa using hi);cases hoi:ops[i]? with
  | none=>rw [hoi] at this;cases this
  | some o =>
   rw [hoi] at this;simp only [ql] at this;refine ⟨o,rfl,λ j hj=>?_,λ e he hb=>?_⟩
   ·have hh:=qe.1 this.1 j (by simpa using hj);obtain ⟨e,he,h1⟩:=jU.1 hh;simp only [ql,z4,xv] at h1;exact ⟨e,he,h1.1,h1.2⟩
   ·have hh:=z6.1 this.2 e he;simpa [hb] using hh
 have hrd:∀ (listed:Array Bool) i,i∈Region.ready .any ops listed→i<ops.size∧listed.getD i true=false∧∀ o,ops[i]?=some o→∀ e∈o.after,Region.binds .any e=true→listed.getD e.on false=true:=by
  intro listed i hi;unfold Region.ready at hi;obtain ⟨h1,h2⟩:=z5.1 hi;simp only [ql,qy] at h2;refine ⟨by simpa using h1,h2.1,λ o hoi e he hb=>?_⟩;have h3:=h2.2;rw [hoi] at h3;simp only [qT,xx] at h3;have:=z6.1 h3 e he;simpa [hb] using this
 have key:∀ fuel (listed:Array Bool) ν a w,listed.size=ops.size→(List.range ops.size).countP (λ i => !listed.getD i false)≤fuel→cG (fam ops N Γ les sp anc (λ _=>undef)) (λ i=>listed.getD i false) →
   (fam ops N Γ les sp anc ν).Inv B w0 (λ i=>listed.getD i false) a w→wpAny P .any ops Q fuel listed a w:=by
  intro fuel;have hend:∀ (listed:Array Bool) ν a w,listed.size=ops.size→Region.ready .any ops listed=[]→(fam ops N Γ les sp anc ν).Inv B w0 (λ i=>listed.getD i false) a w→Q .normal a w:=by
   intro listed ν a w hsz hr hi;refine hQ ν a w ⟨hi.congr λ k=>?_⟩;by_cases hkn:k<ops.size
   ·have:∀ k,k<ops.size→listed.getD k false=true:=by
     intro k
     induction k using Nat.strongRecOn with
     | _ k ih =>
      intro hkn;cases hl:listed.getD k false with
      | true=>rfl
      | false =>
       exfalso;obtain ⟨o,ho1,_,ho3⟩:=ho k hkn;have:k∈Region.ready .any ops listed:=by
        unfold Region.ready;refine z5.2 ⟨by simpa using hkn,?_⟩;have h0:listed.getD k true=false:=by
         simp only [Array.getD,hsz,hkn,dite_true] at hl ⊢;exact hl
        rw [h0,ho1];simp only [jT,kr,qT,xx];refine z6.2 λ e he=>?_;cases hb:Region.binds .any e with
        | false=>rfl
        | true=>simpa using ih e.on (ho3 e he hb) (zD (ho3 e he hb) hkn)
       rw [hr] at this;cases this
    simp [hkn,this k hkn]
   ·have:listed.getD k false=false:=by simp [Array.getD,hsz,hkn]
    simp [hkn,this]
  induction fuel with
  | zero =>
   intro listed ν a w hsz hcnt hcl hi;have hr:Region.ready .any ops listed=[]:=by
    cases hrr:Region.ready .any ops listed with
    | nil=>rfl
    | cons i rest =>
     exfalso;obtain ⟨h1,h2,_⟩:=hrd listed i (by rw [hrr];simp);have:0<(List.range ops.size).countP (λ i => !listed.getD i false):=by
      refine jI.2 ⟨i,by simpa using h1,?_⟩;simp only [Array.getD,hsz,h1,dite_true] at h2 ⊢;simpa using h2
     omega
   exact ⟨hr,hend listed ν a w hsz hr hi⟩
  | succ fuel ih =>
   intro listed ν a w hsz hcnt hcl hi;refine ⟨λ hr=>hend listed ν a w hsz hr hi,λ i hir=>?_⟩;obtain ⟨h1,h2,h3⟩:=hrd listed i hir;obtain ⟨o,ho1,ho2,_⟩:=ho i h1;have hLi:listed.getD i false=false:=by
    simp only [Array.getD,hsz,h1,dite_true] at h2 ⊢;exact h2
   have hanci:∀ j,(anc i).contains j=true→listed.getD j false=true:=by
    intro j hj;obtain ⟨e,he,hb,hj'⟩:=ho2 j hj;have hl:=h3 o ho1 e he hb;rcases hj' with rfl|hj'
    ·exact hl
    ·exact hcl e.on hl j hj'
   have hup:∀ k,(listed.setIfInBounds i true).getD k false=upd (λ i=>listed.getD i false) i k:=by
    intro k;unfold upd;by_cases hki:k=i
    ·subst hki;simp [hsz,h1]
    ·simp [hki,Array.getElem?_setIfInBounds_ne (λ e=>hki e.symm)]
   refine IK hk hdS hdL (hob i h1) hi hcl hLi hanci _ λ ν' a' w' hi'=>ih _ ν' _ _ (by simpa using hsz) ?_ ?_ (hi'.congr hup)
   ·have:(List.range ops.size).countP (λ k => !(listed.setIfInBounds i true).getD k false)<(List.range ops.size).countP (λ k => !listed.getD k false):=by
     refine eR (x:=i) (λ x hx=>?_) (by simpa using h1) (by rw [hLi];rfl) (by rw [hup,ci];rfl);have hx':upd (λ i=>listed.getD i false) i x=false:=by
      rw [← hup];simpa only [qy] using hx
     rw [(dK hx').2]
     rfl
    omega
   ·intro k hk' j hj;have hk2:upd (λ i=>listed.getD i false) i k=true:=by rw [← hup];exact hk'
    show (listed.setIfInBounds i true).getD j false=true;rw [hup];rcases rG hk2 with rfl|h4
    ·exact cX _ (hanci j hj)
    ·exact cX _ (hcl k h4 j hj)
 refine key _ _ ν0 a _ (by simp) ?_ ?_ ?_
 ·refine qf (jz) (by simp)
 ·intro i hi;exfalso;simp only [Array.getD,qO] at hi;split at hi <;> simp at hi
 ·have hs:=start (R:=fam ops N Γ les sp anc ν0) h hles;have hd:(fam ops N Γ les sp anc ν0).Inv B w0 (λ _=>false) a w.drew:=⟨hs.lo,hs.defers.grow (Grow.drew w) rfl,hs.size,hs.base.drew,λ x hx h1 h2=>x.2.grow _ _ _ _ (Grow.drew w) (hs.g x hx h1 h2),(λ i y d A _ _ hf=>by cases hf),(λ i d b k c _ hf=>by cases hf),
   λ e he A hA=>(hs.c e he A hA).grow (Grow.drew w),hs.x⟩
  refine Inv.congr hd λ k=>?_;simp only [Array.getD,qO];split <;> simp
end
def DepS (anc:Nat→List Nat):Nat→List ((Nat→Value)→Sp)→Prop
 | _,[]=>True
 | k,f::l=>Dep (bef anc k) f∧DepS anc (k+1) l
theorem DepS.at {anc:Nat→Ya}:∀ {l:List ((Yz)→Sp)}{k:Nat},DepS anc k l→∀ i f,l[i]?=some f→Dep (bef anc (k+i)) f
 | g::l,k,h,0,f,hf=>by
  simp at hf;subst hf;exact h.1
 | g::l,k,h,i+1,f,hf=>by
  have:=DepS.at h.2 i f (by simpa using hf);rwa [show k+1+i=k+(i+1) by omega] at this
def DepL (anc:Nat→List Nat):List LeF→Prop
 | []=>True
 | e::l=>(match e.st with|none=>True|some (j,f)=>Dep (bef anc j) f)∧DepL anc l
theorem DepL.mem {anc:Nat→Ya}:∀ {l:List LeF},DepL anc l→∀ e∈l,∀ j f,e.st=some (j,f)→Dep (bef anc j) f
 | g::l,h,e,he,j,f,hf=>by
  rcases qr.1 he with rfl|he
  ·have h1:=h.1;rw [hf] at h1;exact h1
  ·exact DepL.mem h.2 e he j f hf
end Rg
open Rg in
def lesF (Λ:List Lc)(sts:List (Option (Nat × ((Nat→Value)→As))))(news:List LeF):List LeF:=(Λ.zip sts).map (λ x=>⟨x.1.s,x.1.T,x.1.H,none,x.1.A,x.2⟩)++news
open Rg in
def ObsF (P:Program)(Q:Exit→Act→World→Prop)(ops:Array Oper)(N:Nat)(Γ:List (Nat × VA))(les:List LeF)(sp:List ((Nat→Value)→Sp))(anc:Nat→List Nat)(B:Nat)(w0:Bs):Nat→Nat→Prop
 | _,0=>True
 | k,m+1=>ObF P Q ops N Γ les sp anc B w0 k∧ObsF P Q ops N Γ les sp anc B w0 (k+1) m
open Rg in
theorem ObsF.all {les:List LeF}{sp:List ((Yz)→Sp)}{anc:Nat→Ya}(h:ObsF P Q ops N Γ les sp anc B w0 k m):∀ j,k≤j→j<k+m→ObF P Q ops N Γ les sp anc B w0 j:=by
 induction m generalizing k with
 | zero=>intro j h1 h2;omega
 | succ m ih =>
  intro j h1 h2;by_cases hj:j=k
  ·subst hj;exact h.1
  ·exact ih h.2 j zo zo
section
open Rg
variable {P:Program}{Q:Exit→Act→World→Prop}{B N:Nat}{w0:Bs}{Γ:List (Nat × VA)}{Λ:List Lc}{a:Act}{w:World}
theorem Cx {sts:List (Option (Nat × ((Yz)→As)))}{news:List LeF}{ν:Yz}(hn:news.all (λ e=>e.cr.isSome)=true):∀ e∈(lesF Λ sts news).map (LeF.on ν),e.cr=none→(⟨e.s,e.T,e.H,e.A0⟩:Lc)∈Λ:=by
 intro e he hcr;obtain ⟨e0,he0,rfl⟩:=qq.1 he;unfold lesF at he0;rcases qo.1 he0 with he|he
 ·obtain ⟨x,hx,rfl⟩:=qq.1 he;exact (List.of_mem_zip hx).1
 ·have:=qe.1 hn e0 he;have h2:e0.cr=none:=hcr;rw [h2] at this;cases this
theorem KM {sts:List (Option (Nat × ((Yz)→As)))}{news:List LeF}{sp:List ((Yz)→Sp)}(src:List Src)(h:St B w0 N Γ Λ a w)
  (hob:ObsF P Q ops N Γ (lesF Λ sts news) sp (λ i=>List.range i) B w0 0 ops.size) (hdS:DepS (λ i=>List.range i) 0 sp) (hdL:DepL (λ i=>List.range i) (lesF Λ sts news))
  (hn:news.all (λ e=>e.cr.isSome)=true) (hk:∀ ν,Rg.chk (fam ops N Γ (lesF Λ sts news) sp (λ i=>List.range i) ν)=true) (hsrc:∀ ν,src.all (okS (fam ops N Γ (lesF Λ sts news) sp (λ i=>List.range i) ν))=true)
  (hQ:∀ ν a w,St B w0 N (src.filterMap (cC (fam ops N Γ (lesF Λ sts news) sp (λ i=>List.range i) ν))) (((lesF Λ sts news).map (LeF.on ν)).map λ e=>⟨e.s,e.T,e.H,Rg.last e⟩) a w→Q .normal a w):(Code.region id ops false).wp P Q a w :=
 Rg.linV rfl hk (λ i f hf=>by have:=hdS.at i f hf;rwa [qV] at this) hdL.mem (λ _=>undef) h (Cx hn) (λ i hi=>hob.all i zo zo) λ ν a' w' hf=>hQ ν a' w' (fp (hk ν) hf src (hsrc ν))
theorem go_drawV' {sts:List (Option (Nat × ((Yz)→As)))}{news:List LeF}{sp:List ((Yz)→Sp)}(anc:List (Ya))(src:List Src)(hm:P.follows .mixedOrders=true)(h:St B w0 N Γ Λ a w)
  (hob:ObsF P Q ops N Γ (lesF Λ sts news) sp (λ i=>anc.getD i []) B w0 0 ops.size) (hdS:DepS (λ i=>anc.getD i []) 0 sp) (hdL:DepL (λ i=>anc.getD i []) (lesF Λ sts news))
  (hn:news.all (λ e=>e.cr.isSome)=true) (hanc:Rg.ancOk (fam ops N Γ (lesF Λ sts news) sp (λ i=>anc.getD i []) (λ _=>undef))=true) (hk:∀ ν,Rg.chk (fam ops N Γ (lesF Λ sts news) sp (λ i=>anc.getD i []) ν)=true) (hsrc:∀ ν,src.all (okS (fam ops N Γ (lesF Λ sts news) sp (λ i=>anc.getD i []) ν))=true)
  (hQ:∀ ν a w,St B w0 N (src.filterMap (cC (fam ops N Γ (lesF Λ sts news) sp (λ i=>anc.getD i []) ν))) (((lesF Λ sts news).map (LeF.on ν)).map λ e=>⟨e.s,e.T,e.H,Rg.last e⟩) a w→Q .normal a w):(Code.region id ops true).wp P Q a w :=
 Rg.drawV hm hanc hk (λ i f hf=>by have:=hdS.at i f hf;rwa [qV] at this) hdL.mem (λ _=>undef) h (Cx hn) (λ i hi=>hob.all i zo zo) λ ν a' w' hf=>hQ ν a' w' (fp (hk ν) hf src (hsrc ν))
variable {ops:Array Oper}{les:List LeF}{sp:List ((Nat→Value)→Sp)}{anc:Nat→List Nat}{i:Nat}
theorem of_u (h:∀ ν,(fam ops N Γ les sp anc ν).Ob P Q B w0 i):ObF P Q ops N Γ les sp anc B w0 i:=.inl h
def E7 (R:Rg)(B:Nat)(w0:Bs)(i:Nat)(us:List Value):Prop:=∀ a w,R.Av B w0 i a w→∀ u∈us,∀ g∈vbl u,g<w.heap.size
theorem dY {R:Rg}:E7 R B w0 i []:=λ _ _ _ _ h=>by cases h
theorem eN {R:Rg}{u:Yo}{us:Ym}(hA:NewA A)(hx:Has R B w0 i x (PinA u A).va)(h:E7 R B w0 i us):E7 R B w0 i (u::us):=λ a w av v hv=>by
 rcases qr.1 hv with rfl|hv
 ·obtain ⟨cs,⟨h1,h2⟩,_⟩:=hx a w av;intro g hg;rw [← h2,mn h1] at hg;exact (hA _ _ _ h1 g hg).2
 ·exact h a w av v hv
theorem gS {c:Prop}(h:NewA A):NewA (A.and c):=λ B cs w hp=>h B cs w hp.2
theorem JT {c:Prop}(h:NodA A):NodA (A.and c):=λ B cs w hp=>h B cs w hp.2
theorem lm {d f:Nat}{us:(Yz)→Ym}{pre pre':Yc}{at_:Yr}
  (hs:sp[i]?=some (λ ν=>.v d (PinA (ν i) (A.and (cu (us ν) (ν i)))).va)) (ho:ops[i]?=some ⟨some d,.call ⟨.value (.func f),xs.toArray,at_⟩,T,ps,af,none⟩)
  (hc:Cn P f pre' A.va) (hnew:NewA A) (hfree:FreeA A A) (hup:All2 Up pre pre') (hx:∀ ν,HasL (fam ops N Γ les sp anc ν) B w0 i xs pre) (hus:∀ ν v,us (nK ν i v)=us ν) (hl:∀ ν,E7 (fam ops N Γ les sp anc ν) B w0 i (us ν)):ObF P Q ops N Γ les sp anc B w0 i:=by
 refine .inr ⟨d,_,hs,λ ν a w av K hK=>?_⟩;obtain ⟨⟨fn,hf,hn,hb⟩,hcall⟩:=hc;have hrun:(execOp a.eval ⟨some d,.call ⟨.value (.func f),xs.toArray,at_⟩,T,ps,af,none⟩).run P w=.ok (.enter f (xs.map a.eval).toArray) w:=by
  simp only [execOp,resolve,Act.eval,Deferred.ofValue,Sem.run_bind,Sem.run_pure,Result.andThen_ok,invoke,bi hf hn hb];simp
 have hbw:=Av.bw av;have hargs:All2 (λ (A:VA) v=>A.p w.heap.size v w) pre' (xs.map a.eval):=by
  have h1:=(hx ν).all av;clear hcall hrun hx hs ho;generalize xs.map a.eval=vs at h1
  induction hup generalizing vs with
  | nil=>cases h1;exact .nil
  | cons hu _ ih =>
   cases h1 with
   | cons h2 h3=>exact .cons (hu _ _ _ hbw h2) (ih _ h3)
 refine bA (R:=fam ops N Γ les sp anc ν) ho G ?_;unfold Oper.wp;rw [hrun];refine (hcall w.heap.size w _ (qi _) hargs).mono λ e w' ⟨v,he,⟨cs,hv,hsh⟩,hg⟩=>?_;subst he;refine hK v w' hg ⟨cs,⟨⟨?_,hfree.2.2 _ _ _ _ hbw hv⟩,?_⟩,hsh⟩
 ·rw [hus,oZ];intro u hu g hgu hgv;have h1:=hl ν a w av u hu g hgu;rw [hsh,mn hv] at hgv;have h2:=(hnew _ _ _ hv g hgv).1;omega
 ·rw [oZ];exact hsh.symm
end
theorem Np (l:Ya):NewA (MgN l):=λ B cs w ⟨_,h⟩=>by
 rcases h with ⟨_,rfl⟩|⟨g,ext,rfl,_,h2,h3⟩
 ·intro g hg;cases hg
 ·intro g' hg;have:g'=g:=by simpa [cbl,blk] using hg
  subst this;exact ⟨h2,(Array.getElem?_eq_some_iff.1 h3).1⟩
theorem Nq (b:Bool):NewA (BoA b):=λ B cs w h=>by
 have h':cs=[.bool b]:=h;subst h';intro g hg;cases hg
theorem JY (k:Yp)(n:Int):NewA (NumA k n):=λ B cs w h=>by
 have h':cs=[.int k n]:=h;subst h';intro g hg;cases hg
theorem C9 (x:RI):NewA (RIN x):=pc (λ A hA=>by
 simp at hA;rcases hA with rfl|rfl
 ·exact Nq _
 ·exact Np _)
theorem JS (x:RI):NodA (RIN x):=λ B cs w ⟨ps,e,h⟩=>by
 subst e;cases h with
 | @cons _ c1 _ _ h1 h=>cases h with
  | @cons _ c2 _ _ h2 h =>
   cases h;have e1:c1=[.bool x.neg]:=h1;have l2:=(MgN x.mag).len _ _ _ h2;subst e1
   match c2,l2 with
   | [v],_ =>
    show (List.filterMap blk [.bool x.neg,v]).Nodup;have:List.filterMap blk [.bool x.neg,v]=List.filterMap blk [v]:=rfl;rw [this];cases hb:blk v with
    | none=>simp [hb]
    | some g=>simp [hb]
def ZN (k:Nat)(z:Int):As:=(RIN (riOf z)).and (lz z≤k)
theorem uG {z:Int}:NewA (ZN k z):=gS (C9 _)
theorem Hj {z:Int}:NodA (ZN k z):=JT (JS _)
theorem FO {c:Prop}(h:FreeA A A):FreeA (A.and c) (A.and c):=⟨rfl,rfl,λ B B' cs w hB hp=>⟨hp.1,h.2.2 B B' cs w hB hp.2⟩⟩
theorem py {z:Int}:FreeA (ZN k z) (ZN k z):=FO (dA _)
theorem Am {x:RI}:WkA (RIN x) (RIA x):=⟨rfl,rfl,λ B cs w h=>(m9 x).2.2 B B cs w (qi _) h⟩
theorem Ag {k k':Nat}{z:Int}(h:k≤k'):WkA (ZN k z) (ZN k' z):=⟨rfl,rfl,λ _ _ _ hp=>⟨qf hp.1 h,hp.2⟩⟩
theorem LP {z:Int}(h:lz z≤k):Wk (RIN (riOf z)).va (ZN k z).va:=λ _ _ _ ⟨cs,hp,hv⟩=>⟨cs,⟨h,hp⟩,hv⟩
theorem Fc {a b:Int}(h:((riOf a).neg==(riOf b).neg)=true):(RIN (rsig (riOf a).neg (digs (max (riOf a).mag.length (riOf b).mag.length+1) (val (riOf a).mag+val (riOf b).mag)))).va=(RIN (riOf (a+b))).va:=by
 have h':decide (a<0)=decide (b<0):=by simpa [riOf] using h
 rw [bF,bF,cj (bY _ _) (z:=a+b) (by show val (digs (max (aA a.natAbs).length (aA b.natAbs).length+1) _)=_;rw [Ap];simp only [qU] at h';omega) (λ hz=>by show decide (a<0)=_;simp only [qU] at h' ⊢;omega)]
theorem Fb {a b:Int}(h:((riOf a).neg==(riOf b).neg)=false)(h2:b.natAbs≤a.natAbs):(RIN (rsig (riOf a).neg (aA (val (riOf a).mag-val (riOf b).mag)))).va=(RIN (riOf (a+b))).va:=by
 have h':¬ decide (a<0)=decide (b<0):=by simpa [riOf] using h
 rw [bF,bF,cj (bm _).1 (z:=a+b) (by rw [aI];simp only [qU] at h';omega) (λ hz=>by show decide (a<0)=_;simp only [qU] at h' ⊢;omega)]
theorem Fa {a b:Int}(h:((riOf a).neg==(riOf b).neg)=false)(h2:a.natAbs≤b.natAbs):(RIN (rsig (riOf b).neg (aA (val (riOf b).mag-val (riOf a).mag)))).va=(RIN (riOf (a+b))).va:=by
 have h':¬ decide (a<0)=decide (b<0):=by simpa [riOf] using h
 rw [bF,bF,cj (bm _).1 (z:=a+b) (by rw [aI];simp only [qU] at h';omega) (λ hz=>by show decide (b<0)=_;simp only [qU] at h' ⊢;omega)]
theorem Jy (p q:Int)(hp:lz p≤1099511627776)(hq:lz q≤1099511627776):Cn Tryz.prog 108 [Zi p,Zi q] ((RIN (riOf (p+q))).va):=by
 refine Cn.intro Tryz.func108 G zk nq (zy [(0,Zi p),(1,Zi q)] λ B w0 a U=>?_);refine qb<|zg [] Ul Um [] U (zW 0 G (zW 1 G (zY G (Str.zero bu) o0))) (zz [] Un ?_);refine ztA<|zsA<|zgA Uo [] (.adr 5 2 (.some 0) True::.v 6 _::.adr 7 3 (.some 0) True::(W6 8)) UP (zO 0 G aY (zL 0 0 0 G ty_4 (zO 1 G aY (zL 2 1 0 G ty_4 (zv G (BB zk (vq 1 G) (vq 3 G)) o0))))) (zz [(9,_)] Un λ a w U=>?_);refine zJ 0 U G (λ hb0=>?_) (λ hb0=>?_)
 ·refine qb<|zgd UQ UR [] (.adr 10 2 (.some 0) True::.v 11 _::.adr 12 2 (.some 1) True::.v 13 _::.adr 14 3 (.some 1) True::(Wb 15 [.sto 2])) [] ac U (zO 0 G aY (zL 0 0 0 G ty_4 (zO 0 G ar (zL 2 0 1 G bb (zO 1 G ar (zL 4 1 1 G bb (zQ G (Pb _ _ hp hq) (.p (vq 3 G) (vq 5 G)) (zQ G (db _ _) (.p (vq 1 G) (vq 6 G)) (zS 7 G ap o0))))))))) zk zk zk zk (zz [] Un λ a w U=>?_);refine aa<|qh<|aj ?_;refine aJ ?_ (au G U (zm 2 G) ap);exact Fc hb0
 ·refine qj<|zt<|qb<|zg US [] (.adr 18 2 (.some 1) True::.v 19 _::.adr 20 3 (.some 1) True::(Wb 21)) [.o 5] U (zO 0 G ar (zL 0 0 1 G bb (zO 1 G ar (zL 2 1 1 G bb (zQ G (uf _ _) (.p (vq 1 G) (vq 3 G)) (zv G (dP (vq 4 G) ab) o0)))))) (zz [(23,_)] Un λ a w U=>?_);refine zJ 0 U G (λ hb1=>?_) (λ hb1=>?_)
  ·refine qb<|zgd UQ UR [] (.adr 24 2 (.some 0) True::.v 25 _::.adr 26 2 (.some 1) True::.v 27 _::.adr 28 3 (.some 1) True::(Wb 29 [.sto 2])) [] ac U (zO 0 G aY (zL 0 0 0 G ty_4 (zO 0 G ar (zL 2 0 1 G bb (zO 1 G ar (zL 4 1 1 G bb (zQ G (Eo _ _ hp (cE (lk hb1)) (by show val (aA _)≤val (aA _);rw [aI,aI];exact lk hb1)) (.p (vq 3 G) (vq 5 G)) (zQ G (db _ _) (.p (vq 1 G) (vq 6 G)) (zS 7 G ap o0))))))))) zk zk zk zk (zz [] Un λ a w U=>?_);refine aa<|qh<|aj ?_;refine aJ ?_ (au G U (zm 2 G) ap);exact Fb hb0 (lk hb1)
  ·refine qj<|zt<|zgd UQ UR [] (.adr 32 3 (.some 0) True::.v 33 _::.adr 34 3 (.some 1) True::.v 35 _::.adr 36 2 (.some 1) True::(Wb 37 [.sto 2])) [] ac U (zO 1 G aY (zL 0 1 0 G ty_4 (zO 1 G ar (zL 2 1 1 G bb (zO 0 G ar (zL 4 0 1 G bb (zQ G (Eo _ _ hq (cE (lj hb1)) (by show val (aA _)≤val (aA _);rw [aI,aI];exact lj hb1)) (.p (vq 3 G) (vq 5 G)) (zQ G (db _ _) (.p (vq 1 G) (vq 6 G)) (zS 7 G ap o0))))))))) zk zk zk zk (zz [] Un λ a w U=>?_);refine aa<|qh<|aJ ?_ (au G U (zm 2 G) ap);exact Fa hb0 (lj hb1)
theorem Nm {n:Int}(h0 : -9223372036854775808≤n)(h1:n<9223372036854775808):(RIN (rsig (decide (n<0)) [n.natAbs%4294967296,n.natAbs/4294967296])).va=(RIN (riOf n)).va:=by
 rw [cj (C4 h0 h1) (z:=n) (by simp [val];omega) (λ _=>rfl)]
theorem Qd (n:Int)(h0 : -9223372036854775808≤n)(h1:n<9223372036854775808):Cn Tryz.prog 107 [In n] ((RIN (riOf n)).va):=by
 refine Cn.intro Tryz.func107 G zk nq (zy [(0,In n)] λ B w0 a U=>?_);refine qb<|zg [] UK Uf UL U (zY G (Str.zero (cI famN)) o0) (zz UM UN ?_);refine ztA<|zgA U4 [] (W6 4 [.v 3 _]) Ui (zM 0 G (zv G (aH .u64 zk zk (vq 0 G) (G)) (zA 1 G o0))) (zz UO UN ?_);refine ztA<|zsA<|zgA U4 [] (W6 6) UI (zM 0 G (zv G (aN (vq 0 G) ab) o0)) (zz (Wa 0 3 7) UN λ a w U=>?_);refine aa<|bP (λ a w =>  St B w0 19 [(0,In n),(3,(NumA .u64 (n.natAbs:Nat)).va)] [⟨2,26,ptrH,cat [BoA false,MgN []]⟩] a w) U (zm 2 G) (λ hb0=>?_) (λ hb0=>?_) (λ a w U=>?_)
 ·refine zg U6 [] (W6 8 [.v 3 _]) Ui U (zM 1 G (zv G (EX (vq 0 G) (G)) (zA 1 G o0))) (zz UO UN λ a w U=>?_);refine aa ?_;have U:=U.sel [0,1];rw [JP h0 hb0] at U;exact U
 ·refine qj<|aa ?_;have U:=U.sel [0,1];rw [JO h1 hb0] at U;exact U
 refine zt<|zg [some (9,_)] [] (Wo 10 [.sto 0]) [] U (zM 0 G (zv G (aN (vq 0 G) ab) (zM 1 G (zv G (aH .u32 zk zk (vq 2 G) (wu32')) (zM 1 G (zv G (l8 (vq 4 G) (aF 32 G) zd (nshr)) (zv G (aH .u32 zk zk (vq 5 G) (wu32 (by show n.natAbs/4294967296<_;omega))) (zv G (rA (l:=[_,_]) (xs:=[.tmp 13,.tmp 16]) bc zk nq nq (C4 h0 h1) (.p (vq 3 G) (vq 6 G)) G G) (zQ G (db _ _) (.p (vq 1 G) (vq 7 G)) (zS 8 G ap o0)))))))))) (zz [] UN λ a w U=>?_);refine aa<|qh<|aJ ?_ (au G U (zm 0 G) ap);exact Nm h0 h1
section
variable {a b:Nat}{p q:Int}(ha:a≤549755813888)
include ha
variable (hb:b≤549755813888)
include hb
theorem BO:Cn Tryz.prog 108 [Zs a p,Zs b q] (ZN (max a b+1) (p+q)).va:=zs2 Di λ h h'=>(Jy p q zo zo).wkp (LP (by have:=rL p q;omega))
end
theorem Qb {n:Int}(h0 : -9223372036854775808≤n)(h1:n<9223372036854775808):Cn Tryz.prog 107 [In n] (ZN 2 n).va:=(Qd n h0 h1).wkp (LP (t8 zo))
def QD (k:Nat)(q:Rat):As:=DisA (cat [ZN k q.num,ZN k (q.den:Int)])
theorem eM {q:Rat}:NewA (QD k q):=DA (pc λ A hA=>by
 simp at hA;rcases hA with rfl|rfl <;> exact uG)
theorem rI {q:Rat}:NodA (QD k q):=tB
theorem lu {q:Rat}:FreeA (QD k q) (QD k q):=mh (bN (.cons py (.cons py .nil)))
theorem gw (h:WkA A A'):WkA (DisA A) (DisA A'):=⟨h.1,h.2.1,λ B cs w hp=>⟨h.2.2 B cs w hp.1,hp.2⟩⟩
theorem Jt {u v:Yo}{q:Rat}(hc:c≤k)(hd:d≤k):WkA (cat [PinA u ((ZN c q.num).and (cu [] u)),PinA v ((ZN d (q.den:Int)).and (cu [u] v))]) (QD k q) :=
 (mf (l:=[(u,ZN c q.num),(v,ZN d (q.den:Int))]) (λ x hx=>by
  simp at hx;rcases hx with rfl|rfl <;> exact Hj)).trans (gw (br (.cons (Ag hc) (.cons (Ag hd) .nil))))
theorem PV {q:Rat}(h1:lz q.num≤c)(h2:lz (q.den:Int)≤c):WkA (QD k q) (QD c q):=gw (br (.cons ⟨rfl,rfl,λ _ _ _ hp=>⟨h1,hp.2⟩⟩ (.cons ⟨rfl,rfl,λ _ _ _ hp=>⟨h2,hp.2⟩⟩ .nil)))
theorem PW {u v:Yo}{x:Rat}(hc:c≤k)(hd:d≤k):WkA (cat [PinA u ((ZN c (x.num+0)).and (cu [] u)),PinA v ((ZN d ((x.den:Int)+0)).and (cu [u] v))]) (QD k x):=by
 rw [jM,jM];exact Jt hc hd
theorem Lp {x:Rat}(hc:c≤137438953472):Cn Tryz.prog 27 [Qs c x] ((QD (max c 2+1) x).va):=by
 refine Cn.intro Tryz.func27 G zk nq (zy [(0,Qs c x)] λ B w0 a U=>?_);refine qb<|zg [] RC UU [] U (zW 0 G (zY G (Str.zero aS) o0)) (zz [] RD ?_);refine ztA<|zgA UF [⟨3,26,ptrH,some 1,_,some (2,_)⟩] [.v 4 _,.alc 2,.sto 2] [] (zQ G (of_z zd zd) (.cons ab .nil) (zY G (Str.zero bu) (zS 0 G ap o0))) (zz [] RH λ a w U=>?_);refine zt<|go_drawV' [[],[0],[],[0,1,2],[],[4],[],[0,1,2,3,4,5,6],[0,1,2,3,4,5,6,7],[0,1,2,3,4,5,6,7,8]] (sts:=[none,some (9,λ ν=>_),none]) (news:=[]) (sp:=[(λ ν=>.adr 5 1 (.some 0) True),(λ ν=>.v 6 _),(λ ν=>.v 7 _),(λ ν=>.v 8 (PinA (ν 3) ((ZN (max c 2+1) (x.num+0)).and (cu [] (ν 3)))).va),(λ ν=>.adr 9 1 (.some 2) True),(λ ν=>.v 10 _),(λ ν=>.v 11 _),(λ ν=>.v 12 (PinA (ν 7) ((ZN (max c 2+1) ((x.den:Int)+0)).and (cu [ν 3] (ν 7)))).va),(λ ν=>.v 13 _),(λ ν=>.sto 1)]) [] ac U ⟨of_u λ ν=>ob_a rfl rfl (fY (lz0 0 rfl) aZ),⟨of_u λ ν=>ob_v rfl rfl (aB 0 rfl zk trivial (lz0 0 rfl) (Sub.part 0 rfl rfl) ap),⟨of_u λ ν=>ob_v rfl rfl (eL (lz0 2 rfl) ap),⟨lm (us:=λ ν=>[]) (xs:=[.tmp 6,.tmp 7]) rfl rfl (BO zo zo) uG py (.cons upA_za.va (.cons upA_za.va .nil)) (λ ν=>(.p (vq 1 rfl) (vq 2 rfl))) (λ _ _=>rfl) (λ ν=>dY),⟨of_u λ ν=>ob_a rfl rfl (fY (lz0 0 rfl) aU),⟨of_u λ ν=>ob_v rfl rfl (aB 4 rfl zk trivial (lz0 0 rfl) (Sub.part 1 rfl rfl) ap),⟨of_u λ ν=>ob_v rfl rfl (eL (lz0 2 rfl) ap),⟨lm (us:=λ ν=>[ν 3]) (xs:=[.tmp 10,.tmp 11]) rfl rfl (BO zo zo) uG py (.cons upA_za.va (.cons upA_za.va .nil)) (λ ν=>(.p (vq 5 rfl) (vq 6 rfl))) (λ _ _=>rfl) (λ ν=>(eN (gS uG) (vq 3 rfl) dY)),⟨of_u λ ν=>ob_v rfl rfl (aT (qs:=[(0,_),(1,_)]) aS (.cons ⟨rfl,vq 3 rfl,rfl⟩ (.cons ⟨rfl,vq 7 rfl,rfl⟩ .nil))),⟨of_u λ ν=>lI rfl rfl rfl (vq 8 rfl) ax (xE (b:=4) rfl rfl),trivial⟩⟩⟩⟩⟩⟩⟩⟩⟩⟩ ⟨(λ ν ν' h=>rfl),⟨(λ ν ν' h=>rfl),⟨(λ ν ν' h=>rfl),⟨(λ ν ν' h=>by first|rfl|simp only [h 3 rfl]),⟨(λ ν ν' h=>rfl),⟨(λ ν ν' h=>rfl),⟨(λ ν ν' h=>rfl),⟨(λ ν ν' h=>by first|rfl|simp only [h 3 rfl,h 7 rfl]),⟨(λ ν ν' h=>by first|rfl|simp only [h 3 rfl,h 7 rfl]),⟨(λ ν ν' h=>by first|rfl|simp only [h 3 rfl,h 7 rfl]),trivial⟩⟩⟩⟩⟩⟩⟩⟩⟩⟩ ⟨trivial,⟨(λ ν ν' h=>by first|rfl|simp only [h 3 rfl,h 7 rfl]),⟨trivial,trivial⟩⟩⟩ zk zk (λ ν=>by kernel_rfl) (λ ν=>by kernel_rfl) (λ ν2 a w U=>?_)
 have U:=zn [] RH U;refine aa<|qh<|al ?_ (au G U (zm 1 G) ax);exact (PW zo zo).va
theorem nf {x:Rat}(hc:c≤137438953472):Cn Tryz.prog 27 [Qs c x] (QD c x).va :=
 Cn.know (c:=lz x.num≤c∧lz (x.den:Int)≤c) wB (λ B w args ha=>by cases ha with|cons h1 _=>exact Js h1) λ h=>(Lp hc).wkp (PV h.1 h.2).va
section
variable {P:Program}{R:Rg}{Q:Exit→Act→World→Prop}{B i:Nat}{w0:Bs}
theorem uw :offP (ptrH.f g) (.some 0)=ptrH.f g:=by simp [ptrH,ptr,offP,add0]
theorem gL {b T':Nat}(hl:Loc R i b T' A):Ad P Q R B w0 i (.move (.tmp b)) b (.some 0):=by
 intro d ty ps af gd a w av K hK;obtain ⟨g,cs,h1,_⟩:=hl.ok av;rw [h1,uw] at hK;exact bf (w':=w) (v:=a.eval (.tmp b)) G (by rw [h1];exact hK)
theorem gK {b t T':Nat}(j:Nat)(hj:R.sp[j]?=some (.adr t b (.some 0) True))(hji:(R.anc i).contains j=true)(hl:Loc R i b T' A):Ad P Q R B w0 i (.nilCheck (.tmp t)) b (.some 0):=by
 intro d ty ps af gd a w av K hK;obtain ⟨g,cs,h1,_⟩:=hl.ok av;have h2:=av.d j t b (.some 0) True hji hj trivial;rw [h1,uw] at h2 hK;have h2':a.eval (.tmp t)=.pointer (some ⟨g,0,none⟩):=h2;exact bf (w':=w) (v:=.pointer (some ⟨g,0,none⟩)) (by simp [execOp,h2']) hK
theorem dg {RQ':Ending→Yi→Prop}(h:ce P fn RQ' .ret a w):ce P fn RQ' .normal a w:=h
theorem uF :Wk (EqV (.slice none 0 0)) (SlA E D []).va:=λ _ v _ h=>by
 have e:v=.slice none 0 0:=h;subst e;exact ⟨[.slice none 0 0],⟨(λ A hA=>by cases hA),none,0,[],rfl,qi _,zx _,⟨[],rfl,.nil⟩,λ h=>by cases h⟩,rfl⟩
def Arr (P:Program)(T:TypeId)(Z:List As):Prop :=
 ∃ it z n E ie,P.info? T=some it∧it.zero=some z∧P.underlying T=some (.array n E)∧P.info? E=some ie∧(∀ f,f<Z.length→some (f*ie.size,ie.size)=(dW Z)[f]?)∧∀ B w,(cat Z).p B z.cells.toList w
theorem Arr.zero {Z:Yb}(h:Arr P T Z):Zero P T (cat Z):=by
 obtain ⟨it,z,_,_,_,h1,h2,_,_,_,h3⟩:=h;exact ⟨it,z,h1,h2,h3⟩
end
def goQ (m:MQ)(r:YQ):YQ:=⟨m.a*r.y+m.b*r.u,m.c*r.y+m.d*r.u⟩
section
variable {P:Program}{R:Rg}{Q:Exit→Act→World→Prop}{B:Nat}{w0:Bs}{a:Act}{w:World}
open Rg in
theorem Rg.draw2 (hsz2:R.ops.size=n+2)(hm:P.follows .mixedOrders=true)(hanc:ancOk R=true)(hk:R.chk=true)(h:St B w0 R.N R.Γ Λ a w)(hles:∀ e∈R.les,e.cr=none→(⟨e.s,e.T,e.H,e.A0⟩:Lc)∈Λ)
  (hob:∀ i,i<n→R.Ob P Q B w0 i) (ha1:∀ j,j<n→(R.anc n).contains j=true) (ha2:(R.anc (n+1)).contains n=true)
  (hQ:∀ a w,R.Inv B w0 (λ k=>decide (k<n)) a w→∀ K:Act→World→Prop,(∀ a' w',(∀ K':Act→World→Prop,(∀ a'' w'',Q .normal a'' w''→K' a'' w'')→wpOp P R.ops Q (n+1) K' a' w')→K a' w')→wpOp P R.ops Q n K a w) :
  (Code.region id R.ops true).wp P Q a w:=by
 refine wp_region_any hm ?_;have ho:∀ i,i<R.ops.size→∃ o,R.ops[i]?=some o∧(∀ j,(R.anc i).contains j=true→∃ e∈o.after,Region.binds .any e=true∧(e.on=j∨(R.anc e.on).contains j=true)) ∧
   ∀ e∈o.after,Region.binds .any e=true→e.on<i:=by
  intro i hi;have:=qe.1 hanc i (by simpa using hi);cases hoi:R.ops[i]? with
  | none=>rw [hoi] at this;cases this
  | some o =>
   rw [hoi] at this;simp only [ql] at this;refine ⟨o,rfl,λ j hj=>?_,λ e he hb=>?_⟩
   ·have hh:=qe.1 this.1 j (by simpa using hj);obtain ⟨e,he,h1⟩:=jU.1 hh;simp only [ql,z4,xv] at h1;exact ⟨e,he,h1.1,h1.2⟩
   ·have hh:=z6.1 this.2 e he;simpa [hb] using hh
 have hrd:∀ (listed:Array Bool) i,i∈Region.ready .any R.ops listed→i<R.ops.size∧listed.getD i true=false∧∀ o,R.ops[i]?=some o→∀ e∈o.after,Region.binds .any e=true→listed.getD e.on false=true:=by
  intro listed i hi;unfold Region.ready at hi;obtain ⟨h1,h2⟩:=z5.1 hi;simp only [ql,qy] at h2;refine ⟨by simpa using h1,h2.1,λ o hoi e he hb=>?_⟩;have h3:=h2.2;rw [hoi] at h3;simp only [qT,xx] at h3;have:=z6.1 h3 e he;simpa [hb] using this
 have hfull:∀ (listed:Array Bool),listed.size=R.ops.size→Region.ready .any R.ops listed=[]→∀ k,k<R.ops.size→listed.getD k false=true:=by
  intro listed hsz hr k
  induction k using Nat.strongRecOn with
  | _ k ih =>
   intro hkn;cases hl:listed.getD k false with
   | true=>rfl
   | false =>
    exfalso;obtain ⟨o,ho1,_,ho3⟩:=ho k hkn;have:k∈Region.ready .any R.ops listed:=by
     unfold Region.ready;refine z5.2 ⟨by simpa using hkn,?_⟩;have h0:listed.getD k true=false:=by
      simp only [Array.getD,hsz,hkn,dite_true] at hl ⊢;exact hl
     rw [h0,ho1];simp only [jT,kr,qT,xx];refine z6.2 λ e he=>?_;cases hb:Region.binds .any e with
     | false=>rfl
     | true=>simpa using ih e.on (ho3 e he hb) (zD (ho3 e he hb) hkn)
    rw [hr] at this;cases this
 have hset:∀ (listed:Array Bool) (i k:Nat),listed.size=R.ops.size→i<R.ops.size→(listed.setIfInBounds i true).getD k false=upd (λ i=>listed.getD i false) i k:=by
  intro listed i k hsz hi;unfold upd;by_cases hki:k=i
  ·subst hki;simp [hsz,hi]
  ·simp [hki,Array.getElem?_setIfInBounds_ne (λ e=>hki e.symm)]
 have hpos:∀ (listed:Array Bool) (i:Nat),i<R.ops.size→listed.getD i false=false→0<(List.range R.ops.size).countP (λ k => !listed.getD k false):=λ listed i hi hl =>
  jI.2 ⟨i,by simpa using hi,by simp only [hl];rfl⟩
 have hlt:∀ (listed:Array Bool) (i:Nat),listed.size=R.ops.size→i<R.ops.size→listed.getD i false=false→(List.range R.ops.size).countP (λ k => !(listed.setIfInBounds i true).getD k false)<(List.range R.ops.size).countP (λ k => !listed.getD k false):=by
  intro listed i hsz hi hLi;refine eR (x:=i) (λ x hx=>?_) (by simpa using hi) (by rw [hLi];rfl) (by rw [hset listed i i hsz hi,ci];rfl);have hx':upd (λ i=>listed.getD i false) i x=false:=by
   rw [← hset listed i x hsz hi];simpa only [qy] using hx
  rw [(dK hx').2]
  rfl
 have key:∀ fuel (listed:Array Bool) a w,listed.size=R.ops.size→(List.range R.ops.size).countP (λ i => !listed.getD i false)≤fuel→cG R (λ i=>listed.getD i false) →
   listed.getD n false=false→listed.getD (n+1) false=false→R.Inv B w0 (λ i=>listed.getD i false) a w→wpAny P .any R.ops Q fuel listed a w:=by
  intro fuel
  induction fuel with
  | zero =>
   intro listed a w hsz hcnt hcl hn0 hn1 hi;have:=hpos listed n zo hn0;omega
  | succ fuel ih =>
   intro listed a w hsz hcnt hcl hn0 hn1 hi;refine ⟨λ hr=>absurd (hfull listed hsz hr n zo) (by rw [hn0];decide),λ i hir=>?_⟩;obtain ⟨h1,h2,h3⟩:=hrd listed i hir;obtain ⟨o,ho1,ho2,_⟩:=ho i h1;have hLi:listed.getD i false=false:=by
    simp only [Array.getD,hsz,h1,dite_true] at h2 ⊢;exact h2
   have hanci:∀ j,(R.anc i).contains j=true→listed.getD j false=true:=by
    intro j hj;obtain ⟨e,he,hb,hj'⟩:=ho2 j hj;have hl:=h3 o ho1 e he hb;rcases hj' with rfl|hj'
    ·exact hl
    ·exact hcl e.on hl j hj'
   have hup:=λ k=>hset listed i k hsz h1;by_cases hin:i<n
   ·refine step hk (hob i hin) hi hcl hLi hanci _ λ a' w' hi'=>ih _ _ _ (by simpa using hsz) (by have:=hlt listed i hsz h1 hLi;omega) ?_ ?_ ?_ (hi'.congr hup)
    ·intro k hk' j hj;have hk2:upd (λ i=>listed.getD i false) i k=true:=by rw [← hup];exact hk'
     show (listed.setIfInBounds i true).getD j false=true;rw [hup];rcases rG hk2 with rfl|h4
     ·exact cX _ (hanci j hj)
     ·exact cX _ (hcl k h4 j hj)
    ·rw [hup,d9 _ zo];exact hn0
    ·rw [hup,d9 _ zo];exact hn1
   ·rcases (show i=n∨i=n+1 by omega) with rfl|rfl
    ·have hinv:R.Inv B w0 (λ k=>decide (k<i)) a w:=by
      refine hi.congr λ k=>?_;by_cases hki:k<i
      ·rw [qG hki];exact (hanci k (ha1 k hki)).symm
      ·rw [zT hki];by_cases hk2:k<R.ops.size
       ·rcases (show k=i∨k=i+1 by omega) with rfl|rfl
        ·exact hn0.symm
        ·exact hn1.symm
       ·have:listed.getD k false=false:=by simp [Array.getD,hsz,hk2]
        exact this.symm
     refine hQ a w hinv _ λ a' w' H=>?_;have hsz':(listed.setIfInBounds i true).size=R.ops.size:=by simpa using hsz
     have hc':=hlt listed i hsz h1 hLi;have hn1':(listed.setIfInBounds i true).getD (i+1) false=false:=by rw [hup,d9 _ zo];exact hn1
     have hp':=hpos _ (i+1) zo hn1';cases fuel with
     | zero=>omega
     | succ f =>
      refine ⟨λ hr=>absurd (hfull _ hsz' hr (i+1) zo) (by rw [hn1'];decide),λ i' hir'=>?_⟩;obtain ⟨g1,g2,_⟩:=hrd _ i' hir';have hi':i'=i+1:=by
       by_cases hlo:i'≤i
       ·exfalso;have:(listed.setIfInBounds i true).getD i' false=true:=by
         rw [hup];by_cases he:i'=i
         ·subst he;exact ci _ _
         ·exact cX _ (hanci i' (ha1 i' zo))
        simp only [Array.getD,hsz',g1,dite_true] at this g2;rw [this] at g2;cases g2
       ·omega
      subst hi';refine H _ λ a'' w'' hq=>?_;have hnone:Region.ready .any R.ops ((listed.setIfInBounds i true).setIfInBounds (i+1) true)=[]:=by
       cases hrr:Region.ready .any R.ops ((listed.setIfInBounds i true).setIfInBounds (i+1) true) with
       | nil=>rfl
       | cons q rest =>
        exfalso;obtain ⟨q1,q2,_⟩:=hrd _ q (by rw [hrr];simp);have hsz'':((listed.setIfInBounds i true).setIfInBounds (i+1) true).size=R.ops.size:=by simpa using hsz
        have:((listed.setIfInBounds i true).setIfInBounds (i+1) true).getD q false=true:=by
         rw [hset _ (i+1) q hsz' zo];by_cases he:q=i+1
         ·subst he;exact ci _ _
         ·refine cX _ ?_;show (listed.setIfInBounds i true).getD q false=true;rw [hup];by_cases he2:q=i
          ·subst he2;exact ci _ _
          ·exact cX _ (hanci q (ha1 q zo))
        simp only [Array.getD,hsz'',q1,dite_true] at this q2;rw [this] at q2;cases q2
      cases f with
      | zero=>exact ⟨hnone,hq⟩
      | succ f=>exact ⟨λ _=>hq,λ j hj=>by rw [hnone] at hj;cases hj⟩
    ·have:=hanci n ha2;rw [hn0] at this;cases this
 refine key _ _ a _ (by simp) ?_ ?_ ?_ ?_ ?_
 ·refine qf (jz) (by simp)
 ·intro i hi;exfalso;simp only [Array.getD,qO] at hi;split at hi <;> simp at hi
 ·simp only [Array.getD,qO];split <;> simp
 ·simp only [Array.getD,qO];split <;> simp
 ·have hs:=start h hles;have hd:R.Inv B w0 (λ _=>false) a w.drew:=⟨hs.lo,hs.defers.grow (Grow.drew w) rfl,hs.size,hs.base.drew,λ x hx h1 h2=>x.2.grow _ _ _ _ (Grow.drew w) (hs.g x hx h1 h2),(λ i y d A _ _ hf=>by cases hf),(λ i d b k c _ hf=>by cases hf),
   λ e he A hA=>(hs.c e he A hA).grow (Grow.drew w),hs.x⟩
  refine Inv.congr hd λ k=>?_;simp only [Array.getD,qO];split <;> simp
end
def cutW (w w':World):World:={ w' with heap:=w'.heap.extract 0 w.heap.size }
theorem HM (hs:w.heap.size≤w'.heap.size)(hk:k<w.heap.size):(cutW w w').heap[k]?=w'.heap[k]?:=by
 show (w'.heap.extract 0 w.heap.size)[k]?=_;rw [Array.getElem?_extract];simp;omega
theorem mj (hs:w.heap.size≤w'.heap.size):(cutW w w').heap.size=w.heap.size:=by
 show (w'.heap.extract 0 w.heap.size).size=_;simp;omega
theorem HL (h:w.grownBy w' (some g)):Wr g w (cutW w w') :=
 ⟨h.os,h.tape,h.output,mj h.size,λ k hk=>by
  by_cases hlt:k<w.heap.size
  ·rw [HM h.size hlt];exact h.block k hlt (λ e=>hk (by injection e))
  ·rw [Array.getElem?_eq_none (by rw [mj h.size];omega),Array.getElem?_eq_none zo]⟩
theorem wO {row:Yu}(h:w.grownBy w' row):Grow (cutW w w') w' :=
 ⟨rfl,rfl,rfl,by rw [mj h.size];exact h.size,λ k hk=>by
  rw [mj h.size] at hk;rw [HM h.size hk]⟩
theorem rH (h:w.grownBy w' none):Grow w w':=⟨h.os,h.tape,h.output,h.size,λ k hk=>h.block k hk (by simp)⟩
def gF (w:World)(b:Nat)(E:TypeId)(row:Option Nat):Prop:=∀ g,row=some g→b≤g∧∃ c fz,w.heap[g]?=some (.cells c E fz)
theorem DefOk.grown {a a':Act}{row:Yu}(h:DefOk w0 a w)(hg:w.grownBy w' row)(hr:gF w b E row)(e:a'.defers=a.defers):DefOk w0 a' w' :=
 h.keep e λ D hD=>(hg.block D (Array.getElem?_eq_some_iff.1 hD).1 (λ e=>by
  obtain ⟨_,c,fz,hc⟩:=hr D e.symm;rw [hc] at hD;cases hD)).trans hD
theorem VA.grown {A:VA}{row:Yu}(hp:A.p B v w)(hg:w.grownBy w' row)(hr:gF w b E row)(hb:B≤b)(hE:E ∉ A.deps):A.p B v w':=by
 cases row with
 | none=>exact A.grow _ _ _ _ (rH hg) hp
 | some g =>
  obtain ⟨h1,c,fz,h2⟩:=hr g rfl;exact A.grow _ _ _ _ (wO hg) (A.wr _ _ _ _ _ _ _ _ h2 hE (qf hb h1) (HL hg) hp)
theorem As.grown {row:Yu}(hp:A.p B cs w)(hg:w.grownBy w' row)(hr:gF w b E row)(hb:B≤b)(hE:E ∉ A.deps):A.p B cs w':=by
 cases row with
 | none=>exact A.grow _ _ _ _ (rH hg) hp
 | some g =>
  obtain ⟨h1,c,fz,h2⟩:=hr g rfl;exact A.grow _ _ _ _ (wO hg) (A.wr _ _ _ _ _ _ _ _ h2 hE (qf hb h1) (HL hg) hp)
def OwnR (b:Nat)(E:TypeId)(m:Nat)(D:List TypeId)(l:List As):VA where
 p B v w:=(∀ A∈l,A.n=m)∧(∀ A∈l,∀ T∈A.deps,T∈D)∧∃ ds,(cat l).p B ds w∧w.ownsRow b E m v l.length ds
 deps:=E::D
 cg:=by
  rintro B v w w' hg ⟨h1,h2,ds,h3,h4,h5⟩;refine ⟨h1,h2,ds,(cat l).cg _ _ _ _ hg h3,h4,?_⟩;rcases h5 with h5|⟨g,cap,cur,e1,e2,e3,e4⟩
  ·exact .inl h5
  ·exact .inr ⟨g,cap,cur,e1,e2,hg.heap e3,e4⟩
 wr:=by
  rintro B v w w' g c T fz hgc hT hB hW ⟨h1,h2,ds,h3,h4,h5⟩;simp only [qr,not_or] at hT;refine ⟨h1,h2,ds,(cat l).wr _ _ _ _ _ _ _ _ hgc (nj h2 hT.2) hB hW h3,h4,?_⟩;rcases h5 with h5|⟨g0,cap,cur,e1,e2,e3,e4⟩
  ·exact .inl h5
  ·refine .inr ⟨g0,cap,cur,e1,e2,?_,e4⟩;have hne:g0≠g:=by
    rintro rfl;rw [hgc] at e3;injection e3 with e3;injection e3 with _ e3 _;exact hT.1 e3
   rw [hW.block g0 hne];exact e3
theorem mJ :Wk (EqV (.slice none 0 0)) (OwnR b E m D []):=λ _ v w h=>by
 have e:v=.slice none 0 0:=h;subst e;exact ⟨(λ A hA=>by cases hA),(λ A hA=>by cases hA),[],⟨[],rfl,.nil⟩,World.ownsRow_nil w b E m⟩
theorem gI {l:Yb}:Wk (OwnR b E m D l) (SlA E D l).va:=λ B v w ⟨_,h2,ds,h3,h4,h5⟩=>by
 rcases h5 with ⟨rfl,h5⟩|⟨g,cap,cur,rfl,e2,e3,e4,e5,e6,e7⟩
 ·refine ⟨[.slice none 0 0],⟨h2,none,0,ds,by rw [h5],by omega,zx _,h3,λ h=>by omega⟩,rfl⟩
 ·refine ⟨[.slice (some ⟨g,0,none⟩) l.length cap],⟨h2,_,cap,ds,rfl,e4,e5,h3,λ _=>⟨g,0,rfl,(Array.getElem?_eq_some_iff.1 e3).1,.inr ⟨_,_,e3⟩,λ j u hu=>?_⟩⟩,rfl⟩;rw [cell_of_row w g (0+j) cur E _ e3,qV];rw [← e7,List.getElem?_take] at hu;split at hu
  ·simpa using hu
  ·cases hu
theorem fb (h:w.ownsRow b E m v n ds):gF w b E v.ownBlock:=by
 intro g hg;obtain ⟨_,⟨rfl,_⟩|⟨g',cap,cur,rfl,e2,e3,_⟩⟩:=h
 ·cases hg
 ·have:g'=g:=by injection hg
  subst this;exact ⟨e2,_,_,e3⟩
theorem GF {α β:Type}{R':α→β→Prop}{l1 l2:List α}{m1 m2:List β}(h:All2 R' l1 m1)(h':All2 R' l2 m2):All2 R' (l1++l2) (m1++m2):=by
 induction h with
 | nil=>exact h'
 | cons h1 _ ih=>exact .cons h1 ih
theorem tJ {l l':Yb}{ds ds':Ym}(h:(cat l).p B ds w)(h':(cat l').p B ds' w):(cat (l++l')).p B (ds++ds') w:=by
 obtain ⟨ps,rfl,h1⟩:=h;obtain ⟨ps',rfl,h2⟩:=h';exact ⟨ps++ps',by simp,GF h1 h2⟩
def VT:VA:=⟨λ _ _ _=>True,[],λ _ _ _ _ _ _=>trivial,λ _ _ _ _ _ _ _ _ _ _ _ _ _=>trivial⟩
theorem St.wkG (h:St B w0 N Γ Λ a w){A A':VA}(k:Nat)(hm:Γ[k]?=some (s,A))(hw:Wk A A'):St B w0 N (Γ.set k (s,A')) Λ a w :=
 ⟨h.lo,h.defers,h.size,h.base,λ x hx=>by
  rcases qA hx with hx|rfl
  ·exact h.vals x hx
  ·exact hw _ _ _ (h.vals _ (qa hm)),h.locs,h.dis⟩
def lesN (Λ:List Lc):List Le:=Λ.map λ l=>⟨l.s,l.T,l.H,none,l.A,none⟩
section
variable {P:Program}{Q:Exit→Act→World→Prop}{B N:Nat}{w0:Bs}{Γ:List (Nat × VA)}{Λ:List Lc}{a:Act}{w:World}
end
theorem lF (base:Nat)(t ty e:Yh)(i:TypeInfo)(size:Nat)(ht:P.underlying t=some (.slice e))(hi:P.info? e=some i)
  (v:Value) (n c:Nat) (xs:List Value) (hown:w.ownsRow base e size v n xs):(Builtin.append_ #[t,t] ty #[v,.slice none 0 c]).run P w=.ok v w:=by
 rcases hown.2 with ⟨rfl,rfl⟩|⟨g,cap,cur,rfl,_,_,hnc,_⟩
 ·simp [Builtin.append_,run_underlying ht,sizeOf,typeInfo,hi,Builtin.lenOf,Builtin.firstCells]
 ·simp [Builtin.append_,run_underlying ht,sizeOf,typeInfo,hi,Builtin.lenOf,Builtin.firstCells,hnc,storeCells]
theorem Lu {l:Yb}(hm:∀ A∈l,A.n=m):(cat l).n=l.length*m:=by
 induction l with
 | nil=>simp [cat]
 | cons A l ih =>
  have:=ih λ A' h=>hm A' (zr _ h);simp only [cat,qS,xe,zf] at this ⊢;rw [this,hm A (by simp),xW,jZ,xp]
theorem gc {S E T1:Yh}{m bytes b B:Nat}{D D':Yq}{l xs:Yb}{v u:Yo}{it:TypeInfo}{z:Yo}
  (hS:P.underlying S=some (.slice E)) (hi:P.info? E=some it) (hz:it.zero=some z) (hsz:it.size=m) (hby:it.bytes=bytes) (hzs:z.cells.size=m) (hm0:0<m) (hl:l.length+xs.length≤100000000000) (hb6:bytes≤1000)
  (hv:(OwnR b E m D l).p B v w) (hu:(SlA E D' xs).va.p B u w) (hD':∀ T∈D',T∈D) (hED:E ∉ D) (hxm:∀ x∈xs,x.n=m) (hbw:b≤w.heap.size) (hB:B≤b) :
  ∃ v' w',(Builtin.append_ #[S,S] T1 #[v,u]).run P w=.ok v' w'∧(OwnR b E m D (l++xs)).p B v' w'∧w.grownBy w' v.ownBlock∧gF w b E v.ownBlock:=by
 obtain ⟨h1,h2,ds,h3,h4⟩:=hv;obtain ⟨cs,⟨hD,Ad,c,ds1,rfl,_,_,h5,h6⟩,hu'⟩:=hu;have hu2:u=.slice Ad xs.length c:=hu';subst hu2;have hl1:ds1.length=xs.length*m:=by rw [(cat xs).len _ _ _ h5,Lu hxm]
 have hro:=fb h4;have hmx:l.length+xs.length≤maxLen:=by unfold maxLen;omega
 have hbt:(l.length+xs.length)*bytes≤140737488355328:=qf (xU hl hb6) zd;have fin:∀ v' w',w'.ownsRow b E m v' (l.length+xs.length) (ds++ds1)→w.grownBy w' v.ownBlock→(OwnR b E m D (l++xs)).p B v' w':=λ v' w' r1 r2=>by
  refine ⟨λ A hA=>?_,λ A hA=>?_,ds++ds1,tJ (As.grown h3 r2 hro hB (nj h2 hED)) (As.grown h5 r2 hro hB (nj (λ A hA T hT=>hD' T (hD A hA T hT)) hED)),by rw [qu];exact r1⟩
  ·rcases qo.1 hA with hA|hA
   ·exact h1 A hA
   ·exact hxm A hA
  ·rcases qo.1 hA with hA|hA
   ·exact h2 A hA
   ·exact λ T hT=>hD' T (hD A hA T hT)
 have some_case:∀ a:Addr,Ad=some a→(∀ (j:Nat) u,ds1[j]?=some u→w.cell? (a.add j)=some u)→∃ v' w',(Builtin.append_ #[S,S] T1 #[v,.slice Ad xs.length c]).run P w=.ok v' w'∧(OwnR b E m D (l++xs)).p B v' w'∧w.grownBy w' v.ownBlock∧gF w b E v.ownBlock:=λ a ha hc=>by
  subst ha;obtain ⟨v',w',hr,r1,r2,_⟩:=run_append_own (P:=P) w b S T1 E it z m bytes hS hi hz hsz hby hzs hm0 v l.length ds h4 a xs.length c ds1 hl1 hc ((cat xs).one _ _ _ h5) hmx hbt hbw;exact ⟨v',w',hr,fin v' w' r1 r2,r2,hro⟩
 by_cases hx:0<xs.length
 ·obtain ⟨g1,o1,rfl,_,_,h8⟩:=h6 hx;exact some_case _ rfl λ j u hj=>by rw [Af];exact h8 j u hj
 ·have h0:xs.length=0:=by omega
  have hds0:ds1=[]:=vk.1 (by rw [hl1,h0,jJ]);cases Ad with
  | some a=>exact some_case a rfl λ j u hj=>by rw [hds0] at hj;simp at hj
  | none =>
   rw [h0];refine ⟨v,w,lF b S T1 E it m hS hi v l.length c ds h4,fin v w ?_ ⟨rfl,rfl,rfl,qi _,λ _ _ _=>rfl⟩,⟨rfl,rfl,rfl,qi _,λ _ _ _=>rfl⟩,hro⟩;rw [h0,hds0,zX];exact h4
section
variable {P:Program}{R:Rg}{Q:Exit→Act→World→Prop}{B:Nat}{w0:Bs}{a:Act}{w:World}
open Rg in
theorem Rg.linK (hsz:R.ops.size=n+m)(hanc:R.anc=λ i=>List.range i)(hk:R.chk=true)(h:St B w0 R.N R.Γ Λ a w)(hles:∀ e∈R.les,e.cr=none→(⟨e.s,e.T,e.H,e.A0⟩:Lc)∈Λ)
  (hob:∀ i,i<n→R.Ob P Q B w0 i) (hQ:∀ a w,R.Inv B w0 (λ k=>decide (k<n)) a w→wpOps P R.ops Q (List.range' n m) a w):(Code.region id R.ops false).wp P Q a w:=by
 refine wp_region ?_;have key:∀ q k,k+q=n→∀ a w,R.Inv B w0 (λ j=>decide (j<k)) a w→wpOps P R.ops Q (List.range' k (q+m)) a w:=by
  intro q
  induction q with
  | zero =>
   intro k hkm a w hi;have:k=n:=by omega
   subst this;rw [qV];exact hQ a w hi
  | succ q ih =>
   intro k hkm a w hi;rw [show q+1+m=(q+m)+1 by omega,List.range'_succ,qx];refine step hk (hob k zo) hi ?_ (by simp) ?_ _ λ a' w' hi'=>ih (k+1) zo a' w' (hi'.congr λ j=>?_)
   ·intro i hi j hj;rw [hanc] at hj;simp at hi hj ⊢;omega
   ·intro j hj;rw [hanc] at hj;simpa using hj
   ·unfold upd;by_cases h1:j=k
    ·subst h1;simp
    ·have h2:(j==k)=false:=by simpa using h1
     rw [h2,xI,qU];omega
 rw [List.range_eq_range',hsz];exact key n 0 zo a w ((start h hles).congr λ j=>by simp)
end
open Rg in
theorem lr (n:Nat)(src:Ya)(i1 i2:Nat){S E T1 T2:Yh}{s u d e m bytes:Nat}{ps1 ps2:Yw}{af1 af2:Yx}{D D':Yq}{l xs:Yb}{A2:VA}{it:TypeInfo}{z:Yo}
  (h:St B w0 N Γ Λ a w) (hob:Obs P Q ⟨ops,N,Γ,lesN Λ,sp,λ i=>List.range i⟩ B w0 0 n) (hn2:ops.size=n+2) (hk:Rg.chk ⟨ops,N,Γ,lesN Λ,sp,λ i=>List.range i⟩=true)
  (ho1:ops[n]?=some ⟨some d,.call ⟨.builtin .append,#[.tmp s,.tmp u],#[S,S]⟩,T1,ps1,af1,none⟩) (ho2:ops[n+1]?=some ⟨some e,.assign (.tmp d),T2,ps2,af2,none⟩)
  (hi1:i1<n) (h1:sp[i1]?=some (.v s (OwnR w0.w.heap.size E m D l))) (hi2:i2<n) (h2:sp[i2]?=some (.v u A2)) (hA2:∀ w u,A2.p B u w→Kept w0 w→(SlA E D' xs).va.p B u w)
  (hS:P.underlying S=some (.slice E)) (hi:P.info? E=some it) (hz:it.zero=some z) (hsz:it.size=m) (hby:it.bytes=bytes) (hzs:z.cells.size=m) (hm0:0<m) (hl:l.length+xs.length≤100000000000) (hb6:bytes≤1000)
  (hD':∀ T∈D',T∈D) (hED:E ∉ D) (hxm:∀ x∈xs,x.n=m) (hde:(d != e)=true) (hd:d<N) (he:e<N)
  (hsrc:src.all (λ k=>match Γ[k]? with|some y => !y.2.deps.contains E&&Rg.outG ⟨ops,N,Γ,lesN Λ,sp,λ i=>List.range i⟩ y.1|none=>false)=true)
  (hΛ:Λ.all (λ l=>l.T != E && !l.A.deps.contains E&&l.s != d&&l.s != e)=true)
  (hQ:∀ a w,St B w0 N ((e,OwnR w0.w.heap.size E m D (l++xs))::src.filterMap (λ k=>Γ[k]?)) Λ a w→Q .normal a w):(Code.region id ops false).wp P Q a w:=by
 have hles0:∀ y∈lesN Λ,y.cr=none∧y.st=none∧(⟨y.s,y.T,y.H,y.A0⟩:Lc)∈Λ:=λ y hy=>by
  obtain ⟨l',hl',rfl⟩:=qq.1 hy;exact ⟨rfl,rfl,hl'⟩
 refine Rg.linK (R:=⟨ops,N,Γ,lesN Λ,sp,λ i=>List.range i⟩) (m:=2) hn2 G hk h (λ y hy _=>(hles0 y hy).2.2) (λ i hi=>hob.all i zo zo) λ a1 w1 hinv=>?_;have hcl:∀ deps,Rg.clash ⟨ops,N,Γ,lesN Λ,sp,λ i=>List.range i⟩ (λ k=>decide (k<n)) deps=false:=λ deps=>by
  unfold Rg.clash;rw [xu];intro y hy;rw [(hles0 y hy).2.1];simp
 have hv:=hinv.v i1 _ s _ h1 rfl (qG hi1) (hcl _);have hu:=hA2 _ _ (hinv.v i2 _ u _ h2 rfl (qG hi2) (hcl _)) hinv.base;have hB:B≤w0.w.heap.size:=hinv.lo _ (.inl (qi _));obtain ⟨v',w',hr,r1,r2,r3⟩:=gc (T1:=T1) hS hi hz hsz hby hzs hm0 hl hb6 hv hu hD' hED hxm hinv.base.size hB;have hdsz:d<a1.tmps.size:=by rw [hinv.size];exact hd
 have hesz:e<(a1.put (some d) v').tmps.size:=by rw [size_put,hinv.size];exact he
 have hne:d≠e:=by simpa using hde
 rw [List.range'_succ,qx];refine bA (R:=⟨ops,N,Γ,lesN Λ,sp,λ i=>List.range i⟩) ho1 G (bf (w':=w') (v:=v') (by simp [execOp,resolve,invoke,builtin,hr,Result.andThen]) ?_);rw [List.range'_succ,qx];refine bA (R:=⟨ops,N,Γ,lesN Λ,sp,λ i=>List.range i⟩) ho2 G (bf (w':=w') (v:=v') ?_ (hQ _ _ ?_))
 ·have:=aM a1 d v' hdsz;simp [execOp,this]
 ·have hother:∀ t,t≠d→t≠e→((a1.put (some d) v').put (some e) v').eval (.tmp t)=a1.eval (.tmp t):=λ t h3 h4=>by
   rw [an _ _ _ _ h4,an _ _ _ _ h3]
  have hlc:∀ l'∈Λ,l'.T≠E∧E ∉ l'.A.deps∧l'.s≠d∧l'.s≠e:=λ l' hl'=>by
   have:=qe.1 hΛ l' hl';simp only [ql,bne_iff_ne,qy,qB,qm] at this;exact ⟨this.1.1.1,this.1.1.2,this.1.2,this.2⟩
  have hcur:∀ l'∈Λ,(⟨l'.s,l'.T,l'.H,none,l'.A,none⟩:Le)∈lesN Λ:=λ l' hl'=>qq.2 ⟨l',hl',rfl⟩;refine ⟨hinv.lo,hinv.defers.grown r2 r3 rfl,by rw [size_put,size_put];exact hinv.size,?_,?_,?_,?_⟩
  ·exact ⟨r2.os.trans hinv.base.os,r2.tape.trans hinv.base.tape,r2.output.trans hinv.base.output,qf hinv.base.size r2.size,λ k hk hf =>
    (r2.block k (qD hk hinv.base.size) (λ e=>by have:=(r3 k e.symm).1;omega)).trans (hinv.base.block k hk hf)⟩
  ·intro y hy;rcases qr.1 hy with rfl|hy
   ·show (OwnR w0.w.heap.size E m D (l++xs)).p B (((a1.put (some d) v').put (some e) v').eval (.tmp e)) w';rw [aM _ _ _ hesz];exact r1
   ·obtain ⟨k,hk1,hk2⟩:=qR.1 hy;have hs:=qe.1 hsrc k hk1;simp only [hk2,ql,qy,qB,qm] at hs;have hout:∀ q,q<ops.size→Rg.dst ⟨ops,N,Γ,lesN Λ,sp,λ i=>List.range i⟩ q≠some y.1:=λ q hq=>by
     have:=qe.1 hs.2 q (by simpa using hq);simpa using this
    have g1:y.1≠d:=λ e1=>hout n zo (by unfold Rg.dst;rw [ho1,e1];rfl);have g2:y.1≠e:=λ e1=>hout (n+1) zo (by unfold Rg.dst;rw [ho2,e1];rfl);rw [hother _ g1 g2];exact VA.grown (hinv.g y (qa hk2) (λ q hq hdq=>absurd hdq (hout q hq)) (hcl _)) r2 r3 hB hs.1
  ·intro l' hl';obtain ⟨g1,g2,g3,g4⟩:=hlc l' hl';obtain ⟨g,cs,e1,e2,e3,e4⟩:=hinv.c _ (hcur l' hl') l'.A rfl;refine ⟨g,cs,by rw [hother _ g3 g4];exact e1,e2,?_,As.grown e4 r2 r3 hB g2⟩;rw [r2.block g (Array.getElem?_eq_some_iff.1 e3).1 (λ e5=>by
    obtain ⟨_,c,fz,e6⟩:=r3 g e5.symm;rw [e3] at e6;injection e6 with e6;injection e6 with _ e6 _;exact g1 e6)]
   exact e3
  ·intro l1 hl1 l2 hl2 hne';obtain ⟨_,_,g3,g4⟩:=hlc l1 hl1;obtain ⟨_,_,g5,g6⟩:=hlc l2 hl2;rw [hother _ g3 g4,hother _ g5 g6];exact hinv.x _ (hcur l1 hl1) _ (hcur l2 hl2) hne' G rfl
section
variable {P:Program}{Q:Exit→Act→World→Prop}{B N:Nat}{w0:Bs}{Γ:List (Nat × VA)}{Λ:List Lc}{a:Act}{w:World}
open Rg in
theorem KP (anc:List (Ya))(n:Nat)(src:Ya)(i1 i2:Nat){S E T1 T2:Yh}{s u d e m bytes:Nat}{ps1 ps2:Yw}{af1 af2:Yx}{D D':Yq}{l xs:Yb}{A2:VA}{it:TypeInfo}{z:Yo}
  (hm:P.follows .mixedOrders=true) (h:St B w0 N Γ Λ a w)
  (hob:Obs P Q ⟨ops,N,Γ,lesN Λ,sp,λ i=>anc.getD i []⟩ B w0 0 n) (hn2:ops.size=n+2)
  (hanc:Rg.ancOk ⟨ops,N,Γ,lesN Λ,sp,λ i=>anc.getD i []⟩=true) (hk:Rg.chk ⟨ops,N,Γ,lesN Λ,sp,λ i=>anc.getD i []⟩=true)
  (ha1:(List.range n).all (λ j=>(anc.getD n []).contains j)=true) (ha2:(anc.getD (n+1) []).contains n=true)
  (ho1:ops[n]?=some ⟨some d,.call ⟨.builtin .append,#[.tmp s,.tmp u],#[S,S]⟩,T1,ps1,af1,none⟩) (ho2:ops[n+1]?=some ⟨some e,.assign (.tmp d),T2,ps2,af2,none⟩)
  (hi1:i1<n) (h1:sp[i1]?=some (.v s (OwnR w0.w.heap.size E m D l))) (hi2:i2<n) (h2:sp[i2]?=some (.v u A2)) (hA2:∀ w u,A2.p B u w→Kept w0 w→(SlA E D' xs).va.p B u w)
  (hS:P.underlying S=some (.slice E)) (hi:P.info? E=some it) (hz:it.zero=some z) (hsz:it.size=m) (hby:it.bytes=bytes) (hzs:z.cells.size=m) (hm0:0<m) (hl:l.length+xs.length≤100000000000) (hb6:bytes≤1000)
  (hD':∀ T∈D',T∈D) (hED:E ∉ D) (hxm:∀ x∈xs,x.n=m) (hde:(d != e)=true) (hd:d<N) (he:e<N)
  (hsrc:src.all (λ k=>match Γ[k]? with|some y => !y.2.deps.contains E&&Rg.outG ⟨ops,N,Γ,lesN Λ,sp,λ i=>anc.getD i []⟩ y.1|none=>false)=true)
  (hΛ:Λ.all (λ l=>l.T != E && !l.A.deps.contains E&&l.s != d&&l.s != e)=true)
  (hQ:∀ a w,St B w0 N ((e,OwnR w0.w.heap.size E m D (l++xs))::src.filterMap (λ k=>Γ[k]?)) Λ a w→Q .normal a w):(Code.region id ops true).wp P Q a w:=by
 have hles0:∀ y∈lesN Λ,y.cr=none∧y.st=none∧(⟨y.s,y.T,y.H,y.A0⟩:Lc)∈Λ:=λ y hy=>by
  obtain ⟨l',hl',rfl⟩:=qq.1 hy;exact ⟨rfl,rfl,hl'⟩
 refine Rg.draw2 (R:=⟨ops,N,Γ,lesN Λ,sp,λ i=>anc.getD i []⟩) hn2 hm hanc hk h (λ y hy _=>(hles0 y hy).2.2) (λ i hi=>hob.all i zo zo) (λ j hj=>qe.1 ha1 j (by simpa using hj)) ha2 λ a1 w1 hinv K hK=>?_;have hcl:∀ deps,Rg.clash ⟨ops,N,Γ,lesN Λ,sp,λ i=>anc.getD i []⟩ (λ k=>decide (k<n)) deps=false:=λ deps=>by
  unfold Rg.clash;rw [xu];intro y hy;rw [(hles0 y hy).2.1];simp
 have hv:=hinv.v i1 _ s _ h1 rfl (qG hi1) (hcl _);have hu:=hA2 _ _ (hinv.v i2 _ u _ h2 rfl (qG hi2) (hcl _)) hinv.base;have hB:B≤w0.w.heap.size:=hinv.lo _ (.inl (qi _));obtain ⟨v',w',hr,r1,r2,r3⟩:=gc (T1:=T1) hS hi hz hsz hby hzs hm0 hl hb6 hv hu hD' hED hxm hinv.base.size hB;have hdsz:d<a1.tmps.size:=by rw [hinv.size];exact hd
 have hesz:e<(a1.put (some d) v').tmps.size:=by rw [size_put,hinv.size];exact he
 have hne:d≠e:=by simpa using hde
 refine bA (R:=⟨ops,N,Γ,lesN Λ,sp,λ i=>anc.getD i []⟩) ho1 G (bf (w':=w') (v:=v') (by simp [execOp,resolve,invoke,builtin,hr,Result.andThen]) (hK _ _ λ K' hK'=>?_));refine bA (R:=⟨ops,N,Γ,lesN Λ,sp,λ i=>anc.getD i []⟩) ho2 G (bf (w':=w') (v:=v') ?_ (hK' _ _ (hQ _ _ ?_)))
 ·have:=aM a1 d v' hdsz;simp [execOp,this]
 ·have hother:∀ t,t≠d→t≠e→((a1.put (some d) v').put (some e) v').eval (.tmp t)=a1.eval (.tmp t):=λ t h3 h4=>by
   rw [an _ _ _ _ h4,an _ _ _ _ h3]
  have hlc:∀ l'∈Λ,l'.T≠E∧E ∉ l'.A.deps∧l'.s≠d∧l'.s≠e:=λ l' hl'=>by
   have:=qe.1 hΛ l' hl';simp only [ql,bne_iff_ne,qy,qB,qm] at this;exact ⟨this.1.1.1,this.1.1.2,this.1.2,this.2⟩
  have hcur:∀ l'∈Λ,(⟨l'.s,l'.T,l'.H,none,l'.A,none⟩:Le)∈lesN Λ:=λ l' hl'=>qq.2 ⟨l',hl',rfl⟩;refine ⟨hinv.lo,hinv.defers.grown r2 r3 rfl,by rw [size_put,size_put];exact hinv.size,?_,?_,?_,?_⟩
  ·exact ⟨r2.os.trans hinv.base.os,r2.tape.trans hinv.base.tape,r2.output.trans hinv.base.output,qf hinv.base.size r2.size,λ k hk hf =>
    (r2.block k (qD hk hinv.base.size) (λ e=>by have:=(r3 k e.symm).1;omega)).trans (hinv.base.block k hk hf)⟩
  ·intro y hy;rcases qr.1 hy with rfl|hy
   ·show (OwnR w0.w.heap.size E m D (l++xs)).p B (((a1.put (some d) v').put (some e) v').eval (.tmp e)) w';rw [aM _ _ _ hesz];exact r1
   ·obtain ⟨k,hk1,hk2⟩:=qR.1 hy;have hs:=qe.1 hsrc k hk1;simp only [hk2,ql,qy,qB,qm] at hs;have hout:∀ q,q<ops.size→Rg.dst ⟨ops,N,Γ,lesN Λ,sp,λ i=>anc.getD i []⟩ q≠some y.1:=λ q hq=>by
     have:=qe.1 hs.2 q (by simpa using hq);simpa using this
    have g1:y.1≠d:=λ e1=>hout n zo (by unfold Rg.dst;rw [ho1,e1];rfl);have g2:y.1≠e:=λ e1=>hout (n+1) zo (by unfold Rg.dst;rw [ho2,e1];rfl);rw [hother _ g1 g2];exact VA.grown (hinv.g y (qa hk2) (λ q hq hdq=>absurd hdq (hout q hq)) (hcl _)) r2 r3 hB hs.1
  ·intro l' hl';obtain ⟨g1,g2,g3,g4⟩:=hlc l' hl';obtain ⟨g,cs,e1,e2,e3,e4⟩:=hinv.c _ (hcur l' hl') l'.A rfl;refine ⟨g,cs,by rw [hother _ g3 g4];exact e1,e2,?_,As.grown e4 r2 r3 hB g2⟩;rw [r2.block g (Array.getElem?_eq_some_iff.1 e3).1 (λ e5=>by
    obtain ⟨_,c,fz,e6⟩:=r3 g e5.symm;rw [e3] at e6;injection e6 with e6;injection e6 with _ e6 _;exact g1 e6)]
   exact e3
  ·intro l1 hl1 l2 hl2 hne';obtain ⟨_,_,g3,g4⟩:=hlc l1 hl1;obtain ⟨_,_,g5,g6⟩:=hlc l2 hl2;rw [hother _ g3 g4,hother _ g5 g6];exact hinv.x _ (hcur l1 hl1) _ (hcur l2 hl2) hne' G rfl
end
def OwnB (b:Nat)(E:TypeId)(m:Nat)(D:List TypeId)(l:List As):VA where
 p B v w:=b≤w.heap.size∧B≤b∧(OwnR b E m D l).p B v w
 deps:=E::D
 cg:=λ B v w w' hg ⟨h1,h2,h3⟩=>⟨qf h1 hg.size,h2,(OwnR b E m D l).cg B v w w' hg h3⟩
 wr:=λ B v w w' g c T fz hgc hT hB hW ⟨h1,h2,h3⟩=>⟨by rw [hW.size];exact h1,h2,(OwnR b E m D l).wr B v w w' g c T fz hgc hT hB hW h3⟩
def LO (b:Nat):VA where
 p _ v _:=∃ g,blk v=some g∧g<b
 deps:=[]
 cg:=λ _ _ _ _ _ h=>h
 wr:=λ _ _ _ _ _ _ _ _ _ _ _ _ h=>h
open Rg in
theorem KQ (n:Nat)(src:Ya)(i1 i2 k3:Nat){S E T1 T2:Yh}{s u d e m bytes b s3:Nat}{ps1 ps2:Yw}{af1 af2:Yx}{D D':Yq}{l xs:Yb}{A2:VA}{it:TypeInfo}{z:Yo}
  (h:St B w0 N Γ Λ a w) (hob:Obs P Q ⟨ops,N,Γ,lesN Λ,sp,λ i=>List.range i⟩ B w0 0 n) (hn2:ops.size=n+2) (hk:Rg.chk ⟨ops,N,Γ,lesN Λ,sp,λ i=>List.range i⟩=true)
  (ho1:ops[n]?=some ⟨some d,.call ⟨.builtin .append,#[.tmp s,.tmp u],#[S,S]⟩,T1,ps1,af1,none⟩) (ho2:ops[n+1]?=some ⟨some e,.assign (.tmp d),T2,ps2,af2,none⟩)
  (hi1:i1<n) (h1:sp[i1]?=some (.v s (OwnB b E m D l))) (hi2:i2<n) (h2:sp[i2]?=some (.v u A2)) (h3:Γ[k3]?=some (s3,LO b)) (ho3:Rg.outG ⟨ops,N,Γ,lesN Λ,sp,λ i=>List.range i⟩ s3=true) (hwb:w0.w.heap.size≤b) (hA2:∀ w u,A2.p B u w→Kept w0 w→(SlA E D' xs).va.p B u w)
  (hS:P.underlying S=some (.slice E)) (hi:P.info? E=some it) (hz:it.zero=some z) (hsz:it.size=m) (hby:it.bytes=bytes) (hzs:z.cells.size=m) (hm0:0<m) (hl:l.length+xs.length≤100000000000) (hb6:bytes≤1000)
  (hD':∀ T∈D',T∈D) (hED:E ∉ D) (hxm:∀ x∈xs,x.n=m) (hde:(d != e)=true) (hd:d<N) (he:e<N)
  (hsrc:src.all (λ k=>match Γ[k]? with|some y => !y.2.deps.contains E&&Rg.outG ⟨ops,N,Γ,lesN Λ,sp,λ i=>List.range i⟩ y.1|none=>false)=true)
  (hΛ:Λ.all (λ l=>(l.T != E || l.s==s3) && !l.A.deps.contains E&&l.s != d&&l.s != e)=true)
  (hQ:∀ a w,St B w0 N ((e,OwnB b E m D (l++xs))::src.filterMap (λ k=>Γ[k]?)) Λ a w→Q .normal a w):(Code.region id ops false).wp P Q a w:=by
 have hles0:∀ y∈lesN Λ,y.cr=none∧y.st=none∧(⟨y.s,y.T,y.H,y.A0⟩:Lc)∈Λ:=λ y hy=>by
  obtain ⟨l',hl',rfl⟩:=qq.1 hy;exact ⟨rfl,rfl,hl'⟩
 refine Rg.linK (R:=⟨ops,N,Γ,lesN Λ,sp,λ i=>List.range i⟩) (m:=2) hn2 G hk h (λ y hy _=>(hles0 y hy).2.2) (λ i hi=>hob.all i zo zo) λ a1 w1 hinv=>?_;have hcl:∀ deps,Rg.clash ⟨ops,N,Γ,lesN Λ,sp,λ i=>List.range i⟩ (λ k=>decide (k<n)) deps=false:=λ deps=>by
  unfold Rg.clash;rw [xu];intro y hy;rw [(hles0 y hy).2.1];simp
 obtain ⟨hbw,hB,hv⟩:=hinv.v i1 _ s _ h1 rfl (qG hi1) (hcl _);have hout:∀ t,Rg.outG ⟨ops,N,Γ,lesN Λ,sp,λ i=>List.range i⟩ t=true→∀ q,q<ops.size→Rg.dst ⟨ops,N,Γ,lesN Λ,sp,λ i=>List.range i⟩ q≠some t:=λ t ht q hq=>by
  have:=qe.1 ht q (by simpa using hq);simpa using this
 obtain ⟨g3,hg3,hlt3⟩:=hinv.g _ (qa h3) (λ q hq hdq=>absurd hdq (hout _ ho3 q hq)) (hcl _);have hu:=hA2 _ _ (hinv.v i2 _ u _ h2 rfl (qG hi2) (hcl _)) hinv.base;obtain ⟨v',w',hr,r1,r2,r3⟩:=gc (T1:=T1) hS hi hz hsz hby hzs hm0 hl hb6 hv hu hD' hED hxm hbw hB;have hdsz:d<a1.tmps.size:=by rw [hinv.size];exact hd
 have hesz:e<(a1.put (some d) v').tmps.size:=by rw [size_put,hinv.size];exact he
 have hne:d≠e:=by simpa using hde
 rw [List.range'_succ,qx];refine bA (R:=⟨ops,N,Γ,lesN Λ,sp,λ i=>List.range i⟩) ho1 G (bf (w':=w') (v:=v') (by simp [execOp,resolve,invoke,builtin,hr,Result.andThen]) ?_);rw [List.range'_succ,qx];refine bA (R:=⟨ops,N,Γ,lesN Λ,sp,λ i=>List.range i⟩) ho2 G (bf (w':=w') (v:=v') ?_ (hQ _ _ ?_))
 ·have:=aM a1 d v' hdsz;simp [execOp,this]
 ·have hother:∀ t,t≠d→t≠e→((a1.put (some d) v').put (some e) v').eval (.tmp t)=a1.eval (.tmp t):=λ t h3 h4=>by
   rw [an _ _ _ _ h4,an _ _ _ _ h3]
  have hlc:∀ l'∈Λ,(l'.T≠E∨l'.s=s3)∧E ∉ l'.A.deps∧l'.s≠d∧l'.s≠e:=λ l' hl'=>by
   have:=qe.1 hΛ l' hl';simp only [ql,z4,xv,bne_iff_ne,qy,qB,qm] at this;exact ⟨this.1.1.1,this.1.1.2,this.1.2,this.2⟩
  have hcur:∀ l'∈Λ,(⟨l'.s,l'.T,l'.H,none,l'.A,none⟩:Le)∈lesN Λ:=λ l' hl'=>qq.2 ⟨l',hl',rfl⟩;refine ⟨hinv.lo,hinv.defers.grown r2 r3 rfl,by rw [size_put,size_put];exact hinv.size,?_,?_,?_,?_⟩
  ·exact ⟨r2.os.trans hinv.base.os,r2.tape.trans hinv.base.tape,r2.output.trans hinv.base.output,qf hinv.base.size r2.size,λ k hk hf =>
    (r2.block k (qD hk hinv.base.size) (λ e=>by have:=(r3 k e.symm).1;omega)).trans (hinv.base.block k hk hf)⟩
  ·intro y hy;rcases qr.1 hy with rfl|hy
   ·show (OwnB b E m D (l++xs)).p B (((a1.put (some d) v').put (some e) v').eval (.tmp e)) w';rw [aM _ _ _ hesz];exact ⟨qf hbw r2.size,hB,r1⟩
   ·obtain ⟨k,hk1,hk2⟩:=qR.1 hy;have hs:=qe.1 hsrc k hk1;simp only [hk2,ql,qy,qB,qm] at hs;have hout:=hout y.1 hs.2;have g1:y.1≠d:=λ e1=>hout n zo (by unfold Rg.dst;rw [ho1,e1];rfl);have g2:y.1≠e:=λ e1=>hout (n+1) zo (by unfold Rg.dst;rw [ho2,e1];rfl);rw [hother _ g1 g2];exact VA.grown (hinv.g y (qa hk2) (λ q hq hdq=>absurd hdq (hout q hq)) (hcl _)) r2 r3 hB hs.1
  ·intro l' hl';obtain ⟨g1,g2,g3,g4⟩:=hlc l' hl';obtain ⟨g,cs,e1,e2,e3,e4⟩:=hinv.c _ (hcur l' hl') l'.A rfl;refine ⟨g,cs,by rw [hother _ g3 g4];exact e1,e2,?_,As.grown e4 r2 r3 hB g2⟩;rw [r2.block g (Array.getElem?_eq_some_iff.1 e3).1 (λ e5=>by
    obtain ⟨h8,c,fz,e6⟩:=r3 g e5.symm;rcases g1 with g1|g1
    ·rw [e3] at e6;injection e6 with e6;injection e6 with _ e6 _;exact g1 e6
    ·rw [← g1,e1,l'.H.ok] at hg3;injection hg3 with hg3;omega)]
   exact e3
  ·intro l1 hl1 l2 hl2 hne';obtain ⟨_,_,g3,g4⟩:=hlc l1 hl1;obtain ⟨_,_,g5,g6⟩:=hlc l2 hl2;rw [hother _ g3 g4,hother _ g5 g6];exact hinv.x _ (hcur l1 hl1) _ (hcur l2 hl2) hne' G rfl
theorem Cn.introF {f:Yn}{c:Code}{pre:Yc}{post:VA}(hf:P.funcs[f]?=some fn)(hb:fn.body=some c)(hn:(fn.name== "runtime.NumGoroutine")=false)(hsz:pre.length≤fn.ntmps)
  (h:∀ (B:Nat) (w0:Bs) (a:Act),NoF w0→St B w0 fn.ntmps (argΓ pre) [] a w0.w→c.wp P (ce P fn (RQ B w0 post)) a w0.w):Cn P f pre post:=by
 refine ⟨⟨fn,hf,hn,by rw [hb];rfl⟩,λ B w args hB ha=>(cm hf hb (h B ⟨w,λ _=>False,false⟩ _ (λ _ h=>h.elim) ?_)).mono λ _ _ ⟨v,he,hv,hk⟩=>⟨v,he,hv,hk.grow0⟩⟩;have hl:=ha.length;refine ⟨λ g hg=>qf hB (hg.resolve_right λ h=>h),DefOk.nil rfl,?_,Kept.refl _,All2.args ha,(λ l hl=>by cases hl),(λ l hl=>by cases hl)⟩;simp only [xi,z8,qO];omega
theorem aV {R:Rg}{A:VA}(hF:NoF w0)(hv:A.p B v w0.w)(h:Has R B w0 i x (EqV v)):Has R B w0 i x A:=λ a w av=>by
 have e:a.eval x=v:=h a w av;rw [e];exact A.cg _ _ _ _ (hF.cg av.base) hv
theorem St.eqv (h:St B w0 N Γ Λ a w0.w){A:VA}(k:Nat)(hm:Γ[k]?=some (s,A)):∃ v,A.p B v w0.w∧St B w0 N (Γ.set k (s,EqV v)) Λ a w0.w :=
 ⟨a.eval (.tmp s),h.vals _ (qa hm),h.lo,h.defers,h.size,h.base,λ x hx=>by
  rcases qA hx with hx|rfl
  ·exact h.vals x hx
  ·exact rfl,h.locs,h.dis⟩
theorem FP {l l':Yc}(h:All2 Free l l'){B B':Nat}(hB:B'≤B):∀ {vs:Ym},All2 (λ (A:VA) x=>A.p B x w) l vs→All2 (λ (A:VA) x=>A.p B' x w) l' vs:=by
 induction h with
 | nil=>intro vs hv;cases hv;exact .nil
 | cons h _ ih=>intro vs hv;cases hv with|cons h1 h2=>exact .cons (h _ _ _ _ hB h1) (ih h2)
theorem pA {l l':Yc}(h:All2 Free l l'):Free (Tu l) (Tu l'):=λ _ _ _ _ hB ⟨vs,e,hv⟩=>⟨vs,e,FP h hB hv⟩
def CnI (P:Program)(f:FuncId)(pre:List VA)(mk:Nat→VA):Prop :=
 (Xx P f) ∧
 ∀ (B:Nat) (w:World) (args:List Value),B≤w.heap.size→All2 (λ A v=>A.p B v w) pre args →
  Calls P f args.toArray w λ e w'=>∃ v,e=.returned v∧(mk w.heap.size).p B v w'∧Grow w w'
theorem CnI.introF {f:Yn}{c:Code}{pre:Yc}{mk:Nat→VA}(hf:P.funcs[f]?=some fn)(hb:fn.body=some c)(hn:(fn.name== "runtime.NumGoroutine")=false)(hsz:pre.length≤fn.ntmps)
  (h:∀ (B:Nat) (w0:Bs) (a:Act),(∀ g,¬ w0.F g)→NoF w0→St B w0 fn.ntmps (argΓ pre) [] a w0.w→c.wp P (ce P fn (RQ B w0 (mk w0.w.heap.size))) a w0.w):CnI P f pre mk:=by
 refine ⟨⟨fn,hf,hn,by rw [hb];rfl⟩,λ B w args hB ha=>(cm hf hb (h B ⟨w,λ _=>False,false⟩ _ (λ _ h=>h) (λ _ h=>h.elim) ?_)).mono λ _ _ ⟨v,he,hv,hk⟩=>⟨v,he,hv,hk.grow0⟩⟩;have hl:=ha.length;refine ⟨λ g hg=>qf hB (hg.resolve_right λ h=>h),DefOk.nil rfl,?_,Kept.refl _,All2.args ha,(λ l hl=>by cases hl),(λ l hl=>by cases hl)⟩;simp only [xi,z8,qO];omega
theorem ej (h:∀ a w,Q .outgrown a w→False):¬ LetsOut Q:=λ⟨a,w,h'⟩=>h a w h'
def fw (o:Option Nat):Fence:={ fn:=λ _=>True,depth:=none,alive:=false,round:=o }
theorem Gu {o:Yu}{f:Yn}{args:Array Yo}{R:Ending→Yi→Prop}(h:Calls P f args w R):CallsIn (fw o) n P f args w R:=by
 have h':CallsIn Fence.wide n P f args w R:=callsIn_wide.2 h;cases o with
 | none=>exact h'
 | some l=>exact CallsIn.inRound l h'
theorem fw_steps {o:Yu}{m m':Machine}:StepsIn (Machine.fenced P (fw o)) P m m'↔Steps P m m':=by
 cases o with
 | none=>exact stepsIn_wide
 | some l=>exact stepsIn_wide
theorem J4 {o:Yu}{row:Yw}{args:Array Yo}{R:Yo→Yi→Prop}(h:Rows P row args w R):RowsIn (fw o) n P row args w R:=λ c cs _=>by
 obtain ⟨v,w',h1,h2⟩:=h c cs;exact ⟨v,w',h1,fw_steps.2 h2⟩
def fM (ops:Array Oper):Bool:=ops.all λ x=>match x.op with | .defer _=>false|_=>true
theorem yD (h:fM ops=true){x:Oper}(hx:ops[i]?=some x):∀ c,x.op≠.defer c:=λ c e=>by
 have:=z6.1 h x (vx hx);rw [e] at this;cases this
theorem gW {o:Yu}{K:Ye}(hnd:fM ops=true)(hQ0:¬ LetsOut Q)(h:wpOp P ops Q i K a w):wpOpIn (fw o) 0 P ops Q i K a w:=by
 unfold wpOp at h;unfold wpOpIn;cases ho:ops[i]? with
 | none=>rw [ho] at h;exact h
 | some x =>
  rw [ho] at h;simp only at h ⊢;by_cases hw:Region.wanted x (yielded ops a.tmps)=true
  ·rw [qC hw] at h ⊢;rcases h with h|⟨_,h⟩
   ·refine ⟨λ _ _=>trivial,?_⟩;rw [Oper.semAt_eq _ _ _ (yD hnd ho)];unfold Oper.wp at h;generalize (execOp a.eval x).run P w=r at *;cases r with
    | ok nx w' =>
     cases nx with
     | value v=>exact h
     | skip=>exact h
     | defer d=>exact h
     | enter f args=>exact ⟨λ hh=>(by cases hh),Gu h⟩
     | row r args=>exact ⟨λ hh=>(by cases hh),J4 h⟩
     | _=>exact absurd h (λ h=>h)
    | halt e w'=>cases e <;> exact h
   ·exact absurd h hQ0
  ·rw [qz hw] at h ⊢;exact ⟨λ _ _=>trivial,h⟩
section
variable {P:Program}{R:Rg}{Q:Exit→Act→World→Prop}{B:Nat}{w0:Bs}{a:Act}{w:World}{o:Option Nat}
open Rg in
theorem Rg.linF (hnd:fM R.ops=true)(hQ0:¬ LetsOut Q)(hanc:R.anc=λ i=>List.range i)(hk:R.chk=true)(h:St B w0 R.N R.Γ Λ a w)(hles:∀ e∈R.les,e.cr=none→(⟨e.s,e.T,e.H,e.A0⟩:Lc)∈Λ)
  (hob:∀ i,i<R.ops.size→R.Ob P Q B w0 i) (hQ:∀ a' w',Fin R B w0 a' w'→Q .normal a' w'):(Code.region id R.ops false).wpIn (fw o) 0 P Q a w:=by
 refine wpIn_region ?_;have key:∀ m k,k+m=R.ops.size→∀ a w,R.Inv B w0 (λ j=>decide (j<k)) a w→wpOpsIn (fw o) 0 P R.ops Q (List.range' k m) a w:=by
  intro m
  induction m with
  | zero =>
   intro k hkm a w hi;have:k=R.ops.size:=by omega
   subst this;exact hQ a w ⟨hi⟩
  | succ m ih =>
   intro k hkm a w hi;rw [List.range'_succ,wpOpsIn_cons];refine gW hnd hQ0 (step hk (hob k zo) hi ?_ (by simp) ?_ _ λ a' w' hi'=>ih (k+1) zo a' w' (hi'.congr λ j=>?_))
   ·intro i hi j hj;rw [hanc] at hj;simp at hi hj ⊢;omega
   ·intro j hj;rw [hanc] at hj;simpa using hj
   ·unfold upd;by_cases h1:j=k
    ·subst h1;simp
    ·have h2:(j==k)=false:=by simpa using h1
     rw [h2,xI,qU];omega
 rw [List.range_eq_range'];exact key _ 0 zo a w ((start h hles).congr λ j=>by simp)
end
section
variable {P:Program}{R:Rg}{Q:Exit→Act→World→Prop}{B:Nat}{w0:Bs}{a:Act}{w:World}{o:Option Nat}
open Rg in
theorem Rg.drawK (hsz2:R.ops.size=n+m)(hm0:0<m)(hm:P.follows .mixedOrders=true)(hanc:ancOk R=true)(hk:R.chk=true)(h:St B w0 R.N R.Γ Λ a w)(hles:∀ e∈R.les,e.cr=none→(⟨e.s,e.T,e.H,e.A0⟩:Lc)∈Λ)
  (hob:∀ i,i<n→R.Ob P Q B w0 i) (ha1:∀ i,n≤i→i<n+m→∀ j,j<i→(R.anc i).contains j=true)
  (hQ:∀ a w,R.Inv B w0 (λ k=>decide (k<n)) a w→wpOps P R.ops Q (List.range' n m) a w) :
  (Code.region id R.ops true).wp P Q a w:=by
 refine wp_region_any hm ?_;have ho:∀ i,i<R.ops.size→∃ o:Oper,R.ops[i]?=some o∧(∀ j,(R.anc i).contains j=true→∃ e∈o.after,Region.binds .any e=true∧(e.on=j∨(R.anc e.on).contains j=true)) ∧
   ∀ e∈o.after,Region.binds .any e=true→e.on<i:=by
  intro i hi;have:=qe.1 hanc i (by simpa using hi);cases hoi:R.ops[i]? with
  | none=>rw [hoi] at this;cases this
  | some o =>
   rw [hoi] at this;simp only [ql] at this;refine ⟨o,rfl,λ j hj=>?_,λ e he hb=>?_⟩
   ·have hh:=qe.1 this.1 j (by simpa using hj);obtain ⟨e,he,h1⟩:=jU.1 hh;simp only [ql,z4,xv] at h1;exact ⟨e,he,h1.1,h1.2⟩
   ·have hh:=z6.1 this.2 e he;simpa [hb] using hh
 have hrd:∀ (listed:Array Bool) i,i∈Region.ready .any R.ops listed→i<R.ops.size∧listed.getD i true=false∧∀ o,R.ops[i]?=some o→∀ e∈o.after,Region.binds .any e=true→listed.getD e.on false=true:=by
  intro listed i hi;unfold Region.ready at hi;obtain ⟨h1,h2⟩:=z5.1 hi;simp only [ql,qy] at h2;refine ⟨by simpa using h1,h2.1,λ o hoi e he hb=>?_⟩;have h3:=h2.2;rw [hoi] at h3;simp only [qT,xx] at h3;have:=z6.1 h3 e he;simpa [hb] using this
 have hset:∀ (listed:Array Bool) (i k:Nat),listed.size=R.ops.size→i<R.ops.size→(listed.setIfInBounds i true).getD k false=upd (λ i=>listed.getD i false) i k:=by
  intro listed i k hsz hi;unfold upd;by_cases hki:k=i
  ·subst hki;simp [hsz,hi]
  ·simp [hki,Array.getElem?_setIfInBounds_ne (λ e=>hki e.symm)]
 have hpos:∀ (listed:Array Bool) (i:Nat),i<R.ops.size→listed.getD i false=false→0<(List.range R.ops.size).countP (λ k => !listed.getD k false):=λ listed i hi hl =>
  jI.2 ⟨i,by simpa using hi,by simp only [hl];rfl⟩
 have hlt:∀ (listed:Array Bool) (i:Nat),listed.size=R.ops.size→i<R.ops.size→listed.getD i false=false→(List.range R.ops.size).countP (λ k => !(listed.setIfInBounds i true).getD k false)<(List.range R.ops.size).countP (λ k => !listed.getD k false):=by
  intro listed i hsz hi hLi;refine eR (x:=i) (λ x hx=>?_) (by simpa using hi) (by rw [hLi];rfl) (by rw [hset listed i i hsz hi,ci];rfl);have hx':upd (λ i=>listed.getD i false) i x=false:=by
   rw [← hset listed i x hsz hi];simpa only [qy] using hx
  rw [(dK hx').2]
  rfl
 have hfull:∀ (listed:Array Bool),listed.size=R.ops.size→Region.ready .any R.ops listed=[]→∀ k,k<R.ops.size→listed.getD k false=true:=by
  intro listed hsz hr k
  induction k using Nat.strongRecOn with
  | _ k ih =>
   intro hkn;cases hl:listed.getD k false with
   | true=>rfl
   | false =>
    exfalso;obtain ⟨x,ho1,_,ho3⟩:=ho k hkn;have:k∈Region.ready .any R.ops listed:=by
     unfold Region.ready;refine z5.2 ⟨by simpa using hkn,?_⟩;have h0:listed.getD k true=false:=by
      simp only [Array.getD,hsz,hkn,dite_true] at hl ⊢;exact hl
     rw [h0,ho1];simp only [jT,kr,qT,xx];refine z6.2 λ e he=>?_;cases hb:Region.binds .any e with
     | false=>rfl
     | true=>simpa using ih e.on (ho3 e he hb) (zD (ho3 e he hb) hkn)
    rw [hr] at this;cases this
 have hancL:∀ (listed:Array Bool) i,cG R (λ i=>listed.getD i false)→i∈Region.ready .any R.ops listed→∀ j,(R.anc i).contains j=true→listed.getD j false=true:=by
  intro listed i hcl hir j hj;obtain ⟨h1,h2,h3⟩:=hrd listed i hir;obtain ⟨x,ho1,ho2,_⟩:=ho i h1;obtain ⟨e,he,hb,hj'⟩:=ho2 j hj;have hl:=h3 x ho1 e he hb;rcases hj' with rfl|hj'
  ·exact hl
  ·exact hcl e.on hl j hj'
 have hclN:∀ (listed:Array Bool) i,listed.size=R.ops.size→cG R (λ i=>listed.getD i false)→i∈Region.ready .any R.ops listed→cG R (λ k=>(listed.setIfInBounds i true).getD k false):=by
  intro listed i hsz hcl hir k hk' j hj;obtain ⟨h1,_,_⟩:=hrd listed i hir;have hk2:upd (λ i=>listed.getD i false) i k=true:=by rw [← hset listed i k hsz h1];exact hk'
  show (listed.setIfInBounds i true).getD j false=true;rw [hset listed i j hsz h1];rcases rG hk2 with rfl|h4
  ·exact cX _ (hancL listed k hcl hir j hj)
  ·exact cX _ (hcl k h4 j hj)
 have tail:∀ q k,k+q=n+m→n≤k→∀ fuel (listed:Array Bool) a w,listed.size=R.ops.size→(List.range R.ops.size).countP (λ i => !listed.getD i false)≤fuel→cG R (λ i=>listed.getD i false) →
   (∀ j,j<k→listed.getD j false=true)→(∀ j,k≤j→j<n+m→listed.getD j false=false)→wpOps P R.ops Q (List.range' k q) a w→wpAny P .any R.ops Q fuel listed a w:=by
  intro q
  induction q with
  | zero =>
   intro k hkq hnk fuel listed a w hsz hcnt hcl hall _ hwp;have hr:Region.ready .any R.ops listed=[]:=by
    cases hrr:Region.ready .any R.ops listed with
    | nil=>rfl
    | cons i rest =>
     obtain ⟨h1,h2,_⟩:=hrd listed i (by rw [hrr];simp);have:=hall i zo;simp only [Array.getD,hsz,h1,dite_true] at h2 this;rw [h2] at this;cases this
   cases fuel with
   | zero=>exact ⟨hr,hwp⟩
   | succ fuel=>exact ⟨λ _=>hwp,λ i hir=>by rw [hr] at hir;cases hir⟩
  | succ q ih =>
   intro k hkq hnk fuel listed a w hsz hcnt hcl hall hnone hwp;have hLk:listed.getD k false=false:=hnone k (qi _) zo;have hp:=hpos listed k zo hLk;cases fuel with
   | zero=>omega
   | succ fuel =>
    refine ⟨λ hr=>absurd (hfull listed hsz hr k zo) (by rw [hLk];decide),λ i hir=>?_⟩;obtain ⟨h1,h2,h3⟩:=hrd listed i hir;have hik:i=k:=by
     by_cases e:i=k
     ·exact e
     ·exfalso;by_cases hlt':i<k
      ·have:=hall i hlt';simp only [Array.getD,hsz,h1,dite_true] at h2 this;rw [h2] at this;cases this
      ·have:=hancL listed i hcl hir k (ha1 i zo zo k zo);rw [hLk] at this;cases this
    subst hik;rw [List.range'_succ,qx] at hwp;refine wpOp_mono (λ a' w' hr=>ih (i+1) zo zo fuel _ a' w' (by simpa using hsz) ?_ (hclN listed i hsz hcl hir) (λ j hj=>?_) (λ j hj hj2=>?_) hr) hwp
    ·have:=hlt listed i hsz h1 hLk;omega
    ·rw [hset listed i j hsz h1];by_cases e:j=i
     ·rw [e];exact ci _ _
     ·exact cX _ (hall j zo)
    ·rw [hset listed i j hsz h1,d9 _ zo];exact hnone j zo hj2
 have key:∀ fuel (listed:Array Bool) a w,listed.size=R.ops.size→(List.range R.ops.size).countP (λ i => !listed.getD i false)≤fuel→cG R (λ i=>listed.getD i false) →
   (∀ j,n≤j→j<n+m→listed.getD j false=false)→R.Inv B w0 (λ i=>listed.getD i false) a w→wpAny P .any R.ops Q fuel listed a w:=by
  intro fuel
  induction fuel with
  | zero =>
   intro listed a w hsz hcnt hcl hn0 hi;have:=hpos listed n zo (hn0 n (qi _) zo);omega
  | succ fuel ih =>
   intro listed a w hsz hcnt hcl hn0 hi;have hn00:=hn0 n (qi _) zo;by_cases hdone:∀ j,j<n→listed.getD j false=true
   ·refine tail m n G (qi _) (fuel+1) listed a w hsz hcnt hcl hdone hn0 (hQ a w (hi.congr λ k=>?_));by_cases hkn:k<n
    ·rw [hdone k hkn];simp [hkn]
    ·by_cases hkm:k<n+m
     ·rw [hn0 k zo hkm];simp [hkn]
     ·have:listed.getD k false=false:=by simp [Array.getD,hsz,hsz2,hkm]
      rw [this];simp [hkn]
   ·refine ⟨λ hr=>absurd (hfull listed hsz hr n zo) (by rw [hn00];decide),λ i hir=>?_⟩;obtain ⟨h1,h2,h3⟩:=hrd listed i hir;have hin:i<n:=by
     by_cases e:i<n
     ·exact e
     ·exact absurd (λ j hj=>hancL listed i hcl hir j (ha1 i zo zo j zo)) hdone
    have hLi:listed.getD i false=false:=by
     simp only [Array.getD,hsz,h1,dite_true] at h2 ⊢;exact h2
    refine step hk (hob i hin) hi hcl hLi (hancL listed i hcl hir) _ λ a' w' hi'=>ih _ _ _ (by simpa using hsz) ?_ (hclN listed i hsz hcl hir) ?_ (hi'.congr λ k=>hset listed i k hsz h1)
    ·have:=hlt listed i hsz h1 hLi;omega
    ·intro j hj hj2;rw [hset listed i j hsz h1,d9 _ zo];exact hn0 j hj hj2
 refine key _ _ a _ (by simp) ?_ ?_ ?_ ?_
 ·refine qf (jz) (by simp)
 ·intro i hi;exfalso;simp only [Array.getD,qO] at hi;split at hi <;> simp at hi
 ·intro j hj hj2;simp only [Array.getD,qO];split <;> simp
 ·have hs:=start h hles;have hd:R.Inv B w0 (λ _=>false) a w.drew:=⟨hs.lo,hs.defers.grow (Grow.drew w) rfl,hs.size,hs.base.drew,λ x hx h1 h2=>x.2.grow _ _ _ _ (Grow.drew w) (hs.g x hx h1 h2),(λ i y d A _ _ hf=>by cases hf),(λ i d b k c _ hf=>by cases hf),
   λ e he A hA=>(hs.c e he A hA).grow (Grow.drew w),hs.x⟩
  refine Inv.congr hd λ k=>?_;simp only [Array.getD,qO];split <;> simp
open Rg in
theorem Rg.linKF (hnd:fM R.ops=true)(hQ0:¬ LetsOut Q)(hsz:R.ops.size=n+m)(hanc:R.anc=λ i=>List.range i)(hk:R.chk=true)(h:St B w0 R.N R.Γ Λ a w)(hles:∀ e∈R.les,e.cr=none→(⟨e.s,e.T,e.H,e.A0⟩:Lc)∈Λ)
  (hob:∀ i,i<n→R.Ob P Q B w0 i) (hQ:∀ a w,R.Inv B w0 (λ k=>decide (k<n)) a w→wpOpsIn (fw o) 0 P R.ops Q (List.range' n m) a w):(Code.region id R.ops false).wpIn (fw o) 0 P Q a w:=by
 refine wpIn_region ?_;have key:∀ q k,k+q=n→∀ a w,R.Inv B w0 (λ j=>decide (j<k)) a w→wpOpsIn (fw o) 0 P R.ops Q (List.range' k (q+m)) a w:=by
  intro q
  induction q with
  | zero =>
   intro k hkm a w hi;have:k=n:=by omega
   subst this;rw [qV];exact hQ a w hi
  | succ q ih =>
   intro k hkm a w hi;rw [show q+1+m=(q+m)+1 by omega,List.range'_succ,wpOpsIn_cons];refine gW hnd hQ0 (step hk (hob k zo) hi ?_ (by simp) ?_ _ λ a' w' hi'=>ih (k+1) zo a' w' (hi'.congr λ j=>?_))
   ·intro i hi j hj;rw [hanc] at hj;simp at hi hj ⊢;omega
   ·intro j hj;rw [hanc] at hj;simpa using hj
   ·unfold upd;by_cases h1:j=k
    ·subst h1;simp
    ·have h2:(j==k)=false:=by simpa using h1
     rw [h2,xI,qU];omega
 rw [List.range_eq_range',hsz];exact key n 0 zo a w ((start h hles).congr λ j=>by simp)
end
section
variable {P:Program}{Q:Exit→Act→World→Prop}{B N:Nat}{w0:Bs}{Γ:List (Nat × VA)}{Λ:List Lc}{a:Act}{w:World}
theorem eH {o:Yu}{sts:List (Option (Nat × As))}{news:List Le}(src:List Src)(hnd:fM ops=true)(hQ0:¬ LetsOut Q)(h:St B w0 N Γ Λ a w)
  (hob:Obs P Q ⟨ops,N,Γ,bD Λ sts news,sp,λ i=>List.range i⟩ B w0 0 ops.size)
  (hn:news.all (λ e=>e.cr.isSome)=true) (hk:Rg.chk ⟨ops,N,Γ,bD Λ sts news,sp,λ i=>List.range i⟩=true) (hsrc:src.all (okS ⟨ops,N,Γ,bD Λ sts news,sp,λ i=>List.range i⟩)=true)
  (hQ:∀ a w,St B w0 N (src.filterMap (cC ⟨ops,N,Γ,bD Λ sts news,sp,λ i=>List.range i⟩)) ((bD Λ sts news).map λ e=>⟨e.s,e.T,e.H,Rg.last e⟩) a w→Q .normal a w):(Code.region id ops false).wpIn (fw o) 0 P Q a w :=
 Rg.linF (R:=⟨ops,N,Γ,bD Λ sts news,sp,λ i=>List.range i⟩) hnd hQ0 rfl hk h (iz hn) (λ i hi=>hob.all i zo (by simpa using hi)) λ a' w' hf=>hQ a' w' (fp hk hf src hsrc)
theorem Gi {o:Yu}{t:Nat}{b:Bool}{x y:Code}(h:St B w0 N Γ Λ a w)(hm:(t,Bo b)∈Γ)(ht:b=true→x.wpIn (fw o) 0 P Q a w)(hf:b=false→y.wpIn (fw o) 0 P Q a w):(Code.cond (.tmp t) x y).wpIn (fw o) 0 P Q a w :=
 wpIn_cond_split (dS (h.vals _ hm)) ht hf
theorem ly {o:Yu}{t:Nat}{b:Bool}{x y:Code}(J:Ye)(h:St B w0 N Γ Λ a w)(hm:(t,Bo b)∈Γ)
  (ht:b=true→x.wpIn (fw o) 0 P (Exit.then J Q) a w) (hf:b=false→y.wpIn (fw o) 0 P (Exit.then J Q) a w) (hk:∀ a w,J a w→Q .normal a w):(Code.cond (.tmp t) x y).wpIn (fw o) 0 P Q a w:=by
 have hJ:∀ {z:Code},z.wpIn (fw o) 0 P (Exit.then J Q) a w→z.wpIn (fw o) 0 P Q a w:=λ hz=>wpIn_mono hz λ e a' w' hq=>by
  cases e with
  | normal=>exact hk a' w' hq
  | _=>exact hq
 exact Gi h hm (λ hb=>hJ (ht hb)) (λ hb=>hJ (hf hb))
end
theorem Cn.introR {f:Yn}{c:Code}{pre pre':Yc}{post post0:VA}(hf:P.funcs[f]?=some fn)(hb:fn.body=some c)(hn:(fn.name== "runtime.NumGoroutine")=false)(hsz:pre.length≤fn.ntmps)
  (hup:All2 Up pre pre') (hfree:Free post0 post)
  (h:∀ (B:Nat) (w0:Bs) (a:Act),B=w0.w.heap.size→w0.nd=false→St B w0 fn.ntmps (argΓ pre') [] a w0.w→c.wp P (ce P fn (RQ B w0 post0)) a w0.w):Cn P f pre post:=by
 refine ⟨⟨fn,hf,hn,by rw [hb];rfl⟩,λ B w args hB ha=>(cm hf hb (h w.heap.size ⟨w,λ _=>False,false⟩ _ G G ?_)).mono λ _ _ ⟨v,he,hv,hk⟩=>⟨v,he,hfree _ _ _ _ hB hv,hk.grow0⟩⟩;have hl:=ha.length;have hl2:=hup.length;have ha':All2 (λ (A:VA) v=>A.p w.heap.size v w) pre' args:=E3 hup B w hB ha;refine ⟨λ g hg=>hg.resolve_right λ h=>h,DefOk.nil rfl,?_,Kept.refl _,All2.args ha',(λ l hl=>by cases hl),(λ l hl=>by cases hl)⟩;simp only [xi,z8,qO];omega
theorem VA.many {A:VA}{B:Nat}{v:Yo}{w':Yi}:∀ (gs:Ya) {w:Yi},A.p B v w→w'.os=w.os→w'.tape=w.tape→w'.output=w.output→w.heap.size≤w'.heap.size→(∀ k c T fz,w.heap[k]?=some (.cells c T fz)→k ∉ gs→w'.heap[k]?=w.heap[k]?)→(∀ g∈gs,B≤g∧∃ c T fz,w.heap[g]?=some (.cells c T fz)∧T ∉ A.deps)→A.p B v w'
 | [],w,hp,h1,h2,h3,h4,h5,_=>A.cg _ _ _ _ ⟨h4,λ g c T fz hg=>(h5 g c T fz hg (by simp)).trans hg⟩ hp
 | g::gs,w,hp,h1,h2,h3,h4,h5,h6=>by
  by_cases hg:g∈gs
  ·exact VA.many gs hp h1 h2 h3 h4 (λ k c T fz hk hn=>h5 k c T fz hk (by simp only [qr,not_or];exact ⟨λ e=>hn (by rw [e];exact hg),hn⟩)) (λ g' hg'=>h6 g' (zr _ hg'))
  ·obtain ⟨hB,c,T,fz,hc,hT⟩:=h6 g xw;have hlt:g<w.heap.size:=(Array.getElem?_eq_some_iff.1 hc).1;have hx:w'.heap[g]?=some (w'.heap[g]'zo):=Array.getElem?_eq_getElem _;generalize w'.heap[g]'zo=x at hx;have hwr:Wr g w { w with heap:=w.heap.setIfInBounds g x }:=⟨rfl,rfl,rfl,by simp,λ k hk=>by
    show (w.heap.setIfInBounds g x)[k]?=_;rw [Array.getElem?_setIfInBounds_ne (λ e=>hk e.symm)]⟩
   have hsz:(w.heap.setIfInBounds g x).size=w.heap.size:=by simp
   refine VA.many gs (w:={ w with heap:=w.heap.setIfInBounds g x }) (A.wr _ _ _ _ _ _ _ _ hc hT hB hwr hp) h1 h2 h3 (by rw [hsz];exact h4) (λ k c' T' fz' hk hn=>?_) (λ g' hg'=>?_)
   ·show _=(w.heap.setIfInBounds g x)[k]?
    replace hk:(w.heap.setIfInBounds g x)[k]?=some (.cells c' T' fz'):=hk
    by_cases e:k=g
    ·subst e;rw [Array.getElem?_setIfInBounds_self_of_lt hlt];exact hx
    ·rw [Array.getElem?_setIfInBounds_ne (λ e'=>e e'.symm)] at hk ⊢;exact h5 k c' T' fz' hk (by simp only [qr,not_or];exact ⟨e,hn⟩)
   ·obtain ⟨hB',c',T',fz',hc',hT'⟩:=h6 g' (zr _ hg');refine ⟨hB',c',T',fz',?_,hT'⟩;show (w.heap.setIfInBounds g x)[g']?=_;rw [Array.getElem?_setIfInBounds_ne (show g≠g' from λ e=>hg (by rw [e];exact hg'))];exact hc'
def rndB (b:Nat)(D:List TypeId)(gs:List Nat)(Ws W:World):Bs:=⟨W,λ k=>b≤k∧(Ws.heap.size≤k∨(k ∉ gs∧∃ c T fz,Ws.heap[k]?=some (.cells c T fz)∧T∈D)),false⟩
abbrev Stp (b:Nat)(D:List TypeId)(gs:List Nat)(W W':World):Prop:=Kept (rndB b D gs W W) W'
theorem Stp.noncell (h:Stp b D gs W W'){o:Obj}(hk:W.heap[k]?=some o)(ho:o.isCells=false):W'.heap[k]?=some o :=
 (h.block k (Array.getElem?_eq_some_iff.1 hk).1 (λ hF=>by
  rcases hF.2 with h1|⟨_,c,T,fz,hc,_⟩
  ·have:=(Array.getElem?_eq_some_iff.1 hk).1;omega
  ·have hc':W.heap[k]?=_:=hc;rw [hc'] at hk;injection hk with hk;subst hk;cases ho)).trans hk
theorem Stp.held (h:Stp b D gs W W'){o:Obj}(hk:W.heap[k]?=some o)(hg:k∈gs):W'.heap[k]?=some o :=
 (h.block k (Array.getElem?_eq_some_iff.1 hk).1 (λ hF=>by
  rcases hF.2 with h1|⟨h1,_⟩
  ·have:=(Array.getElem?_eq_some_iff.1 hk).1;omega
  ·exact h1 hg)).trans hk
theorem VA.stp {A:VA}(hp:A.p B v W)(h:Stp b D gs W W')(hb:B≤b)(hD:∀ T∈D,T ∉ A.deps):A.p B v W':=by
 refine VA.many ((List.range W.heap.size).filter λ k=>match W.heap[k]? with|some (.cells _ T _)=>D.contains T&&decide (b≤k) | _=>false) hp h.os h.tape h.output h.size (λ k c T fz hk hn=>?_) (λ g hg=>?_)
 ·refine h.block k (Array.getElem?_eq_some_iff.1 hk).1 λ hF=>hn (z5.2 ⟨by simpa using (Array.getElem?_eq_some_iff.1 hk).1,?_⟩);rcases hF.2 with h1|⟨_,c',T',fz',hc,hD'⟩
  ·have:=(Array.getElem?_eq_some_iff.1 hk).1;omega
  ·have hc':W.heap[k]?=_:=hc;rw [hc'] at hk;injection hk with hk;injection hk with _ hk _;subst hk;rw [hc'];simp only [ql,qB,qI];exact ⟨hD',hF.1⟩
 ·obtain ⟨_,h2⟩:=z5.1 hg;split at h2
  ·rename_i c T fz hc;simp only [ql,qB,qI] at h2;exact ⟨qf hb h2.2,c,T,fz,hc,hD T h2.1⟩
  ·cases h2
def As.vaC (A:As)(cs:List Value):VA where
 p B _ w:=A.p B cs w
 deps:=A.deps
 cg:=λ B _ w w' h hp=>A.cg B cs w w' h hp
 wr:=λ B _ w w' g c T fz h1 h2 h3 h4 hp=>A.wr B cs w w' g c T fz h1 h2 h3 h4 hp
theorem As.stp {A:As}{B b:Nat}{cs:Ym}{D:Yq}{gs:Ya}{W W':Yi}(hp:A.p B cs W)(h:Stp b D gs W W')(hb:B≤b)(hD:∀ T∈D,T ∉ A.deps):A.p B cs W':=VA.stp (A:=As.vaC A cs) (v:=undef) hp h hb hD
def offD (D:List TypeId)(deps:List TypeId):Bool:=deps.all λ T => !D.contains T
theorem fL {D deps:Yq}(h:offD D deps=true):∀ T∈D,T ∉ deps:=λ T hT hd=>by
 have:=qe.1 h T hd;simp only [qy,qB,qm] at this;exact this hT
def CellsT (Tc:List TypeId)(gs:List Nat)(W:World):Prop:=∀ g∈gs,∃ c T fz,W.heap[g]?=some (.cells c T fz)∧T∈Tc
abbrev StpI (gs:List Nat)(W W':World):Prop:=Kept ⟨W,λ k=>k∈gs,true⟩ W'
theorem VA.stpI {A:VA}{Tc:Yq}(hp:A.p B v W)(h:StpI gs W W')(hc:CellsT Tc gs W)(hb:∀ g∈gs,B≤g)(hD:∀ T∈Tc,T ∉ A.deps):A.p B v W' :=
 VA.many gs hp h.os h.tape h.output h.size (λ k c T fz hk hn=>h.block k (Array.getElem?_eq_some_iff.1 hk).1 hn) λ g hg=>by
  obtain ⟨c,T,fz,h1,h2⟩:=hc g hg;exact ⟨hb g hg,c,T,fz,h1,hD T h2⟩
theorem As.stpI {A:As}{B:Nat}{cs:Ym}{gs:Ya}{Tc:Yq}{W W':Yi}(hp:A.p B cs W)(h:StpI gs W W')(hc:CellsT Tc gs W)(hb:∀ g∈gs,B≤g)(hD:∀ T∈Tc,T ∉ A.deps):A.p B cs W':=VA.stpI (A:=As.vaC A cs) (v:=undef) hp h hc hb hD
theorem StpI.noncell {Tc:Yq}(h:StpI gs W W')(hc:CellsT Tc gs W){o:Obj}(hk:W.heap[k]?=some o)(ho:o.isCells=false):W'.heap[k]?=some o :=
 (h.block k (Array.getElem?_eq_some_iff.1 hk).1 (λ hF=>by
  obtain ⟨c,T,fz,h1,_⟩:=hc k hF;rw [h1] at hk;injection hk with hk;subst hk;cases ho)).trans hk
theorem St.stpI {B N:Nat}{w0:Bs}{Γ:Yf}{Λ:Yk}{a:Act}{W W':Yi}{gs:Ya}{Tc:Yq}(h:St B w0 N Γ Λ a W)(hB:B=w0.w.heap.size)(hs:StpI gs W W')(hc:CellsT Tc gs W)(hb:∀ g∈gs,B≤g)(hΓ:Γ.all (λ x=>offD Tc x.2.deps)=true)(hΛ:Λ.all (λ l=>offD Tc l.A.deps)=true)
  (hdis:∀ l∈Λ,∀ g,blk (a.eval (.tmp l.s))=some g→g ∉ gs):St B w0 N Γ Λ a W':=by
 refine ⟨h.lo,h.defers.keep rfl λ Dm hD=>hs.noncell hc hD rfl,h.size,⟨hs.os.trans h.base.os,hs.tape.trans h.base.tape,hs.output.trans h.base.output,qf h.base.size hs.size,λ k hk hf=>(hs.block k (qD hk h.base.size) (λ hF=>by have:=hb k hF;omega)).trans (h.base.block k hk hf)⟩,
  λ x hx=>VA.stpI (h.vals x hx) hs hc hb (fL (qe.1 hΓ x hx)),λ l hl=>?_,h.dis⟩
 obtain ⟨g,cs,e1,e2,e3,e4⟩:=h.locs l hl;exact ⟨g,cs,e1,e2,(hs.block g (Array.getElem?_eq_some_iff.1 e3).1 (hdis l hl g (by rw [e1];exact l.H.ok g))).trans e3,As.stpI e4 hs hc hb (fL (qe.1 hΛ l hl))⟩
theorem St.put {r:Nat}{o o':Obj}(h:St B w0 N Γ Λ a W)(hr:W.heap[r]?=some o)(ho:o.isCells=false)(hd:o≠.deferred (some []))(hge:w0.w.heap.size≤r):St B w0 N Γ Λ a (W.putObj r o'):=by
 have hc:Cg W (W.putObj r o'):=⟨by simp,λ g c T fz hg=>(World.putObj_heap_other (λ e=>by subst e;rw [hg] at hr;injection hr with hr;subst hr;cases ho)).trans hg⟩;refine ⟨h.lo,h.defers.keep rfl λ Dm hD=>(World.putObj_heap_other (λ e=>by subst e;rw [hD] at hr;injection hr with hr;exact hd hr.symm)).trans hD,h.size,⟨h.base.os,h.base.tape,h.base.output,by simpa using h.base.size,λ k hk hf=>(World.putObj_heap_other zo).trans (h.base.block k hk hf)⟩,
  λ x hx=>x.2.cg _ _ _ _ hc (h.vals x hx),λ l hl=>?_,h.dis⟩
 obtain ⟨g,cs,e1,e2,e3,e4⟩:=h.locs l hl;exact ⟨g,cs,e1,e2,hc.heap e3,l.A.cg _ _ _ _ hc e4⟩
def ol (B:Nat)(w:World)(caps:List (TypeId × As))(gs:List Nat):Prop:=All2 (λ (c:TypeId × As) (g:Nat)=>B≤g∧∃ cs,w.heap[g]?=some (.cells (List.toArray cs) c.1 (0,0))∧c.2.p B cs w) caps gs
structure ItH (P:Program) (l B:Nat) (Db Tc:List TypeId) (gs:List Nat) (Y:Nat→List VA) (inf:Bool) (M:Nat) (J:Nat→World→Prop) (Jx:World→Prop):Prop where
 inf':inf=true→∀ W,¬ J M W
 st:∀ k W W',J k W→StpI gs W W'→CellsT Tc gs W'→J k W'
 stx:∀ W W',Jx W→StpI gs W W'→CellsT Tc gs W'→Jx W'
 ct:∀ k W,J k W→CellsT Tc gs W
 ctx:∀ W,Jx W→CellsT Tc gs W
 yd:∀ k W args,k<M→J k W→All2 (λ (A:VA) v=>A.p B v W) (Y k) args→YieldAt Fence.wide 0 P l args.toArray W λ e W'=>(e=.returned (.bool true)∧J (k+1) W'∧Stp B Db gs W W') ∨
  (e=.returned (.bool false)∧Jx W'∧W.heap.size≤W'.heap.size∧∀ D:Nat,W.heap[D]?=some (.deferred (some []))→W'.heap[D]?=some (.deferred (some [])))
def ItCg (P:Program)(f:FuncId)(caps:List (TypeId × As))(gs:List Nat)(Y:Nat→List VA)(inf:Bool)(M:Nat)(Dd:List TypeId):Prop :=
 (Xx P f) ∧
 ∀ (l B:Nat) (w:World) (Db:List TypeId) (J:Nat→World→Prop) (Jx:World→Prop),B≤w.heap.size→gs.Nodup→ol B w caps gs→offD Db Dd=true→ItH P l B Db (caps.map xc) gs Y inf M J Jx→J 0 w →
  Calls P f (.func (.yield l) #[] #[]::gs.map ptr).toArray w λ e W'=>∃ v,e=.returned v∧(J M W'∨Jx W')
theorem eT {caps:List (Yh × As)}(h:ol B w caps gs):CellsT (caps.map xc) gs w∧∀ g∈gs,B≤g:=by
 induction h with
 | nil=>exact ⟨(λ _ h=>by cases h),(λ _ h=>by cases h)⟩
 | @cons c g cs gs hh _ ih =>
  obtain ⟨hB,ds,h1,_⟩:=hh;refine ⟨λ g' hg=>?_,λ g' hg=>?_⟩
  ·rcases qr.1 hg with rfl|hg
   ·exact ⟨_,_,_,h1,by simp⟩
   ·obtain ⟨c',T,fz,h2,h3⟩:=ih.1 g' hg;exact ⟨c',T,fz,h2,by simp only [qS,qr];exact .inr h3⟩
  ·rcases qr.1 hg with rfl|hg
   ·exact hB
   ·exact ih.2 g' hg
def ItV (f:FuncId)(caps:List (TypeId × As))(gs:List Nat):VA where
 p B v w:=v=.func (.func f) #[] (gs.map ptr).toArray∧gs.Nodup∧ol B w caps gs
 deps:=caps.map xc++caps.flatMap (·.2.deps)
 cg:=by
  rintro B v w w' hg ⟨e,h1,h2⟩;exact ⟨e,h1,h2.mono λ c g ⟨h3,cs,h4,h5⟩=>⟨h3,cs,hg.heap h4,c.2.cg _ _ _ _ hg h5⟩⟩
 wr:=by
  rintro B v w w' g c T fz h1 hT h3 h4 ⟨e,hn,h⟩;refine ⟨e,hn,?_⟩;clear e hn
  induction h with
  | nil=>exact .nil
  | @cons x y xs ys hh _ ih =>
   simp only [qS,xh,qo,qr,not_or] at hT;obtain ⟨hB,cs,h5,h6⟩:=hh;refine .cons ⟨hB,cs,?_,x.2.wr _ _ _ _ _ _ _ _ h1 hT.2.1 h3 h4 h6⟩ (ih ?_)
   ·rw [h4.block y (λ e=>by subst e;rw [h1] at h5;injection h5 with h5;injection h5 with _ h5 _;exact hT.1.1 h5)];exact h5
   ·simp only [qo,not_or];exact ⟨hT.1.2,hT.2.2⟩
def REnd (B N:Nat)(w1:Bs)(a:Act)(Λ:List Lc)(a':Act)(W:World):Prop:=∃ Γ,St B w1 N Γ Λ a' W∧∀ l∈Λ,a'.eval (.tmp l.s)=a.eval (.tmp l.s)
def PS (B N:Nat)(w1:Bs)(a:Act)(c:Prop)(Λn:List Lc)(Λr:Option (List Lc))(Λx:Nat→Option (List Lc)):Exit→Act→World→Prop
 | .normal,a',W=>c∧REnd B N w1 a Λn a' W
 | .ret,a',W=>∃ Λ,Λr=some Λ∧REnd B N w1 a Λ a' W
 | .exit id,a',W=>∃ Λ,Λx id=some Λ∧REnd B N w1 a Λ a' W
 | _,_,_=>False
def Bg (l:Nat)(W W':World):Prop:=∃ r r':Loop,W.heap[l]?=some (.loop r)∧W'=W.putObj l (.loop r')
theorem Cp {l:Nat}{r:Loop}(hr:W.heap[l]?=some (.loop r))(o:Obj):Cg W (W.putObj l o):=⟨by simp,λ g c T fz hg=>(World.putObj_heap_other (λ e=>by subst e;rw [hg] at hr;cases hr)).trans hg⟩
theorem St.begin {Ws W0:Yi}{l:Nat}(h:St B (rndB B D gs Ws W0) N Γ Λ a W)(hs:Ws.heap.size≤W0.heap.size)(hlo:B≤Ws.heap.size)(hb:Bg l W W'):St B (rndB B D gs Ws W') N Γ Λ a W':=by
 obtain ⟨r,r',hr,rfl⟩:=hb;have hc:=Cp hr (.loop r');have hmay:∀ g,(rndB B D gs Ws W0).may g→(rndB B D gs Ws (W.putObj l (.loop r'))).may g:=λ g hg=>by
  rcases hg with hg|hg
  ·have hg':W0.heap.size≤g:=hg;exact .inr ⟨by omega,.inl zo⟩
  ·exact .inr hg
 refine ⟨λ g hg=>?_,⟨λ d hd=>?_,h.defers.nodup,λ hn=>by cases hn⟩,h.size,Kept.refl _,λ x hx=>x.2.cg _ _ _ _ hc (h.vals x hx),λ m hm=>?_,h.dis⟩
 ·rcases hg with hg|hg
  ·have h1:W0.heap.size≤W.heap.size:=h.base.size;have h2:(W.putObj l (.loop r')).heap.size≤g:=hg;simp only [World.putObj_size] at h2;omega
  ·exact hg.1
 ·obtain ⟨Dm,e1,e2,e3⟩:=h.defers.all d hd;exact ⟨Dm,e1,hmay Dm e2,(World.putObj_heap_other (λ e=>by subst e;rw [hr] at e3;cases e3)).trans e3⟩
 ·obtain ⟨g,cs,e1,e2,e3,e4⟩:=h.locs m hm;exact ⟨g,cs,e1,hmay g e2,hc.heap e3,m.A.cg _ _ _ _ hc e4⟩
theorem B8:∀ (l:List (Nat × Yo)) (t:Array Yo),(l.foldl (λ t x=>t.setIfInBounds x.1 x.2) t).size=t.size∧(∀ s,s ∉ l.map xc→(l.foldl (λ t x=>t.setIfInBounds x.1 x.2) t)[s]?=t[s]?)∧((l.map xc).Nodup→∀ x∈l,x.1<t.size→(l.foldl (λ t x=>t.setIfInBounds x.1 x.2) t)[x.1]?=some x.2)
 | [],t=>⟨rfl,λ _ _=>rfl,λ _ _ h=>by cases h⟩
 | y::l,t=>by
  obtain ⟨h1,h2,h3⟩:=B8 l (t.setIfInBounds y.1 y.2);simp only [List.foldl_cons];refine ⟨by rw [h1];simp,λ s hs=>?_,λ nd x hx hlt=>?_⟩
  ·simp only [qS,qr,not_or] at hs;rw [h2 s hs.2,Array.getElem?_setIfInBounds_ne (λ e=>hs.1 e.symm)]
  ·simp only [qS,jq] at nd;rcases qr.1 hx with rfl|hx
   ·rw [h2 _ nd.1,Array.getElem?_setIfInBounds_self_of_lt hlt]
   ·exact h3 nd.2 x hx (by simpa using hlt)
theorem iN (a:Act)(s:Nat):a.eval (.tmp s)=(a.tmps[s]?).getD undef:=by simp [Act.eval]
section
variable {P:Program}{Q:Exit→Act→World→Prop}{B N:Nat}{w0:Bs}{Γ:List (Nat × VA)}{a:Act}{w:World}
end
theorem fx {anc:List (Ya)}(h:(List.range m).all (λ q=>(List.range (n+q)).all λ j=>(anc.getD (n+q) []).contains j)=true):∀ i,n≤i→i<n+m→∀ j,j<i→(anc.getD i []).contains j=true:=λ i h1 h2 j hj=>by
 have:=qe.1 (qe.1 h (i-n) (by simp;omega)) j (by simp;omega);rwa [show n+(i-n)=i by omega] at this
theorem tM {f:Yn}{c:Code}{args:Array Yo}{R:Ending→Yi→Prop}(hf:P.funcs[f]?=some fn)(hb:fn.body=some c)
  (h:c.wpIn (fw none) 0 P (ce P fn R) { tmps:=args++Array.replicate (fn.ntmps-args.size) undef,defers:=[] } w):Calls P f args w R :=
 cm hf hb (wpIn_wide.1 h)
def itB (gs:List Nat)(w:World):Bs:=⟨w,λ k=>k∈gs,true⟩
def OG (caps:List (TypeId × As)):List Lc:=caps.zipIdx.map λ x=>⟨x.2+1,x.1.1,ptrH,x.1.2⟩
def QY (gs:List Nat)(n:Nat):List (Nat × VA):=(List.range n).map λ i=>(i+1,EqV (ptr (gs.getD i 0)))
structure ItG (B:Nat) (gs:List Nat) (Tc:List TypeId) (J:Nat→World→Prop) (k:Nat) (w0:Bs):Prop where
 eq:w0=itB gs w0.w
 j:J k w0.w
 ge:∀ g∈gs,B≤g
theorem uE {α:Type}:∀ {l:List α},l.Nodup→∀ {i j:Nat}{x:α},l[i]?=some x→l[j]?=some x→i=j
 | [],_,_,_,_,h,_=>by cases h
 | y::l,nd,i,j,x,hi,hj=>by
  obtain ⟨n1,n2⟩:=jq.1 nd;cases i with
  | zero=>cases j with
   | zero=>rfl
   | succ j =>
    have e1:y=x:=by simpa using hi
    have e2:l[j]?=some x:=by simpa using hj
    exact absurd (qa e2) (by rw [← e1];exact n1)
  | succ i=>cases j with
   | zero =>
    have e1:y=x:=by simpa using hj
    have e2:l[i]?=some x:=by simpa using hi
    exact absurd (qa e2) (by rw [← e1];exact n1)
   | succ j=>rw [uE n2 (i:=i) (j:=j) (x:=x) (by simpa using hi) (by simpa using hj)]
theorem ItCg.intro {f:Yn}{c:Code}{caps:List (Yh × As)}{Y:Nat→Yc}{inf:Bool}{M:Nat}{Dd:Yq}(hf:P.funcs[f]?=some fn)(hb:fn.body=some c)(hn:(fn.name== "runtime.NumGoroutine")=false)(hsz:caps.length+1≤fn.ntmps)
  (h:∀ (l B:Nat) (Db:List TypeId) (J:Nat→World→Prop) (Jx:World→Prop) (w0:Bs) (a:Act),gs.length=caps.length→offD Db Dd=true→ItH P l B Db (caps.map xc) gs Y inf M J Jx→ItG B gs (caps.map xc) J 0 w0 →
   St B w0 fn.ntmps ((0,EqV (.func (.yield l) #[] #[]))::QY gs caps.length) (OG caps) a w0.w→c.wpIn (fw none) 0 P (ce P fn (λ e W'=>∃ v,e=.returned v∧(J M W'∨Jx W'))) a w0.w):ItCg P f caps gs Y inf M Dd:=by
 refine ⟨⟨fn,hf,hn,by rw [hb];rfl⟩,λ l B w Db J Jx hB hgn hcaps hoff hI hJ=>tM hf hb (h l B Db J Jx (itB gs w) _ hcaps.length.symm hoff hI ⟨rfl,hJ,(eT hcaps).2⟩ ?_)⟩;have hlen:=hcaps.length;have hev:∀ i (hi:i<gs.length),({ tmps:=(Value.func (.yield l) #[] #[]::gs.map ptr).toArray++Array.replicate (fn.ntmps-(Value.func (.yield l) #[] #[]::gs.map ptr).toArray.size) undef,defers:=[] }:Act).eval (.tmp (i+1))=ptr (gs.getD i 0):=λ i hi=>by
  rw [iN];have h1:(((Value.func (.yield l) #[] #[]::gs.map ptr).toArray++Array.replicate (fn.ntmps-(Value.func (.yield l) #[] #[]::gs.map ptr).toArray.size) undef:Array Value)[i+1]?)=some (ptr (gs.getD i 0)):=by
   rw [Array.getElem?_append_left (by simp;omega)];simp [List.getD,hi]
  show ((_:Array Value)[i+1]?).getD undef=_;rw [h1]
  rfl
 have hat:∀ {i:Nat}{c:TypeId × As},caps[i]?=some c→∃ g,gs[i]?=some g∧g∈gs∧B≤g∧∃ cs,w.heap[g]?=some (.cells (List.toArray cs) c.1 (0,0))∧c.2.p B cs w:=λ {i c} hc=>by
  obtain ⟨g,h1,h2⟩:=hcaps.get hc;exact ⟨g,h1,qa h1,h2⟩
 have hΛ:∀ m∈OG caps,∃ i c g,caps[i]?=some c∧gs[i]?=some g∧m=⟨i+1,c.1,ptrH,c.2⟩:=λ m hm=>by
  obtain ⟨x,hx,rfl⟩:=qq.1 hm;have hx':=zj.1 hx;obtain ⟨g,h1,_⟩:=hat hx';exact ⟨x.2,x.1,g,hx',h1,rfl⟩
 have hev':∀ {i g:Nat},gs[i]?=some g→({ tmps:=(Value.func (.yield l) #[] #[]::gs.map ptr).toArray++Array.replicate (fn.ntmps-(Value.func (.yield l) #[] #[]::gs.map ptr).toArray.size) undef,defers:=[] }:Act).eval (.tmp (i+1))=ptr g:=λ {i g} hg=>by
  rw [hev i (List.getElem?_eq_some_iff.1 hg).1];simp [List.getD,hg]
 refine ⟨λ g hg=>?_,DefOk.nil rfl,?_,Kept.refl _,λ x hx=>?_,λ m hm=>?_,λ m hm m' hm' hne=>?_⟩
 ·rcases hg with hg|hg
  ·exact qf hB hg
  ·exact (eT hcaps).2 g hg
 ·simp only [xi,z8,qO,zf,qc];omega
 ·rcases qr.1 hx with rfl|hx
  ·show _=_;rw [iN];show ((_:Array Value)[0]?).getD undef=_;rw [Array.getElem?_append_left (by simp)];simp
  ·obtain ⟨i,hi,rfl⟩:=qq.1 hx;exact hev i (by rw [← hlen];simpa using hi)
 ·obtain ⟨i,c,g,h1,h2,rfl⟩:=hΛ m hm;obtain ⟨g',h3,h4,_,cs,h5,h6⟩:=hat h1;rw [h2] at h3;injection h3 with h3;subst h3;exact ⟨g,cs,hev' h2,.inr h4,h5,h6⟩
 ·obtain ⟨i,c,g,h1,h2,rfl⟩:=hΛ m hm;obtain ⟨j,c',g',h3,h4,rfl⟩:=hΛ m' hm';show blk (Act.eval _ (.tmp (i+1)))≠blk (Act.eval _ (.tmp (j+1)));rw [hev' h2,hev' h4];intro e;have e':g=g':=by injection e
  subst e';exact hne (by rw [uE hgn h2 h4])
section
open Rg
variable {P:Program}{Q:Exit→Act→World→Prop}{B N:Nat}{w0:Bs}{Γ:List (Nat × VA)}{Λ:List Lc}{a:Act}{w:World}
theorem Hi {e d:Nat}{T T':Yh}:∀ (a:Act) (w:Yi) (b:Bool),a.eval (.tmp d)=.bool b→(execOp a.eval ⟨some e,.unOp .not T (.tmp d),T',ps,af,none⟩).run P w=.ok (.value (.bool (!b))) w:=λ a w b h=>by
 simp [execOp,h]
 rfl
theorem P6 {e d:Nat}{T':Yh}:∀ (a:Act) (w:Yi) (b:Bool),a.eval (.tmp d)=.bool b→(execOp a.eval ⟨some e,.assign (.tmp d),T',ps,af,none⟩).run P w=.ok (.value (.bool b)) w:=λ a w b h=>by
 simp [execOp,h]
end
def OwnC (E:TypeId)(m:Nat)(D:List TypeId)(l:List As):As where
 n:=1
 ag:=false
 p B cs w:=∃ v,cs=[v]∧(OwnR B E m D l).p B v w
 deps:=E::D
 len:=by rintro B cs w ⟨v,rfl,_⟩;rfl
 one:=by
  rintro B cs w ⟨v,rfl,_,_,ds,_,_,h⟩ c hc;obtain rfl:=qn.1 hc;rcases h with ⟨rfl,_⟩|⟨g,cap,cur,rfl,_⟩ <;> rfl
 ag1:=λ _=>rfl
 cg:=by
  rintro B cs w w' hg ⟨v,rfl,h⟩;exact ⟨v,rfl,(OwnR B E m D l).cg _ _ _ _ hg h⟩
 wr:=by
  rintro B cs w w' g c T fz h1 h2 h3 h4 ⟨v,rfl,h⟩;exact ⟨v,rfl,(OwnR B E m D l).wr _ _ _ _ _ _ _ _ h1 h2 h3 h4 h⟩
theorem Na {l:Yb}(h:(OwnC E m D l).va.p B v w):(OwnR B E m D l).p B v w:=by
 obtain ⟨cs,⟨u,rfl,h⟩,hv⟩:=h;have:v=u:=hv;subst this;exact h
theorem JD {l:Yb}:Wk (OwnC E m D l).va (SlA E D l).va:=λ B v w h=>gI B v w (Na h)
def OneC:As where
 n:=1
 ag:=false
 p _ cs _:=∃ v,cs=[v]∧v.oneCell'=true
 deps:=[]
 len:=by rintro B cs w ⟨v,rfl,_⟩;rfl
 one:=by
  rintro B cs w ⟨v,rfl,h⟩ c hc;obtain rfl:=qn.1 hc;exact h
 ag1:=λ _=>rfl
 cg:=λ _ _ _ _ _ h=>h
 wr:=λ _ _ _ _ _ _ _ _ _ _ _ _ h=>h
def fC (w0:Bs)(B:Nat)(E:TypeId):Prop:=∀ (w:World) (g:Nat) (c:Array Value) (fz:Nat × Nat),Kept w0 w→B≤g→w.heap[g]?=some (.cells c E fz)→w0.may g
theorem EQ (h:B=w0.w.heap.size):fC w0 B E:=λ _ g _ _ _ hg _=>.inl zo
section
open Rg
variable {P:Program}{Q:Exit→Act→World→Prop}{B N:Nat}{w0:Bs}{Γ:List (Nat × VA)}{Λ:List Lc}{a:Act}{w:World}
def lesS (Λ:List Lc)(e j:Nat)(A:As):List Le:=Λ.zipIdx.map λ x=>⟨x.1.s,x.1.T,x.1.H,none,x.1.A,if x.2=e then some (j,A) else none⟩
theorem ek {e j:Nat}:∀ y∈lesS Λ e j A,y.cr=none∧(⟨y.s,y.T,y.H,y.A0⟩:Lc)∈Λ∧∀ i B,y.st=some (i,B)→i=j:=λ y hy=>by
 obtain ⟨x,hx,rfl⟩:=qq.1 hy;refine ⟨rfl,qa (zj.1 hx),λ i B h=>?_⟩;simp only at h;split at h
 ·injection h with h;injection h with h _;exact h.symm
 ·cases h
end
def EqIx (Γ:List (Nat × VA))(a:Act):List Lc→List Nat→Prop
 | [],[]=>True
 | l::ls,i::ix=>Γ[i]?=some (l.s,EqV (a.eval (.tmp l.s)))∧EqIx Γ a ls ix
 | _,_=>False
theorem oJ {w1:Bs}{a a':Act}(ix:Ya)(h:St B w1 N Γ Λ a' W)(he:EqIx Γ a Λ ix):REnd B N w1 a Λ a' W:=by
 refine ⟨Γ,h,?_⟩;have key:∀ (L:List Lc) (ix:List Nat),EqIx Γ a L ix→∀ l∈L,a'.eval (.tmp l.s)=a.eval (.tmp l.s):=by
  intro L
  induction L with
  | nil=>intro _ _ l hl;cases hl
  | cons m L ih =>
   intro ix hx l hl;cases ix with
   | nil=>exact hx.elim
   | cons i ix =>
    obtain ⟨h1,h2⟩:=hx;rcases qr.1 hl with rfl|hl
    ·exact h.vals _ (qa h1)
    ·exact ih ix h2 l hl
 exact key Λ ix he
section
open Rg
variable {P:Program}{Q:Exit→Act→World→Prop}{B N:Nat}{w0:Bs}{Γ:List (Nat × VA)}{Λ:List Lc}{a:Act}{w:World}
theorem Nf {o:Yu}{i d x:Nat}{T ty T1 T2:Yh}{ps1 ps2:Yw}{af1 af2:Yx}{rest:Ya}(kx:Nat)(src:Ya)
  (ho1:ops[i]?=some ⟨some d,.alloc T,T1,ps1,af1,none⟩) (ho2:ops[i+1]?=some ⟨none,.store ty (.tmp d) (.tmp x),T2,ps2,af2,none⟩) (hnd:fM ops=true) (hQ0:¬ LetsOut Q)
  (h:St B w0 N Γ Λ a w) (hz:Zero P T A0) (hx:Γ[kx]?=some (x,A.va)) (ht:Ty P ty A.n A.ag) (hn:A0.n=A.n) (hd:d<N) (hdx:(d != x)=true)
  (hsrc:src.all (λ k=>match Γ[k]? with|some y=>y.1 != d|none=>false)=true) (hΛ:Λ.all (λ l=>l.s != d)=true)
  (hK:∀ a' w',St B w0 N (src.filterMap λ k=>Γ[k]?) (Λ++[⟨d,T,ptrH,A⟩]) a' w'→wpOpsIn (fw o) 0 P ops Q rest a' w'):wpOpsIn (fw o) 0 P ops Q (i::(i+1)::rest) a w:=by
 obtain ⟨it,z,z1,z2,z3⟩:=hz;obtain ⟨cs,hp,hv⟩:=h.vals _ (qa hx);have hv':a.eval (.tmp x)=cL A.ag cs:=hv;have l1:=A.len _ _ _ hp;have l0:=A0.len _ _ _ (z3 B w);have hds:d<a.tmps.size:=by rw [h.size];exact hd
 have hdx':x≠d:=λ e=>by subst e;simp at hdx
 have hΛ':∀ l∈Λ,l.s≠d:=λ l hl=>by
  have:=qe.1 hΛ l hl;simpa using this
 obtain ⟨W1,hW1⟩:∃ W1,w.alloc (.cells z.cells T)=W1:=⟨_,rfl⟩;have hg1:Grow w W1:=by rw [← hW1];exact Grow.alloc _ _
 have hnew:W1.heap[w.heap.size]?=some (.cells z.cells T (0,0)):=by rw [← hW1];exact heap_alloc_new w _
 rw [wpOpsIn_cons];refine gW hnd hQ0 (bA (R:=⟨ops,N,Γ,[],[],λ _=>[]⟩) ho1 G (bf (w':=W1) (v:=ptr w.heap.size) ?_ ?_))
 ·rw [← hW1];simp [execOp,Instr.alloc,zeroValue,typeInfo,z1,z2,newVar,newRow,ptr]
 obtain ⟨a1,ha1⟩:∃ a1,a.put (some d) (ptr w.heap.size)=a1:=⟨_,rfl⟩;have ed:a1.eval (.tmp d)=ptr w.heap.size:=by rw [← ha1];exact aM _ _ _ hds
 have eo:∀ t,t≠d→a1.eval (.tmp t)=a.eval (.tmp t):=λ t ht=>by rw [← ha1];exact an _ _ _ _ ht
 have ef:a1.defers=a.defers:=by rw [← ha1];rfl
 have es:a1.tmps.size=N:=by rw [← ha1,size_put];exact h.size
 rw [ha1];have l2:z.cells.size=A0.n:=by simpa using l0
 have hrun:=bW ht W1 w.heap.size 0 T z.cells _ cs (A.cells_shape hp) l1 zo (A.one _ _ _ hp) hnew;rw [zG (by simp;omega)] at hrun;simp only [ki,jG,zX] at hrun;have hW:=Wr.setRow W1 w.heap.size cs.toArray;have hcell:(W1.setRow w.heap.size cs.toArray).heap[w.heap.size]?=some (.cells cs.toArray T (0,0)):=setRow_heap W1 _ _ _ _ _ hnew;have hgr:Grow w (W1.setRow w.heap.size cs.toArray):=Kept.grow0 ((hg1.kept).wr hW (.inl (qi _)));rw [wpOpsIn_cons];refine gW hnd hQ0 ?_;have U:wpOpsIn (fw o) 0 P ops Q rest a1 (W1.setRow w.heap.size cs.toArray):=by
  refine hK _ _ ⟨h.lo,?_,es,h.base.grow hgr,λ y hy=>?_,λ m hm=>?_,λ m hm m' hm' hne=>?_⟩
  ·exact h.defers.grow hgr ef
  ·obtain ⟨k,hk1,hk2⟩:=qR.1 hy;have:=qe.1 hsrc k hk1;rw [hk2] at this;rw [eo _ (by simpa using this)];exact y.2.grow _ _ _ _ hgr (h.vals y (qa hk2))
  ·rcases qo.1 hm with hm|hm
   ·obtain ⟨g,c,q1,q2,q3,q4⟩:=h.locs m hm;exact ⟨g,c,by rw [eo _ (hΛ' m hm)];exact q1,q2,hgr.heap q3,m.A.grow _ _ _ _ hgr q4⟩
   ·obtain rfl:=qn.1 hm;exact ⟨w.heap.size,cs,ed,.inl h.base.size,hcell,A.grow _ _ _ _ hgr hp⟩
  ·have hnm:∀ m∈Λ,∃ g,blk (a1.eval (.tmp m.s))=some g∧g<w.heap.size:=λ m hm=>by
    obtain ⟨g,c,q1,q2,q3,q4⟩:=h.locs m hm;exact ⟨g,by rw [eo _ (hΛ' m hm),q1];exact m.H.ok g,(Array.getElem?_eq_some_iff.1 q3).1⟩
   have hd0:blk (a1.eval (.tmp d))=some w.heap.size:=by rw [ed];rfl
   rcases qo.1 hm with hm|hm <;> rcases qo.1 hm' with hm' | hm'
   ·rw [eo _ (hΛ' m hm),eo _ (hΛ' m' hm')];exact h.dis m hm m' hm' hne
   ·obtain rfl:=qn.1 hm';obtain ⟨g,q1,q2⟩:=hnm m hm;rw [q1,hd0];intro e;injection e with e;omega
   ·obtain rfl:=qn.1 hm;obtain ⟨g,q1,q2⟩:=hnm m' hm';rw [q1,hd0];intro e;injection e with e;omega
   ·obtain rfl:=qn.1 hm;obtain rfl:=qn.1 hm';exact absurd G hne
 unfold wpOp;rw [ho2];have hwant:Region.wanted (⟨none,.store ty (.tmp d) (.tmp x),T2,ps2,af2,none⟩:Oper) (yielded ops a1.tmps)=true:=rfl;simp only [hwant,if_true];refine .inl (wp_skip' (w':=W1.setRow w.heap.size cs.toArray) ?_ U);have e2:a1.eval (.tmp x)=cL A.ag cs:=by rw [eo _ hdx'];exact hv'
 have e1:a1.eval (.tmp d)=.pointer (some ⟨w.heap.size,0,none⟩):=ed;simp [execOp,e1,e2,Instr.storeAt,Instr.sureAddr,hrun]
theorem m8 {o:Yu}{d x:Nat}{T ty T1 T2:Yh}{ps1 ps2:Yw}{af1 af2:Yx}(kx:Nat)(src:Ya)(h:St B w0 N Γ Λ a w)(hsz:ops.size=2)
  (ho1:ops[0]?=some ⟨some d,.alloc T,T1,ps1,af1,none⟩) (ho2:ops[0+1]?=some ⟨none,.store ty (.tmp d) (.tmp x),T2,ps2,af2,none⟩) (hnd:fM ops=true) (hQ0:¬ LetsOut Q)
  (hz:Zero P T A0) (hx:Γ[kx]?=some (x,A.va)) (ht:Ty P ty A.n A.ag) (hn:A0.n=A.n) (hd:d<N) (hdx:(d != x)=true)
  (hsrc:src.all (λ k=>match Γ[k]? with|some y=>y.1 != d|none=>false)=true) (hΛ:Λ.all (λ l=>l.s != d)=true)
  (hQ:∀ a' w',St B w0 N (src.filterMap λ k=>Γ[k]?) (Λ++[⟨d,T,ptrH,A⟩]) a' w'→Q .normal a' w'):(Code.region id ops false).wpIn (fw o) 0 P Q a w:=by
 refine wpIn_region ?_;rw [hsz];exact Nf kx src ho1 ho2 hnd hQ0 h hz hx ht hn hd hdx hsrc hΛ λ a' w' U=>hQ _ _ U
end
section
open Rg
variable {P:Program}{Q:Exit→Act→World→Prop}{B N:Nat}{w0:Bs}{Γ:List (Nat × VA)}{Λ:List Lc}{a:Act}{w:World}
theorem ln {R:Rg}(hles:∀ l'∈Λ,∃ st,(⟨l'.s,l'.T,l'.H,none,l'.A,st⟩:Le)∈R.les)(hles2:∀ y∈R.les,∀ i A,y.st=some (i,A)→n≤i)(hinv:R.Inv B w0 (λ k=>decide (k<n)) a w)(src:List Src)
  (hsrc:src.all (λ s=>match s with | .g k=>(match R.Γ[k]? with|some x=>Rg.outG R x.1|none=>false) | .o i=>decide (i<n))=true):St B w0 R.N (src.filterMap (cC R)) Λ a w:=by
 have hcl:∀ deps,Rg.clash R (λ k=>decide (k<n)) deps=false:=λ deps=>by
  unfold Rg.clash;rw [xu];intro y hy;cases U:y.st with
  | none=>simp
  | some x =>
   obtain ⟨i,B'⟩:=x;have:=hles2 y hy i B' U;have hno:¬ i<n:=by omega
   simp [hno]
 have hcur:∀ y∈R.les,y.cr=none→Rg.cur (λ k=>decide (k<n)) y=some y.A0:=λ y hy h0=>by
  unfold Rg.cur;rw [h0];simp only [Rg.crOk,if_true];cases U:y.st with
  | none=>rfl
  | some x =>
   obtain ⟨i,B'⟩:=x;have:=hles2 y hy i B' U;have hno:¬ i<n:=by omega
   simp [hno]
 refine ⟨hinv.lo,hinv.defers,hinv.size,hinv.base,λ x hx=>?_,λ l' hl'=>?_,λ l1 h1 l2 h2 hne=>?_⟩
 rotate_left
 ·obtain ⟨st,hy⟩:=hles l' hl';exact hinv.c _ hy l'.A (hcur _ hy G)
 ·obtain ⟨s1,hy1⟩:=hles l1 h1;obtain ⟨s2,hy2⟩:=hles l2 h2;exact hinv.x _ hy1 _ hy2 hne (by rw [hcur _ hy1 rfl];rfl) (by rw [hcur _ hy2 rfl];rfl)
 obtain ⟨s,hs1,hs2⟩:=qR.1 hx;have ho:=qe.1 hsrc s hs1;cases s with
 | g k =>
  simp only [cC] at hs2;simp only [hs2] at ho;refine hinv.g x (qa hs2) (λ q hq hdq=>?_) (hcl _);cases h2:R.ops[q]? with
  | none=>unfold Rg.dst at hdq;rw [h2] at hdq;cases hdq
  | some v =>
   have:=qe.1 ho q (by simpa using (Array.getElem?_eq_some_iff.1 h2).1);exact absurd hdq (by simpa using this)
 | o i =>
  simp only [cC] at hs2;cases hy:R.sp[i]? with
  | none=>rw [hy] at hs2;cases hs2
  | some y =>
   rw [hy] at hs2;exact hinv.v i y x.1 x.2 hy hs2 ho (hcl _)
theorem EK (w:Yi)(base:Nat)(t ty e:Yh)(i:TypeInfo)(z:Yo)(size bytes:Nat)(ht:P.underlying t=some (.slice e))(hi:P.info? e=some i)(hz:i.zero=some z)
  (hsize:i.size=size) (hby:i.bytes=bytes) (hzs:z.cells.size=size) (hsz:0<size) (v:Value) (n:Nat) (xs:List Value) (hown:w.ownsRow base e size v n xs)
  (a:Addr) (c:Nat) (news:List Value) (hl:news.length=1*size) (hnews:∀ j u,news[j]?=some u→w.cell? (a.add j)=some u) (h1:∀ u∈news,u.oneCell'=true)
  (h63:n+1≤maxLen) (hbytes:(n+1)*bytes≤140737488355328) (hbase:base≤w.heap.size) :
  ∃ v' w',(Builtin.append_ #[t,t] ty #[v,.slice (some a) 1 c]).run P w=.ok v' w'∧w'.ownsRow base e size v' (n+1) (xs++news)∧w.grownBy w' v.ownBlock∧(v'.ownBlock=v.ownBlock∨(v'.ownBlock=some w.heap.size∧w.grownBy w' none)):=by
 obtain ⟨v',w',hr,r1,r2,_,r3⟩:=run_append_own_at (P:=P) w base t ty e i z size bytes ht hi hz hsize hby hzs hsz v n xs hown a 1 c news hl hnews h1 h63 hbytes hbase;refine ⟨v',w',hr,r1,r2,?_⟩;rcases r3 with r3|r3
 ·exact .inl r3
 ·have hcases:=hown.2;rcases hcases with ⟨rfl,_⟩|⟨g,cap,cur,rfl,hbg,hg,hnc,hcm,hcs,htake⟩
  ·exact .inr ⟨r3,r2⟩
  ·by_cases hroom:n+1≤cap
   ·obtain ⟨w2,hr2,_⟩:=run_append_own_spare (P:=P) w base t ty e i size ht hi hsize g n cap xs hown a 1 c news hl hnews h1 hroom;rw [hr2] at hr;injection hr with hr;subst hr;exact .inl rfl
   ·subst hsize;have holds:∀ j u,xs[j]?=some u→w.cell? ((⟨g,0,none⟩:Addr).add j)=some u:=hown.cells (g:=g) rfl;have hr2:=run_append_grow (P:=P) w t ty e i z ht hi hz ⟨g,0,none⟩ n cap xs hown.1 holds a 1 c news hl hnews zo (by unfold maxLen at h63;omega) (growslice_fits zo (by rw [hby];exact hbytes));rw [hr2] at hr;injection hr with hr hr';subst hr';exact .inr ⟨r3,rfl,rfl,rfl,by simp,λ k hk _=>by first|exact Go.heap_alloc_old w.drew _ k hk|exact heap_alloc_old w.drew _ hk⟩
theorem iE (anc:List (Ya))(n m e j:Nat)(A:As)(src:List Src)(hmx:P.follows .mixedOrders=true)
  (h:St B w0 N Γ Λ a w) (hob:Obs P Q ⟨ops,N,Γ,lesS Λ e j A,sp,λ i=>anc.getD i []⟩ B w0 0 n) (hsz:ops.size=n+m) (hm:0<m) (hj:n≤j) (hanc:Rg.ancOk ⟨ops,N,Γ,lesS Λ e j A,sp,λ i=>anc.getD i []⟩=true) (hall:∀ i,n≤i→i<n+m→∀ j,j<i→(anc.getD i []).contains j=true) (hk:Rg.chk ⟨ops,N,Γ,lesS Λ e j A,sp,λ i=>anc.getD i []⟩=true)
  (hsrc:src.all (λ s=>match s with | .g k=>(match Γ[k]? with|some x=>Rg.outG ⟨ops,N,Γ,lesS Λ e j A,sp,λ i=>anc.getD i []⟩ x.1|none=>false) | .o i=>decide (i<n))=true)
  (hQ:∀ a' w',St B w0 N (src.filterMap (cC ⟨ops,N,Γ,lesS Λ e j A,sp,λ i=>anc.getD i []⟩)) Λ a' w'→wpOps P ops Q (List.range' n m) a' w'):(Code.region id ops true).wp P Q a w:=by
 refine Rg.drawK (R:=⟨ops,N,Γ,lesS Λ e j A,sp,λ i=>anc.getD i []⟩) (m:=m) hsz hm hmx hanc hk h (λ y hy _=>?_) (λ i hi=>hob.all i zo zo) (λ i h1 h2 j hj=>hall i h1 h2 j hj) λ a1 w1 hinv=>?_
 ·exact (ek y hy).2.1
 ·exact hQ a1 w1 (ln (λ l' hl'=>by
   obtain ⟨j',hj'⟩:=List.getElem?_of_mem hl';exact ⟨_,qq.2 ⟨(l',j'),zj.2 hj',rfl⟩⟩) (λ y hy i B' h1=>by have:=(ek y hy).2.2 i B' h1;omega) hinv src hsrc)
theorem bS (n m e j:Nat)(A:As)(src:List Src)
  (h:St B w0 N Γ Λ a w) (hob:Obs P Q ⟨ops,N,Γ,lesS Λ e j A,sp,λ i=>List.range i⟩ B w0 0 n) (hsz:ops.size=n+m) (hj:n≤j) (hk:Rg.chk ⟨ops,N,Γ,lesS Λ e j A,sp,λ i=>List.range i⟩=true)
  (hsrc:src.all (λ s=>match s with | .g k=>(match Γ[k]? with|some x=>Rg.outG ⟨ops,N,Γ,lesS Λ e j A,sp,λ i=>List.range i⟩ x.1|none=>false) | .o i=>decide (i<n))=true)
  (hQ:∀ a' w',St B w0 N (src.filterMap (cC ⟨ops,N,Γ,lesS Λ e j A,sp,λ i=>List.range i⟩)) Λ a' w'→wpOps P ops Q (List.range' n m) a' w'):(Code.region id ops false).wp P Q a w:=by
 refine Rg.linK (R:=⟨ops,N,Γ,lesS Λ e j A,sp,λ i=>List.range i⟩) (m:=m) hsz G hk h (λ y hy _=>?_) (λ i hi=>hob.all i zo zo) λ a1 w1 hinv=>?_
 ·exact (ek y hy).2.1
 ·exact hQ a1 w1 (ln (λ l' hl'=>by
   obtain ⟨j',hj'⟩:=List.getElem?_of_mem hl';exact ⟨_,qq.2 ⟨(l',j'),zj.2 hj',rfl⟩⟩) (λ y hy i B' h1=>by have:=(ek y hy).2.2 i B' h1;omega) hinv src hsrc)
theorem St.addV {A:VA}(h:St B w0 N Γ Λ a w)(hd:d<N)(hΓ:Γ.all (λ x=>x.1 != d)=true)(hΛ:Λ.all (λ l=>l.s != d)=true)(hA:A.p B v w):St B w0 N ((d,A)::Γ) Λ (a.put (some d) v) w:=by
 have hdsz:d<a.tmps.size:=by rw [h.size];exact hd
 have hl:∀ l∈Λ,l.s≠d:=λ l hl=>by simpa using qe.1 hΛ l hl
 refine ⟨h.lo,h.defers.keep G λ _ hD=>hD,by rw [size_put];exact h.size,h.base,λ x hx=>?_,λ l hl'=>?_,λ l1 h1 l2 h2 hne=>?_⟩
 ·rcases qr.1 hx with rfl|hx
  ·show A.p B ((a.put (some d) v).eval (.tmp d)) w;rw [aM _ _ _ hdsz];exact hA
  ·have:x.1≠d:=by simpa using qe.1 hΓ x hx
   rw [an _ _ _ _ this];exact h.vals x hx
 ·exact (h.locs l hl').eval (an _ _ _ _ (hl l hl'))
 ·rw [an _ _ _ _ (hl l1 h1),an _ _ _ _ (hl l2 h2)];exact h.dis l1 h1 l2 h2 hne
variable {ops:Array Oper}{i:Nat}{K:Act→World→Prop}
theorem lQ {op:Op}{T':Yh}{A:VA}(ho:ops[i]?=some ⟨some d,op,T',ps,af,none⟩)(h:St B w0 N Γ Λ a w)(hd:d<N)(hΓ:Γ.all (λ x=>x.1 != d)=true)(hΛ:Λ.all (λ l=>l.s != d)=true)
  (hr:(execOp a.eval ⟨some d,op,T',ps,af,none⟩).run P w=.ok (.value v) w) (hA:A.p B v w) (hK:St B w0 N ((d,A)::Γ) Λ (a.put (some d) v) w→K (a.put (some d) v) w):wpOp P ops Q i K a w:=by
 unfold wpOp;simp only [ho,Region.wanted,if_true];exact .inl (bf hr (hK (h.addV hd hΓ hΛ hA)))
theorem mK {d u y:Nat}{T':Yh}{kd:Yp}(ku ky:Nat)(ho:ops[i]?=some ⟨some d,.indexAddr S (.tmp u) (.tmp y),T',ps,af,none⟩)(h:St B w0 N Γ Λ a w)(hS:Sl P S E m)(hm:m≠0)
  (hu:Γ[ku]?=some (u,EqV (.slice (some ⟨g,0,none⟩) n c))) (hy:Γ[ky]?=some (y,(NumA kd k).va)) (hk:k<n) (hd:d<N) (hΓ:Γ.all (λ x=>x.1 != d)=true) (hΛ:Λ.all (λ l=>l.s != d)=true)
  (hK:∀ a',St B w0 N ((d,EqV (.pointer (some ⟨g,k*m,none⟩)))::Γ) Λ a' w→K a' w):wpOp P ops Q i K a w:=by
 have h3:a.eval (.tmp u)=.slice (some ⟨g,0,none⟩) n c:=h.vals _ (qa hu);have e:=bj (h.vals _ (qa hy));obtain ⟨hs1,hs2⟩:=hS;refine lQ (A:=EqV (.pointer (some ⟨g,k*m,none⟩))) ho h hd hΓ hΛ ?_ G (hK _);cases hi:P.info? E with
 | none=>rw [hi] at hs2;simp at hs2
 | some it =>
  rw [hi] at hs2;have hsz:it.size=m:=by simpa using hs2
  by_cases h0:k=0
  ·subst h0;simp [execOp,h3,e,Instr.indexAt,asIntOf,run_underlying hs1,hk,sizeOf,typeInfo,hi,Addr.add]
  ·have:k*m≠0:=Nat.mul_ne_zero h0 hm;simp [execOp,h3,e,Instr.indexAt,asIntOf,run_underlying hs1,hk,sizeOf,typeInfo,hi,hsz,Addr.add,h0,hm]
   try exact this
theorem oR {d u:Nat}{T':Yh}{g o:Nat}(ku:Nat)(ho:ops[i]?=some ⟨some d,.nilCheck (.tmp u),T',ps,af,none⟩)(h:St B w0 N Γ Λ a w)
  (hu:Γ[ku]?=some (u,EqV (.pointer (some ⟨g,o,none⟩)))) (hd:d<N) (hΓ:Γ.all (λ x=>x.1 != d)=true) (hΛ:Λ.all (λ l=>l.s != d)=true)
  (hK:∀ a',St B w0 N ((d,EqV (.pointer (some ⟨g,o,none⟩)))::Γ) Λ a' w→K a' w):wpOp P ops Q i K a w:=by
 have h3:a.eval (.tmp u)=.pointer (some ⟨g,o,none⟩):=h.vals _ (qa hu);exact lQ (A:=EqV (.pointer (some ⟨g,o,none⟩))) ho h hd hΓ hΛ (by simp [execOp,h3]) G (hK _)
theorem fK {d u f k n:Nat}{T T':Yh}{g o:Nat}(ku:Nat)(ho:ops[i]?=some ⟨some d,.fieldAddr T (.tmp u) f,T',ps,af,none⟩)(h:St B w0 N Γ Λ a w)(hf:Fld P T f k n)
  (hu:Γ[ku]?=some (u,EqV (.pointer (some ⟨g,o,none⟩)))) (hd:d<N) (hΓ:Γ.all (λ x=>x.1 != d)=true) (hΛ:Λ.all (λ l=>l.s != d)=true)
  (hK:∀ a',St B w0 N ((d,EqV (.pointer (some ⟨g,o+k,none⟩)))::Γ) Λ a' w→K a' w):wpOp P ops Q i K a w:=by
 have h3:a.eval (.tmp u)=.pointer (some ⟨g,o,none⟩):=h.vals _ (qa hu);exact lQ (A:=EqV (.pointer (some ⟨g,o+k,none⟩))) ho h hd hΓ hΛ (by simp [execOp,h3,eh hf]) G (hK _)
theorem oS {d u:Nat}{T':Yh}{A:VA}(ku:Nat)(ho:ops[i]?=some ⟨some d,.assign (.tmp u),T',ps,af,none⟩)(h:St B w0 N Γ Λ a w)
  (hu:Γ[ku]?=some (u,A)) (hd:d<N) (hΓ:Γ.all (λ x=>x.1 != d)=true) (hΛ:Λ.all (λ l=>l.s != d)=true)
  (hK:∀ a',St B w0 N ((d,A)::Γ) Λ a' w→K a' w):wpOp P ops Q i K a w :=
 lQ (A:=A) (v:=a.eval (.tmp u)) ho h hd hΓ hΛ (by simp [execOp]) (h.vals _ (qa hu)) (hK _)
theorem St.turnB (hbB:B≤b){E sx:Nat}{row:Yu}(src:Ya)(e:Nat)(h:St B w0 N Γ Λ a w)(hg:w.grownBy w' row)(hr:gF w b E row)(hrm:fC w0 b E)(hl:Λ[e]?=some ⟨sx,T,H,A0⟩)(hTE:(T != E)=true)
  (hsrc:src.all (λ k=>match Γ[k]? with|some y => !y.2.deps.contains E|none=>false)=true) (hΛ:Λ.zipIdx.all (λ x=>x.2==e || (x.1.T != E && !x.1.A.deps.contains E))=true)
  (htr:∀ cs,A0.p B cs w→A1.p B cs w'):St B w0 N (src.filterMap λ k=>Γ[k]?) (Λ.set e ⟨sx,T,H,A1⟩) a w':=by
 have hrow:∀ {g:Nat}{c:Array Value}{T':TypeId}{fz:Nat × Nat},w.heap[g]?=some (.cells c T' fz)→T'≠E→w'.heap[g]?=some (.cells c T' fz):=λ {g c T' fz} hg1 hne =>
  (hg.block g (Array.getElem?_eq_some_iff.1 hg1).1 (λ e5=>by
   obtain ⟨_,c',fz',e6⟩:=hr g e5.symm;rw [hg1] at e6;injection e6 with e6;injection e6 with _ e6 _;exact hne e6)).trans hg1
 refine ⟨h.lo,h.defers.grown hg hr rfl,h.size,⟨hg.os.trans h.base.os,hg.tape.trans h.base.tape,hg.output.trans h.base.output,qf h.base.size hg.size,λ k hk hf=>?_⟩,λ y hy=>?_,λ m' hm'=>?_,λ m1 hm1 m2 hm2 hne=>?_⟩
 ·refine (hg.block k (qD hk h.base.size) (λ e=>?_)).trans (h.base.block k hk hf);obtain ⟨q1,c,fz,q2⟩:=hr k e.symm;rcases hrm w k c fz h.base q1 q2 with q3|q3
  ·omega
  ·exact hf q3
 ·obtain ⟨k,hk1,hk2⟩:=qR.1 hy;have hs:=qe.1 hsrc k hk1;simp only [hk2,qy,qB,qm] at hs;exact VA.grown (h.vals y (qa hk2)) hg hr hbB hs
 ·obtain ⟨j,hj⟩:=List.getElem?_of_mem hm';by_cases e1:j=e
  ·subst e1;have:m'=⟨sx,T,H,A1⟩:=by
    rw [List.getElem?_set_self (List.getElem?_eq_some_iff.1 hl).1] at hj;injection hj with hj;exact hj.symm
   subst this;obtain ⟨g,cs,q1,q2,q3,q4⟩:=h.locs _ (qa hl);exact ⟨g,cs,q1,q2,hrow q3 (by simpa using hTE),htr cs q4⟩
  ·rw [List.getElem?_set_ne (λ e2=>e1 e2.symm)] at hj;have hc:=qe.1 hΛ (m',j) (zj.2 hj);simp only [z4,xv,ql,bne_iff_ne,qy,qB,qm] at hc;have hc':=hc.resolve_left e1;obtain ⟨g,cs,q1,q2,q3,q4⟩:=h.locs m' (qa hj);exact ⟨g,cs,q1,q2,hrow q3 hc'.1,As.grown q4 hg hr hbB hc'.2⟩
 ·have hs:∀ m∈Λ.set e ⟨sx,T,H,A1⟩,∃ m0∈Λ,m0.s=m.s:=λ m hm=>by
   rcases qA hm with hm|rfl
   ·exact ⟨m,hm,rfl⟩
   ·exact ⟨_,qa hl,rfl⟩
  obtain ⟨m3,q1,q2⟩:=hs m1 hm1;obtain ⟨m4,q3,q4⟩:=hs m2 hm2;rw [← q2,← q4] at hne ⊢;exact h.dis m3 q1 m4 q3 hne
theorem St.turn {E sx:Nat}{row:Yu}(src:Ya)(e:Nat)(h:St B w0 N Γ Λ a w)(hg:w.grownBy w' row)(hr:gF w B E row)(hrm:fC w0 B E)(hl:Λ[e]?=some ⟨sx,T,H,A0⟩)(hTE:(T != E)=true)
  (hsrc:src.all (λ k=>match Γ[k]? with|some y => !y.2.deps.contains E|none=>false)=true) (hΛ:Λ.zipIdx.all (λ x=>x.2==e || (x.1.T != E && !x.1.A.deps.contains E))=true)
  (htr:∀ cs,A0.p B cs w→A1.p B cs w'):St B w0 N (src.filterMap λ k=>Γ[k]?) (Λ.set e ⟨sx,T,H,A1⟩) a w':=St.turnB (qi B) src e h hg hr hrm hl hTE hsrc hΛ htr
theorem rW {cs:Array Yo}:w.grownBy (w.setRow g cs) (some g):=⟨rfl,rfl,rfl,by simp,λ k _ hk=>setRow_other w g k cs (λ e=>hk (by rw [e]))⟩
theorem sY {p d g k sx:Nat}{E ty T T':Yh}(src:Ya)(kp kd e:Nat)(ho:ops[i]?=some ⟨none,.store ty (.tmp p) (.tmp d),T',ps,af,none⟩)(h:St B w0 N Γ Λ a w)
  (hp:Γ[kp]?=some (p,EqV (.pointer (some ⟨g,k,none⟩)))) (hd:Γ[kd]?=some (d,EqV v)) (hv1:v.oneCell'=true) (hvc:v.cells = #[v]) (ht:Ty P ty 1 false) (hl:Λ[e]?=some ⟨sx,T,H,A0⟩) (hTE:(T != E)=true) (hrm:fC w0 B E)
  (hsrc:src.all (λ k=>match Γ[k]? with|some y => !y.2.deps.contains E|none=>false)=true) (hΛ:Λ.zipIdx.all (λ x=>x.2==e || (x.1.T != E && !x.1.A.deps.contains E))=true)
  (htr:∀ cs,A0.p B cs w→B≤g∧∃ c:Array Value,w.heap[g]?=some (.cells c E (0,0))∧k<c.size∧A1.p B cs (w.setRow g (c.setIfInBounds k v)))
  (hK:∀ w',St B w0 N (src.filterMap λ k=>Γ[k]?) (Λ.set e ⟨sx,T,H,A1⟩) a w'→K (a.put none undef) w'):wpOp P ops Q i K a w:=by
 have e1:a.eval (.tmp p)=.pointer (some ⟨g,k,none⟩):=h.vals _ (qa hp);have e2:a.eval (.tmp d)=v:=h.vals _ (qa hd);obtain ⟨g0,cs0,q1,q2,q3,q4⟩:=h.locs _ (qa hl);obtain ⟨hB,c,hc,hkc,_⟩:=htr cs0 q4;have hrun:=bW ht w g k E c v [v] hvc rfl zo (by simpa using hv1) hc;have e3:(c.toList.take k++[v]++c.toList.drop (k+1)).toArray=c.setIfInBounds k v:=by
  apply Array.ext';rw [jh,xy,qC (by simpa using hkc)];simp
 rw [e3] at hrun;unfold wpOp;simp only [ho,Region.wanted,if_true];refine .inl (wp_skip' (w':=w.setRow g (c.setIfInBounds k v)) ?_ (hK _ (h.turn src e rW (λ g' e=>?_) hrm hl hTE hsrc hΛ λ cs hp=>?_)))
 ·simp [execOp,e1,e2,Instr.storeAt,Instr.sureAddr,hrun]
 ·injection e with e;subst e;exact ⟨hB,_,_,hc⟩
 ·obtain ⟨_,c',hc',_,h5⟩:=htr cs hp;rw [hc] at hc';injection hc' with hc';injection hc' with hc';subst hc';exact h5
theorem uB (hbB:B≤b)(hb0:b≤w0.w.heap.size){d s u sx:Nat}{S E T1 T:Yh}{X:As}{xs:Ym}{n m bytes:Nat}{D':Yq}{it:TypeInfo}{z:Yo}(A1:Yo→As)(F:Ym→Prop)(src:Ya)(ks ku e:Nat)
  (ho:ops[i]?=some ⟨some d,.call ⟨.builtin .append,#[.tmp s,.tmp u],#[S,S]⟩,T1,ps,af,none⟩) (h:St B w0 N Γ Λ a w)
  (hs:Γ[ks]?=some (s,EqV v)) (hu:Γ[ku]?=some (u,(SlA E D' [X]).va)) (hX:∀ ds,X.p B ds w→F ds) (hXn:X.n=m) (hl:Λ[e]?=some ⟨sx,T,H,A0⟩) (hTE:(T != E)=true) (hrm:fC w0 b E)
  (hS:P.underlying S=some (.slice E)) (hi:P.info? E=some it) (hz:it.zero=some z) (hsz1:it.size=m) (hby:it.bytes=bytes) (hzs:z.cells.size=m) (hm0:0<m) (hn:(n+1)*bytes≤140737488355328) (hn2:n≤1000000000000000)
  (hd:d<N) (hΓ:Γ.all (λ x=>x.1 != d)=true) (hΛd:Λ.all (λ l=>l.s != d)=true)
  (hsrc:src.all (λ k=>match Γ[k]? with|some y => !y.2.deps.contains E|none=>false)=true) (hΛ:Λ.zipIdx.all (λ x=>x.2==e || (x.1.T != E && !x.1.A.deps.contains E))=true)
  (htr:∀ cs,A0.p B cs w→w.ownsRow b E m v n xs∧∀ v' w' ds,F ds→w'.ownsRow b E m v' (n+1) (xs++ds)→w.grownBy w' v.ownBlock→(v'.ownBlock=v.ownBlock∨(v'.ownBlock=some w.heap.size∧w.grownBy w' none))→(A1 v').p B cs w')
  (hK:∀ v' w',St B w0 N ((d,EqV v')::src.filterMap λ k=>Γ[k]?) (Λ.set e ⟨sx,T,H,A1 v'⟩) (a.put (some d) v') w'→K (a.put (some d) v') w'):wpOp P ops Q i K a w:=by
 have e1:a.eval (.tmp s)=v:=h.vals _ (qa hs);obtain ⟨cs1,⟨_,Ad,cap,ds,rfl,_,_,h5,h6⟩,hu'⟩:=h.vals _ (qa hu);have e2:a.eval (.tmp u)=.slice Ad 1 cap:=hu';obtain ⟨g1,o1,rfl,_,_,h8⟩:=h6 (by simp);obtain ⟨g0,cs0,q1,q2,q3,q4⟩:=h.locs _ (qa hl);obtain ⟨hown,hnext⟩:=htr cs0 q4;obtain ⟨ps1,e3,hps⟩:=h5;have hx1:X.p B ds w:=by
  cases hps with
  | cons h1 h2 =>
   cases h2;rw [e3];simpa using h1
 have hdl:ds.length=1*m:=by rw [X.len _ _ _ hx1,hXn,jZ]
 have hBw:b≤w.heap.size:=qf hb0 h.base.size;obtain ⟨v',w',hr,r1,r2,r3⟩:=EK (P:=P) w b S T1 E it z m bytes hS hi hz hsz1 hby hzs hm0 v n xs hown ⟨g1,o1,none⟩ cap ds hdl (λ j u hu=>by rw [Af];exact h8 j u hu) (X.one _ _ _ hx1) (by unfold maxLen;omega) hn hBw;have hro:gF w b E v.ownBlock:=fb hown;have U:=(St.turnB (A1:=A1 v') hbB src e h r2 hro hrm hl hTE hsrc hΛ λ cs hp=>(htr cs hp).2 v' w' ds (hX ds hx1) r1 r2 r3);have hst2:=U.addV (d:=d) (v:=v') (A:=EqV v') hd (qe.2 λ x hx=>by
  obtain ⟨k,hk1,hk2⟩:=qR.1 hx;exact qe.1 hΓ x (qa hk2)) (qe.2 λ l hl'=>by
  rcases qA hl' with hl' | rfl
  ·exact qe.1 hΛd l hl'
  ·exact qe.1 hΛd (⟨sx,T,H,A0⟩:Lc) (qa hl)) rfl
 unfold wpOp;simp only [ho,Region.wanted,if_true];refine .inl (bf (w':=w') (v:=v') ?_ (hK v' w' hst2));simp only [execOp,resolve,invoke,builtin,Sem.run_bind,Sem.run_pure,Result.andThen_ok,kY,qS,jL,e1,e2,hr]
theorem ll {d s u sx:Nat}{S E T1 T:Yh}{X:As}{xs:Ym}{n m bytes:Nat}{D':Yq}{it:TypeInfo}{z:Yo}(A1:Yo→As)(F:Ym→Prop)(src:Ya)(ks ku e:Nat)
  (ho:ops[i]?=some ⟨some d,.call ⟨.builtin .append,#[.tmp s,.tmp u],#[S,S]⟩,T1,ps,af,none⟩) (h:St B w0 N Γ Λ a w)
  (hs:Γ[ks]?=some (s,EqV v)) (hu:Γ[ku]?=some (u,(SlA E D' [X]).va)) (hX:∀ ds,X.p B ds w→F ds) (hXn:X.n=m) (hl:Λ[e]?=some ⟨sx,T,H,A0⟩) (hTE:(T != E)=true) (hrm:fC w0 B E)
  (hS:P.underlying S=some (.slice E)) (hi:P.info? E=some it) (hz:it.zero=some z) (hsz1:it.size=m) (hby:it.bytes=bytes) (hzs:z.cells.size=m) (hm0:0<m) (hn:(n+1)*bytes≤140737488355328) (hn2:n≤1000000000000000)
  (hd:d<N) (hΓ:Γ.all (λ x=>x.1 != d)=true) (hΛd:Λ.all (λ l=>l.s != d)=true)
  (hsrc:src.all (λ k=>match Γ[k]? with|some y => !y.2.deps.contains E|none=>false)=true) (hΛ:Λ.zipIdx.all (λ x=>x.2==e || (x.1.T != E && !x.1.A.deps.contains E))=true)
  (htr:∀ cs,A0.p B cs w→w.ownsRow B E m v n xs∧∀ v' w' ds,F ds→w'.ownsRow B E m v' (n+1) (xs++ds)→w.grownBy w' v.ownBlock→(v'.ownBlock=v.ownBlock∨(v'.ownBlock=some w.heap.size∧w.grownBy w' none))→(A1 v').p B cs w')
  (hK:∀ v' w',St B w0 N ((d,EqV v')::src.filterMap λ k=>Γ[k]?) (Λ.set e ⟨sx,T,H,A1 v'⟩) (a.put (some d) v') w'→K (a.put (some d) v') w'):wpOp P ops Q i K a w:=uB (qi B) (h.lo _ (.inl (qi _))) A1 F src ks ku e ho h hs hu hX hXn hl hTE hrm hS hi hz hsz1 hby hzs hm0 hn hn2 hd hΓ hΛd hsrc hΛ htr hK
theorem gQ {p d g k sx:Nat}{ty T T':Yh}(src:Ya)(kp kd ks e:Nat)(ho:ops[i]?=some ⟨none,.store ty (.tmp p) (.tmp d),T',ps,af,none⟩)(h:St B w0 N Γ Λ a w)
  (hp:Γ[kp]?=some (p,EqV (.pointer (some ⟨g,k,none⟩)))) (hd:Γ[kd]?=some (d,EqV v)) (hs:Γ[ks]?=some (sx,EqV (H.f g))) (hv1:v.oneCell'=true) (hvc:v.cells = #[v]) (ht:Ty P ty 1 false) (hl:Λ[e]?=some ⟨sx,T,H,A0⟩)
  (hsrc:src.all (λ k=>match Γ[k]? with|some y => !y.2.deps.contains T|none=>false)=true) (hΛ:Λ.zipIdx.all (λ x=>x.2==e || (x.1.s != sx && !x.1.A.deps.contains T))=true) (hT:A1.deps.contains T=false)
  (htr:∀ cs,A0.p B cs w→k<cs.length∧A1.p B (cs.set k v) w)
  (hK:∀ w',St B w0 N (src.filterMap λ k=>Γ[k]?) (Λ.set e ⟨sx,T,H,A1⟩) a w'→K (a.put none undef) w'):wpOp P ops Q i K a w:=by
 have e1:a.eval (.tmp p)=.pointer (some ⟨g,k,none⟩):=h.vals _ (qa hp);have e2:a.eval (.tmp d)=v:=h.vals _ (qa hd);have e0:a.eval (.tmp sx)=H.f g:=h.vals _ (qa hs);obtain ⟨g0,cs,q1,q2,q3,q4⟩:=h.locs _ (qa hl);have:g0=g:=by
  have:=qp blk (q1.symm.trans e0);rw [H.ok,H.ok] at this;injection this
 subst this;obtain ⟨hkc,hp1⟩:=htr cs q4;have hrun:=bW ht w g0 k T cs.toArray v [v] hvc rfl (by simp;omega) (by simpa using hv1) q3;have e3:(cs.take k++[v]++cs.drop (k+1))=cs.set k v:=by
  rw [xy,qC hkc];simp
 simp only [e3] at hrun;have hW:=Wr.setRow w g0 (cs.set k v).toArray;have hB:B≤g0:=h.lo g0 q2;have hTn:T ∉ A1.deps:=by simpa using hT
 unfold wpOp;simp only [ho,Region.wanted,if_true];refine .inl (wp_skip' (w':=w.setRow g0 (cs.set k v).toArray) ?_ (hK _ ⟨h.lo,h.defers.keep rfl λ D hD=>(hW.block D (λ e=>by subst e;rw [q3] at hD;cases hD)).trans hD,h.size,h.base.wr hW q2,λ x hx=>?_,λ m hm=>?_,λ m1 hm1 m2 hm2 hne=>?_⟩))
 ·simp [execOp,e1,e2,Instr.storeAt,Instr.sureAddr,hrun]
 ·obtain ⟨k',hk1,hk2⟩:=qR.1 hx;have:=qe.1 hsrc k' hk1;simp only [hk2,qy,qB,qm] at this;exact x.2.wr _ _ _ _ _ _ _ _ q3 this hB hW (h.vals x (qa hk2))
 ·obtain ⟨j,hj⟩:=List.getElem?_of_mem hm;by_cases e5:j=e
  ·subst e5;have:m=⟨sx,T,H,A1⟩:=by
    rw [List.getElem?_set_self (List.getElem?_eq_some_iff.1 hl).1] at hj;injection hj with hj;exact hj.symm
   subst this;exact ⟨g0,cs.set k v,q1,q2,setRow_heap w g0 _ _ _ _ q3,A1.wr _ _ _ _ _ _ _ _ q3 hTn hB hW hp1⟩
  ·rw [List.getElem?_set_ne (λ e2=>e5 e2.symm)] at hj;have hc:=qe.1 hΛ (m,j) (zj.2 hj);simp only [z4,xv,ql,bne_iff_ne,qy,qB,qm] at hc;have hc':=hc.resolve_left e5;obtain ⟨g',cs2,p1,p2,p3,p4⟩:=h.locs m (qa hj);have hne:g'≠g0:=λ hh=>h.dis m (qa hj) _ (qa hl) hc'.1 (by rw [p1,q1,hh,m.H.ok,Hd.ok]);exact ⟨g',cs2,p1,p2,(hW.block g' hne).trans p3,m.A.wr _ _ _ _ _ _ _ _ q3 hc'.2 hB hW p4⟩
 ·have hs:∀ m∈Λ.set e ⟨sx,T,H,A1⟩,∃ m0∈Λ,m0.s=m.s:=λ m hm=>by
   rcases qA hm with hm|rfl
   ·exact ⟨m,hm,rfl⟩
   ·exact ⟨_,qa hl,rfl⟩
  obtain ⟨m3,r1,r2⟩:=hs m1 hm1;obtain ⟨m4,r3,r4⟩:=hs m2 hm2;rw [← r2,← r4] at hne ⊢;exact h.dis m3 r1 m4 r3 hne
end
section
open Rg
variable {P:Program}{Q:Exit→Act→World→Prop}{B N:Nat}{w0:Bs}{Γ:List (Nat × VA)}{Λ:List Lc}{a:Act}{w:World}
theorem fJ {i d x:Nat}{T ty T1 T2:Yh}{ps1 ps2:Yw}{af1 af2:Yx}{rest:Ya}(kx:Nat)(src:Ya)
  (ho1:ops[i]?=some ⟨some d,.alloc T,T1,ps1,af1,none⟩) (ho2:ops[i+1]?=some ⟨none,.store ty (.tmp d) (.tmp x),T2,ps2,af2,none⟩)
  (h:St B w0 N Γ Λ a w) (hz:Zero P T A0) (hx:Γ[kx]?=some (x,A.va)) (ht:Ty P ty A.n A.ag) (hn:A0.n=A.n) (hd:d<N) (hdx:(d != x)=true)
  (hsrc:src.all (λ k=>match Γ[k]? with|some y=>y.1 != d|none=>false)=true) (hΛ:Λ.all (λ l=>l.s != d)=true)
  (hK:∀ a' w',St B w0 N (src.filterMap λ k=>Γ[k]?) (Λ++[⟨d,T,ptrH,A⟩]) a' w'→wpOps P ops Q rest a' w'):wpOps P ops Q (i::(i+1)::rest) a w:=by
 obtain ⟨it,z,z1,z2,z3⟩:=hz;obtain ⟨cs,hp,hv⟩:=h.vals _ (qa hx);have hv':a.eval (.tmp x)=cL A.ag cs:=hv;have l1:=A.len _ _ _ hp;have l0:=A0.len _ _ _ (z3 B w);have hds:d<a.tmps.size:=by rw [h.size];exact hd
 have hdx':x≠d:=λ e=>by subst e;simp at hdx
 have hΛ':∀ l∈Λ,l.s≠d:=λ l hl=>by
  have:=qe.1 hΛ l hl;simpa using this
 obtain ⟨W1,hW1⟩:∃ W1,w.alloc (.cells z.cells T)=W1:=⟨_,rfl⟩;have hg1:Grow w W1:=by rw [← hW1];exact Grow.alloc _ _
 have hnew:W1.heap[w.heap.size]?=some (.cells z.cells T (0,0)):=by rw [← hW1];exact heap_alloc_new w _
 rw [qx];refine (bA (R:=⟨ops,N,Γ,[],[],λ _=>[]⟩) ho1 G (bf (w':=W1) (v:=ptr w.heap.size) ?_ ?_))
 ·rw [← hW1];simp [execOp,Instr.alloc,zeroValue,typeInfo,z1,z2,newVar,newRow,ptr]
 obtain ⟨a1,ha1⟩:∃ a1,a.put (some d) (ptr w.heap.size)=a1:=⟨_,rfl⟩;have ed:a1.eval (.tmp d)=ptr w.heap.size:=by rw [← ha1];exact aM _ _ _ hds
 have eo:∀ t,t≠d→a1.eval (.tmp t)=a.eval (.tmp t):=λ t ht=>by rw [← ha1];exact an _ _ _ _ ht
 have ef:a1.defers=a.defers:=by rw [← ha1];rfl
 have es:a1.tmps.size=N:=by rw [← ha1,size_put];exact h.size
 rw [ha1];have l2:z.cells.size=A0.n:=by simpa using l0
 have hrun:=bW ht W1 w.heap.size 0 T z.cells _ cs (A.cells_shape hp) l1 zo (A.one _ _ _ hp) hnew;rw [zG (by simp;omega)] at hrun;simp only [ki,jG,zX] at hrun;have hW:=Wr.setRow W1 w.heap.size cs.toArray;have hcell:(W1.setRow w.heap.size cs.toArray).heap[w.heap.size]?=some (.cells cs.toArray T (0,0)):=setRow_heap W1 _ _ _ _ _ hnew;have hgr:Grow w (W1.setRow w.heap.size cs.toArray):=Kept.grow0 ((hg1.kept).wr hW (.inl (qi _)));rw [qx];have U:wpOps P ops Q rest a1 (W1.setRow w.heap.size cs.toArray):=by
  refine hK _ _ ⟨h.lo,?_,es,h.base.grow hgr,λ y hy=>?_,λ m hm=>?_,λ m hm m' hm' hne=>?_⟩
  ·exact h.defers.grow hgr ef
  ·obtain ⟨k,hk1,hk2⟩:=qR.1 hy;have:=qe.1 hsrc k hk1;rw [hk2] at this;rw [eo _ (by simpa using this)];exact y.2.grow _ _ _ _ hgr (h.vals y (qa hk2))
  ·rcases qo.1 hm with hm|hm
   ·obtain ⟨g,c,q1,q2,q3,q4⟩:=h.locs m hm;exact ⟨g,c,by rw [eo _ (hΛ' m hm)];exact q1,q2,hgr.heap q3,m.A.grow _ _ _ _ hgr q4⟩
   ·obtain rfl:=qn.1 hm;exact ⟨w.heap.size,cs,ed,.inl h.base.size,hcell,A.grow _ _ _ _ hgr hp⟩
  ·have hnm:∀ m∈Λ,∃ g,blk (a1.eval (.tmp m.s))=some g∧g<w.heap.size:=λ m hm=>by
    obtain ⟨g,c,q1,q2,q3,q4⟩:=h.locs m hm;exact ⟨g,by rw [eo _ (hΛ' m hm),q1];exact m.H.ok g,(Array.getElem?_eq_some_iff.1 q3).1⟩
   have hd0:blk (a1.eval (.tmp d))=some w.heap.size:=by rw [ed];rfl
   rcases qo.1 hm with hm|hm <;> rcases qo.1 hm' with hm' | hm'
   ·rw [eo _ (hΛ' m hm),eo _ (hΛ' m' hm')];exact h.dis m hm m' hm' hne
   ·obtain rfl:=qn.1 hm';obtain ⟨g,q1,q2⟩:=hnm m hm;rw [q1,hd0];intro e;injection e with e;omega
   ·obtain rfl:=qn.1 hm;obtain ⟨g,q1,q2⟩:=hnm m' hm';rw [q1,hd0];intro e;injection e with e;omega
   ·obtain rfl:=qn.1 hm;obtain rfl:=qn.1 hm';exact absurd G hne
 unfold wpOp;rw [ho2];have hwant:Region.wanted (⟨none,.store ty (.tmp d) (.tmp x),T2,ps2,af2,none⟩:Oper) (yielded ops a1.tmps)=true:=rfl;simp only [hwant,if_true];refine .inl (wp_skip' (w':=W1.setRow w.heap.size cs.toArray) ?_ U);have e2:a1.eval (.tmp x)=cL A.ag cs:=by rw [eo _ hdx'];exact hv'
 have e1:a1.eval (.tmp d)=.pointer (some ⟨w.heap.size,0,none⟩):=ed;simp [execOp,e1,e2,Instr.storeAt,Instr.sureAddr,hrun]
end
def TyIn (w:World)(k:Nat)(Ts:List TypeId):Prop:=∃ c T fz,w.heap[k]?=some (.cells c T fz)∧T∈Ts
abbrev Wid (B:Nat)(w:World)(Ts:List TypeId):Bs:=⟨w,λ k=>B≤k∧TyIn w k Ts,false⟩
open Classical in
theorem uL {p:Yi→Prop}{Ts:Yq}(hcg:∀ w w',Grow w w'→p w→p w')(hwr:∀ w w' g c T fz,w.heap[g]?=some (.cells c T fz)→T∈Ts→B≤g→Wr g w w'→p w→p w')
  {w w':World} (hk:Kept (Wid B w Ts) w') (hp:p w):p w':=by
 let W:Nat→World:=λ m=>{ w with heap:=w.heap.mapIdx λ k o=>if k<m∧(Wid B w Ts).F k then (w'.heap[k]?).getD o else o }
 have hW:∀ m k,(W m).heap[k]?=if k<m∧(Wid B w Ts).F k∧k<w.heap.size then w'.heap[k]? else w.heap[k]?:=λ m k=>by
  show (w.heap.mapIdx _)[k]?=_;rw [Array.getElem?_mapIdx];by_cases hlt:k<w.heap.size
  ·rw [Array.getElem?_eq_getElem hlt];have hlt':k<w'.heap.size:=qD hlt hk.size;rw [Array.getElem?_eq_getElem hlt'];by_cases hc:k<m∧(Wid B w Ts).F k
   ·rw [qC ⟨hc.1,hc.2,hlt⟩,qT,qC hc]
    rfl
   ·rw [qz (λ h=>hc ⟨h.1,h.2.1⟩),qT,qz hc]
  ·have h0:w.heap[k]?=none:=Array.getElem?_eq_none zo;rw [qz (λ h=>hlt h.2.2),h0]
   rfl
 have hs:∀ m,(W m).heap.size=w.heap.size:=λ m=>by simp [W]
 have key:∀ m,p (W m):=λ m=>by
  induction m with
  | zero=>exact hcg w (W 0) ⟨rfl,rfl,rfl,by rw [hs];exact qi _,λ k hk=>by rw [hW,qz (λ h=>by omega)]⟩ hp
  | succ m ih =>
   by_cases hF:(Wid B w Ts).F m
   ·obtain ⟨hB,c,T,fz,hc,hT⟩:=hF;refine hwr (W m) (W (m+1)) m c T fz ?_ hT hB ⟨rfl,rfl,rfl,by rw [hs,hs],λ k hk=>?_⟩ ih
    ·rw [hW,qz (λ h=>by omega)];exact hc
    ·rw [hW,hW];by_cases h1:k<m
     ·simp [h1,kP h1]
     ·have:¬ k<m+1:=by omega
      simp [h1,this]
   ·refine hcg (W m) (W (m+1)) ⟨rfl,rfl,rfl,by rw [hs,hs];exact qi _,λ k hk=>?_⟩ ih;rw [hW,hW];by_cases h1:k<m
    ·simp [h1,kP h1]
    ·by_cases h2:k=m
     ·subst h2;rw [qz (λ h=>hF h.2.1),qz (λ h=>by omega)]
     ·have:¬ k<m+1:=by omega
      simp [h1,this]
 refine hcg (W w.heap.size) w' ⟨hk.os,hk.tape,hk.output,by rw [hs];exact hk.size,λ k hlt=>?_⟩ (key _);rw [hs] at hlt;rw [hW];by_cases hF:(Wid B w Ts).F k
 ·rw [qC ⟨hlt,hF,hlt⟩]
 ·rw [qz (λ h=>hF h.2.1)];exact hk.block k hlt hF
theorem VA.kept {A:VA}{Ts:Yq}(hp:A.p B v w)(hk:Kept (Wid B w Ts) w')(hd:∀ T∈Ts,T ∉ A.deps):A.p B v w' :=
 uL (p:=λ w=>A.p B v w) (λ w w' hg h=>A.grow _ _ _ _ hg h) (λ w w' g c T fz hc hT hB hW h=>A.wr _ _ _ _ _ _ _ _ hc (hd T hT) hB hW h) hk hp
theorem As.kept {Ts:Yq}(hp:A.p B cs w)(hk:Kept (Wid B w Ts) w')(hd:∀ T∈Ts,T ∉ A.deps):A.p B cs w' :=
 uL (p:=λ w=>A.p B cs w) (λ w w' hg h=>A.grow _ _ _ _ hg h) (λ w w' g c T fz hc hT hB hW h=>A.wr _ _ _ _ _ _ _ _ hc (hd T hT) hB hW h) hk hp
def CK (P:Program)(f:FuncId)(T:TypeId)(Ts:List TypeId)(A0 A1:As)(pre:List VA)(post:VA):Prop :=
 (Xx P f) ∧
 ∀ (B:Nat) (w:World) (g:Nat) (cs:List Value) (args:List Value),B≤g→w.heap[g]?=some (.cells cs.toArray T (0,0))→A0.p B cs w→All2 (λ (A:VA) v=>A.p B v w) pre args →
  Calls P f (ptr g::args).toArray w λ e w'=>∃ v cs',e=.returned v∧post.p B v w'∧Kept (Wid B w Ts) w'∧w'.heap[g]?=some (.cells (List.toArray cs') T (0,0))∧A1.p B cs' w'
theorem K8 {Ts:Yq}(hE:E∈Ts):fC (Wid B w Ts) B E:=λ w1 g c fz hk hB hc=>by
 by_cases hF:(Wid B w Ts).F g
 ·exact .inr hF
 ·by_cases hlt:g<w.heap.size
  ·exact .inr ⟨hB,c,E,fz,(hk.block g hlt hF).symm.trans hc,hE⟩
  ·exact .inl (kW hlt)
theorem CK.intro {f:Yn}{c:Code}{Ts:Yq}{pre:Yc}{post:VA}(hf:P.funcs[f]?=some fn)(hb:fn.body=some c)(hn:(fn.name== "runtime.NumGoroutine")=false)(hsz:pre.length+1≤fn.ntmps)(hT:Ts.contains T=true)
  (h:∀ (B g:Nat) (w0:Bs) (a:Act),(∀ E,Ts.contains E=true→fC w0 B E)→St B w0 fn.ntmps (argΓ (EqV (ptrH.f g)::pre)) [⟨0,T,ptrH,A0⟩] a w0.w→c.wp P (ce P fn (RQm B w0 g T A1 post)) a w0.w):CK P f T Ts A0 A1 pre post:=by
 refine ⟨⟨fn,hf,hn,by rw [hb];rfl⟩,λ B w g cs args hB hg hp ha=>(cm hf hb (h B g (Wid B w Ts) _ (λ E hE=>K8 (by simpa using hE)) ?_)).mono λ _ _ ⟨v,cs',he,hv,hk,h1,h2⟩=>⟨v,cs',he,hv,hk,h1,h2⟩⟩;have hl:=ha.length;have hgw:=(Array.getElem?_eq_some_iff.1 hg).1;have ha':All2 (λ (A:VA) v=>A.p B v w) (EqV (ptrH.f g)::pre) (ptr g::args):=.cons rfl ha;have h0:(⟨(ptr g::args).toArray++Array.replicate (fn.ntmps-(ptr g::args).toArray.size) undef,[]⟩:Act).eval (.tmp 0)=ptrH.f g:=by
  have:=All2.args (N:=fn.ntmps-(ptr g::args).toArray.size) ha' (0,EqV (ptrH.f g)) (by simp [argΓ]);exact this
 refine ⟨λ k hk=>?_,DefOk.nil rfl,?_,Kept.refl _,All2.args ha',λ l hl=>?_,λ l hl m hm hne=>?_⟩
 ·rcases hk with hk|hk
  ·exact qf hB (qf (xb hgw) hk)
  ·exact hk.1
 ·simp only [xi,z8,qO,zf];omega
 ·simp at hl;subst hl;exact ⟨g,cs,h0,.inr ⟨hB,_,_,_,hg,by simpa using hT⟩,hg,hp⟩
 ·simp at hl hm;subst hl hm;exact absurd G hne
theorem CK.ex {f:Yn}{Ts:Yq}{A:Yo→As}{c:Yo→Prop}{pre:Yc}{post:VA}(hex:Xx P f)(h:∀ x,c x→CK P f T Ts (A x) A1 pre post)(hp:∀ B cs w,A0.p B cs w→∃ x,c x∧(A x).p B cs w):CK P f T Ts A0 A1 pre post :=
 ⟨hex,λ B w g cs args hB hg hp0 ha=>by
  obtain ⟨x,hc,hx⟩:=hp B cs w hp0;exact (h x hc).2 B w g cs args hB hg hx ha⟩
theorem CK.wk {f:Yn}{Ts:Yq}{A0 A1 A1':As}{pre:Yc}{post:VA}(h:CK P f T Ts A0 A1 pre post)(hp:∀ B cs w,A1.p B cs w→A1'.p B cs w):CK P f T Ts A0 A1' pre post :=
 ⟨h.1,λ B w g cs args hB hg hp0 ha=>(h.2 B w g cs args hB hg hp0 ha).mono λ _ _ ⟨v,cs',he,hv,hk,h1,h2⟩=>⟨v,cs',he,hv,hk,h1,hp _ _ _ h2⟩⟩
theorem CK.wkT {f:Yn}{Ts Ts':Yq}{pre:Yc}{post:VA}(h:CK P f T Ts A0 A1 pre post)(hT:∀ E∈Ts,E∈Ts'):CK P f T Ts' A0 A1 pre post :=
 ⟨h.1,λ B w g cs args hB hg hp0 ha=>(h.2 B w g cs args hB hg hp0 ha).mono λ _ _ ⟨v,cs',he,hv,hk,h1,h2⟩=>⟨v,cs',he,hv,⟨hk.os,hk.tape,hk.output,hk.size,λ k h1 h2=>hk.block k h1 λ⟨q1,c,T,fz,q2,q3⟩=>h2 ⟨q1,c,T,fz,q2,hT T q3⟩⟩,h1,h2⟩⟩
section
open Rg
variable {P:Program}{Q:Exit→Act→World→Prop}{B N:Nat}{w0:Bs}{Γ:List (Nat × VA)}{Λ:List Lc}{a:Act}{w:World}{ops:Array Oper}{i:Nat}{K:Act→World→Prop}
theorem LG {pre:Yc}{ks:Ya}(h:St B w0 N Γ Λ a w)(hx:All2 (λ (A:VA) (kx:Nat × Yj)=>∃ t,kx.2=.tmp t∧Γ[kx.1]?=some (t,A)) pre (ks.zip xs))(hl:ks.length=xs.length):All2 (λ (A:VA) v=>A.p B v w) pre (xs.map a.eval):=by
 induction pre generalizing ks xs with
 | nil =>
  cases hk:ks.zip xs with
  | nil =>
   have:xs=[]:=by
    cases xs with
    | nil=>rfl
    | cons x xs=>cases ks with
     | nil=>cases hl
     | cons k ks=>cases hk
   subst this;exact .nil
  | cons y ys=>rw [hk] at hx;cases hx
 | cons A pre ih =>
  cases ks with
  | nil=>cases hx
  | cons k ks=>cases xs with
   | nil=>cases hx
   | cons x xs =>
    cases hx with
    | cons h1 h2 =>
     obtain ⟨t,e,h3⟩:=h1;have e:x=.tmp t:=e;subst e;exact .cons (h.vals _ (qa h3)) (ih h2 (by simpa using hl))
theorem ew {d p f sx:Nat}{T T1:Yh}{Ts:Yq}{pre:Yc}{post:VA}{at_:Yr}(src ks:Ya)(e:Nat)(ho:ops[i]?=some ⟨some d,.call ⟨.value (.func f),(.tmp p::xs).toArray,at_⟩,T1,ps,af,none⟩)(h:St B w0 N Γ Λ a w)
  (hc:CK P f T Ts A0 A1 pre post) (hl:Λ[e]?=some ⟨sx,T,ptrH,A0⟩) (hp:a.eval (.tmp p)=a.eval (.tmp sx)) (hx:All2 (λ (A:VA) (kx:Nat × Operand)=>∃ t,kx.2=.tmp t∧Γ[kx.1]?=some (t,A)) pre (ks.zip xs)) (hkl:ks.length=xs.length)
  (hrm:∀ E,Ts.contains E=true→fC w0 B E) (hd:d<N) (hΓ:Γ.all (λ x=>x.1 != d)=true) (hΛd:Λ.all (λ l=>l.s != d)=true)
  (hsrc:src.all (λ k=>match Γ[k]? with|some y=>Ts.all (λ E => !y.2.deps.contains E) | none=>false)=true) (hΛ:Λ.zipIdx.all (λ x=>x.2==e || (!Ts.contains x.1.T&&Ts.all (λ E => !x.1.A.deps.contains E)))=true)
  (hK:∀ a' w',St B w0 N ((d,post)::src.filterMap λ k=>Γ[k]?) (Λ.set e ⟨sx,T,ptrH,A1⟩) a' w'→K a' w'):wpOp P ops Q i K a w:=by
 obtain ⟨g,cs,q1,q2,q3,q4⟩:=h.locs _ (qa hl);have e1:a.eval (.tmp p)=ptr g:=hp.trans q1;have hargs:=LG h hx hkl;obtain ⟨⟨fn,hf,hn,hb⟩,hcall⟩:=hc;have hrun:(execOp a.eval ⟨some d,.call ⟨.value (.func f),(.tmp p::xs).toArray,at_⟩,T1,ps,af,none⟩).run P w=.ok (.enter f (ptr g::xs.map a.eval).toArray) w:=by
  simp only [execOp,resolve,Act.eval,Deferred.ofValue,Sem.run_bind,Sem.run_pure,Result.andThen_ok,invoke,bi hf hn hb];have e1':a.eval (.tmp p)=ptr g:=e1;simp [Act.eval] at e1' ⊢;exact e1'
 have hdsz:d<a.tmps.size:=by rw [h.size];exact hd
 have hBw:B≤w.heap.size:=qf (h.lo _ (.inl (qi _))) h.base.size;unfold wpOp;simp only [ho,Region.wanted,if_true];refine .inl ?_;unfold Oper.wp;rw [hrun];refine (hcall B w g cs _ (h.lo g q2) q3 q4 hargs).mono ?_;rintro e0 w' ⟨v,cs',rfl,hv,hk,h1,h2⟩;refine hK _ _ ?_;have hls:∀ l∈Λ,l.s≠d:=λ l hl=>by simpa using qe.1 hΛd l hl
 have hrow:∀ {g:Nat}{c:Array Value}{T':TypeId}{fz:Nat × Nat},w.heap[g]?=some (.cells c T' fz)→T' ∉ Ts→w'.heap[g]?=some (.cells c T' fz):=λ {g c T' fz} hg1 hne =>
  (hk.block g (Array.getElem?_eq_some_iff.1 hg1).1 (λ⟨_,c',T2,fz',e5,e6⟩=>by
   rw [hg1] at e5;injection e5 with e5;injection e5 with _ e5 _;subst e5;exact hne e6)).trans hg1
 have hset:∀ m∈Λ.set e ⟨sx,T,ptrH,A1⟩,∃ m0∈Λ,m0.s=m.s:=λ m hm=>by
  rcases qA hm with hm|rfl
  ·exact ⟨m,hm,rfl⟩
  ·exact ⟨_,qa hl,rfl⟩
 refine ⟨h.lo,h.defers.keep rfl λ D hD=>(hk.block D (Array.getElem?_eq_some_iff.1 hD).1 (λ⟨_,c,T2,fz,e5,_⟩=>by rw [hD] at e5;cases e5)).trans hD,by rw [size_put];exact h.size,⟨hk.os.trans h.base.os,hk.tape.trans h.base.tape,hk.output.trans h.base.output,qf h.base.size hk.size,λ k h3 h4=>?_⟩,λ y hy=>?_,λ m hm=>?_,λ m1 hm1 m2 hm2 hne=>?_⟩
 ·refine (hk.block k (qD h3 h.base.size) (λ⟨q5,c,T2,fz,q6,q7⟩=>?_)).trans (h.base.block k h3 h4);rcases hrm T2 (by simpa using q7) w k c fz h.base q5 q6 with q8|q8
  ·omega
  ·exact h4 q8
 ·rcases qr.1 hy with rfl|hy
  ·show post.p B ((a.put (some d) v).eval (.tmp d)) w';rw [aM _ _ _ hdsz];exact hv
  ·obtain ⟨k,hk1,hk2⟩:=qR.1 hy;have hs:=qe.1 hsrc k hk1;simp only [hk2,qe,qy,qB,qm] at hs;have hyd:y.1≠d:=by simpa using qe.1 hΓ y (qa hk2)
   rw [an _ _ _ _ hyd];exact VA.kept (h.vals y (qa hk2)) hk hs
 ·obtain ⟨j,hj⟩:=List.getElem?_of_mem hm;by_cases e1:j=e
  ·subst e1;have:m=⟨sx,T,ptrH,A1⟩:=by
    rw [List.getElem?_set_self (List.getElem?_eq_some_iff.1 hl).1] at hj;injection hj with hj;exact hj.symm
   subst this;exact ⟨g,cs',by rw [an _ _ _ _ (hls _ (qa hl))];exact q1,q2,h1,h2⟩
  ·rw [List.getElem?_set_ne (λ e2=>e1 e2.symm)] at hj;have hc:=qe.1 hΛ (m,j) (zj.2 hj);simp only [z4,xv,ql,qy,qB,qm,qe] at hc;have hc':=hc.resolve_left e1;obtain ⟨g',cs2,p1,p2,p3,p4⟩:=h.locs m (qa hj);exact ⟨g',cs2,by rw [an _ _ _ _ (hls _ (qa hj))];exact p1,p2,hrow p3 hc'.1,As.kept p4 hk hc'.2⟩
 ·obtain ⟨m3,r1,r2⟩:=hset m1 hm1;obtain ⟨m4,r3,r4⟩:=hset m2 hm2;rw [← r2,← r4] at hne ⊢;rw [an _ _ _ _ (hls _ r1),an _ _ _ _ (hls _ r3)];exact h.dis m3 r1 m4 r3 hne
end
def lv (x:Nat):Value:=.int .u32 x
structure Slot where
 v:Value
 xs:List Nat
 u:Value
 ys:List Nat
 z:Value
 n:Nat
def Slot.cells (s:Slot):List Value:=[s.v,s.z,.int .i64 s.n]
def RowV (v:Value)(n:Nat):Prop:=(v=.slice none 0 0∧n=0)∨∃ g cap,v=.slice (some ⟨g,0,none⟩) n cap∧n≤cap∧cap≤maxLen
def Rdy (B:Nat)(w:World)(v:Value)(xs:List Nat):Prop:=RowV v xs.length∧∀ g,v.ownBlock=some g→B≤g∧∃ c,w.heap[g]?=some (Obj.cells c U32 (0,0))∧c.toList.take xs.length=xs.map lv
def Slot.ok (B:Nat)(w:World)(s:Slot):Prop:=w.ownsRow B U32 1 s.u s.ys.length (s.ys.map lv)∧Rdy B w s.v s.xs
def Slot.has (s:Slot)(g:Nat):Prop:=s.v.ownBlock=some g∨s.u.ownBlock=some g
def Apt (L:List Slot):Prop:=∀ (i j:Nat) (s t:Slot),L[i]?=some s→L[j]?=some t→i≠j→∀ g,s.has g→¬ t.has g
theorem cv {E m n B:Nat}{xs:Ym}(h:w.ownsRow B E m v n xs)(hk:∀ (g:Nat) (c:Array Yo),v.ownBlock=some g→w.heap[g]?=some (Obj.cells c E (0,0))→w'.heap[g]?=some (Obj.cells c E (0,0))):w'.ownsRow B E m v n xs:=by
 refine ⟨h.1,?_⟩;rcases h.2 with h1|⟨g,cap,cur,rfl,h2,h3,h4⟩
 ·exact .inl h1
 ·exact .inr ⟨g,cap,cur,rfl,h2,hk g cur G h3,h4⟩
theorem Rdy.keep {xs:Ya}(h:Rdy B w v xs)(hk:∀ (g:Nat) (c:Array Yo),v.ownBlock=some g→w.heap[g]?=some (Obj.cells c U32 (0,0))→w'.heap[g]?=some (Obj.cells c U32 (0,0))):Rdy B w' v xs :=
 ⟨h.1,λ g hg=>by
  obtain ⟨h1,c,h2,h3⟩:=h.2 g hg;exact ⟨h1,c,hk g c hg h2,h3⟩⟩
theorem Slot.ok.keep {B:Nat}{s:Slot}{w w':Yi}(h:s.ok B w)(hk:∀ (g:Nat) (c:Array Yo),s.has g→w.heap[g]?=some (Obj.cells c U32 (0,0))→w'.heap[g]?=some (Obj.cells c U32 (0,0))):s.ok B w' :=
 ⟨cv h.1 λ g c hg=>hk g c (.inr hg),h.2.keep λ g c hg=>hk g c (.inl hg)⟩
theorem Slot.ok.lt {s:Slot}(h:s.ok B w)(hg:s.has g):B≤g∧∃ c,w.heap[g]?=some (Obj.cells c U32 (0,0)):=by
 rcases hg with hg|hg
 ·obtain ⟨h1,c,h2,_⟩:=h.2.2 g hg;exact ⟨h1,c,h2⟩
 ·rcases h.1.2 with ⟨e,_⟩|⟨g',cap,cur,e,h2,h3,_⟩
  ·rw [e] at hg;cases hg
  ·rw [e] at hg;have:g'=g:=by simpa [Value.ownBlock] using hg
   subst this;exact ⟨h2,cur,h3⟩
def HbA (vr:Value)(L:List Slot):As where
 n:=1
 ag:=false
 p B cs w:=cs=[vr]∧w.ownsRow B 137 3 vr L.length (L.flatMap Slot.cells)∧(∀ s∈L,s.ok B w)∧Apt L
 deps:=[137,U32]
 len:=by rintro B cs w ⟨rfl,_⟩;rfl
 one:=by
  rintro B cs w ⟨rfl,h,_⟩ c hc;obtain rfl:=qn.1 hc;rcases h.2 with ⟨rfl,_⟩|⟨g,cap,cur,rfl,_⟩ <;> rfl
 ag1:=λ _=>rfl
 cg:=λ B cs w w' hg ⟨h1,h2,h3,h4⟩=>⟨h1,cv h2 λ g c _ h=>hg.heap h,λ s hs=>(h3 s hs).keep λ g c _ h=>hg.heap h,h4⟩
 wr:=by
  rintro B cs w w' g c T fz hgc hT hB hW ⟨h1,h2,h3,h4⟩;simp only [qr,zq,or_false,not_or] at hT;have hne:∀ (g':Nat) (c':Array Value) (E:TypeId),(E=137∨E=U32)→w.heap[g']?=some (Obj.cells c' E (0,0))→w'.heap[g']?=some (Obj.cells c' E (0,0)):=λ g' c' E hE h=>by
   rw [hW.block g' (λ e=>?_)]
   ·exact h
   ·subst e;rw [hgc] at h;injection h with h;injection h with _ h _;subst h;rcases hE with e|e
    ·exact hT.1 e
    ·exact hT.2 e
  exact ⟨h1,cv h2 λ g c _ h=>hne g c _ (.inl G) h,λ s hs=>(h3 s hs).keep λ g c _ h=>hne g c _ (.inr G) h,h4⟩
theorem wy {α:Type}{f:Slot→List α}:∀ {L:List Slot}{i:Nat}{s s':Slot},L[i]?=some s→f s'=f s→(L.set i s').flatMap f=L.flatMap f
 | x::L,0,s,s',h,e=>by
  simp at h;subst h;simp [e]
 | x::L,i+1,s,s',h,e=>by
  simp only [jt,xh];rw [wy (by simpa using h) e]
theorem Hz {L:List Slot}{s s':Slot}(h:(HbA vr L).p B cs w)(hi:L[i]?=some s)(hc:s'.cells=s.cells)(hok:s'.ok B w')
  (hrow:∀ (g:Nat) (c:Array Value),w.heap[g]?=some (Obj.cells c 137 (0,0))→w'.heap[g]?=some (Obj.cells c 137 (0,0))) (hoth:∀ (g:Nat) (c:Array Value),¬ s.has g→w.heap[g]?=some (Obj.cells c U32 (0,0))→w'.heap[g]?=some (Obj.cells c U32 (0,0)))
  (hblk:∀ g,s'.has g→s.has g∨w.heap.size≤g):(HbA vr (L.set i s')).p B cs w':=by
 obtain ⟨h1,h2,h3,h4⟩:=h;have hlt:i<L.length:=(List.getElem?_eq_some_iff.1 hi).1;have hfar:∀ (j:Nat) t,L[j]?=some t→j≠i→∀ g,t.has g→¬ s'.has g:=λ j t hj hne g hg hg'=>by
  rcases hblk g hg' with h5|h5
  ·exact h4 j i t s hj hi hne g hg h5
  ·obtain ⟨_,c,h6⟩:=(h3 t (qa hj)).lt hg;have:=(Array.getElem?_eq_some_iff.1 h6).1;omega
 refine ⟨h1,?_,λ t ht=>?_,λ j k t1 t2 hj hk hne g hg hg'=>?_⟩
 ·rw [qX,wy hi hc];exact cv h2 λ g c _ h=>hrow g c h
 ·obtain ⟨j,hj⟩:=List.getElem?_of_mem ht;by_cases e:j=i
  ·subst e;rw [List.getElem?_set_self hlt] at hj;injection hj with hj;subst hj;exact hok
  ·rw [List.getElem?_set_ne (λ e2=>e e2.symm)] at hj;exact (h3 t (qa hj)).keep λ g c hg hh=>hoth g c (λ hs=>h4 j i t s hj hi e g hg hs) hh
 ·by_cases e:j=i
  ·subst e;rw [List.getElem?_set_self hlt] at hj;injection hj with hj;subst hj;rw [List.getElem?_set_ne hne] at hk;exact hfar k t2 hk (λ e=>hne e.symm) g hg' hg
  ·rw [List.getElem?_set_ne (λ e2=>e e2.symm)] at hj;by_cases e2:k=i
   ·subst e2;rw [List.getElem?_set_self hlt] at hk;injection hk with hk;subst hk;exact hfar j t1 hj e g hg hg'
   ·rw [List.getElem?_set_ne (λ e3=>e2 e3.symm)] at hk;exact h4 j k t1 t2 hj hk hne g hg hg'
theorem take_set {c:Ym}{xs:Ya}(h:c.take xs.length=xs.map lv):(c.set k (lv m)).take xs.length=(xs.set k m).map lv:=by
 rw [vg,h,List.map_set]
theorem Kx {L:List Slot}{B i k g cap m:Nat}{s:Slot}(h:(HbA vr L).p B cs w)(hi:L[i]?=some s)(hu:s.u=s.v)(hy:s.ys=s.xs)(hv:s.v=.slice (some ⟨g,0,none⟩) s.xs.length cap)(hk:k<s.xs.length):
  B≤g∧∃ c:Array Value,w.heap[g]?=some (Obj.cells c U32 (0,0))∧k<c.size∧(HbA vr (L.set i { s with xs:=s.xs.set k m,ys:=s.xs.set k m })).p B cs (w.setRow g (c.setIfInBounds k (lv m))):=by
 have hs:=h.2.2.1 s (qa hi);have hg:s.v.ownBlock=some g:=by rw [hv];rfl
 obtain ⟨hB,c,hc,htk⟩:=hs.2.2 g hg;have hown:=hs.1;rw [hu,hy,hv] at hown;rcases hown.2 with ⟨e,_⟩|⟨g',cap',cur,e,h2,h3,h4,h5,h6,h7⟩
 ·cases e
 ·injection e with e1 e2 e3;injection e1 with e1;injection e1 with e1;subst e1;subst e3;rw [hc] at h3;injection h3 with h3;injection h3 with h3;subst h3;have hlen:c.size=cap:=by rw [h6,zP]
  have hnew:(w.setRow g (c.setIfInBounds k (lv m))).heap[g]?=some (Obj.cells (c.setIfInBounds k (lv m)) U32 (0,0)):=setRow_heap w g _ _ _ _ hc;have htk2:(c.setIfInBounds k (lv m)).toList.take (s.xs.set k m).length=(s.xs.set k m).map lv:=by
   rw [jh,qX];exact take_set htk
  refine ⟨hB,c,hc,by omega,Hz h hi G ⟨?_,?_⟩ (λ g2 c2 h8=>?_) (λ g2 c2 h8 h9=>?_) λ g2 h8=>.inl h8⟩
  ·show World.ownsRow _ B U32 1 s.u (s.xs.set k m).length ((s.xs.set k m).map lv);rw [hu,hv,qX];refine ⟨by simp,.inr ⟨g,cap,_,rfl,hB,hnew,h4,h5,by simp [hlen],?_⟩⟩;rw [qX] at htk2;rw [zP];exact htk2
  ·show Rdy B _ s.v (s.xs.set k m);refine ⟨?_,λ g2 h8=>?_⟩
   ·rw [qX];exact hs.2.1
   ·rw [hg] at h8;injection h8 with h8;subst h8;exact ⟨hB,_,hnew,htk2⟩
  ·rw [setRow_other _ _ _ _ (λ e=>by subst e;rw [hc] at h8;injection h8 with h8;injection h8 with _ h8 _;revert h8;decide)];exact h8
  ·rw [setRow_other _ _ _ _ (λ e=>h8 (.inl (by rw [e];exact hg)))];exact h9
theorem NU {vr v':Yo}{L:List Slot}{s:Slot}(h:(HbA vr L).p B cs w)(hi:L[i]?=some s)(hown:w'.ownsRow B U32 1 v' (s.ys.length+1) (s.ys.map lv++[lv m]))(hg:w.grownBy w' s.u.ownBlock)
  (hb:v'.ownBlock=s.u.ownBlock∨(v'.ownBlock=some w.heap.size∧w.grownBy w' none)) (hpre:s.u.ownBlock=s.v.ownBlock→s.xs <+: s.ys):(HbA vr (L.set i { s with u:=v',ys:=s.ys++[m] })).p B cs w':=by
 have hs:=h.2.2.1 s (qa hi);have hlt:∀ (g:Nat) (c:Array Value) (T:TypeId),w.heap[g]?=some (Obj.cells c T (0,0))→g<w.heap.size:=λ g c T h=>(Array.getElem?_eq_some_iff.1 h).1;refine Hz h hi G ⟨by simpa using hown,?_⟩ (λ g c h8=>?_) (λ g c h8 h9=>?_) λ g h8=>?_
 ·refine ⟨hs.2.1,λ g hgv=>?_⟩;obtain ⟨h1,c,h2,h3⟩:=hs.2.2 g hgv;by_cases e:s.u.ownBlock=some g
  ·rcases hb with hb|⟨hb,hgn⟩
   ·rcases hown.2 with ⟨e1,_⟩|⟨g',cap,cur,e1,h4,h5,h6,h7,h10,h11⟩
    ·rw [e1,e] at hb;cases hb
    ·have:g'=g:=by
      have:v'.ownBlock=some g':=by rw [e1];rfl
      rw [hb,e] at this;injection this with this;exact this.symm
     subst this;refine ⟨h1,cur,h5,?_⟩;obtain ⟨t,ht⟩:=hpre (e.trans hgv.symm);have hle:s.xs.length≤s.ys.length:=by rw [← ht];simp
     rw [zP] at h11;have h12:=qp (List.take s.xs.length) h11;rw [jd,xl zo] at h12;show cur.toList.take s.xs.length=s.xs.map lv;rw [h12,← ht];simp [xq]
   ·exact ⟨h1,c,(hgn.block g (hlt _ _ _ h2) (by simp)).trans h2,h3⟩
  ·exact ⟨h1,c,(hg.block g (hlt _ _ _ h2) (λ e2=>e e2.symm)).trans h2,h3⟩
 ·refine (hg.block g (hlt _ _ _ h8) (λ e=>?_)).trans h8;obtain ⟨_,c2,h9⟩:=hs.lt (g:=g) (.inr e.symm);rw [h8] at h9;injection h9 with h9;injection h9 with _ h9 _;revert h9;decide
 ·exact (hg.block g (hlt _ _ _ h9) (λ e=>h8 (.inr e.symm))).trans h9
 ·rcases h8 with h8|h8
  ·exact .inl (.inl h8)
  ·rcases hb with hb|⟨hb,_⟩
   ·exact .inl (.inr (hb.symm.trans h8))
   ·have h8':v'.ownBlock=some g:=h8;rw [hb] at h8';injection h8' with h8';exact .inr (xB h8')
theorem D0:∀ {L:List Slot}{i:Nat}{s:Slot},L[i]?=some s→∀ z,(L.set i { s with z:=z }).flatMap Slot.cells=(L.flatMap Slot.cells).set (3*i+1) z
 | x::L,0,s,h,z=>by
  simp at h;subst h
  rfl
 | x::L,i+1,s,h,z=>by
  simp only [jt,xh];rw [D0 (by simpa using h) z,show 3*(i+1)+1=(3*i+1)+3 by omega]
  rfl
theorem FW {L:List Slot}:(L.flatMap Slot.cells).length=L.length*3:=by
 induction L with
 | nil=>rfl
 | cons x L ih=>rw [xh,qu,ih,zf];show 3+_=_;omega
theorem HA {L:List Slot}{B i g cap:Nat}{s:Slot}(z:Yo)(h:(HbA vr L).p B cs w)(hi:L[i]?=some s)(hvr:vr=.slice (some ⟨g,0,none⟩) L.length cap):
  B≤g∧∃ c:Array Value,w.heap[g]?=some (Obj.cells c 137 (0,0))∧i*3+1<c.size∧(HbA vr (L.set i { s with z:=z })).p B cs (w.setRow g (c.setIfInBounds (i*3+1) z)):=by
 obtain ⟨h1,h2,h3,h4⟩:=h;have hlt:i<L.length:=(List.getElem?_eq_some_iff.1 hi).1;rcases h2.2 with ⟨e,_⟩|⟨g',cap',cur,e,q2,q3,q4,q5,q6,q7⟩
 ·rw [hvr] at e;cases e
 ·rw [hvr] at e;injection e with e1 e2 e3;injection e1 with e1;injection e1 with e1;subst e1;have hsz:i*3+1<cur.size:=by
   rw [q6];have:L.length*3≤cap'*3:=qJ 3 q4;omega
  have hnew:(w.setRow g (cur.setIfInBounds (i*3+1) z)).heap[g]?=some (Obj.cells (cur.setIfInBounds (i*3+1) z) 137 (0,0)):=setRow_heap w g _ _ _ _ q3;refine ⟨q2,cur,q3,hsz,h1,?_,λ t ht=>?_,λ j k t1 t2 hj hk hne g2 hg hg'=>?_⟩
  ·rw [qX,D0 hi];refine ⟨by rw [qX,FW],.inr ⟨g,cap',_,?_,q2,hnew,q4,q5,by simp [q6],?_⟩⟩
   ·rw [hvr,e3]
   ·rw [jh,vg,q7,show 3*i+1=i*3+1 by omega]
  ·have hkeep:∀ t':Slot,t'.ok B w→t'.ok B (w.setRow g (cur.setIfInBounds (i*3+1) z)):=λ t' ht'=>ht'.keep λ g2 c2 hg2 h8=>by
    rw [setRow_other _ _ _ _ (λ e=>by subst e;rw [q3] at h8;injection h8 with h8;injection h8 with _ h8 _;revert h8;decide)];exact h8
   rcases qA ht with ht|rfl
   ·exact hkeep t (h3 t ht)
   ·exact hkeep _ (h3 s (qa hi))
  ·have hsame:∀ (j:Nat) t,(L.set i { s with z:=z })[j]?=some t→∃ t0,L[j]?=some t0∧∀ g,t.has g→t0.has g:=λ j t hj=>by
    by_cases e:j=i
    ·subst e;rw [List.getElem?_set_self hlt] at hj;injection hj with hj;subst hj;exact ⟨s,hi,λ g h=>h⟩
    ·rw [List.getElem?_set_ne (λ e2=>e e2.symm)] at hj;exact ⟨t,hj,λ g h=>h⟩
   obtain ⟨t3,r1,r2⟩:=hsame j t1 hj;obtain ⟨t4,r3,r4⟩:=hsame k t2 hk;exact h4 j k t3 t4 r1 r3 hne g2 (r2 g2 hg) (r4 g2 hg')
abbrev mkN (n:Nat):Nat:=100000+n
def EqS (v:Value):As where
 n:=1
 ag:=false
 p _ cs _:=cs=[v]∧v.oneCell'=true
 deps:=[]
 len:=by rintro B cs w ⟨rfl,_⟩;rfl
 one:=by rintro B cs w ⟨rfl,h⟩ c hc;simp at hc;subst hc;exact h
 ag1:=λ _=>rfl
 cg:=λ _ _ _ _ _ h=>h
 wr:=λ _ _ _ _ _ _ _ _ _ _ _ _ h=>h
theorem mY {v u:Yo}(h:(EqS v).va.p B u w):u=v:=by
 obtain ⟨cs,⟨rfl,_⟩,h2⟩:=h;exact h2
theorem rf :Wk (EqS v).va (EqV v):=λ _ _ _ h=>mY h
def Slot.view (s:Slot):As:=cat [EqS s.v,EqS s.z,NumA .i64 (s.n:Nat)]
structure Slot.wf (s:Slot):Prop where
 rv:RowV s.v s.xs.length
 ox:okL s.xs
 oy:okL s.ys
 z1:s.z.oneCell'=true
 n1:s.n≤1000000
 lx:s.xs.length≤2000000000000
theorem RowV.one (h:RowV v n):v.oneCell'=true:=by
 rcases h with ⟨rfl,_⟩|⟨g,cap,rfl,_⟩ <;> rfl
theorem wV {B:Nat}{w:Yi}:∀ {L:List Slot},(∀ s∈L,s.wf)→(cat (L.map Slot.view)).p B (L.flatMap Slot.cells) w
 | [],_=>⟨[],rfl,.nil⟩
 | s::L,h=>by
  obtain ⟨ps,e,hp⟩:=wV (B:=B) (w:=w) (L:=L) λ t ht=>h t (by simp [ht]);refine ⟨s.cells::ps,by rw [xh,e];rfl,.cons ?_ hp⟩;exact ⟨[[s.v],[s.z],[.int .i64 s.n]],rfl,.cons ⟨rfl,(h s (by simp)).rv.one⟩ (.cons ⟨rfl,(h s (by simp)).z1⟩ (.cons G .nil))⟩
theorem NS {L:List Slot}(h:∀ s∈L,s.wf):Wk (HbA vr L).va (SlA 137 [] (L.map Slot.view)).va:=λ B v w ⟨cs,⟨e,h2,_⟩,hv⟩=>by
 subst e;have hv':v=vr:=hv;subst hv';refine gI (b:=B) (m:=3) B v w ⟨λ A hA=>?_,λ A hA T hT=>?_,L.flatMap Slot.cells,wV h,?_⟩
 ·obtain ⟨s,_,rfl⟩:=qq.1 hA;rfl
 ·obtain ⟨s,_,rfl⟩:=qq.1 hA;cases (show T∈([]:List TypeId) from hT)
 ·rw [qc];exact h2
theorem Bv {xs:Ya}(h:Rdy B w v xs)(ok:okL xs):(MgA xs).va.p B v w:=by
 rcases h.1 with ⟨rfl,e⟩|⟨g,cap,rfl,h1,h2⟩
 ·exact eG ⟨ok,by omega,zx _,λ h=>by omega⟩ e.symm
 ·obtain ⟨_,c,h3,h4⟩:=h.2 g rfl;refine eG (Mag.own h3 ok h1 h2 λ j hj=>?_) rfl;have h5:=qp (λ l=>l[j]?) h4;simp only [List.getElem?_take,hj,if_true,List.getElem?_map,List.getElem?_eq_getElem hj,qT] at h5;rw [← Array.getElem?_toList];exact h5
theorem BV {ys:Ya}(h:w.ownsRow B U32 1 v ys.length (ys.map lv)):Rdy B w v ys:=by
 rcases h.2 with ⟨rfl,e⟩|⟨g,cap,cur,rfl,h1,h2,h3,h4,h5,h6⟩
 ·exact ⟨.inl ⟨rfl,e⟩,λ g hg=>by cases hg⟩
 ·refine ⟨.inr ⟨g,cap,rfl,h3,h4⟩,λ g' hg=>?_⟩;have:g=g':=by simpa [Value.ownBlock] using hg
  subst this;rw [zP] at h6;exact ⟨h1,cur,h2,h6⟩
section
open Rg
variable {P:Program}{Q:Exit→Act→World→Prop}{R:Rg}{B i:Nat}{w0:Bs}
end
theorem Al (h:n≤1000000):IntKind.i64.wrap (100000+(n:Int))=((mkN n:Nat):Int):=by
 rw [wi64 zo zo];simp
theorem tW (h:n≤1000000):IntKind.u32.wrap ((mkN n:Nat):Int)=((mkN n:Nat):Int):=wu32 (by unfold mkN;omega)
theorem Hm (n0:Nat)(hn:n0≤1000000):Cn Tryz.prog 134 [In (n0:Nat)] ((NumA .u32 (mkN n0:Nat)).va):=by
 refine Cn.intro Tryz.func134 G zk nq (zy [(0,In (n0:Nat))] λ B w0 a U=>?_);refine qb<|zh UA Rk U (zv G (aR (aF 0 G)) o0) (zz Rl [] ?_);refine ztA<|zhA (Wb 3 [.v 2 _]) UJ (zM 0 G (zv G (aL ab (vq 0 G) (Al hn)) (zv G (aH .u32 zk zk (vq 1 G) (tW hn)) (zA 2 G o0)))) (zz Ux [] λ a w U=>?_);exact aa<|qh<|am G U (zm 0 G)
theorem uQ (x0 n0:Nat)(hn:n0≤1000000):Cn Tryz.prog 150 [(NumA .u32 (x0:Nat)).va,In (n0:Nat)] (Bo (((x0:Nat):Int)==((mkN n0:Nat):Int))):=by
 refine Cn.intro Tryz.func150 G zk nq (zy [(0,(NumA .u32 (x0:Nat)).va),(1,In (n0:Nat))] λ B w0 a U=>?_);refine qb<|zh WR WS U (zE G aE) (zz WT [] ?_);refine ztA<|zhA (Wd 5 [.v 4 _]) [.o 5] (zM 0 G (zM 1 G (zv G (aL ab (vq 1 G) (Al hn)) (zv G (aH .u32 zk zk (vq 2 G) (tW hn)) (zv G (bC (vq 0 G) (vq 3 G)) (zA 4 G o0)))))) (zz U3 [] λ a w U=>?_);exact aa<|qh<|am G U (zm 0 G)
theorem lW:Str Tryz.prog 137 [EqS (.slice none 0 0),EqS (.slice none 0 0),NumA .i64 0] :=
 Str.of (z:=.agg #[.slice none 0 0,.slice none 0 0,.int .i64 0]) zk Tryz.underlying137 zk λ B w=>⟨[[.slice none 0 0],[.slice none 0 0],[.int .i64 0]],rfl,.cons ⟨rfl,rfl⟩ (.cons ⟨rfl,rfl⟩ (.cons rfl .nil))⟩
def Slot.fil (s:Slot)(k:Nat):Slot:={ s with xs:=List.replicate k (mkN s.n)++s.xs.drop k,ys:=List.replicate k (mkN s.n)++s.xs.drop k }
theorem lw {s:Slot}(h:k≤s.xs.length):(s.fil k).xs.length=s.xs.length:=by
 show (List.replicate k (mkN s.n)++s.xs.drop k).length=_;rw [qu,zc,xV];omega
theorem O4 {s:Slot}(h:s.ys=s.xs):s.fil 0=s:=by
 obtain ⟨v,xs,u,ys,z,n⟩:=s;have h:ys=xs:=h;subst h
 rfl
theorem L4 {s:Slot}(h:k<s.xs.length):(s.fil k).xs.set k (mkN s.n)=(s.fil (k+1)).xs:=by
 show (List.replicate k (mkN s.n)++s.xs.drop k).set k (mkN s.n)=List.replicate (k+1) (mkN s.n)++s.xs.drop (k+1);rw [x6 _ _ (by simp),zc,xX,qK h,vV,je,qP]
 rfl
structure Slot.new (s:Slot):Prop extends s.wf where
 uv:s.u=s.v
 yx:s.ys=s.xs
theorem K3 (h:n≤1000000):okL (List.replicate k (mkN n)):=λ x hx=>by
 rw [(xM.1 hx).2];unfold mkN;omega
theorem D7 {s:Slot}(h:s.wf):okL (s.fil k).xs:=λ x hx=>by
 rcases qo.1 hx with hx|hx
 ·exact K3 h.n1 x hx
 ·exact h.ox x (vC hx)
theorem D6 {s:Slot}(h:s.wf)(hk:k≤s.xs.length):(s.fil k).wf:=⟨by rw [lw hk];exact h.rv,D7 h,D7 h,h.z1,h.n1,by rw [lw hk];exact h.lx⟩
def fl (L:List Slot)(i k:Nat):List Slot:=L.mapIdx λ j s=>if j<i then s.fil s.xs.length else if j=i then s.fil k else s
theorem D1 {L:List Slot}:(fl L i k).length=L.length:=by unfold fl;simp
theorem FX {L:List Slot}{s:Slot}(h:L[i]?=some s):(fl L i k)[i]?=some (s.fil k):=by
 unfold fl;rw [List.getElem?_mapIdx,h];simp
theorem L0 {L:List Slot}{s:Slot}(h:L[i]?=some s)(hk:k<s.xs.length):(fl L i k).set i { s.fil k with xs:=(s.fil k).xs.set k (mkN s.n),ys:=(s.fil k).xs.set k (mkN s.n) }=fl L i (k+1):=by
 apply j1;intro j;by_cases e:j=i
 ·subst e;rw [List.getElem?_set_self (by rw [D1];exact (List.getElem?_eq_some_iff.1 h).1),FX h,L4 hk]
  rfl
 ·rw [List.getElem?_set_ne (λ e2=>e e2.symm)];unfold fl;rw [List.getElem?_mapIdx,List.getElem?_mapIdx];simp [e]
theorem L1 {L:List Slot}{s:Slot}(h:L[i]?=some s)(hn:∀ s∈L,s.new):fl L i s.xs.length=fl L (i+1) 0:=by
 apply j1;intro j;unfold fl;rw [List.getElem?_mapIdx,List.getElem?_mapIdx];cases hj:L[j]? with
 | none=>rfl
 | some t =>
  simp only [qT];by_cases e:j=i
  ·subst e;rw [h] at hj;injection hj with hj;subst hj;simp
  ·by_cases e1:j<i
   ·rw [qC e1,qC zo]
   ·rw [qz e1,qz e,qz zo];by_cases e2:j=i+1
    ·rw [qC e2,O4 (hn t (qa hj)).yx]
    ·rw [qz e2]
theorem KZ {L:List Slot}(hn:∀ s∈L,s.new):fl L 0 0=L:=by
 apply j1;intro j;unfold fl;rw [List.getElem?_mapIdx];cases hj:L[j]? with
 | none=>rfl
 | some t =>
  simp only [qT,k6,if_false];by_cases e:j=0
  ·rw [qC e,O4 (hn t (qa hj)).yx]
  ·rw [qz e]
theorem O2 {L:List Slot}:fl L L.length k=L.map λ s=>s.fil s.xs.length:=by
 apply j1;intro j;unfold fl;rw [List.getElem?_mapIdx,List.getElem?_map];cases hj:L[j]? with
 | none=>rfl
 | some t =>
  have:=(List.getElem?_eq_some_iff.1 hj).1;simp only [qT];rw [qC this]
theorem QB {L:List Slot}(hn:∀ s∈L,s.new)(hk:∀ s,L[i]?=some s→k≤s.xs.length):∀ s∈fl L i k,s.wf:=λ s hs=>by
 obtain ⟨j,hj⟩:=List.getElem?_of_mem hs;unfold fl at hj;rw [List.getElem?_mapIdx] at hj;cases ht:L[j]? with
 | none=>rw [ht] at hj;cases hj
 | some t =>
  rw [ht] at hj;have hw:=(hn t (qa ht)).towf;simp only [qT,Option.some.injEq] at hj;split at hj
  ·subst hj;exact D6 hw (qi _)
  ·split at hj
   ·rename_i e;subst e;subst hj;exact D6 hw (hk t ht)
   ·subst hj;exact hw
theorem sC {L:List Slot}{s:Slot}(h:L[i]?=some s):(L.map Slot.view)[i]?=some s.view:=by rw [List.getElem?_map,h];rfl
theorem Ao {L:List Slot}:∀ A∈L.map Slot.view,A.n=3:=λ A hA=>by
 obtain ⟨s,_,rfl⟩:=qq.1 hA;rfl
theorem RowV.row (h:RowV v n)(hk:k<n):∃ g cap,v=.slice (some ⟨g,0,none⟩) n cap:=by
 rcases h with ⟨_,e⟩|⟨g,cap,h,_⟩
 ·omega
 ·exact ⟨g,cap,h⟩
theorem bU (h:Q .normal a w):wpOps P ops Q [] a w:=h
theorem dC (h:Q .normal a w):wpOps P ops Q [] (a.put none undef) w:=h
theorem Ie {k:Yp}{n:Int}:Wk (NumA k n).va (EqV (.int k n)):=λ _ _ _ h=>bj h
theorem Gz:∃ it z,Tryz.prog.info? 138=some it∧it.zero=some z∧it.size=1∧it.bytes=4∧z.cells.size=1:=by
 have h:((Tryz.prog.info? 138).bind λ it=>it.zero.map λ z=>(it.size,it.bytes,z.cells.size))=some (1,4,1):=by kernel_rfl
 cases hi:Tryz.prog.info? 138 with
 | none=>rw [hi] at h;simp at h
 | some it =>
  rw [hi] at h;cases hz:it.zero with
  | none=>simp [hz] at h
  | some z =>
   simp [hz] at h;exact ⟨it,z,rfl,hz,h.1,h.2.1,h.2.2⟩
def Slot.ext (s:Slot)(u:Value)(k:Nat):Slot:={ s with u:=u,ys:=List.replicate (s.xs.length+k) (mkN s.n) }
structure Slot.full (s:Slot):Prop extends s.wf where
 uv:s.u=s.v
 yx:s.ys=s.xs
 xm:s.xs=List.replicate s.xs.length (mkN s.n)
theorem QF {s:Slot}(h:s.full):s.ext s.v 0=s:=by
 have h1:=h.uv;have h2:=h.yx;have h3:=h.xm;obtain ⟨v,xs,u,ys,z,n⟩:=s;simp only at h1 h2 h3;subst h1 h2;show Slot.mk u ys u (List.replicate (ys.length+0) (mkN n)) z n=_;rw [jx,← h3]
structure Grew (s t:Slot):Prop where
 v:t.v=s.v
 xs:t.xs=s.xs
 n:t.n=s.n
 z:t.z=t.u
 ys:t.ys=List.replicate (s.xs.length+70) (mkN s.n)
def Gr (L M:List Slot)(i:Nat):Prop:=M.length=L.length∧∀ (j:Nat) s,L[j]?=some s→∃ t,M[j]?=some t∧(j<i→Grew s t)∧(i≤j→t=s)
theorem gr_0 {L:List Slot}:Gr L L 0:=⟨rfl,λ j s h=>⟨s,h,λ h=>absurd h (k6 _),λ _=>rfl⟩⟩
theorem Qx {L M:List Slot}{s:Slot}(h:Gr L M i)(hs:L[i]?=some s):M[i]?=some s:=by
 obtain ⟨t,h1,_,h2⟩:=h.2 i s hs;rw [h1,h2 (qi _)]
theorem KI {L M:List Slot}{s:Slot}{u:Yo}(h:Gr L M i)(hs:L[i]?=some s):Gr L (M.set i { s.ext u 70 with z:=u }) (i+1):=by
 refine ⟨by rw [qX];exact h.1,λ j s' hj=>?_⟩;by_cases e:j=i
 ·subst e;rw [hs] at hj;injection hj with hj;subst hj;refine ⟨_,List.getElem?_set_self (by rw [h.1];exact (List.getElem?_eq_some_iff.1 hs).1),λ _=>⟨rfl,rfl,rfl,rfl,rfl⟩,λ h=>by omega⟩
 ·obtain ⟨t,h1,h2,h3⟩:=h.2 j s' hj;exact ⟨t,by rw [List.getElem?_set_ne (λ e2=>e e2.symm)];exact h1,λ h=>h2 zo,λ h=>h3 zo⟩
theorem NW {L M:List Slot}(h:Gr L M i){t:Slot}(ht:t∈M):∃ s∈L,Grew s t∨t=s:=by
 obtain ⟨j,hj⟩:=List.getElem?_of_mem ht;have hlt:=(List.getElem?_eq_some_iff.1 hj).1;rw [h.1] at hlt;obtain ⟨t',h1,h2,h3⟩:=h.2 j _ (List.getElem?_eq_getElem hlt);rw [hj] at h1;injection h1 with h1;subst h1;refine ⟨_,qg hlt,?_⟩;by_cases e:j<i
 ·exact .inl (h2 e)
 ·exact .inr (h3 zo)
def One1 (M:List Slot):Prop:=∀ s∈M,s.v.oneCell'=true∧s.z.oneCell'=true
theorem sq {B:Nat}{w:Yi}:∀ {L:List Slot},One1 L→(cat (L.map Slot.view)).p B (L.flatMap Slot.cells) w
 | [],_=>⟨[],rfl,.nil⟩
 | s::L,h=>by
  obtain ⟨ps,e,hp⟩:=sq (B:=B) (w:=w) (L:=L) λ t ht=>h t (by simp [ht]);refine ⟨s.cells::ps,by rw [xh,e];rfl,.cons ?_ hp⟩;exact ⟨[[s.v],[s.z],[.int .i64 s.n]],rfl,.cons ⟨rfl,(h s (by simp)).1⟩ (.cons ⟨rfl,(h s (by simp)).2⟩ (.cons G .nil))⟩
theorem uU {L:List Slot}(h:One1 L):Wk (HbA vr L).va (SlA 137 [] (L.map Slot.view)).va:=λ B v w ⟨cs,⟨e,h2,_⟩,hv⟩=>by
 subst e;have hv':v=vr:=hv;subst hv';refine gI (b:=B) (m:=3) B v w ⟨λ A hA=>?_,λ A hA T hT=>?_,L.flatMap Slot.cells,sq h,?_⟩
 ·obtain ⟨s,_,rfl⟩:=qq.1 hA;rfl
 ·obtain ⟨s,_,rfl⟩:=qq.1 hA;cases (show T∈([]:List TypeId) from hT)
 ·rw [qc];exact h2
theorem Kz {L:List Slot}:Wk (HbA vr L).va (EqV vr):=λ B v w ⟨cs,⟨e,_⟩,hv⟩=>by
 subst e;exact hv
theorem de {E m n B:Nat}{xs:Ym}(h:w.ownsRow B E m v n xs):v.oneCell'=true∧RowV v n:=by
 rcases h.2 with ⟨rfl,e⟩|⟨g,cap,cur,rfl,_,_,h3,h4,_⟩
 ·exact ⟨rfl,.inl ⟨rfl,e⟩⟩
 ·exact ⟨rfl,.inr ⟨g,cap,rfl,h3,h4⟩⟩
theorem gr_z {L M:List Slot}(h:Gr L M i)(hf:∀ s∈L,s.full):∀ t∈M,t.z.oneCell'=true∨t.z=t.u:=λ t ht=>by
 obtain ⟨s,hs,h1|h1⟩:=NW h ht
 ·exact .inr h1.z
 ·subst h1;exact .inl (hf t hs).z1
theorem RowV.cell (h:RowV v n):v.cells = #[v]:=by
 rcases h with ⟨rfl,_⟩|⟨g,cap,rfl,_⟩ <;> rfl
theorem okm (h:n≤1000000):okL [mkN n]:=λ y hy=>by
 have:y=mkN n:=by simpa using hy
 subst this;unfold mkN;omega
theorem M0 :Wk (MgA l).va (SlA U32 [] (l.map λ (x:Nat)=>NumA .u32 (x:Int))).va:=λ _ _ _ h=>(eD h).2
theorem B7 {M:List Slot}{x y:Slot}:(M.set i x).set i y=M.set i y:=by simp
theorem ED {M:List Slot}{x:Slot}(h:M[i]?=some x):M.set i x=M:=by
 obtain ⟨h1,h2⟩:=List.getElem?_eq_some_iff.1 h;subst h2;simp
structure Slot.done (t:Slot):Prop where
 zu:t.z=t.u
 xm:t.xs=List.replicate t.xs.length (mkN t.n)
 ym:t.ys=List.replicate (t.xs.length+70) (mkN t.n)
 n1:t.n≤1000000
 lx:t.xs.length≤2000000000000
theorem KJ {L M:List Slot}(h:Gr L M L.length)(hf:∀ s∈L,s.full):∀ t∈M,t.done:=λ t ht=>by
 obtain ⟨j,hj⟩:=List.getElem?_of_mem ht;have hlt:=(List.getElem?_eq_some_iff.1 hj).1;rw [h.1] at hlt;obtain ⟨t',h1,h2,_⟩:=h.2 j _ (List.getElem?_eq_getElem hlt);rw [hj] at h1;injection h1 with h1;subst h1;have hG:=h2 hlt;have hs:=hf _ (qg hlt);refine ⟨hG.z,?_,?_,?_,?_⟩
 ·rw [hG.xs,hG.n];exact hs.xm
 ·rw [hG.xs,hG.n];exact hG.ys
 ·rw [hG.n];exact hs.n1
 ·rw [hG.xs];exact hs.lx
theorem pQ {t:Slot}(h:t.done):t.ys.length=t.xs.length+70:=by rw [h.ym,zc]
theorem Dr {t:Slot}(h:t.done):okL t.xs:=h.xm▸K3 h.n1
theorem Dq {t:Slot}(h:t.done):okL t.ys:=h.ym▸K3 h.n1
theorem Ll {t:Slot}(h:t.done)(hk:k<t.xs.length):t.xs[k]=mkN t.n:=by
 have h1:=h.xm;have h2:t.xs[k]?=(List.replicate t.xs.length (mkN t.n))[k]?:=qp (λ l=>l[k]?) h1;rw [List.getElem?_eq_getElem hk,List.getElem?_replicate,qC hk] at h2;injection h2
theorem Lk {t:Slot}(h:t.done)(hk:k<t.ys.length):t.ys[k]=mkN t.n:=by
 have h2:t.ys[k]?=(List.replicate (t.xs.length+70) (mkN t.n))[k]?:=qp (λ l=>l[k]?) h.ym;rw [List.getElem?_eq_getElem hk,List.getElem?_replicate,qC (by rw [← pQ h];exact hk)] at h2;injection h2
theorem Kf {t:Slot}(h:t.done)(hk:k<t.ys.length):((!(((t.ys[k]:Nat):Int)==((mkN t.n:Nat):Int))) || (decide ((k:Int)<(t.xs.length:Int))&&(!(((t.xs.getD k 0:Nat):Int)==((mkN t.n:Nat):Int)))))=false:=by
 rw [Lk h hk,beq_self_eq_true,vj,xI];by_cases h2:k<t.xs.length
 ·rw [List.getD_eq_getElem?_getD,List.getElem?_eq_getElem h2,xx,Ll h h2,beq_self_eq_true,vj,Bool.and_false]
 ·rw [zT zo,Bool.false_and]
section
open Rg
variable {P:Program}{Q:Exit→Act→World→Prop}{B N:Nat}{w0:Bs}{Γ:List (Nat × VA)}{Λ:List Lc}{a:Act}{w:World}
def lesA (Λ:List Lc)(d n:Nat):List Le:=(Λ.map λ l=>⟨l.s,l.T,l.H,none,l.A,none⟩)++[⟨d,999999,ptrH,some n,OneC,some (n+1,OneC)⟩]
theorem uX (n m d:Nat)(src:List Src)
  (h:St B w0 N Γ Λ a w) (hob:Obs P Q ⟨ops,N,Γ,lesA Λ d n,sp,λ i=>List.range i⟩ B w0 0 n) (hsz:ops.size=n+m) (hk:Rg.chk ⟨ops,N,Γ,lesA Λ d n,sp,λ i=>List.range i⟩=true)
  (hsrc:src.all (λ s=>match s with | .g k=>(match Γ[k]? with|some x=>Rg.outG ⟨ops,N,Γ,lesA Λ d n,sp,λ i=>List.range i⟩ x.1|none=>false) | .o i=>decide (i<n))=true)
  (hQ:∀ a' w',St B w0 N (src.filterMap (cC ⟨ops,N,Γ,lesA Λ d n,sp,λ i=>List.range i⟩)) Λ a' w'→wpOps P ops Q (List.range' n m) a' w'):(Code.region id ops false).wp P Q a w:=by
 refine Rg.linK (R:=⟨ops,N,Γ,lesA Λ d n,sp,λ i=>List.range i⟩) (m:=m) hsz G hk h (λ y hy hcr=>?_) (λ i hi=>hob.all i zo zo) λ a1 w1 hinv=>?_
 ·rcases qo.1 hy with hy|hy
  ·obtain ⟨l,hl,rfl⟩:=qq.1 hy;exact hl
  ·obtain rfl:=qn.1 hy;cases hcr
 ·exact hQ a1 w1 (ln (λ l' hl'=>⟨none,qo.2 (.inl (qq.2 ⟨l',hl',rfl⟩))⟩) (λ y hy i A' h1=>by
   rcases qo.1 hy with hy|hy
   ·obtain ⟨l,hl,rfl⟩:=qq.1 hy;cases h1
   ·obtain rfl:=qn.1 hy;injection h1 with h1;injection h1 with h1 _;omega) hinv src hsrc)
end
section
open Rg
variable {P:Program}{Q:Exit→Act→World→Prop}{R:Rg}{B i:Nat}{w0:Bs}
theorem mD (hx:Has R B w0 i x (ElP E A)):Wv P Q R B w0 i (.nilCheck x) (ElP E A) :=
 bk λ d T ps af gd a w av=>by
  have h:=hx a w av;obtain ⟨b,o,cs,hv,_⟩:=h;exact ⟨a.eval x,w,by simp [execOp,hv],Grow.refl w,hx a w av⟩
end
theorem M4 (h:n≤2000000000000):IntKind.i64.wrap ((n:Int)+70)=((n+70:Nat):Int):=by rw [wi64 zo zo];rfl
theorem bt:Wk (EqS (.slice none 0 0)).va (SlA 0 [] []).va:=cB rf uF
section
open Rg
variable {R:Rg}{B i:Nat}{w0:Bs}
end
theorem Pc {f:Yn}{E:VA}{r0 r1 rest y:Code}{i t:Nat}(hf:P.funcs[f]?=some fn)(hb:fn.body=some (.seq r0 (.block i (.loop (.seq (.seq r1 (.cond (.tmp t) y (.exit i))) rest)))))(hn:(fn.name== "runtime.NumGoroutine")=false)(hsz:[E].length≤fn.ntmps)(hr:fn.results = #[])
  (h0:∀ (B:Nat) (w0:Bs) (a:Act) (w:World) (Q:Exit→Act→World→Prop),St B w0 fn.ntmps [(0,E)] [] a w→(∀ a w,St B w0 fn.ntmps [(0,E),(2,In 0)] [] a w→Q .normal a w)→r0.wp P Q a w)
  (h1:∀ (B:Nat) (w0:Bs) (a:Act) (w:World) (Q:Exit→Act→World→Prop),St B w0 fn.ntmps [(0,E),(2,In 0)] [] a w→(∀ a w,St B w0 fn.ntmps [(t,Bo false)] [] a w→Q .normal a w)→r1.wp P Q a w):Cn P f [E] (Tu []):=by
 refine Cn.intro hf hb hn hsz (λ B w0 a U=>?_);refine qb (h0 B w0 a _ _ U λ a w U=>?_);refine aa<|qk<|wp_loop_ghost (λ n a w=>St B w0 fn.ntmps [(0,E),(2,In 0)] [] a w) 0 U ?_;intro n a w U;refine qb<|qb (h1 B w0 a w _ U λ a w U=>?_);refine zJ 0 U G (λ hb0=>?_) (λ hb0=>?_)
 ·exact absurd hb0 zd
 exact qL<|ai<|ai<|az<|dg<|aP (rs:=[]) hr U .nil zd
theorem Rd {f:Yn}{E:VA}{r0 r1 r2 r3 rest y:Code}{i t:Nat}(hf:P.funcs[f]?=some fn)(hb:fn.body=some (.seq r0 (.seq (.seq r3 (.block i (.loop (.seq (.seq r1 (.cond (.tmp t) y (.exit i))) rest)))) (.seq r2 .ret))))(hn:(fn.name== "runtime.NumGoroutine")=false)(hsz:[E].length≤fn.ntmps)(hr:fn.results = #[.tmp 2])
  (h0:∀ (B:Nat) (w0:Bs) (a:Act) (w:World) (Q:Exit→Act→World→Prop),St B w0 fn.ntmps [(0,E)] [] a w→(∀ a w,St B w0 fn.ntmps [(0,E)] [] a w→Q .normal a w)→r0.wp P Q a w)
  (h3:∀ (B:Nat) (w0:Bs) (a:Act) (w:World) (Q:Exit→Act→World→Prop),St B w0 fn.ntmps [(0,E)] [] a w→(∀ a w,St B w0 fn.ntmps [(0,E),(3,In 0)] [] a w→Q .normal a w)→r3.wp P Q a w)
  (h1:∀ (B:Nat) (w0:Bs) (a:Act) (w:World) (Q:Exit→Act→World→Prop),St B w0 fn.ntmps [(0,E),(3,In 0)] [] a w→(∀ a w,St B w0 fn.ntmps [(0,E),(t,Bo false)] [] a w→Q .normal a w)→r1.wp P Q a w)
  (h2:∀ (B:Nat) (w0:Bs) (a:Act) (w:World) (Q:Exit→Act→World→Prop),St B w0 fn.ntmps [(0,E),(t,Bo false)] [] a w→(∀ a w,St B w0 fn.ntmps [(2,Bo true)] [] a w→Q .normal a w)→r2.wp P Q a w):Cn P f [E] (Bo true):=by
 refine Cn.intro hf hb hn hsz (λ B w0 a U=>?_);refine qb (h0 B w0 a _ _ U λ a w U=>?_);refine zt<|qb (h3 B w0 a w _ U λ a w U=>?_);refine aa<|qk<|wp_loop_ghost (λ n a w=>St B w0 fn.ntmps [(0,E),(3,In 0)] [] a w) 0 U ?_;intro n a w U;refine qb<|qb (h1 B w0 a w _ U λ a w U=>?_);refine zJ 1 U G (λ hb0=>?_) (λ hb0=>?_)
 ·exact absurd hb0 zd
 refine qL<|ai<|ai<|az<|aa<|qb (h2 B w0 a w _ U λ a w U=>?_);exact aa<|qh<|am hr U (zm 0 G)
theorem dp {f:Yn}{e:Yh}{k o i i0 i1:Nat}{SH EE X1 X2:Yh}{T0:Yh}{p0:Yw}{a0:Yx}{T1:Yh}{p1:Yw}{a1:Yx}{T2:Yh}{p2:Yw}{a2:Yx}{T3:Yh}{p3:Yw}{a3:Yx}{T4:Yh}{p4:Yw}{a4:Yx}{T5:Yh}{p5:Yw}{a5:Yx}{T6:Yh}{p6:Yw}{a6:Yx}{T7:Yh}{p7:Yw}{a7:Yx}{rest y:Code}(hf:P.funcs[f]?=some fn)(hb:fn.body=some (.seq (.region i0 #[⟨some 2,.assign (.const (.int .i64 0)),T0,p0,a0,none⟩] false) (.block i (.loop (.seq (.seq (.region i1 #[⟨some 5,.move (.tmp 2),T1,p1,a1,none⟩,⟨some 6,.move (.tmp 0),T2,p2,a2,none⟩,⟨some 7,.nilCheck (.tmp 6),T3,p3,a3,none⟩,⟨some 8,.fieldAddr 60 (.tmp 7) k,T4,p4,a4,none⟩,⟨some 9,.load SH (.tmp 8),T5,p5,a5,none⟩,⟨some 10,.call ⟨.builtin .len,#[.tmp 9],#[SH]⟩,T6,p6,a6,none⟩,⟨some 11,.binOp .lss X1 (.tmp 5) (.tmp 10) X2,T7,p7,a7,none⟩] false) (.cond (.tmp 11) y (.exit i))) rest)))))(hn:(fn.name== "runtime.NumGoroutine")=false)(hN:fn.ntmps=35)(hr:fn.results = #[])(hfl:Fld P 60 k o A1.n)(hS:Sub A0 o A1)(hty:Ty P SH A1.n A1.ag)(hU:P.underlying SH=some (.slice EE))(hA:Wk A1.va (SlA e [] []).va):Cn P f [ElP 60 A0] (Tu []):=by
 refine Pc hf hb hn (by rw [hN];exact jy G) hr ?_ ?_ <;> rw [hN]
 ·exact (λ B w0 a w Q U k=>zh UA Rk U (zE G ab) k)
 ·exact (λ B w0 a w Q U k=>zh (WG 5) [.o 6] U (zM 1 G (zM 0 G (zv G (mD (vq 1 G)) (zv G (bK (vq 2 G) hfl hS) (zv G (ao (vq 3 G) hty) (zv G (bg hU (has_wk' (vq 4 G) hA)) (zv G (aN (vq 0 G) (vq 5 G)) o0))))))) k)
theorem dn {f:Yn}{e:Yh}{k o i i0 i1:Nat}{SH EE X1 X2:Yh}{T0:Yh}{p0:Yw}{a0:Yx}{T1:Yh}{p1:Yw}{a1:Yx}{T2:Yh}{p2:Yw}{a2:Yx}{T3:Yh}{p3:Yw}{a3:Yx}{T4:Yh}{p4:Yw}{a4:Yx}{T5:Yh}{p5:Yw}{a5:Yx}{T6:Yh}{p6:Yw}{a6:Yx}{T7:Yh}{p7:Yw}{a7:Yx}{rest y:Code}(hf:P.funcs[f]?=some fn)(hb:fn.body=some (.seq (.region i0 #[⟨some 2,.assign (.const (.int .i64 0)),T0,p0,a0,none⟩] false) (.block i (.loop (.seq (.seq (.region i1 #[⟨some 6,.move (.tmp 2),T1,p1,a1,none⟩,⟨some 7,.move (.tmp 0),T2,p2,a2,none⟩,⟨some 8,.nilCheck (.tmp 7),T3,p3,a3,none⟩,⟨some 9,.fieldAddr 60 (.tmp 8) k,T4,p4,a4,none⟩,⟨some 10,.load SH (.tmp 9),T5,p5,a5,none⟩,⟨some 11,.call ⟨.builtin .len,#[.tmp 10],#[SH]⟩,T6,p6,a6,none⟩,⟨some 12,.binOp .lss X1 (.tmp 6) (.tmp 11) X2,T7,p7,a7,none⟩] false) (.cond (.tmp 12) y (.exit i))) rest)))))(hn:(fn.name== "runtime.NumGoroutine")=false)(hN:fn.ntmps=42)(hr:fn.results = #[])(hfl:Fld P 60 k o A1.n)(hS:Sub A0 o A1)(hty:Ty P SH A1.n A1.ag)(hU:P.underlying SH=some (.slice EE))(hA:Wk A1.va (SlA e [] []).va):Cn P f [ElP 60 A0] (Tu []):=by
 refine Pc hf hb hn (by rw [hN];exact jy G) hr ?_ ?_ <;> rw [hN]
 ·exact (λ B w0 a w Q U k=>zh UA Rk U (zE G ab) k)
 ·exact (λ B w0 a w Q U k=>zh (WG 6) [.o 6] U (zM 1 G (zM 0 G (zv G (mD (vq 1 G)) (zv G (bK (vq 2 G) hfl hS) (zv G (ao (vq 3 G) hty) (zv G (bg hU (has_wk' (vq 4 G) hA)) (zv G (aN (vq 0 G) (vq 5 G)) o0))))))) k)
theorem dm {f:Yn}{e:Yh}{k o i i0 i1 i8 i9:Nat}{SH EE X1 X2:Yh}{T0:Yh}{p0:Yw}{a0:Yx}{T1:Yh}{p1:Yw}{a1:Yx}{T2:Yh}{p2:Yw}{a2:Yx}{T3:Yh}{p3:Yw}{a3:Yx}{T4:Yh}{p4:Yw}{a4:Yx}{T5:Yh}{p5:Yw}{a5:Yx}{T6:Yh}{p6:Yw}{a6:Yx}{T7:Yh}{p7:Yw}{a7:Yx}{T8:Yh}{p8:Yw}{a8:Yx}{T9:Yh}{p9:Yw}{a9:Yx}{rest y:Code}(hf:P.funcs[f]?=some fn)(hb:fn.body=some (.seq (.region i0 #[⟨some 2,.assign (.const (.bool false)),T0,p0,a0,none⟩] false) (.seq (.seq (.region i8 #[⟨some 3,.assign (.const (.int .i64 0)),T8,p8,a8,none⟩] false) (.block i (.loop (.seq (.seq (.region i1 #[⟨some 6,.move (.tmp 3),T1,p1,a1,none⟩,⟨some 7,.move (.tmp 0),T2,p2,a2,none⟩,⟨some 8,.nilCheck (.tmp 7),T3,p3,a3,none⟩,⟨some 9,.fieldAddr 60 (.tmp 8) k,T4,p4,a4,none⟩,⟨some 10,.load SH (.tmp 9),T5,p5,a5,none⟩,⟨some 11,.call ⟨.builtin .len,#[.tmp 10],#[SH]⟩,T6,p6,a6,none⟩,⟨some 12,.binOp .lss X1 (.tmp 6) (.tmp 11) X2,T7,p7,a7,none⟩] false) (.cond (.tmp 12) y (.exit i))) rest)))) (.seq (.region i9 #[⟨some 2,.assign (.const (.bool true)),T9,p9,a9,none⟩] false) .ret))))(hn:(fn.name== "runtime.NumGoroutine")=false)(hN:fn.ntmps=64)(hr:fn.results = #[.tmp 2])(hfl:Fld P 60 k o A1.n)(hS:Sub A0 o A1)(hty:Ty P SH A1.n A1.ag)(hU:P.underlying SH=some (.slice EE))(hA:Wk A1.va (SlA e [] []).va):Cn P f [ElP 60 A0] (Bo true):=by
 refine Rd hf hb hn (by rw [hN];exact jy G) hr ?_ ?_ ?_ ?_ <;> rw [hN]
 ·exact (λ B w0 a w Q U k=>zh UA UL U (zE G aE) k)
 ·exact (λ B w0 a w Q U k=>zh [.v 3 _] Rk U (zE G ab) k)
 ·exact (λ B w0 a w Q U k=>zh (WG 6) [.g 0,.o 6] U (zM 1 G (zM 0 G (zv G (mD (vq 1 G)) (zv G (bK (vq 2 G) hfl hS) (zv G (ao (vq 3 G) hty) (zv G (bg hU (has_wk' (vq 4 G) hA)) (zv G (aN (vq 0 G) (vq 5 G)) o0))))))) k)
 ·exact (λ B w0 a w Q U k=>zh UA U2 U (zE G aE) k)
abbrev filL (L:List Slot):List Slot:=L.map λ s=>s.fil s.xs.length
theorem FY {s:Slot}(h:s.new):(s.fil s.xs.length).full:=by
 have e:(s.fil s.xs.length).xs=List.replicate s.xs.length (mkN s.n):=by
  show List.replicate s.xs.length (mkN s.n)++s.xs.drop s.xs.length=_;rw [xL,zX]
 exact ⟨D6 h.towf (qi _),h.uv,rfl,by rw [e,zc];rfl⟩
theorem se {L:List Slot}(h:∀ s∈L,s.new):∀ s∈filL L,s.full:=λ s hs=>by
 obtain ⟨t,ht,rfl⟩:=qq.1 hs;exact FY (h t ht)
section
open Rg
variable {P:Program}{Q:Exit→Act→World→Prop}{B N:Nat}{w0:Bs}{Γ:List (Nat × VA)}{Λ:List Lc}{a:Act}{w:World}
theorem CJ {R:Rg}{L:Nat→Bool}(hL:∀ i,n≤i→L i=false)(hles:∀ l'∈Λ,∃ st,(⟨l'.s,l'.T,l'.H,none,l'.A,st⟩:Le)∈R.les)(hles2:∀ y∈R.les,∀ i A,y.st=some (i,A)→n≤i)(hinv:R.Inv B w0 L a w)(src:List Src)
  (hsrc:src.all (λ s=>match s with | .g k=>(match R.Γ[k]? with|some x=>Rg.outG R x.1|none=>false) | .o i=>L i)=true):St B w0 R.N (src.filterMap (cC R)) Λ a w:=by
 have hcl:∀ deps,Rg.clash R L deps=false:=λ deps=>by
  unfold Rg.clash;rw [xu];intro y hy;cases U:y.st with
  | none=>simp
  | some x =>
   obtain ⟨i,B'⟩:=x;have:=hles2 y hy i B' U;have hno:=hL i zo;simp [hno]
 have hcur:∀ y∈R.les,y.cr=none→Rg.cur L y=some y.A0:=λ y hy h0=>by
  unfold Rg.cur;rw [h0];simp only [Rg.crOk,if_true];cases U:y.st with
  | none=>rfl
  | some x =>
   obtain ⟨i,B'⟩:=x;have:=hles2 y hy i B' U;have hno:=hL i zo;simp [hno]
 refine ⟨hinv.lo,hinv.defers,hinv.size,hinv.base,λ x hx=>?_,λ l' hl'=>?_,λ l1 h1 l2 h2 hne=>?_⟩
 rotate_left
 ·obtain ⟨st,hy⟩:=hles l' hl';exact hinv.c _ hy l'.A (hcur _ hy G)
 ·obtain ⟨s1,hy1⟩:=hles l1 h1;obtain ⟨s2,hy2⟩:=hles l2 h2;exact hinv.x _ hy1 _ hy2 hne (by rw [hcur _ hy1 rfl];rfl) (by rw [hcur _ hy2 rfl];rfl)
 obtain ⟨s,hs1,hs2⟩:=qR.1 hx;have ho:=qe.1 hsrc s hs1;cases s with
 | g k =>
  simp only [cC] at hs2;simp only [hs2] at ho;refine hinv.g x (qa hs2) (λ q hq hdq=>?_) (hcl _);cases h2:R.ops[q]? with
  | none=>unfold Rg.dst at hdq;rw [h2] at hdq;cases hdq
  | some v =>
   have:=qe.1 ho q (by simpa using (Array.getElem?_eq_some_iff.1 h2).1);exact absurd hdq (by simpa using this)
 | o i =>
  simp only [cC] at hs2;cases hy:R.sp[i]? with
  | none=>rw [hy] at hs2;cases hs2
  | some y =>
   rw [hy] at hs2;exact hinv.v i y x.1 x.2 hy hs2 ho (hcl _)
end
section
variable {P:Program}{R:Rg}{Q:Exit→Act→World→Prop}{B:Nat}{w0:Bs}{a:Act}{w:World}
open Rg in
theorem Rg.drawJ (z:Nat)(hz:z<n)(hsz2:R.ops.size=n+m)(hm0:0<m)(hm:P.follows .mixedOrders=true)(hanc:ancOk R=true)(J:(Nat→Bool)→Act→Yi→Prop)(hJc:∀ {L L':Nat→Bool}{a:Act}{w:Yi},J L a w→(∀ k,L' k=L k)→J L' a w)(hJ0:J (λ _=>false) a w.drew)
  (hJs:∀ i,i<n→∀ (L:Nat→Bool) (a:Act) (w:World),J L a w→cG R L→L i=false→(∀ j,(R.anc i).contains j=true→L j=true)→∀ K:Act→World→Prop,(∀ a' w',J (upd L i) a' w'→K a' w')→wpOp P R.ops Q i K a w) (ha0:∀ j,j<n→j≠z→(R.anc n).contains j=true) (ha1:∀ i,n<i→i<n+m→∀ j,j<i→(R.anc i).contains j=true)
  (hQ:∀ a w,J (λ k=>decide (k<n)) a w→wpOps P R.ops Q (List.range' n m) a w) (hQz:(R.anc n).contains z=false→∀ a w,J (λ k=>decide (k<n)&&k != z) a w→wpOps P R.ops Q (n::z::List.range' (n+1) (m-1)) a w) :
  (Code.region id R.ops true).wp P Q a w:=by
 refine wp_region_any hm ?_;have ho:∀ i,i<R.ops.size→∃ o:Oper,R.ops[i]?=some o∧(∀ j,(R.anc i).contains j=true→∃ e∈o.after,Region.binds .any e=true∧(e.on=j∨(R.anc e.on).contains j=true)) ∧
   ∀ e∈o.after,Region.binds .any e=true→e.on<i:=by
  intro i hi;have:=qe.1 hanc i (by simpa using hi);cases hoi:R.ops[i]? with
  | none=>rw [hoi] at this;cases this
  | some o =>
   rw [hoi] at this;simp only [ql] at this;refine ⟨o,rfl,λ j hj=>?_,λ e he hb=>?_⟩
   ·have hh:=qe.1 this.1 j (by simpa using hj);obtain ⟨e,he,h1⟩:=jU.1 hh;simp only [ql,z4,xv] at h1;exact ⟨e,he,h1.1,h1.2⟩
   ·have hh:=z6.1 this.2 e he;simpa [hb] using hh
 have hrd:∀ (listed:Array Bool) i,i∈Region.ready .any R.ops listed→i<R.ops.size∧listed.getD i true=false∧∀ o,R.ops[i]?=some o→∀ e∈o.after,Region.binds .any e=true→listed.getD e.on false=true:=by
  intro listed i hi;unfold Region.ready at hi;obtain ⟨h1,h2⟩:=z5.1 hi;simp only [ql,qy] at h2;refine ⟨by simpa using h1,h2.1,λ o hoi e he hb=>?_⟩;have h3:=h2.2;rw [hoi] at h3;simp only [qT,xx] at h3;have:=z6.1 h3 e he;simpa [hb] using this
 have hset:∀ (listed:Array Bool) (i k:Nat),listed.size=R.ops.size→i<R.ops.size→(listed.setIfInBounds i true).getD k false=upd (λ i=>listed.getD i false) i k:=by
  intro listed i k hsz hi;unfold upd;by_cases hki:k=i
  ·subst hki;simp [hsz,hi]
  ·simp [hki,Array.getElem?_setIfInBounds_ne (λ e=>hki e.symm)]
 have hpos:∀ (listed:Array Bool) (i:Nat),i<R.ops.size→listed.getD i false=false→0<(List.range R.ops.size).countP (λ k => !listed.getD k false):=λ listed i hi hl =>
  jI.2 ⟨i,by simpa using hi,by simp only [hl];rfl⟩
 have hlt:∀ (listed:Array Bool) (i:Nat),listed.size=R.ops.size→i<R.ops.size→listed.getD i false=false→(List.range R.ops.size).countP (λ k => !(listed.setIfInBounds i true).getD k false)<(List.range R.ops.size).countP (λ k => !listed.getD k false):=by
  intro listed i hsz hi hLi;refine eR (x:=i) (λ x hx=>?_) (by simpa using hi) (by rw [hLi];rfl) (by rw [hset listed i i hsz hi,ci];rfl);have hx':upd (λ i=>listed.getD i false) i x=false:=by
   rw [← hset listed i x hsz hi];simpa only [qy] using hx
  rw [(dK hx').2]
  rfl
 have hfull:∀ (listed:Array Bool),listed.size=R.ops.size→Region.ready .any R.ops listed=[]→∀ k,k<R.ops.size→listed.getD k false=true:=by
  intro listed hsz hr k
  induction k using Nat.strongRecOn with
  | _ k ih =>
   intro hkn;cases hl:listed.getD k false with
   | true=>rfl
   | false =>
    exfalso;obtain ⟨x,ho1,_,ho3⟩:=ho k hkn;have:k∈Region.ready .any R.ops listed:=by
     unfold Region.ready;refine z5.2 ⟨by simpa using hkn,?_⟩;have h0:listed.getD k true=false:=by
      simp only [Array.getD,hsz,hkn,dite_true] at hl ⊢;exact hl
     rw [h0,ho1];simp only [jT,kr,qT,xx];refine z6.2 λ e he=>?_;cases hb:Region.binds .any e with
     | false=>rfl
     | true=>simpa using ih e.on (ho3 e he hb) (zD (ho3 e he hb) hkn)
    rw [hr] at this;cases this
 have hancL:∀ (listed:Array Bool) i,cG R (λ i=>listed.getD i false)→i∈Region.ready .any R.ops listed→∀ j,(R.anc i).contains j=true→listed.getD j false=true:=by
  intro listed i hcl hir j hj;obtain ⟨h1,h2,h3⟩:=hrd listed i hir;obtain ⟨x,ho1,ho2,_⟩:=ho i h1;obtain ⟨e,he,hb,hj'⟩:=ho2 j hj;have hl:=h3 x ho1 e he hb;rcases hj' with rfl|hj'
  ·exact hl
  ·exact hcl e.on hl j hj'
 have hclN:∀ (listed:Array Bool) i,listed.size=R.ops.size→cG R (λ i=>listed.getD i false)→i∈Region.ready .any R.ops listed→cG R (λ k=>(listed.setIfInBounds i true).getD k false):=by
  intro listed i hsz hcl hir k hk' j hj;obtain ⟨h1,_,_⟩:=hrd listed i hir;have hk2:upd (λ i=>listed.getD i false) i k=true:=by rw [← hset listed i k hsz h1];exact hk'
  show (listed.setIfInBounds i true).getD j false=true;rw [hset listed i j hsz h1];rcases rG hk2 with rfl|h4
  ·exact cX _ (hancL listed k hcl hir j hj)
  ·exact cX _ (hcl k h4 j hj)
 have tail:∀ q k,k+q=n+m→n≤k→∀ fuel (listed:Array Bool) a w,listed.size=R.ops.size→(List.range R.ops.size).countP (λ i => !listed.getD i false)≤fuel→cG R (λ i=>listed.getD i false) →
   (∀ j,j<k→listed.getD j false=true)→(∀ j,k≤j→j<n+m→listed.getD j false=false)→wpOps P R.ops Q (List.range' k q) a w→wpAny P .any R.ops Q fuel listed a w:=by
  intro q
  induction q with
  | zero =>
   intro k hkq hnk fuel listed a w hsz hcnt hcl hall _ hwp;have hr:Region.ready .any R.ops listed=[]:=by
    cases hrr:Region.ready .any R.ops listed with
    | nil=>rfl
    | cons i rest =>
     obtain ⟨h1,h2,_⟩:=hrd listed i (by rw [hrr];simp);have:=hall i zo;simp only [Array.getD,hsz,h1,dite_true] at h2 this;rw [h2] at this;cases this
   cases fuel with
   | zero=>exact ⟨hr,hwp⟩
   | succ fuel=>exact ⟨λ _=>hwp,λ i hir=>by rw [hr] at hir;cases hir⟩
  | succ q ih =>
   intro k hkq hnk fuel listed a w hsz hcnt hcl hall hnone hwp;have hLk:listed.getD k false=false:=hnone k (qi _) zo;have hp:=hpos listed k zo hLk;cases fuel with
   | zero=>omega
   | succ fuel =>
    refine ⟨λ hr=>absurd (hfull listed hsz hr k zo) (by rw [hLk];decide),λ i hir=>?_⟩;obtain ⟨h1,h2,h3⟩:=hrd listed i hir;have hik:i=k:=by
     by_cases e:i=k
     ·exact e
     ·exfalso;by_cases hlt':i<k
      ·have:=hall i hlt';simp only [Array.getD,hsz,h1,dite_true] at h2 this;rw [h2] at this;cases this
      ·have:=hancL listed i hcl hir k (ha1 i zo zo k zo);rw [hLk] at this;cases this
    subst hik;rw [List.range'_succ,qx] at hwp;refine wpOp_mono (λ a' w' hr=>ih (i+1) zo zo fuel _ a' w' (by simpa using hsz) ?_ (hclN listed i hsz hcl hir) (λ j hj=>?_) (λ j hj hj2=>?_) hr) hwp
    ·have:=hlt listed i hsz h1 hLk;omega
    ·rw [hset listed i j hsz h1];by_cases e:j=i
     ·rw [e];exact ci _ _
     ·exact cX _ (hall j zo)
    ·rw [hset listed i j hsz h1,d9 _ zo];exact hnone j zo hj2
 have tailz:∀ fuel (listed:Array Bool) a w,listed.size=R.ops.size→(List.range R.ops.size).countP (λ i => !listed.getD i false)≤fuel→cG R (λ i=>listed.getD i false) →
   (∀ j,j<n→j≠z→listed.getD j false=true)→listed.getD z false=false→listed.getD n false=true→(∀ j,n+1≤j→j<n+m→listed.getD j false=false)→wpOps P R.ops Q (z::List.range' (n+1) (m-1)) a w→wpAny P .any R.ops Q fuel listed a w:=by
  intro fuel listed a w hsz hcnt hcl hall hzf hnt hnone hwp;have hp:=hpos listed z zo hzf;cases fuel with
  | zero=>omega
  | succ fuel =>
   refine ⟨λ hr=>absurd (hfull listed hsz hr z zo) (by rw [hzf];decide),λ i hir=>?_⟩;obtain ⟨h1,h2,h3⟩:=hrd listed i hir;have hLi:listed.getD i false=false:=by
    simp only [Array.getD,hsz,h1,dite_true] at h2 ⊢;exact h2
   have hiz:i=z:=by
    by_cases e:i=z
    ·exact e
    ·exfalso;by_cases hlt':i<n
     ·rw [hall i hlt' e] at hLi;cases hLi
     ·by_cases e2:i=n
      ·rw [e2,hnt] at hLi;cases hLi
      ·have:=hancL listed i hcl hir z (ha1 i zo zo z zo);rw [hzf] at this;cases this
   subst hiz;rw [qx] at hwp;refine wpOp_mono (λ a' w' hr=>tail (m-1) (n+1) zo zo fuel _ a' w' (by simpa using hsz) ?_ (hclN listed i hsz hcl hir) (λ j hj=>?_) (λ j hj hj2=>?_) hr) hwp
   ·have:=hlt listed i hsz h1 hLi;omega
   ·rw [hset listed i j hsz h1];by_cases e:j=i
    ·rw [e];exact ci _ _
    ·by_cases e2:j=n
     ·rw [e2];exact cX _ hnt
     ·exact cX _ (hall j zo e)
   ·rw [hset listed i j hsz h1,d9 _ zo];exact hnone j zo hj2
 have key:∀ fuel (listed:Array Bool) a w,listed.size=R.ops.size→(List.range R.ops.size).countP (λ i => !listed.getD i false)≤fuel→cG R (λ i=>listed.getD i false) →
   (∀ j,n≤j→j<n+m→listed.getD j false=false)→J (λ i=>listed.getD i false) a w→wpAny P .any R.ops Q fuel listed a w:=by
  intro fuel
  induction fuel with
  | zero =>
   intro listed a w hsz hcnt hcl hn0 hi;have:=hpos listed n zo (hn0 n (qi _) zo);omega
  | succ fuel ih =>
   intro listed a w hsz hcnt hcl hn0 hi;have hn00:=hn0 n (qi _) zo;by_cases hdone:∀ j,j<n→listed.getD j false=true
   ·refine tail m n G (qi _) (fuel+1) listed a w hsz hcnt hcl hdone hn0 (hQ a w (hJc hi λ k=>?_));by_cases hkn:k<n
    ·rw [hdone k hkn];simp [hkn]
    ·by_cases hkm:k<n+m
     ·rw [hn0 k zo hkm];simp [hkn]
     ·have:listed.getD k false=false:=by simp [Array.getD,hsz,hsz2,hkm]
      rw [this];simp [hkn]
   ·refine ⟨λ hr=>absurd (hfull listed hsz hr n zo) (by rw [hn00];decide),λ i hir=>?_⟩;obtain ⟨h1,h2,h3⟩:=hrd listed i hir;have hLi:listed.getD i false=false:=by
     simp only [Array.getD,hsz,h1,dite_true] at h2 ⊢;exact h2
    by_cases hin:i<n
    ·refine hJs i hin _ _ _ hi hcl hLi (hancL listed i hcl hir) _ λ a' w' hi'=>ih _ _ _ (by simpa using hsz) ?_ (hclN listed i hsz hcl hir) ?_ (hJc hi' λ k=>hset listed i k hsz h1)
     ·have:=hlt listed i hsz h1 hLi;omega
     ·intro j hj hj2;rw [hset listed i j hsz h1,d9 _ zo];exact hn0 j hj hj2
    ·by_cases hgt:n<i
     ·exact absurd (λ j hj=>hancL listed i hcl hir j (ha1 i hgt zo j zo)) hdone
     ·have hin':i=n:=by omega
      have hjs:∀ j,j<n→j≠z→listed.getD j false=true:=λ j hj hne=>hancL listed i hcl hir j (by rw [hin'];exact ha0 j hj hne);have hzf:listed.getD z false=false:=by
       cases hh:listed.getD z false with
       | false=>rfl
       | true=>exact absurd (λ j hj=>if e:j=z then e▸hh else hjs j hj e) hdone
      have hnc:(R.anc n).contains z=false:=by
       cases hh:(R.anc n).contains z with
       | false=>rfl
       | true=>exact absurd (hancL listed i hcl hir z (by rw [hin'];exact hh)) (by rw [hzf];decide)
      have hwp:=hQz hnc a w (hJc hi λ k=>by
       by_cases hkn:k<n
       ·by_cases hkz:k=z
        ·subst hkz;rw [hzf];simp
        ·rw [hjs k hkn hkz];simp [hkn,hkz]
       ·by_cases hkm:k<n+m
        ·rw [hn0 k zo hkm];simp [hkn]
        ·have:listed.getD k false=false:=by simp [Array.getD,hsz,hsz2,hkm]
         rw [this];simp [hkn])
      rw [qx] at hwp;rw [hin'];rw [hin'] at hir hLi h1;refine wpOp_mono (λ a' w' hr=>tailz fuel _ a' w' (by simpa using hsz) ?_ (hclN listed n hsz hcl hir) (λ j hj hne=>?_) ?_ ?_ (λ j hj hj2=>?_) hr) hwp
      ·have:=hlt listed n hsz h1 hLi;omega
      ·rw [hset listed n j hsz h1];exact cX _ (hjs j hj hne)
      ·rw [hset listed n z hsz h1,d9 _ zo];exact hzf
      ·rw [hset listed n n hsz h1];exact ci _ _
      ·rw [hset listed n j hsz h1,d9 _ zo];exact hn0 j zo hj2
 refine key _ _ a _ (by simp) ?_ ?_ ?_ ?_
 ·refine qf (jz) (by simp)
 ·intro i hi;exfalso;simp only [Array.getD,qO] at hi;split at hi <;> simp at hi
 ·intro j hj hj2;simp only [Array.getD,qO];split <;> simp
 ·refine hJc hJ0 λ k=>?_;simp only [Array.getD,qO];split <;> simp
open Rg in
theorem Rg.drawZ (z:Nat)(hz:z<n)(hsz2:R.ops.size=n+m)(hm0:0<m)(hm:P.follows .mixedOrders=true)(hanc:ancOk R=true)(hk:R.chk=true)(h:St B w0 R.N R.Γ Λ a w)(hles:∀ e∈R.les,e.cr=none→(⟨e.s,e.T,e.H,e.A0⟩:Lc)∈Λ)
  (hob:∀ i,i<n→R.Ob P Q B w0 i) (ha0:∀ j,j<n→j≠z→(R.anc n).contains j=true) (ha1:∀ i,n<i→i<n+m→∀ j,j<i→(R.anc i).contains j=true)
  (hQ:∀ a w,R.Inv B w0 (λ k=>decide (k<n)) a w→wpOps P R.ops Q (List.range' n m) a w) (hQz:∀ a w,R.Inv B w0 (λ k=>decide (k<n)&&k != z) a w→wpOps P R.ops Q (n::z::List.range' (n+1) (m-1)) a w) :
  (Code.region id R.ops true).wp P Q a w:=by
 have hs:=start h hles;have hd:R.Inv B w0 (λ _=>false) a w.drew:=⟨hs.lo,hs.defers.grow (Grow.drew w) rfl,hs.size,hs.base.drew,λ x hx h1 h2=>x.2.grow _ _ _ _ (Grow.drew w) (hs.g x hx h1 h2),(λ i y d A _ _ hf=>by cases hf),(λ i d b k c _ hf=>by cases hf),
  λ e he A hA=>(hs.c e he A hA).grow (Grow.drew w),hs.x⟩
 exact Rg.drawJ z hz hsz2 hm0 hm hanc (λ L a w=>R.Inv B w0 L a w) (λ h hk'=>h.congr hk') hd (λ i hi L a w hJ hcl hL ha K hK=>step hk (hob i hi) hJ hcl hL ha K hK) ha0 ha1 hQ (λ _=>hQz)
end
section
open Rg
variable {P:Program}{Q:Exit→Act→World→Prop}{B N:Nat}{w0:Bs}{Γ:List (Nat × VA)}{Λ:List Lc}{a:Act}{w:World}
theorem uW (anc:List (Ya))(n m e j z:Nat)(A:As)(src srcz:List Src)(hmx:P.follows .mixedOrders=true)
  (h:St B w0 N Γ Λ a w) (hob:Obs P Q ⟨ops,N,Γ,lesS Λ e j A,sp,λ i=>anc.getD i []⟩ B w0 0 n) (hsz:ops.size=n+m) (hm:0<m) (hj:n≤j) (hz:z<n) (hanc:Rg.ancOk ⟨ops,N,Γ,lesS Λ e j A,sp,λ i=>anc.getD i []⟩=true)
  (ha0:(List.range n).all (λ j=>j==z || (anc.getD n []).contains j)=true) (hall:∀ i,n+1≤i→i<n+1+(m-1)→∀ j,j<i→(anc.getD i []).contains j=true) (hk:Rg.chk ⟨ops,N,Γ,lesS Λ e j A,sp,λ i=>anc.getD i []⟩=true)
  (hsrc:src.all (λ s=>match s with | .g k=>(match Γ[k]? with|some x=>Rg.outG ⟨ops,N,Γ,lesS Λ e j A,sp,λ i=>anc.getD i []⟩ x.1|none=>false) | .o i=>decide (i<n))=true)
  (hsrcz:srcz.all (λ s=>match s with | .g k=>(match Γ[k]? with|some x=>Rg.outG ⟨ops,N,Γ,lesS Λ e j A,sp,λ i=>anc.getD i []⟩ x.1|none=>false) | .o i=>decide (i<n)&&i != z)=true)
  (hQ:∀ a' w',St B w0 N (src.filterMap (cC ⟨ops,N,Γ,lesS Λ e j A,sp,λ i=>anc.getD i []⟩)) Λ a' w'→wpOps P ops Q (List.range' n m) a' w')
  (hQz:∀ a' w',St B w0 N (srcz.filterMap (cC ⟨ops,N,Γ,lesS Λ e j A,sp,λ i=>anc.getD i []⟩)) Λ a' w'→wpOps P ops Q (n::z::List.range' (n+1) (m-1)) a' w'):(Code.region id ops true).wp P Q a w:=by
 have hl1:∀ l'∈Λ,∃ st,(⟨l'.s,l'.T,l'.H,none,l'.A,st⟩:Le)∈lesS Λ e j A:=λ l' hl'=>by
  obtain ⟨j',hj'⟩:=List.getElem?_of_mem hl';exact ⟨_,qq.2 ⟨(l',j'),zj.2 hj',rfl⟩⟩
 have hl2:∀ y∈lesS Λ e j A,∀ i A',y.st=some (i,A')→n≤i:=λ y hy i B' h1=>by have:=(ek y hy).2.2 i B' h1;omega
 refine Rg.drawZ (R:=⟨ops,N,Γ,lesS Λ e j A,sp,λ i=>anc.getD i []⟩) (m:=m) z hz hsz hm hmx hanc hk h (λ y hy _=>(ek y hy).2.1) (λ i hi=>hob.all i zo zo) (λ j hj hne=>?_) (λ i h1 h2 j hj=>hall i zo zo j hj) (λ a1 w1 hinv=>?_) λ a1 w1 hinv=>?_
 ·have:=qe.1 ha0 j (by simpa using hj);simpa [hne] using this
 ·exact hQ a1 w1 (ln hl1 hl2 hinv src hsrc)
 ·exact hQz a1 w1 (CJ (n:=n) (λ i hi=>by simp [show ¬ i<n by omega]) hl1 hl2 hinv srcz hsrcz)
def fP (Λ:List Lc)(e j:Nat)(A:As):List LeF:=Λ.zipIdx.map λ x=>⟨x.1.s,x.1.T,x.1.H,none,x.1.A,if x.2=e then some (j,λ _=>A) else none⟩
theorem pn {e j:Nat}{ν:Yz}:(fP Λ e j A).map (LeF.on ν)=lesS Λ e j A:=by
 unfold fP lesS;rw [xD];refine jl λ x _=>?_;by_cases h:x.2=e <;> simp [LeF.on,h]
theorem CU {sp:List ((Yz)→Sp)}(anc:List (Ya))(n m e j z:Nat)(A:As)(src srcz:List Src)(hmx:P.follows .mixedOrders=true)
  (h:St B w0 N Γ Λ a w) (hob:ObsF P Q ops N Γ (fP Λ e j A) sp (λ i=>anc.getD i []) B w0 0 n) (hdS:DepS (λ i=>anc.getD i []) 0 sp) (hsz:ops.size=n+m) (hm:0<m) (hj:n≤j) (hz:z<n) (hanc:Rg.ancOk (fam ops N Γ (fP Λ e j A) sp (λ i=>anc.getD i []) (λ _=>undef))=true)
  (ha0:(List.range n).all (λ j=>j==z || (anc.getD n []).contains j)=true) (hall:∀ i,n+1≤i→i<n+1+(m-1)→∀ j,j<i→(anc.getD i []).contains j=true) (hk:∀ ν,Rg.chk (fam ops N Γ (fP Λ e j A) sp (λ i=>anc.getD i []) ν)=true)
  (hsrc:∀ ν,src.all (λ s=>match s with | .g k=>(match Γ[k]? with|some x=>Rg.outG (fam ops N Γ (fP Λ e j A) sp (λ i=>anc.getD i []) ν) x.1|none=>false) | .o i=>decide (i<n))=true)
  (hsrcz:∀ ν,srcz.all (λ s=>match s with | .g k=>(match Γ[k]? with|some x=>Rg.outG (fam ops N Γ (fP Λ e j A) sp (λ i=>anc.getD i []) ν) x.1|none=>false) | .o i=>decide (i<n)&&i != z)=true)
  (hQ:∀ ν a' w',St B w0 N (src.filterMap (cC (fam ops N Γ (fP Λ e j A) sp (λ i=>anc.getD i []) ν))) Λ a' w'→wpOps P ops Q (List.range' n m) a' w')
  (hQz:(anc.getD n []).contains z=false→∀ ν a' w',St B w0 N (srcz.filterMap (cC (fam ops N Γ (fP Λ e j A) sp (λ i=>anc.getD i []) ν))) Λ a' w'→wpOps P ops Q (n::z::List.range' (n+1) (m-1)) a' w'):(Code.region id ops true).wp P Q a w:=by
 have hl1:∀ (ν:Nat→Value),∀ l'∈Λ,∃ st,(⟨l'.s,l'.T,l'.H,none,l'.A,st⟩:Le)∈(fP Λ e j A).map (LeF.on ν):=λ ν l' hl'=>by
  obtain ⟨j',hj'⟩:=List.getElem?_of_mem hl';rw [pn];exact ⟨_,qq.2 ⟨(l',j'),zj.2 hj',rfl⟩⟩
 have hl2:∀ (ν:Nat→Value),∀ y∈(fP Λ e j A).map (LeF.on ν),∀ i A',y.st=some (i,A')→n≤i:=λ ν y hy i B' h1=>by
  rw [pn] at hy;have:=(ek y hy).2.2 i B' h1;omega
 have hl3:∀ y∈(fP Λ e j A).map (LeF.on (λ _=>undef)),y.cr=none→(⟨y.s,y.T,y.H,y.A0⟩:Lc)∈Λ:=λ y hy _=>by
  rw [pn] at hy;exact (ek y hy).2.1
 have hdL:∀ y∈fP Λ e j A,∀ j' f,y.st=some (j',f)→Dep (bef (λ i=>anc.getD i []) j') f:=λ y hy j' f hf=>by
  obtain ⟨x,_,rfl⟩:=qq.1 hy;dsimp only at hf;split at hf
  ·injection hf with hf;injection hf with _ hf;subst hf;exact λ _ _ _=>rfl
  ·cases hf
 have hs:=Rg.start (R:=fam ops N Γ (fP Λ e j A) sp (λ i=>anc.getD i []) (λ _=>undef)) h hl3;have hd:(fam ops N Γ (fP Λ e j A) sp (λ i=>anc.getD i []) (λ _=>undef)).Inv B w0 (λ _=>false) a w.drew:=⟨hs.lo,hs.defers.grow (Grow.drew w) rfl,hs.size,hs.base.drew,λ x hx h1 h2=>x.2.grow _ _ _ _ (Grow.drew w) (hs.g x hx h1 h2),(λ i y d A _ _ hf=>by cases hf),(λ i d b k c _ hf=>by cases hf),
  λ e he A hA=>(hs.c e he A hA).grow (Grow.drew w),hs.x⟩
 refine Rg.drawJ (R:=fam ops N Γ (fP Λ e j A) sp (λ i=>anc.getD i []) (λ _=>undef)) (m:=m) z hz hsz hm hmx hanc (λ L a w=>∃ ν,(fam ops N Γ (fP Λ e j A) sp (λ i=>anc.getD i []) ν).Inv B w0 L a w) (λ⟨ν,h⟩ hk'=>⟨ν,h.congr hk'⟩) ⟨_,hd⟩ (λ i hi L a w ⟨ν,hJ⟩ hcl hL ha K hK=>IK hk (λ i f hf=>by have:=hdS.at i f hf;rwa [qV] at this) hdL (hob.all i zo zo) hJ hcl hL ha K λ ν' a' w' hi=>hK a' w' ⟨ν',hi⟩) (λ j hj hne=>?_) (λ i h1 h2 j hj=>hall i zo zo j hj) (λ a1 w1 ⟨ν,hinv⟩=>?_) λ hnc a1 w1 ⟨ν,hinv⟩=>?_
 ·have:=qe.1 ha0 j (by simpa using hj);simpa [hne] using this
 ·exact hQ ν a1 w1 (ln (hl1 ν) (hl2 ν) hinv src (hsrc ν))
 ·exact hQz hnc ν a1 w1 (CJ (n:=n) (λ i hi=>by simp [show ¬ i<n by omega]) (hl1 ν) (hl2 ν) hinv srcz (hsrcz ν))
theorem C0 {K:Ye}{d u:Nat}{T':Yh}{A:VA}(ku:Nat)(ho:ops[i]?=some ⟨some d,.move (.tmp u),T',ps,af,none⟩)(h:St B w0 N Γ Λ a w)
  (hu:Γ[ku]?=some (u,A)) (hd:d<N) (hΓ:Γ.all (λ x=>x.1 != d)=true) (hΛ:Λ.all (λ l=>l.s != d)=true)
  (hK:∀ a',St B w0 N ((d,A)::Γ) Λ a' w→K a' w):wpOp P ops Q i K a w :=
 lQ (A:=A) (v:=a.eval (.tmp u)) ho h hd hΓ hΛ (by simp [execOp]) (h.vals _ (qa hu)) (hK _)
end
theorem GA:∃ it z,Tryz.prog.info? 137=some it∧it.zero=some z∧it.size=3∧it.bytes=56∧z.cells.size=3:=by
 have h:((Tryz.prog.info? 137).bind λ it=>it.zero.map λ z=>(it.size,it.bytes,z.cells.size))=some (3,56,3):=by kernel_rfl
 cases hi:Tryz.prog.info? 137 with
 | none=>rw [hi] at h;simp at h
 | some it =>
  rw [hi] at h;cases hz:it.zero with
  | none=>simp [hz] at h
  | some z =>
   simp [hz] at h;exact ⟨it,z,rfl,hz,h.1,h.2.1,h.2.2⟩
def newS (v:Value)(xs:List Nat)(n:Nat):Slot:=⟨v,xs,v,xs,.slice none 0 0,n⟩
theorem Nu {xs:Ya}(h:(MgN xs).va.p B v w):w.ownsRow B U32 1 v xs.length (xs.map lv):=by
 obtain ⟨cs,⟨h0,⟨rfl,rfl⟩|⟨g,ext,rfl,e1,e2,e3⟩⟩,hv⟩:=h
 ·have hv':v=.slice none 0 0:=hv;subst hv';exact ⟨rfl,.inl ⟨rfl,rfl⟩⟩
 ·have hv':v=.slice (some ⟨g,0,none⟩) xs.length (xs++ext).length:=hv;subst hv';refine ⟨by simp,.inr ⟨g,(xs++ext).length,_,rfl,e2,e3,by simp,e1,by simp,?_⟩⟩;rw [zP];show (List.map _ (xs++ext)).take xs.length=_;rw [zw,xq (by simp),qF (by simp)]
  rfl
theorem CM {xs:Ya}(h:(cat [EqS v,EqS (.slice none 0 0),NumA .i64 (n:Nat)]).p B ds w):ds=(newS v xs n).cells:=by
 obtain ⟨ps,rfl,hp⟩:=h;cases hp with
 | cons h1 hp=>cases hp with
  | cons h2 hp=>cases hp with
   | cons h3 hp =>
    cases hp;have h3':=h3;obtain ⟨rfl,_⟩:=h1;obtain ⟨rfl,_⟩:=h2;have:_=[Value.int .i64 (n:Nat)]:=h3';subst this
    rfl
theorem N7 {xs:Ya}:Wk (PinA v (MgN xs)).va (EqS v).va:=λ B u w ⟨cs,⟨h1,h2⟩,h3⟩=>by
 have h4:u=v:=h3.trans h2;subst h4;have hl:=(MgN xs).len _ _ _ h1;have h5:=(MgN xs).one _ _ _ h1
 match cs,hl with
 | [x],_ =>
  have h6:u=x:=h3;subst h6;exact ⟨[u],⟨rfl,h5 u (by simp)⟩,rfl⟩
theorem Hf {v u:Yo}{xs:Ya}(h:(PinA v (MgN xs)).va.p B u w):(MgN xs).va.p B v w:=by
 obtain ⟨cs,⟨h1,h2⟩,_⟩:=h;exact ⟨cs,h1,h2.symm⟩
section
open Rg
variable {P:Program}{Q:Exit→Act→World→Prop}{R:Rg}{B i:Nat}{w0:Bs}
theorem lG {g o:Nat}(hx:Has R B w0 i x (EqV (.pointer (some ⟨g,o,none⟩)))):Wv P Q R B w0 i (.nilCheck x) (EqV (.pointer (some ⟨g,o,none⟩))) :=
 bk λ d T ps af gd a w av=>by
  have h:a.eval x=.pointer (some ⟨g,o,none⟩):=hx a w av;exact ⟨_,w,by simp [execOp,h],Grow.refl w,rfl⟩
theorem lH {f k n g o:Nat}(hx:Has R B w0 i x (EqV (.pointer (some ⟨g,o,none⟩))))(hf:Fld P T f k n):Wv P Q R B w0 i (.fieldAddr T x f) (EqV (.pointer (some ⟨g,o+k,none⟩))) :=
 bk λ d T ps af gd a w av=>by
  have h:a.eval x=.pointer (some ⟨g,o,none⟩):=hx a w av;exact ⟨_,w,by simp [execOp,h,eh hf],Grow.refl w,rfl⟩
end
structure Slt where
 v:Value
 xs:List (List Value)
 u:Value
 ys:List (List Value)
 z:Value
 n:Nat
def Slt.cells (s:Slt):List Value:=[s.v,s.z,.int .i64 s.n]
def Slt.has (s:Slt)(g:Nat):Prop:=s.v.ownBlock=some g∨s.u.ownBlock=some g
def AptK (L:List Slt):Prop:=∀ (i j:Nat) (s t:Slt),L[i]?=some s→L[j]?=some t→i≠j→∀ g,s.has g→¬ t.has g
section
variable {H E m:Nat}
def RdyK (E m:Nat)(B:Nat)(w:World)(v:Value)(xs:List (List Value)):Prop:=RowV v xs.length∧(∀ x∈xs,x.length=m)∧∀ g,v.ownBlock=some g→B≤g∧∃ c,w.heap[g]?=some (Obj.cells c E (0,0))∧c.toList.take (xs.length*m)=xs.flatten
def Slt.ok (E m:Nat)(B:Nat)(w:World)(s:Slt):Prop:=w.ownsRow B E m s.u s.ys.length s.ys.flatten∧RdyK E m B w s.v s.xs
theorem eQ:∀ {xs:Yy},(∀ x∈xs,x.length=m)→xs.flatten.length=xs.length*m
 | [],_=>by simp
 | x::xs,h=>by
  rw [qZ,qu,h x (by simp),eQ (λ y hy=>h y (by simp [hy])),zf,xW,jZ,xp]
theorem RdyK.keep {xs:Yy}(h:RdyK E m B w v xs)(hk:∀ (g:Nat) (c:Array Yo),v.ownBlock=some g→w.heap[g]?=some (Obj.cells c E (0,0))→w'.heap[g]?=some (Obj.cells c E (0,0))):RdyK E m B w' v xs :=
 ⟨h.1,h.2.1,λ g hg=>by
  obtain ⟨h1,c,h2,h3⟩:=h.2.2 g hg;exact ⟨h1,c,hk g c hg h2,h3⟩⟩
theorem Slt.ok.keep {B:Nat}{s:Slt}{w w':Yi}(h:s.ok E m B w)(hk:∀ (g:Nat) (c:Array Yo),s.has g→w.heap[g]?=some (Obj.cells c E (0,0))→w'.heap[g]?=some (Obj.cells c E (0,0))):s.ok E m B w' :=
 ⟨cv h.1 λ g c hg=>hk g c (.inr hg),h.2.keep λ g c hg=>hk g c (.inl hg)⟩
theorem Slt.ok.lt {s:Slt}(h:s.ok E m B w)(hg:s.has g):B≤g∧∃ c,w.heap[g]?=some (Obj.cells c E (0,0)):=by
 rcases hg with hg|hg
 ·obtain ⟨h1,c,h2,_⟩:=h.2.2.2 g hg;exact ⟨h1,c,h2⟩
 ·rcases h.1.2 with ⟨e,_⟩|⟨g',cap,cur,e,h2,h3,_⟩
  ·rw [e] at hg;cases hg
  ·rw [e] at hg;have:g'=g:=by simpa [Value.ownBlock] using hg
   subst this;exact ⟨h2,cur,h3⟩
def HkA (H E m:Nat)(vr:Value)(L:List Slt):As where
 n:=1
 ag:=false
 p B cs w:=cs=[vr]∧w.ownsRow B H 3 vr L.length (L.flatMap Slt.cells)∧(∀ s∈L,s.ok E m B w)∧AptK L
 deps:=[H,E]
 len:=by rintro B cs w ⟨rfl,_⟩;rfl
 one:=by
  rintro B cs w ⟨rfl,h,_⟩ c hc;obtain rfl:=qn.1 hc;rcases h.2 with ⟨rfl,_⟩|⟨g,cap,cur,rfl,_⟩ <;> rfl
 ag1:=λ _=>rfl
 cg:=λ B cs w w' hg ⟨h1,h2,h3,h4⟩=>⟨h1,cv h2 λ g c _ h=>hg.heap h,λ s hs=>(h3 s hs).keep λ g c _ h=>hg.heap h,h4⟩
 wr:=by
  rintro B cs w w' g c T fz hgc hT hB hW ⟨h1,h2,h3,h4⟩;simp only [qr,zq,or_false,not_or] at hT;have hne:∀ (g':Nat) (c':Array Value) (E':TypeId),(E'=H∨E'=E)→w.heap[g']?=some (Obj.cells c' E' (0,0))→w'.heap[g']?=some (Obj.cells c' E' (0,0)):=λ g' c' E' hE h=>by
   rw [hW.block g' (λ e=>?_)]
   ·exact h
   ·subst e;rw [hgc] at h;injection h with h;injection h with _ h _;subst h;rcases hE with e|e
    ·exact hT.1 e
    ·exact hT.2 e
  exact ⟨h1,cv h2 λ g c _ h=>hne g c _ (.inl G) h,λ s hs=>(h3 s hs).keep λ g c _ h=>hne g c _ (.inr G) h,h4⟩
theorem sc {α:Type}{f:Slt→List α}:∀ {L:List Slt}{i:Nat}{s s':Slt},L[i]?=some s→f s'=f s→(L.set i s').flatMap f=L.flatMap f
 | x::L,0,s,s',h,e=>by
  simp at h;subst h;simp [e]
 | x::L,i+1,s,s',h,e=>by
  simp only [jt,xh];rw [sc (by simpa using h) e]
theorem Hx {L:List Slt}{s s':Slt}(h:(HkA H E m vr L).p B cs w)(hi:L[i]?=some s)(hc:s'.cells=s.cells)(hok:s'.ok E m B w')
  (hrow:∀ (g:Nat) (c:Array Value),w.heap[g]?=some (Obj.cells c H (0,0))→w'.heap[g]?=some (Obj.cells c H (0,0))) (hoth:∀ (g:Nat) (c:Array Value),¬ s.has g→w.heap[g]?=some (Obj.cells c E (0,0))→w'.heap[g]?=some (Obj.cells c E (0,0)))
  (hblk:∀ g,s'.has g→s.has g∨w.heap.size≤g):(HkA H E m vr (L.set i s')).p B cs w':=by
 obtain ⟨h1,h2,h3,h4⟩:=h;have hlt:i<L.length:=(List.getElem?_eq_some_iff.1 hi).1;have hfar:∀ (j:Nat) t,L[j]?=some t→j≠i→∀ g,t.has g→¬ s'.has g:=λ j t hj hne g hg hg'=>by
  rcases hblk g hg' with h5|h5
  ·exact h4 j i t s hj hi hne g hg h5
  ·obtain ⟨_,c,h6⟩:=(h3 t (qa hj)).lt hg;have:=(Array.getElem?_eq_some_iff.1 h6).1;omega
 refine ⟨h1,?_,λ t ht=>?_,λ j k t1 t2 hj hk hne g hg hg'=>?_⟩
 ·rw [qX,sc hi hc];exact cv h2 λ g c _ h=>hrow g c h
 ·obtain ⟨j,hj⟩:=List.getElem?_of_mem ht;by_cases e:j=i
  ·subst e;rw [List.getElem?_set_self hlt] at hj;injection hj with hj;subst hj;exact hok
  ·rw [List.getElem?_set_ne (λ e2=>e e2.symm)] at hj;exact (h3 t (qa hj)).keep λ g c hg hh=>hoth g c (λ hs=>h4 j i t s hj hi e g hg hs) hh
 ·by_cases e:j=i
  ·subst e;rw [List.getElem?_set_self hlt] at hj;injection hj with hj;subst hj;rw [List.getElem?_set_ne hne] at hk;exact hfar k t2 hk (λ e=>hne e.symm) g hg' hg
  ·rw [List.getElem?_set_ne (λ e2=>e e2.symm)] at hj;by_cases e2:k=i
   ·subst e2;rw [List.getElem?_set_self hlt] at hk;injection hk with hk;subst hk;exact hfar j t1 hj e g hg hg'
   ·rw [List.getElem?_set_ne (λ e3=>e2 e3.symm)] at hk;exact h4 j k t1 t2 hj hk hne g hg hg'
theorem AK {c:Ym}{xs:Yy}(hx:∀ x∈xs,x.length=m)(hk:k<xs.length)(hd:ds.length=m)(h:c.take (xs.length*m)=xs.flatten):(c.take (k*m)++ds++c.drop (k*m+m)).take (xs.length*m)=(xs.set k ds).flatten:=by
 have hl:=eQ hx;have hle:xs.length*m≤c.length:=by
  have:=qp List.length h;rw [hl,ze] at this;omega
 have hk1:k*m+m≤xs.length*m:=by rw [← xG];exact qJ m hk
 have e1:c.take (k*m)=(xs.take k).flatten:=by
  have h0:=qp (List.take (k*m)) h;rw [jd,xl zo] at h0;rw [h0];have h2:xs.flatten=(xs.take k).flatten++(xs.drop k).flatten:=by rw [← jm,xO]
  have h3:(xs.take k).flatten.length=k*m:=by
   rw [eQ (λ x hx'=>hx x (xj hx')),ze,xl (xb hk)]
  rw [h2,← h3,kl]
 have e2:(c.drop (k*m+m)).take (xs.length*m-(k*m+m))=(xs.drop (k+1)).flatten:=by
  have h0:=qp (List.drop (k*m+m)) h;rw [List.drop_take] at h0;rw [h0];have h2:xs.flatten=(xs.take (k+1)).flatten++(xs.drop (k+1)).flatten:=by rw [← jm,xO]
  have h3:(xs.take (k+1)).flatten.length=k*m+m:=by
   rw [eQ (λ x hx'=>hx x (xj hx')),ze,xl hk,xG]
  rw [h2,← h3,List.drop_left]
 have l1:(c.take (k*m)).length=k*m:=by rw [ze];omega
 rw [qP,kX,l1,jd,Nat.min_eq_right (show k*m≤xs.length*m by omega),kX,hd,qF (l:=ds) (by rw [hd];omega),Nat.sub_sub,e1,e2,xy,qC hk];simp
theorem CL {L:List Slt}{B i k g cap:Nat}{s:Slt}(hHE:H≠E)(h:(HkA H E m vr L).p B cs w)(hi:L[i]?=some s)(hu:s.u=s.v)(hy:s.ys=s.xs)(hv:s.v=.slice (some ⟨g,0,none⟩) s.xs.length cap)(hk:k<s.xs.length)(hd:ds.length=m):
  B≤g∧∃ c:Array Value,w.heap[g]?=some (Obj.cells c E (0,0))∧k*m+m≤c.size∧(HkA H E m vr (L.set i { s with xs:=s.xs.set k ds,ys:=s.xs.set k ds })).p B cs (w.setRow g (c.toList.take (k*m)++ds++c.toList.drop (k*m+m)).toArray):=by
 have hs:=h.2.2.1 s (qa hi);have hg:s.v.ownBlock=some g:=by rw [hv];rfl
 obtain ⟨hB,c,hc,htk⟩:=hs.2.2.2 g hg;have hown:=hs.1;rw [hu,hy,hv] at hown;rcases hown.2 with ⟨e,_⟩|⟨g',cap',cur,e,h2,h3,h4,h5,h6,h7⟩
 ·cases e
 ·injection e with e1 e2 e3;injection e1 with e1;injection e1 with e1;subst e1;subst e3;rw [hc] at h3;injection h3 with h3;injection h3 with h3;subst h3;have hk1:k*m+m≤s.xs.length*m:=by rw [← xG];exact qJ m hk
  have hk2:s.xs.length*m≤cap*m:=qJ m h4;have hsz:k*m+m≤c.size:=by rw [h6];omega
  have hnew:(w.setRow g (c.toList.take (k*m)++ds++c.toList.drop (k*m+m)).toArray).heap[g]?=some (Obj.cells (c.toList.take (k*m)++ds++c.toList.drop (k*m+m)).toArray E (0,0)):=setRow_heap w g _ _ _ _ hc;have hitem:∀ x∈s.xs.set k ds,x.length=m:=λ x hx=>by
   rcases qA hx with hx|rfl
   ·exact hs.2.2.1 x hx
   ·exact hd
  have htk2:(c.toList.take (k*m)++ds++c.toList.drop (k*m+m)).take ((s.xs.set k ds).length*m)=(s.xs.set k ds).flatten:=by
   rw [qX];exact AK hs.2.2.1 hk hd htk
  refine ⟨hB,c,hc,hsz,Hx h hi G ⟨?_,?_⟩ (λ g2 c2 h8=>?_) (λ g2 c2 h8 h9=>?_) λ g2 h8=>.inl h8⟩
  ·show World.ownsRow _ B E m s.u (s.xs.set k ds).length (s.xs.set k ds).flatten;rw [hu,hv];refine ⟨eQ hitem,.inr ⟨g,cap,_,by rw [qX],hB,hnew,by rw [qX];exact h4,h5,?_,htk2⟩⟩;have hcl:c.toList.length=c.size:=by simp
   simp only [z8,qu,ze,xV,hcl,hd];rw [h6] at hsz ⊢;omega
  ·show RdyK E m B _ s.v (s.xs.set k ds);refine ⟨by rw [qX];exact hs.2.1,hitem,λ g2 h8=>?_⟩;rw [hg] at h8;injection h8 with h8;subst h8;exact ⟨hB,_,hnew,htk2⟩
  ·rw [setRow_other _ _ _ _ (λ e=>by subst e;rw [hc] at h8;injection h8 with h8;injection h8 with _ h8 _;exact hHE h8.symm)];exact h8
  ·rw [setRow_other _ _ _ _ (λ e=>h8 (.inl (by rw [e];exact hg)))];exact h9
theorem NR {vr v':Yo}{L:List Slt}{s:Slt}(hHE:H≠E)(h:(HkA H E m vr L).p B cs w)(hi:L[i]?=some s)(hown:w'.ownsRow B E m v' (s.ys.length+1) (s.ys.flatten++ds))(hg:w.grownBy w' s.u.ownBlock)
  (hb:v'.ownBlock=s.u.ownBlock∨(v'.ownBlock=some w.heap.size∧w.grownBy w' none)) (hpre:s.u.ownBlock=s.v.ownBlock→s.xs <+: s.ys) (hyl:∀ y∈s.ys,y.length=m):(HkA H E m vr (L.set i { s with u:=v',ys:=s.ys++[ds] })).p B cs w':=by
 have hs:=h.2.2.1 s (qa hi);have hlt:∀ (g:Nat) (c:Array Value) (T:TypeId),w.heap[g]?=some (Obj.cells c T (0,0))→g<w.heap.size:=λ g c T h=>(Array.getElem?_eq_some_iff.1 h).1;refine Hx h hi G ⟨by simpa using hown,?_⟩ (λ g c h8=>?_) (λ g c h8 h9=>?_) λ g h8=>?_
 ·refine ⟨hs.2.1,hs.2.2.1,λ g hgv=>?_⟩;obtain ⟨h1,c,h2,h3⟩:=hs.2.2.2 g hgv;by_cases e:s.u.ownBlock=some g
  ·rcases hb with hb|⟨hb,hgn⟩
   ·rcases hown.2 with ⟨e1,_⟩|⟨g',cap,cur,e1,h4,h5,h6,h7,h10,h11⟩
    ·rw [e1,e] at hb;cases hb
    ·have:g'=g:=by
      have:v'.ownBlock=some g':=by rw [e1];rfl
      rw [hb,e] at this;injection this with this;exact this.symm
     subst this;refine ⟨h1,cur,h5,?_⟩;obtain ⟨t,ht⟩:=hpre (e.trans hgv.symm);have hle:s.xs.length≤s.ys.length:=by rw [← ht];simp
     have hle2:s.xs.length*m≤(s.ys.length+1)*m:=qJ m zo;have h12:=qp (List.take (s.xs.length*m)) h11;rw [jd,xl hle2] at h12;show cur.toList.take (s.xs.length*m)=s.xs.flatten;rw [h12,← ht,jm,qP,← eQ hs.2.2.1,kl]
   ·exact ⟨h1,c,(hgn.block g (hlt _ _ _ h2) (by simp)).trans h2,h3⟩
  ·exact ⟨h1,c,(hg.block g (hlt _ _ _ h2) (λ e2=>e e2.symm)).trans h2,h3⟩
 ·refine (hg.block g (hlt _ _ _ h8) (λ e=>?_)).trans h8;obtain ⟨_,c2,h9⟩:=hs.lt (g:=g) (.inr e.symm);rw [h8] at h9;injection h9 with h9;injection h9 with _ h9 _;exact hHE h9
 ·exact (hg.block g (hlt _ _ _ h9) (λ e=>h8 (.inr e.symm))).trans h9
 ·rcases h8 with h8|h8
  ·exact .inl (.inl h8)
  ·rcases hb with hb|⟨hb,_⟩
   ·exact .inl (.inr (hb.symm.trans h8))
   ·have h8':v'.ownBlock=some g:=h8;rw [hb] at h8';injection h8' with h8';exact .inr (xB h8')
theorem wz:∀ {L:List Slt}{i:Nat}{s:Slt},L[i]?=some s→∀ z,(L.set i { s with z:=z }).flatMap Slt.cells=(L.flatMap Slt.cells).set (3*i+1) z
 | x::L,0,s,h,z=>by
  simp at h;subst h
  rfl
 | x::L,i+1,s,h,z=>by
  simp only [jt,xh];rw [wz (by simpa using h) z,show 3*(i+1)+1=(3*i+1)+3 by omega]
  rfl
theorem O1 {L:List Slt}:(L.flatMap Slt.cells).length=L.length*3:=by
 induction L with
 | nil=>rfl
 | cons x L ih=>rw [xh,qu,ih,zf];show 3+_=_;omega
theorem Hy {L:List Slt}{B i g cap:Nat}{s:Slt}(hHE:H≠E)(z:Yo)(h:(HkA H E m vr L).p B cs w)(hi:L[i]?=some s)(hvr:vr=.slice (some ⟨g,0,none⟩) L.length cap):
  B≤g∧∃ c:Array Value,w.heap[g]?=some (Obj.cells c H (0,0))∧i*3+1<c.size∧(HkA H E m vr (L.set i { s with z:=z })).p B cs (w.setRow g (c.setIfInBounds (i*3+1) z)):=by
 obtain ⟨h1,h2,h3,h4⟩:=h;have hlt:i<L.length:=(List.getElem?_eq_some_iff.1 hi).1;rcases h2.2 with ⟨e,_⟩|⟨g',cap',cur,e,q2,q3,q4,q5,q6,q7⟩
 ·rw [hvr] at e;cases e
 ·rw [hvr] at e;injection e with e1 e2 e3;injection e1 with e1;injection e1 with e1;subst e1;have hsz:i*3+1<cur.size:=by
   rw [q6];have:L.length*3≤cap'*3:=qJ 3 q4;omega
  have hnew:(w.setRow g (cur.setIfInBounds (i*3+1) z)).heap[g]?=some (Obj.cells (cur.setIfInBounds (i*3+1) z) H (0,0)):=setRow_heap w g _ _ _ _ q3;refine ⟨q2,cur,q3,hsz,h1,?_,λ t ht=>?_,λ j k t1 t2 hj hk hne g2 hg hg'=>?_⟩
  ·rw [qX,wz hi];refine ⟨by rw [qX,O1],.inr ⟨g,cap',_,?_,q2,hnew,q4,q5,by simp [q6],?_⟩⟩
   ·rw [hvr,e3]
   ·rw [jh,vg,q7,show 3*i+1=i*3+1 by omega]
  ·have hkeep:∀ t':Slt,t'.ok E m B w→t'.ok E m B (w.setRow g (cur.setIfInBounds (i*3+1) z)):=λ t' ht'=>ht'.keep λ g2 c2 hg2 h8=>by
    rw [setRow_other _ _ _ _ (λ e=>by subst e;rw [q3] at h8;injection h8 with h8;injection h8 with _ h8 _;exact hHE h8)];exact h8
   rcases qA ht with ht|rfl
   ·exact hkeep t (h3 t ht)
   ·exact hkeep _ (h3 s (qa hi))
  ·have hsame:∀ (j:Nat) t,(L.set i { s with z:=z })[j]?=some t→∃ t0,L[j]?=some t0∧∀ g,t.has g→t0.has g:=λ j t hj=>by
    by_cases e:j=i
    ·subst e;rw [List.getElem?_set_self hlt] at hj;injection hj with hj;subst hj;exact ⟨s,hi,λ g h=>h⟩
    ·rw [List.getElem?_set_ne (λ e2=>e e2.symm)] at hj;exact ⟨t,hj,λ g h=>h⟩
   obtain ⟨t3,r1,r2⟩:=hsame j t1 hj;obtain ⟨t4,r3,r4⟩:=hsame k t2 hk;exact h4 j k t3 t4 r1 r3 hne g2 (r2 g2 hg) (r4 g2 hg')
end
def Slt.view (s:Slt):As:=cat [EqS s.v,EqS s.z,NumA .i64 (s.n:Nat)]
theorem so {B:Nat}{w:Yi}:∀ {L:List Slt},(∀ s∈L,s.v.oneCell'=true∧s.z.oneCell'=true)→(cat (L.map Slt.view)).p B (L.flatMap Slt.cells) w
 | [],_=>⟨[],rfl,.nil⟩
 | s::L,h=>by
  obtain ⟨ps,e,hp⟩:=so (B:=B) (w:=w) (L:=L) λ t ht=>h t (by simp [ht]);refine ⟨s.cells::ps,by rw [xh,e];rfl,.cons ?_ hp⟩;exact ⟨[[s.v],[s.z],[.int .i64 s.n]],rfl,.cons ⟨rfl,(h s (by simp)).1⟩ (.cons ⟨rfl,(h s (by simp)).2⟩ (.cons G .nil))⟩
abbrev OneK (M:List Slt):Prop:=∀ s∈M,s.v.oneCell'=true∧s.z.oneCell'=true
theorem tk {H E m:Nat}{L:List Slt}(h:OneK L):Wk (HkA H E m vr L).va (SlA H [] (L.map Slt.view)).va:=λ B v w ⟨cs,⟨e,h2,_⟩,hv⟩=>by
 subst e;have hv':v=vr:=hv;subst hv';refine gI (b:=B) (m:=3) B v w ⟨λ A hA=>?_,λ A hA T hT=>?_,L.flatMap Slt.cells,so h,?_⟩
 ·obtain ⟨s,_,rfl⟩:=qq.1 hA;rfl
 ·obtain ⟨s,_,rfl⟩:=qq.1 hA;cases (show T∈([]:List TypeId) from hT)
 ·rw [qc];exact h2
theorem Kw {H E m:Nat}{L:List Slt}:Wk (HkA H E m vr L).va (EqV vr):=λ B v w ⟨cs,⟨e,_⟩,hv⟩=>by
 subst e;exact hv
theorem oo {L:List Slt}{s:Slt}(h:L[i]?=some s):(L.map Slt.view)[i]?=some s.view:=by rw [List.getElem?_map,h];rfl
theorem sD {L:List Slt}:∀ A∈L.map Slt.view,A.n=3:=λ A hA=>by
 obtain ⟨s,_,rfl⟩:=qq.1 hA;rfl
structure MkP (A:Nat→As) (m:Nat):Prop where
 n:∀ k,(A k).n=m
 d:∀ k,(A k).deps=[]
 any:∀ k B B' w w' cs,(A k).p B cs w→(A k).p B' cs w'
def isMk (A:Nat→As)(k:Nat)(ds:List Value):Prop:=∃ B w,(A k).p B ds w
theorem MkP.len {A:Nat→As}{m k:Nat}(h:MkP A m){ds:Ym}(hd:isMk A k ds):ds.length=m:=by
 obtain ⟨B,w,hd⟩:=hd;rw [(A k).len _ _ _ hd,h.n]
theorem MkP.cat {A:Nat→As}{m k:Nat}(h:MkP A m){B:Nat}{w:Yi}:∀ {xs:Yy},(∀ x∈xs,isMk A k x)→(cat (List.replicate xs.length (A k))).p B xs.flatten w
 | [],_=>⟨[],rfl,.nil⟩
 | x::xs,hx=>by
  obtain ⟨ps,e,hp⟩:=h.cat (B:=B) (w:=w) (xs:=xs) λ y hy=>hx y (by simp [hy]);obtain ⟨B',w',h1⟩:=hx x (by simp);refine ⟨x::ps,by rw [qZ,qZ,e],?_⟩;rw [zf,vK];exact .cons (h.any _ _ _ _ _ _ h1) hp
theorem Bw {A:Nat→As}{E m k B:Nat}{xs:Yy}(hA:MkP A m)(h:RdyK E m B w v xs)(hx:∀ x∈xs,isMk A k x):(SlA E [] (List.replicate xs.length (A k))).va.p B v w:=by
 have hdep:∀ A'∈List.replicate xs.length (A k),∀ T∈A'.deps,T∈([]:List TypeId):=λ A' h1 T hT=>by
  rw [(xM.1 h1).2,hA.d] at hT;cases hT
 rcases h.1 with ⟨rfl,e⟩|⟨g,cap,rfl,h1,h2⟩
 ·refine ⟨[.slice none 0 0],⟨hdep,none,0,xs.flatten,by rw [zc,e],by rw [zc,e];exact qi _,zx _,hA.cat hx,λ h=>by rw [zc,e] at h;omega⟩,rfl⟩
 ·obtain ⟨_,c,h3,h4⟩:=h.2.2 g rfl;refine ⟨[.slice (some ⟨g,0,none⟩) xs.length cap],⟨hdep,_,cap,xs.flatten,by rw [zc],by rw [zc];exact h1,h2,hA.cat hx,λ _=>⟨g,0,rfl,(Array.getElem?_eq_some_iff.1 h3).1,.inr ⟨_,_,h3⟩,λ j u hu=>?_⟩⟩,rfl⟩;rw [cell_of_row w g (0+j) c E _ h3,qV];rw [← h4,List.getElem?_take] at hu;split at hu
  ·simpa using hu
  ·cases hu
theorem uz {E m B:Nat}{ys:Yy}(hy:∀ y∈ys,y.length=m)(h:w.ownsRow B E m v ys.length ys.flatten):RdyK E m B w v ys:=by
 rcases h.2 with ⟨rfl,e⟩|⟨g,cap,cur,rfl,h1,h2,h3,h4,h5,h6⟩
 ·exact ⟨.inl ⟨rfl,e⟩,hy,λ g hg=>by cases hg⟩
 ·refine ⟨.inr ⟨g,cap,rfl,h3,h4⟩,hy,λ g' hg=>?_⟩;have:g=g':=by simpa [Value.ownBlock] using hg
  subst this;exact ⟨h1,cur,h2,h6⟩
section
open Rg
variable {P:Program}{Q:Exit→Act→World→Prop}{B N:Nat}{w0:Bs}{Γ:List (Nat × VA)}{Λ:List Lc}{a:Act}{w:World}{ops:Array Oper}{i:Nat}{K:Act→World→Prop}
theorem JF {p d g k n sx:Nat}{ag:Bool}{E ty T T':Yh}(src:Ya)(kp kd e:Nat)(ho:ops[i]?=some ⟨none,.store ty (.tmp p) (.tmp d),T',ps,af,none⟩)(h:St B w0 N Γ Λ a w)
  (hp:Γ[kp]?=some (p,EqV (.pointer (some ⟨g,k,none⟩)))) (hd:Γ[kd]?=some (d,EqV v)) (hv1:∀ c∈ds,c.oneCell'=true) (hvc:v.cells=ds.toArray) (hdl:ds.length=n) (ht:Ty P ty n ag) (hl:Λ[e]?=some ⟨sx,T,H,A0⟩) (hTE:(T != E)=true) (hrm:fC w0 B E)
  (hsrc:src.all (λ k=>match Γ[k]? with|some y => !y.2.deps.contains E|none=>false)=true) (hΛ:Λ.zipIdx.all (λ x=>x.2==e || (x.1.T != E && !x.1.A.deps.contains E))=true)
  (htr:∀ cs,A0.p B cs w→B≤g∧∃ c:Array Value,w.heap[g]?=some (.cells c E (0,0))∧k+n≤c.size∧A1.p B cs (w.setRow g (c.toList.take k++ds++c.toList.drop (k+n)).toArray))
  (hK:∀ w',St B w0 N (src.filterMap λ k=>Γ[k]?) (Λ.set e ⟨sx,T,H,A1⟩) a w'→K (a.put none undef) w'):wpOp P ops Q i K a w:=by
 have e1:a.eval (.tmp p)=.pointer (some ⟨g,k,none⟩):=h.vals _ (qa hp);have e2:a.eval (.tmp d)=v:=h.vals _ (qa hd);obtain ⟨g0,cs0,q1,q2,q3,q4⟩:=h.locs _ (qa hl);obtain ⟨hB,c,hc,hkc,_⟩:=htr cs0 q4;have hrun:=bW ht w g k E c v ds hvc hdl hkc hv1 hc;unfold wpOp;simp only [ho,Region.wanted,if_true];refine .inl (wp_skip' (w':=w.setRow g (c.toList.take k++ds++c.toList.drop (k+n)).toArray) ?_ (hK _ (h.turn src e rW (λ g' e=>?_) hrm hl hTE hsrc hΛ λ cs hp=>?_)))
 ·simp [execOp,e1,e2,Instr.storeAt,Instr.sureAddr,hrun]
 ·injection e with e;subst e;exact ⟨hB,_,_,hc⟩
 ·obtain ⟨_,c',hc',_,h5⟩:=htr cs hp;rw [hc] at hc';injection hc' with hc';injection hc' with hc';subst hc';exact h5
theorem St.pinV (h:St B w0 N Γ Λ a w)(k:Nat)(hm:Γ[k]?=some (s,A.va)):∃ v ds,A.p B ds w∧v.cells=ds.toArray∧(∀ c∈ds,c.oneCell'=true)∧St B w0 N (Γ.set k (s,EqV v)) Λ a w:=by
 obtain ⟨ds,h1,h2⟩:=h.vals _ (qa hm);exact ⟨a.eval (.tmp s),ds,h1,by rw [show a.eval (.tmp s)=cL A.ag ds from h2];exact A.cells_shape h1,A.one _ _ _ h1,h.lo,h.defers,h.size,h.base,λ y hy=>by
  rcases qA hy with hy|rfl
  ·exact h.vals y hy
  ·exact rfl,h.locs,h.dis⟩
end
end Go.Proofs.YtbghmmnkciimdaaGreatDoor
