import Derived.Test.YtkpifdpdeanjfaaGreatDoorTtAl
set_option linter.all false
set_option maxRecDepth 100000
namespace Go.Proofs.YtkpifdpdeanjfaaGreatDoor
open Go Go.RowKit
variable {w:World}{B:Nat}{a:Act}{v:Value}{T:TypeId}{w0:Bs}{Γ:List (Nat × VA)}{Λ:List Lc}{ps:String}{af:Array Edge}{vr:Value}{H:Hd}{cs:List Value}{w':World}{P:Program}{D:List TypeId}
theorem mM {H E m:Nat}{L:List Slt}(h:L=[]):Wk (HkA H E m v L).va (SlA H [] []).va:=by
 subst h
 exact ry (L:=[]) (λ s hs=>by cases hs)
theorem bq_jk {X:BkRest}{L:List Slot}:WkA (BqA X vr L) JkA:=⟨rfl,rfl,λ B cs w h=>⟨(BqA X vr L).len _ _ _ h,(BqA X vr L).one _ _ _ h⟩⟩
theorem d7 {f : FuncId} {fn : Func} {E : VA} {r0 r1 rest y : Code} {i t : Nat} (hf : P.funcs[f]? = some fn) (hb : fn.body = some (.seq r0 (.block i (.loop (.seq (.seq r1 (.cond (.tmp t) y (.exit i))) rest))))) (hn : (fn.name == "runtime.NumGoroutine") = false) (hsz : [E].length ≤ fn.ntmps) (hr : fn.results = #[])
  (h0:∀ (B:Nat) (w0:Bs) (a:Act) (w:World) (Q:Exit→Act→World→Prop),St B w0 fn.ntmps [(0,E)] [] a w→(∀ a w,St B w0 fn.ntmps [(0,E),(2,In 0)] [] a w→Q .normal a w)→r0.wp P Q a w)
  (h1:∀ (B:Nat) (w0:Bs) (a:Act) (w:World) (Q:Exit→Act→World→Prop),St B w0 fn.ntmps [(0,E),(2,In 0)] [] a w→(∀ a w,St B w0 fn.ntmps [(t,Bo false)] [] a w→Q .normal a w)→r1.wp P Q a w):Cn P f [E] (Tu []):=by
 refine Cn.intro hf hb hn hsz (λ B w0 a U=>?_)
 refine qb (h0 B w0 a _ _ U λ a w U=>?_)
 refine a7<|ql<|wp_loop_ghost (λ n a w=>St B w0 fn.ntmps [(0,E),(2,In 0)] [] a w) 0 U ?_
 intro n a w U
 refine qb<|qb (h1 B w0 a w _ U λ a w U=>?_)
 refine a7<|ae U (zm 0 G) (λ hb0=>?_) (λ hb0=>?_)
 ·exact absurd hb0 zd
 exact qK<|ah<|ah<|ay<|cc<|aE (rs:=[]) hr U .nil zd
theorem gF {f : FuncId} {fn : Func} {E : VA} {r0 r1 r2 r3 rest y : Code} {i t : Nat} (hf : P.funcs[f]? = some fn) (hb : fn.body = some (.seq r0 (.seq (.seq r3 (.block i (.loop (.seq (.seq r1 (.cond (.tmp t) y (.exit i))) rest)))) (.seq r2 .ret)))) (hn : (fn.name == "runtime.NumGoroutine") = false) (hsz : [E].length ≤ fn.ntmps) (hr : fn.results = #[.tmp 2])
  (h0:∀ (B:Nat) (w0:Bs) (a:Act) (w:World) (Q:Exit→Act→World→Prop),St B w0 fn.ntmps [(0,E)] [] a w→(∀ a w,St B w0 fn.ntmps [(0,E)] [] a w→Q .normal a w)→r0.wp P Q a w)
  (h3:∀ (B:Nat) (w0:Bs) (a:Act) (w:World) (Q:Exit→Act→World→Prop),St B w0 fn.ntmps [(0,E)] [] a w→(∀ a w,St B w0 fn.ntmps [(0,E),(3,In 0)] [] a w→Q .normal a w)→r3.wp P Q a w)
  (h1:∀ (B:Nat) (w0:Bs) (a:Act) (w:World) (Q:Exit→Act→World→Prop),St B w0 fn.ntmps [(0,E),(3,In 0)] [] a w→(∀ a w,St B w0 fn.ntmps [(0,E),(t,Bo false)] [] a w→Q .normal a w)→r1.wp P Q a w)
  (h2:∀ (B:Nat) (w0:Bs) (a:Act) (w:World) (Q:Exit→Act→World→Prop),St B w0 fn.ntmps [(0,E),(t,Bo false)] [] a w→(∀ a w,St B w0 fn.ntmps [(2,Bo true)] [] a w→Q .normal a w)→r2.wp P Q a w):Cn P f [E] (Bo true):=by
 refine Cn.intro hf hb hn hsz (λ B w0 a U=>?_)
 refine qb (h0 B w0 a _ _ U λ a w U=>?_)
 refine zt<|qb (h3 B w0 a w _ U λ a w U=>?_)
 refine a7<|ql<|wp_loop_ghost (λ n a w=>St B w0 fn.ntmps [(0,E),(3,In 0)] [] a w) 0 U ?_
 intro n a w U
 refine qb<|qb (h1 B w0 a w _ U λ a w U=>?_)
 refine a7<|ae U (zm 1 G) (λ hb0=>?_) (λ hb0=>?_)
 ·exact absurd hb0 zd
 refine qK<|ah<|ah<|ay<|a7<|qb (h2 B w0 a w _ U λ a w U=>?_)
 exact a7<|qe<|an hr U (zm 0 G)
theorem pw (X:BkRest)(vr:Value)(L:List Slot)(hN:X.N=[]):Cn Tryz.prog 52 [ElP 61 (BqA X vr L)] (Tu []):=d7 Tryz.func52 rfl zk nq rfl (λ B w0 a w Q U k=>zh [.v 2 _] [.g 0,.o 0] U (zv rfl (a9 a8) o0) k) (λ B w0 a w Q U k=>zh [.v 5 _,.v 6 _,.v 7 _,.v 8 _,.v 9 _,.v 10 _,.v 11 _] [.o 6] U (zM 1 rfl (zM 0 rfl (zv rfl (bv (vq 1 rfl)) (zv rfl (aA (vq 2 rfl) ol (Sub.part 2 rfl rfl)) (zv rfl (aq (vq 3 rfl) EN) (zv rfl (bh Tryz.underlying45 (has_wk' (vq 4 rfl) (mM hN))) (zv rfl (aK (vq 0 rfl) (vq 5 rfl)) o0))))))) k)
theorem pp (X:BkRest)(vr:Value)(L:List Slot)(hN:X.N=[]):Cn Tryz.prog 68 [ElP 61 (BqA X vr L)] (Tu []):=d7 Tryz.func68 rfl zk nq rfl (λ B w0 a w Q U k=>zh [.v 2 _] [.g 0,.o 0] U (zv rfl (a9 a8) o0) k) (λ B w0 a w Q U k=>zh [.v 6 _,.v 7 _,.v 8 _,.v 9 _,.v 10 _,.v 11 _,.v 12 _] [.o 6] U (zM 1 rfl (zM 0 rfl (zv rfl (bv (vq 1 rfl)) (zv rfl (aA (vq 2 rfl) ol (Sub.part 2 rfl rfl)) (zv rfl (aq (vq 3 rfl) EN) (zv rfl (bh Tryz.underlying45 (has_wk' (vq 4 rfl) (mM hN))) (zv rfl (aK (vq 0 rfl) (vq 5 rfl)) o0))))))) k)
theorem pg (X:BkRest)(vr:Value)(L:List Slot)(hN:X.N=[]):Cn Tryz.prog 84 [ElP 61 (BqA X vr L)] (Bo true):=gF Tryz.func84 rfl zk nq rfl (λ B w0 a w Q U k=>zh [.v 2 _] [.g 0] U (zv rfl (a9 aB) o0) k) (λ B w0 a w Q U k=>zh [.v 3 _] [.g 0,.o 0] U (zv rfl (a9 a8) o0) k) (λ B w0 a w Q U k=>zh [.v 6 _,.v 7 _,.v 8 _,.v 9 _,.v 10 _,.v 11 _,.v 12 _] [.g 0,.o 6] U (zM 1 rfl (zM 0 rfl (zv rfl (bv (vq 1 rfl)) (zv rfl (aA (vq 2 rfl) ol (Sub.part 2 rfl rfl)) (zv rfl (aq (vq 3 rfl) EN) (zv rfl (bh Tryz.underlying45 (has_wk' (vq 4 rfl) (mM hN))) (zv rfl (aK (vq 0 rfl) (vq 5 rfl)) o0))))))) k) (λ B w0 a w Q U k=>zh [.v 2 _] [.o 0] U (zv rfl (a9 aB) o0) k)
theorem rI (X:BkRest)(vr:Value)(L:List Slot):Cn Tryz.prog 53 [ElP 61 (BqA X vr L)] (Tu []):=d7 Tryz.func53 rfl zk nq rfl (λ B w0 a w Q U k=>zh [.v 2 _] [.g 0,.o 0] U (zv rfl (a9 a8) o0) k) (λ B w0 a w Q U k=>zh [.v 5 _,.v 6 _,.v 7 _,.v 8 _,.v 9 _,.v 10 _,.v 11 _] [.o 6] U (zM 1 rfl (zM 0 rfl (zv rfl (bv (vq 1 rfl)) (zv rfl (aA (vq 2 rfl) oj (Sub.part 3 rfl rfl)) (zv rfl (aq (vq 3 rfl) EM) (zv rfl (bh Tryz.underlying46 (has_wk' (vq 4 rfl) br)) (zv rfl (aK (vq 0 rfl) (vq 5 rfl)) o0))))))) k)
theorem rC (X:BkRest)(vr:Value)(L:List Slot):Cn Tryz.prog 69 [ElP 61 (BqA X vr L)] (Tu []):=d7 Tryz.func69 rfl zk nq rfl (λ B w0 a w Q U k=>zh [.v 2 _] [.g 0,.o 0] U (zv rfl (a9 a8) o0) k) (λ B w0 a w Q U k=>zh [.v 6 _,.v 7 _,.v 8 _,.v 9 _,.v 10 _,.v 11 _,.v 12 _] [.o 6] U (zM 1 rfl (zM 0 rfl (zv rfl (bv (vq 1 rfl)) (zv rfl (aA (vq 2 rfl) oj (Sub.part 3 rfl rfl)) (zv rfl (aq (vq 3 rfl) EM) (zv rfl (bh Tryz.underlying46 (has_wk' (vq 4 rfl) br)) (zv rfl (aK (vq 0 rfl) (vq 5 rfl)) o0))))))) k)
theorem rt (X:BkRest)(vr:Value)(L:List Slot):Cn Tryz.prog 85 [ElP 61 (BqA X vr L)] (Bo true):=gF Tryz.func85 rfl zk nq rfl (λ B w0 a w Q U k=>zh [.v 2 _] [.g 0] U (zv rfl (a9 aB) o0) k) (λ B w0 a w Q U k=>zh [.v 3 _] [.g 0,.o 0] U (zv rfl (a9 a8) o0) k) (λ B w0 a w Q U k=>zh [.v 6 _,.v 7 _,.v 8 _,.v 9 _,.v 10 _,.v 11 _,.v 12 _] [.g 0,.o 6] U (zM 1 rfl (zM 0 rfl (zv rfl (bv (vq 1 rfl)) (zv rfl (aA (vq 2 rfl) oj (Sub.part 3 rfl rfl)) (zv rfl (aq (vq 3 rfl) EM) (zv rfl (bh Tryz.underlying46 (has_wk' (vq 4 rfl) br)) (zv rfl (aK (vq 0 rfl) (vq 5 rfl)) o0))))))) k) (λ B w0 a w Q U k=>zh [.v 2 _] [.o 0] U (zv rfl (a9 aB) o0) k)
theorem oq (X:BkRest)(vr:Value)(L:List Slot):Cn Tryz.prog 54 [ElP 61 (BqA X vr L)] (Tu []):=d7 Tryz.func54 rfl zk nq rfl (λ B w0 a w Q U k=>zh [.v 2 _] [.g 0,.o 0] U (zv rfl (a9 a8) o0) k) (λ B w0 a w Q U k=>zh [.v 5 _,.v 6 _,.v 7 _,.v 8 _,.v 9 _,.v 10 _,.v 11 _] [.o 6] U (zM 1 rfl (zM 0 rfl (zv rfl (bv (vq 1 rfl)) (zv rfl (aA (vq 2 rfl) oi (Sub.part 4 rfl rfl)) (zv rfl (aq (vq 3 rfl) EL) (zv rfl (bh Tryz.underlying47 (has_wk' (vq 4 rfl) br)) (zv rfl (aK (vq 0 rfl) (vq 5 rfl)) o0))))))) k)
theorem nY (X:BkRest)(vr:Value)(L:List Slot):Cn Tryz.prog 70 [ElP 61 (BqA X vr L)] (Tu []):=d7 Tryz.func70 rfl zk nq rfl (λ B w0 a w Q U k=>zh [.v 2 _] [.g 0,.o 0] U (zv rfl (a9 a8) o0) k) (λ B w0 a w Q U k=>zh [.v 6 _,.v 7 _,.v 8 _,.v 9 _,.v 10 _,.v 11 _,.v 12 _] [.o 6] U (zM 1 rfl (zM 0 rfl (zv rfl (bv (vq 1 rfl)) (zv rfl (aA (vq 2 rfl) oi (Sub.part 4 rfl rfl)) (zv rfl (aq (vq 3 rfl) EL) (zv rfl (bh Tryz.underlying47 (has_wk' (vq 4 rfl) br)) (zv rfl (aK (vq 0 rfl) (vq 5 rfl)) o0))))))) k)
theorem nP (X:BkRest)(vr:Value)(L:List Slot):Cn Tryz.prog 86 [ElP 61 (BqA X vr L)] (Bo true):=gF Tryz.func86 rfl zk nq rfl (λ B w0 a w Q U k=>zh [.v 2 _] [.g 0] U (zv rfl (a9 aB) o0) k) (λ B w0 a w Q U k=>zh [.v 3 _] [.g 0,.o 0] U (zv rfl (a9 a8) o0) k) (λ B w0 a w Q U k=>zh [.v 6 _,.v 7 _,.v 8 _,.v 9 _,.v 10 _,.v 11 _,.v 12 _] [.g 0,.o 6] U (zM 1 rfl (zM 0 rfl (zv rfl (bv (vq 1 rfl)) (zv rfl (aA (vq 2 rfl) oi (Sub.part 4 rfl rfl)) (zv rfl (aq (vq 3 rfl) EL) (zv rfl (bh Tryz.underlying47 (has_wk' (vq 4 rfl) br)) (zv rfl (aK (vq 0 rfl) (vq 5 rfl)) o0))))))) k) (λ B w0 a w Q U k=>zh [.v 2 _] [.o 0] U (zv rfl (a9 aB) o0) k)
theorem ux (X:BkRest)(vr:Value)(L:List Slot):Cn Tryz.prog 55 [ElP 61 (BqA X vr L)] (Tu []):=d7 Tryz.func55 rfl zk nq rfl (λ B w0 a w Q U k=>zh [.v 2 _] [.g 0,.o 0] U (zv rfl (a9 a8) o0) k) (λ B w0 a w Q U k=>zh [.v 5 _,.v 6 _,.v 7 _,.v 8 _,.v 9 _,.v 10 _,.v 11 _] [.o 6] U (zM 1 rfl (zM 0 rfl (zv rfl (bv (vq 1 rfl)) (zv rfl (aA (vq 2 rfl) oh (Sub.part 5 rfl rfl)) (zv rfl (aq (vq 3 rfl) EK) (zv rfl (bh Tryz.underlying48 (has_wk' (vq 4 rfl) br)) (zv rfl (aK (vq 0 rfl) (vq 5 rfl)) o0))))))) k)
theorem uo (X:BkRest)(vr:Value)(L:List Slot):Cn Tryz.prog 71 [ElP 61 (BqA X vr L)] (Tu []):=d7 Tryz.func71 rfl zk nq rfl (λ B w0 a w Q U k=>zh [.v 2 _] [.g 0,.o 0] U (zv rfl (a9 a8) o0) k) (λ B w0 a w Q U k=>zh [.v 6 _,.v 7 _,.v 8 _,.v 9 _,.v 10 _,.v 11 _,.v 12 _] [.o 6] U (zM 1 rfl (zM 0 rfl (zv rfl (bv (vq 1 rfl)) (zv rfl (aA (vq 2 rfl) oh (Sub.part 5 rfl rfl)) (zv rfl (aq (vq 3 rfl) EK) (zv rfl (bh Tryz.underlying48 (has_wk' (vq 4 rfl) br)) (zv rfl (aK (vq 0 rfl) (vq 5 rfl)) o0))))))) k)
theorem uh (X:BkRest)(vr:Value)(L:List Slot):Cn Tryz.prog 87 [ElP 61 (BqA X vr L)] (Bo true):=gF Tryz.func87 rfl zk nq rfl (λ B w0 a w Q U k=>zh [.v 2 _] [.g 0] U (zv rfl (a9 aB) o0) k) (λ B w0 a w Q U k=>zh [.v 3 _] [.g 0,.o 0] U (zv rfl (a9 a8) o0) k) (λ B w0 a w Q U k=>zh [.v 6 _,.v 7 _,.v 8 _,.v 9 _,.v 10 _,.v 11 _,.v 12 _] [.g 0,.o 6] U (zM 1 rfl (zM 0 rfl (zv rfl (bv (vq 1 rfl)) (zv rfl (aA (vq 2 rfl) oh (Sub.part 5 rfl rfl)) (zv rfl (aq (vq 3 rfl) EK) (zv rfl (bh Tryz.underlying48 (has_wk' (vq 4 rfl) br)) (zv rfl (aK (vq 0 rfl) (vq 5 rfl)) o0))))))) k) (λ B w0 a w Q U k=>zh [.v 2 _] [.o 0] U (zv rfl (a9 aB) o0) k)
theorem uA (X:BkRest)(vr:Value)(L:List Slot):Cn Tryz.prog 56 [ElP 61 (BqA X vr L)] (Tu []):=d7 Tryz.func56 rfl zk nq rfl (λ B w0 a w Q U k=>zh [.v 2 _] [.g 0,.o 0] U (zv rfl (a9 a8) o0) k) (λ B w0 a w Q U k=>zh [.v 5 _,.v 6 _,.v 7 _,.v 8 _,.v 9 _,.v 10 _,.v 11 _] [.o 6] U (zM 1 rfl (zM 0 rfl (zv rfl (bv (vq 1 rfl)) (zv rfl (aA (vq 2 rfl) og (Sub.part 6 rfl rfl)) (zv rfl (aq (vq 3 rfl) EJ) (zv rfl (bh Tryz.underlying49 (has_wk' (vq 4 rfl) br)) (zv rfl (aK (vq 0 rfl) (vq 5 rfl)) o0))))))) k)
theorem ut (X:BkRest)(vr:Value)(L:List Slot):Cn Tryz.prog 72 [ElP 61 (BqA X vr L)] (Tu []):=d7 Tryz.func72 rfl zk nq rfl (λ B w0 a w Q U k=>zh [.v 2 _] [.g 0,.o 0] U (zv rfl (a9 a8) o0) k) (λ B w0 a w Q U k=>zh [.v 6 _,.v 7 _,.v 8 _,.v 9 _,.v 10 _,.v 11 _,.v 12 _] [.o 6] U (zM 1 rfl (zM 0 rfl (zv rfl (bv (vq 1 rfl)) (zv rfl (aA (vq 2 rfl) og (Sub.part 6 rfl rfl)) (zv rfl (aq (vq 3 rfl) EJ) (zv rfl (bh Tryz.underlying49 (has_wk' (vq 4 rfl) br)) (zv rfl (aK (vq 0 rfl) (vq 5 rfl)) o0))))))) k)
theorem uk (X:BkRest)(vr:Value)(L:List Slot):Cn Tryz.prog 88 [ElP 61 (BqA X vr L)] (Bo true):=gF Tryz.func88 rfl zk nq rfl (λ B w0 a w Q U k=>zh [.v 2 _] [.g 0] U (zv rfl (a9 aB) o0) k) (λ B w0 a w Q U k=>zh [.v 3 _] [.g 0,.o 0] U (zv rfl (a9 a8) o0) k) (λ B w0 a w Q U k=>zh [.v 6 _,.v 7 _,.v 8 _,.v 9 _,.v 10 _,.v 11 _,.v 12 _] [.g 0,.o 6] U (zM 1 rfl (zM 0 rfl (zv rfl (bv (vq 1 rfl)) (zv rfl (aA (vq 2 rfl) og (Sub.part 6 rfl rfl)) (zv rfl (aq (vq 3 rfl) EJ) (zv rfl (bh Tryz.underlying49 (has_wk' (vq 4 rfl) br)) (zv rfl (aK (vq 0 rfl) (vq 5 rfl)) o0))))))) k) (λ B w0 a w Q U k=>zh [.v 2 _] [.o 0] U (zv rfl (a9 aB) o0) k)
theorem rH (X:BkRest)(vr:Value)(L:List Slot):Cn Tryz.prog 57 [ElP 61 (BqA X vr L)] (Tu []):=d7 Tryz.func57 rfl zk nq rfl (λ B w0 a w Q U k=>zh [.v 2 _] [.g 0,.o 0] U (zv rfl (a9 a8) o0) k) (λ B w0 a w Q U k=>zh [.v 5 _,.v 6 _,.v 7 _,.v 8 _,.v 9 _,.v 10 _,.v 11 _] [.o 6] U (zM 1 rfl (zM 0 rfl (zv rfl (bv (vq 1 rfl)) (zv rfl (aA (vq 2 rfl) oe (Sub.part 7 rfl rfl)) (zv rfl (aq (vq 3 rfl) EI) (zv rfl (bh Tryz.underlying50 (has_wk' (vq 4 rfl) br)) (zv rfl (aK (vq 0 rfl) (vq 5 rfl)) o0))))))) k)
theorem rB (X:BkRest)(vr:Value)(L:List Slot):Cn Tryz.prog 73 [ElP 61 (BqA X vr L)] (Tu []):=d7 Tryz.func73 rfl zk nq rfl (λ B w0 a w Q U k=>zh [.v 2 _] [.g 0,.o 0] U (zv rfl (a9 a8) o0) k) (λ B w0 a w Q U k=>zh [.v 6 _,.v 7 _,.v 8 _,.v 9 _,.v 10 _,.v 11 _,.v 12 _] [.o 6] U (zM 1 rfl (zM 0 rfl (zv rfl (bv (vq 1 rfl)) (zv rfl (aA (vq 2 rfl) oe (Sub.part 7 rfl rfl)) (zv rfl (aq (vq 3 rfl) EI) (zv rfl (bh Tryz.underlying50 (has_wk' (vq 4 rfl) br)) (zv rfl (aK (vq 0 rfl) (vq 5 rfl)) o0))))))) k)
theorem rr (X:BkRest)(vr:Value)(L:List Slot):Cn Tryz.prog 89 [ElP 61 (BqA X vr L)] (Bo true):=gF Tryz.func89 rfl zk nq rfl (λ B w0 a w Q U k=>zh [.v 2 _] [.g 0] U (zv rfl (a9 aB) o0) k) (λ B w0 a w Q U k=>zh [.v 3 _] [.g 0,.o 0] U (zv rfl (a9 a8) o0) k) (λ B w0 a w Q U k=>zh [.v 6 _,.v 7 _,.v 8 _,.v 9 _,.v 10 _,.v 11 _,.v 12 _] [.g 0,.o 6] U (zM 1 rfl (zM 0 rfl (zv rfl (bv (vq 1 rfl)) (zv rfl (aA (vq 2 rfl) oe (Sub.part 7 rfl rfl)) (zv rfl (aq (vq 3 rfl) EI) (zv rfl (bh Tryz.underlying50 (has_wk' (vq 4 rfl) br)) (zv rfl (aK (vq 0 rfl) (vq 5 rfl)) o0))))))) k) (λ B w0 a w Q U k=>zh [.v 2 _] [.o 0] U (zv rfl (a9 aB) o0) k)
theorem yW (X:BkRest)(vr:Value)(L:List Slot)(hR:X.R=[]):Cn Tryz.prog 58 [ElP 61 (BqA X vr L)] (Tu []):=d7 Tryz.func58 rfl zk nq rfl (λ B w0 a w Q U k=>zh [.v 2 _] [.g 0,.o 0] U (zv rfl (a9 a8) o0) k) (λ B w0 a w Q U k=>zh [.v 5 _,.v 6 _,.v 7 _,.v 8 _,.v 9 _,.v 10 _,.v 11 _] [.o 6] U (zM 1 rfl (zM 0 rfl (zv rfl (bv (vq 1 rfl)) (zv rfl (aA (vq 2 rfl) od (Sub.part 8 rfl rfl)) (zv rfl (aq (vq 3 rfl) EH) (zv rfl (bh Tryz.underlying51 (has_wk' (vq 4 rfl) (mM hR))) (zv rfl (aK (vq 0 rfl) (vq 5 rfl)) o0))))))) k)
theorem yK (X:BkRest)(vr:Value)(L:List Slot)(hR:X.R=[]):Cn Tryz.prog 74 [ElP 61 (BqA X vr L)] (Tu []):=d7 Tryz.func74 rfl zk nq rfl (λ B w0 a w Q U k=>zh [.v 2 _] [.g 0,.o 0] U (zv rfl (a9 a8) o0) k) (λ B w0 a w Q U k=>zh [.v 6 _,.v 7 _,.v 8 _,.v 9 _,.v 10 _,.v 11 _,.v 12 _] [.o 6] U (zM 1 rfl (zM 0 rfl (zv rfl (bv (vq 1 rfl)) (zv rfl (aA (vq 2 rfl) od (Sub.part 8 rfl rfl)) (zv rfl (aq (vq 3 rfl) EH) (zv rfl (bh Tryz.underlying51 (has_wk' (vq 4 rfl) (mM hR))) (zv rfl (aK (vq 0 rfl) (vq 5 rfl)) o0))))))) k)
theorem yk (X:BkRest)(vr:Value)(L:List Slot)(hR:X.R=[]):Cn Tryz.prog 90 [ElP 61 (BqA X vr L)] (Bo true):=gF Tryz.func90 rfl zk nq rfl (λ B w0 a w Q U k=>zh [.v 2 _] [.g 0] U (zv rfl (a9 aB) o0) k) (λ B w0 a w Q U k=>zh [.v 3 _] [.g 0,.o 0] U (zv rfl (a9 a8) o0) k) (λ B w0 a w Q U k=>zh [.v 6 _,.v 7 _,.v 8 _,.v 9 _,.v 10 _,.v 11 _,.v 12 _] [.g 0,.o 6] U (zM 1 rfl (zM 0 rfl (zv rfl (bv (vq 1 rfl)) (zv rfl (aA (vq 2 rfl) od (Sub.part 8 rfl rfl)) (zv rfl (aq (vq 3 rfl) EH) (zv rfl (bh Tryz.underlying51 (has_wk' (vq 4 rfl) (mM hR))) (zv rfl (aK (vq 0 rfl) (vq 5 rfl)) o0))))))) k) (λ B w0 a w Q U k=>zh [.v 2 _] [.o 0] U (zv rfl (a9 aB) o0) k)
theorem uC (X:BkRest)(vr:Value)(L:List Slot):Cn Tryz.prog 60 [ElP 61 (BqA X vr L)] (Tu []):=d7 Tryz.func60 rfl zk nq rfl (λ B w0 a w Q U k=>zh [.v 2 _] [.g 0,.o 0] U (zv rfl (a9 a8) o0) k) (λ B w0 a w Q U k=>zh [.v 5 _,.v 6 _,.v 7 _,.v 8 _,.v 9 _,.v 10 _,.v 11 _] [.o 6] U (zM 1 rfl (zM 0 rfl (zv rfl (bv (vq 1 rfl)) (zv rfl (aA (vq 2 rfl) lQ (Sub.part 10 rfl rfl)) (zv rfl (aq (vq 3 rfl) EG) (zv rfl (bh Tryz.underlying53 (has_wk' (vq 4 rfl) br)) (zv rfl (aK (vq 0 rfl) (vq 5 rfl)) o0))))))) k)
theorem uw (X:BkRest)(vr:Value)(L:List Slot):Cn Tryz.prog 76 [ElP 61 (BqA X vr L)] (Tu []):=d7 Tryz.func76 rfl zk nq rfl (λ B w0 a w Q U k=>zh [.v 2 _] [.g 0,.o 0] U (zv rfl (a9 a8) o0) k) (λ B w0 a w Q U k=>zh [.v 6 _,.v 7 _,.v 8 _,.v 9 _,.v 10 _,.v 11 _,.v 12 _] [.o 6] U (zM 1 rfl (zM 0 rfl (zv rfl (bv (vq 1 rfl)) (zv rfl (aA (vq 2 rfl) lQ (Sub.part 10 rfl rfl)) (zv rfl (aq (vq 3 rfl) EG) (zv rfl (bh Tryz.underlying53 (has_wk' (vq 4 rfl) br)) (zv rfl (aK (vq 0 rfl) (vq 5 rfl)) o0))))))) k)
theorem um (X:BkRest)(vr:Value)(L:List Slot):Cn Tryz.prog 92 [ElP 61 (BqA X vr L)] (Bo true):=gF Tryz.func92 rfl zk nq rfl (λ B w0 a w Q U k=>zh [.v 2 _] [.g 0] U (zv rfl (a9 aB) o0) k) (λ B w0 a w Q U k=>zh [.v 3 _] [.g 0,.o 0] U (zv rfl (a9 a8) o0) k) (λ B w0 a w Q U k=>zh [.v 6 _,.v 7 _,.v 8 _,.v 9 _,.v 10 _,.v 11 _,.v 12 _] [.g 0,.o 6] U (zM 1 rfl (zM 0 rfl (zv rfl (bv (vq 1 rfl)) (zv rfl (aA (vq 2 rfl) lQ (Sub.part 10 rfl rfl)) (zv rfl (aq (vq 3 rfl) EG) (zv rfl (bh Tryz.underlying53 (has_wk' (vq 4 rfl) br)) (zv rfl (aK (vq 0 rfl) (vq 5 rfl)) o0))))))) k) (λ B w0 a w Q U k=>zh [.v 2 _] [.o 0] U (zv rfl (a9 aB) o0) k)
theorem uB (X:BkRest)(vr:Value)(L:List Slot):Cn Tryz.prog 61 [ElP 61 (BqA X vr L)] (Tu []):=d7 Tryz.func61 rfl zk nq rfl (λ B w0 a w Q U k=>zh [.v 2 _] [.g 0,.o 0] U (zv rfl (a9 a8) o0) k) (λ B w0 a w Q U k=>zh [.v 5 _,.v 6 _,.v 7 _,.v 8 _,.v 9 _,.v 10 _,.v 11 _] [.o 6] U (zM 1 rfl (zM 0 rfl (zv rfl (bv (vq 1 rfl)) (zv rfl (aA (vq 2 rfl) lP (Sub.part 11 rfl rfl)) (zv rfl (aq (vq 3 rfl) EF) (zv rfl (bh Tryz.underlying54 (has_wk' (vq 4 rfl) br)) (zv rfl (aK (vq 0 rfl) (vq 5 rfl)) o0))))))) k)
theorem uu (X:BkRest)(vr:Value)(L:List Slot):Cn Tryz.prog 77 [ElP 61 (BqA X vr L)] (Tu []):=d7 Tryz.func77 rfl zk nq rfl (λ B w0 a w Q U k=>zh [.v 2 _] [.g 0,.o 0] U (zv rfl (a9 a8) o0) k) (λ B w0 a w Q U k=>zh [.v 6 _,.v 7 _,.v 8 _,.v 9 _,.v 10 _,.v 11 _,.v 12 _] [.o 6] U (zM 1 rfl (zM 0 rfl (zv rfl (bv (vq 1 rfl)) (zv rfl (aA (vq 2 rfl) lP (Sub.part 11 rfl rfl)) (zv rfl (aq (vq 3 rfl) EF) (zv rfl (bh Tryz.underlying54 (has_wk' (vq 4 rfl) br)) (zv rfl (aK (vq 0 rfl) (vq 5 rfl)) o0))))))) k)
theorem ul (X:BkRest)(vr:Value)(L:List Slot):Cn Tryz.prog 93 [ElP 61 (BqA X vr L)] (Bo true):=gF Tryz.func93 rfl zk nq rfl (λ B w0 a w Q U k=>zh [.v 2 _] [.g 0] U (zv rfl (a9 aB) o0) k) (λ B w0 a w Q U k=>zh [.v 3 _] [.g 0,.o 0] U (zv rfl (a9 a8) o0) k) (λ B w0 a w Q U k=>zh [.v 6 _,.v 7 _,.v 8 _,.v 9 _,.v 10 _,.v 11 _,.v 12 _] [.g 0,.o 6] U (zM 1 rfl (zM 0 rfl (zv rfl (bv (vq 1 rfl)) (zv rfl (aA (vq 2 rfl) lP (Sub.part 11 rfl rfl)) (zv rfl (aq (vq 3 rfl) EF) (zv rfl (bh Tryz.underlying54 (has_wk' (vq 4 rfl) br)) (zv rfl (aK (vq 0 rfl) (vq 5 rfl)) o0))))))) k) (λ B w0 a w Q U k=>zh [.v 2 _] [.o 0] U (zv rfl (a9 aB) o0) k)
theorem uy (X:BkRest)(vr:Value)(L:List Slot):Cn Tryz.prog 62 [ElP 61 (BqA X vr L)] (Tu []):=d7 Tryz.func62 rfl zk nq rfl (λ B w0 a w Q U k=>zh [.v 2 _] [.g 0,.o 0] U (zv rfl (a9 a8) o0) k) (λ B w0 a w Q U k=>zh [.v 5 _,.v 6 _,.v 7 _,.v 8 _,.v 9 _,.v 10 _,.v 11 _] [.o 6] U (zM 1 rfl (zM 0 rfl (zv rfl (bv (vq 1 rfl)) (zv rfl (aA (vq 2 rfl) lO (Sub.part 12 rfl rfl)) (zv rfl (aq (vq 3 rfl) EE) (zv rfl (bh Tryz.underlying55 (has_wk' (vq 4 rfl) br)) (zv rfl (aK (vq 0 rfl) (vq 5 rfl)) o0))))))) k)
theorem uq (X:BkRest)(vr:Value)(L:List Slot):Cn Tryz.prog 78 [ElP 61 (BqA X vr L)] (Tu []):=d7 Tryz.func78 rfl zk nq rfl (λ B w0 a w Q U k=>zh [.v 2 _] [.g 0,.o 0] U (zv rfl (a9 a8) o0) k) (λ B w0 a w Q U k=>zh [.v 6 _,.v 7 _,.v 8 _,.v 9 _,.v 10 _,.v 11 _,.v 12 _] [.o 6] U (zM 1 rfl (zM 0 rfl (zv rfl (bv (vq 1 rfl)) (zv rfl (aA (vq 2 rfl) lO (Sub.part 12 rfl rfl)) (zv rfl (aq (vq 3 rfl) EE) (zv rfl (bh Tryz.underlying55 (has_wk' (vq 4 rfl) br)) (zv rfl (aK (vq 0 rfl) (vq 5 rfl)) o0))))))) k)
theorem ui (X:BkRest)(vr:Value)(L:List Slot):Cn Tryz.prog 94 [ElP 61 (BqA X vr L)] (Bo true):=gF Tryz.func94 rfl zk nq rfl (λ B w0 a w Q U k=>zh [.v 2 _] [.g 0] U (zv rfl (a9 aB) o0) k) (λ B w0 a w Q U k=>zh [.v 3 _] [.g 0,.o 0] U (zv rfl (a9 a8) o0) k) (λ B w0 a w Q U k=>zh [.v 6 _,.v 7 _,.v 8 _,.v 9 _,.v 10 _,.v 11 _,.v 12 _] [.g 0,.o 6] U (zM 1 rfl (zM 0 rfl (zv rfl (bv (vq 1 rfl)) (zv rfl (aA (vq 2 rfl) lO (Sub.part 12 rfl rfl)) (zv rfl (aq (vq 3 rfl) EE) (zv rfl (bh Tryz.underlying55 (has_wk' (vq 4 rfl) br)) (zv rfl (aK (vq 0 rfl) (vq 5 rfl)) o0))))))) k) (λ B w0 a w Q U k=>zh [.v 2 _] [.o 0] U (zv rfl (a9 aB) o0) k)
theorem yX (X:BkRest)(vr:Value)(L:List Slot):Cn Tryz.prog 63 [ElP 61 (BqA X vr L)] (Tu []):=d7 Tryz.func63 rfl zk nq rfl (λ B w0 a w Q U k=>zh [.v 2 _] [.g 0,.o 0] U (zv rfl (a9 a8) o0) k) (λ B w0 a w Q U k=>zh [.v 5 _,.v 6 _,.v 7 _,.v 8 _,.v 9 _,.v 10 _,.v 11 _] [.o 6] U (zM 1 rfl (zM 0 rfl (zv rfl (bv (vq 1 rfl)) (zv rfl (aA (vq 2 rfl) lN (Sub.part 13 rfl rfl)) (zv rfl (aq (vq 3 rfl) ED) (zv rfl (bh Tryz.underlying56 (has_wk' (vq 4 rfl) br)) (zv rfl (aK (vq 0 rfl) (vq 5 rfl)) o0))))))) k)
theorem yL (X:BkRest)(vr:Value)(L:List Slot):Cn Tryz.prog 79 [ElP 61 (BqA X vr L)] (Tu []):=d7 Tryz.func79 rfl zk nq rfl (λ B w0 a w Q U k=>zh [.v 2 _] [.g 0,.o 0] U (zv rfl (a9 a8) o0) k) (λ B w0 a w Q U k=>zh [.v 6 _,.v 7 _,.v 8 _,.v 9 _,.v 10 _,.v 11 _,.v 12 _] [.o 6] U (zM 1 rfl (zM 0 rfl (zv rfl (bv (vq 1 rfl)) (zv rfl (aA (vq 2 rfl) lN (Sub.part 13 rfl rfl)) (zv rfl (aq (vq 3 rfl) ED) (zv rfl (bh Tryz.underlying56 (has_wk' (vq 4 rfl) br)) (zv rfl (aK (vq 0 rfl) (vq 5 rfl)) o0))))))) k)
theorem yn (X:BkRest)(vr:Value)(L:List Slot):Cn Tryz.prog 95 [ElP 61 (BqA X vr L)] (Bo true):=gF Tryz.func95 rfl zk nq rfl (λ B w0 a w Q U k=>zh [.v 2 _] [.g 0] U (zv rfl (a9 aB) o0) k) (λ B w0 a w Q U k=>zh [.v 3 _] [.g 0,.o 0] U (zv rfl (a9 a8) o0) k) (λ B w0 a w Q U k=>zh [.v 6 _,.v 7 _,.v 8 _,.v 9 _,.v 10 _,.v 11 _,.v 12 _] [.g 0,.o 6] U (zM 1 rfl (zM 0 rfl (zv rfl (bv (vq 1 rfl)) (zv rfl (aA (vq 2 rfl) lN (Sub.part 13 rfl rfl)) (zv rfl (aq (vq 3 rfl) ED) (zv rfl (bh Tryz.underlying56 (has_wk' (vq 4 rfl) br)) (zv rfl (aK (vq 0 rfl) (vq 5 rfl)) o0))))))) k) (λ B w0 a w Q U k=>zh [.v 2 _] [.o 0] U (zv rfl (a9 aB) o0) k)
theorem uz (X:BkRest)(vr:Value)(L:List Slot):Cn Tryz.prog 64 [ElP 61 (BqA X vr L)] (Tu []):=d7 Tryz.func64 rfl zk nq rfl (λ B w0 a w Q U k=>zh [.v 2 _] [.g 0,.o 0] U (zv rfl (a9 a8) o0) k) (λ B w0 a w Q U k=>zh [.v 5 _,.v 6 _,.v 7 _,.v 8 _,.v 9 _,.v 10 _,.v 11 _] [.o 6] U (zM 1 rfl (zM 0 rfl (zv rfl (bv (vq 1 rfl)) (zv rfl (aA (vq 2 rfl) lM (Sub.part 14 rfl rfl)) (zv rfl (aq (vq 3 rfl) EC) (zv rfl (bh Tryz.underlying57 (has_wk' (vq 4 rfl) br)) (zv rfl (aK (vq 0 rfl) (vq 5 rfl)) o0))))))) k)
theorem ur (X:BkRest)(vr:Value)(L:List Slot):Cn Tryz.prog 80 [ElP 61 (BqA X vr L)] (Tu []):=d7 Tryz.func80 rfl zk nq rfl (λ B w0 a w Q U k=>zh [.v 2 _] [.g 0,.o 0] U (zv rfl (a9 a8) o0) k) (λ B w0 a w Q U k=>zh [.v 6 _,.v 7 _,.v 8 _,.v 9 _,.v 10 _,.v 11 _,.v 12 _] [.o 6] U (zM 1 rfl (zM 0 rfl (zv rfl (bv (vq 1 rfl)) (zv rfl (aA (vq 2 rfl) lM (Sub.part 14 rfl rfl)) (zv rfl (aq (vq 3 rfl) EC) (zv rfl (bh Tryz.underlying57 (has_wk' (vq 4 rfl) br)) (zv rfl (aK (vq 0 rfl) (vq 5 rfl)) o0))))))) k)
theorem uj (X:BkRest)(vr:Value)(L:List Slot):Cn Tryz.prog 96 [ElP 61 (BqA X vr L)] (Bo true):=gF Tryz.func96 rfl zk nq rfl (λ B w0 a w Q U k=>zh [.v 2 _] [.g 0] U (zv rfl (a9 aB) o0) k) (λ B w0 a w Q U k=>zh [.v 3 _] [.g 0,.o 0] U (zv rfl (a9 a8) o0) k) (λ B w0 a w Q U k=>zh [.v 6 _,.v 7 _,.v 8 _,.v 9 _,.v 10 _,.v 11 _,.v 12 _] [.g 0,.o 6] U (zM 1 rfl (zM 0 rfl (zv rfl (bv (vq 1 rfl)) (zv rfl (aA (vq 2 rfl) lM (Sub.part 14 rfl rfl)) (zv rfl (aq (vq 3 rfl) EC) (zv rfl (bh Tryz.underlying57 (has_wk' (vq 4 rfl) br)) (zv rfl (aK (vq 0 rfl) (vq 5 rfl)) o0))))))) k) (λ B w0 a w Q U k=>zh [.v 2 _] [.o 0] U (zv rfl (a9 aB) o0) k)
theorem yY (X:BkRest)(vr:Value)(L:List Slot):Cn Tryz.prog 65 [ElP 61 (BqA X vr L)] (Tu []):=d7 Tryz.func65 rfl zk nq rfl (λ B w0 a w Q U k=>zh [.v 2 _] [.g 0,.o 0] U (zv rfl (a9 a8) o0) k) (λ B w0 a w Q U k=>zh [.v 5 _,.v 6 _,.v 7 _,.v 8 _,.v 9 _,.v 10 _,.v 11 _] [.o 6] U (zM 1 rfl (zM 0 rfl (zv rfl (bv (vq 1 rfl)) (zv rfl (aA (vq 2 rfl) lL (Sub.part 15 rfl rfl)) (zv rfl (aq (vq 3 rfl) EB) (zv rfl (bh Tryz.underlying58 (has_wk' (vq 4 rfl) br)) (zv rfl (aK (vq 0 rfl) (vq 5 rfl)) o0))))))) k)
theorem yM (X:BkRest)(vr:Value)(L:List Slot):Cn Tryz.prog 81 [ElP 61 (BqA X vr L)] (Tu []):=d7 Tryz.func81 rfl zk nq rfl (λ B w0 a w Q U k=>zh [.v 2 _] [.g 0,.o 0] U (zv rfl (a9 a8) o0) k) (λ B w0 a w Q U k=>zh [.v 6 _,.v 7 _,.v 8 _,.v 9 _,.v 10 _,.v 11 _,.v 12 _] [.o 6] U (zM 1 rfl (zM 0 rfl (zv rfl (bv (vq 1 rfl)) (zv rfl (aA (vq 2 rfl) lL (Sub.part 15 rfl rfl)) (zv rfl (aq (vq 3 rfl) EB) (zv rfl (bh Tryz.underlying58 (has_wk' (vq 4 rfl) br)) (zv rfl (aK (vq 0 rfl) (vq 5 rfl)) o0))))))) k)
theorem yo (X:BkRest)(vr:Value)(L:List Slot):Cn Tryz.prog 97 [ElP 61 (BqA X vr L)] (Bo true):=gF Tryz.func97 rfl zk nq rfl (λ B w0 a w Q U k=>zh [.v 2 _] [.g 0] U (zv rfl (a9 aB) o0) k) (λ B w0 a w Q U k=>zh [.v 3 _] [.g 0,.o 0] U (zv rfl (a9 a8) o0) k) (λ B w0 a w Q U k=>zh [.v 6 _,.v 7 _,.v 8 _,.v 9 _,.v 10 _,.v 11 _,.v 12 _] [.g 0,.o 6] U (zM 1 rfl (zM 0 rfl (zv rfl (bv (vq 1 rfl)) (zv rfl (aA (vq 2 rfl) lL (Sub.part 15 rfl rfl)) (zv rfl (aq (vq 3 rfl) EB) (zv rfl (bh Tryz.underlying58 (has_wk' (vq 4 rfl) br)) (zv rfl (aK (vq 0 rfl) (vq 5 rfl)) o0))))))) k) (λ B w0 a w Q U k=>zh [.v 2 _] [.o 0] U (zv rfl (a9 aB) o0) k)
theorem rG (X:BkRest)(vr:Value)(L:List Slot):Cn Tryz.prog 66 [ElP 61 (BqA X vr L)] (Tu []):=d7 Tryz.func66 rfl zk nq rfl (λ B w0 a w Q U k=>zh [.v 2 _] [.g 0,.o 0] U (zv rfl (a9 a8) o0) k) (λ B w0 a w Q U k=>zh [.v 5 _,.v 6 _,.v 7 _,.v 8 _,.v 9 _,.v 10 _,.v 11 _] [.o 6] U (zM 1 rfl (zM 0 rfl (zv rfl (bv (vq 1 rfl)) (zv rfl (aA (vq 2 rfl) lK (Sub.part 16 rfl rfl)) (zv rfl (aq (vq 3 rfl) EA) (zv rfl (bh Tryz.underlying59 (has_wk' (vq 4 rfl) br)) (zv rfl (aK (vq 0 rfl) (vq 5 rfl)) o0))))))) k)
theorem rA (X:BkRest)(vr:Value)(L:List Slot):Cn Tryz.prog 82 [ElP 61 (BqA X vr L)] (Tu []):=d7 Tryz.func82 rfl zk nq rfl (λ B w0 a w Q U k=>zh [.v 2 _] [.g 0,.o 0] U (zv rfl (a9 a8) o0) k) (λ B w0 a w Q U k=>zh [.v 6 _,.v 7 _,.v 8 _,.v 9 _,.v 10 _,.v 11 _,.v 12 _] [.o 6] U (zM 1 rfl (zM 0 rfl (zv rfl (bv (vq 1 rfl)) (zv rfl (aA (vq 2 rfl) lK (Sub.part 16 rfl rfl)) (zv rfl (aq (vq 3 rfl) EA) (zv rfl (bh Tryz.underlying59 (has_wk' (vq 4 rfl) br)) (zv rfl (aK (vq 0 rfl) (vq 5 rfl)) o0))))))) k)
theorem rq (X:BkRest)(vr:Value)(L:List Slot):Cn Tryz.prog 98 [ElP 61 (BqA X vr L)] (Bo true):=gF Tryz.func98 rfl zk nq rfl (λ B w0 a w Q U k=>zh [.v 2 _] [.g 0] U (zv rfl (a9 aB) o0) k) (λ B w0 a w Q U k=>zh [.v 3 _] [.g 0,.o 0] U (zv rfl (a9 a8) o0) k) (λ B w0 a w Q U k=>zh [.v 6 _,.v 7 _,.v 8 _,.v 9 _,.v 10 _,.v 11 _,.v 12 _] [.g 0,.o 6] U (zM 1 rfl (zM 0 rfl (zv rfl (bv (vq 1 rfl)) (zv rfl (aA (vq 2 rfl) lK (Sub.part 16 rfl rfl)) (zv rfl (aq (vq 3 rfl) EA) (zv rfl (bh Tryz.underlying59 (has_wk' (vq 4 rfl) br)) (zv rfl (aK (vq 0 rfl) (vq 5 rfl)) o0))))))) k) (λ B w0 a w Q U k=>zh [.v 2 _] [.o 0] U (zv rfl (a9 aB) o0) k)
set_option maxHeartbeats 1000000 in
theorem AJ (X:BkRest)(vr:Value)(L:List Slot)(hnew:∀ s∈L,s.new)(hl:L.length≤1000000)(hN:X.N=[])(hR:X.R=[])(hnM:∀ s∈X.M,s.new)(hlM:X.M.length≤1000000):CK Tryz.prog 20 61 [61,127,128,160,162,125,92] (BqA X vr L) (JkA) [] (Bo true):=by
 refine CK.intro Tryz.func20 G zk nq zk (λ B g w0 a hrm U=>?_)
 have U:=zn [(0,EqV ((ptrH).f g)),] [⟨0,61,ptrH,BqA X vr L⟩] U
 refine qb<|zg [η] [] [.v 2 _] [.g 0,.o 0] U (zv G (a9 aB) o0) (zz [(0,_),(2,_)] [O 0 61 _] λ a w U=>?_)
 refine zt<|bN (sp:=[.v 3 _,.v 4 VT]) 1 1 99 1 OneC [.g 0,.g 1,.o 0] U (zM 0 G o0) G zd zk zk (zz [(0,_),(2,_),(3,_)] [O 0 61 _] λ a w U=>?_)
 rw [show List.range' 1 1=[1] from rfl]
 rw [qv]
 refine d8 (A1:=BqA X vr (filL L)) [0,1] [] 0 G U (CK.wkT (GK X vr L hnew hl) zd) G (zV (b:=ptr g) (U.vals _ (zm 2 G)) (x4 (U.vals _ (zm 0 G)))) .nil G hrm zd zk zk zk zk (λ a w U=>?_)
 refine bC ?_
 have U:=zn [(4,_),(0,_),(2,_)] [⟨0,61,ptrH,BqA X vr (filL L)⟩] U
 refine zt<|zg [η] [] [.v 5 _,.v 6 _] [.g 1,.g 2] U (zv G (ab (aZ (lz0 0 G))) (zQ G (pw (X) vr (filL L) hN) (.o (vq 0 G)) o0)) (zz [(0,_),(2,_)] [O 0 61 _] λ a w U=>?_)
 refine zt<|zg [η] [] [.v 7 _,.v 8 _] [.g 0,.g 1] U (zv G (ab (aZ (lz0 0 G))) (zQ G (rI (X) vr (filL L)) (.o (vq 0 G)) o0)) (zz [(0,_),(2,_)] [O 0 61 _] λ a w U=>?_)
 refine zt<|zg [η] [] [.v 9 _,.v 10 _] [.g 0,.g 1] U (zv G (ab (aZ (lz0 0 G))) (zQ G (oq (X) vr (filL L)) (.o (vq 0 G)) o0)) (zz [(0,_),(2,_)] [O 0 61 _] λ a w U=>?_)
 refine zt<|zg [η] [] [.v 11 _,.v 12 _] [.g 0,.g 1] U (zv G (ab (aZ (lz0 0 G))) (zQ G (ux (X) vr (filL L)) (.o (vq 0 G)) o0)) (zz [(0,_),(2,_)] [O 0 61 _] λ a w U=>?_)
 refine zt<|zg [η] [] [.v 13 _,.v 14 _] [.g 0,.g 1] U (zv G (ab (aZ (lz0 0 G))) (zQ G (uA (X) vr (filL L)) (.o (vq 0 G)) o0)) (zz [(0,_),(2,_)] [O 0 61 _] λ a w U=>?_)
 refine zt<|zg [η] [] [.v 15 _,.v 16 _] [.g 0,.g 1] U (zv G (ab (aZ (lz0 0 G))) (zQ G (rH (X) vr (filL L)) (.o (vq 0 G)) o0)) (zz [(0,_),(2,_)] [O 0 61 _] λ a w U=>?_)
 refine zt<|zg [η] [] [.v 17 _,.v 18 _] [.g 0,.g 1] U (zv G (ab (aZ (lz0 0 G))) (zQ G (yW (X) vr (filL L) hR) (.o (vq 0 G)) o0)) (zz [(0,_),(2,_)] [O 0 61 _] λ a w U=>?_)
 refine zt<|bN (sp:=[.v 19 _,.v 20 VT]) 1 1 99 1 OneC [.g 0,.g 1,.o 0] U (zM 0 G o0) G zd zk zk (zz [(0,_),(2,_),(19,_)] [O 0 61 _] λ a w U=>?_)
 rw [show List.range' 1 1=[1] from rfl]
 rw [qv]
 refine d8 (A1:=ExElement X vr (filL L) (allFull MkE X.M)) [0,1] [] 0 G U (CK.wkT (oo X vr (filL L) hnM hlM) zd) G (zV (b:=ptr g) (U.vals _ (zm 2 G)) (x4 (U.vals _ (zm 0 G)))) .nil G hrm zd zk zk zk zk (λ a w U=>?_)
 refine bC ?_
 obtain ⟨M1,hM1,U⟩:=stElement U 0 rfl
 have U:=zn [(20,_),(0,_),(2,_)] [⟨0,61,ptrH,BqA { X with M:=M1 } vr (filL L)⟩] U
 refine zt<|zg [η] [] [.v 21 _,.v 22 _] [.g 1,.g 2] U (zv G (ab (aZ (lz0 0 G))) (zQ G (uC ({ X with M:=M1 }) vr (filL L)) (.o (vq 0 G)) o0)) (zz [(0,_),(2,_)] [O 0 61 _] λ a w U=>?_)
 refine zt<|zg [η] [] [.v 23 _,.v 24 _] [.g 0,.g 1] U (zv G (ab (aZ (lz0 0 G))) (zQ G (uB ({ X with M:=M1 }) vr (filL L)) (.o (vq 0 G)) o0)) (zz [(0,_),(2,_)] [O 0 61 _] λ a w U=>?_)
 refine zt<|zg [η] [] [.v 25 _,.v 26 _] [.g 0,.g 1] U (zv G (ab (aZ (lz0 0 G))) (zQ G (uy ({ X with M:=M1 }) vr (filL L)) (.o (vq 0 G)) o0)) (zz [(0,_),(2,_)] [O 0 61 _] λ a w U=>?_)
 refine zt<|zg [η] [] [.v 27 _,.v 28 _] [.g 0,.g 1] U (zv G (ab (aZ (lz0 0 G))) (zQ G (yX ({ X with M:=M1 }) vr (filL L)) (.o (vq 0 G)) o0)) (zz [(0,_),(2,_)] [O 0 61 _] λ a w U=>?_)
 refine zt<|zg [η] [] [.v 29 _,.v 30 _] [.g 0,.g 1] U (zv G (ab (aZ (lz0 0 G))) (zQ G (uz ({ X with M:=M1 }) vr (filL L)) (.o (vq 0 G)) o0)) (zz [(0,_),(2,_)] [O 0 61 _] λ a w U=>?_)
 refine zt<|zg [η] [] [.v 31 _,.v 32 _] [.g 0,.g 1] U (zv G (ab (aZ (lz0 0 G))) (zQ G (yY ({ X with M:=M1 }) vr (filL L)) (.o (vq 0 G)) o0)) (zz [(0,_),(2,_)] [O 0 61 _] λ a w U=>?_)
 refine zt<|zg [η] [] [.v 33 _,.v 34 _] [.g 0,.g 1] U (zv G (ab (aZ (lz0 0 G))) (zQ G (rG ({ X with M:=M1 }) vr (filL L)) (.o (vq 0 G)) o0)) (zz [(0,_),(2,_)] [O 0 61 _] λ a w U=>?_)
 refine zt<|bN (sp:=[.v 35 _,.v 36 VT]) 1 1 99 1 OneC [.g 0,.g 1,.o 0] U (zM 0 G o0) G zd zk zk (zz [(0,_),(2,_),(35,_)] [O 0 61 _] λ a w U=>?_)
 rw [show List.range' 1 1=[1] from rfl]
 rw [qv]
 refine d8 (A1:=GqA { X with M:=M1 } vr (filL L)) [0,1] [] 0 G U (CK.wkT (Gq { X with M:=M1 } vr (filL L) (px hnew) (by rw [qi]; exact hl)) zd) G (zV (b:=ptr g) (U.vals _ (zm 2 G)) (x4 (U.vals _ (zm 0 G)))) .nil G hrm zd zk zk zk zk (λ a w U=>?_)
 refine bC ?_
 obtain ⟨L2,hG,U⟩:=gq_st U 0 rfl
 have hdone:=Gw hG (px hnew)
 have hlM2:L2.length≤1000000:=by rw [hG.1,qi]; exact hl
 have U:=zn [(36,_),(0,_),(2,_)] [⟨0,61,ptrH,BqA { X with M:=M1 } vr L2⟩] U
 refine zt<|zg [η] [] [.v 37 _,.v 38 _] [.g 1,.g 2] U (zv G (ab (aZ (lz0 0 G))) (zQ G (pp ({ X with M:=M1 }) vr L2 hN) (.o (vq 0 G)) o0)) (zz [(0,_),(2,_)] [O 0 61 _] λ a w U=>?_)
 refine zt<|zg [η] [] [.v 39 _,.v 40 _] [.g 0,.g 1] U (zv G (ab (aZ (lz0 0 G))) (zQ G (rC ({ X with M:=M1 }) vr L2) (.o (vq 0 G)) o0)) (zz [(0,_),(2,_)] [O 0 61 _] λ a w U=>?_)
 refine zt<|zg [η] [] [.v 41 _,.v 42 _] [.g 0,.g 1] U (zv G (ab (aZ (lz0 0 G))) (zQ G (nY ({ X with M:=M1 }) vr L2) (.o (vq 0 G)) o0)) (zz [(0,_),(2,_)] [O 0 61 _] λ a w U=>?_)
 refine zt<|zg [η] [] [.v 43 _,.v 44 _] [.g 0,.g 1] U (zv G (ab (aZ (lz0 0 G))) (zQ G (uo ({ X with M:=M1 }) vr L2) (.o (vq 0 G)) o0)) (zz [(0,_),(2,_)] [O 0 61 _] λ a w U=>?_)
 refine zt<|zg [η] [] [.v 45 _,.v 46 _] [.g 0,.g 1] U (zv G (ab (aZ (lz0 0 G))) (zQ G (ut ({ X with M:=M1 }) vr L2) (.o (vq 0 G)) o0)) (zz [(0,_),(2,_)] [O 0 61 _] λ a w U=>?_)
 refine zt<|zg [η] [] [.v 47 _,.v 48 _] [.g 0,.g 1] U (zv G (ab (aZ (lz0 0 G))) (zQ G (rB ({ X with M:=M1 }) vr L2) (.o (vq 0 G)) o0)) (zz [(0,_),(2,_)] [O 0 61 _] λ a w U=>?_)
 refine zt<|zg [η] [] [.v 49 _,.v 50 _] [.g 0,.g 1] U (zv G (ab (aZ (lz0 0 G))) (zQ G (yK ({ X with M:=M1 }) vr L2 hR) (.o (vq 0 G)) o0)) (zz [(0,_),(2,_)] [O 0 61 _] λ a w U=>?_)
 refine zt<|bN (sp:=[.v 51 _,.v 52 VT]) 1 1 99 1 OneC [.g 0,.g 1,.o 0] U (zM 0 G o0) G zd zk zk (zz [(0,_),(2,_),(51,_)] [O 0 61 _] λ a w U=>?_)
 rw [show List.range' 1 1=[1] from rfl]
 rw [qv]
 refine d8 (A1:=ExElement { X with M:=M1 } vr L2 (allDone MkE M1)) [0,1] [] 0 G U (CK.wkT (nX { X with M:=M1 } vr L2 hM1.2 (by show M1.length≤_; rw [hM1.1]; exact hlM)) zd) G (zV (b:=ptr g) (U.vals _ (zm 2 G)) (x4 (U.vals _ (zm 0 G)))) .nil G hrm zd zk zk zk zk (λ a w U=>?_)
 refine bC ?_
 obtain ⟨M2,hM2,U⟩:=stElement U 0 rfl
 have U:=zn [(52,_),(0,_),(2,_)] [⟨0,61,ptrH,BqA { X with M:=M2 } vr L2⟩] U
 refine zt<|zg [η] [] [.v 53 _,.v 54 _] [.g 1,.g 2] U (zv G (ab (aZ (lz0 0 G))) (zQ G (uw ({ X with M:=M2 }) vr L2) (.o (vq 0 G)) o0)) (zz [(0,_),(2,_)] [O 0 61 _] λ a w U=>?_)
 refine zt<|zg [η] [] [.v 55 _,.v 56 _] [.g 0,.g 1] U (zv G (ab (aZ (lz0 0 G))) (zQ G (uu ({ X with M:=M2 }) vr L2) (.o (vq 0 G)) o0)) (zz [(0,_),(2,_)] [O 0 61 _] λ a w U=>?_)
 refine zt<|zg [η] [] [.v 57 _,.v 58 _] [.g 0,.g 1] U (zv G (ab (aZ (lz0 0 G))) (zQ G (uq ({ X with M:=M2 }) vr L2) (.o (vq 0 G)) o0)) (zz [(0,_),(2,_)] [O 0 61 _] λ a w U=>?_)
 refine zt<|zg [η] [] [.v 59 _,.v 60 _] [.g 0,.g 1] U (zv G (ab (aZ (lz0 0 G))) (zQ G (yL ({ X with M:=M2 }) vr L2) (.o (vq 0 G)) o0)) (zz [(0,_),(2,_)] [O 0 61 _] λ a w U=>?_)
 refine zt<|zg [η] [] [.v 61 _,.v 62 _] [.g 0,.g 1] U (zv G (ab (aZ (lz0 0 G))) (zQ G (ur ({ X with M:=M2 }) vr L2) (.o (vq 0 G)) o0)) (zz [(0,_),(2,_)] [O 0 61 _] λ a w U=>?_)
 refine zt<|zg [η] [] [.v 63 _,.v 64 _] [.g 0,.g 1] U (zv G (ab (aZ (lz0 0 G))) (zQ G (yM ({ X with M:=M2 }) vr L2) (.o (vq 0 G)) o0)) (zz [(0,_),(2,_)] [O 0 61 _] λ a w U=>?_)
 refine zt<|zg [η] [] [.v 65 _,.v 66 _] [.g 0,.g 1] U (zv G (ab (aZ (lz0 0 G))) (zQ G (rA ({ X with M:=M2 }) vr L2) (.o (vq 0 G)) o0)) (zz [(0,_),(2,_)] [O 0 61 _] λ a w U=>?_)
 refine zt<|gl (sts:=[none]) (news:=[]) (sp:=((.v 67 _:Sp)::(.v 68 _)::(.v 69 _)::(.t 70 _)::(.t 71 _)::(.v 72 _)::(.v 73 _)::(.t 74 _)::(.t 75 _)::(.v 76 _)::(.v 77 _)::(.t 78 _)::(.t 79 _)::(.v 80 _)::(.v 81 _)::(.t 82 _)::(.t 83 _)::(.v 84 _)::(.v 85 _)::(.t 86 _)::(.t 87 _)::(.v 88 _)::(.v 89 _)::(.t 90 _)::(.t 91 _)::(.v 92 _)::(.v 93 _)::(.t 94 _)::(.t 95 _)::(.v 96 _)::(.v 97 _)::(.t 98 _)::(.t 99 _)::(.v 100 _)::(.v 101 _)::(.t 102 _)::(.t 103 _)::(.v 104 _)::(.v 105 _)::(.t 106 _)::(.t 107 _)::(.v 108 _)::(.v 109 _)::(.t 110 _)::(.t 111 _)::(.v 112 _)::(.v 113 _)::(.t 114 _)::(.t 115 _)::(.v 116 _)::(.v 117 _)::(.t 118 _)::(.t 119 _)::(.v 120 _)::(.v 121 _)::(.t 122 _)::(.t 123 _)::(.v 124 _)::(.v 125 _)::(.t 126 _)::(.t 127 _)::(.v 128 _)::(.v 2 _)::[])) [.g 0,.o 62] U (zv G (ab (aZ (lz0 0 G))) (zQ G (G1 ({ X with M:=M2 }) vr L2 hdone hlM2) (.o (vq 0 G)) (zv G (ab (vq 1 G)) (zB 2 G (λ hg=>ab (aZ (lz0 0 G))) (zB 2 G (λ hg=>aX (pg ({ X with M:=M2 }) vr L2 hN) (.o (ac (vq 3 G) hg))) (zv G (bG (vq 2 G) (vq 4 G)) (zv G (ab (vq 5 G)) (zB 6 G (λ hg=>ab (aZ (lz0 0 G))) (zB 6 G (λ hg=>aX (rt ({ X with M:=M2 }) vr L2) (.o (ac (vq 7 G) hg))) (zv G (bG (vq 6 G) (vq 8 G)) (zv G (ab (vq 9 G)) (zB 10 G (λ hg=>ab (aZ (lz0 0 G))) (zB 10 G (λ hg=>aX (nP ({ X with M:=M2 }) vr L2) (.o (ac (vq 11 G) hg))) (zv G (bG (vq 10 G) (vq 12 G)) (zv G (ab (vq 13 G)) (zB 14 G (λ hg=>ab (aZ (lz0 0 G))) (zB 14 G (λ hg=>aX (uh ({ X with M:=M2 }) vr L2) (.o (ac (vq 15 G) hg))) (zv G (bG (vq 14 G) (vq 16 G)) (zv G (ab (vq 17 G)) (zB 18 G (λ hg=>ab (aZ (lz0 0 G))) (zB 18 G (λ hg=>aX (uk ({ X with M:=M2 }) vr L2) (.o (ac (vq 19 G) hg))) (zv G (bG (vq 18 G) (vq 20 G)) (zv G (ab (vq 21 G)) (zB 22 G (λ hg=>ab (aZ (lz0 0 G))) (zB 22 G (λ hg=>aX (rr ({ X with M:=M2 }) vr L2) (.o (ac (vq 23 G) hg))) (zv G (bG (vq 22 G) (vq 24 G)) (zv G (ab (vq 25 G)) (zB 26 G (λ hg=>ab (aZ (lz0 0 G))) (zB 26 G (λ hg=>aX (yk ({ X with M:=M2 }) vr L2 hR) (.o (ac (vq 27 G) hg))) (zv G (bG (vq 26 G) (vq 28 G)) (zv G (ab (vq 29 G)) (zB 30 G (λ hg=>ab (aZ (lz0 0 G))) (zB 30 G (λ hg=>aX (nO ({ X with M:=M2 }) vr L2 hM2.2 (by show M2.length≤_; rw [hM2.1,hM1.1]; exact hlM)) (.o (ac (vq 31 G) hg))) (zv G (bG (vq 30 G) (vq 32 G)) (zv G (ab (vq 33 G)) (zB 34 G (λ hg=>ab (aZ (lz0 0 G))) (zB 34 G (λ hg=>aX (um ({ X with M:=M2 }) vr L2) (.o (ac (vq 35 G) hg))) (zv G (bG (vq 34 G) (vq 36 G)) (zv G (ab (vq 37 G)) (zB 38 G (λ hg=>ab (aZ (lz0 0 G))) (zB 38 G (λ hg=>aX (ul ({ X with M:=M2 }) vr L2) (.o (ac (vq 39 G) hg))) (zv G (bG (vq 38 G) (vq 40 G)) (zv G (ab (vq 41 G)) (zB 42 G (λ hg=>ab (aZ (lz0 0 G))) (zB 42 G (λ hg=>aX (ui ({ X with M:=M2 }) vr L2) (.o (ac (vq 43 G) hg))) (zv G (bG (vq 42 G) (vq 44 G)) (zv G (ab (vq 45 G)) (zB 46 G (λ hg=>ab (aZ (lz0 0 G))) (zB 46 G (λ hg=>aX (yn ({ X with M:=M2 }) vr L2) (.o (ac (vq 47 G) hg))) (zv G (bG (vq 46 G) (vq 48 G)) (zv G (ab (vq 49 G)) (zB 50 G (λ hg=>ab (aZ (lz0 0 G))) (zB 50 G (λ hg=>aX (uj ({ X with M:=M2 }) vr L2) (.o (ac (vq 51 G) hg))) (zv G (bG (vq 50 G) (vq 52 G)) (zv G (ab (vq 53 G)) (zB 54 G (λ hg=>ab (aZ (lz0 0 G))) (zB 54 G (λ hg=>aX (yo ({ X with M:=M2 }) vr L2) (.o (ac (vq 55 G) hg))) (zv G (bG (vq 54 G) (vq 56 G)) (zv G (ab (vq 57 G)) (zB 58 G (λ hg=>ab (aZ (lz0 0 G))) (zB 58 G (λ hg=>aX (rq ({ X with M:=M2 }) vr L2) (.o (ac (vq 59 G) hg))) (zv G (bG (vq 58 G) (vq 60 G)) (zA 61 G o0))))))))))))))))))))))))))))))))))))))))))))))))))))))))))))))) (zz [(0,_),(2,_)] [O 0 61 _] λ a w U=>?_)
 have U:=St.wkL (A':=JkA) U 0 rfl bq_jk
 refine a7<|qe<|fG U (zm 0 G) (zm 0 G) ?_
 exact an G U (zm 1 G)
def BqG (n:Nat)(la nu ra el:As):As:=cat [NumA .i64 (n:Nat),la,nu,EqS (.slice none 0 0),EqS (.slice none 0 0),EqS (.slice none 0 0),EqS (.slice none 0 0),EqS (.slice none 0 0),ra,el,EqS (.slice none 0 0),EqS (.slice none 0 0),EqS (.slice none 0 0),EqS (.slice none 0 0),EqS (.slice none 0 0),EqS (.slice none 0 0),EqS (.slice none 0 0)]
theorem AD {n m:Nat}{la nu ra el:As}(h:(BqG n la nu ra el).p B cs w):0+0<cs.length∧(BqG m la nu ra el).p B (cs.set (0+0) (.int .i64 (m:Nat))) w:=by
 obtain ⟨ps,e,hp⟩:=h
 cases hp with
 | @cons _ c _ ps h1 hp =>
  have h1':c=[.int .i64 (n:Nat)]:=h1
  subst h1' e
  exact ⟨by simp,[.int .i64 (m:Nat)]::ps,by simp,.cons G hp⟩
theorem AE {n:Nat}{la nu ra el la' nu' ra' el':As}(h:(BqG n la nu ra el).p B cs w)(f1:∀ c,la.p B c w→la'.p B c w')(f2:∀ c,nu.p B c w→nu'.p B c w')(f3:∀ c,ra.p B c w→ra'.p B c w')(f4:∀ c,el.p B c w→el'.p B c w'):(BqG n la' nu' ra' el').p B cs w':=by
 obtain ⟨ps,e,hp⟩:=h
 refine ⟨ps,e,?_⟩
 cases hp with
 | cons h1 hp=>cases hp with
  | cons h2 hp=>cases hp with
   | cons h3 hp =>
    refine .cons h1 (.cons (f1 _ h2) (.cons (f2 _ h3) ?_))
    iterate 5 (cases hp; rename_i h3 hp; refine .cons h3 ?_)
    cases hp; rename_i h3 hp; refine .cons (f3 _ h3) ?_
    cases hp; rename_i h3 hp; refine .cons (f4 _ h3) ?_
    iterate 7 (cases hp; rename_i h3 hp; refine .cons h3 ?_)
    cases hp
    exact .nil
def HxG (c:Value)(A:As)(v:Value):As where
 n:=1
 ag:=false
 p B cs w:=cs=[c]∧c.oneCell'=true∧A.p B [v] w∧v.oneCell'=true
 deps:=A.deps
 len:=by rintro B cs w ⟨rfl,_⟩; rfl
 one:=by rintro B cs w ⟨rfl,h,_⟩ x hx; simp at hx; subst hx; exact h
 ag1:=λ _=>rfl
 cg:=λ B cs w w' hg ⟨h1,h2,h3,h4⟩=>⟨h1,h2,A.cg _ _ _ _ hg h3,h4⟩
 wr:=λ B cs w w' g c T fz h1 h2 h3 h4 ⟨h5,h6,h7,h8⟩=>⟨h5,h6,A.wr _ _ _ _ _ _ _ _ h1 h2 h3 h4 h7,h8⟩
theorem Eh {n:Nat}{c v:Value}{A nu ra el:As}(h:(BqG n (HxG c A v) nu ra el).p B cs w):0+1<cs.length∧(BqG n A nu ra el).p B (cs.set (0+1) v) w:=by
 obtain ⟨ps,e,hp⟩:=h
 cases hp with
 | @cons _ c1 _ ps h1 hp=>cases hp with
  | @cons _ c2 _ ps h2 hp =>
   have h1':c1=[.int .i64 (n:Nat)]:=h1
   obtain ⟨h3,h4,h5,_⟩:=h2
   subst h1' h3 e
   refine ⟨by simp,[.int .i64 (n:Nat)]::[v]::ps,by simp,.cons G (.cons h5 hp)⟩
theorem rk {A:As}(hA:A.n=1){c:List Value}(h:A.p B c w):∃ x,c=[x]:=List.length_eq_one_iff.1 (by rw [A.len _ _ _ h,hA])
theorem Eg {n:Nat}{c v:Value}{la nu ra A:As}(n1:la.n=1)(n2:nu.n=1)(n3:ra.n=1)(h:(BqG n la nu ra (HxG c A v)).p B cs w):0+9<cs.length∧(BqG n la nu ra A).p B (cs.set (0+9) v) w:=by
 obtain ⟨ps,e,hp⟩:=h
 cases hp with
 | @cons _ c0 _ ps h0 hp=>cases hp with
  | @cons _ c1 _ ps h1 hp=>cases hp with
   | @cons _ c2 _ ps h2 hp=>cases hp with
    | @cons _ c3 _ ps h3 hp=>cases hp with
     | @cons _ c4 _ ps h4 hp=>cases hp with
      | @cons _ c5 _ ps h5 hp=>cases hp with
       | @cons _ c6 _ ps h6 hp=>cases hp with
        | @cons _ c7 _ ps h7 hp=>cases hp with
         | @cons _ c8 _ ps h8 hp=>cases hp with
          | @cons _ c9 _ ps h9 hp =>
           obtain ⟨x1,rfl⟩:=rk n1 h1
           obtain ⟨x2,rfl⟩:=rk n2 h2
           obtain ⟨x8,rfl⟩:=rk n3 h8
           have h0':c0=[.int .i64 (n:Nat)]:=h0
           obtain ⟨rfl,_⟩:=h3
           obtain ⟨rfl,_⟩:=h4
           obtain ⟨rfl,_⟩:=h5
           obtain ⟨rfl,_⟩:=h6
           obtain ⟨rfl,_⟩:=h7
           obtain ⟨rfl,q4,q5,q6⟩:=h9
           subst h0' e
           refine ⟨by simp,[.int .i64 (n:Nat)]::[x1]::[x2]::[.slice none 0 0]::[.slice none 0 0]::[.slice none 0 0]::[.slice none 0 0]::[.slice none 0 0]::[x8]::[v]::ps,by simp,?_⟩
           exact .cons G (.cons h1 (.cons h2 (.cons ⟨rfl,rfl⟩ (.cons ⟨rfl,rfl⟩ (.cons ⟨rfl,rfl⟩ (.cons ⟨rfl,rfl⟩ (.cons ⟨rfl,rfl⟩ (.cons h8 (.cons q5 hp)))))))))
theorem hb_grO {L:List Slot}{B T:Nat}{row:Option Nat}(hg:w.grownBy w' row)(hr:RowOk w B T row)(hT:T≠127∧T≠U32):∀ c,(HbA vr L).p B c w→(HbA vr L).p B c w':=λ c hp=>As.grown hp hg hr (qg _) (show T ∉ [127,U32] by simp [hT.1,hT.2])
theorem pn {H E m:Nat}{L:List Slt}{B T:Nat}{row:Option Nat}(hg:w.grownBy w' row)(hr:RowOk w B T row)(hT:T≠H∧T≠E):∀ c,(HkA H E m vr L).p B c w→(HkA H E m vr L).p B c w':=λ c hp=>As.grown hp hg hr (qg _) (show T ∉ [H,E] by simp [hT.1,hT.2])
theorem t7 {L:List Slot}{xs:List Nat}{n B:Nat}{c:List Value}(h:(HbA vr L).p B c w)(hm:(MgN xs).va.p B v w)(hsep:∀ t∈L,∀ g,t.has g→v.ownBlock≠some g):
  w.ownsRow B 127 3 vr L.length (L.flatMap Slot.cells)∧∀ v' w',w'.ownsRow B 127 3 v' (L.length+1) (L.flatMap Slot.cells++(newS v xs n).cells)→w.grownBy w' vr.ownBlock→(HxG vr (HbA v' (L++[newS v xs n])) v').p B c w':=by
 obtain ⟨q1,q2,q3,q4⟩:=h
 refine ⟨q2,λ v' w' hown hg=>?_⟩
 have hkeep:∀ (g:Nat) (c:Array Value),w.heap[g]?=some (Obj.cells c U32 (0,0))→w'.heap[g]?=some (Obj.cells c U32 (0,0)):=λ g c h8=>by
  refine (hg.block g (Array.getElem?_eq_some_iff.1 h8).1 (λ e9=>?_)).trans h8
  rcases q2.2 with ⟨e1,_⟩ | ⟨g',cap,cur,e1,_,e3,_⟩
  ·rw [e1] at e9; cases e9
  ·rw [e1] at e9
   have:g=g':=by simpa [Value.ownBlock] using e9
   subst this
   rw [h8] at e3
   injection e3 with e3
   injection e3 with _ e3 _
   revert e3
   decide
 have hown1:=mg_own hm
 refine ⟨q1,(cY q2).1,⟨rfl,?_,λ t ht=>?_,λ i j s t hi hj hne g hs ht=>?_⟩,(cY hown).1⟩
 ·rw [qn,kQ]
  simpa using hown
 ·rcases qw.1 ht with ht | ht
  ·exact (q3 t ht).keep λ g c _ h8=>hkeep g c h8
  ·obtain rfl:=qq.1 ht
   have h9:w'.ownsRow B U32 1 v xs.length (xs.map lv):=cu hown1 λ g c _ h8=>hkeep g c h8
   exact ⟨h9,wL h9⟩
 ·have hb1:∀ g,(newS v xs n).has g→v.ownBlock=some g:=λ g h=>by
   rcases h with h | h <;> exact h
  have hget:∀ (i:Nat) s,(L++[newS v xs n])[i]?=some s→(L[i]?=some s∧i<L.length)∨(i=L.length∧s=newS v xs n):=λ i s hi=>by
   by_cases h5:i<L.length
   ·rw [List.getElem?_append_left h5] at hi
    exact .inl ⟨hi,h5⟩
   ·rw [List.getElem?_append_right zo] at hi
    have h6:=(List.getElem?_eq_some_iff.1 hi).1
    simp at h6
    have h7:i=L.length:=by omega
    subst h7
    simp at hi
    exact .inr ⟨rfl,hi.symm⟩
  rcases hget i s hi with ⟨h5,h5'⟩ | ⟨h5,rfl⟩ <;> rcases hget j t hj with ⟨h6,h6'⟩ | ⟨h6,rfl⟩
  ·exact q4 i j s t h5 h6 hne g hs ht
  ·exact hsep s (qa h5) g hs (hb1 g ht)
  ·exact hsep t (qa h6) g ht (hb1 g hs)
  ·omega
def chunks (m n:Nat)(ds:List Value):List (List Value):=(List.range n).map λ k=>(ds.drop (k*m)).take m
theorem mR {m n:Nat}{ds:List Value}:(chunks m n ds).length=n:=by unfold chunks; simp
theorem rP {m n:Nat}{ds:List Value}(h:ds.length=n*m):∀ x∈chunks m n ds,x.length=m:=λ x hx=>by
 obtain ⟨k,hk,rfl⟩:=qm.1 hx
 have hk':=x3.1 hk
 have:k*m+m≤n*m:=by rw [← xk]; exact qG m hk'
 rw [zj,xw]
 omega
theorem lY {m:Nat}:∀ {n:Nat} {ds:List Value},ds.length=n*m→(chunks m n ds).flatten=ds
 | 0,ds,h=>by
  have:ds=[]:=z7 (by simpa using h)
  subst this
  rfl
 | n+1,ds,h=>by
  have h1:chunks m (n+1) ds=ds.take m::chunks m n (ds.drop m):=by
   unfold chunks
   rw [List.range_succ_eq_map,qX,jg,jy,xo]
   congr 1
   apply List.map_congr_left
   intro k _
   show (ds.drop ((k+1)*m)).take m=((ds.drop m).drop (k*m)).take m
   rw [List.drop_drop,xk,z5 m]
  rw [h1,qL,lY (by rw [xw,h,xk]; omega),xq]
def newK (m:Nat)(v:Value)(a:Nat)(ds:List Value)(n:Nat):Slt:=⟨v,chunks m a ds,v,chunks m a ds,.slice none 0 0,n⟩
def OwV (E m:Nat)(v:Value)(n:Nat):VA where
 p B u w:=u=v∧∃ ds,w.ownsRow B E m v n ds
 deps:=[E]
 cg:=λ B u w w' hg ⟨h,ds,h2⟩=>⟨h,ds,cu h2 λ g c _ h=>hg.heap h⟩
 wr:=by
  rintro B u w w' g c T fz hgc hT hB hW ⟨h,ds,h2⟩
  simp only [qo,z6,or_false] at hT
  refine ⟨h,ds,cu h2 λ g' c' _ h3=>?_⟩
  rw [hW.block g' (λ e=>?_)]
  ·exact h3
  ·subst e
   rw [hgc] at h3
   injection h3 with h3
   injection h3 with _ h3 _
   exact hT h3
theorem owv_eq {E m n:Nat}:Wk (OwV E m v n) (EqS v).va:=λ B u w ⟨h,ds,h2⟩=>⟨[v],⟨rfl,(cY h2).1⟩,h⟩
theorem t5 {H E m a n B:Nat}{L:List Slt}{c ds:List Value}(hHE:H≠E)(h:(HkA H E m vr L).p B c w)(hm:w.ownsRow B E m v a ds)(hsep:∀ t∈L,∀ g,t.has g→v.ownBlock≠some g):
  w.ownsRow B H 3 vr L.length (L.flatMap Slt.cells)∧∀ v' w',w'.ownsRow B H 3 v' (L.length+1) (L.flatMap Slt.cells++(newK m v a ds n).cells)→w.grownBy w' vr.ownBlock→(HxG vr (HkA H E m v' (L++[newK m v a ds n])) v').p B c w':=by
 obtain ⟨q1,q2,q3,q4⟩:=h
 refine ⟨q2,λ v' w' hown hg=>?_⟩
 have hkeep:∀ (g:Nat) (c:Array Value),w.heap[g]?=some (Obj.cells c E (0,0))→w'.heap[g]?=some (Obj.cells c E (0,0)):=λ g c h8=>by
  refine (hg.block g (Array.getElem?_eq_some_iff.1 h8).1 (λ e9=>?_)).trans h8
  rcases q2.2 with ⟨e1,_⟩ | ⟨g',cap,cur,e1,_,e3,_⟩
  ·rw [e1] at e9; cases e9
  ·rw [e1] at e9
   have:g=g':=by simpa [Value.ownBlock] using e9
   subst this
   rw [h8] at e3
   injection e3 with e3
   injection e3 with _ e3 _
   exact hHE e3.symm
 have hcl:(chunks m a ds).length=a:=mR
 have hfl:(chunks m a ds).flatten=ds:=lY hm.1
 refine ⟨q1,(cY q2).1,⟨rfl,?_,λ t ht=>?_,λ i j s t hi hj hne g hs ht=>?_⟩,(cY hown).1⟩
 ·rw [qn,kQ]
  simpa using hown
 ·rcases qw.1 ht with ht | ht
  ·exact (q3 t ht).keep λ g c _ h8=>hkeep g c h8
  ·obtain rfl:=qq.1 ht
   have h9:w'.ownsRow B E m v (chunks m a ds).length (chunks m a ds).flatten:=by
    rw [hcl,hfl]
    exact cu hm λ g c _ h8=>hkeep g c h8
   exact ⟨h9,sG (rP hm.1) h9⟩
 ·have hb1:∀ g,(newK m v a ds n).has g→v.ownBlock=some g:=λ g h=>by
   rcases h with h | h <;> exact h
  have hget:∀ (i:Nat) s,(L++[newK m v a ds n])[i]?=some s→(L[i]?=some s∧i<L.length)∨(i=L.length∧s=newK m v a ds n):=λ i s hi=>by
   by_cases h5:i<L.length
   ·rw [List.getElem?_append_left h5] at hi
    exact .inl ⟨hi,h5⟩
   ·rw [List.getElem?_append_right zo] at hi
    have h6:=(List.getElem?_eq_some_iff.1 hi).1
    simp at h6
    have h7:i=L.length:=by omega
    subst h7
    simp at hi
    exact .inr ⟨rfl,hi.symm⟩
  rcases hget i s hi with ⟨h5,h5'⟩ | ⟨h5,rfl⟩ <;> rcases hget j t hj with ⟨h6,h6'⟩ | ⟨h6,rfl⟩
  ·exact q4 i j s t h5 h6 hne g hs ht
  ·exact hsep s (qa h5) g hs (hb1 g ht)
  ·exact hsep t (qa h6) g ht (hb1 g hs)
  ·omega
theorem DQ {n B:Nat}{m a:Nat}{es ds:List Value}(h:(cat [EqS v,EqS (.slice none 0 0),NumA .i64 (n:Nat)]).p B ds w):ds=(newK m v a es n).cells:=by
 obtain ⟨ps,rfl,hp⟩:=h
 cases hp with
 | cons h1 hp=>cases hp with
  | cons h2 hp=>cases hp with
   | cons h3 hp =>
    cases hp
    have h3':=h3
    obtain ⟨rfl,_⟩:=h1
    obtain ⟨rfl,_⟩:=h2
    have:_=[Value.int .i64 (n:Nat)]:=h3'
    subst this
    rfl
theorem Ef {n:Nat}{c v:Value}{A nu ra el:As}{B N:Nat}{s:Nat}(h:St B w0 N Γ Λ a w)(k:Nat)(hm:Λ[k]?=some ⟨s,T,H,BqG n (HxG c A v) nu ra el⟩):v.oneCell'=true∧v.cells = #[v]:=by
 obtain ⟨g,cs,_,_,_,hp⟩:=h.locs _ (qa hm)
 obtain ⟨ps,e,hp⟩:=hp
 cases hp with
 | cons h1 hp=>cases hp with
  | cons h2 hp=>exact ⟨h2.2.2.2,lZ h2.2.2.2⟩
theorem Ee {n:Nat}{c v:Value}{A la nu ra:As}{B N:Nat}{s:Nat}(h:St B w0 N Γ Λ a w)(k:Nat)(hm:Λ[k]?=some ⟨s,T,H,BqG n la nu ra (HxG c A v)⟩):v.oneCell'=true∧v.cells = #[v]:=by
 obtain ⟨g,cs,_,_,_,hp⟩:=h.locs _ (qa hm)
 obtain ⟨ps,e,hp⟩:=hp
 iterate 9 (cases hp; rename_i _ hp)
 cases hp; rename_i h2 hp
 exact ⟨h2.2.2.2,lZ h2.2.2.2⟩
theorem m9:∃ it z,Tryz.prog.info? 125=some it∧it.zero=some z∧it.size=3∧it.bytes=56∧z.cells.size=3:=by
 have h:((Tryz.prog.info? 125).bind λ it=>it.zero.map λ z=>(it.size,it.bytes,z.cells.size))=some (3,56,3):=by kernel_rfl
 cases hi:Tryz.prog.info? 125 with
 | none=>rw [hi] at h; simp at h
 | some it =>
  rw [hi] at h
  cases hz:it.zero with
  | none=>simp [hz] at h
  | some z =>
   simp [hz] at h
   exact ⟨it,z,rfl,hz,h.1,h.2.1,h.2.2⟩
def BqE (p:BkRest→List Slot→Prop):As where
 n:=17
 ag:=true
 p B cs w:=∃ X vr L,p X L∧(BqA X vr L).p B cs w
 deps:=[127,U32,132,3,160,162,125,92]
 len:=λ B cs w ⟨X,vr,L,_,h⟩=>(BqA X vr L).len B cs w h
 one:=λ B cs w ⟨X,vr,L,_,h⟩=>(BqA X vr L).one B cs w h
 ag1:=λ h=>by cases h
 cg:=λ B cs w w' hg ⟨X,vr,L,h1,h⟩=>⟨X,vr,L,h1,(BqA X vr L).cg B cs w w' hg h⟩
 wr:=λ B cs w w' g c T fz h1 h2 h3 h4 ⟨X,vr,L,h5,h⟩=>⟨X,vr,L,h5,(BqA X vr L).wr B cs w w' g c T fz h1 h2 h3 h4 h⟩
theorem tK {X:BkRest}{L:List Slot}{p:BkRest→List Slot→Prop}(h:p X L):WkA (BqA X vr L) (BqE p):=⟨rfl,rfl,λ B cs w hp=>⟨X,vr,L,h,hp⟩⟩
theorem sV {X:BkRest}{n:Nat}{L:List Slot}{xs:List Nat}(h:(BqG n (HbA vr L) (nuA X) (ryA X) (elA X)).p B cs w)(hm:(MgN xs).va.p B v w)(hsep:∀ t∈L,∀ g,t.has g→v.ownBlock≠some g):
  w.ownsRow B 127 3 vr L.length (L.flatMap Slot.cells)∧∀ v' w' ds,ds=(newS v xs n).cells→w'.ownsRow B 127 3 v' (L.length+1) (L.flatMap Slot.cells++ds)→w.grownBy w' vr.ownBlock→(v'.ownBlock=vr.ownBlock∨(v'.ownBlock=some w.heap.size∧w.grownBy w' none))→(BqG n (HxG vr (HbA v' (L++[newS v xs n])) v') (nuA X) (ryA X) (elA X)).p B cs w':=by
 obtain ⟨⟨c0,h0⟩,_⟩:=cN (X:={ X with n:=n }) h
 have hown:=(t7 (n:=n) h0 hm hsep).1
 refine ⟨hown,λ v' w' ds hds hown' hg hb=>?_⟩
 subst hds
 have hr:=fM hown
 exact AE h (λ c hc=>(t7 (n:=n) hc hm hsep).2 v' w' hown' hg) (pn hg hr zd) (pn hg hr zd) (pn hg hr zd)
theorem sX {X:BkRest}{n a:Nat}{L:List Slot}{es:List Value}(h:(BqG n (HbA vr L) (nuA X) (ryA X) (elA X)).p B cs w)(hm:w.ownsRow B 92 9 v a es)(hsep:∀ t∈X.M,∀ g,t.has g→v.ownBlock≠some g):
  w.ownsRow B 125 3 X.ve X.M.length (X.M.flatMap Slt.cells)∧∀ v' w' ds,ds=(newK 9 v a es n).cells→w'.ownsRow B 125 3 v' (X.M.length+1) (X.M.flatMap Slt.cells++ds)→w.grownBy w' X.ve.ownBlock→(v'.ownBlock=X.ve.ownBlock∨(v'.ownBlock=some w.heap.size∧w.grownBy w' none))→(BqG n (HbA vr L) (nuA X) (ryA X) (HxG X.ve (HkA 125 92 9 v' (X.M++[newK 9 v a es n])) v')).p B cs w':=by
 obtain ⟨_,_,_,⟨c0,h0⟩⟩:=cN (X:={ X with n:=n }) h
 have hown:=(t5 (n:=n) zd h0 hm hsep).1
 refine ⟨hown,λ v' w' ds hds hown' hg hb=>?_⟩
 subst hds
 have hr:=fM hown
 exact AE h (hb_grO hg hr zd) (pn hg hr zd) (pn hg hr zd) (λ c hc=>(t5 (n:=n) zd hc hm hsep).2 v' w' hown' hg)
theorem yy (X:BkRest)(vr v:Value)(xs:List Nat)(L:List Slot)(hsep:∀ t∈L,∀ g,t.has g→v.ownBlock≠some g)(hl:L.length≤1000000)(hn:X.n≤10000000):CK Tryz.prog 210 61 [61,127] (BqA X vr L) (BqE (λ X2 L2=>X2.n=X.n+1∧X2.N=X.N∧X2.R=X.R∧X2.M=X.M∧L2=L++[newS v xs (X.n+1)])) [(PinA v (MgN xs)).va] (Tu []):=by
 obtain ⟨it0,z0,hi0,hz0,hs0,hb0',hc0⟩:=CU
 refine CK.intro Tryz.func210 G zk nq zk (λ B g w0 a hrm U=>?_)
 have U:=zn [(0,EqV ((ptrH).f g)),(1,(PinA v (MgN xs)).va)] [⟨0,61,ptrH,BqA X vr L⟩] U
 have U:St B w0 26 _ [⟨0,61,ptrH,BqG X.n (HbA vr L) (nuA X) (ryA X) (elA X)⟩] a w0.w:=U
 refine qb<|bN (sp:=[.v 4 _,.v 5 _,.v 6 _,.v 7 _,.v 8 _,.v 9 _,.v 10 _,.sto 0]) 7 1 0 7 OneC [.g 0,.g 1,.o 4,.o 6] U (zM 0 G (zv G (ib (vq 0 G)) (zv G (ic (vq 1 G) fy) (zv G (cj (vq 2 G) (lz0 0 G) (gq 0 G) (Sub.part 0 G G) ty_3) (zv G (aQ (vq 3 G) a8 (aW zo)) (zv G (ib (vq 0 G)) (zv G (ic (vq 5 G) fy) o0))))))) G zd zk zk (zz [(0,_),(1,_),(8,_),(10,_)] [O 0 61 _] λ a w U=>?_)
 rw [show List.range' 7 1=[7] from rfl]
 have U:=St.wkG U 2 rfl Ev
 rw [qv]
 refine gU (A1:=BqG (X.n+1) (HbA vr L) (nuA X) (ryA X) (elA X)) [0,1] 3 2 0 0 G U G G G G G ty_3 G zk zk G (λ cs hp=>AD hp) (λ w U=>?_)
 refine df ?_
 have U:=zn [(0,_),(1,_)] [⟨0,61,ptrH,BqG (X.n+1) (HbA vr L) (nuA X) (ryA X) (elA X)⟩] U
 refine a7<|t8 (sp:=[.v 11 _,.v 12 _,.v 13 _,.v 14 _,.v 15 _,.v 16 _,.v 17 _,.v 18 _,.v 19 _,.v 20 _,.v 21 _,.v 22 _,.v 23 VT,.v 24 VT,.v 25 VT,.sto 0]) [[],[],[1],[1,2],[1,2,3],[],[],[6],[6,7],[6,7,8],[5,6,7,8,9],[5,6,7,8,9,10],[1,2,3,4,5,6,7,8,9,10,11],[0,1,2,3,4,5,6,7,8,9,10,11,12],[0,1,2,3,4,5,6,7,8,9,10,11,12,13],[0,1,2,3,4,5,6,7,8,9,10,11,12,13,14]] 12 4 0 15 0 OneC [.g 0,.g 1,.o 0,.o 4,.o 11] [.g 0,.g 1,.o 4,.o 11] aa U (zM 0 G (zM 0 G (zv G (ib (vq 1 G)) (zv G (ic (vq 2 G) dk) (zv G (cj (vq 3 G) (lz0 0 G) (gq 0 G) (Sub.part 1 G G) mh) (zv G (ab (has_wk' (gq 1 G) pin_eq)) (zM 0 G (zv G (ib (vq 6 G)) (zv G (ic (vq 7 G) fy) (zv G (cj (vq 8 G) (lz0 0 G) (gq 0 G) (Sub.part 0 G G) ty_3) (zv G (aO (qs:=[(0,_),(2,_)]) iA (.cons ⟨rfl,vq 5 rfl,rfl⟩ (.cons ⟨rfl,vq 9 rfl,rfl⟩ .nil))) (zv G (cq (D:=[U32]) (l:=[_]) (xs:=[.tmp 21]) (dV zk) sl_44 zk (n_ok zk) nq nq nq (.o (vq 10 G)) G G) o0)))))))))))) G zd zd zd zk zk (oE zk) zk zk zk (λ a w U=>?_) (λ a w U=>?_)
 ·have U:=zn [(0,_),(1,_),(11,_),(15,_),(22,_)] [O 0 61 _] U
  rw [show List.range' 12 4=[12,13,14,15] from rfl]
  have U:=St.wkG U 3 rfl Gm
  have hm:=U.vals _ (zm 1 rfl)
  rw [qv]
  refine gX (m:=3) (X:=cat [EqS v,EqS (.slice none 0 0),NumA .i64 ((X.n+1:Nat):Int)]) (A1:=λ v'=>BqG (X.n+1) (HxG vr (HbA v' (L++[newS v xs (X.n+1)])) v') (nuA X) (ryA X) (elA X)) (F:=λ ds=>ds=(newS v xs (X.n+1)).cells) [0,2] 3 4 0 G U G G (λ ds h=>yH h) G G G (hrm _ zk) Tryz.underlying44 hi0 hz0 hs0 hb0' hc0 zd (n:=L.length) zo zo zd zk zk zk zk (λ cs hp=>sV hp (Dw hm) hsep) (λ v' w' U=>?_)
  rw [qv]
  refine nw 2 G U G zd zk zk (λ a U=>?_)
  rw [qv]
  refine gW 0 G U dk G zd zk zk (λ a U=>?_)
  rw [qv]
  have hv1:=(Ef U 0 rfl)
  refine gU (A1:=BqG (X.n+1) (HbA v' (L++[newS v xs (X.n+1)])) (nuA X) (ryA X) (elA X)) [3] 0 2 3 0 G U G G G hv1.1 hv1.2 mh G zk zk G (λ cs hp=>Eh hp) (λ w U=>?_)
  refine df ?_
  have U:=St.wkL (A':=BqE (λ X2 L2=>X2.n=X.n+1∧X2.N=X.N∧X2.R=X.R∧X2.M=X.M∧L2=L++[newS v xs (X.n+1)])) U 0 rfl (tK (X:={ X with n:=X.n+1 }) (vr:=v') (L:=L++[newS v xs (X.n+1)]) ⟨rfl,rfl,rfl,rfl,rfl⟩)
  have U:=zn [(0,_)] [O 0 61 _] U
  refine cc<|fG U (zm 0 G) (zm 0 G) ?_
  exact aE (rs:=[]) G U .nil zd
 ·have U:=zn [(0,_),(1,_),(15,_),(22,_)] [O 0 61 _] U
  rw [show List.range' (12+1) (4-1)=[13,14,15] from rfl]
  have U:=St.wkG U 2 rfl Gm
  have hm:=U.vals _ (zm 1 rfl)
  rw [qv]
  refine gX (m:=3) (X:=cat [EqS v,EqS (.slice none 0 0),NumA .i64 ((X.n+1:Nat):Int)]) (A1:=λ v'=>BqG (X.n+1) (HxG vr (HbA v' (L++[newS v xs (X.n+1)])) v') (nuA X) (ryA X) (elA X)) (F:=λ ds=>ds=(newS v xs (X.n+1)).cells) [0] 2 3 0 G U G G (λ ds h=>yH h) G G G (hrm _ zk) Tryz.underlying44 hi0 hz0 hs0 hb0' hc0 zd (n:=L.length) zo zo zd zk zk zk zk (λ cs hp=>sV hp (Dw hm) hsep) (λ v' w' U=>?_)
  rw [qv]
  refine wQ 1 G U G zd zk zk (λ a U=>?_)
  rw [qv]
  refine nw 0 G U G zd zk zk (λ a U=>?_)
  rw [qv]
  refine gW 0 G U dk G zd zk zk (λ a U=>?_)
  rw [qv]
  have hv1:=(Ef U 0 rfl)
  refine gU (A1:=BqG (X.n+1) (HbA v' (L++[newS v xs (X.n+1)])) (nuA X) (ryA X) (elA X)) [4] 0 3 4 0 G U G G G hv1.1 hv1.2 mh G zk zk G (λ cs hp=>Eh hp) (λ w U=>?_)
  refine df ?_
  have U:=St.wkL (A':=BqE (λ X2 L2=>X2.n=X.n+1∧X2.N=X.N∧X2.R=X.R∧X2.M=X.M∧L2=L++[newS v xs (X.n+1)])) U 0 rfl (tK (X:={ X with n:=X.n+1 }) (vr:=v') (L:=L++[newS v xs (X.n+1)]) ⟨rfl,rfl,rfl,rfl,rfl⟩)
  have U:=zn [(0,_)] [O 0 61 _] U
  refine cc<|fG U (zm 0 G) (zm 0 G) ?_
  exact aE (rs:=[]) G U .nil zd
theorem yA (X:BkRest)(vr v:Value)(na:Nat)(L:List Slot)(hsep:∀ t∈X.M,∀ g,t.has g→v.ownBlock≠some g)(hl:X.M.length≤1000000)(hn:X.n≤10000000):CK Tryz.prog 50 61 [61,125] (BqA X vr L) (BqE (λ X2 L2=>X2.n=X.n+1∧X2.N=X.N∧X2.R=X.R∧L2=L∧∃ es,es.length=na*9∧X2.M=X.M++[newK 9 v na es (X.n+1)])) [OwV 92 9 v na] (Tu []):=by
 obtain ⟨it0,z0,hi0,hz0,hs0,hb0',hc0⟩:=m9
 refine CK.intro Tryz.func50 G zk nq zk (λ B g w0 a hrm U=>?_)
 have U:=zn [(0,EqV ((ptrH).f g)),(1,OwV 92 9 v na)] [⟨0,61,ptrH,BqA X vr L⟩] U
 have U:St B w0 26 _ [⟨0,61,ptrH,BqG X.n (HbA vr L) (nuA X) (ryA X) (elA X)⟩] a w0.w:=U
 refine qb<|bN (sp:=[.v 4 _,.v 5 _,.v 6 _,.v 7 _,.v 8 _,.v 9 _,.v 10 _,.sto 0]) 7 1 0 7 OneC [.g 0,.g 1,.o 4,.o 6] U (zM 0 G (zv G (ib (vq 0 G)) (zv G (ic (vq 1 G) fy) (zv G (cj (vq 2 G) (lz0 0 G) (gq 0 G) (Sub.part 0 G G) ty_3) (zv G (aQ (vq 3 G) a8 (aW zo)) (zv G (ib (vq 0 G)) (zv G (ic (vq 5 G) fy) o0))))))) G zd zk zk (zz [(0,_),(1,_),(8,_),(10,_)] [O 0 61 _] λ a w U=>?_)
 rw [show List.range' 7 1=[7] from rfl]
 have U:=St.wkG U 2 rfl Ev
 rw [qv]
 refine gU (A1:=BqG (X.n+1) (HbA vr L) (nuA X) (ryA X) (elA X)) [0,1] 3 2 0 0 G U G G G G G ty_3 G zk zk G (λ cs hp=>AD hp) (λ w U=>?_)
 refine df ?_
 have U:=zn [(0,_),(1,_)] [⟨0,61,ptrH,BqG (X.n+1) (HbA vr L) (nuA X) (ryA X) (elA X)⟩] U
 refine a7<|t8 (sp:=[.v 11 _,.v 12 _,.v 13 _,.v 14 _,.v 15 _,.v 16 _,.v 17 _,.v 18 _,.v 19 _,.v 20 _,.v 21 _,.v 22 _,.v 23 VT,.v 24 VT,.v 25 VT,.sto 0]) [[],[],[1],[1,2],[1,2,3],[],[],[6],[6,7],[6,7,8],[5,6,7,8,9],[5,6,7,8,9,10],[1,2,3,4,5,6,7,8,9,10,11],[0,1,2,3,4,5,6,7,8,9,10,11,12],[0,1,2,3,4,5,6,7,8,9,10,11,12,13],[0,1,2,3,4,5,6,7,8,9,10,11,12,13,14]] 12 4 0 15 0 OneC [.g 0,.g 1,.o 0,.o 4,.o 11] [.g 0,.g 1,.o 4,.o 11] aa U (zM 0 G (zM 0 G (zv G (ib (vq 1 G)) (zv G (ic (vq 2 G) di) (zv G (cj (vq 3 G) (lz0 0 G) (gq 0 G) (Sub.part 9 G G) mf) (zv G (ab (has_wk' (gq 1 G) owv_eq)) (zM 0 G (zv G (ib (vq 6 G)) (zv G (ic (vq 7 G) fy) (zv G (cj (vq 8 G) (lz0 0 G) (gq 0 G) (Sub.part 0 G G) ty_3) (zv G (aO (qs:=[(0,_),(2,_)]) cV (.cons ⟨rfl,vq 5 rfl,rfl⟩ (.cons ⟨rfl,vq 9 rfl,rfl⟩ .nil))) (zv G (cq (D:=[U32]) (l:=[_]) (xs:=[.tmp 21]) (dV zk) sl_52 zk (n_ok zk) nq nq nq (.o (vq 10 G)) G G) o0)))))))))))) G zd zd zd zk zk (oE zk) zk zk zk (λ a w U=>?_) (λ a w U=>?_)
 ·have U:=zn [(0,_),(1,_),(11,_),(15,_),(22,_)] [O 0 61 _] U
  rw [show List.range' 12 4=[12,13,14,15] from rfl]
  have U:=St.wkG U 3 rfl Gk
  have hm:=U.vals _ (zm 1 rfl)
  obtain ⟨-,es,hm⟩:=hm
  rw [qv]
  refine gX (m:=3) (X:=cat [EqS v,EqS (.slice none 0 0),NumA .i64 ((X.n+1:Nat):Int)]) (A1:=λ v'=>BqG (X.n+1) (HbA vr L) (nuA X) (ryA X) (HxG X.ve (HkA 125 92 9 v' (X.M++[newK 9 v na es (X.n+1)])) v')) (F:=λ ds=>ds=(newK 9 v na es (X.n+1)).cells) [0,2] 3 4 0 G U G G (λ ds h=>DQ h) G G G (hrm _ zk) Tryz.underlying52 hi0 hz0 hs0 hb0' hc0 zd (n:=X.M.length) zo zo zd zk zk zk zk (λ cs hp=>sX hp hm hsep) (λ v' w' U=>?_)
  rw [qv]
  refine nw 2 G U G zd zk zk (λ a U=>?_)
  rw [qv]
  refine gW 0 G U di G zd zk zk (λ a U=>?_)
  rw [qv]
  have hv1:=(Ee U 0 rfl)
  refine gU (A1:=BqG (X.n+1) (HbA vr L) (nuA X) (ryA X) (HkA 125 92 9 v' (X.M++[newK 9 v na es (X.n+1)]))) [3] 0 2 3 0 G U G G G hv1.1 hv1.2 mf G zk zk G (λ cs hp=>Eg G G G hp) (λ w U=>?_)
  refine df ?_
  have U:=St.wkL (A':=BqE (λ X2 L2=>X2.n=X.n+1∧X2.N=X.N∧X2.R=X.R∧L2=L∧∃ es,es.length=na*9∧X2.M=X.M++[newK 9 v na es (X.n+1)])) U 0 rfl (tK (X:={ X with n:=X.n+1,ve:=v',M:=X.M++[newK 9 v na es (X.n+1)] }) (vr:=vr) (L:=L) ⟨rfl,rfl,rfl,rfl,es,hm.1,rfl⟩)
  have U:=zn [(0,_)] [O 0 61 _] U
  refine cc<|fG U (zm 0 G) (zm 0 G) ?_
  exact aE (rs:=[]) G U .nil zd
 ·have U:=zn [(0,_),(1,_),(15,_),(22,_)] [O 0 61 _] U
  rw [show List.range' (12+1) (4-1)=[13,14,15] from rfl]
  have U:=St.wkG U 2 rfl Gk
  have hm:=U.vals _ (zm 1 rfl)
  obtain ⟨-,es,hm⟩:=hm
  rw [qv]
  refine gX (m:=3) (X:=cat [EqS v,EqS (.slice none 0 0),NumA .i64 ((X.n+1:Nat):Int)]) (A1:=λ v'=>BqG (X.n+1) (HbA vr L) (nuA X) (ryA X) (HxG X.ve (HkA 125 92 9 v' (X.M++[newK 9 v na es (X.n+1)])) v')) (F:=λ ds=>ds=(newK 9 v na es (X.n+1)).cells) [0] 2 3 0 G U G G (λ ds h=>DQ h) G G G (hrm _ zk) Tryz.underlying52 hi0 hz0 hs0 hb0' hc0 zd (n:=X.M.length) zo zo zd zk zk zk zk (λ cs hp=>sX hp hm hsep) (λ v' w' U=>?_)
  rw [qv]
  refine wQ 1 G U G zd zk zk (λ a U=>?_)
  rw [qv]
  refine nw 0 G U G zd zk zk (λ a U=>?_)
  rw [qv]
  refine gW 0 G U di G zd zk zk (λ a U=>?_)
  rw [qv]
  have hv1:=(Ee U 0 rfl)
  refine gU (A1:=BqG (X.n+1) (HbA vr L) (nuA X) (ryA X) (HkA 125 92 9 v' (X.M++[newK 9 v na es (X.n+1)]))) [4] 0 3 4 0 G U G G G hv1.1 hv1.2 mf G zk zk G (λ cs hp=>Eg G G G hp) (λ w U=>?_)
  refine df ?_
  have U:=St.wkL (A':=BqE (λ X2 L2=>X2.n=X.n+1∧X2.N=X.N∧X2.R=X.R∧L2=L∧∃ es,es.length=na*9∧X2.M=X.M++[newK 9 v na es (X.n+1)])) U 0 rfl (tK (X:={ X with n:=X.n+1,ve:=v',M:=X.M++[newK 9 v na es (X.n+1)] }) (vr:=vr) (L:=L) ⟨rfl,rfl,rfl,rfl,es,hm.1,rfl⟩)
  have U:=zn [(0,_)] [O 0 61 _] U
  refine cc<|fG U (zm 0 G) (zm 0 G) ?_
  exact aE (rs:=[]) G U .nil zd
def NilM:As where
 n:=1
 ag:=false
 p _ cs _:=cs=[.slice none 0 0]
 deps:=[]
 len:=by rintro B cs w rfl; rfl
 one:=by rintro B cs w rfl x hx; simp at hx; subst hx; rfl
 ag1:=λ _=>rfl
 cg:=λ _ _ _ _ _ h=>h
 wr:=λ _ _ _ _ _ _ _ _ _ _ _ _ h=>h
def NilI:As:=cat [BoA false,NilM]
def RFN (x:RF):As:=cat [RIN x.num,RIN x.den]
def RFD (x:RF):As:=DisA (RFN x)
theorem qd_rfd {k:Nat}{q:Rat}:WkA (QD k q) (RFD (rfOf q)):=gA (bz (.cons and_wk (.cons and_wk .nil)))
theorem lA (h:(cat [NilI,NilI]).p B cs w):cs=[.bool false,.slice none 0 0,.bool false,.slice none 0 0]:=by
 obtain ⟨ps,rfl,hp⟩:=h
 have hI:∀ c,NilI.p B c w→c=[.bool false,.slice none 0 0]:=λ c ⟨qs,e,hq⟩=>by
  cases hq with
  | @cons _ c1 _ _ h1 hq=>cases hq with
   | @cons _ c2 _ _ h2 hq =>
    cases hq
    have h1':c1=[.bool false]:=h1
    have h2':c2=[.slice none 0 0]:=h2
    rw [e,h1',h2']
    rfl
 cases hp with
 | cons h1 hp=>cases hp with
  | cons h2 hp =>
   cases hp
   rw [hI _ h1,hI _ h2]
   rfl
theorem zf_rfd:WkA (cat [NilI,NilI]) (RFD rf0):=⟨rfl,rfl,λ B cs w h=>by
 have hi:(RIN ⟨false,[]⟩).p B [.bool false,.slice none 0 0] w:=⟨[[.bool false],[.slice none 0 0]],rfl,.cons rfl (.cons ⟨cZ,.inl ⟨rfl,rfl⟩⟩ .nil)⟩
 rw [lA h]
 exact ⟨⟨[[.bool false,.slice none 0 0],[.bool false,.slice none 0 0]],rfl,.cons hi (.cons hi .nil)⟩,xK⟩⟩
section
open Rg
variable {P:Program} {Q:Exit→Act→World→Prop} {B N:Nat} {w0:Bs} {Γ:List (Nat × VA)} {ops:Array Oper} {les:List LeF} {sp:List ((Nat→Value)→Sp)} {anc:Nat→List Nat} {i:Nat}
end
theorem Hk {m:Value}{xs:List Nat}(h:(MgN xs).p B [m] w):blk m=m.ownBlock:=by
 rcases h.2 with ⟨_,e⟩ | ⟨g,ext,e,_⟩
 ·injection e with e
  subst e
  rfl
 ·injection e with e
  subst e
  rfl
theorem pl {x:RI}(h:(RIN x).p B cs w):∃ m,(IntP x m).p B cs w∧cbl cs=kbl [(m,x.mag)]:=by
 obtain ⟨ps,rfl,hp⟩:=h
 cases hp with
 | @cons _ c1 _ _ h1 hp=>cases hp with
  | @cons _ c2 _ _ h2 hp =>
   cases hp
   have h1':c1=[.bool x.neg]:=h1
   subst h1'
   have l2:=(MgN x.mag).len _ _ _ h2
   match c2,l2 with
   | [m],_ =>
    refine ⟨m,⟨[[.bool x.neg],[m]],rfl,.cons G (.cons ⟨h2,rfl⟩ .nil)⟩,?_⟩
    have e:=Hk h2
    show List.filterMap blk [.bool x.neg,m]=List.filterMap (λ p=>p.1.ownBlock) [(m,x.mag)]
    have:List.filterMap blk [.bool x.neg,m]=List.filterMap blk [m]:=rfl
    rw [this]
    simp [List.filterMap_cons,e]
section
open Rg
variable {P:Program} {Q:Exit→Act→World→Prop} {B N:Nat} {w0:Bs} {Γ:List (Nat × VA)} {ops:Array Oper} {les:List LeF} {sp:List ((Nat→Value)→Sp)} {anc:Nat→List Nat} {i:Nat}
end
section
open Rg
variable {P:Program} {Q:Exit→Act→World→Prop} {B N:Nat} {w0:Bs} {Γ:List (Nat × VA)} {Λ:List Lc} {a:Act} {w:World}
def les0 (Λ:List Lc):List Le:=Λ.map λ l=>⟨l.s,l.T,l.H,none,l.A,none⟩
theorem yw:(les0 Λ).map (λ e=>(⟨e.s,e.T,e.H,Rg.last e⟩:Lc))=Λ:=by
 unfold les0
 rw [jg]
 have:(λ e:Le=>(⟨e.s,e.T,e.H,Rg.last e⟩:Lc))∘(λ l:Lc=>(⟨l.s,l.T,l.H,none,l.A,none⟩:Le))=id:=by
  funext l
  rfl
 rw [this,List.map_id]
theorem Gy {ops:Array Oper}{sp:List Sp}{d0:Nat}{A0:VA}(src:List Src)(h:St B w0 N ((d0,A0)::Γ) Λ a w)(h0:sp[0]?=some (.v d0 A0))(hsz:0<ops.size)
  (hob:Obs P Q ⟨ops,N,Γ,les0 Λ,sp,λ i=>List.range i⟩ B w0 1 (ops.size-1)) (hk:Rg.chk ⟨ops,N,Γ,les0 Λ,sp,λ i=>List.range i⟩=true) (hsrc:src.all (okS ⟨ops,N,Γ,les0 Λ,sp,λ i=>List.range i⟩)=true)
  (hQ:∀ a w,St B w0 N (src.filterMap (takeS ⟨ops,N,Γ,les0 Λ,sp,λ i=>List.range i⟩)) Λ a w→Q .normal a w):wpOps P ops Q (List.range' 1 (ops.size-1)) a w:=by
 have hmem:∀ e∈les0 Λ,e.cr=none∧e.st=none∧(⟨e.s,e.T,e.H,e.A0⟩:Lc)∈Λ:=λ e he=>by
  obtain ⟨l,hl,rfl⟩:=qm.1 he
  exact ⟨rfl,rfl,hl⟩
 have hcur:∀ e∈les0 Λ,∀ L:Nat→Bool,Rg.cur L e=some e.A0:=λ e he L=>by
  obtain ⟨h1,h2,_⟩:=hmem e he
  unfold Rg.cur
  rw [h1,h2]
  rfl
 have hi0:Rg.Inv ⟨ops,N,Γ,les0 Λ,sp,λ i=>List.range i⟩ B w0 (λ j=>decide (j<1)) a w:=by
  refine ⟨h.lo,h.defers,h.size,h.base,λ x hx _ _=>h.vals x (zi _ hx),λ i y d A hs hv hL _=>?_,λ i d b k c hs hL _=>?_,λ e he A hA=>?_,λ e he f hf hne _ _=>?_⟩
  ·have hL':i<1:=qt hL
   have:i=0:=by omega
   subst this
   have hs':sp[0]?=some y:=hs
   rw [h0] at hs'
   injection hs' with hs'
   subst hs'
   simp only [Sp.vl,Option.some.injEq,Prod.mk.injEq] at hv
   obtain ⟨rfl,rfl⟩:=hv
   exact h.vals (d0,A0) (xA ..)
  ·have hL':i<1:=qt hL
   have:i=0:=by omega
   subst this
   have hs':sp[0]?=some (.adr d b k c):=hs
   rw [h0] at hs'
   cases hs'
  ·rw [hcur e he] at hA
   injection hA with hA
   subst hA
   exact h.locs _ (hmem e he).2.2
  ·exact h.dis _ (hmem e he).2.2 _ (hmem f hf).2.2 hne
 have key:∀ m k,1≤k→k+m=ops.size→∀ a w,Rg.Inv ⟨ops,N,Γ,les0 Λ,sp,λ i=>List.range i⟩ B w0 (λ j=>decide (j<k)) a w→wpOps P ops Q (List.range' k m) a w:=by
  intro m
  induction m with
  | zero =>
   intro k hk1 hkm a w hi
   have:k=ops.size:=by omega
   subst this
   have:=eD hk ⟨hi⟩ src hsrc
   rw [show (Rg.mk ops N Γ (les0 Λ) sp (λ i=>List.range i)).les=les0 Λ from rfl,yw] at this
   exact hQ a w this
  | succ m ih =>
   intro k hk1 hkm a w hi
   rw [List.range'_succ,qv]
   refine Rg.step hk (hob.all k zo zo) hi ?_ (by simp) ?_ _ λ a' w' hi'=>ih (k+1) zo zo a' w' (hi'.congr λ j=>?_)
   ·intro i hi j hj
    have hj:(List.range i).contains j=true:=hj
    simp at hi hj ⊢
    omega
   ·intro j hj
    have hj:(List.range k).contains j=true:=hj
    simpa using hj
   ·unfold upd
    by_cases h1:j=k
    ·subst h1; simp
    ·have h2:(j==k)=false:=by simpa using h1
     rw [h2,ja,qQ]
     omega
 exact key (ops.size-1) 1 (qg _) zo a w hi0
end
theorem Hm:(BkE []).p B ([Value.int .i64 0]++List.replicate 16 (Value.slice none 0 0)) w :=
 ⟨.slice none 0 0,[Value.int .i64 0]::List.replicate 16 [Value.slice none 0 0],rfl,.cons rfl (.cons ⟨rfl,World.ownsRow_nil ..,(λ s hs=>by cases hs),λ i j s t h=>by cases h⟩ (.cons ⟨rfl,rfl⟩ (.cons ⟨rfl,rfl⟩ (.cons ⟨rfl,rfl⟩ (.cons ⟨rfl,rfl⟩ (.cons ⟨rfl,rfl⟩ (.cons ⟨rfl,rfl⟩ (.cons ⟨rfl,rfl⟩ (.cons ⟨rfl,rfl⟩ (.cons ⟨rfl,rfl⟩ (.cons ⟨rfl,rfl⟩ (.cons ⟨rfl,rfl⟩ (.cons ⟨rfl,rfl⟩ (.cons ⟨rfl,rfl⟩ (.cons ⟨rfl,rfl⟩ (.cons ⟨rfl,rfl⟩ .nil))))))))))))))))⟩
theorem uQ:Zero Tryz.prog 61 (BkE []):=Zero.of (z:=.agg ([Value.int .i64 0]++List.replicate 16 (Value.slice none 0 0)).toArray) zk λ B w=>Hm
end Go.Proofs.YtkpifdpdeanjfaaGreatDoor
