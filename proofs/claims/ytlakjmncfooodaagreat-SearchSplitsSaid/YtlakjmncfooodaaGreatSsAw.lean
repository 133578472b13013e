import Derived.Test.YtlakjmncfooodaaGreatSsAv
import Derived.ChangeArms
import Derived.Laws.CopyRow
set_option linter.all false
set_option maxRecDepth 100000
namespace Go.Proofs.YtlakjmncfooodaaGreat
open Go Go.RowKit
variable {w:World}{B:Nat}{a:Act}{v:Value}{T:TypeId}{w0:Bs}{Γ:List (Nat × VA)}{Λ:List Lc}{ps:String}{af:Array Edge}{vr:Value}{H:Hd}{cs:List Value}{w':World}{P:Program}{D:List TypeId}
def elCostF (x:RE):Int:=IntKind.i64.wrap (fracCostF x.p+fracCostF x.q)
def frsF (n:Int):List RF→Int
 | []=>n
 | x::xs=>if decide (n≤1048576) then frsF (IntKind.i64.wrap (n+fracCostF x)) xs else n
theorem frs_go {n:Int}{l:List RF}{j:Nat}(h:j<l.length)(h2:n≤1048576):frsF n (l.drop j)=frsF (IntKind.i64.wrap (n+fracCostF l[j])) (l.drop (j+1)):=by
 rw [qz h,frsF,ql (qK h2)]
theorem frs_end {n:Int}{l:List RF}{j:Nat}(h:¬ (j<l.length∧n≤1048576)):frsF n (l.drop j)=n:=by
 by_cases hj:j<l.length
 ·rw [qz hj,frsF,qj (by simpa using λ hh=>h ⟨hj,hh⟩)]
 ·rw [qV zo]; rfl
def ptc (n:Int)(x:RPt):Int:=IntKind.i64.wrap (IntKind.i64.wrap (n+(x.nm.size:Nat))+elCostF x.e)
def ptsF (n:Int):List RPt→Int
 | []=>n
 | x::xs=>if decide (n≤1048576) then ptsF (ptc n x) xs else n
theorem pts_go {n:Int}{l:List RPt}{j:Nat}(h:j<l.length)(h2:n≤1048576):ptsF n (l.drop j)=ptsF (ptc n l[j]) (l.drop (j+1)):=by
 rw [qz h,ptsF,ql (qK h2)]
theorem pts_end {n:Int}{l:List RPt}{j:Nat}(h:¬ (j<l.length∧n≤1048576)):ptsF n (l.drop j)=n:=by
 by_cases hj:j<l.length
 ·rw [qz hj,ptsF,qj (by simpa using λ hh=>h ⟨hj,hh⟩)]
 ·rw [qV zo]; rfl
def tkcF (t:RTk):Int:=IntKind.i64.wrap (IntKind.i64.wrap (frsF (t.sp.length:Nat) t.sp+ptsF (t.ps.length:Nat) t.ps)+fracCostF t.tg)
theorem elCost_c (x:RE):Cn Tryz.prog 42 [(REA x).va] (In (elCostF x)):=by
 refine Cn.intro Tryz.func42 G zk nq (λ B w0 a U=>?_)
 have U:=zn [(0,(REA x).va)] [] U
 refine qa<|zg [] [⟨1,54,ptrH,some 0,_,none⟩] [.alc 0,.v 2 _] [.o 1] U (zW 0 G (zv G (a6 a5) o0)) (zz [(2,_)] [O 1 54 _] λ a w U=>?_)
 refine zt<|zgd [[],[0],[0,1],[],[3],[0,1,2,3,4],[0,1,2,3,4,5],[0,1,2,3,4,5,6]] [none] [] [.adr 3 1 (.some 1) True,.v 4 _,.v 5 _,.adr 6 1 (.some 5) True,.v 7 _,.v 8 _,.v 9 _,.v 2 _] [.o 7] a7 U (zO 0 G bO (zL 0 0 1 G ac (zQ G (dF _) (.o (vq 1 G)) (zO 0 G cO (zL 3 0 2 G ac (zQ G (dF _) (.o (vq 4 G)) (zv G (aJ (vq 2 G) (vq 5 G) (G)) (zA 6 G o0)))))))) zk zk zk zk (zz [(2,_)] [O 1 54 _] λ a w U=>?_)
 refine a4<|qe<|aj ?_ (ai G U (zm 0 G))
 exact ay
theorem frsCost_c (xs:List RF):Cn Tryz.prog 19 [(SlA 28 [U32] (xs.map RFA)).va] (In (frsF (xs.length:Nat) xs)):=by
 refine Cn.intro Tryz.func19 G zk nq (λ B w0 a U=>?_)
 have U:=zn [(0,(SlA 28 [U32] (xs.map RFA)).va)] [] U
 have hl:=dz (U.vals (0,(SlA 28 [U32] (xs.map RFA)).va) (zm 0 rfl))
 refine qa<|zh [.v 2 _] [.g 0,.o 0] U (zv G (a6 a5) o0) (zz [(0,_),(2,_)] [] λ a w U=>?_)
 refine zt<|zh [.v 5 _,.v 6 _,.v 3 _] [.g 0,.g 1,.o 2] U (zM 0 G (zv G (bn Tryz.underlying22 (vq 0 G)) (zA 1 G o0))) (zz [(0,_),(2,_),(3,_)] [] λ a w U=>?_)
 refine zt<|qa<|zh [.v 4 _] [.g 0,.g 1,.g 2,.o 0] U (zv G (a6 a5) o0) (zz [(0,_),(2,_),(3,_),(4,_)] [] λ a w U=>?_)
 refine a4<|qq ?_
 have U:=St.sel U [0,2,3]
 refine wp_loop_ghost (λ n a w=>∃ (j:Nat) (m:Int),(n+j=xs.length∧frsF (xs.length:Nat) xs=frsF m (xs.drop j))∧St B w0 25 [(0,(SlA 28 [U32] (xs.map RFA)).va),(3,In m),(4,In (j:Nat))] [] a w) (xs.length) ?_ ?_
 ·exact ⟨0,(xs.length:Nat),⟨by omega,rfl⟩,by rw [qc] at U; exact U⟩
 intro n a w hI
 obtain ⟨j,m,⟨hn,hm⟩,U⟩:=hI
 refine qa<|qa<|zh [.v 7 _,.v 8 _,.v 9 _,.v 10 _,.v 11 _,.t 12 _,.t 13 _,.v 14 _] [.g 0,.g 1,.g 2,.o 7] U (zM 2 G (zM 0 G (zv G (bn Tryz.underlying22 (vq 1 G)) (zv G (aX (vq 0 G) (vq 2 G)) (zv G (a8 (vq 3 G)) (zB 4 G (λ hg=>a8 (gq 1 G)) (zB 4 G (λ hg=>r_leq (aa (vq 5 G) hg) a5) (zv G (bF (vq 4 G) (vq 6 G)) o0)))))))) (zz [(0,_),(3,_),(4,_),(14,_)] [] λ a w U=>?_)
 refine a4<|a9 U (zm 3 G) (λ hb0=>?_) (λ hb0=>?_)
 ·rw [qh,qr,qr,qc] at hb0
  have hj:j<xs.length:=by omega
  have hm0:=hb0.2
  refine qk<|zt<|qq<|zh [.v 17 _,.v 18 _,.v 19 _,.v 20 _,.v 21 _,.v 22 _,.v 23 _,.v 3 _] [.g 0,.g 2,.o 7] U (zM 1 G (zM 0 G (zM 2 G (zv G (cn dM (cE λ _=>rfl) (vq 1 G) (vq 2 G) (bI hj)) (zv G (am (vq 3 G) ac) (zQ G (dF _) (.o (vq 4 G)) (zv G (aJ (vq 0 G) (vq 5 G) (G)) (zA 6 G o0)))))))) (zz [(0,_),(4,_),(3,_)] [] λ a w U=>?_)
  refine al ?_
  refine a4<|zh [.v 15 _,.v 16 _,.v 4 _] [.g 0,.g 2,.o 2] U (zM 1 G (zv G (aJ (vq 0 G) a5 (wi_nx hj hl)) (zA 1 G o0))) (zz [(0,_),(3,_),(4,_)] [] λ a w U=>?_)
  refine a4 ?_
  have U:=St.sel U [0,1,2]
  exact ⟨n-1,by omega,j+1,_,⟨by omega,hm.trans (frs_go hj hm0)⟩,U⟩
 ·have hnj:¬ (j<xs.length∧m≤1048576):=by rintro ⟨h1,h2⟩; rw [qc,qK (by omega:(j:Int)<(xs.length:Int)),qK h2] at hb0; exact absurd hb0 zd
  refine za<|ak<|ak<|aC<|zt<|zh [.v 24 _,.v 2 _] [.o 1] U (zM 1 G (zA 0 G o0)) (zz [(2,_)] [] λ a w U=>?_)
  refine a4<|qe<|aj ?_ (ai G U (zm 0 G))
  exact bA (qt In (hm.trans (frs_end hnj)).symm)
theorem ptsCost_c (xs:List RPt):Cn Tryz.prog 20 [(SlA 56 [U32] (xs.map PtA)).va] (In (ptsF (xs.length:Nat) xs)):=by
 refine Cn.intro Tryz.func20 G zk nq (λ B w0 a U=>?_)
 have U:=zn [(0,(SlA 56 [U32] (xs.map PtA)).va)] [] U
 have hl:=dz (U.vals (0,(SlA 56 [U32] (xs.map PtA)).va) (zm 0 rfl))
 refine qa<|zh [.v 2 _] [.g 0,.o 0] U (zv G (a6 a5) o0) (zz [(0,_),(2,_)] [] λ a w U=>?_)
 refine zt<|zh [.v 5 _,.v 6 _,.v 3 _] [.g 0,.g 1,.o 2] U (zM 0 G (zv G (bn Tryz.underlying23 (vq 0 G)) (zA 1 G o0))) (zz [(0,_),(2,_),(3,_)] [] λ a w U=>?_)
 refine zt<|qa<|zh [.v 4 _] [.g 0,.g 1,.g 2,.o 0] U (zv G (a6 a5) o0) (zz [(0,_),(2,_),(3,_),(4,_)] [] λ a w U=>?_)
 refine a4<|qq ?_
 have U:=St.sel U [0,2,3]
 refine wp_loop_ghost (λ n a w=>∃ (j:Nat) (m:Int),(n+j=xs.length∧ptsF (xs.length:Nat) xs=ptsF m (xs.drop j))∧St B w0 33 [(0,(SlA 56 [U32] (xs.map PtA)).va),(3,In m),(4,In (j:Nat))] [] a w) (xs.length) ?_ ?_
 ·exact ⟨0,(xs.length:Nat),⟨by omega,rfl⟩,by rw [qc] at U; exact U⟩
 intro n a w hI
 obtain ⟨j,m,⟨hn,hm⟩,U⟩:=hI
 refine qa<|qa<|zh [.v 7 _,.v 8 _,.v 9 _,.v 10 _,.v 11 _,.t 12 _,.t 13 _,.v 14 _] [.g 0,.g 1,.g 2,.o 7] U (zM 2 G (zM 0 G (zv G (bn Tryz.underlying23 (vq 1 G)) (zv G (aX (vq 0 G) (vq 2 G)) (zv G (a8 (vq 3 G)) (zB 4 G (λ hg=>a8 (gq 1 G)) (zB 4 G (λ hg=>r_leq (aa (vq 5 G) hg) a5) (zv G (bF (vq 4 G) (vq 6 G)) o0)))))))) (zz [(0,_),(3,_),(4,_),(14,_)] [] λ a w U=>?_)
 refine a4<|a9 U (zm 3 G) (λ hb0=>?_) (λ hb0=>?_)
 ·rw [qh,qr,qr,qc] at hb0
  have hj:j<xs.length:=by omega
  have hm0:=hb0.2
  refine qk<|zt<|qq<|zgd [[],[],[],[1,2],[1,2,3],[1,2,3,4],[1,2,3,4,5],[0,1,2,3,4,5,6],[],[],[8,9],[8,9,10],[8,9,10,11],[8,9,10,11,12],[0,1,2,3,4,5,6,7,8,9,10,11,12,13],[0,1,2,3,4,5,6,7,8,9,10,11,12,13,14]] [] [] [.v 17 _,.v 18 _,.v 19 _,.v 20 _,.v 21 _,.v 22 _,.v 23 _,.v 24 _,.v 25 _,.v 26 _,.v 27 _,.v 28 _,.v 29 _,.v 30 _,.v 31 _,.v 3 _] [.g 0,.g 2,.o 15] a7 U (zM 1 G (zM 0 G (zM 2 G (zv G (cn sl_23 (cE λ _=>rfl) (vq 1 G) (vq 2 G) (bI hj)) (zv G (bj (vq 3 G) hC (Sub.part 0 G G)) (zv G (am (vq 4 G) ty_9) (zv G (gI zk (has_wk' (vq 5 G) eqa_v)) (zv G (aJ (vq 0 G) (vq 6 G) (G)) (zM 0 G (zM 2 G (zv G (cn sl_23 (cE λ _=>rfl) (vq 8 G) (vq 9 G) (bI hj)) (zv G (bj (vq 10 G) f9 (Sub.part 1 G G)) (zv G (am (vq 11 G) eA) (zQ G (elCost_c _) (.o (vq 12 G)) (zv G (aJ (vq 7 G) (vq 13 G) (G)) (zA 14 G o0)))))))))))))))) zk zk zk zk (zz [(0,_),(4,_),(3,_)] [] λ a w U=>?_)
  refine al ?_
  refine a4<|zh [.v 15 _,.v 16 _,.v 4 _] [.g 0,.g 2,.o 2] U (zM 1 G (zv G (aJ (vq 0 G) a5 (wi_nx hj hl)) (zA 1 G o0))) (zz [(0,_),(3,_),(4,_)] [] λ a w U=>?_)
  refine a4 ?_
  have U:=St.sel U [0,1,2]
  exact ⟨n-1,by omega,j+1,_,⟨by omega,hm.trans (pts_go hj hm0)⟩,U⟩
 ·have hnj:¬ (j<xs.length∧m≤1048576):=by rintro ⟨h1,h2⟩; rw [qc,qK (by omega:(j:Int)<(xs.length:Int)),qK h2] at hb0; exact absurd hb0 zd
  refine za<|ak<|ak<|aC<|zt<|zh [.v 32 _,.v 2 _] [.o 1] U (zM 1 G (zA 0 G o0)) (zz [(2,_)] [] λ a w U=>?_)
  refine a4<|qe<|aj ?_ (ai G U (zm 0 G))
  exact bA (qt In (hm.trans (pts_end hnj)).symm)
theorem tkCost_c (t:RTk):Cn Tryz.prog 7 [(TkA t).va] (In (tkcF t)):=by
 refine Cn.intro Tryz.func7 G zk nq (λ B w0 a U=>?_)
 have U:=zn [(0,(TkA t).va)] [] U
 refine qa<|zg [] [⟨1,30,ptrH,some 0,_,none⟩] [.alc 0,.v 2 _] [.o 1] U (zW 0 G (zv G (a6 a5) o0)) (zz [(2,_)] [O 1 30 _] λ a w U=>?_)
 refine zt<|zgd [[],[0],[0,1],[],[3],[0,1,2,3,4],[0,1,2,3,4,5],[],[7],[0,1,2,3,4,5,7,8],[0,1,2,3,4,5,6,7,8,9],[0,1,2,3,4,5,6,7,8,9,10]] [none] [] [.adr 3 1 (.some 0) True,.v 4 _,.v 5 _,.adr 6 1 (.some 1) True,.v 7 _,.v 8 _,.v 9 _,.adr 10 1 (.some 2) True,.v 11 _,.v 12 _,.v 13 _,.v 2 _] [.o 11] a7 U (zO 0 G cw (zL 0 0 0 G gy (zQ G (frsCost_c _) (.o (vq 1 G)) (zO 0 G cd (zL 3 0 1 G fU (zQ G (ptsCost_c _) (.o (vq 4 G)) (zv G (aJ (vq 2 G) (vq 5 G) (G)) (zO 0 G hU (zL 7 0 2 G ac (zQ G (dF _) (.o (vq 8 G)) (zv G (aJ (vq 6 G) (vq 9 G) (G)) (zA 10 G o0)))))))))))) zk zk zk zk (zz [(2,_)] [O 1 30 _] λ a w U=>?_)
 refine a4<|qe<|aj ?_ (ai G U (zm 0 G))
 exact ay
theorem sn_no {xs ys:List Int}{j:Nat}(hx:j<xs.length)(hy:j<ys.length)(h:xs[j]≠ys[j]):decide (xs=ys)=false:=by
 simp only [qw]
 rintro rfl
 exact h rfl
theorem sn_nx {xs ys:List Int}{j:Nat}(hx:j<xs.length)(hy:j<ys.length)(hp:xs.take j=ys.take j)(h:xs[j]=ys[j]):xs.take (j+1)=ys.take (j+1):=by
 rw [qu hx,qu hy,hp,h]
def G2A (x:RF × RF):As:=cat [RFA x.1,RFA x.2]
theorem rfN_A {x:RF}:WkA (RFN x) (RFA x):=⟨rfl,rfl,λ B cs w h=>(cy (.cons (gX _) (.cons (gX _) .nil)):FreeA (RFN x) (RFA x)).2.2 B B cs w (qf _) h⟩
theorem g2d_a {x:RF × RF}:WkA (G2D x) (G2A x):=dis_wk.trans (aS (.cons rfN_A (.cons rfN_A .nil)))
def ChA (x:RCh):As:=cat [SlA 3 [] (x.l.map InA),RFA x.pw,InA x.c]
theorem chd_a {x:RCh}:WkA (ChD x) (ChA x):=aS (.cons slW_A (.cons (dis_wk.trans rfN_A) (.cons (.refl _) .nil)))
theorem best_p (t:RTk):Cn Tryz.prog 14 [(TkA t).va] (Tu [(ChA (bestF t).1).va,In (bestF t).2]):=(best_c t).wkp (tu2w chd_a.va ay)
theorem rows_p (t:RTk)(xs:List Int):Cn Tryz.prog 8 [(TkA t).va,(SlA 3 [] (xs.map InA)).va] (Tu [In (rowF t xs).1,(G2A (rowF t xs).2.1).va,In (rowF t xs).2.2]):=(rows_c t xs).wkp (tu3w ay g2d_a.va ay)
theorem str_g2:Str Tryz.prog 35 [RFA rf0,RFA rf0] :=
 Str.of (z:=.agg #[.bool false,.slice none 0 0,.bool false,.slice none 0 0,.bool false,.slice none 0 0,.bool false,.slice none 0 0]) zk Tryz.underlying35 zk λ B w=>⟨[[.bool false,.slice none 0 0,.bool false,.slice none 0 0],[.bool false,.slice none 0 0,.bool false,.slice none 0 0]],rfl,.cons (dk B w) (.cons (dk B w) .nil)⟩
theorem str_cho:Str Tryz.prog 46 [EqA (.slice none 0 0),RFA rf0,NumA .i64 0] :=
 Str.of (z:=.agg #[.slice none 0 0,.bool false,.slice none 0 0,.bool false,.slice none 0 0,.int .i64 0]) zk Tryz.underlying46 zk λ B w=>⟨[[.slice none 0 0],[.bool false,.slice none 0 0,.bool false,.slice none 0 0],[.int .i64 0]],rfl,.cons ⟨rfl,rfl⟩ (.cons (dk B w) (.cons rfl .nil))⟩
theorem sameNum_c (xs ys:List Int):Cn Tryz.prog 16 [(SlA 3 [] (xs.map InA)).va,(SlA 3 [] (ys.map InA)).va] (Bo (decide (xs=ys))):=by
 refine Cn.intro Tryz.func16 G zk nq (λ B w0 a U=>?_)
 have U:=zn [(0,(SlA 3 [] (xs.map InA)).va),(1,(SlA 3 [] (ys.map InA)).va)] [] U
 have hl:=dz (U.vals (0,(SlA 3 [] (xs.map InA)).va) (zm 0 rfl))
 refine qa<|zh [.v 4 _] [.g 0,.g 1,.o 0] U (zv G (a6 aH) o0) (zz [(0,_),(1,_),(4,_)] [] λ a w U=>?_)
 refine zt<|qa<|zh [.v 6 _,.v 7 _,.v 8 _,.v 9 _,.v 10 _] [.g 0,.g 1,.g 2,.o 4] U (zM 0 G (zv G (bn Tryz.underlying31 (vq 0 G)) (zM 1 G (zv G (bn Tryz.underlying31 (vq 2 G)) (zv G (bz (vq 1 G) (vq 3 G)) o0))))) (zz [(0,_),(1,_),(4,_),(10,_)] [] λ a w U=>?_)
 refine a4<|a9 U (zm 3 G) (λ hb0=>?_) (λ hb0=>?_)
 ·have hne:decide (xs=ys)=false:=by
   simp only [qc] at hb0
   simp only [qw]
   rintro rfl
   simp at hb0
  refine qa<|zh [.v 4 _] [.g 0,.g 1,.o 0] U (zv G (a6 aH) o0) (zz [(0,_),(1,_),(4,_)] [] λ a w U=>?_)
  refine a4<|qe<|ab ?_
  refine aj ?_ (ai G U (zm 2 G))
  exact bA (qt Bo hne.symm)
 ·have hee:xs.length=ys.length:=by
   simp only [qc] at hb0; have:(xs.length:Int)=(ys.length:Int):=by simpa using hb0
   omega
  refine qk<|zt<|qa<|zh [.v 5 _] [.g 0,.g 1,.g 2,.o 0] U (zv G (a6 a5) o0) (zz [(0,_),(1,_),(4,_),(5,_)] [] λ a w U=>?_)
  refine a4<|qq ?_
  have U:=St.sel U [0,1,3]
  refine wp_loop_ghost (λ n a w=>∃ (j:Nat),(n+j=xs.length∧xs.take j=ys.take j)∧St B w0 26 [(0,(SlA 3 [] (xs.map InA)).va),(1,(SlA 3 [] (ys.map InA)).va),(5,In (j:Nat))] [] a w) (xs.length) ?_ ?_
  ·exact ⟨0,⟨by omega,rfl⟩,U⟩
  intro n a w hI
  obtain ⟨j,⟨hn,hp⟩,U⟩:=hI
  refine qa<|qa<|zh [.v 11 _,.v 12 _,.v 13 _,.v 14 _] [.g 0,.g 1,.g 2,.o 3] U (zM 2 G (zM 0 G (zv G (bn Tryz.underlying31 (vq 1 G)) (zv G (aX (vq 0 G) (vq 2 G)) o0)))) (zz [(0,_),(1,_),(5,_),(14,_)] [] λ a w U=>?_)
  refine a4<|a9 U (zm 3 G) (λ hb1=>?_) (λ hb1=>?_)
  ·have hj:j<xs.length:=by rw [qc] at hb1; have:=qo hb1; omega
   have hj2:j<ys.length:=by omega
   refine qk<|zt<|qq<|qa<|zgd [[],[],[0,1],[0,1,2],[],[],[4,5],[4,5,6],[0,1,2,3,4,5,6,7]] [] [] [.v 17 _,.v 18 _,.v 19 _,.v 20 _,.v 21 _,.v 22 _,.v 23 _,.v 24 _,.v 25 _] [.g 0,.g 1,.g 2,.o 8] a7 U (zM 0 G (zM 2 G (zv G (cn eT (cE λ _=>rfl) (vq 0 G) (vq 1 G) (bI hj)) (zv G (am (vq 2 G) ty_3) (zM 1 G (zM 2 G (zv G (cn eT (cE λ _=>rfl) (vq 4 G) (vq 5 G) (bI hj2)) (zv G (am (vq 6 G) ty_3) (zv G (bz (vq 3 G) (vq 7 G)) o0))))))))) zk zk zk zk (zz [(0,_),(1,_),(5,_),(25,_)] [] λ a w U=>?_)
   refine a4<|a9 U (zm 3 G) (λ hb2=>?_) (λ hb2=>?_)
   ·refine qa<|zh [.v 4 _] [.g 0,.g 1,.g 2,.o 0] U (zv G (a6 aH) o0) (zz [(0,_),(1,_),(5,_),(4,_)] [] λ a w U=>?_)
    refine a4<|qe<|aD ?_
    refine ab ?_
    refine ab ?_
    refine aD ?_
    refine ab ?_
    refine aj ?_ (ai G U (zm 3 G))
    exact bA (qt Bo (sn_no hj hj2 (by simpa using hb2)).symm)
   ·refine qk<|al ?_
    refine a4<|zh [.v 15 _,.v 16 _,.v 5 _] [.g 0,.g 1,.o 2] U (zM 2 G (zv G (aJ (vq 0 G) a5 ((wi64 zo zo).trans (by omega:(_:Int)=((j+1:Nat):Int)))) (zA 1 G o0))) (zz [(0,_),(1,_),(5,_)] [] λ a w U=>?_)
    refine a4 ?_
    have U:=St.sel U [0,1,2]
    exact ⟨n-1,by omega,j+1,⟨by omega,sn_nx hj hj2 hp (by simpa using hb2)⟩,U⟩
  ·have hj:j=xs.length:=by rw [qc] at hb1; have:=qx hb1; omega
   refine za<|ak<|ak<|aC<|zt<|zh [.v 4 _] [.o 0] U (zv G (a6 aH) o0) (zz [(4,_)] [] λ a w U=>?_)
   refine a4<|qe<|aj ?_ (ai G U (zm 0 G))
   exact bA (qt Bo (qK (by rw [hj,qO,hee,qO] at hp; exact hp)).symm)
theorem sameG2_c (x y:RF × RF):Cn Tryz.prog 9 [(G2A x).va,(G2A y).va] (Bo (decide (x.1=y.1)&&decide (x.2=y.2))):=by
 refine Cn.intro Tryz.func9 G zk nq (λ B w0 a U=>?_)
 have U:=zn [(0,(G2A x).va),(1,(G2A y).va)] [] U
 refine qa<|zg [] [⟨2,35,ptrH,some 0,_,none⟩,⟨3,35,ptrH,some 1,_,none⟩] [.alc 0,.alc 1,.v 4 _] [.o 2] U (zW 0 G (zW 1 G (zv G (a6 aH) o0))) (zz [(4,_)] [O 2 35 _,O 3 35 _] λ a w U=>?_)
 refine zt<|zg [η,η] [] [.adr 5 2 (.some 0) True,.v 6 _,.adr 7 3 (.some 0) True,.v 8 _,.v 9 _,.v 10 _,.adr 11 2 (.some 4) (_=true),.t 12 _,.adr 13 3 (.some 4) (_=true),.t 14 _,.t 15 _,.v 16 _,.v 4 _] [.o 12] U (zO 0 G bE (zL 0 0 0 G ac (zO 1 G bE (zL 2 1 0 G ac (zQ G (c5 _ _) (.p (vq 1 G) (vq 3 G)) (zv G (a8 (vq 4 G)) (zC 5 0 G bD (zB 5 G (λ hg=>ax 6 G zk hg (lz0 0 G) (Sub.part 1 G G) ac) (zC 5 1 G bD (zB 5 G (λ hg=>ax 8 G zk hg (lz0 1 G) (Sub.part 1 G G) ac) (zB 5 G (λ hg=>aW (c5 _ _) (.p (aa (vq 7 G) hg) (aa (vq 9 G) hg))) (zv G (bF (vq 5 G) (vq 10 G)) (zA 11 G o0))))))))))))) (zz [(4,_)] [O 2 35 _,O 3 35 _] λ a w U=>?_)
 refine a4<|qe<|aj ?_ (ai G U (zm 0 G))
 exact ay
open Go.ChangeShapes Go.WideShapes Go.ChangeAt
section
variable {H:Type} {enc:TypeId × Value→H} {w:World} {base:Nat} {spare:Nat→Bool} {held:Bool} {fuel:Nat} {cs:List Value} {x:DataW H × List MemPlace}
theorem rd_in (h:DataW.trod enc Tryz.prog w base spare held fuel 3 cs=some x):∃ y,(InA y).p w.heap.size cs w:=by
 obtain ⟨n,hn,_⟩:=DataW.trod_int Tryz.underlying3 h
 exact ⟨n,hn⟩
theorem rd_str (h:DataW.trod enc Tryz.prog w base spare held fuel 9 cs=some x):∃ y:ByteArray,(EqA (.string y)).p w.heap.size cs w:=by
 obtain ⟨s,hs,_⟩:=DataW.trod_string Tryz.underlying9 h
 exact ⟨s,hs,rfl⟩
theorem rd_pt (h:DataW.trod enc Tryz.prog w base spare held fuel 56 cs=some x):∃ y,(PtA y).p w.heap.size cs w:=by
 obtain ⟨xs,n,_,_,hl,hlen,hf⟩:=DataW.trod_struct Tryz.underlying56 h
 have hl':cs.length=11:=hl.trans zk
 have c0:Tryz.prog.cellsOf 54=9:=by kernel_rfl
 have c1:Tryz.prog.cellsOf 9=1:=by kernel_rfl
 have c2:Tryz.prog.cellsOf 3=1:=by kernel_rfl
 match xs,hlen with
 | [y0,y1,y2],_ =>
  have h0:DataW.trod enc Tryz.prog w base spare held n 9 ((cs.drop 0).take (Tryz.prog.cellsOf 9))=some y0:=hf 0 _ rfl
  have h1:DataW.trod enc Tryz.prog w base spare held n 54 ((cs.drop 1).take (Tryz.prog.cellsOf 54))=some y1:=hf 1 _ rfl
  have h2:DataW.trod enc Tryz.prog w base spare held n 3 ((cs.drop 10).take (Tryz.prog.cellsOf 3))=some y2:=hf 2 _ rfl
  rw [c1] at h0
  rw [c0] at h1
  rw [c2] at h2
  obtain ⟨a,ha⟩:=rd_str h0
  obtain ⟨b,hb⟩:=rd_re h1
  obtain ⟨c,hc⟩:=rd_in h2
  exact ⟨⟨a,b,c⟩,fP (A0:=EqA (.string a)) (A1:=REA b) (A2:=InA c) ha hb hc hl'⟩
theorem rd_tk (h:DataW.trod enc Tryz.prog w base spare held fuel 30 cs=some x):∃ y,(TkA y).p w.heap.size cs w:=by
 obtain ⟨xs,n,_,_,hl,hlen,hf⟩:=DataW.trod_struct Tryz.underlying30 h
 have hl':cs.length=6:=hl.trans zk
 have c0:Tryz.prog.cellsOf 22=1:=by kernel_rfl
 have c1:Tryz.prog.cellsOf 23=1:=by kernel_rfl
 have c2:Tryz.prog.cellsOf 28=4:=by kernel_rfl
 match xs,hlen with
 | [y0,y1,y2],_ =>
  have h0:DataW.trod enc Tryz.prog w base spare held n 22 ((cs.drop 0).take (Tryz.prog.cellsOf 22))=some y0:=hf 0 _ rfl
  have h1:DataW.trod enc Tryz.prog w base spare held n 23 ((cs.drop 1).take (Tryz.prog.cellsOf 23))=some y1:=hf 1 _ rfl
  have h2:DataW.trod enc Tryz.prog w base spare held n 28 ((cs.drop 2).take (Tryz.prog.cellsOf 28))=some y2:=hf 2 _ rfl
  rw [c0] at h0
  rw [c1] at h1
  rw [c2] at h2
  obtain ⟨a,ha⟩:=rd_sl (A:=RFA) (m:=4) (D:=[U32]) Tryz.underlying22 zk zd (λ _=>kr zk) rd_rf h0
  obtain ⟨b,hb⟩:=rd_sl (A:=PtA) (m:=11) (D:=[U32]) Tryz.underlying23 zk zd (λ _=>kr zk) rd_pt h1
  obtain ⟨c,hc⟩:=rd_rf h2
  exact ⟨⟨a,b,c⟩,fP (A0:=SlA 28 [U32] (a.map RFA)) (A1:=SlA 56 [U32] (b.map PtA)) (A2:=RFA c) ha hb hc hl'⟩
end
theorem rows_nil (t:RTk):Cn Tryz.prog 8 [(TkA t).va,EqV (.slice none 0 0)] (Tu [In (rowF t []).1,(G2A (rowF t []).2.1).va,In (rowF t []).2.2]):=(rows_p t []).wk (.cons ay (.cons nil_sl .nil))
theorem lives26_v:((bestF (twoT 1)).2==0&&(rowF (twoT 1) []).2.2==0&&(rowF (twoT 1) []).1==4&&decide ((rowF (twoT 1) []).2.1.1=rfOf (Rat.divInt 0 1))&&decide ((rowF (twoT 1) []).2.1.2=rfOf (Rat.divInt 1 1))&&decide ((bestF (twoT 1)).1.l=[0,1])&&(bestF (twoT 1)).1.c==8&&decide ((bestF (twoT 1)).1.pw=rfOf (Rat.divInt 1 1)))=true:=by kernel_rfl
theorem ek  : Cn Tryz.prog 10 [] (Bo true):=by
 refine Cn.intro Tryz.func10 G zk nq (λ B w0 a U=>?_)
 have U:=zn [] [] U
 refine qa<|zh [.v 0 _] [.o 0] U (zv G (a6 aH) o0) (zz [(0,_)] [] λ a w U=>?_)
 refine zt<|zg [] [⟨1,46,ptrH,some 5,_,some (6,_)⟩] [.v 7 _,.v 8 _,.v 6 _,.v 9 _,.v 10 _,.alc 0,.sto 0,.v 2 _] [.g 0,.o 7] U (zQ G (two26_c (n:=1) zd zd) (.cons a5 .nil) (zQ G (best_p _) (.o (vq 0 G)) (zv G (a8 (vq 1 G)) (zv G (eh (vq 2 G)) (zv G (ee (vq 2 G)) (zY G (Str.zero str_cho) (zS 3 G io (zA 4 G o0)))))))) (zz [(0,_),(2,_)] [O 1 46 _] λ a w U=>?_)
 refine zt<|zg [η] [⟨4,35,ptrH,some 6,_,some (8,_)⟩] [.v 12 _,.v 13 _,.v 11 _,.v 14 _,.v 15 _,.v 16 _,.alc 1,.v 3 _,.sto 1,.v 5 _] [.g 0,.g 1,.o 7,.o 9] U (zQ G (two26_c (n:=1) zd zd) (.cons a5 .nil) (zQ G (rows_nil _) (.cons (vq 0 G) (.cons bi .nil)) (zv G (a8 (vq 1 G)) (zv G (eh (vq 2 G)) (zv G (ee (vq 2 G)) (zv G (r_ex2 (vq 2 G)) (zY G (Str.zero str_g2) (zA 3 G (zS 4 G eS (zA 5 G o0)))))))))) (zz [(0,_),(2,_),(3,_),(5,_)] [O 1 46 _,O 4 35 _] λ a w U=>?_)
 refine zt<|gV (anc:=[[],[0],[0,1],[0,1,2],[0,1,2,3],[0,1,2,3,4],[0,1,2,3,4,5],[0,1,2,3,4,5,6],[0,1,2,3,4,5,6,7],[0,1,2,3,4,5,6,7,8],[0,1,2,3,4,5,6,7,8,9],[0,1,2,3,4,5,6,7,8,9,10],[0,1,2,3,4,5,6,7,8,9,10,11],[0,1,2,3,4,5,6,7,8,9,10],[0,1,2,3,4,5,6,7,8,9,10,11,12,13],[0,1,2,3,4,5,6,7,8,9,10,11,12,13,14],[0,1,2,3,4,5,6,7,8,9,10,11,12,13,14,15],[0,1,2,3,4,5,6,7,8,9,10,11,12,13,14,15,16],[0,1,2,3,4,5,6,7,8,9,10,11,12,13,14,15,16,17],[0,1,2,3,4,5,6,7,8,9,10,11,12,13,14,15,16],[0,1,2,3,4,5,6,7,8,9,10,11,12,13,14,15,16,17,18,19],[0,1,2,3,4,5,6,7,8,9,10,11,12,13,14,15,16,17,18,19,20],[0,1,2,3,4,5,6,7,8,9,10,11,12,13,14,15,16,17,18,19,20,21],[0,1,2,3,4,5,6,7,8,9,10,11,12,13,14,15,16,17,18,19,20,21,22],[0,1,2,3,4,5,6,7,8,9,10,11,12,13,14,15,16,17,18,19,20,21,22,23],[0,1,2,3,4,5,6,7,8,9,10,11,12,13,14,15,16,17,18,19,20,21,22],[0,1,2,3,4,5,6,7,8,9,10,11,12,13,14,15,16,17,18,19,20,21,22,23,24,25],[0,1,2,3,4,5,6,7,8,9,10,11,12,13,14,15,16,17,18,19,20,21,22,23,24,25,26],[0,1,2,3,4,5,6,7,8,9,10,11,12,13,14,15,16,17,18,19,20,21,22,23,24,25,26,27],[0,1,2,3,4,5,6,7,8,9,10,11,12,13,14,15,16,17,18,19,20,21,22,23,24,25,26,27,28],[0,1,2,3,4,5,6,7,8,9,10,11,12,13,14,15,16,17,18,19,20,21,22,23,24,25,26,27,28,29],[0,1,2,3,4,5,6,7,8,9,10,11,12,13,14,15,16,17,18,19,20,21,22,23,24,25,26,27,28,29,30],[0,1,2,3,4,5,6,7,8,9,10,11,12,13,14,15,16,17,18,19,20,21,22,23,24,25,26,27,28,29,30,31],[0,1,2,3,4,5,6,7,8,9,10,11,12,13,14,15,16,17,18,19,20,21,22,23,24,25,26,27,28,29,30,31,32],[0,1,2,3,4,5,6,7,8,9,10,11,12,13,14,15,16,17,18,19,20,21,22,23,24,25,26,27,28,29,30,31,32,33],[0,1,2,3,4,5,6,7,8,9,10,11,12,13,14,15,16,17,18,19,20,21,22,23,24,25,26,27,28,29,30,31,32,33,34],[0,1,2,3,4,5,6,7,8,9,10,11,12,13,14,15,16,17,18,19,20,21,22,23,24,25,26,27,28,29,30,31,32,33],[0,1,2,3,4,5,6,7,8,9,10,11,12,13,14,15,16,17,18,19,20,21,22,23,24,25,26,27,28,29,30,31,32,33,34,35,36],[0,1,2,3,4,5,6,7,8,9,10,11,12,13,14,15,16,17,18,19,20,21,22,23,24,25,26,27,28,29,30,31,32,33,34,35,36,37],[0,1,2,3,4,5,6,7,8,9,10,11,12,13,14,15,16,17,18,19,20,21,22,23,24,25,26,27,28,29,30,31,32,33,34,35,36,37,38]]) (sts:=[none,none]) (news:=[]) (sp:=((.v 17 _:Sp)::(.v 18 _)::(.v 19 _)::(.t 20 _)::(.t 21 _)::(.v 22 _)::(.v 23 _)::(.t 24 _)::(.t 25 _)::(.v 26 _)::(.v 27 _)::(.adr 28 4 (.some 0) (_=true))::(.t 29 _)::(.t 30 _)::(.t 31 _)::(.v 32 _)::(.v 33 _)::(.adr 34 4 (.some 4) (_=true))::(.t 35 _)::(.t 36 _)::(.t 37 _)::(.v 38 _)::(.v 39 _)::(.adr 40 1 (.some 0) (_=true))::(.t 41 _)::(.t 42 _)::(.t 43 _)::(.v 44 _)::(.v 45 _)::(.adr 46 1 (.some 5) (_=true))::(.t 47 _)::(.t 48 _)::(.v 49 _)::(.v 50 _)::(.adr 51 1 (.some 1) (_=true))::(.t 52 _)::(.t 53 _)::(.t 54 _)::(.v 55 _)::(.v 0 _)::[])) [.o 39] a7 U (zM 1 G (zv G (bv (vq 0 G) a5) (zv G (a8 (vq 1 G)) (zB 2 G (λ hg=>a8 (gq 3 G)) (zB 2 G (λ hg=>bv (aa (vq 3 G) hg) a5) (zv G (bF (vq 2 G) (vq 4 G)) (zv G (a8 (vq 5 G)) (zB 6 G (λ hg=>a8 (gq 2 G)) (zB 6 G (λ hg=>bv (aa (vq 7 G) hg) a5) (zv G (bF (vq 6 G) (vq 8 G)) (zv G (a8 (vq 9 G)) (zC 10 1 G bE (zB 10 G (λ hg=>ax 11 G zk hg (lz0 1 G) (Sub.part 0 G G) ac) (zB 10 G (λ hg=>aW (bU (n:=0) zd zd) (.cons a5 .nil)) (zB 10 G (λ hg=>aW (c5 _ _) (.p (aa (vq 12 G) hg) (aa (vq 13 G) hg))) (zv G (bF (vq 10 G) (vq 14 G)) (zv G (a8 (vq 15 G)) (zC 16 1 G bD (zB 16 G (λ hg=>ax 17 G zk hg (lz0 1 G) (Sub.part 1 G G) ac) (zB 16 G (λ hg=>aW (bU (n:=1) zd zd) (.cons a5 .nil)) (zB 16 G (λ hg=>aW (c5 _ _) (.p (aa (vq 18 G) hg) (aa (vq 19 G) hg))) (zv G (bF (vq 16 G) (vq 20 G)) (zv G (a8 (vq 21 G)) (zC 22 0 G fld_46_0 (zB 22 G (λ hg=>ax 23 G zk hg (lz0 0 G) (Sub.part 0 G G) eB) (zB 22 G (λ hg=>bB (D:=[]) (l:=[_,_]) (xs:=[.const (.int .i64 (0)),.const (.int .i64 (1))]) (cU zk) eT zk (n_ok zk) nq nq nq (.cons a5 (.cons a5 .nil)) G G) (zB 22 G (λ hg=>aW (sameNum_c _ [0,1]) (.p (aa (vq 24 G) hg) (aa (vq 25 G) hg))) (zv G (bF (vq 22 G) (vq 26 G)) (zv G (a8 (vq 27 G)) (zC 28 0 G fld_46_2 (zB 28 G (λ hg=>ax 29 G zk hg (lz0 0 G) (Sub.part 2 G G) ty_3) (zB 28 G (λ hg=>bv (aa (vq 30 G) hg) a5) (zv G (bF (vq 28 G) (vq 31 G)) (zv G (a8 (vq 32 G)) (zC 33 0 G hN (zB 33 G (λ hg=>ax 34 G zk hg (lz0 0 G) (Sub.part 1 G G) ac) (zB 33 G (λ hg=>aW (bU (n:=1) zd zd) (.cons a5 .nil)) (zB 33 G (λ hg=>aW (c5 _ _) (.p (aa (vq 35 G) hg) (aa (vq 36 G) hg))) (zv G (bF (vq 33 G) (vq 37 G)) (zA 38 G o0)))))))))))))))))))))))))))))))))))))))) zk zk zk zk (zz [(0,_)] [O 1 46 _,O 4 35 _] λ a w U=>?_)
 refine a4<|qe<|aj ?_ (ai G U (zm 0 G))
 exact bA (qt Bo lives26_v)
theorem cmq_lt {x y:Rat}:cmQ x y<0↔x<y:=by
 unfold cmQ
 by_cases h:x<y
 ·rw [ql h]; exact ⟨λ _=>h,λ _=>by decide⟩
 ·rw [qj h]
  by_cases h2:y<x
  ·rw [ql h2]; exact ⟨λ h3=>absurd h3 zd,λ h3=>absurd h3 h⟩
  ·rw [qj h2]; exact ⟨λ h3=>absurd h3 zd,λ h3=>absurd h3 h⟩
theorem cmq_gt {x y:Rat}:cmQ x y>0↔y<x:=by
 unfold cmQ
 by_cases h:x<y
 ·rw [ql h]; exact ⟨λ h3=>absurd h3 zd,λ h3=>absurd h (by grind)⟩
 ·rw [qj h]
  by_cases h2:y<x
  ·rw [ql h2]; exact ⟨λ _=>h2,λ _=>by decide⟩
  ·rw [qj h2]; exact ⟨λ h3=>absurd h3 zd,λ h3=>absurd h3 h2⟩
theorem cmq_eq {x y:Rat}:cmQ x y=0↔x=y:=by
 unfold cmQ
 by_cases h:x<y
 ·rw [ql h]; exact ⟨λ h3=>absurd h3 zd,λ h3=>absurd h (by grind)⟩
 ·rw [qj h]
  by_cases h2:y<x
  ·rw [ql h2]; exact ⟨λ h3=>absurd h3 zd,λ h3=>absurd h2 (by grind)⟩
  ·rw [qj h2]; exact ⟨λ _=>by grind,λ _=>rfl⟩
theorem cmp1_v {x y:Int}:(cmp1 x y = -1∧x<y)∨(cmp1 x y=0∧x=y)∨(cmp1 x y=1∧y<x):=by
 unfold cmp1
 by_cases h:x<y
 ·rw [ql h]; exact .inl ⟨rfl,h⟩
 ·rw [qj h]
  by_cases h2:x>y
  ·rw [ql h2]; exact .inr (.inr ⟨rfl,h2⟩)
  ·rw [qj h2]; exact .inr (.inl ⟨rfl,by omega⟩)
theorem cmpL_eq:∀ {l m:List Int},cmpL l m=0↔l=m
 | [],[]=>⟨λ _=>rfl,λ _=>rfl⟩
 | [],_::_=>⟨λ h=>absurd (show (-1:Int)=0 from h) zd,λ h=>by cases h⟩
 | _::_,[]=>⟨λ h=>absurd (show (1:Int)=0 from h) zd,λ h=>by cases h⟩
 | x::l,y::m=>by
  have h1:=cmp1_v (x:=x) (y:=y)
  unfold cmpL
  by_cases h:cmp1 x y=0
  ·rw [ql h,cmpL_eq (l:=l) (m:=m)]
   have:x=y:=by omega
   subst this
   exact ⟨λ h=>by rw [h],λ h=>by injection h⟩
  ·rw [qj h]
   exact ⟨λ h3=>absurd h3 h,λ h3=>by injection h3 with h3; omega⟩
theorem gk:∀ {l m k:List Int},cmpL l m<0→cmpL m k<0→cmpL l k<0
 | [],[],_,h,_=>absurd (show (0:Int)<0 from h) zd
 | [],_::_,[],_,h=>absurd (show (1:Int)<0 from h) zd
 | [],_::_,_::_,_,_=>show (-1:Int)<0 by decide
 | _::_,[],_,h,_=>absurd (show (1:Int)<0 from h) zd
 | _::_,_::_,[],_,h=>absurd (show (1:Int)<0 from h) zd
 | x::l,y::m,z::k,h,h'=>by
  have h1:=cmp1_v (x:=x) (y:=y)
  have h2:=cmp1_v (x:=y) (y:=z)
  have h3:=cmp1_v (x:=x) (y:=z)
  unfold cmpL at h h' ⊢
  by_cases e1:cmp1 x y=0
  ·rw [ql e1] at h
   by_cases e2:cmp1 y z=0
   ·rw [ql e2] at h'
    rw [ql zo]
    exact gk h h'
   ·rw [qj e2] at h'
    rw [qj zo]
    omega
  ·rw [qj e1] at h
   by_cases e2:cmp1 y z=0
   ·rw [qj zo]
    omega
   ·rw [qj e2] at h'
    rw [qj zo]
    omega
def LtW (x y:WyQ):Prop:=x.aw<y.aw∨(x.aw=y.aw∧(x.c<y.c∨(x.c=y.c∧cmpL x.l y.l<0)))
theorem bet_lt {x y:WyQ}:betF x y=true↔LtW x y:=by
 unfold betF LtW
 by_cases h:cmQ x.aw y.aw=0
 ·rw [qj (by rw [h]; decide)]
  have e:=cmq_eq.1 h
  have hn:¬ x.aw<y.aw:=by rw [e]; grind
  by_cases h2:x.c=y.c
  ·rw [qj (by rw [h2]; simp),qr]
   have hc:¬ x.c<y.c:=by omega
   exact ⟨λ h3=>.inr ⟨e,.inr ⟨h2,h3⟩⟩,λ h3=>by
    rcases h3 with h3 | ⟨_,h3 | ⟨_,h3⟩⟩
    ·exact absurd h3 hn
    ·exact absurd h3 hc
    ·exact h3⟩
  ·rw [ql (by simpa using h2),qr]
   exact ⟨λ h3=>.inr ⟨e,.inl h3⟩,λ h3=>by
    rcases h3 with h3 | ⟨_,h3 | ⟨h3,_⟩⟩
    ·exact absurd h3 hn
    ·exact h3
    ·exact absurd h3 h2⟩
 ·rw [ql (by simpa using h),qr,cmq_lt]
  exact ⟨λ h3=>.inl h3,λ h3=>by
   rcases h3 with h3 | ⟨h3,_⟩
   ·exact h3
   ·exact absurd (cmq_eq.2 h3) h⟩
theorem lt_irr {x:WyQ}:¬ LtW x x:=by
 rintro (h | ⟨_,h | ⟨_,h⟩⟩)
 ·grind
 ·omega
 ·rw [cmpL_eq.2 rfl] at h; omega
theorem lt_trans {x y z:WyQ}(h:LtW x y)(h':LtW y z):LtW x z:=by
 rcases h with h | ⟨e,h⟩
 ·rcases h' with h' | ⟨e',_⟩
  ·exact .inl (by grind)
  ·exact .inl (by grind)
 ·rcases h' with h' | ⟨e',h'⟩
  ·exact .inl (by grind)
  ·refine .inr ⟨by grind,?_⟩
   rcases h with h | ⟨e1,h⟩
   ·rcases h' with h' | ⟨e2,h'⟩ <;> exact .inl zo
   ·rcases h' with h' | ⟨e2,h'⟩
    ·exact .inl zo
    ·exact .inr ⟨by omega,gk h h'⟩
theorem bo_t26 {c:Bool}(h:c=true):Wk (Bo c) (Bo true):=by subst h; exact ay
def pwX (t:RTk)(x:List Int):RF × Bool:=pwF (bnF t x).1 (bnF t x).2
theorem pw_val {t:RTk}{x:List Int}(h:(pwX t x).2=true):ckF t=0∧whF t x=true∧longQ (powW t (natL x))=false∧(pwX t x).1=rfOf (powW t (natL x)):=by
 unfold pwX pwF at h ⊢
 by_cases h1:((bnF t x).2 != 0)=true
 ·rw [ql h1] at h; exact absurd h zd
 ·rw [qj h1] at h ⊢
  have hb:bnF t x=(benW t (natL x),0)∧ckF t=0∧whF t x=true:=by
   unfold bnF at h1 ⊢
   by_cases h2:(ckF t != 0)=true
   ·rw [ql h2] at h1; exact absurd h2 h1
   ·rw [qj h2] at h1 ⊢
    by_cases h3:(!whF t x)=true
    ·rw [ql h3] at h1; exact absurd rfl h1
    ·rw [qj h3]; exact ⟨rfl,by simpa using h2,by simpa using h3⟩
  rw [hb.1] at h ⊢
  by_cases h2:((benF (benW t (natL x))).2 != 0)=true
  ·rw [ql h2] at h; exact absurd h zd
  ·rw [qj h2] at h ⊢
   have h3:(benF (benW t (natL x))).1=rmOf (prodQ (benW t (natL x))):=by
    have h4:(benF (benW t (natL x))).2=0:=by simpa using h2
    unfold benF at h4 ⊢
    by_cases h5:chF (benW t (natL x))=0
    ·rw [ql h5] at h4 ⊢
     unfold asM at h4 ⊢
     rw [ql rfl] at h4 ⊢
     by_cases h6:([(prodQ (benW t (natL x))).a,(prodQ (benW t (natL x))).b,(prodQ (benW t (natL x))).c,(prodQ (benW t (natL x))).d].any longQ)=true
     ·rw [ql h6] at h4; exact absurd h4 zd
     ·rw [qj h6]
    ·rw [qj h5] at h4; exact absurd h4 h5
   rw [h3] at h ⊢
   unfold powF at h ⊢
   by_cases h5:okM (rmOf (prodQ (benW t (natL x))))=true
   ·rw [ql h5] at h ⊢
    rw [toM_of] at h ⊢
    show _∧_∧longQ (-(prodQ (benW t (natL x))).c)=false∧(ansF (-(prodQ (benW t (natL x))).c)).1=rfOf (-(prodQ (benW t (natL x))).c)
    unfold ansF at h ⊢
    cases hl:longQ (-(prodQ (benW t (natL x))).c) with
    | true=>rw [hl] at h; simp at h
    | false=>exact ⟨hb.2.1,hb.2.2,rfl,rfl⟩
   ·rw [qj h5] at h; exact absurd h zd
theorem gm {x y:Rat}(hx:longQ x=false)(hy:longQ y=false):cmF (rfOf x) (rfOf y)=cmQ x y:=cmF_of hx hy
theorem kB {p:Nat}{ah:List Nat}:∀ (f i:Nat) (l:List Nat),l.length=f→(∀ x∈l,x<p)→(∀ k,i+k<ah.length→l.getD k 0=ah.getD (i+k) 0)→i+f≥ah.length→∃ r,r<cntW p ah.length f i∧exW p ah f i r=l
 | 0,i,l,hl,_,_,_=>⟨0,jl,by rw [zG hl]; rfl⟩
 | f+1,i,[],hl,_,_,_=>absurd hl (by simp)
 | f+1,i,x::l,hl,hp,ha,hi=>by
  have hx:x<p:=hp x z0
  obtain ⟨r,h1,h2⟩:=kB (p:=p) (ah:=ah) f (i+1) l (by simpa using hl) (λ y hy=>hp y (ze _ hy)) (λ k hk=>by
   have:=ha (k+1) zo
   rw [show i+1+k=i+(k+1) by omega,← this]
   simp [List.getD]) zo
  by_cases h:i<ah.length
  ·refine ⟨r,by rw [dW h]; exact h1,?_⟩
   rw [exW_ah h,h2]
   have:=ha 0 zo
   have h3:x=ah[i]:=by
    have e1:(x::l).getD 0 0=x:=rfl
    have e2:ah.getD (i+0) 0=ah[i]:=by simp [List.getD,h]
    rw [← e1,this,e2]
   rw [h3]
  ·refine ⟨x*cntW p ah.length f (i+1)+r,?_,by rw [exW_at h h1,h2]⟩
   rw [fN h]
   have:x*cntW p ah.length f (i+1)+cntW p ah.length f (i+1)≤p*cntW p ah.length f (i+1):=by
    rw [← xj]
    exact qP _ hx
   omega
theorem bsW_min (f:Nat→WyQ):∀ k i,i<k→¬ LtW (f i) (bsW f k)
 | 0,_,h=>absurd h (xx _)
 | k+1,i,hi=>by
  unfold bsW
  by_cases h:((((k:Nat):Int)==0) || betF (f k) (bsW f k))=true
  ·rw [ql h]
   by_cases e:i=k
   ·subst e; exact lt_irr
   ·intro h2
    have hk:k≠0:=by omega
    rw [qQ] at h
    rcases h with h | h
    ·exact hk (by simpa using h)
    ·exact bsW_min f k i zo (lt_trans h2 (bet_lt.1 h))
  ·rw [qj h]
   by_cases e:i=k
   ·subst e
    intro h2
    rw [qQ] at h
    exact h (.inr (bet_lt.2 h2))
   ·exact bsW_min f k i zo
theorem best_ok {t:RTk}(h:(bestF t).2=0):ckF t=0∧∃ u:List Nat,u.length=t.sp.length-1∧(∀ x∈u,x<t.ps.length)∧longQ (powW t u)=false∧bestF t=(⟨u.map λ (k:Nat)=>(k:Int),rfOf (powW t u),cosW t u⟩,0)∧∀ l:List Nat,l.length=t.sp.length-1→(∀ x∈l,x<t.ps.length)→¬ LtW (wayW t l) (wayW t u):=by
 unfold bestF at h
 by_cases h1:(ckF t != 0)=true
 ·rw [ql h1] at h
  exact absurd h (by simpa using h1)
 ·rw [qj h1] at h
  have hc:ckF t=0:=by simpa using h1
  by_cases h2:longQ (bstN t).pw=true
  ·rw [ql h2] at h; exact absurd h zd
  ·obtain ⟨a1,a2,a3,_⟩:=hd_b (de hc).1
   have hM:0<cntW t.ps.length 0 (t.sp.length-1) 0:=cx zo _ _
   obtain ⟨j,hj,e⟩:=bsW_at (f:=λ k=>wayW t (exW t.ps.length [] (t.sp.length-1) 0 k)) (k:=cntW t.ps.length 0 (t.sp.length-1) 0) zo
   have e':bstN t=wayW t (exW t.ps.length [] (t.sp.length-1) 0 j):=e
   refine ⟨hc,_,eL t.ps.length [] (t.sp.length-1) 0 j,exW_lt (p:=t.ps.length) (ah:=[]) zo (λ x hx=>by cases hx) _ 0 j hj,by rw [e'] at h2; exact zD.2 h2,?_,λ l hl hp h3=>?_⟩
   ·unfold bestF
    rw [qj h1,qj h2,e']; rfl
   ·obtain ⟨r,hr,er⟩:=kB (p:=t.ps.length) (ah:=[]) (t.sp.length-1) 0 l hl hp (λ k hk=>absurd hk (xx _)) (q7 _)
    have h4:=bsW_min (λ k=>wayW t (exW t.ps.length [] (t.sp.length-1) 0 k)) _ r hr
    rw [show bsW (λ k=>wayW t (exW t.ps.length [] (t.sp.length-1) 0 k)) (cntW t.ps.length ([]:List Nat).length (t.sp.length-1) 0)=bstN t from rfl,e'] at h4
    refine h4 ?_
    show LtW (wayW t (exW t.ps.length [] (t.sp.length-1) 0 r)) _
    rw [er]; exact h3
section
open Rg
variable {P:Program} {R:Rg} {Q:Exit→Act→World→Prop} {B i:Nat} {w0:Bs}
theorem ob_make2 {e d n c:Nat}{S E:TypeId}{kk:IntKind}{st:Option (Nat × As)}{x y:Operand}{ty:TypeId}(hs:R.sp[i]?=some (.alc e))(he:R.les[e]?=some ⟨d,E,slH n c,some i,Nums kk (List.replicate c 0),st⟩)
  (ho:R.ops[i]?=some ⟨some d,.makeSlice S x y,ty,ps,af,none⟩) (hM:MakeOk P S E kk) (hx:Has R B w0 i x (In n)) (hy:Has R B w0 i y (In c)) (hnc:n≤c) (hn:c≤17592186044416):R.Ob P Q B w0 i:=by
 unfold Rg.Ob
 simp only [hs,he]
 intro a w av K hK
 obtain ⟨h1,h2,h3,h4,h5⟩:=hM
 obtain ⟨it,hi,hz⟩:=xL.1 h2
 have hsz:it.size=1:=by rw [hi] at h3; simpa using h3
 have hby:=h5 it hi
 have hm:=run_make (P:=P) w S E it (.int kk 0) h1 hi hz .i64 .i64 n c zo zo (by
  have:it.bytes*c≤8*c:=qP _ hby
  have h6:((it.bytes*c:Nat):Int)≤281474976710656:=by omega
  rwa [xg] at h6) zo
 have e1:=aL (hx a w av)
 have e2:=aL (hy a w av)
 have hcells:madeCells (Value.int kk 0).cells (c*it.size)=((List.replicate c 0).map λ (x:Nat)=>Value.int kk x).toArray:=by
  rw [hsz,zF]
  apply xH
  intro j
  simp only [madeCells,Value.cells,x9]
  by_cases hj:j<c
  ·simp [hj,jK]
  ·simp [hj]
 simp only [zN] at hm
 rw [hcells] at hm
 refine bt ho G (ba (w':=w.alloc (.cells ((List.replicate c 0).map λ (x:Nat)=>Value.int kk x).toArray E)) (v:=(slH n c).f w.heap.size) ?_ (hK _ _ _ (Grow.alloc _ _) (qf _) (heap_alloc_new w _) G))
 simp [execOp,e1,e2,hm,slH]
theorem int_list {l:List Nat}(h:(cat ((l.map λ (k:Nat)=>(k:Int)).map InA)).p B cs w):cs=l.map λ (x:Nat)=>Value.int .i64 x:=by
 rw [eu h,zH]; rfl
theorem ob_appR {e d s u t2 n x hp:Nat}{S E ty:TypeId}{q:List Nat}{it:TypeInfo}(kq:Nat)(hs:R.sp[i]?=some (.cal d (EqV (.slice (some ⟨hp,0,none⟩) (n+1) (n+1))) e))(he:R.les[e]?=some ⟨t2,E,slH n (n+1),none,Nums .i64 q,some (i,Nums .i64 (q.set n x))⟩)
  (ho:R.ops[i]?=some ⟨some d,.call ⟨.builtin .append,#[.tmp s,.tmp u],#[S,S]⟩,ty,ps,af,none⟩) (hsx:∀ a w,R.Av B w0 i a w→a.eval (.tmp s)=a.eval (.tmp t2)) (hq:Has R B w0 i (.tmp t2) (EqV (.slice (some ⟨hp,0,none⟩) n (n+1)))) (hu:Has R B w0 i (.tmp u) (SlA E [] [InA ((x:Nat):Int)]).va)
  (hS:P.underlying S=some (.slice E)) (hi:P.info? E=some it) (hsz:it.size=1) (hql:q.length=n+1) (hn:n≤1000):R.Ob P Q B w0 i:=by
 unfold Rg.Ob
 simp only [hs,he]
 intro a w av g cs h1 hB hg hp0 _ K hK
 have e1:=hsx a w av
 have e2:a.eval (.tmp t2)=.slice (some ⟨hp,0,none⟩) n (n+1):=hq a w av
 have h1':a.eval (.tmp t2)=.slice (some ⟨g,0,none⟩) n (n+1):=h1
 have hgp:hp=g:=by rw [e2] at h1'; injection h1' with h1'; injection h1' with h1'; injection h1'
 subst hgp
 have hcs:cs=q.map λ (x:Nat)=>Value.int .i64 x:=hp0
 obtain ⟨cs1,⟨_,Ad,cap,ds,rfl,_,_,h5,h6⟩,hu'⟩:=hu a w av
 have e3:a.eval (.tmp u)=.slice Ad 1 cap:=hu'
 obtain ⟨b1,o1,rfl,_,_,h8⟩:=h6 (by simp)
 have hds:ds=[.int .i64 (x:Nat)]:=eu (l:=[((x:Nat):Int)]) h5
 have hown:w.ownsRow 0 E 1 (.slice (some ⟨hp,0,none⟩) n (n+1)) n (cs.take n):=by
  refine ⟨by rw [zU,hcs,qc]; omega,.inr ⟨hp,n+1,List.toArray cs,rfl,q7 _,hg,by omega,by unfold maxLen; omega,by rw [hcs]; simp [hql],by simp⟩⟩
 obtain ⟨w',hr,r1,r2⟩:=run_append_own_spare (P:=P) (w:=w) 0 S ty E it 1 hS hi hsz hp n (n+1) (cs.take n) hown ⟨b1,o1,none⟩ 1 cap [.int .i64 (x:Nat)] rfl (λ j v hj=>by
  rw [add_k]
  exact h8 j v (by rw [hds]; exact hj)) (by intro v hv; obtain rfl:=qD.1 hv; rfl) (qf _)
 have hcur:w'.heap[hp]?=some (.cells (List.toArray ((q.set n x).map λ (x:Nat)=>Value.int .i64 x)) E (0,0)):=by
  rcases r1.2 with ⟨h9,_⟩ | ⟨g',cap',cur,h9,_,h10,_,_,h11,h12⟩
  ·cases h9
  ·injection h9 with h9 _ h13
   injection h9 with h9
   injection h9 with h9
   subst h9
   rw [h10]
   congr 2
   apply Array.ext'
   have h14:cur.toList.length=n+1:=by rw [Array.length_toList,h11,← h13]; omega
   rw [zF,qE zo] at h12
   rw [h12]
   show cs.take n++_=_
   rw [hcs,List.map_set,jc,ql (by rw [qc]; omega),qV (i:=n+1) (by rw [qc]; omega)]
 have hrun:(execOp a.eval ⟨some d,.call ⟨.builtin .append,#[.tmp s,.tmp u],#[S,S]⟩,ty,ps,af,none⟩).run P w=.ok (.value (.slice (some ⟨hp,0,none⟩) (n+1) (n+1))) w':=by
  simp only [execOp,resolve,invoke,builtin,Sem.run_bind,Sem.run_pure,Result.andThen_ok,xM,qF,xD,e1,e2,e3,hr]
 refine bt ho G (ba hrun (hK _ _ _ ⟨r2.os,r2.tape,r2.output,r2.size,λ k hk hf=>r2.block k hk (λ h=>hf (Option.some.inj h))⟩ hcur G G))
theorem has_rowR {t t2 n c m:Nat}{E:TypeId}{l:List Nat}{hp:Nat}(hv:Has R B w0 i (.tmp t) (EqV (.slice (some ⟨hp,0,none⟩) m c)))(hq:Has R B w0 i (.tmp t2) (EqV (.slice (some ⟨hp,0,none⟩) n c)))(hl:LocH R i t2 E (slH n c) (Nums .i64 l))(hc:m=l.length∧m≤c∧c≤2000):Has R B w0 i (.tmp t) (SlA E [] ((l.map λ (k:Nat)=>(k:Int)).map InA)).va:=λ a w av=>by
 obtain ⟨g,cs,e1,_,h3,h4⟩:=hl.ok av
 have e2:a.eval (.tmp t2)=.slice (some ⟨hp,0,none⟩) n c:=hq a w av
 have e1':a.eval (.tmp t2)=.slice (some ⟨g,0,none⟩) n c:=e1
 have hgp:hp=g:=by rw [e2] at e1'; injection e1' with e1'; injection e1' with e1'; injection e1'
 subst hgp
 have hcs:cs=l.map λ (x:Nat)=>Value.int .i64 x:=h4
 obtain ⟨rfl,hc⟩:=hc
 refine ⟨[.slice (some ⟨hp,0,none⟩) l.length c],⟨λ A hA T hT=>?_,_,c,cs,by simp,by simpa using hc.1,by unfold maxLen; omega,?_,λ _=>⟨hp,0,rfl,(Array.getElem?_eq_some_iff.1 h3).1,.inr ⟨_,_,h3⟩,λ j u hu=>?_⟩⟩,hv a w av⟩
 ·obtain ⟨x,hx,rfl⟩:=qp.1 hA
  cases hT
 ·have h5:=cW (B:=B) (w:=w) (l.map λ (k:Nat)=>(k:Int))
  rw [show (l.map λ (k:Nat)=>(k:Int)).map (λ (n:Int)=>Value.int .i64 n)=l.map λ (x:Nat)=>Value.int .i64 x from by rw [zH]; rfl] at h5
  rw [hcs]
  exact h5
 ·rw [qC,cell_of_row w hp j cs.toArray E _ h3]
  simpa using hu
end
theorem St.nmH {B N:Nat}(h:St B w0 N Γ Λ a w){s T n c:Nat}{A:As}(k:Nat)(hm:Λ[k]?=some ⟨s,T,slH n c,A⟩):∃ g,St B w0 N ((s,EqV (.slice (some ⟨g,0,none⟩) n c))::Γ) Λ a w:=by
 obtain ⟨g,cs,e,_⟩:=h.locs _ (qb hm)
 refine ⟨g,h.lo,h.defers,h.size,h.base,λ x hx=>?_,h.locs,h.dis⟩
 rcases qn.1 hx with rfl | hx
 ·exact e
 ·exact h.vals x hx
theorem int_i26:∃ i,Tryz.prog.info? 3=some i∧i.zero=some (.int .i64 0)∧i.size=1∧i.bytes=8:=int_info
theorem rep_dr (n:Nat):(List.replicate (n+1) 0).drop n=[0]:=by rw [List.drop_replicate]; simp
theorem set_sn {u:List Nat}{j:Nat}:(u++[0]).set u.length j=u++[j]:=by simp
section
open Rg
variable {P:Program} {Q:Exit→Act→World→Prop} {B N:Nat} {w0:Bs} {Γ:List (Nat × VA)} {Λ:List Lc} {a:Act} {w:World} {ops:Array Oper} {i:Nat} {K:Act→World→Prop}
theorem op_cpL {d s u t2 n c hp:Nat}{S E T1:TypeId}{q l:List Nat}(src:List Nat)(ks ku kq e:Nat)
  (ho:ops[i]?=some ⟨some d,.call ⟨.builtin .copy,#[.tmp s,.tmp u],#[S,S]⟩,T1,ps,af,none⟩) (h:St B w0 N Γ Λ a w)
  (hs:Γ[ks]?=some (s,EqV (.slice (some ⟨hp,0,none⟩) n c))) (hq:Γ[kq]?=some (t2,EqV (.slice (some ⟨hp,0,none⟩) n c))) (hu:Γ[ku]?=some (u,(SlO E [] (l.map λ (k:Nat)=>InA (k:Int)) True).va)) (hl:Λ[e]?=some ⟨t2,E,slH n c,Nums .i64 q⟩)
  (hS:P.underlying S=some (.slice E)) (hsz:(P.info? E).map (·.size)=some 1) (hn:l.length=n) (hqc:q.length=c) (hnc:n≤c) (hd:d<N) (hΓ:Γ.all (λ x=>x.1 != d)=true) (hΛd:Λ.all (λ l=>l.s != d)=true)
  (hsrc:src.all (λ k=>match Γ[k]? with | some y => !y.2.deps.contains E | none=>false)=true) (hΛ:Λ.zipIdx.all (λ x=>x.2==e || (x.1.s != t2 && !x.1.A.deps.contains E))=true)
  (hK:∀ v w',St B w0 N (src.filterMap λ k=>Γ[k]?) (Λ.set e ⟨t2,E,slH n c,Nums .i64 (l++q.drop n)⟩) (a.put (some d) v) w'→K (a.put (some d) v) w'):wpOp P ops Q i K a w:=by
 have e1:a.eval (.tmp s)=.slice (some ⟨hp,0,none⟩) n c:=h.vals _ (qb hs)
 have e2:a.eval (.tmp t2)=.slice (some ⟨hp,0,none⟩) n c:=h.vals _ (qb hq)
 obtain ⟨g,cs,q1,q2,q3,q4⟩:=h.locs _ (qb hl)
 have q1':a.eval (.tmp t2)=.slice (some ⟨g,0,none⟩) n c:=q1
 have hgp:hp=g:=by rw [e2] at q1'; injection q1' with q1'; injection q1' with q1'; injection q1'
 subst hgp
 have hcs:cs=q.map λ (x:Nat)=>Value.int .i64 x:=q4
 have hu2:=SlO.use (h.vals _ (qb hu))
 obtain ⟨_,hu3⟩:=and_va hu2
 obtain ⟨cs1,⟨_,Ad,cap,ds,rfl,_,_,h5,h6⟩,hu'⟩:=hu3
 have e3:a.eval (.tmp u)=.slice Ad (l.map λ (k:Nat)=>InA (k:Int)).length cap:=hu'
 rw [qc,hn] at e3
 have hds:ds=l.map λ (x:Nat)=>Value.int .i64 x:=int_list (l:=l) (by rw [zH]; exact h5)
 have hB:B≤hp:=h.lo hp q2
 have hE:∀ k,k<w.heap.size→k≠hp→True:=λ _ _ _=>trivial
 have key:∃ v,(Builtin.copy_ #[S,S] T1 #[.slice (some ⟨hp,0,none⟩) n c,.slice Ad n cap]).run P w=.ok v (w.setRow hp (List.toArray ((l++q.drop n).map λ (x:Nat)=>Value.int .i64 x))):=by
  by_cases h0:n=0
  ·refine ⟨goInt 0,?_⟩
   have hl0:l=[]:=zG zo
   rw [run_copy_none w S S T1 E (some ⟨hp,0,none⟩) Ad n c n cap hS hsz (by rw [h0]; rfl)]
   congr 1
   rw [hl0,h0,xS,xZ,← hcs]
   have e9:∀ h:Array Obj,h=w.heap→w=({ w with heap:=h }:World):=λ h e=>by rw [e]
   unfold World.setRow
   refine e9 _ (xH λ k=>?_)
   rw [Array.getElem?_modify]
   by_cases hk:hp=k
   ·subst hk
    rw [ql rfl,q3]
    rfl
   ·rw [qj hk]
  ·obtain ⟨b,o,hAd,_,_,h8⟩:=h6 (by rw [qc]; omega)
   subst hAd
   refine ⟨goInt ds.length,(run_copy_row P w S S T1 E hp 0 n c ⟨b,o,none⟩ n cap (List.toArray cs) E ds hS hsz q3 (by rw [hds,qc,hn]; exact (Nat.min_self n).symm) (λ j v hj=>by rw [add_k]; exact h8 j v hj) (by rw [hds,hcs]; simp; omega) (λ v hv=>by
    rw [hds] at hv
    obtain ⟨x,_,rfl⟩:=qp.1 hv
    rfl)).trans ?_⟩
   congr 2
   rw [hds,hcs]
   simp [hn]
 obtain ⟨v,hr⟩:=key
 have hW:=Wr.setRow w hp (List.toArray ((l++q.drop n).map λ (x:Nat)=>Value.int .i64 x))
 have U:St B w0 N (src.filterMap λ k=>Γ[k]?) (Λ.set e ⟨t2,E,slH n c,Nums .i64 (l++q.drop n)⟩) a (w.setRow hp (List.toArray ((l++q.drop n).map λ (x:Nat)=>Value.int .i64 x))):=by
  refine ⟨h.lo,h.defers.keep rfl λ D hD=>(hW.block D (λ e=>by subst e; rw [q3] at hD; cases hD)).trans hD,h.size,h.base.wr hW q2,λ x hx=>?_,λ m hm=>?_,λ m1 hm1 m2 hm2 hne=>?_⟩
  ·obtain ⟨k',hk1,hk2⟩:=q9.1 hx
   have:=qd.1 hsrc k' hk1
   simp only [hk2,qv,qA,qw] at this
   exact x.2.wr _ _ _ _ _ _ _ _ q3 this hB hW (h.vals x (qb hk2))
  ·obtain ⟨j,hj⟩:=List.getElem?_of_mem hm
   by_cases e5:j=e
   ·subst e5
    have:m=⟨t2,E,slH n c,Nums .i64 (l++q.drop n)⟩:=by
     rw [List.getElem?_set_self (List.getElem?_eq_some_iff.1 hl).1] at hj
     injection hj with hj
     exact hj.symm
    subst this
    exact ⟨hp,_,q1,q2,setRow_heap w hp _ _ _ _ q3,rfl⟩
   ·rw [List.getElem?_set_ne (λ e2=>e5 e2.symm)] at hj
    have hc:=qd.1 hΛ (m,j) (zi.2 hj)
    simp only [qQ,zZ,qh,bne_iff_ne,qv,qA,qw] at hc
    have hc':=hc.resolve_left e5
    obtain ⟨g',cs2,p1,p2,p3,p4⟩:=h.locs m (qb hj)
    have hne:g'≠hp:=λ hh=>h.dis m (qb hj) _ (qb hl) hc'.1 (by rw [p1,q1,hh,m.H.ok,Hd.ok])
    exact ⟨g',cs2,p1,p2,(hW.block g' hne).trans p3,m.A.wr _ _ _ _ _ _ _ _ q3 hc'.2 hB hW p4⟩
  ·have hs:∀ m∈Λ.set e ⟨t2,E,slH n c,Nums .i64 (l++q.drop n)⟩,∃ m0∈Λ,m0.s=m.s:=λ m hm=>by
    rcases qS hm with hm | rfl
    ·exact ⟨m,hm,rfl⟩
    ·exact ⟨_,qb hl,rfl⟩
   obtain ⟨m3,r1,r2⟩:=hs m1 hm1
   obtain ⟨m4,r3,r4⟩:=hs m2 hm2
   rw [← r2,← r4] at hne ⊢
   exact h.dis m3 r1 m4 r3 hne
 have hst2:=U.addV (d:=d) (v:=v) (A:=EqV v) hd (qd.2 λ x hx=>by
  obtain ⟨k,hk1,hk2⟩:=q9.1 hx
  exact qd.1 hΓ x (qb hk2)) (qd.2 λ l' hl'=>by
  rcases qS hl' with hl' | rfl
  ·exact qd.1 hΛd l' hl'
  ·exact qd.1 hΛd (⟨t2,E,slH n c,Nums .i64 q⟩:Lc) (qb hl)) rfl
 unfold wpOp
 simp only [ho,Region.wanted,if_true]
 refine .inl (ba (v:=v) ?_ (hK v _ ⟨hst2.lo,hst2.defers,hst2.size,hst2.base,λ x hx=>hst2.vals x (ze _ hx),hst2.locs,hst2.dis⟩))
 simp only [execOp,resolve,invoke,builtin,Sem.run_bind,Sem.run_pure,Result.andThen_ok,xM,qF,xD,e1,e3,hr]
end
end Go.Proofs.YtlakjmncfooodaaGreat
