import Derived.Test.YtlakjmncfooodaaGreatSoAv
import Derived.ChangeArms
set_option linter.all false
set_option maxRecDepth 100000
namespace Go.Proofs.YtlakjmncfooodaaGreat
open Go Go.RowKit
variable {w:World}{B:Nat}{a:Act}{v:Value}{T:TypeId}{w0:Bs}{Γ:List (Nat × VA)}{Λ:List Lc}{ps:String}{af:Array Edge}{vr:Value}{H:Hd}{cs:List Value}{w':World}{P:Program}{D:List TypeId}
def elCostF (x:RE):Int:=IntKind.i64.wrap (fracCostF x.p+fracCostF x.q)
def frsF (n:Int):List RF→Int
 | []=>n
 | x::xs=>if decide (n≤1048576) then frsF (IntKind.i64.wrap (n+fracCostF x)) xs else n
theorem frs_go {n:Int}{l:List RF}{j:Nat}(h:j<l.length)(h2:n≤1048576):frsF n (l.drop j)=frsF (IntKind.i64.wrap (n+fracCostF l[j])) (l.drop (j+1)):=by
 rw [qv h,frsF,ql (qR h2)]
theorem frs_end {n:Int}{l:List RF}{j:Nat}(h:¬ (j<l.length∧n≤1048576)):frsF n (l.drop j)=n:=by
 by_cases hj:j<l.length
 ·rw [qv hj,frsF,qk (by simpa using λ hh=>h ⟨hj,hh⟩)]
 ·rw [qS zo]; rfl
def ptc (n:Int)(x:RPt):Int:=IntKind.i64.wrap (IntKind.i64.wrap (n+(x.nm.size:Nat))+elCostF x.e)
def ptsF (n:Int):List RPt→Int
 | []=>n
 | x::xs=>if decide (n≤1048576) then ptsF (ptc n x) xs else n
theorem pts_go {n:Int}{l:List RPt}{j:Nat}(h:j<l.length)(h2:n≤1048576):ptsF n (l.drop j)=ptsF (ptc n l[j]) (l.drop (j+1)):=by
 rw [qv h,ptsF,ql (qR h2)]
theorem pts_end {n:Int}{l:List RPt}{j:Nat}(h:¬ (j<l.length∧n≤1048576)):ptsF n (l.drop j)=n:=by
 by_cases hj:j<l.length
 ·rw [qv hj,ptsF,qk (by simpa using λ hh=>h ⟨hj,hh⟩)]
 ·rw [qS zo]; rfl
def tkcF (t:RTk):Int:=IntKind.i64.wrap (IntKind.i64.wrap (frsF (t.sp.length:Nat) t.sp+ptsF (t.ps.length:Nat) t.ps)+fracCostF t.tg)
theorem elCost_c (x:RE):Cn Tryz.prog 42 [(REA x).va] (In (elCostF x)):=by
 refine Cn.intro Tryz.func42 G zk nq (λ B w0 a U=>?_)
 have U:=zn [(0,(REA x).va)] [] U
 refine qa<|zg [] [⟨1,54,ptrH,some 0,_,none⟩] [.alc 0,.v 2 _] [.o 1] U (zW 0 G (zv G (a6 a5) o0)) (zz [(2,_)] [O 1 54 _] λ a w U=>?_)
 refine zt<|zgd [[],[0],[0,1],[],[3],[0,1,2,3,4],[0,1,2,3,4,5],[0,1,2,3,4,5,6]] [none] [] [.adr 3 1 (.some 1) True,.v 4 _,.v 5 _,.adr 6 1 (.some 5) True,.v 7 _,.v 8 _,.v 9 _,.v 2 _] [.o 7] a7 U (zO 0 G bN (zL 0 0 1 G aa (zQ G (dD _) (.o (vq 1 G)) (zO 0 G cP (zL 3 0 2 G aa (zQ G (dD _) (.o (vq 4 G)) (zv G (aK (vq 2 G) (vq 5 G) (G)) (zA 6 G o0)))))))) zk zk zk zk (zz [(2,_)] [O 1 54 _] λ a w U=>?_)
 refine a4<|qe<|ai ?_ (aj G U (zm 0 G))
 exact az
theorem frsCost_c (xs:List RF):Cn Tryz.prog 19 [(SlA 28 [U32] (xs.map RFA)).va] (In (frsF (xs.length:Nat) xs)):=by
 refine Cn.intro Tryz.func19 G zk nq (λ B w0 a U=>?_)
 have U:=zn [(0,(SlA 28 [U32] (xs.map RFA)).va)] [] U
 have hl:=dy (U.vals (0,(SlA 28 [U32] (xs.map RFA)).va) (zm 0 rfl))
 refine qa<|zh [.v 2 _] [.g 0,.o 0] U (zv G (a6 a5) o0) (zz [(0,_),(2,_)] [] λ a w U=>?_)
 refine zt<|zh [.v 5 _,.v 6 _,.v 3 _] [.g 0,.g 1,.o 2] U (zM 0 G (zv G (bz Tryz.underlying22 (vq 0 G)) (zA 1 G o0))) (zz [(0,_),(2,_),(3,_)] [] λ a w U=>?_)
 refine zt<|qa<|zh [.v 4 _] [.g 0,.g 1,.g 2,.o 0] U (zv G (a6 a5) o0) (zz [(0,_),(2,_),(3,_),(4,_)] [] λ a w U=>?_)
 refine a4<|qo ?_
 have U:=St.sel U [0,2,3]
 refine wp_loop_ghost (λ n a w=>∃ (j:Nat) (m:Int),(n+j=xs.length∧frsF (xs.length:Nat) xs=frsF m (xs.drop j))∧St B w0 25 [(0,(SlA 28 [U32] (xs.map RFA)).va),(3,In m),(4,In (j:Nat))] [] a w) (xs.length) ?_ ?_
 ·exact ⟨0,(xs.length:Nat),⟨by omega,rfl⟩,by rw [qc] at U; exact U⟩
 intro n a w hI
 obtain ⟨j,m,⟨hn,hm⟩,U⟩:=hI
 refine qa<|qa<|zh [.v 7 _,.v 8 _,.v 9 _,.v 10 _,.v 11 _,.t 12 _,.t 13 _,.v 14 _] [.g 0,.g 1,.g 2,.o 7] U (zM 2 G (zM 0 G (zv G (bz Tryz.underlying22 (vq 1 G)) (zv G (aX (vq 0 G) (vq 2 G)) (zv G (a8 (vq 3 G)) (zB 4 G (λ hg=>a8 (gq 1 G)) (zB 4 G (λ hg=>r_leq (ab (vq 5 G) hg) a5) (zv G (bC (vq 4 G) (vq 6 G)) o0)))))))) (zz [(0,_),(3,_),(4,_),(14,_)] [] λ a w U=>?_)
 refine a4<|a9 U (zm 3 G) (λ hb0=>?_) (λ hb0=>?_)
 ·rw [qf,qu,qu,qc] at hb0
  have hj:j<xs.length:=by omega
  have hm0:=hb0.2
  refine qj<|zt<|qo<|zh [.v 17 _,.v 18 _,.v 19 _,.v 20 _,.v 21 _,.v 22 _,.v 23 _,.v 3 _] [.g 0,.g 2,.o 7] U (zM 1 G (zM 0 G (zM 2 G (zv G (cm cZ (cE λ _=>rfl) (vq 1 G) (vq 2 G) (bH hj)) (zv G (am (vq 3 G) aa) (zQ G (dD _) (.o (vq 4 G)) (zv G (aK (vq 0 G) (vq 5 G) (G)) (zA 6 G o0)))))))) (zz [(0,_),(4,_),(3,_)] [] λ a w U=>?_)
  refine al ?_
  refine a4<|zh [.v 15 _,.v 16 _,.v 4 _] [.g 0,.g 2,.o 2] U (zM 1 G (zv G (aK (vq 0 G) a5 (wi_nx hj hl)) (zA 1 G o0))) (zz [(0,_),(3,_),(4,_)] [] λ a w U=>?_)
  refine a4 ?_
  have U:=St.sel U [0,1,2]
  exact ⟨n-1,by omega,j+1,_,⟨by omega,hm.trans (frs_go hj hm0)⟩,U⟩
 ·have hnj:¬ (j<xs.length∧m≤1048576):=by rintro ⟨h1,h2⟩; rw [qc,qR (by omega:(j:Int)<(xs.length:Int)),qR h2] at hb0; exact absurd hb0 zd
  refine qZ<|ak<|ak<|aB<|zt<|zh [.v 24 _,.v 2 _] [.o 1] U (zM 1 G (zA 0 G o0)) (zz [(2,_)] [] λ a w U=>?_)
  refine a4<|qe<|ai ?_ (aj G U (zm 0 G))
  exact bE (qr In (hm.trans (frs_end hnj)).symm)
theorem ptsCost_c (xs:List RPt):Cn Tryz.prog 20 [(SlA 56 [U32] (xs.map PtA)).va] (In (ptsF (xs.length:Nat) xs)):=by
 refine Cn.intro Tryz.func20 G zk nq (λ B w0 a U=>?_)
 have U:=zn [(0,(SlA 56 [U32] (xs.map PtA)).va)] [] U
 have hl:=dy (U.vals (0,(SlA 56 [U32] (xs.map PtA)).va) (zm 0 rfl))
 refine qa<|zh [.v 2 _] [.g 0,.o 0] U (zv G (a6 a5) o0) (zz [(0,_),(2,_)] [] λ a w U=>?_)
 refine zt<|zh [.v 5 _,.v 6 _,.v 3 _] [.g 0,.g 1,.o 2] U (zM 0 G (zv G (bz Tryz.underlying23 (vq 0 G)) (zA 1 G o0))) (zz [(0,_),(2,_),(3,_)] [] λ a w U=>?_)
 refine zt<|qa<|zh [.v 4 _] [.g 0,.g 1,.g 2,.o 0] U (zv G (a6 a5) o0) (zz [(0,_),(2,_),(3,_),(4,_)] [] λ a w U=>?_)
 refine a4<|qo ?_
 have U:=St.sel U [0,2,3]
 refine wp_loop_ghost (λ n a w=>∃ (j:Nat) (m:Int),(n+j=xs.length∧ptsF (xs.length:Nat) xs=ptsF m (xs.drop j))∧St B w0 33 [(0,(SlA 56 [U32] (xs.map PtA)).va),(3,In m),(4,In (j:Nat))] [] a w) (xs.length) ?_ ?_
 ·exact ⟨0,(xs.length:Nat),⟨by omega,rfl⟩,by rw [qc] at U; exact U⟩
 intro n a w hI
 obtain ⟨j,m,⟨hn,hm⟩,U⟩:=hI
 refine qa<|qa<|zh [.v 7 _,.v 8 _,.v 9 _,.v 10 _,.v 11 _,.t 12 _,.t 13 _,.v 14 _] [.g 0,.g 1,.g 2,.o 7] U (zM 2 G (zM 0 G (zv G (bz Tryz.underlying23 (vq 1 G)) (zv G (aX (vq 0 G) (vq 2 G)) (zv G (a8 (vq 3 G)) (zB 4 G (λ hg=>a8 (gq 1 G)) (zB 4 G (λ hg=>r_leq (ab (vq 5 G) hg) a5) (zv G (bC (vq 4 G) (vq 6 G)) o0)))))))) (zz [(0,_),(3,_),(4,_),(14,_)] [] λ a w U=>?_)
 refine a4<|a9 U (zm 3 G) (λ hb0=>?_) (λ hb0=>?_)
 ·rw [qf,qu,qu,qc] at hb0
  have hj:j<xs.length:=by omega
  have hm0:=hb0.2
  refine qj<|zt<|qo<|zgd [[],[],[],[1,2],[1,2,3],[1,2,3,4],[1,2,3,4,5],[0,1,2,3,4,5,6],[],[],[8,9],[8,9,10],[8,9,10,11],[8,9,10,11,12],[0,1,2,3,4,5,6,7,8,9,10,11,12,13],[0,1,2,3,4,5,6,7,8,9,10,11,12,13,14]] [] [] [.v 17 _,.v 18 _,.v 19 _,.v 20 _,.v 21 _,.v 22 _,.v 23 _,.v 24 _,.v 25 _,.v 26 _,.v 27 _,.v 28 _,.v 29 _,.v 30 _,.v 31 _,.v 3 _] [.g 0,.g 2,.o 15] a7 U (zM 1 G (zM 0 G (zM 2 G (zv G (cm sl_23 (cE λ _=>rfl) (vq 1 G) (vq 2 G) (bH hj)) (zv G (bj (vq 3 G) i6 (Sub.part 0 G G)) (zv G (am (vq 4 G) ty_9) (zv G (gL zk (has_wk' (vq 5 G) eqa_v)) (zv G (aK (vq 0 G) (vq 6 G) (G)) (zM 0 G (zM 2 G (zv G (cm sl_23 (cE λ _=>rfl) (vq 8 G) (vq 9 G) (bH hj)) (zv G (bj (vq 10 G) fc (Sub.part 1 G G)) (zv G (am (vq 11 G) eB) (zQ G (elCost_c _) (.o (vq 12 G)) (zv G (aK (vq 7 G) (vq 13 G) (G)) (zA 14 G o0)))))))))))))))) zk zk zk zk (zz [(0,_),(4,_),(3,_)] [] λ a w U=>?_)
  refine al ?_
  refine a4<|zh [.v 15 _,.v 16 _,.v 4 _] [.g 0,.g 2,.o 2] U (zM 1 G (zv G (aK (vq 0 G) a5 (wi_nx hj hl)) (zA 1 G o0))) (zz [(0,_),(3,_),(4,_)] [] λ a w U=>?_)
  refine a4 ?_
  have U:=St.sel U [0,1,2]
  exact ⟨n-1,by omega,j+1,_,⟨by omega,hm.trans (pts_go hj hm0)⟩,U⟩
 ·have hnj:¬ (j<xs.length∧m≤1048576):=by rintro ⟨h1,h2⟩; rw [qc,qR (by omega:(j:Int)<(xs.length:Int)),qR h2] at hb0; exact absurd hb0 zd
  refine qZ<|ak<|ak<|aB<|zt<|zh [.v 32 _,.v 2 _] [.o 1] U (zM 1 G (zA 0 G o0)) (zz [(2,_)] [] λ a w U=>?_)
  refine a4<|qe<|ai ?_ (aj G U (zm 0 G))
  exact bE (qr In (hm.trans (pts_end hnj)).symm)
theorem tkCost_c (t:RTk):Cn Tryz.prog 7 [(TkA t).va] (In (tkcF t)):=by
 refine Cn.intro Tryz.func7 G zk nq (λ B w0 a U=>?_)
 have U:=zn [(0,(TkA t).va)] [] U
 refine qa<|zg [] [⟨1,30,ptrH,some 0,_,none⟩] [.alc 0,.v 2 _] [.o 1] U (zW 0 G (zv G (a6 a5) o0)) (zz [(2,_)] [O 1 30 _] λ a w U=>?_)
 refine zt<|zgd [[],[0],[0,1],[],[3],[0,1,2,3,4],[0,1,2,3,4,5],[],[7],[0,1,2,3,4,5,7,8],[0,1,2,3,4,5,6,7,8,9],[0,1,2,3,4,5,6,7,8,9,10]] [none] [] [.adr 3 1 (.some 0) True,.v 4 _,.v 5 _,.adr 6 1 (.some 1) True,.v 7 _,.v 8 _,.v 9 _,.adr 10 1 (.some 2) True,.v 11 _,.v 12 _,.v 13 _,.v 2 _] [.o 11] a7 U (zO 0 G cQ (zL 0 0 0 G iy (zQ G (frsCost_c _) (.o (vq 1 G)) (zO 0 G cw (zL 3 0 1 G gB (zQ G (ptsCost_c _) (.o (vq 4 G)) (zv G (aK (vq 2 G) (vq 5 G) (G)) (zO 0 G er (zL 7 0 2 G aa (zQ G (dD _) (.o (vq 8 G)) (zv G (aK (vq 6 G) (vq 9 G) (G)) (zA 10 G o0)))))))))))) zk zk zk zk (zz [(2,_)] [O 1 30 _] λ a w U=>?_)
 refine a4<|qe<|ai ?_ (aj G U (zm 0 G))
 exact az
theorem sn_no {xs ys:List Int}{j:Nat}(hx:j<xs.length)(hy:j<ys.length)(h:xs[j]≠ys[j]):decide (xs=ys)=false:=by
 simp only [qx]
 rintro rfl
 exact h rfl
theorem sn_nx {xs ys:List Int}{j:Nat}(hx:j<xs.length)(hy:j<ys.length)(hp:xs.take j=ys.take j)(h:xs[j]=ys[j]):xs.take (j+1)=ys.take (j+1):=by
 rw [qq hx,qq hy,hp,h]
def G2A (x:RF × RF):As:=cat [RFA x.1,RFA x.2]
theorem rfN_A {x:RF}:WkA (RFN x) (RFA x):=⟨rfl,rfl,λ B cs w h=>(cx (.cons (i4 _) (.cons (i4 _) .nil)):FreeA (RFN x) (RFA x)).2.2 B B cs w (qg _) h⟩
theorem g2d_a {x:RF × RF}:WkA (G2D x) (G2A x):=dis_wk.trans (aS (.cons rfN_A (.cons rfN_A .nil)))
def ChA (x:RCh):As:=cat [SlA 3 [] (x.l.map InA),RFA x.pw,InA x.c]
theorem chd_a {x:RCh}:WkA (ChD x) (ChA x):=aS (.cons slW_A (.cons (dis_wk.trans rfN_A) (.cons (.refl _) .nil)))
theorem best_p (t:RTk):Cn Tryz.prog 14 [(TkA t).va] (Tu [(ChA (bestF t).1).va,In (bestF t).2]):=(best_c t).wkp (tu2w chd_a.va az)
theorem rows_p (t:RTk)(xs:List Int):Cn Tryz.prog 8 [(TkA t).va,(SlA 3 [] (xs.map InA)).va] (Tu [In (rowF t xs).1,(G2A (rowF t xs).2.1).va,In (rowF t xs).2.2]):=(rows_c t xs).wkp (tu3w az g2d_a.va az)
theorem str_g2:Str Tryz.prog 35 [RFA rf0,RFA rf0] :=
 Str.of (z:=.agg #[.bool false,.slice none 0 0,.bool false,.slice none 0 0,.bool false,.slice none 0 0,.bool false,.slice none 0 0]) zk Tryz.underlying35 zk λ B w=>⟨[[.bool false,.slice none 0 0,.bool false,.slice none 0 0],[.bool false,.slice none 0 0,.bool false,.slice none 0 0]],rfl,.cons (dk B w) (.cons (dk B w) .nil)⟩
theorem str_cho:Str Tryz.prog 46 [EqA (.slice none 0 0),RFA rf0,NumA .i64 0] :=
 Str.of (z:=.agg #[.slice none 0 0,.bool false,.slice none 0 0,.bool false,.slice none 0 0,.int .i64 0]) zk Tryz.underlying46 zk λ B w=>⟨[[.slice none 0 0],[.bool false,.slice none 0 0,.bool false,.slice none 0 0],[.int .i64 0]],rfl,.cons ⟨rfl,rfl⟩ (.cons (dk B w) (.cons rfl .nil))⟩
theorem iH (xs ys:List Int):Cn Tryz.prog 16 [(SlA 3 [] (xs.map InA)).va,(SlA 3 [] (ys.map InA)).va] (Bo (decide (xs=ys))):=by
 refine Cn.intro Tryz.func16 G zk nq (λ B w0 a U=>?_)
 have U:=zn [(0,(SlA 3 [] (xs.map InA)).va),(1,(SlA 3 [] (ys.map InA)).va)] [] U
 have hl:=dy (U.vals (0,(SlA 3 [] (xs.map InA)).va) (zm 0 rfl))
 refine qa<|zh [.v 4 _] [.g 0,.g 1,.o 0] U (zv G (a6 aG) o0) (zz [(0,_),(1,_),(4,_)] [] λ a w U=>?_)
 refine zt<|qa<|zh [.v 6 _,.v 7 _,.v 8 _,.v 9 _,.v 10 _] [.g 0,.g 1,.g 2,.o 4] U (zM 0 G (zv G (bz Tryz.underlying31 (vq 0 G)) (zM 1 G (zv G (bz Tryz.underlying31 (vq 2 G)) (zv G (bv (vq 1 G) (vq 3 G)) o0))))) (zz [(0,_),(1,_),(4,_),(10,_)] [] λ a w U=>?_)
 refine a4<|a9 U (zm 3 G) (λ hb0=>?_) (λ hb0=>?_)
 ·have hne:decide (xs=ys)=false:=by
   simp only [qc] at hb0
   simp only [qx]
   rintro rfl
   simp at hb0
  refine qa<|zh [.v 4 _] [.g 0,.g 1,.o 0] U (zv G (a6 aG) o0) (zz [(0,_),(1,_),(4,_)] [] λ a w U=>?_)
  refine a4<|qe<|ac ?_
  refine ai ?_ (aj G U (zm 2 G))
  exact bE (qr Bo hne.symm)
 ·have hee:xs.length=ys.length:=by
   simp only [qc] at hb0; have:(xs.length:Int)=(ys.length:Int):=by simpa using hb0
   omega
  refine qj<|zt<|qa<|zh [.v 5 _] [.g 0,.g 1,.g 2,.o 0] U (zv G (a6 a5) o0) (zz [(0,_),(1,_),(4,_),(5,_)] [] λ a w U=>?_)
  refine a4<|qo ?_
  have U:=St.sel U [0,1,3]
  refine wp_loop_ghost (λ n a w=>∃ (j:Nat),(n+j=xs.length∧xs.take j=ys.take j)∧St B w0 26 [(0,(SlA 3 [] (xs.map InA)).va),(1,(SlA 3 [] (ys.map InA)).va),(5,In (j:Nat))] [] a w) (xs.length) ?_ ?_
  ·exact ⟨0,⟨by omega,rfl⟩,U⟩
  intro n a w hI
  obtain ⟨j,⟨hn,hp⟩,U⟩:=hI
  refine qa<|qa<|zh [.v 11 _,.v 12 _,.v 13 _,.v 14 _] [.g 0,.g 1,.g 2,.o 3] U (zM 2 G (zM 0 G (zv G (bz Tryz.underlying31 (vq 1 G)) (zv G (aX (vq 0 G) (vq 2 G)) o0)))) (zz [(0,_),(1,_),(5,_),(14,_)] [] λ a w U=>?_)
  refine a4<|a9 U (zm 3 G) (λ hb1=>?_) (λ hb1=>?_)
  ·have hj:j<xs.length:=by rw [qc] at hb1; have:=qp hb1; omega
   have hj2:j<ys.length:=by omega
   refine qj<|zt<|qo<|qa<|zgd [[],[],[0,1],[0,1,2],[],[],[4,5],[4,5,6],[0,1,2,3,4,5,6,7]] [] [] [.v 17 _,.v 18 _,.v 19 _,.v 20 _,.v 21 _,.v 22 _,.v 23 _,.v 24 _,.v 25 _] [.g 0,.g 1,.g 2,.o 8] a7 U (zM 0 G (zM 2 G (zv G (cm fq (cE λ _=>rfl) (vq 0 G) (vq 1 G) (bH hj)) (zv G (am (vq 2 G) ty_3) (zM 1 G (zM 2 G (zv G (cm fq (cE λ _=>rfl) (vq 4 G) (vq 5 G) (bH hj2)) (zv G (am (vq 6 G) ty_3) (zv G (bv (vq 3 G) (vq 7 G)) o0))))))))) zk zk zk zk (zz [(0,_),(1,_),(5,_),(25,_)] [] λ a w U=>?_)
   refine a4<|a9 U (zm 3 G) (λ hb2=>?_) (λ hb2=>?_)
   ·refine qa<|zh [.v 4 _] [.g 0,.g 1,.g 2,.o 0] U (zv G (a6 aG) o0) (zz [(0,_),(1,_),(5,_),(4,_)] [] λ a w U=>?_)
    refine a4<|qe<|aC ?_
    refine ac ?_
    refine ac ?_
    refine aC ?_
    refine ac ?_
    refine ai ?_ (aj G U (zm 3 G))
    exact bE (qr Bo (sn_no hj hj2 (by simpa using hb2)).symm)
   ·refine qj<|al ?_
    refine a4<|zh [.v 15 _,.v 16 _,.v 5 _] [.g 0,.g 1,.o 2] U (zM 2 G (zv G (aK (vq 0 G) a5 ((wi64 zo zo).trans (by omega:(_:Int)=((j+1:Nat):Int)))) (zA 1 G o0))) (zz [(0,_),(1,_),(5,_)] [] λ a w U=>?_)
    refine a4 ?_
    have U:=St.sel U [0,1,2]
    exact ⟨n-1,by omega,j+1,⟨by omega,sn_nx hj hj2 hp (by simpa using hb2)⟩,U⟩
  ·have hj:j=xs.length:=by rw [qc] at hb1; have:=qy hb1; omega
   refine qZ<|ak<|ak<|aB<|zt<|zh [.v 4 _] [.o 0] U (zv G (a6 aG) o0) (zz [(4,_)] [] λ a w U=>?_)
   refine a4<|qe<|ai ?_ (aj G U (zm 0 G))
   exact bE (qr Bo (qR (by rw [hj,qM,hee,qM] at hp; exact hp)).symm)
open Go.ChangeShapes Go.WideShapes Go.ChangeAt
section
variable {H:Type} {enc:TypeId × Value→H} {w:World} {base:Nat} {spare:Nat→Bool} {held:Bool} {fuel:Nat} {cs:List Value} {x:DataW H × List MemPlace}
theorem rd_in (h:DataW.trod enc Tryz.prog w base spare held fuel 3 cs=some x):∃ y,(InA y).p w.heap.size cs w:=by
 obtain ⟨n,hn,_⟩:=DataW.trod_int Tryz.underlying3 h
 exact ⟨n,hn⟩
theorem rd_str (h:DataW.trod enc Tryz.prog w base spare held fuel 9 cs=some x):∃ y:ByteArray,(EqA (.string y)).p w.heap.size cs w:=by
 obtain ⟨s,hs,_⟩:=DataW.trod_string Tryz.underlying9 h
 exact ⟨s,hs,rfl⟩
theorem rd_pt (h:DataW.trod enc Tryz.prog w base spare held fuel 56 cs=some x):∃ y,(PtA y).p w.heap.size cs w:=by
 obtain ⟨xs,n,_,_,hl,hlen,hf⟩:=DataW.trod_struct Tryz.underlying56 h
 have hl':cs.length=11:=hl.trans zk
 have c0:Tryz.prog.cellsOf 54=9:=by kernel_rfl
 have c1:Tryz.prog.cellsOf 9=1:=by kernel_rfl
 have c2:Tryz.prog.cellsOf 3=1:=by kernel_rfl
 match xs,hlen with
 | [y0,y1,y2],_ =>
  have h0:DataW.trod enc Tryz.prog w base spare held n 9 ((cs.drop 0).take (Tryz.prog.cellsOf 9))=some y0:=hf 0 _ rfl
  have h1:DataW.trod enc Tryz.prog w base spare held n 54 ((cs.drop 1).take (Tryz.prog.cellsOf 54))=some y1:=hf 1 _ rfl
  have h2:DataW.trod enc Tryz.prog w base spare held n 3 ((cs.drop 10).take (Tryz.prog.cellsOf 3))=some y2:=hf 2 _ rfl
  rw [c1] at h0
  rw [c0] at h1
  rw [c2] at h2
  obtain ⟨a,ha⟩:=rd_str h0
  obtain ⟨b,hb⟩:=rd_re h1
  obtain ⟨c,hc⟩:=rd_in h2
  exact ⟨⟨a,b,c⟩,fP (A0:=EqA (.string a)) (A1:=REA b) (A2:=InA c) ha hb hc hl'⟩
theorem rd_tk (h:DataW.trod enc Tryz.prog w base spare held fuel 30 cs=some x):∃ y,(TkA y).p w.heap.size cs w:=by
 obtain ⟨xs,n,_,_,hl,hlen,hf⟩:=DataW.trod_struct Tryz.underlying30 h
 have hl':cs.length=6:=hl.trans zk
 have c0:Tryz.prog.cellsOf 22=1:=by kernel_rfl
 have c1:Tryz.prog.cellsOf 23=1:=by kernel_rfl
 have c2:Tryz.prog.cellsOf 28=4:=by kernel_rfl
 match xs,hlen with
 | [y0,y1,y2],_ =>
  have h0:DataW.trod enc Tryz.prog w base spare held n 22 ((cs.drop 0).take (Tryz.prog.cellsOf 22))=some y0:=hf 0 _ rfl
  have h1:DataW.trod enc Tryz.prog w base spare held n 23 ((cs.drop 1).take (Tryz.prog.cellsOf 23))=some y1:=hf 1 _ rfl
  have h2:DataW.trod enc Tryz.prog w base spare held n 28 ((cs.drop 2).take (Tryz.prog.cellsOf 28))=some y2:=hf 2 _ rfl
  rw [c0] at h0
  rw [c1] at h1
  rw [c2] at h2
  obtain ⟨a,ha⟩:=rd_sl (A:=RFA) (m:=4) (D:=[U32]) Tryz.underlying22 zk zd (λ _=>fB zk) rd_rf h0
  obtain ⟨b,hb⟩:=rd_sl (A:=PtA) (m:=11) (D:=[U32]) Tryz.underlying23 zk zd (λ _=>fB zk) rd_pt h1
  obtain ⟨c,hc⟩:=rd_rf h2
  exact ⟨⟨a,b,c⟩,fP (A0:=SlA 28 [U32] (a.map RFA)) (A1:=SlA 56 [U32] (b.map PtA)) (A2:=RFA c) ha hb hc hl'⟩
end
theorem rows_nil (t:RTk):Cn Tryz.prog 8 [(TkA t).va,EqV (.slice none 0 0)] (Tu [In (rowF t []).1,(G2A (rowF t []).2.1).va,In (rowF t []).2.2]):=(rows_p t []).wk (.cons az (.cons nil_sl .nil))
theorem lives26_v:((bestF (twoT 1)).2==0&&(rowF (twoT 1) []).2.2==0&&(rowF (twoT 1) []).1==4&&decide ((rowF (twoT 1) []).2.1.1=rfOf (Rat.divInt 0 1))&&decide ((rowF (twoT 1) []).2.1.2=rfOf (Rat.divInt 1 1))&&decide ((bestF (twoT 1)).1.l=[0,1])&&(bestF (twoT 1)).1.c==8&&decide ((bestF (twoT 1)).1.pw=rfOf (Rat.divInt 1 1)))=true:=by kernel_rfl
theorem fG  : Cn Tryz.prog 10 [] (Bo true):=by
 refine Cn.intro Tryz.func10 G zk nq (λ B w0 a U=>?_)
 have U:=zn [] [] U
 refine qa<|zh [.v 0 _] [.o 0] U (zv G (a6 aG) o0) (zz [(0,_)] [] λ a w U=>?_)
 refine zt<|zg [] [⟨1,46,ptrH,some 5,_,some (6,_)⟩] [.v 7 _,.v 8 _,.v 6 _,.v 9 _,.v 10 _,.alc 0,.sto 0,.v 2 _] [.g 0,.o 7] U (zQ G (two26_c (n:=1) zd zd) (.cons a5 .nil) (zQ G (best_p _) (.o (vq 0 G)) (zv G (a8 (vq 1 G)) (zv G (co (vq 2 G)) (zv G (cn (vq 2 G)) (zY G (Str.zero str_cho) (zS 3 G kr (zA 4 G o0)))))))) (zz [(0,_),(2,_)] [O 1 46 _] λ a w U=>?_)
 refine zt<|zg [η] [⟨4,35,ptrH,some 6,_,some (8,_)⟩] [.v 12 _,.v 13 _,.v 11 _,.v 14 _,.v 15 _,.v 16 _,.alc 1,.v 3 _,.sto 1,.v 5 _] [.g 0,.g 1,.o 7,.o 9] U (zQ G (two26_c (n:=1) zd zd) (.cons a5 .nil) (zQ G (rows_nil _) (.cons (vq 0 G) (.cons bd .nil)) (zv G (a8 (vq 1 G)) (zv G (co (vq 2 G)) (zv G (cn (vq 2 G)) (zv G (r_ex2 (vq 2 G)) (zY G (Str.zero str_g2) (zA 3 G (zS 4 G gz (zA 5 G o0)))))))))) (zz [(0,_),(2,_),(3,_),(5,_)] [O 1 46 _,O 4 35 _] λ a w U=>?_)
 refine zt<|hN (anc:=[[],[0],[0,1],[0,1,2],[0,1,2,3],[0,1,2,3,4],[0,1,2,3,4,5],[0,1,2,3,4,5,6],[0,1,2,3,4,5,6,7],[0,1,2,3,4,5,6,7,8],[0,1,2,3,4,5,6,7,8,9],[0,1,2,3,4,5,6,7,8,9,10],[0,1,2,3,4,5,6,7,8,9,10,11],[0,1,2,3,4,5,6,7,8,9,10],[0,1,2,3,4,5,6,7,8,9,10,11,12,13],[0,1,2,3,4,5,6,7,8,9,10,11,12,13,14],[0,1,2,3,4,5,6,7,8,9,10,11,12,13,14,15],[0,1,2,3,4,5,6,7,8,9,10,11,12,13,14,15,16],[0,1,2,3,4,5,6,7,8,9,10,11,12,13,14,15,16,17],[0,1,2,3,4,5,6,7,8,9,10,11,12,13,14,15,16],[0,1,2,3,4,5,6,7,8,9,10,11,12,13,14,15,16,17,18,19],[0,1,2,3,4,5,6,7,8,9,10,11,12,13,14,15,16,17,18,19,20],[0,1,2,3,4,5,6,7,8,9,10,11,12,13,14,15,16,17,18,19,20,21],[0,1,2,3,4,5,6,7,8,9,10,11,12,13,14,15,16,17,18,19,20,21,22],[0,1,2,3,4,5,6,7,8,9,10,11,12,13,14,15,16,17,18,19,20,21,22,23],[0,1,2,3,4,5,6,7,8,9,10,11,12,13,14,15,16,17,18,19,20,21,22],[0,1,2,3,4,5,6,7,8,9,10,11,12,13,14,15,16,17,18,19,20,21,22,23,24,25],[0,1,2,3,4,5,6,7,8,9,10,11,12,13,14,15,16,17,18,19,20,21,22,23,24,25,26],[0,1,2,3,4,5,6,7,8,9,10,11,12,13,14,15,16,17,18,19,20,21,22,23,24,25,26,27],[0,1,2,3,4,5,6,7,8,9,10,11,12,13,14,15,16,17,18,19,20,21,22,23,24,25,26,27,28],[0,1,2,3,4,5,6,7,8,9,10,11,12,13,14,15,16,17,18,19,20,21,22,23,24,25,26,27,28,29],[0,1,2,3,4,5,6,7,8,9,10,11,12,13,14,15,16,17,18,19,20,21,22,23,24,25,26,27,28,29,30],[0,1,2,3,4,5,6,7,8,9,10,11,12,13,14,15,16,17,18,19,20,21,22,23,24,25,26,27,28,29,30,31],[0,1,2,3,4,5,6,7,8,9,10,11,12,13,14,15,16,17,18,19,20,21,22,23,24,25,26,27,28,29,30,31,32],[0,1,2,3,4,5,6,7,8,9,10,11,12,13,14,15,16,17,18,19,20,21,22,23,24,25,26,27,28,29,30,31,32,33],[0,1,2,3,4,5,6,7,8,9,10,11,12,13,14,15,16,17,18,19,20,21,22,23,24,25,26,27,28,29,30,31,32,33,34],[0,1,2,3,4,5,6,7,8,9,10,11,12,13,14,15,16,17,18,19,20,21,22,23,24,25,26,27,28,29,30,31,32,33],[0,1,2,3,4,5,6,7,8,9,10,11,12,13,14,15,16,17,18,19,20,21,22,23,24,25,26,27,28,29,30,31,32,33,34,35,36],[0,1,2,3,4,5,6,7,8,9,10,11,12,13,14,15,16,17,18,19,20,21,22,23,24,25,26,27,28,29,30,31,32,33,34,35,36,37],[0,1,2,3,4,5,6,7,8,9,10,11,12,13,14,15,16,17,18,19,20,21,22,23,24,25,26,27,28,29,30,31,32,33,34,35,36,37,38]]) (sts:=[none,none]) (news:=[]) (sp:=((.v 17 _:Sp)::(.v 18 _)::(.v 19 _)::(.t 20 _)::(.t 21 _)::(.v 22 _)::(.v 23 _)::(.t 24 _)::(.t 25 _)::(.v 26 _)::(.v 27 _)::(.adr 28 4 (.some 0) (_=true))::(.t 29 _)::(.t 30 _)::(.t 31 _)::(.v 32 _)::(.v 33 _)::(.adr 34 4 (.some 4) (_=true))::(.t 35 _)::(.t 36 _)::(.t 37 _)::(.v 38 _)::(.v 39 _)::(.adr 40 1 (.some 0) (_=true))::(.t 41 _)::(.t 42 _)::(.t 43 _)::(.v 44 _)::(.v 45 _)::(.adr 46 1 (.some 5) (_=true))::(.t 47 _)::(.t 48 _)::(.v 49 _)::(.v 50 _)::(.adr 51 1 (.some 1) (_=true))::(.t 52 _)::(.t 53 _)::(.t 54 _)::(.v 55 _)::(.v 0 _)::[])) [.o 39] a7 U (zM 1 G (zv G (bA (vq 0 G) a5) (zv G (a8 (vq 1 G)) (zB 2 G (λ hg=>a8 (gq 3 G)) (zB 2 G (λ hg=>bA (ab (vq 3 G) hg) a5) (zv G (bC (vq 2 G) (vq 4 G)) (zv G (a8 (vq 5 G)) (zB 6 G (λ hg=>a8 (gq 2 G)) (zB 6 G (λ hg=>bA (ab (vq 7 G) hg) a5) (zv G (bC (vq 6 G) (vq 8 G)) (zv G (a8 (vq 9 G)) (zC 10 1 G ep (zB 10 G (λ hg=>aH 11 G zk hg (lz0 1 G) (Sub.part 0 G G) aa) (zB 10 G (λ hg=>bk (bT (n:=0) zd zd) (.cons a5 .nil)) (zB 10 G (λ hg=>bk (eG _ _) (.p (ab (vq 12 G) hg) (ab (vq 13 G) hg))) (zv G (bC (vq 10 G) (vq 14 G)) (zv G (a8 (vq 15 G)) (zC 16 1 G en (zB 16 G (λ hg=>aH 17 G zk hg (lz0 1 G) (Sub.part 1 G G) aa) (zB 16 G (λ hg=>bk (bT (n:=1) zd zd) (.cons a5 .nil)) (zB 16 G (λ hg=>bk (eG _ _) (.p (ab (vq 18 G) hg) (ab (vq 19 G) hg))) (zv G (bC (vq 16 G) (vq 20 G)) (zv G (a8 (vq 21 G)) (zC 22 0 G fld_46_0 (zB 22 G (λ hg=>aH 23 G zk hg (lz0 0 G) (Sub.part 0 G G) eC) (zB 22 G (λ hg=>bt (D:=[]) (l:=[_,_]) (xs:=[.const (.int .i64 (0)),.const (.int .i64 (1))]) (cI zk) fq zk (n_ok zk) nq nq nq (.cons a5 (.cons a5 .nil)) G G) (zB 22 G (λ hg=>bk (iH _ [0,1]) (.p (ab (vq 24 G) hg) (ab (vq 25 G) hg))) (zv G (bC (vq 22 G) (vq 26 G)) (zv G (a8 (vq 27 G)) (zC 28 0 G fld_46_2 (zB 28 G (λ hg=>aH 29 G zk hg (lz0 0 G) (Sub.part 2 G G) ty_3) (zB 28 G (λ hg=>bA (ab (vq 30 G) hg) a5) (zv G (bC (vq 28 G) (vq 31 G)) (zv G (a8 (vq 32 G)) (zC 33 0 G fld_46_1 (zB 33 G (λ hg=>aH 34 G zk hg (lz0 0 G) (Sub.part 1 G G) aa) (zB 33 G (λ hg=>bk (bT (n:=1) zd zd) (.cons a5 .nil)) (zB 33 G (λ hg=>bk (eG _ _) (.p (ab (vq 35 G) hg) (ab (vq 36 G) hg))) (zv G (bC (vq 33 G) (vq 37 G)) (zA 38 G o0)))))))))))))))))))))))))))))))))))))))) zk zk zk zk (zz [(0,_)] [O 1 46 _,O 4 35 _] λ a w U=>?_)
 refine a4<|qe<|ai ?_ (aj G U (zm 0 G))
 exact bE (qr Bo lives26_v)
theorem cmq_lt {x y:Rat}:cmQ x y<0↔x<y:=by
 unfold cmQ
 by_cases h:x<y
 ·rw [ql h]; exact ⟨λ _=>h,λ _=>by decide⟩
 ·rw [qk h]
  by_cases h2:y<x
  ·rw [ql h2]; exact ⟨λ h3=>absurd h3 zd,λ h3=>absurd h3 h⟩
  ·rw [qk h2]; exact ⟨λ h3=>absurd h3 zd,λ h3=>absurd h3 h⟩
theorem cmq_gt {x y:Rat}:cmQ x y>0↔y<x:=by
 unfold cmQ
 by_cases h:x<y
 ·rw [ql h]; exact ⟨λ h3=>absurd h3 zd,λ h3=>absurd h (by grind)⟩
 ·rw [qk h]
  by_cases h2:y<x
  ·rw [ql h2]; exact ⟨λ _=>h2,λ _=>by decide⟩
  ·rw [qk h2]; exact ⟨λ h3=>absurd h3 zd,λ h3=>absurd h3 h2⟩
theorem cmq_eq {x y:Rat}:cmQ x y=0↔x=y:=by
 unfold cmQ
 by_cases h:x<y
 ·rw [ql h]; exact ⟨λ h3=>absurd h3 zd,λ h3=>absurd h (by grind)⟩
 ·rw [qk h]
  by_cases h2:y<x
  ·rw [ql h2]; exact ⟨λ h3=>absurd h3 zd,λ h3=>absurd h2 (by grind)⟩
  ·rw [qk h2]; exact ⟨λ _=>by grind,λ _=>rfl⟩
theorem gm {x y:Int}:(cmp1 x y = -1∧x<y)∨(cmp1 x y=0∧x=y)∨(cmp1 x y=1∧y<x):=by
 unfold cmp1
 by_cases h:x<y
 ·rw [ql h]; exact .inl ⟨rfl,h⟩
 ·rw [qk h]
  by_cases h2:x>y
  ·rw [ql h2]; exact .inr (.inr ⟨rfl,h2⟩)
  ·rw [qk h2]; exact .inr (.inl ⟨rfl,by omega⟩)
theorem ib:∀ (l m:List Int),cmpL m l = -cmpL l m
 | [],[]=>rfl
 | [],_::_=>rfl
 | _::_,[]=>rfl
 | x::l,y::m=>by
  have h1:=gm (x:=x) (y:=y)
  have h2:=gm (x:=y) (y:=x)
  unfold cmpL
  by_cases h:cmp1 x y=0
  ·rw [ql h,ql zo]
   exact ib l m
  ·rw [qk h,qk zo]
   omega
theorem cmpL_eq:∀ {l m:List Int},cmpL l m=0↔l=m
 | [],[]=>⟨λ _=>rfl,λ _=>rfl⟩
 | [],_::_=>⟨λ h=>absurd (show (-1:Int)=0 from h) zd,λ h=>by cases h⟩
 | _::_,[]=>⟨λ h=>absurd (show (1:Int)=0 from h) zd,λ h=>by cases h⟩
 | x::l,y::m=>by
  have h1:=gm (x:=x) (y:=y)
  unfold cmpL
  by_cases h:cmp1 x y=0
  ·rw [ql h,cmpL_eq (l:=l) (m:=m)]
   have:x=y:=by omega
   subst this
   exact ⟨λ h=>by rw [h],λ h=>by injection h⟩
  ·rw [qk h]
   exact ⟨λ h3=>absurd h3 h,λ h3=>by injection h3 with h3; omega⟩
theorem gk:∀ {l m k:List Int},cmpL l m<0→cmpL m k<0→cmpL l k<0
 | [],[],_,h,_=>absurd (show (0:Int)<0 from h) zd
 | [],_::_,[],_,h=>absurd (show (1:Int)<0 from h) zd
 | [],_::_,_::_,_,_=>show (-1:Int)<0 by decide
 | _::_,[],_,h,_=>absurd (show (1:Int)<0 from h) zd
 | _::_,_::_,[],_,h=>absurd (show (1:Int)<0 from h) zd
 | x::l,y::m,z::k,h,h'=>by
  have h1:=gm (x:=x) (y:=y)
  have h2:=gm (x:=y) (y:=z)
  have h3:=gm (x:=x) (y:=z)
  unfold cmpL at h h' ⊢
  by_cases e1:cmp1 x y=0
  ·rw [ql e1] at h
   by_cases e2:cmp1 y z=0
   ·rw [ql e2] at h'
    rw [ql zo]
    exact gk h h'
   ·rw [qk e2] at h'
    rw [qk zo]
    omega
  ·rw [qk e1] at h
   by_cases e2:cmp1 y z=0
   ·rw [qk zo]
    omega
   ·rw [qk e2] at h'
    rw [qk zo]
    omega
def LtW (x y:WyQ):Prop:=x.aw<y.aw∨(x.aw=y.aw∧(x.c<y.c∨(x.c=y.c∧cmpL x.l y.l<0)))
theorem bet_lt {x y:WyQ}:betF x y=true↔LtW x y:=by
 unfold betF LtW
 by_cases h:cmQ x.aw y.aw=0
 ·rw [qk (by rw [h]; decide)]
  have e:=cmq_eq.1 h
  have hn:¬ x.aw<y.aw:=by rw [e]; grind
  by_cases h2:x.c=y.c
  ·rw [qk (by rw [h2]; simp),qu]
   have hc:¬ x.c<y.c:=by omega
   exact ⟨λ h3=>.inr ⟨e,.inr ⟨h2,h3⟩⟩,λ h3=>by
    rcases h3 with h3 | ⟨_,h3 | ⟨_,h3⟩⟩
    ·exact absurd h3 hn
    ·exact absurd h3 hc
    ·exact h3⟩
  ·rw [ql (by simpa using h2),qu]
   exact ⟨λ h3=>.inr ⟨e,.inl h3⟩,λ h3=>by
    rcases h3 with h3 | ⟨_,h3 | ⟨h3,_⟩⟩
    ·exact absurd h3 hn
    ·exact h3
    ·exact absurd h3 h2⟩
 ·rw [ql (by simpa using h),qu,cmq_lt]
  exact ⟨λ h3=>.inl h3,λ h3=>by
   rcases h3 with h3 | ⟨h3,_⟩
   ·exact h3
   ·exact absurd (cmq_eq.2 h3) h⟩
theorem lt_irr {x:WyQ}:¬ LtW x x:=by
 rintro (h | ⟨_,h | ⟨_,h⟩⟩)
 ·grind
 ·omega
 ·rw [cmpL_eq.2 rfl] at h; omega
theorem lt_asy {x y:WyQ}(h:LtW x y):¬ LtW y x:=by
 intro h'
 rcases h with h | ⟨e,h⟩
 ·rcases h' with h' | ⟨e',_⟩
  ·grind
  ·rw [e'] at h; grind
 ·rcases h' with h' | ⟨_,h'⟩
  ·rw [e] at h'; grind
  ·have:=ib x.l y.l
   omega
theorem lt_tot {x y:WyQ}(h:x.l≠y.l):LtW x y∨LtW y x:=by
 unfold LtW
 by_cases h1:x.aw<y.aw
 ·exact .inl (.inl h1)
 ·by_cases h2:y.aw<x.aw
  ·exact .inr (.inl h2)
  ·have e:x.aw=y.aw:=by grind
   have hc:cmpL x.l y.l≠0:=λ h3=>h (cmpL_eq.1 h3)
   have:=ib x.l y.l
   by_cases h3:x.c<y.c
   ·exact .inl (.inr ⟨e,.inl h3⟩)
   ·by_cases h4:y.c<x.c
    ·exact .inr (.inr ⟨e.symm,.inl h4⟩)
    ·by_cases h5:cmpL x.l y.l<0
     ·exact .inl (.inr ⟨e,.inr ⟨by omega,h5⟩⟩)
     ·exact .inr (.inr ⟨e.symm,.inr ⟨by omega,by omega⟩⟩)
theorem lt_trans {x y z:WyQ}(h:LtW x y)(h':LtW y z):LtW x z:=by
 rcases h with h | ⟨e,h⟩
 ·rcases h' with h' | ⟨e',_⟩
  ·exact .inl (by grind)
  ·exact .inl (by grind)
 ·rcases h' with h' | ⟨e',h'⟩
  ·exact .inl (by grind)
  ·refine .inr ⟨by grind,?_⟩
   rcases h with h | ⟨e1,h⟩
   ·rcases h' with h' | ⟨e2,h'⟩ <;> exact .inl zo
   ·rcases h' with h' | ⟨e2,h'⟩
    ·exact .inl zo
    ·exact .inr ⟨by omega,gk h h'⟩
theorem bet_no {x:WyQ}:betF x x=false:=zr.2 λ h=>lt_irr (bet_lt.1 h)
theorem bo_t26 {c:Bool}(h:c=true):Wk (Bo c) (Bo true):=by subst h; exact az
theorem bt_ok {t:RTk}{x y:List Int}(h:(btF t x y).2=0):ckF t=0∧whF t x=true∧whF t y=true∧btF t x y=(betF (wayW t (natL x)) (wayW t (natL y)),0):=by
 unfold btF at h ⊢
 by_cases h1:(ckF t != 0)=true
 ·rw [ql h1] at h
  have h2:ckF t≠0:=by simpa using h1
  exact absurd h h2
 ·rw [qk h1] at h ⊢
  by_cases h2:(whF t x&&whF t y)=true
  ·rw [ql h2]
   rw [qf] at h2
   exact ⟨by simpa using h1,h2.1,h2.2,rfl⟩
  ·rw [qk h2] at h
   exact absurd h zd
theorem bt_at {t:RTk}{x y:List Int}(h:ckF t=0)(hx:whF t x=true)(hy:whF t y=true):btF t x y=(betF (wayW t (natL x)) (wayW t (natL y)),0):=by
 rw [btF,qk (by rw [h]; decide),ql (by rw [hx,hy]; rfl)]
theorem bt_err {t:RTk}{x y:List Int}(h:((btF t x y).2 != 0 || (btF t y x).2 != 0)=true):((((btF t x y).2==(btF t y x).2) && !(btF t x y).1) && !(btF t y x).1)=true:=by
 unfold btF at h ⊢
 by_cases h1:(ckF t != 0)=true
 ·rw [ql h1,ql h1]; simp
 ·rw [qk h1,qk h1] at h ⊢
  by_cases h2:(whF t x&&whF t y)=true
  ·have h3:(whF t y&&whF t x)=true:=by rw [Bool.and_comm]; exact h2
   rw [ql h2,ql h3] at h
   exact absurd h (by simp)
  ·have h3:¬ (whF t y&&whF t x)=true:=by rw [Bool.and_comm]; exact h2
   rw [qk h2,qk h3]; rfl
theorem wh_list {t:RTk}{l:List Int}(hc:ckF t=0)(h:whF t l=true):l=(natL l).map (λ (k:Nat)=>(k:Int))∧(natL l).length=t.sp.length-1∧∀ x∈natL l,x<t.ps.length:=by
 obtain ⟨h1,h2,_⟩:=hd_b (eu hc).1
 have:=wh_nat (nn:=t.sp.length-1) h zo zo
 exact this
theorem bt_one {t:RTk}{x y:List Int}(h:(btF t x y).2=0):(((btF t x y).1&&(btF t y x).1) || (((btF t x y).1 || (btF t y x).1)==decide (x=y)))=false:=by
 obtain ⟨hc,hx,hy,e⟩:=bt_ok h
 rw [e,bt_at hc hy hx]
 by_cases he:x=y
 ·subst he
  rw [bet_no]; simp
 ·have hne:(wayW t (natL x)).l≠(wayW t (natL y)).l:=λ h2=>he (by
   rw [(wh_list hc hx).1,(wh_list hc hy).1]
   exact h2)
  rcases lt_tot hne with h1 | h1
  ·have h2:=bet_lt.2 h1
   have h3:betF (wayW t (natL y)) (wayW t (natL x))=false:=zr.2 λ h4=>lt_asy h1 (bet_lt.1 h4)
   rw [h2,h3]; simp [he]
  ·have h2:=bet_lt.2 h1
   have h3:betF (wayW t (natL x)) (wayW t (natL y))=false:=zr.2 λ h4=>lt_asy h1 (bet_lt.1 h4)
   rw [h2,h3]; simp [he]
theorem bt_tr {t:RTk}{x y z:List Int}(h0:(btF t x y).2=0)(h:((((btF t x y).1&&(btF t y z).1)&&((btF t y z).2==0))&&((btF t x z).2 != 0 || !(btF t x z).1))=true):False:=by
 simp only [qf,zU] at h
 obtain ⟨⟨⟨h1,h2⟩,h3⟩,h4⟩:=h
 obtain ⟨hc,hx,hy,e⟩:=bt_ok h0
 obtain ⟨_,_,hz,e2⟩:=bt_ok h3
 rw [e] at h1
 rw [e2] at h2
 have h5:=bet_lt.2 (lt_trans (bet_lt.1 h1) (bet_lt.1 h2))
 rw [bt_at hc hx hz,h5] at h4
 exact absurd h4 zd
def pwX (t:RTk)(x:List Int):RF × Bool:=pwF (bnF t x).1 (bnF t x).2
theorem pw_val {t:RTk}{x:List Int}(h:(pwX t x).2=true):ckF t=0∧whF t x=true∧longQ (powW t (natL x))=false∧(pwX t x).1=rfOf (powW t (natL x)):=by
 unfold pwX pwF at h ⊢
 by_cases h1:((bnF t x).2 != 0)=true
 ·rw [ql h1] at h; exact absurd h zd
 ·rw [qk h1] at h ⊢
  have hb:bnF t x=(benW t (natL x),0)∧ckF t=0∧whF t x=true:=by
   unfold bnF at h1 ⊢
   by_cases h2:(ckF t != 0)=true
   ·rw [ql h2] at h1; exact absurd h2 h1
   ·rw [qk h2] at h1 ⊢
    by_cases h3:(!whF t x)=true
    ·rw [ql h3] at h1; exact absurd rfl h1
    ·rw [qk h3]; exact ⟨rfl,by simpa using h2,by simpa using h3⟩
  rw [hb.1] at h ⊢
  by_cases h2:((benF (benW t (natL x))).2 != 0)=true
  ·rw [ql h2] at h; exact absurd h zd
  ·rw [qk h2] at h ⊢
   have h3:(benF (benW t (natL x))).1=rmOf (prodQ (benW t (natL x))):=by
    have h4:(benF (benW t (natL x))).2=0:=by simpa using h2
    unfold benF at h4 ⊢
    by_cases h5:chF (benW t (natL x))=0
    ·rw [ql h5] at h4 ⊢
     unfold asM at h4 ⊢
     rw [ql rfl] at h4 ⊢
     by_cases h6:([(prodQ (benW t (natL x))).a,(prodQ (benW t (natL x))).b,(prodQ (benW t (natL x))).c,(prodQ (benW t (natL x))).d].any longQ)=true
     ·rw [ql h6] at h4; exact absurd h4 zd
     ·rw [qk h6]
    ·rw [qk h5] at h4; exact absurd h4 h5
   rw [h3] at h ⊢
   unfold powF at h ⊢
   by_cases h5:okM (rmOf (prodQ (benW t (natL x))))=true
   ·rw [ql h5] at h ⊢
    rw [toM_of] at h ⊢
    show _∧_∧longQ (-(prodQ (benW t (natL x))).c)=false∧(ansF (-(prodQ (benW t (natL x))).c)).1=rfOf (-(prodQ (benW t (natL x))).c)
    unfold ansF at h ⊢
    cases hl:longQ (-(prodQ (benW t (natL x))).c) with
    | true=>rw [hl] at h; simp at h
    | false=>exact ⟨hb.2.1,hb.2.2,rfl,rfl⟩
   ·rw [qk h5] at h; exact absurd h zd
theorem an_ok {q:Rat}(h:(ansF q).2=0):longQ q=false∧(ansF q).1=rfOf q:=by
 unfold ansF at h ⊢
 cases hl:longQ q with
 | true=>rw [hl] at h; simp at h
 | false=>exact ⟨rfl,rfl⟩
theorem do_ok {op:Rat→Rat→Rat}{x y:RF}(h:(doF (λ a b=>some (op a b)) x y).2=0):okX x=true∧okX y=true∧longQ (op (toQ x) (toQ y))=false∧(doF (λ a b=>some (op a b)) x y).1=rfOf (op (toQ x) (toQ y)):=by
 unfold doF at h ⊢
 by_cases h1:(okX x&&okX y)=true
 ·rw [ql h1] at h ⊢
  rw [qf] at h1
  exact ⟨h1.1,h1.2,an_ok h⟩
 ·rw [qk h1] at h; exact absurd h zd
theorem aw_sq {a b:Rat}(ha:0≤a)(hb:0≤b)(h:a*a<b*b):a<b:=by
 by_cases h1:a<b
 ·exact h1
 ·have h2:b≤a:=by grind
  have h3:b*b≤a*a:=Rat.le_trans (Rat.mul_le_mul_of_nonneg_left h2 hb) (Rat.mul_le_mul_of_nonneg_right h2 ha)
  grind
theorem awa_v (t:RTk)(l:List Nat):0≤awaW t l∧awaW t l*awaW t l=(powW t l-toQ t.tg)*(powW t l-toQ t.tg):=by
 unfold awaW
 have hs:∀ q:Rat,q.num.sign<0↔q<0:=λ q=>by
  rw [jc]
  have := @Rat.num_nonneg q
  constructor <;> intro h3 <;> grind
 by_cases h:(powW t l-toQ t.tg).num.sign<0
 ·rw [ql h]
  have:=(hs _).1 h
  exact ⟨by grind,by grind⟩
 ·rw [qk h]
  have h2:¬ (powW t l-toQ t.tg)<0:=λ h3=>h ((hs _).2 h3)
  exact ⟨by grind,rfl⟩
theorem cmF_at {x y:Rat}(hx:longQ x=false)(hy:longQ y=false):cmF (rfOf x) (rfOf y)=cmQ x y:=cmF_of hx hy
theorem pw_lt {t:RTk}{x y:List Int}(h1:(powW t (natL x)-toQ t.tg)*(powW t (natL x)-toQ t.tg)<(powW t (natL y)-toQ t.tg)*(powW t (natL y)-toQ t.tg)):betF (wayW t (natL x)) (wayW t (natL y))=true:=by
 obtain ⟨a1,a2⟩:=awa_v t (natL x)
 obtain ⟨b1,b2⟩:=awa_v t (natL y)
 rw [← a2,← b2] at h1
 exact bet_lt.2 (.inl (aw_sq a1 b1 h1))
theorem bt_pw {t:RTk}{x y:List Int}(h0:(btF t x y).2=0)(h:((((((pwX t x).2&&(pwX t y).2)&&((subF (pwX t x).1 t.tg).2==0))&&((subF (pwX t y).1 t.tg).2==0))&&((mulF (subF (pwX t x).1 t.tg).1 (subF (pwX t x).1 t.tg).1).2==0))&&((mulF (subF (pwX t y).1 t.tg).1 (subF (pwX t y).1 t.tg).1).2==0))=true)
  (h2:((decide (cmF (mulF (subF (pwX t x).1 t.tg).1 (subF (pwX t x).1 t.tg).1).1 (mulF (subF (pwX t y).1 t.tg).1 (subF (pwX t y).1 t.tg).1).1<0) && !(btF t x y).1) || (decide (cmF (mulF (subF (pwX t x).1 t.tg).1 (subF (pwX t x).1 t.tg).1).1 (mulF (subF (pwX t y).1 t.tg).1 (subF (pwX t y).1 t.tg).1).1>0) && !(btF t y x).1))=true):False:=by
 simp only [qf,zU] at h
 obtain ⟨⟨⟨⟨⟨k1,k2⟩,k3⟩,k4⟩,k5⟩,k6⟩:=h
 obtain ⟨hc,hx,hy,e⟩:=bt_ok h0
 obtain ⟨_,_,l1,e1⟩:=pw_val k1
 obtain ⟨_,_,l2,e2⟩:=pw_val k2
 obtain ⟨_,o1,l3,e3⟩:=do_ok (op:=λ a b=>a-b) k3
 obtain ⟨_,_,l4,e4⟩:=do_ok (op:=λ a b=>a-b) k4
 obtain ⟨_,_,l5,e5⟩:=do_ok (op:=λ a b=>a*b) k5
 obtain ⟨_,_,l6,e6⟩:=do_ok (op:=λ a b=>a*b) k6
 have e3':(subF (pwX t x).1 t.tg).1=rfOf (powW t (natL x)-toQ t.tg):=by
  show (doF _ _ _).1=_
  rw [e3,e1,cz]
 have e4':(subF (pwX t y).1 t.tg).1=rfOf (powW t (natL y)-toQ t.tg):=by
  show (doF _ _ _).1=_
  rw [e4,e2,cz]
 have e5':(mulF (subF (pwX t x).1 t.tg).1 (subF (pwX t x).1 t.tg).1).1=rfOf ((powW t (natL x)-toQ t.tg)*(powW t (natL x)-toQ t.tg)):=by
  show (doF _ _ _).1=_
  rw [e5,e3',cz]
 have e6':(mulF (subF (pwX t y).1 t.tg).1 (subF (pwX t y).1 t.tg).1).1=rfOf ((powW t (natL y)-toQ t.tg)*(powW t (natL y)-toQ t.tg)):=by
  show (doF _ _ _).1=_
  rw [e6,e4',cz]
 rw [e3',cz] at l5
 rw [e4',cz] at l6
 rw [e5',e6',cmF_at l5 l6,e,bt_at hc hy hx] at h2
 rw [zD,qf,qf,qu,qu] at h2
 rcases h2 with ⟨h3,h4⟩ | ⟨h3,h4⟩
 ·rw [pw_lt (cmq_lt.1 h3)] at h4; exact absurd h4 zd
 ·rw [pw_lt (cmq_gt.1 h3)] at h4; exact absurd h4 zd
end Go.Proofs.YtlakjmncfooodaaGreat
