import Derived.Test.YtlakjmncfooodaaGreatSlAv
import Derived.ChangeArms
set_option linter.all false
set_option maxRecDepth 100000
namespace Go.Proofs.YtlakjmncfooodaaGreat
open Go Go.RowKit
variable {w:World}{B:Nat}{a:Act}{v:Value}{T:TypeId}{w0:Bs}{Γ:List (Nat × VA)}{Λ:List Lc}{ps:String}{af:Array Edge}{vr:Value}{H:Hd}{cs:List Value}{w':World}{P:Program}{D:List TypeId}
def elCostF (x:RE):Int:=IntKind.i64.wrap (fracCostF x.p+fracCostF x.q)
def frsF (n:Int):List RF→Int
 | []=>n
 | x::xs=>if decide (n≤1048576) then frsF (IntKind.i64.wrap (n+fracCostF x)) xs else n
theorem frs_go {n:Int}{l:List RF}{j:Nat}(h:j<l.length)(h2:n≤1048576):frsF n (l.drop j)=frsF (IntKind.i64.wrap (n+fracCostF l[j])) (l.drop (j+1)):=by
 rw [qx h,frsF,qm (qR h2)]
theorem frs_end {n:Int}{l:List RF}{j:Nat}(h:¬ (j<l.length∧n≤1048576)):frsF n (l.drop j)=n:=by
 by_cases hj:j<l.length
 ·rw [qx hj,frsF,qj (by simpa using λ hh=>h ⟨hj,hh⟩)]
 ·rw [qS zo]; rfl
def ptc (n:Int)(x:RPt):Int:=IntKind.i64.wrap (IntKind.i64.wrap (n+(x.nm.size:Nat))+elCostF x.e)
def ptsF (n:Int):List RPt→Int
 | []=>n
 | x::xs=>if decide (n≤1048576) then ptsF (ptc n x) xs else n
theorem pts_go {n:Int}{l:List RPt}{j:Nat}(h:j<l.length)(h2:n≤1048576):ptsF n (l.drop j)=ptsF (ptc n l[j]) (l.drop (j+1)):=by
 rw [qx h,ptsF,qm (qR h2)]
theorem pts_end {n:Int}{l:List RPt}{j:Nat}(h:¬ (j<l.length∧n≤1048576)):ptsF n (l.drop j)=n:=by
 by_cases hj:j<l.length
 ·rw [qx hj,ptsF,qj (by simpa using λ hh=>h ⟨hj,hh⟩)]
 ·rw [qS zo]; rfl
def tkcF (t:RTk):Int:=IntKind.i64.wrap (IntKind.i64.wrap (frsF (t.sp.length:Nat) t.sp+ptsF (t.ps.length:Nat) t.ps)+fracCostF t.tg)
theorem elCost_c (x:RE):Cn Tryz.prog 42 [(REA x).va] (In (elCostF x)):=by
 refine Cn.intro Tryz.func42 G zk nq (λ B w0 a U=>?_)
 have U:=zn [(0,(REA x).va)] [] U
 refine qa<|zg [] [⟨1,54,ptrH,some 0,_,none⟩] [.alc 0,.v 2 _] [.o 1] U (zW 0 G (zv G (a6 a5) o0)) (zz [(2,_)] [O 1 54 _] λ a w U=>?_)
 refine zt<|zgd [[],[0],[0,1],[],[3],[0,1,2,3,4],[0,1,2,3,4,5],[0,1,2,3,4,5,6]] [none] [] [.adr 3 1 (.some 1) True,.v 4 _,.v 5 _,.adr 6 1 (.some 5) True,.v 7 _,.v 8 _,.v 9 _,.v 2 _] [.o 7] a7 U (zO 0 G bK (zL 0 0 1 G ae (zQ G (dF _) (.o (vq 1 G)) (zO 0 G cM (zL 3 0 2 G ae (zQ G (dF _) (.o (vq 4 G)) (zv G (aK (vq 2 G) (vq 5 G) (G)) (zA 6 G o0)))))))) zk zk zk zk (zz [(2,_)] [O 1 54 _] λ a w U=>?_)
 refine a4<|qe<|aj ?_ (ai G U (zm 0 G))
 exact ax
theorem frsCost_c (xs:List RF):Cn Tryz.prog 19 [(SlA 28 [U32] (xs.map RFA)).va] (In (frsF (xs.length:Nat) xs)):=by
 refine Cn.intro Tryz.func19 G zk nq (λ B w0 a U=>?_)
 have U:=zn [(0,(SlA 28 [U32] (xs.map RFA)).va)] [] U
 have hl:=dz (U.vals (0,(SlA 28 [U32] (xs.map RFA)).va) (zm 0 rfl))
 refine qa<|zh [.v 2 _] [.g 0,.o 0] U (zv G (a6 a5) o0) (zz [(0,_),(2,_)] [] λ a w U=>?_)
 refine zt<|zh [.v 5 _,.v 6 _,.v 3 _] [.g 0,.g 1,.o 2] U (zM 0 G (zv G (bv Tryz.underlying22 (vq 0 G)) (zA 1 G o0))) (zz [(0,_),(2,_),(3,_)] [] λ a w U=>?_)
 refine zt<|qa<|zh [.v 4 _] [.g 0,.g 1,.g 2,.o 0] U (zv G (a6 a5) o0) (zz [(0,_),(2,_),(3,_),(4,_)] [] λ a w U=>?_)
 refine a4<|qp ?_
 have U:=St.sel U [0,2,3]
 refine wp_loop_ghost (λ n a w=>∃ (j:Nat) (m:Int),(n+j=xs.length∧frsF (xs.length:Nat) xs=frsF m (xs.drop j))∧St B w0 25 [(0,(SlA 28 [U32] (xs.map RFA)).va),(3,In m),(4,In (j:Nat))] [] a w) (xs.length) ?_ ?_
 ·exact ⟨0,(xs.length:Nat),⟨by omega,rfl⟩,by rw [qc] at U; exact U⟩
 intro n a w hI
 obtain ⟨j,m,⟨hn,hm⟩,U⟩:=hI
 refine qa<|qa<|zh [.v 7 _,.v 8 _,.v 9 _,.v 10 _,.v 11 _,.t 12 _,.t 13 _,.v 14 _] [.g 0,.g 1,.g 2,.o 7] U (zM 2 G (zM 0 G (zv G (bv Tryz.underlying22 (vq 1 G)) (zv G (aW (vq 0 G) (vq 2 G)) (zv G (a8 (vq 3 G)) (zB 4 G (λ hg=>a8 (gq 1 G)) (zB 4 G (λ hg=>r_leq (ab (vq 5 G) hg) a5) (zv G (bV (vq 4 G) (vq 6 G)) o0)))))))) (zz [(0,_),(3,_),(4,_),(14,_)] [] λ a w U=>?_)
 refine a4<|a9 U (zm 3 G) (λ hb0=>?_) (λ hb0=>?_)
 ·rw [qi,qu,qu,qc] at hb0
  have hj:j<xs.length:=by omega
  have hm0:=hb0.2
  refine qk<|zt<|qp<|zh [.v 17 _,.v 18 _,.v 19 _,.v 20 _,.v 21 _,.v 22 _,.v 23 _,.v 3 _] [.g 0,.g 2,.o 7] U (zM 1 G (zM 0 G (zM 2 G (zv G (bU dT (cd λ _=>rfl) (vq 1 G) (vq 2 G) (bC hj)) (zv G (am (vq 3 G) ae) (zQ G (dF _) (.o (vq 4 G)) (zv G (aK (vq 0 G) (vq 5 G) (G)) (zA 6 G o0)))))))) (zz [(0,_),(4,_),(3,_)] [] λ a w U=>?_)
  refine al ?_
  refine a4<|zh [.v 15 _,.v 16 _,.v 4 _] [.g 0,.g 2,.o 2] U (zM 1 G (zv G (aK (vq 0 G) a5 (wi_nx hj hl)) (zA 1 G o0))) (zz [(0,_),(3,_),(4,_)] [] λ a w U=>?_)
  refine a4 ?_
  have U:=St.sel U [0,1,2]
  exact ⟨n-1,by omega,j+1,_,⟨by omega,hm.trans (frs_go hj hm0)⟩,U⟩
 ·have hnj:¬ (j<xs.length∧m≤1048576):=by rintro ⟨h1,h2⟩; rw [qc,qR (by omega:(j:Int)<(xs.length:Int)),qR h2] at hb0; exact absurd hb0 zd
  refine q6<|ak<|ak<|aB<|zt<|zh [.v 24 _,.v 2 _] [.o 1] U (zM 1 G (zA 0 G o0)) (zz [(2,_)] [] λ a w U=>?_)
  refine a4<|qe<|aj ?_ (ai G U (zm 0 G))
  exact bL (qt In (hm.trans (frs_end hnj)).symm)
theorem ptsCost_c (xs:List RPt):Cn Tryz.prog 20 [(SlA 56 [U32] (xs.map PtA)).va] (In (ptsF (xs.length:Nat) xs)):=by
 refine Cn.intro Tryz.func20 G zk nq (λ B w0 a U=>?_)
 have U:=zn [(0,(SlA 56 [U32] (xs.map PtA)).va)] [] U
 have hl:=dz (U.vals (0,(SlA 56 [U32] (xs.map PtA)).va) (zm 0 rfl))
 refine qa<|zh [.v 2 _] [.g 0,.o 0] U (zv G (a6 a5) o0) (zz [(0,_),(2,_)] [] λ a w U=>?_)
 refine zt<|zh [.v 5 _,.v 6 _,.v 3 _] [.g 0,.g 1,.o 2] U (zM 0 G (zv G (bv Tryz.underlying23 (vq 0 G)) (zA 1 G o0))) (zz [(0,_),(2,_),(3,_)] [] λ a w U=>?_)
 refine zt<|qa<|zh [.v 4 _] [.g 0,.g 1,.g 2,.o 0] U (zv G (a6 a5) o0) (zz [(0,_),(2,_),(3,_),(4,_)] [] λ a w U=>?_)
 refine a4<|qp ?_
 have U:=St.sel U [0,2,3]
 refine wp_loop_ghost (λ n a w=>∃ (j:Nat) (m:Int),(n+j=xs.length∧ptsF (xs.length:Nat) xs=ptsF m (xs.drop j))∧St B w0 33 [(0,(SlA 56 [U32] (xs.map PtA)).va),(3,In m),(4,In (j:Nat))] [] a w) (xs.length) ?_ ?_
 ·exact ⟨0,(xs.length:Nat),⟨by omega,rfl⟩,by rw [qc] at U; exact U⟩
 intro n a w hI
 obtain ⟨j,m,⟨hn,hm⟩,U⟩:=hI
 refine qa<|qa<|zh [.v 7 _,.v 8 _,.v 9 _,.v 10 _,.v 11 _,.t 12 _,.t 13 _,.v 14 _] [.g 0,.g 1,.g 2,.o 7] U (zM 2 G (zM 0 G (zv G (bv Tryz.underlying23 (vq 1 G)) (zv G (aW (vq 0 G) (vq 2 G)) (zv G (a8 (vq 3 G)) (zB 4 G (λ hg=>a8 (gq 1 G)) (zB 4 G (λ hg=>r_leq (ab (vq 5 G) hg) a5) (zv G (bV (vq 4 G) (vq 6 G)) o0)))))))) (zz [(0,_),(3,_),(4,_),(14,_)] [] λ a w U=>?_)
 refine a4<|a9 U (zm 3 G) (λ hb0=>?_) (λ hb0=>?_)
 ·rw [qi,qu,qu,qc] at hb0
  have hj:j<xs.length:=by omega
  have hm0:=hb0.2
  refine qk<|zt<|qp<|zgd [[],[],[],[1,2],[1,2,3],[1,2,3,4],[1,2,3,4,5],[0,1,2,3,4,5,6],[],[],[8,9],[8,9,10],[8,9,10,11],[8,9,10,11,12],[0,1,2,3,4,5,6,7,8,9,10,11,12,13],[0,1,2,3,4,5,6,7,8,9,10,11,12,13,14]] [] [] [.v 17 _,.v 18 _,.v 19 _,.v 20 _,.v 21 _,.v 22 _,.v 23 _,.v 24 _,.v 25 _,.v 26 _,.v 27 _,.v 28 _,.v 29 _,.v 30 _,.v 31 _,.v 3 _] [.g 0,.g 2,.o 15] a7 U (zM 1 G (zM 0 G (zM 2 G (zv G (bU k6 (cd λ _=>rfl) (vq 1 G) (vq 2 G) (bC hj)) (zv G (bf (vq 3 G) gX (Sub.part 0 G G)) (zv G (am (vq 4 G) ty_9) (zv G (gF zk (has_wk' (vq 5 G) eqa_v)) (zv G (aK (vq 0 G) (vq 6 G) (G)) (zM 0 G (zM 2 G (zv G (bU k6 (cd λ _=>rfl) (vq 8 G) (vq 9 G) (bC hj)) (zv G (bf (vq 10 G) fa (Sub.part 1 G G)) (zv G (am (vq 11 G) eD) (zQ G (elCost_c _) (.o (vq 12 G)) (zv G (aK (vq 7 G) (vq 13 G) (G)) (zA 14 G o0)))))))))))))))) zk zk zk zk (zz [(0,_),(4,_),(3,_)] [] λ a w U=>?_)
  refine al ?_
  refine a4<|zh [.v 15 _,.v 16 _,.v 4 _] [.g 0,.g 2,.o 2] U (zM 1 G (zv G (aK (vq 0 G) a5 (wi_nx hj hl)) (zA 1 G o0))) (zz [(0,_),(3,_),(4,_)] [] λ a w U=>?_)
  refine a4 ?_
  have U:=St.sel U [0,1,2]
  exact ⟨n-1,by omega,j+1,_,⟨by omega,hm.trans (pts_go hj hm0)⟩,U⟩
 ·have hnj:¬ (j<xs.length∧m≤1048576):=by rintro ⟨h1,h2⟩; rw [qc,qR (by omega:(j:Int)<(xs.length:Int)),qR h2] at hb0; exact absurd hb0 zd
  refine q6<|ak<|ak<|aB<|zt<|zh [.v 32 _,.v 2 _] [.o 1] U (zM 1 G (zA 0 G o0)) (zz [(2,_)] [] λ a w U=>?_)
  refine a4<|qe<|aj ?_ (ai G U (zm 0 G))
  exact bL (qt In (hm.trans (pts_end hnj)).symm)
theorem tkCost_c (t:RTk):Cn Tryz.prog 7 [(TkA t).va] (In (tkcF t)):=by
 refine Cn.intro Tryz.func7 G zk nq (λ B w0 a U=>?_)
 have U:=zn [(0,(TkA t).va)] [] U
 refine qa<|zg [] [⟨1,30,ptrH,some 0,_,none⟩] [.alc 0,.v 2 _] [.o 1] U (zW 0 G (zv G (a6 a5) o0)) (zz [(2,_)] [O 1 30 _] λ a w U=>?_)
 refine zt<|zgd [[],[0],[0,1],[],[3],[0,1,2,3,4],[0,1,2,3,4,5],[],[7],[0,1,2,3,4,5,7,8],[0,1,2,3,4,5,6,7,8,9],[0,1,2,3,4,5,6,7,8,9,10]] [none] [] [.adr 3 1 (.some 0) True,.v 4 _,.v 5 _,.adr 6 1 (.some 1) True,.v 7 _,.v 8 _,.v 9 _,.adr 10 1 (.some 2) True,.v 11 _,.v 12 _,.v 13 _,.v 2 _] [.o 11] a7 U (zO 0 G cN (zL 0 0 0 G io (zQ G (frsCost_c _) (.o (vq 1 G)) (zO 0 G c6 (zL 3 0 1 G fj (zQ G (ptsCost_c _) (.o (vq 4 G)) (zv G (aK (vq 2 G) (vq 5 G) (G)) (zO 0 G gZ (zL 7 0 2 G ae (zQ G (dF _) (.o (vq 8 G)) (zv G (aK (vq 6 G) (vq 9 G) (G)) (zA 10 G o0)))))))))))) zk zk zk zk (zz [(2,_)] [O 1 30 _] λ a w U=>?_)
 refine a4<|qe<|aj ?_ (ai G U (zm 0 G))
 exact ax
theorem sn_no {xs ys:List Int}{j:Nat}(hx:j<xs.length)(hy:j<ys.length)(h:xs[j]≠ys[j]):decide (xs=ys)=false:=by
 simp only [qy]
 rintro rfl
 exact h rfl
theorem sn_nx {xs ys:List Int}{j:Nat}(hx:j<xs.length)(hy:j<ys.length)(hp:xs.take j=ys.take j)(h:xs[j]=ys[j]):xs.take (j+1)=ys.take (j+1):=by
 rw [qo hx,qo hy,hp,h]
def G2A (x:RF × RF):As:=cat [RFA x.1,RFA x.2]
theorem rfN_A {x:RF}:WkA (RFN x) (RFA x):=⟨rfl,rfl,λ B cs w h=>(cy (.cons (gW _) (.cons (gW _) .nil)):FreeA (RFN x) (RFA x)).2.2 B B cs w (qf _) h⟩
theorem g2d_a {x:RF × RF}:WkA (G2D x) (G2A x):=dis_wk.trans (aS (.cons rfN_A (.cons rfN_A .nil)))
def ChA (x:RCh):As:=cat [SlA 3 [] (x.l.map InA),RFA x.pw,InA x.c]
theorem chd_a {x:RCh}:WkA (ChD x) (ChA x):=aS (.cons slW_A (.cons (dis_wk.trans rfN_A) (.cons (.refl _) .nil)))
theorem best_p (t:RTk):Cn Tryz.prog 14 [(TkA t).va] (Tu [(ChA (bestF t).1).va,In (bestF t).2]):=(best_c t).wkp (tu2w chd_a.va ax)
theorem rows_p (t:RTk)(xs:List Int):Cn Tryz.prog 8 [(TkA t).va,(SlA 3 [] (xs.map InA)).va] (Tu [In (rowF t xs).1,(G2A (rowF t xs).2.1).va,In (rowF t xs).2.2]):=(rows_c t xs).wkp (tu3w ax g2d_a.va ax)
theorem str_g2:Str Tryz.prog 35 [RFA rf0,RFA rf0] :=
 Str.of (z:=.agg #[.bool false,.slice none 0 0,.bool false,.slice none 0 0,.bool false,.slice none 0 0,.bool false,.slice none 0 0]) zk Tryz.underlying35 zk λ B w=>⟨[[.bool false,.slice none 0 0,.bool false,.slice none 0 0],[.bool false,.slice none 0 0,.bool false,.slice none 0 0]],rfl,.cons (di B w) (.cons (di B w) .nil)⟩
theorem str_cho:Str Tryz.prog 46 [EqA (.slice none 0 0),RFA rf0,NumA .i64 0] :=
 Str.of (z:=.agg #[.slice none 0 0,.bool false,.slice none 0 0,.bool false,.slice none 0 0,.int .i64 0]) zk Tryz.underlying46 zk λ B w=>⟨[[.slice none 0 0],[.bool false,.slice none 0 0,.bool false,.slice none 0 0],[.int .i64 0]],rfl,.cons ⟨rfl,rfl⟩ (.cons (di B w) (.cons rfl .nil))⟩
theorem sameNum_c (xs ys:List Int):Cn Tryz.prog 16 [(SlA 3 [] (xs.map InA)).va,(SlA 3 [] (ys.map InA)).va] (Bo (decide (xs=ys))):=by
 refine Cn.intro Tryz.func16 G zk nq (λ B w0 a U=>?_)
 have U:=zn [(0,(SlA 3 [] (xs.map InA)).va),(1,(SlA 3 [] (ys.map InA)).va)] [] U
 have hl:=dz (U.vals (0,(SlA 3 [] (xs.map InA)).va) (zm 0 rfl))
 refine qa<|zh [.v 4 _] [.g 0,.g 1,.o 0] U (zv G (a6 aH) o0) (zz [(0,_),(1,_),(4,_)] [] λ a w U=>?_)
 refine zt<|qa<|zh [.v 6 _,.v 7 _,.v 8 _,.v 9 _,.v 10 _] [.g 0,.g 1,.g 2,.o 4] U (zM 0 G (zv G (bv Tryz.underlying31 (vq 0 G)) (zM 1 G (zv G (bv Tryz.underlying31 (vq 2 G)) (zv G (bx (vq 1 G) (vq 3 G)) o0))))) (zz [(0,_),(1,_),(4,_),(10,_)] [] λ a w U=>?_)
 refine a4<|a9 U (zm 3 G) (λ hb0=>?_) (λ hb0=>?_)
 ·have hne:decide (xs=ys)=false:=by
   simp only [qc] at hb0
   simp only [qy]
   rintro rfl
   simp at hb0
  refine qa<|zh [.v 4 _] [.g 0,.g 1,.o 0] U (zv G (a6 aH) o0) (zz [(0,_),(1,_),(4,_)] [] λ a w U=>?_)
  refine a4<|qe<|aa ?_
  refine aj ?_ (ai G U (zm 2 G))
  exact bL (qt Bo hne.symm)
 ·have hee:xs.length=ys.length:=by
   simp only [qc] at hb0; have:(xs.length:Int)=(ys.length:Int):=by simpa using hb0
   omega
  refine qk<|zt<|qa<|zh [.v 5 _] [.g 0,.g 1,.g 2,.o 0] U (zv G (a6 a5) o0) (zz [(0,_),(1,_),(4,_),(5,_)] [] λ a w U=>?_)
  refine a4<|qp ?_
  have U:=St.sel U [0,1,3]
  refine wp_loop_ghost (λ n a w=>∃ (j:Nat),(n+j=xs.length∧xs.take j=ys.take j)∧St B w0 26 [(0,(SlA 3 [] (xs.map InA)).va),(1,(SlA 3 [] (ys.map InA)).va),(5,In (j:Nat))] [] a w) (xs.length) ?_ ?_
  ·exact ⟨0,⟨by omega,rfl⟩,U⟩
  intro n a w hI
  obtain ⟨j,⟨hn,hp⟩,U⟩:=hI
  refine qa<|qa<|zh [.v 11 _,.v 12 _,.v 13 _,.v 14 _] [.g 0,.g 1,.g 2,.o 3] U (zM 2 G (zM 0 G (zv G (bv Tryz.underlying31 (vq 1 G)) (zv G (aW (vq 0 G) (vq 2 G)) o0)))) (zz [(0,_),(1,_),(5,_),(14,_)] [] λ a w U=>?_)
  refine a4<|a9 U (zm 3 G) (λ hb1=>?_) (λ hb1=>?_)
  ·have hj:j<xs.length:=by rw [qc] at hb1; have:=qr hb1; omega
   have hj2:j<ys.length:=by omega
   refine qk<|zt<|qp<|qa<|zgd [[],[],[0,1],[0,1,2],[],[],[4,5],[4,5,6],[0,1,2,3,4,5,6,7]] [] [] [.v 17 _,.v 18 _,.v 19 _,.v 20 _,.v 21 _,.v 22 _,.v 23 _,.v 24 _,.v 25 _] [.g 0,.g 1,.g 2,.o 8] a7 U (zM 0 G (zM 2 G (zv G (bU ee (cd λ _=>rfl) (vq 0 G) (vq 1 G) (bC hj)) (zv G (am (vq 2 G) ty_3) (zM 1 G (zM 2 G (zv G (bU ee (cd λ _=>rfl) (vq 4 G) (vq 5 G) (bC hj2)) (zv G (am (vq 6 G) ty_3) (zv G (bx (vq 3 G) (vq 7 G)) o0))))))))) zk zk zk zk (zz [(0,_),(1,_),(5,_),(25,_)] [] λ a w U=>?_)
   refine a4<|a9 U (zm 3 G) (λ hb2=>?_) (λ hb2=>?_)
   ·refine qa<|zh [.v 4 _] [.g 0,.g 1,.g 2,.o 0] U (zv G (a6 aH) o0) (zz [(0,_),(1,_),(5,_),(4,_)] [] λ a w U=>?_)
    refine a4<|qe<|aD ?_
    refine aa ?_
    refine aa ?_
    refine aD ?_
    refine aa ?_
    refine aj ?_ (ai G U (zm 3 G))
    exact bL (qt Bo (sn_no hj hj2 (by simpa using hb2)).symm)
   ·refine qk<|al ?_
    refine a4<|zh [.v 15 _,.v 16 _,.v 5 _] [.g 0,.g 1,.o 2] U (zM 2 G (zv G (aK (vq 0 G) a5 ((wi64 zo zo).trans (by omega:(_:Int)=((j+1:Nat):Int)))) (zA 1 G o0))) (zz [(0,_),(1,_),(5,_)] [] λ a w U=>?_)
    refine a4 ?_
    have U:=St.sel U [0,1,2]
    exact ⟨n-1,by omega,j+1,⟨by omega,sn_nx hj hj2 hp (by simpa using hb2)⟩,U⟩
  ·have hj:j=xs.length:=by rw [qc] at hb1; have:=qw hb1; omega
   refine q6<|ak<|ak<|aB<|zt<|zh [.v 4 _] [.o 0] U (zv G (a6 aH) o0) (zz [(4,_)] [] λ a w U=>?_)
   refine a4<|qe<|aj ?_ (ai G U (zm 0 G))
   exact bL (qt Bo (qR (by rw [hj,qK,hee,qK] at hp; exact hp)).symm)
open Go.ChangeShapes Go.WideShapes Go.ChangeAt
section
variable {H:Type} {enc:TypeId × Value→H} {w:World} {base:Nat} {spare:Nat→Bool} {held:Bool} {fuel:Nat} {cs:List Value} {x:DataW H × List MemPlace}
theorem rd_in (h:DataW.trod enc Tryz.prog w base spare held fuel 3 cs=some x):∃ y,(InA y).p w.heap.size cs w:=by
 obtain ⟨n,hn,_⟩:=DataW.trod_int Tryz.underlying3 h
 exact ⟨n,hn⟩
theorem rd_str (h:DataW.trod enc Tryz.prog w base spare held fuel 9 cs=some x):∃ y:ByteArray,(EqA (.string y)).p w.heap.size cs w:=by
 obtain ⟨s,hs,_⟩:=DataW.trod_string Tryz.underlying9 h
 exact ⟨s,hs,rfl⟩
theorem rd_pt (h:DataW.trod enc Tryz.prog w base spare held fuel 56 cs=some x):∃ y,(PtA y).p w.heap.size cs w:=by
 obtain ⟨xs,n,_,_,hl,hlen,hf⟩:=DataW.trod_struct Tryz.underlying56 h
 have hl':cs.length=11:=hl.trans zk
 have c0:Tryz.prog.cellsOf 54=9:=by kernel_rfl
 have c1:Tryz.prog.cellsOf 9=1:=by kernel_rfl
 have c2:Tryz.prog.cellsOf 3=1:=by kernel_rfl
 match xs,hlen with
 | [y0,y1,y2],_ =>
  have h0:DataW.trod enc Tryz.prog w base spare held n 9 ((cs.drop 0).take (Tryz.prog.cellsOf 9))=some y0:=hf 0 _ rfl
  have h1:DataW.trod enc Tryz.prog w base spare held n 54 ((cs.drop 1).take (Tryz.prog.cellsOf 54))=some y1:=hf 1 _ rfl
  have h2:DataW.trod enc Tryz.prog w base spare held n 3 ((cs.drop 10).take (Tryz.prog.cellsOf 3))=some y2:=hf 2 _ rfl
  rw [c1] at h0
  rw [c0] at h1
  rw [c2] at h2
  obtain ⟨a,ha⟩:=rd_str h0
  obtain ⟨b,hb⟩:=rd_re h1
  obtain ⟨c,hc⟩:=rd_in h2
  exact ⟨⟨a,b,c⟩,fM (A0:=EqA (.string a)) (A1:=REA b) (A2:=InA c) ha hb hc hl'⟩
theorem rd_tk (h:DataW.trod enc Tryz.prog w base spare held fuel 30 cs=some x):∃ y,(TkA y).p w.heap.size cs w:=by
 obtain ⟨xs,n,_,_,hl,hlen,hf⟩:=DataW.trod_struct Tryz.underlying30 h
 have hl':cs.length=6:=hl.trans zk
 have c0:Tryz.prog.cellsOf 22=1:=by kernel_rfl
 have c1:Tryz.prog.cellsOf 23=1:=by kernel_rfl
 have c2:Tryz.prog.cellsOf 28=4:=by kernel_rfl
 match xs,hlen with
 | [y0,y1,y2],_ =>
  have h0:DataW.trod enc Tryz.prog w base spare held n 22 ((cs.drop 0).take (Tryz.prog.cellsOf 22))=some y0:=hf 0 _ rfl
  have h1:DataW.trod enc Tryz.prog w base spare held n 23 ((cs.drop 1).take (Tryz.prog.cellsOf 23))=some y1:=hf 1 _ rfl
  have h2:DataW.trod enc Tryz.prog w base spare held n 28 ((cs.drop 2).take (Tryz.prog.cellsOf 28))=some y2:=hf 2 _ rfl
  rw [c0] at h0
  rw [c1] at h1
  rw [c2] at h2
  obtain ⟨a,ha⟩:=rd_sl (A:=RFA) (m:=4) (D:=[U32]) Tryz.underlying22 zk zd (λ _=>kh zk) rd_rf h0
  obtain ⟨b,hb⟩:=rd_sl (A:=PtA) (m:=11) (D:=[U32]) Tryz.underlying23 zk zd (λ _=>kh zk) rd_pt h1
  obtain ⟨c,hc⟩:=rd_rf h2
  exact ⟨⟨a,b,c⟩,fM (A0:=SlA 28 [U32] (a.map RFA)) (A1:=SlA 56 [U32] (b.map PtA)) (A2:=RFA c) ha hb hc hl'⟩
end
theorem rows_nil (t:RTk):Cn Tryz.prog 8 [(TkA t).va,EqV (.slice none 0 0)] (Tu [In (rowF t []).1,(G2A (rowF t []).2.1).va,In (rowF t []).2.2]):=(rows_p t []).wk (.cons ax (.cons nil_sl .nil))
theorem lives26_v:((bestF (twoT 1)).2==0&&(rowF (twoT 1) []).2.2==0&&(rowF (twoT 1) []).1==4&&decide ((rowF (twoT 1) []).2.1.1=rfOf (Rat.divInt 0 1))&&decide ((rowF (twoT 1) []).2.1.2=rfOf (Rat.divInt 1 1))&&decide ((bestF (twoT 1)).1.l=[0,1])&&(bestF (twoT 1)).1.c==8&&decide ((bestF (twoT 1)).1.pw=rfOf (Rat.divInt 1 1)))=true:=by kernel_rfl
theorem iF  : Cn Tryz.prog 10 [] (Bo true):=by
 refine Cn.intro Tryz.func10 G zk nq (λ B w0 a U=>?_)
 have U:=zn [] [] U
 refine qa<|zh [.v 0 _] [.o 0] U (zv G (a6 aH) o0) (zz [(0,_)] [] λ a w U=>?_)
 refine zt<|zg [] [⟨1,46,ptrH,some 5,_,some (6,_)⟩] [.v 7 _,.v 8 _,.v 6 _,.v 9 _,.v 10 _,.alc 0,.sto 0,.v 2 _] [.g 0,.o 7] U (zQ G (two26_c (n:=1) zd zd) (.cons a5 .nil) (zQ G (best_p _) (.o (vq 0 G)) (zv G (a8 (vq 1 G)) (zv G (ek (vq 2 G)) (zv G (ej (vq 2 G)) (zY G (Str.zero str_cho) (zS 3 G il (zA 4 G o0)))))))) (zz [(0,_),(2,_)] [O 1 46 _] λ a w U=>?_)
 refine zt<|zg [η] [⟨4,35,ptrH,some 6,_,some (8,_)⟩] [.v 12 _,.v 13 _,.v 11 _,.v 14 _,.v 15 _,.v 16 _,.alc 1,.v 3 _,.sto 1,.v 5 _] [.g 0,.g 1,.o 7,.o 9] U (zQ G (two26_c (n:=1) zd zd) (.cons a5 .nil) (zQ G (rows_nil _) (.cons (vq 0 G) (.cons bh .nil)) (zv G (a8 (vq 1 G)) (zv G (ek (vq 2 G)) (zv G (ej (vq 2 G)) (zv G (r_ex2 (vq 2 G)) (zY G (Str.zero str_g2) (zA 3 G (zS 4 G gu (zA 5 G o0)))))))))) (zz [(0,_),(2,_),(3,_),(5,_)] [O 1 46 _,O 4 35 _] λ a w U=>?_)
 refine zt<|gU (anc:=[[],[0],[0,1],[0,1,2],[0,1,2,3],[0,1,2,3,4],[0,1,2,3,4,5],[0,1,2,3,4,5,6],[0,1,2,3,4,5,6,7],[0,1,2,3,4,5,6,7,8],[0,1,2,3,4,5,6,7,8,9],[0,1,2,3,4,5,6,7,8,9,10],[0,1,2,3,4,5,6,7,8,9,10,11],[0,1,2,3,4,5,6,7,8,9,10],[0,1,2,3,4,5,6,7,8,9,10,11,12,13],[0,1,2,3,4,5,6,7,8,9,10,11,12,13,14],[0,1,2,3,4,5,6,7,8,9,10,11,12,13,14,15],[0,1,2,3,4,5,6,7,8,9,10,11,12,13,14,15,16],[0,1,2,3,4,5,6,7,8,9,10,11,12,13,14,15,16,17],[0,1,2,3,4,5,6,7,8,9,10,11,12,13,14,15,16],[0,1,2,3,4,5,6,7,8,9,10,11,12,13,14,15,16,17,18,19],[0,1,2,3,4,5,6,7,8,9,10,11,12,13,14,15,16,17,18,19,20],[0,1,2,3,4,5,6,7,8,9,10,11,12,13,14,15,16,17,18,19,20,21],[0,1,2,3,4,5,6,7,8,9,10,11,12,13,14,15,16,17,18,19,20,21,22],[0,1,2,3,4,5,6,7,8,9,10,11,12,13,14,15,16,17,18,19,20,21,22,23],[0,1,2,3,4,5,6,7,8,9,10,11,12,13,14,15,16,17,18,19,20,21,22],[0,1,2,3,4,5,6,7,8,9,10,11,12,13,14,15,16,17,18,19,20,21,22,23,24,25],[0,1,2,3,4,5,6,7,8,9,10,11,12,13,14,15,16,17,18,19,20,21,22,23,24,25,26],[0,1,2,3,4,5,6,7,8,9,10,11,12,13,14,15,16,17,18,19,20,21,22,23,24,25,26,27],[0,1,2,3,4,5,6,7,8,9,10,11,12,13,14,15,16,17,18,19,20,21,22,23,24,25,26,27,28],[0,1,2,3,4,5,6,7,8,9,10,11,12,13,14,15,16,17,18,19,20,21,22,23,24,25,26,27,28,29],[0,1,2,3,4,5,6,7,8,9,10,11,12,13,14,15,16,17,18,19,20,21,22,23,24,25,26,27,28,29,30],[0,1,2,3,4,5,6,7,8,9,10,11,12,13,14,15,16,17,18,19,20,21,22,23,24,25,26,27,28,29,30,31],[0,1,2,3,4,5,6,7,8,9,10,11,12,13,14,15,16,17,18,19,20,21,22,23,24,25,26,27,28,29,30,31,32],[0,1,2,3,4,5,6,7,8,9,10,11,12,13,14,15,16,17,18,19,20,21,22,23,24,25,26,27,28,29,30,31,32,33],[0,1,2,3,4,5,6,7,8,9,10,11,12,13,14,15,16,17,18,19,20,21,22,23,24,25,26,27,28,29,30,31,32,33,34],[0,1,2,3,4,5,6,7,8,9,10,11,12,13,14,15,16,17,18,19,20,21,22,23,24,25,26,27,28,29,30,31,32,33],[0,1,2,3,4,5,6,7,8,9,10,11,12,13,14,15,16,17,18,19,20,21,22,23,24,25,26,27,28,29,30,31,32,33,34,35,36],[0,1,2,3,4,5,6,7,8,9,10,11,12,13,14,15,16,17,18,19,20,21,22,23,24,25,26,27,28,29,30,31,32,33,34,35,36,37],[0,1,2,3,4,5,6,7,8,9,10,11,12,13,14,15,16,17,18,19,20,21,22,23,24,25,26,27,28,29,30,31,32,33,34,35,36,37,38]]) (sts:=[none,none]) (news:=[]) (sp:=((.v 17 _:Sp)::(.v 18 _)::(.v 19 _)::(.t 20 _)::(.t 21 _)::(.v 22 _)::(.v 23 _)::(.t 24 _)::(.t 25 _)::(.v 26 _)::(.v 27 _)::(.adr 28 4 (.some 0) (_=true))::(.t 29 _)::(.t 30 _)::(.t 31 _)::(.v 32 _)::(.v 33 _)::(.adr 34 4 (.some 4) (_=true))::(.t 35 _)::(.t 36 _)::(.t 37 _)::(.v 38 _)::(.v 39 _)::(.adr 40 1 (.some 0) (_=true))::(.t 41 _)::(.t 42 _)::(.t 43 _)::(.v 44 _)::(.v 45 _)::(.adr 46 1 (.some 5) (_=true))::(.t 47 _)::(.t 48 _)::(.v 49 _)::(.v 50 _)::(.adr 51 1 (.some 1) (_=true))::(.t 52 _)::(.t 53 _)::(.t 54 _)::(.v 55 _)::(.v 0 _)::[])) [.o 39] a7 U (zM 1 G (zv G (bz (vq 0 G) a5) (zv G (a8 (vq 1 G)) (zB 2 G (λ hg=>a8 (gq 3 G)) (zB 2 G (λ hg=>bz (ab (vq 3 G) hg) a5) (zv G (bV (vq 2 G) (vq 4 G)) (zv G (a8 (vq 5 G)) (zB 6 G (λ hg=>a8 (gq 2 G)) (zB 6 G (λ hg=>bz (ab (vq 7 G) hg) a5) (zv G (bV (vq 6 G) (vq 8 G)) (zv G (a8 (vq 9 G)) (zC 10 1 G ex (zB 10 G (λ hg=>aC 11 G zk hg (lz0 1 G) (Sub.part 0 G G) ae) (zB 10 G (λ hg=>bk (bR (n:=0) zd zd) (.cons a5 .nil)) (zB 10 G (λ hg=>bk (dA _ _) (.p (ab (vq 12 G) hg) (ab (vq 13 G) hg))) (zv G (bV (vq 10 G) (vq 14 G)) (zv G (a8 (vq 15 G)) (zC 16 1 G ew (zB 16 G (λ hg=>aC 17 G zk hg (lz0 1 G) (Sub.part 1 G G) ae) (zB 16 G (λ hg=>bk (bR (n:=1) zd zd) (.cons a5 .nil)) (zB 16 G (λ hg=>bk (dA _ _) (.p (ab (vq 18 G) hg) (ab (vq 19 G) hg))) (zv G (bV (vq 16 G) (vq 20 G)) (zv G (a8 (vq 21 G)) (zC 22 0 G cx (zB 22 G (λ hg=>aC 23 G zk hg (lz0 0 G) (Sub.part 0 G G) cO) (zB 22 G (λ hg=>bF (D:=[]) (l:=[_,_]) (xs:=[.const (.int .i64 (0)),.const (.int .i64 (1))]) (dh zk) ee zk (n_ok zk) nq nq nq (.cons a5 (.cons a5 .nil)) G G) (zB 22 G (λ hg=>bk (sameNum_c _ [0,1]) (.p (ab (vq 24 G) hg) (ab (vq 25 G) hg))) (zv G (bV (vq 22 G) (vq 26 G)) (zv G (a8 (vq 27 G)) (zC 28 0 G fld_46_2 (zB 28 G (λ hg=>aC 29 G zk hg (lz0 0 G) (Sub.part 2 G G) ty_3) (zB 28 G (λ hg=>bz (ab (vq 30 G) hg) a5) (zv G (bV (vq 28 G) (vq 31 G)) (zv G (a8 (vq 32 G)) (zC 33 0 G fld_46_1 (zB 33 G (λ hg=>aC 34 G zk hg (lz0 0 G) (Sub.part 1 G G) ae) (zB 33 G (λ hg=>bk (bR (n:=1) zd zd) (.cons a5 .nil)) (zB 33 G (λ hg=>bk (dA _ _) (.p (ab (vq 35 G) hg) (ab (vq 36 G) hg))) (zv G (bV (vq 33 G) (vq 37 G)) (zA 38 G o0)))))))))))))))))))))))))))))))))))))))) zk zk zk zk (zz [(0,_)] [O 1 46 _,O 4 35 _] λ a w U=>?_)
 refine a4<|qe<|aj ?_ (ai G U (zm 0 G))
 exact bL (qt Bo lives26_v)
theorem cmq_lt {x y:Rat}:cmQ x y<0↔x<y:=by
 unfold cmQ
 by_cases h:x<y
 ·rw [qm h]; exact ⟨λ _=>h,λ _=>by decide⟩
 ·rw [qj h]
  by_cases h2:y<x
  ·rw [qm h2]; exact ⟨λ h3=>absurd h3 zd,λ h3=>absurd h3 h⟩
  ·rw [qj h2]; exact ⟨λ h3=>absurd h3 zd,λ h3=>absurd h3 h⟩
theorem cmq_eq {x y:Rat}:cmQ x y=0↔x=y:=by
 unfold cmQ
 by_cases h:x<y
 ·rw [qm h]; exact ⟨λ h3=>absurd h3 zd,λ h3=>absurd h (by grind)⟩
 ·rw [qj h]
  by_cases h2:y<x
  ·rw [qm h2]; exact ⟨λ h3=>absurd h3 zd,λ h3=>absurd h2 (by grind)⟩
  ·rw [qj h2]; exact ⟨λ _=>by grind,λ _=>rfl⟩
theorem cmp1_v {x y:Int}:(cmp1 x y = -1∧x<y)∨(cmp1 x y=0∧x=y)∨(cmp1 x y=1∧y<x):=by
 unfold cmp1
 by_cases h:x<y
 ·rw [qm h]; exact .inl ⟨rfl,h⟩
 ·rw [qj h]
  by_cases h2:x>y
  ·rw [qm h2]; exact .inr (.inr ⟨rfl,h2⟩)
  ·rw [qj h2]; exact .inr (.inl ⟨rfl,by omega⟩)
theorem cmpL_eq:∀ {l m:List Int},cmpL l m=0↔l=m
 | [],[]=>⟨λ _=>rfl,λ _=>rfl⟩
 | [],_::_=>⟨λ h=>absurd (show (-1:Int)=0 from h) zd,λ h=>by cases h⟩
 | _::_,[]=>⟨λ h=>absurd (show (1:Int)=0 from h) zd,λ h=>by cases h⟩
 | x::l,y::m=>by
  have h1:=cmp1_v (x:=x) (y:=y)
  unfold cmpL
  by_cases h:cmp1 x y=0
  ·rw [qm h,cmpL_eq (l:=l) (m:=m)]
   have:x=y:=by omega
   subst this
   exact ⟨λ h=>by rw [h],λ h=>by injection h⟩
  ·rw [qj h]
   exact ⟨λ h3=>absurd h3 h,λ h3=>by injection h3 with h3; omega⟩
theorem gg:∀ {l m k:List Int},cmpL l m<0→cmpL m k<0→cmpL l k<0
 | [],[],_,h,_=>absurd (show (0:Int)<0 from h) zd
 | [],_::_,[],_,h=>absurd (show (1:Int)<0 from h) zd
 | [],_::_,_::_,_,_=>show (-1:Int)<0 by decide
 | _::_,[],_,h,_=>absurd (show (1:Int)<0 from h) zd
 | _::_,_::_,[],_,h=>absurd (show (1:Int)<0 from h) zd
 | x::l,y::m,z::k,h,h'=>by
  have h1:=cmp1_v (x:=x) (y:=y)
  have h2:=cmp1_v (x:=y) (y:=z)
  have h3:=cmp1_v (x:=x) (y:=z)
  unfold cmpL at h h' ⊢
  by_cases e1:cmp1 x y=0
  ·rw [qm e1] at h
   by_cases e2:cmp1 y z=0
   ·rw [qm e2] at h'
    rw [qm zo]
    exact gg h h'
   ·rw [qj e2] at h'
    rw [qj zo]
    omega
  ·rw [qj e1] at h
   by_cases e2:cmp1 y z=0
   ·rw [qj zo]
    omega
   ·rw [qj e2] at h'
    rw [qj zo]
    omega
def LtW (x y:WyQ):Prop:=x.aw<y.aw∨(x.aw=y.aw∧(x.c<y.c∨(x.c=y.c∧cmpL x.l y.l<0)))
theorem bet_lt {x y:WyQ}:betF x y=true↔LtW x y:=by
 unfold betF LtW
 by_cases h:cmQ x.aw y.aw=0
 ·rw [qj (by rw [h]; decide)]
  have e:=cmq_eq.1 h
  have hn:¬ x.aw<y.aw:=by rw [e]; grind
  by_cases h2:x.c=y.c
  ·rw [qj (by rw [h2]; simp),qu]
   have hc:¬ x.c<y.c:=by omega
   exact ⟨λ h3=>.inr ⟨e,.inr ⟨h2,h3⟩⟩,λ h3=>by
    rcases h3 with h3 | ⟨_,h3 | ⟨_,h3⟩⟩
    ·exact absurd h3 hn
    ·exact absurd h3 hc
    ·exact h3⟩
  ·rw [qm (by simpa using h2),qu]
   exact ⟨λ h3=>.inr ⟨e,.inl h3⟩,λ h3=>by
    rcases h3 with h3 | ⟨_,h3 | ⟨h3,_⟩⟩
    ·exact absurd h3 hn
    ·exact h3
    ·exact absurd h3 h2⟩
 ·rw [qm (by simpa using h),qu,cmq_lt]
  exact ⟨λ h3=>.inl h3,λ h3=>by
   rcases h3 with h3 | ⟨h3,_⟩
   ·exact h3
   ·exact absurd (cmq_eq.2 h3) h⟩
theorem lt_irr {x:WyQ}:¬ LtW x x:=by
 rintro (h | ⟨_,h | ⟨_,h⟩⟩)
 ·grind
 ·omega
 ·rw [cmpL_eq.2 rfl] at h; omega
theorem lt_trans {x y z:WyQ}(h:LtW x y)(h':LtW y z):LtW x z:=by
 rcases h with h | ⟨e,h⟩
 ·rcases h' with h' | ⟨e',_⟩
  ·exact .inl (by grind)
  ·exact .inl (by grind)
 ·rcases h' with h' | ⟨e',h'⟩
  ·exact .inl (by grind)
  ·refine .inr ⟨by grind,?_⟩
   rcases h with h | ⟨e1,h⟩
   ·rcases h' with h' | ⟨e2,h'⟩ <;> exact .inl zo
   ·rcases h' with h' | ⟨e2,h'⟩
    ·exact .inl zo
    ·exact .inr ⟨by omega,gg h h'⟩
theorem bet_no {x:WyQ}:betF x x=false:=zD.2 λ h=>lt_irr (bet_lt.1 h)
theorem bo_t26 {c:Bool}(h:c=true):Wk (Bo c) (Bo true):=by subst h; exact ax
theorem bt_ok {t:RTk}{x y:List Int}(h:(btF t x y).2=0):ckF t=0∧whF t x=true∧whF t y=true∧btF t x y=(betF (wayW t (natL x)) (wayW t (natL y)),0):=by
 unfold btF at h ⊢
 by_cases h1:(ckF t != 0)=true
 ·rw [qm h1] at h
  have h2:ckF t≠0:=by simpa using h1
  exact absurd h h2
 ·rw [qj h1] at h ⊢
  by_cases h2:(whF t x&&whF t y)=true
  ·rw [qm h2]
   rw [qi] at h2
   exact ⟨by simpa using h1,h2.1,h2.2,rfl⟩
  ·rw [qj h2] at h
   exact absurd h zd
theorem bt_at {t:RTk}{x y:List Int}(h:ckF t=0)(hx:whF t x=true)(hy:whF t y=true):btF t x y=(betF (wayW t (natL x)) (wayW t (natL y)),0):=by
 rw [btF,qj (by rw [h]; decide),qm (by rw [hx,hy]; rfl)]
theorem wh_list {t:RTk}{l:List Int}(hc:ckF t=0)(h:whF t l=true):l=(natL l).map (λ (k:Nat)=>(k:Int))∧(natL l).length=t.sp.length-1∧∀ x∈natL l,x<t.ps.length:=by
 obtain ⟨h1,h2,_⟩:=hd_b (dr hc).1
 have:=wh_nat (nn:=t.sp.length-1) h zo zo
 exact this
def pwX (t:RTk)(x:List Int):RF × Bool:=pwF (bnF t x).1 (bnF t x).2
theorem pw_val {t:RTk}{x:List Int}(h:(pwX t x).2=true):ckF t=0∧whF t x=true∧longQ (powW t (natL x))=false∧(pwX t x).1=rfOf (powW t (natL x)):=by
 unfold pwX pwF at h ⊢
 by_cases h1:((bnF t x).2 != 0)=true
 ·rw [qm h1] at h; exact absurd h zd
 ·rw [qj h1] at h ⊢
  have hb:bnF t x=(benW t (natL x),0)∧ckF t=0∧whF t x=true:=by
   unfold bnF at h1 ⊢
   by_cases h2:(ckF t != 0)=true
   ·rw [qm h2] at h1; exact absurd h2 h1
   ·rw [qj h2] at h1 ⊢
    by_cases h3:(!whF t x)=true
    ·rw [qm h3] at h1; exact absurd rfl h1
    ·rw [qj h3]; exact ⟨rfl,by simpa using h2,by simpa using h3⟩
  rw [hb.1] at h ⊢
  by_cases h2:((benF (benW t (natL x))).2 != 0)=true
  ·rw [qm h2] at h; exact absurd h zd
  ·rw [qj h2] at h ⊢
   have h3:(benF (benW t (natL x))).1=rmOf (prodQ (benW t (natL x))):=by
    have h4:(benF (benW t (natL x))).2=0:=by simpa using h2
    unfold benF at h4 ⊢
    by_cases h5:chF (benW t (natL x))=0
    ·rw [qm h5] at h4 ⊢
     unfold asM at h4 ⊢
     rw [qm rfl] at h4 ⊢
     by_cases h6:([(prodQ (benW t (natL x))).a,(prodQ (benW t (natL x))).b,(prodQ (benW t (natL x))).c,(prodQ (benW t (natL x))).d].any longQ)=true
     ·rw [qm h6] at h4; exact absurd h4 zd
     ·rw [qj h6]
    ·rw [qj h5] at h4; exact absurd h4 h5
   rw [h3] at h ⊢
   unfold powF at h ⊢
   by_cases h5:okM (rmOf (prodQ (benW t (natL x))))=true
   ·rw [qm h5] at h ⊢
    rw [toM_of] at h ⊢
    show _∧_∧longQ (-(prodQ (benW t (natL x))).c)=false∧(ansF (-(prodQ (benW t (natL x))).c)).1=rfOf (-(prodQ (benW t (natL x))).c)
    unfold ansF at h ⊢
    cases hl:longQ (-(prodQ (benW t (natL x))).c) with
    | true=>rw [hl] at h; simp at h
    | false=>exact ⟨hb.2.1,hb.2.2,rfl,rfl⟩
   ·rw [qj h5] at h; exact absurd h zd
theorem exW_sur {p:Nat}{ah:List Nat}:∀ (f i:Nat) (l:List Nat),l.length=f→(∀ x∈l,x<p)→(∀ k,i+k<ah.length→l.getD k 0=ah.getD (i+k) 0)→i+f≥ah.length→∃ r,r<cntW p ah.length f i∧exW p ah f i r=l
 | 0,i,l,hl,_,_,_=>⟨0,jb,by rw [xr hl]; rfl⟩
 | f+1,i,[],hl,_,_,_=>absurd hl (by simp)
 | f+1,i,x::l,hl,hp,ha,hi=>by
  have hx:x<p:=hp x zH
  obtain ⟨r,h1,h2⟩:=exW_sur (p:=p) (ah:=ah) f (i+1) l (by simpa using hl) (λ y hy=>hp y (zc _ hy)) (λ k hk=>by
   have:=ha (k+1) zo
   rw [show i+1+k=i+(k+1) by omega,← this]
   simp [List.getD]) zo
  by_cases h:i<ah.length
  ·refine ⟨r,by rw [i4 h]; exact h1,?_⟩
   rw [exW_ah h,h2]
   have:=ha 0 zo
   have h3:x=ah[i]:=by
    have e1:(x::l).getD 0 0=x:=rfl
    have e2:ah.getD (i+0) 0=ah[i]:=by simp [List.getD,h]
    rw [← e1,this,e2]
   rw [h3]
  ·refine ⟨x*cntW p ah.length f (i+1)+r,?_,by rw [exW_at h h1,h2]⟩
   rw [kA h]
   have:x*cntW p ah.length f (i+1)+cntW p ah.length f (i+1)≤p*cntW p ah.length f (i+1):=by
    rw [← xz]
    exact qT _ hx
   omega
theorem bsW_min (f:Nat→WyQ):∀ k i,i<k→¬ LtW (f i) (bsW f k)
 | 0,_,h=>absurd h (j5 _)
 | k+1,i,hi=>by
  unfold bsW
  by_cases h:((((k:Nat):Int)==0) || betF (f k) (bsW f k))=true
  ·rw [qm h]
   by_cases e:i=k
   ·subst e; exact lt_irr
   ·intro h2
    have hk:k≠0:=by omega
    rw [zf] at h
    rcases h with h | h
    ·exact hk (by simpa using h)
    ·exact bsW_min f k i zo (lt_trans h2 (bet_lt.1 h))
  ·rw [qj h]
   by_cases e:i=k
   ·subst e
    intro h2
    rw [zf] at h
    exact h (.inr (bet_lt.2 h2))
   ·exact bsW_min f k i zo
theorem nat_cast (l:List Nat):natL (l.map λ (k:Nat)=>(k:Int))=l:=by
 unfold natL
 rw [z0]
 exact (xy λ x _=>rfl).trans (jc l)
theorem wh_mk {t:RTk}{l:List Nat}(hc:ckF t=0)(h1:l.length=t.sp.length-1)(h2:∀ x∈l,x<t.ps.length):whF t (l.map λ (k:Nat)=>(k:Int))=true:=by
 obtain ⟨a1,a2,_⟩:=hd_b (dr hc).1
 have hs:=slo_e a1 a2
 unfold whF pkF
 rw [hs,qc,h1]
 simp only [qi,zZ,qu,qv]
 refine ⟨trivial,Int.le_refl _,?_⟩
 rw [xj]
 intro x hx
 obtain ⟨y,hy,rfl⟩:=qq.1 hx
 have:=h2 y hy
 unfold pkQ
 simp only [zf,qu,not_or]
 omega
theorem best_ok {t:RTk}(h:(bestF t).2=0):ckF t=0∧∃ u:List Nat,u.length=t.sp.length-1∧(∀ x∈u,x<t.ps.length)∧longQ (powW t u)=false∧bestF t=(⟨u.map λ (k:Nat)=>(k:Int),rfOf (powW t u),cosW t u⟩,0)∧∀ l:List Nat,l.length=t.sp.length-1→(∀ x∈l,x<t.ps.length)→¬ LtW (wayW t l) (wayW t u):=by
 unfold bestF at h
 by_cases h1:(ckF t != 0)=true
 ·rw [qm h1] at h
  exact absurd h (by simpa using h1)
 ·rw [qj h1] at h
  have hc:ckF t=0:=by simpa using h1
  by_cases h2:longQ (bstN t).pw=true
  ·rw [qm h2] at h; exact absurd h zd
  ·obtain ⟨a1,a2,a3,_⟩:=hd_b (dr hc).1
   have hM:0<cntW t.ps.length 0 (t.sp.length-1) 0:=de zo _ _
   obtain ⟨j,hj,e⟩:=bsW_at (f:=λ k=>wayW t (exW t.ps.length [] (t.sp.length-1) 0 k)) (k:=cntW t.ps.length 0 (t.sp.length-1) 0) zo
   have e':bstN t=wayW t (exW t.ps.length [] (t.sp.length-1) 0 j):=e
   refine ⟨hc,_,fG t.ps.length [] (t.sp.length-1) 0 j,exW_lt (p:=t.ps.length) (ah:=[]) zo (λ x hx=>by cases hx) _ 0 j hj,by rw [e'] at h2; exact zD.2 h2,?_,λ l hl hp h3=>?_⟩
   ·unfold bestF
    rw [qj h1,qj h2,e']; rfl
   ·obtain ⟨r,hr,er⟩:=exW_sur (p:=t.ps.length) (ah:=[]) (t.sp.length-1) 0 l hl hp (λ k hk=>absurd hk (j5 _)) (zb _)
    have h4:=bsW_min (λ k=>wayW t (exW t.ps.length [] (t.sp.length-1) 0 k)) _ r hr
    rw [show bsW (λ k=>wayW t (exW t.ps.length [] (t.sp.length-1) 0 k)) (cntW t.ps.length ([]:List Nat).length (t.sp.length-1) 0)=bstN t from rfl,e'] at h4
    refine h4 ?_
    show LtW (wayW t (exW t.ps.length [] (t.sp.length-1) 0 r)) _
    rw [er]; exact h3
theorem ck_vals (t:RTk):ckF t=0∨ckF t=1∨ckF t=10∨ckF t=4:=by
 unfold ckF
 split
 ·exact .inr (.inl G)
 ·split
  ·exact .inr (.inl G)
  ·split
   ·exact .inr (.inl G)
   ·split
    ·exact .inr (.inr (.inl G))
    ·split
     ·exact .inr (.inr (.inr G))
     ·exact .inl rfl
theorem best_err {t:RTk}(h:((bestF t).2 != 0)=true):((((bestF t).2==1) || ((bestF t).2==10)) || ((bestF t).2==4))=true:=by
 unfold bestF at h ⊢
 by_cases h1:(ckF t != 0)=true
 ·rw [qm h1]
  have h2:ckF t≠0:=by simpa using h1
  rcases ck_vals t with h3 | h3 | h3 | h3
  ·exact absurd h3 h2
  ·rw [h3]; rfl
  ·rw [h3]; rfl
  ·rw [h3]; rfl
 ·rw [qj h1] at h ⊢
  by_cases h2:longQ (bstN t).pw=true
  ·rw [qm h2]; rfl
  ·rw [qj h2] at h; exact absurd h (by simp)
theorem best_min {t:RTk}{x:List Int}{u:List Nat}(hu:∀ l:List Nat,l.length=t.sp.length-1→(∀ x∈l,x<t.ps.length)→¬ LtW (wayW t l) (wayW t u))(h:(((btF t x (u.map λ (k:Nat)=>(k:Int))).2==0)&&(btF t x (u.map λ (k:Nat)=>(k:Int))).1)=true):False:=by
 rw [qi,zZ] at h
 obtain ⟨hc,hx,_,e⟩:=bt_ok h.1
 rw [e,nat_cast] at h
 have h2:=bet_lt.1 h.2
 obtain ⟨_,l1,l2⟩:=wh_list hc hx
 exact hu _ l1 l2 h2
theorem bt_self {t:RTk}{u:List Nat}(hc:ckF t=0)(h1:u.length=t.sp.length-1)(h2:∀ x∈u,x<t.ps.length):btF t (u.map λ (k:Nat)=>(k:Int)) (u.map λ (k:Nat)=>(k:Int))=(false,0):=by
 rw [bt_at hc (wh_mk hc h1 h2) (wh_mk hc h1 h2),bet_no]
theorem pw_self {t:RTk}{u:List Nat}:(!(pwX t (u.map λ (k:Nat)=>(k:Int))).2 || decide ((pwX t (u.map λ (k:Nat)=>(k:Int))).1=rfOf (powW t u)))=true:=by
 cases h:(pwX t (u.map λ (k:Nat)=>(k:Int))).2 with
 | false=>rfl
 | true =>
  have:=(pw_val h).2.2.2
  rw [nat_cast] at this
  rw [this]; simp
theorem cos_take {t:RTk}{u:List Nat}{j:Nat}(hj:j<u.length)(hp:u[j]<t.ps.length):cosW t (u.take (j+1))=cosW t (u.take j)+t.ps[u[j]].c:=by
 rw [qo hj,cos_snoc,show t.ps.getD u[j] ⟨⟨#[]⟩,⟨0,rf0,rf0⟩,0⟩=t.ps[u[j]] from by simp [List.getD,hp]]
theorem um_at {u:List Nat}{j:Nat}(h:j<u.length):((u.map λ (k:Nat)=>(k:Int)).map InA)[j]?=some (InA ((u[j]:Nat):Int)):=by simp [h]
end Go.Proofs.YtlakjmncfooodaaGreat
