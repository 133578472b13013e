import Derived.Test.YtedfcalhhldijaaGreatDoorRwAq
set_option linter.all false
set_option maxRecDepth 100000
namespace Go.Proofs.YtedfcalhhldijaaGreatDoor
open Go Go.RowKit
variable {w:World}{B:Nat}{a:Act}{v:Value}{T:TypeId}{w0:Bs}{Γ:List (Nat × VA)}{Λ:List Lc}{ps:String}{af:Array Edge}{vr:Value}{H:Hd}{cs:List Value}{w':World}{P:Program}{D:List TypeId}
def elCostF (x:RE):Int:=IntKind.i64.wrap (fracCostF x.p+fracCostF x.q)
def frsF (n:Int):List RF→Int
 | []=>n
 | x::xs=>if decide (n≤1048576) then frsF (IntKind.i64.wrap (n+fracCostF x)) xs else n
theorem frs_go {n:Int}{l:List RF}{j:Nat}(h:j<l.length)(h2:n≤1048576):frsF n (l.drop j)=frsF (IntKind.i64.wrap (n+fracCostF l[j])) (l.drop (j+1)):=by
 rw [qG h,frsF,qz (qC h2)]
theorem Gx {n:Int}{l:List RF}{j:Nat}(h:¬ (j<l.length∧n≤1048576)):frsF n (l.drop j)=n:=by
 by_cases hj:j<l.length
 ·rw [qG hj,frsF,qw (by simpa using λ hh=>h ⟨hj,hh⟩)]
 ·rw [q9 zo]; rfl
def ptc (n:Int)(x:RPt):Int:=IntKind.i64.wrap (IntKind.i64.wrap (n+(x.nm.size:Nat))+elCostF x.e)
def ptsF (n:Int):List RPt→Int
 | []=>n
 | x::xs=>if decide (n≤1048576) then ptsF (ptc n x) xs else n
theorem pts_go {n:Int}{l:List RPt}{j:Nat}(h:j<l.length)(h2:n≤1048576):ptsF n (l.drop j)=ptsF (ptc n l[j]) (l.drop (j+1)):=by
 rw [qG h,ptsF,qz (qC h2)]
theorem Fo {n:Int}{l:List RPt}{j:Nat}(h:¬ (j<l.length∧n≤1048576)):ptsF n (l.drop j)=n:=by
 by_cases hj:j<l.length
 ·rw [qG hj,ptsF,qw (by simpa using λ hh=>h ⟨hj,hh⟩)]
 ·rw [q9 zo]; rfl
def tkcF (t:RTk):Int:=IntKind.i64.wrap (IntKind.i64.wrap (frsF (t.sp.length:Nat) t.sp+ptsF (t.ps.length:Nat) t.ps)+fracCostF t.tg)
theorem Cc (x:RE):Cn Tryz.prog 93 [(REA x).va] (In (elCostF x)):=by
 refine Cn.intro Tryz.func93 G zk nq (λ B w0 a U=>?_)
 have U:=zn [(0,(REA x).va)] [] U
 refine qb<|zg [] [⟨1,98,ptrH,some 0,_,none⟩] [.alc 0,.v 2 _] [.o 1] U (zW 0 G (zv G (ac ab) o0)) (zz [(2,_)] [O 1 98 _] λ a w U=>?_)
 refine zt<|zgd [[],[0],[0,1],[],[3],[0,1,2,3,4],[0,1,2,3,4,5],[0,1,2,3,4,5,6]] [none] [] [.adr 3 1 (.some 1) True,.v 4 _,.v 5 _,.adr 6 1 (.some 5) True,.v 7 _,.v 8 _,.v 9 _,.v 2 _] [.o 7] ae U (zO 0 G bR (zL 0 0 1 G ax (zQ G (eZ _) (.o (vq 1 G)) (zO 0 G c9 (zL 3 0 2 G ax (zQ G (eZ _) (.o (vq 4 G)) (zv G (aN (vq 2 G) (vq 5 G) (G)) (zA 6 G o0)))))))) zk zk zk zk (zz [(2,_)] [O 1 98 _] λ a w U=>?_)
 refine aa<|qg<|ao ?_ (an G U (zm 0 G))
 exact aL
theorem y7 (xs:List RF):Cn Tryz.prog 16 [(SlA 28 [U32] (xs.map RFA)).va] (In (frsF (xs.length:Nat) xs)):=by
 refine Cn.intro Tryz.func16 G zk nq (λ B w0 a U=>?_)
 have U:=zn [(0,(SlA 28 [U32] (xs.map RFA)).va)] [] U
 have hl:=dV (U.vals (0,(SlA 28 [U32] (xs.map RFA)).va) (zm 0 rfl))
 refine qb<|zh [.v 2 _] [.g 0,.o 0] U (zv G (ac ab) o0) (zz [(0,_),(2,_)] [] λ a w U=>?_)
 refine zt<|zh [.v 5 _,.v 6 _,.v 3 _] [.g 0,.g 1,.o 2] U (zM 0 G (zv G (bg Tryz.underlying22 (vq 0 G)) (zA 1 G o0))) (zz [(0,_),(2,_),(3,_)] [] λ a w U=>?_)
 refine zt<|qb<|zh [.v 4 _] [.g 0,.g 1,.g 2,.o 0] U (zv G (ac ab) o0) (zz [(0,_),(2,_),(3,_),(4,_)] [] λ a w U=>?_)
 refine aa<|qj ?_
 have U:=St.sel U [0,2,3]
 refine wp_loop_ghost (λ n a w=>∃ (j:Nat) (m:Int),(n+j=xs.length∧frsF (xs.length:Nat) xs=frsF m (xs.drop j))∧St B w0 25 [(0,(SlA 28 [U32] (xs.map RFA)).va),(3,In m),(4,In (j:Nat))] [] a w) (xs.length) ?_ ?_
 ·exact ⟨0,(xs.length:Nat),⟨by omega,rfl⟩,by rw [qc] at U; exact U⟩
 intro n a w hI
 obtain ⟨j,m,⟨hn,hm⟩,U⟩:=hI
 refine qb<|qb<|zh [.v 7 _,.v 8 _,.v 9 _,.v 10 _,.v 11 _,.t 12 _,.t 13 _,.v 14 _] [.g 0,.g 1,.g 2,.o 7] U (zM 2 G (zM 0 G (zv G (bg Tryz.underlying22 (vq 1 G)) (zv G (aS (vq 0 G) (vq 2 G)) (zv G (ai (vq 3 G)) (zB 4 G (λ hg=>ai (gq 1 G)) (zB 4 G (λ hg=>gz (ak (vq 5 G) hg) ab) (zv G (bA (vq 4 G) (vq 6 G)) o0)))))))) (zz [(0,_),(3,_),(4,_),(14,_)] [] λ a w U=>?_)
 refine aa<|aj U (zm 3 G) (λ hb0=>?_) (λ hb0=>?_)
 ·rw [ql,qH,qH,qc] at hb0
  have hj:j<xs.length:=by omega
  have hm0:=hb0.2
  refine qh<|zt<|qj<|zh [.v 17 _,.v 18 _,.v 19 _,.v 20 _,.v 21 _,.v 22 _,.v 23 _,.v 3 _] [.g 0,.g 2,.o 7] U (zM 1 G (zM 0 G (zM 2 G (zv G (bH cO (bW λ _=>rfl) (vq 1 G) (vq 2 G) (bz hj)) (zv G (au (vq 3 G) ax) (zQ G (eZ _) (.o (vq 4 G)) (zv G (aN (vq 0 G) (vq 5 G) (G)) (zA 6 G o0)))))))) (zz [(0,_),(4,_),(3,_)] [] λ a w U=>?_)
  refine ap ?_
  refine aa<|zh [.v 15 _,.v 16 _,.v 4 _] [.g 0,.g 2,.o 2] U (zM 1 G (zv G (aN (vq 0 G) ab (A9 hj hl)) (zA 1 G o0))) (zz [(0,_),(3,_),(4,_)] [] λ a w U=>?_)
  refine aa ?_
  have U:=St.sel U [0,1,2]
  exact ⟨n-1,by omega,j+1,_,⟨by omega,hm.trans (frs_go hj hm0)⟩,U⟩
 ·have hnj:¬ (j<xs.length∧m≤1048576):=by rintro ⟨h1,h2⟩; rw [qc,qC (by omega:(j:Int)<(xs.length:Int)),qC h2] at hb0; exact absurd hb0 zd
  refine qK<|am<|am<|aB<|zt<|zh [.v 24 _,.v 2 _] [.o 1] U (zM 1 G (zA 0 G o0)) (zz [(2,_)] [] λ a w U=>?_)
  refine aa<|qg<|ao ?_ (an G U (zm 0 G))
  exact aZ (qm In (hm.trans (Gx hnj)).symm)
theorem vL (xs:List RPt):Cn Tryz.prog 17 [(SlA 100 [U32] (xs.map PtA)).va] (In (ptsF (xs.length:Nat) xs)):=by
 refine Cn.intro Tryz.func17 G zk nq (λ B w0 a U=>?_)
 have U:=zn [(0,(SlA 100 [U32] (xs.map PtA)).va)] [] U
 have hl:=dV (U.vals (0,(SlA 100 [U32] (xs.map PtA)).va) (zm 0 rfl))
 refine qb<|zh [.v 2 _] [.g 0,.o 0] U (zv G (ac ab) o0) (zz [(0,_),(2,_)] [] λ a w U=>?_)
 refine zt<|zh [.v 5 _,.v 6 _,.v 3 _] [.g 0,.g 1,.o 2] U (zM 0 G (zv G (bg Tryz.underlying23 (vq 0 G)) (zA 1 G o0))) (zz [(0,_),(2,_),(3,_)] [] λ a w U=>?_)
 refine zt<|qb<|zh [.v 4 _] [.g 0,.g 1,.g 2,.o 0] U (zv G (ac ab) o0) (zz [(0,_),(2,_),(3,_),(4,_)] [] λ a w U=>?_)
 refine aa<|qj ?_
 have U:=St.sel U [0,2,3]
 refine wp_loop_ghost (λ n a w=>∃ (j:Nat) (m:Int),(n+j=xs.length∧ptsF (xs.length:Nat) xs=ptsF m (xs.drop j))∧St B w0 33 [(0,(SlA 100 [U32] (xs.map PtA)).va),(3,In m),(4,In (j:Nat))] [] a w) (xs.length) ?_ ?_
 ·exact ⟨0,(xs.length:Nat),⟨by omega,rfl⟩,by rw [qc] at U; exact U⟩
 intro n a w hI
 obtain ⟨j,m,⟨hn,hm⟩,U⟩:=hI
 refine qb<|qb<|zh [.v 7 _,.v 8 _,.v 9 _,.v 10 _,.v 11 _,.t 12 _,.t 13 _,.v 14 _] [.g 0,.g 1,.g 2,.o 7] U (zM 2 G (zM 0 G (zv G (bg Tryz.underlying23 (vq 1 G)) (zv G (aS (vq 0 G) (vq 2 G)) (zv G (ai (vq 3 G)) (zB 4 G (λ hg=>ai (gq 1 G)) (zB 4 G (λ hg=>gz (ak (vq 5 G) hg) ab) (zv G (bA (vq 4 G) (vq 6 G)) o0)))))))) (zz [(0,_),(3,_),(4,_),(14,_)] [] λ a w U=>?_)
 refine aa<|aj U (zm 3 G) (λ hb0=>?_) (λ hb0=>?_)
 ·rw [ql,qH,qH,qc] at hb0
  have hj:j<xs.length:=by omega
  have hm0:=hb0.2
  refine qh<|zt<|qj<|zgd [[],[],[],[1,2],[1,2,3],[1,2,3,4],[1,2,3,4,5],[0,1,2,3,4,5,6],[],[],[8,9],[8,9,10],[8,9,10,11],[8,9,10,11,12],[0,1,2,3,4,5,6,7,8,9,10,11,12,13],[0,1,2,3,4,5,6,7,8,9,10,11,12,13,14]] [] [] [.v 17 _,.v 18 _,.v 19 _,.v 20 _,.v 21 _,.v 22 _,.v 23 _,.v 24 _,.v 25 _,.v 26 _,.v 27 _,.v 28 _,.v 29 _,.v 30 _,.v 31 _,.v 3 _] [.g 0,.g 2,.o 15] ae U (zM 1 G (zM 0 G (zM 2 G (zv G (bH ey (bW λ _=>rfl) (vq 1 G) (vq 2 G) (bz hj)) (zv G (bL (vq 3 G) cM (Sub.part 0 G G)) (zv G (au (vq 4 G) ty_9) (zv G (eT zk (has_wk' (vq 5 G) tH)) (zv G (aN (vq 0 G) (vq 6 G) (G)) (zM 0 G (zM 2 G (zv G (bH ey (bW λ _=>rfl) (vq 8 G) (vq 9 G) (bz hj)) (zv G (bL (vq 10 G) da (Sub.part 1 G G)) (zv G (au (vq 11 G) fh) (zQ G (Cc _) (.o (vq 12 G)) (zv G (aN (vq 7 G) (vq 13 G) (G)) (zA 14 G o0)))))))))))))))) zk zk zk zk (zz [(0,_),(4,_),(3,_)] [] λ a w U=>?_)
  refine ap ?_
  refine aa<|zh [.v 15 _,.v 16 _,.v 4 _] [.g 0,.g 2,.o 2] U (zM 1 G (zv G (aN (vq 0 G) ab (A9 hj hl)) (zA 1 G o0))) (zz [(0,_),(3,_),(4,_)] [] λ a w U=>?_)
  refine aa ?_
  have U:=St.sel U [0,1,2]
  exact ⟨n-1,by omega,j+1,_,⟨by omega,hm.trans (pts_go hj hm0)⟩,U⟩
 ·have hnj:¬ (j<xs.length∧m≤1048576):=by rintro ⟨h1,h2⟩; rw [qc,qC (by omega:(j:Int)<(xs.length:Int)),qC h2] at hb0; exact absurd hb0 zd
  refine qK<|am<|am<|aB<|zt<|zh [.v 32 _,.v 2 _] [.o 1] U (zM 1 G (zA 0 G o0)) (zz [(2,_)] [] λ a w U=>?_)
  refine aa<|qg<|ao ?_ (an G U (zm 0 G))
  exact aZ (qm In (hm.trans (Fo hnj)).symm)
theorem Aj (t:RTk):Cn Tryz.prog 5 [(TkA t).va] (In (tkcF t)):=by
 refine Cn.intro Tryz.func5 G zk nq (λ B w0 a U=>?_)
 have U:=zn [(0,(TkA t).va)] [] U
 refine qb<|zg [] [⟨1,30,ptrH,some 0,_,none⟩] [.alc 0,.v 2 _] [.o 1] U (zW 0 G (zv G (ac ab) o0)) (zz [(2,_)] [O 1 30 _] λ a w U=>?_)
 refine zt<|zgd [[],[0],[0,1],[],[3],[0,1,2,3,4],[0,1,2,3,4,5],[],[7],[0,1,2,3,4,5,7,8],[0,1,2,3,4,5,6,7,8,9],[0,1,2,3,4,5,6,7,8,9,10]] [none] [] [.adr 3 1 (.some 0) True,.v 4 _,.v 5 _,.adr 6 1 (.some 1) True,.v 7 _,.v 8 _,.v 9 _,.adr 10 1 (.some 2) True,.v 11 _,.v 12 _,.v 13 _,.v 2 _] [.o 11] ae U (zO 0 G bU (zL 0 0 0 G ew (zQ G (y7 _) (.o (vq 1 G)) (zO 0 G bD (zL 3 0 1 G dn (zQ G (vL _) (.o (vq 4 G)) (zv G (aN (vq 2 G) (vq 5 G) (G)) (zO 0 G dH (zL 7 0 2 G ax (zQ G (eZ _) (.o (vq 8 G)) (zv G (aN (vq 6 G) (vq 9 G) (G)) (zA 10 G o0)))))))))))) zk zk zk zk (zz [(2,_)] [O 1 30 _] λ a w U=>?_)
 refine aa<|qg<|ao ?_ (an G U (zm 0 G))
 exact aL
theorem sn_no {xs ys:List Int}{j:Nat}(hx:j<xs.length)(hy:j<ys.length)(h:xs[j]≠ys[j]):decide (xs=ys)=false:=by
 simp only [qk]
 rintro rfl
 exact h rfl
theorem sn_nx {xs ys:List Int}{j:Nat}(hx:j<xs.length)(hy:j<ys.length)(hp:xs.take j=ys.take j)(h:xs[j]=ys[j]):xs.take (j+1)=ys.take (j+1):=by
 rw [qu hx,qu hy,hp,h]
def G2A (x:RF × RF):As:=cat [RFA x.1,RFA x.2]
theorem EY {x:RF}:WkA (RFN x) (RFA x):=⟨rfl,rfl,λ B cs w h=>(bF (.cons (mU _) (.cons (mU _) .nil)):FreeA (RFN x) (RFA x)).2.2 B B cs w (qi _) h⟩
theorem g2d_a {x:RF × RF}:WkA (G2D x) (G2A x):=dis_wk.trans (bo (.cons EY (.cons EY .nil)))
def ChA (x:RCh):As:=cat [SlA 3 [] (x.l.map InA),RFA x.pw,InA x.c]
theorem chd_a {x:RCh}:WkA (ChD x) (ChA x):=bo (.cons slW_A (.cons (dis_wk.trans EY) (.cons (.refl _) .nil)))
theorem best_p (t:RTk):Cn Tryz.prog 89 [(TkA t).va] (Tu [(ChA (bestF t).1).va,In (bestF t).2]):=(best_c t).wkp (tu2w chd_a.va aL)
theorem I6 (t:RTk)(xs:List Int):Cn Tryz.prog 8 [(TkA t).va,(SlA 3 [] (xs.map InA)).va] (Tu [In (rowF t xs).1,(G2A (rowF t xs).2.1).va,In (rowF t xs).2.2]):=(D6 t xs).wkp (tu3w aL g2d_a.va aL)
theorem gQ:Str Tryz.prog 37 [RFA rf0,RFA rf0] :=
 Str.of (z:=.agg #[.bool false,.slice none 0 0,.bool false,.slice none 0 0,.bool false,.slice none 0 0,.bool false,.slice none 0 0]) zk Tryz.underlying37 zk λ B w=>⟨[[.bool false,.slice none 0 0,.bool false,.slice none 0 0],[.bool false,.slice none 0 0,.bool false,.slice none 0 0]],rfl,.cons (dX B w) (.cons (dX B w) .nil)⟩
theorem EB:Str Tryz.prog 91 [EqA (.slice none 0 0),RFA rf0,NumA .i64 0] :=
 Str.of (z:=.agg #[.slice none 0 0,.bool false,.slice none 0 0,.bool false,.slice none 0 0,.int .i64 0]) zk Tryz.underlying91 zk λ B w=>⟨[[.slice none 0 0],[.bool false,.slice none 0 0,.bool false,.slice none 0 0],[.int .i64 0]],rfl,.cons ⟨rfl,rfl⟩ (.cons (dX B w) (.cons rfl .nil))⟩
theorem uz (xs ys:List Int):Cn Tryz.prog 92 [(SlA 3 [] (xs.map InA)).va,(SlA 3 [] (ys.map InA)).va] (Bo (decide (xs=ys))):=by
 refine Cn.intro Tryz.func92 G zk nq (λ B w0 a U=>?_)
 have U:=zn [(0,(SlA 3 [] (xs.map InA)).va),(1,(SlA 3 [] (ys.map InA)).va)] [] U
 have hl:=dV (U.vals (0,(SlA 3 [] (xs.map InA)).va) (zm 0 rfl))
 refine qb<|zh [.v 4 _] [.g 0,.g 1,.o 0] U (zv G (ac aJ) o0) (zz [(0,_),(1,_),(4,_)] [] λ a w U=>?_)
 refine zt<|qb<|zh [.v 6 _,.v 7 _,.v 8 _,.v 9 _,.v 10 _] [.g 0,.g 1,.g 2,.o 4] U (zM 0 G (zv G (bg Tryz.underlying31 (vq 0 G)) (zM 1 G (zv G (bg Tryz.underlying31 (vq 2 G)) (zv G (bX (vq 1 G) (vq 3 G)) o0))))) (zz [(0,_),(1,_),(4,_),(10,_)] [] λ a w U=>?_)
 refine aa<|aj U (zm 3 G) (λ hb0=>?_) (λ hb0=>?_)
 ·have hne:decide (xs=ys)=false:=by
   simp only [qc] at hb0
   simp only [qk]
   rintro rfl
   simp at hb0
  refine qb<|zh [.v 4 _] [.g 0,.g 1,.o 0] U (zv G (ac aJ) o0) (zz [(0,_),(1,_),(4,_)] [] λ a w U=>?_)
  refine aa<|qg<|al ?_
  refine ao ?_ (an G U (zm 2 G))
  exact aZ (qm Bo hne.symm)
 ·have hee:xs.length=ys.length:=by
   simp only [qc] at hb0; have:(xs.length:Int)=(ys.length:Int):=by simpa using hb0
   omega
  refine qh<|zt<|qb<|zh [.v 5 _] [.g 0,.g 1,.g 2,.o 0] U (zv G (ac ab) o0) (zz [(0,_),(1,_),(4,_),(5,_)] [] λ a w U=>?_)
  refine aa<|qj ?_
  have U:=St.sel U [0,1,3]
  refine wp_loop_ghost (λ n a w=>∃ (j:Nat),(n+j=xs.length∧xs.take j=ys.take j)∧St B w0 26 [(0,(SlA 3 [] (xs.map InA)).va),(1,(SlA 3 [] (ys.map InA)).va),(5,In (j:Nat))] [] a w) (xs.length) ?_ ?_
  ·exact ⟨0,⟨by omega,rfl⟩,U⟩
  intro n a w hI
  obtain ⟨j,⟨hn,hp⟩,U⟩:=hI
  refine qb<|qb<|zh [.v 11 _,.v 12 _,.v 13 _,.v 14 _] [.g 0,.g 1,.g 2,.o 3] U (zM 2 G (zM 0 G (zv G (bg Tryz.underlying31 (vq 1 G)) (zv G (aS (vq 0 G) (vq 2 G)) o0)))) (zz [(0,_),(1,_),(5,_),(14,_)] [] λ a w U=>?_)
  refine aa<|aj U (zm 3 G) (λ hb1=>?_) (λ hb1=>?_)
  ·have hj:j<xs.length:=by rw [qc] at hb1; have:=qp hb1; omega
   have hj2:j<ys.length:=by omega
   refine qh<|zt<|qj<|qb<|zgd [[],[],[0,1],[0,1,2],[],[],[4,5],[4,5,6],[0,1,2,3,4,5,6,7]] [] [] [.v 17 _,.v 18 _,.v 19 _,.v 20 _,.v 21 _,.v 22 _,.v 23 _,.v 24 _,.v 25 _] [.g 0,.g 1,.g 2,.o 8] ae U (zM 0 G (zM 2 G (zv G (bH cP (bW λ _=>rfl) (vq 0 G) (vq 1 G) (bz hj)) (zv G (au (vq 2 G) ty_3) (zM 1 G (zM 2 G (zv G (bH cP (bW λ _=>rfl) (vq 4 G) (vq 5 G) (bz hj2)) (zv G (au (vq 6 G) ty_3) (zv G (bX (vq 3 G) (vq 7 G)) o0))))))))) zk zk zk zk (zz [(0,_),(1,_),(5,_),(25,_)] [] λ a w U=>?_)
   refine aa<|aj U (zm 3 G) (λ hb2=>?_) (λ hb2=>?_)
   ·refine qb<|zh [.v 4 _] [.g 0,.g 1,.g 2,.o 0] U (zv G (ac aJ) o0) (zz [(0,_),(1,_),(5,_),(4,_)] [] λ a w U=>?_)
    refine aa<|qg<|aE ?_
    refine al ?_
    refine al ?_
    refine aE ?_
    refine al ?_
    refine ao ?_ (an G U (zm 3 G))
    exact aZ (qm Bo (sn_no hj hj2 (by simpa using hb2)).symm)
   ·refine qh<|ap ?_
    refine aa<|zh [.v 15 _,.v 16 _,.v 5 _] [.g 0,.g 1,.o 2] U (zM 2 G (zv G (aN (vq 0 G) ab ((wi64 zo zo).trans (by omega:(_:Int)=((j+1:Nat):Int)))) (zA 1 G o0))) (zz [(0,_),(1,_),(5,_)] [] λ a w U=>?_)
    refine aa ?_
    have U:=St.sel U [0,1,2]
    exact ⟨n-1,by omega,j+1,⟨by omega,sn_nx hj hj2 hp (by simpa using hb2)⟩,U⟩
  ·have hj:j=xs.length:=by rw [qc] at hb1; have:=qr hb1; omega
   refine qK<|am<|am<|aB<|zt<|zh [.v 4 _] [.o 0] U (zv G (ac aJ) o0) (zz [(4,_)] [] λ a w U=>?_)
   refine aa<|qg<|ao ?_ (an G U (zm 0 G))
   exact aZ (qm Bo (qC (by rw [hj,qF,hee,qF] at hp; exact hp)).symm)
theorem AJ (x y:RF × RF):Cn Tryz.prog 10 [(G2A x).va,(G2A y).va] (Bo (decide (x.1=y.1)&&decide (x.2=y.2))):=by
 refine Cn.intro Tryz.func10 G zk nq (λ B w0 a U=>?_)
 have U:=zn [(0,(G2A x).va),(1,(G2A y).va)] [] U
 refine qb<|zg [] [⟨2,37,ptrH,some 0,_,none⟩,⟨3,37,ptrH,some 1,_,none⟩] [.alc 0,.alc 1,.v 4 _] [.o 2] U (zW 0 G (zW 1 G (zv G (ac aJ) o0))) (zz [(4,_)] [O 2 37 _,O 3 37 _] λ a w U=>?_)
 refine zt<|zg [η,η] [] [.adr 5 2 (.some 0) True,.v 6 _,.adr 7 3 (.some 0) True,.v 8 _,.v 9 _,.v 10 _,.adr 11 2 (.some 4) (_=true),.t 12 _,.adr 13 3 (.some 4) (_=true),.t 14 _,.t 15 _,.v 16 _,.v 4 _] [.o 12] U (zO 0 G dG (zL 0 0 0 G ax (zO 1 G dG (zL 2 1 0 G ax (zQ G (dN _ _) (.p (vq 1 G) (vq 3 G)) (zv G (ai (vq 4 G)) (zC 5 0 G dF (zB 5 G (λ hg=>aF 6 G zk hg (lz0 0 G) (Sub.part 1 G G) ax) (zC 5 1 G dF (zB 5 G (λ hg=>aF 8 G zk hg (lz0 1 G) (Sub.part 1 G G) ax) (zB 5 G (λ hg=>be (dN _ _) (.p (ak (vq 7 G) hg) (ak (vq 9 G) hg))) (zv G (bA (vq 5 G) (vq 10 G)) (zA 11 G o0))))))))))))) (zz [(4,_)] [O 2 37 _,O 3 37 _] λ a w U=>?_)
 refine aa<|qg<|ao ?_ (an G U (zm 0 G))
 exact aL
open Go.ChangeShapes Go.WideShapes Go.ChangeAt
section
variable {H:Type} {enc:TypeId × Value→H} {w:World} {base:Nat} {spare:Nat→Bool} {held:Bool} {fuel:Nat} {cs:List Value} {x:DataW H × List MemPlace}
theorem rd_in (h:DataW.trod enc Tryz.prog w base spare held fuel 3 cs=some x):∃ y,(InA y).p w.heap.size cs w:=by
 obtain ⟨n,hn,_⟩:=DataW.trod_int Tryz.underlying3 h
 exact ⟨n,hn⟩
end
theorem AQ (t:RTk):Cn Tryz.prog 8 [(TkA t).va,EqV (.slice none 0 0)] (Tu [In (rowF t []).1,(G2A (rowF t []).2.1).va,In (rowF t []).2.2]):=(I6 t []).wk (.cons aL (.cons Dt .nil))
theorem wI:((bestF (twoT 1)).2==0&&(rowF (twoT 1) []).2.2==0&&(rowF (twoT 1) []).1==4&&decide ((rowF (twoT 1) []).2.1.1=rfOf (Rat.divInt 0 1))&&decide ((rowF (twoT 1) []).2.1.2=rfOf (Rat.divInt 1 1))&&decide ((bestF (twoT 1)).1.l=[0,1])&&(bestF (twoT 1)).1.c==8&&decide ((bestF (twoT 1)).1.pw=rfOf (Rat.divInt 1 1)))=true:=by kernel_rfl
theorem wJ  : Cn Tryz.prog 15 [] (Bo true):=by
 refine Cn.intro Tryz.func15 G zk nq (λ B w0 a U=>?_)
 have U:=zn [] [] U
 refine qb<|zh [.v 0 _] [.o 0] U (zv G (ac aJ) o0) (zz [(0,_)] [] λ a w U=>?_)
 refine zt<|zg [] [⟨1,91,ptrH,some 5,_,some (6,_)⟩] [.v 7 _,.v 8 _,.v 6 _,.v 9 _,.v 10 _,.alc 0,.sto 0,.v 2 _] [.g 0,.o 7] U (zQ G (u7 (n:=1) zd zd) (.cons ab .nil) (zQ G (best_p _) (.o (vq 0 G)) (zv G (ai (vq 1 G)) (zv G (pd (vq 2 G)) (zv G (pc (vq 2 G)) (zY G (Str.zero EB) (zS 3 G oO (zA 4 G o0)))))))) (zz [(0,_),(2,_)] [O 1 91 _] λ a w U=>?_)
 refine zt<|zg [η] [⟨4,37,ptrH,some 6,_,some (8,_)⟩] [.v 12 _,.v 13 _,.v 11 _,.v 14 _,.v 15 _,.v 16 _,.alc 1,.v 3 _,.sto 1,.v 5 _] [.g 0,.g 1,.o 7,.o 9] U (zQ G (u7 (n:=1) zd zd) (.cons ab .nil) (zQ G (AQ _) (.cons (vq 0 G) (.cons bc .nil)) (zv G (ai (vq 1 G)) (zv G (pd (vq 2 G)) (zv G (pc (vq 2 G)) (zv G (Fc (vq 2 G)) (zY G (Str.zero gQ) (zA 3 G (zS 4 G dx (zA 5 G o0)))))))))) (zz [(0,_),(2,_),(3,_),(5,_)] [O 1 91 _,O 4 37 _] λ a w U=>?_)
 refine zt<|iY (anc:=[[],[0],[0,1],[0,1,2],[0,1,2,3],[0,1,2,3,4],[0,1,2,3,4,5],[0,1,2,3,4,5,6],[0,1,2,3,4,5,6,7],[0,1,2,3,4,5,6,7,8],[0,1,2,3,4,5,6,7,8,9],[0,1,2,3,4,5,6,7,8,9,10],[0,1,2,3,4,5,6,7,8,9,10,11],[0,1,2,3,4,5,6,7,8,9,10],[0,1,2,3,4,5,6,7,8,9,10,11,12,13],[0,1,2,3,4,5,6,7,8,9,10,11,12,13,14],[0,1,2,3,4,5,6,7,8,9,10,11,12,13,14,15],[0,1,2,3,4,5,6,7,8,9,10,11,12,13,14,15,16],[0,1,2,3,4,5,6,7,8,9,10,11,12,13,14,15,16,17],[0,1,2,3,4,5,6,7,8,9,10,11,12,13,14,15,16],[0,1,2,3,4,5,6,7,8,9,10,11,12,13,14,15,16,17,18,19],[0,1,2,3,4,5,6,7,8,9,10,11,12,13,14,15,16,17,18,19,20],[0,1,2,3,4,5,6,7,8,9,10,11,12,13,14,15,16,17,18,19,20,21],[0,1,2,3,4,5,6,7,8,9,10,11,12,13,14,15,16,17,18,19,20,21,22],[0,1,2,3,4,5,6,7,8,9,10,11,12,13,14,15,16,17,18,19,20,21,22,23],[0,1,2,3,4,5,6,7,8,9,10,11,12,13,14,15,16,17,18,19,20,21,22],[0,1,2,3,4,5,6,7,8,9,10,11,12,13,14,15,16,17,18,19,20,21,22,23,24,25],[0,1,2,3,4,5,6,7,8,9,10,11,12,13,14,15,16,17,18,19,20,21,22,23,24,25,26],[0,1,2,3,4,5,6,7,8,9,10,11,12,13,14,15,16,17,18,19,20,21,22,23,24,25,26,27],[0,1,2,3,4,5,6,7,8,9,10,11,12,13,14,15,16,17,18,19,20,21,22,23,24,25,26,27,28],[0,1,2,3,4,5,6,7,8,9,10,11,12,13,14,15,16,17,18,19,20,21,22,23,24,25,26,27,28,29],[0,1,2,3,4,5,6,7,8,9,10,11,12,13,14,15,16,17,18,19,20,21,22,23,24,25,26,27,28,29,30],[0,1,2,3,4,5,6,7,8,9,10,11,12,13,14,15,16,17,18,19,20,21,22,23,24,25,26,27,28,29,30,31],[0,1,2,3,4,5,6,7,8,9,10,11,12,13,14,15,16,17,18,19,20,21,22,23,24,25,26,27,28,29,30,31,32],[0,1,2,3,4,5,6,7,8,9,10,11,12,13,14,15,16,17,18,19,20,21,22,23,24,25,26,27,28,29,30,31,32,33],[0,1,2,3,4,5,6,7,8,9,10,11,12,13,14,15,16,17,18,19,20,21,22,23,24,25,26,27,28,29,30,31,32,33,34],[0,1,2,3,4,5,6,7,8,9,10,11,12,13,14,15,16,17,18,19,20,21,22,23,24,25,26,27,28,29,30,31,32,33],[0,1,2,3,4,5,6,7,8,9,10,11,12,13,14,15,16,17,18,19,20,21,22,23,24,25,26,27,28,29,30,31,32,33,34,35,36],[0,1,2,3,4,5,6,7,8,9,10,11,12,13,14,15,16,17,18,19,20,21,22,23,24,25,26,27,28,29,30,31,32,33,34,35,36,37],[0,1,2,3,4,5,6,7,8,9,10,11,12,13,14,15,16,17,18,19,20,21,22,23,24,25,26,27,28,29,30,31,32,33,34,35,36,37,38]]) (sts:=[none,none]) (news:=[]) (sp:=((.v 17 _:Sp)::(.v 18 _)::(.v 19 _)::(.t 20 _)::(.t 21 _)::(.v 22 _)::(.v 23 _)::(.t 24 _)::(.t 25 _)::(.v 26 _)::(.v 27 _)::(.adr 28 4 (.some 0) (_=true))::(.t 29 _)::(.t 30 _)::(.t 31 _)::(.v 32 _)::(.v 33 _)::(.adr 34 4 (.some 4) (_=true))::(.t 35 _)::(.t 36 _)::(.t 37 _)::(.v 38 _)::(.v 39 _)::(.adr 40 1 (.some 0) (_=true))::(.t 41 _)::(.t 42 _)::(.t 43 _)::(.v 44 _)::(.v 45 _)::(.adr 46 1 (.some 5) (_=true))::(.t 47 _)::(.t 48 _)::(.v 49 _)::(.v 50 _)::(.adr 51 1 (.some 1) (_=true))::(.t 52 _)::(.t 53 _)::(.t 54 _)::(.v 55 _)::(.v 0 _)::[])) [.o 39] ae U (zM 1 G (zv G (bC (vq 0 G) ab) (zv G (ai (vq 1 G)) (zB 2 G (λ hg=>ai (gq 3 G)) (zB 2 G (λ hg=>bC (ak (vq 3 G) hg) ab) (zv G (bA (vq 2 G) (vq 4 G)) (zv G (ai (vq 5 G)) (zB 6 G (λ hg=>ai (gq 2 G)) (zB 6 G (λ hg=>bC (ak (vq 7 G) hg) ab) (zv G (bA (vq 6 G) (vq 8 G)) (zv G (ai (vq 9 G)) (zC 10 1 G dG (zB 10 G (λ hg=>aF 11 G zk hg (lz0 1 G) (Sub.part 0 G G) ax) (zB 10 G (λ hg=>be (cF (n:=0) zd zd) (.cons ab .nil)) (zB 10 G (λ hg=>be (dN _ _) (.p (ak (vq 12 G) hg) (ak (vq 13 G) hg))) (zv G (bA (vq 10 G) (vq 14 G)) (zv G (ai (vq 15 G)) (zC 16 1 G dF (zB 16 G (λ hg=>aF 17 G zk hg (lz0 1 G) (Sub.part 1 G G) ax) (zB 16 G (λ hg=>be (cF (n:=1) zd zd) (.cons ab .nil)) (zB 16 G (λ hg=>be (dN _ _) (.p (ak (vq 18 G) hg) (ak (vq 19 G) hg))) (zv G (bA (vq 16 G) (vq 20 G)) (zv G (ai (vq 21 G)) (zC 22 0 G BX (zB 22 G (λ hg=>aF 23 G zk hg (lz0 0 G) (Sub.part 0 G G) fk) (zB 22 G (λ hg=>bJ (D:=[]) (l:=[_,_]) (xs:=[.const (.int .i64 (0)),.const (.int .i64 (1))]) (cT zk) cP zk (n_ok zk) nq nq nq (.cons ab (.cons ab .nil)) G G) (zB 22 G (λ hg=>be (uz _ [0,1]) (.p (ak (vq 24 G) hg) (ak (vq 25 G) hg))) (zv G (bA (vq 22 G) (vq 26 G)) (zv G (ai (vq 27 G)) (zC 28 0 G BV (zB 28 G (λ hg=>aF 29 G zk hg (lz0 0 G) (Sub.part 2 G G) ty_3) (zB 28 G (λ hg=>bC (ak (vq 30 G) hg) ab) (zv G (bA (vq 28 G) (vq 31 G)) (zv G (ai (vq 32 G)) (zC 33 0 G BW (zB 33 G (λ hg=>aF 34 G zk hg (lz0 0 G) (Sub.part 1 G G) ax) (zB 33 G (λ hg=>be (cF (n:=1) zd zd) (.cons ab .nil)) (zB 33 G (λ hg=>be (dN _ _) (.p (ak (vq 35 G) hg) (ak (vq 36 G) hg))) (zv G (bA (vq 33 G) (vq 37 G)) (zA 38 G o0)))))))))))))))))))))))))))))))))))))))) zk zk zk zk (zz [(0,_)] [O 1 91 _,O 4 37 _] λ a w U=>?_)
 refine aa<|qg<|ao ?_ (an G U (zm 0 G))
 exact aZ (qm Bo wI)
open Go.ChangeShapes Go.WideShapes Go.ChangeAt
def wdE (x:RE):Prop:=wdF x.p∧wdF x.q
def wdPt (x:RPt):Prop:=x.nm.size≤140737488355328∧wdE x.e
structure wdTk (t:RTk):Prop where
 s:(∀ x∈t.sp,wdF x)∧t.sp.length≤140737488355328
 p:(∀ x∈t.ps,wdPt x)∧t.ps.length≤140737488355328
 g:wdF t.tg
section
variable {H:Type} {enc:TypeId × Value→H} {w:World} {base:Nat} {spare:Nat→Bool} {held:Bool} {fuel:Nat} {cs:List Value} {x:DataW H × List MemPlace}
theorem rd_ek (h:DataW.trod enc Tryz.prog w base spare held fuel 96 cs=some x):∃ y,(NumA .u8 y).p w.heap.size cs w:=by
 obtain ⟨a,ha,_⟩:=DataW.trod_int Tryz.underlying96 h
 exact ⟨a,ha⟩
theorem rb_str (h:DataW.trod enc Tryz.prog w base spare held fuel 9 cs=some x)(hw:Wt Tryz.prog 9 x.1):∃ y:ByteArray,(EqA (.string y)).p w.heap.size cs w∧y.size≤140737488355328:=by
 obtain ⟨s,hs,hx,_⟩:=DataW.trod_string Tryz.underlying9 h
 refine ⟨s,⟨hs,rfl⟩,?_⟩
 have:=hw s.data.toList.length (by rw [hx]; simp only [DataW.weights,qn])
 have e:s.data.toList.length=s.size:=by rw [Array.length_toList]; rfl
 unfold reachBytes at this
 omega
theorem rb_re (h:DataW.trod enc Tryz.prog w base spare held fuel 98 cs=some x)(hw:Wt Tryz.prog 98 x.1):∃ y,(REA y).p w.heap.size cs w∧wdE y:=by
 have hl:cs.length=9:=by
  obtain ⟨_,_,_,_,hl,_,_⟩:=DataW.trod_struct Tryz.underlying98 h
  exact hl.trans zk
 obtain ⟨n0,y0,h0,w0⟩:=cR Tryz.underlying98 h hw 0 rfl
 have c0:Tryz.prog.cellsOf 96=1:=by kernel_rfl
 have h0:DataW.trod enc Tryz.prog w base spare held n0 96 ((cs.drop 0).take (Tryz.prog.cellsOf 96))=some y0:=h0
 rw [c0] at h0
 obtain ⟨a0,q0⟩:=rd_ek h0
 obtain ⟨n1,y1,h1,w1⟩:=cR Tryz.underlying98 h hw 1 rfl
 have c1:Tryz.prog.cellsOf 28=4:=by kernel_rfl
 have h1:DataW.trod enc Tryz.prog w base spare held n1 28 ((cs.drop 1).take (Tryz.prog.cellsOf 28))=some y1:=h1
 rw [c1] at h1
 obtain ⟨a1,q1,b1⟩:=AW h1 w1
 obtain ⟨n2,y2,h2,w2⟩:=cR Tryz.underlying98 h hw 2 rfl
 have c2:Tryz.prog.cellsOf 28=4:=by kernel_rfl
 have h2:DataW.trod enc Tryz.prog w base spare held n2 28 ((cs.drop 5).take (Tryz.prog.cellsOf 28))=some y2:=h2
 rw [c2] at h2
 obtain ⟨a2,q2,b2⟩:=AW h2 w2
 exact ⟨⟨a0,a1,a2⟩,lj q0 q1 q2 hl,⟨b1,b2⟩⟩
theorem rb_pt (h:DataW.trod enc Tryz.prog w base spare held fuel 100 cs=some x)(hw:Wt Tryz.prog 100 x.1):∃ y,(PtA y).p w.heap.size cs w∧wdPt y:=by
 have hl:cs.length=11:=by
  obtain ⟨_,_,_,_,hl,_,_⟩:=DataW.trod_struct Tryz.underlying100 h
  exact hl.trans zk
 obtain ⟨n0,y0,h0,w0⟩:=cR Tryz.underlying100 h hw 0 rfl
 have c0:Tryz.prog.cellsOf 9=1:=by kernel_rfl
 have h0:DataW.trod enc Tryz.prog w base spare held n0 9 ((cs.drop 0).take (Tryz.prog.cellsOf 9))=some y0:=h0
 rw [c0] at h0
 obtain ⟨a0,q0,b0⟩:=rb_str h0 w0
 obtain ⟨n1,y1,h1,w1⟩:=cR Tryz.underlying100 h hw 1 rfl
 have c1:Tryz.prog.cellsOf 98=9:=by kernel_rfl
 have h1:DataW.trod enc Tryz.prog w base spare held n1 98 ((cs.drop 1).take (Tryz.prog.cellsOf 98))=some y1:=h1
 rw [c1] at h1
 obtain ⟨a1,q1,b1⟩:=rb_re h1 w1
 obtain ⟨n2,y2,h2,w2⟩:=cR Tryz.underlying100 h hw 2 rfl
 have c2:Tryz.prog.cellsOf 3=1:=by kernel_rfl
 have h2:DataW.trod enc Tryz.prog w base spare held n2 3 ((cs.drop 10).take (Tryz.prog.cellsOf 3))=some y2:=h2
 rw [c2] at h2
 obtain ⟨a2,q2⟩:=rd_in h2
 exact ⟨⟨a0,a1,a2⟩,lj q0 q1 q2 hl,⟨b0,b1⟩⟩
theorem rb_tk (h:DataW.trod enc Tryz.prog w base spare held fuel 30 cs=some x)(hw:Wt Tryz.prog 30 x.1):∃ y,(TkA y).p w.heap.size cs w∧wdTk y:=by
 have hl:cs.length=6:=by
  obtain ⟨_,_,_,_,hl,_,_⟩:=DataW.trod_struct Tryz.underlying30 h
  exact hl.trans zk
 obtain ⟨n0,y0,h0,w0⟩:=cR Tryz.underlying30 h hw 0 rfl
 have c0:Tryz.prog.cellsOf 22=1:=by kernel_rfl
 have h0:DataW.trod enc Tryz.prog w base spare held n0 22 ((cs.drop 0).take (Tryz.prog.cellsOf 22))=some y0:=h0
 rw [c0] at h0
 obtain ⟨a0,q0,b0⟩:=(F6 (A:=RFA) (m:=4) (D:=[U32]) Tryz.underlying22 zk zd (jZ zd (show 64=Tryz.prog.bytesOf 28 from by kernel_rfl)) (λ _=>pn zk) AW) h0 w0
 obtain ⟨n1,y1,h1,w1⟩:=cR Tryz.underlying30 h hw 1 rfl
 have c1:Tryz.prog.cellsOf 23=1:=by kernel_rfl
 have h1:DataW.trod enc Tryz.prog w base spare held n1 23 ((cs.drop 1).take (Tryz.prog.cellsOf 23))=some y1:=h1
 rw [c1] at h1
 obtain ⟨a1,q1,b1⟩:=(F6 (A:=PtA) (m:=11) (D:=[U32]) Tryz.underlying23 zk zd (jZ zd (show 160=Tryz.prog.bytesOf 100 from by kernel_rfl)) (λ _=>pn zk) rb_pt) h1 w1
 obtain ⟨n2,y2,h2,w2⟩:=cR Tryz.underlying30 h hw 2 rfl
 have c2:Tryz.prog.cellsOf 28=4:=by kernel_rfl
 have h2:DataW.trod enc Tryz.prog w base spare held n2 28 ((cs.drop 2).take (Tryz.prog.cellsOf 28))=some y2:=h2
 rw [c2] at h2
 obtain ⟨a2,q2,b2⟩:=AW h2 w2
 exact ⟨⟨a0,a1,a2⟩,lj q0 q1 q2 hl,⟨b0,b1,b2⟩⟩
theorem rb_in (h:DataW.trod enc Tryz.prog w base spare held fuel 3 cs=some x)(hw:Wt Tryz.prog 3 x.1):∃ y,(InA y).p w.heap.size cs w∧True:=by
 obtain ⟨y,hy⟩:=rd_in h
 exact ⟨y,hy,trivial⟩
end
theorem Cb {x:RE}(h:wdE x):∃ a b:Nat,elCostF x=((a+b:Nat):Int)∧(x.p.num.mag.length+x.p.den.mag.length+2≤a∧x.q.num.mag.length+x.q.den.mag.length+2≤b)∧a+b≤9007199254740992:=by
 obtain ⟨h1,h2⟩:=h
 obtain ⟨a,ea,la,ma⟩:=fW h1
 obtain ⟨b,eb,lb,mb⟩:=fW h2
 refine ⟨a,b,?_,⟨by omega,by omega⟩,by omega⟩
 unfold elCostF
 rw [ea,eb,wi64 zo zo]
 omega
theorem DI:∀ (xs:List RF) (n:Nat),(∀ x∈xs,wdF x)→n≤288230376151711744→∃ c:Nat,frsF (n:Int) xs=(c:Int)∧c≤576460752303423488∧(c≤1048576→n≤c∧∀ x∈xs,x.num.mag.length+x.den.mag.length≤c)
 | [],n,_,hn=>⟨n,rfl,by omega,λ _=>⟨qi _,λ x hx=>by cases hx⟩⟩
 | x::xs,n,hw,hn=>by
  obtain ⟨a,e,l,hs⟩:=fW (hw x (by simp))
  by_cases h:n≤1048576
  ·obtain ⟨c,h1,h2,h3⟩:=DI xs (n+a) (λ y hy=>hw y (by simp [hy])) zo
   refine ⟨c,?_,h2,λ hc=>?_⟩
   ·rw [frsF,qz (qC zo),e,wi64 zo zo]
    exact h1
   ·obtain ⟨h4,h5⟩:=h3 hc
    refine ⟨by omega,λ y hy=>?_⟩
    rcases qt.1 hy with rfl | hy
    ·omega
    ·exact h5 y hy
  ·refine ⟨n,?_,by omega,λ hc=>absurd hc h⟩
   rw [frsF,qw (by intro h2; have:=qp h2; omega)]
theorem Dh:∀ (xs:List RPt) (n:Nat),(∀ x∈xs,wdPt x)→n≤288230376151711744→∃ c:Nat,ptsF (n:Int) xs=(c:Int)∧c≤576460752303423488∧(c≤1048576→n≤c∧∀ x∈xs,x.e.p.num.mag.length+x.e.p.den.mag.length+(x.e.q.num.mag.length+x.e.q.den.mag.length)≤c)
 | [],n,_,hn=>⟨n,rfl,by omega,λ _=>⟨qi _,λ x hx=>by cases hx⟩⟩
 | x::xs,n,hw,hn=>by
  obtain ⟨hz,he⟩:=hw x (by simp)
  obtain ⟨a,b,e,l,hs⟩:=Cb he
  by_cases h:n≤1048576
  ·obtain ⟨c,h1,h2,h3⟩:=Dh xs (n+x.nm.size+(a+b)) (λ y hy=>hw y (by simp [hy])) zo
   refine ⟨c,?_,h2,λ hc=>?_⟩
   ·rw [ptsF,qz (qC zo)]
    unfold ptc
    rw [e,wi64 (x:=(n:Int)+((x.nm.size:Nat):Int)) zo zo,wi64 zo zo]
    exact h1
   ·obtain ⟨h4,h5⟩:=h3 hc
    refine ⟨by omega,λ y hy=>?_⟩
    rcases qt.1 hy with rfl | hy
    ·omega
    ·exact h5 y hy
  ·refine ⟨n,?_,by omega,λ hc=>absurd hc h⟩
   rw [ptsF,qw (by intro h2; have:=qp h2; omega)]
theorem tk_ok {t:RTk}(h:wdTk t):∃ c:Nat,tkcF t=(c:Int)∧c≤1297036692682702848∧(c≤1048576→bdTk t):=by
 obtain ⟨a,ea,la,ma⟩:=DI t.sp t.sp.length h.s.1 (by have:=h.s.2; omega)
 obtain ⟨b,eb,lb,mb⟩:=Dh t.ps t.ps.length h.p.1 (by have:=h.p.2; omega)
 obtain ⟨d,ed,ld,md⟩:=fW h.g
 refine ⟨a+b+d,?_,by omega,λ hc=>?_⟩
 ·unfold tkcF
  rw [ea,eb,ed,wi64 (x:=(a:Int)+(b:Int)) zo zo,wi64 zo zo]
  omega
 ·obtain ⟨q1,q2⟩:=ma zo
  obtain ⟨q3,q4⟩:=mb zo
  refine ⟨by omega,by omega,λ x hx=>?_,λ x hx=>?_,?_⟩
  ·have:=q2 x hx
   unfold bdF; omega
  ·have:=q4 x hx
   unfold bdF; omega
  ·unfold bdF; omega
theorem byd_tk {t:RTk}{l:List Nat}(h:wdTk t)(hl:l.length≤2∧∀ n∈l,n≤140737488355328)(hb:bydF 0 (tkcF t::l.map λ (x:Nat)=>(x:Int))=false):bdTk t∧l.sum≤1048576:=by
 obtain ⟨c,e,hc,hk⟩:=tk_ok h
 have hs:l.sum≤2*140737488355328:=by
  obtain ⟨h1,h2⟩:=hl
  match l,h1,h2 with
  | [],_,_=>simp
  | [a],_,h2=>have:=h2 a (by simp); simp; omega
  | [a,b],_,h2=>have:=h2 a (by simp); have:=h2 b (by simp); simp; omega
 have:=byd_0 (l:=c::l) (by rw [z4]; omega) (by rw [e] at hb; exact hb)
 rw [z4] at this
 exact ⟨hk zo,by omega⟩
section
variable {P:Program} {B N:Nat} {w0:Bs} {Γ:List (Nat × VA)} {Λ:List Lc} {a:Act} {w:World}
theorem St.eqw (h:St B w0 N Γ Λ a w){s:Nat}{A:VA}(k:Nat)(hm:Γ[k]?=some (s,A)):∃ v,A.p B v w∧St B w0 N (Γ.set k (s,EqV v)) Λ a w :=
 ⟨a.eval (.tmp s),h.vals _ (qa hm),h.lo,h.defers,h.size,h.base,λ x hx=>by
  rcases qy hx with hx | rfl
  ·exact h.vals x hx
  ·exact rfl,h.locs,h.dis⟩
end
section
open Rg
variable {P:Program} {Q:Exit→Act→World→Prop} {R:Rg} {B i:Nat} {w0:Bs}
theorem rD {B0:Nat}{f:FuncId}{A A' C:VA}{x y:Operand}{u v:Value}{at_:Array TypeId}(hF:NoF w0)(h0:B0≤B)(hc:Cn P f [A,A'] C)(hu:A.p B0 u w0.w)(hv:A'.p B0 v w0.w)(hC:∀ v w,C.p B0 v w→C.p B v w)(hx:Has R B w0 i x (EqV u))(hy:Has R B w0 i y (EqV v)):Wv P Q R B w0 i (.call ⟨.value (.func f),#[x,y],at_⟩) C:=by
 intro d T ps af gd a w av K hK
 obtain ⟨⟨fn,hf,hn,hb⟩,hcall⟩:=hc
 have hrun:(execOp a.eval ⟨some d,.call ⟨.value (.func f),#[x,y],at_⟩,T,ps,af,gd⟩).run P w=.ok (.enter f ([x,y].map a.eval).toArray) w:=by
  simp only [execOp,resolve,Act.eval,Deferred.ofValue,Sem.run_bind,Sem.run_pure,Result.andThen_ok,invoke,bk hf hn hb]
  simp
 unfold Oper.wp
 rw [hrun]
 have e1:a.eval x=u:=hx a w av
 have e2:a.eval y=v:=hy a w av
 refine (hcall B0 w _ (qe h0 (Av.bw av)) (show All2 _ _ [a.eval x,a.eval y] from .cons (by rw [e1]; exact A.cg _ _ _ _ (hF.cg av.base) hu) (.cons (by rw [e2]; exact A'.cg _ _ _ _ (hF.cg av.base) hv) .nil))).mono λ e w' ⟨v,he,hv,hg⟩=>by subst he; exact hK v w' hg (hC _ _ hv)
end
def GapP (x:RF × RF)(m:Nat→Value):As:=cat [FracP x.1 (m 0) (m 1),FracP x.2 (m 2) (m 3)]
abbrev kgp (x:RF × RF)(m:Nat→Value):KL:=kf x.1 (m 0) (m 1)++kf x.2 (m 2) (m 3)
theorem Bu (x:RF × RF)(m:Nat→Value)(L:List Slot)(hs:SepL L (kgp x m))(hl:L.length≤999974):CK Tryz.prog 11 59 [59,133] (BkE L) (BkE (addL (addL L (kf x.1 (m 0) (m 1))) (kf x.2 (m 2) (m 3)))) [(GapP x m).va] (Tu []):=by
 obtain ⟨hs0,hs1⟩:=mn (l:=kf x.1 (m 0) (m 1)) (m:=kf x.2 (m 2) (m 3)) hs
 refine CK.intro Tryz.func11 G zk nq zk (λ B g w0 a hrm U=>?_)
 have U:=zn [(0,EqV ((ptrH).f g)),(1,(GapP x m).va)] [⟨0,59,ptrH,BkE L⟩] U
 refine qb<|zg [η] [⟨3,37,ptrH,some 0,_,none⟩] [.alc 1] [.g 0] U (zW 1 G o0) (zz [(0,_)] [O 0 59 _,O 3 37 _] λ a w U=>?_)
 refine zt<|cc (sp:=[.v 4 _,.adr 5 3 (.some 0) True,.v 6 _,.v 7 VT]) 3 1 99 3 OneC [.g 0,.o 0,.o 2] U (zM 0 G (zO 1 G dG (zL 1 1 0 G ax o0))) G zd zk zk (zz [(0,_),(4,_),(6,_)] [O 0 59 _,O 3 37 _] λ a w U=>?_)
 rw [show List.range' 3 1=[3] from rfl]
 rw [qA]
 refine fO (A1:=BkE (addL L (kf x.1 (m 0) (m 1)))) (xs:=[.tmp 6]) [0] [2] 0 G U (wL (x.1) (m 0) (m 1) (L) hs0 (by (try simp only [gj,qB,zy,xy]); omega)) G (xA (b:=ptr g) (U.vals _ (zm 1 G)) (j7 (U.vals _ (zm 0 G)))) (.cons ⟨_,rfl,rfl⟩ .nil) G hrm zd zk zk zk zk (λ a w U=>?_)
 refine cq ?_
 have U:=zn [(7,_),(0,_)] [⟨0,59,ptrH,BkE (addL L (kf x.1 (m 0) (m 1)))⟩,O 3 37 _] U
 refine aa<|cc (sp:=[.v 8 _,.adr 9 3 (.some 4) True,.v 10 _,.v 11 VT]) 3 1 99 3 OneC [.g 1,.o 0,.o 2] U (zM 1 G (zO 1 G dF (zL 1 1 1 G ax o0))) G zd zk zk (zz [(0,_),(8,_),(10,_)] [O 0 59 _,O 3 37 _] λ a w U=>?_)
 rw [show List.range' 3 1=[3] from rfl]
 rw [qA]
 refine fO (A1:=BkE (addL (addL L (kf x.1 (m 0) (m 1))) (kf x.2 (m 2) (m 3)))) (xs:=[.tmp 10]) [0] [2] 0 G U (wL (x.2) (m 2) (m 3) (addL L (kf x.1 (m 0) (m 1))) hs1 (by (try simp only [gj,qB,zy,xy]); omega)) G (xA (b:=ptr g) (U.vals _ (zm 1 G)) (j7 (U.vals _ (zm 0 G)))) (.cons ⟨_,rfl,rfl⟩ .nil) G hrm zd zk zk zk zk (λ a w U=>?_)
 refine cq ?_
 have U:=zn [(11,_),(0,_)] [⟨0,59,ptrH,BkE (addL (addL L (kf x.1 (m 0) (m 1))) (kf x.2 (m 2) (m 3)))⟩,O 3 37 _] U
 refine ec<|iN U (zm 1 G) (zm 0 G) ?_
 exact bf (rs:=[]) G U .nil zd
theorem y6 {x:RF × RF}(h:(G2N x).p B cs w):∃ m:Nat→Value,(GapP x m).p B cs w∧cbl cs=kbl (kgp x m)∧OkK (kgp x m):=by
 obtain ⟨ps,rfl,hp⟩:=h
 cases hp with
 | @cons _ c1 _ _ h1 hp=>cases hp with
  | @cons _ c2 _ _ h2 hp =>
   cases hp
   obtain ⟨m1,m2,p1,e1,o1⟩:=lU h1
   obtain ⟨m3,m4,p2,e2,o2⟩:=lU h2
   refine ⟨nm4 m1 m2 m3 m4,⟨[c1,c2],rfl,.cons p1 (.cons p2 .nil)⟩,?_,FB o1 o2⟩
   have:([c1,c2]:List (List Value)).flatten=c1++c2:=by simp
   rw [this,li,e1,e2]
   exact kbl_app.symm
abbrev bdGpA (x:RF × RF):Prop:=bdF x.1∧bdF x.2
theorem lnK_gp {x:RF × RF}{m:Nat→Value}(h:bdGpA x):LnK (kgp x m):=G4 (lnK_f h.1) (lnK_f h.2)
def EqC (n:Nat)(v:List Value):As where
 n:=n
 ag:=true
 p _ cs _:=cs=v∧cs.length=n∧∀ c∈cs,c.oneCell'=true
 deps:=[]
 len:=λ _ _ _ h=>h.2.1
 one:=λ _ _ _ h=>h.2.2
 ag1:=λ h=>by cases h
 cg:=λ _ _ _ _ _ h=>h
 wr:=λ _ _ _ _ _ _ _ _ _ _ _ _ h=>h
theorem C9 {n:Nat}:Wk (EqC n cs).va (EqV (shape true cs)):=λ B v w ⟨c,⟨h1,_⟩,h2⟩=>by
 subst h1
 exact h2
section
variable {P:Program} {B N:Nat} {w0:Bs} {Γ:List (Nat × VA)} {Λ:List Lc} {a:Act} {w:World}
theorem St.exC (h:St B w0 N Γ Λ a w){s:Nat}{A:As}(k:Nat)(hm:Λ[k]?=some ⟨s,T,ptrH,A⟩):∃ cs,A.p B cs w∧(ElO T (EqC A.n cs)).p w.heap.size (a.eval (.tmp s)) w:=by
 obtain ⟨g,cs,q1,q2,q3,q4⟩:=h.locs _ (qa hm)
 exact ⟨cs,q4,g,cs,q1,(Array.getElem?_eq_some_iff.1 q3).1,q3,rfl,A.len _ _ _ q4,A.one _ _ _ q4⟩
theorem groundC {fn:Func}{c:Code}{b:Bool}(Γ':List (Nat × VA))(h:St B w0 N Γ Λ a w)(hnd:w0.nd=true)(hΓ:AllG a w Γ')
  (k:∀ (B:Nat) (w1:Bs),w1.nd=true→(∀ g,¬ w1.F g)→B=w1.w.heap.size→w1.w=w→St B w1 N Γ' [] a w→Exit.then (λ a w=>c.wp P (bPost P fn (RQ B w1 (Bo b))) a w) (bPost P fn (RQ B w1 (Bo b))) .normal a w) :
  Exit.then (λ a w=>c.wp P (bPost P fn (RQ B w0 (Bo b))) a w) (bPost P fn (RQ B w0 (Bo b))) .normal a w:=by
 have h1:=k w.heap.size ⟨w,λ _=>False,true⟩ rfl (λ _ h=>h) rfl rfl ⟨λ g hg=>hg.resolve_right λ h=>h,DefOk.nil (h.defers.none hnd),h.size,Kept.refl _,hΓ.mem,(λ l hl=>by cases hl),(λ l hl=>by cases hl)⟩
 refine wp_mono (c:=c) (show c.wp P _ a w from h1) λ e a' w' hp=>lY hp ?_
 rintro v w2 ⟨u,hu,hp,hk⟩
 exact ⟨u,hu,hp,h.base.grow ⟨hk.os,hk.tape,hk.output,hk.size,λ k hlt=>hk.block k hlt (λ h=>h)⟩⟩
end
theorem yk : ∃ fn, Tryz.prog.funcs[131]? = some fn ∧ (fn.name == "runtime.NumGoroutine") = false ∧ fn.body.isNone = false := ⟨_, Tryz.func131, by kernel_rfl, by kernel_rfl⟩
theorem C3 : ∃ fn, Tryz.prog.funcs[206]? = some fn ∧ (fn.name == "runtime.NumGoroutine") = false ∧ fn.body.isNone = false := ⟨_, Tryz.func206, by kernel_rfl, by kernel_rfl⟩
theorem yl : ∃ fn, Tryz.prog.funcs[130]? = some fn ∧ (fn.name == "runtime.NumGoroutine") = false ∧ fn.body.isNone = false := ⟨_, Tryz.func130, by kernel_rfl, by kernel_rfl⟩
theorem tE : ∃ fn, Tryz.prog.funcs[246]? = some fn ∧ (fn.name == "runtime.NumGoroutine") = false ∧ fn.body.isNone = false := ⟨_, Tryz.func246, by kernel_rfl, by kernel_rfl⟩
theorem C2 : ∃ fn, Tryz.prog.funcs[132]? = some fn ∧ (fn.name == "runtime.NumGoroutine") = false ∧ fn.body.isNone = false := ⟨_, Tryz.func132, by kernel_rfl, by kernel_rfl⟩
theorem pK : ∃ fn, Tryz.prog.funcs[204]? = some fn ∧ (fn.name == "runtime.NumGoroutine") = false ∧ fn.body.isNone = false := ⟨_, Tryz.func204, by kernel_rfl, by kernel_rfl⟩
theorem pf (p:Int)(hp:lz p≤1000000000):Cn Tryz.prog 204 [Zi p] (Zi (-p)):=by
 refine Cn.intro Tryz.func204 G zk nq (λ B w0 a U=>?_)
 have U:=zn [(0,Zi p)] [] U
 refine qb<|zg [] [⟨1,26,ptrH,some 0,_,none⟩,⟨2,26,ptrH,some 1,_,none⟩] [.alc 0,.alc 1] [] U (zW 0 G (zY G (Str.zero bn) o0)) (zz [] [O 1 26 _,O 2 26 _] λ a w U=>?_)
 refine zt<|zgd [[],[],[0,1],[0,1,2]] [none,some (3,_)] [] [.v 3 _,.v 4 _,.v 5 _,.sto 1] [] ae U (zQ G (AS 0 zd zd) (.cons ab .nil) (zl 0 G ar (zQ G (nL 0 p (by simp [lz,bt]) hp) (.p (vq 0 G) (vq 1 G)) (zS 2 G ar o0)))) zk zk zk zk (zz [] [O 1 26 _,O 2 26 _] λ a w U=>?_)
 refine aa<|qg<|ao ?_ (aA G U (zm 1 G) ar)
 exact aZ (qm Zi (j3 p))
section
variable {a b:Nat} {p q:Int} (ha:a≤1000000000)
include ha
theorem gB:Cn Tryz.prog 204 [Zs a p] (Zs a (-p)):=zs1 pK λ h=>(pf p zo).wkp (fg (by rw [gV]; exact h))
variable (hb:b≤1000000000)
include hb
theorem di:Cn Tryz.prog 131 [Zs a p,Zs b q] (Zs (a+b) (p*q)):=zs2 yk λ h h'=>(uD p q zo zo).wkp (fg (by have:=fR p q; omega))
theorem ES:Cn Tryz.prog 206 [Zs a p,Zs b q] (Zs (max a b+1) (p+q)):=zs2 C3 λ h h'=>(ry p q zo zo).wkp (fg (by have:=nX p q; omega))
theorem AT:Cn Tryz.prog 130 [Zs a p,Zs b q] (Zs (max a b+1) (p-q)):=zs2 yl λ h h'=>(nL p q zo zo).wkp (fg (by have:=Dw p q; omega))
theorem nM (hq:q≠0):Cn Tryz.prog 246 [Zs a p,Zs b q] (Tu [Zs a (p.tdiv q),Zs b (p.tmod q)]):=zs2 tE λ h h'=>(lL p q hq zo zo).wkp (Ag (.cons (fg (by have:=mI p q; omega)) (.cons (fg (by have:=FZ (p:=p) hq; omega)) .nil)))
end
theorem oU {a:Nat}{p:Int}:Cn Tryz.prog 132 [Zs a p] (In p.sign):=zs1 C2 λ _=>(iM (riOf p)).post (by rw [d6])
theorem EV {n:Int}(h0 : -9223372036854775808≤n)(h1:n<9223372036854775808):Cn Tryz.prog 195 [In n] (Zs 2 n):=(AS n h0 h1).wkp (fg (tb zo))
theorem Bt {p q:Int}(h:q≠0)(hq:lz q≤1000000000):lz (p.tmod q)≤1000000000:=qe (FZ h) hq
theorem BI {X Y:Int}(h:Y≠0):Int.gcd Y (X.tmod Y)=Int.gcd X Y:=by
 show Nat.gcd Y.natAbs (X.tmod Y).natAbs=Nat.gcd X.natAbs Y.natAbs
 rw [fP,xE X.natAbs,xE,← Nat.gcd_rec]
theorem iS (p q:Int)(hp:lz p≤1000000000)(hq:lz q≤1000000000):Cn Tryz.prog 226 [Zi p,Zi q] (Zi ((Int.gcd p q:Nat):Int)):=by
 refine Cn.intro Tryz.func226 G zk nq (λ B w0 a U=>?_)
 have U:=zn [(0,Zi p),(1,Zi q)] [] U
 refine qb<|zg [] [⟨2,26,ptrH,some 0,_,none⟩,⟨3,26,ptrH,some 1,_,none⟩,⟨4,26,ptrH,some 2,_,none⟩] [.alc 0,.alc 1,.alc 2] [] U (zW 0 G (zW 1 G (zY G (Str.zero bn) o0))) (zz [] [O 2 26 _,O 3 26 _,O 4 26 _] λ a w U=>?_)
 refine zt<|qb<|zgd [[],[0],[],[0,1,2],[0,1,2,3]] [none,none,none] [] [.v 7 _,.v 8 _,.v 9 _,.v 10 _,.v 11 _] [.o 4] ae U (zl 0 G ar (zQ G (oX p hp) (.o (vq 0 G)) (zl 1 G ar (zQ G (oX q hq) (.o (vq 2 G)) (zv G (aS (vq 1 G) (vq 3 G)) o0))))) zk zk zk zk (zz [(11,_)] [O 2 26 _,O 3 26 _,O 4 26 _] λ a w U=>?_)
 refine aa<|bE (λ a w=>∃ X Y:Int,(lz X≤1000000000∧lz Y≤1000000000∧Int.gcd X Y=Int.gcd p q)∧St B w0 33 [] [⟨2,26,ptrH,RIA (riOf X)⟩,⟨3,26,ptrH,RIA (riOf Y)⟩,⟨4,26,ptrH,cat [BoA false,MgA []]⟩] a w) U (zm 0 G) (λ hb0=>?_) (λ hb0=>?_) (λ a w U=>?_)
 ·refine zg [some (2,_),some (3,_),η] [] [.v 12 _,.v 13 _,.sto 0,.sto 1] [] U (zl 1 G ar (zl 0 G ar (zS 0 G ar (zS 1 G ar o0)))) (zz [] [O 2 26 _,O 3 26 _,O 4 26 _] λ a w U=>?_)
  refine aa ?_
  have U:=St.sel U []
  exact ⟨q,p,⟨hq,hp,Int.gcd_comm q p⟩,U⟩
 ·refine qh<|aa ?_
  have U:=St.sel U []
  exact ⟨p,q,⟨hp,hq,rfl⟩,U⟩
 obtain ⟨X,Y,⟨hX,hY,hg⟩,U⟩:=U
 refine zt<|qb<|zg [η,η,η] [] [.v 14 _,.v 15 _,.v 16 _] [.o 2] U (zl 1 G ar (zQ G ((iM (riOf Y)).post (by rw [d6])) (.o (vq 0 G)) (zv G (bC (vq 1 G) ab) o0))) (zz [(16,_)] [O 2 26 _,O 3 26 _,O 4 26 _] λ a w U=>?_)
 refine aa<|aj U (zm 0 G) (λ hb1=>?_) (λ hb1=>?_)
 ·refine qb<|zg [η,η,some (3,_)] [] [.v 17 _,.v 18 _,.v 19 _,.sto 2] [] U (zl 0 G ar (zl 1 G ar (zQ G (lM X Y hX hY) (.p (vq 0 G) (vq 1 G)) (zS 2 G ar o0)))) (zz [] [O 2 26 _,O 3 26 _,O 4 26 _] λ a w U=>?_)
  refine aa<|qg<|al ?_
  refine ao ?_ (aA G U (zm 2 G) ar)
  exact aZ (qm (λ n:Nat=>Zi (n:Int)) hg)
 ·have hY0:Y≠0:=λ e=>by rw [e] at hb1; exact absurd hb1 zd
  refine qh<|zt<|zg [η,η,η] [⟨5,26,ptrH,some 6,_,some (8,_)⟩,⟨6,26,ptrH,some 7,_,some (9,_)⟩] [.v 21 _,.v 22 _,.v 23 _,.v 20 _,.v 24 _,.v 25 _,.alc 3,.alc 4,.sto 3,.sto 4] [] U (zl 0 G ar (zl 1 G ar (zQ G (lL X Y hY0 hX hY) (.p (vq 0 G) (vq 1 G)) (zv G (ai (vq 2 G)) (zv G (aQ (vq 3 G) G) (zv G (aQ (vq 3 G) G) (zY G (Str.zero bn) (zY G (Str.zero bn) (zS 4 G ar (zS 5 G ar o0)))))))))) (zz [] [O 2 26 _,O 3 26 _,O 4 26 _,O 5 26 _,O 6 26 _] λ a w U=>?_)
  refine zt<|qb<|zg [η,η,η,η,η] [] [.v 26 _,.v 27 _,.v 28 _] [.o 2] U (zl 1 G ar (zQ G (oX Y hY) (.o (vq 0 G)) (zv G (bC (vq 1 G) ab) o0))) (zz [(28,_)] [O 2 26 _,O 3 26 _,O 4 26 _,O 5 26 _,O 6 26 _] λ a w U=>?_)
  refine aa<|aj U (zm 0 G) (λ hb2=>?_) (λ hb2=>?_)
  ·have h1:Y.natAbs=1:=Cy (by have:=beq_iff_eq.1 hb2; omega)
   refine qb<|zg [η,η,some (1,_),η,η] [] [.v 29 _,.sto 2] [] U (zQ G (AS 1 zd zd) (.cons ab .nil) (zS 0 G ar o0)) (zz [] [O 2 26 _,O 3 26 _,O 4 26 _,O 5 26 _,O 6 26 _] λ a w U=>?_)
   refine aa<|qg<|al ?_
   refine ao ?_ (aA G U (zm 2 G) ar)
   exact aZ (qm (λ n:Nat=>Zi (n:Int)) (show 1=Int.gcd p q by rw [← hg]; show 1=Nat.gcd X.natAbs Y.natAbs; rw [h1,Nat.gcd_one_right]))
  ·refine qh<|zt<|zg [η,η,some (3,_),η,η] [] [.v 30 _,.v 31 _,.v 32 _,.sto 2] [] U (zl 1 G ar (zl 4 G ar (zQ G (lM Y (X.tmod Y) hY (Bt hY0 hY)) (.p (vq 0 G) (vq 1 G)) (zS 2 G ar o0)))) (zz [] [O 2 26 _,O 3 26 _,O 4 26 _,O 5 26 _,O 6 26 _] λ a w U=>?_)
   refine aa<|qg<|ao ?_ (aA G U (zm 2 G) ar)
   exact aZ (qm (λ n:Nat=>Zi (n:Int)) ((BI hY0).trans hg))
theorem pL : ∃ fn, Tryz.prog.funcs[226]? = some fn ∧ (fn.name == "runtime.NumGoroutine") = false ∧ fn.body.isNone = false := ⟨_, Tryz.func226, by kernel_rfl, by kernel_rfl⟩
theorem sY {a b:Nat}{p q:Int}(ha:a≤1000000000)(hb:b≤1000000000):Cn Tryz.prog 226 [Zs a p,Zs b q] (Zs (max a b) ((Int.gcd p q:Nat):Int)):=zs2 pL λ h h'=>(iS p q zo zo).wkp (fg (by have:=wy p q; omega))
theorem eU {c d:Nat}{p q:Int}(hc:c≤1000000000)(hd:d≤1000000000)(hq:q≠0):Cn Tryz.prog 229 [Zs c p,Zs d q] (Qs (max c d) (Rat.divInt p q)):=by
 have hg0:0<Int.gcd p q:=xH p hq
 obtain ⟨hn1,hn2⟩:=pp (p:=p) hq
 refine Cn.intro Tryz.func229 G zk nq (λ B w0 a U=>?_)
 have U:=zn [(0,Zs c p),(1,Zs d q)] [] U
 refine qb<|zg [] [⟨2,26,ptrH,some 0,_,none⟩,⟨3,26,ptrH,some 1,_,none⟩,⟨4,28,ptrH,some 2,_,none⟩] [.alc 0,.alc 1,.alc 2] [] U (zW 0 G (zW 1 G (zY G (Str.zero aP) o0))) (zz [] [O 2 26 _,O 3 26 _,O 4 28 _] λ a w U=>?_)
 refine zt<|zg [η,η,η] [⟨5,26,ptrH,some 3,_,some (4,_)⟩] [.v 10 _,.v 11 _,.v 12 _,.alc 3,.sto 3] [] U (zl 0 G ar (zl 1 G ar (zQ G (sY zo zo) (.p (vq 0 G) (vq 1 G)) (zY G (Str.zero bn) (zS 2 G ar o0))))) (zz [] [O 2 26 _,O 3 26 _,O 4 28 _,O 5 26 _] λ a w U=>?_)
 refine zt<|zg [η,η,η,η] [⟨6,26,ptrH,some 6,_,some (8,_)⟩,⟨7,26,ptrH,some 7,_,some (9,_)⟩] [.v 14 _,.v 15 _,.v 16 _,.v 13 _,.v 17 _,.v 18 _,.alc 4,.alc 5,.sto 4,.sto 5] [] U (zl 0 G ar (zl 3 G ar (zQ G (nM zo zo zo) (.p (vq 0 G) (vq 1 G)) (zv G (ai (vq 2 G)) (zv G (aQ (vq 3 G) G) (zv G (aQ (vq 3 G) G) (zY G (Str.zero bn) (zY G (Str.zero bn) (zS 4 G ar (zS 5 G ar o0)))))))))) (zz [] [O 2 26 _,O 3 26 _,O 4 28 _,O 5 26 _,O 6 26 _,O 7 26 _] λ a w U=>?_)
 refine zt<|zg [η,η,η,η,η,η] [⟨8,26,ptrH,some 6,_,some (8,_)⟩,⟨9,26,ptrH,some 7,_,some (9,_)⟩] [.v 20 _,.v 21 _,.v 22 _,.v 19 _,.v 23 _,.v 24 _,.alc 6,.alc 7,.sto 6,.sto 7] [] U (zl 1 G ar (zl 3 G ar (zQ G (nM zo zo zo) (.p (vq 0 G) (vq 1 G)) (zv G (ai (vq 2 G)) (zv G (aQ (vq 3 G) G) (zv G (aQ (vq 3 G) G) (zY G (Str.zero bn) (zY G (Str.zero bn) (zS 4 G ar (zS 5 G ar o0)))))))))) (zz [] [O 2 26 _,O 3 26 _,O 4 28 _,O 5 26 _,O 6 26 _,O 7 26 _,O 8 26 _,O 9 26 _] λ a w U=>?_)
 refine zt<|qb<|zg [η,η,η,η,η,η,η,η] [] [.v 25 _,.v 26 _,.v 27 _] [.o 2] U (zl 6 G ar (zQ G oU (.o (vq 0 G)) (zv G (aS (vq 1 G) ab) o0))) (zz [(27,_)] [O 2 26 _,O 3 26 _,O 4 28 _,O 5 26 _,O 6 26 _,O 7 26 _,O 8 26 _,O 9 26 _] λ a w U=>?_)
 refine aa<|aj U (zm 0 G) (λ hb0=>?_) (λ hb0=>?_)
 ·refine qb<|zgd [[],[0],[],[0,1,2],[0,1,2,3],[0,1,2,3,4]] [none,none,some (5,_),none,none,none,none,none] [] [.v 28 _,.v 29 _,.v 30 _,.v 31 _,.v 32 _,.sto 2] [] ae U (zl 4 G ar (zQ G (gB zo) (.o (vq 0 G)) (zl 6 G ar (zQ G (gB zo) (.o (vq 2 G)) (zv G (aU (qs:=[(0,_),(1,_)]) aP (.cons ⟨rfl,vq 1 rfl,rfl⟩ (.cons ⟨rfl,vq 3 rfl,rfl⟩ .nil))) (zS 4 G ax o0)))))) zk zk zk zk (zz [] [O 2 26 _,O 3 26 _,O 4 28 _,O 5 26 _,O 6 26 _,O 7 26 _,O 8 26 _,O 9 26 _] λ a w U=>?_)
  refine aa<|qg<|al ?_
  refine ao ?_ (aA G U (zm 2 G) ax)
  rw [qz (uu hb0)] at hn1 hn2; rw [hn1,hn2]; exact (bo (.cons (et (xV _ _)) (.cons (et (xP _ _)) .nil))).va
 ·refine qh<|zt<|zg [η,η,some (3,_),η,η,η,η,η] [] [.v 33 _,.v 34 _,.v 35 _,.sto 2] [] U (zl 4 G ar (zl 6 G ar (zv G (aU (qs:=[(0,_),(1,_)]) aP (.cons ⟨rfl,vq 0 rfl,rfl⟩ (.cons ⟨rfl,vq 1 rfl,rfl⟩ .nil))) (zS 2 G ax o0)))) (zz [] [O 2 26 _,O 3 26 _,O 4 28 _,O 5 26 _,O 6 26 _,O 7 26 _,O 8 26 _,O 9 26 _] λ a w U=>?_)
  refine aa<|qg<|ao ?_ (aA G U (zm 2 G) ax)
  rw [qw (D3 hb0)] at hn1 hn2; rw [hn1,hn2]; exact (bo (.cons (et (xV _ _)) (.cons (et (xP _ _)) .nil))).va
theorem cE  : Cn Tryz.prog 124 [] (Qs 2 0):=by
 refine Cn.intro Tryz.func124 G zk nq (λ B w0 a U=>?_)
 have U:=zn [] [] U
 refine qb<|zg [] [⟨0,28,ptrH,some 0,_,none⟩] [.alc 0] [] U (zY G (Str.zero aP) o0) (zz [] [O 0 28 _] λ a w U=>?_)
 refine zt<|zg [some (2,_)] [] [.v 1 _,.v 2 _,.sto 0] [] U (zQ G (EV zd zd) (.cons ab .nil) (zv G (aU (qs:=[(1,_)]) aP (.cons ⟨rfl,vq 0 rfl,rfl⟩ .nil)) (zS 1 G ax o0))) (zz [] [O 0 28 _] λ a w U=>?_)
 refine aa<|qg<|ao ?_ (aA G U (zm 0 G) ax)
 exact q0_wk.va
theorem v4 {p q:Int}(hp : -9223372036854775808≤p)(hp1:p<9223372036854775808)(hq : -9223372036854775808≤q)(hq1:q<9223372036854775808)(h0:q≠0):Cn Tryz.prog 194 [In p,In q] (Qs 2 (Rat.divInt p q)):=by
 refine Cn.intro Tryz.func194 G zk nq (λ B w0 a U=>?_)
 have U:=zn [(0,In p),(1,In q)] [] U
 refine qb<|zg [] [⟨4,28,ptrH,some 0,_,none⟩] [.alc 0] [.g 0,.g 1] U (zY G (Str.zero aP) o0) (zz [(0,_),(1,_)] [O 4 28 _] λ a w U=>?_)
 refine zt<|zg [some (5,_)] [] [.v 5 _,.v 6 _,.v 7 _,.v 8 _,.v 9 _,.sto 0] [] U (zM 0 G (zQ G (EV hp hp1) (.o (vq 0 G)) (zM 1 G (zQ G (EV hq hq1) (.o (vq 2 G)) (zQ G (eU zo zo h0) (.p (vq 1 G) (vq 3 G)) (zS 4 G ax o0)))))) (zz [] [O 4 28 _] λ a w U=>?_)
 refine aa<|qg<|ao ?_ (aA G U (zm 0 G) ax)
 exact aL
theorem fo  : Cn Tryz.prog 123 [] (Qs 2 1):=by
 refine Cn.intro Tryz.func123 G zk nq (λ B w0 a U=>?_)
 have U:=zn [] [] U
 refine qb<|zg [] [⟨0,28,ptrH,some 0,_,none⟩] [.alc 0] [] U (zY G (Str.zero aP) o0) (zz [] [O 0 28 _] λ a w U=>?_)
 refine zt<|zg [some (1,_)] [] [.v 1 _,.sto 0] [] U (zQ G (v4 zd zd zd zd zd) (.cons ab (.cons ab .nil)) (zS 0 G ax o0)) (zz [] [O 0 28 _] λ a w U=>?_)
 refine aa<|qg<|ao ?_ (aA G U (zm 0 G) ax)
 exact aZ (qm (Qs 2) (show Rat.divInt 1 1=1 from G))
theorem ms {c d:Nat}{x y:Rat}(hc:c+d≤900000000):Cn Tryz.prog 205 [Qs c x,Qs d y] (Qs (c+d+1) (x+y)):=by
 refine Cn.intro Tryz.func205 G zk nq (λ B w0 a U=>?_)
 have U:=zn [(0,Qs c x),(1,Qs d y)] [] U
 refine qb<|zg [] [⟨2,28,ptrH,some 0,_,none⟩,⟨3,28,ptrH,some 1,_,none⟩,⟨4,28,ptrH,some 2,_,none⟩] [.alc 0,.alc 1,.alc 2] [] U (zW 0 G (zW 1 G (zY G (Str.zero aP) o0))) (zz [] [O 2 28 _,O 3 28 _,O 4 28 _] λ a w U=>?_)
 refine zt<|zgd [[],[0],[],[2],[0,1,2,3],[],[5],[],[7],[0,1,2,3,4,5,6,7,8],[0,1,2,3,4,5,6,7,8,9],[],[0,1,2,3,4,5,6,7,8,9,10,11]] [none,none,none] [⟨5,26,ptrH,some 11,_,some (12,_)⟩] [.adr 6 2 (.some 0) True,.v 7 _,.adr 8 3 (.some 2) True,.v 9 _,.v 10 _,.adr 11 3 (.some 0) True,.v 12 _,.adr 13 2 (.some 2) True,.v 14 _,.v 15 _,.v 16 _,.alc 3,.sto 3] [] ae U (zO 0 G aW (zL 0 0 0 G ar (zO 1 G aR (zL 2 1 1 G ar (zQ G (di zo zo) (.p (vq 1 G) (vq 3 G)) (zO 1 G aW (zL 5 1 0 G ar (zO 0 G aR (zL 7 0 1 G ar (zQ G (di zo zo) (.p (vq 6 G) (vq 8 G)) (zQ G (ES zo zo) (.p (vq 4 G) (vq 9 G)) (zY G (Str.zero bn) (zS 10 G ar o0))))))))))))) zk zk zk zk (zz [] [O 2 28 _,O 3 28 _,O 4 28 _,O 5 26 _] λ a w U=>?_)
 refine zt<|zgd [[],[],[1],[],[3],[1,2,3,4],[0,1,2,3,4,5],[0,1,2,3,4,5,6]] [none,none,some (7,_),none] [] [.v 17 _,.adr 18 2 (.some 2) True,.v 19 _,.adr 20 3 (.some 2) True,.v 21 _,.v 22 _,.v 23 _,.sto 2] [] ae U (zl 3 G ar (zO 0 G aR (zL 1 0 1 G ar (zO 1 G aR (zL 3 1 1 G ar (zQ G (di zo zo) (.p (vq 2 G) (vq 4 G)) (zQ G (eU zo zo (den_nz x y)) (.p (vq 0 G) (vq 5 G)) (zS 6 G ax o0)))))))) zk zk zk zk (zz [] [O 2 28 _,O 3 28 _,O 4 28 _,O 5 26 _] λ a w U=>?_)
 refine aa<|qg<|ao ?_ (aA G U (zm 2 G) ax)
 exact cd (aZ (qm (Qs _) (uS x y))) (bO zo).va
theorem iR {c d:Nat}{x y:Rat}(hc:c+d≤900000000):Cn Tryz.prog 201 [Qs c x,Qs d y] (Qs (c+d) (x*y)):=by
 refine Cn.intro Tryz.func201 G zk nq (λ B w0 a U=>?_)
 have U:=zn [(0,Qs c x),(1,Qs d y)] [] U
 refine qb<|zg [] [⟨2,28,ptrH,some 0,_,none⟩,⟨3,28,ptrH,some 1,_,none⟩,⟨4,28,ptrH,some 2,_,none⟩] [.alc 0,.alc 1,.alc 2] [] U (zW 0 G (zW 1 G (zY G (Str.zero aP) o0))) (zz [] [O 2 28 _,O 3 28 _,O 4 28 _] λ a w U=>?_)
 refine zt<|zgd [[],[0],[],[2],[0,1,2,3],[],[5],[],[7],[0,1,2,3,4,5,6,7,8],[0,1,2,3,4,5,6,7,8,9],[0,1,2,3,4,5,6,7,8,9,10]] [none,none,some (11,_)] [] [.adr 5 2 (.some 0) True,.v 6 _,.adr 7 3 (.some 0) True,.v 8 _,.v 9 _,.adr 10 2 (.some 2) True,.v 11 _,.adr 12 3 (.some 2) True,.v 13 _,.v 14 _,.v 15 _,.sto 2] [] ae U (zO 0 G aW (zL 0 0 0 G ar (zO 1 G aW (zL 2 1 0 G ar (zQ G (di zo zo) (.p (vq 1 G) (vq 3 G)) (zO 0 G aR (zL 5 0 1 G ar (zO 1 G aR (zL 7 1 1 G ar (zQ G (di zo zo) (.p (vq 6 G) (vq 8 G)) (zQ G (eU zo zo (den_nz x y)) (.p (vq 4 G) (vq 9 G)) (zS 10 G ax o0)))))))))))) zk zk zk zk (zz [] [O 2 28 _,O 3 28 _,O 4 28 _] λ a w U=>?_)
 refine aa<|qg<|ao ?_ (aA G U (zm 2 G) ax)
 exact cd (aZ (qm (Qs _) (oY x y))) (bO zo).va
theorem AZ {c d:Nat}{x y:Rat}(hc:c+d≤900000000)(h0:y≠0):Cn Tryz.prog 200 [Qs c x,Qs d y] (Qs (c+d) (x/y)):=by
 refine Cn.intro Tryz.func200 G zk nq (λ B w0 a U=>?_)
 have U:=zn [(0,Qs c x),(1,Qs d y)] [] U
 refine qb<|zg [] [⟨2,28,ptrH,some 0,_,none⟩,⟨3,28,ptrH,some 1,_,none⟩,⟨4,28,ptrH,some 2,_,none⟩] [.alc 0,.alc 1,.alc 2] [] U (zW 0 G (zW 1 G (zY G (Str.zero aP) o0))) (zz [] [O 2 28 _,O 3 28 _,O 4 28 _] λ a w U=>?_)
 refine zt<|zgd [[],[0],[],[2],[0,1,2,3],[],[5],[],[7],[0,1,2,3,4,5,6,7,8],[0,1,2,3,4,5,6,7,8,9],[0,1,2,3,4,5,6,7,8,9,10]] [none,none,some (11,_)] [] [.adr 5 2 (.some 0) True,.v 6 _,.adr 7 3 (.some 2) True,.v 8 _,.v 9 _,.adr 10 2 (.some 2) True,.v 11 _,.adr 12 3 (.some 0) True,.v 13 _,.v 14 _,.v 15 _,.sto 2] [] ae U (zO 0 G aW (zL 0 0 0 G ar (zO 1 G aR (zL 2 1 1 G ar (zQ G (di zo zo) (.p (vq 1 G) (vq 3 G)) (zO 0 G aR (zL 5 0 1 G ar (zO 1 G aW (zL 7 1 0 G ar (zQ G (di zo zo) (.p (vq 6 G) (vq 8 G)) (zQ G (eU zo zo (wm x h0)) (.p (vq 4 G) (vq 9 G)) (zS 10 G ax o0)))))))))))) zk zk zk zk (zz [] [O 2 28 _,O 3 28 _,O 4 28 _] λ a w U=>?_)
 refine aa<|qg<|ao ?_ (aA G U (zm 2 G) ax)
 exact cd (aZ (qm (Qs _) (oZ x y))) (bO zo).va
theorem neg_wk {c:Nat}{x:Rat}:WkA (cat [ZA c (-x.num),ZA c (x.den:Int)]) (QA c (-x)):=dc (by unfold QA; rw [kK,kL])
theorem gC {c:Nat}{x:Rat}(hc:c≤900000000):Cn Tryz.prog 128 [Qs c x] (Qs c (-x)):=by
 refine Cn.intro Tryz.func128 G zk nq (λ B w0 a U=>?_)
 have U:=zn [(0,Qs c x)] [] U
 refine qb<|zg [] [⟨1,28,ptrH,some 0,_,none⟩,⟨2,28,ptrH,some 1,_,none⟩] [.alc 0,.alc 1] [] U (zW 0 G (zY G (Str.zero aP) o0)) (zz [] [O 1 28 _,O 2 28 _] λ a w U=>?_)
 refine zt<|zgd [[],[0],[0,1],[],[3],[0,1,2,3,4],[0,1,2,3,4,5]] [none,some (6,_)] [] [.adr 3 1 (.some 0) True,.v 4 _,.v 5 _,.adr 6 1 (.some 2) True,.v 7 _,.v 8 _,.sto 1] [] ae U (zO 0 G aW (zL 0 0 0 G ar (zQ G (gB zo) (.o (vq 1 G)) (zO 0 G aR (zL 3 0 1 G ar (zv G (aU (qs:=[(0,_),(1,_)]) aP (.cons ⟨rfl,vq 2 rfl,rfl⟩ (.cons ⟨rfl,vq 4 rfl,rfl⟩ .nil))) (zS 5 G ax o0))))))) zk zk zk zk (zz [] [O 1 28 _,O 2 28 _] λ a w U=>?_)
 refine aa<|qg<|ao ?_ (aA G U (zm 1 G) ax)
 exact neg_wk.va
theorem nR {c d:Nat}{x y:Rat}(hc:c+d≤900000000):Cn Tryz.prog 129 [Qs c x,Qs d y] (Qs (c+d+1) (x-y)):=by
 refine Cn.intro Tryz.func129 G zk nq (λ B w0 a U=>?_)
 have U:=zn [(0,Qs c x),(1,Qs d y)] [] U
 refine qb<|zg [] [⟨2,28,ptrH,some 0,_,none⟩,⟨3,28,ptrH,some 1,_,none⟩,⟨4,28,ptrH,some 2,_,none⟩] [.alc 0,.alc 1,.alc 2] [] U (zW 0 G (zW 1 G (zY G (Str.zero aP) o0))) (zz [] [O 2 28 _,O 3 28 _,O 4 28 _] λ a w U=>?_)
 refine zt<|zgd [[],[],[1],[0,1,2],[0,1,2,3]] [none,none,some (4,_)] [] [.v 5 _,.v 6 _,.v 7 _,.v 8 _,.sto 2] [] ae U (zl 0 G ax (zl 1 G ax (zQ G (gC zo) (.o (vq 1 G)) (zQ G (ms zo) (.p (vq 0 G) (vq 2 G)) (zS 3 G ax o0))))) zk zk zk zk (zz [] [O 2 28 _,O 3 28 _,O 4 28 _] λ a w U=>?_)
 refine aa<|qg<|ao ?_ (aA G U (zm 2 G) ax)
 exact aZ (qm (Qs _) (show x + -y=x-y by grind))
theorem cm_sgn (x y:Rat):(x.num*(y.den:Int)-y.num*(x.den:Int)).sign=cmQ x y:=by
 rw [← cm_sg,iJ]
 unfold sg3
 generalize x.num*(y.den:Int)=u
 generalize y.num*(x.den:Int)=v
 by_cases h1:u<v
 ·rw [qz zo,qz h1]
 ·by_cases h2:v<u
  ·rw [qw zo,qw zo,qw h1,qz h2]
  ·rw [qw zo,qz zo,qw h1,qw h2]
theorem v5 {c d:Nat}{x y:Rat}(hc:c+d≤900000000):Cn Tryz.prog 34 [Qs c x,Qs d y] (In (cmQ x y)):=by
 refine Cn.intro Tryz.func34 G zk nq (λ B w0 a U=>?_)
 have U:=zn [(0,Qs c x),(1,Qs d y)] [] U
 refine qb<|zg [] [⟨2,28,ptrH,some 0,_,none⟩,⟨3,28,ptrH,some 1,_,none⟩] [.alc 0,.alc 1,.v 4 _] [.o 2] U (zW 0 G (zW 1 G (zv G (ac ab) o0))) (zz [(4,_)] [O 2 28 _,O 3 28 _] λ a w U=>?_)
 refine zt<|zgd [[],[0],[],[2],[0,1,2,3],[],[5],[],[7],[0,1,2,3,4,5,6,7,8],[0,1,2,3,4,5,6,7,8,9],[],[0,1,2,3,4,5,6,7,8,9,10,11]] [none,none] [⟨5,26,ptrH,some 11,_,some (12,_)⟩] [.adr 6 2 (.some 0) True,.v 7 _,.adr 8 3 (.some 2) True,.v 9 _,.v 10 _,.adr 11 3 (.some 0) True,.v 12 _,.adr 13 2 (.some 2) True,.v 14 _,.v 15 _,.v 16 _,.alc 2,.sto 2] [.g 0] ae U (zO 0 G aW (zL 0 0 0 G ar (zO 1 G aR (zL 2 1 1 G ar (zQ G (di zo zo) (.p (vq 1 G) (vq 3 G)) (zO 1 G aW (zL 5 1 0 G ar (zO 0 G aR (zL 7 0 1 G ar (zQ G (di zo zo) (.p (vq 6 G) (vq 8 G)) (zQ G (AT zo zo) (.p (vq 4 G) (vq 9 G)) (zY G (Str.zero bn) (zS 10 G ar o0))))))))))))) zk zk zk zk (zz [(4,_)] [O 2 28 _,O 3 28 _,O 5 26 _] λ a w U=>?_)
 refine zt<|zg [η,η,η] [] [.v 17 _,.v 18 _,.v 4 _] [.o 2] U (zl 2 G ar (zQ G oU (.o (vq 0 G)) (zA 1 G o0))) (zz [(4,_)] [O 2 28 _,O 3 28 _,O 5 26 _] λ a w U=>?_)
 refine aa<|qg<|ao ?_ (an G U (zm 0 G))
 exact aZ (qm In (cm_sgn x y))
theorem r2sign_q {c:Nat}{x:Rat}:Cn Tryz.prog 120 [Qs c x] (In x.num.sign):=by
 refine Cn.intro Tryz.func120 G zk nq (λ B w0 a U=>?_)
 have U:=zn [(0,Qs c x)] [] U
 refine qb<|zg [] [⟨1,28,ptrH,some 0,_,none⟩] [.alc 0,.v 2 _] [.o 1] U (zW 0 G (zv G (ac ab) o0)) (zz [(2,_)] [O 1 28 _] λ a w U=>?_)
 refine zt<|zg [η] [] [.adr 3 1 (.some 0) True,.v 4 _,.v 5 _,.v 2 _] [.o 3] U (zO 0 G aW (zL 0 0 0 G ar (zQ G oU (.o (vq 1 G)) (zA 2 G o0)))) (zz [(2,_)] [O 1 28 _] λ a w U=>?_)
 refine aa<|qg<|ao ?_ (an G U (zm 0 G))
 exact aL
theorem rchk1 {g:Nat}(h:decide ((1:Int)<((g:Nat):Int))=true):g≠1:=by have:=qp h; omega
theorem rchk2 {g:Nat}(h:decide ((1:Int)<((g:Nat):Int))=false)(h0:g≠0):g=1:=by have:=qr h; omega
theorem sZ (xn xd:RI):Cn Tryz.prog 191 [(RFA ⟨xn,xd⟩).va] (In (if okF ⟨xn,xd⟩ then 0 else 1)):=by
 refine Cn.intro Tryz.func191 G zk nq (λ B w0 a U=>?_)
 have U:=zn [(0,(RFA ⟨xn,xd⟩).va)] [] U
 have hok:=mq (U.vals (0,(RFA ⟨xn,xd⟩).va) (zm 0 rfl))
 refine qb<|zg [] [⟨1,28,ptrH,some 0,_,none⟩] [.alc 0,.v 2 _] [.o 1] U (zW 0 G (zv G (ac ab) o0)) (zz [(2,_)] [O 1 28 _] λ a w U=>?_)
 refine zt<|qb<|zg [η] [] [.adr 4 1 (.some 0) True,.v 5 _,.v 6 _,.v 7 _,.v 8 _,.adr 9 1 (.some 2) (_=false),.f 10 _,.f 11 _,.f 12 _,.v 13 _,.v 14 _,.adr 15 1 (.some 2) (_=false),.f 16 _,.f 17 _,.f 18 _,.v 19 _] [.g 0,.o 15] U (zO 0 G aW (zL 0 0 0 G ar (zQ G (rA _) (.o (vq 1 G)) (zv G (bX (vq 2 G) ab) (zv G (ai (vq 3 G)) (zC 4 0 G aR (zB 4 G (λ hg=>aF 5 G zk hg (lz0 0 G) (Sub.part 1 G G) ar) (zB 4 G (λ hg=>be (rA _) (.o (ak (vq 6 G) hg))) (zB 4 G (λ hg=>bX (ak (vq 7 G) hg) ab) (zv G (r_or (vq 4 G) (vq 8 G)) (zv G (ai (vq 9 G)) (zC 10 0 G aR (zB 10 G (λ hg=>aF 11 G zk hg (lz0 0 G) (Sub.part 1 G G) ar) (zB 10 G (λ hg=>be (iM _) (.o (ak (vq 12 G) hg))) (zB 10 G (λ hg=>gz (ak (vq 13 G) hg) ab) (zv G (r_or (vq 10 G) (vq 14 G)) o0)))))))))))))))) (zz [(2,_),(19,_)] [O 1 28 _] λ a w U=>?_)
 refine aa<|aj U (zm 1 G) (λ hb0=>?_) (λ hb0=>?_)
 ·refine qb<|zg [η] [] [.v 2 _] [.o 0] U (zv G (ac ab) o0) (zz [(2,_)] [O 1 28 _] λ a w U=>?_)
  refine aa<|qg<|al ?_
  refine ao ?_ (an G U (zm 0 G))
  exact aZ (qm In (DW hb0))
 ·rw [qI,qI] at hb0
  obtain ⟨p,rfl,hp⟩:=lS hok.1 (ok1 hb0.1.1)
  obtain ⟨q,rfl,hq⟩:=lS hok.2 (ok1 hb0.1.2)
  have hq0:0<sgI (riOf q):=by have h2:¬ sgI (riOf q)≤0:=qr hb0.2; omega
  have hqn:q≠0:=λ e=>by rw [e,d6] at hq0; exact absurd hq0 zd
  have hgn:Int.gcd p q≠0:=by have:=xH p hqn; omega
  refine qh<|zt<|zg [η] [⟨3,26,ptrH,some 5,_,some (6,_)⟩] [.adr 20 1 (.some 0) True,.v 21 _,.adr 22 1 (.some 2) True,.v 23 _,.v 24 _,.alc 1,.sto 1] [.g 0] U (zO 0 G aW (zL 0 0 0 G ar (zO 0 G aR (zL 2 0 1 G ar (zQ G (iS p q zo zo) (.p (vq 1 G) (vq 3 G)) (zY G (Str.zero bn) (zS 4 G ar o0))))))) (zz [(2,_)] [O 1 28 _,O 3 26 _] λ a w U=>?_)
  refine zt<|qb<|zgd [[],[],[0,1]] [none,none] [] [.v 25 _,.v 26 _,.v 27 _] [.g 0,.o 2] ae U (zQ G (AS 1 zd zd) (.cons ab .nil) (zl 1 G ar (zQ G (AV _ _) (.p (vq 0 G) (vq 1 G)) o0))) zk zk zk zk (zz [(2,_),(27,_)] [O 1 28 _,O 3 26 _] λ a w U=>?_)
  refine aa<|aj U (zm 1 G) (λ hb1=>?_) (λ hb1=>?_)
  ·refine qb<|zg [η,η] [] [.v 2 _] [.o 0] U (zv G (ac ab) o0) (zz [(2,_)] [O 1 28 _,O 3 26 _] λ a w U=>?_)
   refine aa<|qg<|al ?_
   refine ao ?_ (an G U (zm 0 G))
   have e1:=rchk1 hb1; exact aZ (qm In (by rw [show okF ⟨riOf p,riOf q⟩=false from by unfold okF; rw [bv,bv]; simp [show ¬ Nat.gcd p.natAbs q.natAbs=1 from e1]]; rfl))
  ·refine qh<|zt<|zg [η,η] [] [.v 2 _] [.o 0] U (zv G (ac ab) o0) (zz [(2,_)] [O 1 28 _,O 3 26 _] λ a w U=>?_)
   refine aa<|qg<|ao ?_ (an G U (zm 0 G))
   have e1:=rchk2 hb1 hgn; exact aZ (qm In (by rw [show okF ⟨riOf p,riOf q⟩=true from by unfold okF; rw [bv,bv,ok1 hb0.1.1,ok1 hb0.1.2]; simp [hq0,show Nat.gcd p.natAbs q.natAbs=1 from e1]]; rfl))
theorem tF : ∃ fn, Tryz.prog.funcs[191]? = some fn ∧ (fn.name == "runtime.NumGoroutine") = false ∧ fn.body.isNone = false := ⟨_, Tryz.func191, by kernel_rfl, by kernel_rfl⟩
theorem v7 (x:RF):Cn Tryz.prog 191 [(RFA x).va] (In (if okX x then 0 else 1)) :=
 Cn.know (c:=okL x.num.mag∧okL x.den.mag) tF (λ B w args ha=>by cases ha with | cons h1 _=>exact mq h1) λ h=>(sZ x.num x.den).post (by rw [rL h])
theorem gE (xs:List RF)(hl:xs.length≤1099511627776):Cn Tryz.prog 119 [(SlA 28 [U32] (xs.map RFA)).va] (Bo (xs.all okX)):=by
 refine Cn.introW Tryz.func119 rfl zk nq (.cons (fC (λ A hA=>by obtain ⟨x,_,rfl⟩:=qq.1 hA; exact fE x)).va .nil) (dv _).va (λ B w0 a hB0 U=>?_)
 have U:=zn [(0,(SlO 28 [U32] (xs.map RFA) True).va)] [] U
 refine qb<|zh [.v 2 _] [.g 0,.o 0] U (zv G (ac aJ) o0) (zz [(0,_),(2,_)] [] λ a w U=>?_)
 refine zt<|qb<|zh [.v 3 _] [.g 0,.g 1,.o 0] U (zv G (ac ab) o0) (zz [(0,_),(2,_),(3,_)] [] λ a w U=>?_)
 refine aa<|qj ?_
 have U:=St.sel U [0,2]
 refine wp_loop_ghost (λ n a w=>∃ j:Nat,(n+j=xs.length∧(xs.take j).all okX=true)∧St B w0 16 [(0,(SlO 28 [U32] (xs.map RFA) True).va),(3,In (j:Nat))] [] a w) (xs.length) ?_ ?_
 ·exact ⟨0,⟨by omega,rfl⟩,U⟩
 intro n a w hI
 obtain ⟨j,⟨hn,hno⟩,U⟩:=hI
 refine qb<|qb<|zh [.v 4 _,.v 5 _,.v 6 _,.v 7 _] [.g 0,.g 1,.o 3] U (zM 1 G (zM 0 G (zv G (bg Tryz.underlying22 (bm (aD (vq 1 G)))) (zv G (aS (vq 0 G) (vq 2 G)) o0)))) (zz [(0,_),(3,_),(7,_)] [] λ a w U=>?_)
 refine aa<|aj U (zm 2 G) (λ hb0=>?_) (λ hb0=>?_)
 ·have hj:j<xs.length:=by simp at hb0; omega
  refine qh<|zt<|qj<|qb<|zh [.v 10 _,.v 11 _,.v 12 _,.v 13 _,.v 14 _,.v 15 _] [.g 0,.g 1,.o 5] U (zM 0 G (zM 1 G (zv G (bH cO (bW λ _=>rfl) (bm (aD (vq 0 G))) (vq 1 G) (bz hj)) (zv G (au (vq 2 G) ax) (zQ G (v7 _) (.o (vq 3 G)) (zv G (bX (vq 4 G) ab) o0)))))) (zz [(0,_),(3,_),(15,_)] [] λ a w U=>?_)
  refine aa<|aj U (zm 2 G) (λ hb1=>?_) (λ hb1=>?_)
  ·refine qb<|zh [.v 2 _] [.g 0,.g 1,.o 0] U (zv G (ac aJ) o0) (zz [(0,_),(3,_),(2,_)] [] λ a w U=>?_)
   refine aa<|qg<|aE ?_
   refine al ?_
   refine al ?_
   refine aE ?_
   refine al ?_
   refine aC ?_ (an G U (zm 2 G))
   rw [← ok_no hj hb1]
  ·refine qh<|ap ?_
   refine aa<|zh [.v 8 _,.v 9 _,.v 3 _] [.g 0,.o 2] U (zM 1 G (zv G (aN (vq 0 G) ab (ba zo)) (zA 1 G o0))) (zz [(0,_),(3,_)] [] λ a w U=>?_)
   refine aa ?_
   have U:=St.sel U [0,1]
   exact ⟨n-1,by omega,j+1,⟨by omega,Dn hj hno hb1⟩,U⟩
 ·obtain rfl:j=xs.length:=by simp at hb0; omega
  refine qK<|am<|am<|aB<|zt<|zh [.v 2 _] [.o 0] U (zv G (ac aJ) o0) (zz [(2,_)] [] λ a w U=>?_)
  refine aa<|qg<|aC ?_ (an G U (zm 0 G))
  rw [qF] at hno; rw [hno]
theorem Fi  : Cn Tryz.prog 203 [] ((QMA 2 ⟨1,0,0,1⟩).va):=by
 refine Cn.intro Tryz.func203 G zk nq (λ B w0 a U=>?_)
 have U:=zn [] [] U
 refine qb<|zg [] [⟨0,126,ptrH,some 0,_,none⟩] [.alc 0] [] U (zY G (Str.zero cC) o0) (zz [] [O 0 126 _] λ a w U=>?_)
 refine zt<|zg [some (5,_)] [] [.v 1 _,.v 2 _,.v 3 _,.v 4 _,.v 5 _,.sto 0] [] U (zQ G fo .nil (zQ G cE .nil (zQ G cE .nil (zQ G fo .nil (zv G (aU (qs:=[(0,_),(1,_),(2,_),(3,_)]) cC (.cons ⟨rfl,vq 0 rfl,rfl⟩ (.cons ⟨rfl,vq 1 rfl,rfl⟩ (.cons ⟨rfl,vq 2 rfl,rfl⟩ (.cons ⟨rfl,vq 3 rfl,rfl⟩ .nil))))) (zS 4 G cB o0)))))) (zz [] [O 0 126 _] λ a w U=>?_)
 refine aa<|qg<|ao ?_ (aA G U (zm 0 G) cB)
 exact aL
theorem big_e {x:RI}:decide ((x.mag.length:Int)>2048)=bigI x:=by unfold bigI; simp
theorem lq_e {q:Rat}:(bigI (riOf q.num) || bigI (riOf (q.den:Int)))=longQ q:=by simp [longQ]
theorem rG (x:RI):Cn Tryz.prog 133 [(RIA x).va] (Bo (bigI x)):=by
 refine Cn.intro Tryz.func133 G zk nq (λ B w0 a U=>?_)
 have U:=zn [(0,(RIA x).va)] [] U
 refine qb<|zg [] [⟨1,26,ptrH,some 0,_,none⟩] [.alc 0,.v 2 _] [.o 1] U (zW 0 G (zv G (ac aJ) o0)) (zz [(2,_)] [O 1 26 _] λ a w U=>?_)
 refine zt<|zg [η] [] [.adr 3 1 (.some 1) True,.v 4 _,.v 5 _,.v 6 _,.v 2 _] [.o 4] U (zO 0 G ay (zL 0 0 1 G aX (zv G (aI Tryz.underlying24 (vq 1 G)) (zv G (ci (vq 2 G) ab) (zA 3 G o0))))) (zz [(2,_)] [O 1 26 _] λ a w U=>?_)
 refine aa<|qg<|ao ?_ (an G U (zm 0 G))
 exact aZ (qm Bo big_e)
theorem B1 {L:List As}(qs:List Rat)(hL:All2 IsQ L qs)(hl:qs.length≤1099511627776):Cn Tryz.prog 35 [(SlA 28 [U32] L).va] (Bo (qs.any longQ)):=by
 have hLl:=hL.length
 refine Cn.introW Tryz.func35 G zk nq (.cons (fC (DE hL)).va .nil) (dv _).va (λ B w0 a hB0 U=>?_)
 have U:=zn [(0,(SlO 28 [U32] L True).va)] [] U
 refine qb<|zh [.v 2 _] [.g 0,.o 0] U (zv G (ac aJ) o0) (zz [(0,_),(2,_)] [] λ a w U=>?_)
 refine zt<|qb<|zh [.v 3 _] [.g 0,.g 1,.o 0] U (zv G (ac ab) o0) (zz [(0,_),(2,_),(3,_)] [] λ a w U=>?_)
 refine aa<|qj ?_
 have U:=St.sel U [0,2]
 refine wp_loop_ghost (λ n a w=>∃ j:Nat,(n+j=qs.length∧(qs.take j).any longQ=false)∧St B w0 24 [(0,(SlO 28 [U32] L True).va),(3,In (j:Nat))] [] a w) (qs.length) ?_ ?_
 ·exact ⟨0,⟨by omega,rfl⟩,U⟩
 intro n a w hI
 obtain ⟨j,⟨hn,hno⟩,U⟩:=hI
 refine qb<|qb<|zh [.v 4 _,.v 5 _,.v 6 _,.v 7 _] [.g 0,.g 1,.o 3] U (zM 1 G (zM 0 G (zv G (bg Tryz.underlying22 (bm (aD (vq 1 G)))) (zv G (aS (vq 0 G) (vq 2 G)) o0)))) (zz [(0,_),(3,_),(7,_)] [] λ a w U=>?_)
 refine aa<|aj U (zm 2 G) (λ hb0=>?_) (λ hb0=>?_)
 ·have hj:j<qs.length:=by rw [hLl] at hb0; simp at hb0; omega
  obtain ⟨kj,hLj⟩:=DF hL hj
  refine qh<|zt<|qj<|qb<|zh [.v 10 _,.v 11 _,.v 12 _,.v 13 _,.v 14 _,.v 15 _,.v 16 _,.f 17 _,.f 18 _,.f 19 _,.f 20 _,.f 21 _,.f 22 _,.v 23 _] [.g 0,.g 1,.o 13] U (zM 0 G (zM 1 G (zv G (bH cO (Gc hL) (bm (aD (vq 0 G))) (vq 1 G) hLj) (zv G (bL (vq 2 G) aW (Sub.part 0 G G)) (zv G (au (vq 3 G) ar) (zQ G ((rG (riOf (qs[j]).num)).wk (.cons zaA.va .nil)) (.o (vq 4 G)) (zv G (ai (vq 5 G)) (zB 6 G (λ hg=>ai (gq 0 G)) (zB 6 G (λ hg=>ai (gq 1 G)) (zB 6 G (λ hg=>bH cO (Gc hL) (bm (aD (ak (vq 7 G) hg))) (ak (vq 8 G) hg) hLj) (zB 6 G (λ hg=>bL (ak (vq 9 G) hg) aR (Sub.part 1 G G)) (zB 6 G (λ hg=>au (ak (vq 10 G) hg) ar) (zB 6 G (λ hg=>be ((rG (riOf ((qs[j]).den:Int))).wk (.cons zaA.va .nil)) (.o (ak (vq 11 G) hg))) (zv G (r_or (vq 6 G) (vq 12 G)) o0)))))))))))))) (zz [(0,_),(3,_),(23,_)] [] λ a w U=>?_)
  refine aa<|aj U (zm 2 G) (λ hb1=>?_) (λ hb1=>?_)
  ·rw [lq_e] at hb1
   refine qb<|zh [.v 2 _] [.g 0,.g 1,.o 0] U (zv G (ac aJ) o0) (zz [(0,_),(3,_),(2,_)] [] λ a w U=>?_)
   refine aa<|qg<|aE ?_
   refine al ?_
   refine al ?_
   refine aE ?_
   refine al ?_
   refine aC ?_ (an G U (zm 2 G))
   rw [← wA hj hb1]
  ·rw [lq_e] at hb1
   refine qh<|ap ?_
   refine aa<|zh [.v 8 _,.v 9 _,.v 3 _] [.g 0,.o 2] U (zM 1 G (zv G (aN (vq 0 G) ab (ba zo)) (zA 1 G o0))) (zz [(0,_),(3,_)] [] λ a w U=>?_)
   refine aa ?_
   have U:=St.sel U [0,1]
   exact ⟨n-1,by omega,j+1,⟨by omega,lq_no hj hno hb1⟩,U⟩
 ·obtain rfl:j=qs.length:=by rw [hLl] at hb0; simp at hb0; omega
  refine qK<|am<|am<|aB<|zt<|zh [.v 2 _] [.o 0] U (zv G (ac aJ) o0) (zz [(2,_)] [] λ a w U=>?_)
  refine aa<|qg<|aC ?_ (an G U (zm 0 G))
  rw [qF] at hno; rw [hno]
theorem kd6 {k ps qs:Int}(h1:(k==1)=false)(h2:(k==2)=false)(h3:(k==3)=false)(h4:(k==4)=false)(h5:(k==5)=true):elK k ps qs=((ps==0)&&(qs==0)):=by rw [kd5 h1 h2 h3 h4,h5]; rfl
theorem kd7 {k ps qs:Int}(h1:(k==1)=false)(h2:(k==2)=false)(h3:(k==3)=false)(h4:(k==4)=false)(h5:(k==5)=false):elK k ps qs=false:=by rw [kd5 h1 h2 h3 h4,h5]; rfl
theorem fM {c:Nat}{x:Rat}:Cn Tryz.prog 228 [Qs c x] (Bo (x.num.sign==0)):=by
 refine Cn.intro Tryz.func228 G zk nq (λ B w0 a U=>?_)
 have U:=zn [(0,Qs c x)] [] U
 refine qb<|zg [] [⟨1,28,ptrH,some 0,_,none⟩] [.alc 0,.v 2 _] [.o 1] U (zW 0 G (zv G (ac aJ) o0)) (zz [(2,_)] [O 1 28 _] λ a w U=>?_)
 refine zt<|zg [η] [] [.v 3 _,.v 4 _,.v 5 _,.v 2 _] [.o 3] U (zl 0 G ax (zQ G r2sign_q (.o (vq 0 G)) (zv G (bC (vq 1 G) ab) (zA 2 G o0)))) (zz [(2,_)] [O 1 28 _] λ a w U=>?_)
 refine aa<|qg<|ao ?_ (an G U (zm 0 G))
 exact aL
theorem B3 (x:RE):Cn Tryz.prog 193 [(REA x).va] (Bo (elF x)):=by
 refine Cn.intro Tryz.func193 G zk nq (λ B w0 a U=>?_)
 have U:=zn [(0,(REA x).va)] [] U
 refine qb<|zg [] [⟨1,98,ptrH,some 0,_,none⟩] [.alc 0,.v 2 _] [.o 1] U (zW 0 G (zv G (ac aJ) o0)) (zz [(2,_)] [O 1 98 _] λ a w U=>?_)
 refine zt<|qb<|zg [η] [] [.adr 3 1 (.some 1) True,.v 4 _,.adr 5 1 (.some 5) True,.v 6 _,.v 7 _,.v 8 _,.v 9 _] [.g 0,.o 6] U (zO 0 G bR (zL 0 0 1 G ax (zO 0 G c9 (zL 2 0 2 G ax (zv G (bJ (D:=[U32]) (l:=[_,_]) (xs:=[.tmp 4,.tmp 6]) (cT zk) cO zk (n_ok zk) nq nq nq (.p (vq 1 G) (vq 3 G)) G G) (zQ G (gE [x.p,x.q] nq) (.o (vq 4 G)) (zv G (dY (vq 5 G)) o0))))))) (zz [(2,_),(9,_)] [O 1 98 _] λ a w U=>?_)
 refine aa<|aj U (zm 1 G) (λ hb0=>?_) (λ hb0=>?_)
 ·refine qb<|zg [η] [] [.v 2 _] [.o 0] U (zv G (ac aJ) o0) (zz [(2,_)] [O 1 98 _] λ a w U=>?_)
  refine aa<|qg<|al ?_
  refine ao ?_ (an G U (zm 0 G))
  rw [DL hb0]; exact aL
 ·obtain ⟨hx,he⟩:=DK hb0
  have U:=St.wkL U 0 rfl (el_q hx)
  refine qh<|zt<|qb<|zg [η] [] [.adr 10 1 (.some 0) True,.v 11 _] [.g 0,.o 1] U (zO 0 G dE (zL 0 0 0 G nD o0)) (zz [(2,_),(11,_)] [O 1 98 _] λ a w U=>?_)
  refine aa<|qj<|qb<|zg [η] [] [.v 13 _,.v 12 _] [.g 0,.g 1,.o 1] U (zv G (bC (gq 1 G) ab) (zA 0 G o0)) (zz [(2,_),(11,_),(12,_)] [O 1 98 _] λ a w U=>?_)
  refine aa<|aj U (zm 2 G) (λ hb1=>?_) (λ hb1=>?_)
  ·refine qb<|zg [η] [] [.adr 14 1 (.some 1) True,.v 15 _,.v 16 _,.v 17 _,.v 18 _,.adr 19 1 (.some 5) (_=true),.t 20 _,.t 21 _,.v 22 _,.v 2 _] [.o 9] U (zO 0 G bR (zL 0 0 1 G ax (zQ G r2sign_q (.o (vq 1 G)) (zv G (d9 (vq 2 G) ab) (zv G (ai (vq 3 G)) (zC 4 0 G c9 (zB 4 G (λ hg=>aF 5 G zk hg (lz0 0 G) (Sub.part 2 G G) ax) (zB 4 G (λ hg=>be fM (.o (ak (vq 6 G) hg))) (zv G (bA (vq 4 G) (vq 7 G)) (zA 8 G o0)))))))))) (zz [(2,_)] [O 1 98 _] λ a w U=>?_)
   refine aa<|qg<|aE ?_
   refine al ?_
   refine ao ?_ (an G U (zm 0 G))
   rw [he,kd1 hb1]; exact aL
  ·refine qb<|zg [η] [] [.v 24 _,.v 23 _] [.g 0,.g 1,.o 1] U (zv G (bC (gq 1 G) ab) (zA 0 G o0)) (zz [(2,_),(11,_),(23,_)] [O 1 98 _] λ a w U=>?_)
   refine aa<|aj U (zm 2 G) (λ hb2=>?_) (λ hb2=>?_)
   ·refine qb<|zg [η] [] [.adr 25 1 (.some 5) True,.v 26 _,.v 27 _,.v 2 _] [.o 3] U (zO 0 G c9 (zL 0 0 2 G ax (zQ G fM (.o (vq 1 G)) (zA 2 G o0)))) (zz [(2,_)] [O 1 98 _] λ a w U=>?_)
    refine aa<|qg<|aE ?_
    refine al ?_
    refine ao ?_ (an G U (zm 0 G))
    rw [he,kd2 hb1 hb2]; exact aL
   ·refine qb<|zg [η] [] [.v 29 _,.v 28 _] [.g 0,.g 1,.o 1] U (zv G (bC (gq 1 G) ab) (zA 0 G o0)) (zz [(2,_),(11,_),(28,_)] [O 1 98 _] λ a w U=>?_)
    refine aa<|aj U (zm 2 G) (λ hb3=>?_) (λ hb3=>?_)
    ·refine qb<|zg [η] [] [.adr 30 1 (.some 1) True,.v 31 _,.v 32 _,.v 33 _,.v 34 _,.adr 35 1 (.some 5) (_=true),.t 36 _,.t 37 _,.t 38 _,.v 39 _,.v 2 _] [.o 10] U (zO 0 G bR (zL 0 0 1 G ax (zQ G r2sign_q (.o (vq 1 G)) (zv G (d9 (vq 2 G) ab) (zv G (ai (vq 3 G)) (zC 4 0 G c9 (zB 4 G (λ hg=>aF 5 G zk hg (lz0 0 G) (Sub.part 2 G G) ax) (zB 4 G (λ hg=>be r2sign_q (.o (ak (vq 6 G) hg))) (zB 4 G (λ hg=>ci (ak (vq 7 G) hg) ab) (zv G (bA (vq 4 G) (vq 8 G)) (zA 9 G o0))))))))))) (zz [(2,_)] [O 1 98 _] λ a w U=>?_)
     refine aa<|qg<|aE ?_
     refine al ?_
     refine ao ?_ (an G U (zm 0 G))
     rw [he,kd3 hb1 hb2 hb3]; exact aL
    ·refine qb<|zg [η] [] [.v 41 _,.v 40 _] [.g 0,.g 1,.o 1] U (zv G (bC (gq 1 G) ab) (zA 0 G o0)) (zz [(2,_),(11,_),(40,_)] [O 1 98 _] λ a w U=>?_)
     refine aa<|aj U (zm 2 G) (λ hb4=>?_) (λ hb4=>?_)
     ·refine qb<|zg [η] [] [.v 2 _] [.o 0] U (zv G (ac aJ) o0) (zz [(2,_)] [O 1 98 _] λ a w U=>?_)
      refine aa<|qg<|aE ?_
      refine al ?_
      refine ao ?_ (an G U (zm 0 G))
      rw [he,kd4 hb1 hb2 hb3 hb4]; exact aL
     ·refine qb<|zg [η] [] [.v 43 _,.v 42 _] [.g 0,.o 1] U (zv G (bC (gq 1 G) ab) (zA 0 G o0)) (zz [(2,_),(42,_)] [O 1 98 _] λ a w U=>?_)
      refine aa<|aj U (zm 1 G) (λ hb5=>?_) (λ hb5=>?_)
      ·refine qb<|zg [η] [] [.adr 44 1 (.some 1) True,.v 45 _,.v 46 _,.v 47 _,.adr 48 1 (.some 5) (_=true),.t 49 _,.t 50 _,.v 51 _,.v 2 _] [.o 8] U (zO 0 G bR (zL 0 0 1 G ax (zQ G fM (.o (vq 1 G)) (zv G (ai (vq 2 G)) (zC 3 0 G c9 (zB 3 G (λ hg=>aF 4 G zk hg (lz0 0 G) (Sub.part 2 G G) ax) (zB 3 G (λ hg=>be fM (.o (ak (vq 5 G) hg))) (zv G (bA (vq 3 G) (vq 6 G)) (zA 7 G o0))))))))) (zz [(2,_)] [O 1 98 _] λ a w U=>?_)
       refine aa<|qg<|aE ?_
       refine al ?_
       refine ao ?_ (an G U (zm 0 G))
       rw [he,kd6 hb1 hb2 hb3 hb4 hb5]; exact aL
      ·refine qh<|ap ?_
       refine zt<|zg [η] [] [.v 2 _] [.o 0] U (zv G (ac aJ) o0) (zz [(2,_)] [O 1 98 _] λ a w U=>?_)
       refine aa<|qg<|ao ?_ (an G U (zm 0 G))
       rw [he,kd7 hb1 hb2 hb3 hb4 hb5]; exact aL
theorem ui {s:ByteArray}{j:Nat}(hj:j<s.size):s[j]?=some (s.data.toList.getD j 0):=by
 have h1:j<s.data.toList.length:=by simpa using hj
 rw [getElem?_pos s j hj]
 simp only [Option.some.injEq,List.getD]
 rw [List.getElem?_eq_getElem h1]
 simp [ByteArray.getElem_eq_getElem_data]
theorem by_at {s:ByteArray}{j:Nat}(hj:j<(byL s).length):(s.data.toList.getD j 0).toNat=(byL s)[j]:=by
 have h1:j<s.data.toList.length:=by simpa [byL] using hj
 simp only [List.getD]
 rw [List.getElem?_eq_getElem h1]
 show (s.data.toList[j]).toNat=(s.data.toList.map UInt8.toNat)[j]'hj
 exact (vm _).symm
theorem bok_r (b:Nat):(((decide ((b:Int)≥97)&&decide ((b:Int)≤122)) || (decide ((b:Int)≥48)&&decide ((b:Int)≤57))) || ((b:Int)==45))=bOk b:=by
 unfold bOk
 rw [xW]
 simp only [zw,ql,qH,xc,qv,jb,qI,qk,bne_eq_false_iff_eq]
 omega
theorem vI (s:ByteArray):Cn Tryz.prog 192 [EqV (.string s)] (Bo (namF s)):=by
 refine Cn.intro Tryz.func192 G zk nq (λ B w0 a U=>?_)
 have U:=zn [(0,EqV (.string s))] [] U
 refine qb<|zh [.v 2 _] [.g 0,.o 0] U (zv G (ac aJ) o0) (zz [(0,_),(2,_)] [] λ a w U=>?_)
 refine zt<|qb<|zh [.v 4 _,.v 5 _,.v 6 _,.v 7 _,.f 8 _,.f 9 _,.f 10 _,.v 11 _,.v 12 _,.f 13 _,.f 14 _,.f 15 _,.v 16 _,.v 17 _,.f 18 _,.f 19 _,.f 20 _,.v 21 _] [.g 0,.g 1,.o 17] U (zM 0 G (zv G (eT zk (vq 0 G)) (zv G (aS (vq 1 G) ab) (zv G (ai (vq 2 G)) (zB 3 G (λ hg=>ai (gq 0 G)) (zB 3 G (λ hg=>eT zk (ak (vq 4 G) hg)) (zB 3 G (λ hg=>ci (ak (vq 5 G) hg) ab) (zv G (r_or (vq 3 G) (vq 6 G)) (zv G (ai (vq 7 G)) (zB 8 G (λ hg=>ai (gq 0 G)) (zB 8 G (λ hg=>cS zk (ak (vq 9 G) hg) ab (st_0 hg).1) (zB 8 G (λ hg=>aS (ak (vq 10 G) hg) ab) (zv G (r_or (vq 8 G) (vq 11 G)) (zv G (ai (vq 12 G)) (zB 13 G (λ hg=>ai (gq 0 G)) (zB 13 G (λ hg=>cS zk (ak (vq 14 G) hg) ab (st_0 (nm_1 hg)).1) (zB 13 G (λ hg=>ci (ak (vq 15 G) hg) ab) (zv G (r_or (vq 13 G) (vq 16 G)) o0)))))))))))))))))) (zz [(0,_),(2,_),(21,_)] [] λ a w U=>?_)
 refine aa<|aj U (zm 2 G) (λ hb0=>?_) (λ hb0=>?_)
 ·have hd:nmH s=true:=nm_y hb0
  refine qb<|zh [.v 2 _] [.g 0,.o 0] U (zv G (ac aJ) o0) (zz [(0,_),(2,_)] [] λ a w U=>?_)
  refine aa<|qg<|al ?_
  refine ao ?_ (an G U (zm 1 G))
  rw [namF,qz hd]; exact aL
 ·have hd:nmH s=false:=nm_y hb0
  have hsz:=FK hd
  have hbl:=np s
  refine qh<|zt<|qb<|zh [.v 3 _] [.g 0,.g 1,.o 0] U (zv G (ac ab) o0) (zz [(0,_),(2,_),(3,_)] [] λ a w U=>?_)
  refine aa<|qj ?_
  have U:=St.sel U [0,2]
  refine wp_loop_ghost (λ n a w=>∃ j:Nat,(n+j=(byL s).length∧((byL s).take j).all bOk=true)∧St B w0 57 [(0,EqV (.string s)),(3,In (j:Nat))] [] a w) ((byL s).length) ?_ ?_
  ·exact ⟨0,⟨by omega,rfl⟩,U⟩
  intro n a w hI
  obtain ⟨j,⟨hn,hno⟩,U⟩:=hI
  refine qb<|qb<|zh [.v 22 _,.v 23 _,.v 24 _,.v 25 _] [.g 0,.g 1,.o 3] U (zM 1 G (zM 0 G (zv G (eT zk (vq 1 G)) (zv G (aS (vq 0 G) (vq 2 G)) o0)))) (zz [(0,_),(3,_),(25,_)] [] λ a w U=>?_)
  refine aa<|aj U (zm 2 G) (λ hb1=>?_) (λ hb1=>?_)
  ·have hj:j<(byL s).length:=by have:=qp hb1; omega
   have hj2:j<s.size:=by omega
   refine qh<|zt<|qj<|qb<|gl (sts:=[]) (news:=[]) (sp:=((.v 28 _:Sp)::(.v 29 _)::(.v 30 _)::(.v 31 _)::(.v 32 _)::(.t 33 _)::(.t 34 _)::(.t 35 _)::(.t 36 _)::(.v 37 _)::(.v 38 _)::(.f 39 _)::(.f 40 _)::(.f 41 _)::(.f 42 _)::(.f 43 _)::(.v 44 (Wh ((_=false)∧_=true) _))::(.v 45 (Wh ((_=false)∧_=true) _))::(.v 46 (Wh ((_=false)∧_=true) _))::(.v 47 (Wh ((_=false)∧_=true) _))::(.f 48 _)::(.v 49 _)::(.v 50 _)::(.f 51 _)::(.f 52 _)::(.f 53 _)::(.f 54 _)::(.v 55 _)::(.v 56 _)::[])) [.g 0,.g 1,.o 28] U (zM 0 G (zM 1 G (zv G (cS zk (vq 0 G) (vq 1 G) (ui hj2)) (zv G (d9 (vq 2 G) ab) (zv G (ai (vq 3 G)) (zB 4 G (λ hg=>ai (gq 0 G)) (zB 4 G (λ hg=>ai (gq 1 G)) (zB 4 G (λ hg=>cS zk (ak (vq 5 G) hg) (ak (vq 6 G) hg) (ui hj2)) (zB 4 G (λ hg=>gz (ak (vq 7 G) hg) ab) (zv G (bA (vq 4 G) (vq 8 G)) (zv G (ai (vq 9 G)) (zB 10 G (λ hg=>ai (gq 0 G)) (zB 10 G (λ hg=>ai (gq 1 G)) (zB 10 G (λ hg=>cS zk (ak (vq 11 G) hg) (ak (vq 12 G) hg) (ui hj2)) (zB 10 G (λ hg=>d9 (ak (vq 13 G) hg) ab) (zB 10 G (λ hg=>ai (ak (vq 14 G) hg)) (oc (bT G G G (vq 15 G) nq (λ hg=>ai (gq 0 G))) (oc (bT G G G (vq 15 G) nq (λ hg=>ai (gq 1 G))) (oc (bT G G G (vq 15 G) nq (λ hg=>cS zk (ak (vq 16 G) hg) (ak (vq 17 G) hg) (ui hj2))) (oc (bT G G G (vq 15 G) nq (λ hg=>gz (ak (vq 18 G) hg) ab)) (zB 10 G (λ hg=>bA (ak (vq 15 G) hg) (fu (vq 19 G) hg)) (zv G (r_or (vq 10 G) (vq 20 G)) (zv G (ai (vq 21 G)) (zB 22 G (λ hg=>ai (gq 0 G)) (zB 22 G (λ hg=>ai (gq 1 G)) (zB 22 G (λ hg=>cS zk (ak (vq 23 G) hg) (ak (vq 24 G) hg) (ui hj2)) (zB 22 G (λ hg=>bC (ak (vq 25 G) hg) ab) (zv G (r_or (vq 22 G) (vq 26 G)) (zv G (dY (vq 27 G)) o0))))))))))))))))))))))))))))) (zz [(0,_),(3,_),(56,_)] [] λ a w U=>?_)
   refine aa<|aj U (zm 2 G) (λ hb2=>?_) (λ hb2=>?_)
   ·have hq:bOk (byL s)[j]=false:=by rw [← by_at hj,← bok_r]; exact (by rw [qv] at hb2; exact hb2)
    refine qb<|zh [.v 2 _] [.g 0,.g 1,.o 0] U (zv G (ac aJ) o0) (zz [(0,_),(3,_),(2,_)] [] λ a w U=>?_)
    refine aa<|qg<|aE ?_
    refine al ?_
    refine al ?_
    refine aE ?_
    refine al ?_
    refine ao ?_ (an G U (zm 2 G))
    rw [namF,qw (by rw [hd]; decide),lp hj hq]; exact aL
   ·have hq:bOk (byL s)[j]=true:=by rw [← by_at hj,← bok_r]; exact (by rw [jr] at hb2; exact hb2)
    refine qh<|ap ?_
    refine aa<|zh [.v 26 _,.v 27 _,.v 3 _] [.g 0,.o 2] U (zM 1 G (zv G (aN (vq 0 G) ab ((wi64 zo zo).trans (by omega:(_:Int)=((j+1:Nat):Int)))) (zA 1 G o0))) (zz [(0,_),(3,_)] [] λ a w U=>?_)
    refine aa ?_
    have U:=St.sel U [0,1]
    exact ⟨n-1,by omega,j+1,⟨by omega,lr hj hno hq⟩,U⟩
  ·obtain rfl:j=(byL s).length:=by have:=qr hb1; omega
   refine qK<|am<|am<|aB<|zt<|zh [.v 2 _] [.o 0] U (zv G (ac aJ) o0) (zz [(2,_)] [] λ a w U=>?_)
   refine aa<|qg<|ao ?_ (an G U (zm 0 G))
   rw [qF] at hno; rw [namF,qw (by rw [hd]; decide),hno]; exact aL
theorem gF (t:RTk):Cn Tryz.prog 29 [(TkA t).va] (In (sloF t)):=by
 refine Cn.intro Tryz.func29 G zk nq (λ B w0 a U=>?_)
 have U:=zn [(0,(TkA t).va)] [] U
 refine qb<|zg [] [⟨1,30,ptrH,some 0,_,none⟩] [.alc 0,.v 2 _] [.o 1] U (zW 0 G (zv G (ac ab) o0)) (zz [(2,_)] [O 1 30 _] λ a w U=>?_)
 refine zt<|zg [η] [] [.adr 3 1 (.some 0) True,.v 4 _,.v 5 _,.v 6 _,.v 2 _] [.o 4] U (zO 0 G bU (zL 0 0 0 G ew (zv G (bg Tryz.underlying22 (vq 1 G)) (zv G (c6 (vq 2 G) ab (G)) (zA 3 G o0))))) (zz [(2,_)] [O 1 30 _] λ a w U=>?_)
 refine aa<|qg<|ao ?_ (an G U (zm 0 G))
 simp only [qc]; exact aL
theorem pt_r (p:RPt):(((namF p.nm&&elF p.e)&&decide (p.c≥0))&&decide (p.c≤1073741824))=ptF p:=by
 have e:(chF [p.e] != 0) = !elF p.e:=by
  unfold chF
  rw [qw (by simp)]
  simp only [xS,x8,xT]
  cases elF p.e <;> rfl
 unfold ptF
 rw [e,xW]
 simp only [qv,qI,ql,jr,qH,qk]
 constructor
 ·rintro ⟨⟨⟨h1,h2⟩,h3⟩,h4⟩
  exact ⟨⟨⟨h1,h2⟩,by omega⟩,by omega⟩
 ·rintro ⟨⟨⟨h1,h2⟩,h3⟩,h4⟩
  exact ⟨⟨⟨h1,h2⟩,by omega⟩,by omega⟩
theorem vF (p:RPt):Cn Tryz.prog 121 [(PtA p).va] (Bo (ptF p)):=by
 refine Cn.intro Tryz.func121 G zk nq (λ B w0 a U=>?_)
 have U:=zn [(0,(PtA p).va)] [] U
 refine qb<|zg [] [⟨1,100,ptrH,some 0,_,none⟩] [.alc 0,.v 2 _] [.o 1] U (zW 0 G (zv G (ac aJ) o0)) (zz [(2,_)] [O 1 100 _] λ a w U=>?_)
 refine zt<|zg [η] [] [.adr 3 1 (.some 0) True,.v 4 _,.v 5 _,.v 6 _,.adr 7 1 (.some 1) (_=true),.t 8 _,.t 9 _,.v 10 _,.v 11 _,.adr 12 1 (.some 10) (_=true),.t 13 _,.t 14 _,.v 15 _,.v 16 _,.adr 17 1 (.some 10) (_=true),.t 18 _,.t 19 _,.v 20 _,.v 2 _] [.o 18] U (zO 0 G cM (zL 0 0 0 G ty_9 (zQ G ((vI _).wk (.cons tH .nil)) (.o (vq 1 G)) (zv G (ai (vq 2 G)) (zC 3 0 G da (zB 3 G (λ hg=>aF 4 G zk hg (lz0 0 G) (Sub.part 1 G G) fh) (zB 3 G (λ hg=>be (B3 _) (.o (ak (vq 5 G) hg))) (zv G (bA (vq 3 G) (vq 6 G)) (zv G (ai (vq 7 G)) (zC 8 0 G co (zB 8 G (λ hg=>aF 9 G zk hg (lz0 0 G) (Sub.part 2 G G) ty_3) (zB 8 G (λ hg=>d9 (ak (vq 10 G) hg) ab) (zv G (bA (vq 8 G) (vq 11 G)) (zv G (ai (vq 12 G)) (zC 13 0 G co (zB 13 G (λ hg=>aF 14 G zk hg (lz0 0 G) (Sub.part 2 G G) ty_3) (zB 13 G (λ hg=>gz (ak (vq 15 G) hg) ab) (zv G (bA (vq 13 G) (vq 16 G)) (zA 17 G o0))))))))))))))))))) (zz [(2,_)] [O 1 100 _] λ a w U=>?_)
 refine aa<|qg<|ao ?_ (an G U (zm 0 G))
 exact aZ (qm Bo (pt_r p))
theorem pk_so {q:Int→Bool}{xs:List Int}{j:Nat}(hj:j<xs.length)(h:q xs[j]=true):xs.any q=true:=xQ.2 ⟨_,qf hj,h⟩
theorem pk_nx {q:Int→Bool}{xs:List Int}{j:Nat}(hj:j<xs.length)(h1:(xs.take j).any q=false)(h2:q xs[j]=false):(xs.take (j+1)).any q=false:=by
 rw [qu hj,jL,h1]
 simp [h2]
theorem t5 (t:RTk)(xs:List Int):Cn Tryz.prog 30 [(TkA t).va,(SlA 3 [] (xs.map InA)).va] (Bo (!xs.any (pkQ t))):=by
 refine Cn.intro Tryz.func30 G zk nq (λ B w0 a U=>?_)
 have U:=zn [(0,(TkA t).va),(1,(SlA 3 [] (xs.map InA)).va)] [] U
 have hl:=dV (U.vals (1,(SlA 3 [] (xs.map InA)).va) (zm 1 rfl))
 refine qb<|zg [] [⟨2,30,ptrH,some 0,_,none⟩] [.alc 0,.v 4 _] [.g 1,.o 1] U (zW 0 G (zv G (ac aJ) o0)) (zz [(1,_),(4,_)] [O 2 30 _] λ a w U=>?_)
 refine zt<|qb<|zg [η] [] [.v 5 _] [.g 0,.g 1,.o 0] U (zv G (ac ab) o0) (zz [(1,_),(4,_),(5,_)] [O 2 30 _] λ a w U=>?_)
 refine aa<|qj ?_
 have U:=St.sel U [0,2]
 refine wp_loop_ghost (λ n a w=>∃ j:Nat,(n+j=xs.length∧(xs.take j).any (pkQ t)=false)∧St B w0 27 [(1,(SlA 3 [] (xs.map InA)).va),(5,In (j:Nat))] [⟨2,30,ptrH,TkA t⟩] a w) (xs.length) ?_ ?_
 ·exact ⟨0,⟨by omega,rfl⟩,U⟩
 intro n a w hI
 obtain ⟨j,⟨hn,hno⟩,U⟩:=hI
 refine qb<|qb<|zg [η] [] [.v 6 _,.v 7 _,.v 8 _,.v 9 _] [.g 0,.g 1,.o 3] U (zM 1 G (zM 0 G (zv G (bg Tryz.underlying31 (vq 1 G)) (zv G (aS (vq 0 G) (vq 2 G)) o0)))) (zz [(1,_),(5,_),(9,_)] [O 2 30 _] λ a w U=>?_)
 refine aa<|aj U (zm 2 G) (λ hb0=>?_) (λ hb0=>?_)
 ·have hj:j<xs.length:=by rw [qc] at hb0; have:=qp hb0; omega
  refine qh<|zt<|qj<|qb<|zgd [[],[],[0,1],[0,1,2],[0,1,2,3],[0,1,2,3,4],[0,1,2,3,4,5],[0,1,2,3,4,5],[0,1,2,3,4,5,6,7],[0,1,2,3,4,5,6,7,8],[0,1,2,3,4,5],[0,1,2,3,4,5,10],[0,1,2,3,4,5,10,11],[0,1,2,3,4,5,6,7,8,9,10,11,12],[0,1,2,3,4,5,6,7,8,9,10,11,12,13]] [none] [] [.v 12 _,.v 13 _,.v 14 _,.v 15 _,.v 16 _,.v 17 _,.f 18 _,.f 19 _,.f 20 _,.f 21 _,.adr 22 2 (.some 1) (_=false),.f 23 _,.f 24 _,.f 25 _,.v 26 _] [.g 0,.g 1,.o 14] ae U (zM 0 G (zM 1 G (zv G (bH cP (bW λ _=>rfl) (vq 0 G) (vq 1 G) (bz hj)) (zv G (au (vq 2 G) ty_3) (zv G (aS (vq 3 G) ab) (zv G (ai (vq 4 G)) (zB 5 G (λ hg=>ai (gq 0 G)) (zB 5 G (λ hg=>ai (gq 1 G)) (zB 5 G (λ hg=>bH cP (bW λ _=>rfl) (ak (vq 6 G) hg) (ak (vq 7 G) hg) (bz hj)) (zB 5 G (λ hg=>au (ak (vq 8 G) hg) ty_3) (zC 5 0 G bD (zB 5 G (λ hg=>aF 10 G zk hg (lz0 0 G) (Sub.part 1 G G) dn) (zB 5 G (λ hg=>bg Tryz.underlying23 (ak (vq 11 G) hg)) (zB 5 G (λ hg=>d9 (ak (vq 9 G) hg) (ak (vq 12 G) hg)) (zv G (r_or (vq 5 G) (vq 13 G)) o0))))))))))))))) zk zk zk zk (zz [(1,_),(5,_),(26,_)] [O 2 30 _] λ a w U=>?_)
  refine aa<|aj U (zm 2 G) (λ hb1=>?_) (λ hb1=>?_)
  ·have hq:pkQ t xs[j]=true:=by unfold pkQ; rw [qc] at hb1; exact hb1
   refine qb<|zg [η] [] [.v 4 _] [.g 0,.g 1,.o 0] U (zv G (ac aJ) o0) (zz [(1,_),(5,_),(4,_)] [O 2 30 _] λ a w U=>?_)
   refine aa<|qg<|aE ?_
   refine al ?_
   refine al ?_
   refine aE ?_
   refine al ?_
   refine ao ?_ (an G U (zm 2 G))
   rw [pk_so hj hq]; exact aL
  ·have hq:pkQ t xs[j]=false:=by unfold pkQ; rw [qc] at hb1; exact hb1
   refine qh<|ap ?_
   refine aa<|zg [η] [] [.v 10 _,.v 11 _,.v 5 _] [.g 0,.o 2] U (zM 1 G (zv G (aN (vq 0 G) ab ((wi64 zo zo).trans (by omega:(_:Int)=((j+1:Nat):Int)))) (zA 1 G o0))) (zz [(1,_),(5,_)] [O 2 30 _] λ a w U=>?_)
   refine aa ?_
   have U:=St.sel U [0,1]
   exact ⟨n-1,by omega,j+1,⟨by omega,pk_nx hj hno hq⟩,U⟩
 ·obtain rfl:j=xs.length:=by rw [qc] at hb0; have:=qr hb0; omega
  refine qK<|am<|am<|aB<|zt<|zg [η] [] [.v 4 _] [.o 0] U (zv G (ac aJ) o0) (zz [(4,_)] [O 2 30 _] λ a w U=>?_)
  refine aa<|qg<|ao ?_ (an G U (zm 0 G))
  rw [qF] at hno; rw [hno]; exact aL
def wyR (p:Nat):Nat→Nat→Nat
 | 0,n=>n
 | k+1,n=>if n*p>65536 then 65537 else wyR p k (n*p)
theorem rc {p:Nat}(hp:0<p):∀ k,wayB p k=decide (p^k>65536)
 | 0=>rfl
 | k+1=>by
  rw [wayB,rc hp k]
  have h:p^k≤p^(k+1):=zx hp (Nat.le_succ k)
  by_cases h1:p^(k+1)>65536
  ·simp [h1]
  ·have h2:¬ p^k>65536:=by omega
   simp [h1,h2]
theorem tQ {p:Nat}(hp:0<p):∀ k n,n≤65536→(wyR p k n>65536↔n*p^k>65536)
 | 0,n,_=>by rw [wyR,jG,zK]
 | k+1,n,h=>by
  rw [wyR,qV,qP (p^k) p,← qU]
  by_cases h1:n*p>65536
  ·rw [qz h1]
   have:n*p*1≤n*p*p^k:=zr _ (zq hp)
   constructor
   ·intro _; omega
   ·intro _; omega
  ·rw [qw h1]; exact tQ hp k (n*p) zo
theorem CP {p:Nat}(hp:0<p)(k:Nat):decide (((wyR p k 1:Nat):Int)>65536)=wayB p k:=by
 rw [rc hp,xW,qH,qH]
 have:=tQ hp k 1 zd
 rw [jO] at this
 omega
theorem vC (p k:Nat)(hp:p≤64)(hk:k≤12):Cn Tryz.prog 122 [In (p:Nat),In (k:Nat)] (In (wyR p k 1:Nat)):=by
 refine Cn.intro Tryz.func122 G zk nq (λ B w0 a U=>?_)
 have U:=zn [(0,In (p:Nat)),(1,In (k:Nat))] [] U
 refine qb<|zh [.v 4 _] [.g 0,.g 1,.o 0] U (zv G (ac ab) o0) (zz [(0,_),(1,_),(4,_)] [] λ a w U=>?_)
 refine zt<|zh [.v 5 _] [.g 0,.g 1,.g 2,.o 0] U (zv G (ac ab) o0) (zz [(0,_),(1,_),(4,_),(5,_)] [] λ a w U=>?_)
 refine zt<|qb<|zh [.v 6 _] [.g 0,.g 1,.g 2,.g 3,.o 0] U (zv G (ac ab) o0) (zz [(0,_),(1,_),(4,_),(5,_),(6,_)] [] λ a w U=>?_)
 refine aa<|qj ?_
 have U:=St.sel U [0,1,3,4]
 refine wp_loop_ghost (λ n a w=>∃ j m:Nat,(n+j=k∧m≤65536∧wyR p k 1=wyR p n m)∧St B w0 18 [(0,In (p:Nat)),(1,In (k:Nat)),(5,In (m:Nat)),(6,In (j:Nat))] [] a w) (k) ?_ ?_
 ·exact ⟨0,1,⟨by omega,by decide,rfl⟩,U⟩
 intro n a w hI
 obtain ⟨j,m,⟨hn,hm,he⟩,U⟩:=hI
 refine qb<|qb<|zh [.v 7 _,.v 8 _,.v 9 _] [.g 0,.g 1,.g 2,.g 3,.o 2] U (zM 3 G (zM 1 G (zv G (aS (vq 0 G) (vq 1 G)) o0))) (zz [(0,_),(1,_),(5,_),(6,_),(9,_)] [] λ a w U=>?_)
 refine aa<|aj U (zm 4 G) (λ hb0=>?_) (λ hb0=>?_)
 ·have hj:j<k:=by have:=qp hb0; omega
  obtain ⟨n1,rfl⟩:∃ n1,n=n1+1:=⟨n-1,by omega⟩
  have hmp:m*p≤65536*64:=xC hm hp
  refine qh<|zt<|qj<|qb<|zh [.v 12 _,.v 13 _,.v 14 _,.v 5 _] [.g 0,.g 1,.g 3,.o 3] U (zM 2 G (zM 0 G (zv G (iP (vq 0 G) (vq 1 G) ((wi64 (by push_cast; omega) (by push_cast; omega)).trans (by push_cast; rfl:(_:Int)=((m*p:Nat):Int)))) (zA 2 G o0)))) (zz [(0,_),(1,_),(6,_),(5,_)] [] λ a w U=>?_)
  refine zt<|zh [.v 15 _,.v 16 _] [.g 0,.g 1,.g 2,.g 3,.o 1] U (zM 3 G (zv G (ci (vq 0 G) ab) o0)) (zz [(0,_),(1,_),(6,_),(5,_),(16,_)] [] λ a w U=>?_)
  refine aa<|aj U (zm 4 G) (λ hb1=>?_) (λ hb1=>?_)
  ·have hq:m*p>65536:=by have:=qp hb1; omega
   refine qb<|zh [.v 4 _] [.g 0,.g 1,.g 2,.g 3,.o 0] U (zv G (ac ab) o0) (zz [(0,_),(1,_),(6,_),(5,_),(4,_)] [] λ a w U=>?_)
   refine aa<|qg<|aE ?_
   refine al ?_
   refine al ?_
   refine aE ?_
   refine al ?_
   refine ao ?_ (an G U (zm 4 G))
   rw [he,wyR,qz hq]; exact aL
  ·have hq:¬ m*p>65536:=by have:=qr hb1; omega
   refine qh<|ap ?_
   refine aa<|zh [.v 10 _,.v 11 _,.v 6 _] [.g 0,.g 1,.g 3,.o 2] U (zM 2 G (zv G (aN (vq 0 G) ab ((wi64 zo zo).trans (by omega:(_:Int)=((j+1:Nat):Int)))) (zA 1 G o0))) (zz [(0,_),(1,_),(5,_),(6,_)] [] λ a w U=>?_)
   refine aa ?_
   have U:=St.sel U [0,1,2,3]
   exact ⟨n1,by omega,j+1,m*p,⟨by omega,by omega,by rw [he,wyR,qw hq]⟩,U⟩
 ·obtain rfl:n=0:=by have:=qr hb0; omega
  refine qK<|am<|am<|aB<|zt<|zh [.v 17 _,.v 4 _] [.o 1] U (zM 2 G (zA 0 G o0)) (zz [(4,_)] [] λ a w U=>?_)
  refine aa<|qg<|ao ?_ (an G U (zm 0 G))
  rw [he]; exact aL
theorem lO (p:RF):Cn Tryz.prog 196 [(RFA p).va] ((REA (spE p)).va):=by
 refine Cn.intro Tryz.func196 G zk nq (λ B w0 a U=>?_)
 have U:=zn [(0,(RFA p).va)] [] U
 refine qb<|zg [] [⟨1,28,ptrH,some 0,_,none⟩,⟨2,98,ptrH,some 1,_,none⟩] [.alc 0,.alc 1] [] U (zW 0 G (zY G (Str.zero eR) o0)) (zz [] [O 1 28 _,O 2 98 _] λ a w U=>?_)
 refine zt<|zgd [[],[],[0,1],[0,1,2]] [none,some (3,_)] [] [.v 3 _,.v 4 _,.v 5 _,.sto 1] [] ae U (zl 0 G ax (zQ G cE .nil (zv G (aU (qs:=[(0,_),(1,_),(2,_)]) eR (.cons ⟨rfl,ab,rfl⟩ (.cons ⟨rfl,vq 0 rfl,rfl⟩ (.cons ⟨rfl,vq 1 rfl,rfl⟩ .nil)))) (zS 2 G fh o0)))) zk zk zk zk (zz [] [O 1 28 _,O 2 98 _] λ a w U=>?_)
 refine aa<|qg<|ao ?_ (aA G U (zm 1 G) fh)
 exact (bo (.cons (.refl _) (.cons (.refl _) (.cons qaA .nil)))).va
end Go.Proofs.YtedfcalhhldijaaGreatDoor
