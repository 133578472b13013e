import Derived.Test.YtkpifdpdeanjfaaGreatDoorTtAq
set_option linter.all false
set_option maxRecDepth 100000
namespace Go.Proofs.YtkpifdpdeanjfaaGreatDoor
open Go Go.RowKit
variable {w:World}{B:Nat}{a:Act}{v:Value}{T:TypeId}{w0:Bs}{Γ:List (Nat × VA)}{Λ:List Lc}{ps:String}{af:Array Edge}{vr:Value}{H:Hd}{cs:List Value}{w':World}{P:Program}{D:List TypeId}
def GpT (x:RGp):As:=cat [RFT x.lo,RFT x.hi]
def LoT (x:RLo):As:=cat [NumA .u8 x.k,GpT x.p,GpT x.q]
theorem uT {x:RGp}:WkA (GpT x) (GpA x):=bz (.cons uS (.cons uS .nil))
theorem Ex {x:RLo}:WkA (LoT x) (LoA x):=bz (.cons (.refl _) (.cons uT (.cons uT .nil)))
theorem tg (x:RGp):FreeA (GpT x) (GpT x):=bZ (.cons (te _) (.cons (te _) .nil))
theorem Cp (x:RLo):FreeA (LoT x) (LoT x):=bZ (.cons (cH _ _) (.cons (tg _) (.cons (tg _) .nil)))
theorem th:FreeA (GpA gp0) (GpA gp0):=bZ (.cons pt (.cons pt .nil))
theorem yS:FreeA (LoA ⟨77,gp0,gp0⟩) (LoA ⟨77,gp0,gp0⟩):=bZ (.cons (cH _ _) (.cons th (.cons th .nil)))
theorem DY {x y:RGp}:(decide (x.lo=y.lo)&&decide (x.hi=y.hi))=decide (x=y):=by
 obtain ⟨a,b⟩:=x
 obtain ⟨c,d⟩:=y
 by_cases h1:a=c <;> by_cases h2:b=d <;> simp [h1,h2]
theorem loT_eq {x y:RLo}:(((x.k==y.k)&&decide (x.p=y.p))&&decide (x.q=y.q))=decide (x=y):=by
 obtain ⟨a,b,c⟩:=x
 obtain ⟨d,e,f⟩:=y
 by_cases h1:a=d <;> by_cases h2:b=e <;> by_cases h3:c=f <;> simp [h1,h2,h3]
abbrev bdGp (x:RGp):Prop:=bdF x.lo∧bdF x.hi
abbrev bdLo (x:RLo):Prop:=bdGp x.p∧bdGp x.q
theorem oP (x:RGp)(hx:bdGp x):Cn Tryz.prog 107 [(GpA x).va] ((GpT x).va):=by
 refine Cn.intro Tryz.func107 G zk nq (λ B w0 a U=>?_)
 have U:=zn [(0,(GpA x).va)] [] U
 refine qb<|zg [] [⟨1,32,ptrH,some 0,_,none⟩,⟨2,32,ptrH,some 1,_,none⟩] [.alc 0,.alc 1] [] U (zW 0 G (zY G (Str.zero bL) o0)) (zz [] [O 1 32 _,O 2 32 _] λ a w U=>?_)
 refine zt<|zgd [[],[0],[0,1],[],[3],[0,1,2,3,4],[0,1,2,3,4,5],[0,1,2,3,4,5,6]] [none,some (7,_)] [] [.adr 3 1 (.some 0) True,.v 4 _,.v 5 _,.adr 6 1 (.some 4) True,.v 7 _,.v 8 _,.v 9 _,.sto 1] [] aa U (zO 0 G bg (zL 0 0 0 G ak (zQ G (mw _ hx.1) (.o (vq 1 G)) (zO 0 G bi (zL 3 0 1 G ak (zQ G (mw _ hx.2) (.o (vq 4 G)) (zv G (aO (qs:=[(0,_),(1,_)]) bL (.cons ⟨rfl,vq 2 rfl,rfl⟩ (.cons ⟨rfl,vq 5 rfl,rfl⟩ .nil))) (zS 6 G b9 o0)))))))) zk zk zk zk (zz [] [O 1 32 _,O 2 32 _] λ a w U=>?_)
 refine a7<|qe<|aj ?_ (ap G U (zm 1 G) b9)
 exact aL
theorem pk (x y:RGp)(hx:bdGp x):Cn Tryz.prog 136 [(GpT x).va,(GpA y).va] (Bo (decide (x=y))):=by
 refine Cn.intro Tryz.func136 G zk nq (λ B w0 a U=>?_)
 have U:=zn [(0,(GpT x).va),(1,(GpA y).va)] [] U
 refine qb<|zg [] [⟨2,32,ptrH,some 0,_,none⟩,⟨3,32,ptrH,some 1,_,none⟩] [.alc 0,.alc 1,.v 4 _] [.o 2] U (zW 0 G (zW 1 G (zv G (a9 aB) o0))) (zz [(4,_)] [O 2 32 _,O 3 32 _] λ a w U=>?_)
 refine zt<|zg [η,η] [] [.adr 5 2 (.some 0) True,.v 6 _,.adr 7 3 (.some 0) True,.v 8 _,.v 9 _,.v 10 _,.adr 11 2 (.some 4) (_=true),.t 12 _,.adr 13 3 (.some 4) (_=true),.t 14 _,.t 15 _,.v 16 _,.v 4 _] [.o 12] U (zO 0 G bg (zL 0 0 0 G ak (zO 1 G bg (zL 2 1 0 G ak (zQ G (mL _ _ hx.1) (.p (vq 1 G) (vq 3 G)) (zv G (ab (vq 4 G)) (zC 5 0 G bi (zB 5 G (λ hg=>ax 6 G zk hg (lz0 0 G) (Sub.part 1 G G) ak) (zC 5 1 G bi (zB 5 G (λ hg=>ax 8 G zk hg (lz0 1 G) (Sub.part 1 G G) ak) (zB 5 G (λ hg=>aX (mL _ _ hx.2) (.p (ac (vq 7 G) hg) (ac (vq 9 G) hg))) (zv G (bG (vq 5 G) (vq 10 G)) (zA 11 G o0))))))))))))) (zz [(4,_)] [O 2 32 _,O 3 32 _] λ a w U=>?_)
 refine a7<|qe<|aj ?_ (an G U (zm 0 G))
 exact bj (qk Bo DY)
theorem pS (x:RLo)(hx:bdLo x):Cn Tryz.prog 28 [(LoA x).va] ((LoT x).va):=by
 refine Cn.intro Tryz.func28 G zk nq (λ B w0 a U=>?_)
 have U:=zn [(0,(LoA x).va)] [] U
 refine qb<|zg [] [⟨1,69,ptrH,some 0,_,none⟩,⟨2,69,ptrH,some 1,_,none⟩] [.alc 0,.alc 1] [] U (zW 0 G (zY G (Str.zero cU) o0)) (zz [] [O 1 69 _,O 2 69 _] λ a w U=>?_)
 refine zt<|zgd [[],[0],[],[2],[2,3],[],[5],[2,3,4,5,6],[0,1,2,3,4,5,6,7],[0,1,2,3,4,5,6,7,8]] [none,some (9,_)] [] [.adr 3 1 (.some 0) True,.v 4 _,.adr 5 1 (.some 1) True,.v 6 _,.v 7 _,.adr 8 1 (.some 9) True,.v 9 _,.v 10 _,.v 11 _,.sto 1] [] aa U (zO 0 G cM (zL 0 0 0 G dz (zO 0 G bU (zL 2 0 1 G b9 (zQ G (oP _ hx.1) (.o (vq 3 G)) (zO 0 G bY (zL 5 0 2 G b9 (zQ G (oP _ hx.2) (.o (vq 6 G)) (zv G (aO (qs:=[(0,_),(1,_),(2,_)]) cU (.cons ⟨rfl,vq 1 rfl,rfl⟩ (.cons ⟨rfl,vq 4 rfl,rfl⟩ (.cons ⟨rfl,vq 7 rfl,rfl⟩ .nil)))) (zS 8 G fX o0)))))))))) zk zk zk zk (zz [] [O 1 69 _,O 2 69 _] λ a w U=>?_)
 refine a7<|qe<|aj ?_ (ap G U (zm 1 G) fX)
 exact aL
theorem rx (x y:RLo)(hx:bdLo x):Cn Tryz.prog 47 [(LoT x).va,(LoA y).va] (Bo (decide (x=y))):=by
 refine Cn.intro Tryz.func47 G zk nq (λ B w0 a U=>?_)
 have U:=zn [(0,(LoT x).va),(1,(LoA y).va)] [] U
 refine qb<|zg [] [⟨2,69,ptrH,some 0,_,none⟩,⟨3,69,ptrH,some 1,_,none⟩] [.alc 0,.alc 1,.v 4 _] [.o 2] U (zW 0 G (zW 1 G (zv G (a9 aB) o0))) (zz [(4,_)] [O 2 69 _,O 3 69 _] λ a w U=>?_)
 refine zt<|zg [η,η] [] [.adr 5 2 (.some 0) True,.v 6 _,.adr 7 3 (.some 0) True,.v 8 _,.v 9 _,.v 10 _,.adr 11 2 (.some 1) (_=true),.t 12 _,.adr 13 3 (.some 1) (_=true),.t 14 _,.t 15 _,.v 16 _,.v 17 _,.adr 18 2 (.some 9) (_=true),.t 19 _,.adr 20 3 (.some 9) (_=true),.t 21 _,.t 22 _,.v 23 _,.v 4 _] [.o 19] U (zO 0 G cM (zL 0 0 0 G dz (zO 1 G cM (zL 2 1 0 G dz (zv G (bF (vq 1 G) (vq 3 G)) (zv G (ab (vq 4 G)) (zC 5 0 G bU (zB 5 G (λ hg=>ax 6 G zk hg (lz0 0 G) (Sub.part 1 G G) b9) (zC 5 1 G bU (zB 5 G (λ hg=>ax 8 G zk hg (lz0 1 G) (Sub.part 1 G G) b9) (zB 5 G (λ hg=>aX (pk _ _ hx.1) (.p (ac (vq 7 G) hg) (ac (vq 9 G) hg))) (zv G (bG (vq 5 G) (vq 10 G)) (zv G (ab (vq 11 G)) (zC 12 0 G bY (zB 12 G (λ hg=>ax 13 G zk hg (lz0 0 G) (Sub.part 2 G G) b9) (zC 12 1 G bY (zB 12 G (λ hg=>ax 15 G zk hg (lz0 1 G) (Sub.part 2 G G) b9) (zB 12 G (λ hg=>aX (pk _ _ hx.2) (.p (ac (vq 14 G) hg) (ac (vq 16 G) hg))) (zv G (bG (vq 12 G) (vq 17 G)) (zA 18 G o0)))))))))))))))))))) (zz [(4,_)] [O 2 69 _,O 3 69 _] λ a w U=>?_)
 refine a7<|qe<|aj ?_ (an G U (zm 0 G))
 exact bj (qk Bo loT_eq)
theorem pL:∃ it z,Tryz.prog.info? 69=some it∧it.zero=some z∧it.size=17∧it.bytes=264∧z.cells.size=17:=by
 have h:((Tryz.prog.info? 69).bind λ it=>it.zero.map λ z=>(it.size,it.bytes,z.cells.size))=some (17,264,17):=by kernel_rfl
 cases hi:Tryz.prog.info? 69 with
 | none=>rw [hi] at h; simp at h
 | some it =>
  rw [hi] at h
  cases hz:it.zero with
  | none=>simp [hz] at h
  | some z =>
   simp [hz] at h
   exact ⟨it,z,rfl,hz,h.1,h.2.1,h.2.2⟩
abbrev bdLLooses (xs:List RLo):Prop:=∀ x∈xs,bdLo x
theorem oN (xs:List RLo)(hl:xs.length≤10000000)(hx:bdLLooses xs):Cn Tryz.prog 6 [(SlA 69 [U32] (xs.map LoA)).va] (TwS 69 17 [U32] (xs.map LoT) (LoA ⟨77,gp0,gp0⟩)):=by
 obtain ⟨it,z,e1,e2,e3,e4,e5⟩:=pL
 refine Cn.introW Tryz.func6 G zk nq (.cons (ir (cz eH)).va .nil) (Ck (sP (cz Cp) yS)) (λ B w0 a hB0 U=>?_)
 have U:=zn [(0,(SlO 69 [U32] (xs.map LoA) True).va)] [] U
 refine qb<|zh [.v 2 _] [.g 0,.o 0] U (zv G (a9 ba) o0) (zz [(0,_),(2,_)] [] λ a w U=>?_)
 refine zt<|zh [.v 5 _,.v 6 _,.v 7 (In ((xs.length+1:Nat):Int)),.v 8 (OwnR w0.w.heap.size 69 17 [U32] []),.v 3 _] [.g 0,.o 4] U (zM 0 G (zv G (bh Tryz.underlying22 (bS (aC (vq 0 G)))) (zv G (aQ (vq 1 G) a8 (HI zo)) (zv G (wy Tryz.underlying22 e1 e2 e3 e4 e5 zd zd (xZ hB0) a8 (vq 2 G) zo) (zA 3 G o0))))) (zz [(0,_),(3,_)] [] λ a w U=>?_)
 refine zt<|qb<|zh [.v 4 _] [.g 0,.g 1,.o 0] U (zv G (a9 a8) o0) (zz [(0,_),(3,_),(4,_)] [] λ a w U=>?_)
 refine a7<|ql ?_
 have U:=St.sel U [0,1,2]
 refine wp_loop_ghost (λ n a w=>∃ j:Nat,(n+j=xs.length)∧St B w0 30 [(0,(SlO 69 [U32] (xs.map LoA) True).va),(3,OwnR w0.w.heap.size 69 17 [U32] ((xs.take j).map LoT)),(4,In (j:Nat))] [] a w) (xs.length) ?_ ?_
 ·exact ⟨0,by omega,U⟩
 intro n a w hI
 obtain ⟨j,hn,U⟩:=hI
 refine qb<|qb<|zh [.v 9 _,.v 10 _,.v 11 _,.v 12 _] [.g 0,.g 1,.g 2,.o 3] U (zM 2 G (zM 0 G (zv G (bh Tryz.underlying22 (bS (aC (vq 1 G)))) (zv G (aK (vq 0 G) (vq 2 G)) o0)))) (zz [(0,_),(3,_),(4,_),(12,_)] [] λ a w U=>?_)
 refine a7<|ae U (zm 3 G) (λ hb0=>?_) (λ hb0=>?_)
 ·have hj:j<xs.length:=by simp at hb0; omega
  refine qh<|zt<|ql<|o7 (sp:=[.v 15 _,.v 16 _,.v 17 _,.v 18 _,.v 19 _,.v 20 _,.v 21 _,.v 22 VT,.v 3 VT]) 7 [0,2] 0 6 U (zM 1 rfl (zM 0 rfl (zM 2 rfl (zv rfl (cv dP (dJ λ _=>rfl) (bS (aC (vq 1 rfl))) (vq 2 rfl) (cD hj)) (zv rfl (aq (vq 3 rfl) fX) (zQ rfl (pS xs[j] (hx _ (qf hj))) (.o (vq 4 rfl)) (zv rfl (cq (D:=[U32]) (l:=[_]) (xs:=[.tmp 20]) (dV zk) dP zk (n_ok zk) nq nq nq (.o (vq 5 rfl)) rfl rfl) o0))))))) rfl zk rfl rfl zd rfl zd rfl (λ _ _ h _=>h) Tryz.underlying22 e1 e2 e3 e4 e5 zd (by simp only [qi,zj,xf]; omega) zd (λ T hT=>hT) zd (λ A hA=>by obtain rfl:=qq.1 hA; rfl) zk nq nq zk zk (zz [(3,_),(0,_),(4,_)] [] λ a w U=>?_)
  refine am ?_
  refine a7<|zh [.v 13 _,.v 14 _,.v 4 _] [.g 0,.g 1,.o 2] U (zM 2 G (zv G (aQ (vq 0 G) a8 (aW zo)) (zA 1 G o0))) (zz [(3,_),(0,_),(4,_)] [] λ a w U=>?_)
  refine a7 ?_
  have U:=St.sel U [1,0,2]
  exact ⟨n-1,by omega,j+1,by omega,St.wkG (A':=OwnR w0.w.heap.size 69 17 [U32] ((xs.take (j+1)).map LoT)) U 1 G (bj (qk (OwnR w0.w.heap.size 69 17 [U32]) (row_nx hj)))⟩
 ·obtain rfl:j=xs.length:=by simp at hb0; omega
  refine qK<|ah<|ah<|ay<|zt ?_
  have U:=St.wkG (A':=OwnR w0.w.heap.size 69 17 [U32] (xs.map LoT)) U 1 rfl (bj (by rw [qI]))
  refine Ch (sp:=[.v 23 _,.v 24 _,.v 25 _,.v 26 VT,.v 27 VT,.v 28 VT,.v 29 VT,.v 2 VT]) 3 [] 0 2 U (zM 1 rfl (zv rfl (aO (qs:=[(0,_)]) cU (.cons ⟨rfl,a8,rfl⟩ .nil)) (zv rfl (cq (D:=[U32]) (l:=[LoA ⟨77,gp0,gp0⟩]) (xs:=[.tmp 24]) (dV zk) dP zk (n_ok zk) nq nq nq (.o (vq 1 rfl)) rfl rfl) (o0)))) rfl zk rfl rfl rfl rfl rfl 0 rfl (λ B u w h=>by have h2:=sl_len B u w h; rw [qi] at h2; rw [qi]; exact h2) zk zd rfl zd rfl (λ _ _ h _=>h) Tryz.underlying22 e1 e2 e3 e4 e5 zd (by rw [qi]; omega) zd (λ T hT=>hT) zd zk zd nq nq nq nq nq zk zk (zz [(2,_)] [] λ a w U=>?_)
  refine a7<|qe<|aj ?_ (an G U (zm 0 G))
  exact aL
theorem il (xs ys:List RLo)(hl:ys.length≤10000000)(hx:bdLLooses xs):Cn Tryz.prog 17 [TwS 69 17 [U32] (xs.map LoT) (LoA ⟨77,gp0,gp0⟩),(SlA 69 [U32] (ys.map LoA)).va] (Bo (decide (xs=ys))):=by
 refine Cn.intro Tryz.func17 G zk nq (λ B w0 a U=>?_)
 have U:=zn [(0,TwS 69 17 [U32] (xs.map LoT) (LoA ⟨77,gp0,gp0⟩)),(1,(SlA 69 [U32] (ys.map LoA)).va)] [] U
 obtain ⟨g,c,U⟩:=St.exK U 0 rfl
 have hcap:=vw (U.vals (0,_) (zm 0 rfl))
 rw [qi] at hcap
 refine qb<|zh [.v 4 _] [.g 0,.g 1,.o 0] U (zv G (a9 aB) o0) (zz [(0,_),(1,_),(4,_)] [] λ a w U=>?_)
 refine zt<|qb<|zh [.v 7 _,.v 8 _,.v 9 _,.v 10 _,.v 11 _,.v 12 _,.f 13 _,.f 14 _,.f 15 _,.f 16 _,.f 17 _,.v 18 _] [.g 0,.g 1,.g 2,.o 11] U (zM 0 G (zv G (bh Tryz.underlying22 (has_wk' (vq 0 G) vv)) (zM 1 G (zv G (bh Tryz.underlying22 (vq 2 G)) (zv G (ci (vq 1 G) (vq 3 G)) (zv G (ab (vq 4 G)) (zB 5 G (λ hg=>ab (gq 0 G)) (zB 5 G (λ hg=>r_capK Tryz.underlying22 (ac (vq 6 G) hg)) (zB 5 G (λ hg=>ab (gq 1 G)) (zB 5 G (λ hg=>bh Tryz.underlying22 (ac (vq 8 G) hg)) (zB 5 G (λ hg=>p5 (ac (vq 7 G) hg) (ac (vq 9 G) hg)) (zv G (r_or (vq 5 G) (vq 10 G)) o0)))))))))))) (zz [(0,_),(1,_),(4,_),(18,_)] [] λ a w U=>?_)
 refine a7<|ae U (zm 3 G) (λ hb0=>?_) (λ hb0=>?_)
 ·refine qb<|zh [.v 4 _] [.g 0,.g 1,.o 0] U (zv G (a9 aB) o0) (zz [(0,_),(1,_),(4,_)] [] λ a w U=>?_)
  refine a7<|qe<|ao ?_
  refine aj ?_ (an G U (zm 2 G))
  exact bj (qk Bo (G7 hcap.1 hb0))
 ·have hlen:=G8 hb0
  refine qh<|zt<|qb<|zh [.v 5 _] [.g 0,.g 1,.g 2,.o 0] U (zv G (a9 a8) o0) (zz [(0,_),(1,_),(4,_),(5,_)] [] λ a w U=>?_)
  refine a7<|ql ?_
  have U:=St.sel U [0,1,3]
  refine wp_loop_ghost (λ n a w=>∃ j:Nat,(n+j=ys.length∧xs.take j=ys.take j)∧St B w0 47 [(0,TwK g c 69 17 [U32] (xs.map LoT) (LoA ⟨77,gp0,gp0⟩)),(1,(SlA 69 [U32] (ys.map LoA)).va),(5,In (j:Nat))] [] a w) (ys.length) ?_ ?_
  ·exact ⟨0,⟨by omega,rfl⟩,U⟩
  intro n a w hI
  obtain ⟨j,⟨hn,ht⟩,U⟩:=hI
  refine qb<|qb<|zh [.v 19 _,.v 20 _,.v 21 _,.v 22 _] [.g 0,.g 1,.g 2,.o 3] U (zM 2 G (zM 1 G (zv G (bh Tryz.underlying22 (vq 1 G)) (zv G (aK (vq 0 G) (vq 2 G)) o0)))) (zz [(0,_),(1,_),(5,_),(22,_)] [] λ a w U=>?_)
  refine a7<|ae U (zm 3 G) (λ hb1=>?_) (λ hb1=>?_)
  ·have hj2:j<ys.length:=by rw [qi] at hb1; simp at hb1; omega
   have hj:j<xs.length:=by omega
   refine qh<|zt<|ql<|qb<|zgd [[],[],[0,1],[0,1,2],[],[],[4,5],[4,5,6],[0,1,2,3,4,5,6,7],[0,1,2,3,4,5,6,7,8]] [] [] [.v 25 _,.v 26 _,.v 27 _,.v 28 _,.v 29 _,.v 30 _,.v 31 _,.v 32 _,.v 33 _,.v 34 _] [.g 0,.g 1,.g 2,.o 9] aa U (zM 0 G (zM 2 G (zv G (cv dP (dJ λ _=>rfl) (has_wk' (vq 0 G) vv) (vq 1 G) (cD hj)) (zv G (aq (vq 2 G) fX) (zM 1 G (zM 2 G (zv G (cv dP (dJ λ _=>rfl) (vq 4 G) (vq 5 G) (cD hj2)) (zv G (aq (vq 6 G) fX) (zQ G (rx xs[j] ys[j] (hx _ (qf hj))) (.p (vq 3 G) (vq 7 G)) (zv G (cW (vq 8 G)) o0)))))))))) zk zk zk zk (zz [(0,_),(1,_),(5,_),(34,_)] [] λ a w U=>?_)
   refine a7<|ae U (zm 3 G) (λ hb2=>?_) (λ hb2=>?_)
   ·refine qb<|zh [.v 4 _] [.g 0,.g 1,.g 2,.o 0] U (zv G (a9 aB) o0) (zz [(0,_),(1,_),(5,_),(4,_)] [] λ a w U=>?_)
    refine a7<|qe<|aT ?_
    refine ao ?_
    refine ao ?_
    refine aT ?_
    refine ao ?_
    refine aj ?_ (an G U (zm 3 G))
    exact bj (qk Bo (B4 hj2 hj hb2))
   ·refine qh<|am ?_
    refine a7<|zh [.v 23 _,.v 24 _,.v 5 _] [.g 0,.g 1,.o 2] U (zM 2 G (zv G (aQ (vq 0 G) a8 (aW zo)) (zA 1 G o0))) (zz [(0,_),(1,_),(5,_)] [] λ a w U=>?_)
    refine a7 ?_
    have U:=St.sel U [0,1,2]
    exact ⟨n-1,by omega,j+1,⟨by omega,B5 hj2 hj ht hb2⟩,U⟩
  ·obtain rfl:j=ys.length:=by rw [qi] at hb1; simp at hb1; omega
   refine qK<|ah<|ah<|ay<|zt<|zg [] [⟨6,69,ptrH,some 9,_,some (10,_)⟩] [.v 35 _,.v 36 _,.v 37 _,.v 38 _,.v 39 _,.v 40 _,.v 41 _,.v 42 _,.v 43 _,.alc 0,.sto 0] [] U (zM 0 G (zM 1 G (zv G (bh Tryz.underlying22 (vq 1 G)) (zv G (aQ (vq 2 G) a8 (HI zo)) (zv G (Fm dP (vq 0 G) (has_wk' (vq 3 G) (bj (qk (λ k:Nat=>In ((k+1:Nat):Int)) (hlen.symm.trans (qi ..).symm))))) (zM 1 G (zv G (bh Tryz.underlying22 (vq 5 G)) (zv G (cv dP (sP (cz λ _=>rfl) G) (vq 4 G) (has_wk' (vq 6 G) (bj (qk (λ k:Nat=>In (k:Int)) (qi ..)))) (k:=ys.length) (by rw [List.getElem?_append_right (by rw [qi]; omega),qi,hlen,xY]; rfl)) (zv G (aq (vq 7 G) fX) (zY G (Str.zero cU) (zS 8 G fX o0))))))))))) (zz [] [O 6 69 _] λ a w U=>?_)
   refine zt<|zg [η] [] [.adr 44 6 (.some 0) True,.v 45 _,.v 46 _,.v 4 _] [.o 3] U (zO 0 G cM (zL 0 0 0 G dz (zv G (bF (vq 1 G) a8) (zA 2 G o0)))) (zz [(4,_)] [O 6 69 _] λ a w U=>?_)
   refine a7<|qe<|aj ?_ (an G U (zm 0 G))
   have e:xs=ys:=by rw [qB zo,qI] at ht; exact ht
   refine bj (qk Bo ?_); rw [qP e]; rfl
open Go.ChangeShapes Go.WideShapes Go.ChangeAt
def wdGp (x:RGp):Prop:=wdF x.lo∧wdF x.hi
def wdLo (x:RLo):Prop:=wdGp x.p∧wdGp x.q
section
variable {H:Type} {enc:TypeId × Value→H} {w:World} {base:Nat} {spare:Nat→Bool} {held:Bool} {fuel:Nat} {cs:List Value} {x:DataW H × List MemPlace}
theorem rd_u8k (h:DataW.trod enc Tryz.prog w base spare held fuel 66 cs=some x):∃ y,(NumA .u8 y).p w.heap.size cs w:=by
 obtain ⟨a,ha,_⟩:=DataW.trod_int Tryz.underlying66 h
 exact ⟨a,ha⟩
theorem rb_gp (h:DataW.trod enc Tryz.prog w base spare held fuel 32 cs=some x)(hw:Wt Tryz.prog 32 x.1):∃ y,(GpA y).p w.heap.size cs w∧wdGp y:=by
 have hl:cs.length=8:=by
  obtain ⟨_,_,_,_,hl,_,_⟩:=DataW.trod_struct Tryz.underlying32 h
  exact hl.trans zk
 obtain ⟨n0,y0,h0,w0⟩:=et Tryz.underlying32 h hw 0 rfl
 have c0:Tryz.prog.cellsOf 30=4:=by kernel_rfl
 have h0:DataW.trod enc Tryz.prog w base spare held n0 30 ((cs.drop 0).take (Tryz.prog.cellsOf 30))=some y0:=h0
 rw [c0] at h0
 obtain ⟨a0,q0,b0⟩:=rb_rf h0 w0
 obtain ⟨n1,y1,h1,w1⟩:=et Tryz.underlying32 h hw 1 rfl
 have c1:Tryz.prog.cellsOf 30=4:=by kernel_rfl
 have h1:DataW.trod enc Tryz.prog w base spare held n1 30 ((cs.drop 4).take (Tryz.prog.cellsOf 30))=some y1:=h1
 rw [c1] at h1
 obtain ⟨a1,q1,b1⟩:=rb_rf h1 w1
 exact ⟨⟨a0,a1⟩,cat_two' q0 q1 hl,⟨b0,b1⟩⟩
theorem rb_lo (h:DataW.trod enc Tryz.prog w base spare held fuel 69 cs=some x)(hw:Wt Tryz.prog 69 x.1):∃ y,(LoA y).p w.heap.size cs w∧wdLo y:=by
 have hl:cs.length=17:=by
  obtain ⟨_,_,_,_,hl,_,_⟩:=DataW.trod_struct Tryz.underlying69 h
  exact hl.trans zk
 obtain ⟨n0,y0,h0,w0⟩:=et Tryz.underlying69 h hw 0 rfl
 have c0:Tryz.prog.cellsOf 66=1:=by kernel_rfl
 have h0:DataW.trod enc Tryz.prog w base spare held n0 66 ((cs.drop 0).take (Tryz.prog.cellsOf 66))=some y0:=h0
 rw [c0] at h0
 obtain ⟨a0,q0⟩:=rd_u8k h0
 obtain ⟨n1,y1,h1,w1⟩:=et Tryz.underlying69 h hw 1 rfl
 have c1:Tryz.prog.cellsOf 32=8:=by kernel_rfl
 have h1:DataW.trod enc Tryz.prog w base spare held n1 32 ((cs.drop 1).take (Tryz.prog.cellsOf 32))=some y1:=h1
 rw [c1] at h1
 obtain ⟨a1,q1,b1⟩:=rb_gp h1 w1
 obtain ⟨n2,y2,h2,w2⟩:=et Tryz.underlying69 h hw 2 rfl
 have c2:Tryz.prog.cellsOf 32=8:=by kernel_rfl
 have h2:DataW.trod enc Tryz.prog w base spare held n2 32 ((cs.drop 9).take (Tryz.prog.cellsOf 32))=some y2:=h2
 rw [c2] at h2
 obtain ⟨a2,q2,b2⟩:=rb_gp h2 w2
 exact ⟨⟨a0,a1,a2⟩,Az q0 q1 q2 hl,⟨b1,b2⟩⟩
end
def shFr (c:Nat)(x:RF):Prop:=x.num.mag.length≤c∧x.den.mag.length≤c
def shLo (c:Nat)(x:RLo):Prop:=(shFr c x.p.lo∧shFr c x.p.hi)∧shFr c x.q.lo∧shFr c x.q.hi
section
variable {P:Program} {R:Rg} {Q:Exit→Act→World→Prop} {B i:Nat} {w0:Bs}
theorem Eo {b t k n c m:Nat}{T S E:TypeId}{A:As}{y:Operand}{kd:IntKind}(j:Nat)(hj:R.sp[j]?=some (.adr t b .none True))(hji:(R.anc i).contains j=true)(hl:LocH R i b T (slH n c) A)(hS:Sl P S E m)(hy:Has R B w0 i y (NumA kd k).va)(hk:k<n)(hm:m≠0) :
  Ad P Q R B w0 i (.indexAddr S (.tmp t) y) b (.some (k*m)):=by
 intro d ty ps af gd a w av K hK
 obtain ⟨g,cs,h1,_⟩:=hl.ok av
 have h2:=av.d j t b .none True hji hj trivial
 have h3:a.eval (.tmp t)=.slice (some ⟨g,0,none⟩) n c:=h2.trans h1
 have e:=bo (hy a w av)
 obtain ⟨hs1,hs2⟩:=hS
 rw [h1] at hK
 refine bc (w':=w) (v:=.pointer (some ⟨g,k*m,none⟩)) ?_ (by simpa [slH,offP,add0] using hK)
 cases hi:P.info? E with
 | none=>rw [hi] at hs2; simp at hs2
 | some it =>
  rw [hi] at hs2
  have hsz:it.size=m:=by simpa using hs2
  by_cases h0:k=0
  ·subst h0; simp [execOp,h3,e,Instr.indexAt,asIntOf,run_underlying hs1,hk,sizeOf,typeInfo,hi,Addr.add]
  ·have:k*m≠0:=vj h0 hm
   simp [execOp,h3,e,Instr.indexAt,asIntOf,run_underlying hs1,hk,sizeOf,typeInfo,hi,hsz,Addr.add,h0,hm]
   try exact this
theorem En {b t k1 n c m:Nat}{T' T:TypeId}{f k:Nat}{A:As}(j:Nat)(hj:R.sp[j]?=some (.adr t b (.some k1) True))(hji:(R.anc i).contains j=true)(hl:LocH R i b T' (slH n c) A)(hf:Fld P T f k m):Ad P Q R B w0 i (.fieldAddr T (.tmp t) f) b (.some (k1+k)):=by
 intro d ty ps af gd a w av K hK
 obtain ⟨g,cs,h1,_⟩:=hl.ok av
 have h2:=av.d j t b (.some k1) True hji hj trivial
 rw [h1] at h2
 have h2':a.eval (.tmp t)=.pointer (some ⟨g,k1,none⟩):=by rw [h2]; simp [slH,offP,add0]
 refine bc (w':=w) (v:=.pointer (some ⟨g,k1+k,none⟩)) ?_ ?_
 ·simp [execOp,h2',da hf g k1 w]
 ·rw [h1] at hK
  simpa [slH,offP,add0] using hK
theorem nU {t b n c:Nat}{E:TypeId}{l:List As}(j:Nat)(hj:R.sp[j]?=some (.adr t b .none True))(hji:(R.anc i).contains j=true)(hl:LocH R i b E (slH n c) (cat l))(h:n=l.length∧n≤c∧c≤maxLen∧(l.all λ A=>A.deps.all λ T=>D.contains T)=true):Has R B w0 i (.tmp t) (SlA E D l).va:=λ a w av=>by
 obtain ⟨g,cs,h1,_,h3,h4⟩:=hl.ok av
 have h2:=av.d j t b .none True hji hj trivial
 obtain ⟨hn,hc,hm,hd⟩:=h
 refine ⟨[.slice (some ⟨g,0,none⟩) n c],⟨λ A hA T hT=>?_,some ⟨g,0,none⟩,c,cs,by simp [hn],by simpa [hn] using hc,hm,h4,λ _=>⟨g,0,rfl,(Array.getElem?_eq_some_iff.1 h3).1,.inr ⟨_,_,h3⟩,λ j v hv=>?_⟩⟩,h2.trans h1⟩
 ·have:=qc.1 (qc.1 hd A hA) T hT
  simpa using this
 ·rw [zc,cell_of_row w g j cs.toArray E _ h3]
  simpa using hv
end
theorem St.ofLoc {B N:Nat}(h:St B w0 N Γ Λ a w){s n c:Nat}{E:TypeId}{l:List As}(k:Nat)(hm:Λ[k]?=some ⟨s,E,slH n c,cat l⟩)(hx:n=l.length∧n≤c∧c≤maxLen∧(l.all λ A=>A.deps.all λ T=>D.contains T)=true):
  St B w0 N ((s,(SlA E D l).va)::Γ) (Λ.eraseIdx k) a w:=by
 have hsub:∀ l'∈Λ.eraseIdx k,l'∈Λ:=λ l' hl'=>xg hl'
 refine ⟨h.lo,h.defers,h.size,h.base,λ x hx'=>?_,λ l' hl'=>h.locs l' (hsub l' hl'),λ l1 h1 l2 h2 hne=>h.dis l1 (hsub l1 h1) l2 (hsub l2 h2) hne⟩
 rcases qo.1 hx' with rfl | hx'
 ·obtain ⟨g,cs,h1,_,h3,h4⟩:=h.locs _ (qa hm)
  obtain ⟨hn,hc,hmx,hd⟩:=hx
  refine ⟨[.slice (some ⟨g,0,none⟩) n c],⟨λ A hA T hT=>?_,some ⟨g,0,none⟩,c,cs,by simp [hn],by simpa [hn] using hc,hmx,h4,λ _=>⟨g,0,rfl,(Array.getElem?_eq_some_iff.1 h3).1,.inr ⟨_,_,h3⟩,λ j v hv=>?_⟩⟩,h1⟩
  ·have:=qc.1 (qc.1 hd A hA) T hT
   simpa using this
  ·rw [zc,cell_of_row w g j cs.toArray E _ h3]
   simpa using hv
 ·exact h.vals x hx'
theorem Put.head {A A' A1:As}{l:List As}{k:Nat}(h:Put A k A' A1):Put (cat (A::l)) k A' (cat (A1::l)):=by
 intro B cs c w hcs hc
 obtain ⟨ps,rfl,h2⟩:=hcs
 cases h2 with
 | @cons _ c0 _ bs hh ht =>
  obtain ⟨h3,h4⟩:=h B c0 c w hh hc
  have lc:=A'.len _ _ _ hc
  refine ⟨by simp; omega,splice c0 k c::bs,?_,.cons h4 ht⟩
  simp only [splice,qL]
  rw [zN zo,xy zo]
  simp [qD]
abbrev r1 (p:Int):RF:=rfOf (Rat.divInt p 1)
abbrev g1 (p q:Int):RGp:=⟨r1 p,r1 q⟩
abbrev al2 (p q:Int):List RLo:=[⟨2,g1 p q,g1 0 0⟩,⟨1,g1 1 1,g1 0 0⟩]
theorem fU {p:Int}(hp : -9223372036854775808≤p)(hp1:p<9223372036854775808):Cn Tryz.prog 26 [In p] ((RFA (r1 p)).va):=by
 refine Cn.intro Tryz.func26 G zk nq (λ B w0 a U=>?_)
 have U:=zn [(0,In p)] [] U
 refine qb<|zg [] [⟨2,30,ptrH,some 0,_,none⟩] [.alc 0] [.g 0] U (zY G (Str.zero az) o0) (zz [(0,_)] [O 2 30 _] λ a w U=>?_)
 refine zt<|zg [η] [⟨3,30,ptrH,some 5,_,some (6,_)⟩] [.v 6 _,.v 7 _,.v 5 _,.v 8 _,.v 9 _,.alc 1,.sto 1,.v 4 _] [] U (zM 0 G (zQ G (ofQ_c hp hp1 zd zd zd) (.cons (vq 0 G) (.cons a8 .nil)) (zv G (ab (vq 1 G)) (zv G (dS (vq 2 G)) (zv G (dR (vq 2 G)) (zY G (Str.zero az) (zS 3 G ak (zA 4 G o0)))))))) (zz [] [O 2 30 _,O 3 30 _] λ a w U=>?_)
 refine zt<|zg [some (1,_),η] [] [.v 10 _,.sto 0] [] U (zl 1 G ak (zS 0 G ak o0)) (zz [] [O 2 30 _,O 3 30 _] λ a w U=>?_)
 refine a7<|qe<|aj ?_ (ap G U (zm 0 G) ak)
 exact aL
theorem fv {p q:Int}(hp : -9223372036854775808≤p)(hp1:p<9223372036854775808)(hq : -9223372036854775808≤q)(hq1:q<9223372036854775808):Cn Tryz.prog 24 [In p,In q] ((GpA (g1 p q)).va):=by
 refine Cn.intro Tryz.func24 G zk nq (λ B w0 a U=>?_)
 have U:=zn [(0,In p),(1,In q)] [] U
 refine qb<|zg [] [⟨4,32,ptrH,some 0,_,none⟩] [.alc 0] [.g 0,.g 1] U (zY G (Str.zero bL) o0) (zz [(0,_),(1,_)] [O 4 32 _] λ a w U=>?_)
 refine zt<|zg [some (5,_)] [] [.v 5 _,.v 6 _,.v 7 _,.v 8 _,.v 9 _,.sto 0] [] U (zM 0 G (zQ G (fU hp hp1) (.o (vq 0 G)) (zM 1 G (zQ G (fU hq hq1) (.o (vq 2 G)) (zv G (aO (qs:=[(0,_),(1,_)]) bL (.cons ⟨rfl,vq 1 rfl,rfl⟩ (.cons ⟨rfl,vq 3 rfl,rfl⟩ .nil))) (zS 4 G b9 o0)))))) (zz [] [O 4 32 _] λ a w U=>?_)
 refine a7<|qe<|aj ?_ (ap G U (zm 0 G) b9)
 exact aL
set_option maxHeartbeats 4000000 in
theorem pM  : Cn Tryz.prog 5 [] (Bo true):=by
 refine Cn.intro Tryz.func5 G zk nq (λ B w0 a U=>?_)
 have U:=zn [] [] U
 refine qb<|zh [.v 0 _] [.o 0] U (zv G (a9 aB) o0) (zz [(0,_)] [] λ a w U=>?_)
 refine zt<|zh [.v 8 _,.v 9 _,.v 10 _,.v 11 _,.v 12 _,.v 13 _,.v 14 _,.v 1 _] [.g 0,.o 7] U (zQ G (fv zd zd zd zd) (.cons a8 (.cons a8 .nil)) (zQ G (fv zd zd zd zd) (.cons a8 (.cons a8 .nil)) (zv G (aO (qs:=[(0,_),(1,_),(2,_)]) cU (.cons ⟨rfl,a8,rfl⟩ (.cons ⟨rfl,vq 0 rfl,rfl⟩ (.cons ⟨rfl,vq 1 rfl,rfl⟩ .nil)))) (zQ G (fv zd zd zd zd) (.cons a8 (.cons a8 .nil)) (zQ G (fv zd zd zd zd) (.cons a8 (.cons a8 .nil)) (zv G (aO (qs:=[(0,_),(1,_),(2,_)]) cU (.cons ⟨rfl,a8,rfl⟩ (.cons ⟨rfl,vq 3 rfl,rfl⟩ (.cons ⟨rfl,vq 4 rfl,rfl⟩ .nil)))) (zv G (BG (l:=[_,_]) (xs:=[.tmp 10,.tmp 13]) dP zk (n_ok zk) nq nq nq (.p (vq 2 G) (vq 5 G)) G G) (zA 6 G o0)))))))) (zz [(0,_),(1,_)] [] λ a w U=>?_)
 have U:=St.toLoc U 1 rfl zk
 have U:=zn [(0,_)] [⟨1,69,slH 2 2,_⟩] U
 refine zt<|zg [η] [⟨2,32,ptrH,some 5,_,some (6,_)⟩] [.adr 16 1 .none True,.v 17 _,.v 15 _,.v 18 _,.v 19 _,.alc 1,.sto 1,.v 3 _] [.g 0,.o 7] U (oc (ob_a G G cw) (zQ G ((mZ (al2 1 3)).wkp gprd_r) (.o (nU 0 G zk (lz0 0 G) ⟨rfl,by decide,by decide,by kernel_rfl⟩)) (zv G (ab (vq 1 G)) (zv G (dS (vq 2 G)) (zv G (dR (vq 2 G)) (zY G (Str.zero bL) (zS 3 G b9 (zA 4 G o0)))))))) (zz [(0,_),(3,_)] [⟨1,69,slH 2 2,_⟩,O 2 32 _] λ a w U=>?_)
 refine zt<|zg [η,η] [] [.adr 21 1 .none True,.v 22 _,.v 20 _,.v 23 _,.v 24 _,.v 4 _,.v 5 _] [.g 0,.g 1,.o 5,.o 6] U (oc (ob_a G G cw) (zQ G (vK (al2 1 3)) (.o (nU 0 G zk (lz0 0 G) ⟨rfl,by decide,by decide,by kernel_rfl⟩)) (zv G (ab (vq 1 G)) (zv G (dS (vq 2 G)) (zv G (dR (vq 2 G)) (zA 3 G (zA 4 G o0))))))) (zz [(0,_),(3,_),(4,_),(5,_)] [⟨1,69,slH 2 2,_⟩,O 2 32 _] λ a w U=>?_)
 refine zt<|zg [some (4,_),η] [] [.adr 25 1 .none True,.v 26 _,.adr 27 1 (.some 0) True,.adr 28 1 (.some 1) True,.sto 0] [.g 0,.g 1,.g 2,.g 3] U (oc (ob_a G G cw) (zQ G (fv zd zd zd zd) (.cons a8 (.cons a8 .nil)) (oc (ob_a G G (Eo (k:=0) 0 G zk (lz0 0 G) dP (aD 0 G) zd zd)) (oc (ob_a G G (En 2 G zk (lz0 0 G) bU)) (oc (ck 3 G G G G zk (λ _=>bW _ _ _ _) (vq 1 G) b9 (Put.head (Put.part 1 G G G))) o0))))) (zz [(0,_),(3,_),(4,_),(5,_)] [⟨1,69,slH 2 2,_⟩,O 2 32 _] λ a w U=>?_)
 refine zt<|zg [η,η] [] [.adr 30 1 .none True,.v 31 _,.v 29 _,.v 32 _,.v 33 _,.v 6 _,.v 7 _] [.g 0,.g 1,.g 2,.g 3,.o 5,.o 6] U (oc (ob_a G G cw) (zQ G (vK (al2 1 5)) (.o (nU 0 G zk (lz0 0 G) ⟨rfl,by decide,by decide,by kernel_rfl⟩)) (zv G (ab (vq 1 G)) (zv G (dS (vq 2 G)) (zv G (dR (vq 2 G)) (zA 3 G (zA 4 G o0))))))) (zz [(0,_),(3,_),(4,_),(5,_),(6,_),(7,_)] [⟨1,69,slH 2 2,_⟩,O 2 32 _] λ a w U=>?_)
 refine zt<|zg [some (4,_),η] [] [.adr 34 1 .none True,.v 35 _,.adr 36 1 (.some 0) True,.adr 37 1 (.some 1) True,.sto 0] [.g 0,.g 1,.g 2,.g 3,.g 4,.g 5] U (oc (ob_a G G cw) (zQ G (fv zd zd zd zd) (.cons a8 (.cons a8 .nil)) (oc (ob_a G G (Eo (k:=0) 0 G zk (lz0 0 G) dP (aD 0 G) zd zd)) (oc (ob_a G G (En 2 G zk (lz0 0 G) bU)) (oc (ck 3 G G G G zk (λ _=>bW _ _ _ _) (vq 1 G) b9 (Put.head (Put.part 1 G G G))) o0))))) (zz [(0,_),(3,_),(4,_),(5,_),(6,_),(7,_)] [⟨1,69,slH 2 2,_⟩,O 2 32 _] λ a w U=>?_)
 refine zt ?_
 have U:=St.ofLoc (D:=[U32]) U 0 rfl ⟨rfl,by decide,by decide,by kernel_rfl⟩
 have U:=zn [(1,_),(0,_),(3,_),(4,_),(5,_),(6,_),(7,_)] [O 2 32 _] U
 refine f9 (anc:=[[],[0],[0,1],[0,1,2],[0,1,2,3],[0,1,2,3,4],[0,1,2,3,4,5],[0,1,2,3,4,5,6],[0,1,2,3,4,5,6,7],[0,1,2,3,4,5,6,7,8],[0,1,2,3,4,5,6,7,8,9],[0,1,2,3,4,5,6,7,8,9,10],[0,1,2,3,4,5,6,7,8,9,10,11],[0,1,2,3,4,5,6,7,8,9,10,11,12],[0,1,2,3,4,5,6,7,8,9,10,11,12,13],[0,1,2,3,4,5,6,7,8,9,10,11,12,13,14],[0,1,2,3,4,5,6,7,8,9,10,11,12,13,14,15],[0,1,2,3,4,5,6,7,8,9,10,11,12,13,14,15,16],[0,1,2,3,4,5,6,7,8,9,10,11,12,13,14,15,16,17],[0,1,2,3,4,5,6,7,8,9,10,11,12,13,14,15,16,17,18],[0,1,2,3,4,5,6,7,8,9,10,11,12,13,14,15,16,17],[0,1,2,3,4,5,6,7,8,9,10,11,12,13,14,15,16,17,18,19,20],[0,1,2,3,4,5,6,7,8,9,10,11,12,13,14,15,16,17,18,19,20,21],[0,1,2,3,4,5,6,7,8,9,10,11,12,13,14,15,16,17,18,19,20,21,22],[0,1,2,3,4,5,6,7,8,9,10,11,12,13,14,15,16,17,18,19,20,21,22,23],[0,1,2,3,4,5,6,7,8,9,10,11,12,13,14,15,16,17,18,19,20,21,22,23,24],[0,1,2,3,4,5,6,7,8,9,10,11,12,13,14,15,16,17,18,19,20,21,22,23],[0,1,2,3,4,5,6,7,8,9,10,11,12,13,14,15,16,17,18,19,20,21,22,23,24,25,26],[0,1,2,3,4,5,6,7,8,9,10,11,12,13,14,15,16,17,18,19,20,21,22,23,24,25,26,27],[0,1,2,3,4,5,6,7,8,9,10,11,12,13,14,15,16,17,18,19,20,21,22,23,24,25,26,27,28],[0,1,2,3,4,5,6,7,8,9,10,11,12,13,14,15,16,17,18,19,20,21,22,23,24,25,26,27,28,29],[0,1,2,3,4,5,6,7,8,9,10,11,12,13,14,15,16,17,18,19,20,21,22,23,24,25,26,27,28,29,30],[0,1,2,3,4,5,6,7,8,9,10,11,12,13,14,15,16,17,18,19,20,21,22,23,24,25,26,27,28,29,30,31],[0,1,2,3,4,5,6,7,8,9,10,11,12,13,14,15,16,17,18,19,20,21,22,23,24,25,26,27,28,29,30,31,32],[0,1,2,3,4,5,6,7,8,9,10,11,12,13,14,15,16,17,18,19,20,21,22,23,24,25,26,27,28,29,30,31,32,33]]) (sts:=[none]) (news:=[]) (sp:=((.v 38 _:Sp)::(.v 39 _)::(.v 40 _)::(.t 41 _)::(.t 42 _)::(.v 43 _)::(.v 44 _)::(.t 45 _)::(.t 46 _)::(.v 47 _)::(.v 48 _)::(.t 49 _)::(.v 50 _)::(.v 51 _)::(.t 52 _)::(.t 53 _)::(.v 54 _)::(.v 55 _)::(.adr 56 2 (.some 0) (_=true))::(.t 57 _)::(.t 58 _)::(.t 59 _)::(.v 60 _)::(.v 61 _)::(.adr 62 2 (.some 4) (_=true))::(.t 63 _)::(.t 64 _)::(.t 65 _)::(.v 66 _)::(.v 67 _)::(.t 68 _)::(.t 69 _)::(.t 70 _)::(.v 71 _)::(.v 0 _)::[])) [.o 34] aa U (zM 2 G (zv G (bF (vq 0 G) a8) (zv G (ab (vq 1 G)) (zB 2 G (λ hg=>ab (gq 4 G)) (zB 2 G (λ hg=>bF (ac (vq 3 G) hg) a8) (zv G (bG (vq 2 G) (vq 4 G)) (zv G (ab (vq 5 G)) (zB 6 G (λ hg=>ab (gq 6 G)) (zB 6 G (λ hg=>bF (ac (vq 7 G) hg) a8) (zv G (bG (vq 6 G) (vq 8 G)) (zv G (ab (vq 9 G)) (zB 10 G (λ hg=>ab (gq 3 G)) (zv G (bG (vq 10 G) (vq 11 G)) (zv G (ab (vq 12 G)) (zB 13 G (λ hg=>ab (gq 5 G)) (zB 13 G (λ hg=>cW (ac (vq 14 G) hg)) (zv G (bG (vq 13 G) (vq 15 G)) (zv G (ab (vq 16 G)) (zC 17 0 G bg (zB 17 G (λ hg=>ax 18 G zk hg (lz0 0 G) (Sub.part 0 G G) ak) (zB 17 G (λ hg=>aX (fU zd zd) (.cons a8 .nil)) (zB 17 G (λ hg=>aX (dC _ _) (.p (ac (vq 19 G) hg) (ac (vq 20 G) hg))) (zv G (bG (vq 17 G) (vq 21 G)) (zv G (ab (vq 22 G)) (zC 23 0 G bi (zB 23 G (λ hg=>ax 24 G zk hg (lz0 0 G) (Sub.part 1 G G) ak) (zB 23 G (λ hg=>aX (fU zd zd) (.cons a8 .nil)) (zB 23 G (λ hg=>aX (dC _ _) (.p (ac (vq 25 G) hg) (ac (vq 26 G) hg))) (zv G (bG (vq 23 G) (vq 27 G)) (zv G (ab (vq 28 G)) (zB 29 G (λ hg=>ab (gq 0 G)) (zB 29 G (λ hg=>aX (fh (al2 2 1)) (.o (ac (vq 30 G) hg))) (zB 29 G (λ hg=>bF (ac (vq 31 G) hg) a8) (zv G (bG (vq 29 G) (vq 32 G)) (zA 33 G o0))))))))))))))))))))))))))))))))))) zk zk zk zk (zz [(0,_)] [O 2 32 _] λ a w U=>?_)
 refine a7<|qe<|aj ?_ (an G U (zm 0 G))
 exact bj (qk Bo zk)
theorem A7 : ∃ fn, Tryz.prog.funcs[126]? = some fn ∧ (fn.name == "runtime.NumGoroutine") = false ∧ fn.body.isNone = false := ⟨_, Tryz.func126, by kernel_rfl, by kernel_rfl⟩
theorem CA : ∃ fn, Tryz.prog.funcs[198]? = some fn ∧ (fn.name == "runtime.NumGoroutine") = false ∧ fn.body.isNone = false := ⟨_, Tryz.func198, by kernel_rfl, by kernel_rfl⟩
theorem A8 : ∃ fn, Tryz.prog.funcs[125]? = some fn ∧ (fn.name == "runtime.NumGoroutine") = false ∧ fn.body.isNone = false := ⟨_, Tryz.func125, by kernel_rfl, by kernel_rfl⟩
theorem uE : ∃ fn, Tryz.prog.funcs[203]? = some fn ∧ (fn.name == "runtime.NumGoroutine") = false ∧ fn.body.isNone = false := ⟨_, Tryz.func203, by kernel_rfl, by kernel_rfl⟩
theorem Cz : ∃ fn, Tryz.prog.funcs[127]? = some fn ∧ (fn.name == "runtime.NumGoroutine") = false ∧ fn.body.isNone = false := ⟨_, Tryz.func127, by kernel_rfl, by kernel_rfl⟩
theorem rJ : ∃ fn, Tryz.prog.funcs[204]? = some fn ∧ (fn.name == "runtime.NumGoroutine") = false ∧ fn.body.isNone = false := ⟨_, Tryz.func204, by kernel_rfl, by kernel_rfl⟩
theorem rb (p:Int)(hp:lz p≤1000000000):Cn Tryz.prog 204 [Zi p] (Zi (-p)):=by
 refine Cn.intro Tryz.func204 G zk nq (λ B w0 a U=>?_)
 have U:=zn [(0,Zi p)] [] U
 refine qb<|zg [] [⟨1,28,ptrH,some 0,_,none⟩,⟨2,28,ptrH,some 1,_,none⟩] [.alc 0,.alc 1] [] U (zW 0 G (zY G (Str.zero bn) o0)) (zz [] [O 1 28 _,O 2 28 _] λ a w U=>?_)
 refine zt<|zgd [[],[],[0,1],[0,1,2]] [none,some (3,_)] [] [.v 3 _,.v 4 _,.v 5 _,.sto 1] [] aa U (zQ G (BC 0 zd zd) (.cons a8 .nil) (zl 0 G al (zQ G (oW 0 p (by simp [lz,bx]) hp) (.p (vq 0 G) (vq 1 G)) (zS 2 G al o0)))) zk zk zk zk (zz [] [O 1 28 _,O 2 28 _] λ a w U=>?_)
 refine a7<|qe<|aj ?_ (ap G U (zm 1 G) al)
 exact bj (qk Zi (jz p))
section
variable {a b:Nat} {p q:Int} (ha:a≤1000000000)
include ha
theorem gN:Cn Tryz.prog 204 [Zs a p] (Zs a (-p)):=zs1 rJ λ h=>(rb p zo).wkp (fF (by rw [eU]; exact h))
variable (hb:b≤1000000000)
include hb
theorem dA:Cn Tryz.prog 126 [Zs a p,Zs b q] (Zs (a+b) (p*q)):=zs2 A7 λ h h'=>(wa p q zo zo).wkp (fF (by have:=e8 p q; omega))
theorem F8:Cn Tryz.prog 198 [Zs a p,Zs b q] (Zs (max a b+1) (p+q)):=zs2 CA λ h h'=>(sw p q zo zo).wkp (fF (by have:=mJ p q; omega))
theorem BD:Cn Tryz.prog 125 [Zs a p,Zs b q] (Zs (max a b+1) (p-q)):=zs2 A8 λ h h'=>(oW p q zo zo).wkp (fF (by have:=DG p q; omega))
theorem oX (hq:q≠0):Cn Tryz.prog 203 [Zs a p,Zs b q] (Tu [Zs a (p.tdiv q),Zs b (p.tmod q)]):=zs2 uE λ h h'=>(mB p q hq zo zo).wkp (AZ (.cons (fF (by have:=lE p q; omega)) (.cons (fF (by have:=C3 (p:=p) hq; omega)) .nil)))
end
theorem pW {a:Nat}{p:Int}:Cn Tryz.prog 127 [Zs a p] (In p.sign):=zs1 Cz λ _=>(l5 (riOf p)).post (by rw [dq])
theorem Fc {n:Int}(h0 : -9223372036854775808≤n)(h1:n<9223372036854775808):Cn Tryz.prog 129 [In n] (Zs 2 n):=(BC n h0 h1).wkp (fF (ug zo))
theorem C2 {p q:Int}(h:q≠0)(hq:lz q≤1000000000):lz (p.tmod q)≤1000000000:=qd (C3 h) hq
theorem Ci {X Y:Int}(h:Y≠0):Int.gcd Y (X.tmod Y)=Int.gcd X Y:=by
 show Nat.gcd Y.natAbs (X.tmod Y).natAbs=Nat.gcd X.natAbs Y.natAbs
 rw [gj,xz X.natAbs,xz,← Nat.gcd_rec]
theorem lm (p q:Int)(hp:lz p≤1000000000)(hq:lz q≤1000000000):Cn Tryz.prog 202 [Zi p,Zi q] (Zi ((Int.gcd p q:Nat):Int)):=by
 refine Cn.intro Tryz.func202 G zk nq (λ B w0 a U=>?_)
 have U:=zn [(0,Zi p),(1,Zi q)] [] U
 refine qb<|zg [] [⟨2,28,ptrH,some 0,_,none⟩,⟨3,28,ptrH,some 1,_,none⟩,⟨4,28,ptrH,some 2,_,none⟩] [.alc 0,.alc 1,.alc 2] [] U (zW 0 G (zW 1 G (zY G (Str.zero bn) o0))) (zz [] [O 2 28 _,O 3 28 _,O 4 28 _] λ a w U=>?_)
 refine zt<|qb<|zgd [[],[0],[],[0,1,2],[0,1,2,3]] [none,none,none] [] [.v 7 _,.v 8 _,.v 9 _,.v 10 _,.v 11 _] [.o 4] aa U (zl 0 G al (zQ G (r5 p hp) (.o (vq 0 G)) (zl 1 G al (zQ G (r5 q hq) (.o (vq 2 G)) (zv G (aK (vq 1 G) (vq 3 G)) o0))))) zk zk zk zk (zz [(11,_)] [O 2 28 _,O 3 28 _,O 4 28 _] λ a w U=>?_)
 refine a7<|bB (λ a w=>∃ X Y:Int,(lz X≤1000000000∧lz Y≤1000000000∧Int.gcd X Y=Int.gcd p q)∧St B w0 33 [] [⟨2,28,ptrH,RIA (riOf X)⟩,⟨3,28,ptrH,RIA (riOf Y)⟩,⟨4,28,ptrH,cat [BoA false,MgA []]⟩] a w) U (zm 0 G) (λ hb0=>?_) (λ hb0=>?_) (λ a w U=>?_)
 ·refine zg [some (2,_),some (3,_),η] [] [.v 12 _,.v 13 _,.sto 0,.sto 1] [] U (zl 1 G al (zl 0 G al (zS 0 G al (zS 1 G al o0)))) (zz [] [O 2 28 _,O 3 28 _,O 4 28 _] λ a w U=>?_)
  refine a7 ?_
  have U:=St.sel U []
  exact ⟨q,p,⟨hq,hp,Int.gcd_comm q p⟩,U⟩
 ·refine qh<|a7 ?_
  have U:=St.sel U []
  exact ⟨p,q,⟨hp,hq,rfl⟩,U⟩
 obtain ⟨X,Y,⟨hX,hY,hg⟩,U⟩:=U
 refine zt<|qb<|zg [η,η,η] [] [.v 14 _,.v 15 _,.v 16 _] [.o 2] U (zl 1 G al (zQ G ((l5 (riOf Y)).post (by rw [dq])) (.o (vq 0 G)) (zv G (bF (vq 1 G) a8) o0))) (zz [(16,_)] [O 2 28 _,O 3 28 _,O 4 28 _] λ a w U=>?_)
 refine a7<|ae U (zm 0 G) (λ hb1=>?_) (λ hb1=>?_)
 ·refine qb<|zg [η,η,some (3,_)] [] [.v 17 _,.v 18 _,.v 19 _,.sto 2] [] U (zl 0 G al (zl 1 G al (zQ G (mC X Y hX hY) (.p (vq 0 G) (vq 1 G)) (zS 2 G al o0)))) (zz [] [O 2 28 _,O 3 28 _,O 4 28 _] λ a w U=>?_)
  refine a7<|qe<|ao ?_
  refine aj ?_ (ap G U (zm 2 G) al)
  exact bj (qk (λ n:Nat=>Zi (n:Int)) hg)
 ·have hY0:Y≠0:=λ e=>by rw [e] at hb1; exact absurd hb1 zd
  refine qh<|zt<|zg [η,η,η] [⟨5,28,ptrH,some 6,_,some (8,_)⟩,⟨6,28,ptrH,some 7,_,some (9,_)⟩] [.v 21 _,.v 22 _,.v 23 _,.v 20 _,.v 24 _,.v 25 _,.alc 3,.alc 4,.sto 3,.sto 4] [] U (zl 0 G al (zl 1 G al (zQ G (mB X Y hY0 hX hY) (.p (vq 0 G) (vq 1 G)) (zv G (ab (vq 2 G)) (zv G (aP (vq 3 G) G) (zv G (aP (vq 3 G) G) (zY G (Str.zero bn) (zY G (Str.zero bn) (zS 4 G al (zS 5 G al o0)))))))))) (zz [] [O 2 28 _,O 3 28 _,O 4 28 _,O 5 28 _,O 6 28 _] λ a w U=>?_)
  refine zt<|qb<|zg [η,η,η,η,η] [] [.v 26 _,.v 27 _,.v 28 _] [.o 2] U (zl 1 G al (zQ G (r5 Y hY) (.o (vq 0 G)) (zv G (bF (vq 1 G) a8) o0))) (zz [(28,_)] [O 2 28 _,O 3 28 _,O 4 28 _,O 5 28 _,O 6 28 _] λ a w U=>?_)
  refine a7<|ae U (zm 0 G) (λ hb2=>?_) (λ hb2=>?_)
  ·have h1:Y.natAbs=1:=CR (by have:=beq_iff_eq.1 hb2; omega)
   refine qb<|zg [η,η,some (1,_),η,η] [] [.v 29 _,.sto 2] [] U (zQ G (BC 1 zd zd) (.cons a8 .nil) (zS 0 G al o0)) (zz [] [O 2 28 _,O 3 28 _,O 4 28 _,O 5 28 _,O 6 28 _] λ a w U=>?_)
   refine a7<|qe<|ao ?_
   refine aj ?_ (ap G U (zm 2 G) al)
   exact bj (qk (λ n:Nat=>Zi (n:Int)) (show 1=Int.gcd p q by rw [← hg]; show 1=Nat.gcd X.natAbs Y.natAbs; rw [h1,Nat.gcd_one_right]))
  ·refine qh<|zt<|zg [η,η,some (3,_),η,η] [] [.v 30 _,.v 31 _,.v 32 _,.sto 2] [] U (zl 1 G al (zl 4 G al (zQ G (mC Y (X.tmod Y) hY (C2 hY0 hY)) (.p (vq 0 G) (vq 1 G)) (zS 2 G al o0)))) (zz [] [O 2 28 _,O 3 28 _,O 4 28 _,O 5 28 _,O 6 28 _] λ a w U=>?_)
   refine a7<|qe<|aj ?_ (ap G U (zm 2 G) al)
   exact bj (qk (λ n:Nat=>Zi (n:Int)) ((Ci hY0).trans hg))
theorem rK : ∃ fn, Tryz.prog.funcs[202]? = some fn ∧ (fn.name == "runtime.NumGoroutine") = false ∧ fn.body.isNone = false := ⟨_, Tryz.func202, by kernel_rfl, by kernel_rfl⟩
theorem u4 {a b:Nat}{p q:Int}(ha:a≤1000000000)(hb:b≤1000000000):Cn Tryz.prog 202 [Zs a p,Zs b q] (Zs (max a b) ((Int.gcd p q:Nat):Int)):=zs2 rK λ h h'=>(lm p q zo zo).wkp (fF (by have:=y9 p q; omega))
theorem fp {c d:Nat}{p q:Int}(hc:c≤1000000000)(hd:d≤1000000000)(hq:q≠0):Cn Tryz.prog 128 [Zs c p,Zs d q] (Qs (max c d) (Rat.divInt p q)):=by
 have hg0:0<Int.gcd p q:=xj p hq
 obtain ⟨hn1,hn2⟩:=nM (p:=p) hq
 refine Cn.intro Tryz.func128 G zk nq (λ B w0 a U=>?_)
 have U:=zn [(0,Zs c p),(1,Zs d q)] [] U
 refine qb<|zg [] [⟨2,28,ptrH,some 0,_,none⟩,⟨3,28,ptrH,some 1,_,none⟩,⟨4,30,ptrH,some 2,_,none⟩] [.alc 0,.alc 1,.alc 2] [] U (zW 0 G (zW 1 G (zY G (Str.zero az) o0))) (zz [] [O 2 28 _,O 3 28 _,O 4 30 _] λ a w U=>?_)
 refine zt<|zg [η,η,η] [⟨5,28,ptrH,some 3,_,some (4,_)⟩] [.v 10 _,.v 11 _,.v 12 _,.alc 3,.sto 3] [] U (zl 0 G al (zl 1 G al (zQ G (u4 zo zo) (.p (vq 0 G) (vq 1 G)) (zY G (Str.zero bn) (zS 2 G al o0))))) (zz [] [O 2 28 _,O 3 28 _,O 4 30 _,O 5 28 _] λ a w U=>?_)
 refine zt<|zg [η,η,η,η] [⟨6,28,ptrH,some 6,_,some (8,_)⟩,⟨7,28,ptrH,some 7,_,some (9,_)⟩] [.v 14 _,.v 15 _,.v 16 _,.v 13 _,.v 17 _,.v 18 _,.alc 4,.alc 5,.sto 4,.sto 5] [] U (zl 0 G al (zl 3 G al (zQ G (oX zo zo zo) (.p (vq 0 G) (vq 1 G)) (zv G (ab (vq 2 G)) (zv G (aP (vq 3 G) G) (zv G (aP (vq 3 G) G) (zY G (Str.zero bn) (zY G (Str.zero bn) (zS 4 G al (zS 5 G al o0)))))))))) (zz [] [O 2 28 _,O 3 28 _,O 4 30 _,O 5 28 _,O 6 28 _,O 7 28 _] λ a w U=>?_)
 refine zt<|zg [η,η,η,η,η,η] [⟨8,28,ptrH,some 6,_,some (8,_)⟩,⟨9,28,ptrH,some 7,_,some (9,_)⟩] [.v 20 _,.v 21 _,.v 22 _,.v 19 _,.v 23 _,.v 24 _,.alc 6,.alc 7,.sto 6,.sto 7] [] U (zl 1 G al (zl 3 G al (zQ G (oX zo zo zo) (.p (vq 0 G) (vq 1 G)) (zv G (ab (vq 2 G)) (zv G (aP (vq 3 G) G) (zv G (aP (vq 3 G) G) (zY G (Str.zero bn) (zY G (Str.zero bn) (zS 4 G al (zS 5 G al o0)))))))))) (zz [] [O 2 28 _,O 3 28 _,O 4 30 _,O 5 28 _,O 6 28 _,O 7 28 _,O 8 28 _,O 9 28 _] λ a w U=>?_)
 refine zt<|qb<|zg [η,η,η,η,η,η,η,η] [] [.v 25 _,.v 26 _,.v 27 _] [.o 2] U (zl 6 G al (zQ G pW (.o (vq 0 G)) (zv G (aK (vq 1 G) a8) o0))) (zz [(27,_)] [O 2 28 _,O 3 28 _,O 4 30 _,O 5 28 _,O 6 28 _,O 7 28 _,O 8 28 _,O 9 28 _] λ a w U=>?_)
 refine a7<|ae U (zm 0 G) (λ hb0=>?_) (λ hb0=>?_)
 ·refine qb<|zgd [[],[0],[],[0,1,2],[0,1,2,3],[0,1,2,3,4]] [none,none,some (5,_),none,none,none,none,none] [] [.v 28 _,.v 29 _,.v 30 _,.v 31 _,.v 32 _,.sto 2] [] aa U (zl 4 G al (zQ G (gN zo) (.o (vq 0 G)) (zl 6 G al (zQ G (gN zo) (.o (vq 2 G)) (zv G (aO (qs:=[(0,_),(1,_)]) az (.cons ⟨rfl,vq 1 rfl,rfl⟩ (.cons ⟨rfl,vq 3 rfl,rfl⟩ .nil))) (zS 4 G ak o0)))))) zk zk zk zk (zz [] [O 2 28 _,O 3 28 _,O 4 30 _,O 5 28 _,O 6 28 _,O 7 28 _,O 8 28 _,O 9 28 _] λ a w U=>?_)
  refine a7<|qe<|ao ?_
  refine aj ?_ (ap G U (zm 2 G) ak)
  rw [qC (pV hb0)] at hn1 hn2; rw [hn1,hn2]; exact (bz (.cons (eM (xB _ _)) (.cons (eM (xu _ _)) .nil))).va
 ·refine qh<|zt<|zg [η,η,some (3,_),η,η,η,η,η] [] [.v 33 _,.v 34 _,.v 35 _,.sto 2] [] U (zl 4 G al (zl 6 G al (zv G (aO (qs:=[(0,_),(1,_)]) az (.cons ⟨rfl,vq 0 rfl,rfl⟩ (.cons ⟨rfl,vq 1 rfl,rfl⟩ .nil))) (zS 2 G ak o0)))) (zz [] [O 2 28 _,O 3 28 _,O 4 30 _,O 5 28 _,O 6 28 _,O 7 28 _,O 8 28 _,O 9 28 _] λ a w U=>?_)
  refine a7<|qe<|aj ?_ (ap G U (zm 2 G) ak)
  rw [qA (vY hb0)] at hn1 hn2; rw [hn1,hn2]; exact (bz (.cons (eM (xB _ _)) (.cons (eM (xu _ _)) .nil))).va
theorem bM  : Cn Tryz.prog 133 [] (Qs 2 0):=by
 refine Cn.intro Tryz.func133 G zk nq (λ B w0 a U=>?_)
 have U:=zn [] [] U
 refine qb<|zg [] [⟨0,30,ptrH,some 0,_,none⟩] [.alc 0] [] U (zY G (Str.zero az) o0) (zz [] [O 0 30 _] λ a w U=>?_)
 refine zt<|zg [some (2,_)] [] [.v 1 _,.v 2 _,.sto 0] [] U (zQ G (Fc zd zd) (.cons a8 .nil) (zv G (aO (qs:=[(1,_)]) az (.cons ⟨rfl,vq 0 rfl,rfl⟩ .nil)) (zS 1 G ak o0))) (zz [] [O 0 30 _] λ a w U=>?_)
 refine a7<|qe<|aj ?_ (ap G U (zm 0 G) ak)
 exact q0_wk.va
theorem lk {p q:Int}(hp : -9223372036854775808≤p)(hp1:p<9223372036854775808)(hq : -9223372036854775808≤q)(hq1:q<9223372036854775808)(h0:q≠0):Cn Tryz.prog 42 [In p,In q] (Qs 2 (Rat.divInt p q)):=by
 refine Cn.intro Tryz.func42 G zk nq (λ B w0 a U=>?_)
 have U:=zn [(0,In p),(1,In q)] [] U
 refine qb<|zg [] [⟨4,30,ptrH,some 0,_,none⟩] [.alc 0] [.g 0,.g 1] U (zY G (Str.zero az) o0) (zz [(0,_),(1,_)] [O 4 30 _] λ a w U=>?_)
 refine zt<|zg [some (5,_)] [] [.v 5 _,.v 6 _,.v 7 _,.v 8 _,.v 9 _,.sto 0] [] U (zM 0 G (zQ G (Fc hp hp1) (.o (vq 0 G)) (zM 1 G (zQ G (Fc hq hq1) (.o (vq 2 G)) (zQ G (fp zo zo h0) (.p (vq 1 G) (vq 3 G)) (zS 4 G ak o0)))))) (zz [] [O 4 30 _] λ a w U=>?_)
 refine a7<|qe<|aj ?_ (ap G U (zm 0 G) ak)
 exact aL
theorem gO  : Cn Tryz.prog 240 [] (Qs 2 1):=by
 refine Cn.intro Tryz.func240 G zk nq (λ B w0 a U=>?_)
 have U:=zn [] [] U
 refine qb<|zg [] [⟨0,30,ptrH,some 0,_,none⟩] [.alc 0] [] U (zY G (Str.zero az) o0) (zz [] [O 0 30 _] λ a w U=>?_)
 refine zt<|zg [some (1,_)] [] [.v 1 _,.sto 0] [] U (zQ G (lk zd zd zd zd zd) (.cons a8 (.cons a8 .nil)) (zS 0 G ak o0)) (zz [] [O 0 30 _] λ a w U=>?_)
 refine a7<|qe<|aj ?_ (ap G U (zm 0 G) ak)
 exact bj (qk (Qs 2) (show Rat.divInt 1 1=1 from G))
theorem cX {c d:Nat}{x y:Rat}(hc:c+d≤900000000):Cn Tryz.prog 135 [Qs c x,Qs d y] (Qs (c+d+1) (x+y)):=by
 refine Cn.intro Tryz.func135 G zk nq (λ B w0 a U=>?_)
 have U:=zn [(0,Qs c x),(1,Qs d y)] [] U
 refine qb<|zg [] [⟨2,30,ptrH,some 0,_,none⟩,⟨3,30,ptrH,some 1,_,none⟩,⟨4,30,ptrH,some 2,_,none⟩] [.alc 0,.alc 1,.alc 2] [] U (zW 0 G (zW 1 G (zY G (Str.zero az) o0))) (zz [] [O 2 30 _,O 3 30 _,O 4 30 _] λ a w U=>?_)
 refine zt<|zgd [[],[0],[],[2],[0,1,2,3],[],[5],[],[7],[0,1,2,3,4,5,6,7,8],[0,1,2,3,4,5,6,7,8,9],[],[0,1,2,3,4,5,6,7,8,9,10,11]] [none,none,none] [⟨5,28,ptrH,some 11,_,some (12,_)⟩] [.adr 6 2 (.some 0) True,.v 7 _,.adr 8 3 (.some 2) True,.v 9 _,.v 10 _,.adr 11 3 (.some 0) True,.v 12 _,.adr 13 2 (.some 2) True,.v 14 _,.v 15 _,.v 16 _,.alc 3,.sto 3] [] aa U (zO 0 G aV (zL 0 0 0 G al (zO 1 G aN (zL 2 1 1 G al (zQ G (dA zo zo) (.p (vq 1 G) (vq 3 G)) (zO 1 G aV (zL 5 1 0 G al (zO 0 G aN (zL 7 0 1 G al (zQ G (dA zo zo) (.p (vq 6 G) (vq 8 G)) (zQ G (F8 zo zo) (.p (vq 4 G) (vq 9 G)) (zY G (Str.zero bn) (zS 10 G al o0))))))))))))) zk zk zk zk (zz [] [O 2 30 _,O 3 30 _,O 4 30 _,O 5 28 _] λ a w U=>?_)
 refine zt<|zgd [[],[],[1],[],[3],[1,2,3,4],[0,1,2,3,4,5],[0,1,2,3,4,5,6]] [none,none,some (7,_),none] [] [.v 17 _,.adr 18 2 (.some 2) True,.v 19 _,.adr 20 3 (.some 2) True,.v 21 _,.v 22 _,.v 23 _,.sto 2] [] aa U (zl 3 G al (zO 0 G aN (zL 1 0 1 G al (zO 1 G aN (zL 3 1 1 G al (zQ G (dA zo zo) (.p (vq 2 G) (vq 4 G)) (zQ G (fp zo zo (den_nz x y)) (.p (vq 0 G) (vq 5 G)) (zS 6 G ak o0)))))))) zk zk zk zk (zz [] [O 2 30 _,O 3 30 _,O 4 30 _,O 5 28 _] λ a w U=>?_)
 refine a7<|qe<|aj ?_ (ap G U (zm 2 G) ak)
 exact bO (bj (qk (Qs _) (ni x y))) (bf zo).va
theorem lj {c d:Nat}{x y:Rat}(hc:c+d≤900000000):Cn Tryz.prog 245 [Qs c x,Qs d y] (Qs (c+d) (x*y)):=by
 refine Cn.intro Tryz.func245 G zk nq (λ B w0 a U=>?_)
 have U:=zn [(0,Qs c x),(1,Qs d y)] [] U
 refine qb<|zg [] [⟨2,30,ptrH,some 0,_,none⟩,⟨3,30,ptrH,some 1,_,none⟩,⟨4,30,ptrH,some 2,_,none⟩] [.alc 0,.alc 1,.alc 2] [] U (zW 0 G (zW 1 G (zY G (Str.zero az) o0))) (zz [] [O 2 30 _,O 3 30 _,O 4 30 _] λ a w U=>?_)
 refine zt<|zgd [[],[0],[],[2],[0,1,2,3],[],[5],[],[7],[0,1,2,3,4,5,6,7,8],[0,1,2,3,4,5,6,7,8,9],[0,1,2,3,4,5,6,7,8,9,10]] [none,none,some (11,_)] [] [.adr 5 2 (.some 0) True,.v 6 _,.adr 7 3 (.some 0) True,.v 8 _,.v 9 _,.adr 10 2 (.some 2) True,.v 11 _,.adr 12 3 (.some 2) True,.v 13 _,.v 14 _,.v 15 _,.sto 2] [] aa U (zO 0 G aV (zL 0 0 0 G al (zO 1 G aV (zL 2 1 0 G al (zQ G (dA zo zo) (.p (vq 1 G) (vq 3 G)) (zO 0 G aN (zL 5 0 1 G al (zO 1 G aN (zL 7 1 1 G al (zQ G (dA zo zo) (.p (vq 6 G) (vq 8 G)) (zQ G (fp zo zo (den_nz x y)) (.p (vq 4 G) (vq 9 G)) (zS 10 G ak o0)))))))))))) zk zk zk zk (zz [] [O 2 30 _,O 3 30 _,O 4 30 _] λ a w U=>?_)
 refine a7<|qe<|aj ?_ (ap G U (zm 2 G) ak)
 exact bO (bj (qk (Qs _) (r6 x y))) (bf zo).va
theorem BH {c d:Nat}{x y:Rat}(hc:c+d≤900000000)(h0:y≠0):Cn Tryz.prog 244 [Qs c x,Qs d y] (Qs (c+d) (x/y)):=by
 refine Cn.intro Tryz.func244 G zk nq (λ B w0 a U=>?_)
 have U:=zn [(0,Qs c x),(1,Qs d y)] [] U
 refine qb<|zg [] [⟨2,30,ptrH,some 0,_,none⟩,⟨3,30,ptrH,some 1,_,none⟩,⟨4,30,ptrH,some 2,_,none⟩] [.alc 0,.alc 1,.alc 2] [] U (zW 0 G (zW 1 G (zY G (Str.zero az) o0))) (zz [] [O 2 30 _,O 3 30 _,O 4 30 _] λ a w U=>?_)
 refine zt<|zgd [[],[0],[],[2],[0,1,2,3],[],[5],[],[7],[0,1,2,3,4,5,6,7,8],[0,1,2,3,4,5,6,7,8,9],[0,1,2,3,4,5,6,7,8,9,10]] [none,none,some (11,_)] [] [.adr 5 2 (.some 0) True,.v 6 _,.adr 7 3 (.some 2) True,.v 8 _,.v 9 _,.adr 10 2 (.some 2) True,.v 11 _,.adr 12 3 (.some 0) True,.v 13 _,.v 14 _,.v 15 _,.sto 2] [] aa U (zO 0 G aV (zL 0 0 0 G al (zO 1 G aN (zL 2 1 1 G al (zQ G (dA zo zo) (.p (vq 1 G) (vq 3 G)) (zO 0 G aN (zL 5 0 1 G al (zO 1 G aV (zL 7 1 0 G al (zQ G (dA zo zo) (.p (vq 6 G) (vq 8 G)) (zQ G (fp zo zo (wW x h0)) (.p (vq 4 G) (vq 9 G)) (zS 10 G ak o0)))))))))))) zk zk zk zk (zz [] [O 2 30 _,O 3 30 _,O 4 30 _] λ a w U=>?_)
 refine a7<|qe<|aj ?_ (ap G U (zm 2 G) ak)
 exact bO (bj (qk (Qs _) (r7 x y))) (bf zo).va
theorem neg_wk {c:Nat}{x:Rat}:WkA (cat [ZA c (-x.num),ZA c (x.den:Int)]) (QA c (-x)):=dD (by unfold QA; rw [j4,j5])
theorem u3 {c:Nat}{x:Rat}(hc:c≤900000000):Cn Tryz.prog 205 [Qs c x] (Qs c (-x)):=by
 refine Cn.intro Tryz.func205 G zk nq (λ B w0 a U=>?_)
 have U:=zn [(0,Qs c x)] [] U
 refine qb<|zg [] [⟨1,30,ptrH,some 0,_,none⟩,⟨2,30,ptrH,some 1,_,none⟩] [.alc 0,.alc 1] [] U (zW 0 G (zY G (Str.zero az) o0)) (zz [] [O 1 30 _,O 2 30 _] λ a w U=>?_)
 refine zt<|zgd [[],[0],[0,1],[],[3],[0,1,2,3,4],[0,1,2,3,4,5]] [none,some (6,_)] [] [.adr 3 1 (.some 0) True,.v 4 _,.v 5 _,.adr 6 1 (.some 2) True,.v 7 _,.v 8 _,.sto 1] [] aa U (zO 0 G aV (zL 0 0 0 G al (zQ G (gN zo) (.o (vq 1 G)) (zO 0 G aN (zL 3 0 1 G al (zv G (aO (qs:=[(0,_),(1,_)]) az (.cons ⟨rfl,vq 2 rfl,rfl⟩ (.cons ⟨rfl,vq 4 rfl,rfl⟩ .nil))) (zS 5 G ak o0))))))) zk zk zk zk (zz [] [O 1 30 _,O 2 30 _] λ a w U=>?_)
 refine a7<|qe<|aj ?_ (ap G U (zm 1 G) ak)
 exact neg_wk.va
theorem ll {c d:Nat}{x y:Rat}(hc:c+d≤900000000):Cn Tryz.prog 132 [Qs c x,Qs d y] (Qs (c+d+1) (x-y)):=by
 refine Cn.intro Tryz.func132 G zk nq (λ B w0 a U=>?_)
 have U:=zn [(0,Qs c x),(1,Qs d y)] [] U
 refine qb<|zg [] [⟨2,30,ptrH,some 0,_,none⟩,⟨3,30,ptrH,some 1,_,none⟩,⟨4,30,ptrH,some 2,_,none⟩] [.alc 0,.alc 1,.alc 2] [] U (zW 0 G (zW 1 G (zY G (Str.zero az) o0))) (zz [] [O 2 30 _,O 3 30 _,O 4 30 _] λ a w U=>?_)
 refine zt<|zgd [[],[],[1],[0,1,2],[0,1,2,3]] [none,none,some (4,_)] [] [.v 5 _,.v 6 _,.v 7 _,.v 8 _,.sto 2] [] aa U (zl 0 G ak (zl 1 G ak (zQ G (u3 zo) (.o (vq 1 G)) (zQ G (cX zo) (.p (vq 0 G) (vq 2 G)) (zS 3 G ak o0))))) zk zk zk zk (zz [] [O 2 30 _,O 3 30 _,O 4 30 _] λ a w U=>?_)
 refine a7<|qe<|aj ?_ (ap G U (zm 2 G) ak)
 exact bj (qk (Qs _) (show x + -y=x-y by grind))
theorem cm_sgn (x y:Rat):(x.num*(y.den:Int)-y.num*(x.den:Int)).sign=cmQ x y:=by
 rw [← cm_sg,iZ]
 unfold sg3
 generalize x.num*(y.den:Int)=u
 generalize y.num*(x.den:Int)=v
 by_cases h1:u<v
 ·rw [qC zo,qC h1]
 ·by_cases h2:v<u
  ·rw [qA zo,qA zo,qA h1,qC h2]
  ·rw [qA zo,qC zo,qA h1,qA h2]
theorem gP {c d:Nat}{x y:Rat}(hc:c+d≤900000000):Cn Tryz.prog 41 [Qs c x,Qs d y] (In (cmQ x y)):=by
 refine Cn.intro Tryz.func41 G zk nq (λ B w0 a U=>?_)
 have U:=zn [(0,Qs c x),(1,Qs d y)] [] U
 refine qb<|zg [] [⟨2,30,ptrH,some 0,_,none⟩,⟨3,30,ptrH,some 1,_,none⟩] [.alc 0,.alc 1,.v 4 _] [.o 2] U (zW 0 G (zW 1 G (zv G (a9 a8) o0))) (zz [(4,_)] [O 2 30 _,O 3 30 _] λ a w U=>?_)
 refine zt<|zgd [[],[0],[],[2],[0,1,2,3],[],[5],[],[7],[0,1,2,3,4,5,6,7,8],[0,1,2,3,4,5,6,7,8,9],[],[0,1,2,3,4,5,6,7,8,9,10,11]] [none,none] [⟨5,28,ptrH,some 11,_,some (12,_)⟩] [.adr 6 2 (.some 0) True,.v 7 _,.adr 8 3 (.some 2) True,.v 9 _,.v 10 _,.adr 11 3 (.some 0) True,.v 12 _,.adr 13 2 (.some 2) True,.v 14 _,.v 15 _,.v 16 _,.alc 2,.sto 2] [.g 0] aa U (zO 0 G aV (zL 0 0 0 G al (zO 1 G aN (zL 2 1 1 G al (zQ G (dA zo zo) (.p (vq 1 G) (vq 3 G)) (zO 1 G aV (zL 5 1 0 G al (zO 0 G aN (zL 7 0 1 G al (zQ G (dA zo zo) (.p (vq 6 G) (vq 8 G)) (zQ G (BD zo zo) (.p (vq 4 G) (vq 9 G)) (zY G (Str.zero bn) (zS 10 G al o0))))))))))))) zk zk zk zk (zz [(4,_)] [O 2 30 _,O 3 30 _,O 5 28 _] λ a w U=>?_)
 refine zt<|zg [η,η,η] [] [.v 17 _,.v 18 _,.v 4 _] [.o 2] U (zl 2 G al (zQ G pW (.o (vq 0 G)) (zA 1 G o0))) (zz [(4,_)] [O 2 30 _,O 3 30 _,O 5 28 _] λ a w U=>?_)
 refine a7<|qe<|aj ?_ (an G U (zm 0 G))
 exact bj (qk In (cm_sgn x y))
theorem gg {c:Nat}{x:Rat}:Cn Tryz.prog 131 [Qs c x] (In x.num.sign):=by
 refine Cn.intro Tryz.func131 G zk nq (λ B w0 a U=>?_)
 have U:=zn [(0,Qs c x)] [] U
 refine qb<|zg [] [⟨1,30,ptrH,some 0,_,none⟩] [.alc 0,.v 2 _] [.o 1] U (zW 0 G (zv G (a9 a8) o0)) (zz [(2,_)] [O 1 30 _] λ a w U=>?_)
 refine zt<|zg [η] [] [.adr 3 1 (.some 0) True,.v 4 _,.v 5 _,.v 2 _] [.o 3] U (zO 0 G aV (zL 0 0 0 G al (zQ G pW (.o (vq 1 G)) (zA 2 G o0)))) (zz [(2,_)] [O 1 30 _] λ a w U=>?_)
 refine a7<|qe<|aj ?_ (an G U (zm 0 G))
 exact aL
theorem rchk1 {g:Nat}(h:decide ((1:Int)<((g:Nat):Int))=true):g≠1:=by have:=qt h; omega
theorem rchk2 {g:Nat}(h:decide ((1:Int)<((g:Nat):Int))=false)(h0:g≠0):g=1:=by have:=qr h; omega
theorem u5 (xn xd:RI):Cn Tryz.prog 249 [(RFA ⟨xn,xd⟩).va] (In (if okF ⟨xn,xd⟩ then 0 else 1)):=by
 refine Cn.intro Tryz.func249 G zk nq (λ B w0 a U=>?_)
 have U:=zn [(0,(RFA ⟨xn,xd⟩).va)] [] U
 have hok:=ng (U.vals (0,(RFA ⟨xn,xd⟩).va) (zm 0 rfl))
 refine qb<|zg [] [⟨1,30,ptrH,some 0,_,none⟩] [.alc 0,.v 2 _] [.o 1] U (zW 0 G (zv G (a9 a8) o0)) (zz [(2,_)] [O 1 30 _] λ a w U=>?_)
 refine zt<|qb<|zg [η] [] [.adr 4 1 (.some 0) True,.v 5 _,.v 6 _,.v 7 _,.v 8 _,.adr 9 1 (.some 2) (_=false),.f 10 _,.f 11 _,.f 12 _,.v 13 _,.v 14 _,.adr 15 1 (.some 2) (_=false),.f 16 _,.f 17 _,.f 18 _,.v 19 _] [.g 0,.o 15] U (zO 0 G aV (zL 0 0 0 G al (zQ G (sz _) (.o (vq 1 G)) (zv G (ci (vq 2 G) a8) (zv G (ab (vq 3 G)) (zC 4 0 G aN (zB 4 G (λ hg=>ax 5 G zk hg (lz0 0 G) (Sub.part 1 G G) al) (zB 4 G (λ hg=>aX (sz _) (.o (ac (vq 6 G) hg))) (zB 4 G (λ hg=>ci (ac (vq 7 G) hg) a8) (zv G (r_or (vq 4 G) (vq 8 G)) (zv G (ab (vq 9 G)) (zC 10 0 G aN (zB 10 G (λ hg=>ax 11 G zk hg (lz0 0 G) (Sub.part 1 G G) al) (zB 10 G (λ hg=>aX (l5 _) (.o (ac (vq 12 G) hg))) (zB 10 G (λ hg=>p5 (ac (vq 13 G) hg) a8) (zv G (r_or (vq 10 G) (vq 14 G)) o0)))))))))))))))) (zz [(2,_),(19,_)] [O 1 30 _] λ a w U=>?_)
 refine a7<|ae U (zm 1 G) (λ hb0=>?_) (λ hb0=>?_)
 ·refine qb<|zg [η] [] [.v 2 _] [.o 0] U (zv G (a9 a8) o0) (zz [(2,_)] [O 1 30 _] λ a w U=>?_)
  refine a7<|qe<|ao ?_
  refine aj ?_ (an G U (zm 0 G))
  exact bj (qk In (Ed hb0))
 ·rw [qN,qN] at hb0
  obtain ⟨p,rfl,hp⟩:=mF hok.1 (ok1 hb0.1.1)
  obtain ⟨q,rfl,hq⟩:=mF hok.2 (ok1 hb0.1.2)
  have hq0:0<sgI (riOf q):=by have h2:¬ sgI (riOf q)≤0:=qr hb0.2; omega
  have hqn:q≠0:=λ e=>by rw [e,dq] at hq0; exact absurd hq0 zd
  have hgn:Int.gcd p q≠0:=by have:=xj p hqn; omega
  refine qh<|zt<|zg [η] [⟨3,28,ptrH,some 5,_,some (6,_)⟩] [.adr 20 1 (.some 0) True,.v 21 _,.adr 22 1 (.some 2) True,.v 23 _,.v 24 _,.alc 1,.sto 1] [.g 0] U (zO 0 G aV (zL 0 0 0 G al (zO 0 G aN (zL 2 0 1 G al (zQ G (lm p q zo zo) (.p (vq 1 G) (vq 3 G)) (zY G (Str.zero bn) (zS 4 G al o0))))))) (zz [(2,_)] [O 1 30 _,O 3 28 _] λ a w U=>?_)
  refine zt<|qb<|zgd [[],[],[0,1]] [none,none] [] [.v 25 _,.v 26 _,.v 27 _] [.g 0,.o 2] aa U (zQ G (BC 1 zd zd) (.cons a8 .nil) (zl 1 G al (zQ G (BF _ _) (.p (vq 0 G) (vq 1 G)) o0))) zk zk zk zk (zz [(2,_),(27,_)] [O 1 30 _,O 3 28 _] λ a w U=>?_)
  refine a7<|ae U (zm 1 G) (λ hb1=>?_) (λ hb1=>?_)
  ·refine qb<|zg [η,η] [] [.v 2 _] [.o 0] U (zv G (a9 a8) o0) (zz [(2,_)] [O 1 30 _,O 3 28 _] λ a w U=>?_)
   refine a7<|qe<|ao ?_
   refine aj ?_ (an G U (zm 0 G))
   have e1:=rchk1 hb1; exact bj (qk In (by rw [show okF ⟨riOf p,riOf q⟩=false from by unfold okF; rw [bA,bA]; simp [show ¬ Nat.gcd p.natAbs q.natAbs=1 from e1]]; rfl))
  ·refine qh<|zt<|zg [η,η] [] [.v 2 _] [.o 0] U (zv G (a9 a8) o0) (zz [(2,_)] [O 1 30 _,O 3 28 _] λ a w U=>?_)
   refine a7<|qe<|aj ?_ (an G U (zm 0 G))
   have e1:=rchk2 hb1 hgn; exact bj (qk In (by rw [show okF ⟨riOf p,riOf q⟩=true from by unfold okF; rw [bA,bA,ok1 hb0.1.1,ok1 hb0.1.2]; simp [hq0,show Nat.gcd p.natAbs q.natAbs=1 from e1]]; rfl))
theorem uF : ∃ fn, Tryz.prog.funcs[249]? = some fn ∧ (fn.name == "runtime.NumGoroutine") = false ∧ fn.body.isNone = false := ⟨_, Tryz.func249, by kernel_rfl, by kernel_rfl⟩
theorem wF (x:RF):Cn Tryz.prog 249 [(RFA x).va] (In (if okX x then 0 else 1)) :=
 Cn.know (c:=okL x.num.mag∧okL x.den.mag) uF (λ B w args ha=>by cases ha with | cons h1 _=>exact ng h1) λ h=>(u5 x.num x.den).post (by rw [sI h])
theorem mD (xs:List RF)(hl:xs.length≤1099511627776):Cn Tryz.prog 215 [(SlA 30 [U32] (xs.map RFA)).va] (Bo (xs.all okX)):=by
 refine Cn.introW Tryz.func215 rfl zk nq (.cons (ir (λ A hA=>by obtain ⟨x,_,rfl⟩:=qm.1 hA; exact fW x)).va .nil) (dX _).va (λ B w0 a hB0 U=>?_)
 have U:=zn [(0,(SlO 30 [U32] (xs.map RFA) True).va)] [] U
 refine qb<|zh [.v 2 _] [.g 0,.o 0] U (zv G (a9 aB) o0) (zz [(0,_),(2,_)] [] λ a w U=>?_)
 refine zt<|qb<|zh [.v 3 _] [.g 0,.g 1,.o 0] U (zv G (a9 a8) o0) (zz [(0,_),(2,_),(3,_)] [] λ a w U=>?_)
 refine a7<|ql ?_
 have U:=St.sel U [0,2]
 refine wp_loop_ghost (λ n a w=>∃ j:Nat,(n+j=xs.length∧(xs.take j).all okX=true)∧St B w0 16 [(0,(SlO 30 [U32] (xs.map RFA) True).va),(3,In (j:Nat))] [] a w) (xs.length) ?_ ?_
 ·exact ⟨0,⟨by omega,rfl⟩,U⟩
 intro n a w hI
 obtain ⟨j,⟨hn,hno⟩,U⟩:=hI
 refine qb<|qb<|zh [.v 4 _,.v 5 _,.v 6 _,.v 7 _] [.g 0,.g 1,.o 3] U (zM 1 G (zM 0 G (zv G (bh Tryz.underlying148 (bS (aC (vq 1 G)))) (zv G (aK (vq 0 G) (vq 2 G)) o0)))) (zz [(0,_),(3,_),(7,_)] [] λ a w U=>?_)
 refine a7<|ae U (zm 2 G) (λ hb0=>?_) (λ hb0=>?_)
 ·have hj:j<xs.length:=by simp at hb0; omega
  refine qh<|zt<|ql<|qb<|zh [.v 10 _,.v 11 _,.v 12 _,.v 13 _,.v 14 _,.v 15 _] [.g 0,.g 1,.o 5] U (zM 0 G (zM 1 G (zv G (cv eI (dJ λ _=>rfl) (bS (aC (vq 0 G))) (vq 1 G) (cD hj)) (zv G (aq (vq 2 G) ak) (zQ G (wF _) (.o (vq 3 G)) (zv G (ci (vq 4 G) a8) o0)))))) (zz [(0,_),(3,_),(15,_)] [] λ a w U=>?_)
  refine a7<|ae U (zm 2 G) (λ hb1=>?_) (λ hb1=>?_)
  ·refine qb<|zh [.v 2 _] [.g 0,.g 1,.o 0] U (zv G (a9 aB) o0) (zz [(0,_),(3,_),(2,_)] [] λ a w U=>?_)
   refine a7<|qe<|aT ?_
   refine ao ?_
   refine ao ?_
   refine aT ?_
   refine ao ?_
   refine aw ?_ (an G U (zm 2 G))
   rw [← ok_no hj hb1]
  ·refine qh<|am ?_
   refine a7<|zh [.v 8 _,.v 9 _,.v 3 _] [.g 0,.o 2] U (zM 1 G (zv G (aQ (vq 0 G) a8 (aW zo)) (zA 1 G o0))) (zz [(0,_),(3,_)] [] λ a w U=>?_)
   refine a7 ?_
   have U:=St.sel U [0,1]
   exact ⟨n-1,by omega,j+1,⟨by omega,Dy hj hno hb1⟩,U⟩
 ·obtain rfl:j=xs.length:=by simp at hb0; omega
  refine qK<|ah<|ah<|ay<|zt<|zh [.v 2 _] [.o 0] U (zv G (a9 aB) o0) (zz [(2,_)] [] λ a w U=>?_)
  refine a7<|qe<|aw ?_ (an G U (zm 0 G))
  rw [qI] at hno; rw [hno]
theorem wD  : Cn Tryz.prog 206 [] ((QMA 2 ⟨1,0,0,1⟩).va):=by
 refine Cn.intro Tryz.func206 G zk nq (λ B w0 a U=>?_)
 have U:=zn [] [] U
 refine qb<|zg [] [⟨0,80,ptrH,some 0,_,none⟩] [.alc 0] [] U (zY G (Str.zero aS) o0) (zz [] [O 0 80 _] λ a w U=>?_)
 refine zt<|zg [some (5,_)] [] [.v 1 _,.v 2 _,.v 3 _,.v 4 _,.v 5 _,.sto 0] [] U (zQ G gO .nil (zQ G bM .nil (zQ G bM .nil (zQ G gO .nil (zv G (aO (qs:=[(0,_),(1,_),(2,_),(3,_)]) aS (.cons ⟨rfl,vq 0 rfl,rfl⟩ (.cons ⟨rfl,vq 1 rfl,rfl⟩ (.cons ⟨rfl,vq 2 rfl,rfl⟩ (.cons ⟨rfl,vq 3 rfl,rfl⟩ .nil))))) (zS 4 G bE o0)))))) (zz [] [O 0 80 _] λ a w U=>?_)
 refine a7<|qe<|aj ?_ (ap G U (zm 0 G) bE)
 exact aL
theorem kd6 {k ps qs:Int}(h1:(k==1)=false)(h2:(k==2)=false)(h3:(k==3)=false)(h4:(k==4)=false)(h5:(k==5)=true):elK k ps qs=((ps==0)&&(qs==0)):=by rw [kd5 h1 h2 h3 h4,h5]; rfl
theorem kd7 {k ps qs:Int}(h1:(k==1)=false)(h2:(k==2)=false)(h3:(k==3)=false)(h4:(k==4)=false)(h5:(k==5)=false):elK k ps qs=false:=by rw [kd5 h1 h2 h3 h4,h5]; rfl
theorem gi {c:Nat}{x:Rat}:Cn Tryz.prog 216 [Qs c x] (Bo (x.num.sign==0)):=by
 refine Cn.intro Tryz.func216 G zk nq (λ B w0 a U=>?_)
 have U:=zn [(0,Qs c x)] [] U
 refine qb<|zg [] [⟨1,30,ptrH,some 0,_,none⟩] [.alc 0,.v 2 _] [.o 1] U (zW 0 G (zv G (a9 aB) o0)) (zz [(2,_)] [O 1 30 _] λ a w U=>?_)
 refine zt<|zg [η] [] [.v 3 _,.v 4 _,.v 5 _,.v 2 _] [.o 3] U (zl 0 G ak (zQ G gg (.o (vq 0 G)) (zv G (bF (vq 1 G) a8) (zA 2 G o0)))) (zz [(2,_)] [O 1 30 _] λ a w U=>?_)
 refine a7<|qe<|aj ?_ (an G U (zm 0 G))
 exact aL
theorem iE (x:RE):Cn Tryz.prog 172 [(REA x).va] (Bo (elF x)):=by
 refine Cn.intro Tryz.func172 G zk nq (λ B w0 a U=>?_)
 have U:=zn [(0,(REA x).va)] [] U
 refine qb<|zg [] [⟨1,92,ptrH,some 0,_,none⟩] [.alc 0,.v 2 _] [.o 1] U (zW 0 G (zv G (a9 aB) o0)) (zz [(2,_)] [O 1 92 _] λ a w U=>?_)
 refine zt<|qb<|zg [η] [] [.adr 3 1 (.some 1) True,.v 4 _,.adr 5 1 (.some 5) True,.v 6 _,.v 7 _,.v 8 _,.v 9 _] [.g 0,.o 6] U (zO 0 G bT (zL 0 0 1 G ak (zO 0 G bX (zL 2 0 2 G ak (zv G (cq (D:=[U32]) (l:=[_,_]) (xs:=[.tmp 4,.tmp 6]) (dV zk) eI zk (n_ok zk) nq nq nq (.p (vq 1 G) (vq 3 G)) G G) (zQ G (mD [x.p,x.q] nq) (.o (vq 4 G)) (zv G (cW (vq 5 G)) o0))))))) (zz [(2,_),(9,_)] [O 1 92 _] λ a w U=>?_)
 refine a7<|ae U (zm 1 G) (λ hb0=>?_) (λ hb0=>?_)
 ·refine qb<|zg [η] [] [.v 2 _] [.o 0] U (zv G (a9 aB) o0) (zz [(2,_)] [O 1 92 _] λ a w U=>?_)
  refine a7<|qe<|ao ?_
  refine aj ?_ (an G U (zm 0 G))
  rw [E3 hb0]; exact aL
 ·obtain ⟨hx,he⟩:=E2 hb0
  have U:=St.wkL U 0 rfl (el_q hx)
  refine qh<|zt<|qb<|zg [η] [] [.adr 10 1 (.some 0) True,.v 11 _] [.g 0,.o 1] U (zO 0 G cI (zL 0 0 0 G dz o0)) (zz [(2,_),(11,_)] [O 1 92 _] λ a w U=>?_)
  refine a7<|ql<|qb<|zg [η] [] [.v 13 _,.v 12 _] [.g 0,.g 1,.o 1] U (zv G (bF (gq 1 G) a8) (zA 0 G o0)) (zz [(2,_),(11,_),(12,_)] [O 1 92 _] λ a w U=>?_)
  refine a7<|ae U (zm 2 G) (λ hb1=>?_) (λ hb1=>?_)
  ·refine qb<|zg [η] [] [.adr 14 1 (.some 1) True,.v 15 _,.v 16 _,.v 17 _,.v 18 _,.adr 19 1 (.some 5) (_=true),.t 20 _,.t 21 _,.v 22 _,.v 2 _] [.o 9] U (zO 0 G bT (zL 0 0 1 G ak (zQ G gg (.o (vq 1 G)) (zv G (eu (vq 2 G) a8) (zv G (ab (vq 3 G)) (zC 4 0 G bX (zB 4 G (λ hg=>ax 5 G zk hg (lz0 0 G) (Sub.part 2 G G) ak) (zB 4 G (λ hg=>aX gi (.o (ac (vq 6 G) hg))) (zv G (bG (vq 4 G) (vq 7 G)) (zA 8 G o0)))))))))) (zz [(2,_)] [O 1 92 _] λ a w U=>?_)
   refine a7<|qe<|aT ?_
   refine ao ?_
   refine aj ?_ (an G U (zm 0 G))
   rw [he,kd1 hb1]; exact aL
  ·refine qb<|zg [η] [] [.v 24 _,.v 23 _] [.g 0,.g 1,.o 1] U (zv G (bF (gq 1 G) a8) (zA 0 G o0)) (zz [(2,_),(11,_),(23,_)] [O 1 92 _] λ a w U=>?_)
   refine a7<|ae U (zm 2 G) (λ hb2=>?_) (λ hb2=>?_)
   ·refine qb<|zg [η] [] [.adr 25 1 (.some 5) True,.v 26 _,.v 27 _,.v 2 _] [.o 3] U (zO 0 G bX (zL 0 0 2 G ak (zQ G gi (.o (vq 1 G)) (zA 2 G o0)))) (zz [(2,_)] [O 1 92 _] λ a w U=>?_)
    refine a7<|qe<|aT ?_
    refine ao ?_
    refine aj ?_ (an G U (zm 0 G))
    rw [he,kd2 hb1 hb2]; exact aL
   ·refine qb<|zg [η] [] [.v 29 _,.v 28 _] [.g 0,.g 1,.o 1] U (zv G (bF (gq 1 G) a8) (zA 0 G o0)) (zz [(2,_),(11,_),(28,_)] [O 1 92 _] λ a w U=>?_)
    refine a7<|ae U (zm 2 G) (λ hb3=>?_) (λ hb3=>?_)
    ·refine qb<|zg [η] [] [.adr 30 1 (.some 1) True,.v 31 _,.v 32 _,.v 33 _,.v 34 _,.adr 35 1 (.some 5) (_=true),.t 36 _,.t 37 _,.t 38 _,.v 39 _,.v 2 _] [.o 10] U (zO 0 G bT (zL 0 0 1 G ak (zQ G gg (.o (vq 1 G)) (zv G (eu (vq 2 G) a8) (zv G (ab (vq 3 G)) (zC 4 0 G bX (zB 4 G (λ hg=>ax 5 G zk hg (lz0 0 G) (Sub.part 2 G G) ak) (zB 4 G (λ hg=>aX gg (.o (ac (vq 6 G) hg))) (zB 4 G (λ hg=>cP (ac (vq 7 G) hg) a8) (zv G (bG (vq 4 G) (vq 8 G)) (zA 9 G o0))))))))))) (zz [(2,_)] [O 1 92 _] λ a w U=>?_)
     refine a7<|qe<|aT ?_
     refine ao ?_
     refine aj ?_ (an G U (zm 0 G))
     rw [he,kd3 hb1 hb2 hb3]; exact aL
    ·refine qb<|zg [η] [] [.v 41 _,.v 40 _] [.g 0,.g 1,.o 1] U (zv G (bF (gq 1 G) a8) (zA 0 G o0)) (zz [(2,_),(11,_),(40,_)] [O 1 92 _] λ a w U=>?_)
     refine a7<|ae U (zm 2 G) (λ hb4=>?_) (λ hb4=>?_)
     ·refine qb<|zg [η] [] [.v 2 _] [.o 0] U (zv G (a9 aB) o0) (zz [(2,_)] [O 1 92 _] λ a w U=>?_)
      refine a7<|qe<|aT ?_
      refine ao ?_
      refine aj ?_ (an G U (zm 0 G))
      rw [he,kd4 hb1 hb2 hb3 hb4]; exact aL
     ·refine qb<|zg [η] [] [.v 43 _,.v 42 _] [.g 0,.o 1] U (zv G (bF (gq 1 G) a8) (zA 0 G o0)) (zz [(2,_),(42,_)] [O 1 92 _] λ a w U=>?_)
      refine a7<|ae U (zm 1 G) (λ hb5=>?_) (λ hb5=>?_)
      ·refine qb<|zg [η] [] [.adr 44 1 (.some 1) True,.v 45 _,.v 46 _,.v 47 _,.adr 48 1 (.some 5) (_=true),.t 49 _,.t 50 _,.v 51 _,.v 2 _] [.o 8] U (zO 0 G bT (zL 0 0 1 G ak (zQ G gi (.o (vq 1 G)) (zv G (ab (vq 2 G)) (zC 3 0 G bX (zB 3 G (λ hg=>ax 4 G zk hg (lz0 0 G) (Sub.part 2 G G) ak) (zB 3 G (λ hg=>aX gi (.o (ac (vq 5 G) hg))) (zv G (bG (vq 3 G) (vq 6 G)) (zA 7 G o0))))))))) (zz [(2,_)] [O 1 92 _] λ a w U=>?_)
       refine a7<|qe<|aT ?_
       refine ao ?_
       refine aj ?_ (an G U (zm 0 G))
       rw [he,kd6 hb1 hb2 hb3 hb4 hb5]; exact aL
      ·refine qh<|am ?_
       refine zt<|zg [η] [] [.v 2 _] [.o 0] U (zv G (a9 aB) o0) (zz [(2,_)] [O 1 92 _] λ a w U=>?_)
       refine a7<|qe<|aj ?_ (an G U (zm 0 G))
       rw [he,kd7 hb1 hb2 hb3 hb4 hb5]; exact aL
theorem wE {x y:RF}(h:[x,y].all okX=true):Cn Tryz.prog 41 [(RFA x).va,(RFA y).va] (In (cmQ (toQ x) (toQ y))):=by
 simp only [xr,xP,xR,qj] at h
 exact (gP (c:=2048) (d:=2048) zd).wk (.cons (qa_x h.1 (qg _)).va (.cons (qa_x h.2 (qg _)).va .nil))
theorem m24_e {x:RLo}(h:((!mayG x.p) || (!mayG x.q))=false):(((elF ⟨x.k,x.p.lo,x.q.lo⟩&&elF ⟨x.k,x.p.lo,x.q.hi⟩)&&elF ⟨x.k,x.p.hi,x.q.lo⟩)&&elF ⟨x.k,x.p.hi,x.q.hi⟩)=loF x:=by
 simp only [qN,jS] at h
 obtain ⟨mp,mq⟩:=h
 obtain ⟨p1,p2⟩:=ok_2 (nJ mp)
 obtain ⟨q1,q2⟩:=ok_2 (nJ mq)
 have lp:=y7 mp
 have lq:=y7 mq
 have e:loF x=(elF ⟨x.k,x.p.lo,x.q.lo⟩&&elF ⟨x.k,x.p.hi,x.q.hi⟩):=by
  unfold loF chF
  rw [mp,mq,qA (by simp)]
  simp only [xr,xP]
  by_cases h1:elF ⟨x.k,x.p.lo,x.q.lo⟩=true <;> by_cases h2:elF ⟨x.k,x.p.hi,x.q.hi⟩=true <;> simp [h1,h2]
 cases hl:loF x with
 | true =>
  rw [pz hl p1 q1 ⟨xx,lp⟩ ⟨xx,lq⟩,pz hl p1 q2 ⟨xx,lp⟩ ⟨lq,xx⟩,pz hl p2 q1 ⟨lp,xx⟩ ⟨xx,lq⟩,pz hl p2 q2 ⟨lp,xx⟩ ⟨lq,xx⟩]
  rfl
 | false =>
  rw [hl] at e
  cases h1:elF ⟨x.k,x.p.lo,x.q.lo⟩ <;> cases h2:elF ⟨x.k,x.p.hi,x.q.hi⟩ <;> simp_all
theorem gp_1 {g:RGp}(h:(!ptF g)=true):gpL g=1:=by unfold gpL; rw [show ptF g=false from by simpa using h]; rfl
theorem gp_0 {g:RGp}(h:(!ptF g)=false):gpL g=0:=by unfold gpL; rw [show ptF g=true from by simpa using h]; rfl
theorem many_nx' {xs:List RLo}{j:Nat}(h:j<xs.length):manyF (xs.take (j+1))=manyF (xs.take j)+gpL xs[j].p+gpL xs[j].q:=by
 rw [ro h]
 unfold lsI
 rw [qA zd,qA zd,x9]
theorem los_2 {xs:List RLo}(h:xs.all loF=true){j:Nat}(hj:j<xs.length):[xs[j].p.lo,xs[j].p.hi].all okX=true∧[xs[j].q.lo,xs[j].q.hi].all okX=true:=by
 obtain ⟨_,_,mp,mq⟩:=G5 (qc.1 h _ (qf hj))
 exact ⟨nJ mp,nJ mq⟩
theorem lr (g:RGp):Cn Tryz.prog 171 [(GpA g).va] (Bo (mayG g)):=by
 refine Cn.intro Tryz.func171 G zk nq (λ B w0 a U=>?_)
 have U:=zn [(0,(GpA g).va)] [] U
 refine qb<|zg [] [⟨1,32,ptrH,some 0,_,none⟩] [.alc 0,.v 2 _] [.o 1] U (zW 0 G (zv G (a9 aB) o0)) (zz [(2,_)] [O 1 32 _] λ a w U=>?_)
 refine zt<|zg [η] [] [.adr 3 1 (.some 0) True,.v 4 _,.adr 5 1 (.some 4) True,.v 6 _,.v 7 _,.v 8 _,.v 9 _,.adr 10 1 (.some 0) (_=true),.t 11 _,.adr 12 1 (.some 4) (_=true),.t 13 _,.t 14 _,.t 15 _,.v 16 _,.v 2 _] [.o 14] U (zO 0 G bg (zL 0 0 0 G ak (zO 0 G bi (zL 2 0 1 G ak (zv G (cq (D:=[U32]) (l:=[_,_]) (xs:=[.tmp 4,.tmp 6]) (dV zk) eI zk (n_ok zk) nq nq nq (.p (vq 1 G) (vq 3 G)) G G) (zQ G (mD [g.lo,g.hi] nq) (.o (vq 4 G)) (zv G (ab (vq 5 G)) (zC 6 0 G bg (zB 6 G (λ hg=>ax 7 G zk hg (lz0 0 G) (Sub.part 0 G G) ak) (zC 6 0 G bi (zB 6 G (λ hg=>ax 9 G zk hg (lz0 0 G) (Sub.part 1 G G) ak) (zB 6 G (λ hg=>aX (wE hg) (.p (ac (vq 8 G) hg) (ac (vq 10 G) hg))) (zB 6 G (λ hg=>p5 (ac (vq 11 G) hg) a8) (zv G (bG (vq 6 G) (vq 12 G)) (zA 13 G o0))))))))))))))) (zz [(2,_)] [O 1 32 _] λ a w U=>?_)
 refine a7<|qe<|aj ?_ (an G U (zm 0 G))
 exact aL
theorem gR {g:RGp}(h:[g.lo,g.hi].all okX=true):Cn Tryz.prog 101 [(GpA g).va] (Bo (ptF g)):=by
 refine Cn.intro Tryz.func101 G zk nq (λ B w0 a U=>?_)
 have U:=zn [(0,(GpA g).va)] [] U
 refine qb<|zg [] [⟨1,32,ptrH,some 0,_,none⟩] [.alc 0,.v 2 _] [.o 1] U (zW 0 G (zv G (a9 aB) o0)) (zz [(2,_)] [O 1 32 _] λ a w U=>?_)
 refine zt<|zg [η] [] [.adr 3 1 (.some 0) True,.v 4 _,.adr 5 1 (.some 4) True,.v 6 _,.v 7 _,.v 8 _,.v 2 _] [.o 6] U (zO 0 G bg (zL 0 0 0 G ak (zO 0 G bi (zL 2 0 1 G ak (zQ G (wE h) (.p (vq 1 G) (vq 3 G)) (zv G (bF (vq 4 G) a8) (zA 5 G o0))))))) (zz [(2,_)] [O 1 32 _] λ a w U=>?_)
 refine a7<|qe<|aj ?_ (an G U (zm 0 G))
 exact aL
theorem BJ (x:RLo):Cn Tryz.prog 100 [(LoA x).va] (Bo (loF x)):=by
 refine Cn.intro Tryz.func100 G zk nq (λ B w0 a U=>?_)
 have U:=zn [(0,(LoA x).va)] [] U
 refine qb<|zg [] [⟨1,69,ptrH,some 0,_,none⟩] [.alc 0,.v 2 _] [.o 1] U (zW 0 G (zv G (a9 aB) o0)) (zz [(2,_)] [O 1 69 _] λ a w U=>?_)
 refine zt<|qb<|zg [η] [] [.adr 3 1 (.some 1) True,.v 4 _,.v 5 _,.v 6 _,.v 7 _,.adr 8 1 (.some 9) (_=false),.f 9 _,.f 10 _,.f 11 _,.v 12 _] [.g 0,.o 9] U (zO 0 G bU (zL 0 0 1 G b9 (zQ G (lr _) (.o (vq 1 G)) (zv G (cW (vq 2 G)) (zv G (ab (vq 3 G)) (zC 4 0 G bY (zB 4 G (λ hg=>ax 5 G zk hg (lz0 0 G) (Sub.part 2 G G) b9) (zB 4 G (λ hg=>aX (lr _) (.o (ac (vq 6 G) hg))) (zB 4 G (λ hg=>cW (ac (vq 7 G) hg)) (zv G (r_or (vq 4 G) (vq 8 G)) o0)))))))))) (zz [(2,_),(12,_)] [O 1 69 _] λ a w U=>?_)
 refine a7<|ae U (zm 1 G) (λ hb0=>?_) (λ hb0=>?_)
 ·refine qb<|zg [η] [] [.v 2 _] [.o 0] U (zv G (a9 aB) o0) (zz [(2,_)] [O 1 69 _] λ a w U=>?_)
  refine a7<|qe<|ao ?_
  refine aj ?_ (an G U (zm 0 G))
  rw [DN hb0]; exact aL
 ·refine qh<|zt<|gl (sts:=[none]) (news:=[]) (sp:=((.adr 13 1 (.some 0) True:Sp)::(.v 14 _)::(.adr 15 1 (.some 1) True)::(.adr 16 1 (.some (1+0)) True)::(.v 17 _)::(.adr 18 1 (.some 9) True)::(.adr 19 1 (.some (9+0)) True)::(.v 20 _)::(.v 21 _)::(.v 22 _)::(.v 23 _)::(.adr 24 1 (.some 0) (_=true))::(.t 25 _)::(.adr 26 1 (.some 1) (_=true))::(.adr 27 1 (.some (1+0)) (_=true))::(.t 28 _)::(.adr 29 1 (.some 9) (_=true))::(.adr 30 1 (.some (9+4)) (_=true))::(.t 31 _)::(.t 32 _)::(.t 33 _)::(.v 34 _)::(.v 35 _)::(.adr 36 1 (.some 0) (_=true))::(.t 37 _)::(.adr 38 1 (.some 1) (_=true))::(.adr 39 1 (.some (1+4)) (_=true))::(.t 40 _)::(.adr 41 1 (.some 9) (_=true))::(.adr 42 1 (.some (9+0)) (_=true))::(.t 43 _)::(.t 44 _)::(.t 45 _)::(.v 46 _)::(.v 47 _)::(.adr 48 1 (.some 0) (_=true))::(.t 49 _)::(.adr 50 1 (.some 1) (_=true))::(.adr 51 1 (.some (1+4)) (_=true))::(.t 52 _)::(.adr 53 1 (.some 9) (_=true))::(.adr 54 1 (.some (9+4)) (_=true))::(.t 55 _)::(.t 56 _)::(.t 57 _)::(.v 58 _)::(.v 2 _)::[])) [.o 46] U (zO 0 G cM (zL 0 0 0 G dz (zO 0 G bU (oc (ob_a G G (co 2 G zk trivial (lz0 0 G) bg)) (zv G (ax 3 G zk trivial (lz0 0 G) (Sub.trans (Sub.part 1 G G) (Sub.part 0 G G) G) ak) (zO 0 G bY (oc (ob_a G G (co 5 G zk trivial (lz0 0 G) bg)) (zv G (ax 6 G zk trivial (lz0 0 G) (Sub.trans (Sub.part 2 G G) (Sub.part 0 G G) G) ak) (zv G (aO (qs:=[(0,_),(1,_),(2,_)]) cF (.cons ⟨rfl,vq 1 rfl,rfl⟩ (.cons ⟨rfl,vq 4 rfl,rfl⟩ (.cons ⟨rfl,vq 7 rfl,rfl⟩ .nil)))) (zQ G (iE ⟨_,_,_⟩) (.o (vq 8 G)) (zv G (ab (vq 9 G)) (zC 10 0 G cM (zB 10 G (λ hg=>ax 11 G zk hg (lz0 0 G) (Sub.part 0 G G) dz) (zC 10 0 G bU (oc (mm G G G (vq 10 G) nq (λ hg=>co 13 G zk hg (lz0 0 G) bg)) (zB 10 G (λ hg=>ax 14 G zk hg (lz0 0 G) (Sub.trans (Sub.part 1 G G) (Sub.part 0 G G) G) ak) (zC 10 0 G bY (oc (mm G G G (vq 10 G) nq (λ hg=>co 16 G zk hg (lz0 0 G) bi)) (zB 10 G (λ hg=>ax 17 G zk hg (lz0 0 G) (Sub.trans (Sub.part 2 G G) (Sub.part 1 G G) G) ak) (zB 10 G (λ hg=>aO (qs:=[(0,_),(1,_),(2,_)]) cF (.cons ⟨rfl,(ac (vq 12 G) hg),rfl⟩ (.cons ⟨rfl,(ac (vq 15 G) hg),rfl⟩ (.cons ⟨rfl,(ac (vq 18 G) hg),rfl⟩ .nil)))) (zB 10 G (λ hg=>aX (iE ⟨_,_,_⟩) (.o (ac (vq 19 G) hg))) (zv G (bG (vq 10 G) (vq 20 G)) (zv G (ab (vq 21 G)) (zC 22 0 G cM (zB 22 G (λ hg=>ax 23 G zk hg (lz0 0 G) (Sub.part 0 G G) dz) (zC 22 0 G bU (oc (mm G G G (vq 22 G) nq (λ hg=>co 25 G zk hg (lz0 0 G) bi)) (zB 22 G (λ hg=>ax 26 G zk hg (lz0 0 G) (Sub.trans (Sub.part 1 G G) (Sub.part 1 G G) G) ak) (zC 22 0 G bY (oc (mm G G G (vq 22 G) nq (λ hg=>co 28 G zk hg (lz0 0 G) bg)) (zB 22 G (λ hg=>ax 29 G zk hg (lz0 0 G) (Sub.trans (Sub.part 2 G G) (Sub.part 0 G G) G) ak) (zB 22 G (λ hg=>aO (qs:=[(0,_),(1,_),(2,_)]) cF (.cons ⟨rfl,(ac (vq 24 G) hg),rfl⟩ (.cons ⟨rfl,(ac (vq 27 G) hg),rfl⟩ (.cons ⟨rfl,(ac (vq 30 G) hg),rfl⟩ .nil)))) (zB 22 G (λ hg=>aX (iE ⟨_,_,_⟩) (.o (ac (vq 31 G) hg))) (zv G (bG (vq 22 G) (vq 32 G)) (zv G (ab (vq 33 G)) (zC 34 0 G cM (zB 34 G (λ hg=>ax 35 G zk hg (lz0 0 G) (Sub.part 0 G G) dz) (zC 34 0 G bU (oc (mm G G G (vq 34 G) nq (λ hg=>co 37 G zk hg (lz0 0 G) bi)) (zB 34 G (λ hg=>ax 38 G zk hg (lz0 0 G) (Sub.trans (Sub.part 1 G G) (Sub.part 1 G G) G) ak) (zC 34 0 G bY (oc (mm G G G (vq 34 G) nq (λ hg=>co 40 G zk hg (lz0 0 G) bi)) (zB 34 G (λ hg=>ax 41 G zk hg (lz0 0 G) (Sub.trans (Sub.part 2 G G) (Sub.part 1 G G) G) ak) (zB 34 G (λ hg=>aO (qs:=[(0,_),(1,_),(2,_)]) cF (.cons ⟨rfl,(ac (vq 36 G) hg),rfl⟩ (.cons ⟨rfl,(ac (vq 39 G) hg),rfl⟩ (.cons ⟨rfl,(ac (vq 42 G) hg),rfl⟩ .nil)))) (zB 34 G (λ hg=>aX (iE ⟨_,_,_⟩) (.o (ac (vq 43 G) hg))) (zv G (bG (vq 34 G) (vq 44 G)) (zA 45 G o0))))))))))))))))))))))))))))))))))))))))))))))) (zz [(2,_)] [O 1 69 _] λ a w U=>?_)
  refine a7<|qe<|aj ?_ (an G U (zm 0 G))
  exact bj (qk Bo (m24_e hb0))
theorem eQ (xs:List RLo)(h4:xs.length≤4096)(ha:xs.all loF=true):Cn Tryz.prog 23 [(SlA 69 [U32] (xs.map LoA)).va] (In ((manyF xs:Nat):Int)):=by
 refine Cn.intro Tryz.func23 G zk nq (λ B w0 a U=>?_)
 have U:=zn [(0,(SlA 69 [U32] (xs.map LoA)).va)] [] U
 refine qb<|zh [.v 2 _] [.g 0,.o 0] U (zv G (a9 a8) o0) (zz [(0,_),(2,_)] [] λ a w U=>?_)
 refine zt<|zh [.v 3 _] [.g 0,.g 1,.o 0] U (zv G (a9 a8) o0) (zz [(0,_),(2,_),(3,_)] [] λ a w U=>?_)
 refine zt<|qb<|zh [.v 4 _] [.g 0,.g 1,.g 2,.o 0] U (zv G (a9 a8) o0) (zz [(0,_),(2,_),(3,_),(4,_)] [] λ a w U=>?_)
 refine a7<|ql ?_
 have U:=St.sel U [0,2,3]
 refine wp_loop_ghost (λ n a w=>∃ (j:Nat),(n+j=xs.length)∧St B w0 30 [(0,(SlA 69 [U32] (xs.map LoA)).va),(3,In ((manyF (xs.take j):Nat):Int)),(4,In (j:Nat))] [] a w) (xs.length) ?_ ?_
 ·exact ⟨0,by omega,U⟩
 intro n a w hI
 obtain ⟨j,hn,U⟩:=hI
 refine qb<|qb<|zh [.v 5 _,.v 6 _,.v 7 _,.v 8 _] [.g 0,.g 1,.g 2,.o 3] U (zM 2 G (zM 0 G (zv G (bh Tryz.underlying22 (vq 1 G)) (zv G (aK (vq 0 G) (vq 2 G)) o0)))) (zz [(0,_),(3,_),(4,_),(8,_)] [] λ a w U=>?_)
 refine a7<|ae U (zm 3 G) (λ hb0=>?_) (λ hb0=>?_)
 ·have hj:j<xs.length:=by rw [qi] at hb0; have:=qt hb0; omega
  have hm:=dF xs j
  have g1:=mN xs[j].p
  have g2:=mN xs[j].q
  obtain ⟨k1,k2⟩:=los_2 ha hj
  refine qh<|zt<|ql<|qb<|qb<|zh [.v 11 _,.v 12 _,.v 13 _,.v 14 _,.v 15 _,.v 16 _,.v 17 _] [.g 0,.g 1,.g 2,.o 6] U (zM 0 G (zM 2 G (zv G (cv dP (dJ λ _=>rfl) (vq 0 G) (vq 1 G) (cD hj)) (zv G (aA (vq 2 G) bU (Sub.part 1 G G)) (zv G (aq (vq 3 G) b9) (zQ G (gR k1) (.o (vq 4 G)) (zv G (cW (vq 5 G)) o0))))))) (zz [(0,_),(3,_),(4,_),(17,_)] [] λ a w U=>?_)
  refine a7<|bB (λ a w =>  St B w0 30 [(0,(SlA 69 [U32] (xs.map LoA)).va),(3,In ((manyF (xs.take j)+gpL xs[j].p:Nat):Int)),(4,In (j:Nat))] [] a w) U (zm 3 G) (λ hb1=>?_) (λ hb1=>?_) (λ a w U=>?_)
  ·refine zh [.v 18 _,.v 19 _,.v 3 _] [.g 0,.g 2,.o 2] U (zM 1 G (zv G (aQ (vq 0 G) a8 ((wi64 zo zo).trans (by omega:(_:Int)=((manyF (xs.take j)+1:Nat):Int)))) (zA 1 G o0))) (zz [(0,_),(4,_),(3,_)] [] λ a w U=>?_)
   refine a7 ?_
   have U:=St.sel U [0,2,1]
   rw [gp_1 hb1]; exact U
  ·refine qh<|a7 ?_
   have U:=St.sel U [0,1,2]
   rw [gp_0 hb1]; exact U
  refine zt<|zh [.v 20 _,.v 21 _,.v 22 _,.v 23 _,.v 24 _,.v 25 _,.v 26 _] [.g 0,.g 1,.g 2,.o 6] U (zM 0 G (zM 2 G (zv G (cv dP (dJ λ _=>rfl) (vq 0 G) (vq 1 G) (cD hj)) (zv G (aA (vq 2 G) bY (Sub.part 2 G G)) (zv G (aq (vq 3 G) b9) (zQ G (gR k2) (.o (vq 4 G)) (zv G (cW (vq 5 G)) o0))))))) (zz [(0,_),(3,_),(4,_),(26,_)] [] λ a w U=>?_)
  refine a7<|bB (λ a w =>  St B w0 30 [(0,(SlA 69 [U32] (xs.map LoA)).va),(3,In ((manyF (xs.take j)+gpL xs[j].p+gpL xs[j].q:Nat):Int)),(4,In (j:Nat))] [] a w) U (zm 3 G) (λ hb2=>?_) (λ hb2=>?_) (λ a w U=>?_)
  ·refine zh [.v 27 _,.v 28 _,.v 3 _] [.g 0,.g 2,.o 2] U (zM 1 G (zv G (aQ (vq 0 G) a8 ((wi64 zo zo).trans (by omega:(_:Int)=((manyF (xs.take j)+gpL xs[j].p+1:Nat):Int)))) (zA 1 G o0))) (zz [(0,_),(4,_),(3,_)] [] λ a w U=>?_)
   refine a7 ?_
   have U:=St.sel U [0,2,1]
   rw [gp_1 hb2]; exact U
  ·refine qh<|a7 ?_
   have U:=St.sel U [0,1,2]
   rw [gp_0 hb2]; exact U
  refine am ?_
  refine a7<|zh [.v 9 _,.v 10 _,.v 4 _] [.g 0,.g 1,.o 2] U (zM 2 G (zv G (aQ (vq 0 G) a8 ((wi64 zo zo).trans (by omega:(_:Int)=((j+1:Nat):Int)))) (zA 1 G o0))) (zz [(0,_),(3,_),(4,_)] [] λ a w U=>?_)
  refine a7 ?_
  have U:=St.sel U [0,1,2]
  rw [← many_nx' hj] at U
  exact ⟨n-1,by omega,j+1,by omega,U⟩
 ·obtain rfl:j=xs.length:=by rw [qi] at hb0; have:=qr hb0; omega
  refine qK<|ah<|ah<|ay<|zt<|zh [.v 29 _,.v 2 _] [.o 1] U (zM 1 G (zA 0 G o0)) (zz [(2,_)] [] λ a w U=>?_)
  refine a7<|qe<|aj ?_ (an G U (zm 0 G))
  rw [qI]; exact aL
theorem dZ (xs:List RLo):Cn Tryz.prog 22 [(SlA 69 [U32] (xs.map LoA)).va] (In (tchF xs)):=by
 refine Cn.intro Tryz.func22 G zk nq (λ B w0 a U=>?_)
 have U:=zn [(0,(SlA 69 [U32] (xs.map LoA)).va)] [] U
 refine qb<|zh [.v 2 _] [.g 0,.o 0] U (zv G (a9 a8) o0) (zz [(0,_),(2,_)] [] λ a w U=>?_)
 refine zt<|qb<|zh [.v 4 _,.v 5 _,.v 6 _] [.g 0,.g 1,.o 2] U (zM 0 G (zv G (bh Tryz.underlying22 (vq 0 G)) (zv G (cP (vq 1 G) a8) o0))) (zz [(0,_),(2,_),(6,_)] [] λ a w U=>?_)
 refine a7<|ae U (zm 2 G) (λ hb0=>?_) (λ hb0=>?_)
 ·have hbig:xs.length>4096:=by rw [qi] at hb0; have:=qt hb0; omega
  refine qb<|zh [.v 2 _] [.g 0,.o 0] U (zv G (a9 a8) o0) (zz [(0,_),(2,_)] [] λ a w U=>?_)
  refine a7<|qe<|ao ?_
  refine aj ?_ (an G U (zm 1 G))
  rw [tchF,qC hbig]; exact aL
 ·have hbig:¬ xs.length>4096:=by rw [qi] at hb0; have:=qr hb0; omega
  refine qh<|zt<|qb<|zh [.v 3 _] [.g 0,.g 1,.o 0] U (zv G (a9 a8) o0) (zz [(0,_),(2,_),(3,_)] [] λ a w U=>?_)
  refine a7<|ql ?_
  have U:=St.sel U [0,2]
  refine wp_loop_ghost (λ n a w=>∃ (j:Nat),(n+j=xs.length∧(xs.take j).all loF=true)∧St B w0 22 [(0,(SlA 69 [U32] (xs.map LoA)).va),(3,In (j:Nat))] [] a w) (xs.length) ?_ ?_
  ·exact ⟨0,⟨by omega,rfl⟩,U⟩
  intro n a w hI
  obtain ⟨j,⟨hn,hno⟩,U⟩:=hI
  refine qb<|qb<|zh [.v 7 _,.v 8 _,.v 9 _,.v 10 _] [.g 0,.g 1,.o 3] U (zM 1 G (zM 0 G (zv G (bh Tryz.underlying22 (vq 1 G)) (zv G (aK (vq 0 G) (vq 2 G)) o0)))) (zz [(0,_),(3,_),(10,_)] [] λ a w U=>?_)
  refine a7<|ae U (zm 2 G) (λ hb1=>?_) (λ hb1=>?_)
  ·have hj:j<xs.length:=by rw [qi] at hb1; have:=qt hb1; omega
   refine qh<|zt<|ql<|qb<|zh [.v 13 _,.v 14 _,.v 15 _,.v 16 _,.v 17 _,.v 18 _] [.g 0,.g 1,.o 5] U (zM 0 G (zM 1 G (zv G (cv dP (dJ λ _=>rfl) (vq 0 G) (vq 1 G) (cD hj)) (zv G (aq (vq 2 G) fX) (zQ G (BJ _) (.o (vq 3 G)) (zv G (cW (vq 4 G)) o0)))))) (zz [(0,_),(3,_),(18,_)] [] λ a w U=>?_)
   refine a7<|ae U (zm 2 G) (λ hb2=>?_) (λ hb2=>?_)
   ·refine qb<|zh [.v 2 _] [.g 0,.g 1,.o 0] U (zv G (a9 a8) o0) (zz [(0,_),(3,_),(2,_)] [] λ a w U=>?_)
    refine a7<|qe<|aT ?_
    refine ao ?_
    refine ao ?_
    refine aT ?_
    refine ao ?_
    refine aj ?_ (an G U (zm 2 G))
    rw [pT hbig hj (by simpa using hb2)]; exact aL
   ·refine qh<|am ?_
    refine a7<|zh [.v 11 _,.v 12 _,.v 3 _] [.g 0,.o 2] U (zM 1 G (zv G (aQ (vq 0 G) a8 ((wi64 zo zo).trans (by omega:(_:Int)=((j+1:Nat):Int)))) (zA 1 G o0))) (zz [(0,_),(3,_)] [] λ a w U=>?_)
    refine a7 ?_
    have U:=St.sel U [0,1]
    exact ⟨n-1,by omega,j+1,⟨by omega,AO hj hno (by simpa using hb2)⟩,U⟩
  ·obtain rfl:j=xs.length:=by rw [qi] at hb1; have:=qr hb1; omega
   have ha:xs.all loF=true:=by rw [qI] at hno; exact hno
   refine qK<|ah<|ah<|ay<|zt<|qb<|zh [.v 19 _,.v 20 _,.v 21 _] [.o 2] U (zM 0 G (zQ G (eQ xs zo ha) (.o (vq 0 G)) (zv G (cP (vq 1 G) a8) o0))) (zz [(21,_)] [] λ a w U=>?_)
   refine a7<|ae U (zm 0 G) (λ hb3=>?_) (λ hb3=>?_)
   ·have hm:manyF xs>12:=by have:=qt hb3; omega
    refine qb<|zh [.v 2 _] [.o 0] U (zv G (a9 a8) o0) (zz [(2,_)] [] λ a w U=>?_)
    refine a7<|qe<|ao ?_
    refine aj ?_ (an G U (zm 0 G))
    rw [tchF,qA hbig,qC ha,qC hm]; exact aL
   ·have hm:¬ manyF xs>12:=by have:=qr hb3; omega
    refine qh<|zt<|zh [.v 2 _] [.o 0] U (zv G (a9 a8) o0) (zz [(2,_)] [] λ a w U=>?_)
    refine a7<|qe<|aj ?_ (an G U (zm 0 G))
    rw [tchF,qA hbig,qC ha,qA hm]; exact aL
theorem big_e {x:RI}:decide ((x.mag.length:Int)>2048)=bigI x:=by unfold bigI; simp
theorem lq_e {q:Rat}:(bigI (riOf q.num) || bigI (riOf (q.den:Int)))=longQ q:=by simp [longQ]
theorem sC (x:RI):Cn Tryz.prog 232 [(RIA x).va] (Bo (bigI x)):=by
 refine Cn.intro Tryz.func232 G zk nq (λ B w0 a U=>?_)
 have U:=zn [(0,(RIA x).va)] [] U
 refine qb<|zg [] [⟨1,28,ptrH,some 0,_,none⟩] [.alc 0,.v 2 _] [.o 1] U (zW 0 G (zv G (a9 aB) o0)) (zz [(2,_)] [O 1 28 _] λ a w U=>?_)
 refine zt<|zg [η] [] [.adr 3 1 (.some 1) True,.v 4 _,.v 5 _,.v 6 _,.v 2 _] [.o 4] U (zO 0 G ar (zL 0 0 1 G aY (zv G (aJ Tryz.underlying26 (vq 1 G)) (zv G (cP (vq 2 G) a8) (zA 3 G o0))))) (zz [(2,_)] [O 1 28 _] λ a w U=>?_)
 refine a7<|qe<|aj ?_ (an G U (zm 0 G))
 exact bj (qk Bo big_e)
theorem BI {L:List As}(qs:List Rat)(hL:All2 IsQ L qs)(hl:qs.length≤1099511627776):Cn Tryz.prog 197 [(SlA 30 [U32] L).va] (Bo (qs.any longQ)):=by
 have hLl:=hL.length
 refine Cn.introW Tryz.func197 G zk nq (.cons (ir (DO hL)).va .nil) (dX _).va (λ B w0 a hB0 U=>?_)
 have U:=zn [(0,(SlO 30 [U32] L True).va)] [] U
 refine qb<|zh [.v 2 _] [.g 0,.o 0] U (zv G (a9 aB) o0) (zz [(0,_),(2,_)] [] λ a w U=>?_)
 refine zt<|qb<|zh [.v 3 _] [.g 0,.g 1,.o 0] U (zv G (a9 a8) o0) (zz [(0,_),(2,_),(3,_)] [] λ a w U=>?_)
 refine a7<|ql ?_
 have U:=St.sel U [0,2]
 refine wp_loop_ghost (λ n a w=>∃ j:Nat,(n+j=qs.length∧(qs.take j).any longQ=false)∧St B w0 24 [(0,(SlO 30 [U32] L True).va),(3,In (j:Nat))] [] a w) (qs.length) ?_ ?_
 ·exact ⟨0,⟨by omega,rfl⟩,U⟩
 intro n a w hI
 obtain ⟨j,⟨hn,hno⟩,U⟩:=hI
 refine qb<|qb<|zh [.v 4 _,.v 5 _,.v 6 _,.v 7 _] [.g 0,.g 1,.o 3] U (zM 1 G (zM 0 G (zv G (bh Tryz.underlying148 (bS (aC (vq 1 G)))) (zv G (aK (vq 0 G) (vq 2 G)) o0)))) (zz [(0,_),(3,_),(7,_)] [] λ a w U=>?_)
 refine a7<|ae U (zm 2 G) (λ hb0=>?_) (λ hb0=>?_)
 ·have hj:j<qs.length:=by rw [hLl] at hb0; simp at hb0; omega
  obtain ⟨kj,hLj⟩:=DP hL hj
  refine qh<|zt<|ql<|qb<|zh [.v 10 _,.v 11 _,.v 12 _,.v 13 _,.v 14 _,.v 15 _,.v 16 _,.f 17 _,.f 18 _,.f 19 _,.f 20 _,.f 21 _,.f 22 _,.v 23 _] [.g 0,.g 1,.o 13] U (zM 0 G (zM 1 G (zv G (cv eI (Gg hL) (bS (aC (vq 0 G))) (vq 1 G) hLj) (zv G (aA (vq 2 G) aV (Sub.part 0 G G)) (zv G (aq (vq 3 G) al) (zQ G ((sC (riOf (qs[j]).num)).wk (.cons zaA.va .nil)) (.o (vq 4 G)) (zv G (ab (vq 5 G)) (zB 6 G (λ hg=>ab (gq 0 G)) (zB 6 G (λ hg=>ab (gq 1 G)) (zB 6 G (λ hg=>cv eI (Gg hL) (bS (aC (ac (vq 7 G) hg))) (ac (vq 8 G) hg) hLj) (zB 6 G (λ hg=>aA (ac (vq 9 G) hg) aN (Sub.part 1 G G)) (zB 6 G (λ hg=>aq (ac (vq 10 G) hg) al) (zB 6 G (λ hg=>aX ((sC (riOf ((qs[j]).den:Int))).wk (.cons zaA.va .nil)) (.o (ac (vq 11 G) hg))) (zv G (r_or (vq 6 G) (vq 12 G)) o0)))))))))))))) (zz [(0,_),(3,_),(23,_)] [] λ a w U=>?_)
  refine a7<|ae U (zm 2 G) (λ hb1=>?_) (λ hb1=>?_)
  ·rw [lq_e] at hb1
   refine qb<|zh [.v 2 _] [.g 0,.g 1,.o 0] U (zv G (a9 aB) o0) (zz [(0,_),(3,_),(2,_)] [] λ a w U=>?_)
   refine a7<|qe<|aT ?_
   refine ao ?_
   refine ao ?_
   refine aT ?_
   refine ao ?_
   refine aw ?_ (an G U (zm 2 G))
   rw [← yf hj hb1]
  ·rw [lq_e] at hb1
   refine qh<|am ?_
   refine a7<|zh [.v 8 _,.v 9 _,.v 3 _] [.g 0,.o 2] U (zM 1 G (zv G (aQ (vq 0 G) a8 (aW zo)) (zA 1 G o0))) (zz [(0,_),(3,_)] [] λ a w U=>?_)
   refine a7 ?_
   have U:=St.sel U [0,1]
   exact ⟨n-1,by omega,j+1,⟨by omega,lq_no hj hno hb1⟩,U⟩
 ·obtain rfl:j=qs.length:=by rw [hLl] at hb0; simp at hb0; omega
  refine qK<|ah<|ah<|ay<|zt<|zh [.v 2 _] [.o 0] U (zv G (a9 aB) o0) (zz [(2,_)] [] λ a w U=>?_)
  refine a7<|qe<|aw ?_ (an G U (zm 0 G))
  rw [qI] at hno; rw [hno]
end Go.Proofs.YtkpifdpdeanjfaaGreatDoor
