import Derived.Test.YtkpifdpdeanjfaaGreatDoorTtAs
set_option linter.all false
set_option maxRecDepth 100000
namespace Go.Proofs.YtkpifdpdeanjfaaGreatDoor
open Go Go.RowKit
variable {w:World}{B:Nat}{a:Act}{v:Value}{T:TypeId}{w0:Bs}{Γ:List (Nat × VA)}{Λ:List Lc}{ps:String}{af:Array Edge}{vr:Value}{H:Hd}{cs:List Value}{w':World}{P:Program}{D:List TypeId}
theorem re_eq {x y:RE}:((((x.k==y.k)&&decide (x.p=y.p)))&&decide (x.q=y.q))=decide (x=y):=by
 cases x; cases y
 simp [RE.mk.injEq,Bool.and_assoc]
 rfl
theorem se_no {xs ys:List RE}{j:Nat}(hx:j<xs.length)(hy:j<ys.length)(h:decide (xs[j]=ys[j])=false):decide (xs=ys)=false:=by
 simp only [qu] at h ⊢
 rintro rfl
 exact h rfl
theorem se_nx {xs ys:List RE}{j:Nat}(hx:j<xs.length)(hy:j<ys.length)(hp:xs.take j=ys.take j)(h:decide (xs[j]=ys[j])=true):xs.take (j+1)=ys.take (j+1):=by
 rw [qx hx,qx hy,hp,qt h]
theorem Bq (x y:RE):Cn Tryz.prog 46 [(REA x).va,(REA y).va] (Bo (decide (x=y))):=by
 refine Cn.intro Tryz.func46 G zk nq (λ B w0 a U=>?_)
 have U:=zn [(0,(REA x).va),(1,(REA y).va)] [] U
 refine qb<|zg [] [⟨2,92,ptrH,some 0,_,none⟩,⟨3,92,ptrH,some 1,_,none⟩] [.alc 0,.alc 1,.v 4 _] [.o 2] U (zW 0 G (zW 1 G (zv G (a9 aB) o0))) (zz [(4,_)] [O 2 92 _,O 3 92 _] λ a w U=>?_)
 refine zt<|zg [η,η] [] [.adr 5 2 (.some 0) True,.v 6 _,.adr 7 3 (.some 0) True,.v 8 _,.v 9 _,.v 10 _,.adr 11 2 (.some 1) (_=true),.t 12 _,.adr 13 3 (.some 1) (_=true),.t 14 _,.t 15 _,.v 16 _,.v 17 _,.adr 18 2 (.some 5) (_=true),.t 19 _,.adr 20 3 (.some 5) (_=true),.t 21 _,.t 22 _,.v 23 _,.v 4 _] [.o 19] U (zO 0 G cI (zL 0 0 0 G dz (zO 1 G cI (zL 2 1 0 G dz (zv G (bF (vq 1 G) (vq 3 G)) (zv G (ab (vq 4 G)) (zC 5 0 G bT (zB 5 G (λ hg=>ax 6 G zk hg (lz0 0 G) (Sub.part 1 G G) ak) (zC 5 1 G bT (zB 5 G (λ hg=>ax 8 G zk hg (lz0 1 G) (Sub.part 1 G G) ak) (zB 5 G (λ hg=>aX (dC _ _) (.p (ac (vq 7 G) hg) (ac (vq 9 G) hg))) (zv G (bG (vq 5 G) (vq 10 G)) (zv G (ab (vq 11 G)) (zC 12 0 G bX (zB 12 G (λ hg=>ax 13 G zk hg (lz0 0 G) (Sub.part 2 G G) ak) (zC 12 1 G bX (zB 12 G (λ hg=>ax 15 G zk hg (lz0 1 G) (Sub.part 2 G G) ak) (zB 12 G (λ hg=>aX (dC _ _) (.p (ac (vq 14 G) hg) (ac (vq 16 G) hg))) (zv G (bG (vq 12 G) (vq 17 G)) (zA 18 G o0)))))))))))))))))))) (zz [(4,_)] [O 2 92 _,O 3 92 _] λ a w U=>?_)
 refine a7<|qe<|aj ?_ (an G U (zm 0 G))
 exact bj (qk Bo re_eq)
theorem w6 (xs ys:List RE):Cn Tryz.prog 16 [(SlA 92 [U32] (xs.map REA)).va,(SlA 92 [U32] (ys.map REA)).va] (Bo (decide (xs=ys))):=by
 refine Cn.intro Tryz.func16 G zk nq (λ B w0 a U=>?_)
 have U:=zn [(0,(SlA 92 [U32] (xs.map REA)).va),(1,(SlA 92 [U32] (ys.map REA)).va)] [] U
 have hl:=si (U.vals (0,(SlA 92 [U32] (xs.map REA)).va) (zm 0 rfl))
 refine qb<|zh [.v 4 _] [.g 0,.g 1,.o 0] U (zv G (a9 aB) o0) (zz [(0,_),(1,_),(4,_)] [] λ a w U=>?_)
 refine zt<|qb<|zh [.v 6 _,.v 7 _,.v 8 _,.v 9 _,.v 10 _] [.g 0,.g 1,.g 2,.o 4] U (zM 0 G (zv G (bh Tryz.underlying38 (vq 0 G)) (zM 1 G (zv G (bh Tryz.underlying38 (vq 2 G)) (zv G (ci (vq 1 G) (vq 3 G)) o0))))) (zz [(0,_),(1,_),(4,_),(10,_)] [] λ a w U=>?_)
 refine a7<|ae U (zm 3 G) (λ hb0=>?_) (λ hb0=>?_)
 ·have hne:decide (xs=ys)=false:=by
   simp only [qi] at hb0
   simp only [qu]
   rintro rfl
   simp at hb0
  refine qb<|zh [.v 4 _] [.g 0,.g 1,.o 0] U (zv G (a9 aB) o0) (zz [(0,_),(1,_),(4,_)] [] λ a w U=>?_)
  refine a7<|qe<|ao ?_
  refine aj ?_ (an G U (zm 2 G))
  exact bj (qk Bo hne.symm)
 ·have hee:xs.length=ys.length:=by
   simp only [qi] at hb0; have:(xs.length:Int)=(ys.length:Int):=by simpa using hb0
   omega
  refine qh<|zt<|qb<|zh [.v 5 _] [.g 0,.g 1,.g 2,.o 0] U (zv G (a9 a8) o0) (zz [(0,_),(1,_),(4,_),(5,_)] [] λ a w U=>?_)
  refine a7<|ql ?_
  have U:=St.sel U [0,1,3]
  refine wp_loop_ghost (λ n a w=>∃ (j:Nat),(n+j=xs.length∧xs.take j=ys.take j)∧St B w0 27 [(0,(SlA 92 [U32] (xs.map REA)).va),(1,(SlA 92 [U32] (ys.map REA)).va),(5,In (j:Nat))] [] a w) (xs.length) ?_ ?_
  ·exact ⟨0,⟨by omega,rfl⟩,U⟩
  intro n a w hI
  obtain ⟨j,⟨hn,hp⟩,U⟩:=hI
  refine qb<|qb<|zh [.v 11 _,.v 12 _,.v 13 _,.v 14 _] [.g 0,.g 1,.g 2,.o 3] U (zM 2 G (zM 0 G (zv G (bh Tryz.underlying38 (vq 1 G)) (zv G (aK (vq 0 G) (vq 2 G)) o0)))) (zz [(0,_),(1,_),(5,_),(14,_)] [] λ a w U=>?_)
  refine a7<|ae U (zm 3 G) (λ hb1=>?_) (λ hb1=>?_)
  ·have hj:j<xs.length:=by rw [qi] at hb1; have:=qt hb1; omega
   have hj2:j<ys.length:=by omega
   refine qh<|zt<|ql<|qb<|zgd [[],[],[0,1],[0,1,2],[],[],[4,5],[4,5,6],[0,1,2,3,4,5,6,7],[0,1,2,3,4,5,6,7,8]] [] [] [.v 17 _,.v 18 _,.v 19 _,.v 20 _,.v 21 _,.v 22 _,.v 23 _,.v 24 _,.v 25 _,.v 26 _] [.g 0,.g 1,.g 2,.o 9] aa U (zM 0 G (zM 2 G (zv G (cv mj (dJ λ _=>rfl) (vq 0 G) (vq 1 G) (cD hj)) (zv G (aq (vq 2 G) er) (zM 1 G (zM 2 G (zv G (cv mj (dJ λ _=>rfl) (vq 4 G) (vq 5 G) (cD hj2)) (zv G (aq (vq 6 G) er) (zQ G (Bq _ _) (.p (vq 3 G) (vq 7 G)) (zv G (cW (vq 8 G)) o0)))))))))) zk zk zk zk (zz [(0,_),(1,_),(5,_),(26,_)] [] λ a w U=>?_)
   refine a7<|ae U (zm 3 G) (λ hb2=>?_) (λ hb2=>?_)
   ·refine qb<|zh [.v 4 _] [.g 0,.g 1,.g 2,.o 0] U (zv G (a9 aB) o0) (zz [(0,_),(1,_),(5,_),(4,_)] [] λ a w U=>?_)
    refine a7<|qe<|aT ?_
    refine ao ?_
    refine ao ?_
    refine aT ?_
    refine ao ?_
    refine aj ?_ (an G U (zm 3 G))
    exact bj (qk Bo (se_no hj hj2 (by simpa using hb2)).symm)
   ·refine qh<|am ?_
    refine a7<|zh [.v 15 _,.v 16 _,.v 5 _] [.g 0,.g 1,.o 2] U (zM 2 G (zv G (aQ (vq 0 G) a8 ((wi64 zo zo).trans (by omega:(_:Int)=((j+1:Nat):Int)))) (zA 1 G o0))) (zz [(0,_),(1,_),(5,_)] [] λ a w U=>?_)
    refine a7 ?_
    have U:=St.sel U [0,1,2]
    exact ⟨n-1,by omega,j+1,⟨by omega,se_nx hj hj2 hp (by simpa using hb2)⟩,U⟩
  ·have hj:j=xs.length:=by rw [qi] at hb1; have:=qr hb1; omega
   refine qK<|ah<|ah<|ay<|zt<|zh [.v 4 _] [.o 0] U (zv G (a9 aB) o0) (zz [(4,_)] [] λ a w U=>?_)
   refine a7<|qe<|aj ?_ (an G U (zm 0 G))
   exact bj (qk Bo (qP (by rw [hj,qI,hee,qI] at hp; exact hp)).symm)
set_option maxHeartbeats 4000000 in
theorem EO (xs:List RLo)(hxs:(∀ y∈xs,wdLo y)∧xs.length≤140737488355328):Cn Tryz.prog 3 [(SlA 69 [U32] (xs.map LoA)).va] (Bo true):=by
 refine Cn.introD Tryz.func3 G zk nq (λ B w0 a hF0 hnd hF U=>?_)
 have U:=zn [(0,(SlA 69 [U32] (xs.map LoA)).va)] [] U
 obtain ⟨v0,hv0,U⟩:=St.eqv U 0 rfl
 refine qb<|zh [.v 2 _] [.g 0,.o 0] U (zv G (a9 aB) o0) (zz [(0,_),(2,_)] [] λ a w U=>?_)
 refine zt<|qb<|zh [.v 23 _,.v 24 _] [.g 0,.g 1,.o 1] U (zM 0 G (zQ G (much_c xs) (.o (aR hF hv0 (vq 0 G))) o0)) (zz [(0,_),(2,_),(24,_)] [] λ a w U=>?_)
 refine a7<|ae U (zm 2 G) (λ hb0=>?_) (λ hb0=>?_)
 ·refine qb<|zh [.v 25 _,.v 2 _] [.g 0,.o 1] U (zQ G pM .nil (zA 0 G o0)) (zz [(0,_),(2,_)] [] λ a w U=>?_)
  refine a7<|qe<|ao ?_
  refine aj ?_ (an G U (zm 1 G))
  exact aL
 ·obtain ⟨hl,hbs⟩:=muc_no hxs hb0
  refine qh<|zt<|zh [.v 26 _,.v 27 _,.v 3 _] [.g 0,.g 1,.o 2] U (zM 0 G (zQ G (oN xs zo hbs) (.o (aR hF hv0 (vq 0 G))) (zA 1 G o0))) (zz [(0,_),(2,_),(3,_)] [] λ a w U=>?_)
  obtain ⟨v3,p3,U⟩:=St.eqw U 2 rfl
  have p0:(SlA 69 [U32] (xs.map LoA)).va.p B v0 w:=VA.cg _ _ _ _ _ (hF.cg U.base) hv0
  have hle:=St.bw U
  obtain ⟨B0,hBe⟩:∃ b,b=B:=⟨_,rfl⟩
  rw [← hBe] at p0 p3 hle
  refine groundF [(0,EqV v0),(3,EqV v3)] U hnd (λ B w0 hnd hF0 hB hw0 U=>?_) ?hE
  case hE=>intro x hx; simp only [qo,z6,or_false] at hx; rcases hx with rfl | rfl <;> exact ⟨by simp,_,rfl⟩
  have U:=zn [(0,EqV v0),(3,EqV v3)] [] U
  have hF:NoF w0:=λ g h=>(hF0 g h).elim
  rw [← hw0] at p0 p3 hle
  have hle:B0≤B:=by rw [hB]; exact hle
  have hv0:(SlA 69 [U32] (xs.map LoA)).va.p B v0 w0.w:=by rw [hB]; exact mr (cz eH) _ _ _ (hB▸hle) p0
  have hv3:(SlA 69 [U32] (xs.map LoA)).va.p B v3 w0.w:=by rw [hB]; exact mr (cz eH) _ _ _ (hB▸hle) ((bO twS_sl (vO (iJ λ x=>Ex) (cz (p:=λ A=>∀ T∈A.deps,T∈[U32]) λ x=>iH zk)).va) _ _ _ p3)
  have U:=St.addSz U 9999
  obtain ⟨h1,eh1⟩:∃ h,w.heap.size=h:=⟨_,rfl⟩
  rw [eh1] at U
  have U:=zn [(0,_),(3,_),(9999,_)] [] U
  refine zt<|zg [] [⟨4,32,ptrH,some 5,_,some (6,_)⟩] [.v 29 _,.v 30 _,.v 28 _,.v 31 _,.v 32 _,.alc 0,.sto 0,.v 5 _] [.g 0,.g 1,.g 2,.o 7] U (zM 1 G (zv G (li (h:=h1) (s:=9999) (xs:=[.tmp 29]) (mZ xs) rm ov ob (cH _ _) (.cons (mr (cz eH)) .nil) (.o (aR hF hv3 (vq 0 G))) (gq 2 G)) (zv G (ab (vq 1 G)) (zv G (dS (vq 2 G)) (zv G (dR (vq 2 G)) (zY G (Str.zero bL) (zS 3 G b9 (zA 4 G o0)))))))) (zz [(0,_),(3,_),(9999,_),(5,_)] [O 4 32 _] λ a w U=>?_)
  obtain ⟨m4,n4,b4,o4,U⟩:=St.nameL (A:=GnA (gapF trQ' xs).1) (AP:=(λ m:Nat→Value=>GapP (gapF trQ' xs).1 m)) (kl:=(λ m:Nat→Value=>kgp (gapF trQ' xs).1 m)) dis_wk sN lH U 0 rfl
  obtain ⟨qh2,U⟩:=St.newSz U 2 rfl
  obtain ⟨h2,eh2⟩:∃ h,w.heap.size=h:=⟨_,rfl⟩
  rw [eh2] at U qh2 b4
  have U:=zn [(0,_),(3,_),(9999,_),(5,_)] [O 4 32 _] U
  refine zt<|zg [η] [⟨6,32,ptrH,some 5,_,some (6,_)⟩] [.v 34 _,.v 35 _,.v 33 _,.v 36 _,.v 37 _,.alc 1,.sto 1,.v 7 _] [.g 0,.g 1,.g 2,.g 3,.o 7] U (zM 1 G (zv G (li (h:=h2) (s:=9999) (xs:=[.tmp 34]) (B8 xs) rm ov ob (cH _ _) (.cons (mr (cz eH)) .nil) (.o (aR hF hv3 (vq 0 G))) (gq 2 G)) (zv G (ab (vq 1 G)) (zv G (dS (vq 2 G)) (zv G (dR (vq 2 G)) (zY G (Str.zero bL) (zS 3 G b9 (zA 4 G o0)))))))) (zz [(0,_),(3,_),(9999,_),(5,_),(7,_)] [O 4 32 _,O 6 32 _] λ a w U=>?_)
  obtain ⟨m6,n6,b6,o6,U⟩:=St.nameL (A:=GnA (gapF pwQ' xs).1) (AP:=(λ m:Nat→Value=>GapP (gapF pwQ' xs).1 m)) (kl:=(λ m:Nat→Value=>kgp (gapF pwQ' xs).1 m)) dis_wk sN lH U 1 rfl
  obtain ⟨qh3,U⟩:=St.newSz U 2 rfl
  obtain ⟨h3,eh3⟩:∃ h,w.heap.size=h:=⟨_,rfl⟩
  rw [eh3] at U qh3 b6
  have U:=zn [(0,_),(3,_),(9999,_),(5,_),(7,_)] [O 4 32 _,O 6 32 _] U
  refine zt<|zg [η,η] [] [.v 39 _,.v 40 _,.v 38 _,.v 41 _,.v 42 _,.v 8 _,.v 9 _] [.g 0,.g 1,.g 2,.g 3,.g 4,.o 5,.o 6] U (zM 1 G (zQ G (vK xs) (.o (aR hF hv3 (vq 0 G))) (zv G (ab (vq 1 G)) (zv G (dS (vq 2 G)) (zv G (dR (vq 2 G)) (zA 3 G (zA 4 G o0))))))) (zz [(0,_),(3,_),(9999,_),(5,_),(7,_),(8,_),(9,_)] [O 4 32 _,O 6 32 _] λ a w U=>?_)
  refine zt<|zg [η,η] [] [.v 44 _,.v 45 _,.v 43 _,.v 46 _,.v 47 _,.v 10 _,.v 11 _] [.g 0,.g 1,.g 2,.g 3,.g 4,.g 5,.g 6,.o 5,.o 6] U (zM 1 G (zv G (wA (h:=h3) (s:=9999) (xs:=[.tmp 44]) (B7 xs) (cz λ _=>rl) (cz λ _=>oa) (cH _ _) (.cons (mr (cz eH)) .nil) (.o (aR hF hv3 (vq 0 G))) (gq 2 G)) (zv G (ab (vq 1 G)) (zv G (dS (vq 2 G)) (zv G (dR (vq 2 G)) (zA 3 G (zA 4 G o0))))))) (zz [(0,_),(3,_),(9999,_),(5,_),(7,_),(8,_),(9,_),(10,_),(11,_)] [O 4 32 _,O 6 32 _] λ a w U=>?_)
  have U:=St.setG (A':=LsI h3 w.heap.size 92 9 [U32] ((wrF xs).1.map REN)) U 7 rfl (λ h=>ls_top (cz λ _=>rl) h)
  obtain ⟨qh4,U⟩:=St.newSz U 2 rfl
  obtain ⟨h4,eh4⟩:∃ h,w.heap.size=h:=⟨_,rfl⟩
  rw [eh4] at U qh4
  have U:=zn [(0,_),(3,_),(9999,_),(5,_),(7,_),(8,_),(9,_),(10,_),(11,_)] [O 4 32 _,O 6 32 _] U
  refine zt<|zg [η,η] [⟨12,32,ptrH,some 5,_,some (6,_)⟩] [.v 49 _,.v 50 _,.v 48 _,.v 51 _,.v 52 _,.alc 2,.sto 2,.v 13 _] [.g 0,.g 1,.g 2,.g 3,.g 4,.g 5,.g 6,.g 7,.g 8,.o 7] U (zM 1 G (zv G (li (h:=h4) (s:=9999) (xs:=[.tmp 49]) (mZ xs) rm ov ob (cH _ _) (.cons (mr (cz eH)) .nil) (.o (aR hF hv3 (vq 0 G))) (gq 2 G)) (zv G (ab (vq 1 G)) (zv G (dS (vq 2 G)) (zv G (dR (vq 2 G)) (zY G (Str.zero bL) (zS 3 G b9 (zA 4 G o0)))))))) (zz [(0,_),(3,_),(9999,_),(5,_),(7,_),(8,_),(9,_),(10,_),(11,_),(13,_)] [O 4 32 _,O 6 32 _,O 12 32 _] λ a w U=>?_)
  obtain ⟨m12,n12,b12,o12,U⟩:=St.nameL (A:=GnA (gapF trQ' xs).1) (AP:=(λ m:Nat→Value=>GapP (gapF trQ' xs).1 m)) (kl:=(λ m:Nat→Value=>kgp (gapF trQ' xs).1 m)) dis_wk sN lH U 2 rfl
  obtain ⟨qh5,U⟩:=St.newSz U 2 rfl
  obtain ⟨h5,eh5⟩:∃ h,w.heap.size=h:=⟨_,rfl⟩
  rw [eh5] at U qh5 b12
  have U:=zn [(0,_),(3,_),(9999,_),(5,_),(7,_),(8,_),(9,_),(10,_),(11,_),(13,_)] [O 4 32 _,O 6 32 _,O 12 32 _] U
  refine zt<|zg [η,η,η] [⟨14,32,ptrH,some 5,_,some (6,_)⟩] [.v 54 _,.v 55 _,.v 53 _,.v 56 _,.v 57 _,.alc 3,.sto 3,.v 15 _] [.g 0,.g 1,.g 2,.g 3,.g 4,.g 5,.g 6,.g 7,.g 8,.g 9,.o 7] U (zM 0 G (zQ G (uc xs) (.o (aR hF hv0 (vq 0 G))) (zv G (ab (vq 1 G)) (zv G (dS (vq 2 G)) (zv G (dR (vq 2 G)) (zY G (Str.zero bL) (zS 3 G b9 (zA 4 G o0)))))))) (zz [(0,_),(3,_),(9999,_),(5,_),(7,_),(8,_),(9,_),(10,_),(11,_),(13,_),(15,_)] [O 4 32 _,O 6 32 _,O 12 32 _,O 14 32 _] λ a w U=>?_)
  refine zt<|zg [η,η,η,η] [⟨16,32,ptrH,some 5,_,some (6,_)⟩] [.v 59 _,.v 60 _,.v 58 _,.v 61 _,.v 62 _,.alc 4,.sto 4,.v 17 _] [.g 0,.g 1,.g 2,.g 3,.g 4,.g 5,.g 6,.g 7,.g 8,.g 9,.g 10,.o 7] U (zM 0 G (zQ G (ud xs) (.o (aR hF hv0 (vq 0 G))) (zv G (ab (vq 1 G)) (zv G (dS (vq 2 G)) (zv G (dR (vq 2 G)) (zY G (Str.zero bL) (zS 3 G b9 (zA 4 G o0)))))))) (zz [(0,_),(3,_),(9999,_),(5,_),(7,_),(8,_),(9,_),(10,_),(11,_),(13,_),(15,_),(17,_)] [O 4 32 _,O 6 32 _,O 12 32 _,O 14 32 _,O 16 32 _] λ a w U=>?_)
  refine zt<|zg [η,η,η,η,η] [] [.v 64 _,.v 65 _,.v 63 _,.v 66 _,.v 67 _,.v 18 _,.v 19 _] [.g 0,.g 1,.g 2,.g 3,.g 4,.g 5,.g 6,.g 7,.g 8,.g 9,.g 10,.g 11,.o 5,.o 6] U (zM 0 G (zQ G (BK xs) (.o (aR hF hv0 (vq 0 G))) (zv G (ab (vq 1 G)) (zv G (dS (vq 2 G)) (zv G (dR (vq 2 G)) (zA 3 G (zA 4 G o0))))))) (zz [(0,_),(3,_),(9999,_),(5,_),(7,_),(8,_),(9,_),(10,_),(11,_),(13,_),(15,_),(17,_),(18,_),(19,_)] [O 4 32 _,O 6 32 _,O 12 32 _,O 14 32 _,O 16 32 _] λ a w U=>?_)
  refine zt<|zg [η,η,η,η,η] [] [.v 69 _,.v 70 _,.v 68 _,.v 71 _,.v 72 _,.v 20 _,.v 21 _] [.g 0,.g 1,.g 2,.g 3,.g 4,.g 5,.g 6,.g 7,.g 8,.g 9,.g 10,.g 11,.g 12,.g 13,.o 5,.o 6] U (zM 0 G (zQ G (ub xs) (.o (aR hF hv0 (vq 0 G))) (zv G (ab (vq 1 G)) (zv G (dS (vq 2 G)) (zv G (dR (vq 2 G)) (zA 3 G (zA 4 G o0))))))) (zz [(0,_),(3,_),(9999,_),(5,_),(7,_),(8,_),(9,_),(10,_),(11,_),(13,_),(15,_),(17,_),(18,_),(19,_),(20,_),(21,_)] [O 4 32 _,O 6 32 _,O 12 32 _,O 14 32 _,O 16 32 _] λ a w U=>?_)
  refine zt<|qb<|gl (sts:=[none,none,none,none,none]) (news:=[]) (sp:=((.v 73 _:Sp)::(.v 74 _)::(.v 75 _)::(.v 76 _)::(.f 77 _)::(.f 78 _)::(.f 79 _)::(.v 80 _)::(.v 81 _)::(.f 82 _)::(.f 83 _)::(.f 84 _)::(.v 85 _)::(.v 86 _)::(.f 87 _)::(.f 88 _)::(.f 89 _)::(.v 90 _)::(.v 91 _)::(.f 92 _)::(.f 93 _)::(.f 94 _)::(.v 95 _)::(.v 96 _)::(.f 97 _)::(.f 98 _)::(.f 99 _)::(.v 100 _)::[])) [.g 0,.g 1,.g 2,.g 7,.g 14,.o 27] U (zM 3 G (zM 10 G (zv G (ci (vq 0 G) (vq 1 G)) (zv G (ab (vq 2 G)) (zB 3 G (λ hg=>ab (gq 9 G)) (zB 3 G (λ hg=>ab (gq 10 G)) (zB 3 G (λ hg=>ci (ac (vq 4 G) hg) (ac (vq 5 G) hg)) (zv G (r_or (vq 3 G) (vq 6 G)) (zv G (ab (vq 7 G)) (zB 8 G (λ hg=>ab (gq 4 G)) (zB 8 G (λ hg=>ab (gq 11 G)) (zB 8 G (λ hg=>ci (ac (vq 9 G) hg) (ac (vq 10 G) hg)) (zv G (r_or (vq 8 G) (vq 11 G)) (zv G (ab (vq 12 G)) (zB 13 G (λ hg=>ab (gq 6 G)) (zB 13 G (λ hg=>ab (gq 13 G)) (zB 13 G (λ hg=>ci (ac (vq 14 G) hg) (ac (vq 15 G) hg)) (zv G (r_or (vq 13 G) (vq 16 G)) (zv G (ab (vq 17 G)) (zB 18 G (λ hg=>ab (gq 8 G)) (zB 18 G (λ hg=>ab (gq 15 G)) (zB 18 G (λ hg=>ci (ac (vq 19 G) hg) (ac (vq 20 G) hg)) (zv G (r_or (vq 18 G) (vq 21 G)) (zv G (ab (vq 22 G)) (zB 23 G (λ hg=>ab (gq 5 G)) (zB 23 G (λ hg=>ab (gq 12 G)) (zB 23 G (λ hg=>lh zk (ac (vq 24 G) hg) (ac (vq 25 G) hg)) (zv G (r_or (vq 23 G) (vq 26 G)) o0)))))))))))))))))))))))))))) (zz [(0,_),(3,_),(9999,_),(10,_),(20,_),(100,_)] [O 4 32 _,O 6 32 _,O 12 32 _,O 14 32 _,O 16 32 _] λ a w U=>?_)
  refine a7<|ae U (zm 5 G) (λ hb1=>?_) (λ hb1=>?_)
  ·exact absurd hb1 (by simp)
  ·refine qh<|zt<|qb<|gl (sts:=[none,none,none,none,none]) (news:=[]) (sp:=((.v 101 _:Sp)::(.v 102 _)::(.v 103 _)::(.v 104 _)::(.v 105 _)::(.f 106 _)::(.f 107 _)::(.f 108 _)::(.f 109 _)::(.v 110 _)::(.v 111 _)::(.f 112 _)::(.f 113 _)::(.f 114 _)::(.f 115 _)::(.v 116 _)::(.v 117 _)::(.f 118 _)::(.f 119 _)::(.f 120 _)::(.f 121 _)::(.v 122 _)::(.v 123 _)::(.f 124 _)::(.f 125 _)::(.f 126 _)::(.f 127 _)::(.v 128 _)::[])) [.g 0,.g 1,.g 2,.g 3,.o 27] U (zl 0 G b9 (zl 3 G b9 (zQ G (l4 _ _) (.p (has_wk' (vq 0 G) gapp_gpa.va) (vq 1 G)) (zv G (cW (vq 2 G)) (zv G (ab (vq 3 G)) (zB 4 G (λ hg=>cC (lz0 2 G) b9) (zB 4 G (λ hg=>cC (lz0 3 G) b9) (zB 4 G (λ hg=>aX (l4 _ _) (.p (has_wk' (ac (vq 5 G) hg) gapp_gpa.va) (ac (vq 6 G) hg))) (zB 4 G (λ hg=>cW (ac (vq 7 G) hg)) (zv G (r_or (vq 4 G) (vq 8 G)) (zv G (ab (vq 9 G)) (zB 10 G (λ hg=>cC (lz0 1 G) b9) (zB 10 G (λ hg=>cC (lz0 4 G) b9) (zB 10 G (λ hg=>aX (l4 _ _) (.p (has_wk' (ac (vq 11 G) hg) gapp_gpa.va) (ac (vq 12 G) hg))) (zB 10 G (λ hg=>cW (ac (vq 13 G) hg)) (zv G (r_or (vq 10 G) (vq 14 G)) (zv G (ab (vq 15 G)) (zB 16 G (λ hg=>ab (gq 3 G)) (zB 16 G (λ hg=>ab (gq 4 G)) (zB 16 G (λ hg=>aX (w6 (wrF xs).1 (wrF xs).1) (.p (has_wk' (ac (vq 17 G) hg) FX) (ac (vq 18 G) hg))) (zB 16 G (λ hg=>cW (ac (vq 19 G) hg)) (zv G (r_or (vq 16 G) (vq 20 G)) (zv G (ab (vq 21 G)) (zB 22 G (λ hg=>ab (gq 1 G)) (zB 22 G (λ hg=>ab (gq 0 G)) (zB 22 G (λ hg=>sA (x:=.tmp 124) (y:=.tmp 125) hF hle (il xs xs zo hbs) p3 p0 (λ _ _ h=>h) (ac (vq 23 G) hg) (ac (vq 24 G) hg)) (zB 22 G (λ hg=>cW (ac (vq 25 G) hg)) (zv G (r_or (vq 22 G) (vq 26 G)) o0)))))))))))))))))))))))))))) (zz [(0,_),(3,_),(9999,_),(10,_),(128,_)] [O 4 32 _,O 6 32 _,O 12 32 _,O 14 32 _,O 16 32 _] λ a w U=>?_)
   refine a7<|ae U (zm 4 G) (λ hb2=>?_) (λ hb2=>?_)
   ·exact absurd hb2 (by simp)
   ·refine qh<|zt<|zg [η,η,η,η,η] [⟨22,61,ptrH,some 1,_,some (2,_)⟩] [.v 129 _,.alc 5,.sto 5] [.g 0,.g 1,.g 2,.g 3] U (zv G (aO (qs:=[]) Bb .nil) (zY G uQ (zS 0 G ty_61 o0))) (zz [(0,_),(3,_),(9999,_),(10,_)] [O 4 32 _,O 6 32 _,O 12 32 _,O 14 32 _,O 16 32 _,O 22 61 _] λ a w U=>?_)
    have U:=St.wkL (A':=BkF [] [] []) U 5 rfl Er
    obtain ⟨v10,m10,n10,b10,o10,c10,U⟩:=St.nameLs (z:=reO) (AP:=EleP) Af (λ _ _=>rfl) CE U 3 rfl
    have U:=zn [(0,_),(3,_),(9999,_),(10,_)] [O 4 32 _,O 6 32 _,O 12 32 _,O 14 32 _,O 16 32 _,O 22 61 _] U
    have hwl:=qd (HA xs).1 hl
    refine zt ?_
    have hq0:=nR Gc n4 b4 nS
    have hq1:=nR hq0 n12 b12 (hU nS zo)
    have hq2:=nR hq1 n6 b6 (hU (hU nS zo) zo)
    have hq3:=nR hq2 n10 b10 (hU (hU (hU nS zo) zo) zo)
    refine bN (sp:=[.v 130 _,.v 131 VT]) 1 1 99 1 OneC [.g 0,.g 1,.g 2,.g 3,.o 0] U (zl 0 G b9 o0) G zd zk zk (zz [(0,_),(3,_),(9999,_),(10,_),(130,_)] [O 4 32 _,O 6 32 _,O 12 32 _,O 14 32 _,O 16 32 _,O 22 61 _] λ a w U=>?_)
    rw [show List.range' 1 1=[1] from rfl]
    rw [qv]
    refine d8 (A1:=BkF (([]++kgp (gapF trQ' xs).1 m4)) [] ([])) (xs:=[.tmp 130]) [0,1,2,3] [4] 5 G U (lF (gapF trQ' xs).1 m4 ([]) [] ([]) hq0.nd nq) G G (.cons ⟨_,rfl,rfl⟩ .nil) G (lD hB) zd zk zk zk zk (λ a w U=>?_)
    refine bC ?_
    have U:=zn [(131,_),(0,_),(3,_),(9999,_),(10,_)] [O 4 32 _,O 6 32 _,O 12 32 _,O 14 32 _,O 16 32 _,⟨22,61,ptrH,BkF (([]++kgp (gapF trQ' xs).1 m4)) [] ([])⟩] U
    refine zt<|bN (sp:=[.v 132 _,.v 133 VT]) 1 1 99 1 OneC [.g 1,.g 2,.g 3,.g 4,.o 0] U (zl 2 G b9 o0) G zd zk zk (zz [(0,_),(3,_),(9999,_),(10,_),(132,_)] [O 4 32 _,O 6 32 _,O 12 32 _,O 14 32 _,O 16 32 _,O 22 61 _] λ a w U=>?_)
    rw [show List.range' 1 1=[1] from rfl]
    rw [qv]
    refine d8 (A1:=BkF ((([]++kgp (gapF trQ' xs).1 m4)++kgp (gapF trQ' xs).1 m12)) [] ([])) (xs:=[.tmp 132]) [0,1,2,3] [4] 5 G U (lF (gapF trQ' xs).1 m12 (([]++kgp (gapF trQ' xs).1 m4)) [] ([]) hq1.nd nq) G G (.cons ⟨_,rfl,rfl⟩ .nil) G (lD hB) zd zk zk zk zk (λ a w U=>?_)
    refine bC ?_
    have U:=zn [(133,_),(0,_),(3,_),(9999,_),(10,_)] [O 4 32 _,O 6 32 _,O 12 32 _,O 14 32 _,O 16 32 _,⟨22,61,ptrH,BkF ((([]++kgp (gapF trQ' xs).1 m4)++kgp (gapF trQ' xs).1 m12)) [] ([])⟩] U
    refine zt<|bN (sp:=[.v 134 _,.v 135 VT]) 1 1 99 1 OneC [.g 1,.g 2,.g 3,.g 4,.o 0] U (zl 1 G b9 o0) G zd zk zk (zz [(0,_),(3,_),(9999,_),(10,_),(134,_)] [O 4 32 _,O 6 32 _,O 12 32 _,O 14 32 _,O 16 32 _,O 22 61 _] λ a w U=>?_)
    rw [show List.range' 1 1=[1] from rfl]
    rw [qv]
    refine d8 (A1:=BkF (((([]++kgp (gapF trQ' xs).1 m4)++kgp (gapF trQ' xs).1 m12)++kgp (gapF pwQ' xs).1 m6)) [] ([])) (xs:=[.tmp 134]) [0,1,2,3] [4] 5 G U (lF (gapF pwQ' xs).1 m6 ((([]++kgp (gapF trQ' xs).1 m4)++kgp (gapF trQ' xs).1 m12)) [] ([]) hq2.nd nq) G G (.cons ⟨_,rfl,rfl⟩ .nil) G (lD hB) zd zk zk zk zk (λ a w U=>?_)
    refine bC ?_
    have U:=zn [(135,_),(0,_),(3,_),(9999,_),(10,_)] [O 4 32 _,O 6 32 _,O 12 32 _,O 14 32 _,O 16 32 _,⟨22,61,ptrH,BkF (((([]++kgp (gapF trQ' xs).1 m4)++kgp (gapF trQ' xs).1 m12)++kgp (gapF pwQ' xs).1 m6)) [] ([])⟩] U
    refine zt<|bN (sp:=[.v 136 _,.v 137 VT]) 1 1 99 1 OneC [.g 1,.g 2,.g 3,.o 0] U (zM 4 G o0) G zd zk zk (zz [(0,_),(3,_),(9999,_),(136,_)] [O 4 32 _,O 6 32 _,O 12 32 _,O 14 32 _,O 16 32 _,O 22 61 _] λ a w U=>?_)
    rw [show List.range' 1 1=[1] from rfl]
    rw [qv]
    refine d8 (A1:=BkF ((((([]++kgp (gapF trQ' xs).1 m4)++kgp (gapF trQ' xs).1 m12)++kgp (gapF pwQ' xs).1 m6)++lsK reO ke m10 (wrF xs).1 (wrF xs).1.length)) [] ([(v10,(wrF xs).1.length)])) (xs:=[.tmp 136]) [0,1,2] [3] 5 rfl U (yz (((([]++kgp (gapF trQ' xs).1 m4)++kgp (gapF trQ' xs).1 m12)++kgp (gapF pwQ' xs).1 m6)) [] ([]) hq3.nd (λ p hp=>by cases hp) (by have k4:(kgp (gapF trQ' xs).1 m4).length=4:=rfl; have k12:(kgp (gapF trQ' xs).1 m12).length=4:=rfl; have k6:(kgp (gapF pwQ' xs).1 m6).length=4:=rfl; simp only [qn,zy,qR,d5,k4,k12,k6]; omega)) rfl rfl (.cons ⟨_,rfl,rfl⟩ .nil) rfl (lD hB) zd zk zk zk zk (λ a w U=>?_)
    refine bC ?_
    have U:=zn [(137,_),(0,_),(3,_),(9999,_)] [O 4 32 _,O 6 32 _,O 12 32 _,O 14 32 _,O 16 32 _,⟨22,61,ptrH,BkF ((((([]++kgp (gapF trQ' xs).1 m4)++kgp (gapF trQ' xs).1 m12)++kgp (gapF pwQ' xs).1 m6)++lsK reO ke m10 (wrF xs).1 (wrF xs).1.length)) [] ([(v10,(wrF xs).1.length)])⟩] U
    refine zt ?_
    have U:=St.selL U [5]
    refine Ce (m:=9) zk ?_
    refine d8 (A1:=JkA) (xs:=[]) [1,2] [] 0 rfl U (CV ((((([]++kgp (gapF trQ' xs).1 m4)++kgp (gapF trQ' xs).1 m12)++kgp (gapF pwQ' xs).1 m6)++lsK reO ke m10 (wrF xs).1 (wrF xs).1.length)) [] ([(v10,(wrF xs).1.length)]) (FG (fN (fN (fN (fN FF o4) o12) o6) o10) (fQ (fQ (fQ (fQ G6 (yu AH)) (yu AH)) (yu AH)) (lnK_ls (HA xs).2))) (λ p hp=>by cases hp) (λ p hp=>by simp only [qo,z6,or_false] at hp; rcases hp with rfl <;> (show _≤_; omega)) (by have k4:(kgp (gapF trQ' xs).1 m4).length=4:=rfl; have k12:(kgp (gapF trQ' xs).1 m12).length=4:=rfl; have k6:(kgp (gapF pwQ' xs).1 m6).length=4:=rfl; simp only [qn,zy,qR,d5,k4,k12,k6]; omega)) rfl rfl .nil rfl (lD hB) zd zk zk zk zk (zz [(138,Bo true),(0,_),(3,_)] [⟨22,_,ptrH,JkA⟩] λ a w U=>?_)
    refine Cd (sp:=[.v 138 (Bo true),.v 139 _,.t 140 _,.t 141 _,.t 142 _,.v 143 _,.v 144 _,.t 145 _,.v 146 _,.v 2 _]) [.o 9] U G zk (zv G (ab (vq 0 G)) (zB 1 G (λ hg=>ab (gq 1 G)) (zB 1 G (λ hg=>ab (gq 0 G)) (zB 1 G (λ hg=>sA (x:=.tmp 140) (y:=.tmp 141) hF hle (il xs xs zo hbs) p3 p0 (λ _ _ h=>h) (ac (vq 2 G) hg) (ac (vq 3 G) hg)) (zv G (bG (vq 1 G) (vq 4 G)) (zv G (ab (vq 5 G)) (zB 6 G (λ hg=>aX pM .nil) (zv G (bG (vq 6 G) (vq 7 G)) (zA 8 G o0))))))))) zk zk (zz [(2,_)] [O 22 61 _] λ a w U=>?_)
    refine a7<|qe<|aj ?_ (an G U (zm 0 G))
    refine bj (qk Bo ?_); simp
end Go.Proofs.YtkpifdpdeanjfaaGreatDoor
