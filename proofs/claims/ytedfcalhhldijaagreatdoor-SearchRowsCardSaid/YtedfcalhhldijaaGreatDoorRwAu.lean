import Derived.Test.YtedfcalhhldijaaGreatDoorRwAt
set_option linter.all false
set_option maxRecDepth 100000
namespace Go.Proofs.YtedfcalhhldijaaGreatDoor
open Go Go.RowKit
variable {w:World}{B:Nat}{a:Act}{v:Value}{T:TypeId}{w0:Bs}{Γ:List (Nat × VA)}{Λ:List Lc}{ps:String}{af:Array Edge}{vr:Value}{H:Hd}{cs:List Value}{w':World}{P:Program}{D:List TypeId}
theorem Hi (t:RTk)(xs:List Int):bdGpA (rowF t xs).2.1:=by
 unfold rowF
 split
 ·exact ⟨lX,lX⟩
 ·split
  ·exact ⟨lX,lX⟩
  ·split
   ·exact ⟨lX,lX⟩
   ·rename_i h
    simp only [kr,List.any_nil,kz,zw,not_or,Bool.not_eq_true] at h
    exact ⟨bd_of (by rw [h.1]; decide),bd_of (by rw [h.2]; decide)⟩
theorem Ha {t:RTk}{xs:List Int}(ht:wdTk t)(hx:(∀ y∈xs,True)∧xs.length≤140737488355328)(hb:bydF 0 [tkcF t,((xs.map InA).length:Nat)]=false):bdTk t∧xs.length≤10000000:=by
 rw [qc] at hb
 have h:=byd_tk (l:=[xs.length]) ht ⟨by simp,λ n hn=>by simp at hn; subst hn; exact hx.2⟩ hb
 simp at h
 exact ⟨h.1,by omega⟩
theorem HE (xs:List Int):Up (SlA 3 [] (xs.map InA)).va (SlA 3 [] (xs.map InA)).va:=(rg λ A hA=>by obtain ⟨x,_,rfl⟩:=qq.1 hA; exact fD _ _).va
theorem St.nameD {M:Type}{B N:Nat}{s:Nat}{A:As}{AP:M→As}{kl:M→KL}(hs:∀ {B:Nat} {cs:List Value} {w:World},A.p B cs w→∃ m,(AP m).p B cs w∧cbl cs=kbl (kl m)∧OkK (kl m))(h:St B w0 N Γ Λ a w)(k:Nat)(hm:Λ[k]?=some ⟨s,T,H,DisA A⟩):
  ∃ m,(kbl (kl m)).Nodup∧OkK (kl m)∧St B w0 N Γ (Λ.set k ⟨s,T,H,AP m⟩) a w:=by
 obtain ⟨hk,he⟩:=List.getElem?_eq_some_iff.1 hm
 have hin:(⟨s,T,H,DisA A⟩:Lc)∈Λ:=qa hm
 obtain ⟨g,cs,h1,h2,h3,h4,h5⟩:=h.locs _ hin
 obtain ⟨m,p1,p2,p3⟩:=hs h4
 have hset:∀ l∈Λ.set k ⟨s,T,H,AP m⟩,l=⟨s,T,H,AP m⟩∨l∈Λ:=λ l hl=>(qy hl).symm
 have hd:∀ l∈Λ.set k ⟨s,T,H,AP m⟩,∃ l'∈Λ,l'.s=l.s:=λ l hl=>by
  rcases hset l hl with rfl | hl
  ·exact ⟨_,hin,rfl⟩
  ·exact ⟨l,hl,rfl⟩
 refine ⟨m,by rw [← p2]; exact h5,p3,h.lo,h.defers,h.size,h.base,h.vals,λ l hl=>?_,λ l hl m' hm' hne=>?_⟩
 ·rcases hset l hl with rfl | hl
  ·exact ⟨g,cs,h1,h2,h3,p1⟩
  ·exact h.locs l hl
 ·obtain ⟨l',hl',e1⟩:=hd l hl
  obtain ⟨m'',hm'',e2⟩:=hd m' hm'
  have:=h.dis l' hl' m'' hm'' (by rw [e1,e2]; exact hne)
  rw [e1,e2] at this
  exact this
theorem CN {x:RF × RF}{m:Nat→Value}{L:List Slot}:addL L (kgp x m)=addL (addL L (kf x.1 (m 0) (m 1))) (kf x.2 (m 2) (m 3)):=by
 unfold kgp
 rw [sJ (l:=kf x.1 (m 0) (m 1)) (m:=kf x.2 (m 2) (m 3))]
set_option maxHeartbeats 4000000 in
theorem I5 (t:RTk)(ht:wdTk t)(xs:List Int)(hx:(∀ y∈xs,True)∧xs.length≤140737488355328):Cn Tryz.prog 3 [(TkA t).va,(SlA 3 [] (xs.map InA)).va] (Bo true):=by
 refine Cn.introD Tryz.func3 G zk nq (λ B w0 a hF0 hnd hF U=>?_)
 have U:=zn [(0,(TkA t).va),(1,(SlA 3 [] (xs.map InA)).va)] [] U
 obtain ⟨v0,hv0,U⟩:=St.eqv U 0 rfl
 obtain ⟨v1,hv1,U⟩:=St.eqv U 1 rfl
 refine qb<|zg [] [⟨2,30,ptrH,some 0,_,none⟩] [.alc 0,.v 4 _] [.g 1,.o 1] U (oc (we G G G (aT hF hv0 (gq 0 G))) (zv G (ac aJ) o0)) (zz [(1,_),(4,_)] [O 2 30 _] λ a w U=>?_)
 refine zt<|qb<|zg [η] [] [.v 14 _,.v 15 _,.v 16 _,.v 17 _,.v 18 _,.v 19 _] [.g 0,.g 1,.o 5] U (zl 0 G cN (zQ G (Aj _) (.o (vq 0 G)) (zM 0 G (zv G (bg Tryz.underlying31 (aT hF hv1 (vq 2 G))) (zv G (bJ (D:=[]) (l:=[_,_]) (xs:=[.tmp 15,.tmp 17]) (cT zk) cP zk (n_ok zk) nq nq nq (.p (vq 1 G) (vq 3 G)) G G) (zQ G (CA [_,_]) (.o (vq 4 G)) o0)))))) (zz [(1,_),(4,_),(19,_)] [O 2 30 _] λ a w U=>?_)
 refine aa<|aj U (zm 2 G) (λ hb0=>?_) (λ hb0=>?_)
 ·refine qb<|zg [η] [] [.v 4 _] [.g 0,.o 0] U (zv G (ac aJ) o0) (zz [(1,_),(4,_)] [O 2 30 _] λ a w U=>?_)
  refine aa<|qg<|al ?_
  refine ao ?_ (an G U (zm 1 G))
  exact aL
 ·obtain ⟨hbt,hxl⟩:=Ha ht hx hb0
  refine qh<|zt<|zg [η] [⟨5,30,ptrH,some 2,_,some (3,_)⟩] [.v 20 _,.v 21 _,.alc 1,.sto 1] [.g 0,.g 1] U (zl 0 G cN (zQ G (sP t hbt) (.o (vq 0 G)) (zY G (Str.zero fH) (zS 1 G cN o0)))) (zz [(1,_),(4,_)] [O 2 30 _,O 5 30 _] λ a w U=>?_)
  refine zt<|zg [η,η] [] [.v 22 _,.v 23 _,.v 6 _] [.g 0,.g 1,.o 2] U (zM 0 G (zQ G (m6 xs hxl (λ _ _=>trivial)) (.o (aT hF hv1 (vq 0 G))) (zA 1 G o0))) (zz [(1,_),(4,_),(6,_)] [O 2 30 _,O 5 30 _] λ a w U=>?_)
  obtain ⟨v6,p6,U⟩:=St.eqw U 2 rfl
  have p1:(SlA 3 [] (xs.map InA)).va.p B v1 w:=VA.cg _ _ _ _ _ (hF.cg U.base) hv1
  obtain ⟨cs2,p2,e2⟩:=St.exC U 0 rfl
  obtain ⟨cs5,p5,e5⟩:=St.exC U 1 rfl
  have x1:=U.vals _ (zm 0 rfl)
  have x6:=U.vals _ (zm 2 rfl)
  have hle:=St.bw U
  obtain ⟨B0,hBe⟩:∃ b,b=B:=⟨_,rfl⟩
  rw [← hBe] at p1 p2 p5 p6 hle
  refine groundC [(1,EqV v1),(6,EqV v6),(2,ElO 30 (EqC 6 cs2)),(5,ElO 30 (EqC 6 cs5))] U hnd ⟨x1,x6,e2,e5,trivial⟩ (λ B w0 hnd hF0 hB hw0 U=>?_)
  have U:=zn [(1,EqV v1),(6,EqV v6),(2,ElO 30 (EqC 6 cs2)),(5,ElO 30 (EqC 6 cs5))] [] U
  have hF:NoF w0:=λ g h=>(hF0 g h).elim
  rw [← hw0] at p1 p2 p5 p6 hle
  have hle:B0≤B:=by rw [hB]; exact hle
  have hv1:(SlA 3 [] (xs.map InA)).va.p B v1 w0.w:=by rw [hB]; exact HE xs _ _ _ (hB▸hle) p1
  have hv6:(SlA 3 [] (xs.map InA)).va.p B v6 w0.w:=by rw [hB]; exact HE xs _ _ _ (hB▸hle) (CU _ _ _ p6)
  have q2:(TkA t).va.p B0 (shape true cs2) w0.w:=⟨cs2,p2,rfl⟩
  have q5:(TkT t).va.p B0 (shape true cs5) w0.w:=⟨cs5,p5,rfl⟩
  have hv2:(TkA t).va.p B (shape true cs2) w0.w:=by rw [hB]; exact (oN t).va _ _ _ (hB▸hle) q2
  have hv5:(TkA t).va.p B (shape true cs5) w0.w:=by rw [hB]; exact (oN t).va _ _ _ (hB▸hle) (tkT_A.va _ _ _ q5)
  refine zt<|zg [] [⟨8,37,ptrH,some 7,_,some (9,_)⟩] [.v 25 _,.v 26 _,.v 27 _,.v 24 _,.v 28 _,.v 29 _,.v 30 _,.alc 0,.v 7 _,.sto 0,.v 9 _] [.g 0,.g 1,.g 2,.g 3,.o 8,.o 10] U (zv G ((au (has_wk' (gq 3 G) Ca) cN).wk C9) (zM 1 G (zQ G (D6 t xs) (.p (aT hF hv5 (vq 0 G)) (aT hF hv6 (vq 1 G))) (zv G (ai (vq 2 G)) (zv G (pd (vq 3 G)) (zv G (pc (vq 3 G)) (zv G (Fc (vq 3 G)) (zY G (Str.zero gQ) (zA 4 G (zS 5 G dx (zA 6 G o0))))))))))) (zz [(1,_),(6,_),(2,_),(5,_),(7,_),(9,_)] [O 8 37 _] λ a w U=>?_)
  refine zt<|zg [η] [⟨11,37,ptrH,some 7,_,some (9,_)⟩] [.v 32 _,.v 33 _,.v 34 _,.v 31 _,.v 35 _,.v 36 _,.v 37 _,.alc 1,.v 10 _,.sto 1,.v 12 _] [.g 0,.g 1,.g 2,.g 3,.g 4,.g 5,.o 8,.o 10] U (zv G ((au (has_wk' (gq 2 G) Ca) cN).wk C9) (zM 0 G (zQ G (vE t xs) (.p (aT hF hv2 (vq 0 G)) (aT hF hv1 (vq 1 G))) (zv G (ai (vq 2 G)) (zv G (pd (vq 3 G)) (zv G (pc (vq 3 G)) (zv G (Fc (vq 3 G)) (zY G (Str.zero gQ) (zA 4 G (zS 5 G dx (zA 6 G o0))))))))))) (zz [(1,_),(6,_),(2,_),(5,_),(7,_),(9,_),(10,_),(12,_)] [O 8 37 _,O 11 37 _] λ a w U=>?_)
  refine zt<|qb<|zg [η,η] [] [.v 38 _,.v 39 _,.v 40 _,.v 41 _,.f 42 _,.f 43 _,.f 44 _,.f 45 _,.v 46 _,.v 47 _,.f 48 _,.f 49 _,.f 50 _,.v 51 _] [.g 0,.g 1,.g 2,.g 3,.o 13] U (zM 4 G (zM 6 G (zv G (bX (vq 0 G) (vq 1 G)) (zv G (ai (vq 2 G)) (zB 3 G (λ hg=>df (lz0 0 G) dx) (zB 3 G (λ hg=>df (lz0 1 G) dx) (zB 3 G (λ hg=>be (AJ _ _) (.p (has_wk' (ak (vq 4 G) hg) g2d_a.va) (ak (vq 5 G) hg))) (zB 3 G (λ hg=>dY (ak (vq 6 G) hg)) (zv G (r_or (vq 3 G) (vq 7 G)) (zv G (ai (vq 8 G)) (zB 9 G (λ hg=>ai (gq 5 G)) (zB 9 G (λ hg=>ai (gq 7 G)) (zB 9 G (λ hg=>bX (ak (vq 10 G) hg) (ak (vq 11 G) hg)) (zv G (r_or (vq 9 G) (vq 12 G)) o0)))))))))))))) (zz [(1,_),(6,_),(2,_),(5,_),(51,_)] [O 8 37 _,O 11 37 _] λ a w U=>?_)
  refine aa<|aj U (zm 4 G) (λ hb1=>?_) (λ hb1=>?_)
  ·exact absurd hb1 (by simp)
  ·refine qh<|zt<|zg [η,η] [⟨13,59,ptrH,some 0,_,none⟩] [.alc 2] [.g 0,.g 1,.g 2,.g 3] U (zY G tP o0) (zz [(1,_),(6,_),(2,_),(5,_)] [O 8 37 _,O 11 37 _,O 13 59 _] λ a w U=>?_)
   refine zt ?_
   obtain ⟨m8,n8,o8,U⟩:=St.nameD (AP:=λ m:Nat→Value=>GapP (rowF t xs).2.1 m) (kl:=λ m:Nat→Value=>kgp (rowF t xs).2.1 m) y6 U 0 rfl
   have U:=zn [(1,_),(6,_),(2,_),(5,_)] [O 8 37 _,O 11 37 _,O 13 59 _] U
   refine cc (sp:=[.v 52 _,.v 53 VT]) 1 1 99 1 OneC [.g 0,.g 1,.g 2,.g 3,.o 0] U (zl 0 G dx o0) G zd zk zk (zz [(1,_),(6,_),(2,_),(5,_),(52,_)] [O 8 37 _,O 11 37 _,O 13 59 _] λ a w U=>?_)
   rw [show List.range' 1 1=[1] from rfl]
   rw [qA]
   refine fO (A1:=BkE (addL [] (kgp (rowF t xs).2.1 m8))) (xs:=[.tmp 52]) [0,1,2,3] [4] 2 rfl U ((Bu (rowF t xs).2.1 m8 [] (uy n8 (λ t ht=>by cases ht)) nq).wk (λ B cs w h=>by rw [CN]; exact h)) rfl rfl (.cons ⟨_,rfl,rfl⟩ .nil) rfl (wx hB) zd zk zk zk zk (λ a w U=>?_)
   refine cq ?_
   have U:=zn [(53,_),(1,_),(6,_),(2,_),(5,_)] [O 8 37 _,O 11 37 _,⟨13,59,ptrH,BkE (addL [] (kgp (rowF t xs).2.1 m8))⟩] U
   refine zt ?_
   have U:=St.selL U [2]
   refine BG (m:=14) zk ?_
   refine fO (A1:=JkA) (xs:=[]) [1,2,3,4] [] 0 G U (CH (kgp (rowF t xs).2.1 m8) (FA o8 (lnK_gp (Hi t xs))) nq) G G .nil G (wx hB) zd zk zk zk zk (zz [(54,Bo true),(1,_),(6,_),(2,_),(5,_)] [⟨13,_,ptrH,JkA⟩] λ a w U=>?_)
   refine BA (sp:=[.v 54 (Bo true),.v 55 _,.t 56 _,.t 57 _,.t 58 _,.v 59 _,.v 60 _,.t 61 _,.t 62 _,.t 63 _,.v 64 _,.v 65 _,.t 66 _,.v 67 _,.v 4 _]) [.o 14] U G zk (zv G (ai (vq 0 G)) (zB 1 G (λ hg=>(au (has_wk' (gq 3 G) Ca) cN).wk C9) (zB 1 G (λ hg=>(au (has_wk' (gq 2 G) Ca) cN).wk C9) (zB 1 G (λ hg=>rD (x:=.tmp 56) (y:=.tmp 57) hF hle (tj t t hbt hbt) q5 q2 (λ _ _ h=>h) (ak (vq 2 G) hg) (ak (vq 3 G) hg)) (zv G (bA (vq 1 G) (vq 4 G)) (zv G (ai (vq 5 G)) (zB 6 G (λ hg=>ai (gq 1 G)) (zB 6 G (λ hg=>ai (gq 0 G)) (zB 6 G (λ hg=>rD (x:=.tmp 61) (y:=.tmp 62) hF hle (mM xs xs hxl (λ _ _=>trivial)) p6 p1 (λ _ _ h=>h) (ak (vq 7 G) hg) (ak (vq 8 G) hg)) (zv G (bA (vq 6 G) (vq 9 G)) (zv G (ai (vq 10 G)) (zB 11 G (λ hg=>be wJ .nil) (zv G (bA (vq 11 G) (vq 12 G)) (zA 13 G o0)))))))))))))) zk zk (zz [(4,_)] [O 13 59 _] λ a w U=>?_)
   refine aa<|qg<|ao ?_ (an G U (zm 0 G))
   refine aZ (qm Bo ?_); simp
end Go.Proofs.YtedfcalhhldijaaGreatDoor
