import Derived.Test.YtedfcalhhldijaaGreatDoorRwAp
import Derived.ChangeArms
import Derived.Laws.Strings
import Derived.WideShapes
set_option linter.all false
set_option maxRecDepth 100000
namespace Go.Proofs.YtedfcalhhldijaaGreatDoor
open Go Go.RowKit
variable {w:World}{B:Nat}{a:Act}{v:Value}{T:TypeId}{w0:Bs}{Γ:List (Nat × VA)}{Λ:List Lc}{ps:String}{af:Array Edge}{vr:Value}{H:Hd}{cs:List Value}{w':World}{P:Program}{D:List TypeId}
theorem A6:Zero Tryz.prog 3 (NumA .i64 0):=Zero.of (z:=.int .i64 0) zk (λ _ _=>rfl)
def G2N (x:RF × RF):As:=cat [RFN x.1,RFN x.2]
def G2D (x:RF × RF):As:=DisA (G2N x)
theorem vK {k:Nat}{q:Rat}:WkA (QD k q) (RFN (rfOf q)):=qd_rfd.trans dis_wk
theorem iG:Str Tryz.prog 37 [cat [NilI,NilI],cat [NilI,NilI]] :=
 Str.of (z:=.agg #[.bool false,.slice none 0 0,.bool false,.slice none 0 0,.bool false,.slice none 0 0,.bool false,.slice none 0 0]) zk Tryz.underlying37 zk λ B w=>⟨[[.bool false,.slice none 0 0,.bool false,.slice none 0 0],[.bool false,.slice none 0 0,.bool false,.slice none 0 0]],rfl,.cons ⟨[[.bool false,.slice none 0 0],[.bool false,.slice none 0 0]],rfl,.cons ⟨[[.bool false],[.slice none 0 0]],rfl,.cons rfl (.cons rfl .nil)⟩ (.cons ⟨[[.bool false],[.slice none 0 0]],rfl,.cons rfl (.cons rfl .nil)⟩ .nil)⟩ (.cons ⟨[[.bool false,.slice none 0 0],[.bool false,.slice none 0 0]],rfl,.cons ⟨[[.bool false],[.slice none 0 0]],rfl,.cons rfl (.cons rfl .nil)⟩ (.cons ⟨[[.bool false],[.slice none 0 0]],rfl,.cons rfl (.cons rfl .nil)⟩ .nil)⟩ .nil)⟩
theorem zg2_d:WkA (cat [cat [NilI,NilI],cat [NilI,NilI]]) (G2D (rf0,rf0)):=⟨rfl,rfl,λ B cs w ⟨ps,e,hq⟩=>by
 cases hq with
 | @cons _ c0 _ _ h0 hq=>cases hq with
  | @cons _ c1 _ _ h1 hq =>
   cases hq
   refine ⟨⟨[c0,c1],e,.cons (zf_rfd.2.2 _ _ _ h0).1 (.cons (zf_rfd.2.2 _ _ _ h1).1 .nil)⟩,?_⟩
   rw [e,iW h0,iW h1]
   exact jn⟩
theorem g2_pins {u v:Value}{c d:Nat}{x y:Rat}:WkA (cat [PinA u ((QD c x).and (SepAll [] u)),PinA v ((QD d y).and (SepAll [u] v))]) (G2D (rfOf x,rfOf y)) :=
 (so (l:=[(u,QD c x),(v,QD d y)]) (λ y hy=>by
  simp at hy
  rcases hy with rfl | rfl <;> exact nod_qd)).trans (iw (bo (.cons vK (.cons vK .nil))))
abbrev RwD (r:Int × (RF × RF) × Int):VA:=Tu [In r.1,(G2D r.2.1).va,In r.2.2]
theorem BM {r:Int × (RF × RF) × Int}:Free (RwD r) (RwD r):=pG (.cons (ce _ _).va (.cons (nk (bF (.cons (bF (.cons (du _) (.cons (du _) .nil))) (.cons (bF (.cons (du _) (.cons (du _) .nil))) .nil)))).va (.cons (ce _ _).va .nil)))
def loW (f:Nat→Rat):Nat→Rat
 | 0=>0
 | k+1=>if ((((k:Nat):Int)==0) || decide (cmQ (f k) (loW f k)<0))=true then f k else loW f k
def hiW (f:Nat→Rat):Nat→Rat
 | 0=>0
 | k+1=>if ((((k:Nat):Int)==0) || decide (cmQ (f k) (hiW f k)>0))=true then f k else hiW f k
def pwK (t:RTk)(ah:List Nat)(nn k:Nat):Rat:=powW t (exW t.ps.length ah nn 0 k)
abbrev NF:As:=cat [NilI,NilI]
abbrev lqA (b k:Nat)(x:Rat):As:=optA k NF (QA b x) ⟨rfl,rfl⟩
theorem lq_s {b k:Nat}{x:Rat}:WkA (QA b x) (lqA b (k+1) x):=vY (jc k)
theorem lq_x {b k:Nat}{x:Rat}(h:k≠0):WkA (lqA b k x) (QA b x):=vX h
theorem lq_0 {b:Nat}{x:Rat}:WkA NF (lqA b 0 x):=vZ
theorem k_ne {k:Nat}(h:(((k:Nat):Int)==0)=false):k≠0:=λ e=>by subst e; cases h
theorem Gb {k:Nat}{b:Bool}(h:((((k:Nat):Int)==0) || b)=false):k≠0:=λ e=>by subst e; simp at h
abbrev GpO (b:Nat)(f:Nat→Rat)(j k:Nat):As:=cat [lqA b j (loW f j),lqA b k (hiW f k)]
theorem ck_way {t:RTk}(h:ckF t=0):wayB t.ps.length (t.sp.length-1)=false:=by
 obtain ⟨h1,h2,h3⟩:=fv h
 unfold ckF at h
 rw [qw (by rw [h1]; decide),qw (by rw [h2]; decide),qw (by rw [h3]; decide)] at h
 split at h
 ·cases h
 ·split at h
  ·cases h
  ·rename_i h5
   simpa using h5
theorem DS {t:RTk}{nn a:Nat}(h:ckF t=0)(hn:t.sp.length=nn+1):cntW t.ps.length a nn 0≤65536:=by
 have hp:=(hd_b (fv h).1).2.2.1
 have h1:=CQ (ck_way h)
 rw [hn,xX] at h1
 exact qe (yH zo nn 0) h1
theorem Dj {t:RTk}{l:List Int}{nn:Nat}(h:pkF t l=true)(h1:t.sp.length=nn+1)(h2:nn≤12):l=(natL l).map (λ (k:Nat)=>(k:Int))∧(natL l).length≤nn∧∀ x∈natL l,x<t.ps.length:=by
 unfold pkF at h
 simp only [ql,qH,qv] at h
 obtain ⟨h3,h4⟩:=h
 have hs:sloF t=(nn:Int):=by
  unfold sloF
  rw [wi64 zo zo]
  omega
 rw [hs] at h3
 have h5:∀ x∈l,0≤x∧x<(t.ps.length:Int):=λ x hx=>by
  have:=xh.1 h4 x hx
  unfold pkQ at this
  simp only [zw,qH,not_or] at this
  omega
 refine ⟨?_,by unfold natL; rw [qc]; omega,λ x hx=>?_⟩
 ·unfold natL
  rw [z6]
  exact (List.map_id l).symm.trans (kU λ x hx=>by
   have:=(h5 x hx).1
   show x=((x.toNat:Nat):Int)
   omega)
 ·obtain ⟨y,hy,rfl⟩:=qq.1 hx
  have:=h5 y hy
  omega
def rowM (t:RTk)(xs:List Int):Nat:=cntW t.ps.length (natL xs).length (t.sp.length-1) 0
def rowP (t:RTk)(xs:List Int):Nat→Rat:=pwK t (natL xs) (t.sp.length-1)
def rowF (t:RTk)(xs:List Int):Int × (RF × RF) × Int:=if (ckF t != 0)=true then (0,(rf0,rf0),ckF t) else if (!pkF t xs)=true then (0,(rf0,rf0),1) else
 if [loW (rowP t xs) (rowM t xs),hiW (rowP t xs) (rowM t xs)].any longQ=true then (0,(rf0,rf0),4) else ((rowM t xs:Nat),(rfOf (loW (rowP t xs) (rowM t xs)),rfOf (hiW (rowP t xs) (rowM t xs))),0)
theorem nw (b:Bool):((if b then (4:Int) else 0) != 0)=b:=by cases b <;> rfl
set_option maxHeartbeats 2000000 in
theorem D6 (t:RTk)(xs:List Int):Cn Tryz.prog 8 [(TkA t).va,(SlA 3 [] (xs.map InA)).va] (RwD (rowF t xs)):=by
 refine Cn.introR Tryz.func8 G zk nq (.cons (u3 t).va (.cons (up_si xs).va .nil)) BM (λ B w0 a hB0 hN0 U=>?_)
 have U:=zn [(0,(TkO t).va),(1,(SlO 3 [] (xs.map InA) True).va)] [] U
 refine qb<|zg [] [⟨2,30,ptrH,some 0,_,none⟩,⟨4,3,ptrH,some 1,_,none⟩,⟨5,37,ptrH,some 2,_,none⟩] [.alc 0,.alc 1,.alc 2,.v 6 _] [.g 1,.o 3] U (zW 0 G (zY G A6 (zY G (Str.zero iG) (zv G (ac ab) o0)))) (zz [(1,_),(6,_)] [O 2 30 _,O 4 3 _,O 5 37 _] λ a w U=>?_)
 refine zt<|qb<|zg [η,η,η] [] [.v 10 _,.v 11 _,.v 7 _] [.g 0,.g 1,.o 2] U (zl 0 G cN (zQ G ((rq t).wk (.cons tko_A.va .nil)) (.o (vq 0 G)) (zA 1 G o0))) (zz [(1,_),(6,_),(7,_)] [O 2 30 _,O 4 3 _,O 5 37 _] λ a w U=>?_)
 refine zt<|zg [η,η,η] [] [.v 12 _,.v 13 _] [.g 0,.g 1,.g 2,.o 1] U (zM 2 G (zv G (bX (vq 0 G) ab) o0)) (zz [(1,_),(6,_),(7,_),(13,_)] [O 2 30 _,O 4 3 _,O 5 37 _] λ a w U=>?_)
 refine aa<|aj U (zm 3 G) (λ hb0=>?_) (λ hb0=>?_)
 ·refine qb<|zg [η,some (2,_),some (3,_)] [] [.v 14 _,.v 15 _,.sto 1,.sto 2,.v 6 _] [.g 0,.o 4] U (zv G (aU (qs:=[]) iG .nil) (zM 2 G (oc (iV G G G ab ty_3 (xA (b:=1) G G)) (zS 0 G dx (zA 1 G o0))))) (zz [(1,_),(6,_)] [O 2 30 _,O 4 3 _,O 5 37 _] λ a w U=>?_)
  refine aa<|qg<|al ?_
  refine ao ?_ (bf (rs:=[.cell 4 3,.cell 5 37,.tmp 6]) G U (.cell (zm 1 G) ty_3 (.cell (zm 2 G) dx (.tmp (zm 1 G) .nil))) zd)
  rw [show rowF t xs=(0,(rf0,rf0),ckF t) from qz hb0]; exact tu3w aL zg2_d.va aL
 ·have hck:ckF t=0:=by simpa using hb0
  obtain ⟨hs2,hs13,hp1,_⟩:=hd_b (fv hck).1
  obtain ⟨nn,hnn⟩:∃ nn,t.sp.length=nn+1:=⟨t.sp.length-1,by omega⟩
  have hn12:nn≤12:=by omega
  refine qh<|zt<|qb<|zg [η,η,η] [] [.v 16 _,.v 17 _,.v 18 _,.v 19 _] [.g 0,.g 1,.o 3] U (zl 0 G cN (zM 0 G (zQ G ((Ba t xs).wk (.cons tko_A.va (.cons slo_A.va .nil))) (.p (vq 0 G) (vq 1 G)) (zv G (dY (vq 2 G)) o0)))) (zz [(1,_),(6,_),(19,_)] [O 2 30 _,O 4 3 _,O 5 37 _] λ a w U=>?_)
  refine aa<|aj U (zm 2 G) (λ hb1=>?_) (λ hb1=>?_)
  ·refine qb<|zg [η,some (1,_),some (2,_)] [] [.v 20 _,.sto 1,.sto 2,.v 6 _] [.g 0,.o 3] U (zv G (aU (qs:=[]) iG .nil) (oc (iV G G G ab ty_3 (xA (b:=1) G G)) (zS 0 G dx (zv G (ac ab) o0)))) (zz [(1,_),(6,_)] [O 2 30 _,O 4 3 _,O 5 37 _] λ a w U=>?_)
   refine aa<|qg<|al ?_
   refine ao ?_ (bf (rs:=[.cell 4 3,.cell 5 37,.tmp 6]) G U (.cell (zm 1 G) ty_3 (.cell (zm 2 G) dx (.tmp (zm 1 G) .nil))) zd)
   have e:rowF t xs=(0,(rf0,rf0),1):=by rw [rowF,qw (by rw [hb0]; decide),qz hb1]
   rw [e]; exact tu3w aL zg2_d.va aL
  ·obtain ⟨hxe,hxl,hxp⟩:=Dj (by simpa using hb1) hnn hn12
   have hrM:rowM t xs=cntW t.ps.length (natL xs).length nn 0:=by unfold rowM; rw [hnn]; rfl
   have hrP:rowP t xs=pwK t (natL xs) nn:=by unfold rowP; rw [hnn]; rfl
   obtain ⟨u1,hu1⟩:∃ l,natL xs=l:=⟨_,rfl⟩
   rw [hu1] at hxe hxl hxp hrM hrP
   have hcm:=DS (a:=u1.length) hck hnn
   have hcp:0<cntW t.ps.length u1.length nn 0:=dk zo _ _
   refine qh<|zt<|qb ?_
   have U:=St.wkG U 0 rfl (aZ (qm As.va (HY hxe)))
   have U:=zn [(1,_),(6,_),(19,_)] [O 2 30 _,O 4 3 _,O 5 37 _] U
   obtain ⟨q4,U⟩:=St.nm U 1 rfl
   obtain ⟨q5,U⟩:=St.nm U 2 rfl
   refine zg [η,η,η] [] [.v 21 _,.v 22 _,.v 23 _] [.g 0,.g 1,.g 3,.o 2] U (zl 0 G cN (zM 2 G (zv G (uY [(4,q4),(5,q5)] (Hq t u1) (.p (vq 0 G) (vq 1 G)) (.cons (gq 1 G) (lz0 1 G) (.cons (gq 0 G) (lz0 2 G) .nil))) o0))) (zz [(5,_),(4,_),(6,_),(23,_)] [O 2 30 _,O 4 3 _,O 5 37 _] λ a w U=>?_)
   obtain ⟨gb,U,hds⟩:=St.itm (ps:=[(4,q4),(5,q5)]) 3 [1,0] U rfl ⟨rfl,rfl,trivial⟩
   have U:=zn [(5,_),(4,_),(6,_),(23,_)] [O 2 30 _,O 4 3 _,O 5 37 _] U
   have U:=St.wkL (A':=GpO (Wk26 nn) (pwK t u1 nn) 0 0) U 2 rfl (bo (.cons lq_0 (.cons lq_0 .nil)))
   have U:=zn [(5,_),(4,_),(6,_),(23,_)] [O 2 30 _,O 4 3 _,O 5 37 _] U
   refine aa<|qj ?_
   have U:=St.selL U [1,2]
   refine od (k0:=3) (gb:=gb) (Dd:=[30,31,112,113,U32,28,115]) (Db:=[3,37]) (Tp:=[3]) [⟨4,3,ptrH,NumA .i64 ((0:Nat):Int)⟩,⟨5,37,ptrH,GpO (Wk26 nn) (pwK t u1 nn) 0 0⟩] (λ hi k=>[⟨4,3,ptrH,NumA .i64 ((k:Nat):Int)⟩,⟨5,37,ptrH,GpO (Wk26 nn) (pwK t u1 nn) k k⟩]) none (λ _=>none) U hB0 hN0 rfl (A4 hck hnn ⟨hxl,hxp⟩ gb) (M:=cntW t.ps.length u1.length nn 0) (Y:=λ k=>[(WyX t nn (exW t.ps.length u1 nn 0 k)).va]) (λ h=>by cases h) zk [] zk trivial (λ hi k=>by kernel_rfl) (λ lo hi k hk hlo hw=>stVL ⟨dA zk,dA zk,trivial⟩) (λ _=>by kernel_rfl) zk [4,5] (λ _ k=>by kernel_rfl) zk zk hds (λ L hL=>by cases hL) (λ _ L hL=>by cases hL) (λ _=>rfl) zd zk (λ hi Γ a W hhi h=>h) hcp (λ l lo hi k a1 Ws hk hlo1 hlo2 hhi hBs hct U=>?_) (λ hi a w U=>?_) (λ L hL=>by cases hL) (λ _ L hL=>by cases hL)
   ·obtain ⟨a0,rfl⟩:∃ x,x=a:=⟨_,rfl⟩; have hk2:k+1≤65536:=by omega
    have U:St B (rndB B [3,37] (gb++List.range' lo (hi-lo)) Ws Ws) 71 [(24,_),(4,_),(5,_)] [⟨4,3,ptrH,NumA .i64 ((k:Nat):Int)⟩,⟨5,37,ptrH,GpO (Wk26 nn) (pwK t u1 nn) k k⟩] a1 Ws:=U
    refine rY 0 [0,1,2] U G G G zk (eC λ _ _ h=>h) (Str.zero iF) G nE G zd G zk zk (λ a w U=>?_)
    have U:St B (rndB B [3,37] (gb++List.range' lo (hi-lo)) Ws Ws) 71 [(24,_),(4,_),(5,_)] [O 4 3 _,O 5 37 _,O 8 76 _] a w:=U
    refine aa<|⟨U.base,λ W3 hbg=>?_⟩
    have U:=St.begin U (qi _) hBs hbg
    refine wpIn_block ?_
    refine wpIn_seq ?_
    refine wpIn_seq ?_
    refine eH (sts:=[none,none,none]) (news:=[]) (sp:=[.v 25 _,.v 26 _,.v 27 _,.adr 28 8 (.some 1) (_=false),.f 29 _,.adr 30 5 (.some 0) (_=false),.f 31 _,.f 32 _,.f 33 _,.v 34 _]) [.g 0,.g 1,.g 2,.o 9] zk (eC λ _ _ h=>h) U (zl 0 G ty_3 (zv G (bC (vq 0 G) ab) (zv G (ai (vq 1 G)) (zC 2 2 G el (zB 2 G (λ hg=>aF 3 G zk hg (lz0 2 G) (Sub.part 1 G G) ax) (zC 2 1 G dG (zB 2 G (λ hg=>aF 5 G zk hg (lz0 1 G) (Sub.part 0 G G) ax) (zB 2 G (λ hg=>be ((GW (c:=Wk26 nn) (d:=Wk26 nn) (by have:=gn hn12; omega)).wk (.cons aL (.cons (lq_x (k_ne hg)).va .nil))) (.p (ak (vq 4 G) hg) (ak (vq 6 G) hg))) (zB 2 G (λ hg=>aS (ak (vq 7 G) hg) ab) (zv G (r_or (vq 2 G) (vq 8 G)) o0)))))))))) zk zk zk (λ a w U=>?_)
    have U:St B (rndB B [3,37] (gb++List.range' lo (hi-lo)) Ws W3) 71 [(24,_),(4,_),(5,_),(34,_)] [O 4 3 _,O 5 37 _,O 8 76 _] a w:=U
    refine aa<|gL (λ a w =>  St B (rndB B [3,37] (gb++List.range' lo (hi-lo)) Ws W3) 71 [(4,EqV (a0.eval (.tmp 4))),(5,EqV (a0.eval (.tmp 5)))] [⟨4,3,ptrH,NumA .i64 ((k:Nat):Int)⟩,⟨5,37,ptrH,cat [QA (Wk26 nn) (loW (pwK t u1 nn) (k+1)),lqA (Wk26 nn) k (hiW (pwK t u1 nn) k)]⟩,⟨8,76,ptrH,WyX t nn (exW t.ps.length u1 nn 0 k)⟩] a w) U (zm 3 G) (λ hb2=>?_) (λ hb2=>?_) (λ a w U=>?_)
    ·refine eH (sts:=[none,some (3,_),none]) (news:=[]) (sp:=[.adr 35 8 (.some 1) True,.v 36 _,.adr 37 5 (.some 0) True,.sto 1]) [.g 0,.g 1,.g 2] zk (eC λ _ _ h=>h) U (zO 2 G el (zL 0 2 1 G ax (zO 1 G dG (oc (cJ 2 G G G G zk (vq 1 G) ax (Put.part 0 G G G)) o0)))) zk zk zk (λ a w U=>?_)
     have U:St B (rndB B [3,37] (gb++List.range' lo (hi-lo)) Ws W3) 71 [(24,_),(4,_),(5,_)] [O 4 3 _,O 5 37 _,O 8 76 _] a w:=U
     refine aa ?_
     have U:=St.sel U [1,2]
     exact St.wkL U 1 G (bo (.cons (show WkA (QA (Wk26 nn) (pwK t u1 nn k)) (QA (Wk26 nn) (loW (pwK t u1 nn) (k+1))) from by rw [show loW (pwK t u1 nn) (k+1)=pwK t u1 nn k from qz hb2]; exact .refl _) (.cons (.refl _) .nil)))
    ·refine wpIn_skip ?_
     refine aa ?_
     have U:=St.sel U [1,2]
     exact St.wkL U 1 G (bo (.cons (show WkA (lqA (Wk26 nn) k (loW (pwK t u1 nn) k)) (QA (Wk26 nn) (loW (pwK t u1 nn) (k+1))) from by rw [show loW (pwK t u1 nn) (k+1)=loW (pwK t u1 nn) k from qw (λ h=>Bool.noConfusion (xA hb2.symm h))]; exact lq_x (Gb hb2)) (.cons (.refl _) .nil)))
    refine aa<|wpIn_seq ?_
    refine wpIn_seq ?_
    refine eH (sts:=[none,none,none]) (news:=[]) (sp:=[.v 38 _,.v 39 _,.v 40 _,.adr 41 8 (.some 1) (_=false),.f 42 _,.adr 43 5 (.some 4) (_=false),.f 44 _,.f 45 _,.f 46 _,.v 47 _]) [.g 0,.g 1,.o 9] zk (eC λ _ _ h=>h) U (zl 0 G ty_3 (zv G (bC (vq 0 G) ab) (zv G (ai (vq 1 G)) (zC 2 2 G el (zB 2 G (λ hg=>aF 3 G zk hg (lz0 2 G) (Sub.part 1 G G) ax) (zC 2 1 G dF (zB 2 G (λ hg=>aF 5 G zk hg (lz0 1 G) (Sub.part 1 G G) ax) (zB 2 G (λ hg=>be ((GW (c:=Wk26 nn) (d:=Wk26 nn) (by have:=gn hn12; omega)).wk (.cons aL (.cons (lq_x (k_ne hg)).va .nil))) (.p (ak (vq 4 G) hg) (ak (vq 6 G) hg))) (zB 2 G (λ hg=>ci (ak (vq 7 G) hg) ab) (zv G (r_or (vq 2 G) (vq 8 G)) o0)))))))))) zk zk zk (λ a w U=>?_)
    have U:St B (rndB B [3,37] (gb++List.range' lo (hi-lo)) Ws W3) 71 [(4,_),(5,_),(47,_)] [O 4 3 _,O 5 37 _,O 8 76 _] a w:=U
    refine aa<|gL (λ a w =>  St B (rndB B [3,37] (gb++List.range' lo (hi-lo)) Ws W3) 71 [(4,EqV (a0.eval (.tmp 4))),(5,EqV (a0.eval (.tmp 5)))] [⟨4,3,ptrH,NumA .i64 ((k:Nat):Int)⟩,⟨5,37,ptrH,cat [QA (Wk26 nn) (loW (pwK t u1 nn) (k+1)),QA (Wk26 nn) (hiW (pwK t u1 nn) (k+1))]⟩,⟨8,76,ptrH,WyX t nn (exW t.ps.length u1 nn 0 k)⟩] a w) U (zm 2 G) (λ hb3=>?_) (λ hb3=>?_) (λ a w U=>?_)
    ·refine eH (sts:=[none,some (3,_),none]) (news:=[]) (sp:=[.adr 48 8 (.some 1) True,.v 49 _,.adr 50 5 (.some 4) True,.sto 1]) [.g 0,.g 1] zk (eC λ _ _ h=>h) U (zO 2 G el (zL 0 2 1 G ax (zO 1 G dF (oc (cJ 2 G G G G zk (vq 1 G) ax (Put.part 1 G G G)) o0)))) zk zk zk (λ a w U=>?_)
     have U:St B (rndB B [3,37] (gb++List.range' lo (hi-lo)) Ws W3) 71 [(4,_),(5,_)] [O 4 3 _,O 5 37 _,O 8 76 _] a w:=U
     refine aa ?_
     have U:=St.sel U [0,1]
     exact St.wkL U 1 G (bo (.cons (.refl _) (.cons (show WkA (QA (Wk26 nn) (pwK t u1 nn k)) (QA (Wk26 nn) (hiW (pwK t u1 nn) (k+1))) from by rw [show hiW (pwK t u1 nn) (k+1)=pwK t u1 nn k from qz hb3]; exact .refl _) .nil)))
    ·refine wpIn_skip ?_
     refine aa ?_
     have U:=St.sel U [0,1]
     exact St.wkL U 1 G (bo (.cons (.refl _) (.cons (show WkA (lqA (Wk26 nn) k (hiW (pwK t u1 nn) k)) (QA (Wk26 nn) (hiW (pwK t u1 nn) (k+1))) from by rw [show hiW (pwK t u1 nn) (k+1)=hiW (pwK t u1 nn) k from qw (λ h=>Bool.noConfusion (xA hb3.symm h))]; exact lq_x (Gb hb3)) .nil)))
    refine aa ?_
    have U:=St.selL U [0,1]
    have U:St B (rndB B [3,37] (gb++List.range' lo (hi-lo)) Ws W3) 71 [(4,_),(5,_)] [O 4 3 _,O 5 37 _] a w:=U
    refine eH (sts:=[some (2,_),none]) (news:=[]) (sp:=[.v 51 _,.v 52 _,.sto 0]) [.g 0,.g 1] zk (eC λ _ _ h=>h) U (zl 0 G ty_3 (zv G (aN (vq 0 G) ab ((wi64 zo zo).trans (by omega:(_:Int)=((k+1:Nat):Int)))) (zS 1 G ty_3 o0))) zk zk zk (λ a w U=>?_)
    have U:St B (rndB B [3,37] (gb++List.range' lo (hi-lo)) Ws W3) 71 [(4,_),(5,_)] [O 4 3 _,O 5 37 _] a w:=U
    refine ap ?_
    have U:=St.wkL (A':=GpO (Wk26 nn) (pwK t u1 nn) (k+1) (k+1)) U 1 rfl (bo (.cons lq_s (.cons lq_s .nil)))
    have U:St B (rndB B [3,37] (gb++List.range' lo (hi-lo)) Ws W3) 71 [(4,_),(5,_)] [O 4 3 _,O 5 37 _] a w:=U
    have U:=St.selL U [0,1]
    exact ⟨(λ h=>by cases h),uO [0,1] U ⟨rfl,⟨rfl,trivial⟩⟩⟩
   ·have U:=zn [] [O 4 3 _,O 5 37 _] U
    obtain ⟨m,hm⟩:∃ m,cntW t.ps.length u1.length nn 0=m:=⟨_,rfl⟩
    rw [hm] at U hcp hcm
    have U:=St.wkL U 1 rfl (bo (.cons (lq_x zo) (.cons (lq_x zo) .nil)))
    refine ap ?_
    refine zt<|qb<|zg [η,η] [] [.adr 53 5 (.some 0) True,.v 54 _,.adr 55 5 (.some 4) True,.v 56 _,.v 57 _,.v 58 _,.v 9 _] [.o 6] U (zO 1 G dG (zL 0 1 0 G ax (zO 1 G dF (zL 2 1 1 G ax (zv G (bJ (D:=[U32]) (l:=[_,_]) (xs:=[.tmp 54,.tmp 56]) (cT zk) cO zk (n_ok zk) nq nq nq (.p (vq 1 G) (vq 3 G)) G G) (zQ G (nv [(loW (pwK t u1 nn) m),(hiW (pwK t u1 nn) m)] (.cons ⟨_,rfl⟩ (.cons ⟨_,rfl⟩ .nil)) nq) (.o (vq 4 G)) (zA 5 G o0))))))) (zz [(9,_)] [O 4 3 _,O 5 37 _] λ a w U=>?_)
    refine zt<|zg [η,η] [] [.v 59 _,.v 60 _] [.g 0,.o 1] U (zM 0 G (zv G (bX (vq 0 G) ab) o0)) (zz [(9,_),(60,_)] [O 4 3 _,O 5 37 _] λ a w U=>?_)
    refine aa<|aj U (zm 1 G) (λ hb4=>?_) (λ hb4=>?_)
    ·rw [nw] at hb4
     refine qb<|zg [some (2,_),some (3,_)] [] [.v 61 _,.v 62 _,.sto 0,.sto 1,.v 6 _] [.o 4] U (zv G (aU (qs:=[]) iG .nil) (zM 0 G (oc (iV G G G ab ty_3 (xA (b:=1) G G)) (zS 0 G dx (zA 1 G o0))))) (zz [(6,_)] [O 4 3 _,O 5 37 _] λ a w U=>?_)
     refine aa<|qg<|al ?_
     refine ao ?_ (bf (rs:=[.cell 4 3,.cell 5 37,.tmp 6]) G U (.cell (zm 0 G) ty_3 (.cell (zm 1 G) dx (.tmp (zm 0 G) .nil))) zd)
     have e:rowF t xs=(0,(rf0,rf0),4):=by rw [rowF,qw (by rw [hb0]; decide),qw (by rw [hb1]; decide),qz (by rw [hrM,hrP,hm]; exact hb4)]
     rw [e]; exact tu3w aL zg2_d.va (aZ (by rw [hb4]; rfl))
    ·rw [nw] at hb4
     refine qh<|zt<|go_drawV' [[],[],[1],[1,2],[],[4],[1,2,3,4,5],[1,2,3,4,5,6],[0,1,2,3,4,5,6],[0,1,2,3,4,5,6,7,8],[0,1,2,3,4,5,6,7,8,9]] (sts:=[some (8,λ ν=>_),some (9,λ ν=>_)]) (news:=[]) (sp:=[(λ ν=>.v 63 _),(λ ν=>.adr 64 5 (.some 0) True),(λ ν=>.v 65 _),(λ ν=>.v 66 (PinA (ν 3) ((QD (Wk26 nn) (loW (pwK t u1 nn) m)).and (SepAll [] (ν 3)))).va),(λ ν=>.adr 67 5 (.some 4) True),(λ ν=>.v 68 _),(λ ν=>.v 69 (PinA (ν 6) ((QD (Wk26 nn) (hiW (pwK t u1 nn) m)).and (SepAll [ν 3] (ν 6)))).va),(λ ν=>.v 70 _),(λ ν=>.sto 0),(λ ν=>.sto 1),(λ ν=>.v 6 _)]) [.o 10] ae U ⟨of_u λ ν=>ob_v rfl rfl (df (lz0 0 rfl) ty_3),⟨of_u λ ν=>ob_a rfl rfl (gk (lz0 1 rfl) dG),⟨of_u λ ν=>ob_v rfl rfl (aF 1 rfl zk trivial (lz0 1 rfl) (Sub.part 0 rfl rfl) ax),⟨mC (us:=λ ν=>[]) (xs:=[.tmp 65]) rfl rfl (pP (qe (gn hn12) zd)) wo y9 (.cons upA_qa.va .nil) (λ ν=>(.o (vq 2 rfl))) (λ _ _=>rfl) (λ ν=>iq),⟨of_u λ ν=>ob_a rfl rfl (gk (lz0 1 rfl) dF),⟨of_u λ ν=>ob_v rfl rfl (aF 4 rfl zk trivial (lz0 1 rfl) (Sub.part 1 rfl rfl) ax),⟨mC (us:=λ ν=>[ν 3]) (xs:=[.tmp 68]) rfl rfl (pP (qe (gn hn12) zd)) wo y9 (.cons upA_qa.va .nil) (λ ν=>(.o (vq 5 rfl))) (λ _ _=>rfl) (λ ν=>(nZ (pm wo) (vq 3 rfl) iq)),⟨of_u λ ν=>ob_v rfl rfl (aU (qs:=[(0,_),(1,_)]) iG (.cons ⟨rfl,vq 3 rfl,rfl⟩ (.cons ⟨rfl,vq 6 rfl,rfl⟩ .nil))),⟨of_u λ ν=>iV rfl rfl rfl (vq 0 rfl) ty_3 (xA (b:=1) rfl rfl),⟨of_u λ ν=>iV rfl rfl rfl (vq 7 rfl) dx (xA (b:=8) rfl rfl),⟨of_u λ ν=>ob_v rfl rfl (ac ab),trivial⟩⟩⟩⟩⟩⟩⟩⟩⟩⟩⟩ ⟨(λ ν ν' h=>rfl),⟨(λ ν ν' h=>rfl),⟨(λ ν ν' h=>rfl),⟨(λ ν ν' h=>by first | rfl | simp only [h 3 rfl]),⟨(λ ν ν' h=>rfl),⟨(λ ν ν' h=>rfl),⟨(λ ν ν' h=>by first | rfl | simp only [h 3 rfl,h 6 rfl]),⟨(λ ν ν' h=>by first | rfl | simp only [h 3 rfl,h 6 rfl]),⟨(λ ν ν' h=>by first | rfl | simp only [h 3 rfl,h 6 rfl]),⟨(λ ν ν' h=>by first | rfl | simp only [h 3 rfl,h 6 rfl]),⟨(λ ν ν' h=>by first | rfl | simp only [h 3 rfl,h 6 rfl]),trivial⟩⟩⟩⟩⟩⟩⟩⟩⟩⟩⟩ ⟨(λ ν ν' h=>by first | rfl | simp only [h 3 rfl,h 6 rfl]),⟨(λ ν ν' h=>by first | rfl | simp only [h 3 rfl,h 6 rfl]),trivial⟩⟩ zk zk (λ ν=>by kernel_rfl) (λ ν=>by kernel_rfl) (λ ν16 a w U=>?_)
     have U:=zn [(6,_)] [O 4 3 _,O 5 37 _] U
     refine aa<|qg<|ao ?_ (bf (rs:=[.cell 4 3,.cell 5 37,.tmp 6]) G U (.cell (zm 0 G) ty_3 (.cell (zm 1 G) dx (.tmp (zm 0 G) .nil))) zd)
     have e:rowF t xs=(((m:Nat):Int),(rfOf (loW (pwK t u1 nn) m),rfOf (hiW (pwK t u1 nn) m)),0):=by rw [rowF,qw (by rw [hb0]; decide),qw (by rw [hb1]; decide),qw (by rw [hrM,hrP,hm,hb4]; decide),hrM,hrP,hm]
     rw [e]; exact tu3w aL g2_pins.va aL
theorem fA {ops:Array Oper}{rest:List Oper}{o:Oper}{Q:Exit→Act→World→Prop}(hgd:o.guard=none)(s x:Operand)(t:TypeId)(ho:o.op=.call { callee:=.builtin .append,args := #[s,x],argTypes := #[t,t] })
  (e:TypeId) (i:TypeInfo) (z:Value) (ht:P.underlying t=some (.slice e)) (hi:P.info? e=some i) (hz:i.zero=some z) (hsize:i.size=1) (hby:i.bytes=8)
  (b:Addr) (hs:a.eval s=.slice (some b) 0 0) (ad:Addr) (m c:Nat) (news:List Value) (hx:a.eval x=.slice (some ad) m c) (hl:news.length=m) (hnews:∀ j u,news[j]?=some u→w.cell? (ad.add j)=some u) (hm:0<m) (hbytes:m*8≤140737488355328)
  (h:wpList P ops Q rest (a.put o.dst (.slice (some ⟨w.heap.size,0,none⟩) m (grownCap w m 0 e))) (w.drew.alloc (.cells (news.toArray++Builtin.zeroCells z.cells (grownCap w m 0 e-m)) e))):wpList P ops Q (o::rest) a w:=by
 refine wpList_plain hgd λ K hK=>?_
 have hr:=run_append_grow (P:=P) w t o.type e i z ht hi hz b 0 0 [] (by simp) (λ j v hj=>by simp at hj) ad m c news (by rw [hl,hsize,zK]) hnews zo zo (growslice_fits zo (by rw [hby]; omega))
 simp only [qO,vc] at hr
 unfold Oper.wp execOp
 simp only [ho,resolve,invoke,builtin,Sem.run_bind,Sem.run_pure,Result.andThen_ok,jE,qN,x7,hs,hx,hr]
 exact hK _ _ h
theorem rV:∃ i,Tryz.prog.info? 3=some i∧i.zero=some (.int .i64 0)∧i.size=1∧i.bytes=8:=by
 have h:(Tryz.prog.info? 3).map (λ i=>(i.zero,i.size,i.bytes))=some (some (.int .i64 0),1,8):=by kernel_rfl
 cases hi:Tryz.prog.info? 3 with
 | none=>rw [hi] at h; cases h
 | some i =>
  rw [hi] at h
  have h2:(i.zero,i.size,i.bytes)=(some (.int .i64 0),1,8):=Option.some.inj h
  injection h2 with h3 h4
  injection h4 with h5 h6
  exact ⟨i,rfl,h3,h5,h6⟩
set_option maxHeartbeats 2000000 in
theorem pT (b off n c:Nat)(zs:List Int)(w:World)(hn:n=zs.length)(h0:0<n)(hbig:n*8≤140737488355328)(hc:∀ j (h:j<zs.length),w.cell? ⟨b,off+j,none⟩=some (.int .i64 zs[j])) :
  Calls Tryz.prog 171 #[.slice (some ⟨b,off,none⟩) n c] w λ e w'=>∃ g c ext,e=.returned (.slice (some ⟨g,0,none⟩) n c)∧w.heap.size≤g∧n≤c∧c≤maxLen∧w'.heap[g]?=some (.cells ((zs.map λ (x:Int)=>Value.int .i64 x)++ext).toArray 3 (0,0))∧Grow w w':=by
 have t22:Tryz.prog.underlying 31=some (.slice 3):=by kernel_rfl
 obtain ⟨i0,hi,hz0,hz1,hz2⟩:=rV
 have q22:∀ (w:World) (a:Option Addr) (n c n' c':Nat),(binOp .eql 31 (.slice a n c) (.slice none n' c')).run Tryz.prog w=.ok (.bool a.isNone) w:=λ w a n c n' c'=>Lib.run_eql_slice_nil w _ _ a n c n' c' t22
 have u22:∀ w,Sem.run Tryz.prog (underlying 31) w=.ok (TypeDesc.slice 3) w:=run_underlying t22
 have A:Aside (∀ j (h:j<zs.length),w.cell? ⟨b,off+j,none⟩=some (.int .i64 zs[j])):=hc
 have HN:Aside (n=zs.length):=hn
 clear hc hn
 go_enter Tryz.func171,Tryz.ntmps171
 go_wp2_with (at_builtin; refine fA rfl _ _ 31 rfl 3 i0 (.int .i64 0) t22 hi hz0 hz1 hz2 _ rfl ⟨b,off,none⟩ n c (zs.map λ (x:Int)=>Value.int .i64 x) rfl ?qc1 ?qc2 h0 hbig ?_)
 case qc1=>simp; exact HN.out.symm
 case qc2 =>
  intro j u hj
  have hjn:j<zs.length:=by
   have:=(List.getElem?_eq_some_iff.1 hj).1
   simpa using this
  rw [Addr.add_lit]
  refine Lib.cell?_alloc_some _ ?_
  rw [A.out j hjn]
  simpa [hjn] using hj
 go_wp2
 go_ret
 refine ⟨_,_,(Builtin.zeroCells (Value.int .i64 0).cells (grownCap (w.alloc (.cells #[] 3)) n 0 3-n)).toList,rfl,by omega,grownCap_ge _ _ _ _,grownCap_le_maxLen _ _ _ _ (by unfold maxLen; omega),?_,?_⟩
 ·have e:(w.alloc (.cells #[] 3)).heap.size=w.heap.size+1:=by simp
  rw [← e,← kX,Array.toArray_toList]
  exact heap_alloc_new _ _
 ·exact ((Grow.alloc w _).trans (Grow.alloc _ _)).trans (Grow.drew _)
theorem iA {B:Nat}{cs:List Value}{w:World}:∀ {l:List Int},(cat (l.map InA)).p B cs w→cs=l.map λ (n:Int)=>Value.int .i64 n
 | [],⟨ps,e,h⟩=>by cases h; exact e
 | n::l,⟨ps,e,h⟩=>by
  cases h with
  | @cons _ c _ ps' h1 h2 =>
   have h3:=iA (B:=B) (w:=w) (l:=l) ⟨ps',rfl,h2⟩
   have h1':c=[.int .i64 n]:=h1
   rw [e,qN,← h3,h1']; rfl
theorem Cq (l:List Int)(h0:0<l.length)(hs:l.length≤1000):CnI Tryz.prog 171 [(SlA 3 [] (l.map InA)).va] (λ b=>(SlP (λ g=>b≤g) 3 [] (l.map InA)).va):=by
 refine ⟨gc Tryz.func171 zk zk,λ B w args hB ha=>?_⟩
 obtain ⟨v,rfl,cs,⟨hD,A,c,ds,rfl,h1,h2,h3,h4⟩,hv⟩:=ha.one
 have hv':v=.slice A l.length c:=by rw [hv,← qc (f:=InA)]; rfl
 subst hv'
 obtain ⟨b,o,rfl,_,_,h5⟩:=h4 (by rw [qc]; exact h0)
 have hds:=iA h3
 refine (pT b o l.length c l w G h0 zo (λ j hj=>h5 j _ (by rw [hds]; simp [hj]))).mono λ e w' ⟨g,c',ext,he,h6,h7,h8,h9,hg⟩=>⟨_,he,⟨[.slice (some ⟨g,0,none⟩) l.length c'],⟨⟨hD,_,c',_,by rw [qc],by rw [qc]; exact h7,h8,cV l,λ _=>⟨g,0,rfl,(Array.getElem?_eq_some_iff.1 h9).1,.inr ⟨_,_,h9⟩,λ j u hu=>?_⟩⟩,λ u hu g' hg'=>?_⟩,rfl⟩,hg⟩
 ·rw [qO,cell_of_row w' g j _ 3 _ h9]
  have hj:=(List.getElem?_eq_some_iff.1 hu).1
  simp only [List.getElem?_toArray]
  rw [List.getElem?_append_left hj]
  exact hu
 ·obtain rfl:=qn.1 hu
  have:g=g':=by simpa [blk] using hg'
  omega
def SlW (l:List Int):As where
 n:=1
 ag:=false
 p B cs w:=(SlA 3 [] (l.map InA)).p B cs w∧∀ v∈cs,∀ g,blk v=some g→B≤g
 deps:=[3]
 len:=λ B cs w h=>(SlA 3 [] (l.map InA)).len B cs w h.1
 one:=λ B cs w h=>(SlA 3 [] (l.map InA)).one B cs w h.1
 ag1:=λ _=>rfl
 cg:=λ B cs w w' hg h=>⟨(SlA 3 [] (l.map InA)).cg B cs w w' hg h.1,h.2⟩
 wr:=λ B cs w w' g c T fz h1 h2 h3 h4 h=>⟨(SlA 3 [] (l.map InA)).wr B cs w w' g c T fz h1 h2 h3 h4 h.1,h.2⟩
theorem slW_A {l:List Int}:WkA (SlW l) (SlA 3 [] (l.map InA)):=⟨rfl,rfl,λ _ _ _ h=>h.1⟩
theorem BL {l:List Int}:FreeA (SlW l) (SlW l):=⟨rfl,rfl,λ B B' cs w hB hp=>by
 obtain ⟨⟨hD,A,c,ds,rfl,h1,h2,h3,h4⟩,h5⟩:=hp
 refine ⟨⟨hD,A,c,ds,rfl,h1,h2,by rw [iA h3]; exact cV l,λ hn=>?_⟩,λ v hv g hg=>qe hB (h5 v hv g hg)⟩
 obtain ⟨b,o,rfl,h6,h7,h8⟩:=h4 hn
 refine ⟨b,o,rfl,h6,?_,h8⟩
 rcases h7 with h7 | h7
 ·have:=h5 _ (qn.2 rfl) b rfl
  omega
 ·exact .inr h7⟩
theorem FL:WkA (EqA (.slice none 0 0)) (SlW []):=⟨rfl,rfl,λ B cs w h=>by
 obtain ⟨rfl,_⟩:=h
 refine ⟨⟨(λ A hA=>by cases hA),none,0,[],rfl,qi _,zc _,⟨[],rfl,.nil⟩,λ h=>absurd h zd⟩,λ v hv g hg=>?_⟩
 obtain rfl:=qn.1 hv
 cases hg⟩
theorem ik:Str Tryz.prog 91 [EqA (.slice none 0 0),cat [NilI,NilI],NumA .i64 0] :=
 Str.of (z:=.agg #[.slice none 0 0,.bool false,.slice none 0 0,.bool false,.slice none 0 0,.int .i64 0]) zk Tryz.underlying91 zk λ B w=>⟨[[.slice none 0 0],[.bool false,.slice none 0 0,.bool false,.slice none 0 0],[.int .i64 0]],rfl,.cons ⟨rfl,rfl⟩ (.cons ⟨[[.bool false,.slice none 0 0],[.bool false,.slice none 0 0]],rfl,.cons ⟨[[.bool false],[.slice none 0 0]],rfl,.cons rfl (.cons rfl .nil)⟩ (.cons ⟨[[.bool false],[.slice none 0 0]],rfl,.cons rfl (.cons rfl .nil)⟩ .nil)⟩ (.cons rfl .nil))⟩
structure RCh where
 l:List Int
 pw:RF
 c:Int
def ch0:RCh:=⟨[],rf0,0⟩
def ChD (x:RCh):As:=cat [SlW x.l,RFD x.pw,InA x.c]
abbrev BsD (r:RCh × Int):VA:=Tu [(ChD r.1).va,In r.2]
theorem BR {r:RCh × Int}:Free (BsD r) (BsD r):=pG (.cons (bF (.cons BL (.cons BN (.cons (ce _ _) .nil)))).va (.cons (ce _ _).va .nil))
theorem zch_d:WkA (cat [EqA (.slice none 0 0),cat [NilI,NilI],NumA .i64 0]) (ChD ch0):=bo (.cons FL (.cons zf_rfd (.cons (.refl _) .nil)))
def bsW (f:Nat→WyQ):Nat→WyQ
 | 0=>⟨[],0,0,0⟩
 | k+1=>if ((((k:Nat):Int)==0) || betF (f k) (bsW f k))=true then f k else bsW f k
theorem DZ {f:Nat→WyQ}:∀ {k},k≠0→∃ j,j<k∧bsW f k=f j
 | 0,h=>absurd rfl h
 | k+1,_=>by
  unfold bsW
  by_cases h:((((k:Nat):Int)==0) || betF (f k) (bsW f k))=true
  ·rw [qz h]; exact ⟨k,Nat.lt_succ_self k,rfl⟩
  ·rw [qw h]
   have hk:k≠0:=λ e=>by subst e; simp at h
   obtain ⟨j,h1,h2⟩:=DZ (f:=f) hk
   exact ⟨j,j2 h1,h2⟩
abbrev BeO (q:Nat→Prop)(b k:Nat)(x:WyQ):As:=cat [optA k (EqA (.slice none 0 0)) (SlP q 3 [] (x.l.map InA)) ⟨rfl,rfl⟩,optA k (RFA rf0) (QA b x.pw) ⟨rfl,rfl⟩,optA k (RFA rf0) (QA b x.aw) ⟨rfl,rfl⟩,optA k (NumA .i64 0) (InA x.c) ⟨rfl,rfl⟩]
theorem be_0 {q:Nat→Prop}{b:Nat}{x:WyQ}:WkA WyZ (BeO q b 0 x):=bo (.cons vZ (.cons vZ (.cons vZ (.cons vZ .nil))))
theorem be_s {q:Nat→Prop}{b k:Nat}{x:WyQ}:WkA (WyP q b x) (BeO q b (k+1) x):=bo (.cons (vY (jc k)) (.cons (vY (jc k)) (.cons (vY (jc k)) (.cons (vY (jc k)) .nil))))
theorem be_x {q:Nat→Prop}{b k:Nat}{x:WyQ}(h:k≠0):WkA (BeO q b k x) (WyP q b x):=bo (.cons (vX h) (.cons (vX h) (.cons (vX h) (.cons (vX h) .nil))))
theorem be_k {q:Nat→Prop}{b k:Nat}{x:WyQ}(h:k≠0):WkA (BeO q b k x) (BeO q b (k+1) x):=(be_x h).trans be_s
theorem be_st {q:Nat→Prop}{b k lo hi:Nat}{x:WyQ}(hq:∀ g,q g→¬ (lo≤g∧g<hi)):StVA lo hi [3] [30,31] (BeO q b k x):=Aq λ A hA=>by
 simp only [qt,z5,or_false] at hA
 rcases hA with rfl | rfl | rfl | rfl
 ·exact Ap (dA zk) (λ _=>Ao zd (Bv _) hq)
 ·exact dA zk
 ·exact dA zk
 ·exact dA zk
section
open Rg
variable {P:Program} {Q:Exit→Act→World→Prop} {R:Rg} {B i:Nat} {w0:Bs}
theorem r_nilO {x:Operand}{S E:TypeId}{k:Nat}{q:Nat→Prop}{l:List Int}{h:(SlP q 3 [] (l.map InA)).n=(EqA (.slice none 0 0)).n∧(SlP q 3 [] (l.map InA)).ag=(EqA (.slice none 0 0)).ag}{yt:TypeId}(hS:P.underlying S=some (.slice E))(hx:Has R B w0 i x (optA k (EqA (.slice none 0 0)) (SlP q 3 [] (l.map InA)) h).va)(hl:k≠0→0<l.length):Wv P Q R B w0 i (.binOp .eql S x (.const (.slice none 0 0)) yt) (Bo (((k:Nat):Int)==0)) :=
 bj λ d T ps af gd a w av=>by
  obtain ⟨cs,hp,hv⟩:=hx a w av
  have e2:a.eval (.const (.slice none 0 0))=.slice none 0 0:=rfl
  rcases hp with ⟨hk,hp⟩ | ⟨hk,hp,_⟩
  ·obtain ⟨rfl,_⟩:=hp
   have e1:a.eval x=.slice none 0 0:=hv
   have hq:=Lib.run_eql_slice_nil w S E none 0 0 0 0 hS
   have hg:(eqGuard .eql S x (.const (.slice none 0 0)) (.slice none 0 0) (.slice none 0 0)).run P w=.ok () w:=by unfold eqGuard; split <;> rfl
   refine ⟨.bool true,w,?_,Grow.refl w,by subst hk; exact cZ _ _ _⟩
   simp only [execOp,e1,e2,Sem.run_bind,hg,hq,Result.andThen_ok,Sem.run_pure]
   rfl
  ·obtain ⟨_,A,c,ds,rfl,_,_,_,h4⟩:=hp
   obtain ⟨b,o,rfl,_⟩:=h4 (by rw [qc]; exact hl hk)
   have e1:a.eval x=.slice (some ⟨b,o,none⟩) (l.map InA).length c:=hv
   have hq:=Lib.run_eql_slice_nil w S E (some ⟨b,o,none⟩) (l.map InA).length c 0 0 hS
   have hg:(eqGuard .eql S x (.const (.slice none 0 0)) (.slice (some ⟨b,o,none⟩) (l.map InA).length c) (.slice none 0 0)).run P w=.ok () w:=by unfold eqGuard; split <;> rfl
   refine ⟨.bool false,w,?_,Grow.refl w,?_⟩
   ·simp only [execOp,e1,e2,Sem.run_bind,hg,hq,Result.andThen_ok,Sem.run_pure]
    rfl
   ·rw [show (((k:Nat):Int)==0)=false from by simpa using hk]
    exact cZ _ _ _
theorem Fe {f':FuncId}{pre:List VA}{mk:Nat→VA}{A:VA}{xs:List Operand}{at_:Array TypeId}(hc:CnI P f' pre mk)(hx:HasL R B w0 i xs pre)(hm:∀ b,w0.w.heap.size≤b→Wk (mk b) A):Wv P Q R B w0 i (.call ⟨.value (.func f'),xs.toArray,at_⟩) A:=by
 intro d T' ps af gd a w av K hK
 obtain ⟨⟨fn,hf,hn,hb⟩,hcall⟩:=hc
 have hrun:(execOp a.eval ⟨some d,.call ⟨.value (.func f'),xs.toArray,at_⟩,T',ps,af,gd⟩).run P w=.ok (.enter f' (xs.map a.eval).toArray) w:=by
  have e1:a.eval (.func f')=.func (.func f') #[] #[]:=rfl
  simp only [execOp,resolve,e1,Deferred.ofValue,Sem.run_bind,Sem.run_pure,Result.andThen_ok,invoke,bk hf hn hb]
  simp
 unfold Oper.wp
 rw [hrun]
 refine (hcall B w _ (Av.bw av) (hx.all av)).mono λ e w' ⟨v,he,h1,hg⟩=>?_
 subst he
 exact hK v w' hg (hm _ av.base.size _ _ _ h1)
end
theorem all_nil (t:RTk):CnI Tryz.prog 24 [(TkO t).va,EqV (.slice none 0 0)] (λ b=>ItB b 105 (alC t []) alDs (al_D t [])) :=
 ⟨(Hq t []).1,λ B w args hB ha=>(Hq t []).2 B w args hB (by
  obtain ⟨v1,v2,rfl,h1,h2⟩:=All2.two ha
  have h2':v2=.slice none 0 0:=h2
  subst h2'
  exact .cons h1 (.cons ⟨_,⟨trivial,(λ A hA=>by cases hA),none,0,[],rfl,qi _,zc _,⟨[],rfl,.nil⟩,λ h=>absurd h zd⟩,rfl⟩ .nil))⟩
abbrev WyW (b:Nat)(x:WyQ):As:=cat [SlW x.l,QA b x.pw,QA b x.aw,InA x.c]
theorem E7 {q:Nat→Prop}{b B:Nat}{x:WyQ}(hq:∀ g,q g→B≤g)(h:(WyP q b x).p B cs w):(WyW b x).p B cs w:=by
 obtain ⟨ps,rfl,h2⟩:=h
 refine ⟨ps,rfl,?_⟩
 cases h2 with
 | cons h1 h2=>exact .cons ⟨h1.1,λ v hv g hg=>hq g (h1.2 v hv g hg)⟩ h2
def bstN (t:RTk):WyQ:=bsW (λ k=>wayW t (exW t.ps.length [] (t.sp.length-1) 0 k)) (cntW t.ps.length 0 (t.sp.length-1) 0)
def bestF (t:RTk):RCh × Int:=if (ckF t != 0)=true then (ch0,ckF t) else if longQ (bstN t).pw=true then (ch0,4) else (⟨(bstN t).l,rfOf (bstN t).pw,(bstN t).c⟩,0)
theorem wb {x:Rat}:[x].any longQ=longQ x:=by simp
set_option maxHeartbeats 2000000 in
theorem best_c (t:RTk):Cn Tryz.prog 89 [(TkA t).va] (BsD (bestF t)):=by
 refine Cn.introR Tryz.func89 G zk nq (.cons (u3 t).va .nil) BR (λ B w0 a hB0 hN0 U=>?_)
 have U:=zn [(0,(TkO t).va)] [] U
 refine qb<|zg [] [⟨1,30,ptrH,some 0,_,none⟩,⟨2,91,ptrH,some 1,_,none⟩] [.alc 0,.alc 1,.v 3 _] [.o 2] U (zW 0 G (zY G (Str.zero ik) (zv G (ac ab) o0))) (zz [(3,_)] [O 1 30 _,O 2 91 _] λ a w U=>?_)
 refine zt<|qb<|zg [η,η] [] [.v 8 _,.v 9 _,.v 4 _] [.g 0,.o 2] U (zl 0 G cN (zQ G ((rq t).wk (.cons tko_A.va .nil)) (.o (vq 0 G)) (zA 1 G o0))) (zz [(3,_),(4,_)] [O 1 30 _,O 2 91 _] λ a w U=>?_)
 refine zt<|zg [η,η] [] [.v 10 _,.v 11 _] [.g 0,.g 1,.o 1] U (zM 1 G (zv G (bX (vq 0 G) ab) o0)) (zz [(3,_),(4,_),(11,_)] [O 1 30 _,O 2 91 _] λ a w U=>?_)
 refine aa<|aj U (zm 2 G) (λ hb0=>?_) (λ hb0=>?_)
 ·refine qb<|zg [η,some (2,_)] [] [.v 12 _,.v 13 _,.sto 1,.v 3 _] [.o 3] U (zv G (aU (qs:=[]) ik .nil) (zM 1 G (zS 0 G oO (zA 1 G o0)))) (zz [(3,_)] [O 1 30 _,O 2 91 _] λ a w U=>?_)
  refine aa<|qg<|al ?_
  refine ao ?_ (bf (rs:=[.cell 2 91,.tmp 3]) G U (.cell (zm 1 G) oO (.tmp (zm 0 G) .nil)) zd)
  rw [show bestF t=(ch0,ckF t) from qz hb0]; exact tu2w zch_d.va aL
 ·have hck:ckF t=0:=by simpa using hb0
  obtain ⟨hs2,hs13,hp1,_⟩:=hd_b (fv hck).1
  obtain ⟨nn,hnn⟩:∃ nn,t.sp.length=nn+1:=⟨t.sp.length-1,by omega⟩
  have hn12:nn≤12:=by omega
  have hcp:0<cntW t.ps.length 0 nn 0:=dk zo _ _
  have hbN:bstN t=bsW (λ k=>wayW t (exW t.ps.length [] nn 0 k)) (cntW t.ps.length 0 nn 0):=by unfold bstN; rw [hnn]; rfl
  refine qh<|zt<|zg [η,η] [⟨5,76,ptrH,some 0,_,none⟩] [.alc 2] [.g 0] U (zY G (Str.zero iF) o0) (zz [(3,_)] [O 1 30 _,O 2 91 _,O 5 76 _] λ a w U=>?_)
  refine zt<|qb ?_
  obtain ⟨q2,U⟩:=St.nm U 1 rfl
  obtain ⟨q5,U⟩:=St.nm U 2 rfl
  refine zg [η,η,η] [] [.v 14 _,.v 15 _] [.g 0,.g 1,.g 2,.o 1] U (zl 0 G cN (zv G (uY [(2,q2),(5,q5)] (all_nil t) (.cons (vq 0 G) (.cons bc .nil)) (.cons (gq 1 G) (lz0 1 G) (.cons (gq 0 G) (lz0 2 G) .nil))) o0)) (zz [(5,_),(2,_),(3,_),(15,_)] [O 1 30 _,O 2 91 _,O 5 76 _] λ a w U=>?_)
  obtain ⟨gb,U,hds⟩:=St.itm (ps:=[(2,q2),(5,q5)]) 3 [1,0] U rfl ⟨rfl,rfl,trivial⟩
  have U:=zn [(5,_),(2,_),(3,_),(15,_)] [O 1 30 _,O 2 91 _,O 5 76 _] U
  refine aa<|qj ?_
  have U:=St.selL U [1,2]
  refine od (k0:=3) (gb:=gb) (Dd:=[30,31,112,113,U32,28,115]) (Db:=[91,76]) (Tp:=[3]) [⟨2,91,ptrH,cat [EqA (.slice none 0 0),cat [NilI,NilI],NumA .i64 0]⟩,⟨5,76,ptrH,WyZ⟩] (λ hi k=>[⟨2,91,ptrH,cat [EqA (.slice none 0 0),cat [NilI,NilI],NumA .i64 0]⟩,⟨5,76,ptrH,BeO (λ g=>hi≤g∧B≤g) (Wk26 nn) k (bsW (λ k=>wayW t (exW t.ps.length [] nn 0 k)) k)⟩]) none (λ _=>none) U hB0 hN0 rfl (A4 hck hnn ⟨zc _,λ x hx=>by cases hx⟩ gb) (M:=cntW t.ps.length 0 nn 0) (Y:=λ k=>[(WyX t nn (exW t.ps.length [] nn 0 k)).va]) (λ h=>by cases h) zk [] zk trivial (λ hi k=>by kernel_rfl) (λ lo hi k hk hlo hw=>stVL ⟨dA zk,be_st (λ g hg h=>by omega),trivial⟩) (λ _=>by kernel_rfl) zk [2,5] (λ _ k=>by kernel_rfl) zk zk hds (λ L hL=>by cases hL) (λ _ L hL=>by cases hL) (λ _=>rfl) zd zk (λ hi Γ a W hhi h=>St.wkL h 1 rfl be_0) hcp (λ l lo hi k a1 Ws hk hlo1 hlo2 hhi hBs hct U=>?_) (λ hi a w U=>?_) (λ L hL=>by cases hL) (λ _ L hL=>by cases hL)
  ·obtain ⟨a0,rfl⟩:∃ x,x=a:=⟨_,rfl⟩; have hlw:0<(wayW t (exW t.ps.length [] nn 0 k)).l.length:=by show 0<(List.map _ _).length; rw [qc,dM]; omega
   have U:St B (rndB B [91,76] (gb++List.range' lo (hi-lo)) Ws Ws) 46 [(16,_),(2,_),(5,_)] [⟨2,91,ptrH,cat [EqA (.slice none 0 0),cat [NilI,NilI],NumA .i64 0]⟩,⟨5,76,ptrH,BeO (λ g=>hi≤g∧B≤g) (Wk26 nn) k (bsW (λ k=>wayW t (exW t.ps.length [] nn 0 k)) k)⟩] a1 Ws:=U
   refine rY 0 [0,1,2] U G G G zk (eC λ _ _ h=>h) (Str.zero iF) G nE G zd G zk zk (λ a w U=>?_)
   have U:St B (rndB B [91,76] (gb++List.range' lo (hi-lo)) Ws Ws) 46 [(16,_),(2,_),(5,_)] [O 2 91 _,O 5 76 _,O 6 76 _] a w:=U
   refine aa<|⟨U.base,λ W3 hbg=>?_⟩
   have hlw2:(wayW t (exW t.ps.length [] nn 0 k)).l.length≤1000:=by show (List.map _ _).length≤1000; rw [qc,dM]; omega
   have hlb:k≠0→0<(bsW (λ k=>wayW t (exW t.ps.length [] nn 0 k)) k).l.length:=λ hk0=>by
    obtain ⟨j,_,hj⟩:=DZ (f:=(λ k=>wayW t (exW t.ps.length [] nn 0 k))) hk0
    rw [hj]; show 0<(List.map _ _).length; rw [qc,dM]; omega
   have hW3a:=U.base.size
   have hW3b:W3.heap.size=w.heap.size:=by obtain ⟨_,_,_,he⟩:=hbg; rw [he,World.putObj_size]
   have hW3:hi≤W3.heap.size:=by rw [hW3b]; exact qe hhi hW3a
   have hB3:B≤W3.heap.size:=by rw [hW3b]; exact qe hBs hW3a
   have U:=St.begin U (qi _) hBs hbg
   refine wpIn_block ?_
   refine wpIn_seq ?_
   refine eH (sts:=[none,none,none]) (news:=[]) (sp:=[.adr 17 5 (.some 0) True,.v 18 _,.v 19 _,.v 20 _,.f 21 _,.f 22 _,.f 23 _,.v 24 _]) [.g 0,.g 1,.g 2,.o 7] zk (eC λ _ _ h=>h) U (zO 1 G fa (zL 0 1 0 G fk (zv G (r_nilO Tryz.underlying31 (vq 1 G) hlb) (zv G (ai (vq 2 G)) (zB 3 G (λ hg=>df (lz0 2 G) nE) (zB 3 G (λ hg=>df (lz0 1 G) nE) (zB 3 G (λ hg=>be ((CB (gn hn12) _ _).wk (.cons aL (.cons ((be_x (k_ne hg)).trans Hv).va .nil))) (.p (ak (vq 4 G) hg) (ak (vq 5 G) hg))) (zv G (r_or (vq 3 G) (vq 6 G)) o0)))))))) zk zk zk (λ a w U=>?_)
   have U:St B (rndB B [91,76] (gb++List.range' lo (hi-lo)) Ws W3) 46 [(16,_),(2,_),(5,_),(24,_)] [O 2 91 _,O 5 76 _,O 6 76 _] a w:=U
   refine aa<|gL (λ a w =>  St B (rndB B [91,76] (gb++List.range' lo (hi-lo)) Ws W3) 46 [(2,EqV (a0.eval (.tmp 2))),(5,EqV (a0.eval (.tmp 5)))] [⟨2,91,ptrH,cat [EqA (.slice none 0 0),cat [NilI,NilI],NumA .i64 0]⟩,⟨5,76,ptrH,BeO (λ g=>hi≤g∧B≤g) (Wk26 nn) (k+1) (bsW (λ k=>wayW t (exW t.ps.length [] nn 0 k)) (k+1))⟩,⟨6,76,ptrH,WyX t nn (exW t.ps.length [] nn 0 k)⟩] a w) U (zm 3 G) (λ hb1=>?_) (λ hb1=>?_) (λ a w U=>?_)
   ·refine wpIn_seq ?_
    refine eH (sts:=[none,none,some (4,_)]) (news:=[]) (sp:=[.adr 25 6 (.some 0) True,.v 26 _,.v 27 _,.adr 28 6 (.some 0) True,.sto 2]) [.g 0,.g 1,.g 2] zk (eC λ _ _ h=>h) U (zO 2 G fa (zL 0 2 0 G fk (zv G (Fe (A:=(SlP (λ g=>hi≤g∧B≤g) 3 [] ((wayW t (exW t.ps.length [] nn 0 k)).l.map InA)).va) (Cq _ hlw hlw2) (.o (vq 1 G)) (λ b hb=>(Aw (λ g hg=>⟨qe hW3 (qe hb hg),qe hB3 (qe hb hg)⟩)).va)) (zO 2 G fa (oc (cJ 3 G G G G zk (vq 2 G) fk (Put.part 0 G G G)) o0))))) zk zk zk (λ a w U=>?_)
    have U:St B (rndB B [91,76] (gb++List.range' lo (hi-lo)) Ws W3) 46 [(16,_),(2,_),(5,_)] [O 2 91 _,O 5 76 _,O 6 76 _] a w:=U
    refine aa<|eH (sts:=[none,some (1,_),none]) (news:=[]) (sp:=[.v 29 _,.sto 1]) [.g 0,.g 1,.g 2] zk (eC λ _ _ h=>h) U (zl 2 G nE (zS 0 G nE o0)) zk zk zk (λ a w U=>?_)
    have U:St B (rndB B [91,76] (gb++List.range' lo (hi-lo)) Ws W3) 46 [(16,_),(2,_),(5,_)] [O 2 91 _,O 5 76 _,O 6 76 _] a w:=U
    refine aa ?_
    have U:=St.sel U [1,2]
    have U:=St.wkL U 2 rfl Hv
    exact St.wkL U 1 G (by rw [show bsW (λ k=>wayW t (exW t.ps.length [] nn 0 k)) (k+1)=wayW t (exW t.ps.length [] nn 0 k) from qz hb1]; exact be_s)
   ·refine wpIn_skip ?_
    refine aa ?_
    have U:=St.sel U [1,2]
    exact St.wkL U 1 G (by rw [show bsW (λ k=>wayW t (exW t.ps.length [] nn 0 k)) (k+1)=bsW (λ k=>wayW t (exW t.ps.length [] nn 0 k)) k from qw (λ h=>Bool.noConfusion (xA hb1.symm h))]; exact be_k (Gb hb1))
   refine ap ?_
   have U:=St.selL U [0,1]
   exact ⟨(λ h=>by cases h),uO [0,1] U ⟨rfl,⟨rfl,trivial⟩⟩⟩
  ·have U:=zn [] [O 2 91 _,O 5 76 _] U
   obtain ⟨m,hm⟩:∃ m,cntW t.ps.length 0 nn 0=m:=⟨_,rfl⟩
   rw [hm] at U hcp
   have U:=St.wkL U 1 rfl (be_x zo)
   have U:=St.upL U 1 rfl (λ cs h=>E7 (λ g hg=>hg.2) h)
   refine ap ?_
   refine zt<|qb<|zg [η,η] [] [.adr 30 5 (.some 1) True,.v 31 _,.v 32 _,.v 33 _,.v 7 _] [.o 4] U (zO 1 G el (zL 0 1 1 G ax (zv G (bJ (D:=[U32]) (l:=[_]) (xs:=[.tmp 31]) (cT zk) cO zk (n_ok zk) nq nq nq (.o (vq 1 G)) G G) (zQ G (nv [(bsW (λ k=>wayW t (exW t.ps.length [] nn 0 k)) m).pw] (.cons ⟨_,rfl⟩ .nil) nq) (.o (vq 2 G)) (zA 3 G o0))))) (zz [(7,_)] [O 2 91 _,O 5 76 _] λ a w U=>?_)
   refine zt<|zg [η,η] [] [.v 34 _,.v 35 _] [.g 0,.o 1] U (zM 0 G (zv G (bX (vq 0 G) ab) o0)) (zz [(7,_),(35,_)] [O 2 91 _,O 5 76 _] λ a w U=>?_)
   refine aa<|aj U (zm 1 G) (λ hb2=>?_) (λ hb2=>?_)
   ·rw [nw,wb] at hb2
    refine qb<|zg [some (2,_),η] [] [.v 36 _,.v 37 _,.sto 0,.v 3 _] [.o 3] U (zv G (aU (qs:=[]) ik .nil) (zM 0 G (zS 0 G oO (zA 1 G o0)))) (zz [(3,_)] [O 2 91 _,O 5 76 _] λ a w U=>?_)
    refine aa<|qg<|al ?_
    refine ao ?_ (bf (rs:=[.cell 2 91,.tmp 3]) G U (.cell (zm 0 G) oO (.tmp (zm 0 G) .nil)) zd)
    have e:bestF t=(ch0,4):=by rw [bestF,qw (by rw [hb0]; decide),qz (by rw [hbN,hm]; exact hb2)]
    rw [e]; exact tu2w zch_d.va (aZ (by rw [wb,hb2]; rfl))
   ·rw [nw,wb] at hb2
    refine qh<|zt<|zgd [[],[0],[],[2],[2,3],[],[5],[0,1,2,3,4,5,6],[0,1,2,3,4,5,6,7],[0,1,2,3,4,5,6,7,8]] [some (8,_),none] [] [.adr 38 5 (.some 0) True,.v 39 _,.adr 40 5 (.some 1) True,.v 41 _,.v 42 _,.adr 43 5 (.some 9) True,.v 44 _,.v 45 _,.sto 0,.v 3 _] [.o 9] ae U (zO 1 G fa (zL 0 1 0 G fk (zO 1 G el (zL 2 1 1 G ax (zQ G (pP (qe (gn hn12) zd)) (.o (vq 3 G)) (zO 1 G fX (zL 5 1 3 G ty_3 (zv G (aU (qs:=[(0,_),(1,_),(2,_)]) ik (.cons ⟨rfl,vq 1 rfl,rfl⟩ (.cons ⟨rfl,vq 4 rfl,rfl⟩ (.cons ⟨rfl,vq 6 rfl,rfl⟩ .nil)))) (zS 7 G oO (zv G (ac ab) o0)))))))))) zk zk zk zk (zz [(3,_)] [O 2 91 _,O 5 76 _] λ a w U=>?_)
    refine aa<|qg<|ao ?_ (bf (rs:=[.cell 2 91,.tmp 3]) G U (.cell (zm 0 G) oO (.tmp (zm 0 G) .nil)) zd)
    have e:bestF t=(⟨(bsW (λ k=>wayW t (exW t.ps.length [] nn 0 k)) m).l,rfOf (bsW (λ k=>wayW t (exW t.ps.length [] nn 0 k)) m).pw,(bsW (λ k=>wayW t (exW t.ps.length [] nn 0 k)) m).c⟩,0):=by rw [bestF,qw (by rw [hb0]; decide),qw (by rw [hbN,hm,hb2]; decide),hbN,hm]
    rw [e]; exact tu2w (bo (.cons (.refl _) (.cons qd_rfd (.cons (.refl _) .nil)))).va aL
deriving instance DecidableEq for RPt
deriving instance DecidableEq for RTk
def PtT (x:RPt):As:=cat [EqA (.string x.nm),RET x.e,InA x.c]
theorem Ea {x:RPt}:WkA (PtT x) (PtA x):=bo (.cons (.refl _) (.cons E9 (.cons (.refl _) .nil)))
theorem s9:FreeA (EqA v) (EqA v):=⟨rfl,rfl,λ _ _ _ _ _ h=>h⟩
theorem BP (x:RPt):FreeA (PtT x) (PtT x):=bF (.cons s9 (.cons (BO _) (.cons (ce _ _) .nil)))
theorem y8:FreeA (REA ⟨0,rf0,rf0⟩) (REA ⟨0,rf0,rf0⟩):=bF (.cons (ce _ _) (.cons oe (.cons oe .nil)))
theorem ya:FreeA (PtA ⟨⟨#[]⟩,⟨0,rf0,rf0⟩,7777⟩) (PtA ⟨⟨#[]⟩,⟨0,rf0,rf0⟩,7777⟩):=bF (.cons s9 (.cons y8 (.cons (ce _ _) .nil)))
theorem tu:FreeA (RFA ⟨⟨true,[]⟩,⟨false,[]⟩⟩) (RFA ⟨⟨true,[]⟩,⟨false,[]⟩⟩):=bF (.cons (bF (.cons (dv _) (.cons iu .nil))) (.cons (bF (.cons (dv _) (.cons iu .nil))) .nil))
theorem ptT_eq {x y:RPt}:((decide (x.nm=y.nm)&&decide (x.e=y.e))&&(x.c==y.c))=decide (x=y):=by
 obtain ⟨a,b,c⟩:=x
 obtain ⟨d,e,f⟩:=y
 by_cases h1:a=d <;> by_cases h2:b=e <;> by_cases h3:c=f <;> simp [h1,h2,h3]
section
open Rg
variable {P:Program} {Q:Exit→Act→World→Prop} {R:Rg} {B i:Nat} {w0:Bs}
theorem yU (p q:ByteArray):(p.toList==q.toList)=decide (p=q):=by
 rw [xW,xc,qH]
 exact ⟨λ h=>Go.WideShapes.bytes_inj (by rw [← ByteArray.toList_eq,← ByteArray.toList_eq,h]),λ h=>h▸rfl⟩
theorem Dc {x y:Operand}{xt yt:TypeId}{p q:ByteArray}(hx:Has R B w0 i x (EqA (.string p)).va)(hy:Has R B w0 i y (EqA (.string q)).va):Wv P Q R B w0 i (.binOp .eql xt x y yt) (Bo (decide (p=q))) :=
 bj λ _ _ _ _ _ a w av=>by
  have e1:=gX (hx a w av)
  have e2:=gX (hy a w av)
  exact ⟨.bool (decide (p=q)),w,(by simp [execOp,e1,e2,eqGuard,binOp,Op.stringOp,yU]),Grow.refl w,cZ _ _ _⟩
end
theorem sQ (x:RPt)(hx:bdF x.e.p∧bdF x.e.q):Cn Tryz.prog 96 [(PtA x).va] ((PtT x).va):=by
 refine Cn.intro Tryz.func96 G zk nq (λ B w0 a U=>?_)
 have U:=zn [(0,(PtA x).va)] [] U
 refine qb<|zg [] [⟨1,100,ptrH,some 0,_,none⟩,⟨2,100,ptrH,some 1,_,none⟩] [.alc 0,.alc 1] [] U (zW 0 G (zY G (Str.zero dz) o0)) (zz [] [O 1 100 _,O 2 100 _] λ a w U=>?_)
 refine zt<|zgd [[],[0],[],[2],[2,3],[],[5],[0,1,2,3,4,5,6],[0,1,2,3,4,5,6,7]] [none,some (8,_)] [] [.adr 3 1 (.some 0) True,.v 4 _,.adr 5 1 (.some 1) True,.v 6 _,.v 7 _,.adr 8 1 (.some 10) True,.v 9 _,.v 10 _,.sto 1] [] ae U (zO 0 G cM (zL 0 0 0 G ty_9 (zO 0 G da (zL 2 0 1 G fh (zQ G (m7 _ hx) (.o (vq 3 G)) (zO 0 G co (zL 5 0 2 G ty_3 (zv G (aU (qs:=[(0,_),(1,_),(2,_)]) dz (.cons ⟨rfl,vq 1 rfl,rfl⟩ (.cons ⟨rfl,vq 4 rfl,rfl⟩ (.cons ⟨rfl,vq 6 rfl,rfl⟩ .nil)))) (zS 7 G dy o0))))))))) zk zk zk zk (zz [] [O 1 100 _,O 2 100 _] λ a w U=>?_)
 refine aa<|qg<|ao ?_ (aA G U (zm 1 G) dy)
 exact aL
theorem tk (x y:RPt)(hx:bdF x.e.p∧bdF x.e.q):Cn Tryz.prog 168 [(PtT x).va,(PtA y).va] (Bo (decide (x=y))):=by
 refine Cn.intro Tryz.func168 G zk nq (λ B w0 a U=>?_)
 have U:=zn [(0,(PtT x).va),(1,(PtA y).va)] [] U
 refine qb<|zg [] [⟨2,100,ptrH,some 0,_,none⟩,⟨3,100,ptrH,some 1,_,none⟩] [.alc 0,.alc 1,.v 4 _] [.o 2] U (zW 0 G (zW 1 G (zv G (ac aJ) o0))) (zz [(4,_)] [O 2 100 _,O 3 100 _] λ a w U=>?_)
 refine zt<|zg [η,η] [] [.adr 5 2 (.some 0) True,.v 6 _,.adr 7 3 (.some 0) True,.v 8 _,.v 9 _,.v 10 _,.adr 11 2 (.some 1) (_=true),.t 12 _,.adr 13 3 (.some 1) (_=true),.t 14 _,.t 15 _,.v 16 _,.v 17 _,.adr 18 2 (.some 10) (_=true),.t 19 _,.adr 20 3 (.some 10) (_=true),.t 21 _,.t 22 _,.v 23 _,.v 4 _] [.o 19] U (zO 0 G cM (zL 0 0 0 G ty_9 (zO 1 G cM (zL 2 1 0 G ty_9 (zv G (Dc (vq 1 G) (vq 3 G)) (zv G (ai (vq 4 G)) (zC 5 0 G da (zB 5 G (λ hg=>aF 6 G zk hg (lz0 0 G) (Sub.part 1 G G) fh) (zC 5 1 G da (zB 5 G (λ hg=>aF 8 G zk hg (lz0 1 G) (Sub.part 1 G G) fh) (zB 5 G (λ hg=>be (mN _ _ hx) (.p (ak (vq 7 G) hg) (ak (vq 9 G) hg))) (zv G (bA (vq 5 G) (vq 10 G)) (zv G (ai (vq 11 G)) (zC 12 0 G co (zB 12 G (λ hg=>aF 13 G zk hg (lz0 0 G) (Sub.part 2 G G) ty_3) (zC 12 1 G co (zB 12 G (λ hg=>aF 15 G zk hg (lz0 1 G) (Sub.part 2 G G) ty_3) (zB 12 G (λ hg=>bC (ak (vq 14 G) hg) (ak (vq 16 G) hg)) (zv G (bA (vq 12 G) (vq 17 G)) (zA 18 G o0)))))))))))))))))))) (zz [(4,_)] [O 2 100 _,O 3 100 _] λ a w U=>?_)
 refine aa<|qg<|ao ?_ (an G U (zm 0 G))
 exact aZ (qm Bo ptT_eq)
theorem r7:∃ it z,Tryz.prog.info? 28=some it∧it.zero=some z∧it.size=4∧it.bytes=64∧z.cells.size=4:=by
 have h:((Tryz.prog.info? 28).bind λ it=>it.zero.map λ z=>(it.size,it.bytes,z.cells.size))=some (4,64,4):=by kernel_rfl
 cases hi:Tryz.prog.info? 28 with
 | none=>rw [hi] at h; simp at h
 | some it =>
  rw [hi] at h
  cases hz:it.zero with
  | none=>simp [hz] at h
  | some z =>
   simp [hz] at h
   exact ⟨it,z,rfl,hz,h.1,h.2.1,h.2.2⟩
abbrev bdLFracs (xs:List RF):Prop:=∀ x∈xs,bdF x
theorem oR (xs:List RF)(hl:xs.length≤10000000)(hx:bdLFracs xs):Cn Tryz.prog 19 [(SlA 28 [U32] (xs.map RFA)).va] (TwS 28 4 [U32] (xs.map RFT) (RFA ⟨⟨true,[]⟩,⟨false,[]⟩⟩)):=by
 obtain ⟨it,z,e1,e2,e3,e4,e5⟩:=r7
 refine Cn.introW Tryz.func19 G zk nq (.cons (fC (dr fE)).va .nil) (mS (eW (dr mV) tu)) (λ B w0 a hB0 U=>?_)
 have U:=zn [(0,(SlO 28 [U32] (xs.map RFA) True).va)] [] U
 refine qb<|zh [.v 2 _] [.g 0,.o 0] U (zv G (ac bc) o0) (zz [(0,_),(2,_)] [] λ a w U=>?_)
 refine zt<|zh [.v 5 _,.v 6 _,.v 7 (In ((xs.length+1:Nat):Int)),.v 8 (OwnR w0.w.heap.size 28 4 [U32] []),.v 3 _] [.g 0,.o 4] U (zM 0 G (zv G (bg Tryz.underlying22 (bm (aD (vq 0 G)))) (zv G (aN (vq 1 G) ab (sM zo)) (zv G (pb Tryz.underlying22 e1 e2 e3 e4 e5 zd zd (xp hB0) ab (vq 2 G) zo) (zA 3 G o0))))) (zz [(0,_),(3,_)] [] λ a w U=>?_)
 refine zt<|qb<|zh [.v 4 _] [.g 0,.g 1,.o 0] U (zv G (ac ab) o0) (zz [(0,_),(3,_),(4,_)] [] λ a w U=>?_)
 refine aa<|qj ?_
 have U:=St.sel U [0,1,2]
 refine wp_loop_ghost (λ n a w=>∃ j:Nat,(n+j=xs.length)∧St B w0 31 [(0,(SlO 28 [U32] (xs.map RFA) True).va),(3,OwnR w0.w.heap.size 28 4 [U32] ((xs.take j).map RFT)),(4,In (j:Nat))] [] a w) (xs.length) ?_ ?_
 ·exact ⟨0,by omega,U⟩
 intro n a w hI
 obtain ⟨j,hn,U⟩:=hI
 refine qb<|qb<|zh [.v 9 _,.v 10 _,.v 11 _,.v 12 _] [.g 0,.g 1,.g 2,.o 3] U (zM 2 G (zM 0 G (zv G (bg Tryz.underlying22 (bm (aD (vq 1 G)))) (zv G (aS (vq 0 G) (vq 2 G)) o0)))) (zz [(0,_),(3,_),(4,_),(12,_)] [] λ a w U=>?_)
 refine aa<|aj U (zm 3 G) (λ hb0=>?_) (λ hb0=>?_)
 ·have hj:j<xs.length:=by simp at hb0; omega
  refine qh<|zt<|qj<|gJ (sp:=[.v 15 _,.v 16 _,.v 17 _,.v 18 _,.v 19 _,.v 20 _,.v 21 _,.v 22 VT,.v 3 VT]) 7 [0,2] 0 6 U (zM 1 rfl (zM 0 rfl (zM 2 rfl (zv rfl (bH cO (bW λ _=>rfl) (bm (aD (vq 1 rfl))) (vq 2 rfl) (bz hj)) (zv rfl (au (vq 3 rfl) ax) (zQ rfl (eN xs[j] (hx _ (qf hj))) (.o (vq 4 rfl)) (zv rfl (bJ (D:=[U32]) (l:=[_]) (xs:=[.tmp 20]) (cT zk) cO zk (n_ok zk) nq nq nq (.o (vq 5 rfl)) rfl rfl) o0))))))) rfl zk rfl rfl zd rfl zd rfl (λ _ _ h _=>h) Tryz.underlying22 e1 e2 e3 e4 e5 zd (by simp only [qc,qY,zJ]; omega) zd (λ T hT=>hT) zd (λ A hA=>by obtain rfl:=qn.1 hA; rfl) zk nq nq zk zk (zz [(3,_),(0,_),(4,_)] [] λ a w U=>?_)
  refine ap ?_
  refine aa<|zh [.v 13 _,.v 14 _,.v 4 _] [.g 0,.g 1,.o 2] U (zM 2 G (zv G (aN (vq 0 G) ab (ba zo)) (zA 1 G o0))) (zz [(3,_),(0,_),(4,_)] [] λ a w U=>?_)
  refine aa ?_
  have U:=St.sel U [1,0,2]
  exact ⟨n-1,by omega,j+1,by omega,St.wkG (A':=OwnR w0.w.heap.size 28 4 [U32] ((xs.take (j+1)).map RFT)) U 1 G (aZ (qm (OwnR w0.w.heap.size 28 4 [U32]) (uJ hj)))⟩
 ·obtain rfl:j=xs.length:=by simp at hb0; omega
  refine qK<|am<|am<|aB<|zt ?_
  have U:=St.wkG (A':=OwnR w0.w.heap.size 28 4 [U32] (xs.map RFT)) U 1 rfl (aZ (by rw [qF]))
  refine mQ (sp:=[.v 23 _,.v 24 _,.v 25 _,.v 26 _,.v 27 VT,.v 28 VT,.v 29 VT,.v 30 VT,.v 2 VT]) 4 [] 0 3 U (zM 1 rfl (zv rfl (aU (qs:=[(0,_)]) bn (.cons ⟨rfl,aJ,rfl⟩ .nil)) (zv rfl (aU (qs:=[(0,_)]) aP (.cons ⟨rfl,vq 1 rfl,rfl⟩ .nil)) (zv rfl (bJ (D:=[U32]) (l:=[RFA ⟨⟨true,[]⟩,⟨false,[]⟩⟩]) (xs:=[.tmp 25]) (cT zk) cO zk (n_ok zk) nq nq nq (.o (vq 2 rfl)) rfl rfl) (o0))))) rfl zk rfl rfl rfl rfl rfl 0 rfl (λ B u w h=>by have h2:=uj B u w h; rw [qc] at h2; rw [qc]; exact h2) zk zd rfl zd rfl (λ _ _ h _=>h) Tryz.underlying22 e1 e2 e3 e4 e5 zd (by rw [qc]; omega) zd (λ T hT=>hT) zd zk zd nq nq nq nq nq zk zk (zz [(2,_)] [] λ a w U=>?_)
  refine aa<|qg<|ao ?_ (an G U (zm 0 G))
  exact aL
theorem pz (xs ys:List RF)(hl:ys.length≤10000000)(hx:bdLFracs xs):Cn Tryz.prog 86 [TwS 28 4 [U32] (xs.map RFT) (RFA ⟨⟨true,[]⟩,⟨false,[]⟩⟩),(SlA 28 [U32] (ys.map RFA)).va] (Bo (decide (xs=ys))):=by
 refine Cn.intro Tryz.func86 G zk nq (λ B w0 a U=>?_)
 have U:=zn [(0,TwS 28 4 [U32] (xs.map RFT) (RFA ⟨⟨true,[]⟩,⟨false,[]⟩⟩)),(1,(SlA 28 [U32] (ys.map RFA)).va)] [] U
 obtain ⟨g,c,U⟩:=St.exK U 0 rfl
 have hcap:=m9 (U.vals (0,_) (zm 0 rfl))
 rw [qc] at hcap
 refine qb<|zh [.v 4 _] [.g 0,.g 1,.o 0] U (zv G (ac aJ) o0) (zz [(0,_),(1,_),(4,_)] [] λ a w U=>?_)
 refine zt<|qb<|zh [.v 7 _,.v 8 _,.v 9 _,.v 10 _,.v 11 _,.v 12 _,.f 13 _,.f 14 _,.f 15 _,.f 16 _,.f 17 _,.v 18 _] [.g 0,.g 1,.g 2,.o 11] U (zM 0 G (zv G (bg Tryz.underlying22 (has_wk' (vq 0 G) iC)) (zM 1 G (zv G (bg Tryz.underlying22 (vq 2 G)) (zv G (bX (vq 1 G) (vq 3 G)) (zv G (ai (vq 4 G)) (zB 5 G (λ hg=>ai (gq 0 G)) (zB 5 G (λ hg=>uX Tryz.underlying22 (ak (vq 6 G) hg)) (zB 5 G (λ hg=>ai (gq 1 G)) (zB 5 G (λ hg=>bg Tryz.underlying22 (ak (vq 8 G) hg)) (zB 5 G (λ hg=>gz (ak (vq 7 G) hg) (ak (vq 9 G) hg)) (zv G (r_or (vq 5 G) (vq 10 G)) o0)))))))))))) (zz [(0,_),(1,_),(4,_),(18,_)] [] λ a w U=>?_)
 refine aa<|aj U (zm 3 G) (λ hb0=>?_) (λ hb0=>?_)
 ·refine qb<|zh [.v 4 _] [.g 0,.g 1,.o 0] U (zv G (ac aJ) o0) (zz [(0,_),(1,_),(4,_)] [] λ a w U=>?_)
  refine aa<|qg<|al ?_
  refine ao ?_ (an G U (zm 2 G))
  exact aZ (qm Bo (pv hcap.1 hb0))
 ·have hlen:=px hb0
  refine qh<|zt<|qb<|zh [.v 5 _] [.g 0,.g 1,.g 2,.o 0] U (zv G (ac ab) o0) (zz [(0,_),(1,_),(4,_),(5,_)] [] λ a w U=>?_)
  refine aa<|qj ?_
  have U:=St.sel U [0,1,3]
  refine wp_loop_ghost (λ n a w=>∃ j:Nat,(n+j=ys.length∧xs.take j=ys.take j)∧St B w0 59 [(0,TwK g c 28 4 [U32] (xs.map RFT) (RFA ⟨⟨true,[]⟩,⟨false,[]⟩⟩)),(1,(SlA 28 [U32] (ys.map RFA)).va),(5,In (j:Nat))] [] a w) (ys.length) ?_ ?_
  ·exact ⟨0,⟨by omega,rfl⟩,U⟩
  intro n a w hI
  obtain ⟨j,⟨hn,ht⟩,U⟩:=hI
  refine qb<|qb<|zh [.v 19 _,.v 20 _,.v 21 _,.v 22 _] [.g 0,.g 1,.g 2,.o 3] U (zM 2 G (zM 1 G (zv G (bg Tryz.underlying22 (vq 1 G)) (zv G (aS (vq 0 G) (vq 2 G)) o0)))) (zz [(0,_),(1,_),(5,_),(22,_)] [] λ a w U=>?_)
  refine aa<|aj U (zm 3 G) (λ hb1=>?_) (λ hb1=>?_)
  ·have hj2:j<ys.length:=by rw [qc] at hb1; simp at hb1; omega
   have hj:j<xs.length:=by omega
   refine qh<|zt<|qj<|qb<|zgd [[],[],[0,1],[0,1,2],[],[],[4,5],[4,5,6],[0,1,2,3,4,5,6,7],[0,1,2,3,4,5,6,7,8]] [] [] [.v 25 _,.v 26 _,.v 27 _,.v 28 _,.v 29 _,.v 30 _,.v 31 _,.v 32 _,.v 33 _,.v 34 _] [.g 0,.g 1,.g 2,.o 9] ae U (zM 0 G (zM 2 G (zv G (bH cO (bW λ _=>rfl) (has_wk' (vq 0 G) iC) (vq 1 G) (bz hj)) (zv G (au (vq 2 G) ax) (zM 1 G (zM 2 G (zv G (bH cO (bW λ _=>rfl) (vq 4 G) (vq 5 G) (bz hj2)) (zv G (au (vq 6 G) ax) (zQ G (eY xs[j] ys[j] (hx _ (qf hj))) (.p (vq 3 G) (vq 7 G)) (zv G (dY (vq 8 G)) o0)))))))))) zk zk zk zk (zz [(0,_),(1,_),(5,_),(34,_)] [] λ a w U=>?_)
   refine aa<|aj U (zm 3 G) (λ hb2=>?_) (λ hb2=>?_)
   ·refine qb<|zh [.v 4 _] [.g 0,.g 1,.g 2,.o 0] U (zv G (ac aJ) o0) (zz [(0,_),(1,_),(5,_),(4,_)] [] λ a w U=>?_)
    refine aa<|qg<|aE ?_
    refine al ?_
    refine al ?_
    refine aE ?_
    refine al ?_
    refine ao ?_ (an G U (zm 3 G))
    exact aZ (qm Bo (mf hj2 hj hb2))
   ·refine qh<|ap ?_
    refine aa<|zh [.v 23 _,.v 24 _,.v 5 _] [.g 0,.g 1,.o 2] U (zM 2 G (zv G (aN (vq 0 G) ab (ba zo)) (zA 1 G o0))) (zz [(0,_),(1,_),(5,_)] [] λ a w U=>?_)
    refine aa ?_
    have U:=St.sel U [0,1,2]
    exact ⟨n-1,by omega,j+1,⟨by omega,mh hj2 hj ht hb2⟩,U⟩
  ·obtain rfl:j=ys.length:=by rw [qc] at hb1; simp at hb1; omega
   refine qK<|am<|am<|aB<|zt<|zg [] [⟨6,28,ptrH,some 9,_,some (10,_)⟩] [.v 35 _,.v 36 _,.v 37 _,.v 38 _,.v 39 _,.v 40 _,.v 41 _,.v 42 _,.v 43 _,.alc 0,.sto 0] [] U (zM 0 G (zM 1 G (zv G (bg Tryz.underlying22 (vq 1 G)) (zv G (aN (vq 2 G) ab (sM zo)) (zv G (pa cO (vq 0 G) (has_wk' (vq 3 G) (aZ (qm (λ k:Nat=>In ((k+1:Nat):Int)) (hlen.symm.trans (qc ..).symm))))) (zM 1 G (zv G (bg Tryz.underlying22 (vq 5 G)) (zv G (bH cO (eW (dr λ _=>rfl) G) (vq 4 G) (has_wk' (vq 6 G) (aZ (qm (λ k:Nat=>In (k:Int)) (qc ..)))) (k:=ys.length) (by rw [List.getElem?_append_right (by rw [qc]; omega),qc,hlen,xD]; rfl)) (zv G (au (vq 7 G) ax) (zY G (Str.zero aP) (zS 8 G ax o0))))))))))) (zz [] [O 6 28 _] λ a w U=>?_)
   refine zt<|zg [η] [] [.adr 44 6 (.some 0) True,.adr 45 6 (.some (0+0)) True,.v 46 _,.v 47 _,.adr 48 6 (.some 0) (_=true),.adr 49 6 (.some (0+1)) (_=true),.t 50 _,.t 51 _,.adr 52 6 (.some 2) (_=true),.adr 53 6 (.some (2+1)) (_=true),.t 54 _,.t 55 _,.t 56 _,.t 57 _,.v 58 _,.v 4 _] [.o 15] U (zO 0 G aW (oc (ob_a G G (i6 0 G zk trivial (lz0 0 G) aV)) (zv G (aF 1 G zk trivial (lz0 0 G) (Sub.trans (Sub.part 0 G G) (Sub.part 0 G G) G) ty_4) (zv G (ai (vq 2 G)) (zC 3 0 G aW (oc (FF G G G (vq 3 G) nq (λ hg=>i6 4 G zk hg (lz0 0 G) ay)) (zB 3 G (λ hg=>aF 5 G zk hg (lz0 0 G) (Sub.trans (Sub.part 0 G G) (Sub.part 1 G G) G) aX) (zB 3 G (λ hg=>aI Tryz.underlying24 (ak (vq 6 G) hg)) (zC 3 0 G aR (oc (FF G G G (vq 3 G) nq (λ hg=>i6 8 G zk hg (lz0 0 G) ay)) (zB 3 G (λ hg=>aF 9 G zk hg (lz0 0 G) (Sub.trans (Sub.part 1 G G) (Sub.part 1 G G) G) aX) (zB 3 G (λ hg=>aI Tryz.underlying24 (ak (vq 10 G) hg)) (zB 3 G (λ hg=>aN (ak (vq 7 G) hg) (ak (vq 11 G) hg) (G)) (zB 3 G (λ hg=>bC (ak (vq 12 G) hg) ab) (zv G (bA (vq 3 G) (vq 13 G)) (zA 14 G o0)))))))))))))))) (zz [(4,_)] [O 6 28 _] λ a w U=>?_)
   refine aa<|qg<|ao ?_ (an G U (zm 0 G))
   have e:xs=ys:=by rw [qD zo,qF] at ht; exact ht
   refine aZ (qm Bo ?_); rw [qC e]; rfl
theorem r6:∃ it z,Tryz.prog.info? 100=some it∧it.zero=some z∧it.size=11∧it.bytes=160∧z.cells.size=11:=by
 have h:((Tryz.prog.info? 100).bind λ it=>it.zero.map λ z=>(it.size,it.bytes,z.cells.size))=some (11,160,11):=by kernel_rfl
 cases hi:Tryz.prog.info? 100 with
 | none=>rw [hi] at h; simp at h
 | some it =>
  rw [hi] at h
  cases hz:it.zero with
  | none=>simp [hz] at h
  | some z =>
   simp [hz] at h
   exact ⟨it,z,rfl,hz,h.1,h.2.1,h.2.2⟩
abbrev bdLParts (xs:List RPt):Prop:=∀ x∈xs,bdF x.e.p∧bdF x.e.q
theorem oQ (xs:List RPt)(hl:xs.length≤10000000)(hx:bdLParts xs):Cn Tryz.prog 20 [(SlA 100 [U32] (xs.map PtA)).va] (TwS 100 11 [U32] (xs.map PtT) (PtA ⟨⟨#[]⟩,⟨0,rf0,rf0⟩,7777⟩)):=by
 obtain ⟨it,z,e1,e2,e3,e4,e5⟩:=r6
 refine Cn.introW Tryz.func20 G zk nq (.cons (fC (dr u5)).va .nil) (mS (eW (dr BP) ya)) (λ B w0 a hB0 U=>?_)
 have U:=zn [(0,(SlO 100 [U32] (xs.map PtA) True).va)] [] U
 refine qb<|zh [.v 2 _] [.g 0,.o 0] U (zv G (ac bc) o0) (zz [(0,_),(2,_)] [] λ a w U=>?_)
 refine zt<|zh [.v 5 _,.v 6 _,.v 7 (In ((xs.length+1:Nat):Int)),.v 8 (OwnR w0.w.heap.size 100 11 [U32] []),.v 3 _] [.g 0,.o 4] U (zM 0 G (zv G (bg Tryz.underlying23 (bm (aD (vq 0 G)))) (zv G (aN (vq 1 G) ab (sM zo)) (zv G (pb Tryz.underlying23 e1 e2 e3 e4 e5 zd zd (xp hB0) ab (vq 2 G) zo) (zA 3 G o0))))) (zz [(0,_),(3,_)] [] λ a w U=>?_)
 refine zt<|qb<|zh [.v 4 _] [.g 0,.g 1,.o 0] U (zv G (ac ab) o0) (zz [(0,_),(3,_),(4,_)] [] λ a w U=>?_)
 refine aa<|qj ?_
 have U:=St.sel U [0,1,2]
 refine wp_loop_ghost (λ n a w=>∃ j:Nat,(n+j=xs.length)∧St B w0 30 [(0,(SlO 100 [U32] (xs.map PtA) True).va),(3,OwnR w0.w.heap.size 100 11 [U32] ((xs.take j).map PtT)),(4,In (j:Nat))] [] a w) (xs.length) ?_ ?_
 ·exact ⟨0,by omega,U⟩
 intro n a w hI
 obtain ⟨j,hn,U⟩:=hI
 refine qb<|qb<|zh [.v 9 _,.v 10 _,.v 11 _,.v 12 _] [.g 0,.g 1,.g 2,.o 3] U (zM 2 G (zM 0 G (zv G (bg Tryz.underlying23 (bm (aD (vq 1 G)))) (zv G (aS (vq 0 G) (vq 2 G)) o0)))) (zz [(0,_),(3,_),(4,_),(12,_)] [] λ a w U=>?_)
 refine aa<|aj U (zm 3 G) (λ hb0=>?_) (λ hb0=>?_)
 ·have hj:j<xs.length:=by simp at hb0; omega
  refine qh<|zt<|qj<|gJ (sp:=[.v 15 _,.v 16 _,.v 17 _,.v 18 _,.v 19 _,.v 20 _,.v 21 _,.v 22 VT,.v 3 VT]) 7 [0,2] 0 6 U (zM 1 rfl (zM 0 rfl (zM 2 rfl (zv rfl (bH ey (bW λ _=>rfl) (bm (aD (vq 1 rfl))) (vq 2 rfl) (bz hj)) (zv rfl (au (vq 3 rfl) dy) (zQ rfl (sQ xs[j] (hx _ (qf hj))) (.o (vq 4 rfl)) (zv rfl (bJ (D:=[U32]) (l:=[_]) (xs:=[.tmp 20]) (cT zk) ey zk (n_ok zk) nq nq nq (.o (vq 5 rfl)) rfl rfl) o0))))))) rfl zk rfl rfl zd rfl zd rfl (λ _ _ h _=>h) Tryz.underlying23 e1 e2 e3 e4 e5 zd (by simp only [qc,qY,zJ]; omega) zd (λ T hT=>hT) zd (λ A hA=>by obtain rfl:=qn.1 hA; rfl) zk nq nq zk zk (zz [(3,_),(0,_),(4,_)] [] λ a w U=>?_)
  refine ap ?_
  refine aa<|zh [.v 13 _,.v 14 _,.v 4 _] [.g 0,.g 1,.o 2] U (zM 2 G (zv G (aN (vq 0 G) ab (ba zo)) (zA 1 G o0))) (zz [(3,_),(0,_),(4,_)] [] λ a w U=>?_)
  refine aa ?_
  have U:=St.sel U [1,0,2]
  exact ⟨n-1,by omega,j+1,by omega,St.wkG (A':=OwnR w0.w.heap.size 100 11 [U32] ((xs.take (j+1)).map PtT)) U 1 G (aZ (qm (OwnR w0.w.heap.size 100 11 [U32]) (uJ hj)))⟩
 ·obtain rfl:j=xs.length:=by simp at hb0; omega
  refine qK<|am<|am<|aB<|zt ?_
  have U:=St.wkG (A':=OwnR w0.w.heap.size 100 11 [U32] (xs.map PtT)) U 1 rfl (aZ (by rw [qF]))
  refine mQ (sp:=[.v 23 _,.v 24 _,.v 25 _,.v 26 VT,.v 27 VT,.v 28 VT,.v 29 VT,.v 2 VT]) 3 [] 0 2 U (zM 1 rfl (zv rfl (aU (qs:=[(2,_)]) dz (.cons ⟨rfl,ab,rfl⟩ .nil)) (zv rfl (bJ (D:=[U32]) (l:=[PtA ⟨⟨#[]⟩,⟨0,rf0,rf0⟩,7777⟩]) (xs:=[.tmp 24]) (cT zk) ey zk (n_ok zk) nq nq nq (.o (vq 1 rfl)) rfl rfl) (o0)))) rfl zk rfl rfl rfl rfl rfl 0 rfl (λ B u w h=>by have h2:=uj B u w h; rw [qc] at h2; rw [qc]; exact h2) zk zd rfl zd rfl (λ _ _ h _=>h) Tryz.underlying23 e1 e2 e3 e4 e5 zd (by rw [qc]; omega) zd (λ T hT=>hT) zd zk zd nq nq nq nq nq zk zk (zz [(2,_)] [] λ a w U=>?_)
  refine aa<|qg<|ao ?_ (an G U (zm 0 G))
  exact aL
theorem py (xs ys:List RPt)(hl:ys.length≤10000000)(hx:bdLParts xs):Cn Tryz.prog 87 [TwS 100 11 [U32] (xs.map PtT) (PtA ⟨⟨#[]⟩,⟨0,rf0,rf0⟩,7777⟩),(SlA 100 [U32] (ys.map PtA)).va] (Bo (decide (xs=ys))):=by
 refine Cn.intro Tryz.func87 G zk nq (λ B w0 a U=>?_)
 have U:=zn [(0,TwS 100 11 [U32] (xs.map PtT) (PtA ⟨⟨#[]⟩,⟨0,rf0,rf0⟩,7777⟩)),(1,(SlA 100 [U32] (ys.map PtA)).va)] [] U
 obtain ⟨g,c,U⟩:=St.exK U 0 rfl
 have hcap:=m9 (U.vals (0,_) (zm 0 rfl))
 rw [qc] at hcap
 refine qb<|zh [.v 4 _] [.g 0,.g 1,.o 0] U (zv G (ac aJ) o0) (zz [(0,_),(1,_),(4,_)] [] λ a w U=>?_)
 refine zt<|qb<|zh [.v 7 _,.v 8 _,.v 9 _,.v 10 _,.v 11 _,.v 12 _,.f 13 _,.f 14 _,.f 15 _,.f 16 _,.f 17 _,.v 18 _] [.g 0,.g 1,.g 2,.o 11] U (zM 0 G (zv G (bg Tryz.underlying23 (has_wk' (vq 0 G) iC)) (zM 1 G (zv G (bg Tryz.underlying23 (vq 2 G)) (zv G (bX (vq 1 G) (vq 3 G)) (zv G (ai (vq 4 G)) (zB 5 G (λ hg=>ai (gq 0 G)) (zB 5 G (λ hg=>uX Tryz.underlying23 (ak (vq 6 G) hg)) (zB 5 G (λ hg=>ai (gq 1 G)) (zB 5 G (λ hg=>bg Tryz.underlying23 (ak (vq 8 G) hg)) (zB 5 G (λ hg=>gz (ak (vq 7 G) hg) (ak (vq 9 G) hg)) (zv G (r_or (vq 5 G) (vq 10 G)) o0)))))))))))) (zz [(0,_),(1,_),(4,_),(18,_)] [] λ a w U=>?_)
 refine aa<|aj U (zm 3 G) (λ hb0=>?_) (λ hb0=>?_)
 ·refine qb<|zh [.v 4 _] [.g 0,.g 1,.o 0] U (zv G (ac aJ) o0) (zz [(0,_),(1,_),(4,_)] [] λ a w U=>?_)
  refine aa<|qg<|al ?_
  refine ao ?_ (an G U (zm 2 G))
  exact aZ (qm Bo (pv hcap.1 hb0))
 ·have hlen:=px hb0
  refine qh<|zt<|qb<|zh [.v 5 _] [.g 0,.g 1,.g 2,.o 0] U (zv G (ac ab) o0) (zz [(0,_),(1,_),(4,_),(5,_)] [] λ a w U=>?_)
  refine aa<|qj ?_
  have U:=St.sel U [0,1,3]
  refine wp_loop_ghost (λ n a w=>∃ j:Nat,(n+j=ys.length∧xs.take j=ys.take j)∧St B w0 47 [(0,TwK g c 100 11 [U32] (xs.map PtT) (PtA ⟨⟨#[]⟩,⟨0,rf0,rf0⟩,7777⟩)),(1,(SlA 100 [U32] (ys.map PtA)).va),(5,In (j:Nat))] [] a w) (ys.length) ?_ ?_
  ·exact ⟨0,⟨by omega,rfl⟩,U⟩
  intro n a w hI
  obtain ⟨j,⟨hn,ht⟩,U⟩:=hI
  refine qb<|qb<|zh [.v 19 _,.v 20 _,.v 21 _,.v 22 _] [.g 0,.g 1,.g 2,.o 3] U (zM 2 G (zM 1 G (zv G (bg Tryz.underlying23 (vq 1 G)) (zv G (aS (vq 0 G) (vq 2 G)) o0)))) (zz [(0,_),(1,_),(5,_),(22,_)] [] λ a w U=>?_)
  refine aa<|aj U (zm 3 G) (λ hb1=>?_) (λ hb1=>?_)
  ·have hj2:j<ys.length:=by rw [qc] at hb1; simp at hb1; omega
   have hj:j<xs.length:=by omega
   refine qh<|zt<|qj<|qb<|zgd [[],[],[0,1],[0,1,2],[],[],[4,5],[4,5,6],[0,1,2,3,4,5,6,7],[0,1,2,3,4,5,6,7,8]] [] [] [.v 25 _,.v 26 _,.v 27 _,.v 28 _,.v 29 _,.v 30 _,.v 31 _,.v 32 _,.v 33 _,.v 34 _] [.g 0,.g 1,.g 2,.o 9] ae U (zM 0 G (zM 2 G (zv G (bH ey (bW λ _=>rfl) (has_wk' (vq 0 G) iC) (vq 1 G) (bz hj)) (zv G (au (vq 2 G) dy) (zM 1 G (zM 2 G (zv G (bH ey (bW λ _=>rfl) (vq 4 G) (vq 5 G) (bz hj2)) (zv G (au (vq 6 G) dy) (zQ G (tk xs[j] ys[j] (hx _ (qf hj))) (.p (vq 3 G) (vq 7 G)) (zv G (dY (vq 8 G)) o0)))))))))) zk zk zk zk (zz [(0,_),(1,_),(5,_),(34,_)] [] λ a w U=>?_)
   refine aa<|aj U (zm 3 G) (λ hb2=>?_) (λ hb2=>?_)
   ·refine qb<|zh [.v 4 _] [.g 0,.g 1,.g 2,.o 0] U (zv G (ac aJ) o0) (zz [(0,_),(1,_),(5,_),(4,_)] [] λ a w U=>?_)
    refine aa<|qg<|aE ?_
    refine al ?_
    refine al ?_
    refine aE ?_
    refine al ?_
    refine ao ?_ (an G U (zm 3 G))
    exact aZ (qm Bo (mf hj2 hj hb2))
   ·refine qh<|ap ?_
    refine aa<|zh [.v 23 _,.v 24 _,.v 5 _] [.g 0,.g 1,.o 2] U (zM 2 G (zv G (aN (vq 0 G) ab (ba zo)) (zA 1 G o0))) (zz [(0,_),(1,_),(5,_)] [] λ a w U=>?_)
    refine aa ?_
    have U:=St.sel U [0,1,2]
    exact ⟨n-1,by omega,j+1,⟨by omega,mh hj2 hj ht hb2⟩,U⟩
  ·obtain rfl:j=ys.length:=by rw [qc] at hb1; simp at hb1; omega
   refine qK<|am<|am<|aB<|zt<|zg [] [⟨6,100,ptrH,some 9,_,some (10,_)⟩] [.v 35 _,.v 36 _,.v 37 _,.v 38 _,.v 39 _,.v 40 _,.v 41 _,.v 42 _,.v 43 _,.alc 0,.sto 0] [] U (zM 0 G (zM 1 G (zv G (bg Tryz.underlying23 (vq 1 G)) (zv G (aN (vq 2 G) ab (sM zo)) (zv G (pa ey (vq 0 G) (has_wk' (vq 3 G) (aZ (qm (λ k:Nat=>In ((k+1:Nat):Int)) (hlen.symm.trans (qc ..).symm))))) (zM 1 G (zv G (bg Tryz.underlying23 (vq 5 G)) (zv G (bH ey (eW (dr λ _=>rfl) G) (vq 4 G) (has_wk' (vq 6 G) (aZ (qm (λ k:Nat=>In (k:Int)) (qc ..)))) (k:=ys.length) (by rw [List.getElem?_append_right (by rw [qc]; omega),qc,hlen,xD]; rfl)) (zv G (au (vq 7 G) dy) (zY G (Str.zero dz) (zS 8 G dy o0))))))))))) (zz [] [O 6 100 _] λ a w U=>?_)
   refine zt<|zg [η] [] [.adr 44 6 (.some 10) True,.v 45 _,.v 46 _,.v 4 _] [.o 3] U (zO 0 G co (zL 0 0 2 G ty_3 (zv G (bC (vq 1 G) ab) (zA 2 G o0)))) (zz [(4,_)] [O 6 100 _] λ a w U=>?_)
   refine aa<|qg<|ao ?_ (an G U (zm 0 G))
   have e:xs=ys:=by rw [qD zo,qF] at ht; exact ht
   refine aZ (qm Bo ?_); rw [qC e]; rfl
theorem nt:∃ it z,Tryz.prog.info? 3=some it∧it.zero=some z∧it.size=1∧it.bytes=8∧z.cells.size=1:=by
 have h:((Tryz.prog.info? 3).bind λ it=>it.zero.map λ z=>(it.size,it.bytes,z.cells.size))=some (1,8,1):=by kernel_rfl
 cases hi:Tryz.prog.info? 3 with
 | none=>rw [hi] at h; simp at h
 | some it =>
  rw [hi] at h
  cases hz:it.zero with
  | none=>simp [hz] at h
  | some z =>
   simp [hz] at h
   exact ⟨it,z,rfl,hz,h.1,h.2.1,h.2.2⟩
abbrev bdLNumbers (xs:List Int):Prop:=∀ x∈xs,True
theorem m6 (xs:List Int)(hl:xs.length≤10000000)(hx:bdLNumbers xs):Cn Tryz.prog 7 [(SlA 3 [] (xs.map InA)).va] (TwS 3 1 [] (xs.map InA) (InA 7777)):=by
 obtain ⟨it,z,e1,e2,e3,e4,e5⟩:=nt
 refine Cn.introW Tryz.func7 G zk nq (.cons (fC (dr λ _=>fD _ _)).va .nil) (mS (eW (dr λ _=>ce _ _) (ce _ _))) (λ B w0 a hB0 U=>?_)
 have U:=zn [(0,(SlO 3 [] (xs.map InA) True).va)] [] U
 refine qb<|zh [.v 2 _] [.g 0,.o 0] U (zv G (ac bc) o0) (zz [(0,_),(2,_)] [] λ a w U=>?_)
 refine zt<|zh [.v 5 _,.v 6 _,.v 7 (In ((xs.length+1:Nat):Int)),.v 8 (OwnR w0.w.heap.size 3 1 [] []),.v 3 _] [.g 0,.o 4] U (zM 0 G (zv G (bg Tryz.underlying31 (bm (aD (vq 0 G)))) (zv G (aN (vq 1 G) ab (sM zo)) (zv G (pb Tryz.underlying31 e1 e2 e3 e4 e5 zd zd (xp hB0) ab (vq 2 G) zo) (zA 3 G o0))))) (zz [(0,_),(3,_)] [] λ a w U=>?_)
 refine zt<|qb<|zh [.v 4 _] [.g 0,.g 1,.o 0] U (zv G (ac ab) o0) (zz [(0,_),(3,_),(4,_)] [] λ a w U=>?_)
 refine aa<|qj ?_
 have U:=St.sel U [0,1,2]
 refine wp_loop_ghost (λ n a w=>∃ j:Nat,(n+j=xs.length)∧St B w0 28 [(0,(SlO 3 [] (xs.map InA) True).va),(3,OwnR w0.w.heap.size 3 1 [] ((xs.take j).map InA)),(4,In (j:Nat))] [] a w) (xs.length) ?_ ?_
 ·exact ⟨0,by omega,U⟩
 intro n a w hI
 obtain ⟨j,hn,U⟩:=hI
 refine qb<|qb<|zh [.v 9 _,.v 10 _,.v 11 _,.v 12 _] [.g 0,.g 1,.g 2,.o 3] U (zM 2 G (zM 0 G (zv G (bg Tryz.underlying31 (bm (aD (vq 1 G)))) (zv G (aS (vq 0 G) (vq 2 G)) o0)))) (zz [(0,_),(3,_),(4,_),(12,_)] [] λ a w U=>?_)
 refine aa<|aj U (zm 3 G) (λ hb0=>?_) (λ hb0=>?_)
 ·have hj:j<xs.length:=by simp at hb0; omega
  refine qh<|zt<|qj<|gJ (sp:=[.v 15 _,.v 16 _,.v 17 _,.v 18 _,.v 19 _,.v 20 _,.v 21 VT,.v 3 VT]) 6 [0,2] 0 5 U (zM 1 rfl (zM 0 rfl (zM 2 rfl (zv rfl (bH cP (bW λ _=>rfl) (bm (aD (vq 1 rfl))) (vq 2 rfl) (bz hj)) (zv rfl (au (vq 3 rfl) ty_3) (zv rfl (bJ (D:=[]) (l:=[_]) (xs:=[.tmp 19]) (cT zk) cP zk (n_ok zk) nq nq nq (.o (vq 4 rfl)) rfl rfl) o0)))))) rfl zk rfl rfl zd rfl zd rfl (λ _ _ h _=>h) Tryz.underlying31 e1 e2 e3 e4 e5 zd (by simp only [qc,qY,zJ]; omega) zd (λ T hT=>hT) zd (λ A hA=>by obtain rfl:=qn.1 hA; rfl) zk nq nq zk zk (zz [(3,_),(0,_),(4,_)] [] λ a w U=>?_)
  refine ap ?_
  refine aa<|zh [.v 13 _,.v 14 _,.v 4 _] [.g 0,.g 1,.o 2] U (zM 2 G (zv G (aN (vq 0 G) ab (ba zo)) (zA 1 G o0))) (zz [(3,_),(0,_),(4,_)] [] λ a w U=>?_)
  refine aa ?_
  have U:=St.sel U [1,0,2]
  exact ⟨n-1,by omega,j+1,by omega,St.wkG (A':=OwnR w0.w.heap.size 3 1 [] ((xs.take (j+1)).map InA)) U 1 G (aZ (qm (OwnR w0.w.heap.size 3 1 []) (uJ hj)))⟩
 ·obtain rfl:j=xs.length:=by simp at hb0; omega
  refine qK<|am<|am<|aB<|zt ?_
  have U:=St.wkG (A':=OwnR w0.w.heap.size 3 1 [] (xs.map InA)) U 1 rfl (aZ (by rw [qF]))
  refine mQ (sp:=[.v 22 _,.v 23 _,.v 24 VT,.v 25 VT,.v 26 VT,.v 27 VT,.v 2 VT]) 2 [] 0 1 U (zM 1 rfl (zv rfl (bJ (D:=[]) (l:=[InA 7777]) (xs:=[.const (.int .i64 7777)]) (cT zk) cP zk (n_ok zk) nq nq nq (.cons ab .nil) rfl rfl) (o0))) rfl zk rfl rfl rfl rfl rfl 0 rfl (λ B u w h=>by have h2:=uj B u w h; rw [qc] at h2; rw [qc]; exact h2) zk zd rfl zd rfl (λ _ _ h _=>h) Tryz.underlying31 e1 e2 e3 e4 e5 zd (by rw [qc]; omega) zd (λ T hT=>hT) zd zk zd nq nq nq nq nq zk zk (zz [(2,_)] [] λ a w U=>?_)
  refine aa<|qg<|ao ?_ (an G U (zm 0 G))
  exact aL
theorem mM (xs ys:List Int)(hl:ys.length≤10000000)(hx:bdLNumbers xs):Cn Tryz.prog 14 [TwS 3 1 [] (xs.map InA) (InA 7777),(SlA 3 [] (ys.map InA)).va] (Bo (decide (xs=ys))):=by
 refine Cn.intro Tryz.func14 G zk nq (λ B w0 a U=>?_)
 have U:=zn [(0,TwS 3 1 [] (xs.map InA) (InA 7777)),(1,(SlA 3 [] (ys.map InA)).va)] [] U
 obtain ⟨g,c,U⟩:=St.exK U 0 rfl
 have hcap:=m9 (U.vals (0,_) (zm 0 rfl))
 rw [qc] at hcap
 refine qb<|zh [.v 4 _] [.g 0,.g 1,.o 0] U (zv G (ac aJ) o0) (zz [(0,_),(1,_),(4,_)] [] λ a w U=>?_)
 refine zt<|qb<|zh [.v 7 _,.v 8 _,.v 9 _,.v 10 _,.v 11 _,.v 12 _,.f 13 _,.f 14 _,.f 15 _,.f 16 _,.f 17 _,.v 18 _] [.g 0,.g 1,.g 2,.o 11] U (zM 0 G (zv G (bg Tryz.underlying31 (has_wk' (vq 0 G) iC)) (zM 1 G (zv G (bg Tryz.underlying31 (vq 2 G)) (zv G (bX (vq 1 G) (vq 3 G)) (zv G (ai (vq 4 G)) (zB 5 G (λ hg=>ai (gq 0 G)) (zB 5 G (λ hg=>uX Tryz.underlying31 (ak (vq 6 G) hg)) (zB 5 G (λ hg=>ai (gq 1 G)) (zB 5 G (λ hg=>bg Tryz.underlying31 (ak (vq 8 G) hg)) (zB 5 G (λ hg=>gz (ak (vq 7 G) hg) (ak (vq 9 G) hg)) (zv G (r_or (vq 5 G) (vq 10 G)) o0)))))))))))) (zz [(0,_),(1,_),(4,_),(18,_)] [] λ a w U=>?_)
 refine aa<|aj U (zm 3 G) (λ hb0=>?_) (λ hb0=>?_)
 ·refine qb<|zh [.v 4 _] [.g 0,.g 1,.o 0] U (zv G (ac aJ) o0) (zz [(0,_),(1,_),(4,_)] [] λ a w U=>?_)
  refine aa<|qg<|al ?_
  refine ao ?_ (an G U (zm 2 G))
  exact aZ (qm Bo (pv hcap.1 hb0))
 ·have hlen:=px hb0
  refine qh<|zt<|qb<|zh [.v 5 _] [.g 0,.g 1,.g 2,.o 0] U (zv G (ac ab) o0) (zz [(0,_),(1,_),(4,_),(5,_)] [] λ a w U=>?_)
  refine aa<|qj ?_
  have U:=St.sel U [0,1,3]
  refine wp_loop_ghost (λ n a w=>∃ j:Nat,(n+j=ys.length∧xs.take j=ys.take j)∧St B w0 45 [(0,TwK g c 3 1 [] (xs.map InA) (InA 7777)),(1,(SlA 3 [] (ys.map InA)).va),(5,In (j:Nat))] [] a w) (ys.length) ?_ ?_
  ·exact ⟨0,⟨by omega,rfl⟩,U⟩
  intro n a w hI
  obtain ⟨j,⟨hn,ht⟩,U⟩:=hI
  refine qb<|qb<|zh [.v 19 _,.v 20 _,.v 21 _,.v 22 _] [.g 0,.g 1,.g 2,.o 3] U (zM 2 G (zM 1 G (zv G (bg Tryz.underlying31 (vq 1 G)) (zv G (aS (vq 0 G) (vq 2 G)) o0)))) (zz [(0,_),(1,_),(5,_),(22,_)] [] λ a w U=>?_)
  refine aa<|aj U (zm 3 G) (λ hb1=>?_) (λ hb1=>?_)
  ·have hj2:j<ys.length:=by rw [qc] at hb1; simp at hb1; omega
   have hj:j<xs.length:=by omega
   refine qh<|zt<|qj<|qb<|zgd [[],[],[0,1],[0,1,2],[],[],[4,5],[4,5,6],[0,1,2,3,4,5,6,7]] [] [] [.v 25 _,.v 26 _,.v 27 _,.v 28 _,.v 29 _,.v 30 _,.v 31 _,.v 32 _,.v 33 _] [.g 0,.g 1,.g 2,.o 8] ae U (zM 0 G (zM 2 G (zv G (bH cP (bW λ _=>rfl) (has_wk' (vq 0 G) iC) (vq 1 G) (bz hj)) (zv G (au (vq 2 G) ty_3) (zM 1 G (zM 2 G (zv G (bH cP (bW λ _=>rfl) (vq 4 G) (vq 5 G) (bz hj2)) (zv G (au (vq 6 G) ty_3) (zv G (bX (vq 3 G) (vq 7 G)) o0))))))))) zk zk zk zk (zz [(0,_),(1,_),(5,_),(33,_)] [] λ a w U=>?_)
   refine aa<|aj U (zm 3 G) (λ hb2=>?_) (λ hb2=>?_)
   ·refine qb<|zh [.v 4 _] [.g 0,.g 1,.g 2,.o 0] U (zv G (ac aJ) o0) (zz [(0,_),(1,_),(5,_),(4,_)] [] λ a w U=>?_)
    refine aa<|qg<|aE ?_
    refine al ?_
    refine al ?_
    refine aE ?_
    refine al ?_
    refine ao ?_ (an G U (zm 3 G))
    exact aZ (qm Bo (mf hj2 hj hb2))
   ·refine qh<|ap ?_
    refine aa<|zh [.v 23 _,.v 24 _,.v 5 _] [.g 0,.g 1,.o 2] U (zM 2 G (zv G (aN (vq 0 G) ab (ba zo)) (zA 1 G o0))) (zz [(0,_),(1,_),(5,_)] [] λ a w U=>?_)
    refine aa ?_
    have U:=St.sel U [0,1,2]
    exact ⟨n-1,by omega,j+1,⟨by omega,mh hj2 hj ht hb2⟩,U⟩
  ·obtain rfl:j=ys.length:=by rw [qc] at hb1; simp at hb1; omega
   refine qK<|am<|am<|aB<|zt<|zh [.v 34 _,.v 35 _,.v 36 _,.v 37 _,.v 38 _,.v 39 _,.v 40 _,.v 41 _,.v 42 _,.v 6 _] [.o 9] U (zM 0 G (zM 1 G (zv G (bg Tryz.underlying31 (vq 1 G)) (zv G (aN (vq 2 G) ab (sM zo)) (zv G (pa cP (vq 0 G) (has_wk' (vq 3 G) (aZ (qm (λ k:Nat=>In ((k+1:Nat):Int)) (hlen.symm.trans (qc ..).symm))))) (zM 1 G (zv G (bg Tryz.underlying31 (vq 5 G)) (zv G (bH cP (eW (dr λ _=>rfl) G) (vq 4 G) (has_wk' (vq 6 G) (aZ (qm (λ k:Nat=>In (k:Int)) (qc ..)))) (k:=ys.length) (by rw [List.getElem?_append_right (by rw [qc]; omega),qc,hlen,xD]; rfl)) (zv G (au (vq 7 G) ty_3) (zA 8 G o0)))))))))) (zz [(6,_)] [] λ a w U=>?_)
   refine zt<|zh [.v 43 _,.v 44 _,.v 4 _] [.o 2] U (zM 0 G (zv G (bC (vq 0 G) ab) (zA 1 G o0))) (zz [(4,_)] [] λ a w U=>?_)
   refine aa<|qg<|ao ?_ (an G U (zm 0 G))
   have e:xs=ys:=by rw [qD zo,qF] at ht; exact ht
   refine aZ (qm Bo ?_); rw [qC e]; rfl
def TwA (E:TypeId)(m:Nat)(D:List TypeId)(l:List As)(x:As):As where
 n:=1
 ag:=false
 p B cs w:=∃ v,cs=[v]∧(TwS E m D l x).p B v w
 deps:=E::D
 len:=by rintro B cs w ⟨v,rfl,_⟩; rfl
 one:=by
  rintro B cs w ⟨v,rfl,g,c,h1,_⟩ u hu
  obtain rfl:=qn.1 hu
  rw [h1]; rfl
 ag1:=λ _=>rfl
 cg:=λ B cs w w' hg ⟨v,h1,h2⟩=>⟨v,h1,(TwS E m D l x).cg _ _ _ _ hg h2⟩
 wr:=λ B cs w w' g c T fz q1 q2 q3 q4 ⟨v,h1,h2⟩=>⟨v,h1,(TwS E m D l x).wr _ _ _ _ _ _ _ _ q1 q2 q3 q4 h2⟩
theorem HL {E:TypeId}{m:Nat}{l:List As}{x:As}:Wk (TwS E m D l x) (TwA E m D l x).va:=λ B v w h=>⟨[v],⟨v,rfl,h⟩,rfl⟩
theorem HM {E:TypeId}{m:Nat}{l:List As}{x:As}:Wk (TwA E m D l x).va (TwS E m D l x):=λ B v w ⟨cs,⟨u,h1,h2⟩,h3⟩=>by
 subst h1
 have e:v=u:=h3
 subst e
 exact h2
theorem twA_wkA {E:TypeId}{m:Nat}{l:List As}{x:As}:WkA (TwA E m D l x) (SlA E D l):=⟨rfl,rfl,λ B cs w ⟨v,h1,h2⟩=>by
 subst h1
 obtain ⟨cs',h3,h4⟩:=CU B v w h2
 have l2:=(SlA E D l).len _ _ _ h3
 match cs',l2 with
 | [c],_ =>
  have e:v=c:=h4
  subst e
  exact h3⟩
def TkT (t:RTk):As:=cat [TwA 28 4 [U32] (t.sp.map RFT) (RFA ⟨⟨true,[]⟩,⟨false,[]⟩⟩),TwA 100 11 [U32] (t.ps.map PtT) (PtA ⟨⟨#[]⟩,⟨0,rf0,rf0⟩,7777⟩),RFT t.tg]
theorem tkT_A {t:RTk}:WkA (TkT t) (TkA t):=bo (.cons (twA_wkA.trans (Au (mH λ x=>m5) (dr (p:=λ A=>∀ T∈A.deps,T∈[U32]) λ x=>mE zk))) (.cons (twA_wkA.trans (Au (mH λ x=>Ea) (dr (p:=λ A=>∀ T∈A.deps,T∈[U32]) λ x=>mE zk))) (.cons m5 .nil)))
structure bdTk (t:RTk):Prop where
 l1:t.sp.length≤10000000
 l2:t.ps.length≤10000000
 b1:bdLFracs t.sp
 b2:bdLParts t.ps
 b3:bdF t.tg
theorem HU {x y:RTk}:((decide (x.sp=y.sp)&&decide (x.ps=y.ps))&&decide (x.tg=y.tg))=decide (x=y):=by
 obtain ⟨a,b,c⟩:=x
 obtain ⟨d,e,f⟩:=y
 by_cases h1:a=d <;> by_cases h2:b=e <;> by_cases h3:c=f <;> simp [h1,h2,h3]
theorem sP (t:RTk)(ht:bdTk t):Cn Tryz.prog 6 [(TkA t).va] ((TkT t).va):=by
 refine Cn.intro Tryz.func6 G zk nq (λ B w0 a U=>?_)
 have U:=zn [(0,(TkA t).va)] [] U
 refine qb<|zg [] [⟨1,30,ptrH,some 0,_,none⟩,⟨2,30,ptrH,some 1,_,none⟩] [.alc 0,.alc 1] [] U (zW 0 G (zY G (Str.zero fH) o0)) (zz [] [O 1 30 _,O 2 30 _] λ a w U=>?_)
 refine zt<|zgd [[],[0],[0,1],[],[3],[0,1,2,3,4],[],[6],[0,1,2,3,4,5,6,7],[0,1,2,3,4,5,6,7,8],[0,1,2,3,4,5,6,7,8,9]] [none,some (10,_)] [] [.adr 3 1 (.some 0) True,.v 4 _,.v 5 _,.adr 6 1 (.some 1) True,.v 7 _,.v 8 _,.adr 9 1 (.some 2) True,.v 10 _,.v 11 _,.v 12 _,.sto 1] [] ae U (zO 0 G bU (zL 0 0 0 G ew (zQ G (oR t.sp ht.l1 ht.b1) (.o (vq 1 G)) (zO 0 G bD (zL 3 0 1 G dn (zQ G (oQ t.ps ht.l2 ht.b2) (.o (vq 4 G)) (zO 0 G dH (zL 6 0 2 G ax (zQ G (eN _ ht.b3) (.o (vq 7 G)) (zv G (aU (qs:=[(0,TwA 28 4 [U32] (t.sp.map RFT) (RFA ⟨⟨true,[]⟩,⟨false,[]⟩⟩)),(1,TwA 100 11 [U32] (t.ps.map PtT) (PtA ⟨⟨#[]⟩,⟨0,rf0,rf0⟩,7777⟩)),(2,RFT t.tg)]) fH (.cons ⟨rfl,(has_wk' (vq 2 G) HL),rfl⟩ (.cons ⟨rfl,(has_wk' (vq 5 G) HL),rfl⟩ (.cons ⟨rfl,vq 8 rfl,rfl⟩ .nil)))) (zS 9 G cN o0))))))))))) zk zk zk zk (zz [] [O 1 30 _,O 2 30 _] λ a w U=>?_)
 refine aa<|qg<|ao ?_ (aA G U (zm 1 G) cN)
 exact aL
theorem tj (x y:RTk)(hx:bdTk x)(hy:bdTk y):Cn Tryz.prog 13 [(TkT x).va,(TkA y).va] (Bo (decide (x=y))):=by
 refine Cn.intro Tryz.func13 G zk nq (λ B w0 a U=>?_)
 have U:=zn [(0,(TkT x).va),(1,(TkA y).va)] [] U
 refine qb<|zg [] [⟨2,30,ptrH,some 0,_,none⟩,⟨3,30,ptrH,some 1,_,none⟩] [.alc 0,.alc 1,.v 4 _] [.o 2] U (zW 0 G (zW 1 G (zv G (ac aJ) o0))) (zz [(4,_)] [O 2 30 _,O 3 30 _] λ a w U=>?_)
 refine zt<|zg [η,η] [] [.adr 5 2 (.some 0) True,.v 6 _,.adr 7 3 (.some 0) True,.v 8 _,.v 9 _,.v 10 _,.adr 11 2 (.some 1) (_=true),.t 12 _,.adr 13 3 (.some 1) (_=true),.t 14 _,.t 15 _,.v 16 _,.v 17 _,.adr 18 2 (.some 2) (_=true),.t 19 _,.adr 20 3 (.some 2) (_=true),.t 21 _,.t 22 _,.v 23 _,.v 4 _] [.o 19] U (zO 0 G bU (zL 0 0 0 G ew (zO 1 G bU (zL 2 1 0 G ew (zQ G (pz x.sp y.sp hy.l1 hx.b1) (.p (has_wk' (vq 1 G) HM) (vq 3 G)) (zv G (ai (vq 4 G)) (zC 5 0 G bD (zB 5 G (λ hg=>aF 6 G zk hg (lz0 0 G) (Sub.part 1 G G) dn) (zC 5 1 G bD (zB 5 G (λ hg=>aF 8 G zk hg (lz0 1 G) (Sub.part 1 G G) dn) (zB 5 G (λ hg=>be (py x.ps y.ps hy.l2 hx.b2) (.p (has_wk' (ak (vq 7 G) hg) HM) (ak (vq 9 G) hg))) (zv G (bA (vq 5 G) (vq 10 G)) (zv G (ai (vq 11 G)) (zC 12 0 G dH (zB 12 G (λ hg=>aF 13 G zk hg (lz0 0 G) (Sub.part 2 G G) ax) (zC 12 1 G dH (zB 12 G (λ hg=>aF 15 G zk hg (lz0 1 G) (Sub.part 2 G G) ax) (zB 12 G (λ hg=>be (eY _ _ hx.b3) (.p (ak (vq 14 G) hg) (ak (vq 16 G) hg))) (zv G (bA (vq 12 G) (vq 17 G)) (zA 18 G o0)))))))))))))))))))) (zz [(4,_)] [O 2 30 _,O 3 30 _] λ a w U=>?_)
 refine aa<|qg<|ao ?_ (an G U (zm 0 G))
 exact aZ (qm Bo HU)
theorem Bk {b:Nat}{E:TypeId}{m:Nat}{l:List As}(h1:∀ A∈l,A.n=m)(h2:∀ A∈l,∀ T∈A.deps,T∈D)(h3:l.length≤1000):Wk (NewR b E l) (OwnR b E m D l):=λ B v w ⟨g,ds,e1,e2,e3,e4⟩=>by
 have hl:ds.length=l.length*m:=by
  rw [(cat l).len _ _ _ e4]
  have:=rM h1 (qi l.length)
  unfold offs at this
  rw [qF] at this
  exact this
 refine ⟨h1,h2,ds,e4,by simp [hl],.inr ⟨g,l.length,ds.toArray,e1,e2,e3,qi _,by unfold maxLen; omega,by simp [hl],by rw [← hl]; simp⟩⟩
theorem ben_nx {t:RTk}{l:List Nat}{j:Nat}(h:j<l.length):benW t (l.take (j+1))=benW t (l.take j)++[(t.ps.getD l[j] ⟨⟨#[]⟩,⟨0,rf0,rf0⟩,0⟩).e,spE (t.sp.getD (j+1) rf0)]:=by
 rw [qu h]
 unfold benW
 rw [oF,qB,qY,xl zo]
 simp
theorem ben_0 (t:RTk):benW t []=[spE (t.sp.getD 0 rf0)]:=rfl
theorem ck_el {t:RTk}(h:ckF t=0){j:Nat}(hj:j<t.sp.length):okX t.sp[j]=true:=by
 have h2:=qd.1 (fv h).2.1 _ (qf hj)
 unfold spcF at h2
 simp only [qv,qI,qk] at h2
 by_cases h3:okX t.sp[j]=true
 ·exact h3
 ·have:=h2.1
  rw [qw h3] at this
  exact absurd this zd
theorem sG (t:RTk)(l:List Nat):(benW t l).length=2*l.length+1:=by
 unfold benW
 rw [qB,sH]; rfl
theorem EH {l:List Int}{m:List Nat}(h:l=m.map (λ (k:Nat)=>(k:Int))):SlA 3 [] (l.map InA)=SlA 3 [] (m.map λ (k:Nat)=>InA (k:Int)):=by rw [h,z6]; rfl
end Go.Proofs.YtedfcalhhldijaaGreatDoor
