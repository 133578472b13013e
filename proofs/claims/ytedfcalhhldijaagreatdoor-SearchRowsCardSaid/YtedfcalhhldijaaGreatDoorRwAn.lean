import Derived.Test.YtedfcalhhldijaaGreatDoorRwAm
import Derived.Deep.Slices
import Derived.ArgAppend
import Derived.SizedLaws
import Derived.Laws.IdiomStrings
set_option linter.all false
set_option maxRecDepth 100000
namespace Go.Proofs.YtedfcalhhldijaaGreatDoor
open Go Go.RowKit
variable {w:World}{B:Nat}{a:Act}{v:Value}{T:TypeId}{w0:Bs}{Γ:List (Nat × VA)}{Λ:List Lc}{ps:String}{af:Array Edge}{vr:Value}{H:Hd}{cs:List Value}{w':World}{P:Program}{D:List TypeId}
def elK (k ps qs:Int):Bool:=if k==1 then decide (ps≥0)&&(qs==0) else if k==2 then (qs==0) else if k==3 then decide (ps≥0)&&decide (qs>0) else if k==4 then true else ((k==5)&&(ps==0))&&(qs==0)
def elF (x:RE):Bool:=[x.p,x.q].all okX&&elK x.k (toQ x.p).num.sign (toQ x.q).num.sign
def elQ (k:Int)(p q:Rat):MQ:=if k=1 then ⟨1,p,0,1⟩ else if k=2 then ⟨1,0,0-p,1⟩ else if k=3 then ⟨1,p/q,0,1⟩ else if k=4 then ⟨1,0,0-p*q,1⟩ else ⟨0-1,0-0,0-0,0-1⟩
def elM (x:RE):MQ:=elQ x.k (toQ x.p) (toQ x.q)
def prodQ (xs:List RE):MQ:=xs.foldl (λ m x=>mulQ (elM x) m) ⟨1,0,0,1⟩
def chF (xs:List RE):Int:=if xs.length>4096 then 4 else if xs.all elF then 0 else 1
theorem DL {x:RE}(h:(![x.p,x.q].all okX)=true):elF x=false:=by rw [qv] at h; rw [elF,h]; rfl
theorem DK {x:RE}(h:(![x.p,x.q].all okX)=false):[x.p,x.q].all okX=true∧elF x=elK x.k (toQ x.p).num.sign (toQ x.q).num.sign:=by rw [jr] at h; exact ⟨h,by rw [elF,h]; rfl⟩
theorem el_q {x:RE}(h:[x.p,x.q].all okX=true):WkA (REA x) (QEA 2048 x.k (toQ x.p) (toQ x.q)):=by
 simp only [xS,x8,xT,ql] at h
 exact bo (.cons (WkA.refl _) (.cons (qa_x h.1 (qi _)) (.cons (qa_x h.2 (qi _)) .nil)))
theorem CT (x:RE):UpA (REA x) (REA x):=gg (.cons (fD _ _) (.cons (fE _) (.cons (fE _) .nil)))
theorem kd1 {k ps qs:Int}(h:(k==1)=true):elK k ps qs=(decide (ps≥0)&&(qs==0)):=by rw [elK,h]; rfl
theorem kd2 {k ps qs:Int}(h1:(k==1)=false)(h:(k==2)=true):elK k ps qs=(qs==0):=by rw [elK,h1,h]; rfl
theorem kd3 {k ps qs:Int}(h1:(k==1)=false)(h2:(k==2)=false)(h:(k==3)=true):elK k ps qs=(decide (ps≥0)&&decide (qs>0)):=by rw [elK,h1,h2,h]; rfl
theorem kd4 {k ps qs:Int}(h1:(k==1)=false)(h2:(k==2)=false)(h3:(k==3)=false)(h:(k==4)=true):elK k ps qs=true:=by rw [elK,h1,h2,h3,h]; rfl
theorem kd5 {k ps qs:Int}(h1:(k==1)=false)(h2:(k==2)=false)(h3:(k==3)=false)(h4:(k==4)=false):elK k ps qs=(((k==5)&&(ps==0))&&(qs==0)):=by rw [elK,h1,h2,h3,h4]; rfl
theorem GF (x:RE):Cn Tryz.prog 179 [(REA x).va] (Bo (elF x)):=by
 refine Cn.intro Tryz.func179 G zk nq (λ B w0 a U=>?_)
 have U:=zn [(0,(REA x).va)] [] U
 refine qb<|zg [] [⟨1,98,ptrH,some 0,_,none⟩] [.alc 0,.v 2 _] [.o 1] U (zW 0 G (zv G (ac aJ) o0)) (zz [(2,_)] [O 1 98 _] λ a w U=>?_)
 refine zt<|qb<|zg [η] [] [.adr 5 1 (.some 1) True,.v 6 _,.adr 7 1 (.some 5) True,.v 8 _,.v 9 _,.v 10 _,.v 11 _] [.g 0,.o 6] U (zO 0 G bR (zL 0 0 1 G ax (zO 0 G c9 (zL 2 0 2 G ax (zv G (bJ (D:=[U32]) (l:=[_,_]) (xs:=[.tmp 6,.tmp 8]) (cT zk) cO zk (n_ok zk) nq nq nq (.p (vq 1 G) (vq 3 G)) G G) (zQ G (Ct [x.p,x.q] nq) (.o (vq 4 G)) (zv G (dY (vq 5 G)) o0))))))) (zz [(2,_),(11,_)] [O 1 98 _] λ a w U=>?_)
 refine aa<|aj U (zm 1 G) (λ hb0=>?_) (λ hb0=>?_)
 ·refine qb<|zg [η] [] [.v 2 _] [.o 0] U (zv G (ac aJ) o0) (zz [(2,_)] [O 1 98 _] λ a w U=>?_)
  refine aa<|qg<|al ?_
  refine ao ?_ (an G U (zm 0 G))
  rw [DL hb0]; exact aL
 ·obtain ⟨hx,he⟩:=DK hb0
  have U:=St.wkL U 0 rfl (el_q hx)
  refine qh<|zt<|zgd [[],[0],[0,1],[],[3],[0,1,2,3,4],[0,1,2,3,4,5],[0,1,2,3,4,5,6]] [none] [] [.adr 12 1 (.some 1) True,.v 13 _,.v 14 _,.adr 15 1 (.some 5) True,.v 16 _,.v 17 _,.v 3 _,.v 4 _] [.g 0,.o 6,.o 7] ae U (zO 0 G bR (zL 0 0 1 G ax (zQ G sign_q (.o (vq 1 G)) (zO 0 G c9 (zL 3 0 2 G ax (zQ G sign_q (.o (vq 4 G)) (zA 2 G (zA 5 G o0)))))))) zk zk zk zk (zz [(2,_),(3,_),(4,_)] [O 1 98 _] λ a w U=>?_)
  refine zt<|qb<|zg [η] [] [.adr 18 1 (.some 0) True,.v 19 _] [.g 0,.g 1,.g 2,.o 1] U (zO 0 G dE (zL 0 0 0 G nD o0)) (zz [(2,_),(3,_),(4,_),(19,_)] [O 1 98 _] λ a w U=>?_)
  refine aa<|qj<|qb<|zg [η] [] [.v 21 _,.v 20 _] [.g 0,.g 1,.g 2,.g 3,.o 1] U (zv G (bC (gq 3 G) ab) (zA 0 G o0)) (zz [(2,_),(3,_),(4,_),(19,_),(20,_)] [O 1 98 _] λ a w U=>?_)
  refine aa<|aj U (zm 4 G) (λ hb1=>?_) (λ hb1=>?_)
  ·refine qb<|zg [η] [] [.v 22 _,.v 23 _,.v 24 _,.t 25 _,.t 26 _,.v 27 _,.v 2 _] [.g 1,.g 2,.o 6] U (zM 1 G (zv G (d9 (vq 0 G) ab) (zv G (ai (vq 1 G)) (zB 2 G (λ hg=>ai (gq 2 G)) (zB 2 G (λ hg=>bC (ak (vq 3 G) hg) ab) (zv G (bA (vq 2 G) (vq 4 G)) (zA 5 G o0))))))) (zz [(3,_),(4,_),(2,_)] [O 1 98 _] λ a w U=>?_)
   refine aa<|qg<|aE ?_
   refine al ?_
   refine ao ?_ (an G U (zm 2 G))
   rw [he,kd1 hb1]; exact aL
  ·refine qb<|zg [η] [] [.v 29 _,.v 28 _] [.g 0,.g 1,.g 2,.g 3,.o 1] U (zv G (bC (gq 3 G) ab) (zA 0 G o0)) (zz [(2,_),(3,_),(4,_),(19,_),(28,_)] [O 1 98 _] λ a w U=>?_)
   refine aa<|aj U (zm 4 G) (λ hb2=>?_) (λ hb2=>?_)
   ·refine qb<|zg [η] [] [.v 30 _,.v 31 _,.v 2 _] [.g 1,.g 2,.o 2] U (zM 2 G (zv G (bC (vq 0 G) ab) (zA 1 G o0))) (zz [(3,_),(4,_),(2,_)] [O 1 98 _] λ a w U=>?_)
    refine aa<|qg<|aE ?_
    refine al ?_
    refine ao ?_ (an G U (zm 2 G))
    rw [he,kd2 hb1 hb2]; exact aL
   ·refine qb<|zg [η] [] [.v 33 _,.v 32 _] [.g 0,.g 1,.g 2,.g 3,.o 1] U (zv G (bC (gq 3 G) ab) (zA 0 G o0)) (zz [(2,_),(3,_),(4,_),(19,_),(32,_)] [O 1 98 _] λ a w U=>?_)
    refine aa<|aj U (zm 4 G) (λ hb3=>?_) (λ hb3=>?_)
    ·refine qb<|zg [η] [] [.v 34 _,.v 35 _,.v 36 _,.t 37 _,.t 38 _,.v 39 _,.v 2 _] [.g 1,.g 2,.o 6] U (zM 1 G (zv G (d9 (vq 0 G) ab) (zv G (ai (vq 1 G)) (zB 2 G (λ hg=>ai (gq 2 G)) (zB 2 G (λ hg=>ci (ak (vq 3 G) hg) ab) (zv G (bA (vq 2 G) (vq 4 G)) (zA 5 G o0))))))) (zz [(3,_),(4,_),(2,_)] [O 1 98 _] λ a w U=>?_)
     refine aa<|qg<|aE ?_
     refine al ?_
     refine ao ?_ (an G U (zm 2 G))
     rw [he,kd3 hb1 hb2 hb3]; exact aL
    ·refine qb<|zg [η] [] [.v 41 _,.v 40 _] [.g 0,.g 1,.g 2,.o 1] U (zv G (bC (gq 3 G) ab) (zA 0 G o0)) (zz [(2,_),(3,_),(4,_),(40,_)] [O 1 98 _] λ a w U=>?_)
     refine aa<|aj U (zm 3 G) (λ hb4=>?_) (λ hb4=>?_)
     ·refine qb<|zg [η] [] [.v 2 _] [.g 1,.g 2,.o 0] U (zv G (ac aJ) o0) (zz [(3,_),(4,_),(2,_)] [O 1 98 _] λ a w U=>?_)
      refine aa<|qg<|aE ?_
      refine al ?_
      refine ao ?_ (an G U (zm 2 G))
      rw [he,kd4 hb1 hb2 hb3 hb4]; exact aL
     ·refine qh<|ap ?_
      refine zt<|zg [η] [] [.adr 42 1 (.some 0) True,.v 43 _,.v 44 _,.v 45 _,.t 46 _,.t 47 _,.v 48 _,.v 49 _,.t 50 _,.t 51 _,.v 52 _,.v 2 _] [.o 11] U (zO 0 G dE (zL 0 0 0 G nD (zv G (bC (vq 1 G) ab) (zv G (ai (vq 2 G)) (zB 3 G (λ hg=>ai (gq 1 G)) (zB 3 G (λ hg=>bC (ak (vq 4 G) hg) ab) (zv G (bA (vq 3 G) (vq 5 G)) (zv G (ai (vq 6 G)) (zB 7 G (λ hg=>ai (gq 2 G)) (zB 7 G (λ hg=>bC (ak (vq 8 G) hg) ab) (zv G (bA (vq 7 G) (vq 9 G)) (zA 10 G o0)))))))))))) (zz [(2,_)] [O 1 98 _] λ a w U=>?_)
      refine aa<|qg<|ao ?_ (an G U (zm 0 G))
      rw [he,kd5 hb1 hb2 hb3 hb4]; exact aL
theorem lp {α:Type}{p:α→Bool}{l:List α}{j:Nat}(h:j<l.length)(h2:p l[j]=false):l.all p=false:=vi.2 ⟨_,qf h,by simp [h2]⟩
theorem lr {α:Type}{p:α→Bool}{l:List α}{j:Nat}(h:j<l.length)(h1:(l.take j).all p=true)(h2:p l[j]=true):(l.take (j+1)).all p=true:=by
 rw [qu h,vA,h1]
 simp [h2]
theorem tM (xs:List RE):Cn Tryz.prog 101 [(SlA 98 [U32] (xs.map REA)).va] (In (chF xs)):=by
 refine Cn.introW Tryz.func101 rfl zk nq (.cons (fC (λ A hA=>by obtain ⟨x,_,rfl⟩:=qq.1 hA; exact CT x)).va .nil) (ce _ _).va (λ B w0 a hB0 U=>?_)
 have U:=zn [(0,(SlO 98 [U32] (xs.map REA) True).va)] [] U
 have hl:=EI (U.vals (0,(SlO 98 [U32] (xs.map REA) True).va) (zm 0 rfl))
 rw [qc] at hl
 refine qb<|zh [.v 2 _] [.g 0,.o 0] U (zv G (ac ab) o0) (zz [(0,_),(2,_)] [] λ a w U=>?_)
 refine zt<|qb<|zh [.v 5 _,.v 6 _,.v 7 _] [.g 0,.g 1,.o 2] U (zM 0 G (zv G (bg Tryz.underlying109 (bm (aD (vq 0 G)))) (zv G (ci (vq 1 G) ab) o0))) (zz [(0,_),(2,_),(7,_)] [] λ a w U=>?_)
 refine aa<|aj U (zm 2 G) (λ hb0=>?_) (λ hb0=>?_)
 ·have hbig:xs.length>4096:=by rw [qc] at hb0; have:=qp hb0; omega
  refine qb<|zh [.v 2 _] [.g 0,.o 0] U (zv G (ac ab) o0) (zz [(0,_),(2,_)] [] λ a w U=>?_)
  refine aa<|qg<|al ?_
  refine ao ?_ (an G U (zm 1 G))
  rw [chF,qz hbig]; exact aL
 ·have hbig:¬ xs.length>4096:=by rw [qc] at hb0; have:=qr hb0; omega
  refine qh<|zt<|qb<|zh [.v 8 _,.v 9 _,.v 10 _] [.g 1,.o 0,.o 1,.o 2] U (zM 0 G (zv G (bg Tryz.underlying109 (bm (aD (vq 0 G)))) (zv G (ai ab) o0))) (zz [(2,_),(8,_),(9,_),(10,_)] [] λ a w U=>?_)
  refine aa<|qj ?_
  have U:=St.sel U [1,2,3]
  refine wp_loop_ghost (λ n a w=>∃ j:Nat,(n+j=xs.length∧(xs.take j).all elF=true)∧St B w0 18 [(8,(SlO 98 [U32] (xs.map REA) True).va),(9,In (xs.length:Nat)),(10,In (j:Nat))] [] a w) (xs.length) ?_ ?_
  ·exact ⟨0,⟨by omega,rfl⟩,by rw [qc] at U; exact U⟩
  intro n a w hI
  obtain ⟨j,⟨hn,hno⟩,U⟩:=hI
  refine qb<|zh [.v 11 _] [.g 0,.g 1,.g 2,.o 0] U (zv G (aS (gq 2 G) (gq 1 G)) o0) (zz [(8,_),(9,_),(10,_),(11,_)] [] λ a w U=>?_)
  refine zt<|aj U (zm 3 G) (λ hb1=>?_) (λ hb1=>?_)
  ·have hj:j<xs.length:=by simp at hb1; omega
   refine qh<|zt<|qj<|qb<|zg [] [⟨4,98,ptrH,some 2,_,some (3,_)⟩] [.v 12 _,.v 13 _,.alc 0,.sto 0] [.g 0,.g 1,.g 2] U (zv G (bH nK (bW λ _=>rfl) (bm (aD (gq 0 G))) (gq 2 G) (bz hj)) (zv G (au (vq 0 G) fh) (zY G (Str.zero eR) (zS 1 G fh o0)))) (zz [(8,_),(9,_),(10,_)] [O 4 98 _] λ a w U=>?_)
   refine zt<|zg [η] [] [.v 14 _,.v 15 _,.v 16 _] [.g 0,.g 1,.g 2,.o 2] U (zl 0 G fh (zQ G (GF _) (.o (vq 0 G)) (zv G (dY (vq 1 G)) o0))) (zz [(8,_),(9,_),(10,_),(16,_)] [O 4 98 _] λ a w U=>?_)
   refine aa<|aj U (zm 3 G) (λ hb2=>?_) (λ hb2=>?_)
   ·refine qb<|zg [η] [] [.v 2 _] [.g 0,.g 1,.g 2,.o 0] U (zv G (ac ab) o0) (zz [(8,_),(9,_),(10,_),(2,_)] [O 4 98 _] λ a w U=>?_)
    refine aa<|qg<|aE ?_
    refine al ?_
    refine al ?_
    refine aE ?_
    refine al ?_
    refine ao ?_ (an G U (zm 3 G))
    rw [chF,qw hbig,lp hj (by simpa using hb2)]; exact aL
   ·refine qh<|ap ?_
    refine aa<|zg [η] [] [.v 17 _,.v 10 _] [.g 0,.g 1,.o 1] U (zv G (aN (gq 2 G) ab ((wi64 zo zo).trans (by omega:(_:Int)=((j+1:Nat):Int)))) (zv G (ai (vq 0 G)) o0)) (zz [(8,_),(9,_),(10,_)] [O 4 98 _] λ a w U=>?_)
    refine aa ?_
    have U:=St.sel U [0,1,2]
    have U:=St.selL U []
    exact ⟨n-1,by omega,j+1,⟨by omega,lr hj hno (by simpa using hb2)⟩,U⟩
  ·obtain rfl:j=xs.length:=by simp at hb1; omega
   refine qK<|am<|am<|aB<|zt<|zh [.v 2 _] [.o 0] U (zv G (ac ab) o0) (zz [(2,_)] [] λ a w U=>?_)
   refine aa<|qg<|ao ?_ (an G U (zm 0 G))
   rw [qF] at hno; rw [chF,qw hbig,hno]; exact aL
def RepM (b:Nat)(m:MQ):Prop:=∃ n1 n2 n3 n4 D:Int,D≠0∧m.a=(n1:Rat)/(D:Rat)∧m.b=(n2:Rat)/(D:Rat)∧m.c=(n3:Rat)/(D:Rat)∧m.d=(n4:Rat)/(D:Rat)∧lz n1≤b∧lz n2≤b∧lz n3≤b∧lz n4≤b∧lz D≤b
theorem uN {b:Nat}{m:MQ}(h:RepM b m):bQ b m.a∧bQ b m.b∧bQ b m.c∧bQ b m.d:=by
 obtain ⟨n1,n2,n3,n4,D,hD,e1,e2,e3,e4,h1,h2,h3,h4,h5⟩:=h
 rw [e1,e2,e3,e4,← xZ,← xZ,← xZ,← xZ]
 obtain ⟨a1,a2⟩:=ft (p:=n1) hD
 obtain ⟨b1,b2⟩:=ft (p:=n2) hD
 obtain ⟨c1,c2⟩:=ft (p:=n3) hD
 obtain ⟨d1,d2⟩:=ft (p:=n4) hD
 exact ⟨⟨by omega,by omega⟩,⟨by omega,by omega⟩,⟨by omega,by omega⟩,⟨by omega,by omega⟩⟩
theorem mF {a b c d D E:Rat}(hD:D≠0)(hE:E≠0):a/D*(c/E)+b/D*(d/E)=(a*c+b*d)/(D*E):=by grind
theorem rR {c d:Nat}{a b x y:Int}(ha:lz a≤c)(hb:lz b≤c)(hx:lz x≤d)(hy:lz y≤d):lz (a*x+b*y)≤c+d+1:=by
 have h1:=nX (a*x) (b*y)
 have h2:=fR a x
 have h3:=fR b y
 omega
theorem uM {c d:Nat}{m q:MQ}(hm:RepM c m)(hq:RepM d q):RepM (c+d+1) (mulQ m q):=by
 obtain ⟨n1,n2,n3,n4,D,hD,e1,e2,e3,e4,h1,h2,h3,h4,h5⟩:=hm
 obtain ⟨k1,k2,k3,k4,E,hE,f1,f2,f3,f4,g1,g2,g3,g4,g5⟩:=hq
 have hDr:(D:Rat)≠0:=λ e=>hD (by exact_mod_cast e)
 have hEr:(E:Rat)≠0:=λ e=>hE (by exact_mod_cast e)
 refine ⟨n1*k1+n2*k3,n1*k2+n2*k4,n3*k1+n4*k3,n3*k2+n4*k4,D*E,ke hD hE,?_,?_,?_,?_,rR h1 h2 g1 g3,rR h1 h2 g2 g4,rR h3 h4 g1 g3,rR h3 h4 g2 g4,?_⟩
 ·simp only [mulQ,e1,e2,f1,f3,jI,jH]
  exact mF hDr hEr
 ·simp only [mulQ,e1,e2,f2,f4,jI,jH]
  exact mF hDr hEr
 ·simp only [mulQ,e3,e4,f1,f3,jI,jH]
  exact mF hDr hEr
 ·simp only [mulQ,e3,e4,f2,f4,jI,jH]
  exact mF hDr hEr
 ·have:=fR D E
  omega
theorem rz {b:Nat}{m:MQ}(n1 n2 n3 n4 D:Int)(hD:D≠0)(e1:m.a*(D:Rat)=(n1:Rat))(e2:m.b*(D:Rat)=(n2:Rat))(e3:m.c*(D:Rat)=(n3:Rat))(e4:m.d*(D:Rat)=(n4:Rat))(h1:lz n1≤b)(h2:lz n2≤b)(h3:lz n3≤b)(h4:lz n4≤b)(h5:lz D≤b):RepM b m:=by
 have hDr:(D:Rat)≠0:=λ e=>hD (by exact_mod_cast e)
 have key:∀ {x:Rat} {n:Int},x*(D:Rat)=(n:Rat)→x=(n:Rat)/(D:Rat):=λ h=>by rw [← h]; exact (Rat.mul_div_cancel hDr).symm
 exact ⟨n1,n2,n3,n4,D,hD,key e1,key e2,key e3,key e4,h1,h2,h3,h4,h5⟩
theorem yG (x:Rat):x*((x.den:Int):Rat)=(x.num:Rat):=by
 have:=nd_eq x
 have hd:=den_ne x
 generalize ((x.den:Int):Rat)=d at *
 generalize (x.num:Rat)=n at *
 grind
theorem lz_0:lz 0=0:=by kernel_rfl
theorem mJ:lz 1≤1:=x9 zk
theorem Ic {k:Nat}{x:Rat}(h:bQ k x):RepM k ⟨1,x,0,1⟩:=rz (x.den:Int) x.num 0 (x.den:Int) (x.den:Int) (by have:=x.den_pos; omega) (jy _) (yG x) (kD _) (jy _) h.2 h.1 (by rw [lz_0]; omega) h.2 h.2
theorem Ib {k:Nat}{x:Rat}(h:bQ k x):RepM k ⟨1,0,x,1⟩:=rz (x.den:Int) 0 x.num (x.den:Int) (x.den:Int) (by have:=x.den_pos; omega) (jy _) (kD _) (yG x) (jy _) h.2 (by rw [lz_0]; omega) h.1 h.2 h.2
theorem rep_1:RepM 1 ⟨1,0,0,1⟩:=rz 1 0 0 1 1 zd (by grind) (by grind) (by grind) (by grind) mJ (by rw [lz_0]; omega) (by rw [lz_0]; omega) mJ mJ
theorem rep_f:RepM 1 ⟨0-1,0-0,0-0,0-1⟩:=rz (-1) 0 0 (-1) 1 zd (by grind) (by grind) (by grind) (by grind) nq (by rw [lz_0]; omega) (by rw [lz_0]; omega) nq mJ
theorem fL {b c:Nat}{m:MQ}(h:RepM b m)(hc:b≤c):RepM c m:=by
 obtain ⟨n1,n2,n3,n4,D,hD,e1,e2,e3,e4,h1,h2,h3,h4,h5⟩:=h
 exact ⟨n1,n2,n3,n4,D,hD,e1,e2,e3,e4,by omega,by omega,by omega,by omega,by omega⟩
theorem E1 {k:Nat}{x:Rat}(h:bQ k x):bQ k (0-x):=by
 have e:0-x = -x:=by grind
 rw [e]
 exact ⟨by rw [kK,gV]; exact h.1,by rw [kL]; exact h.2⟩
theorem bQ_div {c d:Nat}{x y:Rat}(hx:bQ c x)(hy:bQ d y)(h0:y≠0):bQ (c+d) (x/y):=by
 rw [← oZ]
 obtain ⟨h1,h2⟩:=ft (p:=x.num*(y.den:Int)) (wm x h0)
 have h3:=fR x.num (y.den:Int)
 have h4:=fR (x.den:Int) y.num
 obtain ⟨x1,x2⟩:=hx
 obtain ⟨y1,y2⟩:=hy
 exact ⟨by omega,by omega⟩
theorem Do {x:RF}(h:okX x=true):bQ 2048 (toQ x):=(okX_q h).2
theorem g9 {x:RE}(h:elF x=true):[x.p,x.q].all okX=true∧(x.k=1∨x.k=2∨(x.k=3∧toQ x.q≠0)∨x.k=4∨x.k=5):=by
 unfold elF at h
 rw [ql] at h
 refine ⟨h.1,?_⟩
 have h2:=h.2
 by_cases h1:x.k=1
 ·exact .inl h1
 ·by_cases h3:x.k=2
  ·exact .inr (.inl h3)
  ·by_cases h4:x.k=3
   ·rw [kd3 (by simpa using h1) (by simpa using h3) (by simpa using h4),ql] at h2
    refine .inr (.inr (.inl ⟨h4,λ e=>?_⟩))
    rw [e] at h2
    have:=qp h2.2
    exact absurd this zd
   ·by_cases h5:x.k=4
    ·exact .inr (.inr (.inr (.inl h5)))
    ·rw [kd5 (by simpa using h1) (by simpa using h3) (by simpa using h4) (by simpa using h5)] at h2
     simp only [ql,xc] at h2
     exact .inr (.inr (.inr (.inr h2.1.1)))
theorem DJ {x:RE}(h:elF x=true):RepM 4096 (elM x):=by
 obtain ⟨hx,hk⟩:=g9 h
 simp only [xS,x8,xT,ql] at hx
 have bp:=Do hx.1
 have bq:=Do hx.2
 unfold elM
 rcases hk with hk | hk | ⟨hk,h0⟩ | hk | hk <;> rw [hk]
 ·exact fL (Ic bp) zd
 ·exact fL (Ib (E1 bp)) zd
 ·exact Ic (bQ_div bp bq h0)
 ·exact Ib (E1 (bQ_mul bp bq))
 ·exact fL rep_f zd
theorem vM {xs:List RE}{j:Nat}(h:j<xs.length):prodQ (xs.take (j+1))=mulQ (elM xs[j]) (prodQ (xs.take j)):=by
 rw [qu h]
 unfold prodQ
 rw [vh]
 rfl
theorem mt {xs:List RE}(h:xs.all elF=true):∀ j,j≤xs.length→RepM (1+4097*j) (prodQ (xs.take j))
 | 0,_=>rep_1
 | j+1,hj=>by
  rw [vM zo]
  exact fL (uM (DJ (qd.1 h _ (qf zo))) (mt h j zo)) zo
theorem B5 {k k':Nat}{x:Rat}(h:bQ k' x):WkA (QA k x) (QA k' x):=qaA.trans (B4 h.1 h.2)
theorem ch_ok {xs:List RE}(h:chF xs=0):xs.length≤4096∧xs.all elF=true:=by
 unfold chF at h
 by_cases h1:xs.length>4096
 ·rw [qz h1] at h; exact absurd h zd
 ·rw [qw h1] at h
  cases h2:xs.all elF with
  | true=>exact ⟨by omega,rfl⟩
  | false=>rw [h2] at h; exact absurd h zd
theorem CF:∃ it z,Tryz.prog.info? 98=some it∧it.zero=some z∧it.size=9∧it.bytes=136∧z.cells.size=9:=by
 have h:((Tryz.prog.info? 98).bind λ it=>it.zero.map λ z=>(it.size,it.bytes,z.cells.size))=some (9,136,9):=by kernel_rfl
 cases hi:Tryz.prog.info? 98 with
 | none=>rw [hi] at h; simp at h
 | some it =>
  rw [hi] at h
  cases hz:it.zero with
  | none=>simp [hz] at h
  | some z =>
   simp [hz] at h
   exact ⟨it,z,rfl,hz,h.1,h.2.1,h.2.2⟩
open Go.ChangeShapes Go.WideShapes Go.ChangeAt
theorem CL {α β:Type}{R':α→β→Prop}{l1 l2:List α}{m1 m2:List β}(h:All2 R' l1 m1)(h':All2 R' l2 m2):All2 R' (l1++l2) (m1++m2):=by
 induction h with
 | nil=>exact h'
 | cons h1 _ ih=>exact .cons h1 ih
theorem H5 {l l':List As}{ds ds':List Value}(h:(cat l).p B ds w)(h':(cat l').p B ds' w):(cat (l++l')).p B (ds++ds') w:=by
 obtain ⟨ps,rfl,h1⟩:=h
 obtain ⟨ps',rfl,h2⟩:=h'
 exact ⟨ps++ps',by simp,CL h1 h2⟩
theorem Cw {A:As}{ds:List Value}(h:A.p B ds w):(cat [A]).p B ds w:=⟨[ds],by simp,.cons h .nil⟩
section
variable {H:Type} {enc:TypeId × Value→H} {w:World} {base:Nat} {spare:Nat→Bool} {held:Bool} {fuel:Nat} {cs:List Value} {x:DataW H × List MemPlace}
end
open Go.ChangeShapes Go.WideShapes Go.ChangeAt
theorem pn {A:As}(h:(A.deps.all λ T=>D.contains T)=true):∀ T∈A.deps,T∈D:=λ T hT=>by
 have:=qd.1 h T hT
 simpa using this
theorem lj {A0 A1 A2:As}(h0:A0.p B ((cs.drop 0).take A0.n) w)(h1:A1.p B ((cs.drop A0.n).take A1.n) w)(h2:A2.p B ((cs.drop (A0.n+A1.n)).take A2.n) w)(hl:cs.length=A0.n+(A1.n+A2.n)):(cat [A0,A1,A2]).p B cs w :=
 yP (by simpa using hl) λ k A hk=>by
  match k,hk with
  | 0,hk=>simp at hk; subst hk; exact h0
  | 1,hk=>simp at hk; subst hk; simpa [offs] using h1
  | 2,hk=>simp at hk; subst hk; simpa [offs] using h2
section
variable {H:Type} {enc:TypeId × Value→H} {w:World} {base:Nat} {spare:Nat→Bool} {held:Bool} {fuel:Nat} {cs:List Value} {x:DataW H × List MemPlace}
end
def NewR (b:Nat)(E:TypeId)(l:List As):VA where
 p B v w:=∃ g ds,v=.slice (some ⟨g,0,none⟩) l.length l.length∧b≤g∧w.heap[g]?=some (.cells (List.toArray ds) E (0,0))∧(cat l).p B ds w
 deps:=E::(cat l).deps
 cg:=by
  rintro B v w w' hg ⟨g,ds,e,h1,h2,h3⟩
  exact ⟨g,ds,e,h1,hg.heap h2,(cat l).cg _ _ _ _ hg h3⟩
 wr:=by
  rintro B v w w' g c T fz hgc hT hB hW ⟨g0,ds,e,h1,h2,h3⟩
  simp only [qt,not_or] at hT
  have n1:g0≠g:=by
   rintro rfl
   rw [hgc] at h2
   injection h2 with h2
   injection h2 with _ h2 _
   exact hT.1 h2
  exact ⟨g0,ds,e,h1,by rw [hW.block g0 n1]; exact h2,(cat l).wr _ _ _ _ _ _ _ _ hgc hT.2 hB hW h3⟩
def NewB (E:TypeId)(l:List As):VA where
 p B v w:=(NewR B E l).p B v w
 deps:=E::(cat l).deps
 cg:=λ B v w w'=>(NewR B E l).cg B v w w'
 wr:=λ B v w w' g c T fz=>(NewR B E l).wr B v w w' g c T fz
theorem St.toLoc {B N:Nat}(h:St B w0 N Γ Λ a w){s:Nat}{E:TypeId}{l:List As}(k:Nat)(hm:Γ[k]?=some (s,NewR w0.w.heap.size E l))(hT:Λ.all (λ l'=>l'.T != E)=true):
  St B w0 N (Γ.eraseIdx k) (Λ++[⟨s,E,slH l.length l.length,cat l⟩]) a w:=by
 obtain ⟨g,ds,e,h1,h2,h3⟩:=h.vals _ (qa hm)
 have hblk:blk (a.eval (.tmp s))=some g:=by
  have e':a.eval (.tmp s)=.slice (some ⟨g,0,none⟩) l.length l.length:=e
  rw [e']; rfl
 have hdiff:∀ l'∈Λ,blk (a.eval (.tmp l'.s))≠some g:=λ l' hl' hb=>by
  obtain ⟨g',cs,f1,f2,f3,f4⟩:=h.locs l' hl'
  have:g'=g:=by rw [f1,l'.H.ok] at hb; injection hb
  subst this
  rw [h2] at f3
  injection f3 with f3
  injection f3 with _ f3 _
  have:=qd.1 hT l' hl'
  simp only [bne_iff_ne] at this
  exact this f3.symm
 refine ⟨h.lo,h.defers,h.size,h.base,λ x hx=>h.vals x (xi hx),λ l' hl'=>?_,λ l' hl' m' hm' hne=>?_⟩
 ·rcases qo.1 hl' with hl' | hl'
  ·exact h.locs l' hl'
  ·obtain rfl:=qn.1 hl'
   exact ⟨g,ds,e,.inl h1,h2,h3⟩
 ·rcases qo.1 hl' with hl' | hl' <;> rcases qo.1 hm' with hm' | hm'
  ·exact h.dis l' hl' m' hm' hne
  ·obtain rfl:=qn.1 hm'
   show blk (a.eval (.tmp l'.s))≠blk (a.eval (.tmp s))
   rw [hblk]
   exact hdiff l' hl'
  ·obtain rfl:=qn.1 hl'
   show blk (a.eval (.tmp s))≠blk (a.eval (.tmp m'.s))
   rw [hblk]
   exact λ e=>hdiff m' hm' e.symm
  ·obtain rfl:=qn.1 hl'
   obtain rfl:=qn.1 hm'
   exact absurd G hne
theorem yN {l:List As}{m B:Nat}{ds:List Value}(hm:∀ A∈l,A.n=m)(h:(cat l).p B ds w):∀ k,(cat (l.take k)).p B (ds.take (k*m)) w∧(cat (l.drop k)).p B (ds.drop (k*m)) w:=by
 obtain ⟨ps,rfl,h⟩:=h
 induction h with
 | nil=>intro k; simp only [ko,List.drop_nil,vn]; exact ⟨⟨[],rfl,.nil⟩,⟨[],rfl,.nil⟩⟩
 | @cons A c ls bs h1 h2 ih =>
  intro k
  cases k with
  | zero =>
   simp only [jQ,x3,z9]
   exact ⟨⟨[],rfl,.nil⟩,⟨c::bs,rfl,.cons h1 h2⟩⟩
  | succ k =>
   obtain ⟨i1,i2⟩:=ih (λ A' hA=>hm A' (qX _ hA)) k
   have hl:c.length=m:=(A.len _ _ _ h1).trans (hm A (by simp))
   have e1:(c::bs).flatten.take ((k+1)*m)=c++bs.flatten.take (k*m):=by
    rw [zN,List.take_append,qD (by rw [hl,xL]; omega),hl]
    congr 2
    rw [xL]
    omega
   have e2:(c::bs).flatten.drop ((k+1)*m)=bs.flatten.drop (k*m):=by
    rw [zN,vp,q9 (by rw [hl,xL]; omega),xb,hl]
    congr 1
    rw [xL]
    omega
   rw [e1,e2,jU,List.drop_succ_cons]
   refine ⟨?_,i2⟩
   obtain ⟨qs,e,hq⟩:=i1
   exact ⟨c::qs,by rw [zN,← e],.cons h1 hq⟩
section
variable {P:Program} {R:Rg} {Q:Exit→Act→World→Prop} {B i:Nat} {w0:Bs}
theorem AX {S E:TypeId}{l:List As}{m:Nat}{xs:List Operand}(hS:Sl P S E m)(hz:((P.info? E).bind (·.zero)).isSome=true)(hm:∀ A∈l,A.n=m)(hm0:0<m)(hl0:0<l.length)(hsmall:l.length*m≤16777216)
  (hx:All2 (λ (A:As) x=>Has R B w0 i x A.va) l xs) {ps':Array (Nat × Operand)} (hps:ps'.toList=(xs.zipIdx 0).map λ x=>(x.2,x.1)) {n:Nat} (hn:n=l.length):Wv P Q R B w0 i (.buildSlice S n ps') (NewR w0.w.heap.size E l) :=
 bj λ d T ps af gd a w av=>by
  subst hn
  obtain ⟨hs1,hs2⟩:=hS
  cases hi:P.info? E with
  | none=>rw [hi] at hs2; simp at hs2
  | some it =>
   rw [hi] at hs2 hz
   have hsz:it.size=m:=by simpa using hs2
   obtain ⟨z,hzz⟩:=ki.1 hz
   simp only [vj] at hzz
   have hvs:All2 (λ (A:As) v=>A.va.p B v w) l (xs.map a.eval):=by
    clear hps hm hl0 hsmall
    induction hx with
    | nil=>exact .nil
    | cons h _ ih=>exact .cons (h a w av) ih
   have hlen:=hvs.length
   have hvn:∀ v∈xs.map a.eval,v.cells.size=m:=by
    intro v hv
    obtain ⟨k,hk⟩:=List.getElem?_of_mem hv
    have hkl:k<l.length:=by rw [hlen]; exact (List.getElem?_eq_some_iff.1 hk).1
    obtain ⟨v',hv',cs,hp,he⟩:=hvs.get (List.getElem?_eq_getElem hkl)
    rw [hk] at hv'
    injection hv' with hv'
    subst hv'
    rw [he,As.cells_shape _ hp]
    have:=As.len _ _ _ _ hp
    simp [this]
    exact hm _ (by simp)
   have hf:=Great.fill_whole hm0 (xs.map a.eval) ((Array.range (l.length*m)).map (z.cells[· % z.cells.size]!)) hvn (by simp [hlen])
   have hrun:=run_buildSlice (P:=P) w S E l.length (ps'.map λ x=>(x.1,a.eval x.2)) ((xs.map a.eval).flatMap λ v=>v.cells.toList).toArray it z hs1 hi hzz (by rw [hsz]; omega) (by rw [hsz]; exact Nat.ne_of_gt (jg hl0 hm0)) (by
    rw [hsz,← hf]
    congr 1
    rw [vu,hps]
    simp [vy,z6,Function.comp_def])
   refine ⟨.slice (some ⟨w.heap.size,0,none⟩) l.length l.length,w.alloc (.cells ((xs.map a.eval).flatMap λ v=>v.cells.toList).toArray E),?_,Grow.alloc _ _,w.heap.size,_,rfl,av.base.size,heap_alloc_new w _,(cat l).grow _ _ _ _ (Grow.alloc _ _) (lV hvs)⟩
   simp [execOp,hrun]
end
def TwK (g c:Nat)(E:TypeId)(m:Nat)(D:List TypeId)(l:List As)(x:As):VA where
 p B v w:=v=.slice (some ⟨g,0,none⟩) l.length c∧B≤g∧(OwnR 0 E m D (l++[x])).p B (.slice (some ⟨g,0,none⟩) (l.length+1) c) w
 deps:=E::D
 cg:=λ B v w w' hg h=>⟨h.1,h.2.1,(OwnR 0 E m D (l++[x])).cg _ _ _ _ hg h.2.2⟩
 wr:=λ B v w w' g c T fz h1 h2 h3 h4 h=>⟨h.1,h.2.1,(OwnR 0 E m D (l++[x])).wr _ _ _ _ _ _ _ _ h1 h2 h3 h4 h.2.2⟩
def TwS (E:TypeId)(m:Nat)(D:List TypeId)(l:List As)(x:As):VA where
 p B v w:=∃ g c,(TwK g c E m D l x).p B v w
 deps:=E::D
 cg:=λ B v w w' hg ⟨g,c,h⟩=>⟨g,c,(TwK g c E m D l x).cg _ _ _ _ hg h⟩
 wr:=λ B v w w' g c T fz h1 h2 h3 h4 ⟨g',c',h⟩=>⟨g',c',(TwK g' c' E m D l x).wr _ _ _ _ _ _ _ _ h1 h2 h3 h4 h⟩
theorem BQ {l:List As}{B B':Nat}(hB:B'≤B)(hl:∀ A∈l,FreeA A A){ds:List Value}(h:(cat l).p B ds w):(cat l).p B' ds w:=by
 obtain ⟨ps,rfl,h⟩:=h
 refine ⟨ps,rfl,?_⟩
 induction h with
 | nil=>exact .nil
 | cons h _ ih=>exact .cons ((hl _ (by simp)).2.2 _ _ _ _ hB h) (ih λ A hA=>hl A (by simp [hA]))
theorem mS {E:TypeId}{m:Nat}{l:List As}{x:As}(hl:∀ A∈l++[x],FreeA A A):Free (TwS E m D l x) (TwS E m D l x):=λ B B' v w hB ⟨g,c,h1,h2,h3,h4,ds,h5,h6⟩=>⟨g,c,h1,qe hB h2,h3,h4,ds,BQ hB hl h5,h6⟩
theorem St.exK {B N:Nat}(h:St B w0 N Γ Λ a w){s:Nat}{E:TypeId}{m:Nat}{l:List As}{x:As}(k:Nat)(hm:Γ[k]?=some (s,TwS E m D l x)):∃ g c,St B w0 N (Γ.set k (s,TwK g c E m D l x)) Λ a w:=by
 obtain ⟨g,c,hv⟩:=h.vals _ (qa hm)
 exact ⟨g,c,h.lo,h.defers,h.size,h.base,λ y hy=>by
  rcases qy hy with hy | rfl
  ·exact h.vals y hy
  ·exact hv,h.locs,h.dis⟩
theorem m9 {g c:Nat}{E:TypeId}{m:Nat}{l:List As}{x:As}(h:(TwK g c E m D l x).p B v w):l.length+1≤c∧c≤maxLen:=by
 obtain ⟨_,_,_,_,ds,_,_,h6⟩:=h
 rcases h6 with ⟨h6,_⟩ | ⟨g',cap,cur,e1,e2,e3,e4,e5,e6,e7⟩
 ·cases h6
 ·injection e1 with _ _ e1
  rw [qB] at e4
  exact ⟨by rw [e1]; exact e4,by rw [e1]; exact e5⟩
theorem own_w {b:Nat}{E:TypeId}{m:Nat}{l:List As}(h:(OwnR b E m D l).p B v w):(SlA E D l).va.p B v w:=lR _ _ _ h
theorem iC {g c:Nat}{E:TypeId}{m:Nat}{l:List As}{x:As}:Wk (TwK g c E m D l x) (SlA E D l).va:=λ B v w h=>by
 obtain ⟨h1,h2,h3,h4,ds,h5,h6,h7⟩:=h
 rcases h7 with ⟨h7,_⟩ | ⟨g',cap,cur,e1,e2,e3,e4,e5,e6,e7⟩
 ·cases h7
 ·injection e1 with eg _ e1
  injection eg with eg
  injection eg with eg
  subst eg e1 h1
  have hs:=(yN h3 h5 l.length).1
  rw [List.take_left] at hs
  refine ⟨[.slice (some ⟨g,0,none⟩) l.length c],⟨λ A hA=>h4 A (by simp [hA]),_,c,ds.take (l.length*m),rfl,by rw [qB] at e4; exact zU e4,e5,hs,λ _=>⟨g,0,rfl,(Array.getElem?_eq_some_iff.1 e3).1,.inr ⟨_,_,e3⟩,λ j u hu=>?_⟩⟩,rfl⟩
  rw [cell_of_row w g (0+j) cur E _ e3,qO]
  rw [List.getElem?_take] at hu
  split at hu
  ·rw [← e7,List.getElem?_take] at hu
   split at hu
   ·simpa using hu
   ·cases hu
  ·cases hu
theorem CU {E:TypeId}{m:Nat}{l:List As}{x:As}:Wk (TwS E m D l x) (SlA E D l).va:=λ B v w ⟨g,c,h⟩=>iC _ _ _ h
section
variable {P:Program} {R:Rg} {Q:Exit→Act→World→Prop} {B i:Nat} {w0:Bs}
theorem uX {x:Operand}{S E E':TypeId}{g c m:Nat}{l:List As}{z:As}(hS:P.underlying S=some (.slice E'))(hx:Has R B w0 i x (TwK g c E m D l z)):Wv P Q R B w0 i (.call ⟨.builtin .cap,#[x],#[S]⟩) (In (c:Int)) :=
 bj λ d T ps af gd a w av=>by
  have hv:=(hx a w av).1
  refine ⟨.int .i64 (c:Int),w,?_,Grow.refl w,bN _ _ _ _⟩
  simp [execOp,resolve,invoke,builtin,hv,Builtin.cap_,run_underlying hS,goInt]
theorem pa {x y:Operand}{S E:TypeId}{g c m:Nat}{l:List As}{z:As}(hS:Sl P S E m)(hx:Has R B w0 i x (TwK g c E m D l z))(hy:Has R B w0 i y (In ((l.length+1:Nat):Int))):Wv P Q R B w0 i (.slice S x none (some y) none) (SlA E D (l++[z])).va :=
 bj λ d T ps af gd a w av=>by
  have hk:=hx a w av
  have hc:=m9 hk
  obtain ⟨hs1,hs2⟩:=hS
  have e1:=hk.1
  have e3:=bh (hy a w av)
  have hE:P.elem S=E:=by simp [Program.elem,hs1]
  have hs1':P.underlying S=some (.slice (P.elem S)):=by rw [hE]; exact hs1
  have hsz:∀ w,(sizeOf E).run P w=.ok m w:=λ w=>by
   cases hi:P.info? E with
   | none=>rw [hi] at hs2; simp at hs2
   | some it=>rw [hi] at hs2; simp [sizeOf,typeInfo,hi]; simpa using hs2
  refine ⟨.slice (some ⟨g,0,none⟩) (l.length+1) c,w,?_,Grow.refl w,own_w hk.2.2⟩
  have hr:=run_slice_h (P:=P) w S (some ⟨g,0,none⟩) l.length c hs1' .i64 ((l.length+1:Nat):Int) zo zo
  rw [hE,hsz] at hr
  have hne:¬ c=0:=by omega
  simp only [Result.andThen_ok,sliced,zX,hne,if_false,x3,qL,x5] at hr
  simp only [execOp,e1,e3,qL,run_sliceAt_slice _ _ _ _ _ _ hs1',Sem.run_bind,Sem.run_pure]
  erw [hr]
  simp [Addr.add]
theorem pb {S E:TypeId}{m bytes n:Nat}{x y:Operand}{it:TypeInfo}{z:Value}(hS:P.underlying S=some (.slice E))(hi:P.info? E=some it)(hz:it.zero=some z)(hsz:it.size=m)(hby:it.bytes=bytes)(hzs:z.cells.size=m)(hm0:0<m)(hb6:bytes≤1000)(hB:B≤w0.w.heap.size)(hx:Has R B w0 i x (In 0))(hy:Has R B w0 i y (In n))(hn:n≤17592186044):Wv P Q R B w0 i (.makeSlice S x y) (OwnR w0.w.heap.size E m D []) :=
 bj λ d T ps af gd a w av=>by
  have hbn:bytes*n≤1000*n:=qR _ hb6
  have hm:=run_make (P:=P) w S E it z hS hi hz .i64 .i64 0 n zo zo (by
   have h6:((it.bytes*n:Nat):Int)≤281474976710656:=by rw [hby]; omega
   rwa [xo] at h6) zo
  have e1:=bh (hx a w av)
  have e2:=bh (hy a w av)
  refine ⟨.slice (some ⟨w.heap.size,0,none⟩) 0 n,w.alloc (.cells (madeCells z.cells (n*it.size)) E),?_,Grow.alloc _ _,(λ A hA=>by cases hA),(λ A hA=>by cases hA),[],⟨[],rfl,.nil⟩,by simp,.inr ⟨w.heap.size,n,madeCells z.cells (n*it.size),rfl,av.base.size,by simpa using heap_alloc_new w _,zc _,by unfold maxLen; omega,?_,by simp⟩⟩
  ·simp only [zX] at hm
   simp [execOp,e1,e2,hm]
  ·rw [hsz]
   simp [madeCells]
end
open Rg in
theorem mQ {Q:Exit→Act→World→Prop}{B N:Nat}{id:Nat}{ops:Array Oper}{sp:List Sp}(n:Nat)(src:List Nat)(i1 i2:Nat){S E T1 T2 T3 T4 T5:TypeId}{s u d e f c0 c1 c2 m bytes:Nat}{ps1 ps2 ps3 ps4 ps5:String}{af1 af2 af3 af4 af5:Array Edge}{D D':List TypeId}{l:List As}{x:As}{A2 X:VA}{it:TypeInfo}{z:Value}
  (h:St B w0 N Γ Λ a w) (hob:Obs P Q ⟨ops,N,Γ,lesN Λ,sp,λ i=>List.range i⟩ B w0 0 n) (hn2:ops.size=n+5) (hk:Rg.chk ⟨ops,N,Γ,lesN Λ,sp,λ i=>List.range i⟩=true)
  (ho1:ops[n]?=some ⟨some d,.call ⟨.builtin .append,#[.tmp s,.tmp u],#[S,S]⟩,T1,ps1,af1,none⟩) (ho2:ops[n+1]?=some ⟨some c1,.move (.tmp c0),T2,ps2,af2,none⟩)
  (ho3:ops[n+2]?=some ⟨some c2,.call ⟨.builtin .len,#[.tmp c1],#[S]⟩,T3,ps3,af3,none⟩) (ho4:ops[n+3]?=some ⟨some f,.slice S (.tmp d) none (some (.tmp c2)) none,T4,ps4,af4,none⟩) (ho5:ops[n+4]?=some ⟨some e,.assign (.tmp f),T5,ps5,af5,none⟩)
  (kx:Nat) (hkx:Γ[kx]?=some (c0,X)) (hX:∀ B u w,X.p B u w→∃ A c,u=.slice A l.length c) (hXo:Rg.outG ⟨ops,N,Γ,lesN Λ,sp,λ i=>List.range i⟩ c0=true)
  (hi1:i1<n) (h1:sp[i1]?=some (.v s (OwnR w0.w.heap.size E m D l))) (hi2:i2<n) (h2:sp[i2]?=some (.v u A2)) (hA2:∀ w u,A2.p B u w→Kept w0 w→(SlA E D' [x]).va.p B u w)
  (hS:P.underlying S=some (.slice E)) (hi:P.info? E=some it) (hz:it.zero=some z) (hsz:it.size=m) (hby:it.bytes=bytes) (hzs:z.cells.size=m) (hm0:0<m) (hl:l.length+1≤100000000000) (hb6:bytes≤1000)
  (hD':∀ T∈D',T∈D) (hED:E ∉ D) (hxm:x.n=m) (hnd:decide ([d,c1,c2,f,e,c0].Nodup)=true) (hd:d<N) (he:e<N) (hc1:c1<N) (hc2:c2<N) (hf:f<N)
  (hsrc:src.all (λ k=>match Γ[k]? with | some y => !y.2.deps.contains E&&Rg.outG ⟨ops,N,Γ,lesN Λ,sp,λ i=>List.range i⟩ y.1 | none=>false)=true)
  (hΛ:Λ.all (λ l=>l.T != E && !l.A.deps.contains E&&l.s != d&&l.s != e&&l.s != c1&&l.s != c2&&l.s != f)=true)
  (hQ:∀ a w,St B w0 N ((e,TwS E m D l x)::src.filterMap (λ k=>Γ[k]?)) Λ a w→Q .normal a w):(Code.region id ops false).wp P Q a w:=by
 have hles0:∀ y∈lesN Λ,y.cr=none∧y.st=none∧(⟨y.s,y.T,y.H,y.A0⟩:Lc)∈Λ:=λ y hy=>by
  obtain ⟨l',hl',rfl⟩:=qq.1 hy
  exact ⟨rfl,rfl,hl'⟩
 refine Rg.linK (R:=⟨ops,N,Γ,lesN Λ,sp,λ i=>List.range i⟩) (m:=5) hn2 G hk h (λ y hy _=>(hles0 y hy).2.2) (λ i hi=>hob.all i zo zo) λ a1 w1 hinv=>?_
 have hcl:∀ deps,Rg.clash ⟨ops,N,Γ,lesN Λ,sp,λ i=>List.range i⟩ (λ k=>decide (k<n)) deps=false:=λ deps=>by
  unfold Rg.clash
  rw [xh]
  intro y hy
  rw [(hles0 y hy).2.1]
  simp
 have hv:=hinv.v i1 _ s _ h1 rfl (qC hi1) (hcl _)
 have hu:=hA2 _ _ (hinv.v i2 _ u _ h2 rfl (qC hi2) (hcl _)) hinv.base
 have hB:B≤w0.w.heap.size:=hinv.lo _ (.inl (qi _))
 obtain ⟨v',w',hr,r1,r2,r3⟩:=fK (xs:=[x]) (T1:=T1) hS hi hz hsz hby hzs hm0 (by simpa using hl) hb6 hv hu hD' hED (λ y hy=>by simp at hy; subst hy; exact hxm) hinv.base.size hB
 have hnd':=qp hnd
 simp only [xx,qt,z5,or_false,not_or,jn,and_true,not_false_iff] at hnd'
 obtain ⟨⟨n1,n2,n3,n4,n5⟩,⟨n6,n7,n8,n9⟩,⟨n10,n11,n12⟩,⟨n13,n14⟩,n15⟩:=hnd'
 have hgc:∀ q,q<ops.size→Rg.dst ⟨ops,N,Γ,lesN Λ,sp,λ i=>List.range i⟩ q≠some c0:=λ q hq=>by
  have:=qd.1 hXo q (by simpa using hq)
  simpa using this
 obtain ⟨Ax,cx,ex⟩:=hX _ _ _ (hinv.g (c0,X) (qa hkx) (λ q hq hdq=>absurd hdq (hgc q hq)) (hcl _))
 obtain ⟨q1,q2,ds,q3,q4,q5⟩:=r1
 rcases q5 with ⟨_,q5⟩ | ⟨g,cap,cur,e1,e2,e3,e4,e5,e6,e7⟩
 ·simp at q5
 rw [qB,zJ] at e1 e4
 subst e1
 have hsza:a1.tmps.size=N:=hinv.size
 obtain ⟨a2,ha2⟩:∃ a2,a2=a1.put (some d) (.slice (some ⟨g,0,none⟩) (l.length+1) cap):=⟨_,rfl⟩
 obtain ⟨a3,ha3⟩:∃ a3,a3=a2.put (some c1) (.slice Ax l.length cx):=⟨_,rfl⟩
 obtain ⟨a4,ha4⟩:∃ a4,a4=a3.put (some c2) (.int .i64 (l.length:Int)):=⟨_,rfl⟩
 obtain ⟨a5,ha5⟩:∃ a5,a5=a4.put (some f) (.slice (some ⟨g,0,none⟩) l.length cap):=⟨_,rfl⟩
 obtain ⟨a6,ha6⟩:∃ a6,a6=a5.put (some e) (.slice (some ⟨g,0,none⟩) l.length cap):=⟨_,rfl⟩
 have s2:a2.tmps.size=N:=by rw [ha2,size_put]; exact hsza
 have s3:a3.tmps.size=N:=by rw [ha3,size_put]; exact s2
 have s4:a4.tmps.size=N:=by rw [ha4,size_put]; exact s3
 have s5:a5.tmps.size=N:=by rw [ha5,size_put]; exact s4
 have s6:a6.tmps.size=N:=by rw [ha6,size_put]; exact s5
 have hE:P.elem S=E:=by simp [Program.elem,hS]
 have hs1':P.underlying S=some (.slice (P.elem S)):=by rw [hE]; exact hS
 have hszo:∀ w,(sizeOf E).run P w=.ok m w:=λ w=>by simp [sizeOf,typeInfo,hi,hsz]
 rw [List.range'_succ,qA]
 refine bu (R:=⟨ops,N,Γ,lesN Λ,sp,λ i=>List.range i⟩) ho1 G (aY (w':=w') (v:=.slice (some ⟨g,0,none⟩) (l.length+1) cap) (by simp [execOp,resolve,invoke,builtin,hr,Result.andThen]) ?_)
 show wpOps P ops Q _ (a1.put (some d) _) w'
 rw [← ha2]
 rw [List.range'_succ,qA]
 refine bu (R:=⟨ops,N,Γ,lesN Λ,sp,λ i=>List.range i⟩) ho2 G (aY (w':=w') (v:=.slice Ax l.length cx) (by
  have:a2.eval (.tmp c0)=.slice Ax l.length cx:=by rw [ha2,aq _ _ _ _ (λ h=>n5 h.symm)]; exact ex
  simp [execOp,this]) ?_)
 show wpOps P ops Q _ (a2.put (some c1) _) w'
 rw [← ha3]
 rw [List.range'_succ,qA]
 refine bu (R:=⟨ops,N,Γ,lesN Λ,sp,λ i=>List.range i⟩) ho3 G (aY (w':=w') (v:=.int .i64 (l.length:Int)) (by
  have:a3.eval (.tmp c1)=.slice Ax l.length cx:=by rw [ha3]; exact aM _ _ _ (by rw [s2]; exact hc1)
  simp [execOp,resolve,invoke,builtin,this,Builtin.len_,run_underlying hS,goInt]) ?_)
 show wpOps P ops Q _ (a3.put (some c2) _) w'
 rw [← ha4]
 have d4:a4.eval (.tmp d)=.slice (some ⟨g,0,none⟩) (l.length+1) cap:=by rw [ha4,aq _ _ _ _ n2,ha3,aq _ _ _ _ n1,ha2]; exact aM _ _ _ (by rw [hsza]; exact hd)
 have c4:a4.eval (.tmp c2)=.int .i64 (l.length:Int):=by rw [ha4]; exact aM _ _ _ (by rw [s3]; exact hc2)
 rw [List.range'_succ,qA]
 refine bu (R:=⟨ops,N,Γ,lesN Λ,sp,λ i=>List.range i⟩) ho4 G (aY (w':=w') (v:=.slice (some ⟨g,0,none⟩) l.length cap) (by
  have hr2:=run_slice_h (P:=P) w' S (some ⟨g,0,none⟩) (l.length+1) cap hs1' .i64 (l.length:Int) zo zo
  rw [hE,hszo] at hr2
  have hne:¬ cap=0:=by omega
  simp only [Result.andThen_ok,sliced,zX,hne,if_false,x3,qL,x5] at hr2
  simp only [execOp,d4,c4,qL,run_sliceAt_slice _ _ _ _ _ _ hs1',Sem.run_bind,Sem.run_pure]
  erw [hr2]
  simp [Addr.add]) ?_)
 show wpOps P ops Q _ (a4.put (some f) _) w'
 rw [← ha5]
 rw [List.range'_succ,qA]
 refine bu (R:=⟨ops,N,Γ,lesN Λ,sp,λ i=>List.range i⟩) ho5 G (aY (w':=w') (v:=.slice (some ⟨g,0,none⟩) l.length cap) ?_ ?_)
 ·have:a5.eval (.tmp f)=.slice (some ⟨g,0,none⟩) l.length cap:=by rw [ha5]; exact aM _ _ _ (by rw [s4]; exact hf)
  simp [execOp,this]
 show wpOps P ops Q _ (a5.put (some e) _) w'
 rw [← ha6]
 refine hQ _ _ ?_
 have hother:∀ t,t≠d→t≠c1→t≠c2→t≠f→t≠e→a6.eval (.tmp t)=a1.eval (.tmp t):=λ t h1 h2 h3 h4 h5=>by
  rw [ha6,aq _ _ _ _ h5,ha5,aq _ _ _ _ h4,ha4,aq _ _ _ _ h3,ha3,aq _ _ _ _ h2,ha2,aq _ _ _ _ h1]
 have hdf:a6.defers=a1.defers:=by rw [ha6,ha5,ha4,ha3,ha2]; rfl
 have hlc:∀ l'∈Λ,l'.T≠E∧E ∉ l'.A.deps∧a6.eval (.tmp l'.s)=a1.eval (.tmp l'.s):=λ l' hl'=>by
  have:=qd.1 hΛ l' hl'
  simp only [ql,bne_iff_ne,qv,qx,qk] at this
  exact ⟨this.1.1.1.1.1.1,this.1.1.1.1.1.2,hother _ this.1.1.1.1.2 this.1.1.2 this.1.2 this.2 this.1.1.1.2⟩
 have hcur:∀ l'∈Λ,(⟨l'.s,l'.T,l'.H,none,l'.A,none⟩:Le)∈lesN Λ:=λ l' hl'=>qq.2 ⟨l',hl',rfl⟩
 refine ⟨hinv.lo,hinv.defers.grown r2 r3 hdf,s6,?_,?_,?_,?_⟩
 ·exact ⟨r2.os.trans hinv.base.os,r2.tape.trans hinv.base.tape,r2.output.trans hinv.base.output,qe hinv.base.size r2.size,λ k hk hf =>
   (r2.block k (qE hk hinv.base.size) (λ e=>by have:=(r3 k e.symm).1; omega)).trans (hinv.base.block k hk hf)⟩
 ·intro y hy
  rcases qt.1 hy with rfl | hy
  ·show (TwS E m D l x).p B (a6.eval (.tmp e)) w'
   rw [ha6,aM _ _ _ (by rw [s5]; exact he)]
   exact ⟨g,cap,rfl,qe hB e2,q1,q2,ds,q3,q4,.inr ⟨g,cap,cur,by rw [qB]; rfl,zc _,e3,by rw [qB]; exact e4,e5,e6,e7⟩⟩
  ·obtain ⟨k,hk1,hk2⟩:=qQ.1 hy
   have hs:=qd.1 hsrc k hk1
   simp only [hk2,ql,qv,qx,qk] at hs
   have hout:∀ q,q<ops.size→Rg.dst ⟨ops,N,Γ,lesN Λ,sp,λ i=>List.range i⟩ q≠some y.1:=λ q hq=>by
    have:=qd.1 hs.2 q (by simpa using hq)
    simpa using this
   rw [hother _ (λ e1=>hout n zo (by unfold Rg.dst; rw [ho1,e1]; rfl)) (λ e1=>hout (n+1) zo (by unfold Rg.dst; rw [ho2,e1]; rfl)) (λ e1=>hout (n+2) zo (by unfold Rg.dst; rw [ho3,e1]; rfl)) (λ e1=>hout (n+3) zo (by unfold Rg.dst; rw [ho4,e1]; rfl)) (λ e1=>hout (n+4) zo (by unfold Rg.dst; rw [ho5,e1]; rfl))]
   exact VA.grown (hinv.g y (qa hk2) (λ q hq hdq=>absurd hdq (hout q hq)) (hcl _)) r2 r3 hB hs.1
 ·intro l' hl'
  obtain ⟨g1,g2,g3⟩:=hlc l' hl'
  obtain ⟨g,cs,e1,e2,e3,e4⟩:=hinv.c _ (hcur l' hl') l'.A rfl
  refine ⟨g,cs,by rw [g3]; exact e1,e2,?_,As.grown e4 r2 r3 hB g2⟩
  rw [r2.block g (Array.getElem?_eq_some_iff.1 e3).1 (λ e5=>by
   obtain ⟨_,c,fz,e6⟩:=r3 g e5.symm
   rw [e3] at e6
   injection e6 with e6
   injection e6 with _ e6 _
   exact g1 e6)]
  exact e3
 ·intro l1 hl1 l2 hl2 hne'
  rw [(hlc l1 hl1).2.2,(hlc l2 hl2).2.2]
  exact hinv.x _ (hcur l1 hl1) _ (hcur l2 hl2) hne' G rfl
theorem uJ {α:Type}{f:α→As}{xs:List α}{j:Nat}(h:j<xs.length):(xs.take j).map f++[f xs[j]]=(xs.take (j+1)).map f:=by
 rw [qu h,zF]
 rfl
theorem mV (x:RF):FreeA (RFT x) (RFT x):=bF (.cons (mT _) (.cons (mT _) .nil))
theorem eW {p:As→Prop}{l:List As}{z:As}(h1:∀ A∈l,p A)(h2:p z):∀ A∈l++[z],p A:=λ A hA=>by
 rcases qo.1 hA with hA | hA
 ·exact h1 A hA
 ·obtain rfl:=qn.1 hA
  exact h2
theorem dr {α:Type}{p:As→Prop}{f:α→As}{xs:List α}(h:∀ x,p (f x)):∀ A∈xs.map f,p A:=λ A hA=>by
 obtain ⟨x,_,rfl⟩:=qq.1 hA
 exact h x
theorem mH {α:Type}{f k:α→As}(h:∀ x,WkA (f x) (k x)):∀ {xs:List α},All2 WkA (xs.map f) (xs.map k)
 | []=>.nil
 | x::xs=>.cons (h x) (mH h)
theorem iu:FreeA (MgA []) (MgA []):=⟨rfl,rfl,λ B B' cs w hB ⟨ok,hD,A,c,ds,h0,h1,h2,⟨ps,h3,h4⟩,h5⟩=>⟨ok,hD,A,c,ds,h0,h1,h2,by cases h4; exact ⟨[],h3,.nil⟩,λ h=>absurd h zd⟩⟩
theorem sM {α β:Type}{f:α→β}{xs:List α}(h:xs.length<4611686018427387903):IntKind.i64.wrap (((xs.map f).length:Int)+1)=((xs.length+1:Nat):Int):=by rw [qc]; exact ba zo
theorem uj {E:TypeId}{l:List As}{p:Prop}:∀ B u w,(SlO E D l p).va.p B u w→∃ A c,u=.slice A l.length c:=λ B u w ⟨cs,⟨_,_,A,c,ds,h0,_⟩,hv⟩=>by
 subst h0
 exact ⟨A,c,hv⟩
theorem px {α β:Type}{f:α→As}{k:β→As}{xs:List α}{ys:List β}{c:Nat}(h:(((((xs.map f).length:Nat):Int) != (((ys.map k).length:Nat):Int)) || decide ((c:Int)≤(((ys.map k).length:Nat):Int)))=false):xs.length=ys.length:=by
 simp only [qI,qc,bne_eq_false_iff_eq] at h
 have:=h.1
 omega
theorem pv {α:Type}[DecidableEq α]{f k:α→As}{xs ys:List α}{c:Nat}(hc:xs.length+1≤c)(h:(((((xs.map f).length:Nat):Int) != (((ys.map k).length:Nat):Int)) || decide ((c:Int)≤(((ys.map k).length:Nat):Int)))=true):false=decide (xs=ys):=by
 symm
 apply zb
 rintro rfl
 simp at h
 omega
theorem mh {α:Type}[DecidableEq α]{xs ys:List α}{j:Nat}(h2:j<ys.length)(h1:j<xs.length)(ht:xs.take j=ys.take j)(h:(!decide (xs[j]=ys[j]))=false):xs.take (j+1)=ys.take (j+1):=by
 rw [qu h1,qu h2,ht]
 simp at h
 rw [h]
theorem mf {α:Type}[DecidableEq α]{xs ys:List α}{j:Nat}(h2:j<ys.length)(h1:j<xs.length)(h:(!decide (xs[j]=ys[j]))=true):false=decide (xs=ys):=by
 symm
 apply zb
 rintro rfl
 simp at h
open Go.ChangeShapes Go.WideShapes Go.ChangeAt
theorem mE {A:As}(h:(A.deps.all λ T=>D.contains T)=true):∀ T∈A.deps,T∈D:=λ T hT=>by
 have:=qd.1 h T hT
 simpa using this
def wdI (x:RI):Prop:=x.mag.length≤140737488355328
def wdF (x:RF):Prop:=wdI x.num∧wdI x.den
abbrev Wt {H:Type}(P:Program)(t:TypeId)(d:DataW H):Prop:=∀ n∈d.weights P t,n≤reachBytes
section
variable {H:Type} {enc:TypeId × Value→H} {w:World} {base:Nat} {spare:Nat→Bool} {held:Bool} {fuel:Nat} {cs:List Value} {x:DataW H × List MemPlace}
theorem rb_mg (h:DataW.trod enc Tryz.prog w base spare held fuel 24 cs=some x)(hw:Wt Tryz.prog 24 x.1):∃ l,(MgA l).p w.heap.size cs w∧l.length≤140737488355328:=by
 obtain ⟨l,hl⟩:=rd_mg h
 refine ⟨l,hl,?_⟩
 rcases open_ints Tryz.underlying24 Tryz.underlying134 zk h with ⟨hcs,_⟩ | ⟨a,len,cap,zs,rfl,_,h1,hm,hz,hx,hcell,hwz⟩
 ·subst hcs
  obtain ⟨_,_,A,c,ds,e,_⟩:=hl
  rw [qc] at e
  simp only [List.cons.injEq,Value.slice.injEq,and_true] at e
  omega
 ·obtain ⟨_,_,A,c,ds,e,_⟩:=hl
  rw [qc] at e
  simp only [List.cons.injEq,Value.slice.injEq,and_true] at e
  have h4:Tryz.prog.bytesOf 134=4:=by kernel_rfl
  have:=hw (((lits .u32 (zs.take len):List (DataW H)).length+(lits .u32 (zs.drop len):List (DataW H)).length)*Tryz.prog.bytesOf 134) (by rw [hx]; simp [DataW.weights,Tryz.underlying24,lits])
  rw [h4] at this
  simp only [lits,qc,qY,je] at this
  have hlen:len≤zs.length:=by rw [hz]; split <;> omega
  unfold reachBytes at this
  omega
theorem cR {t:TypeId}{fs:Array Field}(ht:P.underlying t=some (.struct fs))(h:DataW.trod enc P w base spare held fuel t cs=some x)(hw:Wt P t x.1)(j:Nat){f:Field}(hf:fs[j]?=some f):
  ∃ n y,DataW.trod enc P w base spare held n f.type ((cs.drop f.offset).take (P.cellsOf f.type))=some y∧Wt P f.type y.1:=by
 obtain ⟨xs,n,_,hx,_,hlen,hel⟩:=DataW.trod_struct ht h
 have hj:j<fs.size:=(Array.getElem?_eq_some_iff.1 hf).1
 have h1:=hel j f hf
 rw [List.getElem?_eq_getElem zo] at h1
 refine ⟨n,_,h1,λ k hk=>hw k ?_⟩
 rw [hx]
 simp only [DataW.weights,ht]
 exact DataW.weights_mem_each (j:=j) (by rw [List.getElem?_map]; show (fs.toList[j]?).map _=_; rw [Array.getElem?_toList,hf]; rfl) (by rw [List.getElem?_map,List.getElem?_eq_getElem zo]; rfl) k hk
theorem rb_ri (h:DataW.trod enc Tryz.prog w base spare held fuel 26 cs=some x)(hw:Wt Tryz.prog 26 x.1):∃ y,(RIA y).p w.heap.size cs w∧wdI y:=by
 have hl:cs.length=2:=by
  obtain ⟨_,_,_,_,hl,_,_⟩:=DataW.trod_struct Tryz.underlying26 h
  exact hl.trans zk
 obtain ⟨n0,y0,h0,w0⟩:=cR Tryz.underlying26 h hw 0 rfl
 have c0:Tryz.prog.cellsOf 4=1:=by kernel_rfl
 have h0:DataW.trod enc Tryz.prog w base spare held n0 4 ((cs.drop 0).take (Tryz.prog.cellsOf 4))=some y0:=h0
 rw [c0] at h0
 obtain ⟨a0,q0⟩:=rd_bo h0
 obtain ⟨n1,y1,h1,w1⟩:=cR Tryz.underlying26 h hw 1 rfl
 have c1:Tryz.prog.cellsOf 24=1:=by kernel_rfl
 have h1:DataW.trod enc Tryz.prog w base spare held n1 24 ((cs.drop 1).take (Tryz.prog.cellsOf 24))=some y1:=h1
 rw [c1] at h1
 obtain ⟨a1,q1,b1⟩:=rb_mg h1 w1
 exact ⟨⟨a0,a1⟩,yM q0 q1 hl,b1⟩
theorem AW (h:DataW.trod enc Tryz.prog w base spare held fuel 28 cs=some x)(hw:Wt Tryz.prog 28 x.1):∃ y,(RFA y).p w.heap.size cs w∧wdF y:=by
 have hl:cs.length=4:=by
  obtain ⟨_,_,_,_,hl,_,_⟩:=DataW.trod_struct Tryz.underlying28 h
  exact hl.trans zk
 obtain ⟨n0,y0,h0,w0⟩:=cR Tryz.underlying28 h hw 0 rfl
 have c0:Tryz.prog.cellsOf 26=2:=by kernel_rfl
 have h0:DataW.trod enc Tryz.prog w base spare held n0 26 ((cs.drop 0).take (Tryz.prog.cellsOf 26))=some y0:=h0
 rw [c0] at h0
 obtain ⟨a0,q0,b0⟩:=rb_ri h0 w0
 obtain ⟨n1,y1,h1,w1⟩:=cR Tryz.underlying28 h hw 1 rfl
 have c1:Tryz.prog.cellsOf 26=2:=by kernel_rfl
 have h1:DataW.trod enc Tryz.prog w base spare held n1 26 ((cs.drop 2).take (Tryz.prog.cellsOf 26))=some y1:=h1
 rw [c1] at h1
 obtain ⟨a1,q1,b1⟩:=rb_ri h1 w1
 exact ⟨⟨a0,a1⟩,yM q0 q1 hl,⟨b0,b1⟩⟩
theorem Hm {α:Type}{A:α→As}{bd:α→Prop}{t:TypeId}{fs:Array Field}{r:Reach}{b0:Nat}{d:DataW H}{p:List MemPlace}(hag:∀ y,(A y).ag=true)(ht:P.underlying t=some (.struct fs))
  (rd:∀ {fuel:Nat} {cs:List Value} {x:DataW H × List MemPlace},DataW.trod enc P w base spare held fuel t cs=some x→Wt P t x.1→∃ y,(A y).p w.heap.size cs w∧bd y)
  (hv:Value.okWide P w r b0 t v) (h:DataW.Trod enc P w base spare held t v d p) (hw:Wt P t d):∃ y,(A y).va.p w.heap.size v w∧bd y:=by
 obtain ⟨cs,hcs,_⟩:=okWide_struct ht hv
 subst hcs
 obtain ⟨fuel,hf⟩:=h
 obtain ⟨y,hy,hb⟩:=rd hf hw
 refine ⟨y,⟨cs.toList,hy,?_⟩,hb⟩
 unfold shape
 rw [hag y,qz rfl]
theorem Hw {ts:List TypeId}{ds:List (DataW H)}(h:(DataW.weightsEach P ts ds).all (· ≤ reachBytes)=true)(j:Nat){t:TypeId}{d:DataW H}(ht:ts[j]?=some t)(hd:ds[j]?=some d):Wt P t d:=λ n hn=>by
 have:=qd.1 h n (DataW.weights_mem_each ht hd n hn)
 simpa using this
theorem fi {P:Program}{e:TypeId}:∀ {l:List (DataW H)} {d:DataW H},d∈l→∀ n∈d.weights P e,n∈DataW.weightsAll P e l
 | [],_,h,_,_=>by cases h
 | x::l,d,h,n,hn=>by
  simp only [DataW.weightsAll,qo]
  rcases qt.1 h with rfl | h
  ·exact .inl hn
  ·exact .inr (fi h n hn)
theorem F6 {α:Type}{A:α→As}{bd:α→Prop}{t e:TypeId}{m:Nat}(ht:P.underlying t=some (.slice e))(hc:P.cellsOf e=m)(hm0:0<m)(hby:0<P.bytesOf e)(hD:∀ y,∀ T∈(A y).deps,T∈D)
  (rd:∀ {fuel:Nat} {cs:List Value} {x:DataW H × List MemPlace},DataW.trod enc P w base spare held fuel e cs=some x→Wt P e x.1→∃ y,(A y).p w.heap.size cs w∧bd y)
  (h:DataW.trod enc P w base spare held fuel t cs=some x) (hw:Wt P t x.1):∃ l:List α,(SlA e D (l.map A)).p w.heap.size cs w∧(∀ y∈l,bd y)∧l.length≤140737488355328:=by
 rcases Go.Deep.open_slice ht h with ⟨rfl,_⟩ | ⟨a,len,cap,m',n,Df,Pl,rfl,hb,hl,hmx,hm',hxx,hel⟩
 ·exact ⟨[],⟨λ A hA=>by simp at hA,none,0,[],rfl,qi _,zc _,⟨[],rfl,.nil⟩,λ h=>absurd h (by simp)⟩,λ y hy=>(by cases hy),by simp⟩
 ·rw [hc] at hel
  have hle:len≤m':=by rw [hm']; split <;> omega
  have hwt:∀ k,k<len→Wt P e (Df k):=λ k hk n hn=>hw n (by
   rw [hxx]
   simp only [DataW.weights,ht]
   exact qX _ (kO _ (fi (qq.2 ⟨k,jS.2 hk,rfl⟩) n hn)))
  have hlw:len≤140737488355328:=by
   have:=hw ((((List.range len).map Df).length+((List.range (m'-len)).map λ j=>Df (len+j)).length)*P.bytesOf e) (by rw [hxx]; simp [DataW.weights,ht])
   simp only [qc,List.length_range] at this
   unfold reachBytes at this
   have h1:(len+(m'-len))*1≤(len+(m'-len))*P.bytesOf e:=zr _ hby
   omega
  have key:∀ k,k≤len→∃ (l:List α) (ds:List Value),l.length=k∧ds.length=k*m∧(cat (l.map A)).p w.heap.size ds w∧(∀ y∈l,bd y)∧∀ (j:Nat) v,ds[j]?=some v→w.cell? (a.add j)=some v:=by
   intro k
   induction k with
   | zero=>exact λ _=>⟨[],[],rfl,by simp,⟨[],rfl,.nil⟩,λ y hy=>(by cases hy),λ j v hv=>by simp at hv⟩
   | succ k ih =>
    intro hk
    obtain ⟨l,ds,h1,h2,h3,hbd,h4⟩:=ih zo
    obtain ⟨cs',q1,q2⟩:=hel k zo
    obtain ⟨y,hy,hyb⟩:=rd q2 (hwt k zo)
    obtain ⟨_,q3,q4⟩:=World.cells?_some q1
    refine ⟨l++[y],ds++cs',by simp [h1],by rw [qB,h2,q3,xL,jO],?_,λ z hz=>by
     rcases qo.1 hz with hz | hz
     ·exact hbd z hz
     ·obtain rfl:=qn.1 hz; exact hyb,λ j v hv=>?_⟩
    ·rw [zF]
     exact H5 h3 (Cw hy)
    ·by_cases hj:j<ds.length
     ·rw [List.getElem?_append_left hj] at hv
      exact h4 j v hv
     ·rw [List.getElem?_append_right zo] at hv
      have hlt:j-ds.length<cs'.length:=(List.getElem?_eq_some_iff.1 hv).1
      have:=q4 (j-ds.length) zo
      rw [Go.Deep.add_add,show k*m+(j-ds.length)=j by omega] at this
      rw [this,hv]
  obtain ⟨l,ds,h1,h2,h3,hbd,h4⟩:=key len (qi _)
  refine ⟨l,⟨λ A' hA=>?_,some a,cap,ds,by rw [qc,h1],by rw [qc,h1]; exact hl,hmx,h3,λ hpos=>?_⟩,hbd,by omega⟩
  ·obtain ⟨y,_,rfl⟩:=qq.1 hA
   exact hD y
  ·rw [qc,h1] at hpos
   have hds:0<ds.length:=by rw [h2]; exact jg hpos hm0
   obtain ⟨b,off,spot⟩:=a
   have h0:=h4 0 (ds[0]) (List.getElem?_eq_getElem hds)
   have hspot:spot=none:=by simpa [Addr.add] using World.cell?_spot h0
   subst hspot
   have hblk:b<w.heap.size:=World.block_lt_of_cell? w _ (by rw [Go.WideShapes.add_plain] at h0; exact h0)
   exact ⟨b,off,rfl,hblk,.inl hblk,λ j v hv=>by rw [← Go.WideShapes.add_plain]; exact h4 j v hv⟩
theorem Hl {α:Type}{A:α→As}{bd:α→Prop}{t e:TypeId}{m:Nat}{r:Reach}{b0:Nat}{d:DataW H}{p:List MemPlace}(ht:P.underlying t=some (.slice e))(hc:P.cellsOf e=m)(hm0:0<m)(hby:0<P.bytesOf e)(hD:∀ y,∀ T∈(A y).deps,T∈D)
  (rd:∀ {fuel:Nat} {cs:List Value} {x:DataW H × List MemPlace},DataW.trod enc P w base spare held fuel e cs=some x→Wt P e x.1→∃ y,(A y).p w.heap.size cs w∧bd y)
  (hv:Value.okWide P w r b0 t v) (h:DataW.Trod enc P w base spare held t v d p) (hw:Wt P t d):∃ l:List α,(SlA e D (l.map A)).va.p w.heap.size v w∧(∀ y∈l,bd y)∧l.length≤140737488355328:=by
 obtain ⟨a,len,cap,rfl⟩:=okWide_slice ht hv
 obtain ⟨fuel,hf⟩:=h
 obtain ⟨l,hl,h2⟩:=F6 ht hc hm0 hby hD rd hf hw
 exact ⟨l,⟨_,hl,rfl⟩,h2⟩
end
theorem fW {x:RF}(h:wdF x):∃ c:Nat,fracCostF x=(c:Int)∧x.num.mag.length+x.den.mag.length+2≤c∧c≤4503599627370496:=by
 obtain ⟨h1,h2⟩:=h
 unfold wdI at h1 h2
 have e1:intSizeF x.num=((1+x.num.mag.length:Nat):Int):=by unfold intSizeF; rw [wi64 zo zo]; omega
 have e2:intSizeF x.den=((1+x.den.mag.length:Nat):Int):=by unfold intSizeF; rw [wi64 zo zo]; omega
 have e3:fracSizeF x=((2+x.num.mag.length+x.den.mag.length:Nat):Int):=by unfold fracSizeF; rw [e1,e2,wi64 zo zo]; omega
 obtain ⟨u,hu⟩:∃ u:Nat,u=min x.num.mag.length 1048576:=⟨_,rfl⟩
 obtain ⟨v,hv⟩:∃ v:Nat,v=min x.den.mag.length 1048576:=⟨_,rfl⟩
 have hu':min (x.num.mag.length:Int) 1048576=(u:Int):=by omega
 have hv':min (x.den.mag.length:Int) 1048576=(v:Int):=by omega
 have huv:u*v≤1048576*1048576:=xC zo zo
 have h16:u*v/16≤68719476736:=qe (Nat.div_le_div_right huv) zd
 have e4:lowCostF x.num x.den=((u*v/16*1024:Nat):Int):=by
  unfold lowCostF
  have t1:IntKind.i64.wrap (((u*v:Nat):Int))=((u*v:Nat):Int):=wi64 zo zo
  have t2:(((u*v:Nat):Int)).tdiv 16=((u*v/16:Nat):Int):=by rw [show (16:Int)=((16:Nat):Int) from rfl,xN zo,← jF]
  have t3:IntKind.i64.wrap (((u*v/16:Nat):Int))=((u*v/16:Nat):Int):=wi64 zo zo
  rw [hu',hv',← xo,t1,t2,t3,wi64 zo zo]
  omega
 refine ⟨2+x.num.mag.length+x.den.mag.length+u*v/16*1024,?_,by omega,by omega⟩
 unfold fracCostF
 rw [e3,e4,wi64 zo zo]
 omega
theorem H9 {n:Nat}{l:List Nat}(hn:n+l.sum≤9223372036854775807)(h:bydF (n:Int) (l.map λ (x:Nat)=>(x:Int))=false):n≤1048576∨l=[]→n+l.sum≤1048576∨l=[]:=by
 induction l generalizing n with
 | nil=>exact λ _=>.inr rfl
 | cons x l ih =>
  intro _
  simp only [z4] at hn
  simp only [qN,bydF] at h
  rw [wi64 zo zo] at h
  split at h
  ·cases h
  ·rename_i h1
   have h2:n+x≤1048576:=by
    rw [qH] at h1
    omega
   rw [show ((n:Int)+(x:Int))=((n+x:Nat):Int) from rfl] at h
   rcases ih (n:=n+x) zo h (.inl h2) with h3 | h3
   ·left; simp only [z4]; omega
   ·subst h3; left; simp; omega
theorem byd_0 {l:List Nat}(hn:l.sum≤9223372036854775807)(h:bydF 0 (l.map λ (x:Nat)=>(x:Int))=false):l.sum≤1048576:=by
 rcases H9 (n:=0) zo h (.inl zd) with h | h
 ·omega
 ·subst h; decide
def RET (x:RE):As:=cat [NumA .u8 x.k,RFT x.p,RFT x.q]
theorem E9 {x:RE}:WkA (RET x) (REA x):=bo (.cons (.refl _) (.cons m5 (.cons m5 .nil)))
theorem BO (x:RE):FreeA (RET x) (RET x):=bF (.cons (ce _ _) (.cons (mV _) (.cons (mV _) .nil)))
theorem oe:FreeA (RFA rf0) (RFA rf0):=bF (.cons (bF (.cons (dv _) (.cons iu .nil))) (.cons (bF (.cons (dv _) (.cons iu .nil))) .nil))
theorem Id {x y:RE}:(((x.k==y.k)&&decide (x.p=y.p))&&decide (x.q=y.q))=decide (x=y):=by
 obtain ⟨a,b,c⟩:=x
 obtain ⟨d,e,f⟩:=y
 by_cases h1:a=d <;> by_cases h2:b=e <;> by_cases h3:c=f <;> simp [h1,h2,h3]
theorem m7 (x:RE)(hx:bdF x.p∧bdF x.q):Cn Tryz.prog 175 [(REA x).va] ((RET x).va):=by
 refine Cn.intro Tryz.func175 G zk nq (λ B w0 a U=>?_)
 have U:=zn [(0,(REA x).va)] [] U
 refine qb<|zg [] [⟨1,98,ptrH,some 0,_,none⟩,⟨2,98,ptrH,some 1,_,none⟩] [.alc 0,.alc 1] [] U (zW 0 G (zY G (Str.zero eR) o0)) (zz [] [O 1 98 _,O 2 98 _] λ a w U=>?_)
 refine zt<|zgd [[],[0],[],[2],[2,3],[],[5],[2,3,4,5,6],[0,1,2,3,4,5,6,7],[0,1,2,3,4,5,6,7,8]] [none,some (9,_)] [] [.adr 3 1 (.some 0) True,.v 4 _,.adr 5 1 (.some 1) True,.v 6 _,.v 7 _,.adr 8 1 (.some 5) True,.v 9 _,.v 10 _,.v 11 _,.sto 1] [] ae U (zO 0 G dE (zL 0 0 0 G nD (zO 0 G bR (zL 2 0 1 G ax (zQ G (eN _ hx.1) (.o (vq 3 G)) (zO 0 G c9 (zL 5 0 2 G ax (zQ G (eN _ hx.2) (.o (vq 6 G)) (zv G (aU (qs:=[(0,_),(1,_),(2,_)]) eR (.cons ⟨rfl,vq 1 rfl,rfl⟩ (.cons ⟨rfl,vq 4 rfl,rfl⟩ (.cons ⟨rfl,vq 7 rfl,rfl⟩ .nil)))) (zS 8 G fh o0)))))))))) zk zk zk zk (zz [] [O 1 98 _,O 2 98 _] λ a w U=>?_)
 refine aa<|qg<|ao ?_ (aA G U (zm 1 G) fh)
 exact aL
theorem mN (x y:RE)(hx:bdF x.p∧bdF x.q):Cn Tryz.prog 214 [(RET x).va,(REA y).va] (Bo (decide (x=y))):=by
 refine Cn.intro Tryz.func214 G zk nq (λ B w0 a U=>?_)
 have U:=zn [(0,(RET x).va),(1,(REA y).va)] [] U
 refine qb<|zg [] [⟨2,98,ptrH,some 0,_,none⟩,⟨3,98,ptrH,some 1,_,none⟩] [.alc 0,.alc 1,.v 4 _] [.o 2] U (zW 0 G (zW 1 G (zv G (ac aJ) o0))) (zz [(4,_)] [O 2 98 _,O 3 98 _] λ a w U=>?_)
 refine zt<|zg [η,η] [] [.adr 5 2 (.some 0) True,.v 6 _,.adr 7 3 (.some 0) True,.v 8 _,.v 9 _,.v 10 _,.adr 11 2 (.some 1) (_=true),.t 12 _,.adr 13 3 (.some 1) (_=true),.t 14 _,.t 15 _,.v 16 _,.v 17 _,.adr 18 2 (.some 5) (_=true),.t 19 _,.adr 20 3 (.some 5) (_=true),.t 21 _,.t 22 _,.v 23 _,.v 4 _] [.o 19] U (zO 0 G dE (zL 0 0 0 G nD (zO 1 G dE (zL 2 1 0 G nD (zv G (bC (vq 1 G) (vq 3 G)) (zv G (ai (vq 4 G)) (zC 5 0 G bR (zB 5 G (λ hg=>aF 6 G zk hg (lz0 0 G) (Sub.part 1 G G) ax) (zC 5 1 G bR (zB 5 G (λ hg=>aF 8 G zk hg (lz0 1 G) (Sub.part 1 G G) ax) (zB 5 G (λ hg=>be (eY _ _ hx.1) (.p (ak (vq 7 G) hg) (ak (vq 9 G) hg))) (zv G (bA (vq 5 G) (vq 10 G)) (zv G (ai (vq 11 G)) (zC 12 0 G c9 (zB 12 G (λ hg=>aF 13 G zk hg (lz0 0 G) (Sub.part 2 G G) ax) (zC 12 1 G c9 (zB 12 G (λ hg=>aF 15 G zk hg (lz0 1 G) (Sub.part 2 G G) ax) (zB 12 G (λ hg=>be (eY _ _ hx.2) (.p (ak (vq 14 G) hg) (ak (vq 16 G) hg))) (zv G (bA (vq 12 G) (vq 17 G)) (zA 18 G o0)))))))))))))))))))) (zz [(4,_)] [O 2 98 _,O 3 98 _] λ a w U=>?_)
 refine aa<|qg<|ao ?_ (an G U (zm 0 G))
 exact aZ (qm Bo Id)
def byL (s:ByteArray):List Nat:=s.data.toList.map UInt8.toNat
theorem np (s:ByteArray):(byL s).length=s.size:=by unfold byL; rw [qc]; rfl
def BbA (n:Nat):As:=NumA .u8 (n:Int)
def bOk (b:Nat):Bool := !(((decide ((b:Int)<97) || decide ((b:Int)>122))&&(decide ((b:Int)<48) || decide ((b:Int)>57)))&&((b:Int) != 45))
def nmH (s:ByteArray):Bool:=((decide ((s.size:Int)<1) || decide ((s.size:Int)>32)) || decide ((((byL s).getD 0 0:Nat):Int)<97)) || decide ((((byL s).getD 0 0:Nat):Int)>122)
def namF (s:ByteArray):Bool:=if nmH s then false else (byL s).all bOk
theorem st_0 {s:ByteArray}(h:(decide ((s.size:Int)<1) || decide ((s.size:Int)>32))=false):s[0]?=some (s.data.toList.getD 0 0)∧((s.data.toList.getD 0 0).toNat:Nat)=(byL s).getD 0 0:=by
 rw [qI,qk] at h
 have h0:0<s.size:=by omega
 have h1:0<s.data.toList.length:=by simpa using h0
 constructor
 ·rw [getElem?_pos s 0 h0]
  simp only [Option.some.injEq,List.getD]
  rw [List.getElem?_eq_getElem h1]
  simp [ByteArray.getElem_eq_getElem_data]
 ·unfold byL
  simp only [List.getD]
  rw [List.getElem?_eq_getElem h1,List.getElem?_eq_getElem (by simpa using h1)]
  simp
theorem nm_1 {a b:Bool}(h:(a || b)=false):a=false:=by rw [qI] at h; exact h.1
theorem by_0 (s:ByteArray):(s.data.toList.getD 0 0).toNat=(byL s).getD 0 0:=by
 unfold byL
 cases s.data.toList <;> rfl
theorem nm_y {s:ByteArray}{b:Bool}(h:(((decide ((s.size:Int)<1) || decide ((s.size:Int)>32)) || decide ((((s.data.toList.getD 0 0).toNat:Nat):Int)<97)) || decide ((((s.data.toList.getD 0 0).toNat:Nat):Int)>122))=b):nmH s=b:=by
 unfold nmH
 rw [← by_0]
 exact h
theorem FK {s:ByteArray}(h:nmH s=false):s.size≤32:=by
 unfold nmH at h
 simp only [qI,qk] at h
 omega
section
open Rg
variable {P:Program} {Q:Exit→Act→World→Prop} {R:Rg} {B i:Nat} {w0:Bs}
theorem eT {x:Operand}{S:TypeId}{s:ByteArray}(hS:P.underlying S=some .string)(hx:Has R B w0 i x (EqV (.string s))):Wv P Q R B w0 i (.call ⟨.builtin .len,#[x],#[S]⟩) (In (s.size:Nat)) :=
 bj λ d T ps af gd a w av=>by
  refine ⟨.int .i64 (s.size:Nat),w,?_,Grow.refl w,bN _ _ _ _⟩
  have hv':a.eval x=.string s:=hx a w av
  simp [execOp,resolve,invoke,builtin,hv',run_len_string _ _ _ _ hS,goInt]
theorem Fh {x:Operand}{S T E:TypeId}{s:ByteArray}(hs:P.underlying S=some .string)(hd:P.underlying T=some (.slice E))(he:P.underlying E=some (.int .u8))(hx:Has R B w0 i x (EqV (.string s)))(hl:s.size≤4096):Wv P Q R B w0 i (.convert S T x) (SlA E [] ((byL s).map BbA)).va :=
 bj λ d T' ps af gd a w av=>by
  have e1:a.eval x=.string s:=hx a w av
  refine ⟨.slice (some ⟨w.heap.size,0,none⟩) s.size (grownCap w s.size 0 E),w.drew.alloc (.cells (bytesRow s (grownCap w s.size 0 E)) E ((bytesRow s (grownCap w s.size 0 E)).size,(bytesRow s (grownCap w s.size 0 E)).size+1)),?_,(Grow.drew w).trans (Grow.alloc w.drew _),?_⟩
  ·simp [execOp,e1,run_bytes_of_string w S T E s hs hd he]
  ·have hcg:=grownCap_ge w s.size 0 E
   have hcm:=grownCap_le_maxLen w s.size 0 E (by unfold maxLen; omega)
   have hlen:((byL s).map BbA).length=s.size:=by rw [qc,np]
   have hcell:∀ j (hj:j<s.data.size),(w.drew.alloc (.cells (bytesRow s (grownCap w s.size 0 E)) E ((bytesRow s (grownCap w s.size 0 E)).size,(bytesRow s (grownCap w s.size 0 E)).size+1))).cell? ⟨w.heap.size,0+j,none⟩=some (.int .u8 (s.data[j].toNat:Int)):=λ j hj=>by
    rw [qO]
    exact (World.cell?_alloc_mark w.drew _ E _ j).trans (bytesRow_at s _ j hj)
   refine ⟨[.slice (some ⟨w.heap.size,0,none⟩) s.size (grownCap w s.size 0 E)],⟨λ A hA=>?_,some ⟨w.heap.size,0,none⟩,grownCap w s.size 0 E,(byL s).map λ (n:Nat)=>Value.int .u8 (n:Int),?_,by rw [hlen]; exact hcg,hcm,?_,λ _=>⟨w.heap.size,0,rfl,?_,?_,λ j v hv=>?_⟩⟩,rfl⟩
   ·obtain ⟨n,_,rfl⟩:=qq.1 hA
    intro T hT
    cases hT
   ·rw [hlen]
   ·refine ⟨(byL s).map λ (n:Nat)=>[Value.int .u8 (n:Int)],?_,?_⟩
    ·induction byL s with
     | nil=>rfl
     | cons y l ih=>rw [qN,qN,ih,zN]; rfl
    ·induction byL s with
     | nil=>exact .nil
     | cons y l ih=>exact .cons rfl ih
   ·show w.heap.size<(w.heap.push _).size
    simp
   ·refine .inr ⟨bytesRow s (grownCap w s.size 0 E),((bytesRow s (grownCap w s.size 0 E)).size,(bytesRow s (grownCap w s.size 0 E)).size+1),?_⟩
    show (w.heap.push _)[w.heap.size]?=_
    simp
   ·have hj:j<s.data.size:=by
     have:=(List.getElem?_eq_some_iff.1 hv).1
     rw [qc,np] at this
     exact this
    rw [hcell j hj]
    unfold byL at hv
    rw [z6,List.getElem?_map,List.getElem?_eq_getElem (by simpa using hj)] at hv
    simpa using hv
end
theorem FO (s:ByteArray):Cn Tryz.prog 100 [EqV (.string s)] (Bo (namF s)):=by
 refine Cn.intro Tryz.func100 G zk nq (λ B w0 a U=>?_)
 have U:=zn [(0,EqV (.string s))] [] U
 refine qb<|zh [.v 2 _] [.g 0,.o 0] U (zv G (ac aJ) o0) (zz [(0,_),(2,_)] [] λ a w U=>?_)
 refine zt<|qb<|zh [.v 5 _,.v 6 _,.v 7 _,.v 8 _,.f 9 _,.f 10 _,.f 11 _,.v 12 _,.v 13 _,.f 14 _,.f 15 _,.f 16 _,.v 17 _,.v 18 _,.f 19 _,.f 20 _,.f 21 _,.v 22 _] [.g 0,.g 1,.o 17] U (zM 0 G (zv G (eT zk (vq 0 G)) (zv G (aS (vq 1 G) ab) (zv G (ai (vq 2 G)) (zB 3 G (λ hg=>ai (gq 0 G)) (zB 3 G (λ hg=>eT zk (ak (vq 4 G) hg)) (zB 3 G (λ hg=>ci (ak (vq 5 G) hg) ab) (zv G (r_or (vq 3 G) (vq 6 G)) (zv G (ai (vq 7 G)) (zB 8 G (λ hg=>ai (gq 0 G)) (zB 8 G (λ hg=>cS zk (ak (vq 9 G) hg) ab (st_0 hg).1) (zB 8 G (λ hg=>aS (ak (vq 10 G) hg) ab) (zv G (r_or (vq 8 G) (vq 11 G)) (zv G (ai (vq 12 G)) (zB 13 G (λ hg=>ai (gq 0 G)) (zB 13 G (λ hg=>cS zk (ak (vq 14 G) hg) ab (st_0 (nm_1 hg)).1) (zB 13 G (λ hg=>ci (ak (vq 15 G) hg) ab) (zv G (r_or (vq 13 G) (vq 16 G)) o0)))))))))))))))))) (zz [(0,_),(2,_),(22,_)] [] λ a w U=>?_)
 refine aa<|aj U (zm 2 G) (λ hb0=>?_) (λ hb0=>?_)
 ·have hd:nmH s=true:=nm_y hb0
  refine qb<|zh [.v 2 _] [.g 0,.o 0] U (zv G (ac aJ) o0) (zz [(0,_),(2,_)] [] λ a w U=>?_)
  refine aa<|qg<|al ?_
  refine ao ?_ (an G U (zm 1 G))
  rw [namF,qz hd]; exact aL
 ·have hd:nmH s=false:=nm_y hb0
  have hsz:=FK hd
  have hbl:=np s
  refine qh<|zt<|qb<|zh [.v 23 _,.v 24 _,.v 25 _,.v 26 _] [.g 1,.o 1,.o 2,.o 3] U (zM 0 G (zv G (Fh zk Tryz.underlying234 zk (vq 0 G) zo) (zv G (bg Tryz.underlying234 (vq 1 G)) (zv G (ai ab) o0)))) (zz [(2,_),(24,_),(25,_),(26,_)] [] λ a w U=>?_)
  refine aa<|qj ?_
  have U:=St.sel U [1,2,3]
  refine wp_loop_ghost (λ n a w=>∃ j:Nat,(n+j=(byL s).length∧((byL s).take j).all bOk=true)∧St B w0 49 [(24,(SlA 5 [] ((byL s).map BbA)).va),(25,In ((byL s).length:Nat)),(26,In (j:Nat))] [] a w) ((byL s).length) ?_ ?_
  ·exact ⟨0,⟨by omega,rfl⟩,by rw [qc] at U; exact U⟩
  intro n a w hI
  obtain ⟨j,⟨hn,hno⟩,U⟩:=hI
  refine qb<|zh [.v 27 _] [.g 0,.g 1,.g 2,.o 0] U (zv G (aS (gq 2 G) (gq 1 G)) o0) (zz [(24,_),(25,_),(26,_),(27,_)] [] λ a w U=>?_)
  refine zt<|aj U (zm 3 G) (λ hb1=>?_) (λ hb1=>?_)
  ·have hj:j<(byL s).length:=by have:=qp hb1; omega
   refine qh<|zt<|qj<|qb<|zh [.v 28 _,.v 29 _,.v 4 _] [.g 0,.g 1,.g 2,.o 2] U (zv G (bH HZ (bW λ _=>rfl) (gq 0 G) (gq 2 G) (bz hj)) (zv G (au (vq 0 G) ty_5) (zA 1 G o0))) (zz [(24,_),(25,_),(26,_),(4,_)] [] λ a w U=>?_)
   refine zt<|zh [.v 30 _,.v 31 _,.v 32 _,.f 33 _,.f 34 _,.v 35 _,.v 36 _,.t 37 _,.t 38 _,.t 39 _,.v 40 (Wh ((_=true)∧_=false) _),.v 41 (Wh ((_=true)∧_=false) _),.t 42 _,.v 43 _,.v 44 _,.t 45 _,.t 46 _,.v 47 _] [.g 0,.g 1,.g 2,.o 17] U (zM 3 G (zv G (aS (vq 0 G) ab) (zv G (ai (vq 1 G)) (zB 2 G (λ hg=>ai (gq 3 G)) (zB 2 G (λ hg=>ci (ak (vq 3 G) hg) ab) (zv G (r_or (vq 2 G) (vq 4 G)) (zv G (ai (vq 5 G)) (zB 6 G (λ hg=>ai (gq 3 G)) (zB 6 G (λ hg=>aS (ak (vq 7 G) hg) ab) (zB 6 G (λ hg=>ai (ak (vq 8 G) hg)) (oc (bT G G G (vq 9 G) nq (λ hg=>ai (gq 3 G))) (oc (bT G G G (vq 9 G) nq (λ hg=>ci (ak (vq 10 G) hg) ab)) (zB 6 G (λ hg=>r_or (ak (vq 9 G) hg) (fu (vq 11 G) hg)) (zv G (bA (vq 6 G) (vq 12 G)) (zv G (ai (vq 13 G)) (zB 14 G (λ hg=>ai (gq 3 G)) (zB 14 G (λ hg=>bX (ak (vq 15 G) hg) ab) (zv G (bA (vq 14 G) (vq 16 G)) o0)))))))))))))))))) (zz [(24,_),(25,_),(26,_),(47,_)] [] λ a w U=>?_)
   refine aa<|aj U (zm 3 G) (λ hb2=>?_) (λ hb2=>?_)
   ·refine qb<|zh [.v 2 _] [.g 0,.g 1,.g 2,.o 0] U (zv G (ac aJ) o0) (zz [(24,_),(25,_),(26,_),(2,_)] [] λ a w U=>?_)
    refine aa<|qg<|aE ?_
    refine al ?_
    refine al ?_
    refine aE ?_
    refine al ?_
    refine ao ?_ (an G U (zm 3 G))
    rw [namF,qw (by rw [hd]; decide),lp hj (by unfold bOk; rw [hb2]; rfl)]; exact aL
   ·refine qh<|ap ?_
    refine aa<|zh [.v 48 _,.v 26 _] [.g 0,.g 1,.o 1] U (zv G (aN (gq 2 G) ab ((wi64 zo zo).trans (by omega:(_:Int)=((j+1:Nat):Int)))) (zv G (ai (vq 0 G)) o0)) (zz [(24,_),(25,_),(26,_)] [] λ a w U=>?_)
    refine aa ?_
    have U:=St.sel U [0,1,2]
    exact ⟨n-1,by omega,j+1,⟨by omega,lr hj hno (by unfold bOk; rw [hb2]; rfl)⟩,U⟩
  ·obtain rfl:j=(byL s).length:=by have:=qr hb1; omega
   refine qK<|am<|am<|aB<|zt<|zh [.v 2 _] [.o 0] U (zv G (ac aJ) o0) (zz [(2,_)] [] λ a w U=>?_)
   refine aa<|qg<|ao ?_ (an G U (zm 0 G))
   rw [qF] at hno; rw [namF,qw (by rw [hd]; decide),hno]; exact aL
structure RPt where
 nm:ByteArray
 e:RE
 c:Int
structure RTk where
 sp:List RF
 ps:List RPt
 tg:RF
def InA (n:Int):As:=NumA .i64 n
def PtA (x:RPt):As:=cat [EqA (.string x.nm),REA x.e,InA x.c]
def TkA (t:RTk):As:=cat [SlA 28 [U32] (t.sp.map RFA),SlA 100 [U32] (t.ps.map PtA),RFA t.tg]
theorem tH:Wk (EqA v).va (EqV v):=λ B u w h=>gX h
theorem FP (s:ByteArray):Cn Tryz.prog 100 [(EqA (.string s)).va] (Bo (namF s)):=(FO s).wk (.cons tH .nil)
def sloF (t:RTk):Int:=IntKind.i64.wrap ((t.sp.length:Int)-1)
def pkQ (t:RTk)(i:Int):Bool:=decide (i<0) || decide (i≥(t.ps.length:Int))
def pkF (t:RTk)(l:List Int):Bool:=decide ((l.length:Int)≤sloF t) && !l.any (pkQ t)
def FnC (f:FuncId)(PT:VA):VA where
 p B v w:=∃ g,v=.func (.func f) #[] #[ptr g]∧PT.p B (ptr g) w
 deps:=PT.deps
 cg:=λ B v w w' hg ⟨g,h1,h2⟩=>⟨g,h1,PT.cg _ _ _ _ hg h2⟩
 wr:=λ B v w w' g c T fz q1 q2 q3 q4 ⟨g',h1,h2⟩=>⟨g',h1,PT.wr _ _ _ _ _ _ _ _ q1 q2 q3 q4 h2⟩
def fstI (q:Int→Bool):List Int→Nat→Int
 | [],_ => -1
 | x::l,k=>if q x then (k:Int) else fstI q l (k+1)
theorem s7 (q:Int→Bool):∀ (l:List Int) (k:Nat),decide (fstI q l k≥0)=l.any q
 | [],k=>rfl
 | x::l,k=>by
  rw [fstI,kr]
  by_cases h:q x=true
  ·rw [qz h,h,Bool.true_or]
   exact qC (Int.natCast_nonneg k)
  ·rw [qw h,s7 q l,xk.2 h,xB]
theorem fst_go {q:Int→Bool}{l:List Int}{j:Nat}(h:j<l.length)(h2:q l[j]=false):fstI q (l.drop j) j=fstI q (l.drop (j+1)) (j+1):=by rw [qG h,fstI,h2]; rfl
theorem Gw {q:Int→Bool}{l:List Int}{j:Nat}(h:j<l.length)(h2:q l[j]=true):fstI q (l.drop j) j=(j:Int):=by rw [qG h,fstI,h2]; rfl
section
open Rg
variable {P:Program} {Q:Exit→Act→World→Prop} {R:Rg} {B i:Nat} {w0:Bs}
theorem r_mkC {f:FuncId}{T1:TypeId}{A1:As}{s1:Nat}(h1:Loc R i s1 T1 A1):Wv P Q R B w0 i (.makeFunc (.func f) #[] #[.tmp s1]) (FnC f (ElP T1 A1)) :=
 bj λ _ _ _ _ _ a w av=>by
  obtain ⟨g1,c1,e1,m1,h3,h4⟩:=h1.ok av
  have e1':a.eval (.tmp s1)=ptr g1:=e1
  refine ⟨.func (.func f) #[] (#[Operand.tmp s1].map a.eval),w,by simp [execOp,Instr.makeFunc],Grow.refl w,g1,by simp [e1'],g1,0,c1,rfl,(Array.getElem?_eq_some_iff.1 h3).1,.inr ⟨_,_,h3⟩,h4,λ j u hu=>?_⟩
  have:=gf (k:=0) h3 c1.length j u (by rw [z9,qF]; exact hu)
  exact this
theorem Ff {c:Nat}{f:FuncId}{xs:List Operand}{As':List VA}{A PT:VA}{at_:Array TypeId}(hc:Cn P f (As'++[PT]) A)(hv:Has R B w0 i (.tmp c) (FnC f PT))(hx:HasL R B w0 i xs As'):Wv P Q R B w0 i (.call ⟨.value (.tmp c),xs.toArray,at_⟩) A:=by
 intro d T ps af gd a w av K hK
 obtain ⟨⟨fn,hf,hn,hb⟩,hcall⟩:=hc
 obtain ⟨g,ev,hp⟩:=hv a w av
 have hrun:(execOp a.eval ⟨some d,.call ⟨.value (.tmp c),xs.toArray,at_⟩,T,ps,af,gd⟩).run P w=.ok (.enter f (xs.map a.eval++[ptr g]).toArray) w:=by
  simp only [execOp,resolve,ev,Deferred.ofValue,Sem.run_bind,Sem.run_pure,Result.andThen_ok,invoke,bk hf hn hb]
  simp
 unfold Oper.wp
 rw [hrun]
 have key:∀ {ls:List VA} {vs:List Value},All2 (λ (A:VA) v=>A.p B v w) ls vs→All2 (λ (A:VA) v=>A.p B v w) (ls++[PT]) (vs++[ptr g]):=λ {ls vs} h=>by
  induction h with
  | nil=>exact .cons hp .nil
  | cons h _ ih=>exact .cons h ih
 exact (hcall B w _ (Av.bw av) (key (hx.all av))).mono λ e w' ⟨v,he,hv,hg⟩=>by subst he; exact hK v w' hg hv
end
theorem oT (t:RTk):Cn Tryz.prog 102 [(TkA t).va] (In (sloF t)):=by
 refine Cn.intro Tryz.func102 G zk nq (λ B w0 a U=>?_)
 have U:=zn [(0,(TkA t).va)] [] U
 refine qb<|zg [] [⟨1,30,ptrH,some 0,_,none⟩] [.alc 0,.v 2 _] [.o 1] U (zW 0 G (zv G (ac ab) o0)) (zz [(2,_)] [O 1 30 _] λ a w U=>?_)
 refine zt<|zg [η] [] [.adr 3 1 (.some 0) True,.v 4 _,.v 5 _,.v 6 _,.v 2 _] [.o 4] U (zO 0 G bU (zL 0 0 0 G ew (zv G (bg Tryz.underlying22 (vq 1 G)) (zv G (c6 (vq 2 G) ab (G)) (zA 3 G o0))))) (zz [(2,_)] [O 1 30 _] λ a w U=>?_)
 refine aa<|qg<|ao ?_ (an G U (zm 0 G))
 simp only [qc]; exact aL
theorem vS (t:RTk)(i:Int):Cn Tryz.prog 104 [In i,ElP 30 (TkA t)] (Bo (pkQ t i)):=by
 refine Cn.intro Tryz.func104 G zk nq (λ B w0 a U=>?_)
 have U:=zn [(0,In i),(1,ElP 30 (TkA t))] [] U
 refine qb<|zh [.v 3 _] [.g 0,.g 1,.o 0] U (zv G (ac aJ) o0) (zz [(0,_),(1,_),(3,_)] [] λ a w U=>?_)
 refine zt<|zh [.v 4 _,.v 5 _,.v 6 _,.f 7 _,.f 8 _,.f 9 _,.f 10 _,.f 11 _,.v 12 _,.v 3 _] [.o 9] U (zM 0 G (zv G (aS (vq 0 G) ab) (zv G (ai (vq 1 G)) (zB 2 G (λ hg=>ai (gq 0 G)) (zB 2 G (λ hg=>bL (gq 1 G) bD (Sub.part 1 G G)) (zB 2 G (λ hg=>au (ak (vq 4 G) hg) dn) (zB 2 G (λ hg=>bg Tryz.underlying23 (ak (vq 5 G) hg)) (zB 2 G (λ hg=>d9 (ak (vq 3 G) hg) (ak (vq 6 G) hg)) (zv G (r_or (vq 2 G) (vq 7 G)) (zA 8 G o0)))))))))) (zz [(3,_)] [] λ a w U=>?_)
 refine aa<|qg<|ao ?_ (an G U (zm 0 G))
 simp only [qc]; exact aL
theorem idxF_c {f:FuncId}{q:Int→Bool}{PT:VA}(hc:∀ n,Cn Tryz.prog f [In n,PT] (Bo (q n)))(xs:List Int):Cn Tryz.prog 180 [(SlA 3 [] (xs.map InA)).va,FnC f PT] (In (fstI q xs 0)):=by
 refine Cn.intro Tryz.func180 G zk nq (λ B w0 a U=>?_)
 have U:=zn [(0,(SlA 3 [] (xs.map InA)).va),(1,FnC f PT)] [] U
 have hl:=dV (U.vals (0,(SlA 3 [] (xs.map InA)).va) (zm 0 rfl))
 refine qb<|zh [.v 4 _] [.g 0,.g 1,.o 0] U (zv G (ac ab) o0) (zz [(0,_),(1,_),(4,_)] [] λ a w U=>?_)
 refine zt<|qb<|zh [.v 6 _,.v 7 _,.v 8 _] [.g 0,.g 1,.g 2,.o 1,.o 2] U (zM 0 G (zv G (bg Tryz.underlying31 (vq 0 G)) (zv G (ai ab) o0))) (zz [(0,_),(1,_),(4,_),(7,_),(8,_)] [] λ a w U=>?_)
 refine aa<|qj ?_
 have U:=St.sel U [0,1,3,4]
 refine wp_loop_ghost (λ n a w=>∃ j:Nat,(n+j=xs.length∧fstI q xs 0=fstI q (xs.drop j) j)∧St B w0 19 [(0,(SlA 3 [] (xs.map InA)).va),(1,FnC f PT),(7,In (xs.length:Nat)),(8,In (j:Nat))] [] a w) (xs.length) ?_ ?_
 ·exact ⟨0,⟨by omega,rfl⟩,by rw [qc] at U; exact U⟩
 intro n a w hI
 obtain ⟨j,⟨hn,hno⟩,U⟩:=hI
 refine qb<|zh [.v 9 _] [.g 0,.g 1,.g 2,.g 3,.o 0] U (zv G (aS (gq 3 G) (gq 2 G)) o0) (zz [(0,_),(1,_),(7,_),(8,_),(9,_)] [] λ a w U=>?_)
 refine zt<|aj U (zm 4 G) (λ hb0=>?_) (λ hb0=>?_)
 ·have hj:j<xs.length:=by have:=qp hb0; omega
  refine qh<|zt<|qj<|qb<|zh [.v 10 _,.v 5 _] [.g 0,.g 1,.g 2,.g 3,.o 1] U (zM 3 G (zA 0 G o0)) (zz [(0,_),(1,_),(7,_),(8,_),(5,_)] [] λ a w U=>?_)
  refine zt<|zh [.v 11 _,.v 12 _,.v 13 _,.v 14 _,.v 15 _,.v 16 _] [.g 0,.g 1,.g 2,.g 3,.g 4,.o 5] U (zM 1 G (zM 0 G (zM 4 G (zv G (bH cP (bW λ _=>rfl) (vq 1 G) (vq 2 G) (bz hj)) (zv G (au (vq 3 G) ty_3) (zv G (Ff (As':=[In xs[j]]) (hc _) (vq 0 G) (.o (vq 4 G))) o0)))))) (zz [(0,_),(1,_),(7,_),(8,_),(5,_),(16,_)] [] λ a w U=>?_)
  refine aa<|aj U (zm 5 G) (λ hb1=>?_) (λ hb1=>?_)
  ·refine qb<|zh [.v 17 _,.v 4 _] [.g 0,.g 1,.g 2,.g 3,.o 1] U (zM 4 G (zA 0 G o0)) (zz [(0,_),(1,_),(7,_),(8,_),(4,_)] [] λ a w U=>?_)
   refine aa<|qg<|aE ?_
   refine al ?_
   refine al ?_
   refine aE ?_
   refine al ?_
   refine ao ?_ (an G U (zm 4 G))
   rw [hno,Gw hj hb1]; exact aL
  ·refine qh<|ap ?_
   refine aa<|zh [.v 18 _,.v 8 _] [.g 0,.g 1,.g 2,.o 1] U (zv G (aN (gq 3 G) ab ((wi64 zo zo).trans (by omega:(_:Int)=((j+1:Nat):Int)))) (zv G (ai (vq 0 G)) o0)) (zz [(0,_),(1,_),(7,_),(8,_)] [] λ a w U=>?_)
   refine aa ?_
   have U:=St.sel U [0,1,2,3]
   exact ⟨n-1,by omega,j+1,⟨by omega,hno.trans (fst_go hj hb1)⟩,U⟩
 ·obtain rfl:j=xs.length:=by have:=qr hb0; omega
  refine qK<|am<|am<|aB<|zt<|zh [.v 4 _] [.o 0] U (zv G (ac ab) o0) (zz [(4,_)] [] λ a w U=>?_)
  refine aa<|qg<|ao ?_ (an G U (zm 0 G))
  rw [hno,xg]; exact aL
theorem conF_c {f:FuncId}{q:Int→Bool}{PT:VA}(hc:∀ n,Cn Tryz.prog f [In n,PT] (Bo (q n)))(xs:List Int):Cn Tryz.prog 103 [(SlA 3 [] (xs.map InA)).va,FnC f PT] (Bo (xs.any q)):=by
 refine Cn.intro Tryz.func103 G zk nq (λ B w0 a U=>?_)
 have U:=zn [(0,(SlA 3 [] (xs.map InA)).va),(1,FnC f PT)] [] U
 refine qb<|zh [.v 4 _] [.g 0,.g 1,.o 0] U (zv G (ac aJ) o0) (zz [(0,_),(1,_),(4,_)] [] λ a w U=>?_)
 refine zt<|zh [.v 5 _,.v 6 _,.v 7 _,.v 8 _,.v 4 _] [.o 4] U (zM 0 G (zM 1 G (zQ G (idxF_c hc xs) (.p (vq 0 G) (vq 1 G)) (zv G (d9 (vq 2 G) ab) (zA 3 G o0))))) (zz [(4,_)] [] λ a w U=>?_)
 refine aa<|qg<|ao ?_ (an G U (zm 0 G))
 rw [← s7 q xs 0]; exact aL
theorem Ba (t:RTk)(xs:List Int):Cn Tryz.prog 23 [(TkA t).va,(SlA 3 [] (xs.map InA)).va] (Bo (pkF t xs)):=by
 refine Cn.intro Tryz.func23 G zk nq (λ B w0 a U=>?_)
 have U:=zn [(0,(TkA t).va),(1,(SlA 3 [] (xs.map InA)).va)] [] U
 refine qb<|zg [] [⟨2,30,ptrH,some 0,_,none⟩] [.alc 0,.v 4 _] [.g 1,.o 1] U (zW 0 G (zv G (ac aJ) o0)) (zz [(1,_),(4,_)] [O 2 30 _] λ a w U=>?_)
 refine zt<|zg [η] [] [.v 5 _,.v 6 _,.v 7 _,.v 8 _,.v 9 _,.v 10 _,.t 11 _,.t 12 _,.t 13 _,.t 14 _,.v 15 _,.v 4 _] [.o 11] U (zM 0 G (zv G (bg Tryz.underlying31 (vq 0 G)) (zl 0 G cN (zQ G (oT t) (.o (vq 2 G)) (zv G (gz (vq 1 G) (vq 3 G)) (zv G (ai (vq 4 G)) (zB 5 G (λ hg=>ai (gq 0 G)) (zB 5 G (λ hg=>r_mkC (lz0 0 G)) (zB 5 G (λ hg=>be (conF_c (vS t) xs) (.p (ak (vq 6 G) hg) (ak (vq 7 G) hg))) (zB 5 G (λ hg=>dY (ak (vq 8 G) hg)) (zv G (bA (vq 5 G) (vq 9 G)) (zA 10 G o0)))))))))))) (zz [(4,_)] [O 2 30 _] λ a w U=>?_)
 refine aa<|qg<|ao ?_ (an G U (zm 0 G))
 simp only [qc]; exact aL
def CoA (k:Nat)(m:MQ):As:=cat [QA k m.a,QA k m.c]
theorem pQ {k k' b:Nat}{y u:Rat}{m:MQ}(hy:y=m.a)(hu:u=m.c)(h:RepM b m):WkA (cat [QA k y,QA k' u]) (CoA b m):=by
 subst hy
 subst hu
 exact bo (.cons (B5 (uN h).1) (.cons (B5 (uN h).2.2.1) .nil))
def spE (x:RF):RE:=⟨1,x,rfOf 0⟩
theorem HV {x:RE}(h:x.k=1):elM x=⟨1,toQ x.p,0,1⟩:=by unfold elM elQ; rw [h]; rfl
theorem thr_2 {x:RE}(h:x.k=2):elM x=⟨1,0,0-toQ x.p,1⟩:=by unfold elM elQ; rw [h]; rfl
theorem thr_3 {x:RE}(h:x.k=3):elM x=⟨1,toQ x.p/toQ x.q,0,1⟩:=by unfold elM elQ; rw [h]; rfl
theorem thr_4 {x:RE}(h:x.k=4):elM x=⟨1,0,0-toQ x.p*toQ x.q,1⟩:=by unfold elM elQ; rw [h]; rfl
theorem thr_5 {x:RE}(h:x.k=5):elM x=⟨0-1,0-0,0-0,0-1⟩:=by unfold elM elQ; rw [h]; rfl
theorem fm {x:RE}{b:Nat}{m:MQ}(h:elF x=true)(hm:RepM b m):RepM (b+4097) (mulQ (elM x) m):=by
 have:=uM (DJ h) hm
 rwa [show 4096+b+1=b+4097 by omega] at this
def cmp1 (x y:Int):Int:=if x<y then -1 else if x>y then 1 else 0
def cmpL:List Int→List Int→Int
 | [],[]=>0
 | [],_::_ => -1
 | _::_,[]=>1
 | x::xs,y::ys=>if cmp1 x y=0 then cmpL xs ys else cmp1 x y
theorem GY {xs ys:List Int}{j:Nat}(h:j<xs.length)(h':j<ys.length)(e:cmp1 xs[j] ys[j]=0):cmpL (xs.drop j) (ys.drop j)=cmpL (xs.drop (j+1)) (ys.drop (j+1)):=by
 rw [qG h,qG h',cmpL,qz e]
theorem GX {xs ys:List Int}{j:Nat}(h:j<xs.length)(h':j<ys.length)(e:cmp1 xs[j] ys[j]≠0):cmpL (xs.drop j) (ys.drop j)=cmp1 xs[j] ys[j]:=by
 rw [qG h,qG h',cmpL,qw e]
theorem GZ {xs ys:List Int}{j:Nat}(h:j<xs.length)(h':ys.length≤j):cmpL (xs.drop j) (ys.drop j)=1:=by
 rw [qG h,q9 h']; rfl
theorem sz {xs ys:List Int}:cmpL (xs.drop xs.length) (ys.drop xs.length)=if xs.length<ys.length then -1 else 0:=by
 rw [xg]
 by_cases h:xs.length<ys.length
 ·rw [qz h,qG h]; rfl
 ·rw [qw h,q9 zo]; rfl
theorem wQ (x:Int):Cn Tryz.prog 249 [In x] (Bo false):=by
 refine Cn.intro Tryz.func249 G zk nq (λ B w0 a U=>?_)
 have U:=zn [(0,In x)] [] U
 refine qb<|zh [.v 2 _] [.g 0,.o 0] U (zv G (ac aJ) o0) (zz [(0,_),(2,_)] [] λ a w U=>?_)
 refine zt<|zh [.v 3 _,.v 4 _,.v 5 _,.v 2 _] [.o 3] U (zM 0 G (zM 0 G (zv G (bX (vq 0 G) (vq 1 G)) (zA 2 G o0)))) (zz [(2,_)] [] λ a w U=>?_)
 refine aa<|qg<|ao ?_ (an G U (zm 0 G))
 refine aZ (qm Bo ?_); simp
theorem cmpZ_c (x y:Int):Cn Tryz.prog 238 [In x,In y] (In (cmp1 x y)):=by
 refine Cn.intro Tryz.func238 G zk nq (λ B w0 a U=>?_)
 have U:=zn [(0,In x),(1,In y)] [] U
 refine qb<|zh [.v 4 _] [.g 0,.g 1,.o 0] U (zv G (ac ab) o0) (zz [(0,_),(1,_),(4,_)] [] λ a w U=>?_)
 refine zt<|zh [.v 7 _,.v 8 _,.v 5 _] [.g 0,.g 1,.g 2,.o 2] U (zM 0 G (zQ G (wQ _) (.o (vq 0 G)) (zA 1 G o0))) (zz [(0,_),(1,_),(4,_),(5,_)] [] λ a w U=>?_)
 refine zt<|zh [.v 9 _,.v 10 _,.v 6 _] [.g 0,.g 1,.g 2,.g 3,.o 2] U (zM 1 G (zQ G (wQ _) (.o (vq 0 G)) (zA 1 G o0))) (zz [(0,_),(1,_),(4,_),(5,_),(6,_)] [] λ a w U=>?_)
 refine zt<|qb<|zh [.v 11 _] [.g 0,.g 1,.g 2,.g 4,.o 0] U (zM 3 G o0) (zz [(0,_),(1,_),(4,_),(6,_),(11,_)] [] λ a w U=>?_)
 refine aa<|aj U (zm 4 G) (λ hb0=>?_) (λ hb0=>?_)
 ·exact absurd hb0 zd
 ·refine qh<|zt<|qb<|zh [.v 13 _] [.g 0,.g 1,.g 2,.o 0] U (zM 3 G o0) (zz [(0,_),(1,_),(4,_),(13,_)] [] λ a w U=>?_)
  refine aa<|aj U (zm 3 G) (λ hb1=>?_) (λ hb1=>?_)
  ·exact absurd hb1 zd
  ·refine qh<|zt<|qb<|zh [.v 14 _,.v 15 _,.v 16 _] [.g 0,.g 1,.g 2,.o 2] U (zM 0 G (zM 1 G (zv G (aS (vq 0 G) (vq 1 G)) o0))) (zz [(0,_),(1,_),(4,_),(16,_)] [] λ a w U=>?_)
   refine aa<|aj U (zm 3 G) (λ hb2=>?_) (λ hb2=>?_)
   ·have h:x<y:=qp hb2
    refine qb<|zh [.v 4 _] [.g 0,.g 1,.o 0] U (zv G (ac ab) o0) (zz [(0,_),(1,_),(4,_)] [] λ a w U=>?_)
    refine aa<|qg<|al ?_
    refine ao ?_ (an G U (zm 2 G))
    rw [cmp1,qz h]; exact aL
   ·have h:¬ x<y:=qr hb2
    refine qh<|zt<|qb<|zh [.v 17 _,.v 18 _,.v 19 _] [.g 2,.o 2] U (zM 0 G (zM 1 G (zv G (ci (vq 0 G) (vq 1 G)) o0))) (zz [(4,_),(19,_)] [] λ a w U=>?_)
    refine aa<|aj U (zm 1 G) (λ hb3=>?_) (λ hb3=>?_)
    ·have h2:x>y:=qp hb3
     refine qb<|zh [.v 4 _] [.o 0] U (zv G (ac ab) o0) (zz [(4,_)] [] λ a w U=>?_)
     refine aa<|qg<|al ?_
     refine ao ?_ (an G U (zm 0 G))
     rw [cmp1,qw h,qz h2]; exact aL
    ·have h2:¬ x>y:=qr hb3
     refine qh<|zt<|zh [.v 4 _] [.o 0] U (zv G (ac ab) o0) (zz [(4,_)] [] λ a w U=>?_)
     refine aa<|qg<|ao ?_ (an G U (zm 0 G))
     rw [cmp1,qw h,qw h2]; exact aL
theorem cmpS_c (xs ys:List Int):Cn Tryz.prog 215 [(SlA 3 [] (xs.map InA)).va,(SlA 3 [] (ys.map InA)).va] (In (cmpL xs ys)):=by
 refine Cn.intro Tryz.func215 G zk nq (λ B w0 a U=>?_)
 have U:=zn [(0,(SlA 3 [] (xs.map InA)).va),(1,(SlA 3 [] (ys.map InA)).va)] [] U
 have hl:=dV (U.vals (0,(SlA 3 [] (xs.map InA)).va) (zm 0 rfl))
 refine qb<|zh [.v 4 _] [.g 0,.g 1,.o 0] U (zv G (ac ab) o0) (zz [(0,_),(1,_),(4,_)] [] λ a w U=>?_)
 refine zt<|qb<|zh [.v 9 _,.v 10 _,.v 11 _] [.g 0,.g 1,.g 2,.o 0,.o 1,.o 2] U (zM 0 G (zv G (bg Tryz.underlying31 (vq 0 G)) (zv G (ai ab) o0))) (zz [(0,_),(1,_),(4,_),(9,_),(10,_),(11,_)] [] λ a w U=>?_)
 refine aa<|qj ?_
 have U:=St.sel U [0,1,3,4,5]
 refine wp_loop_ghost (λ n a w=>∃ j:Nat,(n+j=xs.length∧cmpL xs ys=cmpL (xs.drop j) (ys.drop j))∧St B w0 36 [(0,(SlA 3 [] (xs.map InA)).va),(1,(SlA 3 [] (ys.map InA)).va),(9,(SlA 3 [] (xs.map InA)).va),(10,In (xs.length:Nat)),(11,In (j:Nat))] [] a w) (xs.length) ?_ ?_
 ·exact ⟨0,⟨by omega,rfl⟩,by rw [qc] at U; exact U⟩
 intro n a w hI
 obtain ⟨j,⟨hn,hno⟩,U⟩:=hI
 refine qb<|zh [.v 12 _] [.g 0,.g 1,.g 2,.g 3,.g 4,.o 0] U (zv G (aS (gq 4 G) (gq 3 G)) o0) (zz [(0,_),(1,_),(9,_),(10,_),(11,_),(12,_)] [] λ a w U=>?_)
 refine zt<|aj U (zm 5 G) (λ hb0=>?_) (λ hb0=>?_)
 ·have hj:j<xs.length:=by have:=qp hb0; omega
  refine qh<|zt<|qj<|qb<|zh [.v 13 _,.v 14 _,.v 15 _,.v 5 _,.v 6 _] [.g 0,.g 1,.g 2,.g 3,.g 4,.o 3,.o 4] U (zM 4 G (zv G (bH cP (bW λ _=>rfl) (gq 2 G) (gq 4 G) (bz hj)) (zv G (au (vq 1 G) ty_3) (zA 0 G (zA 2 G o0))))) (zz [(0,_),(1,_),(9,_),(10,_),(11,_),(5,_),(6,_)] [] λ a w U=>?_)
  refine zt<|qb<|zh [.v 16 _,.v 17 _,.v 18 _,.v 19 _] [.g 0,.g 1,.g 2,.g 3,.g 4,.g 5,.g 6,.o 3] U (zM 5 G (zM 1 G (zv G (bg Tryz.underlying31 (vq 1 G)) (zv G (d9 (vq 0 G) (vq 2 G)) o0)))) (zz [(0,_),(1,_),(9,_),(10,_),(11,_),(5,_),(6,_),(19,_)] [] λ a w U=>?_)
  refine aa<|aj U (zm 7 G) (λ hb1=>?_) (λ hb1=>?_)
  ·have hjy:ys.length≤j:=by rw [qc] at hb1; have:=qp hb1; omega
   refine qb<|zh [.v 4 _] [.g 0,.g 1,.g 2,.g 3,.g 4,.g 5,.g 6,.o 0] U (zv G (ac ab) o0) (zz [(0,_),(1,_),(9,_),(10,_),(11,_),(5,_),(6,_),(4,_)] [] λ a w U=>?_)
   refine aa<|qg<|al ?_
   refine aE ?_
   refine al ?_
   refine al ?_
   refine aE ?_
   refine al ?_
   refine ao ?_ (an G U (zm 7 G))
   rw [hno,GZ hj hjy]; exact aL
  ·have hjy:j<ys.length:=by rw [qc] at hb1; have:=qr hb1; omega
   refine qh<|zt<|zh [.v 20 _,.v 21 _,.v 22 _,.v 23 _,.v 7 _] [.g 0,.g 1,.g 2,.g 3,.g 4,.g 6,.o 4] U (zM 1 G (zM 5 G (zv G (bH cP (bW λ _=>rfl) (vq 0 G) (vq 1 G) (bz hjy)) (zv G (au (vq 2 G) ty_3) (zA 3 G o0))))) (zz [(0,_),(1,_),(9,_),(10,_),(11,_),(6,_),(7,_)] [] λ a w U=>?_)
   refine zt<|zh [.v 24 _,.v 25 _,.v 26 _,.v 8 _] [.g 0,.g 1,.g 2,.g 3,.g 4,.o 3] U (zM 5 G (zM 6 G (zQ G (cmpZ_c _ _) (.p (vq 0 G) (vq 1 G)) (zA 2 G o0)))) (zz [(0,_),(1,_),(9,_),(10,_),(11,_),(8,_)] [] λ a w U=>?_)
   refine zt<|zh [.v 27 _,.v 28 _] [.g 0,.g 1,.g 2,.g 3,.g 4,.g 5,.o 1] U (zM 5 G (zv G (bX (vq 0 G) ab) o0)) (zz [(0,_),(1,_),(9,_),(10,_),(11,_),(8,_),(28,_)] [] λ a w U=>?_)
   refine aa<|aj U (zm 6 G) (λ hb2=>?_) (λ hb2=>?_)
   ·refine qb<|zh [.v 29 _,.v 4 _] [.g 0,.g 1,.g 2,.g 3,.g 4,.o 1] U (zM 5 G (zA 0 G o0)) (zz [(0,_),(1,_),(9,_),(10,_),(11,_),(4,_)] [] λ a w U=>?_)
    refine aa<|qg<|aE ?_
    refine al ?_
    refine al ?_
    refine aE ?_
    refine al ?_
    refine ao ?_ (an G U (zm 5 G))
    rw [hno,GX hj hjy (by simpa using hb2)]; exact aL
   ·refine qh<|ap ?_
    refine aa<|zh [.v 30 _,.v 11 _] [.g 0,.g 1,.g 2,.g 3,.o 1] U (zv G (aN (gq 4 G) ab ((wi64 zo zo).trans (by omega:(_:Int)=((j+1:Nat):Int)))) (zv G (ai (vq 0 G)) o0)) (zz [(0,_),(1,_),(9,_),(10,_),(11,_)] [] λ a w U=>?_)
    refine aa ?_
    have U:=St.sel U [0,1,2,3,4]
    exact ⟨n-1,by omega,j+1,⟨by omega,hno.trans (GY hj hjy (by simpa using hb2))⟩,U⟩
 ·obtain rfl:j=xs.length:=by have:=qr hb0; omega
  refine qK<|am<|am<|aB<|zt<|qb<|zh [.v 31 _,.v 32 _,.v 33 _,.v 34 _,.v 35 _] [.o 4] U (zM 0 G (zv G (bg Tryz.underlying31 (vq 0 G)) (zM 1 G (zv G (bg Tryz.underlying31 (vq 2 G)) (zv G (aS (vq 1 G) (vq 3 G)) o0))))) (zz [(35,_)] [] λ a w U=>?_)
  refine aa<|aj U (zm 0 G) (λ hb3=>?_) (λ hb3=>?_)
  ·have hle:xs.length<ys.length:=by simp only [qc] at hb3; have:=qp hb3; omega
   refine qb<|zh [.v 4 _] [.o 0] U (zv G (ac ab) o0) (zz [(4,_)] [] λ a w U=>?_)
   refine aa<|qg<|al ?_
   refine ao ?_ (an G U (zm 0 G))
   rw [hno,sz,qz hle]; exact aL
  ·have hle:¬ xs.length<ys.length:=by simp only [qc] at hb3; have:=qr hb3; omega
   refine qh<|zt<|zh [.v 4 _] [.o 0] U (zv G (ac ab) o0) (zz [(4,_)] [] λ a w U=>?_)
   refine aa<|qg<|ao ?_ (an G U (zm 0 G))
   rw [hno,sz,qw hle]; exact aL
structure WyQ where
 l:List Int
 pw:Rat
 aw:Rat
 c:Int
def WyA (k:Nat)(x:WyQ):As:=cat [SlA 3 [] (x.l.map InA),QA k x.pw,QA k x.aw,InA x.c]
def betF (a b:WyQ):Bool:=if (cmQ a.aw b.aw != 0) then decide (cmQ a.aw b.aw<0) else if (a.c != b.c) then decide (a.c<b.c) else decide (cmpL a.l b.l<0)
theorem CB {k:Nat}(hk:k≤400000000)(x y:WyQ):Cn Tryz.prog 170 [(WyA k x).va,(WyA k y).va] (Bo (betF x y)):=by
 refine Cn.intro Tryz.func170 G zk nq (λ B w0 a U=>?_)
 have U:=zn [(0,(WyA k x).va),(1,(WyA k y).va)] [] U
 refine qb<|zg [] [⟨2,76,ptrH,some 0,_,none⟩,⟨3,76,ptrH,some 1,_,none⟩] [.alc 0,.alc 1,.v 4 _] [.o 2] U (zW 0 G (zW 1 G (zv G (ac aJ) o0))) (zz [(4,_)] [O 2 76 _,O 3 76 _] λ a w U=>?_)
 refine zt<|qb<|zg [η,η] [] [.adr 6 2 (.some 5) True,.v 7 _,.adr 8 3 (.some 5) True,.v 9 _,.v 10 _,.v 5 _] [.g 0,.o 5] U (zO 0 G f9 (zL 0 0 2 G ax (zO 1 G f9 (zL 2 1 2 G ax (zQ G (GW zo) (.p (vq 1 G) (vq 3 G)) (zA 4 G o0)))))) (zz [(4,_),(5,_)] [O 2 76 _,O 3 76 _] λ a w U=>?_)
 refine zt<|zg [η,η] [] [.v 11 _,.v 12 _] [.g 0,.g 1,.o 1] U (zM 1 G (zv G (bX (vq 0 G) ab) o0)) (zz [(4,_),(5,_),(12,_)] [O 2 76 _,O 3 76 _] λ a w U=>?_)
 refine aa<|aj U (zm 2 G) (λ hb0=>?_) (λ hb0=>?_)
 ·refine qb<|zg [η,η] [] [.v 13 _,.v 14 _,.v 4 _] [.o 2] U (zM 1 G (zv G (aS (vq 0 G) ab) (zA 1 G o0))) (zz [(4,_)] [O 2 76 _,O 3 76 _] λ a w U=>?_)
  refine aa<|qg<|al ?_
  refine ao ?_ (an G U (zm 0 G))
  rw [betF,qz hb0]; exact aL
 ·refine qh<|zt<|qb<|zg [η,η] [] [.adr 15 2 (.some 9) True,.v 16 _,.adr 17 3 (.some 9) True,.v 18 _,.v 19 _] [.g 0,.o 4] U (zO 0 G fX (zL 0 0 3 G ty_3 (zO 1 G fX (zL 2 1 3 G ty_3 (zv G (bX (vq 1 G) (vq 3 G)) o0))))) (zz [(4,_),(19,_)] [O 2 76 _,O 3 76 _] λ a w U=>?_)
  refine aa<|aj U (zm 1 G) (λ hb1=>?_) (λ hb1=>?_)
  ·refine qb<|zg [η,η] [] [.adr 20 2 (.some 9) True,.v 21 _,.adr 22 3 (.some 9) True,.v 23 _,.v 24 _,.v 4 _] [.o 5] U (zO 0 G fX (zL 0 0 3 G ty_3 (zO 1 G fX (zL 2 1 3 G ty_3 (zv G (aS (vq 1 G) (vq 3 G)) (zA 4 G o0)))))) (zz [(4,_)] [O 2 76 _,O 3 76 _] λ a w U=>?_)
   refine aa<|qg<|al ?_
   refine ao ?_ (an G U (zm 0 G))
   rw [betF,qw (by rw [hb0]; decide),qz hb1]; exact aL
  ·refine qh<|zt<|zg [η,η] [] [.adr 25 2 (.some 0) True,.v 26 _,.adr 27 3 (.some 0) True,.v 28 _,.v 29 _,.v 30 _,.v 4 _] [.o 6] U (zO 0 G fa (zL 0 0 0 G fk (zO 1 G fa (zL 2 1 0 G fk (zQ G (cmpS_c _ _) (.p (vq 1 G) (vq 3 G)) (zv G (aS (vq 4 G) ab) (zA 5 G o0))))))) (zz [(4,_)] [O 2 76 _,O 3 76 _] λ a w U=>?_)
   refine aa<|qg<|ao ?_ (an G U (zm 0 G))
   rw [betF,qw (by rw [hb0]; decide),qw (by rw [hb1]; decide)]; exact aL
end Go.Proofs.YtedfcalhhldijaaGreatDoor
