import Derived.Test.YtedfcalhhldijaaGreatDoorRwAr
import Derived.Laws.CopyRow
set_option linter.all false
set_option maxRecDepth 100000
namespace Go.Proofs.YtedfcalhhldijaaGreatDoor
open Go Go.RowKit
variable {w:World}{B:Nat}{a:Act}{v:Value}{T:TypeId}{w0:Bs}{Γ:List (Nat × VA)}{Λ:List Lc}{ps:String}{af:Array Edge}{vr:Value}{H:Hd}{cs:List Value}{w':World}{P:Program}{D:List TypeId}
theorem hd_r (t:RTk):((((decide ((t.sp.length:Int)<2) || decide ((t.sp.length:Int)>13)) || decide ((t.ps.length:Int)<1)) || decide ((t.ps.length:Int)>64)) || !([t.tg].all okX))=hdF t:=by
 unfold hdF
 simp only [xS,x8,xT]
 cases okX t.tg <;> simp
theorem sp_r (x:RF):((!([x].all okX)) || decide ((toQ x).num.sign<0)) = !spcF x:=by
 unfold spcF
 simp only [xS,x8,xT]
 cases okX x <;> simp
theorem Fj {x:RF}(h:(!([x].all okX))=false):Cn Tryz.prog 120 [(RFA x).va] (In (toQ x).num.sign):=r2sign_q.wk (.cons (qa_x (by simpa using h) (qi _)).va .nil)
theorem du_nx {ps:List RPt}{j:Nat}(hj:j<ps.length):dupB ((ps.take (j+1)).map RPt.nm)=(dupB ((ps.take j).map RPt.nm) || (ps.take j).any λ p=>decide (ps[j].nm=p.nm)):=by
 rw [qu hj,zF,qN,x7,si]
 congr 1
 rw [xW]
 simp only [qx,qH,qq,xQ]
 constructor
 ·rintro ⟨s,⟨p,hp,rfl⟩,h⟩
  exact ⟨p,hp,(ByteArray.ext (Array.toList_inj.1 h)).symm⟩
 ·rintro ⟨p,hp,h⟩
  exact ⟨p.nm,⟨p,hp,rfl⟩,by rw [h]⟩
theorem GM {ns:List ByteArray}{j:Nat}(h:dupB (ns.take j)=true):dupB ns=true:=by
 unfold dupB at h ⊢
 simp only [qv,qk] at h ⊢
 exact λ hn=>h (hn.sublist ((List.take_sublist j ns).map _))
theorem an_so {q:RPt→Bool}{xs:List RPt}{k j:Nat}(hk:k<j)(hj:j<xs.length)(h:q xs[k]=true):(xs.take j).any q=true:=xQ.2 ⟨xs[k],List.mem_take_iff_getElem.2 ⟨k,by omega,rfl⟩,h⟩
theorem an_nx {q:RPt→Bool}{xs:List RPt}{j:Nat}(hj:j<xs.length)(h1:(xs.take j).any q=false)(h2:q xs[j]=false):(xs.take (j+1)).any q=false:=by
 rw [qu hj,jL,h1]
 simp [h2]
set_option maxHeartbeats 1000000 in
theorem t7 (t:RTk):Cn Tryz.prog 28 [(TkA t).va] (In (ckF t)):=by
 refine Cn.intro Tryz.func28 G zk nq (λ B w0 a U=>?_)
 have U:=zn [(0,(TkA t).va)] [] U
 refine qb<|zg [] [⟨1,30,ptrH,some 0,_,none⟩] [.alc 0,.v 2 _] [.o 1] U (zW 0 G (zv G (ac ab) o0)) (zz [(2,_)] [O 1 30 _] λ a w U=>?_)
 refine zt<|qb<|gl (sts:=[none]) (news:=[]) (sp:=((.adr 7 1 (.some 0) True:Sp)::(.v 8 _)::(.v 9 _)::(.v 10 _)::(.v 11 _)::(.adr 12 1 (.some 0) (_=false))::(.f 13 _)::(.f 14 _)::(.f 15 _)::(.v 16 _)::(.v 17 _)::(.adr 18 1 (.some 1) (_=false))::(.f 19 _)::(.f 20 _)::(.f 21 _)::(.v 22 _)::(.v 23 _)::(.adr 24 1 (.some 1) (_=false))::(.f 25 _)::(.f 26 _)::(.f 27 _)::(.v 28 _)::(.v 29 _)::(.adr 30 1 (.some 2) (_=false))::(.f 31 _)::(.f 32 _)::(.f 33 _)::(.f 34 _)::(.v 35 _)::[])) [.g 0,.o 28] U (zO 0 G bU (zL 0 0 0 G ew (zv G (bg Tryz.underlying22 (vq 1 G)) (zv G (aS (vq 2 G) ab) (zv G (ai (vq 3 G)) (zC 4 0 G bU (zB 4 G (λ hg=>aF 5 G zk hg (lz0 0 G) (Sub.part 0 G G) ew) (zB 4 G (λ hg=>bg Tryz.underlying22 (ak (vq 6 G) hg)) (zB 4 G (λ hg=>ci (ak (vq 7 G) hg) ab) (zv G (r_or (vq 4 G) (vq 8 G)) (zv G (ai (vq 9 G)) (zC 10 0 G bD (zB 10 G (λ hg=>aF 11 G zk hg (lz0 0 G) (Sub.part 1 G G) dn) (zB 10 G (λ hg=>bg Tryz.underlying23 (ak (vq 12 G) hg)) (zB 10 G (λ hg=>aS (ak (vq 13 G) hg) ab) (zv G (r_or (vq 10 G) (vq 14 G)) (zv G (ai (vq 15 G)) (zC 16 0 G bD (zB 16 G (λ hg=>aF 17 G zk hg (lz0 0 G) (Sub.part 1 G G) dn) (zB 16 G (λ hg=>bg Tryz.underlying23 (ak (vq 18 G) hg)) (zB 16 G (λ hg=>ci (ak (vq 19 G) hg) ab) (zv G (r_or (vq 16 G) (vq 20 G)) (zv G (ai (vq 21 G)) (zC 22 0 G dH (zB 22 G (λ hg=>aF 23 G zk hg (lz0 0 G) (Sub.part 2 G G) ax) (zB 22 G (λ hg=>bJ (D:=[U32]) (l:=[_]) (xs:=[.tmp 31]) (cT zk) cO zk (n_ok zk) nq nq nq (.o (ak (vq 24 G) hg)) G G) (zB 22 G (λ hg=>be (gE [t.tg] nq) (.o (ak (vq 25 G) hg))) (zB 22 G (λ hg=>dY (ak (vq 26 G) hg)) (zv G (r_or (vq 22 G) (vq 27 G)) o0))))))))))))))))))))))))))))) (zz [(2,_),(35,_)] [O 1 30 _] λ a w U=>?_)
 refine aa<|aj U (zm 1 G) (λ hb0=>?_) (λ hb0=>?_)
 ·have hd:hdF t=true:=by simp only [qc] at hb0; rw [← hd_r]; exact hb0
  refine qb<|zg [η] [] [.v 2 _] [.o 0] U (zv G (ac ab) o0) (zz [(2,_)] [O 1 30 _] λ a w U=>?_)
  refine aa<|qg<|al ?_
  refine ao ?_ (an G U (zm 0 G))
  rw [ckF,qz hd]; exact aL
 ·have hd:hdF t=false:=by simp only [qc] at hb0; rw [← hd_r]; exact hb0
  obtain ⟨hs2,hs13,hp1,hp64,htg⟩:=hd_b hd
  refine qh<|zt<|qb<|zg [η] [] [.v 3 _] [.g 0,.o 0] U (zv G (ac ab) o0) (zz [(2,_),(3,_)] [O 1 30 _] λ a w U=>?_)
  refine aa<|qj ?_
  have U:=St.sel U [1]
  refine wp_loop_ghost (λ n a w=>∃ j:Nat,(n+j=t.sp.length∧(t.sp.take j).all spcF=true)∧St B w0 106 [(3,In (j:Nat))] [⟨1,30,ptrH,TkA t⟩] a w) (t.sp.length) ?_ ?_
  ·exact ⟨0,⟨by omega,rfl⟩,U⟩
  intro n a w hI
  obtain ⟨j,⟨hn,hno⟩,U⟩:=hI
  refine qb<|qb<|zg [η] [] [.v 36 _,.adr 37 1 (.some 0) True,.v 38 _,.v 39 _,.v 40 _] [.g 0,.o 4] U (zM 0 G (zO 0 G bU (zL 1 0 0 G ew (zv G (bg Tryz.underlying22 (vq 2 G)) (zv G (aS (vq 0 G) (vq 3 G)) o0))))) (zz [(3,_),(40,_)] [O 1 30 _] λ a w U=>?_)
  refine aa<|aj U (zm 1 G) (λ hb1=>?_) (λ hb1=>?_)
  ·have hj:j<t.sp.length:=by rw [qc] at hb1; have:=qp hb1; omega
   refine qh<|zt<|qj<|qb<|zg [η] [] [.adr 43 1 (.some 0) True,.v 44 _,.v 45 _,.v 46 _,.v 47 _,.v 48 _,.v 49 _,.v 50 _,.v 51 _,.adr 52 1 (.some 0) (_=false),.f 53 _,.f 54 _,.f 55 _,.f 56 _,.f 57 _,.f 58 _,.v 59 _] [.g 0,.o 16] U (zO 0 G bU (zL 0 0 0 G ew (zM 0 G (zv G (bH cO (bW λ _=>rfl) (vq 1 G) (vq 2 G) (bz hj)) (zv G (au (vq 3 G) ax) (zv G (bJ (D:=[U32]) (l:=[_]) (xs:=[.tmp 47]) (cT zk) cO zk (n_ok zk) nq nq nq (.o (vq 4 G)) G G) (zQ G (gE [t.sp[j]] nq) (.o (vq 5 G)) (zv G (dY (vq 6 G)) (zv G (ai (vq 7 G)) (zC 8 0 G bU (zB 8 G (λ hg=>aF 9 G zk hg (lz0 0 G) (Sub.part 0 G G) ew) (zB 8 G (λ hg=>ai (gq 0 G)) (zB 8 G (λ hg=>bH cO (bW λ _=>rfl) (ak (vq 10 G) hg) (ak (vq 11 G) hg) (bz hj)) (zB 8 G (λ hg=>au (ak (vq 12 G) hg) ax) (zB 8 G (λ hg=>be (Fj hg) (.o (ak (vq 13 G) hg))) (zB 8 G (λ hg=>aS (ak (vq 14 G) hg) ab) (zv G (r_or (vq 8 G) (vq 15 G)) o0))))))))))))))))) (zz [(3,_),(59,_)] [O 1 30 _] λ a w U=>?_)
   refine aa<|aj U (zm 1 G) (λ hb2=>?_) (λ hb2=>?_)
   ·have hq:spcF t.sp[j]=false:=by have h:=hb2; rw [sp_r] at h; simpa using h
    refine qb<|zg [η] [] [.v 2 _] [.g 0,.o 0] U (zv G (ac ab) o0) (zz [(3,_),(2,_)] [O 1 30 _] λ a w U=>?_)
    refine aa<|qg<|aE ?_
    refine al ?_
    refine al ?_
    refine aE ?_
    refine al ?_
    refine ao ?_ (an G U (zm 1 G))
    rw [ck_sp hd (lp hj hq)]; exact aL
   ·have hq:spcF t.sp[j]=true:=by have h:=hb2; rw [sp_r] at h; simpa using h
    refine qh<|ap ?_
    refine aa<|zg [η] [] [.v 41 _,.v 42 _,.v 3 _] [.o 2] U (zM 0 G (zv G (aN (vq 0 G) ab ((wi64 zo zo).trans (by omega:(_:Int)=((j+1:Nat):Int)))) (zA 1 G o0))) (zz [(3,_)] [O 1 30 _] λ a w U=>?_)
    refine aa ?_
    have U:=St.sel U [0]
    exact ⟨n-1,by omega,j+1,⟨by omega,lr hj hno hq⟩,U⟩
  ·obtain rfl:j=t.sp.length:=by rw [qc] at hb1; have:=qr hb1; omega
   rw [qF] at hno
   have hsp:=hno
   refine qK<|am<|am<|aB<|zt<|qb<|zg [η] [] [.v 4 _] [.o 0] U (zv G (ac ab) o0) (zz [(4,_)] [O 1 30 _] λ a w U=>?_)
   refine aa<|qj ?_
   have U:=St.sel U [0]
   refine wp_loop_ghost (λ n a w=>∃ j:Nat,(n+j=t.ps.length∧(t.ps.take j).all ptF=true)∧St B w0 106 [(4,In (j:Nat))] [⟨1,30,ptrH,TkA t⟩] a w) (t.ps.length) ?_ ?_
   ·exact ⟨0,⟨by omega,rfl⟩,U⟩
   intro n a w hI
   obtain ⟨j,⟨hn,hno⟩,U⟩:=hI
   refine qb<|qb<|zg [η] [] [.v 60 _,.adr 61 1 (.some 1) True,.v 62 _,.v 63 _,.v 64 _] [.g 0,.o 4] U (zM 0 G (zO 0 G bD (zL 1 0 1 G dn (zv G (bg Tryz.underlying23 (vq 2 G)) (zv G (aS (vq 0 G) (vq 3 G)) o0))))) (zz [(4,_),(64,_)] [O 1 30 _] λ a w U=>?_)
   refine aa<|aj U (zm 1 G) (λ hb3=>?_) (λ hb3=>?_)
   ·have hj:j<t.ps.length:=by rw [qc] at hb3; have:=qp hb3; omega
    refine qh<|zt<|qj<|qb<|zg [η] [] [.adr 67 1 (.some 1) True,.v 68 _,.v 69 _,.v 70 _,.v 71 _,.v 72 _,.v 73 _] [.g 0,.o 6] U (zO 0 G bD (zL 0 0 1 G dn (zM 0 G (zv G (bH ey (bW λ _=>rfl) (vq 1 G) (vq 2 G) (bz hj)) (zv G (au (vq 3 G) dy) (zQ G (vF _) (.o (vq 4 G)) (zv G (dY (vq 5 G)) o0))))))) (zz [(4,_),(73,_)] [O 1 30 _] λ a w U=>?_)
    refine aa<|aj U (zm 1 G) (λ hb4=>?_) (λ hb4=>?_)
    ·have hq:ptF t.ps[j]=false:=by simpa using hb4
     refine qb<|zg [η] [] [.v 2 _] [.g 0,.o 0] U (zv G (ac ab) o0) (zz [(4,_),(2,_)] [O 1 30 _] λ a w U=>?_)
     refine aa<|qg<|aE ?_
     refine al ?_
     refine al ?_
     refine aE ?_
     refine al ?_
     refine ao ?_ (an G U (zm 1 G))
     rw [ck_ps hd hsp (lp hj hq)]; exact aL
    ·have hq:ptF t.ps[j]=true:=by simpa using hb4
     refine qh<|ap ?_
     refine aa<|zg [η] [] [.v 65 _,.v 66 _,.v 4 _] [.o 2] U (zM 0 G (zv G (aN (vq 0 G) ab ((wi64 zo zo).trans (by omega:(_:Int)=((j+1:Nat):Int)))) (zA 1 G o0))) (zz [(4,_)] [O 1 30 _] λ a w U=>?_)
     refine aa ?_
     have U:=St.sel U [0]
     exact ⟨n-1,by omega,j+1,⟨by omega,lr hj hno hq⟩,U⟩
   ·obtain rfl:j=t.ps.length:=by rw [qc] at hb3; have:=qr hb3; omega
    rw [qF] at hno
    have hps:=hno
    refine qK<|am<|am<|aB<|zt<|qb<|zg [η] [] [.v 5 _] [.o 0] U (zv G (ac ab) o0) (zz [(5,_)] [O 1 30 _] λ a w U=>?_)
    refine aa<|qj ?_
    have U:=St.sel U [0]
    refine wp_loop_ghost (λ n a w=>∃ j:Nat,(n+j=t.ps.length∧dupB ((t.ps.take j).map RPt.nm)=false)∧St B w0 106 [(5,In (j:Nat))] [⟨1,30,ptrH,TkA t⟩] a w) (t.ps.length) ?_ ?_
    ·exact ⟨0,⟨by omega,rfl⟩,U⟩
    intro n a w hI
    obtain ⟨j,⟨hn,hno⟩,U⟩:=hI
    obtain ⟨N,rfl⟩:∃ N,N=n:=⟨n,rfl⟩
    refine qb<|qb<|zg [η] [] [.v 74 _,.adr 75 1 (.some 1) True,.v 76 _,.v 77 _,.v 78 _] [.g 0,.o 4] U (zM 0 G (zO 0 G bD (zL 1 0 1 G dn (zv G (bg Tryz.underlying23 (vq 2 G)) (zv G (aS (vq 0 G) (vq 3 G)) o0))))) (zz [(5,_),(78,_)] [O 1 30 _] λ a w U=>?_)
    refine aa<|aj U (zm 1 G) (λ hb5=>?_) (λ hb5=>?_)
    ·have hj:j<t.ps.length:=by rw [qc] at hb5; have:=qp hb5; omega
     refine qh<|zt<|qj<|qb<|zg [η] [] [.v 6 _] [.g 0,.o 0] U (zv G (ac ab) o0) (zz [(5,_),(6,_)] [O 1 30 _] λ a w U=>?_)
     refine aa<|qj ?_
     have U:=St.sel U [0,1]
     refine wp_loop_ghost (λ n a w=>∃ k:Nat,(n+k=j∧(t.ps.take k).any (λ p=>decide ((t.ps[j]'hj).nm=p.nm))=false)∧St B w0 106 [(5,In (j:Nat)),(6,In (k:Nat))] [⟨1,30,ptrH,TkA t⟩] a w) (j) ?_ ?_
     ·exact ⟨0,⟨by omega,rfl⟩,U⟩
     intro n a w hI
     obtain ⟨k,⟨hnk,hna⟩,U⟩:=hI
     refine qb<|qb<|zg [η] [] [.v 81 _,.v 82 _,.v 83 _] [.g 0,.g 1,.o 2] U (zM 1 G (zM 0 G (zv G (aS (vq 0 G) (vq 1 G)) o0))) (zz [(5,_),(6,_),(83,_)] [O 1 30 _] λ a w U=>?_)
     refine aa<|aj U (zm 2 G) (λ hb6=>?_) (λ hb6=>?_)
     ·have hk:k<j:=by have:=qp hb6; omega
      have hkp:k<t.ps.length:=by omega
      refine qh<|zt<|qj<|qb<|zgd [[],[0],[],[0,1,2],[0,1,2,3],[0,1,2,3,4],[],[6],[],[6,7,8],[6,7,8,9],[6,7,8,9,10],[0,1,2,3,4,5,6,7,8,9,10,11]] [none] [] [.adr 86 1 (.some 1) True,.v 87 _,.v 88 _,.v 89 _,.v 90 _,.v 91 _,.adr 92 1 (.some 1) True,.v 93 _,.v 94 _,.v 95 _,.v 96 _,.v 97 _,.v 98 _] [.g 0,.g 1,.o 12] ae U (zO 0 G bD (zL 0 0 1 G dn (zM 0 G (zv G (bH ey (bW λ _=>rfl) (vq 1 G) (vq 2 G) (bz hj)) (zv G (bL (vq 3 G) cM (Sub.part 0 G G)) (zv G (au (vq 4 G) ty_9) (zO 0 G bD (zL 6 0 1 G dn (zM 1 G (zv G (bH ey (bW λ _=>rfl) (vq 7 G) (vq 8 G) (bz hkp)) (zv G (bL (vq 9 G) cM (Sub.part 0 G G)) (zv G (au (vq 10 G) ty_9) (zv G (Dc (vq 5 G) (vq 11 G)) o0))))))))))))) zk zk zk zk (zz [(5,_),(6,_),(98,_)] [O 1 30 _] λ a w U=>?_)
      refine aa<|aj U (zm 2 G) (λ hb7=>?_) (λ hb7=>?_)
      ·have hdu:dupB (t.ps.map RPt.nm)=true:=GM (j:=j+1) (by rw [← List.map_take,du_nx hj,an_so hk hj hb7,j8])
       refine qb<|zg [η] [] [.v 2 _] [.g 0,.g 1,.o 0] U (zv G (ac ab) o0) (zz [(5,_),(6,_),(2,_)] [O 1 30 _] λ a w U=>?_)
       refine aa<|qg<|aE ?_
       refine al ?_
       refine al ?_
       refine aE ?_
       refine aE ?_
       refine al ?_
       refine al ?_
       refine aE ?_
       refine al ?_
       refine ao ?_ (an G U (zm 2 G))
       rw [ck_du hd hsp hps hdu]; exact aL
      ·have hq:=hb7
       refine qh<|ap ?_
       refine aa<|zg [η] [] [.v 84 _,.v 85 _,.v 6 _] [.g 0,.o 2] U (zM 1 G (zv G (aN (vq 0 G) ab ((wi64 zo zo).trans (by omega:(_:Int)=((k+1:Nat):Int)))) (zA 1 G o0))) (zz [(5,_),(6,_)] [O 1 30 _] λ a w U=>?_)
       refine aa ?_
       have U:=St.sel U [0,1]
       exact ⟨n-1,by omega,k+1,⟨by omega,an_nx zo hna hq⟩,U⟩
     ·obtain rfl:j=k:=by have:=qr hb6; omega
      refine qK<|am<|am<|aB<|ap ?_
      refine aa<|zg [η] [] [.v 79 _,.v 80 _,.v 5 _] [.o 2] U (zM 0 G (zv G (aN (vq 0 G) ab ((wi64 zo zo).trans (by omega:(_:Int)=((j+1:Nat):Int)))) (zA 1 G o0))) (zz [(5,_)] [O 1 30 _] λ a w U=>?_)
      refine aa ?_
      have U:=St.sel U [0]
      exact ⟨N-1,by omega,j+1,⟨by omega,by rw [du_nx hj,hno,hna]; rfl⟩,U⟩
    ·obtain rfl:j=t.ps.length:=by rw [qc] at hb5; have:=qr hb5; omega
     rw [qF] at hno
     have hdu:=hno
     refine qK<|am<|am<|aB<|zt<|qb<|zgd [[],[0],[0,1],[],[3],[0,1,2,3,4],[0,1,2,3,4,5]] [none] [] [.adr 99 1 (.some 1) True,.v 100 _,.v 101 _,.v 102 _,.v 103 _,.v 104 _,.v 105 _] [.o 6] ae U (zO 0 G bD (zL 0 0 1 G dn (zv G (bg Tryz.underlying23 (vq 1 G)) (zl 0 G cN (zQ G (gF t) (.o (vq 3 G)) (zQ G ((vC t.ps.length (t.sp.length-1) zo zo).wk (.cons (aZ (qm (λ z:Nat=>In (z:Int)) (qc _))) (.cons (aZ (qm In (At hs2 hs13))) .nil))) (.p (vq 2 G) (vq 4 G)) (zv G (ci (vq 5 G) ab) o0))))))) zk zk zk zk (zz [(105,_)] [O 1 30 _] λ a w U=>?_)
     refine aa<|aj U (zm 0 G) (λ hb8=>?_) (λ hb8=>?_)
     ·rw [CP zo] at hb8
      refine qb<|zg [η] [] [.v 2 _] [.o 0] U (zv G (ac ab) o0) (zz [(2,_)] [O 1 30 _] λ a w U=>?_)
      refine aa<|qg<|al ?_
      refine ao ?_ (an G U (zm 0 G))
      rw [Cs hd hsp hps hdu,qz hb8]; exact aL
     ·rw [CP zo] at hb8
      refine qh<|zt<|zg [η] [] [.v 2 _] [.o 0] U (zv G (ac ab) o0) (zz [(2,_)] [O 1 30 _] λ a w U=>?_)
      refine aa<|qg<|ao ?_ (an G U (zm 0 G))
      rw [Cs hd hsp hps hdu,qw (by rw [hb8]; decide)]; exact aL
theorem qm4 {c1 c2 c3 c4 k:Nat}{x y z u:Rat}(h1:c1≤k)(h2:c2≤k)(h3:c3≤k)(h4:c4≤k):WkA (cat [QA c1 x,QA c2 y,QA c3 z,QA c4 u]) (QMA k ⟨x,y,z,u⟩):=bo (.cons (bO h1) (.cons (bO h2) (.cons (bO h3) (.cons (bO h4) .nil))))
theorem vJ {k k':Nat}{m:MQ}(h:k≤k'):WkA (QMA k m) (QMA k' m):=bo (.cons (bO h) (.cons (bO h) (.cons (bO h) (.cons (bO h) .nil))))
theorem elM_1 {x:RE}(h:x.k=1):elM x=⟨1,toQ x.p,0,1⟩:=by unfold elM; rw [h]; rfl
theorem elM_2 {x:RE}(h:x.k=2):elM x=⟨1,0,0-toQ x.p,1⟩:=by unfold elM; rw [h]; rfl
theorem elM_3 {x:RE}(h:x.k=3):elM x=⟨1,toQ x.p/toQ x.q,0,1⟩:=by unfold elM; rw [h]; rfl
theorem elM_4 {x:RE}(h:x.k=4):elM x=⟨1,0,0-toQ x.p*toQ x.q,1⟩:=by unfold elM; rw [h]; rfl
theorem elM_5 {x:RE}(h1:¬ x.k=1)(h2:¬ x.k=2)(h3:¬ x.k=3)(h4:¬ x.k=4):elM x=⟨0-1,0-0,0-0,0-1⟩:=by unfold elM elQ; rw [qw h1,qw h2,qw h3,qw h4]
theorem q3_nz {x:RE}(hk:x.k=1∨x.k=2∨(x.k=3∧toQ x.q≠0)∨x.k=4∨x.k=5)(h:x.k=3):toQ x.q≠0:=by
 rcases hk with e | e | ⟨_,e⟩ | e | e
 ·omega
 ·omega
 ·exact e
 ·omega
 ·omega
theorem rE {c d e f:Nat}{x y z u:Rat}(hk:c+d+e+f≤900000000):Cn Tryz.prog 197 [Qs c x,Qs d y,Qs e z,Qs f u] (Qs (c+d+(e+f)+1) (x*y+z*u)):=by
 refine Cn.intro Tryz.func197 G zk nq (λ B w0 a U=>?_)
 have U:=zn [(0,Qs c x),(1,Qs d y),(2,Qs e z),(3,Qs f u)] [] U
 refine qb<|zg [] [⟨4,28,ptrH,some 0,_,none⟩,⟨5,28,ptrH,some 1,_,none⟩,⟨6,28,ptrH,some 2,_,none⟩,⟨7,28,ptrH,some 3,_,none⟩,⟨8,28,ptrH,some 4,_,none⟩] [.alc 0,.alc 1,.alc 2,.alc 3,.alc 4] [] U (zW 0 G (zW 1 G (zW 2 G (zW 3 G (zY G (Str.zero aP) o0))))) (zz [] [O 4 28 _,O 5 28 _,O 6 28 _,O 7 28 _,O 8 28 _] λ a w U=>?_)
 refine zt<|zgd [[],[],[0,1],[],[],[0,1,2,3,4],[0,1,2,3,4,5],[0,1,2,3,4,5,6]] [none,none,none,none,some (7,_)] [] [.v 9 _,.v 10 _,.v 11 _,.v 12 _,.v 13 _,.v 14 _,.v 15 _,.sto 4] [] ae U (zl 0 G ax (zl 1 G ax (zQ G (iR zo) (.p (vq 0 G) (vq 1 G)) (zl 2 G ax (zl 3 G ax (zQ G (iR zo) (.p (vq 3 G) (vq 4 G)) (zQ G (ms zo) (.p (vq 2 G) (vq 5 G)) (zS 6 G ax o0)))))))) zk zk zk zk (zz [] [O 4 28 _,O 5 28 _,O 6 28 _,O 7 28 _,O 8 28 _] λ a w U=>?_)
 refine aa<|qg<|ao ?_ (aA G U (zm 4 G) ax)
 exact aL
theorem B2 {c:Nat}{x:Rat}(hc:c≤800000000):Cn Tryz.prog 231 [Qs c x] (Qs (c+2+1) x):=by
 refine Cn.intro Tryz.func231 G zk nq (λ B w0 a U=>?_)
 have U:=zn [(0,Qs c x)] [] U
 refine qb<|zg [] [⟨1,28,ptrH,some 0,_,none⟩,⟨2,28,ptrH,some 1,_,none⟩] [.alc 0,.alc 1] [] U (zW 0 G (zY G (Str.zero aP) o0)) (zz [] [O 1 28 _,O 2 28 _] λ a w U=>?_)
 refine zt<|zgd [[],[],[0,1],[0,1,2]] [none,some (3,_)] [] [.v 3 _,.v 4 _,.v 5 _,.sto 1] [] ae U (zl 0 G ax (zQ G cE .nil (zQ G (ms zo) (.p (vq 0 G) (vq 1 G)) (zS 2 G ax o0)))) zk zk zk zk (zz [] [O 1 28 _,O 2 28 _] λ a w U=>?_)
 refine aa<|qg<|ao ?_ (aA G U (zm 1 G) ax)
 exact aZ (qm (Qs _) (Rat.add_zero x))
theorem eA {c:Nat}{x:Rat}(hc:c≤800000000):Cn Tryz.prog 232 [Qs c x] (Qs (2+c+1) (0-x)):=by
 refine Cn.intro Tryz.func232 G zk nq (λ B w0 a U=>?_)
 have U:=zn [(0,Qs c x)] [] U
 refine qb<|zg [] [⟨1,28,ptrH,some 0,_,none⟩,⟨2,28,ptrH,some 1,_,none⟩] [.alc 0,.alc 1] [] U (zW 0 G (zY G (Str.zero aP) o0)) (zz [] [O 1 28 _,O 2 28 _] λ a w U=>?_)
 refine zt<|zgd [[],[],[0,1],[0,1,2]] [none,some (3,_)] [] [.v 3 _,.v 4 _,.v 5 _,.sto 1] [] ae U (zQ G cE .nil (zl 0 G ax (zQ G (nR zo) (.p (vq 0 G) (vq 1 G)) (zS 2 G ax o0)))) zk zk zk zk (zz [] [O 1 28 _,O 2 28 _] λ a w U=>?_)
 refine aa<|qg<|ao ?_ (aA G U (zm 1 G) ax)
 exact aL
theorem iT {c d e f:Nat}{x y z u:Rat}:Cn Tryz.prog 230 [Qs c x,Qs d y,Qs e z,Qs f u] ((cat [QA c x,QA d y,QA e z,QA f u]).va):=by
 refine Cn.intro Tryz.func230 G zk nq (λ B w0 a U=>?_)
 have U:=zn [(0,Qs c x),(1,Qs d y),(2,Qs e z),(3,Qs f u)] [] U
 refine qb<|zg [] [⟨4,28,ptrH,some 0,_,none⟩,⟨5,28,ptrH,some 1,_,none⟩,⟨6,28,ptrH,some 2,_,none⟩,⟨7,28,ptrH,some 3,_,none⟩,⟨8,126,ptrH,some 4,_,none⟩] [.alc 0,.alc 1,.alc 2,.alc 3,.alc 4] [] U (zW 0 G (zW 1 G (zW 2 G (zW 3 G (zY G (Str.zero cC) o0))))) (zz [] [O 4 28 _,O 5 28 _,O 6 28 _,O 7 28 _,O 8 126 _] λ a w U=>?_)
 refine zt<|zg [η,η,η,η,some (5,_)] [] [.v 9 _,.v 10 _,.v 11 _,.v 12 _,.v 13 _,.sto 4] [] U (zl 0 G ax (zl 1 G ax (zl 2 G ax (zl 3 G ax (zv G (aU (qs:=[(0,_),(1,_),(2,_),(3,_)]) cC (.cons ⟨rfl,vq 0 rfl,rfl⟩ (.cons ⟨rfl,vq 1 rfl,rfl⟩ (.cons ⟨rfl,vq 2 rfl,rfl⟩ (.cons ⟨rfl,vq 3 rfl,rfl⟩ .nil))))) (zS 4 G cB o0)))))) (zz [] [O 4 28 _,O 5 28 _,O 6 28 _,O 7 28 _,O 8 126 _] λ a w U=>?_)
 refine aa<|qg<|ao ?_ (aA G U (zm 4 G) cB)
 exact aL
theorem lP {c:Nat}{x:Rat}(hc:c≤800000000):Cn Tryz.prog 198 [Qs c x] ((QMA (c+3) ⟨1,x,0,1⟩).va):=by
 refine Cn.intro Tryz.func198 G zk nq (λ B w0 a U=>?_)
 have U:=zn [(0,Qs c x)] [] U
 refine qb<|zg [] [⟨1,28,ptrH,some 0,_,none⟩,⟨2,126,ptrH,some 1,_,none⟩] [.alc 0,.alc 1] [] U (zW 0 G (zY G (Str.zero cC) o0)) (zz [] [O 1 28 _,O 2 126 _] λ a w U=>?_)
 refine zt<|zgd [[],[],[0,1],[0,1,2],[0,1,2,3],[0,1,2,3,4],[0,1,2,3,4,5]] [none,some (6,_)] [] [.v 3 _,.v 4 _,.v 5 _,.v 6 _,.v 7 _,.v 8 _,.sto 1] [] ae U (zQ G fo .nil (zl 0 G ax (zQ G (B2 zo) (.o (vq 1 G)) (zQ G cE .nil (zQ G fo .nil (zQ G iT (.cons (vq 0 G) (.cons (vq 2 G) (.p (vq 3 G) (vq 4 G)))) (zS 5 G cB o0))))))) zk zk zk zk (zz [] [O 1 28 _,O 2 126 _] λ a w U=>?_)
 refine aa<|qg<|ao ?_ (aA G U (zm 1 G) cB)
 exact (qm4 zo zo zo zo).va
theorem nS {c:Nat}{x:Rat}(hc:c≤800000000):Cn Tryz.prog 199 [Qs c x] ((QMA (c+3) ⟨1,0,0-x,1⟩).va):=by
 refine Cn.intro Tryz.func199 G zk nq (λ B w0 a U=>?_)
 have U:=zn [(0,Qs c x)] [] U
 refine qb<|zg [] [⟨1,28,ptrH,some 0,_,none⟩,⟨2,126,ptrH,some 1,_,none⟩] [.alc 0,.alc 1] [] U (zW 0 G (zY G (Str.zero cC) o0)) (zz [] [O 1 28 _,O 2 126 _] λ a w U=>?_)
 refine zt<|zgd [[],[0],[],[0,1,2],[0,1,2,3],[0,1,2,3,4],[0,1,2,3,4,5]] [none,some (6,_)] [] [.v 3 _,.v 4 _,.v 5 _,.v 6 _,.v 7 _,.v 8 _,.sto 1] [] ae U (zQ G fo .nil (zQ G cE .nil (zl 0 G ax (zQ G (eA zo) (.o (vq 2 G)) (zQ G fo .nil (zQ G iT (.cons (vq 0 G) (.cons (vq 1 G) (.p (vq 3 G) (vq 4 G)))) (zS 5 G cB o0))))))) zk zk zk zk (zz [] [O 1 28 _,O 2 126 _] λ a w U=>?_)
 refine aa<|qg<|ao ?_ (aA G U (zm 1 G) cB)
 exact (qm4 zo zo zo zo).va
theorem pg {c:Nat}{m:MQ}(hc:c≤800000000):Cn Tryz.prog 202 [(QMA c m).va] ((QMA (c+3) ⟨0-m.a,0-m.b,0-m.c,0-m.d⟩).va):=by
 refine Cn.intro Tryz.func202 G zk nq (λ B w0 a U=>?_)
 have U:=zn [(0,(QMA c m).va)] [] U
 refine qb<|zg [] [⟨1,126,ptrH,some 0,_,none⟩,⟨2,126,ptrH,some 1,_,none⟩] [.alc 0,.alc 1] [] U (zW 0 G (zY G (Str.zero cC) o0)) (zz [] [O 1 126 _,O 2 126 _] λ a w U=>?_)
 refine zt<|zgd [[],[0],[0,1],[],[3],[0,1,2,3,4],[],[6],[0,1,2,3,4,5,6,7],[],[9],[0,1,2,3,4,5,6,7,8,9,10],[0,1,2,3,4,5,6,7,8,9,10,11],[0,1,2,3,4,5,6,7,8,9,10,11,12]] [none,some (13,_)] [] [.adr 3 1 (.some 0) True,.v 4 _,.v 5 _,.adr 6 1 (.some 4) True,.v 7 _,.v 8 _,.adr 9 1 (.some 8) True,.v 10 _,.v 11 _,.adr 12 1 (.some 12) True,.v 13 _,.v 14 _,.v 15 _,.sto 1] [] ae U (zO 0 G ol (zL 0 0 0 G ax (zQ G (eA zo) (.o (vq 1 G)) (zO 0 G oj (zL 3 0 1 G ax (zQ G (eA zo) (.o (vq 4 G)) (zO 0 G oi (zL 6 0 2 G ax (zQ G (eA zo) (.o (vq 7 G)) (zO 0 G oh (zL 9 0 3 G ax (zQ G (eA zo) (.o (vq 10 G)) (zQ G iT (.cons (vq 2 G) (.cons (vq 5 G) (.p (vq 8 G) (vq 11 G)))) (zS 12 G cB o0)))))))))))))) zk zk zk zk (zz [] [O 1 126 _,O 2 126 _] λ a w U=>?_)
 refine aa<|qg<|ao ?_ (aA G U (zm 1 G) cB)
 exact (qm4 zo zo zo zo).va
theorem Fk {x:RE}(h:elF x=true):Cn Tryz.prog 127 [(REA x).va] ((QMA 4099 (elM x)).va):=by
 obtain ⟨hx,hk⟩:=g9 h
 refine Cn.intro Tryz.func127 G zk nq (λ B w0 a U=>?_)
 have U:=zn [(0,(REA x).va)] [] U
 refine qb<|zg [] [⟨1,98,ptrH,some 0,_,none⟩,⟨2,126,ptrH,some 1,_,none⟩] [.alc 0,.alc 1] [] U (zW 0 G (zY G (Str.zero cC) o0)) (zz [] [O 1 98 _,O 2 126 _] λ a w U=>?_)
 have U:=St.wkL U 0 rfl (el_q hx)
 refine zt<|qb<|zg [η,η] [] [.adr 3 1 (.some 0) True,.v 4 _] [.o 1] U (zO 0 G dE (zL 0 0 0 G nD o0)) (zz [(4,_)] [O 1 98 _,O 2 126 _] λ a w U=>?_)
 refine aa<|qj<|qb<|zg [η,η] [] [.v 6 _,.v 5 _] [.g 0,.o 1] U (zv G (bC (gq 0 G) ab) (zA 0 G o0)) (zz [(4,_),(5,_)] [O 1 98 _,O 2 126 _] λ a w U=>?_)
 refine aa<|aj U (zm 1 G) (λ hb0=>?_) (λ hb0=>?_)
 ·have hk1:x.k=1:=by simpa using hb0
  refine qb<|zg [η,some (3,_)] [] [.adr 7 1 (.some 1) True,.v 8 _,.v 9 _,.sto 1] [] U (zO 0 G bR (zL 0 0 1 G ax (zQ G (lP zo) (.o (vq 1 G)) (zS 2 G cB o0)))) (zz [] [O 1 98 _,O 2 126 _] λ a w U=>?_)
  refine aa<|qg<|aE ?_
  refine al ?_
  refine ao ?_ (aA G U (zm 1 G) cB)
  rw [elM_1 hk1]; exact (vJ zd).va
 ·have hk1:¬ x.k=1:=by simpa using hb0
  refine qb<|zg [η,η] [] [.v 11 _,.v 10 _] [.g 0,.o 1] U (zv G (bC (gq 0 G) ab) (zA 0 G o0)) (zz [(4,_),(10,_)] [O 1 98 _,O 2 126 _] λ a w U=>?_)
  refine aa<|aj U (zm 1 G) (λ hb1=>?_) (λ hb1=>?_)
  ·have hk2:x.k=2:=by simpa using hb1
   refine qb<|zg [η,some (3,_)] [] [.adr 12 1 (.some 1) True,.v 13 _,.v 14 _,.sto 1] [] U (zO 0 G bR (zL 0 0 1 G ax (zQ G (nS zo) (.o (vq 1 G)) (zS 2 G cB o0)))) (zz [] [O 1 98 _,O 2 126 _] λ a w U=>?_)
   refine aa<|qg<|aE ?_
   refine al ?_
   refine ao ?_ (aA G U (zm 1 G) cB)
   rw [elM_2 hk2]; exact (vJ zd).va
  ·have hk2:¬ x.k=2:=by simpa using hb1
   refine qb<|zg [η,η] [] [.v 16 _,.v 15 _] [.g 0,.o 1] U (zv G (bC (gq 0 G) ab) (zA 0 G o0)) (zz [(4,_),(15,_)] [O 1 98 _,O 2 126 _] λ a w U=>?_)
   refine aa<|aj U (zm 1 G) (λ hb2=>?_) (λ hb2=>?_)
   ·have hk3:x.k=3:=by simpa using hb2
    refine qb<|zg [η,some (6,_)] [] [.adr 17 1 (.some 1) True,.v 18 _,.adr 19 1 (.some 5) True,.v 20 _,.v 21 _,.v 22 _,.sto 1] [] U (zO 0 G bR (zL 0 0 1 G ax (zO 0 G c9 (zL 2 0 2 G ax (zQ G (AZ zo (q3_nz hk hk3)) (.p (vq 1 G) (vq 3 G)) (zQ G (lP zo) (.o (vq 4 G)) (zS 5 G cB o0))))))) (zz [] [O 1 98 _,O 2 126 _] λ a w U=>?_)
    refine aa<|qg<|aE ?_
    refine al ?_
    refine ao ?_ (aA G U (zm 1 G) cB)
    rw [elM_3 hk3]; exact (vJ zd).va
   ·have hk3:¬ x.k=3:=by simpa using hb2
    refine qb<|zg [η,η] [] [.v 24 _,.v 23 _] [.o 1] U (zv G (bC (gq 0 G) ab) (zA 0 G o0)) (zz [(23,_)] [O 1 98 _,O 2 126 _] λ a w U=>?_)
    refine aa<|aj U (zm 0 G) (λ hb3=>?_) (λ hb3=>?_)
    ·have hk4:x.k=4:=by simpa using hb3
     refine qb<|zg [η,some (6,_)] [] [.adr 25 1 (.some 1) True,.v 26 _,.adr 27 1 (.some 5) True,.v 28 _,.v 29 _,.v 30 _,.sto 1] [] U (zO 0 G bR (zL 0 0 1 G ax (zO 0 G c9 (zL 2 0 2 G ax (zQ G (iR zo) (.p (vq 1 G) (vq 3 G)) (zQ G (nS zo) (.o (vq 4 G)) (zS 5 G cB o0))))))) (zz [] [O 1 98 _,O 2 126 _] λ a w U=>?_)
     refine aa<|qg<|aE ?_
     refine al ?_
     refine ao ?_ (aA G U (zm 1 G) cB)
     rw [elM_4 hk4]; exact (vJ zd).va
    ·have hk4:¬ x.k=4:=by simpa using hb3
     refine qh<|ap ?_
     refine zt<|zg [η,some (2,_)] [] [.v 31 _,.v 32 _,.sto 1] [] U (zQ G Fi .nil (zQ G (pg (m:=⟨1,0,0,1⟩) zo) (.o (vq 0 G)) (zS 1 G cB o0))) (zz [] [O 1 98 _,O 2 126 _] λ a w U=>?_)
     refine aa<|qg<|ao ?_ (aA G U (zm 1 G) cB)
     rw [elM_5 hk1 hk2 hk3 hk4]; exact (vJ zd).va
section
open Rg
variable {P:Program} {Q:Exit→Act→World→Prop} {B N:Nat} {w0:Bs} {Γ:List (Nat × VA)} {Λ:List Lc} {a:Act} {w:World} {ops:Array Oper} {i:Nat} {K:Act→World→Prop}
end
theorem DX {α:Type}{A':α→As}{w:World}{B:Nat}{f:Nat}{A:As}:∀ {L:List As} {f:Nat} {cs:List Value},L[f]?=some A→(∀ c,A.p B c w→∃ x,(A' x).p B c w)→(cat L).p B cs w→∃ x,(cat (L.set f (A' x))).p B cs w
 | [],f,cs,hf,_,_=>by simp at hf
 | A0::L,0,cs,hf,hi,h=>by
  obtain ⟨ps,rfl,h⟩:=h
  cases h with
  | cons h1 h2 =>
   simp at hf
   subst hf
   obtain ⟨x,hx⟩:=hi _ h1
   exact ⟨x,_,rfl,.cons hx h2⟩
 | A0::L,f+1,cs,hf,hi,h=>by
  obtain ⟨ps,rfl,h⟩:=h
  cases h with
  | @cons _ c0 _ bs h1 h2 =>
   obtain ⟨x,qs,e,hq⟩:=DX (L:=L) (f:=f) (cs:=bs.flatten) (by simpa using hf) hi ⟨bs,rfl,h2⟩
   exact ⟨x,c0::qs,by simp [e],.cons h1 hq⟩
theorem sE {w w':World}{B:Nat}{A A1:As}:∀ {L:List As} {f:Nat} {cs:List Value},L[f]?=some A→(∀ c,A.p B c w→A1.p B c w')→(∀ X∈L.eraseIdx f,∀ c,X.p B c w→X.p B c w')→(cat L).p B cs w→(cat (L.set f A1)).p B cs w'
 | [],f,cs,hf,_,_,_=>by simp at hf
 | A0::L,0,cs,hf,hi,ho,h=>by
  obtain ⟨ps,rfl,h⟩:=h
  cases h with
  | @cons _ c0 _ bs h1 h2 =>
   simp at hf
   subst hf
   refine ⟨c0::bs,rfl,.cons (hi _ h1) ?_⟩
   clear h1 hi
   induction h2 with
   | nil=>exact .nil
   | cons h _ ih=>exact .cons (ho _ (by simp) _ h) (ih λ X hX=>ho X (by simp at hX ⊢; exact .inr hX))
 | A0::L,f+1,cs,hf,hi,ho,h=>by
  obtain ⟨ps,rfl,h⟩:=h
  cases h with
  | @cons _ c0 _ bs h1 h2 =>
   obtain ⟨qs,e,hq⟩:=sE (L:=L) (f:=f) (cs:=bs.flatten) (by simpa using hf) hi (λ X hX=>ho X (by simp; exact .inr hX)) ⟨bs,rfl,h2⟩
   exact ⟨c0::qs,by simp [e],.cons (ho A0 (by simp) _ h1) hq⟩
theorem yQ {A:As}{L:List As}{f:Nat}(hf:L[f]?=some A)(h:(cat L).p B cs w):∃ c,A.p B c w:=by
 obtain ⟨ps,rfl,h⟩:=h
 induction h generalizing f with
 | nil=>simp at hf
 | @cons A0 c0 L bs h1 h2 ih =>
  cases f with
  | zero=>simp at hf; subst hf; exact ⟨_,h1⟩
  | succ f=>exact ih (by simpa using hf)
theorem Fn {A A1:As}{k:Nat}{A':As}{x:Value}(h:Put A k A' A1)(hp:A.p B cs w)(hx:A'.p B [x] w):k<cs.length∧A1.p B (cs.set k x) w:=by
 obtain ⟨h1,h2⟩:=h B cs [x] w hp hx
 have l1:=A'.len _ _ _ hx
 have hk:k<cs.length:=by simp at l1; omega
 refine ⟨hk,?_⟩
 rw [xv,qz hk]
 simpa [splice] using h2
def OwYG (b:Nat)(E:TypeId)(m:Nat)(D:List TypeId)(l:List As)(v:Value)(ds:List Value):As where
 n:=1
 ag:=false
 p B cs w:=cs=[v]∧v.oneCell'=true∧(∀ A∈l,A.n=m)∧(∀ A∈l,∀ T∈A.deps,T∈D)∧(cat l).p B ds w∧w.ownsRow b E m v l.length ds
 deps:=E::D
 len:=by rintro B cs w ⟨rfl,_⟩; rfl
 one:=by
  rintro B cs w ⟨rfl,h,_⟩ c hc
  obtain rfl:=qn.1 hc
  exact h
 ag1:=λ _=>rfl
 cg:=by
  rintro B cs w w' hg ⟨rfl,h0,h1,h2,h3,h4,h5⟩
  refine ⟨rfl,h0,h1,h2,(cat l).cg _ _ _ _ hg h3,h4,?_⟩
  rcases h5 with h5 | ⟨g,cap,cur,e1,e2,e3,e4⟩
  ·exact .inl h5
  ·exact .inr ⟨g,cap,cur,e1,e2,hg.heap e3,e4⟩
 wr:=by
  rintro B cs w w' g c T fz hgc hT hB hW ⟨rfl,h0,h1,h2,h3,h4,h5⟩
  simp only [qt,not_or] at hT
  refine ⟨rfl,h0,h1,h2,(cat l).wr _ _ _ _ _ _ _ _ hgc (lk h2 hT.2) hB hW h3,h4,?_⟩
  rcases h5 with h5 | ⟨g0,cap,cur,e1,e2,e3,e4⟩
  ·exact .inl h5
  ·refine .inr ⟨g0,cap,cur,e1,e2,?_,e4⟩
   have hne:g0≠g:=by
    rintro rfl
    rw [hgc] at e3
    injection e3 with e3
    injection e3 with _ e3 _
    exact hT.1 e3
   rw [hW.block g0 hne]
   exact e3
def OwXG (b:Nat)(E:TypeId)(m:Nat)(D:List TypeId)(l:List As)(v u:Value):As where
 n:=1
 ag:=false
 p B cs w:=cs=[v]∧v.oneCell'=true∧(OwnR b E m D l).p B u w
 deps:=E::D
 len:=by rintro B cs w ⟨rfl,_⟩; rfl
 one:=by
  rintro B cs w ⟨rfl,h,_⟩ c hc
  obtain rfl:=qn.1 hc
  exact h
 ag1:=λ _=>rfl
 cg:=λ B cs w w' hg ⟨h1,h2,h3⟩=>⟨h1,h2,(OwnR b E m D l).cg _ _ _ _ hg h3⟩
 wr:=λ B cs w w' g c T fz q1 q2 q3 q4 ⟨h1,h2,h3⟩=>⟨h1,h2,(OwnR b E m D l).wr _ _ _ _ _ _ _ _ q1 q2 q3 q4 h3⟩
theorem mv {B E m n:Nat}{xs:List Value}(h:w.ownsRow B E m v n xs):v.oneCell'=true∧v.cells = #[v]:=by
 rcases h.2 with ⟨rfl,_⟩ | ⟨g,cap,cur,rfl,_⟩ <;> exact ⟨rfl,rfl⟩
def OwG (b:Nat)(E:TypeId)(m:Nat)(D:List TypeId)(l:List As):As where
 n:=1
 ag:=false
 p B cs w:=∃ v,cs=[v]∧(OwnR b E m D l).p B v w
 deps:=E::D
 len:=by rintro B cs w ⟨v,rfl,_⟩; rfl
 one:=by
  rintro B cs w ⟨v,rfl,_,_,ds,_,h⟩ c hc
  obtain rfl:=qn.1 hc
  exact (mv h).1
 ag1:=λ _=>rfl
 cg:=λ B cs w w' hg ⟨v,h1,h3⟩=>⟨v,h1,(OwnR b E m D l).cg _ _ _ _ hg h3⟩
 wr:=λ B cs w w' g c T fz q1 q2 q3 q4 ⟨v,h1,h3⟩=>⟨v,h1,(OwnR b E m D l).wr _ _ _ _ _ _ _ _ q1 q2 q3 q4 h3⟩
theorem owG_y {b:Nat}{E:TypeId}{m:Nat}{l:List As}{c:List Value}(h:(OwG b E m D l).p B c w):∃ x:Value × List Value,(OwYG b E m D l x.1 x.2).p B c w:=by
 obtain ⟨v,rfl,h1,h2,ds,h3,h4⟩:=h
 exact ⟨(v,ds),rfl,(mv h4).1,h1,h2,h3,h4⟩
theorem Ft {b:Nat}{E:TypeId}{m:Nat}{l:List As}{ds:List Value}:Wk (OwYG b E m D l v ds).va (EqV v):=λ B u w ⟨cs,⟨h1,_⟩,h2⟩=>by subst h1; exact h2
section
variable {B N:Nat} {w0:Bs} {Γ:List (Nat × VA)} {Λ:List Lc} {a:Act} {w:World}
theorem St.exL {α:Type}(h:St B w0 N Γ Λ a w){s:Nat}{A:As}(A':α→As)(k:Nat)(hm:Λ[k]?=some ⟨s,T,H,A⟩)(hi:∀ cs,A.p B cs w→∃ x,(A' x).p B cs w):∃ x,St B w0 N Γ (Λ.set k ⟨s,T,H,A' x⟩) a w:=by
 obtain ⟨hk,he⟩:=List.getElem?_eq_some_iff.1 hm
 have hin:(⟨s,T,H,A⟩:Lc)∈Λ:=qa hm
 obtain ⟨g,cs,h1,h2,h3,h4⟩:=h.locs _ hin
 obtain ⟨x,hx⟩:=hi cs h4
 have hset:∀ l∈Λ.set k ⟨s,T,H,A' x⟩,l=⟨s,T,H,A' x⟩∨l∈Λ:=λ l hl=>(qy hl).symm
 have hd:∀ l∈Λ.set k ⟨s,T,H,A' x⟩,∃ l'∈Λ,l'.s=l.s:=λ l hl=>by
  rcases hset l hl with rfl | hl
  ·exact ⟨_,hin,rfl⟩
  ·exact ⟨l,hl,rfl⟩
 refine ⟨x,h.lo,h.defers,h.size,h.base,h.vals,λ l hl=>?_,λ l hl m hm' hne=>?_⟩
 ·rcases hset l hl with rfl | hl
  ·exact ⟨g,cs,h1,h2,h3,hx⟩
  ·exact h.locs l hl
 ·obtain ⟨l',hl',e1⟩:=hd l hl
  obtain ⟨m',hm'',e2⟩:=hd m hm'
  have:=h.dis l' hl' m' hm'' (by rw [e1,e2]; exact hne)
  rw [e1,e2] at this
  exact this
theorem St.wkB (h:St B w0 N Γ Λ a w){s:Nat}{A A':As}(k:Nat)(hm:Λ[k]?=some ⟨s,T,H,A⟩)(hi:∀ cs,A.p B cs w→A'.p B cs w):St B w0 N Γ (Λ.set k ⟨s,T,H,A'⟩) a w:=by
 obtain ⟨_,h⟩:=St.exL h (λ _:Unit=>A') k hm λ cs hp=>⟨(),hi cs hp⟩
 exact h
theorem St.nameFG {b:Nat}(h:St B w0 N Γ Λ a w){s:Nat}{L:List As}{E:TypeId}{m:Nat}{l:List As}(k f:Nat)(hm:Λ[k]?=some ⟨s,T,H,cat L⟩)(hf:L[f]?=some (OwG b E m D l)):
  ∃ x:Value × List Value,St B w0 N Γ (Λ.set k ⟨s,T,H,cat (L.set f (OwYG b E m D l x.1 x.2))⟩) a w :=
 St.exL h (λ x:Value × List Value=>cat (L.set f (OwYG b E m D l x.1 x.2))) k hm λ cs hp=>DX (A':=λ x:Value × List Value=>OwYG b E m D l x.1 x.2) (f:=0) hf (λ c hc=>owG_y hc) hp
theorem St.knowFG {b:Nat}(h:St B w0 N Γ Λ a w){s:Nat}{L:List As}{E:TypeId}{m:Nat}{l:List As}{ds:List Value}(k f:Nat)(hm:Λ[k]?=some ⟨s,T,H,cat L⟩)(hf:L[f]?=some (OwYG b E m D l v ds)):
  w.ownsRow b E m v l.length ds:=by
 obtain ⟨g,cs,_,_,_,hp⟩:=h.locs _ (qa hm)
 obtain ⟨c,hc⟩:=yQ hf hp
 exact hc.2.2.2.2.2
end
section
open Rg
variable {P:Program} {Q:Exit→Act→World→Prop} {B N:Nat} {w0:Bs} {Γ:List (Nat × VA)} {Λ:List Lc} {a:Act} {w:World} {ops:Array Oper} {i:Nat} {K:Act→World→Prop}
theorem Be {b:Nat}(hbB:B≤b)(hb0:b≤w0.w.heap.size){d s u sx f:Nat}{S E T1 T:TypeId}{L:List As}{X:As}{ds:List Value}{m bytes:Nat}{D D':List TypeId}{l:List As}{it:TypeInfo}{z:Value}(src:List Nat)(ks ku e:Nat)
  (ho:ops[i]?=some ⟨some d,.call ⟨.builtin .append,#[.tmp s,.tmp u],#[S,S]⟩,T1,ps,af,none⟩) (h:St B w0 N Γ Λ a w)
  (hs:Γ[ks]?=some (s,EqV v)) (hu:Γ[ku]?=some (u,(SlA E D' [X]).va)) (hXn:X.n=m) (hXd:∀ T∈X.deps,T∈D) (hl:Λ[e]?=some ⟨sx,T,H,cat L⟩) (hf:L[f]?=some (OwYG b E m D l v ds)) (hL:(L.eraseIdx f).all (λ X => !X.deps.contains E)=true) (hE:E ∉ D) (hTE:(T != E)=true) (hrm:RowMay w0 b E)
  (hS:P.underlying S=some (.slice E)) (hi:P.info? E=some it) (hz:it.zero=some z) (hsz1:it.size=m) (hby:it.bytes=bytes) (hzs:z.cells.size=m) (hm0:0<m) (hn:(l.length+1)*bytes≤140737488355328) (hn2:l.length≤1000000000000000)
  (hd:d<N) (hΓ:Γ.all (λ x=>x.1 != d)=true) (hΛd:Λ.all (λ l=>l.s != d)=true)
  (hsrc:src.all (λ k=>match Γ[k]? with | some y => !y.2.deps.contains E | none=>false)=true) (hΛ:Λ.zipIdx.all (λ x=>x.2==e || (x.1.T != E && !x.1.A.deps.contains E))=true)
  (hK:∀ v' w',v'.oneCell'=true→v'.cells = #[v']→St B w0 N ((d,EqV v')::src.filterMap λ k=>Γ[k]?) (Λ.set e ⟨sx,T,H,cat (L.set f (OwXG b E m D (l++[X]) v v'))⟩) (a.put (some d) v') w'→K (a.put (some d) v') w'):wpOp P ops Q i K a w:=by
 have hown:=h.knowFG e f hl hf
 refine rK hbB hb0 (n:=l.length) (A1:=λ v'=>cat (L.set f (OwXG b E m D (l++[X]) v v'))) (F:=λ ds'=>X.p B ds' w) src ks ku e ho h hs hu (λ _ h=>h) hXn hl hTE hrm hS hi hz hsz1 hby hzs hm0 hn hn2 hd hΓ hΛd hsrc hΛ (xs:=ds) (λ cs hp=>⟨hown,λ v' w' ds' hF hown' hg hcase=>sE hf (λ c hc=>?_) (λ Y hY c hc=>?_) hp⟩) (λ v' w' U=>?_)
 ·have hro:RowOk w b E v.ownBlock:=mu hown
  obtain ⟨rfl,hv1,q1,q2,q3,q4⟩:=hc
  refine ⟨rfl,hv1,λ A hA=>?_,λ A hA=>?_,ds++ds',yR (As.grown q3 hg hro hbB (lk q2 hE)) (by have:=As.grown hF hg hro hbB (λ hh=>hE (hXd _ hh)); exact ⟨[ds'],by simp,.cons this .nil⟩),by simpa using hown'⟩
  ·rcases qo.1 hA with hA | hA
   ·exact q1 A hA
   ·rw [qn.1 hA]; exact hXn
  ·rcases qo.1 hA with hA | hA
   ·exact q2 A hA
   ·rw [qn.1 hA]; exact hXd
 ·have:=qd.1 hL Y hY
  exact As.grown hc hg (mu hown) hbB (by simpa using this)
 ·have hLc:=List.getElem?_eq_some_iff.1 hl
  obtain ⟨g,cs,_,_,_,hp⟩:=U.locs ⟨sx,T,H,cat (L.set f (OwXG b E m D (l++[X]) v v'))⟩ (qa (i:=e) (by rw [List.getElem?_set_self hLc.1]))
  have hfl:=(List.getElem?_eq_some_iff.1 hf).1
  obtain ⟨c,hc⟩:=yQ (f:=f) (A:=OwXG b E m D (l++[X]) v v') (by rw [List.getElem?_set_self hfl]) hp
  obtain ⟨_,_,_,_,_,_,hcc⟩:=hc
  exact hK v' w' (mv hcc).1 (mv hcc).2 U
end
theorem BU {b:Nat}{L:List As}{f:Nat}{E:TypeId}{m:Nat}{l:List As}{v u:Value}{k B:Nat}(hf:L[f]?=some (OwXG b E m D l v u))(hk:offs L f=k)(hp:(cat L).p B cs w):k<cs.length∧(cat (L.set f (OwG b E m D l))).p B (cs.set k u) w:=by
 obtain ⟨c,hc⟩:=yQ hf hp
 exact Fn (A':=OwG b E m D l) (Put.part f hf G hk) hp ⟨u,rfl,hc.2.2⟩
theorem St.bt26 {B N:Nat}(h:St B w0 N Γ Λ a w):B≤w0.w.heap.size:=h.lo _ (.inl (qi _))
theorem A7 {ops:Array Oper}{Q:Exit→Act→World→Prop}(h:Q .normal a w):wpOps P ops Q [] (a.put none undef) w:=h
theorem Fs {b B:Nat}(hb:B≤b){E:TypeId}{m:Nat}{l:List As}(h:(OwnR b E m D l).p B v w):(OwnR B E m D l).p B v w:=by
 obtain ⟨h1,h2,ds,h3,h4,h5⟩:=h
 refine ⟨h1,h2,ds,h3,h4,?_⟩
 rcases h5 with h5 | ⟨g,cap,cur,e1,e2,e3⟩
 ·exact .inl h5
 ·exact .inr ⟨g,cap,cur,e1,qe hb e2,e3⟩
theorem owG_P {b B:Nat}(hb:B≤b){u:List Nat}{c:List Value}(h:(OwG b 3 1 [] (u.map λ (k:Nat)=>InA k)).p B c w):(SlP (λ g=>b≤g) 3 [] ((u.map λ (k:Nat)=>(k:Int)).map InA)).p B c w:=by
 obtain ⟨v,rfl,h0⟩:=h
 obtain ⟨cs',h1,h2⟩:=lR B v w (Fs hb h0)
 have l2:=(SlA 3 [] (u.map λ (k:Nat)=>InA k)).len _ _ _ h1
 refine ⟨?_,λ x hx g hg=>?_⟩
 ·rw [z6]
  match cs',l2 with
  | [c],_ =>
   have e:v=c:=h2
   subst e
   exact h1
 ·obtain rfl:=qn.1 hx
  obtain ⟨_,_,ds,_,h5⟩:=h0
  rcases h5.2 with ⟨rfl,_⟩ | ⟨g',cap,cur,rfl,h6,_⟩
  ·cases hg
  ·have e:g'=g:=by injection hg
   subst e
   exact h6
theorem ml:Str Tryz.prog 81 [EqA (.slice none 0 0),RFA rf0,NumA .i64 0,RFA rf0] :=
 Str.of (z:=.agg #[.slice none 0 0,.bool false,.slice none 0 0,.bool false,.slice none 0 0,.int .i64 0,.bool false,.slice none 0 0,.bool false,.slice none 0 0]) zk Tryz.underlying81 zk λ B w=>⟨[[.slice none 0 0],[.bool false,.slice none 0 0,.bool false,.slice none 0 0],[.int .i64 0],[.bool false,.slice none 0 0,.bool false,.slice none 0 0]],rfl,.cons ⟨rfl,rfl⟩ (.cons (dX B w) (.cons rfl (.cons (dX B w) .nil)))⟩
theorem Gf:∃ i,Tryz.prog.info? 3=some i∧i.zero=some (.int .i64 0)∧i.size=1∧i.bytes=8:=rV
def coQ (m:MQ):YQ:=⟨m.a,m.c⟩
theorem co_nx {b:List RE}{j k:Nat}(hj:j<b.length)(ha:b.all elF=true)(hl:b.length≤25):WkA (QRA k (goQ (elM b[j]) (coQ (prodQ (b.take j))))) (QRA 102426 (coQ (prodQ (b.take (j+1))))):=by
 rw [show goQ (elM b[j]) (coQ (prodQ (b.take j)))=coQ (prodQ (b.take (j+1))) from by rw [vM hj]; rfl]
 have h:=uN (fL (mt ha (j+1) zo) (by omega:1+4097*(j+1)≤102426))
 exact bo (.cons (B5 h.1) (.cons (B5 h.2.2.1) .nil))
theorem HW {t:RTk}(h:ckF t=0){i:Nat}(hi:i<t.sp.length):elF (spE t.sp[i])=true:=by
 have h3:=ck_el h hi
 have h2:=qd.1 (fv h).2.1 _ (qf hi)
 unfold spcF at h2
 simp only [qv,qI,qk] at h2
 unfold elF spE
 rw [ql]
 refine ⟨?_,?_⟩
 ·simp only [xS,x8,xT,ql]
  exact ⟨h3,by kernel_rfl⟩
 ·show elK 1 _ _=true
  rw [kd1 (by rfl)]
  rw [ql]
  refine ⟨qC (show (toQ t.sp[i]).num.sign≥0 from by have:=h2.2; omega),by kernel_rfl⟩
theorem CC {t:RTk}(h:ckF t=0){l:List Nat}(hl:l.length+1=t.sp.length)(hp:∀ x∈l,x<t.ps.length):(benW t l).all elF=true:=by
 rw [qd]
 intro y hy
 have key:∀ i,i<t.sp.length→elF (spE (t.sp.getD i rf0))=true:=λ i hi=>by
  rw [show t.sp.getD i rf0=t.sp[i] from by simp [List.getD,hi]]
  exact HW h hi
 unfold benW at hy
 rcases qo.1 hy with hy | hy
 ·unfold benP at hy
  obtain ⟨i,hi,hy⟩:=kc.1 hy
  have hi':i<l.length:=jS.1 hi
  simp only [qt,z5,or_false] at hy
  rcases hy with rfl | rfl
  ·exact key i zo
  ·refine dn_p h ?_
   rw [show l.getD i 0=l[i] from by simp [List.getD,hi']]
   exact hp _ (qf hi')
 ·obtain rfl:=qn.1 hy
  exact key _ zo
theorem cos_nx {t:RTk}(hc:ckF t=0){u:List Nat}{j:Nat}(hj:j<u.length)(hl:u.length≤12)(hp:∀ x∈u,x<t.ps.length)(hk:u[j]<t.ps.length):IntKind.i64.wrap (cosW t (u.take j)+t.ps[u[j]].c)=cosW t (u.take (j+1)):=by
 have e:cosW t (u.take (j+1))=cosW t (u.take j)+t.ps[u[j]].c:=by
  rw [qu hj,sv,show t.ps.getD u[j] ⟨⟨#[]⟩,⟨0,rf0,rf0⟩,0⟩=t.ps[u[j]] from by simp [List.getD,hk]]
 obtain ⟨h1,h2⟩:=sw hc (l:=u.take (j+1)) λ x hx=>hp x (xj hx)
 have h3:(u.take (j+1)).length≤12:=by rw [qY]; omega
 rw [← e]
 exact wi64 zo zo
abbrev WrI (q:Nat→Prop)(t:RTk)(u:List Nat):As:=cat [SlP q 3 [] ((u.map λ (k:Nat)=>(k:Int)).map InA),QA 110000 (powW t u),InA (cosW t u),QA 110000 (awaW t u)]
abbrev WrQ (x:WyQ):As:=cat [SlA 3 [] (x.l.map InA),QA 110000 x.pw,InA x.c,QA 110000 x.aw]
theorem wrI_q {q:Nat→Prop}{t:RTk}{u:List Nat}:WkA (WrI q t u) (WrQ (wayW t u)):=bo (.cons I0 (.cons (.refl _) (.cons (.refl _) (.cons (.refl _) .nil))))
theorem awa_y {t:RTk}{u:List Nat}(h:decide ((powW t u-toQ t.tg).num.sign<0)=true) : -(powW t u-toQ t.tg)=awaW t u:=by unfold awaW; rw [qz (qp h)]
theorem awa_n {t:RTk}{u:List Nat}(h:decide ((powW t u-toQ t.tg).num.sign<0)=false):powW t u-toQ t.tg=awaW t u:=by unfold awaW; rw [qw (qr h)]
set_option maxHeartbeats 2000000 in
theorem t8 {t:RTk}{u:List Nat}(hc:ckF t=0)(hl:u.length+1=t.sp.length)(hp:∀ x∈u,x<t.ps.length):Cn Tryz.prog 125 [(TkA t).va,(SlA 3 [] (u.map λ (k:Nat)=>InA (k:Int))).va] ((SlA 98 [U32] ((benW t u).map REA)).va):=by
 obtain ⟨it,z,e1,e2,e3,e4,e5⟩:=CF
 obtain ⟨hs2,hs13,hp1,hp64,htg⟩:=hd_b (fv hc).1
 have h00:0<t.sp.length:=by omega
 have hu12:u.length≤12:=by omega
 refine Cn.intro Tryz.func125 G zk nq (λ B w0 a U=>?_)
 have U:=zn [(0,(TkA t).va),(1,(SlA 3 [] (u.map λ (k:Nat)=>InA (k:Int))).va)] [] U
 refine qb<|zg [] [⟨2,30,ptrH,some 0,_,none⟩] [.alc 0,.v 4 _] [.g 1,.o 1] U (zW 0 G (zv G (ac bc) o0)) (zz [(1,_),(4,_)] [O 2 30 _] λ a w U=>?_)
 refine zt<|zg [η] [] [.adr 7 2 (.some 0) True,.v 8 _,.v 9 _,.v 10 _,.v 11 _,.v 12 _,.v 5 _] [.g 0,.g 1,.o 6] U (zO 0 G bU (zL 0 0 0 G ew (zv G (bH cO (bW λ _=>rfl) (vq 1 G) (aG 0 G) (bz h00)) (zv G (au (vq 2 G) ax) (zQ G (lO _) (.o (vq 3 G)) (zv G (AX (l:=[_]) (xs:=[.tmp 11]) nK zk (n_ok zk) nq nq nq (.o (vq 4 G)) G G) (zA 5 G o0))))))) (zz [(1,_),(4,_),(5,_)] [O 2 30 _] λ a w U=>?_)
 have U:=St.wkG U 2 rfl (Bk (m:=9) (D:=[U32]) (λ A hA=>by obtain rfl:=qn.1 hA; rfl) (cT zk) nq)
 have U:=zn [(1,_),(4,_),(5,_)] [O 2 30 _] U
 refine zt<|qb<|zg [η] [] [.v 6 _] [.g 0,.g 1,.g 2,.o 0] U (zv G (ac ab) o0) (zz [(1,_),(4,_),(5,_),(6,_)] [O 2 30 _] λ a w U=>?_)
 refine aa<|qj ?_
 have U:=St.sel U [0,3,2]
 refine wp_loop_ghost (λ n a w=>∃ j:Nat,n+j=u.length∧St B w0 39 [(1,(SlA 3 [] (u.map λ (k:Nat)=>InA (k:Int))).va),(6,In (j:Nat)),(5,OwnR w0.w.heap.size 98 9 [U32] ((benW t (u.take j)).map REA))] [⟨2,30,ptrH,TkA t⟩] a w) (u.length) ?_ ?_
 ·exact ⟨0,by omega,by rw [show u.take 0=[] from rfl,ben_0,show t.sp.getD 0 rf0=t.sp[0] from by simp [List.getD,h00]]; exact U⟩
 intro n a w hI
 obtain ⟨j,hn,U⟩:=hI
 refine qb<|qb<|zg [η] [] [.v 13 _,.v 14 _,.v 15 _,.v 16 _] [.g 0,.g 1,.g 2,.o 3] U (zM 1 G (zM 0 G (zv G (bg Tryz.underlying31 (vq 1 G)) (zv G (aS (vq 0 G) (vq 2 G)) o0)))) (zz [(1,_),(6,_),(5,_),(16,_)] [O 2 30 _] λ a w U=>?_)
 refine aa<|aj U (zm 3 G) (λ hb0=>?_) (λ hb0=>?_)
 ·have hj:j<u.length:=by rw [qc] at hb0; have:=qp hb0; omega
  have hkp:u[j]<t.ps.length:=hp _ (qf hj)
  have hpj:t.ps.getD u[j] ⟨⟨#[]⟩,⟨0,rf0,rf0⟩,0⟩=t.ps[u[j]]:=by simp [List.getD,hkp]
  have hsl:j+1<t.sp.length:=by omega
  have hsj:t.sp.getD (j+1) rf0=t.sp[j+1]:=by simp [List.getD,hsl]
  refine qh<|zt<|qj<|Gt (sp:=[.v 19 _,.adr 20 2 (.some 1) True,.v 21 _,.v 22 _,.v 23 _,.v 24 _,.v 25 _,.v 26 _,.v 27 _,.v 28 _,.adr 29 2 (.some 0) True,.v 30 _,.v 31 _,.v 32 _,.v 33 _,.v 34 _,.v 35 _,.v 36 _,.v 37 VT,.v 5 VT]) [[],[],[1],[],[],[3,4],[3,4,5],[1,2,3,4,5,6],[1,2,3,4,5,6,7],[1,2,3,4,5,6,7,8],[],[10],[],[12],[10,11,12,13],[10,11,12,13,14],[10,11,12,13,14,15],[1,2,3,4,5,6,7,8,9,10,11,12,13,14,15,16],[0,1,2,3,4,5,6,7,8,9,10,11,12,13,14,15,16,17],[0,1,2,3,4,5,6,7,8,9,10,11,12,13,14,15,16,17,18]] 18 [0,1] 0 17 ae U (zM 2 rfl (zO 0 rfl bD (zL 1 0 1 rfl dn (zM 0 rfl (zM 1 rfl (zv rfl (bH cP (bW λ _=>rfl) (vq 3 rfl) (vq 4 rfl) (bz hj)) (zv rfl (au (vq 5 rfl) ty_3) (zv rfl (bH ey (bW λ _=>rfl) (vq 2 rfl) (vq 6 rfl) (bz hkp)) (zv rfl (bL (vq 7 rfl) da (Sub.part 1 rfl rfl)) (zv rfl (au (vq 8 rfl) fh) (zO 0 rfl bU (zL 10 0 0 rfl ew (zM 1 rfl (zv rfl (aN (vq 12 rfl) ab ((wi64 zo zo).trans (by omega:(_:Int)=((j+1:Nat):Int)))) (zv rfl (bH cO (bW λ _=>rfl) (vq 11 rfl) (vq 13 rfl) (bz hsl)) (zv rfl (au (vq 14 rfl) ax) (zQ rfl (lO _) (.o (vq 15 rfl)) (zv rfl (bJ (D:=[U32]) (l:=[_,_]) (xs:=[.tmp 28,.tmp 35]) (cT zk) nK zk (n_ok zk) nq nq nq (.p (vq 9 rfl) (vq 16 rfl)) rfl rfl) o0)))))))))))))))))) rfl zk zk zk zk rfl rfl zd rfl zd rfl (λ _ _ h _=>h) Tryz.underlying109 e1 e2 e3 e4 e5 zd (by simp only [qc,sG,qY,zy,xy]; omega) zd (λ T hT=>hT) zd (λ A hA=>by simp only [qt,z5,or_false] at hA; rcases hA with rfl | rfl <;> rfl) zk nq nq zk zk (zz [(5,_),(1,_),(6,_)] [O 2 30 _] λ a w U=>?_)
  refine ap ?_
  refine aa<|zg [η] [] [.v 17 _,.v 18 _,.v 6 _] [.g 0,.g 1,.o 2] U (zM 2 G (zv G (aN (vq 0 G) ab ((wi64 zo zo).trans (by omega:(_:Int)=((j+1:Nat):Int)))) (zA 1 G o0))) (zz [(5,_),(1,_),(6,_)] [O 2 30 _] λ a w U=>?_)
  refine aa ?_
  have U:=St.sel U [1,2,0]
  exact ⟨n-1,by omega,j+1,by omega,by rw [ben_nx hj,zF,hpj,hsj]; exact U⟩
 ·obtain rfl:j=u.length:=by rw [qc] at hb0; have:=qr hb0; omega
  refine qK<|am<|am<|aB<|zt<|zg [η] [] [.v 38 _,.v 4 _] [.g 2,.o 1] U (zM 2 G (zA 0 G o0)) (zz [(5,_),(4,_)] [O 2 30 _] λ a w U=>?_)
  refine aa<|qg<|ao ?_ (an G U (zm 1 G))
  rw [qF]; exact lR
theorem uZ {c d:Nat}{m:MQ}{r:YQ}(hk:c+d≤200000000):Cn Tryz.prog 126 [(QMA c m).va,(QRA d r).va] ((QRA (c+d+(c+d)+1) (goQ m r)).va):=by
 refine Cn.intro Tryz.func126 G zk nq (λ B w0 a U=>?_)
 have U:=zn [(0,(QMA c m).va),(1,(QRA d r).va)] [] U
 refine qb<|zg [] [⟨2,126,ptrH,some 0,_,none⟩,⟨3,115,ptrH,some 1,_,none⟩,⟨4,115,ptrH,some 2,_,none⟩] [.alc 0,.alc 1,.alc 2] [] U (zW 0 G (zW 1 G (zY G (Str.zero gw) o0))) (zz [] [O 2 126 _,O 3 115 _,O 4 115 _] λ a w U=>?_)
 refine zt<|zgd [[],[0],[],[2],[],[4],[],[6],[0,1,2,3,4,5,6,7],[],[9],[],[11],[],[13],[],[15],[0,1,2,3,4,5,6,7,8,9,10,11,12,13,14,15,16],[0,1,2,3,4,5,6,7,8,9,10,11,12,13,14,15,16,17],[0,1,2,3,4,5,6,7,8,9,10,11,12,13,14,15,16,17,18]] [none,none,some (19,_)] [] [.adr 5 2 (.some 0) True,.v 6 _,.adr 7 3 (.some 0) True,.v 8 _,.adr 9 2 (.some 4) True,.v 10 _,.adr 11 3 (.some 4) True,.v 12 _,.v 13 _,.adr 14 2 (.some 8) True,.v 15 _,.adr 16 3 (.some 0) True,.v 17 _,.adr 18 2 (.some 12) True,.v 19 _,.adr 20 3 (.some 4) True,.v 21 _,.v 22 _,.v 23 _,.sto 2] [] ae U (zO 0 G ol (zL 0 0 0 G ax (zO 1 G ca (zL 2 1 0 G ax (zO 0 G oj (zL 4 0 1 G ax (zO 1 G c5 (zL 6 1 1 G ax (zQ G (rE zo) (.cons (vq 1 G) (.cons (vq 3 G) (.p (vq 5 G) (vq 7 G)))) (zO 0 G oi (zL 9 0 2 G ax (zO 1 G ca (zL 11 1 0 G ax (zO 0 G oh (zL 13 0 3 G ax (zO 1 G c5 (zL 15 1 1 G ax (zQ G (rE zo) (.cons (vq 10 G) (.cons (vq 12 G) (.p (vq 14 G) (vq 16 G)))) (zv G (aU (qs:=[(0,_),(1,_)]) gw (.cons ⟨rfl,vq 8 rfl,rfl⟩ (.cons ⟨rfl,vq 17 rfl,rfl⟩ .nil))) (zS 18 G fF o0)))))))))))))))))))) zk zk zk zk (zz [] [O 2 126 _,O 3 115 _,O 4 115 _] λ a w U=>?_)
 refine aa<|qg<|ao ?_ (aA G U (zm 2 G) fF)
 exact aL
theorem FM {b B E m:Nat}{c:List Value}(h:(EqA (.slice none 0 0)).p B c w):(OwG b E m D []).p B c w:=by
 obtain ⟨rfl,_⟩:=h
 exact ⟨_,rfl,mw B _ w rfl⟩
theorem HS {u:List Nat}{j:Nat}(hj:j<u.length):(u.take (j+1)).map (λ (k:Nat)=>InA k)=((u.take j).map λ (k:Nat)=>InA k)++[InA ((u[j]:Nat):Int)]:=by
 rw [qu hj,zF]; rfl
set_option maxHeartbeats 2000000 in
theorem vD {t:RTk}{u:List Nat}(hc:ckF t=0)(hl:u.length+1=t.sp.length)(hp:∀ x∈u,x<t.ps.length):CnI Tryz.prog 32 [(TkA t).va,(SlA 3 [] (u.map λ (k:Nat)=>InA (k:Int))).va] (λ b=>(WrI (λ g=>b≤g) t u).va):=by
 obtain ⟨it,i1,i2,i3,i4⟩:=Gf
 obtain ⟨hs2,hs13,hp1,hp64,htg⟩:=hd_b (fv hc).1
 have h00:0<t.sp.length:=by omega
 have hu12:u.length≤12:=by omega
 have hall:=CC hc hl hp
 have hbl:(benW t u).length≤25:=by rw [sG]; omega
 refine CnI.introF Tryz.func32 G zk nq (λ B w0 a hF0 hF U=>?_)
 have U:=zn [(0,(TkA t).va),(1,(SlA 3 [] (u.map λ (k:Nat)=>InA (k:Int))).va)] [] U
 obtain ⟨v1,hv1,U⟩:=St.eqv U 1 rfl
 refine qb<|zg [] [⟨2,30,ptrH,some 0,_,none⟩,⟨4,81,ptrH,some 1,_,none⟩] [.alc 0,.alc 1] [.g 1] U (zW 0 G (zY G (Str.zero ml) o0)) (zz [(1,_)] [O 2 30 _,O 4 81 _] λ a w U=>?_)
 refine zt<|zg [η,η] [⟨5,115,ptrH,some 3,_,some (4,_)⟩] [.v 10 _,.v 11 _,.v 12 _,.alc 2,.sto 2] [.g 0] U (zQ G fo .nil (zQ G cE .nil (zv G (aU (qs:=[(0,_),(1,_)]) gw (.cons ⟨rfl,vq 0 rfl,rfl⟩ (.cons ⟨rfl,vq 1 rfl,rfl⟩ .nil))) (zY G (Str.zero gw) (zS 2 G fF o0))))) (zz [(1,_)] [O 2 30 _,O 4 81 _,O 5 115 _] λ a w U=>?_)
 have U:=St.wkL (A':=QRA 102426 (coQ (prodQ ((benW t u).take 0)))) U 2 rfl (bo (.cons (bO zd) (.cons (bO zd) .nil)))
 have U:=zn [(1,_)] [O 2 30 _,O 4 81 _,O 5 115 _] U
 refine zt<|zg [η,η,η] [] [.v 13 _,.v 14 _,.v 15 _,.v 6 _] [.g 0,.o 3] U (zl 0 G cN (zM 0 G (zQ G (t8 hc hl hp) (.p (vq 0 G) (aT hF hv1 (vq 1 G))) (zA 2 G o0)))) (zz [(1,_),(6,_)] [O 2 30 _,O 4 81 _,O 5 115 _] λ a w U=>?_)
 refine zt<|qb<|zg [η,η,η] [] [.v 7 _] [.g 0,.g 1,.o 0] U (zv G (ac ab) o0) (zz [(1,_),(6,_),(7,_)] [O 2 30 _,O 4 81 _,O 5 115 _] λ a w U=>?_)
 refine aa<|qj ?_
 have U:=St.sel U [0,1,2]
 refine wp_loop_ghost (λ n a w=>∃ j:Nat,n+j=(benW t u).length∧St B w0 76 [(1,EqV v1),(6,(SlA 98 [U32] ((benW t u).map REA)).va),(7,In (j:Nat))] [⟨2,30,ptrH,TkA t⟩,⟨4,81,ptrH,cat [EqA (.slice none 0 0),RFA rf0,NumA .i64 0,RFA rf0]⟩,⟨5,115,ptrH,QRA 102426 (coQ (prodQ ((benW t u).take j)))⟩] a w) ((benW t u).length) ?_ ?_
 ·exact ⟨0,by omega,U⟩
 intro n a w hI
 obtain ⟨j,hn,U⟩:=hI
 refine qb<|qb<|zg [η,η,η] [] [.v 16 _,.v 17 _,.v 18 _,.v 19 _] [.g 0,.g 1,.g 2,.o 3] U (zM 2 G (zM 1 G (zv G (bg Tryz.underlying109 (vq 1 G)) (zv G (aS (vq 0 G) (vq 2 G)) o0)))) (zz [(1,_),(6,_),(7,_),(19,_)] [O 2 30 _,O 4 81 _,O 5 115 _] λ a w U=>?_)
 refine aa<|aj U (zm 3 G) (λ hb0=>?_) (λ hb0=>?_)
 ·have hj:j<(benW t u).length:=by rw [qc] at hb0; have:=qp hb0; omega
  refine qh<|zt<|qj<|zgd [[],[],[0,1],[0,1,2],[0,1,2,3],[],[0,1,2,3,4,5],[0,1,2,3,4,5,6]] [none,none,some (7,_)] [] [.v 22 _,.v 23 _,.v 24 _,.v 25 _,.v 26 _,.v 27 _,.v 28 _,.sto 2] [.g 0,.g 1,.g 2] ae U (zM 1 G (zM 2 G (zv G (bH nK (bW λ _=>rfl) (vq 0 G) (vq 1 G) (bz hj)) (zv G (au (vq 2 G) fh) (zQ G (Fk (qd.1 hall _ (qf hj))) (.o (vq 3 G)) (zl 2 G fF (zQ G (uZ (c:=4099) (d:=102426) (m:=elM (benW t u)[j]) (r:=coQ (prodQ ((benW t u).take j))) zd) (.p (vq 4 G) (vq 5 G)) (zS 6 G fF o0)))))))) zk zk zk zk (zz [(1,_),(6,_),(7,_)] [O 2 30 _,O 4 81 _,O 5 115 _] λ a w U=>?_)
  have U:=St.wkL U 2 rfl (co_nx hj hall hbl)
  have U:=zn [(1,_),(6,_),(7,_)] [O 2 30 _,O 4 81 _,O 5 115 _] U
  refine ap ?_
  refine aa<|zg [η,η,η] [] [.v 20 _,.v 21 _,.v 7 _] [.g 0,.g 1,.o 2] U (zM 2 G (zv G (aN (vq 0 G) ab ((wi64 zo zo).trans (by omega:(_:Int)=((j+1:Nat):Int)))) (zA 1 G o0))) (zz [(1,_),(6,_),(7,_)] [O 2 30 _,O 4 81 _,O 5 115 _] λ a w U=>?_)
  refine aa ?_
  have U:=St.sel U [0,1,2]
  exact ⟨n-1,by omega,j+1,by omega,U⟩
 ·obtain rfl:j=(benW t u).length:=by rw [qc] at hb0; have:=qr hb0; omega
  rw [qF] at U
  refine qK<|am<|am<|aB<|zt<|zg [η,η,η] [⟨8,81,ptrH,some 4,_,some (5,_)⟩] [.adr 29 5 (.some 4) True,.v 30 _,.v 31 _,.v 32 _,.alc 3,.sto 3] [.g 0] U (zO 2 G c5 (zL 0 2 1 G ax (zQ G (gC zd) (.o (vq 1 G)) (zv G (aU (qs:=[(1,_)]) ml (.cons ⟨rfl,vq 2 rfl,rfl⟩ .nil)) (zY G (Str.zero ml) (zS 3 G oP o0)))))) (zz [(1,_)] [O 2 30 _,O 4 81 _,O 5 115 _,O 8 81 _] λ a w U=>?_)
  have U:=St.selL U [0,1,3]
  have U:=zn [(1,_)] [O 2 30 _,O 4 81 _,O 8 81 _] U
  have U:=St.wkB (A':=cat [OwG w0.w.heap.size 3 1 [] ((u.take 0).map λ (k:Nat)=>InA k),QA 102426 (powW t u),InA (cosW t (u.take 0)),RFA rf0]) U 2 rfl (λ cs hp=>sE (f:=0) (A:=EqA (.slice none 0 0)) rfl (λ c h=>FM h) (λ _ _ _ h=>h) hp)
  have U:=zn [(1,_)] [O 2 30 _,O 4 81 _,O 8 81 _] U
  refine zt<|qb<|zg [η,η,η] [] [.v 9 _] [.g 0,.o 0] U (zv G (ac ab) o0) (zz [(1,_),(9,_)] [O 2 30 _,O 4 81 _,O 8 81 _] λ a w U=>?_)
  refine aa<|qj ?_
  have U:=St.sel U [0,1]
  refine wp_loop_ghost (λ n a w=>∃ j:Nat,n+j=u.length∧St B w0 76 [(1,EqV v1),(9,In (j:Nat))] [⟨2,30,ptrH,TkA t⟩,⟨4,81,ptrH,cat [EqA (.slice none 0 0),RFA rf0,NumA .i64 0,RFA rf0]⟩,⟨8,81,ptrH,cat [OwG w0.w.heap.size 3 1 [] ((u.take j).map λ (k:Nat)=>InA k),QA 102426 (powW t u),InA (cosW t (u.take j)),RFA rf0]⟩] a w) (u.length) ?_ ?_
  ·exact ⟨0,by omega,U⟩
  intro n a w hI
  obtain ⟨j,hn,U⟩:=hI
  refine qb<|qb<|zg [η,η,η] [] [.v 33 _,.v 34 _,.v 35 _,.v 36 _] [.g 0,.g 1,.o 3] U (zM 1 G (zM 0 G (zv G (bg Tryz.underlying31 (aT hF hv1 (vq 1 G))) (zv G (aS (vq 0 G) (vq 2 G)) o0)))) (zz [(1,_),(9,_),(36,_)] [O 2 30 _,O 4 81 _,O 8 81 _] λ a w U=>?_)
  refine aa<|aj U (zm 2 G) (λ hb1=>?_) (λ hb1=>?_)
  ·have hj:j<u.length:=by rw [qc] at hb1; have:=qp hb1; omega
   have hkp:u[j]<t.ps.length:=hp _ (qf hj)
   have hpj:t.ps.getD u[j] ⟨⟨#[]⟩,⟨0,rf0,rf0⟩,0⟩=t.ps[u[j]]:=by simp [List.getD,hkp]
   have hsl:j+1<t.sp.length:=by omega
   have hsj:t.sp.getD (j+1) rf0=t.sp[j+1]:=by simp [List.getD,hsl]
   refine qh<|zt<|qj<|qb ?_
   obtain ⟨⟨v8,d8⟩,U⟩:=St.nameFG U 2 0 rfl rfl
   have U:=zn [(1,_),(9,_),(36,_)] [O 2 30 _,O 4 81 _,O 8 81 _] U
   obtain ⟨g8,U⟩:=St.nm U 2 rfl
   have U:=zn [(8,_),(1,_),(9,_),(36,_)] [O 2 30 _,O 4 81 _,O 8 81 _] U
   refine ir (sp:=[.adr 39 8 (.some 0) True,.v 40 _,.v 41 _,.v 42 _,.v 43 _,.v 44 _,.v 45 _,.v 46 VT,.v 47 VT,.sto 0]) [[],[0],[],[],[2,3],[2,3,4],[2,3,4,5],[0,1,2,3,4,5,6],[0,1,2,3,4,5,6,7],[0,1,2,3,4,5,6,7,8]] 7 3 0 9 OneC [.g 0,.g 1,.g 2,.o 1,.o 6] ae U (zO 2 G sb (zL 0 2 0 G fk (zM 1 G (zM 2 G (zv G (bH cP (bW λ _=>rfl) (aT hF hv1 (vq 2 G)) (vq 3 G) (bz hj)) (zv G (au (vq 4 G) ty_3) (zv G (bJ (D:=[]) (l:=[_]) (xs:=[.tmp 44]) (cT zk) cP zk (n_ok zk) nq nq nq (.o (vq 5 G)) G G) o0))))))) G zd zd zk (gM zk) zk zk (zz [(8,_),(1,_),(9,_),(40,_),(45,_)] [O 2 30 _,O 4 81 _,O 8 81 _] λ a w U=>?_)
   rw [show List.range' 7 3=[7,8,9] from rfl]
   have U:=St.wkG U 3 rfl Ft
   have U:=zn [(8,_),(1,_),(9,_),(40,_),(45,_)] [O 2 30 _,O 4 81 _,O 8 81 _] U
   rw [qA]
   refine Be U.bt26 (qi _) (f:=0) (m:=1) (X:=InA ((u[j]:Nat):Int)) [0,1,2] 3 4 2 G U G G G (pn (A:=InA ((u[j]:Nat):Int)) zk) G G zk zd zd (AR G) Tryz.underlying31 i1 i2 i3 i4 (by rfl) zd (by rw [qc,qY]; omega) (by rw [qc,qY]; omega) zd zk zk zk zk (λ v' w o1 o2 U=>?_)
   rw [qA]
   refine iU 1 G U sb G zd zk zk (λ a U=>?_)
   rw [qA]
   refine mx (A1:=cat [OwG w0.w.heap.size 3 1 [] ((u.take (j+1)).map λ (k:Nat)=>InA k),QA 102426 (powW t u),InA (cosW t (u.take j)),RFA rf0]) [3,4] 0 1 2 2 rfl U rfl rfl rfl o1 o2 fk rfl zk zk zk (λ cs hp=>by have h:=BU (f:=0) rfl rfl hp; rw [HS hj]; exact h) (λ w U=>?_)
   refine A7 ?_
   have U:=zn [(1,_),(9,_)] [O 2 30 _,O 4 81 _,O 8 81 _] U
   refine aa<|zgd [[],[0],[],[2],[],[],[4,5],[4,5,6],[2,3,4,5,6,7],[2,3,4,5,6,7,8],[2,3,4,5,6,7,8,9],[0,1,2,3,4,5,6,7,8,9,10],[0,1,2,3,4,5,6,7,8,9,10,11],[0,1,2,3,4,5,6,7,8,9,10,11,12]] [none,none,some (13,_)] [] [.adr 48 8 (.some 5) True,.v 49 _,.adr 50 2 (.some 1) True,.v 51 _,.v 52 _,.v 53 _,.v 54 _,.v 55 _,.v 56 _,.v 57 _,.v 58 _,.v 59 _,.adr 60 8 (.some 5) True,.sto 2] [.g 0,.g 1] ae U (zO 2 G sa (zL 0 2 2 G ty_3 (zO 0 G bD (zL 2 0 1 G dn (zM 0 G (zM 1 G (zv G (bH cP (bW λ _=>rfl) (aT hF hv1 (vq 4 G)) (vq 5 G) (bz hj)) (zv G (au (vq 6 G) ty_3) (zv G (bH ey (bW λ _=>rfl) (vq 3 G) (vq 7 G) (bz hkp)) (zv G (bL (vq 8 G) co (Sub.part 2 G G)) (zv G (au (vq 9 G) ty_3) (zv G (aN (vq 1 G) (vq 10 G) ((cos_nx hc hj hu12 hp hkp))) (zO 2 G sa (oc (cJ 12 G G G G zk (vq 11 G) ty_3 (Put.part 2 G G G)) o0)))))))))))))) zk zk zk zk (zz [(1,_),(9,_)] [O 2 30 _,O 4 81 _,O 8 81 _] λ a w U=>?_)
   refine ap ?_
   refine aa<|zg [η,η,η] [] [.v 37 _,.v 38 _,.v 9 _] [.g 0,.o 2] U (zM 1 G (zv G (aN (vq 0 G) ab ((wi64 zo zo).trans (by omega:(_:Int)=((j+1:Nat):Int)))) (zA 1 G o0))) (zz [(1,_),(9,_)] [O 2 30 _,O 4 81 _,O 8 81 _] λ a w U=>?_)
   refine aa ?_
   have U:=St.sel U [0,1]
   exact ⟨n-1,by omega,j+1,by omega,U⟩
  ·obtain rfl:j=u.length:=by rw [qc] at hb1; have:=qr hb1; omega
   rw [qF] at U
   refine qK<|am<|am<|aB<|zt ?_
   have U:=St.wkB (A':=cat [SlP (λ g=>w0.w.heap.size≤g) 3 [] ((u.map λ (k:Nat)=>(k:Int)).map InA),QA 102426 (powW t u),InA (cosW t u),RFA rf0]) U 2 rfl (λ cs hp=>sE (f:=0) (A:=OwG w0.w.heap.size 3 1 [] (u.map λ (k:Nat)=>InA k)) rfl (λ c h=>owG_P U.bt26 h) (λ _ _ _ h=>h) hp)
   have U:=zn [(1,_),(9,_),(36,_)] [O 2 30 _,O 4 81 _,O 8 81 _] U
   refine zg [η,η,some (6,_)] [] [.adr 61 8 (.some 1) True,.v 62 _,.adr 63 2 (.some 2) True,.v 64 _,.v 65 _,.adr 66 8 (.some 6) True,.sto 2] [] U (zO 2 G BY (zL 0 2 1 G ax (zO 0 G dH (zL 2 0 2 G ax (zQ G ((nR (c:=102426) (d:=2048) zd).wk (.cons aL (.cons (qa_x htg (qi _)).va .nil))) (.p (vq 1 G) (vq 3 G)) (zO 2 G iv (oc (cJ 5 G G G G zk (vq 4 G) ax (Put.part 3 G G G)) o0))))))) (zz [] [O 2 30 _,O 4 81 _,O 8 81 _] λ a w U=>?_)
   refine zt<|qb<|zg [η,η,η] [] [.adr 67 8 (.some 6) True,.v 68 _,.v 69 _,.v 70 _] [.o 3] U (zO 2 G iv (zL 0 2 3 G ax (zQ G r2sign_q (.o (vq 1 G)) (zv G (aS (vq 2 G) ab) o0)))) (zz [(70,_)] [O 2 30 _,O 4 81 _,O 8 81 _] λ a w U=>?_)
   refine aa<|aj U (zm 0 G) (λ hb2=>?_) (λ hb2=>?_)
   ·refine zg [η,η,some (4,_)] [] [.adr 71 8 (.some 6) True,.v 72 _,.v 73 _,.adr 74 8 (.some 6) True,.sto 2] [] U (zO 2 G iv (zL 0 2 3 G ax (zQ G (gC zd) (.o (vq 1 G)) (zO 2 G iv (oc (cJ 3 G G G G zk (vq 2 G) ax (Put.part 3 G G G)) o0))))) (zz [] [O 2 30 _,O 4 81 _,O 8 81 _] λ a w U=>?_)
    refine zt<|zg [η,some (1,_),η] [] [.v 75 _,.sto 1] [] U (zl 2 G oP (zS 0 G oP o0)) (zz [] [O 2 30 _,O 4 81 _,O 8 81 _] λ a w U=>?_)
    refine aa<|qg<|ao ?_ (aA G U (zm 1 G) oP)
    rw [awa_y hb2]; exact (bo (.cons (.refl _) (.cons (bO zd) (.cons (.refl _) (.cons (bO zd) .nil))))).va
   ·refine qh<|zt<|zg [η,some (1,_),η] [] [.v 75 _,.sto 1] [] U (zl 2 G oP (zS 0 G oP o0)) (zz [] [O 2 30 _,O 4 81 _,O 8 81 _] λ a w U=>?_)
    refine aa<|qg<|ao ?_ (aA G U (zm 1 G) oP)
    rw [awa_n hb2]; exact (bo (.cons (.refl _) (.cons (bO zd) (.cons (.refl _) (.cons (bO zd) .nil))))).va
theorem rF {t:RTk}{u:List Nat}(hc:ckF t=0)(hl:u.length+1=t.sp.length)(hp:∀ x∈u,x<t.ps.length):Cn Tryz.prog 32 [(TkA t).va,(SlA 3 [] (u.map λ (k:Nat)=>InA (k:Int))).va] (WrQ (wayW t u)).va:=(vD hc hl hp).cn λ b=>wrI_q.va
def nxW (p a:Nat):Nat→List Nat→Bool × List Nat
 | _,[]=>(false,[])
 | i,x::l=>if (nxW p a (i+1) l).1 then (true,x::(nxW p a (i+1) l).2) else if i<a then (false,x::(nxW p a (i+1) l).2) else if x+1<p then (true,(x+1)::(nxW p a (i+1) l).2) else (false,0::(nxW p a (i+1) l).2)
theorem wi (p a:Nat):∀ (l:List Nat) (i:Nat),(nxW p a i l).2.length=l.length
 | [],_=>rfl
 | x::l,i=>by
  have h:=wi p a l (i+1)
  unfold nxW
  split
  ·simp [h]
  ·split
   ·simp [h]
   ·split <;> simp [h]
theorem wh {p a:Nat}:∀ (l m:List Nat) (i:Nat),i+l.length≤a→nxW p a i (l++m)=((nxW p a (i+l.length) m).1,l++(nxW p a (i+l.length) m).2)
 | [],m,i,_=>by simp
 | x::l,m,i,h=>by
  simp only [zy] at h
  have ih:=wh (p:=p) (a:=a) l m (i+1) zo
  rw [jf,nxW,ih]
  have e:i+1+l.length=i+(x::l).length:=by simp only [zy]; omega
  rw [e]
  by_cases hc:(nxW p a (i+(x::l).length) m).1=true
  ·rw [qz hc,hc]; rfl
  ·rw [qw hc,qz zo,xk.2 hc]; rfl
theorem wj {p:Nat}{ah:List Nat}(hp:0<p):∀ f i r,r<cntW p ah.length f i→nxW p ah.length i (exW p ah f i r)=if r+1<cntW p ah.length f i then (true,exW p ah f i (r+1)) else (false,exW p ah f i 0)
 | 0,i,r,h=>by
  rw [cntW] at h
  rw [cntW,qw zo]; rfl
 | f+1,i,r,h=>by
  by_cases hi:i<ah.length
  ·rw [pS hi] at h ⊢
   have ih:=wj hp f (i+1) r h
   rw [ou hi,ou hi,ou hi,nxW,ih]
   by_cases hc:r+1<cntW p ah.length f (i+1)
   ·rw [qz hc,qz hc]; rfl
   ·rw [qw hc,qw hc,qw vb,qz hi]
  ·rw [pR hi] at h ⊢
   have hc0:=dk (a:=ah.length) hp f (i+1)
   obtain ⟨c,hc⟩:∃ c,cntW p ah.length f (i+1)=c:=⟨_,rfl⟩
   have hs:r%c<c:=qM _ zo
   have hq:r/c<p:=zD (by rw [qP,← hc]; exact h)
   have hr:r=r/c*c+r%c:=by have:=xw r c; rw [qP] at this; exact this.symm
   have ih:=wj hp f (i+1) (r%c) (by rw [hc]; exact hs)
   rw [hc] at ih h
   obtain ⟨q,hqe⟩:∃ q,r/c=q:=⟨_,rfl⟩
   obtain ⟨s,hse⟩:∃ s,r%c=s:=⟨_,rfl⟩
   rw [hqe,hse] at hr
   rw [hse] at ih hs
   rw [hqe] at hq
   have at_:∀ q r,r<c→exW p ah (f+1) i (q*c+r)=q::exW p ah f (i+1) r:=λ q r h=>by
    have:=yr (p:=p) (ah:=ah) (f:=f) (i:=i) (q:=q) (r:=r) hi (by rw [hc]; exact h)
    rwa [hc] at this
   have h0:exW p ah (f+1) i 0=0::exW p ah f (i+1) 0:=by have:=at_ 0 0 zo; rwa [x3,qO] at this
   rw [hc,hr,at_ q s hs,nxW,ih]
   have hm:(q+1)*c≤p*c:=qR c zo
   have hm1:(q+1)*c=q*c+c:=x4 q c
   by_cases h1:s+1<c
   ·rw [qz h1,qz rfl,qz zo,xR,at_ q (s+1) h1]
   ·rw [qw h1,qw vb,qw hi]
    have e:q*c+s+1=(q+1)*c+0:=by omega
    by_cases h2:q+1<p
    ·have hm2:(q+1+1)*c≤p*c:=qR c zo
     have hm3:(q+1+1)*c=(q+1)*c+c:=x4 (q+1) c
     rw [qz h2,qz zo,e,at_ (q+1) 0 zo]
    ·have:q+1=p:=by omega
     rw [qw h2,qw (by rw [← this]; omega),h0]
theorem ex_0 {p:Nat}{ah:List Nat}(hp:0<p):∀ f i,exW p ah f i 0=((ah.drop i).take f)++List.replicate (f-(ah.length-i)) 0
 | 0,i=>by simp [exW]
 | f+1,i=>by
  by_cases hi:i<ah.length
  ·rw [ou hi,ex_0 hp f (i+1),qG hi,jU,jf]
   have e:f+1-(ah.length-i)=f-(ah.length-(i+1)):=by omega
   rw [e]
  ·have hc0:=dk (a:=ah.length) hp f (i+1)
   have:=yr (p:=p) (ah:=ah) (f:=f) (i:=i) (q:=0) (r:=0) hi hc0
   rw [x3,qO] at this
   rw [this,ex_0 hp f (i+1),q9 zo,q9 zo,ko,ko,xb,xb]
   have e:f+1-(ah.length-i)=(f-(ah.length-(i+1)))+1:=by omega
   rw [e,kT]
theorem o9 {l:List Nat}(h:(cat ((l.map λ (k:Nat)=>(k:Int)).map InA)).p B cs w):cs=l.map λ (x:Nat)=>Value.int .i64 x:=by
 rw [iA h,z6]; rfl
section
variable {B N:Nat} {w0:Bs} {Γ:List (Nat × VA)} {Λ:List Lc} {a:Act} {w:World}
theorem St.setG (h:St B w0 N Γ Λ a w){s:Nat}{A A':VA}(k:Nat)(hm:Γ[k]?=some (s,A))(hp:A.p B (a.eval (.tmp s)) w→A'.p B (a.eval (.tmp s)) w):St B w0 N (Γ.set k (s,A')) Λ a w :=
 ⟨h.lo,h.defers,h.size,h.base,λ x hx=>by
  rcases qy hx with hx | rfl
  ·exact h.vals x hx
  ·exact hp (h.vals _ (qa hm)),h.locs,h.dis⟩
end
section
open Rg
variable {R:Rg} {B i:Nat} {w0:Bs}
theorem Hj {pre pre':List VA}{xs:List Operand}(hup:All2 Up pre pre')(hx:HasL R B w0 i xs pre)(av:R.Av B w0 i a w):All2 (λ (A:VA) v=>A.p w.heap.size v w) pre' (xs.map a.eval):=by
 have hbw:=Av.bw av
 have h1:=hx.all av
 clear hx
 generalize xs.map a.eval=vs at h1
 induction hup generalizing vs with
 | nil=>cases h1; exact .nil
 | cons hu _ ih =>
  cases h1 with
  | cons h2 h3=>exact .cons (hu _ _ _ hbw h2) (ih _ h3)
end
theorem St.nmH {B N:Nat}(h:St B w0 N Γ Λ a w){s T n c:Nat}{A:As}(k:Nat)(hm:Λ[k]?=some ⟨s,T,slH n c,A⟩):∃ g,St B w0 N ((s,EqV (.slice (some ⟨g,0,none⟩) n c))::Γ) Λ a w:=by
 obtain ⟨g,cs,e,_⟩:=h.locs _ (qa hm)
 refine ⟨g,h.lo,h.defers,h.size,h.base,λ x hx=>?_,h.locs,h.dis⟩
 rcases qt.1 hx with rfl | hx
 ·exact e
 ·exact h.vals x hx
section
open Rg
variable {P:Program} {Q:Exit→Act→World→Prop} {B N:Nat} {w0:Bs} {Γ:List (Nat × VA)} {Λ:List Lc} {a:Act} {w:World} {ops:Array Oper} {i:Nat} {K:Act→World→Prop}
theorem op_cpL {d s u t2 n mm c hp:Nat}{S E T1:TypeId}{q l:List Nat}(src:List Nat)(ks ku kq e:Nat)
  (ho:ops[i]?=some ⟨some d,.call ⟨.builtin .copy,#[.tmp s,.tmp u],#[S,S]⟩,T1,ps,af,none⟩) (h:St B w0 N Γ Λ a w)
  (hs:Γ[ks]?=some (s,EqV (.slice (some ⟨hp,0,none⟩) n c))) (hq:Γ[kq]?=some (t2,EqV (.slice (some ⟨hp,0,none⟩) n c))) (hu:Γ[ku]?=some (u,(SlA E [] (l.map λ (k:Nat)=>InA (k:Int))).va)) (hl:Λ[e]?=some ⟨t2,E,slH n c,Nums .i64 q⟩)
  (hS:P.underlying S=some (.slice E)) (hsz:(P.info? E).map (·.size)=some 1) (hn:l.length=mm) (hmn:mm≤n) (hqc:q.length=c) (hnc:n≤c) (hd:d<N) (hΓ:Γ.all (λ x=>x.1 != d)=true) (hΛd:Λ.all (λ l=>l.s != d)=true)
  (hsrc:src.all (λ k=>match Γ[k]? with | some y => !y.2.deps.contains E | none=>false)=true) (hΛ:Λ.zipIdx.all (λ x=>x.2==e || (x.1.s != t2 && !x.1.A.deps.contains E))=true)
  (hK:∀ v w',St B w0 N (src.filterMap λ k=>Γ[k]?) (Λ.set e ⟨t2,E,slH n c,Nums .i64 (l++q.drop mm)⟩) (a.put (some d) v) w'→K (a.put (some d) v) w'):wpOp P ops Q i K a w:=by
 have e1:a.eval (.tmp s)=.slice (some ⟨hp,0,none⟩) n c:=h.vals _ (qa hs)
 have e2:a.eval (.tmp t2)=.slice (some ⟨hp,0,none⟩) n c:=h.vals _ (qa hq)
 obtain ⟨g,cs,q1,q2,q3,q4⟩:=h.locs _ (qa hl)
 have q1':a.eval (.tmp t2)=.slice (some ⟨g,0,none⟩) n c:=q1
 have hgp:hp=g:=by rw [e2] at q1'; injection q1' with q1'; injection q1' with q1'; injection q1'
 subst hgp
 have hcs:cs=q.map λ (x:Nat)=>Value.int .i64 x:=q4
 have hu3:=h.vals _ (qa hu)
 obtain ⟨cs1,⟨_,Ad,cap,ds,rfl,_,_,h5,h6⟩,hu'⟩:=hu3
 have e3:a.eval (.tmp u)=.slice Ad (l.map λ (k:Nat)=>InA (k:Int)).length cap:=hu'
 rw [qc,hn] at e3
 have hds:ds=l.map λ (x:Nat)=>Value.int .i64 x:=o9 (l:=l) (by rw [z6]; exact h5)
 have hB:B≤hp:=h.lo hp q2
 have hE:∀ k,k<w.heap.size→k≠hp→True:=λ _ _ _=>trivial
 have key:∃ v,(Builtin.copy_ #[S,S] T1 #[.slice (some ⟨hp,0,none⟩) n c,.slice Ad mm cap]).run P w=.ok v (w.setRow hp (List.toArray ((l++q.drop mm).map λ (x:Nat)=>Value.int .i64 x))):=by
  by_cases h0:mm=0
  ·refine ⟨goInt 0,?_⟩
   have hl0:l=[]:=z8 zo
   rw [run_copy_none w S S T1 E (some ⟨hp,0,none⟩) Ad n c mm cap hS hsz (by rw [h0]; exact Nat.zero_min n)]
   congr 1
   rw [hl0,h0,xb,z9,← hcs]
   have e9:∀ h:Array Obj,h=w.heap→w=({ w with heap:=h }:World):=λ h e=>by rw [e]
   unfold World.setRow
   refine e9 _ (jt λ k=>?_)
   rw [Array.getElem?_modify]
   by_cases hk:hp=k
   ·subst hk
    rw [qz rfl,q3]
    rfl
   ·rw [qw hk]
  ·obtain ⟨b,o,hAd,_,_,h8⟩:=h6 (by rw [qc]; omega)
   subst hAd
   refine ⟨goInt ds.length,(run_copy_row P w S S T1 E hp 0 n c ⟨b,o,none⟩ mm cap (List.toArray cs) E ds hS hsz q3 (by rw [hds,qc,hn]; exact (xl hmn).symm) (λ j v hj=>by rw [r8]; exact h8 j v hj) (by rw [hds,hcs]; simp; omega) (λ v hv=>by
    rw [hds] at hv
    obtain ⟨x,_,rfl⟩:=qq.1 hv
    rfl)).trans ?_⟩
   congr 2
   rw [hds,hcs]
   simp [hn]
 obtain ⟨v,hr⟩:=key
 have hW:=Wr.setRow w hp (List.toArray ((l++q.drop mm).map λ (x:Nat)=>Value.int .i64 x))
 have U:St B w0 N (src.filterMap λ k=>Γ[k]?) (Λ.set e ⟨t2,E,slH n c,Nums .i64 (l++q.drop mm)⟩) a (w.setRow hp (List.toArray ((l++q.drop mm).map λ (x:Nat)=>Value.int .i64 x))):=by
  refine ⟨h.lo,h.defers.keep rfl λ D hD=>(hW.block D (λ e=>by subst e; rw [q3] at hD; cases hD)).trans hD,h.size,h.base.wr hW q2,λ x hx=>?_,λ m hm=>?_,λ m1 hm1 m2 hm2 hne=>?_⟩
  ·obtain ⟨k',hk1,hk2⟩:=qQ.1 hx
   have:=qd.1 hsrc k' hk1
   simp only [hk2,qv,qx,qk] at this
   exact x.2.wr _ _ _ _ _ _ _ _ q3 this hB hW (h.vals x (qa hk2))
  ·obtain ⟨j,hj⟩:=List.getElem?_of_mem hm
   by_cases e5:j=e
   ·subst e5
    have:m=⟨t2,E,slH n c,Nums .i64 (l++q.drop mm)⟩:=by
     rw [List.getElem?_set_self (List.getElem?_eq_some_iff.1 hl).1] at hj
     injection hj with hj
     exact hj.symm
    subst this
    exact ⟨hp,_,q1,q2,setRow_heap w hp _ _ _ _ q3,rfl⟩
   ·rw [List.getElem?_set_ne (λ e2=>e5 e2.symm)] at hj
    have hc:=qd.1 hΛ (m,j) (qZ.2 hj)
    simp only [zw,xc,ql,bne_iff_ne,qv,qx,qk] at hc
    have hc':=hc.resolve_left e5
    obtain ⟨g',cs2,p1,p2,p3,p4⟩:=h.locs m (qa hj)
    have hne:g'≠hp:=λ hh=>h.dis m (qa hj) _ (qa hl) hc'.1 (by rw [p1,q1,hh,m.H.ok,Hd.ok])
    exact ⟨g',cs2,p1,p2,(hW.block g' hne).trans p3,m.A.wr _ _ _ _ _ _ _ _ q3 hc'.2 hB hW p4⟩
  ·have hs:∀ m∈Λ.set e ⟨t2,E,slH n c,Nums .i64 (l++q.drop mm)⟩,∃ m0∈Λ,m0.s=m.s:=λ m hm=>by
    rcases qy hm with hm | rfl
    ·exact ⟨m,hm,rfl⟩
    ·exact ⟨_,qa hl,rfl⟩
   obtain ⟨m3,r1,r2⟩:=hs m1 hm1
   obtain ⟨m4,r3,r4⟩:=hs m2 hm2
   rw [← r2,← r4] at hne ⊢
   exact h.dis m3 r1 m4 r3 hne
 have hst2:=U.addV (d:=d) (v:=v) (A:=EqV v) hd (qd.2 λ x hx=>by
  obtain ⟨k,hk1,hk2⟩:=qQ.1 hx
  exact qd.1 hΓ x (qa hk2)) (qd.2 λ l' hl'=>by
  rcases qy hl' with hl' | rfl
  ·exact qd.1 hΛd l' hl'
  ·exact qd.1 hΛd (⟨t2,E,slH n c,Nums .i64 q⟩:Lc) (qa hl)) rfl
 unfold wpOp
 simp only [ho,Region.wanted,if_true]
 refine .inl (aY (v:=v) ?_ (hK v _ ⟨hst2.lo,hst2.defers,hst2.size,hst2.base,λ x hx=>hst2.vals x (qX _ hx),hst2.locs,hst2.dis⟩))
 simp only [execOp,resolve,invoke,builtin,Sem.run_bind,Sem.run_pure,Result.andThen_ok,jE,qN,x7,e1,e3,hr]
end
theorem oE {q:List Nat}:WkA (cat (q.map λ (k:Nat)=>InA k)) (Nums .i64 q):=⟨by
  show q.length=((q.map λ (k:Nat)=>InA k).map (·.n)).sum
  induction q with
  | nil=>rfl
  | cons x q ih=>rw [qN,qN,z4,← ih,zy]; exact xa q.length 1,rfl,λ B cs w h=>by
  have h':(cat ((q.map λ (k:Nat)=>(k:Int)).map InA)).p B cs w:=by rw [z6]; exact h
  exact o9 h'⟩
theorem tv {q:List Nat}:FreeA (cat (q.map λ (k:Nat)=>InA k)) (cat (q.map λ (k:Nat)=>InA k)):=bF (by
 induction q with
 | nil=>exact .nil
 | cons x q ih=>exact .cons (ce _ _) ih)
theorem St.asNew {B N:Nat}(h:St B w0 N Γ Λ a w){s r n:Nat}{g:Nat}{E:TypeId}{q:List Nat}(k ks kl:Nat)(hm:Γ[k]?=some (s,EqV (.slice (some ⟨g,0,none⟩) n n)))(hr:Γ[ks]?=some (r,EqV (.slice (some ⟨g,0,none⟩) n n)))(hl:Λ[kl]?=some ⟨r,E,slH n n,Nums .i64 q⟩)(hn:q.length=n):
  St B w0 N (Γ.set k (s,NewB E (q.map λ (k:Nat)=>InA k))) Λ a w:=by
 obtain ⟨g',cs,q1,q2,q3,q4⟩:=h.locs _ (qa hl)
 have e1:a.eval (.tmp r)=.slice (some ⟨g,0,none⟩) n n:=h.vals _ (qa hr)
 have e1':a.eval (.tmp r)=.slice (some ⟨g',0,none⟩) n n:=q1
 have hgp:g=g':=by rw [e1] at e1'; injection e1' with e1'; injection e1' with e1'; injection e1'
 subst hgp
 have hcs:cs=q.map λ (x:Nat)=>Value.int .i64 x:=q4
 refine ⟨h.lo,h.defers,h.size,h.base,λ x hx=>?_,h.locs,h.dis⟩
 rcases qy hx with hx | rfl
 ·exact h.vals x hx
 ·have e2:a.eval (.tmp s)=.slice (some ⟨g,0,none⟩) n n:=h.vals _ (qa hm)
  refine ⟨g,cs,by rw [qc,hn]; exact e2,h.lo g q2,by simpa using q3,?_⟩
  have:=cV (B:=B) (w:=w) (q.map λ (k:Nat)=>(k:Int))
  rw [z6,z6] at this
  rw [hcs]
  exact this
section
open Rg
variable {P:Program} {Q:Exit→Act→World→Prop} {R:Rg} {B i:Nat} {w0:Bs}
theorem AY {f:FuncId}{E:TypeId}{l:List As}{pre pre':List VA}{xs:List Operand}{at_:Array TypeId}(hc:Cn P f pre' (NewB E l))(hfree:FreeA (cat l) (cat l))(hup:All2 Up pre pre')(hx:HasL R B w0 i xs pre):Wv P Q R B w0 i (.call ⟨.value (.func f),xs.toArray,at_⟩) (NewR w0.w.heap.size E l):=by
 intro d T ps af gd a w av K hK
 obtain ⟨⟨fn,hf,hn,hb⟩,hcall⟩:=hc
 have hrun:(execOp a.eval ⟨some d,.call ⟨.value (.func f),xs.toArray,at_⟩,T,ps,af,gd⟩).run P w=.ok (.enter f (xs.map a.eval).toArray) w:=by
  simp only [execOp,resolve,Act.eval,Deferred.ofValue,Sem.run_bind,Sem.run_pure,Result.andThen_ok,invoke,bk hf hn hb]
  simp
 unfold Oper.wp
 rw [hrun]
 refine (hcall w.heap.size w _ (qi _) (Hj hup hx av)).mono λ e w' ⟨v,he,⟨g,ds,h1,h2,h3,h4⟩,hg⟩=>?_
 subst he
 exact hK v w' hg ⟨g,ds,h1,qe av.base.size h2,h3,hfree.2.2 _ _ _ _ (Av.bw av) h4⟩
theorem rX {t b n c:Nat}{E:TypeId}{l:List Nat}(j:Nat)(hj:R.sp[j]?=some (.adr t b .none True))(hji:(R.anc i).contains j=true)(hl:LocH R i b E (slH n c) (Nums .i64 l))(h:n=l.length∧n=c∧c≤2000):Has R B w0 i (.tmp t) (SlA E [] (l.map λ (k:Nat)=>InA k)).va:=λ a w av=>by
 obtain ⟨g,cs,e1,hgm,h3,h4⟩:=hl.ok av
 have h2:=av.d j t b .none True hji hj trivial
 have hcs:cs=l.map λ (x:Nat)=>Value.int .i64 x:=h4
 obtain ⟨rfl,rfl,hc⟩:=h
 refine ⟨[.slice (some ⟨g,0,none⟩) l.length l.length],⟨λ A hA T hT=>?_,_,l.length,cs,by simp,by simp,by unfold maxLen; omega,?_,λ _=>⟨g,0,rfl,(Array.getElem?_eq_some_iff.1 h3).1,.inr ⟨_,_,h3⟩,λ j u hu=>?_⟩⟩,h2.trans e1⟩
 ·obtain ⟨x,hx,rfl⟩:=qq.1 hA
  cases hT
 ·have h5:=cV (B:=B) (w:=w) (l.map λ (k:Nat)=>(k:Int))
  rw [z6,z6] at h5
  rw [hcs]
  exact h5
 ·rw [qO,cell_of_row w g j cs.toArray E _ h3]
  simpa using hu
end
def nxS (p a:Nat)(l:List Nat)(n:Nat):List Nat:=l.take n++(nxW p a n (l.drop n)).2
theorem FH (p a:Nat)(l:List Nat):nxS p a l l.length=l:=by unfold nxS; rw [qF,xg]; exact zj l
theorem nxS_s {p a:Nat}{l:List Nat}{i:Nat}(h:i<l.length):nxS p a l (i+1)=l.take i++l[i]::(nxW p a (i+1) (l.drop (i+1))).2:=by
 unfold nxS; rw [qu h,za]; rfl
theorem rN {l Z:List Nat}{i x:Nat}(hi:i<l.length)(hz:Z.length=l.length-(i+1)):i<(l.take i++x::Z).length:=by
 rw [qB,qY,zy]; omega
theorem wg {l Z:List Nat}{i x:Nat}(hi:i<l.length)(h:i<(l.take i++x::Z).length):(l.take i++x::Z)[i]=x:=by
 have e:(l.take i).length=i:=by rw [qY]; omega
 rw [List.getElem_append_right zo]
 simp [e]
theorem Dq {l Z:List Nat}{i x v:Nat}(hi:i<l.length):(l.take i++x::Z).set i v=l.take i++v::Z:=by
 rw [dW _ _ _ _ (by rw [qY]; omega)]; rfl
theorem nx_add {l Z:List Nat}{i x:Nat}(hi:i<l.length)(hx:x≤1000)(h:i<(l.take i++x::Z).length):IntKind.i64.wrap ((((l.take i++x::Z)[i]:Nat):Int)+1)=((x+1:Nat):Int):=by
 rw [wg hi]; exact (wi64 zo zo).trans zo
theorem nxW_t {p a:Nat}:∀ (l m:List Nat) (i:Nat),(nxW p a (i+l.length) m).1=true→nxW p a i (l++m)=(true,l++(nxW p a (i+l.length) m).2)
 | [],m,i,h=>by
  rw [xy,xF] at h
  rw [xb,xy,xF,xb,← h]
 | x::l,m,i,h=>by
  have e:i+1+l.length=i+(x::l).length:=by simp only [zy]; omega
  have ih:=nxW_t (p:=p) (a:=a) l m (i+1) (by rw [e]; exact h)
  rw [jf,nxW,ih,qz rfl,e]; rfl
theorem nx_yes {p a:Nat}{l:List Nat}{i:Nat}(hi:i<l.length)(ha:a≤i)(h:(nxW p a (i+1) (l.drop (i+1))).1=false)(hp:l[i]+1<p):nxW p a 0 l=(true,l.take i++(l[i]+1)::(nxW p a (i+1) (l.drop (i+1))).2):=by
 have e:nxW p a i (l.drop i)=(true,(l[i]+1)::(nxW p a (i+1) (l.drop (i+1))).2):=by
  rw [qG hi,nxW,qw (by rw [h]; decide),qw zo,qz hp]
 have h1:0+(l.take i).length=i:=by rw [qY]; omega
 have:=nxW_t (p:=p) (a:=a) (l.take i) (l.drop i) 0 (by rw [h1,e])
 rw [h1,e,xI] at this
 exact this
theorem nx_no {p a:Nat}{l:List Nat}{i:Nat}(hi:i<l.length)(ha:a≤i)(h:(nxW p a (i+1) (l.drop (i+1))).1=false)(hp:¬ l[i]+1<p):(nxW p a i (l.drop i)).1=false∧nxS p a l i=l.take i++0::(nxW p a (i+1) (l.drop (i+1))).2:=by
 have e:nxW p a i (l.drop i)=(false,0::(nxW p a (i+1) (l.drop (i+1))).2):=by
  rw [qG hi,nxW,qw (by rw [h]; decide),qw zo,qw hp]
 exact ⟨by rw [e],by unfold nxS; rw [e]⟩
theorem nx_end {p a:Nat}{l:List Nat}{n:Nat}(hn:n≤l.length)(ha:n≤a)(h:(nxW p a n (l.drop n)).1=false):nxW p a 0 l=(false,nxS p a l n):=by
 have h1:0+(l.take n).length=n:=by rw [qY]; omega
 have:=wh (p:=p) (a:=a) (l.take n) (l.drop n) 0 (by rw [h1]; exact ha)
 rw [h1,xI,h] at this
 exact this
theorem vH (p d:Nat)(l:List Nat)(hp:p≤64)(hlp:∀ x∈l,x<p)(hln:l.length≤1000)(hd:d≤1000):Cm Tryz.prog 33 3 (Nums .i64 l) (Nums .i64 (nxW p d 0 l).2) [.w (slH l.length l.length),.v (In (p:Nat)),.v (In (d:Nat))] (Bo (nxW p d 0 l).1):=by
 refine Cm.intro Tryz.func33 G zk nq (λ B g w0 a U=>?_)
 have U:=zn [(0,EqV ((slH l.length l.length).f g)),(1,In (p:Nat)),(2,In (d:Nat))] [⟨0,3,slH l.length l.length,Nums .i64 l⟩] U
 refine qb<|zg [η] [] [.v 6 _] [.g 0,.g 1,.g 2,.o 0] U (zv G (ac aJ) o0) (zz [(0,_),(1,_),(2,_),(6,_)] [⟨0,3,slH _ _,_⟩] λ a w U=>?_)
 refine zt<|qb<|zg [η] [] [.adr 8 0 .none True,.v 9 _,.v 10 _,.v 7 _] [.g 0,.g 1,.g 2,.g 3,.o 3] U (oc (ob_a G G cb) (zv G (Da 0 G zk (lz0 0 G) Tryz.underlying31) (zv G (c6 (vq 1 G) (aG 1 G) (wi64 zo zo)) (zA 2 G o0)))) (zz [(0,_),(1,_),(2,_),(6,_),(7,_)] [⟨0,3,slH _ _,_⟩] λ a w U=>?_)
 refine aa<|qj ?_
 have U:=St.sel U [0,1,2,4]
 refine wp_loop_ghost (λ n a w=>(n≤l.length∧(nxW p d n (l.drop n)).1=false)∧St B w0 31 [(0,EqV ((slH l.length l.length).f g)),(1,In (p:Nat)),(2,In (d:Nat)),(7,In ((n:Int)-1))] [⟨0,3,slH l.length l.length,Nums .i64 (nxS p d l n)⟩] a w) (l.length) ?_ ?_
 ·exact ⟨⟨qi _,by rw [xg]; rfl⟩,by rw [FH]; exact U⟩
 intro n a w hI
 obtain ⟨⟨hn,hnf⟩,U⟩:=hI
 refine qb<|qb<|zg [η] [] [.v 11 _,.v 12 _,.v 13 _] [.g 0,.g 1,.g 2,.g 3,.o 2] U (zM 3 G (zM 2 G (zv G (d9 (vq 0 G) (vq 1 G)) o0))) (zz [(0,_),(1,_),(2,_),(7,_),(13,_)] [⟨0,3,slH _ _,_⟩] λ a w U=>?_)
 refine aa<|aj U (zm 4 G) (λ hb0=>?_) (λ hb0=>?_)
 ·obtain ⟨i,rfl⟩:∃ i,n=i+1:=⟨n-1,by have:=qp hb0; omega⟩
  rw [show ((i+1:Nat):Int)-1=(i:Int) from by omega] at U
  have hil:i<l.length:=by omega
  have hai:d≤i:=by have:=qp hb0; omega
  have hlx:l[i]≤1000:=by have:=hlp _ (qf hil); omega
  have hzl:(nxW p d (i+1) (l.drop (i+1))).2.length=l.length-(i+1):=by rw [wi,je]
  rw [nxS_s hil] at U
  refine qh<|zt<|qj<|qb<|zg [some (6,_)] [] [.adr 16 0 .none True,.v 17 _,.adr 18 0 (.some _) True,.v 19 _,.v 20 _,.adr 21 0 (.some _) True,.sto 0] [.g 0,.g 1,.g 2,.g 3] U (oc (ob_a G G cb) (zM 3 G (oc (ob_a G G (dm 0 G zk (lz0 0 G) cP (vq 1 G) hil)) (zv G (iQ 2 G zk (lz0 0 G) (λ _=>bK _ _ _ _) (gI (rN hil hzl)) ty_3) (zv G (aN (vq 3 G) (aG 1 G) ((nx_add hil hlx _))) (oc (ob_a G G (dm 0 G zk (lz0 0 G) cP (vq 1 G) hil)) (oc (c7 5 G G G G zk (λ _=>bK _ _ _ _) (vq 4 G) ty_3 (br (rN hil hzl))) o0))))))) (zz [(0,_),(1,_),(2,_),(7,_)] [⟨0,3,slH _ _,_⟩] λ a w U=>?_)
  rw [Dq hil] at U
  have U:=zn [(0,_),(1,_),(2,_),(7,_)] [⟨0,3,slH _ _,_⟩] U
  refine zt<|qb<|zg [η] [] [.adr 22 0 .none True,.v 23 _,.adr 24 0 (.some _) True,.v 25 _,.v 26 _,.v 27 _] [.g 0,.g 1,.g 2,.g 3,.o 5] U (oc (ob_a G G cb) (zM 3 G (oc (ob_a G G (dm 0 G zk (lz0 0 G) cP (vq 1 G) hil)) (zv G (iQ 2 G zk (lz0 0 G) (λ _=>bK _ _ _ _) (gI (rN hil hzl)) ty_3) (zM 1 G (zv G (aS (vq 3 G) (vq 4 G)) o0)))))) (zz [(0,_),(1,_),(2,_),(7,_),(27,_)] [⟨0,3,slH _ _,_⟩] λ a w U=>?_)
  refine aa<|aj U (zm 4 G) (λ hb1=>?_) (λ hb1=>?_)
  ·rw [wg hil] at hb1
   have hq:l[i]+1<p:=by have:=qp hb1; omega
   refine qb<|zg [η] [] [.v 6 _] [.g 0,.g 1,.g 2,.g 3,.o 0] U (zv G (ac aJ) o0) (zz [(0,_),(1,_),(2,_),(7,_),(6,_)] [⟨0,3,slH _ _,_⟩] λ a w U=>?_)
   refine aa<|qg<|al ?_
   refine aE ?_
   refine al ?_
   refine al ?_
   refine aE ?_
   refine al ?_
   have e:=nx_yes hil hai hnf hq
   have U:=St.wkL (A':=Nums .i64 (nxW p d 0 l).2) U 0 rfl (dc (qm (Nums .i64) (by rw [e])))
   refine iN U (zm 0 G) (zm 0 G) ?_
   refine ao ?_ (an G U (zm 4 G))
   exact aZ (qm Bo (by rw [e]))
  ·rw [wg hil] at hb1
   have hq:¬ l[i]+1<p:=by have:=qr hb1; omega
   refine qh<|aa<|zg [some (3,_)] [] [.adr 28 0 .none True,.v 29 _,.adr 30 0 (.some _) True,.sto 0] [.g 0,.g 1,.g 2,.g 3] U (oc (ob_a G G cb) (zM 3 G (oc (ob_a G G (dm 0 G zk (lz0 0 G) cP (vq 1 G) hil)) (oc (c7 2 G G G G zk (λ _=>bK _ _ _ _) (aG 0 G) ty_3 (br (rN hil hzl))) o0)))) (zz [(0,_),(1,_),(2,_),(7,_)] [⟨0,3,slH _ _,_⟩] λ a w U=>?_)
   rw [Dq hil] at U
   have U:=zn [(0,_),(1,_),(2,_),(7,_)] [⟨0,3,slH _ _,_⟩] U
   refine ap ?_
   refine aa<|zg [η] [] [.v 14 _,.v 15 _,.v 7 _] [.g 0,.g 1,.g 2,.o 2] U (zM 3 G (zv G (c6 (vq 0 G) (aG 1 G) (wi64 zo zo)) (zA 1 G o0))) (zz [(0,_),(1,_),(2,_),(7,_)] [⟨0,3,slH _ _,_⟩] λ a w U=>?_)
   refine aa ?_
   have U:=St.sel U [0,1,2,3]
   exact ⟨i,by omega,⟨by omega,(nx_no hil hai hnf hq).1⟩,by rw [(nx_no hil hai hnf hq).2]; exact U⟩
 ·have hnd:n≤d:=by have:=qr hb0; omega
  refine qK<|am<|am<|aB<|zt<|zg [η] [] [.v 6 _] [.g 0,.o 0] U (zv G (ac aJ) o0) (zz [(0,_),(6,_)] [⟨0,3,slH _ _,_⟩] λ a w U=>?_)
  refine aa<|qg ?_
  have e:=nx_end hn hnd hnf
  have U:=St.wkL (A':=Nums .i64 (nxW p d 0 l).2) U 0 rfl (dc (qm (Nums .i64) (by rw [e])))
  refine iN U (zm 0 G) (zm 0 G) ?_
  refine ao ?_ (an G U (zm 1 G))
  exact aZ (qm Bo (by rw [e]))
theorem pk_new {b B g n:Nat}(h:(EqV (.slice (some ⟨g,0,none⟩) n n)).p B v w)(hq:PkR 3 g w (List.replicate n (0:Int)))(hb:b≤g):(NewR b 3 ((List.replicate n 0).map λ (k:Nat)=>InA k)).p B v w :=
 ⟨g,(List.replicate n (0:Int)).map λ (x:Int)=>Value.int .i64 x,by rw [qc,qW]; exact h,hb,hq,by
  have h2:=cV (B:=B) (w:=w) (List.replicate n (0:Int))
  rw [jo] at h2 ⊢
  exact h2⟩
theorem Bw:(Tryz.prog.info? 3).map (·.size)=some 1:=by kernel_rfl
theorem t6 {t:RTk}{u:List Nat}{nn:Nat}(hs:sloF t=(nn:Int))(hn:nn≤12)(hu:u.length≤nn):Cn Tryz.prog 31 [(TkA t).va,(SlA 3 [] (u.map λ (k:Nat)=>InA (k:Int))).va] (NewB 3 ((u++List.replicate (nn-u.length) 0).map λ (k:Nat)=>InA k)):=by
 refine Cn.intro Tryz.func31 G zk nq (λ B w0 a U=>?_)
 have U:=zn [(0,(TkA t).va),(1,(SlA 3 [] (u.map λ (k:Nat)=>InA (k:Int))).va)] [] U
 refine qb<|zg [] [⟨2,30,ptrH,some 0,_,none⟩] [.alc 0,.v 4 _] [.g 1,.o 1] U (zW 0 G (zv G (ac bc) o0)) (zz [(1,_),(4,_)] [O 2 30 _] λ a w U=>?_)
 refine zt<|cc (sp:=[.v 6 _,.v 7 _,.v 8 VT,.v 5 VT]) 2 2 99 2 OneC [.g 0,.g 1,.o 1] U (zl 0 G cN (zQ G ((gF t).wkp (aZ (qm In hs))) (.o (vq 0 G)) o0)) G zd zk zk (zz [(1,_),(4,_),(7,_)] [O 2 30 _] λ a w U=>?_)
 rw [show List.range' 2 2=[2,3] from rfl]
 have hsz1:=U.base.size
 rw [qA]
 refine Dl (n:=nn) 2 G U mk_si G zo zd zk zk (λ a W hp U hqp hge hgp=>?_)
 obtain ⟨w,rfl⟩:∃ x,x=W:=⟨_,rfl⟩
 have U:=St.setG (A':=NewR w0.w.heap.size 3 ((List.replicate nn 0).map λ (k:Nat)=>InA k)) U 0 rfl (λ h=>pk_new h hqp (qe hsz1 hge))
 have U:=St.toLoc U 0 rfl zk
 rw [qc,qW] at U
 have U:=St.wkL U 1 rfl oE
 obtain ⟨g8,U⟩:=St.nmH U 1 rfl
 have U:=zn [(8,_),(1,_),(4,_),(7,_)] [O 2 30 _,⟨8,3,slH nn nn,_⟩] U
 rw [qA]
 refine pi 0 G U G zd zk zk (λ a U=>?_)
 refine dS ?_
 have U:=zn [(5,_),(8,_),(1,_),(4,_),(7,_)] [O 2 30 _,⟨8,3,slH nn nn,_⟩] U
 refine zt<|cc (sp:=[.v 9 _,.v 10 _,.v 11 VT]) 2 1 99 2 OneC [.g 0,.g 1,.g 3,.o 0,.o 1] U (zM 0 G (zM 2 G o0)) G zd zk zk (zz [(5,_),(8,_),(4,_),(9,_),(10,_)] [O 2 30 _,⟨8,3,slH nn nn,_⟩] λ a w U=>?_)
 rw [show List.range' 2 1=[2] from rfl]
 rw [qA]
 refine op_cpL [0,1] 3 4 1 1 G U G G G G Tryz.underlying31 Bw G hu qW (qi _) zd zk zk zk zk (λ v w U=>?_)
 refine dS ?_
 have U:St B w0 13 [(5,_),(8,_)] [O 2 30 _,⟨8,3,slH nn nn,_⟩] _ w:=U
 rw [kW] at U
 refine zt<|zg [η,η] [] [.v 12 _,.v 4 _] [.g 0,.g 1,.o 1] U (zM 0 G (zA 0 G o0)) (zz [(5,_),(8,_),(4,_)] [O 2 30 _,⟨8,3,slH nn nn,_⟩] λ a w U=>?_)
 have U:=St.asNew U 2 1 1 rfl rfl rfl (by rw [qB,qW]; omega)
 have U:=zn [(5,_),(8,_),(4,_)] [O 2 30 _,⟨8,3,slH nn nn,_⟩] U
 refine aa<|qg<|ao ?_ (an G U (zm 2 G))
 exact aL
end Go.Proofs.YtedfcalhhldijaaGreatDoor
