import Derived.Test.YtckfapioofbfpaaGreatDoorBwAf
import Derived.Laws.CopyRow
set_option linter.all false
set_option maxRecDepth 100000
namespace Go.Proofs.YtckfapioofbfpaaGreatDoor
open Go Go.RowKit
variable {w:World}{B:Nat}{a:Act}{v:Value}{T:TypeId}{w0:Bs}{Γ:List (Nat × VA)}{Λ:List Lc}{ps:String}{af:Array Edge}{vr:Value}{H:Hd}{cs:List Value}{w':World}{P:Program}{D:List TypeId}
theorem hd_r (t:RTk):((((decide ((t.sp.length:Int)<2) || decide ((t.sp.length:Int)>13)) || decide ((t.ps.length:Int)<1)) || decide ((t.ps.length:Int)>64)) || !([t.tg].all okX))=hdF t:=by
 unfold hdF;simp only [jf,jt,jg];cases okX t.tg <;> simp
theorem sp_r (x:RF):((!([x].all okX)) || decide ((toQ x).num.sign<0)) = !spcF x:=by
 unfold spcF;simp only [jf,jt,jg];cases okX x <;> simp
theorem Iv {x:RF}(h:(!([x].all okX))=false):Cn Tryz.prog 40 [(RFA x).va] (In (toQ x).num.sign):=r2sign_q.wk (.cons (qa_x (by simpa using h) (qh _)).va .nil)
theorem Ng {ps:List RPt}{j:Nat}(hj:j<ps.length):dupB ((ps.take (j+1)).map RPt.nm)=(dupB ((ps.take j).map RPt.nm) || (ps.take j).any λ p=>decide (ps[j].nm=p.nm)):=by
 rw [qA hj,zT,qS,js,uk]
 congr 1
 rw [jk];simp only [qB,qK,qp,jy];constructor
 ·rintro ⟨s,⟨p,hp,rfl⟩,h⟩;exact ⟨p,hp,(ByteArray.ext (Array.toList_inj.1 h)).symm⟩
 ·rintro ⟨p,hp,h⟩;exact ⟨p.nm,⟨p,hp,rfl⟩,by rw [h]⟩
theorem Ki {ns:List ByteArray}{j:Nat}(h:dupB (ns.take j)=true):dupB ns=true:=by
 unfold dupB at h ⊢;simp only [qz,qm] at h ⊢;exact λ hn=>h (hn.sublist ((List.take_sublist j ns).map _))
theorem Q4 {q:RPt→Bool}{xs:List RPt}{k j:Nat}(hk:k<j)(hj:j<xs.length)(h:q xs[k]=true):(xs.take j).any q=true:=jy.2 ⟨xs[k],List.mem_take_iff_getElem.2 ⟨k,by omega,rfl⟩,h⟩
theorem Q5 {q:RPt→Bool}{xs:List RPt}{j:Nat}(hj:j<xs.length)(h1:(xs.take j).any q=false)(h2:q xs[j]=false):(xs.take (j+1)).any q=false:=by
 rw [qA hj,k6,h1];simp [h2]
set_option maxHeartbeats 1000000 in
theorem nr (t:RTk):Cn Tryz.prog 11 [(TkA t).va] (In (ckF t)):=by
 refine Cn.intro Tryz.func11 G zk nq (zy [(0,(TkA t).va)] λ B w0 a U=>?_);refine qb<|zg [] Ry Us Ut U (zW 0 G (zE G ab)) (zz Uu Rz λ a w U=>?_);refine zt<|qb<|gl (sts:=[none]) (news:=[]) (sp:=((.adr 7 1 (.some 0) True:Sp)::(.v 8 _)::(.v 9 _)::(.v 10 _)::(.v 11 _)::(.adr 12 1 (.some 0) (_=false))::(.f 13 _)::(.f 14 _)::(.f 15 _)::(.v 16 _)::(.v 17 _)::(.adr 18 1 (.some 1) (_=false))::(.f 19 _)::(.f 20 _)::(.f 21 _)::(.v 22 _)::(.v 23 _)::(.adr 24 1 (.some 1) (_=false))::(.f 25 _)::(.f 26 _)::(.f 27 _)::(.v 28 _)::(.v 29 _)::(.adr 30 1 (.some 2) (_=false))::(.f 31 _)::(.f 32 _)::(.f 33 _)::(.f 34 _)::(.v 35 _)::[])) [.g 0,.o 28] U (zO 0 G ca (zL 0 0 0 G fc (zv G (bn qQ (vq 1 G)) (zv G (aO (vq 2 G) ab) (zV 3 G (zC 4 0 G ca (zB 4 G (λ hg=>aC 5 G zk hg (lz0 0 G) (Sub.part 0 G G) fc) (zB 4 G (λ hg=>bn qQ (ae (vq 6 G) hg)) (zB 4 G (λ hg=>cD (ae (vq 7 G) hg) ab) (zv G (r_or (vq 4 G) (vq 8 G)) (zV 9 G (zC 10 0 G bK (zB 10 G (λ hg=>aC 11 G zk hg (lz0 0 G) (Sub.part 1 G G) dW) (zB 10 G (λ hg=>bn qM (ae (vq 12 G) hg)) (zB 10 G (λ hg=>aO (ae (vq 13 G) hg) ab) (zv G (r_or (vq 10 G) (vq 14 G)) (zV 15 G (zC 16 0 G bK (zB 16 G (λ hg=>aC 17 G zk hg (lz0 0 G) (Sub.part 1 G G) dW) (zB 16 G (λ hg=>bn qM (ae (vq 18 G) hg)) (zB 16 G (λ hg=>cD (ae (vq 19 G) hg) ab) (zv G (r_or (vq 16 G) (vq 20 G)) (zV 21 G (zC 22 0 G ek (zB 22 G (λ hg=>aC 23 G zk hg (lz0 0 G) (Sub.part 2 G G) au) (zB 22 G (λ hg=>bW (D:=[U32]) (l:=[_]) (xs:=[.tmp 31]) (dh zk) db zk (n_ok zk) nq nq nq (.o (ae (vq 24 G) hg)) G G) (zB 22 G (λ hg=>ba (iQ [t.tg] nq) (.o (ae (vq 25 G) hg))) (zB 22 G (λ hg=>er (ae (vq 26 G) hg)) (zv G (r_or (vq 22 G) (vq 27 G)) o0))))))))))))))))))))))))))))) (zz (Wc 2 35) Rz λ a w U=>?_);refine zJ 1 U G (λ hb0=>?_) (λ hb0=>?_)
 ·have hd:hdF t=true:=by simp only [qd] at hb0;rw [← hd_r];exact hb0
  refine qb<|zg U3 [] Ux WZ U (zE G ab) (zz Uu Rz λ a w U=>?_);refine aa<|qi<|aj ?_;refine am ?_ (ak G U (zm 0 G));rw [ckF,qC hd];exact aM
 ·have hd:hdF t=false:=by simp only [qd] at hb0;rw [← hd_r];exact hb0
  obtain ⟨hs2,hs13,hp1,hp64,htg⟩:=hd_b hd;refine qj<|zt<|qb<|zg U3 [] Rr UZ U (zE G ab) (zz (Wc 2 3) Rz λ a w U=>?_);refine aa<|qk ?_;have U:=St.sel U [1];refine wp_loop_ghost (λ n a w=>∃ j:Nat,(n+j=t.sp.length∧(t.sp.take j).all spcF=true)∧St B w0 106 [(3,In (j:Nat))] [⟨1,30,ptrH,TkA t⟩] a w) (t.sp.length) ?_ ?_
  ·exact ⟨0,⟨by omega,rfl⟩,U⟩
  intro n a w hI;obtain ⟨j,⟨hn,hno⟩,U⟩:=hI;refine qb<|qb<|zg U3 [] (.v 36 _::.adr 37 1 (.some 0) True::(Wb 38)) Uw U (zM 0 G (zO 0 G ca (zL 1 0 0 G fc (zv G (bn qQ (vq 2 G)) (zv G (aO (vq 0 G) (vq 3 G)) o0))))) (zz (Wc 3 40) Rz λ a w U=>?_);refine zJ 1 U G (λ hb1=>?_) (λ hb1=>?_)
  ·have hj:j<t.sp.length:=by rw [qd] at hb1;have:=qu hb1;omega
   refine qj<|zt<|qk<|qb<|zg U3 [] (.adr 43 1 (.some 0) True::(W9 44 [.adr 52 1 (.some 0) (_=false),.f 53 _,.f 54 _,.f 55 _,.f 56 _,.f 57 _,.f 58 _,.v 59 _])) [.g 0,.o 16] U (zO 0 G ca (zL 0 0 0 G fc (zM 0 G (zv G (bM db (cc λ _=>rfl) (vq 1 G) (vq 2 G) (bG hj)) (zv G (ap (vq 3 G) au) (zv G (bW (D:=[U32]) (l:=[_]) (xs:=[.tmp 47]) (dh zk) db zk (n_ok zk) nq nq nq (.o (vq 4 G)) G G) (zQ G (iQ [t.sp[j]] nq) (.o (vq 5 G)) (zv G (er (vq 6 G)) (zV 7 G (zC 8 0 G ca (zB 8 G (λ hg=>aC 9 G zk hg (lz0 0 G) (Sub.part 0 G G) fc) (zB 8 G (λ hg=>aA (gq 0 G)) (zB 8 G (λ hg=>bM db (cc λ _=>rfl) (ae (vq 10 G) hg) (ae (vq 11 G) hg) (bG hj)) (zB 8 G (λ hg=>ap (ae (vq 12 G) hg) au) (zB 8 G (λ hg=>ba (Iv hg) (.o (ae (vq 13 G) hg))) (zB 8 G (λ hg=>aO (ae (vq 14 G) hg) ab) (zv G (r_or (vq 8 G) (vq 15 G)) o0))))))))))))))))) (zz (Wc 3 59) Rz λ a w U=>?_);refine zJ 1 U G (λ hb2=>?_) (λ hb2=>?_)
   ·have hq:spcF t.sp[j]=false:=by have h:=hb2;rw [sp_r] at h;simpa using h
    refine qb<|zg U3 [] Ux UZ U (zE G ab) (zz (Wc 3 2) Rz λ a w U=>?_);refine aa<|qi<|aD ?_;refine aj ?_;refine aj ?_;refine aD ?_;refine aj ?_;refine am ?_ (ak G U (zm 1 G));rw [NC hd (mK hj hq)];exact aM
   ·have hq:spcF t.sp[j]=true:=by have h:=hb2;rw [sp_r] at h;simpa using h
    refine qj<|al ?_;refine aa<|zg U3 [] (W6 41 [.v 3 _]) U9 U (zM 0 G (zv G (aL (vq 0 G) ab ((wi64 zo zo).trans (by omega:(_:Int)=((j+1:Nat):Int)))) (zA 1 G o0))) (zz Rn Rz λ a w U=>?_);refine aa ?_;have U:=St.sel U [0];exact ⟨n-1,by omega,j+1,⟨by omega,mL hj hno hq⟩,U⟩
  ·obtain rfl:j=t.sp.length:=by rw [qd] at hb1;have:=qw hb1;omega
   rw [qJ] at hno;have hsp:=hno;refine qP<|ai<|ai<|az<|zt<|qb<|zg U3 [] WP WZ U (zE G ab) (zz U0 Rz λ a w U=>?_);refine aa<|qk ?_;have U:=St.sel U [0];refine wp_loop_ghost (λ n a w=>∃ j:Nat,(n+j=t.ps.length∧(t.ps.take j).all ptF=true)∧St B w0 106 [(4,In (j:Nat))] [⟨1,30,ptrH,TkA t⟩] a w) (t.ps.length) ?_ ?_
   ·exact ⟨0,⟨by omega,rfl⟩,U⟩
   intro n a w hI;obtain ⟨j,⟨hn,hno⟩,U⟩:=hI;refine qb<|qb<|zg U3 [] (.v 60 _::.adr 61 1 (.some 1) True::(Wb 62)) Uw U (zM 0 G (zO 0 G bK (zL 1 0 1 G dW (zv G (bn qM (vq 2 G)) (zv G (aO (vq 0 G) (vq 3 G)) o0))))) (zz (Wc 4 64) Rz λ a w U=>?_);refine zJ 1 U G (λ hb3=>?_) (λ hb3=>?_)
   ·have hj:j<t.ps.length:=by rw [qd] at hb3;have:=qu hb3;omega
    refine qj<|zt<|qk<|qb<|zg U3 [] (.adr 67 1 (.some 1) True::(Wl 68)) [.g 0,.o 6] U (zO 0 G bK (zL 0 0 1 G dW (zM 0 G (zv G (bM fg (cc λ _=>rfl) (vq 1 G) (vq 2 G) (bG hj)) (zv G (ap (vq 3 G) gI) (zQ G (Au _) (.o (vq 4 G)) (zv G (er (vq 5 G)) o0))))))) (zz (Wc 4 73) Rz λ a w U=>?_);refine zJ 1 U G (λ hb4=>?_) (λ hb4=>?_)
    ·have hq:ptF t.ps[j]=false:=by simpa using hb4
     refine qb<|zg U3 [] Ux UZ U (zE G ab) (zz (Wc 4 2) Rz λ a w U=>?_);refine aa<|qi<|aD ?_;refine aj ?_;refine aj ?_;refine aD ?_;refine aj ?_;refine am ?_ (ak G U (zm 1 G));rw [ND hd hsp (mK hj hq)];exact aM
    ·have hq:ptF t.ps[j]=true:=by simpa using hb4
     refine qj<|al ?_;refine aa<|zg U3 [] (W6 65 [.v 4 _]) U9 U (zM 0 G (zv G (aL (vq 0 G) ab ((wi64 zo zo).trans (by omega:(_:Int)=((j+1:Nat):Int)))) (zA 1 G o0))) (zz U0 Rz λ a w U=>?_);refine aa ?_;have U:=St.sel U [0];exact ⟨n-1,by omega,j+1,⟨by omega,mL hj hno hq⟩,U⟩
   ·obtain rfl:j=t.ps.length:=by rw [qd] at hb3;have:=qw hb3;omega
    rw [qJ] at hno;have hps:=hno;refine qP<|ai<|ai<|az<|zt<|qb<|zg U3 [] UU WZ U (zE G ab) (zz [(5,_)] Rz λ a w U=>?_);refine aa<|qk ?_;have U:=St.sel U [0];refine wp_loop_ghost (λ n a w=>∃ j:Nat,(n+j=t.ps.length∧dupB ((t.ps.take j).map RPt.nm)=false)∧St B w0 106 [(5,In (j:Nat))] [⟨1,30,ptrH,TkA t⟩] a w) (t.ps.length) ?_ ?_
    ·exact ⟨0,⟨by omega,rfl⟩,U⟩
    intro n a w hI;obtain ⟨j,⟨hn,hno⟩,U⟩:=hI;obtain ⟨N,rfl⟩:∃ N,N=n:=⟨n,rfl⟩;refine qb<|qb<|zg U3 [] (.v 74 _::.adr 75 1 (.some 1) True::(Wb 76)) Uw U (zM 0 G (zO 0 G bK (zL 1 0 1 G dW (zv G (bn qM (vq 2 G)) (zv G (aO (vq 0 G) (vq 3 G)) o0))))) (zz (Wc 5 78) Rz λ a w U=>?_);refine zJ 1 U G (λ hb5=>?_) (λ hb5=>?_)
    ·have hj:j<t.ps.length:=by rw [qd] at hb5;have:=qu hb5;omega
     refine qj<|zt<|qk<|qb<|zg U3 [] U2 UZ U (zE G ab) (zz (Wc 5 6) Rz λ a w U=>?_);refine aa<|qk ?_;have U:=St.sel U [0,1];refine wp_loop_ghost (λ n a w=>∃ k:Nat,(n+k=j∧(t.ps.take k).any (λ p=>decide ((t.ps[j]'hj).nm=p.nm))=false)∧St B w0 106 [(5,In (j:Nat)),(6,In (k:Nat))] [⟨1,30,ptrH,TkA t⟩] a w) (j) ?_ ?_
     ·exact ⟨0,⟨by omega,rfl⟩,U⟩
     intro n a w hI;obtain ⟨k,⟨hnk,hna⟩,U⟩:=hI;refine qb<|qb<|zg U3 [] (Wb 81) WY U (zM 1 G (zM 0 G (zv G (aO (vq 0 G) (vq 1 G)) o0))) (zz (Wa 5 6 83) Rz λ a w U=>?_);refine zJ 2 U G (λ hb6=>?_) (λ hb6=>?_)
     ·have hk:k<j:=by have:=qu hb6;omega
      have hkp:k<t.ps.length:=by omega
      refine qj<|zt<|qk<|qb<|zgd [[],[0],[],[0,1,2],(Wm 4),(Wm 5),[],[6],[],[6,7,8],[6,7,8,9],[6,7,8,9,10],(Wm 12)] U1 [] (.adr 86 1 (.some 1) True::(Wd 87 (.adr 92 1 (.some 1) True::(Wl 93)))) (We [.o 12]) ac U (zO 0 G bK (zL 0 0 1 G dW (zM 0 G (zv G (bM fg (cc λ _=>rfl) (vq 1 G) (vq 2 G) (bG hj)) (zv G (bP (vq 3 G) dK (Sub.part 0 G G)) (zv G (ap (vq 4 G) ty_9) (zO 0 G bK (zL 6 0 1 G dW (zM 1 G (zv G (bM fg (cc λ _=>rfl) (vq 7 G) (vq 8 G) (bG hkp)) (zv G (bP (vq 9 G) dK (Sub.part 0 G G)) (zv G (ap (vq 10 G) ty_9) (zv G (Gf (vq 5 G) (vq 11 G)) o0))))))))))))) zk zk zk zk (zz (Wa 5 6 98) Rz λ a w U=>?_);refine zJ 2 U G (λ hb7=>?_) (λ hb7=>?_)
      ·have hdu:dupB (t.ps.map RPt.nm)=true:=Ki (j:=j+1) (by rw [← List.map_take,Ng hj,Q4 hk hj hb7,vw]);refine qb<|zg U3 [] Ux WQ U (zE G ab) (zz (Wa 5 6 2) Rz λ a w U=>?_);refine aa<|qi<|aD ?_;refine aj ?_;refine aj ?_;refine aD ?_;refine aD ?_;refine aj ?_;refine aj ?_;refine aD ?_;refine aj ?_;refine am ?_ (ak G U (zm 2 G));rw [NE hd hsp hps hdu];exact aM
      ·have hq:=hb7;refine qj<|al ?_;refine aa<|zg U3 [] (W6 84 [.v 6 _]) Ue U (zM 1 G (zv G (aL (vq 0 G) ab ((wi64 zo zo).trans (by omega:(_:Int)=((k+1:Nat):Int)))) (zA 1 G o0))) (zz (Wc 5 6) Rz λ a w U=>?_);refine aa ?_;have U:=St.sel U [0,1];exact ⟨n-1,by omega,k+1,⟨by omega,Q5 zo hna hq⟩,U⟩
     ·obtain rfl:j=k:=by have:=qw hb6;omega
      refine qP<|ai<|ai<|az<|al ?_;refine aa<|zg U3 [] (W6 79 [.v 5 _]) U9 U (zM 0 G (zv G (aL (vq 0 G) ab ((wi64 zo zo).trans (by omega:(_:Int)=((j+1:Nat):Int)))) (zA 1 G o0))) (zz [(5,_)] Rz λ a w U=>?_);refine aa ?_;have U:=St.sel U [0];exact ⟨N-1,by omega,j+1,⟨by omega,by rw [Ng hj,hno,hna];rfl⟩,U⟩
    ·obtain rfl:j=t.ps.length:=by rw [qd] at hb5;have:=qw hb5;omega
     rw [qJ] at hno;have hdu:=hno;refine qP<|ai<|ai<|az<|zt<|qb<|zgd [[],[0],[0,1],[],[3],(Wm 5),(Wm 6)] U1 [] (.adr 99 1 (.some 1) True::(Wl 100)) [.o 6] ac U (zO 0 G bK (zL 0 0 1 G dW (zv G (bn qM (vq 1 G)) (zl 0 G cU (zQ G (np t) (.o (vq 3 G)) (zQ G ((At t.ps.length (t.sp.length-1) zo zo).wk (.cons (bf (qt (λ z:Nat=>In (z:Int)) (qd _))) (.cons (bf (qt In (Dq hs2 hs13))) .nil))) (.p (vq 2 G) (vq 4 G)) (zv G (cD (vq 5 G) ab) o0))))))) zk zk zk zk (zz [(105,_)] Rz λ a w U=>?_);refine zJ 0 U G (λ hb8=>?_) (λ hb8=>?_)
     ·rw [FZ0 zo] at hb8;refine qb<|zg U3 [] Ux WZ U (zE G ab) (zz Uu Rz λ a w U=>?_);refine aa<|qi<|aj ?_;refine am ?_ (ak G U (zm 0 G));rw [Fu hd hsp hps hdu,qC hb8];exact aM
     ·rw [FZ0 zo] at hb8;refine qj<|zt<|zg U3 [] Ux WZ U (zE G ab) (zz Uu Rz λ a w U=>?_);refine aa<|qi<|am ?_ (ak G U (zm 0 G));rw [Fu hd hsp hps hdu,qy (by rw [hb8];decide)];exact aM
theorem qm4 {c1 c2 c3 c4 k:Nat}{x y z u:Rat}(h1:c1≤k)(h2:c2≤k)(h3:c3≤k)(h4:c4≤k):WkA (cat [QA c1 x,QA c2 y,QA c3 z,QA c4 u]) (QMA k ⟨x,y,z,u⟩):=bi (.cons (bY h1) (.cons (bY h2) (.cons (bY h3) (.cons (bY h4) .nil))))
theorem AB {k k':Nat}{m:MQ}(h:k≤k'):WkA (QMA k m) (QMA k' m):=bi (.cons (bY h) (.cons (bY h) (.cons (bY h) (.cons (bY h) .nil))))
theorem PB {x:RE}(h:x.k=1):elM x=⟨1,toQ x.p,0,1⟩:=by unfold elM;rw [h];rfl
theorem PA {x:RE}(h:x.k=2):elM x=⟨1,0,0-toQ x.p,1⟩:=by unfold elM;rw [h];rfl
theorem Pz {x:RE}(h:x.k=3):elM x=⟨1,toQ x.p/toQ x.q,0,1⟩:=by unfold elM;rw [h];rfl
theorem Py {x:RE}(h:x.k=4):elM x=⟨1,0,0-toQ x.p*toQ x.q,1⟩:=by unfold elM;rw [h];rfl
theorem Px {x:RE}(h1:¬ x.k=1)(h2:¬ x.k=2)(h3:¬ x.k=3)(h4:¬ x.k=4):elM x=⟨0-1,0-0,0-0,0-1⟩:=by unfold elM elQ;rw [qy h1,qy h2,qy h3,qy h4]
theorem OY {x:RE}(hk:x.k=1∨x.k=2∨(x.k=3∧toQ x.q≠0)∨x.k=4∨x.k=5)(h:x.k=3):toQ x.q≠0:=by
 rcases hk with e|e|⟨_,e⟩|e|e
 ·omega
 ·omega
 ·exact e
 ·omega
 ·omega
theorem tv {c d e f:Nat}{x y z u:Rat}(hk:c+d+e+f≤900000000):Cn Tryz.prog 194 [Qs c x,Qs d y,Qs e z,Qs f u] (Qs (c+d+(e+f)+1) (x*y+z*u)):=by
 refine Cn.intro Tryz.func194 G zk nq (zy [(0,Qs c x),(1,Qs d y),(2,Qs e z),(3,Qs f u)] λ B w0 a U=>?_);refine qb<|zg [] [zpL 4 28 0 _,zpL 5 28 1 _,zpL 6 28 2 _,zpL 7 28 3 _,zpL 8 28 4 _] [.alc 0,.alc 1,.alc 2,.alc 3,.alc 4] [] U (zW 0 G (zW 1 G (zW 2 G (zW 3 G (zY G (Str.zero aQ) o0))))) (zz [] [O 4 28 _,O 5 28 _,O 6 28 _,O 7 28 _,O 8 28 _] λ a w U=>?_);refine zt<|zgd [[],[],[0,1],[],[],(Wm 5),(Wm 6),(Wm 7)] [none,none,none,none,some (7,_)] [] (WG 9 [.sto 4]) [] ac U (zl 0 G au (zl 1 G au (zQ G (mf zo) (.p (vq 0 G) (vq 1 G)) (zl 2 G au (zl 3 G au (zQ G (mf zo) (.p (vq 3 G) (vq 4 G)) (zQ G (nW zo) (.p (vq 2 G) (vq 5 G)) (zS 6 G au o0)))))))) zk zk zk zk (zz [] [O 4 28 _,O 5 28 _,O 6 28 _,O 7 28 _,O 8 28 _] λ a w U=>?_);refine aa<|qi<|am ?_ (ax G U (zm 4 G) au);exact aM
theorem DZ {c:Nat}{x:Rat}(hc:c≤800000000):Cn Tryz.prog 229 [Qs c x] (Qs (c+2+1) x):=by
 refine Cn.intro Tryz.func229 G zk nq (zy [(0,Qs c x)] λ B w0 a U=>?_);refine qb<|zg [] Rf UQ [] U (zW 0 G (zY G (Str.zero aQ) o0)) (zz [] Rh λ a w U=>?_);refine zt<|zgd US UT [] (Wb 3 [.sto 1]) [] ac U (zl 0 G au (zQ G cP .nil (zQ G (nW zo) (.p (vq 0 G) (vq 1 G)) (zS 2 G au o0)))) zk zk zk zk (zz [] Rh λ a w U=>?_);refine aa<|qi<|am ?_ (ax G U (zm 1 G) au);exact bf (qt (Qs _) (Rat.add_zero x))
theorem fi {c:Nat}{x:Rat}(hc:c≤800000000):Cn Tryz.prog 230 [Qs c x] (Qs (2+c+1) (0-x)):=by
 refine Cn.intro Tryz.func230 G zk nq (zy [(0,Qs c x)] λ B w0 a U=>?_);refine qb<|zg [] Rf UQ [] U (zW 0 G (zY G (Str.zero aQ) o0)) (zz [] Rh λ a w U=>?_);refine zt<|zgd US UT [] (Wb 3 [.sto 1]) [] ac U (zQ G cP .nil (zl 0 G au (zQ G (pE zo) (.p (vq 0 G) (vq 1 G)) (zS 2 G au o0)))) zk zk zk zk (zz [] Rh λ a w U=>?_);refine aa<|qi<|am ?_ (ax G U (zm 1 G) au);exact aM
theorem mi {c d e f:Nat}{x y z u:Rat}:Cn Tryz.prog 228 [Qs c x,Qs d y,Qs e z,Qs f u] ((cat [QA c x,QA d y,QA e z,QA f u]).va):=by
 refine Cn.intro Tryz.func228 G zk nq (zy [(0,Qs c x),(1,Qs d y),(2,Qs e z),(3,Qs f u)] λ B w0 a U=>?_);refine qb<|zg [] [zpL 4 28 0 _,zpL 5 28 1 _,zpL 6 28 2 _,zpL 7 28 3 _,zpL 8 128 4 _] [.alc 0,.alc 1,.alc 2,.alc 3,.alc 4] [] U (zW 0 G (zW 1 G (zW 2 G (zW 3 G (zY G (Str.zero cN) o0))))) (zz [] [O 4 28 _,O 5 28 _,O 6 28 _,O 7 28 _,O 8 128 _] ?_);refine ztA<|zgA [none,none,none,none,some (5,_)] [] (Wd 9 [.sto 4]) [] (zl 0 G au (zl 1 G au (zl 2 G au (zl 3 G au (zv G (aS (qs:=[(0,_),(1,_),(2,_),(3,_)]) cN (.cons ⟨rfl,vq 0 rfl,rfl⟩ (.cons ⟨rfl,vq 1 rfl,rfl⟩ (.cons ⟨rfl,vq 2 rfl,rfl⟩ (.cons ⟨rfl,vq 3 rfl,rfl⟩ .nil))))) (zS 4 G cM o0)))))) (zz [] [O 4 28 _,O 5 28 _,O 6 28 _,O 7 28 _,O 8 128 _] λ a w U=>?_);refine aa<|qi<|am ?_ (ax G U (zm 4 G) cM);exact aM
theorem nt {c:Nat}{x:Rat}(hc:c≤800000000):Cn Tryz.prog 195 [Qs c x] ((QMA (c+3) ⟨1,x,0,1⟩).va):=by
 refine Cn.intro Tryz.func195 G zk nq (zy [(0,Qs c x)] λ B w0 a U=>?_);refine qb<|zg [] [zpL 1 28 0 _,zpL 2 128 1 _] UQ [] U (zW 0 G (zY G (Str.zero cN) o0)) (zz [] RY λ a w U=>?_);refine zt<|zgd [[],[],[0,1],[0,1,2],(Wm 4),(Wm 5),(Wm 6)] Ru [] (Wl 3 [.sto 1]) [] ac U (zQ G gw .nil (zl 0 G au (zQ G (DZ zo) (.o (vq 1 G)) (zQ G cP .nil (zQ G gw .nil (zQ G mi (.cons (vq 0 G) (.cons (vq 2 G) (.p (vq 3 G) (vq 4 G)))) (zS 5 G cM o0))))))) zk zk zk zk (zz [] RY λ a w U=>?_);refine aa<|qi<|am ?_ (ax G U (zm 1 G) cM);exact (qm4 zo zo zo zo).va
theorem pG {c:Nat}{x:Rat}(hc:c≤800000000):Cn Tryz.prog 196 [Qs c x] ((QMA (c+3) ⟨1,0,0-x,1⟩).va):=by
 refine Cn.intro Tryz.func196 G zk nq (zy [(0,Qs c x)] λ B w0 a U=>?_);refine qb<|zg [] [zpL 1 28 0 _,zpL 2 128 1 _] UQ [] U (zW 0 G (zY G (Str.zero cN) o0)) (zz [] RY λ a w U=>?_);refine zt<|zgd [[],[0],[],[0,1,2],(Wm 4),(Wm 5),(Wm 6)] Ru [] (Wl 3 [.sto 1]) [] ac U (zQ G gw .nil (zQ G cP .nil (zl 0 G au (zQ G (fi zo) (.o (vq 2 G)) (zQ G gw .nil (zQ G mi (.cons (vq 0 G) (.cons (vq 1 G) (.p (vq 3 G) (vq 4 G)))) (zS 5 G cM o0))))))) zk zk zk zk (zz [] RY λ a w U=>?_);refine aa<|qi<|am ?_ (ax G U (zm 1 G) cM);exact (qm4 zo zo zo zo).va
theorem rX {c:Nat}{m:MQ}(hc:c≤800000000):Cn Tryz.prog 199 [(QMA c m).va] ((QMA (c+3) ⟨0-m.a,0-m.b,0-m.c,0-m.d⟩).va):=by
 refine Cn.intro Tryz.func199 G zk nq (zy [(0,(QMA c m).va)] λ B w0 a U=>?_);refine qb<|zg [] [zpL 1 128 0 _,zpL 2 128 1 _] UQ [] U (zW 0 G (zY G (Str.zero cN) o0)) (zz [] [O 1 128 _,O 2 128 _] λ a w U=>?_);refine zt<|zgd [[],[0],[0,1],[],[3],(Wm 5),[],[6],(Wm 8),[],[9],(Wm 11),(Wm 12),(Wm 13)] [none,some (13,_)] [] (.adr 3 1 (.some 0) True::(W6 4 (.adr 6 1 (.some 4) True::(W6 7 (.adr 9 1 (.some 8) True::(W6 10 (.adr 12 1 (.some 12) True::(Wb 13 [.sto 1])))))))) [] ac U (zO 0 G rg (zL 0 0 0 G au (zQ G (fi zo) (.o (vq 1 G)) (zO 0 G rf (zL 3 0 1 G au (zQ G (fi zo) (.o (vq 4 G)) (zO 0 G rc (zL 6 0 2 G au (zQ G (fi zo) (.o (vq 7 G)) (zO 0 G rb (zL 9 0 3 G au (zQ G (fi zo) (.o (vq 10 G)) (zQ G mi (.cons (vq 2 G) (.cons (vq 5 G) (.p (vq 8 G) (vq 11 G)))) (zS 12 G cM o0)))))))))))))) zk zk zk zk (zz [] [O 1 128 _,O 2 128 _] λ a w U=>?_);refine aa<|qi<|am ?_ (ax G U (zm 1 G) cM);exact (qm4 zo zo zo zo).va
theorem Ix {x:RE}(h:elF x=true):Cn Tryz.prog 123 [(REA x).va] ((QMA 4099 (elM x)).va):=by
 obtain ⟨hx,hk⟩:=iq h;refine Cn.intro Tryz.func123 G zk nq (zy [(0,(REA x).va)] λ B w0 a U=>?_);refine qb<|zg [] [zpL 1 91 0 _,zpL 2 128 1 _] UQ [] U (zW 0 G (zY G (Str.zero cN) o0)) (zz [] RZ λ a w U=>?_);have U:=St.wkL U 0 rfl (el_q hx);refine zt<|qb<|zg UE [] [.adr 3 1 (.some 0) True,.v 4 _] Ut U (zO 0 G ei (zL 0 0 0 G pi o0)) (zz U0 RZ λ a w U=>?_);refine aa<|qk<|qb<|zg UE [] [.v 6 _,.v 5 _] UY U (zv G (bF (gq 0 G) ab) (zA 0 G o0)) (zz (Wc 4 5) RZ λ a w U=>?_);refine zJ 1 U G (λ hb0=>?_) (λ hb0=>?_)
 ·have hk1:x.k=1:=by simpa using hb0
  refine qb<|zg [η,some (3,_)] [] (.adr 7 1 (.some 1) True::(W6 8 [.sto 1])) [] U (zO 0 G c6 (zL 0 0 1 G au (zQ G (nt zo) (.o (vq 1 G)) (zS 2 G cM o0)))) (zz [] RZ λ a w U=>?_);refine aa<|qi<|aD ?_;refine aj ?_;refine am ?_ (ax G U (zm 1 G) cM);rw [PB hk1];exact (AB zd).va
 ·have hk1:¬ x.k=1:=by simpa using hb0
  refine qb<|zg UE [] [.v 11 _,.v 10 _] UY U (zv G (bF (gq 0 G) ab) (zA 0 G o0)) (zz (Wc 4 10) RZ λ a w U=>?_);refine zJ 1 U G (λ hb1=>?_) (λ hb1=>?_)
  ·have hk2:x.k=2:=by simpa using hb1
   refine qb<|zg [η,some (3,_)] [] (.adr 12 1 (.some 1) True::(W6 13 [.sto 1])) [] U (zO 0 G c6 (zL 0 0 1 G au (zQ G (pG zo) (.o (vq 1 G)) (zS 2 G cM o0)))) (zz [] RZ λ a w U=>?_);refine aa<|qi<|aD ?_;refine aj ?_;refine am ?_ (ax G U (zm 1 G) cM);rw [PA hk2];exact (AB zd).va
  ·have hk2:¬ x.k=2:=by simpa using hb1
   refine qb<|zg UE [] [.v 16 _,.v 15 _] UY U (zv G (bF (gq 0 G) ab) (zA 0 G o0)) (zz (Wc 4 15) RZ λ a w U=>?_);refine zJ 1 U G (λ hb2=>?_) (λ hb2=>?_)
   ·have hk3:x.k=3:=by simpa using hb2
    refine qb<|zg [η,some (6,_)] [] (.adr 17 1 (.some 1) True::.v 18 _::.adr 19 1 (.some 5) True::(Wb 20 [.sto 1])) [] U (zO 0 G c6 (zL 0 0 1 G au (zO 0 G cu (zL 2 0 2 G au (zQ G (DX zo (OY hk hk3)) (.p (vq 1 G) (vq 3 G)) (zQ G (nt zo) (.o (vq 4 G)) (zS 5 G cM o0))))))) (zz [] RZ λ a w U=>?_);refine aa<|qi<|aD ?_;refine aj ?_;refine am ?_ (ax G U (zm 1 G) cM);rw [Pz hk3];exact (AB zd).va
   ·have hk3:¬ x.k=3:=by simpa using hb2
    refine qb<|zg UE [] [.v 24 _,.v 23 _] Ut U (zv G (bF (gq 0 G) ab) (zA 0 G o0)) (zz [(23,_)] RZ λ a w U=>?_);refine zJ 0 U G (λ hb3=>?_) (λ hb3=>?_)
    ·have hk4:x.k=4:=by simpa using hb3
     refine qb<|zg [η,some (6,_)] [] (.adr 25 1 (.some 1) True::.v 26 _::.adr 27 1 (.some 5) True::(Wb 28 [.sto 1])) [] U (zO 0 G c6 (zL 0 0 1 G au (zO 0 G cu (zL 2 0 2 G au (zQ G (mf zo) (.p (vq 1 G) (vq 3 G)) (zQ G (pG zo) (.o (vq 4 G)) (zS 5 G cM o0))))))) (zz [] RZ λ a w U=>?_);refine aa<|qi<|aD ?_;refine aj ?_;refine am ?_ (ax G U (zm 1 G) cM);rw [Py hk4];exact (AB zd).va
    ·have hk4:¬ x.k=4:=by simpa using hb3
     refine qj<|al ?_;refine zt<|zg Rp [] (W6 31 [.sto 1]) [] U (zQ G Iu .nil (zQ G (rX (m:=⟨1,0,0,1⟩) zo) (.o (vq 0 G)) (zS 1 G cM o0))) (zz [] RZ λ a w U=>?_);refine aa<|qi<|am ?_ (ax G U (zm 1 G) cM);rw [Px hk1 hk2 hk3 hk4];exact (AB zd).va
section
open Rg
variable {P:Program}{Q:Exit→Act→World→Prop}{B N:Nat}{w0:Bs}{Γ:List (Nat × VA)}{Λ:List Lc}{a:Act}{w:World}{ops:Array Oper}{i:Nat}{K:Act→World→Prop}
end
theorem H4 {α:Type}{A':α→As}{w:Yi}{B:Nat}{f:Nat}{A:As}:∀ {L:Yb}{f:Nat}{cs:Ym},L[f]?=some A→(∀ c,A.p B c w→∃ x,(A' x).p B c w)→(cat L).p B cs w→∃ x,(cat (L.set f (A' x))).p B cs w
 | [],f,cs,hf,_,_=>by simp at hf
 | A0::L,0,cs,hf,hi,h=>by
  obtain ⟨ps,rfl,h⟩:=h;cases h with
  | cons h1 h2 =>
   simp at hf;subst hf;obtain ⟨x,hx⟩:=hi _ h1;exact ⟨x,_,rfl,.cons hx h2⟩
 | A0::L,f+1,cs,hf,hi,h=>by
  obtain ⟨ps,rfl,h⟩:=h;cases h with
  | @cons _ c0 _ bs h1 h2 =>
   obtain ⟨x,qs,e,hq⟩:=H4 (L:=L) (f:=f) (cs:=bs.flatten) (by simpa using hf) hi ⟨bs,rfl,h2⟩;exact ⟨x,c0::qs,by simp [e],.cons h1 hq⟩
theorem uE {w w':Yi}{B:Nat}{A A1:As}:∀ {L:Yb}{f:Nat}{cs:Ym},L[f]?=some A→(∀ c,A.p B c w→A1.p B c w')→(∀ X∈L.eraseIdx f,∀ c,X.p B c w→X.p B c w')→(cat L).p B cs w→(cat (L.set f A1)).p B cs w'
 | [],f,cs,hf,_,_,_=>by simp at hf
 | A0::L,0,cs,hf,hi,ho,h=>by
  obtain ⟨ps,rfl,h⟩:=h;cases h with
  | @cons _ c0 _ bs h1 h2 =>
   simp at hf;subst hf;refine ⟨c0::bs,rfl,.cons (hi _ h1) ?_⟩;clear h1 hi
   induction h2 with
   | nil=>exact .nil
   | cons h _ ih=>exact .cons (ho _ (by simp) _ h) (ih λ X hX=>ho X (by simp at hX ⊢;exact .inr hX))
 | A0::L,f+1,cs,hf,hi,ho,h=>by
  obtain ⟨ps,rfl,h⟩:=h;cases h with
  | @cons _ c0 _ bs h1 h2 =>
   obtain ⟨qs,e,hq⟩:=uE (L:=L) (f:=f) (cs:=bs.flatten) (by simpa using hf) hi (λ X hX=>ho X (by simp;exact .inr hX)) ⟨bs,rfl,h2⟩;exact ⟨c0::qs,by simp [e],.cons (ho A0 (by simp) _ h1) hq⟩
theorem CI {A:As}{L:Yb}{f:Nat}(hf:L[f]?=some A)(h:(cat L).p B cs w):∃ c,A.p B c w:=by
 obtain ⟨ps,rfl,h⟩:=h
 induction h generalizing f with
 | nil=>simp at hf
 | @cons A0 c0 L bs h1 h2 ih =>
  cases f with
  | zero=>simp at hf;subst hf;exact ⟨_,h1⟩
  | succ f=>exact ih (by simpa using hf)
theorem IA {A A1:As}{k:Nat}{A':As}{x:Yo}(h:Put A k A' A1)(hp:A.p B cs w)(hx:A'.p B [x] w):k<cs.length∧A1.p B (cs.set k x) w:=by
 obtain ⟨h1,h2⟩:=h B cs [x] w hp hx;have l1:=A'.len _ _ _ hx;have hk:k<cs.length:=by simp at l1;omega
 refine ⟨hk,?_⟩;rw [xA,qC hk];simpa [dc] using h2
def OwYG (b:Nat)(E:TypeId)(m:Nat)(D:List TypeId)(l:List As)(v:Value)(ds:List Value):As where
 n:=1
 ag:=false
 p B cs w:=cs=[v]∧v.oneCell'=true∧(∀ A∈l,A.n=m)∧(∀ A∈l,∀ T∈A.deps,T∈D)∧(cat l).p B ds w∧w.ownsRow b E m v l.length ds
 deps:=E::D
 len:=by rintro B cs w ⟨rfl,_⟩;rfl
 one:=by
  rintro B cs w ⟨rfl,h,_⟩ c hc;obtain rfl:=ql.1 hc;exact h
 ag1:=λ _=>rfl
 cg:=by
  rintro B cs w w' hg ⟨rfl,h0,h1,h2,h3,h4,h5⟩;refine ⟨rfl,h0,h1,h2,(cat l).cg _ _ _ _ hg h3,h4,?_⟩;rcases h5 with h5|⟨g,cap,cur,e1,e2,e3,e4⟩
  ·exact .inl h5
  ·exact .inr ⟨g,cap,cur,e1,e2,hg.heap e3,e4⟩
 wr:=by
  rintro B cs w w' g c T fz hgc hT hB hW ⟨rfl,h0,h1,h2,h3,h4,h5⟩;simp only [qr,not_or] at hT;refine ⟨rfl,h0,h1,h2,(cat l).wr _ _ _ _ _ _ _ _ hgc (mG h2 hT.2) hB hW h3,h4,?_⟩;rcases h5 with h5|⟨g0,cap,cur,e1,e2,e3,e4⟩
  ·exact .inl h5
  ·refine .inr ⟨g0,cap,cur,e1,e2,?_,e4⟩;have hne:g0≠g:=by
    rintro rfl;rw [hgc] at e3;injection e3 with e3;injection e3 with _ e3 _;exact hT.1 e3
   rw [hW.block g0 hne];exact e3
def OwXG (b:Nat)(E:TypeId)(m:Nat)(D:List TypeId)(l:List As)(v u:Value):As where
 n:=1
 ag:=false
 p B cs w:=cs=[v]∧v.oneCell'=true∧(OwnR b E m D l).p B u w
 deps:=E::D
 len:=by rintro B cs w ⟨rfl,_⟩;rfl
 one:=by
  rintro B cs w ⟨rfl,h,_⟩ c hc;obtain rfl:=ql.1 hc;exact h
 ag1:=λ _=>rfl
 cg:=λ B cs w w' hg ⟨h1,h2,h3⟩=>⟨h1,h2,(OwnR b E m D l).cg _ _ _ _ hg h3⟩
 wr:=λ B cs w w' g c T fz q1 q2 q3 q4 ⟨h1,h2,h3⟩=>⟨h1,h2,(OwnR b E m D l).wr _ _ _ _ _ _ _ _ q1 q2 q3 q4 h3⟩
theorem nY {B E m n:Nat}{xs:Ym}(h:w.ownsRow B E m v n xs):v.oneCell'=true∧v.cells = #[v]:=by
 rcases h.2 with ⟨rfl,_⟩|⟨g,cap,cur,rfl,_⟩ <;> exact ⟨rfl,rfl⟩
def OwG (b:Nat)(E:TypeId)(m:Nat)(D:List TypeId)(l:List As):As where
 n:=1
 ag:=false
 p B cs w:=∃ v,cs=[v]∧(OwnR b E m D l).p B v w
 deps:=E::D
 len:=by rintro B cs w ⟨v,rfl,_⟩;rfl
 one:=by
  rintro B cs w ⟨v,rfl,_,_,ds,_,h⟩ c hc;obtain rfl:=ql.1 hc;exact (nY h).1
 ag1:=λ _=>rfl
 cg:=λ B cs w w' hg ⟨v,h1,h3⟩=>⟨v,h1,(OwnR b E m D l).cg _ _ _ _ hg h3⟩
 wr:=λ B cs w w' g c T fz q1 q2 q3 q4 ⟨v,h1,h3⟩=>⟨v,h1,(OwnR b E m D l).wr _ _ _ _ _ _ _ _ q1 q2 q3 q4 h3⟩
theorem P1 {b:Nat}{E:Yh}{m:Nat}{l:Yb}{c:Ym}(h:(OwG b E m D l).p B c w):∃ x:Yo × Ym,(OwYG b E m D l x.1 x.2).p B c w:=by
 obtain ⟨v,rfl,h1,h2,ds,h3,h4⟩:=h;exact ⟨(v,ds),rfl,(nY h4).1,h1,h2,h3,h4⟩
theorem II {b:Nat}{E:Yh}{m:Nat}{l:Yb}{ds:Ym}:Wk (OwYG b E m D l v ds).va (EqV v):=λ B u w ⟨cs,⟨h1,_⟩,h2⟩=>by subst h1;exact h2
section
variable {B N:Nat}{w0:Bs}{Γ:List (Nat × VA)}{Λ:List Lc}{a:Act}{w:World}
theorem St.exL {α:Type}(h:St B w0 N Γ Λ a w){s:Nat}{A:As}(A':α→As)(k:Nat)(hm:Λ[k]?=some ⟨s,T,H,A⟩)(hi:∀ cs,A.p B cs w→∃ x,(A' x).p B cs w):∃ x,St B w0 N Γ (Λ.set k ⟨s,T,H,A' x⟩) a w:=by
 obtain ⟨hk,he⟩:=List.getElem?_eq_some_iff.1 hm;have hin:(⟨s,T,H,A⟩:Lc)∈Λ:=qa hm;obtain ⟨g,cs,h1,h2,h3,h4⟩:=h.locs _ hin;obtain ⟨x,hx⟩:=hi cs h4;have hset:∀ l∈Λ.set k ⟨s,T,H,A' x⟩,l=⟨s,T,H,A' x⟩∨l∈Λ:=λ l hl=>(qq hl).symm;have hd:∀ l∈Λ.set k ⟨s,T,H,A' x⟩,∃ l'∈Λ,l'.s=l.s:=λ l hl=>by
  rcases hset l hl with rfl|hl
  ·exact ⟨_,hin,rfl⟩
  ·exact ⟨l,hl,rfl⟩
 refine ⟨x,h.lo,h.defers,h.size,h.base,h.vals,λ l hl=>?_,λ l hl m hm' hne=>?_⟩
 ·rcases hset l hl with rfl|hl
  ·exact ⟨g,cs,h1,h2,h3,hx⟩
  ·exact h.locs l hl
 ·obtain ⟨l',hl',e1⟩:=hd l hl;obtain ⟨m',hm'',e2⟩:=hd m hm';have:=h.dis l' hl' m' hm'' (by rw [e1,e2];exact hne);rw [e1,e2] at this;exact this
theorem St.wkB (h:St B w0 N Γ Λ a w){s:Nat}{A A':As}(k:Nat)(hm:Λ[k]?=some ⟨s,T,H,A⟩)(hi:∀ cs,A.p B cs w→A'.p B cs w):St B w0 N Γ (Λ.set k ⟨s,T,H,A'⟩) a w:=by
 obtain ⟨_,h⟩:=St.exL h (λ _:Unit=>A') k hm λ cs hp=>⟨(),hi cs hp⟩;exact h
theorem St.nameFG {b:Nat}(h:St B w0 N Γ Λ a w){s:Nat}{L:Yb}{E:Yh}{m:Nat}{l:Yb}(k f:Nat)(hm:Λ[k]?=some ⟨s,T,H,cat L⟩)(hf:L[f]?=some (OwG b E m D l)):
  ∃ x:Value × List Value,St B w0 N Γ (Λ.set k ⟨s,T,H,cat (L.set f (OwYG b E m D l x.1 x.2))⟩) a w :=
 St.exL h (λ x:Value × List Value=>cat (L.set f (OwYG b E m D l x.1 x.2))) k hm λ cs hp=>H4 (A':=λ x:Value × List Value=>OwYG b E m D l x.1 x.2) (f:=0) hf (λ c hc=>P1 hc) hp
theorem St.knowFG {b:Nat}(h:St B w0 N Γ Λ a w){s:Nat}{L:Yb}{E:Yh}{m:Nat}{l:Yb}{ds:Ym}(k f:Nat)(hm:Λ[k]?=some ⟨s,T,H,cat L⟩)(hf:L[f]?=some (OwYG b E m D l v ds)):
  w.ownsRow b E m v l.length ds:=by
 obtain ⟨g,cs,_,_,_,hp⟩:=h.locs _ (qa hm);obtain ⟨c,hc⟩:=CI hf hp;exact hc.2.2.2.2.2
end
section
open Rg
variable {P:Program}{Q:Exit→Act→World→Prop}{B N:Nat}{w0:Bs}{Γ:List (Nat × VA)}{Λ:List Lc}{a:Act}{w:World}{ops:Array Oper}{i:Nat}{K:Act→World→Prop}
theorem Ee {b:Nat}(hbB:B≤b)(hb0:b≤w0.w.heap.size){d s u sx f:Nat}{S E T1 T:Yh}{L:Yb}{X:As}{ds:Ym}{m bytes:Nat}{D D':Yq}{l:Yb}{it:TypeInfo}{z:Yo}(src:Ya)(ks ku e:Nat)
  (ho:ops[i]?=some ⟨some d,.call ⟨.builtin .append,#[.tmp s,.tmp u],#[S,S]⟩,T1,ps,af,none⟩) (h:St B w0 N Γ Λ a w)
  (hs:Γ[ks]?=some (s,EqV v)) (hu:Γ[ku]?=some (u,(SlA E D' [X]).va)) (hXn:X.n=m) (hXd:∀ T∈X.deps,T∈D) (hl:Λ[e]?=some ⟨sx,T,H,cat L⟩) (hf:L[f]?=some (OwYG b E m D l v ds)) (hL:(L.eraseIdx f).all (λ X => !X.deps.contains E)=true) (hE:E ∉ D) (hTE:(T != E)=true) (hrm:eZ w0 b E)
  (hS:P.underlying S=some (.slice E)) (hi:P.info? E=some it) (hz:it.zero=some z) (hsz1:it.size=m) (hby:it.bytes=bytes) (hzs:z.cells.size=m) (hm0:0<m) (hn:(l.length+1)*bytes≤140737488355328) (hn2:l.length≤1000000000000000)
  (hd:d<N) (hΓ:Γ.all (λ x=>x.1 != d)=true) (hΛd:Λ.all (λ l=>l.s != d)=true)
  (hsrc:src.all (λ k=>match Γ[k]? with|some y => !y.2.deps.contains E|none=>false)=true) (hΛ:Λ.zipIdx.all (λ x=>x.2==e || (x.1.T != E && !x.1.A.deps.contains E))=true)
  (hK:∀ v' w',v'.oneCell'=true→v'.cells = #[v']→St B w0 N ((d,EqV v')::src.filterMap λ k=>Γ[k]?) (Λ.set e ⟨sx,T,H,cat (L.set f (OwXG b E m D (l++[X]) v v'))⟩) (a.put (some d) v') w'→K (a.put (some d) v') w'):wpOp P ops Q i K a w:=by
 have hown:=h.knowFG e f hl hf;refine tC hbB hb0 (n:=l.length) (A1:=λ v'=>cat (L.set f (OwXG b E m D (l++[X]) v v'))) (F:=λ ds'=>X.p B ds' w) src ks ku e ho h hs hu (λ _ h=>h) hXn hl hTE hrm hS hi hz hsz1 hby hzs hm0 hn hn2 hd hΓ hΛd hsrc hΛ (xs:=ds) (λ cs hp=>⟨hown,λ v' w' ds' hF hown' hg hcase=>uE hf (λ c hc=>?_) (λ Y hY c hc=>?_) hp⟩) (λ v' w' U=>?_)
 ·have hro:gj w b E v.ownBlock:=dR hown;obtain ⟨rfl,hv1,q1,q2,q3,q4⟩:=hc;refine ⟨rfl,hv1,λ A hA=>?_,λ A hA=>?_,ds++ds',CJ (As.grown q3 hg hro hbB (mG q2 hE)) (by have:=As.grown hF hg hro hbB (λ hh=>hE (hXd _ hh));exact ⟨[ds'],by simp,.cons this .nil⟩),by simpa using hown'⟩
  ·rcases qn.1 hA with hA|hA
   ·exact q1 A hA
   ·rw [ql.1 hA];exact hXn
  ·rcases qn.1 hA with hA|hA
   ·exact q2 A hA
   ·rw [ql.1 hA];exact hXd
 ·have:=qe.1 hL Y hY;exact As.grown hc hg (dR hown) hbB (by simpa using this)
 ·have hLc:=List.getElem?_eq_some_iff.1 hl;obtain ⟨g,cs,_,_,_,hp⟩:=U.locs ⟨sx,T,H,cat (L.set f (OwXG b E m D (l++[X]) v v'))⟩ (qa (i:=e) (by rw [List.getElem?_set_self hLc.1]));have hfl:=(List.getElem?_eq_some_iff.1 hf).1;obtain ⟨c,hc⟩:=CI (f:=f) (A:=OwXG b E m D (l++[X]) v v') (by rw [List.getElem?_set_self hfl]) hp;obtain ⟨_,_,_,_,_,_,hcc⟩:=hc;exact hK v' w' (nY hcc).1 (nY hcc).2 U
end
theorem EX {b:Nat}{L:Yb}{f:Nat}{E:Yh}{m:Nat}{l:Yb}{v u:Yo}{k B:Nat}(hf:L[f]?=some (OwXG b E m D l v u))(hk:offs L f=k)(hp:(cat L).p B cs w):k<cs.length∧(cat (L.set f (OwG b E m D l))).p B (cs.set k u) w:=by
 obtain ⟨c,hc⟩:=CI hf hp;exact IA (A':=OwG b E m D l) (Put.part f hf G hk) hp ⟨u,rfl,hc.2.2⟩
theorem St.bt26 {B N:Nat}(h:St B w0 N Γ Λ a w):B≤w0.w.heap.size:=h.lo _ (.inl (qh _))
theorem CZ {ops:Yg}{Q:Yd}(h:Q .normal a w):wpOps P ops Q [] (a.put none undef) w:=h
theorem IG {b B:Nat}(hb:B≤b){E:Yh}{m:Nat}{l:Yb}(h:(OwnR b E m D l).p B v w):(OwnR B E m D l).p B v w:=by
 obtain ⟨h1,h2,ds,h3,h4,h5⟩:=h;refine ⟨h1,h2,ds,h3,h4,?_⟩;rcases h5 with h5|⟨g,cap,cur,e1,e2,e3⟩
 ·exact .inl h5
 ·exact .inr ⟨g,cap,cur,e1,qf hb e2,e3⟩
theorem P2 {b B:Nat}(hb:B≤b){u:Ya}{c:Ym}(h:(OwG b 3 1 [] (u.map λ (k:Nat)=>InA k)).p B c w):(SlP (λ g=>b≤g) 3 [] ((u.map λ (k:Nat)=>(k:Int)).map InA)).p B c w:=by
 obtain ⟨v,rfl,h0⟩:=h;obtain ⟨cs',h1,h2⟩:=l7 B v w (IG hb h0);have l2:=(SlA 3 [] (u.map λ (k:Nat)=>InA k)).len _ _ _ h1;refine ⟨?_,λ x hx g hg=>?_⟩
 ·rw [xq]
  match cs',l2 with
  | [c],_ =>
   have e:v=c:=h2;subst e;exact h1
 ·obtain rfl:=ql.1 hx;obtain ⟨_,_,ds,_,h5⟩:=h0;rcases h5.2 with ⟨rfl,_⟩|⟨g',cap,cur,rfl,h6,_⟩
  ·cases hg
  ·have e:g'=g:=by injection hg
   subst e;exact h6
theorem gM:Str Tryz.prog 80 [EqA (.slice none 0 0),RFA rf0,NumA .i64 0,RFA rf0] :=
 Str.of (z:=.agg #[.slice none 0 0,.bool false,.slice none 0 0,.bool false,.slice none 0 0,.int .i64 0,.bool false,.slice none 0 0,.bool false,.slice none 0 0]) zk Tryz.underlying80 zk λ B w=>⟨[[.slice none 0 0],[.bool false,.slice none 0 0,.bool false,.slice none 0 0],[.int .i64 0],[.bool false,.slice none 0 0,.bool false,.slice none 0 0]],rfl,.cons ⟨rfl,rfl⟩ (.cons (eI B w) (.cons rfl (.cons (eI B w) .nil)))⟩
theorem JC:∃ i,Tryz.prog.info? 3=some i∧i.zero=some (.int .i64 0)∧i.size=1∧i.bytes=8:=tS
def coQ (m:MQ):YQ:=⟨m.a,m.c⟩
theorem PG {b:List RE}{j k:Nat}(hj:j<b.length)(ha:b.all elF=true)(hl:b.length≤25):WkA (QRA k (goQ (elM b[j]) (coQ (dQ (b.take j))))) (QRA 102426 (coQ (dQ (b.take (j+1))))):=by
 rw [show goQ (elM b[j]) (coQ (dQ (b.take j)))=coQ (dQ (b.take (j+1))) from by rw [AE hj];rfl];have h:=A9 (gS (nX ha (j+1) zo) (by omega:1+4097*(j+1)≤102426));exact bi (.cons (E2 h.1) (.cons (E2 h.2.2.1) .nil))
theorem Lq {t:RTk}(h:ckF t=0){i:Nat}(hi:i<t.sp.length):elF (spE t.sp[i])=true:=by
 have h3:=PN h hi;have h2:=qe.1 (gh h).2.1 _ (qg hi);unfold spcF at h2;simp only [qz,qN,qm] at h2;unfold elF spE;rw [qo];refine ⟨?_,?_⟩
 ·simp only [jf,jt,jg,qo];exact ⟨h3,by kernel_rfl⟩
 ·show elK 1 _ _=true;rw [kd1 (by rfl)];rw [qo];refine ⟨qE (show (toQ t.sp[i]).num.sign≥0 from by have:=h2.2;omega),by kernel_rfl⟩
theorem FF {t:RTk}(h:ckF t=0){l:Ya}(hl:l.length+1=t.sp.length)(hp:∀ x∈l,x<t.ps.length):(benW t l).all elF=true:=by
 rw [qe];intro y hy;have key:∀ i,i<t.sp.length→elF (spE (t.sp.getD i rf0))=true:=λ i hi=>by
  rw [show t.sp.getD i rf0=t.sp[i] from by simp [List.getD,hi]];exact Lq h hi
 unfold benW at hy;rcases qn.1 hy with hy|hy
 ·unfold benP at hy;obtain ⟨i,hi,hy⟩:=kY.1 hy;have hi':i<l.length:=jI.1 hi;simp only [qr,zF,or_false] at hy;rcases hy with rfl|rfl
  ·exact key i zo
  ·refine dn_p h ?_;rw [show l.getD i 0=l[i] from by simp [List.getD,hi']];exact hp _ (qg hi')
 ·obtain rfl:=ql.1 hy;exact key _ zo
theorem Nm {t:RTk}(hc:ckF t=0){u:Ya}{j:Nat}(hj:j<u.length)(hl:u.length≤12)(hp:∀ x∈u,x<t.ps.length)(hk:u[j]<t.ps.length):IntKind.i64.wrap (cosW t (u.take j)+t.ps[u[j]].c)=cosW t (u.take (j+1)):=by
 have e:cosW t (u.take (j+1))=cosW t (u.take j)+t.ps[u[j]].c:=by
  rw [qA hj,uw,show t.ps.getD u[j] ⟨⟨#[]⟩,⟨0,rf0,rf0⟩,0⟩=t.ps[u[j]] from by simp [List.getD,hk]]
 obtain ⟨h1,h2⟩:=ux hc (l:=u.take (j+1)) λ x hx=>hp x (xk hx);have h3:(u.take (j+1)).length≤12:=by rw [qX];omega
 rw [← e];exact wi64 zo zo
abbrev WrI (q:Nat→Prop)(t:RTk)(u:List Nat):As:=cat [SlP q 3 [] ((u.map λ (k:Nat)=>(k:Int)).map InA),QA 110000 (powW t u),InA (cosW t u),QA 110000 (awaW t u)]
abbrev WrQ (x:WyQ):As:=cat [SlA 3 [] (x.l.map InA),QA 110000 x.pw,InA x.c,QA 110000 x.aw]
theorem Q1 {t:RTk}{u:Ya}(h:decide ((powW t u-toQ t.tg).num.sign<0)=true) : -(powW t u-toQ t.tg)=awaW t u:=by unfold awaW;rw [qC (qu h)]
theorem Q3 {t:RTk}{u:Ya}(h:decide ((powW t u-toQ t.tg).num.sign<0)=false):powW t u-toQ t.tg=awaW t u:=by unfold awaW;rw [qy (qw h)]
set_option maxHeartbeats 2000000 in
theorem uZ {t:RTk}{u:Ya}(hc:ckF t=0)(hl:u.length+1=t.sp.length)(hp:∀ x∈u,x<t.ps.length):Cn Tryz.prog 121 [(TkA t).va,(SlA 3 [] (u.map λ (k:Nat)=>InA (k:Int))).va] ((SlA 91 [U32] ((benW t u).map REA)).va):=by
 obtain ⟨it,z,e1,e2,e3,e4,e5⟩:=FI;obtain ⟨hs2,hs13,hp1,hp64,htg⟩:=hd_b (gh hc).1;have h00:0<t.sp.length:=by omega
 have hu12:u.length≤12:=by omega
 refine Cn.intro Tryz.func121 G zk nq (zy [(0,(TkA t).va),(1,(SlA 3 [] (u.map λ (k:Nat)=>InA (k:Int))).va)] λ B w0 a U=>?_);refine qb<|zg [] [zpL 2 30 0 _] [.alc 0,.v 4 _] [.g 1,.o 1] U (zW 0 G (zE G b9)) (zz (Wc 1 4) RA ?_);refine ztA<|zgA U1 [] (.adr 7 2 (.some 0) True::(Wd 8 [.v 5 _])) RP (zO 0 G ca (zL 0 0 0 G fc (zv G (bM db (cc λ _=>rfl) (vq 1 G) (aE 0 G) (bG h00)) (zv G (ap (vq 2 G) au) (zQ G (nk _) (.o (vq 3 G)) (zv G (DU (l:=[_]) (xs:=[.tmp 11]) yH zk (n_ok zk) nq nq nq (.o (vq 4 G)) G G) (zA 5 G o0))))))) (zz (Wa 1 4 5) RA λ a w U=>?_);have U:=St.wkG U 2 rfl (Ej (m:=9) (D:=[U32]) (λ A hA=>by obtain rfl:=ql.1 hA;rfl) (dh zk) nq);have U:=zn (Wa 1 4 5) RA U;refine zt<|qb<|zg U3 [] U2 WX U (zE G ab) (zz (Wf 1 4 5 6) RA λ a w U=>?_);refine aa<|qk ?_;have U:=St.sel U [0,3,2];refine wp_loop_ghost (λ n a w=>∃ j:Nat,n+j=u.length∧St B w0 39 [(1,(SlA 3 [] (u.map λ (k:Nat)=>InA (k:Int))).va),(6,In (j:Nat)),(5,OwnR w0.w.heap.size 91 9 [U32] ((benW t (u.take j)).map REA))] [⟨2,30,ptrH,TkA t⟩] a w) (u.length) ?_ ?_
 ·exact ⟨0,by omega,by rw [show u.take 0=[] from rfl,PY,show t.sp.getD 0 rf0=t.sp[0] from by simp [List.getD,h00]];exact U⟩
 intro n a w hI;obtain ⟨j,hn,U⟩:=hI;refine qb<|qb<|zg U3 [] (Ww 13) WT U (zM 1 G (zM 0 G (zv G (bn qL (vq 1 G)) (zv G (aO (vq 0 G) (vq 2 G)) o0)))) (zz (Wf 1 6 5 16) RA λ a w U=>?_);refine zJ 3 U G (λ hb0=>?_) (λ hb0=>?_)
 ·have hj:j<u.length:=by rw [qd] at hb0;have:=qu hb0;omega
  have hkp:u[j]<t.ps.length:=hp _ (qg hj);have hpj:t.ps.getD u[j] ⟨⟨#[]⟩,⟨0,rf0,rf0⟩,0⟩=t.ps[u[j]]:=by simp [List.getD,hkp]
  have hsl:j+1<t.sp.length:=by omega
  have hsj:t.sp.getD (j+1) rf0=t.sp[j+1]:=by simp [List.getD,hsl]
  refine qj<|zt<|qk<|JT (sp:=[.v 19 _,.adr 20 2 (.some 1) True,.v 21 _,.v 22 _,.v 23 _,.v 24 _,.v 25 _,.v 26 _,.v 27 _,.v 28 _,.adr 29 2 (.some 0) True,.v 30 _,.v 31 _,.v 32 _,.v 33 _,.v 34 _,.v 35 _,.v 36 _,.v 37 VT,.v 5 VT]) [[],[],[1],[],[],[3,4],[3,4,5],[1,2,3,4,5,6],[1,2,3,4,5,6,7],[1,2,3,4,5,6,7,8],[],[10],[],[12],[10,11,12,13],[10,11,12,13,14],[10,11,12,13,14,15],[1,2,3,4,5,6,7,8,9,10,11,12,13,14,15,16],[0,1,2,3,4,5,6,7,8,9,10,11,12,13,14,15,16,17],[0,1,2,3,4,5,6,7,8,9,10,11,12,13,14,15,16,17,18]] 18 [0,1] 0 17 ac U (zM 2 rfl (zO 0 rfl bK (zL 1 0 1 rfl dW (zM 0 rfl (zM 1 rfl (zv rfl (bM dN (cc λ _=>rfl) (vq 3 rfl) (vq 4 rfl) (bG hj)) (zv rfl (ap (vq 5 rfl) ty_3) (zv rfl (bM fg (cc λ _=>rfl) (vq 2 rfl) (vq 6 rfl) (bG hkp)) (zv rfl (bP (vq 7 rfl) eh (Sub.part 1 rfl rfl)) (zv rfl (ap (vq 8 rfl) gf) (zO 0 rfl ca (zL 10 0 0 rfl fc (zM 1 rfl (zv rfl (aL (vq 12 rfl) ab ((wi64 zo zo).trans (by omega:(_:Int)=((j+1:Nat):Int)))) (zv rfl (bM db (cc λ _=>rfl) (vq 11 rfl) (vq 13 rfl) (bG hsl)) (zv rfl (ap (vq 14 rfl) au) (zQ rfl (nk _) (.o (vq 15 rfl)) (zv rfl (bW (D:=[U32]) (l:=[_,_]) (xs:=[.tmp 28,.tmp 35]) (dh zk) yH zk (n_ok zk) nq nq nq (.p (vq 9 rfl) (vq 16 rfl)) rfl rfl) o0)))))))))))))))))) rfl zk zk zk zk rfl rfl zd rfl zd rfl (λ _ _ h _=>h) jS e1 e2 e3 e4 e5 zd (by simp only [qd,uI,qX,zc,xp];omega) zd (λ T hT=>hT) zd (λ A hA=>by simp only [qr,zF,or_false] at hA;rcases hA with rfl|rfl <;> rfl) zk nq nq zk zk (zz (Wa 5 1 6) RA λ a w U=>?_);refine al ?_;refine aa<|zg U3 [] (W6 17 [.v 6 _]) WY U (zM 2 G (zv G (aL (vq 0 G) ab ((wi64 zo zo).trans (by omega:(_:Int)=((j+1:Nat):Int)))) (zA 1 G o0))) (zz (Wa 5 1 6) RA λ a w U=>?_);refine aa ?_;have U:=St.sel U [1,2,0];exact ⟨n-1,by omega,j+1,by omega,by rw [O4 hj,zT,hpj,hsj];exact U⟩
 ·obtain rfl:j=u.length:=by rw [qd] at hb0;have:=qw hb0;omega
  refine qP<|ai<|ai<|az<|zt<|zg U3 [] [.v 38 _,.v 4 _] [.g 2,.o 1] U (zM 2 G (zA 0 G o0)) (zz (Wc 5 4) RA λ a w U=>?_);refine aa<|qi<|am ?_ (ak G U (zm 1 G));rw [qJ];exact l7
theorem Ao {c d:Nat}{m:MQ}{r:YQ}(hk:c+d≤200000000):Cn Tryz.prog 122 [(QMA c m).va,(QRA d r).va] ((QRA (c+d+(c+d)+1) (goQ m r)).va):=by
 refine Cn.intro Tryz.func122 G zk nq (zy [(0,(QMA c m).va),(1,(QRA d r).va)] λ B w0 a U=>?_);refine qb<|zg [] [zpL 2 128 0 _,zpL 3 117 1 _,zpL 4 117 2 _] Uj [] U (zW 0 G (zW 1 G (zY G (Str.zero iL) o0))) (zz [] [O 2 128 _,O 3 117 _,O 4 117 _] λ a w U=>?_);refine zt<|zgd [[],[0],[],[2],[],[4],[],[6],(Wm 8),[],[9],[],[11],[],[13],[],[15],(Wm 17),(Wm 18),(Wm 19)] [none,none,some (19,_)] [] (.adr 5 2 (.some 0) True::.v 6 _::.adr 7 3 (.some 0) True::.v 8 _::.adr 9 2 (.some 4) True::.v 10 _::.adr 11 3 (.some 4) True::(W6 12 (.adr 14 2 (.some 8) True::.v 15 _::.adr 16 3 (.some 0) True::.v 17 _::.adr 18 2 (.some 12) True::.v 19 _::.adr 20 3 (.some 4) True::(Wb 21 [.sto 2])))) [] ac U (zO 0 G rg (zL 0 0 0 G au (zO 1 G cv (zL 2 1 0 G au (zO 0 G rf (zL 4 0 1 G au (zO 1 G cj (zL 6 1 1 G au (zQ G (tv zo) (.cons (vq 1 G) (.cons (vq 3 G) (.p (vq 5 G) (vq 7 G)))) (zO 0 G rc (zL 9 0 2 G au (zO 1 G cv (zL 11 1 0 G au (zO 0 G rb (zL 13 0 3 G au (zO 1 G cj (zL 15 1 1 G au (zQ G (tv zo) (.cons (vq 10 G) (.cons (vq 12 G) (.p (vq 14 G) (vq 16 G)))) (zv G (aS (qs:=[(0,_),(1,_)]) iL (.cons ⟨rfl,vq 8 rfl,rfl⟩ (.cons ⟨rfl,vq 17 rfl,rfl⟩ .nil))) (zS 18 G gJ o0)))))))))))))))))))) zk zk zk zk (zz [] [O 2 128 _,O 3 117 _,O 4 117 _] λ a w U=>?_);refine aa<|qi<|am ?_ (ax G U (zm 2 G) gJ);exact aM
theorem J3 {b B E m:Nat}{c:Ym}(h:(EqA (.slice none 0 0)).p B c w):(OwG b E m D []).p B c w:=by
 obtain ⟨rfl,_⟩:=h;exact ⟨_,rfl,mj B _ w rfl⟩
theorem Lm {u:Ya}{j:Nat}(hj:j<u.length):(u.take (j+1)).map (λ (k:Nat)=>InA k)=((u.take j).map λ (k:Nat)=>InA k)++[InA ((u[j]:Nat):Int)]:=by
 rw [qA hj,zT];rfl
set_option maxHeartbeats 2000000 in
theorem pF {t:RTk}{u:Ya}(hc:ckF t=0)(hl:u.length+1=t.sp.length)(hp:∀ x∈u,x<t.ps.length):CnI Tryz.prog 28 [(TkA t).va,(SlA 3 [] (u.map λ (k:Nat)=>InA (k:Int))).va] (λ b=>(WrI (λ g=>b≤g) t u).va):=by
 obtain ⟨it,i1,i2,i3,i4⟩:=JC;obtain ⟨hs2,hs13,hp1,hp64,htg⟩:=hd_b (gh hc).1;have h00:0<t.sp.length:=by omega
 have hu12:u.length≤12:=by omega
 have hall:=FF hc hl hp;have hbl:(benW t u).length≤25:=by rw [uI];omega
 refine CnI.introF Tryz.func28 G zk nq (λ B w0 a hF0 hF U=>?_);have U:=zn [(0,(TkA t).va),(1,(SlA 3 [] (u.map λ (k:Nat)=>InA (k:Int))).va)] [] U;obtain ⟨v1,hv1,U⟩:=St.eqv U 1 rfl;refine qb<|zg [] [zpL 2 30 0 _,zpL 4 80 1 _] UQ [.g 1] U (zW 0 G (zY G (Str.zero gM) o0)) (zz [(1,_)] [O 2 30 _,O 4 80 _] ?_);refine ztA<|zgA UC [⟨5,117,ptrH,some 3,_,some (4,_)⟩] (Wb 10 [.alc 2,.sto 2]) UH (zQ G gw .nil (zQ G cP .nil (zv G (aS (qs:=[(0,_),(1,_)]) iL (.cons ⟨rfl,vq 0 rfl,rfl⟩ (.cons ⟨rfl,vq 1 rfl,rfl⟩ .nil))) (zY G (Str.zero iL) (zS 2 G gJ o0))))) (zz [(1,_)] S0 λ a w U=>?_);have U:=St.wkL (A':=QRA 102426 (coQ (dQ ((benW t u).take 0)))) U 2 rfl (bi (.cons (bY zd) (.cons (bY zd) .nil)));have U:=zn [(1,_)] S0 U;refine zt<|zg UO [] (Wb 13 [.v 6 _]) Ro U (zl 0 G cU (zM 0 G (zQ G (uZ hc hl hp) (.p (vq 0 G) (bk hF hv1 (vq 1 G))) (zA 2 G o0)))) (zz (Wc 1 6) S0 ?_);refine ztA<|zsA<|zgA Ul [] [.v 7 _] WQ (zE G ab) (zz (Wa 1 6 7) S0 λ a w U=>?_);refine aa<|qk ?_;have U:=St.sel U [0,1,2];refine wp_loop_ghost (λ n a w=>∃ j:Nat,n+j=(benW t u).length∧St B w0 76 [(1,EqV v1),(6,(SlA 91 [U32] ((benW t u).map REA)).va),(7,In (j:Nat))] [⟨2,30,ptrH,TkA t⟩,⟨4,80,ptrH,cat [EqA (.slice none 0 0),RFA rf0,NumA .i64 0,RFA rf0]⟩,⟨5,117,ptrH,QRA 102426 (coQ (dQ ((benW t u).take j)))⟩] a w) ((benW t u).length) ?_ ?_
 ·exact ⟨0,by omega,U⟩
 intro n a w hI;obtain ⟨j,hn,U⟩:=hI;refine qb<|qb<|zg UO [] (Ww 16) WT U (zM 2 G (zM 1 G (zv G (bn jS (vq 1 G)) (zv G (aO (vq 0 G) (vq 2 G)) o0)))) (zz (Wf 1 6 7 19) S0 λ a w U=>?_);refine zJ 3 U G (λ hb0=>?_) (λ hb0=>?_)
 ·have hj:j<(benW t u).length:=by rw [qd] at hb0;have:=qu hb0;omega
  refine qj<|zt<|qk<|zgd [[],[],[0,1],[0,1,2],(Wm 4),[],(Wm 6),(Wm 7)] [none,none,some (7,_)] [] (WG 22 [.sto 2]) W7 ac U (zM 1 G (zM 2 G (zv G (bM yH (cc λ _=>rfl) (vq 0 G) (vq 1 G) (bG hj)) (zv G (ap (vq 2 G) gf) (zQ G (Ix (qe.1 hall _ (qg hj))) (.o (vq 3 G)) (zl 2 G gJ (zQ G (Ao (c:=4099) (d:=102426) (m:=elM (benW t u)[j]) (r:=coQ (dQ ((benW t u).take j))) zd) (.p (vq 4 G) (vq 5 G)) (zS 6 G gJ o0)))))))) zk zk zk zk (zz (Wa 1 6 7) S0 λ a w U=>?_);have U:=St.wkL U 2 rfl (PG hj hall hbl);have U:=zn (Wa 1 6 7) S0 U;refine al ?_;refine aa<|zg UO [] (W6 20 [.v 7 _]) WY U (zM 2 G (zv G (aL (vq 0 G) ab ((wi64 zo zo).trans (by omega:(_:Int)=((j+1:Nat):Int)))) (zA 1 G o0))) (zz (Wa 1 6 7) S0 λ a w U=>?_);refine aa ?_;have U:=St.sel U [0,1,2];exact ⟨n-1,by omega,j+1,by omega,U⟩
 ·obtain rfl:j=(benW t u).length:=by rw [qd] at hb0;have:=qw hb0;omega
  rw [qJ] at U;refine qP<|ai<|ai<|az<|zt<|zg UO [⟨8,80,ptrH,some 4,_,some (5,_)⟩] (.adr 29 5 (.some 4) True::(Wb 30 [.alc 3,.sto 3])) UH U (zO 2 G cj (zL 0 2 1 G au (zQ G (iP zd) (.o (vq 1 G)) (zv G (aS (qs:=[(1,_)]) gM (.cons ⟨rfl,vq 2 rfl,rfl⟩ .nil)) (zY G (Str.zero gM) (zS 3 G iH o0)))))) (zz [(1,_)] [O 2 30 _,O 4 80 _,O 5 117 _,O 8 80 _] λ a w U=>?_);have U:=St.selL U [0,1,3];have U:=zn [(1,_)] S1 U;have U:=St.wkB (A':=cat [OwG w0.w.heap.size 3 1 [] ((u.take 0).map λ (k:Nat)=>InA k),QA 102426 (powW t u),InA (cosW t (u.take 0)),RFA rf0]) U 2 rfl (λ cs hp=>uE (f:=0) (A:=EqA (.slice none 0 0)) rfl (λ c h=>J3 h) (λ _ _ _ h=>h) hp);have U:=zn [(1,_)] S1 U;refine zt<|qb<|zg UO [] [.v 9 _] UZ U (zE G ab) (zz (Wc 1 9) S1 λ a w U=>?_);refine aa<|qk ?_;have U:=St.sel U [0,1];refine wp_loop_ghost (λ n a w=>∃ j:Nat,n+j=u.length∧St B w0 76 [(1,EqV v1),(9,In (j:Nat))] [⟨2,30,ptrH,TkA t⟩,⟨4,80,ptrH,cat [EqA (.slice none 0 0),RFA rf0,NumA .i64 0,RFA rf0]⟩,⟨8,80,ptrH,cat [OwG w0.w.heap.size 3 1 [] ((u.take j).map λ (k:Nat)=>InA k),QA 102426 (powW t u),InA (cosW t (u.take j)),RFA rf0]⟩] a w) (u.length) ?_ ?_
  ·exact ⟨0,by omega,U⟩
  intro n a w hI;obtain ⟨j,hn,U⟩:=hI;refine qb<|qb<|zg UO [] (Ww 33) (We [.o 3]) U (zM 1 G (zM 0 G (zv G (bn qL (bk hF hv1 (vq 1 G))) (zv G (aO (vq 0 G) (vq 2 G)) o0)))) (zz (Wa 1 9 36) S1 λ a w U=>?_);refine zJ 2 U G (λ hb1=>?_) (λ hb1=>?_)
  ·have hj:j<u.length:=by rw [qd] at hb1;have:=qu hb1;omega
   have hkp:u[j]<t.ps.length:=hp _ (qg hj);have hpj:t.ps.getD u[j] ⟨⟨#[]⟩,⟨0,rf0,rf0⟩,0⟩=t.ps[u[j]]:=by simp [List.getD,hkp]
   have hsl:j+1<t.sp.length:=by omega
   have hsj:t.sp.getD (j+1) rf0=t.sp[j+1]:=by simp [List.getD,hsl]
   refine qj<|zt<|qk<|qb ?_;obtain ⟨⟨v8,d8⟩,U⟩:=St.nameFG U 2 0 rfl rfl;have U:=zn (Wa 1 9 36) S1 U;obtain ⟨g8,U⟩:=St.nm U 2 rfl;have U:=zn (Wf 8 1 9 36) S1 U;refine ia (sp:=[.adr 39 8 (.some 0) True,.v 40 _,.v 41 _,.v 42 _,.v 43 _,.v 44 _,.v 45 _,.v 46 VT,.v 47 VT,.sto 0]) [[],[0],[],[],[2,3],[2,3,4],[2,3,4,5],[0,1,2,3,4,5,6],[0,1,2,3,4,5,6,7],[0,1,2,3,4,5,6,7,8]] 7 3 0 9 OneC [.g 0,.g 1,.g 2,.o 1,.o 6] ac U (zO 2 G ej (zL 0 2 0 G cC (zM 1 G (zM 2 G (zv G (bM dN (cc λ _=>rfl) (bk hF hv1 (vq 2 G)) (vq 3 G) (bG hj)) (zv G (ap (vq 4 G) ty_3) (zv G (bW (D:=[]) (l:=[_]) (xs:=[.tmp 44]) (dh zk) dN zk (n_ok zk) nq nq nq (.o (vq 5 G)) G G) o0))))))) G zd zd zk (fI zk) zk zk (zz (W8 8 1 9 40 45) S1 λ a w U=>?_);rw [show List.range' 7 3=[7,8,9] from rfl];have U:=St.wkG U 3 rfl II;have U:=zn (W8 8 1 9 40 45) S1 U;rw [qv];refine Ee U.bt26 (qh _) (f:=0) (m:=1) (X:=InA ((u[j]:Nat):Int)) [0,1,2] 3 4 2 G U G G G (s0 (A:=InA ((u[j]:Nat):Int)) zk) G G zk zd zd (DO G) qL i1 i2 i3 i4 (by rfl) zd (by rw [qd,qX];omega) (by rw [qd,qX];omega) zd zk zk zk zk (λ v' w o1 o2 U=>?_);rw [qv];refine fj 1 G U ej G zd zk zk (λ a U=>?_);rw [qv];refine gx (A1:=cat [OwG w0.w.heap.size 3 1 [] ((u.take (j+1)).map λ (k:Nat)=>InA k),QA 102426 (powW t u),InA (cosW t (u.take j)),RFA rf0]) [3,4] 0 1 2 2 rfl U rfl rfl rfl o1 o2 cC rfl zk zk zk (λ cs hp=>by have h:=EX (f:=0) rfl rfl hp;rw [Lm hj];exact h) (λ w U=>?_);refine CZ ?_;have U:=zn (Wc 1 9) S1 U;refine aa<|zgd [[],[0],[],[2],[],[],[4,5],[4,5,6],[2,3,4,5,6,7],[2,3,4,5,6,7,8],[2,3,4,5,6,7,8,9],(Wm 11),(Wm 12),(Wm 13)] [none,none,some (13,_)] [] (.adr 48 8 (.some 5) True::.v 49 _::.adr 50 2 (.some 1) True::(Wo 51 [.adr 60 8 (.some 5) True,.sto 2])) We ac U (zO 2 G eS (zL 0 2 2 G ty_3 (zO 0 G bK (zL 2 0 1 G dW (zM 0 G (zM 1 G (zv G (bM dN (cc λ _=>rfl) (bk hF hv1 (vq 4 G)) (vq 5 G) (bG hj)) (zv G (ap (vq 6 G) ty_3) (zv G (bM fg (cc λ _=>rfl) (vq 3 G) (vq 7 G) (bG hkp)) (zv G (bP (vq 8 G) dr (Sub.part 2 G G)) (zv G (ap (vq 9 G) ty_3) (zv G (aL (vq 1 G) (vq 10 G) ((Nm hc hj hu12 hp hkp))) (zO 2 G eS (oc (cX 12 G G G G zk (vq 11 G) ty_3 (Put.part 2 G G G)) o0)))))))))))))) zk zk zk zk (zz (Wc 1 9) S1 λ a w U=>?_);refine al ?_;refine aa<|zg UO [] (W6 37 [.v 9 _]) Ue U (zM 1 G (zv G (aL (vq 0 G) ab ((wi64 zo zo).trans (by omega:(_:Int)=((j+1:Nat):Int)))) (zA 1 G o0))) (zz (Wc 1 9) S1 λ a w U=>?_);refine aa ?_;have U:=St.sel U [0,1];exact ⟨n-1,by omega,j+1,by omega,U⟩
  ·obtain rfl:j=u.length:=by rw [qd] at hb1;have:=qw hb1;omega
   rw [qJ] at U;refine qP<|ai<|ai<|az<|zt ?_;have U:=St.wkB (A':=cat [SlP (λ g=>w0.w.heap.size≤g) 3 [] ((u.map λ (k:Nat)=>(k:Int)).map InA),QA 102426 (powW t u),InA (cosW t u),RFA rf0]) U 2 rfl (λ cs hp=>uE (f:=0) (A:=OwG w0.w.heap.size 3 1 [] (u.map λ (k:Nat)=>InA k)) rfl (λ c h=>P2 U.bt26 h) (λ _ _ _ h=>h) hp);have U:=zn (Wa 1 9 36) S1 U;refine zg [η,η,some (6,_)] [] (.adr 61 8 (.some 1) True::.v 62 _::.adr 63 2 (.some 2) True::(W6 64 [.adr 66 8 (.some 6) True,.sto 2])) [] U (zO 2 G oE (zL 0 2 1 G au (zO 0 G ek (zL 2 0 2 G au (zQ G ((pE (c:=102426) (d:=2048) zd).wk (.cons aM (.cons (qa_x htg (qh _)).va .nil))) (.p (vq 1 G) (vq 3 G)) (zO 2 G fW (oc (cX 5 G G G G zk (vq 4 G) au (Put.part 3 G G G)) o0))))))) (zz [] S1 ?_);refine ztA<|zsA<|zgA Ul [] (.adr 67 8 (.some 6) True::(Wb 68)) UG (zO 2 G fW (zL 0 2 3 G au (zQ G r2sign_q (.o (vq 1 G)) (zv G (aO (vq 2 G) ab) o0)))) (zz [(70,_)] S1 λ a w U=>?_);refine zJ 0 U G (λ hb2=>?_) (λ hb2=>?_)
   ·refine zg [η,η,some (4,_)] [] (.adr 71 8 (.some 6) True::(W6 72 [.adr 74 8 (.some 6) True,.sto 2])) [] U (zO 2 G fW (zL 0 2 3 G au (zQ G (iP zd) (.o (vq 1 G)) (zO 2 G fW (oc (cX 3 G G G G zk (vq 2 G) au (Put.part 3 G G G)) o0))))) (zz [] S1 ?_);refine ztA<|zgA [none,some (1,_),none] [] [.v 75 _,.sto 1] [] (zl 2 G iH (zS 0 G iH o0)) (zz [] S1 λ a w U=>?_);refine aa<|qi<|am ?_ (ax G U (zm 1 G) iH);rw [Q1 hb2];exact (bi (.cons (.refl _) (.cons (bY zd) (.cons (.refl _) (.cons (bY zd) .nil))))).va
   ·refine qj<|zt<|zg [η,some (1,_),η] [] [.v 75 _,.sto 1] [] U (zl 2 G iH (zS 0 G iH o0)) (zz [] S1 λ a w U=>?_);refine aa<|qi<|am ?_ (ax G U (zm 1 G) iH);rw [Q3 hb2];exact (bi (.cons (.refl _) (.cons (bY zd) (.cons (.refl _) (.cons (bY zd) .nil))))).va
theorem PS {x y:Int}:decide (x<y)=decide (cmp1 x y<0):=by
 unfold cmp1;by_cases h:x<y
 ·simp [h]
 ·by_cases h2:x>y
  ·simp [h,h2]
  ·simp [h,h2]
theorem PR {x y:Int}(h:(x != y)=true):cmp1 x y≠0:=by
 have h:x≠y:=by simpa using h
 unfold cmp1;by_cases h1:x<y
 ·simp [h1]
 ·rw [qy h1,qC zo];decide
theorem PU {x y:Int}(h:(x != y)=false):cmp1 x y=0:=by
 have h:x=y:=by simpa using h
 subst h;unfold cmp1;rw [qy zo,qy zo]
theorem NQ {x y:WyQ}(hl:x.l.length=y.l.length)(h:cmpL x.l y.l=cmpL (x.l.drop x.l.length) (y.l.drop x.l.length)):false=decide (cmpL x.l y.l<0):=by
 rw [h,oS,qy zo];rfl
theorem rW (x y:WyQ)(hl:x.l.length=y.l.length)(hx:x.l.length≤1000):Cn Tryz.prog 30 [(WrQ x).va,(WrQ y).va] (Bo (betF x y)):=by
 refine Cn.intro Tryz.func30 G zk nq (zy [(0,(WrQ x).va),(1,(WrQ y).va)] λ B w0 a U=>?_);refine qb<|zg [] [zpL 2 80 0 _,zpL 3 80 1 _] Uz U9 U (zW 0 G (zW 1 G (zE G aJ))) (zz U0 S2 ?_);refine ztA<|zgA UC [] (.adr 7 2 (.some 6) True::.v 8 _::.adr 9 3 (.some 6) True::(W6 10 [.v 5 _])) [.g 0,.o 5] (zO 0 G fW (zL 0 0 3 G au (zO 1 G fW (zL 2 1 3 G au (zQ G (Iw zd) (.p (vq 1 G) (vq 3 G)) (zA 4 G o0)))))) (zz (Wc 4 5) S2 ?_);refine ztA<|zsA<|zgA UC [] (W6 12) UF (zM 1 G (zv G (c9 (vq 0 G) ab) o0)) (zz (Wa 4 5 13) S2 λ a w U=>?_);refine zJ 2 U G (λ hb0=>?_) (λ hb0=>?_)
 ·refine qb<|zg UE [] (W6 14 [.v 4 _]) U9 U (zM 1 G (zv G (aO (vq 0 G) ab) (zA 1 G o0))) (zz U0 S2 λ a w U=>?_);refine aa<|qi<|aj ?_;refine am ?_ (ak G U (zm 0 G));rw [betF,qC hb0];exact aM
 ·refine qj<|zt<|qb<|zg UE [] (.adr 16 2 (.some 5) True::.v 17 _::.adr 18 3 (.some 5) True::(W6 19)) Uw U (zO 0 G eS (zL 0 0 2 G ty_3 (zO 1 G eS (zL 2 1 2 G ty_3 (zv G (c9 (vq 1 G) (vq 3 G)) o0))))) (zz (Wc 4 20) S2 λ a w U=>?_);refine zJ 1 U G (λ hb1=>?_) (λ hb1=>?_)
  ·refine qb<|zg UE [] (.adr 21 2 (.some 5) True::.v 22 _::.adr 23 3 (.some 5) True::(W6 24 [.v 4 _])) [.o 5] U (zO 0 G eS (zL 0 0 2 G ty_3 (zO 1 G eS (zL 2 1 2 G ty_3 (zv G (aO (vq 1 G) (vq 3 G)) (zA 4 G o0)))))) (zz U0 S2 λ a w U=>?_);refine aa<|qi<|aj ?_;refine am ?_ (ak G U (zm 0 G));rw [betF,qy (by rw [hb0];decide),qC hb1];exact aM
  ·refine qj<|zt<|qb<|zg UE [] U2 UZ U (zE G ab) (zz (Wc 4 6) S2 λ a w U=>?_);refine aa<|qk ?_;have U:=St.sel U [1];refine wp_loop_ghost (λ n a w=>∃ j:Nat,(n+j=x.l.length∧cmpL x.l y.l=cmpL (x.l.drop j) (y.l.drop j))∧St B w0 55 [(6,In (j:Nat))] [⟨2,80,ptrH,WrQ x⟩,⟨3,80,ptrH,WrQ y⟩] a w) (x.l.length) ?_ ?_
   ·exact ⟨0,⟨by omega,rfl⟩,U⟩
   intro n a w hI;obtain ⟨j,⟨hn,hno⟩,U⟩:=hI;refine qb<|qb<|zg UE [] (.v 26 _::.adr 27 2 (.some 0) True::(Wb 28)) Uw U (zM 0 G (zO 0 G ej (zL 1 0 0 G cC (zv G (bn qL (vq 2 G)) (zv G (aO (vq 0 G) (vq 3 G)) o0))))) (zz (Wc 6 30) S2 λ a w U=>?_);refine zJ 1 U G (λ hb2=>?_) (λ hb2=>?_)
   ·have hj:j<x.l.length:=by rw [qd] at hb2;have:=qu hb2;omega
    have hjy:j<y.l.length:=by omega
    refine qj<|zt<|qk<|qb<|zgd [[],[0],[],[0,1,2],(Wm 4),[],[5],[],[5,6,7],[5,6,7,8],(Wm 10)] UC [] (.adr 33 2 (.some 0) True::(Ww 34 (.adr 38 3 (.some 0) True::(Wd 39)))) [.g 0,.o 10] ac U (zO 0 G ej (zL 0 0 0 G cC (zM 0 G (zv G (bM dN (cc λ _=>rfl) (vq 1 G) (vq 2 G) (bG hj)) (zv G (ap (vq 3 G) ty_3) (zO 1 G ej (zL 5 1 0 G cC (zM 0 G (zv G (bM dN (cc λ _=>rfl) (vq 6 G) (vq 7 G) (bG hjy)) (zv G (ap (vq 8 G) ty_3) (zv G (c9 (vq 4 G) (vq 9 G)) o0))))))))))) zk zk zk zk (zz (Wc 6 43) S2 λ a w U=>?_);refine zJ 1 U G (λ hb3=>?_) (λ hb3=>?_)
    ·refine qb<|zgd [[],[0],[],[0,1,2],(Wm 4),[],[5],[],[5,6,7],[5,6,7,8],(Wm 10),(Wm 11)] UC [] (.adr 44 2 (.some 0) True::(Ww 45 (.adr 49 3 (.some 0) True::(Wd 50 [.v 4 _])))) [.g 0,.o 11] ac U (zO 0 G ej (zL 0 0 0 G cC (zM 0 G (zv G (bM dN (cc λ _=>rfl) (vq 1 G) (vq 2 G) (bG hj)) (zv G (ap (vq 3 G) ty_3) (zO 1 G ej (zL 5 1 0 G cC (zM 0 G (zv G (bM dN (cc λ _=>rfl) (vq 6 G) (vq 7 G) (bG hjy)) (zv G (ap (vq 8 G) ty_3) (zv G (aO (vq 4 G) (vq 9 G)) (zA 10 G o0)))))))))))) zk zk zk zk (zz (Wc 6 4) S2 λ a w U=>?_);refine aa<|qi<|aD ?_;refine aj ?_;refine aj ?_;refine aD ?_;refine aj ?_;refine am ?_ (ak G U (zm 1 G));rw [betF,qy (by rw [hb0];decide),qy (by rw [hb1];decide),hno,Cy hj hjy (PR hb3),← PS];exact aM
    ·refine qj<|al ?_;refine aa<|zg UE [] (W6 31 [.v 6 _]) U9 U (zM 0 G (zv G (aL (vq 0 G) ab ((wi64 zo zo).trans (by omega:(_:Int)=((j+1:Nat):Int)))) (zA 1 G o0))) (zz [(6,_)] S2 λ a w U=>?_);refine aa ?_;have U:=St.sel U [0];exact ⟨n-1,by omega,j+1,⟨by omega,hno.trans (Cz hj hjy (PU hb3))⟩,U⟩
   ·obtain rfl:j=x.l.length:=by rw [qd] at hb2;have:=qw hb2;omega
    refine qP<|ai<|ai<|az<|zt<|zg UE [] WP WZ U (zE G aJ) (zz U0 S2 λ a w U=>?_);refine aa<|qi<|am ?_ (ak G U (zm 0 G));rw [betF,qy (by rw [hb0];decide),qy (by rw [hb1];decide),← NQ hl hno];exact aM
def nxW (p a:Nat):Nat→List Nat→Bool × List Nat
 | _,[]=>(false,[])
 | i,x::l=>if (nxW p a (i+1) l).1 then (true,x::(nxW p a (i+1) l).2) else if i<a then (false,x::(nxW p a (i+1) l).2) else if x+1<p then (true,(x+1)::(nxW p a (i+1) l).2) else (false,0::(nxW p a (i+1) l).2)
theorem B4 (p a:Nat):∀ (l:Ya) (i:Nat),(nxW p a i l).2.length=l.length
 | [],_=>rfl
 | x::l,i=>by
  have h:=B4 p a l (i+1);unfold nxW;split
  ·simp [h]
  ·split
   ·simp [h]
   ·split <;> simp [h]
theorem B3 {p a:Nat}:∀ (l m:Ya) (i:Nat),i+l.length≤a→nxW p a i (l++m)=((nxW p a (i+l.length) m).1,l++(nxW p a (i+l.length) m).2)
 | [],m,i,_=>by simp
 | x::l,m,i,h=>by
  simp only [zc] at h;have ih:=B3 (p:=p) (a:=a) l m (i+1) zo;rw [j2,nxW,ih];have e:i+1+l.length=i+(x::l).length:=by simp only [zc];omega
  rw [e];by_cases hc:(nxW p a (i+(x::l).length) m).1=true
  ·rw [qC hc,hc];rfl
  ·rw [qy hc,qC zo,xI.2 hc];rfl
theorem B5 {p:Nat}{ah:Ya}(hp:0<p):∀ f i r,r<cntW p ah.length f i→nxW p ah.length i (exW p ah f i r)=if r+1<cntW p ah.length f i then (true,exW p ah f i (r+1)) else (false,exW p ah f i 0)
 | 0,i,r,h=>by
  rw [cntW] at h;rw [cntW,qy zo];rfl
 | f+1,i,r,h=>by
  by_cases hi:i<ah.length
  ·rw [sG hi] at h ⊢;have ih:=B5 hp f (i+1) r h;rw [rl hi,rl hi,rl hi,nxW,ih];by_cases hc:r+1<cntW p ah.length f (i+1)
   ·rw [qC hc,qC hc];rfl
   ·rw [qy hc,qy hc,qy vX,qC hi]
  ·rw [sF hi] at h ⊢;have hc0:=dL (a:=ah.length) hp f (i+1);obtain ⟨c,hc⟩:∃ c,cntW p ah.length f (i+1)=c:=⟨_,rfl⟩;have hs:r%c<c:=qU _ zo;have hq:r/c<p:=z4 (by rw [qW,← hc];exact h);have hr:r=r/c*c+r%c:=by have:=xP r c;rw [qW] at this;exact this.symm
   have ih:=B5 hp f (i+1) (r%c) (by rw [hc];exact hs);rw [hc] at ih h;obtain ⟨q,hqe⟩:∃ q,r/c=q:=⟨_,rfl⟩;obtain ⟨s,hse⟩:∃ s,r%c=s:=⟨_,rfl⟩;rw [hqe,hse] at hr;rw [hse] at ih hs;rw [hqe] at hq;have at_:∀ q r,r<c→exW p ah (f+1) i (q*c+r)=q::exW p ah f (i+1) r:=λ q r h=>by
    have:=Cf (p:=p) (ah:=ah) (f:=f) (i:=i) (q:=q) (r:=r) hi (by rw [hc];exact h);rwa [hc] at this
   have h0:exW p ah (f+1) i 0=0::exW p ah f (i+1) 0:=by have:=at_ 0 0 zo;rwa [x9,qV] at this
   rw [hc,hr,at_ q s hs,nxW,ih]
   have hm:(q+1)*c≤p*c:=qI c zo;have hm1:(q+1)*c=q*c+c:=xD q c;by_cases h1:s+1<c
   ·rw [qC h1,qC rfl,qC zo,je,at_ q (s+1) h1]
   ·rw [qy h1,qy vX,qy hi];have e:q*c+s+1=(q+1)*c+0:=by omega
    by_cases h2:q+1<p
    ·have hm2:(q+1+1)*c≤p*c:=qI c zo;have hm3:(q+1+1)*c=(q+1)*c+c:=xD (q+1) c;rw [qC h2,qC zo,e,at_ (q+1) 0 zo]
    ·have:q+1=p:=by omega
     rw [qy h2,qy (by rw [← this];omega),h0]
theorem ex_0 {p:Nat}{ah:Ya}(hp:0<p):∀ f i,exW p ah f i 0=((ah.drop i).take f)++List.replicate (f-(ah.length-i)) 0
 | 0,i=>by simp [exW]
 | f+1,i=>by
  by_cases hi:i<ah.length
  ·rw [rl hi,ex_0 hp f (i+1),qG hi,kh,j2];have e:f+1-(ah.length-i)=f-(ah.length-(i+1)):=by omega
   rw [e]
  ·have hc0:=dL (a:=ah.length) hp f (i+1);have:=Cf (p:=p) (ah:=ah) (f:=f) (i:=i) (q:=0) (r:=0) hi hc0;rw [x9,qV] at this;rw [this,ex_0 hp f (i+1),zq zo,zq zo,vg,vg,xw,xw];have e:f+1-(ah.length-i)=(f-(ah.length-(i+1)))+1:=by omega
   rw [e,kn]
theorem pV {l:Ya}(h:(cat ((l.map λ (k:Nat)=>(k:Int)).map InA)).p B cs w):cs=l.map λ (x:Nat)=>Value.int .i64 x:=by
 rw [iA h,xq];rfl
section
variable {B N:Nat}{w0:Bs}{Γ:List (Nat × VA)}{Λ:List Lc}{a:Act}{w:World}
end
section
open Rg
variable {R:Rg}{B i:Nat}{w0:Bs}
end
theorem St.nmH {B N:Nat}(h:St B w0 N Γ Λ a w){s T n c:Nat}{A:As}(k:Nat)(hm:Λ[k]?=some ⟨s,T,slH n c,A⟩):∃ g,St B w0 N ((s,EqV (.slice (some ⟨g,0,none⟩) n c))::Γ) Λ a w:=by
 obtain ⟨g,cs,e,_⟩:=h.locs _ (qa hm);refine ⟨g,h.lo,h.defers,h.size,h.base,λ x hx=>?_,h.locs,h.dis⟩;rcases qr.1 hx with rfl|hx
 ·exact e
 ·exact h.vals x hx
section
open Rg
variable {P:Program}{Q:Exit→Act→World→Prop}{B N:Nat}{w0:Bs}{Γ:List (Nat × VA)}{Λ:List Lc}{a:Act}{w:World}{ops:Array Oper}{i:Nat}{K:Act→World→Prop}
theorem Md {d s u t2 n mm c hp:Nat}{S E T1:Yh}{q l:Ya}(src:Ya)(ks ku kq e:Nat)
  (ho:ops[i]?=some ⟨some d,.call ⟨.builtin .copy,#[.tmp s,.tmp u],#[S,S]⟩,T1,ps,af,none⟩) (h:St B w0 N Γ Λ a w)
  (hs:Γ[ks]?=some (s,EqV (.slice (some ⟨hp,0,none⟩) n c))) (hq:Γ[kq]?=some (t2,EqV (.slice (some ⟨hp,0,none⟩) n c))) (hu:Γ[ku]?=some (u,(SlA E [] (l.map λ (k:Nat)=>InA (k:Int))).va)) (hl:Λ[e]?=some ⟨t2,E,slH n c,Nums .i64 q⟩)
  (hS:P.underlying S=some (.slice E)) (hsz:(P.info? E).map (·.size)=some 1) (hn:l.length=mm) (hmn:mm≤n) (hqc:q.length=c) (hnc:n≤c) (hd:d<N) (hΓ:Γ.all (λ x=>x.1 != d)=true) (hΛd:Λ.all (λ l=>l.s != d)=true)
  (hsrc:src.all (λ k=>match Γ[k]? with|some y => !y.2.deps.contains E|none=>false)=true) (hΛ:Λ.zipIdx.all (λ x=>x.2==e || (x.1.s != t2 && !x.1.A.deps.contains E))=true)
  (hK:∀ v w',St B w0 N (src.filterMap λ k=>Γ[k]?) (Λ.set e ⟨t2,E,slH n c,Nums .i64 (l++q.drop mm)⟩) (a.put (some d) v) w'→K (a.put (some d) v) w'):wpOp P ops Q i K a w:=by
 have e1:a.eval (.tmp s)=.slice (some ⟨hp,0,none⟩) n c:=h.vals _ (qa hs);have e2:a.eval (.tmp t2)=.slice (some ⟨hp,0,none⟩) n c:=h.vals _ (qa hq);obtain ⟨g,cs,q1,q2,q3,q4⟩:=h.locs _ (qa hl);have q1':a.eval (.tmp t2)=.slice (some ⟨g,0,none⟩) n c:=q1;have hgp:hp=g:=by rw [e2] at q1';injection q1' with q1';injection q1' with q1';injection q1'
 subst hgp;have hcs:cs=q.map λ (x:Nat)=>Value.int .i64 x:=q4;have hu3:=h.vals _ (qa hu);obtain ⟨cs1,⟨_,Ad,cap,ds,rfl,_,_,h5,h6⟩,hu'⟩:=hu3;have e3:a.eval (.tmp u)=.slice Ad (l.map λ (k:Nat)=>InA (k:Int)).length cap:=hu';rw [qd,hn] at e3;have hds:ds=l.map λ (x:Nat)=>Value.int .i64 x:=pV (l:=l) (by rw [xq];exact h5);have hB:B≤hp:=h.lo hp q2;have hE:∀ k,k<w.heap.size→k≠hp→True:=λ _ _ _=>trivial;have key:∃ v,(Builtin.copy_ #[S,S] T1 #[.slice (some ⟨hp,0,none⟩) n c,.slice Ad mm cap]).run P w=.ok v (w.setRow hp (List.toArray ((l++q.drop mm).map λ (x:Nat)=>Value.int .i64 x))):=by
  by_cases h0:mm=0
  ·refine ⟨goInt 0,?_⟩;have hl0:l=[]:=z9 zo;rw [run_copy_none w S S T1 E (some ⟨hp,0,none⟩) Ad n c mm cap hS hsz (by rw [h0];exact Nat.zero_min n)]
   congr 1
   rw [hl0,h0,xw,xl,← hcs];have e9:∀ h:Array Obj,h=w.heap→w=({ w with heap:=h }:World):=λ h e=>by rw [e]
   unfold World.setRow;refine e9 _ (jN λ k=>?_);rw [Array.getElem?_modify];by_cases hk:hp=k
   ·subst hk;rw [qC rfl,q3]
    rfl
   ·rw [qy hk]
  ·obtain ⟨b,o,hAd,_,_,h8⟩:=h6 (by rw [qd];omega);subst hAd;refine ⟨goInt ds.length,(run_copy_row P w S S T1 E hp 0 n c ⟨b,o,none⟩ mm cap (List.toArray cs) E ds hS hsz q3 (by rw [hds,qd,hn];exact (xc hmn).symm) (λ j v hj=>by rw [sU];exact h8 j v hj) (by rw [hds,hcs];simp;omega) (λ v hv=>by
    rw [hds] at hv;obtain ⟨x,_,rfl⟩:=qp.1 hv
    rfl)).trans ?_⟩
   congr 2
   rw [hds,hcs];simp [hn]
 obtain ⟨v,hr⟩:=key;have hW:=Wr.setRow w hp (List.toArray ((l++q.drop mm).map λ (x:Nat)=>Value.int .i64 x));have U:St B w0 N (src.filterMap λ k=>Γ[k]?) (Λ.set e ⟨t2,E,slH n c,Nums .i64 (l++q.drop mm)⟩) a (w.setRow hp (List.toArray ((l++q.drop mm).map λ (x:Nat)=>Value.int .i64 x))):=by
  refine ⟨h.lo,h.defers.keep rfl λ D hD=>(hW.block D (λ e=>by subst e;rw [q3] at hD;cases hD)).trans hD,h.size,h.base.wr hW q2,λ x hx=>?_,λ m hm=>?_,λ m1 hm1 m2 hm2 hne=>?_⟩
  ·obtain ⟨k',hk1,hk2⟩:=qH.1 hx;have:=qe.1 hsrc k' hk1;simp only [hk2,qz,qB,qm] at this;exact x.2.wr _ _ _ _ _ _ _ _ q3 this hB hW (h.vals x (qa hk2))
  ·obtain ⟨j,hj⟩:=List.getElem?_of_mem hm;by_cases e5:j=e
   ·subst e5;have:m=⟨t2,E,slH n c,Nums .i64 (l++q.drop mm)⟩:=by
     rw [List.getElem?_set_self (List.getElem?_eq_some_iff.1 hl).1] at hj;injection hj with hj;exact hj.symm
    subst this;exact ⟨hp,_,q1,q2,setRow_heap w hp _ _ _ _ q3,rfl⟩
   ·rw [List.getElem?_set_ne (λ e2=>e5 e2.symm)] at hj;have hc:=qe.1 hΛ (m,j) (zj.2 hj);simp only [zU,xr,qo,bne_iff_ne,qz,qB,qm] at hc;have hc':=hc.resolve_left e5;obtain ⟨g',cs2,p1,p2,p3,p4⟩:=h.locs m (qa hj);have hne:g'≠hp:=λ hh=>h.dis m (qa hj) _ (qa hl) hc'.1 (by rw [p1,q1,hh,m.H.ok,Hd.ok]);exact ⟨g',cs2,p1,p2,(hW.block g' hne).trans p3,m.A.wr _ _ _ _ _ _ _ _ q3 hc'.2 hB hW p4⟩
  ·have hs:∀ m∈Λ.set e ⟨t2,E,slH n c,Nums .i64 (l++q.drop mm)⟩,∃ m0∈Λ,m0.s=m.s:=λ m hm=>by
    rcases qq hm with hm|rfl
    ·exact ⟨m,hm,rfl⟩
    ·exact ⟨_,qa hl,rfl⟩
   obtain ⟨m3,r1,r2⟩:=hs m1 hm1;obtain ⟨m4,r3,r4⟩:=hs m2 hm2;rw [← r2,← r4] at hne ⊢;exact h.dis m3 r1 m4 r3 hne
 have hst2:=U.addV (d:=d) (v:=v) (A:=EqV v) hd (qe.2 λ x hx=>by
  obtain ⟨k,hk1,hk2⟩:=qH.1 hx;exact qe.1 hΓ x (qa hk2)) (qe.2 λ l' hl'=>by
  rcases qq hl' with hl' | rfl
  ·exact qe.1 hΛd l' hl'
  ·exact qe.1 hΛd (⟨t2,E,slH n c,Nums .i64 q⟩:Lc) (qa hl)) rfl
 unfold wpOp;simp only [ho,Region.wanted,if_true];refine .inl (aY (v:=v) ?_ (hK v _ ⟨hst2.lo,hst2.defers,hst2.size,hst2.base,λ x hx=>hst2.vals x (zi _ hx),hst2.locs,hst2.dis⟩));simp only [execOp,resolve,invoke,builtin,Sem.run_bind,Sem.run_pure,Result.andThen_ok,j1,qS,js,e1,e3,hr]
end
theorem rz {q:Ya}:WkA (cat (q.map λ (k:Nat)=>InA k)) (Nums .i64 q):=⟨by
  show q.length=((q.map λ (k:Nat)=>InA k).map (·.n)).sum
  induction q with
  | nil=>rfl
  | cons x q ih=>rw [qS,qS,xo,← ih,zc];exact xg q.length 1,rfl,λ B cs w h=>by
  have h':(cat ((q.map λ (k:Nat)=>(k:Int)).map InA)).p B cs w:=by rw [xq];exact h
  exact pV h'⟩
theorem wO {q:Ya}:FreeA (cat (q.map λ (k:Nat)=>InA k)) (cat (q.map λ (k:Nat)=>InA k)):=bI (by
 induction q with
 | nil=>exact .nil
 | cons x q ih=>exact .cons (cq _ _) ih)
theorem St.asNew {B N:Nat}(h:St B w0 N Γ Λ a w){s r n:Nat}{g:Nat}{E:Yh}{q:Ya}(k ks kl:Nat)(hm:Γ[k]?=some (s,EqV (.slice (some ⟨g,0,none⟩) n n)))(hr:Γ[ks]?=some (r,EqV (.slice (some ⟨g,0,none⟩) n n)))(hl:Λ[kl]?=some ⟨r,E,slH n n,Nums .i64 q⟩)(hn:q.length=n):
  St B w0 N (Γ.set k (s,NewB E (q.map λ (k:Nat)=>InA k))) Λ a w:=by
 obtain ⟨g',cs,q1,q2,q3,q4⟩:=h.locs _ (qa hl);have e1:a.eval (.tmp r)=.slice (some ⟨g,0,none⟩) n n:=h.vals _ (qa hr);have e1':a.eval (.tmp r)=.slice (some ⟨g',0,none⟩) n n:=q1;have hgp:g=g':=by rw [e1] at e1';injection e1' with e1';injection e1' with e1';injection e1'
 subst hgp;have hcs:cs=q.map λ (x:Nat)=>Value.int .i64 x:=q4;refine ⟨h.lo,h.defers,h.size,h.base,λ x hx=>?_,h.locs,h.dis⟩;rcases qq hx with hx|rfl
 ·exact h.vals x hx
 ·have e2:a.eval (.tmp s)=.slice (some ⟨g,0,none⟩) n n:=h.vals _ (qa hm);refine ⟨g,cs,by rw [qd,hn];exact e2,h.lo g q2,by simpa using q3,?_⟩;have:=cQ (B:=B) (w:=w) (q.map λ (k:Nat)=>(k:Int));rw [xq,xq] at this;rw [hcs];exact this
section
open Rg
variable {P:Program}{Q:Exit→Act→World→Prop}{R:Rg}{B i:Nat}{w0:Bs}
theorem DV {f:Yn}{E:Yh}{l:Yb}{pre pre':Yc}{xs:Ys}{at_:Yr}(hc:Cn P f pre' (NewB E l))(hfree:FreeA (cat l) (cat l))(hup:All2 Up pre pre')(hx:HasL R B w0 i xs pre):Wv P Q R B w0 i (.call ⟨.value (.func f),xs.toArray,at_⟩) (NewR w0.w.heap.size E l):=by
 intro d T ps af gd a w av K hK;obtain ⟨⟨fn,hf,hn,hb⟩,hcall⟩:=hc;have hrun:(execOp a.eval ⟨some d,.call ⟨.value (.func f),xs.toArray,at_⟩,T,ps,af,gd⟩).run P w=.ok (.enter f (xs.map a.eval).toArray) w:=by
  simp only [execOp,resolve,Act.eval,Deferred.ofValue,Sem.run_bind,Sem.run_pure,Result.andThen_ok,invoke,bb hf hn hb];simp
 unfold Oper.wp;rw [hrun];refine (hcall w.heap.size w _ (qh _) (sR hup hx av)).mono λ e w' ⟨v,he,⟨g,ds,h1,h2,h3,h4⟩,hg⟩=>?_;subst he;exact hK v w' hg ⟨g,ds,h1,qf av.base.size h2,h3,hfree.2.2 _ _ _ _ (Av.bw av) h4⟩
theorem tW {t b n c:Nat}{E:Yh}{l:Ya}(j:Nat)(hj:R.sp[j]?=some (.adr t b .none True))(hji:(R.anc i).contains j=true)(hl:LocH R i b E (slH n c) (Nums .i64 l))(h:n=l.length∧n=c∧c≤2000):Has R B w0 i (.tmp t) (SlA E [] (l.map λ (k:Nat)=>InA k)).va:=λ a w av=>by
 obtain ⟨g,cs,e1,hgm,h3,h4⟩:=hl.ok av;have h2:=av.d j t b .none True hji hj trivial;have hcs:cs=l.map λ (x:Nat)=>Value.int .i64 x:=h4;obtain ⟨rfl,rfl,hc⟩:=h;refine ⟨[.slice (some ⟨g,0,none⟩) l.length l.length],⟨λ A hA T hT=>?_,_,l.length,cs,by simp,by simp,by unfold maxLen;omega,?_,λ _=>⟨g,0,rfl,(Array.getElem?_eq_some_iff.1 h3).1,.inr ⟨_,_,h3⟩,λ j u hu=>?_⟩⟩,h2.trans e1⟩
 ·obtain ⟨x,hx,rfl⟩:=qp.1 hA;cases hT
 ·have h5:=cQ (B:=B) (w:=w) (l.map λ (k:Nat)=>(k:Int));rw [xq,xq] at h5;rw [hcs];exact h5
 ·rw [qV,cell_of_row w g j cs.toArray E _ h3];simpa using hu
end
def nxS (p a:Nat)(l:List Nat)(n:Nat):List Nat:=l.take n++(nxW p a n (l.drop n)).2
theorem IY (p a:Nat)(l:Ya):nxS p a l l.length=l:=by unfold nxS;rw [qJ,xz];exact zr l
theorem Pc {p a:Nat}{l:Ya}{i:Nat}(h:i<l.length):nxS p a l (i+1)=l.take i++l[i]::(nxW p a (i+1) (l.drop (i+1))).2:=by
 unfold nxS;rw [qA h,qY];rfl
theorem tF {l Z:Ya}{i x:Nat}(hi:i<l.length)(hz:Z.length=l.length-(i+1)):i<(l.take i++x::Z).length:=by
 rw [qx,qX,zc];omega
theorem B2 {l Z:Ya}{i x:Nat}(hi:i<l.length)(h:i<(l.take i++x::Z).length):(l.take i++x::Z)[i]=x:=by
 have e:(l.take i).length=i:=by rw [qX];omega
 rw [List.getElem_append_right zo];simp [e]
theorem Gp {l Z:Ya}{i x v:Nat}(hi:i<l.length):(l.take i++x::Z).set i v=l.take i++v::Z:=by
 rw [eH _ _ _ _ (by rw [qX];omega)];rfl
theorem Mq {l Z:Ya}{i x:Nat}(hi:i<l.length)(hx:x≤1000)(h:i<(l.take i++x::Z).length):IntKind.i64.wrap ((((l.take i++x::Z)[i]:Nat):Int)+1)=((x+1:Nat):Int):=by
 rw [B2 hi];exact (wi64 zo zo).trans zo
theorem Mr {p a:Nat}:∀ (l m:Ya) (i:Nat),(nxW p a (i+l.length) m).1=true→nxW p a i (l++m)=(true,l++(nxW p a (i+l.length) m).2)
 | [],m,i,h=>by
  rw [xp,xU] at h;rw [xw,xp,xU,xw,← h]
 | x::l,m,i,h=>by
  have e:i+1+l.length=i+(x::l).length:=by simp only [zc];omega
  have ih:=Mr (p:=p) (a:=a) l m (i+1) (by rw [e];exact h);rw [j2,nxW,ih,qC rfl,e];rfl
theorem Mn {p a:Nat}{l:Ya}{i:Nat}(hi:i<l.length)(ha:a≤i)(h:(nxW p a (i+1) (l.drop (i+1))).1=false)(hp:l[i]+1<p):nxW p a 0 l=(true,l.take i++(l[i]+1)::(nxW p a (i+1) (l.drop (i+1))).2):=by
 have e:nxW p a i (l.drop i)=(true,(l[i]+1)::(nxW p a (i+1) (l.drop (i+1))).2):=by
  rw [qG hi,nxW,qy (by rw [h];decide),qy zo,qC hp]
 have h1:0+(l.take i).length=i:=by rw [qX];omega
 have:=Mr (p:=p) (a:=a) (l.take i) (l.drop i) 0 (by rw [h1,e]);rw [h1,e,xv] at this;exact this
theorem Mo {p a:Nat}{l:Ya}{i:Nat}(hi:i<l.length)(ha:a≤i)(h:(nxW p a (i+1) (l.drop (i+1))).1=false)(hp:¬ l[i]+1<p):(nxW p a i (l.drop i)).1=false∧nxS p a l i=l.take i++0::(nxW p a (i+1) (l.drop (i+1))).2:=by
 have e:nxW p a i (l.drop i)=(false,0::(nxW p a (i+1) (l.drop (i+1))).2):=by
  rw [qG hi,nxW,qy (by rw [h];decide),qy zo,qy hp]
 exact ⟨by rw [e],by unfold nxS;rw [e]⟩
theorem Mp {p a:Nat}{l:Ya}{n:Nat}(hn:n≤l.length)(ha:n≤a)(h:(nxW p a n (l.drop n)).1=false):nxW p a 0 l=(false,nxS p a l n):=by
 have h1:0+(l.take n).length=n:=by rw [qX];omega
 have:=B3 (p:=p) (a:=a) (l.take n) (l.drop n) 0 (by rw [h1];exact ha);rw [h1,xv,h] at this;exact this
theorem Ay (p d:Nat)(l:Ya)(hp:p≤64)(hlp:∀ x∈l,x<p)(hln:l.length≤1000)(hd:d≤1000):Cm Tryz.prog 29 3 (Nums .i64 l) (Nums .i64 (nxW p d 0 l).2) [.w (slH l.length l.length),.v (In (p:Nat)),.v (In (d:Nat))] (Bo (nxW p d 0 l).1):=by
 refine Cm.intro Tryz.func29 G zk nq (λ B g w0 a U=>?_);have U:=zn [(0,EqV ((slH l.length l.length).f g)),(1,In (p:Nat)),(2,In (d:Nat))] [⟨0,3,slH l.length l.length,Nums .i64 l⟩] U;refine qb<|zg U3 [] U2 WX U (zE G aJ) (zz (Wf 0 1 2 6) [zpH 0 3 _] ?_);refine ztA<|zsA<|zgA U1 [] (.adr 8 0 .none True::(W6 9 [.v 7 _])) (Wp [.o 3]) (oc (ob_a G G cy) (zv G (Ge 0 G zk (lz0 0 G) qL) (zv G (ce (vq 1 G) (aE 1 G) (wi64 zo zo)) (zA 2 G o0)))) (zz (W8 0 1 2 6 7) [zpH 0 3 _] λ a w U=>?_);refine aa<|qk ?_;have U:=St.sel U [0,1,2,4];refine wp_loop_ghost (λ n a w=>(n≤l.length∧(nxW p d n (l.drop n)).1=false)∧St B w0 31 [(0,EqV ((slH l.length l.length).f g)),(1,In (p:Nat)),(2,In (d:Nat)),(7,In ((n:Int)-1))] [⟨0,3,slH l.length l.length,Nums .i64 (nxS p d l n)⟩] a w) (l.length) ?_ ?_
 ·exact ⟨⟨qh _,by rw [xz];rfl⟩,by rw [IY];exact U⟩
 intro n a w hI;obtain ⟨⟨hn,hnf⟩,U⟩:=hI;refine qb<|qb<|zg U3 [] (Wb 11) Rv U (zM 3 G (zM 2 G (zv G (dD (vq 0 G) (vq 1 G)) o0))) (zz (W8 0 1 2 7 13) [zpH 0 3 _] λ a w U=>?_);refine zJ 4 U G (λ hb0=>?_) (λ hb0=>?_)
 ·obtain ⟨i,rfl⟩:∃ i,n=i+1:=⟨n-1,by have:=qu hb0;omega⟩;rw [show ((i+1:Nat):Int)-1=(i:Int) from by omega] at U;have hil:i<l.length:=by omega
  have hai:d≤i:=by have:=qu hb0;omega
  have hlx:l[i]≤1000:=by have:=hlp _ (qg hil);omega
  have hzl:(nxW p d (i+1) (l.drop (i+1))).2.length=l.length-(i+1):=by rw [B4,xM]
  rw [Pc hil] at U;refine qj<|zt<|qk<|qb<|zg [some (6,_)] [] (.adr 16 0 .none True::.v 17 _::.adr 18 0 (.some _) True::(W6 19 [.adr 21 0 (.some _) True,.sto 0])) Wp U (oc (ob_a G G cy) (zM 3 G (oc (ob_a G G (dM 0 G zk (lz0 0 G) dN (vq 1 G) hil)) (zv G (me 2 G zk (lz0 0 G) (λ _=>bX _ _ _ _) (iU (tF hil hzl)) ty_3) (zv G (aL (vq 3 G) (aE 1 G) ((Mq hil hlx _))) (oc (ob_a G G (dM 0 G zk (lz0 0 G) dN (vq 1 G) hil)) (oc (co 5 G G G G zk (λ _=>bX _ _ _ _) (vq 4 G) ty_3 (bx (tF hil hzl))) o0))))))) (zz (Wf 0 1 2 7) [zpH 0 3 _] λ a w U=>?_);rw [Gp hil] at U;have U:=zn (Wf 0 1 2 7) [zpH 0 3 _] U;refine zt<|qb<|zg U3 [] (.adr 22 0 .none True::.v 23 _::.adr 24 0 (.some _) True::(Wb 25)) (Wp [.o 5]) U (oc (ob_a G G cy) (zM 3 G (oc (ob_a G G (dM 0 G zk (lz0 0 G) dN (vq 1 G) hil)) (zv G (me 2 G zk (lz0 0 G) (λ _=>bX _ _ _ _) (iU (tF hil hzl)) ty_3) (zM 1 G (zv G (aO (vq 3 G) (vq 4 G)) o0)))))) (zz (W8 0 1 2 7 27) [zpH 0 3 _] λ a w U=>?_);refine zJ 4 U G (λ hb1=>?_) (λ hb1=>?_)
  ·rw [B2 hil] at hb1;have hq:l[i]+1<p:=by have:=qu hb1;omega
   refine qb<|zg U3 [] U2 Uq U (zE G aJ) (zz (W8 0 1 2 7 6) [zpH 0 3 _] λ a w U=>?_);refine aa<|qi<|aj ?_;refine aD ?_;refine aj ?_;refine aj ?_;refine aD ?_;refine aj ?_;have e:=Mn hil hai hnf hq;have U:=St.wkL (A':=Nums .i64 (nxW p d 0 l).2) U 0 rfl (fa (qt (Nums .i64) (by rw [e])));refine gg U (zm 0 G) (zm 0 G) ?_;refine am ?_ (ak G U (zm 4 G));exact bf (qt Bo (by rw [e]))
  ·rw [B2 hil] at hb1;have hq:¬ l[i]+1<p:=by have:=qw hb1;omega
   refine qj<|aa<|zg Uh [] [.adr 28 0 .none True,.v 29 _,.adr 30 0 (.some _) True,.sto 0] Wp U (oc (ob_a G G cy) (zM 3 G (oc (ob_a G G (dM 0 G zk (lz0 0 G) dN (vq 1 G) hil)) (oc (co 2 G G G G zk (λ _=>bX _ _ _ _) (aE 0 G) ty_3 (bx (tF hil hzl))) o0)))) (zz (Wf 0 1 2 7) [zpH 0 3 _] λ a w U=>?_);rw [Gp hil] at U;have U:=zn (Wf 0 1 2 7) [zpH 0 3 _] U;refine al ?_;refine aa<|zg U3 [] (W6 14 [.v 7 _]) UD U (zM 3 G (zv G (ce (vq 0 G) (aE 1 G) (wi64 zo zo)) (zA 1 G o0))) (zz (Wf 0 1 2 7) [zpH 0 3 _] λ a w U=>?_);refine aa ?_;have U:=St.sel U [0,1,2,3];exact ⟨i,by omega,⟨by omega,(Mo hil hai hnf hq).1⟩,by rw [(Mo hil hai hnf hq).2];exact U⟩
 ·have hnd:n≤d:=by have:=qw hb0;omega
  refine qP<|ai<|ai<|az<|zt<|zg U3 [] U2 UZ U (zE G aJ) (zz (Wc 0 6) [zpH 0 3 _] λ a w U=>?_);refine aa<|qi ?_;have e:=Mp hn hnd hnf;have U:=St.wkL (A':=Nums .i64 (nxW p d 0 l).2) U 0 rfl (fa (qt (Nums .i64) (by rw [e])));refine gg U (zm 0 G) (zm 0 G) ?_;refine am ?_ (ak G U (zm 1 G));exact bf (qt Bo (by rw [e]))
theorem M3 {b B g n:Nat}(h:(EqV (.slice (some ⟨g,0,none⟩) n n)).p B v w)(hq:PkR 3 g w (List.replicate n (0:Int)))(hb:b≤g):(NewR b 3 ((List.replicate n 0).map λ (k:Nat)=>InA k)).p B v w :=
 ⟨g,(List.replicate n (0:Int)).map λ (x:Int)=>Value.int .i64 x,by rw [qd,qR];exact h,hb,hq,by
  have h2:=cQ (B:=B) (w:=w) (List.replicate n (0:Int));rw [jJ] at h2 ⊢;exact h2⟩
theorem Ex:(Tryz.prog.info? 3).map (·.size)=some 1:=by kernel_rfl
theorem uY {t:RTk}{u:Ya}{nn:Nat}(hs:sloF t=(nn:Int))(hn:nn≤12)(hu:u.length≤nn):Cn Tryz.prog 27 [(TkA t).va,(SlA 3 [] (u.map λ (k:Nat)=>InA (k:Int))).va] (NewB 3 ((u++List.replicate (nn-u.length) 0).map λ (k:Nat)=>InA k)):=by
 refine Cn.intro Tryz.func27 G zk nq (zy [(0,(TkA t).va),(1,(SlA 3 [] (u.map λ (k:Nat)=>InA (k:Int))).va)] λ B w0 a U=>?_);refine qb<|zg [] [zpL 2 30 0 _] [.alc 0,.v 4 _] [.g 1,.o 1] U (zW 0 G (zE G b9)) (zz (Wc 1 4) RA λ a w U=>?_);refine zt<|bJ (sp:=[.v 6 _,.v 7 _,.v 8 VT,.v 5 VT]) 2 2 99 2 OneC [.g 0,.g 1,.o 1] U (zl 0 G cU (zQ G ((np t).wkp (bf (qt In hs))) (.o (vq 0 G)) o0)) G zd zk zk (zz (Wa 1 4 7) RA λ a w U=>?_);rw [show List.range' 2 2=[2,3] from rfl];have hsz1:=U.base.size;rw [qv];refine Gl (n:=nn) 2 G U Mz G zo zd zk zk (λ a W hp U hqp hge hgp=>?_);obtain ⟨w,rfl⟩:∃ x,x=W:=⟨_,rfl⟩;have U:=St.setG (A':=NewR w0.w.heap.size 3 ((List.replicate nn 0).map λ (k:Nat)=>InA k)) U 0 rfl (λ h=>M3 h hqp (qf hsz1 hge));have U:=St.toLoc U 0 rfl zk;rw [qd,qR] at U;have U:=St.wkL U 1 rfl rz;obtain ⟨g8,U⟩:=St.nmH U 1 rfl;have U:=zn (Wf 8 1 4 7) [O 2 30 _,⟨8,3,slH nn nn,_⟩] U;rw [qv];refine o3 0 G U G zd zk zk (λ a U=>?_);refine dX ?_;have U:=zn (W8 5 8 1 4 7) [O 2 30 _,⟨8,3,slH nn nn,_⟩] U;refine zt<|bJ (sp:=[.v 9 _,.v 10 _,.v 11 VT]) 2 1 99 2 OneC [.g 0,.g 1,.g 3,.o 0,.o 1] U (zM 0 G (zM 2 G o0)) G zd zk zk (zz (W8 5 8 4 9 10) [O 2 30 _,⟨8,3,slH nn nn,_⟩] λ a w U=>?_);rw [show List.range' 2 1=[2] from rfl];rw [qv];refine Md [0,1] 3 4 1 1 G U G G G G qL Ex G hu qR (qh _) zd zk zk zk zk (λ v w U=>?_);refine dX ?_;have U:St B w0 13 [(5,_),(8,_)] [O 2 30 _,⟨8,3,slH nn nn,_⟩] _ w:=U;rw [vK] at U;refine zt<|zg UE [] [.v 12 _,.v 4 _] UF U (zM 0 G (zA 0 G o0)) (zz (Wa 5 8 4) [O 2 30 _,⟨8,3,slH nn nn,_⟩] λ a w U=>?_);have U:=St.asNew U 2 1 1 rfl rfl rfl (by rw [qx,qR];omega);have U:=zn (Wa 5 8 4) [O 2 30 _,⟨8,3,slH nn nn,_⟩] U;refine aa<|qi<|am ?_ (ak G U (zm 2 G));exact aM
theorem yi {E:Yh}{l:Yb}(h:∀ A∈l,UpA A A):UpA (SlA E D l) (SlA E D l):=⟨(iG h).1,(iG h).2.1,λ B cs w hB hp=>by
 have h2:=(iG h).2.2 B cs w hB hp;exact (slo_A (E:=E) (D:=D)).2.2 _ _ _ h2⟩
theorem lQ (t:RTk):UpA (TkA t) (TkA t):=iz (.cons (yi λ A hA=>by obtain ⟨x,_,rfl⟩:=qp.1 hA;exact gH x) (.cons (yi λ A hA=>by obtain ⟨x,_,rfl⟩:=qp.1 hA;exact yq x) (.cons (gH _) .nil)))
theorem Fc {p nn:Nat}{u:Ya}(hp:0<p)(hu:u.length≤nn):u++List.replicate (nn-u.length) 0=exW p u nn 0 0:=by
 rw [ex_0 hp,xl,qD hu,jq]
theorem IX {p nn k:Nat}{u:Ya}(hp:0<p)(hk:k<cntW p u.length nn 0):nxW p u.length 0 (exW p u nn 0 k)=if k+1<cntW p u.length nn 0 then (true,exW p u nn 0 (k+1)) else (false,exW p u nn 0 0):=B5 hp nn 0 k hk
theorem nx_y {p nn k:Nat}{u:Ya}(hp:0<p)(hk:k<cntW p u.length nn 0)(h:(nxW p u.length 0 (exW p u nn 0 k)).1=true):k+1<cntW p u.length nn 0:=by
 rw [IX hp hk] at h;by_cases h1:k+1<cntW p u.length nn 0
 ·exact h1
 ·rw [qy h1] at h;cases h
theorem nx_l {p nn k:Nat}{u:Ya}(hp:0<p)(hk:k<cntW p u.length nn 0)(h:k+1<cntW p u.length nn 0):(nxW p u.length 0 (exW p u nn 0 k)).2=exW p u nn 0 (k+1):=by rw [IX hp hk,qC h]
theorem nx_z {p nn k:Nat}{u:Ya}(hp:0<p)(hk:k<cntW p u.length nn 0)(h:(nxW p u.length 0 (exW p u nn 0 k)).1=false):k+1=cntW p u.length nn 0:=by
 rw [IX hp hk] at h;by_cases h1:k+1<cntW p u.length nn 0
 ·rw [qC h1] at h;cases h
 ·omega
theorem Aw {p d n:Nat}{l:Ya}{zp zd:Int}(hn:l.length=n)(e1:zp=(p:Int))(e2:zd=(d:Int))(hp:p≤64)(hlp:∀ x∈l,x<p)(hn1:n≤1000)(hd:d≤1000):Cm Tryz.prog 29 3 (Nums .i64 l) (Nums .i64 (nxW p d 0 l).2) [.w (slH n n),.v (In zp),.v (In zd)] (Bo (nxW p d 0 l).1):=by
 subst hn e1 e2;exact Ay p d l hp hlp hn1 hd
def StW (B g:Nat)(E:TypeId)(A:As):Prop:=∀ cs w w' c fz,w.heap[g]?=some (.cells c E fz)→B≤g→Wr g w w'→A.p B cs w→A.p B cs w'
theorem lV {B g:Nat}{E:Yh}{A:As}(h:A.deps.contains E=false):StW B g E A:=λ cs w w' c fz h1 h2 h3 h4=>A.wr _ _ _ _ _ _ _ _ h1 (by simpa using h) h2 h3 h4
theorem HS {B g:Nat}{E:Yh}:∀ {l:Yb},(∀ A∈l,StW B g E A)→StW B g E (cat l):=λ {l} hl cs w w' c fz h1 h2 h3 hp=>by
 obtain ⟨ps,rfl,h4⟩:=hp;refine ⟨ps,rfl,?_⟩;revert hl
 induction h4 with
 | nil=>exact λ _=>.nil
 | cons h _ ih=>exact λ hl=>.cons (hl _ xx _ _ _ _ _ h1 h2 h3 h) (ih λ A hA=>hl A (zi _ hA))
theorem HR {B g:Nat}{E:Yh}{q:Nat→Prop}{l:Yl}(hq:¬ q g):StW B g E (SlP q 3 [] (l.map InA)):=by
 rintro cs w w' c0 fz0 hc hB hW ⟨⟨hD,A,c,ds,rfl,h1,h2,h3,h4⟩,h5⟩;refine ⟨⟨hD,A,c,ds,rfl,h1,h2,by rw [iA h3];exact cQ l,λ hn=>?_⟩,h5⟩;obtain ⟨b,o,rfl,h6,h7,h8⟩:=h4 hn;have hne:b≠g:=λ e=>hq (e▸h5 _ (ql.2 rfl) b rfl);have hbk:w'.heap[b]?=w.heap[b]?:=hW.block b hne;refine ⟨b,o,rfl,by have:=hW.size;omega,?_,λ j v hv=>?_⟩
 ·rcases h7 with h7|⟨c',fz,h7⟩
  ·exact .inl h7
  ·exact .inr ⟨c',fz,hbk.trans h7⟩
 ·rw [← h8 j v hv];exact World.cell?_of_block hbk
def StWL (B g:Nat)(E:TypeId)(t2:Nat):List Lc→Prop
 | []=>True
 | l::L=>(l.s=t2∨StW B g E l.A)∧StWL B g E t2 L
theorem stWL {B g:Nat}{E:Yh}{t2:Nat}:∀ {L:Yk},StWL B g E t2 L→∀ l∈L,l.s≠t2→StW B g E l.A
 | _::_,h,l,hl,hne=>by
  rcases qr.1 hl with rfl|hl
  ·exact h.1.resolve_left hne
  ·exact stWL h.2 l hl hne
section
open Rg
variable {P:Program}{Q:Exit→Act→World→Prop}{B N:Nat}{w0:Bs}{Γ:List (Nat × VA)}{Λ:List Lc}{a:Act}{w:World}{ops:Array Oper}{i:Nat}{K:Act→World→Prop}
theorem Ed {f d s u t2 n g:Nat}{E:Yh}{A0 A1:As}{V1 V2 post:VA}{x2:Yj}{at_:Yr}{T':Yh}(src:Ya)(ks ku kq e:Nat)
  (ho:ops[i]?=some ⟨some d,.call ⟨.value (.func f),#[.tmp s,.tmp u,x2],at_⟩,T',ps,af,none⟩) (h:St B w0 N Γ Λ a w) (hc:Cm P f E A0 A1 [.w (slH n n),.v V1,.v V2] post)
  (hs:Γ[ks]?=some (s,EqV (.slice (some ⟨g,0,none⟩) n n))) (hq:Γ[kq]?=some (t2,EqV (.slice (some ⟨g,0,none⟩) n n))) (hu:Γ[ku]?=some (u,V1)) (hl:Λ[e]?=some ⟨t2,E,slH n n,A0⟩) (h2:V2.p B (a.eval x2) w)
  (hd:d<N) (hΓ:Γ.all (λ x=>x.1 != d)=true) (hΛd:Λ.all (λ l=>l.s != d)=true)
  (hsrc:src.all (λ k=>match Γ[k]? with|some y => !y.2.deps.contains E|none=>false)=true) (hΛ:Λ.zipIdx.all (λ x=>x.2==e || x.1.s != t2)=true) (hW:StWL B g E t2 Λ)
  (hK:∀ v w',St B w0 N ((d,post)::src.filterMap λ k=>Γ[k]?) (Λ.set e ⟨t2,E,slH n n,A1⟩) (a.put (some d) v) w'→K (a.put (some d) v) w'):wpOp P ops Q i K a w:=by
 have e1:a.eval (.tmp s)=.slice (some ⟨g,0,none⟩) n n:=h.vals _ (qa hs);have e2:a.eval (.tmp t2)=.slice (some ⟨g,0,none⟩) n n:=h.vals _ (qa hq);have v1:V1.p B (a.eval (.tmp u)) w:=h.vals _ (qa hu);obtain ⟨g',cs,q1,q2,q3,q4⟩:=h.locs _ (qa hl);have q1':a.eval (.tmp t2)=.slice (some ⟨g',0,none⟩) n n:=q1;have hgp:g=g':=by rw [e2] at q1';injection q1' with q1';injection q1' with q1';injection q1'
 subst hgp;have hB:B≤g:=h.lo g q2;obtain ⟨⟨fn,hf,hn,hb⟩,hcall⟩:=hc;have hrun:(execOp a.eval ⟨some d,.call ⟨.value (.func f),#[.tmp s,.tmp u,x2],at_⟩,T',ps,af,none⟩).run P w=.ok (.enter f #[a.eval (.tmp s),a.eval (.tmp u),a.eval x2]) w:=by
  have ef:a.eval (.func f)=.func (.func f) #[] #[]:=rfl;simp only [execOp,resolve,ef,Deferred.ofValue,Sem.run_bind,Sem.run_pure,Result.andThen_ok,invoke,bb hf hn hb];simp
 unfold wpOp;simp only [ho,Region.wanted,if_true];refine .inl ?_;unfold Oper.wp;rw [hrun];refine (hcall B w g cs [a.eval (.tmp s),a.eval (.tmp u),a.eval x2] hB q3 q4 (.cons e1 (.cons v1 (.cons h2 .nil)))).mono λ e' w' ⟨v,cs',he,hv,hbut,h5,h6⟩=>?_;subst he;obtain ⟨hWr,hG⟩:=hbut.split q3 h5;have U:St B w0 N (src.filterMap λ k=>Γ[k]?) (Λ.set e ⟨t2,E,slH n n,A1⟩) a w':=by
  refine ⟨h.lo,h.defers.keep G λ D hD=>?_,h.size,(h.base.wr hWr q2).grow hG,λ x hx=>?_,λ m hm=>?_,λ m1 hm1 m2 hm2 hne=>?_⟩
  ·have hk:D≠g:=λ e=>by subst e;rw [q3] at hD;cases hD
   exact ((hG.heap ((hWr.block D hk).trans hD)))
  ·obtain ⟨k',hk1,hk2⟩:=qH.1 hx;have:=qe.1 hsrc k' hk1;simp only [hk2,qz,qB,qm] at this;exact x.2.cg _ _ _ _ hG.cg (x.2.wr _ _ _ _ _ _ _ _ q3 this hB hWr (h.vals x (qa hk2)))
  ·obtain ⟨j,hj⟩:=List.getElem?_of_mem hm;by_cases e5:j=e
   ·subst e5;have:m=⟨t2,E,slH n n,A1⟩:=by
     rw [List.getElem?_set_self (List.getElem?_eq_some_iff.1 hl).1] at hj;injection hj with hj;exact hj.symm
    subst this;exact ⟨g,cs',q1,q2,h5,h6⟩
   ·rw [List.getElem?_set_ne (λ e2=>e5 e2.symm)] at hj;have hc:=qe.1 hΛ (m,j) (zj.2 hj);simp only [zU,xr,bne_iff_ne] at hc;have hc':=hc.resolve_left e5;obtain ⟨g',cs2,p1,p2,p3,p4⟩:=h.locs m (qa hj);have hne:g'≠g:=λ hh=>h.dis m (qa hj) _ (qa hl) hc' (by rw [p1,q1,hh,m.H.ok,Hd.ok]);exact ⟨g',cs2,p1,p2,hG.heap ((hWr.block g' hne).trans p3),m.A.cg _ _ _ _ hG.cg (stWL hW m (qa hj) hc' _ _ _ _ _ q3 hB hWr p4)⟩
  ·have hs:∀ m∈Λ.set e ⟨t2,E,slH n n,A1⟩,∃ m0∈Λ,m0.s=m.s:=λ m hm=>by
    rcases qq hm with hm|rfl
    ·exact ⟨m,hm,rfl⟩
    ·exact ⟨_,qa hl,rfl⟩
   obtain ⟨m3,r1,r2⟩:=hs m1 hm1;obtain ⟨m4,r3,r4⟩:=hs m2 hm2;rw [← r2,← r4] at hne ⊢;exact h.dis m3 r1 m4 r3 hne
 exact hK v w' (U.addV (d:=d) (v:=v) (A:=post) hd (qe.2 λ x hx=>by
  obtain ⟨k,hk1,hk2⟩:=qH.1 hx;exact qe.1 hΓ x (qa hk2)) (qe.2 λ l' hl'=>by
  rcases qq hl' with hl' | rfl
  ·exact qe.1 hΛd l' hl'
  ·exact qe.1 hΛd (⟨t2,E,slH n n,A0⟩:Lc) (qa hl)) hv)
variable {R:Rg}
theorem tu {f:Yn}{pre:Yc}{mk:Nat→VA}{A:VA}{xs:Ys}{at_:Yr}{g n s:Nat}{E:Yh}{A0:As}(hc:CnI P f pre mk)(hx:HasL R B w0 i xs pre)(hl:LocH R i s E (slH n n) A0)(hs:Has R B w0 i (.tmp s) (EqV (.slice (some ⟨g,0,none⟩) n n)))(hm:∀ b,g<b→Wk (mk b) A):Wv P Q R B w0 i (.call ⟨.value (.func f),xs.toArray,at_⟩) A:=by
 intro d T' ps af gd a w av K hK;obtain ⟨⟨fn,hf,hn,hb⟩,hcall⟩:=hc;have hrun:(execOp a.eval ⟨some d,.call ⟨.value (.func f),xs.toArray,at_⟩,T',ps,af,gd⟩).run P w=.ok (.enter f (xs.map a.eval).toArray) w:=by
  have e1:a.eval (.func f)=.func (.func f) #[] #[]:=rfl;simp only [execOp,resolve,e1,Deferred.ofValue,Sem.run_bind,Sem.run_pure,Result.andThen_ok,invoke,bb hf hn hb];simp
 obtain ⟨g',cs,e1,_,h3,_⟩:=hl.ok av;have e2:a.eval (.tmp s)=.slice (some ⟨g,0,none⟩) n n:=hs a w av;have e1':a.eval (.tmp s)=.slice (some ⟨g',0,none⟩) n n:=e1;have hgp:g=g':=by rw [e2] at e1';injection e1' with e1';injection e1' with e1';injection e1'
 subst hgp;unfold Oper.wp;rw [hrun];refine (hcall B w _ (Av.bw av) (hx.all av)).mono λ e w' ⟨v,he,h1,hg⟩=>?_;subst he;exact hK v w' hg (hm _ (Array.getElem?_eq_some_iff.1 h3).1 _ _ _ h1)
end
abbrev WrP (q:Nat→Prop)(x:WyQ):As:=cat [SlP q 3 [] (x.l.map InA),QA 110000 x.pw,InA x.c,QA 110000 x.aw]
theorem wrP_q {q:Nat→Prop}{x:WyQ}:WkA (WrP q x) (WrQ x):=bi (.cons Lt (.cons (.refl _) (.cons (.refl _) (.cons (.refl _) .nil))))
theorem KX {g b:Nat}{t:RTk}{u:Ya}(h:g<b):WkA (WrI (λ g=>b≤g) t u) (WrP (λ x=>x≠g) (wayW t u)):=bi (.cons (Dt λ x hx=>by omega) (.cons (.refl _) (.cons (.refl _) (.cons (.refl _) .nil))))
theorem Oq {B g:Nat}{E:Yh}(hE:([3,139]:Ya).contains E=true→E=3){x:WyQ}(h1:(QA 110000 x.pw).deps.contains E=false)(h2:(QA 110000 x.aw).deps.contains E=false):StW B g E (WrP (λ x=>x≠g) x):=HS λ A hA=>by
 simp only [qr,zF,or_false] at hA;rcases hA with rfl|rfl|rfl|rfl
 ·exact HR (λ h=>h G)
 ·exact lV h1
 ·exact lV rfl
 ·exact lV h2
theorem Pa {p nn k:Nat}(hp:0<p)(hk:k<cntW p 0 nn 0)(h:(nxW p 0 0 (exW p [] nn 0 k)).1=true):k+1<cntW p 0 nn 0:=nx_y (u:=[]) hp hk h
theorem Pb {p nn k:Nat}(hp:0<p)(hk:k<cntW p 0 nn 0)(h:k+1<cntW p 0 nn 0):(nxW p 0 0 (exW p [] nn 0 k)).2=exW p [] nn 0 (k+1):=nx_l (u:=[]) hp hk h
theorem P9 {p nn k:Nat}(hp:0<p)(hk:k<cntW p 0 nn 0)(h:(nxW p 0 0 (exW p [] nn 0 k)).1=false):k+1=cntW p 0 nn 0:=nx_z (u:=[]) hp hk h
theorem bs_1 (f:Nat→WyQ):f 0=bsW f 1:=(qC rfl).symm
theorem sn_1 (k:Nat):(((k+1:Nat):Int)==0)=false:=by simp;omega
theorem bs_y {f:Nat→WyQ}{k:Nat}(h:betF (f (k+1)) (bsW f (k+1))=true):f (k+1)=bsW f (k+1+1):=(qC (by rw [h,vw])).symm
theorem bs_n {f:Nat→WyQ}{k:Nat}(h:betF (f (k+1)) (bsW f (k+1))=false):bsW f (k+1)=bsW f (k+1+1):=(qy (by rw [h,sn_1];decide)).symm
theorem NR {t:RTk}{p nn k:Nat}:(bsW (λ k=>wayW t (exW p [] nn 0 k)) (k+1)).l.length=nn:=by
 obtain ⟨j,_,hj⟩:=uG (f:=λ k=>wayW t (exW p [] nn 0 k)) (k:=k+1) (ja k);rw [hj];show (List.map _ _).length=nn;rw [qd,d6]
theorem B8:WkA (EqA (.slice none 0 0)) (SlA 3 [] (([]:Yl).map InA)):=nil_slW.trans HZ
theorem GK {a:Rat}{E:Yh}(h:(QA 0 0).deps.contains E=false):(QA 110000 a).deps.contains E=false:=h
set_option maxHeartbeats 2000000 in
theorem AA (t:RTk):Cn Tryz.prog 8 [(TkA t).va] (Tu [(ChA (bR t).1).va,In (bR t).2]):=by
 refine Cn.intro Tryz.func8 G zk nq (zy [(0,(TkA t).va)] λ B w0 a U=>?_);refine qb<|zg [] [zpL 1 30 0 _,zpL 2 36 1 _] [.alc 0,.alc 1,.v 3 _] U9 U (zW 0 G (zY G (Str.zero fe) (zE G ab))) (zz Rn RK ?_);refine ztA<|zgA UC [] (W6 8 [.v 4 _]) Ue (zl 0 G cU (zQ G (nr t) (.o (vq 0 G)) (zA 1 G o0))) (zz (Wc 3 4) RK ?_);refine ztA<|zsA<|zgA UC [] (W6 10) UF (zM 1 G (zv G (c9 (vq 0 G) ab) o0)) (zz (Wa 3 4 11) RK λ a w U=>?_);refine zJ 2 U G (λ hb0=>?_) (λ hb0=>?_)
 ·refine qb<|zg Rp [] (W6 12 [.sto 1,.v 3 _]) UG U (zv G (aS (qs:=[]) fe .nil) (zM 1 G (zS 0 G dV (zA 1 G o0)))) (zz Rn RK λ a w U=>?_);refine aa<|qi<|aj ?_;refine am ?_ (aX (rs:=[.cell 2 36,.tmp 3]) G U (.cell (zm 1 G) dV (.tmp (zm 0 G) .nil)) zd);rw [show bR t=(ch0,ckF t) from qC hb0];exact tu2w (bi (.cons B8 (.cons (.refl _) (.cons (.refl _) .nil)))).va aM
 ·have hck:ckF t=0:=by simpa using hb0
  obtain ⟨hs2,hs13,hp1,hp64,htg⟩:=hd_b (gh hck).1;obtain ⟨nn,hnn⟩:∃ nn,t.sp.length=nn+1:=⟨t.sp.length-1,by omega⟩;have hn12:nn≤12:=by omega
  have hpp:0<t.ps.length:=by omega
  have hsl:sloF t=(nn:Int):=by rw [Dq hs2 hs13,hnn];rfl
  have hc0:0<cntW t.ps.length 0 nn 0:=dL hpp _ _;have hbN:bstN t=bsW (λ k=>wayW t (exW t.ps.length [] nn 0 k)) (cntW t.ps.length 0 nn 0):=by unfold bstN;rw [hnn];rfl
  refine qj<|zt<|zg UE [] (W6 14 [.v 5 _]) Ue U (zl 0 rfl cU (zv rfl (DV (uY (u:=[]) hsl hn12 (zf _)) wO (.cons (lQ t).va (.cons (yi λ A hA=>by cases hA).va .nil)) (.p (vq 0 rfl) (has_wk' b9 B9))) (zA 1 rfl o0))) (zz (Wc 3 5) RK λ a w U=>?_);rw [Fc (u:=[]) hpp (zf _)] at U;have U:=St.toLoc U 1 rfl zk;rw [qd,d6] at U;have U:=St.wkL U 2 rfl rz;obtain ⟨g5,U⟩:=St.nmH U 2 rfl;have U:=zn (Wc 5 3) [O 1 30 _,O 2 36 _,⟨5,3,slH nn nn,_⟩] U;refine zt<|zg UO [⟨6,80,ptrH,some 3,_,some (4,_)⟩] [.v 16 _,.adr 17 5 .none True,.v 18 _,.alc 3,.sto 3] We U (zl 0 rfl cU (oc (ob_a rfl rfl cy) (zv rfl (tu (pF hck (by rw [d6];omega) (rk hpp (λ x hx=>by cases hx) nn 0 _ hc0)) (.p (vq 0 rfl) (tW 1 rfl zk (lz0 2 rfl) ⟨(d6 _ _ _ _ _).symm,rfl,by omega⟩)) (lz0 2 rfl) (gq 0 rfl) (λ b hb=>(KX hb).va)) (zY rfl (Str.zero gM) (zS 2 rfl iH o0))))) (zz (Wc 5 3) [O 1 30 _,O 2 36 _,⟨5,3,slH nn nn,_⟩,O 6 80 _] λ a w U=>?_);have U:=St.wkL (A':=WrP (λ x=>x≠g5) (bsW (λ k=>wayW t (exW t.ps.length [] nn 0 k)) (0+1))) U 3 rfl (fa (qt (WrP _) (bs_1 (λ k=>wayW t (exW t.ps.length [] nn 0 k)))));have U:=zn (Wc 5 3) [O 1 30 _,O 2 36 _,⟨5,3,slH nn nn,_⟩,O 6 80 _] U;refine zt<|qk ?_;have U:=St.sel U [0];refine wp_loop_ghost (λ n a w=>∃ k:Nat,(n+k+1=cntW t.ps.length 0 nn 0)∧St B w0 43 [(5,EqV (.slice (some ⟨g5,0,none⟩) nn nn))] [⟨1,30,ptrH,TkA t⟩,⟨2,36,ptrH,cat [EqA (.slice none 0 0),RFA rf0,NumA .i64 0]⟩,⟨5,3,slH nn nn,Nums .i64 (exW t.ps.length [] nn 0 k)⟩,⟨6,80,ptrH,WrP (λ x=>x≠g5) (bsW (λ k=>wayW t (exW t.ps.length [] nn 0 k)) (k+1))⟩] a w) (cntW t.ps.length 0 nn 0-1) ?_ ?_
  ·exact ⟨0,by omega,U⟩
  intro n a w hI;obtain ⟨k,hn,U⟩:=hI;have hk:k<cntW t.ps.length 0 nn 0:=by omega
  refine qb<|qb<|bJ (sp:=[.v 19 _,.adr 20 1 (.some 1) True,.v 21 _,.v 22 _,.v 23 VT]) 4 1 99 4 OneC [.g 0,.o 0,.o 3] U (zM 0 G (zO 0 G bK (zL 1 0 1 G dW (zv G (bn qM (vq 2 G)) o0)))) G zd zk zk (zz (Wa 5 19 22) [O 1 30 _,O 2 36 _,⟨5,3,slH nn nn,_⟩,O 6 80 _] λ a w U=>?_);rw [show List.range' 4 1=[4] from rfl];rw [qv];refine Ed [0] 1 2 0 2 rfl U (Aw (p:=t.ps.length) (d:=0) (l:=(exW t.ps.length [] nn 0 k)) (d6 _ _ _ _ _) (by rw [qd]) rfl hp64 (rk hpp (λ x hx=>by cases hx) nn 0 k hk) zo zd) rfl rfl rfl rfl (bS _ _ _ _) zd zk zk zk zk ⟨.inr (lV zk),⟨.inr (lV zk),⟨.inl rfl,⟨.inr (Oq zd (GK zk) (GK zk)),trivial⟩⟩⟩⟩ (λ v w U=>?_);refine dX ?_;have U:St B w0 43 [(23,_),(5,_)] [O 1 30 _,O 2 36 _,⟨5,3,slH nn nn,_⟩,O 6 80 _] _ w:=U;refine zJ 0 U G (λ hb1=>?_) (λ hb1=>?_)
  ·have hk1:k+1<cntW t.ps.length 0 nn 0:=Pa hpp hk hb1;rw [Pb hpp hk hk1] at U;refine qj<|aa<|qk<|qb<|zg Uo [⟨7,80,ptrH,some 3,_,some (4,_)⟩] [.v 24 _,.adr 25 5 .none True,.v 26 _,.alc 4,.sto 4] [.g 1] U (zl 0 rfl cU (oc (ob_a rfl rfl cy) (zv rfl (tu (pF hck (by rw [d6];omega) (rk hpp (λ x hx=>by cases hx) nn 0 _ hk1)) (.p (vq 0 rfl) (tW 1 rfl zk (lz0 2 rfl) ⟨(d6 _ _ _ _ _).symm,rfl,by omega⟩)) (lz0 2 rfl) (gq 1 rfl) (λ b hb=>(KX hb).va)) (zY rfl (Str.zero gM) (zS 2 rfl iH o0))))) (zz [(5,_)] [O 1 30 _,O 2 36 _,⟨5,3,slH nn nn,_⟩,O 6 80 _,O 7 80 _] ?_);refine ztA<|zgA [none,none,none,none,none] [] (Wb 27) Ue (zl 4 G iH (zl 3 G iH (zQ G ((rW (wayW t (exW t.ps.length [] nn 0 (k+1))) (bsW (λ k=>wayW t (exW t.ps.length [] nn 0 k)) (k+1)) (by rw [NR];show (List.map _ _).length=nn;rw [qd,d6]) (by show (List.map _ _).length≤1000;rw [qd,d6];omega)).wk (.cons wrP_q.va (.cons wrP_q.va .nil))) (.p (vq 0 G) (vq 1 G)) o0))) (zz (Wc 5 29) [O 1 30 _,O 2 36 _,⟨5,3,slH nn nn,_⟩,O 6 80 _,O 7 80 _] λ a w U=>?_);refine aa<|bN (λ a w =>  St B w0 43 [(5,EqV (.slice (some ⟨g5,0,none⟩) nn nn))] [⟨1,30,ptrH,TkA t⟩,⟨2,36,ptrH,cat [EqA (.slice none 0 0),RFA rf0,NumA .i64 0]⟩,⟨5,3,slH nn nn,Nums .i64 (exW t.ps.length [] nn 0 (k+1))⟩,⟨6,80,ptrH,WrP (λ x=>x≠g5) (bsW (λ k=>wayW t (exW t.ps.length [] nn 0 k)) (k+1+1))⟩,⟨7,80,ptrH,WrP (λ x=>x≠g5) (wayW t (exW t.ps.length [] nn 0 (k+1)))⟩] a w) U (zm 1 G) (λ hb2=>?_) (λ hb2=>?_) (λ a w U=>?_)
   ·refine zg [η,η,η,some (1,_),η] [] [.v 30 _,.sto 3] UH U (zl 4 G iH (zS 0 G iH o0)) (zz [(5,_)] [O 1 30 _,O 2 36 _,⟨5,3,slH nn nn,_⟩,O 6 80 _,O 7 80 _] λ a w U=>?_);refine aa ?_;have U:=St.sel U [0];exact St.wkL U 3 G (fa (qt (WrP _) (bs_y (f:=(λ k=>wayW t (exW t.ps.length [] nn 0 k))) hb2)))
   ·refine qj<|aa ?_;have U:=St.sel U [0];exact St.wkL U 3 G (fa (qt (WrP _) (bs_n (f:=(λ k=>wayW t (exW t.ps.length [] nn 0 k))) hb2)))
   refine al ?_;refine aa ?_;have U:=St.sel U [0];have U:=St.selL U [0,1,2,3];exact ⟨n-1,by omega,k+1,by omega,U⟩
  ·have hke:k+1=cntW t.ps.length 0 nn 0:=P9 hpp hk hb1;refine qP<|ai<|ai<|az<|zt<|qb<|zg Uo [] (.adr 31 6 (.some 1) True::(Wb 32)) [.g 1,.o 3] U (zO 3 G oE (zL 0 3 1 G au (zv G (bW (D:=[U32]) (l:=[_]) (xs:=[.tmp 32]) (dh zk) db zk (n_ok zk) nq nq nq (.o (vq 1 G)) G G) (zQ G (DY [(bsW (λ k=>wayW t (exW t.ps.length [] nn 0 k)) (k+1)).pw] (.cons ⟨_,rfl⟩ .nil) nq) (.o (vq 2 G)) o0)))) (zz (Wc 5 34) [O 1 30 _,O 2 36 _,⟨5,3,slH nn nn,_⟩,O 6 80 _] λ a w U=>?_);refine zJ 1 U G (λ hb3=>?_) (λ hb3=>?_)
   ·rw [pH] at hb3;refine qb<|zg [η,some (1,_),η,η] [] [.v 35 _,.sto 1,.v 3 _] Ue U (zv G (aS (qs:=[]) fe .nil) (zS 0 G dV (zE G ab))) (zz (Wc 5 3) [O 1 30 _,O 2 36 _,⟨5,3,slH nn nn,_⟩,O 6 80 _] λ a w U=>?_);refine aa<|qi<|aj ?_;refine am ?_ (aX (rs:=[.cell 2 36,.tmp 3]) G U (.cell (zm 1 G) dV (.tmp (zm 1 G) .nil)) zd);have e:bR t=(ch0,4):=by rw [bR,qy (by rw [hb0];decide),qC (by rw [hbN,← hke];exact hb3)]
    rw [e];exact tu2w (bi (.cons B8 (.cons (.refl _) (.cons (.refl _) .nil)))).va aM
   ·rw [pH] at hb3;refine qj<|zt<|zg [η,some (7,_),η,η] [] (.adr 36 6 (.some 0) True::.v 37 _::.adr 38 6 (.some 1) True::.v 39 _::.adr 40 6 (.some 5) True::(W6 41 [.sto 1,.v 3 _])) [.g 0,.o 8] U (zO 3 G ej (zL 0 3 0 G cC (zO 3 G oE (zL 2 3 1 G au (zO 3 G eS (zL 4 3 2 G ty_3 (zv G (aS (qs:=[(0,_),(1,_),(2,_)]) fe (.cons ⟨rfl,vq 1 rfl,rfl⟩ (.cons ⟨rfl,vq 3 rfl,rfl⟩ (.cons ⟨rfl,vq 5 rfl,rfl⟩ .nil)))) (zS 6 G dV (zE G ab))))))))) (zz (Wc 5 3) [O 1 30 _,O 2 36 _,⟨5,3,slH nn nn,_⟩,O 6 80 _] λ a w U=>?_);refine aa<|qi<|am ?_ (aX (rs:=[.cell 2 36,.tmp 3]) G U (.cell (zm 1 G) dV (.tmp (zm 1 G) .nil)) zd);have e:bR t=(⟨(bsW (λ k=>wayW t (exW t.ps.length [] nn 0 k)) (k+1)).l,rfOf (bsW (λ k=>wayW t (exW t.ps.length [] nn 0 k)) (k+1)).pw,(bsW (λ k=>wayW t (exW t.ps.length [] nn 0 k)) (k+1)).c⟩,0):=by rw [bR,qy (by rw [hb0];decide),qy (by rw [hbN,← hke,hb3];decide),hbN,← hke]
    rw [e];exact tu2w (bi (.cons Lt (.cons qaA (.cons (.refl _) .nil)))).va aM
end Go.Proofs.YtckfapioofbfpaaGreatDoor
