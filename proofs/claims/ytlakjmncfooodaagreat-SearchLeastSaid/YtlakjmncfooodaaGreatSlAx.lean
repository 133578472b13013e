/- SearchLeast: for all tasks and picks the law of chapter 26 on the best way answers true. No condition. -/
import Derived.Test.YtlakjmncfooodaaGreatSlAw
import Derived.Test.YtlakjmncfooodaaGreatRows
import Derived.ShutString
set_option linter.all false
set_option maxRecDepth 100000
namespace Go.Proofs.YtlakjmncfooodaaGreat
open Go Go.RowKit
variable {w:World}{B:Nat}{a:Act}{v:Value}{T:TypeId}{w0:Bs}{Γ:List (Nat × VA)}{Λ:List Lc}{ps:String}{af:Array Edge}{vr:Value}{H:Hd}{cs:List Value}{w':World}{P:Program}{D:List TypeId}
set_option maxHeartbeats 4000000 in
theorem gB (t:RTk)(x:List Int):Cn Tryz.prog 4 [(TkA t).va,(SlA 3 [] (x.map InA)).va] (Bo true):=by
 refine Cn.introW Tryz.func4 G zk nq (.cons (ij t).va (.cons (up_si x).va .nil)) (eN true).va (λ B w0 a hB0 U=>?_)
 have U:=zn [(0,(TkO t).va),(1,(SlO 3 [] (x.map InA) True).va)] [] U
 refine qa<|zg [] [⟨2,30,ptrH,some 0,_,none⟩] [.alc 0,.v 4 _] [.g 1,.o 1] U (zW 0 G (zv G (a6 aH) o0)) (zz [(1,_),(4,_)] [O 2 30 _] λ a w U=>?_)
 refine zt<|qa<|zg [η] [] [.v 15 _,.v 16 _,.v 17 _,.v 18 _,.v 19 _,.v 20 _] [.g 0,.g 1,.o 5] U (zl 0 G co (zQ G ((tkCost_c _).wk (.cons tko_A.va .nil)) (.o (vq 0 G)) (zM 0 G (zv G (bv Tryz.underlying31 (ba (ap (vq 2 G)))) (zv G (bF (D:=[]) (l:=[_,_]) (xs:=[.tmp 16,.tmp 18]) (dh zk) ee zk (n_ok zk) nq nq nq (.p (vq 1 G) (vq 3 G)) G G) (zQ G (beyond_c [_,_]) (.o (vq 4 G)) o0)))))) (zz [(1,_),(4,_),(20,_)] [O 2 30 _] λ a w U=>?_)
 refine a4<|a9 U (zm 2 G) (λ hb0=>?_) (λ hb0=>?_)
 ·refine qa<|zg [η] [] [.v 4 _] [.g 0,.o 0] U (zv G (a6 aH) o0) (zz [(1,_),(4,_)] [O 2 30 _] λ a w U=>?_)
  refine a4<|qe<|aa ?_
  refine aj ?_ (ai G U (zm 1 G))
  exact ax
 ·refine qk<|zt<|zg [η] [⟨5,46,ptrH,some 5,_,some (6,_)⟩] [.v 22 _,.v 23 _,.v 21 _,.v 24 _,.v 25 _,.alc 1,.sto 1,.v 6 _] [.g 0,.g 1,.o 7] U (zl 0 G co (zQ G ((best_p _).wk (.cons tko_A.va .nil)) (.o (vq 0 G)) (zv G (a8 (vq 1 G)) (zv G (ek (vq 2 G)) (zv G (ej (vq 2 G)) (zY G (Str.zero str_cho) (zS 3 G il (zA 4 G o0)))))))) (zz [(1,_),(4,_),(6,_)] [O 2 30 _,O 5 46 _] λ a w U=>?_)
  refine zt<|qa<|zg [η,η] [] [.v 26 _,.v 27 _] [.g 0,.g 1,.g 2,.o 1] U (zM 2 G (zv G (bx (vq 0 G) a5) o0)) (zz [(1,_),(4,_),(6,_),(27,_)] [O 2 30 _,O 5 46 _] λ a w U=>?_)
  refine a4<|a9 U (zm 3 G) (λ hb1=>?_) (λ hb1=>?_)
  ·refine qa<|zg [η,η] [] [.v 28 _,.v 29 _,.v 30 _,.f 31 _,.f 32 _,.v 33 _,.v 34 _,.f 35 _,.f 36 _,.v 37 _,.v 38 _,.t 39 _,.v 40 _,.v 4 _] [.g 0,.o 13] U (zM 2 G (zv G (bz (vq 0 G) a5) (zv G (a8 (vq 1 G)) (zB 2 G (λ hg=>a8 (gq 2 G)) (zB 2 G (λ hg=>bz (ab (vq 3 G) hg) a5) (zv G (r_or (vq 2 G) (vq 4 G)) (zv G (a8 (vq 5 G)) (zB 6 G (λ hg=>a8 (gq 2 G)) (zB 6 G (λ hg=>bz (ab (vq 7 G) hg) a5) (zv G (r_or (vq 6 G) (vq 8 G)) (zv G (a8 (vq 9 G)) (zB 10 G (λ hg=>bk iF .nil) (zv G (bV (vq 10 G) (vq 11 G)) (zA 12 G o0)))))))))))))) (zz [(1,_),(4,_)] [O 2 30 _,O 5 46 _] λ a w U=>?_)
   refine a4<|qe<|aa ?_
   refine aj ?_ (ai G U (zm 1 G))
   exact bo_t26 (by rw [best_err hb1]; rfl)
  ·have h0:(bestF t).2=0:=by simpa using hb1
   obtain ⟨hck,u,hul,hup,hlg,hbe,hmin⟩:=best_ok h0
   have hb3s:=(hd_b (dr hck).1).2.1
   refine qk<|zt ?_
   have U:=St.wkL (A':=ChA ⟨(u.map λ (k:Nat)=>(k:Int)),rfOf (powW t u),cosW t u⟩) U 1 rfl (ea (by rw [hbe]; rfl))
   have U:=zn [(1,_),(4,_),(6,_),(27,_)] [O 2 30 _,O 5 46 _] U
   refine zg [η,η] [] [.v 42 _,.v 43 _,.adr 44 5 (.some 0) True,.v 45 _,.v 46 _,.v 41 _,.v 47 _,.v 48 _,.v 7 _,.v 8 _] [.g 1,.o 8,.o 9] U (zl 0 G co (zM 0 G (zO 1 G cx (zL 2 1 0 G cO (zQ G ((gi _ _ _).wk (.cons tko_A.va (.cons slo_A.va (.cons ax .nil)))) (.cons (vq 0 G) (.p (vq 1 G) (vq 3 G))) (zv G (a8 (vq 4 G)) (zv G (ek (vq 5 G)) (zv G (ej (vq 5 G)) (zA 6 G (zA 7 G o0)))))))))) (zz [(4,_),(7,_),(8,_)] [O 2 30 _,O 5 46 _] λ a w U=>?_)
   refine zt<|qa<|zg [η,η] [] [.v 49 _,.v 50 _,.v 51 _,.t 52 _,.v 53 _] [.g 0,.o 4] U (zM 2 G (zv G (bz (vq 0 G) a5) (zv G (a8 (vq 1 G)) (zB 2 G (λ hg=>a8 (gq 1 G)) (zv G (bV (vq 2 G) (vq 3 G)) o0))))) (zz [(4,_),(53,_)] [O 2 30 _,O 5 46 _] λ a w U=>?_)
   refine a4<|a9 U (zm 1 G) (λ hb2=>?_) (λ hb2=>?_)
   ·exact (best_min hmin hb2).elim
   ·refine qk<|zt<|zg [η,η] [] [.v 55 _,.adr 56 5 (.some 0) True,.v 57 _,.adr 58 5 (.some 0) True,.v 59 _,.v 60 _,.v 54 _,.v 61 _,.v 62 _,.v 9 _,.v 10 _] [.g 0,.o 9,.o 10] U (zl 0 G co (zO 1 G cx (zL 1 1 0 G cO (zO 1 G cx (zL 3 1 0 G cO (zQ G ((gi _ _ _).wk (.cons tko_A.va (.cons ax (.cons ax .nil)))) (.cons (vq 0 G) (.p (vq 2 G) (vq 4 G))) (zv G (a8 (vq 5 G)) (zv G (ek (vq 6 G)) (zv G (ej (vq 6 G)) (zA 7 G (zA 8 G o0))))))))))) (zz [(4,_),(9,_),(10,_)] [O 2 30 _,O 5 46 _] λ a w U=>?_)
    refine zt<|zg [η,η] [] [.v 11 _] [.g 0,.g 1,.g 2,.o 0] U (zv G (a6 a5) o0) (zz [(4,_),(9,_),(10,_),(11,_)] [O 2 30 _,O 5 46 _] λ a w U=>?_)
    refine zt<|qa<|zg [η,η] [] [.v 12 _] [.g 0,.g 1,.g 2,.g 3,.o 0] U (zv G (a6 a5) o0) (zz [(4,_),(9,_),(10,_),(11,_),(12,_)] [O 2 30 _,O 5 46 _] λ a w U=>?_)
    refine a4<|qp ?_
    have U:=St.sel U [1,2,3,4]
    refine wp_loop_ghost (λ n a w=>∃ j:Nat,n+j=u.length∧St B w0 131 [(9,Bo false),(10,In 0),(11,In (cosW t (u.take j))),(12,In (j:Nat))] [⟨2,30,ptrH,TkO t⟩,⟨5,46,ptrH,ChA ⟨(u.map λ (k:Nat)=>(k:Int)),rfOf (powW t u),cosW t u⟩⟩] a w) (u.length) ?_ ?_
    ·rw [bt_self hck hul hup] at U
     exact ⟨0,by omega,U⟩
    intro n a w hI
    obtain ⟨j,hn,U⟩:=hI
    refine qa<|qa<|zg [η,η] [] [.v 63 _,.adr 64 5 (.some 0) True,.v 65 _,.v 66 _,.v 67 _] [.g 0,.g 1,.g 2,.g 3,.o 4] U (zM 3 G (zO 1 G cx (zL 1 1 0 G cO (zv G (bv Tryz.underlying31 (vq 2 G)) (zv G (aW (vq 0 G) (vq 3 G)) o0))))) (zz [(9,_),(10,_),(11,_),(12,_),(67,_)] [O 2 30 _,O 5 46 _] λ a w U=>?_)
    refine a4<|a9 U (zm 4 G) (λ hb3=>?_) (λ hb3=>?_)
    ·have hj:j<u.length:=by simp only [qc] at hb3; have:=qr hb3; omega
     have hpj:=hup _ (qh hj)
     have hpjl:(List.map PtA t.ps).length=t.ps.length:=qc _
     obtain ⟨c1,c2⟩:=iO hck (l:=u.take j) (λ y hy=>hup y (zE hy))
     rw [zG] at c2
     obtain ⟨c3,c4⟩:=iO hck (l:=u.take (j+1)) (λ y hy=>hup y (zE hy))
     rw [zG] at c4
     have c5:=cos_take hj hpj
     refine qk<|zt<|qp<|qa<|qa<|zgd [[],[0],[],[0,1,2],[0,1,2,3],[0,1,2,3,4],[0,1,2,3,4,5],[0,1,2,3,4,5,6],[0,1,2,3,4,5,6,7],[0,1,2,3,4,5,6],[0,1,2,3,4,5,6,7,8,9],[0,1,2,3,4,5,6,7,8,9,10],[0,1,2,3,4,5,6],[0,1,2,3,4,5,6,12],[0,1,2,3,4,5,6,12,13],[0,1,2,3,4,5,6,7,8,9,10,11,12,13,14],[0,1,2,3,4,5,6,7,8,9,10,11,12,13,14,15]] [none,none] [] [.adr 70 5 (.some 0) True,.v 71 _,.v 72 _,.v 73 _,.v 74 _,.v 75 _,.v 76 _,.adr 77 5 (.some 0) (_=false),.f 78 _,.f 79 _,.f 80 _,.f 81 _,.adr 82 2 (.some 1) (_=false),.f 83 _,.f 84 _,.f 85 _,.v 86 _] [.g 0,.g 1,.g 2,.g 3,.o 16] a7 U (zO 1 G cx (zL 0 1 0 G cO (zM 3 G (zv G (bU ee (cd λ _=>rfl) (vq 1 G) (vq 2 G) (um_at hj)) (zv G (am (vq 3 G) ty_3) (zv G (aW (vq 4 G) a5) (zv G (a8 (vq 5 G)) (zC 6 1 G cx (zB 6 G (λ hg=>aC 7 G zk hg (lz0 1 G) (Sub.part 0 G G) cO) (zB 6 G (λ hg=>a8 (gq 3 G)) (zB 6 G (λ hg=>bU ee (cd λ _=>rfl) (ab (vq 8 G) hg) (ab (vq 9 G) hg) (um_at hj)) (zB 6 G (λ hg=>am (ab (vq 10 G) hg) ty_3) (zC 6 0 G c6 (zB 6 G (λ hg=>aC 12 G zk hg (lz0 0 G) (Sub.part 1 G G) fj) (zB 6 G (λ hg=>bv Tryz.underlying23 (ba (ap (ab (vq 13 G) hg)))) (zB 6 G (λ hg=>dO (ab (vq 11 G) hg) (ab (vq 14 G) hg)) (zv G (r_or (vq 6 G) (vq 15 G)) o0))))))))))))))))) zk zk zk zk (zz [(9,_),(10,_),(11,_),(12,_),(86,_)] [O 2 30 _,O 5 46 _] λ a w U=>?_)
     refine a4<|a9 U (zm 4 G) (λ hb4=>?_) (λ hb4=>?_)
     ·exfalso; simp only [zf,qu,qc] at hb4; omega
     ·refine qk<|a4<|zgd [[],[],[1],[],[3],[],[3,4,5],[3,4,5,6],[1,2,3,4,5,6,7],[1,2,3,4,5,6,7,8],[1,2,3,4,5,6,7,8,9],[0,1,2,3,4,5,6,7,8,9,10],[0,1,2,3,4,5,6,7,8,9,10,11]] [none,none] [] [.v 87 _,.adr 88 2 (.some 1) True,.v 89 _,.adr 90 5 (.some 0) True,.v 91 _,.v 92 _,.v 93 _,.v 94 _,.v 95 _,.v 96 _,.v 97 _,.v 98 _,.v 11 _] [.g 0,.g 1,.g 3,.o 12] a7 U (zM 2 G (zO 0 G c6 (zL 1 0 1 G fj (zO 1 G cx (zL 3 1 0 G cO (zM 3 G (zv G (bU ee (cd λ _=>rfl) (vq 4 G) (vq 5 G) (um_at hj)) (zv G (am (vq 6 G) ty_3) (zv G (bU k6 (cd λ _=>rfl) (ba (ap (vq 2 G))) (vq 7 G) (bC hpj)) (zv G (bf (vq 8 G) f9 (Sub.part 2 G G)) (zv G (am (vq 9 G) ty_3) (zv G (aK (vq 0 G) (vq 10 G) ((wi64 zo zo).trans c5.symm)) (zA 11 G o0))))))))))))) zk zk zk zk (zz [(9,_),(10,_),(12,_),(11,_)] [O 2 30 _,O 5 46 _] λ a w U=>?_)
      refine al ?_
      refine a4<|zg [η,η] [] [.v 68 _,.v 69 _,.v 12 _] [.g 0,.g 1,.g 3,.o 2] U (zM 2 G (zv G (aK (vq 0 G) a5 ((wi64 zo zo).trans (by omega:(_:Int)=((j+1:Nat):Int)))) (zA 1 G o0))) (zz [(9,_),(10,_),(11,_),(12,_)] [O 2 30 _,O 5 46 _] λ a w U=>?_)
      refine a4 ?_
      have U:=St.sel U [0,1,2,3]
      exact ⟨n-1,by omega,j+1,by omega,U⟩
    ·obtain rfl:j=u.length:=by simp only [qc] at hb3; have:=qw hb3; omega
     refine q6<|ak<|ak<|aB<|zt<|zg [η,η] [⟨13,28,ptrH,some 7,_,some (8,_)⟩] [.v 100 _,.adr 101 5 (.some 0) True,.v 102 _,.v 103 _,.v 99 _,.v 104 _,.v 105 _,.alc 2,.sto 2,.v 14 _] [.g 0,.g 1,.g 2,.o 9] U (zl 0 G co (zO 1 G cx (zL 1 1 0 G cO (zQ G ((power26_c (bench_c t (u.map λ (k:Nat)=>(k:Int)))).wk (.cons tko_A.va (.cons ax .nil))) (.p (vq 0 G) (vq 2 G)) (zv G (a8 (vq 3 G)) (zv G (ek (vq 4 G)) (zv G (ej (vq 4 G)) (zY G (Str.zero aA) (zS 5 G ae (zA 6 G o0)))))))))) (zz [(9,_),(10,_),(11,_),(14,_)] [O 2 30 _,O 5 46 _,O 13 28 _] λ a w U=>?_)
     refine zt<|gl (sts:=[none,none,none]) (news:=[]) (sp:=((.v 106 _:Sp)::(.v 107 _)::(.v 108 _)::(.t 109 _)::(.t 110 _)::(.v 111 _)::(.v 112 _)::(.t 113 _)::(.adr 114 5 (.some 5) (_=true))::(.t 115 _)::(.t 116 _)::(.v 117 _)::(.v 118 _)::(.t 119 _)::(.t 120 _)::(.t 121 _)::(.v 122 (Wh ((_=true)∧_=false) _))::(.adr 123 5 (.some 1) ((_=true)∧_=false))::(.v 124 (Wh ((_=true)∧_=false) _))::(.v 125 (Wh ((_=true)∧_=false) _))::(.t 126 _)::(.v 127 _)::(.v 128 _)::(.t 129 _)::(.v 130 _)::(.v 4 _)::[])) [.o 25] U (zM 1 G (zv G (bz (vq 0 G) a5) (zv G (a8 (vq 1 G)) (zB 2 G (λ hg=>a8 (gq 0 G)) (zB 2 G (λ hg=>eH (ab (vq 3 G) hg)) (zv G (bV (vq 2 G) (vq 4 G)) (zv G (a8 (vq 5 G)) (zB 6 G (λ hg=>a8 (gq 2 G)) (zC 6 1 G fld_46_2 (zB 6 G (λ hg=>aC 8 G zk hg (lz0 1 G) (Sub.part 2 G G) ty_3) (zB 6 G (λ hg=>bz (ab (vq 7 G) hg) (ab (vq 9 G) hg)) (zv G (bV (vq 6 G) (vq 10 G)) (zv G (a8 (vq 11 G)) (zB 12 G (λ hg=>a8 (gq 3 G)) (zB 12 G (λ hg=>eH (ab (vq 13 G) hg)) (zB 12 G (λ hg=>a8 (ab (vq 14 G) hg)) (oc (cS G G G (vq 15 G) nq (λ hg=>dk (lz0 2 G) ae)) (oc (ob_ag2 G G G (vq 15 G) nq (λ hg=>fT (lz0 1 G) fld_46_1)) (oc (cS G G G (vq 15 G) nq (λ hg=>aC 17 G zk hg (lz0 1 G) (Sub.part 1 G G) ae)) (oc (cS G G G (vq 15 G) nq (λ hg=>bk (dA _ _) (.p (ab (vq 16 G) hg) (ab (vq 18 G) hg)))) (zB 12 G (λ hg=>r_or (ab (vq 15 G) hg) (gQ (vq 19 G) hg)) (zv G (bV (vq 12 G) (vq 20 G)) (zv G (a8 (vq 21 G)) (zB 22 G (λ hg=>bk iF .nil) (zv G (bV (vq 22 G) (vq 23 G)) (zA 24 G o0)))))))))))))))))))))))))) (zz [(4,_)] [O 2 30 _,O 5 46 _,O 13 28 _] λ a w U=>?_)
     refine a4<|qe<|aj ?_ (ai G U (zm 0 G))
     exact bo_t26 (by rw [qK,show (!(pwF (bnF t (u.map λ (k:Nat)=>(k:Int))).1 (bnF t (u.map λ (k:Nat)=>(k:Int))).2).2 || decide ((pwF (bnF t (u.map λ (k:Nat)=>(k:Int))).1 (bnF t (u.map λ (k:Nat)=>(k:Int))).2).1=rfOf (powW t u)))=true from pw_self]; simp)
open Go.ChangeShapes Go.WideShapes Go.ChangeAt
open Go.ChangeMaps (open_string shut_string)
theorem own:ownKnob Tryz.prog.godebug=none:=by kernel_rfl
theorem laidOut:laidOutB Tryz.prog=true:=by kernel_rfl
theorem lifted (os:Os)(started:os.Started)(H:Type)(enc:TypeId × Value→H) :
  ReturnsInHanded {} Tryz.checked os 4 .any (Rows.searchLeastSpec.pre6 enc Tryz.prog Tryz.f4 Rows.searchLeastRow.domain false) (Rows.searchLeastSpec.post enc Tryz.prog Tryz.f4 false true false false):=by
 refine returnsInHanded_of_change (C:=Tryz.checked) own started zk Tryz.func4
  (ChangeSpec.witness6 (enc:=enc) (C:=Tryz.checked) false ⟨#[],#[.agg #[.slice none 0 0,.slice none 0 0,.bool false,.slice none 0 0,.bool false,.slice none 0 0],.slice none 0 0],[]⟩ 8 zk zk zk zk) ?_
 intro W base args ds gs before hval0 hW hcnd _
 have hval:∀ (j:Nat) t v,Tryz.f4.params[j]?=some t→args[j]?=some v→Value.okWide Tryz.prog W .any base t v:=hval0
 have hW':=hW
 obtain ⟨p,q,hA0,hV,rfl,hfz,hnd⟩:=hW
 have hA:DataW.TrodAll enc Tryz.prog W 0 (λ _=>true) true Tryz.f4.params.toList args.toList ds p:=hA0
 rw [Tryz.params4] at hA hval
 obtain ⟨v0,vs0,d0,ds0,p0,q0,hargs,rfl,rfl,h0,r0⟩:=trodAll_cons hA
 obtain ⟨v1,vs1,d1,ds1,p1,q1,rfl,rfl,rfl,h1,r1⟩:=trodAll_cons r0
 obtain ⟨rfl,rfl,rfl⟩:=trodAll_nil r1
 obtain rfl:args = #[v0,v1]:=by cases args; simp_all
 obtain ⟨rfl,rfl⟩:=trodVars_none hV
 have k0:=h0
 have lt0:∀ x∈p0,x.block<W.heap.size:=by obtain ⟨m,hm⟩:=k0; exact DataW.trod_lt m _ _ _ hm
 have k1:=h1
 have lt1:∀ x∈p1,x.block<W.heap.size:=by obtain ⟨m,hm⟩:=k1; exact DataW.trod_lt m _ _ _ hm
 obtain ⟨x0,a0⟩:=arg_of (A:=TkA) (λ _=>rfl) Tryz.underlying30 rd_tk (hval 0 30 v0 rfl rfl) h0
 obtain ⟨x1,a1⟩:=arg_sl (A:=InA) (m:=1) (D:=[]) Tryz.underlying31 zk zd (λ _=>kh zk) rd_in (hval 1 31 v1 rfl rfl) h1
 clear hA0 hval0
 refine ((gB x0 x1).2 W.heap.size W [v0,v1] (qf _) (.cons a0 (.cons a1 .nil))).mono λ e W' ⟨v,he,hv,bel⟩=>?_
 have hv':=cv hv
 subst hv' he
 exact ⟨_,rfl,_,_,_,[],_,[],hW',trodAll_mk1 (shut_bool Tryz.underlying4 _),(trodAll_cons_mk (Below.trod laidOut zk (qr zk) k0 bel lt0) (trodAll_cons_mk (Below.trod laidOut zk (qr zk) k1 bel lt1) trodAll_mk0)),rfl,bel.frame _,λ h=>by cases h⟩
theorem over:Rows.searchLeastRow.holds Tryz.pinned (OpenSpec.ofChange Rows.searchLeastSpec) :=
 OpenClaim.holds_of_wide 4 Tryz.f4 rfl rfl rfl rfl rfl rfl rfl ⟨rfl,rfl,rfl,rfl,rfl⟩ rfl rfl rfl rfl rfl zk Tryz.func4 zk
  (qr zk) (by unfold Func.isWrapper; rw [qj (qw zk)]; exact ⟨rfl,rfl⟩)
  (λ os started H enc _=>lifted os started H enc)
theorem provedSearchLeast:Rows.SearchLeastSaid:=over
#print axioms provedSearchLeast
end Go.Proofs.YtlakjmncfooodaaGreat
