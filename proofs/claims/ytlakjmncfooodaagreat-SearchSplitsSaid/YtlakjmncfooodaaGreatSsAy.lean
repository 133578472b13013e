/- SearchSplits: for all tasks and picks the law of chapter 26 on ways that go on with each part answers true. No condition. -/
import Derived.Test.YtlakjmncfooodaaGreatSsAx
import Derived.Test.YtlakjmncfooodaaGreatRows
import Derived.ShutString
set_option linter.all false
set_option maxRecDepth 100000
namespace Go.Proofs.YtlakjmncfooodaaGreat
open Go Go.RowKit
variable {w:World}{B:Nat}{a:Act}{v:Value}{T:TypeId}{w0:Bs}{Γ:List (Nat × VA)}{Λ:List Lc}{ps:String}{af:Array Edge}{vr:Value}{H:Hd}{cs:List Value}{w':World}{P:Program}{D:List TypeId}
set_option maxHeartbeats 4000000 in
theorem fW (t:RTk)(x:List Int):Cn Tryz.prog 3 [(TkA t).va,(SlA 3 [] (x.map InA)).va] (Bo true):=by
 obtain ⟨infI,hinf1,hinf0,hinf2,_⟩:=int_i26
 refine Cn.introW Tryz.func3 G zk nq (.cons (upA_tk t).va (.cons (up_si x).va .nil)) (fI true).va (λ B w0 a hB0 U=>?_)
 have U:=zn [(0,(TkO t).va),(1,(SlO 3 [] (x.map InA) True).va)] [] U
 refine qa<|zg [] [⟨2,30,ptrH,some 0,_,none⟩] [.alc 0,.v 4 _] [.g 1,.o 1] U (zW 0 G (zv G (a6 aH) o0)) (zz [(1,_),(4,_)] [O 2 30 _] λ a w U=>?_)
 refine zt<|qa<|zg [η] [] [.v 20 _,.v 21 _,.v 22 _,.v 23 _,.v 24 _,.v 25 _] [.g 0,.g 1,.o 5] U (zl 0 G cS (zQ G ((tkCost_c _).wk (.cons tko_A.va .nil)) (.o (vq 0 G)) (zM 0 G (zv G (bn Tryz.underlying31 (aV (ao (vq 2 G)))) (zv G (bB (D:=[]) (l:=[_,_]) (xs:=[.tmp 21,.tmp 23]) (cU zk) eT zk (n_ok zk) nq nq nq (.p (vq 1 G) (vq 3 G)) G G) (zQ G (beyond_c [_,_]) (.o (vq 4 G)) o0)))))) (zz [(1,_),(4,_),(25,_)] [O 2 30 _] λ a w U=>?_)
 refine a4<|a9 U (zm 2 G) (λ hb0=>?_) (λ hb0=>?_)
 ·refine qa<|zg [η] [] [.v 4 _] [.g 0,.o 0] U (zv G (a6 aH) o0) (zz [(1,_),(4,_)] [O 2 30 _] λ a w U=>?_)
  refine a4<|qe<|ab ?_
  refine aj ?_ (ai G U (zm 1 G))
  exact ay
 ·refine qk<|zt<|zg [η] [⟨6,35,ptrH,some 7,_,some (9,_)⟩] [.v 27 _,.v 28 _,.v 29 _,.v 26 _,.v 30 _,.v 31 _,.v 32 _,.alc 1,.v 5 _,.sto 1,.v 7 _] [.g 0,.g 1,.o 8,.o 10] U (zl 0 G cS (zM 0 G (zQ G ((rows_p t x).wk (.cons tko_A.va (.cons slo_A.va .nil))) (.p (vq 0 G) (vq 1 G)) (zv G (a8 (vq 2 G)) (zv G (eh (vq 3 G)) (zv G (ee (vq 3 G)) (zv G (r_ex2 (vq 3 G)) (zY G (Str.zero str_g2) (zA 4 G (zS 5 G eS (zA 6 G o0))))))))))) (zz [(1,_),(4,_),(5,_),(7,_)] [O 2 30 _,O 6 35 _] λ a w U=>?_)
  refine zt<|qa<|zg [η,η] [] [.v 33 _,.v 34 _] [.g 0,.g 1,.g 2,.o 1] U (zM 3 G (zv G (bz (vq 0 G) a5) o0)) (zz [(1,_),(4,_),(5,_),(34,_)] [O 2 30 _,O 6 35 _] λ a w U=>?_)
  refine a4<|a9 U (zm 3 G) (λ hb1=>?_) (λ hb1=>?_)
  ·refine qa<|zg [η,η] [] [.v 35 _,.v 36 _,.v 37 _,.t 38 _,.t 39 _,.t 40 _,.v 41 _,.v 42 _,.t 43 _,.v 44 _,.v 4 _] [.g 0,.g 2,.o 10] U (zM 2 G (zv G (bv (vq 0 G) a5) (zv G (a8 (vq 1 G)) (zB 2 G (λ hg=>dh (lz0 1 G) eS) (zB 2 G (λ hg=>aI (qs:=[]) str_g2 .nil) (zB 2 G (λ hg=>aW (sameG2_c _ (rf0,rf0)) (.p (aa (vq 3 G) hg) (aa (vq 4 G) hg))) (zv G (bF (vq 2 G) (vq 5 G)) (zv G (a8 (vq 6 G)) (zB 7 G (λ hg=>aW ek .nil) (zv G (bF (vq 7 G) (vq 8 G)) (zA 9 G o0))))))))))) (zz [(1,_),(5,_),(4,_)] [O 2 30 _,O 6 35 _] λ a w U=>?_)
   refine a4<|qe<|ab ?_
   refine aj ?_ (ai G U (zm 2 G))
   exact bo_t26 (by rw [row_e hb1]; simp)
  ·have h0:(rowF t x).2.2=0:=by simpa using hb1
   have hr:=cT h0
   obtain ⟨hs2,hs13,hp1,hp64,_⟩:=hd_b (de hr.ck).1
   have hsl:=slo_e hs2 hs13
   refine qk<|zt<|qa<|zg [η,η] [] [.v 45 _,.v 46 _,.v 47 _,.f 48 _,.f 49 _,.v 50 _,.v 51 _,.adr 52 6 (.some 0) (_=false),.f 53 _,.adr 54 6 (.some 4) (_=false),.f 55 _,.f 56 _,.f 57 _,.v 58 _] [.g 0,.g 1,.g 2,.o 13] U (zM 2 G (zv G (aX (vq 0 G) a5) (zv G (a8 (vq 1 G)) (zB 2 G (λ hg=>a8 (gq 2 G)) (zB 2 G (λ hg=>cD (aa (vq 3 G) hg) a5) (zv G (r_or (vq 2 G) (vq 4 G)) (zv G (a8 (vq 5 G)) (zC 6 1 G bE (zB 6 G (λ hg=>ax 7 G zk hg (lz0 1 G) (Sub.part 0 G G) ac) (zC 6 1 G bD (zB 6 G (λ hg=>ax 9 G zk hg (lz0 1 G) (Sub.part 1 G G) ac) (zB 6 G (λ hg=>aW (cF _ _) (.p (aa (vq 8 G) hg) (aa (vq 10 G) hg))) (zB 6 G (λ hg=>cD (aa (vq 11 G) hg) a5) (zv G (r_or (vq 6 G) (vq 12 G)) o0)))))))))))))) (zz [(1,_),(4,_),(5,_),(58,_)] [O 2 30 _,O 6 35 _] λ a w U=>?_)
   refine a4<|a9 U (zm 3 G) (λ hb2=>?_) (λ hb2=>?_)
   ·exact (sp_first h0 hb2).elim
   ·refine qk<|zt<|qa<|zg [η,η] [] [.v 59 _,.v 60 _,.adr 61 2 (.some 0) True,.v 62 _,.v 63 _,.v 64 _,.v 65 _] [.g 0,.g 1,.g 2,.o 6] U (zM 0 G (zv G (bn Tryz.underlying31 (aV (ao (vq 0 G)))) (zO 0 G cw (zL 2 0 0 G gy (zv G (bn Tryz.underlying22 (aV (ao (vq 3 G)))) (zv G (cu (vq 4 G) a5 (G)) (zv G (dN (vq 1 G) (vq 5 G)) o0))))))) (zz [(1,_),(4,_),(5,_),(65,_)] [O 2 30 _,O 6 35 _] λ a w U=>?_)
    refine a4<|a9 U (zm 3 G) (λ hb3=>?_) (λ hb3=>?_)
    ·have hfull:t.sp.length-1≤x.length:=by simp only [qc] at hb3; have h9:=qo hb3; unfold sloF at hsl; omega
     refine qa<|zg [η,η] [⟨8,28,ptrH,some 6,_,some (7,_)⟩] [.v 67 _,.v 68 _,.v 69 _,.v 66 _,.v 70 _,.v 71 _,.alc 2,.sto 2,.v 9 _] [.g 0,.g 1,.g 2,.o 8] U (zl 0 G cS (zM 0 G (zQ G ((power26_c (bench_c _ _)).wk (.cons tko_A.va (.cons slo_A.va .nil))) (.p (vq 0 G) (vq 1 G)) (zv G (a8 (vq 2 G)) (zv G (eh (vq 3 G)) (zv G (ee (vq 3 G)) (zY G (Str.zero aA) (zS 4 G ac (zA 5 G o0))))))))) (zz [(1,_),(4,_),(5,_),(9,_)] [O 2 30 _,O 6 35 _,O 8 28 _] λ a w U=>?_)
     refine zt<|zg [η,η,η] [] [.v 72 _,.v 73 _,.v 74 _,.t 75 _,.t 76 _,.t 77 _,.v 78 (Wh ((_=true)∧_=false) _),.adr 79 6 (.some 0) ((_=true)∧_=false),.v 80 (Wh ((_=true)∧_=false) _),.v 81 (Wh ((_=true)∧_=false) _),.v 82 (Wh ((_=true)∧_=false) _),.v 83 (Wh (((_=true)∧_=false)∧_=true) _),.adr 84 6 (.some 4) (((_=true)∧_=false)∧_=true),.v 85 (Wh (((_=true)∧_=false)∧_=true) _),.v 86 (Wh (((_=true)∧_=false)∧_=true) _),.v 87 (Wh ((_=true)∧_=false) _),.t 88 _,.v 89 _,.v 90 _,.t 91 _,.v 92 _,.v 4 _] [.g 0,.g 2,.o 21] U (zM 2 G (zv G (bv (vq 0 G) a5) (zv G (a8 (vq 1 G)) (zB 2 G (λ hg=>a8 (gq 3 G)) (zB 2 G (λ hg=>fu (aa (vq 3 G) hg)) (zB 2 G (λ hg=>a8 (aa (vq 4 G) hg)) (oc (bH G G G (vq 5 G) nq (λ hg=>dh (lz0 2 G) ac)) (oc (fy G G G (vq 5 G) nq (λ hg=>eN (lz0 1 G) bE)) (oc (bH G G G (vq 5 G) nq (λ hg=>ax 7 G zk hg (lz0 1 G) (Sub.part 0 G G) ac)) (oc (bH G G G (vq 5 G) nq (λ hg=>aW (c5 _ _) (.p (aa (vq 6 G) hg) (aa (vq 8 G) hg)))) (oc (bH G G G (vq 5 G) nq (λ hg=>a8 (aa (vq 9 G) hg))) (oc (bH G G G (vq 10 G) nq (λ hg=>dh (lz0 2 G) ac)) (oc (fy G G G (vq 10 G) nq (λ hg=>eN (lz0 1 G) bD)) (oc (bH G G G (vq 10 G) nq (λ hg=>ax 12 G zk hg (lz0 1 G) (Sub.part 1 G G) ac)) (oc (bH G G G (vq 10 G) nq (λ hg=>aW (c5 _ _) (.p (aa (vq 11 G) hg) (aa (vq 13 G) hg)))) (oc (bH G G G (vq 5 G) nq (λ hg=>bF (aa (vq 10 G) hg) (eK (vq 14 G) hg))) (zB 2 G (λ hg=>r_or (aa (vq 5 G) hg) (eK (vq 15 G) hg)) (zv G (bF (vq 2 G) (vq 16 G)) (zv G (a8 (vq 17 G)) (zB 18 G (λ hg=>aW ek .nil) (zv G (bF (vq 18 G) (vq 19 G)) (zA 20 G o0)))))))))))))))))))))) (zz [(1,_),(5,_),(4,_)] [O 2 30 _,O 6 35 _,O 8 28 _] λ a w U=>?_)
     refine a4<|qe<|ab ?_
     refine aj ?_ (ai G U (zm 2 G))
     exact bo_t26 (by have h9:=sp_full h0 hfull; unfold pwX at h9; rw [h9]; rfl)
    ·have hnf:x.length<t.sp.length-1:=by simp only [qc] at hb3; have h9:=qx hb3; unfold sloF at hsl; omega
     have hxe:=hr.e
     obtain ⟨u,hu⟩:∃ l,natL x=l:=⟨_,rfl⟩
     rw [hu] at hxe
     have hul:u.length=x.length:=by rw [← hu]; unfold natL; rw [qc]
     have hrm:=(rowM_b hr).2
     have hpc:=sp_sum h0 hnf
     have hrmv:(rowF t x).1=((rowM t x:Nat):Int):=by rw [hr.val]
     refine qk<|zt ?_
     have U:=St.wkG U 0 rfl (bA (qt As.va (sl_nat hxe)))
     have U:=zn [(1,_),(4,_),(5,_),(65,_)] [O 2 30 _,O 6 35 _] U
     refine zg [η,η] [] [.v 10 _] [.g 0,.g 1,.g 2,.o 0] U (zv G (a6 a5) o0) (zz [(1,_),(4,_),(5,_),(10,_)] [O 2 30 _,O 6 35 _] λ a w U=>?_)
     refine zt<|zg [η,η] [] [.v 11 _] [.g 0,.g 1,.g 2,.g 3,.o 0] U (zv G (a6 aH) o0) (zz [(1,_),(4,_),(5,_),(10,_),(11,_)] [O 2 30 _,O 6 35 _] λ a w U=>?_)
     refine zt<|zg [η,η] [] [.v 12 _] [.g 0,.g 1,.g 2,.g 3,.g 4,.o 0] U (zv G (a6 aH) o0) (zz [(1,_),(4,_),(5,_),(10,_),(11,_),(12,_)] [O 2 30 _,O 6 35 _] λ a w U=>?_)
     refine zt<|qa<|zg [η,η] [] [.v 13 _] [.g 0,.g 1,.g 2,.g 3,.g 4,.g 5,.o 0] U (zv G (a6 a5) o0) (zz [(1,_),(4,_),(5,_),(10,_),(11,_),(12,_),(13,_)] [O 2 30 _,O 6 35 _] λ a w U=>?_)
     refine a4<|qq ?_
     have U:=St.sel U [0,2,3,4,5,6]
     refine wp_loop_ghost (λ n a w=>∃ j:Nat,(n+j=t.ps.length∧∀ i,i<j→(rowF t (x++[(i:Int)])).2.2=0)∧St B w0 201 [(1,(SlO 3 [] (u.map λ (k:Nat)=>InA (k:Int)) True).va),(5,In (rowF t x).1),(10,In ((j*cntW t.ps.length (x.length+1) (t.sp.length-1) 0:Nat):Int)),(11,Bo (loB t x j)),(12,Bo (hiB t x j)),(13,In (j:Nat))] [⟨2,30,ptrH,TkO t⟩,⟨6,35,ptrH,G2A (rowF t x).2.1⟩] a w) (t.ps.length) ?_ ?_
     ·exact ⟨0,⟨by omega,λ i hi=>absurd hi (xx i)⟩,by rw [jF]; exact U⟩
     intro n a w hI
     obtain ⟨j,⟨hn,ha⟩,U⟩:=hI
     refine qa<|qa<|zg [η,η] [] [.v 93 _,.adr 94 2 (.some 1) True,.v 95 _,.v 96 _,.v 97 _] [.g 0,.g 1,.g 2,.g 3,.g 4,.g 5,.o 4] U (zM 5 G (zO 0 G cd (zL 1 0 1 G fU (zv G (bn Tryz.underlying23 (aV (ao (vq 2 G)))) (zv G (aX (vq 0 G) (vq 3 G)) o0))))) (zz [(1,_),(5,_),(10,_),(11,_),(12,_),(13,_),(97,_)] [O 2 30 _,O 6 35 _] λ a w U=>?_)
     refine a4<|a9 U (zm 6 G) (λ hb4=>?_) (λ hb4=>?_)
     ·have hj:j<t.ps.length:=by simp only [qc] at hb4; have:=qo hb4; omega
      have harg:(SlA 3 [] ((((u++[0]).set u.length j).map λ (k:Nat)=>(k:Int)).map InA)).va=(SlA 3 [] ((x++[(j:Int)]).map InA)).va:=by rw [set_sn,zx,← hxe]; rfl
      have hlen2:u.length+1=((u++[0]).set u.length j).length:=by rw [xz,qy]; rfl
      have hjc:=qP (cntW t.ps.length (x.length+1) (t.sp.length-1) 0) (show j+1≤t.ps.length from hj)
      have hjs:(j+1)*(cntW t.ps.length (x.length+1) (t.sp.length-1) 0)=j*(cntW t.ps.length (x.length+1) (t.sp.length-1) 0)+(cntW t.ps.length (x.length+1) (t.sp.length-1) 0):=xj j _
      refine qk<|zt<|qq<|qa<|cP (sts:=[none,none]) (news:=[⟨105,3,slH _ _,some 5,_,none⟩]) (sp:=[.v 100 _,.v 101 _,.v 102 _,.v 103 _,.v 104 _,.alc 2,.adr 14 105 .none True]) [.g 0,.g 1,.g 2,.g 3,.g 4,.g 5] [(14,105)] [O 2 30 _,O 6 35 _,⟨14,3,slH _ _,_⟩] U (zM 0 G (zv G ((bn Tryz.underlying31 (aV (ao (vq 0 G)))).wk (bA (qt (λ z:Nat=>In (z:Int)) (qc _)))) (zM 0 G (zv G ((bn Tryz.underlying31 (aV (ao (vq 2 G)))).wk (bA (qt (λ z:Nat=>In (z:Int)) (qc _)))) (zv G (aJ (vq 3 G) a5 ((wi64 zo zo).trans (by omega:(_:Int)=((u.length+1:Nat):Int)))) (oc (ob_make2 G G G mk_si (vq 1 G) (vq 4 G) (Nat.le_succ _) zo) (oc (ob_a G G iV) o0))))))) zk zk zk ⟨⟨6,rfl⟩,trivial⟩ G zk (zz [(1,_),(5,_),(10,_),(11,_),(12,_),(13,_)] [O 2 30 _,O 6 35 _,⟨14,3,slH _ _,_⟩] λ a w U=>?_)
      obtain ⟨q14,U⟩:=St.nmH U 2 rfl
      have U:=zn [(14,_),(1,_),(5,_),(10,_),(11,_),(12,_),(13,_)] [O 2 30 _,O 6 35 _,⟨14,3,slH _ _,_⟩] U
      refine zt<|kz (n:=3) G ?_
      rw [show List.range' 0 3=[0,1,2] from rfl,qX]
      refine op_mvS 0 G U G zd zk zk (λ a U=>?_)
      rw [qX]
      refine op_mvS 2 G U G zd zk zk (λ a U=>?_)
      rw [qX]
      refine op_cpL (l:=u) (q:=List.replicate (u.length+1) 0) [2,3,4,5,6,7,8] 1 0 2 2 G U G G G G Tryz.underlying31 zk G xq (Nat.le_succ _) zd zk zk zk zk (λ v w U=>?_)
      refine cY ?_
      rw [rep_dr] at U
      have U:St B w0 201 [(14,_),(1,_),(5,_),(10,_),(11,_),(12,_),(13,_)] [O 2 30 _,O 6 35 _,⟨14,3,slH _ _,_⟩] _ w:=U
      refine zt<|zgd [[],[],[],[2],[1,2,3],[0,1,2,3,4],[0,1,2,3,4,5],[0,1,2,3,4,5,6],[0,1,2,3,4,5,6],[0,1,2,3,4,5,6],[],[0,1,2,3,4,5,6,7,10],[0,1,2,3,4,5,6,7,8,10,11],[0,1,2,3,4,5,6,7,8,9,10,11,12]] [none,none,some (4,_)] [⟨16,35,ptrH,some 10,_,some (12,_)⟩] [.v 110 _,.adr 111 14 .none True,.v 112 _,.v 113 _,.cal 114 (EqV (.slice (some ⟨q14,0,none⟩) (u.length+1) (u.length+1))) 2,.v 115 _,.v 109 _,.v 116 _,.v 117 _,.v 118 _,.alc 3,.v 15 _,.sto 3,.v 17 _] [.g 0,.g 1,.g 2,.g 3,.g 4,.g 5,.g 6,.o 11,.o 13] a7 U (zl 0 G cS (oc (ob_a G G cz) (zM 6 G (zv G (bB (D:=[]) (l:=[_]) (xs:=[.tmp 112]) (cU zk) eT zk (n_ok zk) nq nq nq (.o (vq 2 G)) G G) (oc (ob_appR (x:=j) (hp:=q14) (q:=u++[0]) 0 G G G (λ a w av=>av.d 1 111 14 .none True zk G trivial) (gq 0 G) (vq 3 G) Tryz.underlying31 hinf1 hinf2 (by rw [qy]; rfl) zo) (zQ G ((rows_p t (x++[(j:Int)])).wk (.cons tko_A.va (.cons (bA harg) .nil))) (.p (vq 0 G) (has_rowR (has_c 4 G zk zk) (gq 0 G) (lz1 2 G) ⟨hlen2,qf _,by omega⟩)) (zv G (a8 (vq 5 G)) (zv G (eh (vq 6 G)) (zv G (ee (vq 6 G)) (zv G (r_ex2 (vq 6 G)) (zY G (Str.zero str_g2) (zA 7 G (zS 8 G eS (zA 9 G o0)))))))))))))) zk zk zk zk (zz [(14,_),(1,_),(5,_),(10,_),(11,_),(12,_),(13,_),(15,_),(17,_)] [O 2 30 _,O 6 35 _,⟨14,3,slH _ _,_⟩,O 16 35 _] λ a w U=>?_)
      refine zt<|qa<|zg [η,η,η,η] [] [.v 119 _,.v 120 _] [.g 0,.g 1,.g 2,.g 3,.g 4,.g 5,.g 6,.g 7,.g 8,.o 1] U (zM 8 G (zv G (bz (vq 0 G) a5) o0)) (zz [(14,_),(1,_),(5,_),(10,_),(11,_),(12,_),(13,_),(15,_),(17,_),(120,_)] [O 2 30 _,O 6 35 _,⟨14,3,slH _ _,_⟩,O 16 35 _] λ a w U=>?_)
      refine a4<|a9 U (zm 9 G) (λ hb5=>?_) (λ hb5=>?_)
      ·refine qa<|zg [η,η,η,η] [] [.v 121 _,.v 122 _,.v 123 _,.t 124 _,.v 125 _,.v 4 _] [.g 0,.g 1,.g 2,.g 3,.g 4,.g 5,.g 6,.g 7,.o 5] U (zM 8 G (zv G (bv (vq 0 G) a5) (zv G (a8 (vq 1 G)) (zB 2 G (λ hg=>aW ek .nil) (zv G (bF (vq 2 G) (vq 3 G)) (zA 4 G o0)))))) (zz [(14,_),(1,_),(5,_),(10,_),(11,_),(12,_),(13,_),(15,_),(4,_)] [O 2 30 _,O 6 35 _,⟨14,3,slH _ _,_⟩,O 16 35 _] λ a w U=>?_)
       refine a4<|qe<|ab ?_
       refine aD ?_
       refine ab ?_
       refine ab ?_
       refine aD ?_
       refine ab ?_
       refine aj ?_ (ai G U (zm 8 G))
       exact bo_t26 (by rw [sp_err h0 hnf hj hb5]; rfl)
      ·have h1:(rowF t (x++[(j:Int)])).2.2=0:=by simpa using hb5
       refine qk<|zt<|zg [η,η,η,η] [] [.v 126 _,.v 127 _,.v 128 _,.v 10 _] [.g 0,.g 1,.g 2,.g 4,.g 5,.g 6,.o 3] U (zM 3 G (zM 7 G (zv G (aJ (vq 0 G) (vq 1 G) ((by rw [sp_m h1,wi64 zo zo]; omega:_=(((j+1)*cntW t.ps.length (x.length+1) (t.sp.length-1) 0:Nat):Int)))) (zA 2 G o0)))) (zz [(14,_),(1,_),(5,_),(11,_),(12,_),(13,_),(10,_)] [O 2 30 _,O 6 35 _,⟨14,3,slH _ _,_⟩,O 16 35 _] λ a w U=>?_)
       refine zt<|qa<|zg [η,η,η,η] [] [.adr 129 16 (.some 0) True,.v 130 _,.adr 131 6 (.some 0) True,.v 132 _,.v 133 _,.v 134 _,.v 135 _,.adr 136 16 (.some 4) (_=false),.f 137 _,.adr 138 6 (.some 4) (_=false),.f 139 _,.f 140 _,.f 141 _,.v 142 _] [.g 0,.g 1,.g 2,.g 3,.g 4,.g 5,.g 6,.o 13] U (zO 3 G bE (zL 0 3 0 G ac (zO 1 G bE (zL 2 1 0 G ac (zQ G (cF _ _) (.p (vq 1 G) (vq 3 G)) (zv G (aX (vq 4 G) a5) (zv G (a8 (vq 5 G)) (zC 6 3 G bD (zB 6 G (λ hg=>ax 7 G zk hg (lz0 3 G) (Sub.part 1 G G) ac) (zC 6 1 G bD (zB 6 G (λ hg=>ax 9 G zk hg (lz0 1 G) (Sub.part 1 G G) ac) (zB 6 G (λ hg=>aW (cF _ _) (.p (aa (vq 8 G) hg) (aa (vq 10 G) hg))) (zB 6 G (λ hg=>cD (aa (vq 11 G) hg) a5) (zv G (r_or (vq 6 G) (vq 12 G)) o0)))))))))))))) (zz [(14,_),(1,_),(5,_),(11,_),(12,_),(13,_),(10,_),(142,_)] [O 2 30 _,O 6 35 _,⟨14,3,slH _ _,_⟩,O 16 35 _] λ a w U=>?_)
       refine a4<|a9 U (zm 7 G) (λ hb6=>?_) (λ hb6=>?_)
       ·exact (sp_step h0 h1 hb6).elim
       ·refine qk<|zt<|zg [η,η,η,η] [] [.v 143 _,.v 144 _,.adr 145 16 (.some 0) (_=false),.f 146 _,.adr 147 6 (.some 0) (_=false),.f 148 _,.f 149 _,.f 150 _,.v 151 _,.v 11 _] [.g 0,.g 1,.g 2,.g 4,.g 5,.g 6,.o 9] U (zM 3 G (zv G (a8 (vq 0 G)) (zC 1 3 G bE (zB 1 G (λ hg=>ax 2 G zk hg (lz0 3 G) (Sub.part 0 G G) ac) (zC 1 1 G bE (zB 1 G (λ hg=>ax 4 G zk hg (lz0 1 G) (Sub.part 0 G G) ac) (zB 1 G (λ hg=>aW (cF _ _) (.p (aa (vq 3 G) hg) (aa (vq 5 G) hg))) (zB 1 G (λ hg=>bv (aa (vq 6 G) hg) a5) (zv G (r_or (vq 1 G) (vq 7 G)) (zA 8 G o0)))))))))) (zz [(14,_),(1,_),(5,_),(12,_),(13,_),(10,_),(11,_)] [O 2 30 _,O 6 35 _,⟨14,3,slH _ _,_⟩,O 16 35 _] λ a w U=>?_)
        refine a4<|zg [η,η,η,η] [] [.v 152 _,.v 153 _,.adr 154 16 (.some 4) (_=false),.f 155 _,.adr 156 6 (.some 4) (_=false),.f 157 _,.f 158 _,.f 159 _,.v 160 _,.v 12 _] [.g 0,.g 1,.g 2,.g 4,.g 5,.g 6,.o 9] U (zM 3 G (zv G (a8 (vq 0 G)) (zC 1 3 G bD (zB 1 G (λ hg=>ax 2 G zk hg (lz0 3 G) (Sub.part 1 G G) ac) (zC 1 1 G bD (zB 1 G (λ hg=>ax 4 G zk hg (lz0 1 G) (Sub.part 1 G G) ac) (zB 1 G (λ hg=>aW (cF _ _) (.p (aa (vq 3 G) hg) (aa (vq 5 G) hg))) (zB 1 G (λ hg=>bv (aa (vq 6 G) hg) a5) (zv G (r_or (vq 1 G) (vq 7 G)) (zA 8 G o0)))))))))) (zz [(14,_),(1,_),(5,_),(13,_),(10,_),(11,_),(12,_)] [O 2 30 _,O 6 35 _,⟨14,3,slH _ _,_⟩,O 16 35 _] λ a w U=>?_)
        refine al ?_
        refine a4<|zg [η,η,η,η] [] [.v 98 _,.v 99 _,.v 13 _] [.g 0,.g 1,.g 2,.g 4,.g 5,.g 6,.o 2] U (zM 3 G (zv G (aJ (vq 0 G) a5 ((wi64 zo zo).trans (by omega:(_:Int)=((j+1:Nat):Int)))) (zA 1 G o0))) (zz [(14,_),(1,_),(5,_),(10,_),(11,_),(12,_),(13,_)] [O 2 30 _,O 6 35 _,⟨14,3,slH _ _,_⟩,O 16 35 _] λ a w U=>?_)
        refine a4 ?_
        have U:=St.sel U [1,2,3,4,5,6]
        have U:=St.selL U [0,1]
        exact ⟨n-1,by omega,j+1,⟨by omega,λ i hi=>by
         by_cases e:i=j
         ·subst e; exact h1
         ·exact ha i zo⟩,by rw [loB_s,hiB_s]; exact U⟩
     ·obtain rfl:j=t.ps.length:=by simp only [qc] at hb4; have:=qx hb4; omega
      refine za<|ak<|ak<|aC<|zt<|zg [η,η] [⟨18,46,ptrH,some 5,_,some (6,_)⟩] [.v 162 _,.v 163 _,.v 161 _,.v 164 _,.v 165 _,.alc 2,.sto 2,.v 19 _] [.g 0,.g 1,.g 2,.g 3,.g 4,.o 7] U (zl 0 G cS (zQ G ((best_p _).wk (.cons tko_A.va .nil)) (.o (vq 0 G)) (zv G (a8 (vq 1 G)) (zv G (eh (vq 2 G)) (zv G (ee (vq 2 G)) (zY G (Str.zero str_cho) (zS 3 G io (zA 4 G o0)))))))) (zz [(1,_),(5,_),(10,_),(11,_),(12,_),(19,_)] [O 2 30 _,O 6 35 _,O 18 46 _] λ a w U=>?_)
      refine zt<|qa<|zg [η,η,η] [] [.v 166 _,.v 167 _,.v 168 _,.v 169 _,.t 170 _,.t 171 _,.v 172 _,.v 173 _,.adr 174 18 (.some 1) (_=true),.t 175 _,.adr 176 6 (.some 0) (_=true),.t 177 _,.t 178 _,.t 179 _,.t 180 _,.adr 181 18 (.some 1) ((_=true)∧_=false),.v 182 (Wh ((_=true)∧_=false) _),.adr 183 6 (.some 4) ((_=true)∧_=false),.v 184 (Wh ((_=true)∧_=false) _),.v 185 (Wh ((_=true)∧_=false) _),.v 186 (Wh ((_=true)∧_=false) _),.t 187 _,.v 188 _] [.g 0,.g 1,.g 2,.g 3,.g 4,.o 22] U (zM 0 G (zv G (bn Tryz.underlying31 (aV (ao (vq 0 G)))) (zv G (bv (vq 1 G) a5) (zv G (a8 (vq 2 G)) (zB 3 G (λ hg=>a8 (gq 5 G)) (zB 3 G (λ hg=>bv (aa (vq 4 G) hg) a5) (zv G (bF (vq 3 G) (vq 5 G)) (zv G (a8 (vq 6 G)) (zC 7 2 G hN (zB 7 G (λ hg=>ax 8 G zk hg (lz0 2 G) (Sub.part 1 G G) ac) (zC 7 1 G bE (zB 7 G (λ hg=>ax 10 G zk hg (lz0 1 G) (Sub.part 0 G G) ac) (zB 7 G (λ hg=>aW (cF _ _) (.p (aa (vq 9 G) hg) (aa (vq 11 G) hg))) (zB 7 G (λ hg=>aX (aa (vq 12 G) hg) a5) (zB 7 G (λ hg=>a8 (aa (vq 13 G) hg)) (oc (fy G G G (vq 14 G) nq (λ hg=>eN (lz0 2 G) hN)) (oc (bH G G G (vq 14 G) nq (λ hg=>ax 15 G zk hg (lz0 2 G) (Sub.part 1 G G) ac)) (oc (fy G G G (vq 14 G) nq (λ hg=>eN (lz0 1 G) bD)) (oc (bH G G G (vq 14 G) nq (λ hg=>ax 17 G zk hg (lz0 1 G) (Sub.part 1 G G) ac)) (oc (bH G G G (vq 14 G) nq (λ hg=>aW (cF _ _) (.p (aa (vq 16 G) hg) (aa (vq 18 G) hg)))) (oc (bH G G G (vq 14 G) nq (λ hg=>cD (aa (vq 19 G) hg) a5)) (zB 7 G (λ hg=>r_or (aa (vq 14 G) hg) (eK (vq 20 G) hg)) (zv G (bF (vq 7 G) (vq 21 G)) o0))))))))))))))))))))))) (zz [(1,_),(5,_),(10,_),(11,_),(12,_),(188,_)] [O 2 30 _,O 6 35 _,O 18 46 _] λ a w U=>?_)
      refine a4<|a9 U (zm 5 G) (λ hb7=>?_) (λ hb7=>?_)
      ·exact (sp_best h0 (by rw [qc,hul] at hb7; exact hb7)).elim
      ·refine qk<|zt<|zg [η,η,η] [] [.v 189 _,.v 190 _,.v 191 _,.v 192 _,.t 193 _,.v 194 _,.v 195 _,.t 196 _,.v 197 _,.v 198 _,.t 199 _,.v 200 _,.v 4 _] [.g 0,.o 12] U (zM 2 G (zM 1 G (zv G (bv (vq 0 G) (vq 1 G)) (zv G (a8 (vq 2 G)) (zB 3 G (λ hg=>a8 (gq 3 G)) (zv G (bF (vq 3 G) (vq 4 G)) (zv G (a8 (vq 5 G)) (zB 6 G (λ hg=>a8 (gq 4 G)) (zv G (bF (vq 6 G) (vq 7 G)) (zv G (a8 (vq 8 G)) (zB 9 G (λ hg=>aW ek .nil) (zv G (bF (vq 9 G) (vq 10 G)) (zA 11 G o0))))))))))))) (zz [(1,_),(4,_)] [O 2 30 _,O 6 35 _,O 18 46 _] λ a w U=>?_)
       refine a4<|qe<|aj ?_ (ai G U (zm 1 G))
       exact bo_t26 (by rw [sp_lo h0 hnf ha,sp_hi h0 hnf ha,hpc]; simp)
open Go.ChangeShapes Go.WideShapes Go.ChangeAt
open Go.ChangeMaps (open_string shut_string)
theorem own:ownKnob Tryz.prog.godebug=none:=by kernel_rfl
theorem laidOut:laidOutB Tryz.prog=true:=by kernel_rfl
theorem lifted (os:Os)(started:os.Started)(H:Type)(enc:TypeId × Value→H) :
  ReturnsInHanded {} Tryz.checked os 3 .any (Rows.searchSplitsSpec.pre6 enc Tryz.prog Tryz.f3 Rows.searchSplitsRow.domain false) (Rows.searchSplitsSpec.post enc Tryz.prog Tryz.f3 false true false false):=by
 refine returnsInHanded_of_change (C:=Tryz.checked) own started zk Tryz.func3
  (ChangeSpec.witness6 (enc:=enc) (C:=Tryz.checked) false ⟨#[],#[.agg #[.slice none 0 0,.slice none 0 0,.bool false,.slice none 0 0,.bool false,.slice none 0 0],.slice none 0 0],[]⟩ 8 zk zk zk zk) ?_
 intro W base args ds gs before hval0 hW hcnd _
 have hval:∀ (j:Nat) t v,Tryz.f3.params[j]?=some t→args[j]?=some v→Value.okWide Tryz.prog W .any base t v:=hval0
 have hW':=hW
 obtain ⟨p,q,hA0,hV,rfl,hfz,hnd⟩:=hW
 have hA:DataW.TrodAll enc Tryz.prog W 0 (λ _=>true) true Tryz.f3.params.toList args.toList ds p:=hA0
 rw [Tryz.params3] at hA hval
 obtain ⟨v0,vs0,d0,ds0,p0,q0,hargs,rfl,rfl,h0,r0⟩:=trodAll_cons hA
 obtain ⟨v1,vs1,d1,ds1,p1,q1,rfl,rfl,rfl,h1,r1⟩:=trodAll_cons r0
 obtain ⟨rfl,rfl,rfl⟩:=trodAll_nil r1
 obtain rfl:args = #[v0,v1]:=by cases args; simp_all
 obtain ⟨rfl,rfl⟩:=trodVars_none hV
 have k0:=h0
 have lt0:∀ x∈p0,x.block<W.heap.size:=by obtain ⟨m,hm⟩:=k0; exact DataW.trod_lt m _ _ _ hm
 have k1:=h1
 have lt1:∀ x∈p1,x.block<W.heap.size:=by obtain ⟨m,hm⟩:=k1; exact DataW.trod_lt m _ _ _ hm
 obtain ⟨x0,a0⟩:=arg_of (A:=TkA) (λ _=>rfl) Tryz.underlying30 rd_tk (hval 0 30 v0 rfl rfl) h0
 obtain ⟨x1,a1⟩:=arg_sl (A:=InA) (m:=1) (D:=[]) Tryz.underlying31 zk zd (λ _=>kr zk) rd_in (hval 1 31 v1 rfl rfl) h1
 clear hA0 hval0
 refine ((fW x0 x1).2 W.heap.size W [v0,v1] (qf _) (.cons a0 (.cons a1 .nil))).mono λ e W' ⟨v,he,hv,bel⟩=>?_
 have hv':=cq hv
 subst hv' he
 exact ⟨_,rfl,_,_,_,[],_,[],hW',trodAll_mk1 (shut_bool Tryz.underlying4 _),(trodAll_cons_mk (Below.trod laidOut zk (qo zk) k0 bel lt0) (trodAll_cons_mk (Below.trod laidOut zk (qo zk) k1 bel lt1) trodAll_mk0)),rfl,bel.frame _,λ h=>by cases h⟩
theorem over:Rows.searchSplitsRow.holds Tryz.pinned (OpenSpec.ofChange Rows.searchSplitsSpec) :=
 OpenClaim.holds_of_wide 3 Tryz.f3 rfl rfl rfl rfl rfl rfl rfl ⟨rfl,rfl,rfl,rfl,rfl⟩ rfl rfl rfl rfl rfl zk Tryz.func3 zk
  (qo zk) (by unfold Func.isWrapper; rw [qj (qx zk)]; exact ⟨rfl,rfl⟩)
  (λ os started H enc _=>lifted os started H enc)
theorem provedSearchSplits:Rows.SearchSplitsSaid:=over
#print axioms provedSearchSplits
end Go.Proofs.YtlakjmncfooodaaGreat
