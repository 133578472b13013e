import Derived.Test.YtlakjmncfooodaaSnAg
set_option linter.all false
set_option maxRecDepth 100000
namespace Go.Proofs.Ytlakjmncfooodaa
open Go Go.RowKit
variable {w:World}{B:Nat}{a:Act}{v:Value}{T:TypeId}{w0:Bs}{Γ:List (Nat × VA)}{Λ:List Lc}{ps:String}{af:Array Edge}{vr:Value}{H:Hd}{cs:List Value}{w':World}{P:Program}{D:List TypeId}
theorem wi_m2 {k:Nat}(h:k<4611686018427387904):IntKind.i64.wrap (((k+2:Nat):Int)-2)=((k:Nat):Int):=by rw [wi64 zo zo]; omega
theorem wu64pred {x:Nat}(h:0<x)(h2:x<18446744073709551616):IntKind.u64.wrap ((x:Int)-((1:Nat):Int))=((x-1:Nat):Int):=by simp [IntKind.wrap,IntKind.bits,IntKind.signed]; omega
theorem bbl {x:Nat}:x%4294967296<4294967296:=qO _ zd
theorem bbl64 {x:Nat}:x%4294967296<18446744073709551616:=zx bbl zd
theorem divide_c (x y:List Nat)(k:Nat)(hyl:y.length=k+2)(h0:y.getD (k+1) 0≠0)(hxy:k+2≤x.length)(hxs:x.length≤1099511627776):Cn Try.prog 77 [(MgA x).va,(MgA y).va] (Tu [(MgN (digs (x.length+1-(k+2)) (val x/val y))).va,(MgN (digs (k+2) (val x%val y))).va]):=by
 refine Cn.introW Try.func77 G zk nq (.cons (hC _).va (.cons (hC _).va .nil)) (tu_free (.cons (di _).va (.cons (di _).va .nil))) (λ B w0 a hB0 U=>?_)
 have U:=zn [(0,(MgO x).va),(1,(MgO y).va)] [] U
 have hx:=(U.magO 0 rfl).1
 have hy:=(U.magO 1 rfl).1
 have hys:y.length≤1099511627776:=by omega
 have hpy:y.length-1<y.length:=by omega
 obtain ⟨s,hs⟩:∃ s,s=32-bl (y.getD (k+1) 0):=⟨_,rfl⟩
 have hsy:32-bl (y[y.length-1]'hpy)=s:=by
  rw [hs,show y.getD (k+1) 0=y[y.length-1]'hpy from by simp [List.getD_eq_getElem?_getD,hyl]]
 obtain ⟨X,hX⟩:∃ X,X=val x*2^s:=⟨_,rfl⟩
 obtain ⟨DD,hDD⟩:∃ DD,DD=val y*2^s:=⟨_,rfl⟩
 obtain ⟨d1,d2⟩:=dv_norm hy hyl h0
 have hs32:s<32:=hs▸(bl_norm h0 (fq hy (k+1))).2.2
 rw [← hs,← hDD] at d1 d2
 have hX0:X<DD*4294967296^(x.length+1-(k+2)):=hX▸dv_start hx rfl hxy hs32 d1
 have hDp:0<DD:=qD (xC (qX zd) zd) d1
 have htop:2147483648≤DD/4294967296^(k+1)%4294967296:=by
  have h1:DD/4294967296^(k+1)<4294967296:=zb d2
  rw [qS h1,xP (qX zd),qK]
  exact d1
 have htop2:DD/4294967296^(k+1)%4294967296<4294967296:=bbl
 obtain ⟨R,hR⟩:∃ R,R=X%(DD*4294967296^0):=⟨_,rfl⟩
 have hp2:0<2^s:=qX zd
 have hend4:dvQ (x.length+1-(k+2)) X DD 0=digs (x.length+1-(k+2)) (val x/val y):=by
  rw [dvQ_end,hX,hDD,Nat.mul_div_mul_right _ _ hp2]
 have hend5:R/2^s=val x%val y:=by
  rw [hR,x3,zJ,hX,hDD,Nat.mul_mod_mul_right,Nat.mul_div_cancel _ hp2]
 have hR0:R/4294967296^(k+2)%4294967296=0:=by
  have:R<4294967296^(k+2):=by rw [hR,x3,zJ]; exact zx (qO _ hDp) d2
  rw [z9 this]
 refine qb<|zh [.v 4 _,.v 5 _] [.g 0,.g 1,.o 0,.o 1] U (zv G (a6 be) (zv G (a6 be) o0)) (zz [(0,_),(1,_),(4,_),(5,_)] [] λ a w U=>?_)
 refine a4<|wp_scope_straight ?_
 refine qb<|zh [.v 20 _,.v 21 _,.v 22 _,.v 23 _,.v 24 _,.v 25 _,.v 26 _,.v 27 _,.v 6 _] [.g 0,.g 1,.g 2,.g 3,.o 8] U (zM 1 G (zM 1 G (zv G (aG Try.underlying23 (ap (vq 1 G))) (zv G (cu (vq 2 G) a5 (wi_pm zo zo)) (zv G (bI aN (ap (vq 0 G)) (vq 3 G) zo) (zv G (al (vq 4 G) aT) (zQ G (lz32_c _ (hy _ (qg _))) (.o (vq 5 G)) (zv G (au .u64 zk zk (vq 6 G) ((show IntKind.u64.wrap _=((s:Nat):Int) from by rw [hsy]; exact wu64 zo))) (zA 7 G o0))))))))) (zz [(0,_),(1,_),(4,_),(5,_),(6,_)] [] λ a w U=>?_)
 refine zt<|go_drawR (sts:=[]) (news:=[⟨30,94,slH (x.length+1) (x.length+1),some 2,_,none⟩,⟨33,94,slH (y.length+1) (y.length+1),some 5,_,none⟩]) (sp:=[.v 28 _,.v 29 _,.alc 0,.v 31 _,.v 32 _,.alc 1,.v 34 _,.v 35 _,.adr 36 33 (.fn (cutV y.length)) True,.adr 7 30 .none True,.adr 1 33 (.fn (cutV y.length)) True]) [[],[],[0,1],[],[],[0,1,2,3,4],[],[6],[0,1,2,3,4,5,6,7],[0,1,2,3,4,5],[0,1,2,3,4,5,6,7,8,9]] [.g 4] [⟨7,94,slH (x.length+1) (x.length+1),_⟩,⟨1,94,slH y.length (y.length+1),_⟩] a8 U (zM 0 G (zM 4 G (oc (ob_calr (xs:=[.tmp 28,.tmp 29]) G G G (up_c x s hxs hs32) (.p (ap (vq 0 G)) (vq 1 G))) (zM 1 G (zM 4 G (oc (ob_calr (xs:=[.tmp 31,.tmp 32]) G G G (up_c y s hys hs32) (.p (ap (vq 3 G)) (vq 4 G))) (zM 1 G (zv G (aG Try.underlying23 (ap (vq 6 G))) (oc (ob_a G G (a_cut aN (lz0 1 G) (vq 7 G) zo zo)) (oc (ob_a G G ko) (oc (ob_a G G (a_asgK 8 G zk)) o0))))))))))) zk zk zk zk (.cons ⟨rfl,rfl,.inr ⟨9,.none,rfl,λ _=>rfl⟩⟩ (.cons ⟨rfl,rfl,.inr ⟨10,.fn (cutV y.length),rfl,λ _=>rfl⟩⟩ .nil)) (zz [(6,(NumA .u64 (s:Nat)).va)] [⟨7,94,slH (x.length+1) (x.length+1),Nums .u32 (digs (x.length+1) (val x*2^s))⟩,⟨1,94,slH y.length (y.length+1),Nums .u32 (digs (y.length+1) (val y*2^s))⟩] λ a w U=>?_)
 rw [← hX,← hDD,hyl] at U
 obtain ⟨g0,_,U⟩:=St.expose U 0 rfl
 obtain ⟨g1,_,U⟩:=St.expose U 1 rfl
 have U:=zn [(1,EqV ((slH (k+2) (k+3)).f g1)),(7,EqV ((slH (x.length+1) (x.length+1)).f g0)),(6,(NumA .u64 (s:Nat)).va)] [⟨7,94,slH (x.length+1) (x.length+1),Nums .u32 (digs (x.length+1) X)⟩,⟨1,94,slH (k+2) (k+3),Nums .u32 (digs (k+3) DD)⟩] U
 refine zt<|cR (sts:=[none,none]) (news:=[⟨43,94,slH _ _,some 6,_,none⟩]) (sp:=[.v 37 _,.v 38 _,.v 39 _,.v 40 _,.v 41 _,.v 42 _,.alc 2,.adr 8 43 .none True]) [.g 0,.g 1,.g 2,.o 0] [(8,43)] [⟨7,94,slH (x.length+1) (x.length+1),_⟩,⟨1,94,slH (k+2) (k+3),_⟩,⟨8,94,slH _ _,_⟩] U (zM 1 G (zv G (ca Try.underlying23 (vq 0 G)) (zM 0 G (zv G (ca Try.underlying23 (vq 2 G)) (zv G (cu (vq 1 G) (vq 3 G) (wi64 zo zo)) (zv G (r_maxk a5 (vq 4 G) (show max (0:Int) _=((x.length+1-(k+2):Nat):Int) from by omega)) (oc (ez G G G fQ (vq 5 G) (vq 5 G) zo) (oc (ob_a G G ko) o0)))))))) zk zk zk ⟨⟨7,rfl⟩,trivial⟩ G zk (zz [(1,_),(7,_),(6,_),(37,_)] [⟨7,94,slH (x.length+1) (x.length+1),_⟩,⟨1,94,slH (k+2) (k+3),_⟩,⟨8,94,slH _ _,_⟩] λ a w U=>?_)
 obtain ⟨g2,_,U⟩:=St.expose U 2 rfl
 have U:=St.swap (g:=g0) (s':=37) (H':=slH (x.length+1) (x.length+1)) U 0 rfl (zm 2 rfl) (zm 4 rfl) rfl
 refine zt<|zg [η,η,η] [] [.v 44 _,.v 45 _,.v 46 _,.v 47 _,.v 48 _,.v 49 _,.v 50 _,.v 9 _] [.g 0,.g 1,.g 2,.g 3,.g 4,.o 7] U (zM 1 G (zM 1 G (zv G (ca Try.underlying23 (vq 1 G)) (zv G (cu (vq 2 G) a5 (wi_pred (n:=k+1) zo)) (zv G (bO aN (vq 0 G) (vq 3 G) zo) (zv G (bZ (vq 4 G) (lz0 1 G) (gq 1 G) (nums_at' (digs_at zo)) aT) (zv G (au .u64 zk zk (vq 5 G) (wu64 bbl64)) (zA 6 G o0)))))))) (zz [(8,_),(1,_),(7,_),(6,_),(37,_),(9,_)] [⟨37,94,slH (x.length+1) (x.length+1),_⟩,⟨1,94,slH (k+2) (k+3),_⟩,⟨8,94,slH _ _,_⟩] λ a w U=>?_)
 refine zt<|wp_label<|zt<|qb<|zg [η,η,η] [] [.v 51 _,.v 52 _,.v 53 _,.v 10 _] [.g 0,.g 1,.g 2,.g 3,.g 4,.g 5,.o 3] U (zM 0 G (zv G (ca Try.underlying23 (vq 0 G)) (zv G (cu (vq 1 G) a5 (wi64 zo zo)) (zA 2 G o0)))) (zz [(8,_),(1,_),(7,_),(6,_),(37,_),(9,_),(10,_)] [⟨37,94,slH (x.length+1) (x.length+1),_⟩,⟨1,94,slH (k+2) (k+3),_⟩,⟨8,94,slH _ _,_⟩] λ a w U=>?_)
 refine a4<|qt ?_
 have U:=St.sel U [3,2,4,1,0,5,6]
 refine wp_loop_ghost (λ n a w=>n≤(x.length+1-(k+2))∧St B w0 200 [(6,(NumA .u64 (s:Nat)).va),(7,EqV ((slH (x.length+1) (x.length+1)).f g0)),(37,EqV ((slH (x.length+1) (x.length+1)).f g0)),(1,EqV ((slH (k+2) (k+3)).f g1)),(8,EqV ((slH (x.length+1-(k+2)) (x.length+1-(k+2))).f g2)),(9,(NumA .u64 (DD/4294967296^(k+1)%4294967296:Nat)).va),(10,In ((n:Int)-1))] [⟨37,94,slH (x.length+1) (x.length+1),Nums .u32 (dvL (x.length+1) X DD n)⟩,⟨1,94,slH (k+2) (k+3),Nums .u32 (digs (k+3) DD)⟩,⟨8,94,slH (x.length+1-(k+2)) (x.length+1-(k+2)),Nums .u32 (dvQ (x.length+1-(k+2)) X DD n)⟩] a w) ((x.length+1-(k+2))) ?_ ?_
 ·exact ⟨qf _,by rw [dvL_top hX0,dvQ_top]; exact U⟩
 intro n a w hI
 obtain ⟨hn,U⟩:=hI
 refine qb<|qb<|zg [η,η,η] [] [.v 54 _,.v 55 _] [.g 0,.g 1,.g 2,.g 3,.g 4,.g 5,.g 6,.o 1] U (zM 6 G (zv G (dH (vq 0 G) a5) o0)) (zz [(6,_),(7,_),(37,_),(1,_),(8,_),(9,_),(10,_),(55,_)] [⟨37,94,slH (x.length+1) (x.length+1),_⟩,⟨1,94,slH (k+2) (k+3),_⟩,⟨8,94,slH _ _,_⟩] λ a w U=>?_)
 refine a4<|aa U (zm 7 G) (λ hb0=>?_) (λ hb0=>?_)
 ·obtain ⟨i,rfl⟩:∃ i,n=i+1:=⟨n-1,by simp at hb0; omega⟩
  rw [show ((i+1:Nat):Int)-1=(i:Int) from by omega] at U
  have hv:Dv (x.length+1) k i (X%(DD*4294967296^(i+1))) DD:=dv_mk zo d1 d2
  have hu:=hv.at_
  have hgs0:=hv.gs0 rfl rfl
  have hgmax:=λ {g r:Nat}=>hv.gmax (g:=g) (r:=r)
  have hdown:=λ {g r:Nat}=>hv.down (g:=g) (r:=r)
  have hend1:=λ {g r:Nat}=>hv.end1 (g:=g) (r:=r)
  have hend2:=λ {g r:Nat}=>hv.end2 (g:=g) (r:=r)
  have hdq:=dv_q X DD i
  have hyes:=hv.yes
  have hls:=λ {g:Nat}=>hv.ls (g:=g)
  have hno:=λ {g:Nat}=>hv.end_no (g:=g)
  have hye:=λ {g:Nat}=>hv.yes_ex (g:=g)
  obtain ⟨Y,hY⟩:∃ Y,X%(DD*4294967296^(i+1))/4294967296^i=Y:=⟨_,rfl⟩
  simp only [hY] at hu hgs0 hgmax hdown hend1 hend2 hdq hyes hls hno hye
  have hhd:Y/4294967296^(k+2)%4294967296*4294967296+Y/4294967296^(k+1)%4294967296<18446744073709551616:=by
   have h1:Y/4294967296^(k+2)%4294967296<4294967296:=bbl
   have h2:Y/4294967296^(k+1)%4294967296<4294967296:=bbl
   omega
  refine qk<|zt<|qt<|qb<|zg [η,η,η] [] [.v 58 _,.v 59 _,.v 60 _,.v 61 _,.v 62 _,.v 63 _,.v 64 _,.v 65 _,.v 11 _] [.g 0,.g 1,.g 2,.g 3,.g 4,.g 5,.g 6,.o 8] U (zM 1 G (zM 6 G (zM 6 G (zM 3 G (zv G (ca Try.underlying23 (vq 3 G)) (zv G (aU (vq 2 G) (vq 4 G) (gU zo)) (zv G (aU (vq 5 G) a5 (bo zo)) (zv G (r_winE aN (vq 0 G) (vq 1 G) (vq 6 G) (win_ok zo)) (zA 7 G o0))))))))) (zz [(6,_),(7,_),(37,_),(1,_),(8,_),(9,_),(10,_),(11,_)] [⟨37,94,slH (x.length+1) (x.length+1),_⟩,⟨1,94,slH (k+2) (k+3),_⟩,⟨8,94,slH _ _,_⟩] λ a w U=>?_)
  have U:=St.swap (g:=g0) (s':=11) (H':=winH i (k+3) (x.length+1-i)) U 0 rfl (zm 2 rfl) (zm 7 rfl) rfl
  refine zt<|zgd [[],[],[1],[0,1,2],[0,1,2,3],[0,1,2,3,4],[0,1,2,3,4,5],[],[],[8],[8,9],[7,8,9,10],[7,8,9,10,11],[7,8,9,10,11,12],[0,1,2,3,4,5,6,7,8,9,10,11,12,13],[0,1,2,3,4,5,6,7,8,9,10,11,12,13,14]] [none,none,none] [] [.v 66 _,.v 67 _,.v 68 _,.v 69 _,.v 70 _,.v 71 _,.v 72 _,.v 73 _,.v 74 _,.v 75 _,.v 76 _,.v 77 _,.v 78 _,.v 79 _,.v 80 _,.v 12 _] [.g 0,.g 1,.g 2,.g 3,.g 4,.g 5,.g 6,.g 7,.o 15] a8 U (zM 7 G (zM 3 G (zv G (ca Try.underlying23 (vq 1 G)) (zv G (bO aN (vq 0 G) (vq 2 G) zo) (zv G (bZ (vq 3 G) (lz0 0 G) (gq 7 G) (nums_at' (hu (k+2) zo)) aT) (zv G (au .u64 zk zk (vq 4 G) (wu64 bbl64)) (zv G (r_shl (vq 5 G) (aB 32 G) zd (wshl32 bbl)) (zM 7 G (zM 3 G (zv G (ca Try.underlying23 (vq 8 G)) (zv G (cu (vq 9 G) a5 (wi_pred (n:=k+1) zo)) (zv G (bO aN (vq 7 G) (vq 10 G) zo) (zv G (bZ (vq 11 G) (lz0 0 G) (gq 7 G) (nums_at' (hu (k+1) zo)) aT) (zv G (au .u64 zk zk (vq 12 G) (wu64 bbl64)) (zv G (r_bor (vq 6 G) (vq 13 G) (or64 bbl bbl)) (zA 14 G o0)))))))))))))))) zk zk zk zk (zz [(6,_),(7,_),(37,_),(1,_),(8,_),(9,_),(10,_),(11,_),(12,_)] [⟨11,94,winH i (k+3) (x.length+1-i),_⟩,⟨1,94,slH (k+2) (k+3),_⟩,⟨8,94,slH _ _,_⟩] λ a w U=>?_)
  refine zt<|zgd [[],[],[0,1],[],[],[3,4],[0,1,2],[0,1,2,3,4,5,6]] [none,none,none] [] [.v 81 _,.v 82 _,.v 83 _,.v 84 _,.v 85 _,.v 86 _,.v 13 _,.v 14 _] [.g 0,.g 1,.g 2,.g 3,.g 4,.g 5,.g 6,.g 7,.o 6,.o 7] a8 U (zM 8 G (zM 5 G (zv G (r_quo (vq 0 G) (vq 1 G) zo (nquo (qT (ke _ _) hhd))) (zM 8 G (zM 5 G (zv G (r_rem (vq 3 G) (vq 4 G) zo (nrem)) (zA 2 G (zA 5 G o0)))))))) zk zk zk zk (zz [(6,_),(7,_),(37,_),(1,_),(8,_),(9,_),(10,_),(11,_),(13,_),(14,_)] [⟨11,94,winH i (k+3) (x.length+1-i),_⟩,⟨1,94,slH (k+2) (k+3),_⟩,⟨8,94,slH _ _,_⟩] λ a w U=>?_)
  refine zt<|block_join (λ a w=>∃ q:Nat,(q<4294967296∧(q=Y/DD∨q=Y/DD+1))∧St B w0 200 [(6,(NumA .u64 (s:Nat)).va),(7,EqV ((slH (x.length+1) (x.length+1)).f g0)),(37,EqV ((slH (x.length+1) (x.length+1)).f g0)),(1,EqV ((slH (k+2) (k+3)).f g1)),(8,EqV ((slH (x.length+1-(k+2)) (x.length+1-(k+2))).f g2)),(9,(NumA .u64 (DD/4294967296^(k+1)%4294967296:Nat)).va),(10,In (i:Nat)),(11,EqV ((winH i (k+3) (x.length+1-i)).f g0)),(13,(NumA .u64 (q:Nat)).va)] [⟨11,94,winH i (k+3) (x.length+1-i),Nums .u32 (dvL (x.length+1) X DD (i+1))⟩,⟨1,94,slH (k+2) (k+3),Nums .u32 (digs (k+3) DD)⟩,⟨8,94,slH (x.length+1-(k+2)) (x.length+1-(k+2)),Nums .u32 (dvQ (x.length+1-(k+2)) X DD (i+1))⟩] a w) ?_ (λ a w U=>?_)
  ·have U:=St.sel U [0,1,2,3,4,5,6,7,8,9]
   refine wp_loop_ghost (λ n a w=>∃ r:Nat,Gs k Y DD n r∧St B w0 200 [(6,(NumA .u64 (s:Nat)).va),(7,EqV ((slH (x.length+1) (x.length+1)).f g0)),(37,EqV ((slH (x.length+1) (x.length+1)).f g0)),(1,EqV ((slH (k+2) (k+3)).f g1)),(8,EqV ((slH (x.length+1-(k+2)) (x.length+1-(k+2))).f g2)),(9,(NumA .u64 (DD/4294967296^(k+1)%4294967296:Nat)).va),(10,In (i:Nat)),(11,EqV ((winH i (k+3) (x.length+1-i)).f g0)),(13,(NumA .u64 (n:Nat)).va),(14,(NumA .u64 (r:Nat)).va)] [⟨11,94,winH i (k+3) (x.length+1-i),Nums .u32 (dvL (x.length+1) X DD (i+1))⟩,⟨1,94,slH (k+2) (k+3),Nums .u32 (digs (k+3) DD)⟩,⟨8,94,slH (x.length+1-(k+2)) (x.length+1-(k+2)),Nums .u32 (dvQ (x.length+1-(k+2)) X DD (i+1))⟩] a w) ((Y/4294967296^(k+2)%4294967296*4294967296+Y/4294967296^(k+1)%4294967296)/(DD/4294967296^(k+1)%4294967296)) ?_ ?_
   ·exact ⟨_,hgs0,U⟩
   intro n a w hI
   obtain ⟨r,hgs,U⟩:=hI
   have hgm:=hgmax hgs
   have hr:=hgs.r
   refine qb<|qb<|gC (anc:=[[],[0],[0,1],[0,1,2],[0,1,2],[0,1,2],[0,1,2,5],[0,1,2,5,6],[0,1,2,4,5,6,7],[0,1,2,4,5,6,7,8],[0,1,2,4,5,6,7,8,9],[0,1,2,3,4,5,6,7,8,9,10],[0,1,2],[0,1,2,12],[0,1,2],[0,1,2],[0,1,2,15],[0,1,2,15,16],[0,1,2,14,15,16,17],[0,1,2,14,15,16,17,18],[0,1,2,14,15,16,17,18,19],[0,1,2,12,13,14,15,16,17,18,19,20],[0,1,2,3,4,5,6,7,8,9,10,11,12,13,14,15,16,17,18,19,20,21],[0,1,2,3,4,5,6,7,8,9,10,11,12,13,14,15,16,17,18,19,20,21,22]]) (sts:=[none,none,none]) (news:=[]) (sp:=((.v 87 _:Sp)::(.v 88 _)::(.v 89 _)::(.f 90 _)::(.f 91 _)::(.f 92 _)::(.f 93 _)::(.f 94 _)::(.f 95 _)::(.f 96 _)::(.f 97 _)::(.f 98 _)::(.f 99 _)::(.f 100 _)::(.f 101 _)::(.f 102 _)::(.f 103 _)::(.f 104 _)::(.f 105 _)::(.f 106 _)::(.f 107 _)::(.f 108 _)::(.f 109 _)::(.v 110 _)::[])) [.g 0,.g 1,.g 2,.g 3,.g 4,.g 5,.g 6,.g 7,.g 8,.g 9,.o 23] a8 U (zM 8 G (zv G (dH (vq 0 G) (aB 4294967296 G)) (zv G (a7 (vq 1 G)) (zB 2 G (λ hg=>a7 (gq 8 G)) (zB 2 G (λ hg=>a7 (gq 3 G)) (zB 2 G (λ hg=>a7 (gq 3 G)) (zB 2 G (λ hg=>ca Try.underlying23 (a9 (vq 5 G) hg)) (zB 2 G (λ hg=>cu (a9 (vq 6 G) hg) a5 (wi_m2 zo)) (zB 2 G (λ hg=>bO aN (a9 (vq 4 G) hg) (a9 (vq 7 G) hg) zo) (zB 2 G (λ hg=>bZ (a9 (vq 8 G) hg) (lz0 1 G) (gq 3 G) (nums_at' (digs_at zo)) aT) (zB 2 G (λ hg=>au .u64 zk zk (a9 (vq 9 G) hg) (wu64 bbl64)) (zB 2 G (λ hg=>r_mul (a9 (vq 3 G) hg) (a9 (vq 10 G) hg) (wmul64 (mul64_lt (ge_no hg) bbl))) (zB 2 G (λ hg=>a7 (gq 9 G)) (zB 2 G (λ hg=>r_shl (a9 (vq 12 G) hg) (aB 32 G) zd (wshl32 hr)) (zB 2 G (λ hg=>a7 (gq 7 G)) (zB 2 G (λ hg=>a7 (gq 3 G)) (zB 2 G (λ hg=>ca Try.underlying23 (a9 (vq 15 G) hg)) (zB 2 G (λ hg=>cu (a9 (vq 16 G) hg) a5 (wi_m2 zo)) (zB 2 G (λ hg=>bO aN (a9 (vq 14 G) hg) (a9 (vq 17 G) hg) zo) (zB 2 G (λ hg=>bZ (a9 (vq 18 G) hg) (lz0 0 G) (gq 7 G) (nums_at' (hu k zo)) aT) (zB 2 G (λ hg=>au .u64 zk zk (a9 (vq 19 G) hg) (wu64 bbl64)) (zB 2 G (λ hg=>r_bor (a9 (vq 13 G) hg) (a9 (vq 20 G) hg) (or64 hr bbl)) (zB 2 G (λ hg=>cZ (a9 (vq 11 G) hg) (a9 (vq 21 G) hg)) (zv G (r_or (vq 2 G) (vq 22 G)) o0)))))))))))))))))))))))) zk zk zk zk (zz [(6,_),(7,_),(37,_),(1,_),(8,_),(9,_),(10,_),(11,_),(13,_),(14,_),(110,_)] [⟨11,94,winH i (k+3) (x.length+1-i),_⟩,⟨1,94,slH (k+2) (k+3),_⟩,⟨8,94,slH _ _,_⟩] λ a w U=>?_)
   refine a4<|aa U (zm 10 G) (λ hb1=>?_) (λ hb1=>?_)
   ·have hlt:=hdown hgs (or_yes hb1)
    have hn0:0<n:=qT (zi _) hlt
    refine qk<|a4<|qt<|qb<|zg [η,η,η] [] [.v 111 _,.v 112 _,.v 13 _] [.g 0,.g 1,.g 2,.g 3,.g 4,.g 5,.g 6,.g 7,.g 9,.o 2] U (zM 8 G (zv G (cu (vq 0 G) (aB 1 G) (wu64pred hn0 zo)) (zA 1 G o0))) (zz [(6,_),(7,_),(37,_),(1,_),(8,_),(9,_),(10,_),(11,_),(14,_),(13,_)] [⟨11,94,winH i (k+3) (x.length+1-i),_⟩,⟨1,94,slH (k+2) (k+3),_⟩,⟨8,94,slH _ _,_⟩] λ a w U=>?_)
    refine zt<|zg [η,η,η] [] [.v 113 _,.v 114 _,.v 115 _,.v 14 _] [.g 0,.g 1,.g 2,.g 3,.g 4,.g 5,.g 6,.g 7,.g 9,.o 3] U (zM 8 G (zM 5 G (zv G (aU (vq 0 G) (vq 1 G) (wadd64 zo)) (zA 2 G o0)))) (zz [(6,_),(7,_),(37,_),(1,_),(8,_),(9,_),(10,_),(11,_),(13,_),(14,_)] [⟨11,94,winH i (k+3) (x.length+1-i),_⟩,⟨1,94,slH (k+2) (k+3),_⟩,⟨8,94,slH _ _,_⟩] λ a w U=>?_)
    refine zt<|zg [η,η,η] [] [.v 116 _,.v 117 _] [.g 0,.g 1,.g 2,.g 3,.g 4,.g 5,.g 6,.g 7,.g 8,.g 9,.o 1] U (zM 9 G (zv G (dH (vq 0 G) (aB 4294967296 G)) o0)) (zz [(6,_),(7,_),(37,_),(1,_),(8,_),(9,_),(10,_),(11,_),(13,_),(14,_),(117,_)] [⟨11,94,winH i (k+3) (x.length+1-i),_⟩,⟨1,94,slH (k+2) (k+3),_⟩,⟨8,94,slH _ _,_⟩] λ a w U=>?_)
    refine a4<|aa U (zm 10 G) (λ hb2=>?_) (λ hb2=>?_)
    ·refine zf<|blk_exit' zd ?_
     refine aj<|az<|a4 ?_
     have U:=St.sel U [0,1,2,3,4,5,6,7,8]
     exact ⟨_,hend2 hgs hlt (ge_yes hb2),U⟩
    ·refine qk<|ai ?_
     refine a4 ?_
     have U:=St.sel U [0,1,2,3,4,5,6,7,8,9]
     exact ⟨n-1,by omega,_,hgs.next hlt (ge_no hb2),U⟩
   ·obtain ⟨hq,hle⟩:=or_no hb1
    refine zf<|aj<|aj<|az<|a4 ?_
    have U:=St.sel U [0,1,2,3,4,5,6,7,8]
    exact ⟨_,⟨hq,hend1 hgs hq hle⟩,U⟩
  obtain ⟨q,⟨hq,hqq⟩,U⟩:=U
  refine zt<|qb<|zg [some (3,_),η,η] [] [.v 118 _,.v 119 _,.v 120 _,.cal 121 _ 0,.v 122 _] [.g 0,.g 1,.g 2,.g 3,.g 4,.g 5,.g 6,.g 7,.g 8,.o 4] U (zM 7 G (zM 3 G (zM 8 G (oc (ob_cal2 (xs:=[.tmp 120]) G G G (less_c (dvL (x.length+1) X DD (i+1)) (digs (k+3) DD) i (k+2) (x.length+1-i) (k+3) q (bx _ _) (bx _ _) (by rw [ab]; omega) (by rw [show (dvL (x.length+1) X DD (i+1)).length=x.length+1 from ab _ _]; omega) zo hq) (arwE (vq 0 G) (gq 7 G)) (lz0 1 G) (Nat.ne_of_beq_eq_false G) (arwE (vq 1 G) (gq 3 G)) (.o (vq 2 G))) (zv G (fh (has_c 3 G zk zk)) o0))))) (zz [(6,_),(7,_),(37,_),(1,_),(8,_),(9,_),(10,_),(11,_),(13,_),(122,_)] [⟨11,94,winH i (k+3) (x.length+1-i),_⟩,⟨1,94,slH (k+2) (k+3),_⟩,⟨8,94,slH _ _,_⟩] λ a w U=>?_)
  refine a4<|aa U (zm 9 G) (λ hb3=>?_) (λ hb3=>?_)
  ·have hqd:q=Y/DD:=by
    rcases hqq with hqq | hqq
    ·exact hqq
    ·exfalso
     have:¬ _:=λ hh=>by rw [zw (hls.2 hh)] at hb3; exact Bool.noConfusion hb3
     exact this (hqq▸hyes)
   have U:=St.cvA U 0 rfl (qu (Nums .u32) (hno hqd))
   refine qb<|zg [η,η,some (5,_)] [] [.v 123 _,.v 124 _,.v 125 _,.v 126 _,.v 127 _,.sto 2] [.g 0,.g 1,.g 2,.g 3,.g 4,.g 5,.g 6,.g 7,.g 8] U (zM 4 G (zM 6 G (zM 8 G (zv G (au .u32 zk zk (vq 2 G) (wu32 hq)) (zv G (bO aN (vq 0 G) (vq 1 G) zo) (oc (dI G G G (vq 4 G) (gq 4 G) (vq 3 G) aT (ba (by rw [dvQ_len zo]; omega))) o0)))))) (zz [(6,_),(7,_),(37,_),(1,_),(8,_),(9,_),(10,_),(11,_),(13,_)] [⟨11,94,winH i (k+3) (x.length+1-i),_⟩,⟨1,94,slH (k+2) (k+3),_⟩,⟨8,94,slH _ _,_⟩] λ a w U=>?_)
   refine a4<|zf<|aj<|az<|a4<|zg [η,η,η] [] [.v 56 _,.v 57 _,.v 10 _] [.g 0,.g 1,.g 2,.g 3,.g 4,.g 5,.g 7,.o 2] U (zM 6 G (zv G (cu (vq 0 G) a5 (wi64 zo zo)) (zA 1 G o0))) (zz [(6,_),(7,_),(37,_),(1,_),(8,_),(9,_),(11,_),(10,_)] [⟨11,94,winH i (k+3) (x.length+1-i),_⟩,⟨1,94,slH (k+2) (k+3),_⟩,⟨8,94,slH _ _,_⟩] λ a w U=>?_)
   have U:=St.swap (g:=g0) (s':=37) (H':=slH (x.length+1) (x.length+1)) U 0 rfl (zm 6 rfl) (zm 2 rfl) rfl
   refine a4 ?_
   have U:=St.sel U [0,1,2,3,4,5,7]
   have U:=St.cvA (A':=Nums .u32 (dvQ (x.length+1-(k+2)) X DD i)) U 2 rfl (qu (Nums .u32) (by rw [qB,hqd,hdq]; exact dvQ_step zo))
   exact ⟨i,by omega,by omega,U⟩
  ·have hqd:q=Y/DD+1:=by
    rcases hqq with hqq | hqq
    ·exfalso
     have h1:¬ (Y<q*DD):=by rw [hqq]; have:=xx Y DD; omega
     rw [zH (λ hh=>h1 (hls.1 hh))] at hb3
     exact Bool.noConfusion hb3
    ·exact hqq
   obtain ⟨M,hM,hMl,hWl,hWok,hMe⟩:=hye hqd
   have U:=St.cvA U 0 rfl (qu (Nums .u32) hM)
   have hDok:okL ((digs (k+3) DD).take (k+2)):=gu (bx _ _) _
   refine qk<|zt<|zg [η,η,some (6,_)] [] [.v 128 _,.v 129 _,.v 130 _,.v 131 _,.v 132 _,.v 133 _,.sto 2] [.g 0,.g 1,.g 2,.g 3,.g 4,.g 5,.g 6,.g 7] U (zM 4 G (zM 6 G (zM 8 G (zv G (cu (vq 2 G) (aB 1 G) (wu64pred zo zo)) (zv G (au .u32 zk zk (vq 3 G) (wu32 zo)) (zv G (bO aN (vq 0 G) (vq 1 G) zo) (oc (dI G G G (vq 5 G) (gq 4 G) (vq 4 G) aT (ba (by rw [dvQ_len zo]; omega))) o0))))))) (zz [(6,_),(7,_),(37,_),(1,_),(8,_),(9,_),(10,_),(11,_)] [⟨11,94,winH i (k+3) (x.length+1-i),_⟩,⟨1,94,slH (k+2) (k+3),_⟩,⟨8,94,slH _ _,_⟩] λ a w U=>?_)
   refine zt<|zg [η,η,η] [] [.v 15 _] [.g 0,.g 1,.g 2,.g 3,.g 4,.g 5,.g 6,.g 7,.o 0] U (zv G (a6 (aB 0 G)) o0) (zz [(6,_),(7,_),(37,_),(1,_),(8,_),(9,_),(10,_),(11,_),(15,_)] [⟨11,94,winH i (k+3) (x.length+1-i),_⟩,⟨1,94,slH (k+2) (k+3),_⟩,⟨8,94,slH _ _,_⟩] λ a w U=>?_)
   refine zt<|qb<|zg [η,η,η] [] [.v 134 _,.v 135 _,.v 136 _] [.g 0,.g 1,.g 2,.g 3,.g 4,.g 5,.g 6,.g 7,.g 8,.o 0,.o 1,.o 2] U (zM 3 G (zv G (ca Try.underlying23 (vq 0 G)) (zv G (a7 a5) o0))) (zz [(6,_),(7,_),(37,_),(1,_),(8,_),(9,_),(10,_),(11,_),(15,_),(134,_),(135,_),(136,_)] [⟨11,94,winH i (k+3) (x.length+1-i),_⟩,⟨1,94,slH (k+2) (k+3),_⟩,⟨8,94,slH _ _,_⟩] λ a w U=>?_)
   refine a4<|qt ?_
   have U:=St.sel U [0,1,2,3,4,5,6,7,9,10,11,8]
   refine wp_loop_ghost (λ n a w=>∃ j:Nat,n+j=k+2∧St B w0 200 [(6,(NumA .u64 (s:Nat)).va),(7,EqV ((slH (x.length+1) (x.length+1)).f g0)),(37,EqV ((slH (x.length+1) (x.length+1)).f g0)),(1,EqV ((slH (k+2) (k+3)).f g1)),(8,EqV ((slH (x.length+1-(k+2)) (x.length+1-(k+2))).f g2)),(9,(NumA .u64 (DD/4294967296^(k+1)%4294967296:Nat)).va),(10,In (i:Nat)),(11,EqV ((winH i (k+3) (x.length+1-i)).f g0)),(134,EqV ((slH (k+2) (k+3)).f g1)),(135,In ((k+2):Nat)),(136,In (j:Nat)),(15,(NumA .u32 (sumTo ((M.drop i).take (k+3)) ((digs (k+3) DD).take (k+2)) j/4294967296^j:Nat)).va)] [⟨11,94,winH i (k+3) (x.length+1-i),Nums .u32 (spl M i (digs j (sumTo ((M.drop i).take (k+3)) ((digs (k+3) DD).take (k+2)) j)))⟩,⟨1,94,slH (k+2) (k+3),Nums .u32 (digs (k+3) DD)⟩,⟨8,94,slH (x.length+1-(k+2)) (x.length+1-(k+2)),Nums .u32 ((dvQ (x.length+1-(k+2)) X DD (i+1)).set (0+i) (q-1))⟩] a w) (k+2) ?_ ?_
   ·exact ⟨0,by omega,by rw [show ∀ m,digs 0 m=[] from λ _=>rfl,iG,en,show (0:Nat)/4294967296^0=0 from rfl]; exact U⟩
   intro n a w hI
   obtain ⟨j,hn,U⟩:=hI
   refine qb<|zg [η,η,η] [] [.v 137 _] [.g 0,.g 1,.g 2,.g 3,.g 4,.g 5,.g 6,.g 7,.g 8,.g 9,.g 10,.g 11,.o 0] U (zv G (aY (gq 10 G) (gq 9 G)) o0) (zz [(6,_),(7,_),(37,_),(1,_),(8,_),(9,_),(10,_),(11,_),(134,_),(135,_),(136,_),(15,_),(137,_)] [⟨11,94,winH i (k+3) (x.length+1-i),_⟩,⟨1,94,slH (k+2) (k+3),_⟩,⟨8,94,slH _ _,_⟩] λ a w U=>?_)
   refine zt<|aa U (zm 12 G) (λ hb4=>?_) (λ hb4=>?_)
   ·have hj:j<k+2:=by simp at hb4; omega
    have hwx:(spl M i (digs j (sumTo ((M.drop i).take (k+3)) ((digs (k+3) DD).take (k+2)) j)))[i+j]?=some ((((M.drop i).take (k+3))).getD j 0):=by rw [eJ zo,fa (by rw [ab]; omega) zo]
    have hdx:(digs (k+3) DD)[0+j]?=some ((((digs (k+3) DD).take (k+2))).getD j 0):=by rw [hN hj,qB]; exact getD_some (by rw [ab]; omega)
    have hcy:sumTo ((M.drop i).take (k+3)) ((digs (k+3) DD).take (k+2)) j/4294967296^j<4294967296:=qT (du hWok hDok _) zd
    have hsl:(spl M i (digs j (sumTo ((M.drop i).take (k+3)) ((digs (k+3) DD).take (k+2)) j))).length=x.length+1:=by rw [ep (by rw [ab]; omega),hMl]
    refine qk<|zt<|qt<|qb<|zg [η,η,η] [] [.v 138 _,.v 139 _,.v 140 _,.v 16 _,.v 17 _] [.g 0,.g 1,.g 2,.g 3,.g 4,.g 5,.g 6,.g 7,.g 8,.g 9,.g 10,.g 11,.o 3,.o 4] U (zM 10 G (zv G (bO aN (gq 8 G) (gq 10 G) zo) (zv G (bZ (vq 1 G) (lz0 1 G) (gq 3 G) (nums_at' hdx) aT) (zA 0 G (zA 2 G o0))))) (zz [(6,_),(7,_),(37,_),(1,_),(8,_),(9,_),(10,_),(11,_),(134,_),(135,_),(136,_),(15,_),(16,_),(17,_)] [⟨11,94,winH i (k+3) (x.length+1-i),_⟩,⟨1,94,slH (k+2) (k+3),_⟩,⟨8,94,slH _ _,_⟩] λ a w U=>?_)
    refine a4<|zg [some (13,_),η,η] [] [.v 142 _,.v 143 _,.v 144 _,.v 145 _,.v 146 _,.v 147 _,.v 148 _,.v 149 _,.v 150 _,.v 141 _,.v 151 _,.v 152 _,.v 153 _,.sto 0,.v 15 _] [.g 0,.g 1,.g 2,.g 3,.g 4,.g 5,.g 6,.g 7,.g 8,.g 9,.g 10,.o 14] U (zM 7 G (zM 12 G (zM 7 G (zM 12 G (zv G (bO aN (vq 2 G) (vq 3 G) zo) (zv G (bZ (vq 4 G) (lz0 0 G) (gq 7 G) (nums_at' hwx) aT) (zM 13 G (zM 11 G (zQ G (fE (fq hWok _) (fq hDok _) hcy) (.cons (vq 5 G) (.p (vq 6 G) (vq 7 G))) (zv G (a7 (vq 8 G)) (zv G (ay (vq 9 G) G) (zv G (ay (vq 9 G) G) (zv G (bO aN (vq 0 G) (vq 1 G) zo) (oc (dI G G G (vq 12 G) (gq 7 G) (vq 10 G) aT (ba zo)) (zA 11 G o0))))))))))))))) (zz [(6,_),(7,_),(37,_),(1,_),(8,_),(9,_),(10,_),(11,_),(134,_),(135,_),(136,_),(15,_)] [⟨11,94,winH i (k+3) (x.length+1-i),_⟩,⟨1,94,slH (k+2) (k+3),_⟩,⟨8,94,slH _ _,_⟩] λ a w U=>?_)
    refine ai ?_
    refine a4<|zg [η,η,η] [] [.v 154 _,.v 136 _] [.g 0,.g 1,.g 2,.g 3,.g 4,.g 5,.g 6,.g 7,.g 8,.g 9,.g 11,.o 1] U (zv G (aU (gq 10 G) a5 (bo zo)) (zv G (a7 (vq 0 G)) o0)) (zz [(6,_),(7,_),(37,_),(1,_),(8,_),(9,_),(10,_),(11,_),(134,_),(135,_),(15,_),(136,_)] [⟨11,94,winH i (k+3) (x.length+1-i),_⟩,⟨1,94,slH (k+2) (k+3),_⟩,⟨8,94,slH _ _,_⟩] λ a w U=>?_)
    refine a4 ?_
    have U:=St.sel U [0,1,2,3,4,5,6,7,8,9,11,10]
    rw [f9 (ab _ _) zo,ab_step zo,ab_carry zo] at U
    exact ⟨n-1,by omega,j+1,by omega,U⟩
   ·obtain rfl:j=k+2:=by simp at hb4; omega
    have hwx:(spl M i (digs (k+2) (sumTo ((M.drop i).take (k+3)) ((digs (k+3) DD).take (k+2)) (k+2))))[i+(k+2)]?=some ((((M.drop i).take (k+3))).getD (k+2) 0):=by rw [eJ zo,fa (by rw [ab]; omega) zo]
    have hsl:(spl M i (digs (k+2) (sumTo ((M.drop i).take (k+3)) ((digs (k+3) DD).take (k+2)) (k+2)))).length=x.length+1:=by rw [ep (by rw [ab]; omega),hMl]
    refine zf<|aj<|aj<|az<|a4<|zg [some (8,_),η,η] [] [.v 155 _,.v 156 _,.v 157 _,.v 158 _,.v 159 _,.v 160 _,.v 161 _,.v 162 _,.sto 0] [.g 0,.g 1,.g 2,.g 3,.g 4,.g 5,.g 6,.g 7] U (zM 7 G (zM 3 G (zv G (ca Try.underlying23 (vq 1 G)) (zv G (bO aN (vq 0 G) (vq 2 G) zo) (zv G (bZ (vq 3 G) (lz0 0 G) (gq 7 G) (nums_at' hwx) aT) (zM 11 G (zv G (aU (vq 4 G) (vq 5 G) (wu32')) (zv G (bO aN (vq 0 G) (vq 2 G) zo) (oc (dI G G G (vq 7 G) (gq 7 G) (vq 6 G) aT (ba zo)) o0))))))))) (zz [(6,_),(7,_),(37,_),(1,_),(8,_),(9,_),(10,_),(11,_)] [⟨11,94,winH i (k+3) (x.length+1-i),_⟩,⟨1,94,slH (k+2) (k+3),_⟩,⟨8,94,slH _ _,_⟩] λ a w U=>?_)
    refine ai ?_
    refine a4<|zg [η,η,η] [] [.v 56 _,.v 57 _,.v 10 _] [.g 0,.g 1,.g 2,.g 3,.g 4,.g 5,.g 7,.o 2] U (zM 6 G (zv G (cu (vq 0 G) a5 (wi64 zo zo)) (zA 1 G o0))) (zz [(6,_),(7,_),(37,_),(1,_),(8,_),(9,_),(11,_),(10,_)] [⟨11,94,winH i (k+3) (x.length+1-i),_⟩,⟨1,94,slH (k+2) (k+3),_⟩,⟨8,94,slH _ _,_⟩] λ a w U=>?_)
    have U:=St.swap (g:=g0) (s':=37) (H':=slH (x.length+1) (x.length+1)) U 0 rfl (zm 6 rfl) (zm 2 rfl) rfl
    refine a4 ?_
    have U:=St.sel U [0,1,2,3,4,5,7]
    have U:=St.cvA (A':=Nums .u32 (dvL (x.length+1) X DD i)) U 0 rfl (qu (Nums .u32) (by rw [f9 (ab _ _) zo]; exact hMe))
    have U:=St.cvA (A':=Nums .u32 (dvQ (x.length+1-(k+2)) X DD i)) U 2 rfl (qu (Nums .u32) (by rw [qB,hqd,xg,hdq]; exact dvQ_step zo))
    exact ⟨i,by omega,by omega,U⟩
 ·obtain rfl:n=0:=by simp at hb0; omega
  refine zf<|aj<|aj<|az<|zt<|zg [η,η,η] [] [.v 163 _,.v 164 _,.v 165 _,.v 166 _,.v 7 _] [.g 0,.g 2,.g 3,.g 4,.o 4] U (zM 1 G (zM 3 G (zv G (ca Try.underlying23 (vq 1 G)) (zv G (r_winE0 aN (vq 0 G) (vq 2 G) zo) (zA 3 G o0))))) (zz [(6,_),(37,_),(1,_),(8,_),(7,_)] [⟨37,94,slH (x.length+1) (x.length+1),_⟩,⟨1,94,slH (k+2) (k+3),_⟩,⟨8,94,slH _ _,_⟩] λ a w U=>?_)
  refine zt<|qb<|zg [η,η,η] [] [.v 167 _,.v 168 _,.v 169 _] [.g 0,.g 1,.g 2,.g 3,.g 4,.o 1,.o 2] U (zM 4 G (zv G (ca Try.underlying23 (vq 0 G)) (zv G (a7 a5) o0))) (zz [(6,_),(37,_),(1,_),(8,_),(7,_),(168,_),(169,_)] [⟨37,94,slH (x.length+1) (x.length+1),_⟩,⟨1,94,slH (k+2) (k+3),_⟩,⟨8,94,slH _ _,_⟩] λ a w U=>?_)
  refine a4<|qt ?_
  have U:=St.sel U [0,4,1,3,5,6]
  refine wp_loop_ghost (λ n a w=>∃ j:Nat,n+j=k+2∧St B w0 200 [(6,(NumA .u64 (s:Nat)).va),(7,EqV ((slH (k+2) (x.length+1)).f g0)),(37,EqV ((slH (x.length+1) (x.length+1)).f g0)),(8,EqV ((slH (x.length+1-(k+2)) (x.length+1-(k+2))).f g2)),(168,In ((k+2):Nat)),(169,In (j:Nat))] [⟨37,94,slH (x.length+1) (x.length+1),Nums .u32 (dvF (x.length+1) R s j)⟩,⟨1,94,slH (k+2) (k+3),Nums .u32 (digs (k+3) DD)⟩,⟨8,94,slH (x.length+1-(k+2)) (x.length+1-(k+2)),Nums .u32 (dvQ (x.length+1-(k+2)) X DD 0)⟩] a w) (k+2) ?_ ?_
  ·exact ⟨0,by omega,by rw [dvF_zero,hR]; exact U⟩
  intro n a w hI
  obtain ⟨j,hn,U⟩:=hI
  refine qb<|zg [η,η,η] [] [.v 170 _] [.g 0,.g 1,.g 2,.g 3,.g 4,.g 5,.o 0] U (zv G (aY (gq 5 G) (gq 4 G)) o0) (zz [(6,_),(7,_),(37,_),(8,_),(168,_),(169,_),(170,_)] [⟨37,94,slH (x.length+1) (x.length+1),_⟩,⟨1,94,slH (k+2) (k+3),_⟩,⟨8,94,slH _ _,_⟩] λ a w U=>?_)
  refine zt<|aa U (zm 6 G) (λ hb5=>?_) (λ hb5=>?_)
  ·have hj:j<k+2:=by simp at hb5; omega
   have hf0:(dvF (x.length+1) R s j)[0+j]?=some (R/4294967296^j%4294967296):=by rw [qB]; exact dvF_get (qf _) zo
   refine qk<|zt<|qt<|qb<|zg [η,η,η] [] [.v 171 _,.v 18 _] [.g 0,.g 1,.g 2,.g 3,.g 4,.g 5,.o 1] U (zM 5 G (zA 0 G o0)) (zz [(6,_),(7,_),(37,_),(8,_),(168,_),(169,_),(18,_)] [⟨37,94,slH (x.length+1) (x.length+1),_⟩,⟨1,94,slH (k+2) (k+3),_⟩,⟨8,94,slH _ _,_⟩] λ a w U=>?_)
   refine zt<|zg [η,η,η] [] [.v 19 _] [.g 0,.g 1,.g 2,.g 3,.g 4,.g 5,.g 6,.o 0] U (zv G (a6 (aB 0 G)) o0) (zz [(6,_),(7,_),(37,_),(8,_),(168,_),(169,_),(18,_),(19,_)] [⟨37,94,slH (x.length+1) (x.length+1),_⟩,⟨1,94,slH (k+2) (k+3),_⟩,⟨8,94,slH _ _,_⟩] λ a w U=>?_)
   refine zt<|qb<|zg [η,η,η] [] [.v 172 _,.v 173 _,.v 174 _,.v 175 _,.v 176 _] [.g 0,.g 1,.g 2,.g 3,.g 4,.g 5,.g 6,.g 7,.o 4] U (zM 6 G (zv G (aU (vq 0 G) a5 (bo zo)) (zM 1 G (zv G (ca Try.underlying23 (vq 2 G)) (zv G (aY (vq 1 G) (vq 3 G)) o0))))) (zz [(6,_),(7,_),(37,_),(8,_),(168,_),(169,_),(18,_),(19,_),(176,_)] [⟨37,94,slH (x.length+1) (x.length+1),_⟩,⟨1,94,slH (k+2) (k+3),_⟩,⟨8,94,slH _ _,_⟩] λ a w U=>?_)
   refine a4<|bC (λ a w =>  St B w0 200 [(6,(NumA .u64 (s:Nat)).va),(7,EqV ((slH (k+2) (x.length+1)).f g0)),(37,EqV ((slH (x.length+1) (x.length+1)).f g0)),(8,EqV ((slH (x.length+1-(k+2)) (x.length+1-(k+2))).f g2)),(168,In ((k+2):Nat)),(169,In (j:Nat)),(18,In (j:Nat)),(19,(NumA .u32 (R/4294967296^(j+1)%4294967296:Nat)).va)] [⟨37,94,slH (x.length+1) (x.length+1),Nums .u32 (dvF (x.length+1) R s j)⟩,⟨1,94,slH (k+2) (k+3),Nums .u32 (digs (k+3) DD)⟩,⟨8,94,slH (x.length+1-(k+2)) (x.length+1-(k+2)),Nums .u32 (dvQ (x.length+1-(k+2)) X DD 0)⟩] a w) U (zm 8 G) (λ hb6=>?_) (λ hb6=>?_) (λ a w U=>?_)
   ·have hj1:j+1<k+2:=by simp at hb6; omega
    have hf1:(dvF (x.length+1) R s j)[0+(j+1)]?=some (R/4294967296^(j+1)%4294967296):=by rw [qB]; exact dvF_get zo zo
    refine zg [η,η,η] [] [.v 177 _,.v 178 _,.v 179 _,.v 180 _,.v 181 _,.v 19 _] [.g 0,.g 1,.g 2,.g 3,.g 4,.g 5,.g 6,.o 5] U (zM 1 G (zM 6 G (zv G (aU (vq 1 G) a5 (bo zo)) (zv G (bO aN (vq 0 G) (vq 2 G) zo) (zv G (bZ (vq 3 G) (lz0 0 G) (gq 2 G) (nums_at' hf1) aT) (zA 4 G o0)))))) (zz [(6,_),(7,_),(37,_),(8,_),(168,_),(169,_),(18,_),(19,_)] [⟨37,94,slH (x.length+1) (x.length+1),_⟩,⟨1,94,slH (k+2) (k+3),_⟩,⟨8,94,slH _ _,_⟩] λ a w U=>?_)
    refine a4 ?_
    have U:=St.sel U [0,1,2,3,4,5,6,7]
    exact U
   ·have hj1:j+1=k+2:=by simp at hb6; omega
    refine qk<|a4 ?_
    have U:=St.sel U [0,1,2,3,4,5,6,7]
    rw [hj1,hR0]; exact U
   refine a4<|zg [some (15,_),η,η] [] [.v 182 _,.v 183 _,.v 184 _,.v 185 _,.v 186 _,.v 187 _,.v 188 _,.v 189 _,.v 190 _,.v 191 _,.v 192 _,.v 193 _,.v 194 _,.v 195 _,.v 196 _,.sto 0] [.g 0,.g 1,.g 2,.g 3,.g 4,.g 5] U (zM 1 G (zM 6 G (zM 7 G (zv G (au .u64 zk zk (vq 2 G) (wu64 bbl64)) (zv G (r_shl (vq 3 G) (aB 32 G) zd (wshl32 bbl)) (zM 1 G (zM 6 G (zv G (bO aN (vq 5 G) (vq 6 G) zo) (zv G (bZ (vq 7 G) (lz0 0 G) (gq 2 G) (nums_at' hf0) aT) (zv G (au .u64 zk zk (vq 8 G) (wu64 bbl64)) (zv G (r_bor (vq 4 G) (vq 9 G) (or64 bbl bbl)) (zM 0 G (zv G (eI (vq 10 G) (vq 11 G) (⟨by omega,by show (s:Int)≤64; omega⟩) (nshr)) (zv G (au .u32 zk zk (vq 12 G) (wlow)) (zv G (bO aN (vq 0 G) (vq 1 G) zo) (oc (dI G G G (vq 14 G) (gq 2 G) (vq 13 G) aT (ba (by rw [dvF_len zo]; omega))) o0)))))))))))))))) (zz [(6,_),(7,_),(37,_),(8,_),(168,_),(169,_)] [⟨37,94,slH (x.length+1) (x.length+1),_⟩,⟨1,94,slH (k+2) (k+3),_⟩,⟨8,94,slH _ _,_⟩] λ a w U=>?_)
   refine ai ?_
   refine a4<|zg [η,η,η] [] [.v 197 _,.v 169 _] [.g 0,.g 1,.g 2,.g 3,.g 4,.o 1] U (zv G (aU (gq 5 G) a5 (bo zo)) (zv G (a7 (vq 0 G)) o0)) (zz [(6,_),(7,_),(37,_),(8,_),(168,_),(169,_)] [⟨37,94,slH (x.length+1) (x.length+1),_⟩,⟨1,94,slH (k+2) (k+3),_⟩,⟨8,94,slH _ _,_⟩] λ a w U=>?_)
   refine a4 ?_
   have U:=St.sel U [0,1,2,3,4,5]
   rw [qB,dvF_step hs32 zo] at U
   exact ⟨n-1,by omega,j+1,by omega,U⟩
  ·obtain rfl:j=k+2:=by simp at hb5; omega
   refine zf<|aj<|aj<|az<|zt<|zg [η,η,η] [] [.v 198 _,.v 199 _,.v 4 _,.v 5 _] [.g 1,.g 2,.g 3,.o 2,.o 3] U (zM 3 G (zM 1 G (zA 0 G (zA 1 G o0)))) (zz [(7,_),(37,_),(8,_),(4,_),(5,_)] [⟨37,94,slH (x.length+1) (x.length+1),_⟩,⟨1,94,slH (k+2) (k+3),_⟩,⟨8,94,slH _ _,_⟩] λ a w U=>?_)
   have U:=St.asN (t:=4) U (digs (x.length+1-(k+2)) (val x/val y)) [] 2 rfl (zm 2 rfl) (zm 3 rfl) (by rw [hend4,q8]) (ab _ _).symm (by unfold maxLen; omega) (bx _ _) (by simp only [qE,je,ab] <;> omega)
   have U:=St.asN (t:=5) U (digs (k+2) (val x%val y)) ((digs (x.length+1) R).drop (k+2)) 0 rfl (zm 2 rfl) (zm 5 rfl) (by rw [dvF_end,hend5]) (ab _ _).symm (by unfold maxLen; omega) (bx _ _) (by simp only [qE,List.length_drop,ab] <;> omega)
   refine a4<|qh<|fc ?_
   exact aM (rs:=[.tmp 4,.tmp 5]) G U (.tmp (zm 1 G) (.tmp (zm 0 G) .nil)) zd
theorem gx (p q:Int):(p.tdiv q).natAbs=p.natAbs/q.natAbs:=Int.natAbs_tdiv p q
theorem gw (p q:Int):(p.tmod q).natAbs=p.natAbs%q.natAbs:=Int.natAbs_tmod p q
theorem divz_neg {p q:Int}(h:p.tdiv q≠0):(decide (p<0) != decide (q<0))=decide (p.tdiv q<0):=by
 have hp:p≠0:=λ e=>h (by rw [e,Int.zero_tdiv])
 have hq:q≠0:=λ e=>h (by rw [e,Int.tdiv_zero])
 have e:∀ {x y:Int},0<x→0<y→0≤x.tdiv y:=λ hx hy=>Int.tdiv_nonneg zo zo
 by_cases h2:p<0 <;> by_cases h3:q<0
 ·have:0≤(-p).tdiv (-q):=e zo zo
  rw [Int.neg_tdiv,Int.tdiv_neg,Int.neg_neg] at this
  simp [h2,h3]; omega
 ·have:0≤(-p).tdiv q:=e zo zo
  rw [Int.neg_tdiv] at this
  simp [h2,h3]; omega
 ·have:0≤p.tdiv (-q):=e zo zo
  rw [Int.tdiv_neg] at this
  simp [h2,h3]; omega
 ·have:0≤p.tdiv q:=e zo zo
  simp [h2,h3]; omega
theorem modz_neg {p q:Int}(h:p.tmod q≠0):decide (p<0)=decide (p.tmod q<0):=by
 by_cases h2:p<0
 ·have:0≤(-p).tmod q:=kl _ zo
  rw [Int.neg_tmod] at this
  simp [h2]; omega
 ·have:0≤p.tmod q:=kl _ zo
  simp [h2]; omega
theorem i5 {p q:Int}(h:p.natAbs<q.natAbs):p.tdiv q=0∧p.tmod q=p:=by
 have h1:(p.tdiv q).natAbs=0:=by rw [gx,z9 h]
 have h2:p.tdiv q=0:=by omega
 have h3:=Int.tdiv_mul_add_tmod p q
 exact ⟨h2,by rw [h2] at h3; simpa using h3⟩
theorem divz_lt {a b n m:Nat}(ha:a<4294967296^n)(hb:4294967296^(m-1)≤b)(hm:0<m)(hmn:m≤n):a/b<4294967296^(n+1-m):=by
 have hp:0<4294967296^(m-1):=qX zd
 rw [jy zo]
 have:4294967296^(n+1-m)*4294967296^(m-1)≤4294967296^(n+1-m)*b:=qY _ hb
 rw [← zq,show n+1-m+(m-1)=n by omega] at this
 omega
theorem divz_q {p q:Int}{n:Nat}(h:p.natAbs/q.natAbs<4294967296^n):rsig ((riOf p).neg != (riOf q).neg) (digs n (val (riOf p).mag/val (riOf q).mag))=riOf (p.tdiv q):=by
 rw [bk,bk]
 exact bY (bx _ _) (by rw [cz,qS h,gx]) divz_neg
theorem divz_r {p q:Int}{n:Nat}(h:p.natAbs%q.natAbs<4294967296^n):rsig (riOf p).neg (digs n (val (riOf p).mag%val (riOf q).mag))=riOf (p.tmod q):=by
 rw [bk,bk]
 exact bY (bx _ _) (by rw [cz,qS h,gw]) modz_neg
theorem own_ri (p:Int):rsig (riOf p).neg (riOf p).mag=riOf p:=bY (ok_ri p) (bk p) λ _=>rfl
theorem size_no {p q:Int}(h:decide (sizeL (riOf p).mag (riOf q).mag<0)=true):p.natAbs<q.natAbs:=by
 have:=(cq (m:=p.natAbs) (n:=q.natAbs)).1
 have h':sizeL (limbs p.natAbs) (limbs q.natAbs)<0:=qw h
 omega
theorem size_yes {p q:Int}(h:decide (sizeL (riOf p).mag (riOf q).mag<0)=false):q.natAbs≤p.natAbs:=by
 have:=(cq (m:=p.natAbs) (n:=q.natAbs)).1
 have h':¬ sizeL (limbs p.natAbs) (limbs q.natAbs)<0:=qx h
 omega
theorem one_limb' {l:List Nat}{v:Nat}(hv:val l=v)(ok:okL l)(h:l.length=1):l[0]'zo=v∧v<4294967296:=by
 match l,h with
 | [x],_=>exact ⟨by simpa using hv,by have:=ok x (by simp); simp at hv; omega⟩
theorem cC {q:Int}(h:(riOf q).mag.length=1):(riOf q).mag[0]'zo=q.natAbs∧q.natAbs<4294967296:=one_limb' (bk q) (ok_ri q) h
theorem cX {p:Int}:(riOf p).mag.length=lz p:=rfl
theorem top_ne {q:Int}{k:Nat}(h:(riOf q).mag.length=k+2):(riOf q).mag.getD (k+1) 0≠0:=by
 have h1:=(bu q.natAbs).2
 have h2:(limbs q.natAbs).length=k+2:=h
 intro hh
 apply h1
 rw [List.getLast?_eq_getElem?,h2,show k+2-1=k+1 from rfl]
 have:(limbs q.natAbs).getD (k+1) 0=0:=hh
 rw [List.getD_eq_getElem?_getD,List.getElem?_eq_getElem zo] at this
 rw [List.getElem?_eq_getElem zo]
 simpa using this
theorem fo {q:Int}(h:q≠0):0<lz q:=by unfold lz; rw [cc zo]; simp
theorem d4 {p q:Int}(h:p.natAbs≤q.natAbs):lz p≤lz q:=cP h
theorem lz_low {q:Int}(h:q≠0):4294967296^(lz q-1)≤q.natAbs:=by
 have:=(bu q.natAbs).lt_val (by rw [cc zo]; simp)
 rw [aS] at this
 exact this
theorem cN (q:Int):q.natAbs<4294967296^lz q:=bV (qf _)
theorem zi_zeroN:(cat (setAll [BoA false,MgN []] [])).va=(RIN (riOf 0)).va:=by
 rw [show riOf 0=⟨false,[]⟩ from by simp [riOf,bb]]
 rfl
theorem divz_qs {p q:Int}(hq:q≠0)(hge:q.natAbs≤p.natAbs)(h:(riOf q).mag.length=1):rsig ((riOf p).neg != (riOf q).neg) (digs (riOf p).mag.length (val (riOf p).mag/(riOf q).mag[0]'zo))=riOf (p.tdiv q):=by
 rw [show (riOf q).mag[0]'zo=val (riOf q).mag from by rw [(cC h).1,bk]]
 have:=divz_lt (cN p) (lz_low hq) (fo hq) (d4 hge)
 rw [show lz q=1 from h] at this
 exact divz_q this
theorem rsig_one {p q:Int}(h:(riOf q).mag.length=1)(hq:q≠0):rsig (riOf p).neg [val (riOf p).mag%(riOf q).mag[0]'zo]=riOf (p.tmod q):=by
 have h1:=cC h
 rw [h1.1,bk]
 have:p.natAbs%q.natAbs<4294967296:=zx (qO _ zo) h1.2
 exact bY (okL_cons.2 ⟨this,bT⟩) (by rw [gw]; simp) modz_neg
theorem ip (p q:Int)(hq:q≠0)(hp:lz p≤1099511627776):Cn Try.prog 67 [Zi p,Zi q] (Tu [(RIN (riOf (p.tdiv q))).va,(RIN (riOf (p.tmod q))).va]):=by
 refine Cn.introW Try.func67 G zk nq (.cons (up_ri _).va (.cons (up_ri _).va .nil)) (tu_free (.cons (cG _).va (.cons (cG _).va .nil))) (λ B w0 a hB0 U=>?_)
 have U:=zn [(0,(RIO (riOf p)).va),(1,(RIO (riOf q)).va)] [] U
 refine qb<|zg [] [⟨2,25,ptrH,some 0,_,none⟩,⟨3,25,ptrH,some 1,_,none⟩,⟨4,25,ptrH,some 2,_,none⟩,⟨5,25,ptrH,some 3,_,none⟩] [.alc 0,.alc 1,.alc 2,.alc 3] [] U (zW 0 G (zW 1 G (zY G (Str.zero gc) (zY G (Str.zero gc) o0)))) (zz [] [O 2 25 _,O 3 25 _,O 4 25 _,O 5 25 _] λ a w U=>?_)
 refine zt<|qt<|qb<|zg [η,η,η,η] [] [.adr 11 2 (.some 1) True,.v 12 _,.adr 13 3 (.some 1) True,.v 14 _,.v 15 _,.v 16 _,.v 10 _] [.o 6] U (zO 0 G aq (zL 0 0 1 G bm (zO 1 G aq (zL 2 1 1 G bm (zQ G ((size_c _ _).wk (.cons fI (.cons fI .nil))) (.p (vq 1 G) (vq 3 G)) (zv G (aY (vq 4 G) a5) (zA 5 G o0))))))) (zz [(10,_)] [O 2 25 _,O 3 25 _,O 4 25 _,O 5 25 _] λ a w U=>?_)
 refine a4<|aa U (zm 0 G) (λ hb0=>?_) (λ hb0=>?_)
 ·have hlt:=size_no hb0
  refine qb<|zg [η,η,some (6,_),some (7,_)] [] [.v 17 _,.adr 18 2 (.some 0) True,.v 19 _,.adr 20 2 (.some 1) True,.v 21 _,.v 22 _,.sto 2,.sto 3] [] U (zv G (aO (qs:=[]) (cw famN) .nil) (zO 0 G aJ (zL 1 0 0 G ty_4 (zO 0 G aq (zL 3 0 1 G bm (zQ G ((own_c _ _ hp).wk (.cons aC (.cons fI .nil))) (.p (vq 2 G) (vq 4 G)) (zS 0 G am (zS 5 G am o0)))))))) (zz [] [O 2 25 _,O 3 25 _,O 4 25 _,O 5 25 _] λ a w U=>?_)
  refine a4<|qh<|aA ?_
  refine ac ?_
  refine ao ?_ (aM (rs:=[.cell 4 25,.cell 5 25]) G U (.cell (zm 2 G) am (.cell (zm 3 G) am .nil)) zd)
  exact tu2 ((qu (λ z=>(RIN (riOf z)).va) (i5 hlt).1).trans zi_zeroN.symm).symm (qu (λ x=>(RIN x).va) ((own_ri p).trans (qu riOf (i5 hlt).2.symm)))
 ·have hge:=size_yes hb0
  have hp0:0<(riOf p).mag.length:=qD (fo hq) (d4 hge)
  refine qb<|zg [η,η,η,η] [] [.adr 24 3 (.some 1) True,.v 25 _,.v 26 _,.v 27 _,.v 23 _] [.o 4] U (zO 1 G aq (zL 0 1 1 G bm (zv G (aG Try.underlying23 (ap (vq 1 G))) (zv G (bd (vq 2 G) a5) (zA 3 G o0))))) (zz [(23,_)] [O 2 25 _,O 3 25 _,O 4 25 _,O 5 25 _] λ a w U=>?_)
  refine a4<|aa U (zm 0 G) (λ hb1=>?_) (λ hb1=>?_)
  ·have h1:(riOf q).mag.length=1:=by simp at hb1; omega
   refine qb<|zg [η,η,η,η] [] [.adr 28 2 (.some 1) True,.v 29 _,.v 30 _,.v 6 _] [.o 3] U (zO 0 G aq (zL 0 0 1 G bm (zQ G ((clone_c _ hp).wk (.cons fI .nil)) (.o (vq 1 G)) (zA 2 G o0)))) (zz [(6,_)] [O 2 25 _,O 3 25 _,O 4 25 _,O 5 25 _] λ a w U=>?_)
   obtain ⟨c,ext,hc1,hc2,hok,hcx,U⟩:=St.own U hB0 0 rfl hp0 rfl
   have U:=St.sel U []
   refine zt<|zg [some (5,_),η,η,η,η] [] [.adr 31 6 .none True,.adr 32 3 (.some 1) True,.v 33 _,.v 34 _,.v 35 _,.cal 36 _ 0,.v 7 _] [.o 6] U (oc (ob_a G G cx) (zO 2 G aq (zL 1 2 1 G bm (zv G (bI aN (ap (vq 2 G)) (aB 0 G) zo) (zv G (al (vq 3 G) aT) (oc (ob_cal (xs:=[.tmp 31,.tmp 35]) G G G (short_c _ ext c _ (ok_ri p) hp (by rw [(cC h1).1]; omega) (by rw [(cC h1).1]; exact (cC h1).2)) (.cons (arw2 0 G zk) (.o (vq 4 G)))) (zv G (a6 (has_c 5 G zk zk)) o0))))))) (zz [(7,_)] [⟨6,94,slH (riOf p).mag.length c,_⟩,O 2 25 _,O 3 25 _,O 4 25 _,O 5 25 _] λ a w U=>?_)
   refine zt<|zgd [[],[0],[],[2],[0,1,2,3],[],[0,1,2,3,4,5],[],[7],[],[9],[0,1,2,3,4,5,6,7,8,9,10],[0,1,2,3,4,5,6,7,8,9,10,11],[0,1,2,3,4,5,6,7,8,9,10,11,12]] [none,none,none,some (12,_),some (13,_)] [] [.adr 37 2 (.some 0) True,.v 38 _,.adr 39 3 (.some 0) True,.v 40 _,.v 41 _,.adr 42 6 .none True,.v 43 _,.adr 44 2 (.some 0) True,.v 45 _,.v 46 _,.v 47 _,.v 48 _,.sto 3,.sto 4] [] a8 U (zO 1 G aJ (zL 0 1 0 G ty_4 (zO 2 G aJ (zL 2 2 0 G ty_4 (zv G (r_neqb zk (vq 1 G) (vq 3 G)) (oc (ob_a G G cx) (zQ G (c9 _ _) (.p (vq 4 G) (has_rowX 5 G zk (lz0 0 G) ⟨(ab _ _).symm,hc1,hc2,bx _ _⟩ (by rw [hcx,qE,qE,ab]))) (zO 1 G aJ (zL 7 1 0 G ty_4 (zM 0 G (zv G (r_slicemN (l:=[_]) (xs:=[.tmp 46]) aN zk nq nq (okL_cons.2 ⟨zx (qO _ (by rw [(cC h1).1]; omega)) (by rw [(cC h1).1]; exact (cC h1).2),bT⟩) (.o (vq 9 G)) G G) (zQ G (c9 _ _) (.p (vq 8 G) (vq 10 G)) (zS 6 G am (zS 11 G am o0)))))))))))))) zk zk zk zk (zz [] [⟨6,94,slH (riOf p).mag.length c,_⟩,O 2 25 _,O 3 25 _,O 4 25 _,O 5 25 _] λ a w U=>?_)
   refine a4<|qh<|aA ?_
   refine ac ?_
   refine ao ?_ (aM (rs:=[.cell 4 25,.cell 5 25]) G U (.cell (zm 3 G) am (.cell (zm 4 G) am .nil)) zd)
   exact tu2 (qu (λ x=>(RIN x).va) (divz_qs hq hge h1)) (qu (λ x=>(RIN x).va) (rsig_one h1 hq))
  ·have h1:(riOf q).mag.length≠1:=by simp at hb1; omega
   have hql:=fo hq
   rw [← cX] at hql
   obtain ⟨k,hk⟩:∃ k,(riOf q).mag.length=k+2:=⟨(riOf q).mag.length-2,by omega⟩
   have hkp:k+2≤(riOf p).mag.length:=by rw [← hk]; exact d4 hge
   refine qk<|ai ?_
   refine zt<|zg [η,η,η,η] [] [.adr 50 2 (.some 1) True,.v 51 _,.adr 52 3 (.some 1) True,.v 53 _,.v 54 _,.v 49 _,.v 55 _,.v 56 _,.v 8 _,.v 9 _] [.o 8,.o 9] U (zO 0 G aq (zL 0 0 1 G bm (zO 1 G aq (zL 2 1 1 G bm (zQ G ((divide_c _ _ k hk (top_ne hk) hkp hp).wk (.cons fI (.cons fI .nil))) (.p (vq 1 G) (vq 3 G)) (zv G (a7 (vq 4 G)) (zv G (ay (vq 5 G) G) (zv G (ay (vq 5 G) G) (zA 6 G (zA 7 G o0)))))))))) (zz [(8,_),(9,_)] [O 2 25 _,O 3 25 _,O 4 25 _,O 5 25 _] λ a w U=>?_)
   refine zt<|zgd [[],[0],[],[2],[0,1,2,3],[],[0,1,2,3,4,5],[],[7],[],[0,1,2,3,4,5,6,7,8,9],[0,1,2,3,4,5,6,7,8,9,10],[0,1,2,3,4,5,6,7,8,9,10,11]] [none,none,some (11,_),some (12,_)] [] [.adr 57 2 (.some 0) True,.v 58 _,.adr 59 3 (.some 0) True,.v 60 _,.v 61 _,.v 62 _,.v 63 _,.adr 64 2 (.some 0) True,.v 65 _,.v 66 _,.v 67 _,.sto 2,.sto 3] [] a8 U (zO 0 G aJ (zL 0 0 0 G ty_4 (zO 1 G aJ (zL 2 1 0 G ty_4 (zv G (r_neqb zk (vq 1 G) (vq 3 G)) (zM 0 G (zQ G (c9 _ _) (.p (vq 4 G) (vq 5 G)) (zO 0 G aJ (zL 7 0 0 G ty_4 (zM 1 G (zQ G (c9 _ _) (.p (vq 8 G) (vq 9 G)) (zS 6 G am (zS 10 G am o0))))))))))))) zk zk zk zk (zz [] [O 2 25 _,O 3 25 _,O 4 25 _,O 5 25 _] λ a w U=>?_)
   refine a4<|qh<|ao ?_ (aM (rs:=[.cell 4 25,.cell 5 25]) G U (.cell (zm 2 G) am (.cell (zm 3 G) am .nil)) zd)
   exact tu2 (qu (λ x=>(RIN x).va) (divz_q (hk▸divz_lt (cN p) (lz_low hq) (fo hq) (d4 hge)))) (qu (λ x=>(RIN x).va) (divz_r (zx (qO _ zo) (hk▸cN q))))
end Go.Proofs.Ytlakjmncfooodaa
