import Derived.Test.YthdbhckhignfcaaGreatDoorBxAa
import Derived.Test.YthdbhckhignfcaaGreatDoorBxAc
import Derived.Test.YthdbhckhignfcaaGreatDoorBxAh
set_option linter.unusedVariables false
set_option linter.unusedSimpArgs false
set_option linter.unusedSectionVars false
set_option maxRecDepth 100000
namespace Go.Proofs.YthdbhckhignfcaaGreatDoor
open Go Go.RowKit
theorem wi_m2 {k:Nat}(h:k<4611686018427387904):IntKind.i64.wrap (((k+2:Nat):Int)-2)=((k:Nat):Int):=by rw [wi64 zo zo]; omega
theorem wu64pred {x:Nat}(h:0<x)(h2:x<18446744073709551616):IntKind.u64.wrap ((x:Int)-((1:Nat):Int))=((x-1:Nat):Int):=by simp [IntKind.wrap,IntKind.bits,IntKind.signed]; omega
theorem bbl {x:Nat}:x%4294967296<4294967296:=Nat.mod_lt _ zd
theorem bbl64 {x:Nat}:x%4294967296<18446744073709551616:=Nat.lt_trans bbl zd
theorem divide_c (x y:List Nat)(k:Nat)(hyl:y.length=k+2)(h0:y.getD (k+1) 0≠0)(hxy:k+2≤x.length)(hxs:x.length≤1099511627776):Cn Tryz.prog 208 [(MgA x).va,(MgA y).va] (Tu [(MgN (digs (x.length+1-(k+2)) (val x/val y))).va,(MgN (digs (k+2) (val x%val y))).va]):=by
 refine Cn.introW Tryz.func208 rfl zk nq (.cons (zjv _).va (.cons (zjv _).va .nil)) (zv5 (.cons (zek _).va (.cons (zek _).va .nil))) (fun B w0 a hB0 O=>?_)
 have O:=zn [(0,(MgO x).va),(1,(MgO y).va)] [] O
 have hx:=(O.magO 0 rfl).1
 have hy:=(O.magO 1 rfl).1
 have hys:y.length≤1099511627776:=by omega
 have hpy:y.length-1<y.length:=by omega
 obtain ⟨s,hs⟩:∃ s,s=32-bl (y.getD (k+1) 0):=⟨_,rfl⟩
 have hsy:32-bl (y[y.length-1]'hpy)=s:=by
  rw [hs,show y.getD (k+1) 0=y[y.length-1]'hpy from by simp [List.getD_eq_getElem?_getD,hyl]]
 obtain ⟨X,hX⟩:∃ X,X=val x*2^s:=⟨_,rfl⟩
 obtain ⟨DD,hDD⟩:∃ DD,DD=val y*2^s:=⟨_,rfl⟩
 obtain ⟨d1,d2⟩:=dv_norm hy hyl h0
 have hs32:s<32:=hs▸(zzg h0 (zkg hy (k+1))).2.2
 rw [← hs,← hDD] at d1 d2
 have hX0:X<DD*4294967296^(x.length+1-(k+2)):=hX▸dv_start hx rfl hxy hs32 d1
 have hDp:0<DD:=Nat.lt_of_lt_of_le (Nat.mul_pos (Nat.pow_pos zd) zd) d1
 have htop:2147483648≤DD/4294967296^(k+1)%4294967296:=by
  have h1:DD/4294967296^(k+1)<4294967296:=Nat.div_lt_of_lt_mul d2
  rw [Nat.mod_eq_of_lt h1,Nat.le_div_iff_mul_le (Nat.pow_pos zd),Nat.mul_comm]
  exact d1
 have htop2:DD/4294967296^(k+1)%4294967296<4294967296:=bbl
 obtain ⟨R,hR⟩:∃ R,R=X%(DD*4294967296^0):=⟨_,rfl⟩
 have hp2:0<2^s:=Nat.pow_pos zd
 have hend4:dvQ (x.length+1-(k+2)) X DD 0=digs (x.length+1-(k+2)) (val x/val y):=by
  rw [dvQ_end,hX,hDD,Nat.mul_div_mul_right _ _ hp2]
 have hend5:R/2^s=val x%val y:=by
  rw [hR,Nat.pow_zero,Nat.mul_one,hX,hDD,Nat.mul_mod_mul_right,Nat.mul_div_cancel _ hp2]
 have hR0:R/4294967296^(k+2)%4294967296=0:=by
  have:R<4294967296^(k+2):=by rw [hR,Nat.pow_zero,Nat.mul_one]; exact Nat.lt_trans (Nat.mod_lt _ hDp) d2
  rw [Nat.div_eq_of_lt this]
 refine wp_seq<|zh [.v 4 _,.v 5 _] [.g 0,.g 1,.o 0,.o 1] O (zv rfl (za2 zb8) (zv rfl (za2 zb8) o0)) (zz [(0,_),(1,_),(4,_),(5,_)] [] fun a w O=>?_)
 refine za0<|wp_scope_straight ?_
 refine wp_seq<|zh [.v 20 _,.v 21 _,.v 22 _,.v 23 _,.v 24 _,.v 25 _,.v 26 _,.v 27 _,.v 6 _] [.g 0,.g 1,.g 2,.g 3,.o 8] O (zv rfl (za1 (gq 1 rfl)) (zv rfl (za1 (gq 1 rfl)) (zv rfl (zax Tryz.underlying23 (zaz (vq 1 rfl))) (zv rfl (zd1 (vq 2 rfl) za3 (wi_pm zo zo)) (zv rfl (zc4 zbc (zaz (vq 0 rfl)) (vq 3 rfl) zo) (zv rfl (zad (vq 4 rfl) zb0) (zv rfl (za5 (xs:=[.tmp 25]) (lz32_c _ (hy _ (List.getElem_mem _))) (.cons (vq 5 rfl) .nil)) (zv rfl (zaw .u64 zk zk (vq 6 rfl) ((show IntKind.u64.wrap _=((s:Nat):Int) from by rw [hsy]; exact wu64 zo))) (zv rfl (za2 (vq 7 rfl)) o0))))))))) (zz [(0,_),(1,_),(4,_),(5,_),(6,_)] [] fun a w O=>?_)
 refine zt<|go_drawR (sts:=[]) (news:=[⟨30,106,slH (x.length+1) (x.length+1),some 2,_,none⟩,⟨33,106,slH (y.length+1) (y.length+1),some 5,_,none⟩]) (sp:=[.v 28 _,.v 29 _,.alc 0,.v 31 _,.v 32 _,.alc 1,.v 34 _,.v 35 _,.adr 36 33 (.fn (cutV y.length)) True,.adr 7 30 .none True,.adr 1 33 (.fn (cutV y.length)) True]) [[],[],[0,1],[],[],[0,1,2,3,4],[],[6],[0,1,2,3,4,5,6,7],[0,1,2,3,4,5],[0,1,2,3,4,5,6,7,8,9]] [.g 4] [⟨7,106,slH (x.length+1) (x.length+1),_⟩,⟨1,106,slH y.length (y.length+1),_⟩] za6 O (zv rfl (za1 (gq 0 rfl)) (zv rfl (za1 (gq 4 rfl)) (oc (zww (xs:=[.tmp 28,.tmp 29]) rfl rfl rfl (up_c x s hxs hs32) (.cons (zaz (vq 0 rfl)) (.cons (vq 1 rfl) .nil))) (zv rfl (za1 (gq 1 rfl)) (zv rfl (za1 (gq 4 rfl)) (oc (zww (xs:=[.tmp 31,.tmp 32]) rfl rfl rfl (up_c y s hys hs32) (.cons (zaz (vq 3 rfl)) (.cons (vq 4 rfl) .nil))) (zv rfl (za1 (gq 1 rfl)) (zv rfl (zax Tryz.underlying23 (zaz (vq 6 rfl))) (oc (ob_a rfl rfl (a_cut zbc (lz0 1 rfl) (vq 7 rfl) zo zo)) (oc (ob_a rfl rfl zl0) (oc (ob_a rfl rfl (a_asgK 8 rfl zk)) o0))))))))))) zk zk zk zk (.cons ⟨rfl,rfl,.inr ⟨9,.none,rfl,fun _=>rfl⟩⟩ (.cons ⟨rfl,rfl,.inr ⟨10,.fn (cutV y.length),rfl,fun _=>rfl⟩⟩ .nil)) (zz [(6,(NumA .u64 (s:Nat)).va)] [⟨7,106,slH (x.length+1) (x.length+1),Nums .u32 (digs (x.length+1) (val x*2^s))⟩,⟨1,106,slH y.length (y.length+1),Nums .u32 (digs (y.length+1) (val y*2^s))⟩] fun a w O=>?_)
 rw [← hX,← hDD,hyl] at O
 obtain ⟨g0,_,O⟩:=St.expose O 0 rfl
 obtain ⟨g1,_,O⟩:=St.expose O 1 rfl
 have O:=zn [(1,EqV ((slH (k+2) (k+3)).f g1)),(7,EqV ((slH (x.length+1) (x.length+1)).f g0)),(6,(NumA .u64 (s:Nat)).va)] [⟨7,106,slH (x.length+1) (x.length+1),Nums .u32 (digs (x.length+1) X)⟩,⟨1,106,slH (k+2) (k+3),Nums .u32 (digs (k+3) DD)⟩] O
 refine zt<|zdm (sts:=[none,none]) (news:=[⟨43,106,slH _ _,some 6,_,none⟩]) (sp:=[.v 37 _,.v 38 _,.v 39 _,.v 40 _,.v 41 _,.v 42 _,.alc 2,.adr 8 43 .none True]) [.g 0,.g 1,.g 2,.o 0] [(8,43)] [⟨7,106,slH (x.length+1) (x.length+1),_⟩,⟨1,106,slH (k+2) (k+3),_⟩,⟨8,106,slH _ _,_⟩] O (zv rfl (za1 (gq 1 rfl)) (zv rfl (zdu Tryz.underlying23 (vq 0 rfl)) (zv rfl (za1 (gq 0 rfl)) (zv rfl (zdu Tryz.underlying23 (vq 2 rfl)) (zv rfl (zd1 (vq 1 rfl) (vq 3 rfl) (wi64 zo zo)) (zv rfl (r_maxk za3 (vq 4 rfl) (show max (0:Int) _=((x.length+1-(k+2):Nat):Int) from by omega)) (oc (zeo rfl rfl rfl zfs (vq 5 rfl) (vq 5 rfl) zo) (oc (ob_a rfl rfl zl0) o0)))))))) zk zk zk ⟨⟨7,rfl⟩,trivial⟩ rfl zk (zz [(1,_),(7,_),(6,_),(37,_)] [⟨7,106,slH (x.length+1) (x.length+1),_⟩,⟨1,106,slH (k+2) (k+3),_⟩,⟨8,106,slH _ _,_⟩] fun a w O=>?_)
 obtain ⟨g2,_,O⟩:=St.expose O 2 rfl
 have O:=St.swap (g:=g0) (s':=37) (H':=slH (x.length+1) (x.length+1)) O 0 rfl (zm 2 rfl) (zm 4 rfl) rfl
 refine zt<|zg [none,none,none] [] [.v 44 _,.v 45 _,.v 46 _,.v 47 _,.v 48 _,.v 49 _,.v 50 _,.v 9 _] [.g 0,.g 1,.g 2,.g 3,.g 4,.o 7] O (zv rfl (za1 (gq 1 rfl)) (zv rfl (za1 (gq 1 rfl)) (zv rfl (zdu Tryz.underlying23 (vq 1 rfl)) (zv rfl (zd1 (vq 2 rfl) za3 (zut (n:=k+1) zo)) (zv rfl (zde zbc (vq 0 rfl) (vq 3 rfl) zo) (zv rfl (zcd (vq 4 rfl) (lz0 1 rfl) (gq 1 rfl) (nums_at' (zz5 zo)) zb0) (zv rfl (zaw .u64 zk zk (vq 5 rfl) (wu64 bbl64)) (zv rfl (za2 (vq 6 rfl)) o0)))))))) (zz [(8,_),(1,_),(7,_),(6,_),(37,_),(9,_)] [⟨37,106,slH (x.length+1) (x.length+1),_⟩,⟨1,106,slH (k+2) (k+3),_⟩,⟨8,106,slH _ _,_⟩] fun a w O=>?_)
 refine zt<|wp_label<|zt<|wp_seq<|zg [none,none,none] [] [.v 51 _,.v 52 _,.v 53 _,.v 10 _] [.g 0,.g 1,.g 2,.g 3,.g 4,.g 5,.o 3] O (zv rfl (za1 (gq 0 rfl)) (zv rfl (zdu Tryz.underlying23 (vq 0 rfl)) (zv rfl (zd1 (vq 1 rfl) za3 (wi64 zo zo)) (zv rfl (za2 (vq 2 rfl)) o0)))) (zz [(8,_),(1,_),(7,_),(6,_),(37,_),(9,_),(10,_)] [⟨37,106,slH (x.length+1) (x.length+1),_⟩,⟨1,106,slH (k+2) (k+3),_⟩,⟨8,106,slH _ _,_⟩] fun a w O=>?_)
 refine za0<|wp_block ?_
 have O:=St.sel O [3,2,4,1,0,5,6]
 refine wp_loop_ghost (fun n a w=>n≤(x.length+1-(k+2))∧St B w0 200 [(6,(NumA .u64 (s:Nat)).va),(7,EqV ((slH (x.length+1) (x.length+1)).f g0)),(37,EqV ((slH (x.length+1) (x.length+1)).f g0)),(1,EqV ((slH (k+2) (k+3)).f g1)),(8,EqV ((slH (x.length+1-(k+2)) (x.length+1-(k+2))).f g2)),(9,(NumA .u64 (DD/4294967296^(k+1)%4294967296:Nat)).va),(10,In ((n:Int)-1))] [⟨37,106,slH (x.length+1) (x.length+1),Nums .u32 (dvL (x.length+1) X DD n)⟩,⟨1,106,slH (k+2) (k+3),Nums .u32 (digs (k+3) DD)⟩,⟨8,106,slH (x.length+1-(k+2)) (x.length+1-(k+2)),Nums .u32 (dvQ (x.length+1-(k+2)) X DD n)⟩] a w) ((x.length+1-(k+2))) ?_ ?_
 ·exact ⟨Nat.le_refl _,by rw [dvL_top hX0,dvQ_top]; exact O⟩
 intro n a w hI
 obtain ⟨hn,O⟩:=hI
 refine wp_seq<|wp_seq<|zg [none,none,none] [] [.v 54 _,.v 55 _] [.g 0,.g 1,.g 2,.g 3,.g 4,.g 5,.g 6,.o 1] O (zv rfl (za1 (gq 6 rfl)) (zv rfl (zfu (vq 0 rfl) za3) o0)) (zz [(6,_),(7,_),(37,_),(1,_),(8,_),(9,_),(10,_),(55,_)] [⟨37,106,slH (x.length+1) (x.length+1),_⟩,⟨1,106,slH (k+2) (k+3),_⟩,⟨8,106,slH _ _,_⟩] fun a w O=>?_)
 refine za0<|za8 O (zm 7 rfl) (fun hb0=>?_) (fun hb0=>?_)
 ·obtain ⟨i,rfl⟩:∃ i,n=i+1:=⟨n-1,by simp at hb0; omega⟩
  rw [show ((i+1:Nat):Int)-1=(i:Int) from by omega] at O
  have hv:Dv (x.length+1) k i (X%(DD*4294967296^(i+1))) DD:=dv_mk zo d1 d2
  have hu:=hv.at_
  have hgs0:=hv.gs0 rfl rfl
  have hgmax:=fun {g r:Nat}=>hv.gmax (g:=g) (r:=r)
  have hdown:=fun {g r:Nat}=>hv.down (g:=g) (r:=r)
  have hend1:=fun {g r:Nat}=>hv.end1 (g:=g) (r:=r)
  have hend2:=fun {g r:Nat}=>hv.end2 (g:=g) (r:=r)
  have hdq:=dv_q X DD i
  have hyes:=hv.yes
  have hls:=fun {g:Nat}=>hv.ls (g:=g)
  have hno:=fun {g:Nat}=>hv.end_no (g:=g)
  have hye:=fun {g:Nat}=>hv.yes_ex (g:=g)
  obtain ⟨Y,hY⟩:∃ Y,X%(DD*4294967296^(i+1))/4294967296^i=Y:=⟨_,rfl⟩
  simp only [hY] at hu hgs0 hgmax hdown hend1 hend2 hdq hyes hls hno hye
  have hhd:Y/4294967296^(k+2)%4294967296*4294967296+Y/4294967296^(k+1)%4294967296<18446744073709551616:=by
   have h1:Y/4294967296^(k+2)%4294967296<4294967296:=bbl
   have h2:Y/4294967296^(k+1)%4294967296<4294967296:=bbl
   omega
  refine wp_skip<|zt<|wp_block<|wp_seq<|zg [none,none,none] [] [.v 58 _,.v 59 _,.v 60 _,.v 61 _,.v 62 _,.v 63 _,.v 64 _,.v 65 _,.v 11 _] [.g 0,.g 1,.g 2,.g 3,.g 4,.g 5,.g 6,.o 8] O (zv rfl (za1 (gq 1 rfl)) (zv rfl (za1 (gq 6 rfl)) (zv rfl (za1 (gq 6 rfl)) (zv rfl (za1 (gq 3 rfl)) (zv rfl (zdu Tryz.underlying23 (vq 3 rfl)) (zv rfl (zb5 (vq 2 rfl) (vq 4 rfl) (zh8 zo)) (zv rfl (zb5 (vq 5 rfl) za3 (zb3 zo)) (zv rfl (r_winE zbc (vq 0 rfl) (vq 1 rfl) (vq 6 rfl) (win_ok zo)) (zv rfl (za2 (vq 7 rfl)) o0))))))))) (zz [(6,_),(7,_),(37,_),(1,_),(8,_),(9,_),(10,_),(11,_)] [⟨37,106,slH (x.length+1) (x.length+1),_⟩,⟨1,106,slH (k+2) (k+3),_⟩,⟨8,106,slH _ _,_⟩] fun a w O=>?_)
  have O:=St.swap (g:=g0) (s':=11) (H':=winH i (k+3) (x.length+1-i)) O 0 rfl (zm 2 rfl) (zm 7 rfl) rfl
  refine zt<|zgd [[],[],[1],[0,1,2],[0,1,2,3],[0,1,2,3,4],[0,1,2,3,4,5],[],[],[8],[8,9],[7,8,9,10],[7,8,9,10,11],[7,8,9,10,11,12],[0,1,2,3,4,5,6,7,8,9,10,11,12,13],[0,1,2,3,4,5,6,7,8,9,10,11,12,13,14]] [none,none,none] [] [.v 66 _,.v 67 _,.v 68 _,.v 69 _,.v 70 _,.v 71 _,.v 72 _,.v 73 _,.v 74 _,.v 75 _,.v 76 _,.v 77 _,.v 78 _,.v 79 _,.v 80 _,.v 12 _] [.g 0,.g 1,.g 2,.g 3,.g 4,.g 5,.g 6,.g 7,.o 15] za6 O (zv rfl (za1 (gq 7 rfl)) (zv rfl (za1 (gq 3 rfl)) (zv rfl (zdu Tryz.underlying23 (vq 1 rfl)) (zv rfl (zde zbc (vq 0 rfl) (vq 2 rfl) zo) (zv rfl (zcd (vq 3 rfl) (lz0 0 rfl) (gq 7 rfl) (nums_at' (hu (k+2) zo)) zb0) (zv rfl (zaw .u64 zk zk (vq 4 rfl) (wu64 bbl64)) (zv rfl (ztl (vq 5 rfl) (zau 32 rfl) zd (wshl32 bbl)) (zv rfl (za1 (gq 7 rfl)) (zv rfl (za1 (gq 3 rfl)) (zv rfl (zdu Tryz.underlying23 (vq 8 rfl)) (zv rfl (zd1 (vq 9 rfl) za3 (zut (n:=k+1) zo)) (zv rfl (zde zbc (vq 7 rfl) (vq 10 rfl) zo) (zv rfl (zcd (vq 11 rfl) (lz0 0 rfl) (gq 7 rfl) (nums_at' (hu (k+1) zo)) zb0) (zv rfl (zaw .u64 zk zk (vq 12 rfl) (wu64 bbl64)) (zv rfl (zto (vq 6 rfl) (vq 13 rfl) (or64 bbl bbl)) (zv rfl (za2 (vq 14 rfl)) o0)))))))))))))))) zk zk zk zk (zz [(6,_),(7,_),(37,_),(1,_),(8,_),(9,_),(10,_),(11,_),(12,_)] [⟨11,106,winH i (k+3) (x.length+1-i),_⟩,⟨1,106,slH (k+2) (k+3),_⟩,⟨8,106,slH _ _,_⟩] fun a w O=>?_)
  refine zt<|zgd [[],[],[0,1],[],[],[3,4],[0,1,2],[0,1,2,3,4,5,6]] [none,none,none] [] [.v 81 _,.v 82 _,.v 83 _,.v 84 _,.v 85 _,.v 86 _,.v 13 _,.v 14 _] [.g 0,.g 1,.g 2,.g 3,.g 4,.g 5,.g 6,.g 7,.o 6,.o 7] za6 O (zv rfl (za1 (gq 8 rfl)) (zv rfl (za1 (gq 5 rfl)) (zv rfl (zla (vq 0 rfl) (vq 1 rfl) zo (nquo (Nat.lt_of_le_of_lt (Nat.div_le_self _ _) hhd))) (zv rfl (za1 (gq 8 rfl)) (zv rfl (za1 (gq 5 rfl)) (zv rfl (zl9 (vq 3 rfl) (vq 4 rfl) zo (nrem)) (zv rfl (za2 (vq 2 rfl)) (zv rfl (za2 (vq 5 rfl)) o0)))))))) zk zk zk zk (zz [(6,_),(7,_),(37,_),(1,_),(8,_),(9,_),(10,_),(11,_),(13,_),(14,_)] [⟨11,106,winH i (k+3) (x.length+1-i),_⟩,⟨1,106,slH (k+2) (k+3),_⟩,⟨8,106,slH _ _,_⟩] fun a w O=>?_)
  refine zt<|zun (fun a w=>∃ q:Nat,(q<4294967296∧(q=Y/DD∨q=Y/DD+1))∧St B w0 200 [(6,(NumA .u64 (s:Nat)).va),(7,EqV ((slH (x.length+1) (x.length+1)).f g0)),(37,EqV ((slH (x.length+1) (x.length+1)).f g0)),(1,EqV ((slH (k+2) (k+3)).f g1)),(8,EqV ((slH (x.length+1-(k+2)) (x.length+1-(k+2))).f g2)),(9,(NumA .u64 (DD/4294967296^(k+1)%4294967296:Nat)).va),(10,In (i:Nat)),(11,EqV ((winH i (k+3) (x.length+1-i)).f g0)),(13,(NumA .u64 (q:Nat)).va)] [⟨11,106,winH i (k+3) (x.length+1-i),Nums .u32 (dvL (x.length+1) X DD (i+1))⟩,⟨1,106,slH (k+2) (k+3),Nums .u32 (digs (k+3) DD)⟩,⟨8,106,slH (x.length+1-(k+2)) (x.length+1-(k+2)),Nums .u32 (dvQ (x.length+1-(k+2)) X DD (i+1))⟩] a w) ?_ (fun a w O=>?_)
  ·have O:=St.sel O [0,1,2,3,4,5,6,7,8,9]
   refine wp_loop_ghost (fun n a w=>∃ r:Nat,Gs k Y DD n r∧St B w0 200 [(6,(NumA .u64 (s:Nat)).va),(7,EqV ((slH (x.length+1) (x.length+1)).f g0)),(37,EqV ((slH (x.length+1) (x.length+1)).f g0)),(1,EqV ((slH (k+2) (k+3)).f g1)),(8,EqV ((slH (x.length+1-(k+2)) (x.length+1-(k+2))).f g2)),(9,(NumA .u64 (DD/4294967296^(k+1)%4294967296:Nat)).va),(10,In (i:Nat)),(11,EqV ((winH i (k+3) (x.length+1-i)).f g0)),(13,(NumA .u64 (n:Nat)).va),(14,(NumA .u64 (r:Nat)).va)] [⟨11,106,winH i (k+3) (x.length+1-i),Nums .u32 (dvL (x.length+1) X DD (i+1))⟩,⟨1,106,slH (k+2) (k+3),Nums .u32 (digs (k+3) DD)⟩,⟨8,106,slH (x.length+1-(k+2)) (x.length+1-(k+2)),Nums .u32 (dvQ (x.length+1-(k+2)) X DD (i+1))⟩] a w) ((Y/4294967296^(k+2)%4294967296*4294967296+Y/4294967296^(k+1)%4294967296)/(DD/4294967296^(k+1)%4294967296)) ?_ ?_
   ·exact ⟨_,hgs0,O⟩
   intro n a w hI
   obtain ⟨r,hgs,O⟩:=hI
   have hgm:=hgmax hgs
   have hr:=hgs.r
   refine wp_seq<|wp_seq<|zis (anc:=[[],[0],[0,1],[0,1,2],[0,1,2],[0,1,2],[0,1,2,5],[0,1,2,5,6],[0,1,2,4,5,6,7],[0,1,2,4,5,6,7,8],[0,1,2,4,5,6,7,8,9],[0,1,2,3,4,5,6,7,8,9,10],[0,1,2],[0,1,2,12],[0,1,2],[0,1,2],[0,1,2,15],[0,1,2,15,16],[0,1,2,14,15,16,17],[0,1,2,14,15,16,17,18],[0,1,2,14,15,16,17,18,19],[0,1,2,12,13,14,15,16,17,18,19,20],[0,1,2,3,4,5,6,7,8,9,10,11,12,13,14,15,16,17,18,19,20,21],[0,1,2,3,4,5,6,7,8,9,10,11,12,13,14,15,16,17,18,19,20,21,22]]) (sts:=[none,none,none]) (news:=[]) (sp:=((.v 87 _:Sp)::(.v 88 _)::(.v 89 _)::(.v 90 (Wh (_=false) _))::(.v 91 (Wh (_=false) _))::(.v 92 (Wh (_=false) _))::(.v 93 (Wh (_=false) _))::(.v 94 (Wh (_=false) _))::(.v 95 (Wh (_=false) _))::(.v 96 (Wh (_=false) _))::(.v 97 (Wh (_=false) _))::(.v 98 (Wh (_=false) _))::(.v 99 (Wh (_=false) _))::(.v 100 (Wh (_=false) _))::(.v 101 (Wh (_=false) _))::(.v 102 (Wh (_=false) _))::(.v 103 (Wh (_=false) _))::(.v 104 (Wh (_=false) _))::(.v 105 (Wh (_=false) _))::(.v 106 (Wh (_=false) _))::(.v 107 (Wh (_=false) _))::(.v 108 (Wh (_=false) _))::(.v 109 (Wh (_=false) _))::(.v 110 _)::[])) [.g 0,.g 1,.g 2,.g 3,.g 4,.g 5,.g 6,.g 7,.g 8,.g 9,.o 23] za6 O (zv rfl (za1 (gq 8 rfl)) (zv rfl (zfu (vq 0 rfl) (zau 4294967296 rfl)) (zv rfl (za1 (vq 1 rfl)) (oc (zan rfl rfl rfl (vq 2 rfl) nq (fun hg=>za1 (gq 8 rfl))) (oc (zan rfl rfl rfl (vq 2 rfl) nq (fun hg=>za1 (gq 3 rfl))) (oc (zan rfl rfl rfl (vq 2 rfl) nq (fun hg=>za1 (gq 3 rfl))) (oc (zan rfl rfl rfl (vq 2 rfl) nq (fun hg=>zdu Tryz.underlying23 (zab (vq 5 rfl) hg))) (oc (zan rfl rfl rfl (vq 2 rfl) nq (fun hg=>zd1 (zab (vq 6 rfl) hg) za3 (wi_m2 zo))) (oc (zan rfl rfl rfl (vq 2 rfl) nq (fun hg=>zde zbc (zab (vq 4 rfl) hg) (zab (vq 7 rfl) hg) zo)) (oc (zan rfl rfl rfl (vq 2 rfl) nq (fun hg=>zcd (zab (vq 8 rfl) hg) (lz0 1 rfl) (gq 3 rfl) (nums_at' (zz5 zo)) zb0)) (oc (zan rfl rfl rfl (vq 2 rfl) nq (fun hg=>zaw .u64 zk zk (zab (vq 9 rfl) hg) (wu64 bbl64))) (oc (zan rfl rfl rfl (vq 2 rfl) nq (fun hg=>zmh (zab (vq 3 rfl) hg) (zab (vq 10 rfl) hg) (wmul64 (mul64_lt (ge_no hg) bbl)))) (oc (zan rfl rfl rfl (vq 2 rfl) nq (fun hg=>za1 (gq 9 rfl))) (oc (zan rfl rfl rfl (vq 2 rfl) nq (fun hg=>ztl (zab (vq 12 rfl) hg) (zau 32 rfl) zd (wshl32 hr))) (oc (zan rfl rfl rfl (vq 2 rfl) nq (fun hg=>za1 (gq 7 rfl))) (oc (zan rfl rfl rfl (vq 2 rfl) nq (fun hg=>za1 (gq 3 rfl))) (oc (zan rfl rfl rfl (vq 2 rfl) nq (fun hg=>zdu Tryz.underlying23 (zab (vq 15 rfl) hg))) (oc (zan rfl rfl rfl (vq 2 rfl) nq (fun hg=>zd1 (zab (vq 16 rfl) hg) za3 (wi_m2 zo))) (oc (zan rfl rfl rfl (vq 2 rfl) nq (fun hg=>zde zbc (zab (vq 14 rfl) hg) (zab (vq 17 rfl) hg) zo)) (oc (zan rfl rfl rfl (vq 2 rfl) nq (fun hg=>zcd (zab (vq 18 rfl) hg) (lz0 0 rfl) (gq 7 rfl) (nums_at' (hu k zo)) zb0)) (oc (zan rfl rfl rfl (vq 2 rfl) nq (fun hg=>zaw .u64 zk zk (zab (vq 19 rfl) hg) (wu64 bbl64))) (oc (zan rfl rfl rfl (vq 2 rfl) nq (fun hg=>zto (zab (vq 13 rfl) hg) (zab (vq 20 rfl) hg) (or64 hr bbl))) (oc (zan rfl rfl rfl (vq 2 rfl) nq (fun hg=>zev (zab (vq 11 rfl) hg) (zab (vq 21 rfl) hg))) (zv rfl (r_or (vq 2 rfl) (vq 22 rfl)) o0)))))))))))))))))))))))) zk zk zk zk (zz [(6,_),(7,_),(37,_),(1,_),(8,_),(9,_),(10,_),(11,_),(13,_),(14,_),(110,_)] [⟨11,106,winH i (k+3) (x.length+1-i),_⟩,⟨1,106,slH (k+2) (k+3),_⟩,⟨8,106,slH _ _,_⟩] fun a w O=>?_)
   refine za0<|za8 O (zm 10 rfl) (fun hb1=>?_) (fun hb1=>?_)
   ·have hlt:=hdown hgs (or_yes hb1)
    have hn0:0<n:=Nat.lt_of_le_of_lt (Nat.zero_le _) hlt
    refine wp_skip<|za0<|wp_block<|wp_seq<|zg [none,none,none] [] [.v 111 _,.v 112 _,.v 13 _] [.g 0,.g 1,.g 2,.g 3,.g 4,.g 5,.g 6,.g 7,.g 9,.o 2] O (zv rfl (za1 (gq 8 rfl)) (zv rfl (zd1 (vq 0 rfl) (zau 1 rfl) (wu64pred hn0 zo)) (zv rfl (za2 (vq 1 rfl)) o0))) (zz [(6,_),(7,_),(37,_),(1,_),(8,_),(9,_),(10,_),(11,_),(14,_),(13,_)] [⟨11,106,winH i (k+3) (x.length+1-i),_⟩,⟨1,106,slH (k+2) (k+3),_⟩,⟨8,106,slH _ _,_⟩] fun a w O=>?_)
    refine zt<|zg [none,none,none] [] [.v 113 _,.v 114 _,.v 115 _,.v 14 _] [.g 0,.g 1,.g 2,.g 3,.g 4,.g 5,.g 6,.g 7,.g 9,.o 3] O (zv rfl (za1 (gq 8 rfl)) (zv rfl (za1 (gq 5 rfl)) (zv rfl (zb5 (vq 0 rfl) (vq 1 rfl) (wadd64 zo)) (zv rfl (za2 (vq 2 rfl)) o0)))) (zz [(6,_),(7,_),(37,_),(1,_),(8,_),(9,_),(10,_),(11,_),(13,_),(14,_)] [⟨11,106,winH i (k+3) (x.length+1-i),_⟩,⟨1,106,slH (k+2) (k+3),_⟩,⟨8,106,slH _ _,_⟩] fun a w O=>?_)
    refine zt<|zg [none,none,none] [] [.v 116 _,.v 117 _] [.g 0,.g 1,.g 2,.g 3,.g 4,.g 5,.g 6,.g 7,.g 8,.g 9,.o 1] O (zv rfl (za1 (gq 9 rfl)) (zv rfl (zfu (vq 0 rfl) (zau 4294967296 rfl)) o0)) (zz [(6,_),(7,_),(37,_),(1,_),(8,_),(9,_),(10,_),(11,_),(13,_),(14,_),(117,_)] [⟨11,106,winH i (k+3) (x.length+1-i),_⟩,⟨1,106,slH (k+2) (k+3),_⟩,⟨8,106,slH _ _,_⟩] fun a w O=>?_)
    refine za0<|za8 O (zm 10 rfl) (fun hb2=>?_) (fun hb2=>?_)
    ·refine wp_exit<|blk_exit' zd ?_
     refine za7<|zap<|za0 ?_
     have O:=St.sel O [0,1,2,3,4,5,6,7,8]
     exact ⟨_,hend2 hgs hlt (ge_yes hb2),O⟩
    ·refine wp_skip<|zae ?_
     refine za0 ?_
     have O:=St.sel O [0,1,2,3,4,5,6,7,8,9]
     exact ⟨n-1,by omega,_,hgs.next hlt (ge_no hb2),O⟩
   ·obtain ⟨hq,hle⟩:=or_no hb1
    refine wp_exit<|za7<|za7<|zap<|za0 ?_
    have O:=St.sel O [0,1,2,3,4,5,6,7,8]
    exact ⟨_,⟨hq,hend1 hgs hq hle⟩,O⟩
  obtain ⟨q,⟨hq,hqq⟩,O⟩:=O
  refine zt<|wp_seq<|zg [some (3,_),none,none] [] [.v 118 _,.v 119 _,.v 120 _,.cal 121 _ 0,.v 122 _] [.g 0,.g 1,.g 2,.g 3,.g 4,.g 5,.g 6,.g 7,.g 8,.o 4] O (zv rfl (za1 (gq 7 rfl)) (zv rfl (za1 (gq 3 rfl)) (zv rfl (za1 (gq 8 rfl)) (oc (ob_cal2 (xs:=[.tmp 120]) rfl rfl rfl (less_c (dvL (x.length+1) X DD (i+1)) (digs (k+3) DD) i (k+2) (x.length+1-i) (k+3) q (zc7 _ _) (zc7 _ _) (by rw [zal]; omega) (by rw [show (dvL (x.length+1) X DD (i+1)).length=x.length+1 from zal _ _]; omega) zo hq) (arwE (vq 0 rfl) (gq 7 rfl)) (lz0 1 rfl) (Nat.ne_of_beq_eq_false rfl) (arwE (vq 1 rfl) (gq 3 rfl)) (.cons (vq 2 rfl) .nil)) (zv rfl (zeh (has_c 3 rfl zk zk)) o0))))) (zz [(6,_),(7,_),(37,_),(1,_),(8,_),(9,_),(10,_),(11,_),(13,_),(122,_)] [⟨11,106,winH i (k+3) (x.length+1-i),_⟩,⟨1,106,slH (k+2) (k+3),_⟩,⟨8,106,slH _ _,_⟩] fun a w O=>?_)
  refine za0<|za8 O (zm 9 rfl) (fun hb3=>?_) (fun hb3=>?_)
  ·have hqd:q=Y/DD:=by
    rcases hqq with hqq | hqq
    ·exact hqq
    ·exfalso
     have:¬ _:=fun hh=>by rw [decide_eq_true (hls.2 hh)] at hb3; exact Bool.noConfusion hb3
     exact this (hqq▸hyes)
   have O:=St.cvA O 0 rfl (congrArg (Nums .u32) (hno hqd))
   refine wp_seq<|zg [none,none,some (5,_)] [] [.v 123 _,.v 124 _,.v 125 _,.v 126 _,.v 127 _,.sto 2] [.g 0,.g 1,.g 2,.g 3,.g 4,.g 5,.g 6,.g 7,.g 8] O (zv rfl (za1 (gq 4 rfl)) (zv rfl (za1 (gq 6 rfl)) (zv rfl (za1 (gq 8 rfl)) (zv rfl (zaw .u32 zk zk (vq 2 rfl) (wu32 hq)) (zv rfl (zde zbc (vq 0 rfl) (vq 1 rfl) zo) (oc (zgz rfl rfl rfl (vq 4 rfl) (gq 4 rfl) (vq 3 rfl) zb0 (zc2 (by rw [zyz zo]; omega))) o0)))))) (zz [(6,_),(7,_),(37,_),(1,_),(8,_),(9,_),(10,_),(11,_),(13,_)] [⟨11,106,winH i (k+3) (x.length+1-i),_⟩,⟨1,106,slH (k+2) (k+3),_⟩,⟨8,106,slH _ _,_⟩] fun a w O=>?_)
   refine za0<|wp_exit<|za7<|zap<|za0<|zg [none,none,none] [] [.v 56 _,.v 57 _,.v 10 _] [.g 0,.g 1,.g 2,.g 3,.g 4,.g 5,.g 7,.o 2] O (zv rfl (za1 (gq 6 rfl)) (zv rfl (zd1 (vq 0 rfl) za3 (wi64 zo zo)) (zv rfl (za2 (vq 1 rfl)) o0))) (zz [(6,_),(7,_),(37,_),(1,_),(8,_),(9,_),(11,_),(10,_)] [⟨11,106,winH i (k+3) (x.length+1-i),_⟩,⟨1,106,slH (k+2) (k+3),_⟩,⟨8,106,slH _ _,_⟩] fun a w O=>?_)
   have O:=St.swap (g:=g0) (s':=37) (H':=slH (x.length+1) (x.length+1)) O 0 rfl (zm 6 rfl) (zm 2 rfl) rfl
   refine za0 ?_
   have O:=St.sel O [0,1,2,3,4,5,7]
   have O:=St.cvA (A':=Nums .u32 (dvQ (x.length+1-(k+2)) X DD i)) O 2 rfl (congrArg (Nums .u32) (by rw [Nat.zero_add,hqd,hdq]; exact zsv zo))
   exact ⟨i,by omega,by omega,O⟩
  ·have hqd:q=Y/DD+1:=by
    rcases hqq with hqq | hqq
    ·exfalso
     have h1:¬ (Y<q*DD):=by rw [hqq]; have:=Nat.div_mul_le_self Y DD; omega
     rw [decide_eq_false (fun hh=>h1 (hls.1 hh))] at hb3
     exact Bool.noConfusion hb3
    ·exact hqq
   obtain ⟨M,hM,hMl,hWl,hWok,hMe⟩:=hye hqd
   have O:=St.cvA O 0 rfl (congrArg (Nums .u32) hM)
   have hDok:okL ((digs (k+3) DD).take (k+2)):=zmr (zc7 _ _) _
   refine wp_skip<|zt<|zg [none,none,some (6,_)] [] [.v 128 _,.v 129 _,.v 130 _,.v 131 _,.v 132 _,.v 133 _,.sto 2] [.g 0,.g 1,.g 2,.g 3,.g 4,.g 5,.g 6,.g 7] O (zv rfl (za1 (gq 4 rfl)) (zv rfl (za1 (gq 6 rfl)) (zv rfl (za1 (gq 8 rfl)) (zv rfl (zd1 (vq 2 rfl) (zau 1 rfl) (wu64pred zo zo)) (zv rfl (zaw .u32 zk zk (vq 3 rfl) (wu32 zo)) (zv rfl (zde zbc (vq 0 rfl) (vq 1 rfl) zo) (oc (zgz rfl rfl rfl (vq 5 rfl) (gq 4 rfl) (vq 4 rfl) zb0 (zc2 (by rw [zyz zo]; omega))) o0))))))) (zz [(6,_),(7,_),(37,_),(1,_),(8,_),(9,_),(10,_),(11,_)] [⟨11,106,winH i (k+3) (x.length+1-i),_⟩,⟨1,106,slH (k+2) (k+3),_⟩,⟨8,106,slH _ _,_⟩] fun a w O=>?_)
   refine zt<|zg [none,none,none] [] [.v 15 _] [.g 0,.g 1,.g 2,.g 3,.g 4,.g 5,.g 6,.g 7,.o 0] O (zv rfl (za2 (zau 0 rfl)) o0) (zz [(6,_),(7,_),(37,_),(1,_),(8,_),(9,_),(10,_),(11,_),(15,_)] [⟨11,106,winH i (k+3) (x.length+1-i),_⟩,⟨1,106,slH (k+2) (k+3),_⟩,⟨8,106,slH _ _,_⟩] fun a w O=>?_)
   refine zt<|wp_seq<|zg [none,none,none] [] [.v 134 _,.v 135 _,.v 136 _] [.g 0,.g 1,.g 2,.g 3,.g 4,.g 5,.g 6,.g 7,.g 8,.o 0,.o 1,.o 2] O (zv rfl (za1 (gq 3 rfl)) (zv rfl (zdu Tryz.underlying23 (vq 0 rfl)) (zv rfl (za1 za3) o0))) (zz [(6,_),(7,_),(37,_),(1,_),(8,_),(9,_),(10,_),(11,_),(15,_),(134,_),(135,_),(136,_)] [⟨11,106,winH i (k+3) (x.length+1-i),_⟩,⟨1,106,slH (k+2) (k+3),_⟩,⟨8,106,slH _ _,_⟩] fun a w O=>?_)
   refine za0<|wp_block ?_
   have O:=St.sel O [0,1,2,3,4,5,6,7,9,10,11,8]
   refine wp_loop_ghost (fun n a w=>∃ j:Nat,n+j=k+2∧St B w0 200 [(6,(NumA .u64 (s:Nat)).va),(7,EqV ((slH (x.length+1) (x.length+1)).f g0)),(37,EqV ((slH (x.length+1) (x.length+1)).f g0)),(1,EqV ((slH (k+2) (k+3)).f g1)),(8,EqV ((slH (x.length+1-(k+2)) (x.length+1-(k+2))).f g2)),(9,(NumA .u64 (DD/4294967296^(k+1)%4294967296:Nat)).va),(10,In (i:Nat)),(11,EqV ((winH i (k+3) (x.length+1-i)).f g0)),(134,EqV ((slH (k+2) (k+3)).f g1)),(135,In ((k+2):Nat)),(136,In (j:Nat)),(15,(NumA .u32 (sumTo ((M.drop i).take (k+3)) ((digs (k+3) DD).take (k+2)) j/4294967296^j:Nat)).va)] [⟨11,106,winH i (k+3) (x.length+1-i),Nums .u32 (spl M i (digs j (sumTo ((M.drop i).take (k+3)) ((digs (k+3) DD).take (k+2)) j)))⟩,⟨1,106,slH (k+2) (k+3),Nums .u32 (digs (k+3) DD)⟩,⟨8,106,slH (x.length+1-(k+2)) (x.length+1-(k+2)),Nums .u32 ((dvQ (x.length+1-(k+2)) X DD (i+1)).set (0+i) (q-1))⟩] a w) (k+2) ?_ ?_
   ·exact ⟨0,by omega,by rw [show ∀ m,digs 0 m=[] from fun _=>rfl,zpn,zg8,show (0:Nat)/4294967296^0=0 from rfl]; exact O⟩
   intro n a w hI
   obtain ⟨j,hn,O⟩:=hI
   refine wp_seq<|zg [none,none,none] [] [.v 137 _] [.g 0,.g 1,.g 2,.g 3,.g 4,.g 5,.g 6,.g 7,.g 8,.g 9,.g 10,.g 11,.o 0] O (zv rfl (zb1 (gq 10 rfl) (gq 9 rfl)) o0) (zz [(6,_),(7,_),(37,_),(1,_),(8,_),(9,_),(10,_),(11,_),(134,_),(135,_),(136,_),(15,_),(137,_)] [⟨11,106,winH i (k+3) (x.length+1-i),_⟩,⟨1,106,slH (k+2) (k+3),_⟩,⟨8,106,slH _ _,_⟩] fun a w O=>?_)
   refine zt<|za8 O (zm 12 rfl) (fun hb4=>?_) (fun hb4=>?_)
   ·have hj:j<k+2:=by simp at hb4; omega
    have hwx:(spl M i (digs j (sumTo ((M.drop i).take (k+3)) ((digs (k+3) DD).take (k+2)) j)))[i+j]?=some ((((M.drop i).take (k+3))).getD j 0):=by rw [zj8 zo,zk0 (by rw [zal]; omega) zo]
    have hdx:(digs (k+3) DD)[0+j]?=some ((((digs (k+3) DD).take (k+2))).getD j 0):=by rw [zo9 hj,Nat.zero_add]; exact getD_some (by rw [zal]; omega)
    have hcy:sumTo ((M.drop i).take (k+3)) ((digs (k+3) DD).take (k+2)) j/4294967296^j<4294967296:=Nat.lt_of_le_of_lt (zfo hWok hDok _) zd
    have hsl:(spl M i (digs j (sumTo ((M.drop i).take (k+3)) ((digs (k+3) DD).take (k+2)) j))).length=x.length+1:=by rw [zid (by rw [zal]; omega),hMl]
    refine wp_skip<|zt<|wp_block<|wp_seq<|zg [none,none,none] [] [.v 138 _,.v 139 _,.v 140 _,.v 16 _,.v 17 _] [.g 0,.g 1,.g 2,.g 3,.g 4,.g 5,.g 6,.g 7,.g 8,.g 9,.g 10,.g 11,.o 3,.o 4] O (zv rfl (za1 (gq 10 rfl)) (zv rfl (zde zbc (gq 8 rfl) (gq 10 rfl) zo) (zv rfl (zcd (vq 1 rfl) (lz0 1 rfl) (gq 3 rfl) (nums_at' hdx) zb0) (zv rfl (za2 (vq 0 rfl)) (zv rfl (za2 (vq 2 rfl)) o0))))) (zz [(6,_),(7,_),(37,_),(1,_),(8,_),(9,_),(10,_),(11,_),(134,_),(135,_),(136,_),(15,_),(16,_),(17,_)] [⟨11,106,winH i (k+3) (x.length+1-i),_⟩,⟨1,106,slH (k+2) (k+3),_⟩,⟨8,106,slH _ _,_⟩] fun a w O=>?_)
    refine za0<|zg [some (13,_),none,none] [] [.v 142 _,.v 143 _,.v 144 _,.v 145 _,.v 146 _,.v 147 _,.v 148 _,.v 149 _,.v 150 _,.v 141 _,.v 151 _,.v 152 _,.v 153 _,.sto 0,.v 15 _] [.g 0,.g 1,.g 2,.g 3,.g 4,.g 5,.g 6,.g 7,.g 8,.g 9,.g 10,.o 14] O (zv rfl (za1 (gq 7 rfl)) (zv rfl (za1 (gq 12 rfl)) (zv rfl (za1 (gq 7 rfl)) (zv rfl (za1 (gq 12 rfl)) (zv rfl (zde zbc (vq 2 rfl) (vq 3 rfl) zo) (zv rfl (zcd (vq 4 rfl) (lz0 0 rfl) (gq 7 rfl) (nums_at' hwx) zb0) (zv rfl (za1 (gq 13 rfl)) (zv rfl (za1 (gq 11 rfl)) (zv rfl (za5 (xs:=[.tmp 147,.tmp 148,.tmp 149]) (zkz (zkg hWok _) (zkg hDok _) hcy) (.cons (vq 5 rfl) (.cons (vq 6 rfl) (.cons (vq 7 rfl) .nil)))) (zv rfl (za1 (vq 8 rfl)) (zv rfl (zb4 (vq 9 rfl) rfl) (zv rfl (zb4 (vq 9 rfl) rfl) (zv rfl (zde zbc (vq 0 rfl) (vq 1 rfl) zo) (oc (zgz rfl rfl rfl (vq 12 rfl) (gq 7 rfl) (vq 10 rfl) zb0 (zc2 zo)) (zv rfl (za2 (vq 11 rfl)) o0))))))))))))))) (zz [(6,_),(7,_),(37,_),(1,_),(8,_),(9,_),(10,_),(11,_),(134,_),(135,_),(136,_),(15,_)] [⟨11,106,winH i (k+3) (x.length+1-i),_⟩,⟨1,106,slH (k+2) (k+3),_⟩,⟨8,106,slH _ _,_⟩] fun a w O=>?_)
    refine zae ?_
    refine za0<|zg [none,none,none] [] [.v 154 _,.v 136 _] [.g 0,.g 1,.g 2,.g 3,.g 4,.g 5,.g 6,.g 7,.g 8,.g 9,.g 11,.o 1] O (zv rfl (zb5 (gq 10 rfl) za3 (zb3 zo)) (zv rfl (za1 (vq 0 rfl)) o0)) (zz [(6,_),(7,_),(37,_),(1,_),(8,_),(9,_),(10,_),(11,_),(134,_),(135,_),(15,_),(136,_)] [⟨11,106,winH i (k+3) (x.length+1-i),_⟩,⟨1,106,slH (k+2) (k+3),_⟩,⟨8,106,slH _ _,_⟩] fun a w O=>?_)
    refine za0 ?_
    have O:=St.sel O [0,1,2,3,4,5,6,7,8,9,11,10]
    rw [zjz (zal _ _) zo,ab_step zo,ab_carry zo] at O
    exact ⟨n-1,by omega,j+1,by omega,O⟩
   ·obtain rfl:j=k+2:=by simp at hb4; omega
    have hwx:(spl M i (digs (k+2) (sumTo ((M.drop i).take (k+3)) ((digs (k+3) DD).take (k+2)) (k+2))))[i+(k+2)]?=some ((((M.drop i).take (k+3))).getD (k+2) 0):=by rw [zj8 zo,zk0 (by rw [zal]; omega) zo]
    have hsl:(spl M i (digs (k+2) (sumTo ((M.drop i).take (k+3)) ((digs (k+3) DD).take (k+2)) (k+2)))).length=x.length+1:=by rw [zid (by rw [zal]; omega),hMl]
    refine wp_exit<|za7<|za7<|zap<|za0<|zg [some (8,_),none,none] [] [.v 155 _,.v 156 _,.v 157 _,.v 158 _,.v 159 _,.v 160 _,.v 161 _,.v 162 _,.sto 0] [.g 0,.g 1,.g 2,.g 3,.g 4,.g 5,.g 6,.g 7] O (zv rfl (za1 (gq 7 rfl)) (zv rfl (za1 (gq 3 rfl)) (zv rfl (zdu Tryz.underlying23 (vq 1 rfl)) (zv rfl (zde zbc (vq 0 rfl) (vq 2 rfl) zo) (zv rfl (zcd (vq 3 rfl) (lz0 0 rfl) (gq 7 rfl) (nums_at' hwx) zb0) (zv rfl (za1 (gq 11 rfl)) (zv rfl (zb5 (vq 4 rfl) (vq 5 rfl) (wu32')) (zv rfl (zde zbc (vq 0 rfl) (vq 2 rfl) zo) (oc (zgz rfl rfl rfl (vq 7 rfl) (gq 7 rfl) (vq 6 rfl) zb0 (zc2 zo)) o0))))))))) (zz [(6,_),(7,_),(37,_),(1,_),(8,_),(9,_),(10,_),(11,_)] [⟨11,106,winH i (k+3) (x.length+1-i),_⟩,⟨1,106,slH (k+2) (k+3),_⟩,⟨8,106,slH _ _,_⟩] fun a w O=>?_)
    refine zae ?_
    refine za0<|zg [none,none,none] [] [.v 56 _,.v 57 _,.v 10 _] [.g 0,.g 1,.g 2,.g 3,.g 4,.g 5,.g 7,.o 2] O (zv rfl (za1 (gq 6 rfl)) (zv rfl (zd1 (vq 0 rfl) za3 (wi64 zo zo)) (zv rfl (za2 (vq 1 rfl)) o0))) (zz [(6,_),(7,_),(37,_),(1,_),(8,_),(9,_),(11,_),(10,_)] [⟨11,106,winH i (k+3) (x.length+1-i),_⟩,⟨1,106,slH (k+2) (k+3),_⟩,⟨8,106,slH _ _,_⟩] fun a w O=>?_)
    have O:=St.swap (g:=g0) (s':=37) (H':=slH (x.length+1) (x.length+1)) O 0 rfl (zm 6 rfl) (zm 2 rfl) rfl
    refine za0 ?_
    have O:=St.sel O [0,1,2,3,4,5,7]
    have O:=St.cvA (A':=Nums .u32 (dvL (x.length+1) X DD i)) O 0 rfl (congrArg (Nums .u32) (by rw [zjz (zal _ _) zo]; exact hMe))
    have O:=St.cvA (A':=Nums .u32 (dvQ (x.length+1-(k+2)) X DD i)) O 2 rfl (congrArg (Nums .u32) (by rw [Nat.zero_add,hqd,Nat.add_sub_cancel,hdq]; exact zsv zo))
    exact ⟨i,by omega,by omega,O⟩
 ·obtain rfl:n=0:=by simp at hb0; omega
  refine wp_exit<|za7<|za7<|zap<|zt<|zg [none,none,none] [] [.v 163 _,.v 164 _,.v 165 _,.v 166 _,.v 7 _] [.g 0,.g 2,.g 3,.g 4,.o 4] O (zv rfl (za1 (gq 1 rfl)) (zv rfl (za1 (gq 3 rfl)) (zv rfl (zdu Tryz.underlying23 (vq 1 rfl)) (zv rfl (zwa zbc (vq 0 rfl) (vq 2 rfl) zo) (zv rfl (za2 (vq 3 rfl)) o0))))) (zz [(6,_),(37,_),(1,_),(8,_),(7,_)] [⟨37,106,slH (x.length+1) (x.length+1),_⟩,⟨1,106,slH (k+2) (k+3),_⟩,⟨8,106,slH _ _,_⟩] fun a w O=>?_)
  refine zt<|wp_seq<|zg [none,none,none] [] [.v 167 _,.v 168 _,.v 169 _] [.g 0,.g 1,.g 2,.g 3,.g 4,.o 1,.o 2] O (zv rfl (za1 (gq 4 rfl)) (zv rfl (zdu Tryz.underlying23 (vq 0 rfl)) (zv rfl (za1 za3) o0))) (zz [(6,_),(37,_),(1,_),(8,_),(7,_),(168,_),(169,_)] [⟨37,106,slH (x.length+1) (x.length+1),_⟩,⟨1,106,slH (k+2) (k+3),_⟩,⟨8,106,slH _ _,_⟩] fun a w O=>?_)
  refine za0<|wp_block ?_
  have O:=St.sel O [0,4,1,3,5,6]
  refine wp_loop_ghost (fun n a w=>∃ j:Nat,n+j=k+2∧St B w0 200 [(6,(NumA .u64 (s:Nat)).va),(7,EqV ((slH (k+2) (x.length+1)).f g0)),(37,EqV ((slH (x.length+1) (x.length+1)).f g0)),(8,EqV ((slH (x.length+1-(k+2)) (x.length+1-(k+2))).f g2)),(168,In ((k+2):Nat)),(169,In (j:Nat))] [⟨37,106,slH (x.length+1) (x.length+1),Nums .u32 (dvF (x.length+1) R s j)⟩,⟨1,106,slH (k+2) (k+3),Nums .u32 (digs (k+3) DD)⟩,⟨8,106,slH (x.length+1-(k+2)) (x.length+1-(k+2)),Nums .u32 (dvQ (x.length+1-(k+2)) X DD 0)⟩] a w) (k+2) ?_ ?_
  ·exact ⟨0,by omega,by rw [dvF_zero,hR]; exact O⟩
  intro n a w hI
  obtain ⟨j,hn,O⟩:=hI
  refine wp_seq<|zg [none,none,none] [] [.v 170 _] [.g 0,.g 1,.g 2,.g 3,.g 4,.g 5,.o 0] O (zv rfl (zb1 (gq 5 rfl) (gq 4 rfl)) o0) (zz [(6,_),(7,_),(37,_),(8,_),(168,_),(169,_),(170,_)] [⟨37,106,slH (x.length+1) (x.length+1),_⟩,⟨1,106,slH (k+2) (k+3),_⟩,⟨8,106,slH _ _,_⟩] fun a w O=>?_)
  refine zt<|za8 O (zm 6 rfl) (fun hb5=>?_) (fun hb5=>?_)
  ·have hj:j<k+2:=by simp at hb5; omega
   have hf0:(dvF (x.length+1) R s j)[0+j]?=some (R/4294967296^j%4294967296):=by rw [Nat.zero_add]; exact zz0 (Nat.le_refl _) zo
   refine wp_skip<|zt<|wp_block<|wp_seq<|zg [none,none,none] [] [.v 171 _,.v 18 _] [.g 0,.g 1,.g 2,.g 3,.g 4,.g 5,.o 1] O (zv rfl (za1 (gq 5 rfl)) (zv rfl (za2 (vq 0 rfl)) o0)) (zz [(6,_),(7,_),(37,_),(8,_),(168,_),(169,_),(18,_)] [⟨37,106,slH (x.length+1) (x.length+1),_⟩,⟨1,106,slH (k+2) (k+3),_⟩,⟨8,106,slH _ _,_⟩] fun a w O=>?_)
   refine zt<|zg [none,none,none] [] [.v 19 _] [.g 0,.g 1,.g 2,.g 3,.g 4,.g 5,.g 6,.o 0] O (zv rfl (za2 (zau 0 rfl)) o0) (zz [(6,_),(7,_),(37,_),(8,_),(168,_),(169,_),(18,_),(19,_)] [⟨37,106,slH (x.length+1) (x.length+1),_⟩,⟨1,106,slH (k+2) (k+3),_⟩,⟨8,106,slH _ _,_⟩] fun a w O=>?_)
   refine zt<|wp_seq<|zg [none,none,none] [] [.v 172 _,.v 173 _,.v 174 _,.v 175 _,.v 176 _] [.g 0,.g 1,.g 2,.g 3,.g 4,.g 5,.g 6,.g 7,.o 4] O (zv rfl (za1 (gq 6 rfl)) (zv rfl (zb5 (vq 0 rfl) za3 (zb3 zo)) (zv rfl (za1 (gq 1 rfl)) (zv rfl (zdu Tryz.underlying23 (vq 2 rfl)) (zv rfl (zb1 (vq 1 rfl) (vq 3 rfl)) o0))))) (zz [(6,_),(7,_),(37,_),(8,_),(168,_),(169,_),(18,_),(19,_),(176,_)] [⟨37,106,slH (x.length+1) (x.length+1),_⟩,⟨1,106,slH (k+2) (k+3),_⟩,⟨8,106,slH _ _,_⟩] fun a w O=>?_)
   refine za0<|zcn (fun a w =>  St B w0 200 [(6,(NumA .u64 (s:Nat)).va),(7,EqV ((slH (k+2) (x.length+1)).f g0)),(37,EqV ((slH (x.length+1) (x.length+1)).f g0)),(8,EqV ((slH (x.length+1-(k+2)) (x.length+1-(k+2))).f g2)),(168,In ((k+2):Nat)),(169,In (j:Nat)),(18,In (j:Nat)),(19,(NumA .u32 (R/4294967296^(j+1)%4294967296:Nat)).va)] [⟨37,106,slH (x.length+1) (x.length+1),Nums .u32 (dvF (x.length+1) R s j)⟩,⟨1,106,slH (k+2) (k+3),Nums .u32 (digs (k+3) DD)⟩,⟨8,106,slH (x.length+1-(k+2)) (x.length+1-(k+2)),Nums .u32 (dvQ (x.length+1-(k+2)) X DD 0)⟩] a w) O (zm 8 rfl) (fun hb6=>?_) (fun hb6=>?_) (fun a w O=>?_)
   ·have hj1:j+1<k+2:=by simp at hb6; omega
    have hf1:(dvF (x.length+1) R s j)[0+(j+1)]?=some (R/4294967296^(j+1)%4294967296):=by rw [Nat.zero_add]; exact zz0 zo zo
    refine zg [none,none,none] [] [.v 177 _,.v 178 _,.v 179 _,.v 180 _,.v 181 _,.v 19 _] [.g 0,.g 1,.g 2,.g 3,.g 4,.g 5,.g 6,.o 5] O (zv rfl (za1 (gq 1 rfl)) (zv rfl (za1 (gq 6 rfl)) (zv rfl (zb5 (vq 1 rfl) za3 (zb3 zo)) (zv rfl (zde zbc (vq 0 rfl) (vq 2 rfl) zo) (zv rfl (zcd (vq 3 rfl) (lz0 0 rfl) (gq 2 rfl) (nums_at' hf1) zb0) (zv rfl (za2 (vq 4 rfl)) o0)))))) (zz [(6,_),(7,_),(37,_),(8,_),(168,_),(169,_),(18,_),(19,_)] [⟨37,106,slH (x.length+1) (x.length+1),_⟩,⟨1,106,slH (k+2) (k+3),_⟩,⟨8,106,slH _ _,_⟩] fun a w O=>?_)
    refine za0 ?_
    have O:=St.sel O [0,1,2,3,4,5,6,7]
    exact O
   ·have hj1:j+1=k+2:=by simp at hb6; omega
    refine wp_skip<|za0 ?_
    have O:=St.sel O [0,1,2,3,4,5,6,7]
    rw [hj1,hR0]; exact O
   refine za0<|zg [some (15,_),none,none] [] [.v 182 _,.v 183 _,.v 184 _,.v 185 _,.v 186 _,.v 187 _,.v 188 _,.v 189 _,.v 190 _,.v 191 _,.v 192 _,.v 193 _,.v 194 _,.v 195 _,.v 196 _,.sto 0] [.g 0,.g 1,.g 2,.g 3,.g 4,.g 5] O (zv rfl (za1 (gq 1 rfl)) (zv rfl (za1 (gq 6 rfl)) (zv rfl (za1 (gq 7 rfl)) (zv rfl (zaw .u64 zk zk (vq 2 rfl) (wu64 bbl64)) (zv rfl (ztl (vq 3 rfl) (zau 32 rfl) zd (wshl32 bbl)) (zv rfl (za1 (gq 1 rfl)) (zv rfl (za1 (gq 6 rfl)) (zv rfl (zde zbc (vq 5 rfl) (vq 6 rfl) zo) (zv rfl (zcd (vq 7 rfl) (lz0 0 rfl) (gq 2 rfl) (nums_at' hf0) zb0) (zv rfl (zaw .u64 zk zk (vq 8 rfl) (wu64 bbl64)) (zv rfl (zto (vq 4 rfl) (vq 9 rfl) (or64 bbl bbl)) (zv rfl (za1 (gq 0 rfl)) (zv rfl (zj7 (vq 10 rfl) (vq 11 rfl) (⟨by omega,by show (s:Int)≤64; omega⟩) (nshr)) (zv rfl (zaw .u32 zk zk (vq 12 rfl) (wlow)) (zv rfl (zde zbc (vq 0 rfl) (vq 1 rfl) zo) (oc (zgz rfl rfl rfl (vq 14 rfl) (gq 2 rfl) (vq 13 rfl) zb0 (zc2 (by rw [dvF_len zo]; omega))) o0)))))))))))))))) (zz [(6,_),(7,_),(37,_),(8,_),(168,_),(169,_)] [⟨37,106,slH (x.length+1) (x.length+1),_⟩,⟨1,106,slH (k+2) (k+3),_⟩,⟨8,106,slH _ _,_⟩] fun a w O=>?_)
   refine zae ?_
   refine za0<|zg [none,none,none] [] [.v 197 _,.v 169 _] [.g 0,.g 1,.g 2,.g 3,.g 4,.o 1] O (zv rfl (zb5 (gq 5 rfl) za3 (zb3 zo)) (zv rfl (za1 (vq 0 rfl)) o0)) (zz [(6,_),(7,_),(37,_),(8,_),(168,_),(169,_)] [⟨37,106,slH (x.length+1) (x.length+1),_⟩,⟨1,106,slH (k+2) (k+3),_⟩,⟨8,106,slH _ _,_⟩] fun a w O=>?_)
   refine za0 ?_
   have O:=St.sel O [0,1,2,3,4,5]
   rw [Nat.zero_add,dvF_step hs32 zo] at O
   exact ⟨n-1,by omega,j+1,by omega,O⟩
  ·obtain rfl:j=k+2:=by simp at hb5; omega
   refine wp_exit<|za7<|za7<|zap<|zt<|zg [none,none,none] [] [.v 198 _,.v 199 _,.v 4 _,.v 5 _] [.g 1,.g 2,.g 3,.o 2,.o 3] O (zv rfl (za1 (gq 3 rfl)) (zv rfl (za1 (gq 1 rfl)) (zv rfl (za2 (vq 0 rfl)) (zv rfl (za2 (vq 1 rfl)) o0)))) (zz [(7,_),(37,_),(8,_),(4,_),(5,_)] [⟨37,106,slH (x.length+1) (x.length+1),_⟩,⟨1,106,slH (k+2) (k+3),_⟩,⟨8,106,slH _ _,_⟩] fun a w O=>?_)
   have O:=St.asN (t:=4) O (digs (x.length+1-(k+2)) (val x/val y)) [] 2 rfl (zm 2 rfl) (zm 3 rfl) (by rw [hend4,List.append_nil]) (zal _ _).symm (by unfold maxLen; omega) (zc7 _ _) (by simp only [List.length_append,List.length_nil,zal] <;> omega)
   have O:=St.asN (t:=5) O (digs (k+2) (val x%val y)) ((digs (x.length+1) R).drop (k+2)) 0 rfl (zm 2 rfl) (zm 5 rfl) (by rw [dvF_end,hend5]) (zal _ _).symm (by unfold maxLen; omega) (zc7 _ _) (by simp only [List.length_append,List.length_drop,zal] <;> omega)
   refine za0<|wp_ret<|scp_ret ?_
   exact zb6 (rs:=[.tmp 4,.tmp 5]) rfl O (.tmp (zm 1 rfl) (.tmp (zm 0 rfl) .nil)) zd
end Go.Proofs.YthdbhckhignfcaaGreatDoor
