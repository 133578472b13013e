import Derived.Test.YtlakjmncfooodaaGreatSsAq
set_option linter.all false
set_option maxRecDepth 100000
namespace Go.Proofs.YtlakjmncfooodaaGreat
open Go Go.RowKit
variable {w:World}{B:Nat}{a:Act}{v:Value}{T:TypeId}{w0:Bs}{Γ:List (Nat × VA)}{Λ:List Lc}{ps:String}{af:Array Edge}{vr:Value}{H:Hd}{cs:List Value}{w':World}{P:Program}{D:List TypeId}
theorem eW:Str Tryz.prog 56 [EqA (.string ⟨#[]⟩),cat [NumA .u8 0,RFA rf0,RFA rf0],NumA .i64 0] :=
 Str.of (z:=.agg #[.string ⟨#[]⟩,.int .u8 0,.bool false,.slice none 0 0,.bool false,.slice none 0 0,.bool false,.slice none 0 0,.bool false,.slice none 0 0,.int .i64 0]) zk Tryz.underlying56 zk λ B w=>⟨[[.string ⟨#[]⟩],[.int .u8 0,.bool false,.slice none 0 0,.bool false,.slice none 0 0,.bool false,.slice none 0 0,.bool false,.slice none 0 0],[.int .i64 0]],rfl,.cons ⟨rfl,rfl⟩ (.cons ⟨[[.int .u8 0],[.bool false,.slice none 0 0,.bool false,.slice none 0 0],[.bool false,.slice none 0 0,.bool false,.slice none 0 0]],rfl,.cons rfl (.cons (dk B w) (.cons (dk B w) .nil))⟩ (.cons rfl .nil))⟩
theorem hd_b {t:RTk}(h:hdF t=false):2≤t.sp.length∧t.sp.length≤13∧1≤t.ps.length∧t.ps.length≤64∧okX t.tg=true:=by
 unfold hdF at h
 simp only [qI,qw] at h
 refine ⟨by omega,by omega,by omega,by omega,?_⟩
 by_cases h1:okX t.tg=true
 ·exact h1
 ·have:=h.2
  rw [qj h1] at this
  exact absurd this zd
theorem ck_sp {t:RTk}(h1:hdF t=false)(h2:t.sp.all spF=false):ckF t=1:=by rw [ckF,qj (by rw [h1]; decide),ql (by rw [h2]; rfl)]
theorem ck_ps {t:RTk}(h1:hdF t=false)(h2:t.sp.all spF=true)(h3:t.ps.all ptF=false):ckF t=1:=by rw [ckF,qj (by rw [h1]; decide),qj (by rw [h2]; decide),ql (by rw [h3]; rfl)]
theorem ck_du {t:RTk}(h1:hdF t=false)(h2:t.sp.all spF=true)(h3:t.ps.all ptF=true)(h4:dupB (t.ps.map RPt.nm)=true):ckF t=10:=by rw [ckF,qj (by rw [h1]; decide),qj (by rw [h2]; decide),qj (by rw [h3]; decide),ql h4]
theorem ck_wa {t:RTk}(h1:hdF t=false)(h2:t.sp.all spF=true)(h3:t.ps.all ptF=true)(h4:dupB (t.ps.map RPt.nm)=false):ckF t=if wayB t.ps.length (t.sp.length-1) then 4 else 0:=by rw [ckF,qj (by rw [h1]; decide),qj (by rw [h2]; decide),qj (by rw [h3]; decide),qj (by rw [h4]; decide)]
theorem slo_e {t:RTk}(h1:2≤t.sp.length)(h2:t.sp.length≤13):sloF t=((t.sp.length-1:Nat):Int):=by
 unfold sloF
 rw [wi64 zo zo]
 omega
theorem way_le {p:Nat}:∀ {j:Nat},wayB p j=false→p^j≤65536
 | 0,_=>by rw [je]; decide
 | j+1,h=>by
  rw [wayB,qI,qw] at h
  omega
theorem way_mul {p j:Nat}(h:wayB p j=false)(hp:p≤64):IntKind.i64.wrap (((p^j:Nat):Int)*((p:Nat):Int))=((p^(j+1):Nat):Int):=by
 have h1:=way_le h
 have h2:p^j*p≤65536*64:=xk h1 hp
 rw [← xg,wi64 zo zo,qR]
theorem way_mono {p:Nat}:∀ {n j:Nat},j≤n→wayB p j=true→wayB p n=true
 | 0,j,h,hw=>by
  obtain rfl:j=0:=by omega
  exact hw
 | n+1,j,h,hw=>by
  by_cases e:j=n+1
  ·rw [← e]; exact hw
  ·rw [wayB,way_mono (n:=n) zo hw]; rfl
theorem dec_n {m:Nat}:decide (((m:Nat):Int)>65536)=decide (m>65536):=by
 rw [qJ]; omega
theorem cY {ops:Array Oper}{Q:Exit→Act→World→Prop}(h:Q .normal a w):wpOps P ops Q [] a w:=h
theorem wpOps_sH {ops:Array Oper}{Q:Exit→Act→World→Prop}(h:Q .normal a w):wpOps P ops Q [] (a.put none undef) w:=h
set_option maxHeartbeats 2000000 in
theorem gG (t:RTk):Cn Tryz.prog 22 [(TkA t).va] (In (ckF t)):=by
 refine Cn.introW Tryz.func22 G zk nq (.cons (upA_tk t).va .nil) (dD _ _).va (λ B w0 a hB0 U=>?_)
 have U:=zn [(0,(TkO t).va)] [] U
 refine qa<|zg [] [⟨1,30,ptrH,some 0,_,none⟩] [.alc 0,.v 2 _] [.o 1] U (zW 0 G (zv G (a6 a5) o0)) (zz [(2,_)] [O 1 30 _] λ a w U=>?_)
 refine zt<|qa<|gl (sts:=[none]) (news:=[]) (sp:=((.adr 9 1 (.some 0) True:Sp)::(.v 10 _)::(.v 11 _)::(.v 12 _)::(.v 13 _)::(.adr 14 1 (.some 0) (_=false))::(.f 15 _)::(.f 16 _)::(.f 17 _)::(.v 18 _)::(.v 19 _)::(.adr 20 1 (.some 1) (_=false))::(.f 21 _)::(.f 22 _)::(.f 23 _)::(.v 24 _)::(.v 25 _)::(.adr 26 1 (.some 1) (_=false))::(.f 27 _)::(.f 28 _)::(.f 29 _)::(.v 30 _)::(.v 31 _)::(.adr 32 1 (.some 2) (_=false))::(.f 33 _)::(.f 34 _)::(.f 35 _)::(.v 36 _)::[])) [.g 0,.o 27] U (zO 0 G cw (zL 0 0 0 G gy (zv G (bn Tryz.underlying22 (aV (ao (vq 1 G)))) (zv G (aX (vq 2 G) a5) (zv G (a8 (vq 3 G)) (zC 4 0 G cw (zB 4 G (λ hg=>ax 5 G zk hg (lz0 0 G) (Sub.part 0 G G) gy) (zB 4 G (λ hg=>bn Tryz.underlying22 (aV (ao (aa (vq 6 G) hg)))) (zB 4 G (λ hg=>cD (aa (vq 7 G) hg) a5) (zv G (r_or (vq 4 G) (vq 8 G)) (zv G (a8 (vq 9 G)) (zC 10 0 G cd (zB 10 G (λ hg=>ax 11 G zk hg (lz0 0 G) (Sub.part 1 G G) fU) (zB 10 G (λ hg=>bn Tryz.underlying23 (aV (ao (aa (vq 12 G) hg)))) (zB 10 G (λ hg=>aX (aa (vq 13 G) hg) a5) (zv G (r_or (vq 10 G) (vq 14 G)) (zv G (a8 (vq 15 G)) (zC 16 0 G cd (zB 16 G (λ hg=>ax 17 G zk hg (lz0 0 G) (Sub.part 1 G G) fU) (zB 16 G (λ hg=>bn Tryz.underlying23 (aV (ao (aa (vq 18 G) hg)))) (zB 16 G (λ hg=>cD (aa (vq 19 G) hg) a5) (zv G (r_or (vq 16 G) (vq 20 G)) (zv G (a8 (vq 21 G)) (zC 22 0 G hU (zB 22 G (λ hg=>ax 23 G zk hg (lz0 0 G) (Sub.part 2 G G) ac) (zB 22 G (λ hg=>aW (check_x _) (.o (aa (vq 24 G) hg))) (zB 22 G (λ hg=>bz (aa (vq 25 G) hg) a5) (zv G (r_or (vq 22 G) (vq 26 G)) o0)))))))))))))))))))))))))))) (zz [(2,_),(36,_)] [O 1 30 _] λ a w U=>?_)
 refine a4<|a9 U (zm 1 G) (λ hb0=>?_) (λ hb0=>?_)
 ·have hd:hdF t=true:=by simp only [qc] at hb0; exact hb0
  refine qa<|zg [η] [] [.v 2 _] [.o 0] U (zv G (a6 a5) o0) (zz [(2,_)] [O 1 30 _] λ a w U=>?_)
  refine a4<|qe<|ab ?_
  refine aj ?_ (ai G U (zm 0 G))
  rw [ckF,ql hd]; exact ay
 ·have hd:hdF t=false:=by simp only [qc] at hb0; exact hb0
  obtain ⟨hs2,hs13,hp1,hp64,htg⟩:=hd_b hd
  refine qk<|zt<|qa<|zg [η] [] [.adr 37 1 (.some 0) True,.v 38 _,.v 39 _,.v 40 _] [.g 0,.o 1,.o 2,.o 3] U (zO 0 G cw (zL 0 0 0 G gy (zv G (bn Tryz.underlying22 (aV (ao (vq 1 G)))) (zv G (a8 a5) o0)))) (zz [(2,_),(38,_),(39,_),(40,_)] [O 1 30 _] λ a w U=>?_)
  refine a4<|qq ?_
  have U:=St.sel U [1,2,3]
  refine wp_loop_ghost (λ n a w=>∃ j:Nat,(n+j=t.sp.length∧(t.sp.take j).all spF=true)∧St B w0 106 [(38,(SlO 28 [U32] (t.sp.map RFA) True).va),(39,In (t.sp.length:Nat)),(40,In (j:Nat))] [⟨1,30,ptrH,TkO t⟩] a w) (t.sp.length) ?_ ?_
  ·exact ⟨0,⟨by omega,rfl⟩,by rw [qc] at U; exact U⟩
  intro n a w hI
  obtain ⟨j,⟨hn,hno⟩,U⟩:=hI
  refine qa<|zg [η] [] [.v 41 _] [.g 0,.g 1,.g 2,.o 0] U (zv G (aX (gq 2 G) (gq 1 G)) o0) (zz [(38,_),(39,_),(40,_),(41,_)] [O 1 30 _] λ a w U=>?_)
  refine zt<|a9 U (zm 3 G) (λ hb1=>?_) (λ hb1=>?_)
  ·have hj:j<t.sp.length:=by have:=qo hb1; omega
   refine qk<|zt<|qq<|qa<|zg [η] [⟨4,28,ptrH,some 2,_,some (3,_)⟩] [.v 42 _,.v 43 _,.alc 1,.sto 1] [.g 0,.g 1,.g 2] U (zv G (cn dM (cE λ _=>rfl) (aV (ao (gq 0 G))) (gq 2 G) (bI hj)) (zv G (am (vq 0 G) ac) (zY G (Str.zero aA) (zS 1 G ac o0)))) (zz [(38,_),(39,_),(40,_)] [O 1 30 _,O 4 28 _] λ a w U=>?_)
   refine zt<|zg [η,η] [] [.v 44 _,.v 45 _,.v 46 _,.v 47 _,.f 48 _,.f 49 _,.f 50 _,.v 51 _] [.g 0,.g 1,.g 2,.o 7] U (zl 1 G ac (zQ G (check_x _) (.o (vq 0 G)) (zv G (bz (vq 1 G) a5) (zv G (a8 (vq 2 G)) (zB 3 G (λ hg=>dh (lz0 1 G) ac) (zB 3 G (λ hg=>aW (sgn_s hg) (.o (aa (vq 4 G) hg))) (zB 3 G (λ hg=>aX (aa (vq 5 G) hg) a5) (zv G (r_or (vq 3 G) (vq 6 G)) o0)))))))) (zz [(38,_),(39,_),(40,_),(51,_)] [O 1 30 _,O 4 28 _] λ a w U=>?_)
   refine a4<|a9 U (zm 3 G) (λ hb2=>?_) (λ hb2=>?_)
   ·refine qa<|zg [η,η] [] [.v 2 _] [.g 0,.g 1,.g 2,.o 0] U (zv G (a6 a5) o0) (zz [(38,_),(39,_),(40,_),(2,_)] [O 1 30 _,O 4 28 _] λ a w U=>?_)
    refine a4<|qe<|aD ?_
    refine ab ?_
    refine ab ?_
    refine aD ?_
    refine ab ?_
    refine aj ?_ (ai G U (zm 3 G))
    rw [ck_sp hd (all_so hj (by unfold spF; rw [hb2]; rfl))]; exact ay
   ·refine qk<|al ?_
    refine a4<|zg [η,η] [] [.v 52 _,.v 40 _] [.g 0,.g 1,.o 1] U (zv G (aJ (gq 2 G) a5 ((wi64 zo zo).trans (by omega:(_:Int)=((j+1:Nat):Int)))) (zv G (a8 (vq 0 G)) o0)) (zz [(38,_),(39,_),(40,_)] [O 1 30 _,O 4 28 _] λ a w U=>?_)
    refine a4 ?_
    have U:=St.sel U [0,1,2]
    have U:=St.selL U [0]
    exact ⟨n-1,by omega,j+1,⟨by omega,all_nx hj hno (by unfold spF; rw [hb2]; rfl)⟩,U⟩
  ·obtain rfl:j=t.sp.length:=by have:=qx hb1; omega
   rw [qO] at hno
   have hsp:=hno
   refine za<|ak<|ak<|aC<|zt<|kz (n:=3) G ?_
   rw [show List.range' 0 3=[0,1,2] from rfl,qX]
   refine op_mkMap (KT:=9) (E:=3) G U zd zk zk (λ a w b U hM hgb=>?_)
   rw [qX]
   refine op_asgS 0 G U G zd zk zk (λ a U=>?_)
   rw [qX]
   refine op_cnS G U zd zk zk (λ a U=>?_)
   refine cY ?_
   have U:=zn [(6,_),(5,_),(53,_),(38,_),(39,_),(40,_),(41,_)] [O 1 30 _] U
   obtain ⟨w1,U,hback⟩:=St.frameM U
   refine zt<|qa<|zg [η] [] [.adr 54 1 (.some 1) True,.v 55 _,.v 56 _,.v 57 _] [.g 0,.g 1,.o 1,.o 2,.o 3] U (zO 0 G cd (zL 0 0 1 G fU (zv G (bn Tryz.underlying23 (aV (ao (vq 1 G)))) (zv G (a8 a5) o0)))) (λ a w U=>?_)
   have U:St B w1 106 [(6,_),(5,_),(55,_),(56,_),(57,_)] [O 1 30 _] a w:=U
   obtain ⟨U,hob⟩:=hback U
   have hM:=hM.kept2 hob
   refine a4<|qq ?_
   have U:=St.sel U [1,0,2,3,4]
   refine wp_loop_ghost (λ n a w=>∃ j:Nat,(n+j=t.ps.length∧(t.ps.take j).all ptF=true∧MpI Tryz.prog 9 3 w b ((t.ps.take j).map RPt.nm))∧St B w0 106 [(5,EqV (.map (some b))),(6,In 1),(55,(SlO 56 [U32] (t.ps.map PtA) True).va),(56,In (t.ps.length:Nat)),(57,In (j:Nat))] [⟨1,30,ptrH,TkO t⟩] a w) (t.ps.length) ?_ ?_
   ·exact ⟨0,⟨by omega,rfl,hM⟩,by rw [qc] at U; exact U⟩
   intro n a w hI
   obtain ⟨j,⟨hn,hno,hM⟩,U⟩:=hI
   obtain ⟨w1,U,hback⟩:=St.frameM U
   refine qa<|zg [η] [] [.v 58 _] [.g 0,.g 1,.g 2,.g 3,.g 4,.o 0] U (zv G (aX (gq 4 G) (gq 3 G)) o0) (λ a w U=>?_)
   have U:St B w1 106 [(5,_),(6,_),(55,_),(56,_),(57,_),(58,_)] [O 1 30 _] a w:=U
   refine zt<|a9 U (zm 5 G) (λ hb3=>?_) (λ hb3=>?_)
   ·have hj:j<t.ps.length:=by have:=qo hb3; omega
    refine qk<|zt<|qq<|qa<|zg [η] [⟨8,56,ptrH,some 2,_,some (3,_)⟩] [.v 59 _,.v 60 _,.alc 1,.sto 1] [.g 0,.g 1,.g 2,.g 3,.g 4] U (zv G (cn sl_23 (cE λ _=>rfl) (aV (ao (gq 2 G))) (gq 4 G) (bI hj)) (zv G (am (vq 0 G) ty_56) (zY G (Str.zero eW) (zS 1 G ty_56 o0)))) (λ a w U=>?_)
    have U:St B w1 106 [(5,_),(6,_),(55,_),(56,_),(57,_)] [O 1 30 _,O 8 56 _] a w:=U
    refine zt<|qa<|zg [η,η] [] [.adr 61 8 (.some 0) True,.v 62 _,.v 63 _,.v 64 _,.v 65 _,.adr 66 8 (.some 1) (_=false),.f 67 _,.f 68 _,.f 69 _,.f 70 _,.v 71 _,.v 72 _,.adr 73 8 (.some 10) (_=false),.f 74 _,.f 75 _,.v 76 _,.v 77 _,.adr 78 8 (.some 10) (_=false),.f 79 _,.f 80 _,.v 81 _] [.g 0,.g 1,.g 2,.g 3,.g 4,.o 20] U (zO 1 G hC (zL 0 1 0 G ty_9 (zQ G (named_a _) (.o (vq 1 G)) (zv G (fu (vq 2 G)) (zv G (a8 (vq 3 G)) (zC 4 1 G f9 (zB 4 G (λ hg=>ax 5 G zk hg (lz0 1 G) (Sub.part 1 G G) eA) (zB 4 G (λ hg=>bB (D:=[U32]) (l:=[_]) (xs:=[.tmp 67]) (cU zk) sl_75 zk (n_ok zk) nq nq nq (.o (aa (vq 6 G) hg)) G G) (zB 4 G (λ hg=>aW (gp [_]) (.o (aa (vq 7 G) hg))) (zB 4 G (λ hg=>bz (aa (vq 8 G) hg) a5) (zv G (r_or (vq 4 G) (vq 9 G)) (zv G (a8 (vq 10 G)) (zC 11 1 G gZ (zB 11 G (λ hg=>ax 12 G zk hg (lz0 1 G) (Sub.part 2 G G) ty_3) (zB 11 G (λ hg=>aX (aa (vq 13 G) hg) a5) (zv G (r_or (vq 11 G) (vq 14 G)) (zv G (a8 (vq 15 G)) (zC 16 1 G gZ (zB 16 G (λ hg=>ax 17 G zk hg (lz0 1 G) (Sub.part 2 G G) ty_3) (zB 16 G (λ hg=>cD (aa (vq 18 G) hg) a5) (zv G (r_or (vq 16 G) (vq 19 G)) o0))))))))))))))))))))) (λ a w U=>?_)
    have U:St B w1 106 [(5,_),(6,_),(55,_),(56,_),(57,_),(81,_)] [O 1 30 _,O 8 56 _] a w:=U
    refine a4<|a9 U (zm 5 G) (λ hb4=>?_) (λ hb4=>?_)
    ·have hpt:ptF t.ps[j]=false:=by unfold ptF; rw [hb4]; rfl
     refine qa<|zg [η,η] [] [.v 2 _] [.g 0,.g 1,.g 2,.g 3,.g 4,.o 0] U (zv G (a6 a5) o0) (λ a w U=>?_)
     have U:St B w1 106 [(5,_),(6,_),(55,_),(56,_),(57,_),(2,_)] [O 1 30 _,O 8 56 _] a w:=U
     refine a4<|qe<|ab ?_
     refine aD ?_
     refine ab ?_
     refine ab ?_
     refine aD ?_
     refine ab ?_
     obtain ⟨U,_⟩:=hback U
     refine aj ?_ (ai G U (zm 5 G))
     rw [ck_ps hd hsp (all_so hj hpt)]; exact ay
    ·have hpt:ptF t.ps[j]=true:=by unfold ptF; rw [hb4]; rfl
     refine qk<|a4<|gU (sp:=[.v 82 _,.adr 83 8 (.some 0) True,.v 84 _,.v 85 VT,.v 86 VT,.skp]) 3 3 99 3 OneC [.g 0,.g 1,.g 2,.g 3,.g 4,.o 0,.o 2] U (zM 0 G (zO 1 G hC (zL 1 1 0 G ty_9 o0))) G zd zk zk (λ a w U=>?_)
     have U:St B w1 106 [(5,_),(6,_),(55,_),(56,_),(57,_),(82,_),(84,_)] [O 1 30 _,O 8 56 _] a w:=U
     rw [show List.range' 3 3=[3,4,5] from rfl]
     obtain ⟨U,hob⟩:=hback U
     have hM:=hM.kept2 hob
     have U:=St.wkG U 6 rfl eqa_v
     rw [qX]
     refine op_count (KT:=9) (E:=3) 5 6 U hM hgb zk Tryz.underlying93 zk (λ w=>rfl) (by rw [qc,zU]; omega) (by have:=nm_ok hpt; omega) G G G zd zk zk (λ c a U hup=>?_)
     rw [qX]
     refine op_adc 0 G U G zd zk zk (λ a U=>?_)
     rw [qX]
     refine op_mupd 7 8 0 U hM hgb hup G G G G (λ w U hM=>?_)
     refine wpOps_sH ?_
     have U:St B w0 106 [(86,_),(85,_),(5,_),(6,_),(55,_),(56,_),(57,_),(82,_),(84,_)] [O 1 30 _,O 8 56 _] _ w:=U
     have hM:MpI Tryz.prog 9 3 w b ((t.ps.take (j+1)).map RPt.nm):=by rw [qu hj,zx]; exact hM
     obtain ⟨w1,U,hback⟩:=St.frameM U
     refine al ?_
     refine a4<|zg [η,η] [] [.v 87 _,.v 57 _] [.g 2,.g 3,.g 4,.g 5,.o 1] U (zv G (aJ (gq 6 G) a5 ((wi64 zo zo).trans (by omega:(_:Int)=((j+1:Nat):Int)))) (zv G (a8 (vq 0 G)) o0)) (λ a w U=>?_)
     have U:St B w1 106 [(5,_),(6,_),(55,_),(56,_),(57,_)] [O 1 30 _,O 8 56 _] a w:=U
     obtain ⟨U,hob⟩:=hback U
     have hM:=hM.kept2 hob
     refine a4 ?_
     have U:=St.sel U [0,1,2,3,4]
     have U:=St.selL U [0]
     exact ⟨n-1,by omega,j+1,⟨by omega,all_nx hj hno hpt,hM⟩,U⟩
   ·obtain rfl:j=t.ps.length:=by have:=qx hb3; omega
    obtain ⟨U,hob⟩:=hback U
    have hM:=hM.kept2 hob
    rw [qO] at hno hM
    have hps:=hno
    refine za<|ak<|ak<|aC<|zt<|qa<|kz (n:=6) G ?_
    rw [show List.range' 0 6=0::1::List.range' 2 4 from rfl,qX]
    refine op_mvS 0 G U G zd zk zk (λ a U=>?_)
    rw [qX]
    refine op_mlen 0 G U hM Tryz.underlying93 G zd zk zk (λ nm a hnm U=>?_)
    have U:=St.sel U [1,0,2,3,4,5,6,7]
    refine go_restK (sp:=[.v 88 (EqV (.map (some b))),.v 89 (In (nm:Nat)),.adr 90 1 (.some 1) True,.v 91 _,.v 92 _,.v 93 _]) [(88,(EqV (.map (some b)))),(89,(In (nm:Nat)))] 4 [.g 1,.o 5] U G zk (zO 0 G cd (zL 2 0 1 G fU (zv G (bn Tryz.underlying23 (aV (ao (vq 3 G)))) (zv G (aX (vq 1 G) (vq 4 G)) o0)))) zk zk (zz [(6,_),(93,_)] [O 1 30 _] λ a w U=>?_)
    refine a4<|a9 U (zm 1 G) (λ hb5=>?_) (λ hb5=>?_)
    ·have hdu:dupB (t.ps.map RPt.nm)=true:=by rw [← hnm]; simp only [qc] at hb5 ⊢; exact hb5
     refine qa<|zg [η] [] [.v 2 _] [.g 0,.o 0] U (zv G (a6 a5) o0) (zz [(6,_),(2,_)] [O 1 30 _] λ a w U=>?_)
     refine a4<|qe<|ab ?_
     refine aj ?_ (ai G U (zm 1 G))
     rw [ck_du hd hsp hps hdu]; exact ay
    ·have hdu:dupB (t.ps.map RPt.nm)=false:=by rw [← hnm]; simp only [qc] at hb5 ⊢; exact hb5
     refine qk<|zt<|qa<|zg [η] [] [.v 94 _,.v 95 _,.v 96 _] [.g 0,.o 1,.o 2] U (zl 0 G cS (zQ G ((gF t).wk (.cons tko_A.va .nil)) (.o (vq 0 G)) (zv G (a8 a5) o0))) (zz [(6,_),(95,_),(96,_)] [O 1 30 _] λ a w U=>?_)
     refine a4<|qq ?_
     have U:=St.sel U [0,1,2]
     refine wp_loop_ghost (λ n a w=>∃ j:Nat,(n+j=t.sp.length-1∧wayB t.ps.length j=false)∧St B w0 106 [(6,In ((t.ps.length^j:Nat):Int)),(95,In ((t.sp.length-1:Nat):Int)),(96,In (j:Nat))] [⟨1,30,ptrH,TkO t⟩] a w) (t.sp.length-1) ?_ ?_
     ·have e:=slo_e hs2 hs13
      rw [e] at U
      exact ⟨0,⟨by omega,rfl⟩,U⟩
     intro n a w hI
     obtain ⟨j,⟨hn,hno⟩,U⟩:=hI
     refine qa<|zg [η] [] [.v 97 _] [.g 0,.g 1,.g 2,.o 0] U (zv G (aX (gq 2 G) (gq 1 G)) o0) (zz [(6,_),(95,_),(96,_),(97,_)] [O 1 30 _] λ a w U=>?_)
     refine zt<|a9 U (zm 3 G) (λ hb6=>?_) (λ hb6=>?_)
     ·have hj:j<t.sp.length-1:=by have:=qo hb6; omega
      refine qk<|zt<|qq<|qa<|zg [η] [] [.v 98 _,.adr 99 1 (.some 1) True,.v 100 _,.v 101 _,.v 102 _,.v 6 _] [.g 1,.g 2,.o 5] U (zM 0 G (zO 0 G cd (zL 1 0 1 G fU (zv G (bn Tryz.underlying23 (aV (ao (vq 2 G)))) (zv G (r_mul (vq 0 G) (vq 3 G) (((qt (λ z:Nat=>IntKind.i64.wrap (((t.ps.length^j:Nat):Int)*(z:Int))) (qc PtA)).trans (way_mul hno hp64)))) (zA 4 G o0)))))) (zz [(95,_),(96,_),(6,_)] [O 1 30 _] λ a w U=>?_)
      refine zt<|zg [η] [] [.v 103 _,.v 104 _] [.g 0,.g 1,.g 2,.o 1] U (zM 2 G (zv G (cD (vq 0 G) a5) o0)) (zz [(95,_),(96,_),(6,_),(104,_)] [O 1 30 _] λ a w U=>?_)
      refine a4<|a9 U (zm 3 G) (λ hb7=>?_) (λ hb7=>?_)
      ·have hw:wayB t.ps.length (t.sp.length-1)=true:=way_mono (j:=j+1) zo (by rw [wayB,hno,xb,← dec_n]; exact hb7)
       refine qa<|zg [η] [] [.v 2 _] [.g 0,.g 1,.g 2,.o 0] U (zv G (a6 a5) o0) (zz [(95,_),(96,_),(6,_),(2,_)] [O 1 30 _] λ a w U=>?_)
       refine a4<|qe<|aD ?_
       refine ab ?_
       refine ab ?_
       refine aD ?_
       refine ab ?_
       refine aj ?_ (ai G U (zm 3 G))
       rw [ck_wa hd hsp hps hdu,ql hw]; exact ay
      ·have hw:decide (t.ps.length^(j+1)>65536)=false:=by rw [← dec_n]; exact hb7
       refine qk<|al ?_
       refine a4<|zg [η] [] [.v 105 _,.v 96 _] [.g 0,.g 2,.o 1] U (zv G (aJ (gq 1 G) a5 ((wi64 zo zo).trans (by omega:(_:Int)=((j+1:Nat):Int)))) (zv G (a8 (vq 0 G)) o0)) (zz [(95,_),(6,_),(96,_)] [O 1 30 _] λ a w U=>?_)
       refine a4 ?_
       have U:=St.sel U [1,0,2]
       exact ⟨n-1,by omega,j+1,⟨by omega,by rw [wayB,hno,xb]; exact hw⟩,U⟩
     ·obtain rfl:j=t.sp.length-1:=by have:=qx hb6; omega
      refine za<|ak<|ak<|aC<|zt<|zg [η] [] [.v 2 _] [.o 0] U (zv G (a6 a5) o0) (zz [(2,_)] [O 1 30 _] λ a w U=>?_)
      refine a4<|qe<|aj ?_ (ai G U (zm 0 G))
      rw [ck_wa hd hsp hps hdu,qj (by rw [hno]; decide)]; exact ay
def cntW (p a:Nat):Nat→Nat→Nat
 | 0,_=>1
 | f+1,i=>if i<a then cntW p a f (i+1) else p*cntW p a f (i+1)
def exW (p:Nat)(ah:List Nat):Nat→Nat→Nat→List Nat
 | 0,_,_=>[]
 | f+1,i,r=>if i<ah.length then ah.getD i 0::exW p ah f (i+1) r else (r/cntW p ah.length f (i+1))::exW p ah f (i+1) (r%cntW p ah.length f (i+1))
theorem cx {p a:Nat}(hp:0<p):∀ f i,0<cntW p a f i
 | 0,_=>jl
 | f+1,i=>by
  unfold cntW
  split
  ·exact cx hp f (i+1)
  ·exact xv hp (cx hp f (i+1))
theorem eL (p:Nat)(ah:List Nat):∀ f i r,(exW p ah f i r).length=f
 | 0,_,_=>rfl
 | f+1,i,r=>by
  unfold exW
  split <;> rw [zV,eL]
theorem exW_lt {p:Nat}{ah:List Nat}(hp:0<p)(hah:∀ x∈ah,x<p):∀ f i r,r<cntW p ah.length f i→∀ x∈exW p ah f i r,x<p
 | 0,_,_,_,x,hx=>by cases hx
 | f+1,i,r,hr,x,hx=>by
  unfold exW at hx
  unfold cntW at hr
  by_cases h:i<ah.length
  ·rw [ql h] at hx hr
   rcases qn.1 hx with rfl | hx
   ·rw [List.getD,List.getElem?_eq_getElem h]
    exact hah _ (qi h)
   ·exact exW_lt hp hah f (i+1) r hr x hx
  ·rw [qj h] at hx hr
   rcases qn.1 hx with rfl | hx
   ·exact q8 (by rw [qH]; exact hr)
   ·exact exW_lt hp hah f (i+1) _ (qL _ (cx hp f (i+1))) x hx
theorem exW_at {p:Nat}{ah:List Nat}{f i q r:Nat}(h:¬ i<ah.length)(hr:r<cntW p ah.length f (i+1)):exW p ah (f+1) i (q*cntW p ah.length f (i+1)+r)=q::exW p ah f (i+1) r:=by
 have hc:0<cntW p ah.length f (i+1):=by omega
 rw [exW,qj h]
 have e1:(q*cntW p ah.length f (i+1)+r)/cntW p ah.length f (i+1)=q:=by
  rw [qH,ke hc,z8 hr,xO]
 have e2:(q*cntW p ah.length f (i+1)+r)%cntW p ah.length f (i+1)=r:=by
  rw [qH,kc,qT hr]
 rw [e1,e2]
theorem exW_ah {p:Nat}{ah:List Nat}{f i r:Nat}(h:i<ah.length):exW p ah (f+1) i r=ah[i]::exW p ah f (i+1) r:=by
 rw [exW,ql h,List.getD,List.getElem?_eq_getElem h]; rfl
theorem dW {p a f i:Nat}(h:i<a):cntW p a (f+1) i=cntW p a f (i+1):=by rw [cntW,ql h]
theorem fN {p a f i:Nat}(h:¬ i<a):cntW p a (f+1) i=p*cntW p a f (i+1):=by rw [cntW,qj h]
theorem cntW_le {p a:Nat}(hp:0<p):∀ f i,cntW p a f i≤p^f
 | 0,_=>by rw [je]; exact qf _
 | f+1,i=>by
  have h:=cntW_le (a:=a) hp f (i+1)
  unfold cntW
  rw [qR]
  split
  ·exact qg h (Nat.le_mul_of_pos_right _ hp)
  ·rw [qH]; exact qP _ h
theorem iQ {p:Nat}:∀ f i a,i+f≤a→cntW p a f i=1
 | 0,_,_,_=>rfl
 | f+1,i,a,h=>by rw [dW zo,iQ f (i+1) a zo]
def benP (t:RTk)(l:List Nat):List RE:=(List.range l.length).flatMap λ i=>[spE (t.sp.getD i rf0),(t.ps.getD (l.getD i 0) ⟨⟨#[]⟩,⟨0,rf0,rf0⟩,0⟩).e]
def benW (t:RTk)(l:List Nat):List RE:=benP t l++[spE (t.sp.getD l.length rf0)]
def cosW (t:RTk)(l:List Nat):Int:=(l.map λ k=>(t.ps.getD k ⟨⟨#[]⟩,⟨0,rf0,rf0⟩,0⟩).c).sum
def powW (t:RTk)(l:List Nat):Rat := -(prodQ (benW t l)).c
def awaW (t:RTk)(l:List Nat):Rat:=if (powW t l-toQ t.tg).num.sign<0 then -(powW t l-toQ t.tg) else powW t l-toQ t.tg
def wayW (t:RTk)(l:List Nat):WyQ:=⟨l.map λ (k:Nat)=>(k:Int),powW t l,awaW t l,cosW t l⟩
theorem iU (t:RTk)(l:List Nat)(k:Nat):benP t (l++[k])=benP t l++[spE (t.sp.getD l.length rf0),(t.ps.getD k ⟨⟨#[]⟩,⟨0,rf0,rf0⟩,0⟩).e]:=by
 unfold benP
 rw [qy,zE,List.range_succ,List.flatMap_append]
 have h1:∀ i∈List.range l.length,(λ i=>[spE (t.sp.getD i rf0),(t.ps.getD ((l++[k]).getD i 0) ⟨⟨#[]⟩,⟨0,rf0,rf0⟩,0⟩).e]) i=(λ i=>[spE (t.sp.getD i rf0),(t.ps.getD (l.getD i 0) ⟨⟨#[]⟩,⟨0,rf0,rf0⟩,0⟩).e]) i:=λ i hi=>by
  have hi':i<l.length:=xY.1 hi
  simp [List.getD,List.getElem?_append_left hi']
 rw [j8,x5 h1,← j8]
 simp [List.getD]
theorem gc (xs:List RE)(x:RE):prodQ (xs++[x])=mulQ (elM x) (prodQ xs):=by
 unfold prodQ
 rw [j1]; rfl
theorem prodP_snoc (t:RTk)(l:List Nat)(k:Nat):prodQ (benP t (l++[k]))=mulQ (elM (t.ps.getD k ⟨⟨#[]⟩,⟨0,rf0,rf0⟩,0⟩).e) (prodQ (benW t l)):=by
 rw [iU,show benP t l++[spE (t.sp.getD l.length rf0),(t.ps.getD k ⟨⟨#[]⟩,⟨0,rf0,rf0⟩,0⟩).e]=(benW t l)++[(t.ps.getD k ⟨⟨#[]⟩,⟨0,rf0,rf0⟩,0⟩).e] from by unfold benW; simp,gc]
theorem cos_snoc (t:RTk)(l:List Nat)(k:Nat):cosW t (l++[k])=cosW t l+(t.ps.getD k ⟨⟨#[]⟩,⟨0,rf0,rf0⟩,0⟩).c:=by
 unfold cosW
 rw [zx,ki]; simp
theorem as_any {m:MQ}(h:[m.a,m.b,m.c,m.d].any longQ=true):asM 0 m=(rm0,4):=by rw [asM,ql rfl,ql h]
theorem as_none {m:MQ}(h:[m.a,m.b,m.c,m.d].any longQ=false):asM 0 m=(rmOf m,0):=by rw [asM,ql rfl,qj (by rw [h]; decide)]
theorem toldM_q {c:Nat}(m:MQ):Cn Tryz.prog 68 [(QMA c m).va,(SlA 28 [U32] [QA c m.a,QA c m.b,QA c m.c,QA c m.d]).va] (MR (asM 0 m)):=by
 refine Cn.intro Tryz.func68 G zk nq (λ B w0 a U=>?_)
 have U:=zn [(0,(QMA c m).va),(1,(SlA 28 [U32] [QA c m.a,QA c m.b,QA c m.c,QA c m.d]).va)] [] U
 refine qa<|zg [] [⟨2,79,ptrH,some 0,_,none⟩,⟨4,79,ptrH,some 1,_,none⟩] [.alc 0,.alc 1,.v 5 _] [.g 1,.o 2] U (zW 0 G (zY G (Str.zero aF) (zv G (a6 a5) o0))) (zz [(1,_),(5,_)] [O 2 79 _,O 4 79 _] λ a w U=>?_)
 refine zt<|qa<|zg [η,η] [] [.v 6 _,.v 7 _] [.g 1,.o 1] U (zM 0 G (zQ G (long_q [m.a,m.b,m.c,m.d] (.cons ⟨_,rfl⟩ (.cons ⟨_,rfl⟩ (.cons ⟨_,rfl⟩ (.cons ⟨_,rfl⟩ .nil)))) nq) (.o (vq 0 G)) o0)) (zz [(5,_),(7,_)] [O 2 79 _,O 4 79 _] λ a w U=>?_)
 refine a4<|a9 U (zm 1 G) (λ hb0=>?_) (λ hb0=>?_)
 ·refine qa<|zg [η,some (1,_)] [] [.v 8 _,.sto 1,.v 5 _] [.o 2] U (zl 1 G bf (zS 0 G bf (zv G (a6 a5) o0))) (zz [(5,_)] [O 2 79 _,O 4 79 _] λ a w U=>?_)
  refine a4<|qe<|ab ?_
  refine aj ?_ (aB (rs:=[.cell 4 79,.tmp 5]) G U (.cell (zm 1 G) bf (.tmp (zm 0 G) .nil)) zd)
  rw [as_any hb0]; exact ay
 ·refine qk<|zt<|zg [η,some (1,_)] [] [.v 9 _,.sto 1,.v 5 _] [.o 2] U (zl 0 G bf (zS 0 G bf (zv G (a6 a5) o0))) (zz [(5,_)] [O 2 79 _,O 4 79 _] λ a w U=>?_)
  refine a4<|qe<|aj ?_ (aB (rs:=[.cell 4 79,.tmp 5]) G U (.cell (zm 1 G) bf (.tmp (zm 0 G) .nil)) zd)
  rw [as_none hb0]; exact tu2w qmA.va ay
theorem benMatrix_c (xs:List RE):Cn Tryz.prog 32 [(SlA 54 [U32] (xs.map REA)).va] (MR (benF xs)):=by
 refine Cn.intro Tryz.func32 G zk nq (λ B w0 a U=>?_)
 have U:=zn [(0,(SlA 54 [U32] (xs.map REA)).va)] [] U
 refine qa<|zg [] [⟨2,79,ptrH,some 0,_,none⟩] [.alc 0,.v 3 _] [.g 0,.o 1] U (zY G (Str.zero aF) (zv G (a6 a5) o0)) (zz [(0,_),(3,_)] [O 2 79 _] λ a w U=>?_)
 refine zt<|qa<|zg [η] [] [.v 6 _,.v 7 _,.v 4 _] [.g 0,.g 1,.o 2] U (zM 0 G (zQ G (gp xs) (.o (vq 0 G)) (zA 1 G o0))) (zz [(0,_),(3,_),(4,_)] [O 2 79 _] λ a w U=>?_)
 refine zt<|zg [η] [] [.v 8 _,.v 9 _] [.g 0,.g 1,.g 2,.o 1] U (zM 2 G (zv G (bz (vq 0 G) a5) o0)) (zz [(0,_),(3,_),(4,_),(9,_)] [O 2 79 _] λ a w U=>?_)
 refine a4<|a9 U (zm 3 G) (λ hb0=>?_) (λ hb0=>?_)
 ·have hc:¬ chF xs=0:=by simpa using hb0
  refine qa<|zg [some (2,_)] [] [.v 10 _,.v 11 _,.sto 0,.v 3 _] [.g 0,.o 3] U (zv G (aI (qs:=[]) aF .nil) (zM 2 G (zS 0 G bf (zA 1 G o0)))) (zz [(0,_),(3,_)] [O 2 79 _] λ a w U=>?_)
  refine a4<|qe<|ab ?_
  refine aj ?_ (aB (rs:=[.cell 2 79,.tmp 3]) G U (.cell (zm 0 G) bf (.tmp (zm 1 G) .nil)) zd)
  rw [benF,qj hc]; exact ay
 ·have hc:chF xs=0:=by simpa using hb0
  have hk:=ch_ok hc
  refine qk<|zt<|zg [η] [⟨5,79,ptrH,some 2,_,some (3,_)⟩] [.v 12 _,.v 13 _,.alc 1,.sto 1] [.g 1] U (zM 0 G (zQ G (k5 hk.1 hk.2) (.o (vq 0 G)) (zY G (Str.zero aF) (zS 1 G bf o0)))) (zz [(3,_)] [O 2 79 _,O 5 79 _] λ a w U=>?_)
  refine zt<|zg [some (13,_),η] [] [.v 14 _,.adr 15 5 (.some 0) True,.v 16 _,.adr 17 5 (.some 4) True,.v 18 _,.adr 19 5 (.some 8) True,.v 20 _,.adr 21 5 (.some 12) True,.v 22 _,.v 23 _,.v 24 _,.v 25 _,.v 26 _,.sto 0,.v 3 _] [.o 14] U (zl 1 G bf (zO 1 G cN (zL 1 1 0 G ac (zO 1 G cc (zL 3 1 1 G ac (zO 1 G c4 (zL 5 1 2 G ac (zO 1 G cM (zL 7 1 3 G ac (zv G (bB (D:=[U32]) (l:=[_,_,_,_]) (xs:=[.tmp 16,.tmp 18,.tmp 20,.tmp 22]) (cU zk) dM zk (n_ok zk) nq nq nq (.cons (vq 2 G) (.cons (vq 4 G) (.p (vq 6 G) (vq 8 G)))) G G) (zQ G (toldM_q (prodQ xs)) (.p (vq 0 G) (vq 9 G)) (zv G (eh (vq 10 G)) (zv G (ee (vq 10 G)) (zS 11 G bf (zA 12 G o0))))))))))))))) (zz [(3,_)] [O 2 79 _,O 5 79 _] λ a w U=>?_)
  refine a4<|qe<|aj ?_ (aB (rs:=[.cell 2 79,.tmp 3]) G U (.cell (zm 0 G) bf (.tmp (zm 0 G) .nil)) zd)
  rw [benF,ql hc]; exact ay
def pwF (bl:List RE)(be:Int):RF × Bool:=if (be != 0) then (rf0,false) else if ((benF bl).2 != 0) then (rf0,false) else ((powF (benF bl).1).1,(powF (benF bl).1).2==0)
theorem power26_c {t:RTk}{xs:List Int}{bl:List RE}{be:Int}(hB:Cn Tryz.prog 31 [(TkA t).va,(SlA 3 [] (xs.map InA)).va] (Tu [(SlA 54 [U32] (bl.map REA)).va,In be])):Cn Tryz.prog 12 [(TkA t).va,(SlA 3 [] (xs.map InA)).va] (Tu [(RFA (pwF bl be).1).va,Bo (pwF bl be).2]):=by
 refine Cn.intro Tryz.func12 G zk nq (λ B w0 a U=>?_)
 have U:=zn [(0,(TkA t).va),(1,(SlA 3 [] (xs.map InA)).va)] [] U
 refine qa<|zg [] [⟨2,30,ptrH,some 0,_,none⟩,⟨4,28,ptrH,some 1,_,none⟩] [.alc 0,.alc 1,.v 5 _] [.g 1,.o 2] U (zW 0 G (zY G (Str.zero aA) (zv G (a6 aH) o0))) (zz [(1,_),(5,_)] [O 2 30 _,O 4 28 _] λ a w U=>?_)
 refine zt<|zg [η,η] [] [.v 11 _,.v 12 _,.v 13 _,.v 10 _,.v 14 _,.v 15 _,.v 6 _,.v 7 _] [.g 1,.o 6,.o 7] U (zl 0 G cS (zM 0 G (zQ G hB (.p (vq 0 G) (vq 1 G)) (zv G (a8 (vq 2 G)) (zv G (eh (vq 3 G)) (zv G (ee (vq 3 G)) (zA 4 G (zA 5 G o0)))))))) (zz [(5,_),(6,_),(7,_)] [O 2 30 _,O 4 28 _] λ a w U=>?_)
 have U:=St.selL U [1]
 have U:=zn [(5,_),(6,_),(7,_)] [O 4 28 _] U
 refine zt<|qa<|zg [η] [] [.v 16 _,.v 17 _] [.g 0,.g 1,.g 2,.o 1] U (zM 2 G (zv G (bz (vq 0 G) a5) o0)) (zz [(5,_),(6,_),(7,_),(17,_)] [O 4 28 _] λ a w U=>?_)
 refine a4<|a9 U (zm 3 G) (λ hb0=>?_) (λ hb0=>?_)
 ·refine qa<|zg [some (1,_)] [] [.v 18 _,.sto 0,.v 5 _] [.g 1,.g 2,.o 2] U (zv G (aI (qs:=[]) aA .nil) (zS 0 G ac (zv G (a6 aH) o0))) (zz [(6,_),(7,_),(5,_)] [O 4 28 _] λ a w U=>?_)
  refine a4<|qe<|ab ?_
  refine aj ?_ (aB (rs:=[.cell 4 28,.tmp 5]) G U (.cell (zm 0 G) ac (.tmp (zm 2 G) .nil)) zd)
  rw [pwF,ql hb0]; exact tu2w ay ay
 ·refine qk<|zt<|zg [η] [⟨8,79,ptrH,some 5,_,some (6,_)⟩] [.v 20 _,.v 21 _,.v 19 _,.v 22 _,.v 23 _,.alc 1,.sto 1,.v 7 _] [.g 0,.o 7] U (zM 1 G (zQ G (benMatrix_c bl) (.o (vq 0 G)) (zv G (a8 (vq 1 G)) (zv G (eh (vq 2 G)) (zv G (ee (vq 2 G)) (zY G (Str.zero aF) (zS 3 G bf (zA 4 G o0)))))))) (zz [(5,_),(7,_)] [O 4 28 _,O 8 79 _] λ a w U=>?_)
  refine zt<|qa<|zg [η,η] [] [.v 24 _,.v 25 _] [.g 0,.g 1,.o 1] U (zM 1 G (zv G (bz (vq 0 G) a5) o0)) (zz [(5,_),(7,_),(25,_)] [O 4 28 _,O 8 79 _] λ a w U=>?_)
  refine a4<|a9 U (zm 2 G) (λ hb1=>?_) (λ hb1=>?_)
  ·refine qa<|zg [some (1,_),η] [] [.v 26 _,.sto 0,.v 5 _] [.g 1,.o 2] U (zv G (aI (qs:=[]) aA .nil) (zS 0 G ac (zv G (a6 aH) o0))) (zz [(7,_),(5,_)] [O 4 28 _,O 8 79 _] λ a w U=>?_)
   refine a4<|qe<|ab ?_
   refine aj ?_ (aB (rs:=[.cell 4 28,.tmp 5]) G U (.cell (zm 0 G) ac (.tmp (zm 1 G) .nil)) zd)
   rw [pwF,qj (by rw [hb0]; decide),ql hb1]; exact tu2w ay ay
  ·refine qk<|zt<|zg [η,η] [⟨9,28,ptrH,some 5,_,some (6,_)⟩] [.v 28 _,.v 29 _,.v 27 _,.v 30 _,.v 31 _,.alc 2,.sto 2,.v 7 _] [.g 0,.o 7] U (zl 1 G bf (zQ G (power_c _) (.o (vq 0 G)) (zv G (a8 (vq 1 G)) (zv G (eh (vq 2 G)) (zv G (ee (vq 2 G)) (zY G (Str.zero aA) (zS 3 G ac (zA 4 G o0)))))))) (zz [(5,_),(7,_)] [O 4 28 _,O 8 79 _,O 9 28 _] λ a w U=>?_)
   refine zt<|zg [some (3,_),η,η] [] [.v 32 _,.v 33 _,.v 34 _,.sto 0,.v 5 _] [.o 4] U (zl 2 G ac (zM 1 G (zv G (bv (vq 1 G) a5) (zS 0 G ac (zA 2 G o0))))) (zz [(5,_)] [O 4 28 _,O 8 79 _,O 9 28 _] λ a w U=>?_)
   refine a4<|qe<|aj ?_ (aB (rs:=[.cell 4 28,.tmp 5]) G U (.cell (zm 0 G) ac (.tmp (zm 0 G) .nil)) zd)
   rw [pwF,qj (by rw [hb0]; decide),qj (by rw [hb1]; decide)]; exact ay
theorem bU {n:Int}(h1 : -9223372036854775808≤n)(h2:n<9223372036854775808):Cn Tryz.prog 29 [In n] ((RFA (rfOf (Rat.divInt n 1))).va):=by
 refine Cn.intro Tryz.func29 G zk nq (λ B w0 a U=>?_)
 have U:=zn [(0,In n)] [] U
 refine qa<|zg [] [⟨2,28,ptrH,some 0,_,none⟩] [.alc 0] [.g 0] U (zY G (Str.zero aA) o0) (zz [(0,_)] [O 2 28 _] λ a w U=>?_)
 refine zt<|zg [η] [⟨3,28,ptrH,some 5,_,some (6,_)⟩] [.v 6 _,.v 7 _,.v 5 _,.v 8 _,.v 9 _,.alc 1,.sto 1,.v 4 _] [] U (zM 0 G (zQ G (ofQ_c h1 h2 zd zd zd) (.cons (vq 0 G) (.cons a5 .nil)) (zv G (a8 (vq 1 G)) (zv G (eh (vq 2 G)) (zv G (ee (vq 2 G)) (zY G (Str.zero aA) (zS 3 G ac (zA 4 G o0)))))))) (zz [] [O 2 28 _,O 3 28 _] λ a w U=>?_)
 refine zt<|zg [some (1,_),η] [] [.v 10 _,.sto 0] [] U (zl 1 G ac (zS 0 G ac o0)) (zz [] [O 2 28 _,O 3 28 _] λ a w U=>?_)
 refine a4<|qe<|aj ?_ (au G U (zm 0 G) ac)
 exact ay
theorem lens26_c (s:ByteArray){p c:Int}(h1 : -9223372036854775808≤p)(h2:p<9223372036854775808):Cn Tryz.prog 64 [(EqA (.string s)).va,In p,In c] ((PtA ⟨s,⟨2,rfOf (Rat.divInt p 1),rfOf (Rat.divInt 0 1)⟩,c⟩).va):=by
 refine Cn.intro Tryz.func64 G zk nq (λ B w0 a U=>?_)
 have U:=zn [(0,(EqA (.string s)).va),(1,In p),(2,In c)] [] U
 refine qa<|zg [] [⟨6,56,ptrH,some 0,_,none⟩] [.alc 0] [.g 0,.g 1,.g 2] U (zY G (Str.zero eW) o0) (zz [(0,_),(1,_),(2,_)] [O 6 56 _] λ a w U=>?_)
 refine zt<|zg [some (7,_)] [] [.v 7 _,.v 8 _,.v 9 _,.v 10 _,.v 11 _,.v 12 _,.v 13 _,.sto 0] [] U (zM 0 G (zM 1 G (zQ G (bU zo zo) (.o (vq 1 G)) (zQ G (bU zd zd) (.cons a5 .nil) (zv G (aI (qs:=[(0,_),(1,_),(2,_)]) cZ (.cons ⟨rfl,a5,rfl⟩ (.cons ⟨rfl,vq 2 rfl,rfl⟩ (.cons ⟨rfl,vq 3 rfl,rfl⟩ .nil)))) (zM 2 G (zv G (aI (qs:=[(0,_),(1,_),(2,_)]) eW (.cons ⟨rfl,vq 0 rfl,rfl⟩ (.cons ⟨rfl,vq 4 rfl,rfl⟩ (.cons ⟨rfl,vq 5 rfl,rfl⟩ .nil)))) (zS 6 G ty_56 o0)))))))) (zz [] [O 6 56 _] λ a w U=>?_)
 refine a4<|qe<|aj ?_ (au G U (zm 0 G) ty_56)
 exact ay
theorem str_task:Str Tryz.prog 30 [EqA (.slice none 0 0),EqA (.slice none 0 0),RFA rf0] :=
 Str.of (z:=.agg #[.slice none 0 0,.slice none 0 0,.bool false,.slice none 0 0,.bool false,.slice none 0 0]) zk Tryz.underlying30 zk λ B w=>⟨[[.slice none 0 0],[.slice none 0 0],[.bool false,.slice none 0 0,.bool false,.slice none 0 0]],rfl,.cons ⟨rfl,rfl⟩ (.cons ⟨rfl,rfl⟩ (.cons (dk B w) .nil))⟩
def frI (n:Int):RF:=rfOf (Rat.divInt n 1)
def lnT (s:ByteArray)(p c:Int):RPt:=⟨s,⟨2,frI p,frI 0⟩,c⟩
def twoT (n:Int):RTk:=⟨[frI 0,frI 1,frI 0],[lnT ⟨#[97]⟩ 1 5,lnT ⟨#[98]⟩ 2 3],frI n⟩
theorem has_str {R:Rg}{B i:Nat}{s:ByteArray}:Has R B w0 i (.const (.string s)) (EqA (.string s)).va:=λ _ _ _=>ii rfl
theorem two26_c {n:Int}(h1 : -9223372036854775808≤n)(h2:n<9223372036854775808):Cn Tryz.prog 28 [In n] ((TkA (twoT n)).va):=by
 refine Cn.intro Tryz.func28 G zk nq (λ B w0 a U=>?_)
 have U:=zn [(0,In n)] [] U
 refine qa<|zg [] [⟨2,30,ptrH,some 0,_,none⟩] [.alc 0] [.g 0] U (zY G (Str.zero str_task) o0) (zz [(0,_)] [O 2 30 _] λ a w U=>?_)
 refine zt<|zg [some (10,_)] [] [.v 3 _,.v 4 _,.v 5 _,.v 6 _,.v 7 _,.v 8 _,.v 9 _,.v 10 _,.v 11 _,.v 12 _,.sto 0] [] U (zQ G (bU (n:=0) zd zd) (.cons a5 .nil) (zQ G (bU (n:=1) zd zd) (.cons a5 .nil) (zQ G (bU (n:=0) zd zd) (.cons a5 .nil) (zv G (bB (D:=[U32]) (l:=[_,_,_]) (xs:=[.tmp 3,.tmp 4,.tmp 5]) (cU zk) dM zk (n_ok zk) nq nq nq (.cons (vq 0 G) (.p (vq 1 G) (vq 2 G))) G G) (zv G (aW (xs:=[.const (.string ⟨#[97]⟩),.const (.int .i64 1),.const (.int .i64 5)]) (lens26_c ⟨#[97]⟩ (p:=1) (c:=5) zd zd) (.cons has_str (.cons a5 (.cons a5 .nil)))) (zv G (aW (xs:=[.const (.string ⟨#[98]⟩),.const (.int .i64 2),.const (.int .i64 3)]) (lens26_c ⟨#[98]⟩ (p:=2) (c:=3) zd zd) (.cons has_str (.cons a5 (.cons a5 .nil)))) (zv G (bB (D:=[U32]) (l:=[_,_]) (xs:=[.tmp 7,.tmp 8]) (cU zk) sl_23 zk (n_ok zk) nq nq nq (.p (vq 4 G) (vq 5 G)) G G) (zM 0 G (zQ G (bU h1 h2) (.o (vq 7 G)) (zv G (aI (qs:=[(0,_),(1,_),(2,_)]) str_task (.cons ⟨rfl,vq 3 rfl,rfl⟩ (.cons ⟨rfl,vq 6 rfl,rfl⟩ (.cons ⟨rfl,vq 8 rfl,rfl⟩ .nil)))) (zS 9 G cS o0))))))))))) (zz [] [O 2 30 _] λ a w U=>?_)
 refine a4<|qe<|aj ?_ (au G U (zm 0 G) cS)
 exact ay
def Nmd (Γ:List (Nat × VA)):List (Nat × Nat)→List Nat→Prop
 | [],[]=>True
 | p::ps,k::ks=>Γ[k]?=some (p.1,EqV (ptr p.2))∧Nmd Γ ps ks
 | _,_=>False
section
variable {P:Program} {R:Rg} {Q:Exit→Act→World→Prop} {B i:Nat} {w0:Bs}
inductive Nmo (R:Rg) (B:Nat) (w0:Bs) (i:Nat):List (Nat × Nat)→Prop
 | nil:Nmo R B w0 i []
 | cons {s g T:Nat} {A:As} {l:List (Nat × Nat)}:Has R B w0 i (.tmp s) (EqV (ptr g))→Loc R i s T A→Nmo R B w0 i l→Nmo R B w0 i ((s,g)::l)
theorem Nmo.lt {l:List (Nat × Nat)}(h:Nmo R B w0 i l)(av:R.Av B w0 i a w):∀ p∈l,p.2<w.heap.size:=by
 induction h with
 | nil=>intro p hp; cases hp
 | cons h1 h2 _ ih =>
  intro p hp
  rcases qn.1 hp with rfl | hp
  ·obtain ⟨g,cs,e1,_,e3,_⟩:=h2.ok av
   have e2:=h1 a w av
   have e2':a.eval (.tmp _)=ptr _:=e2
   rw [e2'] at e1
   have:ptr _=ptr g:=e1
   injection this with this
   injection this with this
   injection this with this
   rw [this]
   exact (Array.getElem?_eq_some_iff.1 e3).1
  ·exact ih p hp
theorem has_eqA {x:Operand}(h:v.oneCell'=true)(h1:Has R B w0 i x (EqV v)):Has R B w0 i x (EqA v).va:=λ a w av=>by
 have e:a.eval x=v:=h1 a w av
 rw [e]
 exact ii h
end
end Go.Proofs.YtlakjmncfooodaaGreat
