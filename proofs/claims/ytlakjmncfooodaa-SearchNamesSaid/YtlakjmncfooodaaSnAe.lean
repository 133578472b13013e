import Derived.Test.YtlakjmncfooodaaSnAd
set_option linter.all false
set_option maxRecDepth 100000
namespace Go.Proofs.Ytlakjmncfooodaa
open Go Go.RowKit
variable {w:World}{B:Nat}{a:Act}{v:Value}{T:TypeId}{w0:Bs}{Γ:List (Nat × VA)}{Λ:List Lc}{ps:String}{af:Array Edge}{vr:Value}{H:Hd}{cs:List Value}{w':World}{P:Program}{D:List TypeId}
theorem tu2 {a b c d:VA}(h:a=c)(h':b=d):Tu [a,b]=Tu [c,d]:=by rw [h,h']
theorem nu {k:IntKind}{m n:Int}(h:m=n):(NumA k m).va=(NumA k n).va:=by rw [h]
theorem add32_e1 {x y c:Nat}(hx:x<4294967296)(hy:y<4294967296)(hc:c<4294967296):IntKind.u64.wrap (IntKind.u64.wrap (IntKind.u64.wrap (x:Int)+IntKind.u64.wrap (y:Int))+IntKind.u64.wrap (c:Int))=((x+y+c:Nat):Int):=by
 rw [wu64 zo,wu64 zo,wadd64 zo,wu64 zo,wadd64 zo]
theorem div32_e {h l d:Nat}(hh:h<d)(hl:l<4294967296)(hd:d<4294967296):bits .or .u64 (IntKind.u64.wrap (IntKind.u64.wrap (h:Int)*2^((32:Int).toNat))) (IntKind.u64.wrap (l:Int))=((h*4294967296+l:Nat):Int):=by
 rw [wu64 (x:=h) zo,wu64 (x:=l) zo,wshl32 zo,or64 zo hl]
theorem iS {h l d:Nat}(hh:h<d)(hl:l<4294967296):(h*4294967296+l)/d<4294967296:=by
 apply zb
 have:(h+1)*4294967296≤d*4294967296:=qU _ hh
 omega
theorem fE {x y c:Nat}(hx:x<4294967296)(hy:y<4294967296)(hc:c<4294967296):Cn Try.prog 73 [(NumA .u32 (x:Nat)).va,(NumA .u32 (y:Nat)).va,(NumA .u32 (c:Nat)).va] (Tu [(NumA .u32 ((x+y+c)%4294967296:Nat)).va,(NumA .u32 ((x+y+c)/4294967296:Nat)).va]):=by
 refine Cn.intro Try.func73 G zk nq (λ B w0 a U=>?_)
 have U:=zn [(0,(NumA .u32 (x:Nat)).va),(1,(NumA .u32 (y:Nat)).va),(2,(NumA .u32 (c:Nat)).va)] [] U
 refine qb<|zh [.v 6 _,.v 7 _] [.g 0,.g 1,.g 2,.o 0,.o 1] U (zv G (a6 a5) (zv G (a6 a5) o0)) (zz [(0,_),(1,_),(2,_),(6,_),(7,_)] [] λ a w U=>?_)
 refine zt<|zh [.v 9 _,.v 10 _,.v 11 _,.v 12 _,.v 13 _,.v 14 _,.v 15 _,.v 16 _,.v 8 _] [.g 3,.g 4,.o 8] U (zM 0 G (zv G (au .u64 zk zk (vq 0 G) (G)) (zM 1 G (zv G (au .u64 zk zk (vq 2 G) (G)) (zv G (aU (vq 1 G) (vq 3 G) (G)) (zM 2 G (zv G (au .u64 zk zk (vq 5 G) (G)) (zv G (aU (vq 4 G) (vq 6 G) (G)) (zA 7 G o0))))))))) (zz [(6,_),(7,_),(8,_)] [] λ a w U=>?_)
 refine zt<|zh [.v 17 _,.v 18 _,.v 6 _] [.g 1,.g 2,.o 2] U (zM 2 G (zv G (au .u32 zk zk (vq 0 G) (G)) (zA 1 G o0))) (zz [(7,_),(8,_),(6,_)] [] λ a w U=>?_)
 refine zt<|zh [.v 19 _,.v 20 _,.v 21 _,.v 7 _] [.g 2,.o 3] U (zM 1 G (zv G (eI (vq 0 G) a5 zd (G)) (zv G (au .u32 zk zk (vq 1 G) (G)) (zA 2 G o0)))) (zz [(6,_),(7,_)] [] λ a w U=>?_)
 refine a4<|qh<|ao ?_ (aM (rs:=[.tmp 6,.tmp 7]) G U (.tmp (zm 0 G) (.tmp (zm 1 G) .nil)) zd)
 exact tu2 (nu (by rw [add32_e1 hx hy hc,wu32'])) (nu (by rw [add32_e1 hx hy hc]; exact (qu _ nshr).trans (wu32 (by show (x+y+c)/4294967296<_; omega))))
theorem sub32_c {x y c:Nat}(hx:x<4294967296)(hy:y<4294967296)(hc:c<2):Cn Try.prog 74 [(NumA .u32 (x:Nat)).va,(NumA .u32 (y:Nat)).va,(NumA .u32 (c:Nat)).va] (Tu [(NumA .u32 ((x+8589934592-y-c)%4294967296:Nat)).va,(NumA .u32 (if x<y+c then 1 else 0:Nat)).va]):=by
 refine Cn.intro Try.func74 G zk nq (λ B w0 a U=>?_)
 have U:=zn [(0,(NumA .u32 (x:Nat)).va),(1,(NumA .u32 (y:Nat)).va),(2,(NumA .u32 (c:Nat)).va)] [] U
 refine qb<|zh [.v 6 _,.v 7 _] [.g 0,.g 1,.g 2,.o 0,.o 1] U (zv G (a6 a5) (zv G (a6 a5) o0)) (zz [(0,_),(1,_),(2,_),(6,_),(7,_)] [] λ a w U=>?_)
 refine zt<|zh [.v 8 _,.v 9 _,.v 10 _,.v 11 _,.v 12 _,.v 6 _] [.g 0,.g 1,.g 4,.o 5] U (zM 0 G (zM 1 G (zv G (cu (vq 0 G) (vq 1 G) (G)) (zM 2 G (zv G (cu (vq 2 G) (vq 3 G) (G)) (zA 4 G o0)))))) (zz [(0,_),(1,_),(7,_),(6,_)] [] λ a w U=>?_)
 refine zt<|zh [.v 13 _,.v 14 _,.v 15 _,.v 16 _,.v 17 _,.v 18 _,.v 19 _,.v 20 _,.v 21 _,.v 22 _,.v 23 _,.v 24 _,.v 7 _] [.g 3,.o 12] U (zM 0 G (zv G (r_bnot (vq 0 G) (G)) (zM 1 G (zv G (r_band (vq 1 G) (vq 2 G) (G)) (zM 0 G (zM 1 G (zv G (r_bxor (vq 4 G) (vq 5 G) (G)) (zv G (r_bnot (vq 6 G) (G)) (zM 3 G (zv G (r_band (vq 7 G) (vq 8 G) (G)) (zv G (r_bor (vq 3 G) (vq 9 G) (G)) (zv G (eI (vq 10 G) a5 zd (G)) (zA 11 G o0))))))))))))) (zz [(6,_),(7,_)] [] λ a w U=>?_)
 refine a4<|qh<|ao ?_ (aM (rs:=[.tmp 6,.tmp 7]) G U (.tmp (zm 0 G) (.tmp (zm 1 G) .nil)) zd)
 exact tu2 (nu (sub32_d hx hy hc)) (nu (sub32_e2 hx hy hc))
theorem div32_c {h l d:Nat}(hh:h<d)(hl:l<4294967296)(hd:d<4294967296):Cn Try.prog 79 [(NumA .u32 (h:Nat)).va,(NumA .u32 (l:Nat)).va,(NumA .u32 (d:Nat)).va] (Tu [(NumA .u32 ((h*4294967296+l)/d:Nat)).va,(NumA .u32 ((h*4294967296+l)%d:Nat)).va]):=by
 refine Cn.intro Try.func79 G zk nq (λ B w0 a U=>?_)
 have U:=zn [(0,(NumA .u32 (h:Nat)).va),(1,(NumA .u32 (l:Nat)).va),(2,(NumA .u32 (d:Nat)).va)] [] U
 refine qb<|zh [.v 6 _,.v 7 _] [.g 0,.g 1,.g 2,.o 0,.o 1] U (zv G (a6 a5) (zv G (a6 a5) o0)) (zz [(0,_),(1,_),(2,_),(6,_),(7,_)] [] λ a w U=>?_)
 refine zt<|qb<|zh [.v 9 _,.v 10 _,.v 11 _,.t 12 _,.t 13 _,.t 14 _,.v 15 _] [.g 0,.g 1,.g 2,.g 3,.g 4,.o 6] U (zM 2 G (zv G (bM (vq 0 G) a5) (zv G (a7 (vq 1 G)) (zB 2 G (λ hg=>a7 (gq 2 G)) (zB 2 G (λ hg=>a7 (gq 0 G)) (zB 2 G (λ hg=>r_leq (a9 (vq 3 G) hg) (a9 (vq 4 G) hg)) (zv G (bi (vq 2 G) (vq 5 G)) o0))))))) (zz [(0,_),(1,_),(2,_),(6,_),(7,_),(15,_)] [] λ a w U=>?_)
 refine a4<|aa U (zm 5 G) (λ hb0=>?_) (λ hb0=>?_)
 ·exact absurd hb0 (by simp; omega)
 ·refine qk<|zt<|zh [.v 17 _,.v 18 _,.v 19 _,.v 20 _,.v 21 _,.v 22 _,.v 8 _] [.g 2,.g 3,.g 4,.o 6] U (zM 0 G (zv G (au .u64 zk zk (vq 0 G) (G)) (zv G (r_shl (vq 1 G) a5 zd (G)) (zM 1 G (zv G (au .u64 zk zk (vq 3 G) (G)) (zv G (r_bor (vq 2 G) (vq 4 G) (G)) (zA 5 G o0))))))) (zz [(2,_),(6,_),(7,_),(8,_)] [] λ a w U=>?_)
  refine zt<|zgd [[],[],[1],[0,1,2],[0,1,2,3],[],[],[6],[5,6,7],[5,6,7,8],[0,1,2,3,4],[0,1,2,3,4,5,6,7,8,9,10]] [] [] [.v 23 _,.v 24 _,.v 25 _,.v 26 _,.v 27 _,.v 28 _,.v 29 _,.v 30 _,.v 31 _,.v 32 _,.v 6 _,.v 7 _] [.o 10,.o 11] a8 U (zM 3 G (zM 0 G (zv G (au .u64 zk zk (vq 1 G) (G)) (zv G (r_quo (vq 0 G) (vq 2 G) (by rw [wu64 zo]; omega) (G)) (zv G (au .u32 zk zk (vq 3 G) (G)) (zM 3 G (zM 0 G (zv G (au .u64 zk zk (vq 6 G) (G)) (zv G (r_rem (vq 5 G) (vq 7 G) (by rw [wu64 zo]; omega) (G)) (zv G (au .u32 zk zk (vq 8 G) (G)) (zA 4 G (zA 9 G o0)))))))))))) zk zk zk zk (zz [(6,_),(7,_)] [] λ a w U=>?_)
  refine a4<|qh<|ao ?_ (aM (rs:=[.tmp 6,.tmp 7]) G U (.tmp (zm 0 G) (.tmp (zm 1 G) .nil)) zd)
  exact tu2 (nu (by rw [div32_e hh hl hd,wu64 (x:=d) zo]; exact (qu _ (nquo (by have:=iS hh hl; omega))).trans (wu32 (iS hh hl)))) (nu (by rw [div32_e hh hl hd,wu64 (x:=d) zo]; exact (qu _ nrem).trans (wu32 (by have:=qO (h*4294967296+l) (show 0<d by omega); omega))))
theorem size_e0 {l m:List Nat}(ha:l.length≤9223372036854775807)(hb:m.length≤9223372036854775807)(h:((l.length:Int) != (m.length:Int))=true):IntKind.i64.wrap ((l.length:Int)-(m.length:Int))=sizeL l m:=by
 have h':l.length≠m.length:=by simp at h; omega
 unfold sizeL
 rw [qy h',wi64 zo zo]
theorem size_e1 {l m:List Nat}{j:Nat}(ha:okL l)(hl:l.length=m.length)(hj:j<l.length)(hd:l.drop (j+1)=m.drop (j+1))(h:decide (((l[j]:Nat):Int)<((m[j]'zo:Nat):Int))=true):(-1:Int)=sizeL l m:=by
 have:=top_lt (a:=l) (b:=m) ha hj zo hd (by simpa using h)
 unfold sizeL
 rw [qm zo,qy this]
theorem size_e2 {l m:List Nat}{j:Nat}(hb:okL m)(hl:l.length=m.length)(hj:j<l.length)(hd:l.drop (j+1)=m.drop (j+1))(hne:(((l[j]:Nat):Int) != ((m[j]'zo:Nat):Int))=true)(h:decide (((l[j]:Nat):Int)<((m[j]'zo:Nat):Int))=false):(1:Int)=sizeL l m:=by
 have:=top_lt (a:=m) (b:=l) hb zo hj hd.symm (by simp at h hne; omega)
 unfold sizeL
 rw [qm zo,qm zo,qy this]
theorem size_e3 {l m:List Nat}(hd:l.drop 0=m.drop 0):(0:Int)=sizeL l m:=by
 have:l=m:=by simpa using hd
 subst this
 simp [sizeL]
theorem size_c (l m:List Nat):Cn Try.prog 62 [(MgA l).va,(MgA m).va] (In (sizeL l m)):=by
 refine Cn.intro Try.func62 G zk nq (λ B w0 a U=>?_)
 have U:=zn [(0,(MgA l).va),(1,(MgA m).va)] [] U
 obtain ⟨ha,hla⟩:=U.mag 0 rfl; obtain ⟨hb,hlb⟩:=U.mag 1 rfl
 refine qb<|zh [.v 4 _] [.g 0,.g 1,.o 0] U (zv G (a6 a5) o0) (zz [(0,_),(1,_),(4,_)] [] λ a w U=>?_)
 refine zt<|qb<|zh [.v 6 _,.v 7 _,.v 8 _,.v 9 _,.v 10 _] [.g 0,.g 1,.g 2,.o 4] U (zM 0 G (zv G (aG Try.underlying23 (vq 0 G)) (zM 1 G (zv G (aG Try.underlying23 (vq 2 G)) (zv G (bM (vq 1 G) (vq 3 G)) o0))))) (zz [(0,_),(1,_),(4,_),(10,_)] [] λ a w U=>?_)
 refine a4<|aa U (zm 3 G) (λ hb0=>?_) (λ hb0=>?_)
 ·refine qb<|zh [.v 11 _,.v 12 _,.v 13 _,.v 14 _,.v 15 _,.v 4 _] [.g 0,.g 1,.o 5] U (zM 0 G (zv G (aG Try.underlying23 (vq 0 G)) (zM 1 G (zv G (aG Try.underlying23 (vq 2 G)) (zv G (cu (vq 1 G) (vq 3 G) (G)) (zA 4 G o0)))))) (zz [(0,_),(1,_),(4,_)] [] λ a w U=>?_)
  refine a4<|qh<|ac ?_
  refine ao ?_ (ae G U (zm 2 G))
  exact nu (size_e0 hla hlb hb0)
 ·have hl:l.length=m.length:=by simp at hb0; omega
  refine qk<|zt<|qb<|zh [.v 16 _,.v 17 _,.v 18 _,.v 5 _] [.g 0,.g 1,.g 2,.o 3] U (zM 0 G (zv G (aG Try.underlying23 (vq 0 G)) (zv G (cu (vq 1 G) a5 (wi64 zo zo)) (zA 2 G o0)))) (zz [(0,_),(1,_),(4,_),(5,_)] [] λ a w U=>?_)
  refine a4<|qt ?_
  have U:=St.sel U [0,1,3]
  refine wp_loop_ghost (λ n a w=>n≤l.length∧l.drop n=m.drop n∧St B w0 41 [(0,(MgA l).va),(1,(MgA m).va),(5,In ((n:Int)-1))] [] a w) (l.length) ?_ ?_
  ·exact ⟨qf _,by rw [xr,hl,xr],U⟩
  intro n a w hI
  obtain ⟨hi,hd,U⟩:=hI
  refine qb<|qb<|zh [.v 19 _,.v 20 _] [.g 0,.g 1,.g 2,.o 1] U (zM 2 G (zv G (dH (vq 0 G) a5) o0)) (zz [(0,_),(1,_),(5,_),(20,_)] [] λ a w U=>?_)
  refine a4<|aa U (zm 3 G) (λ hb1=>?_) (λ hb1=>?_)
  ·obtain ⟨j,rfl⟩:∃ j,n=j+1:=⟨n-1,by simp at hb1; omega⟩; rw [show ((j+1:Nat):Int)-1=(j:Int) from by omega] at U
   refine qk<|zt<|qt<|qb<|zgd [[],[],[0,1],[0,1,2],[],[],[4,5],[4,5,6],[0,1,2,3,4,5,6,7]] [] [] [.v 23 _,.v 24 _,.v 25 _,.v 26 _,.v 27 _,.v 28 _,.v 29 _,.v 30 _,.v 31 _] [.g 0,.g 1,.g 2,.o 8] a8 U (zM 0 G (zM 2 G (zv G (bI aN (vq 0 G) (vq 1 G) zo) (zv G (al (vq 2 G) aT) (zM 1 G (zM 2 G (zv G (bI aN (vq 4 G) (vq 5 G) zo) (zv G (al (vq 6 G) aT) (zv G (bM (vq 3 G) (vq 7 G)) o0))))))))) zk zk zk zk (zz [(0,_),(1,_),(5,_),(31,_)] [] λ a w U=>?_)
   refine a4<|aa U (zm 3 G) (λ hb2=>?_) (λ hb2=>?_)
   ·refine qb<|qb<|zgd [[],[],[0,1],[0,1,2],[],[],[4,5],[4,5,6],[0,1,2,3,4,5,6,7]] [] [] [.v 32 _,.v 33 _,.v 34 _,.v 35 _,.v 36 _,.v 37 _,.v 38 _,.v 39 _,.v 40 _] [.g 0,.g 1,.g 2,.o 8] a8 U (zM 0 G (zM 2 G (zv G (bI aN (vq 0 G) (vq 1 G) zo) (zv G (al (vq 2 G) aT) (zM 1 G (zM 2 G (zv G (bI aN (vq 4 G) (vq 5 G) zo) (zv G (al (vq 6 G) aT) (zv G (aY (vq 3 G) (vq 7 G)) o0))))))))) zk zk zk zk (zz [(0,_),(1,_),(5,_),(40,_)] [] λ a w U=>?_)
    refine a4<|aa U (zm 3 G) (λ hb3=>?_) (λ hb3=>?_)
    ·refine qb<|zh [.v 4 _] [.g 0,.g 1,.g 2,.o 0] U (zv G (a6 a5) o0) (zz [(0,_),(1,_),(5,_),(4,_)] [] λ a w U=>?_)
     refine a4<|qh<|ac ?_
     refine aA ?_
     refine ac ?_
     refine ac ?_
     refine aA ?_
     refine ac ?_
     refine ao ?_ (ae G U (zm 3 G))
     exact nu (size_e1 ha hl zo hd hb3)
    ·refine qk<|zt<|zh [.v 4 _] [.g 0,.g 1,.g 2,.o 0] U (zv G (a6 a5) o0) (zz [(0,_),(1,_),(5,_),(4,_)] [] λ a w U=>?_)
     refine a4<|qh<|aA ?_
     refine ac ?_
     refine ac ?_
     refine aA ?_
     refine ac ?_
     refine ao ?_ (ae G U (zm 3 G))
     exact nu (size_e2 hb hl zo hd hb2 hb3)
   ·refine qk<|ai ?_
    refine a4<|zh [.v 21 _,.v 22 _,.v 5 _] [.g 0,.g 1,.o 2] U (zM 2 G (zv G (cu (vq 0 G) a5 (wi64 zo zo)) (zA 1 G o0))) (zz [(0,_),(1,_),(5,_)] [] λ a w U=>?_)
    refine a4 ?_
    have U:=St.sel U [0,1,2]
    exact ⟨j,by omega,by omega,io zo zo hd (by simp at hb2; omega),U⟩
  ·obtain rfl:n=0:=by simp at hb1; omega
   refine zf<|aj<|aj<|az<|zt<|zh [.v 4 _] [.o 0] U (zv G (a6 a5) o0) (zz [(4,_)] [] λ a w U=>?_)
   refine a4<|qh<|ao ?_ (ae G U (zm 0 G))
   exact nu (size_e3 hd)
def addSt (l m:List Nat)(i:Nat):List Nat:=digs i (sumTo l m i)++List.replicate (l.length+1-i) 0
theorem bJ {l m:List Nat}{i:Nat}(h:i≤l.length):(addSt l m i).length=l.length+1:=by simp [addSt,ab]; omega
theorem fV (l m:List Nat):addSt l m 0=List.replicate (l.length+1) 0:=by simp [addSt,digs]
theorem er {α:Type}(p q:List α)(x:α)(k:Nat)(h:p.length=k):(p++q).set k x=p++q.set 0 x:=by subst h; rw [xo _ _ (qf _),xZ]
theorem fg (n:Nat)(x:Nat)(h:0<n):(List.replicate n 0).set 0 x=x::List.replicate (n-1) 0:=by
 cases n with
 | zero=>omega
 | succ n=>simp [List.replicate_succ]
theorem dw {l m:List Nat}{i:Nat}(h:i<l.length){y:Nat}(hy:m.getD i 0=y):(addSt l m i).set i ((l[i]+y+sumTo l m i/4294967296^i)%4294967296)=addSt l m (i+1):=by
 unfold addSt
 rw [er _ _ _ _ (ab _ _),fg _ _ zo,de h,d7,hy]
 simp only [qM,z4]
 rw [xk (l[i]+y)]
 congr 3
theorem eh {l m:List Nat}{i:Nat}(h:i<l.length){y:Nat}(hy:m.getD i 0=y):(l[i]+y+sumTo l m i/4294967296^i)/4294967296=sumTo l m (i+1)/4294967296^(i+1):=by
 rw [de h,carry_step',hy,xk (l[i]+y)]
theorem ei {l m:List Nat}(hl:okL l)(hm:okL m)(h:m.length≤l.length):(addSt l m l.length).set l.length (sumTo l m l.length/4294967296^l.length)=digs (l.length+1) (val l+val m):=by
 unfold addSt
 rw [er _ _ _ _ (ab _ _),fg _ _ zo,eb,hU h]
 have:=du hl hm l.length
 rw [hU h] at this
 rw [qS zo]
 simp
theorem cS {l:List Nat}{i:Nat}(h:i<l.length):l.getD i 0=l[i]:=by simp [List.getD,h]
theorem d6 {l:List Nat}{i:Nat}(h:l.length≤i):l.getD i 0=0:=by simp [List.getD,h]
theorem add_c (l m:List Nat)(hls:l.length≤1099511627776)(hms:m.length≤1099511627776):Cn Try.prog 61 [(MgA l).va,(MgA m).va] ((MgN (digs (max l.length m.length+1) (val l+val m))).va):=by
 refine Cn.introW Try.func61 G zk nq (.cons (hC _).va (.cons (hC _).va .nil)) (di _).va (λ B w0 a hB0 U=>?_)
 have U:=zn [(0,(MgO l).va),(1,(MgO m).va)] [] U
 have hl:=(U.magO 0 rfl).1; have hm:=(U.magO 1 rfl).1
 refine qb<|zh [.v 4 _] [.g 0,.g 1,.o 0] U (zv G (a6 be) o0) (zz [(0,_),(1,_),(4,_)] [] λ a w U=>?_)
 refine zt<|qb<|zh [.v 9 _,.v 10 _,.v 11 _,.v 12 _,.v 13 _] [.g 0,.g 1,.g 2,.o 4] U (zM 0 G (zv G (aG Try.underlying23 (ap (vq 0 G))) (zM 1 G (zv G (aG Try.underlying23 (ap (vq 2 G))) (zv G (aY (vq 1 G) (vq 3 G)) o0))))) (zz [(0,_),(1,_),(4,_),(13,_)] [] λ a w U=>?_)
 refine a4<|aa U (zm 3 G) (λ hb0=>?_) (λ hb0=>?_)
 ·have hlt:l.length<m.length:=by simp at hb0; omega
  refine zh [.v 14 _,.v 15 _,.v 0 _,.v 1 _] [.g 2,.o 2,.o 3] U (zM 1 G (zM 0 G (zA 0 G (zA 1 G o0)))) (zz [(4,_),(0,_),(1,_)] [] λ a w U=>?_)
  refine zt<|cR (sts:=[]) (news:=[⟨19,94,slH _ _,some 3,_,none⟩]) (sp:=[.v 16 _,.v 17 _,.v 18 _,.alc 0,.adr 5 19 .none True]) [.g 0,.g 1,.g 2] [(5,19)] [⟨5,94,slH _ _,_⟩] U (zM 1 G (zv G (aG Try.underlying23 (ap (vq 0 G))) (zv G (aU (vq 1 G) a5 (bo zo)) (oc (ez G G G fQ (vq 2 G) (vq 2 G) zo) (oc (ob_a G G ko) o0))))) zk zk zk ⟨⟨4,rfl⟩,trivial⟩ G zk (zz [(4,_),(0,_),(1,_)] [⟨5,94,slH _ _,_⟩] λ a w U=>?_)
  refine zt<|zg [η] [] [.v 6 _] [.g 0,.g 1,.g 2,.o 0] U (zv G (a6 (aB 0 G)) o0) (zz [(4,_),(0,_),(1,_),(6,_)] [⟨5,94,slH _ _,_⟩] λ a w U=>?_)
  refine zt<|qb<|zg [η] [] [.v 20 _,.v 21 _,.v 22 _] [.g 0,.g 1,.g 2,.g 3,.o 1,.o 2] U (zM 1 G (zv G (aG Try.underlying23 (ap (vq 0 G))) (zv G (a7 a5) o0))) (zz [(4,_),(0,_),(1,_),(6,_),(21,_),(22,_)] [⟨5,94,slH _ _,_⟩] λ a w U=>?_)
  refine a4<|qt ?_
  have U:=St.sel U [1,2,3,4,5]
  refine wp_loop_ghost (λ n a w=>∃ i:Nat,n+i=m.length∧St B w0 53 [(0,(MgO m).va),(1,(MgO l).va),(6,(NumA .u32 (sumTo m l i/4294967296^i:Nat)).va),(21,In (m.length:Nat)),(22,In (i:Nat))] [⟨5,94,slH (m.length+1) (m.length+1),Nums .u32 (addSt m l i)⟩] a w) (m.length) ?_ ?_
  ·exact ⟨0,by omega,by rw [fV,show sumTo m l 0/4294967296^0=0 from by simp [en]]; exact U⟩
  intro n a w hI
  obtain ⟨i,hn,U⟩:=hI
  refine qb<|zg [η] [] [.v 23 _] [.g 0,.g 1,.g 2,.g 3,.g 4,.o 0] U (zv G (aY (gq 4 G) (gq 3 G)) o0) (zz [(0,_),(1,_),(6,_),(21,_),(22,_),(23,_)] [⟨5,94,slH _ _,_⟩] λ a w U=>?_)
  refine zt<|aa U (zm 5 G) (λ hb1=>?_) (λ hb1=>?_)
  ·have hi:i<m.length:=by simp at hb1; omega
   refine qk<|zt<|qt<|qb<|zg [η] [] [.v 24 _,.v 7 _] [.g 0,.g 1,.g 2,.g 3,.g 4,.o 1] U (zM 4 G (zA 0 G o0)) (zz [(0,_),(1,_),(6,_),(21,_),(22,_),(7,_)] [⟨5,94,slH _ _,_⟩] λ a w U=>?_)
   refine zt<|zg [η] [] [.v 8 _] [.g 0,.g 1,.g 2,.g 3,.g 4,.g 5,.o 0] U (zv G (a6 (aB 0 G)) o0) (zz [(0,_),(1,_),(6,_),(21,_),(22,_),(7,_),(8,_)] [⟨5,94,slH _ _,_⟩] λ a w U=>?_)
   refine zt<|qb<|zg [η] [] [.v 25 _,.v 26 _,.v 27 _,.v 28 _] [.g 0,.g 1,.g 2,.g 3,.g 4,.g 5,.g 6,.o 3] U (zM 5 G (zM 1 G (zv G (aG Try.underlying23 (ap (vq 1 G))) (zv G (aY (vq 0 G) (vq 2 G)) o0)))) (zz [(0,_),(1,_),(6,_),(21,_),(22,_),(7,_),(8,_),(28,_)] [⟨5,94,slH _ _,_⟩] λ a w U=>?_)
   refine a4<|aa U (zm 7 G) (λ hb2=>?_) (λ hb2=>?_)
   ·refine zg [η] [] [.v 29 _,.v 30 _,.v 31 _,.v 32 _,.v 8 _] [.g 0,.g 1,.g 2,.g 3,.g 4,.g 5,.o 4] U (zM 1 rfl (zM 5 rfl (zv rfl (bI aN (ap (vq 0 rfl)) (vq 1 rfl) (by first | omega | (simp at hb2; omega) | (simp at hb4; omega))) (zv rfl (al (vq 2 rfl) aT) (zA 3 rfl o0))))) (zz [(0,_),(1,_),(6,_),(21,_),(22,_),(7,_),(8,_)] [⟨5,94,slH _ _,_⟩] λ a w U=>?_)
    refine a4<|zg [some (13,_)] [] [.adr 34 5 .none True,.v 35 _,.v 36 _,.v 37 _,.v 38 _,.v 39 _,.v 40 _,.v 41 _,.v 42 _,.v 33 _,.v 43 _,.v 44 _,.adr 45 5 (.some _) True,.sto 0,.v 6 _] [.g 0,.g 1,.g 3,.g 4,.o 14] U (oc (ob_a rfl rfl cx) (zM 5 rfl (zM 0 rfl (zM 5 rfl (zv rfl (bI aN (ap (vq 2 rfl)) (vq 3 rfl) (by first | omega | (simp at hb2; omega) | (simp at hb4; omega))) (zv rfl (al (vq 4 rfl) aT) (zM 6 rfl (zM 2 rfl (zQ rfl (fE (hm _ (qg _)) (hl _ (qg _)) (qT (du hm hl _) zd)) (.cons (vq 5 rfl) (.p (vq 6 rfl) (vq 7 rfl))) (zv rfl (a7 (vq 8 rfl)) (zv rfl (ay (vq 9 rfl) rfl) (zv rfl (ay (vq 9 rfl) rfl) (oc (ob_a rfl rfl (dM 0 rfl zk (lz0 0 rfl) aN (vq 1 rfl) zo)) (oc (c4 12 rfl rfl rfl rfl zk (λ _=>bL _ _ _ _) (vq 10 rfl) aT (ba (by rw [bJ zo]; omega))) (zA 11 rfl o0))))))))))))))) (zz [(0,_),(1,_),(21,_),(22,_),(6,_)] [⟨5,94,slH _ _,_⟩] λ a w U=>?_)
    refine ai ?_
    refine a4<|zg [η] [] [.v 46 _,.v 22 _] [.g 0,.g 1,.g 2,.g 4,.o 1] U (zv G (aU (gq 3 G) a5 (bo zo)) (zv G (a7 (vq 0 G)) o0)) (zz [(0,_),(1,_),(21,_),(6,_),(22,_)] [⟨5,94,slH _ _,_⟩] λ a w U=>?_)
    refine a4 ?_
    have U:=St.sel U [0,1,3,2,4]
    rw [dw hi (y:=_) (cS (by simp at hb2; omega)),eh hi (cS (by simp at hb2; omega))] at U; exact ⟨n-1,by omega,i+1,by omega,U⟩
   ·refine qk<|a4<|zg [some (13,_)] [] [.adr 34 5 .none True,.v 35 _,.v 36 _,.v 37 _,.v 38 _,.v 39 _,.v 40 _,.v 41 _,.v 42 _,.v 33 _,.v 43 _,.v 44 _,.adr 45 5 (.some _) True,.sto 0,.v 6 _] [.g 0,.g 1,.g 3,.g 4,.o 14] U (oc (ob_a rfl rfl cx) (zM 5 rfl (zM 0 rfl (zM 5 rfl (zv rfl (bI aN (ap (vq 2 rfl)) (vq 3 rfl) (by first | omega | (simp at hb2; omega) | (simp at hb4; omega))) (zv rfl (al (vq 4 rfl) aT) (zM 6 rfl (zM 2 rfl (zQ rfl (fE (hm _ (qg _)) (y:=0) zd (qT (du hm hl _) zd)) (.cons (vq 5 rfl) (.p (vq 6 rfl) (vq 7 rfl))) (zv rfl (a7 (vq 8 rfl)) (zv rfl (ay (vq 9 rfl) rfl) (zv rfl (ay (vq 9 rfl) rfl) (oc (ob_a rfl rfl (dM 0 rfl zk (lz0 0 rfl) aN (vq 1 rfl) zo)) (oc (c4 12 rfl rfl rfl rfl zk (λ _=>bL _ _ _ _) (vq 10 rfl) aT (ba (by rw [bJ zo]; omega))) (zA 11 rfl o0))))))))))))))) (zz [(0,_),(1,_),(21,_),(22,_),(6,_)] [⟨5,94,slH _ _,_⟩] λ a w U=>?_)
    refine ai ?_
    refine a4<|zg [η] [] [.v 46 _,.v 22 _] [.g 0,.g 1,.g 2,.g 4,.o 1] U (zv G (aU (gq 3 G) a5 (bo zo)) (zv G (a7 (vq 0 G)) o0)) (zz [(0,_),(1,_),(21,_),(6,_),(22,_)] [⟨5,94,slH _ _,_⟩] λ a w U=>?_)
    refine a4 ?_
    have U:=St.sel U [0,1,3,2,4]
    rw [dw hi (y:=_) (d6 (by simp at hb2; omega)),eh hi (d6 (by simp at hb2; omega))] at U; exact ⟨n-1,by omega,i+1,by omega,U⟩
  ·obtain rfl:i=m.length:=by simp at hb1; omega
   refine zf<|aj<|aj<|az<|zt<|zg [some (5,_)] [] [.adr 47 5 .none True,.v 48 _,.v 49 _,.v 50 _,.adr 51 5 (.some _) True,.sto 0] [] U (oc (ob_a G G cx) (zM 0 G (zv G (aG Try.underlying23 (ap (vq 1 G))) (zM 2 G (oc (ob_a G G (dM 0 G zk (lz0 0 G) aN (vq 2 G) zo)) (oc (c4 4 G G G G zk (λ _=>bL _ _ _ _) (vq 3 G) aT (ba (by rw [bJ zo]; omega))) o0)))))) (zz [] [⟨5,94,slH _ _,_⟩] λ a w U=>?_)
   refine zt<|cR (sts:=[none]) (news:=[]) (sp:=[.adr 52 5 .none True,.adr 4 5 .none True]) [] [(4,5)] [⟨4,94,slH _ _,_⟩] U (oc (ob_a G G cx) (oc (ob_a G G (a_asg2 0 G zk)) o0)) zk zk zk ⟨⟨1,rfl⟩,trivial⟩ G zk (zz [] [⟨4,94,slH _ _,_⟩] λ a w U=>?_)
   refine a4<|qh<|ao ?_ (ret_row G U (zm 0 G) ⟨by simp [bJ],qf _,by unfold maxLen; omega,by rw [ei hm hl zo]; exact bx _ _⟩ (by simp [bJ]))
   rw [ei hm hl zo,Nat.max_eq_right zo,xk (val m)]
 ·have hlt:m.length≤l.length:=by simp at hb0; omega
  refine qk<|zt<|cR (sts:=[]) (news:=[⟨19,94,slH _ _,some 3,_,none⟩]) (sp:=[.v 16 _,.v 17 _,.v 18 _,.alc 0,.adr 5 19 .none True]) [.g 0,.g 1,.g 2] [(5,19)] [⟨5,94,slH _ _,_⟩] U (zM 0 G (zv G (aG Try.underlying23 (ap (vq 0 G))) (zv G (aU (vq 1 G) a5 (bo zo)) (oc (ez G G G fQ (vq 2 G) (vq 2 G) zo) (oc (ob_a G G ko) o0))))) zk zk zk ⟨⟨4,rfl⟩,trivial⟩ G zk (zz [(0,_),(1,_),(4,_)] [⟨5,94,slH _ _,_⟩] λ a w U=>?_)
  refine zt<|zg [η] [] [.v 6 _] [.g 0,.g 1,.g 2,.o 0] U (zv G (a6 (aB 0 G)) o0) (zz [(0,_),(1,_),(4,_),(6,_)] [⟨5,94,slH _ _,_⟩] λ a w U=>?_)
  refine zt<|qb<|zg [η] [] [.v 20 _,.v 21 _,.v 22 _] [.g 0,.g 1,.g 2,.g 3,.o 1,.o 2] U (zM 0 G (zv G (aG Try.underlying23 (ap (vq 0 G))) (zv G (a7 a5) o0))) (zz [(0,_),(1,_),(4,_),(6,_),(21,_),(22,_)] [⟨5,94,slH _ _,_⟩] λ a w U=>?_)
  refine a4<|qt ?_
  have U:=St.sel U [0,1,3,4,5]
  refine wp_loop_ghost (λ n a w=>∃ i:Nat,n+i=l.length∧St B w0 53 [(0,(MgO l).va),(1,(MgO m).va),(6,(NumA .u32 (sumTo l m i/4294967296^i:Nat)).va),(21,In (l.length:Nat)),(22,In (i:Nat))] [⟨5,94,slH (l.length+1) (l.length+1),Nums .u32 (addSt l m i)⟩] a w) (l.length) ?_ ?_
  ·exact ⟨0,by omega,by rw [fV,show sumTo l m 0/4294967296^0=0 from by simp [en]]; exact U⟩
  intro n a w hI
  obtain ⟨i,hn,U⟩:=hI
  refine qb<|zg [η] [] [.v 23 _] [.g 0,.g 1,.g 2,.g 3,.g 4,.o 0] U (zv G (aY (gq 4 G) (gq 3 G)) o0) (zz [(0,_),(1,_),(6,_),(21,_),(22,_),(23,_)] [⟨5,94,slH _ _,_⟩] λ a w U=>?_)
  refine zt<|aa U (zm 5 G) (λ hb3=>?_) (λ hb3=>?_)
  ·have hi:i<l.length:=by simp at hb3; omega
   refine qk<|zt<|qt<|qb<|zg [η] [] [.v 24 _,.v 7 _] [.g 0,.g 1,.g 2,.g 3,.g 4,.o 1] U (zM 4 G (zA 0 G o0)) (zz [(0,_),(1,_),(6,_),(21,_),(22,_),(7,_)] [⟨5,94,slH _ _,_⟩] λ a w U=>?_)
   refine zt<|zg [η] [] [.v 8 _] [.g 0,.g 1,.g 2,.g 3,.g 4,.g 5,.o 0] U (zv G (a6 (aB 0 G)) o0) (zz [(0,_),(1,_),(6,_),(21,_),(22,_),(7,_),(8,_)] [⟨5,94,slH _ _,_⟩] λ a w U=>?_)
   refine zt<|qb<|zg [η] [] [.v 25 _,.v 26 _,.v 27 _,.v 28 _] [.g 0,.g 1,.g 2,.g 3,.g 4,.g 5,.g 6,.o 3] U (zM 5 G (zM 1 G (zv G (aG Try.underlying23 (ap (vq 1 G))) (zv G (aY (vq 0 G) (vq 2 G)) o0)))) (zz [(0,_),(1,_),(6,_),(21,_),(22,_),(7,_),(8,_),(28,_)] [⟨5,94,slH _ _,_⟩] λ a w U=>?_)
   refine a4<|aa U (zm 7 G) (λ hb4=>?_) (λ hb4=>?_)
   ·refine zg [η] [] [.v 29 _,.v 30 _,.v 31 _,.v 32 _,.v 8 _] [.g 0,.g 1,.g 2,.g 3,.g 4,.g 5,.o 4] U (zM 1 rfl (zM 5 rfl (zv rfl (bI aN (ap (vq 0 rfl)) (vq 1 rfl) (by first | omega | (simp at hb2; omega) | (simp at hb4; omega))) (zv rfl (al (vq 2 rfl) aT) (zA 3 rfl o0))))) (zz [(0,_),(1,_),(6,_),(21,_),(22,_),(7,_),(8,_)] [⟨5,94,slH _ _,_⟩] λ a w U=>?_)
    refine a4<|zg [some (13,_)] [] [.adr 34 5 .none True,.v 35 _,.v 36 _,.v 37 _,.v 38 _,.v 39 _,.v 40 _,.v 41 _,.v 42 _,.v 33 _,.v 43 _,.v 44 _,.adr 45 5 (.some _) True,.sto 0,.v 6 _] [.g 0,.g 1,.g 3,.g 4,.o 14] U (oc (ob_a rfl rfl cx) (zM 5 rfl (zM 0 rfl (zM 5 rfl (zv rfl (bI aN (ap (vq 2 rfl)) (vq 3 rfl) (by first | omega | (simp at hb2; omega) | (simp at hb4; omega))) (zv rfl (al (vq 4 rfl) aT) (zM 6 rfl (zM 2 rfl (zQ rfl (fE (hl _ (qg _)) (hm _ (qg _)) (qT (du hl hm _) zd)) (.cons (vq 5 rfl) (.p (vq 6 rfl) (vq 7 rfl))) (zv rfl (a7 (vq 8 rfl)) (zv rfl (ay (vq 9 rfl) rfl) (zv rfl (ay (vq 9 rfl) rfl) (oc (ob_a rfl rfl (dM 0 rfl zk (lz0 0 rfl) aN (vq 1 rfl) zo)) (oc (c4 12 rfl rfl rfl rfl zk (λ _=>bL _ _ _ _) (vq 10 rfl) aT (ba (by rw [bJ zo]; omega))) (zA 11 rfl o0))))))))))))))) (zz [(0,_),(1,_),(21,_),(22,_),(6,_)] [⟨5,94,slH _ _,_⟩] λ a w U=>?_)
    refine ai ?_
    refine a4<|zg [η] [] [.v 46 _,.v 22 _] [.g 0,.g 1,.g 2,.g 4,.o 1] U (zv G (aU (gq 3 G) a5 (bo zo)) (zv G (a7 (vq 0 G)) o0)) (zz [(0,_),(1,_),(21,_),(6,_),(22,_)] [⟨5,94,slH _ _,_⟩] λ a w U=>?_)
    refine a4 ?_
    have U:=St.sel U [0,1,3,2,4]
    rw [dw hi (y:=_) (cS (by simp at hb4; omega)),eh hi (cS (by simp at hb4; omega))] at U; exact ⟨n-1,by omega,i+1,by omega,U⟩
   ·refine qk<|a4<|zg [some (13,_)] [] [.adr 34 5 .none True,.v 35 _,.v 36 _,.v 37 _,.v 38 _,.v 39 _,.v 40 _,.v 41 _,.v 42 _,.v 33 _,.v 43 _,.v 44 _,.adr 45 5 (.some _) True,.sto 0,.v 6 _] [.g 0,.g 1,.g 3,.g 4,.o 14] U (oc (ob_a rfl rfl cx) (zM 5 rfl (zM 0 rfl (zM 5 rfl (zv rfl (bI aN (ap (vq 2 rfl)) (vq 3 rfl) (by first | omega | (simp at hb2; omega) | (simp at hb4; omega))) (zv rfl (al (vq 4 rfl) aT) (zM 6 rfl (zM 2 rfl (zQ rfl (fE (hl _ (qg _)) (y:=0) zd (qT (du hl hm _) zd)) (.cons (vq 5 rfl) (.p (vq 6 rfl) (vq 7 rfl))) (zv rfl (a7 (vq 8 rfl)) (zv rfl (ay (vq 9 rfl) rfl) (zv rfl (ay (vq 9 rfl) rfl) (oc (ob_a rfl rfl (dM 0 rfl zk (lz0 0 rfl) aN (vq 1 rfl) zo)) (oc (c4 12 rfl rfl rfl rfl zk (λ _=>bL _ _ _ _) (vq 10 rfl) aT (ba (by rw [bJ zo]; omega))) (zA 11 rfl o0))))))))))))))) (zz [(0,_),(1,_),(21,_),(22,_),(6,_)] [⟨5,94,slH _ _,_⟩] λ a w U=>?_)
    refine ai ?_
    refine a4<|zg [η] [] [.v 46 _,.v 22 _] [.g 0,.g 1,.g 2,.g 4,.o 1] U (zv G (aU (gq 3 G) a5 (bo zo)) (zv G (a7 (vq 0 G)) o0)) (zz [(0,_),(1,_),(21,_),(6,_),(22,_)] [⟨5,94,slH _ _,_⟩] λ a w U=>?_)
    refine a4 ?_
    have U:=St.sel U [0,1,3,2,4]
    rw [dw hi (y:=_) (d6 (by simp at hb4; omega)),eh hi (d6 (by simp at hb4; omega))] at U; exact ⟨n-1,by omega,i+1,by omega,U⟩
  ·obtain rfl:i=l.length:=by simp at hb3; omega
   refine zf<|aj<|aj<|az<|zt<|zg [some (5,_)] [] [.adr 47 5 .none True,.v 48 _,.v 49 _,.v 50 _,.adr 51 5 (.some _) True,.sto 0] [] U (oc (ob_a G G cx) (zM 0 G (zv G (aG Try.underlying23 (ap (vq 1 G))) (zM 2 G (oc (ob_a G G (dM 0 G zk (lz0 0 G) aN (vq 2 G) zo)) (oc (c4 4 G G G G zk (λ _=>bL _ _ _ _) (vq 3 G) aT (ba (by rw [bJ zo]; omega))) o0)))))) (zz [] [⟨5,94,slH _ _,_⟩] λ a w U=>?_)
   refine zt<|cR (sts:=[none]) (news:=[]) (sp:=[.adr 52 5 .none True,.adr 4 5 .none True]) [] [(4,5)] [⟨4,94,slH _ _,_⟩] U (oc (ob_a G G cx) (oc (ob_a G G (a_asg2 0 G zk)) o0)) zk zk zk ⟨⟨1,rfl⟩,trivial⟩ G zk (zz [] [⟨4,94,slH _ _,_⟩] λ a w U=>?_)
   refine a4<|qh<|ao ?_ (ret_row G U (zm 0 G) ⟨by simp [bJ],qf _,by unfold maxLen; omega,by rw [ei hl hm zo]; exact bx _ _⟩ (by simp [bJ]))
   rw [ei hl hm zo,Nat.max_eq_left zo]
def dif (l m:List Nat)(i:Nat):Nat:=val (l.take i)+4294967296^i-val (m.take i)
def subSt (l m:List Nat)(i:Nat):List Nat:=digs i (dif l m i)++List.replicate (l.length-i) 0
theorem dP {l m:List Nat}{i:Nat}(h:i≤l.length):(subSt l m i).length=l.length:=by simp [subSt,ab]; omega
theorem subSt_zero (l m:List Nat):subSt l m 0=List.replicate l.length 0:=by simp [subSt,digs]
theorem dif_zero (l m:List Nat):1-dif l m 0/4294967296^0=0:=by simp [dif]
theorem fX (m:List Nat)(i:Nat):val (m.take (i+1))=val (m.take i)+4294967296^i*m.getD i 0:=by
 by_cases h:i<m.length
 ·rw [aH h,cS h]
 ·rw [qA zo,qA zo,d6 zo,Nat.mul_zero,xJ]
theorem iP {m:List Nat}(hm:okL m)(i:Nat):m.getD i 0<4294967296:=by
 by_cases h:i<m.length
 ·rw [cS h]; exact hm _ (qg _)
 ·rw [d6 zo]; decide
theorem dif_succ {l m:List Nat}{i:Nat}(h:i<l.length)(hm:okL m):dif l m (i+1)=dif l m i+4294967296^i*(l[i]+4294967295-m.getD i 0):=by
 have h1:=bK hm i
 have h2:=iP hm i
 unfold dif
 rw [aH h,fX,qR]
 generalize 4294967296^i=p at *
 obtain ⟨e,he⟩:∃ e,l[i]+4294967295=m.getD i 0+e:=⟨l[i]+4294967295-m.getD i 0,by omega⟩
 rw [he,ju]
 have h3:p*(l[i]+4294967295)=p*(m.getD i 0+e):=by rw [he]
 rw [zj,zj] at h3
 omega
theorem dif_le {l m:List Nat}(hl:okL l)(i:Nat):dif l m i/4294967296^i≤1:=by
 have h1:=bK hl i
 have h2:0<4294967296^i:=qX zd
 unfold dif
 rw [Nat.div_le_iff_le_mul_add_pred h2]
 omega
theorem fN {l m:List Nat}{i:Nat}(h:i<l.length)(hl:okL l)(hm:okL m){y:Nat}(hy:m.getD i 0=y):(subSt l m i).set i ((l[i]+8589934592-y-(1-dif l m i/4294967296^i))%4294967296)=subSt l m (i+1):=by
 have h1:=iP hm i
 have h2:=dif_le (m:=m) hl i
 unfold subSt
 rw [er _ _ _ _ (ab _ _),fg _ _ zo,dif_succ h hm,d7,hy]
 rw [hy] at h1
 simp only [qM,z4]
 have e:(l[i]+8589934592-y-(1-dif l m i/4294967296^i))%4294967296=(dif l m i/4294967296^i+(l[i]+4294967295-y))%4294967296:=by
  generalize dif l m i/4294967296^i=q at *
  omega
 rw [e,Nat.sub_add_eq]
theorem i4 {l m:List Nat}{i:Nat}(h:i<l.length)(hl:okL l)(hm:okL m){y:Nat}(hy:m.getD i 0=y):(if l[i]<y+(1-dif l m i/4294967296^i) then 1 else 0)=1-dif l m (i+1)/4294967296^(i+1):=by
 have h1:=iP hm i
 have h2:=dif_le (m:=m) hl i
 have h3:=hl _ (qg h)
 rw [dif_succ h hm,carry_step',hy]
 rw [hy] at h1
 generalize dif l m i/4294967296^i=q at *
 split <;> omega
theorem subSt_end {l m:List Nat}(hl:okL l)(hm:m.length≤l.length)(hv:val m≤val l):trimL (subSt l m l.length)=limbs (val l-val m):=by
 unfold subSt dif
 rw [xZ,List.replicate_zero,q8,qN,qA hm]
 have h1:=gX hl
 rw [dr (m':=val l-val m),trimL_digs zo]
 rw [show val l+4294967296^l.length-val m=(val l-val m)+4294967296^l.length from by omega,jV]
theorem ok_subSt {l m:List Nat}{i:Nat}:okL (subSt l m i):=okL_append.2 ⟨bx _ _,λ x hx=>by rw [(jO.1 hx).2]; decide⟩
theorem sub_c (l m:List Nat)(hls:l.length≤1099511627776)(hml:m.length≤l.length)(hv:val m≤val l):Cn Try.prog 63 [(MgA l).va,(MgA m).va] ((MgN (limbs (val l-val m))).va):=by
 refine Cn.introW Try.func63 G zk nq (.cons (hC _).va (.cons (hC _).va .nil)) (di _).va (λ B w0 a hB0 U=>?_)
 have U:=zn [(0,(MgO l).va),(1,(MgO m).va)] [] U
 have hl:=(U.magO 0 rfl).1; have hm:=(U.magO 1 rfl).1
 refine qb<|zh [.v 4 _] [.g 0,.g 1,.o 0] U (zv G (a6 be) o0) (zz [(0,_),(1,_),(4,_)] [] λ a w U=>?_)
 refine zt<|cR (sts:=[]) (news:=[⟨11,94,slH _ _,some 2,_,none⟩]) (sp:=[.v 9 _,.v 10 _,.alc 0,.adr 5 11 .none True]) [.g 0,.g 1,.g 2] [(5,11)] [⟨5,94,slH _ _,_⟩] U (zM 0 G (zv G (aG Try.underlying23 (ap (vq 0 G))) (oc (ez G G G fQ (vq 1 G) (vq 1 G) zo) (oc (ob_a G G ko) o0)))) zk zk zk ⟨⟨3,rfl⟩,trivial⟩ G zk (zz [(0,_),(1,_),(4,_)] [⟨5,94,slH _ _,_⟩] λ a w U=>?_)
 refine zt<|zg [η] [] [.v 6 _] [.g 0,.g 1,.g 2,.o 0] U (zv G (a6 (aB 0 G)) o0) (zz [(0,_),(1,_),(4,_),(6,_)] [⟨5,94,slH _ _,_⟩] λ a w U=>?_)
 refine zt<|qb<|zg [η] [] [.v 12 _,.v 13 _,.v 14 _] [.g 0,.g 1,.g 2,.g 3,.o 1,.o 2] U (zM 0 G (zv G (aG Try.underlying23 (ap (vq 0 G))) (zv G (a7 a5) o0))) (zz [(0,_),(1,_),(4,_),(6,_),(13,_),(14,_)] [⟨5,94,slH _ _,_⟩] λ a w U=>?_)
 refine a4<|qt ?_
 have U:=St.sel U [0,1,3,4,5]
 refine wp_loop_ghost (λ n a w=>∃ i:Nat,n+i=l.length∧St B w0 41 [(0,(MgO l).va),(1,(MgO m).va),(6,(NumA .u32 (1-dif l m i/4294967296^i:Nat)).va),(13,In (l.length:Nat)),(14,In (i:Nat))] [⟨5,94,slH l.length l.length,Nums .u32 (subSt l m i)⟩] a w) (l.length) ?_ ?_
 ·exact ⟨0,by omega,by rw [subSt_zero,dif_zero]; exact U⟩
 intro n a w hI
 obtain ⟨i,hn,U⟩:=hI
 refine qb<|zg [η] [] [.v 15 _] [.g 0,.g 1,.g 2,.g 3,.g 4,.o 0] U (zv G (aY (gq 4 G) (gq 3 G)) o0) (zz [(0,_),(1,_),(6,_),(13,_),(14,_),(15,_)] [⟨5,94,slH _ _,_⟩] λ a w U=>?_)
 refine zt<|aa U (zm 5 G) (λ hb0=>?_) (λ hb0=>?_)
 ·have hi:i<l.length:=by simp at hb0; omega
  refine qk<|zt<|qt<|qb<|zg [η] [] [.v 16 _,.v 7 _] [.g 0,.g 1,.g 2,.g 3,.g 4,.o 1] U (zM 4 G (zA 0 G o0)) (zz [(0,_),(1,_),(6,_),(13,_),(14,_),(7,_)] [⟨5,94,slH _ _,_⟩] λ a w U=>?_)
  refine zt<|zg [η] [] [.v 8 _] [.g 0,.g 1,.g 2,.g 3,.g 4,.g 5,.o 0] U (zv G (a6 (aB 0 G)) o0) (zz [(0,_),(1,_),(6,_),(13,_),(14,_),(7,_),(8,_)] [⟨5,94,slH _ _,_⟩] λ a w U=>?_)
  refine zt<|qb<|zg [η] [] [.v 17 _,.v 18 _,.v 19 _,.v 20 _] [.g 0,.g 1,.g 2,.g 3,.g 4,.g 5,.g 6,.o 3] U (zM 5 G (zM 1 G (zv G (aG Try.underlying23 (ap (vq 1 G))) (zv G (aY (vq 0 G) (vq 2 G)) o0)))) (zz [(0,_),(1,_),(6,_),(13,_),(14,_),(7,_),(8,_),(20,_)] [⟨5,94,slH _ _,_⟩] λ a w U=>?_)
  refine a4<|aa U (zm 7 G) (λ hb1=>?_) (λ hb1=>?_)
  ·refine zg [η] [] [.v 21 _,.v 22 _,.v 23 _,.v 24 _,.v 8 _] [.g 0,.g 1,.g 2,.g 3,.g 4,.g 5,.o 4] U (zM 1 rfl (zM 5 rfl (zv rfl (bI aN (ap (vq 0 rfl)) (vq 1 rfl) (by first | omega | (simp at hb1; omega))) (zv rfl (al (vq 2 rfl) aT) (zA 3 rfl o0))))) (zz [(0,_),(1,_),(6,_),(13,_),(14,_),(7,_),(8,_)] [⟨5,94,slH _ _,_⟩] λ a w U=>?_)
   refine a4<|zg [some (13,_)] [] [.adr 26 5 .none True,.v 27 _,.v 28 _,.v 29 _,.v 30 _,.v 31 _,.v 32 _,.v 33 _,.v 34 _,.v 25 _,.v 35 _,.v 36 _,.adr 37 5 (.some _) True,.sto 0,.v 6 _] [.g 0,.g 1,.g 3,.g 4,.o 14] U (oc (ob_a rfl rfl cx) (zM 5 rfl (zM 0 rfl (zM 5 rfl (zv rfl (bI aN (ap (vq 2 rfl)) (vq 3 rfl) (by first | omega | (simp at hb1; omega))) (zv rfl (al (vq 4 rfl) aT) (zM 6 rfl (zM 2 rfl (zQ rfl (sub32_c (hl _ (qg _)) (hm _ (qg _)) (qT (Nat.sub_le _ _) zd)) (.cons (vq 5 rfl) (.p (vq 6 rfl) (vq 7 rfl))) (zv rfl (a7 (vq 8 rfl)) (zv rfl (ay (vq 9 rfl) rfl) (zv rfl (ay (vq 9 rfl) rfl) (oc (ob_a rfl rfl (dM 0 rfl zk (lz0 0 rfl) aN (vq 1 rfl) zo)) (oc (c4 12 rfl rfl rfl rfl zk (λ _=>bL _ _ _ _) (vq 10 rfl) aT (ba (by rw [dP zo]; omega))) (zA 11 rfl o0))))))))))))))) (zz [(0,_),(1,_),(13,_),(14,_),(6,_)] [⟨5,94,slH _ _,_⟩] λ a w U=>?_)
   refine ai ?_
   refine a4<|zg [η] [] [.v 38 _,.v 14 _] [.g 0,.g 1,.g 2,.g 4,.o 1] U (zv G (aU (gq 3 G) a5 (bo zo)) (zv G (a7 (vq 0 G)) o0)) (zz [(0,_),(1,_),(13,_),(6,_),(14,_)] [⟨5,94,slH _ _,_⟩] λ a w U=>?_)
   refine a4 ?_
   have U:=St.sel U [0,1,3,2,4]
   rw [fN hi hl hm (y:=_) (cS (by simp at hb1; omega)),i4 hi hl hm (cS (by simp at hb1; omega))] at U; exact ⟨n-1,by omega,i+1,by omega,U⟩
  ·refine qk<|a4<|zg [some (13,_)] [] [.adr 26 5 .none True,.v 27 _,.v 28 _,.v 29 _,.v 30 _,.v 31 _,.v 32 _,.v 33 _,.v 34 _,.v 25 _,.v 35 _,.v 36 _,.adr 37 5 (.some _) True,.sto 0,.v 6 _] [.g 0,.g 1,.g 3,.g 4,.o 14] U (oc (ob_a rfl rfl cx) (zM 5 rfl (zM 0 rfl (zM 5 rfl (zv rfl (bI aN (ap (vq 2 rfl)) (vq 3 rfl) (by first | omega | (simp at hb1; omega))) (zv rfl (al (vq 4 rfl) aT) (zM 6 rfl (zM 2 rfl (zQ rfl (sub32_c (hl _ (qg _)) (y:=0) zd (qT (Nat.sub_le _ _) zd)) (.cons (vq 5 rfl) (.p (vq 6 rfl) (vq 7 rfl))) (zv rfl (a7 (vq 8 rfl)) (zv rfl (ay (vq 9 rfl) rfl) (zv rfl (ay (vq 9 rfl) rfl) (oc (ob_a rfl rfl (dM 0 rfl zk (lz0 0 rfl) aN (vq 1 rfl) zo)) (oc (c4 12 rfl rfl rfl rfl zk (λ _=>bL _ _ _ _) (vq 10 rfl) aT (ba (by rw [dP zo]; omega))) (zA 11 rfl o0))))))))))))))) (zz [(0,_),(1,_),(13,_),(14,_),(6,_)] [⟨5,94,slH _ _,_⟩] λ a w U=>?_)
   refine ai ?_
   refine a4<|zg [η] [] [.v 38 _,.v 14 _] [.g 0,.g 1,.g 2,.g 4,.o 1] U (zv G (aU (gq 3 G) a5 (bo zo)) (zv G (a7 (vq 0 G)) o0)) (zz [(0,_),(1,_),(13,_),(6,_),(14,_)] [⟨5,94,slH _ _,_⟩] λ a w U=>?_)
   refine a4 ?_
   have U:=St.sel U [0,1,3,2,4]
   rw [fN hi hl hm (y:=_) (d6 (by simp at hb1; omega)),i4 hi hl hm (d6 (by simp at hb1; omega))] at U; exact ⟨n-1,by omega,i+1,by omega,U⟩
 ·obtain rfl:i=l.length:=by simp at hb0; omega
  refine zf<|aj<|aj<|az<|zt<|zg [η] [] [.adr 39 5 .none True,.v 40 _,.v 4 _] [.o 2] U (oc (ob_a G G cx) (zQ G (kA famN _) (.o (has_rowN 0 G zk (lz0 0 G) ⟨by rw [dP (qf _)],qf _,by unfold maxLen; omega,ok_subSt⟩ (by rw [dP (qf _)]))) (zA 1 G o0))) (zz [(4,_)] [⟨5,94,slH _ _,_⟩] λ a w U=>?_)
  refine a4<|qh<|ao ?_ (ae G U (zm 0 G))
  rw [subSt_end hl hml hv]
def rsig (neg:Bool)(l:List Nat):RI:=⟨neg && !(trimL l).isEmpty,trimL l⟩
theorem fb {M:List Nat→As}{neg:Bool}{l:List Nat}(h:(((trimL l).length:Int)==0)=true):(cat (setAll [BoA false,M []] [])).va=(cat [BoA (rsig neg l).neg,M (rsig neg l).mag]).va:=by
 have:trimL l=[]:=by simpa using h
 unfold rsig
 rw [this]; simp; rfl
theorem i7 {M:List Nat→As}{neg:Bool}{l:List Nat}(h:(((trimL l).length:Int)==0)=false):(cat (setAll [BoA false,M []] [(0,BoA neg),(1,M (trimL l))])).va=(cat [BoA (rsig neg l).neg,M (rsig neg l).mag]).va:=by
 have:(trimL l).isEmpty=false:=by cases hh:trimL l <;> simp_all
 unfold rsig
 rw [this]; simp; rfl
theorem dQ (neg:Bool)(l:List Nat):Cn Try.prog 60 [Bo neg,(MgA l).va] ((RIA (rsig neg l)).va):=by
 refine Cn.intro Try.func60 G zk nq (λ B w0 a U=>?_)
 have U:=zn [(0,Bo neg),(1,(MgA l).va)] [] U
 refine qb<|zg [] [⟨4,25,ptrH,some 0,_,none⟩] [.alc 0] [.g 0,.g 1] U (zY G (Str.zero (cw famA)) o0) (zz [(0,_),(1,_)] [O 4 25 _] λ a w U=>?_)
 refine zt<|qb<|zg [η] [] [.v 5 _,.v 6 _,.v 1 _] [.g 0,.o 2] U (zM 1 G (zQ G (kA famA _) (.o (vq 0 G)) (zA 1 G o0))) (zz [(0,_),(1,_)] [O 4 25 _] λ a w U=>?_)
 refine zt<|zg [η] [] [.v 7 _,.v 8 _,.v 9 _] [.g 0,.g 1,.o 2] U (zM 1 G (zv G (aG Try.underlying23 (vq 0 G)) (zv G (bd (vq 1 G) a5) o0))) (zz [(0,_),(1,_),(9,_)] [O 4 25 _] λ a w U=>?_)
 refine a4<|aa U (zm 2 G) (λ hb0=>?_) (λ hb0=>?_)
 ·refine qb<|zg [some (1,_)] [] [.v 10 _,.sto 0] [.g 0,.g 1] U (zv G (aO (qs:=[]) (cw famA) .nil) (zS 0 G am o0)) (zz [(0,_),(1,_)] [O 4 25 _] λ a w U=>?_)
  refine a4<|qh<|ac ?_
  refine ao ?_ (ax G U (zm 0 G) am)
  exact fb (M:=MgA) hb0
 ·refine qk<|zt<|zg [some (3,_)] [] [.v 11 _,.v 12 _,.v 13 _,.sto 0] [] U (zM 0 G (zM 1 G (zv G (aO (qs:=[(0,_),(1,_)]) (cw famA) (.cons ⟨rfl,vq 0 rfl,rfl⟩ (.cons ⟨rfl,vq 1 rfl,rfl⟩ .nil))) (zS 2 G am o0)))) (zz [] [O 4 25 _] λ a w U=>?_)
  refine a4<|qh<|ao ?_ (ax G U (zm 0 G) am)
  exact i7 (M:=MgA) hb0
theorem c9 (neg:Bool)(l:List Nat):Cn Try.prog 60 [Bo neg,(MgN l).va] ((RIN (rsig neg l)).va):=by
 refine Cn.intro Try.func60 G zk nq (λ B w0 a U=>?_)
 have U:=zn [(0,Bo neg),(1,(MgN l).va)] [] U
 refine qb<|zg [] [⟨4,25,ptrH,some 0,_,none⟩] [.alc 0] [.g 0,.g 1] U (zY G (Str.zero (cw famN)) o0) (zz [(0,_),(1,_)] [O 4 25 _] λ a w U=>?_)
 refine zt<|qb<|zg [η] [] [.v 5 _,.v 6 _,.v 1 _] [.g 0,.o 2] U (zM 1 G (zQ G (kA famN _) (.o (vq 0 G)) (zA 1 G o0))) (zz [(0,_),(1,_)] [O 4 25 _] λ a w U=>?_)
 refine zt<|zg [η] [] [.v 7 _,.v 8 _,.v 9 _] [.g 0,.g 1,.o 2] U (zM 1 G (zv G (aG Try.underlying23 (has_new (vq 0 G))) (zv G (bd (vq 1 G) a5) o0))) (zz [(0,_),(1,_),(9,_)] [O 4 25 _] λ a w U=>?_)
 refine a4<|aa U (zm 2 G) (λ hb0=>?_) (λ hb0=>?_)
 ·refine qb<|zg [some (1,_)] [] [.v 10 _,.sto 0] [.g 0,.g 1] U (zv G (aO (qs:=[]) (cw famN) .nil) (zS 0 G am o0)) (zz [(0,_),(1,_)] [O 4 25 _] λ a w U=>?_)
  refine a4<|qh<|ac ?_
  refine ao ?_ (ax G U (zm 0 G) am)
  exact fb (M:=MgN) hb0
 ·refine qk<|zt<|zg [some (3,_)] [] [.v 11 _,.v 12 _,.v 13 _,.sto 0] [] U (zM 0 G (zM 1 G (zv G (aO (qs:=[(0,_),(1,_)]) (cw famN) (.cons ⟨rfl,vq 0 rfl,rfl⟩ (.cons ⟨rfl,vq 1 rfl,rfl⟩ .nil))) (zS 2 G am o0)))) (zz [] [O 4 25 _] λ a w U=>?_)
  refine a4<|qh<|ao ?_ (ax G U (zm 0 G) am)
  exact i7 (M:=MgN) hb0
theorem mgz_n {l:List Nat}(h:0<l.length):(MgN l).n=(MgZ l).n∧(MgN l).ag=(MgZ l).ag∧∀ B cs w,(MgZ l).p B cs w→(MgN l).p B cs w:=⟨rfl,rfl,λ B cs w ⟨ok,A,c,e,h1,h2,h3⟩=>by
 obtain ⟨g,ext,rfl,rfl,h4,h5⟩:=h3 h
 exact ⟨ok,.inr ⟨g,ext,e,h2,h4,h5⟩⟩⟩
theorem signed_z1 {neg:Bool}{l:List Nat}(h:(((trimL l).length:Int)==0)=false):Wk (cat (setAll [BoA false,MgN []] [(0,BoA neg),(1,MgZ (trimL l))])).va (RIN (rsig neg l)).va:=by
 have h1:(trimL l).isEmpty=false:=by cases hh:trimL l <;> simp_all
 have h2:0<(trimL l).length:=by cases hh:trimL l <;> simp_all
 have e:RIN (rsig neg l)=cat [BoA neg,MgN (trimL l)]:=by unfold rsig RIN; rw [h1]; simp
 rw [e]
 exact λ B v w ⟨cs,⟨ps,hp,hq⟩,hv⟩=>by
  cases hq with
  | cons q1 hq=>cases hq with
   | cons q2 hq=>exact ⟨cs,⟨_,hp,.cons q1 (.cons ((mgz_n h2).2.2 _ _ _ q2) hq)⟩,hv⟩
theorem signedZ_c (neg:Bool)(l:List Nat):Cn Try.prog 60 [Bo neg,(MgZ l).va] ((RIN (rsig neg l)).va):=by
 refine Cn.intro Try.func60 G zk nq (λ B w0 a U=>?_)
 have U:=zn [(0,Bo neg),(1,(MgZ l).va)] [] U
 refine qb<|zg [] [⟨4,25,ptrH,some 0,_,none⟩] [.alc 0] [.g 0,.g 1] U (zY G (Str.zero (cw famN)) o0) (zz [(0,_),(1,_)] [O 4 25 _] λ a w U=>?_)
 refine zt<|qb<|zg [η] [] [.v 5 _,.v 6 _,.v 1 _] [.g 0,.o 2] U (zM 1 G (zQ G (kA famZ _) (.o (vq 0 G)) (zA 1 G o0))) (zz [(0,_),(1,_)] [O 4 25 _] λ a w U=>?_)
 refine zt<|zg [η] [] [.v 7 _,.v 8 _,.v 9 _] [.g 0,.g 1,.o 2] U (zM 1 G (zv G (aG Try.underlying23 (has_newZ (vq 0 G))) (zv G (bd (vq 1 G) a5) o0))) (zz [(0,_),(1,_),(9,_)] [O 4 25 _] λ a w U=>?_)
 refine a4<|aa U (zm 2 G) (λ hb0=>?_) (λ hb0=>?_)
 ·refine qb<|zg [some (1,_)] [] [.v 10 _,.sto 0] [.g 0,.g 1] U (zv G (aO (qs:=[]) (cw famN) .nil) (zS 0 G am o0)) (zz [(0,_),(1,_)] [O 4 25 _] λ a w U=>?_)
  refine a4<|qh<|ac ?_
  refine an ?_ (ax G U (zm 0 G) am)
  exact λ _ _ _ h=>(fb (M:=MgN) hb0)▸h
 ·refine qk<|zt<|zg [some (3,_)] [] [.v 11 _,.v 12 _,.v 13 _,.sto 0] [] U (zM 0 G (zM 1 G (zv G (aO (qs:=[(0,_),(1,_)]) (cw famN) (.cons ⟨rfl,vq 0 rfl,rfl⟩ (.cons ⟨rfl,vq 1 rfl,rfl⟩ .nil))) (zS 2 G am o0)))) (zz [] [O 4 25 _] λ a w U=>?_)
  refine a4<|qh<|an ?_ (ax G U (zm 0 G) am)
  exact signed_z1 hb0
set_option maxHeartbeats 2000000 in
theorem clone_some (b off n c:Nat)(zs:List Nat)(w:World)(hn:n=zs.length)(h0:0<n)(hbig:n*4≤140737488355328)(hc:∀ j (h:j<zs.length),w.cell? ⟨b,off+j,none⟩=some (.int .u32 (zs[j]:Nat))) :
  Calls Try.prog 75 #[.slice (some ⟨b,off,none⟩) n c] w λ e w'=>∃ g c ext,e=.returned (.slice (some ⟨g,0,none⟩) n c)∧w.heap.size≤g∧n≤c∧c≤maxLen∧w'.heap[g]?=some (.cells ((zs++ext).map λ (x:Nat)=>Value.int .u32 x).toArray U32 (0,0))∧Grow w w'∧c=(zs++ext).length:=by
 have t22:Try.prog.underlying 23=some (.slice U32):=by kernel_rfl
 obtain ⟨i0,hi,hz0,hz1,hz2⟩:=kz
 have q22:∀ (w:World) (a:Option Addr) (n c n' c':Nat),(binOp .eql 23 (.slice a n c) (.slice none n' c')).run Try.prog w=.ok (.bool a.isNone) w:=λ w a n c n' c'=>Lib.run_eql_slice_nil w _ _ a n c n' c' t22
 have u22:∀ w,Sem.run Try.prog (underlying 23) w=.ok (TypeDesc.slice U32) w:=run_underlying t22
 have A:Aside (∀ j (h:j<zs.length),w.cell? ⟨b,off+j,none⟩=some (.int .u32 (zs[j]:Nat))):=hc
 have HN:Aside (n=zs.length):=hn
 clear hc hn
 go_enter Try.func75,Try.ntmps75
 go_wp2_with (at_builtin; refine ej rfl _ _ 23 rfl U32 i0 (.int .u32 0) t22 hi hz0 hz1 hz2 _ rfl ⟨b,off,none⟩ n c (zs.map λ (x:Nat)=>Value.int .u32 x) rfl ?qc1 ?qc2 h0 hbig ?_)
 case qc1=>simp; exact HN.out.symm
 case qc2 =>
  intro j u hj
  have hjn:j<zs.length:=by
   have:=(List.getElem?_eq_some_iff.1 hj).1
   simpa using this
  rw [Addr.add_lit]
  refine Lib.cell?_alloc_some _ ?_
  rw [A.out j hjn]
  simpa [hjn] using hj
 go_wp2
 go_ret
 refine ⟨_,_,List.replicate (grownCap (w.alloc (.cells #[] U32)) n 0 U32-n) 0,rfl,by omega,grownCap_ge _ _ _ _,grownCap_le_maxLen _ _ _ _ (by unfold maxLen; omega),?_,?_,?_⟩
 ·have e:(w.alloc (.cells #[] U32)).heap.size=w.heap.size+1:=by simp
  rw [← e,zero_cells,zF,← jJ]
  exact heap_alloc_new _ _
 ·exact ((Grow.alloc w _).trans (Grow.alloc _ _)).trans (Grow.drew _)
 ·have:=grownCap_ge (w.alloc (.cells #[] U32)) n 0 U32
  have hnz:=HN.out
  rw [qE,xq]
  omega
theorem clone_nil (c:Nat)(w:World):Calls Try.prog 75 #[.slice none 0 c] w λ e w'=>e=.returned (.slice none 0 0)∧w=w':=by
 have t22:Try.prog.underlying 23=some (.slice U32):=by kernel_rfl
 have q22:∀ (w:World) (a:Option Addr) (n c n' c':Nat),(binOp .eql 23 (.slice a n c) (.slice none n' c')).run Try.prog w=.ok (.bool a.isNone) w:=λ w a n c n' c'=>Lib.run_eql_slice_nil w _ _ a n c n' c' t22
 go_enter Try.func75,Try.ntmps75
 go_wp2
 go_ret
 exact ⟨rfl,rfl⟩
theorem clone_zero (ad:Addr)(c:Nat)(w:World):Calls Try.prog 75 #[.slice (some ad) 0 c] w λ e w'=>∃ A c,e=.returned (.slice A 0 c)∧c≤maxLen∧Below w.heap.size w w':=by
 have t22:Try.prog.underlying 23=some (.slice U32):=by kernel_rfl
 obtain ⟨i0,hi,hz0,hz1,hz2⟩:=kz
 have q22:∀ (w:World) (a:Option Addr) (n c n' c':Nat),(binOp .eql 23 (.slice a n c) (.slice none n' c')).run Try.prog w=.ok (.bool a.isNone) w:=λ w a n c n' c'=>Lib.run_eql_slice_nil w _ _ a n c n' c' t22
 have u22:∀ w,Sem.run Try.prog (underlying 23) w=.ok (TypeDesc.slice U32) w:=run_underlying t22
 go_enter Try.func75,Try.ntmps75
 go_wp2_with (at_builtin; refine wpList_append_own _ rfl _ _ 23 rfl w.heap.size U32 i0 (.int .u32 0) 1 4 t22 hi hz0 hz1 hz2 rfl zd _ _ _ rfl (World.ownsRow_made w #[] 0 (qf _) (zi _) rfl) ad 0 c [] rfl rfl ?qc2 ?qc3 ?qc4 ?qc5 ?qc6 ?_)
 case qc2=>intro j u hj; simp at hj
 case qc3=>intro u hu; cases hu
 case qc4=>unfold maxLen; omega
 case qc5=>omega
 case qc6=>simp
 intro v' w1 hown hgrow hnil
 go_wp2
 go_ret
 have hb:=((Below.refl _ w).alloc (qf _) _).grown hgrow (by simp) (by intro k hk; simp [Value.ownBlock] at hk; omega)
 rcases hown.2 with ⟨rfl,_⟩ | ⟨g,cap,cur,rfl,_,_,_,h4,_⟩
 ·exact ⟨none,0,rfl,zi _,hb⟩
 ·exact ⟨_,cap,rfl,h4,hb⟩
theorem clone_c (l:List Nat)(hls:l.length≤1099511627776):Cn Try.prog 75 [(MgA l).va] (MgZ l).va:=by
 refine ⟨fA Try.func75 zk zk,λ B w args hB ha=>?_⟩
 obtain ⟨v,rfl,hv⟩:=ha.one
 obtain ⟨A,c,rfl,hm⟩:=fm hv
 by_cases h0:l.length=0
 ·have hl:l=[]:=jc h0
  subst hl
  cases A with
  | none =>
   refine (clone_nil c w).mono λ e w' ⟨he,hw⟩=>?_
   subst hw
   exact ⟨_,he,⟨_,famZ.nil B w,rfl⟩,Grow.refl w⟩
  | some ad=>exact (clone_zero ad c w).mono λ e w' ⟨A,c,he,hm,hb⟩=>⟨_,he,⟨_,⟨bT,A,c,rfl,zi _,hm,λ h=>by simp at h⟩,rfl⟩,hb⟩
 ·obtain ⟨b,o,rfl,h1,h2,h3⟩:=hm.at_ zo
  exact (clone_some b o l.length c l w G zo zo h3).mono λ e w' ⟨g,c,ext,he,h4,h5,h6,h7,hb,hcx⟩=>⟨_,he,⟨_,⟨hm.ok,_,c,rfl,h5,h6,λ _=>⟨g,ext,rfl,hcx,qe hB h4,h7⟩⟩,rfl⟩,hb⟩
theorem own_c (neg:Bool)(l:List Nat)(hls:l.length≤1099511627776):Cn Try.prog 66 [Bo neg,(MgA l).va] ((RIN (rsig neg l)).va):=by
 refine Cn.intro Try.func66 G zk nq (λ B w0 a U=>?_)
 have U:=zn [(0,Bo neg),(1,(MgA l).va)] [] U
 refine qb<|zg [] [⟨4,25,ptrH,some 0,_,none⟩] [.alc 0] [.g 0,.g 1] U (zY G (Str.zero (cw famN)) o0) (zz [(0,_),(1,_)] [O 4 25 _] λ a w U=>?_)
 refine zt<|zg [some (4,_)] [] [.v 5 _,.v 6 _,.v 7 _,.v 8 _,.sto 0] [] U (zM 0 G (zM 1 G (zQ G (clone_c _ hls) (.o (vq 1 G)) (zQ G (signedZ_c _ _) (.p (vq 0 G) (vq 2 G)) (zS 3 G am o0))))) (zz [] [O 4 25 _] λ a w U=>?_)
 exact a4<|qh<|ax G U (zm 0 G) am
end Go.Proofs.Ytlakjmncfooodaa
