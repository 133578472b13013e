import Derived.Test.YtedfcalhhldijaaGreatDoorRwAc
set_option linter.all false
set_option maxRecDepth 100000
namespace Go.Proofs.YtedfcalhhldijaaGreatDoor
open Go Go.RowKit
variable {w:World}{B:Nat}{a:Act}{v:Value}{T:TypeId}{w0:Bs}{Γ:List (Nat × VA)}{Λ:List Lc}{ps:String}{af:Array Edge}{vr:Value}{H:Hd}{cs:List Value}{w':World}{P:Program}{D:List TypeId}
theorem tu2 {a b c d:VA}(h:a=c)(h':b=d):Tu [a,b]=Tu [c,d]:=by rw [h,h']
theorem nu {k:IntKind}{m n:Int}(h:m=n):(NumA k m).va=(NumA k n).va:=by rw [h]
theorem sK {x y c:Nat}(hx:x<4294967296)(hy:y<4294967296)(hc:c<4294967296):IntKind.u64.wrap (IntKind.u64.wrap (IntKind.u64.wrap (x:Int)+IntKind.u64.wrap (y:Int))+IntKind.u64.wrap (c:Int))=((x+y+c:Nat):Int):=by
 rw [wu64 zo,wu64 zo,wadd64 zo,wu64 zo,wadd64 zo]
theorem yE {h l d:Nat}(hh:h<d)(hl:l<4294967296)(hd:d<4294967296):bits .or .u64 (IntKind.u64.wrap (IntKind.u64.wrap (h:Int)*2^((32:Int).toNat))) (IntKind.u64.wrap (l:Int))=((h*4294967296+l:Nat):Int):=by
 rw [wu64 (x:=h) zo,wu64 (x:=l) zo,wshl32 zo,or64 zo hl]
theorem pN {h l d:Nat}(hh:h<d)(hl:l<4294967296):(h*4294967296+l)/d<4294967296:=by
 apply zD
 have:(h+1)*4294967296≤d*4294967296:=qR _ hh
 omega
theorem lu {x y c:Nat}(hx:x<4294967296)(hy:y<4294967296)(hc:c<4294967296):Cn Tryz.prog 223 [(NumA .u32 (x:Nat)).va,(NumA .u32 (y:Nat)).va,(NumA .u32 (c:Nat)).va] (Tu [(NumA .u32 ((x+y+c)%4294967296:Nat)).va,(NumA .u32 ((x+y+c)/4294967296:Nat)).va]):=by
 refine Cn.intro Tryz.func223 G zk nq (λ B w0 a U=>?_)
 have U:=zn [(0,(NumA .u32 (x:Nat)).va),(1,(NumA .u32 (y:Nat)).va),(2,(NumA .u32 (c:Nat)).va)] [] U
 refine qb<|zh [.v 6 _,.v 7 _] [.g 0,.g 1,.g 2,.o 0,.o 1] U (zv G (ac ab) (zv G (ac ab) o0)) (zz [(0,_),(1,_),(2,_),(6,_),(7,_)] [] λ a w U=>?_)
 refine zt<|zh [.v 9 _,.v 10 _,.v 11 _,.v 12 _,.v 13 _,.v 14 _,.v 15 _,.v 16 _,.v 8 _] [.g 3,.g 4,.o 8] U (zM 0 G (zv G (aK .u64 zk zk (vq 0 G) (G)) (zM 1 G (zv G (aK .u64 zk zk (vq 2 G) (G)) (zv G (aN (vq 1 G) (vq 3 G) (G)) (zM 2 G (zv G (aK .u64 zk zk (vq 5 G) (G)) (zv G (aN (vq 4 G) (vq 6 G) (G)) (zA 7 G o0))))))))) (zz [(6,_),(7,_),(8,_)] [] λ a w U=>?_)
 refine zt<|zh [.v 17 _,.v 18 _,.v 6 _] [.g 1,.g 2,.o 2] U (zM 2 G (zv G (aK .u32 zk zk (vq 0 G) (G)) (zA 1 G o0))) (zz [(7,_),(8,_),(6,_)] [] λ a w U=>?_)
 refine zt<|zh [.v 19 _,.v 20 _,.v 21 _,.v 7 _] [.g 2,.o 3] U (zM 1 G (zv G (i7 (vq 0 G) ab zd (G)) (zv G (aK .u32 zk zk (vq 1 G) (G)) (zA 2 G o0)))) (zz [(6,_),(7,_)] [] λ a w U=>?_)
 refine aa<|qg<|aC ?_ (bf (rs:=[.tmp 6,.tmp 7]) G U (.tmp (zm 0 G) (.tmp (zm 1 G) .nil)) zd)
 exact tu2 (nu (by rw [sK hx hy hc,wu32'])) (nu (by rw [sK hx hy hc]; exact (qm _ nshr).trans (wu32 (by show (x+y+c)/4294967296<_; omega))))
theorem uh {x y c:Nat}(hx:x<4294967296)(hy:y<4294967296)(hc:c<2):Cn Tryz.prog 224 [(NumA .u32 (x:Nat)).va,(NumA .u32 (y:Nat)).va,(NumA .u32 (c:Nat)).va] (Tu [(NumA .u32 ((x+8589934592-y-c)%4294967296:Nat)).va,(NumA .u32 (if x<y+c then 1 else 0:Nat)).va]):=by
 refine Cn.intro Tryz.func224 G zk nq (λ B w0 a U=>?_)
 have U:=zn [(0,(NumA .u32 (x:Nat)).va),(1,(NumA .u32 (y:Nat)).va),(2,(NumA .u32 (c:Nat)).va)] [] U
 refine qb<|zh [.v 6 _,.v 7 _] [.g 0,.g 1,.g 2,.o 0,.o 1] U (zv G (ac ab) (zv G (ac ab) o0)) (zz [(0,_),(1,_),(2,_),(6,_),(7,_)] [] λ a w U=>?_)
 refine zt<|zh [.v 8 _,.v 9 _,.v 10 _,.v 11 _,.v 12 _,.v 6 _] [.g 0,.g 1,.g 4,.o 5] U (zM 0 G (zM 1 G (zv G (c6 (vq 0 G) (vq 1 G) (G)) (zM 2 G (zv G (c6 (vq 2 G) (vq 3 G) (G)) (zA 4 G o0)))))) (zz [(0,_),(1,_),(7,_),(6,_)] [] λ a w U=>?_)
 refine zt<|zh [.v 13 _,.v 14 _,.v 15 _,.v 16 _,.v 17 _,.v 18 _,.v 19 _,.v 20 _,.v 21 _,.v 22 _,.v 23 _,.v 24 _,.v 7 _] [.g 3,.o 12] U (zM 0 G (zv G (De (vq 0 G) (G)) (zM 1 G (zv G (Dg (vq 1 G) (vq 2 G) (G)) (zM 0 G (zM 1 G (zv G (r_bxor (vq 4 G) (vq 5 G) (G)) (zv G (De (vq 6 G) (G)) (zM 3 G (zv G (Dg (vq 7 G) (vq 8 G) (G)) (zv G (sX (vq 3 G) (vq 9 G) (G)) (zv G (i7 (vq 10 G) ab zd (G)) (zA 11 G o0))))))))))))) (zz [(6,_),(7,_)] [] λ a w U=>?_)
 refine aa<|qg<|aC ?_ (bf (rs:=[.tmp 6,.tmp 7]) G U (.tmp (zm 0 G) (.tmp (zm 1 G) .nil)) zd)
 exact tu2 (nu (ug hx hy hc)) (nu (An hx hy hc))
theorem GS {h l d:Nat}(hh:h<d)(hl:l<4294967296)(hd:d<4294967296):Cn Tryz.prog 250 [(NumA .u32 (h:Nat)).va,(NumA .u32 (l:Nat)).va,(NumA .u32 (d:Nat)).va] (Tu [(NumA .u32 ((h*4294967296+l)/d:Nat)).va,(NumA .u32 ((h*4294967296+l)%d:Nat)).va]):=by
 refine Cn.intro Tryz.func250 G zk nq (λ B w0 a U=>?_)
 have U:=zn [(0,(NumA .u32 (h:Nat)).va),(1,(NumA .u32 (l:Nat)).va),(2,(NumA .u32 (d:Nat)).va)] [] U
 refine qb<|zh [.v 6 _,.v 7 _] [.g 0,.g 1,.g 2,.o 0,.o 1] U (zv G (ac ab) (zv G (ac ab) o0)) (zz [(0,_),(1,_),(2,_),(6,_),(7,_)] [] λ a w U=>?_)
 refine zt<|qb<|zh [.v 9 _,.v 10 _,.v 11 _,.t 12 _,.t 13 _,.t 14 _,.v 15 _] [.g 0,.g 1,.g 2,.g 3,.g 4,.o 6] U (zM 2 G (zv G (bX (vq 0 G) ab) (zv G (ai (vq 1 G)) (zB 2 G (λ hg=>ai (gq 2 G)) (zB 2 G (λ hg=>ai (gq 0 G)) (zB 2 G (λ hg=>gz (ak (vq 3 G) hg) (ak (vq 4 G) hg)) (zv G (bA (vq 2 G) (vq 5 G)) o0))))))) (zz [(0,_),(1,_),(2,_),(6,_),(7,_),(15,_)] [] λ a w U=>?_)
 refine aa<|aj U (zm 5 G) (λ hb0=>?_) (λ hb0=>?_)
 ·exact absurd hb0 (by simp; omega)
 ·refine qh<|zt<|zh [.v 17 _,.v 18 _,.v 19 _,.v 20 _,.v 21 _,.v 22 _,.v 8 _] [.g 2,.g 3,.g 4,.o 6] U (zM 0 G (zv G (aK .u64 zk zk (vq 0 G) (G)) (zv G (sV (vq 1 G) ab zd (G)) (zM 1 G (zv G (aK .u64 zk zk (vq 3 G) (G)) (zv G (sX (vq 2 G) (vq 4 G) (G)) (zA 5 G o0))))))) (zz [(2,_),(6,_),(7,_),(8,_)] [] λ a w U=>?_)
  refine zt<|zgd [[],[],[1],[0,1,2],[0,1,2,3],[],[],[6],[5,6,7],[5,6,7,8],[0,1,2,3,4],[0,1,2,3,4,5,6,7,8,9,10]] [] [] [.v 23 _,.v 24 _,.v 25 _,.v 26 _,.v 27 _,.v 28 _,.v 29 _,.v 30 _,.v 31 _,.v 32 _,.v 6 _,.v 7 _] [.o 10,.o 11] ae U (zM 3 G (zM 0 G (zv G (aK .u64 zk zk (vq 1 G) (G)) (zv G (lC (vq 0 G) (vq 2 G) (by rw [wu64 zo]; omega) (G)) (zv G (aK .u32 zk zk (vq 3 G) (G)) (zM 3 G (zM 0 G (zv G (aK .u64 zk zk (vq 6 G) (G)) (zv G (nO (vq 5 G) (vq 7 G) (by rw [wu64 zo]; omega) (G)) (zv G (aK .u32 zk zk (vq 8 G) (G)) (zA 4 G (zA 9 G o0)))))))))))) zk zk zk zk (zz [(6,_),(7,_)] [] λ a w U=>?_)
  refine aa<|qg<|aC ?_ (bf (rs:=[.tmp 6,.tmp 7]) G U (.tmp (zm 0 G) (.tmp (zm 1 G) .nil)) zd)
  exact tu2 (nu (by rw [yE hh hl hd,wu64 (x:=d) zo]; exact (qm _ (nquo (by have:=pN hh hl; omega))).trans (wu32 (pN hh hl)))) (nu (by rw [yE hh hl hd,wu64 (x:=d) zo]; exact (qm _ nrem).trans (wu32 (by have:=qM (h*4294967296+l) (show 0<d by omega); omega))))
theorem EO {l m:List Nat}(ha:l.length≤9223372036854775807)(hb:m.length≤9223372036854775807)(h:((l.length:Int) != (m.length:Int))=true):IntKind.i64.wrap ((l.length:Int)-(m.length:Int))=sizeL l m:=by
 have h':l.length≠m.length:=by simp at h; omega
 unfold sizeL
 rw [qz h',wi64 zo zo]
theorem EN {l m:List Nat}{j:Nat}(ha:okL l)(hl:l.length=m.length)(hj:j<l.length)(hd:l.drop (j+1)=m.drop (j+1))(h:decide (((l[j]:Nat):Int)<((m[j]'zo:Nat):Int))=true):(-1:Int)=sizeL l m:=by
 have:=rl (a:=l) (b:=m) ha hj zo hd (by simpa using h)
 unfold sizeL
 rw [qw zo,qz this]
theorem EM {l m:List Nat}{j:Nat}(hb:okL m)(hl:l.length=m.length)(hj:j<l.length)(hd:l.drop (j+1)=m.drop (j+1))(hne:(((l[j]:Nat):Int) != ((m[j]'zo:Nat):Int))=true)(h:decide (((l[j]:Nat):Int)<((m[j]'zo:Nat):Int))=false):(1:Int)=sizeL l m:=by
 have:=rl (a:=m) (b:=l) hb zo hj hd.symm (by simp at h hne; omega)
 unfold sizeL
 rw [qw zo,qw zo,qz this]
theorem EL {l m:List Nat}(hd:l.drop 0=m.drop 0):(0:Int)=sizeL l m:=by
 have:l=m:=by simpa using hd
 subst this
 simp [sizeL]
theorem rm (l m:List Nat):Cn Tryz.prog 186 [(MgA l).va,(MgA m).va] (In (sizeL l m)):=by
 refine Cn.intro Tryz.func186 G zk nq (λ B w0 a U=>?_)
 have U:=zn [(0,(MgA l).va),(1,(MgA m).va)] [] U
 obtain ⟨ha,hla⟩:=U.mag 0 rfl; obtain ⟨hb,hlb⟩:=U.mag 1 rfl
 refine qb<|zh [.v 4 _] [.g 0,.g 1,.o 0] U (zv G (ac ab) o0) (zz [(0,_),(1,_),(4,_)] [] λ a w U=>?_)
 refine zt<|qb<|zh [.v 6 _,.v 7 _,.v 8 _,.v 9 _,.v 10 _] [.g 0,.g 1,.g 2,.o 4] U (zM 0 G (zv G (aI Tryz.underlying24 (vq 0 G)) (zM 1 G (zv G (aI Tryz.underlying24 (vq 2 G)) (zv G (bX (vq 1 G) (vq 3 G)) o0))))) (zz [(0,_),(1,_),(4,_),(10,_)] [] λ a w U=>?_)
 refine aa<|aj U (zm 3 G) (λ hb0=>?_) (λ hb0=>?_)
 ·refine qb<|zh [.v 11 _,.v 12 _,.v 13 _,.v 14 _,.v 15 _,.v 4 _] [.g 0,.g 1,.o 5] U (zM 0 G (zv G (aI Tryz.underlying24 (vq 0 G)) (zM 1 G (zv G (aI Tryz.underlying24 (vq 2 G)) (zv G (c6 (vq 1 G) (vq 3 G) (G)) (zA 4 G o0)))))) (zz [(0,_),(1,_),(4,_)] [] λ a w U=>?_)
  refine aa<|qg<|al ?_
  refine aC ?_ (an G U (zm 2 G))
  exact nu (EO hla hlb hb0)
 ·have hl:l.length=m.length:=by simp at hb0; omega
  refine qh<|zt<|qb<|zh [.v 16 _,.v 17 _,.v 18 _,.v 5 _] [.g 0,.g 1,.g 2,.o 3] U (zM 0 G (zv G (aI Tryz.underlying24 (vq 0 G)) (zv G (c6 (vq 1 G) ab (wi64 zo zo)) (zA 2 G o0)))) (zz [(0,_),(1,_),(4,_),(5,_)] [] λ a w U=>?_)
  refine aa<|qj ?_
  have U:=St.sel U [0,1,3]
  refine wp_loop_ghost (λ n a w=>n≤l.length∧l.drop n=m.drop n∧St B w0 41 [(0,(MgA l).va),(1,(MgA m).va),(5,In ((n:Int)-1))] [] a w) (l.length) ?_ ?_
  ·exact ⟨qi _,by rw [xg,hl,xg],U⟩
  intro n a w hI
  obtain ⟨hi,hd,U⟩:=hI
  refine qb<|qb<|zh [.v 19 _,.v 20 _] [.g 0,.g 1,.g 2,.o 1] U (zM 2 G (zv G (d9 (vq 0 G) ab) o0)) (zz [(0,_),(1,_),(5,_),(20,_)] [] λ a w U=>?_)
  refine aa<|aj U (zm 3 G) (λ hb1=>?_) (λ hb1=>?_)
  ·obtain ⟨j,rfl⟩:∃ j,n=j+1:=⟨n-1,by simp at hb1; omega⟩; rw [show ((j+1:Nat):Int)-1=(j:Int) from by omega] at U
   refine qh<|zt<|qj<|qb<|zgd [[],[],[0,1],[0,1,2],[],[],[4,5],[4,5,6],[0,1,2,3,4,5,6,7]] [] [] [.v 23 _,.v 24 _,.v 25 _,.v 26 _,.v 27 _,.v 28 _,.v 29 _,.v 30 _,.v 31 _] [.g 0,.g 1,.g 2,.o 8] ae U (zM 0 G (zM 2 G (zv G (bG b9 (vq 0 G) (vq 1 G) zo) (zv G (au (vq 2 G) aO) (zM 1 G (zM 2 G (zv G (bG b9 (vq 4 G) (vq 5 G) zo) (zv G (au (vq 6 G) aO) (zv G (bX (vq 3 G) (vq 7 G)) o0))))))))) zk zk zk zk (zz [(0,_),(1,_),(5,_),(31,_)] [] λ a w U=>?_)
   refine aa<|aj U (zm 3 G) (λ hb2=>?_) (λ hb2=>?_)
   ·refine qb<|qb<|zgd [[],[],[0,1],[0,1,2],[],[],[4,5],[4,5,6],[0,1,2,3,4,5,6,7]] [] [] [.v 32 _,.v 33 _,.v 34 _,.v 35 _,.v 36 _,.v 37 _,.v 38 _,.v 39 _,.v 40 _] [.g 0,.g 1,.g 2,.o 8] ae U (zM 0 G (zM 2 G (zv G (bG b9 (vq 0 G) (vq 1 G) zo) (zv G (au (vq 2 G) aO) (zM 1 G (zM 2 G (zv G (bG b9 (vq 4 G) (vq 5 G) zo) (zv G (au (vq 6 G) aO) (zv G (aS (vq 3 G) (vq 7 G)) o0))))))))) zk zk zk zk (zz [(0,_),(1,_),(5,_),(40,_)] [] λ a w U=>?_)
    refine aa<|aj U (zm 3 G) (λ hb3=>?_) (λ hb3=>?_)
    ·refine qb<|zh [.v 4 _] [.g 0,.g 1,.g 2,.o 0] U (zv G (ac ab) o0) (zz [(0,_),(1,_),(5,_),(4,_)] [] λ a w U=>?_)
     refine aa<|qg<|al ?_
     refine aE ?_
     refine al ?_
     refine al ?_
     refine aE ?_
     refine al ?_
     refine aC ?_ (an G U (zm 3 G))
     exact nu (EN ha hl zo hd hb3)
    ·refine qh<|zt<|zh [.v 4 _] [.g 0,.g 1,.g 2,.o 0] U (zv G (ac ab) o0) (zz [(0,_),(1,_),(5,_),(4,_)] [] λ a w U=>?_)
     refine aa<|qg<|aE ?_
     refine al ?_
     refine al ?_
     refine aE ?_
     refine al ?_
     refine aC ?_ (an G U (zm 3 G))
     exact nu (EM hb hl zo hd hb2 hb3)
   ·refine qh<|ap ?_
    refine aa<|zh [.v 21 _,.v 22 _,.v 5 _] [.g 0,.g 1,.o 2] U (zM 2 G (zv G (c6 (vq 0 G) ab (wi64 zo zo)) (zA 1 G o0))) (zz [(0,_),(1,_),(5,_)] [] λ a w U=>?_)
    refine aa ?_
    have U:=St.sel U [0,1,2]
    exact ⟨j,by omega,by omega,gZ zo zo hd (by simp at hb2; omega),U⟩
  ·obtain rfl:n=0:=by simp at hb1; omega
   refine qK<|am<|am<|aB<|zt<|zh [.v 4 _] [.o 0] U (zv G (ac ab) o0) (zz [(4,_)] [] λ a w U=>?_)
   refine aa<|qg<|aC ?_ (an G U (zm 0 G))
   exact nu (EL hd)
def addSt (l m:List Nat)(i:Nat):List Nat:=digs i (sumTo l m i)++List.replicate (l.length+1-i) 0
theorem cp {l m:List Nat}{i:Nat}(h:i≤l.length):(addSt l m i).length=l.length+1:=by simp [addSt,az]; omega
theorem lZ (l m:List Nat):addSt l m 0=List.replicate (l.length+1) 0:=by simp [addSt,digs]
theorem dW {α:Type}(p q:List α)(x:α)(k:Nat)(h:p.length=k):(p++q).set k x=p++q.set 0 x:=by subst h; rw [xJ _ _ (qi _),xD]
theorem iO (n:Nat)(x:Nat)(h:0<n):(List.replicate n 0).set 0 x=x::List.replicate (n-1) 0:=by
 cases n with
 | zero=>omega
 | succ n=>simp [kT]
theorem fe {l m:List Nat}{i:Nat}(h:i<l.length){y:Nat}(hy:m.getD i 0=y):(addSt l m i).set i ((l[i]+y+sumTo l m i/4294967296^i)%4294967296)=addSt l m (i+1):=by
 unfold addSt
 rw [dW _ _ _ _ (az _ _),iO _ _ zo,eP h,dw,hy]
 simp only [za,xu]
 rw [xa (l[i]+y)]
 congr 3
theorem gh {l m:List Nat}{i:Nat}(h:i<l.length){y:Nat}(hy:m.getD i 0=y):(l[i]+y+sumTo l m i/4294967296^i)/4294967296=sumTo l m (i+1)/4294967296^(i+1):=by
 rw [eP h,carry_step',hy,xa (l[i]+y)]
theorem gi {l m:List Nat}(hl:okL l)(hm:okL m)(h:m.length≤l.length):(addSt l m l.length).set l.length (sumTo l m l.length/4294967296^l.length)=digs (l.length+1) (val l+val m):=by
 unfold addSt
 rw [dW _ _ _ _ (az _ _),iO _ _ zo,ga,nH h]
 have:=en hl hm l.length
 rw [nH h] at this
 rw [zi zo]
 simp
theorem cv {l:List Nat}{i:Nat}(h:i<l.length):l.getD i 0=l[i]:=by simp [List.getD,h]
theorem dt {l:List Nat}{i:Nat}(h:l.length≤i):l.getD i 0=0:=by simp [List.getD,h]
theorem add_c (l m:List Nat)(hls:l.length≤1099511627776)(hms:m.length≤1099511627776):Cn Tryz.prog 189 [(MgA l).va,(MgA m).va] ((MgN (digs (max l.length m.length+1) (val l+val m))).va):=by
 refine Cn.introW Tryz.func189 G zk nq (.cons (iB _).va (.cons (iB _).va .nil)) (dD _).va (λ B w0 a hB0 U=>?_)
 have U:=zn [(0,(MgO l).va),(1,(MgO m).va)] [] U
 have hl:=(U.magO 0 rfl).1; have hm:=(U.magO 1 rfl).1
 refine qb<|zh [.v 4 _] [.g 0,.g 1,.o 0] U (zv G (ac bc) o0) (zz [(0,_),(1,_),(4,_)] [] λ a w U=>?_)
 refine zt<|qb<|zh [.v 9 _,.v 10 _,.v 11 _,.v 12 _,.v 13 _] [.g 0,.g 1,.g 2,.o 4] U (zM 0 G (zv G (aI Tryz.underlying24 (aD (vq 0 G))) (zM 1 G (zv G (aI Tryz.underlying24 (aD (vq 2 G))) (zv G (aS (vq 1 G) (vq 3 G)) o0))))) (zz [(0,_),(1,_),(4,_),(13,_)] [] λ a w U=>?_)
 refine aa<|aj U (zm 3 G) (λ hb0=>?_) (λ hb0=>?_)
 ·have hlt:l.length<m.length:=by simp at hb0; omega
  refine zh [.v 14 _,.v 15 _,.v 0 _,.v 1 _] [.g 2,.o 2,.o 3] U (zM 1 G (zM 0 G (zA 0 G (zA 1 G o0)))) (zz [(4,_),(0,_),(1,_)] [] λ a w U=>?_)
  refine zt<|cU (sts:=[]) (news:=[⟨19,134,slH _ _,some 3,_,none⟩]) (sp:=[.v 16 _,.v 17 _,.v 18 _,.alc 0,.adr 5 19 .none True]) [.g 0,.g 1,.g 2] [(5,19)] [⟨5,134,slH _ _,_⟩] U (zM 1 G (zv G (aI Tryz.underlying24 (aD (vq 0 G))) (zv G (aN (vq 1 G) ab (ba zo)) (oc (dK G G G eD (vq 2 G) (vq 2 G) zo) (oc (ob_a G G lw) o0))))) zk zk zk ⟨⟨4,rfl⟩,trivial⟩ G zk (zz [(4,_),(0,_),(1,_)] [⟨5,134,slH _ _,_⟩] λ a w U=>?_)
  refine zt<|zg [η] [] [.v 6 _] [.g 0,.g 1,.g 2,.o 0] U (zv G (ac (aG 0 G)) o0) (zz [(4,_),(0,_),(1,_),(6,_)] [⟨5,134,slH _ _,_⟩] λ a w U=>?_)
  refine zt<|qb<|zg [η] [] [.v 20 _,.v 21 _,.v 22 _] [.g 0,.g 1,.g 2,.g 3,.o 1,.o 2] U (zM 1 G (zv G (aI Tryz.underlying24 (aD (vq 0 G))) (zv G (ai ab) o0))) (zz [(4,_),(0,_),(1,_),(6,_),(21,_),(22,_)] [⟨5,134,slH _ _,_⟩] λ a w U=>?_)
  refine aa<|qj ?_
  have U:=St.sel U [1,2,3,4,5]
  refine wp_loop_ghost (λ n a w=>∃ i:Nat,n+i=m.length∧St B w0 53 [(0,(MgO m).va),(1,(MgO l).va),(6,(NumA .u32 (sumTo m l i/4294967296^i:Nat)).va),(21,In (m.length:Nat)),(22,In (i:Nat))] [⟨5,134,slH (m.length+1) (m.length+1),Nums .u32 (addSt m l i)⟩] a w) (m.length) ?_ ?_
  ·exact ⟨0,by omega,by rw [lZ,show sumTo m l 0/4294967296^0=0 from by simp [eO]]; exact U⟩
  intro n a w hI
  obtain ⟨i,hn,U⟩:=hI
  refine qb<|zg [η] [] [.v 23 _] [.g 0,.g 1,.g 2,.g 3,.g 4,.o 0] U (zv G (aS (gq 4 G) (gq 3 G)) o0) (zz [(0,_),(1,_),(6,_),(21,_),(22,_),(23,_)] [⟨5,134,slH _ _,_⟩] λ a w U=>?_)
  refine zt<|aj U (zm 5 G) (λ hb1=>?_) (λ hb1=>?_)
  ·have hi:i<m.length:=by simp at hb1; omega
   refine qh<|zt<|qj<|qb<|zg [η] [] [.v 24 _,.v 7 _] [.g 0,.g 1,.g 2,.g 3,.g 4,.o 1] U (zM 4 G (zA 0 G o0)) (zz [(0,_),(1,_),(6,_),(21,_),(22,_),(7,_)] [⟨5,134,slH _ _,_⟩] λ a w U=>?_)
   refine zt<|zg [η] [] [.v 8 _] [.g 0,.g 1,.g 2,.g 3,.g 4,.g 5,.o 0] U (zv G (ac (aG 0 G)) o0) (zz [(0,_),(1,_),(6,_),(21,_),(22,_),(7,_),(8,_)] [⟨5,134,slH _ _,_⟩] λ a w U=>?_)
   refine zt<|qb<|zg [η] [] [.v 25 _,.v 26 _,.v 27 _,.v 28 _] [.g 0,.g 1,.g 2,.g 3,.g 4,.g 5,.g 6,.o 3] U (zM 5 G (zM 1 G (zv G (aI Tryz.underlying24 (aD (vq 1 G))) (zv G (aS (vq 0 G) (vq 2 G)) o0)))) (zz [(0,_),(1,_),(6,_),(21,_),(22,_),(7,_),(8,_),(28,_)] [⟨5,134,slH _ _,_⟩] λ a w U=>?_)
   refine aa<|aj U (zm 7 G) (λ hb2=>?_) (λ hb2=>?_)
   ·refine zg [η] [] [.v 29 _,.v 30 _,.v 31 _,.v 32 _,.v 8 _] [.g 0,.g 1,.g 2,.g 3,.g 4,.g 5,.o 4] U (zM 1 rfl (zM 5 rfl (zv rfl (bG b9 (aD (vq 0 rfl)) (vq 1 rfl) (by first | omega | (simp at hb2; omega) | (simp at hb4; omega))) (zv rfl (au (vq 2 rfl) aO) (zA 3 rfl o0))))) (zz [(0,_),(1,_),(6,_),(21,_),(22,_),(7,_),(8,_)] [⟨5,134,slH _ _,_⟩] λ a w U=>?_)
    refine aa<|zg [some (13,_)] [] [.adr 34 5 .none True,.v 35 _,.v 36 _,.v 37 _,.v 38 _,.v 39 _,.v 40 _,.v 41 _,.v 42 _,.v 33 _,.v 43 _,.v 44 _,.adr 45 5 (.some _) True,.sto 0,.v 6 _] [.g 0,.g 1,.g 3,.g 4,.o 14] U (oc (ob_a rfl rfl cb) (zM 5 rfl (zM 0 rfl (zM 5 rfl (zv rfl (bG b9 (aD (vq 2 rfl)) (vq 3 rfl) (by first | omega | (simp at hb2; omega) | (simp at hb4; omega))) (zv rfl (au (vq 4 rfl) aO) (zM 6 rfl (zM 2 rfl (zQ rfl (lu (hm _ (qf _)) (hl _ (qf _)) (qT (en hm hl _) zd)) (.cons (vq 5 rfl) (.p (vq 6 rfl) (vq 7 rfl))) (zv rfl (ai (vq 8 rfl)) (zv rfl (aQ (vq 9 rfl) rfl) (zv rfl (aQ (vq 9 rfl) rfl) (oc (ob_a rfl rfl (dm 0 rfl zk (lz0 0 rfl) b9 (vq 1 rfl) zo)) (oc (c7 12 rfl rfl rfl rfl zk (λ _=>bK _ _ _ _) (vq 10 rfl) aO (br (by rw [cp zo]; omega))) (zA 11 rfl o0))))))))))))))) (zz [(0,_),(1,_),(21,_),(22,_),(6,_)] [⟨5,134,slH _ _,_⟩] λ a w U=>?_)
    refine ap ?_
    refine aa<|zg [η] [] [.v 46 _,.v 22 _] [.g 0,.g 1,.g 2,.g 4,.o 1] U (zv G (aN (gq 3 G) ab (ba zo)) (zv G (ai (vq 0 G)) o0)) (zz [(0,_),(1,_),(21,_),(6,_),(22,_)] [⟨5,134,slH _ _,_⟩] λ a w U=>?_)
    refine aa ?_
    have U:=St.sel U [0,1,3,2,4]
    rw [fe hi (y:=_) (cv (by simp at hb2; omega)),gh hi (cv (by simp at hb2; omega))] at U; exact ⟨n-1,by omega,i+1,by omega,U⟩
   ·refine qh<|aa<|zg [some (13,_)] [] [.adr 34 5 .none True,.v 35 _,.v 36 _,.v 37 _,.v 38 _,.v 39 _,.v 40 _,.v 41 _,.v 42 _,.v 33 _,.v 43 _,.v 44 _,.adr 45 5 (.some _) True,.sto 0,.v 6 _] [.g 0,.g 1,.g 3,.g 4,.o 14] U (oc (ob_a rfl rfl cb) (zM 5 rfl (zM 0 rfl (zM 5 rfl (zv rfl (bG b9 (aD (vq 2 rfl)) (vq 3 rfl) (by first | omega | (simp at hb2; omega) | (simp at hb4; omega))) (zv rfl (au (vq 4 rfl) aO) (zM 6 rfl (zM 2 rfl (zQ rfl (lu (hm _ (qf _)) (y:=0) zd (qT (en hm hl _) zd)) (.cons (vq 5 rfl) (.p (vq 6 rfl) (vq 7 rfl))) (zv rfl (ai (vq 8 rfl)) (zv rfl (aQ (vq 9 rfl) rfl) (zv rfl (aQ (vq 9 rfl) rfl) (oc (ob_a rfl rfl (dm 0 rfl zk (lz0 0 rfl) b9 (vq 1 rfl) zo)) (oc (c7 12 rfl rfl rfl rfl zk (λ _=>bK _ _ _ _) (vq 10 rfl) aO (br (by rw [cp zo]; omega))) (zA 11 rfl o0))))))))))))))) (zz [(0,_),(1,_),(21,_),(22,_),(6,_)] [⟨5,134,slH _ _,_⟩] λ a w U=>?_)
    refine ap ?_
    refine aa<|zg [η] [] [.v 46 _,.v 22 _] [.g 0,.g 1,.g 2,.g 4,.o 1] U (zv G (aN (gq 3 G) ab (ba zo)) (zv G (ai (vq 0 G)) o0)) (zz [(0,_),(1,_),(21,_),(6,_),(22,_)] [⟨5,134,slH _ _,_⟩] λ a w U=>?_)
    refine aa ?_
    have U:=St.sel U [0,1,3,2,4]
    rw [fe hi (y:=_) (dt (by simp at hb2; omega)),gh hi (dt (by simp at hb2; omega))] at U; exact ⟨n-1,by omega,i+1,by omega,U⟩
  ·obtain rfl:i=m.length:=by simp at hb1; omega
   refine qK<|am<|am<|aB<|zt<|zg [some (5,_)] [] [.adr 47 5 .none True,.v 48 _,.v 49 _,.v 50 _,.adr 51 5 (.some _) True,.sto 0] [] U (oc (ob_a G G cb) (zM 0 G (zv G (aI Tryz.underlying24 (aD (vq 1 G))) (zM 2 G (oc (ob_a G G (dm 0 G zk (lz0 0 G) b9 (vq 2 G) zo)) (oc (c7 4 G G G G zk (λ _=>bK _ _ _ _) (vq 3 G) aO (br (by rw [cp zo]; omega))) o0)))))) (zz [] [⟨5,134,slH _ _,_⟩] λ a w U=>?_)
   refine zt<|cU (sts:=[none]) (news:=[]) (sp:=[.adr 52 5 .none True,.adr 4 5 .none True]) [] [(4,5)] [⟨4,134,slH _ _,_⟩] U (oc (ob_a G G cb) (oc (ob_a G G (A5 0 G zk)) o0)) zk zk zk ⟨⟨1,rfl⟩,trivial⟩ G zk (zz [] [⟨4,134,slH _ _,_⟩] λ a w U=>?_)
   refine aa<|qg<|aC ?_ (uL G U (zm 0 G) ⟨by simp [cp],qi _,by unfold maxLen; omega,by rw [gi hm hl zo]; exact bI _ _⟩ (by simp [cp]))
   rw [gi hm hl zo,Nat.max_eq_right zo,xa (val m)]
 ·have hlt:m.length≤l.length:=by simp at hb0; omega
  refine qh<|zt<|cU (sts:=[]) (news:=[⟨19,134,slH _ _,some 3,_,none⟩]) (sp:=[.v 16 _,.v 17 _,.v 18 _,.alc 0,.adr 5 19 .none True]) [.g 0,.g 1,.g 2] [(5,19)] [⟨5,134,slH _ _,_⟩] U (zM 0 G (zv G (aI Tryz.underlying24 (aD (vq 0 G))) (zv G (aN (vq 1 G) ab (ba zo)) (oc (dK G G G eD (vq 2 G) (vq 2 G) zo) (oc (ob_a G G lw) o0))))) zk zk zk ⟨⟨4,rfl⟩,trivial⟩ G zk (zz [(0,_),(1,_),(4,_)] [⟨5,134,slH _ _,_⟩] λ a w U=>?_)
  refine zt<|zg [η] [] [.v 6 _] [.g 0,.g 1,.g 2,.o 0] U (zv G (ac (aG 0 G)) o0) (zz [(0,_),(1,_),(4,_),(6,_)] [⟨5,134,slH _ _,_⟩] λ a w U=>?_)
  refine zt<|qb<|zg [η] [] [.v 20 _,.v 21 _,.v 22 _] [.g 0,.g 1,.g 2,.g 3,.o 1,.o 2] U (zM 0 G (zv G (aI Tryz.underlying24 (aD (vq 0 G))) (zv G (ai ab) o0))) (zz [(0,_),(1,_),(4,_),(6,_),(21,_),(22,_)] [⟨5,134,slH _ _,_⟩] λ a w U=>?_)
  refine aa<|qj ?_
  have U:=St.sel U [0,1,3,4,5]
  refine wp_loop_ghost (λ n a w=>∃ i:Nat,n+i=l.length∧St B w0 53 [(0,(MgO l).va),(1,(MgO m).va),(6,(NumA .u32 (sumTo l m i/4294967296^i:Nat)).va),(21,In (l.length:Nat)),(22,In (i:Nat))] [⟨5,134,slH (l.length+1) (l.length+1),Nums .u32 (addSt l m i)⟩] a w) (l.length) ?_ ?_
  ·exact ⟨0,by omega,by rw [lZ,show sumTo l m 0/4294967296^0=0 from by simp [eO]]; exact U⟩
  intro n a w hI
  obtain ⟨i,hn,U⟩:=hI
  refine qb<|zg [η] [] [.v 23 _] [.g 0,.g 1,.g 2,.g 3,.g 4,.o 0] U (zv G (aS (gq 4 G) (gq 3 G)) o0) (zz [(0,_),(1,_),(6,_),(21,_),(22,_),(23,_)] [⟨5,134,slH _ _,_⟩] λ a w U=>?_)
  refine zt<|aj U (zm 5 G) (λ hb3=>?_) (λ hb3=>?_)
  ·have hi:i<l.length:=by simp at hb3; omega
   refine qh<|zt<|qj<|qb<|zg [η] [] [.v 24 _,.v 7 _] [.g 0,.g 1,.g 2,.g 3,.g 4,.o 1] U (zM 4 G (zA 0 G o0)) (zz [(0,_),(1,_),(6,_),(21,_),(22,_),(7,_)] [⟨5,134,slH _ _,_⟩] λ a w U=>?_)
   refine zt<|zg [η] [] [.v 8 _] [.g 0,.g 1,.g 2,.g 3,.g 4,.g 5,.o 0] U (zv G (ac (aG 0 G)) o0) (zz [(0,_),(1,_),(6,_),(21,_),(22,_),(7,_),(8,_)] [⟨5,134,slH _ _,_⟩] λ a w U=>?_)
   refine zt<|qb<|zg [η] [] [.v 25 _,.v 26 _,.v 27 _,.v 28 _] [.g 0,.g 1,.g 2,.g 3,.g 4,.g 5,.g 6,.o 3] U (zM 5 G (zM 1 G (zv G (aI Tryz.underlying24 (aD (vq 1 G))) (zv G (aS (vq 0 G) (vq 2 G)) o0)))) (zz [(0,_),(1,_),(6,_),(21,_),(22,_),(7,_),(8,_),(28,_)] [⟨5,134,slH _ _,_⟩] λ a w U=>?_)
   refine aa<|aj U (zm 7 G) (λ hb4=>?_) (λ hb4=>?_)
   ·refine zg [η] [] [.v 29 _,.v 30 _,.v 31 _,.v 32 _,.v 8 _] [.g 0,.g 1,.g 2,.g 3,.g 4,.g 5,.o 4] U (zM 1 rfl (zM 5 rfl (zv rfl (bG b9 (aD (vq 0 rfl)) (vq 1 rfl) (by first | omega | (simp at hb2; omega) | (simp at hb4; omega))) (zv rfl (au (vq 2 rfl) aO) (zA 3 rfl o0))))) (zz [(0,_),(1,_),(6,_),(21,_),(22,_),(7,_),(8,_)] [⟨5,134,slH _ _,_⟩] λ a w U=>?_)
    refine aa<|zg [some (13,_)] [] [.adr 34 5 .none True,.v 35 _,.v 36 _,.v 37 _,.v 38 _,.v 39 _,.v 40 _,.v 41 _,.v 42 _,.v 33 _,.v 43 _,.v 44 _,.adr 45 5 (.some _) True,.sto 0,.v 6 _] [.g 0,.g 1,.g 3,.g 4,.o 14] U (oc (ob_a rfl rfl cb) (zM 5 rfl (zM 0 rfl (zM 5 rfl (zv rfl (bG b9 (aD (vq 2 rfl)) (vq 3 rfl) (by first | omega | (simp at hb2; omega) | (simp at hb4; omega))) (zv rfl (au (vq 4 rfl) aO) (zM 6 rfl (zM 2 rfl (zQ rfl (lu (hl _ (qf _)) (hm _ (qf _)) (qT (en hl hm _) zd)) (.cons (vq 5 rfl) (.p (vq 6 rfl) (vq 7 rfl))) (zv rfl (ai (vq 8 rfl)) (zv rfl (aQ (vq 9 rfl) rfl) (zv rfl (aQ (vq 9 rfl) rfl) (oc (ob_a rfl rfl (dm 0 rfl zk (lz0 0 rfl) b9 (vq 1 rfl) zo)) (oc (c7 12 rfl rfl rfl rfl zk (λ _=>bK _ _ _ _) (vq 10 rfl) aO (br (by rw [cp zo]; omega))) (zA 11 rfl o0))))))))))))))) (zz [(0,_),(1,_),(21,_),(22,_),(6,_)] [⟨5,134,slH _ _,_⟩] λ a w U=>?_)
    refine ap ?_
    refine aa<|zg [η] [] [.v 46 _,.v 22 _] [.g 0,.g 1,.g 2,.g 4,.o 1] U (zv G (aN (gq 3 G) ab (ba zo)) (zv G (ai (vq 0 G)) o0)) (zz [(0,_),(1,_),(21,_),(6,_),(22,_)] [⟨5,134,slH _ _,_⟩] λ a w U=>?_)
    refine aa ?_
    have U:=St.sel U [0,1,3,2,4]
    rw [fe hi (y:=_) (cv (by simp at hb4; omega)),gh hi (cv (by simp at hb4; omega))] at U; exact ⟨n-1,by omega,i+1,by omega,U⟩
   ·refine qh<|aa<|zg [some (13,_)] [] [.adr 34 5 .none True,.v 35 _,.v 36 _,.v 37 _,.v 38 _,.v 39 _,.v 40 _,.v 41 _,.v 42 _,.v 33 _,.v 43 _,.v 44 _,.adr 45 5 (.some _) True,.sto 0,.v 6 _] [.g 0,.g 1,.g 3,.g 4,.o 14] U (oc (ob_a rfl rfl cb) (zM 5 rfl (zM 0 rfl (zM 5 rfl (zv rfl (bG b9 (aD (vq 2 rfl)) (vq 3 rfl) (by first | omega | (simp at hb2; omega) | (simp at hb4; omega))) (zv rfl (au (vq 4 rfl) aO) (zM 6 rfl (zM 2 rfl (zQ rfl (lu (hl _ (qf _)) (y:=0) zd (qT (en hl hm _) zd)) (.cons (vq 5 rfl) (.p (vq 6 rfl) (vq 7 rfl))) (zv rfl (ai (vq 8 rfl)) (zv rfl (aQ (vq 9 rfl) rfl) (zv rfl (aQ (vq 9 rfl) rfl) (oc (ob_a rfl rfl (dm 0 rfl zk (lz0 0 rfl) b9 (vq 1 rfl) zo)) (oc (c7 12 rfl rfl rfl rfl zk (λ _=>bK _ _ _ _) (vq 10 rfl) aO (br (by rw [cp zo]; omega))) (zA 11 rfl o0))))))))))))))) (zz [(0,_),(1,_),(21,_),(22,_),(6,_)] [⟨5,134,slH _ _,_⟩] λ a w U=>?_)
    refine ap ?_
    refine aa<|zg [η] [] [.v 46 _,.v 22 _] [.g 0,.g 1,.g 2,.g 4,.o 1] U (zv G (aN (gq 3 G) ab (ba zo)) (zv G (ai (vq 0 G)) o0)) (zz [(0,_),(1,_),(21,_),(6,_),(22,_)] [⟨5,134,slH _ _,_⟩] λ a w U=>?_)
    refine aa ?_
    have U:=St.sel U [0,1,3,2,4]
    rw [fe hi (y:=_) (dt (by simp at hb4; omega)),gh hi (dt (by simp at hb4; omega))] at U; exact ⟨n-1,by omega,i+1,by omega,U⟩
  ·obtain rfl:i=l.length:=by simp at hb3; omega
   refine qK<|am<|am<|aB<|zt<|zg [some (5,_)] [] [.adr 47 5 .none True,.v 48 _,.v 49 _,.v 50 _,.adr 51 5 (.some _) True,.sto 0] [] U (oc (ob_a G G cb) (zM 0 G (zv G (aI Tryz.underlying24 (aD (vq 1 G))) (zM 2 G (oc (ob_a G G (dm 0 G zk (lz0 0 G) b9 (vq 2 G) zo)) (oc (c7 4 G G G G zk (λ _=>bK _ _ _ _) (vq 3 G) aO (br (by rw [cp zo]; omega))) o0)))))) (zz [] [⟨5,134,slH _ _,_⟩] λ a w U=>?_)
   refine zt<|cU (sts:=[none]) (news:=[]) (sp:=[.adr 52 5 .none True,.adr 4 5 .none True]) [] [(4,5)] [⟨4,134,slH _ _,_⟩] U (oc (ob_a G G cb) (oc (ob_a G G (A5 0 G zk)) o0)) zk zk zk ⟨⟨1,rfl⟩,trivial⟩ G zk (zz [] [⟨4,134,slH _ _,_⟩] λ a w U=>?_)
   refine aa<|qg<|aC ?_ (uL G U (zm 0 G) ⟨by simp [cp],qi _,by unfold maxLen; omega,by rw [gi hl hm zo]; exact bI _ _⟩ (by simp [cp]))
   rw [gi hl hm zo,Nat.max_eq_left zo]
def dif (l m:List Nat)(i:Nat):Nat:=val (l.take i)+4294967296^i-val (m.take i)
def subSt (l m:List Nat)(i:Nat):List Nat:=digs i (dif l m i)++List.replicate (l.length-i) 0
theorem fG {l m:List Nat}{i:Nat}(h:i≤l.length):(subSt l m i).length=l.length:=by simp [subSt,az]; omega
theorem sS (l m:List Nat):subSt l m 0=List.replicate l.length 0:=by simp [subSt,digs]
theorem sq (l m:List Nat):1-dif l m 0/4294967296^0=0:=by simp [dif]
theorem dT (m:List Nat)(i:Nat):val (m.take (i+1))=val (m.take i)+4294967296^i*m.getD i 0:=by
 by_cases h:i<m.length
 ·rw [bx h,cv h]
 ·rw [qD zo,qD zo,dt zo,kE,xF]
theorem eI {m:List Nat}(hm:okL m)(i:Nat):m.getD i 0<4294967296:=by
 by_cases h:i<m.length
 ·rw [cv h]; exact hm _ (qf _)
 ·rw [dt zo]; decide
theorem nl {l m:List Nat}{i:Nat}(h:i<l.length)(hm:okL m):dif l m (i+1)=dif l m i+4294967296^i*(l[i]+4294967295-m.getD i 0):=by
 have h1:=cu hm i
 have h2:=eI hm i
 unfold dif
 rw [bx h,dT,qV]
 generalize 4294967296^i=p at *
 obtain ⟨e,he⟩:∃ e,l[i]+4294967295=m.getD i 0+e:=⟨l[i]+4294967295-m.getD i 0,by omega⟩
 rw [he,jD]
 have h3:p*(l[i]+4294967295)=p*(m.getD i 0+e):=by rw [he]
 rw [zT,zT] at h3
 omega
theorem sr {l m:List Nat}(hl:okL l)(i:Nat):dif l m i/4294967296^i≤1:=by
 have h1:=cu hl i
 have h2:0<4294967296^i:=zq zd
 unfold dif
 rw [Nat.div_le_iff_le_mul_add_pred h2]
 omega
theorem lJ {l m:List Nat}{i:Nat}(h:i<l.length)(hl:okL l)(hm:okL m){y:Nat}(hy:m.getD i 0=y):(subSt l m i).set i ((l[i]+8589934592-y-(1-dif l m i/4294967296^i))%4294967296)=subSt l m (i+1):=by
 have h1:=eI hm i
 have h2:=sr (m:=m) hl i
 unfold subSt
 rw [dW _ _ _ _ (az _ _),iO _ _ zo,nl h hm,dw,hy]
 rw [hy] at h1
 simp only [za,xu]
 have e:(l[i]+8589934592-y-(1-dif l m i/4294967296^i))%4294967296=(dif l m i/4294967296^i+(l[i]+4294967295-y))%4294967296:=by
  generalize dif l m i/4294967296^i=q at *
  omega
 rw [e,Nat.sub_add_eq]
theorem iE {l m:List Nat}{i:Nat}(h:i<l.length)(hl:okL l)(hm:okL m){y:Nat}(hy:m.getD i 0=y):(if l[i]<y+(1-dif l m i/4294967296^i) then 1 else 0)=1-dif l m (i+1)/4294967296^(i+1):=by
 have h1:=eI hm i
 have h2:=sr (m:=m) hl i
 have h3:=hl _ (qf h)
 rw [nl h hm,carry_step',hy]
 rw [hy] at h1
 generalize dif l m i/4294967296^i=q at *
 split <;> omega
theorem nI {l m:List Nat}(hl:okL l)(hm:m.length≤l.length)(hv:val m≤val l):trimL (subSt l m l.length)=limbs (val l-val m):=by
 unfold subSt dif
 rw [xD,jV,zj,qF,qD hm]
 have h1:=eu hl
 rw [fb (m':=val l-val m),gu zo]
 rw [show val l+4294967296^l.length-val m=(val l-val m)+4294967296^l.length from by omega,ve]
theorem Bf {l m:List Nat}{i:Nat}:okL (subSt l m i):=okL_append.2 ⟨bI _ _,λ x hx=>by rw [(xY.1 hx).2]; decide⟩
theorem Am (l m:List Nat)(hls:l.length≤1099511627776)(hml:m.length≤l.length)(hv:val m≤val l):Cn Tryz.prog 190 [(MgA l).va,(MgA m).va] ((MgN (limbs (val l-val m))).va):=by
 refine Cn.introW Tryz.func190 G zk nq (.cons (iB _).va (.cons (iB _).va .nil)) (dD _).va (λ B w0 a hB0 U=>?_)
 have U:=zn [(0,(MgO l).va),(1,(MgO m).va)] [] U
 have hl:=(U.magO 0 rfl).1; have hm:=(U.magO 1 rfl).1
 refine qb<|zh [.v 4 _] [.g 0,.g 1,.o 0] U (zv G (ac bc) o0) (zz [(0,_),(1,_),(4,_)] [] λ a w U=>?_)
 refine zt<|cU (sts:=[]) (news:=[⟨11,134,slH _ _,some 2,_,none⟩]) (sp:=[.v 9 _,.v 10 _,.alc 0,.adr 5 11 .none True]) [.g 0,.g 1,.g 2] [(5,11)] [⟨5,134,slH _ _,_⟩] U (zM 0 G (zv G (aI Tryz.underlying24 (aD (vq 0 G))) (oc (dK G G G eD (vq 1 G) (vq 1 G) zo) (oc (ob_a G G lw) o0)))) zk zk zk ⟨⟨3,rfl⟩,trivial⟩ G zk (zz [(0,_),(1,_),(4,_)] [⟨5,134,slH _ _,_⟩] λ a w U=>?_)
 refine zt<|zg [η] [] [.v 6 _] [.g 0,.g 1,.g 2,.o 0] U (zv G (ac (aG 0 G)) o0) (zz [(0,_),(1,_),(4,_),(6,_)] [⟨5,134,slH _ _,_⟩] λ a w U=>?_)
 refine zt<|qb<|zg [η] [] [.v 12 _,.v 13 _,.v 14 _] [.g 0,.g 1,.g 2,.g 3,.o 1,.o 2] U (zM 0 G (zv G (aI Tryz.underlying24 (aD (vq 0 G))) (zv G (ai ab) o0))) (zz [(0,_),(1,_),(4,_),(6,_),(13,_),(14,_)] [⟨5,134,slH _ _,_⟩] λ a w U=>?_)
 refine aa<|qj ?_
 have U:=St.sel U [0,1,3,4,5]
 refine wp_loop_ghost (λ n a w=>∃ i:Nat,n+i=l.length∧St B w0 41 [(0,(MgO l).va),(1,(MgO m).va),(6,(NumA .u32 (1-dif l m i/4294967296^i:Nat)).va),(13,In (l.length:Nat)),(14,In (i:Nat))] [⟨5,134,slH l.length l.length,Nums .u32 (subSt l m i)⟩] a w) (l.length) ?_ ?_
 ·exact ⟨0,by omega,by rw [sS,sq]; exact U⟩
 intro n a w hI
 obtain ⟨i,hn,U⟩:=hI
 refine qb<|zg [η] [] [.v 15 _] [.g 0,.g 1,.g 2,.g 3,.g 4,.o 0] U (zv G (aS (gq 4 G) (gq 3 G)) o0) (zz [(0,_),(1,_),(6,_),(13,_),(14,_),(15,_)] [⟨5,134,slH _ _,_⟩] λ a w U=>?_)
 refine zt<|aj U (zm 5 G) (λ hb0=>?_) (λ hb0=>?_)
 ·have hi:i<l.length:=by simp at hb0; omega
  refine qh<|zt<|qj<|qb<|zg [η] [] [.v 16 _,.v 7 _] [.g 0,.g 1,.g 2,.g 3,.g 4,.o 1] U (zM 4 G (zA 0 G o0)) (zz [(0,_),(1,_),(6,_),(13,_),(14,_),(7,_)] [⟨5,134,slH _ _,_⟩] λ a w U=>?_)
  refine zt<|zg [η] [] [.v 8 _] [.g 0,.g 1,.g 2,.g 3,.g 4,.g 5,.o 0] U (zv G (ac (aG 0 G)) o0) (zz [(0,_),(1,_),(6,_),(13,_),(14,_),(7,_),(8,_)] [⟨5,134,slH _ _,_⟩] λ a w U=>?_)
  refine zt<|qb<|zg [η] [] [.v 17 _,.v 18 _,.v 19 _,.v 20 _] [.g 0,.g 1,.g 2,.g 3,.g 4,.g 5,.g 6,.o 3] U (zM 5 G (zM 1 G (zv G (aI Tryz.underlying24 (aD (vq 1 G))) (zv G (aS (vq 0 G) (vq 2 G)) o0)))) (zz [(0,_),(1,_),(6,_),(13,_),(14,_),(7,_),(8,_),(20,_)] [⟨5,134,slH _ _,_⟩] λ a w U=>?_)
  refine aa<|aj U (zm 7 G) (λ hb1=>?_) (λ hb1=>?_)
  ·refine zg [η] [] [.v 21 _,.v 22 _,.v 23 _,.v 24 _,.v 8 _] [.g 0,.g 1,.g 2,.g 3,.g 4,.g 5,.o 4] U (zM 1 rfl (zM 5 rfl (zv rfl (bG b9 (aD (vq 0 rfl)) (vq 1 rfl) (by first | omega | (simp at hb1; omega))) (zv rfl (au (vq 2 rfl) aO) (zA 3 rfl o0))))) (zz [(0,_),(1,_),(6,_),(13,_),(14,_),(7,_),(8,_)] [⟨5,134,slH _ _,_⟩] λ a w U=>?_)
   refine aa<|zg [some (13,_)] [] [.adr 26 5 .none True,.v 27 _,.v 28 _,.v 29 _,.v 30 _,.v 31 _,.v 32 _,.v 33 _,.v 34 _,.v 25 _,.v 35 _,.v 36 _,.adr 37 5 (.some _) True,.sto 0,.v 6 _] [.g 0,.g 1,.g 3,.g 4,.o 14] U (oc (ob_a rfl rfl cb) (zM 5 rfl (zM 0 rfl (zM 5 rfl (zv rfl (bG b9 (aD (vq 2 rfl)) (vq 3 rfl) (by first | omega | (simp at hb1; omega))) (zv rfl (au (vq 4 rfl) aO) (zM 6 rfl (zM 2 rfl (zQ rfl (uh (hl _ (qf _)) (hm _ (qf _)) (qT (kZ _ _) zd)) (.cons (vq 5 rfl) (.p (vq 6 rfl) (vq 7 rfl))) (zv rfl (ai (vq 8 rfl)) (zv rfl (aQ (vq 9 rfl) rfl) (zv rfl (aQ (vq 9 rfl) rfl) (oc (ob_a rfl rfl (dm 0 rfl zk (lz0 0 rfl) b9 (vq 1 rfl) zo)) (oc (c7 12 rfl rfl rfl rfl zk (λ _=>bK _ _ _ _) (vq 10 rfl) aO (br (by rw [fG zo]; omega))) (zA 11 rfl o0))))))))))))))) (zz [(0,_),(1,_),(13,_),(14,_),(6,_)] [⟨5,134,slH _ _,_⟩] λ a w U=>?_)
   refine ap ?_
   refine aa<|zg [η] [] [.v 38 _,.v 14 _] [.g 0,.g 1,.g 2,.g 4,.o 1] U (zv G (aN (gq 3 G) ab (ba zo)) (zv G (ai (vq 0 G)) o0)) (zz [(0,_),(1,_),(13,_),(6,_),(14,_)] [⟨5,134,slH _ _,_⟩] λ a w U=>?_)
   refine aa ?_
   have U:=St.sel U [0,1,3,2,4]
   rw [lJ hi hl hm (y:=_) (cv (by simp at hb1; omega)),iE hi hl hm (cv (by simp at hb1; omega))] at U; exact ⟨n-1,by omega,i+1,by omega,U⟩
  ·refine qh<|aa<|zg [some (13,_)] [] [.adr 26 5 .none True,.v 27 _,.v 28 _,.v 29 _,.v 30 _,.v 31 _,.v 32 _,.v 33 _,.v 34 _,.v 25 _,.v 35 _,.v 36 _,.adr 37 5 (.some _) True,.sto 0,.v 6 _] [.g 0,.g 1,.g 3,.g 4,.o 14] U (oc (ob_a rfl rfl cb) (zM 5 rfl (zM 0 rfl (zM 5 rfl (zv rfl (bG b9 (aD (vq 2 rfl)) (vq 3 rfl) (by first | omega | (simp at hb1; omega))) (zv rfl (au (vq 4 rfl) aO) (zM 6 rfl (zM 2 rfl (zQ rfl (uh (hl _ (qf _)) (y:=0) zd (qT (kZ _ _) zd)) (.cons (vq 5 rfl) (.p (vq 6 rfl) (vq 7 rfl))) (zv rfl (ai (vq 8 rfl)) (zv rfl (aQ (vq 9 rfl) rfl) (zv rfl (aQ (vq 9 rfl) rfl) (oc (ob_a rfl rfl (dm 0 rfl zk (lz0 0 rfl) b9 (vq 1 rfl) zo)) (oc (c7 12 rfl rfl rfl rfl zk (λ _=>bK _ _ _ _) (vq 10 rfl) aO (br (by rw [fG zo]; omega))) (zA 11 rfl o0))))))))))))))) (zz [(0,_),(1,_),(13,_),(14,_),(6,_)] [⟨5,134,slH _ _,_⟩] λ a w U=>?_)
   refine ap ?_
   refine aa<|zg [η] [] [.v 38 _,.v 14 _] [.g 0,.g 1,.g 2,.g 4,.o 1] U (zv G (aN (gq 3 G) ab (ba zo)) (zv G (ai (vq 0 G)) o0)) (zz [(0,_),(1,_),(13,_),(6,_),(14,_)] [⟨5,134,slH _ _,_⟩] λ a w U=>?_)
   refine aa ?_
   have U:=St.sel U [0,1,3,2,4]
   rw [lJ hi hl hm (y:=_) (dt (by simp at hb1; omega)),iE hi hl hm (dt (by simp at hb1; omega))] at U; exact ⟨n-1,by omega,i+1,by omega,U⟩
 ·obtain rfl:i=l.length:=by simp at hb0; omega
  refine qK<|am<|am<|aB<|zt<|zg [η] [] [.adr 39 5 .none True,.v 40 _,.v 4 _] [.o 2] U (oc (ob_a G G cb) (zQ G (rk famN _) (.o (fT 0 G zk (lz0 0 G) ⟨by rw [fG (qi _)],qi _,by unfold maxLen; omega,Bf⟩ (by rw [fG (qi _)]))) (zA 1 G o0))) (zz [(4,_)] [⟨5,134,slH _ _,_⟩] λ a w U=>?_)
  refine aa<|qg<|aC ?_ (an G U (zm 0 G))
  rw [nI hl hml hv]
def rsig (neg:Bool)(l:List Nat):RI:=⟨neg && !(trimL l).isEmpty,trimL l⟩
theorem ez {M:List Nat→As}{neg:Bool}{l:List Nat}(h:(((trimL l).length:Int)==0)=true):(cat (setAll [BoA false,M []] [])).va=(cat [BoA (rsig neg l).neg,M (rsig neg l).mag]).va:=by
 have:trimL l=[]:=by simpa using h
 unfold rsig
 rw [this]; simp; rfl
theorem fI {M:List Nat→As}{neg:Bool}{l:List Nat}(h:(((trimL l).length:Int)==0)=false):(cat (setAll [BoA false,M []] [(0,BoA neg),(1,M (trimL l))])).va=(cat [BoA (rsig neg l).neg,M (rsig neg l).mag]).va:=by
 have:(trimL l).isEmpty=false:=by cases hh:trimL l <;> simp_all
 unfold rsig
 rw [this]; simp; rfl
theorem fJ (neg:Bool)(l:List Nat):Cn Tryz.prog 187 [Bo neg,(MgA l).va] ((RIA (rsig neg l)).va):=by
 refine Cn.intro Tryz.func187 G zk nq (λ B w0 a U=>?_)
 have U:=zn [(0,Bo neg),(1,(MgA l).va)] [] U
 refine qb<|zg [] [⟨4,26,ptrH,some 0,_,none⟩] [.alc 0] [.g 0,.g 1] U (zY G (Str.zero (cj famA)) o0) (zz [(0,_),(1,_)] [O 4 26 _] λ a w U=>?_)
 refine zt<|qb<|zg [η] [] [.v 5 _,.v 6 _,.v 1 _] [.g 0,.o 2] U (zM 1 G (zQ G (rk famA _) (.o (vq 0 G)) (zA 1 G o0))) (zz [(0,_),(1,_)] [O 4 26 _] λ a w U=>?_)
 refine zt<|zg [η] [] [.v 7 _,.v 8 _,.v 9 _] [.g 0,.g 1,.o 2] U (zM 1 G (zv G (aI Tryz.underlying24 (vq 0 G)) (zv G (bC (vq 1 G) ab) o0))) (zz [(0,_),(1,_),(9,_)] [O 4 26 _] λ a w U=>?_)
 refine aa<|aj U (zm 2 G) (λ hb0=>?_) (λ hb0=>?_)
 ·refine qb<|zg [some (1,_)] [] [.v 10 _,.sto 0] [.g 0,.g 1] U (zv G (aU (qs:=[]) (cj famA) .nil) (zS 0 G ar o0)) (zz [(0,_),(1,_)] [O 4 26 _] λ a w U=>?_)
  refine aa<|qg<|al ?_
  refine aC ?_ (aA G U (zm 0 G) ar)
  exact ez (M:=MgA) hb0
 ·refine qh<|zt<|zg [some (3,_)] [] [.v 11 _,.v 12 _,.v 13 _,.sto 0] [] U (zM 0 G (zM 1 G (zv G (aU (qs:=[(0,_),(1,_)]) (cj famA) (.cons ⟨rfl,vq 0 rfl,rfl⟩ (.cons ⟨rfl,vq 1 rfl,rfl⟩ .nil))) (zS 2 G ar o0)))) (zz [] [O 4 26 _] λ a w U=>?_)
  refine aa<|qg<|aC ?_ (aA G U (zm 0 G) ar)
  exact fI (M:=MgA) hb0
theorem d5 (neg:Bool)(l:List Nat):Cn Tryz.prog 187 [Bo neg,(MgN l).va] ((RIN (rsig neg l)).va):=by
 refine Cn.intro Tryz.func187 G zk nq (λ B w0 a U=>?_)
 have U:=zn [(0,Bo neg),(1,(MgN l).va)] [] U
 refine qb<|zg [] [⟨4,26,ptrH,some 0,_,none⟩] [.alc 0] [.g 0,.g 1] U (zY G (Str.zero (cj famN)) o0) (zz [(0,_),(1,_)] [O 4 26 _] λ a w U=>?_)
 refine zt<|qb<|zg [η] [] [.v 5 _,.v 6 _,.v 1 _] [.g 0,.o 2] U (zM 1 G (zQ G (rk famN _) (.o (vq 0 G)) (zA 1 G o0))) (zz [(0,_),(1,_)] [O 4 26 _] λ a w U=>?_)
 refine zt<|zg [η] [] [.v 7 _,.v 8 _,.v 9 _] [.g 0,.g 1,.o 2] U (zM 1 G (zv G (aI Tryz.underlying24 (pA (vq 0 G))) (zv G (bC (vq 1 G) ab) o0))) (zz [(0,_),(1,_),(9,_)] [O 4 26 _] λ a w U=>?_)
 refine aa<|aj U (zm 2 G) (λ hb0=>?_) (λ hb0=>?_)
 ·refine qb<|zg [some (1,_)] [] [.v 10 _,.sto 0] [.g 0,.g 1] U (zv G (aU (qs:=[]) (cj famN) .nil) (zS 0 G ar o0)) (zz [(0,_),(1,_)] [O 4 26 _] λ a w U=>?_)
  refine aa<|qg<|al ?_
  refine aC ?_ (aA G U (zm 0 G) ar)
  exact ez (M:=MgN) hb0
 ·refine qh<|zt<|zg [some (3,_)] [] [.v 11 _,.v 12 _,.v 13 _,.sto 0] [] U (zM 0 G (zM 1 G (zv G (aU (qs:=[(0,_),(1,_)]) (cj famN) (.cons ⟨rfl,vq 0 rfl,rfl⟩ (.cons ⟨rfl,vq 1 rfl,rfl⟩ .nil))) (zS 2 G ar o0)))) (zz [] [O 4 26 _] λ a w U=>?_)
  refine aa<|qg<|aC ?_ (aA G U (zm 0 G) ar)
  exact fI (M:=MgN) hb0
theorem mgz_n {l:List Nat}(h:0<l.length):(MgN l).n=(MgZ l).n∧(MgN l).ag=(MgZ l).ag∧∀ B cs w,(MgZ l).p B cs w→(MgN l).p B cs w:=⟨rfl,rfl,λ B cs w ⟨ok,A,c,e,h1,h2,h3⟩=>by
 obtain ⟨g,ext,rfl,rfl,h4,h5⟩:=h3 h
 exact ⟨ok,.inr ⟨g,ext,e,h2,h4,h5⟩⟩⟩
theorem ul {neg:Bool}{l:List Nat}(h:(((trimL l).length:Int)==0)=false):Wk (cat (setAll [BoA false,MgN []] [(0,BoA neg),(1,MgZ (trimL l))])).va (RIN (rsig neg l)).va:=by
 have h1:(trimL l).isEmpty=false:=by cases hh:trimL l <;> simp_all
 have h2:0<(trimL l).length:=by cases hh:trimL l <;> simp_all
 have e:RIN (rsig neg l)=cat [BoA neg,MgN (trimL l)]:=by unfold rsig RIN; rw [h1]; simp
 rw [e]
 exact λ B v w ⟨cs,⟨ps,hp,hq⟩,hv⟩=>by
  cases hq with
  | cons q1 hq=>cases hq with
   | cons q2 hq=>exact ⟨cs,⟨_,hp,.cons q1 (.cons ((mgz_n h2).2.2 _ _ _ q2) hq)⟩,hv⟩
theorem um (neg:Bool)(l:List Nat):Cn Tryz.prog 187 [Bo neg,(MgZ l).va] ((RIN (rsig neg l)).va):=by
 refine Cn.intro Tryz.func187 G zk nq (λ B w0 a U=>?_)
 have U:=zn [(0,Bo neg),(1,(MgZ l).va)] [] U
 refine qb<|zg [] [⟨4,26,ptrH,some 0,_,none⟩] [.alc 0] [.g 0,.g 1] U (zY G (Str.zero (cj famN)) o0) (zz [(0,_),(1,_)] [O 4 26 _] λ a w U=>?_)
 refine zt<|qb<|zg [η] [] [.v 5 _,.v 6 _,.v 1 _] [.g 0,.o 2] U (zM 1 G (zQ G (rk famZ _) (.o (vq 0 G)) (zA 1 G o0))) (zz [(0,_),(1,_)] [O 4 26 _] λ a w U=>?_)
 refine zt<|zg [η] [] [.v 7 _,.v 8 _,.v 9 _] [.g 0,.g 1,.o 2] U (zM 1 G (zv G (aI Tryz.underlying24 (By (vq 0 G))) (zv G (bC (vq 1 G) ab) o0))) (zz [(0,_),(1,_),(9,_)] [O 4 26 _] λ a w U=>?_)
 refine aa<|aj U (zm 2 G) (λ hb0=>?_) (λ hb0=>?_)
 ·refine qb<|zg [some (1,_)] [] [.v 10 _,.sto 0] [.g 0,.g 1] U (zv G (aU (qs:=[]) (cj famN) .nil) (zS 0 G ar o0)) (zz [(0,_),(1,_)] [O 4 26 _] λ a w U=>?_)
  refine aa<|qg<|al ?_
  refine ao ?_ (aA G U (zm 0 G) ar)
  exact λ _ _ _ h=>(ez (M:=MgN) hb0)▸h
 ·refine qh<|zt<|zg [some (3,_)] [] [.v 11 _,.v 12 _,.v 13 _,.sto 0] [] U (zM 0 G (zM 1 G (zv G (aU (qs:=[(0,_),(1,_)]) (cj famN) (.cons ⟨rfl,vq 0 rfl,rfl⟩ (.cons ⟨rfl,vq 1 rfl,rfl⟩ .nil))) (zS 2 G ar o0)))) (zz [] [O 4 26 _] λ a w U=>?_)
  refine aa<|qg<|ao ?_ (aA G U (zm 0 G) ar)
  exact ul hb0
set_option maxHeartbeats 2000000 in
theorem tK (b off n c:Nat)(zs:List Nat)(w:World)(hn:n=zs.length)(h0:0<n)(hbig:n*4≤140737488355328)(hc:∀ j (h:j<zs.length),w.cell? ⟨b,off+j,none⟩=some (.int .u32 (zs[j]:Nat))) :
  Calls Tryz.prog 240 #[.slice (some ⟨b,off,none⟩) n c] w λ e w'=>∃ g c ext,e=.returned (.slice (some ⟨g,0,none⟩) n c)∧w.heap.size≤g∧n≤c∧c≤maxLen∧w'.heap[g]?=some (.cells ((zs++ext).map λ (x:Nat)=>Value.int .u32 x).toArray U32 (0,0))∧Grow w w'∧c=(zs++ext).length:=by
 have t22:Tryz.prog.underlying 24=some (.slice U32):=by kernel_rfl
 obtain ⟨i0,hi,hz0,hz1,hz2⟩:=ri
 have q22:∀ (w:World) (a:Option Addr) (n c n' c':Nat),(binOp .eql 24 (.slice a n c) (.slice none n' c')).run Tryz.prog w=.ok (.bool a.isNone) w:=λ w a n c n' c'=>Lib.run_eql_slice_nil w _ _ a n c n' c' t22
 have u22:∀ w,Sem.run Tryz.prog (underlying 24) w=.ok (TypeDesc.slice U32) w:=run_underlying t22
 have A:Aside (∀ j (h:j<zs.length),w.cell? ⟨b,off+j,none⟩=some (.int .u32 (zs[j]:Nat))):=hc
 have HN:Aside (n=zs.length):=hn
 clear hc hn
 go_enter Tryz.func240,Tryz.ntmps240
 go_wp2_with (at_builtin; refine gm rfl _ _ 24 rfl U32 i0 (.int .u32 0) t22 hi hz0 hz1 hz2 _ rfl ⟨b,off,none⟩ n c (zs.map λ (x:Nat)=>Value.int .u32 x) rfl ?qc1 ?qc2 h0 hbig ?_)
 case qc1=>simp; exact HN.out.symm
 case qc2 =>
  intro j u hj
  have hjn:j<zs.length:=by
   have:=(List.getElem?_eq_some_iff.1 hj).1
   simpa using this
  rw [Addr.add_lit]
  refine Lib.cell?_alloc_some _ ?_
  rw [A.out j hjn]
  simpa [hjn] using hj
 go_wp2
 go_ret
 refine ⟨_,_,List.replicate (grownCap (w.alloc (.cells #[] U32)) n 0 U32-n) 0,rfl,by omega,grownCap_ge _ _ _ _,grownCap_le_maxLen _ _ _ _ (by unfold maxLen; omega),?_,?_,?_⟩
 ·have e:(w.alloc (.cells #[] U32)).heap.size=w.heap.size+1:=by simp
  rw [← e,sL,zF,← kX]
  exact heap_alloc_new _ _
 ·exact ((Grow.alloc w _).trans (Grow.alloc _ _)).trans (Grow.drew _)
 ·have:=grownCap_ge (w.alloc (.cells #[] U32)) n 0 U32
  have hnz:=HN.out
  rw [qB,qW]
  omega
theorem yI (c:Nat)(w:World):Calls Tryz.prog 240 #[.slice none 0 c] w λ e w'=>e=.returned (.slice none 0 0)∧w=w':=by
 have t22:Tryz.prog.underlying 24=some (.slice U32):=by kernel_rfl
 have q22:∀ (w:World) (a:Option Addr) (n c n' c':Nat),(binOp .eql 24 (.slice a n c) (.slice none n' c')).run Tryz.prog w=.ok (.bool a.isNone) w:=λ w a n c n' c'=>Lib.run_eql_slice_nil w _ _ a n c n' c' t22
 go_enter Tryz.func240,Tryz.ntmps240
 go_wp2
 go_ret
 exact ⟨rfl,rfl⟩
theorem tJ (ad:Addr)(c:Nat)(w:World):Calls Tryz.prog 240 #[.slice (some ad) 0 c] w λ e w'=>∃ A c,e=.returned (.slice A 0 c)∧c≤maxLen∧Below w.heap.size w w':=by
 have t22:Tryz.prog.underlying 24=some (.slice U32):=by kernel_rfl
 obtain ⟨i0,hi,hz0,hz1,hz2⟩:=ri
 have q22:∀ (w:World) (a:Option Addr) (n c n' c':Nat),(binOp .eql 24 (.slice a n c) (.slice none n' c')).run Tryz.prog w=.ok (.bool a.isNone) w:=λ w a n c n' c'=>Lib.run_eql_slice_nil w _ _ a n c n' c' t22
 have u22:∀ w,Sem.run Tryz.prog (underlying 24) w=.ok (TypeDesc.slice U32) w:=run_underlying t22
 go_enter Tryz.func240,Tryz.ntmps240
 go_wp2_with (at_builtin; refine wpList_append_own _ rfl _ _ 24 rfl w.heap.size U32 i0 (.int .u32 0) 1 4 t22 hi hz0 hz1 hz2 rfl zd _ _ _ rfl (World.ownsRow_made w #[] 0 (qi _) (zc _) rfl) ad 0 c [] rfl rfl ?qc2 ?qc3 ?qc4 ?qc5 ?qc6 ?_)
 case qc2=>intro j u hj; simp at hj
 case qc3=>intro u hu; cases hu
 case qc4=>unfold maxLen; omega
 case qc5=>omega
 case qc6=>simp
 intro v' w1 hown hgrow hnil
 go_wp2
 go_ret
 have hb:=((Below.refl _ w).alloc (qi _) _).grown hgrow (by simp) (by intro k hk; simp [Value.ownBlock] at hk; omega)
 rcases hown.2 with ⟨rfl,_⟩ | ⟨g,cap,cur,rfl,_,_,_,h4,_⟩
 ·exact ⟨none,0,rfl,zc _,hb⟩
 ·exact ⟨_,cap,rfl,h4,hb⟩
theorem yJ (l:List Nat)(hls:l.length≤1099511627776):Cn Tryz.prog 240 [(MgA l).va] (MgZ l).va:=by
 refine ⟨gc Tryz.func240 zk zk,λ B w args hB ha=>?_⟩
 obtain ⟨v,rfl,hv⟩:=ha.one
 obtain ⟨A,c,rfl,hm⟩:=fq hv
 by_cases h0:l.length=0
 ·have hl:l=[]:=z8 h0
  subst hl
  cases A with
  | none =>
   refine (yI c w).mono λ e w' ⟨he,hw⟩=>?_
   subst hw
   exact ⟨_,he,⟨_,famZ.nil B w,rfl⟩,Grow.refl w⟩
  | some ad=>exact (tJ ad c w).mono λ e w' ⟨A,c,he,hm,hb⟩=>⟨_,he,⟨_,⟨cI,A,c,rfl,zc _,hm,λ h=>by simp at h⟩,rfl⟩,hb⟩
 ·obtain ⟨b,o,rfl,h1,h2,h3⟩:=hm.at_ zo
  exact (tK b o l.length c l w G zo zo h3).mono λ e w' ⟨g,c,ext,he,h4,h5,h6,h7,hb,hcx⟩=>⟨_,he,⟨_,⟨hm.ok,_,c,rfl,h5,h6,λ _=>⟨g,ext,rfl,hcx,qe hB h4,h7⟩⟩,rfl⟩,hb⟩
theorem Fr (neg:Bool)(l:List Nat)(hls:l.length≤1099511627776):Cn Tryz.prog 217 [Bo neg,(MgA l).va] ((RIN (rsig neg l)).va):=by
 refine Cn.intro Tryz.func217 G zk nq (λ B w0 a U=>?_)
 have U:=zn [(0,Bo neg),(1,(MgA l).va)] [] U
 refine qb<|zg [] [⟨4,26,ptrH,some 0,_,none⟩] [.alc 0] [.g 0,.g 1] U (zY G (Str.zero (cj famN)) o0) (zz [(0,_),(1,_)] [O 4 26 _] λ a w U=>?_)
 refine zt<|zg [some (4,_)] [] [.v 5 _,.v 6 _,.v 7 _,.v 8 _,.sto 0] [] U (zM 0 G (zM 1 G (zQ G (yJ _ hls) (.o (vq 1 G)) (zQ G (um _ _) (.p (vq 0 G) (vq 2 G)) (zS 3 G ar o0))))) (zz [] [O 4 26 _] λ a w U=>?_)
 exact aa<|qg<|aA G U (zm 0 G) ar
theorem oL:∀ {l:List Nat} {j x:Nat} (h:j<l.length),val (l.set j x)+4294967296^j*l[j]=val l+4294967296^j*x
 | [],j,x,h=>by simp at h
 | y::ys,0,x,_=>by simp [val]; omega
 | y::ys,j+1,x,h=>by
  have:=oL (l:=ys) (j:=j) (x:=x) (by simpa using h)
  simp only [j0,val,List.getElem_cons_succ,qV]
  have e:∀ z,4294967296^j*4294967296*z=4294967296*(4294967296^j*z):=λ z=>by rw [qP (4294967296^j),qU]
  rw [e,e]
  omega
theorem wc {l:List Nat}(h:okL l)(j:Nat){x:Nat}(hx:x<4294967296):okL (l.set j x):=λ y hy=>by
 rcases qy hy with h1 | h1
 ·exact h y h1
 ·subst h1; exact hx
structure MulO (a b L:List Nat) (i:Nat):Prop where
 len:L.length=a.length+b.length
 ok:okL L
 vl:val L=val (a.take i)*val b
 zero:∀ j,i+b.length≤j→L.getD j 0=0
structure MulI (a b L:List Nat) (i u k c:Nat):Prop where
 len:L.length=a.length+b.length
 ok:okL L
 cl:c<4294967296
 vl:val L+c*4294967296^(i+k)=val (a.take i)*val b+4294967296^i*(u*val (b.take k))
 zero:∀ j,i+b.length≤j→L.getD j 0=0
theorem MulO.start (a b:List Nat):MulO a b (List.replicate (a.length+b.length) 0) 0:=⟨by simp,λ x hx=>by rw [(xY.1 hx).2]; decide,by simp [nA],λ j _=>by rw [List.getD_eq_getElem?_getD,List.getElem?_replicate]; split <;> rfl⟩
theorem MulO.row {a b L:List Nat}{i:Nat}(h:MulO a b L i)(u:Nat):MulI a b L i u 0 0:=⟨h.len,h.ok,by decide,by rw [h.vl]; simp,h.zero⟩
theorem gU {u v c l:Nat}(hu:u<4294967296)(hv:v<4294967296)(hc:c<4294967296)(hl:l<4294967296):c+(u*v+l)<18446744073709551616:=by
 have:u*v≤4294967295*4294967295:=xC zo zo
 omega
theorem FR {V V' W Z p q r u x y c t B d m:Nat}(hp:p=q*r)(ht:t=c+(u*x+y))(hd:B*d+m=t)(h2:V'+p*y=V+p*m)(h3:V+c*p=W+q*(u*Z)):V'+d*(p*B)=W+q*(u*(Z+r*x)):=by
 grind
theorem MulI.step {a b L:List Nat}{i u k c:Nat}(h:MulI a b L i u k c)(hb:okL b)(hu:u<4294967296)(hk:k<b.length)(hj:i+k<L.length) :
  MulI a b (L.set (i+k) ((c+(u*b[k]+L[i+k]))%4294967296)) i u (k+1) ((c+(u*b[k]+L[i+k]))/4294967296):=by
 have h1:=gU hu (hb _ (qf hk)) h.cl (h.ok _ (qf hj))
 refine ⟨by rw [zG,h.len],wc h.ok _ (qM _ zd),zD h1,?_,λ j hj'=>?_⟩
 ·have h2:=oL (x:=(c+(u*b[k]+L[i+k]))%4294967296) hj
  have h3:=h.vl
  rw [bx hk,show i+(k+1)=(i+k)+1 from rfl,qV]
  exact FR (zR _ _ _) G (xw _ _) h2 h3
 ·have:=h.zero j hj'
  rw [List.getD_eq_getElem?_getD,List.getElem?_set_ne zo,← List.getD_eq_getElem?_getD]
  exact this
theorem MulI.done {a b L:List Nat}{i u c:Nat}(h:MulI a b L i u b.length c)(hi:i<a.length)(hu:a[i]=u):MulO a b (L.set (i+b.length) c) (i+1):=by
 have hj:i+b.length<L.length:=by rw [h.len]; omega
 have h1:=oL (x:=c) hj
 have h2:=h.vl
 have h3:L[i+b.length]=0:=by have:=h.zero _ (qi _); rwa [cv hj] at this
 rw [h3,kE,xF] at h1
 rw [qD (qi _)] at h2
 refine ⟨by rw [zG,h.len],wc h.ok _ h.cl,?_,λ j hj'=>?_⟩
 ·rw [h1,qP _ c,h2,bx hi,hu,xL,qU]
 ·rw [List.getD_eq_getElem?_getD,List.getElem?_set_ne zo,← List.getD_eq_getElem?_getD]
  exact h.zero j zo
theorem MulO.fin {a b L:List Nat}(h:MulO a b L a.length):L=digs (a.length+b.length) (val a*val b):=lf h.ok h.len (by rw [h.vl,qF])
theorem Ev (x y:RI)(hxs:x.mag.length≤1099511627776)(hys:y.mag.length≤1099511627776):Cn Tryz.prog 115 [(RIA x).va,(RIA y).va] ((RIN (rsig (x.neg != y.neg) (digs (x.mag.length+y.mag.length) (val x.mag*val y.mag)))).va):=by
 refine Cn.introW Tryz.func115 G zk nq (.cons (sN _).va (.cons (sN _).va .nil)) (du _).va (λ B w0 a hB0 U=>?_)
 have U:=zn [(0,(RIO x).va),(1,(RIO y).va)] [] U
 refine qb<|zg [] [⟨2,26,ptrH,some 0,_,none⟩,⟨3,26,ptrH,some 1,_,none⟩,⟨4,26,ptrH,some 2,_,none⟩] [.alc 0,.alc 1,.alc 2] [] U (zW 0 G (zW 1 G (zY G (Str.zero eQ) o0))) (zz [] [O 2 26 _,O 3 26 _,O 4 26 _] λ a w U=>?_)
 refine zt<|zgd [[],[0],[],[2],[0,1],[0,1,2,3,4]] [none,none,none] [] [.adr 13 2 (.some 1) True,.v 14 _,.adr 15 3 (.some 1) True,.v 16 _,.v 5 _,.v 6 _] [.o 4,.o 5] ae U (zO 0 G ay (zL 0 0 1 G aX (zO 1 G ay (zL 2 1 1 G aX (zA 1 G (zA 3 G o0)))))) zk zk zk zk (zz [(5,_),(6,_)] [O 2 26 _,O 3 26 _,O 4 26 _] λ a w U=>?_)
 refine zt<|cU (sts:=[none,none,none]) (news:=[⟨22,134,slH _ _,some 5,_,none⟩]) (sp:=[.v 17 _,.v 18 _,.v 19 _,.v 20 _,.v 21 _,.alc 3,.adr 7 22 .none True]) [.g 0,.g 1] [(7,22)] [O 2 26 _,O 3 26 _,O 4 26 _,⟨7,134,slH _ _,_⟩] U (zM 0 G (zv G (aI Tryz.underlying24 (aD (vq 0 G))) (zM 1 G (zv G (aI Tryz.underlying24 (aD (vq 2 G))) (zv G (aN (vq 1 G) (vq 3 G) (fB zo)) (oc (dK G G G eD (vq 4 G) (vq 4 G) zo) (oc (ob_a G G lw) o0))))))) zk zk zk ⟨⟨6,rfl⟩,trivial⟩ G zk (zz [(5,_),(6,_)] [O 2 26 _,O 3 26 _,O 4 26 _,⟨7,134,slH _ _,_⟩] λ a w U=>?_)
 refine zt<|qb<|zg [η,η,η,η] [] [.v 23 _,.v 24 _,.v 25 _] [.g 1,.o 0,.o 1,.o 2] U (zM 0 G (zv G (aI Tryz.underlying24 (aD (vq 0 G))) (zv G (ai ab) o0))) (zz [(6,_),(23,_),(24,_),(25,_)] [O 2 26 _,O 3 26 _,O 4 26 _,⟨7,134,slH _ _,_⟩] λ a w U=>?_)
 refine aa<|qj ?_
 have U:=St.sel U [0,1,2,3]
 refine wp_loop_ghost (λ n a w=>∃ (i:Nat) (L:List Nat),n+i=x.mag.length∧MulO x.mag y.mag L i∧St B w0 78 [(6,(MgO y.mag).va),(23,(MgO x.mag).va),(24,In (x.mag.length:Nat)),(25,In (i:Nat))] [⟨2,26,ptrH,RIO x⟩,⟨3,26,ptrH,RIO y⟩,⟨4,26,ptrH,cat [BoA false,MgO []]⟩,⟨7,134,slH (x.mag.length+y.mag.length) (x.mag.length+y.mag.length),Nums .u32 L⟩] a w) (x.mag.length) ?_ ?_
 ·exact ⟨0,_,by omega,MulO.start _ _,U⟩
 intro n a w hI
 obtain ⟨i,L,hn,hO,U⟩:=hI; obtain ⟨n1,hn1⟩:∃ n1,n1=n:=⟨n,rfl⟩; have hb:=(U.magO 0 rfl).1; have ha:=(U.magO 1 rfl).1; have hlen:=hO.len
 refine qb<|zg [η,η,η,η] [] [.v 26 _] [.g 0,.g 1,.g 2,.g 3,.o 0] U (zv G (aS (gq 3 G) (gq 2 G)) o0) (zz [(6,_),(23,_),(24,_),(25,_),(26,_)] [O 2 26 _,O 3 26 _,O 4 26 _,⟨7,134,slH _ _,_⟩] λ a w U=>?_)
 refine zt<|aj U (zm 4 G) (λ hb0=>?_) (λ hb0=>?_)
 ·have hi:i<x.mag.length:=by simp at hb0; omega
  refine qh<|zt<|qj<|qb<|zg [η,η,η,η] [] [.v 27 _,.v 28 _,.v 29 _,.v 8 _,.v 9 _] [.g 0,.g 1,.g 2,.g 3,.o 3,.o 4] U (zM 3 G (zv G (bG b9 (aD (gq 1 G)) (gq 3 G) zo) (zv G (au (vq 1 G) aO) (zA 0 G (zA 2 G o0))))) (zz [(6,_),(23,_),(24,_),(25,_),(8,_),(9,_)] [O 2 26 _,O 3 26 _,O 4 26 _,⟨7,134,slH _ _,_⟩] λ a w U=>?_)
  refine zt<|zg [η,η,η,η] [] [.v 10 _] [.g 0,.g 1,.g 2,.g 3,.g 4,.g 5,.o 0] U (zv G (ac (aG 0 G)) o0) (zz [(6,_),(23,_),(24,_),(25,_),(8,_),(9,_),(10,_)] [O 2 26 _,O 3 26 _,O 4 26 _,⟨7,134,slH _ _,_⟩] λ a w U=>?_)
  refine zt<|qb<|zg [η,η,η,η] [] [.v 30 _,.v 31 _,.v 32 _] [.g 0,.g 1,.g 2,.g 3,.g 4,.g 5,.g 6,.o 0,.o 1,.o 2] U (zM 0 G (zv G (aI Tryz.underlying24 (aD (vq 0 G))) (zv G (ai ab) o0))) (zz [(6,_),(23,_),(24,_),(25,_),(8,_),(9,_),(10,_),(30,_),(31,_),(32,_)] [O 2 26 _,O 3 26 _,O 4 26 _,⟨7,134,slH _ _,_⟩] λ a w U=>?_)
  refine aa<|qj ?_
  have U:=St.sel U [0,1,2,3,4,5,6,7,8,9]
  refine wp_loop_ghost (λ n a w=>∃ (k c:Nat) (L:List Nat),n+k=y.mag.length∧MulI x.mag y.mag L i x.mag[i] k c∧St B w0 78 [(6,(MgO y.mag).va),(23,(MgO x.mag).va),(24,In (x.mag.length:Nat)),(25,In (i:Nat)),(8,In (i:Nat)),(9,(NumA .u32 (x.mag[i]:Nat)).va),(10,(NumA .u64 (c:Nat)).va),(30,(MgO y.mag).va),(31,In (y.mag.length:Nat)),(32,In (k:Nat))] [⟨2,26,ptrH,RIO x⟩,⟨3,26,ptrH,RIO y⟩,⟨4,26,ptrH,cat [BoA false,MgO []]⟩,⟨7,134,slH (x.mag.length+y.mag.length) (x.mag.length+y.mag.length),Nums .u32 L⟩] a w) (y.mag.length) ?_ ?_
  ·exact ⟨0,0,L,by omega,hO.row _,U⟩
  intro n a w hI
  clear hlen hO; obtain ⟨k,c,L,hn2,hI,U⟩:=hI; have hlen:=hI.len; have hc:=hI.cl
  refine qb<|zg [η,η,η,η] [] [.v 33 _] [.g 0,.g 1,.g 2,.g 3,.g 4,.g 5,.g 6,.g 7,.g 8,.g 9,.o 0] U (zv G (aS (gq 9 G) (gq 8 G)) o0) (zz [(6,_),(23,_),(24,_),(25,_),(8,_),(9,_),(10,_),(30,_),(31,_),(32,_),(33,_)] [O 2 26 _,O 3 26 _,O 4 26 _,⟨7,134,slH _ _,_⟩] λ a w U=>?_)
  refine zt<|aj U (zm 10 G) (λ hb1=>?_) (λ hb1=>?_)
  ·have hk:k<y.mag.length:=by simp at hb1; omega
   refine qh<|zt<|qj<|qb<|zg [η,η,η,η] [] [.v 34 _,.v 35 _,.v 36 _,.v 11 _,.v 12 _] [.g 0,.g 1,.g 2,.g 3,.g 4,.g 5,.g 6,.g 7,.g 8,.g 9,.o 3,.o 4] U (zM 9 G (zv G (bG b9 (aD (gq 7 G)) (gq 9 G) zo) (zv G (au (vq 1 G) aO) (zA 0 G (zA 2 G o0))))) (zz [(6,_),(23,_),(24,_),(25,_),(8,_),(9,_),(10,_),(30,_),(31,_),(32,_),(11,_),(12,_)] [O 2 26 _,O 3 26 _,O 4 26 _,⟨7,134,slH _ _,_⟩] λ a w U=>?_)
   refine zt<|zg [η,η,η,η] [] [.v 37 _,.v 38 _,.v 39 _,.v 40 _,.v 41 _,.v 42 _,.adr 43 7 .none True,.v 44 _,.v 45 _,.v 46 _,.adr 47 7 (.some _) True,.v 48 _,.v 49 _,.v 50 _,.v 51 _,.v 10 _] [.g 0,.g 1,.g 2,.g 3,.g 4,.g 5,.g 7,.g 8,.g 9,.g 10,.o 15] U (zM 6 G (zM 5 G (zv G (aK .u64 zk zk (vq 1 G) (wu64 (ze (ha _ (qf _)) zd))) (zM 11 G (zv G (aK .u64 zk zk (vq 3 G) (wu64 (ze (hb _ (qf _)) zd))) (zv G (iP (vq 2 G) (vq 4 G) (wmul64 (qT (qe (vk _ _) (jJ _ _)) (gU (ha _ (qf _)) (hb _ (qf _)) (show 0<4294967296 by decide) (show 0<4294967296 by decide))))) (oc (ob_a G G cb) (zM 4 G (zM 10 G (zv G (aN (vq 7 G) (vq 8 G) (fB zo)) (oc (ob_a G G (dm 6 G zk (lz0 3 G) b9 (vq 9 G) zo)) (zv G (iQ 10 G zk (lz0 3 G) (λ _=>bK _ _ _ _) (gI zo) aO) (zv G (aK .u64 zk zk (vq 11 G) (wu64 (ze (hI.ok _ (qf _)) zd))) (zv G (aN (vq 5 G) (vq 12 G) (wadd64 (qT (jJ _ _) (gU (ha _ (qf _)) (hb _ (qf _)) hc (hI.ok _ (qf _)))))) (zv G (aN (vq 0 G) (vq 13 G) (wadd64 (gU (ha _ (qf _)) (hb _ (qf _)) hc (hI.ok _ (qf _))))) (zA 14 G o0)))))))))))))))) (zz [(6,_),(23,_),(24,_),(25,_),(8,_),(9,_),(30,_),(31,_),(32,_),(11,_),(10,_)] [O 2 26 _,O 3 26 _,O 4 26 _,⟨7,134,slH _ _,_⟩] λ a w U=>?_)
   refine zt<|zg [η,η,η,some (7,_)] [] [.adr 52 7 .none True,.v 53 _,.v 54 _,.v 55 _,.v 56 _,.v 57 _,.adr 58 7 (.some _) True,.sto 3] [.g 0,.g 1,.g 2,.g 3,.g 4,.g 5,.g 6,.g 7,.g 8,.g 10] U (oc (ob_a G G cb) (zM 4 G (zM 9 G (zv G (aN (vq 1 G) (vq 2 G) (fB zo)) (zM 10 G (zv G (aK .u32 zk zk (vq 4 G) (wu32')) (oc (ob_a G G (dm 0 G zk (lz0 3 G) b9 (vq 3 G) zo)) (oc (c7 6 G G G G zk (λ _=>bK _ _ _ _) (vq 5 G) aO (br zo)) o0)))))))) (zz [(6,_),(23,_),(24,_),(25,_),(8,_),(9,_),(30,_),(31,_),(32,_),(10,_)] [O 2 26 _,O 3 26 _,O 4 26 _,⟨7,134,slH _ _,_⟩] λ a w U=>?_)
   refine aa<|zg [η,η,η,η] [] [.v 59 _,.v 60 _,.v 10 _] [.g 0,.g 1,.g 2,.g 3,.g 4,.g 5,.g 6,.g 7,.g 8,.o 2] U (zM 9 G (zv G (i7 (vq 0 G) (aG 32 G) zd (nshr)) (zA 1 G o0))) (zz [(6,_),(23,_),(24,_),(25,_),(8,_),(9,_),(30,_),(31,_),(32,_),(10,_)] [O 2 26 _,O 3 26 _,O 4 26 _,⟨7,134,slH _ _,_⟩] λ a w U=>?_)
   refine ap ?_
   refine aa<|zg [η,η,η,η] [] [.v 61 _,.v 32 _] [.g 0,.g 1,.g 2,.g 3,.g 4,.g 5,.g 6,.g 7,.g 9,.o 1] U (zv G (aN (gq 8 G) ab (ba zo)) (zv G (ai (vq 0 G)) o0)) (zz [(6,_),(23,_),(24,_),(25,_),(8,_),(9,_),(30,_),(31,_),(10,_),(32,_)] [O 2 26 _,O 3 26 _,O 4 26 _,⟨7,134,slH _ _,_⟩] λ a w U=>?_)
   refine aa ?_
   have U:=St.sel U [0,1,2,3,4,5,8,6,7,9]
   exact ⟨n-1,by omega,k+1,_,_,by omega,hI.step hb (ha _ (qf _)) hk zo,U⟩
  ·obtain rfl:k=y.mag.length:=by simp at hb1; omega
   refine qK<|am<|am<|aB<|aa<|zg [η,η,η,some (8,_)] [] [.adr 62 7 .none True,.v 63 _,.v 64 _,.v 65 _,.v 66 _,.v 67 _,.v 68 _,.adr 69 7 (.some _) True,.sto 3] [.g 0,.g 1,.g 2,.g 3] U (oc (ob_a G G cb) (zM 4 G (zM 0 G (zv G (aI Tryz.underlying24 (aD (vq 2 G))) (zv G (aN (vq 1 G) (vq 3 G) (fB zo)) (zM 6 G (zv G (aK .u32 zk zk (vq 5 G) (wu32 hc)) (oc (ob_a G G (dm 0 G zk (lz0 3 G) b9 (vq 4 G) zo)) (oc (c7 7 G G G G zk (λ _=>bK _ _ _ _) (vq 6 G) aO (br zo)) o0))))))))) (zz [(6,_),(23,_),(24,_),(25,_)] [O 2 26 _,O 3 26 _,O 4 26 _,⟨7,134,slH _ _,_⟩] λ a w U=>?_)
   refine ap ?_
   refine aa<|zg [η,η,η,η] [] [.v 70 _,.v 25 _] [.g 0,.g 1,.g 2,.o 1] U (zv G (aN (gq 3 G) ab (ba zo)) (zv G (ai (vq 0 G)) o0)) (zz [(6,_),(23,_),(24,_),(25,_)] [O 2 26 _,O 3 26 _,O 4 26 _,⟨7,134,slH _ _,_⟩] λ a w U=>?_)
   refine aa ?_
   have U:=St.sel U [0,1,2,3]
   exact ⟨n1-1,by omega,i+1,_,by omega,hI.done hi rfl,U⟩
 ·obtain rfl:i=x.mag.length:=by simp at hb0; omega
  refine qK<|am<|am<|aB<|zt<|zg [η,η,some (7,_),η] [] [.adr 71 2 (.some 0) True,.v 72 _,.adr 73 3 (.some 0) True,.v 74 _,.v 75 _,.adr 76 7 .none True,.v 77 _,.sto 2] [] U (zO 0 G aV (zL 0 0 0 G ty_4 (zO 1 G aV (zL 2 1 0 G ty_4 (zv G (lN zk (vq 1 G) (vq 3 G)) (oc (ob_a G G cb) (zQ G (d5 _ _) (.p (vq 4 G) (fT 5 G zk (lz0 3 G) ⟨hO.len.symm,qi _,by unfold maxLen; omega,hO.ok⟩ hO.len.symm)) (zS 6 G ar o0)))))))) (zz [] [O 2 26 _,O 3 26 _,O 4 26 _,⟨7,134,slH _ _,_⟩] λ a w U=>?_)
  refine aa<|qg<|aC ?_ (aA G U (zm 2 G) ar)
  rw [hO.fin]; rfl
def sgI (x:RI):Int:=if x.mag.length=0 then 0 else if x.neg then -1 else 1
def cmpI (x y:RI):Int:=if sgI x≠sgI y then (if sgI x<sgI y then -1 else 1) else max (-1) (min 1 (if x.neg then -(sizeL x.mag y.mag) else sizeL x.mag y.mag))
def okRI (x:RI):Bool := !((decide ((x.mag.length:Int)>2048) || (decide ((x.mag.length:Int)>0)&&(((x.mag.getD (x.mag.length-1) 0:Nat):Int)==((0:Nat):Int)))) || (((x.mag.length:Int)==0)&&x.neg))
theorem sC {x:RI}(h:((decide ((x.mag.length:Int)>2048) || (decide ((x.mag.length:Int)>0)&&(((x.mag.getD (x.mag.length-1) 0:Nat):Int)==((0:Nat):Int)))) || (((x.mag.length:Int)==0)&&x.neg))=true):(1:Int)=(if okRI x then 0 else 1):=by unfold okRI; rw [h]; rfl
theorem sB {x:RI}(h:((decide ((x.mag.length:Int)>2048) || (decide ((x.mag.length:Int)>0)&&(((x.mag.getD (x.mag.length-1) 0:Nat):Int)==((0:Nat):Int)))) || (((x.mag.length:Int)==0)&&x.neg))=false):(0:Int)=(if okRI x then 0 else 1):=by unfold okRI; rw [h]; rfl
theorem bV {neg:Bool}{l:List Nat}{z:Int}(ok:okL l)(hv:val l=z.natAbs)(hn:z≠0→neg=decide (z<0)):rsig neg l=riOf z:=by
 unfold rsig riOf
 rw [cW ok,hv]
 by_cases h:z=0
 ·subst h; simp [bt]
 ·have h1:limbs z.natAbs≠[]:=by rw [cK zo]; simp
  have h2:(limbs z.natAbs).isEmpty=false:=by cases hh:limbs z.natAbs <;> simp_all
  rw [h2,hn h]; simp
theorem mA (z:Int):okL (riOf z).mag:=(bi _).1
theorem bv (z:Int):val (riOf z).mag=z.natAbs:=aH _
theorem AA {l m:List Nat}(hl:l.length≤1099511627776)(hm:m.length≤1099511627776) : -1099511627777≤sizeL l m∧sizeL l m≤1099511627777:=by
 unfold sizeL; split
 ·omega
 ·split
  ·omega
  ·split <;> omega
theorem ur {x:RI}(h:((x.mag.length:Int)==0)=true):(0:Int)=sgI x:=by simp at h; simp [sgI,h]
theorem uq {x:RI}(h:((x.mag.length:Int)==0)=false)(h2:x.neg=true):(-1:Int)=sgI x:=by simp at h; simp [sgI,h,h2]
theorem uo {x:RI}(h:((x.mag.length:Int)==0)=false)(h2:x.neg=false):(1:Int)=sgI x:=by simp at h; simp [sgI,h,h2]
theorem cmp_e0 {x y:RI}(h:(sgI x != sgI y)=true)(h2:decide (sgI x<sgI y)=true):(-1:Int)=cmpI x y:=by simp at h h2; simp [cmpI,h,h2]
theorem cmp_e1 {x y:RI}(h:(sgI x != sgI y)=true)(h2:decide (sgI x<sgI y)=false):(1:Int)=cmpI x y:=by simp at h h2; simp [cmpI,h]; omega
theorem cmp_e2 {x y:RI}(h:(sgI x != sgI y)=false):max (-1) (min 1 (if x.neg then -(sizeL x.mag y.mag) else sizeL x.mag y.mag))=cmpI x y:=by simp at h; simp [cmpI,h]
theorem ro (x:RI):Cn Tryz.prog 177 [(RIA x).va] (In (sgI x)):=by
 refine Cn.intro Tryz.func177 G zk nq (λ B w0 a U=>?_)
 have U:=zn [(0,(RIA x).va)] [] U
 refine qb<|zg [] [⟨1,26,ptrH,some 0,_,none⟩] [.alc 0,.v 2 _] [.o 1] U (zW 0 G (zv G (ac ab) o0)) (zz [(2,_)] [O 1 26 _] λ a w U=>?_)
 refine zt<|qj<|qb<|zg [η] [] [.adr 4 1 (.some 1) True,.v 5 _,.v 6 _,.v 7 _,.v 3 _] [.g 0,.o 4] U (zO 0 G ay (zL 0 0 1 G aX (zv G (aI Tryz.underlying24 (vq 1 G)) (zv G (bC (vq 2 G) ab) (zA 3 G o0))))) (zz [(2,_),(3,_)] [O 1 26 _] λ a w U=>?_)
 refine aa<|aj U (zm 1 G) (λ hb0=>?_) (λ hb0=>?_)
 ·refine qb<|zg [η] [] [.v 2 _] [.o 0] U (zv G (ac ab) o0) (zz [(2,_)] [O 1 26 _] λ a w U=>?_)
  refine aa<|qg<|aE ?_
  refine al ?_
  refine aC ?_ (an G U (zm 0 G))
  exact nu (ur hb0)
 ·refine qb<|zg [η] [] [.adr 9 1 (.some 0) True,.v 10 _,.v 8 _] [.g 0,.o 2] U (zO 0 G aV (zL 0 0 0 G ty_4 (zA 1 G o0))) (zz [(2,_),(8,_)] [O 1 26 _] λ a w U=>?_)
  refine aa<|aj U (zm 1 G) (λ hb1=>?_) (λ hb1=>?_)
  ·refine qb<|zg [η] [] [.v 2 _] [.o 0] U (zv G (ac ab) o0) (zz [(2,_)] [O 1 26 _] λ a w U=>?_)
   refine aa<|qg<|aE ?_
   refine al ?_
   refine aC ?_ (an G U (zm 0 G))
   exact nu (uq hb0 hb1)
  ·refine qh<|ap ?_
   refine zt<|zg [η] [] [.v 2 _] [.o 0] U (zv G (ac ab) o0) (zz [(2,_)] [O 1 26 _] λ a w U=>?_)
   refine aa<|qg<|aC ?_ (an G U (zm 0 G))
   exact nu (uo hb0 hb1)
theorem DU (x y:RI)(hxs:x.mag.length≤1099511627776)(hys:y.mag.length≤1099511627776):Cn Tryz.prog 114 [(RIA x).va,(RIA y).va] (In (cmpI x y)):=by
 refine Cn.intro Tryz.func114 G zk nq (λ B w0 a U=>?_)
 have U:=zn [(0,(RIA x).va),(1,(RIA y).va)] [] U
 have hbd:=AA hxs hys
 refine qb<|zg [] [⟨2,26,ptrH,some 0,_,none⟩,⟨3,26,ptrH,some 1,_,none⟩] [.alc 0,.alc 1,.v 4 _] [.o 2] U (zW 0 G (zW 1 G (zv G (ac ab) o0))) (zz [(4,_)] [O 2 26 _,O 3 26 _] λ a w U=>?_)
 refine zt<|qb<|zgd [[],[0],[],[0,1,2],[0,1,2,3],[0,1,2,3,4]] [none,none] [] [.v 8 _,.v 9 _,.v 10 _,.v 11 _,.v 5 _,.v 6 _] [.g 0,.o 4,.o 5] ae U (zl 0 G ar (zQ G (ro _) (.o (vq 0 G)) (zl 1 G ar (zQ G (ro _) (.o (vq 2 G)) (zA 1 G (zA 3 G o0)))))) zk zk zk zk (zz [(4,_),(5,_),(6,_)] [O 2 26 _,O 3 26 _] λ a w U=>?_)
 refine zt<|zg [η,η] [] [.v 12 _,.v 13 _,.v 14 _] [.g 0,.g 1,.g 2,.o 2] U (zM 1 G (zM 2 G (zv G (bX (vq 0 G) (vq 1 G)) o0))) (zz [(4,_),(5,_),(6,_),(14,_)] [O 2 26 _,O 3 26 _] λ a w U=>?_)
 refine aa<|aj U (zm 3 G) (λ hb0=>?_) (λ hb0=>?_)
 ·refine qb<|qb<|zg [η,η] [] [.v 15 _,.v 16 _,.v 17 _] [.g 0,.o 2] U (zM 1 G (zM 2 G (zv G (aS (vq 0 G) (vq 1 G)) o0))) (zz [(4,_),(17,_)] [O 2 26 _,O 3 26 _] λ a w U=>?_)
  refine aa<|aj U (zm 1 G) (λ hb1=>?_) (λ hb1=>?_)
  ·refine qb<|zg [η,η] [] [.v 4 _] [.o 0] U (zv G (ac ab) o0) (zz [(4,_)] [O 2 26 _,O 3 26 _] λ a w U=>?_)
   refine aa<|qg<|al ?_
   refine al ?_
   refine aC ?_ (an G U (zm 0 G))
   exact nu (cmp_e0 hb0 hb1)
  ·refine qh<|zt<|zg [η,η] [] [.v 4 _] [.o 0] U (zv G (ac ab) o0) (zz [(4,_)] [O 2 26 _,O 3 26 _] λ a w U=>?_)
   refine aa<|qg<|al ?_
   refine aC ?_ (an G U (zm 0 G))
   exact nu (cmp_e1 hb0 hb1)
 ·refine qh<|zt<|zg [η,η] [] [.adr 18 2 (.some 1) True,.v 19 _,.adr 20 3 (.some 1) True,.v 21 _,.v 22 _,.v 7 _] [.g 0,.o 5] U (zO 0 G ay (zL 0 0 1 G aX (zO 1 G ay (zL 2 1 1 G aX (zQ G (rm _ _) (.p (vq 1 G) (vq 3 G)) (zA 4 G o0)))))) (zz [(4,_),(7,_)] [O 2 26 _,O 3 26 _] λ a w U=>?_)
  refine zt<|qb<|zg [η,η] [] [.adr 23 2 (.some 0) True,.v 24 _] [.g 0,.g 1,.o 1] U (zO 0 G aV (zL 0 0 0 G ty_4 o0)) (zz [(4,_),(7,_),(24,_)] [O 2 26 _,O 3 26 _] λ a w U=>?_)
  refine aa<|bE (λ a w =>  St B w0 30 [(7,In (if x.neg then -(sizeL x.mag y.mag) else sizeL x.mag y.mag))] [⟨2,26,ptrH,RIA x⟩,⟨3,26,ptrH,RIA y⟩] a w) U (zm 2 G) (λ hb2=>?_) (λ hb2=>?_) (λ a w U=>?_)
  ·refine zg [η,η] [] [.v 25 _,.v 26 _,.v 7 _] [.g 0,.o 2] U (zM 1 G (zv G (F9 (vq 0 G) ((wi64 zo zo).trans (j3 _))) (zA 1 G o0))) (zz [(4,_),(7,_)] [O 2 26 _,O 3 26 _] λ a w U=>?_)
   refine aa ?_
   have U:=St.sel U [1]
   rw [qz hb2]; exact U
  ·refine qh<|aa ?_
   have U:=St.sel U [1]
   rw [qw (by rw [hb2]; decide)]; exact U
  refine zt<|zg [η,η] [] [.v 27 _,.v 28 _,.v 29 _,.v 4 _] [.o 3] U (zM 0 G (zv G (Fa ab (vq 0 G)) (zv G (r_max ab (vq 1 G)) (zA 2 G o0)))) (zz [(4,_)] [O 2 26 _,O 3 26 _] λ a w U=>?_)
  refine aa<|qg<|aC ?_ (an G U (zm 0 G))
  exact nu (cmp_e2 hb0)
theorem pV (x:RI):Cn Tryz.prog 176 [(RIA x).va] (In (if okRI x then 0 else 1)):=by
 refine Cn.intro Tryz.func176 G zk nq (λ B w0 a U=>?_)
 have U:=zn [(0,(RIA x).va)] [] U
 have hk:=(gy (U.vals _ (zm 0 rfl))).2
 refine qb<|zg [] [⟨1,26,ptrH,some 0,_,none⟩] [.alc 0,.v 2 _] [.o 1] U (zW 0 G (zv G (ac ab) o0)) (zz [(2,_)] [O 1 26 _] λ a w U=>?_)
 refine zt<|qb<|gl (sts:=[none]) (news:=[]) (sp:=((.adr 3 1 (.some 1) True:Sp)::(.v 4 _)::(.v 5 _)::(.v 6 _)::(.v 7 _)::(.adr 8 1 (.some 1) (_=false))::(.f 9 _)::(.f 10 _)::(.f 11 _)::(.f 12 _)::(.adr 13 1 (.some 1) ((_=false)∧_=true))::(.v 14 (Wh ((_=false)∧_=true) _))::(.adr 15 1 (.some 1) ((_=false)∧_=true))::(.v 16 (Wh ((_=false)∧_=true) _))::(.v 17 (Wh ((_=false)∧_=true) _))::(.v 18 (Wh ((_=false)∧_=true) _))::(.v 19 (Wh ((_=false)∧_=true) _))::(.v 20 (Wh ((_=false)∧_=true) _))::(.v 21 (Wh ((_=false)∧_=true) _))::(.f 22 _)::(.v 23 _)::(.v 24 _)::(.adr 25 1 (.some 1) (_=false))::(.f 26 _)::(.f 27 _)::(.f 28 _)::(.f 29 _)::(.adr 30 1 (.some 0) ((_=false)∧_=true))::(.v 31 (Wh ((_=false)∧_=true) _))::(.f 32 _)::(.v 33 _)::[])) [.g 0,.o 30] U (zO 0 G ay (zL 0 0 1 G aX (zv G (aI Tryz.underlying24 (vq 1 G)) (zv G (ci (vq 2 G) ab) (zv G (ai (vq 3 G)) (zC 4 0 G ay (zB 4 G (λ hg=>aF 5 G zk hg (lz0 0 G) (Sub.part 1 G G) aX) (zB 4 G (λ hg=>aI Tryz.underlying24 (ak (vq 6 G) hg)) (zB 4 G (λ hg=>ci (ak (vq 7 G) hg) ab) (zB 4 G (λ hg=>ai (ak (vq 8 G) hg)) (oc (gS G G G (vq 9 G) nq (λ hg=>gk (lz0 0 G) ay)) (oc (bT G G G (vq 9 G) nq (λ hg=>aF 10 G zk hg (lz0 0 G) (Sub.part 1 G G) aX)) (oc (gS G G G (vq 9 G) nq (λ hg=>gk (lz0 0 G) ay)) (oc (bT G G G (vq 9 G) nq (λ hg=>aF 12 G zk hg (lz0 0 G) (Sub.part 1 G G) aX)) (oc (bT G G G (vq 9 G) nq (λ hg=>aI Tryz.underlying24 (ak (vq 13 G) hg))) (oc (bT G G G (vq 9 G) nq (λ hg=>c6 (ak (vq 14 G) hg) ab (Ec (by have h:=hg.2; simp at h; omega) hk))) (oc (bT G G G (vq 9 G) nq (λ hg=>mr b9 (ak (vq 11 G) hg) (ak (vq 15 G) hg) (by have h:=hg.2; simp at h; omega))) (oc (bT G G G (vq 9 G) nq (λ hg=>au (ak (vq 16 G) hg) aO)) (oc (bT G G G (vq 9 G) nq (λ hg=>bC (ak (vq 17 G) hg) (aG 0 G))) (zB 4 G (λ hg=>bA (ak (vq 9 G) hg) (fu (vq 18 G) hg)) (zv G (r_or (vq 4 G) (vq 19 G)) (zv G (ai (vq 20 G)) (zC 21 0 G ay (zB 21 G (λ hg=>aF 22 G zk hg (lz0 0 G) (Sub.part 1 G G) aX) (zB 21 G (λ hg=>aI Tryz.underlying24 (ak (vq 23 G) hg)) (zB 21 G (λ hg=>bC (ak (vq 24 G) hg) ab) (zB 21 G (λ hg=>ai (ak (vq 25 G) hg)) (oc (gS G G G (vq 26 G) nq (λ hg=>gk (lz0 0 G) aV)) (oc (bT G G G (vq 26 G) nq (λ hg=>aF 27 G zk hg (lz0 0 G) (Sub.part 0 G G) ty_4)) (zB 21 G (λ hg=>bA (ak (vq 26 G) hg) (fu (vq 28 G) hg)) (zv G (r_or (vq 21 G) (vq 29 G)) o0))))))))))))))))))))))))))))))) (zz [(2,_),(33,_)] [O 1 26 _] λ a w U=>?_)
 refine aa<|aj U (zm 1 G) (λ hb0=>?_) (λ hb0=>?_)
 ·refine qb<|zg [η] [] [.v 2 _] [.o 0] U (zv G (ac ab) o0) (zz [(2,_)] [O 1 26 _] λ a w U=>?_)
  refine aa<|qg<|al ?_
  refine aC ?_ (an G U (zm 0 G))
  exact nu (sC hb0)
 ·refine qh<|zt<|zg [η] [] [.v 2 _] [.o 0] U (zv G (ac ab) o0) (zz [(2,_)] [O 1 26 _] λ a w U=>?_)
  refine aa<|qg<|aC ?_ (an G U (zm 0 G))
  exact nu (sB hb0)
theorem of_e0 {n:Int}(h0 : -9223372036854775808≤n)(h:decide (n<0)=true):IntKind.u64.wrap (0-IntKind.u64.wrap n)=(n.natAbs:Nat):=by
 simp at h; simp [IntKind.wrap,IntKind.bits,IntKind.signed]; omega
theorem of_e1 {n:Int}(h1:n<9223372036854775808)(h:decide (n<0)=false):IntKind.u64.wrap n=(n.natAbs:Nat):=by
 simp at h; simp [IntKind.wrap,IntKind.bits,IntKind.signed]; omega
theorem FC {n:Int}(h0 : -9223372036854775808≤n)(h1:n<9223372036854775808):okL [n.natAbs%4294967296,n.natAbs/4294967296]:=by
 intro x hx
 simp at hx
 rcases hx with rfl | rfl <;> omega
theorem of_e2 {n:Int}(h0 : -9223372036854775808≤n)(h1:n<9223372036854775808):(RIA (rsig (decide (n<0)) [n.natAbs%4294967296,n.natAbs/4294967296])).va=Zi n:=by
 rw [bV (FC h0 h1) (z:=n) (by simp [val]; omega) (λ _=>rfl)]
theorem of_c (n:Int)(h0 : -9223372036854775808≤n)(h1:n<9223372036854775808):Cn Tryz.prog 117 [In n] (Zi n):=by
 refine Cn.intro Tryz.func117 G zk nq (λ B w0 a U=>?_)
 have U:=zn [(0,In n)] [] U
 refine qb<|zg [] [⟨2,26,ptrH,some 0,_,none⟩] [.alc 0] [.g 0] U (zY G (Str.zero bn) o0) (zz [(0,_)] [O 2 26 _] λ a w U=>?_)
 refine zt<|zg [η] [] [.v 4 _,.v 5 _,.v 3 _] [.g 0,.o 2] U (zM 0 G (zv G (aK .u64 zk zk (vq 0 G) (G)) (zA 1 G o0))) (zz [(0,_),(3,_)] [O 2 26 _] λ a w U=>?_)
 refine zt<|qb<|zg [η] [] [.v 6 _,.v 7 _] [.g 0,.g 1,.o 1] U (zM 0 G (zv G (aS (vq 0 G) ab) o0)) (zz [(0,_),(3,_),(7,_)] [O 2 26 _] λ a w U=>?_)
 refine aa<|bE (λ a w =>  St B w0 19 [(0,In n),(3,(NumA .u64 (n.natAbs:Nat)).va)] [⟨2,26,ptrH,cat [BoA false,MgA []]⟩] a w) U (zm 2 G) (λ hb0=>?_) (λ hb0=>?_) (λ a w U=>?_)
 ·refine zg [η] [] [.v 8 _,.v 9 _,.v 3 _] [.g 0,.o 2] U (zM 1 G (zv G (F9 (vq 0 G) (G)) (zA 1 G o0))) (zz [(0,_),(3,_)] [O 2 26 _] λ a w U=>?_)
  refine aa ?_
  have U:=St.sel U [0,1]
  rw [of_e0 h0 hb0] at U; exact U
 ·refine qh<|aa ?_
  have U:=St.sel U [0,1]
  rw [of_e1 h1 hb0] at U; exact U
 refine zt<|zg [some (9,_)] [] [.v 10 _,.v 11 _,.v 12 _,.v 13 _,.v 14 _,.v 15 _,.v 16 _,.v 17 _,.v 18 _,.sto 0] [] U (zM 0 G (zv G (aS (vq 0 G) ab) (zM 1 G (zv G (aK .u32 zk zk (vq 2 G) (wu32')) (zM 1 G (zv G (i7 (vq 4 G) (aG 32 G) zd (nshr)) (zv G (aK .u32 zk zk (vq 5 G) (wu32 (by show n.natAbs/4294967296<_; omega))) (zv G (cX (l:=[_,_]) (xs:=[.tmp 13,.tmp 16]) b9 zk nq nq (FC h0 h1) (.p (vq 3 G) (vq 6 G)) G G) (zQ G (fJ _ _) (.p (vq 1 G) (vq 7 G)) (zS 8 G ar o0)))))))))) (zz [] [O 2 26 _] λ a w U=>?_)
 refine aa<|qg<|aC ?_ (aA G U (zm 0 G) ar)
 exact of_e2 h0 h1
theorem c8 {m n:Nat}(h:m≤n):(limbs m).length≤(limbs n).length:=dC (qT h (bZ (qi _)))
theorem dp {m n:Nat}:(0≤sizeL (limbs m) (limbs n)↔n≤m)∧(0<sizeL (limbs m) (limbs n)↔n<m):=by
 unfold sizeL
 rw [aH,aH]
 by_cases h:(limbs m).length=(limbs n).length
 ·rw [qw zo]
  split
  ·omega
  ·split <;> omega
 ·rw [qz zo]
  by_cases h2:m≤n
  ·have:=c8 h2
   have:m≠n:=λ e=>h (by rw [e])
   omega
  ·have:=c8 (zU (xO h2))
   omega
theorem tW {a b:Nat}:val (digs (max (limbs a).length (limbs b).length+1) (a+b))=a+b:=by
 rw [dh,zi]
 have h1:=bZ (n:=a) (k:=max (limbs a).length (limbs b).length) (xV _ _)
 have h2:=bZ (n:=b) (k:=max (limbs a).length (limbs b).length) (xP _ _)
 rw [qV]
 omega
theorem Fp {a b:Int}(h:((riOf a).neg==(riOf b).neg)=true):(RIA (rsig (riOf a).neg (digs (max (riOf a).mag.length (riOf b).mag.length+1) (val (riOf a).mag+val (riOf b).mag)))).va=Zi (a+b):=by
 have h':decide (a<0)=decide (b<0):=by simpa [riOf] using h
 rw [bv,bv,bV (bI _ _) (z:=a+b) (by show val (digs (max (limbs a.natAbs).length (limbs b.natAbs).length+1) _)=_; rw [tW]; simp only [qS] at h'; omega) (λ hz=>by show decide (a<0)=_; simp only [qS] at h' ⊢; omega)]
theorem vQ {a b:Int}(h:((riOf a).neg==(riOf b).neg)=false)(h2:b.natAbs≤a.natAbs):(RIA (rsig (riOf a).neg (limbs (val (riOf a).mag-val (riOf b).mag)))).va=Zi (a+b):=by
 have h':¬ decide (a<0)=decide (b<0):=by simpa [riOf] using h
 rw [bv,bv,bV (bi _).1 (z:=a+b) (by rw [aH]; simp only [qS] at h'; omega) (λ hz=>by show decide (a<0)=_; simp only [qS] at h' ⊢; omega)]
theorem vP {a b:Int}(h:((riOf a).neg==(riOf b).neg)=false)(h2:a.natAbs≤b.natAbs):(RIA (rsig (riOf b).neg (limbs (val (riOf b).mag-val (riOf a).mag)))).va=Zi (a+b):=by
 have h':¬ decide (a<0)=decide (b<0):=by simpa [riOf] using h
 rw [bv,bv,bV (bi _).1 (z:=a+b) (by rw [aH]; simp only [qS] at h'; omega) (λ hz=>by show decide (b<0)=_; simp only [qS] at h' ⊢; omega)]
theorem gH {a b:Int}(h:decide (sizeL (riOf a).mag (riOf b).mag≥0)=true):b.natAbs≤a.natAbs:=(dp (m:=a.natAbs) (n:=b.natAbs)).1.1 (by simpa [riOf] using h)
theorem gG {a b:Int}(h:decide (sizeL (riOf a).mag (riOf b).mag≥0)=false):a.natAbs≤b.natAbs:=by
 have:=(dp (m:=a.natAbs) (n:=b.natAbs)).1
 have h':¬ 0≤sizeL (limbs a.natAbs) (limbs b.natAbs):=by simpa [riOf] using h
 omega
theorem FU {b:Int}:(cat (setAll [BoA false,MgA []] [(0,BoA (!(riOf b).neg&&decide (((riOf b).mag.length:Int)>0))),(1,MgA (riOf b).mag)])).va=Zi (-b):=by
 have e:(!(riOf b).neg&&decide (((riOf b).mag.length:Int)>0))=(riOf (-b)).neg:=by
  by_cases h:b=0
  ·subst h; simp [riOf,bt]
  ·have:0<(limbs b.natAbs).length:=by rw [cK zo]; simp
   simp [riOf,this]
   by_cases h2:b<0 <;> simp [h2] <;> omega
 rw [e]
 have e2:(riOf b).mag=(riOf (-b)).mag:=by simp [riOf]
 rw [e2]
 rfl
theorem gV (b:Int):lz (-b)=lz b:=by simp [lz]
theorem Di (p q:Int)(hp:lz p≤1099511627776)(hq:lz q≤1099511627776):Cn Tryz.prog 118 [Zi p,Zi q] (Zi (p+q)):=by
 refine Cn.intro Tryz.func118 G zk nq (λ B w0 a U=>?_)
 have U:=zn [(0,Zi p),(1,Zi q)] [] U
 refine qb<|zg [] [⟨2,26,ptrH,some 0,_,none⟩,⟨3,26,ptrH,some 1,_,none⟩,⟨4,26,ptrH,some 2,_,none⟩] [.alc 0,.alc 1,.alc 2] [] U (zW 0 G (zW 1 G (zY G (Str.zero bn) o0))) (zz [] [O 2 26 _,O 3 26 _,O 4 26 _] λ a w U=>?_)
 refine zt<|qb<|zg [η,η,η] [] [.adr 5 2 (.some 0) True,.v 6 _,.adr 7 3 (.some 0) True,.v 8 _,.v 9 _] [.o 4] U (zO 0 G aV (zL 0 0 0 G ty_4 (zO 1 G aV (zL 2 1 0 G ty_4 (zv G (uW zk (vq 1 G) (vq 3 G)) o0))))) (zz [(9,_)] [O 2 26 _,O 3 26 _,O 4 26 _] λ a w U=>?_)
 refine aa<|aj U (zm 0 G) (λ hb0=>?_) (λ hb0=>?_)
 ·refine qb<|zgd [[],[0],[],[2],[],[4],[2,3,4,5],[0,1,2,3,4,5,6],[0,1,2,3,4,5,6,7]] [none,none,some (8,_)] [] [.adr 10 2 (.some 0) True,.v 11 _,.adr 12 2 (.some 1) True,.v 13 _,.adr 14 3 (.some 1) True,.v 15 _,.v 16 _,.v 17 _,.sto 2] [] ae U (zO 0 G aV (zL 0 0 0 G ty_4 (zO 0 G ay (zL 2 0 1 G aX (zO 1 G ay (zL 4 1 1 G aX (zQ G ((add_c _ _ hp hq).free (fV _).va) (.p (vq 3 G) (vq 5 G)) (zQ G (fJ _ _) (.p (vq 1 G) (vq 6 G)) (zS 7 G ar o0))))))))) zk zk zk zk (zz [] [O 2 26 _,O 3 26 _,O 4 26 _] λ a w U=>?_)
  refine aa<|qg<|al ?_
  refine aC ?_ (aA G U (zm 2 G) ar)
  exact Fp hb0
 ·refine qh<|zt<|qb<|zg [η,η,η] [] [.adr 18 2 (.some 1) True,.v 19 _,.adr 20 3 (.some 1) True,.v 21 _,.v 22 _,.v 23 _] [.o 5] U (zO 0 G ay (zL 0 0 1 G aX (zO 1 G ay (zL 2 1 1 G aX (zQ G (rm _ _) (.p (vq 1 G) (vq 3 G)) (zv G (d9 (vq 4 G) ab) o0)))))) (zz [(23,_)] [O 2 26 _,O 3 26 _,O 4 26 _] λ a w U=>?_)
  refine aa<|aj U (zm 0 G) (λ hb1=>?_) (λ hb1=>?_)
  ·refine qb<|zgd [[],[0],[],[2],[],[4],[2,3,4,5],[0,1,2,3,4,5,6],[0,1,2,3,4,5,6,7]] [none,none,some (8,_)] [] [.adr 24 2 (.some 0) True,.v 25 _,.adr 26 2 (.some 1) True,.v 27 _,.adr 28 3 (.some 1) True,.v 29 _,.v 30 _,.v 31 _,.sto 2] [] ae U (zO 0 G aV (zL 0 0 0 G ty_4 (zO 0 G ay (zL 2 0 1 G aX (zO 1 G ay (zL 4 1 1 G aX (zQ G ((Am _ _ hp (c8 (gH hb1)) (by show val (limbs _)≤val (limbs _); rw [aH,aH]; exact gH hb1)).free (fV _).va) (.p (vq 3 G) (vq 5 G)) (zQ G (fJ _ _) (.p (vq 1 G) (vq 6 G)) (zS 7 G ar o0))))))))) zk zk zk zk (zz [] [O 2 26 _,O 3 26 _,O 4 26 _] λ a w U=>?_)
   refine aa<|qg<|al ?_
   refine aC ?_ (aA G U (zm 2 G) ar)
   exact vQ hb0 (gH hb1)
  ·refine qh<|zt<|zgd [[],[0],[],[2],[],[4],[2,3,4,5],[0,1,2,3,4,5,6],[0,1,2,3,4,5,6,7]] [none,none,some (8,_)] [] [.adr 32 3 (.some 0) True,.v 33 _,.adr 34 3 (.some 1) True,.v 35 _,.adr 36 2 (.some 1) True,.v 37 _,.v 38 _,.v 39 _,.sto 2] [] ae U (zO 1 G aV (zL 0 1 0 G ty_4 (zO 1 G ay (zL 2 1 1 G aX (zO 0 G ay (zL 4 0 1 G aX (zQ G ((Am _ _ hq (c8 (gG hb1)) (by show val (limbs _)≤val (limbs _); rw [aH,aH]; exact gG hb1)).free (fV _).va) (.p (vq 3 G) (vq 5 G)) (zQ G (fJ _ _) (.p (vq 1 G) (vq 6 G)) (zS 7 G ar o0))))))))) zk zk zk zk (zz [] [O 2 26 _,O 3 26 _,O 4 26 _] λ a w U=>?_)
   refine aa<|qg<|aC ?_ (aA G U (zm 2 G) ar)
   exact vP hb0 (gG hb1)
theorem wu (p q:Int)(hp:lz p≤1099511627776)(hq:lz q≤1099511627776):Cn Tryz.prog 183 [Zi p,Zi q] (Zi (p-q)):=by
 refine Cn.intro Tryz.func183 G zk nq (λ B w0 a U=>?_)
 have U:=zn [(0,Zi p),(1,Zi q)] [] U
 refine qb<|zg [] [⟨2,26,ptrH,some 0,_,none⟩,⟨3,26,ptrH,some 1,_,none⟩,⟨4,26,ptrH,some 2,_,none⟩] [.alc 0,.alc 1,.alc 2] [] U (zW 0 G (zW 1 G (zY G (Str.zero bn) o0))) (zz [] [O 2 26 _,O 3 26 _,O 4 26 _] λ a w U=>?_)
 refine zt<|zg [η,η,some (14,_)] [] [.v 5 _,.adr 6 3 (.some 0) True,.v 7 _,.v 8 _,.v 9 _,.adr 10 3 (.some 1) (_=true),.t 11 _,.t 12 _,.t 13 _,.v 14 _,.adr 15 3 (.some 1) True,.v 16 _,.v 17 _,.v 18 _,.sto 2] [] U (zl 0 G ar (zO 1 G aV (zL 1 1 0 G ty_4 (zv G (dY (vq 2 G)) (zv G (ai (vq 3 G)) (zC 4 1 G ay (zB 4 G (λ hg=>aF 5 G zk hg (lz0 1 G) (Sub.part 1 G G) aX) (zB 4 G (λ hg=>aI Tryz.underlying24 (ak (vq 6 G) hg)) (zB 4 G (λ hg=>ci (ak (vq 7 G) hg) ab) (zv G (bA (vq 4 G) (vq 8 G)) (zO 1 G ay (zL 10 1 1 G aX (zv G (aU (qs:=[(0,_),(1,_)]) bn (.cons ⟨rfl,vq 9 rfl,rfl⟩ (.cons ⟨rfl,vq 11 rfl,rfl⟩ .nil))) (zQ G ((Di p (-q) hp (by rw [gV]; exact hq)).pre (qm (λ A=>[Zi p,A]) FU)) (.p (vq 0 G) (vq 12 G)) (zS 13 G ar o0))))))))))))))) (zz [] [O 2 26 _,O 3 26 _,O 4 26 _] λ a w U=>?_)
 refine aa<|qg<|aC ?_ (aA G U (zm 2 G) ar)
 exact qm Zi Int.sub_eq_add_neg.symm
theorem u9 (p:Int)(hp:lz p≤1099511627776):Cn Tryz.prog 182 [Zi p] (Zi (-p)):=by
 refine Cn.intro Tryz.func182 G zk nq (λ B w0 a U=>?_)
 have U:=zn [(0,Zi p)] [] U
 refine qb<|zg [] [⟨1,26,ptrH,some 0,_,none⟩,⟨2,26,ptrH,some 1,_,none⟩] [.alc 0,.alc 1] [] U (zW 0 G (zY G (Str.zero bn) o0)) (zz [] [O 1 26 _,O 2 26 _] λ a w U=>?_)
 refine zt<|zgd [[],[],[0,1],[0,1,2]] [none,some (3,_)] [] [.v 3 _,.v 4 _,.v 5 _,.sto 1] [] ae U (zQ G (of_c 0 zd zd) (.cons ab .nil) (zl 0 G ar (zQ G (wu 0 p (by simp [lz,bt]) hp) (.p (vq 0 G) (vq 1 G)) (zS 2 G ar o0)))) zk zk zk zk (zz [] [O 1 26 _,O 2 26 _] λ a w U=>?_)
 refine aa<|qg<|aC ?_ (aA G U (zm 1 G) ar)
 exact qm Zi (j3 p)
def shSt (l ext:List Nat)(d i:Nat):List Nat:=l.take i++digs (l.length-i) (val (l.drop i)/d)++ext
theorem AB (l ext:List Nat)(d:Nat):shSt l ext d l.length=l++ext:=by simp [shSt,digs]
theorem AD (l ext:List Nat)(d:Nat):shSt l ext d 0=digs l.length (val l/d)++ext:=by simp [shSt]
theorem AC {l ext:List Nat}{d i:Nat}(h:i≤l.length):(shSt l ext d i).length=l.length+ext.length:=by simp [shSt,az]; omega
theorem rp {l ext:List Nat}{d i:Nat}(h:i<l.length)(h2:i<(shSt l ext d (i+1)).length):(shSt l ext d (i+1))[i]=l[i]:=by
 simp only [shSt,za]
 rw [List.getElem_append_left (by simp; omega),vg]
theorem I2 (V x d:Nat):x+4294967296*V=d*(4294967296*(V/d))+(V%d*4294967296+x):=by
 have h:=xw V d
 have e:4294967296*V=4294967296*(d*(V/d)+V%d):=by rw [h]
 rw [zT,← qU,qP 4294967296 d,qU] at e
 omega
theorem I3 {V x d:Nat}(hd:0<d):(x+4294967296*V)/d=4294967296*(V/d)+(V%d*4294967296+x)/d:=by rw [I2,vx hd]
theorem I1 {V x d:Nat}:(x+4294967296*V)%d=(V%d*4294967296+x)%d:=by rw [I2,vw]
theorem sj {l:List Nat}{i:Nat}(h:i<l.length):val (l.drop i)=l[i]+4294967296*val (l.drop (i+1)):=by rw [qG h]; rfl
theorem oz (n q V:Nat)(hq:q<4294967296):digs (n+1) (4294967296*V+q)=q::digs n V:=by
 show (4294967296*V+q)%4294967296::digs n ((4294967296*V+q)/4294967296)=_
 rw [show (4294967296*V+q)%4294967296=q from by omega,show (4294967296*V+q)/4294967296=V from by omega]
theorem ut {l ext:List Nat}{d i:Nat}(h:i<l.length)(hl:okL l)(hd:0<d):(shSt l ext d (i+1)).set i ((val (l.drop (i+1))%d*4294967296+l[i])/d)=shSt l ext d i:=by
 have hq:=pN (h:=val (l.drop (i+1))%d) (l:=l[i]) (d:=d) (qM _ hd) (hl _ (qf h))
 unfold shSt
 rw [sj h,I3 hd,show l.length-i=(l.length-(i+1))+1 from by omega,oz _ _ _ hq,qu h,za,za,za,dW _ _ _ _ (by simp; omega)]
 simp
theorem EP (l ext:List Nat)(c d:Nat)(hl:okL l)(hls:l.length≤1099511627776)(hd0:0<d)(hd:d<4294967296):Cm Tryz.prog 241 134 (Nums .u32 (l++ext)) (Nums .u32 (digs l.length (val l/d)++ext)) [.w (slH l.length c),.v ((NumA .u32 (d:Nat)).va)] ((NumA .u32 (val l%d:Nat)).va):=by
 refine Cm.intro Tryz.func241 G zk nq (λ B g w0 a U=>?_)
 have U:=zn [(0,EqV ((slH l.length c).f g)),(1,(NumA .u32 (d:Nat)).va)] [⟨0,134,slH l.length c,Nums .u32 (l++ext)⟩] U
 refine qb<|zg [η] [] [.v 4 _] [.g 0,.g 1,.o 0] U (zv G (ac (aG 0 G)) o0) (zz [(0,_),(1,_),(4,_)] [⟨0,134,slH _ _,_⟩] λ a w U=>?_)
 refine zt<|zg [η] [] [.v 5 _] [.g 0,.g 1,.g 2,.o 0] U (zv G (ac (aG 0 G)) o0) (zz [(0,_),(1,_),(4,_),(5,_)] [⟨0,134,slH _ _,_⟩] λ a w U=>?_)
 refine zt<|qb<|zg [η] [] [.adr 7 0 .none True,.v 8 _,.v 9 _,.v 6 _] [.g 0,.g 1,.g 2,.g 3,.o 3] U (oc (ob_a G G cb) (zv G (Da 0 G zk (lz0 0 G) Tryz.underlying24) (zv G (c6 (vq 1 G) ab (wi64 zo zo)) (zA 2 G o0)))) (zz [(0,_),(1,_),(4,_),(5,_),(6,_)] [⟨0,134,slH _ _,_⟩] λ a w U=>?_)
 refine aa<|qj ?_
 have U:=St.sel U [0,1,3,4]
 refine wp_loop_ghost (λ n a w=>n≤l.length∧St B w0 28 [(0,EqV ((slH l.length c).f g)),(1,(NumA .u32 (d:Nat)).va),(5,(NumA .u32 (val (l.drop n)%d:Nat)).va),(6,In ((n:Int)-1))] [⟨0,134,slH l.length c,Nums .u32 (shSt l ext d n)⟩] a w) (l.length) ?_ ?_
 ·exact ⟨qi _,by rw [AB,xg,show val []%d=0 from by simp [val]]; exact U⟩
 intro n a w hI
 obtain ⟨hn,U⟩:=hI; have hlen:=AC (ext:=ext) (d:=d) hn
 refine qb<|qb<|zg [η] [] [.v 10 _,.v 11 _] [.g 0,.g 1,.g 2,.g 3,.o 1] U (zM 3 G (zv G (d9 (vq 0 G) ab) o0)) (zz [(0,_),(1,_),(5,_),(6,_),(11,_)] [⟨0,134,slH _ _,_⟩] λ a w U=>?_)
 refine aa<|aj U (zm 4 G) (λ hb0=>?_) (λ hb0=>?_)
 ·obtain ⟨j,rfl⟩:∃ j,n=j+1:=⟨n-1,by simp at hb0; omega⟩; rw [show ((j+1:Nat):Int)-1=(j:Int) from by omega] at U
  refine qh<|zt<|qj<|zg [some (13,_)] [] [.adr 15 0 .none True,.v 16 _,.v 17 _,.adr 18 0 .none True,.v 19 _,.adr 20 0 (.some _) True,.v 21 _,.v 22 _,.v 23 _,.v 14 _,.v 24 _,.v 25 _,.adr 26 0 (.some _) True,.sto 0,.v 5 _] [.g 0,.g 1,.g 3,.o 14] U (oc (ob_a G G cb) (zM 3 G (zM 2 G (oc (ob_a G G cb) (zM 3 G (oc (ob_a G G (dm 3 G zk (lz0 0 G) b9 (vq 4 G) zo)) (zv G (iQ 5 G zk (lz0 0 G) (λ _=>bK _ _ _ _) (gI zo) aO) (zM 1 G (zQ G (GS (qM _ hd0) (by rw [rp zo zo]; exact hl _ (qf _)) hd) (.cons (vq 2 G) (.p (vq 6 G) (vq 7 G))) (zv G (ai (vq 8 G)) (zv G (aQ (vq 9 G) G) (zv G (aQ (vq 9 G) G) (oc (ob_a G G (dm 0 G zk (lz0 0 G) b9 (vq 1 G) zo)) (oc (c7 12 G G G G zk (λ _=>bK _ _ _ _) (vq 10 G) aO (br zo)) (zA 11 G o0))))))))))))))) (zz [(0,_),(1,_),(6,_),(5,_)] [⟨0,134,slH _ _,_⟩] λ a w U=>?_)
  refine ap ?_
  refine aa<|zg [η] [] [.v 12 _,.v 13 _,.v 6 _] [.g 0,.g 1,.g 3,.o 2] U (zM 2 G (zv G (c6 (vq 0 G) ab (wi64 zo zo)) (zA 1 G o0))) (zz [(0,_),(1,_),(5,_),(6,_)] [⟨0,134,slH _ _,_⟩] λ a w U=>?_)
  refine aa ?_
  have U:=St.sel U [0,1,2,3]
  rw [rp zo zo,ut zo hl hd0,← I1,← sj zo] at U; exact ⟨j,by omega,by omega,U⟩
 ·obtain rfl:n=0:=(by simp at hb0; omega); rw [AD] at U
  refine qK<|am<|am<|aB<|zt<|zg [η] [] [.v 27 _,.v 4 _] [.g 0,.o 1] U (zM 2 G (zA 0 G o0)) (zz [(0,_),(4,_)] [⟨0,134,slH _ _,_⟩] λ a w U=>?_)
  refine aa<|qg<|iN U (zm 0 G) (zm 0 G) ?_
  exact an G U (zm 1 G)
end Go.Proofs.YtedfcalhhldijaaGreatDoor
