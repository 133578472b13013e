import Derived.Test.YtmacliockgbdcaaGreatDoorBfAa
import Derived.Test.YtmacliockgbdcaaGreatDoorBfAc
import Derived.Test.YtmacliockgbdcaaGreatDoorBfAd
set_option linter.unusedVariables false
set_option linter.unusedSimpArgs false
set_option linter.unusedSectionVars false
set_option maxRecDepth 100000
namespace Go.Proofs.YtmacliockgbdcaaGreatDoor
open Go Go.RowKit
theorem tu2 {a b c d:VA}(h:a=c)(h':b=d):Tu [a,b]=Tu [c,d]:=by rw [h,h']
theorem nu {k:IntKind}{m n:Int}(h:m=n):(NumA k m).va=(NumA k n).va:=by rw [h]
theorem qg {x y c:Nat}(hx:x<4294967296)(hy:y<4294967296)(hc:c<4294967296):IntKind.u64.wrap (IntKind.u64.wrap (IntKind.u64.wrap (x:Int)+IntKind.u64.wrap (y:Int))+IntKind.u64.wrap (c:Int))=((x+y+c:Nat):Int):=by
 rw [wu64 zo,wu64 zo,wadd64 zo,wu64 zo,wadd64 zo]
theorem uL {h l d:Nat}(hh:h<d)(hl:l<4294967296)(hd:d<4294967296):bits .or .u64 (IntKind.u64.wrap (IntKind.u64.wrap (h:Int)*2^((32:Int).toNat))) (IntKind.u64.wrap (l:Int))=((h*4294967296+l:Nat):Int):=by
 rw [wu64 (x:=h) zo,wu64 (x:=l) zo,wshl32 zo,or64 zo hl]
theorem om {h l d:Nat}(hh:h<d)(hl:l<4294967296):(h*4294967296+l)/d<4294967296:=by
 apply Nat.div_lt_of_lt_mul
 have:(h+1)*4294967296≤d*4294967296:=Nat.mul_le_mul_right _ hh
 omega
theorem jx {x y c:Nat}(hx:x<4294967296)(hy:y<4294967296)(hc:c<4294967296):Cn Tryz.prog 219 [(NumA .u32 (x:Nat)).va,(NumA .u32 (y:Nat)).va,(NumA .u32 (c:Nat)).va] (Tu [(NumA .u32 ((x+y+c)%4294967296:Nat)).va,(NumA .u32 ((x+y+c)/4294967296:Nat)).va]):=by
 refine Cn.intro Tryz.func219 G zk nq (fun B w0 a U=>?_)
 have U:=zn [(0,(NumA .u32 (x:Nat)).va),(1,(NumA .u32 (y:Nat)).va),(2,(NumA .u32 (c:Nat)).va)] [] U
 refine wp_seq<|zh [.v 6 _,.v 7 _] [.g 0,.g 1,.g 2,.o 0,.o 1] U (zv G (a9 a8) (zv G (a9 a8) o0)) (zz [(0,_),(1,_),(2,_),(6,_),(7,_)] [] fun a w U=>?_)
 refine zt<|zh [.v 9 _,.v 10 _,.v 11 _,.v 12 _,.v 13 _,.v 14 _,.v 15 _,.v 16 _,.v 8 _] [.g 3,.g 4,.o 8] U (zM 0 G (zv G (aE .u64 zk zk (vq 0 G) (G)) (zM 1 G (zv G (aE .u64 zk zk (vq 2 G) (G)) (zv G (aR (vq 1 G) (vq 3 G) (G)) (zM 2 G (zv G (aE .u64 zk zk (vq 5 G) (G)) (zv G (aR (vq 4 G) (vq 6 G) (G)) (zA 7 G o0))))))))) (zz [(6,_),(7,_),(8,_)] [] fun a w U=>?_)
 refine zt<|zh [.v 17 _,.v 18 _,.v 6 _] [.g 1,.g 2,.o 2] U (zM 2 G (zv G (aE .u32 zk zk (vq 0 G) (G)) (zA 1 G o0))) (zz [(7,_),(8,_),(6,_)] [] fun a w U=>?_)
 refine zt<|zh [.v 19 _,.v 20 _,.v 21 _,.v 7 _] [.g 2,.o 3] U (zM 1 G (zv G (gH (vq 0 G) a8 zd (G)) (zv G (aE .u32 zk zk (vq 1 G) (G)) (zA 2 G o0)))) (zz [(6,_),(7,_)] [] fun a w U=>?_)
 refine a7<|wp_ret<|aB ?_ (aS (rs:=[.tmp 6,.tmp 7]) G U (.tmp (zm 0 G) (.tmp (zm 1 G) .nil)) zd)
 exact tu2 (nu (by rw [qg hx hy hc,wu32'])) (nu (by rw [qg hx hy hc]; exact (congrArg _ nshr).trans (wu32 (by show (x+y+c)/4294967296<_; omega))))
theorem rN {x y c:Nat}(hx:x<4294967296)(hy:y<4294967296)(hc:c<2):Cn Tryz.prog 220 [(NumA .u32 (x:Nat)).va,(NumA .u32 (y:Nat)).va,(NumA .u32 (c:Nat)).va] (Tu [(NumA .u32 ((x+8589934592-y-c)%4294967296:Nat)).va,(NumA .u32 (if x<y+c then 1 else 0:Nat)).va]):=by
 refine Cn.intro Tryz.func220 G zk nq (fun B w0 a U=>?_)
 have U:=zn [(0,(NumA .u32 (x:Nat)).va),(1,(NumA .u32 (y:Nat)).va),(2,(NumA .u32 (c:Nat)).va)] [] U
 refine wp_seq<|zh [.v 6 _,.v 7 _] [.g 0,.g 1,.g 2,.o 0,.o 1] U (zv G (a9 a8) (zv G (a9 a8) o0)) (zz [(0,_),(1,_),(2,_),(6,_),(7,_)] [] fun a w U=>?_)
 refine zt<|zh [.v 8 _,.v 9 _,.v 10 _,.v 11 _,.v 12 _,.v 6 _] [.g 0,.g 1,.g 4,.o 5] U (zM 0 G (zM 1 G (zv G (ck (vq 0 G) (vq 1 G) (G)) (zM 2 G (zv G (ck (vq 2 G) (vq 3 G) (G)) (zA 4 G o0)))))) (zz [(0,_),(1,_),(7,_),(6,_)] [] fun a w U=>?_)
 refine zt<|zh [.v 13 _,.v 14 _,.v 15 _,.v 16 _,.v 17 _,.v 18 _,.v 19 _,.v 20 _,.v 21 _,.v 22 _,.v 23 _,.v 24 _,.v 7 _] [.g 3,.o 12] U (zM 0 G (zv G (ya (vq 0 G) (G)) (zM 1 G (zv G (yb (vq 1 G) (vq 2 G) (G)) (zM 0 G (zM 1 G (zv G (r_bxor (vq 4 G) (vq 5 G) (G)) (zv G (ya (vq 6 G) (G)) (zM 3 G (zv G (yb (vq 7 G) (vq 8 G) (G)) (zv G (qw (vq 3 G) (vq 9 G) (G)) (zv G (gH (vq 10 G) a8 zd (G)) (zA 11 G o0))))))))))))) (zz [(6,_),(7,_)] [] fun a w U=>?_)
 refine a7<|wp_ret<|aB ?_ (aS (rs:=[.tmp 6,.tmp 7]) G U (.tmp (zm 0 G) (.tmp (zm 1 G) .nil)) zd)
 exact tu2 (nu (rM hx hy hc)) (nu (vC hx hy hc))
theorem Ct {h l d:Nat}(hh:h<d)(hl:l<4294967296)(hd:d<4294967296):Cn Tryz.prog 221 [(NumA .u32 (h:Nat)).va,(NumA .u32 (l:Nat)).va,(NumA .u32 (d:Nat)).va] (Tu [(NumA .u32 ((h*4294967296+l)/d:Nat)).va,(NumA .u32 ((h*4294967296+l)%d:Nat)).va]):=by
 refine Cn.intro Tryz.func221 G zk nq (fun B w0 a U=>?_)
 have U:=zn [(0,(NumA .u32 (h:Nat)).va),(1,(NumA .u32 (l:Nat)).va),(2,(NumA .u32 (d:Nat)).va)] [] U
 refine wp_seq<|zh [.v 6 _,.v 7 _] [.g 0,.g 1,.g 2,.o 0,.o 1] U (zv G (a9 a8) (zv G (a9 a8) o0)) (zz [(0,_),(1,_),(2,_),(6,_),(7,_)] [] fun a w U=>?_)
 refine zt<|wp_seq<|zh [.v 9 _,.v 10 _,.v 11 _,.v 12 (Wh (_=true) _),.v 13 (Wh (_=true) _),.v 14 (Wh (_=true) _),.v 15 _] [.g 0,.g 1,.g 2,.g 3,.g 4,.o 6] U (zM 2 G (zv G (cI (vq 0 G) a8) (zv G (ae (vq 1 G)) (oc (an G G G (vq 2 G) nq (fun hg=>ae (gq 2 G))) (oc (an G G G (vq 2 G) nq (fun hg=>ae (gq 0 G))) (oc (an G G G (vq 2 G) nq (fun hg=>qv (ai (vq 3 G) hg) (ai (vq 4 G) hg))) (zv G (bJ (vq 2 G) (vq 5 G)) o0))))))) (zz [(0,_),(1,_),(2,_),(6,_),(7,_),(15,_)] [] fun a w U=>?_)
 refine a7<|ah U (zm 5 G) (fun hb0=>?_) (fun hb0=>?_)
 ·exact absurd hb0 (by simp; omega)
 ·refine wp_skip<|zt<|zh [.v 17 _,.v 18 _,.v 19 _,.v 20 _,.v 21 _,.v 22 _,.v 8 _] [.g 2,.g 3,.g 4,.o 6] U (zM 0 G (zv G (aE .u64 zk zk (vq 0 G) (G)) (zv G (qr (vq 1 G) a8 zd (G)) (zM 1 G (zv G (aE .u64 zk zk (vq 3 G) (G)) (zv G (qw (vq 2 G) (vq 4 G) (G)) (zA 5 G o0))))))) (zz [(2,_),(6,_),(7,_),(8,_)] [] fun a w U=>?_)
  refine zt<|zgd [[],[],[1],[0,1,2],[0,1,2,3],[],[],[6],[5,6,7],[5,6,7,8],[0,1,2,3,4],[0,1,2,3,4,5,6,7,8,9,10]] [] [] [.v 23 _,.v 24 _,.v 25 _,.v 26 _,.v 27 _,.v 28 _,.v 29 _,.v 30 _,.v 31 _,.v 32 _,.v 6 _,.v 7 _] [.o 10,.o 11] ab U (zM 3 G (zM 0 G (zv G (aE .u64 zk zk (vq 1 G) (G)) (zv G (jE (vq 0 G) (vq 2 G) (by rw [wu64 zo]; omega) (G)) (zv G (aE .u32 zk zk (vq 3 G) (G)) (zM 3 G (zM 0 G (zv G (aE .u64 zk zk (vq 6 G) (G)) (zv G (jD (vq 5 G) (vq 7 G) (by rw [wu64 zo]; omega) (G)) (zv G (aE .u32 zk zk (vq 8 G) (G)) (zA 4 G (zA 9 G o0)))))))))))) zk zk zk zk (zz [(6,_),(7,_)] [] fun a w U=>?_)
  refine a7<|wp_ret<|aB ?_ (aS (rs:=[.tmp 6,.tmp 7]) G U (.tmp (zm 0 G) (.tmp (zm 1 G) .nil)) zd)
  exact tu2 (nu (by rw [uL hh hl hd,wu64 (x:=d) zo]; exact (congrArg _ (nquo (by have:=om hh hl; omega))).trans (wu32 (om hh hl)))) (nu (by rw [uL hh hl hd,wu64 (x:=d) zo]; exact (congrArg _ nrem).trans (wu32 (by have:=Nat.mod_lt (h*4294967296+l) (show 0<d by omega); omega))))
theorem Af {l m:List Nat}(ha:l.length≤9223372036854775807)(hb:m.length≤9223372036854775807)(h:((l.length:Int) != (m.length:Int))=true):IntKind.i64.wrap ((l.length:Int)-(m.length:Int))=sizeL l m:=by
 have h':l.length≠m.length:=by simp at h; omega
 unfold sizeL
 rw [if_pos h',wi64 zo zo]
theorem Ae {l m:List Nat}{j:Nat}(ha:okL l)(hl:l.length=m.length)(hj:j<l.length)(hd:l.drop (j+1)=m.drop (j+1))(h:decide (((l[j]:Nat):Int)<((m[j]'zo:Nat):Int))=true):(-1:Int)=sizeL l m:=by
 have:=oH (a:=l) (b:=m) ha hj zo hd (by simpa using h)
 unfold sizeL
 rw [if_neg zo,if_pos this]
theorem Ac {l m:List Nat}{j:Nat}(hb:okL m)(hl:l.length=m.length)(hj:j<l.length)(hd:l.drop (j+1)=m.drop (j+1))(hne:(((l[j]:Nat):Int) != ((m[j]'zo:Nat):Int))=true)(h:decide (((l[j]:Nat):Int)<((m[j]'zo:Nat):Int))=false):(1:Int)=sizeL l m:=by
 have:=oH (a:=m) (b:=l) hb zo hj hd.symm (by simp at h hne; omega)
 unfold sizeL
 rw [if_neg zo,if_neg zo,if_pos this]
theorem Ab {l m:List Nat}(hd:l.drop 0=m.drop 0):(0:Int)=sizeL l m:=by
 have:l=m:=by simpa using hd
 subst this
 simp [sizeL]
theorem oN (l m:List Nat):Cn Tryz.prog 179 [(MgA l).va,(MgA m).va] (In (sizeL l m)):=by
 refine Cn.intro Tryz.func179 G zk nq (fun B w0 a U=>?_)
 have U:=zn [(0,(MgA l).va),(1,(MgA m).va)] [] U
 obtain ⟨ha,hla⟩:=U.mag 0 rfl; obtain ⟨hb,hlb⟩:=U.mag 1 rfl
 refine wp_seq<|zh [.v 4 _] [.g 0,.g 1,.o 0] U (zv G (a9 a8) o0) (zz [(0,_),(1,_),(4,_)] [] fun a w U=>?_)
 refine zt<|wp_seq<|zh [.v 6 _,.v 7 _,.v 8 _,.v 9 _,.v 10 _] [.g 0,.g 1,.g 2,.o 4] U (zM 0 G (zv G (aI Tryz.underlying23 (vq 0 G)) (zM 1 G (zv G (aI Tryz.underlying23 (vq 2 G)) (zv G (cI (vq 1 G) (vq 3 G)) o0))))) (zz [(0,_),(1,_),(4,_),(10,_)] [] fun a w U=>?_)
 refine a7<|ah U (zm 3 G) (fun hb0=>?_) (fun hb0=>?_)
 ·refine wp_seq<|zh [.v 11 _,.v 12 _,.v 13 _,.v 14 _,.v 15 _,.v 4 _] [.g 0,.g 1,.o 5] U (zM 0 G (zv G (aI Tryz.underlying23 (vq 0 G)) (zM 1 G (zv G (aI Tryz.underlying23 (vq 2 G)) (zv G (ck (vq 1 G) (vq 3 G) (G)) (zA 4 G o0)))))) (zz [(0,_),(1,_),(4,_)] [] fun a w U=>?_)
  refine a7<|wp_ret<|ap ?_
  refine aB ?_ (am G U (zm 2 G))
  exact nu (Af hla hlb hb0)
 ·have hl:l.length=m.length:=by simp at hb0; omega
  refine wp_skip<|zt<|wp_seq<|zh [.v 16 _,.v 17 _,.v 18 _,.v 5 _] [.g 0,.g 1,.g 2,.o 3] U (zM 0 G (zv G (aI Tryz.underlying23 (vq 0 G)) (zv G (ck (vq 1 G) a8 (wi64 zo zo)) (zA 2 G o0)))) (zz [(0,_),(1,_),(4,_),(5,_)] [] fun a w U=>?_)
  refine a7<|wp_block ?_
  have U:=St.sel U [0,1,3]
  refine wp_loop_ghost (fun n a w=>n≤l.length∧l.drop n=m.drop n∧St B w0 41 [(0,(MgA l).va),(1,(MgA m).va),(5,In ((n:Int)-1))] [] a w) (l.length) ?_ ?_
  ·exact ⟨Nat.le_refl _,by rw [List.drop_length,hl,List.drop_length],U⟩
  intro n a w hI
  obtain ⟨hi,hd,U⟩:=hI
  refine wp_seq<|wp_seq<|zh [.v 19 _,.v 20 _] [.g 0,.g 1,.g 2,.o 1] U (zM 2 G (zv G (eK (vq 0 G) a8) o0)) (zz [(0,_),(1,_),(5,_),(20,_)] [] fun a w U=>?_)
  refine a7<|ah U (zm 3 G) (fun hb1=>?_) (fun hb1=>?_)
  ·obtain ⟨j,rfl⟩:∃ j,n=j+1:=⟨n-1,by simp at hb1; omega⟩; rw [show ((j+1:Nat):Int)-1=(j:Int) from by omega] at U
   refine wp_skip<|zt<|wp_block<|wp_seq<|zgd [[],[],[0,1],[0,1,2],[],[],[4,5],[4,5,6],[0,1,2,3,4,5,6,7]] [] [] [.v 23 _,.v 24 _,.v 25 _,.v 26 _,.v 27 _,.v 28 _,.v 29 _,.v 30 _,.v 31 _] [.g 0,.g 1,.g 2,.o 8] ab U (zM 0 G (zM 2 G (zv G (bH aZ (vq 0 G) (vq 1 G) zo) (zv G (aq (vq 2 G) aO) (zM 1 G (zM 2 G (zv G (bH aZ (vq 4 G) (vq 5 G) zo) (zv G (aq (vq 6 G) aO) (zv G (cI (vq 3 G) (vq 7 G)) o0))))))))) zk zk zk zk (zz [(0,_),(1,_),(5,_),(31,_)] [] fun a w U=>?_)
   refine a7<|ah U (zm 3 G) (fun hb2=>?_) (fun hb2=>?_)
   ·refine wp_seq<|wp_seq<|zgd [[],[],[0,1],[0,1,2],[],[],[4,5],[4,5,6],[0,1,2,3,4,5,6,7]] [] [] [.v 32 _,.v 33 _,.v 34 _,.v 35 _,.v 36 _,.v 37 _,.v 38 _,.v 39 _,.v 40 _] [.g 0,.g 1,.g 2,.o 8] ab U (zM 0 G (zM 2 G (zv G (bH aZ (vq 0 G) (vq 1 G) zo) (zv G (aq (vq 2 G) aO) (zM 1 G (zM 2 G (zv G (bH aZ (vq 4 G) (vq 5 G) zo) (zv G (aq (vq 6 G) aO) (zv G (aN (vq 3 G) (vq 7 G)) o0))))))))) zk zk zk zk (zz [(0,_),(1,_),(5,_),(40,_)] [] fun a w U=>?_)
    refine a7<|ah U (zm 3 G) (fun hb3=>?_) (fun hb3=>?_)
    ·refine wp_seq<|zh [.v 4 _] [.g 0,.g 1,.g 2,.o 0] U (zv G (a9 a8) o0) (zz [(0,_),(1,_),(5,_),(4,_)] [] fun a w U=>?_)
     refine a7<|wp_ret<|ap ?_
     refine aV ?_
     refine ap ?_
     refine ap ?_
     refine aV ?_
     refine ap ?_
     refine aB ?_ (am G U (zm 3 G))
     exact nu (Ae ha hl zo hd hb3)
    ·refine wp_skip<|zt<|zh [.v 4 _] [.g 0,.g 1,.g 2,.o 0] U (zv G (a9 a8) o0) (zz [(0,_),(1,_),(5,_),(4,_)] [] fun a w U=>?_)
     refine a7<|wp_ret<|aV ?_
     refine ap ?_
     refine ap ?_
     refine aV ?_
     refine ap ?_
     refine aB ?_ (am G U (zm 3 G))
     exact nu (Ac hb hl zo hd hb2 hb3)
   ·refine wp_skip<|ao ?_
    refine a7<|zh [.v 21 _,.v 22 _,.v 5 _] [.g 0,.g 1,.o 2] U (zM 2 G (zv G (ck (vq 0 G) a8 (wi64 zo zo)) (zA 1 G o0))) (zz [(0,_),(1,_),(5,_)] [] fun a w U=>?_)
    refine a7 ?_
    have U:=St.sel U [0,1,2]
    exact ⟨j,by omega,by omega,i6 zo zo hd (by simp at hb2; omega),U⟩
  ·obtain rfl:n=0:=by simp at hb1; omega
   refine wp_exit<|ak<|ak<|aC<|zt<|zh [.v 4 _] [.o 0] U (zv G (a9 a8) o0) (zz [(4,_)] [] fun a w U=>?_)
   refine a7<|wp_ret<|aB ?_ (am G U (zm 0 G))
   exact nu (Ab hd)
def addSt (l m:List Nat)(i:Nat):List Nat:=digs i (sumTo l m i)++List.replicate (l.length+1-i) 0
theorem cF {l m:List Nat}{i:Nat}(h:i≤l.length):(addSt l m i).length=l.length+1:=by simp [addSt,aw]; omega
theorem kq (l m:List Nat):addSt l m 0=List.replicate (l.length+1) 0:=by simp [addSt,digs]
theorem eO {α:Type}(p q:List α)(x:α)(k:Nat)(h:p.length=k):(p++q).set k x=p++q.set 0 x:=by subst h; rw [List.set_append_right _ _ (Nat.le_refl _),Nat.sub_self]
theorem iQ (n:Nat)(x:Nat)(h:0<n):(List.replicate n 0).set 0 x=x::List.replicate (n-1) 0:=by
 cases n with
 | zero=>omega
 | succ n=>simp [List.replicate_succ]
theorem fy {l m:List Nat}{i:Nat}(h:i<l.length){y:Nat}(hy:m.getD i 0=y):(addSt l m i).set i ((l[i]+y+sumTo l m i/4294967296^i)%4294967296)=addSt l m (i+1):=by
 unfold addSt
 rw [eO _ _ _ _ (aw _ _),iQ _ _ zo,fi h,dG,hy]
 simp only [List.append_assoc,List.singleton_append]
 rw [Nat.add_comm (l[i]+y)]
 congr 3
theorem gv {l m:List Nat}{i:Nat}(h:i<l.length){y:Nat}(hy:m.getD i 0=y):(l[i]+y+sumTo l m i/4294967296^i)/4294967296=sumTo l m (i+1)/4294967296^(i+1):=by
 rw [fi h,carry_step',hy,Nat.add_comm (l[i]+y)]
theorem gw {l m:List Nat}(hl:okL l)(hm:okL m)(h:m.length≤l.length):(addSt l m l.length).set l.length (sumTo l m l.length/4294967296^l.length)=digs (l.length+1) (val l+val m):=by
 unfold addSt
 rw [eO _ _ _ _ (aw _ _),iQ _ _ zo,gm,lW h]
 have:=eH hl hm l.length
 rw [lW h] at this
 rw [Nat.mod_eq_of_lt zo]
 simp
theorem cK {l:List Nat}{i:Nat}(h:i<l.length):l.getD i 0=l[i]:=by simp [List.getD,h]
theorem dF {l:List Nat}{i:Nat}(h:l.length≤i):l.getD i 0=0:=by simp [List.getD,h]
theorem add_c (l m:List Nat)(hls:l.length≤1099511627776)(hms:m.length≤1099511627776):Cn Tryz.prog 202 [(MgA l).va,(MgA m).va] ((MgN (digs (max l.length m.length+1) (val l+val m))).va):=by
 refine Cn.introW Tryz.func202 G zk nq (.cons (iF _).va (.cons (iF _).va .nil)) (dP _).va (fun B w0 a hB0 U=>?_)
 have U:=zn [(0,(MgO l).va),(1,(MgO m).va)] [] U
 have hl:=(U.magO 0 rfl).1; have hm:=(U.magO 1 rfl).1
 refine wp_seq<|zh [.v 4 _] [.g 0,.g 1,.o 0] U (zv G (a9 aP) o0) (zz [(0,_),(1,_),(4,_)] [] fun a w U=>?_)
 refine zt<|wp_seq<|zh [.v 9 _,.v 10 _,.v 11 _,.v 12 _,.v 13 _] [.g 0,.g 1,.g 2,.o 4] U (zM 0 G (zv G (aI Tryz.underlying23 (aL (vq 0 G))) (zM 1 G (zv G (aI Tryz.underlying23 (aL (vq 2 G))) (zv G (aN (vq 1 G) (vq 3 G)) o0))))) (zz [(0,_),(1,_),(4,_),(13,_)] [] fun a w U=>?_)
 refine a7<|ah U (zm 3 G) (fun hb0=>?_) (fun hb0=>?_)
 ·have hlt:l.length<m.length:=by simp at hb0; omega
  refine zh [.v 14 _,.v 15 _,.v 0 _,.v 1 _] [.g 2,.o 2,.o 3] U (zM 1 G (zM 0 G (zA 0 G (zA 1 G o0)))) (zz [(4,_),(0,_),(1,_)] [] fun a w U=>?_)
  refine zt<|d7 (sts:=[]) (news:=[⟨19,109,slH _ _,some 3,_,none⟩]) (sp:=[.v 16 _,.v 17 _,.v 18 _,.alc 0,.adr 5 19 .none True]) [.g 0,.g 1,.g 2] [(5,19)] [⟨5,109,slH _ _,_⟩] U (zM 1 G (zv G (aI Tryz.underlying23 (aL (vq 0 G))) (zv G (aR (vq 1 G) a8 (aX zo)) (oc (dU G G G eI (vq 2 G) (vq 2 G) zo) (oc (ob_a G G jy) o0))))) zk zk zk ⟨⟨4,rfl⟩,trivial⟩ G zk (zz [(4,_),(0,_),(1,_)] [⟨5,109,slH _ _,_⟩] fun a w U=>?_)
  refine zt<|zg [none] [] [.v 6 _] [.g 0,.g 1,.g 2,.o 0] U (zv G (a9 (aF 0 G)) o0) (zz [(4,_),(0,_),(1,_),(6,_)] [⟨5,109,slH _ _,_⟩] fun a w U=>?_)
  refine zt<|wp_seq<|zg [none] [] [.v 20 _,.v 21 _,.v 22 _] [.g 0,.g 1,.g 2,.g 3,.o 1,.o 2] U (zM 1 G (zv G (aI Tryz.underlying23 (aL (vq 0 G))) (zv G (ae a8) o0))) (zz [(4,_),(0,_),(1,_),(6,_),(21,_),(22,_)] [⟨5,109,slH _ _,_⟩] fun a w U=>?_)
  refine a7<|wp_block ?_
  have U:=St.sel U [1,2,3,4,5]
  refine wp_loop_ghost (fun n a w=>∃ i:Nat,n+i=m.length∧St B w0 53 [(0,(MgO m).va),(1,(MgO l).va),(6,(NumA .u32 (sumTo m l i/4294967296^i:Nat)).va),(21,In (m.length:Nat)),(22,In (i:Nat))] [⟨5,109,slH (m.length+1) (m.length+1),Nums .u32 (addSt m l i)⟩] a w) (m.length) ?_ ?_
  ·exact ⟨0,by omega,by rw [kq,show sumTo m l 0/4294967296^0=0 from by simp [fh]]; exact U⟩
  intro n a w hI
  obtain ⟨i,hn,U⟩:=hI
  refine wp_seq<|zg [none] [] [.v 23 _] [.g 0,.g 1,.g 2,.g 3,.g 4,.o 0] U (zv G (aN (gq 4 G) (gq 3 G)) o0) (zz [(0,_),(1,_),(6,_),(21,_),(22,_),(23,_)] [⟨5,109,slH _ _,_⟩] fun a w U=>?_)
  refine zt<|ah U (zm 5 G) (fun hb1=>?_) (fun hb1=>?_)
  ·have hi:i<m.length:=by simp at hb1; omega
   refine wp_skip<|zt<|wp_block<|wp_seq<|zg [none] [] [.v 24 _,.v 7 _] [.g 0,.g 1,.g 2,.g 3,.g 4,.o 1] U (zM 4 G (zA 0 G o0)) (zz [(0,_),(1,_),(6,_),(21,_),(22,_),(7,_)] [⟨5,109,slH _ _,_⟩] fun a w U=>?_)
   refine zt<|zg [none] [] [.v 8 _] [.g 0,.g 1,.g 2,.g 3,.g 4,.g 5,.o 0] U (zv G (a9 (aF 0 G)) o0) (zz [(0,_),(1,_),(6,_),(21,_),(22,_),(7,_),(8,_)] [⟨5,109,slH _ _,_⟩] fun a w U=>?_)
   refine zt<|wp_seq<|zg [none] [] [.v 25 _,.v 26 _,.v 27 _,.v 28 _] [.g 0,.g 1,.g 2,.g 3,.g 4,.g 5,.g 6,.o 3] U (zM 5 G (zM 1 G (zv G (aI Tryz.underlying23 (aL (vq 1 G))) (zv G (aN (vq 0 G) (vq 2 G)) o0)))) (zz [(0,_),(1,_),(6,_),(21,_),(22,_),(7,_),(8,_),(28,_)] [⟨5,109,slH _ _,_⟩] fun a w U=>?_)
   refine a7<|ah U (zm 7 G) (fun hb2=>?_) (fun hb2=>?_)
   ·refine zg [none] [] [.v 29 _,.v 30 _,.v 31 _,.v 32 _,.v 8 _] [.g 0,.g 1,.g 2,.g 3,.g 4,.g 5,.o 4] U (zM 1 rfl (zM 5 rfl (zv rfl (bH aZ (aL (vq 0 rfl)) (vq 1 rfl) (by first | omega | (simp at hb2; omega) | (simp at hb4; omega))) (zv rfl (aq (vq 2 rfl) aO) (zA 3 rfl o0))))) (zz [(0,_),(1,_),(6,_),(21,_),(22,_),(7,_),(8,_)] [⟨5,109,slH _ _,_⟩] fun a w U=>?_)
    refine a7<|zg [some (13,_)] [] [.adr 34 5 .none True,.v 35 _,.v 36 _,.v 37 _,.v 38 _,.v 39 _,.v 40 _,.v 41 _,.v 42 _,.v 33 _,.v 43 _,.v 44 _,.adr 45 5 (.some _) True,.sto 0,.v 6 _] [.g 0,.g 1,.g 3,.g 4,.o 14] U (oc (ob_a rfl rfl cL) (zM 5 rfl (zM 0 rfl (zM 5 rfl (zv rfl (bH aZ (aL (vq 2 rfl)) (vq 3 rfl) (by first | omega | (simp at hb2; omega) | (simp at hb4; omega))) (zv rfl (aq (vq 4 rfl) aO) (zM 6 rfl (zM 2 rfl (zv rfl (aa (xs:=[.tmp 39,.tmp 40,.tmp 41]) (jx (hm _ (List.getElem_mem _)) (hl _ (List.getElem_mem _)) (Nat.lt_of_le_of_lt (eH hm hl _) zd)) (.cons (vq 5 rfl) (.cons (vq 6 rfl) (.cons (vq 7 rfl) .nil)))) (zv rfl (ae (vq 8 rfl)) (zv rfl (aQ (vq 9 rfl) rfl) (zv rfl (aQ (vq 9 rfl) rfl) (oc (ob_a rfl rfl (em 0 rfl zk (lz0 0 rfl) aZ (vq 1 rfl) zo)) (oc (cA 12 rfl rfl rfl rfl zk (fun _=>bX _ _ _ _) (vq 10 rfl) aO (bC (by rw [cF zo]; omega))) (zA 11 rfl o0))))))))))))))) (zz [(0,_),(1,_),(21,_),(22,_),(6,_)] [⟨5,109,slH _ _,_⟩] fun a w U=>?_)
    refine ao ?_
    refine a7<|zg [none] [] [.v 46 _,.v 22 _] [.g 0,.g 1,.g 2,.g 4,.o 1] U (zv G (aR (gq 3 G) a8 (aX zo)) (zv G (ae (vq 0 G)) o0)) (zz [(0,_),(1,_),(21,_),(6,_),(22,_)] [⟨5,109,slH _ _,_⟩] fun a w U=>?_)
    refine a7 ?_
    have U:=St.sel U [0,1,3,2,4]
    rw [fy hi (y:=_) (cK (by simp at hb2; omega)),gv hi (cK (by simp at hb2; omega))] at U; exact ⟨n-1,by omega,i+1,by omega,U⟩
   ·refine wp_skip<|a7<|zg [some (13,_)] [] [.adr 34 5 .none True,.v 35 _,.v 36 _,.v 37 _,.v 38 _,.v 39 _,.v 40 _,.v 41 _,.v 42 _,.v 33 _,.v 43 _,.v 44 _,.adr 45 5 (.some _) True,.sto 0,.v 6 _] [.g 0,.g 1,.g 3,.g 4,.o 14] U (oc (ob_a rfl rfl cL) (zM 5 rfl (zM 0 rfl (zM 5 rfl (zv rfl (bH aZ (aL (vq 2 rfl)) (vq 3 rfl) (by first | omega | (simp at hb2; omega) | (simp at hb4; omega))) (zv rfl (aq (vq 4 rfl) aO) (zM 6 rfl (zM 2 rfl (zv rfl (aa (xs:=[.tmp 39,.tmp 40,.tmp 41]) (jx (hm _ (List.getElem_mem _)) (y:=0) zd (Nat.lt_of_le_of_lt (eH hm hl _) zd)) (.cons (vq 5 rfl) (.cons (vq 6 rfl) (.cons (vq 7 rfl) .nil)))) (zv rfl (ae (vq 8 rfl)) (zv rfl (aQ (vq 9 rfl) rfl) (zv rfl (aQ (vq 9 rfl) rfl) (oc (ob_a rfl rfl (em 0 rfl zk (lz0 0 rfl) aZ (vq 1 rfl) zo)) (oc (cA 12 rfl rfl rfl rfl zk (fun _=>bX _ _ _ _) (vq 10 rfl) aO (bC (by rw [cF zo]; omega))) (zA 11 rfl o0))))))))))))))) (zz [(0,_),(1,_),(21,_),(22,_),(6,_)] [⟨5,109,slH _ _,_⟩] fun a w U=>?_)
    refine ao ?_
    refine a7<|zg [none] [] [.v 46 _,.v 22 _] [.g 0,.g 1,.g 2,.g 4,.o 1] U (zv G (aR (gq 3 G) a8 (aX zo)) (zv G (ae (vq 0 G)) o0)) (zz [(0,_),(1,_),(21,_),(6,_),(22,_)] [⟨5,109,slH _ _,_⟩] fun a w U=>?_)
    refine a7 ?_
    have U:=St.sel U [0,1,3,2,4]
    rw [fy hi (y:=_) (dF (by simp at hb2; omega)),gv hi (dF (by simp at hb2; omega))] at U; exact ⟨n-1,by omega,i+1,by omega,U⟩
  ·obtain rfl:i=m.length:=by simp at hb1; omega
   refine wp_exit<|ak<|ak<|aC<|zt<|zg [some (5,_)] [] [.adr 47 5 .none True,.v 48 _,.v 49 _,.v 50 _,.adr 51 5 (.some _) True,.sto 0] [] U (oc (ob_a G G cL) (zM 0 G (zv G (aI Tryz.underlying23 (aL (vq 1 G))) (zM 2 G (oc (ob_a G G (em 0 G zk (lz0 0 G) aZ (vq 2 G) zo)) (oc (cA 4 G G G G zk (fun _=>bX _ _ _ _) (vq 3 G) aO (bC (by rw [cF zo]; omega))) o0)))))) (zz [] [⟨5,109,slH _ _,_⟩] fun a w U=>?_)
   refine zt<|d7 (sts:=[none]) (news:=[]) (sp:=[.adr 52 5 .none True,.adr 4 5 .none True]) [] [(4,5)] [⟨4,109,slH _ _,_⟩] U (oc (ob_a G G cL) (oc (ob_a G G (vf 0 G zk)) o0)) zk zk zk ⟨⟨1,rfl⟩,trivial⟩ G zk (zz [] [⟨4,109,slH _ _,_⟩] fun a w U=>?_)
   refine a7<|wp_ret<|aB ?_ (sm G U (zm 0 G) ⟨by simp [cF],Nat.le_refl _,by unfold maxLen; omega,by rw [gw hm hl zo]; exact bN _ _⟩ (by simp [cF]))
   rw [gw hm hl zo,Nat.max_eq_right zo,Nat.add_comm (val m)]
 ·have hlt:m.length≤l.length:=by simp at hb0; omega
  refine wp_skip<|zt<|d7 (sts:=[]) (news:=[⟨19,109,slH _ _,some 3,_,none⟩]) (sp:=[.v 16 _,.v 17 _,.v 18 _,.alc 0,.adr 5 19 .none True]) [.g 0,.g 1,.g 2] [(5,19)] [⟨5,109,slH _ _,_⟩] U (zM 0 G (zv G (aI Tryz.underlying23 (aL (vq 0 G))) (zv G (aR (vq 1 G) a8 (aX zo)) (oc (dU G G G eI (vq 2 G) (vq 2 G) zo) (oc (ob_a G G jy) o0))))) zk zk zk ⟨⟨4,rfl⟩,trivial⟩ G zk (zz [(0,_),(1,_),(4,_)] [⟨5,109,slH _ _,_⟩] fun a w U=>?_)
  refine zt<|zg [none] [] [.v 6 _] [.g 0,.g 1,.g 2,.o 0] U (zv G (a9 (aF 0 G)) o0) (zz [(0,_),(1,_),(4,_),(6,_)] [⟨5,109,slH _ _,_⟩] fun a w U=>?_)
  refine zt<|wp_seq<|zg [none] [] [.v 20 _,.v 21 _,.v 22 _] [.g 0,.g 1,.g 2,.g 3,.o 1,.o 2] U (zM 0 G (zv G (aI Tryz.underlying23 (aL (vq 0 G))) (zv G (ae a8) o0))) (zz [(0,_),(1,_),(4,_),(6,_),(21,_),(22,_)] [⟨5,109,slH _ _,_⟩] fun a w U=>?_)
  refine a7<|wp_block ?_
  have U:=St.sel U [0,1,3,4,5]
  refine wp_loop_ghost (fun n a w=>∃ i:Nat,n+i=l.length∧St B w0 53 [(0,(MgO l).va),(1,(MgO m).va),(6,(NumA .u32 (sumTo l m i/4294967296^i:Nat)).va),(21,In (l.length:Nat)),(22,In (i:Nat))] [⟨5,109,slH (l.length+1) (l.length+1),Nums .u32 (addSt l m i)⟩] a w) (l.length) ?_ ?_
  ·exact ⟨0,by omega,by rw [kq,show sumTo l m 0/4294967296^0=0 from by simp [fh]]; exact U⟩
  intro n a w hI
  obtain ⟨i,hn,U⟩:=hI
  refine wp_seq<|zg [none] [] [.v 23 _] [.g 0,.g 1,.g 2,.g 3,.g 4,.o 0] U (zv G (aN (gq 4 G) (gq 3 G)) o0) (zz [(0,_),(1,_),(6,_),(21,_),(22,_),(23,_)] [⟨5,109,slH _ _,_⟩] fun a w U=>?_)
  refine zt<|ah U (zm 5 G) (fun hb3=>?_) (fun hb3=>?_)
  ·have hi:i<l.length:=by simp at hb3; omega
   refine wp_skip<|zt<|wp_block<|wp_seq<|zg [none] [] [.v 24 _,.v 7 _] [.g 0,.g 1,.g 2,.g 3,.g 4,.o 1] U (zM 4 G (zA 0 G o0)) (zz [(0,_),(1,_),(6,_),(21,_),(22,_),(7,_)] [⟨5,109,slH _ _,_⟩] fun a w U=>?_)
   refine zt<|zg [none] [] [.v 8 _] [.g 0,.g 1,.g 2,.g 3,.g 4,.g 5,.o 0] U (zv G (a9 (aF 0 G)) o0) (zz [(0,_),(1,_),(6,_),(21,_),(22,_),(7,_),(8,_)] [⟨5,109,slH _ _,_⟩] fun a w U=>?_)
   refine zt<|wp_seq<|zg [none] [] [.v 25 _,.v 26 _,.v 27 _,.v 28 _] [.g 0,.g 1,.g 2,.g 3,.g 4,.g 5,.g 6,.o 3] U (zM 5 G (zM 1 G (zv G (aI Tryz.underlying23 (aL (vq 1 G))) (zv G (aN (vq 0 G) (vq 2 G)) o0)))) (zz [(0,_),(1,_),(6,_),(21,_),(22,_),(7,_),(8,_),(28,_)] [⟨5,109,slH _ _,_⟩] fun a w U=>?_)
   refine a7<|ah U (zm 7 G) (fun hb4=>?_) (fun hb4=>?_)
   ·refine zg [none] [] [.v 29 _,.v 30 _,.v 31 _,.v 32 _,.v 8 _] [.g 0,.g 1,.g 2,.g 3,.g 4,.g 5,.o 4] U (zM 1 rfl (zM 5 rfl (zv rfl (bH aZ (aL (vq 0 rfl)) (vq 1 rfl) (by first | omega | (simp at hb2; omega) | (simp at hb4; omega))) (zv rfl (aq (vq 2 rfl) aO) (zA 3 rfl o0))))) (zz [(0,_),(1,_),(6,_),(21,_),(22,_),(7,_),(8,_)] [⟨5,109,slH _ _,_⟩] fun a w U=>?_)
    refine a7<|zg [some (13,_)] [] [.adr 34 5 .none True,.v 35 _,.v 36 _,.v 37 _,.v 38 _,.v 39 _,.v 40 _,.v 41 _,.v 42 _,.v 33 _,.v 43 _,.v 44 _,.adr 45 5 (.some _) True,.sto 0,.v 6 _] [.g 0,.g 1,.g 3,.g 4,.o 14] U (oc (ob_a rfl rfl cL) (zM 5 rfl (zM 0 rfl (zM 5 rfl (zv rfl (bH aZ (aL (vq 2 rfl)) (vq 3 rfl) (by first | omega | (simp at hb2; omega) | (simp at hb4; omega))) (zv rfl (aq (vq 4 rfl) aO) (zM 6 rfl (zM 2 rfl (zv rfl (aa (xs:=[.tmp 39,.tmp 40,.tmp 41]) (jx (hl _ (List.getElem_mem _)) (hm _ (List.getElem_mem _)) (Nat.lt_of_le_of_lt (eH hl hm _) zd)) (.cons (vq 5 rfl) (.cons (vq 6 rfl) (.cons (vq 7 rfl) .nil)))) (zv rfl (ae (vq 8 rfl)) (zv rfl (aQ (vq 9 rfl) rfl) (zv rfl (aQ (vq 9 rfl) rfl) (oc (ob_a rfl rfl (em 0 rfl zk (lz0 0 rfl) aZ (vq 1 rfl) zo)) (oc (cA 12 rfl rfl rfl rfl zk (fun _=>bX _ _ _ _) (vq 10 rfl) aO (bC (by rw [cF zo]; omega))) (zA 11 rfl o0))))))))))))))) (zz [(0,_),(1,_),(21,_),(22,_),(6,_)] [⟨5,109,slH _ _,_⟩] fun a w U=>?_)
    refine ao ?_
    refine a7<|zg [none] [] [.v 46 _,.v 22 _] [.g 0,.g 1,.g 2,.g 4,.o 1] U (zv G (aR (gq 3 G) a8 (aX zo)) (zv G (ae (vq 0 G)) o0)) (zz [(0,_),(1,_),(21,_),(6,_),(22,_)] [⟨5,109,slH _ _,_⟩] fun a w U=>?_)
    refine a7 ?_
    have U:=St.sel U [0,1,3,2,4]
    rw [fy hi (y:=_) (cK (by simp at hb4; omega)),gv hi (cK (by simp at hb4; omega))] at U; exact ⟨n-1,by omega,i+1,by omega,U⟩
   ·refine wp_skip<|a7<|zg [some (13,_)] [] [.adr 34 5 .none True,.v 35 _,.v 36 _,.v 37 _,.v 38 _,.v 39 _,.v 40 _,.v 41 _,.v 42 _,.v 33 _,.v 43 _,.v 44 _,.adr 45 5 (.some _) True,.sto 0,.v 6 _] [.g 0,.g 1,.g 3,.g 4,.o 14] U (oc (ob_a rfl rfl cL) (zM 5 rfl (zM 0 rfl (zM 5 rfl (zv rfl (bH aZ (aL (vq 2 rfl)) (vq 3 rfl) (by first | omega | (simp at hb2; omega) | (simp at hb4; omega))) (zv rfl (aq (vq 4 rfl) aO) (zM 6 rfl (zM 2 rfl (zv rfl (aa (xs:=[.tmp 39,.tmp 40,.tmp 41]) (jx (hl _ (List.getElem_mem _)) (y:=0) zd (Nat.lt_of_le_of_lt (eH hl hm _) zd)) (.cons (vq 5 rfl) (.cons (vq 6 rfl) (.cons (vq 7 rfl) .nil)))) (zv rfl (ae (vq 8 rfl)) (zv rfl (aQ (vq 9 rfl) rfl) (zv rfl (aQ (vq 9 rfl) rfl) (oc (ob_a rfl rfl (em 0 rfl zk (lz0 0 rfl) aZ (vq 1 rfl) zo)) (oc (cA 12 rfl rfl rfl rfl zk (fun _=>bX _ _ _ _) (vq 10 rfl) aO (bC (by rw [cF zo]; omega))) (zA 11 rfl o0))))))))))))))) (zz [(0,_),(1,_),(21,_),(22,_),(6,_)] [⟨5,109,slH _ _,_⟩] fun a w U=>?_)
    refine ao ?_
    refine a7<|zg [none] [] [.v 46 _,.v 22 _] [.g 0,.g 1,.g 2,.g 4,.o 1] U (zv G (aR (gq 3 G) a8 (aX zo)) (zv G (ae (vq 0 G)) o0)) (zz [(0,_),(1,_),(21,_),(6,_),(22,_)] [⟨5,109,slH _ _,_⟩] fun a w U=>?_)
    refine a7 ?_
    have U:=St.sel U [0,1,3,2,4]
    rw [fy hi (y:=_) (dF (by simp at hb4; omega)),gv hi (dF (by simp at hb4; omega))] at U; exact ⟨n-1,by omega,i+1,by omega,U⟩
  ·obtain rfl:i=l.length:=by simp at hb3; omega
   refine wp_exit<|ak<|ak<|aC<|zt<|zg [some (5,_)] [] [.adr 47 5 .none True,.v 48 _,.v 49 _,.v 50 _,.adr 51 5 (.some _) True,.sto 0] [] U (oc (ob_a G G cL) (zM 0 G (zv G (aI Tryz.underlying23 (aL (vq 1 G))) (zM 2 G (oc (ob_a G G (em 0 G zk (lz0 0 G) aZ (vq 2 G) zo)) (oc (cA 4 G G G G zk (fun _=>bX _ _ _ _) (vq 3 G) aO (bC (by rw [cF zo]; omega))) o0)))))) (zz [] [⟨5,109,slH _ _,_⟩] fun a w U=>?_)
   refine zt<|d7 (sts:=[none]) (news:=[]) (sp:=[.adr 52 5 .none True,.adr 4 5 .none True]) [] [(4,5)] [⟨4,109,slH _ _,_⟩] U (oc (ob_a G G cL) (oc (ob_a G G (vf 0 G zk)) o0)) zk zk zk ⟨⟨1,rfl⟩,trivial⟩ G zk (zz [] [⟨4,109,slH _ _,_⟩] fun a w U=>?_)
   refine a7<|wp_ret<|aB ?_ (sm G U (zm 0 G) ⟨by simp [cF],Nat.le_refl _,by unfold maxLen; omega,by rw [gw hl hm zo]; exact bN _ _⟩ (by simp [cF]))
   rw [gw hl hm zo,Nat.max_eq_left zo]
def dif (l m:List Nat)(i:Nat):Nat:=val (l.take i)+4294967296^i-val (m.take i)
def subSt (l m:List Nat)(i:Nat):List Nat:=digs i (dif l m i)++List.replicate (l.length-i) 0
theorem fR {l m:List Nat}{i:Nat}(h:i≤l.length):(subSt l m i).length=l.length:=by simp [subSt,aw]; omega
theorem ql (l m:List Nat):subSt l m 0=List.replicate l.length 0:=by simp [subSt,digs]
theorem pS (l m:List Nat):1-dif l m 0/4294967296^0=0:=by simp [dif]
theorem en (m:List Nat)(i:Nat):val (m.take (i+1))=val (m.take i)+4294967296^i*m.getD i 0:=by
 by_cases h:i<m.length
 ·rw [bA h,cK h]
 ·rw [List.take_of_length_le zo,List.take_of_length_le zo,dF zo,Nat.mul_zero,Nat.add_zero]
theorem eZ {m:List Nat}(hm:okL m)(i:Nat):m.getD i 0<4294967296:=by
 by_cases h:i<m.length
 ·rw [cK h]; exact hm _ (List.getElem_mem _)
 ·rw [dF zo]; decide
theorem lG {l m:List Nat}{i:Nat}(h:i<l.length)(hm:okL m):dif l m (i+1)=dif l m i+4294967296^i*(l[i]+4294967295-m.getD i 0):=by
 have h1:=cH hm i
 have h2:=eZ hm i
 unfold dif
 rw [bA h,en,Nat.pow_succ]
 generalize 4294967296^i=p at *
 obtain ⟨e,he⟩:∃ e,l[i]+4294967295=m.getD i 0+e:=⟨l[i]+4294967295-m.getD i 0,by omega⟩
 rw [he,Nat.add_sub_cancel_left]
 have h3:p*(l[i]+4294967295)=p*(m.getD i 0+e):=by rw [he]
 rw [Nat.mul_add,Nat.mul_add] at h3
 omega
theorem pT {l m:List Nat}(hl:okL l)(i:Nat):dif l m i/4294967296^i≤1:=by
 have h1:=cH hl i
 have h2:0<4294967296^i:=Nat.pow_pos zd
 unfold dif
 rw [Nat.div_le_iff_le_mul_add_pred h2]
 omega
theorem jS {l m:List Nat}{i:Nat}(h:i<l.length)(hl:okL l)(hm:okL m){y:Nat}(hy:m.getD i 0=y):(subSt l m i).set i ((l[i]+8589934592-y-(1-dif l m i/4294967296^i))%4294967296)=subSt l m (i+1):=by
 have h1:=eZ hm i
 have h2:=pT (m:=m) hl i
 unfold subSt
 rw [eO _ _ _ _ (aw _ _),iQ _ _ zo,lG h hm,dG,hy]
 rw [hy] at h1
 simp only [List.append_assoc,List.singleton_append]
 have e:(l[i]+8589934592-y-(1-dif l m i/4294967296^i))%4294967296=(dif l m i/4294967296^i+(l[i]+4294967295-y))%4294967296:=by
  generalize dif l m i/4294967296^i=q at *
  omega
 rw [e,Nat.sub_add_eq]
theorem iK {l m:List Nat}{i:Nat}(h:i<l.length)(hl:okL l)(hm:okL m){y:Nat}(hy:m.getD i 0=y):(if l[i]<y+(1-dif l m i/4294967296^i) then 1 else 0)=1-dif l m (i+1)/4294967296^(i+1):=by
 have h1:=eZ hm i
 have h2:=pT (m:=m) hl i
 have h3:=hl _ (List.getElem_mem h)
 rw [lG h hm,carry_step',hy]
 rw [hy] at h1
 generalize dif l m i/4294967296^i=q at *
 split <;> omega
theorem lX {l m:List Nat}(hl:okL l)(hm:m.length≤l.length)(hv:val m≤val l):trimL (subSt l m l.length)=limbs (val l-val m):=by
 unfold subSt dif
 rw [Nat.sub_self,List.replicate_zero,List.append_nil,List.take_length,List.take_of_length_le hm]
 have h1:=eM hl
 rw [fx (m':=val l-val m),gC zo]
 rw [show val l+4294967296^l.length-val m=(val l-val m)+4294967296^l.length from by omega,Nat.add_mod_right]
theorem ws {l m:List Nat}{i:Nat}:okL (subSt l m i):=okL_append.2 ⟨bN _ _,fun x hx=>by rw [(List.mem_replicate.1 hx).2]; decide⟩
theorem vB (l m:List Nat)(hls:l.length≤1099511627776)(hml:m.length≤l.length)(hv:val m≤val l):Cn Tryz.prog 203 [(MgA l).va,(MgA m).va] ((MgN (limbs (val l-val m))).va):=by
 refine Cn.introW Tryz.func203 G zk nq (.cons (iF _).va (.cons (iF _).va .nil)) (dP _).va (fun B w0 a hB0 U=>?_)
 have U:=zn [(0,(MgO l).va),(1,(MgO m).va)] [] U
 have hl:=(U.magO 0 rfl).1; have hm:=(U.magO 1 rfl).1
 refine wp_seq<|zh [.v 4 _] [.g 0,.g 1,.o 0] U (zv G (a9 aP) o0) (zz [(0,_),(1,_),(4,_)] [] fun a w U=>?_)
 refine zt<|d7 (sts:=[]) (news:=[⟨11,109,slH _ _,some 2,_,none⟩]) (sp:=[.v 9 _,.v 10 _,.alc 0,.adr 5 11 .none True]) [.g 0,.g 1,.g 2] [(5,11)] [⟨5,109,slH _ _,_⟩] U (zM 0 G (zv G (aI Tryz.underlying23 (aL (vq 0 G))) (oc (dU G G G eI (vq 1 G) (vq 1 G) zo) (oc (ob_a G G jy) o0)))) zk zk zk ⟨⟨3,rfl⟩,trivial⟩ G zk (zz [(0,_),(1,_),(4,_)] [⟨5,109,slH _ _,_⟩] fun a w U=>?_)
 refine zt<|zg [none] [] [.v 6 _] [.g 0,.g 1,.g 2,.o 0] U (zv G (a9 (aF 0 G)) o0) (zz [(0,_),(1,_),(4,_),(6,_)] [⟨5,109,slH _ _,_⟩] fun a w U=>?_)
 refine zt<|wp_seq<|zg [none] [] [.v 12 _,.v 13 _,.v 14 _] [.g 0,.g 1,.g 2,.g 3,.o 1,.o 2] U (zM 0 G (zv G (aI Tryz.underlying23 (aL (vq 0 G))) (zv G (ae a8) o0))) (zz [(0,_),(1,_),(4,_),(6,_),(13,_),(14,_)] [⟨5,109,slH _ _,_⟩] fun a w U=>?_)
 refine a7<|wp_block ?_
 have U:=St.sel U [0,1,3,4,5]
 refine wp_loop_ghost (fun n a w=>∃ i:Nat,n+i=l.length∧St B w0 41 [(0,(MgO l).va),(1,(MgO m).va),(6,(NumA .u32 (1-dif l m i/4294967296^i:Nat)).va),(13,In (l.length:Nat)),(14,In (i:Nat))] [⟨5,109,slH l.length l.length,Nums .u32 (subSt l m i)⟩] a w) (l.length) ?_ ?_
 ·exact ⟨0,by omega,by rw [ql,pS]; exact U⟩
 intro n a w hI
 obtain ⟨i,hn,U⟩:=hI
 refine wp_seq<|zg [none] [] [.v 15 _] [.g 0,.g 1,.g 2,.g 3,.g 4,.o 0] U (zv G (aN (gq 4 G) (gq 3 G)) o0) (zz [(0,_),(1,_),(6,_),(13,_),(14,_),(15,_)] [⟨5,109,slH _ _,_⟩] fun a w U=>?_)
 refine zt<|ah U (zm 5 G) (fun hb0=>?_) (fun hb0=>?_)
 ·have hi:i<l.length:=by simp at hb0; omega
  refine wp_skip<|zt<|wp_block<|wp_seq<|zg [none] [] [.v 16 _,.v 7 _] [.g 0,.g 1,.g 2,.g 3,.g 4,.o 1] U (zM 4 G (zA 0 G o0)) (zz [(0,_),(1,_),(6,_),(13,_),(14,_),(7,_)] [⟨5,109,slH _ _,_⟩] fun a w U=>?_)
  refine zt<|zg [none] [] [.v 8 _] [.g 0,.g 1,.g 2,.g 3,.g 4,.g 5,.o 0] U (zv G (a9 (aF 0 G)) o0) (zz [(0,_),(1,_),(6,_),(13,_),(14,_),(7,_),(8,_)] [⟨5,109,slH _ _,_⟩] fun a w U=>?_)
  refine zt<|wp_seq<|zg [none] [] [.v 17 _,.v 18 _,.v 19 _,.v 20 _] [.g 0,.g 1,.g 2,.g 3,.g 4,.g 5,.g 6,.o 3] U (zM 5 G (zM 1 G (zv G (aI Tryz.underlying23 (aL (vq 1 G))) (zv G (aN (vq 0 G) (vq 2 G)) o0)))) (zz [(0,_),(1,_),(6,_),(13,_),(14,_),(7,_),(8,_),(20,_)] [⟨5,109,slH _ _,_⟩] fun a w U=>?_)
  refine a7<|ah U (zm 7 G) (fun hb1=>?_) (fun hb1=>?_)
  ·refine zg [none] [] [.v 21 _,.v 22 _,.v 23 _,.v 24 _,.v 8 _] [.g 0,.g 1,.g 2,.g 3,.g 4,.g 5,.o 4] U (zM 1 rfl (zM 5 rfl (zv rfl (bH aZ (aL (vq 0 rfl)) (vq 1 rfl) (by first | omega | (simp at hb1; omega))) (zv rfl (aq (vq 2 rfl) aO) (zA 3 rfl o0))))) (zz [(0,_),(1,_),(6,_),(13,_),(14,_),(7,_),(8,_)] [⟨5,109,slH _ _,_⟩] fun a w U=>?_)
   refine a7<|zg [some (13,_)] [] [.adr 26 5 .none True,.v 27 _,.v 28 _,.v 29 _,.v 30 _,.v 31 _,.v 32 _,.v 33 _,.v 34 _,.v 25 _,.v 35 _,.v 36 _,.adr 37 5 (.some _) True,.sto 0,.v 6 _] [.g 0,.g 1,.g 3,.g 4,.o 14] U (oc (ob_a rfl rfl cL) (zM 5 rfl (zM 0 rfl (zM 5 rfl (zv rfl (bH aZ (aL (vq 2 rfl)) (vq 3 rfl) (by first | omega | (simp at hb1; omega))) (zv rfl (aq (vq 4 rfl) aO) (zM 6 rfl (zM 2 rfl (zv rfl (aa (xs:=[.tmp 31,.tmp 32,.tmp 33]) (rN (hl _ (List.getElem_mem _)) (hm _ (List.getElem_mem _)) (Nat.lt_of_le_of_lt (Nat.sub_le _ _) zd)) (.cons (vq 5 rfl) (.cons (vq 6 rfl) (.cons (vq 7 rfl) .nil)))) (zv rfl (ae (vq 8 rfl)) (zv rfl (aQ (vq 9 rfl) rfl) (zv rfl (aQ (vq 9 rfl) rfl) (oc (ob_a rfl rfl (em 0 rfl zk (lz0 0 rfl) aZ (vq 1 rfl) zo)) (oc (cA 12 rfl rfl rfl rfl zk (fun _=>bX _ _ _ _) (vq 10 rfl) aO (bC (by rw [fR zo]; omega))) (zA 11 rfl o0))))))))))))))) (zz [(0,_),(1,_),(13,_),(14,_),(6,_)] [⟨5,109,slH _ _,_⟩] fun a w U=>?_)
   refine ao ?_
   refine a7<|zg [none] [] [.v 38 _,.v 14 _] [.g 0,.g 1,.g 2,.g 4,.o 1] U (zv G (aR (gq 3 G) a8 (aX zo)) (zv G (ae (vq 0 G)) o0)) (zz [(0,_),(1,_),(13,_),(6,_),(14,_)] [⟨5,109,slH _ _,_⟩] fun a w U=>?_)
   refine a7 ?_
   have U:=St.sel U [0,1,3,2,4]
   rw [jS hi hl hm (y:=_) (cK (by simp at hb1; omega)),iK hi hl hm (cK (by simp at hb1; omega))] at U; exact ⟨n-1,by omega,i+1,by omega,U⟩
  ·refine wp_skip<|a7<|zg [some (13,_)] [] [.adr 26 5 .none True,.v 27 _,.v 28 _,.v 29 _,.v 30 _,.v 31 _,.v 32 _,.v 33 _,.v 34 _,.v 25 _,.v 35 _,.v 36 _,.adr 37 5 (.some _) True,.sto 0,.v 6 _] [.g 0,.g 1,.g 3,.g 4,.o 14] U (oc (ob_a rfl rfl cL) (zM 5 rfl (zM 0 rfl (zM 5 rfl (zv rfl (bH aZ (aL (vq 2 rfl)) (vq 3 rfl) (by first | omega | (simp at hb1; omega))) (zv rfl (aq (vq 4 rfl) aO) (zM 6 rfl (zM 2 rfl (zv rfl (aa (xs:=[.tmp 31,.tmp 32,.tmp 33]) (rN (hl _ (List.getElem_mem _)) (y:=0) zd (Nat.lt_of_le_of_lt (Nat.sub_le _ _) zd)) (.cons (vq 5 rfl) (.cons (vq 6 rfl) (.cons (vq 7 rfl) .nil)))) (zv rfl (ae (vq 8 rfl)) (zv rfl (aQ (vq 9 rfl) rfl) (zv rfl (aQ (vq 9 rfl) rfl) (oc (ob_a rfl rfl (em 0 rfl zk (lz0 0 rfl) aZ (vq 1 rfl) zo)) (oc (cA 12 rfl rfl rfl rfl zk (fun _=>bX _ _ _ _) (vq 10 rfl) aO (bC (by rw [fR zo]; omega))) (zA 11 rfl o0))))))))))))))) (zz [(0,_),(1,_),(13,_),(14,_),(6,_)] [⟨5,109,slH _ _,_⟩] fun a w U=>?_)
   refine ao ?_
   refine a7<|zg [none] [] [.v 38 _,.v 14 _] [.g 0,.g 1,.g 2,.g 4,.o 1] U (zv G (aR (gq 3 G) a8 (aX zo)) (zv G (ae (vq 0 G)) o0)) (zz [(0,_),(1,_),(13,_),(6,_),(14,_)] [⟨5,109,slH _ _,_⟩] fun a w U=>?_)
   refine a7 ?_
   have U:=St.sel U [0,1,3,2,4]
   rw [jS hi hl hm (y:=_) (dF (by simp at hb1; omega)),iK hi hl hm (dF (by simp at hb1; omega))] at U; exact ⟨n-1,by omega,i+1,by omega,U⟩
 ·obtain rfl:i=l.length:=by simp at hb0; omega
  refine wp_exit<|ak<|ak<|aC<|zt<|zg [none] [] [.adr 39 5 .none True,.v 40 _,.v 4 _] [.o 2] U (oc (ob_a G G cL) (zv G (aa (xs:=[.tmp 39]) (oG famN _) (.cons (g8 0 G zk (lz0 0 G) ⟨by rw [fR (Nat.le_refl _)],Nat.le_refl _,by unfold maxLen; omega,ws⟩ (by rw [fR (Nat.le_refl _)])) .nil)) (zA 1 G o0))) (zz [(4,_)] [⟨5,109,slH _ _,_⟩] fun a w U=>?_)
  refine a7<|wp_ret<|aB ?_ (am G U (zm 0 G))
  rw [lX hl hml hv]
def rsig (neg:Bool)(l:List Nat):RI:=⟨neg && !(trimL l).isEmpty,trimL l⟩
theorem eN {M:List Nat→As}{neg:Bool}{l:List Nat}(h:(((trimL l).length:Int)==0)=true):(cat (setAll [BoA false,M []] [])).va=(cat [BoA (rsig neg l).neg,M (rsig neg l).mag]).va:=by
 have:trimL l=[]:=by simpa using h
 unfold rsig
 rw [this]; simp; rfl
theorem fU {M:List Nat→As}{neg:Bool}{l:List Nat}(h:(((trimL l).length:Int)==0)=false):(cat (setAll [BoA false,M []] [(0,BoA neg),(1,M (trimL l))])).va=(cat [BoA (rsig neg l).neg,M (rsig neg l).mag]).va:=by
 have:(trimL l).isEmpty=false:=by cases hh:trimL l <;> simp_all
 unfold rsig
 rw [this]; simp; rfl
theorem fV (neg:Bool)(l:List Nat):Cn Tryz.prog 175 [Bo neg,(MgA l).va] ((RIA (rsig neg l)).va):=by
 refine Cn.intro Tryz.func175 G zk nq (fun B w0 a U=>?_)
 have U:=zn [(0,Bo neg),(1,(MgA l).va)] [] U
 refine wp_seq<|zg [] [⟨4,25,ptrH,some 0,_,none⟩] [.alc 0] [.g 0,.g 1] U (oc (aJ G G G (Str.zero (co famA))) o0) (zz [(0,_),(1,_)] [O 4 25 _] fun a w U=>?_)
 refine zt<|wp_seq<|zg [none] [] [.v 5 _,.v 6 _,.v 1 _] [.g 0,.o 2] U (zM 1 G (zv G (aa (xs:=[.tmp 5]) (oG famA _) (.cons (vq 0 G) .nil)) (zA 1 G o0))) (zz [(0,_),(1,_)] [O 4 25 _] fun a w U=>?_)
 refine zt<|zg [none] [] [.v 7 _,.v 8 _,.v 9 _] [.g 0,.g 1,.o 2] U (zM 1 G (zv G (aI Tryz.underlying23 (vq 0 G)) (zv G (bD (vq 1 G) a8) o0))) (zz [(0,_),(1,_),(9,_)] [O 4 25 _] fun a w U=>?_)
 refine a7<|ah U (zm 2 G) (fun hb0=>?_) (fun hb0=>?_)
 ·refine wp_seq<|zg [some (1,_)] [] [.v 10 _,.sto 0] [.g 0,.g 1] U (zv G (bi (xs:=[]) (qs:=[]) (co famA) .nil) (oc (aA G G G (vq 0 G) al (Eq.trans (b:=2) G G)) o0)) (zz [(0,_),(1,_)] [O 4 25 _] fun a w U=>?_)
  refine a7<|wp_ret<|ap ?_
  refine aB ?_ (az G U (zm 0 G) al)
  exact eN (M:=MgA) hb0
 ·refine wp_skip<|zt<|zg [some (3,_)] [] [.v 11 _,.v 12 _,.v 13 _,.sto 0] [] U (zM 0 G (zM 1 G (zv G (bi (xs:=[(0,.tmp 11),(1,.tmp 12)]) (qs:=[(0,_),(1,_)]) (co famA) (.cons ⟨rfl,(vq 0 G),rfl⟩ (.cons ⟨rfl,(vq 1 G),rfl⟩ .nil))) (oc (aA G G G (vq 2 G) al (Eq.trans (b:=2) G G)) o0)))) (zz [] [O 4 25 _] fun a w U=>?_)
  refine a7<|wp_ret<|aB ?_ (az G U (zm 0 G) al)
  exact fU (M:=MgA) hb0
theorem cS (neg:Bool)(l:List Nat):Cn Tryz.prog 175 [Bo neg,(MgN l).va] ((RIN (rsig neg l)).va):=by
 refine Cn.intro Tryz.func175 G zk nq (fun B w0 a U=>?_)
 have U:=zn [(0,Bo neg),(1,(MgN l).va)] [] U
 refine wp_seq<|zg [] [⟨4,25,ptrH,some 0,_,none⟩] [.alc 0] [.g 0,.g 1] U (oc (aJ G G G (Str.zero (co famN))) o0) (zz [(0,_),(1,_)] [O 4 25 _] fun a w U=>?_)
 refine zt<|wp_seq<|zg [none] [] [.v 5 _,.v 6 _,.v 1 _] [.g 0,.o 2] U (zM 1 G (zv G (aa (xs:=[.tmp 5]) (oG famN _) (.cons (vq 0 G) .nil)) (zA 1 G o0))) (zz [(0,_),(1,_)] [O 4 25 _] fun a w U=>?_)
 refine zt<|zg [none] [] [.v 7 _,.v 8 _,.v 9 _] [.g 0,.g 1,.o 2] U (zM 1 G (zv G (aI Tryz.underlying23 (nZ (vq 0 G))) (zv G (bD (vq 1 G) a8) o0))) (zz [(0,_),(1,_),(9,_)] [O 4 25 _] fun a w U=>?_)
 refine a7<|ah U (zm 2 G) (fun hb0=>?_) (fun hb0=>?_)
 ·refine wp_seq<|zg [some (1,_)] [] [.v 10 _,.sto 0] [.g 0,.g 1] U (zv G (bi (xs:=[]) (qs:=[]) (co famN) .nil) (oc (aA G G G (vq 0 G) al (Eq.trans (b:=2) G G)) o0)) (zz [(0,_),(1,_)] [O 4 25 _] fun a w U=>?_)
  refine a7<|wp_ret<|ap ?_
  refine aB ?_ (az G U (zm 0 G) al)
  exact eN (M:=MgN) hb0
 ·refine wp_skip<|zt<|zg [some (3,_)] [] [.v 11 _,.v 12 _,.v 13 _,.sto 0] [] U (zM 0 G (zM 1 G (zv G (bi (xs:=[(0,.tmp 11),(1,.tmp 12)]) (qs:=[(0,_),(1,_)]) (co famN) (.cons ⟨rfl,(vq 0 G),rfl⟩ (.cons ⟨rfl,(vq 1 G),rfl⟩ .nil))) (oc (aA G G G (vq 2 G) al (Eq.trans (b:=2) G G)) o0)))) (zz [] [O 4 25 _] fun a w U=>?_)
  refine a7<|wp_ret<|aB ?_ (az G U (zm 0 G) al)
  exact fU (M:=MgN) hb0
theorem mgz_n {l:List Nat}(h:0<l.length):(MgN l).n=(MgZ l).n∧(MgN l).ag=(MgZ l).ag∧∀ B cs w,(MgZ l).p B cs w→(MgN l).p B cs w:=⟨rfl,rfl,fun B cs w ⟨ok,A,c,e,h1,h2,h3⟩=>by
 obtain ⟨g,ext,rfl,rfl,h4,h5⟩:=h3 h
 exact ⟨ok,.inr ⟨g,ext,e,h2,h4,h5⟩⟩⟩
theorem rQ {neg:Bool}{l:List Nat}(h:(((trimL l).length:Int)==0)=false):Wk (cat (setAll [BoA false,MgN []] [(0,BoA neg),(1,MgZ (trimL l))])).va (RIN (rsig neg l)).va:=by
 have h1:(trimL l).isEmpty=false:=by cases hh:trimL l <;> simp_all
 have h2:0<(trimL l).length:=by cases hh:trimL l <;> simp_all
 have e:RIN (rsig neg l)=cat [BoA neg,MgN (trimL l)]:=by unfold rsig RIN; rw [h1]; simp
 rw [e]
 exact fun B v w ⟨cs,⟨ps,hp,hq⟩,hv⟩=>by
  cases hq with
  | cons q1 hq=>cases hq with
   | cons q2 hq=>exact ⟨cs,⟨_,hp,.cons q1 (.cons ((mgz_n h2).2.2 _ _ _ q2) hq)⟩,hv⟩
theorem rR (neg:Bool)(l:List Nat):Cn Tryz.prog 175 [Bo neg,(MgZ l).va] ((RIN (rsig neg l)).va):=by
 refine Cn.intro Tryz.func175 G zk nq (fun B w0 a U=>?_)
 have U:=zn [(0,Bo neg),(1,(MgZ l).va)] [] U
 refine wp_seq<|zg [] [⟨4,25,ptrH,some 0,_,none⟩] [.alc 0] [.g 0,.g 1] U (oc (aJ G G G (Str.zero (co famN))) o0) (zz [(0,_),(1,_)] [O 4 25 _] fun a w U=>?_)
 refine zt<|wp_seq<|zg [none] [] [.v 5 _,.v 6 _,.v 1 _] [.g 0,.o 2] U (zM 1 G (zv G (aa (xs:=[.tmp 5]) (oG famZ _) (.cons (vq 0 G) .nil)) (zA 1 G o0))) (zz [(0,_),(1,_)] [O 4 25 _] fun a w U=>?_)
 refine zt<|zg [none] [] [.v 7 _,.v 8 _,.v 9 _] [.g 0,.g 1,.o 2] U (zM 1 G (zv G (aI Tryz.underlying23 (wP (vq 0 G))) (zv G (bD (vq 1 G) a8) o0))) (zz [(0,_),(1,_),(9,_)] [O 4 25 _] fun a w U=>?_)
 refine a7<|ah U (zm 2 G) (fun hb0=>?_) (fun hb0=>?_)
 ·refine wp_seq<|zg [some (1,_)] [] [.v 10 _,.sto 0] [.g 0,.g 1] U (zv G (bi (xs:=[]) (qs:=[]) (co famN) .nil) (oc (aA G G G (vq 0 G) al (Eq.trans (b:=2) G G)) o0)) (zz [(0,_),(1,_)] [O 4 25 _] fun a w U=>?_)
  refine a7<|wp_ret<|ap ?_
  refine ar ?_ (az G U (zm 0 G) al)
  exact fun _ _ _ h=>(eN (M:=MgN) hb0)▸h
 ·refine wp_skip<|zt<|zg [some (3,_)] [] [.v 11 _,.v 12 _,.v 13 _,.sto 0] [] U (zM 0 G (zM 1 G (zv G (bi (xs:=[(0,.tmp 11),(1,.tmp 12)]) (qs:=[(0,_),(1,_)]) (co famN) (.cons ⟨rfl,(vq 0 G),rfl⟩ (.cons ⟨rfl,(vq 1 G),rfl⟩ .nil))) (oc (aA G G G (vq 2 G) al (Eq.trans (b:=2) G G)) o0)))) (zz [] [O 4 25 _] fun a w U=>?_)
  refine a7<|wp_ret<|ar ?_ (az G U (zm 0 G) al)
  exact rQ hb0
set_option maxHeartbeats 2000000 in
theorem rg (b off n c:Nat)(zs:List Nat)(w:World)(hn:n=zs.length)(h0:0<n)(hbig:n*4≤140737488355328)(hc:∀ j (h:j<zs.length),w.cell? ⟨b,off+j,none⟩=some (.int .u32 (zs[j]:Nat))) :
  Calls Tryz.prog 205 #[.slice (some ⟨b,off,none⟩) n c] w fun e w'=>∃ g c ext,e=.returned (.slice (some ⟨g,0,none⟩) n c)∧w.heap.size≤g∧n≤c∧c≤maxLen∧w'.heap[g]?=some (.cells ((zs++ext).map fun (x:Nat)=>Value.int .u32 x).toArray U32 (0,0))∧Grow w w'∧c=(zs++ext).length:=by
 have t22:Tryz.prog.underlying 23=some (.slice U32):=by kernel_rfl
 obtain ⟨i0,hi,hz0,hz1,hz2⟩:=oD
 have q22:∀ (w:World) (a:Option Addr) (n c n' c':Nat),(binOp .eql 23 (.slice a n c) (.slice none n' c')).run Tryz.prog w=.ok (.bool a.isNone) w:=fun w a n c n' c'=>Lib.run_eql_slice_nil w _ _ a n c n' c' t22
 have u22:∀ w,Sem.run Tryz.prog (underlying 23) w=.ok (TypeDesc.slice U32) w:=run_underlying t22
 have A:Aside (∀ j (h:j<zs.length),w.cell? ⟨b,off+j,none⟩=some (.int .u32 (zs[j]:Nat))):=hc
 have HN:Aside (n=zs.length):=hn
 clear hc hn
 go_enter Tryz.func205,Tryz.ntmps205
 go_wp2_with (at_builtin; refine gy rfl _ _ 23 rfl U32 i0 (.int .u32 0) t22 hi hz0 hz1 hz2 _ rfl ⟨b,off,none⟩ n c (zs.map fun (x:Nat)=>Value.int .u32 x) rfl ?qc1 ?qc2 h0 hbig ?_)
 case qc1=>simp; exact HN.out.symm
 case qc2 =>
  intro j u hj
  have hjn:j<zs.length:=by
   have:=(List.getElem?_eq_some_iff.1 hj).1
   simpa using this
  rw [Addr.add_lit]
  refine Lib.cell?_alloc_some _ ?_
  rw [A.out j hjn]
  simpa [hjn] using hj
 go_wp2
 go_ret
 refine ⟨_,_,List.replicate (grownCap (w.alloc (.cells #[] U32)) n 0 U32-n) 0,rfl,by omega,grownCap_ge _ _ _ _,grownCap_le_maxLen _ _ _ _ (by unfold maxLen; omega),?_,?_,?_⟩
 ·have e:(w.alloc (.cells #[] U32)).heap.size=w.heap.size+1:=by simp
  rw [← e,qi,List.map_append,← List.append_toArray]
  exact heap_alloc_new _ _
 ·exact ((Grow.alloc w _).trans (Grow.alloc _ _)).trans (Grow.drew _)
 ·have:=grownCap_ge (w.alloc (.cells #[] U32)) n 0 U32
  have hnz:=HN.out
  rw [List.length_append,List.length_replicate]
  omega
theorem uO (c:Nat)(w:World):Calls Tryz.prog 205 #[.slice none 0 c] w fun e w'=>e=.returned (.slice none 0 0)∧w=w':=by
 have t22:Tryz.prog.underlying 23=some (.slice U32):=by kernel_rfl
 have q22:∀ (w:World) (a:Option Addr) (n c n' c':Nat),(binOp .eql 23 (.slice a n c) (.slice none n' c')).run Tryz.prog w=.ok (.bool a.isNone) w:=fun w a n c n' c'=>Lib.run_eql_slice_nil w _ _ a n c n' c' t22
 go_enter Tryz.func205,Tryz.ntmps205
 go_wp2
 go_ret
 exact ⟨rfl,rfl⟩
theorem rf (ad:Addr)(c:Nat)(w:World):Calls Tryz.prog 205 #[.slice (some ad) 0 c] w fun e w'=>∃ A c,e=.returned (.slice A 0 c)∧c≤maxLen∧Below w.heap.size w w':=by
 have t22:Tryz.prog.underlying 23=some (.slice U32):=by kernel_rfl
 obtain ⟨i0,hi,hz0,hz1,hz2⟩:=oD
 have q22:∀ (w:World) (a:Option Addr) (n c n' c':Nat),(binOp .eql 23 (.slice a n c) (.slice none n' c')).run Tryz.prog w=.ok (.bool a.isNone) w:=fun w a n c n' c'=>Lib.run_eql_slice_nil w _ _ a n c n' c' t22
 have u22:∀ w,Sem.run Tryz.prog (underlying 23) w=.ok (TypeDesc.slice U32) w:=run_underlying t22
 go_enter Tryz.func205,Tryz.ntmps205
 go_wp2_with (at_builtin; refine wpList_append_own _ rfl _ _ 23 rfl w.heap.size U32 i0 (.int .u32 0) 1 4 t22 hi hz0 hz1 hz2 rfl zd _ _ _ rfl (World.ownsRow_made w #[] 0 (Nat.le_refl _) (Nat.zero_le _) rfl) ad 0 c [] rfl rfl ?qc2 ?qc3 ?qc4 ?qc5 ?qc6 ?_)
 case qc2=>intro j u hj; simp at hj
 case qc3=>intro u hu; cases hu
 case qc4=>unfold maxLen; omega
 case qc5=>omega
 case qc6=>simp
 intro v' w1 hown hgrow hnil
 go_wp2
 go_ret
 have hb:=((Below.refl _ w).alloc (Nat.le_refl _) _).grown hgrow (by simp) (by intro k hk; simp [Value.ownBlock] at hk; omega)
 rcases hown.2 with ⟨rfl,_⟩ | ⟨g,cap,cur,rfl,_,_,_,h4,_⟩
 ·exact ⟨none,0,rfl,Nat.zero_le _,hb⟩
 ·exact ⟨_,cap,rfl,h4,hb⟩
theorem uP (l:List Nat)(hls:l.length≤1099511627776):Cn Tryz.prog 205 [(MgA l).va] (MgZ l).va:=by
 refine ⟨jn Tryz.func205 zk zk,fun B w args hB ha=>?_⟩
 obtain ⟨v,rfl,hv⟩:=ha.one
 obtain ⟨A,c,rfl,hm⟩:=fL hv
 by_cases h0:l.length=0
 ·have hl:l=[]:=List.eq_nil_of_length_eq_zero h0
  subst hl
  cases A with
  | none =>
   refine (uO c w).mono fun e w' ⟨he,hw⟩=>?_
   subst hw
   exact ⟨_,he,⟨_,famZ.nil B w,rfl⟩,Grow.refl w⟩
  | some ad=>exact (rf ad c w).mono fun e w' ⟨A,c,he,hm,hb⟩=>⟨_,he,⟨_,⟨cU,A,c,rfl,Nat.zero_le _,hm,fun h=>by simp at h⟩,rfl⟩,hb⟩
 ·obtain ⟨b,o,rfl,h1,h2,h3⟩:=hm.at_ zo
  exact (rg b o l.length c l w G zo zo h3).mono fun e w' ⟨g,c,ext,he,h4,h5,h6,h7,hb,hcx⟩=>⟨_,he,⟨_,⟨hm.ok,_,c,rfl,h5,h6,fun _=>⟨g,ext,rfl,hcx,Nat.le_trans hB h4,h7⟩⟩,rfl⟩,hb⟩
theorem AX (neg:Bool)(l:List Nat)(hls:l.length≤1099511627776):Cn Tryz.prog 204 [Bo neg,(MgA l).va] ((RIN (rsig neg l)).va):=by
 refine Cn.intro Tryz.func204 G zk nq (fun B w0 a U=>?_)
 have U:=zn [(0,Bo neg),(1,(MgA l).va)] [] U
 refine wp_seq<|zg [] [⟨4,25,ptrH,some 0,_,none⟩] [.alc 0] [.g 0,.g 1] U (oc (aJ G G G (Str.zero (co famN))) o0) (zz [(0,_),(1,_)] [O 4 25 _] fun a w U=>?_)
 refine zt<|zg [some (4,_)] [] [.v 5 _,.v 6 _,.v 7 _,.v 8 _,.sto 0] [] U (zM 0 G (zM 1 G (zv G (aa (xs:=[.tmp 6]) (uP _ hls) (.cons (vq 1 G) .nil)) (zv G (aa (xs:=[.tmp 5,.tmp 7]) (rR _ _) (.cons (vq 0 G) (.cons (vq 2 G) .nil))) (oc (aA G G G (vq 3 G) al (Eq.trans (b:=2) G G)) o0))))) (zz [] [O 4 25 _] fun a w U=>?_)
 exact a7<|wp_ret<|az G U (zm 0 G) al
end Go.Proofs.YtmacliockgbdcaaGreatDoor
