import Derived.Test.YtedfcalhhldijaaGreatDoorRwAs
set_option linter.all false
set_option maxRecDepth 100000
namespace Go.Proofs.YtedfcalhhldijaaGreatDoor
open Go Go.RowKit
variable {w:World}{B:Nat}{a:Act}{v:Value}{T:TypeId}{w0:Bs}{Γ:List (Nat × VA)}{Λ:List Lc}{ps:String}{af:Array Edge}{vr:Value}{H:Hd}{cs:List Value}{w':World}{P:Program}{D:List TypeId}
theorem rg {E:TypeId}{l:List As}(h:∀ A∈l,UpA A A):UpA (SlA E D l) (SlA E D l):=⟨(fC h).1,(fC h).2.1,λ B cs w hB hp=>by
 have h2:=(fC h).2.2 B cs w hB hp
 exact (slo_A (E:=E) (D:=D)).2.2 _ _ _ h2⟩
theorem pk_r (t:RTk)(xs:List Int):(decide (((xs.length:Nat):Int)>sloF t) || (!!xs.any (pkQ t))) = !pkF t xs:=by
 unfold pkF
 by_cases h:((xs.length:Nat):Int)≤sloF t
 ·rw [qC h,zb zo]; simp
 ·rw [zb h,qC zo]; rfl
theorem oN (t:RTk):UpA (TkA t) (TkA t):=gg (.cons (rg λ A hA=>by obtain ⟨x,_,rfl⟩:=qq.1 hA; exact fE x) (.cons (rg λ A hA=>by obtain ⟨x,_,rfl⟩:=qq.1 hA; exact u5 x) (.cons (fE _) .nil)))
theorem C4 {p nn:Nat}{u:List Nat}(hp:0<p)(hu:u.length≤nn):u++List.replicate (nn-u.length) 0=exW p u nn 0 0:=by
 rw [ex_0 hp,z9,qD hu,x5]
theorem FG {p nn k:Nat}{u:List Nat}(hp:0<p)(hk:k<cntW p u.length nn 0):nxW p u.length 0 (exW p u nn 0 k)=if k+1<cntW p u.length nn 0 then (true,exW p u nn 0 (k+1)) else (false,exW p u nn 0 0):=wj hp nn 0 k hk
theorem nx_y {p nn k:Nat}{u:List Nat}(hp:0<p)(hk:k<cntW p u.length nn 0)(h:(nxW p u.length 0 (exW p u nn 0 k)).1=true):k+1<cntW p u.length nn 0:=by
 rw [FG hp hk] at h
 by_cases h1:k+1<cntW p u.length nn 0
 ·exact h1
 ·rw [qw h1] at h; cases h
theorem nx_l {p nn k:Nat}{u:List Nat}(hp:0<p)(hk:k<cntW p u.length nn 0)(h:k+1<cntW p u.length nn 0):(nxW p u.length 0 (exW p u nn 0 k)).2=exW p u nn 0 (k+1):=by rw [FG hp hk,qz h]
theorem nx_z {p nn k:Nat}{u:List Nat}(hp:0<p)(hk:k<cntW p u.length nn 0)(h:(nxW p u.length 0 (exW p u nn 0 k)).1=false):k+1=cntW p u.length nn 0:=by
 rw [FG hp hk] at h
 by_cases h1:k+1<cntW p u.length nn 0
 ·rw [qz h1] at h; cases h
 ·omega
theorem vG {p d n:Nat}{l:List Nat}{zp zd:Int}(hn:l.length=n)(e1:zp=(p:Int))(e2:zd=(d:Int))(hp:p≤64)(hlp:∀ x∈l,x<p)(hn1:n≤1000)(hd:d≤1000):Cm Tryz.prog 33 3 (Nums .i64 l) (Nums .i64 (nxW p d 0 l).2) [.w (slH n n),.v (In zp),.v (In zd)] (Bo (nxW p d 0 l).1):=by
 subst hn e1 e2
 exact vH p d l hp hlp hn1 hd
theorem lo_1 (f:Nat→Rat):loW f 1=f 0:=qz rfl
theorem hi_1 (f:Nat→Rat):hiW f 1=f 0:=qz rfl
theorem sn_0 (k:Nat):(((k+1:Nat):Int)==0)=false:=by simp; omega
theorem lo_y {f:Nat→Rat}{k:Nat}(h:decide (cmQ (f (k+1)) (loW f (k+1))<0)=true):f (k+1)=loW f (k+2):=(qz (by rw [h,j8])).symm
theorem lo_n {f:Nat→Rat}{k:Nat}(h:decide (cmQ (f (k+1)) (loW f (k+1))<0)=false):loW f (k+1)=loW f (k+2):=(qw (by rw [h,sn_0]; decide)).symm
theorem hi_y {f:Nat→Rat}{k:Nat}(h:decide (cmQ (f (k+1)) (hiW f (k+1))>0)=true):f (k+1)=hiW f (k+2):=(qz (by rw [h,j8])).symm
theorem hi_n {f:Nat→Rat}{k:Nat}(h:decide (cmQ (f (k+1)) (hiW f (k+1))>0)=false):hiW f (k+1)=hiW f (k+2):=(qw (by rw [h,sn_0]; decide)).symm
abbrev TkE (c0 c1:Value)(c2:List Value):As:=cat [EqA c0,EqA c1,EqC 4 c2]
theorem sR {c0 c1:Value}{c2:List Value}:Wk (TkE c0 c1 c2).va (EqV (shape true (c0::c1::c2))):=λ B v w ⟨cs,⟨ps,e,hq⟩,h2⟩=>by
 cases hq with
 | cons h0 hq=>cases hq with
  | cons h1 hq=>cases hq with
   | cons h3 hq =>
    cases hq
    obtain ⟨rfl,_⟩:=h0
    obtain ⟨rfl,_⟩:=h1
    obtain ⟨rfl,_⟩:=h3
    subst e
    simp only [zN,vn,zj,xu,jf,xb] at h2
    exact h2
theorem Ai {t:RTk}(h:(TkA t).va.p B v w):∃ (c0 c1:Value) (c2:List Value),v=shape true (c0::c1::c2)∧(SlA 100 [U32] (t.ps.map PtA)).va.p B c1 w∧Wk (EqV (shape true (c0::c1::c2))) (TkE c0 c1 c2).va:=by
 obtain ⟨cs,⟨ps,rfl,hq⟩,rfl⟩:=h
 cases hq with
 | @cons _ a0 _ _ h0 hq=>cases hq with
  | @cons _ a1 _ _ h1 hq=>cases hq with
   | @cons _ a2 _ _ h2 hq =>
    cases hq
    have l0:=(SlA _ _ _).len _ _ _ h0
    have l1:=(SlA _ _ _).len _ _ _ h1
    have o0:=(SlA _ _ _).one _ _ _ h0
    have o1:=(SlA _ _ _).one _ _ _ h1
    match a0,a1,l0,l1,h0,h1,o0,o1 with
    | [c0],[c1],_,_,h0,h1,o0,o1 =>
     refine ⟨c0,c1,a2,qm (shape true) (show ([[c0],[c1],a2]:List (List Value)).flatten=_ from by simp),⟨[c1],h1,rfl⟩,λ B' v' w' h=>⟨c0::c1::a2,⟨[[c0],[c1],a2],by simp,.cons ⟨rfl,o0 c0 (by simp)⟩ (.cons ⟨rfl,o1 c1 (by simp)⟩ (.cons ⟨rfl,(RFA t.tg).len _ _ _ h2,(RFA t.tg).one _ _ _ h2⟩ .nil))⟩,h⟩⟩
section
open Rg
variable {P:Program} {Q:Exit→Act→World→Prop} {R:Rg} {B i:Nat} {w0:Bs}
theorem uV {x:Operand}{T k f:Nat}{A A':As}{fs:Array Field}{fd:Field}(hx:Has R B w0 i x A.va)(hA:A.ag=true)(hA':A'.ag=true)(hS:P.underlying T=some (.struct fs))(hfd:fs[f]?=some fd)(hk:fd.offset=k)(ht:Ty P fd.type A'.n A'.ag)(hs:Sub A k A') :
  Wv P Q R B w0 i (.field T x f) A'.va :=
 bj λ d T' ps af gd a w av=>by
  obtain ⟨cs,h1,hv⟩:=hx a w av
  obtain ⟨p1,l1⟩:=hs _ _ _ h1
  have hv':a.eval x=.agg cs.toArray:=by rw [hv]; unfold shape; rw [hA]; rfl
  have ha:(isAgg fd.type).run P w=.ok true w:=by
   have:=ht.2
   rw [hA'] at this
   cases hu:P.underlying fd.type with
   | none=>rw [hu] at this; simp at this
   | some u =>
    rw [hu] at this
    unfold isAgg
    simp only [Sem.run_bind,run_underlying hu,Result.andThen_ok]
    cases u <;> simp_all
  have hz:(sizeOf fd.type).run P w=.ok A'.n w:=by
   have:=ht.1
   cases hi:P.info? fd.type with
   | none=>rw [hi] at this; simp at this
   | some it=>rw [hi] at this; simp [sizeOf,typeInfo,hi]; simpa using this
  refine ⟨.agg (cs.toArray.extract k (k+A'.n)),w,?_,Grow.refl w,_,p1,?_⟩
  ·simp [execOp,hv',Instr.field,run_underlying hS,hfd,asAgg,part,ha,hz,hk]
  ·unfold shape
   rw [hA',qz rfl]
   congr 1
   apply Array.ext'
   simp
end
set_option maxHeartbeats 2000000 in
theorem vE (t:RTk)(xs:List Int):Cn Tryz.prog 9 [(TkA t).va,(SlA 3 [] (xs.map InA)).va] (Tu [In (rowF t xs).1,(G2A (rowF t xs).2.1).va,In (rowF t xs).2.2]):=by
 refine Cn.introF Tryz.func9 G zk nq (λ B w0 a hF U=>?_)
 have U:=zn [(0,(TkA t).va),(1,(SlA 3 [] (xs.map InA)).va)] [] U
 obtain ⟨v0,hv0,U⟩:=St.eqv U 0 rfl
 obtain ⟨v1,hv1,U⟩:=St.eqv U 1 rfl
 have hv:=hv0
 obtain ⟨c0,c1,c2,ev0,hv2,htk⟩:=Ai hv0
 subst ev0
 have U:=St.wkG U 0 rfl htk
 refine qb<|zg [] [⟨2,30,ptrH,some 0,_,none⟩,⟨5,37,ptrH,some 2,_,none⟩] [.alc 0,.v 4 _,.alc 1,.v 6 _] [.g 1,.o 1,.o 3] U (zW 0 G (zv G (ac ab) (zY G (Str.zero gQ) (zv G (ac ab) o0)))) (zz [(1,_),(4,_),(6,_)] [O 2 30 _,O 5 37 _] λ a w U=>?_)
 refine zt<|zg [η,η] [] [.v 13 _,.v 14 _,.v 7 _] [.g 0,.g 1,.g 2,.o 2] U (zv G ((df (lz0 0 G) cN).wk sR) (zQ G (t7 t) (.o (aT hF hv (vq 0 G))) (zA 1 G o0))) (zz [(1,_),(4,_),(6,_),(7,_)] [O 2 30 _,O 5 37 _] λ a w U=>?_)
 refine zt<|qb<|zg [η,η] [] [.v 15 _,.v 16 _] [.g 0,.g 1,.g 2,.g 3,.o 1] U (zM 3 G (zv G (bX (vq 0 G) ab) o0)) (zz [(1,_),(4,_),(6,_),(7,_),(16,_)] [O 2 30 _,O 5 37 _] λ a w U=>?_)
 refine aa<|aj U (zm 4 G) (λ hb0=>?_) (λ hb0=>?_)
 ·refine qb<|zg [η,some (3,_)] [] [.v 17 _,.v 18 _,.v 4 _,.sto 1,.v 6 _] [.g 0,.o 2,.o 4] U (zv G (aU (qs:=[]) gQ .nil) (zM 3 G (zv G (ac ab) (zS 0 G dx (zA 1 G o0))))) (zz [(1,_),(4,_),(6,_)] [O 2 30 _,O 5 37 _] λ a w U=>?_)
  refine aa<|qg<|al ?_
  refine ao ?_ (bf (rs:=[.tmp 4,.cell 5 37,.tmp 6]) G U (.tmp (zm 1 G) (.cell (zm 1 G) dx (.tmp (zm 2 G) .nil))) zd)
  rw [show rowF t xs=(0,(rf0,rf0),ckF t) from qz hb0]; exact tu3w aL aL aL
 ·have hck:ckF t=0:=by simpa using hb0
  obtain ⟨hs2,hs13,hp1,hp64,htg⟩:=hd_b (fv hck).1
  obtain ⟨nn,hnn⟩:∃ nn,t.sp.length=nn+1:=⟨t.sp.length-1,by omega⟩
  have hn12:nn≤12:=by omega
  have hpp:0<t.ps.length:=by omega
  have hsl:sloF t=(nn:Int):=by rw [At hs2 hs13,hnn]; rfl
  refine qh<|zt<|qb<|zg [η,η] [] [.v 19 _,.v 20 _,.v 21 _,.v 22 _,.v 23 _,.v 24 _,.f 25 _,.f 26 _,.f 27 _,.f 28 _,.v 29 _] [.g 0,.g 1,.g 2,.o 10] U (zM 0 G (zv G (bg Tryz.underlying31 (aT hF hv1 (vq 0 G))) (zv G ((df (lz0 0 G) cN).wk sR) (zQ G (gF t) (.o (aT hF hv (vq 2 G))) (zv G (ci (vq 1 G) (vq 3 G)) (zv G (ai (vq 4 G)) (zB 5 G (λ hg=>(df (lz0 0 G) cN).wk sR) (zB 5 G (λ hg=>ai (gq 0 G)) (zB 5 G (λ hg=>be (t5 t xs) (.p (aT hF hv (ak (vq 6 G) hg)) (aT hF hv1 (ak (vq 7 G) hg)))) (zB 5 G (λ hg=>dY (ak (vq 8 G) hg)) (zv G (r_or (vq 5 G) (vq 9 G)) o0))))))))))) (zz [(1,_),(4,_),(6,_),(29,_)] [O 2 30 _,O 5 37 _] λ a w U=>?_)
  refine aa<|aj U (zm 3 G) (λ hb1=>?_) (λ hb1=>?_)
  ·have hpk:(!pkF t xs)=true:=by rw [← pk_r]; rw [qc] at hb1; exact hb1
   refine qb<|zg [η,some (2,_)] [] [.v 30 _,.v 4 _,.sto 1,.v 6 _] [.g 0,.o 1,.o 3] U (zv G (aU (qs:=[]) gQ .nil) (zv G (ac ab) (zS 0 G dx (zv G (ac ab) o0)))) (zz [(1,_),(4,_),(6,_)] [O 2 30 _,O 5 37 _] λ a w U=>?_)
   refine aa<|qg<|al ?_
   refine ao ?_ (bf (rs:=[.tmp 4,.cell 5 37,.tmp 6]) G U (.tmp (zm 1 G) (.cell (zm 1 G) dx (.tmp (zm 2 G) .nil))) zd)
   have e:rowF t xs=(0,(rf0,rf0),1):=by rw [rowF,qw (by rw [hb0]; decide),qz hpk]
   rw [e]; exact tu3w aL aL aL
  ·have hpk:(!pkF t xs)=false:=by rw [← pk_r]; rw [qc] at hb1; exact hb1
   obtain ⟨hxe,hul,hup⟩:=Dj (by simpa using hpk) hnn hn12
   have hlx:(xs.length:Int)=((natL xs).length:Int):=by rw [natL,qc]
   have hrM:rowM t xs=cntW t.ps.length (natL xs).length nn 0:=by unfold rowM; rw [hnn]; rfl
   have hrP:rowP t xs=pwK t (natL xs) nn:=by unfold rowP; rw [hnn]; rfl
   obtain ⟨u,hu1⟩:∃ l,natL xs=l:=⟨_,rfl⟩
   rw [hu1] at hxe hul hup hrM hrP hlx
   have hcm:=DS (a:=u.length) hck hnn
   have hc0:0<cntW t.ps.length u.length nn 0:=dk hpp _ _
   refine qh<|zt<|zg [η,η] [] [.v 31 _,.v 32 _,.v 33 _,.v 8 _] [.g 0,.g 1,.g 2,.o 3] U (zv rfl ((df (lz0 0 rfl) cN).wk sR) (zM 0 rfl (zv rfl (AY (t6 hsl hn12 hul) tv (.cons (oN t).va (.cons (rg λ A hA=>by obtain ⟨x,_,rfl⟩:=qq.1 hA; exact fD _ _).va .nil)) (.p (aT hF hv (vq 0 rfl)) (has_wk' (aT hF hv1 (vq 1 rfl)) (aZ (qm As.va (EH hxe)))))) (zA 2 rfl o0)))) (zz [(1,_),(4,_),(6,_),(8,_)] [O 2 30 _,O 5 37 _] λ a w U=>?_)
   rw [C4 hpp hul] at U
   have U:=St.toLoc U 3 rfl zk
   rw [qc,dM] at U
   have U:=St.wkL U 2 rfl oE
   have U:=zn [(1,_),(4,_),(6,_)] [O 2 30 _,O 5 37 _,⟨8,3,slH nn nn,_⟩] U
   refine zt<|zg [η,η,η] [] [.v 9 _] [.g 0,.g 1,.g 2,.o 0] U (zv G (ac ab) o0) (zz [(1,_),(4,_),(6,_),(9,_)] [O 2 30 _,O 5 37 _,⟨8,3,slH nn nn,_⟩] λ a w U=>?_)
   refine zt<|zg [η,η,η] [⟨10,28,ptrH,some 4,_,some (5,_)⟩] [.v 34 _,.adr 35 8 .none True,.v 36 _,.v 37 _,.alc 3,.sto 3] [.g 0,.g 1,.g 2,.g 3] U (zv G ((df (lz0 0 G) cN).wk sR) (oc (ob_a G G cb) (zQ G (rF hck (by rw [dM]; omega) (ot hpp hup nn 0 _ hc0)) (.p (aT hF hv (vq 0 G)) (rX 1 G zk (lz0 2 G) ⟨(dM _ _ _ _ _).symm,rfl,by omega⟩)) (zv G (uV (vq 2 G) G G Tryz.underlying81 G G ⟨zk,zk⟩ (Sub.part 1 G G)) (zY G (Str.zero aP) (zS 3 G ax o0)))))) (zz [(1,_),(4,_),(6,_),(9,_)] [O 2 30 _,O 5 37 _,⟨8,3,slH nn nn,_⟩,O 10 28 _] λ a w U=>?_)
   have U:=St.wkL (A':=QA 110000 (pwK t u nn 0)) U 3 rfl (dc rfl)
   have U:=zn [(1,_),(4,_),(6,_),(9,_)] [O 2 30 _,O 5 37 _,⟨8,3,slH nn nn,_⟩,O 10 28 _] U
   refine zt<|zg [η,η,η,η] [⟨11,28,ptrH,some 1,_,some (2,_)⟩] [.v 38 _,.alc 4,.sto 4] [.g 0,.g 1,.g 2,.g 3] U (zl 3 G ax (zY G (Str.zero aP) (zS 0 G ax o0))) (zz [(1,_),(4,_),(6,_),(9,_)] [O 2 30 _,O 5 37 _,⟨8,3,slH nn nn,_⟩,O 10 28 _,O 11 28 _] λ a w U=>?_)
   have U:=St.wkL (A':=QA 110000 (loW (pwK t u nn) (0+1))) U 4 rfl (dc (qm (QA 110000) (lo_1 (pwK t u nn)).symm))
   have U:=zn [(1,_),(4,_),(6,_),(9,_)] [O 2 30 _,O 5 37 _,⟨8,3,slH nn nn,_⟩,O 10 28 _,O 11 28 _] U
   refine zt<|zg [η,η,η,η,η] [⟨12,28,ptrH,some 1,_,some (2,_)⟩] [.v 39 _,.alc 5,.sto 5] [.g 0,.g 1,.g 2,.g 3] U (zl 3 G ax (zY G (Str.zero aP) (zS 0 G ax o0))) (zz [(1,_),(4,_),(6,_),(9,_)] [O 2 30 _,O 5 37 _,⟨8,3,slH nn nn,_⟩,O 10 28 _,O 11 28 _,O 12 28 _] λ a w U=>?_)
   have U:=St.wkL (A':=QA 110000 (hiW (pwK t u nn) (0+1))) U 5 rfl (dc (qm (QA 110000) (hi_1 (pwK t u nn)).symm))
   have U:=zn [(1,_),(4,_),(6,_),(9,_)] [O 2 30 _,O 5 37 _,⟨8,3,slH nn nn,_⟩,O 10 28 _,O 11 28 _,O 12 28 _] U
   refine zt<|qj ?_
   have U:=St.sel U [0,3]
   refine wp_loop_ghost (λ n a w=>∃ k:Nat,(n+k+1=cntW t.ps.length u.length nn 0)∧St B w0 72 [(1,EqV v1),(9,In ((k+1:Nat):Int))] [⟨2,30,ptrH,TkE c0 c1 c2⟩,⟨5,37,ptrH,cat [RFA rf0,RFA rf0]⟩,⟨8,3,slH nn nn,Nums .i64 (exW t.ps.length u nn 0 k)⟩,⟨10,28,ptrH,QA 110000 (pwK t u nn k)⟩,⟨11,28,ptrH,QA 110000 (loW (pwK t u nn) (k+1))⟩,⟨12,28,ptrH,QA 110000 (hiW (pwK t u nn) (k+1))⟩] a w) (cntW t.ps.length u.length nn 0-1) ?_ ?_
   ·exact ⟨0,by omega,U⟩
   intro n a w hI
   obtain ⟨k,hn,U⟩:=hI
   have hk:k<cntW t.ps.length u.length nn 0:=by omega
   refine qb<|qb<|zg [η,η,some (6,_),η,η,η] [] [.adr 40 8 .none True,.adr 41 2 (.some 1) True,.v 42 _,.v 43 _,.v 44 _,.v 45 _,.cal 46 _ 2] [.g 0,.g 1,.o 6] U (oc (ob_a G G cb) (zO 0 G bD (zL 1 0 1 G dn (zv G (bg Tryz.underlying23 (aT hF hv2 (has_wk' (vq 2 G) tH))) (zM 0 G (zv G (bg Tryz.underlying31 (aT hF hv1 (vq 4 G))) (oc (Dp (xs:=[.tmp 40,.tmp 43,.tmp 45]) G G G (vG (p:=t.ps.length) (d:=u.length) (l:=(exW t.ps.length u nn 0 k)) (dM _ _ _ _ _) (by rw [qc]) (by rw [qc]; exact hlx) hp64 (ot hpp hup nn 0 k hk) zo zo) (.cons (arw2 0 G zk) (.p (vq 3 G) (vq 5 G)))) o0))))))) (zz [(1,_),(9,_),(46,_)] [O 2 30 _,O 5 37 _,⟨8,3,slH nn nn,_⟩,O 10 28 _,O 11 28 _,O 12 28 _] λ a w U=>?_)
   refine aa<|aj U (zm 2 G) (λ hb2=>?_) (λ hb2=>?_)
   ·have hk1:k+1<cntW t.ps.length u.length nn 0:=nx_y hpp hk hb2
    rw [nx_l hpp hk hk1] at U
    refine qh<|aa<|qj<|qb<|zg [η,η,η,η,η,η] [] [.v 47 _,.v 48 _,.v 9 _] [.g 0,.o 2] U (zM 1 G (zv G (aN (vq 0 G) ab ((wi64 zo zo).trans (by omega:(_:Int)=((k+1+1:Nat):Int)))) (zA 1 G o0))) (zz [(1,_),(9,_)] [O 2 30 _,O 5 37 _,⟨8,3,slH nn nn,_⟩,O 10 28 _,O 11 28 _,O 12 28 _] λ a w U=>?_)
    refine zt<|zg [η,η,η,some (4,_),η,η] [] [.v 49 _,.adr 50 8 .none True,.v 51 _,.v 52 _,.sto 3] [.g 0,.g 1] U (zv G ((df (lz0 0 G) cN).wk sR) (oc (ob_a G G cb) (zQ G (rF hck (by rw [dM]; omega) (ot hpp hup nn 0 _ hk1)) (.p (aT hF hv (vq 0 G)) (rX 1 G zk (lz0 2 G) ⟨(dM _ _ _ _ _).symm,rfl,by omega⟩)) (zv G (uV (vq 2 G) G G Tryz.underlying81 G G ⟨zk,zk⟩ (Sub.part 1 G G)) (zS 3 G ax o0))))) (zz [(1,_),(9,_)] [O 2 30 _,O 5 37 _,⟨8,3,slH nn nn,_⟩,O 10 28 _,O 11 28 _,O 12 28 _] λ a w U=>?_)
    have U:=St.wkL (A':=QA 110000 (pwK t u nn (k+1))) U 3 rfl (dc rfl)
    have U:=zn [(1,_),(9,_)] [O 2 30 _,O 5 37 _,⟨8,3,slH nn nn,_⟩,O 10 28 _,O 11 28 _,O 12 28 _] U
    refine zt<|qb<|zg [η,η,η,η,η,η] [] [.v 53 _,.v 54 _,.v 55 _,.v 56 _] [.g 0,.g 1,.o 3] U (zl 3 G ax (zl 4 G ax (zQ G (v5 zd) (.p (vq 0 G) (vq 1 G)) (zv G (aS (vq 2 G) ab) o0)))) (zz [(1,_),(9,_),(56,_)] [O 2 30 _,O 5 37 _,⟨8,3,slH nn nn,_⟩,O 10 28 _,O 11 28 _,O 12 28 _] λ a w U=>?_)
    refine aa<|bE (λ a w =>  St B w0 72 [(1,EqV v1),(9,In ((k+1+1:Nat):Int))] [⟨2,30,ptrH,TkE c0 c1 c2⟩,⟨5,37,ptrH,cat [RFA rf0,RFA rf0]⟩,⟨8,3,slH nn nn,Nums .i64 (exW t.ps.length u nn 0 (k+1))⟩,⟨10,28,ptrH,QA 110000 (pwK t u nn (k+1))⟩,⟨11,28,ptrH,QA 110000 (loW (pwK t u nn) (k+1+1))⟩,⟨12,28,ptrH,QA 110000 (hiW (pwK t u nn) (k+1))⟩] a w) U (zm 2 G) (λ hb3=>?_) (λ hb3=>?_) (λ a w U=>?_)
    ·refine zg [η,η,η,η,some (1,_),η] [] [.v 57 _,.sto 4] [.g 0,.g 1] U (zl 3 G ax (zS 0 G ax o0)) (zz [(1,_),(9,_)] [O 2 30 _,O 5 37 _,⟨8,3,slH nn nn,_⟩,O 10 28 _,O 11 28 _,O 12 28 _] λ a w U=>?_)
     refine aa ?_
     have U:=St.sel U [0,1]
     exact St.wkL U 4 G (dc (qm (QA 110000) (lo_y hb3)))
    ·refine qh<|aa ?_
     have U:=St.sel U [0,1]
     exact St.wkL U 4 G (dc (qm (QA 110000) (lo_n hb3)))
    refine zt<|zg [η,η,η,η,η,η] [] [.v 58 _,.v 59 _,.v 60 _,.v 61 _] [.g 0,.g 1,.o 3] U (zl 3 G ax (zl 5 G ax (zQ G (v5 zd) (.p (vq 0 G) (vq 1 G)) (zv G (ci (vq 2 G) ab) o0)))) (zz [(1,_),(9,_),(61,_)] [O 2 30 _,O 5 37 _,⟨8,3,slH nn nn,_⟩,O 10 28 _,O 11 28 _,O 12 28 _] λ a w U=>?_)
    refine aa<|bE (λ a w =>  St B w0 72 [(1,EqV v1),(9,In ((k+1+1:Nat):Int))] [⟨2,30,ptrH,TkE c0 c1 c2⟩,⟨5,37,ptrH,cat [RFA rf0,RFA rf0]⟩,⟨8,3,slH nn nn,Nums .i64 (exW t.ps.length u nn 0 (k+1))⟩,⟨10,28,ptrH,QA 110000 (pwK t u nn (k+1))⟩,⟨11,28,ptrH,QA 110000 (loW (pwK t u nn) (k+1+1))⟩,⟨12,28,ptrH,QA 110000 (hiW (pwK t u nn) (k+1+1))⟩] a w) U (zm 2 G) (λ hb4=>?_) (λ hb4=>?_) (λ a w U=>?_)
    ·refine zg [η,η,η,η,η,some (1,_)] [] [.v 62 _,.sto 5] [.g 0,.g 1] U (zl 3 G ax (zS 0 G ax o0)) (zz [(1,_),(9,_)] [O 2 30 _,O 5 37 _,⟨8,3,slH nn nn,_⟩,O 10 28 _,O 11 28 _,O 12 28 _] λ a w U=>?_)
     refine aa ?_
     have U:=St.sel U [0,1]
     exact St.wkL U 5 G (dc (qm (QA 110000) (hi_y hb4)))
    ·refine qh<|aa ?_
     have U:=St.sel U [0,1]
     exact St.wkL U 5 G (dc (qm (QA 110000) (hi_n hb4)))
    refine ap ?_
    refine aa ?_
    have U:=St.sel U [0,1]
    exact ⟨n-1,by omega,k+1,by omega,U⟩
   ·have hke:k+1=cntW t.ps.length u.length nn 0:=nx_z hpp hk hb2
    refine qK<|am<|am<|aB<|zt<|qb<|zg [η,η,η,η,η,η] [] [.v 63 _,.v 64 _,.v 65 _,.v 66 _] [.g 0,.g 1,.o 3] U (zl 4 G ax (zl 5 G ax (zv G (bJ (D:=[U32]) (l:=[_,_]) (xs:=[.tmp 63,.tmp 64]) (cT zk) cO zk (n_ok zk) nq nq nq (.p (vq 0 G) (vq 1 G)) G G) (zQ G (B1 [loW (pwK t u nn) (k+1),hiW (pwK t u nn) (k+1)] (.cons ⟨_,rfl⟩ (.cons ⟨_,rfl⟩ .nil)) nq) (.o (vq 2 G)) o0)))) (zz [(1,_),(9,_),(66,_)] [O 2 30 _,O 5 37 _,⟨8,3,slH nn nn,_⟩,O 10 28 _,O 11 28 _,O 12 28 _] λ a w U=>?_)
    refine aa<|aj U (zm 2 G) (λ hb5=>?_) (λ hb5=>?_)
    ·refine qb<|zg [η,some (2,_),η,η,η,η] [] [.v 67 _,.v 4 _,.sto 1,.v 6 _] [.g 0,.g 1,.o 1,.o 3] U (zv G (aU (qs:=[]) gQ .nil) (zv G (ac ab) (zS 0 G dx (zv G (ac ab) o0)))) (zz [(1,_),(9,_),(4,_),(6,_)] [O 2 30 _,O 5 37 _,⟨8,3,slH nn nn,_⟩,O 10 28 _,O 11 28 _,O 12 28 _] λ a w U=>?_)
     refine aa<|qg<|al ?_
     refine ao ?_ (bf (rs:=[.tmp 4,.cell 5 37,.tmp 6]) G U (.tmp (zm 2 G) (.cell (zm 1 G) dx (.tmp (zm 3 G) .nil))) zd)
     have e:rowF t xs=(0,(rf0,rf0),4):=by rw [rowF,qw (by rw [hb0]; decide),qw (by rw [hpk]; decide),qz (by rw [hrM,hrP,← hke]; exact hb5)]
     rw [e]; exact tu3w aL aL aL
    ·refine qh<|zt<|zgd [[],[],[],[1,2],[0],[0,1,2,3,4],[0,1,2,3,4,5]] [none,some (5,_),none,none,none,none] [] [.v 68 _,.v 69 _,.v 70 _,.v 71 _,.v 4 _,.sto 1,.v 6 _] [.g 0,.o 4,.o 6] ae U (zM 1 G (zl 4 G ax (zl 5 G ax (zv G (aU (qs:=[(0,_),(1,_)]) gQ (.cons ⟨rfl,vq 1 rfl,rfl⟩ (.cons ⟨rfl,vq 2 rfl,rfl⟩ .nil))) (zA 0 G (zS 3 G dx (zv G (ac ab) o0))))))) zk zk zk zk (zz [(1,_),(4,_),(6,_)] [O 2 30 _,O 5 37 _,⟨8,3,slH nn nn,_⟩,O 10 28 _,O 11 28 _,O 12 28 _] λ a w U=>?_)
     refine aa<|qg<|ao ?_ (bf (rs:=[.tmp 4,.cell 5 37,.tmp 6]) G U (.tmp (zm 1 G) (.cell (zm 1 G) dx (.tmp (zm 2 G) .nil))) zd)
     have e:rowF t xs=(((k+1:Nat):Int),(rfOf (loW (pwK t u nn) (k+1)),rfOf (hiW (pwK t u nn) (k+1))),0):=by rw [rowF,qw (by rw [hb0]; decide),qw (by rw [hpk]; decide),qw (by rw [hrM,hrP,← hke,hb5]; decide),hrM,hrP,← hke]
     rw [e]; exact tu3w aL (bo (.cons qaA (.cons qaA .nil))).va aL
end Go.Proofs.YtedfcalhhldijaaGreatDoor
