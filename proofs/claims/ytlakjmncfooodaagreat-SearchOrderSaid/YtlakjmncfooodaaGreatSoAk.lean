import Derived.Test.YtlakjmncfooodaaGreatSoAj
import Derived.ProofKit
import Derived.OpenShut
import Derived.ChangeOld
import Derived.Below
set_option linter.all false
set_option maxRecDepth 100000
namespace Go.Proofs.YtlakjmncfooodaaGreat
open Go Go.RowKit
variable {w:World}{B:Nat}{a:Act}{v:Value}{T:TypeId}{w0:Bs}{Γ:List (Nat × VA)}{Λ:List Lc}{ps:String}{af:Array Edge}{vr:Value}{H:Hd}{cs:List Value}{w':World}{P:Program}{D:List TypeId}
def subF (x y:RF):RF × Int:=doF (λ a b=>some (a-b)) x y
theorem sub_fn (i:Rat × Rat):Cn Tryz.prog 39 [Qs 2048 i.1,Qs 2048 i.2] (Qs 4097 (i.1-i.2)):=eM zd
theorem subF_c (x y:RF):Cn Tryz.prog 17 [(RFA x).va,(RFA y).va] (FrR (subF x y)):=by
 refine Cn.intro Tryz.func17 G zk nq (λ B w0 a U=>?_)
 have U:=zn [(0,(RFA x).va),(1,(RFA y).va)] [] U
 refine qa<|zg [] [⟨2,28,ptrH,some 0,_,none⟩,⟨3,28,ptrH,some 1,_,none⟩,⟨4,28,ptrH,some 2,_,none⟩] [.alc 0,.alc 1,.alc 2,.v 5 _] [.o 3] U (zW 0 G (zW 1 G (zY G (Str.zero ap) (zv G (a6 a5) o0)))) (zz [(5,_)] [O 2 28 _,O 3 28 _,O 4 28 _] λ a w U=>?_)
 refine zt<|zgd [[],[],[],[0,1,2],[0,1,2,3],[0,1,2,3],[0,1,2,3,4,5],[0,1,2,3,4,5,6]] [none,none,some (6,_)] [] [.v 6 _,.v 7 _,.v 8 _,.v 9 _,.v 10 _,.v 11 _,.sto 2,.v 5 _] [.o 7] a7 U (zQ G (always_c (k:=4097) (op:=λ a b=>a-b)) (.o (gZ sub_fn)) (zl 0 G aa (zl 1 G aa (zQ G (do_c zd x y) (.cons (vq 0 G) (.p (vq 1 G) (vq 2 G))) (zv G (co (vq 3 G)) (zv G (cn (vq 3 G)) (zS 4 G aa (zA 5 G o0)))))))) zk zk zk zk (zz [(5,_)] [O 2 28 _,O 3 28 _,O 4 28 _] λ a w U=>?_)
 refine a4<|qe<|ai ?_ (ax (rs:=[.cell 4 28,.tmp 5]) G U (.cell (zm 2 G) aa (.tmp (zm 0 G) .nil)) zd)
 exact az
def mulF (x y:RF):RF × Int:=doF (λ a b=>some (a*b)) x y
theorem mul_fn (i:Rat × Rat):Cn Tryz.prog 41 [Qs 2048 i.1,Qs 2048 i.2] (Qs 4096 (i.1*i.2)):=cj zd
theorem mul_c (x y:RF):Cn Tryz.prog 18 [(RFA x).va,(RFA y).va] (FrR (mulF x y)):=by
 refine Cn.intro Tryz.func18 G zk nq (λ B w0 a U=>?_)
 have U:=zn [(0,(RFA x).va),(1,(RFA y).va)] [] U
 refine qa<|zg [] [⟨2,28,ptrH,some 0,_,none⟩,⟨3,28,ptrH,some 1,_,none⟩,⟨4,28,ptrH,some 2,_,none⟩] [.alc 0,.alc 1,.alc 2,.v 5 _] [.o 3] U (zW 0 G (zW 1 G (zY G (Str.zero ap) (zv G (a6 a5) o0)))) (zz [(5,_)] [O 2 28 _,O 3 28 _,O 4 28 _] λ a w U=>?_)
 refine zt<|zgd [[],[],[],[0,1,2],[0,1,2,3],[0,1,2,3],[0,1,2,3,4,5],[0,1,2,3,4,5,6]] [none,none,some (6,_)] [] [.v 6 _,.v 7 _,.v 8 _,.v 9 _,.v 10 _,.v 11 _,.sto 2,.v 5 _] [.o 7] a7 U (zQ G (always_c (k:=4096) (op:=λ a b=>a*b)) (.o (gZ mul_fn)) (zl 0 G aa (zl 1 G aa (zQ G (do_c zd x y) (.cons (vq 0 G) (.p (vq 1 G) (vq 2 G))) (zv G (co (vq 3 G)) (zv G (cn (vq 3 G)) (zS 4 G aa (zA 5 G o0)))))))) zk zk zk zk (zz [(5,_)] [O 2 28 _,O 3 28 _,O 4 28 _] λ a w U=>?_)
 refine a4<|qe<|ai ?_ (ax (rs:=[.cell 4 28,.tmp 5]) G U (.cell (zm 2 G) aa (.tmp (zm 0 G) .nil)) zd)
 exact az
def cmF (x y:RF):Int:=if okX x&&okX y then cmQ (toQ x) (toQ y) else 0
theorem ex_checkI : ∃ fn, Tryz.prog.funcs[77]? = some fn ∧ (fn.name == "runtime.NumGoroutine") = false ∧ fn.body.isNone = false := ⟨_, Tryz.func77, by kernel_rfl, by kernel_rfl⟩
theorem check_z {c:Nat}{p:Int}(hc:c≤2048):Cn Tryz.prog 77 [Zs c p] (In 0):=zs1 ex_checkI λ h=>(check_c (riOf p)).post (by rw [kz,qR (by omega:lz p≤2048)]; rfl)
theorem lz_i64 {p:Int}(h0 : -9223372036854775808≤p)(h1:p<9223372036854775808):lz p≤2:=lz_le zo
theorem ansF_ok {q:Rat}(h:lz q.num≤2048∧lz (q.den:Int)≤2048):ansF q=(rfOf q,0):=by rw [ansF,longQ_false.2 h]; rfl
theorem ansF_low {p q:Int}(hq:q≠0)(hp:lz p≤2)(h2:lz q≤2):ansF (Rat.divInt p q)=(rfOf (Rat.divInt p q),0):=by
 have:=dW (p:=p) hq
 exact ansF_ok zo
theorem make_q {p q:Int}(hq:q≠0):Cn Tryz.prog 90 [Zs 2 p,Zs 2 q] (FrR (ansF (Rat.divInt p q))):=by
 refine Cn.intro Tryz.func90 G zk nq (λ B w0 a U=>?_)
 have U:=zn [(0,Zs 2 p),(1,Zs 2 q)] [] U
 refine qa<|zg [] [⟨2,26,ptrH,some 0,_,none⟩,⟨3,26,ptrH,some 1,_,none⟩,⟨4,28,ptrH,some 2,_,none⟩] [.alc 0,.alc 1,.alc 2,.v 5 _] [.o 3] U (zW 0 G (zW 1 G (zY G (Str.zero ap) (zv G (a6 a5) o0)))) (zz [(5,_)] [O 2 26 _,O 3 26 _,O 4 28 _] λ a w U=>?_)
 refine zt<|qa<|zg [η,η,η] [] [.v 6 _,.v 7 _,.v 8 _,.v 9 _,.f 10 _,.f 11 _,.f 12 _,.v 13 _] [.g 0,.o 7] U (zl 0 G ao (zQ G (check_z zd) (.o (vq 0 G)) (zv G (bv (vq 1 G) a5) (zv G (a8 (vq 2 G)) (zB 3 G (λ hg=>dQ (lz0 1 G) ao) (zB 3 G (λ hg=>bk (check_z zd) (.o (ab (vq 4 G) hg))) (zB 3 G (λ hg=>bv (ab (vq 5 G) hg) a5) (zv G (r_or (vq 3 G) (vq 6 G)) o0)))))))) (zz [(5,_),(13,_)] [O 2 26 _,O 3 26 _,O 4 28 _] λ a w U=>?_)
 refine a4<|a9 U (zm 1 G) (λ hb0=>?_) (λ hb0=>?_)
 ·exact absurd hb0 zd
 ·refine qj<|zt<|qa<|zg [η,η,η] [] [.v 15 _,.v 16 _,.v 17 _] [.g 0,.o 2] U (zl 1 G ao (zQ G sign_z (.o (vq 0 G)) (zv G (bA (vq 1 G) a5) o0))) (zz [(5,_),(17,_)] [O 2 26 _,O 3 26 _,O 4 28 _] λ a w U=>?_)
  refine a4<|a9 U (zm 1 G) (λ hb1=>?_) (λ hb1=>?_)
  ·exact absurd hb1 (by simpa using hq)
  ·refine qj<|zt<|zg [η,η,some (6,_)] [] [.v 19 _,.v 20 _,.v 21 _,.v 22 _,.v 23 _,.v 24 _,.sto 2,.v 5 _] [.o 7] U (zl 0 G ao (zl 1 G ao (zQ G (dB zd zd hq) (.p (vq 0 G) (vq 1 G)) (zQ G (gr zd) (.o (vq 2 G)) (zv G (co (vq 3 G)) (zv G (cn (vq 3 G)) (zS 4 G aa (zA 5 G o0)))))))) (zz [(5,_)] [O 2 26 _,O 3 26 _,O 4 28 _] λ a w U=>?_)
   refine a4<|qe<|ai ?_ (ax (rs:=[.cell 4 28,.tmp 5]) G U (.cell (zm 2 G) aa (.tmp (zm 0 G) .nil)) zd)
   exact az
theorem ofQ_c {p q:Int}(hp : -9223372036854775808≤p)(hp1:p<9223372036854775808)(hq0 : -9223372036854775808≤q)(hq1:q<9223372036854775808)(hq:q≠0):Cn Tryz.prog 65 [In p,In q] (FrR (rfOf (Rat.divInt p q),0)):=by
 refine Cn.intro Tryz.func65 G zk nq (λ B w0 a U=>?_)
 have U:=zn [(0,In p),(1,In q)] [] U
 refine qa<|zg [] [⟨4,28,ptrH,some 0,_,none⟩] [.alc 0,.v 5 _] [.g 0,.g 1,.o 1] U (zY G (Str.zero ap) (zv G (a6 a5) o0)) (zz [(0,_),(1,_),(5,_)] [O 4 28 _] λ a w U=>?_)
 refine zt<|zg [some (7,_)] [] [.v 6 _,.v 7 _,.v 8 _,.v 9 _,.v 10 _,.v 11 _,.v 12 _,.sto 0,.v 5 _] [.o 8] U (zM 0 G (zQ G (of_z hp hp1) (.o (vq 0 G)) (zM 1 G (zQ G (of_z hq0 hq1) (.o (vq 2 G)) (zQ G (make_q hq) (.p (vq 1 G) (vq 3 G)) (zv G (co (vq 4 G)) (zv G (cn (vq 4 G)) (zS 5 G aa (zA 6 G o0))))))))) (zz [(5,_)] [O 4 28 _] λ a w U=>?_)
 refine a4<|qe<|ai ?_ (ax (rs:=[.cell 4 28,.tmp 5]) G U (.cell (zm 0 G) aa (.tmp (zm 0 G) .nil)) zd)
 rw [← ansF_low hq (lz_i64 hp hp1) (lz_i64 hq0 hq1)]; exact az
theorem fracCmp_c (x y:RF):Cn Tryz.prog 11 [(RFA x).va,(RFA y).va] (In (cmF x y)):=by
 refine Cn.intro Tryz.func11 G zk nq (λ B w0 a U=>?_)
 have U:=zn [(0,(RFA x).va),(1,(RFA y).va)] [] U
 refine qa<|zg [] [⟨2,28,ptrH,some 0,_,none⟩,⟨3,28,ptrH,some 1,_,none⟩] [.alc 0,.alc 1,.v 4 _] [.o 2] U (zW 0 G (zW 1 G (zv G (a6 a5) o0))) (zz [(4,_)] [O 2 28 _,O 3 28 _] λ a w U=>?_)
 refine zt<|qa<|zg [η,η] [] [.v 5 _,.v 6 _,.v 7 _,.v 8 _,.v 9 _] [.g 0,.o 4] U (zl 0 G aa (zl 1 G aa (zv G (bt (D:=[U32]) (l:=[_,_]) (xs:=[.tmp 5,.tmp 6]) (cI zk) cZ zk (n_ok zk) nq nq nq (.p (vq 0 G) (vq 1 G)) G G) (zQ G (dH [x,y] nq) (.o (vq 2 G)) (zv G (cH (vq 3 G)) o0))))) (zz [(4,_),(9,_)] [O 2 28 _,O 3 28 _] λ a w U=>?_)
 refine a4<|a9 U (zm 1 G) (λ hb0=>?_) (λ hb0=>?_)
 ·rw [iA] at hb0
  refine qa<|zg [η,η] [] [.v 4 _] [.o 0] U (zv G (a6 a5) o0) (zz [(4,_)] [O 2 28 _,O 3 28 _] λ a w U=>?_)
  refine a4<|qe<|ac ?_
  refine ai ?_ (aj G U (zm 0 G))
  exact bE (by rw [cmF,qk (by intro hh; rw [hh] at hb0; exact absurd hb0 zd)])
 ·rw [iA,xB,qf] at hb0
  have hx:=iO hb0.1
  have hy:=iO hb0.2
  refine qj<|zt<|zg [η,η] [] [.v 10 _,.v 11 _,.v 12 _,.v 4 _] [.o 3] U (zl 0 G aa (zl 1 G aa (zQ G ((cmp_q zd).wk (.cons (bM (bE (qr (λ y=>(RFA y).va) hx.1)) (fV hx.2.1 hx.2.2).va) (.cons (bM (bE (qr (λ y=>(RFA y).va) hy.1)) (fV hy.2.1 hy.2.2).va) .nil))) (.p (vq 0 G) (vq 1 G)) (zA 2 G o0)))) (zz [(4,_)] [O 2 28 _,O 3 28 _] λ a w U=>?_)
  refine a4<|qe<|ai ?_ (aj G U (zm 0 G))
  exact bE (by rw [cmF,ql (by rw [hb0.1,hb0.2]; rfl)])
structure RG where
 re:RF
 im:RF
 deriving DecidableEq
structure RM where
 a:RF
 b:RF
 c:RF
 d:RF
 deriving DecidableEq
structure RR where
 y:RF
 u:RF
 deriving DecidableEq
structure GQ where
 re:Rat
 im:Rat
 deriving DecidableEq
structure MQ where
 a:Rat
 b:Rat
 c:Rat
 d:Rat
 deriving DecidableEq
structure YQ where
 y:Rat
 u:Rat
 deriving DecidableEq
def RMA (x:RM):As:=cat [RFA x.a,RFA x.b,RFA x.c,RFA x.d]
def QMA (k:Nat)(x:MQ):As:=cat [QA k x.a,QA k x.b,QA k x.c,QA k x.d]
abbrev rm0:RM:=⟨rf0,rf0,rf0,rf0⟩
def rmOf (m:MQ):RM:=⟨rfOf m.a,rfOf m.b,rfOf m.c,rfOf m.d⟩
def toM (x:RM):MQ:=⟨toQ x.a,toQ x.b,toQ x.c,toQ x.d⟩
def detM (m:MQ):Rat:=m.a*m.d-m.b*m.c
theorem qa_x {k:Nat}{x:RF}(h:okX x=true)(hk:2048≤k):WkA (RFA x) (QA k (toQ x)):=by
 obtain ⟨h1,h2,h3⟩:=iO h
 exact (eQ (qr RFA h1)).trans (fV (qh h2 hk) (qh h3 hk))
theorem qm_x {x:RM}(h:[x.a,x.b,x.c,x.d].all okX=true):WkA (RMA x) (QMA 2048 (toM x)):=by
 simp only [z9,xj,xb,qf] at h
 exact aS (.cons (qa_x h.1 (qg _)) (.cons (qa_x h.2.1 (qg _)) (.cons (qa_x h.2.2.1 (qg _)) (.cons (qa_x h.2.2.2 (qg _)) .nil))))
theorem qmA {k:Nat}{x:MQ}:WkA (QMA k x) (RMA (rmOf x)):=aS (.cons qaA (.cons qaA (.cons qaA (.cons qaA .nil))))
def okM (m:RM):Bool:=[m.a,m.b,m.c,m.d].all okX&&decide (detM (toM m)=1)
theorem cm_ne {x y:Rat}:(cmQ x y != 0) = !decide (x=y):=by
 unfold cmQ
 by_cases h:x<y
 ·rw [ql h]; simp [Rat.ne_of_lt h]
 ·rw [qk h]
  by_cases h2:y<x
  ·rw [ql h2]; simp [Rat.ne_of_gt h2]
  ·rw [qk h2]
   have:x=y:=Rat.le_antisymm (Rat.not_lt.1 h2) (Rat.not_lt.1 h)
   simp [this]
theorem all4 {m:RM}(h:(![m.a,m.b,m.c,m.d].all okX)=false):[m.a,m.b,m.c,m.d].all okX=true:=by simpa using h
theorem aE:Str Tryz.prog 79 [RFA rf0,RFA rf0,RFA rf0,RFA rf0] :=
 Str.of (z:=.agg #[.bool false,.slice none 0 0,.bool false,.slice none 0 0,.bool false,.slice none 0 0,.bool false,.slice none 0 0,.bool false,.slice none 0 0,.bool false,.slice none 0 0,.bool false,.slice none 0 0,.bool false,.slice none 0 0]) zk Tryz.underlying79 zk λ B w=>⟨[[.bool false,.slice none 0 0,.bool false,.slice none 0 0],[.bool false,.slice none 0 0,.bool false,.slice none 0 0],[.bool false,.slice none 0 0,.bool false,.slice none 0 0],[.bool false,.slice none 0 0,.bool false,.slice none 0 0]],rfl,(.cons (dk B w) (.cons (dk B w) (.cons (dk B w) (.cons (dk B w) .nil))))⟩
theorem str_ray:Str Tryz.prog 101 [RFA rf0,RFA rf0] :=
 Str.of (z:=.agg #[.bool false,.slice none 0 0,.bool false,.slice none 0 0,.bool false,.slice none 0 0,.bool false,.slice none 0 0]) zk Tryz.underlying101 zk λ B w=>⟨[[.bool false,.slice none 0 0,.bool false,.slice none 0 0],[.bool false,.slice none 0 0,.bool false,.slice none 0 0]],rfl,(.cons (dk B w) (.cons (dk B w) .nil))⟩
theorem rdet_q {c d e f:Nat}{x y z u:Rat}(hk:c+d+e+f≤137438953472):Cn Tryz.prog 94 [Qs c x,Qs d y,Qs e z,Qs f u] (Qs (c+f+(d+e)+1) (x*u-y*z)):=by
 refine Cn.intro Tryz.func94 G zk nq (λ B w0 a U=>?_)
 have U:=zn [(0,Qs c x),(1,Qs d y),(2,Qs e z),(3,Qs f u)] [] U
 refine qa<|zg [] [⟨4,28,ptrH,some 0,_,none⟩,⟨5,28,ptrH,some 1,_,none⟩,⟨6,28,ptrH,some 2,_,none⟩,⟨7,28,ptrH,some 3,_,none⟩,⟨8,28,ptrH,some 4,_,none⟩] [.alc 0,.alc 1,.alc 2,.alc 3,.alc 4] [] U (zW 0 G (zW 1 G (zW 2 G (zW 3 G (zY G (Str.zero ap) o0))))) (zz [] [O 4 28 _,O 5 28 _,O 6 28 _,O 7 28 _,O 8 28 _] λ a w U=>?_)
 refine zt<|zgd [[],[],[0,1],[],[],[0,1,2,3,4],[0,1,2,3,4,5],[0,1,2,3,4,5,6]] [none,none,none,none,some (7,_)] [] [.v 9 _,.v 10 _,.v 11 _,.v 12 _,.v 13 _,.v 14 _,.v 15 _,.sto 4] [] a7 U (zl 0 G aa (zl 3 G aa (zQ G (cj zo) (.p (vq 0 G) (vq 1 G)) (zl 1 G aa (zl 2 G aa (zQ G (cj zo) (.p (vq 3 G) (vq 4 G)) (zQ G (eM zo) (.p (vq 2 G) (vq 5 G)) (zS 6 G aa o0)))))))) zk zk zk zk (zz [] [O 4 28 _,O 5 28 _,O 6 28 _,O 7 28 _,O 8 28 _] λ a w U=>?_)
 refine a4<|qe<|ai ?_ (ay G U (zm 4 G) aa)
 exact az
theorem chkM_yes {m:RM}(h:((![m.a,m.b,m.c,m.d].all okX) || (cmQ (toQ m.a*toQ m.d-toQ m.b*toQ m.c) 1 != 0))=true):(1:Int)=if okM m then 0 else 1:=by
 have:okM m=false:=by
  unfold okM
  rw [cm_ne] at h
  show ([m.a,m.b,m.c,m.d].all okX&&decide (toQ m.a*toQ m.d-toQ m.b*toQ m.c=1))=false
  cases h1:[m.a,m.b,m.c,m.d].all okX
  ·rfl
  ·rw [h1] at h; simpa using h
 rw [this]; rfl
theorem chkM_no {m:RM}(h:((![m.a,m.b,m.c,m.d].all okX) || (cmQ (toQ m.a*toQ m.d-toQ m.b*toQ m.c) 1 != 0))=false):(0:Int)=if okM m then 0 else 1:=by
 have:okM m=true:=by
  unfold okM
  rw [cm_ne] at h
  show ([m.a,m.b,m.c,m.d].all okX&&decide (toQ m.a*toQ m.d-toQ m.b*toQ m.c=1))=true
  cases h1:[m.a,m.b,m.c,m.d].all okX
  ·rw [h1] at h; simp at h
  ·rw [h1] at h; simpa using h
 rw [this]; rfl
theorem det_x {m:RM}(h:(![m.a,m.b,m.c,m.d].all okX)=false):Cn Tryz.prog 94 [(RFA m.a).va,(RFA m.b).va,(RFA m.c).va,(RFA m.d).va] (Qs 8193 (toQ m.a*toQ m.d-toQ m.b*toQ m.c)):=by
 have h4:=all4 h
 simp only [z9,xj,xb,qf] at h4
 exact (rdet_q (c:=2048) (d:=2048) (e:=2048) (f:=2048) zd).wk (.cons (qa_x h4.1 (qg _)).va (.cons (qa_x h4.2.1 (qg _)).va (.cons (qa_x h4.2.2.1 (qg _)).va (.cons (qa_x h4.2.2.2 (qg _)).va .nil))))
theorem rayCheck_c (m:RM):Cn Tryz.prog 69 [(RMA m).va] (In (if okM m then 0 else 1)):=by
 refine Cn.intro Tryz.func69 G zk nq (λ B w0 a U=>?_)
 have U:=zn [(0,(RMA m).va)] [] U
 refine qa<|zg [] [⟨1,79,ptrH,some 0,_,none⟩] [.alc 0,.v 2 _] [.o 1] U (zW 0 G (zv G (a6 a5) o0)) (zz [(2,_)] [O 1 79 _] λ a w U=>?_)
 refine zt<|qa<|gl (sts:=[none]) (news:=[]) (sp:=((.adr 3 1 (.some 0) True:Sp)::(.v 4 _)::(.adr 5 1 (.some 4) True)::(.v 6 _)::(.adr 7 1 (.some 8) True)::(.v 8 _)::(.adr 9 1 (.some 12) True)::(.v 10 _)::(.v 11 _)::(.v 12 _)::(.v 13 _)::(.v 14 _)::(.adr 15 1 (.some 0) (_=false))::(.f 16 _)::(.adr 17 1 (.some 4) (_=false))::(.f 18 _)::(.adr 19 1 (.some 8) (_=false))::(.f 20 _)::(.adr 21 1 (.some 12) (_=false))::(.f 22 _)::(.f 23 _)::(.f 24 _)::(.f 25 _)::(.f 26 _)::(.v 27 _)::[])) [.g 0,.o 24] U (zO 0 G cO (zL 0 0 0 G aa (zO 0 G cb (zL 2 0 1 G aa (zO 0 G bZ (zL 4 0 2 G aa (zO 0 G cN (zL 6 0 3 G aa (zv G (bt (D:=[U32]) (l:=[_,_,_,_]) (xs:=[.tmp 4,.tmp 6,.tmp 8,.tmp 10]) (cI zk) cZ zk (n_ok zk) nq nq nq (.cons (vq 1 G) (.cons (vq 3 G) (.p (vq 5 G) (vq 7 G)))) G G) (zQ G (dH [m.a,m.b,m.c,m.d] nq) (.o (vq 8 G)) (zv G (cH (vq 9 G)) (zv G (a8 (vq 10 G)) (zC 11 0 G cO (zB 11 G (λ hg=>aH 12 G zk hg (lz0 0 G) (Sub.part 0 G G) aa) (zC 11 0 G cb (zB 11 G (λ hg=>aH 14 G zk hg (lz0 0 G) (Sub.part 1 G G) aa) (zC 11 0 G bZ (zB 11 G (λ hg=>aH 16 G zk hg (lz0 0 G) (Sub.part 2 G G) aa) (zC 11 0 G cN (zB 11 G (λ hg=>aH 18 G zk hg (lz0 0 G) (Sub.part 3 G G) aa) (zB 11 G (λ hg=>bk (det_x hg) (.cons (ab (vq 13 G) hg) (.cons (ab (vq 15 G) hg) (.p (ab (vq 17 G) hg) (ab (vq 19 G) hg))))) (zB 11 G (λ hg=>bk one_q .nil) (zB 11 G (λ hg=>bk (cmp_q zo) (.p (ab (vq 20 G) hg) (ab (vq 21 G) hg))) (zB 11 G (λ hg=>bv (ab (vq 22 G) hg) a5) (zv G (r_or (vq 11 G) (vq 23 G)) o0))))))))))))))))))))))))) (zz [(2,_),(27,_)] [O 1 79 _] λ a w U=>?_)
 refine a4<|a9 U (zm 1 G) (λ hb0=>?_) (λ hb0=>?_)
 ·refine qa<|zg [η] [] [.v 2 _] [.o 0] U (zv G (a6 a5) o0) (zz [(2,_)] [O 1 79 _] λ a w U=>?_)
  refine a4<|qe<|ac ?_
  refine ai ?_ (aj G U (zm 0 G))
  exact bE (qr In (chkM_yes hb0))
 ·refine qj<|zt<|zg [η] [] [.v 2 _] [.o 0] U (zv G (a6 a5) o0) (zz [(2,_)] [O 1 79 _] λ a w U=>?_)
  refine a4<|qe<|ai ?_ (aj G U (zm 0 G))
  exact bE (qr In (chkM_no hb0))
theorem okM_q {m:RM}(h:okM m=true):[m.a,m.b,m.c,m.d].all okX=true∧detM (toM m)=1:=by
 unfold okM at h
 rw [qf,qu] at h
 exact h
theorem tu3w {a b c d e f:VA}(h:Wk a d)(h':Wk b e)(h'':Wk c f):Wk (Tu [a,b,c]) (Tu [d,e,f]):=tu_wk (.cons h (.cons h' (.cons h'' .nil)))
def intSizeF (x:RI):Int:=IntKind.i64.wrap (1+(x.mag.length:Int))
def fracSizeF (x:RF):Int:=IntKind.i64.wrap (intSizeF x.num+intSizeF x.den)
def lowCostF (x y:RI):Int:=IntKind.i64.wrap (IntKind.i64.wrap ((IntKind.i64.wrap (min (x.mag.length:Int) 1048576*min (y.mag.length:Int) 1048576)).tdiv 16)*1024)
def fracCostF (x:RF):Int:=IntKind.i64.wrap (fracSizeF x+lowCostF x.num x.den)
def bydF (n:Int):List Int→Bool
 | []=>false
 | x::xs=>if decide (IntKind.i64.wrap (n+x)>1048576) then true else bydF (IntKind.i64.wrap (n+x)) xs
theorem byd_yes {n:Int}{l:List Int}{j:Nat}(h:j<l.length)(h2:decide (IntKind.i64.wrap (n+l[j])>1048576)=true):true=bydF n (l.drop j):=by
 rw [qv h,bydF,h2]; rfl
theorem byd_no {n:Int}{l:List Int}{j:Nat}(h:j<l.length)(h2:decide (IntKind.i64.wrap (n+l[j])>1048576)=false):bydF n (l.drop j)=bydF (IntKind.i64.wrap (n+l[j])) (l.drop (j+1)):=by
 rw [qv h,bydF,h2]; rfl
theorem wi_nx {j m:Nat}(h:j<m)(hm:m≤9223372036854775807):IntKind.i64.wrap ((j:Int)+1)=((j+1:Nat):Int):=by rw [wi64 zo zo]; rfl
theorem slA_len {E:TypeId}{l:List As}(h:(SlA E D l).va.p B v w):l.length≤9223372036854775807:=by
 obtain ⟨cs,⟨_,A,c,ds,_,h1,h2,_⟩,_⟩:=h
 unfold maxLen at h2
 omega
theorem dy {E:TypeId}{α:Type}{f:α→As}{l:List α}(h:(SlA E D (l.map f)).va.p B v w):l.length≤9223372036854775807:=by
 have:=slA_len h
 rwa [qc] at this
theorem iS (x:RI):Cn Tryz.prog 76 [(RIA x).va] (In (intSizeF x)):=by
 refine Cn.intro Tryz.func76 G zk nq (λ B w0 a U=>?_)
 have U:=zn [(0,(RIA x).va)] [] U
 refine qa<|zg [] [⟨1,26,ptrH,some 0,_,none⟩] [.alc 0,.v 2 _] [.o 1] U (zW 0 G (zv G (a6 a5) o0)) (zz [(2,_)] [O 1 26 _] λ a w U=>?_)
 refine zt<|zg [η] [] [.adr 3 1 (.some 1) True,.v 4 _,.v 5 _,.v 6 _,.v 2 _] [.o 4] U (zO 0 G au (zL 0 0 1 G bh (zv G (aL Tryz.underlying24 (vq 1 G)) (zv G (aK a5 (vq 2 G) (G)) (zA 3 G o0))))) (zz [(2,_)] [O 1 26 _] λ a w U=>?_)
 refine a4<|qe<|ai ?_ (aj G U (zm 0 G))
 exact az
theorem fracSize_c (x:RF):Cn Tryz.prog 43 [(RFA x).va] (In (fracSizeF x)):=by
 refine Cn.intro Tryz.func43 G zk nq (λ B w0 a U=>?_)
 have U:=zn [(0,(RFA x).va)] [] U
 refine qa<|zg [] [⟨1,28,ptrH,some 0,_,none⟩] [.alc 0,.v 2 _] [.o 1] U (zW 0 G (zv G (a6 a5) o0)) (zz [(2,_)] [O 1 28 _] λ a w U=>?_)
 refine zt<|zgd [[],[0],[0,1],[],[3],[0,1,2,3,4],[0,1,2,3,4,5],[0,1,2,3,4,5,6]] [none] [] [.adr 3 1 (.some 0) True,.v 4 _,.v 5 _,.adr 6 1 (.some 2) True,.v 7 _,.v 8 _,.v 9 _,.v 2 _] [.o 7] a7 U (zO 0 G aZ (zL 0 0 0 G ao (zQ G (iS _) (.o (vq 1 G)) (zO 0 G aP (zL 3 0 1 G ao (zQ G (iS _) (.o (vq 4 G)) (zv G (aK (vq 2 G) (vq 5 G) (G)) (zA 6 G o0)))))))) zk zk zk zk (zz [(2,_)] [O 1 28 _] λ a w U=>?_)
 refine a4<|qe<|ai ?_ (aj G U (zm 0 G))
 exact az
theorem lowCost_c (x y:RI):Cn Tryz.prog 44 [(RIA x).va,(RIA y).va] (In (lowCostF x y)):=by
 refine Cn.intro Tryz.func44 G zk nq (λ B w0 a U=>?_)
 have U:=zn [(0,(RIA x).va),(1,(RIA y).va)] [] U
 refine qa<|zg [] [⟨2,26,ptrH,some 0,_,none⟩,⟨3,26,ptrH,some 1,_,none⟩] [.alc 0,.alc 1,.v 4 _] [.o 2] U (zW 0 G (zW 1 G (zv G (a6 a5) o0))) (zz [(4,_)] [O 2 26 _,O 3 26 _] λ a w U=>?_)
 refine zt<|zg [η,η] [] [.adr 5 2 (.some 1) True,.v 6 _,.v 7 _,.v 8 _,.adr 9 3 (.some 1) True,.v 10 _,.v 11 _,.v 12 _,.v 13 _,.v 14 _,.v 15 _,.v 4 _] [.o 11] U (zO 0 G au (zL 0 0 1 G bh (zv G (aL Tryz.underlying24 (vq 1 G)) (zv G (r_min (vq 2 G) a5) (zO 1 G au (zL 4 1 1 G bh (zv G (aL Tryz.underlying24 (vq 5 G)) (zv G (r_min (vq 6 G) a5) (zv G (r_mul (vq 3 G) (vq 7 G) (G)) (zv G (r_quo (vq 8 G) a5 zd (G)) (zv G (r_mul (vq 9 G) a5 (G)) (zA 10 G o0)))))))))))) (zz [(4,_)] [O 2 26 _,O 3 26 _] λ a w U=>?_)
 refine a4<|qe<|ai ?_ (aj G U (zm 0 G))
 exact az
theorem dD (x:RF):Cn Tryz.prog 21 [(RFA x).va] (In (fracCostF x)):=by
 refine Cn.intro Tryz.func21 G zk nq (λ B w0 a U=>?_)
 have U:=zn [(0,(RFA x).va)] [] U
 refine qa<|zg [] [⟨1,28,ptrH,some 0,_,none⟩] [.alc 0,.v 2 _] [.o 1] U (zW 0 G (zv G (a6 a5) o0)) (zz [(2,_)] [O 1 28 _] λ a w U=>?_)
 refine zt<|zgd [[],[0],[],[2],[],[4],[0,1,2,3,4,5],[0,1,2,3,4,5,6],[0,1,2,3,4,5,6,7]] [none] [] [.v 3 _,.v 4 _,.adr 5 1 (.some 0) True,.v 6 _,.adr 7 1 (.some 2) True,.v 8 _,.v 9 _,.v 10 _,.v 2 _] [.o 8] a7 U (zl 0 G aa (zQ G (fracSize_c _) (.o (vq 0 G)) (zO 0 G aZ (zL 2 0 0 G ao (zO 0 G aP (zL 4 0 1 G ao (zQ G (lowCost_c _ _) (.p (vq 3 G) (vq 5 G)) (zv G (aK (vq 1 G) (vq 6 G) (G)) (zA 7 G o0))))))))) zk zk zk zk (zz [(2,_)] [O 1 28 _] λ a w U=>?_)
 refine a4<|qe<|ai ?_ (aj G U (zm 0 G))
 exact az
theorem beyond_c (l:List Int):Cn Tryz.prog 6 [(SlA 3 [] (l.map (NumA .i64))).va] (Bo (bydF 0 l)):=by
 refine Cn.intro Tryz.func6 G zk nq (λ B w0 a U=>?_)
 have U:=zn [(0,(SlA 3 [] (l.map (NumA .i64))).va)] [] U
 have hl:=dy (U.vals (0,(SlA 3 [] (l.map (NumA .i64))).va) (zm 0 rfl))
 refine qa<|zh [.v 2 _] [.g 0,.o 0] U (zv G (a6 aG) o0) (zz [(0,_),(2,_)] [] λ a w U=>?_)
 refine zt<|zh [.v 3 _] [.g 0,.g 1,.o 0] U (zv G (a6 a5) o0) (zz [(0,_),(2,_),(3,_)] [] λ a w U=>?_)
 refine zt<|qa<|zh [.v 4 _] [.g 0,.g 1,.g 2,.o 0] U (zv G (a6 a5) o0) (zz [(0,_),(2,_),(3,_),(4,_)] [] λ a w U=>?_)
 refine a4<|qo ?_
 have U:=St.sel U [0,2,3]
 refine wp_loop_ghost (λ n a w=>∃ (j:Nat) (m:Int),(n+j=l.length∧bydF 0 l=bydF m (l.drop j))∧St B w0 19 [(0,(SlA 3 [] (l.map (NumA .i64))).va),(3,In m),(4,In (j:Nat))] [] a w) (l.length) ?_ ?_
 ·exact ⟨0,0,⟨by omega,rfl⟩,U⟩
 intro n a w hI
 obtain ⟨j,m,⟨hn,hm⟩,U⟩:=hI
 refine qa<|qa<|zh [.v 5 _,.v 6 _,.v 7 _,.v 8 _] [.g 0,.g 1,.g 2,.o 3] U (zM 2 G (zM 0 G (zv G (bz Tryz.underlying31 (vq 1 G)) (zv G (aX (vq 0 G) (vq 2 G)) o0)))) (zz [(0,_),(3,_),(4,_),(8,_)] [] λ a w U=>?_)
 refine a4<|a9 U (zm 3 G) (λ hb0=>?_) (λ hb0=>?_)
 ·have hj:j<l.length:=by rw [qc] at hb0; simp at hb0; omega
  refine qj<|zt<|qo<|qa<|zh [.v 11 _,.v 12 _,.v 13 _,.v 14 _,.v 15 _,.v 16 _,.v 3 _] [.g 0,.g 2,.o 6] U (zM 1 G (zM 0 G (zM 2 G (zv G (cm fq (cE λ _=>rfl) (vq 1 G) (vq 2 G) (bH hj)) (zv G (am (vq 3 G) ty_3) (zv G (aK (vq 0 G) (vq 4 G) (G)) (zA 5 G o0))))))) (zz [(0,_),(4,_),(3,_)] [] λ a w U=>?_)
  refine zt<|zh [.v 17 _,.v 18 _] [.g 0,.g 1,.g 2,.o 1] U (zM 2 G (zv G (cU (vq 0 G) a5) o0)) (zz [(0,_),(4,_),(3,_),(18,_)] [] λ a w U=>?_)
  refine a4<|a9 U (zm 3 G) (λ hb1=>?_) (λ hb1=>?_)
  ·refine qa<|zh [.v 2 _] [.g 0,.g 1,.g 2,.o 0] U (zv G (a6 aG) o0) (zz [(0,_),(4,_),(3,_),(2,_)] [] λ a w U=>?_)
   refine a4<|qe<|aC ?_
   refine ac ?_
   refine ac ?_
   refine aC ?_
   refine ac ?_
   refine ai ?_ (aj G U (zm 3 G))
   exact bE (qr Bo ((byd_yes hj hb1).trans hm.symm))
  ·refine qj<|al ?_
   refine a4<|zh [.v 9 _,.v 10 _,.v 4 _] [.g 0,.g 2,.o 2] U (zM 1 G (zv G (aK (vq 0 G) a5 (wi_nx hj hl)) (zA 1 G o0))) (zz [(0,_),(3,_),(4,_)] [] λ a w U=>?_)
   refine a4 ?_
   have U:=St.sel U [0,1,2]
   exact ⟨n-1,by omega,j+1,_,⟨by omega,hm.trans (byd_no hj hb1)⟩,U⟩
 ·obtain rfl:j=l.length:=by rw [qc] at hb0; simp at hb0; omega
  refine qZ<|ak<|ak<|aB<|zt<|zh [.v 2 _] [.o 0] U (zv G (a6 aG) o0) (zz [(2,_)] [] λ a w U=>?_)
  refine a4<|qe<|ai ?_ (aj G U (zm 0 G))
  exact bE (qr Bo (by rw [hm,qS (qg _)]; rfl))
theorem same_yes {a b:RI}(hn:a.neg=b.neg)(h:a.mag=b.mag):true=decide (a=b):=by
 cases a; cases b; simp_all
theorem same_no1 {a b:RI}(h:((a.neg != b.neg) || (((a.mag.length:Nat):Int) != ((b.mag.length:Nat):Int)))=true):false=decide (a=b):=by
 symm
 apply zF
 rintro rfl
 simp at h
theorem same_two {a b:RI}(h:((a.neg != b.neg) || (((a.mag.length:Nat):Int) != ((b.mag.length:Nat):Int)))=false):a.neg=b.neg∧a.mag.length=b.mag.length:=by
 simp only [qG,bne_eq_false_iff_eq] at h
 exact ⟨h.1,by omega⟩
theorem same_no2 {a b:RI}{j:Nat}(h1:j<a.mag.length)(h2:j<b.mag.length)(h:(((a.mag[j]:Nat):Int) != ((b.mag[j]:Nat):Int))=true):false=decide (a=b):=by
 symm
 apply zF
 rintro rfl
 simp at h
theorem take_eq {l m:List Nat}{j:Nat}(h1:j<l.length)(h2:j<m.length)(h:l.take j=m.take j)(h3:(((l[j]:Nat):Int) != ((m[j]:Nat):Int))=false):l.take (j+1)=m.take (j+1):=by
 rw [qq h1,qq h2,h]
 simp only [bne_eq_false_iff_eq] at h3
 rw [show l[j]=m[j] by omega]
theorem rf_eq {a b:RF}:(decide (a.num=b.num)&&decide (a.den=b.den))=decide (a=b):=by
 cases a; cases b; rw [Bool.eq_iff_iff]; simp
theorem iI (x y:RI):Cn Tryz.prog 34 [(RIA x).va,(RIA y).va] (Bo (decide (x=y))):=by
 refine Cn.intro Tryz.func34 G zk nq (λ B w0 a U=>?_)
 have U:=zn [(0,(RIA x).va),(1,(RIA y).va)] [] U
 have hxk:=gJ (U.vals (0,(RIA x).va) (zm 0 rfl))
 refine qa<|zg [] [⟨2,26,ptrH,some 0,_,none⟩,⟨3,26,ptrH,some 1,_,none⟩] [.alc 0,.alc 1,.v 4 _] [.o 2] U (zW 0 G (zW 1 G (zv G (a6 aG) o0))) (zz [(4,_)] [O 2 26 _,O 3 26 _] λ a w U=>?_)
 refine zt<|qa<|zg [η,η] [] [.adr 6 2 (.some 0) True,.v 7 _,.adr 8 3 (.some 0) True,.v 9 _,.v 10 _,.v 11 _,.adr 12 2 (.some 1) (_=false),.f 13 _,.f 14 _,.adr 15 3 (.some 1) (_=false),.f 16 _,.f 17 _,.f 18 _,.v 19 _] [.g 0,.o 13] U (zO 0 G aQ (zL 0 0 0 G ty_4 (zO 1 G aQ (zL 2 1 0 G ty_4 (zv G (r_neqb zk (vq 1 G) (vq 3 G)) (zv G (a8 (vq 4 G)) (zC 5 0 G au (zB 5 G (λ hg=>aH 6 G zk hg (lz0 0 G) (Sub.part 1 G G) bh) (zB 5 G (λ hg=>aL Tryz.underlying24 (ab (vq 7 G) hg)) (zC 5 1 G au (zB 5 G (λ hg=>aH 9 G zk hg (lz0 1 G) (Sub.part 1 G G) bh) (zB 5 G (λ hg=>aL Tryz.underlying24 (ab (vq 10 G) hg)) (zB 5 G (λ hg=>bv (ab (vq 8 G) hg) (ab (vq 11 G) hg)) (zv G (r_or (vq 5 G) (vq 12 G)) o0)))))))))))))) (zz [(4,_),(19,_)] [O 2 26 _,O 3 26 _] λ a w U=>?_)
 refine a4<|a9 U (zm 1 G) (λ hb0=>?_) (λ hb0=>?_)
 ·refine qa<|zg [η,η] [] [.v 4 _] [.o 0] U (zv G (a6 aG) o0) (zz [(4,_)] [O 2 26 _,O 3 26 _] λ a w U=>?_)
  refine a4<|qe<|ac ?_
  refine ai ?_ (aj G U (zm 0 G))
  exact bE (qr Bo (same_no1 hb0))
 ·obtain ⟨hn1,hl⟩:=same_two hb0
  refine qj<|zt<|qa<|zg [η,η] [] [.v 5 _] [.g 0,.o 0] U (zv G (a6 a5) o0) (zz [(4,_),(5,_)] [O 2 26 _,O 3 26 _] λ a w U=>?_)
  refine a4<|qo ?_
  have U:=St.sel U [1]
  refine wp_loop_ghost (λ n a w=>∃ j:Nat,(n+j=x.mag.length∧x.mag.take j=y.mag.take j)∧St B w0 38 [(5,In (j:Nat))] [⟨2,26,ptrH,RIA x⟩,⟨3,26,ptrH,RIA y⟩] a w) (x.mag.length) ?_ ?_
  ·exact ⟨0,⟨by omega,rfl⟩,U⟩
  intro n a w hI
  obtain ⟨j,⟨hn,ht⟩,U⟩:=hI
  refine qa<|qa<|zg [η,η] [] [.v 20 _,.adr 21 2 (.some 1) True,.v 22 _,.v 23 _,.v 24 _] [.g 0,.o 4] U (zM 0 G (zO 0 G au (zL 1 0 1 G bh (zv G (aL Tryz.underlying24 (vq 2 G)) (zv G (aX (vq 0 G) (vq 3 G)) o0))))) (zz [(5,_),(24,_)] [O 2 26 _,O 3 26 _] λ a w U=>?_)
  refine a4<|a9 U (zm 1 G) (λ hb1=>?_) (λ hb1=>?_)
  ·have hj:j<x.mag.length:=by simp at hb1; omega
   refine qj<|zt<|qo<|qa<|zgd [[],[0],[],[0,1,2],[0,1,2,3],[],[5],[],[5,6,7],[5,6,7,8],[0,1,2,3,4,5,6,7,8,9]] [none,none] [] [.adr 27 2 (.some 1) True,.v 28 _,.v 29 _,.v 30 _,.v 31 _,.adr 32 3 (.some 1) True,.v 33 _,.v 34 _,.v 35 _,.v 36 _,.v 37 _] [.g 0,.o 10] a7 U (zO 0 G au (zL 0 0 1 G bh (zM 0 G (zv G (bI aT (vq 1 G) (vq 2 G) zo) (zv G (am (vq 3 G) aD) (zO 1 G au (zL 5 1 1 G bh (zM 0 G (zv G (bI aT (vq 6 G) (vq 7 G) zo) (zv G (am (vq 8 G) aD) (zv G (bv (vq 4 G) (vq 9 G)) o0))))))))))) zk zk zk zk (zz [(5,_),(37,_)] [O 2 26 _,O 3 26 _] λ a w U=>?_)
   refine a4<|a9 U (zm 1 G) (λ hb2=>?_) (λ hb2=>?_)
   ·refine qa<|zg [η,η] [] [.v 4 _] [.g 0,.o 0] U (zv G (a6 aG) o0) (zz [(5,_),(4,_)] [O 2 26 _,O 3 26 _] λ a w U=>?_)
    refine a4<|qe<|aC ?_
    refine ac ?_
    refine ac ?_
    refine aC ?_
    refine ac ?_
    refine ai ?_ (aj G U (zm 1 G))
    exact bE (qr Bo (same_no2 hj zo hb2))
   ·refine qj<|al ?_
    refine a4<|zg [η,η] [] [.v 25 _,.v 26 _,.v 5 _] [.o 2] U (zM 0 G (zv G (aK (vq 0 G) a5 (wi_nx hj hxk.2)) (zA 1 G o0))) (zz [(5,_)] [O 2 26 _,O 3 26 _] λ a w U=>?_)
    refine a4 ?_
    have U:=St.sel U [0]
    exact ⟨n-1,by omega,j+1,⟨by omega,take_eq hj zo ht hb2⟩,U⟩
  ·obtain rfl:j=x.mag.length:=by simp at hb1; omega
   refine qZ<|ak<|ak<|aB<|zt<|zg [η,η] [] [.v 4 _] [.o 0] U (zv G (a6 aG) o0) (zz [(4,_)] [O 2 26 _,O 3 26 _] λ a w U=>?_)
   refine a4<|qe<|ai ?_ (aj G U (zm 0 G))
   exact bE (qr Bo (same_yes hn1 (by rw [qD (qg _),qD zo] at ht; exact ht)))
theorem eG (x y:RF):Cn Tryz.prog 13 [(RFA x).va,(RFA y).va] (Bo (decide (x=y))):=by
 refine Cn.intro Tryz.func13 G zk nq (λ B w0 a U=>?_)
 have U:=zn [(0,(RFA x).va),(1,(RFA y).va)] [] U
 refine qa<|zg [] [⟨2,28,ptrH,some 0,_,none⟩,⟨3,28,ptrH,some 1,_,none⟩] [.alc 0,.alc 1,.v 4 _] [.o 2] U (zW 0 G (zW 1 G (zv G (a6 aG) o0))) (zz [(4,_)] [O 2 28 _,O 3 28 _] λ a w U=>?_)
 refine zt<|zg [η,η] [] [.adr 5 2 (.some 0) True,.v 6 _,.adr 7 3 (.some 0) True,.v 8 _,.v 9 _,.v 10 _,.adr 11 2 (.some 2) (_=true),.t 12 _,.adr 13 3 (.some 2) (_=true),.t 14 _,.t 15 _,.v 16 _,.v 4 _] [.o 12] U (zO 0 G aZ (zL 0 0 0 G ao (zO 1 G aZ (zL 2 1 0 G ao (zQ G (iI _ _) (.p (vq 1 G) (vq 3 G)) (zv G (a8 (vq 4 G)) (zC 5 0 G aP (zB 5 G (λ hg=>aH 6 G zk hg (lz0 0 G) (Sub.part 1 G G) ao) (zC 5 1 G aP (zB 5 G (λ hg=>aH 8 G zk hg (lz0 1 G) (Sub.part 1 G G) ao) (zB 5 G (λ hg=>bk (iI _ _) (.p (ab (vq 7 G) hg) (ab (vq 9 G) hg))) (zv G (bC (vq 5 G) (vq 10 G)) (zA 11 G o0))))))))))))) (zz [(4,_)] [O 2 28 _,O 3 28 _] λ a w U=>?_)
 refine a4<|qe<|ai ?_ (aj G U (zm 0 G))
 exact bE (qr Bo rf_eq)
open Go.ChangeShapes Go.WideShapes Go.ChangeAt
theorem cat_of {B:Nat}{w:World}:∀ {l:List As} {cs:List Value},cs.length=(l.map (·.n)).sum→(∀ (k:Nat) (A:As),l[k]?=some A→A.p B ((cs.drop (offs l k)).take A.n) w)→(cat l).p B cs w
 | [],cs,hl,_=>by
  have:cs=[]:=jx.1 (by simpa using hl)
  subst this
  exact ⟨[],rfl,.nil⟩
 | A::l,cs,hl,h=>by
  simp only [qF,zJ] at hl
  have h0:=h 0 A rfl
  simp only [offs,jk,x6,List.sum_nil,xz] at h0
  obtain ⟨ps,e,hps⟩:=cat_of (l:=l) (cs:=cs.drop A.n) (B:=B) (w:=w) (by simp; omega) λ k A' hk=>by
   have:=h (k+1) A' (by simpa using hk)
   simp only [offs,List.take_succ_cons,qF,zJ] at this
   rw [List.drop_drop]
   exact this
  exact ⟨cs.take A.n::ps,by rw [zH,← e,xM],.cons h0 hps⟩
section
variable {H:Type} {enc:TypeId × Value→H} {w:World} {base:Nat} {spare:Nat→Bool} {held:Bool} {fuel:Nat} {cs:List Value} {x:DataW H × List MemPlace}
theorem rd_mg (h:DataW.trod enc Tryz.prog w base spare held fuel 24 cs=some x):∃ l,(MgA l).p w.heap.size cs w:=by
 rcases open_ints Tryz.underlying24 Tryz.underlying113 zk h with ⟨hcs,_⟩ | ⟨a,len,cap,zs,rfl,_,hl,hm,hz,_,hcell,hwz⟩
 ·subst hcs
  exact ⟨[],fE _ _⟩
 ·have hzl:len≤zs.length:=by rw [hz]; split <;> omega
  have hnn:∀ n∈zs,0≤n∧n<4294967296:=λ n hn=>by
   have:=hwz n hn
   simp [Lit.wf,IntKind.min,IntKind.max,IntKind.signed,IntKind.bits] at this
   omega
  have hlen:((zs.take len).map Int.toNat).length=len:=by simp; omega
  refine ⟨(zs.take len).map Int.toNat,?_⟩
  have hM:Mag w.heap.size w (some a) cap ((zs.take len).map Int.toNat):=by
   refine ⟨λ y hy=>?_,by omega,hm,λ hn=>?_⟩
   ·obtain ⟨n,hn,rfl⟩:=qt.1 hy
    have:=hnn n (z4 hn)
    omega
   ·obtain ⟨b,off,rfl,hc⟩:=ints_at hcell zo
    have hb:b<w.heap.size:=World.block_lt_of_cell? w _ (hc 0 zo)
    refine ⟨b,off,rfl,hb,.inl hb,λ j hj=>?_⟩
    rw [hc j zo]
    have hjz:j<zs.length:=by omega
    have:=hnn _ (qi hjz)
    congr 2
    simp only [List.getElem_map,jV]
    rw [Int.toNat_of_nonneg this.1]
    simp [List.getD_eq_getElem?_getD,List.getElem?_eq_getElem hjz]
  obtain ⟨ds,hp,hv⟩:=fC hM hlen.symm
  have hd:=(MgA ((zs.take len).map Int.toNat)).len _ _ _ hp
  match ds,hd with
  | [d],_ =>
   have:d=.slice (some a) len cap:=hv.symm
   subst this
   exact hp
theorem cat_two {A0 A1:As}(h0:A0.p B ((cs.drop 0).take A0.n) w)(h1:A1.p B ((cs.drop A0.n).take A1.n) w)(hl:cs.length=A0.n+A1.n):(cat [A0,A1]).p B cs w :=
 cat_of (by simpa using hl) λ k A hk=>by
  match k,hk with
  | 0,hk=>simp at hk; subst hk; exact h0
  | 1,hk=>simp at hk; subst hk; simpa [offs] using h1
theorem rd_bo (h:DataW.trod enc Tryz.prog w base spare held fuel 4 cs=some x):∃ b,(BoA b).p w.heap.size cs w:=by
 obtain ⟨b,hb,_⟩:=DataW.trod_bool Tryz.underlying4 h
 exact ⟨b,hb⟩
theorem rd_ri (h:DataW.trod enc Tryz.prog w base spare held fuel 26 cs=some x):∃ y,(RIA y).p w.heap.size cs w:=by
 obtain ⟨y0,y1,n,_,hl,h0,h1⟩:=trod_struct2 Tryz.underlying26 h
 have hl':cs.length=2:=hl.trans zk
 have c0:Tryz.prog.cellsOf 4=1:=by kernel_rfl
 have c1:Tryz.prog.cellsOf 24=1:=by kernel_rfl
 simp only [c0,c1] at h0 h1
 obtain ⟨a,ha⟩:=rd_bo h0
 obtain ⟨b,hb⟩:=rd_mg h1
 exact ⟨⟨a,b⟩,cat_two ha hb hl'⟩
theorem rd_rf (h:DataW.trod enc Tryz.prog w base spare held fuel 28 cs=some x):∃ y,(RFA y).p w.heap.size cs w:=by
 obtain ⟨y0,y1,n,_,hl,h0,h1⟩:=trod_struct2 Tryz.underlying28 h
 have hl':cs.length=4:=hl.trans zk
 have c0:Tryz.prog.cellsOf 26=2:=by kernel_rfl
 simp only [c0] at h0 h1
 obtain ⟨a,ha⟩:=rd_ri h0
 obtain ⟨b,hb⟩:=rd_ri h1
 exact ⟨⟨a,b⟩,cat_two ha hb hl'⟩
theorem arg_of {α:Type}{A:α→As}{t:TypeId}{fs:Array Field}{r:Reach}{b0:Nat}{d:DataW H}{p:List MemPlace}(hag:∀ y,(A y).ag=true)(ht:P.underlying t=some (.struct fs))
  (rd:∀ {fuel:Nat} {cs:List Value} {x:DataW H × List MemPlace},DataW.trod enc P w base spare held fuel t cs=some x→∃ y,(A y).p w.heap.size cs w)
  (hv:Value.okWide P w r b0 t v) (h:DataW.Trod enc P w base spare held t v d p):∃ y,(A y).va.p w.heap.size v w:=by
 obtain ⟨cs,hcs,_⟩:=okWide_struct ht hv
 subst hcs
 obtain ⟨fuel,hf⟩:=h
 obtain ⟨y,hy⟩:=rd hf
 refine ⟨y,cs.toList,hy,?_⟩
 unfold shape
 rw [hag y,ql rfl]
end
theorem cmF_of {a b:Rat}(ha:longQ a=false)(hb:longQ b=false):cmF (rfOf a) (rfOf b)=cmQ a b:=by
 rw [cmF,gc,gc,ha,hb,cz,cz]; rfl
theorem div_pos {x y:Rat}(h:0<x)(h':0<y):0<x/y:=Rat.mul_pos h (Rat.inv_pos.2 h')
theorem toM_of (m:MQ):toM (rmOf m)=m:=by show (⟨toQ (rfOf m.a),toQ (rfOf m.b),toQ (rfOf m.c),toQ (rfOf m.d)⟩:MQ)=m; rw [cz,cz,cz,cz]
def powF (m:RM):RF × Int:=if okM m then ansF (-(toM m).c) else (rf0,1)
theorem chk1 {c:Bool}:((if c then (0:Int) else 1) != 0) = !c:=by cases c <;> rfl
theorem im1_q {c:Nat}{x:Rat}(hc:c≤549755813888):Cn Tryz.prog 70 [Qs c x] (FrR (ansF x)):=by
 refine Cn.intro Tryz.func70 G zk nq (λ B w0 a U=>?_)
 have U:=zn [(0,Qs c x)] [] U
 refine qa<|zg [] [⟨1,28,ptrH,some 0,_,none⟩,⟨2,28,ptrH,some 1,_,none⟩] [.alc 0,.alc 1,.v 3 _] [.o 2] U (zW 0 G (zY G (Str.zero ap) (zv G (a6 a5) o0))) (zz [(3,_)] [O 1 28 _,O 2 28 _] λ a w U=>?_)
 refine zt<|qa<|zg [η,η] [] [.v 5 _,.v 6 _,.v 7 _,.v 4 _] [.g 0,.o 3] U (zl 0 G aa (zv G (bt (D:=[U32]) (l:=[_]) (xs:=[.tmp 5]) (cI zk) cZ zk (n_ok zk) nq nq nq (.o (vq 0 G)) G G) (zQ G (fj [x] (.cons ⟨_,rfl⟩ .nil) nq) (.o (vq 1 G)) (zA 2 G o0)))) (zz [(3,_),(4,_)] [O 1 28 _,O 2 28 _] λ a w U=>?_)
 refine zt<|zg [η,η] [] [.v 8 _,.v 9 _] [.g 0,.g 1,.o 1] U (zM 1 G (zv G (bv (vq 0 G) a5) o0)) (zz [(3,_),(4,_),(9,_)] [O 1 28 _,O 2 28 _] λ a w U=>?_)
 refine a4<|a9 U (zm 2 G) (λ hb0=>?_) (λ hb0=>?_)
 ·rw [dA,ne0] at hb0
  refine qa<|zg [η,some (2,_)] [] [.v 10 _,.v 11 _,.sto 1,.v 3 _] [.o 3] U (zv G (aI (qs:=[]) ap .nil) (zM 1 G (zS 0 G aa (zA 1 G o0)))) (zz [(3,_)] [O 1 28 _,O 2 28 _] λ a w U=>?_)
  refine a4<|qe<|ac ?_
  refine ai ?_ (ax (rs:=[.cell 2 28,.tmp 3]) G U (.cell (zm 1 G) aa (.tmp (zm 0 G) .nil)) zd)
  rw [ansF,ql hb0]; exact tu2w az (bE (by rw [dA,hb0]; rfl))
 ·rw [dA,ne0] at hb0
  refine qj<|zt<|zg [η,some (2,_)] [] [.v 12 _,.v 13 _,.sto 1,.v 3 _] [.o 3] U (zl 0 G aa (zQ G (iY zo) (.o (vq 0 G)) (zS 1 G aa (zv G (a6 a5) o0)))) (zz [(3,_)] [O 1 28 _,O 2 28 _] λ a w U=>?_)
  refine a4<|qe<|ai ?_ (ax (rs:=[.cell 2 28,.tmp 3]) G U (.cell (zm 1 G) aa (.tmp (zm 0 G) .nil)) zd)
  rw [ansF,qk (by rw [hb0]; decide)]; exact tu2w rq_wk az
theorem okM_all {m:RM}(h:okM m=true):[m.a,m.b,m.c,m.d].all okX=true:=(okM_q h).1
theorem power_c (m:RM):Cn Tryz.prog 33 [(RMA m).va] (FrR (powF m)):=by
 refine Cn.intro Tryz.func33 G zk nq (λ B w0 a U=>?_)
 have U:=zn [(0,(RMA m).va)] [] U
 refine qa<|zg [] [⟨1,79,ptrH,some 0,_,none⟩,⟨2,28,ptrH,some 1,_,none⟩] [.alc 0,.alc 1,.v 3 _] [.o 2] U (zW 0 G (zY G (Str.zero ap) (zv G (a6 a5) o0))) (zz [(3,_)] [O 1 79 _,O 2 28 _] λ a w U=>?_)
 refine zt<|qa<|zg [η,η] [] [.v 4 _,.v 5 _,.v 6 _] [.g 0,.o 2] U (zl 0 G bf (zQ G (rayCheck_c _) (.o (vq 0 G)) (zv G (bv (vq 1 G) a5) o0))) (zz [(3,_),(6,_)] [O 1 79 _,O 2 28 _] λ a w U=>?_)
 refine a4<|a9 U (zm 1 G) (λ hb0=>?_) (λ hb0=>?_)
 ·rw [chk1,qw] at hb0
  refine qa<|zg [η,some (1,_)] [] [.v 7 _,.sto 1,.v 3 _] [.o 2] U (zv G (aI (qs:=[]) ap .nil) (zS 0 G aa (zv G (a6 a5) o0))) (zz [(3,_)] [O 1 79 _,O 2 28 _] λ a w U=>?_)
  refine a4<|qe<|ac ?_
  refine ai ?_ (ax (rs:=[.cell 2 28,.tmp 3]) G U (.cell (zm 1 G) aa (.tmp (zm 0 G) .nil)) zd)
  rw [powF,qk (by rw [hb0]; decide)]; exact az
 ·rw [chk1,xB] at hb0
  have U:=St.wkL U 0 rfl (qm_x (okM_all hb0))
  refine qj<|zt<|zg [η,some (6,_)] [] [.adr 8 1 (.some 8) True,.v 9 _,.v 10 _,.v 11 _,.v 12 _,.v 13 _,.sto 1,.v 3 _] [.o 7] U (zO 0 G bZ (zL 0 0 2 G aa (zQ G (ea zd) (.o (vq 1 G)) (zQ G (im1_q zd) (.o (vq 2 G)) (zv G (co (vq 3 G)) (zv G (cn (vq 3 G)) (zS 4 G aa (zA 5 G o0)))))))) (zz [(3,_)] [O 1 79 _,O 2 28 _] λ a w U=>?_)
  refine a4<|qe<|ai ?_ (ax (rs:=[.cell 2 28,.tmp 3]) G U (.cell (zm 1 G) aa (.tmp (zm 0 G) .nil)) zd)
  rw [powF,ql hb0]; exact az
end Go.Proofs.YtlakjmncfooodaaGreat
