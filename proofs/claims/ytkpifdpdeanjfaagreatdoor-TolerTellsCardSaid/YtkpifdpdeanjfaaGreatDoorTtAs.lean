import Derived.Test.YtkpifdpdeanjfaaGreatDoorTtAr
set_option linter.all false
set_option maxRecDepth 100000
namespace Go.Proofs.YtkpifdpdeanjfaaGreatDoor
open Go Go.RowKit
variable {w:World}{B:Nat}{a:Act}{v:Value}{T:TypeId}{w0:Bs}{Γ:List (Nat × VA)}{Λ:List Lc}{ps:String}{af:Array Edge}{vr:Value}{H:Hd}{cs:List Value}{w':World}{P:Program}{D:List TypeId}
theorem qm4 {c1 c2 c3 c4 k:Nat}{x y z u:Rat}(h1:c1≤k)(h2:c2≤k)(h3:c3≤k)(h4:c4≤k):WkA (cat [QA c1 x,QA c2 y,QA c3 z,QA c4 u]) (QMA k ⟨x,y,z,u⟩):=bz (.cons (bf h1) (.cons (bf h2) (.cons (bf h3) (.cons (bf h4) .nil))))
theorem ue {k k':Nat}{m:MQ}(h:k≤k'):WkA (QMA k m) (QMA k' m):=bz (.cons (bf h) (.cons (bf h) (.cons (bf h) (.cons (bf h) .nil))))
theorem elM_1 {x:RE}(h:x.k=1):elM x=⟨1,toQ x.p,0,1⟩:=by unfold elM; rw [h]; rfl
theorem elM_2 {x:RE}(h:x.k=2):elM x=⟨1,0,0-toQ x.p,1⟩:=by unfold elM; rw [h]; rfl
theorem elM_3 {x:RE}(h:x.k=3):elM x=⟨1,toQ x.p/toQ x.q,0,1⟩:=by unfold elM; rw [h]; rfl
theorem elM_4 {x:RE}(h:x.k=4):elM x=⟨1,0,0-toQ x.p*toQ x.q,1⟩:=by unfold elM; rw [h]; rfl
theorem elM_5 {x:RE}(h1:¬ x.k=1)(h2:¬ x.k=2)(h3:¬ x.k=3)(h4:¬ x.k=4):elM x=⟨0-1,0-0,0-0,0-1⟩:=by unfold elM elQ; rw [qA h1,qA h2,qA h3,qA h4]
theorem q3_nz {x:RE}(hk:x.k=1∨x.k=2∨(x.k=3∧toQ x.q≠0)∨x.k=4∨x.k=5)(h:x.k=3):toQ x.q≠0:=by
 rcases hk with e | e | ⟨_,e⟩ | e | e
 ·omega
 ·omega
 ·exact e
 ·omega
 ·omega
theorem as_no {c:Prop}[Decidable c](h:((if c then (4:Int) else 0) != 0)=false):¬ c:=λ hc=>by rw [qC hc] at h; simp at h
theorem as_yes {c:Prop}[Decidable c](h:((if c then (4:Int) else 0) != 0)=true):c:=Decidable.byContradiction λ hc=>by rw [qA hc] at h; simp at h
theorem u6 {L:List As}(qs:List Rat)(hL:All2 IsQ L qs)(hl:qs.length≤1099511627776):Cn Tryz.prog 122 [(SlA 30 [U32] L).va] (In (if qs.any longQ then 4 else 0)):=by
 refine Cn.intro Tryz.func122 G zk nq (λ B w0 a U=>?_)
 have U:=zn [(0,(SlA 30 [U32] L).va)] [] U
 refine qb<|zh [.v 2 _] [.g 0,.o 0] U (zv G (a9 a8) o0) (zz [(0,_),(2,_)] [] λ a w U=>?_)
 refine zt<|qb<|zh [.v 3 _,.v 4 _] [.g 1,.o 1] U (zM 0 G (zQ G (BI qs hL hl) (.o (vq 0 G)) o0)) (zz [(2,_),(4,_)] [] λ a w U=>?_)
 refine a7<|ae U (zm 1 G) (λ hb0=>?_) (λ hb0=>?_)
 ·refine qb<|zh [.v 2 _] [.o 0] U (zv G (a9 a8) o0) (zz [(2,_)] [] λ a w U=>?_)
  refine a7<|qe<|ao ?_
  refine aj ?_ (an G U (zm 0 G))
  rw [hb0]; exact aL
 ·refine qh<|zt<|zh [.v 2 _] [.o 0] U (zv G (a9 a8) o0) (zz [(2,_)] [] λ a w U=>?_)
  refine a7<|qe<|aj ?_ (an G U (zm 0 G))
  rw [hb0]; exact aL
theorem iD {c d e f:Nat}{x y z u:Rat}(hk:c+d+e+f≤900000000):Cn Tryz.prog 241 [Qs c x,Qs d y,Qs e z,Qs f u] (Qs (c+d+(e+f)+1) (x*y+z*u)):=by
 refine Cn.intro Tryz.func241 G zk nq (λ B w0 a U=>?_)
 have U:=zn [(0,Qs c x),(1,Qs d y),(2,Qs e z),(3,Qs f u)] [] U
 refine qb<|zg [] [⟨4,30,ptrH,some 0,_,none⟩,⟨5,30,ptrH,some 1,_,none⟩,⟨6,30,ptrH,some 2,_,none⟩,⟨7,30,ptrH,some 3,_,none⟩,⟨8,30,ptrH,some 4,_,none⟩] [.alc 0,.alc 1,.alc 2,.alc 3,.alc 4] [] U (zW 0 G (zW 1 G (zW 2 G (zW 3 G (zY G (Str.zero az) o0))))) (zz [] [O 4 30 _,O 5 30 _,O 6 30 _,O 7 30 _,O 8 30 _] λ a w U=>?_)
 refine zt<|zgd [[],[],[0,1],[],[],[0,1,2,3,4],[0,1,2,3,4,5],[0,1,2,3,4,5,6]] [none,none,none,none,some (7,_)] [] [.v 9 _,.v 10 _,.v 11 _,.v 12 _,.v 13 _,.v 14 _,.v 15 _,.sto 4] [] aa U (zl 0 G ak (zl 1 G ak (zQ G (lj zo) (.p (vq 0 G) (vq 1 G)) (zl 2 G ak (zl 3 G ak (zQ G (lj zo) (.p (vq 3 G) (vq 4 G)) (zQ G (cX zo) (.p (vq 2 G) (vq 5 G)) (zS 6 G ak o0)))))))) zk zk zk zk (zz [] [O 4 30 _,O 5 30 _,O 6 30 _,O 7 30 _,O 8 30 _] λ a w U=>?_)
 refine a7<|qe<|aj ?_ (ap G U (zm 4 G) ak)
 exact aL
theorem wC {c d:Nat}{m q:MQ}(hk:c+d≤200000000):Cn Tryz.prog 207 [(QMA c m).va,(QMA d q).va] ((QMA (c+d+(c+d)+1) (mulQ m q)).va):=by
 refine Cn.intro Tryz.func207 G zk nq (λ B w0 a U=>?_)
 have U:=zn [(0,(QMA c m).va),(1,(QMA d q).va)] [] U
 refine qb<|zg [] [⟨2,80,ptrH,some 0,_,none⟩,⟨3,80,ptrH,some 1,_,none⟩,⟨4,80,ptrH,some 2,_,none⟩] [.alc 0,.alc 1,.alc 2] [] U (zW 0 G (zW 1 G (zY G (Str.zero aS) o0))) (zz [] [O 2 80 _,O 3 80 _,O 4 80 _] λ a w U=>?_)
 refine zt<|f9 (anc:=[[],[0],[],[2],[],[4],[],[6],[0,1,2,3,4,5,6,7],[],[9],[],[11],[],[13],[],[15],[0,1,2,3,4,5,6,7,8,9,10,11,12,13,14,15,16],[],[18],[],[20],[],[22],[],[24],[0,1,2,3,4,5,6,7,8,9,10,11,12,13,14,15,16,17,18,19,20,21,22,23,24,25],[],[27],[],[29],[],[31],[],[33],[0,1,2,3,4,5,6,7,8,9,10,11,12,13,14,15,16,17,18,19,20,21,22,23,24,25,26,27,28,29,30,31,32,33,34],[0,1,2,3,4,5,6,7,8,9,10,11,12,13,14,15,16,17,18,19,20,21,22,23,24,25,26,27,28,29,30,31,32,33,34,35],[0,1,2,3,4,5,6,7,8,9,10,11,12,13,14,15,16,17,18,19,20,21,22,23,24,25,26,27,28,29,30,31,32,33,34,35,36]]) (sts:=[none,none,some (37,_)]) (news:=[]) (sp:=((.adr 5 2 (.some 0) True:Sp)::(.v 6 _)::(.adr 7 3 (.some 0) True)::(.v 8 _)::(.adr 9 2 (.some 4) True)::(.v 10 _)::(.adr 11 3 (.some 8) True)::(.v 12 _)::(.v 13 _)::(.adr 14 2 (.some 0) True)::(.v 15 _)::(.adr 16 3 (.some 4) True)::(.v 17 _)::(.adr 18 2 (.some 4) True)::(.v 19 _)::(.adr 20 3 (.some 12) True)::(.v 21 _)::(.v 22 _)::(.adr 23 2 (.some 8) True)::(.v 24 _)::(.adr 25 3 (.some 0) True)::(.v 26 _)::(.adr 27 2 (.some 12) True)::(.v 28 _)::(.adr 29 3 (.some 8) True)::(.v 30 _)::(.v 31 _)::(.adr 32 2 (.some 8) True)::(.v 33 _)::(.adr 34 3 (.some 4) True)::(.v 35 _)::(.adr 36 2 (.some 12) True)::(.v 37 _)::(.adr 38 3 (.some 12) True)::(.v 39 _)::(.v 40 _)::(.v 41 _)::(.sto 2)::[])) [] aa U (zO 0 G cL (zL 0 0 0 G ak (zO 1 G cL (zL 2 1 0 G ak (zO 0 G cK (zL 4 0 1 G ak (zO 1 G cB (zL 6 1 2 G ak (zQ G (iD zo) (.cons (vq 1 G) (.cons (vq 3 G) (.p (vq 5 G) (vq 7 G)))) (zO 0 G cL (zL 9 0 0 G ak (zO 1 G cK (zL 11 1 1 G ak (zO 0 G cK (zL 13 0 1 G ak (zO 1 G cJ (zL 15 1 3 G ak (zQ G (iD zo) (.cons (vq 10 G) (.cons (vq 12 G) (.p (vq 14 G) (vq 16 G)))) (zO 0 G cB (zL 18 0 2 G ak (zO 1 G cL (zL 20 1 0 G ak (zO 0 G cJ (zL 22 0 3 G ak (zO 1 G cB (zL 24 1 2 G ak (zQ G (iD zo) (.cons (vq 19 G) (.cons (vq 21 G) (.p (vq 23 G) (vq 25 G)))) (zO 0 G cB (zL 27 0 2 G ak (zO 1 G cK (zL 29 1 1 G ak (zO 0 G cJ (zL 31 0 3 G ak (zO 1 G cJ (zL 33 1 3 G ak (zQ G (iD zo) (.cons (vq 28 G) (.cons (vq 30 G) (.p (vq 32 G) (vq 34 G)))) (zv G (aO (qs:=[(0,_),(1,_),(2,_),(3,_)]) aS (.cons ⟨rfl,vq 8 rfl,rfl⟩ (.cons ⟨rfl,vq 17 rfl,rfl⟩ (.cons ⟨rfl,vq 26 rfl,rfl⟩ (.cons ⟨rfl,vq 35 rfl,rfl⟩ .nil))))) (zS 36 G bE o0)))))))))))))))))))))))))))))))))))))) zk zk zk zk (zz [] [O 2 80 _,O 3 80 _,O 4 80 _] λ a w U=>?_)
 refine a7<|qe<|aj ?_ (ap G U (zm 2 G) bE)
 exact aL
theorem BL {c:Nat}{x:Rat}(hc:c≤800000000):Cn Tryz.prog 265 [Qs c x] (Qs (c+2+1) x):=by
 refine Cn.intro Tryz.func265 G zk nq (λ B w0 a U=>?_)
 have U:=zn [(0,Qs c x)] [] U
 refine qb<|zg [] [⟨1,30,ptrH,some 0,_,none⟩,⟨2,30,ptrH,some 1,_,none⟩] [.alc 0,.alc 1] [] U (zW 0 G (zY G (Str.zero az) o0)) (zz [] [O 1 30 _,O 2 30 _] λ a w U=>?_)
 refine zt<|zgd [[],[],[0,1],[0,1,2]] [none,some (3,_)] [] [.v 3 _,.v 4 _,.v 5 _,.sto 1] [] aa U (zl 0 G ak (zQ G bM .nil (zQ G (cX zo) (.p (vq 0 G) (vq 1 G)) (zS 2 G ak o0)))) zk zk zk zk (zz [] [O 1 30 _,O 2 30 _] λ a w U=>?_)
 refine a7<|qe<|aj ?_ (ap G U (zm 1 G) ak)
 exact bj (qk (Qs _) (xM x))
theorem eR {c:Nat}{x:Rat}(hc:c≤800000000):Cn Tryz.prog 266 [Qs c x] (Qs (2+c+1) (0-x)):=by
 refine Cn.intro Tryz.func266 G zk nq (λ B w0 a U=>?_)
 have U:=zn [(0,Qs c x)] [] U
 refine qb<|zg [] [⟨1,30,ptrH,some 0,_,none⟩,⟨2,30,ptrH,some 1,_,none⟩] [.alc 0,.alc 1] [] U (zW 0 G (zY G (Str.zero az) o0)) (zz [] [O 1 30 _,O 2 30 _] λ a w U=>?_)
 refine zt<|zgd [[],[],[0,1],[0,1,2]] [none,some (3,_)] [] [.v 3 _,.v 4 _,.v 5 _,.sto 1] [] aa U (zQ G bM .nil (zl 0 G ak (zQ G (ll zo) (.p (vq 0 G) (vq 1 G)) (zS 2 G ak o0)))) zk zk zk zk (zz [] [O 1 30 _,O 2 30 _] λ a w U=>?_)
 refine a7<|qe<|aj ?_ (ap G U (zm 1 G) ak)
 exact aL
theorem lw {c d e f:Nat}{x y z u:Rat}:Cn Tryz.prog 264 [Qs c x,Qs d y,Qs e z,Qs f u] ((cat [QA c x,QA d y,QA e z,QA f u]).va):=by
 refine Cn.intro Tryz.func264 G zk nq (λ B w0 a U=>?_)
 have U:=zn [(0,Qs c x),(1,Qs d y),(2,Qs e z),(3,Qs f u)] [] U
 refine qb<|zg [] [⟨4,30,ptrH,some 0,_,none⟩,⟨5,30,ptrH,some 1,_,none⟩,⟨6,30,ptrH,some 2,_,none⟩,⟨7,30,ptrH,some 3,_,none⟩,⟨8,80,ptrH,some 4,_,none⟩] [.alc 0,.alc 1,.alc 2,.alc 3,.alc 4] [] U (zW 0 G (zW 1 G (zW 2 G (zW 3 G (zY G (Str.zero aS) o0))))) (zz [] [O 4 30 _,O 5 30 _,O 6 30 _,O 7 30 _,O 8 80 _] λ a w U=>?_)
 refine zt<|zg [η,η,η,η,some (5,_)] [] [.v 9 _,.v 10 _,.v 11 _,.v 12 _,.v 13 _,.sto 4] [] U (zl 0 G ak (zl 1 G ak (zl 2 G ak (zl 3 G ak (zv G (aO (qs:=[(0,_),(1,_),(2,_),(3,_)]) aS (.cons ⟨rfl,vq 0 rfl,rfl⟩ (.cons ⟨rfl,vq 1 rfl,rfl⟩ (.cons ⟨rfl,vq 2 rfl,rfl⟩ (.cons ⟨rfl,vq 3 rfl,rfl⟩ .nil))))) (zS 4 G bE o0)))))) (zz [] [O 4 30 _,O 5 30 _,O 6 30 _,O 7 30 _,O 8 80 _] λ a w U=>?_)
 refine a7<|qe<|aj ?_ (ap G U (zm 4 G) bE)
 exact aL
theorem mE {c:Nat}{x:Rat}(hc:c≤800000000):Cn Tryz.prog 242 [Qs c x] ((QMA (c+3) ⟨1,x,0,1⟩).va):=by
 refine Cn.intro Tryz.func242 G zk nq (λ B w0 a U=>?_)
 have U:=zn [(0,Qs c x)] [] U
 refine qb<|zg [] [⟨1,30,ptrH,some 0,_,none⟩,⟨2,80,ptrH,some 1,_,none⟩] [.alc 0,.alc 1] [] U (zW 0 G (zY G (Str.zero aS) o0)) (zz [] [O 1 30 _,O 2 80 _] λ a w U=>?_)
 refine zt<|zgd [[],[],[0,1],[0,1,2],[0,1,2,3],[0,1,2,3,4],[0,1,2,3,4,5]] [none,some (6,_)] [] [.v 3 _,.v 4 _,.v 5 _,.v 6 _,.v 7 _,.v 8 _,.sto 1] [] aa U (zQ G gO .nil (zl 0 G ak (zQ G (BL zo) (.o (vq 1 G)) (zQ G bM .nil (zQ G gO .nil (zQ G lw (.cons (vq 0 G) (.cons (vq 2 G) (.p (vq 3 G) (vq 4 G)))) (zS 5 G bE o0))))))) zk zk zk zk (zz [] [O 1 30 _,O 2 80 _] λ a w U=>?_)
 refine a7<|qe<|aj ?_ (ap G U (zm 1 G) bE)
 exact (qm4 zo zo zo zo).va
theorem p9 {c:Nat}{x:Rat}(hc:c≤800000000):Cn Tryz.prog 243 [Qs c x] ((QMA (c+3) ⟨1,0,0-x,1⟩).va):=by
 refine Cn.intro Tryz.func243 G zk nq (λ B w0 a U=>?_)
 have U:=zn [(0,Qs c x)] [] U
 refine qb<|zg [] [⟨1,30,ptrH,some 0,_,none⟩,⟨2,80,ptrH,some 1,_,none⟩] [.alc 0,.alc 1] [] U (zW 0 G (zY G (Str.zero aS) o0)) (zz [] [O 1 30 _,O 2 80 _] λ a w U=>?_)
 refine zt<|zgd [[],[0],[],[0,1,2],[0,1,2,3],[0,1,2,3,4],[0,1,2,3,4,5]] [none,some (6,_)] [] [.v 3 _,.v 4 _,.v 5 _,.v 6 _,.v 7 _,.v 8 _,.sto 1] [] aa U (zQ G gO .nil (zQ G bM .nil (zl 0 G ak (zQ G (eR zo) (.o (vq 2 G)) (zQ G gO .nil (zQ G lw (.cons (vq 0 G) (.cons (vq 1 G) (.p (vq 3 G) (vq 4 G)))) (zS 5 G bE o0))))))) zk zk zk zk (zz [] [O 1 30 _,O 2 80 _] λ a w U=>?_)
 refine a7<|qe<|aj ?_ (ap G U (zm 1 G) bE)
 exact (qm4 zo zo zo zo).va
theorem rf {c:Nat}{m:MQ}(hc:c≤800000000):Cn Tryz.prog 246 [(QMA c m).va] ((QMA (c+3) ⟨0-m.a,0-m.b,0-m.c,0-m.d⟩).va):=by
 refine Cn.intro Tryz.func246 G zk nq (λ B w0 a U=>?_)
 have U:=zn [(0,(QMA c m).va)] [] U
 refine qb<|zg [] [⟨1,80,ptrH,some 0,_,none⟩,⟨2,80,ptrH,some 1,_,none⟩] [.alc 0,.alc 1] [] U (zW 0 G (zY G (Str.zero aS) o0)) (zz [] [O 1 80 _,O 2 80 _] λ a w U=>?_)
 refine zt<|zgd [[],[0],[0,1],[],[3],[0,1,2,3,4],[],[6],[0,1,2,3,4,5,6,7],[],[9],[0,1,2,3,4,5,6,7,8,9,10],[0,1,2,3,4,5,6,7,8,9,10,11],[0,1,2,3,4,5,6,7,8,9,10,11,12]] [none,some (13,_)] [] [.adr 3 1 (.some 0) True,.v 4 _,.v 5 _,.adr 6 1 (.some 4) True,.v 7 _,.v 8 _,.adr 9 1 (.some 8) True,.v 10 _,.v 11 _,.adr 12 1 (.some 12) True,.v 13 _,.v 14 _,.v 15 _,.sto 1] [] aa U (zO 0 G cL (zL 0 0 0 G ak (zQ G (eR zo) (.o (vq 1 G)) (zO 0 G cK (zL 3 0 1 G ak (zQ G (eR zo) (.o (vq 4 G)) (zO 0 G cB (zL 6 0 2 G ak (zQ G (eR zo) (.o (vq 7 G)) (zO 0 G cJ (zL 9 0 3 G ak (zQ G (eR zo) (.o (vq 10 G)) (zQ G lw (.cons (vq 2 G) (.cons (vq 5 G) (.p (vq 8 G) (vq 11 G)))) (zS 12 G bE o0)))))))))))))) zk zk zk zk (zz [] [O 1 80 _,O 2 80 _] λ a w U=>?_)
 refine a7<|qe<|aj ?_ (ap G U (zm 1 G) bE)
 exact (qm4 zo zo zo zo).va
theorem Fu {x:RE}(h:elF x=true):Cn Tryz.prog 208 [(REA x).va] ((QMA 4099 (elM x)).va):=by
 obtain ⟨hx,hk⟩:=ot h
 refine Cn.intro Tryz.func208 G zk nq (λ B w0 a U=>?_)
 have U:=zn [(0,(REA x).va)] [] U
 refine qb<|zg [] [⟨1,92,ptrH,some 0,_,none⟩,⟨2,80,ptrH,some 1,_,none⟩] [.alc 0,.alc 1] [] U (zW 0 G (zY G (Str.zero aS) o0)) (zz [] [O 1 92 _,O 2 80 _] λ a w U=>?_)
 have U:=St.wkL U 0 rfl (el_q hx)
 refine zt<|qb<|zg [η,η] [] [.adr 3 1 (.some 0) True,.v 4 _] [.o 1] U (zO 0 G cI (zL 0 0 0 G dz o0)) (zz [(4,_)] [O 1 92 _,O 2 80 _] λ a w U=>?_)
 refine a7<|ql<|qb<|zg [η,η] [] [.v 6 _,.v 5 _] [.g 0,.o 1] U (zv G (bF (gq 0 G) a8) (zA 0 G o0)) (zz [(4,_),(5,_)] [O 1 92 _,O 2 80 _] λ a w U=>?_)
 refine a7<|ae U (zm 1 G) (λ hb0=>?_) (λ hb0=>?_)
 ·have hk1:x.k=1:=by simpa using hb0
  refine qb<|zg [η,some (3,_)] [] [.adr 7 1 (.some 1) True,.v 8 _,.v 9 _,.sto 1] [] U (zO 0 G bT (zL 0 0 1 G ak (zQ G (mE zo) (.o (vq 1 G)) (zS 2 G bE o0)))) (zz [] [O 1 92 _,O 2 80 _] λ a w U=>?_)
  refine a7<|qe<|aT ?_
  refine ao ?_
  refine aj ?_ (ap G U (zm 1 G) bE)
  rw [elM_1 hk1]; exact (ue zd).va
 ·have hk1:¬ x.k=1:=by simpa using hb0
  refine qb<|zg [η,η] [] [.v 11 _,.v 10 _] [.g 0,.o 1] U (zv G (bF (gq 0 G) a8) (zA 0 G o0)) (zz [(4,_),(10,_)] [O 1 92 _,O 2 80 _] λ a w U=>?_)
  refine a7<|ae U (zm 1 G) (λ hb1=>?_) (λ hb1=>?_)
  ·have hk2:x.k=2:=by simpa using hb1
   refine qb<|zg [η,some (3,_)] [] [.adr 12 1 (.some 1) True,.v 13 _,.v 14 _,.sto 1] [] U (zO 0 G bT (zL 0 0 1 G ak (zQ G (p9 zo) (.o (vq 1 G)) (zS 2 G bE o0)))) (zz [] [O 1 92 _,O 2 80 _] λ a w U=>?_)
   refine a7<|qe<|aT ?_
   refine ao ?_
   refine aj ?_ (ap G U (zm 1 G) bE)
   rw [elM_2 hk2]; exact (ue zd).va
  ·have hk2:¬ x.k=2:=by simpa using hb1
   refine qb<|zg [η,η] [] [.v 16 _,.v 15 _] [.g 0,.o 1] U (zv G (bF (gq 0 G) a8) (zA 0 G o0)) (zz [(4,_),(15,_)] [O 1 92 _,O 2 80 _] λ a w U=>?_)
   refine a7<|ae U (zm 1 G) (λ hb2=>?_) (λ hb2=>?_)
   ·have hk3:x.k=3:=by simpa using hb2
    refine qb<|zg [η,some (6,_)] [] [.adr 17 1 (.some 1) True,.v 18 _,.adr 19 1 (.some 5) True,.v 20 _,.v 21 _,.v 22 _,.sto 1] [] U (zO 0 G bT (zL 0 0 1 G ak (zO 0 G bX (zL 2 0 2 G ak (zQ G (BH zo (q3_nz hk hk3)) (.p (vq 1 G) (vq 3 G)) (zQ G (mE zo) (.o (vq 4 G)) (zS 5 G bE o0))))))) (zz [] [O 1 92 _,O 2 80 _] λ a w U=>?_)
    refine a7<|qe<|aT ?_
    refine ao ?_
    refine aj ?_ (ap G U (zm 1 G) bE)
    rw [elM_3 hk3]; exact (ue zd).va
   ·have hk3:¬ x.k=3:=by simpa using hb2
    refine qb<|zg [η,η] [] [.v 24 _,.v 23 _] [.o 1] U (zv G (bF (gq 0 G) a8) (zA 0 G o0)) (zz [(23,_)] [O 1 92 _,O 2 80 _] λ a w U=>?_)
    refine a7<|ae U (zm 0 G) (λ hb3=>?_) (λ hb3=>?_)
    ·have hk4:x.k=4:=by simpa using hb3
     refine qb<|zg [η,some (6,_)] [] [.adr 25 1 (.some 1) True,.v 26 _,.adr 27 1 (.some 5) True,.v 28 _,.v 29 _,.v 30 _,.sto 1] [] U (zO 0 G bT (zL 0 0 1 G ak (zO 0 G bX (zL 2 0 2 G ak (zQ G (lj zo) (.p (vq 1 G) (vq 3 G)) (zQ G (p9 zo) (.o (vq 4 G)) (zS 5 G bE o0))))))) (zz [] [O 1 92 _,O 2 80 _] λ a w U=>?_)
     refine a7<|qe<|aT ?_
     refine ao ?_
     refine aj ?_ (ap G U (zm 1 G) bE)
     rw [elM_4 hk4]; exact (ue zd).va
    ·have hk4:¬ x.k=4:=by simpa using hb3
     refine qh<|am ?_
     refine zt<|zg [η,some (2,_)] [] [.v 31 _,.v 32 _,.sto 1] [] U (zQ G wD .nil (zQ G (rf (m:=⟨1,0,0,1⟩) zo) (.o (vq 0 G)) (zS 1 G bE o0))) (zz [] [O 1 92 _,O 2 80 _] λ a w U=>?_)
     refine a7<|qe<|aj ?_ (ap G U (zm 1 G) bE)
     rw [elM_5 hk1 hk2 hk3 hk4]; exact (ue zd).va
set_option maxHeartbeats 1000000 in
theorem ig {xs:List RE}(h4:xs.length≤4096)(ha:xs.all elF=true):Cn Tryz.prog 134 [(SlA 92 [U32] (xs.map REA)).va] ((QMA 16781313 (prodQ xs)).va):=by
 refine Cn.intro Tryz.func134 G zk nq (λ B w0 a U=>?_)
 have U:=zn [(0,(SlA 92 [U32] (xs.map REA)).va)] [] U
 have hr:=iF ha
 refine qb<|zg [] [⟨2,80,ptrH,some 0,_,none⟩] [.alc 0] [.g 0] U (zY G (Str.zero aS) o0) (zz [(0,_)] [O 2 80 _] λ a w U=>?_)
 refine zt<|zg [η] [⟨3,80,ptrH,some 1,_,some (2,_)⟩] [.v 5 _,.alc 1,.sto 1] [.g 0] U (zQ G wD .nil (zY G (Str.zero aS) (zS 0 G bE o0))) (zz [(0,_)] [O 2 80 _,O 3 80 _] λ a w U=>?_)
 refine zt<|qb<|zg [η,η] [] [.v 4 _] [.g 0,.o 0] U (zv G (a9 a8) o0) (zz [(0,_),(4,_)] [O 2 80 _,O 3 80 _] λ a w U=>?_)
 refine a7<|ql ?_
 have U:=St.sel U [0,1]
 refine wp_loop_ghost (λ n a w=>∃ j:Nat,n+j=xs.length∧St B w0 20 [(0,(SlA 92 [U32] (xs.map REA)).va),(4,In (j:Nat))] [⟨2,80,ptrH,RMA rm0⟩,⟨3,80,ptrH,QMA (1+4097*j) (prodQ (xs.take j))⟩] a w) (xs.length) ?_ ?_
 ·exact ⟨0,by omega,St.wkL U 1 G (sD Fi)⟩
 intro n a w hI
 obtain ⟨j,hn,U⟩:=hI
 refine qb<|qb<|zg [η,η] [] [.v 6 _,.v 7 _,.v 8 _,.v 9 _] [.g 0,.g 1,.o 3] U (zM 1 G (zM 0 G (zv G (bh Tryz.underlying38 (vq 1 G)) (zv G (aK (vq 0 G) (vq 2 G)) o0)))) (zz [(0,_),(4,_),(9,_)] [O 2 80 _,O 3 80 _] λ a w U=>?_)
 refine a7<|ae U (zm 2 G) (λ hb0=>?_) (λ hb0=>?_)
 ·have hj:j<xs.length:=by rw [qi] at hb0; have:=qt hb0; omega
  refine qh<|zt<|ql<|zgd [[],[],[0,1],[0,1,2],[0,1,2,3],[],[0,1,2,3,4,5],[0,1,2,3,4,5,6]] [none,some (7,_)] [] [.v 12 _,.v 13 _,.v 14 _,.v 15 _,.v 16 _,.v 17 _,.v 18 _,.sto 1] [.g 0,.g 1] aa U (zM 0 G (zM 1 G (zv G (cv mj (dJ λ _=>rfl) (vq 0 G) (vq 1 G) (cD hj)) (zv G (aq (vq 2 G) er) (zQ G (Fu (qc.1 ha _ (qf hj))) (.o (vq 3 G)) (zl 1 G bE (zQ G (wC (c:=4099) (d:=1+4097*j) (m:=elM xs[j]) (q:=prodQ (xs.take j)) zo) (.p (vq 4 G) (vq 5 G)) (zS 6 G bE o0)))))))) zk zk zk zk (zz [(0,_),(4,_)] [O 2 80 _,O 3 80 _] λ a w U=>?_)
  refine am ?_
  refine a7<|zg [η,η] [] [.v 10 _,.v 11 _,.v 4 _] [.g 0,.o 2] U (zM 1 G (zv G (aQ (vq 0 G) a8 ((wi64 zo zo).trans (by omega:(_:Int)=((j+1:Nat):Int)))) (zA 1 G o0))) (zz [(0,_),(4,_)] [O 2 80 _,O 3 80 _] λ a w U=>?_)
  refine a7 ?_
  have U:=St.sel U [0,1]
  have U:=St.wkL (A':=QMA (1+4097*(j+1)) (prodQ (xs.take (j+1)))) U 1 rfl ((dD (qk (QMA _) (rh hj).symm)).trans (sD (hr (j+1) zo)))
  exact ⟨n-1,by omega,j+1,by omega,U⟩
 ·obtain rfl:j=xs.length:=by rw [qi] at hb0; have:=qr hb0; omega
  refine qK<|ah<|ah<|ay<|zt<|zg [some (1,_),η] [] [.v 19 _,.sto 0] [] U (zl 1 G bE (zS 0 G bE o0)) (zz [] [O 2 80 _,O 3 80 _] λ a w U=>?_)
  refine a7<|qe<|aj ?_ (ap G U (zm 0 G) bE)
  rw [qI]; exact (ue zo).va
structure LF where
 a:Rat
 b:Rat
 c:Rat
 d:Rat
def LF.at (s:LF)(m:MQ):Rat:=s.a*m.a+s.b*m.b+s.c*m.c+s.d*m.d
def LF.neg (s:LF):LF:=⟨-s.a,-s.b,-s.c,-s.d⟩
def LF.behind (s:LF)(m:MQ):LF:=⟨s.a*m.a+s.c*m.c,s.b*m.a+s.d*m.c,s.a*m.b+s.c*m.d,s.b*m.b+s.d*m.d⟩
theorem cm_lt0' {x y:Rat}:cmQ x y<0↔x<y:=by
 unfold cmQ
 split
 ·rename_i h; exact ⟨λ _=>h,λ _=>by decide⟩
 ·split
  ·rename_i h1 h2; exact ⟨λ h=>absurd h zd,λ h=>absurd h h1⟩
  ·rename_i h1 h2; exact ⟨λ h=>absurd h zd,λ h=>absurd h h1⟩
theorem cm_gt0' {x y:Rat}:cmQ x y>0↔y<x:=by
 unfold cmQ
 split
 ·rename_i h; exact ⟨λ h'=>absurd h' zd,λ h'=>by grind⟩
 ·split
  ·rename_i h1 h2; exact ⟨λ _=>h2,λ _=>by decide⟩
  ·rename_i h1 h2; exact ⟨λ h=>absurd h zd,λ h=>absurd h h2⟩
theorem yr (f:Nat→Rat):∀ n k,k<n→loS f n≤f k
 | n+1,k,h=>by
  unfold loS
  split
  ·rename_i hc
   by_cases e:k=n
   ·rw [e]; exact xx
   ·rw [zr] at hc
    rcases hc with hc | hc
    ·exact absurd (show n=0 by
      have:((n:Nat):Int)=0:=by simpa using hc
      omega) zo
    ·exact Rat.le_trans (Rat.le_of_lt (cm_lt0'.1 (qt hc))) (yr f n k zo)
  ·rename_i hc
   by_cases e:k=n
   ·rw [e]
    rw [x7,qN] at hc
    have:¬ f n<loS f n:=λ h=>by have h2:=qr hc.2; exact h2 (cm_lt0'.2 h)
    grind
   ·exact yr f n k zo
theorem yG (f:Nat→Rat):∀ n k,k<n→f k≤hiS f n
 | n+1,k,h=>by
  unfold hiS
  split
  ·rename_i hc
   by_cases e:k=n
   ·rw [e]; exact xx
   ·rw [zr] at hc
    rcases hc with hc | hc
    ·exact absurd (show n=0 by
      have:((n:Nat):Int)=0:=by simpa using hc
      omega) zo
    ·exact Rat.le_trans (yG f n k zo) (Rat.le_of_lt (cm_gt0'.1 (qt hc)))
  ·rename_i hc
   by_cases e:k=n
   ·rw [e]
    rw [x7,qN] at hc
    have:¬ hiS f n<f n:=λ h=>by have h2:=qr hc.2; exact h2 (cm_gt0'.2 h)
    grind
   ·exact yG f n k zo
theorem yq (f:Nat→Rat):∀ n,0<n→∃ k,k<n∧loS f n=f k
 | n+1,_=>by
  unfold loS
  split
  ·exact ⟨n,by omega,rfl⟩
  ·rename_i hc
   rw [x7,qN] at hc
   have hn:n≠0:=k_ne hc.1
   obtain ⟨k,h1,h2⟩:=yq f n zo
   exact ⟨k,by omega,h2⟩
theorem yF (f:Nat→Rat):∀ n,0<n→∃ k,k<n∧hiS f n=f k
 | n+1,_=>by
  unfold hiS
  split
  ·exact ⟨n,by omega,rfl⟩
  ·rename_i hc
   rw [x7,qN] at hc
   have hn:n≠0:=k_ne hc.1
   obtain ⟨k,h1,h2⟩:=yF f n zo
   exact ⟨k,by omega,h2⟩
theorem Gx {g:RGp}(h:[g.lo,g.hi].all okX=true):WkA (GpA g) (cat [QA 2048 (toQ g.lo),QA 2048 (toQ g.hi)]):=bz (.cons (qa_x (ok_2 h).1 (qg _)) (.cons (qa_x (ok_2 h).2 (qg _)) .nil))
theorem Ae {g:RGp}(h:[g.lo,g.hi].all okX=true)(c:Nat):okX (endF g c).1=true:=by
 obtain ⟨h1,h2⟩:=ok_2 h
 unfold endF
 split
 ·exact h1
 ·split
  ·exact h2
  ·exact h1
theorem q_rfa {x:RF}(h:okX x=true){k:Nat}:WkA (QA k (toQ x)) (RFA x):=qaA.trans (dD (qk RFA (wS h).1.symm))
theorem mod_1 {c:Nat}(h:((((c%2:Nat):Int))==1)=true):c%2=1:=by simp at h; omega
theorem mod_0 {c:Nat}(h:((((c%2:Nat):Int))==1)=false):¬ c%2=1:=by simp at h; omega
theorem vZ {x:Rat}:decide (x.num.sign<0)=decide (x<0):=by
 rw [qQ,j1]
 have:=Rat.num_nonneg (q:=x)
 rw [← Rat.not_le,← Int.not_le,this]
def absQ (x:Rat):Rat:=if x<0 then 0-x else x
def RG0 (f:Nat→Rat)(k:Nat):As:=if k=0 then GpA gp0 else cat [QA 33562630 (loS f k),QA 33562630 (hiS f k)]
theorem rg0_n (f:Nat→Rat)(k:Nat):(RG0 f k).n=8∧∀ T∈(RG0 f k).deps,T∈[U32]:=by
 unfold RG0
 split
 ·exact ⟨rfl,dV (l:=[GpA gp0]) zk _ (by simp)⟩
 ·exact ⟨rfl,dV (l:=[cat [QA 33562630 (loS f k),QA 33562630 (hiS f k)]]) zk _ (by simp)⟩
def RGS (f:Nat→Rat)(k:Nat):As where
 n:=8
 ag:=true
 p:=(RG0 f k).p
 deps:=[U32]
 len:=λ B cs w h=>((RG0 f k).len B cs w h).trans (rg0_n f k).1
 one:=(RG0 f k).one
 ag1:=λ h=>by cases h
 cg:=(RG0 f k).cg
 wr:=λ B cs w w' g c T fz h1 h2 h3 h4 h=>(RG0 f k).wr B cs w w' g c T fz h1 (λ hh=>h2 ((rg0_n f k).2 T hh)) h3 h4 h
theorem rgs_z {f:Nat→Rat}:WkA (RGS f 0) (GpA gp0):=⟨rfl,rfl,λ B cs w h=>h⟩
theorem rgs_z' {f:Nat→Rat}:WkA (GpA gp0) (RGS f 0):=⟨rfl,rfl,λ B cs w h=>h⟩
theorem Ff {f:Nat→Rat}{k:Nat}(h:k≠0):WkA (RGS f k) (cat [QA 33562630 (loS f k),QA 33562630 (hiS f k)]):=⟨rfl,rfl,λ B cs w hp=>by
 have hp:(RG0 f k).p B cs w:=hp
 rw [RG0,qA h] at hp
 exact hp⟩
theorem rgs_u {f:Nat→Rat}{k:Nat}(h:k≠0):WkA (cat [QA 33562630 (loS f k),QA 33562630 (hiS f k)]) (RGS f k):=⟨rfl,rfl,λ B cs w hp=>by
 show (RG0 f k).p B cs w
 rw [RG0,qA h]
 exact hp⟩
theorem lo_go {f:Nat→Rat}{k:Nat}(h:decide (cmQ (f k) (loS f k)<0)=true):f k=loS f (k+1):=by rw [loS,h,kD,qC rfl]
theorem lo_st {f:Nat→Rat}{k:Nat}(hk:k≠0)(h:decide (cmQ (f k) (loS f k)<0)=false):loS f k=loS f (k+1):=by
 have e:(((k:Nat):Int)==0)=false:=by simp; omega
 rw [loS,h,e,qA zd]
theorem hi_go {f:Nat→Rat}{k:Nat}(h:decide (cmQ (f k) (hiS f k)>0)=true):f k=hiS f (k+1):=by rw [hiS,h,kD,qC rfl]
theorem hi_st {f:Nat→Rat}{k:Nat}(hk:k≠0)(h:decide (cmQ (f k) (hiS f k)>0)=false):hiS f k=hiS f (k+1):=by
 have e:(((k:Nat):Int)==0)=false:=by simp; omega
 rw [hiS,h,e,qA zd]
theorem mul_lt4 {x:Rat}:x*x<4 ↔ -2<x∧x<2:=by
 constructor
 ·intro h
  constructor
  ·by_cases h1 : -2<x
   ·exact h1
   ·have:0≤(-2-x)*(2-x):=j9 (by grind) (by grind)
    grind
  ·by_cases h1:x<2
   ·exact h1
   ·have:0≤(x-2)*(x+2):=j9 (by grind) (by grind)
    grind
 ·rintro ⟨h1,h2⟩
  have:0<(x+2)*(2-x):=kI (by grind) (by grind)
  grind
theorem CY {f:Nat→Rat}{n:Nat}(hn:0<n):(∀ k,k<n→f k*f k<4)↔(-2<loS f n∧hiS f n<2):=by
 constructor
 ·intro h
  obtain ⟨k,hk,e⟩:=yq f n hn
  obtain ⟨k',hk',e'⟩:=yF f n hn
  rw [e,e']
  exact ⟨(mul_lt4.1 (h k hk)).1,(mul_lt4.1 (h k' hk')).2⟩
 ·rintro ⟨h1,h2⟩ k hk
  have:=yr f n k hk
  have:=yG f n k hk
  exact mul_lt4.2 ⟨by grind,by grind⟩
theorem all_R {xs:List RLo}:(decide (cmQ (loS (aF trQ' xs) (2^manyF xs)) (Rat.divInt (-2) 1)>0)&&decide (cmQ (hiS (aF trQ' xs) (2^manyF xs)) (Rat.divInt 2 1)<0))=allF xs:=by
 have e4:(Rat.divInt 4 1:Rat)=4:=by kernel_rfl
 have e2:(Rat.divInt 2 1:Rat)=2:=by kernel_rfl
 have em:(Rat.divInt (-2) 1:Rat) = -2:=by kernel_rfl
 have h:=CY (f:=aF trQ' xs) (jD (manyF xs))
 rw [e2,em,vt,qj,ze,ze,cm_lt0',cm_gt0',← h]
 unfold allF
 rw [qc]
 have hk:∀ k,(!nsF xs k)=true↔aF trQ' xs k*aF trQ' xs k<4:=λ k=>by
  unfold nsF
  rw [e4,qz,qu,Int.not_le]
  exact cm_lt0'
 exact ⟨λ h k hk'=>(hk k).2 (h k (x3.1 hk')),λ h k hk'=>(hk k).1 (h k (x3.2 hk'))⟩
theorem pN (x:Rat):absQ x*absQ x=x*x∧0≤absQ x:=by
 unfold absQ
 split
 ·exact ⟨by grind,by grind⟩
 ·exact ⟨rfl,by grind⟩
theorem Em {x y:Rat}(hy:0≤y):decide (cmQ (absQ x) y>0)=decide (cmQ (x*x) (y*y)>0):=by
 obtain ⟨h1,h2⟩:=pN x
 rw [qQ,cm_gt0',cm_gt0',← h1]
 generalize absQ x=z at *
 constructor
 ·intro h
  have:0<(z-y)*(z+y):=kI (by grind) (by grind)
  grind
 ·intro h
  by_cases h3:y<z
  ·exact h3
  ·have:0≤(y-z)*(y+z):=j9 (by grind) (by grind)
   grind
theorem D9 (m:MQ):trsQ m=trQ' m*trQ' m:=rfl
theorem wo_1 (xs:List RLo):woS xs 1=(cnF xs 0,trsQ (prodQ (cnF xs 0))):=rfl
theorem wo_T {xs:List RLo}{k:Nat}(h:decide (cmQ (trsQ (prodQ (cnF xs k))) (woS xs k).2>0)=true):woS xs (k+1)=(cnF xs k,trsQ (prodQ (cnF xs k))):=by rw [woS,h,kD,qC rfl]
theorem wo_F {xs:List RLo}{k:Nat}(hk:k≠0)(h:decide (cmQ (trsQ (prodQ (cnF xs k))) (woS xs k).2>0)=false):woS xs (k+1)=woS xs k:=by
 have e:(((k:Nat):Int)==0)=false:=by simp; omega
 rw [woS,h,e,qA zd]
theorem nN {xs:List RLo}(h:xs.all loF=true){j:Nat}(hj:j<xs.length):[xs[j].p.lo,xs[j].p.hi].all okX=true∧[xs[j].q.lo,xs[j].q.hi].all okX=true:=los_2 h hj
theorem cst_re {x:RLo}{c:Nat}(hp:[x.p.lo,x.p.hi].all okX=true)(hq:[x.q.lo,x.q.hi].all okX=true):WkA (cat [NumA .u8 x.k,QA 2051 (toQ (endF x.p c).1),QA 2051 (toQ (endF x.q (endF x.p c).2).1)]) (REA (cst x c).1):=bz (.cons (.refl _) (.cons (q_rfa (Ae hp _)) (.cons (q_rfa (Ae hq _)) .nil)))
section
variable {P:Program} {R:Rg} {Q:Exit→Act→World→Prop} {B i:Nat} {w0:Bs}
theorem Fq {x:Operand}{T k f:Nat}{A A':As}{fs:Array Field}{fd:Field}(hx:Has R B w0 i x A.va)(hA:A.ag=true)(hA':A'.ag=true)(hS:P.underlying T=some (.struct fs))(hfd:fs[f]?=some fd)(hk:fd.offset=k)(ht:Ty P fd.type A'.n A'.ag)(hs:Sub A k A') :
  Wv P Q R B w0 i (.field T x f) A'.va :=
 bm λ d T' ps af gd a w av=>by
  obtain ⟨cs,h1,hv⟩:=hx a w av
  obtain ⟨p1,l1⟩:=hs _ _ _ h1
  have hv':a.eval x=.agg cs.toArray:=by rw [hv]; unfold shape; rw [hA]; rfl
  have ha:(isAgg fd.type).run P w=.ok true w:=by
   have:=ht.2
   rw [hA'] at this
   cases hu:P.underlying fd.type with
   | none=>rw [hu] at this; simp at this
   | some u =>
    rw [hu] at this
    unfold isAgg
    simp only [Sem.run_bind,run_underlying hu,Result.andThen_ok]
    cases u <;> simp_all
  have hz:(sizeOf fd.type).run P w=.ok A'.n w:=by
   have:=ht.1
   cases hi:P.info? fd.type with
   | none=>rw [hi] at this; simp at this
   | some it=>rw [hi] at this; simp [sizeOf,typeInfo,hi]; simpa using this
  refine ⟨.agg (cs.toArray.extract k (k+A'.n)),w,?_,Grow.refl w,_,p1,?_⟩
  ·simp [execOp,hv',Instr.field,run_underlying hS,hfd,asAgg,part,ha,hz,hk]
  ·unfold shape
   rw [hA',qC rfl]
   congr 1
   apply Array.ext'
   simp
end
theorem sB {gp:RGp}{c:Nat}(h:[gp.lo,gp.hi].all okX=true)(hc:c≤4096):Cn Tryz.prog 130 [(GpA gp).va,In (c:Nat)] (Tu [Qs 2051 (toQ (endF gp c).1),In ((endF gp c).2:Nat)]):=by
 refine Cn.intro Tryz.func130 G zk nq (λ B w0 a U=>?_)
 have U:=zn [(0,(GpA gp).va),(1,In (c:Nat))] [] U
 refine qb<|zg [] [⟨2,32,ptrH,some 0,_,none⟩,⟨4,30,ptrH,some 1,_,none⟩] [.alc 0,.alc 1,.v 5 _] [.g 1,.o 2] U (zW 0 G (zY G (Str.zero az) (zv G (a9 a8) o0))) (zz [(1,_),(5,_)] [O 2 32 _,O 4 30 _] λ a w U=>?_)
 refine zt<|qb<|zg [η,η] [] [.v 6 _,.v 7 _] [.g 0,.g 1,.o 1] U (zl 0 G b9 (zQ G (gR h) (.o (vq 0 G)) o0)) (zz [(1,_),(5,_),(7,_)] [O 2 32 _,O 4 30 _] λ a w U=>?_)
 refine a7<|ae U (zm 2 G) (λ hb0=>?_) (λ hb0=>?_)
 ·have e:endF gp c=(gp.lo,c):=qC hb0
  have U:=St.wkL U 0 rfl (Gx h)
  refine qb<|zgd [[],[0],[],[0,1,2],[],[0,1,2,3],[0,1,2,3,4,5]] [none,some (5,_)] [] [.adr 8 2 (.some 0) True,.v 9 _,.v 10 _,.v 11 _,.v 12 _,.sto 1,.v 5 _] [.g 0,.o 6] aa U (zO 0 G bg (zL 0 0 0 G ak (zQ G bM .nil (zQ G (cX zo) (.p (vq 1 G) (vq 2 G)) (zM 0 G (zS 3 G ak (zA 4 G o0))))))) zk zk zk zk (zz [(1,_),(5,_)] [O 2 32 _,O 4 30 _] λ a w U=>?_)
  refine a7<|qe<|ao ?_
  refine aj ?_ (aE (rs:=[.cell 4 30,.tmp 5]) G U (.cell (zm 1 G) ak (.tmp (zm 1 G) .nil)) zd)
  rw [e]; exact tu2w (bj (qk (Qs 2051) (xM _))) aL
 ·refine qh<|zt<|qb<|zg [η,η] [] [.v 13 _,.v 14 _,.v 15 _] [.g 0,.g 1,.o 2] U (zM 0 G (zv G (lf (vq 0 G) a8 zd ((jm zo).trans (by omega:((c:Nat):Int)%2=((c%2:Nat):Int)))) (zv G (bF (vq 1 G) a8) o0))) (zz [(1,_),(5,_),(15,_)] [O 2 32 _,O 4 30 _] λ a w U=>?_)
  refine a7<|ae U (zm 2 G) (λ hb1=>?_) (λ hb1=>?_)
  ·have e:endF gp c=(gp.hi,c/2):=by rw [endF,qA (by rw [hb0]; decide),qC (mod_1 hb1)]
   have U:=St.wkL U 0 rfl (Gx h)
   refine qb<|zgd [[],[0],[],[0,1,2],[],[4],[0,1,2,3],[0,1,2,3,4,5,6]] [none,some (6,_)] [] [.adr 16 2 (.some 4) True,.v 17 _,.v 18 _,.v 19 _,.v 20 _,.v 21 _,.sto 1,.v 5 _] [.g 0,.o 7] aa U (zO 0 G bi (zL 0 0 1 G ak (zQ G bM .nil (zQ G (cX zo) (.p (vq 1 G) (vq 2 G)) (zM 0 G (zv G (lg (vq 4 G) a8 zd ((qk _ (xp zo)).trans ((wi64 zo zo).trans (by omega:((c:Nat):Int)/2=((c/2:Nat):Int))))) (zS 3 G ak (zA 5 G o0)))))))) zk zk zk zk (zz [(1,_),(5,_)] [O 2 32 _,O 4 30 _] λ a w U=>?_)
   refine a7<|qe<|ao ?_
   refine aj ?_ (aE (rs:=[.cell 4 30,.tmp 5]) G U (.cell (zm 1 G) ak (.tmp (zm 1 G) .nil)) zd)
   rw [e]; exact tu2w (bj (qk (Qs 2051) (xM _))) aL
  ·have e:endF gp c=(gp.lo,c/2):=by rw [endF,qA (by rw [hb0]; decide),qA (mod_0 hb1)]
   have U:=St.wkL U 0 rfl (Gx h)
   refine qh<|zt<|zgd [[],[0],[],[0,1,2],[],[4],[0,1,2,3],[0,1,2,3,4,5,6]] [none,some (6,_)] [] [.adr 22 2 (.some 0) True,.v 23 _,.v 24 _,.v 25 _,.v 26 _,.v 27 _,.sto 1,.v 5 _] [.o 7] aa U (zO 0 G bg (zL 0 0 0 G ak (zQ G bM .nil (zQ G (cX zo) (.p (vq 1 G) (vq 2 G)) (zM 0 G (zv G (lg (vq 4 G) a8 zd ((qk _ (xp zo)).trans ((wi64 zo zo).trans (by omega:((c:Nat):Int)/2=((c/2:Nat):Int))))) (zS 3 G ak (zA 5 G o0)))))))) zk zk zk zk (zz [(5,_)] [O 2 32 _,O 4 30 _] λ a w U=>?_)
   refine a7<|qe<|aj ?_ (aE (rs:=[.cell 4 30,.tmp 5]) G U (.cell (zm 1 G) ak (.tmp (zm 0 G) .nil)) zd)
   rw [e]; exact tu2w (bj (qk (Qs 2051) (xM _))) aL
set_option maxHeartbeats 1000000 in
theorem ey (xs:List RLo){c:Nat}(h4:xs.length≤4096)(hx:xs.all loF=true)(hc:c≤4096):Cn Tryz.prog 43 [(SlA 69 [U32] (xs.map LoA)).va,In (c:Nat)] ((SlA 92 [U32] ((cnF xs c).map REA)).va):=by
 obtain ⟨it,z,e1,e2,e3,e4,e5⟩:=AI
 refine Cn.introF Tryz.func43 G zk nq (λ B w0 a hF U=>?_)
 have U:=zn [(0,(SlA 69 [U32] (xs.map LoA)).va),(1,In (c:Nat))] [] U
 obtain ⟨v0,hv0,U⟩:=St.eqv U 0 rfl
 refine qb<|zh [.v 4 _] [.g 0,.g 1,.o 0] U (zv G (a9 ba) o0) (zz [(0,_),(1,_),(4,_)] [] λ a w U=>?_)
 refine zt<|zh [.v 5 _] [.g 0,.g 1,.g 2,.o 0] U (zv G (a9 ba) o0) (zz [(0,_),(1,_),(4,_),(5,_)] [] λ a w U=>?_)
 refine zt<|qb<|zh [.v 6 _] [.g 0,.g 1,.g 2,.g 3,.o 0] U (zv G (a9 a8) o0) (zz [(0,_),(1,_),(4,_),(5,_),(6,_)] [] λ a w U=>?_)
 refine a7<|ql ?_
 have U:=St.sel U [0,1,3,4]
 refine wp_loop_ghost (λ n a w=>∃ j:Nat,(n+j=xs.length)∧St B w0 47 [(0,EqV v0),(1,In ((cnS ([],c) (xs.take j)).2:Nat)),(5,OwnR w0.w.heap.size 92 9 [U32] ((cnS ([],c) (xs.take j)).1.map REA)),(6,In (j:Nat))] [] a w) (xs.length) ?_ ?_
 ·have U:=St.wkG (A':=OwnR w0.w.heap.size 92 9 [U32] ((cnS ([],c) (xs.take 0)).1.map REA)) U 2 rfl nv
  exact ⟨0,by omega,U⟩
 intro n a w hI
 obtain ⟨j,hn,U⟩:=hI
 refine qb<|qb<|zh [.v 8 _,.v 9 _,.v 10 _,.v 11 _] [.g 0,.g 1,.g 2,.g 3,.o 3] U (zM 3 G (zM 0 G (zv G (bh Tryz.underlying22 (aR hF hv0 (vq 1 G))) (zv G (aK (vq 0 G) (vq 2 G)) o0)))) (zz [(0,_),(1,_),(5,_),(6,_),(11,_)] [] λ a w U=>?_)
 refine a7<|ae U (zm 4 G) (λ hb0=>?_) (λ hb0=>?_)
 ·have hj:j<xs.length:=by rw [qi] at hb0; have:=qt hb0; omega
  have hcl:(cnS ([],c) (xs.take j)).2≤4096:=qd (Ap _ _) hc
  refine qh<|zt<|ql<|qb ?_
  have U:=St.setG (A':=andV (EqV v0) (SlA 69 [U32] (xs.map LoA)).va) U 0 rfl (λ h=>⟨h,Hv hF hv0 _ _ h U.base⟩)
  obtain ⟨v5,hv5,U⟩:=St.hide U 2 rfl
  obtain ⟨w1,U,hback⟩:=St.frameA U
  have U:St B w1 47 [(0,_),(1,_),(5,_),(6,_),(11,_)] [] a w:=U
  refine zg [] [⟨7,92,ptrH,some 6,_,some (7,_)⟩] [.v 14 _,.v 15 _,.v 16 _,.v 17 _,.v 18 _,.v 19 _,.alc 0,.sto 0] [.g 0,.g 1,.g 2,.g 3] U (zv G (ab (has_wk' (gq 0 G) AL)) (zM 3 G (zv G (cv dP (dJ λ _=>rfl) (vq 0 G) (vq 1 G) (cD hj)) (zv G (aA (vq 2 G) cM (Sub.part 0 G G)) (zv G (aq (vq 3 G) dz) (zv G (aO (qs:=[(0,_)]) cF (.cons ⟨rfl,vq 4 rfl,rfl⟩ .nil)) (zY G (Str.zero cF) (zS 5 G er o0)))))))) (λ a w U=>?_)
  have U:St B w1 47 [(0,_),(1,_),(5,_),(6,_)] [O 7 92 _] a w:=U
  refine zt<|zg [some (11,_)] [] [.v 21 _,.v 22 _,.v 23 _,.v 24 _,.v 25 _,.v 26 _,.v 27 _,.v 20 _,.v 28 _,.v 29 _,.adr 30 7 (.some 1) True,.sto 0,.v 1 _] [.g 0,.g 2,.g 3,.o 12] U (zv G (ab (has_wk' (gq 0 G) AL)) (zM 3 G (zv G (cv dP (dJ λ _=>rfl) (vq 0 G) (vq 1 G) (cD hj)) (zv G (aA (vq 2 G) bU (Sub.part 1 G G)) (zv G (aq (vq 3 G) b9) (zM 1 G (zQ G (sB (nN hx hj).1 hcl) (.p (vq 4 G) (vq 5 G)) (zv G (ab (vq 6 G)) (zv G (dS (vq 7 G)) (zv G (dR (vq 7 G)) (zO 0 G bT (oc (dc 10 G G G G zk (vq 8 G) ak (Put.part 1 G G G)) (zA 9 G o0))))))))))))) (λ a w U=>?_)
  have U:St B w1 47 [(0,_),(5,_),(6,_),(1,_)] [O 7 92 _] a w:=U
  refine zt<|zg [some (11,_)] [] [.v 32 _,.v 33 _,.v 34 _,.v 35 _,.v 36 _,.v 37 _,.v 38 _,.v 31 _,.v 39 _,.v 40 _,.adr 41 7 (.some 5) True,.sto 0,.v 1 _] [.g 0,.g 1,.g 2,.o 12] U (zv G (ab (has_wk' (gq 0 G) AL)) (zM 2 G (zv G (cv dP (dJ λ _=>rfl) (vq 0 G) (vq 1 G) (cD hj)) (zv G (aA (vq 2 G) bY (Sub.part 2 G G)) (zv G (aq (vq 3 G) b9) (zM 3 G (zQ G (sB (nN hx hj).2 (qd (tq _ _) hcl)) (.p (vq 4 G) (vq 5 G)) (zv G (ab (vq 6 G)) (zv G (dS (vq 7 G)) (zv G (dR (vq 7 G)) (zO 0 G bX (oc (dc 10 G G G G zk (vq 8 G) ak (Put.part 2 G G G)) (zA 9 G o0))))))))))))) (λ a w U=>?_)
  have U:St B w1 47 [(0,_),(5,_),(6,_),(1,_)] [O 7 92 _] a w:=U
  have U:=St.wkL (A':=REA (cst xs[j] (cnS ([],c) (xs.take j)).2).1) U 0 rfl (cst_re (nN hx hj).1 (nN hx hj).2)
  obtain ⟨U,hown⟩:=hback U
  have U:=St.shw U 1 rfl (hown hv5 zk)
  have U:=St.wkG U 0 rfl andV_1
  have U:=zn [(0,_),(5,_),(6,_),(1,_)] [O 7 92 _] U
  refine a7<|tb (sp:=[.v 42 _,.v 43 _,.v 44 _,.v 45 VT,.v 5 VT]) 3 [0,2,3] 0 2 [] U (zM 1 rfl (zl 0 rfl er (zv rfl (cq (D:=[U32]) (l:=[_]) (xs:=[.tmp 43]) (dV zk) mj zk (n_ok zk) nq nq nq (.o (vq 1 rfl)) rfl rfl) o0))) rfl zk rfl rfl zd rfl zd rfl (λ _ _ h _=>h) Tryz.underlying38 e1 e2 e3 e4 e5 zd (by simp only [qi,oA,zj,zy,xf]; omega) zd (λ T hT=>hT) zd (λ A hA=>by obtain rfl:=qq.1 hA; rfl) zk nq nq zk zk (zz [(5,_),(0,_),(6,_),(1,_)] [] λ a w U=>?_)
  refine am ?_
  refine a7<|zh [.v 12 _,.v 13 _,.v 6 _] [.g 0,.g 1,.g 3,.o 2] U (zM 2 G (zv G (aQ (vq 0 G) a8 ((wi64 zo zo).trans (by omega:(_:Int)=((j+1:Nat):Int)))) (zA 1 G o0))) (zz [(5,_),(0,_),(1,_),(6,_)] [] λ a w U=>?_)
  refine a7 ?_
  have U:=St.sel U [1,2,0,3]
  have e:=cn_nx (c:=c) hj
  have U:=St.wkG (A':=OwnR w0.w.heap.size 92 9 [U32] ((cnS ([],c) (xs.take (j+1))).1.map REA)) U 2 rfl (bj (by rw [e,zF]; rfl))
  have U:=St.wkG (A':=In ((cnS ([],c) (xs.take (j+1))).2:Nat)) U 1 rfl (bj (by rw [e]; rfl))
  exact ⟨n-1,by omega,j+1,by omega,U⟩
 ·obtain rfl:j=xs.length:=by rw [qi] at hb0; have:=qr hb0; omega
  rw [qI] at U
  refine qK<|ah<|ah<|ay<|zt<|zh [.v 46 _,.v 4 _] [.g 1,.o 1] U (zM 2 G (zA 0 G o0)) (zz [(1,_),(4,_)] [] λ a w U=>?_)
  refine a7<|qe<|aj ?_ (an G U (zm 1 G))
  exact ii
theorem gQ {ys:List RE}(h4:ys.length≤4096)(ha:ys.all elF=true):Cn Tryz.prog 45 [(SlA 92 [U32] (ys.map REA)).va] (Qs 33562627 (trQ' (prodQ ys))):=by
 refine Cn.intro Tryz.func45 G zk nq (λ B w0 a U=>?_)
 have U:=zn [(0,(SlA 92 [U32] (ys.map REA)).va)] [] U
 refine qb<|zg [] [⟨2,30,ptrH,some 0,_,none⟩] [.alc 0] [.g 0] U (zY G (Str.zero az) o0) (zz [(0,_)] [O 2 30 _] λ a w U=>?_)
 refine zt<|zg [η] [⟨3,80,ptrH,some 2,_,some (3,_)⟩] [.v 4 _,.v 5 _,.alc 1,.sto 1] [] U (zM 0 G (zQ G (ig (xs:=ys) h4 ha) (.o (vq 0 G)) (zY G (Str.zero aS) (zS 1 G bE o0)))) (zz [] [O 2 30 _,O 3 80 _] λ a w U=>?_)
 refine zt<|zg [some (5,_),η] [] [.adr 6 3 (.some 0) True,.v 7 _,.adr 8 3 (.some 12) True,.v 9 _,.v 10 _,.sto 0] [] U (zO 1 G cL (zL 0 1 0 G ak (zO 1 G cJ (zL 2 1 3 G ak (zQ G (cX zo) (.p (vq 1 G) (vq 3 G)) (zS 4 G ak o0)))))) (zz [] [O 2 30 _,O 3 80 _] λ a w U=>?_)
 refine a7<|qe<|aj ?_ (ap G U (zm 0 G) ak)
 exact aL
theorem ua {ys:List RE}(h4:ys.length≤4096)(ha:ys.all elF=true):Cn Tryz.prog 124 [(SlA 92 [U32] (ys.map REA)).va] (Qs 33562627 (pwQ' (prodQ ys))):=by
 refine Cn.intro Tryz.func124 G zk nq (λ B w0 a U=>?_)
 have U:=zn [(0,(SlA 92 [U32] (ys.map REA)).va)] [] U
 refine qb<|zg [] [⟨2,30,ptrH,some 0,_,none⟩] [.alc 0] [.g 0] U (zY G (Str.zero az) o0) (zz [(0,_)] [O 2 30 _] λ a w U=>?_)
 refine zt<|zg [some (5,_)] [] [.v 3 _,.v 4 _,.v 5 _,.v 6 _,.v 7 _,.sto 0] [] U (zQ G bM .nil (zM 0 G (zQ G (ig (xs:=ys) h4 ha) (.o (vq 1 G)) (zv G (Fq (vq 2 G) G G Tryz.underlying80 G G ⟨zk,zk⟩ (Sub.part 2 G G)) (zQ G (ll zo) (.p (vq 0 G) (vq 3 G)) (zS 4 G ak o0)))))) (zz [] [O 2 30 _] λ a w U=>?_)
 refine a7<|qe<|aj ?_ (ap G U (zm 0 G) ak)
 rw [show pwQ' (prodQ ys)=0-(prodQ ys).c from (by show -(prodQ ys).c=0-(prodQ ys).c; grind)]; exact (bf zd).va
theorem gh {c:Nat}{x:Rat}(hc:c≤400000000):Cn Tryz.prog 44 [Qs c x] (Qs (c+3) (absQ x)):=by
 refine Cn.intro Tryz.func44 G zk nq (λ B w0 a U=>?_)
 have U:=zn [(0,Qs c x)] [] U
 refine qb<|zg [] [⟨1,30,ptrH,some 0,_,none⟩,⟨2,30,ptrH,some 1,_,none⟩] [.alc 0,.alc 1] [] U (zW 0 G (zY G (Str.zero az) o0)) (zz [] [O 1 30 _,O 2 30 _] λ a w U=>?_)
 refine zt<|qb<|zg [η,η] [] [.v 3 _,.v 4 _,.v 5 _] [.o 2] U (zl 0 G ak (zQ G gg (.o (vq 0 G)) (zv G (aK (vq 1 G) a8) o0))) (zz [(5,_)] [O 1 30 _,O 2 30 _] λ a w U=>?_)
 refine a7<|ae U (zm 0 G) (λ hb0=>?_) (λ hb0=>?_)
 ·have e:absQ x=0-x:=qC (by rw [vZ] at hb0; exact qt hb0)
  refine qb<|zgd [[],[],[0,1],[0,1,2]] [none,some (3,_)] [] [.v 6 _,.v 7 _,.v 8 _,.sto 1] [] aa U (zQ G bM .nil (zl 0 G ak (zQ G (ll zo) (.p (vq 0 G) (vq 1 G)) (zS 2 G ak o0)))) zk zk zk zk (zz [] [O 1 30 _,O 2 30 _] λ a w U=>?_)
  refine a7<|qe<|ao ?_
  refine aj ?_ (ap G U (zm 1 G) ak)
  rw [e]; exact (bf zo).va
 ·have e:absQ x=x:=qA (by rw [vZ] at hb0; exact qr hb0)
  refine qh<|zt<|zg [η,some (1,_)] [] [.v 9 _,.sto 1] [] U (zl 0 G ak (zS 0 G ak o0)) (zz [] [O 1 30 _,O 2 30 _] λ a w U=>?_)
  refine a7<|qe<|aj ?_ (ap G U (zm 1 G) ak)
  rw [e]; exact (bf zo).va
theorem u9 {f:Nat→Rat}{k:Nat}(hk:k=0):Cn Tryz.prog 123 [(GpA gp0).va,Qs 33562627 (f k),Bo true] ((RGS f (k+1)).va):=by
 refine Cn.intro Tryz.func123 G zk nq (λ B w0 a U=>?_)
 have U:=zn [(0,(GpA gp0).va),(1,Qs 33562627 (f k)),(2,Bo true)] [] U
 refine qb<|zg [] [⟨3,32,ptrH,some 0,_,none⟩,⟨4,30,ptrH,some 1,_,none⟩,⟨6,32,ptrH,some 2,_,none⟩] [.alc 0,.alc 1,.alc 2] [.g 2] U (zW 0 G (zW 1 G (zY G (Str.zero bL) o0))) (zz [(2,_)] [O 3 32 _,O 4 30 _,O 6 32 _] λ a w U=>?_)
 refine zt<|qb<|zg [η,η,η] [] [.v 7 _,.v 8 _,.f 9 _,.adr 10 3 (.some 0) (_=false),.f 11 _,.f 12 _,.f 13 _,.v 14 _] [.g 0,.o 7] U (zM 0 G (zv G (ab (vq 0 G)) (zB 1 G (λ hg=>cC (lz0 1 G) ak) (zC 1 0 G bg (zB 1 G (λ hg=>ax 3 G zk hg (lz0 0 G) (Sub.part 0 G G) ak) (zB 1 G (λ hg=>(show Wv _ _ _ _ _ _ _ (In 0) from absurd hg zd)) (zB 1 G (λ hg=>aK (ac (vq 5 G) hg) a8) (zv G (r_or (vq 1 G) (vq 6 G)) o0)))))))) (zz [(2,_),(14,_)] [O 3 32 _,O 4 30 _,O 6 32 _] λ a w U=>?_)
 refine a7<|bB (λ a w =>  St B w0 32 [(2,Bo true)] [⟨3,32,ptrH,cat [QA 33562630 (f k),RFA rf0]⟩,⟨4,30,ptrH,QA 33562627 (f k)⟩,⟨6,32,ptrH,GpA gp0⟩] a w) U (zm 1 G) (λ hb0=>?_) (λ hb0=>?_) (λ a w U=>?_)
 ·refine zgd [[],[],[0,1],[0,1,2],[0,1,2,3]] [some (4,_),none,none] [] [.v 15 _,.v 16 _,.v 17 _,.adr 18 3 (.some 0) True,.sto 0] [.g 0] aa U (zl 1 G ak (zQ G bM .nil (zQ G (cX zo) (.p (vq 0 G) (vq 1 G)) (zO 0 G bg (oc (dc 3 G G G G zk (vq 2 G) ak (Put.part 0 G G G)) o0))))) zk zk zk zk (zz [(2,_)] [O 3 32 _,O 4 30 _,O 6 32 _] λ a w U=>?_)
  refine a7 ?_
  have U:=St.sel U [0]
  exact St.wkL U 0 G (bz (.cons (dD (qk (QA 33562630) (xM _))) (.cons (.refl _) .nil)))
 ·refine qh<|a7 ?_
  have U:=St.sel U [0]
  exact absurd hb0 (by simp)
 refine zt<|qb<|zg [η,η,η] [] [.v 19 _,.v 20 _,.f 21 _,.adr 22 3 (.some 4) (_=false),.f 23 _,.f 24 _,.f 25 _,.v 26 _] [.o 7] U (zM 0 G (zv G (ab (vq 0 G)) (zB 1 G (λ hg=>cC (lz0 1 G) ak) (zC 1 0 G bi (zB 1 G (λ hg=>ax 3 G zk hg (lz0 0 G) (Sub.part 1 G G) ak) (zB 1 G (λ hg=>(show Wv _ _ _ _ _ _ _ (In 0) from absurd hg zd)) (zB 1 G (λ hg=>cP (ac (vq 5 G) hg) a8) (zv G (r_or (vq 1 G) (vq 6 G)) o0)))))))) (zz [(26,_)] [O 3 32 _,O 4 30 _,O 6 32 _] λ a w U=>?_)
 refine a7<|bB (λ a w =>  St B w0 32 [] [⟨3,32,ptrH,cat [QA 33562630 (f k),QA 33562630 (f k)]⟩,⟨4,30,ptrH,QA 33562627 (f k)⟩,⟨6,32,ptrH,GpA gp0⟩] a w) U (zm 0 G) (λ hb1=>?_) (λ hb1=>?_) (λ a w U=>?_)
 ·refine zgd [[],[],[0,1],[0,1,2],[0,1,2,3]] [some (4,_),none,none] [] [.v 27 _,.v 28 _,.v 29 _,.adr 30 3 (.some 4) True,.sto 0] [] aa U (zl 1 G ak (zQ G bM .nil (zQ G (cX zo) (.p (vq 0 G) (vq 1 G)) (zO 0 G bi (oc (dc 3 G G G G zk (vq 2 G) ak (Put.part 1 G G G)) o0))))) zk zk zk zk (zz [] [O 3 32 _,O 4 30 _,O 6 32 _] λ a w U=>?_)
  refine a7 ?_
  have U:=St.sel U []
  exact St.wkL U 0 G (bz (.cons (.refl _) (.cons (dD (qk (QA 33562630) (xM _))) .nil)))
 ·refine qh<|a7 ?_
  have U:=St.sel U []
  exact absurd hb1 (by simp)
 refine zt<|zg [η,η,some (1,_)] [] [.v 31 _,.sto 2] [] U (zl 0 G b9 (zS 0 G b9 o0)) (zz [] [O 3 32 _,O 4 30 _,O 6 32 _] λ a w U=>?_)
 refine a7<|qe<|aj ?_ (ap G U (zm 2 G) b9)
 subst hk; exact (rgs_u (f:=f) (k:=1) zd).va
theorem u7 {f:Nat→Rat}{k:Nat}(hk:k≠0):Cn Tryz.prog 123 [(cat [QA 33562630 (loS f k),QA 33562630 (hiS f k)]).va,Qs 33562627 (f k),Bo false] ((RGS f (k+1)).va):=by
 refine Cn.intro Tryz.func123 G zk nq (λ B w0 a U=>?_)
 have U:=zn [(0,(cat [QA 33562630 (loS f k),QA 33562630 (hiS f k)]).va),(1,Qs 33562627 (f k)),(2,Bo false)] [] U
 refine qb<|zg [] [⟨3,32,ptrH,some 0,_,none⟩,⟨4,30,ptrH,some 1,_,none⟩,⟨6,32,ptrH,some 2,_,none⟩] [.alc 0,.alc 1,.alc 2] [.g 2] U (zW 0 G (zW 1 G (zY G (Str.zero bL) o0))) (zz [(2,_)] [O 3 32 _,O 4 30 _,O 6 32 _] λ a w U=>?_)
 refine zt<|qb<|zg [η,η,η] [] [.v 7 _,.v 8 _,.f 9 _,.adr 10 3 (.some 0) (_=false),.f 11 _,.f 12 _,.f 13 _,.v 14 _] [.g 0,.o 7] U (zM 0 G (zv G (ab (vq 0 G)) (zB 1 G (λ hg=>cC (lz0 1 G) ak) (zC 1 0 G bg (zB 1 G (λ hg=>ax 3 G zk hg (lz0 0 G) (Sub.part 0 G G) ak) (zB 1 G (λ hg=>aX (gP zo) (.p (ac (vq 2 G) hg) (ac (vq 4 G) hg))) (zB 1 G (λ hg=>aK (ac (vq 5 G) hg) a8) (zv G (r_or (vq 1 G) (vq 6 G)) o0)))))))) (zz [(2,_),(14,_)] [O 3 32 _,O 4 30 _,O 6 32 _] λ a w U=>?_)
 refine a7<|bB (λ a w =>  St B w0 32 [(2,Bo false)] [⟨3,32,ptrH,cat [QA 33562630 (loS f (k+1)),QA 33562630 (hiS f k)]⟩,⟨4,30,ptrH,QA 33562627 (f k)⟩,⟨6,32,ptrH,GpA gp0⟩] a w) U (zm 1 G) (λ hb0=>?_) (λ hb0=>?_) (λ a w U=>?_)
 ·refine zgd [[],[],[0,1],[0,1,2],[0,1,2,3]] [some (4,_),none,none] [] [.v 15 _,.v 16 _,.v 17 _,.adr 18 3 (.some 0) True,.sto 0] [.g 0] aa U (zl 1 G ak (zQ G bM .nil (zQ G (cX zo) (.p (vq 0 G) (vq 1 G)) (zO 0 G bg (oc (dc 3 G G G G zk (vq 2 G) ak (Put.part 0 G G G)) o0))))) zk zk zk zk (zz [(2,_)] [O 3 32 _,O 4 30 _,O 6 32 _] λ a w U=>?_)
  refine a7 ?_
  have U:=St.sel U [0]
  exact St.wkL U 0 G (bz (.cons (dD (qk (QA 33562630) ((xM _).trans (lo_go (by simpa using hb0))))) (.cons (.refl _) .nil)))
 ·refine qh<|a7 ?_
  have U:=St.sel U [0]
  exact St.wkL U 0 G (bz (.cons (dD (qk (QA 33562630) (lo_st hk (by simpa using hb0)))) (.cons (.refl _) .nil)))
 refine zt<|qb<|zg [η,η,η] [] [.v 19 _,.v 20 _,.f 21 _,.adr 22 3 (.some 4) (_=false),.f 23 _,.f 24 _,.f 25 _,.v 26 _] [.o 7] U (zM 0 G (zv G (ab (vq 0 G)) (zB 1 G (λ hg=>cC (lz0 1 G) ak) (zC 1 0 G bi (zB 1 G (λ hg=>ax 3 G zk hg (lz0 0 G) (Sub.part 1 G G) ak) (zB 1 G (λ hg=>aX (gP zo) (.p (ac (vq 2 G) hg) (ac (vq 4 G) hg))) (zB 1 G (λ hg=>cP (ac (vq 5 G) hg) a8) (zv G (r_or (vq 1 G) (vq 6 G)) o0)))))))) (zz [(26,_)] [O 3 32 _,O 4 30 _,O 6 32 _] λ a w U=>?_)
 refine a7<|bB (λ a w =>  St B w0 32 [] [⟨3,32,ptrH,cat [QA 33562630 (loS f (k+1)),QA 33562630 (hiS f (k+1))]⟩,⟨4,30,ptrH,QA 33562627 (f k)⟩,⟨6,32,ptrH,GpA gp0⟩] a w) U (zm 0 G) (λ hb1=>?_) (λ hb1=>?_) (λ a w U=>?_)
 ·refine zgd [[],[],[0,1],[0,1,2],[0,1,2,3]] [some (4,_),none,none] [] [.v 27 _,.v 28 _,.v 29 _,.adr 30 3 (.some 4) True,.sto 0] [] aa U (zl 1 G ak (zQ G bM .nil (zQ G (cX zo) (.p (vq 0 G) (vq 1 G)) (zO 0 G bi (oc (dc 3 G G G G zk (vq 2 G) ak (Put.part 1 G G G)) o0))))) zk zk zk zk (zz [] [O 3 32 _,O 4 30 _,O 6 32 _] λ a w U=>?_)
  refine a7 ?_
  have U:=St.sel U []
  exact St.wkL U 0 G (bz (.cons (.refl _) (.cons (dD (qk (QA 33562630) ((xM _).trans (hi_go (by simpa using hb1))))) .nil)))
 ·refine qh<|a7 ?_
  have U:=St.sel U []
  exact St.wkL U 0 G (bz (.cons (.refl _) (.cons (dD (qk (QA 33562630) (hi_st hk (by simpa using hb1)))) .nil)))
 refine zt<|zg [η,η,some (1,_)] [] [.v 31 _,.sto 2] [] U (zl 0 G b9 (zS 0 G b9 o0)) (zz [] [O 3 32 _,O 4 30 _,O 6 32 _] λ a w U=>?_)
 refine a7<|qe<|aj ?_ (ap G U (zm 2 G) b9)
 exact (rgs_u (Nat.succ_ne_zero k)).va
theorem p8 {f:Nat→Rat}(k:Nat):Cn Tryz.prog 123 [(RGS f k).va,Qs 33562627 (f k),Bo (((k:Nat):Int)==0)] (RGS f (k+1)).va:=by
 by_cases h:k=0
 ·subst h
  exact (u9 (f:=f) G).wk (.cons rgs_z.va (.cons aL (.cons aL .nil)))
 ·have e:(((k:Nat):Int)==0)=false:=by simp; omega
  rw [e]
  exact (u7 h).wk (.cons (Ff h).va (.cons aL (.cons aL .nil)))
set_option maxHeartbeats 1000000 in
theorem ln (xs:List RLo)(h4:xs.length≤4096)(hx:xs.all loF=true)(hm12:manyF xs≤12):Cn Tryz.prog 39 [(SlA 69 [U32] (xs.map LoA)).va] ((cat [QA 33562630 (loS (aF trQ' xs) (2^manyF xs)),QA 33562630 (hiS (aF trQ' xs) (2^manyF xs))]).va):=by
 have hp12:=sF hm12
 refine Cn.introF Tryz.func39 G zk nq (λ B w0 a hF U=>?_)
 have U:=zn [(0,(SlA 69 [U32] (xs.map LoA)).va)] [] U
 obtain ⟨v0,hv0,U⟩:=St.eqv U 0 rfl
 refine qb<|zg [] [⟨2,32,ptrH,some 0,_,none⟩] [.alc 0] [.g 0] U (zY G (Str.zero bL) o0) (zz [(0,_)] [O 2 32 _] λ a w U=>?_)
 refine zt<|zg [η] [⟨3,32,ptrH,some 0,_,none⟩] [.alc 1] [.g 0] U (zY G (Str.zero bL) o0) (zz [(0,_)] [O 2 32 _,O 3 32 _] λ a w U=>?_)
 refine zt<|qb<|zg [η,η] [] [.v 4 _] [.g 0,.o 0] U (zv G (a9 a8) o0) (zz [(0,_),(4,_)] [O 2 32 _,O 3 32 _] λ a w U=>?_)
 refine a7<|ql ?_
 have U:=St.sel U [0,1]
 refine wp_loop_ghost (λ n a w=>∃ k:Nat,n+k=2^manyF xs∧St B w0 21 [(0,EqV v0),(4,In (k:Nat))] [⟨2,32,ptrH,GpA gp0⟩,⟨3,32,ptrH,RGS (aF trQ' xs) k⟩] a w) (2^manyF xs) ?_ ?_
 ·exact ⟨0,by omega,St.wkL U 1 G rgs_z'⟩
 intro n a w hI
 obtain ⟨k,hn,U⟩:=hI
 refine qb<|qb<|zg [η,η] [] [.v 5 _,.v 6 _,.v 7 _,.v 8 _,.v 9 _] [.g 0,.g 1,.o 4] U (zM 1 G (zM 0 G (zQ G (eQ xs h4 hx) (.o (aR hF hv0 (vq 1 G))) (zv G (ml a8 (vq 2 G) (⟨by omega,by show ((manyF xs:Nat):Int)≤64; omega⟩) (sn hm12)) (zv G (aK (vq 0 G) (vq 3 G)) o0))))) (zz [(0,_),(4,_),(9,_)] [O 2 32 _,O 3 32 _] λ a w U=>?_)
 refine a7<|ae U (zm 2 G) (λ hb0=>?_) (λ hb0=>?_)
 ·have hk:k<2^manyF xs:=by have:=qt hb0; omega
  refine qh<|zt<|ql<|zgd [[],[],[],[1,2],[1,2,3],[],[5],[0,1,2,3,4,5,6],[0,1,2,3,4,5,6,7]] [none,some (8,_)] [] [.v 12 _,.v 13 _,.v 14 _,.v 15 _,.v 16 _,.v 17 _,.v 18 _,.v 19 _,.sto 1] [.g 0,.g 1] aa U (zl 1 G b9 (zM 0 G (zM 1 G (zQ G (ey xs (c:=k) h4 hx zo) (.p (aR hF hv0 (vq 1 G)) (vq 2 G)) (zQ G (gQ (ys:=cnF xs k) (by rw [fb]; exact h4) (ip hx k)) (.o (vq 3 G)) (zM 1 G (zv G (bF (vq 5 G) a8) (zQ G (p8 (f:=aF trQ' xs) k) (.cons (vq 0 G) (.p (vq 4 G) (vq 6 G))) (zS 7 G b9 o0))))))))) zk zk zk zk (zz [(0,_),(4,_)] [O 2 32 _,O 3 32 _] λ a w U=>?_)
  refine am ?_
  refine a7<|zg [η,η] [] [.v 10 _,.v 11 _,.v 4 _] [.g 0,.o 2] U (zM 1 G (zv G (aQ (vq 0 G) a8 ((wi64 zo zo).trans (by omega:(_:Int)=((k+1:Nat):Int)))) (zA 1 G o0))) (zz [(0,_),(4,_)] [O 2 32 _,O 3 32 _] λ a w U=>?_)
  refine a7 ?_
  have U:=St.sel U [0,1]
  exact ⟨n-1,by omega,k+1,by omega,U⟩
 ·obtain rfl:k=2^manyF xs:=by have:=qr hb0; omega
  have U:=St.wkL U 1 rfl (Ff (pow_pos' _))
  refine qK<|ah<|ah<|ay<|zt<|zg [some (1,_),η] [] [.v 20 _,.sto 0] [] U (zl 1 G b9 (zS 0 G b9 o0)) (zz [] [O 2 32 _,O 3 32 _] λ a w U=>?_)
  refine a7<|qe<|aj ?_ (ap G U (zm 0 G) b9)
  exact aL
set_option maxHeartbeats 1000000 in
theorem rc (xs:List RLo)(h4:xs.length≤4096)(hx:xs.all loF=true)(hm12:manyF xs≤12):Cn Tryz.prog 40 [(SlA 69 [U32] (xs.map LoA)).va] ((cat [QA 33562630 (loS (aF pwQ' xs) (2^manyF xs)),QA 33562630 (hiS (aF pwQ' xs) (2^manyF xs))]).va):=by
 have hp12:=sF hm12
 refine Cn.introF Tryz.func40 G zk nq (λ B w0 a hF U=>?_)
 have U:=zn [(0,(SlA 69 [U32] (xs.map LoA)).va)] [] U
 obtain ⟨v0,hv0,U⟩:=St.eqv U 0 rfl
 refine qb<|zg [] [⟨2,32,ptrH,some 0,_,none⟩] [.alc 0] [.g 0] U (zY G (Str.zero bL) o0) (zz [(0,_)] [O 2 32 _] λ a w U=>?_)
 refine zt<|zg [η] [⟨3,32,ptrH,some 0,_,none⟩] [.alc 1] [.g 0] U (zY G (Str.zero bL) o0) (zz [(0,_)] [O 2 32 _,O 3 32 _] λ a w U=>?_)
 refine zt<|qb<|zg [η,η] [] [.v 4 _] [.g 0,.o 0] U (zv G (a9 a8) o0) (zz [(0,_),(4,_)] [O 2 32 _,O 3 32 _] λ a w U=>?_)
 refine a7<|ql ?_
 have U:=St.sel U [0,1]
 refine wp_loop_ghost (λ n a w=>∃ k:Nat,n+k=2^manyF xs∧St B w0 21 [(0,EqV v0),(4,In (k:Nat))] [⟨2,32,ptrH,GpA gp0⟩,⟨3,32,ptrH,RGS (aF pwQ' xs) k⟩] a w) (2^manyF xs) ?_ ?_
 ·exact ⟨0,by omega,St.wkL U 1 G rgs_z'⟩
 intro n a w hI
 obtain ⟨k,hn,U⟩:=hI
 refine qb<|qb<|zg [η,η] [] [.v 5 _,.v 6 _,.v 7 _,.v 8 _,.v 9 _] [.g 0,.g 1,.o 4] U (zM 1 G (zM 0 G (zQ G (eQ xs h4 hx) (.o (aR hF hv0 (vq 1 G))) (zv G (ml a8 (vq 2 G) (⟨by omega,by show ((manyF xs:Nat):Int)≤64; omega⟩) (sn hm12)) (zv G (aK (vq 0 G) (vq 3 G)) o0))))) (zz [(0,_),(4,_),(9,_)] [O 2 32 _,O 3 32 _] λ a w U=>?_)
 refine a7<|ae U (zm 2 G) (λ hb0=>?_) (λ hb0=>?_)
 ·have hk:k<2^manyF xs:=by have:=qt hb0; omega
  refine qh<|zt<|ql<|zgd [[],[],[],[1,2],[1,2,3],[],[5],[0,1,2,3,4,5,6],[0,1,2,3,4,5,6,7]] [none,some (8,_)] [] [.v 12 _,.v 13 _,.v 14 _,.v 15 _,.v 16 _,.v 17 _,.v 18 _,.v 19 _,.sto 1] [.g 0,.g 1] aa U (zl 1 G b9 (zM 0 G (zM 1 G (zQ G (ey xs (c:=k) h4 hx zo) (.p (aR hF hv0 (vq 1 G)) (vq 2 G)) (zQ G (ua (ys:=cnF xs k) (by rw [fb]; exact h4) (ip hx k)) (.o (vq 3 G)) (zM 1 G (zv G (bF (vq 5 G) a8) (zQ G (p8 (f:=aF pwQ' xs) k) (.cons (vq 0 G) (.p (vq 4 G) (vq 6 G))) (zS 7 G b9 o0))))))))) zk zk zk zk (zz [(0,_),(4,_)] [O 2 32 _,O 3 32 _] λ a w U=>?_)
  refine am ?_
  refine a7<|zg [η,η] [] [.v 10 _,.v 11 _,.v 4 _] [.g 0,.o 2] U (zM 1 G (zv G (aQ (vq 0 G) a8 ((wi64 zo zo).trans (by omega:(_:Int)=((k+1:Nat):Int)))) (zA 1 G o0))) (zz [(0,_),(4,_)] [O 2 32 _,O 3 32 _] λ a w U=>?_)
  refine a7 ?_
  have U:=St.sel U [0,1]
  exact ⟨n-1,by omega,k+1,by omega,U⟩
 ·obtain rfl:k=2^manyF xs:=by have:=qr hb0; omega
  have U:=St.wkL U 1 rfl (Ff (pow_pos' _))
  refine qK<|ah<|ah<|ay<|zt<|zg [some (1,_),η] [] [.v 20 _,.sto 0] [] U (zl 1 G b9 (zS 0 G b9 o0)) (zz [] [O 2 32 _,O 3 32 _] λ a w U=>?_)
  refine a7<|qe<|aj ?_ (ap G U (zm 0 G) b9)
  exact aL
theorem lu {x y:Rat}:Cn Tryz.prog 38 [(cat [QA 33562630 x,QA 33562630 y]).va] (GpR (if [x,y].any longQ then (gp0,4) else (⟨rfOf x,rfOf y⟩,0))):=by
 refine Cn.intro Tryz.func38 G zk nq (λ B w0 a U=>?_)
 have U:=zn [(0,(cat [QA 33562630 x,QA 33562630 y]).va)] [] U
 refine qb<|zg [] [⟨1,32,ptrH,some 0,_,none⟩,⟨2,32,ptrH,some 1,_,none⟩] [.alc 0,.alc 1,.v 3 _] [.o 2] U (zW 0 G (zY G (Str.zero bL) (zv G (a9 a8) o0))) (zz [(3,_)] [O 1 32 _,O 2 32 _] λ a w U=>?_)
 refine zt<|zg [η,η] [] [.adr 5 1 (.some 0) True,.v 6 _,.adr 7 1 (.some 4) True,.v 8 _,.v 9 _,.v 10 _,.v 4 _] [.g 0,.o 6] U (zO 0 G bg (zL 0 0 0 G ak (zO 0 G bi (zL 2 0 1 G ak (zv G (cq (D:=[U32]) (l:=[_,_]) (xs:=[.tmp 6,.tmp 8]) (dV zk) eI zk (n_ok zk) nq nq nq (.p (vq 1 G) (vq 3 G)) G G) (zQ G (u6 [x,y] (.cons ⟨_,rfl⟩ (.cons ⟨_,rfl⟩ .nil)) nq) (.o (vq 4 G)) (zA 5 G o0))))))) (zz [(3,_),(4,_)] [O 1 32 _,O 2 32 _] λ a w U=>?_)
 refine zt<|qb<|zg [η,η] [] [.v 11 _,.v 12 _] [.g 0,.g 1,.o 1] U (zM 1 G (zv G (ci (vq 0 G) a8) o0)) (zz [(3,_),(4,_),(12,_)] [O 1 32 _,O 2 32 _] λ a w U=>?_)
 refine a7<|ae U (zm 2 G) (λ hb0=>?_) (λ hb0=>?_)
 ·have hl:=as_yes hb0
  refine qb<|zg [η,some (2,_)] [] [.v 13 _,.v 14 _,.sto 1,.v 3 _] [.o 3] U (zv G (aO (qs:=[]) bL .nil) (zM 1 G (zS 0 G b9 (zA 1 G o0)))) (zz [(3,_)] [O 1 32 _,O 2 32 _] λ a w U=>?_)
  refine a7<|qe<|ao ?_
  refine aj ?_ (aE (rs:=[.cell 2 32,.tmp 3]) G U (.cell (zm 1 G) b9 (.tmp (zm 0 G) .nil)) zd)
  have e:(if [x,y].any longQ=true then (gp0,4) else (⟨rfOf x,rfOf y⟩,0))=((gp0,4):RGp × Int):=qC hl
  rw [e]; exact tu2w aL (bj (by rw [qC hl]))
 ·have hl:=as_no hb0
  refine qh<|zt<|zg [η,some (1,_)] [] [.v 15 _,.sto 1,.v 3 _] [.o 2] U (zl 0 G b9 (zS 0 G b9 (zv G (a9 a8) o0))) (zz [(3,_)] [O 1 32 _,O 2 32 _] λ a w U=>?_)
  refine a7<|qe<|aj ?_ (aE (rs:=[.cell 2 32,.tmp 3]) G U (.cell (zm 1 G) b9 (.tmp (zm 0 G) .nil)) zd)
  have e:(if [x,y].any longQ=true then (gp0,4) else (⟨rfOf x,rfOf y⟩,0))=((⟨rfOf x,rfOf y⟩,0):RGp × Int):=qA hl
  rw [e]; exact tu2w gp_a.va aL
theorem uc (xs:List RLo):Cn Tryz.prog 11 [(SlA 69 [U32] (xs.map LoA)).va] (GpR (gapF trQ' xs)):=by
 refine Cn.intro Tryz.func11 G zk nq (λ B w0 a U=>?_)
 have U:=zn [(0,(SlA 69 [U32] (xs.map LoA)).va)] [] U
 refine qb<|zg [] [⟨2,32,ptrH,some 0,_,none⟩] [.alc 0,.v 3 _] [.g 0,.o 1] U (zY G (Str.zero bL) (zv G (a9 a8) o0)) (zz [(0,_),(3,_)] [O 2 32 _] λ a w U=>?_)
 refine zt<|zg [η] [] [.v 5 _,.v 6 _,.v 4 _] [.g 0,.g 1,.o 2] U (zM 0 G (zQ G (dZ xs) (.o (vq 0 G)) (zA 1 G o0))) (zz [(0,_),(3,_),(4,_)] [O 2 32 _] λ a w U=>?_)
 refine zt<|qb<|zg [η] [] [.v 7 _,.v 8 _] [.g 0,.g 1,.g 2,.o 1] U (zM 2 G (zv G (ci (vq 0 G) a8) o0)) (zz [(0,_),(3,_),(4,_),(8,_)] [O 2 32 _] λ a w U=>?_)
 refine a7<|ae U (zm 3 G) (λ hb0=>?_) (λ hb0=>?_)
 ·have hc:¬ tchF xs=0:=by simpa using hb0
  refine qb<|zg [some (2,_)] [] [.v 9 _,.v 10 _,.sto 0,.v 3 _] [.g 0,.o 3] U (zv G (aO (qs:=[]) bL .nil) (zM 2 G (zS 0 G b9 (zA 1 G o0)))) (zz [(0,_),(3,_)] [O 2 32 _] λ a w U=>?_)
  refine a7<|qe<|ao ?_
  refine aj ?_ (aE (rs:=[.cell 2 32,.tmp 3]) G U (.cell (zm 0 G) b9 (.tmp (zm 1 G) .nil)) zd)
  rw [gapF,qA hc]; exact aL
 ·have hc:tchF xs=0:=by simpa using hb0
  have hk:=fY hc
  refine qh<|zt<|zg [some (5,_)] [] [.v 11 _,.v 12 _,.v 13 _,.v 14 _,.v 15 _,.sto 0,.v 3 _] [.o 6] U (zM 0 G (zQ G (ln xs hk.1 hk.2.1 hk.2.2) (.o (vq 0 G)) (zQ G lu (.o (vq 1 G)) (zv G (dS (vq 2 G)) (zv G (dR (vq 2 G)) (zS 3 G b9 (zA 4 G o0))))))) (zz [(3,_)] [O 2 32 _] λ a w U=>?_)
  refine a7<|qe<|aj ?_ (aE (rs:=[.cell 2 32,.tmp 3]) G U (.cell (zm 0 G) b9 (.tmp (zm 0 G) .nil)) zd)
  rw [gapF,qC hc]; exact aL
theorem ud (xs:List RLo):Cn Tryz.prog 12 [(SlA 69 [U32] (xs.map LoA)).va] (GpR (gapF pwQ' xs)):=by
 refine Cn.intro Tryz.func12 G zk nq (λ B w0 a U=>?_)
 have U:=zn [(0,(SlA 69 [U32] (xs.map LoA)).va)] [] U
 refine qb<|zg [] [⟨2,32,ptrH,some 0,_,none⟩] [.alc 0,.v 3 _] [.g 0,.o 1] U (zY G (Str.zero bL) (zv G (a9 a8) o0)) (zz [(0,_),(3,_)] [O 2 32 _] λ a w U=>?_)
 refine zt<|zg [η] [] [.v 5 _,.v 6 _,.v 4 _] [.g 0,.g 1,.o 2] U (zM 0 G (zQ G (dZ xs) (.o (vq 0 G)) (zA 1 G o0))) (zz [(0,_),(3,_),(4,_)] [O 2 32 _] λ a w U=>?_)
 refine zt<|qb<|zg [η] [] [.v 7 _,.v 8 _] [.g 0,.g 1,.g 2,.o 1] U (zM 2 G (zv G (ci (vq 0 G) a8) o0)) (zz [(0,_),(3,_),(4,_),(8,_)] [O 2 32 _] λ a w U=>?_)
 refine a7<|ae U (zm 3 G) (λ hb0=>?_) (λ hb0=>?_)
 ·have hc:¬ tchF xs=0:=by simpa using hb0
  refine qb<|zg [some (2,_)] [] [.v 9 _,.v 10 _,.sto 0,.v 3 _] [.g 0,.o 3] U (zv G (aO (qs:=[]) bL .nil) (zM 2 G (zS 0 G b9 (zA 1 G o0)))) (zz [(0,_),(3,_)] [O 2 32 _] λ a w U=>?_)
  refine a7<|qe<|ao ?_
  refine aj ?_ (aE (rs:=[.cell 2 32,.tmp 3]) G U (.cell (zm 0 G) b9 (.tmp (zm 1 G) .nil)) zd)
  rw [gapF,qA hc]; exact aL
 ·have hc:tchF xs=0:=by simpa using hb0
  have hk:=fY hc
  refine qh<|zt<|zg [some (5,_)] [] [.v 11 _,.v 12 _,.v 13 _,.v 14 _,.v 15 _,.sto 0,.v 3 _] [.o 6] U (zM 0 G (zQ G (rc xs hk.1 hk.2.1 hk.2.2) (.o (vq 0 G)) (zQ G lu (.o (vq 1 G)) (zv G (dS (vq 2 G)) (zv G (dR (vq 2 G)) (zS 3 G b9 (zA 4 G o0))))))) (zz [(3,_)] [O 2 32 _] λ a w U=>?_)
  refine a7<|qe<|aj ?_ (aE (rs:=[.cell 2 32,.tmp 3]) G U (.cell (zm 0 G) b9 (.tmp (zm 0 G) .nil)) zd)
  rw [gapF,qC hc]; exact aL
theorem BK (xs:List RLo):Cn Tryz.prog 13 [(SlA 69 [U32] (xs.map LoA)).va] (Tu [Bo (allR xs).1,In (allR xs).2]):=by
 refine Cn.intro Tryz.func13 G zk nq (λ B w0 a U=>?_)
 have U:=zn [(0,(SlA 69 [U32] (xs.map LoA)).va)] [] U
 refine qb<|zh [.v 2 _,.v 3 _] [.g 0,.o 0,.o 1] U (zv G (a9 aB) (zv G (a9 a8) o0)) (zz [(0,_),(2,_),(3,_)] [] λ a w U=>?_)
 refine zt<|zh [.v 6 _,.v 7 _,.v 4 _] [.g 0,.g 1,.g 2,.o 2] U (zM 0 G (zQ G (dZ xs) (.o (vq 0 G)) (zA 1 G o0))) (zz [(0,_),(2,_),(3,_),(4,_)] [] λ a w U=>?_)
 refine zt<|qb<|zh [.v 8 _,.v 9 _] [.g 0,.g 1,.g 2,.g 3,.o 1] U (zM 3 G (zv G (ci (vq 0 G) a8) o0)) (zz [(0,_),(2,_),(3,_),(4,_),(9,_)] [] λ a w U=>?_)
 refine a7<|ae U (zm 4 G) (λ hb0=>?_) (λ hb0=>?_)
 ·have hc:¬ tchF xs=0:=by simpa using hb0
  refine qb<|zh [.v 10 _,.v 2 _,.v 3 _] [.g 0,.o 1,.o 2] U (zM 3 G (zv G (a9 aB) (zA 0 G o0))) (zz [(0,_),(2,_),(3,_)] [] λ a w U=>?_)
  refine a7<|qe<|ao ?_
  refine aj ?_ (aE (rs:=[.tmp 2,.tmp 3]) G U (.tmp (zm 1 G) (.tmp (zm 2 G) .nil)) zd)
  rw [allR,qA hc]; exact aL
 ·have hc:tchF xs=0:=by simpa using hb0
  have hk:=fY hc
  refine qh<|zt<|zg [] [⟨5,32,ptrH,some 2,_,some (3,_)⟩] [.v 11 _,.v 12 _,.alc 0,.sto 0] [.g 1,.g 2] U (zM 0 G (zQ G (ln xs hk.1 hk.2.1 hk.2.2) (.o (vq 0 G)) (zY G (Str.zero bL) (zS 1 G b9 o0)))) (zz [(2,_),(3,_)] [O 5 32 _] λ a w U=>?_)
  refine zt<|zgd [[],[0],[],[0,1,2],[0,1,2,3],[0,1,2,3,4],[0,1,2,3,4,5],[0,1,2,3,4,5,6],[0,1,2,3,4,5],[0,1,2,3,4,5,6,7,8],[0,1,2,3,4,5,6,7,8,9],[0,1,2,3,4,5,6,7,8,9,10],[0,1,2,3,4,5,6,7,8,9,10,11],[0,1,2,3,4,5,6,7,8,9,10,11,12]] [none] [] [.adr 13 5 (.some 0) True,.v 14 _,.v 15 _,.v 16 _,.v 17 _,.v 18 _,.adr 19 5 (.some 4) (_=true),.t 20 _,.t 21 _,.t 22 _,.t 23 _,.v 24 _,.v 2 _,.v 3 _] [.o 12,.o 13] aa U (zO 0 G bg (zL 0 0 0 G ak (zQ G (lk zd zd zd zd zd) (.cons a8 (.cons a8 .nil)) (zQ G (gP zo) (.p (vq 1 G) (vq 2 G)) (zv G (cP (vq 3 G) a8) (zv G (ab (vq 4 G)) (zC 5 0 G bi (zB 5 G (λ hg=>ax 6 G zk hg (lz0 0 G) (Sub.part 1 G G) ak) (zB 5 G (λ hg=>aX (lk zd zd zd zd zd) (.cons a8 (.cons a8 .nil))) (zB 5 G (λ hg=>aX (gP zo) (.p (ac (vq 7 G) hg) (ac (vq 8 G) hg))) (zB 5 G (λ hg=>aK (ac (vq 9 G) hg) a8) (zv G (bG (vq 5 G) (vq 10 G)) (zA 11 G (zv G (a9 a8) o0)))))))))))))) zk zk zk zk (zz [(2,_),(3,_)] [O 5 32 _] λ a w U=>?_)
  refine a7<|qe<|aj ?_ (aE (rs:=[.tmp 2,.tmp 3]) G U (.tmp (zm 0 G) (.tmp (zm 1 G) .nil)) zd)
  rw [allR,qC hc]; exact tu2w (bj (qk Bo all_R)) aL
set_option maxHeartbeats 2000000 in
theorem ub (xs:List RLo):Cn Tryz.prog 14 [(SlA 69 [U32] (xs.map LoA)).va] (Tu [(SlA 92 [U32] ((wrF xs).1.map REA)).va,In (wrF xs).2]):=by
 refine Cn.introF Tryz.func14 G zk nq (λ B w0 a hF U=>?_)
 have U:=zn [(0,(SlA 69 [U32] (xs.map LoA)).va)] [] U
 obtain ⟨v0,hv0,U⟩:=St.eqv U 0 rfl
 refine qb<|zh [.v 2 _,.v 3 _] [.g 0,.o 0,.o 1] U (zv G (a9 ba) (zv G (a9 a8) o0)) (zz [(0,_),(2,_),(3,_)] [] λ a w U=>?_)
 refine zt<|zh [.v 10 _,.v 11 _,.v 4 _] [.g 0,.g 1,.g 2,.o 2] U (zM 0 G (zQ G (dZ xs) (.o (aR hF hv0 (vq 0 G))) (zA 1 G o0))) (zz [(0,_),(2,_),(3,_),(4,_)] [] λ a w U=>?_)
 refine zt<|qb<|zh [.v 12 _,.v 13 _] [.g 0,.g 1,.g 2,.g 3,.o 1] U (zM 3 G (zv G (ci (vq 0 G) a8) o0)) (zz [(0,_),(2,_),(3,_),(4,_),(13,_)] [] λ a w U=>?_)
 refine a7<|ae U (zm 4 G) (λ hb0=>?_) (λ hb0=>?_)
 ·have hc:¬ tchF xs=0:=by simpa using hb0
  refine qb<|zh [.v 14 _,.v 2 _,.v 3 _] [.g 0,.o 1,.o 2] U (zM 3 G (zv G (a9 ba) (zA 0 G o0))) (zz [(0,_),(2,_),(3,_)] [] λ a w U=>?_)
  refine a7<|qe<|ao ?_
  refine aj ?_ (aE (rs:=[.tmp 2,.tmp 3]) G U (.tmp (zm 1 G) (.tmp (zm 2 G) .nil)) zd)
  rw [wrF,qA hc]; exact tu2w DB aL
 ·have hc:tchF xs=0:=by simpa using hb0
  have hk:=fY hc
  have hp12:=sF hk.2.2
  have hpp:=jD (manyF xs)
  refine qh<|zt<|zh [.v 15 _,.v 16 _,.v 5 _] [.g 0,.g 1,.g 2,.o 2] U (zM 0 G (zQ G (ey xs (c:=0) hk.1 hk.2.1 zd) (.cons (aR hF hv0 (vq 0 G)) (.cons a8 .nil)) (zA 1 G o0))) (zz [(0,_),(2,_),(3,_),(5,_)] [] λ a w U=>?_)
  refine zt<|zg [] [⟨6,30,ptrH,some 3,_,some (4,_)⟩] [.v 17 _,.v 18 _,.v 19 _,.alc 0,.sto 0] [.g 0,.g 1,.g 2,.g 3] U (zM 3 G (zQ G (gQ (ys:=cnF xs 0) (by rw [fb]; exact hk.1) (ip hk.2.1 0)) (.o (vq 0 G)) (zQ G (gh (c:=33562627) zd) (.o (vq 1 G)) (zY G (Str.zero az) (zS 2 G ak o0))))) (zz [(0,_),(2,_),(3,_),(5,_)] [O 6 30 _] λ a w U=>?_)
  refine zt<|qb<|zg [η] [] [.v 7 _] [.g 0,.g 1,.g 2,.g 3,.o 0] U (zv G (a9 a8) o0) (zz [(0,_),(2,_),(3,_),(5,_),(7,_)] [O 6 30 _] λ a w U=>?_)
  refine a7<|ql ?_
  have U:=St.sel U [0,3,4]
  refine wp_loop_ghost (λ n a w=>∃ (k:Nat) (m1:Rat),(n+k=2^manyF xs∧1≤k∧0≤m1∧m1*m1=(woS xs k).2)∧St B w0 40 [(0,EqV v0),(5,(SlA 92 [U32] ((woS xs k).1.map REA)).va),(7,In (k:Nat))] [⟨6,30,ptrH,QA 33562630 m1⟩] a w) (2^manyF xs-1) ?_ ?_
  ·have U:=St.wkG (A':=(SlA 92 [U32] ((woS xs 1).1.map REA)).va) U 1 rfl aL
   exact ⟨1,_,⟨by omega,qg _,(pN _).2,(pN _).1⟩,U⟩
  intro n a w hI
  obtain ⟨k,m1,⟨hn,hk1,hm⟩,U⟩:=hI
  refine qb<|qb<|zg [η] [] [.v 20 _,.v 21 _,.v 22 _,.v 23 _,.v 24 _] [.g 0,.g 1,.g 2,.o 4] U (zM 2 G (zM 0 G (zQ G (eQ xs hk.1 hk.2.1) (.o (aR hF hv0 (vq 1 G))) (zv G (ml a8 (vq 2 G) (⟨by omega,by show ((manyF xs:Nat):Int)≤64; omega⟩) (sn hk.2.2)) (zv G (aK (vq 0 G) (vq 3 G)) o0))))) (zz [(0,_),(5,_),(7,_),(24,_)] [O 6 30 _] λ a w U=>?_)
  refine a7<|ae U (zm 3 G) (λ hb1=>?_) (λ hb1=>?_)
  ·have hkk:k<2^manyF xs:=by have:=qt hb1; omega
   refine qh<|zt<|ql<|qb<|zg [η] [] [.v 27 _,.v 28 _,.v 29 _,.v 8 _] [.g 0,.g 1,.g 2,.o 3] U (zM 0 G (zM 2 G (zQ G (ey xs (c:=k) hk.1 hk.2.1 zo) (.p (aR hF hv0 (vq 0 G)) (vq 1 G)) (zA 2 G o0)))) (zz [(0,_),(5,_),(7,_),(8,_)] [O 6 30 _] λ a w U=>?_)
   refine zt<|zg [η] [⟨9,30,ptrH,some 3,_,some (4,_)⟩] [.v 30 _,.v 31 _,.v 32 _,.alc 1,.sto 1] [.g 0,.g 1,.g 2,.g 3] U (zM 3 G (zQ G (gQ (ys:=cnF xs k) (by rw [fb]; exact hk.1) (ip hk.2.1 k)) (.o (vq 0 G)) (zQ G (gh (c:=33562627) zd) (.o (vq 1 G)) (zY G (Str.zero az) (zS 2 G ak o0))))) (zz [(0,_),(5,_),(7,_),(8,_)] [O 6 30 _,O 9 30 _] λ a w U=>?_)
   refine zt<|zg [η,η] [] [.v 33 _,.v 34 _,.v 35 _,.v 36 _] [.g 0,.g 1,.g 2,.g 3,.o 3] U (zl 1 G ak (zl 0 G ak (zQ G (gP zo) (.p (vq 0 G) (vq 1 G)) (zv G (cP (vq 2 G) a8) o0)))) (zz [(0,_),(5,_),(7,_),(8,_),(36,_)] [O 6 30 _,O 9 30 _] λ a w U=>?_)
   refine a7<|bB (λ a w=>∃ m2:Rat,(0≤m2∧m2*m2=(woS xs (k+1)).2)∧St B w0 40 [(0,EqV v0),(5,(SlA 92 [U32] ((woS xs (k+1)).1.map REA)).va),(7,In (k:Nat))] [⟨6,30,ptrH,QA 33562630 m2⟩,⟨9,30,ptrH,QA 33562630 (absQ (trQ' (prodQ (cnF xs k))))⟩] a w) U (zm 4 G) (λ hb2=>?_) (λ hb2=>?_) (λ a w U=>?_)
   ·refine zgd [[],[],[0],[0,1,2]] [some (3,_),none] [] [.v 37 _,.v 38 _,.v 5 _,.sto 0] [.g 0,.g 2,.o 2] aa U (zM 3 G (zl 1 G ak (zA 0 G (zS 1 G ak o0)))) zk zk zk zk (zz [(0,_),(7,_),(5,_)] [O 6 30 _,O 9 30 _] λ a w U=>?_)
    refine a7 ?_
    have U:=St.sel U [0,2,1]
    have e:=wo_T (xs:=xs) (k:=k) (by rw [← hm.2,D9,← Em hm.1]; exact hb2)
    exact ⟨_,⟨(pN _).2,by rw [e,(pN _).1]; rfl⟩,by rw [e]; exact U⟩
   ·refine qh<|a7 ?_
    have U:=St.sel U [0,1,2]
    have e:=wo_F (xs:=xs) (k:=k) zo (by rw [← hm.2,D9,← Em hm.1]; exact hb2)
    exact ⟨m1,by rw [e]; exact hm,by rw [e]; exact U⟩
   obtain ⟨m2,hm2,U⟩:=U
   refine am ?_
   refine a7<|zg [η,η] [] [.v 25 _,.v 26 _,.v 7 _] [.g 0,.g 1,.o 2] U (zM 2 G (zv G (aQ (vq 0 G) a8 ((wi64 zo zo).trans (by omega:(_:Int)=((k+1:Nat):Int)))) (zA 1 G o0))) (zz [(0,_),(5,_),(7,_)] [O 6 30 _,O 9 30 _] λ a w U=>?_)
   refine a7 ?_
   have U:=St.sel U [0,1,2]
   have U:=St.selL U [0]
   exact ⟨n-1,by omega,k+1,m2,⟨by omega,by omega,hm2⟩,U⟩
  ·obtain rfl:k=2^manyF xs:=by have:=qr hb1; omega
   refine qK<|ah<|ah<|ay<|zt<|zg [η] [] [.v 39 _,.v 2 _,.v 3 _] [.o 1,.o 2] U (zM 1 G (zA 0 G (zv G (a9 a8) o0))) (zz [(2,_),(3,_)] [O 6 30 _] λ a w U=>?_)
   refine a7<|qe<|aj ?_ (aE (rs:=[.tmp 2,.tmp 3]) G U (.tmp (zm 0 G) (.tmp (zm 1 G) .nil)) zd)
   rw [wrF,qC hc]; exact aL
def gapSizeF (x:RGp):Int:=IntKind.i64.wrap (fracSizeF x.lo+fracSizeF x.hi)
def loszF (n:Int):List RLo→Int
 | []=>n
 | x::xs=>if decide (n≤1048576) then loszF (IntKind.i64.wrap (IntKind.i64.wrap (n+gapSizeF x.p)+gapSizeF x.q)) xs else n
theorem FZ {n:Int}{l:List RLo}{j:Nat}(h:j<l.length)(h2:n≤1048576):loszF n (l.drop j)=loszF (IntKind.i64.wrap (IntKind.i64.wrap (n+gapSizeF l[j].p)+gapSizeF l[j].q)) (l.drop (j+1)):=by
 rw [xe h,loszF,qC (qP h2)]
theorem C4 {n:Int}{l:List RLo}{j:Nat}(h:¬ (j<l.length∧n≤1048576)):loszF n (l.drop j)=n:=by
 by_cases hj:j<l.length
 ·rw [xe hj,loszF,qA (by simpa using λ hh=>h ⟨hj,hh⟩)]
 ·rw [xa zo]; rfl
theorem DZ {x:RF}(h:wdF x):∃ a:Nat,fracSizeF x=(a:Int)∧x.num.mag.length+x.den.mag.length≤a∧a≤281474976710658:=by
 obtain ⟨h1,h2⟩:=h
 unfold wdI at h1 h2
 refine ⟨x.num.mag.length+x.den.mag.length+2,?_,by omega,by omega⟩
 unfold fracSizeF intSizeF
 rw [wi64 (x:=1+(x.num.mag.length:Int)) zo zo,wi64 (x:=1+(x.den.mag.length:Int)) zo zo,wi64 zo zo]
 omega
theorem DV {x:RGp}(h:wdGp x):∃ a:Nat,gapSizeF x=(a:Int)∧(x.lo.num.mag.length+x.lo.den.mag.length+(x.hi.num.mag.length+x.hi.den.mag.length)≤a)∧a≤562949953421316:=by
 obtain ⟨a,ea,la,ma⟩:=DZ h.1
 obtain ⟨b,eb,lb,mb⟩:=DZ h.2
 refine ⟨a+b,?_,by omega,by omega⟩
 unfold gapSizeF
 rw [ea,eb,wi64 zo zo]
 omega
theorem yh:∀ (xs:List RLo) (n:Nat),(∀ x∈xs,wdLo x)→loszF (n:Int) xs≤600→n≤600∧∀ x∈xs,shLo 600 x
 | [],n,_,h=>⟨by unfold loszF at h; omega,λ x hx=>by cases hx⟩
 | x::xs,n,hw,h=>by
  obtain ⟨hp,hq⟩:=hw x (by simp)
  obtain ⟨a,e,l,m⟩:=DV hp
  obtain ⟨a',e',l',m'⟩:=DV hq
  unfold loszF at h
  by_cases hn:(n:Int)≤1048576
  ·rw [qC (qP hn),e,e',wi64 (x:=(n:Int)+(a:Int)) zo zo,wi64 zo zo] at h
   obtain ⟨h1,h2⟩:=yh xs (n+a+a') (λ y hy=>hw y (by simp [hy])) h
   refine ⟨by omega,λ y hy=>?_⟩
   rcases qo.1 hy with rfl | hy
   ·unfold shLo shFr; omega
   ·exact h2 y hy
  ·rw [qA (by simpa using hn)] at h
   omega
def mucF (xs:List RLo):Bool:=decide (loszF (xs.length:Nat) xs>600) || ((tchF xs==0)&&(decide (((manyF xs:Nat):Int)>8) || decide (((xs.length:Nat):Int)>40)))
theorem muc_no {xs:List RLo}(hs:(∀ y∈xs,wdLo y)∧xs.length≤140737488355328)(h:mucF xs=false):xs.length≤600∧bdLLooses xs:=by
 unfold mucF at h
 rw [qN,qu] at h
 obtain ⟨h4,h5⟩:=yh xs xs.length hs.1 zo
 refine ⟨h4,λ y hy=>?_⟩
 have:=h5 y hy
 unfold shLo shFr at this
 unfold bdLo bdGp bdF
 omega
theorem muc_g {xs:List RLo}(h:(tchF xs==0)=true):xs.length≤4096∧xs.all loF=true∧manyF xs≤12:=fY (by simpa using h)
def GapP (x:RGp)(m:Nat→Value):As:=cat [FracP x.lo (m 0) (m 1),FracP x.hi (m 2) (m 3)]
abbrev kgp (x:RGp)(m:Nat→Value):KL:=kf x.lo (m 0) (m 1)++kf x.hi (m 2) (m 3)
theorem lH {x:RGp}(h:(GnA x).p B cs w):∃ m:Nat→Value,(GapP x m).p B cs w∧cbl cs=kbl (kgp x m)∧OkK (kgp x m):=by
 obtain ⟨ps,rfl,hp⟩:=h
 cases hp with
 | @cons _ c1 _ _ h1 hp=>cases hp with
  | @cons _ c2 _ _ h2 hp =>
   cases hp
   obtain ⟨m1,m2,p1,e1,o1⟩:=fx h1
   obtain ⟨m3,m4,p2,e2,o2⟩:=fx h2
   refine ⟨nm4 m1 m2 m3 m4,⟨[c1,c2],rfl,.cons p1 (.cons p2 .nil)⟩,?_,fN o1 o2⟩
   have:([c1,c2]:List (List Value)).flatten=c1++c2:=by simp
   rw [this,d6,e1,e2]
   exact kbl_app.symm
abbrev bdGpA (x:RGp):Prop:=bdF x.lo∧bdF x.hi
theorem yu {x:RGp}{m:Nat→Value}(h:bdGpA x):LnK (kgp x m):=fQ (C5 h.1) (C5 h.2)
theorem sN {x:RGp}:NewA (GnA x):=lC λ A hA=>by
 simp at hA
 rcases hA with rfl | rfl
 ·exact lB
 ·exact lB
theorem rm {x:RGp}:NewA (GpD x):=Am sN
theorem ob {x:RGp}:FreeA (GpD x) (GpD x):=tx (bZ (.cons iM (.cons iM .nil)))
theorem AH {ask:MQ→Rat}{xs:List RLo}:bdGpA (gapF ask xs).1:=by
 unfold gapF
 split
 ·split
  ·exact ⟨tL,tL⟩
  ·rename_i h
   simp only [List.any_cons,List.any_nil,Bool.or_false,zr,not_or,x7] at h
   exact ⟨Ho (by rw [h.1]; decide),Ho (by rw [h.2]; decide)⟩
 ·exact ⟨tL,tL⟩
theorem Ek {x:RF}(h:okX x=true):bdF x:=by
 obtain ⟨r,rfl,hr⟩:=ok_rf h
 exact Ho (by rw [hr]; decide)
theorem D3 (xs:List RLo):∀ k,(woS xs (k+1)).1.length=xs.length
 | 0=>by rw [wo_1]; exact fb _ _
 | k+1=>by
  rw [woS]
  split
  ·exact fb _ _
  ·exact D3 xs k
theorem D4 {xs:List RLo}(h:xs.all loF=true):∀ k,(woS xs (k+1)).1.all elF=true
 | 0=>by rw [wo_1]; exact ip h 0
 | k+1=>by
  rw [woS]
  split
  ·exact ip h _
  ·exact D4 h k
theorem HA (xs:List RLo):((wrF xs).1.length≤xs.length)∧∀ x∈(wrF xs).1,bdF x.p∧bdF x.q:=by
 unfold wrF
 split
 ·rename_i hc
  have hk:=fY hc
  obtain ⟨n,hn⟩:∃ n,2^manyF xs=n+1:=⟨2^manyF xs-1,by have:=jD (manyF xs); omega⟩
  rw [hn]
  refine ⟨by rw [D3]; exact qg _,λ x hx=>?_⟩
  have h1:=qc.1 (D4 hk.2.1 n) x hx
  have h2:=ok_2 (by unfold elF at h1; rw [qj] at h1; exact h1.1)
  exact ⟨Ek h2.1,Ek h2.2⟩
 ·exact ⟨za _,λ x hx=>by cases hx⟩
section
variable {P:Program} {B N:Nat} {w0:Bs} {Γ:List (Nat × VA)} {Λ:List Lc} {a:Act} {w:World}
theorem St.eqw (h:St B w0 N Γ Λ a w){s:Nat}{A:VA}(k:Nat)(hm:Γ[k]?=some (s,A)):∃ v,A.p B v w∧St B w0 N (Γ.set k (s,EqV v)) Λ a w :=
 ⟨a.eval (.tmp s),h.vals _ (qa hm),h.lo,h.defers,h.size,h.base,λ x hx=>by
  rcases qp hx with hx | rfl
  ·exact h.vals x hx
  ·exact rfl,h.locs,h.dis⟩
theorem groundF {fn:Func}{c:Code}{b:Bool}(Γ':List (Nat × VA))(h:St B w0 N Γ Λ a w)(hnd:w0.nd=true)
  (k:∀ (B:Nat) (w1:Bs),w1.nd=true→(∀ g,¬ w1.F g)→B=w1.w.heap.size→w1.w=w→St B w1 N Γ' [] a w→Exit.then (λ a w=>c.wp P (bPost P fn (RQ B w1 (Bo b))) a w) (bPost P fn (RQ B w1 (Bo b))) .normal a w)
  (hE:∀ x∈Γ',x∈Γ∧∃ v,x.2=EqV v) :
  Exit.then (λ a w=>c.wp P (bPost P fn (RQ B w0 (Bo b))) a w) (bPost P fn (RQ B w0 (Bo b))) .normal a w:=by
 have h1:=k w.heap.size ⟨w,λ _=>False,true⟩ rfl (λ _ h=>h) rfl rfl ⟨λ g hg=>hg.resolve_right λ h=>h,DefOk.nil (h.defers.none hnd),h.size,Kept.refl _,λ x hx=>by
  obtain ⟨hx,v,e⟩:=hE x hx
  have hv:=h.vals x hx
  rw [e] at hv ⊢
  exact hv,(λ l hl=>by cases hl),(λ l hl=>by cases hl)⟩
 refine wp_mono (c:=c) (show c.wp P _ a w from h1) λ e a' w' hp=>mT hp ?_
 rintro v w2 ⟨u,hu,hp,hk⟩
 exact ⟨u,hu,hp,h.base.grow ⟨hk.os,hk.tape,hk.output,hk.size,λ k hlt=>hk.block k hlt (λ h=>h)⟩⟩
end
section
open Rg
variable {P:Program} {Q:Exit→Act→World→Prop} {R:Rg} {B i:Nat} {w0:Bs}
theorem sA {B0:Nat}{f:FuncId}{A A' C:VA}{x y:Operand}{u v:Value}{at_:Array TypeId}(hF:NoF w0)(h0:B0≤B)(hc:Cn P f [A,A'] C)(hu:A.p B0 u w0.w)(hv:A'.p B0 v w0.w)(hC:∀ v w,C.p B0 v w→C.p B v w)(hx:Has R B w0 i x (EqV u))(hy:Has R B w0 i y (EqV v)):Wv P Q R B w0 i (.call ⟨.value (.func f),#[x,y],at_⟩) C:=by
 intro d T ps af gd a w av K hK
 obtain ⟨⟨fn,hf,hn,hb⟩,hcall⟩:=hc
 have hrun:(execOp a.eval ⟨some d,.call ⟨.value (.func f),#[x,y],at_⟩,T,ps,af,gd⟩).run P w=.ok (.enter f ([x,y].map a.eval).toArray) w:=by
  simp only [execOp,resolve,Act.eval,Deferred.ofValue,Sem.run_bind,Sem.run_pure,Result.andThen_ok,invoke,be hf hn hb]
  simp
 unfold Oper.wp
 rw [hrun]
 have e1:a.eval x=u:=hx a w av
 have e2:a.eval y=v:=hy a w av
 refine (hcall B0 w _ (qd h0 (Av.bw av)) (show All2 _ _ [a.eval x,a.eval y] from .cons (by rw [e1]; exact A.cg _ _ _ _ (hF.cg av.base) hu) (.cons (by rw [e2]; exact A'.cg _ _ _ _ (hF.cg av.base) hv) .nil))).mono λ e w' ⟨v,he,hv,hg⟩=>by subst he; exact hK v w' hg (hC _ _ hv)
end
theorem mr {E:TypeId}{l:List As}(h:∀ A∈l,UpA A A):Up (SlA E D l).va (SlA E D l).va:=λ B v w hB hp=>slx _ _ _ ((ir h).va B v w hB hp)
theorem pq (x:RGp):Cn Tryz.prog 99 [(GpA x).va] (In (gapSizeF x)):=by
 refine Cn.intro Tryz.func99 G zk nq (λ B w0 a U=>?_)
 have U:=zn [(0,(GpA x).va)] [] U
 refine qb<|zg [] [⟨1,32,ptrH,some 0,_,none⟩] [.alc 0,.v 2 _] [.o 1] U (zW 0 G (zv G (a9 a8) o0)) (zz [(2,_)] [O 1 32 _] λ a w U=>?_)
 refine zt<|zgd [[],[0],[0,1],[],[3],[0,1,2,3,4],[0,1,2,3,4,5],[0,1,2,3,4,5,6]] [none] [] [.adr 3 1 (.some 0) True,.v 4 _,.v 5 _,.adr 6 1 (.some 4) True,.v 7 _,.v 8 _,.v 9 _,.v 2 _] [.o 7] aa U (zO 0 G bg (zL 0 0 0 G ak (zQ G (mO _) (.o (vq 1 G)) (zO 0 G bi (zL 3 0 1 G ak (zQ G (mO _) (.o (vq 4 G)) (zv G (aQ (vq 2 G) (vq 5 G) (G)) (zA 6 G o0)))))))) zk zk zk zk (zz [(2,_)] [O 1 32 _] λ a w U=>?_)
 refine a7<|qe<|aj ?_ (an G U (zm 0 G))
 exact aL
theorem yi (xs:List RLo):Cn Tryz.prog 21 [(SlA 69 [U32] (xs.map LoA)).va] (In (loszF (xs.length:Nat) xs)):=by
 refine Cn.intro Tryz.func21 G zk nq (λ B w0 a U=>?_)
 have U:=zn [(0,(SlA 69 [U32] (xs.map LoA)).va)] [] U
 have hl:=si (U.vals (0,(SlA 69 [U32] (xs.map LoA)).va) (zm 0 rfl))
 refine qb<|zh [.v 2 _] [.g 0,.o 0] U (zv G (a9 a8) o0) (zz [(0,_),(2,_)] [] λ a w U=>?_)
 refine zt<|zh [.v 5 _,.v 6 _,.v 3 _] [.g 0,.g 1,.o 2] U (zM 0 G (zv G (bh Tryz.underlying22 (vq 0 G)) (zA 1 G o0))) (zz [(0,_),(2,_),(3,_)] [] λ a w U=>?_)
 refine zt<|qb<|zh [.v 4 _] [.g 0,.g 1,.g 2,.o 0] U (zv G (a9 a8) o0) (zz [(0,_),(2,_),(3,_),(4,_)] [] λ a w U=>?_)
 refine a7<|ql ?_
 have U:=St.sel U [0,2,3]
 refine wp_loop_ghost (λ n a w=>∃ (j:Nat) (m:Int),(n+j=xs.length∧loszF (xs.length:Nat) xs=loszF m (xs.drop j))∧St B w0 33 [(0,(SlA 69 [U32] (xs.map LoA)).va),(3,In m),(4,In (j:Nat))] [] a w) (xs.length) ?_ ?_
 ·exact ⟨0,(xs.length:Nat),⟨by omega,rfl⟩,by rw [qi] at U; exact U⟩
 intro n a w hI
 obtain ⟨j,m,⟨hn,hm⟩,U⟩:=hI
 refine qb<|qb<|zh [.v 7 _,.v 8 _,.v 9 _,.v 10 _,.v 11 _,.t 12 _,.t 13 _,.v 14 _] [.g 0,.g 1,.g 2,.o 7] U (zM 2 G (zM 0 G (zv G (bh Tryz.underlying22 (vq 1 G)) (zv G (aK (vq 0 G) (vq 2 G)) (zv G (ab (vq 3 G)) (zB 4 G (λ hg=>ab (gq 1 G)) (zB 4 G (λ hg=>p5 (ac (vq 5 G) hg) a8) (zv G (bG (vq 4 G) (vq 6 G)) o0)))))))) (zz [(0,_),(3,_),(4,_),(14,_)] [] λ a w U=>?_)
 refine a7<|ae U (zm 3 G) (λ hb0=>?_) (λ hb0=>?_)
 ·rw [qj,ze,ze,qi] at hb0
  have hj:j<xs.length:=by omega
  have hm0:=hb0.2
  refine qh<|zt<|ql<|zgd [[],[],[],[1,2],[1,2,3],[1,2,3,4],[1,2,3,4,5],[0,1,2,3,4,5,6],[],[],[8,9],[8,9,10],[8,9,10,11],[1,2,3,4,5,6,8,9,10,11,12],[0,1,2,3,4,5,6,7,8,9,10,11,12,13],[0,1,2,3,4,5,6,7,8,9,10,11,12,13,14]] [] [] [.v 17 _,.v 18 _,.v 19 _,.v 20 _,.v 21 _,.v 22 _,.v 23 _,.v 24 _,.v 25 _,.v 26 _,.v 27 _,.v 28 _,.v 29 _,.v 30 _,.v 31 _,.v 3 _] [.g 0,.g 2,.o 15] aa U (zM 1 G (zM 0 G (zM 2 G (zv G (cv dP (dJ λ _=>rfl) (vq 1 G) (vq 2 G) (cD hj)) (zv G (aA (vq 3 G) bU (Sub.part 1 G G)) (zv G (aq (vq 4 G) b9) (zQ G (pq _) (.o (vq 5 G)) (zv G (aQ (vq 0 G) (vq 6 G) (G)) (zM 0 G (zM 2 G (zv G (cv dP (dJ λ _=>rfl) (vq 8 G) (vq 9 G) (cD hj)) (zv G (aA (vq 10 G) bY (Sub.part 2 G G)) (zv G (aq (vq 11 G) b9) (zQ G (pq _) (.o (vq 12 G)) (zv G (aQ (vq 7 G) (vq 13 G) (G)) (zA 14 G o0)))))))))))))))) zk zk zk zk (zz [(0,_),(4,_),(3,_)] [] λ a w U=>?_)
  refine am ?_
  refine a7<|zh [.v 15 _,.v 16 _,.v 4 _] [.g 0,.g 2,.o 2] U (zM 1 G (zv G (aQ (vq 0 G) a8 (HG hj hl)) (zA 1 G o0))) (zz [(0,_),(3,_),(4,_)] [] λ a w U=>?_)
  refine a7 ?_
  have U:=St.sel U [0,1,2]
  exact ⟨n-1,by omega,j+1,_,⟨by omega,hm.trans (FZ hj hm0)⟩,U⟩
 ·have hnj:¬ (j<xs.length∧m≤1048576):=by rintro ⟨h1,h2⟩; rw [qi,qP (by omega:(j:Int)<(xs.length:Int)),qP h2] at hb0; exact absurd hb0 zd
  refine qK<|ah<|ah<|ay<|zt<|zh [.v 32 _,.v 2 _] [.o 1] U (zM 1 G (zA 0 G o0)) (zz [(2,_)] [] λ a w U=>?_)
  refine a7<|qe<|aj ?_ (an G U (zm 0 G))
  exact bj (qk In (hm.trans (C4 hnj)).symm)
theorem much_c (xs:List RLo):Cn Tryz.prog 4 [(SlA 69 [U32] (xs.map LoA)).va] (Bo (mucF xs)):=by
 refine Cn.intro Tryz.func4 G zk nq (λ B w0 a U=>?_)
 have U:=zn [(0,(SlA 69 [U32] (xs.map LoA)).va)] [] U
 refine qb<|zh [.v 2 _] [.g 0,.o 0] U (zv G (a9 aB) o0) (zz [(0,_),(2,_)] [] λ a w U=>?_)
 refine zt<|zh [.v 3 _,.v 4 _,.v 5 _,.v 6 _,.f 7 _,.f 8 _,.f 9 _,.f 10 _,.v 11 (Wh ((_=false)∧_=true) _),.v 12 (Wh ((_=false)∧_=true) _),.v 13 (Wh ((_=false)∧_=true) _),.v 14 (Wh ((_=false)∧_=true) _),.v 15 (Wh (((_=false)∧_=true)∧_=false) _),.v 16 (Wh (((_=false)∧_=true)∧_=false) _),.v 17 (Wh (((_=false)∧_=true)∧_=false) _),.v 18 (Wh ((_=false)∧_=true) _),.f 19 _,.v 20 _,.v 2 _] [.o 18] U (zM 0 G (zQ G (yi xs) (.o (vq 0 G)) (zv G (cP (vq 1 G) a8) (zv G (ab (vq 2 G)) (zB 3 G (λ hg=>ab (gq 0 G)) (zB 3 G (λ hg=>aX (dZ xs) (.o (ac (vq 4 G) hg))) (zB 3 G (λ hg=>bF (ac (vq 5 G) hg) a8) (zB 3 G (λ hg=>ab (ac (vq 6 G) hg)) (oc (bJ G G G (vq 7 G) nq (λ hg=>ab (gq 0 G))) (oc (bJ G G G (vq 7 G) nq (λ hg=>aX (eQ xs (muc_g hg.2).1 (muc_g hg.2).2.1) (.o (ac (vq 8 G) hg)))) (oc (bJ G G G (vq 7 G) nq (λ hg=>cP (ac (vq 9 G) hg) a8)) (oc (bJ G G G (vq 7 G) nq (λ hg=>ab (ac (vq 10 G) hg))) (oc (bJ G G G (vq 11 G) nq (λ hg=>ab (gq 0 G))) (oc (bJ G G G (vq 11 G) nq (λ hg=>bh Tryz.underlying22 (ac (vq 12 G) hg))) (oc (bJ G G G (vq 11 G) nq (λ hg=>cP (ac (vq 13 G) hg) a8)) (oc (bJ G G G (vq 7 G) nq (λ hg=>r_or (ac (vq 11 G) hg) (eZ (vq 14 G) hg))) (zB 3 G (λ hg=>bG (ac (vq 7 G) hg) (eZ (vq 15 G) hg)) (zv G (r_or (vq 3 G) (vq 16 G)) (zA 17 G o0))))))))))))))))))) (zz [(2,_)] [] λ a w U=>?_)
 refine a7<|qe<|aj ?_ (an G U (zm 0 G))
 simp only [qi]; exact aL
theorem l4 (x y:RGp):Cn Tryz.prog 15 [(GpA x).va,(GpA y).va] (Bo (decide (x=y))):=by
 refine Cn.intro Tryz.func15 G zk nq (λ B w0 a U=>?_)
 have U:=zn [(0,(GpA x).va),(1,(GpA y).va)] [] U
 refine qb<|zg [] [⟨2,32,ptrH,some 0,_,none⟩,⟨3,32,ptrH,some 1,_,none⟩] [.alc 0,.alc 1,.v 4 _] [.o 2] U (zW 0 G (zW 1 G (zv G (a9 aB) o0))) (zz [(4,_)] [O 2 32 _,O 3 32 _] λ a w U=>?_)
 refine zt<|zg [η,η] [] [.adr 5 2 (.some 0) True,.v 6 _,.adr 7 3 (.some 0) True,.v 8 _,.v 9 _,.v 10 _,.adr 11 2 (.some 4) (_=true),.t 12 _,.adr 13 3 (.some 4) (_=true),.t 14 _,.t 15 _,.v 16 _,.v 4 _] [.o 12] U (zO 0 G bg (zL 0 0 0 G ak (zO 1 G bg (zL 2 1 0 G ak (zQ G (dC _ _) (.p (vq 1 G) (vq 3 G)) (zv G (ab (vq 4 G)) (zC 5 0 G bi (zB 5 G (λ hg=>ax 6 G zk hg (lz0 0 G) (Sub.part 1 G G) ak) (zC 5 1 G bi (zB 5 G (λ hg=>ax 8 G zk hg (lz0 1 G) (Sub.part 1 G G) ak) (zB 5 G (λ hg=>aX (dC _ _) (.p (ac (vq 7 G) hg) (ac (vq 9 G) hg))) (zv G (bG (vq 5 G) (vq 10 G)) (zA 11 G o0))))))))))))) (zz [(4,_)] [O 2 32 _,O 3 32 _] λ a w U=>?_)
 refine a7<|qe<|aj ?_ (an G U (zm 0 G))
 exact bj (qk Bo DY)
theorem lF (x:RGp)(m:Nat→Value)(K:KL)(Rs Es:VL)(hs:(kbl (K++kgp x m)).Nodup)(hl:K.length+Rs.length+Es.length≤999982):CK Tryz.prog 18 61 [61,127] (BkF (K) Rs Es) (BkF (K++(kgp x m)) Rs Es) [(GapP x m).va] (Tu []):=by
 have g1:(kbl ((K++(kf x.lo (m 0) (m 1)))++(kf x.hi (m 2) (m 3)))).Nodup:=by simpa [qD] using hs
 have g0:=sO g1
 refine CK.intro Tryz.func18 G zk nq zk (λ B g w0 a hrm U=>?_)
 have U:=zn [(0,EqV ((ptrH).f g)),(1,(GapP x m).va)] [⟨0,61,ptrH,BkF (K) Rs Es⟩] U
 refine qb<|zg [η] [⟨3,32,ptrH,some 0,_,none⟩] [.alc 1] [.g 0] U (zW 1 G o0) (zz [(0,_)] [O 0 61 _,O 3 32 _] λ a w U=>?_)
 refine zt<|bN (sp:=[.v 4 _,.adr 5 3 (.some 0) True,.v 6 _,.v 7 VT]) 3 1 99 3 OneC [.g 0,.o 0,.o 2] U (zM 0 G (zO 1 G bg (zL 1 1 0 G ak o0))) G zd zk zk (zz [(0,_),(4,_),(6,_)] [O 0 61 _,O 3 32 _] λ a w U=>?_)
 rw [show List.range' 3 1=[3] from rfl]
 rw [qv]
 refine d8 (A1:=BkF (K++(kf x.lo (m 0) (m 1))) Rs Es) (xs:=[.tmp 6]) [0] [2] 0 G U (iK x.lo (m 0) (m 1) K Rs Es g0 (by (try simp only [qn,qR,zy]); omega)) G (zV (b:=ptr g) (U.vals _ (zm 1 G)) (x4 (U.vals _ (zm 0 G)))) (.cons ⟨_,rfl,rfl⟩ .nil) G hrm zd zk zk zk zk (λ a w U=>?_)
 refine bC ?_
 have U:=zn [(7,_),(0,_)] [⟨0,61,ptrH,BkF (K++(kf x.lo (m 0) (m 1))) Rs Es⟩,O 3 32 _] U
 refine a7<|bN (sp:=[.v 8 _,.adr 9 3 (.some 4) True,.v 10 _,.v 11 VT]) 3 1 99 3 OneC [.g 1,.o 0,.o 2] U (zM 1 G (zO 1 G bi (zL 1 1 1 G ak o0))) G zd zk zk (zz [(0,_),(8,_),(10,_)] [O 0 61 _,O 3 32 _] λ a w U=>?_)
 rw [show List.range' 3 1=[3] from rfl]
 rw [qv]
 refine d8 (A1:=BkF ((K++(kf x.lo (m 0) (m 1)))++(kf x.hi (m 2) (m 3))) Rs Es) (xs:=[.tmp 10]) [0] [2] 0 G U (iK x.hi (m 2) (m 3) (K++(kf x.lo (m 0) (m 1))) Rs Es g1 (by (try simp only [qn,qR,zy]); omega)) G (zV (b:=ptr g) (U.vals _ (zm 1 G)) (x4 (U.vals _ (zm 0 G)))) (.cons ⟨_,rfl,rfl⟩ .nil) G hrm zd zk zk zk zk (λ a w U=>?_)
 refine bC ?_
 have U:=St.cvA (A':=BkF (K++(kgp x m)) Rs Es) U 0 rfl (qk (λ k=>BkF k Rs Es) (by simp [qD]))
 have U:=zn [(11,_),(0,_)] [⟨0,61,ptrH,BkF (K++(kgp x m)) Rs Es⟩,O 3 32 _] U
 refine cc<|fG U (zm 1 G) (zm 0 G) ?_
 exact aE (rs:=[]) G U .nil zd
theorem gapp_gpa {x:RGp}{m:Nat→Value}:WkA (GapP x m) (GpA x):=bz (.cons yR (.cons yR .nil))
end Go.Proofs.YtkpifdpdeanjfaaGreatDoor
