import Derived.Test.YtagabklfjmchaaaGreatTpAa
import Derived.Test.YtagabklfjmchaaaGreatTpAc
import Derived.Test.YtagabklfjmchaaaGreatTpAk
set_option linter.unusedVariables false
set_option linter.unusedSimpArgs false
set_option linter.unusedSectionVars false
set_option maxRecDepth 100000
namespace Go.Proofs.YtagabklfjmchaaaGreat
open Go Go.RowKit
theorem ex_checkI : ∃ fn, Tryz.prog.funcs[80]? = some fn ∧ (fn.name == "runtime.NumGoroutine") = false ∧ fn.body.isNone = false := ⟨_, Tryz.func80, by kernel_rfl, by kernel_rfl⟩
theorem check_z {c:Nat}{p:Int}(hc:c≤2048):Cn Tryz.prog 80 [Zs c p] (In 0):=zs1 ex_checkI fun h=>(zjz (riOf p)).post (by rw [zjp,decide_eq_true (by omega:lz p≤2048)]; rfl)
theorem lz_i64 {p:Int}(h0 : -9223372036854775808≤p)(h1:p<9223372036854775808):lz p≤2:=lz_le zo
theorem ansF_ok {q:Rat}(h:lz q.num≤2048∧lz (q.den:Int)≤2048):ansF q=(rfOf q,0):=by rw [ansF,longQ_false.2 h]; rfl
theorem ansF_low {p q:Int}(hq:q≠0)(hp:lz p≤2)(h2:lz q≤2):ansF (Rat.divInt p q)=(rfOf (Rat.divInt p q),0):=by
 have:=zdp (p:=p) hq
 exact ansF_ok zo
theorem make_q {p q:Int}(hq:q≠0):Cn Tryz.prog 79 [Zs 2 p,Zs 2 q] (FrR (ansF (Rat.divInt p q))):=by
 refine Cn.intro Tryz.func79 rfl zk nq (fun B w0 a hst=>?_)
 have hst:St B w0 25 [(0,Zs 2 p),(1,Zs 2 q)] [] a w0.w:=hst
 refine wp_seq ?_
 refine gl (sts:=[]) (news:=[⟨2,25,ptrH,some 0,_,none⟩,⟨3,25,ptrH,some 1,_,none⟩,⟨4,27,ptrH,some 2,_,none⟩]) (sp:=[.alc 0,.alc 1,.alc 2,.val 5 _]) [.o 3] hst (oc (zam rfl rfl rfl (gq 0 rfl)) (oc (zam rfl rfl rfl (gq 1 rfl)) (oc (zao rfl rfl rfl (Str.zero zb3)) (zv rfl (za1 za3) o0)))) (fun a w hst=>?_)
 have hst:St B w0 25 [(5,_)] [⟨2,25,ptrH,_⟩,⟨3,25,ptrH,_⟩,⟨4,27,ptrH,_⟩] a w:=hst
 refine zt ?_
 refine wp_seq ?_
 refine gl (sts:=[none,none,none]) (news:=[]) (sp:=[.val 6 _,.val 7 _,.val 8 _,.val 9 _,.val 10 (Wh (_=false) _),.val 11 (Wh (_=false) _),.val 12 (Wh (_=false) _),.val 13 _]) [.g 0,.o 7] hst (zv rfl (zab (lz0 0 rfl) zak) (zv rfl (za5 (xs:=[.tmp 6]) (check_z zd) (.cons (vq 0 rfl) .nil)) (zv rfl (zco (vq 1 rfl) za3) (zv rfl (za2 (vq 2 rfl)) (oc (zal rfl rfl rfl (vq 3 rfl) nq (fun hg=>zab (lz0 1 rfl) zak)) (oc (zal rfl rfl rfl (vq 3 rfl) nq (fun hg=>za5 (xs:=[.tmp 10]) (check_z zd) (.cons (zaf (vq 4 rfl) hg) .nil))) (oc (zal rfl rfl rfl (vq 3 rfl) nq (fun hg=>zco (zaf (vq 5 rfl) hg) za3)) (zv rfl (r_or (vq 3 rfl) (vq 6 rfl)) o0)))))))) (fun a w hst=>?_)
 have hst:St B w0 25 [(5,_),(13,_)] [⟨2,25,ptrH,_⟩,⟨3,25,ptrH,_⟩,⟨4,27,ptrH,_⟩] a w:=hst
 refine za0 ?_
 refine zaa hst (zm 1 rfl) (fun hb0=>?_) (fun hb0=>?_)
 ·exact absurd hb0 zd
 ·refine wp_skip ?_
  refine zt ?_
  refine wp_seq ?_
  refine gl (sts:=[none,none,none]) (news:=[]) (sp:=[.val 15 _,.val 16 _,.val 17 _]) [.g 0,.o 2] hst (zv rfl (zab (lz0 1 rfl) zak) (zv rfl (za5 (xs:=[.tmp 15]) sign_z (.cons (vq 0 rfl) .nil)) (zv rfl (zbs (vq 1 rfl) za3) o0))) (fun a w hst=>?_)
  have hst:St B w0 25 [(5,_),(17,_)] [⟨2,25,ptrH,_⟩,⟨3,25,ptrH,_⟩,⟨4,27,ptrH,_⟩] a w:=hst
  refine za0 ?_
  refine zaa hst (zm 1 rfl) (fun hb1=>?_) (fun hb1=>?_)
  ·exact absurd hb1 (by simpa using hq)
  ·refine wp_skip ?_
   refine zt<|gl (sts:=[none,none,some (6,_)]) (news:=[]) (sp:=[.val 19 _,.val 20 _,.val 21 _,.val 22 _,.val 23 _,.val 24 _,.sto 2,.val 5 _]) [.o 7] hst (zv rfl (zab (lz0 0 rfl) zak) (zv rfl (zab (lz0 1 rfl) zak) (zv rfl (za5 (xs:=[.tmp 19,.tmp 20]) (zem zd zd hq) (.cons (vq 0 rfl) (.cons (vq 1 rfl) .nil))) (zv rfl (za5 (xs:=[.tmp 21]) (answered_q zd) (.cons (vq 2 rfl) .nil)) (zv rfl (ze4 (vq 3 rfl)) (zv rfl (ze3 (vq 3 rfl)) (oc (zad rfl rfl rfl (vq 4 rfl) za9 (Eq.trans (b:=4) rfl rfl)) (zv rfl (za1 (vq 5 rfl)) o0)))))))) (fun a w hst=>?_)
   have hst:St B w0 25 [(5,_)] [⟨2,25,ptrH,_⟩,⟨3,25,ptrH,_⟩,⟨4,27,ptrH,_⟩] a w:=hst
   refine za0 ?_
   refine wp_ret ?_
   refine zag ?_ (zaq (rs:=[.cell 4 27,.tmp 5]) rfl hst (.cell (zm 2 rfl) za9 (.tmp (zm 0 rfl) .nil)) zd)
   exact zb2
theorem ofQ_c {p q:Int}(hp : -9223372036854775808≤p)(hp1:p<9223372036854775808)(hq0 : -9223372036854775808≤q)(hq1:q<9223372036854775808)(hq:q≠0):Cn Tryz.prog 53 [In p,In q] (FrR (rfOf (Rat.divInt p q),0)):=by
 refine Cn.intro Tryz.func53 rfl zk nq (fun B w0 a hst=>?_)
 have hst:St B w0 13 [(0,In p),(1,In q)] [] a w0.w:=hst
 refine wp_seq ?_
 refine gl (sts:=[]) (news:=[⟨4,27,ptrH,some 0,_,none⟩]) (sp:=[.alc 0,.val 5 _]) [.g 0,.g 1,.o 1] hst (oc (zao rfl rfl rfl (Str.zero zb3)) (zv rfl (za1 za3) o0)) (fun a w hst=>?_)
 have hst:St B w0 13 [(0,_),(1,_),(5,_)] [⟨4,27,ptrH,_⟩] a w:=hst
 refine zt<|gl (sts:=[some (7,_)]) (news:=[]) (sp:=[.val 6 _,.val 7 _,.val 8 _,.val 9 _,.val 10 _,.val 11 _,.val 12 _,.sto 0,.val 5 _]) [.o 8] hst (zv rfl (za2 (gq 0 rfl)) (zv rfl (za5 (xs:=[.tmp 6]) (of_z hp hp1) (.cons (vq 0 rfl) .nil)) (zv rfl (za2 (gq 1 rfl)) (zv rfl (za5 (xs:=[.tmp 8]) (of_z hq0 hq1) (.cons (vq 2 rfl) .nil)) (zv rfl (za5 (xs:=[.tmp 7,.tmp 9]) (make_q hq) (.cons (vq 1 rfl) (.cons (vq 3 rfl) .nil))) (zv rfl (ze4 (vq 4 rfl)) (zv rfl (ze3 (vq 4 rfl)) (oc (zad rfl rfl rfl (vq 5 rfl) za9 (Eq.trans (b:=4) rfl rfl)) (zv rfl (za1 (vq 6 rfl)) o0))))))))) (fun a w hst=>?_)
 have hst:St B w0 13 [(5,_)] [⟨4,27,ptrH,_⟩] a w:=hst
 refine za0 ?_
 refine wp_ret ?_
 refine zag ?_ (zaq (rs:=[.cell 4 27,.tmp 5]) rfl hst (.cell (zm 0 rfl) za9 (.tmp (zm 0 rfl) .nil)) zd)
 rw [← ansF_low hq (lz_i64 hp hp1) (lz_i64 hq0 hq1)]; exact zb2
theorem zgt (x:RF):Cn Tryz.prog 28 [(RFA x).va] (In (if okX x then 0 else 1)):=by
 refine Cn.intro Tryz.func28 rfl zk nq (fun B w0 a hst=>?_)
 have hst:St B w0 5 [(0,(RFA x).va)] [] a w0.w:=hst
 refine wp_seq ?_
 refine gl (sts:=[]) (news:=[⟨1,27,ptrH,some 0,_,none⟩]) (sp:=[.alc 0,.val 2 _]) [.o 1] hst (oc (zam rfl rfl rfl (gq 0 rfl)) (zv rfl (za1 za3) o0)) (fun a w hst=>?_)
 have hst:St B w0 5 [(2,_)] [⟨1,27,ptrH,_⟩] a w:=hst
 refine zt<|gl (sts:=[none]) (news:=[]) (sp:=[.val 3 _,.val 4 _,.val 2 _]) [.o 2] hst (zv rfl (zab (lz0 0 rfl) za9) (zv rfl (za5 (xs:=[.tmp 3]) (zjy _) (.cons (vq 0 rfl) .nil)) (zv rfl (za1 (vq 1 rfl)) o0))) (fun a w hst=>?_)
 have hst:St B w0 5 [(2,_)] [⟨1,27,ptrH,_⟩] a w:=hst
 refine za0 ?_
 refine wp_ret ?_
 refine zag ?_ (zaj rfl hst (zm 0 rfl))
 exact zb2
end Go.Proofs.YtagabklfjmchaaaGreat
namespace Go.Proofs.YtagabklfjmchaaaGreat
open Go Go.RowKit
structure RG where
 re:RF
 im:RF
 deriving DecidableEq
structure RM where
 a:RF
 b:RF
 c:RF
 d:RF
 deriving DecidableEq
structure RR where
 y:RF
 u:RF
 deriving DecidableEq
structure GQ where
 re:Rat
 im:Rat
 deriving DecidableEq
structure MQ where
 a:Rat
 b:Rat
 c:Rat
 d:Rat
 deriving DecidableEq
structure YQ where
 y:Rat
 u:Rat
 deriving DecidableEq
def RMA (x:RM):As:=cat [RFA x.a,RFA x.b,RFA x.c,RFA x.d]
def RRA (x:RR):As:=cat [RFA x.y,RFA x.u]
def QMA (k:Nat)(x:MQ):As:=cat [QA k x.a,QA k x.b,QA k x.c,QA k x.d]
def QRA (k:Nat)(x:YQ):As:=cat [QA k x.y,QA k x.u]
abbrev rm0:RM:=⟨rf0,rf0,rf0,rf0⟩
def rmOf (m:MQ):RM:=⟨rfOf m.a,rfOf m.b,rfOf m.c,rfOf m.d⟩
def toM (x:RM):MQ:=⟨toQ x.a,toQ x.b,toQ x.c,toQ x.d⟩
def toY (x:RR):YQ:=⟨toQ x.y,toQ x.u⟩
def detM (m:MQ):Rat:=m.a*m.d-m.b*m.c
theorem qa_x {k:Nat}{x:RF}(h:okX x=true)(hk:2048≤k):WkA (RFA x) (QA k (toQ x)):=by
 obtain ⟨h1,h2,h3⟩:=okX_q h
 exact (zid (congrArg RFA h1)).trans (qa_of (Nat.le_trans h2 hk) (Nat.le_trans h3 hk))
theorem qm_x {x:RM}(h:[x.a,x.b,x.c,x.d].all okX=true):WkA (RMA x) (QMA 2048 (toM x)):=by
 simp only [List.all_cons,List.all_nil,Bool.and_true,Bool.and_eq_true] at h
 exact zc3 (.cons (qa_x h.1 (Nat.le_refl _)) (.cons (qa_x h.2.1 (Nat.le_refl _)) (.cons (qa_x h.2.2.1 (Nat.le_refl _)) (.cons (qa_x h.2.2.2 (Nat.le_refl _)) .nil))))
theorem qr_x {x:RR}(h:[x.y,x.u].all okX=true):WkA (RRA x) (QRA 2048 (toY x)):=by
 simp only [List.all_cons,List.all_nil,Bool.and_true,Bool.and_eq_true] at h
 exact zc3 (.cons (qa_x h.1 (Nat.le_refl _)) (.cons (qa_x h.2 (Nat.le_refl _)) .nil))
theorem qmA {k:Nat}{x:MQ}:WkA (QMA k x) (RMA (rmOf x)):=zc3 (.cons qaA (.cons qaA (.cons qaA (.cons qaA .nil))))
def okM (m:RM):Bool:=[m.a,m.b,m.c,m.d].all okX&&decide (detM (toM m)=1)
theorem cm_ne {x y:Rat}:(cmQ x y != 0) = !decide (x=y):=by
 unfold cmQ
 by_cases h:x<y
 ·rw [if_pos h]; simp [Rat.ne_of_lt h]
 ·rw [if_neg h]
  by_cases h2:y<x
  ·rw [if_pos h2]; simp [Rat.ne_of_gt h2]
  ·rw [if_neg h2]
   have:x=y:=Rat.le_antisymm (Rat.not_lt.1 h2) (Rat.not_lt.1 h)
   simp [this]
theorem cm_eq {x y:Rat}:(cmQ x y==0)=decide (x=y):=by
 have:=cm_ne (x:=x) (y:=y)
 simp only [bne] at this
 cases h:cmQ x y==0 <;> cases h2:decide (x=y) <;> simp_all
theorem all4 {m:RM}(h:(![m.a,m.b,m.c,m.d].all okX)=false):[m.a,m.b,m.c,m.d].all okX=true:=by simpa using h
theorem zai:Str Tryz.prog 38 [RFA rf0,RFA rf0,RFA rf0,RFA rf0] :=
 Str.of (z:=.agg #[.bool false,.slice none 0 0,.bool false,.slice none 0 0,.bool false,.slice none 0 0,.bool false,.slice none 0 0,.bool false,.slice none 0 0,.bool false,.slice none 0 0,.bool false,.slice none 0 0,.bool false,.slice none 0 0]) zk Tryz.underlying38 zk fun B w=>⟨[[.bool false,.slice none 0 0,.bool false,.slice none 0 0],[.bool false,.slice none 0 0,.bool false,.slice none 0 0],[.bool false,.slice none 0 0,.bool false,.slice none 0 0],[.bool false,.slice none 0 0,.bool false,.slice none 0 0]],rfl,(.cons (zew B w) (.cons (zew B w) (.cons (zew B w) (.cons (zew B w) .nil))))⟩
theorem str_ray:Str Tryz.prog 29 [RFA rf0,RFA rf0] :=
 Str.of (z:=.agg #[.bool false,.slice none 0 0,.bool false,.slice none 0 0,.bool false,.slice none 0 0,.bool false,.slice none 0 0]) zk Tryz.underlying29 zk fun B w=>⟨[[.bool false,.slice none 0 0,.bool false,.slice none 0 0],[.bool false,.slice none 0 0,.bool false,.slice none 0 0]],rfl,(.cons (zew B w) (.cons (zew B w) .nil))⟩
theorem rdet_q {c d e f:Nat}{x y z u:Rat}(hk:c+d+e+f≤137438953472):Cn Tryz.prog 65 [Qs c x,Qs d y,Qs e z,Qs f u] (Qs (c+f+(d+e)+1) (x*u-y*z)):=by
 refine Cn.intro Tryz.func65 rfl zk nq (fun B w0 a hst=>?_)
 have hst:St B w0 16 [(0,Qs c x),(1,Qs d y),(2,Qs e z),(3,Qs f u)] [] a w0.w:=hst
 refine wp_seq ?_
 refine gl (sts:=[]) (news:=[⟨4,27,ptrH,some 0,_,none⟩,⟨5,27,ptrH,some 1,_,none⟩,⟨6,27,ptrH,some 2,_,none⟩,⟨7,27,ptrH,some 3,_,none⟩,⟨8,27,ptrH,some 4,_,none⟩]) (sp:=[.alc 0,.alc 1,.alc 2,.alc 3,.alc 4]) [] hst (oc (zam rfl rfl rfl (gq 0 rfl)) (oc (zam rfl rfl rfl (gq 1 rfl)) (oc (zam rfl rfl rfl (gq 2 rfl)) (oc (zam rfl rfl rfl (gq 3 rfl)) (oc (zao rfl rfl rfl (Str.zero zb3)) o0))))) (fun a w hst=>?_)
 have hst:St B w0 16 [] [⟨4,27,ptrH,_⟩,⟨5,27,ptrH,_⟩,⟨6,27,ptrH,_⟩,⟨7,27,ptrH,_⟩,⟨8,27,ptrH,_⟩] a w:=hst
 refine zt<|zav (anc:=[[],[],[0,1],[],[],[0,1,2,3,4],[0,1,2,3,4,5],[0,1,2,3,4,5,6]]) (sts:=[none,none,none,none,some (7,_)]) (news:=[]) (sp:=[.val 9 _,.val 10 _,.val 11 _,.val 12 _,.val 13 _,.val 14 _,.val 15 _,.sto 4]) [] za6 hst (zv rfl (zab (lz0 0 rfl) za9) (zv rfl (zab (lz0 3 rfl) za9) (zv rfl (za5 (xs:=[.tmp 9,.tmp 10]) (zci zo) (.cons (vq 0 rfl) (.cons (vq 1 rfl) .nil))) (zv rfl (zab (lz0 1 rfl) za9) (zv rfl (zab (lz0 2 rfl) za9) (zv rfl (za5 (xs:=[.tmp 12,.tmp 13]) (zci zo) (.cons (vq 3 rfl) (.cons (vq 4 rfl) .nil))) (zv rfl (za5 (xs:=[.tmp 11,.tmp 14]) (zfw zo) (.cons (vq 2 rfl) (.cons (vq 5 rfl) .nil))) (oc (zad rfl rfl rfl (vq 6 rfl) za9 (Eq.trans (b:=4) rfl rfl)) o0)))))))) zk zk zk zk (fun a w hst=>?_)
 have hst:St B w0 16 [] [⟨4,27,ptrH,_⟩,⟨5,27,ptrH,_⟩,⟨6,27,ptrH,_⟩,⟨7,27,ptrH,_⟩,⟨8,27,ptrH,_⟩] a w:=hst
 refine za0 ?_
 refine wp_ret ?_
 refine zag ?_ (zau rfl hst (zm 4 rfl) za9)
 exact zb2
theorem chkM_yes {m:RM}(h:((![m.a,m.b,m.c,m.d].all okX) || (cmQ (toQ m.a*toQ m.d-toQ m.b*toQ m.c) 1 != 0))=true):(1:Int)=if okM m then 0 else 1:=by
 have:okM m=false:=by
  unfold okM
  rw [cm_ne] at h
  show ([m.a,m.b,m.c,m.d].all okX&&decide (toQ m.a*toQ m.d-toQ m.b*toQ m.c=1))=false
  cases h1:[m.a,m.b,m.c,m.d].all okX
  ·rfl
  ·rw [h1] at h; simpa using h
 rw [this]; rfl
theorem chkM_no {m:RM}(h:((![m.a,m.b,m.c,m.d].all okX) || (cmQ (toQ m.a*toQ m.d-toQ m.b*toQ m.c) 1 != 0))=false):(0:Int)=if okM m then 0 else 1:=by
 have:okM m=true:=by
  unfold okM
  rw [cm_ne] at h
  show ([m.a,m.b,m.c,m.d].all okX&&decide (toQ m.a*toQ m.d-toQ m.b*toQ m.c=1))=true
  cases h1:[m.a,m.b,m.c,m.d].all okX
  ·rw [h1] at h; simp at h
  ·rw [h1] at h; simpa using h
 rw [this]; rfl
theorem det_x {m:RM}(h:(![m.a,m.b,m.c,m.d].all okX)=false):Cn Tryz.prog 65 [(RFA m.a).va,(RFA m.b).va,(RFA m.c).va,(RFA m.d).va] (Qs 8193 (toQ m.a*toQ m.d-toQ m.b*toQ m.c)):=by
 have h4:=all4 h
 simp only [List.all_cons,List.all_nil,Bool.and_true,Bool.and_eq_true] at h4
 exact (rdet_q (c:=2048) (d:=2048) (e:=2048) (f:=2048) zd).wk (.cons (qa_x h4.1 (Nat.le_refl _)).va (.cons (qa_x h4.2.1 (Nat.le_refl _)).va (.cons (qa_x h4.2.2.1 (Nat.le_refl _)).va (.cons (qa_x h4.2.2.2 (Nat.le_refl _)).va .nil))))
theorem zha (m:RM):Cn Tryz.prog 29 [(RMA m).va] (In (if okM m then 0 else 1)):=by
 refine Cn.intro Tryz.func29 rfl zk nq (fun B w0 a hst=>?_)
 have hst:St B w0 28 [(0,(RMA m).va)] [] a w0.w:=hst
 refine wp_seq ?_
 refine gl (sts:=[]) (news:=[⟨1,38,ptrH,some 0,_,none⟩]) (sp:=[.alc 0,.val 2 _]) [.o 1] hst (oc (zam rfl rfl rfl (gq 0 rfl)) (zv rfl (za1 za3) o0)) (fun a w hst=>?_)
 have hst:St B w0 28 [(2,_)] [⟨1,38,ptrH,_⟩] a w:=hst
 refine zt ?_
 refine wp_seq ?_
 refine gl (sts:=[none]) (news:=[]) (sp:=((.adr 3 1 (.some 0) True:Sp)::(.val 4 _)::(.adr 5 1 (.some 4) True)::(.val 6 _)::(.adr 7 1 (.some 8) True)::(.val 8 _)::(.adr 9 1 (.some 12) True)::(.val 10 _)::(.val 11 _)::(.val 12 _)::(.val 13 _)::(.val 14 _)::(.adr 15 1 (.some 0) (_=false))::(.val 16 (Wh (_=false) _))::(.adr 17 1 (.some 4) (_=false))::(.val 18 (Wh (_=false) _))::(.adr 19 1 (.some 8) (_=false))::(.val 20 (Wh (_=false) _))::(.adr 21 1 (.some 12) (_=false))::(.val 22 (Wh (_=false) _))::(.val 23 (Wh (_=false) _))::(.val 24 (Wh (_=false) _))::(.val 25 (Wh (_=false) _))::(.val 26 (Wh (_=false) _))::(.val 27 _)::[])) [.g 0,.o 24] hst (oc (ob_a rfl rfl (za7 (lz0 0 rfl) zbc)) (zv rfl (za4 0 rfl zk trivial (lz0 0 rfl) (Sub.part 0 rfl rfl) za9) (oc (ob_a rfl rfl (za7 (lz0 0 rfl) zbi)) (zv rfl (za4 2 rfl zk trivial (lz0 0 rfl) (Sub.part 1 rfl rfl) za9) (oc (ob_a rfl rfl (za7 (lz0 0 rfl) zbh)) (zv rfl (za4 4 rfl zk trivial (lz0 0 rfl) (Sub.part 2 rfl rfl) za9) (oc (ob_a rfl rfl (za7 (lz0 0 rfl) zbf)) (zv rfl (za4 6 rfl zk trivial (lz0 0 rfl) (Sub.part 3 rfl rfl) za9) (zv rfl (zc5 (D:=[U32]) (l:=[_,_,_,_]) (xs:=[.tmp 4,.tmp 6,.tmp 8,.tmp 10]) (zdh zk) zcz zk (n_ok zk) nq nq nq (.cons (vq 1 rfl) (.cons (vq 3 rfl) (.cons (vq 5 rfl) (.cons (vq 7 rfl) .nil)))) rfl rfl) (zv rfl (za5 (xs:=[.tmp 11]) (zfk [m.a,m.b,m.c,m.d] nq) (.cons (vq 8 rfl) .nil)) (zv rfl (zft (vq 9 rfl)) (zv rfl (za2 (vq 10 rfl)) (oc (zc8 rfl rfl rfl (vq 11 rfl) nq (fun hg=>za7 (lz0 0 rfl) zbc)) (oc (zal rfl rfl rfl (vq 11 rfl) nq (fun hg=>za4 12 rfl zk hg (lz0 0 rfl) (Sub.part 0 rfl rfl) za9)) (oc (zc8 rfl rfl rfl (vq 11 rfl) nq (fun hg=>za7 (lz0 0 rfl) zbi)) (oc (zal rfl rfl rfl (vq 11 rfl) nq (fun hg=>za4 14 rfl zk hg (lz0 0 rfl) (Sub.part 1 rfl rfl) za9)) (oc (zc8 rfl rfl rfl (vq 11 rfl) nq (fun hg=>za7 (lz0 0 rfl) zbh)) (oc (zal rfl rfl rfl (vq 11 rfl) nq (fun hg=>za4 16 rfl zk hg (lz0 0 rfl) (Sub.part 2 rfl rfl) za9)) (oc (zc8 rfl rfl rfl (vq 11 rfl) nq (fun hg=>za7 (lz0 0 rfl) zbf)) (oc (zal rfl rfl rfl (vq 11 rfl) nq (fun hg=>za4 18 rfl zk hg (lz0 0 rfl) (Sub.part 3 rfl rfl) za9)) (oc (zal rfl rfl rfl (vq 11 rfl) nq (fun hg=>za5 (xs:=[.tmp 16,.tmp 18,.tmp 20,.tmp 22]) (det_x hg) (.cons (zaf (vq 13 rfl) hg) (.cons (zaf (vq 15 rfl) hg) (.cons (zaf (vq 17 rfl) hg) (.cons (zaf (vq 19 rfl) hg) .nil)))))) (oc (zal rfl rfl rfl (vq 11 rfl) nq (fun hg=>za5 (xs:=[]) ziz .nil)) (oc (zal rfl rfl rfl (vq 11 rfl) nq (fun hg=>za5 (xs:=[.tmp 23,.tmp 24]) (cmp_q zo) (.cons (zaf (vq 20 rfl) hg) (.cons (zaf (vq 21 rfl) hg) .nil)))) (oc (zal rfl rfl rfl (vq 11 rfl) nq (fun hg=>zco (zaf (vq 22 rfl) hg) za3)) (zv rfl (r_or (vq 11 rfl) (vq 23 rfl)) o0))))))))))))))))))))))))) (fun a w hst=>?_)
 have hst:St B w0 28 [(2,_),(27,_)] [⟨1,38,ptrH,_⟩] a w:=hst
 refine za0 ?_
 refine zaa hst (zm 1 rfl) (fun hb0=>?_) (fun hb0=>?_)
 ·refine wp_seq ?_
  refine gl (sts:=[none]) (news:=[]) (sp:=[.val 2 _]) [.o 0] hst (zv rfl (za1 za3) o0) (fun a w hst=>?_)
  have hst:St B w0 28 [(2,_)] [⟨1,38,ptrH,_⟩] a w:=hst
  refine za0 ?_
  refine wp_ret ?_
  refine zah ?_
  refine zag ?_ (zaj rfl hst (zm 0 rfl))
  exact zd2 (congrArg In (chkM_yes hb0))
 ·refine wp_skip ?_
  refine zt<|gl (sts:=[none]) (news:=[]) (sp:=[.val 2 _]) [.o 0] hst (zv rfl (za1 za3) o0) (fun a w hst=>?_)
  have hst:St B w0 28 [(2,_)] [⟨1,38,ptrH,_⟩] a w:=hst
  refine za0 ?_
  refine wp_ret ?_
  refine zag ?_ (zaj rfl hst (zm 0 rfl))
  exact zd2 (congrArg In (chkM_no hb0))
theorem rowDet_q {c:Nat}{m:MQ}(hk:c≤137438953472):Cn Tryz.prog 68 [(QMA c m).va] (Qs (c+c+(c+c)+1) (detM m)):=by
 refine Cn.intro Tryz.func68 rfl zk nq (fun B w0 a hst=>?_)
 have hst:St B w0 14 [(0,(QMA c m).va)] [] a w0.w:=hst
 refine wp_seq ?_
 refine gl (sts:=[]) (news:=[⟨1,38,ptrH,some 0,_,none⟩,⟨2,27,ptrH,some 1,_,none⟩]) (sp:=[.alc 0,.alc 1]) [] hst (oc (zam rfl rfl rfl (gq 0 rfl)) (oc (zao rfl rfl rfl (Str.zero zb3)) o0)) (fun a w hst=>?_)
 have hst:St B w0 14 [] [⟨1,38,ptrH,_⟩,⟨2,27,ptrH,_⟩] a w:=hst
 refine zt<|zav (anc:=[[],[0],[],[2],[0,1,2,3],[],[5],[],[7],[0,1,2,3,4,5,6,7,8],[0,1,2,3,4,5,6,7,8,9],[0,1,2,3,4,5,6,7,8,9,10]]) (sts:=[none,some (11,_)]) (news:=[]) (sp:=[.adr 3 1 (.some 0) True,.val 4 _,.adr 5 1 (.some 12) True,.val 6 _,.val 7 _,.adr 8 1 (.some 4) True,.val 9 _,.adr 10 1 (.some 8) True,.val 11 _,.val 12 _,.val 13 _,.sto 1]) [] za6 hst (oc (ob_a rfl rfl (za7 (lz0 0 rfl) zbc)) (zv rfl (za4 0 rfl zk trivial (lz0 0 rfl) (Sub.part 0 rfl rfl) za9) (oc (ob_a rfl rfl (za7 (lz0 0 rfl) zbf)) (zv rfl (za4 2 rfl zk trivial (lz0 0 rfl) (Sub.part 3 rfl rfl) za9) (zv rfl (za5 (xs:=[.tmp 4,.tmp 6]) (zci zo) (.cons (vq 1 rfl) (.cons (vq 3 rfl) .nil))) (oc (ob_a rfl rfl (za7 (lz0 0 rfl) zbi)) (zv rfl (za4 5 rfl zk trivial (lz0 0 rfl) (Sub.part 1 rfl rfl) za9) (oc (ob_a rfl rfl (za7 (lz0 0 rfl) zbh)) (zv rfl (za4 7 rfl zk trivial (lz0 0 rfl) (Sub.part 2 rfl rfl) za9) (zv rfl (za5 (xs:=[.tmp 9,.tmp 11]) (zci zo) (.cons (vq 6 rfl) (.cons (vq 8 rfl) .nil))) (zv rfl (za5 (xs:=[.tmp 7,.tmp 12]) (zfw zo) (.cons (vq 4 rfl) (.cons (vq 9 rfl) .nil))) (oc (zad rfl rfl rfl (vq 10 rfl) za9 (Eq.trans (b:=4) rfl rfl)) o0)))))))))))) zk zk zk zk (fun a w hst=>?_)
 have hst:St B w0 14 [] [⟨1,38,ptrH,_⟩,⟨2,27,ptrH,_⟩] a w:=hst
 refine za0 ?_
 refine wp_ret ?_
 refine zag ?_ (zau rfl hst (zm 1 rfl) za9)
 exact zb2
theorem rowDet_x {m:RM}(h:[m.a,m.b,m.c,m.d].all okX=true):Cn Tryz.prog 68 [(RMA m).va] (Qs 8193 (detM (toM m))):=(rowDet_q (c:=2048) zd).wk (.cons (qm_x h).va .nil)
theorem may_e {m:RM}:Bo ([m.a,m.b,m.c,m.d].all okX&&(cmQ (detM (toM m)) 1==0))=Bo (okM m):=by rw [cm_eq]; rfl
theorem zhr (m:RM):Cn Tryz.prog 31 [(RMA m).va] (Bo (okM m)):=by
 refine Cn.intro Tryz.func31 rfl zk nq (fun B w0 a hst=>?_)
 have hst:St B w0 20 [(0,(RMA m).va)] [] a w0.w:=hst
 refine wp_seq ?_
 refine gl (sts:=[]) (news:=[⟨1,38,ptrH,some 0,_,none⟩]) (sp:=[.alc 0,.val 2 _]) [.o 1] hst (oc (zam rfl rfl rfl (gq 0 rfl)) (zv rfl (za1 zbk) o0)) (fun a w hst=>?_)
 have hst:St B w0 20 [(2,_)] [⟨1,38,ptrH,_⟩] a w:=hst
 refine zt<|gl (sts:=[none]) (news:=[]) (sp:=[.adr 3 1 (.some 0) True,.val 4 _,.adr 5 1 (.some 4) True,.val 6 _,.adr 7 1 (.some 8) True,.val 8 _,.adr 9 1 (.some 12) True,.val 10 _,.val 11 _,.val 12 _,.val 13 _,.val 14 (Wh (_=true) _),.val 15 (Wh (_=true) _),.val 16 (Wh (_=true) _),.val 17 (Wh (_=true) _),.val 18 (Wh (_=true) _),.val 19 _,.val 2 _]) [.o 17] hst (oc (ob_a rfl rfl (za7 (lz0 0 rfl) zbc)) (zv rfl (za4 0 rfl zk trivial (lz0 0 rfl) (Sub.part 0 rfl rfl) za9) (oc (ob_a rfl rfl (za7 (lz0 0 rfl) zbi)) (zv rfl (za4 2 rfl zk trivial (lz0 0 rfl) (Sub.part 1 rfl rfl) za9) (oc (ob_a rfl rfl (za7 (lz0 0 rfl) zbh)) (zv rfl (za4 4 rfl zk trivial (lz0 0 rfl) (Sub.part 2 rfl rfl) za9) (oc (ob_a rfl rfl (za7 (lz0 0 rfl) zbf)) (zv rfl (za4 6 rfl zk trivial (lz0 0 rfl) (Sub.part 3 rfl rfl) za9) (zv rfl (zc5 (D:=[U32]) (l:=[_,_,_,_]) (xs:=[.tmp 4,.tmp 6,.tmp 8,.tmp 10]) (zdh zk) zcz zk (n_ok zk) nq nq nq (.cons (vq 1 rfl) (.cons (vq 3 rfl) (.cons (vq 5 rfl) (.cons (vq 7 rfl) .nil)))) rfl rfl) (zv rfl (za5 (xs:=[.tmp 11]) (zfk [m.a,m.b,m.c,m.d] nq) (.cons (vq 8 rfl) .nil)) (zv rfl (za2 (vq 9 rfl)) (oc (zal rfl rfl rfl (vq 10 rfl) nq (fun hg=>zab (lz0 0 rfl) zat)) (oc (zal rfl rfl rfl (vq 10 rfl) nq (fun hg=>za5 (xs:=[.tmp 14]) (rowDet_x hg) (.cons (zaf (vq 11 rfl) hg) .nil))) (oc (zal rfl rfl rfl (vq 10 rfl) nq (fun hg=>za5 (xs:=[]) ziz .nil)) (oc (zal rfl rfl rfl (vq 10 rfl) nq (fun hg=>za5 (xs:=[.tmp 15,.tmp 16]) (cmp_q zo) (.cons (zaf (vq 12 rfl) hg) (.cons (zaf (vq 13 rfl) hg) .nil)))) (oc (zal rfl rfl rfl (vq 10 rfl) nq (fun hg=>zbs (zaf (vq 14 rfl) hg) za3)) (zv rfl (zc9 (vq 10 rfl) (vq 15 rfl)) (zv rfl (za1 (vq 16 rfl)) o0)))))))))))))))))) (fun a w hst=>?_)
 have hst:St B w0 20 [(2,_)] [⟨1,38,ptrH,_⟩] a w:=hst
 refine za0 ?_
 refine wp_ret ?_
 refine zag ?_ (zaj rfl hst (zm 0 rfl))
 exact zd2 may_e
end Go.Proofs.YtagabklfjmchaaaGreat
namespace Go.Proofs.YtagabklfjmchaaaGreat
open Go Go.RowKit
theorem zhv {m:RM}(h:okM m=true):[m.a,m.b,m.c,m.d].all okX=true∧detM (toM m)=1:=by
 unfold okM at h
 rw [Bool.and_eq_true,decide_eq_true_eq] at h
 exact h
end Go.Proofs.YtagabklfjmchaaaGreat
namespace Go.Proofs.YtagabklfjmchaaaGreat
open Go Go.RowKit
def intSizeF (x:RI):Int:=IntKind.i64.wrap (1+(x.mag.length:Int))
def fracSizeF (x:RF):Int:=IntKind.i64.wrap (intSizeF x.num+intSizeF x.den)
def lowCostF (x y:RI):Int:=IntKind.i64.wrap (IntKind.i64.wrap ((IntKind.i64.wrap (min (x.mag.length:Int) 1048576*min (y.mag.length:Int) 1048576)).tdiv 16)*1024)
def fracCostF (x:RF):Int:=IntKind.i64.wrap (fracSizeF x+lowCostF x.num x.den)
def rayCostF (x:RR):Int:=IntKind.i64.wrap (fracCostF x.y+fracCostF x.u)
def bydF (n:Int):List Int→Bool
 | []=>false
 | x::xs=>if decide (IntKind.i64.wrap (n+x)>1048576) then true else bydF (IntKind.i64.wrap (n+x)) xs
theorem byd_yes {n:Int}{l:List Int}{j:Nat}(h:j<l.length)(h2:decide (IntKind.i64.wrap (n+l[j])>1048576)=true):true=bydF n (l.drop j):=by
 rw [List.drop_eq_getElem_cons h,bydF,h2]; rfl
theorem byd_no {n:Int}{l:List Int}{j:Nat}(h:j<l.length)(h2:decide (IntKind.i64.wrap (n+l[j])>1048576)=false):bydF n (l.drop j)=bydF (IntKind.i64.wrap (n+l[j])) (l.drop (j+1)):=by
 rw [List.drop_eq_getElem_cons h,bydF,h2]; rfl
theorem wi_nx {j m:Nat}(h:j<m)(hm:m≤9223372036854775807):IntKind.i64.wrap ((j:Int)+1)=((j+1:Nat):Int):=by rw [wi64 zo zo]; rfl
theorem slA_len {E:TypeId}{D:List TypeId}{l:List As}{B:Nat}{v:Value}{w:World}(h:(SlA E D l).va.p B v w):l.length≤9223372036854775807:=by
 obtain ⟨cs,⟨_,A,c,ds,_,h1,h2,_⟩,_⟩:=h
 unfold maxLen at h2
 omega
theorem zhq {E:TypeId}{D:List TypeId}{α:Type}{f:α→As}{l:List α}{B:Nat}{v:Value}{w:World}(h:(SlA E D (l.map f)).va.p B v w):l.length≤9223372036854775807:=by
 have:=slA_len h
 rwa [List.length_map] at this
theorem zj2 (x:RI):Cn Tryz.prog 48 [(RIA x).va] (In (intSizeF x)):=by
 refine Cn.intro Tryz.func48 rfl zk nq (fun B w0 a hst=>?_)
 have hst:St B w0 7 [(0,(RIA x).va)] [] a w0.w:=hst
 refine wp_seq ?_
 refine gl (sts:=[]) (news:=[⟨1,25,ptrH,some 0,_,none⟩]) (sp:=[.alc 0,.val 2 _]) [.o 1] hst (oc (zam rfl rfl rfl (gq 0 rfl)) (zv rfl (za1 za3) o0)) (fun a w hst=>?_)
 have hst:St B w0 7 [(2,_)] [⟨1,25,ptrH,_⟩] a w:=hst
 refine zt<|gl (sts:=[none]) (news:=[]) (sp:=[.adr 3 1 (.some 1) True,.val 4 _,.val 5 _,.val 6 _,.val 2 _]) [.o 4] hst (oc (ob_a rfl rfl (za7 (lz0 0 rfl) zap)) (zv rfl (za4 0 rfl zk trivial (lz0 0 rfl) (Sub.part 1 rfl rfl) zbq) (zv rfl (zb6 Tryz.underlying23 (vq 1 rfl)) (zv rfl (zb8 za3 (vq 2 rfl) (rfl)) (zv rfl (za1 (vq 3 rfl)) o0))))) (fun a w hst=>?_)
 have hst:St B w0 7 [(2,_)] [⟨1,25,ptrH,_⟩] a w:=hst
 refine za0 ?_
 refine wp_ret ?_
 refine zag ?_ (zaj rfl hst (zm 0 rfl))
 exact zb2
theorem fracSize_c (x:RF):Cn Tryz.prog 19 [(RFA x).va] (In (fracSizeF x)):=by
 refine Cn.intro Tryz.func19 rfl zk nq (fun B w0 a hst=>?_)
 have hst:St B w0 10 [(0,(RFA x).va)] [] a w0.w:=hst
 refine wp_seq ?_
 refine gl (sts:=[]) (news:=[⟨1,27,ptrH,some 0,_,none⟩]) (sp:=[.alc 0,.val 2 _]) [.o 1] hst (oc (zam rfl rfl rfl (gq 0 rfl)) (zv rfl (za1 za3) o0)) (fun a w hst=>?_)
 have hst:St B w0 10 [(2,_)] [⟨1,27,ptrH,_⟩] a w:=hst
 refine zt<|zav (anc:=[[],[0],[0,1],[],[3],[0,1,2,3,4],[0,1,2,3,4,5],[0,1,2,3,4,5,6]]) (sts:=[none]) (news:=[]) (sp:=[.adr 3 1 (.some 0) True,.val 4 _,.val 5 _,.adr 6 1 (.some 2) True,.val 7 _,.val 8 _,.val 9 _,.val 2 _]) [.o 7] za6 hst (oc (ob_a rfl rfl (za7 (lz0 0 rfl) zba)) (zv rfl (za4 0 rfl zk trivial (lz0 0 rfl) (Sub.part 0 rfl rfl) zak) (zv rfl (za5 (xs:=[.tmp 4]) (zj2 _) (.cons (vq 1 rfl) .nil)) (oc (ob_a rfl rfl (za7 (lz0 0 rfl) zb5)) (zv rfl (za4 3 rfl zk trivial (lz0 0 rfl) (Sub.part 1 rfl rfl) zak) (zv rfl (za5 (xs:=[.tmp 7]) (zj2 _) (.cons (vq 4 rfl) .nil)) (zv rfl (zb8 (vq 2 rfl) (vq 5 rfl) (rfl)) (zv rfl (za1 (vq 6 rfl)) o0)))))))) zk zk zk zk (fun a w hst=>?_)
 have hst:St B w0 10 [(2,_)] [⟨1,27,ptrH,_⟩] a w:=hst
 refine za0 ?_
 refine wp_ret ?_
 refine zag ?_ (zaj rfl hst (zm 0 rfl))
 exact zb2
theorem lowCost_c (x y:RI):Cn Tryz.prog 20 [(RIA x).va,(RIA y).va] (In (lowCostF x y)):=by
 refine Cn.intro Tryz.func20 rfl zk nq (fun B w0 a hst=>?_)
 have hst:St B w0 16 [(0,(RIA x).va),(1,(RIA y).va)] [] a w0.w:=hst
 refine wp_seq ?_
 refine gl (sts:=[]) (news:=[⟨2,25,ptrH,some 0,_,none⟩,⟨3,25,ptrH,some 1,_,none⟩]) (sp:=[.alc 0,.alc 1,.val 4 _]) [.o 2] hst (oc (zam rfl rfl rfl (gq 0 rfl)) (oc (zam rfl rfl rfl (gq 1 rfl)) (zv rfl (za1 za3) o0))) (fun a w hst=>?_)
 have hst:St B w0 16 [(4,_)] [⟨2,25,ptrH,_⟩,⟨3,25,ptrH,_⟩] a w:=hst
 refine zt<|gl (sts:=[none,none]) (news:=[]) (sp:=[.adr 5 2 (.some 1) True,.val 6 _,.val 7 _,.val 8 _,.adr 9 3 (.some 1) True,.val 10 _,.val 11 _,.val 12 _,.val 13 _,.val 14 _,.val 15 _,.val 4 _]) [.o 11] hst (oc (ob_a rfl rfl (za7 (lz0 0 rfl) zap)) (zv rfl (za4 0 rfl zk trivial (lz0 0 rfl) (Sub.part 1 rfl rfl) zbq) (zv rfl (zb6 Tryz.underlying23 (vq 1 rfl)) (zv rfl (r_min (vq 2 rfl) za3) (oc (ob_a rfl rfl (za7 (lz0 1 rfl) zap)) (zv rfl (za4 4 rfl zk trivial (lz0 1 rfl) (Sub.part 1 rfl rfl) zbq) (zv rfl (zb6 Tryz.underlying23 (vq 5 rfl)) (zv rfl (r_min (vq 6 rfl) za3) (zv rfl (r_mul (vq 3 rfl) (vq 7 rfl) (rfl)) (zv rfl (r_quo (vq 8 rfl) za3 zd (rfl)) (zv rfl (r_mul (vq 9 rfl) za3 (rfl)) (zv rfl (za1 (vq 10 rfl)) o0)))))))))))) (fun a w hst=>?_)
 have hst:St B w0 16 [(4,_)] [⟨2,25,ptrH,_⟩,⟨3,25,ptrH,_⟩] a w:=hst
 refine za0 ?_
 refine wp_ret ?_
 refine zag ?_ (zaj rfl hst (zm 0 rfl))
 exact zb2
theorem zdj (x:RF):Cn Tryz.prog 7 [(RFA x).va] (In (fracCostF x)):=by
 refine Cn.intro Tryz.func7 rfl zk nq (fun B w0 a hst=>?_)
 have hst:St B w0 11 [(0,(RFA x).va)] [] a w0.w:=hst
 refine wp_seq ?_
 refine gl (sts:=[]) (news:=[⟨1,27,ptrH,some 0,_,none⟩]) (sp:=[.alc 0,.val 2 _]) [.o 1] hst (oc (zam rfl rfl rfl (gq 0 rfl)) (zv rfl (za1 za3) o0)) (fun a w hst=>?_)
 have hst:St B w0 11 [(2,_)] [⟨1,27,ptrH,_⟩] a w:=hst
 refine zt<|zav (anc:=[[],[0],[],[2],[],[4],[0,1,2,3,4,5],[0,1,2,3,4,5,6],[0,1,2,3,4,5,6,7]]) (sts:=[none]) (news:=[]) (sp:=[.val 3 _,.val 4 _,.adr 5 1 (.some 0) True,.val 6 _,.adr 7 1 (.some 2) True,.val 8 _,.val 9 _,.val 10 _,.val 2 _]) [.o 8] za6 hst (zv rfl (zab (lz0 0 rfl) za9) (zv rfl (za5 (xs:=[.tmp 3]) (fracSize_c _) (.cons (vq 0 rfl) .nil)) (oc (ob_a rfl rfl (za7 (lz0 0 rfl) zba)) (zv rfl (za4 2 rfl zk trivial (lz0 0 rfl) (Sub.part 0 rfl rfl) zak) (oc (ob_a rfl rfl (za7 (lz0 0 rfl) zb5)) (zv rfl (za4 4 rfl zk trivial (lz0 0 rfl) (Sub.part 1 rfl rfl) zak) (zv rfl (za5 (xs:=[.tmp 6,.tmp 8]) (lowCost_c _ _) (.cons (vq 3 rfl) (.cons (vq 5 rfl) .nil))) (zv rfl (zb8 (vq 1 rfl) (vq 6 rfl) (rfl)) (zv rfl (za1 (vq 7 rfl)) o0))))))))) zk zk zk zk (fun a w hst=>?_)
 have hst:St B w0 11 [(2,_)] [⟨1,27,ptrH,_⟩] a w:=hst
 refine za0 ?_
 refine wp_ret ?_
 refine zag ?_ (zaj rfl hst (zm 0 rfl))
 exact zb2
theorem rayCost_c (x:RR):Cn Tryz.prog 6 [(RRA x).va] (In (rayCostF x)):=by
 refine Cn.intro Tryz.func6 rfl zk nq (fun B w0 a hst=>?_)
 have hst:St B w0 10 [(0,(RRA x).va)] [] a w0.w:=hst
 refine wp_seq ?_
 refine gl (sts:=[]) (news:=[⟨1,29,ptrH,some 0,_,none⟩]) (sp:=[.alc 0,.val 2 _]) [.o 1] hst (oc (zam rfl rfl rfl (gq 0 rfl)) (zv rfl (za1 za3) o0)) (fun a w hst=>?_)
 have hst:St B w0 10 [(2,_)] [⟨1,29,ptrH,_⟩] a w:=hst
 refine zt<|zav (anc:=[[],[0],[0,1],[],[3],[0,1,2,3,4],[0,1,2,3,4,5],[0,1,2,3,4,5,6]]) (sts:=[none]) (news:=[]) (sp:=[.adr 3 1 (.some 0) True,.val 4 _,.val 5 _,.adr 6 1 (.some 4) True,.val 7 _,.val 8 _,.val 9 _,.val 2 _]) [.o 7] za6 hst (oc (ob_a rfl rfl (za7 (lz0 0 rfl) zeq)) (zv rfl (za4 0 rfl zk trivial (lz0 0 rfl) (Sub.part 0 rfl rfl) za9) (zv rfl (za5 (xs:=[.tmp 4]) (zdj _) (.cons (vq 1 rfl) .nil)) (oc (ob_a rfl rfl (za7 (lz0 0 rfl) zep)) (zv rfl (za4 3 rfl zk trivial (lz0 0 rfl) (Sub.part 1 rfl rfl) za9) (zv rfl (za5 (xs:=[.tmp 7]) (zdj _) (.cons (vq 4 rfl) .nil)) (zv rfl (zb8 (vq 2 rfl) (vq 5 rfl) (rfl)) (zv rfl (za1 (vq 6 rfl)) o0)))))))) zk zk zk zk (fun a w hst=>?_)
 have hst:St B w0 10 [(2,_)] [⟨1,29,ptrH,_⟩] a w:=hst
 refine za0 ?_
 refine wp_ret ?_
 refine zag ?_ (zaj rfl hst (zm 0 rfl))
 exact zb2
theorem beyond_c (l:List Int):Cn Tryz.prog 4 [(SlA 3 [] (l.map (NumA .i64))).va] (Bo (bydF 0 l)):=by
 refine Cn.intro Tryz.func4 rfl zk nq (fun B w0 a hst=>?_)
 have hst:St B w0 19 [(0,(SlA 3 [] (l.map (NumA .i64))).va)] [] a w0.w:=hst
 have hl:=zhq (hst.vals (0,(SlA 3 [] (l.map (NumA .i64))).va) (zm 0 rfl))
 refine wp_seq ?_
 refine gl (sts:=[]) (news:=[]) (sp:=[.val 2 _]) [.g 0,.o 0] hst (zv rfl (za1 zbk) o0) (fun a w hst=>?_)
 have hst:St B w0 19 [(0,_),(2,_)] [] a w:=hst
 refine zt<|gl (sts:=[]) (news:=[]) (sp:=[.val 3 _]) [.g 0,.g 1,.o 0] hst (zv rfl (za1 za3) o0) (fun a w hst=>?_)
 have hst:St B w0 19 [(0,_),(2,_),(3,_)] [] a w:=hst
 refine zt ?_
 refine wp_seq ?_
 refine gl (sts:=[]) (news:=[]) (sp:=[.val 4 _]) [.g 0,.g 1,.g 2,.o 0] hst (zv rfl (za1 za3) o0) (fun a w hst=>?_)
 have hst:St B w0 19 [(0,_),(2,_),(3,_),(4,_)] [] a w:=hst
 refine za0 ?_
 refine wp_block ?_
 have hst:=St.sel hst [0,2,3]
 refine wp_loop_ghost (fun n a w=>∃ (j:Nat) (m:Int),(n+j=l.length∧bydF 0 l=bydF m (l.drop j))∧St B w0 19 [(0,(SlA 3 [] (l.map (NumA .i64))).va),(3,In m),(4,In (j:Nat))] [] a w) (l.length) ?_ ?_
 ·exact ⟨0,0,⟨by omega,rfl⟩,hst⟩
 intro n a w hI
 obtain ⟨j,m,⟨hn,hm⟩,hst⟩:=hI
 refine wp_seq ?_
 refine wp_seq ?_
 refine gl (sts:=[]) (news:=[]) (sp:=[.val 5 _,.val 6 _,.val 7 _,.val 8 _]) [.g 0,.g 1,.g 2,.o 3] hst (zv rfl (za2 (gq 2 rfl)) (zv rfl (za2 (gq 0 rfl)) (zv rfl (zfb Tryz.underlying51 (vq 1 rfl)) (zv rfl (zc2 (vq 0 rfl) (vq 2 rfl)) o0)))) (fun a w hst=>?_)
 have hst:St B w0 19 [(0,_),(3,_),(4,_),(8,_)] [] a w:=hst
 refine za0 ?_
 refine zaa hst (zm 3 rfl) (fun hb0=>?_) (fun hb0=>?_)
 ·have hj:j<l.length:=by rw [List.length_map] at hb0; simp at hb0; omega
  refine wp_skip ?_
  refine zt ?_
  refine wp_block ?_
  refine wp_seq ?_
  refine gl (sts:=[]) (news:=[]) (sp:=[.val 11 _,.val 12 _,.val 13 _,.val 14 _,.val 15 _,.val 16 _,.val 3 _]) [.g 0,.g 2,.o 6] hst (zv rfl (za2 (gq 1 rfl)) (zv rfl (za2 (gq 0 rfl)) (zv rfl (za2 (gq 2 rfl)) (zv rfl (zde sl_51 (zg7 fun _=>rfl) (vq 1 rfl) (vq 2 rfl) (zf2 hj)) (zv rfl (zas (vq 3 rfl) ty_3) (zv rfl (zb8 (vq 0 rfl) (vq 4 rfl) (rfl)) (zv rfl (za1 (vq 5 rfl)) o0))))))) (fun a w hst=>?_)
  have hst:St B w0 19 [(0,_),(4,_),(3,_)] [] a w:=hst
  refine zt<|gl (sts:=[]) (news:=[]) (sp:=[.val 17 _,.val 18 _]) [.g 0,.g 1,.g 2,.o 1] hst (zv rfl (za2 (gq 2 rfl)) (zv rfl (zex (vq 0 rfl) za3) o0)) (fun a w hst=>?_)
  have hst:St B w0 19 [(0,_),(4,_),(3,_),(18,_)] [] a w:=hst
  refine za0 ?_
  refine zaa hst (zm 3 rfl) (fun hb1=>?_) (fun hb1=>?_)
  ·refine wp_seq ?_
   refine gl (sts:=[]) (news:=[]) (sp:=[.val 2 _]) [.g 0,.g 1,.g 2,.o 0] hst (zv rfl (za1 zbk) o0) (fun a w hst=>?_)
   have hst:St B w0 19 [(0,_),(4,_),(3,_),(2,_)] [] a w:=hst
   refine za0 ?_
   refine wp_ret ?_
   refine zb1 ?_
   refine zah ?_
   refine zah ?_
   refine zb1 ?_
   refine zah ?_
   refine zag ?_ (zaj rfl hst (zm 3 rfl))
   exact zd2 (congrArg Bo ((byd_yes hj hb1).trans hm.symm))
  ·refine wp_skip ?_
   refine zan ?_
   refine za0 ?_
   refine gl (sts:=[]) (news:=[]) (sp:=[.val 9 _,.val 10 _,.val 4 _]) [.g 0,.g 2,.o 2] hst (zv rfl (za2 (gq 1 rfl)) (zv rfl (zb8 (vq 0 rfl) za3 (wi_nx hj hl)) (zv rfl (za1 (vq 1 rfl)) o0))) (fun a w hst=>?_)
   have hst:St B w0 19 [(0,_),(3,_),(4,_)] [] a w:=hst
   refine za0 ?_
   have hst:=St.sel hst [0,1,2]
   exact ⟨n-1,by omega,j+1,_,⟨by omega,hm.trans (byd_no hj hb1)⟩,hst⟩
 ·obtain rfl:j=l.length:=by rw [List.length_map] at hb0; simp at hb0; omega
  refine wp_exit ?_
  refine zae ?_
  refine zae ?_
  refine zaw ?_
  refine zt<|gl (sts:=[]) (news:=[]) (sp:=[.val 2 _]) [.o 0] hst (zv rfl (za1 zbk) o0) (fun a w hst=>?_)
  have hst:St B w0 19 [(2,_)] [] a w:=hst
  refine za0 ?_
  refine wp_ret ?_
  refine zag ?_ (zaj rfl hst (zm 0 rfl))
  exact zd2 (congrArg Bo (by rw [hm,List.drop_of_length_le (Nat.le_refl _)]; rfl))
theorem same_yes {a b:RI}(hn:a.neg=b.neg)(h:a.mag=b.mag):true=decide (a=b):=by
 cases a; cases b; simp_all
theorem same_no1 {a b:RI}(h:((a.neg != b.neg) || (((a.mag.length:Nat):Int) != ((b.mag.length:Nat):Int)))=true):false=decide (a=b):=by
 symm
 apply decide_eq_false
 rintro rfl
 simp at h
theorem same_two {a b:RI}(h:((a.neg != b.neg) || (((a.mag.length:Nat):Int) != ((b.mag.length:Nat):Int)))=false):a.neg=b.neg∧a.mag.length=b.mag.length:=by
 simp only [Bool.or_eq_false_iff,bne_eq_false_iff_eq] at h
 exact ⟨h.1,by omega⟩
theorem same_no2 {a b:RI}{j:Nat}(h1:j<a.mag.length)(h2:j<b.mag.length)(h:(((a.mag[j]:Nat):Int) != ((b.mag[j]:Nat):Int))=true):false=decide (a=b):=by
 symm
 apply decide_eq_false
 rintro rfl
 simp at h
theorem take_eq {l m:List Nat}{j:Nat}(h1:j<l.length)(h2:j<m.length)(h:l.take j=m.take j)(h3:(((l[j]:Nat):Int) != ((m[j]:Nat):Int))=false):l.take (j+1)=m.take (j+1):=by
 rw [List.take_succ_eq_append_getElem h1,List.take_succ_eq_append_getElem h2,h]
 simp only [bne_eq_false_iff_eq] at h3
 rw [show l[j]=m[j] by omega]
theorem rf_eq {a b:RF}:(decide (a.num=b.num)&&decide (a.den=b.den))=decide (a=b):=by
 cases a; cases b; rw [Bool.eq_iff_iff]; simp
theorem rm_eq {a b:RM}:(((decide (a.a=b.a)&&decide (a.b=b.b))&&decide (a.c=b.c))&&decide (a.d=b.d))=decide (a=b):=by
 cases a; cases b; rw [Bool.eq_iff_iff]; simp [and_assoc]
theorem zit (x y:RI):Cn Tryz.prog 74 [(RIA x).va,(RIA y).va] (Bo (decide (x=y))):=by
 refine Cn.intro Tryz.func74 rfl zk nq (fun B w0 a hst=>?_)
 have hst:St B w0 38 [(0,(RIA x).va),(1,(RIA y).va)] [] a w0.w:=hst
 have hxk:=zhs (hst.vals (0,(RIA x).va) (zm 0 rfl))
 refine wp_seq ?_
 refine gl (sts:=[]) (news:=[⟨2,25,ptrH,some 0,_,none⟩,⟨3,25,ptrH,some 1,_,none⟩]) (sp:=[.alc 0,.alc 1,.val 4 _]) [.o 2] hst (oc (zam rfl rfl rfl (gq 0 rfl)) (oc (zam rfl rfl rfl (gq 1 rfl)) (zv rfl (za1 zbk) o0))) (fun a w hst=>?_)
 have hst:St B w0 38 [(4,_)] [⟨2,25,ptrH,_⟩,⟨3,25,ptrH,_⟩] a w:=hst
 refine zt ?_
 refine wp_seq ?_
 refine gl (sts:=[none,none]) (news:=[]) (sp:=[.adr 6 2 (.some 0) True,.val 7 _,.adr 8 3 (.some 0) True,.val 9 _,.val 10 _,.val 11 _,.adr 12 2 (.some 1) (_=false),.val 13 (Wh (_=false) _),.val 14 (Wh (_=false) _),.adr 15 3 (.some 1) (_=false),.val 16 (Wh (_=false) _),.val 17 (Wh (_=false) _),.val 18 (Wh (_=false) _),.val 19 _]) [.g 0,.o 13] hst (oc (ob_a rfl rfl (za7 (lz0 0 rfl) zbm)) (zv rfl (za4 0 rfl zk trivial (lz0 0 rfl) (Sub.part 0 rfl rfl) ty_4) (oc (ob_a rfl rfl (za7 (lz0 1 rfl) zbm)) (zv rfl (za4 2 rfl zk trivial (lz0 1 rfl) (Sub.part 0 rfl rfl) ty_4) (zv rfl (zkj zk (vq 1 rfl) (vq 3 rfl)) (zv rfl (za2 (vq 4 rfl)) (oc (zc8 rfl rfl rfl (vq 5 rfl) nq (fun hg=>za7 (lz0 0 rfl) zap)) (oc (zal rfl rfl rfl (vq 5 rfl) nq (fun hg=>za4 6 rfl zk hg (lz0 0 rfl) (Sub.part 1 rfl rfl) zbq)) (oc (zal rfl rfl rfl (vq 5 rfl) nq (fun hg=>zb6 Tryz.underlying23 (zaf (vq 7 rfl) hg))) (oc (zc8 rfl rfl rfl (vq 5 rfl) nq (fun hg=>za7 (lz0 1 rfl) zap)) (oc (zal rfl rfl rfl (vq 5 rfl) nq (fun hg=>za4 9 rfl zk hg (lz0 1 rfl) (Sub.part 1 rfl rfl) zbq)) (oc (zal rfl rfl rfl (vq 5 rfl) nq (fun hg=>zb6 Tryz.underlying23 (zaf (vq 10 rfl) hg))) (oc (zal rfl rfl rfl (vq 5 rfl) nq (fun hg=>zco (zaf (vq 8 rfl) hg) (zaf (vq 11 rfl) hg))) (zv rfl (r_or (vq 5 rfl) (vq 12 rfl)) o0)))))))))))))) (fun a w hst=>?_)
 have hst:St B w0 38 [(4,_),(19,_)] [⟨2,25,ptrH,_⟩,⟨3,25,ptrH,_⟩] a w:=hst
 refine za0 ?_
 refine zaa hst (zm 1 rfl) (fun hb0=>?_) (fun hb0=>?_)
 ·refine wp_seq ?_
  refine gl (sts:=[none,none]) (news:=[]) (sp:=[.val 4 _]) [.o 0] hst (zv rfl (za1 zbk) o0) (fun a w hst=>?_)
  have hst:St B w0 38 [(4,_)] [⟨2,25,ptrH,_⟩,⟨3,25,ptrH,_⟩] a w:=hst
  refine za0 ?_
  refine wp_ret ?_
  refine zah ?_
  refine zag ?_ (zaj rfl hst (zm 0 rfl))
  exact zd2 (congrArg Bo (same_no1 hb0))
 ·obtain ⟨hn1,hl⟩:=same_two hb0
  refine wp_skip ?_
  refine zt ?_
  refine wp_seq ?_
  refine gl (sts:=[none,none]) (news:=[]) (sp:=[.val 5 _]) [.g 0,.o 0] hst (zv rfl (za1 za3) o0) (fun a w hst=>?_)
  have hst:St B w0 38 [(4,_),(5,_)] [⟨2,25,ptrH,_⟩,⟨3,25,ptrH,_⟩] a w:=hst
  refine za0 ?_
  refine wp_block ?_
  have hst:=St.sel hst [1]
  refine wp_loop_ghost (fun n a w=>∃ j:Nat,(n+j=x.mag.length∧x.mag.take j=y.mag.take j)∧St B w0 38 [(5,In (j:Nat))] [⟨2,25,ptrH,RIA x⟩,⟨3,25,ptrH,RIA y⟩] a w) (x.mag.length) ?_ ?_
  ·exact ⟨0,⟨by omega,rfl⟩,hst⟩
  intro n a w hI
  obtain ⟨j,⟨hn,ht⟩,hst⟩:=hI
  refine wp_seq ?_
  refine wp_seq ?_
  refine gl (sts:=[none,none]) (news:=[]) (sp:=[.val 20 _,.adr 21 2 (.some 1) True,.val 22 _,.val 23 _,.val 24 _]) [.g 0,.o 4] hst (zv rfl (za2 (gq 0 rfl)) (oc (ob_a rfl rfl (za7 (lz0 0 rfl) zap)) (zv rfl (za4 1 rfl zk trivial (lz0 0 rfl) (Sub.part 1 rfl rfl) zbq) (zv rfl (zb6 Tryz.underlying23 (vq 2 rfl)) (zv rfl (zc2 (vq 0 rfl) (vq 3 rfl)) o0))))) (fun a w hst=>?_)
  have hst:St B w0 38 [(5,_),(24,_)] [⟨2,25,ptrH,_⟩,⟨3,25,ptrH,_⟩] a w:=hst
  refine za0 ?_
  refine zaa hst (zm 1 rfl) (fun hb1=>?_) (fun hb1=>?_)
  ·have hj:j<x.mag.length:=by simp at hb1; omega
   refine wp_skip ?_
   refine zt ?_
   refine wp_block ?_
   refine wp_seq ?_
   refine zav (anc:=[[],[0],[],[0,1,2],[0,1,2,3],[],[5],[],[5,6,7],[5,6,7,8],[0,1,2,3,4,5,6,7,8,9]]) (sts:=[none,none]) (news:=[]) (sp:=[.adr 27 2 (.some 1) True,.val 28 _,.val 29 _,.val 30 _,.val 31 _,.adr 32 3 (.some 1) True,.val 33 _,.val 34 _,.val 35 _,.val 36 _,.val 37 _]) [.g 0,.o 10] za6 hst (oc (ob_a rfl rfl (za7 (lz0 0 rfl) zap)) (zv rfl (za4 0 rfl zk trivial (lz0 0 rfl) (Sub.part 1 rfl rfl) zbq) (zv rfl (za2 (gq 0 rfl)) (zv rfl (zca zbg (vq 1 rfl) (vq 2 rfl) zo) (zv rfl (zas (vq 3 rfl) zb4) (oc (ob_a rfl rfl (za7 (lz0 1 rfl) zap)) (zv rfl (za4 5 rfl zk trivial (lz0 1 rfl) (Sub.part 1 rfl rfl) zbq) (zv rfl (za2 (gq 0 rfl)) (zv rfl (zca zbg (vq 6 rfl) (vq 7 rfl) zo) (zv rfl (zas (vq 8 rfl) zb4) (zv rfl (zco (vq 4 rfl) (vq 9 rfl)) o0))))))))))) zk zk zk zk (fun a w hst=>?_)
   have hst:St B w0 38 [(5,_),(37,_)] [⟨2,25,ptrH,_⟩,⟨3,25,ptrH,_⟩] a w:=hst
   refine za0 ?_
   refine zaa hst (zm 1 rfl) (fun hb2=>?_) (fun hb2=>?_)
   ·refine wp_seq ?_
    refine gl (sts:=[none,none]) (news:=[]) (sp:=[.val 4 _]) [.g 0,.o 0] hst (zv rfl (za1 zbk) o0) (fun a w hst=>?_)
    have hst:St B w0 38 [(5,_),(4,_)] [⟨2,25,ptrH,_⟩,⟨3,25,ptrH,_⟩] a w:=hst
    refine za0 ?_
    refine wp_ret ?_
    refine zb1 ?_
    refine zah ?_
    refine zah ?_
    refine zb1 ?_
    refine zah ?_
    refine zag ?_ (zaj rfl hst (zm 1 rfl))
    exact zd2 (congrArg Bo (same_no2 hj zo hb2))
   ·refine wp_skip ?_
    refine zan ?_
    refine za0 ?_
    refine gl (sts:=[none,none]) (news:=[]) (sp:=[.val 25 _,.val 26 _,.val 5 _]) [.o 2] hst (zv rfl (za2 (gq 0 rfl)) (zv rfl (zb8 (vq 0 rfl) za3 (wi_nx hj hxk.2)) (zv rfl (za1 (vq 1 rfl)) o0))) (fun a w hst=>?_)
    have hst:St B w0 38 [(5,_)] [⟨2,25,ptrH,_⟩,⟨3,25,ptrH,_⟩] a w:=hst
    refine za0 ?_
    have hst:=St.sel hst [0]
    exact ⟨n-1,by omega,j+1,⟨by omega,take_eq hj zo ht hb2⟩,hst⟩
  ·obtain rfl:j=x.mag.length:=by simp at hb1; omega
   refine wp_exit ?_
   refine zae ?_
   refine zae ?_
   refine zaw ?_
   refine zt<|gl (sts:=[none,none]) (news:=[]) (sp:=[.val 4 _]) [.o 0] hst (zv rfl (za1 zbk) o0) (fun a w hst=>?_)
   have hst:St B w0 38 [(4,_)] [⟨2,25,ptrH,_⟩,⟨3,25,ptrH,_⟩] a w:=hst
   refine za0 ?_
   refine wp_ret ?_
   refine zag ?_ (zaj rfl hst (zm 0 rfl))
   exact zd2 (congrArg Bo (same_yes hn1 (by rw [List.take_of_length_le (Nat.le_refl _),List.take_of_length_le zo] at ht; exact ht)))
theorem zeh (x y:RF):Cn Tryz.prog 45 [(RFA x).va,(RFA y).va] (Bo (decide (x=y))):=by
 refine Cn.intro Tryz.func45 rfl zk nq (fun B w0 a hst=>?_)
 have hst:St B w0 17 [(0,(RFA x).va),(1,(RFA y).va)] [] a w0.w:=hst
 refine wp_seq ?_
 refine gl (sts:=[]) (news:=[⟨2,27,ptrH,some 0,_,none⟩,⟨3,27,ptrH,some 1,_,none⟩]) (sp:=[.alc 0,.alc 1,.val 4 _]) [.o 2] hst (oc (zam rfl rfl rfl (gq 0 rfl)) (oc (zam rfl rfl rfl (gq 1 rfl)) (zv rfl (za1 zbk) o0))) (fun a w hst=>?_)
 have hst:St B w0 17 [(4,_)] [⟨2,27,ptrH,_⟩,⟨3,27,ptrH,_⟩] a w:=hst
 refine zt<|gl (sts:=[none,none]) (news:=[]) (sp:=[.adr 5 2 (.some 0) True,.val 6 _,.adr 7 3 (.some 0) True,.val 8 _,.val 9 _,.val 10 _,.adr 11 2 (.some 2) (_=true),.val 12 (Wh (_=true) _),.adr 13 3 (.some 2) (_=true),.val 14 (Wh (_=true) _),.val 15 (Wh (_=true) _),.val 16 _,.val 4 _]) [.o 12] hst (oc (ob_a rfl rfl (za7 (lz0 0 rfl) zba)) (zv rfl (za4 0 rfl zk trivial (lz0 0 rfl) (Sub.part 0 rfl rfl) zak) (oc (ob_a rfl rfl (za7 (lz0 1 rfl) zba)) (zv rfl (za4 2 rfl zk trivial (lz0 1 rfl) (Sub.part 0 rfl rfl) zak) (zv rfl (za5 (xs:=[.tmp 6,.tmp 8]) (zit _ _) (.cons (vq 1 rfl) (.cons (vq 3 rfl) .nil))) (zv rfl (za2 (vq 4 rfl)) (oc (zc8 rfl rfl rfl (vq 5 rfl) nq (fun hg=>za7 (lz0 0 rfl) zb5)) (oc (zal rfl rfl rfl (vq 5 rfl) nq (fun hg=>za4 6 rfl zk hg (lz0 0 rfl) (Sub.part 1 rfl rfl) zak)) (oc (zc8 rfl rfl rfl (vq 5 rfl) nq (fun hg=>za7 (lz0 1 rfl) zb5)) (oc (zal rfl rfl rfl (vq 5 rfl) nq (fun hg=>za4 8 rfl zk hg (lz0 1 rfl) (Sub.part 1 rfl rfl) zak)) (oc (zal rfl rfl rfl (vq 5 rfl) nq (fun hg=>za5 (xs:=[.tmp 12,.tmp 14]) (zit _ _) (.cons (zaf (vq 7 rfl) hg) (.cons (zaf (vq 9 rfl) hg) .nil)))) (zv rfl (zc9 (vq 5 rfl) (vq 10 rfl)) (zv rfl (za1 (vq 11 rfl)) o0))))))))))))) (fun a w hst=>?_)
 have hst:St B w0 17 [(4,_)] [⟨2,27,ptrH,_⟩,⟨3,27,ptrH,_⟩] a w:=hst
 refine za0 ?_
 refine wp_ret ?_
 refine zag ?_ (zaj rfl hst (zm 0 rfl))
 exact zd2 (congrArg Bo rf_eq)
theorem zg3 (x y:RM):Cn Tryz.prog 16 [(RMA x).va,(RMA y).va] (Bo (decide (x=y))):=by
 refine Cn.intro Tryz.func16 rfl zk nq (fun B w0 a hst=>?_)
 have hst:St B w0 31 [(0,(RMA x).va),(1,(RMA y).va)] [] a w0.w:=hst
 refine wp_seq ?_
 refine gl (sts:=[]) (news:=[⟨2,38,ptrH,some 0,_,none⟩,⟨3,38,ptrH,some 1,_,none⟩]) (sp:=[.alc 0,.alc 1,.val 4 _]) [.o 2] hst (oc (zam rfl rfl rfl (gq 0 rfl)) (oc (zam rfl rfl rfl (gq 1 rfl)) (zv rfl (za1 zbk) o0))) (fun a w hst=>?_)
 have hst:St B w0 31 [(4,_)] [⟨2,38,ptrH,_⟩,⟨3,38,ptrH,_⟩] a w:=hst
 refine zt<|gl (sts:=[none,none]) (news:=[]) (sp:=((.adr 5 2 (.some 0) True:Sp)::(.val 6 _)::(.adr 7 3 (.some 0) True)::(.val 8 _)::(.val 9 _)::(.val 10 _)::(.adr 11 2 (.some 4) (_=true))::(.val 12 (Wh (_=true) _))::(.adr 13 3 (.some 4) (_=true))::(.val 14 (Wh (_=true) _))::(.val 15 (Wh (_=true) _))::(.val 16 _)::(.val 17 _)::(.adr 18 2 (.some 8) (_=true))::(.val 19 (Wh (_=true) _))::(.adr 20 3 (.some 8) (_=true))::(.val 21 (Wh (_=true) _))::(.val 22 (Wh (_=true) _))::(.val 23 _)::(.val 24 _)::(.adr 25 2 (.some 12) (_=true))::(.val 26 (Wh (_=true) _))::(.adr 27 3 (.some 12) (_=true))::(.val 28 (Wh (_=true) _))::(.val 29 (Wh (_=true) _))::(.val 30 _)::(.val 4 _)::[])) [.o 26] hst (oc (ob_a rfl rfl (za7 (lz0 0 rfl) zbc)) (zv rfl (za4 0 rfl zk trivial (lz0 0 rfl) (Sub.part 0 rfl rfl) za9) (oc (ob_a rfl rfl (za7 (lz0 1 rfl) zbc)) (zv rfl (za4 2 rfl zk trivial (lz0 1 rfl) (Sub.part 0 rfl rfl) za9) (zv rfl (za5 (xs:=[.tmp 6,.tmp 8]) (zeh _ _) (.cons (vq 1 rfl) (.cons (vq 3 rfl) .nil))) (zv rfl (za2 (vq 4 rfl)) (oc (zc8 rfl rfl rfl (vq 5 rfl) nq (fun hg=>za7 (lz0 0 rfl) zbi)) (oc (zal rfl rfl rfl (vq 5 rfl) nq (fun hg=>za4 6 rfl zk hg (lz0 0 rfl) (Sub.part 1 rfl rfl) za9)) (oc (zc8 rfl rfl rfl (vq 5 rfl) nq (fun hg=>za7 (lz0 1 rfl) zbi)) (oc (zal rfl rfl rfl (vq 5 rfl) nq (fun hg=>za4 8 rfl zk hg (lz0 1 rfl) (Sub.part 1 rfl rfl) za9)) (oc (zal rfl rfl rfl (vq 5 rfl) nq (fun hg=>za5 (xs:=[.tmp 12,.tmp 14]) (zeh _ _) (.cons (zaf (vq 7 rfl) hg) (.cons (zaf (vq 9 rfl) hg) .nil)))) (zv rfl (zc9 (vq 5 rfl) (vq 10 rfl)) (zv rfl (za2 (vq 11 rfl)) (oc (zc8 rfl rfl rfl (vq 12 rfl) nq (fun hg=>za7 (lz0 0 rfl) zbh)) (oc (zal rfl rfl rfl (vq 12 rfl) nq (fun hg=>za4 13 rfl zk hg (lz0 0 rfl) (Sub.part 2 rfl rfl) za9)) (oc (zc8 rfl rfl rfl (vq 12 rfl) nq (fun hg=>za7 (lz0 1 rfl) zbh)) (oc (zal rfl rfl rfl (vq 12 rfl) nq (fun hg=>za4 15 rfl zk hg (lz0 1 rfl) (Sub.part 2 rfl rfl) za9)) (oc (zal rfl rfl rfl (vq 12 rfl) nq (fun hg=>za5 (xs:=[.tmp 19,.tmp 21]) (zeh _ _) (.cons (zaf (vq 14 rfl) hg) (.cons (zaf (vq 16 rfl) hg) .nil)))) (zv rfl (zc9 (vq 12 rfl) (vq 17 rfl)) (zv rfl (za2 (vq 18 rfl)) (oc (zc8 rfl rfl rfl (vq 19 rfl) nq (fun hg=>za7 (lz0 0 rfl) zbf)) (oc (zal rfl rfl rfl (vq 19 rfl) nq (fun hg=>za4 20 rfl zk hg (lz0 0 rfl) (Sub.part 3 rfl rfl) za9)) (oc (zc8 rfl rfl rfl (vq 19 rfl) nq (fun hg=>za7 (lz0 1 rfl) zbf)) (oc (zal rfl rfl rfl (vq 19 rfl) nq (fun hg=>za4 22 rfl zk hg (lz0 1 rfl) (Sub.part 3 rfl rfl) za9)) (oc (zal rfl rfl rfl (vq 19 rfl) nq (fun hg=>za5 (xs:=[.tmp 26,.tmp 28]) (zeh _ _) (.cons (zaf (vq 21 rfl) hg) (.cons (zaf (vq 23 rfl) hg) .nil)))) (zv rfl (zc9 (vq 19 rfl) (vq 24 rfl)) (zv rfl (za1 (vq 25 rfl)) o0))))))))))))))))))))))))))) (fun a w hst=>?_)
 have hst:St B w0 31 [(4,_)] [⟨2,38,ptrH,_⟩,⟨3,38,ptrH,_⟩] a w:=hst
 refine za0 ?_
 refine wp_ret ?_
 refine zag ?_ (zaj rfl hst (zm 0 rfl))
 exact zd2 (congrArg Bo rm_eq)
end Go.Proofs.YtagabklfjmchaaaGreat
