import Derived.Test.YthncfchnkjemiaaGreatDoorFdAa
import Derived.Test.YthncfchnkjemiaaGreatDoorFdAc
import Derived.Test.YthncfchnkjemiaaGreatDoorFdAl
import Derived.ProofKit
import Derived.OpenShut
import Derived.ChangeOld
import Derived.Below
import Derived.WalkKit
set_option linter.unusedVariables false
set_option linter.unusedSimpArgs false
set_option linter.unusedSectionVars false
set_option maxRecDepth 100000
namespace Go.Proofs.YthncfchnkjemiaaGreatDoor
open Go Go.RowKit
theorem ex_checkI : ∃ fn, Tryz.prog.funcs[288]? = some fn ∧ (fn.name == "runtime.NumGoroutine") = false ∧ fn.body.isNone = false := ⟨_, Tryz.func288, by kernel_rfl, by kernel_rfl⟩
theorem check_z {c:Nat} {p:Int} (hc:c≤2048):Cn Tryz.prog 288 [Zs c p] (In 0):=zs1 ex_checkI fun h=>(check_c (riOf p)).post (by rw [okRI_ri,decide_eq_true (by omega:lz p≤2048)]; rfl)
theorem lz_i64 {p:Int} (h0 : -9223372036854775808≤p) (h1:p<9223372036854775808):lz p≤2:=lz_le zo
theorem ansF_ok {q:Rat} (h:lz q.num≤2048∧lz (q.den:Int)≤2048):ansF q=(rfOf q,0):=by rw [ansF,longQ_false.2 h]; rfl
theorem ansF_low {p q:Int} (hq:q≠0) (hp:lz p≤2) (h2:lz q≤2):ansF (Rat.divInt p q)=(rfOf (Rat.divInt p q),0):=by
 have:=zj0 (p:=p) hq
 exact ansF_ok zo
theorem make_q {p q:Int} (hq:q≠0):Cn Tryz.prog 307 [Zs 2 p,Zs 2 q] (FrR (ansF (Rat.divInt p q))):=by
 refine Cn.intro Tryz.func307 rfl zk nq (fun B w0 a hst=>?_)
 have hst:St B w0 25 [(0,Zs 2 p),(1,Zs 2 q)] [] a w0.w:=hst
 refine wp_seq ?_
 refine gl (sts:=[]) (news:=[⟨2,24,ptrH,some 0,_,none⟩,⟨3,24,ptrH,some 1,_,none⟩,⟨4,26,ptrH,some 2,_,none⟩]) (sp:=[.alc 0,.alc 1,.alc 2,.val 5 _]) [.o 3] hst (oc (zai rfl rfl rfl (gq 0 rfl)) (oc (zai rfl rfl rfl (gq 1 rfl)) (oc (zan rfl rfl rfl (Str.zero zav)) (zv rfl rfl (za2 za3) o0)))) (fun a w hst=>?_)
 have hst:St B w0 25 [(5,_)] [⟨2,24,ptrH,_⟩,⟨3,24,ptrH,_⟩,⟨4,26,ptrH,_⟩] a w:=hst
 refine zt ?_
 refine wp_seq ?_
 refine gl (sts:=[none,none,none]) (news:=[]) (sp:=[.val 6 _,.val 7 _,.val 8 _,.val 9 _,.val 10 (Wh (_=false) _),.val 11 (Wh (_=false) _),.val 12 (Wh (_=false) _),.val 13 _]) [.g 0,.o 7] hst (zv rfl rfl (zad (lz0 0 rfl) zab) (zv rfl rfl (za5 (xs:=[.tmp 6]) (check_z zd) (.cons (vq 0 rfl) .nil)) (zv rfl rfl (zd5 (vq 1 rfl) za3) (zv rfl rfl (za1 (vq 2 rfl)) (oc (zam rfl rfl rfl (vq 3 rfl) nq (fun hg=>zad (lz0 1 rfl) zab)) (oc (zam rfl rfl rfl (vq 3 rfl) nq (fun hg=>za5 (xs:=[.tmp 10]) (check_z zd) (.cons (zac (vq 4 rfl) hg) .nil))) (oc (zam rfl rfl rfl (vq 3 rfl) nq (fun hg=>zd5 (zac (vq 5 rfl) hg) za3)) (zv rfl rfl (r_or (vq 3 rfl) (vq 6 rfl)) o0)))))))) (fun a w hst=>?_)
 have hst:St B w0 25 [(5,_),(13,_)] [⟨2,24,ptrH,_⟩,⟨3,24,ptrH,_⟩,⟨4,26,ptrH,_⟩] a w:=hst
 refine za0 ?_
 refine za8 hst (zm 1 rfl) (fun hb0=>?_) (fun hb0=>?_)
 ·exact absurd hb0 zd
 ·refine wp_skip ?_
  refine zt ?_
  refine wp_seq ?_
  refine gl (sts:=[none,none,none]) (news:=[]) (sp:=[.val 15 _,.val 16 _,.val 17 _]) [.g 0,.o 2] hst (zv rfl rfl (zad (lz0 1 rfl) zab) (zv rfl rfl (za5 (xs:=[.tmp 15]) sign_z (.cons (vq 0 rfl) .nil)) (zv rfl rfl (zd8 (vq 1 rfl) za3) o0))) (fun a w hst=>?_)
  have hst:St B w0 25 [(5,_),(17,_)] [⟨2,24,ptrH,_⟩,⟨3,24,ptrH,_⟩,⟨4,26,ptrH,_⟩] a w:=hst
  refine za0 ?_
  refine za8 hst (zm 1 rfl) (fun hb1=>?_) (fun hb1=>?_)
  ·exact absurd hb1 (by simpa using hq)
  ·refine wp_skip ?_
   refine zt ?_
   refine gl (sts:=[none,none,some (6,_)]) (news:=[]) (sp:=[.val 19 _,.val 20 _,.val 21 _,.val 22 _,.val 23 _,.val 24 _,.sto 2,.val 5 _]) [.o 7] hst (zv rfl rfl (zad (lz0 0 rfl) zab) (zv rfl rfl (zad (lz0 1 rfl) zab) (zv rfl rfl (za5 (xs:=[.tmp 19,.tmp 20]) (zfz zd zd hq) (.cons (vq 0 rfl) (.cons (vq 1 rfl) .nil))) (zv rfl rfl (za5 (xs:=[.tmp 21]) (answered_q zd) (.cons (vq 2 rfl) .nil)) (zv rfl rfl (zgs (vq 3 rfl)) (zv rfl rfl (zgr (vq 3 rfl)) (oc (zaa rfl rfl rfl (vq 4 rfl) zae (Eq.trans (b:=4) rfl rfl)) (zv rfl rfl (za2 (vq 5 rfl)) o0)))))))) (fun a w hst=>?_)
   have hst:St B w0 25 [(5,_)] [⟨2,24,ptrH,_⟩,⟨3,24,ptrH,_⟩,⟨4,26,ptrH,_⟩] a w:=hst
   refine za0 ?_
   refine wp_ret ?_
   refine zaq ?_ (zat (rs:=[.cell 4 26,.tmp 5]) rfl hst (.cell (zm 2 rfl) zae (.tmp (zm 0 rfl) .nil)) zd)
   exact zbt
theorem ofQ_c {p q:Int} (hp : -9223372036854775808≤p) (hp1:p<9223372036854775808) (hq0 : -9223372036854775808≤q) (hq1:q<9223372036854775808) (hq:q≠0):Cn Tryz.prog 201 [In p,In q] (FrR (rfOf (Rat.divInt p q),0)):=by
 refine Cn.intro Tryz.func201 rfl zk nq (fun B w0 a hst=>?_)
 have hst:St B w0 13 [(0,In p),(1,In q)] [] a w0.w:=hst
 refine wp_seq ?_
 refine gl (sts:=[]) (news:=[⟨4,26,ptrH,some 0,_,none⟩]) (sp:=[.alc 0,.val 5 _]) [.g 0,.g 1,.o 1] hst (oc (zan rfl rfl rfl (Str.zero zav)) (zv rfl rfl (za2 za3) o0)) (fun a w hst=>?_)
 have hst:St B w0 13 [(0,_),(1,_),(5,_)] [⟨4,26,ptrH,_⟩] a w:=hst
 refine zt ?_
 refine gl (sts:=[some (7,_)]) (news:=[]) (sp:=[.val 6 _,.val 7 _,.val 8 _,.val 9 _,.val 10 _,.val 11 _,.val 12 _,.sto 0,.val 5 _]) [.o 8] hst (zv rfl rfl (za1 (gq 0 rfl)) (zv rfl rfl (za5 (xs:=[.tmp 6]) (of_z hp hp1) (.cons (vq 0 rfl) .nil)) (zv rfl rfl (za1 (gq 1 rfl)) (zv rfl rfl (za5 (xs:=[.tmp 8]) (of_z hq0 hq1) (.cons (vq 2 rfl) .nil)) (zv rfl rfl (za5 (xs:=[.tmp 7,.tmp 9]) (make_q hq) (.cons (vq 1 rfl) (.cons (vq 3 rfl) .nil))) (zv rfl rfl (zgs (vq 4 rfl)) (zv rfl rfl (zgr (vq 4 rfl)) (oc (zaa rfl rfl rfl (vq 5 rfl) zae (Eq.trans (b:=4) rfl rfl)) (zv rfl rfl (za2 (vq 6 rfl)) o0))))))))) (fun a w hst=>?_)
 have hst:St B w0 13 [(5,_)] [⟨4,26,ptrH,_⟩] a w:=hst
 refine za0 ?_
 refine wp_ret ?_
 refine zaq ?_ (zat (rs:=[.cell 4 26,.tmp 5]) rfl hst (.cell (zm 0 rfl) zae (.tmp (zm 0 rfl) .nil)) zd)
 rw [← ansF_low hq (lz_i64 hp hp1) (lz_i64 hq0 hq1)]; exact zbt
end Go.Proofs.YthncfchnkjemiaaGreatDoor
namespace Go.Proofs.YthncfchnkjemiaaGreatDoor
open Go Go.RowKit
structure RG where
 re:RF
 im:RF
 deriving DecidableEq
structure RM where
 a:RF
 b:RF
 c:RF
 d:RF
 deriving DecidableEq
structure RR where
 y:RF
 u:RF
 deriving DecidableEq
structure GQ where
 re:Rat
 im:Rat
 deriving DecidableEq
structure MQ where
 a:Rat
 b:Rat
 c:Rat
 d:Rat
 deriving DecidableEq
structure YQ where
 y:Rat
 u:Rat
 deriving DecidableEq
def RGA (x:RG):As:=cat [RFA x.re,RFA x.im]
def RMA (x:RM):As:=cat [RFA x.a,RFA x.b,RFA x.c,RFA x.d]
def RRA (x:RR):As:=cat [RFA x.y,RFA x.u]
def QGA (k:Nat) (x:GQ):As:=cat [QA k x.re,QA k x.im]
def QMA (k:Nat) (x:MQ):As:=cat [QA k x.a,QA k x.b,QA k x.c,QA k x.d]
def QRA (k:Nat) (x:YQ):As:=cat [QA k x.y,QA k x.u]
abbrev rg0:RG:=⟨rf0,rf0⟩
abbrev rm0:RM:=⟨rf0,rf0,rf0,rf0⟩
def rgOf (z:GQ):RG:=⟨rfOf z.re,rfOf z.im⟩
def rmOf (m:MQ):RM:=⟨rfOf m.a,rfOf m.b,rfOf m.c,rfOf m.d⟩
def toG (x:RG):GQ:=⟨toQ x.re,toQ x.im⟩
def toY (x:RR):YQ:=⟨toQ x.y,toQ x.u⟩
def detM (m:MQ):Rat:=m.a*m.d - m.b*m.c
theorem qa_x {k:Nat} {x:RF} (h:okX x=true) (hk:2048≤k):WkA (RFA x) (QA k (toQ x)):=by
 obtain ⟨h1,h2,h3⟩:=okX_q h
 exact (zfa (congrArg RFA h1)).trans (qa_of (Nat.le_trans h2 hk) (Nat.le_trans h3 hk))
theorem qg_x {x:RG} (h:[x.re,x.im].all okX=true):WkA (RGA x) (QGA 2048 (toG x)):=by
 simp only [List.all_cons,List.all_nil,Bool.and_true,Bool.and_eq_true] at h
 exact zbg (.cons (qa_x h.1 (Nat.le_refl _)) (.cons (qa_x h.2 (Nat.le_refl _)) .nil))
theorem qr_x {x:RR} (h:[x.y,x.u].all okX=true):WkA (RRA x) (QRA 2048 (toY x)):=by
 simp only [List.all_cons,List.all_nil,Bool.and_true,Bool.and_eq_true] at h
 exact zbg (.cons (qa_x h.1 (Nat.le_refl _)) (.cons (qa_x h.2 (Nat.le_refl _)) .nil))
theorem qgA {k:Nat} {x:GQ}:WkA (QGA k x) (RGA (rgOf x)):=zbg (.cons qaA (.cons qaA .nil))
theorem qmA {k:Nat} {x:MQ}:WkA (QMA k x) (RMA (rmOf x)):=zbg (.cons qaA (.cons qaA (.cons qaA (.cons qaA .nil))))
theorem zaz:Str Tryz.prog 73 [RFA rf0,RFA rf0] :=
 Str.of (z:=.agg #[.bool false,.slice none 0 0,.bool false,.slice none 0 0,.bool false,.slice none 0 0,.bool false,.slice none 0 0]) zk Tryz.underlying73 zk fun B w=>⟨[[.bool false,.slice none 0 0,.bool false,.slice none 0 0],[.bool false,.slice none 0 0,.bool false,.slice none 0 0]],rfl,(.cons (zff B w) (.cons (zff B w) .nil))⟩
theorem zih (x:RG):Cn Tryz.prog 227 [(RGA x).va] (Bo ([x.re,x.im].all okX)):=by
 refine Cn.intro Tryz.func227 rfl zk nq (fun B w0 a hst=>?_)
 have hst:St B w0 9 [(0,(RGA x).va)] [] a w0.w:=hst
 refine wp_seq ?_
 refine gl (sts:=[]) (news:=[⟨1,73,ptrH,some 0,_,none⟩]) (sp:=[.alc 0,.val 2 _]) [.o 1] hst (oc (zai rfl rfl rfl (gq 0 rfl)) (zv rfl rfl (za2 zb7) o0)) (fun a w hst=>?_)
 have hst:St B w0 9 [(2,_)] [⟨1,73,ptrH,_⟩] a w:=hst
 refine zt ?_
 refine gl (sts:=[none]) (news:=[]) (sp:=[.adr 3 1 (.some 0) True,.val 4 _,.adr 5 1 (.some 4) True,.val 6 _,.val 7 _,.val 8 _,.val 2 _]) [.o 6] hst (oc (ob_a rfl rfl (za9 (lz0 0 rfl) zbk)) (zv rfl rfl (za4 0 rfl zk trivial (lz0 0 rfl) (Sub.part 0 rfl rfl) zae) (oc (ob_a rfl rfl (za9 (lz0 0 rfl) zbj)) (zv rfl rfl (za4 2 rfl zk trivial (lz0 0 rfl) (Sub.part 1 rfl rfl) zae) (zv rfl rfl (zco (D:=[U32]) (l:=[_,_]) (xs:=[.tmp 4,.tmp 6]) (zf9 zk) zdt zk (n_ok zk) nq nq nq (.cons (vq 1 rfl) (.cons (vq 3 rfl) .nil)) rfl rfl) (zv rfl rfl (za5 (xs:=[.tmp 7]) (checks_c [x.re,x.im] nq) (.cons (vq 4 rfl) .nil)) (zv rfl rfl (za2 (vq 5 rfl)) o0))))))) (fun a w hst=>?_)
 have hst:St B w0 9 [(2,_)] [⟨1,73,ptrH,_⟩] a w:=hst
 refine za0 ?_
 refine wp_ret ?_
 refine zaq ?_ (zah rfl hst (zm 0 rfl))
 exact zbt
theorem norm_q {c:Nat} {z:GQ} (hk:c≤137438953472):Cn Tryz.prog 315 [(QGA c z).va] (Qs (c+c+(c+c)+1) (z.re*z.re+z.im*z.im)):=by
 refine Cn.intro Tryz.func315 rfl zk nq (fun B w0 a hst=>?_)
 have hst:St B w0 14 [(0,(QGA c z).va)] [] a w0.w:=hst
 refine wp_seq ?_
 refine gl (sts:=[]) (news:=[⟨1,73,ptrH,some 0,_,none⟩,⟨2,26,ptrH,some 1,_,none⟩]) (sp:=[.alc 0,.alc 1]) [] hst (oc (zai rfl rfl rfl (gq 0 rfl)) (oc (zan rfl rfl rfl (Str.zero zav)) o0)) (fun a w hst=>?_)
 have hst:St B w0 14 [] [⟨1,73,ptrH,_⟩,⟨2,26,ptrH,_⟩] a w:=hst
 refine zt ?_
 refine zau (anc:=[[],[0],[],[2],[0,1,2,3],[],[5],[],[7],[0,1,2,3,4,5,6,7,8],[0,1,2,3,4,5,6,7,8,9],[0,1,2,3,4,5,6,7,8,9,10]]) (sts:=[none,some (11,_)]) (news:=[]) (sp:=[.adr 3 1 (.some 0) True,.val 4 _,.adr 5 1 (.some 0) True,.val 6 _,.val 7 _,.adr 8 1 (.some 4) True,.val 9 _,.adr 10 1 (.some 4) True,.val 11 _,.val 12 _,.val 13 _,.sto 1]) [] za6 hst (oc (ob_a rfl rfl (za9 (lz0 0 rfl) zbk)) (zv rfl rfl (za4 0 rfl zk trivial (lz0 0 rfl) (Sub.part 0 rfl rfl) zae) (oc (ob_a rfl rfl (za9 (lz0 0 rfl) zbk)) (zv rfl rfl (za4 2 rfl zk trivial (lz0 0 rfl) (Sub.part 0 rfl rfl) zae) (zv rfl rfl (za5 (xs:=[.tmp 4,.tmp 6]) (zd0 zo) (.cons (vq 1 rfl) (.cons (vq 3 rfl) .nil))) (oc (ob_a rfl rfl (za9 (lz0 0 rfl) zbj)) (zv rfl rfl (za4 5 rfl zk trivial (lz0 0 rfl) (Sub.part 1 rfl rfl) zae) (oc (ob_a rfl rfl (za9 (lz0 0 rfl) zbj)) (zv rfl rfl (za4 7 rfl zk trivial (lz0 0 rfl) (Sub.part 1 rfl rfl) zae) (zv rfl rfl (za5 (xs:=[.tmp 9,.tmp 11]) (zd0 zo) (.cons (vq 6 rfl) (.cons (vq 8 rfl) .nil))) (zv rfl rfl (za5 (xs:=[.tmp 7,.tmp 12]) (ziw zo) (.cons (vq 4 rfl) (.cons (vq 9 rfl) .nil))) (oc (zaa rfl rfl rfl (vq 10 rfl) zae (Eq.trans (b:=4) rfl rfl)) o0)))))))))))) zk zk zk zk (fun a w hst=>?_)
 have hst:St B w0 14 [] [⟨1,73,ptrH,_⟩,⟨2,26,ptrH,_⟩] a w:=hst
 refine za0 ?_
 refine wp_ret ?_
 refine zaq ?_ (zal rfl hst (zm 1 rfl) zae)
 exact zbt
def longG (z:GQ):Bool:=[z.re,z.im].any longQ
def IsG (A:As) (z:GQ):Prop:=∃ k,A=QGA k z
theorem isg_at {L:List As} {qs:List GQ} (h:All2 IsG L qs) {j:Nat} (hj:j<qs.length):∃ k,L[j]?=some (QGA k qs[j]):=by
 have hl:=h.length
 obtain ⟨q,h1,k,h2⟩:=h.get (List.getElem?_eq_getElem (show j<L.length by omega))
 rw [List.getElem?_eq_getElem hj] at h1
 injection h1 with h1
 exact ⟨k,by rw [List.getElem?_eq_getElem zo,h2,h1]⟩
theorem isg_n {L:List As} {qs:List GQ} (h:All2 IsG L qs):∀ A∈L,A.n=8:=fun A hA=>by
 obtain ⟨j,hj⟩:=List.getElem?_of_mem hA
 obtain ⟨q,_,k,rfl⟩:=h.get hj
 rfl
theorem isg_up {L:List As} {qs:List GQ} (h:All2 IsG L qs):∀ A∈L,UpA A A:=fun A hA=>by
 obtain ⟨j,hj⟩:=List.getElem?_of_mem hA
 obtain ⟨q,_,k,rfl⟩:=h.get hj
 exact ze9 (.cons upA_qa (.cons upA_qa .nil))
theorem any_some {α:Type} {p:α→Bool} {l:List α} {j:Nat} (h:j<l.length) (h2:p l[j]=true):true=l.any p:=(List.any_eq_true.2 ⟨_,List.getElem_mem h,h2⟩).symm
theorem any_no {α:Type} {p:α→Bool} {l:List α} {j:Nat} (h:j<l.length) (h1:(l.take j).any p=false) (h2:p l[j]=false):(l.take (j+1)).any p=false:=by
 rw [List.take_succ_eq_append_getElem h,List.any_append,h1]
 simp [h2]
theorem argAnswer_q {L:List As} (qs:List GQ) (hL:All2 IsG L qs) (hl:qs.length≤1099511627776):Cn Tryz.prog 230 [(SlA 73 [U32] L).va] (In (if qs.any longG then 4 else 0)):=by
 have hLl:=hL.length
 refine Cn.introW Tryz.func230 rfl zk nq (.cons (up_sl (isg_up hL)).va .nil) (free_num _ _).va (fun B w0 a hB0 hst=>?_)
 have hst:St B w0 18 [(0,(SlO 73 [U32] L True).va)] [] a w0.w:=hst
 refine wp_seq ?_
 refine gl (sts:=[]) (news:=[]) (sp:=[.val 2 _]) [.g 0,.o 0] hst (zv rfl rfl (za2 za3) o0) (fun a w hst=>?_)
 have hst:St B w0 18 [(0,_),(2,_)] [] a w:=hst
 refine zt ?_
 refine wp_seq ?_
 refine gl (sts:=[]) (news:=[]) (sp:=[.val 5 _,.val 6 _,.val 7 _]) [.g 1,.o 0,.o 1,.o 2] hst (zv rfl rfl (za1 (gq 0 rfl)) (zv rfl rfl (zc1 Tryz.underlying193 (zdq (zb2 (vq 0 rfl)))) (zv rfl rfl (za1 za3) o0))) (fun a w hst=>?_)
 have hst:St B w0 18 [(2,_),(5,_),(6,_),(7,_)] [] a w:=hst
 refine za0 ?_
 refine wp_block ?_
 have hst:=St.sel hst [1,2,3]
 refine wp_loop_ghost (fun n a w=>∃ j:Nat,(n+j=qs.length∧(qs.take j).any longG=false)∧St B w0 18 [(5,(SlO 73 [U32] L True).va),(6,In (qs.length:Nat)),(7,In (j:Nat))] [] a w) (qs.length) ?_ ?_
 ·exact ⟨0,⟨by omega,rfl⟩,by rw [hLl] at hst; exact hst⟩
 intro n a w hI
 obtain ⟨j,⟨hn,hno⟩,hst⟩:=hI
 refine wp_seq ?_
 refine gl (sts:=[]) (news:=[]) (sp:=[.val 8 _]) [.g 0,.g 1,.g 2,.o 0] hst (zv rfl rfl (zb9 (gq 2 rfl) (gq 1 rfl)) o0) (fun a w hst=>?_)
 have hst:St B w0 18 [(5,_),(6,_),(7,_),(8,_)] [] a w:=hst
 refine zt ?_
 refine za8 hst (zm 3 rfl) (fun hb0=>?_) (fun hb0=>?_)
 ·have hj:j<qs.length:=by simp at hb0; omega
  obtain ⟨kj,hLj⟩:=isg_at hL hj
  refine wp_skip ?_
  refine zt ?_
  refine wp_block ?_
  refine wp_seq ?_
  refine gl (sts:=[]) (news:=[⟨4,73,ptrH,some 2,_,some (3,_)⟩]) (sp:=[.val 9 _,.val 10 _,.alc 0,.sto 0]) [.g 0,.g 1,.g 2] hst (zv rfl rfl (zgp sl_193 (isg_n hL) (zdq (zb2 (gq 0 rfl))) (gq 2 rfl) hLj) (zv rfl rfl (zap (vq 0 rfl) zb1) (oc (zan rfl rfl rfl (Str.zero zaz)) (oc (zaa rfl rfl rfl (vq 1 rfl) zb1 (Eq.trans (b:=8) rfl rfl)) o0)))) (fun a w hst=>?_)
  have hst:St B w0 18 [(5,_),(6,_),(7,_)] [⟨4,73,ptrH,_⟩] a w:=hst
  refine zt ?_
  refine gl (sts:=[none]) (news:=[]) (sp:=[.adr 11 4 (.some 0) True,.val 12 _,.adr 13 4 (.some 4) True,.val 14 _,.val 15 _,.val 16 _]) [.g 0,.g 1,.g 2,.o 5] hst (oc (ob_a rfl rfl (za9 (lz0 0 rfl) zbk)) (zv rfl rfl (za4 0 rfl zk trivial (lz0 0 rfl) (Sub.part 0 rfl rfl) zae) (oc (ob_a rfl rfl (za9 (lz0 0 rfl) zbj)) (zv rfl rfl (za4 2 rfl zk trivial (lz0 0 rfl) (Sub.part 1 rfl rfl) zae) (zv rfl rfl (zco (D:=[U32]) (l:=[_,_]) (xs:=[.tmp 12,.tmp 14]) (zf9 zk) zdt zk (n_ok zk) nq nq nq (.cons (vq 1 rfl) (.cons (vq 3 rfl) .nil)) rfl rfl) (zv rfl rfl (za5 (xs:=[.tmp 15]) (long_q [(qs[j]).re,(qs[j]).im] (.cons ⟨_,rfl⟩ (.cons ⟨_,rfl⟩ .nil)) nq) (.cons (vq 4 rfl) .nil)) o0)))))) (fun a w hst=>?_)
  have hst:St B w0 18 [(5,_),(6,_),(7,_),(16,_)] [⟨4,73,ptrH,_⟩] a w:=hst
  refine za0 ?_
  refine za8 hst (zm 3 rfl) (fun hb1=>?_) (fun hb1=>?_)
  ·refine wp_seq ?_
   refine gl (sts:=[none]) (news:=[]) (sp:=[.val 2 _]) [.g 0,.g 1,.g 2,.o 0] hst (zv rfl rfl (za2 za3) o0) (fun a w hst=>?_)
   have hst:St B w0 18 [(5,_),(6,_),(7,_),(2,_)] [⟨4,73,ptrH,_⟩] a w:=hst
   refine za0 ?_
   refine wp_ret ?_
   refine zbx ?_
   refine zao ?_
   refine zao ?_
   refine zbx ?_
   refine zao ?_
   refine zaq ?_ (zah rfl hst (zm 3 rfl))
   rw [← any_some hj hb1]; exact zbt
  ·refine wp_skip ?_
   refine zas ?_
   refine za0 ?_
   refine gl (sts:=[none]) (news:=[]) (sp:=[.val 17 _,.val 7 _]) [.g 0,.g 1,.o 1] hst (zv rfl rfl (zbh (gq 2 rfl) za3 (zbl zo)) (zv rfl rfl (za1 (vq 0 rfl)) o0)) (fun a w hst=>?_)
   have hst:St B w0 18 [(5,_),(6,_),(7,_)] [⟨4,73,ptrH,_⟩] a w:=hst
   refine za0 ?_
   have hst:=St.sel hst [0,1,2]
   have hst:=St.selL hst []
   exact ⟨n - 1,by omega,j+1,⟨by omega,any_no hj hno hb1⟩,hst⟩
 ·obtain rfl:j=qs.length:=by simp at hb0; omega
  refine wp_exit ?_
  refine za7 ?_
  refine za7 ?_
  refine zag ?_
  refine zt ?_
  refine gl (sts:=[]) (news:=[]) (sp:=[.val 2 _]) [.o 0] hst (zv rfl rfl (za2 za3) o0) (fun a w hst=>?_)
  have hst:St B w0 18 [(2,_)] [] a w:=hst
  refine za0 ?_
  refine wp_ret ?_
  refine zaq ?_ (zah rfl hst (zm 0 rfl))
  rw [List.take_length] at hno; rw [hno]; exact zbt
end Go.Proofs.YthncfchnkjemiaaGreatDoor
namespace Go.Proofs.YthncfchnkjemiaaGreatDoor
open Go Go.RowKit
theorem sq_nn (x:Rat):0≤x*x:=by
 rcases Rat.le_total (a:=0) (b:=x) with h | h
 ·exact Rat.mul_nonneg h h
 ·have:0≤(-x)*(-x):=Rat.mul_nonneg (by grind) (by grind)
  grind
theorem sum_sq {x y:Rat} (h:x*x+y*y=0):x=0∧y=0:=by
 have h1:=sq_nn x
 have h2:=sq_nn y
 have h3:x*x=0:=Rat.le_antisymm (by grind) h1
 have h4:y*y=0:=by grind
 exact ⟨(Rat.mul_eq_zero.1 h3).elim id id,(Rat.mul_eq_zero.1 h4).elim id id⟩
def ansG (z:GQ):RG × Int:=if longG z then (rg0,4) else (rgOf z,0)
abbrev GR (r:RG × Int):VA:=Tu [(RGA r.1).va,In r.2]
theorem zix {z:GQ}:[z].any longG=longG z:=by simp
theorem zht (x:RG):UpA (RGA x) (RGA x):=ze9 (.cons (zjx _) (.cons (zjx _) .nil))
theorem tu3w {a b c d e f:VA} (h:Wk a d) (h':Wk b e) (h'':Wk c f):Wk (Tu [a,b,c]) (Tu [d,e,f]):=tu_wk (.cons h (.cons h' (.cons h'' .nil)))
end Go.Proofs.YthncfchnkjemiaaGreatDoor
namespace Go.Proofs.YthncfchnkjemiaaGreatDoor
open Go Go.RowKit
def intSizeF (x:RI):Int:=IntKind.i64.wrap (1+(x.mag.length:Int))
def fracSizeF (x:RF):Int:=IntKind.i64.wrap (intSizeF x.num+intSizeF x.den)
def lowCostF (x y:RI):Int:=IntKind.i64.wrap (IntKind.i64.wrap ((IntKind.i64.wrap (min (x.mag.length:Int) 1048576*min (y.mag.length:Int) 1048576)).tdiv 16)*1024)
def fracCostF (x:RF):Int:=IntKind.i64.wrap (fracSizeF x+lowCostF x.num x.den)
def gaussCostF (x:RG):Int:=IntKind.i64.wrap (fracCostF x.re+fracCostF x.im)
def bydF (n:Int):List Int→Bool
 | []=>false
 | x::xs=>if decide (IntKind.i64.wrap (n+x)>1048576) then true else bydF (IntKind.i64.wrap (n+x)) xs
theorem byd_yes {n:Int} {l:List Int} {j:Nat} (h:j<l.length) (h2:decide (IntKind.i64.wrap (n+l[j])>1048576)=true):true=bydF n (l.drop j):=by
 rw [List.drop_eq_getElem_cons h,bydF,h2]; rfl
theorem byd_no {n:Int} {l:List Int} {j:Nat} (h:j<l.length) (h2:decide (IntKind.i64.wrap (n+l[j])>1048576)=false):bydF n (l.drop j)=bydF (IntKind.i64.wrap (n+l[j])) (l.drop (j+1)):=by
 rw [List.drop_eq_getElem_cons h,bydF,h2]; rfl
theorem wi_nx {j m:Nat} (h:j<m) (hm:m≤9223372036854775807):IntKind.i64.wrap ((j:Int)+1)=((j+1:Nat):Int):=by rw [wi64 zo zo]; rfl
theorem slA_len {E:TypeId} {D:List TypeId} {l:List As} {B:Nat} {v:Value} {w:World} (h:(SlA E D l).va.p B v w):l.length≤9223372036854775807:=by
 obtain ⟨cs,⟨_,A,c,ds,_,h1,h2,_⟩,_⟩:=h
 unfold maxLen at h2
 omega
theorem slA_lenm {E:TypeId} {D:List TypeId} {α:Type} {f:α→As} {l:List α} {B:Nat} {v:Value} {w:World} (h:(SlA E D (l.map f)).va.p B v w):l.length≤9223372036854775807:=by
 have:=slA_len h
 rwa [List.length_map] at this
theorem intSize_c (x:RI):Cn Tryz.prog 287 [(RIA x).va] (In (intSizeF x)):=by
 refine Cn.intro Tryz.func287 rfl zk nq (fun B w0 a hst=>?_)
 have hst:St B w0 7 [(0,(RIA x).va)] [] a w0.w:=hst
 refine wp_seq ?_
 refine gl (sts:=[]) (news:=[⟨1,24,ptrH,some 0,_,none⟩]) (sp:=[.alc 0,.val 2 _]) [.o 1] hst (oc (zai rfl rfl rfl (gq 0 rfl)) (zv rfl rfl (za2 za3) o0)) (fun a w hst=>?_)
 have hst:St B w0 7 [(2,_)] [⟨1,24,ptrH,_⟩] a w:=hst
 refine zt ?_
 refine gl (sts:=[none]) (news:=[]) (sp:=[.adr 3 1 (.some 1) True,.val 4 _,.val 5 _,.val 6 _,.val 2 _]) [.o 4] hst (oc (ob_a rfl rfl (za9 (lz0 0 rfl) zaj)) (zv rfl rfl (za4 0 rfl zk trivial (lz0 0 rfl) (Sub.part 1 rfl rfl) zbb) (zv rfl rfl (zb0 Tryz.underlying22 (vq 1 rfl)) (zv rfl rfl (zbh za3 (vq 2 rfl) (rfl)) (zv rfl rfl (za2 (vq 3 rfl)) o0))))) (fun a w hst=>?_)
 have hst:St B w0 7 [(2,_)] [⟨1,24,ptrH,_⟩] a w:=hst
 refine za0 ?_
 refine wp_ret ?_
 refine zaq ?_ (zah rfl hst (zm 0 rfl))
 exact zbt
theorem fracSize_c (x:RF):Cn Tryz.prog 155 [(RFA x).va] (In (fracSizeF x)):=by
 refine Cn.intro Tryz.func155 rfl zk nq (fun B w0 a hst=>?_)
 have hst:St B w0 10 [(0,(RFA x).va)] [] a w0.w:=hst
 refine wp_seq ?_
 refine gl (sts:=[]) (news:=[⟨1,26,ptrH,some 0,_,none⟩]) (sp:=[.alc 0,.val 2 _]) [.o 1] hst (oc (zai rfl rfl rfl (gq 0 rfl)) (zv rfl rfl (za2 za3) o0)) (fun a w hst=>?_)
 have hst:St B w0 10 [(2,_)] [⟨1,26,ptrH,_⟩] a w:=hst
 refine zt ?_
 refine zau (anc:=[[],[0],[0,1],[],[3],[0,1,2,3,4],[0,1,2,3,4,5],[0,1,2,3,4,5,6]]) (sts:=[none]) (news:=[]) (sp:=[.adr 3 1 (.some 0) True,.val 4 _,.val 5 _,.adr 6 1 (.some 2) True,.val 7 _,.val 8 _,.val 9 _,.val 2 _]) [.o 7] za6 hst (oc (ob_a rfl rfl (za9 (lz0 0 rfl) zbi)) (zv rfl rfl (za4 0 rfl zk trivial (lz0 0 rfl) (Sub.part 0 rfl rfl) zab) (zv rfl rfl (za5 (xs:=[.tmp 4]) (intSize_c _) (.cons (vq 1 rfl) .nil)) (oc (ob_a rfl rfl (za9 (lz0 0 rfl) zb8)) (zv rfl rfl (za4 3 rfl zk trivial (lz0 0 rfl) (Sub.part 1 rfl rfl) zab) (zv rfl rfl (za5 (xs:=[.tmp 7]) (intSize_c _) (.cons (vq 4 rfl) .nil)) (zv rfl rfl (zbh (vq 2 rfl) (vq 5 rfl) (rfl)) (zv rfl rfl (za2 (vq 6 rfl)) o0)))))))) zk zk zk zk (fun a w hst=>?_)
 have hst:St B w0 10 [(2,_)] [⟨1,26,ptrH,_⟩] a w:=hst
 refine za0 ?_
 refine wp_ret ?_
 refine zaq ?_ (zah rfl hst (zm 0 rfl))
 exact zbt
theorem lowCost_c (x y:RI):Cn Tryz.prog 156 [(RIA x).va,(RIA y).va] (In (lowCostF x y)):=by
 refine Cn.intro Tryz.func156 rfl zk nq (fun B w0 a hst=>?_)
 have hst:St B w0 16 [(0,(RIA x).va),(1,(RIA y).va)] [] a w0.w:=hst
 refine wp_seq ?_
 refine gl (sts:=[]) (news:=[⟨2,24,ptrH,some 0,_,none⟩,⟨3,24,ptrH,some 1,_,none⟩]) (sp:=[.alc 0,.alc 1,.val 4 _]) [.o 2] hst (oc (zai rfl rfl rfl (gq 0 rfl)) (oc (zai rfl rfl rfl (gq 1 rfl)) (zv rfl rfl (za2 za3) o0))) (fun a w hst=>?_)
 have hst:St B w0 16 [(4,_)] [⟨2,24,ptrH,_⟩,⟨3,24,ptrH,_⟩] a w:=hst
 refine zt ?_
 refine gl (sts:=[none,none]) (news:=[]) (sp:=[.adr 5 2 (.some 1) True,.val 6 _,.val 7 _,.val 8 _,.adr 9 3 (.some 1) True,.val 10 _,.val 11 _,.val 12 _,.val 13 _,.val 14 _,.val 15 _,.val 4 _]) [.o 11] hst (oc (ob_a rfl rfl (za9 (lz0 0 rfl) zaj)) (zv rfl rfl (za4 0 rfl zk trivial (lz0 0 rfl) (Sub.part 1 rfl rfl) zbb) (zv rfl rfl (zb0 Tryz.underlying22 (vq 1 rfl)) (zv rfl rfl (r_min (vq 2 rfl) za3) (oc (ob_a rfl rfl (za9 (lz0 1 rfl) zaj)) (zv rfl rfl (za4 4 rfl zk trivial (lz0 1 rfl) (Sub.part 1 rfl rfl) zbb) (zv rfl rfl (zb0 Tryz.underlying22 (vq 5 rfl)) (zv rfl rfl (r_min (vq 6 rfl) za3) (zv rfl rfl (zku (vq 3 rfl) (vq 7 rfl) (rfl)) (zv rfl rfl (zjt (vq 8 rfl) za3 zd (rfl)) (zv rfl rfl (zku (vq 9 rfl) za3 (rfl)) (zv rfl rfl (za2 (vq 10 rfl)) o0)))))))))))) (fun a w hst=>?_)
 have hst:St B w0 16 [(4,_)] [⟨2,24,ptrH,_⟩,⟨3,24,ptrH,_⟩] a w:=hst
 refine za0 ?_
 refine wp_ret ?_
 refine zaq ?_ (zah rfl hst (zm 0 rfl))
 exact zbt
theorem zkd (x:RF):Cn Tryz.prog 29 [(RFA x).va] (In (fracCostF x)):=by
 refine Cn.intro Tryz.func29 rfl zk nq (fun B w0 a hst=>?_)
 have hst:St B w0 11 [(0,(RFA x).va)] [] a w0.w:=hst
 refine wp_seq ?_
 refine gl (sts:=[]) (news:=[⟨1,26,ptrH,some 0,_,none⟩]) (sp:=[.alc 0,.val 2 _]) [.o 1] hst (oc (zai rfl rfl rfl (gq 0 rfl)) (zv rfl rfl (za2 za3) o0)) (fun a w hst=>?_)
 have hst:St B w0 11 [(2,_)] [⟨1,26,ptrH,_⟩] a w:=hst
 refine zt ?_
 refine zau (anc:=[[],[0],[],[2],[],[4],[0,1,2,3,4,5],[0,1,2,3,4,5,6],[0,1,2,3,4,5,6,7]]) (sts:=[none]) (news:=[]) (sp:=[.val 3 _,.val 4 _,.adr 5 1 (.some 0) True,.val 6 _,.adr 7 1 (.some 2) True,.val 8 _,.val 9 _,.val 10 _,.val 2 _]) [.o 8] za6 hst (zv rfl rfl (zad (lz0 0 rfl) zae) (zv rfl rfl (za5 (xs:=[.tmp 3]) (fracSize_c _) (.cons (vq 0 rfl) .nil)) (oc (ob_a rfl rfl (za9 (lz0 0 rfl) zbi)) (zv rfl rfl (za4 2 rfl zk trivial (lz0 0 rfl) (Sub.part 0 rfl rfl) zab) (oc (ob_a rfl rfl (za9 (lz0 0 rfl) zb8)) (zv rfl rfl (za4 4 rfl zk trivial (lz0 0 rfl) (Sub.part 1 rfl rfl) zab) (zv rfl rfl (za5 (xs:=[.tmp 6,.tmp 8]) (lowCost_c _ _) (.cons (vq 3 rfl) (.cons (vq 5 rfl) .nil))) (zv rfl rfl (zbh (vq 1 rfl) (vq 6 rfl) (rfl)) (zv rfl rfl (za2 (vq 7 rfl)) o0))))))))) zk zk zk zk (fun a w hst=>?_)
 have hst:St B w0 11 [(2,_)] [⟨1,26,ptrH,_⟩] a w:=hst
 refine za0 ?_
 refine wp_ret ?_
 refine zaq ?_ (zah rfl hst (zm 0 rfl))
 exact zbt
theorem zf3 (x:RG):Cn Tryz.prog 37 [(RGA x).va] (In (gaussCostF x)):=by
 refine Cn.intro Tryz.func37 rfl zk nq (fun B w0 a hst=>?_)
 have hst:St B w0 10 [(0,(RGA x).va)] [] a w0.w:=hst
 refine wp_seq ?_
 refine gl (sts:=[]) (news:=[⟨1,73,ptrH,some 0,_,none⟩]) (sp:=[.alc 0,.val 2 _]) [.o 1] hst (oc (zai rfl rfl rfl (gq 0 rfl)) (zv rfl rfl (za2 za3) o0)) (fun a w hst=>?_)
 have hst:St B w0 10 [(2,_)] [⟨1,73,ptrH,_⟩] a w:=hst
 refine zt ?_
 refine zau (anc:=[[],[0],[0,1],[],[3],[0,1,2,3,4],[0,1,2,3,4,5],[0,1,2,3,4,5,6]]) (sts:=[none]) (news:=[]) (sp:=[.adr 3 1 (.some 0) True,.val 4 _,.val 5 _,.adr 6 1 (.some 4) True,.val 7 _,.val 8 _,.val 9 _,.val 2 _]) [.o 7] za6 hst (oc (ob_a rfl rfl (za9 (lz0 0 rfl) zbk)) (zv rfl rfl (za4 0 rfl zk trivial (lz0 0 rfl) (Sub.part 0 rfl rfl) zae) (zv rfl rfl (za5 (xs:=[.tmp 4]) (zkd _) (.cons (vq 1 rfl) .nil)) (oc (ob_a rfl rfl (za9 (lz0 0 rfl) zbj)) (zv rfl rfl (za4 3 rfl zk trivial (lz0 0 rfl) (Sub.part 1 rfl rfl) zae) (zv rfl rfl (za5 (xs:=[.tmp 7]) (zkd _) (.cons (vq 4 rfl) .nil)) (zv rfl rfl (zbh (vq 2 rfl) (vq 5 rfl) (rfl)) (zv rfl rfl (za2 (vq 6 rfl)) o0)))))))) zk zk zk zk (fun a w hst=>?_)
 have hst:St B w0 10 [(2,_)] [⟨1,73,ptrH,_⟩] a w:=hst
 refine za0 ?_
 refine wp_ret ?_
 refine zaq ?_ (zah rfl hst (zm 0 rfl))
 exact zbt
theorem beyond_c (l:List Int):Cn Tryz.prog 27 [(SlA 3 [] (l.map (NumA .i64))).va] (Bo (bydF 0 l)):=by
 refine Cn.intro Tryz.func27 rfl zk nq (fun B w0 a hst=>?_)
 have hst:St B w0 19 [(0,(SlA 3 [] (l.map (NumA .i64))).va)] [] a w0.w:=hst
 have hl:=slA_lenm (hst.vals (0,(SlA 3 [] (l.map (NumA .i64))).va) (zm 0 rfl))
 refine wp_seq ?_
 refine gl (sts:=[]) (news:=[]) (sp:=[.val 2 _]) [.g 0,.o 0] hst (zv rfl rfl (za2 zb7) o0) (fun a w hst=>?_)
 have hst:St B w0 19 [(0,_),(2,_)] [] a w:=hst
 refine zt ?_
 refine gl (sts:=[]) (news:=[]) (sp:=[.val 3 _]) [.g 0,.g 1,.o 0] hst (zv rfl rfl (za2 za3) o0) (fun a w hst=>?_)
 have hst:St B w0 19 [(0,_),(2,_),(3,_)] [] a w:=hst
 refine zt ?_
 refine wp_seq ?_
 refine gl (sts:=[]) (news:=[]) (sp:=[.val 4 _]) [.g 0,.g 1,.g 2,.o 0] hst (zv rfl rfl (za2 za3) o0) (fun a w hst=>?_)
 have hst:St B w0 19 [(0,_),(2,_),(3,_),(4,_)] [] a w:=hst
 refine za0 ?_
 refine wp_block ?_
 have hst:=St.sel hst [0,2,3]
 refine wp_loop_ghost (fun n a w=>∃ (j:Nat) (m:Int),(n+j=l.length∧bydF 0 l=bydF m (l.drop j))∧St B w0 19 [(0,(SlA 3 [] (l.map (NumA .i64))).va),(3,In m),(4,In (j:Nat))] [] a w) (l.length) ?_ ?_
 ·exact ⟨0,0,⟨by omega,rfl⟩,hst⟩
 intro n a w hI
 obtain ⟨j,m,⟨hn,hm⟩,hst⟩:=hI
 refine wp_seq ?_
 refine wp_seq ?_
 refine gl (sts:=[]) (news:=[]) (sp:=[.val 5 _,.val 6 _,.val 7 _,.val 8 _]) [.g 0,.g 1,.g 2,.o 3] hst (zv rfl rfl (za1 (gq 2 rfl)) (zv rfl rfl (za1 (gq 0 rfl)) (zv rfl rfl (zc1 Tryz.underlying114 (vq 1 rfl)) (zv rfl rfl (zb9 (vq 0 rfl) (vq 2 rfl)) o0)))) (fun a w hst=>?_)
 have hst:St B w0 19 [(0,_),(3,_),(4,_),(8,_)] [] a w:=hst
 refine za0 ?_
 refine za8 hst (zm 3 rfl) (fun hb0=>?_) (fun hb0=>?_)
 ·have hj:j<l.length:=by rw [List.length_map] at hb0; simp at hb0; omega
  refine wp_skip ?_
  refine zt ?_
  refine wp_block ?_
  refine wp_seq ?_
  refine gl (sts:=[]) (news:=[]) (sp:=[.val 11 _,.val 12 _,.val 13 _,.val 14 _,.val 15 _,.val 16 _,.val 3 _]) [.g 0,.g 2,.o 6] hst (zv rfl rfl (za1 (gq 1 rfl)) (zv rfl rfl (za1 (gq 0 rfl)) (zv rfl rfl (za1 (gq 2 rfl)) (zv rfl rfl (zgp sl_114 (map_n fun _=>rfl) (vq 1 rfl) (vq 2 rfl) (zka hj)) (zv rfl rfl (zap (vq 3 rfl) ty_3) (zv rfl rfl (zbh (vq 0 rfl) (vq 4 rfl) (rfl)) (zv rfl rfl (za2 (vq 5 rfl)) o0))))))) (fun a w hst=>?_)
  have hst:St B w0 19 [(0,_),(4,_),(3,_)] [] a w:=hst
  refine zt ?_
  refine gl (sts:=[]) (news:=[]) (sp:=[.val 17 _,.val 18 _]) [.g 0,.g 1,.g 2,.o 1] hst (zv rfl rfl (za1 (gq 2 rfl)) (zv rfl rfl (zfg (vq 0 rfl) za3) o0)) (fun a w hst=>?_)
  have hst:St B w0 19 [(0,_),(4,_),(3,_),(18,_)] [] a w:=hst
  refine za0 ?_
  refine za8 hst (zm 3 rfl) (fun hb1=>?_) (fun hb1=>?_)
  ·refine wp_seq ?_
   refine gl (sts:=[]) (news:=[]) (sp:=[.val 2 _]) [.g 0,.g 1,.g 2,.o 0] hst (zv rfl rfl (za2 zb7) o0) (fun a w hst=>?_)
   have hst:St B w0 19 [(0,_),(4,_),(3,_),(2,_)] [] a w:=hst
   refine za0 ?_
   refine wp_ret ?_
   refine zbx ?_
   refine zao ?_
   refine zao ?_
   refine zbx ?_
   refine zao ?_
   refine zaq ?_ (zah rfl hst (zm 3 rfl))
   exact zc3 (congrArg Bo ((byd_yes hj hb1).trans hm.symm))
  ·refine wp_skip ?_
   refine zas ?_
   refine za0 ?_
   refine gl (sts:=[]) (news:=[]) (sp:=[.val 9 _,.val 10 _,.val 4 _]) [.g 0,.g 2,.o 2] hst (zv rfl rfl (za1 (gq 1 rfl)) (zv rfl rfl (zbh (vq 0 rfl) za3 (wi_nx hj hl)) (zv rfl rfl (za2 (vq 1 rfl)) o0))) (fun a w hst=>?_)
   have hst:St B w0 19 [(0,_),(3,_),(4,_)] [] a w:=hst
   refine za0 ?_
   have hst:=St.sel hst [0,1,2]
   exact ⟨n - 1,by omega,j+1,_,⟨by omega,hm.trans (byd_no hj hb1)⟩,hst⟩
 ·obtain rfl:j=l.length:=by rw [List.length_map] at hb0; simp at hb0; omega
  refine wp_exit ?_
  refine za7 ?_
  refine za7 ?_
  refine zag ?_
  refine zt ?_
  refine gl (sts:=[]) (news:=[]) (sp:=[.val 2 _]) [.o 0] hst (zv rfl rfl (za2 zb7) o0) (fun a w hst=>?_)
  have hst:St B w0 19 [(2,_)] [] a w:=hst
  refine za0 ?_
  refine wp_ret ?_
  refine zaq ?_ (zah rfl hst (zm 0 rfl))
  exact zc3 (congrArg Bo (by rw [hm,List.drop_of_length_le (Nat.le_refl _)]; rfl))
theorem same_yes {a b:RI} (hn:a.neg=b.neg) (h:a.mag=b.mag):true=decide (a=b):=by
 cases a; cases b; simp_all
theorem same_no1 {a b:RI} (h:((a.neg != b.neg) || (((a.mag.length:Nat):Int) != ((b.mag.length:Nat):Int)))=true):false=decide (a=b):=by
 symm
 apply decide_eq_false
 rintro rfl
 simp at h
theorem same_two {a b:RI} (h:((a.neg != b.neg) || (((a.mag.length:Nat):Int) != ((b.mag.length:Nat):Int)))=false):a.neg=b.neg∧a.mag.length=b.mag.length:=by
 simp only [Bool.or_eq_false_iff,bne_eq_false_iff_eq] at h
 exact ⟨h.1,by omega⟩
theorem same_no2 {a b:RI} {j:Nat} (h1:j<a.mag.length) (h2:j<b.mag.length) (h:(((a.mag[j]:Nat):Int) != ((b.mag[j]:Nat):Int))=true):false=decide (a=b):=by
 symm
 apply decide_eq_false
 rintro rfl
 simp at h
theorem take_eq {l m:List Nat} {j:Nat} (h1:j<l.length) (h2:j<m.length) (h:l.take j=m.take j) (h3:(((l[j]:Nat):Int) != ((m[j]:Nat):Int))=false):l.take (j+1)=m.take (j+1):=by
 rw [List.take_succ_eq_append_getElem h1,List.take_succ_eq_append_getElem h2,h]
 simp only [bne_eq_false_iff_eq] at h3
 rw [show l[j]=m[j] by omega]
theorem rf_eq {a b:RF}:(decide (a.num=b.num) && decide (a.den=b.den))=decide (a=b):=by
 cases a; cases b; rw [Bool.eq_iff_iff]; simp
theorem rg_eq {a b:RG}:(decide (a.re=b.re) && decide (a.im=b.im))=decide (a=b):=by
 cases a; cases b; rw [Bool.eq_iff_iff]; simp
theorem zir (x y:RI):Cn Tryz.prog 105 [(RIA x).va,(RIA y).va] (Bo (decide (x=y))):=by
 refine Cn.intro Tryz.func105 rfl zk nq (fun B w0 a hst=>?_)
 have hst:St B w0 38 [(0,(RIA x).va),(1,(RIA y).va)] [] a w0.w:=hst
 have hxk:=zhl (hst.vals (0,(RIA x).va) (zm 0 rfl))
 refine wp_seq ?_
 refine gl (sts:=[]) (news:=[⟨2,24,ptrH,some 0,_,none⟩,⟨3,24,ptrH,some 1,_,none⟩]) (sp:=[.alc 0,.alc 1,.val 4 _]) [.o 2] hst (oc (zai rfl rfl rfl (gq 0 rfl)) (oc (zai rfl rfl rfl (gq 1 rfl)) (zv rfl rfl (za2 zb7) o0))) (fun a w hst=>?_)
 have hst:St B w0 38 [(4,_)] [⟨2,24,ptrH,_⟩,⟨3,24,ptrH,_⟩] a w:=hst
 refine zt ?_
 refine wp_seq ?_
 refine gl (sts:=[none,none]) (news:=[]) (sp:=[.adr 6 2 (.some 0) True,.val 7 _,.adr 8 3 (.some 0) True,.val 9 _,.val 10 _,.val 11 _,.adr 12 2 (.some 1) (_=false),.val 13 (Wh (_=false) _),.val 14 (Wh (_=false) _),.adr 15 3 (.some 1) (_=false),.val 16 (Wh (_=false) _),.val 17 (Wh (_=false) _),.val 18 (Wh (_=false) _),.val 19 _]) [.g 0,.o 13] hst (oc (ob_a rfl rfl (za9 (lz0 0 rfl) zba)) (zv rfl rfl (za4 0 rfl zk trivial (lz0 0 rfl) (Sub.part 0 rfl rfl) ty_4) (oc (ob_a rfl rfl (za9 (lz0 1 rfl) zba)) (zv rfl rfl (za4 2 rfl zk trivial (lz0 1 rfl) (Sub.part 0 rfl rfl) ty_4) (zv rfl rfl (zk5 zk (vq 1 rfl) (vq 3 rfl)) (zv rfl rfl (za1 (vq 4 rfl)) (oc (zcc rfl rfl rfl (vq 5 rfl) nq (fun hg=>za9 (lz0 0 rfl) zaj)) (oc (zam rfl rfl rfl (vq 5 rfl) nq (fun hg=>za4 6 rfl zk hg (lz0 0 rfl) (Sub.part 1 rfl rfl) zbb)) (oc (zam rfl rfl rfl (vq 5 rfl) nq (fun hg=>zb0 Tryz.underlying22 (zac (vq 7 rfl) hg))) (oc (zcc rfl rfl rfl (vq 5 rfl) nq (fun hg=>za9 (lz0 1 rfl) zaj)) (oc (zam rfl rfl rfl (vq 5 rfl) nq (fun hg=>za4 9 rfl zk hg (lz0 1 rfl) (Sub.part 1 rfl rfl) zbb)) (oc (zam rfl rfl rfl (vq 5 rfl) nq (fun hg=>zb0 Tryz.underlying22 (zac (vq 10 rfl) hg))) (oc (zam rfl rfl rfl (vq 5 rfl) nq (fun hg=>zd5 (zac (vq 8 rfl) hg) (zac (vq 11 rfl) hg))) (zv rfl rfl (r_or (vq 5 rfl) (vq 12 rfl)) o0)))))))))))))) (fun a w hst=>?_)
 have hst:St B w0 38 [(4,_),(19,_)] [⟨2,24,ptrH,_⟩,⟨3,24,ptrH,_⟩] a w:=hst
 refine za0 ?_
 refine za8 hst (zm 1 rfl) (fun hb0=>?_) (fun hb0=>?_)
 ·refine wp_seq ?_
  refine gl (sts:=[none,none]) (news:=[]) (sp:=[.val 4 _]) [.o 0] hst (zv rfl rfl (za2 zb7) o0) (fun a w hst=>?_)
  have hst:St B w0 38 [(4,_)] [⟨2,24,ptrH,_⟩,⟨3,24,ptrH,_⟩] a w:=hst
  refine za0 ?_
  refine wp_ret ?_
  refine zao ?_
  refine zaq ?_ (zah rfl hst (zm 0 rfl))
  exact zc3 (congrArg Bo (same_no1 hb0))
 ·obtain ⟨hn1,hl⟩:=same_two hb0
  refine wp_skip ?_
  refine zt ?_
  refine wp_seq ?_
  refine gl (sts:=[none,none]) (news:=[]) (sp:=[.val 5 _]) [.g 0,.o 0] hst (zv rfl rfl (za2 za3) o0) (fun a w hst=>?_)
  have hst:St B w0 38 [(4,_),(5,_)] [⟨2,24,ptrH,_⟩,⟨3,24,ptrH,_⟩] a w:=hst
  refine za0 ?_
  refine wp_block ?_
  have hst:=St.sel hst [1]
  refine wp_loop_ghost (fun n a w=>∃ j:Nat,(n+j=x.mag.length∧x.mag.take j=y.mag.take j)∧St B w0 38 [(5,In (j:Nat))] [⟨2,24,ptrH,RIA x⟩,⟨3,24,ptrH,RIA y⟩] a w) (x.mag.length) ?_ ?_
  ·exact ⟨0,⟨by omega,rfl⟩,hst⟩
  intro n a w hI
  obtain ⟨j,⟨hn,ht⟩,hst⟩:=hI
  refine wp_seq ?_
  refine wp_seq ?_
  refine gl (sts:=[none,none]) (news:=[]) (sp:=[.val 20 _,.adr 21 2 (.some 1) True,.val 22 _,.val 23 _,.val 24 _]) [.g 0,.o 4] hst (zv rfl rfl (za1 (gq 0 rfl)) (oc (ob_a rfl rfl (za9 (lz0 0 rfl) zaj)) (zv rfl rfl (za4 1 rfl zk trivial (lz0 0 rfl) (Sub.part 1 rfl rfl) zbb) (zv rfl rfl (zb0 Tryz.underlying22 (vq 2 rfl)) (zv rfl rfl (zb9 (vq 0 rfl) (vq 3 rfl)) o0))))) (fun a w hst=>?_)
  have hst:St B w0 38 [(5,_),(24,_)] [⟨2,24,ptrH,_⟩,⟨3,24,ptrH,_⟩] a w:=hst
  refine za0 ?_
  refine za8 hst (zm 1 rfl) (fun hb1=>?_) (fun hb1=>?_)
  ·have hj:j<x.mag.length:=by simp at hb1; omega
   refine wp_skip ?_
   refine zt ?_
   refine wp_block ?_
   refine wp_seq ?_
   refine zau (anc:=[[],[0],[],[0,1,2],[0,1,2,3],[],[5],[],[5,6,7],[5,6,7,8],[0,1,2,3,4,5,6,7,8,9]]) (sts:=[none,none]) (news:=[]) (sp:=[.adr 27 2 (.some 1) True,.val 28 _,.val 29 _,.val 30 _,.val 31 _,.adr 32 3 (.some 1) True,.val 33 _,.val 34 _,.val 35 _,.val 36 _,.val 37 _]) [.g 0,.o 10] za6 hst (oc (ob_a rfl rfl (za9 (lz0 0 rfl) zaj)) (zv rfl rfl (za4 0 rfl zk trivial (lz0 0 rfl) (Sub.part 1 rfl rfl) zbb) (zv rfl rfl (za1 (gq 0 rfl)) (zv rfl rfl (zc4 zbd (vq 1 rfl) (vq 2 rfl) zo) (zv rfl rfl (zap (vq 3 rfl) zb5) (oc (ob_a rfl rfl (za9 (lz0 1 rfl) zaj)) (zv rfl rfl (za4 5 rfl zk trivial (lz0 1 rfl) (Sub.part 1 rfl rfl) zbb) (zv rfl rfl (za1 (gq 0 rfl)) (zv rfl rfl (zc4 zbd (vq 6 rfl) (vq 7 rfl) zo) (zv rfl rfl (zap (vq 8 rfl) zb5) (zv rfl rfl (zd5 (vq 4 rfl) (vq 9 rfl)) o0))))))))))) zk zk zk zk (fun a w hst=>?_)
   have hst:St B w0 38 [(5,_),(37,_)] [⟨2,24,ptrH,_⟩,⟨3,24,ptrH,_⟩] a w:=hst
   refine za0 ?_
   refine za8 hst (zm 1 rfl) (fun hb2=>?_) (fun hb2=>?_)
   ·refine wp_seq ?_
    refine gl (sts:=[none,none]) (news:=[]) (sp:=[.val 4 _]) [.g 0,.o 0] hst (zv rfl rfl (za2 zb7) o0) (fun a w hst=>?_)
    have hst:St B w0 38 [(5,_),(4,_)] [⟨2,24,ptrH,_⟩,⟨3,24,ptrH,_⟩] a w:=hst
    refine za0 ?_
    refine wp_ret ?_
    refine zbx ?_
    refine zao ?_
    refine zao ?_
    refine zbx ?_
    refine zao ?_
    refine zaq ?_ (zah rfl hst (zm 1 rfl))
    exact zc3 (congrArg Bo (same_no2 hj zo hb2))
   ·refine wp_skip ?_
    refine zas ?_
    refine za0 ?_
    refine gl (sts:=[none,none]) (news:=[]) (sp:=[.val 25 _,.val 26 _,.val 5 _]) [.o 2] hst (zv rfl rfl (za1 (gq 0 rfl)) (zv rfl rfl (zbh (vq 0 rfl) za3 (wi_nx hj hxk.2)) (zv rfl rfl (za2 (vq 1 rfl)) o0))) (fun a w hst=>?_)
    have hst:St B w0 38 [(5,_)] [⟨2,24,ptrH,_⟩,⟨3,24,ptrH,_⟩] a w:=hst
    refine za0 ?_
    have hst:=St.sel hst [0]
    exact ⟨n - 1,by omega,j+1,⟨by omega,take_eq hj zo ht hb2⟩,hst⟩
  ·obtain rfl:j=x.mag.length:=by simp at hb1; omega
   refine wp_exit ?_
   refine za7 ?_
   refine za7 ?_
   refine zag ?_
   refine zt ?_
   refine gl (sts:=[none,none]) (news:=[]) (sp:=[.val 4 _]) [.o 0] hst (zv rfl rfl (za2 zb7) o0) (fun a w hst=>?_)
   have hst:St B w0 38 [(4,_)] [⟨2,24,ptrH,_⟩,⟨3,24,ptrH,_⟩] a w:=hst
   refine za0 ?_
   refine wp_ret ?_
   refine zaq ?_ (zah rfl hst (zm 0 rfl))
   exact zc3 (congrArg Bo (same_yes hn1 (by rw [List.take_of_length_le (Nat.le_refl _),List.take_of_length_le zo] at ht; exact ht)))
theorem zfw (x y:RF):Cn Tryz.prog 20 [(RFA x).va,(RFA y).va] (Bo (decide (x=y))):=by
 refine Cn.intro Tryz.func20 rfl zk nq (fun B w0 a hst=>?_)
 have hst:St B w0 17 [(0,(RFA x).va),(1,(RFA y).va)] [] a w0.w:=hst
 refine wp_seq ?_
 refine gl (sts:=[]) (news:=[⟨2,26,ptrH,some 0,_,none⟩,⟨3,26,ptrH,some 1,_,none⟩]) (sp:=[.alc 0,.alc 1,.val 4 _]) [.o 2] hst (oc (zai rfl rfl rfl (gq 0 rfl)) (oc (zai rfl rfl rfl (gq 1 rfl)) (zv rfl rfl (za2 zb7) o0))) (fun a w hst=>?_)
 have hst:St B w0 17 [(4,_)] [⟨2,26,ptrH,_⟩,⟨3,26,ptrH,_⟩] a w:=hst
 refine zt ?_
 refine gl (sts:=[none,none]) (news:=[]) (sp:=[.adr 5 2 (.some 0) True,.val 6 _,.adr 7 3 (.some 0) True,.val 8 _,.val 9 _,.val 10 _,.adr 11 2 (.some 2) (_=true),.val 12 (Wh (_=true) _),.adr 13 3 (.some 2) (_=true),.val 14 (Wh (_=true) _),.val 15 (Wh (_=true) _),.val 16 _,.val 4 _]) [.o 12] hst (oc (ob_a rfl rfl (za9 (lz0 0 rfl) zbi)) (zv rfl rfl (za4 0 rfl zk trivial (lz0 0 rfl) (Sub.part 0 rfl rfl) zab) (oc (ob_a rfl rfl (za9 (lz0 1 rfl) zbi)) (zv rfl rfl (za4 2 rfl zk trivial (lz0 1 rfl) (Sub.part 0 rfl rfl) zab) (zv rfl rfl (za5 (xs:=[.tmp 6,.tmp 8]) (zir _ _) (.cons (vq 1 rfl) (.cons (vq 3 rfl) .nil))) (zv rfl rfl (za1 (vq 4 rfl)) (oc (zcc rfl rfl rfl (vq 5 rfl) nq (fun hg=>za9 (lz0 0 rfl) zb8)) (oc (zam rfl rfl rfl (vq 5 rfl) nq (fun hg=>za4 6 rfl zk hg (lz0 0 rfl) (Sub.part 1 rfl rfl) zab)) (oc (zcc rfl rfl rfl (vq 5 rfl) nq (fun hg=>za9 (lz0 1 rfl) zb8)) (oc (zam rfl rfl rfl (vq 5 rfl) nq (fun hg=>za4 8 rfl zk hg (lz0 1 rfl) (Sub.part 1 rfl rfl) zab)) (oc (zam rfl rfl rfl (vq 5 rfl) nq (fun hg=>za5 (xs:=[.tmp 12,.tmp 14]) (zir _ _) (.cons (zac (vq 7 rfl) hg) (.cons (zac (vq 9 rfl) hg) .nil)))) (zv rfl rfl (zch (vq 5 rfl) (vq 10 rfl)) (zv rfl rfl (za2 (vq 11 rfl)) o0))))))))))))) (fun a w hst=>?_)
 have hst:St B w0 17 [(4,_)] [⟨2,26,ptrH,_⟩,⟨3,26,ptrH,_⟩] a w:=hst
 refine za0 ?_
 refine wp_ret ?_
 refine zaq ?_ (zah rfl hst (zm 0 rfl))
 exact zc3 (congrArg Bo rf_eq)
theorem zev (x y:RG):Cn Tryz.prog 81 [(RGA x).va,(RGA y).va] (Bo (decide (x=y))):=by
 refine Cn.intro Tryz.func81 rfl zk nq (fun B w0 a hst=>?_)
 have hst:St B w0 17 [(0,(RGA x).va),(1,(RGA y).va)] [] a w0.w:=hst
 refine wp_seq ?_
 refine gl (sts:=[]) (news:=[⟨2,73,ptrH,some 0,_,none⟩,⟨3,73,ptrH,some 1,_,none⟩]) (sp:=[.alc 0,.alc 1,.val 4 _]) [.o 2] hst (oc (zai rfl rfl rfl (gq 0 rfl)) (oc (zai rfl rfl rfl (gq 1 rfl)) (zv rfl rfl (za2 zb7) o0))) (fun a w hst=>?_)
 have hst:St B w0 17 [(4,_)] [⟨2,73,ptrH,_⟩,⟨3,73,ptrH,_⟩] a w:=hst
 refine zt ?_
 refine gl (sts:=[none,none]) (news:=[]) (sp:=[.adr 5 2 (.some 0) True,.val 6 _,.adr 7 3 (.some 0) True,.val 8 _,.val 9 _,.val 10 _,.adr 11 2 (.some 4) (_=true),.val 12 (Wh (_=true) _),.adr 13 3 (.some 4) (_=true),.val 14 (Wh (_=true) _),.val 15 (Wh (_=true) _),.val 16 _,.val 4 _]) [.o 12] hst (oc (ob_a rfl rfl (za9 (lz0 0 rfl) zbk)) (zv rfl rfl (za4 0 rfl zk trivial (lz0 0 rfl) (Sub.part 0 rfl rfl) zae) (oc (ob_a rfl rfl (za9 (lz0 1 rfl) zbk)) (zv rfl rfl (za4 2 rfl zk trivial (lz0 1 rfl) (Sub.part 0 rfl rfl) zae) (zv rfl rfl (za5 (xs:=[.tmp 6,.tmp 8]) (zfw _ _) (.cons (vq 1 rfl) (.cons (vq 3 rfl) .nil))) (zv rfl rfl (za1 (vq 4 rfl)) (oc (zcc rfl rfl rfl (vq 5 rfl) nq (fun hg=>za9 (lz0 0 rfl) zbj)) (oc (zam rfl rfl rfl (vq 5 rfl) nq (fun hg=>za4 6 rfl zk hg (lz0 0 rfl) (Sub.part 1 rfl rfl) zae)) (oc (zcc rfl rfl rfl (vq 5 rfl) nq (fun hg=>za9 (lz0 1 rfl) zbj)) (oc (zam rfl rfl rfl (vq 5 rfl) nq (fun hg=>za4 8 rfl zk hg (lz0 1 rfl) (Sub.part 1 rfl rfl) zae)) (oc (zam rfl rfl rfl (vq 5 rfl) nq (fun hg=>za5 (xs:=[.tmp 12,.tmp 14]) (zfw _ _) (.cons (zac (vq 7 rfl) hg) (.cons (zac (vq 9 rfl) hg) .nil)))) (zv rfl rfl (zch (vq 5 rfl) (vq 10 rfl)) (zv rfl rfl (za2 (vq 11 rfl)) o0))))))))))))) (fun a w hst=>?_)
 have hst:St B w0 17 [(4,_)] [⟨2,73,ptrH,_⟩,⟨3,73,ptrH,_⟩] a w:=hst
 refine za0 ?_
 refine wp_ret ?_
 refine zaq ?_ (zah rfl hst (zm 0 rfl))
 exact zc3 (congrArg Bo rg_eq)
end Go.Proofs.YthncfchnkjemiaaGreatDoor
namespace Go.Proofs.YthncfchnkjemiaaGreatDoor
open Go Go.RowKit
open Go.ChangeShapes Go.WideShapes Go.ChangeAt
theorem cat_of {B:Nat} {w:World}:∀ {l:List As} {cs:List Value},cs.length=(l.map (·.n)).sum→(∀ (k:Nat) (A:As),l[k]?=some A→A.p B ((cs.drop (offs l k)).take A.n) w)→(cat l).p B cs w
 | [],cs,hl,_=>by
  have:cs=[]:=List.length_eq_zero_iff.1 (by simpa using hl)
  subst this
  exact ⟨[],rfl,.nil⟩
 | A::l,cs,hl,h=>by
  simp only [List.map_cons,List.sum_cons] at hl
  have h0:=h 0 A rfl
  simp only [offs,List.take_zero,List.map_nil,List.sum_nil,List.drop_zero] at h0
  obtain ⟨ps,e,hps⟩:=cat_of (l:=l) (cs:=cs.drop A.n) (B:=B) (w:=w) (by simp; omega) fun k A' hk=>by
   have:=h (k+1) A' (by simpa using hk)
   simp only [offs,List.take_succ_cons,List.map_cons,List.sum_cons] at this
   rw [List.drop_drop]
   exact this
  exact ⟨cs.take A.n::ps,by rw [List.flatten_cons,← e,List.take_append_drop],.cons h0 hps⟩
section
variable {H:Type} {enc:TypeId × Value→H} {w:World} {base:Nat} {spare:Nat→Bool} {held:Bool} {fuel:Nat} {cs:List Value} {x:DataW H × List MemPlace}
theorem rd_mg (h:DataW.trod enc Tryz.prog w base spare held fuel 22 cs=some x):∃ l,(MgA l).p w.heap.size cs w:=by
 rcases open_ints Tryz.underlying22 Tryz.underlying168 zk h with ⟨hcs,_⟩ | ⟨a,len,cap,zs,rfl,_,hl,hm,hz,_,hcell,hwz⟩
 ·subst hcs
  exact ⟨[],zfj _ _⟩
 ·have hzl:len≤zs.length:=by rw [hz]; split <;> omega
  have hnn:∀ n∈zs,0≤n∧n<4294967296:=fun n hn=>by
   have:=hwz n hn
   simp [Lit.wf,IntKind.min,IntKind.max,IntKind.signed,IntKind.bits] at this
   omega
  have hlen:((zs.take len).map Int.toNat).length=len:=by simp; omega
  refine ⟨(zs.take len).map Int.toNat,?_⟩
  have hM:Mag w.heap.size w (some a) cap ((zs.take len).map Int.toNat):=by
   refine ⟨fun y hy=>?_,by omega,hm,fun hn=>?_⟩
   ·obtain ⟨n,hn,rfl⟩:=List.mem_map.1 hy
    have:=hnn n (List.mem_of_mem_take hn)
    omega
   ·obtain ⟨b,off,rfl,hc⟩:=ints_at hcell zo
    have hb:b<w.heap.size:=World.block_lt_of_cell? w _ (hc 0 zo)
    refine ⟨b,off,rfl,hb,.inl hb,fun j hj=>?_⟩
    rw [hc j zo]
    have hjz:j<zs.length:=by omega
    have:=hnn _ (List.getElem_mem hjz)
    congr 2
    simp only [List.getElem_map,List.getElem_take]
    rw [Int.toNat_of_nonneg this.1]
    simp [List.getD_eq_getElem?_getD,List.getElem?_eq_getElem hjz]
  obtain ⟨ds,hp,hv⟩:=zen hM hlen.symm
  have hd:=(MgA ((zs.take len).map Int.toNat)).len _ _ _ hp
  match ds,hd with
  | [d],_ =>
   have:d=.slice (some a) len cap:=hv.symm
   subst this
   exact hp
theorem cat_two {B:Nat} {A0 A1:As} (h0:A0.p B ((cs.drop 0).take A0.n) w) (h1:A1.p B ((cs.drop A0.n).take A1.n) w) (hl:cs.length=A0.n+A1.n):(cat [A0,A1]).p B cs w :=
 cat_of (by simpa using hl) fun k A hk=>by
  match k,hk with
  | 0,hk=>simp at hk; subst hk; exact h0
  | 1,hk=>simp at hk; subst hk; simpa [offs] using h1
theorem cat_four {B:Nat} {A0 A1 A2 A3:As} (h0:A0.p B ((cs.drop 0).take A0.n) w) (h1:A1.p B ((cs.drop A0.n).take A1.n) w) (h2:A2.p B ((cs.drop (A0.n+A1.n)).take A2.n) w) (h3:A3.p B ((cs.drop (A0.n+(A1.n+A2.n))).take A3.n) w) (hl:cs.length=A0.n+(A1.n+(A2.n+A3.n))):(cat [A0,A1,A2,A3]).p B cs w :=
 cat_of (by simpa using hl) fun k A hk=>by
  match k,hk with
  | 0,hk=>simp at hk; subst hk; exact h0
  | 1,hk=>simp at hk; subst hk; simpa [offs] using h1
  | 2,hk=>simp at hk; subst hk; simpa [offs] using h2
  | 3,hk=>simp at hk; subst hk; simpa [offs] using h3
theorem rd_bo (h:DataW.trod enc Tryz.prog w base spare held fuel 4 cs=some x):∃ b,(BoA b).p w.heap.size cs w:=by
 obtain ⟨b,hb,_⟩:=DataW.trod_bool Tryz.underlying4 h
 exact ⟨b,hb⟩
end
end Go.Proofs.YthncfchnkjemiaaGreatDoor
namespace Go.Proofs.YthncfchnkjemiaaGreatDoor
open Go Go.RowKit
theorem sgn_le {x:Rat}:x.num.sign≤0↔¬ 0<x:=by
 constructor
 ·intro h hx
  have:0<x.num:=by
   rcases Rat.lt_iff_le_and_ne.1 hx with ⟨h1,h2⟩
   have h3:=Rat.num_nonneg.2 h1
   have h4:x.num≠0:=fun e=>h2 (Rat.num_eq_zero.1 e).symm
   omega
  have:=Int.sign_pos_iff.2 this
  omega
 ·intro h
  have:x.num≤0:=by
   apply Decidable.byContradiction
   intro hn
   have h1:0≤x:=Rat.num_nonneg.1 zo
   exact h (Rat.lt_iff_le_and_ne.2 ⟨h1,fun e=>by rw [← e] at hn; exact hn zd⟩)
  by_cases h0:x.num=0
  ·rw [h0]; decide
  ·rw [Int.sign_eq_neg_one_of_neg zo]; decide
structure OkG (p:GQ):Prop where
 re:longQ p.re=false
 im:longQ p.im=false
 pos:0<p.im
end Go.Proofs.YthncfchnkjemiaaGreatDoor
namespace Go.Proofs.YthncfchnkjemiaaGreatDoor
open Go Go.RowKit
theorem div_pos {x y:Rat} (h:0<x) (h':0<y):0<x / y:=Rat.mul_pos h (Rat.inv_pos.2 h')
end Go.Proofs.YthncfchnkjemiaaGreatDoor
