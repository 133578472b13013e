import Derived.Test.YthncfchnkjemiaaGreatDoorCpAa
import Derived.Test.YthncfchnkjemiaaGreatDoorCpAc
import Derived.Test.YthncfchnkjemiaaGreatDoorCpAn
import Derived.ProofKit
import Derived.OpenShut
import Derived.ChangeOld
import Derived.Below
import Derived.WalkKit
set_option linter.unusedVariables false
set_option linter.unusedSimpArgs false
set_option linter.unusedSectionVars false
set_option maxRecDepth 100000
namespace Go.Proofs.YthncfchnkjemiaaGreatDoor
open Go Go.RowKit
theorem ex_checkI : ∃ fn, Tryz.prog.funcs[288]? = some fn ∧ (fn.name == "runtime.NumGoroutine") = false ∧ fn.body.isNone = false := ⟨_, Tryz.func288, by kernel_rfl, by kernel_rfl⟩
theorem check_z {c:Nat} {p:Int} (hc:c≤2048):Cn Tryz.prog 288 [Zs c p] (In 0):=zs1 ex_checkI fun h=>(check_c (riOf p)).post (by rw [okRI_ri,decide_eq_true (by omega:lz p≤2048)]; rfl)
theorem lz_i64 {p:Int} (h0 : -9223372036854775808≤p) (h1:p<9223372036854775808):lz p≤2:=lz_le zo
theorem ansF_ok {q:Rat} (h:lz q.num≤2048∧lz (q.den:Int)≤2048):ansF q=(rfOf q,0):=by rw [ansF,longQ_false.2 h]; rfl
theorem ansF_low {p q:Int} (hq:q≠0) (hp:lz p≤2) (h2:lz q≤2):ansF (Rat.divInt p q)=(rfOf (Rat.divInt p q),0):=by
 have:=lz_low2 (p:=p) hq
 exact ansF_ok zo
theorem make_q {p q:Int} (hq:q≠0):Cn Tryz.prog 307 [Zs 2 p,Zs 2 q] (FrR (ansF (Rat.divInt p q))):=by
 refine Cn.intro Tryz.func307 rfl zk nq (fun B w0 a hst=>?_)
 have hst:St B w0 25 [(0,Zs 2 p),(1,Zs 2 q)] [] a w0.w:=hst
 refine wp_seq ?_
 refine gl (sts:=[]) (news:=[⟨2,24,ptrH,some 0,_,none⟩,⟨3,24,ptrH,some 1,_,none⟩,⟨4,26,ptrH,some 2,_,none⟩]) (sp:=[.alc 0,.alc 1,.alc 2,.val 5 _]) [.o 3] hst (oc (ob_box rfl rfl rfl (gq 0 rfl)) (oc (ob_box rfl rfl rfl (gq 1 rfl)) (oc (ob_alc rfl rfl rfl (Str.zero str_frac)) (zv rfl rfl (r_assign has_num) o0)))) (fun a w hst=>?_)
 have hst:St B w0 25 [(5,_)] [⟨2,24,ptrH,_⟩,⟨3,24,ptrH,_⟩,⟨4,26,ptrH,_⟩] a w:=hst
 refine zt ?_
 refine wp_seq ?_
 refine gl (sts:=[none,none,none]) (news:=[]) (sp:=[.val 6 _,.val 7 _,.val 8 _,.val 9 _,.val 10 (Wh (_=false) _),.val 11 (Wh (_=false) _),.val 12 (Wh (_=false) _),.val 13 _]) [.g 0,.o 7] hst (zv rfl rfl (r_load (lz0 0 rfl) ty_24) (zv rfl rfl (r_call (xs:=[.tmp 6]) (check_z zd) (.cons (vq 0 rfl) .nil)) (zv rfl rfl (r_neq (vq 1 rfl) has_num) (zv rfl rfl (r_move (vq 2 rfl)) (oc (ob_gd rfl rfl rfl (vq 3 rfl) nq (fun hg=>r_load (lz0 1 rfl) ty_24)) (oc (ob_gd rfl rfl rfl (vq 3 rfl) nq (fun hg=>r_call (xs:=[.tmp 10]) (check_z zd) (.cons (has_wh (vq 4 rfl) hg) .nil))) (oc (ob_gd rfl rfl rfl (vq 3 rfl) nq (fun hg=>r_neq (has_wh (vq 5 rfl) hg) has_num)) (zv rfl rfl (r_or (vq 3 rfl) (vq 6 rfl)) o0)))))))) (fun a w hst=>?_)
 have hst:St B w0 25 [(5,_),(13,_)] [⟨2,24,ptrH,_⟩,⟨3,24,ptrH,_⟩,⟨4,26,ptrH,_⟩] a w:=hst
 refine thn_normal ?_
 refine cond_of hst (zm 1 rfl) (fun hb0=>?_) (fun hb0=>?_)
 ·exact absurd hb0 zd
 ·refine wp_skip ?_
  refine zt ?_
  refine wp_seq ?_
  refine gl (sts:=[none,none,none]) (news:=[]) (sp:=[.val 15 _,.val 16 _,.val 17 _]) [.g 0,.o 2] hst (zv rfl rfl (r_load (lz0 1 rfl) ty_24) (zv rfl rfl (r_call (xs:=[.tmp 15]) sign_z (.cons (vq 0 rfl) .nil)) (zv rfl rfl (r_eql (vq 1 rfl) has_num) o0))) (fun a w hst=>?_)
  have hst:St B w0 25 [(5,_),(17,_)] [⟨2,24,ptrH,_⟩,⟨3,24,ptrH,_⟩,⟨4,26,ptrH,_⟩] a w:=hst
  refine thn_normal ?_
  refine cond_of hst (zm 1 rfl) (fun hb1=>?_) (fun hb1=>?_)
  ·exact absurd hb1 (by simpa using hq)
  ·refine wp_skip ?_
   refine zt ?_
   refine gl (sts:=[none,none,some (6,_)]) (news:=[]) (sp:=[.val 19 _,.val 20 _,.val 21 _,.val 22 _,.val 23 _,.val 24 _,.sto 2,.val 5 _]) [.o 7] hst (zv rfl rfl (r_load (lz0 0 rfl) ty_24) (zv rfl rfl (r_load (lz0 1 rfl) ty_24) (zv rfl rfl (r_call (xs:=[.tmp 19,.tmp 20]) (lowest_q zd zd hq) (.cons (vq 0 rfl) (.cons (vq 1 rfl) .nil))) (zv rfl rfl (r_call (xs:=[.tmp 21]) (answered_q zd) (.cons (vq 2 rfl) .nil)) (zv rfl rfl (r_ex0 (vq 3 rfl)) (zv rfl rfl (r_ex1 (vq 3 rfl)) (oc (ob_sto rfl rfl rfl (vq 4 rfl) ty_26 (Eq.trans (b:=4) rfl rfl)) (zv rfl rfl (r_assign (vq 5 rfl)) o0)))))))) (fun a w hst=>?_)
   have hst:St B w0 25 [(5,_)] [⟨2,24,ptrH,_⟩,⟨3,24,ptrH,_⟩,⟨4,26,ptrH,_⟩] a w:=hst
   refine thn_normal ?_
   refine wp_ret ?_
   refine ret_wk ?_ (ret_many (rs:=[.cell 4 26,.tmp 5]) rfl hst (.cell (zm 2 rfl) ty_26 (.tmp (zm 0 rfl) .nil)) zd)
   exact wk_id
theorem ofQ_c {p q:Int} (hp : -9223372036854775808≤p) (hp1:p<9223372036854775808) (hq0 : -9223372036854775808≤q) (hq1:q<9223372036854775808) (hq:q≠0):Cn Tryz.prog 201 [In p,In q] (FrR (rfOf (Rat.divInt p q),0)):=by
 refine Cn.intro Tryz.func201 rfl zk nq (fun B w0 a hst=>?_)
 have hst:St B w0 13 [(0,In p),(1,In q)] [] a w0.w:=hst
 refine wp_seq ?_
 refine gl (sts:=[]) (news:=[⟨4,26,ptrH,some 0,_,none⟩]) (sp:=[.alc 0,.val 5 _]) [.g 0,.g 1,.o 1] hst (oc (ob_alc rfl rfl rfl (Str.zero str_frac)) (zv rfl rfl (r_assign has_num) o0)) (fun a w hst=>?_)
 have hst:St B w0 13 [(0,_),(1,_),(5,_)] [⟨4,26,ptrH,_⟩] a w:=hst
 refine zt ?_
 refine gl (sts:=[some (7,_)]) (news:=[]) (sp:=[.val 6 _,.val 7 _,.val 8 _,.val 9 _,.val 10 _,.val 11 _,.val 12 _,.sto 0,.val 5 _]) [.o 8] hst (zv rfl rfl (r_move (gq 0 rfl)) (zv rfl rfl (r_call (xs:=[.tmp 6]) (of_z hp hp1) (.cons (vq 0 rfl) .nil)) (zv rfl rfl (r_move (gq 1 rfl)) (zv rfl rfl (r_call (xs:=[.tmp 8]) (of_z hq0 hq1) (.cons (vq 2 rfl) .nil)) (zv rfl rfl (r_call (xs:=[.tmp 7,.tmp 9]) (make_q hq) (.cons (vq 1 rfl) (.cons (vq 3 rfl) .nil))) (zv rfl rfl (r_ex0 (vq 4 rfl)) (zv rfl rfl (r_ex1 (vq 4 rfl)) (oc (ob_sto rfl rfl rfl (vq 5 rfl) ty_26 (Eq.trans (b:=4) rfl rfl)) (zv rfl rfl (r_assign (vq 6 rfl)) o0))))))))) (fun a w hst=>?_)
 have hst:St B w0 13 [(5,_)] [⟨4,26,ptrH,_⟩] a w:=hst
 refine thn_normal ?_
 refine wp_ret ?_
 refine ret_wk ?_ (ret_many (rs:=[.cell 4 26,.tmp 5]) rfl hst (.cell (zm 0 rfl) ty_26 (.tmp (zm 0 rfl) .nil)) zd)
 rw [← ansF_low hq (lz_i64 hp hp1) (lz_i64 hq0 hq1)]; exact wk_id
end Go.Proofs.YthncfchnkjemiaaGreatDoor
namespace Go.Proofs.YthncfchnkjemiaaGreatDoor
open Go Go.RowKit
structure RG where
 re:RF
 im:RF
 deriving DecidableEq
structure RM where
 a:RF
 b:RF
 c:RF
 d:RF
 deriving DecidableEq
structure RR where
 y:RF
 u:RF
 deriving DecidableEq
structure GQ where
 re:Rat
 im:Rat
 deriving DecidableEq
structure MQ where
 a:Rat
 b:Rat
 c:Rat
 d:Rat
 deriving DecidableEq
structure YQ where
 y:Rat
 u:Rat
 deriving DecidableEq
def RMA (x:RM):As:=cat [RFA x.a,RFA x.b,RFA x.c,RFA x.d]
def QMA (k:Nat) (x:MQ):As:=cat [QA k x.a,QA k x.b,QA k x.c,QA k x.d]
abbrev rm0:RM:=⟨rf0,rf0,rf0,rf0⟩
def rmOf (m:MQ):RM:=⟨rfOf m.a,rfOf m.b,rfOf m.c,rfOf m.d⟩
def toM (x:RM):MQ:=⟨toQ x.a,toQ x.b,toQ x.c,toQ x.d⟩
def detM (m:MQ):Rat:=m.a*m.d - m.b*m.c
theorem qa_x {k:Nat} {x:RF} (h:okX x=true) (hk:2048≤k):WkA (RFA x) (QA k (toQ x)):=by
 obtain ⟨h1,h2,h3⟩:=okX_q h
 exact (wkA_eq (congrArg RFA h1)).trans (qa_of (Nat.le_trans h2 hk) (Nat.le_trans h3 hk))
theorem qm_x {x:RM} (h:[x.a,x.b,x.c,x.d].all okX=true):WkA (RMA x) (QMA 2048 (toM x)):=by
 simp only [List.all_cons,List.all_nil,Bool.and_true,Bool.and_eq_true] at h
 exact cat_wk (.cons (qa_x h.1 (Nat.le_refl _)) (.cons (qa_x h.2.1 (Nat.le_refl _)) (.cons (qa_x h.2.2.1 (Nat.le_refl _)) (.cons (qa_x h.2.2.2 (Nat.le_refl _)) .nil))))
theorem qmA {k:Nat} {x:MQ}:WkA (QMA k x) (RMA (rmOf x)):=cat_wk (.cons qaA (.cons qaA (.cons qaA (.cons qaA .nil))))
def okM (m:RM):Bool:=[m.a,m.b,m.c,m.d].all okX && decide (detM (toM m)=1)
theorem cm_ne {x y:Rat}:(cmQ x y != 0) = !decide (x=y):=by
 unfold cmQ
 by_cases h:x<y
 ·rw [if_pos h]; simp [Rat.ne_of_lt h]
 ·rw [if_neg h]
  by_cases h2:y<x
  ·rw [if_pos h2]; simp [Rat.ne_of_gt h2]
  ·rw [if_neg h2]
   have:x=y:=Rat.le_antisymm (Rat.not_lt.1 h2) (Rat.not_lt.1 h)
   simp [this]
theorem cm_eq {x y:Rat}:(cmQ x y == 0)=decide (x=y):=by
 have:=cm_ne (x:=x) (y:=y)
 simp only [bne] at this
 cases h:cmQ x y == 0 <;> cases h2:decide (x=y) <;> simp_all
theorem str_matrix:Str Tryz.prog 28 [RFA rf0,RFA rf0,RFA rf0,RFA rf0] :=
 Str.of (z:=.agg #[.bool false,.slice none 0 0,.bool false,.slice none 0 0,.bool false,.slice none 0 0,.bool false,.slice none 0 0,.bool false,.slice none 0 0,.bool false,.slice none 0 0,.bool false,.slice none 0 0,.bool false,.slice none 0 0]) zk Tryz.underlying28 zk fun B w=>⟨[[.bool false,.slice none 0 0,.bool false,.slice none 0 0],[.bool false,.slice none 0 0,.bool false,.slice none 0 0],[.bool false,.slice none 0 0,.bool false,.slice none 0 0],[.bool false,.slice none 0 0,.bool false,.slice none 0 0]],rfl,(.cons (rf0_p B w) (.cons (rf0_p B w) (.cons (rf0_p B w) (.cons (rf0_p B w) .nil))))⟩
theorem rowDet_q {c:Nat} {m:MQ} (hk:c≤137438953472):Cn Tryz.prog 320 [(QMA c m).va] (Qs (c+c+(c+c)+1) (detM m)):=by
 refine Cn.intro Tryz.func320 rfl zk nq (fun B w0 a hst=>?_)
 have hst:St B w0 14 [(0,(QMA c m).va)] [] a w0.w:=hst
 refine wp_seq ?_
 refine gl (sts:=[]) (news:=[⟨1,28,ptrH,some 0,_,none⟩,⟨2,26,ptrH,some 1,_,none⟩]) (sp:=[.alc 0,.alc 1]) [] hst (oc (ob_box rfl rfl rfl (gq 0 rfl)) (oc (ob_alc rfl rfl rfl (Str.zero str_frac)) o0)) (fun a w hst=>?_)
 have hst:St B w0 14 [] [⟨1,28,ptrH,_⟩,⟨2,26,ptrH,_⟩] a w:=hst
 refine zt ?_
 refine go_draw (anc:=[[],[0],[],[2],[0,1,2,3],[],[5],[],[7],[0,1,2,3,4,5,6,7,8],[0,1,2,3,4,5,6,7,8,9],[0,1,2,3,4,5,6,7,8,9,10]]) (sts:=[none,some (11,_)]) (news:=[]) (sp:=[.adr 3 1 (.some 0) True,.val 4 _,.adr 5 1 (.some 12) True,.val 6 _,.val 7 _,.adr 8 1 (.some 4) True,.val 9 _,.adr 10 1 (.some 8) True,.val 11 _,.val 12 _,.val 13 _,.sto 1]) [] follows_mixed hst (oc (ob_a rfl rfl (a_fld (lz0 0 rfl) fld_28_0)) (zv rfl rfl (r_loadf 0 rfl zk trivial (lz0 0 rfl) (Sub.part 0 rfl rfl) ty_26) (oc (ob_a rfl rfl (a_fld (lz0 0 rfl) fld_28_3)) (zv rfl rfl (r_loadf 2 rfl zk trivial (lz0 0 rfl) (Sub.part 3 rfl rfl) ty_26) (zv rfl rfl (r_call (xs:=[.tmp 4,.tmp 6]) (times_q zo) (.cons (vq 1 rfl) (.cons (vq 3 rfl) .nil))) (oc (ob_a rfl rfl (a_fld (lz0 0 rfl) fld_28_1)) (zv rfl rfl (r_loadf 5 rfl zk trivial (lz0 0 rfl) (Sub.part 1 rfl rfl) ty_26) (oc (ob_a rfl rfl (a_fld (lz0 0 rfl) fld_28_2)) (zv rfl rfl (r_loadf 7 rfl zk trivial (lz0 0 rfl) (Sub.part 2 rfl rfl) ty_26) (zv rfl rfl (r_call (xs:=[.tmp 9,.tmp 11]) (times_q zo) (.cons (vq 6 rfl) (.cons (vq 8 rfl) .nil))) (zv rfl rfl (r_call (xs:=[.tmp 7,.tmp 12]) (minus_q zo) (.cons (vq 4 rfl) (.cons (vq 9 rfl) .nil))) (oc (ob_sto rfl rfl rfl (vq 10 rfl) ty_26 (Eq.trans (b:=4) rfl rfl)) o0)))))))))))) zk zk zk zk (fun a w hst=>?_)
 have hst:St B w0 14 [] [⟨1,28,ptrH,_⟩,⟨2,26,ptrH,_⟩] a w:=hst
 refine thn_normal ?_
 refine wp_ret ?_
 refine ret_wk ?_ (ret_cell rfl hst (zm 1 rfl) ty_26)
 exact wk_id
theorem rowDet_x {m:RM} (h:[m.a,m.b,m.c,m.d].all okX=true):Cn Tryz.prog 320 [(RMA m).va] (Qs 8193 (detM (toM m))):=(rowDet_q (c:=2048) zd).wk (.cons (qm_x h).va .nil)
theorem may_e {m:RM}:Bo ([m.a,m.b,m.c,m.d].all okX && (cmQ (detM (toM m)) 1 == 0))=Bo (okM m):=by rw [cm_eq]; rfl
theorem rowMay_c (m:RM):Cn Tryz.prog 239 [(RMA m).va] (Bo (okM m)):=by
 refine Cn.intro Tryz.func239 rfl zk nq (fun B w0 a hst=>?_)
 have hst:St B w0 20 [(0,(RMA m).va)] [] a w0.w:=hst
 refine wp_seq ?_
 refine gl (sts:=[]) (news:=[⟨1,28,ptrH,some 0,_,none⟩]) (sp:=[.alc 0,.val 2 _]) [.o 1] hst (oc (ob_box rfl rfl rfl (gq 0 rfl)) (zv rfl rfl (r_assign has_bo) o0)) (fun a w hst=>?_)
 have hst:St B w0 20 [(2,_)] [⟨1,28,ptrH,_⟩] a w:=hst
 refine zt ?_
 refine gl (sts:=[none]) (news:=[]) (sp:=[.adr 3 1 (.some 0) True,.val 4 _,.adr 5 1 (.some 4) True,.val 6 _,.adr 7 1 (.some 8) True,.val 8 _,.adr 9 1 (.some 12) True,.val 10 _,.val 11 _,.val 12 _,.val 13 _,.val 14 (Wh (_=true) _),.val 15 (Wh (_=true) _),.val 16 (Wh (_=true) _),.val 17 (Wh (_=true) _),.val 18 (Wh (_=true) _),.val 19 _,.val 2 _]) [.o 17] hst (oc (ob_a rfl rfl (a_fld (lz0 0 rfl) fld_28_0)) (zv rfl rfl (r_loadf 0 rfl zk trivial (lz0 0 rfl) (Sub.part 0 rfl rfl) ty_26) (oc (ob_a rfl rfl (a_fld (lz0 0 rfl) fld_28_1)) (zv rfl rfl (r_loadf 2 rfl zk trivial (lz0 0 rfl) (Sub.part 1 rfl rfl) ty_26) (oc (ob_a rfl rfl (a_fld (lz0 0 rfl) fld_28_2)) (zv rfl rfl (r_loadf 4 rfl zk trivial (lz0 0 rfl) (Sub.part 2 rfl rfl) ty_26) (oc (ob_a rfl rfl (a_fld (lz0 0 rfl) fld_28_3)) (zv rfl rfl (r_loadf 6 rfl zk trivial (lz0 0 rfl) (Sub.part 3 rfl rfl) ty_26) (zv rfl rfl (r_slice (D:=[U32]) (l:=[_,_,_,_]) (xs:=[.tmp 4,.tmp 6,.tmp 8,.tmp 10]) (nd_ok zk) sl_142 zk (n_ok zk) nq nq nq (.cons (vq 1 rfl) (.cons (vq 3 rfl) (.cons (vq 5 rfl) (.cons (vq 7 rfl) .nil)))) rfl rfl) (zv rfl rfl (r_call (xs:=[.tmp 11]) (checks_c [m.a,m.b,m.c,m.d] nq) (.cons (vq 8 rfl) .nil)) (zv rfl rfl (r_move (vq 9 rfl)) (oc (ob_gd rfl rfl rfl (vq 10 rfl) nq (fun hg=>r_load (lz0 0 rfl) ty_28)) (oc (ob_gd rfl rfl rfl (vq 10 rfl) nq (fun hg=>r_call (xs:=[.tmp 14]) (rowDet_x hg) (.cons (has_wh (vq 11 rfl) hg) .nil))) (oc (ob_gd rfl rfl rfl (vq 10 rfl) nq (fun hg=>r_call (xs:=[]) one_q .nil)) (oc (ob_gd rfl rfl rfl (vq 10 rfl) nq (fun hg=>r_call (xs:=[.tmp 15,.tmp 16]) (cmp_q zo) (.cons (has_wh (vq 12 rfl) hg) (.cons (has_wh (vq 13 rfl) hg) .nil)))) (oc (ob_gd rfl rfl rfl (vq 10 rfl) nq (fun hg=>r_eql (has_wh (vq 14 rfl) hg) has_num)) (zv rfl rfl (r_and (vq 10 rfl) (vq 15 rfl)) (zv rfl rfl (r_assign (vq 16 rfl)) o0)))))))))))))))))) (fun a w hst=>?_)
 have hst:St B w0 20 [(2,_)] [⟨1,28,ptrH,_⟩] a w:=hst
 refine thn_normal ?_
 refine wp_ret ?_
 refine ret_wk ?_ (ret_tmp rfl hst (zm 0 rfl))
 exact wk_eq may_e
end Go.Proofs.YthncfchnkjemiaaGreatDoor
namespace Go.Proofs.YthncfchnkjemiaaGreatDoor
open Go Go.RowKit
theorem okM_q {m:RM} (h:okM m=true):[m.a,m.b,m.c,m.d].all okX=true∧detM (toM m)=1:=by
 unfold okM at h
 rw [Bool.and_eq_true,decide_eq_true_eq] at h
 exact h
theorem tu3w {a b c d e f:VA} (h:Wk a d) (h':Wk b e) (h'':Wk c f):Wk (Tu [a,b,c]) (Tu [d,e,f]):=tu_wk (.cons h (.cons h' (.cons h'' .nil)))
end Go.Proofs.YthncfchnkjemiaaGreatDoor
namespace Go.Proofs.YthncfchnkjemiaaGreatDoor
open Go Go.RowKit
def intSizeF (x:RI):Int:=IntKind.i64.wrap (1+(x.mag.length:Int))
def fracSizeF (x:RF):Int:=IntKind.i64.wrap (intSizeF x.num+intSizeF x.den)
def lowCostF (x y:RI):Int:=IntKind.i64.wrap (IntKind.i64.wrap ((IntKind.i64.wrap (min (x.mag.length:Int) 1048576*min (y.mag.length:Int) 1048576)).tdiv 16)*1024)
def fracCostF (x:RF):Int:=IntKind.i64.wrap (fracSizeF x+lowCostF x.num x.den)
def bydF (n:Int):List Int→Bool
 | []=>false
 | x::xs=>if decide (IntKind.i64.wrap (n+x)>1048576) then true else bydF (IntKind.i64.wrap (n+x)) xs
theorem byd_yes {n:Int} {l:List Int} {j:Nat} (h:j<l.length) (h2:decide (IntKind.i64.wrap (n+l[j])>1048576)=true):true=bydF n (l.drop j):=by
 rw [List.drop_eq_getElem_cons h,bydF,h2]; rfl
theorem byd_no {n:Int} {l:List Int} {j:Nat} (h:j<l.length) (h2:decide (IntKind.i64.wrap (n+l[j])>1048576)=false):bydF n (l.drop j)=bydF (IntKind.i64.wrap (n+l[j])) (l.drop (j+1)):=by
 rw [List.drop_eq_getElem_cons h,bydF,h2]; rfl
theorem wi_nx {j m:Nat} (h:j<m) (hm:m≤9223372036854775807):IntKind.i64.wrap ((j:Int)+1)=((j+1:Nat):Int):=by rw [wi64 zo zo]; rfl
theorem slA_len {E:TypeId} {D:List TypeId} {l:List As} {B:Nat} {v:Value} {w:World} (h:(SlA E D l).va.p B v w):l.length≤9223372036854775807:=by
 obtain ⟨cs,⟨_,A,c,ds,_,h1,h2,_⟩,_⟩:=h
 unfold maxLen at h2
 omega
theorem slA_lenm {E:TypeId} {D:List TypeId} {α:Type} {f:α→As} {l:List α} {B:Nat} {v:Value} {w:World} (h:(SlA E D (l.map f)).va.p B v w):l.length≤9223372036854775807:=by
 have:=slA_len h
 rwa [List.length_map] at this
theorem intSize_c (x:RI):Cn Tryz.prog 287 [(RIA x).va] (In (intSizeF x)):=by
 refine Cn.intro Tryz.func287 rfl zk nq (fun B w0 a hst=>?_)
 have hst:St B w0 7 [(0,(RIA x).va)] [] a w0.w:=hst
 refine wp_seq ?_
 refine gl (sts:=[]) (news:=[⟨1,24,ptrH,some 0,_,none⟩]) (sp:=[.alc 0,.val 2 _]) [.o 1] hst (oc (ob_box rfl rfl rfl (gq 0 rfl)) (zv rfl rfl (r_assign has_num) o0)) (fun a w hst=>?_)
 have hst:St B w0 7 [(2,_)] [⟨1,24,ptrH,_⟩] a w:=hst
 refine zt ?_
 refine gl (sts:=[none]) (news:=[]) (sp:=[.adr 3 1 (.some 1) True,.val 4 _,.val 5 _,.val 6 _,.val 2 _]) [.o 4] hst (oc (ob_a rfl rfl (a_fld (lz0 0 rfl) fld_24_1)) (zv rfl rfl (r_loadf 0 rfl zk trivial (lz0 0 rfl) (Sub.part 1 rfl rfl) ty_22) (zv rfl rfl (r_lenm Tryz.underlying22 (vq 1 rfl)) (zv rfl rfl (r_add has_num (vq 2 rfl) (rfl)) (zv rfl rfl (r_assign (vq 3 rfl)) o0))))) (fun a w hst=>?_)
 have hst:St B w0 7 [(2,_)] [⟨1,24,ptrH,_⟩] a w:=hst
 refine thn_normal ?_
 refine wp_ret ?_
 refine ret_wk ?_ (ret_tmp rfl hst (zm 0 rfl))
 exact wk_id
theorem fracSize_c (x:RF):Cn Tryz.prog 155 [(RFA x).va] (In (fracSizeF x)):=by
 refine Cn.intro Tryz.func155 rfl zk nq (fun B w0 a hst=>?_)
 have hst:St B w0 10 [(0,(RFA x).va)] [] a w0.w:=hst
 refine wp_seq ?_
 refine gl (sts:=[]) (news:=[⟨1,26,ptrH,some 0,_,none⟩]) (sp:=[.alc 0,.val 2 _]) [.o 1] hst (oc (ob_box rfl rfl rfl (gq 0 rfl)) (zv rfl rfl (r_assign has_num) o0)) (fun a w hst=>?_)
 have hst:St B w0 10 [(2,_)] [⟨1,26,ptrH,_⟩] a w:=hst
 refine zt ?_
 refine go_draw (anc:=[[],[0],[0,1],[],[3],[0,1,2,3,4],[0,1,2,3,4,5],[0,1,2,3,4,5,6]]) (sts:=[none]) (news:=[]) (sp:=[.adr 3 1 (.some 0) True,.val 4 _,.val 5 _,.adr 6 1 (.some 2) True,.val 7 _,.val 8 _,.val 9 _,.val 2 _]) [.o 7] follows_mixed hst (oc (ob_a rfl rfl (a_fld (lz0 0 rfl) fld_26_0)) (zv rfl rfl (r_loadf 0 rfl zk trivial (lz0 0 rfl) (Sub.part 0 rfl rfl) ty_24) (zv rfl rfl (r_call (xs:=[.tmp 4]) (intSize_c _) (.cons (vq 1 rfl) .nil)) (oc (ob_a rfl rfl (a_fld (lz0 0 rfl) fld_26_1)) (zv rfl rfl (r_loadf 3 rfl zk trivial (lz0 0 rfl) (Sub.part 1 rfl rfl) ty_24) (zv rfl rfl (r_call (xs:=[.tmp 7]) (intSize_c _) (.cons (vq 4 rfl) .nil)) (zv rfl rfl (r_add (vq 2 rfl) (vq 5 rfl) (rfl)) (zv rfl rfl (r_assign (vq 6 rfl)) o0)))))))) zk zk zk zk (fun a w hst=>?_)
 have hst:St B w0 10 [(2,_)] [⟨1,26,ptrH,_⟩] a w:=hst
 refine thn_normal ?_
 refine wp_ret ?_
 refine ret_wk ?_ (ret_tmp rfl hst (zm 0 rfl))
 exact wk_id
theorem lowCost_c (x y:RI):Cn Tryz.prog 156 [(RIA x).va,(RIA y).va] (In (lowCostF x y)):=by
 refine Cn.intro Tryz.func156 rfl zk nq (fun B w0 a hst=>?_)
 have hst:St B w0 16 [(0,(RIA x).va),(1,(RIA y).va)] [] a w0.w:=hst
 refine wp_seq ?_
 refine gl (sts:=[]) (news:=[⟨2,24,ptrH,some 0,_,none⟩,⟨3,24,ptrH,some 1,_,none⟩]) (sp:=[.alc 0,.alc 1,.val 4 _]) [.o 2] hst (oc (ob_box rfl rfl rfl (gq 0 rfl)) (oc (ob_box rfl rfl rfl (gq 1 rfl)) (zv rfl rfl (r_assign has_num) o0))) (fun a w hst=>?_)
 have hst:St B w0 16 [(4,_)] [⟨2,24,ptrH,_⟩,⟨3,24,ptrH,_⟩] a w:=hst
 refine zt ?_
 refine gl (sts:=[none,none]) (news:=[]) (sp:=[.adr 5 2 (.some 1) True,.val 6 _,.val 7 _,.val 8 _,.adr 9 3 (.some 1) True,.val 10 _,.val 11 _,.val 12 _,.val 13 _,.val 14 _,.val 15 _,.val 4 _]) [.o 11] hst (oc (ob_a rfl rfl (a_fld (lz0 0 rfl) fld_24_1)) (zv rfl rfl (r_loadf 0 rfl zk trivial (lz0 0 rfl) (Sub.part 1 rfl rfl) ty_22) (zv rfl rfl (r_lenm Tryz.underlying22 (vq 1 rfl)) (zv rfl rfl (r_min (vq 2 rfl) has_num) (oc (ob_a rfl rfl (a_fld (lz0 1 rfl) fld_24_1)) (zv rfl rfl (r_loadf 4 rfl zk trivial (lz0 1 rfl) (Sub.part 1 rfl rfl) ty_22) (zv rfl rfl (r_lenm Tryz.underlying22 (vq 5 rfl)) (zv rfl rfl (r_min (vq 6 rfl) has_num) (zv rfl rfl (r_mul (vq 3 rfl) (vq 7 rfl) (rfl)) (zv rfl rfl (r_quo (vq 8 rfl) has_num zd (rfl)) (zv rfl rfl (r_mul (vq 9 rfl) has_num (rfl)) (zv rfl rfl (r_assign (vq 10 rfl)) o0)))))))))))) (fun a w hst=>?_)
 have hst:St B w0 16 [(4,_)] [⟨2,24,ptrH,_⟩,⟨3,24,ptrH,_⟩] a w:=hst
 refine thn_normal ?_
 refine wp_ret ?_
 refine ret_wk ?_ (ret_tmp rfl hst (zm 0 rfl))
 exact wk_id
theorem fracCost_c (x:RF):Cn Tryz.prog 29 [(RFA x).va] (In (fracCostF x)):=by
 refine Cn.intro Tryz.func29 rfl zk nq (fun B w0 a hst=>?_)
 have hst:St B w0 11 [(0,(RFA x).va)] [] a w0.w:=hst
 refine wp_seq ?_
 refine gl (sts:=[]) (news:=[⟨1,26,ptrH,some 0,_,none⟩]) (sp:=[.alc 0,.val 2 _]) [.o 1] hst (oc (ob_box rfl rfl rfl (gq 0 rfl)) (zv rfl rfl (r_assign has_num) o0)) (fun a w hst=>?_)
 have hst:St B w0 11 [(2,_)] [⟨1,26,ptrH,_⟩] a w:=hst
 refine zt ?_
 refine go_draw (anc:=[[],[0],[],[2],[],[4],[0,1,2,3,4,5],[0,1,2,3,4,5,6],[0,1,2,3,4,5,6,7]]) (sts:=[none]) (news:=[]) (sp:=[.val 3 _,.val 4 _,.adr 5 1 (.some 0) True,.val 6 _,.adr 7 1 (.some 2) True,.val 8 _,.val 9 _,.val 10 _,.val 2 _]) [.o 8] follows_mixed hst (zv rfl rfl (r_load (lz0 0 rfl) ty_26) (zv rfl rfl (r_call (xs:=[.tmp 3]) (fracSize_c _) (.cons (vq 0 rfl) .nil)) (oc (ob_a rfl rfl (a_fld (lz0 0 rfl) fld_26_0)) (zv rfl rfl (r_loadf 2 rfl zk trivial (lz0 0 rfl) (Sub.part 0 rfl rfl) ty_24) (oc (ob_a rfl rfl (a_fld (lz0 0 rfl) fld_26_1)) (zv rfl rfl (r_loadf 4 rfl zk trivial (lz0 0 rfl) (Sub.part 1 rfl rfl) ty_24) (zv rfl rfl (r_call (xs:=[.tmp 6,.tmp 8]) (lowCost_c _ _) (.cons (vq 3 rfl) (.cons (vq 5 rfl) .nil))) (zv rfl rfl (r_add (vq 1 rfl) (vq 6 rfl) (rfl)) (zv rfl rfl (r_assign (vq 7 rfl)) o0))))))))) zk zk zk zk (fun a w hst=>?_)
 have hst:St B w0 11 [(2,_)] [⟨1,26,ptrH,_⟩] a w:=hst
 refine thn_normal ?_
 refine wp_ret ?_
 refine ret_wk ?_ (ret_tmp rfl hst (zm 0 rfl))
 exact wk_id
theorem beyond_c (l:List Int):Cn Tryz.prog 27 [(SlA 3 [] (l.map (NumA .i64))).va] (Bo (bydF 0 l)):=by
 refine Cn.intro Tryz.func27 rfl zk nq (fun B w0 a hst=>?_)
 have hst:St B w0 19 [(0,(SlA 3 [] (l.map (NumA .i64))).va)] [] a w0.w:=hst
 have hl:=slA_lenm (hst.vals (0,(SlA 3 [] (l.map (NumA .i64))).va) (zm 0 rfl))
 refine wp_seq ?_
 refine gl (sts:=[]) (news:=[]) (sp:=[.val 2 _]) [.g 0,.o 0] hst (zv rfl rfl (r_assign has_bo) o0) (fun a w hst=>?_)
 have hst:St B w0 19 [(0,_),(2,_)] [] a w:=hst
 refine zt ?_
 refine gl (sts:=[]) (news:=[]) (sp:=[.val 3 _]) [.g 0,.g 1,.o 0] hst (zv rfl rfl (r_assign has_num) o0) (fun a w hst=>?_)
 have hst:St B w0 19 [(0,_),(2,_),(3,_)] [] a w:=hst
 refine zt ?_
 refine wp_seq ?_
 refine gl (sts:=[]) (news:=[]) (sp:=[.val 4 _]) [.g 0,.g 1,.g 2,.o 0] hst (zv rfl rfl (r_assign has_num) o0) (fun a w hst=>?_)
 have hst:St B w0 19 [(0,_),(2,_),(3,_),(4,_)] [] a w:=hst
 refine thn_normal ?_
 refine wp_block ?_
 have hst:=St.sel hst [0,2,3]
 refine wp_loop_ghost (fun n a w=>∃ (j:Nat) (m:Int),(n+j=l.length∧bydF 0 l=bydF m (l.drop j))∧St B w0 19 [(0,(SlA 3 [] (l.map (NumA .i64))).va),(3,In m),(4,In (j:Nat))] [] a w) (l.length) ?_ ?_
 ·exact ⟨0,0,⟨by omega,rfl⟩,hst⟩
 intro n a w hI
 obtain ⟨j,m,⟨hn,hm⟩,hst⟩:=hI
 refine wp_seq ?_
 refine wp_seq ?_
 refine gl (sts:=[]) (news:=[]) (sp:=[.val 5 _,.val 6 _,.val 7 _,.val 8 _]) [.g 0,.g 1,.g 2,.o 3] hst (zv rfl rfl (r_move (gq 2 rfl)) (zv rfl rfl (r_move (gq 0 rfl)) (zv rfl rfl (r_len Tryz.underlying114 (vq 1 rfl)) (zv rfl rfl (r_lss (vq 0 rfl) (vq 2 rfl)) o0)))) (fun a w hst=>?_)
 have hst:St B w0 19 [(0,_),(3,_),(4,_),(8,_)] [] a w:=hst
 refine thn_normal ?_
 refine cond_of hst (zm 3 rfl) (fun hb0=>?_) (fun hb0=>?_)
 ·have hj:j<l.length:=by rw [List.length_map] at hb0; simp at hb0; omega
  refine wp_skip ?_
  refine zt ?_
  refine wp_block ?_
  refine wp_seq ?_
  refine gl (sts:=[]) (news:=[]) (sp:=[.val 11 _,.val 12 _,.val 13 _,.val 14 _,.val 15 _,.val 16 _,.val 3 _]) [.g 0,.g 2,.o 6] hst (zv rfl rfl (r_move (gq 1 rfl)) (zv rfl rfl (r_move (gq 0 rfl)) (zv rfl rfl (r_move (gq 2 rfl)) (zv rfl rfl (r_idx sl_114 (map_n fun _=>rfl) (vq 1 rfl) (vq 2 rfl) (map_at hj)) (zv rfl rfl (r_loade (vq 3 rfl) ty_3) (zv rfl rfl (r_add (vq 0 rfl) (vq 4 rfl) (rfl)) (zv rfl rfl (r_assign (vq 5 rfl)) o0))))))) (fun a w hst=>?_)
  have hst:St B w0 19 [(0,_),(4,_),(3,_)] [] a w:=hst
  refine zt ?_
  refine gl (sts:=[]) (news:=[]) (sp:=[.val 17 _,.val 18 _]) [.g 0,.g 1,.g 2,.o 1] hst (zv rfl rfl (r_move (gq 2 rfl)) (zv rfl rfl (r_gtr (vq 0 rfl) has_num) o0)) (fun a w hst=>?_)
  have hst:St B w0 19 [(0,_),(4,_),(3,_),(18,_)] [] a w:=hst
  refine thn_normal ?_
  refine cond_of hst (zm 3 rfl) (fun hb1=>?_) (fun hb1=>?_)
  ·refine wp_seq ?_
   refine gl (sts:=[]) (news:=[]) (sp:=[.val 2 _]) [.g 0,.g 1,.g 2,.o 0] hst (zv rfl rfl (r_assign has_bo) o0) (fun a w hst=>?_)
   have hst:St B w0 19 [(0,_),(4,_),(3,_),(2,_)] [] a w:=hst
   refine thn_normal ?_
   refine wp_ret ?_
   refine blk_ret ?_
   refine thn_ret ?_
   refine thn_ret ?_
   refine blk_ret ?_
   refine thn_ret ?_
   refine ret_wk ?_ (ret_tmp rfl hst (zm 3 rfl))
   exact wk_eq (congrArg Bo ((byd_yes hj hb1).trans hm.symm))
  ·refine wp_skip ?_
   refine blk_normal ?_
   refine thn_normal ?_
   refine gl (sts:=[]) (news:=[]) (sp:=[.val 9 _,.val 10 _,.val 4 _]) [.g 0,.g 2,.o 2] hst (zv rfl rfl (r_move (gq 1 rfl)) (zv rfl rfl (r_add (vq 0 rfl) has_num (wi_nx hj hl)) (zv rfl rfl (r_assign (vq 1 rfl)) o0))) (fun a w hst=>?_)
   have hst:St B w0 19 [(0,_),(3,_),(4,_)] [] a w:=hst
   refine thn_normal ?_
   have hst:=St.sel hst [0,1,2]
   exact ⟨n - 1,by omega,j+1,_,⟨by omega,hm.trans (byd_no hj hb1)⟩,hst⟩
 ·obtain rfl:j=l.length:=by rw [List.length_map] at hb0; simp at hb0; omega
  refine wp_exit ?_
  refine thn_exit ?_
  refine thn_exit ?_
  refine blk_exit ?_
  refine zt ?_
  refine gl (sts:=[]) (news:=[]) (sp:=[.val 2 _]) [.o 0] hst (zv rfl rfl (r_assign has_bo) o0) (fun a w hst=>?_)
  have hst:St B w0 19 [(2,_)] [] a w:=hst
  refine thn_normal ?_
  refine wp_ret ?_
  refine ret_wk ?_ (ret_tmp rfl hst (zm 0 rfl))
  exact wk_eq (congrArg Bo (by rw [hm,List.drop_of_length_le (Nat.le_refl _)]; rfl))
theorem same_yes {a b:RI} (hn:a.neg=b.neg) (h:a.mag=b.mag):true=decide (a=b):=by
 cases a; cases b; simp_all
theorem same_no1 {a b:RI} (h:((a.neg != b.neg) || (((a.mag.length:Nat):Int) != ((b.mag.length:Nat):Int)))=true):false=decide (a=b):=by
 symm
 apply decide_eq_false
 rintro rfl
 simp at h
theorem same_two {a b:RI} (h:((a.neg != b.neg) || (((a.mag.length:Nat):Int) != ((b.mag.length:Nat):Int)))=false):a.neg=b.neg∧a.mag.length=b.mag.length:=by
 simp only [Bool.or_eq_false_iff,bne_eq_false_iff_eq] at h
 exact ⟨h.1,by omega⟩
theorem same_no2 {a b:RI} {j:Nat} (h1:j<a.mag.length) (h2:j<b.mag.length) (h:(((a.mag[j]:Nat):Int) != ((b.mag[j]:Nat):Int))=true):false=decide (a=b):=by
 symm
 apply decide_eq_false
 rintro rfl
 simp at h
theorem take_eq {l m:List Nat} {j:Nat} (h1:j<l.length) (h2:j<m.length) (h:l.take j=m.take j) (h3:(((l[j]:Nat):Int) != ((m[j]:Nat):Int))=false):l.take (j+1)=m.take (j+1):=by
 rw [List.take_succ_eq_append_getElem h1,List.take_succ_eq_append_getElem h2,h]
 simp only [bne_eq_false_iff_eq] at h3
 rw [show l[j]=m[j] by omega]
theorem rf_eq {a b:RF}:(decide (a.num=b.num) && decide (a.den=b.den))=decide (a=b):=by
 cases a; cases b; rw [Bool.eq_iff_iff]; simp
theorem rm_eq {a b:RM}:(((decide (a.a=b.a) && decide (a.b=b.b)) && decide (a.c=b.c)) && decide (a.d=b.d))=decide (a=b):=by
 cases a; cases b; rw [Bool.eq_iff_iff]; simp [and_assoc]
theorem sameInt_c (x y:RI):Cn Tryz.prog 105 [(RIA x).va,(RIA y).va] (Bo (decide (x=y))):=by
 refine Cn.intro Tryz.func105 rfl zk nq (fun B w0 a hst=>?_)
 have hst:St B w0 38 [(0,(RIA x).va),(1,(RIA y).va)] [] a w0.w:=hst
 have hxk:=ri_know (hst.vals (0,(RIA x).va) (zm 0 rfl))
 refine wp_seq ?_
 refine gl (sts:=[]) (news:=[⟨2,24,ptrH,some 0,_,none⟩,⟨3,24,ptrH,some 1,_,none⟩]) (sp:=[.alc 0,.alc 1,.val 4 _]) [.o 2] hst (oc (ob_box rfl rfl rfl (gq 0 rfl)) (oc (ob_box rfl rfl rfl (gq 1 rfl)) (zv rfl rfl (r_assign has_bo) o0))) (fun a w hst=>?_)
 have hst:St B w0 38 [(4,_)] [⟨2,24,ptrH,_⟩,⟨3,24,ptrH,_⟩] a w:=hst
 refine zt ?_
 refine wp_seq ?_
 refine gl (sts:=[none,none]) (news:=[]) (sp:=[.adr 6 2 (.some 0) True,.val 7 _,.adr 8 3 (.some 0) True,.val 9 _,.val 10 _,.val 11 _,.adr 12 2 (.some 1) (_=false),.val 13 (Wh (_=false) _),.val 14 (Wh (_=false) _),.adr 15 3 (.some 1) (_=false),.val 16 (Wh (_=false) _),.val 17 (Wh (_=false) _),.val 18 (Wh (_=false) _),.val 19 _]) [.g 0,.o 13] hst (oc (ob_a rfl rfl (a_fld (lz0 0 rfl) fld_24_0)) (zv rfl rfl (r_loadf 0 rfl zk trivial (lz0 0 rfl) (Sub.part 0 rfl rfl) ty_4) (oc (ob_a rfl rfl (a_fld (lz0 1 rfl) fld_24_0)) (zv rfl rfl (r_loadf 2 rfl zk trivial (lz0 1 rfl) (Sub.part 0 rfl rfl) ty_4) (zv rfl rfl (r_neqb zk (vq 1 rfl) (vq 3 rfl)) (zv rfl rfl (r_move (vq 4 rfl)) (oc (ob_ag rfl rfl rfl (vq 5 rfl) nq (fun hg=>a_fld (lz0 0 rfl) fld_24_1)) (oc (ob_gd rfl rfl rfl (vq 5 rfl) nq (fun hg=>r_loadf 6 rfl zk hg (lz0 0 rfl) (Sub.part 1 rfl rfl) ty_22)) (oc (ob_gd rfl rfl rfl (vq 5 rfl) nq (fun hg=>r_lenm Tryz.underlying22 (has_wh (vq 7 rfl) hg))) (oc (ob_ag rfl rfl rfl (vq 5 rfl) nq (fun hg=>a_fld (lz0 1 rfl) fld_24_1)) (oc (ob_gd rfl rfl rfl (vq 5 rfl) nq (fun hg=>r_loadf 9 rfl zk hg (lz0 1 rfl) (Sub.part 1 rfl rfl) ty_22)) (oc (ob_gd rfl rfl rfl (vq 5 rfl) nq (fun hg=>r_lenm Tryz.underlying22 (has_wh (vq 10 rfl) hg))) (oc (ob_gd rfl rfl rfl (vq 5 rfl) nq (fun hg=>r_neq (has_wh (vq 8 rfl) hg) (has_wh (vq 11 rfl) hg))) (zv rfl rfl (r_or (vq 5 rfl) (vq 12 rfl)) o0)))))))))))))) (fun a w hst=>?_)
 have hst:St B w0 38 [(4,_),(19,_)] [⟨2,24,ptrH,_⟩,⟨3,24,ptrH,_⟩] a w:=hst
 refine thn_normal ?_
 refine cond_of hst (zm 1 rfl) (fun hb0=>?_) (fun hb0=>?_)
 ·refine wp_seq ?_
  refine gl (sts:=[none,none]) (news:=[]) (sp:=[.val 4 _]) [.o 0] hst (zv rfl rfl (r_assign has_bo) o0) (fun a w hst=>?_)
  have hst:St B w0 38 [(4,_)] [⟨2,24,ptrH,_⟩,⟨3,24,ptrH,_⟩] a w:=hst
  refine thn_normal ?_
  refine wp_ret ?_
  refine thn_ret ?_
  refine ret_wk ?_ (ret_tmp rfl hst (zm 0 rfl))
  exact wk_eq (congrArg Bo (same_no1 hb0))
 ·obtain ⟨hn1,hl⟩:=same_two hb0
  refine wp_skip ?_
  refine zt ?_
  refine wp_seq ?_
  refine gl (sts:=[none,none]) (news:=[]) (sp:=[.val 5 _]) [.g 0,.o 0] hst (zv rfl rfl (r_assign has_num) o0) (fun a w hst=>?_)
  have hst:St B w0 38 [(4,_),(5,_)] [⟨2,24,ptrH,_⟩,⟨3,24,ptrH,_⟩] a w:=hst
  refine thn_normal ?_
  refine wp_block ?_
  have hst:=St.sel hst [1]
  refine wp_loop_ghost (fun n a w=>∃ j:Nat,(n+j=x.mag.length∧x.mag.take j=y.mag.take j)∧St B w0 38 [(5,In (j:Nat))] [⟨2,24,ptrH,RIA x⟩,⟨3,24,ptrH,RIA y⟩] a w) (x.mag.length) ?_ ?_
  ·exact ⟨0,⟨by omega,rfl⟩,hst⟩
  intro n a w hI
  obtain ⟨j,⟨hn,ht⟩,hst⟩:=hI
  refine wp_seq ?_
  refine wp_seq ?_
  refine gl (sts:=[none,none]) (news:=[]) (sp:=[.val 20 _,.adr 21 2 (.some 1) True,.val 22 _,.val 23 _,.val 24 _]) [.g 0,.o 4] hst (zv rfl rfl (r_move (gq 0 rfl)) (oc (ob_a rfl rfl (a_fld (lz0 0 rfl) fld_24_1)) (zv rfl rfl (r_loadf 1 rfl zk trivial (lz0 0 rfl) (Sub.part 1 rfl rfl) ty_22) (zv rfl rfl (r_lenm Tryz.underlying22 (vq 2 rfl)) (zv rfl rfl (r_lss (vq 0 rfl) (vq 3 rfl)) o0))))) (fun a w hst=>?_)
  have hst:St B w0 38 [(5,_),(24,_)] [⟨2,24,ptrH,_⟩,⟨3,24,ptrH,_⟩] a w:=hst
  refine thn_normal ?_
  refine cond_of hst (zm 1 rfl) (fun hb1=>?_) (fun hb1=>?_)
  ·have hj:j<x.mag.length:=by simp at hb1; omega
   refine wp_skip ?_
   refine zt ?_
   refine wp_block ?_
   refine wp_seq ?_
   refine go_draw (anc:=[[],[0],[],[0,1,2],[0,1,2,3],[],[5],[],[5,6,7],[5,6,7,8],[0,1,2,3,4,5,6,7,8,9]]) (sts:=[none,none]) (news:=[]) (sp:=[.adr 27 2 (.some 1) True,.val 28 _,.val 29 _,.val 30 _,.val 31 _,.adr 32 3 (.some 1) True,.val 33 _,.val 34 _,.val 35 _,.val 36 _,.val 37 _]) [.g 0,.o 10] follows_mixed hst (oc (ob_a rfl rfl (a_fld (lz0 0 rfl) fld_24_1)) (zv rfl rfl (r_loadf 0 rfl zk trivial (lz0 0 rfl) (Sub.part 1 rfl rfl) ty_22) (zv rfl rfl (r_move (gq 0 rfl)) (zv rfl rfl (r_idxm sl_22 (vq 1 rfl) (vq 2 rfl) zo) (zv rfl rfl (r_loade (vq 3 rfl) ty_168) (oc (ob_a rfl rfl (a_fld (lz0 1 rfl) fld_24_1)) (zv rfl rfl (r_loadf 5 rfl zk trivial (lz0 1 rfl) (Sub.part 1 rfl rfl) ty_22) (zv rfl rfl (r_move (gq 0 rfl)) (zv rfl rfl (r_idxm sl_22 (vq 6 rfl) (vq 7 rfl) zo) (zv rfl rfl (r_loade (vq 8 rfl) ty_168) (zv rfl rfl (r_neq (vq 4 rfl) (vq 9 rfl)) o0))))))))))) zk zk zk zk (fun a w hst=>?_)
   have hst:St B w0 38 [(5,_),(37,_)] [⟨2,24,ptrH,_⟩,⟨3,24,ptrH,_⟩] a w:=hst
   refine thn_normal ?_
   refine cond_of hst (zm 1 rfl) (fun hb2=>?_) (fun hb2=>?_)
   ·refine wp_seq ?_
    refine gl (sts:=[none,none]) (news:=[]) (sp:=[.val 4 _]) [.g 0,.o 0] hst (zv rfl rfl (r_assign has_bo) o0) (fun a w hst=>?_)
    have hst:St B w0 38 [(5,_),(4,_)] [⟨2,24,ptrH,_⟩,⟨3,24,ptrH,_⟩] a w:=hst
    refine thn_normal ?_
    refine wp_ret ?_
    refine blk_ret ?_
    refine thn_ret ?_
    refine thn_ret ?_
    refine blk_ret ?_
    refine thn_ret ?_
    refine ret_wk ?_ (ret_tmp rfl hst (zm 1 rfl))
    exact wk_eq (congrArg Bo (same_no2 hj zo hb2))
   ·refine wp_skip ?_
    refine blk_normal ?_
    refine thn_normal ?_
    refine gl (sts:=[none,none]) (news:=[]) (sp:=[.val 25 _,.val 26 _,.val 5 _]) [.o 2] hst (zv rfl rfl (r_move (gq 0 rfl)) (zv rfl rfl (r_add (vq 0 rfl) has_num (wi_nx hj hxk.2)) (zv rfl rfl (r_assign (vq 1 rfl)) o0))) (fun a w hst=>?_)
    have hst:St B w0 38 [(5,_)] [⟨2,24,ptrH,_⟩,⟨3,24,ptrH,_⟩] a w:=hst
    refine thn_normal ?_
    have hst:=St.sel hst [0]
    exact ⟨n - 1,by omega,j+1,⟨by omega,take_eq hj zo ht hb2⟩,hst⟩
  ·obtain rfl:j=x.mag.length:=by simp at hb1; omega
   refine wp_exit ?_
   refine thn_exit ?_
   refine thn_exit ?_
   refine blk_exit ?_
   refine zt ?_
   refine gl (sts:=[none,none]) (news:=[]) (sp:=[.val 4 _]) [.o 0] hst (zv rfl rfl (r_assign has_bo) o0) (fun a w hst=>?_)
   have hst:St B w0 38 [(4,_)] [⟨2,24,ptrH,_⟩,⟨3,24,ptrH,_⟩] a w:=hst
   refine thn_normal ?_
   refine wp_ret ?_
   refine ret_wk ?_ (ret_tmp rfl hst (zm 0 rfl))
   exact wk_eq (congrArg Bo (same_yes hn1 (by rw [List.take_of_length_le (Nat.le_refl _),List.take_of_length_le zo] at ht; exact ht)))
theorem sameFrac_c (x y:RF):Cn Tryz.prog 20 [(RFA x).va,(RFA y).va] (Bo (decide (x=y))):=by
 refine Cn.intro Tryz.func20 rfl zk nq (fun B w0 a hst=>?_)
 have hst:St B w0 17 [(0,(RFA x).va),(1,(RFA y).va)] [] a w0.w:=hst
 refine wp_seq ?_
 refine gl (sts:=[]) (news:=[⟨2,26,ptrH,some 0,_,none⟩,⟨3,26,ptrH,some 1,_,none⟩]) (sp:=[.alc 0,.alc 1,.val 4 _]) [.o 2] hst (oc (ob_box rfl rfl rfl (gq 0 rfl)) (oc (ob_box rfl rfl rfl (gq 1 rfl)) (zv rfl rfl (r_assign has_bo) o0))) (fun a w hst=>?_)
 have hst:St B w0 17 [(4,_)] [⟨2,26,ptrH,_⟩,⟨3,26,ptrH,_⟩] a w:=hst
 refine zt ?_
 refine gl (sts:=[none,none]) (news:=[]) (sp:=[.adr 5 2 (.some 0) True,.val 6 _,.adr 7 3 (.some 0) True,.val 8 _,.val 9 _,.val 10 _,.adr 11 2 (.some 2) (_=true),.val 12 (Wh (_=true) _),.adr 13 3 (.some 2) (_=true),.val 14 (Wh (_=true) _),.val 15 (Wh (_=true) _),.val 16 _,.val 4 _]) [.o 12] hst (oc (ob_a rfl rfl (a_fld (lz0 0 rfl) fld_26_0)) (zv rfl rfl (r_loadf 0 rfl zk trivial (lz0 0 rfl) (Sub.part 0 rfl rfl) ty_24) (oc (ob_a rfl rfl (a_fld (lz0 1 rfl) fld_26_0)) (zv rfl rfl (r_loadf 2 rfl zk trivial (lz0 1 rfl) (Sub.part 0 rfl rfl) ty_24) (zv rfl rfl (r_call (xs:=[.tmp 6,.tmp 8]) (sameInt_c _ _) (.cons (vq 1 rfl) (.cons (vq 3 rfl) .nil))) (zv rfl rfl (r_move (vq 4 rfl)) (oc (ob_ag rfl rfl rfl (vq 5 rfl) nq (fun hg=>a_fld (lz0 0 rfl) fld_26_1)) (oc (ob_gd rfl rfl rfl (vq 5 rfl) nq (fun hg=>r_loadf 6 rfl zk hg (lz0 0 rfl) (Sub.part 1 rfl rfl) ty_24)) (oc (ob_ag rfl rfl rfl (vq 5 rfl) nq (fun hg=>a_fld (lz0 1 rfl) fld_26_1)) (oc (ob_gd rfl rfl rfl (vq 5 rfl) nq (fun hg=>r_loadf 8 rfl zk hg (lz0 1 rfl) (Sub.part 1 rfl rfl) ty_24)) (oc (ob_gd rfl rfl rfl (vq 5 rfl) nq (fun hg=>r_call (xs:=[.tmp 12,.tmp 14]) (sameInt_c _ _) (.cons (has_wh (vq 7 rfl) hg) (.cons (has_wh (vq 9 rfl) hg) .nil)))) (zv rfl rfl (r_and (vq 5 rfl) (vq 10 rfl)) (zv rfl rfl (r_assign (vq 11 rfl)) o0))))))))))))) (fun a w hst=>?_)
 have hst:St B w0 17 [(4,_)] [⟨2,26,ptrH,_⟩,⟨3,26,ptrH,_⟩] a w:=hst
 refine thn_normal ?_
 refine wp_ret ?_
 refine ret_wk ?_ (ret_tmp rfl hst (zm 0 rfl))
 exact wk_eq (congrArg Bo rf_eq)
theorem sameMatrix_c (x y:RM):Cn Tryz.prog 57 [(RMA x).va,(RMA y).va] (Bo (decide (x=y))):=by
 refine Cn.intro Tryz.func57 rfl zk nq (fun B w0 a hst=>?_)
 have hst:St B w0 31 [(0,(RMA x).va),(1,(RMA y).va)] [] a w0.w:=hst
 refine wp_seq ?_
 refine gl (sts:=[]) (news:=[⟨2,28,ptrH,some 0,_,none⟩,⟨3,28,ptrH,some 1,_,none⟩]) (sp:=[.alc 0,.alc 1,.val 4 _]) [.o 2] hst (oc (ob_box rfl rfl rfl (gq 0 rfl)) (oc (ob_box rfl rfl rfl (gq 1 rfl)) (zv rfl rfl (r_assign has_bo) o0))) (fun a w hst=>?_)
 have hst:St B w0 31 [(4,_)] [⟨2,28,ptrH,_⟩,⟨3,28,ptrH,_⟩] a w:=hst
 refine zt ?_
 refine gl (sts:=[none,none]) (news:=[]) (sp:=((.adr 5 2 (.some 0) True:Sp)::(.val 6 _)::(.adr 7 3 (.some 0) True)::(.val 8 _)::(.val 9 _)::(.val 10 _)::(.adr 11 2 (.some 4) (_=true))::(.val 12 (Wh (_=true) _))::(.adr 13 3 (.some 4) (_=true))::(.val 14 (Wh (_=true) _))::(.val 15 (Wh (_=true) _))::(.val 16 _)::(.val 17 _)::(.adr 18 2 (.some 8) (_=true))::(.val 19 (Wh (_=true) _))::(.adr 20 3 (.some 8) (_=true))::(.val 21 (Wh (_=true) _))::(.val 22 (Wh (_=true) _))::(.val 23 _)::(.val 24 _)::(.adr 25 2 (.some 12) (_=true))::(.val 26 (Wh (_=true) _))::(.adr 27 3 (.some 12) (_=true))::(.val 28 (Wh (_=true) _))::(.val 29 (Wh (_=true) _))::(.val 30 _)::(.val 4 _)::[])) [.o 26] hst (oc (ob_a rfl rfl (a_fld (lz0 0 rfl) fld_28_0)) (zv rfl rfl (r_loadf 0 rfl zk trivial (lz0 0 rfl) (Sub.part 0 rfl rfl) ty_26) (oc (ob_a rfl rfl (a_fld (lz0 1 rfl) fld_28_0)) (zv rfl rfl (r_loadf 2 rfl zk trivial (lz0 1 rfl) (Sub.part 0 rfl rfl) ty_26) (zv rfl rfl (r_call (xs:=[.tmp 6,.tmp 8]) (sameFrac_c _ _) (.cons (vq 1 rfl) (.cons (vq 3 rfl) .nil))) (zv rfl rfl (r_move (vq 4 rfl)) (oc (ob_ag rfl rfl rfl (vq 5 rfl) nq (fun hg=>a_fld (lz0 0 rfl) fld_28_1)) (oc (ob_gd rfl rfl rfl (vq 5 rfl) nq (fun hg=>r_loadf 6 rfl zk hg (lz0 0 rfl) (Sub.part 1 rfl rfl) ty_26)) (oc (ob_ag rfl rfl rfl (vq 5 rfl) nq (fun hg=>a_fld (lz0 1 rfl) fld_28_1)) (oc (ob_gd rfl rfl rfl (vq 5 rfl) nq (fun hg=>r_loadf 8 rfl zk hg (lz0 1 rfl) (Sub.part 1 rfl rfl) ty_26)) (oc (ob_gd rfl rfl rfl (vq 5 rfl) nq (fun hg=>r_call (xs:=[.tmp 12,.tmp 14]) (sameFrac_c _ _) (.cons (has_wh (vq 7 rfl) hg) (.cons (has_wh (vq 9 rfl) hg) .nil)))) (zv rfl rfl (r_and (vq 5 rfl) (vq 10 rfl)) (zv rfl rfl (r_move (vq 11 rfl)) (oc (ob_ag rfl rfl rfl (vq 12 rfl) nq (fun hg=>a_fld (lz0 0 rfl) fld_28_2)) (oc (ob_gd rfl rfl rfl (vq 12 rfl) nq (fun hg=>r_loadf 13 rfl zk hg (lz0 0 rfl) (Sub.part 2 rfl rfl) ty_26)) (oc (ob_ag rfl rfl rfl (vq 12 rfl) nq (fun hg=>a_fld (lz0 1 rfl) fld_28_2)) (oc (ob_gd rfl rfl rfl (vq 12 rfl) nq (fun hg=>r_loadf 15 rfl zk hg (lz0 1 rfl) (Sub.part 2 rfl rfl) ty_26)) (oc (ob_gd rfl rfl rfl (vq 12 rfl) nq (fun hg=>r_call (xs:=[.tmp 19,.tmp 21]) (sameFrac_c _ _) (.cons (has_wh (vq 14 rfl) hg) (.cons (has_wh (vq 16 rfl) hg) .nil)))) (zv rfl rfl (r_and (vq 12 rfl) (vq 17 rfl)) (zv rfl rfl (r_move (vq 18 rfl)) (oc (ob_ag rfl rfl rfl (vq 19 rfl) nq (fun hg=>a_fld (lz0 0 rfl) fld_28_3)) (oc (ob_gd rfl rfl rfl (vq 19 rfl) nq (fun hg=>r_loadf 20 rfl zk hg (lz0 0 rfl) (Sub.part 3 rfl rfl) ty_26)) (oc (ob_ag rfl rfl rfl (vq 19 rfl) nq (fun hg=>a_fld (lz0 1 rfl) fld_28_3)) (oc (ob_gd rfl rfl rfl (vq 19 rfl) nq (fun hg=>r_loadf 22 rfl zk hg (lz0 1 rfl) (Sub.part 3 rfl rfl) ty_26)) (oc (ob_gd rfl rfl rfl (vq 19 rfl) nq (fun hg=>r_call (xs:=[.tmp 26,.tmp 28]) (sameFrac_c _ _) (.cons (has_wh (vq 21 rfl) hg) (.cons (has_wh (vq 23 rfl) hg) .nil)))) (zv rfl rfl (r_and (vq 19 rfl) (vq 24 rfl)) (zv rfl rfl (r_assign (vq 25 rfl)) o0))))))))))))))))))))))))))) (fun a w hst=>?_)
 have hst:St B w0 31 [(4,_)] [⟨2,28,ptrH,_⟩,⟨3,28,ptrH,_⟩] a w:=hst
 refine thn_normal ?_
 refine wp_ret ?_
 refine ret_wk ?_ (ret_tmp rfl hst (zm 0 rfl))
 exact wk_eq (congrArg Bo rm_eq)
end Go.Proofs.YthncfchnkjemiaaGreatDoor
namespace Go.Proofs.YthncfchnkjemiaaGreatDoor
open Go Go.RowKit
open Go.ChangeShapes Go.WideShapes Go.ChangeAt
theorem cat_of {B:Nat} {w:World}:∀ {l:List As} {cs:List Value},cs.length=(l.map (·.n)).sum→(∀ (k:Nat) (A:As),l[k]?=some A→A.p B ((cs.drop (offs l k)).take A.n) w)→(cat l).p B cs w
 | [],cs,hl,_=>by
  have:cs=[]:=List.length_eq_zero_iff.1 (by simpa using hl)
  subst this
  exact ⟨[],rfl,.nil⟩
 | A::l,cs,hl,h=>by
  simp only [List.map_cons,List.sum_cons] at hl
  have h0:=h 0 A rfl
  simp only [offs,List.take_zero,List.map_nil,List.sum_nil,List.drop_zero] at h0
  obtain ⟨ps,e,hps⟩:=cat_of (l:=l) (cs:=cs.drop A.n) (B:=B) (w:=w) (by simp; omega) fun k A' hk=>by
   have:=h (k+1) A' (by simpa using hk)
   simp only [offs,List.take_succ_cons,List.map_cons,List.sum_cons] at this
   rw [List.drop_drop]
   exact this
  exact ⟨cs.take A.n::ps,by rw [List.flatten_cons,← e,List.take_append_drop],.cons h0 hps⟩
section
variable {H:Type} {enc:TypeId × Value→H} {w:World} {base:Nat} {spare:Nat→Bool} {held:Bool} {fuel:Nat} {cs:List Value} {x:DataW H × List MemPlace}
theorem rd_mg (h:DataW.trod enc Tryz.prog w base spare held fuel 22 cs=some x):∃ l,(MgA l).p w.heap.size cs w:=by
 rcases open_ints Tryz.underlying22 Tryz.underlying168 zk h with ⟨hcs,_⟩ | ⟨a,len,cap,zs,rfl,_,hl,hm,hz,_,hcell,hwz⟩
 ·subst hcs
  exact ⟨[],mag_nil_p _ _⟩
 ·have hzl:len≤zs.length:=by rw [hz]; split <;> omega
  have hnn:∀ n∈zs,0≤n∧n<4294967296:=fun n hn=>by
   have:=hwz n hn
   simp [Lit.wf,IntKind.min,IntKind.max,IntKind.signed,IntKind.bits] at this
   omega
  have hlen:((zs.take len).map Int.toNat).length=len:=by simp; omega
  refine ⟨(zs.take len).map Int.toNat,?_⟩
  have hM:Mag w.heap.size w (some a) cap ((zs.take len).map Int.toNat):=by
   refine ⟨fun y hy=>?_,by omega,hm,fun hn=>?_⟩
   ·obtain ⟨n,hn,rfl⟩:=List.mem_map.1 hy
    have:=hnn n (List.mem_of_mem_take hn)
    omega
   ·obtain ⟨b,off,rfl,hc⟩:=ints_at hcell zo
    have hb:b<w.heap.size:=World.block_lt_of_cell? w _ (hc 0 zo)
    refine ⟨b,off,rfl,hb,.inl hb,fun j hj=>?_⟩
    rw [hc j zo]
    have hjz:j<zs.length:=by omega
    have:=hnn _ (List.getElem_mem hjz)
    congr 2
    simp only [List.getElem_map,List.getElem_take]
    rw [Int.toNat_of_nonneg this.1]
    simp [List.getD_eq_getElem?_getD,List.getElem?_eq_getElem hjz]
  obtain ⟨ds,hp,hv⟩:=mg_shut hM hlen.symm
  have hd:=(MgA ((zs.take len).map Int.toNat)).len _ _ _ hp
  match ds,hd with
  | [d],_ =>
   have:d=.slice (some a) len cap:=hv.symm
   subst this
   exact hp
theorem cat_two {B:Nat} {A0 A1:As} (h0:A0.p B ((cs.drop 0).take A0.n) w) (h1:A1.p B ((cs.drop A0.n).take A1.n) w) (hl:cs.length=A0.n+A1.n):(cat [A0,A1]).p B cs w :=
 cat_of (by simpa using hl) fun k A hk=>by
  match k,hk with
  | 0,hk=>simp at hk; subst hk; exact h0
  | 1,hk=>simp at hk; subst hk; simpa [offs] using h1
theorem rd_bo (h:DataW.trod enc Tryz.prog w base spare held fuel 4 cs=some x):∃ b,(BoA b).p w.heap.size cs w:=by
 obtain ⟨b,hb,_⟩:=DataW.trod_bool Tryz.underlying4 h
 exact ⟨b,hb⟩
end
end Go.Proofs.YthncfchnkjemiaaGreatDoor
namespace Go.Proofs.YthncfchnkjemiaaGreatDoor
open Go Go.RowKit
structure OkG (p:GQ):Prop where
 re:longQ p.re=false
 im:longQ p.im=false
 pos:0<p.im
end Go.Proofs.YthncfchnkjemiaaGreatDoor
namespace Go.Proofs.YthncfchnkjemiaaGreatDoor
open Go Go.RowKit
theorem div_pos {x y:Rat} (h:0<x) (h':0<y):0<x / y:=Rat.mul_pos h (Rat.inv_pos.2 h')
end Go.Proofs.YthncfchnkjemiaaGreatDoor
