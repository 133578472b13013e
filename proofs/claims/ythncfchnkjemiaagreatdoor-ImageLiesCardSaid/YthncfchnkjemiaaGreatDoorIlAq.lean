import Derived.Test.YthncfchnkjemiaaGreatDoorIlAa
import Derived.Test.YthncfchnkjemiaaGreatDoorIlAc
import Derived.Test.YthncfchnkjemiaaGreatDoorIlAp
set_option linter.unusedVariables false
set_option linter.unusedSimpArgs false
set_option linter.unusedSectionVars false
set_option maxRecDepth 100000
namespace Go.Proofs.YthncfchnkjemiaaGreatDoor
open Go Go.RowKit
def twF (x y:Rat):RF × RF × Int:=if [x,y].any longQ then (rf0,rf0,4) else (rfOf x,rfOf y,0)
abbrev TwR (r:RF × RF × Int):VA:=Tu [(RFA r.1).va,(RFA r.2.1).va,In r.2.2]
def upQ (m:MQ) (x:Rat):Rat:=m.a*x+m.b
def loQ (m:MQ) (x:Rat):Rat:=m.c*x+m.d
abbrev UpV (m:MQ) (x:Rat):VA:=Tu [Qs 6145 (upQ m x),Qs 6145 (loQ m x)]
def imF (m:RM) (t:RF):RF × RF × Int:=if okM m && okX t then (if loQ (toM m) (toQ t)=0 then (rf0,rf0,3) else twF (-(upQ (toM m) (toQ t) / loQ (toM m) (toQ t))) (1 / loQ (toM m) (toQ t))) else (rf0,rf0,1)
def stF (m:RM) (t:RF):RF × Int:=if (okM m && okX t) && !decide ((toQ t).num.sign<0) then (if (toM m).b=0 then (rf0,3) else if (toM m).b.num.sign=1 then ansF (toQ t / (toM m).b) else ansF (toQ t / -(toM m).b)) else (rf0,1)
theorem chk1 {c:Bool}:((if c then (0:Int) else 1) != 0) = !c:=by cases c <;> rfl
theorem chk2 {m:RM} {t:RF}:(((if okM m then (0:Int) else 1) != 0) || ((if okX t then (0:Int) else 1) != 0)) = !(okM m && okX t):=by rw [chk1,chk1,Bool.not_and]
theorem chk3 {m:RM} {t:RF} {c:Bool}:((((if okM m then (0:Int) else 1) != 0) || ((if okX t then (0:Int) else 1) != 0)) || c) = !((okM m && okX t) && !c):=by rw [chk2]; cases okM m && okX t <;> cases c <;> rfl
theorem sgn_x {m:RM} {t:RF} (h:(((if okM m then (0:Int) else 1) != 0) || ((if okX t then (0:Int) else 1) != 0))=false):Cn Tryz.prog 90 [(RFA t).va] (In (toQ t).num.sign):=by
 rw [chk2,Bool.not_eq_false',Bool.and_eq_true] at h
 exact sign_q.wk (.cons (qa_x h.2 (Nat.le_refl 2048)).va .nil)
theorem neg_nz {x:Rat} (h:¬ x=0):¬ -x=0:=fun e=>h (by grind)
theorem im2_q {c d:Nat} {x y:Rat} (hc:c≤549755813888) (hd:d≤549755813888):Cn Tryz.prog 160 [Qs c x,Qs d y] (TwR (twF x y)):=by
 refine Cn.intro Tryz.func160 rfl zk nq (fun B w0 a hst=>?_)
 have hst:St B w0 21 [(0,Qs c x),(1,Qs d y)] [] a w0.w:=hst
 refine wp_seq ?_
 refine gl (sts:=[]) (news:=[⟨2,26,ptrH,some 0,_,none⟩,⟨3,26,ptrH,some 1,_,none⟩,⟨4,26,ptrH,some 2,_,none⟩,⟨5,26,ptrH,some 3,_,none⟩]) (sp:=[.alc 0,.alc 1,.alc 2,.alc 3,.val 6 _]) [.o 4] hst (oc (ob_box rfl rfl rfl (gq 0 rfl)) (oc (ob_box rfl rfl rfl (gq 1 rfl)) (oc (ob_alc rfl rfl rfl (Str.zero str_frac)) (oc (ob_alc rfl rfl rfl (Str.zero str_frac)) (zv rfl rfl (r_assign has_num) o0))))) (fun a w hst=>?_)
 have hst:St B w0 21 [(6,_)] [⟨2,26,ptrH,_⟩,⟨3,26,ptrH,_⟩,⟨4,26,ptrH,_⟩,⟨5,26,ptrH,_⟩] a w:=hst
 refine zt ?_
 refine wp_seq ?_
 refine gl (sts:=[none,none,none,none]) (news:=[]) (sp:=[.val 8 _,.val 9 _,.val 10 _,.val 11 _,.val 7 _]) [.g 0,.o 4] hst (zv rfl rfl (r_load (lz0 0 rfl) ty_26) (zv rfl rfl (r_load (lz0 1 rfl) ty_26) (zv rfl rfl (r_slice (D:=[U32]) (l:=[_,_]) (xs:=[.tmp 8,.tmp 9]) (nd_ok zk) sl_142 zk (n_ok zk) nq nq nq (.cons (vq 0 rfl) (.cons (vq 1 rfl) .nil)) rfl rfl) (zv rfl rfl (r_call (xs:=[.tmp 10]) (answer_q [x,y] (.cons ⟨_,rfl⟩ (.cons ⟨_,rfl⟩ .nil)) nq) (.cons (vq 2 rfl) .nil)) (zv rfl rfl (r_assign (vq 3 rfl)) o0))))) (fun a w hst=>?_)
 have hst:St B w0 21 [(6,_),(7,_)] [⟨2,26,ptrH,_⟩,⟨3,26,ptrH,_⟩,⟨4,26,ptrH,_⟩,⟨5,26,ptrH,_⟩] a w:=hst
 refine zt ?_
 refine gl (sts:=[none,none,none,none]) (news:=[]) (sp:=[.val 12 _,.val 13 _]) [.g 0,.g 1,.o 1] hst (zv rfl rfl (r_move (gq 1 rfl)) (zv rfl rfl (r_neq (vq 0 rfl) has_num) o0)) (fun a w hst=>?_)
 have hst:St B w0 21 [(6,_),(7,_),(13,_)] [⟨2,26,ptrH,_⟩,⟨3,26,ptrH,_⟩,⟨4,26,ptrH,_⟩,⟨5,26,ptrH,_⟩] a w:=hst
 refine thn_normal ?_
 refine cond_of hst (zm 2 rfl) (fun hb0=>?_) (fun hb0=>?_)
 ·rw [ne0] at hb0
  refine wp_seq ?_
  refine gl (sts:=[none,none,some (3,_),some (4,_)]) (news:=[]) (sp:=[.val 14 _,.val 15 _,.val 16 _,.sto 2,.sto 3,.val 6 _]) [.o 5] hst (zv rfl rfl (r_build (xs:=[]) (qs:=[]) str_frac .nil) (zv rfl rfl (r_build (xs:=[]) (qs:=[]) str_frac .nil) (zv rfl rfl (r_move (gq 1 rfl)) (oc (ob_sto rfl rfl rfl (vq 0 rfl) ty_26 (Eq.trans (b:=4) rfl rfl)) (oc (ob_sto rfl rfl rfl (vq 1 rfl) ty_26 (Eq.trans (b:=4) rfl rfl)) (zv rfl rfl (r_assign (vq 2 rfl)) o0)))))) (fun a w hst=>?_)
  have hst:St B w0 21 [(6,_)] [⟨2,26,ptrH,_⟩,⟨3,26,ptrH,_⟩,⟨4,26,ptrH,_⟩,⟨5,26,ptrH,_⟩] a w:=hst
  refine thn_normal ?_
  refine wp_ret ?_
  refine thn_ret ?_
  refine ret_wk ?_ (ret_many (rs:=[.cell 4 26,.cell 5 26,.tmp 6]) rfl hst (.cell (zm 2 rfl) ty_26 (.cell (zm 3 rfl) ty_26 (.tmp (zm 0 rfl) .nil))) zd)
  rw [show twF x y=(rf0,rf0,4) from if_pos hb0]; exact tu3w wk_id wk_id (wk_eq (by rw [hb0]; rfl))
 ·rw [ne0] at hb0
  refine wp_skip ?_
  refine zt ?_
  refine go_draw (anc:=[[],[0],[],[0,1,2],[0,1,2,3],[0,1,2,3,4],[0,1,2,3,4,5]]) (sts:=[none,none,some (4,_),some (5,_)]) (news:=[]) (sp:=[.val 17 _,.val 18 _,.val 19 _,.val 20 _,.sto 2,.sto 3,.val 6 _]) [.o 6] follows_mixed hst (zv rfl rfl (r_load (lz0 0 rfl) ty_26) (zv rfl rfl (r_call (xs:=[.tmp 17]) (copy_q zo) (.cons (vq 0 rfl) .nil)) (zv rfl rfl (r_load (lz0 1 rfl) ty_26) (zv rfl rfl (r_call (xs:=[.tmp 19]) (copy_q zo) (.cons (vq 2 rfl) .nil)) (oc (ob_sto rfl rfl rfl (vq 1 rfl) ty_26 (Eq.trans (b:=4) rfl rfl)) (oc (ob_sto rfl rfl rfl (vq 3 rfl) ty_26 (Eq.trans (b:=4) rfl rfl)) (zv rfl rfl (r_assign has_num) o0))))))) zk zk zk zk (fun a w hst=>?_)
  have hst:St B w0 21 [(6,_)] [⟨2,26,ptrH,_⟩,⟨3,26,ptrH,_⟩,⟨4,26,ptrH,_⟩,⟨5,26,ptrH,_⟩] a w:=hst
  refine thn_normal ?_
  refine wp_ret ?_
  refine ret_wk ?_ (ret_many (rs:=[.cell 4 26,.cell 5 26,.tmp 6]) rfl hst (.cell (zm 2 rfl) ty_26 (.cell (zm 3 rfl) ty_26 (.tmp (zm 0 rfl) .nil))) zd)
  rw [twF,if_neg (by rw [hb0]; decide)]; exact tu3w rq_wk rq_wk wk_id
theorem at1_c (m:MQ) (x:Rat):Cn Tryz.prog 291 [Qs 2048 x,(ElP 28 (QMA 2048 m))] (UpV m x):=by
 refine Cn.intro Tryz.func291 rfl zk nq (fun B w0 a hst=>?_)
 have hst:St B w0 19 [(0,Qs 2048 x),(1,(ElP 28 (QMA 2048 m)))] [] a w0.w:=hst
 refine wp_seq ?_
 refine gl (sts:=[]) (news:=[⟨2,26,ptrH,some 0,_,none⟩,⟨3,26,ptrH,some 1,_,none⟩,⟨4,26,ptrH,some 2,_,none⟩]) (sp:=[.alc 0,.alc 1,.alc 2]) [.g 1] hst (oc (ob_box rfl rfl rfl (gq 0 rfl)) (oc (ob_alc rfl rfl rfl (Str.zero str_frac)) (oc (ob_alc rfl rfl rfl (Str.zero str_frac)) o0))) (fun a w hst=>?_)
 have hst:St B w0 19 [(1,_)] [⟨2,26,ptrH,_⟩,⟨3,26,ptrH,_⟩,⟨4,26,ptrH,_⟩] a w:=hst
 refine zt ?_
 refine go_draw (anc:=[[],[0],[],[0,1,2],[],[4],[0,1,2,3,4,5],[],[7],[],[0,1,2,3,4,5,6,7,8,9],[],[11],[0,1,2,3,4,5,6,7,8,9,10,11,12],[0,1,2,3,4,5,6,7,8,9,10,11,12,13],[0,1,2,3,4,5,6,7,8,9,10,11,12,13,14]]) (sts:=[none,some (14,_),some (15,_)]) (news:=[]) (sp:=[.val 5 _,.val 6 _,.val 7 _,.val 8 _,.val 9 _,.val 10 _,.val 11 _,.val 12 _,.val 13 _,.val 14 _,.val 15 _,.val 16 _,.val 17 _,.val 18 _,.sto 1,.sto 2]) [] follows_mixed hst (zv rfl rfl (r_fielde (gq 0 rfl) fld_28_0 (Sub.part 0 rfl rfl)) (zv rfl rfl (r_loade (vq 0 rfl) ty_26) (zv rfl rfl (r_load (lz0 0 rfl) ty_26) (zv rfl rfl (r_call (xs:=[.tmp 6,.tmp 7]) (times_q zo) (.cons (vq 1 rfl) (.cons (vq 2 rfl) .nil))) (zv rfl rfl (r_fielde (gq 0 rfl) fld_28_1 (Sub.part 1 rfl rfl)) (zv rfl rfl (r_loade (vq 4 rfl) ty_26) (zv rfl rfl (r_call (xs:=[.tmp 8,.tmp 10]) (plus_q zo) (.cons (vq 3 rfl) (.cons (vq 5 rfl) .nil))) (zv rfl rfl (r_fielde (gq 0 rfl) fld_28_2 (Sub.part 2 rfl rfl)) (zv rfl rfl (r_loade (vq 7 rfl) ty_26) (zv rfl rfl (r_load (lz0 0 rfl) ty_26) (zv rfl rfl (r_call (xs:=[.tmp 13,.tmp 14]) (times_q zo) (.cons (vq 8 rfl) (.cons (vq 9 rfl) .nil))) (zv rfl rfl (r_fielde (gq 0 rfl) fld_28_3 (Sub.part 3 rfl rfl)) (zv rfl rfl (r_loade (vq 11 rfl) ty_26) (zv rfl rfl (r_call (xs:=[.tmp 15,.tmp 17]) (plus_q zo) (.cons (vq 10 rfl) (.cons (vq 12 rfl) .nil))) (oc (ob_sto rfl rfl rfl (vq 6 rfl) ty_26 (Eq.trans (b:=4) rfl rfl)) (oc (ob_sto rfl rfl rfl (vq 13 rfl) ty_26 (Eq.trans (b:=4) rfl rfl)) o0)))))))))))))))) zk zk zk zk (fun a w hst=>?_)
 have hst:St B w0 19 [] [⟨2,26,ptrH,_⟩,⟨3,26,ptrH,_⟩,⟨4,26,ptrH,_⟩] a w:=hst
 refine thn_normal ?_
 refine wp_ret ?_
 refine ret_wk ?_ (ret_many (rs:=[.cell 3 26,.cell 4 26]) rfl hst (.cell (zm 1 rfl) ty_26 (.cell (zm 2 rfl) ty_26 .nil)) zd)
 exact wk_id
abbrev FnU (m:MQ):VA:=FnV Tryz.prog [28,168] (fun x:Rat=>[Qs 2048 x]) (fun x=>UpV m x)
theorem at_c (m:MQ):Cn Tryz.prog 159 [(QMA 2048 m).va] (FnU m):=by
 refine Cn.intro Tryz.func159 rfl zk nq (fun B w0 a hst=>?_)
 have hst:St B w0 4 [(0,(QMA 2048 m).va)] [] a w0.w:=hst
 refine wp_seq ?_
 refine gl (sts:=[]) (news:=[⟨1,28,ptrH,some 0,_,none⟩]) (sp:=[.alc 0,.val 2 _]) [.o 1] hst (oc (ob_box rfl rfl rfl (gq 0 rfl)) (zv rfl rfl (r_assign has_const) o0)) (fun a w hst=>?_)
 have hst:St B w0 4 [(2,_)] [⟨1,28,ptrH,_⟩] a w:=hst
 refine zt ?_
 refine gl (sts:=[none]) (news:=[]) (sp:=[.val 3 _,.val 2 _]) [.o 1] hst (zv rfl rfl (r_mkfunc (xs:=[.tmp 1]) (D:=[28,168]) (pre:=fun x:Rat=>[Qs 2048 x]) (post:=fun x=>UpV m x) (fun x=>at1_c m x) (nd_va rfl) (.cons (has_ptr (lz0 0 rfl)) .nil)) (zv rfl rfl (r_assign (vq 0 rfl)) o0)) (fun a w hst=>?_)
 have hst:St B w0 4 [(2,_)] [⟨1,28,ptrH,_⟩] a w:=hst
 refine thn_normal ?_
 refine wp_ret ?_
 refine ret_wk ?_ (ret_tmp rfl hst (zm 0 rfl))
 exact wk_id
theorem okM_all {m:RM} (h:okM m=true):[m.a,m.b,m.c,m.d].all okX=true:=(okM_q h).1
theorem and_mx {m:RM} {t:RF} (h:(okM m && okX t)=true):okM m=true∧okX t=true:=by rwa [Bool.and_eq_true] at h
theorem image_c (m:RM) (t:RF):Cn Tryz.prog 31 [(RMA m).va,(RFA t).va] (TwR (imF m t)):=by
 refine Cn.intro Tryz.func31 rfl zk nq (fun B w0 a hst=>?_)
 have hst:St B w0 42 [(0,(RMA m).va),(1,(RFA t).va)] [] a w0.w:=hst
 refine wp_seq ?_
 refine gl (sts:=[]) (news:=[⟨2,28,ptrH,some 0,_,none⟩,⟨3,26,ptrH,some 1,_,none⟩,⟨4,26,ptrH,some 2,_,none⟩,⟨5,26,ptrH,some 3,_,none⟩]) (sp:=[.alc 0,.alc 1,.alc 2,.alc 3,.val 6 _]) [.o 4] hst (oc (ob_box rfl rfl rfl (gq 0 rfl)) (oc (ob_box rfl rfl rfl (gq 1 rfl)) (oc (ob_alc rfl rfl rfl (Str.zero str_frac)) (oc (ob_alc rfl rfl rfl (Str.zero str_frac)) (zv rfl rfl (r_assign has_num) o0))))) (fun a w hst=>?_)
 have hst:St B w0 42 [(6,_)] [⟨2,28,ptrH,_⟩,⟨3,26,ptrH,_⟩,⟨4,26,ptrH,_⟩,⟨5,26,ptrH,_⟩] a w:=hst
 refine zt ?_
 refine wp_seq ?_
 refine gl (sts:=[none,none,none,none]) (news:=[]) (sp:=[.val 9 _,.val 10 _,.val 11 _,.val 12 _,.val 13 (Wh (_=false) _),.val 14 (Wh (_=false) _),.val 15 (Wh (_=false) _),.val 16 _]) [.g 0,.o 7] hst (zv rfl rfl (r_load (lz0 0 rfl) ty_28) (zv rfl rfl (r_call (xs:=[.tmp 9]) (rayCheck_c _) (.cons (vq 0 rfl) .nil)) (zv rfl rfl (r_neq (vq 1 rfl) has_num) (zv rfl rfl (r_move (vq 2 rfl)) (oc (ob_gd rfl rfl rfl (vq 3 rfl) nq (fun hg=>r_load (lz0 1 rfl) ty_26)) (oc (ob_gd rfl rfl rfl (vq 3 rfl) nq (fun hg=>r_call (xs:=[.tmp 13]) (check_x _) (.cons (has_wh (vq 4 rfl) hg) .nil))) (oc (ob_gd rfl rfl rfl (vq 3 rfl) nq (fun hg=>r_neq (has_wh (vq 5 rfl) hg) has_num)) (zv rfl rfl (r_or (vq 3 rfl) (vq 6 rfl)) o0)))))))) (fun a w hst=>?_)
 have hst:St B w0 42 [(6,_),(16,_)] [⟨2,28,ptrH,_⟩,⟨3,26,ptrH,_⟩,⟨4,26,ptrH,_⟩,⟨5,26,ptrH,_⟩] a w:=hst
 refine thn_normal ?_
 refine cond_of hst (zm 1 rfl) (fun hb0=>?_) (fun hb0=>?_)
 ·rw [chk2,Bool.not_eq_true'] at hb0
  refine wp_seq ?_
  refine gl (sts:=[none,none,some (2,_),some (3,_)]) (news:=[]) (sp:=[.val 17 _,.val 18 _,.sto 2,.sto 3,.val 6 _]) [.o 4] hst (zv rfl rfl (r_build (xs:=[]) (qs:=[]) str_frac .nil) (zv rfl rfl (r_build (xs:=[]) (qs:=[]) str_frac .nil) (oc (ob_sto rfl rfl rfl (vq 0 rfl) ty_26 (Eq.trans (b:=4) rfl rfl)) (oc (ob_sto rfl rfl rfl (vq 1 rfl) ty_26 (Eq.trans (b:=4) rfl rfl)) (zv rfl rfl (r_assign has_num) o0))))) (fun a w hst=>?_)
  have hst:St B w0 42 [(6,_)] [⟨2,28,ptrH,_⟩,⟨3,26,ptrH,_⟩,⟨4,26,ptrH,_⟩,⟨5,26,ptrH,_⟩] a w:=hst
  refine thn_normal ?_
  refine wp_ret ?_
  refine thn_ret ?_
  refine ret_wk ?_ (ret_many (rs:=[.cell 4 26,.cell 5 26,.tmp 6]) rfl hst (.cell (zm 2 rfl) ty_26 (.cell (zm 3 rfl) ty_26 (.tmp (zm 0 rfl) .nil))) zd)
  rw [imF,if_neg (by rw [hb0]; decide)]; exact wk_id
 ·rw [chk2,Bool.not_eq_false'] at hb0
  have hst:=St.wkL hst 0 rfl (qm_x (okM_all (and_mx hb0).1))
  have hst:=St.wkL hst 1 rfl (qa_x (and_mx hb0).2 (Nat.le_refl 2048))
  refine wp_skip ?_
  refine zt ?_
  refine go_draw (anc:=[[],[0],[],[0,1,2],[0,1,2,3],[0,1,2,3,4],[0,1,2,3,4],[],[],[0,1,2,3,4,5,7,8],[0,1,2,3,4,5,6,7,8,9]]) (sts:=[none,none,none,none]) (news:=[⟨7,26,ptrH,some 7,_,some (9,_)⟩,⟨8,26,ptrH,some 8,_,some (10,_)⟩]) (sp:=[.val 20 _,.val 21 _,.val 22 _,.val 23 _,.val 19 _,.val 24 _,.val 25 _,.alc 4,.alc 5,.sto 4,.sto 5]) [.g 0] follows_mixed hst (zv rfl rfl (r_load (lz0 0 rfl) ty_28) (zv rfl rfl (r_call (xs:=[.tmp 20]) (at_c (toM m)) (.cons (vq 0 rfl) .nil)) (zv rfl rfl (r_load (lz0 1 rfl) ty_26) (zv rfl rfl (r_callv (xs:=[.tmp 22]) (toQ t) (vq 1 rfl) (.cons (vq 2 rfl) .nil)) (zv rfl rfl (r_move (vq 3 rfl)) (zv rfl rfl (r_ex0 (vq 4 rfl)) (zv rfl rfl (r_ex1 (vq 4 rfl)) (oc (ob_alc rfl rfl rfl (Str.zero str_frac)) (oc (ob_alc rfl rfl rfl (Str.zero str_frac)) (oc (ob_sto rfl rfl rfl (vq 5 rfl) ty_26 (Eq.trans (b:=4) rfl rfl)) (oc (ob_sto rfl rfl rfl (vq 6 rfl) ty_26 (Eq.trans (b:=4) rfl rfl)) o0))))))))))) zk zk zk zk (fun a w hst=>?_)
  have hst:St B w0 42 [(6,_)] [⟨2,28,ptrH,_⟩,⟨3,26,ptrH,_⟩,⟨4,26,ptrH,_⟩,⟨5,26,ptrH,_⟩,⟨7,26,ptrH,_⟩,⟨8,26,ptrH,_⟩] a w:=hst
  refine zt ?_
  refine wp_seq ?_
  refine gl (sts:=[none,none,none,none,none,none]) (news:=[]) (sp:=[.val 26 _,.val 27 _,.val 28 _]) [.g 0,.o 2] hst (zv rfl rfl (r_load (lz0 5 rfl) ty_26) (zv rfl rfl (r_call (xs:=[.tmp 26]) sign_q (.cons (vq 0 rfl) .nil)) (zv rfl rfl (r_eql (vq 1 rfl) has_num) o0))) (fun a w hst=>?_)
  have hst:St B w0 42 [(6,_),(28,_)] [⟨2,28,ptrH,_⟩,⟨3,26,ptrH,_⟩,⟨4,26,ptrH,_⟩,⟨5,26,ptrH,_⟩,⟨7,26,ptrH,_⟩,⟨8,26,ptrH,_⟩] a w:=hst
  refine thn_normal ?_
  refine cond_of hst (zm 1 rfl) (fun hb1=>?_) (fun hb1=>?_)
  ·rw [sgn0,decide_eq_true_eq] at hb1
   refine wp_seq ?_
   refine gl (sts:=[none,none,some (2,_),some (3,_),none,none]) (news:=[]) (sp:=[.val 29 _,.val 30 _,.sto 2,.sto 3,.val 6 _]) [.o 4] hst (zv rfl rfl (r_build (xs:=[]) (qs:=[]) str_frac .nil) (zv rfl rfl (r_build (xs:=[]) (qs:=[]) str_frac .nil) (oc (ob_sto rfl rfl rfl (vq 0 rfl) ty_26 (Eq.trans (b:=4) rfl rfl)) (oc (ob_sto rfl rfl rfl (vq 1 rfl) ty_26 (Eq.trans (b:=4) rfl rfl)) (zv rfl rfl (r_assign has_num) o0))))) (fun a w hst=>?_)
   have hst:St B w0 42 [(6,_)] [⟨2,28,ptrH,_⟩,⟨3,26,ptrH,_⟩,⟨4,26,ptrH,_⟩,⟨5,26,ptrH,_⟩,⟨7,26,ptrH,_⟩,⟨8,26,ptrH,_⟩] a w:=hst
   refine thn_normal ?_
   refine wp_ret ?_
   refine thn_ret ?_
   refine ret_wk ?_ (ret_many (rs:=[.cell 4 26,.cell 5 26,.tmp 6]) rfl hst (.cell (zm 2 rfl) ty_26 (.cell (zm 3 rfl) ty_26 (.tmp (zm 0 rfl) .nil))) zd)
   rw [imF,if_pos hb0,if_pos hb1]; exact wk_id
  ·rw [sgn0,decide_eq_false_iff_not] at hb1
   refine wp_skip ?_
   refine zt ?_
   refine go_draw (anc:=[[],[],[0,1],[0,1,2],[0,1,2,3],[],[0,1,2,3,4,5],[0,1,2,3,4,5,6],[0,1,2,3,4,5,6,7],[0,1,2,3,4,5,6,7],[0,1,2,3,4,5,6,7],[0,1,2,3,4,5,6,7,8,9,10],[0,1,2,3,4,5,6,7,8,9,10,11],[0,1,2,3,4,5,6,7,8,9,10,11,12]]) (sts:=[none,none,some (11,_),some (12,_),none,none]) (news:=[]) (sp:=[.val 31 _,.val 32 _,.val 33 _,.val 34 _,.val 35 _,.val 36 _,.val 37 _,.val 38 _,.val 39 _,.val 40 _,.val 41 _,.sto 2,.sto 3,.val 6 _]) [.o 13] follows_mixed hst (zv rfl rfl (r_load (lz0 4 rfl) ty_26) (zv rfl rfl (r_load (lz0 5 rfl) ty_26) (zv rfl rfl (r_call (xs:=[.tmp 31,.tmp 32]) (over_q zd hb1) (.cons (vq 0 rfl) (.cons (vq 1 rfl) .nil))) (zv rfl rfl (r_call (xs:=[.tmp 33]) (turned_q zd) (.cons (vq 2 rfl) .nil)) (zv rfl rfl (r_call (xs:=[]) one_q .nil) (zv rfl rfl (r_load (lz0 5 rfl) ty_26) (zv rfl rfl (r_call (xs:=[.tmp 35,.tmp 36]) (over_q zd hb1) (.cons (vq 4 rfl) (.cons (vq 5 rfl) .nil))) (zv rfl rfl (r_call (xs:=[.tmp 34,.tmp 37]) (im2_q zd zd) (.cons (vq 3 rfl) (.cons (vq 6 rfl) .nil))) (zv rfl rfl (r_ex0 (vq 7 rfl)) (zv rfl rfl (r_ex1 (vq 7 rfl)) (zv rfl rfl (r_ex2 (vq 7 rfl)) (oc (ob_sto rfl rfl rfl (vq 8 rfl) ty_26 (Eq.trans (b:=4) rfl rfl)) (oc (ob_sto rfl rfl rfl (vq 9 rfl) ty_26 (Eq.trans (b:=4) rfl rfl)) (zv rfl rfl (r_assign (vq 10 rfl)) o0)))))))))))))) zk zk zk zk (fun a w hst=>?_)
   have hst:St B w0 42 [(6,_)] [⟨2,28,ptrH,_⟩,⟨3,26,ptrH,_⟩,⟨4,26,ptrH,_⟩,⟨5,26,ptrH,_⟩,⟨7,26,ptrH,_⟩,⟨8,26,ptrH,_⟩] a w:=hst
   refine thn_normal ?_
   refine wp_ret ?_
   refine ret_wk ?_ (ret_many (rs:=[.cell 4 26,.cell 5 26,.tmp 6]) rfl hst (.cell (zm 2 rfl) ty_26 (.cell (zm 3 rfl) ty_26 (.tmp (zm 0 rfl) .nil))) zd)
   rw [imF,if_pos hb0,if_neg hb1]; exact wk_id
end Go.Proofs.YthncfchnkjemiaaGreatDoor
namespace Go.Proofs.YthncfchnkjemiaaGreatDoor
open Go Go.RowKit
def NilM:As where
 n:=1
 ag:=false
 p _ cs _:=cs=[.slice none 0 0]
 deps:=[]
 len:=by rintro B cs w rfl; rfl
 one:=by rintro B cs w rfl x hx; simp at hx; subst hx; rfl
 ag1:=fun _=>rfl
 cg:=fun _ _ _ _ _ h=>h
 wr:=fun _ _ _ _ _ _ _ _ _ _ _ _ h=>h
def NilI:As:=cat [BoA false,NilM]
def RFN (x:RF):As:=cat [RIN x.num,RIN x.den]
def RFD (x:RF):As:=DisA (RFN x)
theorem new_rfd {x:RF}:NewA (RFD x):=dis_new (new_cat fun A hA=>by
 simp at hA
 rcases hA with rfl | rfl <;> exact new_riN _)
theorem free_rfd {x:RF}:FreeA (RFD x) (RFD x):=dis_free (cat_free (.cons (free_ri _) (.cons (free_ri _) .nil)))
theorem rfd_rfa {x:RF}:WkA (RFD x) (RFA x):=dis_wk.trans (cat_wk (.cons wkA_riN (.cons wkA_riN .nil)))
theorem qd_rfd {k:Nat} {q:Rat}:WkA (QD k q) (RFD (rfOf q)):=dis_mono (cat_wk (.cons and_wk (.cons and_wk .nil)))
theorem str_fracZ:Str Tryz.prog 26 [NilI,NilI] :=
 Str.of (z:=.agg #[.bool false,.slice none 0 0,.bool false,.slice none 0 0]) zk Tryz.underlying26 zk fun B w=>⟨[[.bool false,.slice none 0 0],[.bool false,.slice none 0 0]],rfl,.cons ⟨[[.bool false],[.slice none 0 0]],rfl,.cons rfl (.cons rfl .nil)⟩ (.cons ⟨[[.bool false],[.slice none 0 0]],rfl,.cons rfl (.cons rfl .nil)⟩ .nil)⟩
theorem nil_cells {B:Nat} {cs:List Value} {w:World} (h:(cat [NilI,NilI]).p B cs w):cs=[.bool false,.slice none 0 0,.bool false,.slice none 0 0]:=by
 obtain ⟨ps,rfl,hp⟩:=h
 have hI:∀ c,NilI.p B c w→c=[.bool false,.slice none 0 0]:=fun c ⟨qs,e,hq⟩=>by
  cases hq with
  | @cons _ c1 _ _ h1 hq=>cases hq with
   | @cons _ c2 _ _ h2 hq =>
    cases hq
    have h1':c1=[.bool false]:=h1
    have h2':c2=[.slice none 0 0]:=h2
    rw [e,h1',h2']
    rfl
 cases hp with
 | cons h1 hp=>cases hp with
  | cons h2 hp =>
   cases hp
   rw [hI _ h1,hI _ h2]
   rfl
theorem zf_rfd:WkA (cat [NilI,NilI]) (RFD rf0):=⟨rfl,rfl,fun B cs w h=>by
 have hi:(RIN ⟨false,[]⟩).p B [.bool false,.slice none 0 0] w:=⟨[[.bool false],[.slice none 0 0]],rfl,.cons rfl (.cons ⟨okL_nil,.inl ⟨rfl,rfl⟩⟩ .nil)⟩
 rw [nil_cells h]
 exact ⟨⟨[[.bool false,.slice none 0 0],[.bool false,.slice none 0 0]],rfl,.cons hi (.cons hi .nil)⟩,List.nodup_nil⟩⟩
theorem zf_sep {v u:Value} {B:Nat} {w:World} (h:(cat [NilI,NilI]).va.p B v w):Sep v u∧Sep u v:=by
 obtain ⟨cs,h1,h2⟩:=h
 have e:vbl v=[]:=by rw [h2,vbl_of h1,nil_cells h1]; rfl
 exact ⟨fun g hg=>(by rw [e] at hg; cases hg),fun g _ hg=>(by rw [e] at hg; cases hg)⟩
abbrev FrD (r:RF × Int):VA:=Tu [(RFD r.1).va,In r.2]
def TwD (r:RF × RF × Int):VA where
 p B v w:=∃ v1 v2 e,v=.tuple #[v1,v2,e]∧(RFD r.1).va.p B v1 w∧(RFD r.2.1).va.p B v2 w∧(In r.2.2).p B e w∧Sep v1 v2
 deps:=(RFD r.1).deps++(RFD r.2.1).deps
 cg:=fun B v w w' hg ⟨v1,v2,e,h0,h1,h2,h3,h4⟩=>⟨v1,v2,e,h0,(RFD r.1).va.cg _ _ _ _ hg h1,(RFD r.2.1).va.cg _ _ _ _ hg h2,(In r.2.2).cg _ _ _ _ hg h3,h4⟩
 wr:=fun B v w w' g c T fz k1 k2 k3 k4 ⟨v1,v2,e,h0,h1,h2,h3,h4⟩=>by
  simp only [List.mem_append,not_or] at k2
  exact ⟨v1,v2,e,h0,(RFD r.1).va.wr _ _ _ _ _ _ _ _ k1 k2.1 k3 k4 h1,(RFD r.2.1).va.wr _ _ _ _ _ _ _ _ k1 k2.2 k3 k4 h2,(In r.2.2).wr _ _ _ _ _ _ _ _ k1 (fun h=>by cases h) k3 k4 h3,h4⟩
theorem pin_va {A:As} {u:Value} {c:Prop} {B:Nat} {v:Value} {w:World} (h:(PinA u (A.and c)).va.p B v w):A.va.p B v w∧v=u∧c:=by
 obtain ⟨cs,⟨⟨h1,h2⟩,h3⟩,h4⟩:=h
 exact ⟨⟨cs,h2,h4⟩,h4.trans h3,h1⟩
theorem tw_pins {u v:Value} {c d:Nat} {x y:Rat} {e:VA} {n:Int} (he:Wk e (In n)):Wk (Tu [(PinA u ((QD c x).and (SepAll [] u))).va,(PinA v ((QD d y).and (SepAll [u] v))).va,e]) (TwD (rfOf x,rfOf y,n)):=fun B t w ⟨vs,ht,h⟩=>by
 cases h with
 | cons h1 h=>cases h with
  | cons h2 h=>cases h with
   | cons h3 h =>
    cases h
    obtain ⟨p1,e1,_⟩:=pin_va h1
    obtain ⟨p2,e2,s2⟩:=pin_va h2
    exact ⟨_,_,_,ht,qd_rfd.va _ _ _ p1,qd_rfd.va _ _ _ p2,he _ _ _ h3,by rw [e1,e2]; exact s2 u (by simp)⟩
theorem tw_zero {e:VA} {n:Int} (he:Wk e (In n)):Wk (Tu [(cat [NilI,NilI]).va,(cat [NilI,NilI]).va,e]) (TwD (rf0,rf0,n)):=fun B t w ⟨vs,ht,h⟩=>by
 cases h with
 | cons h1 h=>cases h with
  | cons h2 h=>cases h with
   | cons h3 h =>
    cases h
    exact ⟨_,_,_,ht,zf_rfd.va _ _ _ h1,zf_rfd.va _ _ _ h2,he _ _ _ h3,(zf_sep h1).1⟩
theorem im1_d {c:Nat} {x:Rat} (hc:c≤137438953472):Cn Tryz.prog 169 [Qs c x] (FrD (ansF x)):=by
 refine Cn.intro Tryz.func169 rfl zk nq (fun B w0 a hst=>?_)
 have hst:St B w0 14 [(0,Qs c x)] [] a w0.w:=hst
 refine wp_seq ?_
 refine gl (sts:=[]) (news:=[⟨1,26,ptrH,some 0,_,none⟩,⟨2,26,ptrH,some 1,_,none⟩]) (sp:=[.alc 0,.alc 1,.val 3 _]) [.o 2] hst (oc (ob_box rfl rfl rfl (gq 0 rfl)) (oc (ob_alc rfl rfl rfl (Str.zero str_fracZ)) (zv rfl rfl (r_assign has_num) o0))) (fun a w hst=>?_)
 have hst:St B w0 14 [(3,_)] [⟨1,26,ptrH,_⟩,⟨2,26,ptrH,_⟩] a w:=hst
 refine zt ?_
 refine wp_seq ?_
 refine gl (sts:=[none,none]) (news:=[]) (sp:=[.val 5 _,.val 6 _,.val 7 _,.val 4 _]) [.g 0,.o 3] hst (zv rfl rfl (r_load (lz0 0 rfl) ty_26) (zv rfl rfl (r_slice (D:=[U32]) (l:=[_]) (xs:=[.tmp 5]) (nd_ok zk) sl_142 zk (n_ok zk) nq nq nq (.cons (vq 0 rfl) .nil) rfl rfl) (zv rfl rfl (r_call (xs:=[.tmp 6]) (answer_q [x] (.cons ⟨_,rfl⟩ .nil) nq) (.cons (vq 1 rfl) .nil)) (zv rfl rfl (r_assign (vq 2 rfl)) o0)))) (fun a w hst=>?_)
 have hst:St B w0 14 [(3,_),(4,_)] [⟨1,26,ptrH,_⟩,⟨2,26,ptrH,_⟩] a w:=hst
 refine zt ?_
 refine gl (sts:=[none,none]) (news:=[]) (sp:=[.val 8 _,.val 9 _]) [.g 0,.g 1,.o 1] hst (zv rfl rfl (r_move (gq 1 rfl)) (zv rfl rfl (r_neq (vq 0 rfl) has_num) o0)) (fun a w hst=>?_)
 have hst:St B w0 14 [(3,_),(4,_),(9,_)] [⟨1,26,ptrH,_⟩,⟨2,26,ptrH,_⟩] a w:=hst
 refine thn_normal ?_
 refine cond_of hst (zm 2 rfl) (fun hb0=>?_) (fun hb0=>?_)
 ·rw [one_long,ne0] at hb0
  refine wp_seq ?_
  refine gl (sts:=[none,some (2,_)]) (news:=[]) (sp:=[.val 10 _,.val 11 _,.sto 1,.val 3 _]) [.o 3] hst (zv rfl rfl (r_build (xs:=[]) (qs:=[]) str_fracZ .nil) (zv rfl rfl (r_move (gq 1 rfl)) (oc (ob_sto rfl rfl rfl (vq 0 rfl) ty_26 (Eq.trans (b:=4) rfl rfl)) (zv rfl rfl (r_assign (vq 1 rfl)) o0)))) (fun a w hst=>?_)
  have hst:St B w0 14 [(3,_)] [⟨1,26,ptrH,_⟩,⟨2,26,ptrH,_⟩] a w:=hst
  refine thn_normal ?_
  refine wp_ret ?_
  refine thn_ret ?_
  refine ret_wk ?_ (ret_many (rs:=[.cell 2 26,.tmp 3]) rfl hst (.cell (zm 1 rfl) ty_26 (.tmp (zm 0 rfl) .nil)) zd)
  rw [ansF,if_pos hb0]; exact tu2w zf_rfd.va (wk_eq (by rw [one_long,hb0]; rfl))
 ·rw [one_long,ne0] at hb0
  refine wp_skip ?_
  refine zt ?_
  refine gl (sts:=[none,some (2,_)]) (news:=[]) (sp:=[.val 12 _,.val 13 _,.sto 1,.val 3 _]) [.o 3] hst (zv rfl rfl (r_load (lz0 0 rfl) ty_26) (zv rfl rfl (r_call (xs:=[.tmp 12]) (copyD_q zo) (.cons (vq 0 rfl) .nil)) (oc (ob_sto rfl rfl rfl (vq 1 rfl) ty_26 (Eq.trans (b:=4) rfl rfl)) (zv rfl rfl (r_assign has_num) o0)))) (fun a w hst=>?_)
  have hst:St B w0 14 [(3,_)] [⟨1,26,ptrH,_⟩,⟨2,26,ptrH,_⟩] a w:=hst
  refine thn_normal ?_
  refine wp_ret ?_
  refine ret_wk ?_ (ret_many (rs:=[.cell 2 26,.tmp 3]) rfl hst (.cell (zm 1 rfl) ty_26 (.tmp (zm 0 rfl) .nil)) zd)
  rw [ansF,if_neg (by rw [hb0]; decide)]; exact tu2w qd_rfd.va wk_id
theorem im2_d {c d:Nat} {x y:Rat} (hc:c≤137438953472) (hd:d≤137438953472):Cn Tryz.prog 160 [Qs c x,Qs d y] (TwD (twF x y)):=by
 refine Cn.intro Tryz.func160 rfl zk nq (fun B w0 a hst=>?_)
 have hst:St B w0 21 [(0,Qs c x),(1,Qs d y)] [] a w0.w:=hst
 refine wp_seq ?_
 refine gl (sts:=[]) (news:=[⟨2,26,ptrH,some 0,_,none⟩,⟨3,26,ptrH,some 1,_,none⟩,⟨4,26,ptrH,some 2,_,none⟩,⟨5,26,ptrH,some 3,_,none⟩]) (sp:=[.alc 0,.alc 1,.alc 2,.alc 3,.val 6 _]) [.o 4] hst (oc (ob_box rfl rfl rfl (gq 0 rfl)) (oc (ob_box rfl rfl rfl (gq 1 rfl)) (oc (ob_alc rfl rfl rfl (Str.zero str_fracZ)) (oc (ob_alc rfl rfl rfl (Str.zero str_fracZ)) (zv rfl rfl (r_assign has_num) o0))))) (fun a w hst=>?_)
 have hst:St B w0 21 [(6,_)] [⟨2,26,ptrH,_⟩,⟨3,26,ptrH,_⟩,⟨4,26,ptrH,_⟩,⟨5,26,ptrH,_⟩] a w:=hst
 refine zt ?_
 refine wp_seq ?_
 refine gl (sts:=[none,none,none,none]) (news:=[]) (sp:=[.val 8 _,.val 9 _,.val 10 _,.val 11 _,.val 7 _]) [.g 0,.o 4] hst (zv rfl rfl (r_load (lz0 0 rfl) ty_26) (zv rfl rfl (r_load (lz0 1 rfl) ty_26) (zv rfl rfl (r_slice (D:=[U32]) (l:=[_,_]) (xs:=[.tmp 8,.tmp 9]) (nd_ok zk) sl_142 zk (n_ok zk) nq nq nq (.cons (vq 0 rfl) (.cons (vq 1 rfl) .nil)) rfl rfl) (zv rfl rfl (r_call (xs:=[.tmp 10]) (answer_q [x,y] (.cons ⟨_,rfl⟩ (.cons ⟨_,rfl⟩ .nil)) nq) (.cons (vq 2 rfl) .nil)) (zv rfl rfl (r_assign (vq 3 rfl)) o0))))) (fun a w hst=>?_)
 have hst:St B w0 21 [(6,_),(7,_)] [⟨2,26,ptrH,_⟩,⟨3,26,ptrH,_⟩,⟨4,26,ptrH,_⟩,⟨5,26,ptrH,_⟩] a w:=hst
 refine zt ?_
 refine gl (sts:=[none,none,none,none]) (news:=[]) (sp:=[.val 12 _,.val 13 _]) [.g 0,.g 1,.o 1] hst (zv rfl rfl (r_move (gq 1 rfl)) (zv rfl rfl (r_neq (vq 0 rfl) has_num) o0)) (fun a w hst=>?_)
 have hst:St B w0 21 [(6,_),(7,_),(13,_)] [⟨2,26,ptrH,_⟩,⟨3,26,ptrH,_⟩,⟨4,26,ptrH,_⟩,⟨5,26,ptrH,_⟩] a w:=hst
 refine thn_normal ?_
 refine cond_of hst (zm 2 rfl) (fun hb0=>?_) (fun hb0=>?_)
 ·rw [ne0] at hb0
  refine wp_seq ?_
  refine gl (sts:=[none,none,some (3,_),some (4,_)]) (news:=[]) (sp:=[.val 14 _,.val 15 _,.val 16 _,.sto 2,.sto 3,.val 6 _]) [.o 5] hst (zv rfl rfl (r_build (xs:=[]) (qs:=[]) str_fracZ .nil) (zv rfl rfl (r_build (xs:=[]) (qs:=[]) str_fracZ .nil) (zv rfl rfl (r_move (gq 1 rfl)) (oc (ob_sto rfl rfl rfl (vq 0 rfl) ty_26 (Eq.trans (b:=4) rfl rfl)) (oc (ob_sto rfl rfl rfl (vq 1 rfl) ty_26 (Eq.trans (b:=4) rfl rfl)) (zv rfl rfl (r_assign (vq 2 rfl)) o0)))))) (fun a w hst=>?_)
  have hst:St B w0 21 [(6,_)] [⟨2,26,ptrH,_⟩,⟨3,26,ptrH,_⟩,⟨4,26,ptrH,_⟩,⟨5,26,ptrH,_⟩] a w:=hst
  refine thn_normal ?_
  refine wp_ret ?_
  refine thn_ret ?_
  refine ret_wk ?_ (ret_many (rs:=[.cell 4 26,.cell 5 26,.tmp 6]) rfl hst (.cell (zm 2 rfl) ty_26 (.cell (zm 3 rfl) ty_26 (.tmp (zm 0 rfl) .nil))) zd)
  rw [show twF x y=(rf0,rf0,4) from if_pos hb0]; exact tw_zero (wk_eq (by rw [hb0]; rfl))
 ·rw [ne0] at hb0
  refine wp_skip ?_
  refine zt ?_
  refine go_drawV' [[],[0],[],[0,1,2],[0,1,2,3],[0,1,2,3,4],[0,1,2,3,4,5]] (sts:=[none,none,some (4,fun ν=>_),some (5,fun ν=>_)]) (news:=[]) (sp:=[(fun ν=>.val 17 _),(fun ν=>.val 18 (PinA (ν 1) ((QD c x).and (SepAll [] (ν 1)))).va),(fun ν=>.val 19 _),(fun ν=>.val 20 (PinA (ν 3) ((QD d y).and (SepAll [ν 1] (ν 3)))).va),(fun ν=>.sto 2),(fun ν=>.sto 3),(fun ν=>.val 6 _)]) [.o 6] follows_mixed hst ⟨of_u fun ν=>ob_v rfl rfl (r_load (lz0 0 rfl) ty_26),⟨of_call (us:=fun ν=>[]) (xs:=[.tmp 17]) rfl rfl (copyD_q hc) new_qd free_qd (.cons upA_qa.va .nil) (fun ν=>(.cons (vq 0 rfl) .nil)) (fun _ _=>rfl) (fun ν=>live_nil),⟨of_u fun ν=>ob_v rfl rfl (r_load (lz0 1 rfl) ty_26),⟨of_call (us:=fun ν=>[ν 1]) (xs:=[.tmp 19]) rfl rfl (copyD_q hd) new_qd free_qd (.cons upA_qa.va .nil) (fun ν=>(.cons (vq 2 rfl) .nil)) (fun _ _=>rfl) (fun ν=>(live_cons (new_and new_qd) (vq 1 rfl) live_nil)),⟨of_u fun ν=>ob_sto rfl rfl rfl (vq 1 rfl) ty_26 (Eq.trans (b:=4) rfl rfl),⟨of_u fun ν=>ob_sto rfl rfl rfl (vq 3 rfl) ty_26 (Eq.trans (b:=4) rfl rfl),⟨of_u fun ν=>ob_v rfl rfl (r_assign has_num),trivial⟩⟩⟩⟩⟩⟩⟩ ⟨(fun ν ν' h=>rfl),⟨(fun ν ν' h=>by first | rfl | simp only [h 1 rfl]),⟨(fun ν ν' h=>rfl),⟨(fun ν ν' h=>by first | rfl | simp only [h 1 rfl,h 3 rfl]),⟨(fun ν ν' h=>by first | rfl | simp only [h 1 rfl,h 3 rfl]),⟨(fun ν ν' h=>by first | rfl | simp only [h 1 rfl,h 3 rfl]),⟨(fun ν ν' h=>by first | rfl | simp only [h 1 rfl,h 3 rfl]),trivial⟩⟩⟩⟩⟩⟩⟩ ⟨trivial,⟨trivial,⟨(fun ν ν' h=>by first | rfl | simp only [h 1 rfl,h 3 rfl]),⟨(fun ν ν' h=>by first | rfl | simp only [h 1 rfl,h 3 rfl]),trivial⟩⟩⟩⟩ zk zk (fun ν=>by kernel_rfl) (fun ν=>by kernel_rfl) (fun ν4 a w hst=>?_)
  have hst:St B w0 21 [(6,_)] [⟨2,26,ptrH,_⟩,⟨3,26,ptrH,_⟩,⟨4,26,ptrH,_⟩,⟨5,26,ptrH,_⟩] a w:=hst
  refine thn_normal ?_
  refine wp_ret ?_
  refine ret_wk ?_ (ret_many (rs:=[.cell 4 26,.cell 5 26,.tmp 6]) rfl hst (.cell (zm 2 rfl) ty_26 (.cell (zm 3 rfl) ty_26 (.tmp (zm 0 rfl) .nil))) zd)
  rw [twF,if_neg (by rw [hb0]; decide)]; exact tw_pins wk_id
theorem stopD_c (m:RM) (t:RF):Cn Tryz.prog 33 [(RMA m).va,(RFA t).va] (FrD (stF m t)):=by
 refine Cn.intro Tryz.func33 rfl zk nq (fun B w0 a hst=>?_)
 have hst:St B w0 43 [(0,(RMA m).va),(1,(RFA t).va)] [] a w0.w:=hst
 refine wp_seq ?_
 refine gl (sts:=[]) (news:=[⟨2,28,ptrH,some 0,_,none⟩,⟨3,26,ptrH,some 1,_,none⟩,⟨4,26,ptrH,some 2,_,none⟩]) (sp:=[.alc 0,.alc 1,.alc 2,.val 5 _]) [.o 3] hst (oc (ob_box rfl rfl rfl (gq 0 rfl)) (oc (ob_box rfl rfl rfl (gq 1 rfl)) (oc (ob_alc rfl rfl rfl (Str.zero str_fracZ)) (zv rfl rfl (r_assign has_num) o0)))) (fun a w hst=>?_)
 have hst:St B w0 43 [(5,_)] [⟨2,28,ptrH,_⟩,⟨3,26,ptrH,_⟩,⟨4,26,ptrH,_⟩] a w:=hst
 refine zt ?_
 refine wp_seq ?_
 refine gl (sts:=[none,none,none]) (news:=[]) (sp:=[.val 6 _,.val 7 _,.val 8 _,.val 9 _,.val 10 (Wh (_=false) _),.val 11 (Wh (_=false) _),.val 12 (Wh (_=false) _),.val 13 _,.val 14 _,.val 15 (Wh (_=false) _),.val 16 (Wh (_=false) _),.val 17 (Wh (_=false) _),.val 18 _]) [.g 0,.o 12] hst (zv rfl rfl (r_load (lz0 0 rfl) ty_28) (zv rfl rfl (r_call (xs:=[.tmp 6]) (rayCheck_c _) (.cons (vq 0 rfl) .nil)) (zv rfl rfl (r_neq (vq 1 rfl) has_num) (zv rfl rfl (r_move (vq 2 rfl)) (oc (ob_gd rfl rfl rfl (vq 3 rfl) nq (fun hg=>r_load (lz0 1 rfl) ty_26)) (oc (ob_gd rfl rfl rfl (vq 3 rfl) nq (fun hg=>r_call (xs:=[.tmp 10]) (check_x _) (.cons (has_wh (vq 4 rfl) hg) .nil))) (oc (ob_gd rfl rfl rfl (vq 3 rfl) nq (fun hg=>r_neq (has_wh (vq 5 rfl) hg) has_num)) (zv rfl rfl (r_or (vq 3 rfl) (vq 6 rfl)) (zv rfl rfl (r_move (vq 7 rfl)) (oc (ob_gd rfl rfl rfl (vq 8 rfl) nq (fun hg=>r_load (lz0 1 rfl) ty_26)) (oc (ob_gd rfl rfl rfl (vq 8 rfl) nq (fun hg=>r_call (xs:=[.tmp 15]) (sgn_x hg) (.cons (has_wh (vq 9 rfl) hg) .nil))) (oc (ob_gd rfl rfl rfl (vq 8 rfl) nq (fun hg=>r_lss (has_wh (vq 10 rfl) hg) has_num)) (zv rfl rfl (r_or (vq 8 rfl) (vq 11 rfl)) o0))))))))))))) (fun a w hst=>?_)
 have hst:St B w0 43 [(5,_),(18,_)] [⟨2,28,ptrH,_⟩,⟨3,26,ptrH,_⟩,⟨4,26,ptrH,_⟩] a w:=hst
 refine thn_normal ?_
 refine cond_of hst (zm 1 rfl) (fun hb0=>?_) (fun hb0=>?_)
 ·rw [chk3,Bool.not_eq_true'] at hb0
  refine wp_seq ?_
  refine gl (sts:=[none,none,some (1,_)]) (news:=[]) (sp:=[.val 19 _,.sto 2,.val 5 _]) [.o 2] hst (zv rfl rfl (r_build (xs:=[]) (qs:=[]) str_fracZ .nil) (oc (ob_sto rfl rfl rfl (vq 0 rfl) ty_26 (Eq.trans (b:=4) rfl rfl)) (zv rfl rfl (r_assign has_num) o0))) (fun a w hst=>?_)
  have hst:St B w0 43 [(5,_)] [⟨2,28,ptrH,_⟩,⟨3,26,ptrH,_⟩,⟨4,26,ptrH,_⟩] a w:=hst
  refine thn_normal ?_
  refine wp_ret ?_
  refine thn_ret ?_
  refine ret_wk ?_ (ret_many (rs:=[.cell 4 26,.tmp 5]) rfl hst (.cell (zm 2 rfl) ty_26 (.tmp (zm 0 rfl) .nil)) zd)
  rw [stF,if_neg (by rw [hb0]; decide)]; exact tu2w zf_rfd.va wk_id
 ·rw [chk3,Bool.not_eq_false'] at hb0
  have hb0:=hb0
  have hok:=(Bool.and_eq_true _ _▸hb0:_∧_).1
  have hst:=St.wkL hst 0 rfl (qm_x (okM_all (and_mx hok).1))
  have hst:=St.wkL hst 1 rfl (qa_x (and_mx hok).2 (Nat.le_refl 2048))
  refine wp_skip ?_
  refine zt ?_
  refine wp_seq ?_
  refine gl (sts:=[none,none,none]) (news:=[]) (sp:=[.adr 20 2 (.some 4) True,.val 21 _,.val 22 _]) [.g 0,.o 2] hst (oc (ob_a rfl rfl (a_fld (lz0 0 rfl) fld_28_1)) (zv rfl rfl (r_loadf 0 rfl zk trivial (lz0 0 rfl) (Sub.part 1 rfl rfl) ty_26) (zv rfl rfl (r_call (xs:=[.tmp 21]) sign_q (.cons (vq 1 rfl) .nil)) o0))) (fun a w hst=>?_)
  have hst:St B w0 43 [(5,_),(22,_)] [⟨2,28,ptrH,_⟩,⟨3,26,ptrH,_⟩,⟨4,26,ptrH,_⟩] a w:=hst
  refine thn_normal ?_
  refine wp_block ?_
  refine wp_seq ?_
  refine gl (sts:=[none,none,none]) (news:=[]) (sp:=[.val 24 _,.val 23 _]) [.g 0,.g 1,.o 1] hst (zv rfl rfl (r_eql (gq 1 rfl) has_num) (zv rfl rfl (r_assign (vq 0 rfl)) o0)) (fun a w hst=>?_)
  have hst:St B w0 43 [(5,_),(22,_),(23,_)] [⟨2,28,ptrH,_⟩,⟨3,26,ptrH,_⟩,⟨4,26,ptrH,_⟩] a w:=hst
  refine thn_normal ?_
  refine cond_of hst (zm 2 rfl) (fun hb1=>?_) (fun hb1=>?_)
  ·rw [sgn0,decide_eq_true_eq] at hb1
   refine wp_seq ?_
   refine gl (sts:=[none,none,some (1,_)]) (news:=[]) (sp:=[.val 25 _,.sto 2,.val 5 _]) [.o 2] hst (zv rfl rfl (r_build (xs:=[]) (qs:=[]) str_fracZ .nil) (oc (ob_sto rfl rfl rfl (vq 0 rfl) ty_26 (Eq.trans (b:=4) rfl rfl)) (zv rfl rfl (r_assign has_num) o0))) (fun a w hst=>?_)
   have hst:St B w0 43 [(5,_)] [⟨2,28,ptrH,_⟩,⟨3,26,ptrH,_⟩,⟨4,26,ptrH,_⟩] a w:=hst
   refine thn_normal ?_
   refine wp_ret ?_
   refine blk_ret ?_
   refine thn_ret ?_
   refine ret_wk ?_ (ret_many (rs:=[.cell 4 26,.tmp 5]) rfl hst (.cell (zm 2 rfl) ty_26 (.tmp (zm 0 rfl) .nil)) zd)
   rw [stF,if_pos hb0,if_pos hb1]; exact tu2w zf_rfd.va wk_id
  ·rw [sgn0,decide_eq_false_iff_not] at hb1
   refine wp_seq ?_
   refine gl (sts:=[none,none,none]) (news:=[]) (sp:=[.val 27 _,.val 26 _]) [.g 0,.o 1] hst (zv rfl rfl (r_eql (gq 1 rfl) has_num) (zv rfl rfl (r_assign (vq 0 rfl)) o0)) (fun a w hst=>?_)
   have hst:St B w0 43 [(5,_),(26,_)] [⟨2,28,ptrH,_⟩,⟨3,26,ptrH,_⟩,⟨4,26,ptrH,_⟩] a w:=hst
   refine thn_normal ?_
   refine cond_of hst (zm 1 rfl) (fun hb2=>?_) (fun hb2=>?_)
   ·rw [beq_iff_eq] at hb2
    refine wp_seq ?_
    refine gl (sts:=[none,none,some (7,_)]) (news:=[]) (sp:=[.val 28 _,.adr 29 2 (.some 4) True,.val 30 _,.val 31 _,.val 32 _,.val 33 _,.val 34 _,.sto 2,.val 5 _]) [.o 8] hst (zv rfl rfl (r_load (lz0 1 rfl) ty_26) (oc (ob_a rfl rfl (a_fld (lz0 0 rfl) fld_28_1)) (zv rfl rfl (r_loadf 1 rfl zk trivial (lz0 0 rfl) (Sub.part 1 rfl rfl) ty_26) (zv rfl rfl (r_call (xs:=[.tmp 28,.tmp 30]) (over_q zd hb1) (.cons (vq 0 rfl) (.cons (vq 2 rfl) .nil))) (zv rfl rfl (r_call (xs:=[.tmp 31]) (im1_d zd) (.cons (vq 3 rfl) .nil)) (zv rfl rfl (r_ex0 (vq 4 rfl)) (zv rfl rfl (r_ex1 (vq 4 rfl)) (oc (ob_sto rfl rfl rfl (vq 5 rfl) ty_26 (Eq.trans (b:=4) rfl rfl)) (zv rfl rfl (r_assign (vq 6 rfl)) o0))))))))) (fun a w hst=>?_)
    have hst:St B w0 43 [(5,_)] [⟨2,28,ptrH,_⟩,⟨3,26,ptrH,_⟩,⟨4,26,ptrH,_⟩] a w:=hst
    refine thn_normal ?_
    refine wp_ret ?_
    refine blk_ret ?_
    refine thn_ret ?_
    refine ret_wk ?_ (ret_many (rs:=[.cell 4 26,.tmp 5]) rfl hst (.cell (zm 2 rfl) ty_26 (.tmp (zm 0 rfl) .nil)) zd)
    rw [stF,if_pos hb0,if_neg hb1,if_pos hb2]; exact wk_id
   ·rw [beq_eq_false_iff_ne] at hb2
    refine wp_skip ?_
    refine blk_normal ?_
    refine zt ?_
    refine go_draw (anc:=[[],[],[1],[1,2],[0,1,2,3],[0,1,2,3,4],[0,1,2,3,4,5],[0,1,2,3,4,5],[0,1,2,3,4,5,6,7],[0,1,2,3,4,5,6,7,8]]) (sts:=[none,none,some (8,_)]) (news:=[]) (sp:=[.val 35 _,.adr 36 2 (.some 4) True,.val 37 _,.val 38 _,.val 39 _,.val 40 _,.val 41 _,.val 42 _,.sto 2,.val 5 _]) [.o 9] follows_mixed hst (zv rfl rfl (r_load (lz0 1 rfl) ty_26) (oc (ob_a rfl rfl (a_fld (lz0 0 rfl) fld_28_1)) (zv rfl rfl (r_loadf 1 rfl zk trivial (lz0 0 rfl) (Sub.part 1 rfl rfl) ty_26) (zv rfl rfl (r_call (xs:=[.tmp 37]) (turned_q zd) (.cons (vq 2 rfl) .nil)) (zv rfl rfl (r_call (xs:=[.tmp 35,.tmp 38]) (over_q zd (neg_nz hb1)) (.cons (vq 0 rfl) (.cons (vq 3 rfl) .nil))) (zv rfl rfl (r_call (xs:=[.tmp 39]) (im1_d zd) (.cons (vq 4 rfl) .nil)) (zv rfl rfl (r_ex0 (vq 5 rfl)) (zv rfl rfl (r_ex1 (vq 5 rfl)) (oc (ob_sto rfl rfl rfl (vq 6 rfl) ty_26 (Eq.trans (b:=4) rfl rfl)) (zv rfl rfl (r_assign (vq 7 rfl)) o0)))))))))) zk zk zk zk (fun a w hst=>?_)
    have hst:St B w0 43 [(5,_)] [⟨2,28,ptrH,_⟩,⟨3,26,ptrH,_⟩,⟨4,26,ptrH,_⟩] a w:=hst
    refine thn_normal ?_
    refine wp_ret ?_
    refine ret_wk ?_ (ret_many (rs:=[.cell 4 26,.tmp 5]) rfl hst (.cell (zm 2 rfl) ty_26 (.tmp (zm 0 rfl) .nil)) zd)
    rw [stF,if_pos hb0,if_neg hb1,if_neg hb2]; exact wk_id
def PinV (v:Value) (A:VA):VA where
 p B x w:=x=v∧A.p B x w
 deps:=A.deps
 cg:=fun B x w w' hg ⟨h1,h2⟩=>⟨h1,A.cg _ _ _ _ hg h2⟩
 wr:=fun B x w w' g c T fz h1 h2 h3 h4 ⟨h5,h6⟩=>⟨h5,A.wr _ _ _ _ _ _ _ _ h1 h2 h3 h4 h6⟩
def prj (k:Nat):Value→Value
 | .tuple xs=>(xs[k]?).getD undef
 | _=>undef
def Apr (v:Value):Prop:=Sep (prj 0 v) (prj 1 v)
section
open Rg
variable {P:Program} {Q:Exit→Act→World→Prop} {B N:Nat} {w0:Bs} {Γ:List (Nat × VA)} {ops:Array Oper} {les:List LeF} {sp:List ((Nat→Value)→Sp)} {anc:Nat→List Nat} {i:Nat}
theorem of_name {d:Nat} {op:Op} {T:TypeId} {ps:String} {af:Array Edge} {A:VA} (hs:sp[i]?=some (fun ν=>.val d (PinV (ν i) A))) (ho:ops[i]?=some ⟨some d,op,T,ps,af,none⟩) (h:∀ ν,Wv P Q (fam ops N Γ les sp anc ν) B w0 i op A):ObF P Q ops N Γ les sp anc B w0 i :=
 .inr ⟨d,_,hs,fun ν a w av K hK=>wpOp_of (R:=fam ops N Γ les sp anc ν) ho rfl (h ν d T ps af none a w av K fun v w' hg hp=>hK v w' hg ⟨by rw [nu_same],hp⟩)⟩
theorem prj_run {a:Act} {w:World} {d t k:Nat} {T:TypeId} {ps:String} {af:Array Edge} {vs:List Value} {y:Value} (e:a.eval (.tmp t)=.tuple vs.toArray) (hy:vs[k]?=some y):(execOp a.eval ⟨some d,.extract (.tmp t) k,T,ps,af,none⟩).run P w=.ok (.value y) w:=by
 simp [execOp,e,Instr.extract,hy]
theorem of_prj0 {d t:Nat} {r:RF × RF × Int} {tv:(Nat→Value)→Value} {T:TypeId} {ps:String} {af:Array Edge} (hs:sp[i]?=some (fun ν=>.val d (PinA (ν i) ((RFD r.1).and (ν i=prj 0 (tv ν)∧Apr (tv ν)))).va)) (ho:ops[i]?=some ⟨some d,.extract (.tmp t) 0,T,ps,af,none⟩)
  (hx:∀ ν,Has (fam ops N Γ les sp anc ν) B w0 i (.tmp t) (PinV (tv ν) (TwD r))) (ht:∀ ν v,tv (nuSet ν i v)=tv ν):ObF P Q ops N Γ les sp anc B w0 i:=by
 refine .inr ⟨d,_,hs,fun ν a w av K hK=>?_⟩
 obtain ⟨e1,v1,v2,e,e2,p1,p2,p3,p4⟩:=hx ν a w av
 obtain ⟨cs,hp,hsh⟩:=p1
 refine wpOp_of (R:=fam ops N Γ les sp anc ν) ho rfl (wp_value (w':=w) (v:=v1) (prj_run (vs:=[v1,v2,e]) e2 rfl) (hK v1 w (Grow.refl w) ⟨cs,⟨⟨?_,hp⟩,?_⟩,hsh⟩))
 ·rw [ht,nu_same,← e1,e2]; exact ⟨rfl,p4⟩
 ·rw [nu_same]; exact hsh.symm
theorem of_prj1 {d t:Nat} {r:RF × RF × Int} {tv:(Nat→Value)→Value} {T:TypeId} {ps:String} {af:Array Edge} (hs:sp[i]?=some (fun ν=>.val d (PinA (ν i) ((RFD r.2.1).and (ν i=prj 1 (tv ν)∧Apr (tv ν)))).va)) (ho:ops[i]?=some ⟨some d,.extract (.tmp t) 1,T,ps,af,none⟩)
  (hx:∀ ν,Has (fam ops N Γ les sp anc ν) B w0 i (.tmp t) (PinV (tv ν) (TwD r))) (ht:∀ ν v,tv (nuSet ν i v)=tv ν):ObF P Q ops N Γ les sp anc B w0 i:=by
 refine .inr ⟨d,_,hs,fun ν a w av K hK=>?_⟩
 obtain ⟨e1,v1,v2,e,e2,p1,p2,p3,p4⟩:=hx ν a w av
 obtain ⟨cs,hp,hsh⟩:=p2
 refine wpOp_of (R:=fam ops N Γ les sp anc ν) ho rfl (wp_value (w':=w) (v:=v2) (prj_run (vs:=[v1,v2,e]) e2 rfl) (hK v2 w (Grow.refl w) ⟨cs,⟨⟨?_,hp⟩,?_⟩,hsh⟩))
 ·rw [ht,nu_same,← e1,e2]; exact ⟨rfl,p4⟩
 ·rw [nu_same]; exact hsh.symm
theorem r_prj2 {R:Rg} {t:Nat} {r:RF × RF × Int} {v:Value} (hx:Has R B w0 i (.tmp t) (PinV v (TwD r))):Wv P Q R B w0 i (.extract (.tmp t) 2) (In r.2.2):=by
 intro d T ps af gd a w av K hK
 obtain ⟨e1,v1,v2,e,e2,p1,p2,p3,p4⟩:=hx a w av
 have e3:a.eval (.tmp t)=.tuple #[v1,v2,e]:=e2
 exact wp_value (w':=w) (v:=e) (by simp [execOp,e3,Instr.extract]) (hK e w (Grow.refl w) p3)
end
theorem tw_prj {u v t:Value} {r:RF × RF × Int}:Wk (Tu [(PinA u ((RFD r.1).and (u=prj 0 t∧Apr t))).va,(PinA v ((RFD r.2.1).and (v=prj 1 t∧Apr t))).va,In r.2.2]) (TwD r):=fun B x w ⟨vs,hx,h⟩=>by
 cases h with
 | cons h1 h=>cases h with
  | cons h2 h=>cases h with
   | cons h3 h =>
    cases h
    obtain ⟨p1,e1,e1',s⟩:=pin_va h1
    obtain ⟨p2,e2,e2',_⟩:=pin_va h2
    refine ⟨_,_,_,hx,p1,p2,h3,?_⟩
    rw [e1,e2,e1',e2']
    exact s
theorem imageD_c (m:RM) (t:RF):Cn Tryz.prog 31 [(RMA m).va,(RFA t).va] (TwD (imF m t)):=by
 refine Cn.intro Tryz.func31 rfl zk nq (fun B w0 a hst=>?_)
 have hst:St B w0 42 [(0,(RMA m).va),(1,(RFA t).va)] [] a w0.w:=hst
 refine wp_seq ?_
 refine gl (sts:=[]) (news:=[⟨2,28,ptrH,some 0,_,none⟩,⟨3,26,ptrH,some 1,_,none⟩,⟨4,26,ptrH,some 2,_,none⟩,⟨5,26,ptrH,some 3,_,none⟩]) (sp:=[.alc 0,.alc 1,.alc 2,.alc 3,.val 6 _]) [.o 4] hst (oc (ob_box rfl rfl rfl (gq 0 rfl)) (oc (ob_box rfl rfl rfl (gq 1 rfl)) (oc (ob_alc rfl rfl rfl (Str.zero str_fracZ)) (oc (ob_alc rfl rfl rfl (Str.zero str_fracZ)) (zv rfl rfl (r_assign has_num) o0))))) (fun a w hst=>?_)
 have hst:St B w0 42 [(6,_)] [⟨2,28,ptrH,_⟩,⟨3,26,ptrH,_⟩,⟨4,26,ptrH,_⟩,⟨5,26,ptrH,_⟩] a w:=hst
 refine zt ?_
 refine wp_seq ?_
 refine gl (sts:=[none,none,none,none]) (news:=[]) (sp:=[.val 9 _,.val 10 _,.val 11 _,.val 12 _,.val 13 (Wh (_=false) _),.val 14 (Wh (_=false) _),.val 15 (Wh (_=false) _),.val 16 _]) [.g 0,.o 7] hst (zv rfl rfl (r_load (lz0 0 rfl) ty_28) (zv rfl rfl (r_call (xs:=[.tmp 9]) (rayCheck_c _) (.cons (vq 0 rfl) .nil)) (zv rfl rfl (r_neq (vq 1 rfl) has_num) (zv rfl rfl (r_move (vq 2 rfl)) (oc (ob_gd rfl rfl rfl (vq 3 rfl) nq (fun hg=>r_load (lz0 1 rfl) ty_26)) (oc (ob_gd rfl rfl rfl (vq 3 rfl) nq (fun hg=>r_call (xs:=[.tmp 13]) (check_x _) (.cons (has_wh (vq 4 rfl) hg) .nil))) (oc (ob_gd rfl rfl rfl (vq 3 rfl) nq (fun hg=>r_neq (has_wh (vq 5 rfl) hg) has_num)) (zv rfl rfl (r_or (vq 3 rfl) (vq 6 rfl)) o0)))))))) (fun a w hst=>?_)
 have hst:St B w0 42 [(6,_),(16,_)] [⟨2,28,ptrH,_⟩,⟨3,26,ptrH,_⟩,⟨4,26,ptrH,_⟩,⟨5,26,ptrH,_⟩] a w:=hst
 refine thn_normal ?_
 refine cond_of hst (zm 1 rfl) (fun hb0=>?_) (fun hb0=>?_)
 ·rw [chk2,Bool.not_eq_true'] at hb0
  refine wp_seq ?_
  refine gl (sts:=[none,none,some (2,_),some (3,_)]) (news:=[]) (sp:=[.val 17 _,.val 18 _,.sto 2,.sto 3,.val 6 _]) [.o 4] hst (zv rfl rfl (r_build (xs:=[]) (qs:=[]) str_fracZ .nil) (zv rfl rfl (r_build (xs:=[]) (qs:=[]) str_fracZ .nil) (oc (ob_sto rfl rfl rfl (vq 0 rfl) ty_26 (Eq.trans (b:=4) rfl rfl)) (oc (ob_sto rfl rfl rfl (vq 1 rfl) ty_26 (Eq.trans (b:=4) rfl rfl)) (zv rfl rfl (r_assign has_num) o0))))) (fun a w hst=>?_)
  have hst:St B w0 42 [(6,_)] [⟨2,28,ptrH,_⟩,⟨3,26,ptrH,_⟩,⟨4,26,ptrH,_⟩,⟨5,26,ptrH,_⟩] a w:=hst
  refine thn_normal ?_
  refine wp_ret ?_
  refine thn_ret ?_
  refine ret_wk ?_ (ret_many (rs:=[.cell 4 26,.cell 5 26,.tmp 6]) rfl hst (.cell (zm 2 rfl) ty_26 (.cell (zm 3 rfl) ty_26 (.tmp (zm 0 rfl) .nil))) zd)
  rw [imF,if_neg (by rw [hb0]; decide)]; exact tw_zero wk_id
 ·rw [chk2,Bool.not_eq_false'] at hb0
  have hst:=St.wkL hst 0 rfl (qm_x (okM_all (and_mx hb0).1))
  have hst:=St.wkL hst 1 rfl (qa_x (and_mx hb0).2 (Nat.le_refl 2048))
  refine wp_skip ?_
  refine zt ?_
  refine go_draw (anc:=[[],[0],[],[0,1,2],[0,1,2,3],[0,1,2,3,4],[0,1,2,3,4],[],[],[0,1,2,3,4,5,7,8],[0,1,2,3,4,5,6,7,8,9]]) (sts:=[none,none,none,none]) (news:=[⟨7,26,ptrH,some 7,_,some (9,_)⟩,⟨8,26,ptrH,some 8,_,some (10,_)⟩]) (sp:=[.val 20 _,.val 21 _,.val 22 _,.val 23 _,.val 19 _,.val 24 _,.val 25 _,.alc 4,.alc 5,.sto 4,.sto 5]) [.g 0] follows_mixed hst (zv rfl rfl (r_load (lz0 0 rfl) ty_28) (zv rfl rfl (r_call (xs:=[.tmp 20]) (at_c (toM m)) (.cons (vq 0 rfl) .nil)) (zv rfl rfl (r_load (lz0 1 rfl) ty_26) (zv rfl rfl (r_callv (xs:=[.tmp 22]) (toQ t) (vq 1 rfl) (.cons (vq 2 rfl) .nil)) (zv rfl rfl (r_move (vq 3 rfl)) (zv rfl rfl (r_ex0 (vq 4 rfl)) (zv rfl rfl (r_ex1 (vq 4 rfl)) (oc (ob_alc rfl rfl rfl (Str.zero str_fracZ)) (oc (ob_alc rfl rfl rfl (Str.zero str_fracZ)) (oc (ob_sto rfl rfl rfl (vq 5 rfl) ty_26 (Eq.trans (b:=4) rfl rfl)) (oc (ob_sto rfl rfl rfl (vq 6 rfl) ty_26 (Eq.trans (b:=4) rfl rfl)) o0))))))))))) zk zk zk zk (fun a w hst=>?_)
  have hst:St B w0 42 [(6,_)] [⟨2,28,ptrH,_⟩,⟨3,26,ptrH,_⟩,⟨4,26,ptrH,_⟩,⟨5,26,ptrH,_⟩,⟨7,26,ptrH,_⟩,⟨8,26,ptrH,_⟩] a w:=hst
  refine zt ?_
  refine wp_seq ?_
  refine gl (sts:=[none,none,none,none,none,none]) (news:=[]) (sp:=[.val 26 _,.val 27 _,.val 28 _]) [.g 0,.o 2] hst (zv rfl rfl (r_load (lz0 5 rfl) ty_26) (zv rfl rfl (r_call (xs:=[.tmp 26]) sign_q (.cons (vq 0 rfl) .nil)) (zv rfl rfl (r_eql (vq 1 rfl) has_num) o0))) (fun a w hst=>?_)
  have hst:St B w0 42 [(6,_),(28,_)] [⟨2,28,ptrH,_⟩,⟨3,26,ptrH,_⟩,⟨4,26,ptrH,_⟩,⟨5,26,ptrH,_⟩,⟨7,26,ptrH,_⟩,⟨8,26,ptrH,_⟩] a w:=hst
  refine thn_normal ?_
  refine cond_of hst (zm 1 rfl) (fun hb1=>?_) (fun hb1=>?_)
  ·rw [sgn0,decide_eq_true_eq] at hb1
   refine wp_seq ?_
   refine gl (sts:=[none,none,some (2,_),some (3,_),none,none]) (news:=[]) (sp:=[.val 29 _,.val 30 _,.sto 2,.sto 3,.val 6 _]) [.o 4] hst (zv rfl rfl (r_build (xs:=[]) (qs:=[]) str_fracZ .nil) (zv rfl rfl (r_build (xs:=[]) (qs:=[]) str_fracZ .nil) (oc (ob_sto rfl rfl rfl (vq 0 rfl) ty_26 (Eq.trans (b:=4) rfl rfl)) (oc (ob_sto rfl rfl rfl (vq 1 rfl) ty_26 (Eq.trans (b:=4) rfl rfl)) (zv rfl rfl (r_assign has_num) o0))))) (fun a w hst=>?_)
   have hst:St B w0 42 [(6,_)] [⟨2,28,ptrH,_⟩,⟨3,26,ptrH,_⟩,⟨4,26,ptrH,_⟩,⟨5,26,ptrH,_⟩,⟨7,26,ptrH,_⟩,⟨8,26,ptrH,_⟩] a w:=hst
   refine thn_normal ?_
   refine wp_ret ?_
   refine thn_ret ?_
   refine ret_wk ?_ (ret_many (rs:=[.cell 4 26,.cell 5 26,.tmp 6]) rfl hst (.cell (zm 2 rfl) ty_26 (.cell (zm 3 rfl) ty_26 (.tmp (zm 0 rfl) .nil))) zd)
   rw [imF,if_pos hb0,if_pos hb1]; exact tw_zero wk_id
  ·rw [sgn0,decide_eq_false_iff_not] at hb1
   refine wp_skip ?_
   refine zt ?_
   refine go_drawV' [[],[],[0,1],[0,1,2],[0,1,2,3],[],[0,1,2,3,4,5],[0,1,2,3,4,5,6],[0,1,2,3,4,5,6,7],[0,1,2,3,4,5,6,7],[0,1,2,3,4,5,6,7],[0,1,2,3,4,5,6,7,8,9,10],[0,1,2,3,4,5,6,7,8,9,10,11],[0,1,2,3,4,5,6,7,8,9,10,11,12]] (sts:=[none,none,some (11,fun ν=>_),some (12,fun ν=>_),none,none]) (news:=[]) (sp:=[(fun ν=>.val 31 _),(fun ν=>.val 32 _),(fun ν=>.val 33 _),(fun ν=>.val 34 _),(fun ν=>.val 35 _),(fun ν=>.val 36 _),(fun ν=>.val 37 _),(fun ν=>.val 38 (PinV (ν 7) (TwD (twF (-(upQ (toM m) (toQ t) / loQ (toM m) (toQ t))) (1 / loQ (toM m) (toQ t)))))),(fun ν=>.val 39 (PinA (ν 8) ((RFD (twF (-(upQ (toM m) (toQ t) / loQ (toM m) (toQ t))) (1 / loQ (toM m) (toQ t))).1).and (ν 8=prj 0 (ν 7)∧Apr (ν 7)))).va),(fun ν=>.val 40 (PinA (ν 9) ((RFD (twF (-(upQ (toM m) (toQ t) / loQ (toM m) (toQ t))) (1 / loQ (toM m) (toQ t))).2.1).and (ν 9=prj 1 (ν 7)∧Apr (ν 7)))).va),(fun ν=>.val 41 _),(fun ν=>.sto 2),(fun ν=>.sto 3),(fun ν=>.val 6 _)]) [.o 13] follows_mixed hst ⟨of_u fun ν=>ob_v rfl rfl (r_load (lz0 4 rfl) ty_26),⟨of_u fun ν=>ob_v rfl rfl (r_load (lz0 5 rfl) ty_26),⟨of_u fun ν=>ob_v rfl rfl (r_call (xs:=[.tmp 31,.tmp 32]) (over_q zd hb1) (.cons (vq 0 rfl) (.cons (vq 1 rfl) .nil))),⟨of_u fun ν=>ob_v rfl rfl (r_call (xs:=[.tmp 33]) (turned_q zd) (.cons (vq 2 rfl) .nil)),⟨of_u fun ν=>ob_v rfl rfl (r_call (xs:=[]) one_q .nil),⟨of_u fun ν=>ob_v rfl rfl (r_load (lz0 5 rfl) ty_26),⟨of_u fun ν=>ob_v rfl rfl (r_call (xs:=[.tmp 35,.tmp 36]) (over_q zd hb1) (.cons (vq 4 rfl) (.cons (vq 5 rfl) .nil))),⟨of_name rfl rfl (fun ν=>(r_call (xs:=[.tmp 34,.tmp 37]) (im2_d zd zd) (.cons (vq 3 rfl) (.cons (vq 6 rfl) .nil)))),⟨of_prj0 (tv:=fun ν=>ν 7) rfl rfl (fun ν=>(vq 7 rfl)) (fun ν v=>Rg.nu_ne zd),⟨of_prj1 (tv:=fun ν=>ν 7) rfl rfl (fun ν=>(vq 7 rfl)) (fun ν v=>Rg.nu_ne zd),⟨of_u fun ν=>ob_v rfl rfl (r_prj2 (vq 7 rfl)),⟨of_u fun ν=>ob_sto rfl rfl rfl (vq 8 rfl) ty_26 (Eq.trans (b:=4) rfl rfl),⟨of_u fun ν=>ob_sto rfl rfl rfl (vq 9 rfl) ty_26 (Eq.trans (b:=4) rfl rfl),⟨of_u fun ν=>ob_v rfl rfl (r_assign (vq 10 rfl)),trivial⟩⟩⟩⟩⟩⟩⟩⟩⟩⟩⟩⟩⟩⟩ ⟨(fun ν ν' h=>rfl),⟨(fun ν ν' h=>rfl),⟨(fun ν ν' h=>rfl),⟨(fun ν ν' h=>rfl),⟨(fun ν ν' h=>rfl),⟨(fun ν ν' h=>rfl),⟨(fun ν ν' h=>rfl),⟨(fun ν ν' h=>by first | rfl | simp only [h 7 rfl]),⟨(fun ν ν' h=>by first | rfl | simp only [h 7 rfl,h 8 rfl]),⟨(fun ν ν' h=>by first | rfl | simp only [h 7 rfl,h 9 rfl]),⟨(fun ν ν' h=>by first | rfl | simp only [h 7 rfl]),⟨(fun ν ν' h=>by first | rfl | simp only [h 7 rfl,h 8 rfl,h 9 rfl]),⟨(fun ν ν' h=>by first | rfl | simp only [h 7 rfl,h 8 rfl,h 9 rfl]),⟨(fun ν ν' h=>by first | rfl | simp only [h 7 rfl,h 8 rfl,h 9 rfl]),trivial⟩⟩⟩⟩⟩⟩⟩⟩⟩⟩⟩⟩⟩⟩ ⟨trivial,⟨trivial,⟨(fun ν ν' h=>by first | rfl | simp only [h 7 rfl,h 8 rfl,h 9 rfl]),⟨(fun ν ν' h=>by first | rfl | simp only [h 7 rfl,h 8 rfl,h 9 rfl]),⟨trivial,⟨trivial,trivial⟩⟩⟩⟩⟩⟩ zk zk (fun ν=>by kernel_rfl) (fun ν=>by kernel_rfl) (fun ν6 a w hst=>?_)
   have hst:St B w0 42 [(6,_)] [⟨2,28,ptrH,_⟩,⟨3,26,ptrH,_⟩,⟨4,26,ptrH,_⟩,⟨5,26,ptrH,_⟩,⟨7,26,ptrH,_⟩,⟨8,26,ptrH,_⟩] a w:=hst
   refine thn_normal ?_
   refine wp_ret ?_
   refine ret_wk ?_ (ret_many (rs:=[.cell 4 26,.cell 5 26,.tmp 6]) rfl hst (.cell (zm 2 rfl) ty_26 (.cell (zm 3 rfl) ty_26 (.tmp (zm 0 rfl) .nil))) zd)
   rw [imF,if_pos hb0,if_neg hb1]; exact tw_prj
end Go.Proofs.YthncfchnkjemiaaGreatDoor
