import Derived.Test.YthncfchnkjemiaaGreatDoorMpAa
import Derived.Test.YthncfchnkjemiaaGreatDoorMpAc
import Derived.Test.YthncfchnkjemiaaGreatDoorMpAp
import Derived.Test.YthncfchnkjemiaaGreatDoorMpAq
import Derived.Test.YthncfchnkjemiaaGreatDoorMpBc
set_option linter.unusedVariables false
set_option linter.unusedSimpArgs false
set_option linter.unusedSectionVars false
set_option maxRecDepth 100000
namespace Go.Proofs.YthncfchnkjemiaaGreatDoor
open Go Go.RowKit
theorem sgB_x {x:RG} (h:[x.re,x.im].all okX=true):Cn Tryz.prog 165 [(RFA x.im).va] (In (toQ x.im).num.sign):=by
 simp only [List.all_cons,List.all_nil,Bool.and_true,Bool.and_eq_true] at h
 exact r2sign_q.wk (.cons (qa_x h.2 (Nat.le_refl 2048)).va .nil)
theorem may20_e {x:RG}:([x.re,x.im].all okX && decide ((toQ x.im).num.sign>0))=okB x:=by
 unfold okB bmC
 cases h:[x.re,x.im].all okX with
 | false=>simp
 | true =>
  by_cases h2:(toQ x.im).num.sign≤0
  ·rw [if_pos rfl,if_pos h2]
   have:¬ (toQ x.im).num.sign>0:=by omega
   simp [this]
  ·rw [if_pos rfl,if_neg h2]
   have:(toQ x.im).num.sign>0:=by omega
   simp [this]
theorem r3may_c (x:RG):Cn Tryz.prog 231 [(RGA x).va] (Bo ([x.re,x.im].all okX)):=by
 refine Cn.intro Tryz.func231 rfl zk nq (fun B w0 a hst=>?_)
 have hst:St B w0 9 [(0,(RGA x).va)] [] a w0.w:=hst
 refine wp_seq ?_
 refine gl (sts:=[]) (news:=[⟨1,73,ptrH,some 0,_,none⟩]) (sp:=[.alc 0,.val 2 _]) [.o 1] hst (oc (ob_box rfl rfl rfl (gq 0 rfl)) (zv rfl rfl (r_assign has_bo) o0)) (fun a w hst=>?_)
 have hst:St B w0 9 [(2,_)] [⟨1,73,ptrH,_⟩] a w:=hst
 refine zt ?_
 refine gl (sts:=[none]) (news:=[]) (sp:=[.adr 3 1 (.some 0) True,.val 4 _,.adr 5 1 (.some 4) True,.val 6 _,.val 7 _,.val 8 _,.val 2 _]) [.o 6] hst (oc (ob_a rfl rfl (a_fld (lz0 0 rfl) fld_73_0)) (zv rfl rfl (r_loadf 0 rfl zk trivial (lz0 0 rfl) (Sub.part 0 rfl rfl) ty_26) (oc (ob_a rfl rfl (a_fld (lz0 0 rfl) fld_73_1)) (zv rfl rfl (r_loadf 2 rfl zk trivial (lz0 0 rfl) (Sub.part 1 rfl rfl) ty_26) (zv rfl rfl (r_slice (D:=[U32]) (l:=[_,_]) (xs:=[.tmp 4,.tmp 6]) (nd_ok zk) sl_142 zk (n_ok zk) nq nq nq (.cons (vq 1 rfl) (.cons (vq 3 rfl) .nil)) rfl rfl) (zv rfl rfl (r_call (xs:=[.tmp 7]) (r2checks_c [x.re,x.im] nq) (.cons (vq 4 rfl) .nil)) (zv rfl rfl (r_assign (vq 5 rfl)) o0))))))) (fun a w hst=>?_)
 have hst:St B w0 9 [(2,_)] [⟨1,73,ptrH,_⟩] a w:=hst
 refine thn_normal ?_
 refine wp_ret ?_
 refine ret_wk ?_ (ret_tmp rfl hst (zm 0 rfl))
 exact wk_id
theorem r20may_c (x:RG):Cn Tryz.prog 177 [(RGA x).va] (Bo (okB x)):=by
 refine Cn.intro Tryz.func177 rfl zk nq (fun B w0 a hst=>?_)
 have hst:St B w0 11 [(0,(RGA x).va)] [] a w0.w:=hst
 refine wp_seq ?_
 refine gl (sts:=[]) (news:=[⟨1,73,ptrH,some 0,_,none⟩]) (sp:=[.alc 0,.val 2 _]) [.o 1] hst (oc (ob_box rfl rfl rfl (gq 0 rfl)) (zv rfl rfl (r_assign has_bo) o0)) (fun a w hst=>?_)
 have hst:St B w0 11 [(2,_)] [⟨1,73,ptrH,_⟩] a w:=hst
 refine zt ?_
 refine gl (sts:=[none]) (news:=[]) (sp:=[.val 3 _,.val 4 _,.val 5 _,.adr 6 1 (.some 4) (_=true),.val 7 (Wh (_=true) _),.val 8 (Wh (_=true) _),.val 9 (Wh (_=true) _),.val 10 _,.val 2 _]) [.o 8] hst (zv rfl rfl (r_load (lz0 0 rfl) ty_73) (zv rfl rfl (r_call (xs:=[.tmp 3]) (r3may_c x) (.cons (vq 0 rfl) .nil)) (zv rfl rfl (r_move (vq 1 rfl)) (oc (ob_ag rfl rfl rfl (vq 2 rfl) nq (fun hg=>a_fld (lz0 0 rfl) fld_73_1)) (oc (ob_gd rfl rfl rfl (vq 2 rfl) nq (fun hg=>r_loadf 3 rfl zk hg (lz0 0 rfl) (Sub.part 1 rfl rfl) ty_26)) (oc (ob_gd rfl rfl rfl (vq 2 rfl) nq (fun hg=>r_call (xs:=[.tmp 7]) (sgB_x hg) (.cons (has_wh (vq 4 rfl) hg) .nil))) (oc (ob_gd rfl rfl rfl (vq 2 rfl) nq (fun hg=>r_gtr (has_wh (vq 5 rfl) hg) has_num)) (zv rfl rfl (r_and (vq 2 rfl) (vq 6 rfl)) (zv rfl rfl (r_assign (vq 7 rfl)) o0))))))))) (fun a w hst=>?_)
 have hst:St B w0 11 [(2,_)] [⟨1,73,ptrH,_⟩] a w:=hst
 refine thn_normal ?_
 refine wp_ret ?_
 refine ret_wk ?_ (ret_tmp rfl hst (zm 0 rfl))
 exact wk_eq (congrArg Bo may20_e)
theorem r20square_q {c:Nat} {x:Rat} (hc:c≤400000000):Cn Tryz.prog 300 [Qs c x] (Qs (c+c) (x*x)):=by
 refine Cn.intro Tryz.func300 rfl zk nq (fun B w0 a hst=>?_)
 have hst:St B w0 6 [(0,Qs c x)] [] a w0.w:=hst
 refine wp_seq ?_
 refine gl (sts:=[]) (news:=[⟨1,26,ptrH,some 0,_,none⟩,⟨2,26,ptrH,some 1,_,none⟩]) (sp:=[.alc 0,.alc 1]) [] hst (oc (ob_box rfl rfl rfl (gq 0 rfl)) (oc (ob_alc rfl rfl rfl (Str.zero str_frac)) o0)) (fun a w hst=>?_)
 have hst:St B w0 6 [] [⟨1,26,ptrH,_⟩,⟨2,26,ptrH,_⟩] a w:=hst
 refine zt ?_
 refine gl (sts:=[none,some (3,_)]) (news:=[]) (sp:=[.val 3 _,.val 4 _,.val 5 _,.sto 1]) [] hst (zv rfl rfl (r_load (lz0 0 rfl) ty_26) (zv rfl rfl (r_load (lz0 0 rfl) ty_26) (zv rfl rfl (r_call (xs:=[.tmp 3,.tmp 4]) (r2times_q zo) (.cons (vq 0 rfl) (.cons (vq 1 rfl) .nil))) (oc (ob_sto rfl rfl rfl (vq 2 rfl) ty_26 (Eq.trans (b:=4) rfl rfl)) o0)))) (fun a w hst=>?_)
 have hst:St B w0 6 [] [⟨1,26,ptrH,_⟩,⟨2,26,ptrH,_⟩] a w:=hst
 refine thn_normal ?_
 refine wp_ret ?_
 refine ret_wk ?_ (ret_cell rfl hst (zm 1 rfl) ty_26)
 exact wk_id
theorem r20alike_q {p q:GQ} (hp:0<p.im) (hq:0<q.im):Cn Tryz.prog 178 [(QGA 2048 p).va,(QGA 2048 q).va] (Qs 20487 (alkQ p q)):=by
 refine Cn.intro Tryz.func178 rfl zk nq (fun B w0 a hst=>?_)
 have hst:St B w0 30 [(0,(QGA 2048 p).va),(1,(QGA 2048 q).va)] [] a w0.w:=hst
 refine wp_seq ?_
 refine gl (sts:=[]) (news:=[⟨2,73,ptrH,some 0,_,none⟩,⟨3,73,ptrH,some 1,_,none⟩,⟨4,26,ptrH,some 2,_,none⟩]) (sp:=[.alc 0,.alc 1,.alc 2]) [] hst (oc (ob_box rfl rfl rfl (gq 0 rfl)) (oc (ob_box rfl rfl rfl (gq 1 rfl)) (oc (ob_alc rfl rfl rfl (Str.zero str_frac)) o0))) (fun a w hst=>?_)
 have hst:St B w0 30 [] [⟨2,73,ptrH,_⟩,⟨3,73,ptrH,_⟩,⟨4,26,ptrH,_⟩] a w:=hst
 refine zt ?_
 refine go_draw (anc:=[[],[],[1],[],[3],[0,1,2,3,4],[0,1,2,3,4,5],[],[0,1,2,3,4,5,6,7]]) (sts:=[none,none,none]) (news:=[⟨5,26,ptrH,some 7,_,some (8,_)⟩]) (sp:=[.val 7 _,.adr 8 2 (.some 4) True,.val 9 _,.adr 10 3 (.some 4) True,.val 11 _,.val 12 _,.val 13 _,.alc 3,.sto 3]) [] follows_mixed hst (zv rfl rfl (r_call (xs:=[.const (.int .i64 (4)),.const (.int .i64 (1))]) (r2small_q zd zd zd zd zd) (.cons has_num (.cons has_num .nil))) (oc (ob_a rfl rfl (a_fld (lz0 0 rfl) fld_73_1)) (zv rfl rfl (r_loadf 1 rfl zk trivial (lz0 0 rfl) (Sub.part 1 rfl rfl) ty_26) (oc (ob_a rfl rfl (a_fld (lz0 1 rfl) fld_73_1)) (zv rfl rfl (r_loadf 3 rfl zk trivial (lz0 1 rfl) (Sub.part 1 rfl rfl) ty_26) (zv rfl rfl (r_call (xs:=[.tmp 9,.tmp 11]) (r2times_q zo) (.cons (vq 2 rfl) (.cons (vq 4 rfl) .nil))) (zv rfl rfl (r_call (xs:=[.tmp 7,.tmp 12]) (r2times_q zo) (.cons (vq 0 rfl) (.cons (vq 5 rfl) .nil))) (oc (ob_alc rfl rfl rfl (Str.zero str_frac)) (oc (ob_sto rfl rfl rfl (vq 6 rfl) ty_26 (Eq.trans (b:=4) rfl rfl)) o0))))))))) zk zk zk zk (fun a w hst=>?_)
 have hst:St B w0 30 [] [⟨2,73,ptrH,_⟩,⟨3,73,ptrH,_⟩,⟨4,26,ptrH,_⟩,⟨5,26,ptrH,_⟩] a w:=hst
 refine zt ?_
 refine go_draw (anc:=[[],[0],[],[2],[0,1,2,3],[0,1,2,3,4],[],[6],[],[8],[0,1,2,3,4,5,6,7,8,9],[0,1,2,3,4,5,6,7,8,9,10],[0,1,2,3,4,5,6,7,8,9,10,11],[],[0,1,2,3,4,5,6,7,8,9,10,11,12,13]]) (sts:=[none,none,none,none]) (news:=[⟨6,26,ptrH,some 13,_,some (14,_)⟩]) (sp:=[.adr 14 2 (.some 0) True,.val 15 _,.adr 16 3 (.some 0) True,.val 17 _,.val 18 _,.val 19 _,.adr 20 2 (.some 4) True,.val 21 _,.adr 22 3 (.some 4) True,.val 23 _,.val 24 _,.val 25 _,.val 26 _,.alc 4,.sto 4]) [] follows_mixed hst (oc (ob_a rfl rfl (a_fld (lz0 0 rfl) fld_73_0)) (zv rfl rfl (r_loadf 0 rfl zk trivial (lz0 0 rfl) (Sub.part 0 rfl rfl) ty_26) (oc (ob_a rfl rfl (a_fld (lz0 1 rfl) fld_73_0)) (zv rfl rfl (r_loadf 2 rfl zk trivial (lz0 1 rfl) (Sub.part 0 rfl rfl) ty_26) (zv rfl rfl (r_call (xs:=[.tmp 15,.tmp 17]) (r2minus_q zo) (.cons (vq 1 rfl) (.cons (vq 3 rfl) .nil))) (zv rfl rfl (r_call (xs:=[.tmp 18]) (r20square_q zd) (.cons (vq 4 rfl) .nil)) (oc (ob_a rfl rfl (a_fld (lz0 0 rfl) fld_73_1)) (zv rfl rfl (r_loadf 6 rfl zk trivial (lz0 0 rfl) (Sub.part 1 rfl rfl) ty_26) (oc (ob_a rfl rfl (a_fld (lz0 1 rfl) fld_73_1)) (zv rfl rfl (r_loadf 8 rfl zk trivial (lz0 1 rfl) (Sub.part 1 rfl rfl) ty_26) (zv rfl rfl (r_call (xs:=[.tmp 21,.tmp 23]) (r2plus_q zo) (.cons (vq 7 rfl) (.cons (vq 9 rfl) .nil))) (zv rfl rfl (r_call (xs:=[.tmp 24]) (r20square_q zd) (.cons (vq 10 rfl) .nil)) (zv rfl rfl (r_call (xs:=[.tmp 19,.tmp 25]) (r2plus_q zo) (.cons (vq 5 rfl) (.cons (vq 11 rfl) .nil))) (oc (ob_alc rfl rfl rfl (Str.zero str_frac)) (oc (ob_sto rfl rfl rfl (vq 12 rfl) ty_26 (Eq.trans (b:=4) rfl rfl)) o0))))))))))))))) zk zk zk zk (fun a w hst=>?_)
 have hst:St B w0 30 [] [⟨2,73,ptrH,_⟩,⟨3,73,ptrH,_⟩,⟨4,26,ptrH,_⟩,⟨5,26,ptrH,_⟩,⟨6,26,ptrH,_⟩] a w:=hst
 refine zt ?_
 refine gl (sts:=[none,none,some (3,_),none,none]) (news:=[]) (sp:=[.val 27 _,.val 28 _,.val 29 _,.sto 2]) [] hst (zv rfl rfl (r_load (lz0 3 rfl) ty_26) (zv rfl rfl (r_load (lz0 4 rfl) ty_26) (zv rfl rfl (r_call (xs:=[.tmp 27,.tmp 28]) (r2over_q zd (sq_ne (add_pos hp hq))) (.cons (vq 0 rfl) (.cons (vq 1 rfl) .nil))) (oc (ob_sto rfl rfl rfl (vq 2 rfl) ty_26 (Eq.trans (b:=4) rfl rfl)) o0)))) (fun a w hst=>?_)
 have hst:St B w0 30 [] [⟨2,73,ptrH,_⟩,⟨3,73,ptrH,_⟩,⟨4,26,ptrH,_⟩,⟨5,26,ptrH,_⟩,⟨6,26,ptrH,_⟩] a w:=hst
 refine thn_normal ?_
 refine wp_ret ?_
 refine ret_wk ?_ (ret_cell rfl hst (zm 2 rfl) ty_26)
 exact (qa_mono zd).va
end Go.Proofs.YthncfchnkjemiaaGreatDoor
namespace Go.Proofs.YthncfchnkjemiaaGreatDoor
open Go Go.RowKit
theorem big_e {x:RI}:decide ((x.mag.length:Int)>2048)=bigI x:=by unfold bigI; simp
theorem lq_e {q:Rat}:(bigI (riOf q.num) || bigI (riOf (q.den:Int)))=longQ q:=by simp [longQ]
theorem r1long_c (x:RI):Cn Tryz.prog 301 [(RIA x).va] (Bo (bigI x)):=by
 refine Cn.intro Tryz.func301 rfl zk nq (fun B w0 a hst=>?_)
 have hst:St B w0 7 [(0,(RIA x).va)] [] a w0.w:=hst
 refine wp_seq ?_
 refine gl (sts:=[]) (news:=[⟨1,24,ptrH,some 0,_,none⟩]) (sp:=[.alc 0,.val 2 _]) [.o 1] hst (oc (ob_box rfl rfl rfl (gq 0 rfl)) (zv rfl rfl (r_assign has_bo) o0)) (fun a w hst=>?_)
 have hst:St B w0 7 [(2,_)] [⟨1,24,ptrH,_⟩] a w:=hst
 refine zt ?_
 refine gl (sts:=[none]) (news:=[]) (sp:=[.adr 3 1 (.some 1) True,.val 4 _,.val 5 _,.val 6 _,.val 2 _]) [.o 4] hst (oc (ob_a rfl rfl (a_fld (lz0 0 rfl) fld_24_1)) (zv rfl rfl (r_loadf 0 rfl zk trivial (lz0 0 rfl) (Sub.part 1 rfl rfl) ty_22) (zv rfl rfl (r_lenm Tryz.underlying22 (vq 1 rfl)) (zv rfl rfl (r_gtr (vq 2 rfl) has_num) (zv rfl rfl (r_assign (vq 3 rfl)) o0))))) (fun a w hst=>?_)
 have hst:St B w0 7 [(2,_)] [⟨1,24,ptrH,_⟩] a w:=hst
 refine thn_normal ?_
 refine wp_ret ?_
 refine ret_wk ?_ (ret_tmp rfl hst (zm 0 rfl))
 exact wk_eq (congrArg Bo big_e)
theorem r2long_q {L:List As} (qs:List Rat) (hL:All2 IsQ L qs) (hl:qs.length≤1099511627776):Cn Tryz.prog 179 [(SlA 26 [U32] L).va] (Bo (qs.any longQ)):=by
 have hLl:=hL.length
 refine Cn.introW Tryz.func179 rfl zk nq (.cons (up_sl (isq_up hL)).va .nil) (free_bo _).va (fun B w0 a hB0 hst=>?_)
 have hst:St B w0 24 [(0,(SlO 26 [U32] L True).va)] [] a w0.w:=hst
 refine wp_seq ?_
 refine gl (sts:=[]) (news:=[]) (sp:=[.val 2 _]) [.g 0,.o 0] hst (zv rfl rfl (r_assign has_bo) o0) (fun a w hst=>?_)
 have hst:St B w0 24 [(0,_),(2,_)] [] a w:=hst
 refine zt ?_
 refine wp_seq ?_
 refine gl (sts:=[]) (news:=[]) (sp:=[.val 3 _]) [.g 0,.g 1,.o 0] hst (zv rfl rfl (r_assign has_num) o0) (fun a w hst=>?_)
 have hst:St B w0 24 [(0,_),(2,_),(3,_)] [] a w:=hst
 refine thn_normal ?_
 refine wp_block ?_
 have hst:=St.sel hst [0,2]
 refine wp_loop_ghost (fun n a w=>∃ j:Nat,(n+j=qs.length∧(qs.take j).any longQ=false)∧St B w0 24 [(0,(SlO 26 [U32] L True).va),(3,In (j:Nat))] [] a w) (qs.length) ?_ ?_
 ·exact ⟨0,⟨by omega,rfl⟩,hst⟩
 intro n a w hI
 obtain ⟨j,⟨hn,hno⟩,hst⟩:=hI
 refine wp_seq ?_
 refine wp_seq ?_
 refine gl (sts:=[]) (news:=[]) (sp:=[.val 4 _,.val 5 _,.val 6 _,.val 7 _]) [.g 0,.g 1,.o 3] hst (zv rfl rfl (r_move (gq 1 rfl)) (zv rfl rfl (r_move (gq 0 rfl)) (zv rfl rfl (r_len Tryz.underlying142 (has_and (has_old (vq 1 rfl)))) (zv rfl rfl (r_lss (vq 0 rfl) (vq 2 rfl)) o0)))) (fun a w hst=>?_)
 have hst:St B w0 24 [(0,_),(3,_),(7,_)] [] a w:=hst
 refine thn_normal ?_
 refine cond_of hst (zm 2 rfl) (fun hb0=>?_) (fun hb0=>?_)
 ·have hj:j<qs.length:=by rw [hLl] at hb0; simp at hb0; omega
  obtain ⟨kj,hLj⟩:=isq_at hL hj
  refine wp_skip ?_
  refine zt ?_
  refine wp_block ?_
  refine wp_seq ?_
  refine gl (sts:=[]) (news:=[]) (sp:=[.val 10 _,.val 11 _,.val 12 _,.val 13 _,.val 14 _,.val 15 _,.val 16 _,.val 17 (Wh (_=false) _),.val 18 (Wh (_=false) _),.val 19 (Wh (_=false) _),.val 20 (Wh (_=false) _),.val 21 (Wh (_=false) _),.val 22 (Wh (_=false) _),.val 23 _]) [.g 0,.g 1,.o 13] hst (zv rfl rfl (r_move (gq 0 rfl)) (zv rfl rfl (r_move (gq 1 rfl)) (zv rfl rfl (r_idx sl_142 (isq_n hL) (has_and (has_old (vq 0 rfl))) (vq 1 rfl) hLj) (zv rfl rfl (r_fielde (vq 2 rfl) fld_26_0 (Sub.part 0 rfl rfl)) (zv rfl rfl (r_loade (vq 3 rfl) ty_24) (zv rfl rfl (r_call (xs:=[.tmp 14]) ((r1long_c (riOf (qs[j]).num)).wk (.cons zaA.va .nil)) (.cons (vq 4 rfl) .nil)) (zv rfl rfl (r_move (vq 5 rfl)) (oc (ob_gd rfl rfl rfl (vq 6 rfl) nq (fun hg=>r_move (gq 0 rfl))) (oc (ob_gd rfl rfl rfl (vq 6 rfl) nq (fun hg=>r_move (gq 1 rfl))) (oc (ob_gd rfl rfl rfl (vq 6 rfl) nq (fun hg=>r_idx sl_142 (isq_n hL) (has_and (has_old (has_wh (vq 7 rfl) hg))) (has_wh (vq 8 rfl) hg) hLj)) (oc (ob_gd rfl rfl rfl (vq 6 rfl) nq (fun hg=>r_fielde (has_wh (vq 9 rfl) hg) fld_26_1 (Sub.part 1 rfl rfl))) (oc (ob_gd rfl rfl rfl (vq 6 rfl) nq (fun hg=>r_loade (has_wh (vq 10 rfl) hg) ty_24)) (oc (ob_gd rfl rfl rfl (vq 6 rfl) nq (fun hg=>r_call (xs:=[.tmp 21]) ((r1long_c (riOf ((qs[j]).den:Int))).wk (.cons zaA.va .nil)) (.cons (has_wh (vq 11 rfl) hg) .nil))) (zv rfl rfl (r_or (vq 6 rfl) (vq 12 rfl)) o0)))))))))))))) (fun a w hst=>?_)
  have hst:St B w0 24 [(0,_),(3,_),(23,_)] [] a w:=hst
  refine thn_normal ?_
  refine cond_of hst (zm 2 rfl) (fun hb1=>?_) (fun hb1=>?_)
  ·rw [lq_e] at hb1
   refine wp_seq ?_
   refine gl (sts:=[]) (news:=[]) (sp:=[.val 2 _]) [.g 0,.g 1,.o 0] hst (zv rfl rfl (r_assign has_bo) o0) (fun a w hst=>?_)
   have hst:St B w0 24 [(0,_),(3,_),(2,_)] [] a w:=hst
   refine thn_normal ?_
   refine wp_ret ?_
   refine blk_ret ?_
   refine thn_ret ?_
   refine thn_ret ?_
   refine blk_ret ?_
   refine thn_ret ?_
   refine ret_cast ?_ (ret_tmp rfl hst (zm 2 rfl))
   rw [← lq_some hj hb1]
  ·rw [lq_e] at hb1
   refine wp_skip ?_
   refine blk_normal ?_
   refine thn_normal ?_
   refine gl (sts:=[]) (news:=[]) (sp:=[.val 8 _,.val 9 _,.val 3 _]) [.g 0,.o 2] hst (zv rfl rfl (r_move (gq 1 rfl)) (zv rfl rfl (r_add (vq 0 rfl) has_num (wi_succ zo)) (zv rfl rfl (r_assign (vq 1 rfl)) o0))) (fun a w hst=>?_)
   have hst:St B w0 24 [(0,_),(3,_)] [] a w:=hst
   refine thn_normal ?_
   have hst:=St.sel hst [0,1]
   exact ⟨n - 1,by omega,j+1,⟨by omega,lq_no hj hno hb1⟩,hst⟩
 ·obtain rfl:j=qs.length:=by rw [hLl] at hb0; simp at hb0; omega
  refine wp_exit ?_
  refine thn_exit ?_
  refine thn_exit ?_
  refine blk_exit ?_
  refine zt ?_
  refine gl (sts:=[]) (news:=[]) (sp:=[.val 2 _]) [.o 0] hst (zv rfl rfl (r_assign has_bo) o0) (fun a w hst=>?_)
  have hst:St B w0 24 [(2,_)] [] a w:=hst
  refine thn_normal ?_
  refine wp_ret ?_
  refine ret_cast ?_ (ret_tmp rfl hst (zm 0 rfl))
  rw [List.take_length] at hno; rw [hno]
end Go.Proofs.YthncfchnkjemiaaGreatDoor
