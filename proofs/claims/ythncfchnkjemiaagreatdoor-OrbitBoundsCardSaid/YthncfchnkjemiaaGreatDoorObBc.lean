import Derived.Test.YthncfchnkjemiaaGreatDoorObAa
import Derived.Test.YthncfchnkjemiaaGreatDoorObAc
import Derived.Test.YthncfchnkjemiaaGreatDoorObAq
import Derived.Test.YthncfchnkjemiaaGreatDoorObBb
set_option linter.unusedVariables false
set_option linter.unusedSimpArgs false
set_option linter.unusedSectionVars false
set_option maxRecDepth 100000
namespace Go.Proofs.YthncfchnkjemiaaGreatDoor
open Go Go.RowKit
def fiO (m:RM) (r:RR):Bool:=okM m && [r.y,r.u].all okX
theorem fiO_ok {m:RM} {r:RR} (h:(!fiO m r)=false):okM m=true∧[r.y,r.u].all okX=true:=by
 have h':fiO m r=true:=by simpa using h
 unfold fiO at h'
 rw [Bool.and_eq_true] at h'
 exact h'
theorem fiO_no {m:RM} {r:RR} (h:(!fiO m r)=true):¬ fiO m r=true:=by simpa using h
theorem fiO_yes {m:RM} {r:RR} (h:(!fiO m r)=false):fiO m r=true:=by simpa using h
theorem fine_c (m:RM) (r:RR):Cn Tryz.prog 86 [(RMA m).va,(RRA r).va] (Bo (fiO m r)):=by
 refine Cn.intro Tryz.func86 rfl zk nq (fun B w0 a hst=>?_)
 have hst:St B w0 15 [(0,(RMA m).va),(1,(RRA r).va)] [] a w0.w:=hst
 refine wp_seq ?_
 refine gl (sts:=[]) (news:=[⟨2,28,ptrH,some 0,_,none⟩,⟨3,30,ptrH,some 1,_,none⟩]) (sp:=[.alc 0,.alc 1,.val 4 _]) [.o 2] hst (oc (ob_box rfl rfl rfl (gq 0 rfl)) (oc (ob_box rfl rfl rfl (gq 1 rfl)) (zv rfl rfl (r_assign has_bo) o0))) (fun a w hst=>?_)
 have hst:St B w0 15 [(4,_)] [⟨2,28,ptrH,_⟩,⟨3,30,ptrH,_⟩] a w:=hst
 refine zt ?_
 refine gl (sts:=[none,none]) (news:=[]) (sp:=[.val 5 _,.val 6 _,.val 7 _,.adr 8 3 (.some 0) (_=true),.val 9 (Wh (_=true) _),.adr 10 3 (.some 4) (_=true),.val 11 (Wh (_=true) _),.val 12 (Wh (_=true) _),.val 13 (Wh (_=true) _),.val 14 _,.val 4 _]) [.o 10] hst (zv rfl rfl (r_load (lz0 0 rfl) ty_28) (zv rfl rfl (r_call (xs:=[.tmp 5]) (rowMay_c m) (.cons (vq 0 rfl) .nil)) (zv rfl rfl (r_move (vq 1 rfl)) (oc (ob_ag rfl rfl rfl (vq 2 rfl) nq (fun hg=>a_fld (lz0 1 rfl) fld_30_0)) (oc (ob_gd rfl rfl rfl (vq 2 rfl) nq (fun hg=>r_loadf 3 rfl zk hg (lz0 1 rfl) (Sub.part 0 rfl rfl) ty_26)) (oc (ob_ag rfl rfl rfl (vq 2 rfl) nq (fun hg=>a_fld (lz0 1 rfl) fld_30_1)) (oc (ob_gd rfl rfl rfl (vq 2 rfl) nq (fun hg=>r_loadf 5 rfl zk hg (lz0 1 rfl) (Sub.part 1 rfl rfl) ty_26)) (oc (ob_gd rfl rfl rfl (vq 2 rfl) nq (fun hg=>r_slice (D:=[U32]) (l:=[_,_]) (xs:=[.tmp 9,.tmp 11]) (nd_ok zk) sl_142 zk (n_ok zk) nq nq nq (.cons (has_wh (vq 4 rfl) hg) (.cons (has_wh (vq 6 rfl) hg) .nil)) rfl rfl)) (oc (ob_gd rfl rfl rfl (vq 2 rfl) nq (fun hg=>r_call (xs:=[.tmp 12]) (checks_c [r.y,r.u] nq) (.cons (has_wh (vq 7 rfl) hg) .nil))) (zv rfl rfl (r_and (vq 2 rfl) (vq 8 rfl)) (zv rfl rfl (r_assign (vq 9 rfl)) o0))))))))))) (fun a w hst=>?_)
 have hst:St B w0 15 [(4,_)] [⟨2,28,ptrH,_⟩,⟨3,30,ptrH,_⟩] a w:=hst
 refine thn_normal ?_
 refine wp_ret ?_
 refine ret_wk ?_ (ret_tmp rfl hst (zm 0 rfl))
 exact wk_id
def toO (q:Rat):RF × Int:=if longQ q then (rf0,4) else (rfOf q,0)
def foQ (m:MQ) (r:YQ):Rat:=r.y*(goQ m r).u - r.u*(goQ m r).y
def foO (m:RM) (r:RR):RF × Int:=if fiO m r then toO (foQ (toM m) (toY r)) else (rf0,1)
def shQ' (m:MQ):Rat:=4 - (m.a+m.d)*(m.a+m.d)
theorem to_lo {q:Rat} (h:[q].any longQ=true):toO q=(rf0,4):=by rw [toO,if_pos (by simpa using h)]
theorem to_ok {q:Rat} (h:[q].any longQ=false):toO q=(rfOf q,0):=by rw [toO,if_neg (by simpa using h)]
theorem rowThrough_q {c d:Nat} {m:MQ} {r:YQ} (hk:c+d≤68719476736):Cn Tryz.prog 241 [(QMA c m).va,(QRA d r).va] ((QRA (c+d+(c+d)+1) (goQ m r)).va):=by
 refine Cn.intro Tryz.func241 rfl zk nq (fun B w0 a hst=>?_)
 have hst:St B w0 24 [(0,(QMA c m).va),(1,(QRA d r).va)] [] a w0.w:=hst
 refine wp_seq ?_
 refine gl (sts:=[]) (news:=[⟨2,28,ptrH,some 0,_,none⟩,⟨3,30,ptrH,some 1,_,none⟩,⟨4,30,ptrH,some 2,_,none⟩]) (sp:=[.alc 0,.alc 1,.alc 2]) [] hst (oc (ob_box rfl rfl rfl (gq 0 rfl)) (oc (ob_box rfl rfl rfl (gq 1 rfl)) (oc (ob_alc rfl rfl rfl (Str.zero str_ray)) o0))) (fun a w hst=>?_)
 have hst:St B w0 24 [] [⟨2,28,ptrH,_⟩,⟨3,30,ptrH,_⟩,⟨4,30,ptrH,_⟩] a w:=hst
 refine zt ?_
 refine go_draw (anc:=[[],[0],[],[2],[],[4],[],[6],[0,1,2,3,4,5,6,7],[],[9],[],[11],[],[13],[],[15],[0,1,2,3,4,5,6,7,8,9,10,11,12,13,14,15,16],[0,1,2,3,4,5,6,7,8,9,10,11,12,13,14,15,16,17],[0,1,2,3,4,5,6,7,8,9,10,11,12,13,14,15,16,17,18]]) (sts:=[none,none,some (19,_)]) (news:=[]) (sp:=[.adr 5 2 (.some 0) True,.val 6 _,.adr 7 3 (.some 0) True,.val 8 _,.adr 9 2 (.some 4) True,.val 10 _,.adr 11 3 (.some 4) True,.val 12 _,.val 13 _,.adr 14 2 (.some 8) True,.val 15 _,.adr 16 3 (.some 0) True,.val 17 _,.adr 18 2 (.some 12) True,.val 19 _,.adr 20 3 (.some 4) True,.val 21 _,.val 22 _,.val 23 _,.sto 2]) [] follows_mixed hst (oc (ob_a rfl rfl (a_fld (lz0 0 rfl) fld_28_0)) (zv rfl rfl (r_loadf 0 rfl zk trivial (lz0 0 rfl) (Sub.part 0 rfl rfl) ty_26) (oc (ob_a rfl rfl (a_fld (lz0 1 rfl) fld_30_0)) (zv rfl rfl (r_loadf 2 rfl zk trivial (lz0 1 rfl) (Sub.part 0 rfl rfl) ty_26) (oc (ob_a rfl rfl (a_fld (lz0 0 rfl) fld_28_1)) (zv rfl rfl (r_loadf 4 rfl zk trivial (lz0 0 rfl) (Sub.part 1 rfl rfl) ty_26) (oc (ob_a rfl rfl (a_fld (lz0 1 rfl) fld_30_1)) (zv rfl rfl (r_loadf 6 rfl zk trivial (lz0 1 rfl) (Sub.part 1 rfl rfl) ty_26) (zv rfl rfl (r_call (xs:=[.tmp 6,.tmp 8,.tmp 10,.tmp 12]) (rowPair_q zo) (.cons (vq 1 rfl) (.cons (vq 3 rfl) (.cons (vq 5 rfl) (.cons (vq 7 rfl) .nil))))) (oc (ob_a rfl rfl (a_fld (lz0 0 rfl) fld_28_2)) (zv rfl rfl (r_loadf 9 rfl zk trivial (lz0 0 rfl) (Sub.part 2 rfl rfl) ty_26) (oc (ob_a rfl rfl (a_fld (lz0 1 rfl) fld_30_0)) (zv rfl rfl (r_loadf 11 rfl zk trivial (lz0 1 rfl) (Sub.part 0 rfl rfl) ty_26) (oc (ob_a rfl rfl (a_fld (lz0 0 rfl) fld_28_3)) (zv rfl rfl (r_loadf 13 rfl zk trivial (lz0 0 rfl) (Sub.part 3 rfl rfl) ty_26) (oc (ob_a rfl rfl (a_fld (lz0 1 rfl) fld_30_1)) (zv rfl rfl (r_loadf 15 rfl zk trivial (lz0 1 rfl) (Sub.part 1 rfl rfl) ty_26) (zv rfl rfl (r_call (xs:=[.tmp 15,.tmp 17,.tmp 19,.tmp 21]) (rowPair_q zo) (.cons (vq 10 rfl) (.cons (vq 12 rfl) (.cons (vq 14 rfl) (.cons (vq 16 rfl) .nil))))) (zv rfl rfl (r_build (xs:=[(0,.tmp 13),(1,.tmp 22)]) (qs:=[(0,_),(1,_)]) str_ray (.cons ⟨rfl,(vq 8 rfl),rfl⟩ (.cons ⟨rfl,(vq 17 rfl),rfl⟩ .nil))) (oc (ob_sto rfl rfl rfl (vq 18 rfl) ty_30 (Eq.trans (b:=8) rfl rfl)) o0)))))))))))))))))))) zk zk zk zk (fun a w hst=>?_)
 have hst:St B w0 24 [] [⟨2,28,ptrH,_⟩,⟨3,30,ptrH,_⟩,⟨4,30,ptrH,_⟩] a w:=hst
 refine thn_normal ?_
 refine wp_ret ?_
 refine ret_wk ?_ (ret_cell rfl hst (zm 2 rfl) ty_30)
 exact wk_id
theorem form_q {m:MQ} {r:YQ}:Cn Tryz.prog 88 [(QMA 2048 m).va,(QRA 2048 r).va] (Qs 20484 (foQ m r)):=by
 refine Cn.intro Tryz.func88 rfl zk nq (fun B w0 a hst=>?_)
 have hst:St B w0 20 [(0,(QMA 2048 m).va),(1,(QRA 2048 r).va)] [] a w0.w:=hst
 refine wp_seq ?_
 refine gl (sts:=[]) (news:=[⟨2,28,ptrH,some 0,_,none⟩,⟨3,30,ptrH,some 1,_,none⟩,⟨4,26,ptrH,some 2,_,none⟩]) (sp:=[.alc 0,.alc 1,.alc 2]) [] hst (oc (ob_box rfl rfl rfl (gq 0 rfl)) (oc (ob_box rfl rfl rfl (gq 1 rfl)) (oc (ob_alc rfl rfl rfl (Str.zero str_frac)) o0))) (fun a w hst=>?_)
 have hst:St B w0 20 [] [⟨2,28,ptrH,_⟩,⟨3,30,ptrH,_⟩,⟨4,26,ptrH,_⟩] a w:=hst
 refine zt ?_
 refine gl (sts:=[none,none,none]) (news:=[⟨5,30,ptrH,some 3,_,some (4,_)⟩]) (sp:=[.val 6 _,.val 7 _,.val 8 _,.alc 3,.sto 3]) [] hst (zv rfl rfl (r_load (lz0 0 rfl) ty_28) (zv rfl rfl (r_load (lz0 1 rfl) ty_30) (zv rfl rfl (r_call (xs:=[.tmp 6,.tmp 7]) (rowThrough_q zo) (.cons (vq 0 rfl) (.cons (vq 1 rfl) .nil))) (oc (ob_alc rfl rfl rfl (Str.zero str_ray)) (oc (ob_sto rfl rfl rfl (vq 2 rfl) ty_30 (Eq.trans (b:=8) rfl rfl)) o0))))) (fun a w hst=>?_)
 have hst:St B w0 20 [] [⟨2,28,ptrH,_⟩,⟨3,30,ptrH,_⟩,⟨4,26,ptrH,_⟩,⟨5,30,ptrH,_⟩] a w:=hst
 refine zt ?_
 refine go_draw (anc:=[[],[0],[],[2],[0,1,2,3],[],[5],[],[7],[0,1,2,3,4,5,6,7,8],[0,1,2,3,4,5,6,7,8,9],[0,1,2,3,4,5,6,7,8,9,10]]) (sts:=[none,none,some (11,_),none]) (news:=[]) (sp:=[.adr 9 3 (.some 0) True,.val 10 _,.adr 11 5 (.some 4) True,.val 12 _,.val 13 _,.adr 14 3 (.some 4) True,.val 15 _,.adr 16 5 (.some 0) True,.val 17 _,.val 18 _,.val 19 _,.sto 2]) [] follows_mixed hst (oc (ob_a rfl rfl (a_fld (lz0 1 rfl) fld_30_0)) (zv rfl rfl (r_loadf 0 rfl zk trivial (lz0 1 rfl) (Sub.part 0 rfl rfl) ty_26) (oc (ob_a rfl rfl (a_fld (lz0 3 rfl) fld_30_1)) (zv rfl rfl (r_loadf 2 rfl zk trivial (lz0 3 rfl) (Sub.part 1 rfl rfl) ty_26) (zv rfl rfl (r_call (xs:=[.tmp 10,.tmp 12]) (times_q zo) (.cons (vq 1 rfl) (.cons (vq 3 rfl) .nil))) (oc (ob_a rfl rfl (a_fld (lz0 1 rfl) fld_30_1)) (zv rfl rfl (r_loadf 5 rfl zk trivial (lz0 1 rfl) (Sub.part 1 rfl rfl) ty_26) (oc (ob_a rfl rfl (a_fld (lz0 3 rfl) fld_30_0)) (zv rfl rfl (r_loadf 7 rfl zk trivial (lz0 3 rfl) (Sub.part 0 rfl rfl) ty_26) (zv rfl rfl (r_call (xs:=[.tmp 15,.tmp 17]) (times_q zo) (.cons (vq 6 rfl) (.cons (vq 8 rfl) .nil))) (zv rfl rfl (r_call (xs:=[.tmp 13,.tmp 18]) (minus_q zo) (.cons (vq 4 rfl) (.cons (vq 9 rfl) .nil))) (oc (ob_sto rfl rfl rfl (vq 10 rfl) ty_26 (Eq.trans (b:=4) rfl rfl)) o0)))))))))))) zk zk zk zk (fun a w hst=>?_)
 have hst:St B w0 20 [] [⟨2,28,ptrH,_⟩,⟨3,30,ptrH,_⟩,⟨4,26,ptrH,_⟩,⟨5,30,ptrH,_⟩] a w:=hst
 refine thn_normal ?_
 refine wp_ret ?_
 refine ret_wk ?_ (ret_cell rfl hst (zm 2 rfl) ty_26)
 exact (qa_mono zo).va
theorem short_q {m:MQ}:Cn Tryz.prog 91 [(QMA 2048 m).va] (Qs 8197 (shQ' m)):=by
 refine Cn.intro Tryz.func91 rfl zk nq (fun B w0 a hst=>?_)
 have hst:St B w0 14 [(0,(QMA 2048 m).va)] [] a w0.w:=hst
 refine wp_seq ?_
 refine gl (sts:=[]) (news:=[⟨1,28,ptrH,some 0,_,none⟩,⟨2,26,ptrH,some 1,_,none⟩]) (sp:=[.alc 0,.alc 1]) [] hst (oc (ob_box rfl rfl rfl (gq 0 rfl)) (oc (ob_alc rfl rfl rfl (Str.zero str_frac)) o0)) (fun a w hst=>?_)
 have hst:St B w0 14 [] [⟨1,28,ptrH,_⟩,⟨2,26,ptrH,_⟩] a w:=hst
 refine zt ?_
 refine gl (sts:=[none,none]) (news:=[⟨3,26,ptrH,some 5,_,some (6,_)⟩]) (sp:=[.adr 4 1 (.some 0) True,.val 5 _,.adr 6 1 (.some 12) True,.val 7 _,.val 8 _,.alc 2,.sto 2]) [] hst (oc (ob_a rfl rfl (a_fld (lz0 0 rfl) fld_28_0)) (zv rfl rfl (r_loadf 0 rfl zk trivial (lz0 0 rfl) (Sub.part 0 rfl rfl) ty_26) (oc (ob_a rfl rfl (a_fld (lz0 0 rfl) fld_28_3)) (zv rfl rfl (r_loadf 2 rfl zk trivial (lz0 0 rfl) (Sub.part 3 rfl rfl) ty_26) (zv rfl rfl (r_call (xs:=[.tmp 5,.tmp 7]) (plus_q zo) (.cons (vq 1 rfl) (.cons (vq 3 rfl) .nil))) (oc (ob_alc rfl rfl rfl (Str.zero str_frac)) (oc (ob_sto rfl rfl rfl (vq 4 rfl) ty_26 (Eq.trans (b:=4) rfl rfl)) o0))))))) (fun a w hst=>?_)
 have hst:St B w0 14 [] [⟨1,28,ptrH,_⟩,⟨2,26,ptrH,_⟩,⟨3,26,ptrH,_⟩] a w:=hst
 refine zt ?_
 refine go_draw (anc:=[[],[],[],[0,1,2],[0,1,2,3],[0,1,2,3,4]]) (sts:=[none,some (5,_),none]) (news:=[]) (sp:=[.val 9 _,.val 10 _,.val 11 _,.val 12 _,.val 13 _,.sto 1]) [] follows_mixed hst (zv rfl rfl (r_call (xs:=[.const (.int .i64 (4)),.const (.int .i64 (1))]) (small_q zd zd zd zd zd) (.cons has_num (.cons has_num .nil))) (zv rfl rfl (r_load (lz0 2 rfl) ty_26) (zv rfl rfl (r_load (lz0 2 rfl) ty_26) (zv rfl rfl (r_call (xs:=[.tmp 10,.tmp 11]) (times_q zo) (.cons (vq 1 rfl) (.cons (vq 2 rfl) .nil))) (zv rfl rfl (r_call (xs:=[.tmp 9,.tmp 12]) (minus_q zo) (.cons (vq 0 rfl) (.cons (vq 3 rfl) .nil))) (oc (ob_sto rfl rfl rfl (vq 4 rfl) ty_26 (Eq.trans (b:=4) rfl rfl)) o0)))))) zk zk zk zk (fun a w hst=>?_)
 have hst:St B w0 14 [] [⟨1,28,ptrH,_⟩,⟨2,26,ptrH,_⟩,⟨3,26,ptrH,_⟩] a w:=hst
 refine thn_normal ?_
 refine wp_ret ?_
 refine ret_wk ?_ (ret_cell rfl hst (zm 1 rfl) ty_26)
 exact (qa_mono zo).va
end Go.Proofs.YthncfchnkjemiaaGreatDoor
namespace Go.Proofs.YthncfchnkjemiaaGreatDoor
open Go Go.RowKit
def staQ (m:MQ) (r:YQ):Bool:=if (decide ((shQ' m).num.sign>0) || (((foQ m r).num.sign == 0) && ((shQ' m).num.sign == 0))) then true else if (((shQ' m).num.sign == 0) || ((foQ m r).num.sign != 0)) then false else
 (decide (cmQ ((goQ m r).y*(goQ m r).y) (r.y*r.y)≤0) && decide (cmQ ((goQ m r).u*(goQ m r).u) (r.u*r.u)≤0))
def stO (m:RM) (r:RR):Bool × Int:=if fiO m r then (staQ (toM m) (toY r),0) else (false,1)
def boQ (m:MQ) (r:YQ):Rat:=if (shQ' m).num.sign≤0 then r.y*r.y else Rat.divInt (-4) 1*(m.b*foQ m r) / shQ' m
def boO (m:RM) (r:RR):RF × Int:=if fiO m r then (if staQ (toM m) (toY r) then toO (boQ (toM m) (toY r)) else (rf0,8)) else (rf0,1)
theorem st_1 {m:MQ} {r:YQ} (h:(decide ((shQ' m).num.sign>0) || (((foQ m r).num.sign == 0) && ((shQ' m).num.sign == 0)))=true):staQ m r=true:=by rw [staQ,if_pos h]
theorem st_2 {m:MQ} {r:YQ} (h:(decide ((shQ' m).num.sign>0) || (((foQ m r).num.sign == 0) && ((shQ' m).num.sign == 0)))=false) (h2:(((shQ' m).num.sign == 0) || ((foQ m r).num.sign != 0))=true):staQ m r=false:=by rw [staQ,if_neg (by rw [h]; decide),if_pos h2]
theorem st_3 {m:MQ} {r:YQ} (h:(decide ((shQ' m).num.sign>0) || (((foQ m r).num.sign == 0) && ((shQ' m).num.sign == 0)))=false) (h2:(((shQ' m).num.sign == 0) || ((foQ m r).num.sign != 0))=false):staQ m r=(decide (cmQ ((goQ m r).y*(goQ m r).y) (r.y*r.y)≤0) && decide (cmQ ((goQ m r).u*(goQ m r).u) (r.u*r.u)≤0)):=by rw [staQ,if_neg (by rw [h]; decide),if_neg (by rw [h2]; decide)]
theorem sg_nz {x:Rat} (h:¬ x.num.sign≤0):x≠0:=by rintro rfl; exact h zd
theorem stays1_q {c:Nat} {x:Rat} (hc:c≤137438953472):Cn Tryz.prog 242 [Qs c x] (Qs (c+c) (x*x)):=by
 refine Cn.intro Tryz.func242 rfl zk nq (fun B w0 a hst=>?_)
 have hst:St B w0 6 [(0,Qs c x)] [] a w0.w:=hst
 refine wp_seq ?_
 refine gl (sts:=[]) (news:=[⟨1,26,ptrH,some 0,_,none⟩,⟨2,26,ptrH,some 1,_,none⟩]) (sp:=[.alc 0,.alc 1]) [] hst (oc (ob_box rfl rfl rfl (gq 0 rfl)) (oc (ob_alc rfl rfl rfl (Str.zero str_frac)) o0)) (fun a w hst=>?_)
 have hst:St B w0 6 [] [⟨1,26,ptrH,_⟩,⟨2,26,ptrH,_⟩] a w:=hst
 refine zt ?_
 refine gl (sts:=[none,some (3,_)]) (news:=[]) (sp:=[.val 3 _,.val 4 _,.val 5 _,.sto 1]) [] hst (zv rfl rfl (r_load (lz0 0 rfl) ty_26) (zv rfl rfl (r_load (lz0 0 rfl) ty_26) (zv rfl rfl (r_call (xs:=[.tmp 3,.tmp 4]) (times_q zo) (.cons (vq 0 rfl) (.cons (vq 1 rfl) .nil))) (oc (ob_sto rfl rfl rfl (vq 2 rfl) ty_26 (Eq.trans (b:=4) rfl rfl)) o0)))) (fun a w hst=>?_)
 have hst:St B w0 6 [] [⟨1,26,ptrH,_⟩,⟨2,26,ptrH,_⟩] a w:=hst
 refine thn_normal ?_
 refine wp_ret ?_
 refine ret_wk ?_ (ret_cell rfl hst (zm 1 rfl) ty_26)
 exact wk_id
theorem stays_q {m:MQ} {r:YQ}:Cn Tryz.prog 89 [(QMA 2048 m).va,(QRA 2048 r).va] (Bo (staQ m r)):=by
 refine Cn.intro Tryz.func89 rfl zk nq (fun B w0 a hst=>?_)
 have hst:St B w0 58 [(0,(QMA 2048 m).va),(1,(QRA 2048 r).va)] [] a w0.w:=hst
 refine wp_seq ?_
 refine gl (sts:=[]) (news:=[⟨2,28,ptrH,some 0,_,none⟩,⟨3,30,ptrH,some 1,_,none⟩]) (sp:=[.alc 0,.alc 1,.val 4 _]) [.o 2] hst (oc (ob_box rfl rfl rfl (gq 0 rfl)) (oc (ob_box rfl rfl rfl (gq 1 rfl)) (zv rfl rfl (r_assign has_bo) o0))) (fun a w hst=>?_)
 have hst:St B w0 58 [(4,_)] [⟨2,28,ptrH,_⟩,⟨3,30,ptrH,_⟩] a w:=hst
 refine zt ?_
 refine gl (sts:=[none,none]) (news:=[]) (sp:=[.val 8 _,.val 9 _,.val 10 _,.val 5 _]) [.g 0,.o 3] hst (zv rfl rfl (r_load (lz0 0 rfl) ty_28) (zv rfl rfl (r_call (xs:=[.tmp 8]) short_q (.cons (vq 0 rfl) .nil)) (zv rfl rfl (r_call (xs:=[.tmp 9]) sign_q (.cons (vq 1 rfl) .nil)) (zv rfl rfl (r_assign (vq 2 rfl)) o0)))) (fun a w hst=>?_)
 have hst:St B w0 58 [(4,_),(5,_)] [⟨2,28,ptrH,_⟩,⟨3,30,ptrH,_⟩] a w:=hst
 refine zt ?_
 refine wp_seq ?_
 refine gl (sts:=[none,none]) (news:=[]) (sp:=[.val 11 _,.val 12 _,.val 13 _,.val 14 (Wh (_=false) _),.val 15 (Wh (_=false) _),.val 16 (Wh (_=false) _),.val 17 (Wh (_=false) _),.val 18 (Wh (_=false) _),.val 19 (Wh (_=false) _),.val 20 (Wh ((_=false)∧_=true) _),.val 21 (Wh ((_=false)∧_=true) _),.val 22 (Wh (_=false) _),.val 23 _]) [.g 0,.g 1,.o 12] hst (zv rfl rfl (r_move (gq 1 rfl)) (zv rfl rfl (r_gtr (vq 0 rfl) has_num) (zv rfl rfl (r_move (vq 1 rfl)) (oc (ob_gd rfl rfl rfl (vq 2 rfl) nq (fun hg=>r_load (lz0 0 rfl) ty_28)) (oc (ob_gd rfl rfl rfl (vq 2 rfl) nq (fun hg=>r_load (lz0 1 rfl) ty_30)) (oc (ob_gd rfl rfl rfl (vq 2 rfl) nq (fun hg=>r_call (xs:=[.tmp 14,.tmp 15]) form_q (.cons (has_wh (vq 3 rfl) hg) (.cons (has_wh (vq 4 rfl) hg) .nil)))) (oc (ob_gd rfl rfl rfl (vq 2 rfl) nq (fun hg=>r_call (xs:=[.tmp 16]) sign_q (.cons (has_wh (vq 5 rfl) hg) .nil))) (oc (ob_gd rfl rfl rfl (vq 2 rfl) nq (fun hg=>r_eql (has_wh (vq 6 rfl) hg) has_num)) (oc (ob_gd rfl rfl rfl (vq 2 rfl) nq (fun hg=>r_move (has_wh (vq 7 rfl) hg))) (oc (ob_gd2 rfl rfl rfl (vq 8 rfl) nq (fun hg=>r_move (gq 1 rfl))) (oc (ob_gd2 rfl rfl rfl (vq 8 rfl) nq (fun hg=>r_eql (has_wh (vq 9 rfl) hg) has_num)) (oc (ob_gd rfl rfl rfl (vq 2 rfl) nq (fun hg=>r_and (has_wh (vq 8 rfl) hg) (has_wh2 (vq 10 rfl) hg))) (zv rfl rfl (r_or (vq 2 rfl) (vq 11 rfl)) o0))))))))))))) (fun a w hst=>?_)
 have hst:St B w0 58 [(4,_),(5,_),(23,_)] [⟨2,28,ptrH,_⟩,⟨3,30,ptrH,_⟩] a w:=hst
 refine thn_normal ?_
 refine cond_of hst (zm 2 rfl) (fun hb0=>?_) (fun hb0=>?_)
 ·refine wp_seq ?_
  refine gl (sts:=[none,none]) (news:=[]) (sp:=[.val 4 _]) [.g 1,.o 0] hst (zv rfl rfl (r_assign has_bo) o0) (fun a w hst=>?_)
  have hst:St B w0 58 [(5,_),(4,_)] [⟨2,28,ptrH,_⟩,⟨3,30,ptrH,_⟩] a w:=hst
  refine thn_normal ?_
  refine wp_ret ?_
  refine thn_ret ?_
  refine ret_wk ?_ (ret_tmp rfl hst (zm 1 rfl))
  rw [st_1 hb0]; exact wk_id
 ·refine wp_skip ?_
  refine zt ?_
  refine wp_seq ?_
  refine gl (sts:=[none,none]) (news:=[]) (sp:=[.val 24 _,.val 25 _,.val 26 _,.val 27 (Wh (_=false) _),.val 28 (Wh (_=false) _),.val 29 (Wh (_=false) _),.val 30 (Wh (_=false) _),.val 31 (Wh (_=false) _),.val 32 _]) [.g 0,.o 8] hst (zv rfl rfl (r_move (gq 1 rfl)) (zv rfl rfl (r_eql (vq 0 rfl) has_num) (zv rfl rfl (r_move (vq 1 rfl)) (oc (ob_gd rfl rfl rfl (vq 2 rfl) nq (fun hg=>r_load (lz0 0 rfl) ty_28)) (oc (ob_gd rfl rfl rfl (vq 2 rfl) nq (fun hg=>r_load (lz0 1 rfl) ty_30)) (oc (ob_gd rfl rfl rfl (vq 2 rfl) nq (fun hg=>r_call (xs:=[.tmp 27,.tmp 28]) form_q (.cons (has_wh (vq 3 rfl) hg) (.cons (has_wh (vq 4 rfl) hg) .nil)))) (oc (ob_gd rfl rfl rfl (vq 2 rfl) nq (fun hg=>r_call (xs:=[.tmp 29]) sign_q (.cons (has_wh (vq 5 rfl) hg) .nil))) (oc (ob_gd rfl rfl rfl (vq 2 rfl) nq (fun hg=>r_neq (has_wh (vq 6 rfl) hg) has_num)) (zv rfl rfl (r_or (vq 2 rfl) (vq 7 rfl)) o0))))))))) (fun a w hst=>?_)
  have hst:St B w0 58 [(4,_),(32,_)] [⟨2,28,ptrH,_⟩,⟨3,30,ptrH,_⟩] a w:=hst
  refine thn_normal ?_
  refine cond_of hst (zm 1 rfl) (fun hb1=>?_) (fun hb1=>?_)
  ·refine wp_seq ?_
   refine gl (sts:=[none,none]) (news:=[]) (sp:=[.val 4 _]) [.o 0] hst (zv rfl rfl (r_assign has_bo) o0) (fun a w hst=>?_)
   have hst:St B w0 58 [(4,_)] [⟨2,28,ptrH,_⟩,⟨3,30,ptrH,_⟩] a w:=hst
   refine thn_normal ?_
   refine wp_ret ?_
   refine thn_ret ?_
   refine ret_wk ?_ (ret_tmp rfl hst (zm 0 rfl))
   rw [st_2 hb0 hb1]; exact wk_id
  ·refine wp_skip ?_
   refine zt ?_
   refine gl (sts:=[none,none]) (news:=[⟨6,30,ptrH,some 3,_,some (4,_)⟩]) (sp:=[.val 33 _,.val 34 _,.val 35 _,.alc 2,.sto 2]) [.g 0] hst (zv rfl rfl (r_load (lz0 0 rfl) ty_28) (zv rfl rfl (r_load (lz0 1 rfl) ty_30) (zv rfl rfl (r_call (xs:=[.tmp 33,.tmp 34]) (rowThrough_q zo) (.cons (vq 0 rfl) (.cons (vq 1 rfl) .nil))) (oc (ob_alc rfl rfl rfl (Str.zero str_ray)) (oc (ob_sto rfl rfl rfl (vq 2 rfl) ty_30 (Eq.trans (b:=8) rfl rfl)) o0))))) (fun a w hst=>?_)
   have hst:St B w0 58 [(4,_)] [⟨2,28,ptrH,_⟩,⟨3,30,ptrH,_⟩,⟨6,30,ptrH,_⟩] a w:=hst
   refine zt ?_
   refine gl (sts:=[none,none,none]) (news:=[]) (sp:=[.val 7 _]) [.g 0,.o 0] hst (zv rfl rfl (r_assign has_fnE) o0) (fun a w hst=>?_)
   have hst:St B w0 58 [(4,_),(7,_)] [⟨2,28,ptrH,_⟩,⟨3,30,ptrH,_⟩,⟨6,30,ptrH,_⟩] a w:=hst
   refine zt ?_
   refine go_draw (anc:=[[],[],[1],[0,1,2],[],[],[5],[0,1,2,3,4,5,6],[0,1,2,3,4,5,6,7],[0,1,2,3,4,5,6,7,8],[0,1,2,3,4,5,6,7,8,9],[0,1,2,3,4,5,6,7,8,9,10],[0,1,2,3,4,5,6,7,8,9,10],[0,1,2,3,4,5,6,7,8,9,10,12],[0,1,2,3,4,5,6,7,8,9,10,11,12,13],[0,1,2,3,4,5,6,7,8,9,10],[0,1,2,3,4,5,6,7,8,9,10],[0,1,2,3,4,5,6,7,8,9,10,16],[0,1,2,3,4,5,6,7,8,9,10,11,12,13,14,15,16,17],[0,1,2,3,4,5,6,7,8,9,10,11,12,13,14,15,16,17,18],[0,1,2,3,4,5,6,7,8,9,10,11,12,13,14,15,16,17,18,19],[0,1,2,3,4,5,6,7,8,9,10,11,12,13,14,15,16,17,18,19,20],[0,1,2,3,4,5,6,7,8,9,10,11,12,13,14,15,16,17,18,19,20,21]]) (sts:=[none,none,none]) (news:=[]) (sp:=[.val 36 _,.adr 37 6 (.some 0) True,.val 38 _,.val 39 _,.val 40 _,.adr 41 3 (.some 0) True,.val 42 _,.val 43 _,.val 44 _,.val 45 _,.val 46 _,.val 47 (Wh (_=true) _),.adr 48 6 (.some 4) (_=true),.val 49 (Wh (_=true) _),.val 50 (Wh (_=true) _),.val 51 (Wh (_=true) _),.adr 52 3 (.some 4) (_=true),.val 53 (Wh (_=true) _),.val 54 (Wh (_=true) _),.val 55 (Wh (_=true) _),.val 56 (Wh (_=true) _),.val 57 _,.val 4 _]) [.o 22] follows_mixed hst (zv rfl rfl (r_move (gq 1 rfl)) (oc (ob_a rfl rfl (a_fld (lz0 2 rfl) fld_30_0)) (zv rfl rfl (r_loadf 1 rfl zk trivial (lz0 2 rfl) (Sub.part 0 rfl rfl) ty_26) (zv rfl rfl (r_callE (xs:=[.tmp 38]) (stays1_q zo) (vq 0 rfl) (.cons (vq 2 rfl) .nil)) (zv rfl rfl (r_move (gq 1 rfl)) (oc (ob_a rfl rfl (a_fld (lz0 1 rfl) fld_30_0)) (zv rfl rfl (r_loadf 5 rfl zk trivial (lz0 1 rfl) (Sub.part 0 rfl rfl) ty_26) (zv rfl rfl (r_callE (xs:=[.tmp 42]) (stays1_q zo) (vq 4 rfl) (.cons (vq 6 rfl) .nil)) (zv rfl rfl (r_call (xs:=[.tmp 39,.tmp 43]) (cmp_q zo) (.cons (vq 3 rfl) (.cons (vq 7 rfl) .nil))) (zv rfl rfl (r_leq (vq 8 rfl) has_num) (zv rfl rfl (r_move (vq 9 rfl)) (oc (ob_gd rfl rfl rfl (vq 10 rfl) nq (fun hg=>r_move (gq 1 rfl))) (oc (ob_ag rfl rfl rfl (vq 10 rfl) nq (fun hg=>a_fld (lz0 2 rfl) fld_30_1)) (oc (ob_gd rfl rfl rfl (vq 10 rfl) nq (fun hg=>r_loadf 12 rfl zk hg (lz0 2 rfl) (Sub.part 1 rfl rfl) ty_26)) (oc (ob_gd rfl rfl rfl (vq 10 rfl) nq (fun hg=>r_callE (xs:=[.tmp 49]) (stays1_q zo) (has_wh (vq 11 rfl) hg) (.cons (has_wh (vq 13 rfl) hg) .nil))) (oc (ob_gd rfl rfl rfl (vq 10 rfl) nq (fun hg=>r_move (gq 1 rfl))) (oc (ob_ag rfl rfl rfl (vq 10 rfl) nq (fun hg=>a_fld (lz0 1 rfl) fld_30_1)) (oc (ob_gd rfl rfl rfl (vq 10 rfl) nq (fun hg=>r_loadf 16 rfl zk hg (lz0 1 rfl) (Sub.part 1 rfl rfl) ty_26)) (oc (ob_gd rfl rfl rfl (vq 10 rfl) nq (fun hg=>r_callE (xs:=[.tmp 53]) (stays1_q zo) (has_wh (vq 15 rfl) hg) (.cons (has_wh (vq 17 rfl) hg) .nil))) (oc (ob_gd rfl rfl rfl (vq 10 rfl) nq (fun hg=>r_call (xs:=[.tmp 50,.tmp 54]) (cmp_q zo) (.cons (has_wh (vq 14 rfl) hg) (.cons (has_wh (vq 18 rfl) hg) .nil)))) (oc (ob_gd rfl rfl rfl (vq 10 rfl) nq (fun hg=>r_leq (has_wh (vq 19 rfl) hg) has_num)) (zv rfl rfl (r_and (vq 10 rfl) (vq 20 rfl)) (zv rfl rfl (r_assign (vq 21 rfl)) o0))))))))))))))))))))))) zk zk zk zk (fun a w hst=>?_)
   have hst:St B w0 58 [(4,_)] [⟨2,28,ptrH,_⟩,⟨3,30,ptrH,_⟩,⟨6,30,ptrH,_⟩] a w:=hst
   refine thn_normal ?_
   refine wp_ret ?_
   refine ret_wk ?_ (ret_tmp rfl hst (zm 0 rfl))
   rw [st_3 hb0 hb1]; exact wk_id
theorem stays_c (m:RM) (r:RR):Cn Tryz.prog 15 [(RMA m).va,(RRA r).va] (Tu [Bo (stO m r).1,In (stO m r).2]):=by
 refine Cn.intro Tryz.func15 rfl zk nq (fun B w0 a hst=>?_)
 have hst:St B w0 13 [(0,(RMA m).va),(1,(RRA r).va)] [] a w0.w:=hst
 refine wp_seq ?_
 refine gl (sts:=[]) (news:=[⟨2,28,ptrH,some 0,_,none⟩,⟨3,30,ptrH,some 1,_,none⟩]) (sp:=[.alc 0,.alc 1,.val 4 _,.val 5 _]) [.o 2,.o 3] hst (oc (ob_box rfl rfl rfl (gq 0 rfl)) (oc (ob_box rfl rfl rfl (gq 1 rfl)) (zv rfl rfl (r_assign has_bo) (zv rfl rfl (r_assign has_num) o0)))) (fun a w hst=>?_)
 have hst:St B w0 13 [(4,_),(5,_)] [⟨2,28,ptrH,_⟩,⟨3,30,ptrH,_⟩] a w:=hst
 refine zt ?_
 refine wp_seq ?_
 refine gl (sts:=[none,none]) (news:=[]) (sp:=[.val 6 _,.val 7 _,.val 8 _,.val 9 _]) [.g 0,.g 1,.o 3] hst (zv rfl rfl (r_load (lz0 0 rfl) ty_28) (zv rfl rfl (r_load (lz0 1 rfl) ty_30) (zv rfl rfl (r_call (xs:=[.tmp 6,.tmp 7]) (fine_c m r) (.cons (vq 0 rfl) (.cons (vq 1 rfl) .nil))) (zv rfl rfl (r_not (vq 2 rfl)) o0)))) (fun a w hst=>?_)
 have hst:St B w0 13 [(4,_),(5,_),(9,_)] [⟨2,28,ptrH,_⟩,⟨3,30,ptrH,_⟩] a w:=hst
 refine thn_normal ?_
 refine cond_of hst (zm 2 rfl) (fun hb0=>?_) (fun hb0=>?_)
 ·refine wp_seq ?_
  refine gl (sts:=[none,none]) (news:=[]) (sp:=[.val 4 _,.val 5 _]) [.o 0,.o 1] hst (zv rfl rfl (r_assign has_bo) (zv rfl rfl (r_assign has_num) o0)) (fun a w hst=>?_)
  have hst:St B w0 13 [(4,_),(5,_)] [⟨2,28,ptrH,_⟩,⟨3,30,ptrH,_⟩] a w:=hst
  refine thn_normal ?_
  refine wp_ret ?_
  refine thn_ret ?_
  refine ret_wk ?_ (ret_many (rs:=[.tmp 4,.tmp 5]) rfl hst (.tmp (zm 0 rfl) (.tmp (zm 1 rfl) .nil)) zd)
  rw [stO,if_neg (fiO_no hb0)]; exact wk_id
 ·have hok:=fiO_ok hb0
  have hy:=fiO_yes hb0
  have hst:=St.wkL hst 0 rfl (qm_x (okM_q hok.1).1)
  have hst:=St.wkL hst 1 rfl (qr_x hok.2)
  refine wp_skip ?_
  refine zt ?_
  refine gl (sts:=[none,none]) (news:=[]) (sp:=[.val 10 _,.val 11 _,.val 12 _,.val 4 _,.val 5 _]) [.o 3,.o 4] hst (zv rfl rfl (r_load (lz0 0 rfl) ty_28) (zv rfl rfl (r_load (lz0 1 rfl) ty_30) (zv rfl rfl (r_call (xs:=[.tmp 10,.tmp 11]) stays_q (.cons (vq 0 rfl) (.cons (vq 1 rfl) .nil))) (zv rfl rfl (r_assign (vq 2 rfl)) (zv rfl rfl (r_assign has_num) o0))))) (fun a w hst=>?_)
  have hst:St B w0 13 [(4,_),(5,_)] [⟨2,28,ptrH,_⟩,⟨3,30,ptrH,_⟩] a w:=hst
  refine thn_normal ?_
  refine wp_ret ?_
  refine ret_wk ?_ (ret_many (rs:=[.tmp 4,.tmp 5]) rfl hst (.tmp (zm 0 rfl) (.tmp (zm 1 rfl) .nil)) zd)
  rw [stO,if_pos hy]; exact wk_id
end Go.Proofs.YthncfchnkjemiaaGreatDoor
namespace Go.Proofs.YthncfchnkjemiaaGreatDoor
open Go Go.RowKit
theorem formD_q {m:MQ} {r:YQ}:Cn Tryz.prog 88 [(QMA 2048 m).va,(QRA 2048 r).va] ((QD 20484 (foQ m r)).va):=by
 refine Cn.intro Tryz.func88 rfl zk nq (fun B w0 a hst=>?_)
 have hst:St B w0 20 [(0,(QMA 2048 m).va),(1,(QRA 2048 r).va)] [] a w0.w:=hst
 refine wp_seq ?_
 refine gl (sts:=[]) (news:=[⟨2,28,ptrH,some 0,_,none⟩,⟨3,30,ptrH,some 1,_,none⟩,⟨4,26,ptrH,some 2,_,none⟩]) (sp:=[.alc 0,.alc 1,.alc 2]) [] hst (oc (ob_box rfl rfl rfl (gq 0 rfl)) (oc (ob_box rfl rfl rfl (gq 1 rfl)) (oc (ob_alc rfl rfl rfl (Str.zero str_fracZ)) o0))) (fun a w hst=>?_)
 have hst:St B w0 20 [] [⟨2,28,ptrH,_⟩,⟨3,30,ptrH,_⟩,⟨4,26,ptrH,_⟩] a w:=hst
 refine zt ?_
 refine gl (sts:=[none,none,none]) (news:=[⟨5,30,ptrH,some 3,_,some (4,_)⟩]) (sp:=[.val 6 _,.val 7 _,.val 8 _,.alc 3,.sto 3]) [] hst (zv rfl rfl (r_load (lz0 0 rfl) ty_28) (zv rfl rfl (r_load (lz0 1 rfl) ty_30) (zv rfl rfl (r_call (xs:=[.tmp 6,.tmp 7]) (rowThrough_q zo) (.cons (vq 0 rfl) (.cons (vq 1 rfl) .nil))) (oc (ob_alc rfl rfl rfl (Str.zero str_ray)) (oc (ob_sto rfl rfl rfl (vq 2 rfl) ty_30 (Eq.trans (b:=8) rfl rfl)) o0))))) (fun a w hst=>?_)
 have hst:St B w0 20 [] [⟨2,28,ptrH,_⟩,⟨3,30,ptrH,_⟩,⟨4,26,ptrH,_⟩,⟨5,30,ptrH,_⟩] a w:=hst
 refine zt ?_
 refine go_draw (anc:=[[],[0],[],[2],[0,1,2,3],[],[5],[],[7],[0,1,2,3,4,5,6,7,8],[0,1,2,3,4,5,6,7,8,9],[0,1,2,3,4,5,6,7,8,9,10]]) (sts:=[none,none,some (11,_),none]) (news:=[]) (sp:=[.adr 9 3 (.some 0) True,.val 10 _,.adr 11 5 (.some 4) True,.val 12 _,.val 13 _,.adr 14 3 (.some 4) True,.val 15 _,.adr 16 5 (.some 0) True,.val 17 _,.val 18 _,.val 19 _,.sto 2]) [] follows_mixed hst (oc (ob_a rfl rfl (a_fld (lz0 1 rfl) fld_30_0)) (zv rfl rfl (r_loadf 0 rfl zk trivial (lz0 1 rfl) (Sub.part 0 rfl rfl) ty_26) (oc (ob_a rfl rfl (a_fld (lz0 3 rfl) fld_30_1)) (zv rfl rfl (r_loadf 2 rfl zk trivial (lz0 3 rfl) (Sub.part 1 rfl rfl) ty_26) (zv rfl rfl (r_call (xs:=[.tmp 10,.tmp 12]) (times_q zo) (.cons (vq 1 rfl) (.cons (vq 3 rfl) .nil))) (oc (ob_a rfl rfl (a_fld (lz0 1 rfl) fld_30_1)) (zv rfl rfl (r_loadf 5 rfl zk trivial (lz0 1 rfl) (Sub.part 1 rfl rfl) ty_26) (oc (ob_a rfl rfl (a_fld (lz0 3 rfl) fld_30_0)) (zv rfl rfl (r_loadf 7 rfl zk trivial (lz0 3 rfl) (Sub.part 0 rfl rfl) ty_26) (zv rfl rfl (r_call (xs:=[.tmp 15,.tmp 17]) (times_q zo) (.cons (vq 6 rfl) (.cons (vq 8 rfl) .nil))) (zv rfl rfl (r_call (xs:=[.tmp 13,.tmp 18]) (minusD_q zo) (.cons (vq 4 rfl) (.cons (vq 9 rfl) .nil))) (oc (ob_sto rfl rfl rfl (vq 10 rfl) ty_26 (Eq.trans (b:=4) rfl rfl)) o0)))))))))))) zk zk zk zk (fun a w hst=>?_)
 have hst:St B w0 20 [] [⟨2,28,ptrH,_⟩,⟨3,30,ptrH,_⟩,⟨4,26,ptrH,_⟩,⟨5,30,ptrH,_⟩] a w:=hst
 refine thn_normal ?_
 refine wp_ret ?_
 refine ret_wk ?_ (ret_cell rfl hst (zm 2 rfl) ty_26)
 exact (qd_mono zo).va
theorem toldD_q {c:Nat} (q:Rat):Cn Tryz.prog 87 [(QD c q).va] (FrD (toO q)):=by
 refine Cn.intro Tryz.func87 rfl zk nq (fun B w0 a hst=>?_)
 have hst:St B w0 9 [(0,(QD c q).va)] [] a w0.w:=hst
 refine wp_seq ?_
 refine gl (sts:=[]) (news:=[⟨1,26,ptrH,some 0,_,none⟩,⟨2,26,ptrH,some 1,_,none⟩]) (sp:=[.alc 0,.alc 1,.val 3 _]) [.o 2] hst (oc (ob_box rfl rfl rfl (gq 0 rfl)) (oc (ob_alc rfl rfl rfl (Str.zero str_fracZ)) (zv rfl rfl (r_assign has_num) o0))) (fun a w hst=>?_)
 have hst:St B w0 9 [(3,_)] [⟨1,26,ptrH,_⟩,⟨2,26,ptrH,_⟩] a w:=hst
 refine zt ?_
 refine wp_seq ?_
 refine gl (sts:=[none,none]) (news:=[]) (sp:=[.val 4 _,.val 5 _,.val 6 _]) [.g 0,.o 2] hst (zv rfl rfl (r_load (lz0 0 rfl) ty_26) (zv rfl rfl (r_slice (D:=[U32]) (l:=[_]) (xs:=[.tmp 4]) (nd_ok zk) sl_142 zk (n_ok zk) nq nq nq (.cons (has_wk' (vq 0 rfl) qd_qa.va) .nil) rfl rfl) (zv rfl rfl (r_call (xs:=[.tmp 5]) (long_q [q] (.cons ⟨_,rfl⟩ .nil) nq) (.cons (vq 1 rfl) .nil)) o0))) (fun a w hst=>?_)
 have hst:St B w0 9 [(3,_),(6,_)] [⟨1,26,ptrH,_⟩,⟨2,26,ptrH,_⟩] a w:=hst
 refine thn_normal ?_
 refine cond_of hst (zm 1 rfl) (fun hb0=>?_) (fun hb0=>?_)
 ·refine wp_seq ?_
  refine gl (sts:=[none,some (1,_)]) (news:=[]) (sp:=[.val 7 _,.sto 1,.val 3 _]) [.o 2] hst (zv rfl rfl (r_build (xs:=[]) (qs:=[]) str_fracZ .nil) (oc (ob_sto rfl rfl rfl (vq 0 rfl) ty_26 (Eq.trans (b:=4) rfl rfl)) (zv rfl rfl (r_assign has_num) o0))) (fun a w hst=>?_)
  have hst:St B w0 9 [(3,_)] [⟨1,26,ptrH,_⟩,⟨2,26,ptrH,_⟩] a w:=hst
  refine thn_normal ?_
  refine wp_ret ?_
  refine thn_ret ?_
  refine ret_wk ?_ (ret_many (rs:=[.cell 2 26,.tmp 3]) rfl hst (.cell (zm 1 rfl) ty_26 (.tmp (zm 0 rfl) .nil)) zd)
  rw [to_lo hb0]; exact tu2w zf_rfd.va wk_id
 ·refine wp_skip ?_
  refine zt ?_
  refine gl (sts:=[none,some (1,_)]) (news:=[]) (sp:=[.val 8 _,.sto 1,.val 3 _]) [.o 2] hst (zv rfl rfl (r_load (lz0 0 rfl) ty_26) (oc (ob_sto rfl rfl rfl (vq 0 rfl) ty_26 (Eq.trans (b:=4) rfl rfl)) (zv rfl rfl (r_assign has_num) o0))) (fun a w hst=>?_)
  have hst:St B w0 9 [(3,_)] [⟨1,26,ptrH,_⟩,⟨2,26,ptrH,_⟩] a w:=hst
  refine thn_normal ?_
  refine wp_ret ?_
  refine ret_wk ?_ (ret_many (rs:=[.cell 2 26,.tmp 3]) rfl hst (.cell (zm 1 rfl) ty_26 (.tmp (zm 0 rfl) .nil)) zd)
  rw [to_ok hb0]; exact tu2w qd_rfd.va wk_id
theorem formD_c (m:RM) (r:RR):Cn Tryz.prog 14 [(RMA m).va,(RRA r).va] (FrD (foO m r)):=by
 refine Cn.intro Tryz.func14 rfl zk nq (fun B w0 a hst=>?_)
 have hst:St B w0 17 [(0,(RMA m).va),(1,(RRA r).va)] [] a w0.w:=hst
 refine wp_seq ?_
 refine gl (sts:=[]) (news:=[⟨2,28,ptrH,some 0,_,none⟩,⟨3,30,ptrH,some 1,_,none⟩,⟨4,26,ptrH,some 2,_,none⟩]) (sp:=[.alc 0,.alc 1,.alc 2,.val 5 _]) [.o 3] hst (oc (ob_box rfl rfl rfl (gq 0 rfl)) (oc (ob_box rfl rfl rfl (gq 1 rfl)) (oc (ob_alc rfl rfl rfl (Str.zero str_fracZ)) (zv rfl rfl (r_assign has_num) o0)))) (fun a w hst=>?_)
 have hst:St B w0 17 [(5,_)] [⟨2,28,ptrH,_⟩,⟨3,30,ptrH,_⟩,⟨4,26,ptrH,_⟩] a w:=hst
 refine zt ?_
 refine wp_seq ?_
 refine gl (sts:=[none,none,none]) (news:=[]) (sp:=[.val 6 _,.val 7 _,.val 8 _,.val 9 _]) [.g 0,.o 3] hst (zv rfl rfl (r_load (lz0 0 rfl) ty_28) (zv rfl rfl (r_load (lz0 1 rfl) ty_30) (zv rfl rfl (r_call (xs:=[.tmp 6,.tmp 7]) (fine_c m r) (.cons (vq 0 rfl) (.cons (vq 1 rfl) .nil))) (zv rfl rfl (r_not (vq 2 rfl)) o0)))) (fun a w hst=>?_)
 have hst:St B w0 17 [(5,_),(9,_)] [⟨2,28,ptrH,_⟩,⟨3,30,ptrH,_⟩,⟨4,26,ptrH,_⟩] a w:=hst
 refine thn_normal ?_
 refine cond_of hst (zm 1 rfl) (fun hb0=>?_) (fun hb0=>?_)
 ·refine wp_seq ?_
  refine gl (sts:=[none,none,some (1,_)]) (news:=[]) (sp:=[.val 10 _,.sto 2,.val 5 _]) [.o 2] hst (zv rfl rfl (r_build (xs:=[]) (qs:=[]) str_fracZ .nil) (oc (ob_sto rfl rfl rfl (vq 0 rfl) ty_26 (Eq.trans (b:=4) rfl rfl)) (zv rfl rfl (r_assign has_num) o0))) (fun a w hst=>?_)
  have hst:St B w0 17 [(5,_)] [⟨2,28,ptrH,_⟩,⟨3,30,ptrH,_⟩,⟨4,26,ptrH,_⟩] a w:=hst
  refine thn_normal ?_
  refine wp_ret ?_
  refine thn_ret ?_
  refine ret_wk ?_ (ret_many (rs:=[.cell 4 26,.tmp 5]) rfl hst (.cell (zm 2 rfl) ty_26 (.tmp (zm 0 rfl) .nil)) zd)
  rw [foO,if_neg (fiO_no hb0)]; exact tu2w zf_rfd.va wk_id
 ·have hok:=fiO_ok hb0
  have hy:=fiO_yes hb0
  have hst:=St.wkL hst 0 rfl (qm_x (okM_q hok.1).1)
  have hst:=St.wkL hst 1 rfl (qr_x hok.2)
  refine wp_skip ?_
  refine zt ?_
  refine gl (sts:=[none,none,some (6,_)]) (news:=[]) (sp:=[.val 11 _,.val 12 _,.val 13 _,.val 14 _,.val 15 _,.val 16 _,.sto 2,.val 5 _]) [.o 7] hst (zv rfl rfl (r_load (lz0 0 rfl) ty_28) (zv rfl rfl (r_load (lz0 1 rfl) ty_30) (zv rfl rfl (r_call (xs:=[.tmp 11,.tmp 12]) formD_q (.cons (vq 0 rfl) (.cons (vq 1 rfl) .nil))) (zv rfl rfl (r_call (xs:=[.tmp 13]) (toldD_q _) (.cons (vq 2 rfl) .nil)) (zv rfl rfl (r_ex0 (vq 3 rfl)) (zv rfl rfl (r_ex1 (vq 3 rfl)) (oc (ob_sto rfl rfl rfl (vq 4 rfl) ty_26 (Eq.trans (b:=4) rfl rfl)) (zv rfl rfl (r_assign (vq 5 rfl)) o0)))))))) (fun a w hst=>?_)
  have hst:St B w0 17 [(5,_)] [⟨2,28,ptrH,_⟩,⟨3,30,ptrH,_⟩,⟨4,26,ptrH,_⟩] a w:=hst
  refine thn_normal ?_
  refine wp_ret ?_
  refine ret_wk ?_ (ret_many (rs:=[.cell 4 26,.tmp 5]) rfl hst (.cell (zm 2 rfl) ty_26 (.tmp (zm 0 rfl) .nil)) zd)
  rw [foO,if_pos hy]; exact wk_id
theorem boundD_c (m:RM) (r:RR):Cn Tryz.prog 16 [(RMA m).va,(RRA r).va] (FrD (boO m r)):=by
 refine Cn.intro Tryz.func16 rfl zk nq (fun B w0 a hst=>?_)
 have hst:St B w0 45 [(0,(RMA m).va),(1,(RRA r).va)] [] a w0.w:=hst
 refine wp_seq ?_
 refine gl (sts:=[]) (news:=[⟨2,28,ptrH,some 0,_,none⟩,⟨3,30,ptrH,some 1,_,none⟩,⟨4,26,ptrH,some 2,_,none⟩]) (sp:=[.alc 0,.alc 1,.alc 2,.val 5 _]) [.o 3] hst (oc (ob_box rfl rfl rfl (gq 0 rfl)) (oc (ob_box rfl rfl rfl (gq 1 rfl)) (oc (ob_alc rfl rfl rfl (Str.zero str_fracZ)) (zv rfl rfl (r_assign has_num) o0)))) (fun a w hst=>?_)
 have hst:St B w0 45 [(5,_)] [⟨2,28,ptrH,_⟩,⟨3,30,ptrH,_⟩,⟨4,26,ptrH,_⟩] a w:=hst
 refine zt ?_
 refine wp_block ?_
 refine wp_seq ?_
 refine gl (sts:=[none,none,none]) (news:=[]) (sp:=[.val 7 _,.val 8 _,.val 9 _,.val 10 _,.val 6 _]) [.g 0,.o 4] hst (zv rfl rfl (r_load (lz0 0 rfl) ty_28) (zv rfl rfl (r_load (lz0 1 rfl) ty_30) (zv rfl rfl (r_call (xs:=[.tmp 7,.tmp 8]) (fine_c m r) (.cons (vq 0 rfl) (.cons (vq 1 rfl) .nil))) (zv rfl rfl (r_not (vq 2 rfl)) (zv rfl rfl (r_assign (vq 3 rfl)) o0))))) (fun a w hst=>?_)
 have hst:St B w0 45 [(5,_),(6,_)] [⟨2,28,ptrH,_⟩,⟨3,30,ptrH,_⟩,⟨4,26,ptrH,_⟩] a w:=hst
 refine thn_normal ?_
 refine cond_of hst (zm 1 rfl) (fun hb0=>?_) (fun hb0=>?_)
 ·refine wp_seq ?_
  refine gl (sts:=[none,none,some (1,_)]) (news:=[]) (sp:=[.val 11 _,.sto 2,.val 5 _]) [.o 2] hst (zv rfl rfl (r_build (xs:=[]) (qs:=[]) str_fracZ .nil) (oc (ob_sto rfl rfl rfl (vq 0 rfl) ty_26 (Eq.trans (b:=4) rfl rfl)) (zv rfl rfl (r_assign has_num) o0))) (fun a w hst=>?_)
  have hst:St B w0 45 [(5,_)] [⟨2,28,ptrH,_⟩,⟨3,30,ptrH,_⟩,⟨4,26,ptrH,_⟩] a w:=hst
  refine thn_normal ?_
  refine wp_ret ?_
  refine blk_ret ?_
  refine thn_ret ?_
  refine ret_wk ?_ (ret_many (rs:=[.cell 4 26,.tmp 5]) rfl hst (.cell (zm 2 rfl) ty_26 (.tmp (zm 0 rfl) .nil)) zd)
  rw [boO,if_neg (fiO_no hb0)]; exact tu2w zf_rfd.va wk_id
 ·have hok:=fiO_ok hb0
  have hy:=fiO_yes hb0
  have hst:=St.wkL hst 0 rfl (qm_x (okM_q hok.1).1)
  have hst:=St.wkL hst 1 rfl (qr_x hok.2)
  refine wp_seq ?_
  refine gl (sts:=[none,none,none]) (news:=[]) (sp:=[.val 13 _,.val 14 _,.val 15 _,.val 16 _,.val 12 _]) [.g 0,.o 4] hst (zv rfl rfl (r_load (lz0 0 rfl) ty_28) (zv rfl rfl (r_load (lz0 1 rfl) ty_30) (zv rfl rfl (r_call (xs:=[.tmp 13,.tmp 14]) stays_q (.cons (vq 0 rfl) (.cons (vq 1 rfl) .nil))) (zv rfl rfl (r_not (vq 2 rfl)) (zv rfl rfl (r_assign (vq 3 rfl)) o0))))) (fun a w hst=>?_)
  have hst:St B w0 45 [(5,_),(12,_)] [⟨2,28,ptrH,_⟩,⟨3,30,ptrH,_⟩,⟨4,26,ptrH,_⟩] a w:=hst
  refine thn_normal ?_
  refine cond_of hst (zm 1 rfl) (fun hb1=>?_) (fun hb1=>?_)
  ·have hs:¬ staQ (toM m) (toY r)=true:=by simpa using hb1
   refine wp_seq ?_
   refine gl (sts:=[none,none,some (1,_)]) (news:=[]) (sp:=[.val 17 _,.sto 2,.val 5 _]) [.o 2] hst (zv rfl rfl (r_build (xs:=[]) (qs:=[]) str_fracZ .nil) (oc (ob_sto rfl rfl rfl (vq 0 rfl) ty_26 (Eq.trans (b:=4) rfl rfl)) (zv rfl rfl (r_assign has_num) o0))) (fun a w hst=>?_)
   have hst:St B w0 45 [(5,_)] [⟨2,28,ptrH,_⟩,⟨3,30,ptrH,_⟩,⟨4,26,ptrH,_⟩] a w:=hst
   refine thn_normal ?_
   refine wp_ret ?_
   refine blk_ret ?_
   refine thn_ret ?_
   refine ret_wk ?_ (ret_many (rs:=[.cell 4 26,.tmp 5]) rfl hst (.cell (zm 2 rfl) ty_26 (.tmp (zm 0 rfl) .nil)) zd)
   rw [boO,if_pos hy,if_neg hs]; exact tu2w zf_rfd.va wk_id
  ·have hs:staQ (toM m) (toY r)=true:=by simpa using hb1
   refine wp_seq ?_
   refine gl (sts:=[none,none,none]) (news:=[]) (sp:=[.val 19 _,.val 20 _,.val 21 _,.val 22 _,.val 18 _]) [.g 0,.o 4] hst (zv rfl rfl (r_load (lz0 0 rfl) ty_28) (zv rfl rfl (r_call (xs:=[.tmp 19]) short_q (.cons (vq 0 rfl) .nil)) (zv rfl rfl (r_call (xs:=[.tmp 20]) sign_q (.cons (vq 1 rfl) .nil)) (zv rfl rfl (r_leq (vq 2 rfl) has_num) (zv rfl rfl (r_assign (vq 3 rfl)) o0))))) (fun a w hst=>?_)
   have hst:St B w0 45 [(5,_),(18,_)] [⟨2,28,ptrH,_⟩,⟨3,30,ptrH,_⟩,⟨4,26,ptrH,_⟩] a w:=hst
   refine thn_normal ?_
   refine cond_of hst (zm 1 rfl) (fun hb2=>?_) (fun hb2=>?_)
   ·have hz:=of_decide_eq_true hb2
    refine wp_seq ?_
    refine gl (sts:=[none,none,some (8,_)]) (news:=[]) (sp:=[.adr 23 3 (.some 0) True,.val 24 _,.adr 25 3 (.some 0) True,.val 26 _,.val 27 _,.val 28 _,.val 29 _,.val 30 _,.sto 2,.val 5 _]) [.o 9] hst (oc (ob_a rfl rfl (a_fld (lz0 1 rfl) fld_30_0)) (zv rfl rfl (r_loadf 0 rfl zk trivial (lz0 1 rfl) (Sub.part 0 rfl rfl) ty_26) (oc (ob_a rfl rfl (a_fld (lz0 1 rfl) fld_30_0)) (zv rfl rfl (r_loadf 2 rfl zk trivial (lz0 1 rfl) (Sub.part 0 rfl rfl) ty_26) (zv rfl rfl (r_call (xs:=[.tmp 24,.tmp 26]) (timesD_q zo) (.cons (vq 1 rfl) (.cons (vq 3 rfl) .nil))) (zv rfl rfl (r_call (xs:=[.tmp 27]) (toldD_q _) (.cons (vq 4 rfl) .nil)) (zv rfl rfl (r_ex0 (vq 5 rfl)) (zv rfl rfl (r_ex1 (vq 5 rfl)) (oc (ob_sto rfl rfl rfl (vq 6 rfl) ty_26 (Eq.trans (b:=4) rfl rfl)) (zv rfl rfl (r_assign (vq 7 rfl)) o0)))))))))) (fun a w hst=>?_)
    have hst:St B w0 45 [(5,_)] [⟨2,28,ptrH,_⟩,⟨3,30,ptrH,_⟩,⟨4,26,ptrH,_⟩] a w:=hst
    refine thn_normal ?_
    refine wp_ret ?_
    refine blk_ret ?_
    refine thn_ret ?_
    refine ret_wk ?_ (ret_many (rs:=[.cell 4 26,.tmp 5]) rfl hst (.cell (zm 2 rfl) ty_26 (.tmp (zm 0 rfl) .nil)) zd)
    rw [boO,if_pos hy,if_pos hs,boQ,if_pos hz]; exact wk_id
   ·have hz:=of_decide_eq_false hb2
    refine wp_skip ?_
    refine blk_normal ?_
    refine zt ?_
    refine go_draw (anc:=[[],[],[1],[],[],[0,3,4],[0,1,2,3,4,5],[0,1,2,3,4,5,6],[],[0,1,2,3,4,5,6,7,8],[0,1,2,3,4,5,6,7,8,9],[0,1,2,3,4,5,6,7,8,9,10],[0,1,2,3,4,5,6,7,8,9,10,11],[0,1,2,3,4,5,6,7,8,9,10,11],[0,1,2,3,4,5,6,7,8,9,10,11,12,13],[0,1,2,3,4,5,6,7,8,9,10,11,12,13,14]]) (sts:=[none,none,some (14,_)]) (news:=[]) (sp:=[.val 31 _,.adr 32 2 (.some 4) True,.val 33 _,.val 34 _,.val 35 _,.val 36 _,.val 37 _,.val 38 _,.val 39 _,.val 40 _,.val 41 _,.val 42 _,.val 43 _,.val 44 _,.sto 2,.val 5 _]) [.o 15] follows_mixed hst (zv rfl rfl (r_call (xs:=[.const (.int .i64 (-4)),.const (.int .i64 (1))]) (small_q zd zd zd zd zd) (.cons has_num (.cons has_num .nil))) (oc (ob_a rfl rfl (a_fld (lz0 0 rfl) fld_28_1)) (zv rfl rfl (r_loadf 1 rfl zk trivial (lz0 0 rfl) (Sub.part 1 rfl rfl) ty_26) (zv rfl rfl (r_load (lz0 0 rfl) ty_28) (zv rfl rfl (r_load (lz0 1 rfl) ty_30) (zv rfl rfl (r_call (xs:=[.tmp 34,.tmp 35]) form_q (.cons (vq 3 rfl) (.cons (vq 4 rfl) .nil))) (zv rfl rfl (r_call (xs:=[.tmp 33,.tmp 36]) (times_q zo) (.cons (vq 2 rfl) (.cons (vq 5 rfl) .nil))) (zv rfl rfl (r_call (xs:=[.tmp 31,.tmp 37]) (times_q zo) (.cons (vq 0 rfl) (.cons (vq 6 rfl) .nil))) (zv rfl rfl (r_load (lz0 0 rfl) ty_28) (zv rfl rfl (r_call (xs:=[.tmp 39]) short_q (.cons (vq 8 rfl) .nil)) (zv rfl rfl (r_call (xs:=[.tmp 38,.tmp 40]) (overD_q zo (sg_nz hz)) (.cons (vq 7 rfl) (.cons (vq 9 rfl) .nil))) (zv rfl rfl (r_call (xs:=[.tmp 41]) (toldD_q _) (.cons (vq 10 rfl) .nil)) (zv rfl rfl (r_ex0 (vq 11 rfl)) (zv rfl rfl (r_ex1 (vq 11 rfl)) (oc (ob_sto rfl rfl rfl (vq 12 rfl) ty_26 (Eq.trans (b:=4) rfl rfl)) (zv rfl rfl (r_assign (vq 13 rfl)) o0)))))))))))))))) zk zk zk zk (fun a w hst=>?_)
    have hst:St B w0 45 [(5,_)] [⟨2,28,ptrH,_⟩,⟨3,30,ptrH,_⟩,⟨4,26,ptrH,_⟩] a w:=hst
    refine thn_normal ?_
    refine wp_ret ?_
    refine ret_wk ?_ (ret_many (rs:=[.cell 4 26,.tmp 5]) rfl hst (.cell (zm 2 rfl) ty_26 (.tmp (zm 0 rfl) .nil)) zd)
    rw [boO,if_pos hy,if_pos hs,boQ,if_neg hz]; exact wk_id
end Go.Proofs.YthncfchnkjemiaaGreatDoor
