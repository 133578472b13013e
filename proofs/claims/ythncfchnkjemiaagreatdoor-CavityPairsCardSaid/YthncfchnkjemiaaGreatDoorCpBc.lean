import Derived.Test.YthncfchnkjemiaaGreatDoorCpAa
import Derived.Test.YthncfchnkjemiaaGreatDoorCpAc
import Derived.Test.YthncfchnkjemiaaGreatDoorCpBb
set_option linter.unusedVariables false
set_option linter.unusedSimpArgs false
set_option linter.unusedSectionVars false
set_option maxRecDepth 100000
namespace Go.Proofs.YthncfchnkjemiaaGreatDoor
open Go Go.RowKit
theorem rowPair_q {c d e f:Nat} {x y z u:Rat} (hk:c+d+e+f≤137438953472):Cn Tryz.prog 305 [Qs c x,Qs d y,Qs e z,Qs f u] (Qs (c+d+(e+f)+1) (x*y+z*u)):=by
 refine Cn.intro Tryz.func305 rfl zk nq (fun B w0 a hst=>?_)
 have hst:St B w0 16 [(0,Qs c x),(1,Qs d y),(2,Qs e z),(3,Qs f u)] [] a w0.w:=hst
 refine wp_seq ?_
 refine gl (sts:=[]) (news:=[⟨4,26,ptrH,some 0,_,none⟩,⟨5,26,ptrH,some 1,_,none⟩,⟨6,26,ptrH,some 2,_,none⟩,⟨7,26,ptrH,some 3,_,none⟩,⟨8,26,ptrH,some 4,_,none⟩]) (sp:=[.alc 0,.alc 1,.alc 2,.alc 3,.alc 4]) [] hst (oc (ob_box rfl rfl rfl (gq 0 rfl)) (oc (ob_box rfl rfl rfl (gq 1 rfl)) (oc (ob_box rfl rfl rfl (gq 2 rfl)) (oc (ob_box rfl rfl rfl (gq 3 rfl)) (oc (ob_alc rfl rfl rfl (Str.zero str_frac)) o0))))) (fun a w hst=>?_)
 have hst:St B w0 16 [] [⟨4,26,ptrH,_⟩,⟨5,26,ptrH,_⟩,⟨6,26,ptrH,_⟩,⟨7,26,ptrH,_⟩,⟨8,26,ptrH,_⟩] a w:=hst
 refine zt ?_
 refine go_draw (anc:=[[],[],[0,1],[],[],[0,1,2,3,4],[0,1,2,3,4,5],[0,1,2,3,4,5,6]]) (sts:=[none,none,none,none,some (7,_)]) (news:=[]) (sp:=[.val 9 _,.val 10 _,.val 11 _,.val 12 _,.val 13 _,.val 14 _,.val 15 _,.sto 4]) [] follows_mixed hst (zv rfl rfl (r_load (lz0 0 rfl) ty_26) (zv rfl rfl (r_load (lz0 1 rfl) ty_26) (zv rfl rfl (r_call (xs:=[.tmp 9,.tmp 10]) (times_q zo) (.cons (vq 0 rfl) (.cons (vq 1 rfl) .nil))) (zv rfl rfl (r_load (lz0 2 rfl) ty_26) (zv rfl rfl (r_load (lz0 3 rfl) ty_26) (zv rfl rfl (r_call (xs:=[.tmp 12,.tmp 13]) (times_q zo) (.cons (vq 3 rfl) (.cons (vq 4 rfl) .nil))) (zv rfl rfl (r_call (xs:=[.tmp 11,.tmp 14]) (plus_q zo) (.cons (vq 2 rfl) (.cons (vq 5 rfl) .nil))) (oc (ob_sto rfl rfl rfl (vq 6 rfl) ty_26 (Eq.trans (b:=4) rfl rfl)) o0)))))))) zk zk zk zk (fun a w hst=>?_)
 have hst:St B w0 16 [] [⟨4,26,ptrH,_⟩,⟨5,26,ptrH,_⟩,⟨6,26,ptrH,_⟩,⟨7,26,ptrH,_⟩,⟨8,26,ptrH,_⟩] a w:=hst
 refine thn_normal ?_
 refine wp_ret ?_
 refine ret_wk ?_ (ret_cell rfl hst (zm 4 rfl) ty_26)
 exact wk_id
theorem rowTimes_q {c d:Nat} {m q:MQ} (hk:c+d≤68719476736):Cn Tryz.prog 191 [(QMA c m).va,(QMA d q).va] ((QMA (c+d+(c+d)+1) (mulQ m q)).va):=by
 refine Cn.intro Tryz.func191 rfl zk nq (fun B w0 a hst=>?_)
 have hst:St B w0 42 [(0,(QMA c m).va),(1,(QMA d q).va)] [] a w0.w:=hst
 refine wp_seq ?_
 refine gl (sts:=[]) (news:=[⟨2,28,ptrH,some 0,_,none⟩,⟨3,28,ptrH,some 1,_,none⟩,⟨4,28,ptrH,some 2,_,none⟩]) (sp:=[.alc 0,.alc 1,.alc 2]) [] hst (oc (ob_box rfl rfl rfl (gq 0 rfl)) (oc (ob_box rfl rfl rfl (gq 1 rfl)) (oc (ob_alc rfl rfl rfl (Str.zero str_matrix)) o0))) (fun a w hst=>?_)
 have hst:St B w0 42 [] [⟨2,28,ptrH,_⟩,⟨3,28,ptrH,_⟩,⟨4,28,ptrH,_⟩] a w:=hst
 refine zt ?_
 refine go_draw (anc:=[[],[0],[],[2],[],[4],[],[6],[0,1,2,3,4,5,6,7],[],[9],[],[11],[],[13],[],[15],[0,1,2,3,4,5,6,7,8,9,10,11,12,13,14,15,16],[],[18],[],[20],[],[22],[],[24],[0,1,2,3,4,5,6,7,8,9,10,11,12,13,14,15,16,17,18,19,20,21,22,23,24,25],[],[27],[],[29],[],[31],[],[33],[0,1,2,3,4,5,6,7,8,9,10,11,12,13,14,15,16,17,18,19,20,21,22,23,24,25,26,27,28,29,30,31,32,33,34],[0,1,2,3,4,5,6,7,8,9,10,11,12,13,14,15,16,17,18,19,20,21,22,23,24,25,26,27,28,29,30,31,32,33,34,35],[0,1,2,3,4,5,6,7,8,9,10,11,12,13,14,15,16,17,18,19,20,21,22,23,24,25,26,27,28,29,30,31,32,33,34,35,36]]) (sts:=[none,none,some (37,_)]) (news:=[]) (sp:=((.adr 5 2 (.some 0) True:Sp)::(.val 6 _)::(.adr 7 3 (.some 0) True)::(.val 8 _)::(.adr 9 2 (.some 4) True)::(.val 10 _)::(.adr 11 3 (.some 8) True)::(.val 12 _)::(.val 13 _)::(.adr 14 2 (.some 0) True)::(.val 15 _)::(.adr 16 3 (.some 4) True)::(.val 17 _)::(.adr 18 2 (.some 4) True)::(.val 19 _)::(.adr 20 3 (.some 12) True)::(.val 21 _)::(.val 22 _)::(.adr 23 2 (.some 8) True)::(.val 24 _)::(.adr 25 3 (.some 0) True)::(.val 26 _)::(.adr 27 2 (.some 12) True)::(.val 28 _)::(.adr 29 3 (.some 8) True)::(.val 30 _)::(.val 31 _)::(.adr 32 2 (.some 8) True)::(.val 33 _)::(.adr 34 3 (.some 4) True)::(.val 35 _)::(.adr 36 2 (.some 12) True)::(.val 37 _)::(.adr 38 3 (.some 12) True)::(.val 39 _)::(.val 40 _)::(.val 41 _)::(.sto 2)::[])) [] follows_mixed hst (oc (ob_a rfl rfl (a_fld (lz0 0 rfl) fld_28_0)) (zv rfl rfl (r_loadf 0 rfl zk trivial (lz0 0 rfl) (Sub.part 0 rfl rfl) ty_26) (oc (ob_a rfl rfl (a_fld (lz0 1 rfl) fld_28_0)) (zv rfl rfl (r_loadf 2 rfl zk trivial (lz0 1 rfl) (Sub.part 0 rfl rfl) ty_26) (oc (ob_a rfl rfl (a_fld (lz0 0 rfl) fld_28_1)) (zv rfl rfl (r_loadf 4 rfl zk trivial (lz0 0 rfl) (Sub.part 1 rfl rfl) ty_26) (oc (ob_a rfl rfl (a_fld (lz0 1 rfl) fld_28_2)) (zv rfl rfl (r_loadf 6 rfl zk trivial (lz0 1 rfl) (Sub.part 2 rfl rfl) ty_26) (zv rfl rfl (r_call (xs:=[.tmp 6,.tmp 8,.tmp 10,.tmp 12]) (rowPair_q zo) (.cons (vq 1 rfl) (.cons (vq 3 rfl) (.cons (vq 5 rfl) (.cons (vq 7 rfl) .nil))))) (oc (ob_a rfl rfl (a_fld (lz0 0 rfl) fld_28_0)) (zv rfl rfl (r_loadf 9 rfl zk trivial (lz0 0 rfl) (Sub.part 0 rfl rfl) ty_26) (oc (ob_a rfl rfl (a_fld (lz0 1 rfl) fld_28_1)) (zv rfl rfl (r_loadf 11 rfl zk trivial (lz0 1 rfl) (Sub.part 1 rfl rfl) ty_26) (oc (ob_a rfl rfl (a_fld (lz0 0 rfl) fld_28_1)) (zv rfl rfl (r_loadf 13 rfl zk trivial (lz0 0 rfl) (Sub.part 1 rfl rfl) ty_26) (oc (ob_a rfl rfl (a_fld (lz0 1 rfl) fld_28_3)) (zv rfl rfl (r_loadf 15 rfl zk trivial (lz0 1 rfl) (Sub.part 3 rfl rfl) ty_26) (zv rfl rfl (r_call (xs:=[.tmp 15,.tmp 17,.tmp 19,.tmp 21]) (rowPair_q zo) (.cons (vq 10 rfl) (.cons (vq 12 rfl) (.cons (vq 14 rfl) (.cons (vq 16 rfl) .nil))))) (oc (ob_a rfl rfl (a_fld (lz0 0 rfl) fld_28_2)) (zv rfl rfl (r_loadf 18 rfl zk trivial (lz0 0 rfl) (Sub.part 2 rfl rfl) ty_26) (oc (ob_a rfl rfl (a_fld (lz0 1 rfl) fld_28_0)) (zv rfl rfl (r_loadf 20 rfl zk trivial (lz0 1 rfl) (Sub.part 0 rfl rfl) ty_26) (oc (ob_a rfl rfl (a_fld (lz0 0 rfl) fld_28_3)) (zv rfl rfl (r_loadf 22 rfl zk trivial (lz0 0 rfl) (Sub.part 3 rfl rfl) ty_26) (oc (ob_a rfl rfl (a_fld (lz0 1 rfl) fld_28_2)) (zv rfl rfl (r_loadf 24 rfl zk trivial (lz0 1 rfl) (Sub.part 2 rfl rfl) ty_26) (zv rfl rfl (r_call (xs:=[.tmp 24,.tmp 26,.tmp 28,.tmp 30]) (rowPair_q zo) (.cons (vq 19 rfl) (.cons (vq 21 rfl) (.cons (vq 23 rfl) (.cons (vq 25 rfl) .nil))))) (oc (ob_a rfl rfl (a_fld (lz0 0 rfl) fld_28_2)) (zv rfl rfl (r_loadf 27 rfl zk trivial (lz0 0 rfl) (Sub.part 2 rfl rfl) ty_26) (oc (ob_a rfl rfl (a_fld (lz0 1 rfl) fld_28_1)) (zv rfl rfl (r_loadf 29 rfl zk trivial (lz0 1 rfl) (Sub.part 1 rfl rfl) ty_26) (oc (ob_a rfl rfl (a_fld (lz0 0 rfl) fld_28_3)) (zv rfl rfl (r_loadf 31 rfl zk trivial (lz0 0 rfl) (Sub.part 3 rfl rfl) ty_26) (oc (ob_a rfl rfl (a_fld (lz0 1 rfl) fld_28_3)) (zv rfl rfl (r_loadf 33 rfl zk trivial (lz0 1 rfl) (Sub.part 3 rfl rfl) ty_26) (zv rfl rfl (r_call (xs:=[.tmp 33,.tmp 35,.tmp 37,.tmp 39]) (rowPair_q zo) (.cons (vq 28 rfl) (.cons (vq 30 rfl) (.cons (vq 32 rfl) (.cons (vq 34 rfl) .nil))))) (zv rfl rfl (r_build (xs:=[(0,.tmp 13),(1,.tmp 22),(2,.tmp 31),(3,.tmp 40)]) (qs:=[(0,_),(1,_),(2,_),(3,_)]) str_matrix (.cons ⟨rfl,(vq 8 rfl),rfl⟩ (.cons ⟨rfl,(vq 17 rfl),rfl⟩ (.cons ⟨rfl,(vq 26 rfl),rfl⟩ (.cons ⟨rfl,(vq 35 rfl),rfl⟩ .nil))))) (oc (ob_sto rfl rfl rfl (vq 36 rfl) ty_28 (Eq.trans (b:=16) rfl rfl)) o0)))))))))))))))))))))))))))))))))))))) zk zk zk zk (fun a w hst=>?_)
 have hst:St B w0 42 [] [⟨2,28,ptrH,_⟩,⟨3,28,ptrH,_⟩,⟨4,28,ptrH,_⟩] a w:=hst
 refine thn_normal ?_
 refine wp_ret ?_
 refine ret_wk ?_ (ret_cell rfl hst (zm 2 rfl) ty_28)
 exact wk_id
def oneQ (m:MQ) (s:Int):Bool:=(((m.b.num.sign == 0) && (m.c.num.sign == 0)) && (cmQ m.a (Rat.divInt s 1) == 0)) && (cmQ m.d m.a == 0)
def trsQ (m:MQ):Rat:=(m.a+m.d)*(m.a+m.d)
def kiQ (m:MQ):Int:=if cmQ (trsQ m) (Rat.divInt 4 1)<0 then 1 else if oneQ m 1 then 2 else if oneQ m (-1) then 2 else if cmQ (trsQ m) (Rat.divInt 4 1) == 0 then 3 else 4
def kiF (m:RM):Int × Int:=if okM m then (kiQ (toM m),0) else (0,1)
abbrev KiR (r:Int × Int):VA:=Tu [(NumA .u8 r.1).va,In r.2]
theorem ki_1 {m:MQ} (h:decide (cmQ (trsQ m) (Rat.divInt 4 1)<0)=true):kiQ m=1:=if_pos (of_decide_eq_true h)
theorem ki_2 {m:MQ} (h:decide (cmQ (trsQ m) (Rat.divInt 4 1)<0)=false) (h1:oneQ m 1=true):kiQ m=2:=by rw [kiQ,if_neg (of_decide_eq_false h),if_pos h1]
theorem ki_2n {m:MQ} (h:decide (cmQ (trsQ m) (Rat.divInt 4 1)<0)=false) (h1:oneQ m 1=false) (h2:oneQ m (-1)=true):kiQ m=2:=by rw [kiQ,if_neg (of_decide_eq_false h),if_neg (by rw [h1]; decide),if_pos h2]
theorem ki_3 {m:MQ} (h:decide (cmQ (trsQ m) (Rat.divInt 4 1)<0)=false) (h1:oneQ m 1=false) (h2:oneQ m (-1)=false) (h3:(cmQ (trsQ m) (Rat.divInt 4 1) == 0)=true):kiQ m=3:=by rw [kiQ,if_neg (of_decide_eq_false h),if_neg (by rw [h1]; decide),if_neg (by rw [h2]; decide),if_pos h3]
theorem ki_4 {m:MQ} (h:decide (cmQ (trsQ m) (Rat.divInt 4 1)<0)=false) (h1:oneQ m 1=false) (h2:oneQ m (-1)=false) (h3:(cmQ (trsQ m) (Rat.divInt 4 1) == 0)=false):kiQ m=4:=by rw [kiQ,if_neg (of_decide_eq_false h),if_neg (by rw [h1]; decide),if_neg (by rw [h2]; decide),if_neg (by rw [h3]; decide)]
theorem cavOne_q {m:MQ} {s:Int} (hs : -9223372036854775808≤s) (hs1:s<9223372036854775808):Cn Tryz.prog 308 [(QMA 2048 m).va,In s] (Bo (oneQ m s)):=by
 refine Cn.intro Tryz.func308 rfl zk nq (fun B w0 a hst=>?_)
 have hst:St B w0 31 [(0,(QMA 2048 m).va),(1,In s)] [] a w0.w:=hst
 refine wp_seq ?_
 refine gl (sts:=[]) (news:=[⟨2,28,ptrH,some 0,_,none⟩]) (sp:=[.alc 0,.val 4 _]) [.g 1,.o 1] hst (oc (ob_box rfl rfl rfl (gq 0 rfl)) (zv rfl rfl (r_assign has_bo) o0)) (fun a w hst=>?_)
 have hst:St B w0 31 [(1,_),(4,_)] [⟨2,28,ptrH,_⟩] a w:=hst
 refine zt ?_
 refine go_draw (anc:=[[],[0],[0,1],[0,1,2],[0,1,2,3],[0,1,2,3,4],[0,1,2,3,4,5],[0,1,2,3,4,5,6],[0,1,2,3,4,5,6,7],[0,1,2,3,4,5,6,7,8],[0,1,2,3,4,5,6,7,8,9],[0,1,2,3,4,5,6,7,8,9,10],[0,1,2,3,4,5,6,7,8,9,10,11],[0,1,2,3,4,5,6,7,8,9,10],[0,1,2,3,4,5,6,7,8,9,10,13],[0,1,2,3,4,5,6,7,8,9,10,11,12,13,14],[0,1,2,3,4,5,6,7,8,9,10,11,12,13,14,15],[0,1,2,3,4,5,6,7,8,9,10,11,12,13,14,15,16],[0,1,2,3,4,5,6,7,8,9,10,11,12,13,14,15,16,17],[0,1,2,3,4,5,6,7,8,9,10,11,12,13,14,15,16,17,18],[0,1,2,3,4,5,6,7,8,9,10,11,12,13,14,15,16,17,18,19],[0,1,2,3,4,5,6,7,8,9,10,11,12,13,14,15,16,17,18],[0,1,2,3,4,5,6,7,8,9,10,11,12,13,14,15,16,17,18,21],[0,1,2,3,4,5,6,7,8,9,10,11,12,13,14,15,16,17,18,19,20,21,22],[0,1,2,3,4,5,6,7,8,9,10,11,12,13,14,15,16,17,18,19,20,21,22,23],[0,1,2,3,4,5,6,7,8,9,10,11,12,13,14,15,16,17,18,19,20,21,22,23,24],[0,1,2,3,4,5,6,7,8,9,10,11,12,13,14,15,16,17,18,19,20,21,22,23,24,25]]) (sts:=[none]) (news:=[]) (sp:=((.adr 5 2 (.some 4) True:Sp)::(.val 6 _)::(.val 7 _)::(.val 8 _)::(.val 9 _)::(.adr 10 2 (.some 8) (_=true))::(.val 11 (Wh (_=true) _))::(.val 12 (Wh (_=true) _))::(.val 13 (Wh (_=true) _))::(.val 14 _)::(.val 15 _)::(.adr 16 2 (.some 0) (_=true))::(.val 17 (Wh (_=true) _))::(.val 18 (Wh (_=true) _))::(.val 19 (Wh (_=true) _))::(.val 20 (Wh (_=true) _))::(.val 21 (Wh (_=true) _))::(.val 22 _)::(.val 23 _)::(.adr 24 2 (.some 12) (_=true))::(.val 25 (Wh (_=true) _))::(.adr 26 2 (.some 0) (_=true))::(.val 27 (Wh (_=true) _))::(.val 28 (Wh (_=true) _))::(.val 29 (Wh (_=true) _))::(.val 30 _)::(.val 4 _)::[])) [.o 26] follows_mixed hst (oc (ob_a rfl rfl (a_fld (lz0 0 rfl) fld_28_1)) (zv rfl rfl (r_loadf 0 rfl zk trivial (lz0 0 rfl) (Sub.part 1 rfl rfl) ty_26) (zv rfl rfl (r_call (xs:=[.tmp 6]) sign_q (.cons (vq 1 rfl) .nil)) (zv rfl rfl (r_eql (vq 2 rfl) has_num) (zv rfl rfl (r_move (vq 3 rfl)) (oc (ob_ag rfl rfl rfl (vq 4 rfl) nq (fun hg=>a_fld (lz0 0 rfl) fld_28_2)) (oc (ob_gd rfl rfl rfl (vq 4 rfl) nq (fun hg=>r_loadf 5 rfl zk hg (lz0 0 rfl) (Sub.part 2 rfl rfl) ty_26)) (oc (ob_gd rfl rfl rfl (vq 4 rfl) nq (fun hg=>r_call (xs:=[.tmp 11]) sign_q (.cons (has_wh (vq 6 rfl) hg) .nil))) (oc (ob_gd rfl rfl rfl (vq 4 rfl) nq (fun hg=>r_eql (has_wh (vq 7 rfl) hg) has_num)) (zv rfl rfl (r_and (vq 4 rfl) (vq 8 rfl)) (zv rfl rfl (r_move (vq 9 rfl)) (oc (ob_ag rfl rfl rfl (vq 10 rfl) nq (fun hg=>a_fld (lz0 0 rfl) fld_28_0)) (oc (ob_gd rfl rfl rfl (vq 10 rfl) nq (fun hg=>r_loadf 11 rfl zk hg (lz0 0 rfl) (Sub.part 0 rfl rfl) ty_26)) (oc (ob_gd rfl rfl rfl (vq 10 rfl) nq (fun hg=>r_move (gq 0 rfl))) (oc (ob_gd rfl rfl rfl (vq 10 rfl) nq (fun hg=>r_call (xs:=[.tmp 18,.const (.int .i64 (1))]) (small_q hs hs1 zd zd zd) (.cons (has_wh (vq 13 rfl) hg) (.cons has_num .nil)))) (oc (ob_gd rfl rfl rfl (vq 10 rfl) nq (fun hg=>r_call (xs:=[.tmp 17,.tmp 19]) (cmp_q zo) (.cons (has_wh (vq 12 rfl) hg) (.cons (has_wh (vq 14 rfl) hg) .nil)))) (oc (ob_gd rfl rfl rfl (vq 10 rfl) nq (fun hg=>r_eql (has_wh (vq 15 rfl) hg) has_num)) (zv rfl rfl (r_and (vq 10 rfl) (vq 16 rfl)) (zv rfl rfl (r_move (vq 17 rfl)) (oc (ob_ag rfl rfl rfl (vq 18 rfl) nq (fun hg=>a_fld (lz0 0 rfl) fld_28_3)) (oc (ob_gd rfl rfl rfl (vq 18 rfl) nq (fun hg=>r_loadf 19 rfl zk hg (lz0 0 rfl) (Sub.part 3 rfl rfl) ty_26)) (oc (ob_ag rfl rfl rfl (vq 18 rfl) nq (fun hg=>a_fld (lz0 0 rfl) fld_28_0)) (oc (ob_gd rfl rfl rfl (vq 18 rfl) nq (fun hg=>r_loadf 21 rfl zk hg (lz0 0 rfl) (Sub.part 0 rfl rfl) ty_26)) (oc (ob_gd rfl rfl rfl (vq 18 rfl) nq (fun hg=>r_call (xs:=[.tmp 25,.tmp 27]) (cmp_q zo) (.cons (has_wh (vq 20 rfl) hg) (.cons (has_wh (vq 22 rfl) hg) .nil)))) (oc (ob_gd rfl rfl rfl (vq 18 rfl) nq (fun hg=>r_eql (has_wh (vq 23 rfl) hg) has_num)) (zv rfl rfl (r_and (vq 18 rfl) (vq 24 rfl)) (zv rfl rfl (r_assign (vq 25 rfl)) o0))))))))))))))))))))))))))) zk zk zk zk (fun a w hst=>?_)
 have hst:St B w0 31 [(4,_)] [⟨2,28,ptrH,_⟩] a w:=hst
 refine thn_normal ?_
 refine wp_ret ?_
 refine ret_wk ?_ (ret_tmp rfl hst (zm 0 rfl))
 exact wk_id
theorem kind_c (m:RM):Cn Tryz.prog 202 [(RMA m).va] (KiR (kiF m)):=by
 refine Cn.intro Tryz.func202 rfl zk nq (fun B w0 a hst=>?_)
 have hst:St B w0 33 [(0,(RMA m).va)] [] a w0.w:=hst
 refine wp_seq ?_
 refine gl (sts:=[]) (news:=[⟨1,28,ptrH,some 0,_,none⟩]) (sp:=[.alc 0,.val 2 _,.val 3 _]) [.o 1,.o 2] hst (oc (ob_box rfl rfl rfl (gq 0 rfl)) (zv rfl rfl (r_assign has_num) (zv rfl rfl (r_assign has_num) o0))) (fun a w hst=>?_)
 have hst:St B w0 33 [(2,_),(3,_)] [⟨1,28,ptrH,_⟩] a w:=hst
 refine zt ?_
 refine wp_seq ?_
 refine gl (sts:=[none]) (news:=[]) (sp:=[.val 7 _,.val 8 _,.val 9 _]) [.g 0,.g 1,.o 2] hst (zv rfl rfl (r_load (lz0 0 rfl) ty_28) (zv rfl rfl (r_call (xs:=[.tmp 7]) (rowMay_c m) (.cons (vq 0 rfl) .nil)) (zv rfl rfl (r_not (vq 1 rfl)) o0))) (fun a w hst=>?_)
 have hst:St B w0 33 [(2,_),(3,_),(9,_)] [⟨1,28,ptrH,_⟩] a w:=hst
 refine thn_normal ?_
 refine cond_of hst (zm 2 rfl) (fun hb0=>?_) (fun hb0=>?_)
 ·rw [Bool.not_eq_true'] at hb0
  refine wp_seq ?_
  refine gl (sts:=[none]) (news:=[]) (sp:=[.val 2 _,.val 3 _]) [.o 0,.o 1] hst (zv rfl rfl (r_assign has_num) (zv rfl rfl (r_assign has_num) o0)) (fun a w hst=>?_)
  have hst:St B w0 33 [(2,_),(3,_)] [⟨1,28,ptrH,_⟩] a w:=hst
  refine thn_normal ?_
  refine wp_ret ?_
  refine thn_ret ?_
  refine ret_wk ?_ (ret_many (rs:=[.tmp 2,.tmp 3]) rfl hst (.tmp (zm 0 rfl) (.tmp (zm 1 rfl) .nil)) zd)
  rw [kiF,if_neg (by rw [hb0]; decide)]; exact wk_id
 ·rw [Bool.not_eq_false'] at hb0
  have hst:=St.wkL hst 0 rfl (qm_x (okM_q hb0).1)
  have ek:kiF m=(kiQ (toM m),0):=by rw [kiF,if_pos hb0]
  refine wp_skip ?_
  refine zt ?_
  refine gl (sts:=[none]) (news:=[⟨4,26,ptrH,some 5,_,some (6,_)⟩]) (sp:=[.adr 10 1 (.some 0) True,.val 11 _,.adr 12 1 (.some 12) True,.val 13 _,.val 14 _,.alc 1,.sto 1]) [.g 0,.g 1] hst (oc (ob_a rfl rfl (a_fld (lz0 0 rfl) fld_28_0)) (zv rfl rfl (r_loadf 0 rfl zk trivial (lz0 0 rfl) (Sub.part 0 rfl rfl) ty_26) (oc (ob_a rfl rfl (a_fld (lz0 0 rfl) fld_28_3)) (zv rfl rfl (r_loadf 2 rfl zk trivial (lz0 0 rfl) (Sub.part 3 rfl rfl) ty_26) (zv rfl rfl (r_call (xs:=[.tmp 11,.tmp 13]) (plus_q zo) (.cons (vq 1 rfl) (.cons (vq 3 rfl) .nil))) (oc (ob_alc rfl rfl rfl (Str.zero str_frac)) (oc (ob_sto rfl rfl rfl (vq 4 rfl) ty_26 (Eq.trans (b:=4) rfl rfl)) o0))))))) (fun a w hst=>?_)
  have hst:St B w0 33 [(2,_),(3,_)] [⟨1,28,ptrH,_⟩,⟨4,26,ptrH,_⟩] a w:=hst
  refine zt ?_
  refine gl (sts:=[none,none]) (news:=[⟨5,26,ptrH,some 3,_,some (4,_)⟩]) (sp:=[.val 15 _,.val 16 _,.val 17 _,.alc 2,.sto 2]) [.g 0,.g 1] hst (zv rfl rfl (r_load (lz0 1 rfl) ty_26) (zv rfl rfl (r_load (lz0 1 rfl) ty_26) (zv rfl rfl (r_call (xs:=[.tmp 15,.tmp 16]) (times_q zo) (.cons (vq 0 rfl) (.cons (vq 1 rfl) .nil))) (oc (ob_alc rfl rfl rfl (Str.zero str_frac)) (oc (ob_sto rfl rfl rfl (vq 2 rfl) ty_26 (Eq.trans (b:=4) rfl rfl)) o0))))) (fun a w hst=>?_)
  have hst:St B w0 33 [(2,_),(3,_)] [⟨1,28,ptrH,_⟩,⟨4,26,ptrH,_⟩,⟨5,26,ptrH,_⟩] a w:=hst
  refine zt ?_
  refine wp_seq ?_
  refine go_draw (anc:=[[],[],[0,1],[0,1,2]]) (sts:=[none,none,none]) (news:=[]) (sp:=[.val 18 _,.val 19 _,.val 20 _,.val 6 _]) [.g 0,.g 1,.o 3] follows_mixed hst (zv rfl rfl (r_load (lz0 2 rfl) ty_26) (zv rfl rfl (r_call (xs:=[.const (.int .i64 (4)),.const (.int .i64 (1))]) (small_q zd zd zd zd zd) (.cons has_num (.cons has_num .nil))) (zv rfl rfl (r_call (xs:=[.tmp 18,.tmp 19]) (cmp_q zo) (.cons (vq 0 rfl) (.cons (vq 1 rfl) .nil))) (zv rfl rfl (r_assign (vq 2 rfl)) o0)))) zk zk zk zk (fun a w hst=>?_)
  have hst:St B w0 33 [(2,_),(3,_),(6,_)] [⟨1,28,ptrH,_⟩,⟨4,26,ptrH,_⟩,⟨5,26,ptrH,_⟩] a w:=hst
  refine thn_normal ?_
  refine wp_block ?_
  refine wp_seq ?_
  refine wp_block ?_
  refine wp_seq ?_
  refine wp_block ?_
  refine wp_block ?_
  refine wp_seq ?_
  refine wp_block ?_
  refine wp_seq ?_
  refine wp_seq ?_
  refine wp_seq ?_
  refine gl (sts:=[none,none,none]) (news:=[]) (sp:=[.val 22 _,.val 23 _,.val 21 _]) [.g 0,.g 1,.g 2,.o 2] hst (zv rfl rfl (r_move (gq 2 rfl)) (zv rfl rfl (r_lss (vq 0 rfl) has_num) (zv rfl rfl (r_assign (vq 1 rfl)) o0))) (fun a w hst=>?_)
  have hst:St B w0 33 [(2,_),(3,_),(6,_),(21,_)] [⟨1,28,ptrH,_⟩,⟨4,26,ptrH,_⟩,⟨5,26,ptrH,_⟩] a w:=hst
  refine thn_normal ?_
  refine cond_of hst (zm 3 rfl) (fun hb1=>?_) (fun hb1=>?_)
  ·refine wp_exit ?_
   refine thn_exit ?_
   refine thn_exit ?_
   refine blk_exit ?_
   refine zt ?_
   refine wp_seq ?_
   refine gl (sts:=[none,none,none]) (news:=[]) (sp:=[.val 2 _,.val 3 _]) [.o 0,.o 1] hst (zv rfl rfl (r_assign has_num) (zv rfl rfl (r_assign has_num) o0)) (fun a w hst=>?_)
   have hst:St B w0 33 [(2,_),(3,_)] [⟨1,28,ptrH,_⟩,⟨4,26,ptrH,_⟩,⟨5,26,ptrH,_⟩] a w:=hst
   refine thn_normal ?_
   refine wp_ret ?_
   refine thn_ret ?_
   refine blk_ret ?_
   refine blk_ret ?_
   refine thn_ret ?_
   refine blk_ret ?_
   refine thn_ret ?_
   refine blk_ret ?_
   refine thn_ret ?_
   refine ret_wk ?_ (ret_many (rs:=[.tmp 2,.tmp 3]) rfl hst (.tmp (zm 0 rfl) (.tmp (zm 1 rfl) .nil)) zd)
   rw [ek,ki_1 (m:=toM m) hb1]; exact wk_id
  ·refine wp_skip ?_
   refine zt ?_
   refine wp_seq ?_
   refine gl (sts:=[none,none,none]) (news:=[]) (sp:=[.val 25 _,.val 26 _,.val 24 _]) [.g 0,.g 1,.g 2,.o 2] hst (zv rfl rfl (r_load (lz0 0 rfl) ty_28) (zv rfl rfl (r_call (xs:=[.tmp 25,.const (.int .i64 (1))]) (cavOne_q (m:=⟨_,_,_,_⟩) zd zd) (.cons (vq 0 rfl) (.cons has_num .nil))) (zv rfl rfl (r_assign (vq 1 rfl)) o0))) (fun a w hst=>?_)
   have hst:St B w0 33 [(2,_),(3,_),(6,_),(24,_)] [⟨1,28,ptrH,_⟩,⟨4,26,ptrH,_⟩,⟨5,26,ptrH,_⟩] a w:=hst
   refine thn_normal ?_
   refine cond_of hst (zm 3 rfl) (fun hb2=>?_) (fun hb2=>?_)
   ·refine wp_exit ?_
    refine thn_exit ?_
    refine thn_exit ?_
    refine blk_exit' zd ?_
    refine thn_exit ?_
    refine blk_exit ?_
    refine blk_normal ?_
    refine zt ?_
    refine wp_seq ?_
    refine gl (sts:=[none,none,none]) (news:=[]) (sp:=[.val 2 _,.val 3 _]) [.o 0,.o 1] hst (zv rfl rfl (r_assign has_num) (zv rfl rfl (r_assign has_num) o0)) (fun a w hst=>?_)
    have hst:St B w0 33 [(2,_),(3,_)] [⟨1,28,ptrH,_⟩,⟨4,26,ptrH,_⟩,⟨5,26,ptrH,_⟩] a w:=hst
    refine thn_normal ?_
    refine wp_ret ?_
    refine thn_ret ?_
    refine blk_ret ?_
    refine thn_ret ?_
    refine blk_ret ?_
    refine thn_ret ?_
    refine ret_wk ?_ (ret_many (rs:=[.tmp 2,.tmp 3]) rfl hst (.tmp (zm 0 rfl) (.tmp (zm 1 rfl) .nil)) zd)
    rw [ek,ki_2 (m:=toM m) hb1 hb2]; exact wk_id
   ·refine wp_skip ?_
    refine zt ?_
    refine wp_seq ?_
    refine gl (sts:=[none,none,none]) (news:=[]) (sp:=[.val 28 _,.val 29 _,.val 27 _]) [.g 0,.g 1,.g 2,.o 2] hst (zv rfl rfl (r_load (lz0 0 rfl) ty_28) (zv rfl rfl (r_call (xs:=[.tmp 28,.const (.int .i64 (-1))]) (cavOne_q (m:=⟨_,_,_,_⟩) zd zd) (.cons (vq 0 rfl) (.cons has_num .nil))) (zv rfl rfl (r_assign (vq 1 rfl)) o0))) (fun a w hst=>?_)
    have hst:St B w0 33 [(2,_),(3,_),(6,_),(27,_)] [⟨1,28,ptrH,_⟩,⟨4,26,ptrH,_⟩,⟨5,26,ptrH,_⟩] a w:=hst
    refine thn_normal ?_
    refine cond_of hst (zm 3 rfl) (fun hb3=>?_) (fun hb3=>?_)
    ·refine wp_exit ?_
     refine thn_exit ?_
     refine thn_exit ?_
     refine blk_exit' zd ?_
     refine thn_exit ?_
     refine blk_exit' zd ?_
     refine blk_exit ?_
     refine zt ?_
     refine wp_seq ?_
     refine gl (sts:=[none,none,none]) (news:=[]) (sp:=[.val 2 _,.val 3 _]) [.o 0,.o 1] hst (zv rfl rfl (r_assign has_num) (zv rfl rfl (r_assign has_num) o0)) (fun a w hst=>?_)
     have hst:St B w0 33 [(2,_),(3,_)] [⟨1,28,ptrH,_⟩,⟨4,26,ptrH,_⟩,⟨5,26,ptrH,_⟩] a w:=hst
     refine thn_normal ?_
     refine wp_ret ?_
     refine thn_ret ?_
     refine blk_ret ?_
     refine thn_ret ?_
     refine blk_ret ?_
     refine thn_ret ?_
     refine ret_wk ?_ (ret_many (rs:=[.tmp 2,.tmp 3]) rfl hst (.tmp (zm 0 rfl) (.tmp (zm 1 rfl) .nil)) zd)
     rw [ek,ki_2n (m:=toM m) hb1 hb2 hb3]; exact wk_id
    ·refine wp_skip ?_
     refine zt ?_
     refine gl (sts:=[none,none,none]) (news:=[]) (sp:=[.val 31 _,.val 32 _,.val 30 _]) [.g 0,.g 1,.o 2] hst (zv rfl rfl (r_move (gq 2 rfl)) (zv rfl rfl (r_eql (vq 0 rfl) has_num) (zv rfl rfl (r_assign (vq 1 rfl)) o0))) (fun a w hst=>?_)
     have hst:St B w0 33 [(2,_),(3,_),(30,_)] [⟨1,28,ptrH,_⟩,⟨4,26,ptrH,_⟩,⟨5,26,ptrH,_⟩] a w:=hst
     refine thn_normal ?_
     refine cond_of hst (zm 2 rfl) (fun hb4=>?_) (fun hb4=>?_)
     ·refine wp_exit ?_
      refine thn_exit ?_
      refine blk_exit' zd ?_
      refine thn_exit ?_
      refine blk_exit' zd ?_
      refine blk_exit' zd ?_
      refine thn_exit ?_
      refine blk_exit ?_
      refine zt ?_
      refine wp_seq ?_
      refine gl (sts:=[none,none,none]) (news:=[]) (sp:=[.val 2 _,.val 3 _]) [.o 0,.o 1] hst (zv rfl rfl (r_assign has_num) (zv rfl rfl (r_assign has_num) o0)) (fun a w hst=>?_)
      have hst:St B w0 33 [(2,_),(3,_)] [⟨1,28,ptrH,_⟩,⟨4,26,ptrH,_⟩,⟨5,26,ptrH,_⟩] a w:=hst
      refine thn_normal ?_
      refine wp_ret ?_
      refine thn_ret ?_
      refine blk_ret ?_
      refine thn_ret ?_
      refine ret_wk ?_ (ret_many (rs:=[.tmp 2,.tmp 3]) rfl hst (.tmp (zm 0 rfl) (.tmp (zm 1 rfl) .nil)) zd)
      rw [ek,ki_3 (m:=toM m) hb1 hb2 hb3 hb4]; exact wk_id
     ·refine wp_skip ?_
      refine thn_normal ?_
      refine wp_exit ?_
      refine blk_exit' zd ?_
      refine thn_exit ?_
      refine blk_exit' zd ?_
      refine blk_exit' zd ?_
      refine thn_exit ?_
      refine blk_exit' zd ?_
      refine thn_exit ?_
      refine blk_exit ?_
      refine zt ?_
      refine gl (sts:=[none,none,none]) (news:=[]) (sp:=[.val 2 _,.val 3 _]) [.o 0,.o 1] hst (zv rfl rfl (r_assign has_num) (zv rfl rfl (r_assign has_num) o0)) (fun a w hst=>?_)
      have hst:St B w0 33 [(2,_),(3,_)] [⟨1,28,ptrH,_⟩,⟨4,26,ptrH,_⟩,⟨5,26,ptrH,_⟩] a w:=hst
      refine thn_normal ?_
      refine wp_ret ?_
      refine ret_wk ?_ (ret_many (rs:=[.tmp 2,.tmp 3]) rfl hst (.tmp (zm 0 rfl) (.tmp (zm 1 rfl) .nil)) zd)
      rw [ek,ki_4 (m:=toM m) hb1 hb2 hb3 hb4]; exact wk_id
def mayP (p q l:RF):Bool:=[p,q,l].all okX && decide ((toQ l).num.sign≥0)
def halfQ (p l:Rat):MQ:=⟨1 + -(p+p)*l,l,-(p+p),1⟩
def twoF (p q l:RF):RM × Int:=if mayP p q l then asM 0 (mulQ (halfQ (toQ q) (toQ l)) (halfQ (toQ p) (toQ l))) else (rm0,1)
def facF (p q l:RF):RF × RF × Int:=if mayP p q l then (if [1 - toQ p*toQ l,1 - toQ q*toQ l].any longQ then (rf0,rf0,4) else (rfOf (1 - toQ p*toQ l),rfOf (1 - toQ q*toQ l),0)) else (rf0,rf0,1)
abbrev FcR (r:RF × RF × Int):VA:=Tu [(RFA r.1).va,(RFA r.2.1).va,In r.2.2]
theorem sgn_l {p q l:RF} (h:[p,q,l].all okX=true):Cn Tryz.prog 90 [(RFA l).va] (In (toQ l).num.sign):=by
 simp only [List.all_cons,List.all_nil,Bool.and_true,Bool.and_eq_true] at h
 exact sign_q.wk (.cons (qa_x h.2.2 (Nat.le_refl 2048)).va .nil)
theorem mayP_q {p q l:RF} (h:mayP p q l=true):WkA (RFA p) (QA 2048 (toQ p))∧WkA (RFA q) (QA 2048 (toQ q))∧WkA (RFA l) (QA 2048 (toQ l)):=by
 unfold mayP at h
 simp only [List.all_cons,List.all_nil,Bool.and_true,Bool.and_eq_true] at h
 exact ⟨qa_x h.1.1 (Nat.le_refl _),qa_x h.1.2.1 (Nat.le_refl _),qa_x h.1.2.2 (Nat.le_refl _)⟩
theorem as_no {c:Prop} [Decidable c] (h:((if c then (4:Int) else 0) != 0)=false):¬ c:=fun hc=>by rw [if_pos hc] at h; simp at h
theorem as_yes {c:Prop} [Decidable c] (h:((if c then (4:Int) else 0) != 0)=true):c:=Decidable.byContradiction fun hc=>by rw [if_neg hc] at h; simp at h
theorem cavMay_c (p q l:RF):Cn Tryz.prog 189 [(RFA p).va,(RFA q).va,(RFA l).va] (Bo (mayP p q l)):=by
 refine Cn.intro Tryz.func189 rfl zk nq (fun B w0 a hst=>?_)
 have hst:St B w0 17 [(0,(RFA p).va),(1,(RFA q).va),(2,(RFA l).va)] [] a w0.w:=hst
 refine wp_seq ?_
 refine gl (sts:=[]) (news:=[⟨3,26,ptrH,some 0,_,none⟩,⟨4,26,ptrH,some 1,_,none⟩,⟨5,26,ptrH,some 2,_,none⟩]) (sp:=[.alc 0,.alc 1,.alc 2,.val 6 _]) [.o 3] hst (oc (ob_box rfl rfl rfl (gq 0 rfl)) (oc (ob_box rfl rfl rfl (gq 1 rfl)) (oc (ob_box rfl rfl rfl (gq 2 rfl)) (zv rfl rfl (r_assign has_bo) o0)))) (fun a w hst=>?_)
 have hst:St B w0 17 [(6,_)] [⟨3,26,ptrH,_⟩,⟨4,26,ptrH,_⟩,⟨5,26,ptrH,_⟩] a w:=hst
 refine zt ?_
 refine gl (sts:=[none,none,none]) (news:=[]) (sp:=[.val 7 _,.val 8 _,.val 9 _,.val 10 _,.val 11 _,.val 12 _,.val 13 (Wh (_=true) _),.val 14 (Wh (_=true) _),.val 15 (Wh (_=true) _),.val 16 _,.val 6 _]) [.o 10] hst (zv rfl rfl (r_load (lz0 0 rfl) ty_26) (zv rfl rfl (r_load (lz0 1 rfl) ty_26) (zv rfl rfl (r_load (lz0 2 rfl) ty_26) (zv rfl rfl (r_slice (D:=[U32]) (l:=[_,_,_]) (xs:=[.tmp 7,.tmp 8,.tmp 9]) (nd_ok zk) sl_142 zk (n_ok zk) nq nq nq (.cons (vq 0 rfl) (.cons (vq 1 rfl) (.cons (vq 2 rfl) .nil))) rfl rfl) (zv rfl rfl (r_call (xs:=[.tmp 10]) (checks_c [p,q,l] nq) (.cons (vq 3 rfl) .nil)) (zv rfl rfl (r_move (vq 4 rfl)) (oc (ob_gd rfl rfl rfl (vq 5 rfl) nq (fun hg=>r_load (lz0 2 rfl) ty_26)) (oc (ob_gd rfl rfl rfl (vq 5 rfl) nq (fun hg=>r_call (xs:=[.tmp 13]) (sgn_l hg) (.cons (has_wh (vq 6 rfl) hg) .nil))) (oc (ob_gd rfl rfl rfl (vq 5 rfl) nq (fun hg=>r_geq (has_wh (vq 7 rfl) hg) has_num)) (zv rfl rfl (r_and (vq 5 rfl) (vq 8 rfl)) (zv rfl rfl (r_assign (vq 9 rfl)) o0))))))))))) (fun a w hst=>?_)
 have hst:St B w0 17 [(6,_)] [⟨3,26,ptrH,_⟩,⟨4,26,ptrH,_⟩,⟨5,26,ptrH,_⟩] a w:=hst
 refine thn_normal ?_
 refine wp_ret ?_
 refine ret_wk ?_ (ret_tmp rfl hst (zm 0 rfl))
 exact wk_id
theorem cavAnswer_q {L:List As} (qs:List Rat) (hL:All2 IsQ L qs) (hl:qs.length≤1099511627776):Cn Tryz.prog 194 [(SlA 26 [U32] L).va] (In (if qs.any longQ then 4 else 0)):=by
 refine Cn.intro Tryz.func194 rfl zk nq (fun B w0 a hst=>?_)
 have hst:St B w0 5 [(0,(SlA 26 [U32] L).va)] [] a w0.w:=hst
 refine wp_seq ?_
 refine gl (sts:=[]) (news:=[]) (sp:=[.val 2 _]) [.g 0,.o 0] hst (zv rfl rfl (r_assign has_num) o0) (fun a w hst=>?_)
 have hst:St B w0 5 [(0,_),(2,_)] [] a w:=hst
 refine zt ?_
 refine gl (sts:=[]) (news:=[]) (sp:=[.val 3 _,.val 4 _,.val 2 _]) [.o 2] hst (zv rfl rfl (r_move (gq 0 rfl)) (zv rfl rfl (r_call (xs:=[.tmp 3]) (answer_q qs hL hl) (.cons (vq 0 rfl) .nil)) (zv rfl rfl (r_assign (vq 1 rfl)) o0))) (fun a w hst=>?_)
 have hst:St B w0 5 [(2,_)] [] a w:=hst
 refine thn_normal ?_
 refine wp_ret ?_
 refine ret_wk ?_ (ret_tmp rfl hst (zm 0 rfl))
 exact wk_id
theorem cavMatrix_q {c:Nat} {m:MQ} (hc:c≤549755813888):Cn Tryz.prog 190 [(QMA c m).va] (MR (asM 0 m)):=by
 refine Cn.intro Tryz.func190 rfl zk nq (fun B w0 a hst=>?_)
 have hst:St B w0 32 [(0,(QMA c m).va)] [] a w0.w:=hst
 refine wp_seq ?_
 refine gl (sts:=[]) (news:=[⟨1,28,ptrH,some 0,_,none⟩,⟨2,28,ptrH,some 1,_,none⟩]) (sp:=[.alc 0,.alc 1,.val 3 _]) [.o 2] hst (oc (ob_box rfl rfl rfl (gq 0 rfl)) (oc (ob_alc rfl rfl rfl (Str.zero str_matrix)) (zv rfl rfl (r_assign has_num) o0))) (fun a w hst=>?_)
 have hst:St B w0 32 [(3,_)] [⟨1,28,ptrH,_⟩,⟨2,28,ptrH,_⟩] a w:=hst
 refine zt ?_
 refine wp_seq ?_
 refine gl (sts:=[none,none]) (news:=[]) (sp:=[.adr 5 1 (.some 0) True,.val 6 _,.adr 7 1 (.some 4) True,.val 8 _,.adr 9 1 (.some 8) True,.val 10 _,.adr 11 1 (.some 12) True,.val 12 _,.val 13 _,.val 14 _,.val 4 _]) [.g 0,.o 10] hst (oc (ob_a rfl rfl (a_fld (lz0 0 rfl) fld_28_0)) (zv rfl rfl (r_loadf 0 rfl zk trivial (lz0 0 rfl) (Sub.part 0 rfl rfl) ty_26) (oc (ob_a rfl rfl (a_fld (lz0 0 rfl) fld_28_1)) (zv rfl rfl (r_loadf 2 rfl zk trivial (lz0 0 rfl) (Sub.part 1 rfl rfl) ty_26) (oc (ob_a rfl rfl (a_fld (lz0 0 rfl) fld_28_2)) (zv rfl rfl (r_loadf 4 rfl zk trivial (lz0 0 rfl) (Sub.part 2 rfl rfl) ty_26) (oc (ob_a rfl rfl (a_fld (lz0 0 rfl) fld_28_3)) (zv rfl rfl (r_loadf 6 rfl zk trivial (lz0 0 rfl) (Sub.part 3 rfl rfl) ty_26) (zv rfl rfl (r_slice (D:=[U32]) (l:=[_,_,_,_]) (xs:=[.tmp 6,.tmp 8,.tmp 10,.tmp 12]) (nd_ok zk) sl_142 zk (n_ok zk) nq nq nq (.cons (vq 1 rfl) (.cons (vq 3 rfl) (.cons (vq 5 rfl) (.cons (vq 7 rfl) .nil)))) rfl rfl) (zv rfl rfl (r_call (xs:=[.tmp 13]) (cavAnswer_q [m.a,m.b,m.c,m.d] (.cons ⟨_,rfl⟩ (.cons ⟨_,rfl⟩ (.cons ⟨_,rfl⟩ (.cons ⟨_,rfl⟩ .nil)))) nq) (.cons (vq 8 rfl) .nil)) (zv rfl rfl (r_assign (vq 9 rfl)) o0))))))))))) (fun a w hst=>?_)
 have hst:St B w0 32 [(3,_),(4,_)] [⟨1,28,ptrH,_⟩,⟨2,28,ptrH,_⟩] a w:=hst
 refine zt ?_
 refine gl (sts:=[none,none]) (news:=[]) (sp:=[.val 15 _,.val 16 _]) [.g 0,.g 1,.o 1] hst (zv rfl rfl (r_move (gq 1 rfl)) (zv rfl rfl (r_neq (vq 0 rfl) has_num) o0)) (fun a w hst=>?_)
 have hst:St B w0 32 [(3,_),(4,_),(16,_)] [⟨1,28,ptrH,_⟩,⟨2,28,ptrH,_⟩] a w:=hst
 refine thn_normal ?_
 refine cond_of hst (zm 2 rfl) (fun hb0=>?_) (fun hb0=>?_)
 ·have hl:=as_yes hb0
  refine wp_seq ?_
  refine gl (sts:=[none,some (2,_)]) (news:=[]) (sp:=[.val 17 _,.val 18 _,.sto 1,.val 3 _]) [.o 3] hst (zv rfl rfl (r_build (xs:=[]) (qs:=[]) str_matrix .nil) (zv rfl rfl (r_move (gq 1 rfl)) (oc (ob_sto rfl rfl rfl (vq 0 rfl) ty_28 (Eq.trans (b:=16) rfl rfl)) (zv rfl rfl (r_assign (vq 1 rfl)) o0)))) (fun a w hst=>?_)
  have hst:St B w0 32 [(3,_)] [⟨1,28,ptrH,_⟩,⟨2,28,ptrH,_⟩] a w:=hst
  refine thn_normal ?_
  refine wp_ret ?_
  refine thn_ret ?_
  refine ret_wk ?_ (ret_many (rs:=[.cell 2 28,.tmp 3]) rfl hst (.cell (zm 1 rfl) ty_28 (.tmp (zm 0 rfl) .nil)) zd)
  have e:asM 0 m=(rm0,4):=by rw [asM,if_pos rfl,if_pos hl]
  rw [e]; exact tu2w wk_id (wk_eq (by rw [if_pos hl]))
 ·have hl:=as_no hb0
  refine wp_skip ?_
  refine zt ?_
  refine go_draw (anc:=[[],[0],[0,1],[],[3],[0,1,2,3,4],[],[6],[0,1,2,3,4,5,6,7],[],[9],[0,1,2,3,4,5,6,7,8,9,10],[0,1,2,3,4,5,6,7,8,9,10,11],[0,1,2,3,4,5,6,7,8,9,10,11,12],[0,1,2,3,4,5,6,7,8,9,10,11,12,13]]) (sts:=[none,some (13,_)]) (news:=[]) (sp:=[.adr 19 1 (.some 0) True,.val 20 _,.val 21 _,.adr 22 1 (.some 4) True,.val 23 _,.val 24 _,.adr 25 1 (.some 8) True,.val 26 _,.val 27 _,.adr 28 1 (.some 12) True,.val 29 _,.val 30 _,.val 31 _,.sto 1,.val 3 _]) [.o 14] follows_mixed hst (oc (ob_a rfl rfl (a_fld (lz0 0 rfl) fld_28_0)) (zv rfl rfl (r_loadf 0 rfl zk trivial (lz0 0 rfl) (Sub.part 0 rfl rfl) ty_26) (zv rfl rfl (r_call (xs:=[.tmp 20]) (copy_q zo) (.cons (vq 1 rfl) .nil)) (oc (ob_a rfl rfl (a_fld (lz0 0 rfl) fld_28_1)) (zv rfl rfl (r_loadf 3 rfl zk trivial (lz0 0 rfl) (Sub.part 1 rfl rfl) ty_26) (zv rfl rfl (r_call (xs:=[.tmp 23]) (copy_q zo) (.cons (vq 4 rfl) .nil)) (oc (ob_a rfl rfl (a_fld (lz0 0 rfl) fld_28_2)) (zv rfl rfl (r_loadf 6 rfl zk trivial (lz0 0 rfl) (Sub.part 2 rfl rfl) ty_26) (zv rfl rfl (r_call (xs:=[.tmp 26]) (copy_q zo) (.cons (vq 7 rfl) .nil)) (oc (ob_a rfl rfl (a_fld (lz0 0 rfl) fld_28_3)) (zv rfl rfl (r_loadf 9 rfl zk trivial (lz0 0 rfl) (Sub.part 3 rfl rfl) ty_26) (zv rfl rfl (r_call (xs:=[.tmp 29]) (copy_q zo) (.cons (vq 10 rfl) .nil)) (zv rfl rfl (r_build (xs:=[(0,.tmp 21),(1,.tmp 24),(2,.tmp 27),(3,.tmp 30)]) (qs:=[(0,_),(1,_),(2,_),(3,_)]) str_matrix (.cons ⟨rfl,(vq 2 rfl),rfl⟩ (.cons ⟨rfl,(vq 5 rfl),rfl⟩ (.cons ⟨rfl,(vq 8 rfl),rfl⟩ (.cons ⟨rfl,(vq 11 rfl),rfl⟩ .nil))))) (oc (ob_sto rfl rfl rfl (vq 12 rfl) ty_28 (Eq.trans (b:=16) rfl rfl)) (zv rfl rfl (r_assign has_num) o0))))))))))))))) zk zk zk zk (fun a w hst=>?_)
  have hst:St B w0 32 [(3,_)] [⟨1,28,ptrH,_⟩,⟨2,28,ptrH,_⟩] a w:=hst
  refine thn_normal ?_
  refine wp_ret ?_
  refine ret_wk ?_ (ret_many (rs:=[.cell 2 28,.tmp 3]) rfl hst (.cell (zm 1 rfl) ty_28 (.tmp (zm 0 rfl) .nil)) zd)
  have e:asM 0 m=(rmOf m,0):=by rw [asM,if_pos rfl,if_neg hl]
  rw [e]; exact tu2w qmA.va wk_id
theorem cavHalf_q {p l:Rat}:Cn Tryz.prog 192 [Qs 2048 p,Qs 2048 l] ((QMA 6148 (halfQ p l)).va):=by
 refine Cn.intro Tryz.func192 rfl zk nq (fun B w0 a hst=>?_)
 have hst:St B w0 19 [(0,Qs 2048 p),(1,Qs 2048 l)] [] a w0.w:=hst
 refine wp_seq ?_
 refine gl (sts:=[]) (news:=[⟨2,26,ptrH,some 0,_,none⟩,⟨3,26,ptrH,some 1,_,none⟩,⟨4,28,ptrH,some 2,_,none⟩]) (sp:=[.alc 0,.alc 1,.alc 2]) [] hst (oc (ob_box rfl rfl rfl (gq 0 rfl)) (oc (ob_box rfl rfl rfl (gq 1 rfl)) (oc (ob_alc rfl rfl rfl (Str.zero str_matrix)) o0))) (fun a w hst=>?_)
 have hst:St B w0 19 [] [⟨2,26,ptrH,_⟩,⟨3,26,ptrH,_⟩,⟨4,28,ptrH,_⟩] a w:=hst
 refine zt ?_
 refine gl (sts:=[none,none,none]) (news:=[⟨5,26,ptrH,some 4,_,some (5,_)⟩]) (sp:=[.val 6 _,.val 7 _,.val 8 _,.val 9 _,.alc 3,.sto 3]) [] hst (zv rfl rfl (r_load (lz0 0 rfl) ty_26) (zv rfl rfl (r_load (lz0 0 rfl) ty_26) (zv rfl rfl (r_call (xs:=[.tmp 6,.tmp 7]) (plus_q zo) (.cons (vq 0 rfl) (.cons (vq 1 rfl) .nil))) (zv rfl rfl (r_call (xs:=[.tmp 8]) (turned_q zo) (.cons (vq 2 rfl) .nil)) (oc (ob_alc rfl rfl rfl (Str.zero str_frac)) (oc (ob_sto rfl rfl rfl (vq 3 rfl) ty_26 (Eq.trans (b:=4) rfl rfl)) o0)))))) (fun a w hst=>?_)
 have hst:St B w0 19 [] [⟨2,26,ptrH,_⟩,⟨3,26,ptrH,_⟩,⟨4,28,ptrH,_⟩,⟨5,26,ptrH,_⟩] a w:=hst
 refine zt ?_
 refine go_draw (anc:=[[],[],[],[0,1,2],[0,1,2,3],[],[],[0,1,2,3,4],[0,1,2,3,4,5,6,7],[0,1,2,3,4,5,6,7,8]]) (sts:=[none,none,some (9,_),none]) (news:=[]) (sp:=[.val 10 _,.val 11 _,.val 12 _,.val 13 _,.val 14 _,.val 15 _,.val 16 _,.val 17 _,.val 18 _,.sto 2]) [] follows_mixed hst (zv rfl rfl (r_call (xs:=[]) one_q .nil) (zv rfl rfl (r_load (lz0 3 rfl) ty_26) (zv rfl rfl (r_load (lz0 1 rfl) ty_26) (zv rfl rfl (r_call (xs:=[.tmp 11,.tmp 12]) (times_q zo) (.cons (vq 1 rfl) (.cons (vq 2 rfl) .nil))) (zv rfl rfl (r_call (xs:=[.tmp 10,.tmp 13]) (plus_q zo) (.cons (vq 0 rfl) (.cons (vq 3 rfl) .nil))) (zv rfl rfl (r_load (lz0 1 rfl) ty_26) (zv rfl rfl (r_load (lz0 3 rfl) ty_26) (zv rfl rfl (r_call (xs:=[]) one_q .nil) (zv rfl rfl (r_build (xs:=[(0,.tmp 14),(1,.tmp 15),(2,.tmp 16),(3,.tmp 17)]) (qs:=[(0,_),(1,_),(2,_),(3,_)]) str_matrix (.cons ⟨rfl,(vq 4 rfl),rfl⟩ (.cons ⟨rfl,(vq 5 rfl),rfl⟩ (.cons ⟨rfl,(vq 6 rfl),rfl⟩ (.cons ⟨rfl,(vq 7 rfl),rfl⟩ .nil))))) (oc (ob_sto rfl rfl rfl (vq 8 rfl) ty_28 (Eq.trans (b:=16) rfl rfl)) o0)))))))))) zk zk zk zk (fun a w hst=>?_)
 have hst:St B w0 19 [] [⟨2,26,ptrH,_⟩,⟨3,26,ptrH,_⟩,⟨4,28,ptrH,_⟩,⟨5,26,ptrH,_⟩] a w:=hst
 refine thn_normal ?_
 refine wp_ret ?_
 refine ret_wk ?_ (ret_cell rfl hst (zm 2 rfl) ty_28)
 exact (cat_wk (.cons (qa_mono zd) (.cons (qa_mono zd) (.cons (qa_mono zd) (.cons (qa_mono zd) .nil))))).va
theorem two_c (p q l:RF):Cn Tryz.prog 53 [(RFA p).va,(RFA q).va,(RFA l).va] (MR (twoF p q l)):=by
 refine Cn.intro Tryz.func53 rfl zk nq (fun B w0 a hst=>?_)
 have hst:St B w0 24 [(0,(RFA p).va),(1,(RFA q).va),(2,(RFA l).va)] [] a w0.w:=hst
 refine wp_seq ?_
 refine gl (sts:=[]) (news:=[⟨3,26,ptrH,some 0,_,none⟩,⟨4,26,ptrH,some 1,_,none⟩,⟨5,26,ptrH,some 2,_,none⟩,⟨6,28,ptrH,some 3,_,none⟩]) (sp:=[.alc 0,.alc 1,.alc 2,.alc 3,.val 7 _]) [.o 4] hst (oc (ob_box rfl rfl rfl (gq 0 rfl)) (oc (ob_box rfl rfl rfl (gq 1 rfl)) (oc (ob_box rfl rfl rfl (gq 2 rfl)) (oc (ob_alc rfl rfl rfl (Str.zero str_matrix)) (zv rfl rfl (r_assign has_num) o0))))) (fun a w hst=>?_)
 have hst:St B w0 24 [(7,_)] [⟨3,26,ptrH,_⟩,⟨4,26,ptrH,_⟩,⟨5,26,ptrH,_⟩,⟨6,28,ptrH,_⟩] a w:=hst
 refine zt ?_
 refine wp_seq ?_
 refine gl (sts:=[none,none,none,none]) (news:=[]) (sp:=[.val 8 _,.val 9 _,.val 10 _,.val 11 _,.val 12 _]) [.g 0,.o 4] hst (zv rfl rfl (r_load (lz0 0 rfl) ty_26) (zv rfl rfl (r_load (lz0 1 rfl) ty_26) (zv rfl rfl (r_load (lz0 2 rfl) ty_26) (zv rfl rfl (r_call (xs:=[.tmp 8,.tmp 9,.tmp 10]) (cavMay_c p q l) (.cons (vq 0 rfl) (.cons (vq 1 rfl) (.cons (vq 2 rfl) .nil)))) (zv rfl rfl (r_not (vq 3 rfl)) o0))))) (fun a w hst=>?_)
 have hst:St B w0 24 [(7,_),(12,_)] [⟨3,26,ptrH,_⟩,⟨4,26,ptrH,_⟩,⟨5,26,ptrH,_⟩,⟨6,28,ptrH,_⟩] a w:=hst
 refine thn_normal ?_
 refine cond_of hst (zm 1 rfl) (fun hb0=>?_) (fun hb0=>?_)
 ·rw [Bool.not_eq_true'] at hb0
  refine wp_seq ?_
  refine gl (sts:=[none,none,none,some (1,_)]) (news:=[]) (sp:=[.val 13 _,.sto 3,.val 7 _]) [.o 2] hst (zv rfl rfl (r_build (xs:=[]) (qs:=[]) str_matrix .nil) (oc (ob_sto rfl rfl rfl (vq 0 rfl) ty_28 (Eq.trans (b:=16) rfl rfl)) (zv rfl rfl (r_assign has_num) o0))) (fun a w hst=>?_)
  have hst:St B w0 24 [(7,_)] [⟨3,26,ptrH,_⟩,⟨4,26,ptrH,_⟩,⟨5,26,ptrH,_⟩,⟨6,28,ptrH,_⟩] a w:=hst
  refine thn_normal ?_
  refine wp_ret ?_
  refine thn_ret ?_
  refine ret_wk ?_ (ret_many (rs:=[.cell 6 28,.tmp 7]) rfl hst (.cell (zm 3 rfl) ty_28 (.tmp (zm 0 rfl) .nil)) zd)
  rw [twoF,if_neg (by rw [hb0]; decide)]; exact wk_id
 ·rw [Bool.not_eq_false'] at hb0
  obtain ⟨h1,h2,h3⟩:=mayP_q hb0
  have hst:=St.wkL hst 0 rfl h1
  have hst:=St.wkL hst 1 rfl h2
  have hst:=St.wkL hst 2 rfl h3
  refine wp_skip ?_
  refine zt ?_
  refine go_draw (anc:=[[],[],[0,1],[],[],[0,1,2,3,4],[0,1,2,3,4,5],[0,1,2,3,4,5,6],[0,1,2,3,4,5,6,7],[0,1,2,3,4,5,6,7],[0,1,2,3,4,5,6,7,8,9],[0,1,2,3,4,5,6,7,8,9,10]]) (sts:=[none,none,none,some (10,_)]) (news:=[]) (sp:=[.val 14 _,.val 15 _,.val 16 _,.val 17 _,.val 18 _,.val 19 _,.val 20 _,.val 21 _,.val 22 _,.val 23 _,.sto 3,.val 7 _]) [.o 11] follows_mixed hst (zv rfl rfl (r_load (lz0 1 rfl) ty_26) (zv rfl rfl (r_load (lz0 2 rfl) ty_26) (zv rfl rfl (r_call (xs:=[.tmp 14,.tmp 15]) cavHalf_q (.cons (vq 0 rfl) (.cons (vq 1 rfl) .nil))) (zv rfl rfl (r_load (lz0 0 rfl) ty_26) (zv rfl rfl (r_load (lz0 2 rfl) ty_26) (zv rfl rfl (r_call (xs:=[.tmp 17,.tmp 18]) cavHalf_q (.cons (vq 3 rfl) (.cons (vq 4 rfl) .nil))) (zv rfl rfl (r_call (xs:=[.tmp 16,.tmp 19]) (rowTimes_q (m:=⟨_,_,_,_⟩) (q:=⟨_,_,_,_⟩) zo) (.cons (vq 2 rfl) (.cons (vq 5 rfl) .nil))) (zv rfl rfl (r_call (xs:=[.tmp 20]) (cavMatrix_q (m:=⟨_,_,_,_⟩) zd) (.cons (vq 6 rfl) .nil)) (zv rfl rfl (r_ex0 (vq 7 rfl)) (zv rfl rfl (r_ex1 (vq 7 rfl)) (oc (ob_sto rfl rfl rfl (vq 8 rfl) ty_28 (Eq.trans (b:=16) rfl rfl)) (zv rfl rfl (r_assign (vq 9 rfl)) o0)))))))))))) zk zk zk zk (fun a w hst=>?_)
  have hst:St B w0 24 [(7,_)] [⟨3,26,ptrH,_⟩,⟨4,26,ptrH,_⟩,⟨5,26,ptrH,_⟩,⟨6,28,ptrH,_⟩] a w:=hst
  refine thn_normal ?_
  refine wp_ret ?_
  refine ret_wk ?_ (ret_many (rs:=[.cell 6 28,.tmp 7]) rfl hst (.cell (zm 3 rfl) ty_28 (.tmp (zm 0 rfl) .nil)) zd)
  rw [twoF,if_pos hb0]; exact wk_id
end Go.Proofs.YthncfchnkjemiaaGreatDoor
