import Derived.Test.YthncfchnkjemiaaGreatDoorIlAa
import Derived.Test.YthncfchnkjemiaaGreatDoorIlAc
import Derived.Test.YthncfchnkjemiaaGreatDoorIlAn
set_option linter.unusedVariables false
set_option linter.unusedSimpArgs false
set_option linter.unusedSectionVars false
set_option maxRecDepth 100000
namespace Go.Proofs.YthncfchnkjemiaaGreatDoor
open Go Go.RowKit
def okLb (l:List Nat):Bool:=l.all fun x=>decide (x<4294967296)
theorem okLb_iff {l:List Nat}:okLb l=true↔okL l:=by simp [okLb,okL]
def okX (x:RF):Bool:=okLb x.num.mag && okLb x.den.mag && okF x
def zI (x:RI):Int:=if x.neg then -(val x.mag:Nat) else (val x.mag:Nat)
def toQ (x:RF):Rat:=Rat.divInt (zI x.num) (zI x.den)
theorem zI_ri (z:Int):zI (riOf z)=z:=by
 unfold zI
 rw [val_ri]
 by_cases h:z<0 <;> simp [riOf,h] <;> omega
theorem toQ_of (r:Rat):toQ (rfOf r)=r:=by
 show Rat.divInt (zI (riOf r.num)) (zI (riOf (r.den:Int)))=r
 rw [zI_ri,zI_ri]
 exact Rat.num_divInt_den r
theorem okX_know {x:RF} (h:okL x.num.mag∧okL x.den.mag):okX x=okF x:=by rw [okX,okLb_iff.2 h.1,okLb_iff.2 h.2]; rfl
theorem okX_q {x:RF} (h:okX x=true):x=rfOf (toQ x)∧lz (toQ x).num≤2048∧lz ((toQ x).den:Int)≤2048:=by
 simp only [okX,Bool.and_eq_true] at h
 obtain ⟨r,rfl,h1⟩:=okF_q ⟨okLb_iff.1 h.1.1,okLb_iff.1 h.1.2⟩ h.2
 rw [toQ_of]
 exact ⟨rfl,h1⟩
abbrev rf0:RF:=⟨⟨false,[]⟩,⟨false,[]⟩⟩
theorem ex_check : ∃ fn, Tryz.prog.funcs[158]? = some fn ∧ (fn.name == "runtime.NumGoroutine") = false ∧ fn.body.isNone = false := ⟨_, Tryz.func158, by kernel_rfl, by kernel_rfl⟩
theorem check_x (x:RF):Cn Tryz.prog 158 [(RFA x).va] (In (if okX x then 0 else 1)) :=
 Cn.know (c:=okL x.num.mag∧okL x.den.mag) ex_check (fun B w args ha=>by cases ha with | cons h1 _=>exact rf_know h1) fun h=>(checkF_c x.num x.den).post (by rw [okX_know h])
theorem ok_no {l:List RF} {j:Nat} (h:j<l.length) (h2:((if okX l[j] then (0:Int) else 1) != 0)=true):false=l.all okX:=by
 have h3:okX l[j]=false:=by cases hh:okX l[j] <;> simp [hh] at h2 ⊢
 exact (List.all_eq_false.2 ⟨_,List.getElem_mem h,by simp [h3]⟩).symm
theorem ok_yes {l:List RF} {j:Nat} (h:j<l.length) (h1:(l.take j).all okX=true) (h2:((if okX l[j] then (0:Int) else 1) != 0)=false):(l.take (j+1)).all okX=true:=by
 rw [List.take_succ_eq_append_getElem h,List.all_append,h1]
 simp [ok1 h2]
theorem checks_c (xs:List RF) (hl:xs.length≤1099511627776):Cn Tryz.prog 224 [(SlA 26 [U32] (xs.map RFA)).va] (Bo (xs.all okX)):=by
 refine Cn.introW Tryz.func224 rfl zk nq (.cons (up_sl (fun A hA=>by obtain ⟨x,_,rfl⟩:=List.mem_map.1 hA; exact upA_rf x)).va .nil) (free_bo _).va (fun B w0 a hB0 hst=>?_)
 have hst:St B w0 15 [(0,(SlO 26 [U32] (xs.map RFA) True).va)] [] a w0.w:=hst
 refine wp_seq ?_
 refine gl (sts:=[]) (news:=[]) (sp:=[.val 2 _]) [.g 0,.o 0] hst (zv rfl rfl (r_assign has_bo) o0) (fun a w hst=>?_)
 have hst:St B w0 15 [(0,_),(2,_)] [] a w:=hst
 refine zt ?_
 refine wp_seq ?_
 refine gl (sts:=[]) (news:=[]) (sp:=[.val 5 _,.val 6 _,.val 7 _]) [.g 1,.o 0,.o 1,.o 2] hst (zv rfl rfl (r_move (gq 0 rfl)) (zv rfl rfl (r_len Tryz.underlying142 (has_and (has_old (vq 0 rfl)))) (zv rfl rfl (r_move has_num) o0))) (fun a w hst=>?_)
 have hst:St B w0 15 [(2,_),(5,_),(6,_),(7,_)] [] a w:=hst
 refine thn_normal ?_
 refine wp_block ?_
 have hst:=St.sel hst [1,2,3]
 refine wp_loop_ghost (fun n a w=>∃ j:Nat,(n+j=xs.length∧(xs.take j).all okX=true)∧St B w0 15 [(5,(SlO 26 [U32] (xs.map RFA) True).va),(6,In (xs.length:Nat)),(7,In (j:Nat))] [] a w) (xs.length) ?_ ?_
 ·exact ⟨0,⟨by omega,rfl⟩,by rw [List.length_map] at hst; exact hst⟩
 intro n a w hI
 obtain ⟨j,⟨hn,hno⟩,hst⟩:=hI
 refine wp_seq ?_
 refine gl (sts:=[]) (news:=[]) (sp:=[.val 8 _]) [.g 0,.g 1,.g 2,.o 0] hst (zv rfl rfl (r_lss (gq 2 rfl) (gq 1 rfl)) o0) (fun a w hst=>?_)
 have hst:St B w0 15 [(5,_),(6,_),(7,_),(8,_)] [] a w:=hst
 refine zt ?_
 refine cond_of hst (zm 3 rfl) (fun hb0=>?_) (fun hb0=>?_)
 ·have hj:j<xs.length:=by simp at hb0; omega
  refine wp_skip ?_
  refine zt ?_
  refine wp_block ?_
  refine wp_seq ?_
  refine gl (sts:=[]) (news:=[⟨4,26,ptrH,some 2,_,some (3,_)⟩]) (sp:=[.val 9 _,.val 10 _,.alc 0,.sto 0]) [.g 0,.g 1,.g 2] hst (zv rfl rfl (r_idx sl_142 (map_n fun _=>rfl) (has_and (has_old (gq 0 rfl))) (gq 2 rfl) (map_at hj)) (zv rfl rfl (r_loade (vq 0 rfl) ty_26) (oc (ob_alc rfl rfl rfl (Str.zero str_frac)) (oc (ob_sto rfl rfl rfl (vq 1 rfl) ty_26 (Eq.trans (b:=4) rfl rfl)) o0)))) (fun a w hst=>?_)
  have hst:St B w0 15 [(5,_),(6,_),(7,_)] [⟨4,26,ptrH,_⟩] a w:=hst
  refine zt ?_
  refine gl (sts:=[none]) (news:=[]) (sp:=[.val 11 _,.val 12 _,.val 13 _]) [.g 0,.g 1,.g 2,.o 2] hst (zv rfl rfl (r_load (lz0 0 rfl) ty_26) (zv rfl rfl (r_call (xs:=[.tmp 11]) (check_x _) (.cons (vq 0 rfl) .nil)) (zv rfl rfl (r_neq (vq 1 rfl) has_num) o0))) (fun a w hst=>?_)
  have hst:St B w0 15 [(5,_),(6,_),(7,_),(13,_)] [⟨4,26,ptrH,_⟩] a w:=hst
  refine thn_normal ?_
  refine cond_of hst (zm 3 rfl) (fun hb1=>?_) (fun hb1=>?_)
  ·refine wp_seq ?_
   refine gl (sts:=[none]) (news:=[]) (sp:=[.val 2 _]) [.g 0,.g 1,.g 2,.o 0] hst (zv rfl rfl (r_assign has_bo) o0) (fun a w hst=>?_)
   have hst:St B w0 15 [(5,_),(6,_),(7,_),(2,_)] [⟨4,26,ptrH,_⟩] a w:=hst
   refine thn_normal ?_
   refine wp_ret ?_
   refine blk_ret ?_
   refine thn_ret ?_
   refine thn_ret ?_
   refine blk_ret ?_
   refine thn_ret ?_
   refine ret_cast ?_ (ret_tmp rfl hst (zm 3 rfl))
   rw [← ok_no hj hb1]
  ·refine wp_skip ?_
   refine blk_normal ?_
   refine thn_normal ?_
   refine gl (sts:=[none]) (news:=[]) (sp:=[.val 14 _,.val 7 _]) [.g 0,.g 1,.o 1] hst (zv rfl rfl (r_add (gq 2 rfl) has_num (wi_succ zo)) (zv rfl rfl (r_move (vq 0 rfl)) o0)) (fun a w hst=>?_)
   have hst:St B w0 15 [(5,_),(6,_),(7,_)] [⟨4,26,ptrH,_⟩] a w:=hst
   refine thn_normal ?_
   have hst:=St.sel hst [0,1,2]
   have hst:=St.selL hst []
   exact ⟨n - 1,by omega,j+1,⟨by omega,ok_yes hj hno hb1⟩,hst⟩
 ·obtain rfl:j=xs.length:=by simp at hb0; omega
  refine wp_exit ?_
  refine thn_exit ?_
  refine thn_exit ?_
  refine blk_exit ?_
  refine zt ?_
  refine gl (sts:=[]) (news:=[]) (sp:=[.val 2 _]) [.o 0] hst (zv rfl rfl (r_assign has_bo) o0) (fun a w hst=>?_)
  have hst:St B w0 15 [(2,_)] [] a w:=hst
  refine thn_normal ?_
  refine wp_ret ?_
  refine ret_cast ?_ (ret_tmp rfl hst (zm 0 rfl))
  rw [List.take_length] at hno; rw [hno]
def ansF (q:Rat):RF × Int:=if longQ q then (rf0,4) else (rfOf q,0)
abbrev FrR (r:RF × Int):VA:=Tu [(RFA r.1).va,In r.2]
theorem rq_wk {k:Nat} {r:Rat}:Wk (Qs k r) (RFA (rfOf r)).va:=qaA.va
theorem tu2w {a b c d:VA} (h:Wk a c) (h':Wk b d):Wk (Tu [a,b]) (Tu [c,d]):=tu_wk (.cons h (.cons h' .nil))
theorem one_long {q:Rat}:[q].any longQ=longQ q:=by simp
theorem ne0 {b:Bool}:((if b then (4:Int) else 0) != 0)=b:=by cases b <;> rfl
theorem nd_va {l:List VA} {D:List TypeId} (h:(l.all fun A=>A.deps.all fun T=>D.contains T)=true):∀ A∈l,∀ T∈A.deps,T∈D:=fun A hA T hT=>by
 have:=List.all_eq_true.1 (List.all_eq_true.1 h A hA) T hT
 simpa using this
theorem has_wk' {R:Rg} {B:Nat} {w0:Bs} {i:Nat} {x:Operand} {A A':VA} (h:Has R B w0 i x A) (hw:Wk A A'):Has R B w0 i x A':=fun a w av=>hw _ _ _ (h a w av)
theorem answered_q {c:Nat} {x:Rat} (hc:c≤549755813888):Cn Tryz.prog 344 [Qs c x] (FrR (ansF x)):=by
 refine Cn.intro Tryz.func344 rfl zk nq (fun B w0 a hst=>?_)
 have hst:St B w0 14 [(0,Qs c x)] [] a w0.w:=hst
 refine wp_seq ?_
 refine gl (sts:=[]) (news:=[⟨1,26,ptrH,some 0,_,none⟩,⟨2,26,ptrH,some 1,_,none⟩]) (sp:=[.alc 0,.alc 1,.val 3 _]) [.o 2] hst (oc (ob_box rfl rfl rfl (gq 0 rfl)) (oc (ob_alc rfl rfl rfl (Str.zero str_frac)) (zv rfl rfl (r_assign has_num) o0))) (fun a w hst=>?_)
 have hst:St B w0 14 [(3,_)] [⟨1,26,ptrH,_⟩,⟨2,26,ptrH,_⟩] a w:=hst
 refine zt ?_
 refine wp_seq ?_
 refine gl (sts:=[none,none]) (news:=[]) (sp:=[.val 5 _,.val 6 _,.val 7 _,.val 4 _]) [.g 0,.o 3] hst (zv rfl rfl (r_load (lz0 0 rfl) ty_26) (zv rfl rfl (r_slice (D:=[U32]) (l:=[_]) (xs:=[.tmp 5]) (nd_ok zk) sl_142 zk (n_ok zk) nq nq nq (.cons (vq 0 rfl) .nil) rfl rfl) (zv rfl rfl (r_call (xs:=[.tmp 6]) ((answer_q [x] (.cons ⟨_,rfl⟩ .nil) nq)) (.cons (vq 1 rfl) .nil)) (zv rfl rfl (r_assign (vq 2 rfl)) o0)))) (fun a w hst=>?_)
 have hst:St B w0 14 [(3,_),(4,_)] [⟨1,26,ptrH,_⟩,⟨2,26,ptrH,_⟩] a w:=hst
 refine zt ?_
 refine gl (sts:=[none,none]) (news:=[]) (sp:=[.val 8 _,.val 9 _]) [.g 0,.g 1,.o 1] hst (zv rfl rfl (r_move (gq 1 rfl)) (zv rfl rfl (r_neq (vq 0 rfl) has_num) o0)) (fun a w hst=>?_)
 have hst:St B w0 14 [(3,_),(4,_),(9,_)] [⟨1,26,ptrH,_⟩,⟨2,26,ptrH,_⟩] a w:=hst
 refine thn_normal ?_
 refine cond_of hst (zm 2 rfl) (fun hb0=>?_) (fun hb0=>?_)
 ·rw [one_long,ne0] at hb0
  refine wp_seq ?_
  refine gl (sts:=[none,some (2,_)]) (news:=[]) (sp:=[.val 10 _,.val 11 _,.sto 1,.val 3 _]) [.o 3] hst (zv rfl rfl (r_build (xs:=[]) (qs:=[]) str_frac .nil) (zv rfl rfl (r_move (gq 1 rfl)) (oc (ob_sto rfl rfl rfl (vq 0 rfl) ty_26 (Eq.trans (b:=4) rfl rfl)) (zv rfl rfl (r_assign (vq 1 rfl)) o0)))) (fun a w hst=>?_)
  have hst:St B w0 14 [(3,_)] [⟨1,26,ptrH,_⟩,⟨2,26,ptrH,_⟩] a w:=hst
  refine thn_normal ?_
  refine wp_ret ?_
  refine thn_ret ?_
  refine ret_wk ?_ (ret_many (rs:=[.cell 2 26,.tmp 3]) rfl hst (.cell (zm 1 rfl) ty_26 (.tmp (zm 0 rfl) .nil)) zd)
  rw [ansF,if_pos hb0]; exact tu2w wk_id (wk_eq (by rw [one_long,hb0]; rfl))
 ·rw [one_long,ne0] at hb0
  refine wp_skip ?_
  refine zt ?_
  refine gl (sts:=[none,some (2,_)]) (news:=[]) (sp:=[.val 12 _,.val 13 _,.sto 1,.val 3 _]) [.o 3] hst (zv rfl rfl (r_load (lz0 0 rfl) ty_26) (zv rfl rfl (r_call (xs:=[.tmp 12]) (copy_q zo) (.cons (vq 0 rfl) .nil)) (oc (ob_sto rfl rfl rfl (vq 1 rfl) ty_26 (Eq.trans (b:=4) rfl rfl)) (zv rfl rfl (r_assign has_num) o0)))) (fun a w hst=>?_)
  have hst:St B w0 14 [(3,_)] [⟨1,26,ptrH,_⟩,⟨2,26,ptrH,_⟩] a w:=hst
  refine thn_normal ?_
  refine wp_ret ?_
  refine ret_wk ?_ (ret_many (rs:=[.cell 2 26,.tmp 3]) rfl hst (.cell (zm 1 rfl) ty_26 (.tmp (zm 0 rfl) .nil)) zd)
  rw [ansF,if_neg (by rw [hb0]; decide)]; exact tu2w rq_wk wk_id
end Go.Proofs.YthncfchnkjemiaaGreatDoor
namespace Go.Proofs.YthncfchnkjemiaaGreatDoor
open Go Go.RowKit
theorem sgn0 {x:Rat}:(x.num.sign == 0)=decide (x=0):=by
 by_cases h:x=0
 ·subst h; rfl
 ·have:x.num≠0:=fun e=>h (Rat.num_eq_zero.1 e)
  have:x.num.sign≠0:=fun e=>this (Int.sign_eq_zero_iff_zero.1 e)
  simp [h,this]
theorem ex_checkI : ∃ fn, Tryz.prog.funcs[288]? = some fn ∧ (fn.name == "runtime.NumGoroutine") = false ∧ fn.body.isNone = false := ⟨_, Tryz.func288, by kernel_rfl, by kernel_rfl⟩
theorem check_z {c:Nat} {p:Int} (hc:c≤2048):Cn Tryz.prog 288 [Zs c p] (In 0):=zs1 ex_checkI fun h=>(check_c (riOf p)).post (by rw [okRI_ri,decide_eq_true (by omega:lz p≤2048)]; rfl)
theorem lz_i64 {p:Int} (h0 : -9223372036854775808≤p) (h1:p<9223372036854775808):lz p≤2:=lz_le zo
theorem ansF_ok {q:Rat} (h:lz q.num≤2048∧lz (q.den:Int)≤2048):ansF q=(rfOf q,0):=by rw [ansF,longQ_false.2 h]; rfl
theorem ansF_low {p q:Int} (hq:q≠0) (hp:lz p≤2) (h2:lz q≤2):ansF (Rat.divInt p q)=(rfOf (Rat.divInt p q),0):=by
 have:=lz_low2 (p:=p) hq
 exact ansF_ok zo
theorem make_q {p q:Int} (hq:q≠0):Cn Tryz.prog 307 [Zs 2 p,Zs 2 q] (FrR (ansF (Rat.divInt p q))):=by
 refine Cn.intro Tryz.func307 rfl zk nq (fun B w0 a hst=>?_)
 have hst:St B w0 25 [(0,Zs 2 p),(1,Zs 2 q)] [] a w0.w:=hst
 refine wp_seq ?_
 refine gl (sts:=[]) (news:=[⟨2,24,ptrH,some 0,_,none⟩,⟨3,24,ptrH,some 1,_,none⟩,⟨4,26,ptrH,some 2,_,none⟩]) (sp:=[.alc 0,.alc 1,.alc 2,.val 5 _]) [.o 3] hst (oc (ob_box rfl rfl rfl (gq 0 rfl)) (oc (ob_box rfl rfl rfl (gq 1 rfl)) (oc (ob_alc rfl rfl rfl (Str.zero str_frac)) (zv rfl rfl (r_assign has_num) o0)))) (fun a w hst=>?_)
 have hst:St B w0 25 [(5,_)] [⟨2,24,ptrH,_⟩,⟨3,24,ptrH,_⟩,⟨4,26,ptrH,_⟩] a w:=hst
 refine zt ?_
 refine wp_seq ?_
 refine gl (sts:=[none,none,none]) (news:=[]) (sp:=[.val 6 _,.val 7 _,.val 8 _,.val 9 _,.val 10 (Wh (_=false) _),.val 11 (Wh (_=false) _),.val 12 (Wh (_=false) _),.val 13 _]) [.g 0,.o 7] hst (zv rfl rfl (r_load (lz0 0 rfl) ty_24) (zv rfl rfl (r_call (xs:=[.tmp 6]) (check_z zd) (.cons (vq 0 rfl) .nil)) (zv rfl rfl (r_neq (vq 1 rfl) has_num) (zv rfl rfl (r_move (vq 2 rfl)) (oc (ob_gd rfl rfl rfl (vq 3 rfl) nq (fun hg=>r_load (lz0 1 rfl) ty_24)) (oc (ob_gd rfl rfl rfl (vq 3 rfl) nq (fun hg=>r_call (xs:=[.tmp 10]) (check_z zd) (.cons (has_wh (vq 4 rfl) hg) .nil))) (oc (ob_gd rfl rfl rfl (vq 3 rfl) nq (fun hg=>r_neq (has_wh (vq 5 rfl) hg) has_num)) (zv rfl rfl (r_or (vq 3 rfl) (vq 6 rfl)) o0)))))))) (fun a w hst=>?_)
 have hst:St B w0 25 [(5,_),(13,_)] [⟨2,24,ptrH,_⟩,⟨3,24,ptrH,_⟩,⟨4,26,ptrH,_⟩] a w:=hst
 refine thn_normal ?_
 refine cond_of hst (zm 1 rfl) (fun hb0=>?_) (fun hb0=>?_)
 ·exact absurd hb0 zd
 ·refine wp_skip ?_
  refine zt ?_
  refine wp_seq ?_
  refine gl (sts:=[none,none,none]) (news:=[]) (sp:=[.val 15 _,.val 16 _,.val 17 _]) [.g 0,.o 2] hst (zv rfl rfl (r_load (lz0 1 rfl) ty_24) (zv rfl rfl (r_call (xs:=[.tmp 15]) sign_z (.cons (vq 0 rfl) .nil)) (zv rfl rfl (r_eql (vq 1 rfl) has_num) o0))) (fun a w hst=>?_)
  have hst:St B w0 25 [(5,_),(17,_)] [⟨2,24,ptrH,_⟩,⟨3,24,ptrH,_⟩,⟨4,26,ptrH,_⟩] a w:=hst
  refine thn_normal ?_
  refine cond_of hst (zm 1 rfl) (fun hb1=>?_) (fun hb1=>?_)
  ·exact absurd hb1 (by simpa using hq)
  ·refine wp_skip ?_
   refine zt ?_
   refine gl (sts:=[none,none,some (6,_)]) (news:=[]) (sp:=[.val 19 _,.val 20 _,.val 21 _,.val 22 _,.val 23 _,.val 24 _,.sto 2,.val 5 _]) [.o 7] hst (zv rfl rfl (r_load (lz0 0 rfl) ty_24) (zv rfl rfl (r_load (lz0 1 rfl) ty_24) (zv rfl rfl (r_call (xs:=[.tmp 19,.tmp 20]) (lowest_q zd zd hq) (.cons (vq 0 rfl) (.cons (vq 1 rfl) .nil))) (zv rfl rfl (r_call (xs:=[.tmp 21]) (answered_q zd) (.cons (vq 2 rfl) .nil)) (zv rfl rfl (r_ex0 (vq 3 rfl)) (zv rfl rfl (r_ex1 (vq 3 rfl)) (oc (ob_sto rfl rfl rfl (vq 4 rfl) ty_26 (Eq.trans (b:=4) rfl rfl)) (zv rfl rfl (r_assign (vq 5 rfl)) o0)))))))) (fun a w hst=>?_)
   have hst:St B w0 25 [(5,_)] [⟨2,24,ptrH,_⟩,⟨3,24,ptrH,_⟩,⟨4,26,ptrH,_⟩] a w:=hst
   refine thn_normal ?_
   refine wp_ret ?_
   refine ret_wk ?_ (ret_many (rs:=[.cell 4 26,.tmp 5]) rfl hst (.cell (zm 2 rfl) ty_26 (.tmp (zm 0 rfl) .nil)) zd)
   exact wk_id
theorem ofQ_c {p q:Int} (hp : -9223372036854775808≤p) (hp1:p<9223372036854775808) (hq0 : -9223372036854775808≤q) (hq1:q<9223372036854775808) (hq:q≠0):Cn Tryz.prog 201 [In p,In q] (FrR (rfOf (Rat.divInt p q),0)):=by
 refine Cn.intro Tryz.func201 rfl zk nq (fun B w0 a hst=>?_)
 have hst:St B w0 13 [(0,In p),(1,In q)] [] a w0.w:=hst
 refine wp_seq ?_
 refine gl (sts:=[]) (news:=[⟨4,26,ptrH,some 0,_,none⟩]) (sp:=[.alc 0,.val 5 _]) [.g 0,.g 1,.o 1] hst (oc (ob_alc rfl rfl rfl (Str.zero str_frac)) (zv rfl rfl (r_assign has_num) o0)) (fun a w hst=>?_)
 have hst:St B w0 13 [(0,_),(1,_),(5,_)] [⟨4,26,ptrH,_⟩] a w:=hst
 refine zt ?_
 refine gl (sts:=[some (7,_)]) (news:=[]) (sp:=[.val 6 _,.val 7 _,.val 8 _,.val 9 _,.val 10 _,.val 11 _,.val 12 _,.sto 0,.val 5 _]) [.o 8] hst (zv rfl rfl (r_move (gq 0 rfl)) (zv rfl rfl (r_call (xs:=[.tmp 6]) (of_z hp hp1) (.cons (vq 0 rfl) .nil)) (zv rfl rfl (r_move (gq 1 rfl)) (zv rfl rfl (r_call (xs:=[.tmp 8]) (of_z hq0 hq1) (.cons (vq 2 rfl) .nil)) (zv rfl rfl (r_call (xs:=[.tmp 7,.tmp 9]) (make_q hq) (.cons (vq 1 rfl) (.cons (vq 3 rfl) .nil))) (zv rfl rfl (r_ex0 (vq 4 rfl)) (zv rfl rfl (r_ex1 (vq 4 rfl)) (oc (ob_sto rfl rfl rfl (vq 5 rfl) ty_26 (Eq.trans (b:=4) rfl rfl)) (zv rfl rfl (r_assign (vq 6 rfl)) o0))))))))) (fun a w hst=>?_)
 have hst:St B w0 13 [(5,_)] [⟨4,26,ptrH,_⟩] a w:=hst
 refine thn_normal ?_
 refine wp_ret ?_
 refine ret_wk ?_ (ret_many (rs:=[.cell 4 26,.tmp 5]) rfl hst (.cell (zm 0 rfl) ty_26 (.tmp (zm 0 rfl) .nil)) zd)
 rw [← ansF_low hq (lz_i64 hp hp1) (lz_i64 hq0 hq1)]; exact wk_id
end Go.Proofs.YthncfchnkjemiaaGreatDoor
namespace Go.Proofs.YthncfchnkjemiaaGreatDoor
open Go Go.RowKit
structure RG where
 re:RF
 im:RF
 deriving DecidableEq
structure RM where
 a:RF
 b:RF
 c:RF
 d:RF
 deriving DecidableEq
structure RR where
 y:RF
 u:RF
 deriving DecidableEq
structure GQ where
 re:Rat
 im:Rat
 deriving DecidableEq
structure MQ where
 a:Rat
 b:Rat
 c:Rat
 d:Rat
 deriving DecidableEq
structure YQ where
 y:Rat
 u:Rat
 deriving DecidableEq
def RMA (x:RM):As:=cat [RFA x.a,RFA x.b,RFA x.c,RFA x.d]
def QMA (k:Nat) (x:MQ):As:=cat [QA k x.a,QA k x.b,QA k x.c,QA k x.d]
def toM (x:RM):MQ:=⟨toQ x.a,toQ x.b,toQ x.c,toQ x.d⟩
def detM (m:MQ):Rat:=m.a*m.d - m.b*m.c
theorem qa_x {k:Nat} {x:RF} (h:okX x=true) (hk:2048≤k):WkA (RFA x) (QA k (toQ x)):=by
 obtain ⟨h1,h2,h3⟩:=okX_q h
 exact (wkA_eq (congrArg RFA h1)).trans (qa_of (Nat.le_trans h2 hk) (Nat.le_trans h3 hk))
theorem qm_x {x:RM} (h:[x.a,x.b,x.c,x.d].all okX=true):WkA (RMA x) (QMA 2048 (toM x)):=by
 simp only [List.all_cons,List.all_nil,Bool.and_true,Bool.and_eq_true] at h
 exact cat_wk (.cons (qa_x h.1 (Nat.le_refl _)) (.cons (qa_x h.2.1 (Nat.le_refl _)) (.cons (qa_x h.2.2.1 (Nat.le_refl _)) (.cons (qa_x h.2.2.2 (Nat.le_refl _)) .nil))))
def okM (m:RM):Bool:=[m.a,m.b,m.c,m.d].all okX && decide (detM (toM m)=1)
theorem cm_ne {x y:Rat}:(cmQ x y != 0) = !decide (x=y):=by
 unfold cmQ
 by_cases h:x<y
 ·rw [if_pos h]; simp [Rat.ne_of_lt h]
 ·rw [if_neg h]
  by_cases h2:y<x
  ·rw [if_pos h2]; simp [Rat.ne_of_gt h2]
  ·rw [if_neg h2]
   have:x=y:=Rat.le_antisymm (Rat.not_lt.1 h2) (Rat.not_lt.1 h)
   simp [this]
theorem cm_eq {x y:Rat}:(cmQ x y == 0)=decide (x=y):=by
 have:=cm_ne (x:=x) (y:=y)
 simp only [bne] at this
 cases h:cmQ x y == 0 <;> cases h2:decide (x=y) <;> simp_all
theorem all4 {m:RM} (h:(![m.a,m.b,m.c,m.d].all okX)=false):[m.a,m.b,m.c,m.d].all okX=true:=by simpa using h
theorem str_matrix:Str Tryz.prog 28 [RFA rf0,RFA rf0,RFA rf0,RFA rf0] :=
 Str.of (z:=.agg #[.bool false,.slice none 0 0,.bool false,.slice none 0 0,.bool false,.slice none 0 0,.bool false,.slice none 0 0,.bool false,.slice none 0 0,.bool false,.slice none 0 0,.bool false,.slice none 0 0,.bool false,.slice none 0 0]) zk Tryz.underlying28 zk fun B w=>⟨[[.bool false,.slice none 0 0,.bool false,.slice none 0 0],[.bool false,.slice none 0 0,.bool false,.slice none 0 0],[.bool false,.slice none 0 0,.bool false,.slice none 0 0],[.bool false,.slice none 0 0,.bool false,.slice none 0 0]],rfl,(.cons (rf0_p B w) (.cons (rf0_p B w) (.cons (rf0_p B w) (.cons (rf0_p B w) .nil))))⟩
theorem rdet_q {c d e f:Nat} {x y z u:Rat} (hk:c+d+e+f≤137438953472):Cn Tryz.prog 210 [Qs c x,Qs d y,Qs e z,Qs f u] (Qs (c+f+(d+e)+1) (x*u - y*z)):=by
 refine Cn.intro Tryz.func210 rfl zk nq (fun B w0 a hst=>?_)
 have hst:St B w0 16 [(0,Qs c x),(1,Qs d y),(2,Qs e z),(3,Qs f u)] [] a w0.w:=hst
 refine wp_seq ?_
 refine gl (sts:=[]) (news:=[⟨4,26,ptrH,some 0,_,none⟩,⟨5,26,ptrH,some 1,_,none⟩,⟨6,26,ptrH,some 2,_,none⟩,⟨7,26,ptrH,some 3,_,none⟩,⟨8,26,ptrH,some 4,_,none⟩]) (sp:=[.alc 0,.alc 1,.alc 2,.alc 3,.alc 4]) [] hst (oc (ob_box rfl rfl rfl (gq 0 rfl)) (oc (ob_box rfl rfl rfl (gq 1 rfl)) (oc (ob_box rfl rfl rfl (gq 2 rfl)) (oc (ob_box rfl rfl rfl (gq 3 rfl)) (oc (ob_alc rfl rfl rfl (Str.zero str_frac)) o0))))) (fun a w hst=>?_)
 have hst:St B w0 16 [] [⟨4,26,ptrH,_⟩,⟨5,26,ptrH,_⟩,⟨6,26,ptrH,_⟩,⟨7,26,ptrH,_⟩,⟨8,26,ptrH,_⟩] a w:=hst
 refine zt ?_
 refine go_draw (anc:=[[],[],[0,1],[],[],[0,1,2,3,4],[0,1,2,3,4,5],[0,1,2,3,4,5,6]]) (sts:=[none,none,none,none,some (7,_)]) (news:=[]) (sp:=[.val 9 _,.val 10 _,.val 11 _,.val 12 _,.val 13 _,.val 14 _,.val 15 _,.sto 4]) [] follows_mixed hst (zv rfl rfl (r_load (lz0 0 rfl) ty_26) (zv rfl rfl (r_load (lz0 3 rfl) ty_26) (zv rfl rfl (r_call (xs:=[.tmp 9,.tmp 10]) (times_q zo) (.cons (vq 0 rfl) (.cons (vq 1 rfl) .nil))) (zv rfl rfl (r_load (lz0 1 rfl) ty_26) (zv rfl rfl (r_load (lz0 2 rfl) ty_26) (zv rfl rfl (r_call (xs:=[.tmp 12,.tmp 13]) (times_q zo) (.cons (vq 3 rfl) (.cons (vq 4 rfl) .nil))) (zv rfl rfl (r_call (xs:=[.tmp 11,.tmp 14]) (minus_q zo) (.cons (vq 2 rfl) (.cons (vq 5 rfl) .nil))) (oc (ob_sto rfl rfl rfl (vq 6 rfl) ty_26 (Eq.trans (b:=4) rfl rfl)) o0)))))))) zk zk zk zk (fun a w hst=>?_)
 have hst:St B w0 16 [] [⟨4,26,ptrH,_⟩,⟨5,26,ptrH,_⟩,⟨6,26,ptrH,_⟩,⟨7,26,ptrH,_⟩,⟨8,26,ptrH,_⟩] a w:=hst
 refine thn_normal ?_
 refine wp_ret ?_
 refine ret_wk ?_ (ret_cell rfl hst (zm 4 rfl) ty_26)
 exact wk_id
theorem chkM_yes {m:RM} (h:((![m.a,m.b,m.c,m.d].all okX) || (cmQ (toQ m.a*toQ m.d - toQ m.b*toQ m.c) 1 != 0))=true):(1:Int)=if okM m then 0 else 1:=by
 have:okM m=false:=by
  unfold okM
  rw [cm_ne] at h
  show ([m.a,m.b,m.c,m.d].all okX && decide (toQ m.a*toQ m.d - toQ m.b*toQ m.c=1))=false
  cases h1:[m.a,m.b,m.c,m.d].all okX
  ·rfl
  ·rw [h1] at h; simpa using h
 rw [this]; rfl
theorem chkM_no {m:RM} (h:((![m.a,m.b,m.c,m.d].all okX) || (cmQ (toQ m.a*toQ m.d - toQ m.b*toQ m.c) 1 != 0))=false):(0:Int)=if okM m then 0 else 1:=by
 have:okM m=true:=by
  unfold okM
  rw [cm_ne] at h
  show ([m.a,m.b,m.c,m.d].all okX && decide (toQ m.a*toQ m.d - toQ m.b*toQ m.c=1))=true
  cases h1:[m.a,m.b,m.c,m.d].all okX
  ·rw [h1] at h; simp at h
  ·rw [h1] at h; simpa using h
 rw [this]; rfl
theorem det_x {m:RM} (h:(![m.a,m.b,m.c,m.d].all okX)=false):Cn Tryz.prog 210 [(RFA m.a).va,(RFA m.b).va,(RFA m.c).va,(RFA m.d).va] (Qs 8193 (toQ m.a*toQ m.d - toQ m.b*toQ m.c)):=by
 have h4:=all4 h
 simp only [List.all_cons,List.all_nil,Bool.and_true,Bool.and_eq_true] at h4
 exact (rdet_q (c:=2048) (d:=2048) (e:=2048) (f:=2048) zd).wk (.cons (qa_x h4.1 (Nat.le_refl _)).va (.cons (qa_x h4.2.1 (Nat.le_refl _)).va (.cons (qa_x h4.2.2.1 (Nat.le_refl _)).va (.cons (qa_x h4.2.2.2 (Nat.le_refl _)).va .nil))))
theorem rayCheck_c (m:RM):Cn Tryz.prog 74 [(RMA m).va] (In (if okM m then 0 else 1)):=by
 refine Cn.intro Tryz.func74 rfl zk nq (fun B w0 a hst=>?_)
 have hst:St B w0 28 [(0,(RMA m).va)] [] a w0.w:=hst
 refine wp_seq ?_
 refine gl (sts:=[]) (news:=[⟨1,28,ptrH,some 0,_,none⟩]) (sp:=[.alc 0,.val 2 _]) [.o 1] hst (oc (ob_box rfl rfl rfl (gq 0 rfl)) (zv rfl rfl (r_assign has_num) o0)) (fun a w hst=>?_)
 have hst:St B w0 28 [(2,_)] [⟨1,28,ptrH,_⟩] a w:=hst
 refine zt ?_
 refine wp_seq ?_
 refine gl (sts:=[none]) (news:=[]) (sp:=((.adr 3 1 (.some 0) True:Sp)::(.val 4 _)::(.adr 5 1 (.some 4) True)::(.val 6 _)::(.adr 7 1 (.some 8) True)::(.val 8 _)::(.adr 9 1 (.some 12) True)::(.val 10 _)::(.val 11 _)::(.val 12 _)::(.val 13 _)::(.val 14 _)::(.adr 15 1 (.some 0) (_=false))::(.val 16 (Wh (_=false) _))::(.adr 17 1 (.some 4) (_=false))::(.val 18 (Wh (_=false) _))::(.adr 19 1 (.some 8) (_=false))::(.val 20 (Wh (_=false) _))::(.adr 21 1 (.some 12) (_=false))::(.val 22 (Wh (_=false) _))::(.val 23 (Wh (_=false) _))::(.val 24 (Wh (_=false) _))::(.val 25 (Wh (_=false) _))::(.val 26 (Wh (_=false) _))::(.val 27 _)::[])) [.g 0,.o 24] hst (oc (ob_a rfl rfl (a_fld (lz0 0 rfl) fld_28_0)) (zv rfl rfl (r_loadf 0 rfl zk trivial (lz0 0 rfl) (Sub.part 0 rfl rfl) ty_26) (oc (ob_a rfl rfl (a_fld (lz0 0 rfl) fld_28_1)) (zv rfl rfl (r_loadf 2 rfl zk trivial (lz0 0 rfl) (Sub.part 1 rfl rfl) ty_26) (oc (ob_a rfl rfl (a_fld (lz0 0 rfl) fld_28_2)) (zv rfl rfl (r_loadf 4 rfl zk trivial (lz0 0 rfl) (Sub.part 2 rfl rfl) ty_26) (oc (ob_a rfl rfl (a_fld (lz0 0 rfl) fld_28_3)) (zv rfl rfl (r_loadf 6 rfl zk trivial (lz0 0 rfl) (Sub.part 3 rfl rfl) ty_26) (zv rfl rfl (r_slice (D:=[U32]) (l:=[_,_,_,_]) (xs:=[.tmp 4,.tmp 6,.tmp 8,.tmp 10]) (nd_ok zk) sl_142 zk (n_ok zk) nq nq nq (.cons (vq 1 rfl) (.cons (vq 3 rfl) (.cons (vq 5 rfl) (.cons (vq 7 rfl) .nil)))) rfl rfl) (zv rfl rfl (r_call (xs:=[.tmp 11]) (checks_c [m.a,m.b,m.c,m.d] nq) (.cons (vq 8 rfl) .nil)) (zv rfl rfl (r_not (vq 9 rfl)) (zv rfl rfl (r_move (vq 10 rfl)) (oc (ob_ag rfl rfl rfl (vq 11 rfl) nq (fun hg=>a_fld (lz0 0 rfl) fld_28_0)) (oc (ob_gd rfl rfl rfl (vq 11 rfl) nq (fun hg=>r_loadf 12 rfl zk hg (lz0 0 rfl) (Sub.part 0 rfl rfl) ty_26)) (oc (ob_ag rfl rfl rfl (vq 11 rfl) nq (fun hg=>a_fld (lz0 0 rfl) fld_28_1)) (oc (ob_gd rfl rfl rfl (vq 11 rfl) nq (fun hg=>r_loadf 14 rfl zk hg (lz0 0 rfl) (Sub.part 1 rfl rfl) ty_26)) (oc (ob_ag rfl rfl rfl (vq 11 rfl) nq (fun hg=>a_fld (lz0 0 rfl) fld_28_2)) (oc (ob_gd rfl rfl rfl (vq 11 rfl) nq (fun hg=>r_loadf 16 rfl zk hg (lz0 0 rfl) (Sub.part 2 rfl rfl) ty_26)) (oc (ob_ag rfl rfl rfl (vq 11 rfl) nq (fun hg=>a_fld (lz0 0 rfl) fld_28_3)) (oc (ob_gd rfl rfl rfl (vq 11 rfl) nq (fun hg=>r_loadf 18 rfl zk hg (lz0 0 rfl) (Sub.part 3 rfl rfl) ty_26)) (oc (ob_gd rfl rfl rfl (vq 11 rfl) nq (fun hg=>r_call (xs:=[.tmp 16,.tmp 18,.tmp 20,.tmp 22]) (det_x hg) (.cons (has_wh (vq 13 rfl) hg) (.cons (has_wh (vq 15 rfl) hg) (.cons (has_wh (vq 17 rfl) hg) (.cons (has_wh (vq 19 rfl) hg) .nil)))))) (oc (ob_gd rfl rfl rfl (vq 11 rfl) nq (fun hg=>r_call (xs:=[]) one_q .nil)) (oc (ob_gd rfl rfl rfl (vq 11 rfl) nq (fun hg=>r_call (xs:=[.tmp 23,.tmp 24]) (cmp_q zo) (.cons (has_wh (vq 20 rfl) hg) (.cons (has_wh (vq 21 rfl) hg) .nil)))) (oc (ob_gd rfl rfl rfl (vq 11 rfl) nq (fun hg=>r_neq (has_wh (vq 22 rfl) hg) has_num)) (zv rfl rfl (r_or (vq 11 rfl) (vq 23 rfl)) o0))))))))))))))))))))))))) (fun a w hst=>?_)
 have hst:St B w0 28 [(2,_),(27,_)] [⟨1,28,ptrH,_⟩] a w:=hst
 refine thn_normal ?_
 refine cond_of hst (zm 1 rfl) (fun hb0=>?_) (fun hb0=>?_)
 ·refine wp_seq ?_
  refine gl (sts:=[none]) (news:=[]) (sp:=[.val 2 _]) [.o 0] hst (zv rfl rfl (r_assign has_num) o0) (fun a w hst=>?_)
  have hst:St B w0 28 [(2,_)] [⟨1,28,ptrH,_⟩] a w:=hst
  refine thn_normal ?_
  refine wp_ret ?_
  refine thn_ret ?_
  refine ret_wk ?_ (ret_tmp rfl hst (zm 0 rfl))
  exact wk_eq (congrArg In (chkM_yes hb0))
 ·refine wp_skip ?_
  refine zt ?_
  refine gl (sts:=[none]) (news:=[]) (sp:=[.val 2 _]) [.o 0] hst (zv rfl rfl (r_assign has_num) o0) (fun a w hst=>?_)
  have hst:St B w0 28 [(2,_)] [⟨1,28,ptrH,_⟩] a w:=hst
  refine thn_normal ?_
  refine wp_ret ?_
  refine ret_wk ?_ (ret_tmp rfl hst (zm 0 rfl))
  exact wk_eq (congrArg In (chkM_no hb0))
end Go.Proofs.YthncfchnkjemiaaGreatDoor
namespace Go.Proofs.YthncfchnkjemiaaGreatDoor
open Go Go.RowKit
theorem okM_q {m:RM} (h:okM m=true):[m.a,m.b,m.c,m.d].all okX=true∧detM (toM m)=1:=by
 unfold okM at h
 rw [Bool.and_eq_true,decide_eq_true_eq] at h
 exact h
theorem tu3w {a b c d e f:VA} (h:Wk a d) (h':Wk b e) (h'':Wk c f):Wk (Tu [a,b,c]) (Tu [d,e,f]):=tu_wk (.cons h (.cons h' (.cons h'' .nil)))
end Go.Proofs.YthncfchnkjemiaaGreatDoor
namespace Go.Proofs.YthncfchnkjemiaaGreatDoor
open Go Go.RowKit
def intSizeF (x:RI):Int:=IntKind.i64.wrap (1+(x.mag.length:Int))
def fracSizeF (x:RF):Int:=IntKind.i64.wrap (intSizeF x.num+intSizeF x.den)
def lowCostF (x y:RI):Int:=IntKind.i64.wrap (IntKind.i64.wrap ((IntKind.i64.wrap (min (x.mag.length:Int) 1048576*min (y.mag.length:Int) 1048576)).tdiv 16)*1024)
def fracCostF (x:RF):Int:=IntKind.i64.wrap (fracSizeF x+lowCostF x.num x.den)
def matCostF (x:RM):Int:=IntKind.i64.wrap (IntKind.i64.wrap (IntKind.i64.wrap (fracCostF x.a+fracCostF x.b)+fracCostF x.c)+fracCostF x.d)
def bydF (n:Int):List Int→Bool
 | []=>false
 | x::xs=>if decide (IntKind.i64.wrap (n+x)>1048576) then true else bydF (IntKind.i64.wrap (n+x)) xs
theorem byd_yes {n:Int} {l:List Int} {j:Nat} (h:j<l.length) (h2:decide (IntKind.i64.wrap (n+l[j])>1048576)=true):true=bydF n (l.drop j):=by
 rw [List.drop_eq_getElem_cons h,bydF,h2]; rfl
theorem byd_no {n:Int} {l:List Int} {j:Nat} (h:j<l.length) (h2:decide (IntKind.i64.wrap (n+l[j])>1048576)=false):bydF n (l.drop j)=bydF (IntKind.i64.wrap (n+l[j])) (l.drop (j+1)):=by
 rw [List.drop_eq_getElem_cons h,bydF,h2]; rfl
theorem wi_nx {j m:Nat} (h:j<m) (hm:m≤9223372036854775807):IntKind.i64.wrap ((j:Int)+1)=((j+1:Nat):Int):=by rw [wi64 zo zo]; rfl
theorem slA_len {E:TypeId} {D:List TypeId} {l:List As} {B:Nat} {v:Value} {w:World} (h:(SlA E D l).va.p B v w):l.length≤9223372036854775807:=by
 obtain ⟨cs,⟨_,A,c,ds,_,h1,h2,_⟩,_⟩:=h
 unfold maxLen at h2
 omega
theorem slA_lenm {E:TypeId} {D:List TypeId} {α:Type} {f:α→As} {l:List α} {B:Nat} {v:Value} {w:World} (h:(SlA E D (l.map f)).va.p B v w):l.length≤9223372036854775807:=by
 have:=slA_len h
 rwa [List.length_map] at this
theorem intSize_c (x:RI):Cn Tryz.prog 287 [(RIA x).va] (In (intSizeF x)):=by
 refine Cn.intro Tryz.func287 rfl zk nq (fun B w0 a hst=>?_)
 have hst:St B w0 7 [(0,(RIA x).va)] [] a w0.w:=hst
 refine wp_seq ?_
 refine gl (sts:=[]) (news:=[⟨1,24,ptrH,some 0,_,none⟩]) (sp:=[.alc 0,.val 2 _]) [.o 1] hst (oc (ob_box rfl rfl rfl (gq 0 rfl)) (zv rfl rfl (r_assign has_num) o0)) (fun a w hst=>?_)
 have hst:St B w0 7 [(2,_)] [⟨1,24,ptrH,_⟩] a w:=hst
 refine zt ?_
 refine gl (sts:=[none]) (news:=[]) (sp:=[.adr 3 1 (.some 1) True,.val 4 _,.val 5 _,.val 6 _,.val 2 _]) [.o 4] hst (oc (ob_a rfl rfl (a_fld (lz0 0 rfl) fld_24_1)) (zv rfl rfl (r_loadf 0 rfl zk trivial (lz0 0 rfl) (Sub.part 1 rfl rfl) ty_22) (zv rfl rfl (r_lenm Tryz.underlying22 (vq 1 rfl)) (zv rfl rfl (r_add has_num (vq 2 rfl) (rfl)) (zv rfl rfl (r_assign (vq 3 rfl)) o0))))) (fun a w hst=>?_)
 have hst:St B w0 7 [(2,_)] [⟨1,24,ptrH,_⟩] a w:=hst
 refine thn_normal ?_
 refine wp_ret ?_
 refine ret_wk ?_ (ret_tmp rfl hst (zm 0 rfl))
 exact wk_id
theorem fracSize_c (x:RF):Cn Tryz.prog 155 [(RFA x).va] (In (fracSizeF x)):=by
 refine Cn.intro Tryz.func155 rfl zk nq (fun B w0 a hst=>?_)
 have hst:St B w0 10 [(0,(RFA x).va)] [] a w0.w:=hst
 refine wp_seq ?_
 refine gl (sts:=[]) (news:=[⟨1,26,ptrH,some 0,_,none⟩]) (sp:=[.alc 0,.val 2 _]) [.o 1] hst (oc (ob_box rfl rfl rfl (gq 0 rfl)) (zv rfl rfl (r_assign has_num) o0)) (fun a w hst=>?_)
 have hst:St B w0 10 [(2,_)] [⟨1,26,ptrH,_⟩] a w:=hst
 refine zt ?_
 refine go_draw (anc:=[[],[0],[0,1],[],[3],[0,1,2,3,4],[0,1,2,3,4,5],[0,1,2,3,4,5,6]]) (sts:=[none]) (news:=[]) (sp:=[.adr 3 1 (.some 0) True,.val 4 _,.val 5 _,.adr 6 1 (.some 2) True,.val 7 _,.val 8 _,.val 9 _,.val 2 _]) [.o 7] follows_mixed hst (oc (ob_a rfl rfl (a_fld (lz0 0 rfl) fld_26_0)) (zv rfl rfl (r_loadf 0 rfl zk trivial (lz0 0 rfl) (Sub.part 0 rfl rfl) ty_24) (zv rfl rfl (r_call (xs:=[.tmp 4]) (intSize_c _) (.cons (vq 1 rfl) .nil)) (oc (ob_a rfl rfl (a_fld (lz0 0 rfl) fld_26_1)) (zv rfl rfl (r_loadf 3 rfl zk trivial (lz0 0 rfl) (Sub.part 1 rfl rfl) ty_24) (zv rfl rfl (r_call (xs:=[.tmp 7]) (intSize_c _) (.cons (vq 4 rfl) .nil)) (zv rfl rfl (r_add (vq 2 rfl) (vq 5 rfl) (rfl)) (zv rfl rfl (r_assign (vq 6 rfl)) o0)))))))) zk zk zk zk (fun a w hst=>?_)
 have hst:St B w0 10 [(2,_)] [⟨1,26,ptrH,_⟩] a w:=hst
 refine thn_normal ?_
 refine wp_ret ?_
 refine ret_wk ?_ (ret_tmp rfl hst (zm 0 rfl))
 exact wk_id
theorem lowCost_c (x y:RI):Cn Tryz.prog 156 [(RIA x).va,(RIA y).va] (In (lowCostF x y)):=by
 refine Cn.intro Tryz.func156 rfl zk nq (fun B w0 a hst=>?_)
 have hst:St B w0 16 [(0,(RIA x).va),(1,(RIA y).va)] [] a w0.w:=hst
 refine wp_seq ?_
 refine gl (sts:=[]) (news:=[⟨2,24,ptrH,some 0,_,none⟩,⟨3,24,ptrH,some 1,_,none⟩]) (sp:=[.alc 0,.alc 1,.val 4 _]) [.o 2] hst (oc (ob_box rfl rfl rfl (gq 0 rfl)) (oc (ob_box rfl rfl rfl (gq 1 rfl)) (zv rfl rfl (r_assign has_num) o0))) (fun a w hst=>?_)
 have hst:St B w0 16 [(4,_)] [⟨2,24,ptrH,_⟩,⟨3,24,ptrH,_⟩] a w:=hst
 refine zt ?_
 refine gl (sts:=[none,none]) (news:=[]) (sp:=[.adr 5 2 (.some 1) True,.val 6 _,.val 7 _,.val 8 _,.adr 9 3 (.some 1) True,.val 10 _,.val 11 _,.val 12 _,.val 13 _,.val 14 _,.val 15 _,.val 4 _]) [.o 11] hst (oc (ob_a rfl rfl (a_fld (lz0 0 rfl) fld_24_1)) (zv rfl rfl (r_loadf 0 rfl zk trivial (lz0 0 rfl) (Sub.part 1 rfl rfl) ty_22) (zv rfl rfl (r_lenm Tryz.underlying22 (vq 1 rfl)) (zv rfl rfl (r_min (vq 2 rfl) has_num) (oc (ob_a rfl rfl (a_fld (lz0 1 rfl) fld_24_1)) (zv rfl rfl (r_loadf 4 rfl zk trivial (lz0 1 rfl) (Sub.part 1 rfl rfl) ty_22) (zv rfl rfl (r_lenm Tryz.underlying22 (vq 5 rfl)) (zv rfl rfl (r_min (vq 6 rfl) has_num) (zv rfl rfl (r_mul (vq 3 rfl) (vq 7 rfl) (rfl)) (zv rfl rfl (r_quo (vq 8 rfl) has_num zd (rfl)) (zv rfl rfl (r_mul (vq 9 rfl) has_num (rfl)) (zv rfl rfl (r_assign (vq 10 rfl)) o0)))))))))))) (fun a w hst=>?_)
 have hst:St B w0 16 [(4,_)] [⟨2,24,ptrH,_⟩,⟨3,24,ptrH,_⟩] a w:=hst
 refine thn_normal ?_
 refine wp_ret ?_
 refine ret_wk ?_ (ret_tmp rfl hst (zm 0 rfl))
 exact wk_id
theorem fracCost_c (x:RF):Cn Tryz.prog 29 [(RFA x).va] (In (fracCostF x)):=by
 refine Cn.intro Tryz.func29 rfl zk nq (fun B w0 a hst=>?_)
 have hst:St B w0 11 [(0,(RFA x).va)] [] a w0.w:=hst
 refine wp_seq ?_
 refine gl (sts:=[]) (news:=[⟨1,26,ptrH,some 0,_,none⟩]) (sp:=[.alc 0,.val 2 _]) [.o 1] hst (oc (ob_box rfl rfl rfl (gq 0 rfl)) (zv rfl rfl (r_assign has_num) o0)) (fun a w hst=>?_)
 have hst:St B w0 11 [(2,_)] [⟨1,26,ptrH,_⟩] a w:=hst
 refine zt ?_
 refine go_draw (anc:=[[],[0],[],[2],[],[4],[0,1,2,3,4,5],[0,1,2,3,4,5,6],[0,1,2,3,4,5,6,7]]) (sts:=[none]) (news:=[]) (sp:=[.val 3 _,.val 4 _,.adr 5 1 (.some 0) True,.val 6 _,.adr 7 1 (.some 2) True,.val 8 _,.val 9 _,.val 10 _,.val 2 _]) [.o 8] follows_mixed hst (zv rfl rfl (r_load (lz0 0 rfl) ty_26) (zv rfl rfl (r_call (xs:=[.tmp 3]) (fracSize_c _) (.cons (vq 0 rfl) .nil)) (oc (ob_a rfl rfl (a_fld (lz0 0 rfl) fld_26_0)) (zv rfl rfl (r_loadf 2 rfl zk trivial (lz0 0 rfl) (Sub.part 0 rfl rfl) ty_24) (oc (ob_a rfl rfl (a_fld (lz0 0 rfl) fld_26_1)) (zv rfl rfl (r_loadf 4 rfl zk trivial (lz0 0 rfl) (Sub.part 1 rfl rfl) ty_24) (zv rfl rfl (r_call (xs:=[.tmp 6,.tmp 8]) (lowCost_c _ _) (.cons (vq 3 rfl) (.cons (vq 5 rfl) .nil))) (zv rfl rfl (r_add (vq 1 rfl) (vq 6 rfl) (rfl)) (zv rfl rfl (r_assign (vq 7 rfl)) o0))))))))) zk zk zk zk (fun a w hst=>?_)
 have hst:St B w0 11 [(2,_)] [⟨1,26,ptrH,_⟩] a w:=hst
 refine thn_normal ?_
 refine wp_ret ?_
 refine ret_wk ?_ (ret_tmp rfl hst (zm 0 rfl))
 exact wk_id
theorem matCost_c (x:RM):Cn Tryz.prog 28 [(RMA x).va] (In (matCostF x)):=by
 refine Cn.intro Tryz.func28 rfl zk nq (fun B w0 a hst=>?_)
 have hst:St B w0 18 [(0,(RMA x).va)] [] a w0.w:=hst
 refine wp_seq ?_
 refine gl (sts:=[]) (news:=[⟨1,28,ptrH,some 0,_,none⟩]) (sp:=[.alc 0,.val 2 _]) [.o 1] hst (oc (ob_box rfl rfl rfl (gq 0 rfl)) (zv rfl rfl (r_assign has_num) o0)) (fun a w hst=>?_)
 have hst:St B w0 18 [(2,_)] [⟨1,28,ptrH,_⟩] a w:=hst
 refine zt ?_
 refine go_draw (anc:=[[],[0],[0,1],[],[3],[0,1,2,3,4],[0,1,2,3,4,5],[],[7],[0,1,2,3,4,5,7,8],[0,1,2,3,4,5,6,7,8,9],[],[11],[0,1,2,3,4,5,7,8,9,11,12],[0,1,2,3,4,5,6,7,8,9,10,11,12,13],[0,1,2,3,4,5,6,7,8,9,10,11,12,13,14]]) (sts:=[none]) (news:=[]) (sp:=[.adr 3 1 (.some 0) True,.val 4 _,.val 5 _,.adr 6 1 (.some 4) True,.val 7 _,.val 8 _,.val 9 _,.adr 10 1 (.some 8) True,.val 11 _,.val 12 _,.val 13 _,.adr 14 1 (.some 12) True,.val 15 _,.val 16 _,.val 17 _,.val 2 _]) [.o 15] follows_mixed hst (oc (ob_a rfl rfl (a_fld (lz0 0 rfl) fld_28_0)) (zv rfl rfl (r_loadf 0 rfl zk trivial (lz0 0 rfl) (Sub.part 0 rfl rfl) ty_26) (zv rfl rfl (r_call (xs:=[.tmp 4]) (fracCost_c _) (.cons (vq 1 rfl) .nil)) (oc (ob_a rfl rfl (a_fld (lz0 0 rfl) fld_28_1)) (zv rfl rfl (r_loadf 3 rfl zk trivial (lz0 0 rfl) (Sub.part 1 rfl rfl) ty_26) (zv rfl rfl (r_call (xs:=[.tmp 7]) (fracCost_c _) (.cons (vq 4 rfl) .nil)) (zv rfl rfl (r_add (vq 2 rfl) (vq 5 rfl) (rfl)) (oc (ob_a rfl rfl (a_fld (lz0 0 rfl) fld_28_2)) (zv rfl rfl (r_loadf 7 rfl zk trivial (lz0 0 rfl) (Sub.part 2 rfl rfl) ty_26) (zv rfl rfl (r_call (xs:=[.tmp 11]) (fracCost_c _) (.cons (vq 8 rfl) .nil)) (zv rfl rfl (r_add (vq 6 rfl) (vq 9 rfl) (rfl)) (oc (ob_a rfl rfl (a_fld (lz0 0 rfl) fld_28_3)) (zv rfl rfl (r_loadf 11 rfl zk trivial (lz0 0 rfl) (Sub.part 3 rfl rfl) ty_26) (zv rfl rfl (r_call (xs:=[.tmp 15]) (fracCost_c _) (.cons (vq 12 rfl) .nil)) (zv rfl rfl (r_add (vq 10 rfl) (vq 13 rfl) (rfl)) (zv rfl rfl (r_assign (vq 14 rfl)) o0)))))))))))))))) zk zk zk zk (fun a w hst=>?_)
 have hst:St B w0 18 [(2,_)] [⟨1,28,ptrH,_⟩] a w:=hst
 refine thn_normal ?_
 refine wp_ret ?_
 refine ret_wk ?_ (ret_tmp rfl hst (zm 0 rfl))
 exact wk_id
theorem beyond_c (l:List Int):Cn Tryz.prog 27 [(SlA 3 [] (l.map (NumA .i64))).va] (Bo (bydF 0 l)):=by
 refine Cn.intro Tryz.func27 rfl zk nq (fun B w0 a hst=>?_)
 have hst:St B w0 19 [(0,(SlA 3 [] (l.map (NumA .i64))).va)] [] a w0.w:=hst
 have hl:=slA_lenm (hst.vals (0,(SlA 3 [] (l.map (NumA .i64))).va) (zm 0 rfl))
 refine wp_seq ?_
 refine gl (sts:=[]) (news:=[]) (sp:=[.val 2 _]) [.g 0,.o 0] hst (zv rfl rfl (r_assign has_bo) o0) (fun a w hst=>?_)
 have hst:St B w0 19 [(0,_),(2,_)] [] a w:=hst
 refine zt ?_
 refine gl (sts:=[]) (news:=[]) (sp:=[.val 3 _]) [.g 0,.g 1,.o 0] hst (zv rfl rfl (r_assign has_num) o0) (fun a w hst=>?_)
 have hst:St B w0 19 [(0,_),(2,_),(3,_)] [] a w:=hst
 refine zt ?_
 refine wp_seq ?_
 refine gl (sts:=[]) (news:=[]) (sp:=[.val 4 _]) [.g 0,.g 1,.g 2,.o 0] hst (zv rfl rfl (r_assign has_num) o0) (fun a w hst=>?_)
 have hst:St B w0 19 [(0,_),(2,_),(3,_),(4,_)] [] a w:=hst
 refine thn_normal ?_
 refine wp_block ?_
 have hst:=St.sel hst [0,2,3]
 refine wp_loop_ghost (fun n a w=>∃ (j:Nat) (m:Int),(n+j=l.length∧bydF 0 l=bydF m (l.drop j))∧St B w0 19 [(0,(SlA 3 [] (l.map (NumA .i64))).va),(3,In m),(4,In (j:Nat))] [] a w) (l.length) ?_ ?_
 ·exact ⟨0,0,⟨by omega,rfl⟩,hst⟩
 intro n a w hI
 obtain ⟨j,m,⟨hn,hm⟩,hst⟩:=hI
 refine wp_seq ?_
 refine wp_seq ?_
 refine gl (sts:=[]) (news:=[]) (sp:=[.val 5 _,.val 6 _,.val 7 _,.val 8 _]) [.g 0,.g 1,.g 2,.o 3] hst (zv rfl rfl (r_move (gq 2 rfl)) (zv rfl rfl (r_move (gq 0 rfl)) (zv rfl rfl (r_len Tryz.underlying114 (vq 1 rfl)) (zv rfl rfl (r_lss (vq 0 rfl) (vq 2 rfl)) o0)))) (fun a w hst=>?_)
 have hst:St B w0 19 [(0,_),(3,_),(4,_),(8,_)] [] a w:=hst
 refine thn_normal ?_
 refine cond_of hst (zm 3 rfl) (fun hb0=>?_) (fun hb0=>?_)
 ·have hj:j<l.length:=by rw [List.length_map] at hb0; simp at hb0; omega
  refine wp_skip ?_
  refine zt ?_
  refine wp_block ?_
  refine wp_seq ?_
  refine gl (sts:=[]) (news:=[]) (sp:=[.val 11 _,.val 12 _,.val 13 _,.val 14 _,.val 15 _,.val 16 _,.val 3 _]) [.g 0,.g 2,.o 6] hst (zv rfl rfl (r_move (gq 1 rfl)) (zv rfl rfl (r_move (gq 0 rfl)) (zv rfl rfl (r_move (gq 2 rfl)) (zv rfl rfl (r_idx sl_114 (map_n fun _=>rfl) (vq 1 rfl) (vq 2 rfl) (map_at hj)) (zv rfl rfl (r_loade (vq 3 rfl) ty_3) (zv rfl rfl (r_add (vq 0 rfl) (vq 4 rfl) (rfl)) (zv rfl rfl (r_assign (vq 5 rfl)) o0))))))) (fun a w hst=>?_)
  have hst:St B w0 19 [(0,_),(4,_),(3,_)] [] a w:=hst
  refine zt ?_
  refine gl (sts:=[]) (news:=[]) (sp:=[.val 17 _,.val 18 _]) [.g 0,.g 1,.g 2,.o 1] hst (zv rfl rfl (r_move (gq 2 rfl)) (zv rfl rfl (r_gtr (vq 0 rfl) has_num) o0)) (fun a w hst=>?_)
  have hst:St B w0 19 [(0,_),(4,_),(3,_),(18,_)] [] a w:=hst
  refine thn_normal ?_
  refine cond_of hst (zm 3 rfl) (fun hb1=>?_) (fun hb1=>?_)
  ·refine wp_seq ?_
   refine gl (sts:=[]) (news:=[]) (sp:=[.val 2 _]) [.g 0,.g 1,.g 2,.o 0] hst (zv rfl rfl (r_assign has_bo) o0) (fun a w hst=>?_)
   have hst:St B w0 19 [(0,_),(4,_),(3,_),(2,_)] [] a w:=hst
   refine thn_normal ?_
   refine wp_ret ?_
   refine blk_ret ?_
   refine thn_ret ?_
   refine thn_ret ?_
   refine blk_ret ?_
   refine thn_ret ?_
   refine ret_wk ?_ (ret_tmp rfl hst (zm 3 rfl))
   exact wk_eq (congrArg Bo ((byd_yes hj hb1).trans hm.symm))
  ·refine wp_skip ?_
   refine blk_normal ?_
   refine thn_normal ?_
   refine gl (sts:=[]) (news:=[]) (sp:=[.val 9 _,.val 10 _,.val 4 _]) [.g 0,.g 2,.o 2] hst (zv rfl rfl (r_move (gq 1 rfl)) (zv rfl rfl (r_add (vq 0 rfl) has_num (wi_nx hj hl)) (zv rfl rfl (r_assign (vq 1 rfl)) o0))) (fun a w hst=>?_)
   have hst:St B w0 19 [(0,_),(3,_),(4,_)] [] a w:=hst
   refine thn_normal ?_
   have hst:=St.sel hst [0,1,2]
   exact ⟨n - 1,by omega,j+1,_,⟨by omega,hm.trans (byd_no hj hb1)⟩,hst⟩
 ·obtain rfl:j=l.length:=by rw [List.length_map] at hb0; simp at hb0; omega
  refine wp_exit ?_
  refine thn_exit ?_
  refine thn_exit ?_
  refine blk_exit ?_
  refine zt ?_
  refine gl (sts:=[]) (news:=[]) (sp:=[.val 2 _]) [.o 0] hst (zv rfl rfl (r_assign has_bo) o0) (fun a w hst=>?_)
  have hst:St B w0 19 [(2,_)] [] a w:=hst
  refine thn_normal ?_
  refine wp_ret ?_
  refine ret_wk ?_ (ret_tmp rfl hst (zm 0 rfl))
  exact wk_eq (congrArg Bo (by rw [hm,List.drop_of_length_le (Nat.le_refl _)]; rfl))
theorem same_yes {a b:RI} (hn:a.neg=b.neg) (h:a.mag=b.mag):true=decide (a=b):=by
 cases a; cases b; simp_all
theorem same_no1 {a b:RI} (h:((a.neg != b.neg) || (((a.mag.length:Nat):Int) != ((b.mag.length:Nat):Int)))=true):false=decide (a=b):=by
 symm
 apply decide_eq_false
 rintro rfl
 simp at h
theorem same_two {a b:RI} (h:((a.neg != b.neg) || (((a.mag.length:Nat):Int) != ((b.mag.length:Nat):Int)))=false):a.neg=b.neg∧a.mag.length=b.mag.length:=by
 simp only [Bool.or_eq_false_iff,bne_eq_false_iff_eq] at h
 exact ⟨h.1,by omega⟩
theorem same_no2 {a b:RI} {j:Nat} (h1:j<a.mag.length) (h2:j<b.mag.length) (h:(((a.mag[j]:Nat):Int) != ((b.mag[j]:Nat):Int))=true):false=decide (a=b):=by
 symm
 apply decide_eq_false
 rintro rfl
 simp at h
theorem take_eq {l m:List Nat} {j:Nat} (h1:j<l.length) (h2:j<m.length) (h:l.take j=m.take j) (h3:(((l[j]:Nat):Int) != ((m[j]:Nat):Int))=false):l.take (j+1)=m.take (j+1):=by
 rw [List.take_succ_eq_append_getElem h1,List.take_succ_eq_append_getElem h2,h]
 simp only [bne_eq_false_iff_eq] at h3
 rw [show l[j]=m[j] by omega]
theorem rf_eq {a b:RF}:(decide (a.num=b.num) && decide (a.den=b.den))=decide (a=b):=by
 cases a; cases b; rw [Bool.eq_iff_iff]; simp
theorem rm_eq {a b:RM}:(((decide (a.a=b.a) && decide (a.b=b.b)) && decide (a.c=b.c)) && decide (a.d=b.d))=decide (a=b):=by
 cases a; cases b; rw [Bool.eq_iff_iff]; simp [and_assoc]
theorem sameInt_c (x y:RI):Cn Tryz.prog 105 [(RIA x).va,(RIA y).va] (Bo (decide (x=y))):=by
 refine Cn.intro Tryz.func105 rfl zk nq (fun B w0 a hst=>?_)
 have hst:St B w0 38 [(0,(RIA x).va),(1,(RIA y).va)] [] a w0.w:=hst
 have hxk:=ri_know (hst.vals (0,(RIA x).va) (zm 0 rfl))
 refine wp_seq ?_
 refine gl (sts:=[]) (news:=[⟨2,24,ptrH,some 0,_,none⟩,⟨3,24,ptrH,some 1,_,none⟩]) (sp:=[.alc 0,.alc 1,.val 4 _]) [.o 2] hst (oc (ob_box rfl rfl rfl (gq 0 rfl)) (oc (ob_box rfl rfl rfl (gq 1 rfl)) (zv rfl rfl (r_assign has_bo) o0))) (fun a w hst=>?_)
 have hst:St B w0 38 [(4,_)] [⟨2,24,ptrH,_⟩,⟨3,24,ptrH,_⟩] a w:=hst
 refine zt ?_
 refine wp_seq ?_
 refine gl (sts:=[none,none]) (news:=[]) (sp:=[.adr 6 2 (.some 0) True,.val 7 _,.adr 8 3 (.some 0) True,.val 9 _,.val 10 _,.val 11 _,.adr 12 2 (.some 1) (_=false),.val 13 (Wh (_=false) _),.val 14 (Wh (_=false) _),.adr 15 3 (.some 1) (_=false),.val 16 (Wh (_=false) _),.val 17 (Wh (_=false) _),.val 18 (Wh (_=false) _),.val 19 _]) [.g 0,.o 13] hst (oc (ob_a rfl rfl (a_fld (lz0 0 rfl) fld_24_0)) (zv rfl rfl (r_loadf 0 rfl zk trivial (lz0 0 rfl) (Sub.part 0 rfl rfl) ty_4) (oc (ob_a rfl rfl (a_fld (lz0 1 rfl) fld_24_0)) (zv rfl rfl (r_loadf 2 rfl zk trivial (lz0 1 rfl) (Sub.part 0 rfl rfl) ty_4) (zv rfl rfl (r_neqb zk (vq 1 rfl) (vq 3 rfl)) (zv rfl rfl (r_move (vq 4 rfl)) (oc (ob_ag rfl rfl rfl (vq 5 rfl) nq (fun hg=>a_fld (lz0 0 rfl) fld_24_1)) (oc (ob_gd rfl rfl rfl (vq 5 rfl) nq (fun hg=>r_loadf 6 rfl zk hg (lz0 0 rfl) (Sub.part 1 rfl rfl) ty_22)) (oc (ob_gd rfl rfl rfl (vq 5 rfl) nq (fun hg=>r_lenm Tryz.underlying22 (has_wh (vq 7 rfl) hg))) (oc (ob_ag rfl rfl rfl (vq 5 rfl) nq (fun hg=>a_fld (lz0 1 rfl) fld_24_1)) (oc (ob_gd rfl rfl rfl (vq 5 rfl) nq (fun hg=>r_loadf 9 rfl zk hg (lz0 1 rfl) (Sub.part 1 rfl rfl) ty_22)) (oc (ob_gd rfl rfl rfl (vq 5 rfl) nq (fun hg=>r_lenm Tryz.underlying22 (has_wh (vq 10 rfl) hg))) (oc (ob_gd rfl rfl rfl (vq 5 rfl) nq (fun hg=>r_neq (has_wh (vq 8 rfl) hg) (has_wh (vq 11 rfl) hg))) (zv rfl rfl (r_or (vq 5 rfl) (vq 12 rfl)) o0)))))))))))))) (fun a w hst=>?_)
 have hst:St B w0 38 [(4,_),(19,_)] [⟨2,24,ptrH,_⟩,⟨3,24,ptrH,_⟩] a w:=hst
 refine thn_normal ?_
 refine cond_of hst (zm 1 rfl) (fun hb0=>?_) (fun hb0=>?_)
 ·refine wp_seq ?_
  refine gl (sts:=[none,none]) (news:=[]) (sp:=[.val 4 _]) [.o 0] hst (zv rfl rfl (r_assign has_bo) o0) (fun a w hst=>?_)
  have hst:St B w0 38 [(4,_)] [⟨2,24,ptrH,_⟩,⟨3,24,ptrH,_⟩] a w:=hst
  refine thn_normal ?_
  refine wp_ret ?_
  refine thn_ret ?_
  refine ret_wk ?_ (ret_tmp rfl hst (zm 0 rfl))
  exact wk_eq (congrArg Bo (same_no1 hb0))
 ·obtain ⟨hn1,hl⟩:=same_two hb0
  refine wp_skip ?_
  refine zt ?_
  refine wp_seq ?_
  refine gl (sts:=[none,none]) (news:=[]) (sp:=[.val 5 _]) [.g 0,.o 0] hst (zv rfl rfl (r_assign has_num) o0) (fun a w hst=>?_)
  have hst:St B w0 38 [(4,_),(5,_)] [⟨2,24,ptrH,_⟩,⟨3,24,ptrH,_⟩] a w:=hst
  refine thn_normal ?_
  refine wp_block ?_
  have hst:=St.sel hst [1]
  refine wp_loop_ghost (fun n a w=>∃ j:Nat,(n+j=x.mag.length∧x.mag.take j=y.mag.take j)∧St B w0 38 [(5,In (j:Nat))] [⟨2,24,ptrH,RIA x⟩,⟨3,24,ptrH,RIA y⟩] a w) (x.mag.length) ?_ ?_
  ·exact ⟨0,⟨by omega,rfl⟩,hst⟩
  intro n a w hI
  obtain ⟨j,⟨hn,ht⟩,hst⟩:=hI
  refine wp_seq ?_
  refine wp_seq ?_
  refine gl (sts:=[none,none]) (news:=[]) (sp:=[.val 20 _,.adr 21 2 (.some 1) True,.val 22 _,.val 23 _,.val 24 _]) [.g 0,.o 4] hst (zv rfl rfl (r_move (gq 0 rfl)) (oc (ob_a rfl rfl (a_fld (lz0 0 rfl) fld_24_1)) (zv rfl rfl (r_loadf 1 rfl zk trivial (lz0 0 rfl) (Sub.part 1 rfl rfl) ty_22) (zv rfl rfl (r_lenm Tryz.underlying22 (vq 2 rfl)) (zv rfl rfl (r_lss (vq 0 rfl) (vq 3 rfl)) o0))))) (fun a w hst=>?_)
  have hst:St B w0 38 [(5,_),(24,_)] [⟨2,24,ptrH,_⟩,⟨3,24,ptrH,_⟩] a w:=hst
  refine thn_normal ?_
  refine cond_of hst (zm 1 rfl) (fun hb1=>?_) (fun hb1=>?_)
  ·have hj:j<x.mag.length:=by simp at hb1; omega
   refine wp_skip ?_
   refine zt ?_
   refine wp_block ?_
   refine wp_seq ?_
   refine go_draw (anc:=[[],[0],[],[0,1,2],[0,1,2,3],[],[5],[],[5,6,7],[5,6,7,8],[0,1,2,3,4,5,6,7,8,9]]) (sts:=[none,none]) (news:=[]) (sp:=[.adr 27 2 (.some 1) True,.val 28 _,.val 29 _,.val 30 _,.val 31 _,.adr 32 3 (.some 1) True,.val 33 _,.val 34 _,.val 35 _,.val 36 _,.val 37 _]) [.g 0,.o 10] follows_mixed hst (oc (ob_a rfl rfl (a_fld (lz0 0 rfl) fld_24_1)) (zv rfl rfl (r_loadf 0 rfl zk trivial (lz0 0 rfl) (Sub.part 1 rfl rfl) ty_22) (zv rfl rfl (r_move (gq 0 rfl)) (zv rfl rfl (r_idxm sl_22 (vq 1 rfl) (vq 2 rfl) zo) (zv rfl rfl (r_loade (vq 3 rfl) ty_168) (oc (ob_a rfl rfl (a_fld (lz0 1 rfl) fld_24_1)) (zv rfl rfl (r_loadf 5 rfl zk trivial (lz0 1 rfl) (Sub.part 1 rfl rfl) ty_22) (zv rfl rfl (r_move (gq 0 rfl)) (zv rfl rfl (r_idxm sl_22 (vq 6 rfl) (vq 7 rfl) zo) (zv rfl rfl (r_loade (vq 8 rfl) ty_168) (zv rfl rfl (r_neq (vq 4 rfl) (vq 9 rfl)) o0))))))))))) zk zk zk zk (fun a w hst=>?_)
   have hst:St B w0 38 [(5,_),(37,_)] [⟨2,24,ptrH,_⟩,⟨3,24,ptrH,_⟩] a w:=hst
   refine thn_normal ?_
   refine cond_of hst (zm 1 rfl) (fun hb2=>?_) (fun hb2=>?_)
   ·refine wp_seq ?_
    refine gl (sts:=[none,none]) (news:=[]) (sp:=[.val 4 _]) [.g 0,.o 0] hst (zv rfl rfl (r_assign has_bo) o0) (fun a w hst=>?_)
    have hst:St B w0 38 [(5,_),(4,_)] [⟨2,24,ptrH,_⟩,⟨3,24,ptrH,_⟩] a w:=hst
    refine thn_normal ?_
    refine wp_ret ?_
    refine blk_ret ?_
    refine thn_ret ?_
    refine thn_ret ?_
    refine blk_ret ?_
    refine thn_ret ?_
    refine ret_wk ?_ (ret_tmp rfl hst (zm 1 rfl))
    exact wk_eq (congrArg Bo (same_no2 hj zo hb2))
   ·refine wp_skip ?_
    refine blk_normal ?_
    refine thn_normal ?_
    refine gl (sts:=[none,none]) (news:=[]) (sp:=[.val 25 _,.val 26 _,.val 5 _]) [.o 2] hst (zv rfl rfl (r_move (gq 0 rfl)) (zv rfl rfl (r_add (vq 0 rfl) has_num (wi_nx hj hxk.2)) (zv rfl rfl (r_assign (vq 1 rfl)) o0))) (fun a w hst=>?_)
    have hst:St B w0 38 [(5,_)] [⟨2,24,ptrH,_⟩,⟨3,24,ptrH,_⟩] a w:=hst
    refine thn_normal ?_
    have hst:=St.sel hst [0]
    exact ⟨n - 1,by omega,j+1,⟨by omega,take_eq hj zo ht hb2⟩,hst⟩
  ·obtain rfl:j=x.mag.length:=by simp at hb1; omega
   refine wp_exit ?_
   refine thn_exit ?_
   refine thn_exit ?_
   refine blk_exit ?_
   refine zt ?_
   refine gl (sts:=[none,none]) (news:=[]) (sp:=[.val 4 _]) [.o 0] hst (zv rfl rfl (r_assign has_bo) o0) (fun a w hst=>?_)
   have hst:St B w0 38 [(4,_)] [⟨2,24,ptrH,_⟩,⟨3,24,ptrH,_⟩] a w:=hst
   refine thn_normal ?_
   refine wp_ret ?_
   refine ret_wk ?_ (ret_tmp rfl hst (zm 0 rfl))
   exact wk_eq (congrArg Bo (same_yes hn1 (by rw [List.take_of_length_le (Nat.le_refl _),List.take_of_length_le zo] at ht; exact ht)))
theorem sameFrac_c (x y:RF):Cn Tryz.prog 20 [(RFA x).va,(RFA y).va] (Bo (decide (x=y))):=by
 refine Cn.intro Tryz.func20 rfl zk nq (fun B w0 a hst=>?_)
 have hst:St B w0 17 [(0,(RFA x).va),(1,(RFA y).va)] [] a w0.w:=hst
 refine wp_seq ?_
 refine gl (sts:=[]) (news:=[⟨2,26,ptrH,some 0,_,none⟩,⟨3,26,ptrH,some 1,_,none⟩]) (sp:=[.alc 0,.alc 1,.val 4 _]) [.o 2] hst (oc (ob_box rfl rfl rfl (gq 0 rfl)) (oc (ob_box rfl rfl rfl (gq 1 rfl)) (zv rfl rfl (r_assign has_bo) o0))) (fun a w hst=>?_)
 have hst:St B w0 17 [(4,_)] [⟨2,26,ptrH,_⟩,⟨3,26,ptrH,_⟩] a w:=hst
 refine zt ?_
 refine gl (sts:=[none,none]) (news:=[]) (sp:=[.adr 5 2 (.some 0) True,.val 6 _,.adr 7 3 (.some 0) True,.val 8 _,.val 9 _,.val 10 _,.adr 11 2 (.some 2) (_=true),.val 12 (Wh (_=true) _),.adr 13 3 (.some 2) (_=true),.val 14 (Wh (_=true) _),.val 15 (Wh (_=true) _),.val 16 _,.val 4 _]) [.o 12] hst (oc (ob_a rfl rfl (a_fld (lz0 0 rfl) fld_26_0)) (zv rfl rfl (r_loadf 0 rfl zk trivial (lz0 0 rfl) (Sub.part 0 rfl rfl) ty_24) (oc (ob_a rfl rfl (a_fld (lz0 1 rfl) fld_26_0)) (zv rfl rfl (r_loadf 2 rfl zk trivial (lz0 1 rfl) (Sub.part 0 rfl rfl) ty_24) (zv rfl rfl (r_call (xs:=[.tmp 6,.tmp 8]) (sameInt_c _ _) (.cons (vq 1 rfl) (.cons (vq 3 rfl) .nil))) (zv rfl rfl (r_move (vq 4 rfl)) (oc (ob_ag rfl rfl rfl (vq 5 rfl) nq (fun hg=>a_fld (lz0 0 rfl) fld_26_1)) (oc (ob_gd rfl rfl rfl (vq 5 rfl) nq (fun hg=>r_loadf 6 rfl zk hg (lz0 0 rfl) (Sub.part 1 rfl rfl) ty_24)) (oc (ob_ag rfl rfl rfl (vq 5 rfl) nq (fun hg=>a_fld (lz0 1 rfl) fld_26_1)) (oc (ob_gd rfl rfl rfl (vq 5 rfl) nq (fun hg=>r_loadf 8 rfl zk hg (lz0 1 rfl) (Sub.part 1 rfl rfl) ty_24)) (oc (ob_gd rfl rfl rfl (vq 5 rfl) nq (fun hg=>r_call (xs:=[.tmp 12,.tmp 14]) (sameInt_c _ _) (.cons (has_wh (vq 7 rfl) hg) (.cons (has_wh (vq 9 rfl) hg) .nil)))) (zv rfl rfl (r_and (vq 5 rfl) (vq 10 rfl)) (zv rfl rfl (r_assign (vq 11 rfl)) o0))))))))))))) (fun a w hst=>?_)
 have hst:St B w0 17 [(4,_)] [⟨2,26,ptrH,_⟩,⟨3,26,ptrH,_⟩] a w:=hst
 refine thn_normal ?_
 refine wp_ret ?_
 refine ret_wk ?_ (ret_tmp rfl hst (zm 0 rfl))
 exact wk_eq (congrArg Bo rf_eq)
end Go.Proofs.YthncfchnkjemiaaGreatDoor
