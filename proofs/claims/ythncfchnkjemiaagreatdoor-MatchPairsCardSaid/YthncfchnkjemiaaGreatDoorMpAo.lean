import Derived.Test.YthncfchnkjemiaaGreatDoorMpAa
import Derived.Test.YthncfchnkjemiaaGreatDoorMpAc
import Derived.Test.YthncfchnkjemiaaGreatDoorMpAn
set_option linter.unusedVariables false
set_option linter.unusedSimpArgs false
set_option linter.unusedSectionVars false
set_option maxRecDepth 100000
namespace Go.Proofs.YthncfchnkjemiaaGreatDoor
open Go Go.RowKit
theorem ex_checkI : ∃ fn, Tryz.prog.funcs[288]? = some fn ∧ (fn.name == "runtime.NumGoroutine") = false ∧ fn.body.isNone = false := ⟨_, Tryz.func288, by kernel_rfl, by kernel_rfl⟩
theorem check_z {c:Nat} {p:Int} (hc:c≤2048):Cn Tryz.prog 288 [Zs c p] (In 0):=zs1 ex_checkI fun h=>(check_c (riOf p)).post (by rw [okRI_ri,decide_eq_true (by omega:lz p≤2048)]; rfl)
theorem lz_i64 {p:Int} (h0 : -9223372036854775808≤p) (h1:p<9223372036854775808):lz p≤2:=lz_le zo
theorem ansF_ok {q:Rat} (h:lz q.num≤2048∧lz (q.den:Int)≤2048):ansF q=(rfOf q,0):=by rw [ansF,longQ_false.2 h]; rfl
theorem ansF_low {p q:Int} (hq:q≠0) (hp:lz p≤2) (h2:lz q≤2):ansF (Rat.divInt p q)=(rfOf (Rat.divInt p q),0):=by
 have:=lz_low2 (p:=p) hq
 exact ansF_ok zo
theorem make_q {p q:Int} (hq:q≠0):Cn Tryz.prog 307 [Zs 2 p,Zs 2 q] (FrR (ansF (Rat.divInt p q))):=by
 refine Cn.intro Tryz.func307 rfl zk nq (fun B w0 a hst=>?_)
 have hst:St B w0 25 [(0,Zs 2 p),(1,Zs 2 q)] [] a w0.w:=hst
 refine wp_seq ?_
 refine gl (sts:=[]) (news:=[⟨2,24,ptrH,some 0,_,none⟩,⟨3,24,ptrH,some 1,_,none⟩,⟨4,26,ptrH,some 2,_,none⟩]) (sp:=[.alc 0,.alc 1,.alc 2,.val 5 _]) [.o 3] hst (oc (ob_box rfl rfl rfl (gq 0 rfl)) (oc (ob_box rfl rfl rfl (gq 1 rfl)) (oc (ob_alc rfl rfl rfl (Str.zero str_frac)) (zv rfl rfl (r_assign has_num) o0)))) (fun a w hst=>?_)
 have hst:St B w0 25 [(5,_)] [⟨2,24,ptrH,_⟩,⟨3,24,ptrH,_⟩,⟨4,26,ptrH,_⟩] a w:=hst
 refine zt ?_
 refine wp_seq ?_
 refine gl (sts:=[none,none,none]) (news:=[]) (sp:=[.val 6 _,.val 7 _,.val 8 _,.val 9 _,.val 10 (Wh (_=false) _),.val 11 (Wh (_=false) _),.val 12 (Wh (_=false) _),.val 13 _]) [.g 0,.o 7] hst (zv rfl rfl (r_load (lz0 0 rfl) ty_24) (zv rfl rfl (r_call (xs:=[.tmp 6]) (check_z zd) (.cons (vq 0 rfl) .nil)) (zv rfl rfl (r_neq (vq 1 rfl) has_num) (zv rfl rfl (r_move (vq 2 rfl)) (oc (ob_gd rfl rfl rfl (vq 3 rfl) nq (fun hg=>r_load (lz0 1 rfl) ty_24)) (oc (ob_gd rfl rfl rfl (vq 3 rfl) nq (fun hg=>r_call (xs:=[.tmp 10]) (check_z zd) (.cons (has_wh (vq 4 rfl) hg) .nil))) (oc (ob_gd rfl rfl rfl (vq 3 rfl) nq (fun hg=>r_neq (has_wh (vq 5 rfl) hg) has_num)) (zv rfl rfl (r_or (vq 3 rfl) (vq 6 rfl)) o0)))))))) (fun a w hst=>?_)
 have hst:St B w0 25 [(5,_),(13,_)] [⟨2,24,ptrH,_⟩,⟨3,24,ptrH,_⟩,⟨4,26,ptrH,_⟩] a w:=hst
 refine thn_normal ?_
 refine cond_of hst (zm 1 rfl) (fun hb0=>?_) (fun hb0=>?_)
 ·exact absurd hb0 zd
 ·refine wp_skip ?_
  refine zt ?_
  refine wp_seq ?_
  refine gl (sts:=[none,none,none]) (news:=[]) (sp:=[.val 15 _,.val 16 _,.val 17 _]) [.g 0,.o 2] hst (zv rfl rfl (r_load (lz0 1 rfl) ty_24) (zv rfl rfl (r_call (xs:=[.tmp 15]) sign_z (.cons (vq 0 rfl) .nil)) (zv rfl rfl (r_eql (vq 1 rfl) has_num) o0))) (fun a w hst=>?_)
  have hst:St B w0 25 [(5,_),(17,_)] [⟨2,24,ptrH,_⟩,⟨3,24,ptrH,_⟩,⟨4,26,ptrH,_⟩] a w:=hst
  refine thn_normal ?_
  refine cond_of hst (zm 1 rfl) (fun hb1=>?_) (fun hb1=>?_)
  ·exact absurd hb1 (by simpa using hq)
  ·refine wp_skip ?_
   refine zt ?_
   refine gl (sts:=[none,none,some (6,_)]) (news:=[]) (sp:=[.val 19 _,.val 20 _,.val 21 _,.val 22 _,.val 23 _,.val 24 _,.sto 2,.val 5 _]) [.o 7] hst (zv rfl rfl (r_load (lz0 0 rfl) ty_24) (zv rfl rfl (r_load (lz0 1 rfl) ty_24) (zv rfl rfl (r_call (xs:=[.tmp 19,.tmp 20]) (lowest_q zd zd hq) (.cons (vq 0 rfl) (.cons (vq 1 rfl) .nil))) (zv rfl rfl (r_call (xs:=[.tmp 21]) (answered_q zd) (.cons (vq 2 rfl) .nil)) (zv rfl rfl (r_ex0 (vq 3 rfl)) (zv rfl rfl (r_ex1 (vq 3 rfl)) (oc (ob_sto rfl rfl rfl (vq 4 rfl) ty_26 (Eq.trans (b:=4) rfl rfl)) (zv rfl rfl (r_assign (vq 5 rfl)) o0)))))))) (fun a w hst=>?_)
   have hst:St B w0 25 [(5,_)] [⟨2,24,ptrH,_⟩,⟨3,24,ptrH,_⟩,⟨4,26,ptrH,_⟩] a w:=hst
   refine thn_normal ?_
   refine wp_ret ?_
   refine ret_wk ?_ (ret_many (rs:=[.cell 4 26,.tmp 5]) rfl hst (.cell (zm 2 rfl) ty_26 (.tmp (zm 0 rfl) .nil)) zd)
   exact wk_id
theorem ofQ_c {p q:Int} (hp : -9223372036854775808≤p) (hp1:p<9223372036854775808) (hq0 : -9223372036854775808≤q) (hq1:q<9223372036854775808) (hq:q≠0):Cn Tryz.prog 201 [In p,In q] (FrR (rfOf (Rat.divInt p q),0)):=by
 refine Cn.intro Tryz.func201 rfl zk nq (fun B w0 a hst=>?_)
 have hst:St B w0 13 [(0,In p),(1,In q)] [] a w0.w:=hst
 refine wp_seq ?_
 refine gl (sts:=[]) (news:=[⟨4,26,ptrH,some 0,_,none⟩]) (sp:=[.alc 0,.val 5 _]) [.g 0,.g 1,.o 1] hst (oc (ob_alc rfl rfl rfl (Str.zero str_frac)) (zv rfl rfl (r_assign has_num) o0)) (fun a w hst=>?_)
 have hst:St B w0 13 [(0,_),(1,_),(5,_)] [⟨4,26,ptrH,_⟩] a w:=hst
 refine zt ?_
 refine gl (sts:=[some (7,_)]) (news:=[]) (sp:=[.val 6 _,.val 7 _,.val 8 _,.val 9 _,.val 10 _,.val 11 _,.val 12 _,.sto 0,.val 5 _]) [.o 8] hst (zv rfl rfl (r_move (gq 0 rfl)) (zv rfl rfl (r_call (xs:=[.tmp 6]) (of_z hp hp1) (.cons (vq 0 rfl) .nil)) (zv rfl rfl (r_move (gq 1 rfl)) (zv rfl rfl (r_call (xs:=[.tmp 8]) (of_z hq0 hq1) (.cons (vq 2 rfl) .nil)) (zv rfl rfl (r_call (xs:=[.tmp 7,.tmp 9]) (make_q hq) (.cons (vq 1 rfl) (.cons (vq 3 rfl) .nil))) (zv rfl rfl (r_ex0 (vq 4 rfl)) (zv rfl rfl (r_ex1 (vq 4 rfl)) (oc (ob_sto rfl rfl rfl (vq 5 rfl) ty_26 (Eq.trans (b:=4) rfl rfl)) (zv rfl rfl (r_assign (vq 6 rfl)) o0))))))))) (fun a w hst=>?_)
 have hst:St B w0 13 [(5,_)] [⟨4,26,ptrH,_⟩] a w:=hst
 refine thn_normal ?_
 refine wp_ret ?_
 refine ret_wk ?_ (ret_many (rs:=[.cell 4 26,.tmp 5]) rfl hst (.cell (zm 0 rfl) ty_26 (.tmp (zm 0 rfl) .nil)) zd)
 rw [← ansF_low hq (lz_i64 hp hp1) (lz_i64 hq0 hq1)]; exact wk_id
end Go.Proofs.YthncfchnkjemiaaGreatDoor
namespace Go.Proofs.YthncfchnkjemiaaGreatDoor
open Go Go.RowKit
structure RG where
 re:RF
 im:RF
 deriving DecidableEq
structure RM where
 a:RF
 b:RF
 c:RF
 d:RF
 deriving DecidableEq
structure RR where
 y:RF
 u:RF
 deriving DecidableEq
structure GQ where
 re:Rat
 im:Rat
 deriving DecidableEq
structure MQ where
 a:Rat
 b:Rat
 c:Rat
 d:Rat
 deriving DecidableEq
structure YQ where
 y:Rat
 u:Rat
 deriving DecidableEq
def RGA (x:RG):As:=cat [RFA x.re,RFA x.im]
def QGA (k:Nat) (x:GQ):As:=cat [QA k x.re,QA k x.im]
def rgOf (z:GQ):RG:=⟨rfOf z.re,rfOf z.im⟩
def toG (x:RG):GQ:=⟨toQ x.re,toQ x.im⟩
theorem qa_x {k:Nat} {x:RF} (h:okX x=true) (hk:2048≤k):WkA (RFA x) (QA k (toQ x)):=by
 obtain ⟨h1,h2,h3⟩:=okX_q h
 exact (wkA_eq (congrArg RFA h1)).trans (qa_of (Nat.le_trans h2 hk) (Nat.le_trans h3 hk))
theorem qg_x {x:RG} (h:[x.re,x.im].all okX=true):WkA (RGA x) (QGA 2048 (toG x)):=by
 simp only [List.all_cons,List.all_nil,Bool.and_true,Bool.and_eq_true] at h
 exact cat_wk (.cons (qa_x h.1 (Nat.le_refl _)) (.cons (qa_x h.2 (Nat.le_refl _)) .nil))
theorem cm_ne {x y:Rat}:(cmQ x y != 0) = !decide (x=y):=by
 unfold cmQ
 by_cases h:x<y
 ·rw [if_pos h]; simp [Rat.ne_of_lt h]
 ·rw [if_neg h]
  by_cases h2:y<x
  ·rw [if_pos h2]; simp [Rat.ne_of_gt h2]
  ·rw [if_neg h2]
   have:x=y:=Rat.le_antisymm (Rat.not_lt.1 h2) (Rat.not_lt.1 h)
   simp [this]
theorem str_gauss:Str Tryz.prog 73 [RFA rf0,RFA rf0] :=
 Str.of (z:=.agg #[.bool false,.slice none 0 0,.bool false,.slice none 0 0,.bool false,.slice none 0 0,.bool false,.slice none 0 0]) zk Tryz.underlying73 zk fun B w=>⟨[[.bool false,.slice none 0 0,.bool false,.slice none 0 0],[.bool false,.slice none 0 0,.bool false,.slice none 0 0]],rfl,(.cons (rf0_p B w) (.cons (rf0_p B w) .nil))⟩
theorem argMay_c (x:RG):Cn Tryz.prog 227 [(RGA x).va] (Bo ([x.re,x.im].all okX)):=by
 refine Cn.intro Tryz.func227 rfl zk nq (fun B w0 a hst=>?_)
 have hst:St B w0 9 [(0,(RGA x).va)] [] a w0.w:=hst
 refine wp_seq ?_
 refine gl (sts:=[]) (news:=[⟨1,73,ptrH,some 0,_,none⟩]) (sp:=[.alc 0,.val 2 _]) [.o 1] hst (oc (ob_box rfl rfl rfl (gq 0 rfl)) (zv rfl rfl (r_assign has_bo) o0)) (fun a w hst=>?_)
 have hst:St B w0 9 [(2,_)] [⟨1,73,ptrH,_⟩] a w:=hst
 refine zt ?_
 refine gl (sts:=[none]) (news:=[]) (sp:=[.adr 3 1 (.some 0) True,.val 4 _,.adr 5 1 (.some 4) True,.val 6 _,.val 7 _,.val 8 _,.val 2 _]) [.o 6] hst (oc (ob_a rfl rfl (a_fld (lz0 0 rfl) fld_73_0)) (zv rfl rfl (r_loadf 0 rfl zk trivial (lz0 0 rfl) (Sub.part 0 rfl rfl) ty_26) (oc (ob_a rfl rfl (a_fld (lz0 0 rfl) fld_73_1)) (zv rfl rfl (r_loadf 2 rfl zk trivial (lz0 0 rfl) (Sub.part 1 rfl rfl) ty_26) (zv rfl rfl (r_slice (D:=[U32]) (l:=[_,_]) (xs:=[.tmp 4,.tmp 6]) (nd_ok zk) sl_142 zk (n_ok zk) nq nq nq (.cons (vq 1 rfl) (.cons (vq 3 rfl) .nil)) rfl rfl) (zv rfl rfl (r_call (xs:=[.tmp 7]) (checks_c [x.re,x.im] nq) (.cons (vq 4 rfl) .nil)) (zv rfl rfl (r_assign (vq 5 rfl)) o0))))))) (fun a w hst=>?_)
 have hst:St B w0 9 [(2,_)] [⟨1,73,ptrH,_⟩] a w:=hst
 refine thn_normal ?_
 refine wp_ret ?_
 refine ret_wk ?_ (ret_tmp rfl hst (zm 0 rfl))
 exact wk_id
end Go.Proofs.YthncfchnkjemiaaGreatDoor
namespace Go.Proofs.YthncfchnkjemiaaGreatDoor
open Go Go.RowKit
def bmC (x:RG):Int:=if [x.re,x.im].all okX then (if (toQ x.im).num.sign≤0 then 8 else 0) else 1
def okB (x:RG):Bool := !(bmC x != 0)
theorem okB_q {x:RG} (h:okB x=true):[x.re,x.im].all okX=true∧0<(toG x).im:=by
 unfold okB bmC at h
 cases h1:[x.re,x.im].all okX with
 | false=>rw [h1] at h; simp at h
 | true =>
  rw [h1,if_pos rfl] at h
  refine ⟨rfl,?_⟩
  by_cases h2:(toQ x.im).num.sign≤0
  ·rw [if_pos h2] at h; exact absurd h zd
  ·have h3:0<(toQ x.im).num:=Int.sign_pos_iff.1 zo
   show 0<toQ x.im
   rw [Rat.lt_iff_le_and_ne]
   refine ⟨Rat.num_nonneg.1 zo,fun e=>?_⟩
   rw [← e] at h3
   exact absurd h3 zd
theorem sq_nn (x:Rat):0≤x*x:=by
 rcases Rat.le_total (a:=0) (b:=x) with h | h
 ·exact Rat.mul_nonneg h h
 ·have:0≤(-x)*(-x):=Rat.mul_nonneg (by grind) (by grind)
  grind
theorem sum_sq {x y:Rat} (h:x*x+y*y=0):x=0∧y=0:=by
 have h1:=sq_nn x
 have h2:=sq_nn y
 have h3:x*x=0:=Rat.le_antisymm (by grind) h1
 have h4:y*y=0:=by grind
 exact ⟨(Rat.mul_eq_zero.1 h3).elim id id,(Rat.mul_eq_zero.1 h4).elim id id⟩
theorem ne_of_pos {x:Rat} (h:0<x):x≠0:=Rat.ne_of_gt h
theorem bmCheck_c (x:RG):Cn Tryz.prog 299 [(RGA x).va] (In (bmC x)):=by
 refine Cn.intro Tryz.func299 rfl zk nq (fun B w0 a hst=>?_)
 have hst:St B w0 12 [(0,(RGA x).va)] [] a w0.w:=hst
 refine wp_seq ?_
 refine gl (sts:=[]) (news:=[⟨1,73,ptrH,some 0,_,none⟩]) (sp:=[.alc 0,.val 2 _]) [.o 1] hst (oc (ob_box rfl rfl rfl (gq 0 rfl)) (zv rfl rfl (r_assign has_num) o0)) (fun a w hst=>?_)
 have hst:St B w0 12 [(2,_)] [⟨1,73,ptrH,_⟩] a w:=hst
 refine zt ?_
 refine wp_block ?_
 refine wp_seq ?_
 refine gl (sts:=[none]) (news:=[]) (sp:=[.val 4 _,.val 5 _,.val 6 _,.val 3 _]) [.g 0,.o 3] hst (zv rfl rfl (r_load (lz0 0 rfl) ty_73) (zv rfl rfl (r_call (xs:=[.tmp 4]) (argMay_c _) (.cons (vq 0 rfl) .nil)) (zv rfl rfl (r_not (vq 1 rfl)) (zv rfl rfl (r_assign (vq 2 rfl)) o0)))) (fun a w hst=>?_)
 have hst:St B w0 12 [(2,_),(3,_)] [⟨1,73,ptrH,_⟩] a w:=hst
 refine thn_normal ?_
 refine cond_of hst (zm 1 rfl) (fun hb0=>?_) (fun hb0=>?_)
 ·rw [Bool.not_eq_true'] at hb0
  refine wp_seq ?_
  refine gl (sts:=[none]) (news:=[]) (sp:=[.val 2 _]) [.o 0] hst (zv rfl rfl (r_assign has_num) o0) (fun a w hst=>?_)
  have hst:St B w0 12 [(2,_)] [⟨1,73,ptrH,_⟩] a w:=hst
  refine thn_normal ?_
  refine wp_ret ?_
  refine blk_ret ?_
  refine thn_ret ?_
  refine ret_wk ?_ (ret_tmp rfl hst (zm 0 rfl))
  rw [bmC,if_neg (by rw [hb0]; decide)]; exact wk_id
 ·rw [Bool.not_eq_false'] at hb0
  have hst:=St.wkL hst 0 rfl (qg_x hb0)
  refine wp_seq ?_
  refine gl (sts:=[none]) (news:=[]) (sp:=[.adr 8 1 (.some 4) True,.val 9 _,.val 10 _,.val 11 _,.val 7 _]) [.g 0,.o 4] hst (oc (ob_a rfl rfl (a_fld (lz0 0 rfl) fld_73_1)) (zv rfl rfl (r_loadf 0 rfl zk trivial (lz0 0 rfl) (Sub.part 1 rfl rfl) ty_26) (zv rfl rfl (r_call (xs:=[.tmp 9]) sign_q (.cons (vq 1 rfl) .nil)) (zv rfl rfl (r_leq (vq 2 rfl) has_num) (zv rfl rfl (r_assign (vq 3 rfl)) o0))))) (fun a w hst=>?_)
  have hst:St B w0 12 [(2,_),(7,_)] [⟨1,73,ptrH,_⟩] a w:=hst
  refine thn_normal ?_
  refine cond_of hst (zm 1 rfl) (fun hb1=>?_) (fun hb1=>?_)
  ·refine wp_seq ?_
   refine gl (sts:=[none]) (news:=[]) (sp:=[.val 2 _]) [.o 0] hst (zv rfl rfl (r_assign has_num) o0) (fun a w hst=>?_)
   have hst:St B w0 12 [(2,_)] [⟨1,73,ptrH,_⟩] a w:=hst
   refine thn_normal ?_
   refine wp_ret ?_
   refine blk_ret ?_
   refine thn_ret ?_
   refine ret_wk ?_ (ret_tmp rfl hst (zm 0 rfl))
   rw [bmC,if_pos hb0,if_pos (show (toQ x.im).num.sign≤0 from of_decide_eq_true hb1)]; exact wk_id
  ·refine wp_skip ?_
   refine blk_normal ?_
   refine zt ?_
   refine gl (sts:=[none]) (news:=[]) (sp:=[.val 2 _]) [.o 0] hst (zv rfl rfl (r_assign has_num) o0) (fun a w hst=>?_)
   have hst:St B w0 12 [(2,_)] [⟨1,73,ptrH,_⟩] a w:=hst
   refine thn_normal ?_
   refine wp_ret ?_
   refine ret_wk ?_ (ret_tmp rfl hst (zm 0 rfl))
   rw [bmC,if_pos hb0,if_neg (show ¬ (toQ x.im).num.sign≤0 from of_decide_eq_false hb1)]; exact wk_id
theorem okB_of {x:RG} (h:(bmC x != 0)=false):okB x=true:=by rw [okB,h]; rfl
theorem all_some {α:Type} {p:α→Bool} {l:List α} {j:Nat} (h:j<l.length) (h2:p l[j]=false):false=l.all p:=(List.all_eq_false.2 ⟨_,List.getElem_mem h,by simp [h2]⟩).symm
theorem all_no {α:Type} {p:α→Bool} {l:List α} {j:Nat} (h:j<l.length) (h1:(l.take j).all p=true) (h2:p l[j]=true):(l.take (j+1)).all p=true:=by
 rw [List.take_succ_eq_append_getElem h,List.all_append,h1]
 simp [h2]
theorem okB_no {x:RG} (h:(bmC x != 0)=true):okB x=false:=by rw [okB,h]; rfl
theorem upA_rg (x:RG):UpA (RGA x) (RGA x):=cat_up (.cons (upA_rf _) (.cons (upA_rf _) .nil))
def sqQ (x y:Rat):Rat:=x*x+y*y
def alkQ (p q:GQ):Rat:=4*(p.im*q.im) / sqQ (p.re - q.re) (p.im+q.im)
def fdF (x:Rat):RF × Bool × Int:=if longQ x then (rf0,false,4) else (rfOf x,true,0)
abbrev R3 (r:RF × Bool × Int):VA:=Tu [(RFA r.1).va,Bo r.2.1,In r.2.2]
theorem tu3w {a b c d e f:VA} (h:Wk a d) (h':Wk b e) (h'':Wk c f):Wk (Tu [a,b,c]) (Tu [d,e,f]):=tu_wk (.cons h (.cons h' (.cons h'' .nil)))
theorem sq_ne {x y:Rat} (h:0<y):sqQ x y≠0:=fun e=>ne_of_pos h (sum_sq e).2
theorem two_B {x y:RG}:[x,y].all okB=(okB x && okB y):=by simp
theorem add_pos {x y:Rat} (h:0<x) (h':0<y):0<x+y:=by grind
def ovF (x y:RG):RF × Int:=if okB x && okB y then ansF (alkQ (toG x) (toG y)) else (rf0,1)
def lnF (x y:RG):RF × Bool × Int:=if okB x && okB y then (if (toG x).im / sqQ (toG x).re (toG x).im=(toG y).im / sqQ (toG y).re (toG y).im then fdF ((toG x).re / sqQ (toG x).re (toG x).im - (toG y).re / sqQ (toG y).re (toG y).im) else (rf0,false,0)) else (rf0,false,1)
def spF (x y:RG):RF × Bool × Int:=if okB x && okB y then (if (toG x).im=(toG y).im∧¬ ((toG y).re - (toG x).re).num.sign<0 then fdF ((toG y).re - (toG x).re) else (rf0,false,0)) else (rf0,false,1)
theorem fd_ans (x:Rat):((fdF x).1,(fdF x).2.2)=ansF x:=by unfold fdF ansF; split <;> rfl
theorem sp_yes {x y:GQ} (h:((cmQ x.im y.im != 0) || decide ((y.re - x.re).num.sign<0))=true):¬ (x.im=y.im∧¬ (y.re - x.re).num.sign<0):=by
 rw [cm_ne] at h
 rintro ⟨h1,h2⟩
 rw [decide_eq_true h1,decide_eq_false h2] at h
 exact absurd h zd
theorem sp_no {x y:GQ} (h:((cmQ x.im y.im != 0) || decide ((y.re - x.re).num.sign<0))=false):x.im=y.im∧¬ (y.re - x.re).num.sign<0:=by
 rw [cm_ne,Bool.or_eq_false_iff] at h
 exact ⟨by simpa using h.1,of_decide_eq_false h.2⟩
theorem mayG_c (xs:List RG):Cn Tryz.prog 174 [(SlA 73 [U32] (xs.map RGA)).va] (Bo (xs.all okB)):=by
 refine Cn.introW Tryz.func174 rfl zk nq (.cons (up_sl (fun A hA=>by obtain ⟨x,_,rfl⟩:=List.mem_map.1 hA; exact upA_rg x)).va .nil) (free_bo _).va (fun B w0 a hB0 hst=>?_)
 have hst:St B w0 15 [(0,(SlO 73 [U32] (xs.map RGA) True).va)] [] a w0.w:=hst
 have hl:=slO_len (hst.vals (0,(SlO 73 [U32] (xs.map RGA) True).va) (zm 0 rfl))
 rw [List.length_map] at hl
 refine wp_seq ?_
 refine gl (sts:=[]) (news:=[]) (sp:=[.val 2 _]) [.g 0,.o 0] hst (zv rfl rfl (r_assign has_bo) o0) (fun a w hst=>?_)
 have hst:St B w0 15 [(0,_),(2,_)] [] a w:=hst
 refine zt ?_
 refine wp_seq ?_
 refine gl (sts:=[]) (news:=[]) (sp:=[.val 5 _,.val 6 _,.val 7 _]) [.g 1,.o 0,.o 1,.o 2] hst (zv rfl rfl (r_move (gq 0 rfl)) (zv rfl rfl (r_len Tryz.underlying193 (has_and (has_old (vq 0 rfl)))) (zv rfl rfl (r_move has_num) o0))) (fun a w hst=>?_)
 have hst:St B w0 15 [(2,_),(5,_),(6,_),(7,_)] [] a w:=hst
 refine thn_normal ?_
 refine wp_block ?_
 have hst:=St.sel hst [1,2,3]
 refine wp_loop_ghost (fun n a w=>∃ j:Nat,(n+j=xs.length∧(xs.take j).all okB=true)∧St B w0 15 [(5,(SlO 73 [U32] (xs.map RGA) True).va),(6,In (xs.length:Nat)),(7,In (j:Nat))] [] a w) (xs.length) ?_ ?_
 ·exact ⟨0,⟨by omega,rfl⟩,by rw [List.length_map] at hst; exact hst⟩
 intro n a w hI
 obtain ⟨j,⟨hn,hno⟩,hst⟩:=hI
 refine wp_seq ?_
 refine gl (sts:=[]) (news:=[]) (sp:=[.val 8 _]) [.g 0,.g 1,.g 2,.o 0] hst (zv rfl rfl (r_lss (gq 2 rfl) (gq 1 rfl)) o0) (fun a w hst=>?_)
 have hst:St B w0 15 [(5,_),(6,_),(7,_),(8,_)] [] a w:=hst
 refine zt ?_
 refine cond_of hst (zm 3 rfl) (fun hb0=>?_) (fun hb0=>?_)
 ·have hj:j<xs.length:=by simp at hb0; omega
  refine wp_skip ?_
  refine zt ?_
  refine wp_block ?_
  refine wp_seq ?_
  refine gl (sts:=[]) (news:=[⟨4,73,ptrH,some 2,_,some (3,_)⟩]) (sp:=[.val 9 _,.val 10 _,.alc 0,.sto 0]) [.g 0,.g 1,.g 2] hst (zv rfl rfl (r_idx sl_193 (map_n fun _=>rfl) (has_and (has_old (gq 0 rfl))) (gq 2 rfl) (map_at hj)) (zv rfl rfl (r_loade (vq 0 rfl) ty_73) (oc (ob_alc rfl rfl rfl (Str.zero str_gauss)) (oc (ob_sto rfl rfl rfl (vq 1 rfl) ty_73 (Eq.trans (b:=8) rfl rfl)) o0)))) (fun a w hst=>?_)
  have hst:St B w0 15 [(5,_),(6,_),(7,_)] [⟨4,73,ptrH,_⟩] a w:=hst
  refine zt ?_
  refine gl (sts:=[none]) (news:=[]) (sp:=[.val 11 _,.val 12 _,.val 13 _]) [.g 0,.g 1,.g 2,.o 2] hst (zv rfl rfl (r_load (lz0 0 rfl) ty_73) (zv rfl rfl (r_call (xs:=[.tmp 11]) (bmCheck_c _) (.cons (vq 0 rfl) .nil)) (zv rfl rfl (r_neq (vq 1 rfl) has_num) o0))) (fun a w hst=>?_)
  have hst:St B w0 15 [(5,_),(6,_),(7,_),(13,_)] [⟨4,73,ptrH,_⟩] a w:=hst
  refine thn_normal ?_
  refine cond_of hst (zm 3 rfl) (fun hb1=>?_) (fun hb1=>?_)
  ·refine wp_seq ?_
   refine gl (sts:=[none]) (news:=[]) (sp:=[.val 2 _]) [.g 0,.g 1,.g 2,.o 0] hst (zv rfl rfl (r_assign has_bo) o0) (fun a w hst=>?_)
   have hst:St B w0 15 [(5,_),(6,_),(7,_),(2,_)] [⟨4,73,ptrH,_⟩] a w:=hst
   refine thn_normal ?_
   refine wp_ret ?_
   refine blk_ret ?_
   refine thn_ret ?_
   refine thn_ret ?_
   refine blk_ret ?_
   refine thn_ret ?_
   refine ret_wk ?_ (ret_tmp rfl hst (zm 3 rfl))
   rw [← all_some hj (okB_no hb1)]; exact wk_id
  ·refine wp_skip ?_
   refine blk_normal ?_
   refine thn_normal ?_
   refine gl (sts:=[none]) (news:=[]) (sp:=[.val 14 _,.val 7 _]) [.g 0,.g 1,.o 1] hst (zv rfl rfl (r_add (gq 2 rfl) has_num ((wi64 zo zo).trans (by omega:(_:Int)=((j+1:Nat):Int)))) (zv rfl rfl (r_move (vq 0 rfl)) o0)) (fun a w hst=>?_)
   have hst:St B w0 15 [(5,_),(6,_),(7,_)] [⟨4,73,ptrH,_⟩] a w:=hst
   refine thn_normal ?_
   have hst:=St.sel hst [0,1,2]
   have hst:=St.selL hst []
   exact ⟨n - 1,by omega,j+1,⟨by omega,all_no hj hno (okB_of hb1)⟩,hst⟩
 ·obtain rfl:j=xs.length:=by simp at hb0; omega
  refine wp_exit ?_
  refine thn_exit ?_
  refine thn_exit ?_
  refine blk_exit ?_
  refine zt ?_
  refine gl (sts:=[]) (news:=[]) (sp:=[.val 2 _]) [.o 0] hst (zv rfl rfl (r_assign has_bo) o0) (fun a w hst=>?_)
  have hst:St B w0 15 [(2,_)] [] a w:=hst
  refine thn_normal ?_
  refine wp_ret ?_
  refine ret_wk ?_ (ret_tmp rfl hst (zm 0 rfl))
  rw [List.take_length] at hno; rw [hno]; exact wk_id
theorem square_q {c d:Nat} {x y:Rat} (hk:c+d≤137438953472):Cn Tryz.prog 180 [Qs c x,Qs d y] (Qs (c+c+(d+d)+1) (sqQ x y)):=by
 refine Cn.intro Tryz.func180 rfl zk nq (fun B w0 a hst=>?_)
 have hst:St B w0 12 [(0,Qs c x),(1,Qs d y)] [] a w0.w:=hst
 refine wp_seq ?_
 refine gl (sts:=[]) (news:=[⟨2,26,ptrH,some 0,_,none⟩,⟨3,26,ptrH,some 1,_,none⟩,⟨4,26,ptrH,some 2,_,none⟩]) (sp:=[.alc 0,.alc 1,.alc 2]) [] hst (oc (ob_box rfl rfl rfl (gq 0 rfl)) (oc (ob_box rfl rfl rfl (gq 1 rfl)) (oc (ob_alc rfl rfl rfl (Str.zero str_frac)) o0))) (fun a w hst=>?_)
 have hst:St B w0 12 [] [⟨2,26,ptrH,_⟩,⟨3,26,ptrH,_⟩,⟨4,26,ptrH,_⟩] a w:=hst
 refine zt ?_
 refine go_draw (anc:=[[],[],[0,1],[],[],[0,1,2,3,4],[0,1,2,3,4,5],[0,1,2,3,4,5,6]]) (sts:=[none,none,some (7,_)]) (news:=[]) (sp:=[.val 5 _,.val 6 _,.val 7 _,.val 8 _,.val 9 _,.val 10 _,.val 11 _,.sto 2]) [] follows_mixed hst (zv rfl rfl (r_load (lz0 0 rfl) ty_26) (zv rfl rfl (r_load (lz0 0 rfl) ty_26) (zv rfl rfl (r_call (xs:=[.tmp 5,.tmp 6]) (times_q zo) (.cons (vq 0 rfl) (.cons (vq 1 rfl) .nil))) (zv rfl rfl (r_load (lz0 1 rfl) ty_26) (zv rfl rfl (r_load (lz0 1 rfl) ty_26) (zv rfl rfl (r_call (xs:=[.tmp 8,.tmp 9]) (times_q zo) (.cons (vq 3 rfl) (.cons (vq 4 rfl) .nil))) (zv rfl rfl (r_call (xs:=[.tmp 7,.tmp 10]) (plus_q zo) (.cons (vq 2 rfl) (.cons (vq 5 rfl) .nil))) (oc (ob_sto rfl rfl rfl (vq 6 rfl) ty_26 (Eq.trans (b:=4) rfl rfl)) o0)))))))) zk zk zk zk (fun a w hst=>?_)
 have hst:St B w0 12 [] [⟨2,26,ptrH,_⟩,⟨3,26,ptrH,_⟩,⟨4,26,ptrH,_⟩] a w:=hst
 refine thn_normal ?_
 refine wp_ret ?_
 refine ret_wk ?_ (ret_cell rfl hst (zm 2 rfl) ty_26)
 exact wk_id
theorem alike_q {p q:GQ} (hp:0<p.im) (hq:0<q.im):Cn Tryz.prog 176 [(QGA 2048 p).va,(QGA 2048 q).va] (Qs 20487 (alkQ p q)):=by
 refine Cn.intro Tryz.func176 rfl zk nq (fun B w0 a hst=>?_)
 have hst:St B w0 26 [(0,(QGA 2048 p).va),(1,(QGA 2048 q).va)] [] a w0.w:=hst
 refine wp_seq ?_
 refine gl (sts:=[]) (news:=[⟨2,73,ptrH,some 0,_,none⟩,⟨3,73,ptrH,some 1,_,none⟩,⟨4,26,ptrH,some 2,_,none⟩]) (sp:=[.alc 0,.alc 1,.alc 2]) [] hst (oc (ob_box rfl rfl rfl (gq 0 rfl)) (oc (ob_box rfl rfl rfl (gq 1 rfl)) (oc (ob_alc rfl rfl rfl (Str.zero str_frac)) o0))) (fun a w hst=>?_)
 have hst:St B w0 26 [] [⟨2,73,ptrH,_⟩,⟨3,73,ptrH,_⟩,⟨4,26,ptrH,_⟩] a w:=hst
 refine zt ?_
 refine go_draw (anc:=[[],[],[1],[],[3],[0,1,2,3,4],[0,1,2,3,4,5],[],[0,1,2,3,4,5,6,7]]) (sts:=[none,none,none]) (news:=[⟨5,26,ptrH,some 7,_,some (8,_)⟩]) (sp:=[.val 6 _,.adr 7 2 (.some 4) True,.val 8 _,.adr 9 3 (.some 4) True,.val 10 _,.val 11 _,.val 12 _,.alc 3,.sto 3]) [] follows_mixed hst (zv rfl rfl (r_call (xs:=[.const (.int .i64 (4)),.const (.int .i64 (1))]) (small_q zd zd zd zd zd) (.cons has_num (.cons has_num .nil))) (oc (ob_a rfl rfl (a_fld (lz0 0 rfl) fld_73_1)) (zv rfl rfl (r_loadf 1 rfl zk trivial (lz0 0 rfl) (Sub.part 1 rfl rfl) ty_26) (oc (ob_a rfl rfl (a_fld (lz0 1 rfl) fld_73_1)) (zv rfl rfl (r_loadf 3 rfl zk trivial (lz0 1 rfl) (Sub.part 1 rfl rfl) ty_26) (zv rfl rfl (r_call (xs:=[.tmp 8,.tmp 10]) (times_q zo) (.cons (vq 2 rfl) (.cons (vq 4 rfl) .nil))) (zv rfl rfl (r_call (xs:=[.tmp 6,.tmp 11]) (times_q zo) (.cons (vq 0 rfl) (.cons (vq 5 rfl) .nil))) (oc (ob_alc rfl rfl rfl (Str.zero str_frac)) (oc (ob_sto rfl rfl rfl (vq 6 rfl) ty_26 (Eq.trans (b:=4) rfl rfl)) o0))))))))) zk zk zk zk (fun a w hst=>?_)
 have hst:St B w0 26 [] [⟨2,73,ptrH,_⟩,⟨3,73,ptrH,_⟩,⟨4,26,ptrH,_⟩,⟨5,26,ptrH,_⟩] a w:=hst
 refine zt ?_
 refine go_draw (anc:=[[],[],[1],[],[3],[1,2,3,4],[],[6],[],[8],[1,2,3,4,5,6,7,8,9],[1,2,3,4,5,6,7,8,9,10],[0,1,2,3,4,5,6,7,8,9,10,11],[0,1,2,3,4,5,6,7,8,9,10,11,12]]) (sts:=[none,none,some (13,_),none]) (news:=[]) (sp:=[.val 13 _,.adr 14 2 (.some 0) True,.val 15 _,.adr 16 3 (.some 0) True,.val 17 _,.val 18 _,.adr 19 2 (.some 4) True,.val 20 _,.adr 21 3 (.some 4) True,.val 22 _,.val 23 _,.val 24 _,.val 25 _,.sto 2]) [] follows_mixed hst (zv rfl rfl (r_load (lz0 3 rfl) ty_26) (oc (ob_a rfl rfl (a_fld (lz0 0 rfl) fld_73_0)) (zv rfl rfl (r_loadf 1 rfl zk trivial (lz0 0 rfl) (Sub.part 0 rfl rfl) ty_26) (oc (ob_a rfl rfl (a_fld (lz0 1 rfl) fld_73_0)) (zv rfl rfl (r_loadf 3 rfl zk trivial (lz0 1 rfl) (Sub.part 0 rfl rfl) ty_26) (zv rfl rfl (r_call (xs:=[.tmp 15,.tmp 17]) (minus_q zo) (.cons (vq 2 rfl) (.cons (vq 4 rfl) .nil))) (oc (ob_a rfl rfl (a_fld (lz0 0 rfl) fld_73_1)) (zv rfl rfl (r_loadf 6 rfl zk trivial (lz0 0 rfl) (Sub.part 1 rfl rfl) ty_26) (oc (ob_a rfl rfl (a_fld (lz0 1 rfl) fld_73_1)) (zv rfl rfl (r_loadf 8 rfl zk trivial (lz0 1 rfl) (Sub.part 1 rfl rfl) ty_26) (zv rfl rfl (r_call (xs:=[.tmp 20,.tmp 22]) (plus_q zo) (.cons (vq 7 rfl) (.cons (vq 9 rfl) .nil))) (zv rfl rfl (r_call (xs:=[.tmp 18,.tmp 23]) (square_q zd) (.cons (vq 5 rfl) (.cons (vq 10 rfl) .nil))) (zv rfl rfl (r_call (xs:=[.tmp 13,.tmp 24]) (over_q zd (sq_ne (add_pos hp hq))) (.cons (vq 0 rfl) (.cons (vq 11 rfl) .nil))) (oc (ob_sto rfl rfl rfl (vq 12 rfl) ty_26 (Eq.trans (b:=4) rfl rfl)) o0)))))))))))))) zk zk zk zk (fun a w hst=>?_)
 have hst:St B w0 26 [] [⟨2,73,ptrH,_⟩,⟨3,73,ptrH,_⟩,⟨4,26,ptrH,_⟩,⟨5,26,ptrH,_⟩] a w:=hst
 refine thn_normal ?_
 refine wp_ret ?_
 refine ret_wk ?_ (ret_cell rfl hst (zm 2 rfl) ty_26)
 exact wk_eq (congrArg (Qs _) (by rw [show Rat.divInt 4 1=4 from rfl]; rfl))
theorem found_q {c:Nat} {x:Rat} (hc:c≤549755813888):Cn Tryz.prog 175 [Qs c x] (R3 (fdF x)):=by
 refine Cn.intro Tryz.func175 rfl zk nq (fun B w0 a hst=>?_)
 have hst:St B w0 15 [(0,Qs c x)] [] a w0.w:=hst
 refine wp_seq ?_
 refine gl (sts:=[]) (news:=[⟨1,26,ptrH,some 0,_,none⟩,⟨2,26,ptrH,some 1,_,none⟩]) (sp:=[.alc 0,.alc 1,.val 3 _,.val 4 _]) [.o 2,.o 3] hst (oc (ob_box rfl rfl rfl (gq 0 rfl)) (oc (ob_alc rfl rfl rfl (Str.zero str_frac)) (zv rfl rfl (r_assign has_bo) (zv rfl rfl (r_assign has_num) o0)))) (fun a w hst=>?_)
 have hst:St B w0 15 [(3,_),(4,_)] [⟨1,26,ptrH,_⟩,⟨2,26,ptrH,_⟩] a w:=hst
 refine zt ?_
 refine wp_seq ?_
 refine gl (sts:=[none,none]) (news:=[]) (sp:=[.val 6 _,.val 7 _,.val 8 _,.val 5 _]) [.g 0,.g 1,.o 3] hst (zv rfl rfl (r_load (lz0 0 rfl) ty_26) (zv rfl rfl (r_slice (D:=[U32]) (l:=[_]) (xs:=[.tmp 6]) (nd_ok zk) sl_142 zk (n_ok zk) nq nq nq (.cons (vq 0 rfl) .nil) rfl rfl) (zv rfl rfl (r_call (xs:=[.tmp 7]) (answer_q [x] (.cons ⟨_,rfl⟩ .nil) nq) (.cons (vq 1 rfl) .nil)) (zv rfl rfl (r_assign (vq 2 rfl)) o0)))) (fun a w hst=>?_)
 have hst:St B w0 15 [(3,_),(4,_),(5,_)] [⟨1,26,ptrH,_⟩,⟨2,26,ptrH,_⟩] a w:=hst
 refine zt ?_
 refine gl (sts:=[none,none]) (news:=[]) (sp:=[.val 9 _,.val 10 _]) [.g 0,.g 1,.g 2,.o 1] hst (zv rfl rfl (r_move (gq 2 rfl)) (zv rfl rfl (r_neq (vq 0 rfl) has_num) o0)) (fun a w hst=>?_)
 have hst:St B w0 15 [(3,_),(4,_),(5,_),(10,_)] [⟨1,26,ptrH,_⟩,⟨2,26,ptrH,_⟩] a w:=hst
 refine thn_normal ?_
 refine cond_of hst (zm 3 rfl) (fun hb0=>?_) (fun hb0=>?_)
 ·rw [one_long,ne0] at hb0
  refine wp_seq ?_
  refine gl (sts:=[none,some (2,_)]) (news:=[]) (sp:=[.val 11 _,.val 12 _,.sto 1,.val 3 _,.val 4 _]) [.o 3,.o 4] hst (zv rfl rfl (r_build (xs:=[]) (qs:=[]) str_frac .nil) (zv rfl rfl (r_move (gq 2 rfl)) (oc (ob_sto rfl rfl rfl (vq 0 rfl) ty_26 (Eq.trans (b:=4) rfl rfl)) (zv rfl rfl (r_assign has_bo) (zv rfl rfl (r_assign (vq 1 rfl)) o0))))) (fun a w hst=>?_)
  have hst:St B w0 15 [(3,_),(4,_)] [⟨1,26,ptrH,_⟩,⟨2,26,ptrH,_⟩] a w:=hst
  refine thn_normal ?_
  refine wp_ret ?_
  refine thn_ret ?_
  refine ret_wk ?_ (ret_many (rs:=[.cell 2 26,.tmp 3,.tmp 4]) rfl hst (.cell (zm 1 rfl) ty_26 (.tmp (zm 0 rfl) (.tmp (zm 1 rfl) .nil))) zd)
  rw [fdF,if_pos hb0]; exact tu3w wk_id wk_id (wk_eq (by rw [one_long,hb0]; rfl))
 ·rw [one_long,ne0] at hb0
  refine wp_skip ?_
  refine zt ?_
  refine gl (sts:=[none,some (2,_)]) (news:=[]) (sp:=[.val 13 _,.val 14 _,.sto 1,.val 3 _,.val 4 _]) [.o 3,.o 4] hst (zv rfl rfl (r_load (lz0 0 rfl) ty_26) (zv rfl rfl (r_call (xs:=[.tmp 13]) (copy_q zo) (.cons (vq 0 rfl) .nil)) (oc (ob_sto rfl rfl rfl (vq 1 rfl) ty_26 (Eq.trans (b:=4) rfl rfl)) (zv rfl rfl (r_assign has_bo) (zv rfl rfl (r_assign has_num) o0))))) (fun a w hst=>?_)
  have hst:St B w0 15 [(3,_),(4,_)] [⟨1,26,ptrH,_⟩,⟨2,26,ptrH,_⟩] a w:=hst
  refine thn_normal ?_
  refine wp_ret ?_
  refine ret_wk ?_ (ret_many (rs:=[.cell 2 26,.tmp 3,.tmp 4]) rfl hst (.cell (zm 1 rfl) ty_26 (.tmp (zm 0 rfl) (.tmp (zm 1 rfl) .nil))) zd)
  rw [fdF,if_neg (by rw [hb0]; decide)]; exact tu3w rq_wk wk_id wk_id
theorem and_ok {x y:RG} (h:(okB x && okB y)=true):([x.re,x.im].all okX=true∧0<(toG x).im)∧([y.re,y.im].all okX=true∧0<(toG y).im):=by
 rw [Bool.and_eq_true] at h
 exact ⟨okB_q h.1,okB_q h.2⟩
theorem overlap_c (x y:RG):Cn Tryz.prog 39 [(RGA x).va,(RGA y).va] (FrR (ovF x y)):=by
 refine Cn.intro Tryz.func39 rfl zk nq (fun B w0 a hst=>?_)
 have hst:St B w0 25 [(0,(RGA x).va),(1,(RGA y).va)] [] a w0.w:=hst
 refine wp_seq ?_
 refine gl (sts:=[]) (news:=[⟨2,73,ptrH,some 0,_,none⟩,⟨3,73,ptrH,some 1,_,none⟩,⟨4,26,ptrH,some 2,_,none⟩]) (sp:=[.alc 0,.alc 1,.alc 2,.val 5 _]) [.o 3] hst (oc (ob_box rfl rfl rfl (gq 0 rfl)) (oc (ob_box rfl rfl rfl (gq 1 rfl)) (oc (ob_alc rfl rfl rfl (Str.zero str_frac)) (zv rfl rfl (r_assign has_num) o0)))) (fun a w hst=>?_)
 have hst:St B w0 25 [(5,_)] [⟨2,73,ptrH,_⟩,⟨3,73,ptrH,_⟩,⟨4,26,ptrH,_⟩] a w:=hst
 refine zt ?_
 refine wp_seq ?_
 refine gl (sts:=[none,none,none]) (news:=[]) (sp:=[.val 9 _,.val 10 _,.val 11 _,.val 12 _,.val 13 _]) [.g 0,.o 4] hst (zv rfl rfl (r_load (lz0 0 rfl) ty_73) (zv rfl rfl (r_load (lz0 1 rfl) ty_73) (zv rfl rfl (r_slice (D:=[U32]) (l:=[_,_]) (xs:=[.tmp 9,.tmp 10]) (nd_ok zk) sl_193 zk (n_ok zk) nq nq nq (.cons (vq 0 rfl) (.cons (vq 1 rfl) .nil)) rfl rfl) (zv rfl rfl (r_call (xs:=[.tmp 11]) (mayG_c [x,y]) (.cons (vq 2 rfl) .nil)) (zv rfl rfl (r_not (vq 3 rfl)) o0))))) (fun a w hst=>?_)
 have hst:St B w0 25 [(5,_),(13,_)] [⟨2,73,ptrH,_⟩,⟨3,73,ptrH,_⟩,⟨4,26,ptrH,_⟩] a w:=hst
 refine thn_normal ?_
 refine cond_of hst (zm 1 rfl) (fun hb0=>?_) (fun hb0=>?_)
 ·rw [two_B,Bool.not_eq_true'] at hb0
  refine wp_seq ?_
  refine gl (sts:=[none,none,some (1,_)]) (news:=[]) (sp:=[.val 14 _,.sto 2,.val 5 _]) [.o 2] hst (zv rfl rfl (r_build (xs:=[]) (qs:=[]) str_frac .nil) (oc (ob_sto rfl rfl rfl (vq 0 rfl) ty_26 (Eq.trans (b:=4) rfl rfl)) (zv rfl rfl (r_assign has_num) o0))) (fun a w hst=>?_)
  have hst:St B w0 25 [(5,_)] [⟨2,73,ptrH,_⟩,⟨3,73,ptrH,_⟩,⟨4,26,ptrH,_⟩] a w:=hst
  refine thn_normal ?_
  refine wp_ret ?_
  refine thn_ret ?_
  refine ret_wk ?_ (ret_many (rs:=[.cell 4 26,.tmp 5]) rfl hst (.cell (zm 2 rfl) ty_26 (.tmp (zm 0 rfl) .nil)) zd)
  rw [ovF,if_neg (by rw [hb0]; decide)]; exact wk_id
 ·rw [two_B,Bool.not_eq_false'] at hb0
  obtain ⟨hx,hy⟩:=and_ok hb0
  have hst:=St.wkL hst 0 rfl (qg_x hx.1)
  have hst:=St.wkL hst 1 rfl (qg_x hy.1)
  refine wp_skip ?_
  refine zt ?_
  refine gl (sts:=[none,none,none]) (news:=[⟨6,26,ptrH,some 8,_,some (9,_)⟩]) (sp:=[.val 16 _,.val 17 _,.val 18 _,.val 19 _,.val 15 _,.val 20 _,.val 21 _,.val 22 _,.alc 3,.sto 3,.val 7 _,.val 8 _]) [.g 0,.o 11] hst (zv rfl rfl (r_load (lz0 0 rfl) ty_73) (zv rfl rfl (r_load (lz0 1 rfl) ty_73) (zv rfl rfl (r_call (xs:=[.tmp 16,.tmp 17]) (alike_q hx.2 hy.2) (.cons (vq 0 rfl) (.cons (vq 1 rfl) .nil))) (zv rfl rfl (r_call (xs:=[.tmp 18]) (found_q zd) (.cons (vq 2 rfl) .nil)) (zv rfl rfl (r_move (vq 3 rfl)) (zv rfl rfl (r_ex0 (vq 4 rfl)) (zv rfl rfl (r_ex1 (vq 4 rfl)) (zv rfl rfl (r_ex2 (vq 4 rfl)) (oc (ob_alc rfl rfl rfl (Str.zero str_frac)) (oc (ob_sto rfl rfl rfl (vq 5 rfl) ty_26 (Eq.trans (b:=4) rfl rfl)) (zv rfl rfl (r_assign (vq 6 rfl)) (zv rfl rfl (r_assign (vq 7 rfl)) o0)))))))))))) (fun a w hst=>?_)
  have hst:St B w0 25 [(5,_),(8,_)] [⟨2,73,ptrH,_⟩,⟨3,73,ptrH,_⟩,⟨4,26,ptrH,_⟩,⟨6,26,ptrH,_⟩] a w:=hst
  refine zt ?_
  refine gl (sts:=[none,none,some (2,_),none]) (news:=[]) (sp:=[.val 23 _,.val 24 _,.sto 2,.val 5 _]) [.o 3] hst (zv rfl rfl (r_load (lz0 3 rfl) ty_26) (zv rfl rfl (r_move (gq 1 rfl)) (oc (ob_sto rfl rfl rfl (vq 0 rfl) ty_26 (Eq.trans (b:=4) rfl rfl)) (zv rfl rfl (r_assign (vq 1 rfl)) o0)))) (fun a w hst=>?_)
  have hst:St B w0 25 [(5,_)] [⟨2,73,ptrH,_⟩,⟨3,73,ptrH,_⟩,⟨4,26,ptrH,_⟩,⟨6,26,ptrH,_⟩] a w:=hst
  refine thn_normal ?_
  refine wp_ret ?_
  refine ret_wk ?_ (ret_many (rs:=[.cell 4 26,.tmp 5]) rfl hst (.cell (zm 2 rfl) ty_26 (.tmp (zm 0 rfl) .nil)) zd)
  rw [ovF,if_pos hb0,← fd_ans]; exact wk_id
end Go.Proofs.YthncfchnkjemiaaGreatDoor
