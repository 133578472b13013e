import Derived.Test.YthncfchnkjemiaaGreatDoorIlAa
import Derived.Test.YthncfchnkjemiaaGreatDoorIlAc
import Derived.Test.YthncfchnkjemiaaGreatDoorIlBa
set_option linter.unusedVariables false
set_option linter.unusedSimpArgs false
set_option linter.unusedSectionVars false
set_option maxRecDepth 100000
namespace Go.Proofs.YthncfchnkjemiaaGreatDoor
open Go Go.RowKit
theorem ex_rTimes : ∃ fn, Tryz.prog.funcs[251]? = some fn ∧ (fn.name == "runtime.NumGoroutine") = false ∧ fn.body.isNone = false := ⟨_, Tryz.func251, by kernel_rfl, by kernel_rfl⟩
theorem ex_rPlus : ∃ fn, Tryz.prog.funcs[252]? = some fn ∧ (fn.name == "runtime.NumGoroutine") = false ∧ fn.body.isNone = false := ⟨_, Tryz.func252, by kernel_rfl, by kernel_rfl⟩
theorem ex_rMinus : ∃ fn, Tryz.prog.funcs[327]? = some fn ∧ (fn.name == "runtime.NumGoroutine") = false ∧ fn.body.isNone = false := ⟨_, Tryz.func327, by kernel_rfl, by kernel_rfl⟩
theorem ex_rDivide : ∃ fn, Tryz.prog.funcs[329]? = some fn ∧ (fn.name == "runtime.NumGoroutine") = false ∧ fn.body.isNone = false := ⟨_, Tryz.func329, by kernel_rfl, by kernel_rfl⟩
theorem ex_rSign : ∃ fn, Tryz.prog.funcs[297]? = some fn ∧ (fn.name == "runtime.NumGoroutine") = false ∧ fn.body.isNone = false := ⟨_, Tryz.func297, by kernel_rfl, by kernel_rfl⟩
theorem ex_r2turned : ∃ fn, Tryz.prog.funcs[298]? = some fn ∧ (fn.name == "runtime.NumGoroutine") = false ∧ fn.body.isNone = false := ⟨_, Tryz.func298, by kernel_rfl, by kernel_rfl⟩
theorem r2turnedZ_c (p:Int) (hp:lz p≤1000000000):Cn Tryz.prog 298 [Zi p] (Zi (-p)):=by
 refine Cn.intro Tryz.func298 rfl zk nq (fun B w0 a hst=>?_)
 have hst:St B w0 6 [(0,Zi p)] [] a w0.w:=hst
 refine wp_seq ?_
 refine gl (sts:=[]) (news:=[⟨1,24,ptrH,some 0,_,none⟩,⟨2,24,ptrH,some 1,_,none⟩]) (sp:=[.alc 0,.alc 1]) [] hst (oc (ob_box rfl rfl rfl (gq 0 rfl)) (oc (ob_alc rfl rfl rfl (Str.zero str_int)) o0)) (fun a w hst=>?_)
 have hst:St B w0 6 [] [⟨1,24,ptrH,_⟩,⟨2,24,ptrH,_⟩] a w:=hst
 refine zt ?_
 refine go_draw (anc:=[[],[],[0,1],[0,1,2]]) (sts:=[none,some (3,_)]) (news:=[]) (sp:=[.val 3 _,.val 4 _,.val 5 _,.sto 1]) [] follows_mixed hst (zv rfl rfl (r_call (xs:=[.const (.int .i64 (0))]) (rof_c 0 zd zd) (.cons has_num .nil)) (zv rfl rfl (r_load (lz0 0 rfl) ty_24) (zv rfl rfl (r_call (xs:=[.tmp 3,.tmp 4]) (rminusZ_c 0 p (by simp [lz,limbs_zero]) hp) (.cons (vq 0 rfl) (.cons (vq 1 rfl) .nil))) (oc (ob_sto rfl rfl rfl (vq 2 rfl) ty_24 (Eq.trans (b:=2) rfl rfl)) o0)))) zk zk zk zk (fun a w hst=>?_)
 have hst:St B w0 6 [] [⟨1,24,ptrH,_⟩,⟨2,24,ptrH,_⟩] a w:=hst
 refine thn_normal ?_
 refine wp_ret ?_
 refine ret_wk ?_ (ret_cell rfl hst (zm 1 rfl) ty_24)
 exact wk_eq (congrArg Zi (Int.zero_sub p))
section
variable {a b:Nat} {p q:Int} (ha:a≤1000000000)
include ha
theorem r2turned_z:Cn Tryz.prog 298 [Zs a p] (Zs a (-p)):=zs1 ex_r2turned fun h=>(r2turnedZ_c p zo).wkp (zs_of (by rw [lz_neg]; exact h))
variable (hb:b≤1000000000)
include hb
theorem rtimes_z:Cn Tryz.prog 251 [Zs a p,Zs b q] (Zs (a+b) (p*q)):=zs2 ex_rTimes fun h h'=>(rtimesZ_c p q zo zo).wkp (zs_of (by have:=lz_mul p q; omega))
theorem rplus_z:Cn Tryz.prog 252 [Zs a p,Zs b q] (Zs (max a b+1) (p+q)):=zs2 ex_rPlus fun h h'=>(rplusZ_c p q zo zo).wkp (zs_of (by have:=lz_add p q; omega))
theorem rminus_z:Cn Tryz.prog 327 [Zs a p,Zs b q] (Zs (max a b+1) (p - q)):=zs2 ex_rMinus fun h h'=>(rminusZ_c p q zo zo).wkp (zs_of (by have:=lz_sub p q; omega))
theorem rdivide_z (hq:q≠0):Cn Tryz.prog 329 [Zs a p,Zs b q] (Tu [Zs a (p.tdiv q),Zs b (p.tmod q)]):=zs2 ex_rDivide fun h h'=>(rdivideZ_c p q hq zo zo).wkp (tu_wk (.cons (zs_of (by have:=lz_tdiv p q; omega)) (.cons (zs_of (by have:=lz_tm (p:=p) hq; omega)) .nil)))
end
theorem rsign_z {a:Nat} {p:Int}:Cn Tryz.prog 297 [Zs a p] (In p.sign):=zs1 ex_rSign fun _=>(rsign_c (riOf p)).post (by rw [sgI_ri])
theorem rof_z {n:Int} (h0 : -9223372036854775808≤n) (h1:n<9223372036854775808):Cn Tryz.prog 253 [In n] (Zs 2 n):=(rof_c n h0 h1).wkp (zs_of (lz_le zo))
theorem lz_tmod1 {p q:Int} (h:q≠0) (hq:lz q≤1000000000):lz (p.tmod q)≤1000000000:=Nat.le_trans (lz_tm h) hq
theorem gcd_tmod {X Y:Int} (h:Y≠0):Int.gcd Y (X.tmod Y)=Int.gcd X Y:=by
 show Nat.gcd Y.natAbs (X.tmod Y).natAbs=Nat.gcd X.natAbs Y.natAbs
 rw [nat_tmod,Nat.gcd_comm X.natAbs,Nat.gcd_comm,← Nat.gcd_rec]
theorem r2commonZ_c (p q:Int) (hp:lz p≤1000000000) (hq:lz q≤1000000000):Cn Tryz.prog 328 [Zi p,Zi q] (Zi ((Int.gcd p q:Nat):Int)):=by
 refine Cn.intro Tryz.func328 rfl zk nq (fun B w0 a hst=>?_)
 have hst:St B w0 33 [(0,Zi p),(1,Zi q)] [] a w0.w:=hst
 refine wp_seq ?_
 refine gl (sts:=[]) (news:=[⟨2,24,ptrH,some 0,_,none⟩,⟨3,24,ptrH,some 1,_,none⟩,⟨4,24,ptrH,some 2,_,none⟩]) (sp:=[.alc 0,.alc 1,.alc 2]) [] hst (oc (ob_box rfl rfl rfl (gq 0 rfl)) (oc (ob_box rfl rfl rfl (gq 1 rfl)) (oc (ob_alc rfl rfl rfl (Str.zero str_int)) o0))) (fun a w hst=>?_)
 have hst:St B w0 33 [] [⟨2,24,ptrH,_⟩,⟨3,24,ptrH,_⟩,⟨4,24,ptrH,_⟩] a w:=hst
 refine zt ?_
 refine wp_seq ?_
 refine go_draw (anc:=[[],[0],[],[0,1,2],[0,1,2,3]]) (sts:=[none,none,none]) (news:=[]) (sp:=[.val 7 _,.val 8 _,.val 9 _,.val 10 _,.val 11 _]) [.o 4] follows_mixed hst (zv rfl rfl (r_load (lz0 0 rfl) ty_24) (zv rfl rfl (r_call (xs:=[.tmp 7]) (rbits_c p hp) (.cons (vq 0 rfl) .nil)) (zv rfl rfl (r_load (lz0 1 rfl) ty_24) (zv rfl rfl (r_call (xs:=[.tmp 9]) (rbits_c q hq) (.cons (vq 2 rfl) .nil)) (zv rfl rfl (r_lss (vq 1 rfl) (vq 3 rfl)) o0))))) zk zk zk zk (fun a w hst=>?_)
 have hst:St B w0 33 [(11,_)] [⟨2,24,ptrH,_⟩,⟨3,24,ptrH,_⟩,⟨4,24,ptrH,_⟩] a w:=hst
 refine thn_normal ?_
 refine cond_join (fun a w=>∃ X Y:Int,(lz X≤1000000000∧lz Y≤1000000000∧Int.gcd X Y=Int.gcd p q)∧St B w0 33 [] [⟨2,24,ptrH,RIA (riOf X)⟩,⟨3,24,ptrH,RIA (riOf Y)⟩,⟨4,24,ptrH,cat [BoA false,MgA []]⟩] a w) hst (zm 0 rfl) (fun hb0=>?_) (fun hb0=>?_) (fun a w hst=>?_)
 ·refine gl (sts:=[some (2,_),some (3,_),none]) (news:=[]) (sp:=[.val 12 _,.val 13 _,.sto 0,.sto 1]) [] hst (zv rfl rfl (r_load (lz0 1 rfl) ty_24) (zv rfl rfl (r_load (lz0 0 rfl) ty_24) (oc (ob_sto rfl rfl rfl (vq 0 rfl) ty_24 (Eq.trans (b:=2) rfl rfl)) (oc (ob_sto rfl rfl rfl (vq 1 rfl) ty_24 (Eq.trans (b:=2) rfl rfl)) o0)))) (fun a w hst=>?_)
  have hst:St B w0 33 [] [⟨2,24,ptrH,_⟩,⟨3,24,ptrH,_⟩,⟨4,24,ptrH,_⟩] a w:=hst
  refine thn_normal ?_
  have hst:=St.sel hst []
  exact ⟨q,p,⟨hq,hp,Int.gcd_comm q p⟩,hst⟩
 ·refine wp_skip ?_
  refine thn_normal ?_
  have hst:=St.sel hst []
  exact ⟨p,q,⟨hp,hq,rfl⟩,hst⟩
 obtain ⟨X,Y,⟨hX,hY,hg⟩,hst⟩:=hst
 refine zt ?_
 refine wp_seq ?_
 refine gl (sts:=[none,none,none]) (news:=[]) (sp:=[.val 14 _,.val 15 _,.val 16 _]) [.o 2] hst (zv rfl rfl (r_load (lz0 1 rfl) ty_24) (zv rfl rfl (r_call (xs:=[.tmp 14]) ((rsign_c (riOf Y)).post (by rw [sgI_ri])) (.cons (vq 0 rfl) .nil)) (zv rfl rfl (r_eql (vq 1 rfl) has_num) o0))) (fun a w hst=>?_)
 have hst:St B w0 33 [(16,_)] [⟨2,24,ptrH,_⟩,⟨3,24,ptrH,_⟩,⟨4,24,ptrH,_⟩] a w:=hst
 refine thn_normal ?_
 refine cond_of hst (zm 0 rfl) (fun hb1=>?_) (fun hb1=>?_)
 ·refine wp_seq ?_
  refine gl (sts:=[none,none,some (3,_)]) (news:=[]) (sp:=[.val 17 _,.val 18 _,.val 19 _,.sto 2]) [] hst (zv rfl rfl (r_load (lz0 0 rfl) ty_24) (zv rfl rfl (r_load (lz0 1 rfl) ty_24) (zv rfl rfl (r_call (xs:=[.tmp 17,.tmp 18]) (rcommonZ_c X Y hX hY) (.cons (vq 0 rfl) (.cons (vq 1 rfl) .nil))) (oc (ob_sto rfl rfl rfl (vq 2 rfl) ty_24 (Eq.trans (b:=2) rfl rfl)) o0)))) (fun a w hst=>?_)
  have hst:St B w0 33 [] [⟨2,24,ptrH,_⟩,⟨3,24,ptrH,_⟩,⟨4,24,ptrH,_⟩] a w:=hst
  refine thn_normal ?_
  refine wp_ret ?_
  refine thn_ret ?_
  refine ret_wk ?_ (ret_cell rfl hst (zm 2 rfl) ty_24)
  exact wk_eq (congrArg (fun n:Nat=>Zi (n:Int)) hg)
 ·have hY0:Y≠0:=fun e=>by rw [e] at hb1; exact absurd hb1 zd
  refine wp_skip ?_
  refine zt ?_
  refine gl (sts:=[none,none,none]) (news:=[⟨5,24,ptrH,some 6,_,some (8,_)⟩,⟨6,24,ptrH,some 7,_,some (9,_)⟩]) (sp:=[.val 21 _,.val 22 _,.val 23 _,.val 20 _,.val 24 _,.val 25 _,.alc 3,.alc 4,.sto 3,.sto 4]) [] hst (zv rfl rfl (r_load (lz0 0 rfl) ty_24) (zv rfl rfl (r_load (lz0 1 rfl) ty_24) (zv rfl rfl (r_call (xs:=[.tmp 21,.tmp 22]) (rdivideZ_c X Y hY0 hX hY) (.cons (vq 0 rfl) (.cons (vq 1 rfl) .nil))) (zv rfl rfl (r_move (vq 2 rfl)) (zv rfl rfl (r_extract (vq 3 rfl) rfl) (zv rfl rfl (r_extract (vq 3 rfl) rfl) (oc (ob_alc rfl rfl rfl (Str.zero str_int)) (oc (ob_alc rfl rfl rfl (Str.zero str_int)) (oc (ob_sto rfl rfl rfl (vq 4 rfl) ty_24 (Eq.trans (b:=2) rfl rfl)) (oc (ob_sto rfl rfl rfl (vq 5 rfl) ty_24 (Eq.trans (b:=2) rfl rfl)) o0)))))))))) (fun a w hst=>?_)
  have hst:St B w0 33 [] [⟨2,24,ptrH,_⟩,⟨3,24,ptrH,_⟩,⟨4,24,ptrH,_⟩,⟨5,24,ptrH,_⟩,⟨6,24,ptrH,_⟩] a w:=hst
  refine zt ?_
  refine wp_seq ?_
  refine gl (sts:=[none,none,none,none,none]) (news:=[]) (sp:=[.val 26 _,.val 27 _,.val 28 _]) [.o 2] hst (zv rfl rfl (r_load (lz0 1 rfl) ty_24) (zv rfl rfl (r_call (xs:=[.tmp 26]) (rbits_c Y hY) (.cons (vq 0 rfl) .nil)) (zv rfl rfl (r_eql (vq 1 rfl) has_num) o0))) (fun a w hst=>?_)
  have hst:St B w0 33 [(28,_)] [⟨2,24,ptrH,_⟩,⟨3,24,ptrH,_⟩,⟨4,24,ptrH,_⟩,⟨5,24,ptrH,_⟩,⟨6,24,ptrH,_⟩] a w:=hst
  refine thn_normal ?_
  refine cond_of hst (zm 0 rfl) (fun hb2=>?_) (fun hb2=>?_)
  ·have h1:Y.natAbs=1:=bitF_one (by have:=beq_iff_eq.1 hb2; omega)
   refine wp_seq ?_
   refine gl (sts:=[none,none,some (1,_),none,none]) (news:=[]) (sp:=[.val 29 _,.sto 2]) [] hst (zv rfl rfl (r_call (xs:=[.const (.int .i64 (1))]) (rof_c 1 zd zd) (.cons has_num .nil)) (oc (ob_sto rfl rfl rfl (vq 0 rfl) ty_24 (Eq.trans (b:=2) rfl rfl)) o0)) (fun a w hst=>?_)
   have hst:St B w0 33 [] [⟨2,24,ptrH,_⟩,⟨3,24,ptrH,_⟩,⟨4,24,ptrH,_⟩,⟨5,24,ptrH,_⟩,⟨6,24,ptrH,_⟩] a w:=hst
   refine thn_normal ?_
   refine wp_ret ?_
   refine thn_ret ?_
   refine ret_wk ?_ (ret_cell rfl hst (zm 2 rfl) ty_24)
   exact wk_eq (congrArg (fun n:Nat=>Zi (n:Int)) (show 1=Int.gcd p q by rw [← hg]; show 1=Nat.gcd X.natAbs Y.natAbs; rw [h1,Nat.gcd_one_right]))
  ·refine wp_skip ?_
   refine zt ?_
   refine gl (sts:=[none,none,some (3,_),none,none]) (news:=[]) (sp:=[.val 30 _,.val 31 _,.val 32 _,.sto 2]) [] hst (zv rfl rfl (r_load (lz0 1 rfl) ty_24) (zv rfl rfl (r_load (lz0 4 rfl) ty_24) (zv rfl rfl (r_call (xs:=[.tmp 30,.tmp 31]) (rcommonZ_c Y (X.tmod Y) hY (lz_tmod1 hY0 hY)) (.cons (vq 0 rfl) (.cons (vq 1 rfl) .nil))) (oc (ob_sto rfl rfl rfl (vq 2 rfl) ty_24 (Eq.trans (b:=2) rfl rfl)) o0)))) (fun a w hst=>?_)
   have hst:St B w0 33 [] [⟨2,24,ptrH,_⟩,⟨3,24,ptrH,_⟩,⟨4,24,ptrH,_⟩,⟨5,24,ptrH,_⟩,⟨6,24,ptrH,_⟩] a w:=hst
   refine thn_normal ?_
   refine wp_ret ?_
   refine ret_wk ?_ (ret_cell rfl hst (zm 2 rfl) ty_24)
   exact wk_eq (congrArg (fun n:Nat=>Zi (n:Int)) ((gcd_tmod hY0).trans hg))
theorem ex_r2common : ∃ fn, Tryz.prog.funcs[328]? = some fn ∧ (fn.name == "runtime.NumGoroutine") = false ∧ fn.body.isNone = false := ⟨_, Tryz.func328, by kernel_rfl, by kernel_rfl⟩
theorem r2common_z {a b:Nat} {p q:Int} (ha:a≤1000000000) (hb:b≤1000000000):Cn Tryz.prog 328 [Zs a p,Zs b q] (Zs (max a b) ((Int.gcd p q:Nat):Int)):=zs2 ex_r2common fun h h'=>(r2commonZ_c p q zo zo).wkp (zs_of (by have:=lz_gcd p q; omega))
theorem r2lowest_q {c d:Nat} {p q:Int} (hc:c≤1000000000) (hd:d≤1000000000) (hq:q≠0):Cn Tryz.prog 250 [Zs c p,Zs d q] (Qs (max c d) (Rat.divInt p q)):=by
 have hg0:0<Int.gcd p q:=Int.gcd_pos_of_ne_zero_right p hq
 obtain ⟨hn1,hn2⟩:=low_num (p:=p) hq
 refine Cn.intro Tryz.func250 rfl zk nq (fun B w0 a hst=>?_)
 have hst:St B w0 36 [(0,Zs c p),(1,Zs d q)] [] a w0.w:=hst
 refine wp_seq ?_
 refine gl (sts:=[]) (news:=[⟨2,24,ptrH,some 0,_,none⟩,⟨3,24,ptrH,some 1,_,none⟩,⟨4,26,ptrH,some 2,_,none⟩]) (sp:=[.alc 0,.alc 1,.alc 2]) [] hst (oc (ob_box rfl rfl rfl (gq 0 rfl)) (oc (ob_box rfl rfl rfl (gq 1 rfl)) (oc (ob_alc rfl rfl rfl (Str.zero str_frac)) o0))) (fun a w hst=>?_)
 have hst:St B w0 36 [] [⟨2,24,ptrH,_⟩,⟨3,24,ptrH,_⟩,⟨4,26,ptrH,_⟩] a w:=hst
 refine zt ?_
 refine gl (sts:=[none,none,none]) (news:=[⟨5,24,ptrH,some 3,_,some (4,_)⟩]) (sp:=[.val 10 _,.val 11 _,.val 12 _,.alc 3,.sto 3]) [] hst (zv rfl rfl (r_load (lz0 0 rfl) ty_24) (zv rfl rfl (r_load (lz0 1 rfl) ty_24) (zv rfl rfl (r_call (xs:=[.tmp 10,.tmp 11]) (r2common_z zo zo) (.cons (vq 0 rfl) (.cons (vq 1 rfl) .nil))) (oc (ob_alc rfl rfl rfl (Str.zero str_int)) (oc (ob_sto rfl rfl rfl (vq 2 rfl) ty_24 (Eq.trans (b:=2) rfl rfl)) o0))))) (fun a w hst=>?_)
 have hst:St B w0 36 [] [⟨2,24,ptrH,_⟩,⟨3,24,ptrH,_⟩,⟨4,26,ptrH,_⟩,⟨5,24,ptrH,_⟩] a w:=hst
 refine zt ?_
 refine gl (sts:=[none,none,none,none]) (news:=[⟨6,24,ptrH,some 6,_,some (8,_)⟩,⟨7,24,ptrH,some 7,_,some (9,_)⟩]) (sp:=[.val 14 _,.val 15 _,.val 16 _,.val 13 _,.val 17 _,.val 18 _,.alc 4,.alc 5,.sto 4,.sto 5]) [] hst (zv rfl rfl (r_load (lz0 0 rfl) ty_24) (zv rfl rfl (r_load (lz0 3 rfl) ty_24) (zv rfl rfl (r_call (xs:=[.tmp 14,.tmp 15]) (rdivide_z zo zo zo) (.cons (vq 0 rfl) (.cons (vq 1 rfl) .nil))) (zv rfl rfl (r_move (vq 2 rfl)) (zv rfl rfl (r_extract (vq 3 rfl) rfl) (zv rfl rfl (r_extract (vq 3 rfl) rfl) (oc (ob_alc rfl rfl rfl (Str.zero str_int)) (oc (ob_alc rfl rfl rfl (Str.zero str_int)) (oc (ob_sto rfl rfl rfl (vq 4 rfl) ty_24 (Eq.trans (b:=2) rfl rfl)) (oc (ob_sto rfl rfl rfl (vq 5 rfl) ty_24 (Eq.trans (b:=2) rfl rfl)) o0)))))))))) (fun a w hst=>?_)
 have hst:St B w0 36 [] [⟨2,24,ptrH,_⟩,⟨3,24,ptrH,_⟩,⟨4,26,ptrH,_⟩,⟨5,24,ptrH,_⟩,⟨6,24,ptrH,_⟩,⟨7,24,ptrH,_⟩] a w:=hst
 refine zt ?_
 refine gl (sts:=[none,none,none,none,none,none]) (news:=[⟨8,24,ptrH,some 6,_,some (8,_)⟩,⟨9,24,ptrH,some 7,_,some (9,_)⟩]) (sp:=[.val 20 _,.val 21 _,.val 22 _,.val 19 _,.val 23 _,.val 24 _,.alc 6,.alc 7,.sto 6,.sto 7]) [] hst (zv rfl rfl (r_load (lz0 1 rfl) ty_24) (zv rfl rfl (r_load (lz0 3 rfl) ty_24) (zv rfl rfl (r_call (xs:=[.tmp 20,.tmp 21]) (rdivide_z zo zo zo) (.cons (vq 0 rfl) (.cons (vq 1 rfl) .nil))) (zv rfl rfl (r_move (vq 2 rfl)) (zv rfl rfl (r_extract (vq 3 rfl) rfl) (zv rfl rfl (r_extract (vq 3 rfl) rfl) (oc (ob_alc rfl rfl rfl (Str.zero str_int)) (oc (ob_alc rfl rfl rfl (Str.zero str_int)) (oc (ob_sto rfl rfl rfl (vq 4 rfl) ty_24 (Eq.trans (b:=2) rfl rfl)) (oc (ob_sto rfl rfl rfl (vq 5 rfl) ty_24 (Eq.trans (b:=2) rfl rfl)) o0)))))))))) (fun a w hst=>?_)
 have hst:St B w0 36 [] [⟨2,24,ptrH,_⟩,⟨3,24,ptrH,_⟩,⟨4,26,ptrH,_⟩,⟨5,24,ptrH,_⟩,⟨6,24,ptrH,_⟩,⟨7,24,ptrH,_⟩,⟨8,24,ptrH,_⟩,⟨9,24,ptrH,_⟩] a w:=hst
 refine zt ?_
 refine wp_seq ?_
 refine gl (sts:=[none,none,none,none,none,none,none,none]) (news:=[]) (sp:=[.val 25 _,.val 26 _,.val 27 _]) [.o 2] hst (zv rfl rfl (r_load (lz0 6 rfl) ty_24) (zv rfl rfl (r_call (xs:=[.tmp 25]) rsign_z (.cons (vq 0 rfl) .nil)) (zv rfl rfl (r_lss (vq 1 rfl) has_num) o0))) (fun a w hst=>?_)
 have hst:St B w0 36 [(27,_)] [⟨2,24,ptrH,_⟩,⟨3,24,ptrH,_⟩,⟨4,26,ptrH,_⟩,⟨5,24,ptrH,_⟩,⟨6,24,ptrH,_⟩,⟨7,24,ptrH,_⟩,⟨8,24,ptrH,_⟩,⟨9,24,ptrH,_⟩] a w:=hst
 refine thn_normal ?_
 refine cond_of hst (zm 0 rfl) (fun hb0=>?_) (fun hb0=>?_)
 ·refine wp_seq ?_
  refine go_draw (anc:=[[],[0],[],[0,1,2],[0,1,2,3],[0,1,2,3,4]]) (sts:=[none,none,some (5,_),none,none,none,none,none]) (news:=[]) (sp:=[.val 28 _,.val 29 _,.val 30 _,.val 31 _,.val 32 _,.sto 2]) [] follows_mixed hst (zv rfl rfl (r_load (lz0 4 rfl) ty_24) (zv rfl rfl (r_call (xs:=[.tmp 28]) (r2turned_z zo) (.cons (vq 0 rfl) .nil)) (zv rfl rfl (r_load (lz0 6 rfl) ty_24) (zv rfl rfl (r_call (xs:=[.tmp 30]) (r2turned_z zo) (.cons (vq 2 rfl) .nil)) (zv rfl rfl (r_build (xs:=[(0,.tmp 29),(1,.tmp 31)]) (qs:=[(0,_),(1,_)]) str_frac (.cons ⟨rfl,(vq 1 rfl),rfl⟩ (.cons ⟨rfl,(vq 3 rfl),rfl⟩ .nil))) (oc (ob_sto rfl rfl rfl (vq 4 rfl) ty_26 (Eq.trans (b:=4) rfl rfl)) o0)))))) zk zk zk zk (fun a w hst=>?_)
  have hst:St B w0 36 [] [⟨2,24,ptrH,_⟩,⟨3,24,ptrH,_⟩,⟨4,26,ptrH,_⟩,⟨5,24,ptrH,_⟩,⟨6,24,ptrH,_⟩,⟨7,24,ptrH,_⟩,⟨8,24,ptrH,_⟩,⟨9,24,ptrH,_⟩] a w:=hst
  refine thn_normal ?_
  refine wp_ret ?_
  refine thn_ret ?_
  refine ret_wk ?_ (ret_cell rfl hst (zm 2 rfl) ty_26)
  rw [if_pos (sgn_yes hb0)] at hn1 hn2; rw [hn1,hn2]; exact (cat_wk (.cons (za_mono (Nat.le_max_left _ _)) (.cons (za_mono (Nat.le_max_right _ _)) .nil))).va
 ·refine wp_skip ?_
  refine zt ?_
  refine gl (sts:=[none,none,some (3,_),none,none,none,none,none]) (news:=[]) (sp:=[.val 33 _,.val 34 _,.val 35 _,.sto 2]) [] hst (zv rfl rfl (r_load (lz0 4 rfl) ty_24) (zv rfl rfl (r_load (lz0 6 rfl) ty_24) (zv rfl rfl (r_build (xs:=[(0,.tmp 33),(1,.tmp 34)]) (qs:=[(0,_),(1,_)]) str_frac (.cons ⟨rfl,(vq 0 rfl),rfl⟩ (.cons ⟨rfl,(vq 1 rfl),rfl⟩ .nil))) (oc (ob_sto rfl rfl rfl (vq 2 rfl) ty_26 (Eq.trans (b:=4) rfl rfl)) o0)))) (fun a w hst=>?_)
  have hst:St B w0 36 [] [⟨2,24,ptrH,_⟩,⟨3,24,ptrH,_⟩,⟨4,26,ptrH,_⟩,⟨5,24,ptrH,_⟩,⟨6,24,ptrH,_⟩,⟨7,24,ptrH,_⟩,⟨8,24,ptrH,_⟩,⟨9,24,ptrH,_⟩] a w:=hst
  refine thn_normal ?_
  refine wp_ret ?_
  refine ret_wk ?_ (ret_cell rfl hst (zm 2 rfl) ty_26)
  rw [if_neg (sgn_no hb0)] at hn1 hn2; rw [hn1,hn2]; exact (cat_wk (.cons (za_mono (Nat.le_max_left _ _)) (.cons (za_mono (Nat.le_max_right _ _)) .nil))).va
theorem r2small_q {p q:Int} (hp : -9223372036854775808≤p) (hp1:p<9223372036854775808) (hq : -9223372036854775808≤q) (hq1:q<9223372036854775808) (h0:q≠0):Cn Tryz.prog 102 [In p,In q] (Qs 2 (Rat.divInt p q)):=by
 refine Cn.intro Tryz.func102 rfl zk nq (fun B w0 a hst=>?_)
 have hst:St B w0 10 [(0,In p),(1,In q)] [] a w0.w:=hst
 refine wp_seq ?_
 refine gl (sts:=[]) (news:=[⟨4,26,ptrH,some 0,_,none⟩]) (sp:=[.alc 0]) [.g 0,.g 1] hst (oc (ob_alc rfl rfl rfl (Str.zero str_frac)) o0) (fun a w hst=>?_)
 have hst:St B w0 10 [(0,_),(1,_)] [⟨4,26,ptrH,_⟩] a w:=hst
 refine zt ?_
 refine gl (sts:=[some (5,_)]) (news:=[]) (sp:=[.val 5 _,.val 6 _,.val 7 _,.val 8 _,.val 9 _,.sto 0]) [] hst (zv rfl rfl (r_move (gq 0 rfl)) (zv rfl rfl (r_call (xs:=[.tmp 5]) (rof_z hp hp1) (.cons (vq 0 rfl) .nil)) (zv rfl rfl (r_move (gq 1 rfl)) (zv rfl rfl (r_call (xs:=[.tmp 7]) (rof_z hq hq1) (.cons (vq 2 rfl) .nil)) (zv rfl rfl (r_call (xs:=[.tmp 6,.tmp 8]) (r2lowest_q zo zo h0) (.cons (vq 1 rfl) (.cons (vq 3 rfl) .nil))) (oc (ob_sto rfl rfl rfl (vq 4 rfl) ty_26 (Eq.trans (b:=4) rfl rfl)) o0)))))) (fun a w hst=>?_)
 have hst:St B w0 10 [] [⟨4,26,ptrH,_⟩] a w:=hst
 refine thn_normal ?_
 refine wp_ret ?_
 refine ret_wk ?_ (ret_cell rfl hst (zm 0 rfl) ty_26)
 exact wk_id
theorem r2one_q  : Cn Tryz.prog 168 [] (Qs 2 1):=by
 refine Cn.intro Tryz.func168 rfl zk nq (fun B w0 a hst=>?_)
 have hst:St B w0 2 [] [] a w0.w:=hst
 refine wp_seq ?_
 refine gl (sts:=[]) (news:=[⟨0,26,ptrH,some 0,_,none⟩]) (sp:=[.alc 0]) [] hst (oc (ob_alc rfl rfl rfl (Str.zero str_frac)) o0) (fun a w hst=>?_)
 have hst:St B w0 2 [] [⟨0,26,ptrH,_⟩] a w:=hst
 refine zt ?_
 refine gl (sts:=[some (1,_)]) (news:=[]) (sp:=[.val 1 _,.sto 0]) [] hst (zv rfl rfl (r_call (xs:=[.const (.int .i64 (1)),.const (.int .i64 (1))]) (r2small_q zd zd zd zd zd) (.cons has_num (.cons has_num .nil))) (oc (ob_sto rfl rfl rfl (vq 0 rfl) ty_26 (Eq.trans (b:=4) rfl rfl)) o0)) (fun a w hst=>?_)
 have hst:St B w0 2 [] [⟨0,26,ptrH,_⟩] a w:=hst
 refine thn_normal ?_
 refine wp_ret ?_
 refine ret_wk ?_ (ret_cell rfl hst (zm 0 rfl) ty_26)
 exact wk_eq (congrArg (Qs 2) (show Rat.divInt 1 1=1 from rfl))
theorem r2plus_q {c d:Nat} {x y:Rat} (hc:c+d≤900000000):Cn Tryz.prog 101 [Qs c x,Qs d y] (Qs (c+d+1) (x+y)):=by
 refine Cn.intro Tryz.func101 rfl zk nq (fun B w0 a hst=>?_)
 have hst:St B w0 24 [(0,Qs c x),(1,Qs d y)] [] a w0.w:=hst
 refine wp_seq ?_
 refine gl (sts:=[]) (news:=[⟨2,26,ptrH,some 0,_,none⟩,⟨3,26,ptrH,some 1,_,none⟩,⟨4,26,ptrH,some 2,_,none⟩]) (sp:=[.alc 0,.alc 1,.alc 2]) [] hst (oc (ob_box rfl rfl rfl (gq 0 rfl)) (oc (ob_box rfl rfl rfl (gq 1 rfl)) (oc (ob_alc rfl rfl rfl (Str.zero str_frac)) o0))) (fun a w hst=>?_)
 have hst:St B w0 24 [] [⟨2,26,ptrH,_⟩,⟨3,26,ptrH,_⟩,⟨4,26,ptrH,_⟩] a w:=hst
 refine zt ?_
 refine go_draw (anc:=[[],[0],[],[2],[0,1,2,3],[],[5],[],[7],[0,1,2,3,4,5,6,7,8],[0,1,2,3,4,5,6,7,8,9],[],[0,1,2,3,4,5,6,7,8,9,10,11]]) (sts:=[none,none,none]) (news:=[⟨5,24,ptrH,some 11,_,some (12,_)⟩]) (sp:=[.adr 6 2 (.some 0) True,.val 7 _,.adr 8 3 (.some 2) True,.val 9 _,.val 10 _,.adr 11 3 (.some 0) True,.val 12 _,.adr 13 2 (.some 2) True,.val 14 _,.val 15 _,.val 16 _,.alc 3,.sto 3]) [] follows_mixed hst (oc (ob_a rfl rfl (a_fld (lz0 0 rfl) fld_26_0)) (zv rfl rfl (r_loadf 0 rfl zk trivial (lz0 0 rfl) (Sub.part 0 rfl rfl) ty_24) (oc (ob_a rfl rfl (a_fld (lz0 1 rfl) fld_26_1)) (zv rfl rfl (r_loadf 2 rfl zk trivial (lz0 1 rfl) (Sub.part 1 rfl rfl) ty_24) (zv rfl rfl (r_call (xs:=[.tmp 7,.tmp 9]) (rtimes_z zo zo) (.cons (vq 1 rfl) (.cons (vq 3 rfl) .nil))) (oc (ob_a rfl rfl (a_fld (lz0 1 rfl) fld_26_0)) (zv rfl rfl (r_loadf 5 rfl zk trivial (lz0 1 rfl) (Sub.part 0 rfl rfl) ty_24) (oc (ob_a rfl rfl (a_fld (lz0 0 rfl) fld_26_1)) (zv rfl rfl (r_loadf 7 rfl zk trivial (lz0 0 rfl) (Sub.part 1 rfl rfl) ty_24) (zv rfl rfl (r_call (xs:=[.tmp 12,.tmp 14]) (rtimes_z zo zo) (.cons (vq 6 rfl) (.cons (vq 8 rfl) .nil))) (zv rfl rfl (r_call (xs:=[.tmp 10,.tmp 15]) (rplus_z zo zo) (.cons (vq 4 rfl) (.cons (vq 9 rfl) .nil))) (oc (ob_alc rfl rfl rfl (Str.zero str_int)) (oc (ob_sto rfl rfl rfl (vq 10 rfl) ty_24 (Eq.trans (b:=2) rfl rfl)) o0))))))))))))) zk zk zk zk (fun a w hst=>?_)
 have hst:St B w0 24 [] [⟨2,26,ptrH,_⟩,⟨3,26,ptrH,_⟩,⟨4,26,ptrH,_⟩,⟨5,24,ptrH,_⟩] a w:=hst
 refine zt ?_
 refine go_draw (anc:=[[],[],[1],[],[3],[1,2,3,4],[0,1,2,3,4,5],[0,1,2,3,4,5,6]]) (sts:=[none,none,some (7,_),none]) (news:=[]) (sp:=[.val 17 _,.adr 18 2 (.some 2) True,.val 19 _,.adr 20 3 (.some 2) True,.val 21 _,.val 22 _,.val 23 _,.sto 2]) [] follows_mixed hst (zv rfl rfl (r_load (lz0 3 rfl) ty_24) (oc (ob_a rfl rfl (a_fld (lz0 0 rfl) fld_26_1)) (zv rfl rfl (r_loadf 1 rfl zk trivial (lz0 0 rfl) (Sub.part 1 rfl rfl) ty_24) (oc (ob_a rfl rfl (a_fld (lz0 1 rfl) fld_26_1)) (zv rfl rfl (r_loadf 3 rfl zk trivial (lz0 1 rfl) (Sub.part 1 rfl rfl) ty_24) (zv rfl rfl (r_call (xs:=[.tmp 19,.tmp 21]) (rtimes_z zo zo) (.cons (vq 2 rfl) (.cons (vq 4 rfl) .nil))) (zv rfl rfl (r_call (xs:=[.tmp 17,.tmp 22]) (r2lowest_q zo zo (den_nz x y)) (.cons (vq 0 rfl) (.cons (vq 5 rfl) .nil))) (oc (ob_sto rfl rfl rfl (vq 6 rfl) ty_26 (Eq.trans (b:=4) rfl rfl)) o0)))))))) zk zk zk zk (fun a w hst=>?_)
 have hst:St B w0 24 [] [⟨2,26,ptrH,_⟩,⟨3,26,ptrH,_⟩,⟨4,26,ptrH,_⟩,⟨5,24,ptrH,_⟩] a w:=hst
 refine thn_normal ?_
 refine wp_ret ?_
 refine ret_wk ?_ (ret_cell rfl hst (zm 2 rfl) ty_26)
 exact wk_trans (wk_eq (congrArg (Qs _) (rat_add x y))) (qa_mono zo).va
theorem r2times_q {c d:Nat} {x y:Rat} (hc:c+d≤900000000):Cn Tryz.prog 100 [Qs c x,Qs d y] (Qs (c+d) (x*y)):=by
 refine Cn.intro Tryz.func100 rfl zk nq (fun B w0 a hst=>?_)
 have hst:St B w0 16 [(0,Qs c x),(1,Qs d y)] [] a w0.w:=hst
 refine wp_seq ?_
 refine gl (sts:=[]) (news:=[⟨2,26,ptrH,some 0,_,none⟩,⟨3,26,ptrH,some 1,_,none⟩,⟨4,26,ptrH,some 2,_,none⟩]) (sp:=[.alc 0,.alc 1,.alc 2]) [] hst (oc (ob_box rfl rfl rfl (gq 0 rfl)) (oc (ob_box rfl rfl rfl (gq 1 rfl)) (oc (ob_alc rfl rfl rfl (Str.zero str_frac)) o0))) (fun a w hst=>?_)
 have hst:St B w0 16 [] [⟨2,26,ptrH,_⟩,⟨3,26,ptrH,_⟩,⟨4,26,ptrH,_⟩] a w:=hst
 refine zt ?_
 refine go_draw (anc:=[[],[0],[],[2],[0,1,2,3],[],[5],[],[7],[0,1,2,3,4,5,6,7,8],[0,1,2,3,4,5,6,7,8,9],[0,1,2,3,4,5,6,7,8,9,10]]) (sts:=[none,none,some (11,_)]) (news:=[]) (sp:=[.adr 5 2 (.some 0) True,.val 6 _,.adr 7 3 (.some 0) True,.val 8 _,.val 9 _,.adr 10 2 (.some 2) True,.val 11 _,.adr 12 3 (.some 2) True,.val 13 _,.val 14 _,.val 15 _,.sto 2]) [] follows_mixed hst (oc (ob_a rfl rfl (a_fld (lz0 0 rfl) fld_26_0)) (zv rfl rfl (r_loadf 0 rfl zk trivial (lz0 0 rfl) (Sub.part 0 rfl rfl) ty_24) (oc (ob_a rfl rfl (a_fld (lz0 1 rfl) fld_26_0)) (zv rfl rfl (r_loadf 2 rfl zk trivial (lz0 1 rfl) (Sub.part 0 rfl rfl) ty_24) (zv rfl rfl (r_call (xs:=[.tmp 6,.tmp 8]) (rtimes_z zo zo) (.cons (vq 1 rfl) (.cons (vq 3 rfl) .nil))) (oc (ob_a rfl rfl (a_fld (lz0 0 rfl) fld_26_1)) (zv rfl rfl (r_loadf 5 rfl zk trivial (lz0 0 rfl) (Sub.part 1 rfl rfl) ty_24) (oc (ob_a rfl rfl (a_fld (lz0 1 rfl) fld_26_1)) (zv rfl rfl (r_loadf 7 rfl zk trivial (lz0 1 rfl) (Sub.part 1 rfl rfl) ty_24) (zv rfl rfl (r_call (xs:=[.tmp 11,.tmp 13]) (rtimes_z zo zo) (.cons (vq 6 rfl) (.cons (vq 8 rfl) .nil))) (zv rfl rfl (r_call (xs:=[.tmp 9,.tmp 14]) (r2lowest_q zo zo (den_nz x y)) (.cons (vq 4 rfl) (.cons (vq 9 rfl) .nil))) (oc (ob_sto rfl rfl rfl (vq 10 rfl) ty_26 (Eq.trans (b:=4) rfl rfl)) o0)))))))))))) zk zk zk zk (fun a w hst=>?_)
 have hst:St B w0 16 [] [⟨2,26,ptrH,_⟩,⟨3,26,ptrH,_⟩,⟨4,26,ptrH,_⟩] a w:=hst
 refine thn_normal ?_
 refine wp_ret ?_
 refine ret_wk ?_ (ret_cell rfl hst (zm 2 rfl) ty_26)
 exact wk_trans (wk_eq (congrArg (Qs _) (rat_mul x y))) (qa_mono zo).va
theorem r2over_q {c d:Nat} {x y:Rat} (hc:c+d≤900000000) (h0:y≠0):Cn Tryz.prog 103 [Qs c x,Qs d y] (Qs (c+d) (x / y)):=by
 refine Cn.intro Tryz.func103 rfl zk nq (fun B w0 a hst=>?_)
 have hst:St B w0 16 [(0,Qs c x),(1,Qs d y)] [] a w0.w:=hst
 refine wp_seq ?_
 refine gl (sts:=[]) (news:=[⟨2,26,ptrH,some 0,_,none⟩,⟨3,26,ptrH,some 1,_,none⟩,⟨4,26,ptrH,some 2,_,none⟩]) (sp:=[.alc 0,.alc 1,.alc 2]) [] hst (oc (ob_box rfl rfl rfl (gq 0 rfl)) (oc (ob_box rfl rfl rfl (gq 1 rfl)) (oc (ob_alc rfl rfl rfl (Str.zero str_frac)) o0))) (fun a w hst=>?_)
 have hst:St B w0 16 [] [⟨2,26,ptrH,_⟩,⟨3,26,ptrH,_⟩,⟨4,26,ptrH,_⟩] a w:=hst
 refine zt ?_
 refine go_draw (anc:=[[],[0],[],[2],[0,1,2,3],[],[5],[],[7],[0,1,2,3,4,5,6,7,8],[0,1,2,3,4,5,6,7,8,9],[0,1,2,3,4,5,6,7,8,9,10]]) (sts:=[none,none,some (11,_)]) (news:=[]) (sp:=[.adr 5 2 (.some 0) True,.val 6 _,.adr 7 3 (.some 2) True,.val 8 _,.val 9 _,.adr 10 2 (.some 2) True,.val 11 _,.adr 12 3 (.some 0) True,.val 13 _,.val 14 _,.val 15 _,.sto 2]) [] follows_mixed hst (oc (ob_a rfl rfl (a_fld (lz0 0 rfl) fld_26_0)) (zv rfl rfl (r_loadf 0 rfl zk trivial (lz0 0 rfl) (Sub.part 0 rfl rfl) ty_24) (oc (ob_a rfl rfl (a_fld (lz0 1 rfl) fld_26_1)) (zv rfl rfl (r_loadf 2 rfl zk trivial (lz0 1 rfl) (Sub.part 1 rfl rfl) ty_24) (zv rfl rfl (r_call (xs:=[.tmp 6,.tmp 8]) (rtimes_z zo zo) (.cons (vq 1 rfl) (.cons (vq 3 rfl) .nil))) (oc (ob_a rfl rfl (a_fld (lz0 0 rfl) fld_26_1)) (zv rfl rfl (r_loadf 5 rfl zk trivial (lz0 0 rfl) (Sub.part 1 rfl rfl) ty_24) (oc (ob_a rfl rfl (a_fld (lz0 1 rfl) fld_26_0)) (zv rfl rfl (r_loadf 7 rfl zk trivial (lz0 1 rfl) (Sub.part 0 rfl rfl) ty_24) (zv rfl rfl (r_call (xs:=[.tmp 11,.tmp 13]) (rtimes_z zo zo) (.cons (vq 6 rfl) (.cons (vq 8 rfl) .nil))) (zv rfl rfl (r_call (xs:=[.tmp 9,.tmp 14]) (r2lowest_q zo zo (num_nz x h0)) (.cons (vq 4 rfl) (.cons (vq 9 rfl) .nil))) (oc (ob_sto rfl rfl rfl (vq 10 rfl) ty_26 (Eq.trans (b:=4) rfl rfl)) o0)))))))))))) zk zk zk zk (fun a w hst=>?_)
 have hst:St B w0 16 [] [⟨2,26,ptrH,_⟩,⟨3,26,ptrH,_⟩,⟨4,26,ptrH,_⟩] a w:=hst
 refine thn_normal ?_
 refine wp_ret ?_
 refine ret_wk ?_ (ret_cell rfl hst (zm 2 rfl) ty_26)
 exact wk_trans (wk_eq (congrArg (Qs _) (rat_div x y))) (qa_mono zo).va
theorem neg_wk {c:Nat} {x:Rat}:WkA (cat [ZA c (-x.num),ZA c (x.den:Int)]) (QA c (-x)):=wkA_eq (by unfold QA; rw [Rat.neg_num,Rat.neg_den])
theorem r2turned_q {c:Nat} {x:Rat} (hc:c≤900000000):Cn Tryz.prog 167 [Qs c x] (Qs c (-x)):=by
 refine Cn.intro Tryz.func167 rfl zk nq (fun B w0 a hst=>?_)
 have hst:St B w0 9 [(0,Qs c x)] [] a w0.w:=hst
 refine wp_seq ?_
 refine gl (sts:=[]) (news:=[⟨1,26,ptrH,some 0,_,none⟩,⟨2,26,ptrH,some 1,_,none⟩]) (sp:=[.alc 0,.alc 1]) [] hst (oc (ob_box rfl rfl rfl (gq 0 rfl)) (oc (ob_alc rfl rfl rfl (Str.zero str_frac)) o0)) (fun a w hst=>?_)
 have hst:St B w0 9 [] [⟨1,26,ptrH,_⟩,⟨2,26,ptrH,_⟩] a w:=hst
 refine zt ?_
 refine go_draw (anc:=[[],[0],[0,1],[],[3],[0,1,2,3,4],[0,1,2,3,4,5]]) (sts:=[none,some (6,_)]) (news:=[]) (sp:=[.adr 3 1 (.some 0) True,.val 4 _,.val 5 _,.adr 6 1 (.some 2) True,.val 7 _,.val 8 _,.sto 1]) [] follows_mixed hst (oc (ob_a rfl rfl (a_fld (lz0 0 rfl) fld_26_0)) (zv rfl rfl (r_loadf 0 rfl zk trivial (lz0 0 rfl) (Sub.part 0 rfl rfl) ty_24) (zv rfl rfl (r_call (xs:=[.tmp 4]) (r2turned_z zo) (.cons (vq 1 rfl) .nil)) (oc (ob_a rfl rfl (a_fld (lz0 0 rfl) fld_26_1)) (zv rfl rfl (r_loadf 3 rfl zk trivial (lz0 0 rfl) (Sub.part 1 rfl rfl) ty_24) (zv rfl rfl (r_build (xs:=[(0,.tmp 5),(1,.tmp 7)]) (qs:=[(0,_),(1,_)]) str_frac (.cons ⟨rfl,(vq 2 rfl),rfl⟩ (.cons ⟨rfl,(vq 4 rfl),rfl⟩ .nil))) (oc (ob_sto rfl rfl rfl (vq 5 rfl) ty_26 (Eq.trans (b:=4) rfl rfl)) o0))))))) zk zk zk zk (fun a w hst=>?_)
 have hst:St B w0 9 [] [⟨1,26,ptrH,_⟩,⟨2,26,ptrH,_⟩] a w:=hst
 refine thn_normal ?_
 refine wp_ret ?_
 refine ret_wk ?_ (ret_cell rfl hst (zm 1 rfl) ty_26)
 exact neg_wk.va
theorem r2minus_q {c d:Nat} {x y:Rat} (hc:c+d≤900000000):Cn Tryz.prog 104 [Qs c x,Qs d y] (Qs (c+d+1) (x - y)):=by
 refine Cn.intro Tryz.func104 rfl zk nq (fun B w0 a hst=>?_)
 have hst:St B w0 9 [(0,Qs c x),(1,Qs d y)] [] a w0.w:=hst
 refine wp_seq ?_
 refine gl (sts:=[]) (news:=[⟨2,26,ptrH,some 0,_,none⟩,⟨3,26,ptrH,some 1,_,none⟩,⟨4,26,ptrH,some 2,_,none⟩]) (sp:=[.alc 0,.alc 1,.alc 2]) [] hst (oc (ob_box rfl rfl rfl (gq 0 rfl)) (oc (ob_box rfl rfl rfl (gq 1 rfl)) (oc (ob_alc rfl rfl rfl (Str.zero str_frac)) o0))) (fun a w hst=>?_)
 have hst:St B w0 9 [] [⟨2,26,ptrH,_⟩,⟨3,26,ptrH,_⟩,⟨4,26,ptrH,_⟩] a w:=hst
 refine zt ?_
 refine go_draw (anc:=[[],[],[1],[0,1,2],[0,1,2,3]]) (sts:=[none,none,some (4,_)]) (news:=[]) (sp:=[.val 5 _,.val 6 _,.val 7 _,.val 8 _,.sto 2]) [] follows_mixed hst (zv rfl rfl (r_load (lz0 0 rfl) ty_26) (zv rfl rfl (r_load (lz0 1 rfl) ty_26) (zv rfl rfl (r_call (xs:=[.tmp 6]) (r2turned_q zo) (.cons (vq 1 rfl) .nil)) (zv rfl rfl (r_call (xs:=[.tmp 5,.tmp 7]) (r2plus_q zo) (.cons (vq 0 rfl) (.cons (vq 2 rfl) .nil))) (oc (ob_sto rfl rfl rfl (vq 3 rfl) ty_26 (Eq.trans (b:=4) rfl rfl)) o0))))) zk zk zk zk (fun a w hst=>?_)
 have hst:St B w0 9 [] [⟨2,26,ptrH,_⟩,⟨3,26,ptrH,_⟩,⟨4,26,ptrH,_⟩] a w:=hst
 refine thn_normal ?_
 refine wp_ret ?_
 refine ret_wk ?_ (ret_cell rfl hst (zm 2 rfl) ty_26)
 exact wk_eq (congrArg (Qs _) (show x + -y=x - y by grind))
theorem cm_sgn (x y:Rat):(x.num*(y.den:Int) - y.num*(x.den:Int)).sign=cmQ x y:=by
 rw [← cm_sg,sgn_c]
 unfold sg3
 generalize x.num*(y.den:Int)=u
 generalize y.num*(x.den:Int)=v
 by_cases h1:u<v
 ·rw [if_pos zo,if_pos h1]
 ·by_cases h2:v<u
  ·rw [if_neg zo,if_neg zo,if_neg h1,if_pos h2]
  ·rw [if_neg zo,if_pos zo,if_neg h1,if_neg h2]
theorem r2cmp_q {c d:Nat} {x y:Rat} (hc:c+d≤900000000):Cn Tryz.prog 248 [Qs c x,Qs d y] (In (cmQ x y)):=by
 refine Cn.intro Tryz.func248 rfl zk nq (fun B w0 a hst=>?_)
 have hst:St B w0 19 [(0,Qs c x),(1,Qs d y)] [] a w0.w:=hst
 refine wp_seq ?_
 refine gl (sts:=[]) (news:=[⟨2,26,ptrH,some 0,_,none⟩,⟨3,26,ptrH,some 1,_,none⟩]) (sp:=[.alc 0,.alc 1,.val 4 _]) [.o 2] hst (oc (ob_box rfl rfl rfl (gq 0 rfl)) (oc (ob_box rfl rfl rfl (gq 1 rfl)) (zv rfl rfl (r_assign has_num) o0))) (fun a w hst=>?_)
 have hst:St B w0 19 [(4,_)] [⟨2,26,ptrH,_⟩,⟨3,26,ptrH,_⟩] a w:=hst
 refine zt ?_
 refine go_draw (anc:=[[],[0],[],[2],[0,1,2,3],[],[5],[],[7],[0,1,2,3,4,5,6,7,8],[0,1,2,3,4,5,6,7,8,9],[],[0,1,2,3,4,5,6,7,8,9,10,11]]) (sts:=[none,none]) (news:=[⟨5,24,ptrH,some 11,_,some (12,_)⟩]) (sp:=[.adr 6 2 (.some 0) True,.val 7 _,.adr 8 3 (.some 2) True,.val 9 _,.val 10 _,.adr 11 3 (.some 0) True,.val 12 _,.adr 13 2 (.some 2) True,.val 14 _,.val 15 _,.val 16 _,.alc 2,.sto 2]) [.g 0] follows_mixed hst (oc (ob_a rfl rfl (a_fld (lz0 0 rfl) fld_26_0)) (zv rfl rfl (r_loadf 0 rfl zk trivial (lz0 0 rfl) (Sub.part 0 rfl rfl) ty_24) (oc (ob_a rfl rfl (a_fld (lz0 1 rfl) fld_26_1)) (zv rfl rfl (r_loadf 2 rfl zk trivial (lz0 1 rfl) (Sub.part 1 rfl rfl) ty_24) (zv rfl rfl (r_call (xs:=[.tmp 7,.tmp 9]) (rtimes_z zo zo) (.cons (vq 1 rfl) (.cons (vq 3 rfl) .nil))) (oc (ob_a rfl rfl (a_fld (lz0 1 rfl) fld_26_0)) (zv rfl rfl (r_loadf 5 rfl zk trivial (lz0 1 rfl) (Sub.part 0 rfl rfl) ty_24) (oc (ob_a rfl rfl (a_fld (lz0 0 rfl) fld_26_1)) (zv rfl rfl (r_loadf 7 rfl zk trivial (lz0 0 rfl) (Sub.part 1 rfl rfl) ty_24) (zv rfl rfl (r_call (xs:=[.tmp 12,.tmp 14]) (rtimes_z zo zo) (.cons (vq 6 rfl) (.cons (vq 8 rfl) .nil))) (zv rfl rfl (r_call (xs:=[.tmp 10,.tmp 15]) (rminus_z zo zo) (.cons (vq 4 rfl) (.cons (vq 9 rfl) .nil))) (oc (ob_alc rfl rfl rfl (Str.zero str_int)) (oc (ob_sto rfl rfl rfl (vq 10 rfl) ty_24 (Eq.trans (b:=2) rfl rfl)) o0))))))))))))) zk zk zk zk (fun a w hst=>?_)
 have hst:St B w0 19 [(4,_)] [⟨2,26,ptrH,_⟩,⟨3,26,ptrH,_⟩,⟨5,24,ptrH,_⟩] a w:=hst
 refine zt ?_
 refine gl (sts:=[none,none,none]) (news:=[]) (sp:=[.val 17 _,.val 18 _,.val 4 _]) [.o 2] hst (zv rfl rfl (r_load (lz0 2 rfl) ty_24) (zv rfl rfl (r_call (xs:=[.tmp 17]) rsign_z (.cons (vq 0 rfl) .nil)) (zv rfl rfl (r_assign (vq 1 rfl)) o0))) (fun a w hst=>?_)
 have hst:St B w0 19 [(4,_)] [⟨2,26,ptrH,_⟩,⟨3,26,ptrH,_⟩,⟨5,24,ptrH,_⟩] a w:=hst
 refine thn_normal ?_
 refine wp_ret ?_
 refine ret_wk ?_ (ret_tmp rfl hst (zm 0 rfl))
 exact wk_eq (congrArg In (cm_sgn x y))
theorem r2sign_q {c:Nat} {x:Rat}:Cn Tryz.prog 165 [Qs c x] (In x.num.sign):=by
 refine Cn.intro Tryz.func165 rfl zk nq (fun B w0 a hst=>?_)
 have hst:St B w0 6 [(0,Qs c x)] [] a w0.w:=hst
 refine wp_seq ?_
 refine gl (sts:=[]) (news:=[⟨1,26,ptrH,some 0,_,none⟩]) (sp:=[.alc 0,.val 2 _]) [.o 1] hst (oc (ob_box rfl rfl rfl (gq 0 rfl)) (zv rfl rfl (r_assign has_num) o0)) (fun a w hst=>?_)
 have hst:St B w0 6 [(2,_)] [⟨1,26,ptrH,_⟩] a w:=hst
 refine zt ?_
 refine gl (sts:=[none]) (news:=[]) (sp:=[.adr 3 1 (.some 0) True,.val 4 _,.val 5 _,.val 2 _]) [.o 3] hst (oc (ob_a rfl rfl (a_fld (lz0 0 rfl) fld_26_0)) (zv rfl rfl (r_loadf 0 rfl zk trivial (lz0 0 rfl) (Sub.part 0 rfl rfl) ty_24) (zv rfl rfl (r_call (xs:=[.tmp 4]) rsign_z (.cons (vq 1 rfl) .nil)) (zv rfl rfl (r_assign (vq 2 rfl)) o0)))) (fun a w hst=>?_)
 have hst:St B w0 6 [(2,_)] [⟨1,26,ptrH,_⟩] a w:=hst
 refine thn_normal ?_
 refine wp_ret ?_
 refine ret_wk ?_ (ret_tmp rfl hst (zm 0 rfl))
 exact wk_id
theorem r2same_q {c d:Nat} {x y:Rat} (hc:c+d≤900000000):Cn Tryz.prog 295 [Qs c x,Qs d y] (Bo (cmQ x y == 0)):=by
 refine Cn.intro Tryz.func295 rfl zk nq (fun B w0 a hst=>?_)
 have hst:St B w0 9 [(0,Qs c x),(1,Qs d y)] [] a w0.w:=hst
 refine wp_seq ?_
 refine gl (sts:=[]) (news:=[⟨2,26,ptrH,some 0,_,none⟩,⟨3,26,ptrH,some 1,_,none⟩]) (sp:=[.alc 0,.alc 1,.val 4 _]) [.o 2] hst (oc (ob_box rfl rfl rfl (gq 0 rfl)) (oc (ob_box rfl rfl rfl (gq 1 rfl)) (zv rfl rfl (r_assign has_bo) o0))) (fun a w hst=>?_)
 have hst:St B w0 9 [(4,_)] [⟨2,26,ptrH,_⟩,⟨3,26,ptrH,_⟩] a w:=hst
 refine zt ?_
 refine gl (sts:=[none,none]) (news:=[]) (sp:=[.val 5 _,.val 6 _,.val 7 _,.val 8 _,.val 4 _]) [.o 4] hst (zv rfl rfl (r_load (lz0 0 rfl) ty_26) (zv rfl rfl (r_load (lz0 1 rfl) ty_26) (zv rfl rfl (r_call (xs:=[.tmp 5,.tmp 6]) (r2cmp_q zo) (.cons (vq 0 rfl) (.cons (vq 1 rfl) .nil))) (zv rfl rfl (r_eql (vq 2 rfl) has_num) (zv rfl rfl (r_assign (vq 3 rfl)) o0))))) (fun a w hst=>?_)
 have hst:St B w0 9 [(4,_)] [⟨2,26,ptrH,_⟩,⟨3,26,ptrH,_⟩] a w:=hst
 refine thn_normal ?_
 refine wp_ret ?_
 refine ret_wk ?_ (ret_tmp rfl hst (zm 0 rfl))
 exact wk_id
theorem rchk1 {g:Nat} (h:decide ((1:Int)<((g:Nat):Int))=true):g≠1:=by have:=of_decide_eq_true h; omega
theorem rchk2 {g:Nat} (h:decide ((1:Int)<((g:Nat):Int))=false) (h0:g≠0):g=1:=by have:=of_decide_eq_false h; omega
theorem r2checkF_c (xn xd:RI):Cn Tryz.prog 296 [(RFA ⟨xn,xd⟩).va] (In (if okF ⟨xn,xd⟩ then 0 else 1)):=by
 refine Cn.intro Tryz.func296 rfl zk nq (fun B w0 a hst=>?_)
 have hst:St B w0 28 [(0,(RFA ⟨xn,xd⟩).va)] [] a w0.w:=hst
 have hok:=rf_know (hst.vals (0,(RFA ⟨xn,xd⟩).va) (zm 0 rfl))
 refine wp_seq ?_
 refine gl (sts:=[]) (news:=[⟨1,26,ptrH,some 0,_,none⟩]) (sp:=[.alc 0,.val 2 _]) [.o 1] hst (oc (ob_box rfl rfl rfl (gq 0 rfl)) (zv rfl rfl (r_assign has_num) o0)) (fun a w hst=>?_)
 have hst:St B w0 28 [(2,_)] [⟨1,26,ptrH,_⟩] a w:=hst
 refine zt ?_
 refine wp_seq ?_
 refine gl (sts:=[none]) (news:=[]) (sp:=[.adr 4 1 (.some 0) True,.val 5 _,.val 6 _,.val 7 _,.val 8 _,.adr 9 1 (.some 2) (_=false),.val 10 (Wh (_=false) _),.val 11 (Wh (_=false) _),.val 12 (Wh (_=false) _),.val 13 _,.val 14 _,.adr 15 1 (.some 2) (_=false),.val 16 (Wh (_=false) _),.val 17 (Wh (_=false) _),.val 18 (Wh (_=false) _),.val 19 _]) [.g 0,.o 15] hst (oc (ob_a rfl rfl (a_fld (lz0 0 rfl) fld_26_0)) (zv rfl rfl (r_loadf 0 rfl zk trivial (lz0 0 rfl) (Sub.part 0 rfl rfl) ty_24) (zv rfl rfl (r_call (xs:=[.tmp 5]) (rcheck_c _) (.cons (vq 1 rfl) .nil)) (zv rfl rfl (r_neq (vq 2 rfl) has_num) (zv rfl rfl (r_move (vq 3 rfl)) (oc (ob_ag rfl rfl rfl (vq 4 rfl) nq (fun hg=>a_fld (lz0 0 rfl) fld_26_1)) (oc (ob_gd rfl rfl rfl (vq 4 rfl) nq (fun hg=>r_loadf 5 rfl zk hg (lz0 0 rfl) (Sub.part 1 rfl rfl) ty_24)) (oc (ob_gd rfl rfl rfl (vq 4 rfl) nq (fun hg=>r_call (xs:=[.tmp 10]) (rcheck_c _) (.cons (has_wh (vq 6 rfl) hg) .nil))) (oc (ob_gd rfl rfl rfl (vq 4 rfl) nq (fun hg=>r_neq (has_wh (vq 7 rfl) hg) has_num)) (zv rfl rfl (r_or (vq 4 rfl) (vq 8 rfl)) (zv rfl rfl (r_move (vq 9 rfl)) (oc (ob_ag rfl rfl rfl (vq 10 rfl) nq (fun hg=>a_fld (lz0 0 rfl) fld_26_1)) (oc (ob_gd rfl rfl rfl (vq 10 rfl) nq (fun hg=>r_loadf 11 rfl zk hg (lz0 0 rfl) (Sub.part 1 rfl rfl) ty_24)) (oc (ob_gd rfl rfl rfl (vq 10 rfl) nq (fun hg=>r_call (xs:=[.tmp 16]) (rsign_c _) (.cons (has_wh (vq 12 rfl) hg) .nil))) (oc (ob_gd rfl rfl rfl (vq 10 rfl) nq (fun hg=>r_leq (has_wh (vq 13 rfl) hg) has_num)) (zv rfl rfl (r_or (vq 10 rfl) (vq 14 rfl)) o0)))))))))))))))) (fun a w hst=>?_)
 have hst:St B w0 28 [(2,_),(19,_)] [⟨1,26,ptrH,_⟩] a w:=hst
 refine thn_normal ?_
 refine cond_of hst (zm 1 rfl) (fun hb0=>?_) (fun hb0=>?_)
 ·refine wp_seq ?_
  refine gl (sts:=[none]) (news:=[]) (sp:=[.val 2 _]) [.o 0] hst (zv rfl rfl (r_assign has_num) o0) (fun a w hst=>?_)
  have hst:St B w0 28 [(2,_)] [⟨1,26,ptrH,_⟩] a w:=hst
  refine thn_normal ?_
  refine wp_ret ?_
  refine thn_ret ?_
  refine ret_wk ?_ (ret_tmp rfl hst (zm 0 rfl))
  exact wk_eq (congrArg In (chk_no hb0))
 ·rw [Bool.or_eq_false_iff,Bool.or_eq_false_iff] at hb0
  obtain ⟨p,rfl,hp⟩:=okRI_z hok.1 (ok1 hb0.1.1)
  obtain ⟨q,rfl,hq⟩:=okRI_z hok.2 (ok1 hb0.1.2)
  have hq0:0<sgI (riOf q):=by have h2:¬ sgI (riOf q)≤0:=of_decide_eq_false hb0.2; omega
  have hqn:q≠0:=fun e=>by rw [e,sgI_ri] at hq0; exact absurd hq0 zd
  have hgn:Int.gcd p q≠0:=by have:=Int.gcd_pos_of_ne_zero_right p hqn; omega
  refine wp_skip ?_
  refine zt ?_
  refine gl (sts:=[none]) (news:=[⟨3,24,ptrH,some 5,_,some (6,_)⟩]) (sp:=[.adr 20 1 (.some 0) True,.val 21 _,.adr 22 1 (.some 2) True,.val 23 _,.val 24 _,.alc 1,.sto 1]) [.g 0] hst (oc (ob_a rfl rfl (a_fld (lz0 0 rfl) fld_26_0)) (zv rfl rfl (r_loadf 0 rfl zk trivial (lz0 0 rfl) (Sub.part 0 rfl rfl) ty_24) (oc (ob_a rfl rfl (a_fld (lz0 0 rfl) fld_26_1)) (zv rfl rfl (r_loadf 2 rfl zk trivial (lz0 0 rfl) (Sub.part 1 rfl rfl) ty_24) (zv rfl rfl (r_call (xs:=[.tmp 21,.tmp 23]) (r2commonZ_c p q zo zo) (.cons (vq 1 rfl) (.cons (vq 3 rfl) .nil))) (oc (ob_alc rfl rfl rfl (Str.zero str_int)) (oc (ob_sto rfl rfl rfl (vq 4 rfl) ty_24 (Eq.trans (b:=2) rfl rfl)) o0))))))) (fun a w hst=>?_)
  have hst:St B w0 28 [(2,_)] [⟨1,26,ptrH,_⟩,⟨3,24,ptrH,_⟩] a w:=hst
  refine zt ?_
  refine wp_seq ?_
  refine go_draw (anc:=[[],[],[0,1]]) (sts:=[none,none]) (news:=[]) (sp:=[.val 25 _,.val 26 _,.val 27 _]) [.g 0,.o 2] follows_mixed hst (zv rfl rfl (r_call (xs:=[.const (.int .i64 (1))]) (rof_c 1 zd zd) (.cons has_num .nil)) (zv rfl rfl (r_load (lz0 1 rfl) ty_24) (zv rfl rfl (r_call (xs:=[.tmp 25,.tmp 26]) (rbelow_c _ _) (.cons (vq 0 rfl) (.cons (vq 1 rfl) .nil))) o0))) zk zk zk zk (fun a w hst=>?_)
  have hst:St B w0 28 [(2,_),(27,_)] [⟨1,26,ptrH,_⟩,⟨3,24,ptrH,_⟩] a w:=hst
  refine thn_normal ?_
  refine cond_of hst (zm 1 rfl) (fun hb1=>?_) (fun hb1=>?_)
  ·refine wp_seq ?_
   refine gl (sts:=[none,none]) (news:=[]) (sp:=[.val 2 _]) [.o 0] hst (zv rfl rfl (r_assign has_num) o0) (fun a w hst=>?_)
   have hst:St B w0 28 [(2,_)] [⟨1,26,ptrH,_⟩,⟨3,24,ptrH,_⟩] a w:=hst
   refine thn_normal ?_
   refine wp_ret ?_
   refine thn_ret ?_
   refine ret_wk ?_ (ret_tmp rfl hst (zm 0 rfl))
   have e1:=rchk1 hb1; exact wk_eq (congrArg In (by rw [show okF ⟨riOf p,riOf q⟩=false from by unfold okF; rw [val_ri,val_ri]; simp [show ¬ Nat.gcd p.natAbs q.natAbs=1 from e1]]; rfl))
  ·refine wp_skip ?_
   refine zt ?_
   refine gl (sts:=[none,none]) (news:=[]) (sp:=[.val 2 _]) [.o 0] hst (zv rfl rfl (r_assign has_num) o0) (fun a w hst=>?_)
   have hst:St B w0 28 [(2,_)] [⟨1,26,ptrH,_⟩,⟨3,24,ptrH,_⟩] a w:=hst
   refine thn_normal ?_
   refine wp_ret ?_
   refine ret_wk ?_ (ret_tmp rfl hst (zm 0 rfl))
   have e1:=rchk2 hb1 hgn; exact wk_eq (congrArg In (by rw [show okF ⟨riOf p,riOf q⟩=true from by unfold okF; rw [val_ri,val_ri,ok1 hb0.1.1,ok1 hb0.1.2]; simp [hq0,show Nat.gcd p.natAbs q.natAbs=1 from e1]]; rfl))
theorem ex_r2check : ∃ fn, Tryz.prog.funcs[296]? = some fn ∧ (fn.name == "runtime.NumGoroutine") = false ∧ fn.body.isNone = false := ⟨_, Tryz.func296, by kernel_rfl, by kernel_rfl⟩
theorem r2check_x (x:RF):Cn Tryz.prog 296 [(RFA x).va] (In (if okX x then 0 else 1)) :=
 Cn.know (c:=okL x.num.mag∧okL x.den.mag) ex_r2check (fun B w args ha=>by cases ha with | cons h1 _=>exact rf_know h1) fun h=>(r2checkF_c x.num x.den).post (by rw [okX_know h])
theorem r2checks_c (xs:List RF) (hl:xs.length≤1099511627776):Cn Tryz.prog 164 [(SlA 26 [U32] (xs.map RFA)).va] (Bo (xs.all okX)):=by
 refine Cn.introW Tryz.func164 rfl zk nq (.cons (up_sl (fun A hA=>by obtain ⟨x,_,rfl⟩:=List.mem_map.1 hA; exact upA_rf x)).va .nil) (free_bo _).va (fun B w0 a hB0 hst=>?_)
 have hst:St B w0 16 [(0,(SlO 26 [U32] (xs.map RFA) True).va)] [] a w0.w:=hst
 refine wp_seq ?_
 refine gl (sts:=[]) (news:=[]) (sp:=[.val 2 _]) [.g 0,.o 0] hst (zv rfl rfl (r_assign has_bo) o0) (fun a w hst=>?_)
 have hst:St B w0 16 [(0,_),(2,_)] [] a w:=hst
 refine zt ?_
 refine wp_seq ?_
 refine gl (sts:=[]) (news:=[]) (sp:=[.val 3 _]) [.g 0,.g 1,.o 0] hst (zv rfl rfl (r_assign has_num) o0) (fun a w hst=>?_)
 have hst:St B w0 16 [(0,_),(2,_),(3,_)] [] a w:=hst
 refine thn_normal ?_
 refine wp_block ?_
 have hst:=St.sel hst [0,2]
 refine wp_loop_ghost (fun n a w=>∃ j:Nat,(n+j=xs.length∧(xs.take j).all okX=true)∧St B w0 16 [(0,(SlO 26 [U32] (xs.map RFA) True).va),(3,In (j:Nat))] [] a w) (xs.length) ?_ ?_
 ·exact ⟨0,⟨by omega,rfl⟩,hst⟩
 intro n a w hI
 obtain ⟨j,⟨hn,hno⟩,hst⟩:=hI
 refine wp_seq ?_
 refine wp_seq ?_
 refine gl (sts:=[]) (news:=[]) (sp:=[.val 4 _,.val 5 _,.val 6 _,.val 7 _]) [.g 0,.g 1,.o 3] hst (zv rfl rfl (r_move (gq 1 rfl)) (zv rfl rfl (r_move (gq 0 rfl)) (zv rfl rfl (r_len Tryz.underlying142 (has_and (has_old (vq 1 rfl)))) (zv rfl rfl (r_lss (vq 0 rfl) (vq 2 rfl)) o0)))) (fun a w hst=>?_)
 have hst:St B w0 16 [(0,_),(3,_),(7,_)] [] a w:=hst
 refine thn_normal ?_
 refine cond_of hst (zm 2 rfl) (fun hb0=>?_) (fun hb0=>?_)
 ·have hj:j<xs.length:=by simp at hb0; omega
  refine wp_skip ?_
  refine zt ?_
  refine wp_block ?_
  refine wp_seq ?_
  refine gl (sts:=[]) (news:=[]) (sp:=[.val 10 _,.val 11 _,.val 12 _,.val 13 _,.val 14 _,.val 15 _]) [.g 0,.g 1,.o 5] hst (zv rfl rfl (r_move (gq 0 rfl)) (zv rfl rfl (r_move (gq 1 rfl)) (zv rfl rfl (r_idx sl_142 (map_n fun _=>rfl) (has_and (has_old (vq 0 rfl))) (vq 1 rfl) (map_at hj)) (zv rfl rfl (r_loade (vq 2 rfl) ty_26) (zv rfl rfl (r_call (xs:=[.tmp 13]) (r2check_x _) (.cons (vq 3 rfl) .nil)) (zv rfl rfl (r_neq (vq 4 rfl) has_num) o0)))))) (fun a w hst=>?_)
  have hst:St B w0 16 [(0,_),(3,_),(15,_)] [] a w:=hst
  refine thn_normal ?_
  refine cond_of hst (zm 2 rfl) (fun hb1=>?_) (fun hb1=>?_)
  ·refine wp_seq ?_
   refine gl (sts:=[]) (news:=[]) (sp:=[.val 2 _]) [.g 0,.g 1,.o 0] hst (zv rfl rfl (r_assign has_bo) o0) (fun a w hst=>?_)
   have hst:St B w0 16 [(0,_),(3,_),(2,_)] [] a w:=hst
   refine thn_normal ?_
   refine wp_ret ?_
   refine blk_ret ?_
   refine thn_ret ?_
   refine thn_ret ?_
   refine blk_ret ?_
   refine thn_ret ?_
   refine ret_cast ?_ (ret_tmp rfl hst (zm 2 rfl))
   rw [← ok_no hj hb1]
  ·refine wp_skip ?_
   refine blk_normal ?_
   refine thn_normal ?_
   refine gl (sts:=[]) (news:=[]) (sp:=[.val 8 _,.val 9 _,.val 3 _]) [.g 0,.o 2] hst (zv rfl rfl (r_move (gq 1 rfl)) (zv rfl rfl (r_add (vq 0 rfl) has_num (wi_succ zo)) (zv rfl rfl (r_assign (vq 1 rfl)) o0))) (fun a w hst=>?_)
   have hst:St B w0 16 [(0,_),(3,_)] [] a w:=hst
   refine thn_normal ?_
   have hst:=St.sel hst [0,1]
   exact ⟨n - 1,by omega,j+1,⟨by omega,ok_yes hj hno hb1⟩,hst⟩
 ·obtain rfl:j=xs.length:=by simp at hb0; omega
  refine wp_exit ?_
  refine thn_exit ?_
  refine thn_exit ?_
  refine blk_exit ?_
  refine zt ?_
  refine gl (sts:=[]) (news:=[]) (sp:=[.val 2 _]) [.o 0] hst (zv rfl rfl (r_assign has_bo) o0) (fun a w hst=>?_)
  have hst:St B w0 16 [(2,_)] [] a w:=hst
  refine thn_normal ?_
  refine wp_ret ?_
  refine ret_cast ?_ (ret_tmp rfl hst (zm 0 rfl))
  rw [List.take_length] at hno; rw [hno]
end Go.Proofs.YthncfchnkjemiaaGreatDoor
