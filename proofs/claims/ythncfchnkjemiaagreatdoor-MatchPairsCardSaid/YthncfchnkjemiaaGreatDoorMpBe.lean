import Derived.Test.YthncfchnkjemiaaGreatDoorMpAa
import Derived.Test.YthncfchnkjemiaaGreatDoorMpAc
import Derived.Test.YthncfchnkjemiaaGreatDoorMpAp
import Derived.Test.YthncfchnkjemiaaGreatDoorMpBd
import Derived.ProofKit
import Derived.OpenShut
import Derived.ChangeOld
import Derived.Below
import Derived.Deep.Slices
import Derived.SizedLaws
set_option linter.unusedVariables false
set_option linter.unusedSimpArgs false
set_option linter.unusedSectionVars false
set_option maxRecDepth 100000
namespace Go.Proofs.YthncfchnkjemiaaGreatDoor
open Go Go.RowKit
def g3min (x y:GQ):GQ:=⟨x.re - y.re,x.im - y.im⟩
def g3cj (x:GQ):GQ:=⟨x.re+0,0 - x.im⟩
def g3nr (x:GQ):Rat:=x.re*x.re+x.im*x.im
def g3tm (x y:GQ):GQ:=⟨x.re*y.re - x.im*y.im,x.re*y.im+x.im*y.re⟩
def g3ov (x y:GQ):GQ:=⟨(g3tm x (g3cj y)).re / g3nr y,(g3tm x (g3cj y)).im / g3nr y⟩
theorem g3nr_ne {y:GQ} (h:0<y.im):g3nr y≠0:=sq_ne h
theorem g3_re (p:GQ):(g3ov ⟨1,0⟩ p).re=p.re / sqQ p.re p.im:=by
 show (1*(p.re+0) - 0*(0 - p.im)) / (p.re*p.re+p.im*p.im)=p.re / (p.re*p.re+p.im*p.im)
 congr 1
 grind
theorem g3_im (p:GQ):(g3ov ⟨1,0⟩ p).im = -p.im / sqQ p.re p.im:=by
 show (1*(0 - p.im)+0*(p.re+0)) / (p.re*p.re+p.im*p.im) = -p.im / (p.re*p.re+p.im*p.im)
 congr 1
 grind
theorem sgn_ne {x:Rat}:(x.num.sign != 0) = !decide (x=0):=by
 rw [Bool.eq_iff_iff]
 simp only [bne_iff_ne,ne_eq,Int.sign_eq_zero_iff_zero,Rat.num_eq_zero,Bool.not_eq_true',decide_eq_false_iff_not]
theorem ln_im {p q:GQ}:(g3min (g3ov ⟨1,0⟩ p) (g3ov ⟨1,0⟩ q)).im=0↔p.im / sqQ p.re p.im=q.im / sqQ q.re q.im:=by
 show (g3ov ⟨1,0⟩ p).im - (g3ov ⟨1,0⟩ q).im=0↔_
 rw [g3_im,g3_im]
 constructor
 ·intro h; grind
 ·intro h; grind
theorem ln_re {p q:GQ}:(g3min (g3ov ⟨1,0⟩ p) (g3ov ⟨1,0⟩ q)).re=p.re / sqQ p.re p.im - q.re / sqQ q.re q.im:=by
 show (g3ov ⟨1,0⟩ p).re - (g3ov ⟨1,0⟩ q).re=_
 rw [g3_re,g3_re]
theorem sp_yes' {x y:GQ} (h:(((g3min y x).im.num.sign != 0) || decide ((g3min y x).re.num.sign<0))=true):¬ (x.im=y.im∧¬ (y.re - x.re).num.sign<0):=by
 rintro ⟨h1,h2⟩
 rw [Bool.or_eq_true,sgn_ne,Bool.not_eq_true',decide_eq_false_iff_not,decide_eq_true_eq] at h
 rcases h with h | h
 ·exact h (show y.im - x.im=0 by grind)
 ·exact h2 h
theorem sp_no' {x y:GQ} (h:(((g3min y x).im.num.sign != 0) || decide ((g3min y x).re.num.sign<0))=false):x.im=y.im∧¬ (y.re - x.re).num.sign<0:=by
 rw [Bool.or_eq_false_iff,sgn_ne,Bool.not_eq_false',decide_eq_true_eq,decide_eq_false_iff_not] at h
 have h1:y.im - x.im=0:=h.1
 exact ⟨by grind,h.2⟩
theorem no20 {x y:RG} (h:(!okB x || !okB y)=true):(okB x && okB y)=false:=by cases h1:okB x <;> cases h2:okB y <;> simp_all
theorem yes20 {x y:RG} (h:(!okB x || !okB y)=false):(okB x && okB y)=true:=by cases h1:okB x <;> cases h2:okB y <;> simp_all
theorem fd_lo {x:Rat} (h:longQ x=true):fdF x=(rf0,false,4):=by rw [fdF,if_pos h]
theorem fd_ok {x:Rat} (h:longQ x=false):fdF x=(rfOf x,true,0):=by rw [fdF,if_neg (by rw [h]; decide)]
theorem an20_lo {x:Rat} (h:longQ x=true):ansF x=(rf0,4):=by rw [ansF,if_pos h]
theorem an20_ok {x:Rat} (h:longQ x=false):ansF x=(rfOf x,0):=by rw [ansF,if_neg (by rw [h]; decide)]
theorem r3minus_q {c d:Nat} {x y:GQ} (hk:c+d≤900000000):Cn Tryz.prog 184 [(QGA c x).va,(QGA d y).va] ((QGA (c+d+1) (g3min x y)).va):=by
 refine Cn.intro Tryz.func184 rfl zk nq (fun B w0 a hst=>?_)
 have hst:St B w0 16 [(0,(QGA c x).va),(1,(QGA d y).va)] [] a w0.w:=hst
 refine wp_seq ?_
 refine gl (sts:=[]) (news:=[⟨2,73,ptrH,some 0,_,none⟩,⟨3,73,ptrH,some 1,_,none⟩,⟨4,73,ptrH,some 2,_,none⟩]) (sp:=[.alc 0,.alc 1,.alc 2]) [] hst (oc (ob_box rfl rfl rfl (gq 0 rfl)) (oc (ob_box rfl rfl rfl (gq 1 rfl)) (oc (ob_alc rfl rfl rfl (Str.zero str_gauss)) o0))) (fun a w hst=>?_)
 have hst:St B w0 16 [] [⟨2,73,ptrH,_⟩,⟨3,73,ptrH,_⟩,⟨4,73,ptrH,_⟩] a w:=hst
 refine zt ?_
 refine go_draw (anc:=[[],[0],[],[2],[0,1,2,3],[],[5],[],[7],[0,1,2,3,4,5,6,7,8],[0,1,2,3,4,5,6,7,8,9],[0,1,2,3,4,5,6,7,8,9,10]]) (sts:=[none,none,some (11,_)]) (news:=[]) (sp:=[.adr 5 2 (.some 0) True,.val 6 _,.adr 7 3 (.some 0) True,.val 8 _,.val 9 _,.adr 10 2 (.some 4) True,.val 11 _,.adr 12 3 (.some 4) True,.val 13 _,.val 14 _,.val 15 _,.sto 2]) [] follows_mixed hst (oc (ob_a rfl rfl (a_fld (lz0 0 rfl) fld_73_0)) (zv rfl rfl (r_loadf 0 rfl zk trivial (lz0 0 rfl) (Sub.part 0 rfl rfl) ty_26) (oc (ob_a rfl rfl (a_fld (lz0 1 rfl) fld_73_0)) (zv rfl rfl (r_loadf 2 rfl zk trivial (lz0 1 rfl) (Sub.part 0 rfl rfl) ty_26) (zv rfl rfl (r_call (xs:=[.tmp 6,.tmp 8]) (r2minus_q zo) (.cons (vq 1 rfl) (.cons (vq 3 rfl) .nil))) (oc (ob_a rfl rfl (a_fld (lz0 0 rfl) fld_73_1)) (zv rfl rfl (r_loadf 5 rfl zk trivial (lz0 0 rfl) (Sub.part 1 rfl rfl) ty_26) (oc (ob_a rfl rfl (a_fld (lz0 1 rfl) fld_73_1)) (zv rfl rfl (r_loadf 7 rfl zk trivial (lz0 1 rfl) (Sub.part 1 rfl rfl) ty_26) (zv rfl rfl (r_call (xs:=[.tmp 11,.tmp 13]) (r2minus_q zo) (.cons (vq 6 rfl) (.cons (vq 8 rfl) .nil))) (zv rfl rfl (r_build (xs:=[(0,.tmp 9),(1,.tmp 14)]) (qs:=[(0,_),(1,_)]) str_gauss (.cons ⟨rfl,(vq 4 rfl),rfl⟩ (.cons ⟨rfl,(vq 9 rfl),rfl⟩ .nil))) (oc (ob_sto rfl rfl rfl (vq 10 rfl) ty_73 (Eq.trans (b:=8) rfl rfl)) o0)))))))))))) zk zk zk zk (fun a w hst=>?_)
 have hst:St B w0 16 [] [⟨2,73,ptrH,_⟩,⟨3,73,ptrH,_⟩,⟨4,73,ptrH,_⟩] a w:=hst
 refine thn_normal ?_
 refine wp_ret ?_
 refine ret_wk ?_ (ret_cell rfl hst (zm 2 rfl) ty_73)
 exact wk_id
theorem r3times_q {c d:Nat} {x y:GQ} (hk:c+d≤200000000):Cn Tryz.prog 233 [(QGA c x).va,(QGA d y).va] ((QGA (c+d+(c+d)+1) (g3tm x y)).va):=by
 refine Cn.intro Tryz.func233 rfl zk nq (fun B w0 a hst=>?_)
 have hst:St B w0 32 [(0,(QGA c x).va),(1,(QGA d y).va)] [] a w0.w:=hst
 refine wp_seq ?_
 refine gl (sts:=[]) (news:=[⟨2,73,ptrH,some 0,_,none⟩,⟨3,73,ptrH,some 1,_,none⟩,⟨4,73,ptrH,some 2,_,none⟩]) (sp:=[.alc 0,.alc 1,.alc 2]) [] hst (oc (ob_box rfl rfl rfl (gq 0 rfl)) (oc (ob_box rfl rfl rfl (gq 1 rfl)) (oc (ob_alc rfl rfl rfl (Str.zero str_gauss)) o0))) (fun a w hst=>?_)
 have hst:St B w0 32 [] [⟨2,73,ptrH,_⟩,⟨3,73,ptrH,_⟩,⟨4,73,ptrH,_⟩] a w:=hst
 refine zt ?_
 refine go_draw (anc:=[[],[0],[],[2],[0,1,2,3],[],[5],[],[7],[0,1,2,3,4,5,6,7,8],[0,1,2,3,4,5,6,7,8,9],[],[0,1,2,3,4,5,6,7,8,9,10,11]]) (sts:=[none,none,none]) (news:=[⟨5,26,ptrH,some 11,_,some (12,_)⟩]) (sp:=[.adr 7 2 (.some 0) True,.val 8 _,.adr 9 3 (.some 0) True,.val 10 _,.val 11 _,.adr 12 2 (.some 4) True,.val 13 _,.adr 14 3 (.some 4) True,.val 15 _,.val 16 _,.val 17 _,.alc 3,.sto 3]) [] follows_mixed hst (oc (ob_a rfl rfl (a_fld (lz0 0 rfl) fld_73_0)) (zv rfl rfl (r_loadf 0 rfl zk trivial (lz0 0 rfl) (Sub.part 0 rfl rfl) ty_26) (oc (ob_a rfl rfl (a_fld (lz0 1 rfl) fld_73_0)) (zv rfl rfl (r_loadf 2 rfl zk trivial (lz0 1 rfl) (Sub.part 0 rfl rfl) ty_26) (zv rfl rfl (r_call (xs:=[.tmp 8,.tmp 10]) (r2times_q zo) (.cons (vq 1 rfl) (.cons (vq 3 rfl) .nil))) (oc (ob_a rfl rfl (a_fld (lz0 0 rfl) fld_73_1)) (zv rfl rfl (r_loadf 5 rfl zk trivial (lz0 0 rfl) (Sub.part 1 rfl rfl) ty_26) (oc (ob_a rfl rfl (a_fld (lz0 1 rfl) fld_73_1)) (zv rfl rfl (r_loadf 7 rfl zk trivial (lz0 1 rfl) (Sub.part 1 rfl rfl) ty_26) (zv rfl rfl (r_call (xs:=[.tmp 13,.tmp 15]) (r2times_q zo) (.cons (vq 6 rfl) (.cons (vq 8 rfl) .nil))) (zv rfl rfl (r_call (xs:=[.tmp 11,.tmp 16]) (r2minus_q zo) (.cons (vq 4 rfl) (.cons (vq 9 rfl) .nil))) (oc (ob_alc rfl rfl rfl (Str.zero str_frac)) (oc (ob_sto rfl rfl rfl (vq 10 rfl) ty_26 (Eq.trans (b:=4) rfl rfl)) o0))))))))))))) zk zk zk zk (fun a w hst=>?_)
 have hst:St B w0 32 [] [⟨2,73,ptrH,_⟩,⟨3,73,ptrH,_⟩,⟨4,73,ptrH,_⟩,⟨5,26,ptrH,_⟩] a w:=hst
 refine zt ?_
 refine go_draw (anc:=[[],[0],[],[2],[0,1,2,3],[],[5],[],[7],[0,1,2,3,4,5,6,7,8],[0,1,2,3,4,5,6,7,8,9],[],[0,1,2,3,4,5,6,7,8,9,10,11]]) (sts:=[none,none,none,none]) (news:=[⟨6,26,ptrH,some 11,_,some (12,_)⟩]) (sp:=[.adr 18 2 (.some 0) True,.val 19 _,.adr 20 3 (.some 4) True,.val 21 _,.val 22 _,.adr 23 2 (.some 4) True,.val 24 _,.adr 25 3 (.some 0) True,.val 26 _,.val 27 _,.val 28 _,.alc 4,.sto 4]) [] follows_mixed hst (oc (ob_a rfl rfl (a_fld (lz0 0 rfl) fld_73_0)) (zv rfl rfl (r_loadf 0 rfl zk trivial (lz0 0 rfl) (Sub.part 0 rfl rfl) ty_26) (oc (ob_a rfl rfl (a_fld (lz0 1 rfl) fld_73_1)) (zv rfl rfl (r_loadf 2 rfl zk trivial (lz0 1 rfl) (Sub.part 1 rfl rfl) ty_26) (zv rfl rfl (r_call (xs:=[.tmp 19,.tmp 21]) (r2times_q zo) (.cons (vq 1 rfl) (.cons (vq 3 rfl) .nil))) (oc (ob_a rfl rfl (a_fld (lz0 0 rfl) fld_73_1)) (zv rfl rfl (r_loadf 5 rfl zk trivial (lz0 0 rfl) (Sub.part 1 rfl rfl) ty_26) (oc (ob_a rfl rfl (a_fld (lz0 1 rfl) fld_73_0)) (zv rfl rfl (r_loadf 7 rfl zk trivial (lz0 1 rfl) (Sub.part 0 rfl rfl) ty_26) (zv rfl rfl (r_call (xs:=[.tmp 24,.tmp 26]) (r2times_q zo) (.cons (vq 6 rfl) (.cons (vq 8 rfl) .nil))) (zv rfl rfl (r_call (xs:=[.tmp 22,.tmp 27]) (r2plus_q zo) (.cons (vq 4 rfl) (.cons (vq 9 rfl) .nil))) (oc (ob_alc rfl rfl rfl (Str.zero str_frac)) (oc (ob_sto rfl rfl rfl (vq 10 rfl) ty_26 (Eq.trans (b:=4) rfl rfl)) o0))))))))))))) zk zk zk zk (fun a w hst=>?_)
 have hst:St B w0 32 [] [⟨2,73,ptrH,_⟩,⟨3,73,ptrH,_⟩,⟨4,73,ptrH,_⟩,⟨5,26,ptrH,_⟩,⟨6,26,ptrH,_⟩] a w:=hst
 refine zt ?_
 refine gl (sts:=[none,none,some (3,_),none,none]) (news:=[]) (sp:=[.val 29 _,.val 30 _,.val 31 _,.sto 2]) [] hst (zv rfl rfl (r_load (lz0 3 rfl) ty_26) (zv rfl rfl (r_load (lz0 4 rfl) ty_26) (zv rfl rfl (r_build (xs:=[(0,.tmp 29),(1,.tmp 30)]) (qs:=[(0,_),(1,_)]) str_gauss (.cons ⟨rfl,(vq 0 rfl),rfl⟩ (.cons ⟨rfl,(vq 1 rfl),rfl⟩ .nil))) (oc (ob_sto rfl rfl rfl (vq 2 rfl) ty_73 (Eq.trans (b:=8) rfl rfl)) o0)))) (fun a w hst=>?_)
 have hst:St B w0 32 [] [⟨2,73,ptrH,_⟩,⟨3,73,ptrH,_⟩,⟨4,73,ptrH,_⟩,⟨5,26,ptrH,_⟩,⟨6,26,ptrH,_⟩] a w:=hst
 refine thn_normal ?_
 refine wp_ret ?_
 refine ret_wk ?_ (ret_cell rfl hst (zm 2 rfl) ty_73)
 exact wk_id
theorem r3norm_q {c:Nat} {x:GQ} (hk:c≤200000000):Cn Tryz.prog 303 [(QGA c x).va] (Qs (c+c+(c+c)+1) (g3nr x)):=by
 refine Cn.intro Tryz.func303 rfl zk nq (fun B w0 a hst=>?_)
 have hst:St B w0 14 [(0,(QGA c x).va)] [] a w0.w:=hst
 refine wp_seq ?_
 refine gl (sts:=[]) (news:=[⟨1,73,ptrH,some 0,_,none⟩,⟨2,26,ptrH,some 1,_,none⟩]) (sp:=[.alc 0,.alc 1]) [] hst (oc (ob_box rfl rfl rfl (gq 0 rfl)) (oc (ob_alc rfl rfl rfl (Str.zero str_frac)) o0)) (fun a w hst=>?_)
 have hst:St B w0 14 [] [⟨1,73,ptrH,_⟩,⟨2,26,ptrH,_⟩] a w:=hst
 refine zt ?_
 refine go_draw (anc:=[[],[0],[],[2],[0,1,2,3],[],[5],[],[7],[0,1,2,3,4,5,6,7,8],[0,1,2,3,4,5,6,7,8,9],[0,1,2,3,4,5,6,7,8,9,10]]) (sts:=[none,some (11,_)]) (news:=[]) (sp:=[.adr 3 1 (.some 0) True,.val 4 _,.adr 5 1 (.some 0) True,.val 6 _,.val 7 _,.adr 8 1 (.some 4) True,.val 9 _,.adr 10 1 (.some 4) True,.val 11 _,.val 12 _,.val 13 _,.sto 1]) [] follows_mixed hst (oc (ob_a rfl rfl (a_fld (lz0 0 rfl) fld_73_0)) (zv rfl rfl (r_loadf 0 rfl zk trivial (lz0 0 rfl) (Sub.part 0 rfl rfl) ty_26) (oc (ob_a rfl rfl (a_fld (lz0 0 rfl) fld_73_0)) (zv rfl rfl (r_loadf 2 rfl zk trivial (lz0 0 rfl) (Sub.part 0 rfl rfl) ty_26) (zv rfl rfl (r_call (xs:=[.tmp 4,.tmp 6]) (r2times_q zo) (.cons (vq 1 rfl) (.cons (vq 3 rfl) .nil))) (oc (ob_a rfl rfl (a_fld (lz0 0 rfl) fld_73_1)) (zv rfl rfl (r_loadf 5 rfl zk trivial (lz0 0 rfl) (Sub.part 1 rfl rfl) ty_26) (oc (ob_a rfl rfl (a_fld (lz0 0 rfl) fld_73_1)) (zv rfl rfl (r_loadf 7 rfl zk trivial (lz0 0 rfl) (Sub.part 1 rfl rfl) ty_26) (zv rfl rfl (r_call (xs:=[.tmp 9,.tmp 11]) (r2times_q zo) (.cons (vq 6 rfl) (.cons (vq 8 rfl) .nil))) (zv rfl rfl (r_call (xs:=[.tmp 7,.tmp 12]) (r2plus_q zo) (.cons (vq 4 rfl) (.cons (vq 9 rfl) .nil))) (oc (ob_sto rfl rfl rfl (vq 10 rfl) ty_26 (Eq.trans (b:=4) rfl rfl)) o0)))))))))))) zk zk zk zk (fun a w hst=>?_)
 have hst:St B w0 14 [] [⟨1,73,ptrH,_⟩,⟨2,26,ptrH,_⟩] a w:=hst
 refine thn_normal ?_
 refine wp_ret ?_
 refine ret_wk ?_ (ret_cell rfl hst (zm 1 rfl) ty_26)
 exact wk_id
theorem r3conj_q {c:Nat} {x:GQ} (hk:c≤200000000):Cn Tryz.prog 304 [(QGA c x).va] ((QGA (c+3) (g3cj x)).va):=by
 refine Cn.intro Tryz.func304 rfl zk nq (fun B w0 a hst=>?_)
 have hst:St B w0 12 [(0,(QGA c x).va)] [] a w0.w:=hst
 refine wp_seq ?_
 refine gl (sts:=[]) (news:=[⟨1,73,ptrH,some 0,_,none⟩,⟨2,73,ptrH,some 1,_,none⟩]) (sp:=[.alc 0,.alc 1]) [] hst (oc (ob_box rfl rfl rfl (gq 0 rfl)) (oc (ob_alc rfl rfl rfl (Str.zero str_gauss)) o0)) (fun a w hst=>?_)
 have hst:St B w0 12 [] [⟨1,73,ptrH,_⟩,⟨2,73,ptrH,_⟩] a w:=hst
 refine zt ?_
 refine go_draw (anc:=[[],[0],[],[0,1,2],[0,1,2,3],[],[5],[0,1,2,3,4,5,6],[0,1,2,3,4,5,6,7],[0,1,2,3,4,5,6,7,8]]) (sts:=[none,some (9,_)]) (news:=[]) (sp:=[.adr 3 1 (.some 0) True,.val 4 _,.val 5 _,.val 6 _,.val 7 _,.adr 8 1 (.some 4) True,.val 9 _,.val 10 _,.val 11 _,.sto 1]) [] follows_mixed hst (oc (ob_a rfl rfl (a_fld (lz0 0 rfl) fld_73_0)) (zv rfl rfl (r_loadf 0 rfl zk trivial (lz0 0 rfl) (Sub.part 0 rfl rfl) ty_26) (zv rfl rfl (r_call (xs:=[]) r2nought_q .nil) (zv rfl rfl (r_call (xs:=[.tmp 4,.tmp 5]) (r2plus_q zo) (.cons (vq 1 rfl) (.cons (vq 2 rfl) .nil))) (zv rfl rfl (r_call (xs:=[]) r2nought_q .nil) (oc (ob_a rfl rfl (a_fld (lz0 0 rfl) fld_73_1)) (zv rfl rfl (r_loadf 5 rfl zk trivial (lz0 0 rfl) (Sub.part 1 rfl rfl) ty_26) (zv rfl rfl (r_call (xs:=[.tmp 7,.tmp 9]) (r2minus_q zo) (.cons (vq 4 rfl) (.cons (vq 6 rfl) .nil))) (zv rfl rfl (r_build (xs:=[(0,.tmp 6),(1,.tmp 10)]) (qs:=[(0,_),(1,_)]) str_gauss (.cons ⟨rfl,(vq 3 rfl),rfl⟩ (.cons ⟨rfl,(vq 7 rfl),rfl⟩ .nil))) (oc (ob_sto rfl rfl rfl (vq 8 rfl) ty_73 (Eq.trans (b:=8) rfl rfl)) o0)))))))))) zk zk zk zk (fun a w hst=>?_)
 have hst:St B w0 12 [] [⟨1,73,ptrH,_⟩,⟨2,73,ptrH,_⟩] a w:=hst
 refine thn_normal ?_
 refine wp_ret ?_
 refine ret_wk ?_ (ret_cell rfl hst (zm 1 rfl) ty_73)
 exact (cat_wk (.cons (qa_mono zo) (.cons (qa_mono zo) .nil))).va
theorem r3over_q {x y:GQ} (h:0<y.im):Cn Tryz.prog 185 [(QGA 2 x).va,(QGA 2048 y).va] ((QGA 16384 (g3ov x y)).va):=by
 refine Cn.intro Tryz.func185 rfl zk nq (fun B w0 a hst=>?_)
 have hst:St B w0 22 [(0,(QGA 2 x).va),(1,(QGA 2048 y).va)] [] a w0.w:=hst
 refine wp_seq ?_
 refine gl (sts:=[]) (news:=[⟨2,73,ptrH,some 0,_,none⟩,⟨3,73,ptrH,some 1,_,none⟩,⟨4,73,ptrH,some 2,_,none⟩]) (sp:=[.alc 0,.alc 1,.alc 2]) [] hst (oc (ob_box rfl rfl rfl (gq 0 rfl)) (oc (ob_box rfl rfl rfl (gq 1 rfl)) (oc (ob_alc rfl rfl rfl (Str.zero str_gauss)) o0))) (fun a w hst=>?_)
 have hst:St B w0 22 [] [⟨2,73,ptrH,_⟩,⟨3,73,ptrH,_⟩,⟨4,73,ptrH,_⟩] a w:=hst
 refine zt ?_
 refine gl (sts:=[none,none,none]) (news:=[⟨5,26,ptrH,some 2,_,some (3,_)⟩]) (sp:=[.val 7 _,.val 8 _,.alc 3,.sto 3]) [] hst (zv rfl rfl (r_load (lz0 1 rfl) ty_73) (zv rfl rfl (r_call (xs:=[.tmp 7]) (r3norm_q zd) (.cons (vq 0 rfl) .nil)) (oc (ob_alc rfl rfl rfl (Str.zero str_frac)) (oc (ob_sto rfl rfl rfl (vq 1 rfl) ty_26 (Eq.trans (b:=4) rfl rfl)) o0)))) (fun a w hst=>?_)
 have hst:St B w0 22 [] [⟨2,73,ptrH,_⟩,⟨3,73,ptrH,_⟩,⟨4,73,ptrH,_⟩,⟨5,26,ptrH,_⟩] a w:=hst
 refine zt ?_
 refine go_draw (anc:=[[],[],[1],[0,1,2],[],[0,1,2,3,4]]) (sts:=[none,none,none,none]) (news:=[⟨6,73,ptrH,some 4,_,some (5,_)⟩]) (sp:=[.val 9 _,.val 10 _,.val 11 _,.val 12 _,.alc 4,.sto 4]) [] follows_mixed hst (zv rfl rfl (r_load (lz0 0 rfl) ty_73) (zv rfl rfl (r_load (lz0 1 rfl) ty_73) (zv rfl rfl (r_call (xs:=[.tmp 10]) (r3conj_q zd) (.cons (vq 1 rfl) .nil)) (zv rfl rfl (r_call (xs:=[.tmp 9,.tmp 11]) (r3times_q zd) (.cons (vq 0 rfl) (.cons (vq 2 rfl) .nil))) (oc (ob_alc rfl rfl rfl (Str.zero str_gauss)) (oc (ob_sto rfl rfl rfl (vq 3 rfl) ty_73 (Eq.trans (b:=8) rfl rfl)) o0)))))) zk zk zk zk (fun a w hst=>?_)
 have hst:St B w0 22 [] [⟨2,73,ptrH,_⟩,⟨3,73,ptrH,_⟩,⟨4,73,ptrH,_⟩,⟨5,26,ptrH,_⟩,⟨6,73,ptrH,_⟩] a w:=hst
 refine zt ?_
 refine go_draw (anc:=[[],[0],[],[0,1,2],[],[4],[],[0,1,2,3,4,5,6],[0,1,2,3,4,5,6,7],[0,1,2,3,4,5,6,7,8]]) (sts:=[none,none,some (9,_),none,none]) (news:=[]) (sp:=[.adr 13 6 (.some 0) True,.val 14 _,.val 15 _,.val 16 _,.adr 17 6 (.some 4) True,.val 18 _,.val 19 _,.val 20 _,.val 21 _,.sto 2]) [] follows_mixed hst (oc (ob_a rfl rfl (a_fld (lz0 4 rfl) fld_73_0)) (zv rfl rfl (r_loadf 0 rfl zk trivial (lz0 4 rfl) (Sub.part 0 rfl rfl) ty_26) (zv rfl rfl (r_load (lz0 3 rfl) ty_26) (zv rfl rfl (r_call (xs:=[.tmp 14,.tmp 15]) (r2over_q zd (g3nr_ne h)) (.cons (vq 1 rfl) (.cons (vq 2 rfl) .nil))) (oc (ob_a rfl rfl (a_fld (lz0 4 rfl) fld_73_1)) (zv rfl rfl (r_loadf 4 rfl zk trivial (lz0 4 rfl) (Sub.part 1 rfl rfl) ty_26) (zv rfl rfl (r_load (lz0 3 rfl) ty_26) (zv rfl rfl (r_call (xs:=[.tmp 18,.tmp 19]) (r2over_q zd (g3nr_ne h)) (.cons (vq 5 rfl) (.cons (vq 6 rfl) .nil))) (zv rfl rfl (r_build (xs:=[(0,.tmp 16),(1,.tmp 20)]) (qs:=[(0,_),(1,_)]) str_gauss (.cons ⟨rfl,(vq 3 rfl),rfl⟩ (.cons ⟨rfl,(vq 7 rfl),rfl⟩ .nil))) (oc (ob_sto rfl rfl rfl (vq 8 rfl) ty_73 (Eq.trans (b:=8) rfl rfl)) o0)))))))))) zk zk zk zk (fun a w hst=>?_)
 have hst:St B w0 22 [] [⟨2,73,ptrH,_⟩,⟨3,73,ptrH,_⟩,⟨4,73,ptrH,_⟩,⟨5,26,ptrH,_⟩,⟨6,73,ptrH,_⟩] a w:=hst
 refine thn_normal ?_
 refine wp_ret ?_
 refine ret_wk ?_ (ret_cell rfl hst (zm 2 rfl) ty_73)
 exact (cat_wk (.cons (qa_mono zd) (.cons (qa_mono zd) .nil))).va
theorem r20found_q {c:Nat} {x:Rat} (hc:c≤549755813888):Cn Tryz.prog 186 [Qs c x] (R3 (fdF x)):=by
 refine Cn.intro Tryz.func186 rfl zk nq (fun B w0 a hst=>?_)
 have hst:St B w0 10 [(0,Qs c x)] [] a w0.w:=hst
 refine wp_seq ?_
 refine gl (sts:=[]) (news:=[⟨1,26,ptrH,some 0,_,none⟩,⟨2,26,ptrH,some 1,_,none⟩]) (sp:=[.alc 0,.alc 1,.val 3 _,.val 4 _]) [.o 2,.o 3] hst (oc (ob_box rfl rfl rfl (gq 0 rfl)) (oc (ob_alc rfl rfl rfl (Str.zero str_frac)) (zv rfl rfl (r_assign has_bo) (zv rfl rfl (r_assign has_num) o0)))) (fun a w hst=>?_)
 have hst:St B w0 10 [(3,_),(4,_)] [⟨1,26,ptrH,_⟩,⟨2,26,ptrH,_⟩] a w:=hst
 refine zt ?_
 refine wp_seq ?_
 refine gl (sts:=[none,none]) (news:=[]) (sp:=[.val 5 _,.val 6 _,.val 7 _]) [.g 0,.g 1,.o 2] hst (zv rfl rfl (r_load (lz0 0 rfl) ty_26) (zv rfl rfl (r_slice (D:=[U32]) (l:=[_]) (xs:=[.tmp 5]) (nd_ok zk) sl_142 zk (n_ok zk) nq nq nq (.cons (vq 0 rfl) .nil) rfl rfl) (zv rfl rfl (r_call (xs:=[.tmp 6]) (r2long_q [x] (.cons ⟨_,rfl⟩ .nil) nq) (.cons (vq 1 rfl) .nil)) o0))) (fun a w hst=>?_)
 have hst:St B w0 10 [(3,_),(4,_),(7,_)] [⟨1,26,ptrH,_⟩,⟨2,26,ptrH,_⟩] a w:=hst
 refine thn_normal ?_
 refine cond_of hst (zm 2 rfl) (fun hb0=>?_) (fun hb0=>?_)
 ·rw [one_long] at hb0
  refine wp_seq ?_
  refine gl (sts:=[none,some (1,_)]) (news:=[]) (sp:=[.val 8 _,.sto 1,.val 3 _,.val 4 _]) [.o 2,.o 3] hst (zv rfl rfl (r_build (xs:=[]) (qs:=[]) str_frac .nil) (oc (ob_sto rfl rfl rfl (vq 0 rfl) ty_26 (Eq.trans (b:=4) rfl rfl)) (zv rfl rfl (r_assign has_bo) (zv rfl rfl (r_assign has_num) o0)))) (fun a w hst=>?_)
  have hst:St B w0 10 [(3,_),(4,_)] [⟨1,26,ptrH,_⟩,⟨2,26,ptrH,_⟩] a w:=hst
  refine thn_normal ?_
  refine wp_ret ?_
  refine thn_ret ?_
  refine ret_wk ?_ (ret_many (rs:=[.cell 2 26,.tmp 3,.tmp 4]) rfl hst (.cell (zm 1 rfl) ty_26 (.tmp (zm 0 rfl) (.tmp (zm 1 rfl) .nil))) zd)
  rw [fd_lo hb0]; exact wk_id
 ·rw [one_long] at hb0
  refine wp_skip ?_
  refine zt ?_
  refine gl (sts:=[none,some (1,_)]) (news:=[]) (sp:=[.val 9 _,.sto 1,.val 3 _,.val 4 _]) [.o 2,.o 3] hst (zv rfl rfl (r_load (lz0 0 rfl) ty_26) (oc (ob_sto rfl rfl rfl (vq 0 rfl) ty_26 (Eq.trans (b:=4) rfl rfl)) (zv rfl rfl (r_assign has_bo) (zv rfl rfl (r_assign has_num) o0)))) (fun a w hst=>?_)
  have hst:St B w0 10 [(3,_),(4,_)] [⟨1,26,ptrH,_⟩,⟨2,26,ptrH,_⟩] a w:=hst
  refine thn_normal ?_
  refine wp_ret ?_
  refine ret_wk ?_ (ret_many (rs:=[.cell 2 26,.tmp 3,.tmp 4]) rfl hst (.cell (zm 1 rfl) ty_26 (.tmp (zm 0 rfl) (.tmp (zm 1 rfl) .nil))) zd)
  rw [fd_ok hb0]; exact tu3w rq_wk wk_id wk_id
theorem r20overlap_c (x y:RG):Cn Tryz.prog 40 [(RGA x).va,(RGA y).va] (FrR (ovF x y)):=by
 refine Cn.intro Tryz.func40 rfl zk nq (fun B w0 a hst=>?_)
 have hst:St B w0 24 [(0,(RGA x).va),(1,(RGA y).va)] [] a w0.w:=hst
 refine wp_seq ?_
 refine gl (sts:=[]) (news:=[⟨2,73,ptrH,some 0,_,none⟩,⟨3,73,ptrH,some 1,_,none⟩,⟨4,26,ptrH,some 2,_,none⟩]) (sp:=[.alc 0,.alc 1,.alc 2,.val 5 _]) [.o 3] hst (oc (ob_box rfl rfl rfl (gq 0 rfl)) (oc (ob_box rfl rfl rfl (gq 1 rfl)) (oc (ob_alc rfl rfl rfl (Str.zero str_frac)) (zv rfl rfl (r_assign has_num) o0)))) (fun a w hst=>?_)
 have hst:St B w0 24 [(5,_)] [⟨2,73,ptrH,_⟩,⟨3,73,ptrH,_⟩,⟨4,26,ptrH,_⟩] a w:=hst
 refine zt ?_
 refine wp_seq ?_
 refine gl (sts:=[none,none,none]) (news:=[]) (sp:=[.val 7 _,.val 8 _,.val 9 _,.val 10 _,.val 11 (Wh (_=false) _),.val 12 (Wh (_=false) _),.val 13 (Wh (_=false) _),.val 14 _]) [.g 0,.o 7] hst (zv rfl rfl (r_load (lz0 0 rfl) ty_73) (zv rfl rfl (r_call (xs:=[.tmp 7]) (r20may_c _) (.cons (vq 0 rfl) .nil)) (zv rfl rfl (r_not (vq 1 rfl)) (zv rfl rfl (r_move (vq 2 rfl)) (oc (ob_gd rfl rfl rfl (vq 3 rfl) nq (fun hg=>r_load (lz0 1 rfl) ty_73)) (oc (ob_gd rfl rfl rfl (vq 3 rfl) nq (fun hg=>r_call (xs:=[.tmp 11]) (r20may_c _) (.cons (has_wh (vq 4 rfl) hg) .nil))) (oc (ob_gd rfl rfl rfl (vq 3 rfl) nq (fun hg=>r_not (has_wh (vq 5 rfl) hg))) (zv rfl rfl (r_or (vq 3 rfl) (vq 6 rfl)) o0)))))))) (fun a w hst=>?_)
 have hst:St B w0 24 [(5,_),(14,_)] [⟨2,73,ptrH,_⟩,⟨3,73,ptrH,_⟩,⟨4,26,ptrH,_⟩] a w:=hst
 refine thn_normal ?_
 refine cond_of hst (zm 1 rfl) (fun hb0=>?_) (fun hb0=>?_)
 ·have hno:=no20 hb0
  refine wp_seq ?_
  refine gl (sts:=[none,none,some (1,_)]) (news:=[]) (sp:=[.val 15 _,.sto 2,.val 5 _]) [.o 2] hst (zv rfl rfl (r_build (xs:=[]) (qs:=[]) str_frac .nil) (oc (ob_sto rfl rfl rfl (vq 0 rfl) ty_26 (Eq.trans (b:=4) rfl rfl)) (zv rfl rfl (r_assign has_num) o0))) (fun a w hst=>?_)
  have hst:St B w0 24 [(5,_)] [⟨2,73,ptrH,_⟩,⟨3,73,ptrH,_⟩,⟨4,26,ptrH,_⟩] a w:=hst
  refine thn_normal ?_
  refine wp_ret ?_
  refine thn_ret ?_
  refine ret_wk ?_ (ret_many (rs:=[.cell 4 26,.tmp 5]) rfl hst (.cell (zm 2 rfl) ty_26 (.tmp (zm 0 rfl) .nil)) zd)
  rw [ovF,if_neg (by rw [hno]; decide)]; exact wk_id
 ·have hyes:=yes20 hb0
  obtain ⟨hx,hy⟩:=and_ok hyes
  have hst:=St.wkL hst 0 rfl (qg_x hx.1)
  have hst:=St.wkL hst 1 rfl (qg_x hy.1)
  refine wp_skip ?_
  refine zt ?_
  refine gl (sts:=[none,none,none]) (news:=[⟨6,26,ptrH,some 3,_,some (4,_)⟩]) (sp:=[.val 16 _,.val 17 _,.val 18 _,.alc 3,.sto 3]) [.g 0] hst (zv rfl rfl (r_load (lz0 0 rfl) ty_73) (zv rfl rfl (r_load (lz0 1 rfl) ty_73) (zv rfl rfl (r_call (xs:=[.tmp 16,.tmp 17]) (r20alike_q hx.2 hy.2) (.cons (vq 0 rfl) (.cons (vq 1 rfl) .nil))) (oc (ob_alc rfl rfl rfl (Str.zero str_frac)) (oc (ob_sto rfl rfl rfl (vq 2 rfl) ty_26 (Eq.trans (b:=4) rfl rfl)) o0))))) (fun a w hst=>?_)
  have hst:St B w0 24 [(5,_)] [⟨2,73,ptrH,_⟩,⟨3,73,ptrH,_⟩,⟨4,26,ptrH,_⟩,⟨6,26,ptrH,_⟩] a w:=hst
  refine zt ?_
  refine wp_seq ?_
  refine gl (sts:=[none,none,none,none]) (news:=[]) (sp:=[.val 19 _,.val 20 _,.val 21 _]) [.g 0,.o 2] hst (zv rfl rfl (r_load (lz0 3 rfl) ty_26) (zv rfl rfl (r_slice (D:=[U32]) (l:=[_]) (xs:=[.tmp 19]) (nd_ok zk) sl_142 zk (n_ok zk) nq nq nq (.cons (vq 0 rfl) .nil) rfl rfl) (zv rfl rfl (r_call (xs:=[.tmp 20]) (r2long_q [alkQ (toG x) (toG y)] (.cons ⟨_,rfl⟩ .nil) nq) (.cons (vq 1 rfl) .nil)) o0))) (fun a w hst=>?_)
  have hst:St B w0 24 [(5,_),(21,_)] [⟨2,73,ptrH,_⟩,⟨3,73,ptrH,_⟩,⟨4,26,ptrH,_⟩,⟨6,26,ptrH,_⟩] a w:=hst
  refine thn_normal ?_
  refine cond_of hst (zm 1 rfl) (fun hb1=>?_) (fun hb1=>?_)
  ·rw [one_long] at hb1
   refine wp_seq ?_
   refine gl (sts:=[none,none,some (1,_),none]) (news:=[]) (sp:=[.val 22 _,.sto 2,.val 5 _]) [.o 2] hst (zv rfl rfl (r_build (xs:=[]) (qs:=[]) str_frac .nil) (oc (ob_sto rfl rfl rfl (vq 0 rfl) ty_26 (Eq.trans (b:=4) rfl rfl)) (zv rfl rfl (r_assign has_num) o0))) (fun a w hst=>?_)
   have hst:St B w0 24 [(5,_)] [⟨2,73,ptrH,_⟩,⟨3,73,ptrH,_⟩,⟨4,26,ptrH,_⟩,⟨6,26,ptrH,_⟩] a w:=hst
   refine thn_normal ?_
   refine wp_ret ?_
   refine thn_ret ?_
   refine ret_wk ?_ (ret_many (rs:=[.cell 4 26,.tmp 5]) rfl hst (.cell (zm 2 rfl) ty_26 (.tmp (zm 0 rfl) .nil)) zd)
   rw [ovF,if_pos hyes,an20_lo hb1]; exact wk_id
  ·rw [one_long] at hb1
   refine wp_skip ?_
   refine zt ?_
   refine gl (sts:=[none,none,some (1,_),none]) (news:=[]) (sp:=[.val 23 _,.sto 2,.val 5 _]) [.o 2] hst (zv rfl rfl (r_load (lz0 3 rfl) ty_26) (oc (ob_sto rfl rfl rfl (vq 0 rfl) ty_26 (Eq.trans (b:=4) rfl rfl)) (zv rfl rfl (r_assign has_num) o0))) (fun a w hst=>?_)
   have hst:St B w0 24 [(5,_)] [⟨2,73,ptrH,_⟩,⟨3,73,ptrH,_⟩,⟨4,26,ptrH,_⟩,⟨6,26,ptrH,_⟩] a w:=hst
   refine thn_normal ?_
   refine wp_ret ?_
   refine ret_wk ?_ (ret_many (rs:=[.cell 4 26,.tmp 5]) rfl hst (.cell (zm 2 rfl) ty_26 (.tmp (zm 0 rfl) .nil)) zd)
   rw [ovF,if_pos hyes,an20_ok hb1]; exact tu2w rq_wk wk_id
theorem r20lens_c (x y:RG):Cn Tryz.prog 42 [(RGA x).va,(RGA y).va] (R3 (lnF x y)):=by
 refine Cn.intro Tryz.func42 rfl zk nq (fun B w0 a hst=>?_)
 have hst:St B w0 39 [(0,(RGA x).va),(1,(RGA y).va)] [] a w0.w:=hst
 refine wp_seq ?_
 refine gl (sts:=[]) (news:=[⟨2,73,ptrH,some 0,_,none⟩,⟨3,73,ptrH,some 1,_,none⟩,⟨4,26,ptrH,some 2,_,none⟩]) (sp:=[.alc 0,.alc 1,.alc 2,.val 5 _,.val 6 _]) [.o 3,.o 4] hst (oc (ob_box rfl rfl rfl (gq 0 rfl)) (oc (ob_box rfl rfl rfl (gq 1 rfl)) (oc (ob_alc rfl rfl rfl (Str.zero str_frac)) (zv rfl rfl (r_assign has_bo) (zv rfl rfl (r_assign has_num) o0))))) (fun a w hst=>?_)
 have hst:St B w0 39 [(5,_),(6,_)] [⟨2,73,ptrH,_⟩,⟨3,73,ptrH,_⟩,⟨4,26,ptrH,_⟩] a w:=hst
 refine zt ?_
 refine wp_seq ?_
 refine gl (sts:=[none,none,none]) (news:=[]) (sp:=[.val 9 _,.val 10 _,.val 11 _,.val 12 _,.val 13 (Wh (_=false) _),.val 14 (Wh (_=false) _),.val 15 (Wh (_=false) _),.val 16 _]) [.g 0,.g 1,.o 7] hst (zv rfl rfl (r_load (lz0 0 rfl) ty_73) (zv rfl rfl (r_call (xs:=[.tmp 9]) (r20may_c _) (.cons (vq 0 rfl) .nil)) (zv rfl rfl (r_not (vq 1 rfl)) (zv rfl rfl (r_move (vq 2 rfl)) (oc (ob_gd rfl rfl rfl (vq 3 rfl) nq (fun hg=>r_load (lz0 1 rfl) ty_73)) (oc (ob_gd rfl rfl rfl (vq 3 rfl) nq (fun hg=>r_call (xs:=[.tmp 13]) (r20may_c _) (.cons (has_wh (vq 4 rfl) hg) .nil))) (oc (ob_gd rfl rfl rfl (vq 3 rfl) nq (fun hg=>r_not (has_wh (vq 5 rfl) hg))) (zv rfl rfl (r_or (vq 3 rfl) (vq 6 rfl)) o0)))))))) (fun a w hst=>?_)
 have hst:St B w0 39 [(5,_),(6,_),(16,_)] [⟨2,73,ptrH,_⟩,⟨3,73,ptrH,_⟩,⟨4,26,ptrH,_⟩] a w:=hst
 refine thn_normal ?_
 refine cond_of hst (zm 2 rfl) (fun hb0=>?_) (fun hb0=>?_)
 ·have hno:=no20 hb0
  refine wp_seq ?_
  refine gl (sts:=[none,none,some (1,_)]) (news:=[]) (sp:=[.val 17 _,.sto 2,.val 5 _,.val 6 _]) [.o 2,.o 3] hst (zv rfl rfl (r_build (xs:=[]) (qs:=[]) str_frac .nil) (oc (ob_sto rfl rfl rfl (vq 0 rfl) ty_26 (Eq.trans (b:=4) rfl rfl)) (zv rfl rfl (r_assign has_bo) (zv rfl rfl (r_assign has_num) o0)))) (fun a w hst=>?_)
  have hst:St B w0 39 [(5,_),(6,_)] [⟨2,73,ptrH,_⟩,⟨3,73,ptrH,_⟩,⟨4,26,ptrH,_⟩] a w:=hst
  refine thn_normal ?_
  refine wp_ret ?_
  refine thn_ret ?_
  refine ret_wk ?_ (ret_many (rs:=[.cell 4 26,.tmp 5,.tmp 6]) rfl hst (.cell (zm 2 rfl) ty_26 (.tmp (zm 0 rfl) (.tmp (zm 1 rfl) .nil))) zd)
  rw [lnF,if_neg (by rw [hno]; decide)]; exact wk_id
 ·have hyes:=yes20 hb0
  obtain ⟨hx,hy⟩:=and_ok hyes
  have hst:=St.wkL hst 0 rfl (qg_x hx.1)
  have hst:=St.wkL hst 1 rfl (qg_x hy.1)
  refine wp_skip ?_
  refine zt ?_
  refine gl (sts:=[none,none,none]) (news:=[⟨7,73,ptrH,some 3,_,some (4,_)⟩]) (sp:=[.val 18 _,.val 19 _,.val 20 _,.alc 3,.sto 3]) [.g 0,.g 1] hst (zv rfl rfl (r_call (xs:=[]) r2one_q .nil) (zv rfl rfl (r_call (xs:=[]) r2nought_q .nil) (zv rfl rfl (r_build (xs:=[(0,.tmp 18),(1,.tmp 19)]) (qs:=[(0,_),(1,_)]) str_gauss (.cons ⟨rfl,(vq 0 rfl),rfl⟩ (.cons ⟨rfl,(vq 1 rfl),rfl⟩ .nil))) (oc (ob_alc rfl rfl rfl (Str.zero str_gauss)) (oc (ob_sto rfl rfl rfl (vq 2 rfl) ty_73 (Eq.trans (b:=8) rfl rfl)) o0))))) (fun a w hst=>?_)
  have hst:St B w0 39 [(5,_),(6,_)] [⟨2,73,ptrH,_⟩,⟨3,73,ptrH,_⟩,⟨4,26,ptrH,_⟩,⟨7,73,ptrH,_⟩] a w:=hst
  refine zt ?_
  refine go_draw (anc:=[[],[],[0,1],[],[],[0,1,2,3,4],[0,1,2,3,4,5],[],[0,1,2,3,4,5,6,7]]) (sts:=[none,none,none,none]) (news:=[⟨8,73,ptrH,some 7,_,some (8,_)⟩]) (sp:=[.val 21 _,.val 22 _,.val 23 _,.val 24 _,.val 25 _,.val 26 _,.val 27 _,.alc 4,.sto 4]) [.g 0,.g 1] follows_mixed hst (zv rfl rfl (r_load (lz0 3 rfl) ty_73) (zv rfl rfl (r_load (lz0 0 rfl) ty_73) (zv rfl rfl (r_call (xs:=[.tmp 21,.tmp 22]) (r3over_q (x:=⟨1,0⟩) (y:=toG x) hx.2) (.cons (vq 0 rfl) (.cons (vq 1 rfl) .nil))) (zv rfl rfl (r_load (lz0 3 rfl) ty_73) (zv rfl rfl (r_load (lz0 1 rfl) ty_73) (zv rfl rfl (r_call (xs:=[.tmp 24,.tmp 25]) (r3over_q (x:=⟨1,0⟩) (y:=toG y) hy.2) (.cons (vq 3 rfl) (.cons (vq 4 rfl) .nil))) (zv rfl rfl (r_call (xs:=[.tmp 23,.tmp 26]) (r3minus_q zd) (.cons (vq 2 rfl) (.cons (vq 5 rfl) .nil))) (oc (ob_alc rfl rfl rfl (Str.zero str_gauss)) (oc (ob_sto rfl rfl rfl (vq 6 rfl) ty_73 (Eq.trans (b:=8) rfl rfl)) o0))))))))) zk zk zk zk (fun a w hst=>?_)
  have hst:St B w0 39 [(5,_),(6,_)] [⟨2,73,ptrH,_⟩,⟨3,73,ptrH,_⟩,⟨4,26,ptrH,_⟩,⟨7,73,ptrH,_⟩,⟨8,73,ptrH,_⟩] a w:=hst
  refine zt ?_
  refine wp_seq ?_
  refine gl (sts:=[none,none,none,none,none]) (news:=[]) (sp:=[.adr 28 8 (.some 4) True,.val 29 _,.val 30 _,.val 31 _]) [.g 0,.g 1,.o 3] hst (oc (ob_a rfl rfl (a_fld (lz0 4 rfl) fld_73_1)) (zv rfl rfl (r_loadf 0 rfl zk trivial (lz0 4 rfl) (Sub.part 1 rfl rfl) ty_26) (zv rfl rfl (r_call (xs:=[.tmp 29]) r2sign_q (.cons (vq 1 rfl) .nil)) (zv rfl rfl (r_neq (vq 2 rfl) has_num) o0)))) (fun a w hst=>?_)
  have hst:St B w0 39 [(5,_),(6,_),(31,_)] [⟨2,73,ptrH,_⟩,⟨3,73,ptrH,_⟩,⟨4,26,ptrH,_⟩,⟨7,73,ptrH,_⟩,⟨8,73,ptrH,_⟩] a w:=hst
  refine thn_normal ?_
  refine cond_of hst (zm 2 rfl) (fun hb1=>?_) (fun hb1=>?_)
  ·rw [sgn_ne,Bool.not_eq_true',decide_eq_false_iff_not] at hb1
   have hb1:=fun h=>hb1 (ln_im.2 h)
   refine wp_seq ?_
   refine gl (sts:=[none,none,some (1,_),none,none]) (news:=[]) (sp:=[.val 32 _,.sto 2,.val 5 _,.val 6 _]) [.o 2,.o 3] hst (zv rfl rfl (r_build (xs:=[]) (qs:=[]) str_frac .nil) (oc (ob_sto rfl rfl rfl (vq 0 rfl) ty_26 (Eq.trans (b:=4) rfl rfl)) (zv rfl rfl (r_assign has_bo) (zv rfl rfl (r_assign has_num) o0)))) (fun a w hst=>?_)
   have hst:St B w0 39 [(5,_),(6,_)] [⟨2,73,ptrH,_⟩,⟨3,73,ptrH,_⟩,⟨4,26,ptrH,_⟩,⟨7,73,ptrH,_⟩,⟨8,73,ptrH,_⟩] a w:=hst
   refine thn_normal ?_
   refine wp_ret ?_
   refine thn_ret ?_
   refine ret_wk ?_ (ret_many (rs:=[.cell 4 26,.tmp 5,.tmp 6]) rfl hst (.cell (zm 2 rfl) ty_26 (.tmp (zm 0 rfl) (.tmp (zm 1 rfl) .nil))) zd)
   rw [lnF,if_pos hyes,if_neg hb1]; exact wk_id
  ·rw [sgn_ne,Bool.not_eq_false',decide_eq_true_eq] at hb1
   have hb1:=ln_im.1 hb1
   refine wp_skip ?_
   refine zt ?_
   refine gl (sts:=[none,none,some (6,_),none,none]) (news:=[]) (sp:=[.adr 33 8 (.some 0) True,.val 34 _,.val 35 _,.val 36 _,.val 37 _,.val 38 _,.sto 2,.val 5 _,.val 6 _]) [.o 7,.o 8] hst (oc (ob_a rfl rfl (a_fld (lz0 4 rfl) fld_73_0)) (zv rfl rfl (r_loadf 0 rfl zk trivial (lz0 4 rfl) (Sub.part 0 rfl rfl) ty_26) (zv rfl rfl (r_call (xs:=[.tmp 34]) (r20found_q zd) (.cons (vq 1 rfl) .nil)) (zv rfl rfl (r_ex0 (vq 2 rfl)) (zv rfl rfl (r_ex1 (vq 2 rfl)) (zv rfl rfl (r_ex2 (vq 2 rfl)) (oc (ob_sto rfl rfl rfl (vq 3 rfl) ty_26 (Eq.trans (b:=4) rfl rfl)) (zv rfl rfl (r_assign (vq 4 rfl)) (zv rfl rfl (r_assign (vq 5 rfl)) o0))))))))) (fun a w hst=>?_)
   have hst:St B w0 39 [(5,_),(6,_)] [⟨2,73,ptrH,_⟩,⟨3,73,ptrH,_⟩,⟨4,26,ptrH,_⟩,⟨7,73,ptrH,_⟩,⟨8,73,ptrH,_⟩] a w:=hst
   refine thn_normal ?_
   refine wp_ret ?_
   refine ret_wk ?_ (ret_many (rs:=[.cell 4 26,.tmp 5,.tmp 6]) rfl hst (.cell (zm 2 rfl) ty_26 (.tmp (zm 0 rfl) (.tmp (zm 1 rfl) .nil))) zd)
   rw [lnF,if_pos hyes,if_pos hb1,← ln_re]; exact wk_id
theorem r20space_c (x y:RG):Cn Tryz.prog 44 [(RGA x).va,(RGA y).va] (R3 (spF x y)):=by
 refine Cn.intro Tryz.func44 rfl zk nq (fun B w0 a hst=>?_)
 have hst:St B w0 37 [(0,(RGA x).va),(1,(RGA y).va)] [] a w0.w:=hst
 refine wp_seq ?_
 refine gl (sts:=[]) (news:=[⟨2,73,ptrH,some 0,_,none⟩,⟨3,73,ptrH,some 1,_,none⟩,⟨4,26,ptrH,some 2,_,none⟩]) (sp:=[.alc 0,.alc 1,.alc 2,.val 5 _,.val 6 _]) [.o 3,.o 4] hst (oc (ob_box rfl rfl rfl (gq 0 rfl)) (oc (ob_box rfl rfl rfl (gq 1 rfl)) (oc (ob_alc rfl rfl rfl (Str.zero str_frac)) (zv rfl rfl (r_assign has_bo) (zv rfl rfl (r_assign has_num) o0))))) (fun a w hst=>?_)
 have hst:St B w0 37 [(5,_),(6,_)] [⟨2,73,ptrH,_⟩,⟨3,73,ptrH,_⟩,⟨4,26,ptrH,_⟩] a w:=hst
 refine zt ?_
 refine wp_seq ?_
 refine gl (sts:=[none,none,none]) (news:=[]) (sp:=[.val 8 _,.val 9 _,.val 10 _,.val 11 _,.val 12 (Wh (_=false) _),.val 13 (Wh (_=false) _),.val 14 (Wh (_=false) _),.val 15 _]) [.g 0,.g 1,.o 7] hst (zv rfl rfl (r_load (lz0 0 rfl) ty_73) (zv rfl rfl (r_call (xs:=[.tmp 8]) (r20may_c _) (.cons (vq 0 rfl) .nil)) (zv rfl rfl (r_not (vq 1 rfl)) (zv rfl rfl (r_move (vq 2 rfl)) (oc (ob_gd rfl rfl rfl (vq 3 rfl) nq (fun hg=>r_load (lz0 1 rfl) ty_73)) (oc (ob_gd rfl rfl rfl (vq 3 rfl) nq (fun hg=>r_call (xs:=[.tmp 12]) (r20may_c _) (.cons (has_wh (vq 4 rfl) hg) .nil))) (oc (ob_gd rfl rfl rfl (vq 3 rfl) nq (fun hg=>r_not (has_wh (vq 5 rfl) hg))) (zv rfl rfl (r_or (vq 3 rfl) (vq 6 rfl)) o0)))))))) (fun a w hst=>?_)
 have hst:St B w0 37 [(5,_),(6,_),(15,_)] [⟨2,73,ptrH,_⟩,⟨3,73,ptrH,_⟩,⟨4,26,ptrH,_⟩] a w:=hst
 refine thn_normal ?_
 refine cond_of hst (zm 2 rfl) (fun hb0=>?_) (fun hb0=>?_)
 ·have hno:=no20 hb0
  refine wp_seq ?_
  refine gl (sts:=[none,none,some (1,_)]) (news:=[]) (sp:=[.val 16 _,.sto 2,.val 5 _,.val 6 _]) [.o 2,.o 3] hst (zv rfl rfl (r_build (xs:=[]) (qs:=[]) str_frac .nil) (oc (ob_sto rfl rfl rfl (vq 0 rfl) ty_26 (Eq.trans (b:=4) rfl rfl)) (zv rfl rfl (r_assign has_bo) (zv rfl rfl (r_assign has_num) o0)))) (fun a w hst=>?_)
  have hst:St B w0 37 [(5,_),(6,_)] [⟨2,73,ptrH,_⟩,⟨3,73,ptrH,_⟩,⟨4,26,ptrH,_⟩] a w:=hst
  refine thn_normal ?_
  refine wp_ret ?_
  refine thn_ret ?_
  refine ret_wk ?_ (ret_many (rs:=[.cell 4 26,.tmp 5,.tmp 6]) rfl hst (.cell (zm 2 rfl) ty_26 (.tmp (zm 0 rfl) (.tmp (zm 1 rfl) .nil))) zd)
  rw [spF,if_neg (by rw [hno]; decide)]; exact wk_id
 ·have hyes:=yes20 hb0
  obtain ⟨hx,hy⟩:=and_ok hyes
  have hst:=St.wkL hst 0 rfl (qg_x hx.1)
  have hst:=St.wkL hst 1 rfl (qg_x hy.1)
  refine wp_skip ?_
  refine zt ?_
  refine gl (sts:=[none,none,none]) (news:=[⟨7,73,ptrH,some 3,_,some (4,_)⟩]) (sp:=[.val 17 _,.val 18 _,.val 19 _,.alc 3,.sto 3]) [.g 0,.g 1] hst (zv rfl rfl (r_load (lz0 1 rfl) ty_73) (zv rfl rfl (r_load (lz0 0 rfl) ty_73) (zv rfl rfl (r_call (xs:=[.tmp 17,.tmp 18]) (r3minus_q (x:=toG y) (y:=toG x) zd) (.cons (vq 0 rfl) (.cons (vq 1 rfl) .nil))) (oc (ob_alc rfl rfl rfl (Str.zero str_gauss)) (oc (ob_sto rfl rfl rfl (vq 2 rfl) ty_73 (Eq.trans (b:=8) rfl rfl)) o0))))) (fun a w hst=>?_)
  have hst:St B w0 37 [(5,_),(6,_)] [⟨2,73,ptrH,_⟩,⟨3,73,ptrH,_⟩,⟨4,26,ptrH,_⟩,⟨7,73,ptrH,_⟩] a w:=hst
  refine zt ?_
  refine wp_seq ?_
  refine gl (sts:=[none,none,none,none]) (news:=[]) (sp:=[.adr 20 7 (.some 4) True,.val 21 _,.val 22 _,.val 23 _,.val 24 _,.adr 25 7 (.some 0) (_=false),.val 26 (Wh (_=false) _),.val 27 (Wh (_=false) _),.val 28 (Wh (_=false) _),.val 29 _]) [.g 0,.g 1,.o 9] hst (oc (ob_a rfl rfl (a_fld (lz0 3 rfl) fld_73_1)) (zv rfl rfl (r_loadf 0 rfl zk trivial (lz0 3 rfl) (Sub.part 1 rfl rfl) ty_26) (zv rfl rfl (r_call (xs:=[.tmp 21]) r2sign_q (.cons (vq 1 rfl) .nil)) (zv rfl rfl (r_neq (vq 2 rfl) has_num) (zv rfl rfl (r_move (vq 3 rfl)) (oc (ob_ag rfl rfl rfl (vq 4 rfl) nq (fun hg=>a_fld (lz0 3 rfl) fld_73_0)) (oc (ob_gd rfl rfl rfl (vq 4 rfl) nq (fun hg=>r_loadf 5 rfl zk hg (lz0 3 rfl) (Sub.part 0 rfl rfl) ty_26)) (oc (ob_gd rfl rfl rfl (vq 4 rfl) nq (fun hg=>r_call (xs:=[.tmp 26]) r2sign_q (.cons (has_wh (vq 6 rfl) hg) .nil))) (oc (ob_gd rfl rfl rfl (vq 4 rfl) nq (fun hg=>r_lss (has_wh (vq 7 rfl) hg) has_num)) (zv rfl rfl (r_or (vq 4 rfl) (vq 8 rfl)) o0)))))))))) (fun a w hst=>?_)
  have hst:St B w0 37 [(5,_),(6,_),(29,_)] [⟨2,73,ptrH,_⟩,⟨3,73,ptrH,_⟩,⟨4,26,ptrH,_⟩,⟨7,73,ptrH,_⟩] a w:=hst
  refine thn_normal ?_
  refine cond_of hst (zm 2 rfl) (fun hb1=>?_) (fun hb1=>?_)
  ·have hb1:=sp_yes' (x:=toG x) (y:=toG y) hb1
   refine wp_seq ?_
   refine gl (sts:=[none,none,some (1,_),none]) (news:=[]) (sp:=[.val 30 _,.sto 2,.val 5 _,.val 6 _]) [.o 2,.o 3] hst (zv rfl rfl (r_build (xs:=[]) (qs:=[]) str_frac .nil) (oc (ob_sto rfl rfl rfl (vq 0 rfl) ty_26 (Eq.trans (b:=4) rfl rfl)) (zv rfl rfl (r_assign has_bo) (zv rfl rfl (r_assign has_num) o0)))) (fun a w hst=>?_)
   have hst:St B w0 37 [(5,_),(6,_)] [⟨2,73,ptrH,_⟩,⟨3,73,ptrH,_⟩,⟨4,26,ptrH,_⟩,⟨7,73,ptrH,_⟩] a w:=hst
   refine thn_normal ?_
   refine wp_ret ?_
   refine thn_ret ?_
   refine ret_wk ?_ (ret_many (rs:=[.cell 4 26,.tmp 5,.tmp 6]) rfl hst (.cell (zm 2 rfl) ty_26 (.tmp (zm 0 rfl) (.tmp (zm 1 rfl) .nil))) zd)
   rw [spF,if_pos hyes,if_neg hb1]; exact wk_id
  ·have hb1:=sp_no' (x:=toG x) (y:=toG y) hb1
   refine wp_skip ?_
   refine zt ?_
   refine gl (sts:=[none,none,some (6,_),none]) (news:=[]) (sp:=[.adr 31 7 (.some 0) True,.val 32 _,.val 33 _,.val 34 _,.val 35 _,.val 36 _,.sto 2,.val 5 _,.val 6 _]) [.o 7,.o 8] hst (oc (ob_a rfl rfl (a_fld (lz0 3 rfl) fld_73_0)) (zv rfl rfl (r_loadf 0 rfl zk trivial (lz0 3 rfl) (Sub.part 0 rfl rfl) ty_26) (zv rfl rfl (r_call (xs:=[.tmp 32]) (r20found_q zd) (.cons (vq 1 rfl) .nil)) (zv rfl rfl (r_ex0 (vq 2 rfl)) (zv rfl rfl (r_ex1 (vq 2 rfl)) (zv rfl rfl (r_ex2 (vq 2 rfl)) (oc (ob_sto rfl rfl rfl (vq 3 rfl) ty_26 (Eq.trans (b:=4) rfl rfl)) (zv rfl rfl (r_assign (vq 4 rfl)) (zv rfl rfl (r_assign (vq 5 rfl)) o0))))))))) (fun a w hst=>?_)
   have hst:St B w0 37 [(5,_),(6,_)] [⟨2,73,ptrH,_⟩,⟨3,73,ptrH,_⟩,⟨4,26,ptrH,_⟩,⟨7,73,ptrH,_⟩] a w:=hst
   refine thn_normal ?_
   refine wp_ret ?_
   refine ret_wk ?_ (ret_many (rs:=[.cell 4 26,.tmp 5,.tmp 6]) rfl hst (.cell (zm 2 rfl) ty_26 (.tmp (zm 0 rfl) (.tmp (zm 1 rfl) .nil))) zd)
   rw [spF,if_pos hyes,if_pos hb1]; exact wk_id
end Go.Proofs.YthncfchnkjemiaaGreatDoor
namespace Go.Proofs.YthncfchnkjemiaaGreatDoor
open Go Go.RowKit
open Go.ChangeShapes Go.WideShapes Go.ChangeAt
section
variable {H:Type} {enc:TypeId × Value→H} {w:World} {base:Nat} {spare:Nat→Bool} {held:Bool} {fuel:Nat} {cs:List Value} {x:DataW H × List MemPlace}
end
end Go.Proofs.YthncfchnkjemiaaGreatDoor
namespace Go.Proofs.YthncfchnkjemiaaGreatDoor
open Go Go.RowKit
open Go.ChangeShapes Go.WideShapes Go.ChangeAt
def wdI (x:RI):Prop:=x.mag.length≤140737488355328
def wdF (x:RF):Prop:=wdI x.num∧wdI x.den
abbrev Wt {H:Type} (P:Program) (t:TypeId) (d:DataW H):Prop:=∀ n∈d.weights P t,n≤reachBytes
section
variable {H:Type} {enc:TypeId × Value→H} {w:World} {base:Nat} {spare:Nat→Bool} {held:Bool} {fuel:Nat} {cs:List Value} {x:DataW H × List MemPlace}
theorem rb_mg (h:DataW.trod enc Tryz.prog w base spare held fuel 22 cs=some x) (hw:Wt Tryz.prog 22 x.1):∃ l,(MgA l).p w.heap.size cs w∧l.length≤140737488355328:=by
 obtain ⟨l,hl⟩:=rd_mg h
 refine ⟨l,hl,?_⟩
 rcases open_ints Tryz.underlying22 Tryz.underlying168 zk h with ⟨hcs,_⟩ | ⟨a,len,cap,zs,rfl,_,h1,hm,hz,hx,hcell,hwz⟩
 ·subst hcs
  obtain ⟨_,_,A,c,ds,e,_⟩:=hl
  rw [List.length_map] at e
  simp only [List.cons.injEq,Value.slice.injEq,and_true] at e
  omega
 ·obtain ⟨_,_,A,c,ds,e,_⟩:=hl
  rw [List.length_map] at e
  simp only [List.cons.injEq,Value.slice.injEq,and_true] at e
  have h4:Tryz.prog.bytesOf 168=4:=by kernel_rfl
  have:=hw (((lits .u32 (zs.take len):List (DataW H)).length+(lits .u32 (zs.drop len):List (DataW H)).length)*Tryz.prog.bytesOf 168) (by rw [hx]; simp [DataW.weights,Tryz.underlying22,lits])
  rw [h4] at this
  simp only [lits,List.length_map,List.length_take,List.length_drop] at this
  have hlen:len≤zs.length:=by rw [hz]; split <;> omega
  unfold reachBytes at this
  omega
theorem rb_part {P:Program} {t:TypeId} {fs:Array Field} (ht:P.underlying t=some (.struct fs)) (h:DataW.trod enc P w base spare held fuel t cs=some x) (hw:Wt P t x.1) (j:Nat) {f:Field} (hf:fs[j]?=some f) :
  ∃ n y,DataW.trod enc P w base spare held n f.type ((cs.drop f.offset).take (P.cellsOf f.type))=some y∧Wt P f.type y.1:=by
 obtain ⟨xs,n,_,hx,_,hlen,hel⟩:=DataW.trod_struct ht h
 have hj:j<fs.size:=(Array.getElem?_eq_some_iff.1 hf).1
 have h1:=hel j f hf
 rw [List.getElem?_eq_getElem zo] at h1
 refine ⟨n,_,h1,fun k hk=>hw k ?_⟩
 rw [hx]
 simp only [DataW.weights,ht]
 exact DataW.weights_mem_each (j:=j) (by rw [List.getElem?_map]; show (fs.toList[j]?).map _=_; rw [Array.getElem?_toList,hf]; rfl) (by rw [List.getElem?_map,List.getElem?_eq_getElem zo]; rfl) k hk
theorem rb_ri (h:DataW.trod enc Tryz.prog w base spare held fuel 24 cs=some x) (hw:Wt Tryz.prog 24 x.1):∃ y,(RIA y).p w.heap.size cs w∧wdI y:=by
 have hl:cs.length=2:=by
  obtain ⟨_,_,_,_,hl,_,_⟩:=DataW.trod_struct Tryz.underlying24 h
  exact hl.trans zk
 obtain ⟨n0,y0,h0,w0⟩:=rb_part Tryz.underlying24 h hw 0 rfl
 have c0:Tryz.prog.cellsOf 4=1:=by kernel_rfl
 have h0:DataW.trod enc Tryz.prog w base spare held n0 4 ((cs.drop 0).take (Tryz.prog.cellsOf 4))=some y0:=h0
 rw [c0] at h0
 obtain ⟨a0,q0⟩:=rd_bo h0
 obtain ⟨n1,y1,h1,w1⟩:=rb_part Tryz.underlying24 h hw 1 rfl
 have c1:Tryz.prog.cellsOf 22=1:=by kernel_rfl
 have h1:DataW.trod enc Tryz.prog w base spare held n1 22 ((cs.drop 1).take (Tryz.prog.cellsOf 22))=some y1:=h1
 rw [c1] at h1
 obtain ⟨a1,q1,b1⟩:=rb_mg h1 w1
 exact ⟨⟨a0,a1⟩,cat_two q0 q1 hl,b1⟩
theorem rb_rf (h:DataW.trod enc Tryz.prog w base spare held fuel 26 cs=some x) (hw:Wt Tryz.prog 26 x.1):∃ y,(RFA y).p w.heap.size cs w∧wdF y:=by
 have hl:cs.length=4:=by
  obtain ⟨_,_,_,_,hl,_,_⟩:=DataW.trod_struct Tryz.underlying26 h
  exact hl.trans zk
 obtain ⟨n0,y0,h0,w0⟩:=rb_part Tryz.underlying26 h hw 0 rfl
 have c0:Tryz.prog.cellsOf 24=2:=by kernel_rfl
 have h0:DataW.trod enc Tryz.prog w base spare held n0 24 ((cs.drop 0).take (Tryz.prog.cellsOf 24))=some y0:=h0
 rw [c0] at h0
 obtain ⟨a0,q0,b0⟩:=rb_ri h0 w0
 obtain ⟨n1,y1,h1,w1⟩:=rb_part Tryz.underlying26 h hw 1 rfl
 have c1:Tryz.prog.cellsOf 24=2:=by kernel_rfl
 have h1:DataW.trod enc Tryz.prog w base spare held n1 24 ((cs.drop 2).take (Tryz.prog.cellsOf 24))=some y1:=h1
 rw [c1] at h1
 obtain ⟨a1,q1,b1⟩:=rb_ri h1 w1
 exact ⟨⟨a0,a1⟩,cat_two q0 q1 hl,⟨b0,b1⟩⟩
def wdG (x:RG):Prop:=wdF x.re∧wdF x.im
theorem rb_rg (h:DataW.trod enc Tryz.prog w base spare held fuel 73 cs=some x) (hw:Wt Tryz.prog 73 x.1):∃ y,(RGA y).p w.heap.size cs w∧wdG y:=by
 have hl:cs.length=8:=by
  obtain ⟨_,_,_,_,hl,_,_⟩:=DataW.trod_struct Tryz.underlying73 h
  exact hl.trans zk
 obtain ⟨n0,y0,h0,w0⟩:=rb_part Tryz.underlying73 h hw 0 rfl
 have c0:Tryz.prog.cellsOf 26=4:=by kernel_rfl
 have h0:DataW.trod enc Tryz.prog w base spare held n0 26 ((cs.drop 0).take (Tryz.prog.cellsOf 26))=some y0:=h0
 rw [c0] at h0
 obtain ⟨a0,q0,b0⟩:=rb_rf h0 w0
 obtain ⟨n1,y1,h1,w1⟩:=rb_part Tryz.underlying73 h hw 1 rfl
 have c1:Tryz.prog.cellsOf 26=4:=by kernel_rfl
 have h1:DataW.trod enc Tryz.prog w base spare held n1 26 ((cs.drop 4).take (Tryz.prog.cellsOf 26))=some y1:=h1
 rw [c1] at h1
 obtain ⟨a1,q1,b1⟩:=rb_rf h1 w1
 exact ⟨⟨a0,a1⟩,cat_two q0 q1 hl,⟨b0,b1⟩⟩
theorem arg_ofB {P:Program} {α:Type} {A:α→As} {bd:α→Prop} {t:TypeId} {fs:Array Field} {r:Reach} {b0:Nat} {v:Value} {d:DataW H} {p:List MemPlace} (hag:∀ y,(A y).ag=true) (ht:P.underlying t=some (.struct fs))
  (rd:∀ {fuel:Nat} {cs:List Value} {x:DataW H × List MemPlace},DataW.trod enc P w base spare held fuel t cs=some x→Wt P t x.1→∃ y,(A y).p w.heap.size cs w∧bd y)
  (hv:Value.okWide P w r b0 t v) (h:DataW.Trod enc P w base spare held t v d p) (hw:Wt P t d):∃ y,(A y).va.p w.heap.size v w∧bd y:=by
 obtain ⟨cs,hcs,_⟩:=okWide_struct ht hv
 subst hcs
 obtain ⟨fuel,hf⟩:=h
 obtain ⟨y,hy,hb⟩:=rd hf hw
 refine ⟨y,⟨cs.toList,hy,?_⟩,hb⟩
 unfold shape
 rw [hag y,if_pos rfl]
theorem wt_of {P:Program} {ts:List TypeId} {ds:List (DataW H)} (h:(DataW.weightsEach P ts ds).all (· ≤ reachBytes)=true) (j:Nat) {t:TypeId} {d:DataW H} (ht:ts[j]?=some t) (hd:ds[j]?=some d):Wt P t d:=fun n hn=>by
 have:=List.all_eq_true.1 h n (DataW.weights_mem_each ht hd n hn)
 simpa using this
end
theorem frac_cost {x:RF} (h:wdF x):∃ c:Nat,fracCostF x=(c:Int)∧x.num.mag.length+x.den.mag.length+2≤c∧c≤4503599627370496:=by
 obtain ⟨h1,h2⟩:=h
 unfold wdI at h1 h2
 have e1:intSizeF x.num=((1+x.num.mag.length:Nat):Int):=by unfold intSizeF; rw [wi64 zo zo]; omega
 have e2:intSizeF x.den=((1+x.den.mag.length:Nat):Int):=by unfold intSizeF; rw [wi64 zo zo]; omega
 have e3:fracSizeF x=((2+x.num.mag.length+x.den.mag.length:Nat):Int):=by unfold fracSizeF; rw [e1,e2,wi64 zo zo]; omega
 obtain ⟨u,hu⟩:∃ u:Nat,u=min x.num.mag.length 1048576:=⟨_,rfl⟩
 obtain ⟨v,hv⟩:∃ v:Nat,v=min x.den.mag.length 1048576:=⟨_,rfl⟩
 have hu':min (x.num.mag.length:Int) 1048576=(u:Int):=by omega
 have hv':min (x.den.mag.length:Int) 1048576=(v:Int):=by omega
 have huv:u*v≤1048576*1048576:=Nat.mul_le_mul zo zo
 have h16:u*v / 16≤68719476736:=Nat.le_trans (Nat.div_le_div_right huv) zd
 have e4:lowCostF x.num x.den=((u*v / 16*1024:Nat):Int):=by
  unfold lowCostF
  have t1:IntKind.i64.wrap (((u*v:Nat):Int))=((u*v:Nat):Int):=wi64 zo zo
  have t2:(((u*v:Nat):Int)).tdiv 16=((u*v / 16:Nat):Int):=by rw [show (16:Int)=((16:Nat):Int) from rfl,Int.tdiv_eq_ediv_of_nonneg zo,← Int.natCast_ediv]
  have t3:IntKind.i64.wrap (((u*v / 16:Nat):Int))=((u*v / 16:Nat):Int):=wi64 zo zo
  rw [hu',hv',← Int.natCast_mul,t1,t2,t3,wi64 zo zo]
  omega
 refine ⟨2+x.num.mag.length+x.den.mag.length+u*v / 16*1024,?_,by omega,by omega⟩
 unfold fracCostF
 rw [e3,e4,wi64 zo zo]
 omega
theorem byd_sum {n:Nat} {l:List Nat} (hn:n+l.sum≤9223372036854775807) (h:bydF (n:Int) (l.map fun (x:Nat)=>(x:Int))=false):n≤1048576∨l=[]→n+l.sum≤1048576∨l=[]:=by
 induction l generalizing n with
 | nil=>exact fun _=>.inr rfl
 | cons x l ih =>
  intro _
  simp only [List.sum_cons] at hn
  simp only [List.map_cons,bydF] at h
  rw [wi64 zo zo] at h
  split at h
  ·cases h
  ·rename_i h1
   have h2:n+x≤1048576:=by
    rw [decide_eq_true_eq] at h1
    omega
   rw [show ((n:Int)+(x:Int))=((n+x:Nat):Int) from rfl] at h
   rcases ih (n:=n+x) zo h (.inl h2) with h3 | h3
   ·left; simp only [List.sum_cons]; omega
   ·subst h3; left; simp; omega
theorem byd_0 {l:List Nat} (hn:l.sum≤9223372036854775807) (h:bydF 0 (l.map fun (x:Nat)=>(x:Int))=false):l.sum≤1048576:=by
 rcases byd_sum (n:=0) zo h (.inl zd) with h | h
 ·omega
 ·subst h; decide
theorem gauss_cost {x:RG} (h:wdG x):∃ a b:Nat,gaussCostF x=((a+b:Nat):Int)∧(x.re.num.mag.length+x.re.den.mag.length≤a∧x.im.num.mag.length+x.im.den.mag.length≤b)∧a+b≤9007199254740992:=by
 obtain ⟨h1,h2⟩:=h
 obtain ⟨a,ea,la,ma⟩:=frac_cost h1
 obtain ⟨b,eb,lb,mb⟩:=frac_cost h2
 refine ⟨a,b,?_,⟨by omega,by omega⟩,by omega⟩
 unfold gaussCostF
 rw [ea,eb,wi64 zo zo]
 omega
end Go.Proofs.YthncfchnkjemiaaGreatDoor
