import Derived.Test.YtckfapioofbfpaaGreatDoorBwAa
import Derived.Test.YtckfapioofbfpaaGreatDoorProg
import Derived.Laws.Bits64b
import Derived.Lib.MinMax
import Derived.Laws.BitsLemmas
import Derived.OwnWalk
import Derived.Maps.AppendAt
import Derived.Lib.Walk
import Derived.Lib.SliceRun
import Derived.Scope
set_option linter.all false
set_option maxRecDepth 100000
namespace Go.Proofs.YtckfapioofbfpaaGreatDoor
open Go Go.RowKit
theorem fC:Fld Tryz.prog 106 0 0 4:=⟨_,_,Tryz.underlying106,rfl,rfl,by kernel_rfl,by decide⟩
theorem fB:Fld Tryz.prog 106 1 4 4:=⟨_,_,Tryz.underlying106,rfl,rfl,by kernel_rfl,by decide⟩
theorem cv:Fld Tryz.prog 117 0 0 4:=⟨_,_,Tryz.underlying117,rfl,rfl,by kernel_rfl,by decide⟩
theorem cj:Fld Tryz.prog 117 1 4 4:=⟨_,_,Tryz.underlying117,rfl,rfl,by kernel_rfl,by decide⟩
theorem rg:Fld Tryz.prog 128 0 0 4:=⟨_,_,Tryz.underlying128,rfl,rfl,by kernel_rfl,by decide⟩
theorem rf:Fld Tryz.prog 128 1 4 4:=⟨_,_,Tryz.underlying128,rfl,rfl,by kernel_rfl,by decide⟩
theorem rc:Fld Tryz.prog 128 2 8 4:=⟨_,_,Tryz.underlying128,rfl,rfl,by kernel_rfl,by decide⟩
theorem rb:Fld Tryz.prog 128 3 12 4:=⟨_,_,Tryz.underlying128,rfl,rfl,by kernel_rfl,by decide⟩
theorem ez:Fld Tryz.prog 138 0 0 1:=⟨_,_,Tryz.underlying138,rfl,rfl,by kernel_rfl,by decide⟩
theorem io:Fld Tryz.prog 138 1 1 1:=⟨_,_,Tryz.underlying138,rfl,rfl,by kernel_rfl,by decide⟩
theorem il:Fld Tryz.prog 138 2 2 1:=⟨_,_,Tryz.underlying138,rfl,rfl,by kernel_rfl,by decide⟩
theorem ey:Fld Tryz.prog 142 0 0 1:=⟨_,_,Tryz.underlying142,rfl,rfl,by kernel_rfl,by decide⟩
theorem ik:Fld Tryz.prog 142 1 1 1:=⟨_,_,Tryz.underlying142,rfl,rfl,by kernel_rfl,by decide⟩
theorem ij:Fld Tryz.prog 142 2 2 1:=⟨_,_,Tryz.underlying142,rfl,rfl,by kernel_rfl,by decide⟩
theorem aT:Fld Tryz.prog 26 0 0 1:=⟨_,_,Tryz.underlying26,rfl,rfl,by kernel_rfl,by decide⟩
theorem aq:Fld Tryz.prog 26 1 1 1:=⟨_,_,Tryz.underlying26,rfl,rfl,by kernel_rfl,by decide⟩
theorem aV:Fld Tryz.prog 28 0 0 2:=⟨_,_,Tryz.underlying28,rfl,rfl,by kernel_rfl,by decide⟩
theorem aR:Fld Tryz.prog 28 1 2 2:=⟨_,_,Tryz.underlying28,rfl,rfl,by kernel_rfl,by decide⟩
theorem ca:Fld Tryz.prog 30 0 0 1:=⟨_,_,Tryz.underlying30,rfl,rfl,by kernel_rfl,by decide⟩
theorem bK:Fld Tryz.prog 30 1 1 1:=⟨_,_,Tryz.underlying30,rfl,rfl,by kernel_rfl,by decide⟩
theorem ek:Fld Tryz.prog 30 2 2 4:=⟨_,_,Tryz.underlying30,rfl,rfl,by kernel_rfl,by decide⟩
theorem lL:Fld Tryz.prog 36 0 0 1:=⟨_,_,Tryz.underlying36,rfl,rfl,by kernel_rfl,by decide⟩
theorem lK:Fld Tryz.prog 36 1 1 4:=⟨_,_,Tryz.underlying36,rfl,rfl,by kernel_rfl,by decide⟩
theorem oM:Fld Tryz.prog 36 2 5 1:=⟨_,_,Tryz.underlying36,rfl,rfl,by kernel_rfl,by decide⟩
theorem fZ:Fld Tryz.prog 59 0 0 1:=⟨_,_,Tryz.underlying59,rfl,rfl,by kernel_rfl,by decide⟩
theorem du:Fld Tryz.prog 59 1 1 1:=⟨_,_,Tryz.underlying59,rfl,rfl,by kernel_rfl,by decide⟩
theorem my:Fld Tryz.prog 59 10 10 1:=⟨_,_,Tryz.underlying59,rfl,rfl,by kernel_rfl,by decide⟩
theorem mx:Fld Tryz.prog 59 11 11 1:=⟨_,_,Tryz.underlying59,rfl,rfl,by kernel_rfl,by decide⟩
theorem mw:Fld Tryz.prog 59 12 12 1:=⟨_,_,Tryz.underlying59,rfl,rfl,by kernel_rfl,by decide⟩
theorem mv:Fld Tryz.prog 59 13 13 1:=⟨_,_,Tryz.underlying59,rfl,rfl,by kernel_rfl,by decide⟩
theorem mu:Fld Tryz.prog 59 14 14 1:=⟨_,_,Tryz.underlying59,rfl,rfl,by kernel_rfl,by decide⟩
theorem mt:Fld Tryz.prog 59 15 15 1:=⟨_,_,Tryz.underlying59,rfl,rfl,by kernel_rfl,by decide⟩
theorem ms:Fld Tryz.prog 59 16 16 1:=⟨_,_,Tryz.underlying59,rfl,rfl,by kernel_rfl,by decide⟩
theorem dt:Fld Tryz.prog 59 2 2 1:=⟨_,_,Tryz.underlying59,rfl,rfl,by kernel_rfl,by decide⟩
theorem oL:Fld Tryz.prog 59 3 3 1:=⟨_,_,Tryz.underlying59,rfl,rfl,by kernel_rfl,by decide⟩
theorem oK:Fld Tryz.prog 59 4 4 1:=⟨_,_,Tryz.underlying59,rfl,rfl,by kernel_rfl,by decide⟩
theorem oJ:Fld Tryz.prog 59 5 5 1:=⟨_,_,Tryz.underlying59,rfl,rfl,by kernel_rfl,by decide⟩
theorem oI:Fld Tryz.prog 59 6 6 1:=⟨_,_,Tryz.underlying59,rfl,rfl,by kernel_rfl,by decide⟩
theorem oH:Fld Tryz.prog 59 7 7 1:=⟨_,_,Tryz.underlying59,rfl,rfl,by kernel_rfl,by decide⟩
theorem oG:Fld Tryz.prog 59 8 8 1:=⟨_,_,Tryz.underlying59,rfl,rfl,by kernel_rfl,by decide⟩
theorem oF:Fld Tryz.prog 59 9 9 1:=⟨_,_,Tryz.underlying59,rfl,rfl,by kernel_rfl,by decide⟩
theorem fY:Fld Tryz.prog 71 0 0 1:=⟨_,_,Tryz.underlying71,rfl,rfl,by kernel_rfl,by decide⟩
theorem eT:Fld Tryz.prog 71 1 1 4:=⟨_,_,Tryz.underlying71,rfl,rfl,by kernel_rfl,by decide⟩
theorem fX:Fld Tryz.prog 71 2 5 4:=⟨_,_,Tryz.underlying71,rfl,rfl,by kernel_rfl,by decide⟩
theorem ii:Fld Tryz.prog 71 3 9 1:=⟨_,_,Tryz.underlying71,rfl,rfl,by kernel_rfl,by decide⟩
theorem ej:Fld Tryz.prog 80 0 0 1:=⟨_,_,Tryz.underlying80,rfl,rfl,by kernel_rfl,by decide⟩
theorem oE:Fld Tryz.prog 80 1 1 4:=⟨_,_,Tryz.underlying80,rfl,rfl,by kernel_rfl,by decide⟩
theorem eS:Fld Tryz.prog 80 2 5 1:=⟨_,_,Tryz.underlying80,rfl,rfl,by kernel_rfl,by decide⟩
theorem fW:Fld Tryz.prog 80 3 6 4:=⟨_,_,Tryz.underlying80,rfl,rfl,by kernel_rfl,by decide⟩
theorem ei:Fld Tryz.prog 91 0 0 1:=⟨_,_,Tryz.underlying91,rfl,rfl,by kernel_rfl,by decide⟩
theorem c6:Fld Tryz.prog 91 1 1 4:=⟨_,_,Tryz.underlying91,rfl,rfl,by kernel_rfl,by decide⟩
theorem cu:Fld Tryz.prog 91 2 5 4:=⟨_,_,Tryz.underlying91,rfl,rfl,by kernel_rfl,by decide⟩
theorem dK:Fld Tryz.prog 93 0 0 1:=⟨_,_,Tryz.underlying93,rfl,rfl,by kernel_rfl,by decide⟩
theorem eh:Fld Tryz.prog 93 1 1 9:=⟨_,_,Tryz.underlying93,rfl,rfl,by kernel_rfl,by decide⟩
theorem dr:Fld Tryz.prog 93 2 10 1:=⟨_,_,Tryz.underlying93,rfl,rfl,by kernel_rfl,by decide⟩
theorem Ls:Sl Tryz.prog 134 5 1:=⟨by kernel_rfl,by kernel_rfl⟩
theorem db:Sl Tryz.prog 22 28 4:=⟨by kernel_rfl,by kernel_rfl⟩
theorem fg:Sl Tryz.prog 23 93 11:=⟨by kernel_rfl,by kernel_rfl⟩
theorem aZ:Sl Tryz.prog 24 139 1:=⟨by kernel_rfl,by kernel_rfl⟩
theorem yI:Sl Tryz.prog 261 26 2:=⟨by kernel_rfl,by kernel_rfl⟩
theorem dN:Sl Tryz.prog 34 3 1:=⟨by kernel_rfl,by kernel_rfl⟩
theorem Ow:Sl Tryz.prog 42 138 3:=⟨by kernel_rfl,by kernel_rfl⟩
theorem Ov:Sl Tryz.prog 43 142 3:=⟨by kernel_rfl,by kernel_rfl⟩
theorem yH:Sl Tryz.prog 96 91 9:=⟨by kernel_rfl,by kernel_rfl⟩
theorem gK:Ty Tryz.prog 106 8 true:=⟨by kernel_rfl,by kernel_rfl⟩
theorem Ld:Ty Tryz.prog 114 1 false:=⟨by kernel_rfl,by kernel_rfl⟩
theorem yr:Ty Tryz.prog 115 1 false:=⟨by kernel_rfl,by kernel_rfl⟩
theorem gJ:Ty Tryz.prog 117 8 true:=⟨by kernel_rfl,by kernel_rfl⟩
theorem cM:Ty Tryz.prog 128 16 true:=⟨by kernel_rfl,by kernel_rfl⟩
theorem mZ:Ty Tryz.prog 138 3 true:=⟨by kernel_rfl,by kernel_rfl⟩
theorem aN:Ty Tryz.prog 139 1 false:=⟨by kernel_rfl,by kernel_rfl⟩
theorem mY:Ty Tryz.prog 142 3 true:=⟨by kernel_rfl,by kernel_rfl⟩
theorem fc:Ty Tryz.prog 22 1 false:=⟨by kernel_rfl,by kernel_rfl⟩
theorem dW:Ty Tryz.prog 23 1 false:=⟨by kernel_rfl,by kernel_rfl⟩
theorem aW:Ty Tryz.prog 24 1 false:=⟨by kernel_rfl,by kernel_rfl⟩
theorem ao:Ty Tryz.prog 26 2 true:=⟨by kernel_rfl,by kernel_rfl⟩
theorem au:Ty Tryz.prog 28 4 true:=⟨by kernel_rfl,by kernel_rfl⟩
theorem ty_3:Ty Tryz.prog 3 1 false:=⟨by kernel_rfl,by kernel_rfl⟩
theorem cU:Ty Tryz.prog 30 6 true:=⟨by kernel_rfl,by kernel_rfl⟩
theorem cC:Ty Tryz.prog 34 1 false:=⟨by kernel_rfl,by kernel_rfl⟩
theorem dV:Ty Tryz.prog 36 6 true:=⟨by kernel_rfl,by kernel_rfl⟩
theorem ty_4:Ty Tryz.prog 4 1 false:=⟨by kernel_rfl,by kernel_rfl⟩
theorem mQ:Ty Tryz.prog 42 1 false:=⟨by kernel_rfl,by kernel_rfl⟩
theorem mP:Ty Tryz.prog 43 1 false:=⟨by kernel_rfl,by kernel_rfl⟩
theorem HJ:Ty Tryz.prog 44 1 false:=⟨by kernel_rfl,by kernel_rfl⟩
theorem HI:Ty Tryz.prog 45 1 false:=⟨by kernel_rfl,by kernel_rfl⟩
theorem HH:Ty Tryz.prog 46 1 false:=⟨by kernel_rfl,by kernel_rfl⟩
theorem HG:Ty Tryz.prog 47 1 false:=⟨by kernel_rfl,by kernel_rfl⟩
theorem HF:Ty Tryz.prog 48 1 false:=⟨by kernel_rfl,by kernel_rfl⟩
theorem HE:Ty Tryz.prog 49 1 false:=⟨by kernel_rfl,by kernel_rfl⟩
theorem ty_5:Ty Tryz.prog 5 1 false:=⟨by kernel_rfl,by kernel_rfl⟩
theorem HD:Ty Tryz.prog 50 1 false:=⟨by kernel_rfl,by kernel_rfl⟩
theorem HC:Ty Tryz.prog 51 1 false:=⟨by kernel_rfl,by kernel_rfl⟩
theorem HB:Ty Tryz.prog 52 1 false:=⟨by kernel_rfl,by kernel_rfl⟩
theorem HA:Ty Tryz.prog 53 1 false:=⟨by kernel_rfl,by kernel_rfl⟩
theorem Hz:Ty Tryz.prog 54 1 false:=⟨by kernel_rfl,by kernel_rfl⟩
theorem Hy:Ty Tryz.prog 55 1 false:=⟨by kernel_rfl,by kernel_rfl⟩
theorem Hx:Ty Tryz.prog 56 1 false:=⟨by kernel_rfl,by kernel_rfl⟩
theorem Hw:Ty Tryz.prog 57 1 false:=⟨by kernel_rfl,by kernel_rfl⟩
theorem pj:Ty Tryz.prog 71 10 true:=⟨by kernel_rfl,by kernel_rfl⟩
theorem iH:Ty Tryz.prog 80 10 true:=⟨by kernel_rfl,by kernel_rfl⟩
theorem pi:Ty Tryz.prog 89 1 false:=⟨by kernel_rfl,by kernel_rfl⟩
theorem ty_9:Ty Tryz.prog 9 1 false:=⟨by kernel_rfl,by kernel_rfl⟩
theorem gf:Ty Tryz.prog 91 9 true:=⟨by kernel_rfl,by kernel_rfl⟩
theorem gI:Ty Tryz.prog 93 11 true:=⟨by kernel_rfl,by kernel_rfl⟩
abbrev z6:=@Array.all_eq_true'
abbrev jO:=@Array.any_eq_true'
abbrev vY:=@Array.empty_append
abbrev jN:=@Array.ext_getElem?
abbrev vM:=@Array.length_toList
abbrev vA:=@Array.mem_of_getElem?
abbrev xj:=@Array.size_append
abbrev qO:=@Array.size_replicate
abbrev wn:=@Array.toList_map
abbrev x8:=@Array.toList_setIfInBounds
abbrev jw:=@Bool.and_eq_false_iff
abbrev qo:=@Bool.and_eq_true
abbrev jg:=@Bool.and_true
abbrev xI:=@Bool.eq_false_iff
abbrev jk:=@Bool.eq_iff_iff
abbrev vX:=@Bool.false_ne_true
abbrev xQ:=@Bool.false_or
abbrev jM:=@Bool.not_eq_false'
abbrev qz:=@Bool.not_eq_true'
abbrev jL:=@Bool.not_false
abbrev vj:=@Bool.not_true
abbrev qN:=@Bool.or_eq_false_iff
abbrev zU:=@Bool.or_eq_true
abbrev vw:=@Bool.or_true
abbrev kw:=@Bool.true_and
abbrev jY:=@Eq.symm
abbrev xH:=@Eq.trans
abbrev jF:=@Int.add_zero
abbrev xW:=@Int.gcd_pos_of_ne_zero_right
abbrev kT:=@Int.lt_trichotomy
abbrev vi:=@Int.mul_ediv_cancel_left
abbrev k7:=@Int.mul_ne_zero
abbrev jR:=@Int.mul_neg_of_neg_of_pos
abbrev jQ:=@Int.mul_neg_of_pos_of_neg
abbrev vG:=@Int.mul_pos
abbrev vb:=@Int.mul_pos_of_neg_of_neg
abbrev vh:=@Int.mul_tdiv_cancel_left
abbrev vv:=@Int.mul_zero
abbrev jK:=@Int.natAbs_mul
abbrev kA:=@Int.natAbs_natCast
abbrev j3:=@Int.natCast_ediv
abbrev xJ:=@Int.natCast_mul
abbrev kS:=@Int.ofNat_le
abbrev kR:=@Int.ofNat_lt
abbrev xO:=@Int.sign_eq_neg_one_of_neg
abbrev xV:=@Int.sign_eq_one_of_pos
abbrev wm:=@Int.sign_neg_iff
abbrev x7:=@Int.tdiv_eq_ediv_of_nonneg
abbrev ww:=@Int.tmod_nonneg
abbrev xi:=@Int.toNat_natCast
abbrev kQ:=@Int.zero_sub
abbrev wv:=@List.all_append
abbrev jf:=@List.all_cons
abbrev wc:=@List.all_eq_false
abbrev qe:=@List.all_eq_true
abbrev jt:=@List.all_nil
abbrev k6:=@List.any_append
abbrev xF:=@List.any_eq_false
abbrev jy:=@List.any_eq_true
abbrev qY:=@List.append_assoc
abbrev zr:=@List.append_nil
abbrev vL:=@List.append_toArray
abbrev j2:=@List.cons_append
abbrev qB:=@List.contains_eq_mem
abbrev jv:=@List.countP_le_length
abbrev jE:=@List.countP_pos_iff
abbrev wj:=@List.drop_append
abbrev jB:=@List.drop_append_of_le_length
abbrev qG:=@List.drop_eq_getElem_cons
abbrev xz:=@List.drop_length
abbrev zq:=@List.drop_of_length_le
abbrev vK:=@List.drop_replicate
abbrev xl:=@List.drop_zero
abbrev z9:=@List.eq_nil_of_length_eq_zero
abbrev jX:=@List.ext_getElem?
abbrev vz:=@List.filterMap_append
abbrev jD:=@List.filterMap_cons
abbrev kt:=@List.flatMap_append
abbrev xh:=@List.flatMap_cons
abbrev wi:=@List.flatMap_def
abbrev kr:=@List.flatten_append
abbrev zZ:=@List.flatten_cons
abbrev wb:=@List.foldl_append
abbrev wh:=@List.getElem_map
abbrev qg:=@List.getElem_mem
abbrev wa:=@List.getElem_take
abbrev qx:=@List.length_append
abbrev zc:=@List.length_cons
abbrev xM:=@List.length_drop
abbrev vo:=@List.length_eq_zero_iff
abbrev qd:=@List.length_map
abbrev xp:=@List.length_nil
abbrev qR:=@List.length_replicate
abbrev qZ:=@List.length_set
abbrev z8:=@List.length_singleton
abbrev qX:=@List.length_take
abbrev zT:=@List.map_append
abbrev ko:=@List.map_congr_left
abbrev qS:=@List.map_cons
abbrev xq:=@List.map_map
abbrev js:=@List.map_nil
abbrev jJ:=@List.map_replicate
abbrev vW:=@List.map_singleton
abbrev j1:=@List.map_toArray
abbrev qn:=@List.mem_append
abbrev vF:=@List.mem_append_left
abbrev qr:=@List.mem_cons
abbrev zi:=@List.mem_cons_of_mem
abbrev xx:=@List.mem_cons_self
abbrev z5:=@List.mem_filter
abbrev qH:=@List.mem_filterMap
abbrev kY:=@List.mem_flatMap
abbrev qp:=@List.mem_map
abbrev qa:=@List.mem_of_getElem?
abbrev vE:=@List.mem_of_mem_drop
abbrev xG:=@List.mem_of_mem_eraseIdx
abbrev xk:=@List.mem_of_mem_take
abbrev qq:=@List.mem_or_eq_of_mem_set
abbrev jI:=@List.mem_range
abbrev v7:=@List.mem_range'_1
abbrev xN:=@List.mem_replicate
abbrev ql:=@List.mem_singleton
abbrev zj:=@List.mem_zipIdx_iff_getElem?
abbrev xw:=@List.nil_append
abbrev xE:=@List.nodup_append
abbrev jj:=@List.nodup_cons
abbrev jr:=@List.nodup_nil
abbrev zF:=@List.not_mem_nil
abbrev kn:=@List.replicate_succ
abbrev x6:=@List.replicate_succ'
abbrev ki:=@List.replicate_zero
abbrev xY:=@List.set_append_right
abbrev jm:=@List.set_cons_succ
abbrev vV:=@List.set_cons_zero
abbrev xA:=@List.set_eq_take_append_cons_drop
abbrev vx:=@List.set_getElem_self
abbrev xX:=@List.singleton_append
abbrev z7:=@List.size_toArray
abbrev wu:=@List.sum_append
abbrev xo:=@List.sum_cons
abbrev kX:=@List.take_append
abbrev xv:=@List.take_append_drop
abbrev xu:=@List.take_append_of_le_length
abbrev ke:=@List.take_left
abbrev qJ:=@List.take_length
abbrev vg:=@List.take_nil
abbrev qD:=@List.take_of_length_le
abbrev vf:=@List.take_set
abbrev vJ:=@List.take_set_of_le
abbrev kh:=@List.take_succ_cons
abbrev qA:=@List.take_succ_eq_append_getElem
abbrev x5:=@List.take_take
abbrev kc:=@List.take_zero
abbrev wt:=@List.zipIdx_map
abbrev je:=@Nat.add_assoc
abbrev xg:=@Nat.add_comm
abbrev v6:=@Nat.add_mod_right
abbrev xS:=@Nat.add_mul
abbrev kb:=@Nat.add_mul_div_left
abbrev jP:=@Nat.add_mul_mod_self_left
abbrev jl:=@Nat.add_sub_cancel
abbrev j0:=@Nat.add_sub_cancel_left
abbrev xU:=@Nat.add_zero
abbrev vI:=@Nat.and_div_two_pow
abbrev vU:=@Nat.and_lt_two_pow
abbrev xP:=@Nat.div_add_mod
abbrev zx:=@Nat.div_div_eq_div_mul
abbrev xL:=@Nat.div_eq_of_lt
abbrev j8:=@Nat.div_le_self
abbrev ka:=@Nat.div_lt_iff_lt_mul
abbrev z4:=@Nat.div_lt_of_lt_mul
abbrev jC:=@Nat.div_mul_le_self
abbrev vd:=@Nat.dvd_trans
abbrev vT:=@Nat.eq_zero_or_pos
abbrev xT:=@Nat.gcd_comm
abbrev jx:=@Nat.gcd_dvd_left
abbrev jW:=@Nat.gcd_dvd_right
abbrev j7:=@Nat.le_add_left
abbrev wg:=@Nat.le_add_right
abbrev j9:=@Nat.le_div_iff_mul_le
abbrev ji:=@Nat.le_max_left
abbrev jd:=@Nat.le_max_right
abbrev jZ:=@Nat.le_mul_of_pos_right
abbrev ju:=@Nat.le_of_ble_eq_true
abbrev xK:=@Nat.le_of_eq
abbrev xa:=@Nat.le_of_lt
abbrev kW:=@Nat.le_of_not_lt
abbrev qh:=@Nat.le_refl
abbrev jA:=@Nat.le_succ
abbrev qf:=@Nat.le_trans
abbrev vH:=@Nat.lt_mul_div_succ
abbrev za:=@Nat.lt_of_le_of_lt
abbrev vS:=@Nat.lt_of_lt_of_eq
abbrev qF:=@Nat.lt_of_lt_of_le
abbrev k9:=@Nat.lt_of_mul_lt_mul_right
abbrev jc:=@Nat.lt_of_not_le
abbrev kP:=@Nat.lt_succ_of_lt
abbrev zw:=@Nat.lt_trans
abbrev xc:=@Nat.min_eq_left
abbrev jh:=@Nat.mod_add_div
abbrev zD:=@Nat.mod_eq_of_lt
abbrev qU:=@Nat.mod_lt
abbrev vD:=@Nat.mod_one
abbrev xf:=@Nat.mul_add
abbrev wq:=@Nat.mul_add_div
abbrev wo:=@Nat.mul_add_mod
abbrev zb:=@Nat.mul_assoc
abbrev qW:=@Nat.mul_comm
abbrev xR:=@Nat.mul_le_mul
abbrev zP:=@Nat.mul_le_mul_left
abbrev qI:=@Nat.mul_le_mul_right
abbrev v5:=@Nat.mul_left_comm
abbrev kV:=@Nat.mul_lt_mul''
abbrev x4:=@Nat.mul_lt_mul_of_pos_right
abbrev zH:=@Nat.mul_one
abbrev jz:=@Nat.mul_pos
abbrev jH:=@Nat.mul_right_comm
abbrev vu:=@Nat.mul_succ
abbrev vt:=@Nat.mul_zero
abbrev kZ:=@Nat.not_lt_zero
abbrev jV:=@Nat.one_mul
abbrev xe:=@Nat.pow_add
abbrev zX:=@Nat.pow_le_pow_right
abbrev zG:=@Nat.pow_pos
abbrev ze:=@Nat.pow_succ
abbrev j4:=@Nat.pow_zero
abbrev jG:=@Nat.sub_add_cancel
abbrev vR:=@Nat.sub_le
abbrev jb:=@Nat.sub_self
abbrev jq:=@Nat.sub_zero
abbrev xD:=@Nat.succ_mul
abbrev ja:=@Nat.succ_ne_zero
abbrev kg:=@Nat.xor_div_two_pow
abbrev vQ:=@Nat.xor_lt_two_pow
abbrev qV:=@Nat.zero_add
abbrev zf:=@Nat.zero_le
abbrev x9:=@Nat.zero_mul
abbrev vk:=@Option.bind_eq_some_iff
abbrev we:=@Option.bind_some
abbrev xy:=@Option.getD_some
abbrev vc:=@Option.isSome_iff_exists
abbrev qT:=@Option.map_some
abbrev xb:=@Prod.fst
abbrev jp:=@Rat.divInt_eq_div
abbrev kU:=@Rat.divInt_ofNat
abbrev j6:=@Rat.intCast_add
abbrev j5:=@Rat.intCast_mul
abbrev vC:=@Rat.neg_den
abbrev vB:=@Rat.neg_num
abbrev kz:=@Rat.num_divInt_den
abbrev jU:=@Rat.one_mul
abbrev vp:=@Rat.zero_mul
abbrev vP:=@Tryz.underlying106
abbrev vO:=@Tryz.underlying134
abbrev vN:=@Tryz.underlying139
abbrev qQ:=@Tryz.underlying22
abbrev qM:=@Tryz.underlying23
abbrev qc:=@Tryz.underlying24
abbrev x3:=@Tryz.underlying26
abbrev jT:=@Tryz.underlying28
abbrev xZ:=@Tryz.underlying30
abbrev qL:=@Tryz.underlying34
abbrev v4:=@Tryz.underlying36
abbrev wd:=@Tryz.underlying4
abbrev xC:=@Tryz.underlying42
abbrev xB:=@Tryz.underlying43
abbrev kO:=@Tryz.underlying44
abbrev kN:=@Tryz.underlying45
abbrev kM:=@Tryz.underlying46
abbrev kL:=@Tryz.underlying47
abbrev kK:=@Tryz.underlying48
abbrev kJ:=@Tryz.underlying49
abbrev kI:=@Tryz.underlying50
abbrev kH:=@Tryz.underlying51
abbrev kG:=@Tryz.underlying52
abbrev kF:=@Tryz.underlying53
abbrev kE:=@Tryz.underlying54
abbrev kD:=@Tryz.underlying55
abbrev kC:=@Tryz.underlying56
abbrev kB:=@Tryz.underlying57
abbrev vZ:=@Tryz.underlying88
abbrev jo:=@Tryz.underlying91
abbrev jn:=@Tryz.underlying93
abbrev jS:=@Tryz.underlying96
abbrev xr:=@beq_iff_eq
abbrev qt:=@congrArg
abbrev q9:=@decide_eq_decide
abbrev zK:=@decide_eq_false
abbrev qm:=@decide_eq_false_iff_not
abbrev qE:=@decide_eq_true
abbrev qK:=@decide_eq_true_eq
abbrev qy:=@if_neg
abbrev qC:=@if_pos
abbrev qw:=@of_decide_eq_false
abbrev qu:=@of_decide_eq_true
abbrev qv:=@wpOps_cons
abbrev qk:=@wp_block
abbrev qP:=@wp_exit
abbrev qi:=@wp_ret
abbrev qb:=@wp_seq
abbrev qj:=@wp_skip
variable {w:World}{B:Nat}{a:Act}{v:Value}{T:TypeId}{w0:Bs}{Γ:List (Nat × VA)}{Λ:List Lc}{ps:String}{af:Array Edge}{vr:Value}{H:Hd}{cs:List Value}{w':World}{P:Program}{D:List TypeId}
abbrev Ya:=List Nat
abbrev Yb:=List As
abbrev Yc:=List VA
abbrev Yd:=Exit→Act→World→Prop
abbrev Ye:=Act→World→Prop
abbrev Yf:=List (Nat × VA)
abbrev Yg:=Array Oper
abbrev Yh:=TypeId
abbrev Yi:=World
abbrev Yj:=Operand
abbrev Yk:=List Lc
abbrev Yl:=List Int
abbrev Ym:=List Value
abbrev Yn:=FuncId
abbrev Yo:=Value
abbrev Yp:=IntKind
abbrev Yq:=List TypeId
abbrev Yr:=Array TypeId
abbrev Ys:=List Operand
abbrev Yt:=Option Nat
abbrev Yu:=List Sp
abbrev Yv:=String
abbrev Yw:=Array Edge
abbrev Yx:=List (List Value)
abbrev Yy:=Nat→Value
abbrev U32:TypeId:=139
def MgA (l:List Nat):As:=(SlA U32 [] (l.map λ (x:Nat)=>NumA .u32 (x:Int))).and (okL l)
theorem cat_nums {k:Yp}:∀ {l:Ya}{ds:Ym},(cat (l.map λ (x:Nat)=>NumA k (x:Int))).p B ds w↔ds=l.map λ (x:Nat)=>.int k (x:Int):=by
 intro l
 induction l with
 | nil =>
  intro ds;constructor
  ·rintro ⟨ps,rfl,h⟩;cases h;rfl
  ·rintro rfl;exact ⟨[],rfl,.nil⟩
 | cons x xs ih =>
  intro ds;constructor
  ·rintro ⟨ps,rfl,h⟩;cases h with
   | cons h ht =>
    have h':_=[Value.int k (x:Int)]:=h;have:=(ih (ds:=_)).1 ⟨_,rfl,ht⟩;simp only [zZ,qS];rw [h',this]
    rfl
  ·rintro rfl;obtain ⟨ps,h1,h2⟩:=(ih (ds:=_)).2 rfl;refine ⟨[.int k (x:Int)]::ps,?_,.cons G h2⟩;simp only [qS,zZ,← h1]
   rfl
structure Mag (B:Nat) (w:World) (A:Option Addr) (c:Nat) (l:List Nat):Prop where
 ok:okL l
 le:l.length≤c
 max:c≤maxLen
 at_:0<l.length→∃ b o,A=some ⟨b,o,none⟩∧b<w.heap.size∧Safe B U32 b w∧∀ j (h:j<l.length),w.cell? ⟨b,o+j,none⟩=some (.int .u32 (l[j]:Nat))
theorem gB {l:Ya}(h:(MgA l).va.p B v w):∃ A c,v=.slice A l.length c∧Mag B w A c l:=by
 obtain ⟨cs,⟨ok,_,A,c,ds,rfl,h1,h2,h3,h4⟩,hv⟩:=h;simp only [qd] at h1 h4 hv;refine ⟨A,c,hv,ok,h1,h2,λ hn=>?_⟩;obtain ⟨b,o,e1,e2,e3,e4⟩:=h4 hn;refine ⟨b,o,e1,e2,e3,λ j hj=>e4 j _ ?_⟩;rw [cat_nums.1 h3];simp [hj]
theorem eu {A:Option Addr}{c:Nat}{l:Ya}{n:Nat}(h:Mag B w A c l)(hn:n=l.length):(MgA l).va.p B (.slice A n c) w:=by
 subst hn;refine ⟨[.slice A l.length c],⟨h.ok,oa,A,c,l.map λ (x:Nat)=>.int .u32 (x:Int),by simp,by simpa using h.le,h.max,cat_nums.2 rfl,λ hn=>?_⟩,rfl⟩;obtain ⟨b,o,e1,e2,e3,e4⟩:=h.at_ (by simpa using hn);refine ⟨b,o,e1,e2,e3,λ j v hv=>?_⟩;rw [List.getElem?_map] at hv;cases hj:l[j]? with
 | none=>rw [hj] at hv;simp at hv
 | some x =>
  obtain ⟨hlt,hx⟩:=List.getElem?_eq_some_iff.1 hj;rw [hj] at hv;simp only [qT,Option.some.injEq] at hv;rw [e4 j hlt,hx,hv]
theorem Mag.nil (B:Nat)(w:Yi):Mag B w none 0 []:=⟨cW,qh _,zf _,λ h=>by simp at h⟩
theorem Mag.take {B:Nat}{w:Yi}{A:Option Addr}{c:Nat}{l:Ya}(h:Mag B w A c l)(k:Nat):Mag B w A c (l.take k):=by
 refine ⟨λ x hx=>h.ok x (xk hx),by have:=h.le;simp;omega,h.max,λ hn=>?_⟩;obtain ⟨b,o,e1,e2,e3,e4⟩:=h.at_ (by simp at hn;omega);exact ⟨b,o,e1,e2,e3,λ j hj=>by rw [e4 j (by simp at hj;omega)];simp⟩
theorem Mag.own {g c:Nat}{l:Ya}{cur:Array Yo}(hg:w.heap[g]?=some (.cells cur U32 (0,0)))(ok:okL l)(hl:l.length≤c)(hm:c≤maxLen)
  (hc:∀ j (h:j<l.length),cur[j]?=some (.int .u32 (l[j]:Nat))):Mag B w (some ⟨g,0,none⟩) c l :=
 ⟨ok,hl,hm,λ _=>⟨g,0,rfl,(Array.getElem?_eq_some_iff.1 hg).1,.inr ⟨_,_,hg⟩,λ j hj=>by rw [qV,cell_of_row w g j cur U32 _ hg];exact hc j hj⟩⟩
section
variable {P:Program}{Q:Exit→Act→World→Prop}{R:Rg}{B:Nat}{w0:Bs}{i:Nat}
theorem BN {x:Yj}{l:Ya}(h:Has R B w0 i x (MgA l).va):Has R B w0 i x (SlA U32 [] (l.map λ (x:Nat)=>NumA .u32 (x:Int))).va:=bu h
theorem aH {x:Yj}{S E':Yh}{l:Ya}(hS:P.underlying S=some (.slice E'))(hx:Has R B w0 i x (MgA l).va):Wv P Q R B w0 i (.call ⟨.builtin .len,#[x],#[S]⟩) (In l.length):=by
 have:=bn (P:=P) (Q:=Q) hS (BN hx);rwa [qd] at this
theorem bL {x y:Yj}{S:Yh}{l:Ya}{k:Nat}{kd:Yp}(hS:Sl P S U32 1)(hx:Has R B w0 i x (MgA l).va)(hy:Has R B w0 i y (NumA kd k).va)(hk:k<l.length):Wv P Q R B w0 i (.indexAddr S x y) (ElP U32 (NumA .u32 (l[k]:Nat))) :=
 bM hS (λ A hA=>by obtain ⟨x,_,rfl⟩:=qp.1 hA;rfl) (BN hx) hy (by simp [hk])
end
structure RI where
 neg:Bool
 mag:List Nat
 deriving DecidableEq
structure RF where
 num:RI
 den:RI
 deriving DecidableEq
def RIA (x:RI):As:=cat [BoA x.neg,MgA x.mag]
def RFA (x:RF):As:=cat [RIA x.num,RIA x.den]
def riOf (z:Int):RI:=⟨decide (z<0),ay z.natAbs⟩
def rfOf (q:Rat):RF:=⟨riOf q.num,riOf q.den⟩
abbrev Zi (z:Int):VA:=(RIA (riOf z)).va
def lz (z:Int):Nat:=(ay z.natAbs).length
theorem ft (B:Nat)(w:Yi):(MgA []).p B [.slice none 0 0] w:=by
 obtain ⟨cs,h,hv⟩:=eu (Mag.nil B w) rfl;have h1:=(MgA []).len _ _ _ h
 match cs,h1 with
 | [c],_ =>
  have:c=.slice none 0 0:=hv.symm;subst this;exact h
theorem Ie (B:Nat)(w:Yi):(RIA ⟨false,[]⟩).p B [.bool false,.slice none 0 0] w:=⟨[[.bool false],[.slice none 0 0]],rfl,.cons rfl (.cons (ft B w) .nil)⟩
theorem br:Str Tryz.prog 26 [BoA false,MgA []] :=
 Str.of (z:=.agg #[.bool false,.slice none 0 0]) zk x3 zk λ B w=>Ie B w
theorem eI (B:Nat)(w:Yi):(RFA ⟨⟨false,[]⟩,⟨false,[]⟩⟩).p B [.bool false,.slice none 0 0,.bool false,.slice none 0 0] w:=⟨[[.bool false,.slice none 0 0],[.bool false,.slice none 0 0]],rfl,.cons (Ie B w) (.cons (Ie B w) .nil)⟩
theorem aQ:Str Tryz.prog 28 [RIA ⟨false,[]⟩,RIA ⟨false,[]⟩] :=
 Str.of (z:=.agg #[.bool false,.slice none 0 0,.bool false,.slice none 0 0]) zk jT zk λ B w=>eI B w
section
variable {P:Program}{Q:Exit→Act→World→Prop}{R:Rg}{B:Nat}{w0:Bs}{i:Nat}
theorem Gd {k k2 k3:Yp}{op:BinOp}{x y:Yj}{xt yt:Yh}{m n c:Int}(hx:Has R B w0 i x (NumA k m).va)(hy:Has R B w0 i y (NumA k2 n).va)
  (h:∀ w,(binOp op xt (.int k m) (.int k2 n)).run P w=.ok (.int k3 c) w):Wv P Q R B w0 i (.binOp op xt x y yt) (NumA k3 c).va :=
 bj λ _ _ _ _ _ a w av=>by
  have e1:=bg (hx a w av);have e2:=bg (hy a w av);refine ⟨.int k3 c,w,?_,Grow.refl w,bS _ _ _ _⟩;have hg:(eqGuard op xt x y (.int k m) (.int k2 n)).run P w=.ok () w:=by unfold eqGuard;split <;> rfl
  simp only [execOp,e1,e2,Sem.run_bind,hg,h,Result.andThen_ok,Sem.run_pure]
theorem LU {k:Yp}{x:Yj}{xt yt:Yh}{n c:Int}(hs:(P.underlying xt).isSome=true)(hd:P.underlying yt=some (.int (P.intKind yt)))(hx:Has R B w0 i x (NumA k n).va)(h:(P.intKind yt).wrap n=c):Wv P Q R B w0 i (.convert xt yt x) (NumA (P.intKind yt) c).va :=
 bj λ _ _ _ _ _ a w av=>by
  refine ⟨_,w,?_,Grow.refl w,bS _ _ _ _⟩;simp only [execOp,bg (hx a w av),Sem.run_bind,run_convert_int _ _ _ _ _ hs hd,h,Result.andThen_ok,Sem.run_pure]
theorem aI {k:Yp}(k':Yp){x:Yj}{xt yt:Yh}{n c:Int}(hs:(P.underlying xt).isSome=true)(hd:P.underlying yt=some (.int k'))(hx:Has R B w0 i x (NumA k n).va)(h:k'.wrap n=c):Wv P Q R B w0 i (.convert xt yt x) (NumA k' c).va:=by
 have e:P.intKind yt=k':=by simp [Program.intKind,hd]
 subst e;exact LU hs hd hx h
section
variable {k k2:IntKind}{x y:Operand}{xt yt:TypeId}{m n:Int}
theorem lk {c:Int}(hx:Has R B w0 i x (NumA k m).va)(hy:Has R B w0 i y (NumA k2 n).va)(h0:0≤n∧n≤k.bits)(h:m/2^n.toNat=c):Wv P Q R B w0 i (.binOp .shr xt x y yt) (NumA k c).va:=Gd hx hy λ w=>by rw [binOp_shr,shift_shr _ _ _ _ h0.1 h0.2,h];rfl
theorem uT {c:Int}(hx:Has R B w0 i x (NumA k m).va)(hy:Has R B w0 i y (NumA k2 n).va)(h0:0≤n∧n≤k.bits)(h:k.wrap (m*2^n.toNat)=c):Wv P Q R B w0 i (.binOp .shl xt x y yt) (NumA k c).va:=Gd hx hy λ w=>by rw [binOp_shl,shift_shl _ _ _ _ h0.1 h0.2,h];rfl
variable (hx:Has R B w0 i x (NumA k m).va)(hy:Has R B w0 i y (NumA k n).va)
include hx hy
theorem mS {c:Int}(h0:n≠0)(h:k.wrap (m.tdiv n)=c):Wv P Q R B w0 i (.binOp .quo xt x y yt) (NumA k c).va:=pz hx hy λ w=>by rw [binOp_quo,← h];simp [Op.intDiv,h0]
theorem py {c:Int}(h0:n≠0)(h:m.tmod n=c):Wv P Q R B w0 i (.binOp .rem xt x y yt) (NumA k c).va:=pz hx hy λ w=>by rw [binOp_rem,← h];simp [Op.intDiv,h0]
theorem Gi {c:Int}(h:bits .and k m n=c):Wv P Q R B w0 i (.binOp .and xt x y yt) (NumA k c).va:=pz hx hy λ w=>by rw [binOp_and,← h];rfl
theorem uV {c:Int}(h:bits .or k m n=c):Wv P Q R B w0 i (.binOp .or xt x y yt) (NumA k c).va:=pz hx hy λ w=>by rw [binOp_or,← h];rfl
theorem LW {c:Int}(h:bits .xor k m n=c):Wv P Q R B w0 i (.binOp .xor xt x y yt) (NumA k c).va:=pz hx hy λ w=>by rw [binOp_xor,← h];rfl
end
theorem Gh {k:Yp}{x:Yj}{n c:Int}(hx:Has R B w0 i x (NumA k n).va)(h:bits .xor k (if k.signed then -1 else k.max) n=c):Wv P Q R B w0 i (.unOp .xor T x) (NumA k c).va :=
 bj λ _ _ _ _ _ a w av=>⟨.int k c,w,by simp [execOp,bg (hx a w av),unary_xor,intBits_xor,h],Grow.refl w,bS _ _ _ _⟩
theorem Il {k:Yp}{x:Yj}{n c:Int}(hx:Has R B w0 i x (NumA k n).va)(h:k.wrap (0-n)=c):Wv P Q R B w0 i (.unOp .neg T x) (NumA k c).va :=
 bj λ _ _ _ _ _ a w av=>⟨.int k c,w,by simp only [execOp,bg (hx a w av),Op.unary,← h];rfl,Grow.refl w,bS _ _ _ _⟩
theorem Wv.mono {op:Op}{A A':VA}(h:Wv P Q R B w0 i op A)(hm:∀ v w,A.p B v w→A'.p B v w):Wv P Q R B w0 i op A':=λ d T ps af gd a w av K hK=>h d T ps af gd a w av K λ v w' hg hp=>hK v w' hg (hm v w' hp)
theorem Im {k:Yp}{x y:Yj}{ts:Yr}{m n:Int}(hx:Has R B w0 i x (NumA k m).va)(hy:Has R B w0 i y (NumA k n).va):Wv P Q R B w0 i (.call ⟨.builtin .min,#[x,y],ts⟩) (NumA k (min m n)).va :=
 bj λ _ _ _ _ _ a w av=>⟨_,w,by simp [execOp,resolve,invoke,builtin,bg (hx a w av),bg (hy a w av),Lib.run_min_ints],Grow.refl w,bS _ _ _ _⟩
theorem LS {k:Yp}{x y:Yj}{ts:Yr}{m n:Int}(hx:Has R B w0 i x (NumA k m).va)(hy:Has R B w0 i y (NumA k n).va):Wv P Q R B w0 i (.call ⟨.builtin .max,#[x,y],ts⟩) (NumA k (max m n)).va :=
 bj λ _ _ _ _ _ a w av=>⟨_,w,by simp [execOp,resolve,invoke,builtin,bg (hx a w av),bg (hy a w av),Lib.run_max_ints],Grow.refl w,bS _ _ _ _⟩
theorem dq {S:Yh}{l:Ya}{xs:Ys}(hS:Sl P S U32 1)(hz:((P.info? U32).bind (·.zero)).isSome=true)(hl0:0<l.length)(hsmall:l.length≤16777216)(ok:okL l)
  (hx:All2 (λ (A:As) x=>Has R B w0 i x A.va) (l.map λ (x:Nat)=>NumA .u32 x) xs) {ps':Array (Nat × Operand)} (hps:ps'.toList=(xs.zipIdx 0).map λ x=>(x.2,x.1)) {n:Nat} (hn:n=l.length):Wv P Q R B w0 i (.buildSlice S n ps') (MgA l).va :=
 (bW (D:=[]) oa hS hz (λ A hA=>by obtain ⟨_,_,rfl⟩:=qp.1 hA;rfl) zd (by simpa using hl0) (by simpa using hsmall) hx hps (by simpa using hn)).mono λ v w ⟨cs,hp,hv⟩=>⟨cs,⟨ok,hp⟩,hv⟩
end
theorem wu32 {x:Nat}(h:x<4294967296):IntKind.u32.wrap (x:Int)=(x:Int):=by simp [IntKind.wrap,IntKind.bits,IntKind.signed];omega
theorem wu32' {x:Nat}:IntKind.u32.wrap (x:Int)=((x%4294967296:Nat):Int):=by simp [IntKind.wrap,IntKind.bits,IntKind.signed]
theorem wu64 {x:Nat}(h:x<18446744073709551616):IntKind.u64.wrap (x:Int)=(x:Int):=by simp [IntKind.wrap,IntKind.bits,IntKind.signed];omega
theorem wi64 {x:Int}(h : -9223372036854775808≤x)(h':x<9223372036854775808):IntKind.i64.wrap x=x:=by simp [IntKind.wrap,IntKind.bits,IntKind.signed];omega
theorem dE {x y:Nat}(h:x+y<18446744073709551616):IntKind.u64.wrap ((x:Int)+(y:Int))=((x+y:Nat):Int):=by rw [← wu64 h];simp
theorem pa {x y:Nat}(h:x*y<18446744073709551616):IntKind.u64.wrap ((x:Int)*(y:Int))=((x*y:Nat):Int):=by rw [← wu64 h];simp
theorem nshr {x k:Nat}:(x:Int)/2^((k:Int).toNat)=((x/2^k:Nat):Int):=by simp
theorem nquo {x y:Nat}(h:x/y<18446744073709551616):IntKind.u64.wrap ((x:Int).tdiv (y:Int))=((x/y:Nat):Int):=by
 rw [x7 zo];rw [← j3,wu64 h]
theorem nrem {x y:Nat}:(x:Int).tmod (y:Int)=((x%y:Nat):Int):=by
 rw [Int.tmod_eq_emod_of_nonneg zo];rfl
theorem wlow {x:Nat}:IntKind.u32.wrap ((x:Nat):Int)=((x%4294967296:Nat):Int):=wu32'
theorem or64 {x y:Nat}(hx:x<4294967296)(hy:y<4294967296):bits .or .u64 (((x*4294967296:Nat)):Int) (y:Int)=((x*4294967296+y:Nat):Int):=by
 have:=bits_join .u64 64 zd (λ n h0 h1=>by simp [IntKind.wrap,IntKind.bits,IntKind.signed];omega) 32 ((x*4294967296:Nat):Int) (y:Int) zo zo zo zo zo zo;rw [this];simp
theorem sW {x:Nat}(hx:x<4294967296):IntKind.u64.wrap ((x:Int)*2^((32:Int).toNat))=((x*4294967296:Nat):Int):=by
 rw [← wu64 (x:=x*4294967296) zo];simp
theorem ofi {x:Nat}(h:x<4294967296):(BitVec.ofInt 32 (x:Int)).toNat=x:=by
 rw [BitVec.ofInt_natCast,BitVec.toNat_ofNat];exact zD zo
theorem CO {x y:Nat}(hx:x<4294967296)(hy:y<4294967296):bits .xor .u32 (x:Int) (y:Int)=((x ^^^ y:Nat):Int):=by
 have h:x ^^^ y<2^32:=vQ zo zo;have e:(BitVec.ofInt 32 (x:Int) ^^^ BitVec.ofInt 32 (y:Int)).toNat=x ^^^ y:=by rw [BitVec.toNat_xor,ofi hx,ofi hy]
 show IntKind.u32.wrap (((BitVec.ofInt 32 (x:Int) ^^^ BitVec.ofInt 32 (y:Int)).toNat:Nat):Int)=_;rw [e,wu32 zo]
theorem He {x y:Nat}(hx:x<4294967296)(hy:y<4294967296):bits .and .u32 (x:Int) (y:Int)=((x &&& y:Nat):Int):=by
 have h:x &&& y<2^32:=vU _ zo;have e:(BitVec.ofInt 32 (x:Int) &&& BitVec.ofInt 32 (y:Int)).toNat=x &&& y:=by rw [BitVec.toNat_and,ofi hx,ofi hy]
 show IntKind.u32.wrap (((BitVec.ofInt 32 (x:Int) &&& BitVec.ofInt 32 (y:Int)).toNat:Nat):Int)=_;rw [e,wu32 zo]
theorem NY {x y:Nat}(hx:x<4294967296)(hy:y<4294967296):bits .or .u32 (x:Int) (y:Int)=((x ||| y:Nat):Int):=by
 have h:x ||| y<2^32:=Nat.or_lt_two_pow zo zo;have e:(BitVec.ofInt 32 (x:Int) ||| BitVec.ofInt 32 (y:Int)).toNat=x ||| y:=by rw [BitVec.toNat_or,ofi hx,ofi hy]
 show IntKind.u32.wrap (((BitVec.ofInt 32 (x:Int) ||| BitVec.ofInt 32 (y:Int)).toNat:Nat):Int)=_;rw [e,wu32 zo]
theorem yE {x y c:Nat}(hx:x<4294967296)(hy:y<4294967296)(hc:c<2):IntKind.u32.wrap (IntKind.u32.wrap ((x:Int)-(y:Int))-(c:Int))=(((x+8589934592-y-c)%4294967296:Nat):Int):=by
 simp [IntKind.wrap,IntKind.bits,IntKind.signed];omega
theorem Dj {x y c:Nat}(hx:x<4294967296)(hy:y<4294967296)(hc:c<2):bits .or .u32 (bits .and .u32 (bits .xor .u32 4294967295 (x:Int)) (y:Int)) (bits .and .u32 (bits .xor .u32 4294967295 (bits .xor .u32 (x:Int) (y:Int))) (IntKind.u32.wrap (IntKind.u32.wrap ((x:Int)-(y:Int))-(c:Int))))/2^((31:Int).toNat)=(((if x<y+c then 1 else 0:Nat)):Int):=by
 have hl:∀ {a b:Nat},a<4294967296→b<4294967296→a ^^^ b<4294967296:=λ ha hb=>vQ (n:=32) ha hb;have hl':∀ {a b:Nat},b<4294967296→a &&& b<4294967296:=λ hb=>vU (n:=32) _ hb;obtain ⟨d,hd⟩:∃ d,d=(x+8589934592-y-c)%4294967296:=⟨_,rfl⟩;rw [yE hx hy hc,← hd];have hd':d<4294967296:=by omega
 rw [show (4294967295:Int)=((4294967295:Nat):Int) from rfl,CO zo hx,CO hx hy,CO zo (hl hx hy),He (hl zo hx) hy,He (hl zo (hl hx hy)) hd',NY (hl' hy) (hl' hd')];refine (nshr (k:=31)).trans ?_
 congr 1
 rw [Nat.or_div_two_pow,vI,vI,kg,kg,kg];have h1:x/2^31=0∨x/2^31=1:=by omega
 have h2:y/2^31=0∨y/2^31=1:=by omega
 have h3:d/2^31=0∨d/2^31=1:=by omega
 rcases h1 with h1|h1 <;> rcases h2 with h2|h2 <;> rcases h3 with h3|h3 <;> rw [h1,h2,h3] <;> simp <;> omega
theorem ac:Tryz.prog.follows .mixedOrders=true:=by kernel_rfl
def MgN (l:List Nat):As where
 n:=1
 ag:=false
 p B cs w:=okL l∧((l=[]∧cs=[.slice none 0 0])∨∃ g ext,cs=[.slice (some ⟨g,0,none⟩) l.length (l++ext).length]∧(l++ext).length≤maxLen∧B≤g∧w.heap[g]?=some (.cells ((l++ext).map λ (x:Nat)=>Value.int .u32 x).toArray U32 (0,0)))
 deps:=[U32]
 len:=by rintro B cs w ⟨_,⟨_,rfl⟩|⟨g,ext,rfl,_⟩⟩ <;> rfl
 one:=by rintro B cs w ⟨_,⟨_,rfl⟩|⟨g,ext,rfl,_⟩⟩ x hx <;> (simp at hx;subst hx;rfl)
 ag1:=λ _=>rfl
 cg:=by
  rintro B cs w w' hg ⟨h0,h|⟨g,ext,e1,e2,e3,e4⟩⟩
  ·exact ⟨h0,.inl h⟩
  ·exact ⟨h0,.inr ⟨g,ext,e1,e2,e3,hg.heap e4⟩⟩
 wr:=by
  rintro B cs w w' g c T fz hg hT hB hW ⟨h0,h|⟨g',ext,e1,e2,e3,e4⟩⟩
  ·exact ⟨h0,.inl h⟩
  ·refine ⟨h0,.inr ⟨g',ext,e1,e2,e3,?_⟩⟩;rw [hW.block g' λ hh=>?_]
   ·exact e4
   ·subst hh;rw [hg] at e4;simp only [Option.some.injEq,Obj.cells.injEq] at e4;exact hT (by simp [e4.2.1])
abbrev MgO (l:List Nat):As:=SlO U32 [] (l.map λ (x:Nat)=>NumA .u32 (x:Int)) (okL l)
def RIN (x:RI):As:=cat [BoA x.neg,MgN x.mag]
def RIO (x:RI):As:=cat [BoA x.neg,MgO x.mag]
structure Fam (M:List Nat→As):Prop where
 n:∀ l,(M l).n=1
 ag:∀ l,(M l).ag=false
 op:∀ l B v w,(M l).va.p B v w→∃ A c,v=.slice A l.length c∧Mag B w A c l∧∀ k,(M (l.take k)).va.p B (.slice A (l.take k).length c) w
 nil:∀ B w,(M []).p B [.slice none 0 0] w
theorem famA:Fam MgA:=⟨λ _=>rfl,λ _=>rfl,λ l B v w h=>by
 obtain ⟨A,c,hv,hm⟩:=gB h;exact ⟨A,c,hv,hm,λ k=>eu (hm.take k) rfl⟩,ft⟩
theorem famN:Fam MgN:=⟨λ _=>rfl,λ _=>rfl,λ l B v w h=>by
 obtain ⟨cs,⟨h0,⟨rfl,rfl⟩|⟨g,ext,rfl,e1,e2,e3⟩⟩,hv⟩:=h
 ·refine ⟨none,0,hv,⟨h0,qh _,zf _,λ h=>absurd h zd⟩,λ k=>?_⟩;rw [show ([]:List Nat).take k=[] by simp];exact ⟨[.slice none 0 0],⟨h0,.inl ⟨rfl,rfl⟩⟩,rfl⟩
 ·refine ⟨some ⟨g,0,none⟩,(l++ext).length,hv,Mag.own e3 h0 (by rw [qx];omega) e1 (λ j hj=>by rw [List.getElem?_toArray,List.getElem?_map,List.getElem?_append_left hj];simp [hj]),λ k=>?_⟩;have e:l.take k++(l.drop k++ext)=l++ext:=by rw [← qY,xv]
  exact ⟨[.slice (some ⟨g,0,none⟩) (l.take k).length (l++ext).length],⟨λ x hx=>h0 x (xk hx),.inr ⟨g,l.drop k++ext,by rw [e],by rw [e];exact e1,e2,by rw [e];exact e3⟩⟩,rfl⟩,
 λ B w=>⟨cW,.inl ⟨rfl,rfl⟩⟩⟩
def MgZ (l:List Nat):As where
 n:=1
 ag:=false
 p B cs w:=okL l∧∃ A c,cs=[.slice A l.length c]∧l.length≤c∧c≤maxLen ∧
  (0<l.length→∃ g ext,A=some ⟨g,0,none⟩∧c=(l++ext).length∧B≤g∧w.heap[g]?=some (.cells ((l++ext).map λ (x:Nat)=>Value.int .u32 x).toArray U32 (0,0)))
 deps:=[U32]
 len:=by rintro B cs w ⟨_,A,c,rfl,_⟩;rfl
 one:=by rintro B cs w ⟨_,A,c,rfl,_⟩ x hx;simp at hx;subst hx;rfl
 ag1:=λ _=>rfl
 cg:=by
  rintro B cs w w' hg ⟨h0,A,c,rfl,h1,h2,h3⟩;refine ⟨h0,A,c,rfl,h1,h2,λ hn=>?_⟩;obtain ⟨g,ext,e1,e3,e0,e2⟩:=h3 hn;exact ⟨g,ext,e1,e3,e0,hg.heap e2⟩
 wr:=by
  rintro B cs w w' g c T fz hg hT hB hW ⟨h0,A,c',rfl,h1,h2,h3⟩;refine ⟨h0,A,c',rfl,h1,h2,λ hn=>?_⟩;obtain ⟨g',ext,e1,e3,e0,e2⟩:=h3 hn;refine ⟨g',ext,e1,e3,e0,?_⟩;rw [hW.block g' λ hh=>?_]
  ·exact e2
  ·subst hh;rw [hg] at e2;simp only [Option.some.injEq,Obj.cells.injEq] at e2;exact hT (by simp [e2.2.1])
theorem famZ:Fam MgZ:=⟨λ _=>rfl,λ _=>rfl,λ l B v w h=>by
 obtain ⟨cs,⟨h0,A,c,rfl,h1,h2,h3⟩,hv⟩:=h;refine ⟨A,c,hv,⟨h0,h1,h2,λ hn=>?_⟩,λ k=>⟨[.slice A (l.take k).length c],⟨λ x hx=>h0 x (xk hx),A,c,rfl,by simp;omega,h2,λ hn=>?_⟩,rfl⟩⟩
 ·obtain ⟨g,ext,rfl,_,_,e2⟩:=h3 hn;exact (Mag.own e2 h0 h1 h2 (λ j hj=>by rw [List.getElem?_toArray,List.getElem?_map,List.getElem?_append_left hj];simp [hj])).at_ hn
 ·obtain ⟨g,ext,e1,e3,e0,e2⟩:=h3 (by simp at hn;omega);have e:l.take k++(l.drop k++ext)=l++ext:=by rw [← qY,xv]
  exact ⟨g,l.drop k++ext,e1,by rw [e];exact e3,e0,by rw [e];exact e2⟩,
 λ B w=>⟨cW,none,0,rfl,qh _,zf _,λ h=>by simp at h⟩⟩
theorem cB {M:Ya→As}(hM:Fam M):Str Tryz.prog 26 [BoA false,M []] :=
 Str.of (z:=.agg #[.bool false,.slice none 0 0]) zk x3 (by rw [show dJ [BoA false,M []]=dJ [BoA false,MgA []] from by simp [dJ,offs,hM.n,(famA).n,List.range_succ]];kernel_rfl) λ B w=>⟨[[.bool false],[.slice none 0 0]],rfl,.cons rfl (.cons (hM.nil B w) .nil)⟩
theorem Je (B:Nat)(w:Yi):(MgO []).p B [.slice none 0 0] w:=⟨cW,oa,none,0,[],rfl,qh _,zf _,⟨[],rfl,.nil⟩,λ h=>by simp at h⟩
theorem fM:Str Tryz.prog 26 [BoA false,MgO []] :=
 Str.of (z:=.agg #[.bool false,.slice none 0 0]) zk x3 zk λ B w=>⟨[[.bool false],[.slice none 0 0]],rfl,.cons rfl (.cons (Je B w) .nil)⟩
theorem Jf {l:Ya}(h:(MgN l).va.p B v w):(MgA l).va.p B v w:=by
 obtain ⟨A,c,rfl,hm,_⟩:=famN.op l B v w h;exact eu hm rfl
def Up (A A':VA):Prop:=∀ B v w,B≤w.heap.size→A.p B v w→A'.p w.heap.size v w
def UpA (A A':As):Prop:=A'.n=A.n∧A'.ag=A.ag∧∀ B cs w,B≤w.heap.size→A.p B cs w→A'.p w.heap.size cs w
def Free (A A':VA):Prop:=∀ B B' v w,B'≤B→A.p B v w→A'.p B' v w
def FreeA (A A':As):Prop:=A'.n=A.n∧A'.ag=A.ag∧∀ B B' cs w,B'≤B→A.p B cs w→A'.p B' cs w
theorem UpA.va {A A':As}(h:UpA A A'):Up A.va A'.va:=λ B v w hB ⟨cs,hp,hv⟩=>⟨cs,h.2.2 B cs w hB hp,by rw [h.2.1];exact hv⟩
theorem FreeA.va {A A':As}(h:FreeA A A'):Free A.va A'.va:=λ B B' v w hB ⟨cs,hp,hv⟩=>⟨cs,h.2.2 B B' cs w hB hp,by rw [h.2.1];exact hv⟩
theorem cq (k:Yp)(n:Int):FreeA (NumA k n) (NumA k n):=⟨rfl,rfl,λ _ _ _ _ _ h=>h⟩
theorem mX (k:Yp)(n:Int):UpA (NumA k n) (NumA k n):=⟨rfl,rfl,λ _ _ _ _ h=>h⟩
theorem La (b:Bool):UpA (BoA b) (BoA b):=⟨rfl,rfl,λ _ _ _ _ h=>h⟩
theorem dT (b:Bool):FreeA (BoA b) (BoA b):=⟨rfl,rfl,λ _ _ _ _ _ h=>h⟩
theorem ee (l:Ya):FreeA (MgN l) (MgN l):=⟨rfl,rfl,λ B B' cs w hB h=>by
 obtain ⟨h0,h|⟨g,ext,e1,e2,e3,e4⟩⟩:=h
 ·exact ⟨h0,.inl h⟩
 ·exact ⟨h0,.inr ⟨g,ext,e1,e2,qf hB e3,e4⟩⟩⟩
theorem lP (l:Ya):UpA (MgA l) (MgO l):=⟨rfl,rfl,λ B cs w hB hp=>by
 obtain ⟨ok,h0,A,c,ds,rfl,h1,h2,h3,h4⟩:=hp;refine ⟨ok,h0,A,c,ds,rfl,h1,h2,?_,λ hn=>?_⟩
 ·exact cat_nums.2 (cat_nums.1 h3)
 ·obtain ⟨b,o,e1,e2,e3,e4⟩:=h4 hn;exact ⟨b,o,e1,e2,e2,e4⟩⟩
theorem ib (l:Ya):FreeA (MgN l) (MgA l):=⟨rfl,rfl,λ B B' cs w hB h0=>by
 have h:=(ee l).2.2 B B' cs w hB h0;obtain ⟨ds,hp,hv⟩:=Jf (l:=l) (B:=B') ⟨cs,h,rfl⟩;have l1:=(MgN l).len _ _ _ h;have l2:=(MgA l).len _ _ _ hp
 match cs,ds,l1,l2,hv,hp with
 | [x],[y],_,_,hv,hp =>
  have:x=y:=hv;rw [this];exact hp⟩
theorem bI {l l':Yb}(h:All2 FreeA l l'):FreeA (cat l) (cat l'):=by
 have key:∀ {l l':List As},All2 FreeA l l'→(cat l').n=(cat l).n∧∀ B B' ps w,B'≤B→All2 (λ (A:As) c=>A.p B c w) l ps→All2 (λ (A:As) c=>A.p B' c w) l' ps:=by
  intro l l' h
  induction h with
  | nil=>exact ⟨rfl,λ B B' ps w _ h=>by cases h;exact .nil⟩
  | cons h1 _ ih =>
   refine ⟨?_,λ B B' ps w hB h=>?_⟩
   ·have:=ih.1;simp only [cat,qS,xo] at this ⊢;rw [h1.1,this]
   ·cases h with
    | cons h2 h3=>exact .cons (h1.2.2 _ _ _ _ hB h2) (ih.2 _ _ _ _ hB h3)
 refine ⟨(key h).1,rfl,λ B B' cs w hB hp=>?_⟩;obtain ⟨ps,e1,e2⟩:=hp;exact ⟨ps,e1,(key h).2 B B' ps w hB e2⟩
theorem iz {l l':Yb}(h:All2 UpA l l'):UpA (cat l) (cat l'):=by
 have key:∀ {l l':List As},All2 UpA l l'→(cat l').n=(cat l).n∧∀ B ps w,B≤w.heap.size→All2 (λ (A:As) c=>A.p B c w) l ps→All2 (λ (A:As) c=>A.p w.heap.size c w) l' ps:=by
  intro l l' h
  induction h with
  | nil=>exact ⟨rfl,λ B ps w _ h=>by cases h;exact .nil⟩
  | cons h1 _ ih =>
   refine ⟨?_,λ B ps w hB h=>?_⟩
   ·have:=ih.1;simp only [cat,qS,xo] at this ⊢;rw [h1.1,this]
   ·cases h with
    | cons h2 h3=>exact .cons (h1.2.2 _ _ _ hB h2) (ih.2 _ _ _ hB h3)
 refine ⟨(key h).1,rfl,λ B cs w hB hp=>?_⟩;obtain ⟨ps,e1,e2⟩:=hp;exact ⟨ps,e1,(key h).2 B ps w hB e2⟩
theorem uM (x:RI):UpA (RIA x) (RIO x):=iz (.cons (La _) (.cons (lP _) .nil))
theorem dk (x:RI):FreeA (RIN x) (RIN x):=bI (.cons (dT _) (.cons (ee _) .nil))
theorem lH (x:RI):FreeA (RIN x) (RIA x):=bI (.cons (dT _) (.cons (ib _) .nil))
theorem FM {l l':Yc}(h:All2 Free l l')(B B':Nat)(hB:B'≤B)(w:Yi):∀ {vs:Ym},All2 (λ (A:VA) v=>A.p B v w) l vs→All2 (λ (A:VA) v=>A.p B' v w) l' vs:=by
 induction h with
 | nil=>intro vs hp;cases hp;exact .nil
 | cons h1 _ ih=>intro vs hp;cases hp with|cons h2 h3=>exact .cons (h1 _ _ _ _ hB h2) (ih h3)
theorem CV {l l':Yc}(h:All2 Up l l')(B:Nat)(w:Yi)(hB:B≤w.heap.size):∀ {vs:Ym},All2 (λ (A:VA) v=>A.p B v w) l vs→All2 (λ (A:VA) v=>A.p w.heap.size v w) l' vs:=by
 induction h with
 | nil=>intro vs hp;cases hp;exact .nil
 | cons h1 _ ih=>intro vs hp;cases hp with|cons h2 h3=>exact .cons (h1 _ _ _ hB h2) (ih h3)
theorem yw {l l':Yc}(h:All2 Free l l'):Free (Tu l) (Tu l'):=λ B B' _ w hB ⟨vs,hv,hp⟩=>⟨vs,hv,FM h B B' hB w hp⟩
theorem Cn.free {f:Yn}{pre:Yc}{post post':VA}(h:Cn P f pre post)(hp:Free post post'):Cn P f pre post':=h.mono λ B v w=>hp B B v w (qh _)
theorem Cn.introW {f : Yn}{fn : Func}{c : Code}{pre pre' : Yc}{post : VA} (hf : P.funcs[f]? = some fn) (hb : fn.body=some c) (hn : (fn.name == "runtime.NumGoroutine")=false) (hsz : pre.length ≤ fn.ntmps)
  (hup:All2 Up pre pre') (hfree:Free post post)
  (h:∀ (B:Nat) (w0:Bs) (a:Act),B=w0.w.heap.size→St B w0 fn.ntmps (argΓ pre') [] a w0.w→c.wp P (bZ P fn (RQ B w0 post)) a w0.w):Cn P f pre post:=by
 refine ⟨⟨fn,hf,hn,by rw [hb];rfl⟩,λ B w args hB ha=>(c8 hf hb (h w.heap.size ⟨w,λ _=>False,false⟩ _ G ?_)).mono λ _ _ ⟨v,he,hv,hk⟩=>⟨v,he,hfree _ _ _ _ hB hv,hk.grow0⟩⟩;have hl:=ha.length;have hl2:=hup.length;have ha':All2 (λ (A:VA) v=>A.p w.heap.size v w) pre' args:=CV hup B w hB ha;refine ⟨λ g hg=>hg.resolve_right λ h=>h,DefOk.nil rfl,?_,Kept.refl _,All2.args ha',(λ l hl=>by cases hl),(λ l hl=>by cases hl)⟩;simp only [xj,z7,qO];omega
def Cr (P:Program)(f:FuncId)(T:TypeId)(H:Hd)(A:As)(pre:List VA):Prop :=
 (∃ fn, P.funcs[f]? = some fn∧(fn.name == "runtime.NumGoroutine")=false∧fn.body.isNone=false) ∧
 ∀ (B:Nat) (w:World) (args:List Value),B≤w.heap.size→All2 (λ A v=>A.p B v w) pre args →
  Calls P f args.toArray w λ e w'=>∃ g cs,e=.returned (H.f g)∧w.heap.size≤g∧w'.heap[g]?=some (.cells (List.toArray cs) T (0,0))∧A.p B cs w'∧Grow w w'
def RQr (B:Nat)(w0:Bs)(T:TypeId)(H:Hd)(A:As):Ending→World→Prop:=λ e w'=>∃ g cs,e=.returned (H.f g)∧w0.w.heap.size≤g∧w'.heap[g]?=some (.cells (List.toArray cs) T (0,0))∧A.p B cs w'∧Kept w0 w'
theorem Cr.introW {f : Yn}{fn : Func}{c : Code}{T : Yh}{H : Hd}{A : As}{pre pre' : Yc} (hf : P.funcs[f]? = some fn) (hb : fn.body=some c) (hn : (fn.name == "runtime.NumGoroutine")=false) (hsz : pre.length ≤ fn.ntmps)
  (hup:All2 Up pre pre') (hA:∀ B B' cs w,A.p B cs w→A.p B' cs w)
  (h:∀ (B:Nat) (w0:Bs) (a:Act),B=w0.w.heap.size→St B w0 fn.ntmps (argΓ pre') [] a w0.w→c.wp P (bZ P fn (RQr B w0 T H A)) a w0.w):Cr P f T H A pre:=by
 refine ⟨⟨fn,hf,hn,by rw [hb];rfl⟩,λ B w args hB ha=>(c8 hf hb (h w.heap.size ⟨w,λ _=>False,false⟩ _ G ?_)).mono λ _ _ ⟨g,cs,he,h1,h2,h3,hk⟩=>⟨g,cs,he,h1,h2,hA _ _ _ _ h3,hk.grow0⟩⟩;have hl:=ha.length;have hl2:=hup.length;have ha':All2 (λ (A:VA) v=>A.p w.heap.size v w) pre' args:=CV hup B w hB ha;refine ⟨λ g hg=>hg.resolve_right λ h=>h,DefOk.nil rfl,?_,Kept.refl _,All2.args ha',(λ l hl=>by cases hl),(λ l hl=>by cases hl)⟩;simp only [xj,z7,qO];omega
theorem DR {fn:Func}{B t N:Nat}{A:As}(hr:fn.results = #[.tmp t])(h:St B w0 N Γ Λ a w)(hB:B=w0.w.heap.size)(hm:(⟨t,T,H,A⟩:Lc)∈Λ):bZ P fn (RQr B w0 T H A) .ret a w:=by
 refine g9 h λ w h=>?_;obtain ⟨g,cs,h1,hgm,h3,h4⟩:=h.locs _ hm;refine ⟨_,results_tmp hr a.tmps P w,g,cs,?_,by have:=h.lo g hgm;omega,h3,h4,h.base⟩;exact qt Ending.returned h1
section
variable {P:Program}{Q:Exit→Act→World→Prop}{R:Rg}{B:Nat}{w0:Bs}{i:Nat}
theorem AZ {d e:Nat}{A:As}{st:Option (Nat × As)}{f:Yn}{xs:Ys}{pre:Yc}{at_:Yr}{ty:Yh}(hs:R.sp[i]?=some (.alc e))(he:R.les[e]?=some ⟨d,T,H,some i,A,st⟩)
  (ho:R.ops[i]?=some ⟨some d,.call ⟨.value (.func f),xs.toArray,at_⟩,ty,ps,af,none⟩) (hc:Cr P f T H A pre) (hx:HasL R B w0 i xs pre):R.Ob P Q B w0 i:=by
 unfold Rg.Ob;simp only [hs,he];intro a w av K hK;obtain ⟨⟨fn,hf,hn,hb⟩,hcall⟩:=hc;refine bA ho G ?_;have hrun:(execOp a.eval ⟨some d,.call ⟨.value (.func f),xs.toArray,at_⟩,ty,ps,af,none⟩).run P w=.ok (.enter f (xs.map a.eval).toArray) w:=by
  simp only [execOp,resolve,Act.eval,Deferred.ofValue,Sem.run_bind,Sem.run_pure,Result.andThen_ok,invoke,bb hf hn hb];simp
 unfold Oper.wp;rw [hrun];exact (hcall B w _ (Av.bw av) (hx.all av)).mono λ e w' ⟨g,cs,he,h1,h2,h3,hg⟩=>by subst he;exact hK g cs w' hg h1 h2 h3
end
theorem St.own {B N:Nat}(h:St B w0 N Γ Λ a w)(hB:B=w0.w.heap.size){t:Nat}{l:Ya}(k:Nat)(hm:Γ[k]?=some (t,(MgZ l).va))(hl:0<l.length)(hΛ:Λ.all (λ m=>m.T != U32)=true):
  ∃ c ext,l.length≤c∧c≤maxLen∧okL l∧c=(l++ext).length∧St B w0 N Γ (⟨t,U32,slH l.length c,Nums .u32 (l++ext)⟩::Λ) a w:=by
 obtain ⟨cs,⟨ok,A,c,rfl,h1,h2,h3⟩,hv⟩:=h.vals _ (qa hm);obtain ⟨g,ext,rfl,rfl,h4,h5⟩:=h3 hl;have hd:∀ m∈Λ,blk (a.eval (.tmp m.s))≠some g:=by
  intro m hm2 hh;obtain ⟨g',cs,e1,_,e3,_⟩:=h.locs m hm2;rw [e1,m.H.ok] at hh;injection hh with hh;subst hh;rw [e3] at h5;simp only [Option.some.injEq,Obj.cells.injEq] at h5;have:=qe.1 hΛ m hm2;simp [h5.2.1] at this
 have hg:blk (a.eval (.tmp t))=some g:=by rw [hv];rfl
 refine ⟨(l++ext).length,ext,by rw [qx];omega,h2,ok,rfl,h.lo,h.defers,h.size,h.base,h.vals,λ x hx=>?_,λ x hx y hy hne=>?_⟩
 ·rcases qr.1 hx with rfl|hx
  ·exact ⟨g,_,hv,.inl zo,h5,rfl⟩
  ·exact h.locs x hx
 ·rcases qr.1 hx with rfl|hx <;> rcases qr.1 hy with rfl|hy
  ·exact absurd G hne
  ·rw [hg];exact λ e=>hd y hy e.symm
  ·rw [hg];exact hd x hx
  ·exact h.dis x hx y hy hne
inductive Ar where
 | v (A:VA)
 | w (H:Hd)
def Ar.ok (B:Nat)(w:World)(g:Nat):Ar→Value→Prop
 | .v A,x=>A.p B x w
 | .w H,x=>x=H.f g
def Cm (P:Program)(f:FuncId)(T:TypeId)(A0 A1:As)(pre:List Ar)(post:VA):Prop :=
 (∃ fn, P.funcs[f]? = some fn∧(fn.name == "runtime.NumGoroutine")=false∧fn.body.isNone=false) ∧
 ∀ (B:Nat) (w:World) (g:Nat) (cs:List Value) (args:List Value),B≤g→w.heap[g]?=some (.cells cs.toArray T (0,0))→A0.p B cs w→All2 (λ A v=>Ar.ok B w g A v) pre args →
  Calls P f args.toArray w λ e w'=>∃ v cs',e=.returned v∧post.p B v w'∧But g w w'∧w'.heap[g]?=some (.cells cs'.toArray T (0,0))∧A1.p B cs' w'
def RQm (B:Nat)(w0:Bs)(g:Nat)(T:TypeId)(A1:As)(post:VA):Ending→World→Prop:=λ e w'=>∃ v cs',e=.returned v∧post.p B v w'∧Kept w0 w'∧w'.heap[g]?=some (.cells (List.toArray cs') T (0,0))∧A1.p B cs' w'
def Ar.va (g:Nat):Ar→VA
 | .v A=>A
 | .w H=>EqV (H.f g)
theorem Cm.intro {f : Yn}{fn : Func}{c : Code}{T : Yh}{A0 A1 : As}{H : Hd}{pre : List Ar}{post : VA} (hf : P.funcs[f]? = some fn) (hb : fn.body=some c) (hn : (fn.name == "runtime.NumGoroutine")=false) (hsz : pre.length + 1 ≤ fn.ntmps)
  (h:∀ (B g:Nat) (w0:Bs) (a:Act),St B w0 fn.ntmps (argΓ ((Ar.w H::pre).map (Ar.va g))) [⟨0,T,H,A0⟩] a w0.w→c.wp P (bZ P fn (RQm B w0 g T A1 post)) a w0.w):Cm P f T A0 A1 (.w H::pre) post:=by
 refine ⟨⟨fn,hf,hn,by rw [hb];rfl⟩,λ B w g cs args hB hg hp ha=>(c8 hf hb (h B g ⟨w,λ k=>k=g,false⟩ _ ?_)).mono λ _ _ ⟨v,cs',he,hv,hk,h1,h2⟩=>⟨v,cs',he,hv,hk,h1,h2⟩⟩;have hl:=ha.length;have hgw:=(Array.getElem?_eq_some_iff.1 hg).1;have ha':All2 (λ (A:VA) v=>A.p B v w) ((Ar.w H::pre).map (Ar.va g)) args:=by
  generalize (Ar.w H::pre)=pr at ha;clear hl
  induction ha with
  | nil=>exact .nil
  | @cons x y xs ys h1 _ ih =>
   refine .cons ?_ ih;cases x with
   | v A=>exact h1
   | w H=>exact h1
 have h0:(⟨args.toArray++Array.replicate (fn.ntmps-args.toArray.size) undef,[]⟩:Act).eval (.tmp 0)=H.f g:=by
  have:=All2.args (N:=fn.ntmps-args.toArray.size) ha' (0,EqV (H.f g)) (by simp [argΓ,Ar.va]);exact this
 refine ⟨λ k hk=>?_,DefOk.nil rfl,?_,Kept.refl _,All2.args ha',λ l hl=>?_,λ l hl m hm hne=>?_⟩
 ·rcases hk with hk|hk
  ·exact qf hB (qf (xa hgw) hk)
  ·have:k=g:=hk;omega
 ·simp only [xj,z7,qO];simp at hl;omega
 ·simp at hl;subst hl;exact ⟨g,cs,h0,.inr rfl,hg,hp⟩
 ·simp at hl hm;subst hl hm;exact absurd G hne
theorem gg {fn:Func}{B N g:Nat}{A1:As}{post:VA}(h:St B w0 N Γ Λ a w)(hm:(0,EqV (H.f g))∈Γ)(hl:(⟨0,T,H,A1⟩:Lc)∈Λ)
  (hb:bZ P fn (RQ B w0 post) .ret a w):bZ P fn (RQm B w0 g T A1 post) .ret a w:=by
 refine rC h hb λ v w h ⟨v',e1,e2,e3⟩=>?_;obtain ⟨g',cs,f1,_,f3,f4⟩:=h.locs _ hl
 replace f1:a.eval (.tmp 0)=H.f g':=f1
 have f0:a.eval (.tmp 0)=H.f g:=h.vals _ hm;have:g'=g:=Rg.Hd.inj (H:=H) (H':=H) (by rw [← f1,← f0]);subst this;exact ⟨v',cs,e1,e2,e3,f3,f4⟩
theorem iN {x:RI}(h:(RIA x).va.p B v w):okL x.mag∧x.mag.length≤9223372036854775807:=by
 obtain ⟨cs,hp,_⟩:=h;obtain ⟨ps,_,hps⟩:=hp;cases hps with
 | cons _ h2=>cases h2 with
  | cons h3 _ =>
   obtain ⟨A,c,_,hg⟩:=gB ⟨_,h3,rfl⟩;have h1:=hg.le;have h2:=hg.max;unfold maxLen at h2;exact ⟨hg.ok,by omega⟩
theorem Ht {n:Nat}(h:0<n)(h2:n≤9223372036854775807):IntKind.i64.wrap ((n:Int)-1)=((n-1:Nat):Int):=by rw [wi64 zo zo];omega
theorem aU {n:Nat}(h:n<4611686018427387904):IntKind.i64.wrap ((n:Int)+1)=((n+1:Nat):Int):=by rw [wi64 zo zo];rfl
theorem gG {n m:Nat}(h:n+m<4611686018427387904):IntKind.i64.wrap ((n:Int)+(m:Int))=((n+m:Nat):Int):=by rw [wi64 zo zo];rfl
theorem ye {n:Nat}(h:n+1<4611686018427387904):IntKind.i64.wrap (((n+1:Nat):Int)-1)=((n:Nat):Int):=by rw [wi64 zo zo];omega
theorem t9:∃ i0,Tryz.prog.info? U32=some i0∧i0.zero=some (.int .u32 0)∧i0.size=1∧i0.bytes=4:=info_parts zk
theorem fp:rE Tryz.prog 24 U32 .u32:=by
 have hi:(Tryz.prog.info? U32).map (λ it=>decide (it.bytes≤8))=some true:=by kernel_rfl
 exact ⟨by kernel_rfl,by kernel_rfl,by kernel_rfl,by kernel_rfl,λ it h=>by rw [h] at hi;simpa using hi⟩
theorem St.selL {B N:Nat}(h:St B w0 N Γ Λ a w)(l:Ya):St B w0 N Γ (l.filterMap λ k=>Λ[k]?) a w:=by
 have hm:∀ x∈l.filterMap (λ k=>Λ[k]?),x∈Λ:=λ x hx=>by
  obtain ⟨k,_,hk⟩:=qH.1 hx;exact qa hk
 exact ⟨h.lo,h.defers,h.size,h.base,h.vals,λ x hx=>h.locs x (hm x hx),λ x hx y hy=>h.dis x (hm x hx) y (hm y hy)⟩
theorem bN {B N:Nat}{Q:Yd}{t:Nat}{b:Bool}{x y:Code}(J:Ye)(h:St B w0 N Γ Λ a w)(hm:(t,Bo b)∈Γ)
  (ht:b=true→x.wp P (Exit.then J Q) a w) (hf:b=false→y.wp P (Exit.then J Q) a w) (hk:∀ a w,J a w→Q .normal a w):(Code.cond (.tmp t) x y).wp P Q a w:=by
 have hJ:∀ {z:Code},z.wp P (Exit.then J Q) a w→z.wp P Q a w:=λ hz=>wp_mono hz λ e a' w' hq=>by
  cases e with
  | normal=>exact hk a' w' hq
  | _=>exact hq
 exact c7 h hm (λ hb=>hJ (ht hb)) (λ hb=>hJ (hf hb))
theorem Cn.pre {f:Yn}{pre pre':Yc}{post:VA}(h:Cn P f pre post)(e:pre'=pre):Cn P f pre' post:=by subst e;exact h
theorem Cn.post {f:Yn}{pre:Yc}{post post':VA}(h:Cn P f pre post)(e:post=post'):Cn P f pre post':=by subst e;exact h
theorem iD {ops:Yg}{rest:List Oper}{o:Oper}{Q:Yd}(hgd:o.guard=none)(s x:Yj)(t:Yh)(ho:o.op=.call { callee:=.builtin .append,args := #[s,x],argTypes := #[t,t] })
  (e:TypeId) (i:TypeInfo) (z:Value) (ht:P.underlying t=some (.slice e)) (hi:P.info? e=some i) (hz:i.zero=some z) (hsize:i.size=1) (hby:i.bytes=4)
  (b:Addr) (hs:a.eval s=.slice (some b) 0 0) (ad:Addr) (m c:Nat) (news:List Value) (hx:a.eval x=.slice (some ad) m c) (hl:news.length=m) (hnews:∀ j u,news[j]?=some u→w.cell? (ad.add j)=some u) (hm:0<m) (hbytes:m*4≤140737488355328)
  (h:wpList P ops Q rest (a.put o.dst (.slice (some ⟨w.heap.size,0,none⟩) m (grownCap w m 0 e))) (w.drew.alloc (.cells (news.toArray++Builtin.zeroCells z.cells (grownCap w m 0 e-m)) e))):wpList P ops Q (o::rest) a w:=by
 refine wpList_plain hgd λ K hK=>?_;have hr:=run_append_grow (P:=P) w t o.type e i z ht hi hz b 0 0 [] (by simp) (λ j v hj=>by simp at hj) ad m c news (by rw [hl,hsize,zH]) hnews zo zo (growslice_fits zo (by rw [hby];omega));simp only [qV,vY] at hr;unfold Oper.wp execOp;simp only [ho,resolve,invoke,builtin,Sem.run_bind,Sem.run_pure,Result.andThen_ok,j1,qS,js,hs,hx,hr];exact hK _ _ h
theorem uL (k:Nat):Builtin.zeroCells #[Value.int .u32 0] k=((List.replicate k 0).map λ (x:Nat)=>Value.int .u32 x).toArray:=by
 apply jN;intro j;simp only [Builtin.zeroCells,jJ];by_cases hj:j<k
 ·simp [hj,vD]
 ·simp [hj]
theorem St.mag {B N:Nat}(h:St B w0 N Γ Λ a w){t:Nat}{l:Ya}(k:Nat)(hm:Γ[k]?=some (t,(MgA l).va)):okL l∧l.length≤9223372036854775807:=by
 obtain ⟨A,c,_,hg⟩:=gB (h.vals _ (qa hm));have h1:=hg.le;have h2:=hg.max;unfold maxLen at h2;exact ⟨hg.ok,by omega⟩
theorem St.magO {B N:Nat}(h:St B w0 N Γ Λ a w){t:Nat}{l:Ya}(k:Nat)(hm:Γ[k]?=some (t,(MgO l).va)):okL l∧l.length≤9223372036854775807:=by
 obtain ⟨A,c,_,hg⟩:=gB (l:=l) (SlO.use (h.vals _ (qa hm)));have h1:=hg.le;have h2:=hg.max;unfold maxLen at h2;exact ⟨hg.ok,by omega⟩
section
variable {P:Program}{Q:Exit→Act→World→Prop}{R:Rg}{B:Nat}{w0:Bs}{i:Nat}
theorem i6 {t b n c:Nat}{l:Ya}(j:Nat)(hj:R.sp[j]?=some (.adr t b .none True))(hji:(R.anc i).contains j=true)(hl:LocH R i b U32 (slH n c) (Nums .u32 l))(h:n=l.length∧n≤c∧c≤maxLen∧okL l)(hcap:c=l.length:=by first|rfl | (simp [ar];done) | omega):Has R B w0 i (.tmp t) (MgN l).va:=λ a w av=>by
 obtain ⟨g,cs,h1,hgm,h3,h4⟩:=hl.ok av;have h2:=av.d j t b .none True hji hj trivial;have h4':cs=l.map λ (x:Nat)=>Value.int .u32 x:=h4;obtain ⟨rfl,hc,hm,ok⟩:=h;exact ⟨[.slice (some ⟨g,0,none⟩) l.length c],⟨ok,.inr ⟨g,[],by rw [zr,hcap],by rw [zr,← hcap];exact hm,av.lo g hgm,by rw [zr,← h4'];exact h3⟩⟩,h2.trans h1⟩
theorem Ez {x:Yj}{l:Ya}(h:Has R B w0 i x (MgZ l).va):Has R B w0 i x (MgA l).va:=λ a w av=>by
 obtain ⟨A,c,e,hm,_⟩:=famZ.op _ _ _ _ (h a w av);rw [e];exact eu hm rfl
theorem sh {x:Yj}{l:Ya}(h:Has R B w0 i x (MgN l).va):Has R B w0 i x (MgA l).va:=λ a w av=>Jf (h a w av)
theorem nV {x y:Yj}{S:Yh}{l:Ya}{k:Nat}{kd:Yp}(hS:Sl P S U32 1)(hx:Has R B w0 i x (MgA l).va)(hy:Has R B w0 i y (NumA kd k).va)(hk:k<l.length):Wv P Q R B w0 i (.indexAddr S x y) (ElP U32 (NumA .u32 (l.getD k 0:Nat))):=by
 have:=bL (P:=P) (Q:=Q) hS hx hy hk;rwa [show l[k]=l.getD k 0 from by simp [List.getD,hk]] at this
theorem aE {k:Yp}{z:Int}(n:Nat)(h:z=(n:Int)):Has R B w0 i (.const (.int k z)) (NumA k (n:Nat)).va:=λ _ w _=>by subst h;exact bS k _ B w
theorem A7 {fn:Func}{t N n c:Nat}{l:Ya}(hr:fn.results = #[.tmp t])(h:St B w0 N Γ Λ a w)(hm:(⟨t,U32,slH n c,Nums .u32 l⟩:Lc)∈Λ)(hk:n=l.length∧n≤c∧c≤maxLen∧okL l)(hcap:c=l.length:=by first|rfl | (simp [ar];done) | omega):
  bZ P fn (RQ B w0 (MgN l).va) .ret a w:=by
 obtain ⟨rfl,hc,hmx,ok⟩:=hk;refine g9 h λ w h=>?_;obtain ⟨g,cs,h1,hgm,h3,h4⟩:=h.locs _ hm;have h4':cs=l.map λ (x:Nat)=>Value.int .u32 x:=h4;exact ⟨_,results_tmp hr a.tmps P w,_,rfl,⟨[.slice (some ⟨g,0,none⟩) l.length c],⟨ok,.inr ⟨g,[],by rw [zr,hcap],by rw [zr,← hcap];exact hmx,h.lo g hgm,by rw [zr,← h4'];exact h3⟩⟩,h1⟩,h.base⟩
def ArH (R:Rg)(B:Nat)(w0:Bs)(i:Nat)(s:Nat)(H0:Hd):Ar→Operand→Prop
 | .v A,x=>Has R B w0 i x A
 | .w H,x=>H=H0∧∀ a w,R.Av B w0 i a w→a.eval x=a.eval (.tmp s)
theorem arw2 {s t:Nat}(j:Nat)(hj:R.sp[j]?=some (.adr t s .none True))(hji:(R.anc i).contains j=true):ArH R B w0 i s H (.w H) (.tmp t):=⟨rfl,λ _ _ av=>av.d j t s .none True hji hj trivial⟩
theorem Ml {d s e:Nat}{cr:Yt}{A0 A1:As}{A:VA}{f:Yn}{xs:Ys}{pre:List Ar}{at_:Yr}{ty:Yh}
  (hs:R.sp[i]?=some (.cal d A e)) (he:R.les[e]?=some ⟨s,T,H,cr,A0,some (i,A1)⟩) (ho:R.ops[i]?=some ⟨some d,.call ⟨.value (.func f),xs.toArray,at_⟩,ty,ps,af,none⟩)
  (hc:Cm P f T A0 A1 pre A) (hx:All2 (ArH R B w0 i s H) pre xs):R.Ob P Q B w0 i:=by
 unfold Rg.Ob;simp only [hs,he];intro a w av g cs h1 hB h3 h4 _ K hK;obtain ⟨⟨fn,hf,hn,hb⟩,hcall⟩:=hc;refine bA ho G ?_;have hrun:(execOp a.eval ⟨some d,.call ⟨.value (.func f),xs.toArray,at_⟩,ty,ps,af,none⟩).run P w=.ok (.enter f (xs.map a.eval).toArray) w:=by
  simp only [execOp,resolve,Act.eval,Deferred.ofValue,Sem.run_bind,Sem.run_pure,Result.andThen_ok,invoke,bb hf hn hb];simp
 unfold Oper.wp;rw [hrun];refine (hcall B w g cs _ hB h3 h4 ?_).mono λ e w' ⟨v,cs',he,hv,hg,h5,h6⟩=>by subst he;exact hK v cs' w' hg h5 h6 hv
 clear hcall hrun ho
 induction hx with
 | nil=>exact .nil
 | @cons x y _ _ h _ ih =>
  refine .cons ?_ ih;cases x with
  | v A=>exact h a w av
  | w H' =>
   obtain ⟨rfl,h2⟩:=h;exact (h2 a w av).trans h1
end
theorem St.expose {B N:Nat}(h:St B w0 N Γ Λ a w){s:Nat}{A:As}(k:Nat)(hm:Λ[k]?=some ⟨s,T,H,A⟩):∃ g,B≤g∧St B w0 N ((s,EqV (H.f g))::Γ) Λ a w:=by
 obtain ⟨g,cs,h1,h2,_⟩:=h.locs _ (qa hm);refine ⟨g,h.lo g h2,h.lo,h.defers,h.size,h.base,λ x hx=>?_,h.locs,h.dis⟩;rcases qr.1 hx with rfl|hx
 ·exact h1
 ·exact h.vals x hx
theorem St.swap {B N:Nat}(h:St B w0 N Γ Λ a w){s s' g:Nat}{H H':Hd}{A:As}(k:Nat)(hm:Λ[k]?=some ⟨s,T,H,A⟩)(h1:(s,EqV (H.f g))∈Γ)(h2:(s',EqV (H'.f g))∈Γ)
  (hs:(Λ.eraseIdx k).all (λ m=>m.s != s)=true):St B w0 N Γ (⟨s',T,H',A⟩::Λ.eraseIdx k) a w:=by
 have e1:a.eval (.tmp s)=H.f g:=h.vals _ h1;have e2:a.eval (.tmp s')=H'.f g:=h.vals _ h2;have hin:=qa hm;have hsub:∀ m∈Λ.eraseIdx k,m∈Λ:=λ m hm=>xG hm;have hb:∀ m∈Λ.eraseIdx k,blk (a.eval (.tmp m.s))≠blk (a.eval (.tmp s')):=by
  intro m hm2;have hne:m.s≠s:=by simpa using qe.1 hs m hm2
  have:=h.dis m (hsub m hm2) _ hin hne;rw [e2,H'.ok];rw [show a.eval (.tmp (⟨s,T,H,A⟩:Lc).s)=H.f g from e1,H.ok] at this;exact this
 refine ⟨h.lo,h.defers,h.size,h.base,h.vals,λ x hx=>?_,λ x hx y hy hne=>?_⟩
 ·rcases qr.1 hx with rfl|hx
  ·obtain ⟨g',cs,f1,f2,f3,f4⟩:=h.locs _ hin;have:g'=g:=Rg.Hd.inj (H:=H) (H':=H) (by rw [← f1,← e1]);subst this;exact ⟨g',cs,e2,f2,f3,f4⟩
  ·exact h.locs x (hsub x hx)
 ·rcases qr.1 hx with rfl|hx <;> rcases qr.1 hy with rfl|hy
  ·exact absurd G hne
  ·exact λ e=>hb y hy e.symm
  ·exact hb x hx
  ·exact h.dis x (hsub x hx) y (hsub y hy) hne
def winH (k n c:Nat):Hd:=⟨λ g=>.slice (some ⟨g,k,none⟩) n c,λ _=>rfl⟩
theorem lZ {Q:Yd}(h:Q .ret a w):Exit.noGoto Q .ret a w:=h
theorem y6 {Q:Yd}{id:Nat}{c:Code}(J:Ye)(h:c.wp P (Exit.inBlock id (Exit.then J Q)) a w)(hk:∀ a w,J a w→Q .normal a w):(Code.block id c).wp P Q a w :=
 wp_mono (qk h) λ e a' w' hq=>by
  cases e with
  | normal=>exact hk a' w' hq
  | _=>exact hq
theorem St.cvA {B N:Nat}(h:St B w0 N Γ Λ a w){s:Nat}{A A':As}(k:Nat)(hm:Λ[k]?=some ⟨s,T,H,A⟩)(e:A=A'):St B w0 N Γ (Λ.set k ⟨s,T,H,A'⟩) a w:=by
 subst e;obtain ⟨hk,he⟩:=List.getElem?_eq_some_iff.1 hm;rw [← he,vx];exact h
theorem St.cvG {B N:Nat}(h:St B w0 N Γ Λ a w){s:Nat}{A A':VA}(k:Nat)(hm:Γ[k]?=some (s,A))(e:A=A'):St B w0 N (Γ.set k (s,A')) Λ a w:=by
 subst e;obtain ⟨hk,he⟩:=List.getElem?_eq_some_iff.1 hm;rw [← he,vx];exact h
theorem St.asN {B N:Nat}(h:St B w0 N Γ Λ a w){t s n c g:Nat}(l ext:Ya){c':Ya}(k:Nat)(hm:Λ[k]?=some ⟨s,U32,H,Nums .u32 c'⟩)(h1:(s,EqV (H.f g))∈Γ)(h2:(t,EqV (.slice (some ⟨g,0,none⟩) n c))∈Γ)
  (e:c'=l++ext) (hn:n=l.length) (hc:n≤c∧c≤maxLen) (ok:okL l) (hcap:c=(l++ext).length:=by first|rfl | (simp [ar];done) | omega):St B w0 N ((t,(MgN l).va)::Γ) Λ a w:=by
 refine ⟨h.lo,h.defers,h.size,h.base,λ x hx=>?_,h.locs,h.dis⟩;rcases qr.1 hx with rfl|hx
 ·obtain ⟨g',cs,f1,f2,f3,f4⟩:=h.locs _ (qa hm);have e1:a.eval (.tmp s)=H.f g:=h.vals _ h1;have hg:g'=g:=Rg.Hd.inj (H:=H) (H':=H) (by rw [← f1,← e1]);subst hg;have f4':cs=c'.map λ (x:Nat)=>Value.int .u32 x:=f4;subst hn;exact ⟨[.slice (some ⟨g',0,none⟩) l.length c],⟨ok,.inr ⟨g',ext,by rw [hcap],by rw [← hcap];exact hc.2,h.lo g' f2,by rw [← e,← f4'];exact f3⟩⟩,h.vals _ h2⟩
 ·exact h.vals x hx
section
variable {P:Program}{Q:Exit→Act→World→Prop}{R:Rg}{B:Nat}{w0:Bs}{i:Nat}
theorem LO {x y z:Yj}{S E:Yh}{g o n c l h:Nat}(hS:Sl P S E 1)(hx:Has R B w0 i x (EqV (.slice (some ⟨g,o,none⟩) n c)))(hy:Has R B w0 i y (In l))(hz:Has R B w0 i z (In h)){o' n' c':Nat}(hw:l≤h∧h≤c∧l<c∧o+l=o'∧h-l=n'∧c-l=c') :
  Wv P Q R B w0 i (.slice S x (some y) (some z) none) (EqV (.slice (some ⟨g,o',none⟩) n' c')) :=
 bj λ d T ps af gd a w av=>by
  obtain ⟨hs1,hs2⟩:=hS;obtain ⟨h1,h2,h3,rfl,rfl,rfl⟩:=hw;have e1:a.eval x=_:=hx a w av;have e2:=bg (hy a w av);have e3:=bg (hz a w av);have hE:P.elem S=E:=by simp [Program.elem,hs1]
  have hs1':P.underlying S=some (.slice (P.elem S)):=by rw [hE];exact hs1
  have hsz:∀ w,(sizeOf E).run P w=.ok 1 w:=λ w=>by
   cases hi:P.info? E with
   | none=>rw [hi] at hs2;simp at hs2
   | some it=>rw [hi] at hs2;simp [sizeOf,typeInfo,hi];simpa using hs2
  refine ⟨_,w,?_,Grow.refl w,rfl⟩;have hr:=run_slice_lh (P:=P) w S (some ⟨g,o,none⟩) n c hs1' .i64 .i64 (l:Int) (h:Int) zo zo zo;rw [hE,hsz] at hr;have hne:¬ c=l:=by omega
  simp only [Result.andThen_ok,sliced,xi,hne,if_false,zH,qT] at hr;simp only [execOp,e1,e2,e3,qT,run_sliceAt_slice _ _ _ _ _ _ hs1',Sem.run_bind,Sem.run_pure]
  erw [hr]
  simp [Addr.add]
theorem Ai {x z:Yj}{S E:Yh}{g o n c h:Nat}(hS:Sl P S E 1)(hx:Has R B w0 i x (EqV (.slice (some ⟨g,o,none⟩) n c)))(hz:Has R B w0 i z (In h))(hw:h≤c∧0<c) :
  Wv P Q R B w0 i (.slice S x none (some z) none) (EqV (.slice (some ⟨g,o,none⟩) h c)) :=
 bj λ d T ps af gd a w av=>by
  obtain ⟨hs1,hs2⟩:=hS;obtain ⟨h2,h3⟩:=hw;have e1:a.eval x=_:=hx a w av;have e3:=bg (hz a w av);have hE:P.elem S=E:=by simp [Program.elem,hs1]
  have hs1':P.underlying S=some (.slice (P.elem S)):=by rw [hE];exact hs1
  have hsz:∀ w,(sizeOf E).run P w=.ok 1 w:=λ w=>by
   cases hi:P.info? E with
   | none=>rw [hi] at hs2;simp at hs2
   | some it=>rw [hi] at hs2;simp [sizeOf,typeInfo,hi];simpa using hs2
  refine ⟨_,w,?_,Grow.refl w,rfl⟩;have hr:=run_slice_h (P:=P) w S (some ⟨g,o,none⟩) n c hs1' .i64 (h:Int) zo zo;rw [hE,hsz] at hr;have hne:¬ c=0:=by omega
  simp only [Result.andThen_ok,sliced,xi,hne,if_false,zH,qT,jq] at hr;simp only [execOp,e1,e3,qT,run_sliceAt_slice _ _ _ _ _ _ hs1',Sem.run_bind,Sem.run_pure]
  erw [hr]
  simp [Addr.add]
def cutV (m:Nat):Value→Value
 | .slice A _ c=>.slice A m c
 | v=>v
theorem Q8 {b n c m:Nat}{S E T:Yh}{A:As}{y:Yj}(hS:Sl P S E 1)(hl:LocH R i b T (slH n c) A)(hy:Has R B w0 i y (In m))(hm:m≤c)(hc:0<c):Ad P Q R B w0 i (.slice S (.tmp b) none (some y) none) b (.fn (cutV m)):=λ d T' ps af gd a w av K hK=>by
 obtain ⟨hs1,hs2⟩:=hS;obtain ⟨g,cs,e1,_⟩:=hl.ok av;have e3:=bg (hy a w av);have hE:P.elem S=E:=by simp [Program.elem,hs1]
 have hs1':P.underlying S=some (.slice (P.elem S)):=by rw [hE];exact hs1
 have hsz:∀ w,(sizeOf E).run P w=.ok 1 w:=λ w=>by
  cases hi:P.info? E with
  | none=>rw [hi] at hs2;simp at hs2
  | some it=>rw [hi] at hs2;simp [sizeOf,typeInfo,hi];simpa using hs2
 have hr:=run_slice_h (P:=P) w S (some ⟨g,0,none⟩) n c hs1' .i64 (m:Int) zo zo;rw [hE,hsz] at hr;rw [e1] at hK;have hne:¬ c=0:=by omega
 simp only [Result.andThen_ok,sliced,xi,hne,if_false,zH,qT,jq] at hr;refine aY (w':=w) (v:=(slH m c).f g) ?_ hK;have e1':a.eval (.tmp b)=.slice (some ⟨g,0,none⟩) n c:=e1;simp only [execOp,e1',e3,qT,run_sliceAt_slice _ _ _ _ _ _ hs1',Sem.run_bind,Sem.run_pure]
 erw [hr]
 simp [Addr.add,slH]
structure Named (R:Rg) (e:Le) (l:Lc):Prop where
 T:l.T=e.T
 A:l.A=Rg.last e
 nm:(l.s=e.s∧l.H=e.H)∨∃ (j:Nat) (k:Ky),R.sp[j]?=some (.adr l.s e.s k True)∧∀ g,offP (e.H.f g) k=l.H.f g
theorem C0 (hk:R.chk=true)(h:Rg.Fin R B w0 a w)(src:List Src)(hsrc:src.all (okS R)=true)(Λ':Yk)(hn:All2 (Named R) R.les Λ'):St B w0 R.N (src.filterMap (cA R)) Λ' a w:=by
 have st:=fD hk h src hsrc;have hev:∀ e∈R.les,∀ l,Named R e l→∃ g cs,a.eval (.tmp e.s)=e.H.f g∧a.eval (.tmp l.s)=l.H.f g∧w0.may g∧w.heap[g]?=some (.cells (List.toArray cs) e.T (0,0))∧(Rg.last e).p B cs w:=by
  intro e he l hl;obtain ⟨g,cs,e1,e2,e3,e4⟩:=st.locs ⟨e.s,e.T,e.H,Rg.last e⟩ (qp.2 ⟨e,he,rfl⟩);refine ⟨g,cs,e1,?_,e2,e3,e4⟩;rcases hl.nm with ⟨h1,h2⟩|⟨j,k,h1,h2⟩
  ·rw [h1,h2];exact e1
  ·have:=h.inv.d j l.s e.s k True h1 (by simpa using Rg.chk_lt hk h1) trivial;rw [this,show a.eval (.tmp e.s)=e.H.f g from e1,h2]
 have hget:∀ l∈Λ',∃ i:Nat,∃ e,R.les[i]?=some e∧Λ'[i]?=some l∧Named R e l:=by
  intro l hl;obtain ⟨i,hi⟩:=List.getElem?_of_mem hl;have hlen:=hn.length;have hi':i<R.les.length:=by have:=(List.getElem?_eq_some_iff.1 hi).1;omega
  obtain ⟨l',h1,h2⟩:=hn.get (List.getElem?_eq_getElem hi');rw [hi] at h1;injection h1 with h1;subst h1;exact ⟨i,_,List.getElem?_eq_getElem hi',hi,h2⟩
 refine ⟨st.lo,st.defers,st.size,st.base,st.vals,λ l hl=>?_,λ l hl m hm hne=>?_⟩
 ·obtain ⟨i,e,h1,_,h3⟩:=hget l hl;obtain ⟨g,cs,e1,e2,e3,e4,e5⟩:=hev e (qa h1) l h3;exact ⟨g,cs,e2,e3,by rw [h3.T];exact e4,by rw [h3.A];exact e5⟩
 ·obtain ⟨i,e,h1,h2,h3⟩:=hget l hl;obtain ⟨j,f,k1,k2,k3⟩:=hget m hm;obtain ⟨g,_,e1,e2,_⟩:=hev e (qa h1) l h3;obtain ⟨g',_,f1,f2,_⟩:=hev f (qa k1) m k3;have hij:i≠j:=λ hh=>by subst hh;rw [h2] at k2;injection k2 with k2;exact hne (by rw [k2])
  have hs:e.s≠f.s:=λ hh=>(Rg.chk_le hk k1).2.2.2.1 i e h1 hij hh;have:=st.dis ⟨e.s,e.T,e.H,Rg.last e⟩ (qp.2 ⟨e,qa h1,rfl⟩) ⟨f.s,f.T,f.H,Rg.last f⟩ (qp.2 ⟨f,qa k1,rfl⟩) hs;rw [show a.eval (.tmp (⟨e.s,e.T,e.H,Rg.last e⟩:Lc).s)=e.H.f g from e1,show a.eval (.tmp (⟨f.s,f.T,f.H,Rg.last f⟩:Lc).s)=f.H.f g' from f1,e.H.ok,f.H.ok] at this;rw [e2,f2,l.H.ok,m.H.ok];exact this
theorem EJ {N:Nat}{id:Nat}{ops:Yg}{sts:List (Option (Nat × As))}{news:List Le}{sp:Yu}(anc:List (Ya))(src:List Src)(Λ':Yk)(hm:P.follows .mixedOrders=true)(h:St B w0 N Γ Λ a w)
  (hob:Obs P Q ⟨ops,N,Γ,bv Λ sts news,sp,λ i=>anc.getD i []⟩ B w0 0 ops.size)
  (hn:news.all (λ e=>e.cr.isSome)=true) (hanc:Rg.ancOk ⟨ops,N,Γ,bv Λ sts news,sp,λ i=>anc.getD i []⟩=true) (hk:Rg.chk ⟨ops,N,Γ,bv Λ sts news,sp,λ i=>anc.getD i []⟩=true) (hsrc:src.all (okS ⟨ops,N,Γ,bv Λ sts news,sp,λ i=>anc.getD i []⟩)=true)
  (hnm:All2 (Named ⟨ops,N,Γ,bv Λ sts news,sp,λ i=>anc.getD i []⟩) (bv Λ sts news) Λ')
  (hQ:∀ a w,St B w0 N (src.filterMap (cA ⟨ops,N,Γ,bv Λ sts news,sp,λ i=>anc.getD i []⟩)) Λ' a w→Q .normal a w):(Code.region id ops true).wp P Q a w :=
 Rg.draw (R:=⟨ops,N,Γ,bv Λ sts news,sp,λ i=>anc.getD i []⟩) hm hanc hk h (gZ hn) (λ i hi=>hob.all i zo (by simpa using hi)) λ a' w' hf=>hQ a' w' (C0 hk hf src hsrc Λ' hnm)
end
def Cm2 (P:Program)(f:FuncId)(T:TypeId)(H0 H1:Hd)(A0 A1:As)(kd:IntKind)(ld:List Nat)(pre:List VA)(post:VA):Prop :=
 (∃ fn, P.funcs[f]? = some fn∧(fn.name == "runtime.NumGoroutine")=false∧fn.body.isNone=false) ∧
 ∀ (B:Nat) (w:World) (g0 g1:Nat) (cs:List Value) (args:List Value),B≤g0→B≤g1→g0≠g1→w.heap[g0]?=some (.cells cs.toArray T (0,0))→w.heap[g1]?=some (.cells (ld.map λ (x:Nat)=>Value.int kd x).toArray T (0,0))→A0.p B cs w→All2 (λ A v=>A.p B v w) pre args →
  Calls P f (H0.f g0::H1.f g1::args).toArray w λ e w'=>∃ v cs',e=.returned v∧post.p B v w'∧But g0 w w'∧w'.heap[g0]?=some (.cells (List.toArray cs') T (0,0))∧A1.p B cs' w'
def RQm2 (B:Nat)(w0:Bs)(g0 g1:Nat)(T:TypeId)(A1:As)(kd:IntKind)(ld:List Nat)(post:VA):Ending→World→Prop:=λ e w'=>∃ v cs',e=.returned v∧post.p B v w'∧Kept w0 w'∧w'.heap[g0]?=some (.cells (List.toArray cs') T (0,0))∧A1.p B cs' w' ∧
 w'.heap[g1]?=some (.cells (ld.map λ (x:Nat)=>Value.int kd x).toArray T (0,0))
theorem Cm2.intro {f : Yn}{fn : Func}{c : Code}{T : Yh}{A0 A1 : As}{H0 H1 : Hd}{kd : Yp}{ld : Ya}{pre : Yc}{post : VA} (hf : P.funcs[f]? = some fn) (hb : fn.body=some c) (hn : (fn.name == "runtime.NumGoroutine")=false) (hsz : pre.length + 2 ≤ fn.ntmps)
  (h:∀ (B g0 g1:Nat) (w0:Bs) (a:Act),St B w0 fn.ntmps (argΓ (EqV (H0.f g0)::EqV (H1.f g1)::pre)) [⟨0,T,H0,A0⟩,⟨1,T,H1,Nums kd ld⟩] a w0.w→c.wp P (bZ P fn (RQm2 B w0 g0 g1 T A1 kd ld post)) a w0.w):Cm2 P f T H0 H1 A0 A1 kd ld pre post:=by
 refine ⟨⟨fn,hf,hn,by rw [hb];rfl⟩,λ B w g0 g1 cs args hB hB1 hne hg hg1 hp ha=>(c8 hf hb (h B g0 g1 ⟨w,λ k=>k=g0∨k=g1,false⟩ _ ?_)).mono λ _ w' ⟨v,cs',he,hv,hk,h1,h2,h3⟩=>⟨v,cs',he,hv,⟨hk.os,hk.tape,hk.output,hk.size,λ k hk1 hk2=>?_⟩,h1,h2⟩⟩
 ·have hl:=ha.length;have hgw:=(Array.getElem?_eq_some_iff.1 hg).1;have ha':All2 (λ (A:VA) v=>A.p B v w) (EqV (H0.f g0)::EqV (H1.f g1)::pre) (H0.f g0::H1.f g1::args):=.cons rfl (.cons rfl ha);have hargs:=All2.args (N:=fn.ntmps-(H0.f g0::H1.f g1::args).toArray.size) ha';have e0:=hargs (0,EqV (H0.f g0)) (by simp [argΓ]);have e1:=hargs (1,EqV (H1.f g1)) (by simp [argΓ]);refine ⟨λ k hk=>?_,DefOk.nil rfl,?_,Kept.refl _,hargs,λ l hl=>?_,λ l hl m hm hne2=>?_⟩
  ·rcases hk with hk|hk|hk
   ·exact qf hB (qf (xa hgw) hk)
   ·have:k=g0:=hk;omega
   ·have:k=g1:=hk;omega
  ·simp only [xj,z7,qO,zc];omega
  ·simp at hl;rcases hl with rfl|rfl
   ·exact ⟨g0,cs,e0,.inr (.inl G),hg,hp⟩
   ·exact ⟨g1,_,e1,.inr (.inr G),hg1,rfl⟩
  ·have b0:blk ((⟨(H0.f g0::H1.f g1::args).toArray++Array.replicate (fn.ntmps-(H0.f g0::H1.f g1::args).toArray.size) undef,[]⟩:Act).eval (.tmp 0))=some g0:=by rw [show _=H0.f g0 from e0,H0.ok]
   have b1:blk ((⟨(H0.f g0::H1.f g1::args).toArray++Array.replicate (fn.ntmps-(H0.f g0::H1.f g1::args).toArray.size) undef,[]⟩:Act).eval (.tmp 1))=some g1:=by rw [show _=H1.f g1 from e1,H1.ok]
   simp only [qr,zF,or_false] at hl hm;rcases hl with rfl|rfl <;> rcases hm with rfl|rfl
   ·exact absurd G hne2
   ·rw [b0,b1];simpa using hne
   ·rw [b0,b1];simpa using λ e=>hne e.symm
   ·exact absurd G hne2
 ·by_cases e:k=g1
  ·subst e;rw [h3];exact hg1.symm
  ·exact hk.block k hk1 (λ hh=>hh.elim hk2 e)
theorem LC {fn:Func}{B N g0 g1:Nat}{H0 H1:Hd}{A1:As}{kd:Yp}{ld:Ya}{post:VA}(h:St B w0 N Γ Λ a w)(hm0:(0,EqV (H0.f g0))∈Γ)(hm1:(1,EqV (H1.f g1))∈Γ)
  (hl0:(⟨0,T,H0,A1⟩:Lc)∈Λ) (hl1:(⟨1,T,H1,Nums kd ld⟩:Lc)∈Λ) (hb:bZ P fn (RQ B w0 post) .ret a w):bZ P fn (RQm2 B w0 g0 g1 T A1 kd ld post) .ret a w:=by
 refine rC h hb λ v w h ⟨v',e1,e2,e3⟩=>?_;obtain ⟨g,cs,f1,_,f3,f4⟩:=h.locs _ hl0
 replace f1:a.eval (.tmp 0)=H0.f g:=f1
 have f0:a.eval (.tmp 0)=H0.f g0:=h.vals _ hm0;have:g=g0:=Rg.Hd.inj (H:=H0) (H':=H0) (by rw [← f1,← f0]);subst this;obtain ⟨g',ds,q1,_,q3,q4⟩:=h.locs _ hl1
 replace q1:a.eval (.tmp 1)=H1.f g':=q1
 have q0:a.eval (.tmp 1)=H1.f g1:=h.vals _ hm1;have:g'=g1:=Rg.Hd.inj (H:=H1) (H':=H1) (by rw [← q1,← q0]);subst this;have q4':ds=ld.map λ (x:Nat)=>Value.int kd x:=q4;subst q4';exact ⟨v',cs,e1,e2,e3,f3,f4,q3⟩
section
variable {P:Program}{Q:Exit→Act→World→Prop}{R:Rg}{B:Nat}{w0:Bs}{i:Nat}
theorem IU {d s s1 e:Nat}{H0 H1:Hd}{cr:Yt}{A0 A1:As}{A:VA}{kd:Yp}{ld:Ya}{f:Yn}{x0 x1:Yj}{xs:Ys}{pre:Yc}{at_:Yr}{ty:Yh}
  (hs:R.sp[i]?=some (.cal d A e)) (he:R.les[e]?=some ⟨s,T,H0,cr,A0,some (i,A1)⟩) (ho:R.ops[i]?=some ⟨some d,.call ⟨.value (.func f),(x0::x1::xs).toArray,at_⟩,ty,ps,af,none⟩)
  (hc:Cm2 P f T H0 H1 A0 A1 kd ld pre A) (hx0:ArH R B w0 i s H0 (.w H0) x0) (hl1:LocH R i s1 T H1 (Nums kd ld)) (hne:s1≠s) (hx1:ArH R B w0 i s1 H1 (.w H1) x1) (hx:HasL R B w0 i xs pre):R.Ob P Q B w0 i:=by
 unfold Rg.Ob;simp only [hs,he];intro a w av g cs h1 hB h3 h4 hdis K hK;obtain ⟨⟨fn,hf,hn,hb⟩,hcall⟩:=hc;refine bA ho G ?_;have e0:a.eval x0=H0.f g:=(hx0.2 a w av).trans h1;obtain ⟨g1,ds,q1,q2,q3,q4⟩:=hl1.ok av;have e1:a.eval x1=H1.f g1:=(hx1.2 a w av).trans q1;have q4':ds=ld.map λ (x:Nat)=>Value.int kd x:=q4;subst q4';have hgg:g≠g1:=by
  obtain ⟨m,hm,rfl,_,rfl,hph⟩:=hl1;have:=hdis m hm hne (by rw [hph];rfl);rw [q1,m.H.ok] at this;exact λ hh=>this (by rw [hh])
 have hrun:(execOp a.eval ⟨some d,.call ⟨.value (.func f),(x0::x1::xs).toArray,at_⟩,ty,ps,af,none⟩).run P w=.ok (.enter f ((x0::x1::xs).map a.eval).toArray) w:=by
  simp only [execOp,resolve,Act.eval,Deferred.ofValue,Sem.run_bind,Sem.run_pure,Result.andThen_ok,invoke,bb hf hn hb];simp
 rw [qS,qS,e0,e1] at hrun;unfold Oper.wp;rw [hrun];exact (hcall B w g g1 cs _ hB (av.lo g1 q2) hgg h3 q3 h4 (hx.all av)).mono λ e w' ⟨v,cs',he,hv,hg,h5,h6⟩=>by subst he;exact hK v cs' w' hg h5 h6 hv
theorem Oc {t b:Nat}{k:Ky}(j:Nat)(hj:R.sp[j]?=some (.adr t b k True))(hji:(R.anc i).contains j=true):Ad P Q R B w0 i (.assign (.tmp t)) b k:=λ _ _ _ _ _ a w av _ hK=>by
 have h3:a.eval (.tmp t)=offP (a.eval (.tmp b)) k:=av.d j t b k True hji hj trivial;exact aY (w':=w) (v:=a.eval (.tmp t)) G (by rw [h3];exact hK)
theorem arwE {s:Nat}{x:Yj}(h1:Has R B w0 i x (EqV v))(h2:Has R B w0 i (.tmp s) (EqV v)):ArH R B w0 i s H (.w H) x:=⟨rfl,λ a w av=>(show a.eval x=v from h1 a w av).trans (show a.eval (.tmp s)=v from h2 a w av).symm⟩
theorem LR {k:Yp}{x y:Yj}{ts:Yr}{m n c:Int}(hx:Has R B w0 i x (NumA k m).va)(hy:Has R B w0 i y (NumA k n).va)(h:max m n=c):Wv P Q R B w0 i (.call ⟨.builtin .max,#[x,y],ts⟩) (NumA k c).va:=h▸LS hx hy
theorem dA {x:Yj}{S E':Yh}{A:Option Addr}{n c:Nat}(hS:P.underlying S=some (.slice E'))(hx:Has R B w0 i x (EqV (.slice A n c))):Wv P Q R B w0 i (.call ⟨.builtin .len,#[x],#[S]⟩) (In n) :=
 bj λ d T' ps af gd a w av=>by
  have h3:a.eval x=.slice A n c:=hx a w av;refine ⟨.int .i64 n,w,?_,Grow.refl w,bS _ _ _ _⟩;simp [execOp,resolve,invoke,builtin,h3,Builtin.len_,run_underlying hS,goInt]
theorem dg {x y:Yj}{s:ByteArray}{n:Nat}{b:UInt8}{kd:Yp}(hT:P.underlying T=some .string)(hx:Has R B w0 i x (EqV (.string s)))(hy:Has R B w0 i y (NumA kd n).va)(h:s[n]?=some b):Wv P Q R B w0 i (.index T x y) (NumA .u8 (b.toNat:Nat)).va :=
 bj λ d T' ps af gd a w av=>by
  have e1:a.eval x=.string s:=hx a w av;have e2:=bg (hy a w av);refine ⟨_,w,?_,Grow.refl w,bS _ _ _ _⟩;simp [execOp,e1,e2,Instr.index,asIntOf,run_underlying hT,h]
theorem nums_at' {k:Yp}{l:Ya}{j x:Nat}(h:l[j]?=some x):Sub (Nums k l) j (NumA k (x:Nat)):=by
 obtain ⟨h1,h2⟩:=List.getElem?_eq_some_iff.1 h;subst h2;exact iU h1
theorem cO {x y:Yj}{S E:Yh}{g o n c k:Nat}{kd:Yp}(hS:Sl P S E 1)(hx:Has R B w0 i x (EqV (.slice (some ⟨g,o,none⟩) n c)))(hy:Has R B w0 i y (NumA kd k).va)(hk:k<n):Wv P Q R B w0 i (.indexAddr S x y) (EqV (.pointer (some ⟨g,o+k,none⟩))) :=
 bj λ d T' ps af gd a w av=>by
  have h3:a.eval x=.slice (some ⟨g,o,none⟩) n c:=hx a w av;have e:=bg (hy a w av);obtain ⟨hs1,hs2⟩:=hS;refine ⟨_,w,?_,Grow.refl w,rfl⟩;cases hi:P.info? E with
  | none=>rw [hi] at hs2;simp at hs2
  | some it =>
   rw [hi] at hs2;have hsz:it.size=1:=by simpa using hs2
   by_cases h0:k=0
   ·subst h0;simp [execOp,h3,e,Instr.indexAt,asIntOf,run_underlying hs1,hk,sizeOf,typeInfo,hi,Addr.add]
   ·simp [execOp,h3,e,Instr.indexAt,asIntOf,run_underlying hs1,hk,sizeOf,typeInfo,hi,hsz,Addr.add,h0]
theorem cm {x:Yj}{s g m:Nat}{A A':As}{ty:Yh}(hx:Has R B w0 i x (EqV (.pointer (some ⟨g,m,none⟩))))(hl:LocH R i s T H A)(hs:Has R B w0 i (.tmp s) (EqV (H.f g)))(hsub:Sub A m A')(ht:Ty P ty A'.n A'.ag):
  Wv P Q R B w0 i (.load ty x) A'.va :=
 bj λ _ _ _ _ _ a w av=>by
  obtain ⟨g',cs,h1,_,h3,h4⟩:=hl.ok av;have h2:a.eval x=.pointer (some ⟨g,m,none⟩):=hx a w av;have hg:g'=g:=Rg.Hd.inj (H:=H) (H':=H) (by rw [← h1,← show a.eval (.tmp s)=H.f g from hs a w av]);subst hg;obtain ⟨p1,l1⟩:=hsub _ _ _ h4;refine ⟨cE A'.ag ((cs.drop m).take A'.n),w,?_,Grow.refl w,⟨_,p1,rfl⟩⟩;have:=de ht w g' m _ (A'.len _ _ _ p1) A'.ag1 (iy h3 A'.n);simp [execOp,h2,Instr.loadAt,Instr.sureAddr,this]
theorem gz {e s g m:Nat}{cr:Yt}{A0 A' A1:As}{x p:Yj}{ty ty':Yh}(hs:R.sp[i]?=some (.sto e))(he:R.les[e]?=some ⟨s,T,H,cr,A0,some (i,A1)⟩)
  (ho:R.ops[i]?=some ⟨none,.store ty p x,ty',ps,af,none⟩) (hp:Has R B w0 i p (EqV (.pointer (some ⟨g,m,none⟩)))) (hsg:Has R B w0 i (.tmp s) (EqV (H.f g))) (hx:Has R B w0 i x A'.va) (ht:Ty P ty A'.n A'.ag) (hput:Put A0 m A' A1):R.Ob P Q B w0 i:=by
 unfold Rg.Ob;simp only [hs,he];intro a w av g' cs h1 h3 h4 K hK;obtain ⟨cs',hp',hv⟩:=hx a w av;have h2:a.eval p=.pointer (some ⟨g,m,none⟩):=hp a w av;have hg:g'=g:=Rg.Hd.inj (H:=H) (H':=H) (by rw [← h1,← show a.eval (.tmp s)=H.f g from hsg a w av]);subst hg;obtain ⟨hlen,hp1⟩:=hput B cs cs' w h4 hp';have l1:=A'.len _ _ _ hp';refine bA ho G (wp_skip' (w':=w.setRow g' (dc cs m cs').toArray) ?_ (hK _ hp1));have:=bT ht w g' m T cs.toArray _ cs' (A'.cells_shape hp') l1 (by simpa using hlen) (A'.one _ _ _ hp') h3;simp only at this;simp [execOp,h2,hv,Instr.storeAt,Instr.sureAddr,this,dc,l1]
end
theorem All2.append {α β:Type}{R:α→β→Prop}{a a':List α}{b b':List β}(h:All2 R a b)(h':All2 R a' b'):All2 R (a++a') (b++b'):=by
 induction h with
 | nil=>exact h'
 | cons h1 _ ih=>exact .cons h1 ih
def FnV (P:Program)(D:List TypeId){ι:Type}(pre:ι→List VA)(post:ι→VA):VA where
 p B v w:=∃ (f:FuncId) (fs cs:List Value) (F C:List VA),v=.func (.func f) fs.toArray cs.toArray∧(∀ A∈F++C,∀ T∈A.deps,T∈D)∧All2 (λ (A:VA) v=>A.p B v w) F fs∧All2 (λ (A:VA) v=>A.p B v w) C cs∧∀ i,Cn P f (F++pre i++C) (post i)
 deps:=D
 cg:=by
  rintro B v w w' hg ⟨f,fs,cs,F,C,hv,hD,h1,h2,h3⟩;exact ⟨f,fs,cs,F,C,hv,hD,h1.mono λ A v h=>A.cg _ _ _ _ hg h,h2.mono λ A v h=>A.cg _ _ _ _ hg h,h3⟩
 wr:=by
  rintro B v w w' g c T fz e1 hT e3 e4 ⟨f,fs,cs,F,C,hv,hD,h1,h2,h3⟩;have key:∀ {L:List VA}{xs:List Value},(∀ A∈L,∀ T∈A.deps,T∈D)→All2 (λ (A:VA) v=>A.p B v w) L xs→All2 (λ (A:VA) v=>A.p B v w') L xs:=by
   intro L xs hL h
   induction h with
   | nil=>exact .nil
   | @cons A x _ _ h _ ih=>exact .cons (A.wr _ _ _ _ _ _ _ _ e1 (λ hm=>hT (hL A (by simp) T hm)) e3 e4 h) (ih λ A' hA=>hL A' (zi _ hA))
  exact ⟨f,fs,cs,F,C,hv,hD,key (λ A hA=>hD A (vF _ hA)) h1,key (λ A hA=>hD A (List.mem_append_right _ hA)) h2,h3⟩
def AnyIA:As where
 n:=1
 ag:=false
 p _ cs _:=∃ n:Int,cs=[.int .i64 n]
 deps:=[]
 len:=by rintro B cs w ⟨n,rfl⟩;rfl
 one:=by rintro B cs w ⟨n,rfl⟩ c hc;simp at hc;subst hc;rfl
 ag1:=λ _=>rfl
 cg:=λ _ _ _ _ _ h=>h
 wr:=λ _ _ _ _ _ _ _ _ _ _ _ _ h=>h
abbrev AnyI:VA:=AnyIA.va
theorem Cn.know {f : Yn}{pre : Yc}{post : VA}{c : Prop} (hex : ∃ fn, P.funcs[f]? = some fn∧(fn.name == "runtime.NumGoroutine")=false∧fn.body.isNone=false)
  (hc:∀ (B:Nat) (w:World) (args:List Value),All2 (λ (A:VA) v=>A.p B v w) pre args→c) (h:c→Cn P f pre post):Cn P f pre post :=
 ⟨hex,λ B w args hB ha=>(h (hc B w args ha)).2 B w args hB ha⟩
theorem Cn.weak {f:Yn}{pre pre':Yc}{post:VA}(h:Cn P f pre post)(hw:∀ B w args,All2 (λ (A:VA) v=>A.p B v w) pre' args→All2 (λ (A:VA) v=>A.p B v w) pre args):Cn P f pre' post :=
 ⟨h.1,λ B w args hB ha=>h.2 B w args hB (hw B w args ha)⟩
theorem dh {l:Yb}(h:(l.all λ A=>A.deps.all λ T=>D.contains T)=true):∀ A∈l,∀ T∈A.deps,T∈D:=λ A hA T hT=>by
 have:=qe.1 (qe.1 h A hA) T hT;simpa using this
theorem n_ok {l:Yb}{m:Nat}(h:(l.all λ A=>A.n==m)=true):∀ A∈l,A.n=m:=λ A hA=>by
 have:=qe.1 h A hA;simpa using this
theorem cc {α:Type}{f:α→As}{l:List α}{m:Nat}(h:∀ x,(f x).n=m):∀ A∈l.map f,A.n=m:=λ A hA=>by
 obtain ⟨x,_,rfl⟩:=qp.1 hA;exact h x
theorem bG {α:Type}{f:α→As}{l:List α}{k:Nat}(h:k<l.length):(l.map f)[k]?=some (f (l[k])):=by simp [h]
def Wk (A A':VA):Prop:=∀ B v w,A.p B v w→A'.p B v w
theorem am {fn:Func}{A A':VA}(h:Wk A A')(hb:bZ P fn (RQ B w0 A) .ret a w):bZ P fn (RQ B w0 A') .ret a w:=by
 obtain ⟨Ds,e,nd,hD,hr⟩:=hb;refine ⟨Ds,e,nd,hD,λ w' hs=>?_⟩;obtain ⟨v,h1,v',e1,e2,e3⟩:=hr w' hs;exact ⟨v,h1,v',e1,h _ _ _ e2,e3⟩
theorem aM {A:VA}:Wk A A:=λ _ _ _ h=>h
theorem iZ {l:Ya}:Wk (MgO l).va (MgA l).va:=λ _ _ _ h=>SlO.use h
theorem pb {l:Ya}:Wk (MgN l).va (MgA l).va:=λ _ _ _ h=>Jf h
theorem iY {x:RI}:Wk (RIN x).va (RIA x).va:=λ B v w h=>(lH x).va B B v w (qh _) h
theorem KZ {x:RI}:Wk (RIO x).va (RIA x).va:=λ B v w ⟨cs,⟨ps,e,h⟩,hv⟩=>by
 cases h with
 | cons h1 h2=>cases h2 with
  | @cons _ c _ cs' h3 h4 =>
   cases h4;obtain ⟨ds,hp,he⟩:=iZ (l:=x.mag) B (cE false c) w ⟨c,h3,rfl⟩;have l1:=(MgO x.mag).len _ _ _ h3;have l2:=(MgA x.mag).len _ _ _ hp
   match c,ds,l1,l2,he,hp with
   | [a],[b],_,_,he,hp =>
    have:a=b:=he;subst this;exact ⟨cs,⟨_,e,.cons h1 (.cons hp .nil)⟩,hv⟩
theorem Cn.wk {f:Yn}{pre pre':Yc}{post:VA}(h:Cn P f pre post)(hw:All2 Wk pre' pre):Cn P f pre' post:=h.weak λ B w args ha=>by
 clear h
 induction hw generalizing args with
 | nil=>cases ha;exact .nil
 | cons h1 _ ih=>cases ha with|cons h2 h3=>exact .cons (h1 _ _ _ h2) (ih _ h3)
theorem Cn.wkp {f:Yn}{pre:Yc}{post post':VA}(h:Cn P f pre post)(hw:Wk post post'):Cn P f pre post':=h.mono hw
theorem en {A:As}{c:Prop}(h:(A.and c).va.p B v w):c∧A.va.p B v w:=by
 obtain ⟨cs,hp,hv⟩:=h;exact ⟨hp.1,cs,hp.2,hv⟩
theorem FU {A:As}{c:Prop}(hc:c)(h:A.va.p B v w):(A.and c).va.p B v w:=by
 obtain ⟨cs,hp,hv⟩:=h;exact ⟨cs,⟨hc,hp⟩,hv⟩
section
variable {P:Program}{Q:Exit→Act→World→Prop}{R:Rg}{B:Nat}{w0:Bs}{i:Nat}
theorem EA {f:Yn}{ι:Type}{pre:ι→Yc}{post:ι→VA}(h:∀ i,Cn P f (pre i) (post i)):Has R B w0 i (.func f) (FnV P D pre post):=λ a w _ =>
 ⟨f,[],[],[],[],rfl,λ A hA=>(by cases hA),.nil,.nil,λ i=>by simpa using h i⟩
theorem Ip {ι:Type}{pre:ι→Yc}{post:ι→VA}{x:Yj}(j:ι){xs:Ys}{at_:Yr}(hf:Has R B w0 i x (FnV P D pre post))(hx:HasL R B w0 i xs (pre j)):Wv P Q R B w0 i (.call ⟨.value x,xs.toArray,at_⟩) (post j):=by
 intro d T ps af gd a w av K hK;obtain ⟨f,fs,cs,F,C,hv,hD,h1,h2,h3⟩:=hf a w av;obtain ⟨⟨fn,hf',hn,hb⟩,hcall⟩:=h3 j;have hrun:(execOp a.eval ⟨some d,.call ⟨.value x,xs.toArray,at_⟩,T,ps,af,gd⟩).run P w=.ok (.enter f (fs++xs.map a.eval++cs).toArray) w:=by
  simp only [execOp,resolve,hv,Deferred.ofValue,Sem.run_bind,Sem.run_pure,Result.andThen_ok,invoke,bb hf' hn hb];simp
 unfold Oper.wp;rw [hrun];exact (hcall B w _ (Av.bw av) ((h1.append (hx.all av)).append h2)).mono λ e w' ⟨v,he,hv,hg⟩=>by subst he;exact hK v w' hg hv
theorem Wv.wk {op:Op}{A A':VA}(h:Wv P Q R B w0 i op A)(hw:Wk A A'):Wv P Q R B w0 i op A':=h.mono λ v w hp=>hw B v w hp
theorem pC {t:Nat}{A:VA}{l:Yc}(hx:Has R B w0 i (.tmp t) (Tu (A::l))):Wv P Q R B w0 i (.extract (.tmp t) 0) A:=aP hx rfl
theorem pB {t:Nat}{A A':VA}{l:Yc}(hx:Has R B w0 i (.tmp t) (Tu (A'::A::l))):Wv P Q R B w0 i (.extract (.tmp t) 1) A:=aP hx rfl
theorem OT {t:Nat}{A A' A'':VA}{l:Yc}(hx:Has R B w0 i (.tmp t) (Tu (A''::A'::A::l))):Wv P Q R B w0 i (.extract (.tmp t) 2) A:=aP hx rfl
theorem be {s T:Nat}{A:As}(hl:Loc R i s T A):Has R B w0 i (.tmp s) (ElP T A):=λ a w av=>by
 obtain ⟨g,cs,h1,h2,h3,h4⟩:=hl.ok av;exact ⟨g,0,cs,h1,(Array.getElem?_eq_some_iff.1 h3).1,.inr ⟨_,_,h3⟩,h4,λ j u hu=>by rw [qV,cell_of_row w g j cs.toArray T _ h3];simpa using hu⟩
section
variable {x y:Operand}{xt yt:TypeId}(hx:Has R B w0 i x AnyI)(hy:Has R B w0 i y AnyI)
include hx hy
end
theorem Aj {S:Yh}{l:Ya}{xs:Ys}(hS:Sl P S U32 1)(hz:((P.info? U32).bind (·.zero)).isSome=true)(hl0:0<l.length)(hsmall:l.length≤16777216)(ok:okL l)
  (hx:All2 (λ (A:As) x=>Has R B w0 i x A.va) (l.map λ (x:Nat)=>NumA .u32 x) xs) {ps':Array (Nat × Operand)} (hps:ps'.toList=(xs.zipIdx 0).map λ x=>(x.2,x.1)) {n:Nat} (hn:n=l.length):Wv P Q R B w0 i (.buildSlice S n ps') (MgN l).va :=
 bj λ d T ps af gd a w av=>by
  subst hn;obtain ⟨hs1,hs2⟩:=hS;cases hi:P.info? U32 with
  | none=>rw [hi] at hs2;simp at hs2
  | some it =>
   rw [hi] at hs2 hz;have hsz:it.size=1:=by simpa using hs2
   obtain ⟨z,hzz⟩:=vc.1 hz;simp only [we] at hzz;have hvs:xs.map a.eval=l.map λ (x:Nat)=>Value.int .u32 x:=by
    clear hps hl0 hsmall ok;generalize hL:l.map (λ (x:Nat)=>NumA .u32 x)=L at hx
    induction hx generalizing l with
    | nil=>cases l with|nil=>rfl|cons _ _=>simp at hL
    | cons h _ ih =>
     cases l with
     | nil=>simp at hL
     | cons y ys =>
      simp only [qS,List.cons.injEq] at hL ⊢;obtain ⟨rfl,hL⟩:=hL;exact ⟨bg (h a w av),ih hL⟩
   have hxl:xs.length=l.length:=by have:=qt List.length hvs;simpa using this
   have hf:=Great.fill_whole (s:=1) zo (xs.map a.eval) ((Array.range (l.length*1)).map (z.cells[· % z.cells.size]!)) (λ v hv=>by rw [hvs] at hv;obtain ⟨x,_,rfl⟩:=qp.1 hv;rfl) (by simp [hxl]);have hcells:((xs.map a.eval).flatMap λ v=>v.cells.toList)=l.map λ (x:Nat)=>Value.int .u32 x:=by
    rw [hvs];clear hvs hf hxl hl0 hsmall ok hps hx
    induction l with
    | nil=>rfl
    | cons y ys ih=>rw [qS,xh,ih];rfl
   have hrun:=run_buildSlice (P:=P) w S U32 l.length (ps'.map λ x=>(x.1,a.eval x.2)) ((xs.map a.eval).flatMap λ v=>v.cells.toList).toArray it z hs1 hi hzz (by rw [hsz];omega) (by rw [hsz];omega) (by
    rw [hsz,← hf]
    congr 1
    rw [wn,hps];simp [wt,xq,Function.comp_def])
   rw [hcells] at hrun;refine ⟨.slice (some ⟨w.heap.size,0,none⟩) l.length l.length,w.alloc (.cells (l.map λ (x:Nat)=>Value.int .u32 x).toArray U32),by simp [execOp,hrun],Grow.alloc _ _,[.slice (some ⟨w.heap.size,0,none⟩) l.length l.length],⟨ok,.inr ⟨w.heap.size,[],by rw [zr],by rw [zr];unfold maxLen;omega,Av.bw av,by rw [zr];exact heap_alloc_new w _⟩⟩,rfl⟩
theorem Ey {t b n c:Nat}{l ext:Ya}(j:Nat)(hj:R.sp[j]?=some (.adr t b .none True))(hji:(R.anc i).contains j=true)(hl:LocH R i b U32 (slH n c) (Nums .u32 (l++ext)))(h:n=l.length∧n≤c∧c≤maxLen∧okL l)(hcap:c=(l++ext).length:=by first|rfl | (simp [ar];done) | omega):Has R B w0 i (.tmp t) (MgN l).va:=λ a w av=>by
 obtain ⟨g,cs,h1,hgm,h3,h4⟩:=hl.ok av;have h2:=av.d j t b .none True hji hj trivial;have h4':cs=(l++ext).map λ (x:Nat)=>Value.int .u32 x:=h4;obtain ⟨rfl,hc,hm,ok⟩:=h;exact ⟨[.slice (some ⟨g,0,none⟩) l.length c],⟨ok,.inr ⟨g,ext,by rw [hcap],by rw [← hcap];exact hm,av.lo g hgm,by rw [← h4'];exact h3⟩⟩,h2.trans h1⟩
end
theorem nc {l:Ya}{k:Nat}(hk:k<l.length)(h:l[k]=0):bt (l.take (k+1))=bt (l.take k):=by
 rw [qA hk,h,lR]
theorem nb {l:Ya}{k:Nat}(hk:k<l.length)(h:l[k]≠0):bt (l.take (k+1))=l.take (k+1):=by
 rw [qA hk,mR _ h]
theorem Da (A:Option Addr)(c:Nat)(w:Yi):Calls Tryz.prog 223 #[.slice A 0 c] w λ e w'=>e=.returned (.slice A 0 c)∧w=w':=by
 go_enter Tryz.func223,Tryz.ntmps223
 go_wp2
 go_loop [0] (λ v=>v=.slice A 0 c) (λ _=>0)
 case atStart=>rfl
 case round =>
  subst hrel
  go_wp2
  go_ret
  exact ⟨rfl,rfl⟩
def lenOf:Value→Nat | .slice _ k _=>k|_=>0
theorem yy (b o c:Nat)(l:Ya)(w:Yi)(hc:∀ j (h:j<l.length),w.cell? ⟨b,o+j,none⟩=some (.int .u32 (l[j]:Nat)))(hm:l.length≤9223372036854775807)(hnc:l.length≤c) :
  Calls Tryz.prog 223 #[.slice (some ⟨b,o,none⟩) l.length c] w λ e w'=>e=.returned (.slice (some ⟨b,o,none⟩) (bt l).length c)∧w=w':=by
 obtain ⟨n,hn⟩:∃ n,n=l.length:=⟨_,rfl⟩;rw [← hn] at hm hnc ⊢;have HN:Hid (n=l.length):=hn;clear hn
 go_enter Tryz.func223,Tryz.ntmps223
 go_wp2
 go_loop [0] (λ v=>∃ k:Nat,k≤n∧v=.slice (some ⟨b,o,none⟩) k c∧bt (l.take k)=bt l) (λ v=>lenOf v)
 case atStart=>exact ⟨n,qh _,rfl,by rw [qD (xK HN.out.symm)]⟩
 case round =>
  obtain ⟨k,hk,rfl,ht⟩:=hrel;have HT:Hid (bt (l.take k)=bt l):=ht;clear ht;cases k with
  | zero =>
   go_wp2
   go_ret
   exact ⟨by rw [← HT.out];simp [bt],rfl⟩
  | succ k =>
   have hkl:k<l.length:=by rw [← HN.out];omega
   obtain ⟨x,hx⟩:∃ x,x=l[k]:=⟨_,rfl⟩;have hcell:=hc k hkl;rw [← hx] at hcell;clear hc;have HX:Hid (x=l[k]):=hx;clear hx;by_cases hz:x=0
   ·subst hz
    go_wp2
    go_round
    case rel=>exact ⟨k,by omega,rfl,by rw [← HT.out,nc hkl HX.out.symm]⟩
    case measure=>simp [lenOf]
   ·have hz':((x:Int)==0)=false:=by simp;omega
    go_wp2
    go_ret
    refine ⟨?_,rfl⟩;rw [← HT.out,nb hkl (by rw [← HX.out];exact hz),qX,xc zo]
    rfl
theorem iw {f : Yn}{fn : Func} (hf : Tryz.prog.funcs[f]? = some fn) (hn : (fn.name == "runtime.NumGoroutine")=false) (hb : fn.body.isNone=false) : ∃ fn, Tryz.prog.funcs[f]? = some fn∧(fn.name == "runtime.NumGoroutine")=false∧fn.body.isNone=false := ⟨fn, hf, hn, hb⟩
theorem tb {M:Ya→As}(hM:Fam M)(l:Ya):Cn Tryz.prog 223 [(M l).va] (M (bt l)).va:=by
 refine ⟨iw Tryz.func223 zk zk,λ B w args hB ha=>?_⟩;obtain ⟨v,rfl,hv⟩:=ha.one;obtain ⟨A,c,rfl,hm,htk⟩:=hM.op _ _ _ _ hv;have hsh:∀ A',A'=A→(M (bt l)).va.p B (.slice A' (bt l).length c) w:=by
  rintro _ rfl;have:=htk (bt l).length;rwa [← iI] at this
 by_cases h0:l.length=0
 ·have hl:l=[]:=z9 h0;subst hl;refine (Da A c w).mono λ e w' ⟨he,hw⟩=>?_;subst hw;exact ⟨_,he,hsh A rfl,Grow.refl w⟩
 ·obtain ⟨b,o,rfl,h1,h2,h3⟩:=hm.at_ zo;refine (yy b o c l w h3 (by have:=hm.le;have:=hm.max;unfold maxLen at this;omega) hm.le).mono λ e w' ⟨he,hw⟩=>?_;subst hw;exact ⟨_,he,hsh _ rfl,Grow.refl w⟩
theorem tu2 {a b c d:VA}(h:a=c)(h':b=d):Tu [a,b]=Tu [c,d]:=by rw [h,h']
theorem nu {k:Yp}{m n:Int}(h:m=n):(NumA k m).va=(NumA k n).va:=by rw [h]
theorem uK {x y c:Nat}(hx:x<4294967296)(hy:y<4294967296)(hc:c<4294967296):IntKind.u64.wrap (IntKind.u64.wrap (IntKind.u64.wrap (x:Int)+IntKind.u64.wrap (y:Int))+IntKind.u64.wrap (c:Int))=((x+y+c:Nat):Int):=by
 rw [wu64 zo,wu64 zo,dE zo,wu64 zo,dE zo]
theorem Cu {h l d:Nat}(hh:h<d)(hl:l<4294967296)(hd:d<4294967296):bits .or .u64 (IntKind.u64.wrap (IntKind.u64.wrap (h:Int)*2^((32:Int).toNat))) (IntKind.u64.wrap (l:Int))=((h*4294967296+l:Nat):Int):=by
 rw [wu64 (x:=h) zo,wu64 (x:=l) zo,sW zo,or64 zo hl]
theorem sz {h l d:Nat}(hh:h<d)(hl:l<4294967296):(h*4294967296+l)/d<4294967296:=by
 apply z4;have:(h+1)*4294967296≤d*4294967296:=qI _ hh;omega
theorem mN {x y c:Nat}(hx:x<4294967296)(hy:y<4294967296)(hc:c<4294967296):Cn Tryz.prog 224 [(NumA .u32 (x:Nat)).va,(NumA .u32 (y:Nat)).va,(NumA .u32 (c:Nat)).va] (Tu [(NumA .u32 ((x+y+c)%4294967296:Nat)).va,(NumA .u32 ((x+y+c)/4294967296:Nat)).va]):=by
 refine Cn.intro Tryz.func224 G zk nq (zy [(0,(NumA .u32 (x:Nat)).va),(1,(NumA .u32 (y:Nat)).va),(2,(NumA .u32 (c:Nat)).va)] λ B w0 a U=>?_);refine qb<|zh (W6 6) (W7 [.o 0,.o 1]) U (zv G (bc ab) (zE G ab)) (zz (W8 0 1 2 6 7) [] ?_);refine ztA<|zhA (W9 9 [.v 8 _]) [.g 3,.g 4,.o 8] (zM 0 G (zv G (aI .u64 zk zk (vq 0 G) (G)) (zM 1 G (zv G (aI .u64 zk zk (vq 2 G) (G)) (zv G (aL (vq 1 G) (vq 3 G) (G)) (zM 2 G (zv G (aI .u64 zk zk (vq 5 G) (G)) (zv G (aL (vq 4 G) (vq 6 G) (G)) (zA 7 G o0))))))))) (zz (Wa 6 7 8) [] ?_);refine ztA<|zhA (W6 17 [.v 6 _]) WO (zM 2 G (zv G (aI .u32 zk zk (vq 0 G) (G)) (zA 1 G o0))) (zz (Wa 7 8 6) [] ?_);refine ztA<|zhA (Wb 19 [.v 7 _]) [.g 2,.o 3] (zM 1 G (zv G (lk (vq 0 G) ab zd (G)) (zv G (aI .u32 zk zk (vq 1 G) (G)) (zA 2 G o0)))) (zz (Wc 6 7) [] λ a w U=>?_);refine aa<|qi<|aG ?_ (aX (rs:=[.tmp 6,.tmp 7]) G U (.tmp (zm 0 G) (.tmp (zm 1 G) .nil)) zd);exact tu2 (nu (by rw [uK hx hy hc,wu32'])) (nu (by rw [uK hx hy hc];exact (qt _ nshr).trans (wu32 (by show (x+y+c)/4294967296<_;omega))))
theorem yF {x y c:Nat}(hx:x<4294967296)(hy:y<4294967296)(hc:c<2):Cn Tryz.prog 225 [(NumA .u32 (x:Nat)).va,(NumA .u32 (y:Nat)).va,(NumA .u32 (c:Nat)).va] (Tu [(NumA .u32 ((x+8589934592-y-c)%4294967296:Nat)).va,(NumA .u32 (if x<y+c then 1 else 0:Nat)).va]):=by
 refine Cn.intro Tryz.func225 G zk nq (zy [(0,(NumA .u32 (x:Nat)).va),(1,(NumA .u32 (y:Nat)).va),(2,(NumA .u32 (c:Nat)).va)] λ B w0 a U=>?_);refine qb<|zh (W6 6) (W7 [.o 0,.o 1]) U (zv G (bc ab) (zE G ab)) (zz (W8 0 1 2 6 7) [] ?_);refine ztA<|zhA (Wd 8 [.v 6 _]) (We [.g 4,.o 5]) (zM 0 G (zM 1 G (zv G (ce (vq 0 G) (vq 1 G) (G)) (zM 2 G (zv G (ce (vq 2 G) (vq 3 G) (G)) (zA 4 G o0)))))) (zz (Wf 0 1 7 6) [] ?_);refine ztA<|zhA (Wg 13 [.v 7 _]) [.g 3,.o 12] (zM 0 G (zv G (Gh (vq 0 G) (G)) (zM 1 G (zv G (Gi (vq 1 G) (vq 2 G) (G)) (zM 0 G (zM 1 G (zv G (LW (vq 4 G) (vq 5 G) (G)) (zv G (Gh (vq 6 G) (G)) (zM 3 G (zv G (Gi (vq 7 G) (vq 8 G) (G)) (zv G (uV (vq 3 G) (vq 9 G) (G)) (zv G (lk (vq 10 G) ab zd (G)) (zA 11 G o0))))))))))))) (zz (Wc 6 7) [] λ a w U=>?_);refine aa<|qi<|aG ?_ (aX (rs:=[.tmp 6,.tmp 7]) G U (.tmp (zm 0 G) (.tmp (zm 1 G) .nil)) zd);exact tu2 (nu (yE hx hy hc)) (nu (Dj hx hy hc))
theorem Kn {h l d:Nat}(hh:h<d)(hl:l<4294967296)(hd:d<4294967296):Cn Tryz.prog 249 [(NumA .u32 (h:Nat)).va,(NumA .u32 (l:Nat)).va,(NumA .u32 (d:Nat)).va] (Tu [(NumA .u32 ((h*4294967296+l)/d:Nat)).va,(NumA .u32 ((h*4294967296+l)%d:Nat)).va]):=by
 refine Cn.intro Tryz.func249 G zk nq (zy [(0,(NumA .u32 (h:Nat)).va),(1,(NumA .u32 (l:Nat)).va),(2,(NumA .u32 (d:Nat)).va)] λ B w0 a U=>?_);refine qb<|zh (W6 6) (W7 [.o 0,.o 1]) U (zv G (bc ab) (zE G ab)) (zz (W8 0 1 2 6 7) [] ?_);refine ztA<|zsA<|zhA (Wb 9 [.t 12 _,.t 13 _,.t 14 _,.v 15 _]) (Wi [.o 6]) (zM 2 G (zv G (c9 (vq 0 G) ab) (zV 1 G (zB 2 G (λ hg=>aA (gq 2 G)) (zB 2 G (λ hg=>aA (gq 0 G)) (zB 2 G (λ hg=>ll (ae (vq 3 G) hg) (ae (vq 4 G) hg)) (zv G (bE (vq 2 G) (vq 5 G)) o0))))))) (zz (Wj 0 1 2 6 7 15) [] λ a w U=>?_);refine zJ 5 U G (λ hb0=>?_) (λ hb0=>?_)
 ·exact absurd hb0 (by simp;omega)
 ·refine qj<|zt<|zh (Wl 17 [.v 8 _]) [.g 2,.g 3,.g 4,.o 6] U (zM 0 G (zv G (aI .u64 zk zk (vq 0 G) (G)) (zv G (uT (vq 1 G) ab zd (G)) (zM 1 G (zv G (aI .u64 zk zk (vq 3 G) (G)) (zv G (uV (vq 2 G) (vq 4 G) (G)) (zA 5 G o0))))))) (zz (Wf 2 6 7 8) [] λ a w U=>?_);refine zt<|zgd [[],[],[1],[0,1,2],(Wm 4),[],[],[6],[5,6,7],[5,6,7,8],(Wm 5),(Wm 11)] [] [] (Wn 23 (W6 6)) [.o 10,.o 11] ac U (zM 3 G (zM 0 G (zv G (aI .u64 zk zk (vq 1 G) (G)) (zv G (mS (vq 0 G) (vq 2 G) (by rw [wu64 zo];omega) (G)) (zv G (aI .u32 zk zk (vq 3 G) (G)) (zM 3 G (zM 0 G (zv G (aI .u64 zk zk (vq 6 G) (G)) (zv G (py (vq 5 G) (vq 7 G) (by rw [wu64 zo];omega) (G)) (zv G (aI .u32 zk zk (vq 8 G) (G)) (zA 4 G (zA 9 G o0)))))))))))) zk zk zk zk (zz (Wc 6 7) [] λ a w U=>?_);refine aa<|qi<|aG ?_ (aX (rs:=[.tmp 6,.tmp 7]) G U (.tmp (zm 0 G) (.tmp (zm 1 G) .nil)) zd);exact tu2 (nu (by rw [Cu hh hl hd,wu64 (x:=d) zo];exact (qt _ (nquo (by have:=sz hh hl;omega))).trans (wu32 (sz hh hl)))) (nu (by rw [Cu hh hl hd,wu64 (x:=d) zo];exact (qt _ nrem).trans (wu32 (by have:=qU (h*4294967296+l) (show 0<d by omega);omega))))
theorem I6 {l m:Ya}(ha:l.length≤9223372036854775807)(hb:m.length≤9223372036854775807)(h:((l.length:Int) != (m.length:Int))=true):IntKind.i64.wrap ((l.length:Int)-(m.length:Int))=cF l m:=by
 have h':l.length≠m.length:=by simp at h;omega
 unfold cF;rw [qC h',wi64 zo zo]
theorem I5 {l m:Ya}{j:Nat}(ha:okL l)(hl:l.length=m.length)(hj:j<l.length)(hd:l.drop (j+1)=m.drop (j+1))(h:decide (((l[j]:Nat):Int)<((m[j]'zo:Nat):Int))=true):(-1:Int)=cF l m:=by
 have:=tc (a:=l) (b:=m) ha hj zo hd (by simpa using h);unfold cF;rw [qy zo,qC this]
theorem I4 {l m:Ya}{j:Nat}(hb:okL m)(hl:l.length=m.length)(hj:j<l.length)(hd:l.drop (j+1)=m.drop (j+1))(hne:(((l[j]:Nat):Int) != ((m[j]'zo:Nat):Int))=true)(h:decide (((l[j]:Nat):Int)<((m[j]'zo:Nat):Int))=false):(1:Int)=cF l m:=by
 have:=tc (a:=m) (b:=l) hb zo hj hd.symm (by simp at h hne;omega);unfold cF;rw [qy zo,qy zo,qC this]
theorem I3 {l m:Ya}(hd:l.drop 0=m.drop 0):(0:Int)=cF l m:=by
 have:l=m:=by simpa using hd
 subst this;simp [cF]
theorem tf (l m:Ya):Cn Tryz.prog 189 [(MgA l).va,(MgA m).va] (In (cF l m)):=by
 refine Cn.intro Tryz.func189 G zk nq (zy [(0,(MgA l).va),(1,(MgA m).va)] λ B w0 a U=>?_);obtain ⟨ha,hla⟩:=U.mag 0 rfl;obtain ⟨hb,hlb⟩:=U.mag 1 rfl;refine qb<|zh WP WQ U (zE G ab) (zz WR [] ?_);refine ztA<|zsA<|zhA (Wd 6) WS (zM 0 G (zv G (aH qc (vq 0 G)) (zM 1 G (zv G (aH qc (vq 2 G)) (zv G (c9 (vq 1 G) (vq 3 G)) o0))))) (zz (Wf 0 1 4 10) [] λ a w U=>?_);refine zJ 3 U G (λ hb0=>?_) (λ hb0=>?_)
 ·refine qb<|zh (Wd 11 [.v 4 _]) (We [.o 5]) U (zM 0 G (zv G (aH qc (vq 0 G)) (zM 1 G (zv G (aH qc (vq 2 G)) (zv G (ce (vq 1 G) (vq 3 G) (G)) (zA 4 G o0)))))) (zz WR [] λ a w U=>?_);refine aa<|qi<|aj ?_;refine aG ?_ (ak G U (zm 2 G));exact nu (I6 hla hlb hb0)
 ·have hl:l.length=m.length:=by simp at hb0;omega
  refine qj<|zt<|qb<|zh (Wb 16 [.v 5 _]) WT U (zM 0 G (zv G (aH qc (vq 0 G)) (zv G (ce (vq 1 G) ab (wi64 zo zo)) (zA 2 G o0)))) (zz WU [] λ a w U=>?_);refine aa<|qk ?_;have U:=St.sel U [0,1,3];refine wp_loop_ghost (λ n a w=>n≤l.length∧l.drop n=m.drop n∧St B w0 41 [(0,(MgA l).va),(1,(MgA m).va),(5,In ((n:Int)-1))] [] a w) (l.length) ?_ ?_
  ·exact ⟨qh _,by rw [xz,hl,xz],U⟩
  intro n a w hI;obtain ⟨hi,hd,U⟩:=hI;refine qb<|qb<|zh (W6 19) WV U (zM 2 G (zv G (dD (vq 0 G) ab) o0)) (zz (Wf 0 1 5 20) [] λ a w U=>?_);refine zJ 3 U G (λ hb1=>?_) (λ hb1=>?_)
  ·obtain ⟨j,rfl⟩:∃ j,n=j+1:=⟨n-1,by simp at hb1;omega⟩;rw [show ((j+1:Nat):Int)-1=(j:Int) from by omega] at U;refine qj<|zt<|qk<|qb<|zgd WW [] [] (Wo 23) (W7 [.o 8]) ac U (zM 0 G (zM 2 G (zv G (bL aZ (vq 0 G) (vq 1 G) zo) (zv G (ap (vq 2 G) aN) (zM 1 G (zM 2 G (zv G (bL aZ (vq 4 G) (vq 5 G) zo) (zv G (ap (vq 6 G) aN) (zv G (c9 (vq 3 G) (vq 7 G)) o0))))))))) zk zk zk zk (zz (Wf 0 1 5 31) [] λ a w U=>?_);refine zJ 3 U G (λ hb2=>?_) (λ hb2=>?_)
   ·refine qb<|qb<|zgd WW [] [] (Wo 32) (W7 [.o 8]) ac U (zM 0 G (zM 2 G (zv G (bL aZ (vq 0 G) (vq 1 G) zo) (zv G (ap (vq 2 G) aN) (zM 1 G (zM 2 G (zv G (bL aZ (vq 4 G) (vq 5 G) zo) (zv G (ap (vq 6 G) aN) (zv G (aO (vq 3 G) (vq 7 G)) o0))))))))) zk zk zk zk (zz (Wf 0 1 5 40) [] λ a w U=>?_);refine zJ 3 U G (λ hb3=>?_) (λ hb3=>?_)
    ·refine qb<|zh WP WX U (zE G ab) (zz (Wf 0 1 5 4) [] λ a w U=>?_);refine aa<|qi<|aj ?_;refine aD ?_;refine aj ?_;refine aj ?_;refine aD ?_;refine aj ?_;refine aG ?_ (ak G U (zm 3 G));exact nu (I5 ha hl zo hd hb3)
    ·refine qj<|zt<|zh WP WX U (zE G ab) (zz (Wf 0 1 5 4) [] λ a w U=>?_);refine aa<|qi<|aD ?_;refine aj ?_;refine aj ?_;refine aD ?_;refine aj ?_;refine aG ?_ (ak G U (zm 3 G));exact nu (I4 hb hl zo hd hb2 hb3)
   ·refine qj<|al ?_;refine aa<|zh (W6 21 [.v 5 _]) WY U (zM 2 G (zv G (ce (vq 0 G) ab (wi64 zo zo)) (zA 1 G o0))) (zz (Wa 0 1 5) [] λ a w U=>?_);refine aa ?_;have U:=St.sel U [0,1,2];exact ⟨j,by omega,by omega,li zo zo hd (by simp at hb2;omega),U⟩
  ·obtain rfl:n=0:=by simp at hb1;omega
   refine qP<|ai<|ai<|az<|zt<|zh WP WZ U (zE G ab) (zz U0 [] λ a w U=>?_);refine zN 0 U G G ?_;exact nu (I3 hd)
def mM (l m:List Nat)(i:Nat):List Nat:=digs i (bD l m i)++List.replicate (l.length+1-i) 0
theorem cG {l m:Ya}{i:Nat}(h:i≤l.length):(mM l m i).length=l.length+1:=by simp [mM,ar];omega
theorem nG (l m:Ya):mM l m 0=List.replicate (l.length+1) 0:=by simp [mM,digs]
theorem eH {α:Type}(p q:List α)(x:α)(k:Nat)(h:p.length=k):(p++q).set k x=p++q.set 0 x:=by subst h;rw [xY _ _ (qh _),jb]
theorem m8 (n:Nat)(x:Nat)(h:0<n):(List.replicate n 0).set 0 x=x::List.replicate (n-1) 0:=by
 cases n with
 | zero=>omega
 | succ n=>simp [kn]
theorem ga {l m:Ya}{i:Nat}(h:i<l.length){y:Nat}(hy:m.getD i 0=y):(mM l m i).set i ((l[i]+y+bD l m i/4294967296^i)%4294967296)=mM l m (i+1):=by
 unfold mM;rw [eH _ _ _ _ (ar _ _),m8 _ _ zo,fL h,dU,hy];simp only [qY,xX];rw [xg (l[i]+y)]
 congr 3
theorem iB {l m:Ya}{i:Nat}(h:i<l.length){y:Nat}(hy:m.getD i 0=y):(l[i]+y+bD l m i/4294967296^i)/4294967296=bD l m (i+1)/4294967296^(i+1):=by
 rw [fL h,carry_step',hy,xg (l[i]+y)]
theorem iC {l m:Ya}(hl:okL l)(hm:okL m)(h:m.length≤l.length):(mM l m l.length).set l.length (bD l m l.length/4294967296^l.length)=digs (l.length+1) (val l+val m):=by
 unfold mM;rw [eH _ _ _ _ (ar _ _),m8 _ _ zo,iu,po h];have:=eV hl hm l.length;rw [po h] at this;rw [zD zo];simp
theorem cK {l:Ya}{i:Nat}(h:i<l.length):l.getD i 0=l[i]:=by simp [List.getD,h]
theorem dS {l:Ya}{i:Nat}(h:l.length≤i):l.getD i 0=0:=by simp [List.getD,h]
theorem O9 (l m:Ya)(hls:l.length≤1099511627776)(hms:m.length≤1099511627776):Cn Tryz.prog 188 [(MgA l).va,(MgA m).va] ((MgN (digs (max l.length m.length+1) (val l+val m))).va):=by
 refine Cn.introW Tryz.func188 G zk nq (.cons (lP _).va (.cons (lP _).va .nil)) (ee _).va (λ B w0 a hB0 U=>?_);have U:=zn [(0,(MgO l).va),(1,(MgO m).va)] [] U;have hl:=(U.magO 0 rfl).1;have hm:=(U.magO 1 rfl).1;refine qb<|zh WP WQ U (zE G b9) (zz WR [] ?_);refine ztA<|zsA<|zhA (Wd 9) WS (zM 0 G (zv G (aH qc (aB (vq 0 G))) (zM 1 G (zv G (aH qc (aB (vq 2 G))) (zv G (aO (vq 1 G) (vq 3 G)) o0))))) (zz (Wf 0 1 4 13) [] λ a w U=>?_);refine zJ 3 U G (λ hb0=>?_) (λ hb0=>?_)
 ·have hlt:l.length<m.length:=by simp at hb0;omega
  refine zh (W6 14 (W6 0)) [.g 2,.o 2,.o 3] U (zM 1 G (zM 0 G (zA 0 G (zA 1 G o0)))) (zz (Wa 4 0 1) [] λ a w U=>?_);refine zt<|di (sts:=[]) (news:=[⟨19,139,slH _ _,some 3,_,none⟩]) (sp:=[.v 16 _,.v 17 _,.v 18 _,.alc 0,.adr 5 19 .none True]) [.g 0,.g 1,.g 2] [(5,19)] [zpH 5 139 _] U (zM 1 G (zv G (aH qc (aB (vq 0 G))) (zv G (aL (vq 1 G) ab (aU zo)) (oc (et G G G fp (vq 2 G) (vq 2 G) zo) (oc (ob_a G G mO) o0))))) zk zk zk ⟨⟨4,rfl⟩,trivial⟩ G zk (zz (Wa 4 0 1) [zpH 5 139 _] ?_);refine ztA<|zgA U1 [] U2 WX (zv G (bc (aE 0 G)) o0) (zz (Wf 4 0 1 6) [zpH 5 139 _] ?_);refine ztA<|zsA<|zgA U1 [] (Wb 20) (Wp [.o 1,.o 2]) (zM 1 G (zv G (aH qc (aB (vq 0 G))) (zv G (aA ab) o0))) (zz (Wj 4 0 1 6 21 22) [zpH 5 139 _] λ a w U=>?_);refine aa<|qk ?_;have U:=St.sel U [1,2,3,4,5];refine wp_loop_ghost (λ n a w=>∃ i:Nat,n+i=m.length∧St B w0 53 [(0,(MgO m).va),(1,(MgO l).va),(6,(NumA .u32 (bD m l i/4294967296^i:Nat)).va),(21,In (m.length:Nat)),(22,In (i:Nat))] [⟨5,139,slH (m.length+1) (m.length+1),Nums .u32 (mM m l i)⟩] a w) (m.length) ?_ ?_
  ·exact ⟨0,by omega,by rw [nG,show bD m l 0/4294967296^0=0 from by simp [fK]];exact U⟩
  intro n a w hI;obtain ⟨i,hn,U⟩:=hI;refine qb<|zg U3 [] [.v 23 _] U4 U (zv G (aO (gq 4 G) (gq 3 G)) o0) (zz (Wj 0 1 6 21 22 23) [zpH 5 139 _] λ a w U=>?_);refine zt<|c7 U (zm 5 G) (λ hb1=>?_) (λ hb1=>?_)
  ·have hi:i<m.length:=by simp at hb1;omega
   refine qj<|zt<|qk<|qb<|zg U3 [] [.v 24 _,.v 7 _] (Wi [.o 1]) U (zM 4 G (zA 0 G o0)) (zz (Wj 0 1 6 21 22 7) [zpH 5 139 _] ?_);refine ztA<|zgA U1 [] [.v 8 _] (Wq [.o 0]) (zv G (bc (aE 0 G)) o0) (zz (Wu 0 1 6 21 22 7 8) [zpH 5 139 _] ?_);refine ztA<|zsA<|zgA U1 [] (Ww 25) (Wx [.o 3]) (zM 5 G (zM 1 G (zv G (aH qc (aB (vq 1 G))) (zv G (aO (vq 0 G) (vq 2 G)) o0)))) (zz (Wy 0 1 6 21 22 7 8 28) [zpH 5 139 _] λ a w U=>?_);refine zJ 7 U G (λ hb2=>?_) (λ hb2=>?_)
   ·refine zg U3 [] (Ww 29 [.v 8 _]) (Wq [.o 4]) U (zM 1 rfl (zM 5 rfl (zv rfl (bL aZ (aB (vq 0 rfl)) (vq 1 rfl) (by first|omega | (simp at hb2;omega) | (simp at hb4;omega))) (zv rfl (ap (vq 2 rfl) aN) (zA 3 rfl o0))))) (zz (Wu 0 1 6 21 22 7 8) [zpH 5 139 _] ?_)
    refine znA<|zgA U5 [] (.adr 34 5 .none True::(W9 35 (.v 33 _::(W6 43 [.adr 45 5 (.some _) True,.sto 0,.v 6 _])))) U6 (oc (ob_a rfl rfl cy) (zM 5 rfl (zM 0 rfl (zM 5 rfl (zv rfl (bL aZ (aB (vq 2 rfl)) (vq 3 rfl) (by first|omega | (simp at hb2;omega) | (simp at hb4;omega))) (zv rfl (ap (vq 4 rfl) aN) (zM 6 rfl (zM 2 rfl (zQ rfl (mN (hm _ (qg _)) (hl _ (qg _)) (za (eV hm hl _) zd)) (.cons (vq 5 rfl) (.p (vq 6 rfl) (vq 7 rfl))) (zV 8 rfl (zv rfl (aP (vq 9 rfl) rfl) (zv rfl (aP (vq 9 rfl) rfl) (oc (ob_a rfl rfl (dM 0 rfl zk (lz0 0 rfl) aZ (vq 1 rfl) zo)) (oc (co 12 rfl rfl rfl rfl zk (λ _=>bX _ _ _ _) (vq 10 rfl) aN (bx (by rw [cG zo];omega))) (zA 11 rfl o0))))))))))))))) (zz (W8 0 1 21 22 6) [zpH 5 139 _] λ a w U=>?_)
    refine al ?_;refine aa<|zg U3 [] [.v 46 _,.v 22 _] U7 U (zv G (aL (gq 3 G) ab (aU zo)) (zV 0 G o0)) (zz (W8 0 1 21 6 22) [zpH 5 139 _] λ a w U=>?_);refine aa ?_;have U:=St.sel U [0,1,3,2,4];rw [ga hi (y:=_) (cK (by simp at hb2;omega)),iB hi (cK (by simp at hb2;omega))] at U;exact ⟨n-1,by omega,i+1,by omega,U⟩
   ·refine qj<|aa<|zg U5 [] (.adr 34 5 .none True::(W9 35 (.v 33 _::(W6 43 [.adr 45 5 (.some _) True,.sto 0,.v 6 _])))) U6 U (oc (ob_a rfl rfl cy) (zM 5 rfl (zM 0 rfl (zM 5 rfl (zv rfl (bL aZ (aB (vq 2 rfl)) (vq 3 rfl) (by first|omega | (simp at hb2;omega) | (simp at hb4;omega))) (zv rfl (ap (vq 4 rfl) aN) (zM 6 rfl (zM 2 rfl (zQ rfl (mN (hm _ (qg _)) (y:=0) zd (za (eV hm hl _) zd)) (.cons (vq 5 rfl) (.p (vq 6 rfl) (vq 7 rfl))) (zV 8 rfl (zv rfl (aP (vq 9 rfl) rfl) (zv rfl (aP (vq 9 rfl) rfl) (oc (ob_a rfl rfl (dM 0 rfl zk (lz0 0 rfl) aZ (vq 1 rfl) zo)) (oc (co 12 rfl rfl rfl rfl zk (λ _=>bX _ _ _ _) (vq 10 rfl) aN (bx (by rw [cG zo];omega))) (zA 11 rfl o0))))))))))))))) (zz (W8 0 1 21 22 6) [zpH 5 139 _] λ a w U=>?_)
    refine al ?_;refine aa<|zg U3 [] [.v 46 _,.v 22 _] U7 U (zv G (aL (gq 3 G) ab (aU zo)) (zV 0 G o0)) (zz (W8 0 1 21 6 22) [zpH 5 139 _] λ a w U=>?_);refine aa ?_;have U:=St.sel U [0,1,3,2,4];rw [ga hi (y:=_) (dS (by simp at hb2;omega)),iB hi (dS (by simp at hb2;omega))] at U;exact ⟨n-1,by omega,i+1,by omega,U⟩
  ·obtain rfl:i=m.length:=by simp at hb1;omega
   refine qP<|ai<|ai<|az<|zt<|zg U8 [] (.adr 47 5 .none True::(Wb 48 [.adr 51 5 (.some _) True,.sto 0])) [] U (oc (ob_a G G cy) (zM 0 G (zv G (aH qc (aB (vq 1 G))) (zM 2 G (oc (ob_a G G (dM 0 G zk (lz0 0 G) aZ (vq 2 G) zo)) (oc (co 4 G G G G zk (λ _=>bX _ _ _ _) (vq 3 G) aN (bx (by rw [cG zo];omega))) o0)))))) (zz [] [zpH 5 139 _] λ a w U=>?_);refine zt<|di (sts:=[none]) (news:=[]) (sp:=[.adr 52 5 .none True,.adr 4 5 .none True]) [] [(4,5)] [zpH 4 139 _] U (oc (ob_a G G cy) (oc (ob_a G G (CX 0 G zk)) o0)) zk zk zk ⟨⟨1,rfl⟩,trivial⟩ G zk (zz [] [zpH 4 139 _] λ a w U=>?_);refine aa<|qi<|aG ?_ (A7 G U (zm 0 G) ⟨by simp [cG],qh _,by unfold maxLen;omega,by rw [iC hm hl zo];exact bV _ _⟩ (by simp [cG]));rw [iC hm hl zo,Nat.max_eq_right zo,xg (val m)]
 ·have hlt:m.length≤l.length:=by simp at hb0;omega
  refine qj<|zt<|di (sts:=[]) (news:=[⟨19,139,slH _ _,some 3,_,none⟩]) (sp:=[.v 16 _,.v 17 _,.v 18 _,.alc 0,.adr 5 19 .none True]) [.g 0,.g 1,.g 2] [(5,19)] [zpH 5 139 _] U (zM 0 G (zv G (aH qc (aB (vq 0 G))) (zv G (aL (vq 1 G) ab (aU zo)) (oc (et G G G fp (vq 2 G) (vq 2 G) zo) (oc (ob_a G G mO) o0))))) zk zk zk ⟨⟨4,rfl⟩,trivial⟩ G zk (zz WR [zpH 5 139 _] ?_);refine ztA<|zgA U1 [] U2 WX (zv G (bc (aE 0 G)) o0) (zz (Wf 0 1 4 6) [zpH 5 139 _] ?_);refine ztA<|zsA<|zgA U1 [] (Wb 20) (Wp [.o 1,.o 2]) (zM 0 G (zv G (aH qc (aB (vq 0 G))) (zv G (aA ab) o0))) (zz (Wj 0 1 4 6 21 22) [zpH 5 139 _] λ a w U=>?_);refine aa<|qk ?_;have U:=St.sel U [0,1,3,4,5];refine wp_loop_ghost (λ n a w=>∃ i:Nat,n+i=l.length∧St B w0 53 [(0,(MgO l).va),(1,(MgO m).va),(6,(NumA .u32 (bD l m i/4294967296^i:Nat)).va),(21,In (l.length:Nat)),(22,In (i:Nat))] [⟨5,139,slH (l.length+1) (l.length+1),Nums .u32 (mM l m i)⟩] a w) (l.length) ?_ ?_
  ·exact ⟨0,by omega,by rw [nG,show bD l m 0/4294967296^0=0 from by simp [fK]];exact U⟩
  intro n a w hI;obtain ⟨i,hn,U⟩:=hI;refine qb<|zg U3 [] [.v 23 _] U4 U (zv G (aO (gq 4 G) (gq 3 G)) o0) (zz (Wj 0 1 6 21 22 23) [zpH 5 139 _] λ a w U=>?_);refine zt<|c7 U (zm 5 G) (λ hb3=>?_) (λ hb3=>?_)
  ·have hi:i<l.length:=by simp at hb3;omega
   refine qj<|zt<|qk<|qb<|zg U3 [] [.v 24 _,.v 7 _] (Wi [.o 1]) U (zM 4 G (zA 0 G o0)) (zz (Wj 0 1 6 21 22 7) [zpH 5 139 _] ?_);refine ztA<|zgA U1 [] [.v 8 _] (Wq [.o 0]) (zv G (bc (aE 0 G)) o0) (zz (Wu 0 1 6 21 22 7 8) [zpH 5 139 _] ?_);refine ztA<|zsA<|zgA U1 [] (Ww 25) (Wx [.o 3]) (zM 5 G (zM 1 G (zv G (aH qc (aB (vq 1 G))) (zv G (aO (vq 0 G) (vq 2 G)) o0)))) (zz (Wy 0 1 6 21 22 7 8 28) [zpH 5 139 _] λ a w U=>?_);refine zJ 7 U G (λ hb4=>?_) (λ hb4=>?_)
   ·refine zg U3 [] (Ww 29 [.v 8 _]) (Wq [.o 4]) U (zM 1 rfl (zM 5 rfl (zv rfl (bL aZ (aB (vq 0 rfl)) (vq 1 rfl) (by first|omega | (simp at hb2;omega) | (simp at hb4;omega))) (zv rfl (ap (vq 2 rfl) aN) (zA 3 rfl o0))))) (zz (Wu 0 1 6 21 22 7 8) [zpH 5 139 _] ?_)
    refine znA<|zgA U5 [] (.adr 34 5 .none True::(W9 35 (.v 33 _::(W6 43 [.adr 45 5 (.some _) True,.sto 0,.v 6 _])))) U6 (oc (ob_a rfl rfl cy) (zM 5 rfl (zM 0 rfl (zM 5 rfl (zv rfl (bL aZ (aB (vq 2 rfl)) (vq 3 rfl) (by first|omega | (simp at hb2;omega) | (simp at hb4;omega))) (zv rfl (ap (vq 4 rfl) aN) (zM 6 rfl (zM 2 rfl (zQ rfl (mN (hl _ (qg _)) (hm _ (qg _)) (za (eV hl hm _) zd)) (.cons (vq 5 rfl) (.p (vq 6 rfl) (vq 7 rfl))) (zV 8 rfl (zv rfl (aP (vq 9 rfl) rfl) (zv rfl (aP (vq 9 rfl) rfl) (oc (ob_a rfl rfl (dM 0 rfl zk (lz0 0 rfl) aZ (vq 1 rfl) zo)) (oc (co 12 rfl rfl rfl rfl zk (λ _=>bX _ _ _ _) (vq 10 rfl) aN (bx (by rw [cG zo];omega))) (zA 11 rfl o0))))))))))))))) (zz (W8 0 1 21 22 6) [zpH 5 139 _] λ a w U=>?_)
    refine al ?_;refine aa<|zg U3 [] [.v 46 _,.v 22 _] U7 U (zv G (aL (gq 3 G) ab (aU zo)) (zV 0 G o0)) (zz (W8 0 1 21 6 22) [zpH 5 139 _] λ a w U=>?_);refine aa ?_;have U:=St.sel U [0,1,3,2,4];rw [ga hi (y:=_) (cK (by simp at hb4;omega)),iB hi (cK (by simp at hb4;omega))] at U;exact ⟨n-1,by omega,i+1,by omega,U⟩
   ·refine qj<|aa<|zg U5 [] (.adr 34 5 .none True::(W9 35 (.v 33 _::(W6 43 [.adr 45 5 (.some _) True,.sto 0,.v 6 _])))) U6 U (oc (ob_a rfl rfl cy) (zM 5 rfl (zM 0 rfl (zM 5 rfl (zv rfl (bL aZ (aB (vq 2 rfl)) (vq 3 rfl) (by first|omega | (simp at hb2;omega) | (simp at hb4;omega))) (zv rfl (ap (vq 4 rfl) aN) (zM 6 rfl (zM 2 rfl (zQ rfl (mN (hl _ (qg _)) (y:=0) zd (za (eV hl hm _) zd)) (.cons (vq 5 rfl) (.p (vq 6 rfl) (vq 7 rfl))) (zV 8 rfl (zv rfl (aP (vq 9 rfl) rfl) (zv rfl (aP (vq 9 rfl) rfl) (oc (ob_a rfl rfl (dM 0 rfl zk (lz0 0 rfl) aZ (vq 1 rfl) zo)) (oc (co 12 rfl rfl rfl rfl zk (λ _=>bX _ _ _ _) (vq 10 rfl) aN (bx (by rw [cG zo];omega))) (zA 11 rfl o0))))))))))))))) (zz (W8 0 1 21 22 6) [zpH 5 139 _] λ a w U=>?_)
    refine al ?_;refine aa<|zg U3 [] [.v 46 _,.v 22 _] U7 U (zv G (aL (gq 3 G) ab (aU zo)) (zV 0 G o0)) (zz (W8 0 1 21 6 22) [zpH 5 139 _] λ a w U=>?_);refine aa ?_;have U:=St.sel U [0,1,3,2,4];rw [ga hi (y:=_) (dS (by simp at hb4;omega)),iB hi (dS (by simp at hb4;omega))] at U;exact ⟨n-1,by omega,i+1,by omega,U⟩
  ·obtain rfl:i=l.length:=by simp at hb3;omega
   refine qP<|ai<|ai<|az<|zt<|zg U8 [] (.adr 47 5 .none True::(Wb 48 [.adr 51 5 (.some _) True,.sto 0])) [] U (oc (ob_a G G cy) (zM 0 G (zv G (aH qc (aB (vq 1 G))) (zM 2 G (oc (ob_a G G (dM 0 G zk (lz0 0 G) aZ (vq 2 G) zo)) (oc (co 4 G G G G zk (λ _=>bX _ _ _ _) (vq 3 G) aN (bx (by rw [cG zo];omega))) o0)))))) (zz [] [zpH 5 139 _] λ a w U=>?_);refine zt<|di (sts:=[none]) (news:=[]) (sp:=[.adr 52 5 .none True,.adr 4 5 .none True]) [] [(4,5)] [zpH 4 139 _] U (oc (ob_a G G cy) (oc (ob_a G G (CX 0 G zk)) o0)) zk zk zk ⟨⟨1,rfl⟩,trivial⟩ G zk (zz [] [zpH 4 139 _] λ a w U=>?_);refine aa<|qi<|aG ?_ (A7 G U (zm 0 G) ⟨by simp [cG],qh _,by unfold maxLen;omega,by rw [iC hl hm zo];exact bV _ _⟩ (by simp [cG]));rw [iC hl hm zo,Nat.max_eq_left zo]
def dif (l m:List Nat)(i:Nat):Nat:=val (l.take i)+4294967296^i-val (m.take i)
def lj (l m:List Nat)(i:Nat):List Nat:=digs i (dif l m i)++List.replicate (l.length-i) 0
theorem gL {l m:Ya}{i:Nat}(h:i≤l.length):(lj l m i).length=l.length:=by simp [lj,ar];omega
theorem uQ (l m:Ya):lj l m 0=List.replicate l.length 0:=by simp [lj,digs]
theorem ur (l m:Ya):1-dif l m 0/4294967296^0=0:=by simp [dif]
theorem eF (m:Ya)(i:Nat):val (m.take (i+1))=val (m.take i)+4294967296^i*m.getD i 0:=by
 by_cases h:i<m.length
 ·rw [bC h,cK h]
 ·rw [qD zo,qD zo,dS zo,vt,xU]
theorem fA {m:Ya}(hm:okL m)(i:Nat):m.getD i 0<4294967296:=by
 by_cases h:i<m.length
 ·rw [cK h];exact hm _ (qg _)
 ·rw [dS zo];decide
theorem oR {l m:Ya}{i:Nat}(h:i<l.length)(hm:okL m):dif l m (i+1)=dif l m i+4294967296^i*(l[i]+4294967295-m.getD i 0):=by
 have h1:=cJ hm i;have h2:=fA hm i;unfold dif;rw [bC h,eF,ze];generalize 4294967296^i=p at *;obtain ⟨e,he⟩:∃ e,l[i]+4294967295=m.getD i 0+e:=⟨l[i]+4294967295-m.getD i 0,by omega⟩;rw [he,j0];have h3:p*(l[i]+4294967295)=p*(m.getD i 0+e):=by rw [he]
 rw [xf,xf] at h3;omega
theorem ut {l m:Ya}(hl:okL l)(i:Nat):dif l m i/4294967296^i≤1:=by
 have h1:=cJ hl i;have h2:0<4294967296^i:=zG zd;unfold dif;rw [Nat.div_le_iff_le_mul_add_pred h2];omega
theorem nf {l m:Ya}{i:Nat}(h:i<l.length)(hl:okL l)(hm:okL m){y:Nat}(hy:m.getD i 0=y):(lj l m i).set i ((l[i]+8589934592-y-(1-dif l m i/4294967296^i))%4294967296)=lj l m (i+1):=by
 have h1:=fA hm i;have h2:=ut (m:=m) hl i;unfold lj;rw [eH _ _ _ _ (ar _ _),m8 _ _ zo,oR h hm,dU,hy];rw [hy] at h1;simp only [qY,xX];have e:(l[i]+8589934592-y-(1-dif l m i/4294967296^i))%4294967296=(dif l m i/4294967296^i+(l[i]+4294967295-y))%4294967296:=by
  generalize dif l m i/4294967296^i=q at *;omega
 rw [e,Nat.sub_add_eq]
theorem lS {l m:Ya}{i:Nat}(h:i<l.length)(hl:okL l)(hm:okL m){y:Nat}(hy:m.getD i 0=y):(if l[i]<y+(1-dif l m i/4294967296^i) then 1 else 0)=1-dif l m (i+1)/4294967296^(i+1):=by
 have h1:=fA hm i;have h2:=ut (m:=m) hl i;have h3:=hl _ (qg h);rw [oR h hm,carry_step',hy];rw [hy] at h1;generalize dif l m i/4294967296^i=q at *;split <;> omega
theorem pp {l m:Ya}(hl:okL l)(hm:m.length≤l.length)(hv:val m≤val l):bt (lj l m l.length)=ay (val l-val m):=by
 unfold lj dif;rw [jb,ki,zr,qJ,qD hm];have h1:=fb hl;rw [g7 (m':=val l-val m),iJ zo];rw [show val l+4294967296^l.length-val m=(val l-val m)+4294967296^l.length from by omega,v6]
theorem Ef {l m:Ya}{i:Nat}:okL (lj l m i):=okL_append.2 ⟨bV _ _,λ x hx=>by rw [(xN.1 hx).2];decide⟩
theorem Di (l m:Ya)(hls:l.length≤1099511627776)(hml:m.length≤l.length)(hv:val m≤val l):Cn Tryz.prog 190 [(MgA l).va,(MgA m).va] ((MgN (ay (val l-val m))).va):=by
 refine Cn.introW Tryz.func190 G zk nq (.cons (lP _).va (.cons (lP _).va .nil)) (ee _).va (λ B w0 a hB0 U=>?_);have U:=zn [(0,(MgO l).va),(1,(MgO m).va)] [] U;have hl:=(U.magO 0 rfl).1;have hm:=(U.magO 1 rfl).1;refine qb<|zh WP WQ U (zE G b9) (zz WR [] λ a w U=>?_);refine zt<|di (sts:=[]) (news:=[⟨11,139,slH _ _,some 2,_,none⟩]) (sp:=[.v 9 _,.v 10 _,.alc 0,.adr 5 11 .none True]) [.g 0,.g 1,.g 2] [(5,11)] [zpH 5 139 _] U (zM 0 G (zv G (aH qc (aB (vq 0 G))) (oc (et G G G fp (vq 1 G) (vq 1 G) zo) (oc (ob_a G G mO) o0)))) zk zk zk ⟨⟨3,rfl⟩,trivial⟩ G zk (zz WR [zpH 5 139 _] ?_);refine ztA<|zgA U1 [] U2 WX (zv G (bc (aE 0 G)) o0) (zz (Wf 0 1 4 6) [zpH 5 139 _] ?_);refine ztA<|zsA<|zgA U1 [] (Wb 12) (Wp [.o 1,.o 2]) (zM 0 G (zv G (aH qc (aB (vq 0 G))) (zv G (aA ab) o0))) (zz (Wj 0 1 4 6 13 14) [zpH 5 139 _] λ a w U=>?_);refine aa<|qk ?_;have U:=St.sel U [0,1,3,4,5];refine wp_loop_ghost (λ n a w=>∃ i:Nat,n+i=l.length∧St B w0 41 [(0,(MgO l).va),(1,(MgO m).va),(6,(NumA .u32 (1-dif l m i/4294967296^i:Nat)).va),(13,In (l.length:Nat)),(14,In (i:Nat))] [⟨5,139,slH l.length l.length,Nums .u32 (lj l m i)⟩] a w) (l.length) ?_ ?_
 ·exact ⟨0,by omega,by rw [uQ,ur];exact U⟩
 intro n a w hI;obtain ⟨i,hn,U⟩:=hI;refine qb<|zg U3 [] [.v 15 _] U4 U (zv G (aO (gq 4 G) (gq 3 G)) o0) (zz (Wj 0 1 6 13 14 15) [zpH 5 139 _] λ a w U=>?_);refine zt<|c7 U (zm 5 G) (λ hb0=>?_) (λ hb0=>?_)
 ·have hi:i<l.length:=by simp at hb0;omega
  refine qj<|zt<|qk<|qb<|zg U3 [] [.v 16 _,.v 7 _] (Wi [.o 1]) U (zM 4 G (zA 0 G o0)) (zz (Wj 0 1 6 13 14 7) [zpH 5 139 _] ?_);refine ztA<|zgA U1 [] [.v 8 _] (Wq [.o 0]) (zv G (bc (aE 0 G)) o0) (zz (Wu 0 1 6 13 14 7 8) [zpH 5 139 _] ?_);refine ztA<|zsA<|zgA U1 [] (Ww 17) (Wx [.o 3]) (zM 5 G (zM 1 G (zv G (aH qc (aB (vq 1 G))) (zv G (aO (vq 0 G) (vq 2 G)) o0)))) (zz (Wy 0 1 6 13 14 7 8 20) [zpH 5 139 _] λ a w U=>?_);refine zJ 7 U G (λ hb1=>?_) (λ hb1=>?_)
  ·refine zg U3 [] (Ww 21 [.v 8 _]) (Wq [.o 4]) U (zM 1 rfl (zM 5 rfl (zv rfl (bL aZ (aB (vq 0 rfl)) (vq 1 rfl) (by first|omega | (simp at hb1;omega))) (zv rfl (ap (vq 2 rfl) aN) (zA 3 rfl o0))))) (zz (Wu 0 1 6 13 14 7 8) [zpH 5 139 _] ?_)
   refine znA<|zgA U5 [] (.adr 26 5 .none True::(W9 27 (.v 25 _::(W6 35 [.adr 37 5 (.some _) True,.sto 0,.v 6 _])))) U6 (oc (ob_a rfl rfl cy) (zM 5 rfl (zM 0 rfl (zM 5 rfl (zv rfl (bL aZ (aB (vq 2 rfl)) (vq 3 rfl) (by first|omega | (simp at hb1;omega))) (zv rfl (ap (vq 4 rfl) aN) (zM 6 rfl (zM 2 rfl (zQ rfl (yF (hl _ (qg _)) (hm _ (qg _)) (za (vR _ _) zd)) (.cons (vq 5 rfl) (.p (vq 6 rfl) (vq 7 rfl))) (zV 8 rfl (zv rfl (aP (vq 9 rfl) rfl) (zv rfl (aP (vq 9 rfl) rfl) (oc (ob_a rfl rfl (dM 0 rfl zk (lz0 0 rfl) aZ (vq 1 rfl) zo)) (oc (co 12 rfl rfl rfl rfl zk (λ _=>bX _ _ _ _) (vq 10 rfl) aN (bx (by rw [gL zo];omega))) (zA 11 rfl o0))))))))))))))) (zz (W8 0 1 13 14 6) [zpH 5 139 _] λ a w U=>?_)
   refine al ?_;refine aa<|zg U3 [] [.v 38 _,.v 14 _] U7 U (zv G (aL (gq 3 G) ab (aU zo)) (zV 0 G o0)) (zz (W8 0 1 13 6 14) [zpH 5 139 _] λ a w U=>?_);refine aa ?_;have U:=St.sel U [0,1,3,2,4];rw [nf hi hl hm (y:=_) (cK (by simp at hb1;omega)),lS hi hl hm (cK (by simp at hb1;omega))] at U;exact ⟨n-1,by omega,i+1,by omega,U⟩
  ·refine qj<|aa<|zg U5 [] (.adr 26 5 .none True::(W9 27 (.v 25 _::(W6 35 [.adr 37 5 (.some _) True,.sto 0,.v 6 _])))) U6 U (oc (ob_a rfl rfl cy) (zM 5 rfl (zM 0 rfl (zM 5 rfl (zv rfl (bL aZ (aB (vq 2 rfl)) (vq 3 rfl) (by first|omega | (simp at hb1;omega))) (zv rfl (ap (vq 4 rfl) aN) (zM 6 rfl (zM 2 rfl (zQ rfl (yF (hl _ (qg _)) (y:=0) zd (za (vR _ _) zd)) (.cons (vq 5 rfl) (.p (vq 6 rfl) (vq 7 rfl))) (zV 8 rfl (zv rfl (aP (vq 9 rfl) rfl) (zv rfl (aP (vq 9 rfl) rfl) (oc (ob_a rfl rfl (dM 0 rfl zk (lz0 0 rfl) aZ (vq 1 rfl) zo)) (oc (co 12 rfl rfl rfl rfl zk (λ _=>bX _ _ _ _) (vq 10 rfl) aN (bx (by rw [gL zo];omega))) (zA 11 rfl o0))))))))))))))) (zz (W8 0 1 13 14 6) [zpH 5 139 _] λ a w U=>?_)
   refine al ?_;refine aa<|zg U3 [] [.v 38 _,.v 14 _] U7 U (zv G (aL (gq 3 G) ab (aU zo)) (zV 0 G o0)) (zz (W8 0 1 13 6 14) [zpH 5 139 _] λ a w U=>?_);refine aa ?_;have U:=St.sel U [0,1,3,2,4];rw [nf hi hl hm (y:=_) (dS (by simp at hb1;omega)),lS hi hl hm (dS (by simp at hb1;omega))] at U;exact ⟨n-1,by omega,i+1,by omega,U⟩
 ·obtain rfl:i=l.length:=by simp at hb0;omega
  refine qP<|ai<|ai<|az<|zt<|zg U3 [] [.adr 39 5 .none True,.v 40 _,.v 4 _] U9 U (oc (ob_a G G cy) (zQ G (tb famN _) (.o (i6 0 G zk (lz0 0 G) ⟨by rw [gL (qh _)],qh _,by unfold maxLen;omega,Ef⟩ (by rw [gL (qh _)]))) (zA 1 G o0))) (zz U0 [zpH 5 139 _] λ a w U=>?_);refine zN 0 U G G ?_;rw [pp hl hml hv]
def rsig (neg:Bool)(l:List Nat):RI:=⟨neg && !(bt l).isEmpty,bt l⟩
theorem fh {M:Ya→As}{neg:Bool}{l:Ya}(h:(((bt l).length:Int)==0)=true):(cat (l3 [BoA false,M []] [])).va=(cat [BoA (rsig neg l).neg,M (rsig neg l).mag]).va:=by
 have:bt l=[]:=by simpa using h
 unfold rsig;rw [this];simp;rfl
theorem gO {M:Ya→As}{neg:Bool}{l:Ya}(h:(((bt l).length:Int)==0)=false):(cat (l3 [BoA false,M []] [(0,BoA neg),(1,M (bt l))])).va=(cat [BoA (rsig neg l).neg,M (rsig neg l).mag]).va:=by
 have:(bt l).isEmpty=false:=by cases hh:bt l <;> simp_all
 unfold rsig;rw [this];simp;rfl
theorem gQ (neg:Bool)(l:Ya):Cn Tryz.prog 187 [Bo neg,(MgA l).va] ((RIA (rsig neg l)).va):=by
 refine Cn.intro Tryz.func187 G zk nq (zy [(0,Bo neg),(1,(MgA l).va)] λ B w0 a U=>?_);refine qb<|zg [] Ua Ub We U (zY G (Str.zero (cB famA)) o0) (zz Uc Ud ?_);refine ztA<|zsA<|zgA U1 [] (W6 5 [.v 1 _]) Ue (zM 1 G (zQ G (tb famA _) (.o (vq 0 G)) (zA 1 G o0))) (zz Uc Ud ?_);refine ztA<|zgA U1 [] (Wb 7) WY (zM 1 G (zv G (aH qc (vq 0 G)) (zv G (bF (vq 1 G) ab) o0))) (zz (Wa 0 1 9) Ud λ a w U=>?_);refine zJ 2 U G (λ hb0=>?_) (λ hb0=>?_)
 ·refine qb<|zg Uf [] Ug We U (zv G (aS (qs:=[]) (cB famA) .nil) (zS 0 G ao o0)) (zz Uc Ud λ a w U=>?_);refine aa<|qi<|aj ?_;refine aG ?_ (ax G U (zm 0 G) ao);exact fh (M:=MgA) hb0
 ·refine qj<|zt<|zg Uh [] (Wb 11 [.sto 0]) [] U (zM 0 G (zM 1 G (zv G (aS (qs:=[(0,_),(1,_)]) (cB famA) (.cons ⟨rfl,vq 0 rfl,rfl⟩ (.cons ⟨rfl,vq 1 rfl,rfl⟩ .nil))) (zS 2 G ao o0)))) (zz [] Ud λ a w U=>?_);refine aa<|qi<|aG ?_ (ax G U (zm 0 G) ao);exact gO (M:=MgA) hb0
theorem dy (neg:Bool)(l:Ya):Cn Tryz.prog 187 [Bo neg,(MgN l).va] ((RIN (rsig neg l)).va):=by
 refine Cn.intro Tryz.func187 G zk nq (zy [(0,Bo neg),(1,(MgN l).va)] λ B w0 a U=>?_);refine qb<|zg [] Ua Ub We U (zY G (Str.zero (cB famN)) o0) (zz Uc Ud ?_);refine ztA<|zsA<|zgA U1 [] (W6 5 [.v 1 _]) Ue (zM 1 G (zQ G (tb famN _) (.o (vq 0 G)) (zA 1 G o0))) (zz Uc Ud ?_);refine ztA<|zgA U1 [] (Wb 7) WY (zM 1 G (zv G (aH qc (sh (vq 0 G))) (zv G (bF (vq 1 G) ab) o0))) (zz (Wa 0 1 9) Ud λ a w U=>?_);refine zJ 2 U G (λ hb0=>?_) (λ hb0=>?_)
 ·refine qb<|zg Uf [] Ug We U (zv G (aS (qs:=[]) (cB famN) .nil) (zS 0 G ao o0)) (zz Uc Ud λ a w U=>?_);refine aa<|qi<|aj ?_;refine aG ?_ (ax G U (zm 0 G) ao);exact fh (M:=MgN) hb0
 ·refine qj<|zt<|zg Uh [] (Wb 11 [.sto 0]) [] U (zM 0 G (zM 1 G (zv G (aS (qs:=[(0,_),(1,_)]) (cB famN) (.cons ⟨rfl,vq 0 rfl,rfl⟩ (.cons ⟨rfl,vq 1 rfl,rfl⟩ .nil))) (zS 2 G ao o0)))) (zz [] Ud λ a w U=>?_);refine aa<|qi<|aG ?_ (ax G U (zm 0 G) ao);exact gO (M:=MgN) hb0
theorem Pi {l:Ya}(h:0<l.length):(MgN l).n=(MgZ l).n∧(MgN l).ag=(MgZ l).ag∧∀ B cs w,(MgZ l).p B cs w→(MgN l).p B cs w:=⟨rfl,rfl,λ B cs w ⟨ok,A,c,e,h1,h2,h3⟩=>by
 obtain ⟨g,ext,rfl,rfl,h4,h5⟩:=h3 h;exact ⟨ok,.inr ⟨g,ext,e,h2,h4,h5⟩⟩⟩
theorem yJ {neg:Bool}{l:Ya}(h:(((bt l).length:Int)==0)=false):Wk (cat (l3 [BoA false,MgN []] [(0,BoA neg),(1,MgZ (bt l))])).va (RIN (rsig neg l)).va:=by
 have h1:(bt l).isEmpty=false:=by cases hh:bt l <;> simp_all
 have h2:0<(bt l).length:=by cases hh:bt l <;> simp_all
 have e:RIN (rsig neg l)=cat [BoA neg,MgN (bt l)]:=by unfold rsig RIN;rw [h1];simp
 rw [e];exact λ B v w ⟨cs,⟨ps,hp,hq⟩,hv⟩=>by
  cases hq with
  | cons q1 hq=>cases hq with
   | cons q2 hq=>exact ⟨cs,⟨_,hp,.cons q1 (.cons ((Pi h2).2.2 _ _ _ q2) hq)⟩,hv⟩
theorem yK (neg:Bool)(l:Ya):Cn Tryz.prog 187 [Bo neg,(MgZ l).va] ((RIN (rsig neg l)).va):=by
 refine Cn.intro Tryz.func187 G zk nq (zy [(0,Bo neg),(1,(MgZ l).va)] λ B w0 a U=>?_);refine qb<|zg [] Ua Ub We U (zY G (Str.zero (cB famN)) o0) (zz Uc Ud ?_);refine ztA<|zsA<|zgA U1 [] (W6 5 [.v 1 _]) Ue (zM 1 G (zQ G (tb famZ _) (.o (vq 0 G)) (zA 1 G o0))) (zz Uc Ud ?_);refine ztA<|zgA U1 [] (Wb 7) WY (zM 1 G (zv G (aH qc (Ez (vq 0 G))) (zv G (bF (vq 1 G) ab) o0))) (zz (Wa 0 1 9) Ud λ a w U=>?_);refine zJ 2 U G (λ hb0=>?_) (λ hb0=>?_)
 ·refine qb<|zg Uf [] Ug We U (zv G (aS (qs:=[]) (cB famN) .nil) (zS 0 G ao o0)) (zz Uc Ud λ a w U=>?_);refine aa<|qi<|aj ?_;refine am ?_ (ax G U (zm 0 G) ao);exact λ _ _ _ h=>(fh (M:=MgN) hb0)▸h
 ·refine qj<|zt<|zg Uh [] (Wb 11 [.sto 0]) [] U (zM 0 G (zM 1 G (zv G (aS (qs:=[(0,_),(1,_)]) (cB famN) (.cons ⟨rfl,vq 0 rfl,rfl⟩ (.cons ⟨rfl,vq 1 rfl,rfl⟩ .nil))) (zS 2 G ao o0)))) (zz [] Ud λ a w U=>?_);refine aa<|qi<|am ?_ (ax G U (zm 0 G) ao);exact yJ hb0
set_option maxHeartbeats 2000000 in
theorem y5 (b off n c:Nat)(zs:Ya)(w:Yi)(hn:n=zs.length)(h0:0<n)(hbig:n*4≤140737488355328)(hc:∀ j (h:j<zs.length),w.cell? ⟨b,off+j,none⟩=some (.int .u32 (zs[j]:Nat))) :
  Calls Tryz.prog 234 #[.slice (some ⟨b,off,none⟩) n c] w λ e w'=>∃ g c ext,e=.returned (.slice (some ⟨g,0,none⟩) n c)∧w.heap.size≤g∧n≤c∧c≤maxLen∧w'.heap[g]?=some (.cells ((zs++ext).map λ (x:Nat)=>Value.int .u32 x).toArray U32 (0,0))∧Grow w w'∧c=(zs++ext).length:=by
 have t22:Tryz.prog.underlying 24=some (.slice U32):=by kernel_rfl
 obtain ⟨i0,hi,hz0,hz1,hz2⟩:=t9;have q22:∀ (w:World) (a:Option Addr) (n c n' c':Nat),(binOp .eql 24 (.slice a n c) (.slice none n' c')).run Tryz.prog w=.ok (.bool a.isNone) w:=λ w a n c n' c'=>Lib.run_eql_slice_nil w _ _ a n c n' c' t22;have u22:∀ w,Sem.run Tryz.prog (underlying 24) w=.ok (TypeDesc.slice U32) w:=run_underlying t22;have A:Aside (∀ j (h:j<zs.length),w.cell? ⟨b,off+j,none⟩=some (.int .u32 (zs[j]:Nat))):=hc;have HN:Aside (n=zs.length):=hn;clear hc hn
 go_enter Tryz.func234,Tryz.ntmps234
 go_wp2_with (at_builtin;refine iD rfl _ _ 24 rfl U32 i0 (.int .u32 0) t22 hi hz0 hz1 hz2 _ rfl ⟨b,off,none⟩ n c (zs.map λ (x:Nat)=>Value.int .u32 x) rfl ?qc1 ?qc2 h0 hbig ?_)
 case qc1=>simp;exact HN.out.symm
 case qc2 =>
  intro j u hj;have hjn:j<zs.length:=by
   have:=(List.getElem?_eq_some_iff.1 hj).1;simpa using this
  rw [Addr.add_lit];refine Lib.cell?_alloc_some _ ?_;rw [A.out j hjn];simpa [hjn] using hj
 go_wp2
 go_ret
 refine ⟨_,_,List.replicate (grownCap (w.alloc (.cells #[] U32)) n 0 U32-n) 0,rfl,by omega,grownCap_ge _ _ _ _,grownCap_le_maxLen _ _ _ _ (by unfold maxLen;omega),?_,?_,?_⟩
 ·have e:(w.alloc (.cells #[] U32)).heap.size=w.heap.size+1:=by simp
  rw [← e,uL,zT,← vL];exact heap_alloc_new _ _
 ·exact ((Grow.alloc w _).trans (Grow.alloc _ _)).trans (Grow.drew _)
 ·have:=grownCap_ge (w.alloc (.cells #[] U32)) n 0 U32;have hnz:=HN.out;rw [qx,qR];omega
theorem CA (c:Nat)(w:Yi):Calls Tryz.prog 234 #[.slice none 0 c] w λ e w'=>e=.returned (.slice none 0 0)∧w=w':=by
 have t22:Tryz.prog.underlying 24=some (.slice U32):=by kernel_rfl
 have q22:∀ (w:World) (a:Option Addr) (n c n' c':Nat),(binOp .eql 24 (.slice a n c) (.slice none n' c')).run Tryz.prog w=.ok (.bool a.isNone) w:=λ w a n c n' c'=>Lib.run_eql_slice_nil w _ _ a n c n' c' t22
 go_enter Tryz.func234,Tryz.ntmps234
 go_wp2
 go_ret
 exact ⟨rfl,rfl⟩
theorem y4 (ad:Addr)(c:Nat)(w:Yi):Calls Tryz.prog 234 #[.slice (some ad) 0 c] w λ e w'=>∃ A c,e=.returned (.slice A 0 c)∧c≤maxLen∧Below w.heap.size w w':=by
 have t22:Tryz.prog.underlying 24=some (.slice U32):=by kernel_rfl
 obtain ⟨i0,hi,hz0,hz1,hz2⟩:=t9;have q22:∀ (w:World) (a:Option Addr) (n c n' c':Nat),(binOp .eql 24 (.slice a n c) (.slice none n' c')).run Tryz.prog w=.ok (.bool a.isNone) w:=λ w a n c n' c'=>Lib.run_eql_slice_nil w _ _ a n c n' c' t22;have u22:∀ w,Sem.run Tryz.prog (underlying 24) w=.ok (TypeDesc.slice U32) w:=run_underlying t22
 go_enter Tryz.func234,Tryz.ntmps234
 go_wp2_with (at_builtin;refine wpList_append_own _ rfl _ _ 24 rfl w.heap.size U32 i0 (.int .u32 0) 1 4 t22 hi hz0 hz1 hz2 rfl zd _ _ _ rfl (World.ownsRow_made w #[] 0 (qh _) (zf _) rfl) ad 0 c [] rfl rfl ?qc2 ?qc3 ?qc4 ?qc5 ?qc6 ?_)
 case qc2=>intro j u hj;simp at hj
 case qc3=>intro u hu;cases hu
 case qc4=>unfold maxLen;omega
 case qc5=>omega
 case qc6=>simp
 intro v' w1 hown hgrow hnil
 go_wp2
 go_ret
 have hb:=((Below.refl _ w).alloc (qh _) _).grown hgrow (by simp) (by intro k hk;simp [Value.ownBlock] at hk;omega);rcases hown.2 with ⟨rfl,_⟩|⟨g,cap,cur,rfl,_,_,_,h4,_⟩
 ·exact ⟨none,0,rfl,zf _,hb⟩
 ·exact ⟨_,cap,rfl,h4,hb⟩
theorem CB (l:Ya)(hls:l.length≤1099511627776):Cn Tryz.prog 234 [(MgA l).va] (MgZ l).va:=by
 refine ⟨iw Tryz.func234 zk zk,λ B w args hB ha=>?_⟩;obtain ⟨v,rfl,hv⟩:=ha.one;obtain ⟨A,c,rfl,hm⟩:=gB hv;by_cases h0:l.length=0
 ·have hl:l=[]:=z9 h0;subst hl;cases A with
  | none =>
   refine (CA c w).mono λ e w' ⟨he,hw⟩=>?_;subst hw;exact ⟨_,he,⟨_,famZ.nil B w,rfl⟩,Grow.refl w⟩
  | some ad=>exact (y4 ad c w).mono λ e w' ⟨A,c,he,hm,hb⟩=>⟨_,he,⟨_,⟨cW,A,c,rfl,zf _,hm,λ h=>by simp at h⟩,rfl⟩,hb⟩
 ·obtain ⟨b,o,rfl,h1,h2,h3⟩:=hm.at_ zo;exact (y5 b o l.length c l w G zo zo h3).mono λ e w' ⟨g,c,ext,he,h4,h5,h6,h7,hb,hcx⟩=>⟨_,he,⟨_,⟨hm.ok,_,c,rfl,h5,h6,λ _=>⟨g,ext,rfl,hcx,qf hB h4,h7⟩⟩,rfl⟩,hb⟩
theorem IF (neg:Bool)(l:Ya)(hls:l.length≤1099511627776):Cn Tryz.prog 205 [Bo neg,(MgA l).va] ((RIN (rsig neg l)).va):=by
 refine Cn.intro Tryz.func205 G zk nq (zy [(0,Bo neg),(1,(MgA l).va)] λ B w0 a U=>?_);refine qb<|zg [] Ua Ub We U (zY G (Str.zero (cB famN)) o0) (zz Uc Ud ?_);refine ztA<|zgA [some (4,_)] [] (Ww 5 [.sto 0]) [] (zM 0 G (zM 1 G (zQ G (CB _ hls) (.o (vq 1 G)) (zQ G (yK _ _) (.p (vq 0 G) (vq 2 G)) (zS 3 G ao o0))))) (zz [] Ud λ a w U=>?_);exact aa<|qi<|ax G U (zm 0 G) ao
theorem rI:∀ {l:Ya}{j x:Nat} (h:j<l.length),val (l.set j x)+4294967296^j*l[j]=val l+4294967296^j*x
 | [],j,x,h=>by simp at h
 | y::ys,0,x,_=>by simp [val];omega
 | y::ys,j+1,x,h=>by
  have:=rI (l:=ys) (j:=j) (x:=x) (by simpa using h);simp only [jm,val,List.getElem_cons_succ,ze];have e:∀ z,4294967296^j*4294967296*z=4294967296*(4294967296^j*z):=λ z=>by rw [qW (4294967296^j),zb]
  rw [e,e];omega
theorem AX {l:Ya}(h:okL l)(j:Nat){x:Nat}(hx:x<4294967296):okL (l.set j x):=λ y hy=>by
 rcases qq hy with h1|h1
 ·exact h y h1
 ·subst h1;exact hx
structure MulO (a b L:List Nat) (i:Nat):Prop where
 len:L.length=a.length+b.length
 ok:okL L
 vl:val L=val (a.take i)*val b
 zero:∀ j,i+b.length≤j→L.getD j 0=0
structure MulI (a b L:List Nat) (i u k c:Nat):Prop where
 len:L.length=a.length+b.length
 ok:okL L
 cl:c<4294967296
 vl:val L+c*4294967296^(i+k)=val (a.take i)*val b+4294967296^i*(u*val (b.take k))
 zero:∀ j,i+b.length≤j→L.getD j 0=0
theorem MulO.start (a b:Ya):MulO a b (List.replicate (a.length+b.length) 0) 0:=⟨by simp,λ x hx=>by rw [(xN.1 hx).2];decide,by simp [pf],λ j _=>by rw [List.getD_eq_getElem?_getD,List.getElem?_replicate];split <;> rfl⟩
theorem MulO.row {a b L:Ya}{i:Nat}(h:MulO a b L i)(u:Nat):MulI a b L i u 0 0:=⟨h.len,h.ok,by decide,by rw [h.vl];simp,h.zero⟩
theorem l8 {u v c l:Nat}(hu:u<4294967296)(hv:v<4294967296)(hc:c<4294967296)(hl:l<4294967296):c+(u*v+l)<18446744073709551616:=by
 have:u*v≤4294967295*4294967295:=xR zo zo;omega
theorem Ja {V V' W Z p q r u x y c t B d m:Nat}(hp:p=q*r)(ht:t=c+(u*x+y))(hd:B*d+m=t)(h2:V'+p*y=V+p*m)(h3:V+c*p=W+q*(u*Z)):V'+d*(p*B)=W+q*(u*(Z+r*x)):=by
 grind
theorem MulI.step {a b L:Ya}{i u k c:Nat}(h:MulI a b L i u k c)(hb:okL b)(hu:u<4294967296)(hk:k<b.length)(hj:i+k<L.length) :
  MulI a b (L.set (i+k) ((c+(u*b[k]+L[i+k]))%4294967296)) i u (k+1) ((c+(u*b[k]+L[i+k]))/4294967296):=by
 have h1:=l8 hu (hb _ (qg hk)) h.cl (h.ok _ (qg hj));refine ⟨by rw [qZ,h.len],AX h.ok _ (qU _ zd),z4 h1,?_,λ j hj'=>?_⟩
 ·have h2:=rI (x:=(c+(u*b[k]+L[i+k]))%4294967296) hj;have h3:=h.vl;rw [bC hk,show i+(k+1)=(i+k)+1 from rfl,ze];exact Ja (xe _ _ _) G (xP _ _) h2 h3
 ·have:=h.zero j hj';rw [List.getD_eq_getElem?_getD,List.getElem?_set_ne zo,← List.getD_eq_getElem?_getD];exact this
theorem MulI.done {a b L:Ya}{i u c:Nat}(h:MulI a b L i u b.length c)(hi:i<a.length)(hu:a[i]=u):MulO a b (L.set (i+b.length) c) (i+1):=by
 have hj:i+b.length<L.length:=by rw [h.len];omega
 have h1:=rI (x:=c) hj;have h2:=h.vl;have h3:L[i+b.length]=0:=by have:=h.zero _ (qh _);rwa [cK hj] at this
 rw [h3,vt,xU] at h1;rw [qD (qh _)] at h2;refine ⟨by rw [qZ,h.len],AX h.ok _ h.cl,?_,λ j hj'=>?_⟩
 ·rw [h1,qW _ c,h2,bC hi,hu,xS,zb]
 ·rw [List.getD_eq_getElem?_getD,List.getElem?_set_ne zo,← List.getD_eq_getElem?_getD];exact h.zero j zo
theorem MulO.fin {a b L:Ya}(h:MulO a b L a.length):L=digs (a.length+b.length) (val a*val b):=mA h.ok h.len (by rw [h.vl,qJ])
theorem HK (x y:RI)(hxs:x.mag.length≤1099511627776)(hys:y.mag.length≤1099511627776):Cn Tryz.prog 180 [(RIA x).va,(RIA y).va] ((RIN (rsig (x.neg != y.neg) (digs (x.mag.length+y.mag.length) (val x.mag*val y.mag)))).va):=by
 refine Cn.introW Tryz.func180 G zk nq (.cons (uM _).va (.cons (uM _).va .nil)) (dk _).va (λ B w0 a hB0 U=>?_);have U:=zn [(0,(RIO x).va),(1,(RIO y).va)] [] U;refine qb<|zg [] Ui Uj [] U (zW 0 G (zW 1 G (zY G (Str.zero fM) o0))) (zz [] Uk λ a w U=>?_);refine zt<|zgd [[],[0],[],[2],[0,1],(Wm 5)] Ul [] (.adr 13 2 (.some 1) True::.v 14 _::.adr 15 3 (.some 1) True::.v 16 _::(W6 5)) [.o 4,.o 5] ac U (zO 0 G aq (zL 0 0 1 G aW (zO 1 G aq (zL 2 1 1 G aW (zA 1 G (zA 3 G o0)))))) zk zk zk zk (zz (Wc 5 6) Uk λ a w U=>?_);refine zt<|di (sts:=[none,none,none]) (news:=[⟨22,139,slH _ _,some 5,_,none⟩]) (sp:=[.v 17 _,.v 18 _,.v 19 _,.v 20 _,.v 21 _,.alc 3,.adr 7 22 .none True]) [.g 0,.g 1] [(7,22)] [O 2 26 _,O 3 26 _,O 4 26 _,zpH 7 139 _] U (zM 0 G (zv G (aH qc (aB (vq 0 G))) (zM 1 G (zv G (aH qc (aB (vq 2 G))) (zv G (aL (vq 1 G) (vq 3 G) (gG zo)) (oc (et G G G fp (vq 4 G) (vq 4 G) zo) (oc (ob_a G G mO) o0))))))) zk zk zk ⟨⟨6,rfl⟩,trivial⟩ G zk (zz (Wc 5 6) [O 2 26 _,O 3 26 _,O 4 26 _,zpH 7 139 _] ?_);refine ztA<|zsA<|zgA Um [] (Wb 23) Un (zM 0 G (zv G (aH qc (aB (vq 0 G))) (zv G (aA ab) o0))) (zz (Wf 6 23 24 25) [O 2 26 _,O 3 26 _,O 4 26 _,zpH 7 139 _] λ a w U=>?_);refine aa<|qk ?_;have U:=St.sel U [0,1,2,3];refine wp_loop_ghost (λ n a w=>∃ (i:Nat) (L:List Nat),n+i=x.mag.length∧MulO x.mag y.mag L i∧St B w0 78 [(6,(MgO y.mag).va),(23,(MgO x.mag).va),(24,In (x.mag.length:Nat)),(25,In (i:Nat))] [⟨2,26,ptrH,RIO x⟩,⟨3,26,ptrH,RIO y⟩,⟨4,26,ptrH,cat [BoA false,MgO []]⟩,⟨7,139,slH (x.mag.length+y.mag.length) (x.mag.length+y.mag.length),Nums .u32 L⟩] a w) (x.mag.length) ?_ ?_
 ·exact ⟨0,_,by omega,MulO.start _ _,U⟩
 intro n a w hI;obtain ⟨i,L,hn,hO,U⟩:=hI;obtain ⟨n1,hn1⟩:∃ n1,n1=n:=⟨n,rfl⟩;have hb:=(U.magO 0 rfl).1;have ha:=(U.magO 1 rfl).1;have hlen:=hO.len;refine qb<|zg Uo [] [.v 26 _] Uq U (zv G (aO (gq 3 G) (gq 2 G)) o0) (zz (W8 6 23 24 25 26) [O 2 26 _,O 3 26 _,O 4 26 _,zpH 7 139 _] λ a w U=>?_);refine zt<|c7 U (zm 4 G) (λ hb0=>?_) (λ hb0=>?_)
 ·have hi:i<x.mag.length:=by simp at hb0;omega
  refine qj<|zt<|qk<|qb<|zg Uo [] (Wb 27 (W6 8)) (Wp [.o 3,.o 4]) U (zM 3 G (zv G (bL aZ (aB (gq 1 G)) (gq 3 G) zo) (zv G (ap (vq 1 G) aN) (zA 0 G (zA 2 G o0))))) (zz (Wj 6 23 24 25 8 9) [O 2 26 _,O 3 26 _,O 4 26 _,zpH 7 139 _] ?_);refine ztA<|zgA Um [] [.v 10 _] (Wq [.o 0]) (zv G (bc (aE 0 G)) o0) (zz (Wu 6 23 24 25 8 9 10) [O 2 26 _,O 3 26 _,O 4 26 _,zpH 7 139 _] ?_);refine ztA<|zsA<|zgA Um [] (Wb 30) (Wx [.o 0,.o 1,.o 2]) (zM 0 G (zv G (aH qc (aB (vq 0 G))) (zv G (aA ab) o0))) (zz (Wz 6 23 24 25 8 9 10 30 31 32) [O 2 26 _,O 3 26 _,O 4 26 _,zpH 7 139 _] λ a w U=>?_);refine aa<|qk ?_;have U:=St.sel U [0,1,2,3,4,5,6,7,8,9];refine wp_loop_ghost (λ n a w=>∃ (k c:Nat) (L:List Nat),n+k=y.mag.length∧MulI x.mag y.mag L i x.mag[i] k c∧St B w0 78 [(6,(MgO y.mag).va),(23,(MgO x.mag).va),(24,In (x.mag.length:Nat)),(25,In (i:Nat)),(8,In (i:Nat)),(9,(NumA .u32 (x.mag[i]:Nat)).va),(10,(NumA .u64 (c:Nat)).va),(30,(MgO y.mag).va),(31,In (y.mag.length:Nat)),(32,In (k:Nat))] [⟨2,26,ptrH,RIO x⟩,⟨3,26,ptrH,RIO y⟩,⟨4,26,ptrH,cat [BoA false,MgO []]⟩,⟨7,139,slH (x.mag.length+y.mag.length) (x.mag.length+y.mag.length),Nums .u32 L⟩] a w) (y.mag.length) ?_ ?_
  ·exact ⟨0,0,L,by omega,hO.row _,U⟩
  intro n a w hI;clear hlen hO;obtain ⟨k,c,L,hn2,hI,U⟩:=hI;have hlen:=hI.len;have hc:=hI.cl;refine qb<|zg Uo [] [.v 33 _] (WA [.o 0]) U (zv G (aO (gq 9 G) (gq 8 G)) o0) (zz (WB 6 23 24 25 8 9 10 30 31 32 33) [O 2 26 _,O 3 26 _,O 4 26 _,zpH 7 139 _] λ a w U=>?_);refine zt<|c7 U (zm 10 G) (λ hb1=>?_) (λ hb1=>?_)
  ·have hk:k<y.mag.length:=by simp at hb1;omega
   refine qj<|zt<|qk<|qb<|zg Uo [] (Wb 34 (W6 11)) (WA [.o 3,.o 4]) U (zM 9 G (zv G (bL aZ (aB (gq 7 G)) (gq 9 G) zo) (zv G (ap (vq 1 G) aN) (zA 0 G (zA 2 G o0))))) (zz (WC 6 23 24 25 8 9 10 30 31 32 11 12) [O 2 26 _,O 3 26 _,O 4 26 _,zpH 7 139 _] ?_);refine ztA<|zgA Um [] (Wl 37 (.adr 43 7 .none True::(Wb 44 (.adr 47 7 (.some _) True::(Ww 48 [.v 10 _]))))) (Wq [.g 7,.g 8,.g 9,.g 10,.o 15]) (zM 6 G (zM 5 G (zv G (aI .u64 zk zk (vq 1 G) (wu64 (zw (ha _ (qg _)) zd))) (zM 11 G (zv G (aI .u64 zk zk (vq 3 G) (wu64 (zw (hb _ (qg _)) zd))) (zv G (mc (vq 2 G) (vq 4 G) (pa (za (qf (wg _ _) (j7 _ _)) (l8 (ha _ (qg _)) (hb _ (qg _)) (show 0<4294967296 by decide) (show 0<4294967296 by decide))))) (oc (ob_a G G cy) (zM 4 G (zM 10 G (zv G (aL (vq 7 G) (vq 8 G) (gG zo)) (oc (ob_a G G (dM 6 G zk (lz0 3 G) aZ (vq 9 G) zo)) (zv G (me 10 G zk (lz0 3 G) (λ _=>bX _ _ _ _) (iU zo) aN) (zv G (aI .u64 zk zk (vq 11 G) (wu64 (zw (hI.ok _ (qg _)) zd))) (zv G (aL (vq 5 G) (vq 12 G) (dE (za (j7 _ _) (l8 (ha _ (qg _)) (hb _ (qg _)) hc (hI.ok _ (qg _)))))) (zv G (aL (vq 0 G) (vq 13 G) (dE (l8 (ha _ (qg _)) (hb _ (qg _)) hc (hI.ok _ (qg _))))) (zA 14 G o0)))))))))))))))) (zz (WB 6 23 24 25 8 9 30 31 32 11 10) [O 2 26 _,O 3 26 _,O 4 26 _,zpH 7 139 _] ?_);refine ztA<|zgA [none,none,none,some (7,_)] [] (.adr 52 7 .none True::(Wd 53 [.adr 58 7 (.some _) True,.sto 3])) (WD [.g 10]) (oc (ob_a G G cy) (zM 4 G (zM 9 G (zv G (aL (vq 1 G) (vq 2 G) (gG zo)) (zM 10 G (zv G (aI .u32 zk zk (vq 4 G) (wu32')) (oc (ob_a G G (dM 0 G zk (lz0 3 G) aZ (vq 3 G) zo)) (oc (co 6 G G G G zk (λ _=>bX _ _ _ _) (vq 5 G) aN (bx zo)) o0)))))))) (zz (Wz 6 23 24 25 8 9 30 31 32 10) [O 2 26 _,O 3 26 _,O 4 26 _,zpH 7 139 _] ?_);refine znA<|zgA Um [] (W6 59 [.v 10 _]) (WD [.o 2]) (zM 9 G (zv G (lk (vq 0 G) (aE 32 G) zd (nshr)) (zA 1 G o0))) (zz (Wz 6 23 24 25 8 9 30 31 32 10) [O 2 26 _,O 3 26 _,O 4 26 _,zpH 7 139 _] λ a w U=>?_);refine al ?_;refine aa<|zg Uo [] [.v 61 _,.v 32 _] (WE [.g 9,.o 1]) U (zv G (aL (gq 8 G) ab (aU zo)) (zV 0 G o0)) (zz (Wz 6 23 24 25 8 9 30 31 10 32) [O 2 26 _,O 3 26 _,O 4 26 _,zpH 7 139 _] λ a w U=>?_);refine aa ?_;have U:=St.sel U [0,1,2,3,4,5,8,6,7,9];exact ⟨n-1,by omega,k+1,_,_,by omega,hI.step hb (ha _ (qg _)) hk zo,U⟩
  ·obtain rfl:k=y.mag.length:=by simp at hb1;omega
   refine qP<|ai<|ai<|az<|aa<|zg [η,η,η,some (8,_)] [] (.adr 62 7 .none True::(Wl 63 [.adr 69 7 (.some _) True,.sto 3])) Wp U (oc (ob_a G G cy) (zM 4 G (zM 0 G (zv G (aH qc (aB (vq 2 G))) (zv G (aL (vq 1 G) (vq 3 G) (gG zo)) (zM 6 G (zv G (aI .u32 zk zk (vq 5 G) (wu32 hc)) (oc (ob_a G G (dM 0 G zk (lz0 3 G) aZ (vq 4 G) zo)) (oc (co 7 G G G G zk (λ _=>bX _ _ _ _) (vq 6 G) aN (bx zo)) o0))))))))) (zz (Wf 6 23 24 25) [O 2 26 _,O 3 26 _,O 4 26 _,zpH 7 139 _] λ a w U=>?_);refine al ?_;refine aa<|zg Uo [] [.v 70 _,.v 25 _] WV U (zv G (aL (gq 3 G) ab (aU zo)) (zV 0 G o0)) (zz (Wf 6 23 24 25) [O 2 26 _,O 3 26 _,O 4 26 _,zpH 7 139 _] λ a w U=>?_);refine aa ?_;have U:=St.sel U [0,1,2,3];exact ⟨n1-1,by omega,i+1,_,by omega,hI.done hi rfl,U⟩
 ·obtain rfl:i=x.mag.length:=by simp at hb0;omega
  refine qP<|ai<|ai<|az<|zt<|zg [η,η,some (7,_),η] [] (.adr 71 2 (.some 0) True::.v 72 _::.adr 73 3 (.some 0) True::(W6 74 [.adr 76 7 .none True,.v 77 _,.sto 2])) [] U (zO 0 G aT (zL 0 0 0 G ty_4 (zO 1 G aT (zL 2 1 0 G ty_4 (zv G (nj zk (vq 1 G) (vq 3 G)) (oc (ob_a G G cy) (zQ G (dy _ _) (.p (vq 4 G) (i6 5 G zk (lz0 3 G) ⟨hO.len.symm,qh _,by unfold maxLen;omega,hO.ok⟩ hO.len.symm)) (zS 6 G ao o0)))))))) (zz [] [O 2 26 _,O 3 26 _,O 4 26 _,zpH 7 139 _] λ a w U=>?_);refine aa<|qi<|aG ?_ (ax G U (zm 2 G) ao);rw [hO.fin];rfl
def sgI (x:RI):Int:=if x.mag.length=0 then 0 else if x.neg then -1 else 1
def cmpI (x y:RI):Int:=if sgI x≠sgI y then (if sgI x<sgI y then -1 else 1) else max (-1) (min 1 (if x.neg then -(cF x.mag y.mag) else cF x.mag y.mag))
def okRI (x:RI):Bool := !((decide ((x.mag.length:Int)>2048) || (decide ((x.mag.length:Int)>0)&&(((x.mag.getD (x.mag.length-1) 0:Nat):Int)==((0:Nat):Int)))) || (((x.mag.length:Int)==0)&&x.neg))
theorem uB {x:RI}(h:((decide ((x.mag.length:Int)>2048) || (decide ((x.mag.length:Int)>0)&&(((x.mag.getD (x.mag.length-1) 0:Nat):Int)==((0:Nat):Int)))) || (((x.mag.length:Int)==0)&&x.neg))=true):(1:Int)=(if okRI x then 0 else 1):=by unfold okRI;rw [h];rfl
theorem uA {x:RI}(h:((decide ((x.mag.length:Int)>2048) || (decide ((x.mag.length:Int)>0)&&(((x.mag.getD (x.mag.length-1) 0:Nat):Int)==((0:Nat):Int)))) || (((x.mag.length:Int)==0)&&x.neg))=false):(0:Int)=(if okRI x then 0 else 1):=by unfold okRI;rw [h];rfl
theorem cb {neg:Bool}{l:Ya}{z:Int}(ok:okL l)(hv:val l=z.natAbs)(hn:z≠0→neg=decide (z<0)):rsig neg l=riOf z:=by
 unfold rsig riOf;rw [dn ok,hv];by_cases h:z=0
 ·subst h;simp [bz]
 ·have h1:ay z.natAbs≠[]:=by rw [d3 zo];simp
  have h2:(ay z.natAbs).isEmpty=false:=by cases hh:ay z.natAbs <;> simp_all
  rw [h2,hn h];simp
theorem o7 (z:Int):okL (riOf z).mag:=(bh _).1
theorem bB (z:Int):val (riOf z).mag=z.natAbs:=aF _
theorem Dy {l m:Ya}(hl:l.length≤1099511627776)(hm:m.length≤1099511627776) : -1099511627777≤cF l m∧cF l m≤1099511627777:=by
 unfold cF;split
 ·omega
 ·split
  ·omega
  ·split <;> omega
theorem yO {x:RI}(h:((x.mag.length:Int)==0)=true):(0:Int)=sgI x:=by simp at h;simp [sgI,h]
theorem yN {x:RI}(h:((x.mag.length:Int)==0)=false)(h2:x.neg=true):(-1:Int)=sgI x:=by simp at h;simp [sgI,h,h2]
theorem yM {x:RI}(h:((x.mag.length:Int)==0)=false)(h2:x.neg=false):(1:Int)=sgI x:=by simp at h;simp [sgI,h,h2]
theorem Nv {x y:RI}(h:(sgI x != sgI y)=true)(h2:decide (sgI x<sgI y)=true):(-1:Int)=cmpI x y:=by simp at h h2;simp [cmpI,h,h2]
theorem Nu {x y:RI}(h:(sgI x != sgI y)=true)(h2:decide (sgI x<sgI y)=false):(1:Int)=cmpI x y:=by simp at h h2;simp [cmpI,h];omega
theorem Nt {x y:RI}(h:(sgI x != sgI y)=false):max (-1) (min 1 (if x.neg then -(cF x.mag y.mag) else cF x.mag y.mag))=cmpI x y:=by simp at h;simp [cmpI,h]
theorem th (x:RI):Cn Tryz.prog 130 [(RIA x).va] (In (sgI x)):=by
 refine Cn.intro Tryz.func130 G zk nq (zy [(0,(RIA x).va)] λ B w0 a U=>?_);refine qb<|zg [] Ur Us Ut U (zW 0 G (zE G ab)) (zz Uu Uv λ a w U=>?_);refine zt<|qk<|qb<|zg U3 [] (.adr 4 1 (.some 1) True::(Wb 5 [.v 3 _])) Uw U (zO 0 G aq (zL 0 0 1 G aW (zv G (aH qc (vq 1 G)) (zv G (bF (vq 2 G) ab) (zA 3 G o0))))) (zz (Wc 2 3) Uv λ a w U=>?_);refine zJ 1 U G (λ hb0=>?_) (λ hb0=>?_)
 ·refine qb<|zg U3 [] Ux WZ U (zE G ab) (zz Uu Uv λ a w U=>?_);refine aa<|qi<|aD ?_;refine aj ?_;refine aG ?_ (ak G U (zm 0 G));exact nu (yO hb0)
 ·refine qb<|zg U3 [] [.adr 9 1 (.some 0) True,.v 10 _,.v 8 _] Ue U (zO 0 G aT (zL 0 0 0 G ty_4 (zA 1 G o0))) (zz (Wc 2 8) Uv λ a w U=>?_);refine zJ 1 U G (λ hb1=>?_) (λ hb1=>?_)
  ·refine qb<|zg U3 [] Ux WZ U (zE G ab) (zz Uu Uv λ a w U=>?_);refine aa<|qi<|aD ?_;refine aj ?_;refine aG ?_ (ak G U (zm 0 G));exact nu (yN hb0 hb1)
  ·refine qj<|al ?_;refine zt<|zg U3 [] Ux WZ U (zE G ab) (zz Uu Uv λ a w U=>?_);refine zN 0 U G G ?_;exact nu (yM hb0 hb1)
theorem GX (x y:RI)(hxs:x.mag.length≤1099511627776)(hys:y.mag.length≤1099511627776):Cn Tryz.prog 131 [(RIA x).va,(RIA y).va] (In (cmpI x y)):=by
 refine Cn.intro Tryz.func131 G zk nq (zy [(0,(RIA x).va),(1,(RIA y).va)] λ B w0 a U=>?_);have hbd:=Dy hxs hys;refine qb<|zg [] Uy Uz U9 U (zW 0 G (zW 1 G (zE G ab))) (zz U0 UA λ a w U=>?_);refine zt<|qb<|zgd UB UC [] (Ww 8 (W6 5)) [.g 0,.o 4,.o 5] ac U (zl 0 G ao (zQ G (th _) (.o (vq 0 G)) (zl 1 G ao (zQ G (th _) (.o (vq 2 G)) (zA 1 G (zA 3 G o0)))))) zk zk zk zk (zz (Wa 4 5 6) UA ?_);refine ztA<|zgA UC [] (Wb 12) UD (zM 1 G (zM 2 G (zv G (c9 (vq 0 G) (vq 1 G)) o0))) (zz (Wf 4 5 6 14) UA λ a w U=>?_);refine zJ 3 U G (λ hb0=>?_) (λ hb0=>?_)
 ·refine qb<|qb<|zg UE [] (Wb 15) Ue U (zM 1 G (zM 2 G (zv G (aO (vq 0 G) (vq 1 G)) o0))) (zz (Wc 4 17) UA λ a w U=>?_);refine zJ 1 U G (λ hb1=>?_) (λ hb1=>?_)
  ·refine qb<|zg UE [] WP WZ U (zE G ab) (zz U0 UA λ a w U=>?_);refine aa<|qi<|aj ?_;refine aj ?_;refine aG ?_ (ak G U (zm 0 G));exact nu (Nv hb0 hb1)
  ·refine qj<|zt<|zg UE [] WP WZ U (zE G ab) (zz U0 UA λ a w U=>?_);refine aa<|qi<|aj ?_;refine aG ?_ (ak G U (zm 0 G));exact nu (Nu hb0 hb1)
 ·refine qj<|zt<|zg UE [] (.adr 18 2 (.some 1) True::.v 19 _::.adr 20 3 (.some 1) True::(W6 21 [.v 7 _])) [.g 0,.o 5] U (zO 0 G aq (zL 0 0 1 G aW (zO 1 G aq (zL 2 1 1 G aW (zQ G (tf _ _) (.p (vq 1 G) (vq 3 G)) (zA 4 G o0)))))) (zz (Wc 4 7) UA ?_);refine ztA<|zsA<|zgA UC [] [.adr 23 2 (.some 0) True,.v 24 _] UF (zO 0 G aT (zL 0 0 0 G ty_4 o0)) (zz (Wa 4 7 24) UA λ a w U=>?_);refine aa<|bN (λ a w =>  St B w0 30 [(7,In (if x.neg then -(cF x.mag y.mag) else cF x.mag y.mag))] [⟨2,26,ptrH,RIA x⟩,⟨3,26,ptrH,RIA y⟩] a w) U (zm 2 G) (λ hb2=>?_) (λ hb2=>?_) (λ a w U=>?_)
  ·refine zg UE [] (W6 25 [.v 7 _]) Ue U (zM 1 G (zv G (Il (vq 0 G) ((wi64 zo zo).trans (kQ _))) (zA 1 G o0))) (zz (Wc 4 7) UA λ a w U=>?_);refine aa ?_;have U:=St.sel U [1];rw [qC hb2];exact U
  ·refine qj<|aa ?_;have U:=St.sel U [1];rw [qy (by rw [hb2];decide)];exact U
  refine zt<|zg UE [] (Wb 27 [.v 4 _]) UG U (zM 0 G (zv G (Im ab (vq 0 G)) (zv G (LS ab (vq 1 G)) (zA 2 G o0)))) (zz U0 UA λ a w U=>?_);refine zN 0 U G G ?_;exact nu (Nt hb0)
theorem sK (x:RI):Cn Tryz.prog 129 [(RIA x).va] (In (if okRI x then 0 else 1)):=by
 refine Cn.intro Tryz.func129 G zk nq (zy [(0,(RIA x).va)] λ B w0 a U=>?_);have hk:=(iN (U.vals _ (zm 0 rfl))).2;refine qb<|zg [] Ur Us Ut U (zW 0 G (zE G ab)) (zz Uu Uv λ a w U=>?_);refine zt<|qb<|gl (sts:=[none]) (news:=[]) (sp:=((.adr 3 1 (.some 1) True:Sp)::(.v 4 _)::(.v 5 _)::(.v 6 _)::(.v 7 _)::(.adr 8 1 (.some 1) (_=false))::(.f 9 _)::(.f 10 _)::(.f 11 _)::(.f 12 _)::(.adr 13 1 (.some 1) ((_=false)∧_=true))::(.v 14 (Wh ((_=false)∧_=true) _))::(.adr 15 1 (.some 1) ((_=false)∧_=true))::(.v 16 (Wh ((_=false)∧_=true) _))::(.v 17 (Wh ((_=false)∧_=true) _))::(.v 18 (Wh ((_=false)∧_=true) _))::(.v 19 (Wh ((_=false)∧_=true) _))::(.v 20 (Wh ((_=false)∧_=true) _))::(.v 21 (Wh ((_=false)∧_=true) _))::(.f 22 _)::(.v 23 _)::(.v 24 _)::(.adr 25 1 (.some 1) (_=false))::(.f 26 _)::(.f 27 _)::(.f 28 _)::(.f 29 _)::(.adr 30 1 (.some 0) ((_=false)∧_=true))::(.v 31 (Wh ((_=false)∧_=true) _))::(.f 32 _)::(.v 33 _)::[])) [.g 0,.o 30] U (zO 0 G aq (zL 0 0 1 G aW (zv G (aH qc (vq 1 G)) (zv G (cD (vq 2 G) ab) (zV 3 G (zC 4 0 G aq (zB 4 G (λ hg=>aC 5 G zk hg (lz0 0 G) (Sub.part 1 G G) aW) (zB 4 G (λ hg=>aH qc (ae (vq 6 G) hg)) (zB 4 G (λ hg=>cD (ae (vq 7 G) hg) ab) (zB 4 G (λ hg=>aA (ae (vq 8 G) hg)) (oc (gp G G G (vq 9 G) nq (λ hg=>gi (lz0 0 G) aq)) (oc (bO G G G (vq 9 G) nq (λ hg=>aC 10 G zk hg (lz0 0 G) (Sub.part 1 G G) aW)) (oc (gp G G G (vq 9 G) nq (λ hg=>gi (lz0 0 G) aq)) (oc (bO G G G (vq 9 G) nq (λ hg=>aC 12 G zk hg (lz0 0 G) (Sub.part 1 G G) aW)) (oc (bO G G G (vq 9 G) nq (λ hg=>aH qc (ae (vq 13 G) hg))) (oc (bO G G G (vq 9 G) nq (λ hg=>ce (ae (vq 14 G) hg) ab (Ht (by have h:=hg.2;simp at h;omega) hk))) (oc (bO G G G (vq 9 G) nq (λ hg=>nV aZ (ae (vq 11 G) hg) (ae (vq 15 G) hg) (by have h:=hg.2;simp at h;omega))) (oc (bO G G G (vq 9 G) nq (λ hg=>ap (ae (vq 16 G) hg) aN)) (oc (bO G G G (vq 9 G) nq (λ hg=>bF (ae (vq 17 G) hg) (aE 0 G))) (zB 4 G (λ hg=>bE (ae (vq 9 G) hg) (fx (vq 18 G) hg)) (zv G (r_or (vq 4 G) (vq 19 G)) (zV 20 G (zC 21 0 G aq (zB 21 G (λ hg=>aC 22 G zk hg (lz0 0 G) (Sub.part 1 G G) aW) (zB 21 G (λ hg=>aH qc (ae (vq 23 G) hg)) (zB 21 G (λ hg=>bF (ae (vq 24 G) hg) ab) (zB 21 G (λ hg=>aA (ae (vq 25 G) hg)) (oc (gp G G G (vq 26 G) nq (λ hg=>gi (lz0 0 G) aT)) (oc (bO G G G (vq 26 G) nq (λ hg=>aC 27 G zk hg (lz0 0 G) (Sub.part 0 G G) ty_4)) (zB 21 G (λ hg=>bE (ae (vq 26 G) hg) (fx (vq 28 G) hg)) (zv G (r_or (vq 21 G) (vq 29 G)) o0))))))))))))))))))))))))))))))) (zz (Wc 2 33) Uv λ a w U=>?_);refine zJ 1 U G (λ hb0=>?_) (λ hb0=>?_)
 ·refine qb<|zg U3 [] Ux WZ U (zE G ab) (zz Uu Uv λ a w U=>?_);refine aa<|qi<|aj ?_;refine aG ?_ (ak G U (zm 0 G));exact nu (uB hb0)
 ·refine qj<|zt<|zg U3 [] Ux WZ U (zE G ab) (zz Uu Uv λ a w U=>?_);refine zN 0 U G G ?_;exact nu (uA hb0)
theorem Mk {n:Int}(h0 : -9223372036854775808≤n)(h:decide (n<0)=true):IntKind.u64.wrap (0-IntKind.u64.wrap n)=(n.natAbs:Nat):=by
 simp at h;simp [IntKind.wrap,IntKind.bits,IntKind.signed];omega
theorem Mj {n:Int}(h1:n<9223372036854775808)(h:decide (n<0)=false):IntKind.u64.wrap n=(n.natAbs:Nat):=by
 simp at h;simp [IntKind.wrap,IntKind.bits,IntKind.signed];omega
theorem IT {n:Int}(h0 : -9223372036854775808≤n)(h1:n<9223372036854775808):okL [n.natAbs%4294967296,n.natAbs/4294967296]:=by
 intro x hx;simp at hx;rcases hx with rfl|rfl <;> omega
theorem Mi {n:Int}(h0 : -9223372036854775808≤n)(h1:n<9223372036854775808):(RIA (rsig (decide (n<0)) [n.natAbs%4294967296,n.natAbs/4294967296])).va=Zi n:=by
 rw [cb (IT h0 h1) (z:=n) (by simp [val];omega) (λ _=>rfl)]
theorem of_c (n:Int)(h0 : -9223372036854775808≤n)(h1:n<9223372036854775808):Cn Tryz.prog 117 [In n] (Zi n):=by
 refine Cn.intro Tryz.func117 G zk nq (zy [(0,In n)] λ B w0 a U=>?_);refine qb<|zg [] [zpL 2 26 0 _] Ub UH U (zY G (Str.zero br) o0) (zz UI UJ ?_);refine ztA<|zgA U1 [] (W6 4 [.v 3 _]) Ue (zM 0 G (zv G (aI .u64 zk zk (vq 0 G) (G)) (zA 1 G o0))) (zz UK UJ ?_);refine ztA<|zsA<|zgA U1 [] (W6 6) UF (zM 0 G (zv G (aO (vq 0 G) ab) o0)) (zz (Wa 0 3 7) UJ λ a w U=>?_);refine aa<|bN (λ a w =>  St B w0 19 [(0,In n),(3,(NumA .u64 (n.natAbs:Nat)).va)] [⟨2,26,ptrH,cat [BoA false,MgA []]⟩] a w) U (zm 2 G) (λ hb0=>?_) (λ hb0=>?_) (λ a w U=>?_)
 ·refine zg U3 [] (W6 8 [.v 3 _]) Ue U (zM 1 G (zv G (Il (vq 0 G) (G)) (zA 1 G o0))) (zz UK UJ λ a w U=>?_);refine aa ?_;have U:=St.sel U [0,1];rw [Mk h0 hb0] at U;exact U
 ·refine qj<|aa ?_;have U:=St.sel U [0,1];rw [Mj h1 hb0] at U;exact U
 refine zt<|zg [some (9,_)] [] (Wo 10 [.sto 0]) [] U (zM 0 G (zv G (aO (vq 0 G) ab) (zM 1 G (zv G (aI .u32 zk zk (vq 2 G) (wu32')) (zM 1 G (zv G (lk (vq 4 G) (aE 32 G) zd (nshr)) (zv G (aI .u32 zk zk (vq 5 G) (wu32 (by show n.natAbs/4294967296<_;omega))) (zv G (dq (l:=[_,_]) (xs:=[.tmp 13,.tmp 16]) aZ zk nq nq (IT h0 h1) (.p (vq 3 G) (vq 6 G)) G G) (zQ G (gQ _ _) (.p (vq 1 G) (vq 7 G)) (zS 8 G ao o0)))))))))) (zz [] UJ λ a w U=>?_);refine aa<|qi<|aG ?_ (ax G U (zm 0 G) ao);exact Mi h0 h1
theorem cp {m n:Nat}(h:m≤n):(ay m).length≤(ay n).length:=ec (za h (ci (qh _)))
theorem dO {m n:Nat}:(0≤cF (ay m) (ay n)↔n≤m)∧(0<cF (ay m) (ay n)↔n<m):=by
 unfold cF;rw [aF,aF];by_cases h:(ay m).length=(ay n).length
 ·rw [qy zo];split
  ·omega
  ·split <;> omega
 ·rw [qC zo];by_cases h2:m≤n
  ·have:=cp h2;have:m≠n:=λ e=>h (by rw [e]);omega
  ·have:=cp (xa (jc h2));omega
theorem yh {a b:Nat}:val (digs (max (ay a).length (ay b).length+1) (a+b))=a+b:=by
 rw [dH,zD];have h1:=ci (n:=a) (k:=max (ay a).length (ay b).length) (ji _ _);have h2:=ci (n:=b) (k:=max (ay a).length (ay b).length) (jd _ _);rw [ze];omega
theorem IC {a b:Int}(h:((riOf a).neg==(riOf b).neg)=true):(RIA (rsig (riOf a).neg (digs (max (riOf a).mag.length (riOf b).mag.length+1) (val (riOf a).mag+val (riOf b).mag)))).va=Zi (a+b):=by
 have h':decide (a<0)=decide (b<0):=by simpa [riOf] using h
 rw [bB,bB,cb (bV _ _) (z:=a+b) (by show val (digs (max (ay a.natAbs).length (ay b.natAbs).length+1) _)=_;rw [yh];simp only [q9] at h';omega) (λ hz=>by show decide (a<0)=_;simp only [q9] at h' ⊢;omega)]
theorem AI {a b:Int}(h:((riOf a).neg==(riOf b).neg)=false)(h2:b.natAbs≤a.natAbs):(RIA (rsig (riOf a).neg (ay (val (riOf a).mag-val (riOf b).mag)))).va=Zi (a+b):=by
 have h':¬ decide (a<0)=decide (b<0):=by simpa [riOf] using h
 rw [bB,bB,cb (bh _).1 (z:=a+b) (by rw [aF];simp only [q9] at h';omega) (λ hz=>by show decide (a<0)=_;simp only [q9] at h' ⊢;omega)]
theorem AH {a b:Int}(h:((riOf a).neg==(riOf b).neg)=false)(h2:a.natAbs≤b.natAbs):(RIA (rsig (riOf b).neg (ay (val (riOf b).mag-val (riOf a).mag)))).va=Zi (a+b):=by
 have h':¬ decide (a<0)=decide (b<0):=by simpa [riOf] using h
 rw [bB,bB,cb (bh _).1 (z:=a+b) (by rw [aF];simp only [q9] at h';omega) (λ hz=>by show decide (b<0)=_;simp only [q9] at h' ⊢;omega)]
theorem iS {a b:Int}(h:decide (cF (riOf a).mag (riOf b).mag≥0)=true):b.natAbs≤a.natAbs:=(dO (m:=a.natAbs) (n:=b.natAbs)).1.1 (by simpa [riOf] using h)
theorem iR {a b:Int}(h:decide (cF (riOf a).mag (riOf b).mag≥0)=false):a.natAbs≤b.natAbs:=by
 have:=(dO (m:=a.natAbs) (n:=b.natAbs)).1;have h':¬ 0≤cF (ay a.natAbs) (ay b.natAbs):=by simpa [riOf] using h
 omega
theorem Jd {b:Int}:(cat (l3 [BoA false,MgA []] [(0,BoA (!(riOf b).neg&&decide (((riOf b).mag.length:Int)>0))),(1,MgA (riOf b).mag)])).va=Zi (-b):=by
 have e:(!(riOf b).neg&&decide (((riOf b).mag.length:Int)>0))=(riOf (-b)).neg:=by
  by_cases h:b=0
  ·subst h;simp [riOf,bz]
  ·have:0<(ay b.natAbs).length:=by rw [d3 zo];simp
   simp [riOf,this];by_cases h2:b<0 <;> simp [h2] <;> omega
 rw [e];have e2:(riOf b).mag=(riOf (-b)).mag:=by simp [riOf]
 rw [e2]
 rfl
theorem lf (b:Int):lz (-b)=lz b:=by simp [lz]
theorem Gk (p q:Int)(hp:lz p≤1099511627776)(hq:lz q≤1099511627776):Cn Tryz.prog 118 [Zi p,Zi q] (Zi (p+q)):=by
 refine Cn.intro Tryz.func118 G zk nq (zy [(0,Zi p),(1,Zi q)] λ B w0 a U=>?_);refine qb<|zg [] Ui Uj [] U (zW 0 G (zW 1 G (zY G (Str.zero br) o0))) (zz [] Uk ?_);refine ztA<|zsA<|zgA Ul [] (.adr 5 2 (.some 0) True::.v 6 _::.adr 7 3 (.some 0) True::(W6 8)) UL (zO 0 G aT (zL 0 0 0 G ty_4 (zO 1 G aT (zL 2 1 0 G ty_4 (zv G (Am zk (vq 1 G) (vq 3 G)) o0))))) (zz [(9,_)] Uk λ a w U=>?_);refine zJ 0 U G (λ hb0=>?_) (λ hb0=>?_)
 ·refine qb<|zgd UM UN [] (.adr 10 2 (.some 0) True::.v 11 _::.adr 12 2 (.some 1) True::.v 13 _::.adr 14 3 (.some 1) True::(Wb 15 [.sto 2])) [] ac U (zO 0 G aT (zL 0 0 0 G ty_4 (zO 0 G aq (zL 2 0 1 G aW (zO 1 G aq (zL 4 1 1 G aW (zQ G ((O9 _ _ hp hq).free (ib _).va) (.p (vq 3 G) (vq 5 G)) (zQ G (gQ _ _) (.p (vq 1 G) (vq 6 G)) (zS 7 G ao o0))))))))) zk zk zk zk (zz [] Uk λ a w U=>?_);refine aa<|qi<|aj ?_;refine aG ?_ (ax G U (zm 2 G) ao);exact IC hb0
 ·refine qj<|zt<|qb<|zg UO [] (.adr 18 2 (.some 1) True::.v 19 _::.adr 20 3 (.some 1) True::(Wb 21)) [.o 5] U (zO 0 G aq (zL 0 0 1 G aW (zO 1 G aq (zL 2 1 1 G aW (zQ G (tf _ _) (.p (vq 1 G) (vq 3 G)) (zv G (dD (vq 4 G) ab) o0)))))) (zz [(23,_)] Uk λ a w U=>?_);refine zJ 0 U G (λ hb1=>?_) (λ hb1=>?_)
  ·refine qb<|zgd UM UN [] (.adr 24 2 (.some 0) True::.v 25 _::.adr 26 2 (.some 1) True::.v 27 _::.adr 28 3 (.some 1) True::(Wb 29 [.sto 2])) [] ac U (zO 0 G aT (zL 0 0 0 G ty_4 (zO 0 G aq (zL 2 0 1 G aW (zO 1 G aq (zL 4 1 1 G aW (zQ G ((Di _ _ hp (cp (iS hb1)) (by show val (ay _)≤val (ay _);rw [aF,aF];exact iS hb1)).free (ib _).va) (.p (vq 3 G) (vq 5 G)) (zQ G (gQ _ _) (.p (vq 1 G) (vq 6 G)) (zS 7 G ao o0))))))))) zk zk zk zk (zz [] Uk λ a w U=>?_);refine aa<|qi<|aj ?_;refine aG ?_ (ax G U (zm 2 G) ao);exact AI hb0 (iS hb1)
  ·refine qj<|zt<|zgd UM UN [] (.adr 32 3 (.some 0) True::.v 33 _::.adr 34 3 (.some 1) True::.v 35 _::.adr 36 2 (.some 1) True::(Wb 37 [.sto 2])) [] ac U (zO 1 G aT (zL 0 1 0 G ty_4 (zO 1 G aq (zL 2 1 1 G aW (zO 0 G aq (zL 4 0 1 G aW (zQ G ((Di _ _ hq (cp (iR hb1)) (by show val (ay _)≤val (ay _);rw [aF,aF];exact iR hb1)).free (ib _).va) (.p (vq 3 G) (vq 5 G)) (zQ G (gQ _ _) (.p (vq 1 G) (vq 6 G)) (zS 7 G ao o0))))))))) zk zk zk zk (zz [] Uk λ a w U=>?_);refine aa<|qi<|aG ?_ (ax G U (zm 2 G) ao);exact AH hb0 (iR hb1)
theorem Bd (p q:Int)(hp:lz p≤1099511627776)(hq:lz q≤1099511627776):Cn Tryz.prog 182 [Zi p,Zi q] (Zi (p-q)):=by
 refine Cn.intro Tryz.func182 G zk nq (zy [(0,Zi p),(1,Zi q)] λ B w0 a U=>?_);refine qb<|zg [] Ui Uj [] U (zW 0 G (zW 1 G (zY G (Str.zero br) o0))) (zz [] Uk ?_);refine ztA<|zgA [none,none,some (14,_)] [] (.v 5 _::.adr 6 3 (.some 0) True::(Wb 7 (.adr 10 3 (.some 1) (_=true)::.t 11 _::.t 12 _::.t 13 _::.v 14 _::.adr 15 3 (.some 1) True::(Wb 16 [.sto 2])))) [] (zl 0 G ao (zO 1 G aT (zL 1 1 0 G ty_4 (zv G (er (vq 2 G)) (zV 3 G (zC 4 1 G aq (zB 4 G (λ hg=>aC 5 G zk hg (lz0 1 G) (Sub.part 1 G G) aW) (zB 4 G (λ hg=>aH qc (ae (vq 6 G) hg)) (zB 4 G (λ hg=>cD (ae (vq 7 G) hg) ab) (zv G (bE (vq 4 G) (vq 8 G)) (zO 1 G aq (zL 10 1 1 G aW (zv G (aS (qs:=[(0,_),(1,_)]) br (.cons ⟨rfl,vq 9 rfl,rfl⟩ (.cons ⟨rfl,vq 11 rfl,rfl⟩ .nil))) (zQ G ((Gk p (-q) hp (by rw [lf];exact hq)).pre (qt (λ A=>[Zi p,A]) Jd)) (.p (vq 0 G) (vq 12 G)) (zS 13 G ao o0))))))))))))))) (zz [] Uk λ a w U=>?_);refine aa<|qi<|aG ?_ (ax G U (zm 2 G) ao);exact qt Zi Int.sub_eq_add_neg.symm
theorem yv (p:Int)(hp:lz p≤1099511627776):Cn Tryz.prog 181 [Zi p] (Zi (-p)):=by
 refine Cn.intro Tryz.func181 G zk nq (zy [(0,Zi p)] λ B w0 a U=>?_);refine qb<|zg [] UP UQ [] U (zW 0 G (zY G (Str.zero br) o0)) (zz [] UR λ a w U=>?_);refine zt<|zgd US UT [] (Wb 3 [.sto 1]) [] ac U (zQ G (of_c 0 zd zd) (.cons ab .nil) (zl 0 G ao (zQ G (Bd 0 p (by simp [lz,bz]) hp) (.p (vq 0 G) (vq 1 G)) (zS 2 G ao o0)))) zk zk zk zk (zz [] UR λ a w U=>?_);refine aa<|qi<|aG ?_ (ax G U (zm 1 G) ao);exact qt Zi (kQ p)
def shSt (l ext:List Nat)(d i:Nat):List Nat:=l.take i++digs (l.length-i) (val (l.drop i)/d)++ext
theorem Dz (l ext:Ya)(d:Nat):shSt l ext d l.length=l++ext:=by simp [shSt,digs]
theorem DB (l ext:Ya)(d:Nat):shSt l ext d 0=digs l.length (val l/d)++ext:=by simp [shSt]
theorem DA {l ext:Ya}{d i:Nat}(h:i≤l.length):(shSt l ext d i).length=l.length+ext.length:=by simp [shSt,ar];omega
theorem ti {l ext:Ya}{d i:Nat}(h:i<l.length)(h2:i<(shSt l ext d (i+1)).length):(shSt l ext d (i+1))[i]=l[i]:=by
 simp only [shSt,qY];rw [List.getElem_append_left (by simp;omega),wa]
theorem Lv (V x d:Nat):x+4294967296*V=d*(4294967296*(V/d))+(V%d*4294967296+x):=by
 have h:=xP V d;have e:4294967296*V=4294967296*(d*(V/d)+V%d):=by rw [h]
 rw [xf,← zb,qW 4294967296 d,zb] at e;omega
theorem Lw {V x d:Nat}(hd:0<d):(x+4294967296*V)/d=4294967296*(V/d)+(V%d*4294967296+x)/d:=by rw [Lv,wq hd]
theorem Lu {V x d:Nat}:(x+4294967296*V)%d=(V%d*4294967296+x)%d:=by rw [Lv,wo]
theorem ul {l:Ya}{i:Nat}(h:i<l.length):val (l.drop i)=l[i]+4294967296*val (l.drop (i+1)):=by rw [qG h];rfl
theorem rp (n q V:Nat)(hq:q<4294967296):digs (n+1) (4294967296*V+q)=q::digs n V:=by
 show (4294967296*V+q)%4294967296::digs n ((4294967296*V+q)/4294967296)=_;rw [show (4294967296*V+q)%4294967296=q from by omega,show (4294967296*V+q)/4294967296=V from by omega]
theorem yP {l ext:Ya}{d i:Nat}(h:i<l.length)(hl:okL l)(hd:0<d):(shSt l ext d (i+1)).set i ((val (l.drop (i+1))%d*4294967296+l[i])/d)=shSt l ext d i:=by
 have hq:=sz (h:=val (l.drop (i+1))%d) (l:=l[i]) (d:=d) (qU _ hd) (hl _ (qg h));unfold shSt;rw [ul h,Lw hd,show l.length-i=(l.length-(i+1))+1 from by omega,rp _ _ _ hq,qA h,qY,qY,qY,eH _ _ _ _ (by simp;omega)];simp
theorem I7 (l ext:Ya)(c d:Nat)(hl:okL l)(hls:l.length≤1099511627776)(hd0:0<d)(hd:d<4294967296):Cm Tryz.prog 235 139 (Nums .u32 (l++ext)) (Nums .u32 (digs l.length (val l/d)++ext)) [.w (slH l.length c),.v ((NumA .u32 (d:Nat)).va)] ((NumA .u32 (val l%d:Nat)).va):=by
 refine Cm.intro Tryz.func235 G zk nq (λ B g w0 a U=>?_);have U:=zn [(0,EqV ((slH l.length c).f g)),(1,(NumA .u32 (d:Nat)).va)] [⟨0,139,slH l.length c,Nums .u32 (l++ext)⟩] U;refine qb<|zg U3 [] WP WQ U (zv G (bc (aE 0 G)) o0) (zz WR [zpH 0 139 _] ?_);refine ztA<|zgA U1 [] UU WX (zv G (bc (aE 0 G)) o0) (zz WU [zpH 0 139 _] ?_);refine ztA<|zsA<|zgA U1 [] (.adr 7 0 .none True::(W6 8 [.v 6 _])) (Wp [.o 3]) (oc (ob_a G G cy) (zv G (Ge 0 G zk (lz0 0 G) qc) (zv G (ce (vq 1 G) ab (wi64 zo zo)) (zA 2 G o0)))) (zz UV [zpH 0 139 _] λ a w U=>?_);refine aa<|qk ?_;have U:=St.sel U [0,1,3,4];refine wp_loop_ghost (λ n a w=>n≤l.length∧St B w0 28 [(0,EqV ((slH l.length c).f g)),(1,(NumA .u32 (d:Nat)).va),(5,(NumA .u32 (val (l.drop n)%d:Nat)).va),(6,In ((n:Int)-1))] [⟨0,139,slH l.length c,Nums .u32 (shSt l ext d n)⟩] a w) (l.length) ?_ ?_
 ·exact ⟨qh _,by rw [Dz,xz,show val []%d=0 from by simp [val]];exact U⟩
 intro n a w hI;obtain ⟨hn,U⟩:=hI;have hlen:=DA (ext:=ext) (d:=d) hn;refine qb<|qb<|zg U3 [] (W6 10) UW U (zM 3 G (zv G (dD (vq 0 G) ab) o0)) (zz (W8 0 1 5 6 11) [zpH 0 139 _] λ a w U=>?_);refine zJ 4 U G (λ hb0=>?_) (λ hb0=>?_)
 ·obtain ⟨j,rfl⟩:∃ j,n=j+1:=⟨n-1,by simp at hb0;omega⟩;rw [show ((j+1:Nat):Int)-1=(j:Int) from by omega] at U;refine qj<|zt<|qk<|zg U5 [] (.adr 15 0 .none True::(W6 16 (.adr 18 0 .none True::.v 19 _::.adr 20 0 (.some _) True::(Wb 21 (.v 14 _::(W6 24 [.adr 26 0 (.some _) True,.sto 0,.v 5 _])))))) (We [.g 3,.o 14]) U (oc (ob_a G G cy) (zM 3 G (zM 2 G (oc (ob_a G G cy) (zM 3 G (oc (ob_a G G (dM 3 G zk (lz0 0 G) aZ (vq 4 G) zo)) (zv G (me 5 G zk (lz0 0 G) (λ _=>bX _ _ _ _) (iU zo) aN) (zM 1 G (zQ G (Kn (qU _ hd0) (by rw [ti zo zo];exact hl _ (qg _)) hd) (.cons (vq 2 G) (.p (vq 6 G) (vq 7 G))) (zV 8 G (zv G (aP (vq 9 G) G) (zv G (aP (vq 9 G) G) (oc (ob_a G G (dM 0 G zk (lz0 0 G) aZ (vq 1 G) zo)) (oc (co 12 G G G G zk (λ _=>bX _ _ _ _) (vq 10 G) aN (bx zo)) (zA 11 G o0))))))))))))))) (zz (Wf 0 1 6 5) [zpH 0 139 _] λ a w U=>?_);refine al ?_;refine aa<|zg U3 [] (W6 12 [.v 6 _]) UX U (zM 2 G (zv G (ce (vq 0 G) ab (wi64 zo zo)) (zA 1 G o0))) (zz (Wf 0 1 5 6) [zpH 0 139 _] λ a w U=>?_);refine aa ?_;have U:=St.sel U [0,1,2,3];rw [ti zo zo,yP zo hl hd0,← Lu,← ul zo] at U;exact ⟨j,by omega,by omega,U⟩
 ·obtain rfl:n=0:=(by simp at hb0;omega);rw [DB] at U;refine qP<|ai<|ai<|az<|zt<|zg U3 [] [.v 27 _,.v 4 _] UY U (zM 2 G (zA 0 G o0)) (zz (Wc 0 4) [zpH 0 139 _] λ a w U=>?_);refine aa<|qi<|gg U (zm 0 G) (zm 0 G) ?_;exact ak G U (zm 1 G)
theorem wshl {u s:Nat}:IntKind.u32.wrap ((u:Int)*2^((s:Int).toNat))=((u*2^s%4294967296:Nat):Int):=by
 rw [xi,show (u:Int)*2^s=((u*2^s:Nat):Int) from by simp];exact wu32'
theorem G5 {u s:Nat}(hu:u<4294967296)(hs:s<32):u*2^s<18446744073709551616:=by
 have h1:2^s≤2^31:=zX zd zo;have h2:u*2^s≤4294967295*2^31:=xR zo h1;omega
theorem KW {u s:Nat}(hu:u<4294967296)(hs:s<32):IntKind.u64.wrap ((u:Int)*2^((s:Int).toNat))=((u*2^s:Nat):Int):=by
 rw [xi,show (u:Int)*2^s=((u*2^s:Nat):Int) from by simp];exact wu64 (G5 hu hs)
theorem yj {u s:Nat}(hs:s<32):u*2^s%4294967296=2^s*(u%2^(32-s)):=by
 rw [show (4294967296:Nat)=2^s*2^(32-s) from by rw [← xe,show s+(32-s)=32 from by omega],qW u,Nat.mul_mod_mul_left]
theorem Oh {u s c:Nat}(hs:s<32)(hc:c<2^s):u*2^s%4294967296 ||| c=(c+u*2^s)%4294967296:=by
 rw [yj hs,← Nat.two_pow_add_eq_or_of_lt hc];have h1:u%2^(32-s)<2^(32-s):=qU _ (zG zd);have h2:2^s*(u%2^(32-s)+1)≤2^s*2^(32-s):=zP _ h1;rw [← xe,show s+(32-s)=32 from by omega,xf,zH] at h2;have h3:=yj (u:=u) hs;have h4:=xP (u*2^s) 4294967296;omega
theorem L8 {u s c:Nat}(hs:s<32)(hc:c<2^s):u*2^s/4294967296=(c+u*2^s)/4294967296:=by
 have h1:u%2^(32-s)<2^(32-s):=qU _ (zG zd);have h2:2^s*(u%2^(32-s)+1)≤2^s*2^(32-s):=zP _ h1;rw [← xe,show s+(32-s)=32 from by omega,xf,zH] at h2;have h3:=yj (u:=u) hs;have h4:=xP (u*2^s) 4294967296;omega
def upSt (l:List Nat)(s i:Nat):List Nat:=digs i (val (l.take i)*2^s)++List.replicate (l.length+1-i) 0
theorem t8 {l:Ya}{s i:Nat}(h:i≤l.length):(upSt l s i).length=l.length+1:=by simp [upSt,ar];omega
theorem yk (l:Ya)(s:Nat):upSt l s 0=List.replicate (l.length+1) 0:=by simp [upSt,digs]
theorem FV {l:Ya}{s i:Nat}(h:i<l.length):val (l.take (i+1))*2^s=val (l.take i)*2^s+4294967296^i*(l[i]*2^s):=by rw [bC h,xS,zb]
theorem L9 {l:Ya}(hl:okL l)(s i:Nat):val (l.take i)*2^s/4294967296^i<2^s:=by
 apply z4;exact x4 (cJ hl i) (zG zd)
theorem yn {l:Ya}{s i:Nat}(h:i<l.length):(upSt l s i).set i ((val (l.take i)*2^s/4294967296^i+l[i]*2^s)%4294967296)=upSt l s (i+1):=by
 unfold upSt;rw [eH _ _ _ _ (ar _ _),m8 _ _ zo,FV h,dU];simp only [qY,xX]
 congr 3
theorem D5 {l:Ya}{s i:Nat}(h:i<l.length):(val (l.take i)*2^s/4294967296^i+l[i]*2^s)/4294967296=val (l.take (i+1))*2^s/4294967296^(i+1):=by rw [FV h,carry_step']
theorem D6 {l:Ya}(hl:okL l){s:Nat}(hs:s<32):(upSt l s l.length).set l.length (val (l.take l.length)*2^s/4294967296^l.length)=digs (l.length+1) (val l*2^s):=by
 have h:=L9 hl s l.length;have h1:2^s≤2^31:=zX zd zo;unfold upSt;rw [eH _ _ _ _ (ar _ _),m8 _ _ zo,iu,qJ] at *;rw [zD zo];simp
theorem up_c (l:Ya)(s:Nat)(hls:l.length≤1099511627776)(hs:s<32):Cr Tryz.prog 251 139 (slH (l.length+1) (l.length+1)) (Nums .u32 (digs (l.length+1) (val l*2^s))) [(MgA l).va,(NumA .u64 (s:Nat)).va]:=by
 refine Cr.introW Tryz.func251 G zk nq (.cons (lP _).va (.cons (mX _ _).va .nil)) (λ _ _ _ _ h=>h) (λ B w0 a hB0 U=>?_);have U:=zn [(0,(MgO l).va),(1,(NumA .u64 (s:Nat)).va)] [] U;have hl:=(U.magO 0 rfl).1;refine qb<|zh WP WQ U (zE G b9) (zz WR [] λ a w U=>?_);refine zt<|di (sts:=[]) (news:=[⟨12,139,slH _ _,some 3,_,none⟩]) (sp:=[.v 9 _,.v 10 _,.v 11 _,.alc 0,.adr 5 12 .none True]) [.g 0,.g 1,.g 2] [(5,12)] [zpH 5 139 _] U (zM 0 G (zv G (aH qc (aB (vq 0 G))) (zv G (aL (vq 1 G) ab (aU zo)) (oc (et G G G fp (vq 2 G) (vq 2 G) zo) (oc (ob_a G G mO) o0))))) zk zk zk ⟨⟨4,rfl⟩,trivial⟩ G zk (zz WR [zpH 5 139 _] ?_);refine ztA<|zgA U1 [] U2 WX (zv G (bc (aE 0 G)) o0) (zz (Wf 0 1 4 6) [zpH 5 139 _] ?_);refine ztA<|zsA<|zgA U1 [] (Wb 13) (Wp [.o 0,.o 1,.o 2]) (zM 0 G (zv G (aH qc (aB (vq 0 G))) (zv G (aA ab) o0))) (zz (Wu 0 1 4 6 13 14 15) [zpH 5 139 _] λ a w U=>?_);refine aa<|qk ?_;have U:=St.sel U [0,1,3,4,5,6];refine wp_loop_ghost (λ n a w=>∃ i:Nat,n+i=l.length∧St B w0 41 [(0,(MgO l).va),(1,(NumA .u64 (s:Nat)).va),(6,(NumA .u32 (val (l.take i)*2^s/4294967296^i:Nat)).va),(13,(MgO l).va),(14,In (l.length:Nat)),(15,In (i:Nat))] [⟨5,139,slH (l.length+1) (l.length+1),Nums .u32 (upSt l s i)⟩] a w) (l.length) ?_ ?_
 ·exact ⟨0,by omega,by rw [yk,show val (l.take 0)*2^s/4294967296^0=0 from by simp];exact U⟩
 intro n a w hI;obtain ⟨i,hn,U⟩:=hI;have hc:=L9 hl s i;have h31:2^s≤2^31:=zX zd zo;refine qb<|zg U3 [] [.v 16 _] (Wq [.o 0]) U (zv G (aO (gq 5 G) (gq 4 G)) o0) (zz (Wu 0 1 6 13 14 15 16) [zpH 5 139 _] λ a w U=>?_);refine zt<|c7 U (zm 6 G) (λ hb0=>?_) (λ hb0=>?_)
 ·have hi:i<l.length:=by simp at hb0;omega
  refine qj<|zt<|qk<|qb<|zg U3 [] (Wb 17 (W6 7)) (Wq [.o 3,.o 4]) U (zM 5 G (zv G (bL aZ (aB (gq 3 G)) (gq 5 G) zo) (zv G (ap (vq 1 G) aN) (zA 0 G (zA 2 G o0))))) (zz (Wy 0 1 6 13 14 15 7 8) [zpH 5 139 _] ?_);refine ztA<|zgA [some (8,_)] [] (.adr 20 5 .none True::(Wl 21 [.adr 27 5 (.some _) True,.sto 0])) (Wq [.g 7]) (oc (ob_a G G cy) (zM 6 G (zM 7 G (zM 1 G (zv G (uT (vq 2 G) (vq 3 G) (⟨by omega,by show (s:Int)≤32;omega⟩) (wshl)) (zM 2 G (zv G (uV (vq 4 G) (vq 5 G) ((NY (qU _ zd) zo).trans (qt _ (Oh hs hc)))) (oc (ob_a G G (dM 0 G zk (lz0 0 G) aZ (vq 1 G) zo)) (oc (co 7 G G G G zk (λ _=>bX _ _ _ _) (vq 6 G) aN (bx (by rw [t8 zo];omega))) o0))))))))) (zz (Wu 0 1 6 13 14 15 8) [zpH 5 139 _] ?_);refine znA<|zgA U1 [] (Wl 28 [.v 6 _]) (We [.g 3,.g 4,.g 5,.o 6]) (zM 6 G (zv G (aI .u64 zk zk (vq 0 G) (wu64 (zw (hl _ (qg _)) zd))) (zM 1 G (zv G (uT (vq 1 G) (vq 2 G) (⟨by omega,by show (s:Int)≤64;omega⟩) (KW (hl _ (qg _)) hs)) (zv G (lk (vq 3 G) (aE 32 G) zd (nshr)) (zv G (aI .u32 zk zk (vq 4 G) ((wu32 (z4 (G5 (hl _ (qg _)) hs))).trans (qt _ (L8 hs hc)))) (zA 5 G o0))))))) (zz (Wj 0 1 13 14 15 6) [zpH 5 139 _] λ a w U=>?_);refine al ?_;refine aa<|zg U3 [] [.v 34 _,.v 15 _] (Wp [.g 5,.o 1]) U (zv G (aL (gq 4 G) ab (aU zo)) (zV 0 G o0)) (zz (Wj 0 1 13 14 6 15) [zpH 5 139 _] λ a w U=>?_);refine aa ?_;have U:=St.sel U [0,1,4,2,3,5];rw [yn hi,D5 hi] at U;exact ⟨n-1,by omega,i+1,by omega,U⟩
 ·obtain rfl:i=l.length:=by simp at hb0;omega
  refine qP<|ai<|ai<|az<|zt<|zg U8 [] (.adr 35 5 .none True::(Wb 36 [.adr 39 5 (.some _) True,.sto 0])) [] U (oc (ob_a G G cy) (zM 0 G (zv G (aH qc (aB (vq 1 G))) (zM 2 G (oc (ob_a G G (dM 0 G zk (lz0 0 G) aZ (vq 2 G) zo)) (oc (co 4 G G G G zk (λ _=>bX _ _ _ _) (vq 3 G) aN (bx (by rw [t8 zo];omega))) o0)))))) (zz [] [zpH 5 139 _] λ a w U=>?_);refine zt<|di (sts:=[none]) (news:=[]) (sp:=[.adr 40 5 .none True,.adr 4 5 .none True]) [] [(4,5)] [zpH 4 139 _] U (oc (ob_a G G cy) (oc (ob_a G G (CX 0 G zk)) o0)) zk zk zk ⟨⟨1,rfl⟩,trivial⟩ G zk (zz [] [zpH 4 139 _] λ a w U=>?_);refine aa<|qi ?_;rw [D6 hl hs] at U;exact DR G U hB0 (zm 0 G)
theorem MN {Y DD Bm dl d2 top wl u2 u1 u0:Nat}(hY:Y=wl+Bm*(u2+4294967296*(u1+4294967296*u0)))(hD:DD=dl+Bm*(d2+4294967296*top))(hdl:dl<Bm)(hd2:d2<4294967296)(h:Y<DD*4294967296):u0≤top:=by
 rcases Nat.lt_or_ge top u0 with hlt|hge
 ·exfalso;have h1:Bm*(4294967296*(4294967296*(top+1)))≤Bm*(u2+4294967296*(u1+4294967296*u0)):=zP _ zo;have h2:DD+1≤Bm*(4294967296*(top+1)):=by
   have:Bm*(d2+4294967296*top)+Bm≤Bm*(4294967296*(top+1)):=by
    rw [← vu];exact zP _ zo
   omega
  have h3:Bm*(4294967296*(4294967296*(top+1)))=4294967296*(Bm*(4294967296*(top+1))):=by
   rw [← zb,qW Bm,zb]
  omega
 ·exact hge
theorem Pm {Y DD Bm dl d2 top wl u2 head:Nat}(hY:Y=wl+Bm*(u2+4294967296*head))(hD:DD=dl+Bm*(d2+4294967296*top))(hwl:wl<Bm):Y/DD*(top*4294967296+d2)≤head*4294967296+u2:=by
 have h1:Y/DD*DD≤Y:=jC _ _;generalize Y/DD=q at *;have h2:Bm*(q*(d2+4294967296*top))≤q*DD:=by
  rw [hD,xf q dl,← zb q Bm,qW q Bm,zb];omega
 have h3:Bm*(q*(d2+4294967296*top))<Bm*(u2+4294967296*head+1):=by
  rw [vu];omega
 have h4:=Nat.lt_of_mul_lt_mul_left h3;rw [show top*4294967296+d2=d2+4294967296*top by omega];omega
theorem MP {Y DD Bm dl d2 top wl u2 head g:Nat}(hY:Y=wl+Bm*(u2+4294967296*head))(hD:DD=dl+Bm*(d2+4294967296*top))(hdl:dl<Bm)(ht:0<top)(hg:g<4294967296)(h:g*(top*4294967296+d2)≤head*4294967296+u2):g*DD≤Y+DD:=by
 have h1:Bm*(g*(d2+4294967296*top))≤Bm*(u2+4294967296*head):=zP _ (by rw [show d2+4294967296*top=top*4294967296+d2 by omega];omega);have h2:g*DD≤g*Bm+Bm*(g*(d2+4294967296*top)):=by
  rw [hD,xf g dl,← zb g Bm,qW g Bm,zb];have:g*dl≤Bm*g:=by rw [qW];exact qI _ zo
  omega
 have h3:g*Bm≤Bm*(d2+4294967296*top):=by
  rw [qW];exact zP _ zo
 omega
theorem MO {Y DD g:Nat}(h0:0<DD)(h1:Y/DD≤g)(h2:g*DD≤Y+DD):g=Y/DD∨g=Y/DD+1:=by
 have h3:Y<(Y/DD+1)*DD:=by rw [qW];exact vH Y h0
 have h4:g*DD<(Y/DD+2)*DD:=by rw [show Y/DD+2=(Y/DD+1)+1 from rfl,xD (Y/DD+1)];omega
 have:=k9 h4;omega
def lsB (W D:List Nat)(q:Nat):Nat→Nat
 | 0=>0
 | k+1=>(lsB W D q k+q*D.getD k 0)/4294967296+if W.getD k 0<(lsB W D q k+q*D.getD k 0)%4294967296 then 1 else 0
def lsO (W D:List Nat)(q:Nat):Nat→List Nat
 | 0=>[]
 | k+1=>lsO W D q k++[(W.getD k 0+4294967296-(lsB W D q k+q*D.getD k 0)%4294967296)%4294967296]
theorem eN (W D:Ya)(q k:Nat):(lsO W D q k).length=k:=by
 induction k with
 | zero=>rfl
 | succ k ih=>simp [lsO,ih]
theorem MF (W D:Ya)(q k:Nat):okL (lsO W D q k):=by
 induction k with
 | zero=>exact cW
 | succ k ih=>exact okL_append.2 ⟨ih,okL_cons.2 ⟨qU _ zo,cW⟩⟩
theorem mr {l:Ya}(h:okL l)(k:Nat):l.getD k 0<4294967296:=by
 by_cases hk:k<l.length
 ·simp only [List.getD_eq_getElem?_getD,List.getElem?_eq_getElem hk,xy];exact h _ (qg hk)
 ·simp [List.getD_eq_getElem?_getD,List.getElem?_eq_none (by omega:l.length≤k)]
theorem Bi {W D:Ya}{q:Nat}(hD:okL D)(k:Nat):lsB W D q k≤q:=by
 induction k with
 | zero=>exact zf _
 | succ k ih =>
  unfold lsB;have h1:=mr hD k;generalize D.getD k 0=v at *;generalize lsB W D q k=b at *;generalize W.getD k 0=u at *;have h2:q*v≤q*4294967295:=zP _ zo;generalize q*v=p at *;split <;> omega
theorem ME {W D:Ya}{q k:Nat}(hW:okL W)(hkW:k≤W.length)(hkD:k≤D.length):val (lsO W D q k)+q*val (D.take k)=val (W.take k)+4294967296^k*lsB W D q k:=by
 induction k with
 | zero=>simp [lsO,lsB]
 | succ k ih =>
  have ih:=ih zo zo;have h1:=mr hW k;rw [lsO,lp,eN,bC (by omega:k<D.length),bC (by omega:k<W.length),lsB,xf,ze];have e1:D[k]'zo=D.getD k 0:=by simp [List.getD_eq_getElem?_getD,List.getElem?_eq_getElem (by omega:k<D.length)]
  have e2:W[k]'zo=W.getD k 0:=by simp [List.getD_eq_getElem?_getD,List.getElem?_eq_getElem (by omega:k<W.length)]
  rw [e1,e2];generalize hv:D.getD k 0=v at *;generalize lsB W D q k=b at *;generalize W.getD k 0=u at *;have e3:q*(4294967296^k*v)=4294967296^k*(q*v):=by rw [← zb,qW q,zb]
  rw [e3];generalize q*v=p at *;generalize 4294967296^k=E at *;have e4:E*((u+4294967296-(b+p)%4294967296)%4294967296)+E*p+E*b=E*u+E*4294967296*((b+p)/4294967296+if u<(b+p)%4294967296 then 1 else 0):=by
   rw [← xf,← xf,zb,← xf]
   congr 1
   split <;> omega
  omega
theorem Gz {W D:Ya}{q m:Nat}(hW:okL W)(hD:okL D)(hm:D.length=m)(hlW:W.length=m+1)(hq:q<4294967296) :
  decide (W.getD m 0<lsB W D q m)=decide (val W<q*val D) ∧
  lsO W D q m++[(W.getD m 0+4294967296-lsB W D q m)%4294967296]=digs (m+1) (val W+(if val W<q*val D then 4294967296^(m+1) else 0)-q*val D):=by
 have h1:=ME (q:=q) hW (by omega:m≤W.length) (by omega:m≤D.length);have h2:=Bi (W:=W) (q:=q) hD m;have h3:=mr hW m;have h4:val W=val (W.take m)+4294967296^m*W.getD m 0:=by
  have:=bC (l:=W) (i:=m) zo;rw [qD zo] at this;rw [this];simp [List.getD_eq_getElem?_getD,List.getElem?_eq_getElem (by omega:m<W.length)]
 have h5:D.take m=D:=qD zo;rw [h5] at h1;have ho:okL (lsO W D q m++[(W.getD m 0+4294967296-lsB W D q m)%4294967296]):=okL_append.2 ⟨MF _ _ _ _,okL_cons.2 ⟨qU _ zo,cW⟩⟩;have hv:=lp (lsO W D q m) ((W.getD m 0+4294967296-lsB W D q m)%4294967296);have hlt:=fb ho;simp only [qx,eN,zc,xp,qV] at hlt hv;have hlen:(lsO W D q m++[(W.getD m 0+4294967296-lsB W D q m)%4294967296]).length=m+1:=by simp [eN]
 generalize lsO W D q m=o at *;generalize lsB W D q m=b at *;generalize W.getD m 0=u at *;generalize hS:q*val D=S at *;rw [ze] at *;have key:val (o++[(u+4294967296-b)%4294967296])+S=val W+if u<b then 4294967296^m*4294967296 else 0:=by
  rw [hv,h4];have:4294967296^m*((u+4294967296-b)%4294967296)+4294967296^m*b=4294967296^m*u+if u<b then 4294967296^m*4294967296 else 0:=by
   rw [← xf];split
   ·rw [← xf];congr 1;omega
   ·rw [xU];congr 1;omega
  omega
 have hc:(u<b)↔(val W<S):=by
  constructor
  ·intro h;rw [qC h] at key;omega
  ·intro h;apply Decidable.byContradiction;intro hn;rw [qy hn] at key;omega
 refine ⟨by rw [q9];exact hc,mA ho hlen ?_⟩;by_cases h:u<b
 ·rw [qC h] at key;rw [qC (hc.1 h)];omega
 ·rw [qy h] at key;rw [qy (λ hh=>h (hc.2 hh))];omega
def spl (l:List Nat)(o:Nat)(c:List Nat):List Nat:=l.take o++c++l.drop (o+c.length)
theorem rN (l:Ya)(o:Nat):spl l o []=l:=by simp [spl]
theorem iM {l:Ya}{o:Nat}{c:Ya}(h:o+c.length≤l.length):(spl l o c).length=l.length:=by simp [spl];omega
theorem lW {l:Ya}{o k x:Nat}{c:Ya}(hk:c.length=k)(h:o+k<l.length):(spl l o c).set (o+k) x=spl l o (c++[x]):=by
 subst hk;unfold spl;rw [qY,xY _ _ (by simp;omega),qX,xc zo,j0,xY _ _ (qh _),jb,
  qG h,vV]
 simp [qY,je]
theorem lX {l:Ya}{o j:Nat}{c:Ya}(h:o+c.length≤j)(hj:j<l.length):(spl l o c)[j]?=some (l.getD j 0):=by
 unfold spl;rw [List.getElem?_append_right (by simp;omega),List.getElem?_drop];simp only [qx,qX];rw [xc zo,show o+c.length+(j-(o+c.length))=j by omega,List.getElem?_eq_getElem hj];simp [List.getD_eq_getElem?_getD,List.getElem?_eq_getElem hj]
theorem HW {l:Ya}{o:Nat}{c c':Ya}(h:c.length=c'.length)(ho:o+c.length≤l.length):spl (spl l o c) o c'=spl l o c':=by
 unfold spl;rw [← h,xu (by simp;omega),xu (by simp;omega),x5,Nat.min_self,jB (by simp;omega),zq (by simp;omega)];simp
theorem HV {l:Ya}{o:Nat}{c:Ya}(h:o+c.length≤l.length):((spl l o c).drop o).take c.length=c:=by
 unfold spl;rw [qY,jB (by simp;omega),zq (by simp;omega),xw,xu (qh _),qJ]
theorem ln {l:Ya}{o n k:Nat}(h:k<n):((l.drop o).take n).getD k 0=l.getD (o+k) 0:=by
 simp [List.getD_eq_getElem?_getD,List.getElem?_take_of_lt h]
theorem getD_some {l:Ya}{k:Nat}(h:k<l.length):l[k]?=some (l.getD k 0):=by
 simp [List.getD_eq_getElem?_getD,List.getElem?_eq_getElem h]
theorem pn {l:Ya}{m k:Nat}(h:k<m):(l.take m).getD k 0=l.getD k 0:=by
 simp [List.getD_eq_getElem?_getD,List.getElem?_take_of_lt h]
theorem o8 {l:Ya}(h:okL l)(n:Nat):okL (l.take n):=λ x hx=>h x (xk hx)
theorem Eg {l:Ya}(h:okL l)(n:Nat):okL (l.drop n):=λ x hx=>h x (vE hx)
theorem lN (a b m:Nat):digs (a+b) m=digs a m++digs b (m/4294967296^a):=by
 induction a generalizing m with
 | zero=>simp [digs]
 | succ a ih=>rw [show a+1+b=a+b+1 by omega,digs,digs,ih,zx,ze,qW (4294967296^a)];rfl
theorem mB {a n m:Nat}(h:a≤n):(digs n m).take a=digs a m:=by
 obtain ⟨b,rfl⟩:∃ b,n=a+b:=⟨n-a,by omega⟩;rw [lN,xu (by rw [ar];omega),qD (by rw [ar];omega)]
theorem ro {a n m:Nat}(h:a≤n):(digs n m).drop a=digs (n-a) (m/4294967296^a):=by
 obtain ⟨b,rfl⟩:∃ b,n=a+b:=⟨n-a,by omega⟩;rw [lN,jB (by rw [ar];omega),zq (by rw [ar];omega),show a+b-a=b by omega];rfl
theorem mC {n m k:Nat}(h:k<n):(digs n m).getD k 0=m/4294967296^k%4294967296:=by
 induction n generalizing m k with
 | zero=>omega
 | succ n ih =>
  cases k with
  | zero=>simp [digs]
  | succ k=>rw [digs,List.getD_cons_succ,ih zo,zx,ze,qW (4294967296^k)]
theorem Fq {n V i k Y:Nat}(hi:i+k≤n)(hV:V<4294967296^(i+k))(hY:Y<4294967296^k):spl (digs n V) i (digs k Y)=digs n (V%4294967296^i+4294967296^i*Y):=by
 obtain ⟨r,rfl⟩:∃ r,n=i+k+r:=⟨n-(i+k),by omega⟩;have hp:0<4294967296^i:=zG zo;unfold spl;rw [ar,mB zo,ro zo,lN (i+k),lN i];have e1:(V%4294967296^i+4294967296^i*Y)/4294967296^i=Y:=by
  rw [kb _ _ hp,xL (qU _ hp),qV]
 have e2:(V%4294967296^i+4294967296^i*Y)/4294967296^(i+k)=V/4294967296^(i+k):=by
  rw [xe,← zx,e1,xL hY,← xe,xL hV]
 rw [e1,e2,show i+k+r-(i+k)=r by omega]
 congr 2
 exact g7 (by rw [jP,Nat.mod_mod])
def bl (n:Nat):Nat:=if n=0 then 0 else n.log2+1
theorem KE {n:Nat}(h:n≠0):bl n=bl (n/2)+1:=by
 unfold bl;rw [qy h,Nat.log2_def];by_cases h2:2≤n
 ·rw [qC h2,qy zo]
 ·rw [qy h2,qC zo]
theorem CS (n k:Nat)(h:2^k≤n):bl n=bl (n/2^k)+k:=by
 induction k with
 | zero=>simp
 | succ k ih =>
  rw [ze] at h;have hp:0<2^k:=zG zo;rw [ih zo,ze,← zx,KE (n:=n/2^k)]
  ·omega
  ·have:0<n/2^k:=Nat.div_pos zo hp;omega
theorem O1 (n:Nat):n<2^bl n:=by
 unfold bl;split
 ·omega
 ·exact Nat.lt_log2_self
theorem O2 {n:Nat}(h:n≠0):2^(bl n-1)≤n:=by
 unfold bl;rw [qy h,jl];exact Nat.log2_self_le h
theorem eX {n k:Nat}(h:n<2^k):bl n≤k:=by
 by_cases h0:n=0
 ·subst h0;simp [bl]
 ·have h1:=O2 h0;apply Decidable.byContradiction;intro hc;have:2^k≤2^(bl n-1):=zX zo zo;omega
theorem O0 {n:Nat}(h:n≠0):0<bl n:=by unfold bl;rw [qy h];omega
theorem CR {n:Nat}(h:n≠0)(h2:n<4294967296):2147483648≤n*2^(32-bl n)∧n*2^(32-bl n)<4294967296∧32-bl n<32:=by
 have h1:=O2 h;have h3:=O1 n;have h4:=O0 h;have h5:bl n≤32:=eX (k:=32) zo;refine ⟨?_,?_,by omega⟩
 ·have:2^(bl n-1)*2^(32-bl n)≤n*2^(32-bl n):=qI _ h1;rw [← xe,show bl n-1+(32-bl n)=31 by omega] at this;omega
 ·have:n*2^(32-bl n)<2^bl n*2^(32-bl n):=x4 h3 (zG zo);rw [← xe,show bl n+(32-bl n)=32 by omega] at this;omega
theorem dv_Y (X DD i:Nat)(h:0<DD):X%(DD*4294967296^(i+1))/4294967296^i<DD*4294967296:=by
 apply z4;have h1:X%(DD*4294967296^(i+1))<DD*4294967296^(i+1):=qU _ (jz h (zG zo));rw [ze,← zb,jH,qW] at h1;rw [ze,← zb,jH,qW (DD*4294967296)];exact h1
theorem dv_q (X DD i:Nat):X%(DD*4294967296^(i+1))/4294967296^i/DD=X/(DD*4294967296^i)%4294967296:=by
 rw [zx,qW _ DD,ze,← zb,Nat.mod_mul_right_div_self]
theorem dv_r (X DD i:Nat):X%(DD*4294967296^(i+1))%4294967296^i+4294967296^i*(X%(DD*4294967296^(i+1))/4294967296^i%DD)=X%(DD*4294967296^i):=by
 rw [← Nat.mod_mul,qW _ DD,ze,← zb,Nat.mod_mul_right_mod]
theorem dec2 {D k:Nat}(h:D<4294967296^(k+2)):D=D%4294967296^k+4294967296^k*(D/4294967296^k%4294967296+4294967296*(D/4294967296^(k+1)%4294967296)):=by
 have h1:D/4294967296^(k+1)<4294967296:=z4 h;rw [zD h1,ze,← zx,jh,jh]
theorem dec3 {Y k:Nat}(h:Y<4294967296^(k+3)):Y=Y%4294967296^k+4294967296^k*(Y/4294967296^k%4294967296+4294967296*(Y/4294967296^(k+1)%4294967296+4294967296*(Y/4294967296^(k+2)%4294967296))):=by
 have h1:Y/4294967296^(k+2)<4294967296:=z4 h;rw [zD h1,ze _ (k+1),← zx Y (4294967296^(k+1)),jh (Y/4294967296^(k+1)),ze _ k,← zx,jh,jh]
structure Dv (n k i V DD:Nat):Prop where
 hn:i+(k+3)≤n
 d1:4294967296^(k+1)*2147483648≤DD
 d2:DD<4294967296^(k+2)
 y:V/4294967296^i<DD*4294967296
section
variable {n k i V DD:Nat}(h:Dv n k i V DD)
include h
theorem Dv.pos:0<DD:=qF (jz (zG zo) zo) h.d1
theorem Dv.y3:V/4294967296^i<4294967296^(k+3):=by
 have h1:=h.y;have h2:=qI 4294967296 (xa h.d2);have h3:4294967296^(k+3)=4294967296^(k+2)*4294967296:=ze _ (k+2);rw [h3];exact qF h1 h2
theorem Dv.v3:V<4294967296^(i+(k+3)):=by
 have h1:=h.y3;rw [ka (zG zo),qW,← xe] at h1;exact h1
theorem Dv.u (j:Nat)(hj:j<k+3):(digs n V).getD (i+j) 0=V/4294967296^i/4294967296^j%4294967296:=by
 rw [mC (by have:=h.hn;omega),xe,zx]
theorem Dv.win:((digs n V).drop i).take (k+3)=digs (k+3) (V/4294967296^i):=by
 rw [ro (by have:=h.hn;omega),mB (by have:=h.hn;omega)]
theorem Dv.winv:val (((digs n V).drop i).take (k+3))=V/4294967296^i:=by rw [h.win,dH,zD h.y3]
theorem Dv.dd:val ((digs (k+3) DD).take (k+2))=DD:=by rw [mB zo,dH,zD h.d2]
theorem Dv.top:2147483648≤DD/4294967296^(k+1)%4294967296:=by
 have h1:DD/4294967296^(k+1)<4294967296:=z4 h.d2;rw [zD h1];rw [j9 (zG zo),qW];exact h.d1
end
structure Gs (k Y DD g r:Nat):Prop where
 eq:g*(DD/4294967296^(k+1)%4294967296)+r=Y/4294967296^(k+2)%4294967296*4294967296+Y/4294967296^(k+1)%4294967296
 ge:Y/DD≤g
 r:r<4294967296
theorem Gs.next {k Y DD g r:Nat}(hg:Gs k Y DD g r)(hlt:Y/DD<g)(hr:r+DD/4294967296^(k+1)%4294967296<4294967296):Gs k Y DD (g-1) (r+DD/4294967296^(k+1)%4294967296):=by
 refine ⟨?_,Nat.le_sub_one_of_lt hlt,hr⟩;have h1:=hg.eq;obtain ⟨g',rfl⟩:∃ g',g=g'+1:=⟨g-1,(jG (za (zf _) hlt)).symm⟩;rw [jl];rw [xD] at h1;omega
section
variable {n k i V DD:Nat}(h:Dv n k i V DD)
include h
theorem Dv.lo:V/4294967296^i/DD*(DD/4294967296^(k+1)%4294967296*4294967296+DD/4294967296^k%4294967296) ≤
  (V/4294967296^i/4294967296^(k+2)%4294967296*4294967296+V/4294967296^i/4294967296^(k+1)%4294967296)*4294967296+V/4294967296^i/4294967296^k%4294967296:=by
 have e1:=dec3 h.y3;have e2:=dec2 h.d2;refine Pm (wl:=V/4294967296^i%4294967296^k) (dl:=DD%4294967296^k) (Bm:=4294967296^k) ?_ e2 (qU _ (zG zo));refine e1.trans ?_
 congr 3
 omega
theorem Dv.u0:V/4294967296^i/4294967296^(k+2)%4294967296≤DD/4294967296^(k+1)%4294967296 :=
 MN (dec3 h.y3) (dec2 h.d2) (qU _ (zG zo)) (qU _ zo) h.y
theorem Dv.gs0 {head top:Nat}(hh:head=V/4294967296^i/4294967296^(k+2)%4294967296*4294967296+V/4294967296^i/4294967296^(k+1)%4294967296)(ht:top=DD/4294967296^(k+1)%4294967296) :
  Gs k (V/4294967296^i) DD (head/top) (head%top):=by
 have htop:=h.top;have hlo:=h.lo;have e:=Nat.div_add_mod' head top;have h3:head%top<top:=qU _ zo;subst hh ht;refine ⟨e,?_,by omega⟩;rw [j9 zo];generalize V/4294967296^i/DD=q at *;generalize DD/4294967296^(k+1)%4294967296=t at *;rw [xf,← zb] at hlo;have:V/4294967296^i/4294967296^k%4294967296<4294967296:=qU _ zo;generalize q*t=p at *;omega
variable {g r:Nat}(hg:Gs k (V/4294967296^i) DD g r)
include hg
theorem Dv.gmax:g≤4294967297:=by
 have h1:=hg.eq;have h2:=h.u0;have h3:=h.top;have h4:V/4294967296^i/4294967296^(k+1)%4294967296<4294967296:=qU _ zo;generalize DD/4294967296^(k+1)%4294967296=t at *;apply Decidable.byContradiction;intro hc;have:4294967298*t≤g*t:=qI _ zo;omega
theorem Dv.down (hb:4294967296≤g∨r*4294967296+V/4294967296^i/4294967296^k%4294967296<g*(DD/4294967296^k%4294967296)):V/4294967296^i/DD<g:=by
 rcases hb with hb|hb
 ·have:V/4294967296^i/DD<4294967296:=z4 h.y;omega
 ·have hlo:=h.lo;have h1:=hg.eq;generalize V/4294967296^i/DD=q at *;generalize DD/4294967296^(k+1)%4294967296=t at *;generalize DD/4294967296^k%4294967296=d at *;have:q*(t*4294967296+d)<g*(t*4294967296+d):=by
   rw [xf g,← zb];generalize g*t=p at *;generalize g*d=s at *;omega
  exact k9 this
theorem Dv.end1 (hb:g<4294967296)(hr:g*(DD/4294967296^k%4294967296)≤r*4294967296+V/4294967296^i/4294967296^k%4294967296):g=V/4294967296^i/DD∨g=V/4294967296^i/DD+1:=by
 refine MO h.pos hg.ge ?_;have h1:=hg.eq;refine MP (wl:=V/4294967296^i%4294967296^k) (dl:=DD%4294967296^k) (Bm:=4294967296^k) (head:=V/4294967296^i/4294967296^(k+2)%4294967296*4294967296+V/4294967296^i/4294967296^(k+1)%4294967296) (u2:=V/4294967296^i/4294967296^k%4294967296) ?_ (dec2 h.d2) (qU _ (zG zo)) (by have:=h.top;omega) hb ?_
 ·refine (dec3 h.y3).trans ?_
  congr 3
  omega
 ·rw [xf,← zb];generalize g*(DD/4294967296^(k+1)%4294967296)=p at *;omega
theorem Dv.end2 (hlt:V/4294967296^i/DD<g)(hr:4294967296≤r+DD/4294967296^(k+1)%4294967296):g-1<4294967296∧(g-1=V/4294967296^i/DD∨g-1=V/4294967296^i/DD+1):=by
 have h1:=hg.eq;have h2:=h.u0;have h3:=h.top;have h4:V/4294967296^i/4294967296^(k+1)%4294967296<4294967296:=qU _ zo;obtain ⟨g',rfl⟩:∃ g',g=g'+1:=⟨g-1,(jG (za (zf _) hlt)).symm⟩;rw [jl];have hd:DD/4294967296^k%4294967296<4294967296:=qU _ zo;have hg':g'<4294967296:=by
  apply Decidable.byContradiction;intro hc;generalize DD/4294967296^(k+1)%4294967296=t at *;have:4294967296*t≤g'*t:=qI _ zo;rw [xD] at h1;omega
 refine ⟨hg',MO h.pos (Nat.le_of_lt_succ hlt) ?_⟩;refine MP (wl:=V/4294967296^i%4294967296^k) (dl:=DD%4294967296^k) (Bm:=4294967296^k) (head:=V/4294967296^i/4294967296^(k+2)%4294967296*4294967296+V/4294967296^i/4294967296^(k+1)%4294967296) (u2:=V/4294967296^i/4294967296^k%4294967296) ?_ (dec2 h.d2) (qU _ (zG zo)) zo hg' ?_
 ·refine (dec3 h.y3).trans ?_
  congr 3
  omega
 ·rw [xf,← zb];rw [xD] at h1;have:g'*(DD/4294967296^k%4294967296)≤4294967295*4294967295:=xR zo zo;generalize g'*(DD/4294967296^(k+1)%4294967296)=p at *;omega
end
def dvL (n X DD i:Nat):List Nat:=digs n (X%(DD*4294967296^i))
def dvQ (lq X DD i:Nat):List Nat:=List.replicate i 0++digs (lq-i) (X/(DD*4294967296^i))
theorem Cj {lq X DD i:Nat}(h:i≤lq):(dvQ lq X DD i).length=lq:=by simp [dvQ,ar];omega
theorem uj {lq X DD i:Nat}(h:i<lq):(dvQ lq X DD (i+1)).set i (X/(DD*4294967296^i)%4294967296)=dvQ lq X DD i:=by
 unfold dvQ;rw [x6,qY,xY _ _ (by simp),qR,jb,show lq-i=(lq-(i+1))+1 by omega,digs,zx,zb,← ze]
 rfl
theorem Kd {lq X DD:Nat}:dvQ lq X DD lq=List.replicate lq 0:=by simp [dvQ,digs]
theorem Kf {n lq X DD:Nat}(h:X<DD*4294967296^lq):dvL n X DD lq=digs n X:=by rw [dvL,zD h]
theorem Bc (Y D:Nat):Y%D=Y-Y/D*D:=by
 have:=jh Y D;rw [qW (Y/D)];omega
theorem Pj {Y D:Nat}(h:0<D):Y<(Y/D+1)*D:=by rw [qW];exact vH Y h
theorem PC {n k i X DD:Nat}(hn:i+(k+3)≤n)(d1:4294967296^(k+1)*2147483648≤DD)(d2:DD<4294967296^(k+2)):Dv n k i (X%(DD*4294967296^(i+1))) DD :=
 ⟨hn,d1,d2,dv_Y X DD i (qF (jz (zG zo) zo) d1)⟩
section
variable {n k i X DD:Nat}(h:Dv n k i (X%(DD*4294967296^(i+1))) DD)
include h
theorem Dv.fin1 {Z:Nat}(hZ:digs (k+3) Z=digs (k+3) (X%(DD*4294967296^(i+1))/4294967296^i%DD)):spl (dvL n X DD (i+1)) i (digs (k+3) Z)=dvL n X DD i:=by
 rw [hZ,dvL,dvL,Fq h.hn h.v3 (zw (qU _ h.pos) (zw h.d2 (Nat.pow_lt_pow_right zo zo))),dv_r]
omit h in
theorem Dv.no:¬ (X%(DD*4294967296^(i+1))/4294967296^i<X%(DD*4294967296^(i+1))/4294967296^i/DD*DD):=by
 have:=jC (X%(DD*4294967296^(i+1))/4294967296^i) DD;omega
theorem Dv.yes:X%(DD*4294967296^(i+1))/4294967296^i<(X%(DD*4294967296^(i+1))/4294967296^i/DD+1)*DD:=by
 exact Pj h.pos
theorem Dv.ls {g:Nat}:(val (((dvL n X DD (i+1)).drop i).take (k+3))<g*val ((digs (k+3) DD).take (k+2)))↔X%(DD*4294967296^(i+1))/4294967296^i<g*DD:=by
 rw [dvL,h.winv,h.dd]
theorem Dv.end_no {g:Nat}(hg:g=X%(DD*4294967296^(i+1))/4294967296^i/DD) :
  spl (dvL n X DD (i+1)) i (digs (k+3) (val (((dvL n X DD (i+1)).drop i).take (k+3))+(if val (((dvL n X DD (i+1)).drop i).take (k+3))<g*val ((digs (k+3) DD).take (k+2)) then 4294967296^(k+3) else 0)-g*val ((digs (k+3) DD).take (k+2))))=dvL n X DD i:=by
 apply h.fin1;rw [qy (by rw [h.ls,hg];exact Dv.no),h.dd];rw [dvL,h.winv,hg];rw [Bc _ DD];simp only [xU]
theorem Dv.end_yes {g:Nat}(hg:g=X%(DD*4294967296^(i+1))/4294967296^i/DD+1){M W:Ya}
  (hM:M=spl (dvL n X DD (i+1)) i (digs (k+3) (val (((dvL n X DD (i+1)).drop i).take (k+3))+(if val (((dvL n X DD (i+1)).drop i).take (k+3))<g*val ((digs (k+3) DD).take (k+2)) then 4294967296^(k+3) else 0)-g*val ((digs (k+3) DD).take (k+2)))))
  (hW:W=(M.drop i).take (k+3)):M.length=n∧W.length=k+3∧okL W ∧
  spl M i (digs (k+2) (bD W ((digs (k+3) DD).take (k+2)) (k+2))++[(W.getD (k+2) 0+bD W ((digs (k+3) DD).take (k+2)) (k+2)/4294967296^(k+2))%4294967296])=dvL n X DD i:=by
 have hlen:(dvL n X DD (i+1)).length=n:=ar _ _;have hMl:M.length=n:=by rw [hM,iM (by rw [ar,hlen];exact h.hn),hlen]
 have hWl:W.length=k+3:=by rw [hW];have:=h.hn;simp;omega
 have hy:=h.yes;have hWd:W=digs (k+3) (X%(DD*4294967296^(i+1))/4294967296^i+4294967296^(k+3)-g*DD):=by
  have:=HV (l:=dvL n X DD (i+1)) (o:=i) (c:=digs (k+3) (val (((dvL n X DD (i+1)).drop i).take (k+3))+(if val (((dvL n X DD (i+1)).drop i).take (k+3))<g*val ((digs (k+3) DD).take (k+2)) then 4294967296^(k+3) else 0)-g*val ((digs (k+3) DD).take (k+2)))) (by rw [ar,hlen];exact h.hn)
  rw [← hM,ar,← hW] at this;rw [this,qC (by rw [h.ls,hg];exact hy),h.dd];rw [dvL,h.winv]
 have hok:okL W:=by rw [hWd];exact bV _ _
 refine ⟨hMl,hWl,hok,?_⟩;have hDl:((digs (k+3) DD).take (k+2)).length=k+2:=by simp [ar]
 have e1:bD W ((digs (k+3) DD).take (k+2)) (k+2)+4294967296^(k+2)*W.getD (k+2) 0=val W+DD:=by
  unfold bD;rw [qD (l:=(digs (k+3) DD).take (k+2)) zo,h.dd];have:=bC (l:=W) (i:=k+2) zo;rw [qD zo] at this;rw [this,show W.getD (k+2) 0=W[k+2]'zo from by simp [List.getD_eq_getElem?_getD,List.getElem?_eq_getElem (by omega:k+2<W.length)]];omega
 have e2:digs (k+2) (bD W ((digs (k+3) DD).take (k+2)) (k+2))++[(W.getD (k+2) 0+bD W ((digs (k+3) DD).take (k+2)) (k+2)/4294967296^(k+2))%4294967296]=digs (k+3) (val W+DD):=by
  rw [← e1,dU,xg (W.getD (k+2) 0)]
 have hlt:X%(DD*4294967296^(i+1))/4294967296^i/DD*DD≤X%(DD*4294967296^(i+1))/4294967296^i:=jC _ _;have hd:=h.d2;have hp:4294967296^(k+2)≤4294967296^(k+3):=zX zo zo;rw [e2,hM,HW (by simp [ar]) (by rw [ar,hlen];exact h.hn)];apply h.fin1;rw [hWd,dH];apply g7;rw [hg,xD] at *;have hm:X%(DD*4294967296^(i+1))/4294967296^i%DD=X%(DD*4294967296^(i+1))/4294967296^i-X%(DD*4294967296^(i+1))/4294967296^i/DD*DD:=Bc _ _;rw [hm];have hz:=h.y3;generalize X%(DD*4294967296^(i+1))/4294967296^i/DD*DD=p at *;generalize X%(DD*4294967296^(i+1))/4294967296^i=Y at *;generalize 4294967296^(k+3)=E at *;rw [zD (show Y+E-(p+DD)<E by omega),show Y+E-(p+DD)+DD=(Y-p)+E by omega,v6]
end
theorem I8 {R s j:Nat}(hs:s<32):(R/4294967296^(j+1)%4294967296*4294967296+R/4294967296^j%4294967296)/2^s%4294967296=R/2^s/4294967296^j%4294967296:=by
 rw [zx R (2^s),qW (2^s),← zx,ze,← zx];generalize R/4294967296^j=T;have e1:T=(T/4294967296%4294967296*4294967296+T%4294967296)+2^s*(4294967296*(2^(32-s)*(T/4294967296/4294967296))):=by
  have:2^s*(4294967296*(2^(32-s)*(T/4294967296/4294967296)))=4294967296*(4294967296*(T/4294967296/4294967296)):=by
   rw [v5 (2^s),← zb (2^s),← xe,show s+(32-s)=32 by omega]
  rw [this];omega
 have e2:T/2^s=(T/4294967296%4294967296*4294967296+T%4294967296)/2^s+4294967296*(2^(32-s)*(T/4294967296/4294967296)):=by
  have h1:=qt (· / 2^s) e1;rw [kb _ _ (zG zo)] at h1;exact h1
 rw [e2,jP]
def dvF (n R s j:Nat):List Nat:=spl (digs n R) 0 (digs j (R/2^s))
theorem Fk (n R s:Nat):dvF n R s 0=digs n R:=rN _ _
theorem Kg {n R s j:Nat}(h:j≤n):(dvF n R s j).length=n:=by rw [dvF,iM (by rw [ar,ar];omega),ar]
theorem Ck {n R s j i:Nat}(h:j≤i)(hi:i<n):(dvF n R s j)[i]?=some (R/4294967296^i%4294967296):=by
 rw [dvF,lX (by rw [ar];omega) (by rw [ar];omega),mC hi]
theorem Fl {n R s j:Nat}(hs:s<32)(h:j<n):(dvF n R s j).set j ((R/4294967296^(j+1)%4294967296*4294967296+R/4294967296^j%4294967296)/2^s%4294967296)=dvF n R s (j+1):=by
 rw [I8 hs,dvF,dvF,iu];have:=lW (l:=digs n R) (o:=0) (k:=j) (x:=R/2^s/4294967296^j%4294967296) (ar j (R/2^s)) (by rw [ar];omega);rw [qV] at this;exact this
theorem Kh {n R s m:Nat}:dvF n R s m=digs m (R/2^s)++(digs n R).drop m:=by
 rw [dvF,spl,ar];simp
theorem Kc {d:Ya}{k:Nat}(hd:okL d)(hl:d.length=k+2)(h0:d.getD (k+1) 0≠0) :
  4294967296^(k+1)*2147483648≤val d*2^(32-bl (d.getD (k+1) 0))∧val d*2^(32-bl (d.getD (k+1) 0))<4294967296^(k+2):=by
 have h1:=bC (l:=d) (i:=k+1) zo;rw [qD zo] at h1;have h2:d[k+1]'zo=d.getD (k+1) 0:=by simp [List.getD_eq_getElem?_getD,List.getElem?_eq_getElem (by omega:k+1<d.length)]
 rw [h2] at h1;have h3:=cJ hd (k+1);have h4:=CR h0 (mr hd (k+1));have h5:=O1 (d.getD (k+1) 0);have h6:=eX (k:=32) (mr hd (k+1));generalize d.getD (k+1) 0=t at *;generalize val (d.take (k+1))=v at *;constructor
 ·refine qf (zP _ h4.1) ?_;rw [← zb];exact qI _ zo
 ·have e:val d<4294967296^(k+1)*2^bl t:=by
   rw [h1];have:4294967296^(k+1)*(t+1)≤4294967296^(k+1)*2^bl t:=zP _ h5;rw [vu] at this;omega
  have h7:=x4 e (show 0<2^(32-bl t) from zG zo);rw [zb,← xe,show bl t+(32-bl t)=32 by omega] at h7;exact h7
theorem Fj {a:Ya}{DD k s la:Nat}(ha:okL a)(hla:a.length=la)(hk:k+2≤la)(hs:s<32)(d1:4294967296^(k+1)*2147483648≤DD):val a*2^s<DD*4294967296^(la+1-(k+2)):=by
 have h1:=fb ha;rw [hla] at h1;have h2:2^s≤2^31:=zX zo zo;have h3:val a*2^s≤val a*2147483648:=zP _ h2;have h4:val a*2147483648<4294967296^la*2147483648:=x4 h1 zo;have h5:4294967296^(k+1)*2147483648*4294967296^(la+1-(k+2))≤DD*4294967296^(la+1-(k+2)):=qI _ d1;rw [jH,← xe,show k+1+(la+1-(k+2))=la by omega] at h5;omega
theorem Cv {n m j:Nat}(h:j<n):(digs n m)[0+j]?=some (m/4294967296^j%4294967296):=by
 rw [qV,getD_some (by rw [ar];omega),mC h]
theorem Dv.at_ {n k i X DD:Nat}(h:Dv n k i (X%(DD*4294967296^(i+1))) DD)(j:Nat)(hj:j<k+3):(dvL n X DD (i+1))[i+j]?=some (X%(DD*4294967296^(i+1))/4294967296^i/4294967296^j%4294967296):=by
 have:=h.hn;rw [dvL,getD_some (by rw [ar];omega),h.u j hj]
theorem Dv.yes_ex {n k i X DD:Nat}(h:Dv n k i (X%(DD*4294967296^(i+1))) DD){g:Nat}(hg:g=X%(DD*4294967296^(i+1))/4294967296^i/DD+1) :
  ∃ M,spl (dvL n X DD (i+1)) i (digs (k+3) (val (((dvL n X DD (i+1)).drop i).take (k+3))+(if val (((dvL n X DD (i+1)).drop i).take (k+3))<g*val ((digs (k+3) DD).take (k+2)) then 4294967296^(k+3) else 0)-g*val ((digs (k+3) DD).take (k+2))))=M ∧
   M.length=n∧((M.drop i).take (k+3)).length=k+3∧okL ((M.drop i).take (k+3)) ∧
   spl M i (digs (k+2) (bD ((M.drop i).take (k+3)) ((digs (k+3) DD).take (k+2)) (k+2))++[(((M.drop i).take (k+3)).getD (k+2) 0+bD ((M.drop i).take (k+3)) ((digs (k+3) DD).take (k+2)) (k+2)/4294967296^(k+2))%4294967296])=dvL n X DD i :=
 ⟨_,rfl,h.end_yes hg rfl rfl⟩
theorem Ke {lq X DD:Nat}:dvQ lq X DD 0=digs lq (X/DD):=by simp [dvQ]
theorem KP {W D:Ya}{j:Nat}(hW:j<W.length):digs j (bD W D j)++[(W.getD j 0+D.getD j 0+bD W D j/4294967296^j)%4294967296]=digs (j+1) (bD W D (j+1)):=by
 rw [fL hW,dU,show W[j]=W.getD j 0 from by simp [List.getD_eq_getElem?_getD,List.getElem?_eq_getElem hW],xg (bD W D j/_)]
theorem FP {W D:Ya}{j:Nat}(hW:j<W.length):(W.getD j 0+D.getD j 0+bD W D j/4294967296^j)/4294967296=bD W D (j+1)/4294967296^(j+1):=by
 rw [fL hW,carry_step',show W[j]=W.getD j 0 from by simp [List.getD_eq_getElem?_getD,List.getElem?_eq_getElem hW],xg (bD W D j/_)]
theorem L4 {i k n:Nat}(h:i+(k+2)+1≤n):i≤i+(k+2)+1∧i+(k+2)+1≤n∧i<n∧0+i=i∧i+(k+2)+1-i=k+3∧n-i=n-i:=⟨by omega,h,by omega,by omega,by omega,rfl⟩
theorem El {x y:Nat}(hx:x<4294967296)(hy:y<4294967296):x*y<18446744073709551616:=by
 have:x*y≤4294967295*4294967295:=xR zo zo;omega
theorem Ma {n m p q:Nat}(h:(decide ((n:Int)≥((m:Nat):Int)) || decide (((p:Nat):Int)>((q:Nat):Int)))=true):m≤n∨q<p:=by
 rcases zU _ _▸h with h|h
 ·exact .inl (kS.1 (qu h))
 ·exact .inr (kR.1 (qu h))
theorem P3 {n m p q:Nat}(h:(decide ((n:Int)≥((m:Nat):Int)) || decide (((p:Nat):Int)>((q:Nat):Int)))=false):n<m∧p≤q:=by
 rw [qN] at h;exact ⟨jc λ hh=>qw h.1 (kS.2 hh),kW λ hh=>qw h.2 (kR.2 hh)⟩
theorem MZ {n m:Nat}(h:decide ((n:Int)≥((m:Nat):Int))=true):m≤n:=kS.1 (qu h)
theorem N0 {n m:Nat}(h:decide ((n:Int)≥((m:Nat):Int))=false):n<m:=jc λ hh=>qw h (kS.2 hh)
theorem FR {u x:Nat}(h:x<18446744073709551616)(hu:u<18446744073709551616):IntKind.u64.wrap ((u:Int)-(x:Int))=(((u+18446744073709551616-x)%18446744073709551616:Nat):Int):=by
 simp [IntKind.wrap,IntKind.bits,IntKind.signed];omega
theorem KV {u x:Nat}(hu:u<4294967296)(hx:x<4294967296):IntKind.u32.wrap (((u+18446744073709551616-x)%18446744073709551616:Nat):Int)=(((u+4294967296-x)%4294967296:Nat):Int):=by
 rw [wlow];congr 1;omega
theorem KU {u x:Nat}(hu:u<4294967296)(hx:x<4294967296):(((u+18446744073709551616-x)%18446744073709551616:Nat):Int)/2^((63:Int).toNat)=((if u<x then 1 else 0:Nat):Int):=by
 refine (nshr (k:=63)).trans ?_
 congr 1
 split <;> omega
theorem sgn1 {u x:Nat}:(((if u<x then 1 else 0:Nat):Int)==((1:Nat):Int))=decide (u<x):=by
 split <;> simp [*]
theorem MK (L Dx:Ya)(o m c0 c1 q:Nat)(hL:okL L)(hDx:okL Dx)(hm:m≤Dx.length)(hlo:o+m+1≤L.length)(hms:m≤1099511627776)(hq:q<4294967296):Cm2 Tryz.prog 252 139 (winH o (m+1) c0) (slH m c1) (Nums .u32 L) (Nums .u32 (spl L o (digs (m+1) (val ((L.drop o).take (m+1))+(if val ((L.drop o).take (m+1))<q*val (Dx.take m) then 4294967296^(m+1) else 0)-q*val (Dx.take m))))) .u32 (Dx) [(NumA .u64 (q:Nat)).va] (Bo (decide (val ((L.drop o).take (m+1))<q*val (Dx.take m)))):=by
 refine Cm2.intro Tryz.func252 G zk nq (λ B g0 g1 w0 a U=>?_);have U:=zn [(0,EqV ((winH o (m+1) c0).f g0)),(1,EqV ((slH m c1).f g1)),(2,(NumA .u64 (q:Nat)).va)] [⟨0,139,winH o (m+1) c0,Nums .u32 L⟩,⟨1,139,slH m c1,Nums .u32 (Dx)⟩] U;have hW:okL ((L.drop o).take (m+1)):=o8 (Eg hL _) _;have hD:okL (Dx.take m):=o8 hDx _;have hWl:(((L.drop o).take (m+1))).length=m+1:=by simp;omega
 have hDl:((Dx.take m)).length=m:=by simp;omega
 refine qb<|zg UE [] U2 WX U (zE G aJ) (zz (Wf 0 1 2 6) [⟨0,139,winH o (m+1) c0,_⟩,⟨1,139,slH m c1,_⟩] ?_);refine ztA<|zgA UC [] [.v 7 _] Uq (zv G (bc (aE 0 G)) o0) (zz (W8 0 1 2 6 7) [⟨0,139,winH o (m+1) c0,_⟩,⟨1,139,slH m c1,_⟩] ?_);refine ztA<|zsA<|zgA UC [] (Wb 12) (Wi [.o 0,.o 1,.o 2]) (zM 1 G (zv G (dA qc (vq 0 G)) (zv G (aA ab) o0))) (zz (Wy 0 1 2 6 7 12 13 14) [⟨0,139,winH o (m+1) c0,_⟩,⟨1,139,slH m c1,_⟩] λ a w U=>?_);refine aa<|qk ?_;have U:=St.sel U [0,1,2,4,5,6,7];refine wp_loop_ghost (λ n a w=>∃ k:Nat,n+k=m∧St B w0 62 [(0,EqV ((winH o (m+1) c0).f g0)),(1,EqV ((slH m c1).f g1)),(2,(NumA .u64 (q:Nat)).va),(7,(NumA .u64 (lsB ((L.drop o).take (m+1)) (Dx.take m) q k:Nat)).va),(12,EqV ((slH m c1).f g1)),(13,In (m:Nat)),(14,In (k:Nat))] [⟨0,139,winH o (m+1) c0,Nums .u32 (spl L o (lsO ((L.drop o).take (m+1)) (Dx.take m) q k))⟩,⟨1,139,slH m c1,Nums .u32 Dx⟩] a w) (m) ?_ ?_
 ·exact ⟨0,by omega,by rw [show lsO ((L.drop o).take (m+1)) (Dx.take m) q 0=[] from rfl,rN];exact U⟩
 intro n a w hI;obtain ⟨k,hn,U⟩:=hI;refine qb<|zg UE [] [.v 15 _] (Wx [.o 0]) U (zv G (aO (gq 6 G) (gq 5 G)) o0) (zz (Wy 0 1 2 7 12 13 14 15) [⟨0,139,winH o (m+1) c0,_⟩,⟨1,139,slH m c1,_⟩] λ a w U=>?_);refine zt<|c7 U (zm 7 G) (λ hb0=>?_) (λ hb0=>?_)
 ·have hk:k<m:=by simp at hb0;omega
  have hdk:=mr hD k;have hwk:=mr hW k;have hbk:=Bi (W:=((L.drop o).take (m+1))) (q:=q) hD k;have hdx:Dx[0+k]?=some (((Dx.take m)).getD k 0):=by rw [pn hk,qV];exact getD_some zo
  have hwx:(spl L o (lsO ((L.drop o).take (m+1)) (Dx.take m) q k))[o+k]?=some ((((L.drop o).take (m+1))).getD k 0):=by rw [ln zo,lX (by rw [eN];omega) zo]
  have hpk:q*((Dx.take m)).getD k 0≤q*4294967295:=zP _ zo;refine qj<|zt<|qk<|qb<|zg UE [] (Wb 16 (W6 8)) (Wx [.o 3,.o 4]) U (zM 6 G (zv G (cO aZ (gq 4 G) (gq 6 G) zo) (zv G (cm (vq 1 G) (lz0 1 G) (gq 1 G) (nums_at' hdx) aN) (zA 0 G (zA 2 G o0))))) (zz (WF 0 1 2 7 12 13 14 8 9) [⟨0,139,winH o (m+1) c0,_⟩,⟨1,139,slH m c1,_⟩] ?_);refine ztA<|zgA UC [] (Wl 19 [.v 7 _]) (W7 [.g 4,.g 5,.g 6,.g 7,.o 6]) (zM 3 G (zM 2 G (zM 8 G (zv G (aI .u64 zk zk (vq 2 G) (wu64 zo)) (zv G (mc (vq 1 G) (vq 3 G) (pa zo)) (zv G (aL (vq 0 G) (vq 4 G) (dE zo)) (zA 5 G o0))))))) (zz (Wy 0 1 2 12 13 14 8 7) [⟨0,139,winH o (m+1) c0,_⟩,⟨1,139,slH m c1,_⟩] ?_);refine ztA<|zgA UC [] (Wo 25 [.v 10 _]) (WE [.o 9]) (zM 0 G (zM 6 G (zv G (cO aZ (vq 0 G) (vq 1 G) zo) (zv G (cm (vq 2 G) (lz0 0 G) (gq 0 G) (nums_at' hwx) aN) (zv G (aI .u64 zk zk (vq 3 G) (wu64 zo)) (zM 7 G (zv G (aI .u32 zk zk (vq 5 G) (wlow)) (zv G (aI .u64 zk zk (vq 6 G) (wu64 zo)) (zv G (ce (vq 4 G) (vq 7 G) (FR zo zo)) (zA 8 G o0)))))))))) (zz (WF 0 1 2 12 13 14 8 7 10) [⟨0,139,winH o (m+1) c0,_⟩,⟨1,139,slH m c1,_⟩] ?_);refine ztA<|zgA [some (5,_),none] [] (Wd 34 [.sto 0]) (Wq [.g 7,.g 8]) (zM 0 G (zM 6 G (zM 8 G (zv G (aI .u32 zk zk (vq 2 G) (KV hwk zo)) (zv G (cO aZ (vq 0 G) (vq 1 G) zo) (oc (gz G G G (vq 4 G) (gq 0 G) (vq 3 G) aN (bx (by rw [iM (by rw [eN];omega)];omega))) o0)))))) (zz (Wy 0 1 2 12 13 14 7 10) [⟨0,139,winH o (m+1) c0,_⟩,⟨1,139,slH m c1,_⟩] ?_);refine znA<|zgA UC [] (Wd 39 [.v 7 _]) (Wq [.o 5]) (zM 6 G (zv G (lk (vq 0 G) (aE 32 G) zd (nshr)) (zM 7 G (zv G (lk (vq 2 G) (aE 63 G) zd (KU hwk zo)) (zv G (aL (vq 1 G) (vq 3 G) (dE (by split <;> omega))) (zA 4 G o0)))))) (zz (Wu 0 1 2 12 13 14 7) [⟨0,139,winH o (m+1) c0,_⟩,⟨1,139,slH m c1,_⟩] λ a w U=>?_);refine al ?_;refine aa<|zg UE [] [.v 44 _,.v 14 _] (Wi [.g 6,.o 1]) U (zv G (aL (gq 5 G) ab (aU zo)) (zV 0 G o0)) (zz (Wu 0 1 2 12 13 7 14) [⟨0,139,winH o (m+1) c0,_⟩,⟨1,139,slH m c1,_⟩] λ a w U=>?_);refine aa ?_;have U:=St.sel U [0,1,2,5,3,4,6];rw [lW (eN _ _ _ _) zo] at U;exact ⟨n-1,by omega,k+1,by omega,U⟩
 ·obtain rfl:m=k:=by simp at hb0;omega
  have hbk:=Bi (W:=((L.drop o).take (m+1))) (q:=q) hD m;have hwk:=mr hW m;have hwx:(spl L o (lsO ((L.drop o).take (m+1)) (Dx.take m) q m))[o+m]?=some ((((L.drop o).take (m+1))).getD m 0):=by rw [ln zo,lX (by rw [eN];omega) zo]
  refine qP<|ai<|ai<|az<|zt<|zg UE [] (W9 45 [.v 11 _]) (We [.o 8]) U (zM 0 G (zM 1 G (zv G (dA qc (vq 1 G)) (zv G (cO aZ (vq 0 G) (vq 2 G) zo) (zv G (cm (vq 3 G) (lz0 0 G) (gq 0 G) (nums_at' hwx) aN) (zv G (aI .u64 zk zk (vq 4 G) (wu64 zo)) (zM 3 G (zv G (ce (vq 5 G) (vq 6 G) (FR zo zo)) (zA 7 G o0))))))))) (zz (Wa 0 1 11) [⟨0,139,winH o (m+1) c0,_⟩,⟨1,139,slH m c1,_⟩] ?_);refine ztA<|zgA [some (6,_),none] [] (Wl 53 [.sto 0]) W7 (zM 0 G (zM 1 G (zv G (dA qc (vq 1 G)) (zM 2 G (zv G (aI .u32 zk zk (vq 3 G) (KV hwk zo)) (zv G (cO aZ (vq 0 G) (vq 2 G) zo) (oc (gz G G G (vq 5 G) (gq 0 G) (vq 4 G) aN (bx (by rw [iM (by rw [eN];omega)];omega))) o0))))))) (zz (Wa 0 1 11) [⟨0,139,winH o (m+1) c0,_⟩,⟨1,139,slH m c1,_⟩] ?_);refine ztA<|zgA UC [] (Wb 59 [.v 6 _]) (We [.o 3]) (zM 2 G (zv G (lk (vq 0 G) (aE 63 G) zd (KU hwk zo)) (zv G (bF (vq 1 G) (aE 1 G)) (zA 2 G o0)))) (zz (Wa 0 1 6) [⟨0,139,winH o (m+1) c0,_⟩,⟨1,139,slH m c1,_⟩] λ a w U=>?_);refine aa<|qi ?_;rw [lW (eN _ _ _ _) zo,(Gz hW hD hDl hWl hq).2] at U;refine LC U (zm 0 G) (zm 1 G) (zm 0 G) (zm 1 G) ?_;refine aG ?_ (ak G U (zm 2 G));rw [sgn1,(Gz hW hD hDl hWl hq).1]
def tab8:ByteArray:=⟨(([0,1,2,2,3,3,3,3,4,4,4,4,4,4,4,4,5,5,5,5,5,5,5,5,5,5,5,5,5,5,5,5,6,6,6,6,6,6,6,6,6,6,6,6,6,6,6,6,6,6,6,6,6,6,6,6,6,6,6,6,6,6,6,6,7,7,7,7,7,7,7,7,7,7,7,7,7,7,7,7,7,7,7,7,7,7,7,7,7,7,7,7,7,7,7,7,7,7,7,7,7,7,7,7,7,7,7,7,7,7,7,7,7,7,7,7,7,7,7,7,7,7,7,7,7,7,7,7]:List UInt8)++[8,8,8,8,8,8,8,8,8,8,8,8,8,8,8,8,8,8,8,8,8,8,8,8,8,8,8,8,8,8,8,8,8,8,8,8,8,8,8,8,8,8,8,8,8,8,8,8,8,8,8,8,8,8,8,8,8,8,8,8,8,8,8,8,8,8,8,8,8,8,8,8,8,8,8,8,8,8,8,8,8,8,8,8,8,8,8,8,8,8,8,8,8,8,8,8,8,8,8,8,8,8,8,8,8,8,8,8,8,8,8,8,8,8,8,8,8,8,8,8,8,8,8,8,8,8,8,8]).toArray⟩
theorem Dg:(List.range 256).all (λ n=>tab8[n]? == some (UInt8.ofNat (bl n)))=true:=by kernel_rfl
theorem nN {n:Nat}(h:n<256):tab8[n]?=some (UInt8.ofNat (bl n)):=by
 have:=qe.1 Dg n (by simpa using h);simpa using this
theorem dF {n:Nat}(h:n<256):(UInt8.ofNat (bl n)).toNat=bl n:=by
 have:=eX (k:=8) h;simp;omega
theorem wu8 {x:Nat}(h:x<256):IntKind.u8.wrap (x:Int)=(x:Int):=by simp [IntKind.wrap,IntKind.bits,IntKind.signed];omega
theorem Js (x:Nat)(hx:x<4294967296):Cn Tryz.prog 258 [(NumA .u32 (x:Nat)).va] (In (bl x:Nat)):=by
 refine Cn.intro Tryz.func258 G zk nq (zy [(0,(NumA .u32 (x:Nat)).va)] λ B w0 a U=>?_);refine qb<|zh Ux UZ U (zE G ab) (zz R1 [] ?_);refine ztA<|zsA<|zhA (W6 3) UF (zM 0 G (zv G (dD (vq 0 G) (aE 65536 G)) o0)) (zz R2 [] λ a w U=>?_);refine zJ 2 U G (λ hb0=>?_) (λ hb0=>?_)
 ·have h1:65536≤x:=by simp at hb0;omega
  have e1:=CS x 16 h1;refine qb<|zh (W6 5 [.v 0 _]) R3 U (zM 0 G (zv G (lk (vq 0 G) (aE 16 G) zd (nshr)) (zA 1 G o0))) (zz (Wc 2 0) [] ?_);refine znA<|zhA Ux [.g 1,.o 0] (zE G ab) (zz R1 [] ?_);refine ztA<|zsA<|zhA (W6 7) UF (zM 0 G (zv G (dD (vq 0 G) (aE 256 G)) o0)) (zz (Wa 0 2 8) [] λ a w U=>?_);refine zJ 2 U G (λ hb1=>?_) (λ hb1=>?_)
  ·have h2:256≤x/2^16:=by simp at hb1;omega
   have e2:=CS (x/2^16) 8 h2;refine qb<|zh (W6 9 [.v 0 _]) R3 U (zM 0 G (zv G (lk (vq 0 G) (aE 8 G) zd (nshr)) (zA 1 G o0))) (zz (Wc 2 0) [] ?_);refine znA<|zhA (W6 11 [.v 2 _]) R3 (zM 0 G (zv G (aL (vq 0 G) ab (wi64 zo zo)) (zA 1 G o0))) (zz R1 [] ?_);refine ztA<|zhA (Wl 13 [.v 2 _]) [.o 6] (zM 1 G (zM 0 G (zv G (aI .u8 zk zk (vq 1 G) (wu8 zo)) (zv G (dg zk b9 (vq 2 G) (nN zo)) (zv G (aI .i64 zk zk (vq 3 G) (wi64 zo (by rw [dF zo];have:=eX (k:=8) (n:=x/2^16/2^8) zo;omega))) (zv G (aL (vq 0 G) (vq 4 G) (wi64 (by rw [dF zo];omega) (by rw [dF zo];have:=eX (k:=8) (n:=x/2^16/2^8) zo;omega))) (zA 5 G o0))))))) (zz Uu [] λ a w U=>?_);refine zN 0 U G G ?_;rw [e1,e2,dF zo];congr 2;omega
  ·have h2:x/2^16<256:=by simp at hb1;omega
   refine qj<|zt<|zh (Wl 13 [.v 2 _]) [.o 6] U (zM 1 G (zM 0 G (zv G (aI .u8 zk zk (vq 1 G) (wu8 h2)) (zv G (dg zk b9 (vq 2 G) (nN h2)) (zv G (aI .i64 zk zk (vq 3 G) (wi64 zo (by rw [dF h2];have:=eX (k:=8) h2;omega))) (zv G (aL (vq 0 G) (vq 4 G) (wi64 (by rw [dF h2];omega) (by rw [dF h2];have:=eX (k:=8) h2;omega))) (zA 5 G o0))))))) (zz Uu [] λ a w U=>?_);refine zN 0 U G G ?_;rw [e1,dF h2];congr 2;omega
 ·have h1:x<65536:=by simp at hb0;omega
  refine qj<|zt<|qb<|zh (W6 7) UF U (zM 0 G (zv G (dD (vq 0 G) (aE 256 G)) o0)) (zz (Wa 0 2 8) [] λ a w U=>?_);refine zJ 2 U G (λ hb2=>?_) (λ hb2=>?_)
  ·have h2:256≤x:=by simp at hb2;omega
   have e2:=CS x 8 h2;refine qb<|zh (W6 9 [.v 0 _]) R3 U (zM 0 G (zv G (lk (vq 0 G) (aE 8 G) zd (nshr)) (zA 1 G o0))) (zz (Wc 2 0) [] ?_);refine znA<|zhA (W6 11 [.v 2 _]) R3 (zM 0 G (zv G (aL (vq 0 G) ab (wi64 zo zo)) (zA 1 G o0))) (zz R1 [] ?_);refine ztA<|zhA (Wl 13 [.v 2 _]) [.o 6] (zM 1 G (zM 0 G (zv G (aI .u8 zk zk (vq 1 G) (wu8 zo)) (zv G (dg zk b9 (vq 2 G) (nN zo)) (zv G (aI .i64 zk zk (vq 3 G) (wi64 zo (by rw [dF zo];have:=eX (k:=8) (n:=x/2^8) zo;omega))) (zv G (aL (vq 0 G) (vq 4 G) (wi64 (by rw [dF zo];omega) (by rw [dF zo];have:=eX (k:=8) (n:=x/2^8) zo;omega))) (zA 5 G o0))))))) (zz Uu [] λ a w U=>?_);refine zN 0 U G G ?_;rw [e2,dF zo];congr 2;omega
  ·have h2:x<256:=by simp at hb2;omega
   refine qj<|zt<|zh (Wl 13 [.v 2 _]) [.o 6] U (zM 1 G (zM 0 G (zv G (aI .u8 zk zk (vq 1 G) (wu8 h2)) (zv G (dg zk b9 (vq 2 G) (nN h2)) (zv G (aI .i64 zk zk (vq 3 G) (wi64 zo (by rw [dF h2];have:=eX (k:=8) h2;omega))) (zv G (aL (vq 0 G) (vq 4 G) (wi64 (by rw [dF h2];omega) (by rw [dF h2];have:=eX (k:=8) h2;omega))) (zA 5 G o0))))))) (zz Uu [] λ a w U=>?_);refine zN 0 U G G ?_;rw [dF h2];congr 2;omega
theorem MD (x:Nat)(hx:x<4294967296):Cn Tryz.prog 250 [(NumA .u32 (x:Nat)).va] (In (32-bl x:Nat)):=by
 refine Cn.intro Tryz.func250 G zk nq (zy [(0,(NumA .u32 (x:Nat)).va)] λ B w0 a U=>?_);have hb:=eX (k:=32) hx;refine qb<|zh Ux UZ U (zE G ab) (zz R1 [] ?_);refine ztA<|zhA (Wb 3 [.v 2 _]) UG (zM 0 G (zQ G (Js x hx) (.o (vq 0 G)) (zv G (ce ab (vq 1 G) ((wi64 zo zo).trans (show (32:Int)-(bl x:Nat)=((32-bl x:Nat):Int) by omega))) (zA 2 G o0)))) (zz Uu [] λ a w U=>?_);exact aa<|qi<|ak G U (zm 0 G)
theorem L5 {k:Nat}(h:k<4611686018427387904):IntKind.i64.wrap (((k+2:Nat):Int)-2)=((k:Nat):Int):=by rw [wi64 zo zo];omega
theorem sV {x:Nat}(h:0<x)(h2:x<18446744073709551616):IntKind.u64.wrap ((x:Int)-((1:Nat):Int))=((x-1:Nat):Int):=by simp [IntKind.wrap,IntKind.bits,IntKind.signed];omega
theorem bbl {x:Nat}:x%4294967296<4294967296:=qU _ zd
theorem sQ {x:Nat}:x%4294967296<18446744073709551616:=zw bbl zd
theorem Fo (x y:Ya)(k:Nat)(hyl:y.length=k+2)(h0:y.getD (k+1) 0≠0)(hxy:k+2≤x.length)(hxs:x.length≤1099511627776):Cn Tryz.prog 236 [(MgA x).va,(MgA y).va] (Tu [(MgN (digs (x.length+1-(k+2)) (val x/val y))).va,(MgN (digs (k+2) (val x%val y))).va]):=by
 refine Cn.introW Tryz.func236 G zk nq (.cons (lP _).va (.cons (lP _).va .nil)) (yw (.cons (ee _).va (.cons (ee _).va .nil))) (λ B w0 a hB0 U=>?_);have U:=zn [(0,(MgO x).va),(1,(MgO y).va)] [] U;have hx:=(U.magO 0 rfl).1;have hy:=(U.magO 1 rfl).1;have hys:y.length≤1099511627776:=by omega
 have hpy:y.length-1<y.length:=by omega
 obtain ⟨s,hs⟩:∃ s,s=32-bl (y.getD (k+1) 0):=⟨_,rfl⟩;have hsy:32-bl (y[y.length-1]'hpy)=s:=by
  rw [hs,show y.getD (k+1) 0=y[y.length-1]'hpy from by simp [List.getD_eq_getElem?_getD,hyl]]
 obtain ⟨X,hX⟩:∃ X,X=val x*2^s:=⟨_,rfl⟩;obtain ⟨DD,hDD⟩:∃ DD,DD=val y*2^s:=⟨_,rfl⟩;obtain ⟨d1,d2⟩:=Kc hy hyl h0;have hs32:s<32:=hs▸(CR h0 (mr hy (k+1))).2.2;rw [← hs,← hDD] at d1 d2;have hX0:X<DD*4294967296^(x.length+1-(k+2)):=hX▸Fj hx rfl hxy hs32 d1;have hDp:0<DD:=qF (jz (zG zd) zd) d1;have htop:2147483648≤DD/4294967296^(k+1)%4294967296:=by
  have h1:DD/4294967296^(k+1)<4294967296:=z4 d2;rw [zD h1,j9 (zG zd),qW];exact d1
 have htop2:DD/4294967296^(k+1)%4294967296<4294967296:=bbl;obtain ⟨R,hR⟩:∃ R,R=X%(DD*4294967296^0):=⟨_,rfl⟩;have hp2:0<2^s:=zG zd;have hend4:dvQ (x.length+1-(k+2)) X DD 0=digs (x.length+1-(k+2)) (val x/val y):=by
  rw [Ke,hX,hDD,Nat.mul_div_mul_right _ _ hp2]
 have hend5:R/2^s=val x%val y:=by
  rw [hR,j4,zH,hX,hDD,Nat.mul_mod_mul_right,Nat.mul_div_cancel _ hp2]
 have hR0:R/4294967296^(k+2)%4294967296=0:=by
  have:R<4294967296^(k+2):=by rw [hR,j4,zH];exact zw (qU _ hDp) d2
  rw [xL this]
 refine qb<|zh (W6 4) (We [.o 0,.o 1]) U (zv G (bc b9) (zE G b9)) (zz WU [] λ a w U=>?_);refine aa<|wp_scope_straight ?_;refine qb<|zh (W9 20 [.v 6 _]) (Wp [.o 8]) U (zM 1 G (zM 1 G (zv G (aH qc (aB (vq 1 G))) (zv G (ce (vq 2 G) ab (Ht zo zo)) (zv G (bL aZ (aB (vq 0 G)) (vq 3 G) zo) (zv G (ap (vq 4 G) aN) (zQ G (MD _ (hy _ (qg _))) (.o (vq 5 G)) (zv G (aI .u64 zk zk (vq 6 G) ((show IntKind.u64.wrap _=((s:Nat):Int) from by rw [hsy];exact wu64 zo))) (zA 7 G o0))))))))) (zz UV [] λ a w U=>?_);refine zt<|EJ (sts:=[]) (news:=[⟨30,139,slH (x.length+1) (x.length+1),some 2,_,none⟩,⟨33,139,slH (y.length+1) (y.length+1),some 5,_,none⟩]) (sp:=[.v 28 _,.v 29 _,.alc 0,.v 31 _,.v 32 _,.alc 1,.v 34 _,.v 35 _,.adr 36 33 (.fn (cutV y.length)) True,.adr 7 30 .none True,.adr 1 33 (.fn (cutV y.length)) True]) [[],[],[0,1],[],[],[0,1,2,3,4],[],[6],[0,1,2,3,4,5,6,7],[0,1,2,3,4,5],[0,1,2,3,4,5,6,7,8,9]] [.g 4] [⟨7,139,slH (x.length+1) (x.length+1),_⟩,⟨1,139,slH y.length (y.length+1),_⟩] ac U (zM 0 G (zM 4 G (oc (AZ (xs:=[.tmp 28,.tmp 29]) G G G (up_c x s hxs hs32) (.p (aB (vq 0 G)) (vq 1 G))) (zM 1 G (zM 4 G (oc (AZ (xs:=[.tmp 31,.tmp 32]) G G G (up_c y s hys hs32) (.p (aB (vq 3 G)) (vq 4 G))) (zM 1 G (zv G (aH qc (aB (vq 6 G))) (oc (ob_a G G (Q8 aZ (lz0 1 G) (vq 7 G) zo zo)) (oc (ob_a G G mO) (oc (ob_a G G (Oc 8 G zk)) o0))))))))))) zk zk zk zk (.cons ⟨rfl,rfl,.inr ⟨9,.none,rfl,λ _=>rfl⟩⟩ (.cons ⟨rfl,rfl,.inr ⟨10,.fn (cutV y.length),rfl,λ _=>rfl⟩⟩ .nil)) (zz [(6,(NumA .u64 (s:Nat)).va)] [⟨7,139,slH (x.length+1) (x.length+1),Nums .u32 (digs (x.length+1) (val x*2^s))⟩,⟨1,139,slH y.length (y.length+1),Nums .u32 (digs (y.length+1) (val y*2^s))⟩] λ a w U=>?_);rw [← hX,← hDD,hyl] at U;obtain ⟨g0,_,U⟩:=St.expose U 0 rfl;obtain ⟨g1,_,U⟩:=St.expose U 1 rfl;have U:=zn [(1,EqV ((slH (k+2) (k+3)).f g1)),(7,EqV ((slH (x.length+1) (x.length+1)).f g0)),(6,(NumA .u64 (s:Nat)).va)] [⟨7,139,slH (x.length+1) (x.length+1),Nums .u32 (digs (x.length+1) X)⟩,⟨1,139,slH (k+2) (k+3),Nums .u32 (digs (k+3) DD)⟩] U;refine zt<|di (sts:=[none,none]) (news:=[⟨43,139,slH _ _,some 6,_,none⟩]) (sp:=[.v 37 _,.v 38 _,.v 39 _,.v 40 _,.v 41 _,.v 42 _,.alc 2,.adr 8 43 .none True]) [.g 0,.g 1,.g 2,.o 0] [(8,43)] [⟨7,139,slH (x.length+1) (x.length+1),_⟩,⟨1,139,slH (k+2) (k+3),_⟩,zpH 8 139 _] U (zM 1 G (zv G (dA qc (vq 0 G)) (zM 0 G (zv G (dA qc (vq 2 G)) (zv G (ce (vq 1 G) (vq 3 G) (wi64 zo zo)) (zv G (LR ab (vq 4 G) (show max (0:Int) _=((x.length+1-(k+2):Nat):Int) from by omega)) (oc (et G G G fp (vq 5 G) (vq 5 G) zo) (oc (ob_a G G mO) o0)))))))) zk zk zk ⟨⟨7,rfl⟩,trivial⟩ G zk (zz (Wf 1 7 6 37) [⟨7,139,slH (x.length+1) (x.length+1),_⟩,⟨1,139,slH (k+2) (k+3),_⟩,zpH 8 139 _] λ a w U=>?_);obtain ⟨g2,_,U⟩:=St.expose U 2 rfl;have U:=St.swap (g:=g0) (s':=37) (H':=slH (x.length+1) (x.length+1)) U 0 rfl (zm 2 rfl) (zm 4 rfl) rfl;refine zt<|zg UO [] (WG 44 [.v 9 _]) (Wi [.o 7]) U (zM 1 G (zM 1 G (zv G (dA qc (vq 1 G)) (zv G (ce (vq 2 G) ab (ye (n:=k+1) zo)) (zv G (cO aZ (vq 0 G) (vq 3 G) zo) (zv G (cm (vq 4 G) (lz0 1 G) (gq 1 G) (nums_at' (Cv zo)) aN) (zv G (aI .u64 zk zk (vq 5 G) (wu64 sQ)) (zA 6 G o0)))))))) (zz (Wj 8 1 7 6 37 9) [⟨37,139,slH (x.length+1) (x.length+1),_⟩,⟨1,139,slH (k+2) (k+3),_⟩,zpH 8 139 _] λ a w U=>?_);refine zt<|wp_label<|zt<|qb<|zg UO [] (Wb 51 [.v 10 _]) (Wq [.o 3]) U (zM 0 G (zv G (dA qc (vq 0 G)) (zv G (ce (vq 1 G) ab (wi64 zo zo)) (zA 2 G o0)))) (zz (Wu 8 1 7 6 37 9 10) [⟨37,139,slH (x.length+1) (x.length+1),_⟩,⟨1,139,slH (k+2) (k+3),_⟩,zpH 8 139 _] λ a w U=>?_);refine aa<|qk ?_;have U:=St.sel U [3,2,4,1,0,5,6];refine wp_loop_ghost (λ n a w=>n≤(x.length+1-(k+2))∧St B w0 200 [(6,(NumA .u64 (s:Nat)).va),(7,EqV ((slH (x.length+1) (x.length+1)).f g0)),(37,EqV ((slH (x.length+1) (x.length+1)).f g0)),(1,EqV ((slH (k+2) (k+3)).f g1)),(8,EqV ((slH (x.length+1-(k+2)) (x.length+1-(k+2))).f g2)),(9,(NumA .u64 (DD/4294967296^(k+1)%4294967296:Nat)).va),(10,In ((n:Int)-1))] [⟨37,139,slH (x.length+1) (x.length+1),Nums .u32 (dvL (x.length+1) X DD n)⟩,⟨1,139,slH (k+2) (k+3),Nums .u32 (digs (k+3) DD)⟩,⟨8,139,slH (x.length+1-(k+2)) (x.length+1-(k+2)),Nums .u32 (dvQ (x.length+1-(k+2)) X DD n)⟩] a w) ((x.length+1-(k+2))) ?_ ?_
 ·exact ⟨qh _,by rw [Kf hX0,Kd];exact U⟩
 intro n a w hI;obtain ⟨hn,U⟩:=hI;refine qb<|qb<|zg UO [] (W6 54) (Wx [.o 1]) U (zM 6 G (zv G (dD (vq 0 G) ab) o0)) (zz (Wy 6 7 37 1 8 9 10 55) [⟨37,139,slH (x.length+1) (x.length+1),_⟩,⟨1,139,slH (k+2) (k+3),_⟩,zpH 8 139 _] λ a w U=>?_);refine zJ 7 U G (λ hb0=>?_) (λ hb0=>?_)
 ·obtain ⟨i,rfl⟩:∃ i,n=i+1:=⟨n-1,by simp at hb0;omega⟩;rw [show ((i+1:Nat):Int)-1=(i:Int) from by omega] at U;have hv:Dv (x.length+1) k i (X%(DD*4294967296^(i+1))) DD:=PC zo d1 d2;have hu:=hv.at_;have hgs0:=hv.gs0 rfl rfl;have hgmax:=λ {g r:Nat}=>hv.gmax (g:=g) (r:=r);have hdown:=λ {g r:Nat}=>hv.down (g:=g) (r:=r);have hend1:=λ {g r:Nat}=>hv.end1 (g:=g) (r:=r);have hend2:=λ {g r:Nat}=>hv.end2 (g:=g) (r:=r);have hdq:=dv_q X DD i;have hyes:=hv.yes;have hls:=λ {g:Nat}=>hv.ls (g:=g);have hno:=λ {g:Nat}=>hv.end_no (g:=g);have hye:=λ {g:Nat}=>hv.yes_ex (g:=g);obtain ⟨Y,hY⟩:∃ Y,X%(DD*4294967296^(i+1))/4294967296^i=Y:=⟨_,rfl⟩;simp only [hY] at hu hgs0 hgmax hdown hend1 hend2 hdq hyes hls hno hye;have hhd:Y/4294967296^(k+2)%4294967296*4294967296+Y/4294967296^(k+1)%4294967296<18446744073709551616:=by
   have h1:Y/4294967296^(k+2)%4294967296<4294967296:=bbl;have h2:Y/4294967296^(k+1)%4294967296<4294967296:=bbl;omega
  refine qj<|zt<|qk<|qb<|zg UO [] (W9 58 [.v 11 _]) (Wx [.o 8]) U (zM 1 G (zM 6 G (zM 6 G (zM 3 G (zv G (dA qc (vq 3 G)) (zv G (aL (vq 2 G) (vq 4 G) (gG zo)) (zv G (aL (vq 5 G) ab (aU zo)) (zv G (LO aZ (vq 0 G) (vq 1 G) (vq 6 G) (L4 zo)) (zA 7 G o0))))))))) (zz (Wy 6 7 37 1 8 9 10 11) [⟨37,139,slH (x.length+1) (x.length+1),_⟩,⟨1,139,slH (k+2) (k+3),_⟩,zpH 8 139 _] λ a w U=>?_);have U:=St.swap (g:=g0) (s':=11) (H':=winH i (k+3) (x.length+1-i)) U 0 rfl (zm 2 rfl) (zm 7 rfl) rfl;refine zt<|zgd [[],[],[1],[0,1,2],(Wm 4),(Wm 5),(Wm 6),[],[],[8],[8,9],[7,8,9,10],[7,8,9,10,11],[7,8,9,10,11,12],(Wm 14),(Wm 15)] Ul [] (WH 66 [.v 12 _]) (WE [.o 15]) ac U (zM 7 G (zM 3 G (zv G (dA qc (vq 1 G)) (zv G (cO aZ (vq 0 G) (vq 2 G) zo) (zv G (cm (vq 3 G) (lz0 0 G) (gq 7 G) (nums_at' (hu (k+2) zo)) aN) (zv G (aI .u64 zk zk (vq 4 G) (wu64 sQ)) (zv G (uT (vq 5 G) (aE 32 G) zd (sW bbl)) (zM 7 G (zM 3 G (zv G (dA qc (vq 8 G)) (zv G (ce (vq 9 G) ab (ye (n:=k+1) zo)) (zv G (cO aZ (vq 7 G) (vq 10 G) zo) (zv G (cm (vq 11 G) (lz0 0 G) (gq 7 G) (nums_at' (hu (k+1) zo)) aN) (zv G (aI .u64 zk zk (vq 12 G) (wu64 sQ)) (zv G (uV (vq 6 G) (vq 13 G) (or64 bbl bbl)) (zA 14 G o0)))))))))))))))) zk zk zk zk (zz (WF 6 7 37 1 8 9 10 11 12) [⟨11,139,winH i (k+3) (x.length+1-i),_⟩,⟨1,139,slH (k+2) (k+3),_⟩,zpH 8 139 _] λ a w U=>?_);refine zt<|zgd [[],[],[0,1],[],[],[3,4],[0,1,2],(Wm 7)] Ul [] (Wl 81 (W6 13)) (WE [.o 6,.o 7]) ac U (zM 8 G (zM 5 G (zv G (mS (vq 0 G) (vq 1 G) zo (nquo (za (j8 _ _) hhd))) (zM 8 G (zM 5 G (zv G (py (vq 3 G) (vq 4 G) zo (nrem)) (zA 2 G (zA 5 G o0)))))))) zk zk zk zk (zz (Wz 6 7 37 1 8 9 10 11 13 14) [⟨11,139,winH i (k+3) (x.length+1-i),_⟩,⟨1,139,slH (k+2) (k+3),_⟩,zpH 8 139 _] λ a w U=>?_);refine zt<|y6 (λ a w=>∃ q:Nat,(q<4294967296∧(q=Y/DD∨q=Y/DD+1))∧St B w0 200 [(6,(NumA .u64 (s:Nat)).va),(7,EqV ((slH (x.length+1) (x.length+1)).f g0)),(37,EqV ((slH (x.length+1) (x.length+1)).f g0)),(1,EqV ((slH (k+2) (k+3)).f g1)),(8,EqV ((slH (x.length+1-(k+2)) (x.length+1-(k+2))).f g2)),(9,(NumA .u64 (DD/4294967296^(k+1)%4294967296:Nat)).va),(10,In (i:Nat)),(11,EqV ((winH i (k+3) (x.length+1-i)).f g0)),(13,(NumA .u64 (q:Nat)).va)] [⟨11,139,winH i (k+3) (x.length+1-i),Nums .u32 (dvL (x.length+1) X DD (i+1))⟩,⟨1,139,slH (k+2) (k+3),Nums .u32 (digs (k+3) DD)⟩,⟨8,139,slH (x.length+1-(k+2)) (x.length+1-(k+2)),Nums .u32 (dvQ (x.length+1-(k+2)) X DD (i+1))⟩] a w) ?_ (λ a w U=>?_)
  ·have U:=St.sel U [0,1,2,3,4,5,6,7,8,9];refine wp_loop_ghost (λ n a w=>∃ r:Nat,Gs k Y DD n r∧St B w0 200 [(6,(NumA .u64 (s:Nat)).va),(7,EqV ((slH (x.length+1) (x.length+1)).f g0)),(37,EqV ((slH (x.length+1) (x.length+1)).f g0)),(1,EqV ((slH (k+2) (k+3)).f g1)),(8,EqV ((slH (x.length+1-(k+2)) (x.length+1-(k+2))).f g2)),(9,(NumA .u64 (DD/4294967296^(k+1)%4294967296:Nat)).va),(10,In (i:Nat)),(11,EqV ((winH i (k+3) (x.length+1-i)).f g0)),(13,(NumA .u64 (n:Nat)).va),(14,(NumA .u64 (r:Nat)).va)] [⟨11,139,winH i (k+3) (x.length+1-i),Nums .u32 (dvL (x.length+1) X DD (i+1))⟩,⟨1,139,slH (k+2) (k+3),Nums .u32 (digs (k+3) DD)⟩,⟨8,139,slH (x.length+1-(k+2)) (x.length+1-(k+2)),Nums .u32 (dvQ (x.length+1-(k+2)) X DD (i+1))⟩] a w) ((Y/4294967296^(k+2)%4294967296*4294967296+Y/4294967296^(k+1)%4294967296)/(DD/4294967296^(k+1)%4294967296)) ?_ ?_
   ·exact ⟨_,hgs0,U⟩
   intro n a w hI;obtain ⟨r,hgs,U⟩:=hI;have hgm:=hgmax hgs;have hr:=hgs.r;refine qb<|qb<|iV (anc:=[[],[0],[0,1],[0,1,2],[0,1,2],[0,1,2],[0,1,2,5],[0,1,2,5,6],[0,1,2,4,5,6,7],[0,1,2,4,5,6,7,8],[0,1,2,4,5,6,7,8,9],[0,1,2,3,4,5,6,7,8,9,10],[0,1,2],[0,1,2,12],[0,1,2],[0,1,2],[0,1,2,15],[0,1,2,15,16],[0,1,2,14,15,16,17],[0,1,2,14,15,16,17,18],[0,1,2,14,15,16,17,18,19],[0,1,2,12,13,14,15,16,17,18,19,20],[0,1,2,3,4,5,6,7,8,9,10,11,12,13,14,15,16,17,18,19,20,21],[0,1,2,3,4,5,6,7,8,9,10,11,12,13,14,15,16,17,18,19,20,21,22]]) (sts:=[none,none,none]) (news:=[]) (sp:=((.v 87 _:Sp)::(.v 88 _)::(.v 89 _)::(.f 90 _)::(.f 91 _)::(.f 92 _)::(.f 93 _)::(.f 94 _)::(.f 95 _)::(.f 96 _)::(.f 97 _)::(.f 98 _)::(.f 99 _)::(.f 100 _)::(.f 101 _)::(.f 102 _)::(.f 103 _)::(.f 104 _)::(.f 105 _)::(.f 106 _)::(.f 107 _)::(.f 108 _)::(.f 109 _)::(.v 110 _)::[])) [.g 0,.g 1,.g 2,.g 3,.g 4,.g 5,.g 6,.g 7,.g 8,.g 9,.o 23] ac U (zM 8 G (zv G (dD (vq 0 G) (aE 4294967296 G)) (zV 1 G (zB 2 G (λ hg=>aA (gq 8 G)) (zB 2 G (λ hg=>aA (gq 3 G)) (zB 2 G (λ hg=>aA (gq 3 G)) (zB 2 G (λ hg=>dA qc (ae (vq 5 G) hg)) (zB 2 G (λ hg=>ce (ae (vq 6 G) hg) ab (L5 zo)) (zB 2 G (λ hg=>cO aZ (ae (vq 4 G) hg) (ae (vq 7 G) hg) zo) (zB 2 G (λ hg=>cm (ae (vq 8 G) hg) (lz0 1 G) (gq 3 G) (nums_at' (Cv zo)) aN) (zB 2 G (λ hg=>aI .u64 zk zk (ae (vq 9 G) hg) (wu64 sQ)) (zB 2 G (λ hg=>mc (ae (vq 3 G) hg) (ae (vq 10 G) hg) (pa (El (N0 hg) bbl))) (zB 2 G (λ hg=>aA (gq 9 G)) (zB 2 G (λ hg=>uT (ae (vq 12 G) hg) (aE 32 G) zd (sW hr)) (zB 2 G (λ hg=>aA (gq 7 G)) (zB 2 G (λ hg=>aA (gq 3 G)) (zB 2 G (λ hg=>dA qc (ae (vq 15 G) hg)) (zB 2 G (λ hg=>ce (ae (vq 16 G) hg) ab (L5 zo)) (zB 2 G (λ hg=>cO aZ (ae (vq 14 G) hg) (ae (vq 17 G) hg) zo) (zB 2 G (λ hg=>cm (ae (vq 18 G) hg) (lz0 0 G) (gq 7 G) (nums_at' (hu k zo)) aN) (zB 2 G (λ hg=>aI .u64 zk zk (ae (vq 19 G) hg) (wu64 sQ)) (zB 2 G (λ hg=>uV (ae (vq 13 G) hg) (ae (vq 20 G) hg) (or64 hr bbl)) (zB 2 G (λ hg=>cD (ae (vq 11 G) hg) (ae (vq 21 G) hg)) (zv G (r_or (vq 2 G) (vq 22 G)) o0)))))))))))))))))))))))) zk zk zk zk (zz (WB 6 7 37 1 8 9 10 11 13 14 110) [⟨11,139,winH i (k+3) (x.length+1-i),_⟩,⟨1,139,slH (k+2) (k+3),_⟩,zpH 8 139 _] λ a w U=>?_);refine zJ 10 U G (λ hb1=>?_) (λ hb1=>?_)
   ·have hlt:=hdown hgs (Ma hb1);have hn0:0<n:=za (zf _) hlt;refine qj<|aa<|qk<|qb<|zg UO [] (W6 111 [.v 13 _]) (WE [.g 9,.o 2]) U (zM 8 G (zv G (ce (vq 0 G) (aE 1 G) (sV hn0 zo)) (zA 1 G o0))) (zz (Wz 6 7 37 1 8 9 10 11 14 13) [⟨11,139,winH i (k+3) (x.length+1-i),_⟩,⟨1,139,slH (k+2) (k+3),_⟩,zpH 8 139 _] ?_);refine ztA<|zgA Ul [] (Wb 113 [.v 14 _]) (WE [.g 9,.o 3]) (zM 8 G (zM 5 G (zv G (aL (vq 0 G) (vq 1 G) (dE zo)) (zA 2 G o0)))) (zz (Wz 6 7 37 1 8 9 10 11 13 14) [⟨11,139,winH i (k+3) (x.length+1-i),_⟩,⟨1,139,slH (k+2) (k+3),_⟩,zpH 8 139 _] ?_);refine ztA<|zgA Ul [] (W6 116) (WA [.o 1]) (zM 9 G (zv G (dD (vq 0 G) (aE 4294967296 G)) o0)) (zz (WB 6 7 37 1 8 9 10 11 13 14 117) [⟨11,139,winH i (k+3) (x.length+1-i),_⟩,⟨1,139,slH (k+2) (k+3),_⟩,zpH 8 139 _] λ a w U=>?_);refine zJ 10 U G (λ hb2=>?_) (λ hb2=>?_)
    ·refine qP<|blk_exit' zd ?_;refine ai<|az<|aa ?_;have U:=St.sel U [0,1,2,3,4,5,6,7,8];exact ⟨_,hend2 hgs hlt (MZ hb2),U⟩
    ·refine qj<|al ?_;refine aa ?_;have U:=St.sel U [0,1,2,3,4,5,6,7,8,9];exact ⟨n-1,by omega,_,hgs.next hlt (N0 hb2),U⟩
   ·obtain ⟨hq,hle⟩:=P3 hb1;refine qP<|ai<|ai<|az<|aa ?_;have U:=St.sel U [0,1,2,3,4,5,6,7,8];exact ⟨_,⟨hq,hend1 hgs hq hle⟩,U⟩
  obtain ⟨q,⟨hq,hqq⟩,U⟩:=U;refine zt<|qb<|zg [some (3,_),η,η] [] (Wb 118 [.cal 121 _ 0,.v 122 _]) (WD [.o 4]) U (zM 7 G (zM 3 G (zM 8 G (oc (IU (xs:=[.tmp 120]) G G G (MK (dvL (x.length+1) X DD (i+1)) (digs (k+3) DD) i (k+2) (x.length+1-i) (k+3) q (bV _ _) (bV _ _) (by rw [ar];omega) (by rw [show (dvL (x.length+1) X DD (i+1)).length=x.length+1 from ar _ _];omega) zo hq) (arwE (vq 0 G) (gq 7 G)) (lz0 1 G) (Nat.ne_of_beq_eq_false G) (arwE (vq 1 G) (gq 3 G)) (.o (vq 2 G))) (zv G (er (JJ 3 G zk zk)) o0))))) (zz (Wz 6 7 37 1 8 9 10 11 13 122) [⟨11,139,winH i (k+3) (x.length+1-i),_⟩,⟨1,139,slH (k+2) (k+3),_⟩,zpH 8 139 _] λ a w U=>?_);refine zJ 9 U G (λ hb3=>?_) (λ hb3=>?_)
  ·have hqd:q=Y/DD:=by
    rcases hqq with hqq|hqq
    ·exact hqq
    ·exfalso;have:¬ _:=λ hh=>by rw [qE (hls.2 hh)] at hb3;exact Bool.noConfusion hb3
     exact this (hqq▸hyes)
   have U:=St.cvA U 0 rfl (qt (Nums .u32) (hno hqd));refine qb<|zg [η,η,some (5,_)] [] (Wd 123 [.sto 2]) WD U (zM 4 G (zM 6 G (zM 8 G (zv G (aI .u32 zk zk (vq 2 G) (wu32 hq)) (zv G (cO aZ (vq 0 G) (vq 1 G) zo) (oc (gz G G G (vq 4 G) (gq 4 G) (vq 3 G) aN (bx (by rw [Cj zo];omega))) o0)))))) (zz (WF 6 7 37 1 8 9 10 11 13) [⟨11,139,winH i (k+3) (x.length+1-i),_⟩,⟨1,139,slH (k+2) (k+3),_⟩,zpH 8 139 _] λ a w U=>?_);refine aa<|qP<|ai<|az<|aa<|zg UO [] (W6 56 [.v 10 _]) (Wq [.g 7,.o 2]) U (zM 6 G (zv G (ce (vq 0 G) ab (wi64 zo zo)) (zA 1 G o0))) (zz (Wy 6 7 37 1 8 9 11 10) [⟨11,139,winH i (k+3) (x.length+1-i),_⟩,⟨1,139,slH (k+2) (k+3),_⟩,zpH 8 139 _] λ a w U=>?_);have U:=St.swap (g:=g0) (s':=37) (H':=slH (x.length+1) (x.length+1)) U 0 rfl (zm 6 rfl) (zm 2 rfl) rfl;refine aa ?_;have U:=St.sel U [0,1,2,3,4,5,7];have U:=St.cvA (A':=Nums .u32 (dvQ (x.length+1-(k+2)) X DD i)) U 2 rfl (qt (Nums .u32) (by rw [qV,hqd,hdq];exact uj zo));exact ⟨i,by omega,by omega,U⟩
  ·have hqd:q=Y/DD+1:=by
    rcases hqq with hqq|hqq
    ·exfalso;have h1:¬ (Y<q*DD):=by rw [hqq];have:=jC Y DD;omega
     rw [zK (λ hh=>h1 (hls.1 hh))] at hb3;exact Bool.noConfusion hb3
    ·exact hqq
   obtain ⟨M,hM,hMl,hWl,hWok,hMe⟩:=hye hqd;have U:=St.cvA U 0 rfl (qt (Nums .u32) hM);have hDok:okL ((digs (k+3) DD).take (k+2)):=o8 (bV _ _) _;refine qj<|zt<|zg [η,η,some (6,_)] [] (Wl 128 [.sto 2]) WE U (zM 4 G (zM 6 G (zM 8 G (zv G (ce (vq 2 G) (aE 1 G) (sV zo zo)) (zv G (aI .u32 zk zk (vq 3 G) (wu32 zo)) (zv G (cO aZ (vq 0 G) (vq 1 G) zo) (oc (gz G G G (vq 5 G) (gq 4 G) (vq 4 G) aN (bx (by rw [Cj zo];omega))) o0))))))) (zz (Wy 6 7 37 1 8 9 10 11) [⟨11,139,winH i (k+3) (x.length+1-i),_⟩,⟨1,139,slH (k+2) (k+3),_⟩,zpH 8 139 _] ?_);refine ztA<|zgA Ul [] [.v 15 _] (WE [.o 0]) (zv G (bc (aE 0 G)) o0) (zz (WF 6 7 37 1 8 9 10 11 15) [⟨11,139,winH i (k+3) (x.length+1-i),_⟩,⟨1,139,slH (k+2) (k+3),_⟩,zpH 8 139 _] ?_);refine ztA<|zsA<|zgA Ul [] (Wb 134) (WD [.o 0,.o 1,.o 2]) (zM 3 G (zv G (dA qc (vq 0 G)) (zv G (aA ab) o0))) (zz (WC 6 7 37 1 8 9 10 11 15 134 135 136) [⟨11,139,winH i (k+3) (x.length+1-i),_⟩,⟨1,139,slH (k+2) (k+3),_⟩,zpH 8 139 _] λ a w U=>?_);refine aa<|qk ?_;have U:=St.sel U [0,1,2,3,4,5,6,7,9,10,11,8];refine wp_loop_ghost (λ n a w=>∃ j:Nat,n+j=k+2∧St B w0 200 [(6,(NumA .u64 (s:Nat)).va),(7,EqV ((slH (x.length+1) (x.length+1)).f g0)),(37,EqV ((slH (x.length+1) (x.length+1)).f g0)),(1,EqV ((slH (k+2) (k+3)).f g1)),(8,EqV ((slH (x.length+1-(k+2)) (x.length+1-(k+2))).f g2)),(9,(NumA .u64 (DD/4294967296^(k+1)%4294967296:Nat)).va),(10,In (i:Nat)),(11,EqV ((winH i (k+3) (x.length+1-i)).f g0)),(134,EqV ((slH (k+2) (k+3)).f g1)),(135,In ((k+2):Nat)),(136,In (j:Nat)),(15,(NumA .u32 (bD ((M.drop i).take (k+3)) ((digs (k+3) DD).take (k+2)) j/4294967296^j:Nat)).va)] [⟨11,139,winH i (k+3) (x.length+1-i),Nums .u32 (spl M i (digs j (bD ((M.drop i).take (k+3)) ((digs (k+3) DD).take (k+2)) j)))⟩,⟨1,139,slH (k+2) (k+3),Nums .u32 (digs (k+3) DD)⟩,⟨8,139,slH (x.length+1-(k+2)) (x.length+1-(k+2)),Nums .u32 ((dvQ (x.length+1-(k+2)) X DD (i+1)).set (0+i) (q-1))⟩] a w) (k+2) ?_ ?_
   ·exact ⟨0,by omega,by rw [show ∀ m,digs 0 m=[] from λ _=>rfl,rN,fK,show (0:Nat)/4294967296^0=0 from rfl];exact U⟩
   intro n a w hI;obtain ⟨j,hn,U⟩:=hI;refine qb<|zg UO [] [.v 137 _] (WI [.o 0]) U (zv G (aO (gq 10 G) (gq 9 G)) o0) (zz (WJ 6 7 37 1 8 9 10 11 134 135 136 15 137) [⟨11,139,winH i (k+3) (x.length+1-i),_⟩,⟨1,139,slH (k+2) (k+3),_⟩,zpH 8 139 _] λ a w U=>?_);refine zt<|c7 U (zm 12 G) (λ hb4=>?_) (λ hb4=>?_)
   ·have hj:j<k+2:=by simp at hb4;omega
    have hwx:(spl M i (digs j (bD ((M.drop i).take (k+3)) ((digs (k+3) DD).take (k+2)) j)))[i+j]?=some ((((M.drop i).take (k+3))).getD j 0):=by rw [ln zo,lX (by rw [ar];omega) zo]
    have hdx:(digs (k+3) DD)[0+j]?=some ((((digs (k+3) DD).take (k+2))).getD j 0):=by rw [pn hj,qV];exact getD_some (by rw [ar];omega)
    have hcy:bD ((M.drop i).take (k+3)) ((digs (k+3) DD).take (k+2)) j/4294967296^j<4294967296:=za (eV hWok hDok _) zd;have hsl:(spl M i (digs j (bD ((M.drop i).take (k+3)) ((digs (k+3) DD).take (k+2)) j))).length=x.length+1:=by rw [iM (by rw [ar];omega),hMl]
    refine qj<|zt<|qk<|qb<|zg UO [] (Wb 138 (W6 16)) (WI [.o 3,.o 4]) U (zM 10 G (zv G (cO aZ (gq 8 G) (gq 10 G) zo) (zv G (cm (vq 1 G) (lz0 1 G) (gq 3 G) (nums_at' hdx) aN) (zA 0 G (zA 2 G o0))))) (zz (WK 6 7 37 1 8 9 10 11 134 135 136 15 16 17) [⟨11,139,winH i (k+3) (x.length+1-i),_⟩,⟨1,139,slH (k+2) (k+3),_⟩,zpH 8 139 _] ?_);refine znA<|zgA [some (13,_),none,none] [] (Wo 142 (.v 141 _::(Wb 151 [.sto 0,.v 15 _]))) (WL [.o 14]) (zM 7 G (zM 12 G (zM 7 G (zM 12 G (zv G (cO aZ (vq 2 G) (vq 3 G) zo) (zv G (cm (vq 4 G) (lz0 0 G) (gq 7 G) (nums_at' hwx) aN) (zM 13 G (zM 11 G (zQ G (mN (mr hWok _) (mr hDok _) hcy) (.cons (vq 5 G) (.p (vq 6 G) (vq 7 G))) (zV 8 G (zv G (aP (vq 9 G) G) (zv G (aP (vq 9 G) G) (zv G (cO aZ (vq 0 G) (vq 1 G) zo) (oc (gz G G G (vq 12 G) (gq 7 G) (vq 10 G) aN (bx zo)) (zA 11 G o0))))))))))))))) (zz (WC 6 7 37 1 8 9 10 11 134 135 136 15) [⟨11,139,winH i (k+3) (x.length+1-i),_⟩,⟨1,139,slH (k+2) (k+3),_⟩,zpH 8 139 _] λ a w U=>?_);refine al ?_;refine aa<|zg UO [] [.v 154 _,.v 136 _] (WA [.g 11,.o 1]) U (zv G (aL (gq 10 G) ab (aU zo)) (zV 0 G o0)) (zz (WC 6 7 37 1 8 9 10 11 134 135 15 136) [⟨11,139,winH i (k+3) (x.length+1-i),_⟩,⟨1,139,slH (k+2) (k+3),_⟩,zpH 8 139 _] λ a w U=>?_);refine aa ?_;have U:=St.sel U [0,1,2,3,4,5,6,7,8,9,11,10];rw [lW (ar _ _) zo,KP zo,FP zo] at U;exact ⟨n-1,by omega,j+1,by omega,U⟩
   ·obtain rfl:j=k+2:=by simp at hb4;omega
    have hwx:(spl M i (digs (k+2) (bD ((M.drop i).take (k+3)) ((digs (k+3) DD).take (k+2)) (k+2))))[i+(k+2)]?=some ((((M.drop i).take (k+3))).getD (k+2) 0):=by rw [ln zo,lX (by rw [ar];omega) zo]
    have hsl:(spl M i (digs (k+2) (bD ((M.drop i).take (k+3)) ((digs (k+3) DD).take (k+2)) (k+2)))).length=x.length+1:=by rw [iM (by rw [ar];omega),hMl]
    refine qP<|ai<|ai<|az<|aa<|zg [some (8,_),η,η] [] (W9 155 [.sto 0]) WE U (zM 7 G (zM 3 G (zv G (dA qc (vq 1 G)) (zv G (cO aZ (vq 0 G) (vq 2 G) zo) (zv G (cm (vq 3 G) (lz0 0 G) (gq 7 G) (nums_at' hwx) aN) (zM 11 G (zv G (aL (vq 4 G) (vq 5 G) (wu32')) (zv G (cO aZ (vq 0 G) (vq 2 G) zo) (oc (gz G G G (vq 7 G) (gq 7 G) (vq 6 G) aN (bx zo)) o0))))))))) (zz (Wy 6 7 37 1 8 9 10 11) [⟨11,139,winH i (k+3) (x.length+1-i),_⟩,⟨1,139,slH (k+2) (k+3),_⟩,zpH 8 139 _] λ a w U=>?_);refine al ?_;refine aa<|zg UO [] (W6 56 [.v 10 _]) (Wq [.g 7,.o 2]) U (zM 6 G (zv G (ce (vq 0 G) ab (wi64 zo zo)) (zA 1 G o0))) (zz (Wy 6 7 37 1 8 9 11 10) [⟨11,139,winH i (k+3) (x.length+1-i),_⟩,⟨1,139,slH (k+2) (k+3),_⟩,zpH 8 139 _] λ a w U=>?_);have U:=St.swap (g:=g0) (s':=37) (H':=slH (x.length+1) (x.length+1)) U 0 rfl (zm 6 rfl) (zm 2 rfl) rfl;refine aa ?_;have U:=St.sel U [0,1,2,3,4,5,7];have U:=St.cvA (A':=Nums .u32 (dvL (x.length+1) X DD i)) U 0 rfl (qt (Nums .u32) (by rw [lW (ar _ _) zo];exact hMe));have U:=St.cvA (A':=Nums .u32 (dvQ (x.length+1-(k+2)) X DD i)) U 2 rfl (qt (Nums .u32) (by rw [qV,hqd,jl,hdq];exact uj zo));exact ⟨i,by omega,by omega,U⟩
 ·obtain rfl:n=0:=by simp at hb0;omega
  refine qP<|ai<|ai<|az<|zt<|zg UO [] (Ww 163 [.v 7 _]) [.g 0,.g 2,.g 3,.g 4,.o 4] U (zM 1 G (zM 3 G (zv G (dA qc (vq 1 G)) (zv G (Ai aZ (vq 0 G) (vq 2 G) zo) (zA 3 G o0))))) (zz (W8 6 37 1 8 7) [⟨37,139,slH (x.length+1) (x.length+1),_⟩,⟨1,139,slH (k+2) (k+3),_⟩,zpH 8 139 _] ?_);refine ztA<|zsA<|zgA Ul [] (Wb 167) (Wi [.o 1,.o 2]) (zM 4 G (zv G (dA qc (vq 0 G)) (zv G (aA ab) o0))) (zz (Wu 6 37 1 8 7 168 169) [⟨37,139,slH (x.length+1) (x.length+1),_⟩,⟨1,139,slH (k+2) (k+3),_⟩,zpH 8 139 _] λ a w U=>?_);refine aa<|qk ?_;have U:=St.sel U [0,4,1,3,5,6];refine wp_loop_ghost (λ n a w=>∃ j:Nat,n+j=k+2∧St B w0 200 [(6,(NumA .u64 (s:Nat)).va),(7,EqV ((slH (k+2) (x.length+1)).f g0)),(37,EqV ((slH (x.length+1) (x.length+1)).f g0)),(8,EqV ((slH (x.length+1-(k+2)) (x.length+1-(k+2))).f g2)),(168,In ((k+2):Nat)),(169,In (j:Nat))] [⟨37,139,slH (x.length+1) (x.length+1),Nums .u32 (dvF (x.length+1) R s j)⟩,⟨1,139,slH (k+2) (k+3),Nums .u32 (digs (k+3) DD)⟩,⟨8,139,slH (x.length+1-(k+2)) (x.length+1-(k+2)),Nums .u32 (dvQ (x.length+1-(k+2)) X DD 0)⟩] a w) (k+2) ?_ ?_
  ·exact ⟨0,by omega,by rw [Fk,hR];exact U⟩
  intro n a w hI;obtain ⟨j,hn,U⟩:=hI;refine qb<|zg UO [] [.v 170 _] (Wq [.o 0]) U (zv G (aO (gq 5 G) (gq 4 G)) o0) (zz (Wu 6 7 37 8 168 169 170) [⟨37,139,slH (x.length+1) (x.length+1),_⟩,⟨1,139,slH (k+2) (k+3),_⟩,zpH 8 139 _] λ a w U=>?_);refine zt<|c7 U (zm 6 G) (λ hb5=>?_) (λ hb5=>?_)
  ·have hj:j<k+2:=by simp at hb5;omega
   have hf0:(dvF (x.length+1) R s j)[0+j]?=some (R/4294967296^j%4294967296):=by rw [qV];exact Ck (qh _) zo
   refine qj<|zt<|qk<|qb<|zg UO [] [.v 171 _,.v 18 _] (Wq [.o 1]) U (zM 5 G (zA 0 G o0)) (zz (Wu 6 7 37 8 168 169 18) [⟨37,139,slH (x.length+1) (x.length+1),_⟩,⟨1,139,slH (k+2) (k+3),_⟩,zpH 8 139 _] ?_);refine ztA<|zgA Ul [] [.v 19 _] (Wx [.o 0]) (zv G (bc (aE 0 G)) o0) (zz (Wy 6 7 37 8 168 169 18 19) [⟨37,139,slH (x.length+1) (x.length+1),_⟩,⟨1,139,slH (k+2) (k+3),_⟩,zpH 8 139 _] ?_);refine ztA<|zsA<|zgA Ul [] (Wd 172) (WE [.o 4]) (zM 6 G (zv G (aL (vq 0 G) ab (aU zo)) (zM 1 G (zv G (dA qc (vq 2 G)) (zv G (aO (vq 1 G) (vq 3 G)) o0))))) (zz (WF 6 7 37 8 168 169 18 19 176) [⟨37,139,slH (x.length+1) (x.length+1),_⟩,⟨1,139,slH (k+2) (k+3),_⟩,zpH 8 139 _] λ a w U=>?_);refine aa<|bN (λ a w =>  St B w0 200 [(6,(NumA .u64 (s:Nat)).va),(7,EqV ((slH (k+2) (x.length+1)).f g0)),(37,EqV ((slH (x.length+1) (x.length+1)).f g0)),(8,EqV ((slH (x.length+1-(k+2)) (x.length+1-(k+2))).f g2)),(168,In ((k+2):Nat)),(169,In (j:Nat)),(18,In (j:Nat)),(19,(NumA .u32 (R/4294967296^(j+1)%4294967296:Nat)).va)] [⟨37,139,slH (x.length+1) (x.length+1),Nums .u32 (dvF (x.length+1) R s j)⟩,⟨1,139,slH (k+2) (k+3),Nums .u32 (digs (k+3) DD)⟩,⟨8,139,slH (x.length+1-(k+2)) (x.length+1-(k+2)),Nums .u32 (dvQ (x.length+1-(k+2)) X DD 0)⟩] a w) U (zm 8 G) (λ hb6=>?_) (λ hb6=>?_) (λ a w U=>?_)
   ·have hj1:j+1<k+2:=by simp at hb6;omega
    have hf1:(dvF (x.length+1) R s j)[0+(j+1)]?=some (R/4294967296^(j+1)%4294967296):=by rw [qV];exact Ck zo zo
    refine zg UO [] (Wd 177 [.v 19 _]) (Wx [.o 5]) U (zM 1 G (zM 6 G (zv G (aL (vq 1 G) ab (aU zo)) (zv G (cO aZ (vq 0 G) (vq 2 G) zo) (zv G (cm (vq 3 G) (lz0 0 G) (gq 2 G) (nums_at' hf1) aN) (zA 4 G o0)))))) (zz (Wy 6 7 37 8 168 169 18 19) [⟨37,139,slH (x.length+1) (x.length+1),_⟩,⟨1,139,slH (k+2) (k+3),_⟩,zpH 8 139 _] λ a w U=>?_);refine aa ?_;have U:=St.sel U [0,1,2,3,4,5,6,7];exact U
   ·have hj1:j+1=k+2:=by simp at hb6;omega
    refine qj<|aa ?_;have U:=St.sel U [0,1,2,3,4,5,6,7];rw [hj1,hR0];exact U
   refine aa<|zg [some (15,_),η,η] [] (WH 182 [.sto 0]) Wq U (zM 1 G (zM 6 G (zM 7 G (zv G (aI .u64 zk zk (vq 2 G) (wu64 sQ)) (zv G (uT (vq 3 G) (aE 32 G) zd (sW bbl)) (zM 1 G (zM 6 G (zv G (cO aZ (vq 5 G) (vq 6 G) zo) (zv G (cm (vq 7 G) (lz0 0 G) (gq 2 G) (nums_at' hf0) aN) (zv G (aI .u64 zk zk (vq 8 G) (wu64 sQ)) (zv G (uV (vq 4 G) (vq 9 G) (or64 bbl bbl)) (zM 0 G (zv G (lk (vq 10 G) (vq 11 G) (⟨by omega,by show (s:Int)≤64;omega⟩) (nshr)) (zv G (aI .u32 zk zk (vq 12 G) (wlow)) (zv G (cO aZ (vq 0 G) (vq 1 G) zo) (oc (gz G G G (vq 14 G) (gq 2 G) (vq 13 G) aN (bx (by rw [Kg zo];omega))) o0)))))))))))))))) (zz (Wj 6 7 37 8 168 169) [⟨37,139,slH (x.length+1) (x.length+1),_⟩,⟨1,139,slH (k+2) (k+3),_⟩,zpH 8 139 _] λ a w U=>?_);refine al ?_;refine aa<|zg UO [] [.v 197 _,.v 169 _] (Wi [.o 1]) U (zv G (aL (gq 5 G) ab (aU zo)) (zV 0 G o0)) (zz (Wj 6 7 37 8 168 169) [⟨37,139,slH (x.length+1) (x.length+1),_⟩,⟨1,139,slH (k+2) (k+3),_⟩,zpH 8 139 _] λ a w U=>?_);refine aa ?_;have U:=St.sel U [0,1,2,3,4,5];rw [qV,Fl hs32 zo] at U;exact ⟨n-1,by omega,j+1,by omega,U⟩
  ·obtain rfl:j=k+2:=by simp at hb5;omega
   refine qP<|ai<|ai<|az<|zt<|zg UO [] (W6 198 (W6 4)) [.g 1,.g 2,.g 3,.o 2,.o 3] U (zM 3 G (zM 1 G (zA 0 G (zA 1 G o0)))) (zz (W8 7 37 8 4 5) [⟨37,139,slH (x.length+1) (x.length+1),_⟩,⟨1,139,slH (k+2) (k+3),_⟩,zpH 8 139 _] λ a w U=>?_);have U:=St.asN (t:=4) U (digs (x.length+1-(k+2)) (val x/val y)) [] 2 rfl (zm 2 rfl) (zm 3 rfl) (by rw [hend4,zr]) (ar _ _).symm (by unfold maxLen;omega) (bV _ _) (by simp only [qx,xp,ar] <;> omega);have U:=St.asN (t:=5) U (digs (k+2) (val x%val y)) ((digs (x.length+1) R).drop (k+2)) 0 rfl (zm 2 rfl) (zm 5 rfl) (by rw [Kh,hend5]) (ar _ _).symm (by unfold maxLen;omega) (bV _ _) (by simp only [qx,xM,ar] <;> omega);refine aa<|qi<|lZ ?_;exact aX (rs:=[.tmp 4,.tmp 5]) G U (.tmp (zm 1 G) (.tmp (zm 0 G) .nil)) zd
end Go.Proofs.YtckfapioofbfpaaGreatDoor
