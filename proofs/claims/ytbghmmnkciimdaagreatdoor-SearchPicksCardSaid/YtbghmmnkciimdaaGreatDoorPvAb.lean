import Derived.Test.YtbghmmnkciimdaaGreatDoorPvAa
import Derived.Test.YtbghmmnkciimdaaGreatDoorProg
import Derived.Laws.Bits64b
import Derived.Lib.MinMax
import Derived.Laws.BitsLemmas
import Derived.OwnWalk
import Derived.Maps.AppendAt
import Derived.Lib.Walk
import Derived.Lib.SliceRun
import Derived.Scope
set_option linter.all false
set_option maxRecDepth 100000
namespace Go.Proofs.YtbghmmnkciimdaaGreatDoor
open Go Go.RowKit
theorem fU:Fld Tryz.prog 103 0 0 4:=⟨_,_,Tryz.underlying103,rfl,rfl,by kernel_rfl,by decide⟩
theorem fT:Fld Tryz.prog 103 1 4 4:=⟨_,_,Tryz.underlying103,rfl,rfl,by kernel_rfl,by decide⟩
theorem cF:Fld Tryz.prog 124 0 0 4:=⟨_,_,Tryz.underlying124,rfl,rfl,by kernel_rfl,by decide⟩
theorem cA:Fld Tryz.prog 124 1 4 4:=⟨_,_,Tryz.underlying124,rfl,rfl,by kernel_rfl,by decide⟩
theorem sb:Fld Tryz.prog 131 0 0 4:=⟨_,_,Tryz.underlying131,rfl,rfl,by kernel_rfl,by decide⟩
theorem sa:Fld Tryz.prog 131 1 4 4:=⟨_,_,Tryz.underlying131,rfl,rfl,by kernel_rfl,by decide⟩
theorem s9:Fld Tryz.prog 131 2 8 4:=⟨_,_,Tryz.underlying131,rfl,rfl,by kernel_rfl,by decide⟩
theorem s7:Fld Tryz.prog 131 3 12 4:=⟨_,_,Tryz.underlying131,rfl,rfl,by kernel_rfl,by decide⟩
theorem eP:Fld Tryz.prog 135 0 0 1:=⟨_,_,Tryz.underlying135,rfl,rfl,by kernel_rfl,by decide⟩
theorem iM:Fld Tryz.prog 135 1 1 1:=⟨_,_,Tryz.underlying135,rfl,rfl,by kernel_rfl,by decide⟩
theorem iL:Fld Tryz.prog 135 2 2 1:=⟨_,_,Tryz.underlying135,rfl,rfl,by kernel_rfl,by decide⟩
theorem eO:Fld Tryz.prog 137 0 0 1:=⟨_,_,Tryz.underlying137,rfl,rfl,by kernel_rfl,by decide⟩
theorem iK:Fld Tryz.prog 137 1 1 1:=⟨_,_,Tryz.underlying137,rfl,rfl,by kernel_rfl,by decide⟩
theorem iJ:Fld Tryz.prog 137 2 2 1:=⟨_,_,Tryz.underlying137,rfl,rfl,by kernel_rfl,by decide⟩
theorem aY:Fld Tryz.prog 26 0 0 1:=⟨_,_,Tryz.underlying26,rfl,rfl,by kernel_rfl,by decide⟩
theorem ar:Fld Tryz.prog 26 1 1 1:=⟨_,_,Tryz.underlying26,rfl,rfl,by kernel_rfl,by decide⟩
theorem aZ:Fld Tryz.prog 28 0 0 2:=⟨_,_,Tryz.underlying28,rfl,rfl,by kernel_rfl,by decide⟩
theorem aU:Fld Tryz.prog 28 1 2 2:=⟨_,_,Tryz.underlying28,rfl,rfl,by kernel_rfl,by decide⟩
theorem cb:Fld Tryz.prog 30 0 0 1:=⟨_,_,Tryz.underlying30,rfl,rfl,by kernel_rfl,by decide⟩
theorem bM:Fld Tryz.prog 30 1 1 1:=⟨_,_,Tryz.underlying30,rfl,rfl,by kernel_rfl,by decide⟩
theorem eB:Fld Tryz.prog 30 2 2 4:=⟨_,_,Tryz.underlying30,rfl,rfl,by kernel_rfl,by decide⟩
theorem gv:Fld Tryz.prog 60 0 0 1:=⟨_,_,Tryz.underlying60,rfl,rfl,by kernel_rfl,by decide⟩
theorem dI:Fld Tryz.prog 60 1 1 1:=⟨_,_,Tryz.underlying60,rfl,rfl,by kernel_rfl,by decide⟩
theorem mX:Fld Tryz.prog 60 10 10 1:=⟨_,_,Tryz.underlying60,rfl,rfl,by kernel_rfl,by decide⟩
theorem mW:Fld Tryz.prog 60 11 11 1:=⟨_,_,Tryz.underlying60,rfl,rfl,by kernel_rfl,by decide⟩
theorem mV:Fld Tryz.prog 60 12 12 1:=⟨_,_,Tryz.underlying60,rfl,rfl,by kernel_rfl,by decide⟩
theorem mU:Fld Tryz.prog 60 13 13 1:=⟨_,_,Tryz.underlying60,rfl,rfl,by kernel_rfl,by decide⟩
theorem mT:Fld Tryz.prog 60 14 14 1:=⟨_,_,Tryz.underlying60,rfl,rfl,by kernel_rfl,by decide⟩
theorem mS:Fld Tryz.prog 60 15 15 1:=⟨_,_,Tryz.underlying60,rfl,rfl,by kernel_rfl,by decide⟩
theorem mR:Fld Tryz.prog 60 16 16 1:=⟨_,_,Tryz.underlying60,rfl,rfl,by kernel_rfl,by decide⟩
theorem pK:Fld Tryz.prog 60 2 2 1:=⟨_,_,Tryz.underlying60,rfl,rfl,by kernel_rfl,by decide⟩
theorem pJ:Fld Tryz.prog 60 3 3 1:=⟨_,_,Tryz.underlying60,rfl,rfl,by kernel_rfl,by decide⟩
theorem pI:Fld Tryz.prog 60 4 4 1:=⟨_,_,Tryz.underlying60,rfl,rfl,by kernel_rfl,by decide⟩
theorem pH:Fld Tryz.prog 60 5 5 1:=⟨_,_,Tryz.underlying60,rfl,rfl,by kernel_rfl,by decide⟩
theorem pG:Fld Tryz.prog 60 6 6 1:=⟨_,_,Tryz.underlying60,rfl,rfl,by kernel_rfl,by decide⟩
theorem pF:Fld Tryz.prog 60 7 7 1:=⟨_,_,Tryz.underlying60,rfl,rfl,by kernel_rfl,by decide⟩
theorem pE:Fld Tryz.prog 60 8 8 1:=⟨_,_,Tryz.underlying60,rfl,rfl,by kernel_rfl,by decide⟩
theorem dH:Fld Tryz.prog 60 9 9 1:=⟨_,_,Tryz.underlying60,rfl,rfl,by kernel_rfl,by decide⟩
theorem cR:Fld Tryz.prog 76 0 0 1:=⟨_,_,Tryz.underlying76,rfl,rfl,by kernel_rfl,by decide⟩
theorem bL:Fld Tryz.prog 76 1 1 4:=⟨_,_,Tryz.underlying76,rfl,rfl,by kernel_rfl,by decide⟩
theorem bZ:Fld Tryz.prog 76 2 5 4:=⟨_,_,Tryz.underlying76,rfl,rfl,by kernel_rfl,by decide⟩
theorem e8:Fld Tryz.prog 79 0 0 1:=⟨_,_,Tryz.underlying79,rfl,rfl,by kernel_rfl,by decide⟩
theorem dZ:Fld Tryz.prog 79 1 1 9:=⟨_,_,Tryz.underlying79,rfl,rfl,by kernel_rfl,by decide⟩
theorem dG:Fld Tryz.prog 79 2 10 1:=⟨_,_,Tryz.underlying79,rfl,rfl,by kernel_rfl,by decide⟩
theorem gu:Fld Tryz.prog 82 0 0 1:=⟨_,_,Tryz.underlying82,rfl,rfl,by kernel_rfl,by decide⟩
theorem fo:Fld Tryz.prog 82 1 1 4:=⟨_,_,Tryz.underlying82,rfl,rfl,by kernel_rfl,by decide⟩
theorem gr:Fld Tryz.prog 82 2 5 4:=⟨_,_,Tryz.underlying82,rfl,rfl,by kernel_rfl,by decide⟩
theorem iI:Fld Tryz.prog 82 3 9 1:=⟨_,_,Tryz.underlying82,rfl,rfl,by kernel_rfl,by decide⟩
theorem fm:Fld Tryz.prog 89 0 0 1:=⟨_,_,Tryz.underlying89,rfl,rfl,by kernel_rfl,by decide⟩
theorem FV:Fld Tryz.prog 89 1 1 4:=⟨_,_,Tryz.underlying89,rfl,rfl,by kernel_rfl,by decide⟩
theorem gp:Fld Tryz.prog 89 2 5 1:=⟨_,_,Tryz.underlying89,rfl,rfl,by kernel_rfl,by decide⟩
theorem gn:Fld Tryz.prog 89 3 6 4:=⟨_,_,Tryz.underlying89,rfl,rfl,by kernel_rfl,by decide⟩
theorem FU:Fld Tryz.prog 98 0 0 1:=⟨_,_,Tryz.underlying98,rfl,rfl,by kernel_rfl,by decide⟩
theorem FT:Fld Tryz.prog 98 1 1 4:=⟨_,_,Tryz.underlying98,rfl,rfl,by kernel_rfl,by decide⟩
theorem FR:Fld Tryz.prog 98 2 5 1:=⟨_,_,Tryz.underlying98,rfl,rfl,by kernel_rfl,by decide⟩
theorem du:Sl Tryz.prog 22 28 4:=⟨by kernel_rfl,by kernel_rfl⟩
theorem fD:Sl Tryz.prog 23 79 11:=⟨by kernel_rfl,by kernel_rfl⟩
theorem Mq:Sl Tryz.prog 238 5 1:=⟨by kernel_rfl,by kernel_rfl⟩
theorem bc:Sl Tryz.prog 24 138 1:=⟨by kernel_rfl,by kernel_rfl⟩
theorem AW:Sl Tryz.prog 271 26 2:=⟨by kernel_rfl,by kernel_rfl⟩
theorem dr:Sl Tryz.prog 31 3 1:=⟨by kernel_rfl,by kernel_rfl⟩
theorem mx:Sl Tryz.prog 36 76 9:=⟨by kernel_rfl,by kernel_rfl⟩
theorem Pr:Sl Tryz.prog 43 137 3:=⟨by kernel_rfl,by kernel_rfl⟩
theorem Pq:Sl Tryz.prog 51 135 3:=⟨by kernel_rfl,by kernel_rfl⟩
theorem ib:Ty Tryz.prog 103 8 true:=⟨by kernel_rfl,by kernel_rfl⟩
theorem Me:Ty Tryz.prog 121 1 false:=⟨by kernel_rfl,by kernel_rfl⟩
theorem AA:Ty Tryz.prog 122 1 false:=⟨by kernel_rfl,by kernel_rfl⟩
theorem ia:Ty Tryz.prog 124 8 true:=⟨by kernel_rfl,by kernel_rfl⟩
theorem cY:Ty Tryz.prog 131 16 true:=⟨by kernel_rfl,by kernel_rfl⟩
theorem nP:Ty Tryz.prog 135 3 true:=⟨by kernel_rfl,by kernel_rfl⟩
theorem nO:Ty Tryz.prog 137 3 true:=⟨by kernel_rfl,by kernel_rfl⟩
theorem aO:Ty Tryz.prog 138 1 false:=⟨by kernel_rfl,by kernel_rfl⟩
theorem eY:Ty Tryz.prog 22 1 false:=⟨by kernel_rfl,by kernel_rfl⟩
theorem ec:Ty Tryz.prog 23 1 false:=⟨by kernel_rfl,by kernel_rfl⟩
theorem bb:Ty Tryz.prog 24 1 false:=⟨by kernel_rfl,by kernel_rfl⟩
theorem ap:Ty Tryz.prog 26 2 true:=⟨by kernel_rfl,by kernel_rfl⟩
theorem ax:Ty Tryz.prog 28 4 true:=⟨by kernel_rfl,by kernel_rfl⟩
theorem ty_3:Ty Tryz.prog 3 1 false:=⟨by kernel_rfl,by kernel_rfl⟩
theorem cp:Ty Tryz.prog 30 6 true:=⟨by kernel_rfl,by kernel_rfl⟩
theorem eJ:Ty Tryz.prog 31 1 false:=⟨by kernel_rfl,by kernel_rfl⟩
theorem nE:Ty Tryz.prog 36 1 false:=⟨by kernel_rfl,by kernel_rfl⟩
theorem ty_4:Ty Tryz.prog 4 1 false:=⟨by kernel_rfl,by kernel_rfl⟩
theorem nD:Ty Tryz.prog 43 1 false:=⟨by kernel_rfl,by kernel_rfl⟩
theorem IC:Ty Tryz.prog 44 1 false:=⟨by kernel_rfl,by kernel_rfl⟩
theorem IB:Ty Tryz.prog 45 1 false:=⟨by kernel_rfl,by kernel_rfl⟩
theorem IA:Ty Tryz.prog 46 1 false:=⟨by kernel_rfl,by kernel_rfl⟩
theorem Iz:Ty Tryz.prog 47 1 false:=⟨by kernel_rfl,by kernel_rfl⟩
theorem Iy:Ty Tryz.prog 48 1 false:=⟨by kernel_rfl,by kernel_rfl⟩
theorem Ix:Ty Tryz.prog 49 1 false:=⟨by kernel_rfl,by kernel_rfl⟩
theorem ty_5:Ty Tryz.prog 5 1 false:=⟨by kernel_rfl,by kernel_rfl⟩
theorem Iw:Ty Tryz.prog 50 1 false:=⟨by kernel_rfl,by kernel_rfl⟩
theorem nC:Ty Tryz.prog 51 1 false:=⟨by kernel_rfl,by kernel_rfl⟩
theorem Iv:Ty Tryz.prog 52 1 false:=⟨by kernel_rfl,by kernel_rfl⟩
theorem Iu:Ty Tryz.prog 53 1 false:=⟨by kernel_rfl,by kernel_rfl⟩
theorem It:Ty Tryz.prog 54 1 false:=⟨by kernel_rfl,by kernel_rfl⟩
theorem Is:Ty Tryz.prog 55 1 false:=⟨by kernel_rfl,by kernel_rfl⟩
theorem Ir:Ty Tryz.prog 56 1 false:=⟨by kernel_rfl,by kernel_rfl⟩
theorem Iq:Ty Tryz.prog 57 1 false:=⟨by kernel_rfl,by kernel_rfl⟩
theorem Ip:Ty Tryz.prog 58 1 false:=⟨by kernel_rfl,by kernel_rfl⟩
theorem lO:Ty Tryz.prog 74 1 false:=⟨by kernel_rfl,by kernel_rfl⟩
theorem dq:Ty Tryz.prog 76 9 true:=⟨by kernel_rfl,by kernel_rfl⟩
theorem i7:Ty Tryz.prog 79 11 true:=⟨by kernel_rfl,by kernel_rfl⟩
theorem gE:Ty Tryz.prog 82 10 true:=⟨by kernel_rfl,by kernel_rfl⟩
theorem sH:Ty Tryz.prog 89 10 true:=⟨by kernel_rfl,by kernel_rfl⟩
theorem ty_9:Ty Tryz.prog 9 1 false:=⟨by kernel_rfl,by kernel_rfl⟩
theorem sG:Ty Tryz.prog 98 6 true:=⟨by kernel_rfl,by kernel_rfl⟩
abbrev z6:=@Array.all_eq_true'
abbrev jU:=@Array.any_eq_true'
abbrev vX:=@Array.empty_append
abbrev kA:=@Array.ext_getElem?
abbrev vM:=@Array.length_toList
abbrev vx:=@Array.mem_of_getElem?
abbrev xi:=@Array.size_append
abbrev qO:=@Array.size_replicate
abbrev wj:=@Array.toList_map
abbrev jh:=@Array.toList_setIfInBounds
abbrev jA:=@Bool.and_eq_false_iff
abbrev ql:=@Bool.and_eq_true
abbrev xJ:=@Bool.and_true
abbrev xR:=@Bool.eq_false_iff
abbrev jr:=@Bool.eq_iff_iff
abbrev xI:=@Bool.false_or
abbrev ju:=@Bool.not_eq_false'
abbrev qy:=@Bool.not_eq_true'
abbrev jT:=@Bool.not_false
abbrev vj:=@Bool.not_true
abbrev qN:=@Bool.or_eq_false_iff
abbrev z4:=@Bool.or_eq_true
abbrev kr:=@Bool.true_and
abbrev jN:=@Eq.symm
abbrev xE:=@Eq.trans
abbrev jM:=@Int.add_zero
abbrev x4:=@Int.gcd_pos_of_ne_zero_right
abbrev kT:=@Int.lt_trichotomy
abbrev vi:=@Int.mul_ediv_cancel_left
abbrev k7:=@Int.mul_ne_zero
abbrev jX:=@Int.mul_neg_of_neg_of_pos
abbrev jW:=@Int.mul_neg_of_pos_of_neg
abbrev vF:=@Int.mul_pos
abbrev vc:=@Int.mul_pos_of_neg_of_neg
abbrev vh:=@Int.mul_tdiv_cancel_left
abbrev vu:=@Int.mul_zero
abbrev jS:=@Int.natAbs_mul
abbrev kz:=@Int.natAbs_natCast
abbrev j5:=@Int.natCast_ediv
abbrev xF:=@Int.natCast_mul
abbrev kS:=@Int.ofNat_le
abbrev kR:=@Int.ofNat_lt
abbrev xN:=@Int.sign_eq_neg_one_of_neg
abbrev xZ:=@Int.sign_eq_one_of_pos
abbrev wi:=@Int.sign_neg_iff
abbrev jg:=@Int.tdiv_eq_ediv_of_nonneg
abbrev vb:=@Int.tmod_eq_emod_of_nonneg
abbrev wu:=@Int.tmod_nonneg
abbrev z9:=@Int.toNat_natCast
abbrev kQ:=@Int.zero_sub
abbrev wt:=@List.all_append
abbrev xH:=@List.all_cons
abbrev wa:=@List.all_eq_false
abbrev qe:=@List.all_eq_true
abbrev xQ:=@List.all_nil
abbrev kb:=@List.any_append
abbrev xu:=@List.any_eq_false
abbrev jk:=@List.any_eq_true
abbrev qP:=@List.append_assoc
abbrev zX:=@List.append_nil
abbrev vL:=@List.append_toArray
abbrev qB:=@List.contains_eq_mem
abbrev jz:=@List.countP_le_length
abbrev jI:=@List.countP_pos_iff
abbrev wh:=@List.drop_append
abbrev jF:=@List.drop_append_of_le_length
abbrev qK:=@List.drop_eq_getElem_cons
abbrev xL:=@List.drop_length
abbrev zG:=@List.drop_of_length_le
abbrev xk:=@List.drop_zero
abbrev xr:=@List.eq_nil_of_length_eq_zero
abbrev j1:=@List.ext_getElem?
abbrev vw:=@List.filterMap_append
abbrev kq:=@List.flatMap_append
abbrev xh:=@List.flatMap_cons
abbrev wg:=@List.flatMap_def
abbrev jm:=@List.flatten_append
abbrev qZ:=@List.flatten_cons
abbrev v7:=@List.foldl_append
abbrev we:=@List.getElem_map
abbrev qg:=@List.getElem_mem
abbrev v6:=@List.getElem_take
abbrev qu:=@List.length_append
abbrev zf:=@List.length_cons
abbrev xV:=@List.length_drop
abbrev vk:=@List.length_eq_zero_iff
abbrev qc:=@List.length_map
abbrev xo:=@List.length_nil
abbrev zc:=@List.length_replicate
abbrev qX:=@List.length_set
abbrev z7:=@List.length_singleton
abbrev ze:=@List.length_take
abbrev zw:=@List.map_append
abbrev jl:=@List.map_congr_left
abbrev qS:=@List.map_cons
abbrev vE:=@List.map_id
abbrev xD:=@List.map_map
abbrev jL:=@List.map_nil
abbrev kw:=@List.map_replicate
abbrev vW:=@List.map_singleton
abbrev kY:=@List.map_toArray
abbrev qo:=@List.mem_append
abbrev vD:=@List.mem_append_left
abbrev qr:=@List.mem_cons
abbrev zr:=@List.mem_cons_of_mem
abbrev xw:=@List.mem_cons_self
abbrev z5:=@List.mem_filter
abbrev qR:=@List.mem_filterMap
abbrev jC:=@List.mem_flatMap
abbrev qq:=@List.mem_map
abbrev qa:=@List.mem_of_getElem?
abbrev vC:=@List.mem_of_mem_drop
abbrev xS:=@List.mem_of_mem_eraseIdx
abbrev xj:=@List.mem_of_mem_take
abbrev qA:=@List.mem_or_eq_of_mem_set
abbrev jR:=@List.mem_range
abbrev v5:=@List.mem_range'_1
abbrev xM:=@List.mem_replicate
abbrev qn:=@List.mem_singleton
abbrev zj:=@List.mem_zipIdx_iff_getElem?
abbrev jG:=@List.nil_append
abbrev xC:=@List.nodup_append
abbrev jq:=@List.nodup_cons
abbrev jf:=@List.nodup_nil
abbrev zq:=@List.not_mem_nil
abbrev vK:=@List.replicate_succ
abbrev je:=@List.replicate_succ'
abbrev ko:=@List.replicate_zero
abbrev x6:=@List.set_append_right
abbrev jt:=@List.set_cons_succ
abbrev vV:=@List.set_cons_zero
abbrev xy:=@List.set_eq_take_append_cons_drop
abbrev vv:=@List.set_getElem_self
abbrev x5:=@List.singleton_append
abbrev z8:=@List.size_toArray
abbrev wq:=@List.sum_append
abbrev xe:=@List.sum_cons
abbrev kX:=@List.take_append
abbrev xO:=@List.take_append_drop
abbrev xq:=@List.take_append_of_le_length
abbrev kl:=@List.take_left
abbrev qH:=@List.take_length
abbrev qF:=@List.take_of_length_le
abbrev vg:=@List.take_set
abbrev vJ:=@List.take_set_of_le
abbrev vI:=@List.take_succ_cons
abbrev qw:=@List.take_succ_eq_append_getElem
abbrev jd:=@List.take_take
abbrev ki:=@List.take_zero
abbrev wo:=@List.zipIdx_map
abbrev jn:=@Nat.add_assoc
abbrev xp:=@Nat.add_comm
abbrev v4:=@Nat.add_mod_right
abbrev xW:=@Nat.add_mul
abbrev kh:=@Nat.add_mul_div_left
abbrev jV:=@Nat.add_mul_mod_self_left
abbrev js:=@Nat.add_sub_cancel
abbrev j4:=@Nat.add_sub_cancel_left
abbrev jx:=@Nat.add_zero
abbrev vH:=@Nat.and_div_two_pow
abbrev vU:=@Nat.and_lt_two_pow
abbrev x3:=@Nat.div_add_mod
abbrev zF:=@Nat.div_div_eq_div_mul
abbrev xK:=@Nat.div_eq_of_lt
abbrev ka:=@Nat.div_le_self
abbrev kg:=@Nat.div_lt_iff_lt_mul
abbrev xa:=@Nat.div_lt_of_lt_mul
abbrev jH:=@Nat.div_mul_le_self
abbrev vf:=@Nat.dvd_trans
abbrev vT:=@Nat.eq_zero_or_pos
abbrev xY:=@Nat.gcd_comm
abbrev jB:=@Nat.gcd_dvd_left
abbrev j0:=@Nat.gcd_dvd_right
abbrev j9:=@Nat.le_add_left
abbrev wd:=@Nat.le_add_right
abbrev kc:=@Nat.le_div_iff_mul_le
abbrev jp:=@Nat.le_max_left
abbrev jj:=@Nat.le_max_right
abbrev j3:=@Nat.le_mul_of_pos_right
abbrev jy:=@Nat.le_of_ble_eq_true
abbrev xB:=@Nat.le_of_eq
abbrev xb:=@Nat.le_of_lt
abbrev kW:=@Nat.le_of_not_lt
abbrev qi:=@Nat.le_refl
abbrev jE:=@Nat.le_succ
abbrev qf:=@Nat.le_trans
abbrev vG:=@Nat.lt_mul_div_succ
abbrev qY:=@Nat.lt_of_le_of_lt
abbrev jQ:=@Nat.lt_of_lt_of_eq
abbrev qD:=@Nat.lt_of_lt_of_le
abbrev k9:=@Nat.lt_of_mul_lt_mul_right
abbrev ji:=@Nat.lt_of_not_le
abbrev kP:=@Nat.lt_succ_of_lt
abbrev zD:=@Nat.lt_trans
abbrev xl:=@Nat.min_eq_left
abbrev jo:=@Nat.mod_add_div
abbrev zH:=@Nat.mod_eq_of_lt
abbrev qW:=@Nat.mod_lt
abbrev vB:=@Nat.mod_one
abbrev xg:=@Nat.mul_add
abbrev wn:=@Nat.mul_add_div
abbrev wm:=@Nat.mul_add_mod
abbrev zb:=@Nat.mul_assoc
abbrev za:=@Nat.mul_comm
abbrev xU:=@Nat.mul_le_mul
abbrev zU:=@Nat.mul_le_mul_left
abbrev qJ:=@Nat.mul_le_mul_right
abbrev vZ:=@Nat.mul_left_comm
abbrev kV:=@Nat.mul_lt_mul''
abbrev jc:=@Nat.mul_lt_mul_of_pos_right
abbrev zP:=@Nat.mul_one
abbrev jD:=@Nat.mul_pos
abbrev jP:=@Nat.mul_right_comm
abbrev vt:=@Nat.mul_succ
abbrev vp:=@Nat.mul_zero
abbrev k6:=@Nat.not_lt_zero
abbrev jZ:=@Nat.one_mul
abbrev kZ:=@Nat.one_pos
abbrev xf:=@Nat.pow_add
abbrev zZ:=@Nat.pow_le_pow_right
abbrev zK:=@Nat.pow_pos
abbrev zi:=@Nat.pow_succ
abbrev j6:=@Nat.pow_zero
abbrev jO:=@Nat.sub_add_cancel
abbrev vS:=@Nat.sub_le
abbrev xX:=@Nat.sub_self
abbrev jK:=@Nat.sub_zero
abbrev xG:=@Nat.succ_mul
abbrev xT:=@Nat.succ_ne_zero
abbrev kn:=@Nat.xor_div_two_pow
abbrev vR:=@Nat.xor_lt_two_pow
abbrev qV:=@Nat.zero_add
abbrev zx:=@Nat.zero_le
abbrev jJ:=@Nat.zero_mul
abbrev j2:=@Option.bind_eq_some_iff
abbrev wc:=@Option.bind_some
abbrev xx:=@Option.getD_some
abbrev vd:=@Option.isSome_iff_exists
abbrev qT:=@Option.map_some
abbrev xc:=@Prod.fst
abbrev jw:=@Rat.divInt_eq_div
abbrev kU:=@Rat.divInt_ofNat
abbrev j8:=@Rat.intCast_add
abbrev j7:=@Rat.intCast_mul
abbrev vA:=@Rat.neg_den
abbrev vz:=@Rat.neg_num
abbrev kt:=@Rat.num_divInt_den
abbrev jY:=@Rat.one_mul
abbrev vo:=@Rat.zero_mul
abbrev vQ:=@Tryz.underlying103
abbrev vP:=@Tryz.underlying112
abbrev vO:=@Tryz.underlying138
abbrev qQ:=@Tryz.underlying22
abbrev qM:=@Tryz.underlying23
abbrev vN:=@Tryz.underlying238
abbrev qd:=@Tryz.underlying24
abbrev xP:=@Tryz.underlying26
abbrev jb:=@Tryz.underlying28
abbrev ja:=@Tryz.underlying30
abbrev qE:=@Tryz.underlying31
abbrev zp:=@Tryz.underlying36
abbrev wb:=@Tryz.underlying4
abbrev xA:=@Tryz.underlying43
abbrev kO:=@Tryz.underlying44
abbrev kN:=@Tryz.underlying45
abbrev kM:=@Tryz.underlying46
abbrev kL:=@Tryz.underlying47
abbrev kK:=@Tryz.underlying48
abbrev kJ:=@Tryz.underlying49
abbrev kI:=@Tryz.underlying50
abbrev xz:=@Tryz.underlying51
abbrev kH:=@Tryz.underlying52
abbrev kG:=@Tryz.underlying53
abbrev kF:=@Tryz.underlying54
abbrev kE:=@Tryz.underlying55
abbrev kD:=@Tryz.underlying56
abbrev kC:=@Tryz.underlying57
abbrev kB:=@Tryz.underlying58
abbrev x7:=@Tryz.underlying76
abbrev jv:=@Tryz.underlying79
abbrev vY:=@Tryz.underlying98
abbrev xv:=@beq_iff_eq
abbrev qp:=@congrArg
abbrev qU:=@decide_eq_decide
abbrev zT:=@decide_eq_false
abbrev qm:=@decide_eq_false_iff_not
abbrev qG:=@decide_eq_true
abbrev qI:=@decide_eq_true_eq
abbrev qz:=@if_neg
abbrev qC:=@if_pos
abbrev qv:=@of_decide_eq_false
abbrev qt:=@of_decide_eq_true
abbrev qx:=@wpOps_cons
abbrev qk:=@wp_block
abbrev qL:=@wp_exit
abbrev qh:=@wp_ret
abbrev qb:=@wp_seq
abbrev qj:=@wp_skip
variable {w:World}{B:Nat}{a:Act}{v:Value}{T:TypeId}{w0:Bs}{Γ:List (Nat × VA)}{Λ:List Lc}{ps:String}{af:Array Edge}{vr:Value}{H:Hd}{cs:List Value}{w':World}{P:Program}{D:List TypeId}{N:Nat}{i:Nat}{k:Nat}{n:Nat}{j:Nat}{m:Nat}{s:Nat}{b:Nat}{c:Nat}{g:Nat}{d:Nat}{id:Nat}{hi:Nat}{ops:Array Oper}{x:Operand}{y:Operand}{E:TypeId}{S:TypeId}{A:As}{l:List Nat}{fn:Func}{Q:Exit→Act→World→Prop}{xs:List Operand}{gs:List Nat}{W:World}{W':World}{ds:List Value}{q:Int}{A':As}{A0:As}{A1:As}{sp:List Sp}{ty:TypeId}
abbrev Ya:=List Nat
abbrev Yb:=List As
abbrev Yc:=List VA
abbrev Yd:=Exit→Act→World→Prop
abbrev Ye:=Act→World→Prop
abbrev Yf:=List (Nat × VA)
abbrev Yg:=Array Oper
abbrev Yh:=TypeId
abbrev Yi:=World
abbrev Yj:=Operand
abbrev Yk:=List Lc
abbrev Yl:=List Int
abbrev Ym:=List Value
abbrev Yn:=FuncId
abbrev Yo:=Value
abbrev Yp:=IntKind
abbrev Yq:=List TypeId
abbrev Yr:=Array TypeId
abbrev Yt:=List Operand
abbrev Yu:=Option Nat
abbrev Yv:=List Sp
abbrev Yw:=String
abbrev Yx:=Array Edge
abbrev Yy:=List (List Value)
abbrev Yz:=Nat→Value
abbrev U32:TypeId:=138
def MgA (l:List Nat):As:=(SlA U32 [] (l.map λ (x:Nat)=>NumA .u32 (x:Int))).and (okL l)
theorem cat_nums {k:Yp}:∀ {l:Ya}{ds:Ym},(cat (l.map λ (x:Nat)=>NumA k (x:Int))).p B ds w↔ds=l.map λ (x:Nat)=>.int k (x:Int):=by
 intro l
 induction l with
 | nil =>
  intro ds;constructor
  ·rintro ⟨ps,rfl,h⟩;cases h;rfl
  ·rintro rfl;exact ⟨[],rfl,.nil⟩
 | cons x xs ih =>
  intro ds;constructor
  ·rintro ⟨ps,rfl,h⟩;cases h with
   | cons h ht =>
    have h':_=[Value.int k (x:Int)]:=h;have:=(ih (ds:=_)).1 ⟨_,rfl,ht⟩;simp only [qZ,qS];rw [h',this]
    rfl
  ·rintro rfl;obtain ⟨ps,h1,h2⟩:=(ih (ds:=_)).2 rfl;refine ⟨[.int k (x:Int)]::ps,?_,.cons G h2⟩;simp only [qS,qZ,← h1]
   rfl
structure Mag (B:Nat) (w:World) (A:Option Addr) (c:Nat) (l:List Nat):Prop where
 ok:okL l
 le:l.length≤c
 max:c≤maxLen
 at_:0<l.length→∃ b o,A=some ⟨b,o,none⟩∧b<w.heap.size∧Safe B U32 b w∧∀ j (h:j<l.length),w.cell? ⟨b,o+j,none⟩=some (.int .u32 (l[j]:Nat))
theorem gU (h:(MgA l).va.p B v w):∃ A c,v=.slice A l.length c∧Mag B w A c l:=by
 obtain ⟨cs,⟨ok,_,A,c,ds,rfl,h1,h2,h3,h4⟩,hv⟩:=h;simp only [qc] at h1 h4 hv;refine ⟨A,c,hv,ok,h1,h2,λ hn=>?_⟩;obtain ⟨b,o,e1,e2,e3,e4⟩:=h4 hn;refine ⟨b,o,e1,e2,e3,λ j hj=>e4 j _ ?_⟩;rw [cat_nums.1 h3];simp [hj]
theorem eG {A:Option Addr}{n:Nat}(h:Mag B w A c l)(hn:n=l.length):(MgA l).va.p B (.slice A n c) w:=by
 subst hn;refine ⟨[.slice A l.length c],⟨h.ok,oX,A,c,l.map λ (x:Nat)=>.int .u32 (x:Int),by simp,by simpa using h.le,h.max,cat_nums.2 rfl,λ hn=>?_⟩,rfl⟩;obtain ⟨b,o,e1,e2,e3,e4⟩:=h.at_ (by simpa using hn);refine ⟨b,o,e1,e2,e3,λ j v hv=>?_⟩;rw [List.getElem?_map] at hv;cases hj:l[j]? with
 | none=>rw [hj] at hv;simp at hv
 | some x =>
  obtain ⟨hlt,hx⟩:=List.getElem?_eq_some_iff.1 hj;rw [hj] at hv;simp only [qT,Option.some.injEq] at hv;rw [e4 j hlt,hx,hv]
theorem Mag.nil (B:Nat)(w:Yi):Mag B w none 0 []:=⟨cU,qi _,zx _,λ h=>by simp at h⟩
theorem Mag.take {B:Nat}{w:Yi}{A:Option Addr}{c:Nat}{l:Ya}(h:Mag B w A c l)(k:Nat):Mag B w A c (l.take k):=by
 refine ⟨λ x hx=>h.ok x (xj hx),by have:=h.le;simp;omega,h.max,λ hn=>?_⟩;obtain ⟨b,o,e1,e2,e3,e4⟩:=h.at_ (by simp at hn;omega);exact ⟨b,o,e1,e2,e3,λ j hj=>by rw [e4 j (by simp at hj;omega)];simp⟩
theorem Mag.own {cur:Array Yo}(hg:w.heap[g]?=some (.cells cur U32 (0,0)))(ok:okL l)(hl:l.length≤c)(hm:c≤maxLen)
  (hc:∀ j (h:j<l.length),cur[j]?=some (.int .u32 (l[j]:Nat))):Mag B w (some ⟨g,0,none⟩) c l :=
 ⟨ok,hl,hm,λ _=>⟨g,0,rfl,(Array.getElem?_eq_some_iff.1 hg).1,.inr ⟨_,_,hg⟩,λ j hj=>by rw [qV,cell_of_row w g j cur U32 _ hg];exact hc j hj⟩⟩
section
variable {P:Program}{Q:Exit→Act→World→Prop}{R:Rg}{B:Nat}{w0:Bs}{i:Nat}
theorem CO (h:Has R B w0 i x (MgA l).va):Has R B w0 i x (SlA U32 [] (l.map λ (x:Nat)=>NumA .u32 (x:Int))).va:=bz h
theorem aK {S E':Yh}(hS:P.underlying S=some (.slice E'))(hx:Has R B w0 i x (MgA l).va):Wv P Q R B w0 i (.call ⟨.builtin .len,#[x],#[S]⟩) (In l.length):=by
 have:=bg (P:=P) (Q:=Q) hS (CO hx);rwa [qc] at this
theorem bO {k:Nat}{kd:Yp}(hS:Sl P S U32 1)(hx:Has R B w0 i x (MgA l).va)(hy:Has R B w0 i y (NumA kd k).va)(hk:k<l.length):Wv P Q R B w0 i (.indexAddr S x y) (ElP U32 (NumA .u32 (l[k]:Nat))) :=
 bB hS (λ A hA=>by obtain ⟨x,_,rfl⟩:=qq.1 hA;rfl) (CO hx) hy (by simp [hk])
end
structure RI where
 neg:Bool
 mag:List Nat
 deriving DecidableEq
structure RF where
 num:RI
 den:RI
 deriving DecidableEq
def RIA (x:RI):As:=cat [BoA x.neg,MgA x.mag]
def RFA (x:RF):As:=cat [RIA x.num,RIA x.den]
def riOf (z:Int):RI:=⟨decide (z<0),aA z.natAbs⟩
def rfOf (q:Rat):RF:=⟨riOf q.num,riOf q.den⟩
abbrev Zi (z:Int):VA:=(RIA (riOf z)).va
def lz (z:Int):Nat:=(aA z.natAbs).length
theorem fN (B:Nat)(w:Yi):(MgA []).p B [.slice none 0 0] w:=by
 obtain ⟨cs,h,hv⟩:=eG (Mag.nil B w) rfl;have h1:=(MgA []).len _ _ _ h
 match cs,h1 with
 | [c],_ =>
  have:c=.slice none 0 0:=hv.symm;subst this;exact h
theorem J7 (B:Nat)(w:Yi):(RIA ⟨false,[]⟩).p B [.bool false,.slice none 0 0] w:=⟨[[.bool false],[.slice none 0 0]],rfl,.cons rfl (.cons (fN B w) .nil)⟩
theorem bu:Str Tryz.prog 26 [BoA false,MgA []] :=
 Str.of (z:=.agg #[.bool false,.slice none 0 0]) zk xP zk λ B w=>J7 B w
theorem f9 (B:Nat)(w:Yi):(RFA ⟨⟨false,[]⟩,⟨false,[]⟩⟩).p B [.bool false,.slice none 0 0,.bool false,.slice none 0 0] w:=⟨[[.bool false,.slice none 0 0],[.bool false,.slice none 0 0]],rfl,.cons (J7 B w) (.cons (J7 B w) .nil)⟩
theorem aS:Str Tryz.prog 28 [RIA ⟨false,[]⟩,RIA ⟨false,[]⟩] :=
 Str.of (z:=.agg #[.bool false,.slice none 0 0,.bool false,.slice none 0 0]) zk jb zk λ B w=>f9 B w
section
variable {P:Program}{Q:Exit→Act→World→Prop}{R:Rg}{B:Nat}{w0:Bs}{i:Nat}
theorem H8 {k k2 k3:Yp}{op:BinOp}{xt yt:Yh}{m n c:Int}(hx:Has R B w0 i x (NumA k m).va)(hy:Has R B w0 i y (NumA k2 n).va)
  (h:∀ w,(binOp op xt (.int k m) (.int k2 n)).run P w=.ok (.int k3 c) w):Wv P Q R B w0 i (.binOp op xt x y yt) (NumA k3 c).va :=
 bk λ _ _ _ _ _ a w av=>by
  have e1:=bj (hx a w av);have e2:=bj (hy a w av);refine ⟨.int k3 c,w,?_,Grow.refl w,bV _ _ _ _⟩;have hg:(eqGuard op xt x y (.int k m) (.int k2 n)).run P w=.ok () w:=by unfold eqGuard;split <;> rfl
  simp only [execOp,e1,e2,Sem.run_bind,hg,h,Result.andThen_ok,Sem.run_pure]
theorem MZ {k:Yp}{xt yt:Yh}{n c:Int}(hs:(P.underlying xt).isSome=true)(hd:P.underlying yt=some (.int (P.intKind yt)))(hx:Has R B w0 i x (NumA k n).va)(h:(P.intKind yt).wrap n=c):Wv P Q R B w0 i (.convert xt yt x) (NumA (P.intKind yt) c).va :=
 bk λ _ _ _ _ _ a w av=>by
  refine ⟨_,w,?_,Grow.refl w,bV _ _ _ _⟩;simp only [execOp,bj (hx a w av),Sem.run_bind,run_convert_int _ _ _ _ _ hs hd,h,Result.andThen_ok,Sem.run_pure]
theorem aH {k:Yp}(k':Yp){xt yt:Yh}{n c:Int}(hs:(P.underlying xt).isSome=true)(hd:P.underlying yt=some (.int k'))(hx:Has R B w0 i x (NumA k n).va)(h:k'.wrap n=c):Wv P Q R B w0 i (.convert xt yt x) (NumA k' c).va:=by
 have e:P.intKind yt=k':=by simp [Program.intKind,hd]
 subst e;exact MZ hs hd hx h
section
variable {k k2:IntKind}{x y:Operand}{xt yt:TypeId}{m n:Int}
theorem l8 {c:Int}(hx:Has R B w0 i x (NumA k m).va)(hy:Has R B w0 i y (NumA k2 n).va)(h0:0≤n∧n≤k.bits)(h:m/2^n.toNat=c):Wv P Q R B w0 i (.binOp .shr xt x y yt) (NumA k c).va:=H8 hx hy λ w=>by rw [binOp_shr,shift_shr _ _ _ _ h0.1 h0.2,h];rfl
theorem yn {c:Int}(hx:Has R B w0 i x (NumA k m).va)(hy:Has R B w0 i y (NumA k2 n).va)(h0:0≤n∧n≤k.bits)(h:k.wrap (m*2^n.toNat)=c):Wv P Q R B w0 i (.binOp .shl xt x y yt) (NumA k c).va:=H8 hx hy λ w=>by rw [binOp_shl,shift_shl _ _ _ _ h0.1 h0.2,h];rfl
variable (hx:Has R B w0 i x (NumA k m).va)(hy:Has R B w0 i y (NumA k n).va)
include hx hy
theorem nH {c:Int}(h0:n≠0)(h:k.wrap (m.tdiv n)=c):Wv P Q R B w0 i (.binOp .quo xt x y yt) (NumA k c).va:=rB hx hy λ w=>by rw [binOp_quo,← h];simp [Op.intDiv,h0]
theorem nG {c:Int}(h0:n≠0)(h:m.tmod n=c):Wv P Q R B w0 i (.binOp .rem xt x y yt) (NumA k c).va:=rB hx hy λ w=>by rw [binOp_rem,← h];simp [Op.intDiv,h0]
theorem Hb {c:Int}(h:bits .and k m n=c):Wv P Q R B w0 i (.binOp .and xt x y yt) (NumA k c).va:=rB hx hy λ w=>by rw [binOp_and,← h];rfl
theorem yp {c:Int}(h:bits .or k m n=c):Wv P Q R B w0 i (.binOp .or xt x y yt) (NumA k c).va:=rB hx hy λ w=>by rw [binOp_or,← h];rfl
theorem N1 {c:Int}(h:bits .xor k m n=c):Wv P Q R B w0 i (.binOp .xor xt x y yt) (NumA k c).va:=rB hx hy λ w=>by rw [binOp_xor,← h];rfl
end
theorem Ha {k:Yp}{n c:Int}(hx:Has R B w0 i x (NumA k n).va)(h:bits .xor k (if k.signed then -1 else k.max) n=c):Wv P Q R B w0 i (.unOp .xor T x) (NumA k c).va :=
 bk λ _ _ _ _ _ a w av=>⟨.int k c,w,by simp [execOp,bj (hx a w av),unary_xor,intBits_xor,h],Grow.refl w,bV _ _ _ _⟩
theorem EX {k:Yp}{n c:Int}(hx:Has R B w0 i x (NumA k n).va)(h:k.wrap (0-n)=c):Wv P Q R B w0 i (.unOp .neg T x) (NumA k c).va :=
 bk λ _ _ _ _ _ a w av=>⟨.int k c,w,by simp only [execOp,bj (hx a w av),Op.unary,← h];rfl,Grow.refl w,bV _ _ _ _⟩
theorem Wv.mono {op:Op}{A A':VA}(h:Wv P Q R B w0 i op A)(hm:∀ v w,A.p B v w→A'.p B v w):Wv P Q R B w0 i op A':=λ d T ps af gd a w av K hK=>h d T ps af gd a w av K λ v w' hg hp=>hK v w' hg (hm v w' hp)
theorem Jg {k:Yp}{ts:Yr}{m n:Int}(hx:Has R B w0 i x (NumA k m).va)(hy:Has R B w0 i y (NumA k n).va):Wv P Q R B w0 i (.call ⟨.builtin .min,#[x,y],ts⟩) (NumA k (min m n)).va :=
 bk λ _ _ _ _ _ a w av=>⟨_,w,by simp [execOp,resolve,invoke,builtin,bj (hx a w av),bj (hy a w av),Lib.run_min_ints],Grow.refl w,bV _ _ _ _⟩
theorem MV {k:Yp}{ts:Yr}{m n:Int}(hx:Has R B w0 i x (NumA k m).va)(hy:Has R B w0 i y (NumA k n).va):Wv P Q R B w0 i (.call ⟨.builtin .max,#[x,y],ts⟩) (NumA k (max m n)).va :=
 bk λ _ _ _ _ _ a w av=>⟨_,w,by simp [execOp,resolve,invoke,builtin,bj (hx a w av),bj (hy a w av),Lib.run_max_ints],Grow.refl w,bV _ _ _ _⟩
theorem dF (hS:Sl P S U32 1)(hz:((P.info? U32).bind (·.zero)).isSome=true)(hl0:0<l.length)(hsmall:l.length≤16777216)(ok:okL l)
  (hx:All2 (λ (A:As) x=>Has R B w0 i x A.va) (l.map λ (x:Nat)=>NumA .u32 x) xs) {ps':Array (Nat × Operand)} (hps:ps'.toList=(xs.zipIdx 0).map λ x=>(x.2,x.1)) {n:Nat} (hn:n=l.length):Wv P Q R B w0 i (.buildSlice S n ps') (MgA l).va :=
 (bR (D:=[]) oX hS hz (λ A hA=>by obtain ⟨_,_,rfl⟩:=qq.1 hA;rfl) zd (by simpa using hl0) (by simpa using hsmall) hx hps (by simpa using hn)).mono λ v w ⟨cs,hp,hv⟩=>⟨cs,⟨ok,hp⟩,hv⟩
end
theorem wu32 {x:Nat}(h:x<4294967296):IntKind.u32.wrap (x:Int)=(x:Int):=by simp [IntKind.wrap,IntKind.bits,IntKind.signed];omega
theorem wu32' {x:Nat}:IntKind.u32.wrap (x:Int)=((x%4294967296:Nat):Int):=by simp [IntKind.wrap,IntKind.bits,IntKind.signed]
theorem wu64 {x:Nat}(h:x<18446744073709551616):IntKind.u64.wrap (x:Int)=(x:Int):=by simp [IntKind.wrap,IntKind.bits,IntKind.signed];omega
theorem wi64 {x:Int}(h : -9223372036854775808≤x)(h':x<9223372036854775808):IntKind.i64.wrap x=x:=by simp [IntKind.wrap,IntKind.bits,IntKind.signed];omega
theorem dQ {x y:Nat}(h:x+y<18446744073709551616):IntKind.u64.wrap ((x:Int)+(y:Int))=((x+y:Nat):Int):=by rw [← wu64 h];simp
theorem rb {x y:Nat}(h:x*y<18446744073709551616):IntKind.u64.wrap ((x:Int)*(y:Int))=((x*y:Nat):Int):=by rw [← wu64 h];simp
theorem nshr {x k:Nat}:(x:Int)/2^((k:Int).toNat)=((x/2^k:Nat):Int):=by simp
theorem nquo {x y:Nat}(h:x/y<18446744073709551616):IntKind.u64.wrap ((x:Int).tdiv (y:Int))=((x/y:Nat):Int):=by
 rw [jg zo];rw [← j5,wu64 h]
theorem nrem {x y:Nat}:(x:Int).tmod (y:Int)=((x%y:Nat):Int):=by
 rw [vb zo];rfl
theorem wlow {x:Nat}:IntKind.u32.wrap ((x:Nat):Int)=((x%4294967296:Nat):Int):=wu32'
theorem or64 {x y:Nat}(hx:x<4294967296)(hy:y<4294967296):bits .or .u64 (((x*4294967296:Nat)):Int) (y:Int)=((x*4294967296+y:Nat):Int):=by
 have:=bits_join .u64 64 zd (λ n h0 h1=>by simp [IntKind.wrap,IntKind.bits,IntKind.signed];omega) 32 ((x*4294967296:Nat):Int) (y:Int) zo zo zo zo zo zo;rw [this];simp
theorem tU {x:Nat}(hx:x<4294967296):IntKind.u64.wrap ((x:Int)*2^((32:Int).toNat))=((x*4294967296:Nat):Int):=by
 rw [← wu64 (x:=x*4294967296) zo];simp
theorem ofi {x:Nat}(h:x<4294967296):(BitVec.ofInt 32 (x:Int)).toNat=x:=by
 rw [BitVec.ofInt_natCast,BitVec.toNat_ofNat];exact zH zo
theorem DT {x y:Nat}(hx:x<4294967296)(hy:y<4294967296):bits .xor .u32 (x:Int) (y:Int)=((x ^^^ y:Nat):Int):=by
 have h:x ^^^ y<2^32:=vR zo zo;have e:(BitVec.ofInt 32 (x:Int) ^^^ BitVec.ofInt 32 (y:Int)).toNat=x ^^^ y:=by rw [BitVec.toNat_xor,ofi hx,ofi hy]
 show IntKind.u32.wrap (((BitVec.ofInt 32 (x:Int) ^^^ BitVec.ofInt 32 (y:Int)).toNat:Nat):Int)=_;rw [e,wu32 zo]
theorem I4 {x y:Nat}(hx:x<4294967296)(hy:y<4294967296):bits .and .u32 (x:Int) (y:Int)=((x &&& y:Nat):Int):=by
 have h:x &&& y<2^32:=vU _ zo;have e:(BitVec.ofInt 32 (x:Int) &&& BitVec.ofInt 32 (y:Int)).toNat=x &&& y:=by rw [BitVec.toNat_and,ofi hx,ofi hy]
 show IntKind.u32.wrap (((BitVec.ofInt 32 (x:Int) &&& BitVec.ofInt 32 (y:Int)).toNat:Nat):Int)=_;rw [e,wu32 zo]
theorem OW {x y:Nat}(hx:x<4294967296)(hy:y<4294967296):bits .or .u32 (x:Int) (y:Int)=((x ||| y:Nat):Int):=by
 have h:x ||| y<2^32:=Nat.or_lt_two_pow zo zo;have e:(BitVec.ofInt 32 (x:Int) ||| BitVec.ofInt 32 (y:Int)).toNat=x ||| y:=by rw [BitVec.toNat_or,ofi hx,ofi hy]
 show IntKind.u32.wrap (((BitVec.ofInt 32 (x:Int) ||| BitVec.ofInt 32 (y:Int)).toNat:Nat):Int)=_;rw [e,wu32 zo]
theorem AM {x y c:Nat}(hx:x<4294967296)(hy:y<4294967296)(hc:c<2):IntKind.u32.wrap (IntKind.u32.wrap ((x:Int)-(y:Int))-(c:Int))=(((x+8589934592-y-c)%4294967296:Nat):Int):=by
 simp [IntKind.wrap,IntKind.bits,IntKind.signed];omega
theorem Ep {x y c:Nat}(hx:x<4294967296)(hy:y<4294967296)(hc:c<2):bits .or .u32 (bits .and .u32 (bits .xor .u32 4294967295 (x:Int)) (y:Int)) (bits .and .u32 (bits .xor .u32 4294967295 (bits .xor .u32 (x:Int) (y:Int))) (IntKind.u32.wrap (IntKind.u32.wrap ((x:Int)-(y:Int))-(c:Int))))/2^((31:Int).toNat)=(((if x<y+c then 1 else 0:Nat)):Int):=by
 have hl:∀ {a b:Nat},a<4294967296→b<4294967296→a ^^^ b<4294967296:=λ ha hb=>vR (n:=32) ha hb;have hl':∀ {a b:Nat},b<4294967296→a &&& b<4294967296:=λ hb=>vU (n:=32) _ hb;obtain ⟨d,hd⟩:∃ d,d=(x+8589934592-y-c)%4294967296:=⟨_,rfl⟩;rw [AM hx hy hc,← hd];have hd':d<4294967296:=by omega
 rw [show (4294967295:Int)=((4294967295:Nat):Int) from rfl,DT zo hx,DT hx hy,DT zo (hl hx hy),I4 (hl zo hx) hy,I4 (hl zo (hl hx hy)) hd',OW (hl' hy) (hl' hd')];refine (nshr (k:=31)).trans ?_
 congr 1
 rw [Nat.or_div_two_pow,vH,vH,kn,kn,kn];have h1:x/2^31=0∨x/2^31=1:=by omega
 have h2:y/2^31=0∨y/2^31=1:=by omega
 have h3:d/2^31=0∨d/2^31=1:=by omega
 rcases h1 with h1|h1 <;> rcases h2 with h2|h2 <;> rcases h3 with h3|h3 <;> rw [h1,h2,h3] <;> simp <;> omega
theorem ac:Tryz.prog.follows .mixedOrders=true:=by kernel_rfl
def MgN (l:List Nat):As where
 n:=1
 ag:=false
 p B cs w:=okL l∧((l=[]∧cs=[.slice none 0 0])∨∃ g ext,cs=[.slice (some ⟨g,0,none⟩) l.length (l++ext).length]∧(l++ext).length≤maxLen∧B≤g∧w.heap[g]?=some (.cells ((l++ext).map λ (x:Nat)=>Value.int .u32 x).toArray U32 (0,0)))
 deps:=[U32]
 len:=by rintro B cs w ⟨_,⟨_,rfl⟩|⟨g,ext,rfl,_⟩⟩ <;> rfl
 one:=by rintro B cs w ⟨_,⟨_,rfl⟩|⟨g,ext,rfl,_⟩⟩ x hx <;> (simp at hx;subst hx;rfl)
 ag1:=λ _=>rfl
 cg:=by
  rintro B cs w w' hg ⟨h0,h|⟨g,ext,e1,e2,e3,e4⟩⟩
  ·exact ⟨h0,.inl h⟩
  ·exact ⟨h0,.inr ⟨g,ext,e1,e2,e3,hg.heap e4⟩⟩
 wr:=by
  rintro B cs w w' g c T fz hg hT hB hW ⟨h0,h|⟨g',ext,e1,e2,e3,e4⟩⟩
  ·exact ⟨h0,.inl h⟩
  ·refine ⟨h0,.inr ⟨g',ext,e1,e2,e3,?_⟩⟩;rw [hW.block g' λ hh=>?_]
   ·exact e4
   ·subst hh;rw [hg] at e4;simp only [Option.some.injEq,Obj.cells.injEq] at e4;exact hT (by simp [e4.2.1])
abbrev MgO (l:List Nat):As:=SlO U32 [] (l.map λ (x:Nat)=>NumA .u32 (x:Int)) (okL l)
def RIN (x:RI):As:=cat [BoA x.neg,MgN x.mag]
def RIO (x:RI):As:=cat [BoA x.neg,MgO x.mag]
structure Fam (M:List Nat→As):Prop where
 n:∀ l,(M l).n=1
 ag:∀ l,(M l).ag=false
 op:∀ l B v w,(M l).va.p B v w→∃ A c,v=.slice A l.length c∧Mag B w A c l∧∀ k,(M (l.take k)).va.p B (.slice A (l.take k).length c) w
 nil:∀ B w,(M []).p B [.slice none 0 0] w
theorem famA:Fam MgA:=⟨λ _=>rfl,λ _=>rfl,λ l B v w h=>by
 obtain ⟨A,c,hv,hm⟩:=gU h;exact ⟨A,c,hv,hm,λ k=>eG (hm.take k) rfl⟩,fN⟩
theorem famN:Fam MgN:=⟨λ _=>rfl,λ _=>rfl,λ l B v w h=>by
 obtain ⟨cs,⟨h0,⟨rfl,rfl⟩|⟨g,ext,rfl,e1,e2,e3⟩⟩,hv⟩:=h
 ·refine ⟨none,0,hv,⟨h0,qi _,zx _,λ h=>absurd h zd⟩,λ k=>?_⟩;rw [show ([]:List Nat).take k=[] by simp];exact ⟨[.slice none 0 0],⟨h0,.inl ⟨rfl,rfl⟩⟩,rfl⟩
 ·refine ⟨some ⟨g,0,none⟩,(l++ext).length,hv,Mag.own e3 h0 (by rw [qu];omega) e1 (λ j hj=>by rw [List.getElem?_toArray,List.getElem?_map,List.getElem?_append_left hj];simp [hj]),λ k=>?_⟩;have e:l.take k++(l.drop k++ext)=l++ext:=by rw [← qP,xO]
  exact ⟨[.slice (some ⟨g,0,none⟩) (l.take k).length (l++ext).length],⟨λ x hx=>h0 x (xj hx),.inr ⟨g,l.drop k++ext,by rw [e],by rw [e];exact e1,e2,by rw [e];exact e3⟩⟩,rfl⟩,
 λ B w=>⟨cU,.inl ⟨rfl,rfl⟩⟩⟩
def MgZ (l:List Nat):As where
 n:=1
 ag:=false
 p B cs w:=okL l∧∃ A c,cs=[.slice A l.length c]∧l.length≤c∧c≤maxLen ∧
  (0<l.length→∃ g ext,A=some ⟨g,0,none⟩∧c=(l++ext).length∧B≤g∧w.heap[g]?=some (.cells ((l++ext).map λ (x:Nat)=>Value.int .u32 x).toArray U32 (0,0)))
 deps:=[U32]
 len:=by rintro B cs w ⟨_,A,c,rfl,_⟩;rfl
 one:=by rintro B cs w ⟨_,A,c,rfl,_⟩ x hx;simp at hx;subst hx;rfl
 ag1:=λ _=>rfl
 cg:=by
  rintro B cs w w' hg ⟨h0,A,c,rfl,h1,h2,h3⟩;refine ⟨h0,A,c,rfl,h1,h2,λ hn=>?_⟩;obtain ⟨g,ext,e1,e3,e0,e2⟩:=h3 hn;exact ⟨g,ext,e1,e3,e0,hg.heap e2⟩
 wr:=by
  rintro B cs w w' g c T fz hg hT hB hW ⟨h0,A,c',rfl,h1,h2,h3⟩;refine ⟨h0,A,c',rfl,h1,h2,λ hn=>?_⟩;obtain ⟨g',ext,e1,e3,e0,e2⟩:=h3 hn;refine ⟨g',ext,e1,e3,e0,?_⟩;rw [hW.block g' λ hh=>?_]
  ·exact e2
  ·subst hh;rw [hg] at e2;simp only [Option.some.injEq,Obj.cells.injEq] at e2;exact hT (by simp [e2.2.1])
theorem famZ:Fam MgZ:=⟨λ _=>rfl,λ _=>rfl,λ l B v w h=>by
 obtain ⟨cs,⟨h0,A,c,rfl,h1,h2,h3⟩,hv⟩:=h;refine ⟨A,c,hv,⟨h0,h1,h2,λ hn=>?_⟩,λ k=>⟨[.slice A (l.take k).length c],⟨λ x hx=>h0 x (xj hx),A,c,rfl,by simp;omega,h2,λ hn=>?_⟩,rfl⟩⟩
 ·obtain ⟨g,ext,rfl,_,_,e2⟩:=h3 hn;exact (Mag.own e2 h0 h1 h2 (λ j hj=>by rw [List.getElem?_toArray,List.getElem?_map,List.getElem?_append_left hj];simp [hj])).at_ hn
 ·obtain ⟨g,ext,e1,e3,e0,e2⟩:=h3 (by simp at hn;omega);have e:l.take k++(l.drop k++ext)=l++ext:=by rw [← qP,xO]
  exact ⟨g,l.drop k++ext,e1,by rw [e];exact e3,e0,by rw [e];exact e2⟩,
 λ B w=>⟨cU,none,0,rfl,qi _,zx _,λ h=>by simp at h⟩⟩
theorem cI {M:Ya→As}(hM:Fam M):Str Tryz.prog 26 [BoA false,M []] :=
 Str.of (z:=.agg #[.bool false,.slice none 0 0]) zk xP (by rw [show dW [BoA false,M []]=dW [BoA false,MgA []] from by simp [dW,offs,hM.n,(famA).n,List.range_succ]];kernel_rfl) λ B w=>⟨[[.bool false],[.slice none 0 0]],rfl,.cons rfl (.cons (hM.nil B w) .nil)⟩
theorem K6 (B:Nat)(w:Yi):(MgO []).p B [.slice none 0 0] w:=⟨cU,oX,none,0,[],rfl,qi _,zx _,⟨[],rfl,.nil⟩,λ h=>by simp at h⟩
theorem ga:Str Tryz.prog 26 [BoA false,MgO []] :=
 Str.of (z:=.agg #[.bool false,.slice none 0 0]) zk xP zk λ B w=>⟨[[.bool false],[.slice none 0 0]],rfl,.cons rfl (.cons (K6 B w) .nil)⟩
theorem K7 (h:(MgN l).va.p B v w):(MgA l).va.p B v w:=by
 obtain ⟨A,c,rfl,hm,_⟩:=famN.op l B v w h;exact eG hm rfl
def Up (A A':VA):Prop:=∀ B v w,B≤w.heap.size→A.p B v w→A'.p w.heap.size v w
def UpA (A A':As):Prop:=A'.n=A.n∧A'.ag=A.ag∧∀ B cs w,B≤w.heap.size→A.p B cs w→A'.p w.heap.size cs w
def Free (A A':VA):Prop:=∀ B B' v w,B'≤B→A.p B v w→A'.p B' v w
def FreeA (A A':As):Prop:=A'.n=A.n∧A'.ag=A.ag∧∀ B B' cs w,B'≤B→A.p B cs w→A'.p B' cs w
theorem UpA.va {A A':As}(h:UpA A A'):Up A.va A'.va:=λ B v w hB ⟨cs,hp,hv⟩=>⟨cs,h.2.2 B cs w hB hp,by rw [h.2.1];exact hv⟩
theorem FreeA.va {A A':As}(h:FreeA A A'):Free A.va A'.va:=λ B B' v w hB ⟨cs,hp,hv⟩=>⟨cs,h.2.2 B B' cs w hB hp,by rw [h.2.1];exact hv⟩
theorem co (k:Yp)(n:Int):FreeA (NumA k n) (NumA k n):=⟨rfl,rfl,λ _ _ _ _ _ h=>h⟩
theorem lD (k:Yp)(n:Int):UpA (NumA k n) (NumA k n):=⟨rfl,rfl,λ _ _ _ _ h=>h⟩
theorem Mc (b:Bool):UpA (BoA b) (BoA b):=⟨rfl,rfl,λ _ _ _ _ h=>h⟩
theorem ep (b:Bool):FreeA (BoA b) (BoA b):=⟨rfl,rfl,λ _ _ _ _ _ h=>h⟩
theorem eA (l:Ya):FreeA (MgN l) (MgN l):=⟨rfl,rfl,λ B B' cs w hB h=>by
 obtain ⟨h0,h|⟨g,ext,e1,e2,e3,e4⟩⟩:=h
 ·exact ⟨h0,.inl h⟩
 ·exact ⟨h0,.inr ⟨g,ext,e1,e2,qf hB e3,e4⟩⟩⟩
theorem mo (l:Ya):UpA (MgA l) (MgO l):=⟨rfl,rfl,λ B cs w hB hp=>by
 obtain ⟨ok,h0,A,c,ds,rfl,h1,h2,h3,h4⟩:=hp;refine ⟨ok,h0,A,c,ds,rfl,h1,h2,?_,λ hn=>?_⟩
 ·exact cat_nums.2 (cat_nums.1 h3)
 ·obtain ⟨b,o,e1,e2,e3,e4⟩:=h4 hn;exact ⟨b,o,e1,e2,e2,e4⟩⟩
theorem iF (l:Ya):FreeA (MgN l) (MgA l):=⟨rfl,rfl,λ B B' cs w hB h0=>by
 have h:=(eA l).2.2 B B' cs w hB h0;obtain ⟨ds,hp,hv⟩:=K7 (l:=l) (B:=B') ⟨cs,h,rfl⟩;have l1:=(MgN l).len _ _ _ h;have l2:=(MgA l).len _ _ _ hp
 match cs,ds,l1,l2,hv,hp with
 | [x],[y],_,_,hv,hp =>
  have:x=y:=hv;rw [this];exact hp⟩
theorem bN {l l':Yb}(h:All2 FreeA l l'):FreeA (cat l) (cat l'):=by
 have key:∀ {l l':List As},All2 FreeA l l'→(cat l').n=(cat l).n∧∀ B B' ps w,B'≤B→All2 (λ (A:As) c=>A.p B c w) l ps→All2 (λ (A:As) c=>A.p B' c w) l' ps:=by
  intro l l' h
  induction h with
  | nil=>exact ⟨rfl,λ B B' ps w _ h=>by cases h;exact .nil⟩
  | cons h1 _ ih =>
   refine ⟨?_,λ B B' ps w hB h=>?_⟩
   ·have:=ih.1;simp only [cat,qS,xe] at this ⊢;rw [h1.1,this]
   ·cases h with
    | cons h2 h3=>exact .cons (h1.2.2 _ _ _ _ hB h2) (ih.2 _ _ _ _ hB h3)
 refine ⟨(key h).1,rfl,λ B B' cs w hB hp=>?_⟩;obtain ⟨ps,e1,e2⟩:=hp;exact ⟨ps,e1,(key h).2 B B' ps w hB e2⟩
theorem iS {l l':Yb}(h:All2 UpA l l'):UpA (cat l) (cat l'):=by
 have key:∀ {l l':List As},All2 UpA l l'→(cat l').n=(cat l).n∧∀ B ps w,B≤w.heap.size→All2 (λ (A:As) c=>A.p B c w) l ps→All2 (λ (A:As) c=>A.p w.heap.size c w) l' ps:=by
  intro l l' h
  induction h with
  | nil=>exact ⟨rfl,λ B ps w _ h=>by cases h;exact .nil⟩
  | cons h1 _ ih =>
   refine ⟨?_,λ B ps w hB h=>?_⟩
   ·have:=ih.1;simp only [cat,qS,xe] at this ⊢;rw [h1.1,this]
   ·cases h with
    | cons h2 h3=>exact .cons (h1.2.2 _ _ _ hB h2) (ih.2 _ _ _ hB h3)
 refine ⟨(key h).1,rfl,λ B cs w hB hp=>?_⟩;obtain ⟨ps,e1,e2⟩:=hp;exact ⟨ps,e1,(key h).2 B ps w hB e2⟩
theorem yc (x:RI):UpA (RIA x) (RIO x):=iS (.cons (Mc _) (.cons (mo _) .nil))
theorem dA (x:RI):FreeA (RIN x) (RIN x):=bN (.cons (ep _) (.cons (eA _) .nil))
theorem m9 (x:RI):FreeA (RIN x) (RIA x):=bN (.cons (ep _) (.cons (iF _) .nil))
theorem GD {l l':Yc}(h:All2 Free l l')(B B':Nat)(hB:B'≤B)(w:Yi):∀ {vs:Ym},All2 (λ (A:VA) v=>A.p B v w) l vs→All2 (λ (A:VA) v=>A.p B' v w) l' vs:=by
 induction h with
 | nil=>intro vs hp;cases hp;exact .nil
 | cons h1 _ ih=>intro vs hp;cases hp with|cons h2 h3=>exact .cons (h1 _ _ _ _ hB h2) (ih h3)
theorem E3 {l l':Yc}(h:All2 Up l l')(B:Nat)(w:Yi)(hB:B≤w.heap.size):∀ {vs:Ym},All2 (λ (A:VA) v=>A.p B v w) l vs→All2 (λ (A:VA) v=>A.p w.heap.size v w) l' vs:=by
 induction h with
 | nil=>intro vs hp;cases hp;exact .nil
 | cons h1 _ ih=>intro vs hp;cases hp with|cons h2 h3=>exact .cons (h1 _ _ _ hB h2) (ih h3)
theorem AE {l l':Yc}(h:All2 Free l l'):Free (Tu l) (Tu l'):=λ B B' _ w hB ⟨vs,hv,hp⟩=>⟨vs,hv,GD h B B' hB w hp⟩
theorem Cn.free {f:Yn}{pre:Yc}{post post':VA}(h:Cn P f pre post)(hp:Free post post'):Cn P f pre post':=h.mono λ B v w=>hp B B v w (qi _)
theorem Cn.introW {f:Yn}{c:Code}{pre pre':Yc}{post:VA}(hf:P.funcs[f]?=some fn)(hb:fn.body=some c)(hn:(fn.name== "runtime.NumGoroutine")=false)(hsz:pre.length≤fn.ntmps)
  (hup:All2 Up pre pre') (hfree:Free post post)
  (h:∀ (B:Nat) (w0:Bs) (a:Act),B=w0.w.heap.size→St B w0 fn.ntmps (argΓ pre') [] a w0.w→c.wp P (ce P fn (RQ B w0 post)) a w0.w):Cn P f pre post:=by
 refine ⟨⟨fn,hf,hn,by rw [hb];rfl⟩,λ B w args hB ha=>(cm hf hb (h w.heap.size ⟨w,λ _=>False,false⟩ _ G ?_)).mono λ _ _ ⟨v,he,hv,hk⟩=>⟨v,he,hfree _ _ _ _ hB hv,hk.grow0⟩⟩;have hl:=ha.length;have hl2:=hup.length;have ha':All2 (λ (A:VA) v=>A.p w.heap.size v w) pre' args:=E3 hup B w hB ha;refine ⟨λ g hg=>hg.resolve_right λ h=>h,DefOk.nil rfl,?_,Kept.refl _,All2.args ha',(λ l hl=>by cases hl),(λ l hl=>by cases hl)⟩;simp only [xi,z8,qO];omega
def Cr (P:Program)(f:FuncId)(T:TypeId)(H:Hd)(A:As)(pre:List VA):Prop :=
 (Xx P f) ∧
 ∀ (B:Nat) (w:World) (args:List Value),B≤w.heap.size→All2 (λ A v=>A.p B v w) pre args →
  Calls P f args.toArray w λ e w'=>∃ g cs,e=.returned (H.f g)∧w.heap.size≤g∧w'.heap[g]?=some (.cells (List.toArray cs) T (0,0))∧A.p B cs w'∧Grow w w'
def RQr (B:Nat)(w0:Bs)(T:TypeId)(H:Hd)(A:As):Ending→World→Prop:=λ e w'=>∃ g cs,e=.returned (H.f g)∧w0.w.heap.size≤g∧w'.heap[g]?=some (.cells (List.toArray cs) T (0,0))∧A.p B cs w'∧Kept w0 w'
theorem Cr.introW {f:Yn}{c:Code}{pre pre':Yc}(hf:P.funcs[f]?=some fn)(hb:fn.body=some c)(hn:(fn.name== "runtime.NumGoroutine")=false)(hsz:pre.length≤fn.ntmps)
  (hup:All2 Up pre pre') (hA:∀ B B' cs w,A.p B cs w→A.p B' cs w)
  (h:∀ (B:Nat) (w0:Bs) (a:Act),B=w0.w.heap.size→St B w0 fn.ntmps (argΓ pre') [] a w0.w→c.wp P (ce P fn (RQr B w0 T H A)) a w0.w):Cr P f T H A pre:=by
 refine ⟨⟨fn,hf,hn,by rw [hb];rfl⟩,λ B w args hB ha=>(cm hf hb (h w.heap.size ⟨w,λ _=>False,false⟩ _ G ?_)).mono λ _ _ ⟨g,cs,he,h1,h2,h3,hk⟩=>⟨g,cs,he,h1,h2,hA _ _ _ _ h3,hk.grow0⟩⟩;have hl:=ha.length;have hl2:=hup.length;have ha':All2 (λ (A:VA) v=>A.p w.heap.size v w) pre' args:=E3 hup B w hB ha;refine ⟨λ g hg=>hg.resolve_right λ h=>h,DefOk.nil rfl,?_,Kept.refl _,All2.args ha',(λ l hl=>by cases hl),(λ l hl=>by cases hl)⟩;simp only [xi,z8,qO];omega
theorem ET {B t N:Nat}(hr:fn.results = #[.tmp t])(h:St B w0 N Γ Λ a w)(hB:B=w0.w.heap.size)(hm:(⟨t,T,H,A⟩:Lc)∈Λ):ce P fn (RQr B w0 T H A) .ret a w:=by
 refine gz h λ w h=>?_;obtain ⟨g,cs,h1,hgm,h3,h4⟩:=h.locs _ hm;refine ⟨_,results_tmp hr a.tmps P w,g,cs,?_,by have:=h.lo g hgm;omega,h3,h4,h.base⟩;exact qp Ending.returned h1
section
variable {P:Program}{Q:Exit→Act→World→Prop}{R:Rg}{B:Nat}{w0:Bs}{i:Nat}
theorem C5 {d e:Nat}{st:Option (Nat × As)}{f:Yn}{pre:Yc}{at_:Yr}(hs:R.sp[i]?=some (.alc e))(he:R.les[e]?=some ⟨d,T,H,some i,A,st⟩)
  (ho:R.ops[i]?=some ⟨some d,.call ⟨.value (.func f),xs.toArray,at_⟩,ty,ps,af,none⟩) (hc:Cr P f T H A pre) (hx:HasL R B w0 i xs pre):R.Ob P Q B w0 i:=by
 unfold Rg.Ob;simp only [hs,he];intro a w av K hK;obtain ⟨⟨fn,hf,hn,hb⟩,hcall⟩:=hc;refine bA ho G ?_;have hrun:(execOp a.eval ⟨some d,.call ⟨.value (.func f),xs.toArray,at_⟩,ty,ps,af,none⟩).run P w=.ok (.enter f (xs.map a.eval).toArray) w:=by
  simp only [execOp,resolve,Act.eval,Deferred.ofValue,Sem.run_bind,Sem.run_pure,Result.andThen_ok,invoke,bi hf hn hb];simp
 unfold Oper.wp;rw [hrun];exact (hcall B w _ (Av.bw av) (hx.all av)).mono λ e w' ⟨g,cs,he,h1,h2,h3,hg⟩=>by subst he;exact hK g cs w' hg h1 h2 h3
end
theorem St.own (h:St B w0 N Γ Λ a w)(hB:B=w0.w.heap.size){t:Nat}(k:Nat)(hm:Γ[k]?=some (t,(MgZ l).va))(hl:0<l.length)(hΛ:Λ.all (λ m=>m.T != U32)=true):
  ∃ c ext,l.length≤c∧c≤maxLen∧okL l∧c=(l++ext).length∧St B w0 N Γ (⟨t,U32,slH l.length c,Nums .u32 (l++ext)⟩::Λ) a w:=by
 obtain ⟨cs,⟨ok,A,c,rfl,h1,h2,h3⟩,hv⟩:=h.vals _ (qa hm);obtain ⟨g,ext,rfl,rfl,h4,h5⟩:=h3 hl;have hd:∀ m∈Λ,blk (a.eval (.tmp m.s))≠some g:=by
  intro m hm2 hh;obtain ⟨g',cs,e1,_,e3,_⟩:=h.locs m hm2;rw [e1,m.H.ok] at hh;injection hh with hh;subst hh;rw [e3] at h5;simp only [Option.some.injEq,Obj.cells.injEq] at h5;have:=qe.1 hΛ m hm2;simp [h5.2.1] at this
 have hg:blk (a.eval (.tmp t))=some g:=by rw [hv];rfl
 refine ⟨(l++ext).length,ext,by rw [qu];omega,h2,ok,rfl,h.lo,h.defers,h.size,h.base,h.vals,λ x hx=>?_,λ x hx y hy hne=>?_⟩
 ·rcases qr.1 hx with rfl|hx
  ·exact ⟨g,_,hv,.inl zo,h5,rfl⟩
  ·exact h.locs x hx
 ·rcases qr.1 hx with rfl|hx <;> rcases qr.1 hy with rfl|hy
  ·exact absurd G hne
  ·rw [hg];exact λ e=>hd y hy e.symm
  ·rw [hg];exact hd x hx
  ·exact h.dis x hx y hy hne
inductive Ar where
 | v (A:VA)
 | w (H:Hd)
def Ar.ok (B:Nat)(w:World)(g:Nat):Ar→Value→Prop
 | .v A,x=>A.p B x w
 | .w H,x=>x=H.f g
def Cm (P:Program)(f:FuncId)(T:TypeId)(A0 A1:As)(pre:List Ar)(post:VA):Prop :=
 (Xx P f) ∧
 ∀ (B:Nat) (w:World) (g:Nat) (cs:List Value) (args:List Value),B≤g→w.heap[g]?=some (.cells cs.toArray T (0,0))→A0.p B cs w→All2 (λ A v=>Ar.ok B w g A v) pre args →
  Calls P f args.toArray w λ e w'=>∃ v cs',e=.returned v∧post.p B v w'∧But g w w'∧w'.heap[g]?=some (.cells cs'.toArray T (0,0))∧A1.p B cs' w'
def RQm (B:Nat)(w0:Bs)(g:Nat)(T:TypeId)(A1:As)(post:VA):Ending→World→Prop:=λ e w'=>∃ v cs',e=.returned v∧post.p B v w'∧Kept w0 w'∧w'.heap[g]?=some (.cells (List.toArray cs') T (0,0))∧A1.p B cs' w'
def Ar.va (g:Nat):Ar→VA
 | .v A=>A
 | .w H=>EqV (H.f g)
theorem Cm.intro {f:Yn}{c:Code}{pre:List Ar}{post:VA}(hf:P.funcs[f]?=some fn)(hb:fn.body=some c)(hn:(fn.name== "runtime.NumGoroutine")=false)(hsz:pre.length+1≤fn.ntmps)
  (h:∀ (B g:Nat) (w0:Bs) (a:Act),St B w0 fn.ntmps (argΓ ((Ar.w H::pre).map (Ar.va g))) [⟨0,T,H,A0⟩] a w0.w→c.wp P (ce P fn (RQm B w0 g T A1 post)) a w0.w):Cm P f T A0 A1 (.w H::pre) post:=by
 refine ⟨⟨fn,hf,hn,by rw [hb];rfl⟩,λ B w g cs args hB hg hp ha=>(cm hf hb (h B g ⟨w,λ k=>k=g,false⟩ _ ?_)).mono λ _ _ ⟨v,cs',he,hv,hk,h1,h2⟩=>⟨v,cs',he,hv,hk,h1,h2⟩⟩;have hl:=ha.length;have hgw:=(Array.getElem?_eq_some_iff.1 hg).1;have ha':All2 (λ (A:VA) v=>A.p B v w) ((Ar.w H::pre).map (Ar.va g)) args:=by
  generalize (Ar.w H::pre)=pr at ha;clear hl
  induction ha with
  | nil=>exact .nil
  | @cons x y xs ys h1 _ ih =>
   refine .cons ?_ ih;cases x with
   | v A=>exact h1
   | w H=>exact h1
 have h0:(⟨args.toArray++Array.replicate (fn.ntmps-args.toArray.size) undef,[]⟩:Act).eval (.tmp 0)=H.f g:=by
  have:=All2.args (N:=fn.ntmps-args.toArray.size) ha' (0,EqV (H.f g)) (by simp [argΓ,Ar.va]);exact this
 refine ⟨λ k hk=>?_,DefOk.nil rfl,?_,Kept.refl _,All2.args ha',λ l hl=>?_,λ l hl m hm hne=>?_⟩
 ·rcases hk with hk|hk
  ·exact qf hB (qf (xb hgw) hk)
  ·have:k=g:=hk;omega
 ·simp only [xi,z8,qO];simp at hl;omega
 ·simp at hl;subst hl;exact ⟨g,cs,h0,.inr rfl,hg,hp⟩
 ·simp at hl hm;subst hl hm;exact absurd G hne
theorem il {post:VA}(h:St B w0 N Γ Λ a w)(hm:(0,EqV (H.f g))∈Γ)(hl:(⟨0,T,H,A1⟩:Lc)∈Λ)
  (hb:ce P fn (RQ B w0 post) .ret a w):ce P fn (RQm B w0 g T A1 post) .ret a w:=by
 refine sw h hb λ v w h ⟨v',e1,e2,e3⟩=>?_;obtain ⟨g',cs,f1,_,f3,f4⟩:=h.locs _ hl
 replace f1:a.eval (.tmp 0)=H.f g':=f1
 have f0:a.eval (.tmp 0)=H.f g:=h.vals _ hm;have:g'=g:=Rg.Hd.inj (H:=H) (H':=H) (by rw [← f1,← f0]);subst this;exact ⟨v',cs,e1,e2,e3,f3,f4⟩
theorem l7 {x:RI}(h:(RIA x).va.p B v w):okL x.mag∧x.mag.length≤9223372036854775807:=by
 obtain ⟨cs,hp,_⟩:=h;obtain ⟨ps,_,hps⟩:=hp;cases hps with
 | cons _ h2=>cases h2 with
  | cons h3 _ =>
   obtain ⟨A,c,_,hg⟩:=gU ⟨_,h3,rfl⟩;have h1:=hg.le;have h2:=hg.max;unfold maxLen at h2;exact ⟨hg.ok,by omega⟩
theorem Ij {n:Nat}(h:0<n)(h2:n≤9223372036854775807):IntKind.i64.wrap ((n:Int)-1)=((n-1:Nat):Int):=by rw [wi64 zo zo];omega
theorem aW {n:Nat}(h:n<4611686018427387904):IntKind.i64.wrap ((n:Int)+1)=((n+1:Nat):Int):=by rw [wi64 zo zo];rfl
theorem i6 {n m:Nat}(h:n+m<4611686018427387904):IntKind.i64.wrap ((n:Int)+(m:Int))=((n+m:Nat):Int):=by rw [wi64 zo zo];rfl
theorem An {n:Nat}(h:n+1<4611686018427387904):IntKind.i64.wrap (((n+1:Nat):Int)-1)=((n:Nat):Int):=by rw [wi64 zo zo];omega
theorem u6:∃ i0,Tryz.prog.info? U32=some i0∧i0.zero=some (.int .u32 0)∧i0.size=1∧i0.bytes=4:=info_parts zk
theorem fA:oj Tryz.prog 24 U32 .u32:=by
 have hi:(Tryz.prog.info? U32).map (λ it=>decide (it.bytes≤8))=some true:=by kernel_rfl
 exact ⟨by kernel_rfl,by kernel_rfl,by kernel_rfl,by kernel_rfl,λ it h=>by rw [h] at hi;simpa using hi⟩
theorem St.selL (h:St B w0 N Γ Λ a w)(l:Ya):St B w0 N Γ (l.filterMap λ k=>Λ[k]?) a w:=by
 have hm:∀ x∈l.filterMap (λ k=>Λ[k]?),x∈Λ:=λ x hx=>by
  obtain ⟨k,_,hk⟩:=qR.1 hx;exact qa hk
 exact ⟨h.lo,h.defers,h.size,h.base,h.vals,λ x hx=>h.locs x (hm x hx),λ x hx y hy=>h.dis x (hm x hx) y (hm y hy)⟩
theorem bP {t:Nat}{b:Bool}{x y:Code}(J:Ye)(h:St B w0 N Γ Λ a w)(hm:(t,Bo b)∈Γ)
  (ht:b=true→x.wp P (Exit.then J Q) a w) (hf:b=false→y.wp P (Exit.then J Q) a w) (hk:∀ a w,J a w→Q .normal a w):(Code.cond (.tmp t) x y).wp P Q a w:=by
 have hJ:∀ {z:Code},z.wp P (Exit.then J Q) a w→z.wp P Q a w:=λ hz=>wp_mono hz λ e a' w' hq=>by
  cases e with
  | normal=>exact hk a' w' hq
  | _=>exact hq
 exact cd h hm (λ hb=>hJ (ht hb)) (λ hb=>hJ (hf hb))
theorem Cn.pre {f:Yn}{pre pre':Yc}{post:VA}(h:Cn P f pre post)(e:pre'=pre):Cn P f pre' post:=by subst e;exact h
theorem Cn.post {f:Yn}{pre:Yc}{post post':VA}(h:Cn P f pre post)(e:post=post'):Cn P f pre post':=by subst e;exact h
theorem iW {rest:List Oper}{o:Oper}(hgd:o.guard=none)(s x:Yj)(t:Yh)(ho:o.op=.call { callee:=.builtin .append,args := #[s,x],argTypes := #[t,t] })
  (e:TypeId) (i:TypeInfo) (z:Value) (ht:P.underlying t=some (.slice e)) (hi:P.info? e=some i) (hz:i.zero=some z) (hsize:i.size=1) (hby:i.bytes=4)
  (b:Addr) (hs:a.eval s=.slice (some b) 0 0) (ad:Addr) (m c:Nat) (news:List Value) (hx:a.eval x=.slice (some ad) m c) (hl:news.length=m) (hnews:∀ j u,news[j]?=some u→w.cell? (ad.add j)=some u) (hm:0<m) (hbytes:m*4≤140737488355328)
  (h:wpList P ops Q rest (a.put o.dst (.slice (some ⟨w.heap.size,0,none⟩) m (grownCap w m 0 e))) (w.drew.alloc (.cells (news.toArray++Builtin.zeroCells z.cells (grownCap w m 0 e-m)) e))):wpList P ops Q (o::rest) a w:=by
 refine wpList_plain hgd λ K hK=>?_;have hr:=run_append_grow (P:=P) w t o.type e i z ht hi hz b 0 0 [] (by simp) (λ j v hj=>by simp at hj) ad m c news (by rw [hl,hsize,zP]) hnews zo zo (growslice_fits zo (by rw [hby];omega));simp only [qV,vX] at hr;unfold Oper.wp execOp;simp only [ho,resolve,invoke,builtin,Sem.run_bind,Sem.run_pure,Result.andThen_ok,kY,qS,jL,hs,hx,hr];exact hK _ _ h
theorem y9 (k:Nat):Builtin.zeroCells #[Value.int .u32 0] k=((List.replicate k 0).map λ (x:Nat)=>Value.int .u32 x).toArray:=by
 apply kA;intro j;simp only [Builtin.zeroCells,kw];by_cases hj:j<k
 ·simp [hj,vB]
 ·simp [hj]
theorem St.mag (h:St B w0 N Γ Λ a w){t:Nat}(k:Nat)(hm:Γ[k]?=some (t,(MgA l).va)):okL l∧l.length≤9223372036854775807:=by
 obtain ⟨A,c,_,hg⟩:=gU (h.vals _ (qa hm));have h1:=hg.le;have h2:=hg.max;unfold maxLen at h2;exact ⟨hg.ok,by omega⟩
theorem St.magO (h:St B w0 N Γ Λ a w){t:Nat}(k:Nat)(hm:Γ[k]?=some (t,(MgO l).va)):okL l∧l.length≤9223372036854775807:=by
 obtain ⟨A,c,_,hg⟩:=gU (l:=l) (SlO.use (h.vals _ (qa hm)));have h1:=hg.le;have h2:=hg.max;unfold maxLen at h2;exact ⟨hg.ok,by omega⟩
section
variable {P:Program}{Q:Exit→Act→World→Prop}{R:Rg}{B:Nat}{w0:Bs}{i:Nat}
theorem iB {t b n c:Nat}(j:Nat)(hj:R.sp[j]?=some (.adr t b .none True))(hji:(R.anc i).contains j=true)(hl:LocH R i b U32 (slH n c) (Nums .u32 l))(h:n=l.length∧n≤c∧c≤maxLen∧okL l)(hcap:c=l.length:=by first|rfl | (simp [ay];done) | omega):Has R B w0 i (.tmp t) (MgN l).va:=λ a w av=>by
 obtain ⟨g,cs,h1,hgm,h3,h4⟩:=hl.ok av;have h2:=av.d j t b .none True hji hj trivial;have h4':cs=l.map λ (x:Nat)=>Value.int .u32 x:=h4;obtain ⟨rfl,hc,hm,ok⟩:=h;exact ⟨[.slice (some ⟨g,0,none⟩) l.length c],⟨ok,.inr ⟨g,[],by rw [zX,hcap],by rw [zX,← hcap];exact hm,av.lo g hgm,by rw [zX,← h4'];exact h3⟩⟩,h2.trans h1⟩
theorem Fw (h:Has R B w0 i x (MgZ l).va):Has R B w0 i x (MgA l).va:=λ a w av=>by
 obtain ⟨A,c,e,hm,_⟩:=famZ.op _ _ _ _ (h a w av);rw [e];exact eG hm rfl
theorem tl (h:Has R B w0 i x (MgN l).va):Has R B w0 i x (MgA l).va:=λ a w av=>K7 (h a w av)
theorem oK {k:Nat}{kd:Yp}(hS:Sl P S U32 1)(hx:Has R B w0 i x (MgA l).va)(hy:Has R B w0 i y (NumA kd k).va)(hk:k<l.length):Wv P Q R B w0 i (.indexAddr S x y) (ElP U32 (NumA .u32 (l.getD k 0:Nat))):=by
 have:=bO (P:=P) (Q:=Q) hS hx hy hk;rwa [show l[k]=l.getD k 0 from by simp [List.getD,hk]] at this
theorem aF {k:Yp}{z:Int}(n:Nat)(h:z=(n:Int)):Has R B w0 i (.const (.int k z)) (NumA k (n:Nat)).va:=λ _ w _=>by subst h;exact bV k _ B w
theorem Bq {t N n c:Nat}(hr:fn.results = #[.tmp t])(h:St B w0 N Γ Λ a w)(hm:(⟨t,U32,slH n c,Nums .u32 l⟩:Lc)∈Λ)(hk:n=l.length∧n≤c∧c≤maxLen∧okL l)(hcap:c=l.length:=by first|rfl | (simp [ay];done) | omega):
  ce P fn (RQ B w0 (MgN l).va) .ret a w:=by
 obtain ⟨rfl,hc,hmx,ok⟩:=hk;refine gz h λ w h=>?_;obtain ⟨g,cs,h1,hgm,h3,h4⟩:=h.locs _ hm;have h4':cs=l.map λ (x:Nat)=>Value.int .u32 x:=h4;exact ⟨_,results_tmp hr a.tmps P w,_,rfl,⟨[.slice (some ⟨g,0,none⟩) l.length c],⟨ok,.inr ⟨g,[],by rw [zX,hcap],by rw [zX,← hcap];exact hmx,h.lo g hgm,by rw [zX,← h4'];exact h3⟩⟩,h1⟩,h.base⟩
def ArH (R:Rg)(B:Nat)(w0:Bs)(i:Nat)(s:Nat)(H0:Hd):Ar→Operand→Prop
 | .v A,x=>Has R B w0 i x A
 | .w H,x=>H=H0∧∀ a w,R.Av B w0 i a w→a.eval x=a.eval (.tmp s)
theorem arw2 {s t:Nat}(j:Nat)(hj:R.sp[j]?=some (.adr t s .none True))(hji:(R.anc i).contains j=true):ArH R B w0 i s H (.w H) (.tmp t):=⟨rfl,λ _ _ av=>av.d j t s .none True hji hj trivial⟩
theorem Nn {d s e:Nat}{cr:Yu}{A:VA}{f:Yn}{pre:List Ar}{at_:Yr}
  (hs:R.sp[i]?=some (.cal d A e)) (he:R.les[e]?=some ⟨s,T,H,cr,A0,some (i,A1)⟩) (ho:R.ops[i]?=some ⟨some d,.call ⟨.value (.func f),xs.toArray,at_⟩,ty,ps,af,none⟩)
  (hc:Cm P f T A0 A1 pre A) (hx:All2 (ArH R B w0 i s H) pre xs):R.Ob P Q B w0 i:=by
 unfold Rg.Ob;simp only [hs,he];intro a w av g cs h1 hB h3 h4 _ K hK;obtain ⟨⟨fn,hf,hn,hb⟩,hcall⟩:=hc;refine bA ho G ?_;have hrun:(execOp a.eval ⟨some d,.call ⟨.value (.func f),xs.toArray,at_⟩,ty,ps,af,none⟩).run P w=.ok (.enter f (xs.map a.eval).toArray) w:=by
  simp only [execOp,resolve,Act.eval,Deferred.ofValue,Sem.run_bind,Sem.run_pure,Result.andThen_ok,invoke,bi hf hn hb];simp
 unfold Oper.wp;rw [hrun];refine (hcall B w g cs _ hB h3 h4 ?_).mono λ e w' ⟨v,cs',he,hv,hg,h5,h6⟩=>by subst he;exact hK v cs' w' hg h5 h6 hv
 clear hcall hrun ho
 induction hx with
 | nil=>exact .nil
 | @cons x y _ _ h _ ih =>
  refine .cons ?_ ih;cases x with
  | v A=>exact h a w av
  | w H' =>
   obtain ⟨rfl,h2⟩:=h;exact (h2 a w av).trans h1
end
theorem St.expose (h:St B w0 N Γ Λ a w)(k:Nat)(hm:Λ[k]?=some ⟨s,T,H,A⟩):∃ g,B≤g∧St B w0 N ((s,EqV (H.f g))::Γ) Λ a w:=by
 obtain ⟨g,cs,h1,h2,_⟩:=h.locs _ (qa hm);refine ⟨g,h.lo g h2,h.lo,h.defers,h.size,h.base,λ x hx=>?_,h.locs,h.dis⟩;rcases qr.1 hx with rfl|hx
 ·exact h1
 ·exact h.vals x hx
theorem St.swap (h:St B w0 N Γ Λ a w){s s' g:Nat}{H H':Hd}(k:Nat)(hm:Λ[k]?=some ⟨s,T,H,A⟩)(h1:(s,EqV (H.f g))∈Γ)(h2:(s',EqV (H'.f g))∈Γ)
  (hs:(Λ.eraseIdx k).all (λ m=>m.s != s)=true):St B w0 N Γ (⟨s',T,H',A⟩::Λ.eraseIdx k) a w:=by
 have e1:a.eval (.tmp s)=H.f g:=h.vals _ h1;have e2:a.eval (.tmp s')=H'.f g:=h.vals _ h2;have hin:=qa hm;have hsub:∀ m∈Λ.eraseIdx k,m∈Λ:=λ m hm=>xS hm;have hb:∀ m∈Λ.eraseIdx k,blk (a.eval (.tmp m.s))≠blk (a.eval (.tmp s')):=by
  intro m hm2;have hne:m.s≠s:=by simpa using qe.1 hs m hm2
  have:=h.dis m (hsub m hm2) _ hin hne;rw [e2,H'.ok];rw [show a.eval (.tmp (⟨s,T,H,A⟩:Lc).s)=H.f g from e1,H.ok] at this;exact this
 refine ⟨h.lo,h.defers,h.size,h.base,h.vals,λ x hx=>?_,λ x hx y hy hne=>?_⟩
 ·rcases qr.1 hx with rfl|hx
  ·obtain ⟨g',cs,f1,f2,f3,f4⟩:=h.locs _ hin;have:g'=g:=Rg.Hd.inj (H:=H) (H':=H) (by rw [← f1,← e1]);subst this;exact ⟨g',cs,e2,f2,f3,f4⟩
  ·exact h.locs x (hsub x hx)
 ·rcases qr.1 hx with rfl|hx <;> rcases qr.1 hy with rfl|hy
  ·exact absurd G hne
  ·exact λ e=>hb y hy e.symm
  ·exact hb x hx
  ·exact h.dis x (hsub x hx) y (hsub y hy) hne
def winH (k n c:Nat):Hd:=⟨λ g=>.slice (some ⟨g,k,none⟩) n c,λ _=>rfl⟩
theorem mz (h:Q .ret a w):Exit.noGoto Q .ret a w:=h
theorem Aa {c:Code}(J:Ye)(h:c.wp P (Exit.inBlock id (Exit.then J Q)) a w)(hk:∀ a w,J a w→Q .normal a w):(Code.block id c).wp P Q a w :=
 wp_mono (qk h) λ e a' w' hq=>by
  cases e with
  | normal=>exact hk a' w' hq
  | _=>exact hq
theorem St.cvA (h:St B w0 N Γ Λ a w)(k:Nat)(hm:Λ[k]?=some ⟨s,T,H,A⟩)(e:A=A'):St B w0 N Γ (Λ.set k ⟨s,T,H,A'⟩) a w:=by
 subst e;obtain ⟨hk,he⟩:=List.getElem?_eq_some_iff.1 hm;rw [← he,vv];exact h
theorem St.cvG (h:St B w0 N Γ Λ a w){A A':VA}(k:Nat)(hm:Γ[k]?=some (s,A))(e:A=A'):St B w0 N (Γ.set k (s,A')) Λ a w:=by
 subst e;obtain ⟨hk,he⟩:=List.getElem?_eq_some_iff.1 hm;rw [← he,vv];exact h
theorem St.asN (h:St B w0 N Γ Λ a w){t s n c g:Nat}(l ext:Ya){c':Ya}(k:Nat)(hm:Λ[k]?=some ⟨s,U32,H,Nums .u32 c'⟩)(h1:(s,EqV (H.f g))∈Γ)(h2:(t,EqV (.slice (some ⟨g,0,none⟩) n c))∈Γ)
  (e:c'=l++ext) (hn:n=l.length) (hc:n≤c∧c≤maxLen) (ok:okL l) (hcap:c=(l++ext).length:=by first|rfl | (simp [ay];done) | omega):St B w0 N ((t,(MgN l).va)::Γ) Λ a w:=by
 refine ⟨h.lo,h.defers,h.size,h.base,λ x hx=>?_,h.locs,h.dis⟩;rcases qr.1 hx with rfl|hx
 ·obtain ⟨g',cs,f1,f2,f3,f4⟩:=h.locs _ (qa hm);have e1:a.eval (.tmp s)=H.f g:=h.vals _ h1;have hg:g'=g:=Rg.Hd.inj (H:=H) (H':=H) (by rw [← f1,← e1]);subst hg;have f4':cs=c'.map λ (x:Nat)=>Value.int .u32 x:=f4;subst hn;exact ⟨[.slice (some ⟨g',0,none⟩) l.length c],⟨ok,.inr ⟨g',ext,by rw [hcap],by rw [← hcap];exact hc.2,h.lo g' f2,by rw [← e,← f4'];exact f3⟩⟩,h.vals _ h2⟩
 ·exact h.vals x hx
section
variable {P:Program}{Q:Exit→Act→World→Prop}{R:Rg}{B:Nat}{w0:Bs}{i:Nat}
theorem MR {x y z:Yj}{g o n c l h:Nat}(hS:Sl P S E 1)(hx:Has R B w0 i x (EqV (.slice (some ⟨g,o,none⟩) n c)))(hy:Has R B w0 i y (In l))(hz:Has R B w0 i z (In h)){o' n' c':Nat}(hw:l≤h∧h≤c∧l<c∧o+l=o'∧h-l=n'∧c-l=c'):
  Wv P Q R B w0 i (.slice S x (some y) (some z) none) (EqV (.slice (some ⟨g,o',none⟩) n' c')) :=
 bk λ d T ps af gd a w av=>by
  obtain ⟨hs1,hs2⟩:=hS;obtain ⟨h1,h2,h3,rfl,rfl,rfl⟩:=hw;have e1:a.eval x=_:=hx a w av;have e2:=bj (hy a w av);have e3:=bj (hz a w av);have hE:P.elem S=E:=by simp [Program.elem,hs1]
  have hs1':P.underlying S=some (.slice (P.elem S)):=by rw [hE];exact hs1
  have hsz:∀ w,(sizeOf E).run P w=.ok 1 w:=λ w=>by
   cases hi:P.info? E with
   | none=>rw [hi] at hs2;simp at hs2
   | some it=>rw [hi] at hs2;simp [sizeOf,typeInfo,hi];simpa using hs2
  refine ⟨_,w,?_,Grow.refl w,rfl⟩;have hr:=run_slice_lh (P:=P) w S (some ⟨g,o,none⟩) n c hs1' .i64 .i64 (l:Int) (h:Int) zo zo zo;rw [hE,hsz] at hr;have hne:¬ c=l:=by omega
  simp only [Result.andThen_ok,sliced,z9,hne,if_false,zP,qT] at hr;simp only [execOp,e1,e2,e3,qT,run_sliceAt_slice _ _ _ _ _ _ hs1',Sem.run_bind,Sem.run_pure]
  erw [hr]
  simp [Addr.add]
theorem BA {x z:Yj}{g o n c h:Nat}(hS:Sl P S E 1)(hx:Has R B w0 i x (EqV (.slice (some ⟨g,o,none⟩) n c)))(hz:Has R B w0 i z (In h))(hw:h≤c∧0<c):
  Wv P Q R B w0 i (.slice S x none (some z) none) (EqV (.slice (some ⟨g,o,none⟩) h c)) :=
 bk λ d T ps af gd a w av=>by
  obtain ⟨hs1,hs2⟩:=hS;obtain ⟨h2,h3⟩:=hw;have e1:a.eval x=_:=hx a w av;have e3:=bj (hz a w av);have hE:P.elem S=E:=by simp [Program.elem,hs1]
  have hs1':P.underlying S=some (.slice (P.elem S)):=by rw [hE];exact hs1
  have hsz:∀ w,(sizeOf E).run P w=.ok 1 w:=λ w=>by
   cases hi:P.info? E with
   | none=>rw [hi] at hs2;simp at hs2
   | some it=>rw [hi] at hs2;simp [sizeOf,typeInfo,hi];simpa using hs2
  refine ⟨_,w,?_,Grow.refl w,rfl⟩;have hr:=run_slice_h (P:=P) w S (some ⟨g,o,none⟩) n c hs1' .i64 (h:Int) zo zo;rw [hE,hsz] at hr;have hne:¬ c=0:=by omega
  simp only [Result.andThen_ok,sliced,z9,hne,if_false,zP,qT,jK] at hr;simp only [execOp,e1,e3,qT,run_sliceAt_slice _ _ _ _ _ _ hs1',Sem.run_bind,Sem.run_pure]
  erw [hr]
  simp [Addr.add]
def cutV (m:Nat):Value→Value
 | .slice A _ c=>.slice A m c
 | v=>v
theorem Re {b n c m:Nat}(hS:Sl P S E 1)(hl:LocH R i b T (slH n c) A)(hy:Has R B w0 i y (In m))(hm:m≤c)(hc:0<c):Ad P Q R B w0 i (.slice S (.tmp b) none (some y) none) b (.fn (cutV m)):=λ d T' ps af gd a w av K hK=>by
 obtain ⟨hs1,hs2⟩:=hS;obtain ⟨g,cs,e1,_⟩:=hl.ok av;have e3:=bj (hy a w av);have hE:P.elem S=E:=by simp [Program.elem,hs1]
 have hs1':P.underlying S=some (.slice (P.elem S)):=by rw [hE];exact hs1
 have hsz:∀ w,(sizeOf E).run P w=.ok 1 w:=λ w=>by
  cases hi:P.info? E with
  | none=>rw [hi] at hs2;simp at hs2
  | some it=>rw [hi] at hs2;simp [sizeOf,typeInfo,hi];simpa using hs2
 have hr:=run_slice_h (P:=P) w S (some ⟨g,0,none⟩) n c hs1' .i64 (m:Int) zo zo;rw [hE,hsz] at hr;rw [e1] at hK;have hne:¬ c=0:=by omega
 simp only [Result.andThen_ok,sliced,z9,hne,if_false,zP,qT,jK] at hr;refine bf (w':=w) (v:=(slH m c).f g) ?_ hK;have e1':a.eval (.tmp b)=.slice (some ⟨g,0,none⟩) n c:=e1;simp only [execOp,e1',e3,qT,run_sliceAt_slice _ _ _ _ _ _ hs1',Sem.run_bind,Sem.run_pure]
 erw [hr]
 simp [Addr.add,slH]
structure Named (R:Rg) (e:Le) (l:Lc):Prop where
 T:l.T=e.T
 A:l.A=Rg.last e
 nm:(l.s=e.s∧l.H=e.H)∨∃ (j:Nat) (k:Ky),R.sp[j]?=some (.adr l.s e.s k True)∧∀ g,offP (e.H.f g) k=l.H.f g
theorem D2 (hk:R.chk=true)(h:Rg.Fin R B w0 a w)(src:List Src)(hsrc:src.all (okS R)=true)(Λ':Yk)(hn:All2 (Named R) R.les Λ'):St B w0 R.N (src.filterMap (cC R)) Λ' a w:=by
 have st:=fp hk h src hsrc;have hev:∀ e∈R.les,∀ l,Named R e l→∃ g cs,a.eval (.tmp e.s)=e.H.f g∧a.eval (.tmp l.s)=l.H.f g∧w0.may g∧w.heap[g]?=some (.cells (List.toArray cs) e.T (0,0))∧(Rg.last e).p B cs w:=by
  intro e he l hl;obtain ⟨g,cs,e1,e2,e3,e4⟩:=st.locs ⟨e.s,e.T,e.H,Rg.last e⟩ (qq.2 ⟨e,he,rfl⟩);refine ⟨g,cs,e1,?_,e2,e3,e4⟩;rcases hl.nm with ⟨h1,h2⟩|⟨j,k,h1,h2⟩
  ·rw [h1,h2];exact e1
  ·have:=h.inv.d j l.s e.s k True h1 (by simpa using Rg.chk_lt hk h1) trivial;rw [this,show a.eval (.tmp e.s)=e.H.f g from e1,h2]
 have hget:∀ l∈Λ',∃ i:Nat,∃ e,R.les[i]?=some e∧Λ'[i]?=some l∧Named R e l:=by
  intro l hl;obtain ⟨i,hi⟩:=List.getElem?_of_mem hl;have hlen:=hn.length;have hi':i<R.les.length:=by have:=(List.getElem?_eq_some_iff.1 hi).1;omega
  obtain ⟨l',h1,h2⟩:=hn.get (List.getElem?_eq_getElem hi');rw [hi] at h1;injection h1 with h1;subst h1;exact ⟨i,_,List.getElem?_eq_getElem hi',hi,h2⟩
 refine ⟨st.lo,st.defers,st.size,st.base,st.vals,λ l hl=>?_,λ l hl m hm hne=>?_⟩
 ·obtain ⟨i,e,h1,_,h3⟩:=hget l hl;obtain ⟨g,cs,e1,e2,e3,e4,e5⟩:=hev e (qa h1) l h3;exact ⟨g,cs,e2,e3,by rw [h3.T];exact e4,by rw [h3.A];exact e5⟩
 ·obtain ⟨i,e,h1,h2,h3⟩:=hget l hl;obtain ⟨j,f,k1,k2,k3⟩:=hget m hm;obtain ⟨g,_,e1,e2,_⟩:=hev e (qa h1) l h3;obtain ⟨g',_,f1,f2,_⟩:=hev f (qa k1) m k3;have hij:i≠j:=λ hh=>by subst hh;rw [h2] at k2;injection k2 with k2;exact hne (by rw [k2])
  have hs:e.s≠f.s:=λ hh=>(Rg.chk_le hk k1).2.2.2.1 i e h1 hij hh;have:=st.dis ⟨e.s,e.T,e.H,Rg.last e⟩ (qq.2 ⟨e,qa h1,rfl⟩) ⟨f.s,f.T,f.H,Rg.last f⟩ (qq.2 ⟨f,qa k1,rfl⟩) hs;rw [show a.eval (.tmp (⟨e.s,e.T,e.H,Rg.last e⟩:Lc).s)=e.H.f g from e1,show a.eval (.tmp (⟨f.s,f.T,f.H,Rg.last f⟩:Lc).s)=f.H.f g' from f1,e.H.ok,f.H.ok] at this;rw [e2,f2,l.H.ok,m.H.ok];exact this
theorem FE {sts:List (Option (Nat × As))}{news:List Le}(anc:List (Ya))(src:List Src)(Λ':Yk)(hm:P.follows .mixedOrders=true)(h:St B w0 N Γ Λ a w)
  (hob:Obs P Q ⟨ops,N,Γ,bD Λ sts news,sp,λ i=>anc.getD i []⟩ B w0 0 ops.size)
  (hn:news.all (λ e=>e.cr.isSome)=true) (hanc:Rg.ancOk ⟨ops,N,Γ,bD Λ sts news,sp,λ i=>anc.getD i []⟩=true) (hk:Rg.chk ⟨ops,N,Γ,bD Λ sts news,sp,λ i=>anc.getD i []⟩=true) (hsrc:src.all (okS ⟨ops,N,Γ,bD Λ sts news,sp,λ i=>anc.getD i []⟩)=true)
  (hnm:All2 (Named ⟨ops,N,Γ,bD Λ sts news,sp,λ i=>anc.getD i []⟩) (bD Λ sts news) Λ')
  (hQ:∀ a w,St B w0 N (src.filterMap (cC ⟨ops,N,Γ,bD Λ sts news,sp,λ i=>anc.getD i []⟩)) Λ' a w→Q .normal a w):(Code.region id ops true).wp P Q a w :=
 Rg.draw (R:=⟨ops,N,Γ,bD Λ sts news,sp,λ i=>anc.getD i []⟩) hm hanc hk h (iz hn) (λ i hi=>hob.all i zo (by simpa using hi)) λ a' w' hf=>hQ a' w' (D2 hk hf src hsrc Λ' hnm)
end
def Cm2 (P:Program)(f:FuncId)(T:TypeId)(H0 H1:Hd)(A0 A1:As)(kd:IntKind)(ld:List Nat)(pre:List VA)(post:VA):Prop :=
 (Xx P f) ∧
 ∀ (B:Nat) (w:World) (g0 g1:Nat) (cs:List Value) (args:List Value),B≤g0→B≤g1→g0≠g1→w.heap[g0]?=some (.cells cs.toArray T (0,0))→w.heap[g1]?=some (.cells (ld.map λ (x:Nat)=>Value.int kd x).toArray T (0,0))→A0.p B cs w→All2 (λ A v=>A.p B v w) pre args →
  Calls P f (H0.f g0::H1.f g1::args).toArray w λ e w'=>∃ v cs',e=.returned v∧post.p B v w'∧But g0 w w'∧w'.heap[g0]?=some (.cells (List.toArray cs') T (0,0))∧A1.p B cs' w'
def RQm2 (B:Nat)(w0:Bs)(g0 g1:Nat)(T:TypeId)(A1:As)(kd:IntKind)(ld:List Nat)(post:VA):Ending→World→Prop:=λ e w'=>∃ v cs',e=.returned v∧post.p B v w'∧Kept w0 w'∧w'.heap[g0]?=some (.cells (List.toArray cs') T (0,0))∧A1.p B cs' w' ∧
 w'.heap[g1]?=some (.cells (ld.map λ (x:Nat)=>Value.int kd x).toArray T (0,0))
theorem Cm2.intro {f:Yn}{c:Code}{H0 H1:Hd}{kd:Yp}{ld:Ya}{pre:Yc}{post:VA}(hf:P.funcs[f]?=some fn)(hb:fn.body=some c)(hn:(fn.name== "runtime.NumGoroutine")=false)(hsz:pre.length+2≤fn.ntmps)
  (h:∀ (B g0 g1:Nat) (w0:Bs) (a:Act),St B w0 fn.ntmps (argΓ (EqV (H0.f g0)::EqV (H1.f g1)::pre)) [⟨0,T,H0,A0⟩,⟨1,T,H1,Nums kd ld⟩] a w0.w→c.wp P (ce P fn (RQm2 B w0 g0 g1 T A1 kd ld post)) a w0.w):Cm2 P f T H0 H1 A0 A1 kd ld pre post:=by
 refine ⟨⟨fn,hf,hn,by rw [hb];rfl⟩,λ B w g0 g1 cs args hB hB1 hne hg hg1 hp ha=>(cm hf hb (h B g0 g1 ⟨w,λ k=>k=g0∨k=g1,false⟩ _ ?_)).mono λ _ w' ⟨v,cs',he,hv,hk,h1,h2,h3⟩=>⟨v,cs',he,hv,⟨hk.os,hk.tape,hk.output,hk.size,λ k hk1 hk2=>?_⟩,h1,h2⟩⟩
 ·have hl:=ha.length;have hgw:=(Array.getElem?_eq_some_iff.1 hg).1;have ha':All2 (λ (A:VA) v=>A.p B v w) (EqV (H0.f g0)::EqV (H1.f g1)::pre) (H0.f g0::H1.f g1::args):=.cons rfl (.cons rfl ha);have hargs:=All2.args (N:=fn.ntmps-(H0.f g0::H1.f g1::args).toArray.size) ha';have e0:=hargs (0,EqV (H0.f g0)) (by simp [argΓ]);have e1:=hargs (1,EqV (H1.f g1)) (by simp [argΓ]);refine ⟨λ k hk=>?_,DefOk.nil rfl,?_,Kept.refl _,hargs,λ l hl=>?_,λ l hl m hm hne2=>?_⟩
  ·rcases hk with hk|hk|hk
   ·exact qf hB (qf (xb hgw) hk)
   ·have:k=g0:=hk;omega
   ·have:k=g1:=hk;omega
  ·simp only [xi,z8,qO,zf];omega
  ·simp at hl;rcases hl with rfl|rfl
   ·exact ⟨g0,cs,e0,.inr (.inl G),hg,hp⟩
   ·exact ⟨g1,_,e1,.inr (.inr G),hg1,rfl⟩
  ·have b0:blk ((⟨(H0.f g0::H1.f g1::args).toArray++Array.replicate (fn.ntmps-(H0.f g0::H1.f g1::args).toArray.size) undef,[]⟩:Act).eval (.tmp 0))=some g0:=by rw [show _=H0.f g0 from e0,H0.ok]
   have b1:blk ((⟨(H0.f g0::H1.f g1::args).toArray++Array.replicate (fn.ntmps-(H0.f g0::H1.f g1::args).toArray.size) undef,[]⟩:Act).eval (.tmp 1))=some g1:=by rw [show _=H1.f g1 from e1,H1.ok]
   simp only [qr,zq,or_false] at hl hm;rcases hl with rfl|rfl <;> rcases hm with rfl|rfl
   ·exact absurd G hne2
   ·rw [b0,b1];simpa using hne
   ·rw [b0,b1];simpa using λ e=>hne e.symm
   ·exact absurd G hne2
 ·by_cases e:k=g1
  ·subst e;rw [h3];exact hg1.symm
  ·exact hk.block k hk1 (λ hh=>hh.elim hk2 e)
theorem MB {B N g0 g1:Nat}{H0 H1:Hd}{kd:Yp}{ld:Ya}{post:VA}(h:St B w0 N Γ Λ a w)(hm0:(0,EqV (H0.f g0))∈Γ)(hm1:(1,EqV (H1.f g1))∈Γ)
  (hl0:(⟨0,T,H0,A1⟩:Lc)∈Λ) (hl1:(⟨1,T,H1,Nums kd ld⟩:Lc)∈Λ) (hb:ce P fn (RQ B w0 post) .ret a w):ce P fn (RQm2 B w0 g0 g1 T A1 kd ld post) .ret a w:=by
 refine sw h hb λ v w h ⟨v',e1,e2,e3⟩=>?_;obtain ⟨g,cs,f1,_,f3,f4⟩:=h.locs _ hl0
 replace f1:a.eval (.tmp 0)=H0.f g:=f1
 have f0:a.eval (.tmp 0)=H0.f g0:=h.vals _ hm0;have:g=g0:=Rg.Hd.inj (H:=H0) (H':=H0) (by rw [← f1,← f0]);subst this;obtain ⟨g',ds,q1,_,q3,q4⟩:=h.locs _ hl1
 replace q1:a.eval (.tmp 1)=H1.f g':=q1
 have q0:a.eval (.tmp 1)=H1.f g1:=h.vals _ hm1;have:g'=g1:=Rg.Hd.inj (H:=H1) (H':=H1) (by rw [← q1,← q0]);subst this;have q4':ds=ld.map λ (x:Nat)=>Value.int kd x:=q4;subst q4';exact ⟨v',cs,e1,e2,e3,f3,f4,q3⟩
section
variable {P:Program}{Q:Exit→Act→World→Prop}{R:Rg}{B:Nat}{w0:Bs}{i:Nat}
theorem JQ {d s s1 e:Nat}{H0 H1:Hd}{cr:Yu}{A:VA}{kd:Yp}{ld:Ya}{f:Yn}{x0 x1:Yj}{pre:Yc}{at_:Yr}
  (hs:R.sp[i]?=some (.cal d A e)) (he:R.les[e]?=some ⟨s,T,H0,cr,A0,some (i,A1)⟩) (ho:R.ops[i]?=some ⟨some d,.call ⟨.value (.func f),(x0::x1::xs).toArray,at_⟩,ty,ps,af,none⟩)
  (hc:Cm2 P f T H0 H1 A0 A1 kd ld pre A) (hx0:ArH R B w0 i s H0 (.w H0) x0) (hl1:LocH R i s1 T H1 (Nums kd ld)) (hne:s1≠s) (hx1:ArH R B w0 i s1 H1 (.w H1) x1) (hx:HasL R B w0 i xs pre):R.Ob P Q B w0 i:=by
 unfold Rg.Ob;simp only [hs,he];intro a w av g cs h1 hB h3 h4 hdis K hK;obtain ⟨⟨fn,hf,hn,hb⟩,hcall⟩:=hc;refine bA ho G ?_;have e0:a.eval x0=H0.f g:=(hx0.2 a w av).trans h1;obtain ⟨g1,ds,q1,q2,q3,q4⟩:=hl1.ok av;have e1:a.eval x1=H1.f g1:=(hx1.2 a w av).trans q1;have q4':ds=ld.map λ (x:Nat)=>Value.int kd x:=q4;subst q4';have hgg:g≠g1:=by
  obtain ⟨m,hm,rfl,_,rfl,hph⟩:=hl1;have:=hdis m hm hne (by rw [hph];rfl);rw [q1,m.H.ok] at this;exact λ hh=>this (by rw [hh])
 have hrun:(execOp a.eval ⟨some d,.call ⟨.value (.func f),(x0::x1::xs).toArray,at_⟩,ty,ps,af,none⟩).run P w=.ok (.enter f ((x0::x1::xs).map a.eval).toArray) w:=by
  simp only [execOp,resolve,Act.eval,Deferred.ofValue,Sem.run_bind,Sem.run_pure,Result.andThen_ok,invoke,bi hf hn hb];simp
 rw [qS,qS,e0,e1] at hrun;unfold Oper.wp;rw [hrun];exact (hcall B w g g1 cs _ hB (av.lo g1 q2) hgg h3 q3 h4 (hx.all av)).mono λ e w' ⟨v,cs',he,hv,hg,h5,h6⟩=>by subst he;exact hK v cs' w' hg h5 h6 hv
theorem Pd {t b:Nat}{k:Ky}(j:Nat)(hj:R.sp[j]?=some (.adr t b k True))(hji:(R.anc i).contains j=true):Ad P Q R B w0 i (.assign (.tmp t)) b k:=λ _ _ _ _ _ a w av _ hK=>by
 have h3:a.eval (.tmp t)=offP (a.eval (.tmp b)) k:=av.d j t b k True hji hj trivial;exact bf (w':=w) (v:=a.eval (.tmp t)) G (by rw [h3];exact hK)
theorem arwE (h1:Has R B w0 i x (EqV v))(h2:Has R B w0 i (.tmp s) (EqV v)):ArH R B w0 i s H (.w H) x:=⟨rfl,λ a w av=>(show a.eval x=v from h1 a w av).trans (show a.eval (.tmp s)=v from h2 a w av).symm⟩
theorem MU {k:Yp}{ts:Yr}{m n c:Int}(hx:Has R B w0 i x (NumA k m).va)(hy:Has R B w0 i y (NumA k n).va)(h:max m n=c):Wv P Q R B w0 i (.call ⟨.builtin .max,#[x,y],ts⟩) (NumA k c).va:=h▸MV hx hy
theorem dM {S E':Yh}{A:Option Addr}{n c:Nat}(hS:P.underlying S=some (.slice E'))(hx:Has R B w0 i x (EqV (.slice A n c))):Wv P Q R B w0 i (.call ⟨.builtin .len,#[x],#[S]⟩) (In n) :=
 bk λ d T' ps af gd a w av=>by
  have h3:a.eval x=.slice A n c:=hx a w av;refine ⟨.int .i64 n,w,?_,Grow.refl w,bV _ _ _ _⟩;simp [execOp,resolve,invoke,builtin,h3,Builtin.len_,run_underlying hS,goInt]
theorem dy {s:ByteArray}{n:Nat}{b:UInt8}{kd:Yp}(hT:P.underlying T=some .string)(hx:Has R B w0 i x (EqV (.string s)))(hy:Has R B w0 i y (NumA kd n).va)(h:s[n]?=some b):Wv P Q R B w0 i (.index T x y) (NumA .u8 (b.toNat:Nat)).va :=
 bk λ d T' ps af gd a w av=>by
  have e1:a.eval x=.string s:=hx a w av;have e2:=bj (hy a w av);refine ⟨_,w,?_,Grow.refl w,bV _ _ _ _⟩;simp [execOp,e1,e2,Instr.index,asIntOf,run_underlying hT,h]
theorem nums_at' {k:Yp}{j x:Nat}(h:l[j]?=some x):Sub (Nums k l) j (NumA k (x:Nat)):=by
 obtain ⟨h1,h2⟩:=List.getElem?_eq_some_iff.1 h;subst h2;exact oY h1
theorem d3 {g o n c k:Nat}{kd:Yp}(hS:Sl P S E 1)(hx:Has R B w0 i x (EqV (.slice (some ⟨g,o,none⟩) n c)))(hy:Has R B w0 i y (NumA kd k).va)(hk:k<n):Wv P Q R B w0 i (.indexAddr S x y) (EqV (.pointer (some ⟨g,o+k,none⟩))) :=
 bk λ d T' ps af gd a w av=>by
  have h3:a.eval x=.slice (some ⟨g,o,none⟩) n c:=hx a w av;have e:=bj (hy a w av);obtain ⟨hs1,hs2⟩:=hS;refine ⟨_,w,?_,Grow.refl w,rfl⟩;cases hi:P.info? E with
  | none=>rw [hi] at hs2;simp at hs2
  | some it =>
   rw [hi] at hs2;have hsz:it.size=1:=by simpa using hs2
   by_cases h0:k=0
   ·subst h0;simp [execOp,h3,e,Instr.indexAt,asIntOf,run_underlying hs1,hk,sizeOf,typeInfo,hi,Addr.add]
   ·simp [execOp,h3,e,Instr.indexAt,asIntOf,run_underlying hs1,hk,sizeOf,typeInfo,hi,hsz,Addr.add,h0]
theorem cD {s g m:Nat}(hx:Has R B w0 i x (EqV (.pointer (some ⟨g,m,none⟩))))(hl:LocH R i s T H A)(hs:Has R B w0 i (.tmp s) (EqV (H.f g)))(hsub:Sub A m A')(ht:Ty P ty A'.n A'.ag):
  Wv P Q R B w0 i (.load ty x) A'.va :=
 bk λ _ _ _ _ _ a w av=>by
  obtain ⟨g',cs,h1,_,h3,h4⟩:=hl.ok av;have h2:a.eval x=.pointer (some ⟨g,m,none⟩):=hx a w av;have hg:g'=g:=Rg.Hd.inj (H:=H) (H':=H) (by rw [← h1,← show a.eval (.tmp s)=H.f g from hs a w av]);subst hg;obtain ⟨p1,l1⟩:=hsub _ _ _ h4;refine ⟨cL A'.ag ((cs.drop m).take A'.n),w,?_,Grow.refl w,⟨_,p1,rfl⟩⟩;have:=dv ht w g' m _ (A'.len _ _ _ p1) A'.ag1 (iR h3 A'.n);simp [execOp,h2,Instr.loadAt,Instr.sureAddr,this]
theorem gR {e s g m:Nat}{cr:Yu}{x p:Yj}{ty ty':Yh}(hs:R.sp[i]?=some (.sto e))(he:R.les[e]?=some ⟨s,T,H,cr,A0,some (i,A1)⟩)
  (ho:R.ops[i]?=some ⟨none,.store ty p x,ty',ps,af,none⟩) (hp:Has R B w0 i p (EqV (.pointer (some ⟨g,m,none⟩)))) (hsg:Has R B w0 i (.tmp s) (EqV (H.f g))) (hx:Has R B w0 i x A'.va) (ht:Ty P ty A'.n A'.ag) (hput:Put A0 m A' A1):R.Ob P Q B w0 i:=by
 unfold Rg.Ob;simp only [hs,he];intro a w av g' cs h1 h3 h4 K hK;obtain ⟨cs',hp',hv⟩:=hx a w av;have h2:a.eval p=.pointer (some ⟨g,m,none⟩):=hp a w av;have hg:g'=g:=Rg.Hd.inj (H:=H) (H':=H) (by rw [← h1,← show a.eval (.tmp s)=H.f g from hsg a w av]);subst hg;obtain ⟨hlen,hp1⟩:=hput B cs cs' w h4 hp';have l1:=A'.len _ _ _ hp';refine bA ho G (wp_skip' (w':=w.setRow g' (dt cs m cs').toArray) ?_ (hK _ hp1));have:=bW ht w g' m T cs.toArray _ cs' (A'.cells_shape hp') l1 (by simpa using hlen) (A'.one _ _ _ hp') h3;simp only at this;simp [execOp,h2,hv,Instr.storeAt,Instr.sureAddr,this,dt,l1]
end
theorem All2.append {α β:Type}{R:α→β→Prop}{a a':List α}{b b':List β}(h:All2 R a b)(h':All2 R a' b'):All2 R (a++a') (b++b'):=by
 induction h with
 | nil=>exact h'
 | cons h1 _ ih=>exact .cons h1 ih
def FnV (P:Program)(D:List TypeId){ι:Type}(pre:ι→List VA)(post:ι→VA):VA where
 p B v w:=∃ (f:FuncId) (fs cs:List Value) (F C:List VA),v=.func (.func f) fs.toArray cs.toArray∧(∀ A∈F++C,∀ T∈A.deps,T∈D)∧All2 (λ (A:VA) v=>A.p B v w) F fs∧All2 (λ (A:VA) v=>A.p B v w) C cs∧∀ i,Cn P f (F++pre i++C) (post i)
 deps:=D
 cg:=by
  rintro B v w w' hg ⟨f,fs,cs,F,C,hv,hD,h1,h2,h3⟩;exact ⟨f,fs,cs,F,C,hv,hD,h1.mono λ A v h=>A.cg _ _ _ _ hg h,h2.mono λ A v h=>A.cg _ _ _ _ hg h,h3⟩
 wr:=by
  rintro B v w w' g c T fz e1 hT e3 e4 ⟨f,fs,cs,F,C,hv,hD,h1,h2,h3⟩;have key:∀ {L:List VA}{xs:List Value},(∀ A∈L,∀ T∈A.deps,T∈D)→All2 (λ (A:VA) v=>A.p B v w) L xs→All2 (λ (A:VA) v=>A.p B v w') L xs:=by
   intro L xs hL h
   induction h with
   | nil=>exact .nil
   | @cons A x _ _ h _ ih=>exact .cons (A.wr _ _ _ _ _ _ _ _ e1 (λ hm=>hT (hL A (by simp) T hm)) e3 e4 h) (ih λ A' hA=>hL A' (zr _ hA))
  exact ⟨f,fs,cs,F,C,hv,hD,key (λ A hA=>hD A (vD _ hA)) h1,key (λ A hA=>hD A (List.mem_append_right _ hA)) h2,h3⟩
def AnyIA:As where
 n:=1
 ag:=false
 p _ cs _:=∃ n:Int,cs=[.int .i64 n]
 deps:=[]
 len:=by rintro B cs w ⟨n,rfl⟩;rfl
 one:=by rintro B cs w ⟨n,rfl⟩ c hc;simp at hc;subst hc;rfl
 ag1:=λ _=>rfl
 cg:=λ _ _ _ _ _ h=>h
 wr:=λ _ _ _ _ _ _ _ _ _ _ _ _ h=>h
abbrev AnyI:VA:=AnyIA.va
theorem Cn.know {f:Yn}{pre:Yc}{post:VA}{c:Prop}(hex:Xx P f)
  (hc:∀ (B:Nat) (w:World) (args:List Value),All2 (λ (A:VA) v=>A.p B v w) pre args→c) (h:c→Cn P f pre post):Cn P f pre post :=
 ⟨hex,λ B w args hB ha=>(h (hc B w args ha)).2 B w args hB ha⟩
theorem Cn.weak {f:Yn}{pre pre':Yc}{post:VA}(h:Cn P f pre post)(hw:∀ B w args,All2 (λ (A:VA) v=>A.p B v w) pre' args→All2 (λ (A:VA) v=>A.p B v w) pre args):Cn P f pre' post :=
 ⟨h.1,λ B w args hB ha=>h.2 B w args hB (hw B w args ha)⟩
theorem cO {l:Yb}(h:(l.all λ A=>A.deps.all λ T=>D.contains T)=true):∀ A∈l,∀ T∈A.deps,T∈D:=λ A hA T hT=>by
 have:=qe.1 (qe.1 h A hA) T hT;simpa using this
theorem n_ok {l:Yb}{m:Nat}(h:(l.all λ A=>A.n==m)=true):∀ A∈l,A.n=m:=λ A hA=>by
 have:=qe.1 h A hA;simpa using this
theorem bX {α:Type}{f:α→As}{l:List α}{m:Nat}(h:∀ x,(f x).n=m):∀ A∈l.map f,A.n=m:=λ A hA=>by
 obtain ⟨x,_,rfl⟩:=qq.1 hA;exact h x
theorem bn {α:Type}{f:α→As}{l:List α}{k:Nat}(h:k<l.length):(l.map f)[k]?=some (f (l[k])):=by simp [h]
def Wk (A A':VA):Prop:=∀ B v w,A.p B v w→A'.p B v w
theorem al {A A':VA}(h:Wk A A')(hb:ce P fn (RQ B w0 A) .ret a w):ce P fn (RQ B w0 A') .ret a w:=by
 obtain ⟨Ds,e,nd,hD,hr⟩:=hb;refine ⟨Ds,e,nd,hD,λ w' hs=>?_⟩;obtain ⟨v,h1,v',e1,e2,e3⟩:=hr w' hs;exact ⟨v,h1,v',e1,h _ _ _ e2,e3⟩
theorem aG {A:VA}:Wk A A:=λ _ _ _ h=>h
theorem lC :Wk (MgO l).va (MgA l).va:=λ _ _ _ h=>SlO.use h
theorem rc :Wk (MgN l).va (MgA l).va:=λ _ _ _ h=>K7 h
theorem lB {x:RI}:Wk (RIN x).va (RIA x).va:=λ B v w h=>(m9 x).va B B v w (qi _) h
theorem LZ {x:RI}:Wk (RIO x).va (RIA x).va:=λ B v w ⟨cs,⟨ps,e,h⟩,hv⟩=>by
 cases h with
 | cons h1 h2=>cases h2 with
  | @cons _ c _ cs' h3 h4 =>
   cases h4;obtain ⟨ds,hp,he⟩:=lC (l:=x.mag) B (cL false c) w ⟨c,h3,rfl⟩;have l1:=(MgO x.mag).len _ _ _ h3;have l2:=(MgA x.mag).len _ _ _ hp
   match c,ds,l1,l2,he,hp with
   | [a],[b],_,_,he,hp =>
    have:a=b:=he;subst this;exact ⟨cs,⟨_,e,.cons h1 (.cons hp .nil)⟩,hv⟩
theorem Cn.wk {f:Yn}{pre pre':Yc}{post:VA}(h:Cn P f pre post)(hw:All2 Wk pre' pre):Cn P f pre' post:=h.weak λ B w args ha=>by
 clear h
 induction hw generalizing args with
 | nil=>cases ha;exact .nil
 | cons h1 _ ih=>cases ha with|cons h2 h3=>exact .cons (h1 _ _ _ h2) (ih _ h3)
theorem Cn.wkp {f:Yn}{pre:Yc}{post post':VA}(h:Cn P f pre post)(hw:Wk post post'):Cn P f pre post':=h.mono hw
theorem eD {c:Prop}(h:(A.and c).va.p B v w):c∧A.va.p B v w:=by
 obtain ⟨cs,hp,hv⟩:=h;exact ⟨hp.1,cs,hp.2,hv⟩
theorem GM {c:Prop}(hc:c)(h:A.va.p B v w):(A.and c).va.p B v w:=by
 obtain ⟨cs,hp,hv⟩:=h;exact ⟨cs,⟨hc,hp⟩,hv⟩
section
variable {P:Program}{Q:Exit→Act→World→Prop}{R:Rg}{B:Nat}{w0:Bs}{i:Nat}
theorem Fx {f:Yn}{ι:Type}{pre:ι→Yc}{post:ι→VA}(h:∀ i,Cn P f (pre i) (post i)):Has R B w0 i (.func f) (FnV P D pre post):=λ a w _ =>
 ⟨f,[],[],[],[],rfl,λ A hA=>(by cases hA),.nil,.nil,λ i=>by simpa using h i⟩
theorem Jj {ι:Type}{pre:ι→Yc}{post:ι→VA}(j:ι){at_:Yr}(hf:Has R B w0 i x (FnV P D pre post))(hx:HasL R B w0 i xs (pre j)):Wv P Q R B w0 i (.call ⟨.value x,xs.toArray,at_⟩) (post j):=by
 intro d T ps af gd a w av K hK;obtain ⟨f,fs,cs,F,C,hv,hD,h1,h2,h3⟩:=hf a w av;obtain ⟨⟨fn,hf',hn,hb⟩,hcall⟩:=h3 j;have hrun:(execOp a.eval ⟨some d,.call ⟨.value x,xs.toArray,at_⟩,T,ps,af,gd⟩).run P w=.ok (.enter f (fs++xs.map a.eval++cs).toArray) w:=by
  simp only [execOp,resolve,hv,Deferred.ofValue,Sem.run_bind,Sem.run_pure,Result.andThen_ok,invoke,bi hf' hn hb];simp
 unfold Oper.wp;rw [hrun];exact (hcall B w _ (Av.bw av) ((h1.append (hx.all av)).append h2)).mono λ e w' ⟨v,he,hv,hg⟩=>by subst he;exact hK v w' hg hv
theorem Wv.wk {op:Op}{A A':VA}(h:Wv P Q R B w0 i op A)(hw:Wk A A'):Wv P Q R B w0 i op A':=h.mono λ v w hp=>hw B v w hp
theorem nJ {t:Nat}{A:VA}{l:Yc}(hx:Has R B w0 i (.tmp t) (Tu (A::l))):Wv P Q R B w0 i (.extract (.tmp t) 0) A:=aQ hx rfl
theorem nI {t:Nat}{A A':VA}{l:Yc}(hx:Has R B w0 i (.tmp t) (Tu (A'::A::l))):Wv P Q R B w0 i (.extract (.tmp t) 1) A:=aQ hx rfl
theorem PR {t:Nat}{A A' A'':VA}{l:Yc}(hx:Has R B w0 i (.tmp t) (Tu (A''::A'::A::l))):Wv P Q R B w0 i (.extract (.tmp t) 2) A:=aQ hx rfl
theorem bh {s T:Nat}(hl:Loc R i s T A):Has R B w0 i (.tmp s) (ElP T A):=λ a w av=>by
 obtain ⟨g,cs,h1,h2,h3,h4⟩:=hl.ok av;exact ⟨g,0,cs,h1,(Array.getElem?_eq_some_iff.1 h3).1,.inr ⟨_,_,h3⟩,h4,λ j u hu=>by rw [qV,cell_of_row w g j cs.toArray T _ h3];simpa using hu⟩
section
variable {x y:Operand}{xt yt:TypeId}(hx:Has R B w0 i x AnyI)(hy:Has R B w0 i y AnyI)
include hx hy
end
theorem rA (hS:Sl P S U32 1)(hz:((P.info? U32).bind (·.zero)).isSome=true)(hl0:0<l.length)(hsmall:l.length≤16777216)(ok:okL l)
  (hx:All2 (λ (A:As) x=>Has R B w0 i x A.va) (l.map λ (x:Nat)=>NumA .u32 x) xs) {ps':Array (Nat × Operand)} (hps:ps'.toList=(xs.zipIdx 0).map λ x=>(x.2,x.1)) {n:Nat} (hn:n=l.length):Wv P Q R B w0 i (.buildSlice S n ps') (MgN l).va :=
 bk λ d T ps af gd a w av=>by
  subst hn;obtain ⟨hs1,hs2⟩:=hS;cases hi:P.info? U32 with
  | none=>rw [hi] at hs2;simp at hs2
  | some it =>
   rw [hi] at hs2 hz;have hsz:it.size=1:=by simpa using hs2
   obtain ⟨z,hzz⟩:=vd.1 hz;simp only [wc] at hzz;have hvs:xs.map a.eval=l.map λ (x:Nat)=>Value.int .u32 x:=by
    clear hps hl0 hsmall ok;generalize hL:l.map (λ (x:Nat)=>NumA .u32 x)=L at hx
    induction hx generalizing l with
    | nil=>cases l with|nil=>rfl|cons _ _=>simp at hL
    | cons h _ ih =>
     cases l with
     | nil=>simp at hL
     | cons y ys =>
      simp only [qS,List.cons.injEq] at hL ⊢;obtain ⟨rfl,hL⟩:=hL;exact ⟨bj (h a w av),ih hL⟩
   have hxl:xs.length=l.length:=by have:=qp List.length hvs;simpa using this
   have hf:=Great.fill_whole (s:=1) zo (xs.map a.eval) ((Array.range (l.length*1)).map (z.cells[· % z.cells.size]!)) (λ v hv=>by rw [hvs] at hv;obtain ⟨x,_,rfl⟩:=qq.1 hv;rfl) (by simp [hxl]);have hcells:((xs.map a.eval).flatMap λ v=>v.cells.toList)=l.map λ (x:Nat)=>Value.int .u32 x:=by
    rw [hvs];clear hvs hf hxl hl0 hsmall ok hps hx
    induction l with
    | nil=>rfl
    | cons y ys ih=>rw [qS,xh,ih];rfl
   have hrun:=run_buildSlice (P:=P) w S U32 l.length (ps'.map λ x=>(x.1,a.eval x.2)) ((xs.map a.eval).flatMap λ v=>v.cells.toList).toArray it z hs1 hi hzz (by rw [hsz];omega) (by rw [hsz];omega) (by
    rw [hsz,← hf]
    congr 1
    rw [wj,hps];simp [wo,xD,Function.comp_def])
   rw [hcells] at hrun;refine ⟨.slice (some ⟨w.heap.size,0,none⟩) l.length l.length,w.alloc (.cells (l.map λ (x:Nat)=>Value.int .u32 x).toArray U32),by simp [execOp,hrun],Grow.alloc _ _,[.slice (some ⟨w.heap.size,0,none⟩) l.length l.length],⟨ok,.inr ⟨w.heap.size,[],by rw [zX],by rw [zX];unfold maxLen;omega,Av.bw av,by rw [zX];exact heap_alloc_new w _⟩⟩,rfl⟩
theorem Fv {t b n c:Nat}{l ext:Ya}(j:Nat)(hj:R.sp[j]?=some (.adr t b .none True))(hji:(R.anc i).contains j=true)(hl:LocH R i b U32 (slH n c) (Nums .u32 (l++ext)))(h:n=l.length∧n≤c∧c≤maxLen∧okL l)(hcap:c=(l++ext).length:=by first|rfl | (simp [ay];done) | omega):Has R B w0 i (.tmp t) (MgN l).va:=λ a w av=>by
 obtain ⟨g,cs,h1,hgm,h3,h4⟩:=hl.ok av;have h2:=av.d j t b .none True hji hj trivial;have h4':cs=(l++ext).map λ (x:Nat)=>Value.int .u32 x:=h4;obtain ⟨rfl,hc,hm,ok⟩:=h;exact ⟨[.slice (some ⟨g,0,none⟩) l.length c],⟨ok,.inr ⟨g,ext,by rw [hcap],by rw [← hcap];exact hm,av.lo g hgm,by rw [← h4'];exact h3⟩⟩,h2.trans h1⟩
end
theorem nR {k:Nat}(hk:k<l.length)(h:l[k]=0):bx (l.take (k+1))=bx (l.take k):=by
 rw [qw hk,h,mq]
theorem nQ {k:Nat}(hk:k<l.length)(h:l[k]≠0):bx (l.take (k+1))=l.take (k+1):=by
 rw [qw hk,nF _ h]
theorem Ek (A:Option Addr)(c:Nat)(w:Yi):Calls Tryz.prog 221 #[.slice A 0 c] w λ e w'=>e=.returned (.slice A 0 c)∧w=w':=by
 go_enter Tryz.func221,Tryz.ntmps221
 go_wp2
 go_loop [0] (λ v=>v=.slice A 0 c) (λ _=>0)
 case atStart=>rfl
 case round =>
  subst hrel
  go_wp2
  go_ret
  exact ⟨rfl,rfl⟩
def lenOf:Value→Nat | .slice _ k _=>k|_=>0
theorem AF (b o c:Nat)(l:Ya)(w:Yi)(hc:∀ j (h:j<l.length),w.cell? ⟨b,o+j,none⟩=some (.int .u32 (l[j]:Nat)))(hm:l.length≤9223372036854775807)(hnc:l.length≤c) :
  Calls Tryz.prog 221 #[.slice (some ⟨b,o,none⟩) l.length c] w λ e w'=>e=.returned (.slice (some ⟨b,o,none⟩) (bx l).length c)∧w=w':=by
 obtain ⟨n,hn⟩:∃ n,n=l.length:=⟨_,rfl⟩;rw [← hn] at hm hnc ⊢;have HN:Hid (n=l.length):=hn;clear hn
 go_enter Tryz.func221,Tryz.ntmps221
 go_wp2
 go_loop [0] (λ v=>∃ k:Nat,k≤n∧v=.slice (some ⟨b,o,none⟩) k c∧bx (l.take k)=bx l) (λ v=>lenOf v)
 case atStart=>exact ⟨n,qi _,rfl,by rw [qF (xB HN.out.symm)]⟩
 case round =>
  obtain ⟨k,hk,rfl,ht⟩:=hrel;have HT:Hid (bx (l.take k)=bx l):=ht;clear ht;cases k with
  | zero =>
   go_wp2
   go_ret
   exact ⟨by rw [← HT.out];simp [bx],rfl⟩
  | succ k =>
   have hkl:k<l.length:=by rw [← HN.out];omega
   obtain ⟨x,hx⟩:∃ x,x=l[k]:=⟨_,rfl⟩;have hcell:=hc k hkl;rw [← hx] at hcell;clear hc;have HX:Hid (x=l[k]):=hx;clear hx;by_cases hz:x=0
   ·subst hz
    go_wp2
    go_round
    case rel=>exact ⟨k,by omega,rfl,by rw [← HT.out,nR hkl HX.out.symm]⟩
    case measure=>simp [lenOf]
   ·have hz':((x:Int)==0)=false:=by simp;omega
    go_wp2
    go_ret
    refine ⟨?_,rfl⟩;rw [← HT.out,nQ hkl (by rw [← HX.out];exact hz),ze,xl zo]
    rfl
theorem iQ {f:Yn}(hf:Tryz.prog.funcs[f]?=some fn)(hn:(fn.name== "runtime.NumGoroutine")=false)(hb:fn.body.isNone=false):Xx Tryz.prog f:=⟨fn,hf,hn,hb⟩
theorem u9 {M:Ya→As}(hM:Fam M)(l:Ya):Cn Tryz.prog 221 [(M l).va] (M (bx l)).va:=by
 refine ⟨iQ Tryz.func221 zk zk,λ B w args hB ha=>?_⟩;obtain ⟨v,rfl,hv⟩:=ha.one;obtain ⟨A,c,rfl,hm,htk⟩:=hM.op _ _ _ _ hv;have hsh:∀ A',A'=A→(M (bx l)).va.p B (.slice A' (bx l).length c) w:=by
  rintro _ rfl;have:=htk (bx l).length;rwa [← iZ] at this
 by_cases h0:l.length=0
 ·have hl:l=[]:=xr h0;subst hl;refine (Ek A c w).mono λ e w' ⟨he,hw⟩=>?_;subst hw;exact ⟨_,he,hsh A rfl,Grow.refl w⟩
 ·obtain ⟨b,o,rfl,h1,h2,h3⟩:=hm.at_ zo;refine (AF b o c l w h3 (by have:=hm.le;have:=hm.max;unfold maxLen at this;omega) hm.le).mono λ e w' ⟨he,hw⟩=>?_;subst hw;exact ⟨_,he,hsh _ rfl,Grow.refl w⟩
theorem tu2 {a b c d:VA}(h:a=c)(h':b=d):Tu [a,b]=Tu [c,d]:=by rw [h,h']
theorem nu {k:Yp}{m n:Int}(h:m=n):(NumA k m).va=(NumA k n).va:=by rw [h]
theorem y8 {x y c:Nat}(hx:x<4294967296)(hy:y<4294967296)(hc:c<4294967296):IntKind.u64.wrap (IntKind.u64.wrap (IntKind.u64.wrap (x:Int)+IntKind.u64.wrap (y:Int))+IntKind.u64.wrap (c:Int))=((x+y+c:Nat):Int):=by
 rw [wu64 zo,wu64 zo,dQ zo,wu64 zo,dQ zo]
theorem Dz {h l d:Nat}(hh:h<d)(hl:l<4294967296)(hd:d<4294967296):bits .or .u64 (IntKind.u64.wrap (IntKind.u64.wrap (h:Int)*2^((32:Int).toNat))) (IntKind.u64.wrap (l:Int))=((h*4294967296+l:Nat):Int):=by
 rw [wu64 (x:=h) zo,wu64 (x:=l) zo,tU zo,or64 zo hl]
theorem tA {h l d:Nat}(hh:h<d)(hl:l<4294967296):(h*4294967296+l)/d<4294967296:=by
 apply xa;have:(h+1)*4294967296≤d*4294967296:=qJ _ hh;omega
theorem nA {x y c:Nat}(hx:x<4294967296)(hy:y<4294967296)(hc:c<4294967296):Cn Tryz.prog 222 [(NumA .u32 (x:Nat)).va,(NumA .u32 (y:Nat)).va,(NumA .u32 (c:Nat)).va] (Tu [(NumA .u32 ((x+y+c)%4294967296:Nat)).va,(NumA .u32 ((x+y+c)/4294967296:Nat)).va]):=by
 refine Cn.intro Tryz.func222 G zk nq (zy [(0,(NumA .u32 (x:Nat)).va),(1,(NumA .u32 (y:Nat)).va),(2,(NumA .u32 (c:Nat)).va)] λ B w0 a U=>?_);refine qb<|zh (W6 6) (W7 [.o 0,.o 1]) U (zv G (aR ab) (zE G ab)) (zz (W8 0 1 2 6 7) [] ?_);refine ztA<|zhA (W9 9 [.v 8 _]) [.g 3,.g 4,.o 8] (zM 0 G (zv G (aH .u64 zk zk (vq 0 G) (G)) (zM 1 G (zv G (aH .u64 zk zk (vq 2 G) (G)) (zv G (aL (vq 1 G) (vq 3 G) (G)) (zM 2 G (zv G (aH .u64 zk zk (vq 5 G) (G)) (zv G (aL (vq 4 G) (vq 6 G) (G)) (zA 7 G o0))))))))) (zz (Wa 6 7 8) [] ?_);refine ztA<|zhA (W6 17 [.v 6 _]) WQ (zM 2 G (zv G (aH .u32 zk zk (vq 0 G) (G)) (zA 1 G o0))) (zz (Wa 7 8 6) [] ?_);refine ztA<|zhA (Wb 19 [.v 7 _]) [.g 2,.o 3] (zM 1 G (zv G (l8 (vq 0 G) ab zd (G)) (zv G (aH .u32 zk zk (vq 1 G) (G)) (zA 2 G o0)))) (zz (Wc 6 7) [] λ a w U=>?_);refine aa<|qh<|aJ ?_ (aP (rs:=[.tmp 6,.tmp 7]) G U (.tmp (zm 0 G) (.tmp (zm 1 G) .nil)) zd);exact tu2 (nu (by rw [y8 hx hy hc,wu32'])) (nu (by rw [y8 hx hy hc];exact (qp _ nshr).trans (wu32 (by show (x+y+c)/4294967296<_;omega))))
theorem AO {x y c:Nat}(hx:x<4294967296)(hy:y<4294967296)(hc:c<2):Cn Tryz.prog 223 [(NumA .u32 (x:Nat)).va,(NumA .u32 (y:Nat)).va,(NumA .u32 (c:Nat)).va] (Tu [(NumA .u32 ((x+8589934592-y-c)%4294967296:Nat)).va,(NumA .u32 (if x<y+c then 1 else 0:Nat)).va]):=by
 refine Cn.intro Tryz.func223 G zk nq (zy [(0,(NumA .u32 (x:Nat)).va),(1,(NumA .u32 (y:Nat)).va),(2,(NumA .u32 (c:Nat)).va)] λ B w0 a U=>?_);refine qb<|zh (W6 6) (W7 [.o 0,.o 1]) U (zv G (aR ab) (zE G ab)) (zz (W8 0 1 2 6 7) [] ?_);refine ztA<|zhA (Wd 8 [.v 6 _]) (We [.g 4,.o 5]) (zM 0 G (zM 1 G (zv G (cH (vq 0 G) (vq 1 G) (G)) (zM 2 G (zv G (cH (vq 2 G) (vq 3 G) (G)) (zA 4 G o0)))))) (zz (Wf 0 1 7 6) [] ?_);refine ztA<|zhA (Wg 13 [.v 7 _]) [.g 3,.o 12] (zM 0 G (zv G (Ha (vq 0 G) (G)) (zM 1 G (zv G (Hb (vq 1 G) (vq 2 G) (G)) (zM 0 G (zM 1 G (zv G (N1 (vq 4 G) (vq 5 G) (G)) (zv G (Ha (vq 6 G) (G)) (zM 3 G (zv G (Hb (vq 7 G) (vq 8 G) (G)) (zv G (yp (vq 3 G) (vq 9 G) (G)) (zv G (l8 (vq 10 G) ab zd (G)) (zA 11 G o0))))))))))))) (zz (Wc 6 7) [] λ a w U=>?_);refine aa<|qh<|aJ ?_ (aP (rs:=[.tmp 6,.tmp 7]) G U (.tmp (zm 0 G) (.tmp (zm 1 G) .nil)) zd);exact tu2 (nu (AM hx hy hc)) (nu (Ep hx hy hc))
theorem Lo {h l d:Nat}(hh:h<d)(hl:l<4294967296)(hd:d<4294967296):Cn Tryz.prog 255 [(NumA .u32 (h:Nat)).va,(NumA .u32 (l:Nat)).va,(NumA .u32 (d:Nat)).va] (Tu [(NumA .u32 ((h*4294967296+l)/d:Nat)).va,(NumA .u32 ((h*4294967296+l)%d:Nat)).va]):=by
 refine Cn.intro Tryz.func255 G zk nq (zy [(0,(NumA .u32 (h:Nat)).va),(1,(NumA .u32 (l:Nat)).va),(2,(NumA .u32 (d:Nat)).va)] λ B w0 a U=>?_);refine qb<|zh (W6 6) (W7 [.o 0,.o 1]) U (zv G (aR ab) (zE G ab)) (zz (W8 0 1 2 6 7) [] ?_);refine ztA<|zsA<|zhA (Wb 9 [.t 12 _,.t 13 _,.t 14 _,.v 15 _]) (Wi [.o 6]) (zM 2 G (zv G (ca (vq 0 G) ab) (zV 1 G (zB 2 G (λ hg=>aq (gq 2 G)) (zB 2 G (λ hg=>aq (gq 0 G)) (zB 2 G (λ hg=>l9 (ae (vq 3 G) hg) (ae (vq 4 G) hg)) (zv G (bv (vq 2 G) (vq 5 G)) o0))))))) (zz (Wj 0 1 2 6 7 15) [] λ a w U=>?_);refine zJ 5 U G (λ hb0=>?_) (λ hb0=>?_)
 ·exact absurd hb0 (by simp;omega)
 ·refine qj<|zt<|zh (Wl 17 [.v 8 _]) [.g 2,.g 3,.g 4,.o 6] U (zM 0 G (zv G (aH .u64 zk zk (vq 0 G) (G)) (zv G (yn (vq 1 G) ab zd (G)) (zM 1 G (zv G (aH .u64 zk zk (vq 3 G) (G)) (zv G (yp (vq 2 G) (vq 4 G) (G)) (zA 5 G o0))))))) (zz (Wf 2 6 7 8) [] λ a w U=>?_);refine zt<|zgd [[],[],[1],[0,1,2],(Wm 4),[],[],[6],[5,6,7],[5,6,7,8],(Wm 5),(Wm 11)] [] [] (Wn 23 (W6 6)) [.o 10,.o 11] ac U (zM 3 G (zM 0 G (zv G (aH .u64 zk zk (vq 1 G) (G)) (zv G (nH (vq 0 G) (vq 2 G) (by rw [wu64 zo];omega) (G)) (zv G (aH .u32 zk zk (vq 3 G) (G)) (zM 3 G (zM 0 G (zv G (aH .u64 zk zk (vq 6 G) (G)) (zv G (nG (vq 5 G) (vq 7 G) (by rw [wu64 zo];omega) (G)) (zv G (aH .u32 zk zk (vq 8 G) (G)) (zA 4 G (zA 9 G o0)))))))))))) zk zk zk zk (zz (Wc 6 7) [] λ a w U=>?_);refine aa<|qh<|aJ ?_ (aP (rs:=[.tmp 6,.tmp 7]) G U (.tmp (zm 0 G) (.tmp (zm 1 G) .nil)) zd);exact tu2 (nu (by rw [Dz hh hl hd,wu64 (x:=d) zo];exact (qp _ (nquo (by have:=tA hh hl;omega))).trans (wu32 (tA hh hl)))) (nu (by rw [Dz hh hl hd,wu64 (x:=d) zo];exact (qp _ nrem).trans (wu32 (by have:=qW (h*4294967296+l) (show 0<d by omega);omega))))
theorem IY {l m:Ya}(ha:l.length≤9223372036854775807)(hb:m.length≤9223372036854775807)(h:((l.length:Int) != (m.length:Int))=true):IntKind.i64.wrap ((l.length:Int)-(m.length:Int))=cN l m:=by
 have h':l.length≠m.length:=by simp at h;omega
 unfold cN;rw [qC h',wi64 zo zo]
theorem IX {l m:Ya}(ha:okL l)(hl:l.length=m.length)(hj:j<l.length)(hd:l.drop (j+1)=m.drop (j+1))(h:decide (((l[j]:Nat):Int)<((m[j]'zo:Nat):Int))=true):(-1:Int)=cN l m:=by
 have:=ua (a:=l) (b:=m) ha hj zo hd (by simpa using h);unfold cN;rw [qz zo,qC this]
theorem IW {l m:Ya}(hb:okL m)(hl:l.length=m.length)(hj:j<l.length)(hd:l.drop (j+1)=m.drop (j+1))(hne:(((l[j]:Nat):Int) != ((m[j]'zo:Nat):Int))=true)(h:decide (((l[j]:Nat):Int)<((m[j]'zo:Nat):Int))=false):(1:Int)=cN l m:=by
 have:=ua (a:=m) (b:=l) hb zo hj hd.symm (by simp at h hne;omega);unfold cN;rw [qz zo,qz zo,qC this]
theorem IV {l m:Ya}(hd:l.drop 0=m.drop 0):(0:Int)=cN l m:=by
 have:l=m:=by simpa using hd
 subst this;simp [cN]
theorem uf (l m:Ya):Cn Tryz.prog 184 [(MgA l).va,(MgA m).va] (In (cN l m)):=by
 refine Cn.intro Tryz.func184 G zk nq (zy [(0,(MgA l).va),(1,(MgA m).va)] λ B w0 a U=>?_);obtain ⟨ha,hla⟩:=U.mag 0 rfl;obtain ⟨hb,hlb⟩:=U.mag 1 rfl;refine qb<|zh WR WS U (zE G ab) (zz WT [] ?_);refine ztA<|zsA<|zhA (Wd 6) WU (zM 0 G (zv G (aK qd (vq 0 G)) (zM 1 G (zv G (aK qd (vq 2 G)) (zv G (ca (vq 1 G) (vq 3 G)) o0))))) (zz (Wf 0 1 4 10) [] λ a w U=>?_);refine zJ 3 U G (λ hb0=>?_) (λ hb0=>?_)
 ·refine qb<|zh (Wd 11 [.v 4 _]) (We [.o 5]) U (zM 0 G (zv G (aK qd (vq 0 G)) (zM 1 G (zv G (aK qd (vq 2 G)) (zv G (cH (vq 1 G) (vq 3 G) (G)) (zA 4 G o0)))))) (zz WT [] λ a w U=>?_);refine aa<|qh<|aj ?_;refine aJ ?_ (am G U (zm 2 G));exact nu (IY hla hlb hb0)
 ·have hl:l.length=m.length:=by simp at hb0;omega
  refine qj<|zt<|qb<|zh (Wb 16 [.v 5 _]) WV U (zM 0 G (zv G (aK qd (vq 0 G)) (zv G (cH (vq 1 G) ab (wi64 zo zo)) (zA 2 G o0)))) (zz WW [] λ a w U=>?_);refine aa<|qk ?_;have U:=U.sel [0,1,3];refine wp_loop_ghost (λ n a w=>n≤l.length∧l.drop n=m.drop n∧St B w0 41 [(0,(MgA l).va),(1,(MgA m).va),(5,In ((n:Int)-1))] [] a w) (l.length) ?_ ?_
  ·exact ⟨qi _,by rw [xL,hl,xL],U⟩
  intro n a w hI;obtain ⟨hi,hd,U⟩:=hI;refine qb<|qb<|zh (W6 19) WX U (zM 2 G (zv G (dP (vq 0 G) ab) o0)) (zz (Wf 0 1 5 20) [] λ a w U=>?_);refine zJ 3 U G (λ hb1=>?_) (λ hb1=>?_)
  ·obtain ⟨j,rfl⟩:∃ j,n=j+1:=⟨n-1,by simp at hb1;omega⟩;rw [show ((j+1:Nat):Int)-1=(j:Int) from by omega] at U;refine qj<|zt<|qk<|qb<|zgd WY [] [] (Wo 23) (W7 [.o 8]) ac U (zM 0 G (zM 2 G (zv G (bO bc (vq 0 G) (vq 1 G) zo) (zv G (ao (vq 2 G) aO) (zM 1 G (zM 2 G (zv G (bO bc (vq 4 G) (vq 5 G) zo) (zv G (ao (vq 6 G) aO) (zv G (ca (vq 3 G) (vq 7 G)) o0))))))))) zk zk zk zk (zz (Wf 0 1 5 31) [] λ a w U=>?_);refine zJ 3 U G (λ hb2=>?_) (λ hb2=>?_)
   ·refine qb<|qb<|zgd WY [] [] (Wo 32) (W7 [.o 8]) ac U (zM 0 G (zM 2 G (zv G (bO bc (vq 0 G) (vq 1 G) zo) (zv G (ao (vq 2 G) aO) (zM 1 G (zM 2 G (zv G (bO bc (vq 4 G) (vq 5 G) zo) (zv G (ao (vq 6 G) aO) (zv G (aN (vq 3 G) (vq 7 G)) o0))))))))) zk zk zk zk (zz (Wf 0 1 5 40) [] λ a w U=>?_);refine zJ 3 U G (λ hb3=>?_) (λ hb3=>?_)
    ·refine qb<|zh WR WZ U (zE G ab) (zz U0 [] λ a w U=>?_);refine aa<|qh<|aj ?_;refine aD ?_;refine aj ?_;refine aj ?_;refine aD ?_;refine aj ?_;refine aJ ?_ (am G U (zm 3 G));exact nu (IX ha hl zo hd hb3)
    ·refine qj<|zt<|zh WR WZ U (zE G ab) (zz U0 [] λ a w U=>?_);refine aa<|qh<|aD ?_;refine aj ?_;refine aj ?_;refine aD ?_;refine aj ?_;refine aJ ?_ (am G U (zm 3 G));exact nu (IW hb hl zo hd hb2 hb3)
   ·refine qj<|ak ?_;refine aa<|zh (W6 21 [.v 5 _]) U1 U (zM 2 G (zv G (cH (vq 0 G) ab (wi64 zo zo)) (zA 1 G o0))) (zz (Wa 0 1 5) [] λ a w U=>?_);refine aa ?_;have U:=U.sel [0,1,2];exact ⟨j,by omega,by omega,lN zo zo hd (by simp at hb2;omega),U⟩
  ·obtain rfl:n=0:=by simp at hb1;omega
   refine qL<|ai<|ai<|az<|zt<|zh WR U2 U (zE G ab) (zz U3 [] λ a w U=>?_);refine zN 0 U G G ?_;exact nu (IV hd)
def nz (l m:List Nat)(i:Nat):List Nat:=digs i (bH l m i)++List.replicate (l.length+1-i) 0
theorem cP {l m:Ya}(h:i≤l.length):(nz l m i).length=l.length+1:=by simp [nz,ay];omega
theorem oi (l m:Ya):nz l m 0=List.replicate (l.length+1) 0:=by simp [nz,digs]
theorem fH {α:Type}(p q:List α)(x:α)(k:Nat)(h:p.length=k):(p++q).set k x=p++q.set 0 x:=by subst h;rw [x6 _ _ (qi _),xX]
theorem mC (n:Nat)(x:Nat)(h:0<n):(List.replicate n 0).set 0 x=x::List.replicate (n-1) 0:=by
 cases n with
 | zero=>omega
 | succ n=>simp [vK]
theorem gB {l m:Ya}(h:i<l.length){y:Nat}(hy:m.getD i 0=y):(nz l m i).set i ((l[i]+y+bH l m i/4294967296^i)%4294967296)=nz l m (i+1):=by
 unfold nz;rw [fH _ _ _ _ (ay _ _),mC _ _ zo,g9 h,er,hy];simp only [qP,x5];rw [xp (l[i]+y)]
 congr 3
theorem iU {l m:Ya}(h:i<l.length){y:Nat}(hy:m.getD i 0=y):(l[i]+y+bH l m i/4294967296^i)/4294967296=bH l m (i+1)/4294967296^(i+1):=by
 rw [g9 h,carry_step',hy,xp (l[i]+y)]
theorem iV {l m:Ya}(hl:okL l)(hm:okL m)(h:m.length≤l.length):(nz l m l.length).set l.length (bH l m l.length/4294967296^l.length)=digs (l.length+1) (val l+val m):=by
 unfold nz;rw [fH _ _ _ _ (ay _ _),mC _ _ zo,iO,rm h];have:=fv hl hm l.length;rw [rm h] at this;rw [zH zo];simp
theorem cV (h:i<l.length):l.getD i 0=l[i]:=by simp [List.getD,h]
theorem en (h:l.length≤i):l.getD i 0=0:=by simp [List.getD,h]
theorem Pb (l m:Ya)(hls:l.length≤1099511627776)(hms:m.length≤1099511627776):Cn Tryz.prog 183 [(MgA l).va,(MgA m).va] ((MgN (digs (max l.length m.length+1) (val l+val m))).va):=by
 refine Cn.introW Tryz.func183 G zk nq (.cons (mo _).va (.cons (mo _).va .nil)) (eA _).va (λ B w0 a hB0 U=>?_);have U:=zn [(0,(MgO l).va),(1,(MgO m).va)] [] U;have hl:=(U.magO 0 rfl).1;have hm:=(U.magO 1 rfl).1;refine qb<|zh WR WS U (zE G aX) (zz WT [] ?_);refine ztA<|zsA<|zhA (Wd 9) WU (zM 0 G (zv G (aK qd (aC (vq 0 G))) (zM 1 G (zv G (aK qd (aC (vq 2 G))) (zv G (aN (vq 1 G) (vq 3 G)) o0))))) (zz (Wf 0 1 4 13) [] λ a w U=>?_);refine zJ 3 U G (λ hb0=>?_) (λ hb0=>?_)
 ·have hlt:l.length<m.length:=by simp at hb0;omega
  refine zh (W6 14 (W6 0)) [.g 2,.o 2,.o 3] U (zM 1 G (zM 0 G (zA 0 G (zA 1 G o0)))) (zz (Wa 4 0 1) [] λ a w U=>?_);refine zt<|dz (sts:=[]) (news:=[⟨19,138,slH _ _,some 3,_,none⟩]) (sp:=[.v 16 _,.v 17 _,.v 18 _,.alc 0,.adr 5 19 .none True]) [.g 0,.g 1,.g 2] [(5,19)] [zpH 5 138 _] U (zM 1 G (zv G (aK qd (aC (vq 0 G))) (zv G (aL (vq 1 G) ab (aW zo)) (oc (eF G G G fA (vq 2 G) (vq 2 G) zo) (oc (ob_a G G nB) o0))))) zk zk zk ⟨⟨4,rfl⟩,trivial⟩ G zk (zz (Wa 4 0 1) [zpH 5 138 _] ?_);refine ztA<|zgA U4 [] U5 WZ (zv G (aR (aF 0 G)) o0) (zz (Wf 4 0 1 6) [zpH 5 138 _] ?_);refine ztA<|zsA<|zgA U4 [] (Wb 20) (Wp [.o 1,.o 2]) (zM 1 G (zv G (aK qd (aC (vq 0 G))) (zv G (aq ab) o0))) (zz (Wj 4 0 1 6 21 22) [zpH 5 138 _] λ a w U=>?_);refine aa<|qk ?_;have U:=U.sel [1,2,3,4,5];refine wp_loop_ghost (λ n a w=>∃ i:Nat,n+i=m.length∧St B w0 53 [(0,(MgO m).va),(1,(MgO l).va),(6,(NumA .u32 (bH m l i/4294967296^i:Nat)).va),(21,In (m.length:Nat)),(22,In (i:Nat))] [⟨5,138,slH (m.length+1) (m.length+1),Nums .u32 (nz m l i)⟩] a w) (m.length) ?_ ?_
  ·exact ⟨0,by omega,by rw [oi,show bH m l 0/4294967296^0=0 from by simp [g7]];exact U⟩
  intro n a w hI;obtain ⟨i,hn,U⟩:=hI;refine qb<|zg U6 [] [.v 23 _] U7 U (zv G (aN (gq 4 G) (gq 3 G)) o0) (zz (Wj 0 1 6 21 22 23) [zpH 5 138 _] λ a w U=>?_);refine zt<|cd U (zm 5 G) (λ hb1=>?_) (λ hb1=>?_)
  ·have hi:i<m.length:=by simp at hb1;omega
   refine qj<|zt<|qk<|qb<|zg U6 [] [.v 24 _,.v 7 _] U8 U (zM 4 G (zA 0 G o0)) (zz (Wj 0 1 6 21 22 7) [zpH 5 138 _] ?_);refine ztA<|zgA U4 [] [.v 8 _] (Wq [.o 0]) (zv G (aR (aF 0 G)) o0) (zz (Wu 0 1 6 21 22 7 8) [zpH 5 138 _] ?_);refine ztA<|zsA<|zgA U4 [] (Ww 25) (Wx [.o 3]) (zM 5 G (zM 1 G (zv G (aK qd (aC (vq 1 G))) (zv G (aN (vq 0 G) (vq 2 G)) o0)))) (zz (Wy 0 1 6 21 22 7 8 28) [zpH 5 138 _] λ a w U=>?_);refine zJ 7 U G (λ hb2=>?_) (λ hb2=>?_)
   ·refine zg U6 [] (Ww 29 [.v 8 _]) (Wq [.o 4]) U (zM 1 rfl (zM 5 rfl (zv rfl (bO bc (aC (vq 0 rfl)) (vq 1 rfl) (by first|omega | (simp at hb2;omega) | (simp at hb4;omega))) (zv rfl (ao (vq 2 rfl) aO) (zA 3 rfl o0))))) (zz (Wu 0 1 6 21 22 7 8) [zpH 5 138 _] ?_)
    refine znA<|zgA U9 [] (.adr 34 5 .none True::(W9 35 (.v 33 _::(W6 43 [.adr 45 5 (.some _) True,.sto 0,.v 6 _])))) Ua (oc (ob_a rfl rfl cW) (zM 5 rfl (zM 0 rfl (zM 5 rfl (zv rfl (bO bc (aC (vq 2 rfl)) (vq 3 rfl) (by first|omega | (simp at hb2;omega) | (simp at hb4;omega))) (zv rfl (ao (vq 4 rfl) aO) (zM 6 rfl (zM 2 rfl (zQ rfl (nA (hm _ (qg _)) (hl _ (qg _)) (qY (fv hm hl _) zd)) (.cons (vq 5 rfl) (.p (vq 6 rfl) (vq 7 rfl))) (zV 8 rfl (zv rfl (aQ (vq 9 rfl) rfl) (zv rfl (aQ (vq 9 rfl) rfl) (oc (ob_a rfl rfl (eU 0 rfl zk (lz0 0 rfl) bc (vq 1 rfl) zo)) (oc (cK 12 rfl rfl rfl rfl zk (λ _=>cw _ _ _ _) (vq 10 rfl) aO (bJ (by rw [cP zo];omega))) (zA 11 rfl o0))))))))))))))) (zz (W8 0 1 21 22 6) [zpH 5 138 _] λ a w U=>?_)
    refine ak ?_;refine aa<|zg U6 [] [.v 46 _,.v 22 _] Ub U (zv G (aL (gq 3 G) ab (aW zo)) (zV 0 G o0)) (zz (W8 0 1 21 6 22) [zpH 5 138 _] λ a w U=>?_);refine aa ?_;have U:=U.sel [0,1,3,2,4];rw [gB hi (y:=_) (cV (by simp at hb2;omega)),iU hi (cV (by simp at hb2;omega))] at U;exact ⟨n-1,by omega,i+1,by omega,U⟩
   ·refine qj<|aa<|zg U9 [] (.adr 34 5 .none True::(W9 35 (.v 33 _::(W6 43 [.adr 45 5 (.some _) True,.sto 0,.v 6 _])))) Ua U (oc (ob_a rfl rfl cW) (zM 5 rfl (zM 0 rfl (zM 5 rfl (zv rfl (bO bc (aC (vq 2 rfl)) (vq 3 rfl) (by first|omega | (simp at hb2;omega) | (simp at hb4;omega))) (zv rfl (ao (vq 4 rfl) aO) (zM 6 rfl (zM 2 rfl (zQ rfl (nA (hm _ (qg _)) (y:=0) zd (qY (fv hm hl _) zd)) (.cons (vq 5 rfl) (.p (vq 6 rfl) (vq 7 rfl))) (zV 8 rfl (zv rfl (aQ (vq 9 rfl) rfl) (zv rfl (aQ (vq 9 rfl) rfl) (oc (ob_a rfl rfl (eU 0 rfl zk (lz0 0 rfl) bc (vq 1 rfl) zo)) (oc (cK 12 rfl rfl rfl rfl zk (λ _=>cw _ _ _ _) (vq 10 rfl) aO (bJ (by rw [cP zo];omega))) (zA 11 rfl o0))))))))))))))) (zz (W8 0 1 21 22 6) [zpH 5 138 _] λ a w U=>?_)
    refine ak ?_;refine aa<|zg U6 [] [.v 46 _,.v 22 _] Ub U (zv G (aL (gq 3 G) ab (aW zo)) (zV 0 G o0)) (zz (W8 0 1 21 6 22) [zpH 5 138 _] λ a w U=>?_);refine aa ?_;have U:=U.sel [0,1,3,2,4];rw [gB hi (y:=_) (en (by simp at hb2;omega)),iU hi (en (by simp at hb2;omega))] at U;exact ⟨n-1,by omega,i+1,by omega,U⟩
  ·obtain rfl:i=m.length:=by simp at hb1;omega
   refine qL<|ai<|ai<|az<|zt<|zg Uc [] (.adr 47 5 .none True::(Wb 48 [.adr 51 5 (.some _) True,.sto 0])) [] U (oc (ob_a G G cW) (zM 0 G (zv G (aK qd (aC (vq 1 G))) (zM 2 G (oc (ob_a G G (eU 0 G zk (lz0 0 G) bc (vq 2 G) zo)) (oc (cK 4 G G G G zk (λ _=>cw _ _ _ _) (vq 3 G) aO (bJ (by rw [cP zo];omega))) o0)))))) (zz [] [zpH 5 138 _] λ a w U=>?_);refine zt<|dz (sts:=[none]) (news:=[]) (sp:=[.adr 52 5 .none True,.adr 4 5 .none True]) [] [(4,5)] [zpH 4 138 _] U (oc (ob_a G G cW) (oc (ob_a G G (E6 0 G zk)) o0)) zk zk zk ⟨⟨1,rfl⟩,trivial⟩ G zk (zz [] [zpH 4 138 _] λ a w U=>?_);refine aa<|qh<|aJ ?_ (Bq G U (zm 0 G) ⟨by simp [cP],qi _,by unfold maxLen;omega,by rw [iV hm hl zo];exact bY _ _⟩ (by simp [cP]));rw [iV hm hl zo,Nat.max_eq_right zo,xp (val m)]
 ·have hlt:m.length≤l.length:=by simp at hb0;omega
  refine qj<|zt<|dz (sts:=[]) (news:=[⟨19,138,slH _ _,some 3,_,none⟩]) (sp:=[.v 16 _,.v 17 _,.v 18 _,.alc 0,.adr 5 19 .none True]) [.g 0,.g 1,.g 2] [(5,19)] [zpH 5 138 _] U (zM 0 G (zv G (aK qd (aC (vq 0 G))) (zv G (aL (vq 1 G) ab (aW zo)) (oc (eF G G G fA (vq 2 G) (vq 2 G) zo) (oc (ob_a G G nB) o0))))) zk zk zk ⟨⟨4,rfl⟩,trivial⟩ G zk (zz WT [zpH 5 138 _] ?_);refine ztA<|zgA U4 [] U5 WZ (zv G (aR (aF 0 G)) o0) (zz (Wf 0 1 4 6) [zpH 5 138 _] ?_);refine ztA<|zsA<|zgA U4 [] (Wb 20) (Wp [.o 1,.o 2]) (zM 0 G (zv G (aK qd (aC (vq 0 G))) (zv G (aq ab) o0))) (zz (Wj 0 1 4 6 21 22) [zpH 5 138 _] λ a w U=>?_);refine aa<|qk ?_;have U:=U.sel [0,1,3,4,5];refine wp_loop_ghost (λ n a w=>∃ i:Nat,n+i=l.length∧St B w0 53 [(0,(MgO l).va),(1,(MgO m).va),(6,(NumA .u32 (bH l m i/4294967296^i:Nat)).va),(21,In (l.length:Nat)),(22,In (i:Nat))] [⟨5,138,slH (l.length+1) (l.length+1),Nums .u32 (nz l m i)⟩] a w) (l.length) ?_ ?_
  ·exact ⟨0,by omega,by rw [oi,show bH l m 0/4294967296^0=0 from by simp [g7]];exact U⟩
  intro n a w hI;obtain ⟨i,hn,U⟩:=hI;refine qb<|zg U6 [] [.v 23 _] U7 U (zv G (aN (gq 4 G) (gq 3 G)) o0) (zz (Wj 0 1 6 21 22 23) [zpH 5 138 _] λ a w U=>?_);refine zt<|cd U (zm 5 G) (λ hb3=>?_) (λ hb3=>?_)
  ·have hi:i<l.length:=by simp at hb3;omega
   refine qj<|zt<|qk<|qb<|zg U6 [] [.v 24 _,.v 7 _] U8 U (zM 4 G (zA 0 G o0)) (zz (Wj 0 1 6 21 22 7) [zpH 5 138 _] ?_);refine ztA<|zgA U4 [] [.v 8 _] (Wq [.o 0]) (zv G (aR (aF 0 G)) o0) (zz (Wu 0 1 6 21 22 7 8) [zpH 5 138 _] ?_);refine ztA<|zsA<|zgA U4 [] (Ww 25) (Wx [.o 3]) (zM 5 G (zM 1 G (zv G (aK qd (aC (vq 1 G))) (zv G (aN (vq 0 G) (vq 2 G)) o0)))) (zz (Wy 0 1 6 21 22 7 8 28) [zpH 5 138 _] λ a w U=>?_);refine zJ 7 U G (λ hb4=>?_) (λ hb4=>?_)
   ·refine zg U6 [] (Ww 29 [.v 8 _]) (Wq [.o 4]) U (zM 1 rfl (zM 5 rfl (zv rfl (bO bc (aC (vq 0 rfl)) (vq 1 rfl) (by first|omega | (simp at hb2;omega) | (simp at hb4;omega))) (zv rfl (ao (vq 2 rfl) aO) (zA 3 rfl o0))))) (zz (Wu 0 1 6 21 22 7 8) [zpH 5 138 _] ?_)
    refine znA<|zgA U9 [] (.adr 34 5 .none True::(W9 35 (.v 33 _::(W6 43 [.adr 45 5 (.some _) True,.sto 0,.v 6 _])))) Ua (oc (ob_a rfl rfl cW) (zM 5 rfl (zM 0 rfl (zM 5 rfl (zv rfl (bO bc (aC (vq 2 rfl)) (vq 3 rfl) (by first|omega | (simp at hb2;omega) | (simp at hb4;omega))) (zv rfl (ao (vq 4 rfl) aO) (zM 6 rfl (zM 2 rfl (zQ rfl (nA (hl _ (qg _)) (hm _ (qg _)) (qY (fv hl hm _) zd)) (.cons (vq 5 rfl) (.p (vq 6 rfl) (vq 7 rfl))) (zV 8 rfl (zv rfl (aQ (vq 9 rfl) rfl) (zv rfl (aQ (vq 9 rfl) rfl) (oc (ob_a rfl rfl (eU 0 rfl zk (lz0 0 rfl) bc (vq 1 rfl) zo)) (oc (cK 12 rfl rfl rfl rfl zk (λ _=>cw _ _ _ _) (vq 10 rfl) aO (bJ (by rw [cP zo];omega))) (zA 11 rfl o0))))))))))))))) (zz (W8 0 1 21 22 6) [zpH 5 138 _] λ a w U=>?_)
    refine ak ?_;refine aa<|zg U6 [] [.v 46 _,.v 22 _] Ub U (zv G (aL (gq 3 G) ab (aW zo)) (zV 0 G o0)) (zz (W8 0 1 21 6 22) [zpH 5 138 _] λ a w U=>?_);refine aa ?_;have U:=U.sel [0,1,3,2,4];rw [gB hi (y:=_) (cV (by simp at hb4;omega)),iU hi (cV (by simp at hb4;omega))] at U;exact ⟨n-1,by omega,i+1,by omega,U⟩
   ·refine qj<|aa<|zg U9 [] (.adr 34 5 .none True::(W9 35 (.v 33 _::(W6 43 [.adr 45 5 (.some _) True,.sto 0,.v 6 _])))) Ua U (oc (ob_a rfl rfl cW) (zM 5 rfl (zM 0 rfl (zM 5 rfl (zv rfl (bO bc (aC (vq 2 rfl)) (vq 3 rfl) (by first|omega | (simp at hb2;omega) | (simp at hb4;omega))) (zv rfl (ao (vq 4 rfl) aO) (zM 6 rfl (zM 2 rfl (zQ rfl (nA (hl _ (qg _)) (y:=0) zd (qY (fv hl hm _) zd)) (.cons (vq 5 rfl) (.p (vq 6 rfl) (vq 7 rfl))) (zV 8 rfl (zv rfl (aQ (vq 9 rfl) rfl) (zv rfl (aQ (vq 9 rfl) rfl) (oc (ob_a rfl rfl (eU 0 rfl zk (lz0 0 rfl) bc (vq 1 rfl) zo)) (oc (cK 12 rfl rfl rfl rfl zk (λ _=>cw _ _ _ _) (vq 10 rfl) aO (bJ (by rw [cP zo];omega))) (zA 11 rfl o0))))))))))))))) (zz (W8 0 1 21 22 6) [zpH 5 138 _] λ a w U=>?_)
    refine ak ?_;refine aa<|zg U6 [] [.v 46 _,.v 22 _] Ub U (zv G (aL (gq 3 G) ab (aW zo)) (zV 0 G o0)) (zz (W8 0 1 21 6 22) [zpH 5 138 _] λ a w U=>?_);refine aa ?_;have U:=U.sel [0,1,3,2,4];rw [gB hi (y:=_) (en (by simp at hb4;omega)),iU hi (en (by simp at hb4;omega))] at U;exact ⟨n-1,by omega,i+1,by omega,U⟩
  ·obtain rfl:i=l.length:=by simp at hb3;omega
   refine qL<|ai<|ai<|az<|zt<|zg Uc [] (.adr 47 5 .none True::(Wb 48 [.adr 51 5 (.some _) True,.sto 0])) [] U (oc (ob_a G G cW) (zM 0 G (zv G (aK qd (aC (vq 1 G))) (zM 2 G (oc (ob_a G G (eU 0 G zk (lz0 0 G) bc (vq 2 G) zo)) (oc (cK 4 G G G G zk (λ _=>cw _ _ _ _) (vq 3 G) aO (bJ (by rw [cP zo];omega))) o0)))))) (zz [] [zpH 5 138 _] λ a w U=>?_);refine zt<|dz (sts:=[none]) (news:=[]) (sp:=[.adr 52 5 .none True,.adr 4 5 .none True]) [] [(4,5)] [zpH 4 138 _] U (oc (ob_a G G cW) (oc (ob_a G G (E6 0 G zk)) o0)) zk zk zk ⟨⟨1,rfl⟩,trivial⟩ G zk (zz [] [zpH 4 138 _] λ a w U=>?_);refine aa<|qh<|aJ ?_ (Bq G U (zm 0 G) ⟨by simp [cP],qi _,by unfold maxLen;omega,by rw [iV hl hm zo];exact bY _ _⟩ (by simp [cP]));rw [iV hl hm zo,Nat.max_eq_left zo]
def dif (l m:List Nat)(i:Nat):Nat:=val (l.take i)+4294967296^i-val (m.take i)
def lP (l m:List Nat)(i:Nat):List Nat:=digs i (dif l m i)++List.replicate (l.length-i) 0
theorem ig {l m:Ya}(h:i≤l.length):(lP l m i).length=l.length:=by simp [lP,ay];omega
theorem yh (l m:Ya):lP l m 0=List.replicate l.length 0:=by simp [lP,digs]
theorem wM (l m:Ya):1-dif l m 0/4294967296^0=0:=by simp [dif]
theorem eW (m:Ya)(i:Nat):val (m.take (i+1))=val (m.take i)+4294967296^i*m.getD i 0:=by
 by_cases h:i<m.length
 ·rw [bG h,cV h]
 ·rw [qF zo,qF zo,en zo,vp,jx]
theorem fS {m:Ya}(hm:okL m)(i:Nat):m.getD i 0<4294967296:=by
 by_cases h:i<m.length
 ·rw [cV h];exact hm _ (qg _)
 ·rw [en zo];decide
theorem pR {l m:Ya}(h:i<l.length)(hm:okL m):dif l m (i+1)=dif l m i+4294967296^i*(l[i]+4294967295-m.getD i 0):=by
 have h1:=cT hm i;have h2:=fS hm i;unfold dif;rw [bG h,eW,zi];generalize 4294967296^i=p at *;obtain ⟨e,he⟩:∃ e,l[i]+4294967295=m.getD i 0+e:=⟨l[i]+4294967295-m.getD i 0,by omega⟩;rw [he,j4];have h3:p*(l[i]+4294967295)=p*(m.getD i 0+e):=by rw [he]
 rw [xg,xg] at h3;omega
theorem wN {l m:Ya}(hl:okL l)(i:Nat):dif l m i/4294967296^i≤1:=by
 have h1:=cT hl i;have h2:0<4294967296^i:=zK zd;unfold dif;rw [Nat.div_le_iff_le_mul_add_pred h2];omega
theorem nS {l m:Ya}(h:i<l.length)(hl:okL l)(hm:okL m){y:Nat}(hy:m.getD i 0=y):(lP l m i).set i ((l[i]+8589934592-y-(1-dif l m i/4294967296^i))%4294967296)=lP l m (i+1):=by
 have h1:=fS hm i;have h2:=wN (m:=m) hl i;unfold lP;rw [fH _ _ _ _ (ay _ _),mC _ _ zo,pR h hm,er,hy];rw [hy] at h1;simp only [qP,x5];have e:(l[i]+8589934592-y-(1-dif l m i/4294967296^i))%4294967296=(dif l m i/4294967296^i+(l[i]+4294967295-y))%4294967296:=by
  generalize dif l m i/4294967296^i=q at *;omega
 rw [e,Nat.sub_add_eq]
theorem mr {l m:Ya}(h:i<l.length)(hl:okL l)(hm:okL m){y:Nat}(hy:m.getD i 0=y):(if l[i]<y+(1-dif l m i/4294967296^i) then 1 else 0)=1-dif l m (i+1)/4294967296^(i+1):=by
 have h1:=fS hm i;have h2:=wN (m:=m) hl i;have h3:=hl _ (qg h);rw [pR h hm,carry_step',hy];rw [hy] at h1;generalize dif l m i/4294967296^i=q at *;split <;> omega
theorem ro {l m:Ya}(hl:okL l)(hm:m.length≤l.length)(hv:val m≤val l):bx (lP l m l.length)=aA (val l-val m):=by
 unfold lP dif;rw [xX,ko,zX,qH,qF hm];have h1:=fF hl;rw [gx (m':=val l-val m),l3 zo];rw [show val l+4294967296^l.length-val m=(val l-val m)+4294967296^l.length from by omega,v4]
theorem Fi {l m:Ya}:okL (lP l m i):=okL_append.2 ⟨bY _ _,λ x hx=>by rw [(xM.1 hx).2];decide⟩
theorem Eo (l m:Ya)(hls:l.length≤1099511627776)(hml:m.length≤l.length)(hv:val m≤val l):Cn Tryz.prog 185 [(MgA l).va,(MgA m).va] ((MgN (aA (val l-val m))).va):=by
 refine Cn.introW Tryz.func185 G zk nq (.cons (mo _).va (.cons (mo _).va .nil)) (eA _).va (λ B w0 a hB0 U=>?_);have U:=zn [(0,(MgO l).va),(1,(MgO m).va)] [] U;have hl:=(U.magO 0 rfl).1;have hm:=(U.magO 1 rfl).1;refine qb<|zh WR WS U (zE G aX) (zz WT [] λ a w U=>?_);refine zt<|dz (sts:=[]) (news:=[⟨11,138,slH _ _,some 2,_,none⟩]) (sp:=[.v 9 _,.v 10 _,.alc 0,.adr 5 11 .none True]) [.g 0,.g 1,.g 2] [(5,11)] [zpH 5 138 _] U (zM 0 G (zv G (aK qd (aC (vq 0 G))) (oc (eF G G G fA (vq 1 G) (vq 1 G) zo) (oc (ob_a G G nB) o0)))) zk zk zk ⟨⟨3,rfl⟩,trivial⟩ G zk (zz WT [zpH 5 138 _] ?_);refine ztA<|zgA U4 [] U5 WZ (zv G (aR (aF 0 G)) o0) (zz (Wf 0 1 4 6) [zpH 5 138 _] ?_);refine ztA<|zsA<|zgA U4 [] (Wb 12) (Wp [.o 1,.o 2]) (zM 0 G (zv G (aK qd (aC (vq 0 G))) (zv G (aq ab) o0))) (zz (Wj 0 1 4 6 13 14) [zpH 5 138 _] λ a w U=>?_);refine aa<|qk ?_;have U:=U.sel [0,1,3,4,5];refine wp_loop_ghost (λ n a w=>∃ i:Nat,n+i=l.length∧St B w0 41 [(0,(MgO l).va),(1,(MgO m).va),(6,(NumA .u32 (1-dif l m i/4294967296^i:Nat)).va),(13,In (l.length:Nat)),(14,In (i:Nat))] [⟨5,138,slH l.length l.length,Nums .u32 (lP l m i)⟩] a w) (l.length) ?_ ?_
 ·exact ⟨0,by omega,by rw [yh,wM];exact U⟩
 intro n a w hI;obtain ⟨i,hn,U⟩:=hI;refine qb<|zg U6 [] [.v 15 _] U7 U (zv G (aN (gq 4 G) (gq 3 G)) o0) (zz (Wj 0 1 6 13 14 15) [zpH 5 138 _] λ a w U=>?_);refine zt<|cd U (zm 5 G) (λ hb0=>?_) (λ hb0=>?_)
 ·have hi:i<l.length:=by simp at hb0;omega
  refine qj<|zt<|qk<|qb<|zg U6 [] [.v 16 _,.v 7 _] U8 U (zM 4 G (zA 0 G o0)) (zz (Wj 0 1 6 13 14 7) [zpH 5 138 _] ?_);refine ztA<|zgA U4 [] [.v 8 _] (Wq [.o 0]) (zv G (aR (aF 0 G)) o0) (zz (Wu 0 1 6 13 14 7 8) [zpH 5 138 _] ?_);refine ztA<|zsA<|zgA U4 [] (Ww 17) (Wx [.o 3]) (zM 5 G (zM 1 G (zv G (aK qd (aC (vq 1 G))) (zv G (aN (vq 0 G) (vq 2 G)) o0)))) (zz (Wy 0 1 6 13 14 7 8 20) [zpH 5 138 _] λ a w U=>?_);refine zJ 7 U G (λ hb1=>?_) (λ hb1=>?_)
  ·refine zg U6 [] (Ww 21 [.v 8 _]) (Wq [.o 4]) U (zM 1 rfl (zM 5 rfl (zv rfl (bO bc (aC (vq 0 rfl)) (vq 1 rfl) (by first|omega | (simp at hb1;omega))) (zv rfl (ao (vq 2 rfl) aO) (zA 3 rfl o0))))) (zz (Wu 0 1 6 13 14 7 8) [zpH 5 138 _] ?_)
   refine znA<|zgA U9 [] (.adr 26 5 .none True::(W9 27 (.v 25 _::(W6 35 [.adr 37 5 (.some _) True,.sto 0,.v 6 _])))) Ua (oc (ob_a rfl rfl cW) (zM 5 rfl (zM 0 rfl (zM 5 rfl (zv rfl (bO bc (aC (vq 2 rfl)) (vq 3 rfl) (by first|omega | (simp at hb1;omega))) (zv rfl (ao (vq 4 rfl) aO) (zM 6 rfl (zM 2 rfl (zQ rfl (AO (hl _ (qg _)) (hm _ (qg _)) (qY (vS _ _) zd)) (.cons (vq 5 rfl) (.p (vq 6 rfl) (vq 7 rfl))) (zV 8 rfl (zv rfl (aQ (vq 9 rfl) rfl) (zv rfl (aQ (vq 9 rfl) rfl) (oc (ob_a rfl rfl (eU 0 rfl zk (lz0 0 rfl) bc (vq 1 rfl) zo)) (oc (cK 12 rfl rfl rfl rfl zk (λ _=>cw _ _ _ _) (vq 10 rfl) aO (bJ (by rw [ig zo];omega))) (zA 11 rfl o0))))))))))))))) (zz (W8 0 1 13 14 6) [zpH 5 138 _] λ a w U=>?_)
   refine ak ?_;refine aa<|zg U6 [] [.v 38 _,.v 14 _] Ub U (zv G (aL (gq 3 G) ab (aW zo)) (zV 0 G o0)) (zz (W8 0 1 13 6 14) [zpH 5 138 _] λ a w U=>?_);refine aa ?_;have U:=U.sel [0,1,3,2,4];rw [nS hi hl hm (y:=_) (cV (by simp at hb1;omega)),mr hi hl hm (cV (by simp at hb1;omega))] at U;exact ⟨n-1,by omega,i+1,by omega,U⟩
  ·refine qj<|aa<|zg U9 [] (.adr 26 5 .none True::(W9 27 (.v 25 _::(W6 35 [.adr 37 5 (.some _) True,.sto 0,.v 6 _])))) Ua U (oc (ob_a rfl rfl cW) (zM 5 rfl (zM 0 rfl (zM 5 rfl (zv rfl (bO bc (aC (vq 2 rfl)) (vq 3 rfl) (by first|omega | (simp at hb1;omega))) (zv rfl (ao (vq 4 rfl) aO) (zM 6 rfl (zM 2 rfl (zQ rfl (AO (hl _ (qg _)) (y:=0) zd (qY (vS _ _) zd)) (.cons (vq 5 rfl) (.p (vq 6 rfl) (vq 7 rfl))) (zV 8 rfl (zv rfl (aQ (vq 9 rfl) rfl) (zv rfl (aQ (vq 9 rfl) rfl) (oc (ob_a rfl rfl (eU 0 rfl zk (lz0 0 rfl) bc (vq 1 rfl) zo)) (oc (cK 12 rfl rfl rfl rfl zk (λ _=>cw _ _ _ _) (vq 10 rfl) aO (bJ (by rw [ig zo];omega))) (zA 11 rfl o0))))))))))))))) (zz (W8 0 1 13 14 6) [zpH 5 138 _] λ a w U=>?_)
   refine ak ?_;refine aa<|zg U6 [] [.v 38 _,.v 14 _] Ub U (zv G (aL (gq 3 G) ab (aW zo)) (zV 0 G o0)) (zz (W8 0 1 13 6 14) [zpH 5 138 _] λ a w U=>?_);refine aa ?_;have U:=U.sel [0,1,3,2,4];rw [nS hi hl hm (y:=_) (en (by simp at hb1;omega)),mr hi hl hm (en (by simp at hb1;omega))] at U;exact ⟨n-1,by omega,i+1,by omega,U⟩
 ·obtain rfl:i=l.length:=by simp at hb0;omega
  refine qL<|ai<|ai<|az<|zt<|zg U6 [] [.adr 39 5 .none True,.v 40 _,.v 4 _] Ud U (oc (ob_a G G cW) (zQ G (u9 famN _) (.o (iB 0 G zk (lz0 0 G) ⟨by rw [ig (qi _)],qi _,by unfold maxLen;omega,Fi⟩ (by rw [ig (qi _)]))) (zA 1 G o0))) (zz U3 [zpH 5 138 _] λ a w U=>?_);refine zN 0 U G G ?_;rw [ro hl hml hv]
def rsig (neg:Bool)(l:List Nat):RI:=⟨neg && !(bx l).isEmpty,bx l⟩
theorem fG {M:Ya→As}{neg:Bool}(h:(((bx l).length:Int)==0)=true):(cat (lE [BoA false,M []] [])).va=(cat [BoA (rsig neg l).neg,M (rsig neg l).mag]).va:=by
 have:bx l=[]:=by simpa using h
 unfold rsig;rw [this];simp;rfl
theorem ij {M:Ya→As}{neg:Bool}(h:(((bx l).length:Int)==0)=false):(cat (lE [BoA false,M []] [(0,BoA neg),(1,M (bx l))])).va=(cat [BoA (rsig neg l).neg,M (rsig neg l).mag]).va:=by
 have:(bx l).isEmpty=false:=by cases hh:bx l <;> simp_all
 unfold rsig;rw [this];simp;rfl
theorem ik (neg:Bool)(l:Ya):Cn Tryz.prog 182 [Bo neg,(MgA l).va] ((RIA (rsig neg l)).va):=by
 refine Cn.intro Tryz.func182 G zk nq (zy [(0,Bo neg),(1,(MgA l).va)] λ B w0 a U=>?_);refine qb<|zg [] Ue Uf We U (zY G (Str.zero (cI famA)) o0) (zz Ug Uh ?_);refine ztA<|zsA<|zgA U4 [] (W6 5 [.v 1 _]) Ui (zM 1 G (zQ G (u9 famA _) (.o (vq 0 G)) (zA 1 G o0))) (zz Ug Uh ?_);refine ztA<|zgA U4 [] (Wb 7) U1 (zM 1 G (zv G (aK qd (vq 0 G)) (zv G (bC (vq 1 G) ab) o0))) (zz (Wa 0 1 9) Uh λ a w U=>?_);refine zJ 2 U G (λ hb0=>?_) (λ hb0=>?_)
 ·refine qb<|zg Uj [] Uk We U (zv G (aT (qs:=[]) (cI famA) .nil) (zS 0 G ap o0)) (zz Ug Uh λ a w U=>?_);refine aa<|qh<|aj ?_;refine aJ ?_ (au G U (zm 0 G) ap);exact fG (M:=MgA) hb0
 ·refine qj<|zt<|zg [some (3,_)] [] (Wb 11 [.sto 0]) [] U (zM 0 G (zM 1 G (zv G (aT (qs:=[(0,_),(1,_)]) (cI famA) (.cons ⟨rfl,vq 0 rfl,rfl⟩ (.cons ⟨rfl,vq 1 rfl,rfl⟩ .nil))) (zS 2 G ap o0)))) (zz [] Uh λ a w U=>?_);refine aa<|qh<|aJ ?_ (au G U (zm 0 G) ap);exact ij (M:=MgA) hb0
theorem db (neg:Bool)(l:Ya):Cn Tryz.prog 182 [Bo neg,(MgN l).va] ((RIN (rsig neg l)).va):=by
 refine Cn.intro Tryz.func182 G zk nq (zy [(0,Bo neg),(1,(MgN l).va)] λ B w0 a U=>?_);refine qb<|zg [] Ue Uf We U (zY G (Str.zero (cI famN)) o0) (zz Ug Uh ?_);refine ztA<|zsA<|zgA U4 [] (W6 5 [.v 1 _]) Ui (zM 1 G (zQ G (u9 famN _) (.o (vq 0 G)) (zA 1 G o0))) (zz Ug Uh ?_);refine ztA<|zgA U4 [] (Wb 7) U1 (zM 1 G (zv G (aK qd (tl (vq 0 G))) (zv G (bC (vq 1 G) ab) o0))) (zz (Wa 0 1 9) Uh λ a w U=>?_);refine zJ 2 U G (λ hb0=>?_) (λ hb0=>?_)
 ·refine qb<|zg Uj [] Uk We U (zv G (aT (qs:=[]) (cI famN) .nil) (zS 0 G ap o0)) (zz Ug Uh λ a w U=>?_);refine aa<|qh<|aj ?_;refine aJ ?_ (au G U (zm 0 G) ap);exact fG (M:=MgN) hb0
 ·refine qj<|zt<|zg [some (3,_)] [] (Wb 11 [.sto 0]) [] U (zM 0 G (zM 1 G (zv G (aT (qs:=[(0,_),(1,_)]) (cI famN) (.cons ⟨rfl,vq 0 rfl,rfl⟩ (.cons ⟨rfl,vq 1 rfl,rfl⟩ .nil))) (zS 2 G ap o0)))) (zz [] Uh λ a w U=>?_);refine aa<|qh<|aJ ?_ (au G U (zm 0 G) ap);exact ij (M:=MgN) hb0
theorem Ql (h:0<l.length):(MgN l).n=(MgZ l).n∧(MgN l).ag=(MgZ l).ag∧∀ B cs w,(MgZ l).p B cs w→(MgN l).p B cs w:=⟨rfl,rfl,λ B cs w ⟨ok,A,c,e,h1,h2,h3⟩=>by
 obtain ⟨g,ext,rfl,rfl,h4,h5⟩:=h3 h;exact ⟨ok,.inr ⟨g,ext,e,h2,h4,h5⟩⟩⟩
theorem AX {neg:Bool}(h:(((bx l).length:Int)==0)=false):Wk (cat (lE [BoA false,MgN []] [(0,BoA neg),(1,MgZ (bx l))])).va (RIN (rsig neg l)).va:=by
 have h1:(bx l).isEmpty=false:=by cases hh:bx l <;> simp_all
 have h2:0<(bx l).length:=by cases hh:bx l <;> simp_all
 have e:RIN (rsig neg l)=cat [BoA neg,MgN (bx l)]:=by unfold rsig RIN;rw [h1];simp
 rw [e];exact λ B v w ⟨cs,⟨ps,hp,hq⟩,hv⟩=>by
  cases hq with
  | cons q1 hq=>cases hq with
   | cons q2 hq=>exact ⟨cs,⟨_,hp,.cons q1 (.cons ((Ql h2).2.2 _ _ _ q2) hq)⟩,hv⟩
theorem AY (neg:Bool)(l:Ya):Cn Tryz.prog 182 [Bo neg,(MgZ l).va] ((RIN (rsig neg l)).va):=by
 refine Cn.intro Tryz.func182 G zk nq (zy [(0,Bo neg),(1,(MgZ l).va)] λ B w0 a U=>?_);refine qb<|zg [] Ue Uf We U (zY G (Str.zero (cI famN)) o0) (zz Ug Uh ?_);refine ztA<|zsA<|zgA U4 [] (W6 5 [.v 1 _]) Ui (zM 1 G (zQ G (u9 famZ _) (.o (vq 0 G)) (zA 1 G o0))) (zz Ug Uh ?_);refine ztA<|zgA U4 [] (Wb 7) U1 (zM 1 G (zv G (aK qd (Fw (vq 0 G))) (zv G (bC (vq 1 G) ab) o0))) (zz (Wa 0 1 9) Uh λ a w U=>?_);refine zJ 2 U G (λ hb0=>?_) (λ hb0=>?_)
 ·refine qb<|zg Uj [] Uk We U (zv G (aT (qs:=[]) (cI famN) .nil) (zS 0 G ap o0)) (zz Ug Uh λ a w U=>?_);refine aa<|qh<|aj ?_;refine al ?_ (au G U (zm 0 G) ap);exact λ _ _ _ h=>(fG (M:=MgN) hb0)▸h
 ·refine qj<|zt<|zg [some (3,_)] [] (Wb 11 [.sto 0]) [] U (zM 0 G (zM 1 G (zv G (aT (qs:=[(0,_),(1,_)]) (cI famN) (.cons ⟨rfl,vq 0 rfl,rfl⟩ (.cons ⟨rfl,vq 1 rfl,rfl⟩ .nil))) (zS 2 G ap o0)))) (zz [] Uh λ a w U=>?_);refine aa<|qh<|al ?_ (au G U (zm 0 G) ap);exact AX hb0
set_option maxHeartbeats 2000000 in
theorem A9 (b off n c:Nat)(zs:Ya)(w:Yi)(hn:n=zs.length)(h0:0<n)(hbig:n*4≤140737488355328)(hc:∀ j (h:j<zs.length),w.cell? ⟨b,off+j,none⟩=some (.int .u32 (zs[j]:Nat))) :
  Calls Tryz.prog 241 #[.slice (some ⟨b,off,none⟩) n c] w λ e w'=>∃ g c ext,e=.returned (.slice (some ⟨g,0,none⟩) n c)∧w.heap.size≤g∧n≤c∧c≤maxLen∧w'.heap[g]?=some (.cells ((zs++ext).map λ (x:Nat)=>Value.int .u32 x).toArray U32 (0,0))∧Grow w w'∧c=(zs++ext).length:=by
 have t22:Tryz.prog.underlying 24=some (.slice U32):=by kernel_rfl
 obtain ⟨i0,hi,hz0,hz1,hz2⟩:=u6;have q22:∀ (w:World) (a:Option Addr) (n c n' c':Nat),(binOp .eql 24 (.slice a n c) (.slice none n' c')).run Tryz.prog w=.ok (.bool a.isNone) w:=λ w a n c n' c'=>Lib.run_eql_slice_nil w _ _ a n c n' c' t22;have u22:∀ w,Sem.run Tryz.prog (underlying 24) w=.ok (TypeDesc.slice U32) w:=run_underlying t22;have A:Aside (∀ j (h:j<zs.length),w.cell? ⟨b,off+j,none⟩=some (.int .u32 (zs[j]:Nat))):=hc;have HN:Aside (n=zs.length):=hn;clear hc hn
 go_enter Tryz.func241,Tryz.ntmps241
 go_wp2_with (at_builtin;refine iW rfl _ _ 24 rfl U32 i0 (.int .u32 0) t22 hi hz0 hz1 hz2 _ rfl ⟨b,off,none⟩ n c (zs.map λ (x:Nat)=>Value.int .u32 x) rfl ?qc1 ?qc2 h0 hbig ?_)
 case qc1=>simp;exact HN.out.symm
 case qc2 =>
  intro j u hj;have hjn:j<zs.length:=by
   have:=(List.getElem?_eq_some_iff.1 hj).1;simpa using this
  rw [Addr.add_lit];refine Lib.cell?_alloc_some _ ?_;rw [A.out j hjn];simpa [hjn] using hj
 go_wp2
 go_ret
 refine ⟨_,_,List.replicate (grownCap (w.alloc (.cells #[] U32)) n 0 U32-n) 0,rfl,by omega,grownCap_ge _ _ _ _,grownCap_le_maxLen _ _ _ _ (by unfold maxLen;omega),?_,?_,?_⟩
 ·have e:(w.alloc (.cells #[] U32)).heap.size=w.heap.size+1:=by simp
  rw [← e,y9,zw,← vL];exact heap_alloc_new _ _
 ·exact ((Grow.alloc w _).trans (Grow.alloc _ _)).trans (Grow.drew _)
 ·have:=grownCap_ge (w.alloc (.cells #[] U32)) n 0 U32;have hnz:=HN.out;rw [qu,zc];omega
theorem DI (c:Nat)(w:Yi):Calls Tryz.prog 241 #[.slice none 0 c] w λ e w'=>e=.returned (.slice none 0 0)∧w=w':=by
 have t22:Tryz.prog.underlying 24=some (.slice U32):=by kernel_rfl
 have q22:∀ (w:World) (a:Option Addr) (n c n' c':Nat),(binOp .eql 24 (.slice a n c) (.slice none n' c')).run Tryz.prog w=.ok (.bool a.isNone) w:=λ w a n c n' c'=>Lib.run_eql_slice_nil w _ _ a n c n' c' t22
 go_enter Tryz.func241,Tryz.ntmps241
 go_wp2
 go_ret
 exact ⟨rfl,rfl⟩
theorem A8 (ad:Addr)(c:Nat)(w:Yi):Calls Tryz.prog 241 #[.slice (some ad) 0 c] w λ e w'=>∃ A c,e=.returned (.slice A 0 c)∧c≤maxLen∧Below w.heap.size w w':=by
 have t22:Tryz.prog.underlying 24=some (.slice U32):=by kernel_rfl
 obtain ⟨i0,hi,hz0,hz1,hz2⟩:=u6;have q22:∀ (w:World) (a:Option Addr) (n c n' c':Nat),(binOp .eql 24 (.slice a n c) (.slice none n' c')).run Tryz.prog w=.ok (.bool a.isNone) w:=λ w a n c n' c'=>Lib.run_eql_slice_nil w _ _ a n c n' c' t22;have u22:∀ w,Sem.run Tryz.prog (underlying 24) w=.ok (TypeDesc.slice U32) w:=run_underlying t22
 go_enter Tryz.func241,Tryz.ntmps241
 go_wp2_with (at_builtin;refine wpList_append_own _ rfl _ _ 24 rfl w.heap.size U32 i0 (.int .u32 0) 1 4 t22 hi hz0 hz1 hz2 rfl zd _ _ _ rfl (World.ownsRow_made w #[] 0 (qi _) (zx _) rfl) ad 0 c [] rfl rfl ?qc2 ?qc3 ?qc4 ?qc5 ?qc6 ?_)
 case qc2=>intro j u hj;simp at hj
 case qc3=>intro u hu;cases hu
 case qc4=>unfold maxLen;omega
 case qc5=>omega
 case qc6=>simp
 intro v' w1 hown hgrow hnil
 go_wp2
 go_ret
 have hb:=((Below.refl _ w).alloc (qi _) _).grown hgrow (by simp) (by intro k hk;simp [Value.ownBlock] at hk;omega);rcases hown.2 with ⟨rfl,_⟩|⟨g,cap,cur,rfl,_,_,_,h4,_⟩
 ·exact ⟨none,0,rfl,zx _,hb⟩
 ·exact ⟨_,cap,rfl,h4,hb⟩
theorem DJ (l:Ya)(hls:l.length≤1099511627776):Cn Tryz.prog 241 [(MgA l).va] (MgZ l).va:=by
 refine ⟨iQ Tryz.func241 zk zk,λ B w args hB ha=>?_⟩;obtain ⟨v,rfl,hv⟩:=ha.one;obtain ⟨A,c,rfl,hm⟩:=gU hv;by_cases h0:l.length=0
 ·have hl:l=[]:=xr h0;subst hl;cases A with
  | none =>
   refine (DI c w).mono λ e w' ⟨he,hw⟩=>?_;subst hw;exact ⟨_,he,⟨_,famZ.nil B w,rfl⟩,Grow.refl w⟩
  | some ad=>exact (A8 ad c w).mono λ e w' ⟨A,c,he,hm,hb⟩=>⟨_,he,⟨_,⟨cU,A,c,rfl,zx _,hm,λ h=>by simp at h⟩,rfl⟩,hb⟩
 ·obtain ⟨b,o,rfl,h1,h2,h3⟩:=hm.at_ zo;exact (A9 b o l.length c l w G zo zo h3).mono λ e w' ⟨g,c,ext,he,h4,h5,h6,h7,hb,hcx⟩=>⟨_,he,⟨_,⟨hm.ok,_,c,rfl,h5,h6,λ _=>⟨g,ext,rfl,hcx,qf hB h4,h7⟩⟩,rfl⟩,hb⟩
theorem JB (neg:Bool)(l:Ya)(hls:l.length≤1099511627776):Cn Tryz.prog 217 [Bo neg,(MgA l).va] ((RIN (rsig neg l)).va):=by
 refine Cn.intro Tryz.func217 G zk nq (zy [(0,Bo neg),(1,(MgA l).va)] λ B w0 a U=>?_);refine qb<|zg [] Ue Uf We U (zY G (Str.zero (cI famN)) o0) (zz Ug Uh ?_);refine ztA<|zgA [some (4,_)] [] (Ww 5 [.sto 0]) [] (zM 0 G (zM 1 G (zQ G (DJ _ hls) (.o (vq 1 G)) (zQ G (AY _ _) (.p (vq 0 G) (vq 2 G)) (zS 3 G ap o0))))) (zz [] Uh λ a w U=>?_);exact aa<|qh<|au G U (zm 0 G) ap
theorem sE:∀ {l:Ya}{j x:Nat} (h:j<l.length),val (l.set j x)+4294967296^j*l[j]=val l+4294967296^j*x
 | [],j,x,h=>by simp at h
 | y::ys,0,x,_=>by simp [val];omega
 | y::ys,j+1,x,h=>by
  have:=sE (l:=ys) (j:=j) (x:=x) (by simpa using h);simp only [jt,val,List.getElem_cons_succ,zi];have e:∀ z,4294967296^j*4294967296*z=4294967296*(4294967296^j*z):=λ z=>by rw [za (4294967296^j),zb]
  rw [e,e];omega
theorem C3 (h:okL l)(j:Nat){x:Nat}(hx:x<4294967296):okL (l.set j x):=λ y hy=>by
 rcases qA hy with h1|h1
 ·exact h y h1
 ·subst h1;exact hx
structure MulO (a b L:List Nat) (i:Nat):Prop where
 len:L.length=a.length+b.length
 ok:okL L
 vl:val L=val (a.take i)*val b
 zero:∀ j,i+b.length≤j→L.getD j 0=0
structure MulI (a b L:List Nat) (i u k c:Nat):Prop where
 len:L.length=a.length+b.length
 ok:okL L
 cl:c<4294967296
 vl:val L+c*4294967296^(i+k)=val (a.take i)*val b+4294967296^i*(u*val (b.take k))
 zero:∀ j,i+b.length≤j→L.getD j 0=0
theorem MulO.start (a b:Ya):MulO a b (List.replicate (a.length+b.length) 0) 0:=⟨by simp,λ x hx=>by rw [(xM.1 hx).2];decide,by simp [rh],λ j _=>by rw [List.getD_eq_getElem?_getD,List.getElem?_replicate];split <;> rfl⟩
theorem MulO.row {a b L:Ya}(h:MulO a b L i)(u:Nat):MulI a b L i u 0 0:=⟨h.len,h.ok,by decide,by rw [h.vl];simp,h.zero⟩
theorem lJ {u v c l:Nat}(hu:u<4294967296)(hv:v<4294967296)(hc:c<4294967296)(hl:l<4294967296):c+(u*v+l)<18446744073709551616:=by
 have:u*v≤4294967295*4294967295:=xU zo zo;omega
theorem K2 {V V' W Z p q r u x y c t B d m:Nat}(hp:p=q*r)(ht:t=c+(u*x+y))(hd:B*d+m=t)(h2:V'+p*y=V+p*m)(h3:V+c*p=W+q*(u*Z)):V'+d*(p*B)=W+q*(u*(Z+r*x)):=by
 grind
theorem MulI.step {a b L:Ya}{i u k c:Nat}(h:MulI a b L i u k c)(hb:okL b)(hu:u<4294967296)(hk:k<b.length)(hj:i+k<L.length) :
  MulI a b (L.set (i+k) ((c+(u*b[k]+L[i+k]))%4294967296)) i u (k+1) ((c+(u*b[k]+L[i+k]))/4294967296):=by
 have h1:=lJ hu (hb _ (qg hk)) h.cl (h.ok _ (qg hj));refine ⟨by rw [qX,h.len],C3 h.ok _ (qW _ zd),xa h1,?_,λ j hj'=>?_⟩
 ·have h2:=sE (x:=(c+(u*b[k]+L[i+k]))%4294967296) hj;have h3:=h.vl;rw [bG hk,show i+(k+1)=(i+k)+1 from rfl,zi];exact K2 (xf _ _ _) G (x3 _ _) h2 h3
 ·have:=h.zero j hj';rw [List.getD_eq_getElem?_getD,List.getElem?_set_ne zo,← List.getD_eq_getElem?_getD];exact this
theorem MulI.done {a b L:Ya}{i u c:Nat}(h:MulI a b L i u b.length c)(hi:i<a.length)(hu:a[i]=u):MulO a b (L.set (i+b.length) c) (i+1):=by
 have hj:i+b.length<L.length:=by rw [h.len];omega
 have h1:=sE (x:=c) hj;have h2:=h.vl;have h3:L[i+b.length]=0:=by have:=h.zero _ (qi _);rwa [cV hj] at this
 rw [h3,vp,jx] at h1;rw [qF (qi _)] at h2;refine ⟨by rw [qX,h.len],C3 h.ok _ h.cl,?_,λ j hj'=>?_⟩
 ·rw [h1,za _ c,h2,bG hi,hu,xW,zb]
 ·rw [List.getD_eq_getElem?_getD,List.getElem?_set_ne zo,← List.getD_eq_getElem?_getD];exact h.zero j zo
theorem MulO.fin {a b L:Ya}(h:MulO a b L a.length):L=digs (a.length+b.length) (val a*val b):=mZ h.ok h.len (by rw [h.vl,qH])
theorem ID (x y:RI)(hxs:x.mag.length≤1099511627776)(hys:y.mag.length≤1099511627776):Cn Tryz.prog 191 [(RIA x).va,(RIA y).va] ((RIN (rsig (x.neg != y.neg) (digs (x.mag.length+y.mag.length) (val x.mag*val y.mag)))).va):=by
 refine Cn.introW Tryz.func191 G zk nq (.cons (yc _).va (.cons (yc _).va .nil)) (dA _).va (λ B w0 a hB0 U=>?_);have U:=zn [(0,(RIO x).va),(1,(RIO y).va)] [] U;refine qb<|zg [] Ul Um [] U (zW 0 G (zW 1 G (zY G (Str.zero ga) o0))) (zz [] Un λ a w U=>?_);refine zt<|zgd [[],[0],[],[2],[0,1],(Wm 5)] Uo [] (.adr 13 2 (.some 1) True::.v 14 _::.adr 15 3 (.some 1) True::.v 16 _::(W6 5)) [.o 4,.o 5] ac U (zO 0 G ar (zL 0 0 1 G bb (zO 1 G ar (zL 2 1 1 G bb (zA 1 G (zA 3 G o0)))))) zk zk zk zk (zz (Wc 5 6) Un λ a w U=>?_);refine zt<|dz (sts:=[none,none,none]) (news:=[⟨22,138,slH _ _,some 5,_,none⟩]) (sp:=[.v 17 _,.v 18 _,.v 19 _,.v 20 _,.v 21 _,.alc 3,.adr 7 22 .none True]) [.g 0,.g 1] [(7,22)] [O 2 26 _,O 3 26 _,O 4 26 _,zpH 7 138 _] U (zM 0 G (zv G (aK qd (aC (vq 0 G))) (zM 1 G (zv G (aK qd (aC (vq 2 G))) (zv G (aL (vq 1 G) (vq 3 G) (i6 zo)) (oc (eF G G G fA (vq 4 G) (vq 4 G) zo) (oc (ob_a G G nB) o0))))))) zk zk zk ⟨⟨6,rfl⟩,trivial⟩ G zk (zz (Wc 5 6) [O 2 26 _,O 3 26 _,O 4 26 _,zpH 7 138 _] ?_);refine ztA<|zsA<|zgA Uq [] (Wb 23) Ur (zM 0 G (zv G (aK qd (aC (vq 0 G))) (zv G (aq ab) o0))) (zz (Wf 6 23 24 25) [O 2 26 _,O 3 26 _,O 4 26 _,zpH 7 138 _] λ a w U=>?_);refine aa<|qk ?_;have U:=U.sel [0,1,2,3];refine wp_loop_ghost (λ n a w=>∃ (i:Nat) (L:List Nat),n+i=x.mag.length∧MulO x.mag y.mag L i∧St B w0 78 [(6,(MgO y.mag).va),(23,(MgO x.mag).va),(24,In (x.mag.length:Nat)),(25,In (i:Nat))] [⟨2,26,ptrH,RIO x⟩,⟨3,26,ptrH,RIO y⟩,⟨4,26,ptrH,cat [BoA false,MgO []]⟩,⟨7,138,slH (x.mag.length+y.mag.length) (x.mag.length+y.mag.length),Nums .u32 L⟩] a w) (x.mag.length) ?_ ?_
 ·exact ⟨0,_,by omega,MulO.start _ _,U⟩
 intro n a w hI;obtain ⟨i,L,hn,hO,U⟩:=hI;obtain ⟨n1,hn1⟩:∃ n1,n1=n:=⟨n,rfl⟩;have hb:=(U.magO 0 rfl).1;have ha:=(U.magO 1 rfl).1;have hlen:=hO.len;refine qb<|zg Us [] [.v 26 _] Ut U (zv G (aN (gq 3 G) (gq 2 G)) o0) (zz (W8 6 23 24 25 26) [O 2 26 _,O 3 26 _,O 4 26 _,zpH 7 138 _] λ a w U=>?_);refine zt<|cd U (zm 4 G) (λ hb0=>?_) (λ hb0=>?_)
 ·have hi:i<x.mag.length:=by simp at hb0;omega
  refine qj<|zt<|qk<|qb<|zg Us [] (Wb 27 (W6 8)) (Wp [.o 3,.o 4]) U (zM 3 G (zv G (bO bc (aC (gq 1 G)) (gq 3 G) zo) (zv G (ao (vq 1 G) aO) (zA 0 G (zA 2 G o0))))) (zz (Wj 6 23 24 25 8 9) [O 2 26 _,O 3 26 _,O 4 26 _,zpH 7 138 _] ?_);refine ztA<|zgA Uq [] [.v 10 _] (Wq [.o 0]) (zv G (aR (aF 0 G)) o0) (zz (Wu 6 23 24 25 8 9 10) [O 2 26 _,O 3 26 _,O 4 26 _,zpH 7 138 _] ?_);refine ztA<|zsA<|zgA Uq [] (Wb 30) (Wx [.o 0,.o 1,.o 2]) (zM 0 G (zv G (aK qd (aC (vq 0 G))) (zv G (aq ab) o0))) (zz (Wz 6 23 24 25 8 9 10 30 31 32) [O 2 26 _,O 3 26 _,O 4 26 _,zpH 7 138 _] λ a w U=>?_);refine aa<|qk ?_;have U:=U.sel [0,1,2,3,4,5,6,7,8,9];refine wp_loop_ghost (λ n a w=>∃ (k c:Nat) (L:List Nat),n+k=y.mag.length∧MulI x.mag y.mag L i x.mag[i] k c∧St B w0 78 [(6,(MgO y.mag).va),(23,(MgO x.mag).va),(24,In (x.mag.length:Nat)),(25,In (i:Nat)),(8,In (i:Nat)),(9,(NumA .u32 (x.mag[i]:Nat)).va),(10,(NumA .u64 (c:Nat)).va),(30,(MgO y.mag).va),(31,In (y.mag.length:Nat)),(32,In (k:Nat))] [⟨2,26,ptrH,RIO x⟩,⟨3,26,ptrH,RIO y⟩,⟨4,26,ptrH,cat [BoA false,MgO []]⟩,⟨7,138,slH (x.mag.length+y.mag.length) (x.mag.length+y.mag.length),Nums .u32 L⟩] a w) (y.mag.length) ?_ ?_
  ·exact ⟨0,0,L,by omega,hO.row _,U⟩
  intro n a w hI;clear hlen hO;obtain ⟨k,c,L,hn2,hI,U⟩:=hI;have hlen:=hI.len;have hc:=hI.cl;refine qb<|zg Us [] [.v 33 _] (WA [.o 0]) U (zv G (aN (gq 9 G) (gq 8 G)) o0) (zz (WB 6 23 24 25 8 9 10 30 31 32 33) [O 2 26 _,O 3 26 _,O 4 26 _,zpH 7 138 _] λ a w U=>?_);refine zt<|cd U (zm 10 G) (λ hb1=>?_) (λ hb1=>?_)
  ·have hk:k<y.mag.length:=by simp at hb1;omega
   refine qj<|zt<|qk<|qb<|zg Us [] (Wb 34 (W6 11)) (WA [.o 3,.o 4]) U (zM 9 G (zv G (bO bc (aC (gq 7 G)) (gq 9 G) zo) (zv G (ao (vq 1 G) aO) (zA 0 G (zA 2 G o0))))) (zz (WC 6 23 24 25 8 9 10 30 31 32 11 12) [O 2 26 _,O 3 26 _,O 4 26 _,zpH 7 138 _] ?_);refine ztA<|zgA Uq [] (Wl 37 (.adr 43 7 .none True::(Wb 44 (.adr 47 7 (.some _) True::(Ww 48 [.v 10 _]))))) (Wq [.g 7,.g 8,.g 9,.g 10,.o 15]) (zM 6 G (zM 5 G (zv G (aH .u64 zk zk (vq 1 G) (wu64 (zD (ha _ (qg _)) zd))) (zM 11 G (zv G (aH .u64 zk zk (vq 3 G) (wu64 (zD (hb _ (qg _)) zd))) (zv G (mF (vq 2 G) (vq 4 G) (rb (qY (qf (wd _ _) (j9 _ _)) (lJ (ha _ (qg _)) (hb _ (qg _)) (show 0<4294967296 by decide) (show 0<4294967296 by decide))))) (oc (ob_a G G cW) (zM 4 G (zM 10 G (zv G (aL (vq 7 G) (vq 8 G) (i6 zo)) (oc (ob_a G G (eU 6 G zk (lz0 3 G) bc (vq 9 G) zo)) (zv G (sT 10 G zk (lz0 3 G) (λ _=>cw _ _ _ _) (oY zo) aO) (zv G (aH .u64 zk zk (vq 11 G) (wu64 (zD (hI.ok _ (qg _)) zd))) (zv G (aL (vq 5 G) (vq 12 G) (dQ (qY (j9 _ _) (lJ (ha _ (qg _)) (hb _ (qg _)) hc (hI.ok _ (qg _)))))) (zv G (aL (vq 0 G) (vq 13 G) (dQ (lJ (ha _ (qg _)) (hb _ (qg _)) hc (hI.ok _ (qg _))))) (zA 14 G o0)))))))))))))))) (zz (WB 6 23 24 25 8 9 30 31 32 11 10) [O 2 26 _,O 3 26 _,O 4 26 _,zpH 7 138 _] ?_);refine ztA<|zgA [none,none,none,some (7,_)] [] (.adr 52 7 .none True::(Wd 53 [.adr 58 7 (.some _) True,.sto 3])) (WD [.g 10]) (oc (ob_a G G cW) (zM 4 G (zM 9 G (zv G (aL (vq 1 G) (vq 2 G) (i6 zo)) (zM 10 G (zv G (aH .u32 zk zk (vq 4 G) (wu32')) (oc (ob_a G G (eU 0 G zk (lz0 3 G) bc (vq 3 G) zo)) (oc (cK 6 G G G G zk (λ _=>cw _ _ _ _) (vq 5 G) aO (bJ zo)) o0)))))))) (zz (Wz 6 23 24 25 8 9 30 31 32 10) [O 2 26 _,O 3 26 _,O 4 26 _,zpH 7 138 _] ?_);refine znA<|zgA Uq [] (W6 59 [.v 10 _]) (WD [.o 2]) (zM 9 G (zv G (l8 (vq 0 G) (aF 32 G) zd (nshr)) (zA 1 G o0))) (zz (Wz 6 23 24 25 8 9 30 31 32 10) [O 2 26 _,O 3 26 _,O 4 26 _,zpH 7 138 _] λ a w U=>?_);refine ak ?_;refine aa<|zg Us [] [.v 61 _,.v 32 _] (WE [.g 9,.o 1]) U (zv G (aL (gq 8 G) ab (aW zo)) (zV 0 G o0)) (zz (Wz 6 23 24 25 8 9 30 31 10 32) [O 2 26 _,O 3 26 _,O 4 26 _,zpH 7 138 _] λ a w U=>?_);refine aa ?_;have U:=U.sel [0,1,2,3,4,5,8,6,7,9];exact ⟨n-1,by omega,k+1,_,_,by omega,hI.step hb (ha _ (qg _)) hk zo,U⟩
  ·obtain rfl:k=y.mag.length:=by simp at hb1;omega
   refine qL<|ai<|ai<|az<|aa<|zg [η,η,η,some (8,_)] [] (.adr 62 7 .none True::(Wl 63 [.adr 69 7 (.some _) True,.sto 3])) Wp U (oc (ob_a G G cW) (zM 4 G (zM 0 G (zv G (aK qd (aC (vq 2 G))) (zv G (aL (vq 1 G) (vq 3 G) (i6 zo)) (zM 6 G (zv G (aH .u32 zk zk (vq 5 G) (wu32 hc)) (oc (ob_a G G (eU 0 G zk (lz0 3 G) bc (vq 4 G) zo)) (oc (cK 7 G G G G zk (λ _=>cw _ _ _ _) (vq 6 G) aO (bJ zo)) o0))))))))) (zz (Wf 6 23 24 25) [O 2 26 _,O 3 26 _,O 4 26 _,zpH 7 138 _] λ a w U=>?_);refine ak ?_;refine aa<|zg Us [] [.v 70 _,.v 25 _] WX U (zv G (aL (gq 3 G) ab (aW zo)) (zV 0 G o0)) (zz (Wf 6 23 24 25) [O 2 26 _,O 3 26 _,O 4 26 _,zpH 7 138 _] λ a w U=>?_);refine aa ?_;have U:=U.sel [0,1,2,3];exact ⟨n1-1,by omega,i+1,_,by omega,hI.done hi rfl,U⟩
 ·obtain rfl:i=x.mag.length:=by simp at hb0;omega
  refine qL<|ai<|ai<|az<|zt<|zg [η,η,some (7,_),η] [] (.adr 71 2 (.some 0) True::.v 72 _::.adr 73 3 (.some 0) True::(W6 74 [.adr 76 7 .none True,.v 77 _,.sto 2])) [] U (zO 0 G aY (zL 0 0 0 G ty_4 (zO 1 G aY (zL 2 1 0 G ty_4 (zv G (mE zk (vq 1 G) (vq 3 G)) (oc (ob_a G G cW) (zQ G (db _ _) (.p (vq 4 G) (iB 5 G zk (lz0 3 G) ⟨hO.len.symm,qi _,by unfold maxLen;omega,hO.ok⟩ hO.len.symm)) (zS 6 G ap o0)))))))) (zz [] [O 2 26 _,O 3 26 _,O 4 26 _,zpH 7 138 _] λ a w U=>?_);refine aa<|qh<|aJ ?_ (au G U (zm 2 G) ap);rw [hO.fin];rfl
def sgI (x:RI):Int:=if x.mag.length=0 then 0 else if x.neg then -1 else 1
def cmpI (x y:RI):Int:=if sgI x≠sgI y then (if sgI x<sgI y then -1 else 1) else max (-1) (min 1 (if x.neg then -(cN x.mag y.mag) else cN x.mag y.mag))
def okRI (x:RI):Bool := !((decide ((x.mag.length:Int)>2048) || (decide ((x.mag.length:Int)>0)&&(((x.mag.getD (x.mag.length-1) 0:Nat):Int)==((0:Nat):Int)))) || (((x.mag.length:Int)==0)&&x.neg))
theorem wU {x:RI}(h:((decide ((x.mag.length:Int)>2048) || (decide ((x.mag.length:Int)>0)&&(((x.mag.getD (x.mag.length-1) 0:Nat):Int)==((0:Nat):Int)))) || (((x.mag.length:Int)==0)&&x.neg))=true):(1:Int)=(if okRI x then 0 else 1):=by unfold okRI;rw [h];rfl
theorem wT {x:RI}(h:((decide ((x.mag.length:Int)>2048) || (decide ((x.mag.length:Int)>0)&&(((x.mag.getD (x.mag.length-1) 0:Nat):Int)==((0:Nat):Int)))) || (((x.mag.length:Int)==0)&&x.neg))=false):(0:Int)=(if okRI x then 0 else 1):=by unfold okRI;rw [h];rfl
theorem cj {neg:Bool}{z:Int}(ok:okL l)(hv:val l=z.natAbs)(hn:z≠0→neg=decide (z<0)):rsig neg l=riOf z:=by
 unfold rsig riOf;rw [dD ok,hv];by_cases h:z=0
 ·subst h;simp [bE]
 ·have h1:aA z.natAbs≠[]:=by rw [dh zo];simp
  have h2:(aA z.natAbs).isEmpty=false:=by cases hh:aA z.natAbs <;> simp_all
  rw [h2,hn h];simp
theorem oU (z:Int):okL (riOf z).mag:=(bm _).1
theorem bF (z:Int):val (riOf z).mag=z.natAbs:=aI _
theorem Ez {l m:Ya}(hl:l.length≤1099511627776)(hm:m.length≤1099511627776) : -1099511627777≤cN l m∧cN l m≤1099511627777:=by
 unfold cN;split
 ·omega
 ·split
  ·omega
  ·split <;> omega
theorem B4 {x:RI}(h:((x.mag.length:Int)==0)=true):(0:Int)=sgI x:=by simp at h;simp [sgI,h]
theorem B3 {x:RI}(h:((x.mag.length:Int)==0)=false)(h2:x.neg=true):(-1:Int)=sgI x:=by simp at h;simp [sgI,h,h2]
theorem B2 {x:RI}(h:((x.mag.length:Int)==0)=false)(h2:x.neg=false):(1:Int)=sgI x:=by simp at h;simp [sgI,h,h2]
theorem Ow {x y:RI}(h:(sgI x != sgI y)=true)(h2:decide (sgI x<sgI y)=true):(-1:Int)=cmpI x y:=by simp at h h2;simp [cmpI,h,h2]
theorem Ov {x y:RI}(h:(sgI x != sgI y)=true)(h2:decide (sgI x<sgI y)=false):(1:Int)=cmpI x y:=by simp at h h2;simp [cmpI,h];omega
theorem Ou {x y:RI}(h:(sgI x != sgI y)=false):max (-1) (min 1 (if x.neg then -(cN x.mag y.mag) else cN x.mag y.mag))=cmpI x y:=by simp at h;simp [cmpI,h]
theorem ug (x:RI):Cn Tryz.prog 176 [(RIA x).va] (In (sgI x)):=by
 refine Cn.intro Tryz.func176 G zk nq (zy [(0,(RIA x).va)] λ B w0 a U=>?_);refine qb<|zg [] Uu Uv Uw U (zW 0 G (zE G ab)) (zz Ux Uy λ a w U=>?_);refine zt<|qk<|qb<|zg U6 [] (.adr 4 1 (.some 1) True::(Wb 5 [.v 3 _])) Uz U (zO 0 G ar (zL 0 0 1 G bb (zv G (aK qd (vq 1 G)) (zv G (bC (vq 2 G) ab) (zA 3 G o0))))) (zz (Wc 2 3) Uy λ a w U=>?_);refine zJ 1 U G (λ hb0=>?_) (λ hb0=>?_)
 ·refine qb<|zg U6 [] UA U2 U (zE G ab) (zz Ux Uy λ a w U=>?_);refine aa<|qh<|aD ?_;refine aj ?_;refine aJ ?_ (am G U (zm 0 G));exact nu (B4 hb0)
 ·refine qb<|zg U6 [] [.adr 9 1 (.some 0) True,.v 10 _,.v 8 _] Ui U (zO 0 G aY (zL 0 0 0 G ty_4 (zA 1 G o0))) (zz (Wc 2 8) Uy λ a w U=>?_);refine zJ 1 U G (λ hb1=>?_) (λ hb1=>?_)
  ·refine qb<|zg U6 [] UA U2 U (zE G ab) (zz Ux Uy λ a w U=>?_);refine aa<|qh<|aD ?_;refine aj ?_;refine aJ ?_ (am G U (zm 0 G));exact nu (B3 hb0 hb1)
  ·refine qj<|ak ?_;refine zt<|zg U6 [] UA U2 U (zE G ab) (zz Ux Uy λ a w U=>?_);refine zN 0 U G G ?_;exact nu (B2 hb0 hb1)
theorem HP (x y:RI)(hxs:x.mag.length≤1099511627776)(hys:y.mag.length≤1099511627776):Cn Tryz.prog 177 [(RIA x).va,(RIA y).va] (In (cmpI x y)):=by
 refine Cn.intro Tryz.func177 G zk nq (zy [(0,(RIA x).va),(1,(RIA y).va)] λ B w0 a U=>?_);have hbd:=Ez hxs hys;refine qb<|zg [] UB UC Ud U (zW 0 G (zW 1 G (zE G ab))) (zz U3 UD λ a w U=>?_);refine zt<|qb<|zgd UE UF [] (Ww 8 (W6 5)) [.g 0,.o 4,.o 5] ac U (zl 0 G ap (zQ G (ug _) (.o (vq 0 G)) (zl 1 G ap (zQ G (ug _) (.o (vq 2 G)) (zA 1 G (zA 3 G o0)))))) zk zk zk zk (zz (Wa 4 5 6) UD ?_);refine ztA<|zgA UF [] (Wb 12) UG (zM 1 G (zM 2 G (zv G (ca (vq 0 G) (vq 1 G)) o0))) (zz (Wf 4 5 6 14) UD λ a w U=>?_);refine zJ 3 U G (λ hb0=>?_) (λ hb0=>?_)
 ·refine qb<|qb<|zg UH [] (Wb 15) Ui U (zM 1 G (zM 2 G (zv G (aN (vq 0 G) (vq 1 G)) o0))) (zz (Wc 4 17) UD λ a w U=>?_);refine zJ 1 U G (λ hb1=>?_) (λ hb1=>?_)
  ·refine qb<|zg UH [] WR U2 U (zE G ab) (zz U3 UD λ a w U=>?_);refine aa<|qh<|aj ?_;refine aj ?_;refine aJ ?_ (am G U (zm 0 G));exact nu (Ow hb0 hb1)
  ·refine qj<|zt<|zg UH [] WR U2 U (zE G ab) (zz U3 UD λ a w U=>?_);refine aa<|qh<|aj ?_;refine aJ ?_ (am G U (zm 0 G));exact nu (Ov hb0 hb1)
 ·refine qj<|zt<|zg UH [] (.adr 18 2 (.some 1) True::.v 19 _::.adr 20 3 (.some 1) True::(W6 21 [.v 7 _])) [.g 0,.o 5] U (zO 0 G ar (zL 0 0 1 G bb (zO 1 G ar (zL 2 1 1 G bb (zQ G (uf _ _) (.p (vq 1 G) (vq 3 G)) (zA 4 G o0)))))) (zz (Wc 4 7) UD ?_);refine ztA<|zsA<|zgA UF [] [.adr 23 2 (.some 0) True,.v 24 _] UI (zO 0 G aY (zL 0 0 0 G ty_4 o0)) (zz (Wa 4 7 24) UD λ a w U=>?_);refine aa<|bP (λ a w =>  St B w0 30 [(7,In (if x.neg then -(cN x.mag y.mag) else cN x.mag y.mag))] [⟨2,26,ptrH,RIA x⟩,⟨3,26,ptrH,RIA y⟩] a w) U (zm 2 G) (λ hb2=>?_) (λ hb2=>?_) (λ a w U=>?_)
  ·refine zg UH [] (W6 25 [.v 7 _]) Ui U (zM 1 G (zv G (EX (vq 0 G) ((wi64 zo zo).trans (kQ _))) (zA 1 G o0))) (zz (Wc 4 7) UD λ a w U=>?_);refine aa ?_;have U:=U.sel [1];rw [qC hb2];exact U
  ·refine qj<|aa ?_;have U:=U.sel [1];rw [qz (by rw [hb2];decide)];exact U
  refine zt<|zg UH [] (Wb 27 [.v 4 _]) UJ U (zM 0 G (zv G (Jg ab (vq 0 G)) (zv G (MV ab (vq 1 G)) (zA 2 G o0)))) (zz U3 UD λ a w U=>?_);refine zN 0 U G G ?_;exact nu (Ou hb0)
theorem tI (x:RI):Cn Tryz.prog 175 [(RIA x).va] (In (if okRI x then 0 else 1)):=by
 refine Cn.intro Tryz.func175 G zk nq (zy [(0,(RIA x).va)] λ B w0 a U=>?_);have hk:=(l7 (U.vals _ (zm 0 rfl))).2;refine qb<|zg [] Uu Uv Uw U (zW 0 G (zE G ab)) (zz Ux Uy λ a w U=>?_);refine zt<|qb<|gl (sts:=[none]) (news:=[]) (sp:=((.adr 3 1 (.some 1) True:Sp)::(.v 4 _)::(.v 5 _)::(.v 6 _)::(.v 7 _)::(.adr 8 1 (.some 1) (_=false))::(.f 9 _)::(.f 10 _)::(.f 11 _)::(.f 12 _)::(.adr 13 1 (.some 1) ((_=false)∧_=true))::(.v 14 (Wh ((_=false)∧_=true) _))::(.adr 15 1 (.some 1) ((_=false)∧_=true))::(.v 16 (Wh ((_=false)∧_=true) _))::(.v 17 (Wh ((_=false)∧_=true) _))::(.v 18 (Wh ((_=false)∧_=true) _))::(.v 19 (Wh ((_=false)∧_=true) _))::(.v 20 (Wh ((_=false)∧_=true) _))::(.v 21 (Wh ((_=false)∧_=true) _))::(.f 22 _)::(.v 23 _)::(.v 24 _)::(.adr 25 1 (.some 1) (_=false))::(.f 26 _)::(.f 27 _)::(.f 28 _)::(.f 29 _)::(.adr 30 1 (.some 0) ((_=false)∧_=true))::(.v 31 (Wh ((_=false)∧_=true) _))::(.f 32 _)::(.v 33 _)::[])) [.g 0,.o 30] U (zO 0 G ar (zL 0 0 1 G bb (zv G (aK qd (vq 1 G)) (zv G (cM (vq 2 G) ab) (zV 3 G (zC 4 0 G ar (zB 4 G (λ hg=>aB 5 G zk hg (lz0 0 G) (Sub.part 1 G G) bb) (zB 4 G (λ hg=>aK qd (ae (vq 6 G) hg)) (zB 4 G (λ hg=>cM (ae (vq 7 G) hg) ab) (zB 4 G (λ hg=>aq (ae (vq 8 G) hg)) (oc (gJ G G G (vq 9 G) nq (λ hg=>fY (lz0 0 G) ar)) (oc (bT G G G (vq 9 G) nq (λ hg=>aB 10 G zk hg (lz0 0 G) (Sub.part 1 G G) bb)) (oc (gJ G G G (vq 9 G) nq (λ hg=>fY (lz0 0 G) ar)) (oc (bT G G G (vq 9 G) nq (λ hg=>aB 12 G zk hg (lz0 0 G) (Sub.part 1 G G) bb)) (oc (bT G G G (vq 9 G) nq (λ hg=>aK qd (ae (vq 13 G) hg))) (oc (bT G G G (vq 9 G) nq (λ hg=>cH (ae (vq 14 G) hg) ab (Ij (by have h:=hg.2;simp at h;omega) hk))) (oc (bT G G G (vq 9 G) nq (λ hg=>oK bc (ae (vq 11 G) hg) (ae (vq 15 G) hg) (by have h:=hg.2;simp at h;omega))) (oc (bT G G G (vq 9 G) nq (λ hg=>ao (ae (vq 16 G) hg) aO)) (oc (bT G G G (vq 9 G) nq (λ hg=>bC (ae (vq 17 G) hg) (aF 0 G))) (zB 4 G (λ hg=>bv (ae (vq 9 G) hg) (fR (vq 18 G) hg)) (zv G (r_or (vq 4 G) (vq 19 G)) (zV 20 G (zC 21 0 G ar (zB 21 G (λ hg=>aB 22 G zk hg (lz0 0 G) (Sub.part 1 G G) bb) (zB 21 G (λ hg=>aK qd (ae (vq 23 G) hg)) (zB 21 G (λ hg=>bC (ae (vq 24 G) hg) ab) (zB 21 G (λ hg=>aq (ae (vq 25 G) hg)) (oc (gJ G G G (vq 26 G) nq (λ hg=>fY (lz0 0 G) aY)) (oc (bT G G G (vq 26 G) nq (λ hg=>aB 27 G zk hg (lz0 0 G) (Sub.part 0 G G) ty_4)) (zB 21 G (λ hg=>bv (ae (vq 26 G) hg) (fR (vq 28 G) hg)) (zv G (r_or (vq 21 G) (vq 29 G)) o0))))))))))))))))))))))))))))))) (zz (Wc 2 33) Uy λ a w U=>?_);refine zJ 1 U G (λ hb0=>?_) (λ hb0=>?_)
 ·refine qb<|zg U6 [] UA U2 U (zE G ab) (zz Ux Uy λ a w U=>?_);refine aa<|qh<|aj ?_;refine aJ ?_ (am G U (zm 0 G));exact nu (wU hb0)
 ·refine qj<|zt<|zg U6 [] UA U2 U (zE G ab) (zz Ux Uy λ a w U=>?_);refine zN 0 U G G ?_;exact nu (wT hb0)
theorem JP {n:Int}(h0 : -9223372036854775808≤n)(h:decide (n<0)=true):IntKind.u64.wrap (0-IntKind.u64.wrap n)=(n.natAbs:Nat):=by
 simp at h;simp [IntKind.wrap,IntKind.bits,IntKind.signed];omega
theorem JO {n:Int}(h1:n<9223372036854775808)(h:decide (n<0)=false):IntKind.u64.wrap n=(n.natAbs:Nat):=by
 simp at h;simp [IntKind.wrap,IntKind.bits,IntKind.signed];omega
theorem C4 {n:Int}(h0 : -9223372036854775808≤n)(h1:n<9223372036854775808):okL [n.natAbs%4294967296,n.natAbs/4294967296]:=by
 intro x hx;simp at hx;rcases hx with rfl|rfl <;> omega
theorem Nl {n:Int}(h0 : -9223372036854775808≤n)(h1:n<9223372036854775808):(RIA (rsig (decide (n<0)) [n.natAbs%4294967296,n.natAbs/4294967296])).va=Zi n:=by
 rw [cj (C4 h0 h1) (z:=n) (by simp [val];omega) (λ _=>rfl)]
theorem of_c (n:Int)(h0 : -9223372036854775808≤n)(h1:n<9223372036854775808):Cn Tryz.prog 107 [In n] (Zi n):=by
 refine Cn.intro Tryz.func107 G zk nq (zy [(0,In n)] λ B w0 a U=>?_);refine qb<|zg [] UK Uf UL U (zY G (Str.zero bu) o0) (zz UM UN ?_);refine ztA<|zgA U4 [] (W6 4 [.v 3 _]) Ui (zM 0 G (zv G (aH .u64 zk zk (vq 0 G) (G)) (zA 1 G o0))) (zz UO UN ?_);refine ztA<|zsA<|zgA U4 [] (W6 6) UI (zM 0 G (zv G (aN (vq 0 G) ab) o0)) (zz (Wa 0 3 7) UN λ a w U=>?_);refine aa<|bP (λ a w =>  St B w0 19 [(0,In n),(3,(NumA .u64 (n.natAbs:Nat)).va)] [⟨2,26,ptrH,cat [BoA false,MgA []]⟩] a w) U (zm 2 G) (λ hb0=>?_) (λ hb0=>?_) (λ a w U=>?_)
 ·refine zg U6 [] (W6 8 [.v 3 _]) Ui U (zM 1 G (zv G (EX (vq 0 G) (G)) (zA 1 G o0))) (zz UO UN λ a w U=>?_);refine aa ?_;have U:=U.sel [0,1];rw [JP h0 hb0] at U;exact U
 ·refine qj<|aa ?_;have U:=U.sel [0,1];rw [JO h1 hb0] at U;exact U
 refine zt<|zg [some (9,_)] [] (Wo 10 [.sto 0]) [] U (zM 0 G (zv G (aN (vq 0 G) ab) (zM 1 G (zv G (aH .u32 zk zk (vq 2 G) (wu32')) (zM 1 G (zv G (l8 (vq 4 G) (aF 32 G) zd (nshr)) (zv G (aH .u32 zk zk (vq 5 G) (wu32 (by show n.natAbs/4294967296<_;omega))) (zv G (dF (l:=[_,_]) (xs:=[.tmp 13,.tmp 16]) bc zk nq nq (C4 h0 h1) (.p (vq 3 G) (vq 6 G)) G G) (zQ G (ik _ _) (.p (vq 1 G) (vq 7 G)) (zS 8 G ap o0)))))))))) (zz [] UN λ a w U=>?_);refine aa<|qh<|aJ ?_ (au G U (zm 0 G) ap);exact Nl h0 h1
theorem cE (h:m≤n):(aA m).length≤(aA n).length:=ez (qY h (cz (qi _)))
theorem ee :(0≤cN (aA m) (aA n)↔n≤m)∧(0<cN (aA m) (aA n)↔n<m):=by
 unfold cN;rw [aI,aI];by_cases h:(aA m).length=(aA n).length
 ·rw [qz zo];split
  ·omega
  ·split <;> omega
 ·rw [qC zo];by_cases h2:m≤n
  ·have:=cE h2;have:m≠n:=λ e=>h (by rw [e]);omega
  ·have:=cE (xb (ji h2));omega
theorem Ap {a b:Nat}:val (digs (max (aA a).length (aA b).length+1) (a+b))=a+b:=by
 rw [dU,zH];have h1:=cz (n:=a) (k:=max (aA a).length (aA b).length) (jp _ _);have h2:=cz (n:=b) (k:=max (aA a).length (aA b).length) (jj _ _);rw [zi];omega
theorem Jw {a b:Int}(h:((riOf a).neg==(riOf b).neg)=true):(RIA (rsig (riOf a).neg (digs (max (riOf a).mag.length (riOf b).mag.length+1) (val (riOf a).mag+val (riOf b).mag)))).va=Zi (a+b):=by
 have h':decide (a<0)=decide (b<0):=by simpa [riOf] using h
 rw [bF,bF,cj (bY _ _) (z:=a+b) (by show val (digs (max (aA a.natAbs).length (aA b.natAbs).length+1) _)=_;rw [Ap];simp only [qU] at h';omega) (λ hz=>by show decide (a<0)=_;simp only [qU] at h' ⊢;omega)]
theorem BR {a b:Int}(h:((riOf a).neg==(riOf b).neg)=false)(h2:b.natAbs≤a.natAbs):(RIA (rsig (riOf a).neg (aA (val (riOf a).mag-val (riOf b).mag)))).va=Zi (a+b):=by
 have h':¬ decide (a<0)=decide (b<0):=by simpa [riOf] using h
 rw [bF,bF,cj (bm _).1 (z:=a+b) (by rw [aI];simp only [qU] at h';omega) (λ hz=>by show decide (a<0)=_;simp only [qU] at h' ⊢;omega)]
theorem BQ {a b:Int}(h:((riOf a).neg==(riOf b).neg)=false)(h2:a.natAbs≤b.natAbs):(RIA (rsig (riOf b).neg (aA (val (riOf b).mag-val (riOf a).mag)))).va=Zi (a+b):=by
 have h':¬ decide (a<0)=decide (b<0):=by simpa [riOf] using h
 rw [bF,bF,cj (bm _).1 (z:=a+b) (by rw [aI];simp only [qU] at h';omega) (λ hz=>by show decide (b<0)=_;simp only [qU] at h' ⊢;omega)]
theorem lk {a b:Int}(h:decide (cN (riOf a).mag (riOf b).mag≥0)=true):b.natAbs≤a.natAbs:=(ee (m:=a.natAbs) (n:=b.natAbs)).1.1 (by simpa [riOf] using h)
theorem lj {a b:Int}(h:decide (cN (riOf a).mag (riOf b).mag≥0)=false):a.natAbs≤b.natAbs:=by
 have:=(ee (m:=a.natAbs) (n:=b.natAbs)).1;have h':¬ 0≤cN (aA a.natAbs) (aA b.natAbs):=by simpa [riOf] using h
 omega
theorem K5 {b:Int}:(cat (lE [BoA false,MgA []] [(0,BoA (!(riOf b).neg&&decide (((riOf b).mag.length:Int)>0))),(1,MgA (riOf b).mag)])).va=Zi (-b):=by
 have e:(!(riOf b).neg&&decide (((riOf b).mag.length:Int)>0))=(riOf (-b)).neg:=by
  by_cases h:b=0
  ·subst h;simp [riOf,bE]
  ·have:0<(aA b.natAbs).length:=by rw [dh zo];simp
   simp [riOf,this];by_cases h2:b<0 <;> simp [h2] <;> omega
 rw [e];have e2:(riOf b).mag=(riOf (-b)).mag:=by simp [riOf]
 rw [e2]
 rfl
theorem lK (b:Int):lz (-b)=lz b:=by simp [lz]
theorem He (p q:Int)(hp:lz p≤1099511627776)(hq:lz q≤1099511627776):Cn Tryz.prog 108 [Zi p,Zi q] (Zi (p+q)):=by
 refine Cn.intro Tryz.func108 G zk nq (zy [(0,Zi p),(1,Zi q)] λ B w0 a U=>?_);refine qb<|zg [] Ul Um [] U (zW 0 G (zW 1 G (zY G (Str.zero bu) o0))) (zz [] Un ?_);refine ztA<|zsA<|zgA Uo [] (.adr 5 2 (.some 0) True::.v 6 _::.adr 7 3 (.some 0) True::(W6 8)) UP (zO 0 G aY (zL 0 0 0 G ty_4 (zO 1 G aY (zL 2 1 0 G ty_4 (zv G (BB zk (vq 1 G) (vq 3 G)) o0))))) (zz [(9,_)] Un λ a w U=>?_);refine zJ 0 U G (λ hb0=>?_) (λ hb0=>?_)
 ·refine qb<|zgd UQ UR [] (.adr 10 2 (.some 0) True::.v 11 _::.adr 12 2 (.some 1) True::.v 13 _::.adr 14 3 (.some 1) True::(Wb 15 [.sto 2])) [] ac U (zO 0 G aY (zL 0 0 0 G ty_4 (zO 0 G ar (zL 2 0 1 G bb (zO 1 G ar (zL 4 1 1 G bb (zQ G ((Pb _ _ hp hq).free (iF _).va) (.p (vq 3 G) (vq 5 G)) (zQ G (ik _ _) (.p (vq 1 G) (vq 6 G)) (zS 7 G ap o0))))))))) zk zk zk zk (zz [] Un λ a w U=>?_);refine aa<|qh<|aj ?_;refine aJ ?_ (au G U (zm 2 G) ap);exact Jw hb0
 ·refine qj<|zt<|qb<|zg US [] (.adr 18 2 (.some 1) True::.v 19 _::.adr 20 3 (.some 1) True::(Wb 21)) [.o 5] U (zO 0 G ar (zL 0 0 1 G bb (zO 1 G ar (zL 2 1 1 G bb (zQ G (uf _ _) (.p (vq 1 G) (vq 3 G)) (zv G (dP (vq 4 G) ab) o0)))))) (zz [(23,_)] Un λ a w U=>?_);refine zJ 0 U G (λ hb1=>?_) (λ hb1=>?_)
  ·refine qb<|zgd UQ UR [] (.adr 24 2 (.some 0) True::.v 25 _::.adr 26 2 (.some 1) True::.v 27 _::.adr 28 3 (.some 1) True::(Wb 29 [.sto 2])) [] ac U (zO 0 G aY (zL 0 0 0 G ty_4 (zO 0 G ar (zL 2 0 1 G bb (zO 1 G ar (zL 4 1 1 G bb (zQ G ((Eo _ _ hp (cE (lk hb1)) (by show val (aA _)≤val (aA _);rw [aI,aI];exact lk hb1)).free (iF _).va) (.p (vq 3 G) (vq 5 G)) (zQ G (ik _ _) (.p (vq 1 G) (vq 6 G)) (zS 7 G ap o0))))))))) zk zk zk zk (zz [] Un λ a w U=>?_);refine aa<|qh<|aj ?_;refine aJ ?_ (au G U (zm 2 G) ap);exact BR hb0 (lk hb1)
  ·refine qj<|zt<|zgd UQ UR [] (.adr 32 3 (.some 0) True::.v 33 _::.adr 34 3 (.some 1) True::.v 35 _::.adr 36 2 (.some 1) True::(Wb 37 [.sto 2])) [] ac U (zO 1 G aY (zL 0 1 0 G ty_4 (zO 1 G ar (zL 2 1 1 G bb (zO 0 G ar (zL 4 0 1 G bb (zQ G ((Eo _ _ hq (cE (lj hb1)) (by show val (aA _)≤val (aA _);rw [aI,aI];exact lj hb1)).free (iF _).va) (.p (vq 3 G) (vq 5 G)) (zQ G (ik _ _) (.p (vq 1 G) (vq 6 G)) (zS 7 G ap o0))))))))) zk zk zk zk (zz [] Un λ a w U=>?_);refine aa<|qh<|aJ ?_ (au G U (zm 2 G) ap);exact BQ hb0 (lj hb1)
theorem Ce (p q:Int)(hp:lz p≤1099511627776)(hq:lz q≤1099511627776):Cn Tryz.prog 193 [Zi p,Zi q] (Zi (p-q)):=by
 refine Cn.intro Tryz.func193 G zk nq (zy [(0,Zi p),(1,Zi q)] λ B w0 a U=>?_);refine qb<|zg [] Ul Um [] U (zW 0 G (zW 1 G (zY G (Str.zero bu) o0))) (zz [] Un ?_);refine ztA<|zgA [none,none,some (14,_)] [] (.v 5 _::.adr 6 3 (.some 0) True::(Wb 7 (.adr 10 3 (.some 1) (_=true)::.t 11 _::.t 12 _::.t 13 _::.v 14 _::.adr 15 3 (.some 1) True::(Wb 16 [.sto 2])))) [] (zl 0 G ap (zO 1 G aY (zL 1 1 0 G ty_4 (zv G (dc (vq 2 G)) (zV 3 G (zC 4 1 G ar (zB 4 G (λ hg=>aB 5 G zk hg (lz0 1 G) (Sub.part 1 G G) bb) (zB 4 G (λ hg=>aK qd (ae (vq 6 G) hg)) (zB 4 G (λ hg=>cM (ae (vq 7 G) hg) ab) (zv G (bv (vq 4 G) (vq 8 G)) (zO 1 G ar (zL 10 1 1 G bb (zv G (aT (qs:=[(0,_),(1,_)]) bu (.cons ⟨rfl,vq 9 rfl,rfl⟩ (.cons ⟨rfl,vq 11 rfl,rfl⟩ .nil))) (zQ G ((He p (-q) hp (by rw [lK];exact hq)).pre (qp (λ A=>[Zi p,A]) K5)) (.p (vq 0 G) (vq 12 G)) (zS 13 G ap o0))))))))))))))) (zz [] Un λ a w U=>?_);refine aa<|qh<|aJ ?_ (au G U (zm 2 G) ap);exact qp Zi Int.sub_eq_add_neg.symm
theorem AD (p:Int)(hp:lz p≤1099511627776):Cn Tryz.prog 192 [Zi p] (Zi (-p)):=by
 refine Cn.intro Tryz.func192 G zk nq (zy [(0,Zi p)] λ B w0 a U=>?_);refine qb<|zg [] UT UU [] U (zW 0 G (zY G (Str.zero bu) o0)) (zz [] UV λ a w U=>?_);refine zt<|zgd UW UX [] (Wb 3 [.sto 1]) [] ac U (zQ G (of_c 0 zd zd) (.cons ab .nil) (zl 0 G ap (zQ G (Ce 0 p (by simp [lz,bE]) hp) (.p (vq 0 G) (vq 1 G)) (zS 2 G ap o0)))) zk zk zk zk (zz [] UV λ a w U=>?_);refine aa<|qh<|aJ ?_ (au G U (zm 1 G) ap);exact qp Zi (kQ p)
def shSt (l ext:List Nat)(d i:Nat):List Nat:=l.take i++digs (l.length-i) (val (l.drop i)/d)++ext
theorem EA (l ext:Ya)(d:Nat):shSt l ext d l.length=l++ext:=by simp [shSt,digs]
theorem EC (l ext:Ya)(d:Nat):shSt l ext d 0=digs l.length (val l/d)++ext:=by simp [shSt]
theorem EB {l ext:Ya}(h:i≤l.length):(shSt l ext d i).length=l.length+ext.length:=by simp [shSt,ay];omega
theorem uh {l ext:Ya}(h:i<l.length)(h2:i<(shSt l ext d (i+1)).length):(shSt l ext d (i+1))[i]=l[i]:=by
 simp only [shSt,qP];rw [List.getElem_append_left (by simp;omega),v6]
theorem Mt (V x d:Nat):x+4294967296*V=d*(4294967296*(V/d))+(V%d*4294967296+x):=by
 have h:=x3 V d;have e:4294967296*V=4294967296*(d*(V/d)+V%d):=by rw [h]
 rw [xg,← zb,za 4294967296 d,zb] at e;omega
theorem Mu {V x d:Nat}(hd:0<d):(x+4294967296*V)/d=4294967296*(V/d)+(V%d*4294967296+x)/d:=by rw [Mt,wn hd]
theorem Ms {V x d:Nat}:(x+4294967296*V)%d=(V%d*4294967296+x)%d:=by rw [Mt,wm]
theorem wH (h:i<l.length):val (l.drop i)=l[i]+4294967296*val (l.drop (i+1)):=by rw [qK h];rfl
theorem sj (n q V:Nat)(hq:q<4294967296):digs (n+1) (4294967296*V+q)=q::digs n V:=by
 show (4294967296*V+q)%4294967296::digs n ((4294967296*V+q)/4294967296)=_;rw [show (4294967296*V+q)%4294967296=q from by omega,show (4294967296*V+q)/4294967296=V from by omega]
theorem B5 {l ext:Ya}(h:i<l.length)(hl:okL l)(hd:0<d):(shSt l ext d (i+1)).set i ((val (l.drop (i+1))%d*4294967296+l[i])/d)=shSt l ext d i:=by
 have hq:=tA (h:=val (l.drop (i+1))%d) (l:=l[i]) (d:=d) (qW _ hd) (hl _ (qg h));unfold shSt;rw [wH h,Mu hd,show l.length-i=(l.length-(i+1))+1 from by omega,sj _ _ _ hq,qw h,qP,qP,qP,fH _ _ _ _ (by simp;omega)];simp
theorem IZ (l ext:Ya)(c d:Nat)(hl:okL l)(hls:l.length≤1099511627776)(hd0:0<d)(hd:d<4294967296):Cm Tryz.prog 242 138 (Nums .u32 (l++ext)) (Nums .u32 (digs l.length (val l/d)++ext)) [.w (slH l.length c),.v ((NumA .u32 (d:Nat)).va)] ((NumA .u32 (val l%d:Nat)).va):=by
 refine Cm.intro Tryz.func242 G zk nq (λ B g w0 a U=>?_);have U:=zn [(0,EqV ((slH l.length c).f g)),(1,(NumA .u32 (d:Nat)).va)] [⟨0,138,slH l.length c,Nums .u32 (l++ext)⟩] U;refine qb<|zg U6 [] WR WS U (zv G (aR (aF 0 G)) o0) (zz WT [zpH 0 138 _] ?_);refine ztA<|zgA U4 [] UY WZ (zv G (aR (aF 0 G)) o0) (zz WW [zpH 0 138 _] ?_);refine ztA<|zsA<|zgA U4 [] (.adr 7 0 .none True::(W6 8 [.v 6 _])) (Wp [.o 3]) (oc (ob_a G G cW) (zv G (MW 0 G zk (lz0 0 G) qd) (zv G (cH (vq 1 G) ab (wi64 zo zo)) (zA 2 G o0)))) (zz UZ [zpH 0 138 _] λ a w U=>?_);refine aa<|qk ?_;have U:=U.sel [0,1,3,4];refine wp_loop_ghost (λ n a w=>n≤l.length∧St B w0 28 [(0,EqV ((slH l.length c).f g)),(1,(NumA .u32 (d:Nat)).va),(5,(NumA .u32 (val (l.drop n)%d:Nat)).va),(6,In ((n:Int)-1))] [⟨0,138,slH l.length c,Nums .u32 (shSt l ext d n)⟩] a w) (l.length) ?_ ?_
 ·exact ⟨qi _,by rw [EA,xL,show val []%d=0 from by simp [val]];exact U⟩
 intro n a w hI;obtain ⟨hn,U⟩:=hI;have hlen:=EB (ext:=ext) (d:=d) hn;refine qb<|qb<|zg U6 [] (W6 10) Rh U (zM 3 G (zv G (dP (vq 0 G) ab) o0)) (zz (W8 0 1 5 6 11) [zpH 0 138 _] λ a w U=>?_);refine zJ 4 U G (λ hb0=>?_) (λ hb0=>?_)
 ·obtain ⟨j,rfl⟩:∃ j,n=j+1:=⟨n-1,by simp at hb0;omega⟩;rw [show ((j+1:Nat):Int)-1=(j:Int) from by omega] at U;refine qj<|zt<|qk<|zg U9 [] (.adr 15 0 .none True::(W6 16 (.adr 18 0 .none True::.v 19 _::.adr 20 0 (.some _) True::(Wb 21 (.v 14 _::(W6 24 [.adr 26 0 (.some _) True,.sto 0,.v 5 _])))))) (We [.g 3,.o 14]) U (oc (ob_a G G cW) (zM 3 G (zM 2 G (oc (ob_a G G cW) (zM 3 G (oc (ob_a G G (eU 3 G zk (lz0 0 G) bc (vq 4 G) zo)) (zv G (sT 5 G zk (lz0 0 G) (λ _=>cw _ _ _ _) (oY zo) aO) (zM 1 G (zQ G (Lo (qW _ hd0) (by rw [uh zo zo];exact hl _ (qg _)) hd) (.cons (vq 2 G) (.p (vq 6 G) (vq 7 G))) (zV 8 G (zv G (aQ (vq 9 G) G) (zv G (aQ (vq 9 G) G) (oc (ob_a G G (eU 0 G zk (lz0 0 G) bc (vq 1 G) zo)) (oc (cK 12 G G G G zk (λ _=>cw _ _ _ _) (vq 10 G) aO (bJ zo)) (zA 11 G o0))))))))))))))) (zz (Wf 0 1 6 5) [zpH 0 138 _] λ a w U=>?_);refine ak ?_;refine aa<|zg U6 [] (W6 12 [.v 6 _]) Ri U (zM 2 G (zv G (cH (vq 0 G) ab (wi64 zo zo)) (zA 1 G o0))) (zz (Wf 0 1 5 6) [zpH 0 138 _] λ a w U=>?_);refine aa ?_;have U:=U.sel [0,1,2,3];rw [uh zo zo,B5 zo hl hd0,← Ms,← wH zo] at U;exact ⟨j,by omega,by omega,U⟩
 ·obtain rfl:n=0:=(by simp at hb0;omega);rw [EC] at U;refine qL<|ai<|ai<|az<|zt<|zg U6 [] [.v 27 _,.v 4 _] Rj U (zM 2 G (zA 0 G o0)) (zz (Wc 0 4) [zpH 0 138 _] λ a w U=>?_);refine aa<|qh<|il U (zm 0 G) (zm 0 G) ?_;exact am G U (zm 1 G)
theorem wshl {u s:Nat}:IntKind.u32.wrap ((u:Int)*2^((s:Int).toNat))=((u*2^s%4294967296:Nat):Int):=by
 rw [z9,show (u:Int)*2^s=((u*2^s:Nat):Int) from by simp];exact wu32'
theorem GY {u s:Nat}(hu:u<4294967296)(hs:s<32):u*2^s<18446744073709551616:=by
 have h1:2^s≤2^31:=zZ zd zo;have h2:u*2^s≤4294967295*2^31:=xU zo h1;omega
theorem LX {u s:Nat}(hu:u<4294967296)(hs:s<32):IntKind.u64.wrap ((u:Int)*2^((s:Int).toNat))=((u*2^s:Nat):Int):=by
 rw [z9,show (u:Int)*2^s=((u*2^s:Nat):Int) from by simp];exact wu64 (GY hu hs)
theorem At {u s:Nat}(hs:s<32):u*2^s%4294967296=2^s*(u%2^(32-s)):=by
 rw [show (4294967296:Nat)=2^s*2^(32-s) from by rw [← xf,show s+(32-s)=32 from by omega],za u,Nat.mul_mod_mul_left]
theorem Ph {u s c:Nat}(hs:s<32)(hc:c<2^s):u*2^s%4294967296 ||| c=(c+u*2^s)%4294967296:=by
 rw [At hs,← Nat.two_pow_add_eq_or_of_lt hc];have h1:u%2^(32-s)<2^(32-s):=qW _ (zK zd);have h2:2^s*(u%2^(32-s)+1)≤2^s*2^(32-s):=zU _ h1;rw [← xf,show s+(32-s)=32 from by omega,xg,zP] at h2;have h3:=At (u:=u) hs;have h4:=x3 (u*2^s) 4294967296;omega
theorem Ma {u s c:Nat}(hs:s<32)(hc:c<2^s):u*2^s/4294967296=(c+u*2^s)/4294967296:=by
 have h1:u%2^(32-s)<2^(32-s):=qW _ (zK zd);have h2:2^s*(u%2^(32-s)+1)≤2^s*2^(32-s):=zU _ h1;rw [← xf,show s+(32-s)=32 from by omega,xg,zP] at h2;have h3:=At (u:=u) hs;have h4:=x3 (u*2^s) 4294967296;omega
def upSt (l:List Nat)(s i:Nat):List Nat:=digs i (val (l.take i)*2^s)++List.replicate (l.length+1-i) 0
theorem u4 (h:i≤l.length):(upSt l s i).length=l.length+1:=by simp [upSt,ay];omega
theorem Au (l:Ya)(s:Nat):upSt l s 0=List.replicate (l.length+1) 0:=by simp [upSt,digs]
theorem GN (h:i<l.length):val (l.take (i+1))*2^s=val (l.take i)*2^s+4294967296^i*(l[i]*2^s):=by rw [bG h,xW,zb]
theorem Mb (hl:okL l)(s i:Nat):val (l.take i)*2^s/4294967296^i<2^s:=by
 apply xa;exact jc (cT hl i) (zK zd)
theorem Aw (h:i<l.length):(upSt l s i).set i ((val (l.take i)*2^s/4294967296^i+l[i]*2^s)%4294967296)=upSt l s (i+1):=by
 unfold upSt;rw [fH _ _ _ _ (ay _ _),mC _ _ zo,GN h,er];simp only [qP,x5]
 congr 3
theorem Ef (h:i<l.length):(val (l.take i)*2^s/4294967296^i+l[i]*2^s)/4294967296=val (l.take (i+1))*2^s/4294967296^(i+1):=by rw [GN h,carry_step']
theorem Eg (hl:okL l)(hs:s<32):(upSt l s l.length).set l.length (val (l.take l.length)*2^s/4294967296^l.length)=digs (l.length+1) (val l*2^s):=by
 have h:=Mb hl s l.length;have h1:2^s≤2^31:=zZ zd zo;unfold upSt;rw [fH _ _ _ _ (ay _ _),mC _ _ zo,iO,qH] at *;rw [zH zo];simp
theorem up_c (l:Ya)(s:Nat)(hls:l.length≤1099511627776)(hs:s<32):Cr Tryz.prog 257 138 (slH (l.length+1) (l.length+1)) (Nums .u32 (digs (l.length+1) (val l*2^s))) [(MgA l).va,(NumA .u64 (s:Nat)).va]:=by
 refine Cr.introW Tryz.func257 G zk nq (.cons (mo _).va (.cons (lD _ _).va .nil)) (λ _ _ _ _ h=>h) (λ B w0 a hB0 U=>?_);have U:=zn [(0,(MgO l).va),(1,(NumA .u64 (s:Nat)).va)] [] U;have hl:=(U.magO 0 rfl).1;refine qb<|zh WR WS U (zE G aX) (zz WT [] λ a w U=>?_);refine zt<|dz (sts:=[]) (news:=[⟨12,138,slH _ _,some 3,_,none⟩]) (sp:=[.v 9 _,.v 10 _,.v 11 _,.alc 0,.adr 5 12 .none True]) [.g 0,.g 1,.g 2] [(5,12)] [zpH 5 138 _] U (zM 0 G (zv G (aK qd (aC (vq 0 G))) (zv G (aL (vq 1 G) ab (aW zo)) (oc (eF G G G fA (vq 2 G) (vq 2 G) zo) (oc (ob_a G G nB) o0))))) zk zk zk ⟨⟨4,rfl⟩,trivial⟩ G zk (zz WT [zpH 5 138 _] ?_);refine ztA<|zgA U4 [] U5 WZ (zv G (aR (aF 0 G)) o0) (zz (Wf 0 1 4 6) [zpH 5 138 _] ?_);refine ztA<|zsA<|zgA U4 [] (Wb 13) (Wp [.o 0,.o 1,.o 2]) (zM 0 G (zv G (aK qd (aC (vq 0 G))) (zv G (aq ab) o0))) (zz (Wu 0 1 4 6 13 14 15) [zpH 5 138 _] λ a w U=>?_);refine aa<|qk ?_;have U:=U.sel [0,1,3,4,5,6];refine wp_loop_ghost (λ n a w=>∃ i:Nat,n+i=l.length∧St B w0 41 [(0,(MgO l).va),(1,(NumA .u64 (s:Nat)).va),(6,(NumA .u32 (val (l.take i)*2^s/4294967296^i:Nat)).va),(13,(MgO l).va),(14,In (l.length:Nat)),(15,In (i:Nat))] [⟨5,138,slH (l.length+1) (l.length+1),Nums .u32 (upSt l s i)⟩] a w) (l.length) ?_ ?_
 ·exact ⟨0,by omega,by rw [Au,show val (l.take 0)*2^s/4294967296^0=0 from by simp];exact U⟩
 intro n a w hI;obtain ⟨i,hn,U⟩:=hI;have hc:=Mb hl s i;have h31:2^s≤2^31:=zZ zd zo;refine qb<|zg U6 [] [.v 16 _] (Wq [.o 0]) U (zv G (aN (gq 5 G) (gq 4 G)) o0) (zz (Wu 0 1 6 13 14 15 16) [zpH 5 138 _] λ a w U=>?_);refine zt<|cd U (zm 6 G) (λ hb0=>?_) (λ hb0=>?_)
 ·have hi:i<l.length:=by simp at hb0;omega
  refine qj<|zt<|qk<|qb<|zg U6 [] (Wb 17 (W6 7)) (Wq [.o 3,.o 4]) U (zM 5 G (zv G (bO bc (aC (gq 3 G)) (gq 5 G) zo) (zv G (ao (vq 1 G) aO) (zA 0 G (zA 2 G o0))))) (zz (Wy 0 1 6 13 14 15 7 8) [zpH 5 138 _] ?_);refine ztA<|zgA [some (8,_)] [] (.adr 20 5 .none True::(Wl 21 [.adr 27 5 (.some _) True,.sto 0])) (Wq [.g 7]) (oc (ob_a G G cW) (zM 6 G (zM 7 G (zM 1 G (zv G (yn (vq 2 G) (vq 3 G) (⟨by omega,by show (s:Int)≤32;omega⟩) (wshl)) (zM 2 G (zv G (yp (vq 4 G) (vq 5 G) ((OW (qW _ zd) zo).trans (qp _ (Ph hs hc)))) (oc (ob_a G G (eU 0 G zk (lz0 0 G) bc (vq 1 G) zo)) (oc (cK 7 G G G G zk (λ _=>cw _ _ _ _) (vq 6 G) aO (bJ (by rw [u4 zo];omega))) o0))))))))) (zz (Wu 0 1 6 13 14 15 8) [zpH 5 138 _] ?_);refine znA<|zgA U4 [] (Wl 28 [.v 6 _]) (We [.g 3,.g 4,.g 5,.o 6]) (zM 6 G (zv G (aH .u64 zk zk (vq 0 G) (wu64 (zD (hl _ (qg _)) zd))) (zM 1 G (zv G (yn (vq 1 G) (vq 2 G) (⟨by omega,by show (s:Int)≤64;omega⟩) (LX (hl _ (qg _)) hs)) (zv G (l8 (vq 3 G) (aF 32 G) zd (nshr)) (zv G (aH .u32 zk zk (vq 4 G) ((wu32 (xa (GY (hl _ (qg _)) hs))).trans (qp _ (Ma hs hc)))) (zA 5 G o0))))))) (zz (Wj 0 1 13 14 15 6) [zpH 5 138 _] λ a w U=>?_);refine ak ?_;refine aa<|zg U6 [] [.v 34 _,.v 15 _] (Wp [.g 5,.o 1]) U (zv G (aL (gq 4 G) ab (aW zo)) (zV 0 G o0)) (zz (Wj 0 1 13 14 6 15) [zpH 5 138 _] λ a w U=>?_);refine aa ?_;have U:=U.sel [0,1,4,2,3,5];rw [Aw hi,Ef hi] at U;exact ⟨n-1,by omega,i+1,by omega,U⟩
 ·obtain rfl:i=l.length:=by simp at hb0;omega
  refine qL<|ai<|ai<|az<|zt<|zg Uc [] (.adr 35 5 .none True::(Wb 36 [.adr 39 5 (.some _) True,.sto 0])) [] U (oc (ob_a G G cW) (zM 0 G (zv G (aK qd (aC (vq 1 G))) (zM 2 G (oc (ob_a G G (eU 0 G zk (lz0 0 G) bc (vq 2 G) zo)) (oc (cK 4 G G G G zk (λ _=>cw _ _ _ _) (vq 3 G) aO (bJ (by rw [u4 zo];omega))) o0)))))) (zz [] [zpH 5 138 _] λ a w U=>?_);refine zt<|dz (sts:=[none]) (news:=[]) (sp:=[.adr 40 5 .none True,.adr 4 5 .none True]) [] [(4,5)] [zpH 4 138 _] U (oc (ob_a G G cW) (oc (ob_a G G (E6 0 G zk)) o0)) zk zk zk ⟨⟨1,rfl⟩,trivial⟩ G zk (zz [] [zpH 4 138 _] λ a w U=>?_);refine aa<|qh ?_;rw [Eg hl hs] at U;exact ET G U hB0 (zm 0 G)
theorem NJ {Y DD Bm dl d2 top wl u2 u1 u0:Nat}(hY:Y=wl+Bm*(u2+4294967296*(u1+4294967296*u0)))(hD:DD=dl+Bm*(d2+4294967296*top))(hdl:dl<Bm)(hd2:d2<4294967296)(h:Y<DD*4294967296):u0≤top:=by
 rcases Nat.lt_or_ge top u0 with hlt|hge
 ·exfalso;have h1:Bm*(4294967296*(4294967296*(top+1)))≤Bm*(u2+4294967296*(u1+4294967296*u0)):=zU _ zo;have h2:DD+1≤Bm*(4294967296*(top+1)):=by
   have:Bm*(d2+4294967296*top)+Bm≤Bm*(4294967296*(top+1)):=by
    rw [← vt];exact zU _ zo
   omega
  have h3:Bm*(4294967296*(4294967296*(top+1)))=4294967296*(Bm*(4294967296*(top+1))):=by
   rw [← zb,za Bm,zb]
  omega
 ·exact hge
theorem Qr {Y DD Bm dl d2 top wl u2 head:Nat}(hY:Y=wl+Bm*(u2+4294967296*head))(hD:DD=dl+Bm*(d2+4294967296*top))(hwl:wl<Bm):Y/DD*(top*4294967296+d2)≤head*4294967296+u2:=by
 have h1:Y/DD*DD≤Y:=jH _ _;generalize Y/DD=q at *;have h2:Bm*(q*(d2+4294967296*top))≤q*DD:=by
  rw [hD,xg q dl,← zb q Bm,za q Bm,zb];omega
 have h3:Bm*(q*(d2+4294967296*top))<Bm*(u2+4294967296*head+1):=by
  rw [vt];omega
 have h4:=Nat.lt_of_mul_lt_mul_left h3;rw [show top*4294967296+d2=d2+4294967296*top by omega];omega
theorem NM {Y DD Bm dl d2 top wl u2 head g:Nat}(hY:Y=wl+Bm*(u2+4294967296*head))(hD:DD=dl+Bm*(d2+4294967296*top))(hdl:dl<Bm)(ht:0<top)(hg:g<4294967296)(h:g*(top*4294967296+d2)≤head*4294967296+u2):g*DD≤Y+DD:=by
 have h1:Bm*(g*(d2+4294967296*top))≤Bm*(u2+4294967296*head):=zU _ (by rw [show d2+4294967296*top=top*4294967296+d2 by omega];omega);have h2:g*DD≤g*Bm+Bm*(g*(d2+4294967296*top)):=by
  rw [hD,xg g dl,← zb g Bm,za g Bm,zb];have:g*dl≤Bm*g:=by rw [za];exact qJ _ zo
  omega
 have h3:g*Bm≤Bm*(d2+4294967296*top):=by
  rw [za];exact zU _ zo
 omega
theorem NK {Y DD g:Nat}(h0:0<DD)(h1:Y/DD≤g)(h2:g*DD≤Y+DD):g=Y/DD∨g=Y/DD+1:=by
 have h3:Y<(Y/DD+1)*DD:=by rw [za];exact vG Y h0
 have h4:g*DD<(Y/DD+2)*DD:=by rw [show Y/DD+2=(Y/DD+1)+1 from rfl,xG (Y/DD+1)];omega
 have:=k9 h4;omega
def lsB (W D:List Nat)(q:Nat):Nat→Nat
 | 0=>0
 | k+1=>(lsB W D q k+q*D.getD k 0)/4294967296+if W.getD k 0<(lsB W D q k+q*D.getD k 0)%4294967296 then 1 else 0
def lsO (W D:List Nat)(q:Nat):Nat→List Nat
 | 0=>[]
 | k+1=>lsO W D q k++[(W.getD k 0+4294967296-(lsB W D q k+q*D.getD k 0)%4294967296)%4294967296]
theorem fi (W D:Ya)(q k:Nat):(lsO W D q k).length=k:=by
 induction k with
 | zero=>rfl
 | succ k ih=>simp [lsO,ih]
theorem NB (W D:Ya)(q k:Nat):okL (lsO W D q k):=by
 induction k with
 | zero=>exact cU
 | succ k ih=>exact okL_append.2 ⟨ih,okL_cons.2 ⟨qW _ zo,cU⟩⟩
theorem mQ (h:okL l)(k:Nat):l.getD k 0<4294967296:=by
 by_cases hk:k<l.length
 ·simp only [List.getD_eq_getElem?_getD,List.getElem?_eq_getElem hk,xx];exact h _ (qg hk)
 ·simp [List.getD_eq_getElem?_getD,List.getElem?_eq_none (by omega:l.length≤k)]
theorem Cl {W D:Ya}{q:Nat}(hD:okL D)(k:Nat):lsB W D q k≤q:=by
 induction k with
 | zero=>exact zx _
 | succ k ih =>
  unfold lsB;have h1:=mQ hD k;generalize D.getD k 0=v at *;generalize lsB W D q k=b at *;generalize W.getD k 0=u at *;have h2:q*v≤q*4294967295:=zU _ zo;generalize q*v=p at *;split <;> omega
theorem Nz {W D:Ya}{q k:Nat}(hW:okL W)(hkW:k≤W.length)(hkD:k≤D.length):val (lsO W D q k)+q*val (D.take k)=val (W.take k)+4294967296^k*lsB W D q k:=by
 induction k with
 | zero=>simp [lsO,lsB]
 | succ k ih =>
  have ih:=ih zo zo;have h1:=mQ hW k;rw [lsO,lT,fi,bG (by omega:k<D.length),bG (by omega:k<W.length),lsB,xg,zi];have e1:D[k]'zo=D.getD k 0:=by simp [List.getD_eq_getElem?_getD,List.getElem?_eq_getElem (by omega:k<D.length)]
  have e2:W[k]'zo=W.getD k 0:=by simp [List.getD_eq_getElem?_getD,List.getElem?_eq_getElem (by omega:k<W.length)]
  rw [e1,e2];generalize hv:D.getD k 0=v at *;generalize lsB W D q k=b at *;generalize W.getD k 0=u at *;have e3:q*(4294967296^k*v)=4294967296^k*(q*v):=by rw [← zb,za q,zb]
  rw [e3];generalize q*v=p at *;generalize 4294967296^k=E at *;have e4:E*((u+4294967296-(b+p)%4294967296)%4294967296)+E*p+E*b=E*u+E*4294967296*((b+p)/4294967296+if u<(b+p)%4294967296 then 1 else 0):=by
   rw [← xg,← xg,zb,← xg]
   congr 1
   split <;> omega
  omega
theorem Hu {W D:Ya}{q m:Nat}(hW:okL W)(hD:okL D)(hm:D.length=m)(hlW:W.length=m+1)(hq:q<4294967296) :
  decide (W.getD m 0<lsB W D q m)=decide (val W<q*val D) ∧
  lsO W D q m++[(W.getD m 0+4294967296-lsB W D q m)%4294967296]=digs (m+1) (val W+(if val W<q*val D then 4294967296^(m+1) else 0)-q*val D):=by
 have h1:=Nz (q:=q) hW (by omega:m≤W.length) (by omega:m≤D.length);have h2:=Cl (W:=W) (q:=q) hD m;have h3:=mQ hW m;have h4:val W=val (W.take m)+4294967296^m*W.getD m 0:=by
  have:=bG (l:=W) (i:=m) zo;rw [qF zo] at this;rw [this];simp [List.getD_eq_getElem?_getD,List.getElem?_eq_getElem (by omega:m<W.length)]
 have h5:D.take m=D:=qF zo;rw [h5] at h1;have ho:okL (lsO W D q m++[(W.getD m 0+4294967296-lsB W D q m)%4294967296]):=okL_append.2 ⟨NB _ _ _ _,okL_cons.2 ⟨qW _ zo,cU⟩⟩;have hv:=lT (lsO W D q m) ((W.getD m 0+4294967296-lsB W D q m)%4294967296);have hlt:=fF ho;simp only [qu,fi,zf,xo,qV] at hlt hv;have hlen:(lsO W D q m++[(W.getD m 0+4294967296-lsB W D q m)%4294967296]).length=m+1:=by simp [fi]
 generalize lsO W D q m=o at *;generalize lsB W D q m=b at *;generalize W.getD m 0=u at *;generalize hS:q*val D=S at *;rw [zi] at *;have key:val (o++[(u+4294967296-b)%4294967296])+S=val W+if u<b then 4294967296^m*4294967296 else 0:=by
  rw [hv,h4];have:4294967296^m*((u+4294967296-b)%4294967296)+4294967296^m*b=4294967296^m*u+if u<b then 4294967296^m*4294967296 else 0:=by
   rw [← xg];split
   ·rw [← xg];congr 1;omega
   ·rw [jx];congr 1;omega
  omega
 have hc:(u<b)↔(val W<S):=by
  constructor
  ·intro h;rw [qC h] at key;omega
  ·intro h;apply Decidable.byContradiction;intro hn;rw [qz hn] at key;omega
 refine ⟨by rw [qU];exact hc,mZ ho hlen ?_⟩;by_cases h:u<b
 ·rw [qC h] at key;rw [qC (hc.1 h)];omega
 ·rw [qz h] at key;rw [qz (λ hh=>h (hc.2 hh))];omega
def spl (l:List Nat)(o:Nat)(c:List Nat):List Nat:=l.take o++c++l.drop (o+c.length)
theorem sK (l:Ya)(o:Nat):spl l o []=l:=by simp [spl]
theorem l6 {o:Nat}{c:Ya}(h:o+c.length≤l.length):(spl l o c).length=l.length:=by simp [spl];omega
theorem mv {o k x:Nat}{c:Ya}(hk:c.length=k)(h:o+k<l.length):(spl l o c).set (o+k) x=spl l o (c++[x]):=by
 subst hk;unfold spl;rw [qP,x6 _ _ (by simp;omega),ze,xl zo,j4,x6 _ _ (qi _),xX,
  qK h,vV]
 simp [qP,jn]
theorem mw {o j:Nat}{c:Ya}(h:o+c.length≤j)(hj:j<l.length):(spl l o c)[j]?=some (l.getD j 0):=by
 unfold spl;rw [List.getElem?_append_right (by simp;omega),List.getElem?_drop];simp only [qu,ze];rw [xl zo,show o+c.length+(j-(o+c.length))=j by omega,List.getElem?_eq_getElem hj];simp [List.getD_eq_getElem?_getD,List.getElem?_eq_getElem hj]
theorem IP {o:Nat}{c c':Ya}(h:c.length=c'.length)(ho:o+c.length≤l.length):spl (spl l o c) o c'=spl l o c':=by
 unfold spl;rw [← h,xq (by simp;omega),xq (by simp;omega),jd,Nat.min_self,jF (by simp;omega),zG (by simp;omega)];simp
theorem IN {o:Nat}{c:Ya}(h:o+c.length≤l.length):((spl l o c).drop o).take c.length=c:=by
 unfold spl;rw [qP,jF (by simp;omega),zG (by simp;omega),jG,xq (qi _),qH]
theorem lS {o n k:Nat}(h:k<n):((l.drop o).take n).getD k 0=l.getD (o+k) 0:=by
 simp [List.getD_eq_getElem?_getD,List.getElem?_take_of_lt h]
theorem getD_some (h:k<l.length):l[k]?=some (l.getD k 0):=by
 simp [List.getD_eq_getElem?_getD,List.getElem?_eq_getElem h]
theorem rl (h:k<m):(l.take m).getD k 0=l.getD k 0:=by
 simp [List.getD_eq_getElem?_getD,List.getElem?_take_of_lt h]
theorem oV (h:okL l)(n:Nat):okL (l.take n):=λ x hx=>h x (xj hx)
theorem Fj (h:okL l)(n:Nat):okL (l.drop n):=λ x hx=>h x (vC hx)
theorem mi (a b m:Nat):digs (a+b) m=digs a m++digs b (m/4294967296^a):=by
 induction a generalizing m with
 | zero=>simp [digs]
 | succ a ih=>rw [show a+1+b=a+b+1 by omega,digs,digs,ih,zF,zi,za (4294967296^a)];rfl
theorem nb {a n m:Nat}(h:a≤n):(digs n m).take a=digs a m:=by
 obtain ⟨b,rfl⟩:∃ b,n=a+b:=⟨n-a,by omega⟩;rw [mi,xq (by rw [ay];omega),qF (by rw [ay];omega)]
theorem si {a n m:Nat}(h:a≤n):(digs n m).drop a=digs (n-a) (m/4294967296^a):=by
 obtain ⟨b,rfl⟩:∃ b,n=a+b:=⟨n-a,by omega⟩;rw [mi,jF (by rw [ay];omega),zG (by rw [ay];omega),show a+b-a=b by omega];rfl
theorem nc (h:k<n):(digs n m).getD k 0=m/4294967296^k%4294967296:=by
 induction n generalizing m k with
 | zero=>omega
 | succ n ih =>
  cases k with
  | zero=>simp [digs]
  | succ k=>rw [digs,List.getD_cons_succ,ih zo,zF,zi,za (4294967296^k)]
theorem Gh {n V i k Y:Nat}(hi:i+k≤n)(hV:V<4294967296^(i+k))(hY:Y<4294967296^k):spl (digs n V) i (digs k Y)=digs n (V%4294967296^i+4294967296^i*Y):=by
 obtain ⟨r,rfl⟩:∃ r,n=i+k+r:=⟨n-(i+k),by omega⟩;have hp:0<4294967296^i:=zK zo;unfold spl;rw [ay,nb zo,si zo,mi (i+k),mi i];have e1:(V%4294967296^i+4294967296^i*Y)/4294967296^i=Y:=by
  rw [kh _ _ hp,xK (qW _ hp),qV]
 have e2:(V%4294967296^i+4294967296^i*Y)/4294967296^(i+k)=V/4294967296^(i+k):=by
  rw [xf,← zF,e1,xK hY,← xf,xK hV]
 rw [e1,e2,show i+k+r-(i+k)=r by omega]
 congr 2
 exact gx (by rw [jV,Nat.mod_mod])
def bl (n:Nat):Nat:=if n=0 then 0 else n.log2+1
theorem LE (h:n≠0):bl n=bl (n/2)+1:=by
 unfold bl;rw [qz h,Nat.log2_def];by_cases h2:2≤n
 ·rw [qC h2,qz zo]
 ·rw [qz h2,qC zo]
theorem DX (n k:Nat)(h:2^k≤n):bl n=bl (n/2^k)+k:=by
 induction k with
 | zero=>simp
 | succ k ih =>
  rw [zi] at h;have hp:0<2^k:=zK zo;rw [ih zo,zi,← zF,LE (n:=n/2^k)]
  ·omega
  ·have:0<n/2^k:=Nat.div_pos zo hp;omega
theorem OZ (n:Nat):n<2^bl n:=by
 unfold bl;split
 ·omega
 ·exact Nat.lt_log2_self
theorem P0 (h:n≠0):2^(bl n-1)≤n:=by
 unfold bl;rw [qz h,js];exact Nat.log2_self_le h
theorem fB (h:n<2^k):bl n≤k:=by
 by_cases h0:n=0
 ·subst h0;simp [bl]
 ·have h1:=P0 h0;apply Decidable.byContradiction;intro hc;have:2^k≤2^(bl n-1):=zZ zo zo;omega
theorem OY (h:n≠0):0<bl n:=by unfold bl;rw [qz h];omega
theorem DW (h:n≠0)(h2:n<4294967296):2147483648≤n*2^(32-bl n)∧n*2^(32-bl n)<4294967296∧32-bl n<32:=by
 have h1:=P0 h;have h3:=OZ n;have h4:=OY h;have h5:bl n≤32:=fB (k:=32) zo;refine ⟨?_,?_,by omega⟩
 ·have:2^(bl n-1)*2^(32-bl n)≤n*2^(32-bl n):=qJ _ h1;rw [← xf,show bl n-1+(32-bl n)=31 by omega] at this;omega
 ·have:n*2^(32-bl n)<2^bl n*2^(32-bl n):=jc h3 (zK zo);rw [← xf,show bl n+(32-bl n)=32 by omega] at this;omega
theorem dv_Y (X DD i:Nat)(h:0<DD):X%(DD*4294967296^(i+1))/4294967296^i<DD*4294967296:=by
 apply xa;have h1:X%(DD*4294967296^(i+1))<DD*4294967296^(i+1):=qW _ (jD h (zK zo));rw [zi,← zb,jP,za] at h1;rw [zi,← zb,jP,za (DD*4294967296)];exact h1
theorem dv_q (X DD i:Nat):X%(DD*4294967296^(i+1))/4294967296^i/DD=X/(DD*4294967296^i)%4294967296:=by
 rw [zF,za _ DD,zi,← zb,Nat.mod_mul_right_div_self]
theorem dv_r (X DD i:Nat):X%(DD*4294967296^(i+1))%4294967296^i+4294967296^i*(X%(DD*4294967296^(i+1))/4294967296^i%DD)=X%(DD*4294967296^i):=by
 rw [← Nat.mod_mul,za _ DD,zi,← zb,Nat.mod_mul_right_mod]
theorem dec2 {D k:Nat}(h:D<4294967296^(k+2)):D=D%4294967296^k+4294967296^k*(D/4294967296^k%4294967296+4294967296*(D/4294967296^(k+1)%4294967296)):=by
 have h1:D/4294967296^(k+1)<4294967296:=xa h;rw [zH h1,zi,← zF,jo,jo]
theorem dec3 {Y k:Nat}(h:Y<4294967296^(k+3)):Y=Y%4294967296^k+4294967296^k*(Y/4294967296^k%4294967296+4294967296*(Y/4294967296^(k+1)%4294967296+4294967296*(Y/4294967296^(k+2)%4294967296))):=by
 have h1:Y/4294967296^(k+2)<4294967296:=xa h;rw [zH h1,zi _ (k+1),← zF Y (4294967296^(k+1)),jo (Y/4294967296^(k+1)),zi _ k,← zF,jo,jo]
structure Dv (n k i V DD:Nat):Prop where
 hn:i+(k+3)≤n
 d1:4294967296^(k+1)*2147483648≤DD
 d2:DD<4294967296^(k+2)
 y:V/4294967296^i<DD*4294967296
section
variable {n k i V DD:Nat}(h:Dv n k i V DD)
include h
theorem Dv.pos:0<DD:=qD (jD (zK zo) zo) h.d1
theorem Dv.y3:V/4294967296^i<4294967296^(k+3):=by
 have h1:=h.y;have h2:=qJ 4294967296 (xb h.d2);have h3:4294967296^(k+3)=4294967296^(k+2)*4294967296:=zi _ (k+2);rw [h3];exact qD h1 h2
theorem Dv.v3:V<4294967296^(i+(k+3)):=by
 have h1:=h.y3;rw [kg (zK zo),za,← xf] at h1;exact h1
theorem Dv.u (j:Nat)(hj:j<k+3):(digs n V).getD (i+j) 0=V/4294967296^i/4294967296^j%4294967296:=by
 rw [nc (by have:=h.hn;omega),xf,zF]
theorem Dv.win:((digs n V).drop i).take (k+3)=digs (k+3) (V/4294967296^i):=by
 rw [si (by have:=h.hn;omega),nb (by have:=h.hn;omega)]
theorem Dv.winv:val (((digs n V).drop i).take (k+3))=V/4294967296^i:=by rw [h.win,dU,zH h.y3]
theorem Dv.dd:val ((digs (k+3) DD).take (k+2))=DD:=by rw [nb zo,dU,zH h.d2]
theorem Dv.top:2147483648≤DD/4294967296^(k+1)%4294967296:=by
 have h1:DD/4294967296^(k+1)<4294967296:=xa h.d2;rw [zH h1];rw [kc (zK zo),za];exact h.d1
end
structure Gs (k Y DD g r:Nat):Prop where
 eq:g*(DD/4294967296^(k+1)%4294967296)+r=Y/4294967296^(k+2)%4294967296*4294967296+Y/4294967296^(k+1)%4294967296
 ge:Y/DD≤g
 r:r<4294967296
theorem Gs.next {k Y DD g r:Nat}(hg:Gs k Y DD g r)(hlt:Y/DD<g)(hr:r+DD/4294967296^(k+1)%4294967296<4294967296):Gs k Y DD (g-1) (r+DD/4294967296^(k+1)%4294967296):=by
 refine ⟨?_,Nat.le_sub_one_of_lt hlt,hr⟩;have h1:=hg.eq;obtain ⟨g',rfl⟩:∃ g',g=g'+1:=⟨g-1,(jO (qY (zx _) hlt)).symm⟩;rw [js];rw [xG] at h1;omega
section
variable {n k i V DD:Nat}(h:Dv n k i V DD)
include h
theorem Dv.lo:V/4294967296^i/DD*(DD/4294967296^(k+1)%4294967296*4294967296+DD/4294967296^k%4294967296) ≤
  (V/4294967296^i/4294967296^(k+2)%4294967296*4294967296+V/4294967296^i/4294967296^(k+1)%4294967296)*4294967296+V/4294967296^i/4294967296^k%4294967296:=by
 have e1:=dec3 h.y3;have e2:=dec2 h.d2;refine Qr (wl:=V/4294967296^i%4294967296^k) (dl:=DD%4294967296^k) (Bm:=4294967296^k) ?_ e2 (qW _ (zK zo));refine e1.trans ?_
 congr 3
 omega
theorem Dv.u0:V/4294967296^i/4294967296^(k+2)%4294967296≤DD/4294967296^(k+1)%4294967296 :=
 NJ (dec3 h.y3) (dec2 h.d2) (qW _ (zK zo)) (qW _ zo) h.y
theorem Dv.gs0 {head top:Nat}(hh:head=V/4294967296^i/4294967296^(k+2)%4294967296*4294967296+V/4294967296^i/4294967296^(k+1)%4294967296)(ht:top=DD/4294967296^(k+1)%4294967296) :
  Gs k (V/4294967296^i) DD (head/top) (head%top):=by
 have htop:=h.top;have hlo:=h.lo;have e:=Nat.div_add_mod' head top;have h3:head%top<top:=qW _ zo;subst hh ht;refine ⟨e,?_,by omega⟩;rw [kc zo];generalize V/4294967296^i/DD=q at *;generalize DD/4294967296^(k+1)%4294967296=t at *;rw [xg,← zb] at hlo;have:V/4294967296^i/4294967296^k%4294967296<4294967296:=qW _ zo;generalize q*t=p at *;omega
variable {g r:Nat}(hg:Gs k (V/4294967296^i) DD g r)
include hg
theorem Dv.gmax:g≤4294967297:=by
 have h1:=hg.eq;have h2:=h.u0;have h3:=h.top;have h4:V/4294967296^i/4294967296^(k+1)%4294967296<4294967296:=qW _ zo;generalize DD/4294967296^(k+1)%4294967296=t at *;apply Decidable.byContradiction;intro hc;have:4294967298*t≤g*t:=qJ _ zo;omega
theorem Dv.down (hb:4294967296≤g∨r*4294967296+V/4294967296^i/4294967296^k%4294967296<g*(DD/4294967296^k%4294967296)):V/4294967296^i/DD<g:=by
 rcases hb with hb|hb
 ·have:V/4294967296^i/DD<4294967296:=xa h.y;omega
 ·have hlo:=h.lo;have h1:=hg.eq;generalize V/4294967296^i/DD=q at *;generalize DD/4294967296^(k+1)%4294967296=t at *;generalize DD/4294967296^k%4294967296=d at *;have:q*(t*4294967296+d)<g*(t*4294967296+d):=by
   rw [xg g,← zb];generalize g*t=p at *;generalize g*d=s at *;omega
  exact k9 this
theorem Dv.end1 (hb:g<4294967296)(hr:g*(DD/4294967296^k%4294967296)≤r*4294967296+V/4294967296^i/4294967296^k%4294967296):g=V/4294967296^i/DD∨g=V/4294967296^i/DD+1:=by
 refine NK h.pos hg.ge ?_;have h1:=hg.eq;refine NM (wl:=V/4294967296^i%4294967296^k) (dl:=DD%4294967296^k) (Bm:=4294967296^k) (head:=V/4294967296^i/4294967296^(k+2)%4294967296*4294967296+V/4294967296^i/4294967296^(k+1)%4294967296) (u2:=V/4294967296^i/4294967296^k%4294967296) ?_ (dec2 h.d2) (qW _ (zK zo)) (by have:=h.top;omega) hb ?_
 ·refine (dec3 h.y3).trans ?_
  congr 3
  omega
 ·rw [xg,← zb];generalize g*(DD/4294967296^(k+1)%4294967296)=p at *;omega
theorem Dv.end2 (hlt:V/4294967296^i/DD<g)(hr:4294967296≤r+DD/4294967296^(k+1)%4294967296):g-1<4294967296∧(g-1=V/4294967296^i/DD∨g-1=V/4294967296^i/DD+1):=by
 have h1:=hg.eq;have h2:=h.u0;have h3:=h.top;have h4:V/4294967296^i/4294967296^(k+1)%4294967296<4294967296:=qW _ zo;obtain ⟨g',rfl⟩:∃ g',g=g'+1:=⟨g-1,(jO (qY (zx _) hlt)).symm⟩;rw [js];have hd:DD/4294967296^k%4294967296<4294967296:=qW _ zo;have hg':g'<4294967296:=by
  apply Decidable.byContradiction;intro hc;generalize DD/4294967296^(k+1)%4294967296=t at *;have:4294967296*t≤g'*t:=qJ _ zo;rw [xG] at h1;omega
 refine ⟨hg',NK h.pos (Nat.le_of_lt_succ hlt) ?_⟩;refine NM (wl:=V/4294967296^i%4294967296^k) (dl:=DD%4294967296^k) (Bm:=4294967296^k) (head:=V/4294967296^i/4294967296^(k+2)%4294967296*4294967296+V/4294967296^i/4294967296^(k+1)%4294967296) (u2:=V/4294967296^i/4294967296^k%4294967296) ?_ (dec2 h.d2) (qW _ (zK zo)) zo hg' ?_
 ·refine (dec3 h.y3).trans ?_
  congr 3
  omega
 ·rw [xg,← zb];rw [xG] at h1;have:g'*(DD/4294967296^k%4294967296)≤4294967295*4294967295:=xU zo zo;generalize g'*(DD/4294967296^(k+1)%4294967296)=p at *;omega
end
def dvL (n X DD i:Nat):List Nat:=digs n (X%(DD*4294967296^i))
def dvQ (lq X DD i:Nat):List Nat:=List.replicate i 0++digs (lq-i) (X/(DD*4294967296^i))
theorem Do {lq X DD i:Nat}(h:i≤lq):(dvQ lq X DD i).length=lq:=by simp [dvQ,ay];omega
theorem wF {lq X DD i:Nat}(h:i<lq):(dvQ lq X DD (i+1)).set i (X/(DD*4294967296^i)%4294967296)=dvQ lq X DD i:=by
 unfold dvQ;rw [je,qP,x6 _ _ (by simp),zc,xX,show lq-i=(lq-(i+1))+1 by omega,digs,zF,zb,← zi]
 rfl
theorem Ld {lq X DD:Nat}:dvQ lq X DD lq=List.replicate lq 0:=by simp [dvQ,digs]
theorem Lg {n lq X DD:Nat}(h:X<DD*4294967296^lq):dvL n X DD lq=digs n X:=by rw [dvL,zH h]
theorem Cd (Y D:Nat):Y%D=Y-Y/D*D:=by
 have:=jo Y D;rw [za (Y/D)];omega
theorem Qm {Y D:Nat}(h:0<D):Y<(Y/D+1)*D:=by rw [za];exact vG Y h
theorem QM {n k i X DD:Nat}(hn:i+(k+3)≤n)(d1:4294967296^(k+1)*2147483648≤DD)(d2:DD<4294967296^(k+2)):Dv n k i (X%(DD*4294967296^(i+1))) DD :=
 ⟨hn,d1,d2,dv_Y X DD i (qD (jD (zK zo) zo) d1)⟩
section
variable {n k i X DD:Nat}(h:Dv n k i (X%(DD*4294967296^(i+1))) DD)
include h
theorem Dv.fin1 {Z:Nat}(hZ:digs (k+3) Z=digs (k+3) (X%(DD*4294967296^(i+1))/4294967296^i%DD)):spl (dvL n X DD (i+1)) i (digs (k+3) Z)=dvL n X DD i:=by
 rw [hZ,dvL,dvL,Gh h.hn h.v3 (zD (qW _ h.pos) (zD h.d2 (Nat.pow_lt_pow_right zo zo))),dv_r]
omit h in
theorem Dv.no:¬ (X%(DD*4294967296^(i+1))/4294967296^i<X%(DD*4294967296^(i+1))/4294967296^i/DD*DD):=by
 have:=jH (X%(DD*4294967296^(i+1))/4294967296^i) DD;omega
theorem Dv.yes:X%(DD*4294967296^(i+1))/4294967296^i<(X%(DD*4294967296^(i+1))/4294967296^i/DD+1)*DD:=by
 exact Qm h.pos
theorem Dv.ls :(val (((dvL n X DD (i+1)).drop i).take (k+3))<g*val ((digs (k+3) DD).take (k+2)))↔X%(DD*4294967296^(i+1))/4294967296^i<g*DD:=by
 rw [dvL,h.winv,h.dd]
theorem Dv.end_no (hg:g=X%(DD*4294967296^(i+1))/4294967296^i/DD):
  spl (dvL n X DD (i+1)) i (digs (k+3) (val (((dvL n X DD (i+1)).drop i).take (k+3))+(if val (((dvL n X DD (i+1)).drop i).take (k+3))<g*val ((digs (k+3) DD).take (k+2)) then 4294967296^(k+3) else 0)-g*val ((digs (k+3) DD).take (k+2))))=dvL n X DD i:=by
 apply h.fin1;rw [qz (by rw [h.ls,hg];exact Dv.no),h.dd];rw [dvL,h.winv,hg];rw [Cd _ DD];simp only [jx]
theorem Dv.end_yes (hg:g=X%(DD*4294967296^(i+1))/4294967296^i/DD+1){M W:Ya}
  (hM:M=spl (dvL n X DD (i+1)) i (digs (k+3) (val (((dvL n X DD (i+1)).drop i).take (k+3))+(if val (((dvL n X DD (i+1)).drop i).take (k+3))<g*val ((digs (k+3) DD).take (k+2)) then 4294967296^(k+3) else 0)-g*val ((digs (k+3) DD).take (k+2)))))
  (hW:W=(M.drop i).take (k+3)):M.length=n∧W.length=k+3∧okL W ∧
  spl M i (digs (k+2) (bH W ((digs (k+3) DD).take (k+2)) (k+2))++[(W.getD (k+2) 0+bH W ((digs (k+3) DD).take (k+2)) (k+2)/4294967296^(k+2))%4294967296])=dvL n X DD i:=by
 have hlen:(dvL n X DD (i+1)).length=n:=ay _ _;have hMl:M.length=n:=by rw [hM,l6 (by rw [ay,hlen];exact h.hn),hlen]
 have hWl:W.length=k+3:=by rw [hW];have:=h.hn;simp;omega
 have hy:=h.yes;have hWd:W=digs (k+3) (X%(DD*4294967296^(i+1))/4294967296^i+4294967296^(k+3)-g*DD):=by
  have:=IN (l:=dvL n X DD (i+1)) (o:=i) (c:=digs (k+3) (val (((dvL n X DD (i+1)).drop i).take (k+3))+(if val (((dvL n X DD (i+1)).drop i).take (k+3))<g*val ((digs (k+3) DD).take (k+2)) then 4294967296^(k+3) else 0)-g*val ((digs (k+3) DD).take (k+2)))) (by rw [ay,hlen];exact h.hn)
  rw [← hM,ay,← hW] at this;rw [this,qC (by rw [h.ls,hg];exact hy),h.dd];rw [dvL,h.winv]
 have hok:okL W:=by rw [hWd];exact bY _ _
 refine ⟨hMl,hWl,hok,?_⟩;have hDl:((digs (k+3) DD).take (k+2)).length=k+2:=by simp [ay]
 have e1:bH W ((digs (k+3) DD).take (k+2)) (k+2)+4294967296^(k+2)*W.getD (k+2) 0=val W+DD:=by
  unfold bH;rw [qF (l:=(digs (k+3) DD).take (k+2)) zo,h.dd];have:=bG (l:=W) (i:=k+2) zo;rw [qF zo] at this;rw [this,show W.getD (k+2) 0=W[k+2]'zo from by simp [List.getD_eq_getElem?_getD,List.getElem?_eq_getElem (by omega:k+2<W.length)]];omega
 have e2:digs (k+2) (bH W ((digs (k+3) DD).take (k+2)) (k+2))++[(W.getD (k+2) 0+bH W ((digs (k+3) DD).take (k+2)) (k+2)/4294967296^(k+2))%4294967296]=digs (k+3) (val W+DD):=by
  rw [← e1,er,xp (W.getD (k+2) 0)]
 have hlt:X%(DD*4294967296^(i+1))/4294967296^i/DD*DD≤X%(DD*4294967296^(i+1))/4294967296^i:=jH _ _;have hd:=h.d2;have hp:4294967296^(k+2)≤4294967296^(k+3):=zZ zo zo;rw [e2,hM,IP (by simp [ay]) (by rw [ay,hlen];exact h.hn)];apply h.fin1;rw [hWd,dU];apply gx;rw [hg,xG] at *;have hm:X%(DD*4294967296^(i+1))/4294967296^i%DD=X%(DD*4294967296^(i+1))/4294967296^i-X%(DD*4294967296^(i+1))/4294967296^i/DD*DD:=Cd _ _;rw [hm];have hz:=h.y3;generalize X%(DD*4294967296^(i+1))/4294967296^i/DD*DD=p at *;generalize X%(DD*4294967296^(i+1))/4294967296^i=Y at *;generalize 4294967296^(k+3)=E at *;rw [zH (show Y+E-(p+DD)<E by omega),show Y+E-(p+DD)+DD=(Y-p)+E by omega,v4]
end
theorem J1 {R s j:Nat}(hs:s<32):(R/4294967296^(j+1)%4294967296*4294967296+R/4294967296^j%4294967296)/2^s%4294967296=R/2^s/4294967296^j%4294967296:=by
 rw [zF R (2^s),za (2^s),← zF,zi,← zF];generalize R/4294967296^j=T;have e1:T=(T/4294967296%4294967296*4294967296+T%4294967296)+2^s*(4294967296*(2^(32-s)*(T/4294967296/4294967296))):=by
  have:2^s*(4294967296*(2^(32-s)*(T/4294967296/4294967296)))=4294967296*(4294967296*(T/4294967296/4294967296)):=by
   rw [vZ (2^s),← zb (2^s),← xf,show s+(32-s)=32 by omega]
  rw [this];omega
 have e2:T/2^s=(T/4294967296%4294967296*4294967296+T%4294967296)/2^s+4294967296*(2^(32-s)*(T/4294967296/4294967296)):=by
  have h1:=qp (· / 2^s) e1;rw [kh _ _ (zK zo)] at h1;exact h1
 rw [e2,jV]
def dvF (n R s j:Nat):List Nat:=spl (digs n R) 0 (digs j (R/2^s))
theorem Gb (n R s:Nat):dvF n R s 0=digs n R:=sK _ _
theorem Lh {n R s j:Nat}(h:j≤n):(dvF n R s j).length=n:=by rw [dvF,l6 (by rw [ay,ay];omega),ay]
theorem Dp {n R s j i:Nat}(h:j≤i)(hi:i<n):(dvF n R s j)[i]?=some (R/4294967296^i%4294967296):=by
 rw [dvF,mw (by rw [ay];omega) (by rw [ay];omega),nc hi]
theorem Gc {n R s j:Nat}(hs:s<32)(h:j<n):(dvF n R s j).set j ((R/4294967296^(j+1)%4294967296*4294967296+R/4294967296^j%4294967296)/2^s%4294967296)=dvF n R s (j+1):=by
 rw [J1 hs,dvF,dvF,iO];have:=mv (l:=digs n R) (o:=0) (k:=j) (x:=R/2^s/4294967296^j%4294967296) (ay j (R/2^s)) (by rw [ay];omega);rw [qV] at this;exact this
theorem Li {n R s m:Nat}:dvF n R s m=digs m (R/2^s)++(digs n R).drop m:=by
 rw [dvF,spl,ay];simp
theorem Lb {d:Ya}(hd:okL d)(hl:d.length=k+2)(h0:d.getD (k+1) 0≠0):
  4294967296^(k+1)*2147483648≤val d*2^(32-bl (d.getD (k+1) 0))∧val d*2^(32-bl (d.getD (k+1) 0))<4294967296^(k+2):=by
 have h1:=bG (l:=d) (i:=k+1) zo;rw [qF zo] at h1;have h2:d[k+1]'zo=d.getD (k+1) 0:=by simp [List.getD_eq_getElem?_getD,List.getElem?_eq_getElem (by omega:k+1<d.length)]
 rw [h2] at h1;have h3:=cT hd (k+1);have h4:=DW h0 (mQ hd (k+1));have h5:=OZ (d.getD (k+1) 0);have h6:=fB (k:=32) (mQ hd (k+1));generalize d.getD (k+1) 0=t at *;generalize val (d.take (k+1))=v at *;constructor
 ·refine qf (zU _ h4.1) ?_;rw [← zb];exact qJ _ zo
 ·have e:val d<4294967296^(k+1)*2^bl t:=by
   rw [h1];have:4294967296^(k+1)*(t+1)≤4294967296^(k+1)*2^bl t:=zU _ h5;rw [vt] at this;omega
  have h7:=jc e (show 0<2^(32-bl t) from zK zo);rw [zb,← xf,show bl t+(32-bl t)=32 by omega] at h7;exact h7
theorem Ga {a:Ya}{DD k s la:Nat}(ha:okL a)(hla:a.length=la)(hk:k+2≤la)(hs:s<32)(d1:4294967296^(k+1)*2147483648≤DD):val a*2^s<DD*4294967296^(la+1-(k+2)):=by
 have h1:=fF ha;rw [hla] at h1;have h2:2^s≤2^31:=zZ zo zo;have h3:val a*2^s≤val a*2147483648:=zU _ h2;have h4:val a*2147483648<4294967296^la*2147483648:=jc h1 zo;have h5:4294967296^(k+1)*2147483648*4294967296^(la+1-(k+2))≤DD*4294967296^(la+1-(k+2)):=qJ _ d1;rw [jP,← xf,show k+1+(la+1-(k+2))=la by omega] at h5;omega
theorem DB (h:j<n):(digs n m)[0+j]?=some (m/4294967296^j%4294967296):=by
 rw [qV,getD_some (by rw [ay];omega),nc h]
theorem Dv.at_ {n k i X DD:Nat}(h:Dv n k i (X%(DD*4294967296^(i+1))) DD)(j:Nat)(hj:j<k+3):(dvL n X DD (i+1))[i+j]?=some (X%(DD*4294967296^(i+1))/4294967296^i/4294967296^j%4294967296):=by
 have:=h.hn;rw [dvL,getD_some (by rw [ay];omega),h.u j hj]
theorem Dv.yes_ex {n k i X DD:Nat}(h:Dv n k i (X%(DD*4294967296^(i+1))) DD)(hg:g=X%(DD*4294967296^(i+1))/4294967296^i/DD+1):
  ∃ M,spl (dvL n X DD (i+1)) i (digs (k+3) (val (((dvL n X DD (i+1)).drop i).take (k+3))+(if val (((dvL n X DD (i+1)).drop i).take (k+3))<g*val ((digs (k+3) DD).take (k+2)) then 4294967296^(k+3) else 0)-g*val ((digs (k+3) DD).take (k+2))))=M ∧
   M.length=n∧((M.drop i).take (k+3)).length=k+3∧okL ((M.drop i).take (k+3)) ∧
   spl M i (digs (k+2) (bH ((M.drop i).take (k+3)) ((digs (k+3) DD).take (k+2)) (k+2))++[(((M.drop i).take (k+3)).getD (k+2) 0+bH ((M.drop i).take (k+3)) ((digs (k+3) DD).take (k+2)) (k+2)/4294967296^(k+2))%4294967296])=dvL n X DD i :=
 ⟨_,rfl,h.end_yes hg rfl rfl⟩
theorem Lf {lq X DD:Nat}:dvQ lq X DD 0=digs lq (X/DD):=by simp [dvQ]
theorem LN {W D:Ya}(hW:j<W.length):digs j (bH W D j)++[(W.getD j 0+D.getD j 0+bH W D j/4294967296^j)%4294967296]=digs (j+1) (bH W D (j+1)):=by
 rw [g9 hW,er,show W[j]=W.getD j 0 from by simp [List.getD_eq_getElem?_getD,List.getElem?_eq_getElem hW],xp (bH W D j/_)]
theorem GG {W D:Ya}(hW:j<W.length):(W.getD j 0+D.getD j 0+bH W D j/4294967296^j)/4294967296=bH W D (j+1)/4294967296^(j+1):=by
 rw [g9 hW,carry_step',show W[j]=W.getD j 0 from by simp [List.getD_eq_getElem?_getD,List.getElem?_eq_getElem hW],xp (bH W D j/_)]
theorem M5 (h:i+(k+2)+1≤n):i≤i+(k+2)+1∧i+(k+2)+1≤n∧i<n∧0+i=i∧i+(k+2)+1-i=k+3∧n-i=n-i:=⟨by omega,h,by omega,by omega,by omega,rfl⟩
theorem Fo {x y:Nat}(hx:x<4294967296)(hy:y<4294967296):x*y<18446744073709551616:=by
 have:x*y≤4294967295*4294967295:=xU zo zo;omega
theorem Nd {n m p q:Nat}(h:(decide ((n:Int)≥((m:Nat):Int)) || decide (((p:Nat):Int)>((q:Nat):Int)))=true):m≤n∨q<p:=by
 rcases z4 _ _▸h with h|h
 ·exact .inl (kS.1 (qt h))
 ·exact .inr (kR.1 (qt h))
theorem Q6 {n m p q:Nat}(h:(decide ((n:Int)≥((m:Nat):Int)) || decide (((p:Nat):Int)>((q:Nat):Int)))=false):n<m∧p≤q:=by
 rw [qN] at h;exact ⟨ji λ hh=>qv h.1 (kS.2 hh),kW λ hh=>qv h.2 (kR.2 hh)⟩
theorem NX (h:decide ((n:Int)≥((m:Nat):Int))=true):m≤n:=kS.1 (qt h)
theorem NY (h:decide ((n:Int)≥((m:Nat):Int))=false):n<m:=ji λ hh=>qv h (kS.2 hh)
theorem GJ {u x:Nat}(h:x<18446744073709551616)(hu:u<18446744073709551616):IntKind.u64.wrap ((u:Int)-(x:Int))=(((u+18446744073709551616-x)%18446744073709551616:Nat):Int):=by
 simp [IntKind.wrap,IntKind.bits,IntKind.signed];omega
theorem LW {u x:Nat}(hu:u<4294967296)(hx:x<4294967296):IntKind.u32.wrap (((u+18446744073709551616-x)%18446744073709551616:Nat):Int)=(((u+4294967296-x)%4294967296:Nat):Int):=by
 rw [wlow];congr 1;omega
theorem LV {u x:Nat}(hu:u<4294967296)(hx:x<4294967296):(((u+18446744073709551616-x)%18446744073709551616:Nat):Int)/2^((63:Int).toNat)=((if u<x then 1 else 0:Nat):Int):=by
 refine (nshr (k:=63)).trans ?_
 congr 1
 split <;> omega
theorem sgn1 {u x:Nat}:(((if u<x then 1 else 0:Nat):Int)==((1:Nat):Int))=decide (u<x):=by
 split <;> simp [*]
theorem NG (L Dx:Ya)(o m c0 c1 q:Nat)(hL:okL L)(hDx:okL Dx)(hm:m≤Dx.length)(hlo:o+m+1≤L.length)(hms:m≤1099511627776)(hq:q<4294967296):Cm2 Tryz.prog 258 138 (winH o (m+1) c0) (slH m c1) (Nums .u32 L) (Nums .u32 (spl L o (digs (m+1) (val ((L.drop o).take (m+1))+(if val ((L.drop o).take (m+1))<q*val (Dx.take m) then 4294967296^(m+1) else 0)-q*val (Dx.take m))))) .u32 (Dx) [(NumA .u64 (q:Nat)).va] (Bo (decide (val ((L.drop o).take (m+1))<q*val (Dx.take m)))):=by
 refine Cm2.intro Tryz.func258 G zk nq (λ B g0 g1 w0 a U=>?_);have U:=zn [(0,EqV ((winH o (m+1) c0).f g0)),(1,EqV ((slH m c1).f g1)),(2,(NumA .u64 (q:Nat)).va)] [⟨0,138,winH o (m+1) c0,Nums .u32 L⟩,⟨1,138,slH m c1,Nums .u32 (Dx)⟩] U;have hW:okL ((L.drop o).take (m+1)):=oV (Fj hL _) _;have hD:okL (Dx.take m):=oV hDx _;have hWl:(((L.drop o).take (m+1))).length=m+1:=by simp;omega
 have hDl:((Dx.take m)).length=m:=by simp;omega
 refine qb<|zg UH [] U5 WZ U (zE G aE) (zz (Wf 0 1 2 6) [⟨0,138,winH o (m+1) c0,_⟩,⟨1,138,slH m c1,_⟩] ?_);refine ztA<|zgA UF [] [.v 7 _] Ut (zv G (aR (aF 0 G)) o0) (zz (W8 0 1 2 6 7) [⟨0,138,winH o (m+1) c0,_⟩,⟨1,138,slH m c1,_⟩] ?_);refine ztA<|zsA<|zgA UF [] (Wb 12) (Wi [.o 0,.o 1,.o 2]) (zM 1 G (zv G (dM qd (vq 0 G)) (zv G (aq ab) o0))) (zz (Wy 0 1 2 6 7 12 13 14) [⟨0,138,winH o (m+1) c0,_⟩,⟨1,138,slH m c1,_⟩] λ a w U=>?_);refine aa<|qk ?_;have U:=U.sel [0,1,2,4,5,6,7];refine wp_loop_ghost (λ n a w=>∃ k:Nat,n+k=m∧St B w0 62 [(0,EqV ((winH o (m+1) c0).f g0)),(1,EqV ((slH m c1).f g1)),(2,(NumA .u64 (q:Nat)).va),(7,(NumA .u64 (lsB ((L.drop o).take (m+1)) (Dx.take m) q k:Nat)).va),(12,EqV ((slH m c1).f g1)),(13,In (m:Nat)),(14,In (k:Nat))] [⟨0,138,winH o (m+1) c0,Nums .u32 (spl L o (lsO ((L.drop o).take (m+1)) (Dx.take m) q k))⟩,⟨1,138,slH m c1,Nums .u32 Dx⟩] a w) (m) ?_ ?_
 ·exact ⟨0,by omega,by rw [show lsO ((L.drop o).take (m+1)) (Dx.take m) q 0=[] from rfl,sK];exact U⟩
 intro n a w hI;obtain ⟨k,hn,U⟩:=hI;refine qb<|zg UH [] [.v 15 _] (Wx [.o 0]) U (zv G (aN (gq 6 G) (gq 5 G)) o0) (zz (Wy 0 1 2 7 12 13 14 15) [⟨0,138,winH o (m+1) c0,_⟩,⟨1,138,slH m c1,_⟩] λ a w U=>?_);refine zt<|cd U (zm 7 G) (λ hb0=>?_) (λ hb0=>?_)
 ·have hk:k<m:=by simp at hb0;omega
  have hdk:=mQ hD k;have hwk:=mQ hW k;have hbk:=Cl (W:=((L.drop o).take (m+1))) (q:=q) hD k;have hdx:Dx[0+k]?=some (((Dx.take m)).getD k 0):=by rw [rl hk,qV];exact getD_some zo
  have hwx:(spl L o (lsO ((L.drop o).take (m+1)) (Dx.take m) q k))[o+k]?=some ((((L.drop o).take (m+1))).getD k 0):=by rw [lS zo,mw (by rw [fi];omega) zo]
  have hpk:q*((Dx.take m)).getD k 0≤q*4294967295:=zU _ zo;refine qj<|zt<|qk<|qb<|zg UH [] (Wb 16 (W6 8)) (Wx [.o 3,.o 4]) U (zM 6 G (zv G (d3 bc (gq 4 G) (gq 6 G) zo) (zv G (cD (vq 1 G) (lz0 1 G) (gq 1 G) (nums_at' hdx) aO) (zA 0 G (zA 2 G o0))))) (zz (WF 0 1 2 7 12 13 14 8 9) [⟨0,138,winH o (m+1) c0,_⟩,⟨1,138,slH m c1,_⟩] ?_);refine ztA<|zgA UF [] (Wl 19 [.v 7 _]) (W7 [.g 4,.g 5,.g 6,.g 7,.o 6]) (zM 3 G (zM 2 G (zM 8 G (zv G (aH .u64 zk zk (vq 2 G) (wu64 zo)) (zv G (mF (vq 1 G) (vq 3 G) (rb zo)) (zv G (aL (vq 0 G) (vq 4 G) (dQ zo)) (zA 5 G o0))))))) (zz (Wy 0 1 2 12 13 14 8 7) [⟨0,138,winH o (m+1) c0,_⟩,⟨1,138,slH m c1,_⟩] ?_);refine ztA<|zgA UF [] (Wo 25 [.v 10 _]) (WE [.o 9]) (zM 0 G (zM 6 G (zv G (d3 bc (vq 0 G) (vq 1 G) zo) (zv G (cD (vq 2 G) (lz0 0 G) (gq 0 G) (nums_at' hwx) aO) (zv G (aH .u64 zk zk (vq 3 G) (wu64 zo)) (zM 7 G (zv G (aH .u32 zk zk (vq 5 G) (wlow)) (zv G (aH .u64 zk zk (vq 6 G) (wu64 zo)) (zv G (cH (vq 4 G) (vq 7 G) (GJ zo zo)) (zA 8 G o0)))))))))) (zz (WF 0 1 2 12 13 14 8 7 10) [⟨0,138,winH o (m+1) c0,_⟩,⟨1,138,slH m c1,_⟩] ?_);refine ztA<|zgA [some (5,_),none] [] (Wd 34 [.sto 0]) (Wq [.g 7,.g 8]) (zM 0 G (zM 6 G (zM 8 G (zv G (aH .u32 zk zk (vq 2 G) (LW hwk zo)) (zv G (d3 bc (vq 0 G) (vq 1 G) zo) (oc (gR G G G (vq 4 G) (gq 0 G) (vq 3 G) aO (bJ (by rw [l6 (by rw [fi];omega)];omega))) o0)))))) (zz (Wy 0 1 2 12 13 14 7 10) [⟨0,138,winH o (m+1) c0,_⟩,⟨1,138,slH m c1,_⟩] ?_);refine znA<|zgA UF [] (Wd 39 [.v 7 _]) (Wq [.o 5]) (zM 6 G (zv G (l8 (vq 0 G) (aF 32 G) zd (nshr)) (zM 7 G (zv G (l8 (vq 2 G) (aF 63 G) zd (LV hwk zo)) (zv G (aL (vq 1 G) (vq 3 G) (dQ (by split <;> omega))) (zA 4 G o0)))))) (zz (Wu 0 1 2 12 13 14 7) [⟨0,138,winH o (m+1) c0,_⟩,⟨1,138,slH m c1,_⟩] λ a w U=>?_);refine ak ?_;refine aa<|zg UH [] [.v 44 _,.v 14 _] (Wi [.g 6,.o 1]) U (zv G (aL (gq 5 G) ab (aW zo)) (zV 0 G o0)) (zz (Wu 0 1 2 12 13 7 14) [⟨0,138,winH o (m+1) c0,_⟩,⟨1,138,slH m c1,_⟩] λ a w U=>?_);refine aa ?_;have U:=U.sel [0,1,2,5,3,4,6];rw [mv (fi _ _ _ _) zo] at U;exact ⟨n-1,by omega,k+1,by omega,U⟩
 ·obtain rfl:m=k:=by simp at hb0;omega
  have hbk:=Cl (W:=((L.drop o).take (m+1))) (q:=q) hD m;have hwk:=mQ hW m;have hwx:(spl L o (lsO ((L.drop o).take (m+1)) (Dx.take m) q m))[o+m]?=some ((((L.drop o).take (m+1))).getD m 0):=by rw [lS zo,mw (by rw [fi];omega) zo]
  refine qL<|ai<|ai<|az<|zt<|zg UH [] (W9 45 [.v 11 _]) (We [.o 8]) U (zM 0 G (zM 1 G (zv G (dM qd (vq 1 G)) (zv G (d3 bc (vq 0 G) (vq 2 G) zo) (zv G (cD (vq 3 G) (lz0 0 G) (gq 0 G) (nums_at' hwx) aO) (zv G (aH .u64 zk zk (vq 4 G) (wu64 zo)) (zM 3 G (zv G (cH (vq 5 G) (vq 6 G) (GJ zo zo)) (zA 7 G o0))))))))) (zz (Wa 0 1 11) [⟨0,138,winH o (m+1) c0,_⟩,⟨1,138,slH m c1,_⟩] ?_);refine ztA<|zgA [some (6,_),none] [] (Wl 53 [.sto 0]) W7 (zM 0 G (zM 1 G (zv G (dM qd (vq 1 G)) (zM 2 G (zv G (aH .u32 zk zk (vq 3 G) (LW hwk zo)) (zv G (d3 bc (vq 0 G) (vq 2 G) zo) (oc (gR G G G (vq 5 G) (gq 0 G) (vq 4 G) aO (bJ (by rw [l6 (by rw [fi];omega)];omega))) o0))))))) (zz (Wa 0 1 11) [⟨0,138,winH o (m+1) c0,_⟩,⟨1,138,slH m c1,_⟩] ?_);refine ztA<|zgA UF [] (Wb 59 [.v 6 _]) (We [.o 3]) (zM 2 G (zv G (l8 (vq 0 G) (aF 63 G) zd (LV hwk zo)) (zv G (bC (vq 1 G) (aF 1 G)) (zA 2 G o0)))) (zz (Wa 0 1 6) [⟨0,138,winH o (m+1) c0,_⟩,⟨1,138,slH m c1,_⟩] λ a w U=>?_);refine aa<|qh ?_;rw [mv (fi _ _ _ _) zo,(Hu hW hD hDl hWl hq).2] at U;refine MB U (zm 0 G) (zm 1 G) (zm 0 G) (zm 1 G) ?_;refine aJ ?_ (am G U (zm 2 G));rw [sgn1,(Hu hW hD hDl hWl hq).1]
def tab8:ByteArray:=⟨(([0,1,2,2,3,3,3,3,4,4,4,4,4,4,4,4,5,5,5,5,5,5,5,5,5,5,5,5,5,5,5,5,6,6,6,6,6,6,6,6,6,6,6,6,6,6,6,6,6,6,6,6,6,6,6,6,6,6,6,6,6,6,6,6,7,7,7,7,7,7,7,7,7,7,7,7,7,7,7,7,7,7,7,7,7,7,7,7,7,7,7,7,7,7,7,7,7,7,7,7,7,7,7,7,7,7,7,7,7,7,7,7,7,7,7,7,7,7,7,7,7,7,7,7,7,7,7,7]:List UInt8)++[8,8,8,8,8,8,8,8,8,8,8,8,8,8,8,8,8,8,8,8,8,8,8,8,8,8,8,8,8,8,8,8,8,8,8,8,8,8,8,8,8,8,8,8,8,8,8,8,8,8,8,8,8,8,8,8,8,8,8,8,8,8,8,8,8,8,8,8,8,8,8,8,8,8,8,8,8,8,8,8,8,8,8,8,8,8,8,8,8,8,8,8,8,8,8,8,8,8,8,8,8,8,8,8,8,8,8,8,8,8,8,8,8,8,8,8,8,8,8,8,8,8,8,8,8,8,8,8]).toArray⟩
theorem En:(List.range 256).all (λ n=>tab8[n]? == some (UInt8.ofNat (bl n)))=true:=by kernel_rfl
theorem oB (h:n<256):tab8[n]?=some (UInt8.ofNat (bl n)):=by
 have:=qe.1 En n (by simpa using h);simpa using this
theorem dR (h:n<256):(UInt8.ofNat (bl n)).toNat=bl n:=by
 have:=fB (k:=8) h;simp;omega
theorem wu8 {x:Nat}(h:x<256):IntKind.u8.wrap (x:Int)=(x:Int):=by simp [IntKind.wrap,IntKind.bits,IntKind.signed];omega
theorem Kn (x:Nat)(hx:x<4294967296):Cn Tryz.prog 265 [(NumA .u32 (x:Nat)).va] (In (bl x:Nat)):=by
 refine Cn.intro Tryz.func265 G zk nq (zy [(0,(NumA .u32 (x:Nat)).va)] λ B w0 a U=>?_);refine qb<|zh UA Rk U (zE G ab) (zz Rl [] ?_);refine ztA<|zsA<|zhA (W6 3) UI (zM 0 G (zv G (dP (vq 0 G) (aF 65536 G)) o0)) (zz Rm [] λ a w U=>?_);refine zJ 2 U G (λ hb0=>?_) (λ hb0=>?_)
 ·have h1:65536≤x:=by simp at hb0;omega
  have e1:=DX x 16 h1;refine qb<|zh (W6 5 [.v 0 _]) Rn U (zM 0 G (zv G (l8 (vq 0 G) (aF 16 G) zd (nshr)) (zA 1 G o0))) (zz (Wc 2 0) [] ?_);refine znA<|zhA UA [.g 1,.o 0] (zE G ab) (zz Rl [] ?_);refine ztA<|zsA<|zhA (W6 7) UI (zM 0 G (zv G (dP (vq 0 G) (aF 256 G)) o0)) (zz (Wa 0 2 8) [] λ a w U=>?_);refine zJ 2 U G (λ hb1=>?_) (λ hb1=>?_)
  ·have h2:256≤x/2^16:=by simp at hb1;omega
   have e2:=DX (x/2^16) 8 h2;refine qb<|zh (W6 9 [.v 0 _]) Rn U (zM 0 G (zv G (l8 (vq 0 G) (aF 8 G) zd (nshr)) (zA 1 G o0))) (zz (Wc 2 0) [] ?_);refine znA<|zhA (W6 11 [.v 2 _]) Rn (zM 0 G (zv G (aL (vq 0 G) ab (wi64 zo zo)) (zA 1 G o0))) (zz Rl [] ?_);refine ztA<|zhA (Wl 13 [.v 2 _]) [.o 6] (zM 1 G (zM 0 G (zv G (aH .u8 zk zk (vq 1 G) (wu8 zo)) (zv G (dy zk aX (vq 2 G) (oB zo)) (zv G (aH .i64 zk zk (vq 3 G) (wi64 zo (by rw [dR zo];have:=fB (k:=8) (n:=x/2^16/2^8) zo;omega))) (zv G (aL (vq 0 G) (vq 4 G) (wi64 (by rw [dR zo];omega) (by rw [dR zo];have:=fB (k:=8) (n:=x/2^16/2^8) zo;omega))) (zA 5 G o0))))))) (zz Ux [] λ a w U=>?_);refine zN 0 U G G ?_;rw [e1,e2,dR zo];congr 2;omega
  ·have h2:x/2^16<256:=by simp at hb1;omega
   refine qj<|zt<|zh (Wl 13 [.v 2 _]) [.o 6] U (zM 1 G (zM 0 G (zv G (aH .u8 zk zk (vq 1 G) (wu8 h2)) (zv G (dy zk aX (vq 2 G) (oB h2)) (zv G (aH .i64 zk zk (vq 3 G) (wi64 zo (by rw [dR h2];have:=fB (k:=8) h2;omega))) (zv G (aL (vq 0 G) (vq 4 G) (wi64 (by rw [dR h2];omega) (by rw [dR h2];have:=fB (k:=8) h2;omega))) (zA 5 G o0))))))) (zz Ux [] λ a w U=>?_);refine zN 0 U G G ?_;rw [e1,dR h2];congr 2;omega
 ·have h1:x<65536:=by simp at hb0;omega
  refine qj<|zt<|qb<|zh (W6 7) UI U (zM 0 G (zv G (dP (vq 0 G) (aF 256 G)) o0)) (zz (Wa 0 2 8) [] λ a w U=>?_);refine zJ 2 U G (λ hb2=>?_) (λ hb2=>?_)
  ·have h2:256≤x:=by simp at hb2;omega
   have e2:=DX x 8 h2;refine qb<|zh (W6 9 [.v 0 _]) Rn U (zM 0 G (zv G (l8 (vq 0 G) (aF 8 G) zd (nshr)) (zA 1 G o0))) (zz (Wc 2 0) [] ?_);refine znA<|zhA (W6 11 [.v 2 _]) Rn (zM 0 G (zv G (aL (vq 0 G) ab (wi64 zo zo)) (zA 1 G o0))) (zz Rl [] ?_);refine ztA<|zhA (Wl 13 [.v 2 _]) [.o 6] (zM 1 G (zM 0 G (zv G (aH .u8 zk zk (vq 1 G) (wu8 zo)) (zv G (dy zk aX (vq 2 G) (oB zo)) (zv G (aH .i64 zk zk (vq 3 G) (wi64 zo (by rw [dR zo];have:=fB (k:=8) (n:=x/2^8) zo;omega))) (zv G (aL (vq 0 G) (vq 4 G) (wi64 (by rw [dR zo];omega) (by rw [dR zo];have:=fB (k:=8) (n:=x/2^8) zo;omega))) (zA 5 G o0))))))) (zz Ux [] λ a w U=>?_);refine zN 0 U G G ?_;rw [e2,dR zo];congr 2;omega
  ·have h2:x<256:=by simp at hb2;omega
   refine qj<|zt<|zh (Wl 13 [.v 2 _]) [.o 6] U (zM 1 G (zM 0 G (zv G (aH .u8 zk zk (vq 1 G) (wu8 h2)) (zv G (dy zk aX (vq 2 G) (oB h2)) (zv G (aH .i64 zk zk (vq 3 G) (wi64 zo (by rw [dR h2];have:=fB (k:=8) h2;omega))) (zv G (aL (vq 0 G) (vq 4 G) (wi64 (by rw [dR h2];omega) (by rw [dR h2];have:=fB (k:=8) h2;omega))) (zA 5 G o0))))))) (zz Ux [] λ a w U=>?_);refine zN 0 U G G ?_;rw [dR h2];congr 2;omega
theorem Nx (x:Nat)(hx:x<4294967296):Cn Tryz.prog 256 [(NumA .u32 (x:Nat)).va] (In (32-bl x:Nat)):=by
 refine Cn.intro Tryz.func256 G zk nq (zy [(0,(NumA .u32 (x:Nat)).va)] λ B w0 a U=>?_);have hb:=fB (k:=32) hx;refine qb<|zh UA Rk U (zE G ab) (zz Rl [] ?_);refine ztA<|zhA (Wb 3 [.v 2 _]) UJ (zM 0 G (zQ G (Kn x hx) (.o (vq 0 G)) (zv G (cH ab (vq 1 G) ((wi64 zo zo).trans (show (32:Int)-(bl x:Nat)=((32-bl x:Nat):Int) by omega))) (zA 2 G o0)))) (zz Ux [] λ a w U=>?_);exact aa<|qh<|am G U (zm 0 G)
theorem M6 (h:k<4611686018427387904):IntKind.i64.wrap (((k+2:Nat):Int)-2)=((k:Nat):Int):=by rw [wi64 zo zo];omega
theorem tT {x:Nat}(h:0<x)(h2:x<18446744073709551616):IntKind.u64.wrap ((x:Int)-((1:Nat):Int))=((x-1:Nat):Int):=by simp [IntKind.wrap,IntKind.bits,IntKind.signed];omega
theorem bbl {x:Nat}:x%4294967296<4294967296:=qW _ zd
theorem tP {x:Nat}:x%4294967296<18446744073709551616:=zD bbl zd
theorem Gf (x y:Ya)(k:Nat)(hyl:y.length=k+2)(h0:y.getD (k+1) 0≠0)(hxy:k+2≤x.length)(hxs:x.length≤1099511627776):Cn Tryz.prog 243 [(MgA x).va,(MgA y).va] (Tu [(MgN (digs (x.length+1-(k+2)) (val x/val y))).va,(MgN (digs (k+2) (val x%val y))).va]):=by
 refine Cn.introW Tryz.func243 G zk nq (.cons (mo _).va (.cons (mo _).va .nil)) (AE (.cons (eA _).va (.cons (eA _).va .nil))) (λ B w0 a hB0 U=>?_);have U:=zn [(0,(MgO x).va),(1,(MgO y).va)] [] U;have hx:=(U.magO 0 rfl).1;have hy:=(U.magO 1 rfl).1;have hys:y.length≤1099511627776:=by omega
 have hpy:y.length-1<y.length:=by omega
 obtain ⟨s,hs⟩:∃ s,s=32-bl (y.getD (k+1) 0):=⟨_,rfl⟩;have hsy:32-bl (y[y.length-1]'hpy)=s:=by
  rw [hs,show y.getD (k+1) 0=y[y.length-1]'hpy from by simp [List.getD_eq_getElem?_getD,hyl]]
 obtain ⟨X,hX⟩:∃ X,X=val x*2^s:=⟨_,rfl⟩;obtain ⟨DD,hDD⟩:∃ DD,DD=val y*2^s:=⟨_,rfl⟩;obtain ⟨d1,d2⟩:=Lb hy hyl h0;have hs32:s<32:=hs▸(DW h0 (mQ hy (k+1))).2.2;rw [← hs,← hDD] at d1 d2;have hX0:X<DD*4294967296^(x.length+1-(k+2)):=hX▸Ga hx rfl hxy hs32 d1;have hDp:0<DD:=qD (jD (zK zd) zd) d1;have htop:2147483648≤DD/4294967296^(k+1)%4294967296:=by
  have h1:DD/4294967296^(k+1)<4294967296:=xa d2;rw [zH h1,kc (zK zd),za];exact d1
 have htop2:DD/4294967296^(k+1)%4294967296<4294967296:=bbl;obtain ⟨R,hR⟩:∃ R,R=X%(DD*4294967296^0):=⟨_,rfl⟩;have hp2:0<2^s:=zK zd;have hend4:dvQ (x.length+1-(k+2)) X DD 0=digs (x.length+1-(k+2)) (val x/val y):=by
  rw [Lf,hX,hDD,Nat.mul_div_mul_right _ _ hp2]
 have hend5:R/2^s=val x%val y:=by
  rw [hR,j6,zP,hX,hDD,Nat.mul_mod_mul_right,Nat.mul_div_cancel _ hp2]
 have hR0:R/4294967296^(k+2)%4294967296=0:=by
  have:R<4294967296^(k+2):=by rw [hR,j6,zP];exact zD (qW _ hDp) d2
  rw [xK this]
 refine qb<|zh (W6 4) Ro U (zv G (aR aX) (zE G aX)) (zz WW [] λ a w U=>?_);refine aa<|wp_scope_straight ?_;refine qb<|zh (W9 20 [.v 6 _]) (Wp [.o 8]) U (zM 1 G (zM 1 G (zv G (aK qd (aC (vq 1 G))) (zv G (cH (vq 2 G) ab (Ij zo zo)) (zv G (bO bc (aC (vq 0 G)) (vq 3 G) zo) (zv G (ao (vq 4 G) aO) (zQ G (Nx _ (hy _ (qg _))) (.o (vq 5 G)) (zv G (aH .u64 zk zk (vq 6 G) ((show IntKind.u64.wrap _=((s:Nat):Int) from by rw [hsy];exact wu64 zo))) (zA 7 G o0))))))))) (zz UZ [] λ a w U=>?_);refine zt<|FE (sts:=[]) (news:=[⟨30,138,slH (x.length+1) (x.length+1),some 2,_,none⟩,⟨33,138,slH (y.length+1) (y.length+1),some 5,_,none⟩]) (sp:=[.v 28 _,.v 29 _,.alc 0,.v 31 _,.v 32 _,.alc 1,.v 34 _,.v 35 _,.adr 36 33 (.fn (cutV y.length)) True,.adr 7 30 .none True,.adr 1 33 (.fn (cutV y.length)) True]) [[],[],[0,1],[],[],[0,1,2,3,4],[],[6],[0,1,2,3,4,5,6,7],[0,1,2,3,4,5],[0,1,2,3,4,5,6,7,8,9]] [.g 4] [⟨7,138,slH (x.length+1) (x.length+1),_⟩,⟨1,138,slH y.length (y.length+1),_⟩] ac U (zM 0 G (zM 4 G (oc (C5 (xs:=[.tmp 28,.tmp 29]) G G G (up_c x s hxs hs32) (.p (aC (vq 0 G)) (vq 1 G))) (zM 1 G (zM 4 G (oc (C5 (xs:=[.tmp 31,.tmp 32]) G G G (up_c y s hys hs32) (.p (aC (vq 3 G)) (vq 4 G))) (zM 1 G (zv G (aK qd (aC (vq 6 G))) (oc (ob_a G G (Re bc (lz0 1 G) (vq 7 G) zo zo)) (oc (ob_a G G nB) (oc (ob_a G G (Pd 8 G zk)) o0))))))))))) zk zk zk zk (.cons ⟨rfl,rfl,.inr ⟨9,.none,rfl,λ _=>rfl⟩⟩ (.cons ⟨rfl,rfl,.inr ⟨10,.fn (cutV y.length),rfl,λ _=>rfl⟩⟩ .nil)) (zz [(6,(NumA .u64 (s:Nat)).va)] [⟨7,138,slH (x.length+1) (x.length+1),Nums .u32 (digs (x.length+1) (val x*2^s))⟩,⟨1,138,slH y.length (y.length+1),Nums .u32 (digs (y.length+1) (val y*2^s))⟩] λ a w U=>?_);rw [← hX,← hDD,hyl] at U;obtain ⟨g0,_,U⟩:=U.expose 0 rfl;obtain ⟨g1,_,U⟩:=U.expose 1 rfl;have U:=zn [(1,EqV ((slH (k+2) (k+3)).f g1)),(7,EqV ((slH (x.length+1) (x.length+1)).f g0)),(6,(NumA .u64 (s:Nat)).va)] [⟨7,138,slH (x.length+1) (x.length+1),Nums .u32 (digs (x.length+1) X)⟩,⟨1,138,slH (k+2) (k+3),Nums .u32 (digs (k+3) DD)⟩] U;refine zt<|dz (sts:=[none,none]) (news:=[⟨43,138,slH _ _,some 6,_,none⟩]) (sp:=[.v 37 _,.v 38 _,.v 39 _,.v 40 _,.v 41 _,.v 42 _,.alc 2,.adr 8 43 .none True]) [.g 0,.g 1,.g 2,.o 0] [(8,43)] [⟨7,138,slH (x.length+1) (x.length+1),_⟩,⟨1,138,slH (k+2) (k+3),_⟩,zpH 8 138 _] U (zM 1 G (zv G (dM qd (vq 0 G)) (zM 0 G (zv G (dM qd (vq 2 G)) (zv G (cH (vq 1 G) (vq 3 G) (wi64 zo zo)) (zv G (MU ab (vq 4 G) (show max (0:Int) _=((x.length+1-(k+2):Nat):Int) from by omega)) (oc (eF G G G fA (vq 5 G) (vq 5 G) zo) (oc (ob_a G G nB) o0)))))))) zk zk zk ⟨⟨7,rfl⟩,trivial⟩ G zk (zz (Wf 1 7 6 37) [⟨7,138,slH (x.length+1) (x.length+1),_⟩,⟨1,138,slH (k+2) (k+3),_⟩,zpH 8 138 _] λ a w U=>?_);obtain ⟨g2,_,U⟩:=U.expose 2 rfl;have U:=St.swap (g:=g0) (s':=37) (H':=slH (x.length+1) (x.length+1)) U 0 rfl (zm 2 rfl) (zm 4 rfl) rfl;refine zt<|zg US [] (WG 44 [.v 9 _]) (Wi [.o 7]) U (zM 1 G (zM 1 G (zv G (dM qd (vq 1 G)) (zv G (cH (vq 2 G) ab (An (n:=k+1) zo)) (zv G (d3 bc (vq 0 G) (vq 3 G) zo) (zv G (cD (vq 4 G) (lz0 1 G) (gq 1 G) (nums_at' (DB zo)) aO) (zv G (aH .u64 zk zk (vq 5 G) (wu64 tP)) (zA 6 G o0)))))))) (zz (Wj 8 1 7 6 37 9) [⟨37,138,slH (x.length+1) (x.length+1),_⟩,⟨1,138,slH (k+2) (k+3),_⟩,zpH 8 138 _] λ a w U=>?_);refine zt<|wp_label<|zt<|qb<|zg US [] (Wb 51 [.v 10 _]) (Wq [.o 3]) U (zM 0 G (zv G (dM qd (vq 0 G)) (zv G (cH (vq 1 G) ab (wi64 zo zo)) (zA 2 G o0)))) (zz (Wu 8 1 7 6 37 9 10) [⟨37,138,slH (x.length+1) (x.length+1),_⟩,⟨1,138,slH (k+2) (k+3),_⟩,zpH 8 138 _] λ a w U=>?_);refine aa<|qk ?_;have U:=U.sel [3,2,4,1,0,5,6];refine wp_loop_ghost (λ n a w=>n≤(x.length+1-(k+2))∧St B w0 200 [(6,(NumA .u64 (s:Nat)).va),(7,EqV ((slH (x.length+1) (x.length+1)).f g0)),(37,EqV ((slH (x.length+1) (x.length+1)).f g0)),(1,EqV ((slH (k+2) (k+3)).f g1)),(8,EqV ((slH (x.length+1-(k+2)) (x.length+1-(k+2))).f g2)),(9,(NumA .u64 (DD/4294967296^(k+1)%4294967296:Nat)).va),(10,In ((n:Int)-1))] [⟨37,138,slH (x.length+1) (x.length+1),Nums .u32 (dvL (x.length+1) X DD n)⟩,⟨1,138,slH (k+2) (k+3),Nums .u32 (digs (k+3) DD)⟩,⟨8,138,slH (x.length+1-(k+2)) (x.length+1-(k+2)),Nums .u32 (dvQ (x.length+1-(k+2)) X DD n)⟩] a w) ((x.length+1-(k+2))) ?_ ?_
 ·exact ⟨qi _,by rw [Lg hX0,Ld];exact U⟩
 intro n a w hI;obtain ⟨hn,U⟩:=hI;refine qb<|qb<|zg US [] (W6 54) (Wx [.o 1]) U (zM 6 G (zv G (dP (vq 0 G) ab) o0)) (zz (Wy 6 7 37 1 8 9 10 55) [⟨37,138,slH (x.length+1) (x.length+1),_⟩,⟨1,138,slH (k+2) (k+3),_⟩,zpH 8 138 _] λ a w U=>?_);refine zJ 7 U G (λ hb0=>?_) (λ hb0=>?_)
 ·obtain ⟨i,rfl⟩:∃ i,n=i+1:=⟨n-1,by simp at hb0;omega⟩;rw [show ((i+1:Nat):Int)-1=(i:Int) from by omega] at U;have hv:Dv (x.length+1) k i (X%(DD*4294967296^(i+1))) DD:=QM zo d1 d2;have hu:=hv.at_;have hgs0:=hv.gs0 rfl rfl;have hgmax:=λ {g r:Nat}=>hv.gmax (g:=g) (r:=r);have hdown:=λ {g r:Nat}=>hv.down (g:=g) (r:=r);have hend1:=λ {g r:Nat}=>hv.end1 (g:=g) (r:=r);have hend2:=λ {g r:Nat}=>hv.end2 (g:=g) (r:=r);have hdq:=dv_q X DD i;have hyes:=hv.yes;have hls:=λ {g:Nat}=>hv.ls (g:=g);have hno:=λ {g:Nat}=>hv.end_no (g:=g);have hye:=λ {g:Nat}=>hv.yes_ex (g:=g);obtain ⟨Y,hY⟩:∃ Y,X%(DD*4294967296^(i+1))/4294967296^i=Y:=⟨_,rfl⟩;simp only [hY] at hu hgs0 hgmax hdown hend1 hend2 hdq hyes hls hno hye;have hhd:Y/4294967296^(k+2)%4294967296*4294967296+Y/4294967296^(k+1)%4294967296<18446744073709551616:=by
   have h1:Y/4294967296^(k+2)%4294967296<4294967296:=bbl;have h2:Y/4294967296^(k+1)%4294967296<4294967296:=bbl;omega
  refine qj<|zt<|qk<|qb<|zg US [] (W9 58 [.v 11 _]) (Wx [.o 8]) U (zM 1 G (zM 6 G (zM 6 G (zM 3 G (zv G (dM qd (vq 3 G)) (zv G (aL (vq 2 G) (vq 4 G) (i6 zo)) (zv G (aL (vq 5 G) ab (aW zo)) (zv G (MR bc (vq 0 G) (vq 1 G) (vq 6 G) (M5 zo)) (zA 7 G o0))))))))) (zz (Wy 6 7 37 1 8 9 10 11) [⟨37,138,slH (x.length+1) (x.length+1),_⟩,⟨1,138,slH (k+2) (k+3),_⟩,zpH 8 138 _] λ a w U=>?_);have U:=St.swap (g:=g0) (s':=11) (H':=winH i (k+3) (x.length+1-i)) U 0 rfl (zm 2 rfl) (zm 7 rfl) rfl;refine zt<|zgd [[],[],[1],[0,1,2],(Wm 4),(Wm 5),(Wm 6),[],[],[8],[8,9],[7,8,9,10],[7,8,9,10,11],[7,8,9,10,11,12],(Wm 14),(Wm 15)] Uo [] (WH 66 [.v 12 _]) (WE [.o 15]) ac U (zM 7 G (zM 3 G (zv G (dM qd (vq 1 G)) (zv G (d3 bc (vq 0 G) (vq 2 G) zo) (zv G (cD (vq 3 G) (lz0 0 G) (gq 7 G) (nums_at' (hu (k+2) zo)) aO) (zv G (aH .u64 zk zk (vq 4 G) (wu64 tP)) (zv G (yn (vq 5 G) (aF 32 G) zd (tU bbl)) (zM 7 G (zM 3 G (zv G (dM qd (vq 8 G)) (zv G (cH (vq 9 G) ab (An (n:=k+1) zo)) (zv G (d3 bc (vq 7 G) (vq 10 G) zo) (zv G (cD (vq 11 G) (lz0 0 G) (gq 7 G) (nums_at' (hu (k+1) zo)) aO) (zv G (aH .u64 zk zk (vq 12 G) (wu64 tP)) (zv G (yp (vq 6 G) (vq 13 G) (or64 bbl bbl)) (zA 14 G o0)))))))))))))))) zk zk zk zk (zz (WF 6 7 37 1 8 9 10 11 12) [⟨11,138,winH i (k+3) (x.length+1-i),_⟩,⟨1,138,slH (k+2) (k+3),_⟩,zpH 8 138 _] λ a w U=>?_);refine zt<|zgd [[],[],[0,1],[],[],[3,4],[0,1,2],(Wm 7)] Uo [] (Wl 81 (W6 13)) (WE [.o 6,.o 7]) ac U (zM 8 G (zM 5 G (zv G (nH (vq 0 G) (vq 1 G) zo (nquo (qY (ka _ _) hhd))) (zM 8 G (zM 5 G (zv G (nG (vq 3 G) (vq 4 G) zo (nrem)) (zA 2 G (zA 5 G o0)))))))) zk zk zk zk (zz (Wz 6 7 37 1 8 9 10 11 13 14) [⟨11,138,winH i (k+3) (x.length+1-i),_⟩,⟨1,138,slH (k+2) (k+3),_⟩,zpH 8 138 _] λ a w U=>?_);refine zt<|Aa (λ a w=>∃ q:Nat,(q<4294967296∧(q=Y/DD∨q=Y/DD+1))∧St B w0 200 [(6,(NumA .u64 (s:Nat)).va),(7,EqV ((slH (x.length+1) (x.length+1)).f g0)),(37,EqV ((slH (x.length+1) (x.length+1)).f g0)),(1,EqV ((slH (k+2) (k+3)).f g1)),(8,EqV ((slH (x.length+1-(k+2)) (x.length+1-(k+2))).f g2)),(9,(NumA .u64 (DD/4294967296^(k+1)%4294967296:Nat)).va),(10,In (i:Nat)),(11,EqV ((winH i (k+3) (x.length+1-i)).f g0)),(13,(NumA .u64 (q:Nat)).va)] [⟨11,138,winH i (k+3) (x.length+1-i),Nums .u32 (dvL (x.length+1) X DD (i+1))⟩,⟨1,138,slH (k+2) (k+3),Nums .u32 (digs (k+3) DD)⟩,⟨8,138,slH (x.length+1-(k+2)) (x.length+1-(k+2)),Nums .u32 (dvQ (x.length+1-(k+2)) X DD (i+1))⟩] a w) ?_ (λ a w U=>?_)
  ·have U:=U.sel [0,1,2,3,4,5,6,7,8,9];refine wp_loop_ghost (λ n a w=>∃ r:Nat,Gs k Y DD n r∧St B w0 200 [(6,(NumA .u64 (s:Nat)).va),(7,EqV ((slH (x.length+1) (x.length+1)).f g0)),(37,EqV ((slH (x.length+1) (x.length+1)).f g0)),(1,EqV ((slH (k+2) (k+3)).f g1)),(8,EqV ((slH (x.length+1-(k+2)) (x.length+1-(k+2))).f g2)),(9,(NumA .u64 (DD/4294967296^(k+1)%4294967296:Nat)).va),(10,In (i:Nat)),(11,EqV ((winH i (k+3) (x.length+1-i)).f g0)),(13,(NumA .u64 (n:Nat)).va),(14,(NumA .u64 (r:Nat)).va)] [⟨11,138,winH i (k+3) (x.length+1-i),Nums .u32 (dvL (x.length+1) X DD (i+1))⟩,⟨1,138,slH (k+2) (k+3),Nums .u32 (digs (k+3) DD)⟩,⟨8,138,slH (x.length+1-(k+2)) (x.length+1-(k+2)),Nums .u32 (dvQ (x.length+1-(k+2)) X DD (i+1))⟩] a w) ((Y/4294967296^(k+2)%4294967296*4294967296+Y/4294967296^(k+1)%4294967296)/(DD/4294967296^(k+1)%4294967296)) ?_ ?_
   ·exact ⟨_,hgs0,U⟩
   intro n a w hI;obtain ⟨r,hgs,U⟩:=hI;have hgm:=hgmax hgs;have hr:=hgs.r;refine qb<|qb<|lp (anc:=[[],[0],[0,1],[0,1,2],[0,1,2],[0,1,2],[0,1,2,5],[0,1,2,5,6],[0,1,2,4,5,6,7],[0,1,2,4,5,6,7,8],[0,1,2,4,5,6,7,8,9],[0,1,2,3,4,5,6,7,8,9,10],[0,1,2],[0,1,2,12],[0,1,2],[0,1,2],[0,1,2,15],[0,1,2,15,16],[0,1,2,14,15,16,17],[0,1,2,14,15,16,17,18],[0,1,2,14,15,16,17,18,19],[0,1,2,12,13,14,15,16,17,18,19,20],[0,1,2,3,4,5,6,7,8,9,10,11,12,13,14,15,16,17,18,19,20,21],[0,1,2,3,4,5,6,7,8,9,10,11,12,13,14,15,16,17,18,19,20,21,22]]) (sts:=[none,none,none]) (news:=[]) (sp:=((.v 87 _:Sp)::(.v 88 _)::(.v 89 _)::(.f 90 _)::(.f 91 _)::(.f 92 _)::(.f 93 _)::(.f 94 _)::(.f 95 _)::(.f 96 _)::(.f 97 _)::(.f 98 _)::(.f 99 _)::(.f 100 _)::(.f 101 _)::(.f 102 _)::(.f 103 _)::(.f 104 _)::(.f 105 _)::(.f 106 _)::(.f 107 _)::(.f 108 _)::(.f 109 _)::(.v 110 _)::[])) [.g 0,.g 1,.g 2,.g 3,.g 4,.g 5,.g 6,.g 7,.g 8,.g 9,.o 23] ac U (zM 8 G (zv G (dP (vq 0 G) (aF 4294967296 G)) (zV 1 G (zB 2 G (λ hg=>aq (gq 8 G)) (zB 2 G (λ hg=>aq (gq 3 G)) (zB 2 G (λ hg=>aq (gq 3 G)) (zB 2 G (λ hg=>dM qd (ae (vq 5 G) hg)) (zB 2 G (λ hg=>cH (ae (vq 6 G) hg) ab (M6 zo)) (zB 2 G (λ hg=>d3 bc (ae (vq 4 G) hg) (ae (vq 7 G) hg) zo) (zB 2 G (λ hg=>cD (ae (vq 8 G) hg) (lz0 1 G) (gq 3 G) (nums_at' (DB zo)) aO) (zB 2 G (λ hg=>aH .u64 zk zk (ae (vq 9 G) hg) (wu64 tP)) (zB 2 G (λ hg=>mF (ae (vq 3 G) hg) (ae (vq 10 G) hg) (rb (Fo (NY hg) bbl))) (zB 2 G (λ hg=>aq (gq 9 G)) (zB 2 G (λ hg=>yn (ae (vq 12 G) hg) (aF 32 G) zd (tU hr)) (zB 2 G (λ hg=>aq (gq 7 G)) (zB 2 G (λ hg=>aq (gq 3 G)) (zB 2 G (λ hg=>dM qd (ae (vq 15 G) hg)) (zB 2 G (λ hg=>cH (ae (vq 16 G) hg) ab (M6 zo)) (zB 2 G (λ hg=>d3 bc (ae (vq 14 G) hg) (ae (vq 17 G) hg) zo) (zB 2 G (λ hg=>cD (ae (vq 18 G) hg) (lz0 0 G) (gq 7 G) (nums_at' (hu k zo)) aO) (zB 2 G (λ hg=>aH .u64 zk zk (ae (vq 19 G) hg) (wu64 tP)) (zB 2 G (λ hg=>yp (ae (vq 13 G) hg) (ae (vq 20 G) hg) (or64 hr bbl)) (zB 2 G (λ hg=>cM (ae (vq 11 G) hg) (ae (vq 21 G) hg)) (zv G (r_or (vq 2 G) (vq 22 G)) o0)))))))))))))))))))))))) zk zk zk zk (zz (WB 6 7 37 1 8 9 10 11 13 14 110) [⟨11,138,winH i (k+3) (x.length+1-i),_⟩,⟨1,138,slH (k+2) (k+3),_⟩,zpH 8 138 _] λ a w U=>?_);refine zJ 10 U G (λ hb1=>?_) (λ hb1=>?_)
   ·have hlt:=hdown hgs (Nd hb1);have hn0:0<n:=qY (zx _) hlt;refine qj<|aa<|qk<|qb<|zg US [] (W6 111 [.v 13 _]) (WE [.g 9,.o 2]) U (zM 8 G (zv G (cH (vq 0 G) (aF 1 G) (tT hn0 zo)) (zA 1 G o0))) (zz (Wz 6 7 37 1 8 9 10 11 14 13) [⟨11,138,winH i (k+3) (x.length+1-i),_⟩,⟨1,138,slH (k+2) (k+3),_⟩,zpH 8 138 _] ?_);refine ztA<|zgA Uo [] (Wb 113 [.v 14 _]) (WE [.g 9,.o 3]) (zM 8 G (zM 5 G (zv G (aL (vq 0 G) (vq 1 G) (dQ zo)) (zA 2 G o0)))) (zz (Wz 6 7 37 1 8 9 10 11 13 14) [⟨11,138,winH i (k+3) (x.length+1-i),_⟩,⟨1,138,slH (k+2) (k+3),_⟩,zpH 8 138 _] ?_);refine ztA<|zgA Uo [] (W6 116) (WA [.o 1]) (zM 9 G (zv G (dP (vq 0 G) (aF 4294967296 G)) o0)) (zz (WB 6 7 37 1 8 9 10 11 13 14 117) [⟨11,138,winH i (k+3) (x.length+1-i),_⟩,⟨1,138,slH (k+2) (k+3),_⟩,zpH 8 138 _] λ a w U=>?_);refine zJ 10 U G (λ hb2=>?_) (λ hb2=>?_)
    ·refine qL<|blk_exit' zd ?_;refine ai<|az<|aa ?_;have U:=U.sel [0,1,2,3,4,5,6,7,8];exact ⟨_,hend2 hgs hlt (NX hb2),U⟩
    ·refine qj<|ak ?_;refine aa ?_;have U:=U.sel [0,1,2,3,4,5,6,7,8,9];exact ⟨n-1,by omega,_,hgs.next hlt (NY hb2),U⟩
   ·obtain ⟨hq,hle⟩:=Q6 hb1;refine qL<|ai<|ai<|az<|aa ?_;have U:=U.sel [0,1,2,3,4,5,6,7,8];exact ⟨_,⟨hq,hend1 hgs hq hle⟩,U⟩
  obtain ⟨q,⟨hq,hqq⟩,U⟩:=U;refine zt<|qb<|zg [some (3,_),η,η] [] (Wb 118 [.cal 121 _ 0,.v 122 _]) (WD [.o 4]) U (zM 7 G (zM 3 G (zM 8 G (oc (JQ (xs:=[.tmp 120]) G G G (NG (dvL (x.length+1) X DD (i+1)) (digs (k+3) DD) i (k+2) (x.length+1-i) (k+3) q (bY _ _) (bY _ _) (by rw [ay];omega) (by rw [show (dvL (x.length+1) X DD (i+1)).length=x.length+1 from ay _ _];omega) zo hq) (arwE (vq 0 G) (gq 7 G)) (lz0 1 G) (Nat.ne_of_beq_eq_false G) (arwE (vq 1 G) (gq 3 G)) (.o (vq 2 G))) (zv G (dc (KC 3 G zk zk)) o0))))) (zz (Wz 6 7 37 1 8 9 10 11 13 122) [⟨11,138,winH i (k+3) (x.length+1-i),_⟩,⟨1,138,slH (k+2) (k+3),_⟩,zpH 8 138 _] λ a w U=>?_);refine zJ 9 U G (λ hb3=>?_) (λ hb3=>?_)
  ·have hqd:q=Y/DD:=by
    rcases hqq with hqq|hqq
    ·exact hqq
    ·exfalso;have:¬ _:=λ hh=>by rw [qG (hls.2 hh)] at hb3;exact Bool.noConfusion hb3
     exact this (hqq▸hyes)
   have U:=U.cvA 0 rfl (qp (Nums .u32) (hno hqd));refine qb<|zg [η,η,some (5,_)] [] (Wd 123 [.sto 2]) WD U (zM 4 G (zM 6 G (zM 8 G (zv G (aH .u32 zk zk (vq 2 G) (wu32 hq)) (zv G (d3 bc (vq 0 G) (vq 1 G) zo) (oc (gR G G G (vq 4 G) (gq 4 G) (vq 3 G) aO (bJ (by rw [Do zo];omega))) o0)))))) (zz (WF 6 7 37 1 8 9 10 11 13) [⟨11,138,winH i (k+3) (x.length+1-i),_⟩,⟨1,138,slH (k+2) (k+3),_⟩,zpH 8 138 _] λ a w U=>?_);refine aa<|qL<|ai<|az<|aa<|zg US [] (W6 56 [.v 10 _]) (Wq [.g 7,.o 2]) U (zM 6 G (zv G (cH (vq 0 G) ab (wi64 zo zo)) (zA 1 G o0))) (zz (Wy 6 7 37 1 8 9 11 10) [⟨11,138,winH i (k+3) (x.length+1-i),_⟩,⟨1,138,slH (k+2) (k+3),_⟩,zpH 8 138 _] λ a w U=>?_);have U:=St.swap (g:=g0) (s':=37) (H':=slH (x.length+1) (x.length+1)) U 0 rfl (zm 6 rfl) (zm 2 rfl) rfl;refine aa ?_;have U:=U.sel [0,1,2,3,4,5,7];have U:=St.cvA (A':=Nums .u32 (dvQ (x.length+1-(k+2)) X DD i)) U 2 rfl (qp (Nums .u32) (by rw [qV,hqd,hdq];exact wF zo));exact ⟨i,by omega,by omega,U⟩
  ·have hqd:q=Y/DD+1:=by
    rcases hqq with hqq|hqq
    ·exfalso;have h1:¬ (Y<q*DD):=by rw [hqq];have:=jH Y DD;omega
     rw [zT (λ hh=>h1 (hls.1 hh))] at hb3;exact Bool.noConfusion hb3
    ·exact hqq
   obtain ⟨M,hM,hMl,hWl,hWok,hMe⟩:=hye hqd;have U:=U.cvA 0 rfl (qp (Nums .u32) hM);have hDok:okL ((digs (k+3) DD).take (k+2)):=oV (bY _ _) _;refine qj<|zt<|zg [η,η,some (6,_)] [] (Wl 128 [.sto 2]) WE U (zM 4 G (zM 6 G (zM 8 G (zv G (cH (vq 2 G) (aF 1 G) (tT zo zo)) (zv G (aH .u32 zk zk (vq 3 G) (wu32 zo)) (zv G (d3 bc (vq 0 G) (vq 1 G) zo) (oc (gR G G G (vq 5 G) (gq 4 G) (vq 4 G) aO (bJ (by rw [Do zo];omega))) o0))))))) (zz (Wy 6 7 37 1 8 9 10 11) [⟨11,138,winH i (k+3) (x.length+1-i),_⟩,⟨1,138,slH (k+2) (k+3),_⟩,zpH 8 138 _] ?_);refine ztA<|zgA Uo [] [.v 15 _] (WE [.o 0]) (zv G (aR (aF 0 G)) o0) (zz (WF 6 7 37 1 8 9 10 11 15) [⟨11,138,winH i (k+3) (x.length+1-i),_⟩,⟨1,138,slH (k+2) (k+3),_⟩,zpH 8 138 _] ?_);refine ztA<|zsA<|zgA Uo [] (Wb 134) (WD [.o 0,.o 1,.o 2]) (zM 3 G (zv G (dM qd (vq 0 G)) (zv G (aq ab) o0))) (zz (WC 6 7 37 1 8 9 10 11 15 134 135 136) [⟨11,138,winH i (k+3) (x.length+1-i),_⟩,⟨1,138,slH (k+2) (k+3),_⟩,zpH 8 138 _] λ a w U=>?_);refine aa<|qk ?_;have U:=U.sel [0,1,2,3,4,5,6,7,9,10,11,8];refine wp_loop_ghost (λ n a w=>∃ j:Nat,n+j=k+2∧St B w0 200 [(6,(NumA .u64 (s:Nat)).va),(7,EqV ((slH (x.length+1) (x.length+1)).f g0)),(37,EqV ((slH (x.length+1) (x.length+1)).f g0)),(1,EqV ((slH (k+2) (k+3)).f g1)),(8,EqV ((slH (x.length+1-(k+2)) (x.length+1-(k+2))).f g2)),(9,(NumA .u64 (DD/4294967296^(k+1)%4294967296:Nat)).va),(10,In (i:Nat)),(11,EqV ((winH i (k+3) (x.length+1-i)).f g0)),(134,EqV ((slH (k+2) (k+3)).f g1)),(135,In ((k+2):Nat)),(136,In (j:Nat)),(15,(NumA .u32 (bH ((M.drop i).take (k+3)) ((digs (k+3) DD).take (k+2)) j/4294967296^j:Nat)).va)] [⟨11,138,winH i (k+3) (x.length+1-i),Nums .u32 (spl M i (digs j (bH ((M.drop i).take (k+3)) ((digs (k+3) DD).take (k+2)) j)))⟩,⟨1,138,slH (k+2) (k+3),Nums .u32 (digs (k+3) DD)⟩,⟨8,138,slH (x.length+1-(k+2)) (x.length+1-(k+2)),Nums .u32 ((dvQ (x.length+1-(k+2)) X DD (i+1)).set (0+i) (q-1))⟩] a w) (k+2) ?_ ?_
   ·exact ⟨0,by omega,by rw [show ∀ m,digs 0 m=[] from λ _=>rfl,sK,g7,show (0:Nat)/4294967296^0=0 from rfl];exact U⟩
   intro n a w hI;obtain ⟨j,hn,U⟩:=hI;refine qb<|zg US [] [.v 137 _] (WI [.o 0]) U (zv G (aN (gq 10 G) (gq 9 G)) o0) (zz (WJ 6 7 37 1 8 9 10 11 134 135 136 15 137) [⟨11,138,winH i (k+3) (x.length+1-i),_⟩,⟨1,138,slH (k+2) (k+3),_⟩,zpH 8 138 _] λ a w U=>?_);refine zt<|cd U (zm 12 G) (λ hb4=>?_) (λ hb4=>?_)
   ·have hj:j<k+2:=by simp at hb4;omega
    have hwx:(spl M i (digs j (bH ((M.drop i).take (k+3)) ((digs (k+3) DD).take (k+2)) j)))[i+j]?=some ((((M.drop i).take (k+3))).getD j 0):=by rw [lS zo,mw (by rw [ay];omega) zo]
    have hdx:(digs (k+3) DD)[0+j]?=some ((((digs (k+3) DD).take (k+2))).getD j 0):=by rw [rl hj,qV];exact getD_some (by rw [ay];omega)
    have hcy:bH ((M.drop i).take (k+3)) ((digs (k+3) DD).take (k+2)) j/4294967296^j<4294967296:=qY (fv hWok hDok _) zd;have hsl:(spl M i (digs j (bH ((M.drop i).take (k+3)) ((digs (k+3) DD).take (k+2)) j))).length=x.length+1:=by rw [l6 (by rw [ay];omega),hMl]
    refine qj<|zt<|qk<|qb<|zg US [] (Wb 138 (W6 16)) (WI [.o 3,.o 4]) U (zM 10 G (zv G (d3 bc (gq 8 G) (gq 10 G) zo) (zv G (cD (vq 1 G) (lz0 1 G) (gq 3 G) (nums_at' hdx) aO) (zA 0 G (zA 2 G o0))))) (zz (WK 6 7 37 1 8 9 10 11 134 135 136 15 16 17) [⟨11,138,winH i (k+3) (x.length+1-i),_⟩,⟨1,138,slH (k+2) (k+3),_⟩,zpH 8 138 _] ?_);refine znA<|zgA [some (13,_),none,none] [] (Wo 142 (.v 141 _::(Wb 151 [.sto 0,.v 15 _]))) (WL [.o 14]) (zM 7 G (zM 12 G (zM 7 G (zM 12 G (zv G (d3 bc (vq 2 G) (vq 3 G) zo) (zv G (cD (vq 4 G) (lz0 0 G) (gq 7 G) (nums_at' hwx) aO) (zM 13 G (zM 11 G (zQ G (nA (mQ hWok _) (mQ hDok _) hcy) (.cons (vq 5 G) (.p (vq 6 G) (vq 7 G))) (zV 8 G (zv G (aQ (vq 9 G) G) (zv G (aQ (vq 9 G) G) (zv G (d3 bc (vq 0 G) (vq 1 G) zo) (oc (gR G G G (vq 12 G) (gq 7 G) (vq 10 G) aO (bJ zo)) (zA 11 G o0))))))))))))))) (zz (WC 6 7 37 1 8 9 10 11 134 135 136 15) [⟨11,138,winH i (k+3) (x.length+1-i),_⟩,⟨1,138,slH (k+2) (k+3),_⟩,zpH 8 138 _] λ a w U=>?_);refine ak ?_;refine aa<|zg US [] [.v 154 _,.v 136 _] (WA [.g 11,.o 1]) U (zv G (aL (gq 10 G) ab (aW zo)) (zV 0 G o0)) (zz (WC 6 7 37 1 8 9 10 11 134 135 15 136) [⟨11,138,winH i (k+3) (x.length+1-i),_⟩,⟨1,138,slH (k+2) (k+3),_⟩,zpH 8 138 _] λ a w U=>?_);refine aa ?_;have U:=U.sel [0,1,2,3,4,5,6,7,8,9,11,10];rw [mv (ay _ _) zo,LN zo,GG zo] at U;exact ⟨n-1,by omega,j+1,by omega,U⟩
   ·obtain rfl:j=k+2:=by simp at hb4;omega
    have hwx:(spl M i (digs (k+2) (bH ((M.drop i).take (k+3)) ((digs (k+3) DD).take (k+2)) (k+2))))[i+(k+2)]?=some ((((M.drop i).take (k+3))).getD (k+2) 0):=by rw [lS zo,mw (by rw [ay];omega) zo]
    have hsl:(spl M i (digs (k+2) (bH ((M.drop i).take (k+3)) ((digs (k+3) DD).take (k+2)) (k+2)))).length=x.length+1:=by rw [l6 (by rw [ay];omega),hMl]
    refine qL<|ai<|ai<|az<|aa<|zg [some (8,_),η,η] [] (W9 155 [.sto 0]) WE U (zM 7 G (zM 3 G (zv G (dM qd (vq 1 G)) (zv G (d3 bc (vq 0 G) (vq 2 G) zo) (zv G (cD (vq 3 G) (lz0 0 G) (gq 7 G) (nums_at' hwx) aO) (zM 11 G (zv G (aL (vq 4 G) (vq 5 G) (wu32')) (zv G (d3 bc (vq 0 G) (vq 2 G) zo) (oc (gR G G G (vq 7 G) (gq 7 G) (vq 6 G) aO (bJ zo)) o0))))))))) (zz (Wy 6 7 37 1 8 9 10 11) [⟨11,138,winH i (k+3) (x.length+1-i),_⟩,⟨1,138,slH (k+2) (k+3),_⟩,zpH 8 138 _] λ a w U=>?_);refine ak ?_;refine aa<|zg US [] (W6 56 [.v 10 _]) (Wq [.g 7,.o 2]) U (zM 6 G (zv G (cH (vq 0 G) ab (wi64 zo zo)) (zA 1 G o0))) (zz (Wy 6 7 37 1 8 9 11 10) [⟨11,138,winH i (k+3) (x.length+1-i),_⟩,⟨1,138,slH (k+2) (k+3),_⟩,zpH 8 138 _] λ a w U=>?_);have U:=St.swap (g:=g0) (s':=37) (H':=slH (x.length+1) (x.length+1)) U 0 rfl (zm 6 rfl) (zm 2 rfl) rfl;refine aa ?_;have U:=U.sel [0,1,2,3,4,5,7];have U:=St.cvA (A':=Nums .u32 (dvL (x.length+1) X DD i)) U 0 rfl (qp (Nums .u32) (by rw [mv (ay _ _) zo];exact hMe));have U:=St.cvA (A':=Nums .u32 (dvQ (x.length+1-(k+2)) X DD i)) U 2 rfl (qp (Nums .u32) (by rw [qV,hqd,js,hdq];exact wF zo));exact ⟨i,by omega,by omega,U⟩
 ·obtain rfl:n=0:=by simp at hb0;omega
  refine qL<|ai<|ai<|az<|zt<|zg US [] (Ww 163 [.v 7 _]) [.g 0,.g 2,.g 3,.g 4,.o 4] U (zM 1 G (zM 3 G (zv G (dM qd (vq 1 G)) (zv G (BA bc (vq 0 G) (vq 2 G) zo) (zA 3 G o0))))) (zz (W8 6 37 1 8 7) [⟨37,138,slH (x.length+1) (x.length+1),_⟩,⟨1,138,slH (k+2) (k+3),_⟩,zpH 8 138 _] ?_);refine ztA<|zsA<|zgA Uo [] (Wb 167) (Wi [.o 1,.o 2]) (zM 4 G (zv G (dM qd (vq 0 G)) (zv G (aq ab) o0))) (zz (Wu 6 37 1 8 7 168 169) [⟨37,138,slH (x.length+1) (x.length+1),_⟩,⟨1,138,slH (k+2) (k+3),_⟩,zpH 8 138 _] λ a w U=>?_);refine aa<|qk ?_;have U:=U.sel [0,4,1,3,5,6];refine wp_loop_ghost (λ n a w=>∃ j:Nat,n+j=k+2∧St B w0 200 [(6,(NumA .u64 (s:Nat)).va),(7,EqV ((slH (k+2) (x.length+1)).f g0)),(37,EqV ((slH (x.length+1) (x.length+1)).f g0)),(8,EqV ((slH (x.length+1-(k+2)) (x.length+1-(k+2))).f g2)),(168,In ((k+2):Nat)),(169,In (j:Nat))] [⟨37,138,slH (x.length+1) (x.length+1),Nums .u32 (dvF (x.length+1) R s j)⟩,⟨1,138,slH (k+2) (k+3),Nums .u32 (digs (k+3) DD)⟩,⟨8,138,slH (x.length+1-(k+2)) (x.length+1-(k+2)),Nums .u32 (dvQ (x.length+1-(k+2)) X DD 0)⟩] a w) (k+2) ?_ ?_
  ·exact ⟨0,by omega,by rw [Gb,hR];exact U⟩
  intro n a w hI;obtain ⟨j,hn,U⟩:=hI;refine qb<|zg US [] [.v 170 _] (Wq [.o 0]) U (zv G (aN (gq 5 G) (gq 4 G)) o0) (zz (Wu 6 7 37 8 168 169 170) [⟨37,138,slH (x.length+1) (x.length+1),_⟩,⟨1,138,slH (k+2) (k+3),_⟩,zpH 8 138 _] λ a w U=>?_);refine zt<|cd U (zm 6 G) (λ hb5=>?_) (λ hb5=>?_)
  ·have hj:j<k+2:=by simp at hb5;omega
   have hf0:(dvF (x.length+1) R s j)[0+j]?=some (R/4294967296^j%4294967296):=by rw [qV];exact Dp (qi _) zo
   refine qj<|zt<|qk<|qb<|zg US [] [.v 171 _,.v 18 _] (Wq [.o 1]) U (zM 5 G (zA 0 G o0)) (zz (Wu 6 7 37 8 168 169 18) [⟨37,138,slH (x.length+1) (x.length+1),_⟩,⟨1,138,slH (k+2) (k+3),_⟩,zpH 8 138 _] ?_);refine ztA<|zgA Uo [] [.v 19 _] (Wx [.o 0]) (zv G (aR (aF 0 G)) o0) (zz (Wy 6 7 37 8 168 169 18 19) [⟨37,138,slH (x.length+1) (x.length+1),_⟩,⟨1,138,slH (k+2) (k+3),_⟩,zpH 8 138 _] ?_);refine ztA<|zsA<|zgA Uo [] (Wd 172) (WE [.o 4]) (zM 6 G (zv G (aL (vq 0 G) ab (aW zo)) (zM 1 G (zv G (dM qd (vq 2 G)) (zv G (aN (vq 1 G) (vq 3 G)) o0))))) (zz (WF 6 7 37 8 168 169 18 19 176) [⟨37,138,slH (x.length+1) (x.length+1),_⟩,⟨1,138,slH (k+2) (k+3),_⟩,zpH 8 138 _] λ a w U=>?_);refine aa<|bP (λ a w =>  St B w0 200 [(6,(NumA .u64 (s:Nat)).va),(7,EqV ((slH (k+2) (x.length+1)).f g0)),(37,EqV ((slH (x.length+1) (x.length+1)).f g0)),(8,EqV ((slH (x.length+1-(k+2)) (x.length+1-(k+2))).f g2)),(168,In ((k+2):Nat)),(169,In (j:Nat)),(18,In (j:Nat)),(19,(NumA .u32 (R/4294967296^(j+1)%4294967296:Nat)).va)] [⟨37,138,slH (x.length+1) (x.length+1),Nums .u32 (dvF (x.length+1) R s j)⟩,⟨1,138,slH (k+2) (k+3),Nums .u32 (digs (k+3) DD)⟩,⟨8,138,slH (x.length+1-(k+2)) (x.length+1-(k+2)),Nums .u32 (dvQ (x.length+1-(k+2)) X DD 0)⟩] a w) U (zm 8 G) (λ hb6=>?_) (λ hb6=>?_) (λ a w U=>?_)
   ·have hj1:j+1<k+2:=by simp at hb6;omega
    have hf1:(dvF (x.length+1) R s j)[0+(j+1)]?=some (R/4294967296^(j+1)%4294967296):=by rw [qV];exact Dp zo zo
    refine zg US [] (Wd 177 [.v 19 _]) (Wx [.o 5]) U (zM 1 G (zM 6 G (zv G (aL (vq 1 G) ab (aW zo)) (zv G (d3 bc (vq 0 G) (vq 2 G) zo) (zv G (cD (vq 3 G) (lz0 0 G) (gq 2 G) (nums_at' hf1) aO) (zA 4 G o0)))))) (zz (Wy 6 7 37 8 168 169 18 19) [⟨37,138,slH (x.length+1) (x.length+1),_⟩,⟨1,138,slH (k+2) (k+3),_⟩,zpH 8 138 _] λ a w U=>?_);refine aa ?_;have U:=U.sel [0,1,2,3,4,5,6,7];exact U
   ·have hj1:j+1=k+2:=by simp at hb6;omega
    refine qj<|aa ?_;have U:=U.sel [0,1,2,3,4,5,6,7];rw [hj1,hR0];exact U
   refine aa<|zg [some (15,_),η,η] [] (WH 182 [.sto 0]) Wq U (zM 1 G (zM 6 G (zM 7 G (zv G (aH .u64 zk zk (vq 2 G) (wu64 tP)) (zv G (yn (vq 3 G) (aF 32 G) zd (tU bbl)) (zM 1 G (zM 6 G (zv G (d3 bc (vq 5 G) (vq 6 G) zo) (zv G (cD (vq 7 G) (lz0 0 G) (gq 2 G) (nums_at' hf0) aO) (zv G (aH .u64 zk zk (vq 8 G) (wu64 tP)) (zv G (yp (vq 4 G) (vq 9 G) (or64 bbl bbl)) (zM 0 G (zv G (l8 (vq 10 G) (vq 11 G) (⟨by omega,by show (s:Int)≤64;omega⟩) (nshr)) (zv G (aH .u32 zk zk (vq 12 G) (wlow)) (zv G (d3 bc (vq 0 G) (vq 1 G) zo) (oc (gR G G G (vq 14 G) (gq 2 G) (vq 13 G) aO (bJ (by rw [Lh zo];omega))) o0)))))))))))))))) (zz (Wj 6 7 37 8 168 169) [⟨37,138,slH (x.length+1) (x.length+1),_⟩,⟨1,138,slH (k+2) (k+3),_⟩,zpH 8 138 _] λ a w U=>?_);refine ak ?_;refine aa<|zg US [] [.v 197 _,.v 169 _] U8 U (zv G (aL (gq 5 G) ab (aW zo)) (zV 0 G o0)) (zz (Wj 6 7 37 8 168 169) [⟨37,138,slH (x.length+1) (x.length+1),_⟩,⟨1,138,slH (k+2) (k+3),_⟩,zpH 8 138 _] λ a w U=>?_);refine aa ?_;have U:=U.sel [0,1,2,3,4,5];rw [qV,Gc hs32 zo] at U;exact ⟨n-1,by omega,j+1,by omega,U⟩
  ·obtain rfl:j=k+2:=by simp at hb5;omega
   refine qL<|ai<|ai<|az<|zt<|zg US [] (W6 198 (W6 4)) [.g 1,.g 2,.g 3,.o 2,.o 3] U (zM 3 G (zM 1 G (zA 0 G (zA 1 G o0)))) (zz (W8 7 37 8 4 5) [⟨37,138,slH (x.length+1) (x.length+1),_⟩,⟨1,138,slH (k+2) (k+3),_⟩,zpH 8 138 _] λ a w U=>?_);have U:=St.asN (t:=4) U (digs (x.length+1-(k+2)) (val x/val y)) [] 2 rfl (zm 2 rfl) (zm 3 rfl) (by rw [hend4,zX]) (ay _ _).symm (by unfold maxLen;omega) (bY _ _) (by simp only [qu,xo,ay] <;> omega);have U:=St.asN (t:=5) U (digs (k+2) (val x%val y)) ((digs (x.length+1) R).drop (k+2)) 0 rfl (zm 2 rfl) (zm 5 rfl) (by rw [Li,hend5]) (ay _ _).symm (by unfold maxLen;omega) (bY _ _) (by simp only [qu,xV,ay] <;> omega);refine aa<|qh<|mz ?_;exact aP (rs:=[.tmp 4,.tmp 5]) G U (.tmp (zm 1 G) (.tmp (zm 0 G) .nil)) zd
theorem m6 (p q:Int):(p.tdiv q).natAbs=p.natAbs/q.natAbs:=Int.natAbs_tdiv p q
theorem iq (p q:Int):(p.tmod q).natAbs=p.natAbs%q.natAbs:=Int.natAbs_tmod p q
theorem wJ {p q:Int}(h:p.tdiv q≠0):(decide (p<0) != decide (q<0))=decide (p.tdiv q<0):=by
 have hp:p≠0:=λ e=>h (by rw [e,Int.zero_tdiv]);have hq:q≠0:=λ e=>h (by rw [e,Int.tdiv_zero]);have e:∀ {x y:Int},0<x→0<y→0≤x.tdiv y:=λ hx hy=>Int.tdiv_nonneg zo zo;by_cases h2:p<0 <;> by_cases h3:q<0
 ·have:0≤(-p).tdiv (-q):=e zo zo;rw [Int.neg_tdiv,Int.tdiv_neg,Int.neg_neg] at this;simp [h2,h3];omega
 ·have:0≤(-p).tdiv q:=e zo zo;rw [Int.neg_tdiv] at this;simp [h2,h3];omega
 ·have:0≤p.tdiv (-q):=e zo zo;rw [Int.tdiv_neg] at this;simp [h2,h3];omega
 ·have:0≤p.tdiv q:=e zo zo;simp [h2,h3];omega
theorem pf {p q:Int}(h:p.tmod q≠0):decide (p<0)=decide (p.tmod q<0):=by
 by_cases h2:p<0
 ·have:0≤(-p).tmod q:=wu _ zo;rw [Int.neg_tmod] at this;simp [h2];omega
 ·have:0≤p.tmod q:=wu _ zo;simp [h2];omega
theorem rr {p q:Int}(h:p.natAbs<q.natAbs):p.tdiv q=0∧p.tmod q=p:=by
 have h1:(p.tdiv q).natAbs=0:=by rw [m6,xK h]
 have h2:p.tdiv q=0:=by omega
 have h3:=Int.tdiv_mul_add_tmod p q;exact ⟨h2,by rw [h2] at h3;simpa using h3⟩
theorem Dy {a b n m:Nat}(ha:a<4294967296^n)(hb:4294967296^(m-1)≤b)(hm:0<m)(hmn:m≤n):a/b<4294967296^(n+1-m):=by
 have hp:0<4294967296^(m-1):=zK zd;rw [kg zo];have:4294967296^(n+1-m)*4294967296^(m-1)≤4294967296^(n+1-m)*b:=zU _ hb;rw [← xf,show n+1-m+(m-1)=n by omega] at this;omega
theorem HJ {p q:Int}(h:p.natAbs/q.natAbs<4294967296^n):rsig ((riOf p).neg != (riOf q).neg) (digs n (val (riOf p).mag/val (riOf q).mag))=riOf (p.tdiv q):=by
 rw [bF,bF];exact cj (bY _ _) (by rw [dU,zH h,m6]) wJ
theorem Og {p q:Int}(h:p.natAbs%q.natAbs<4294967296^n):rsig (riOf p).neg (digs n (val (riOf p).mag%val (riOf q).mag))=riOf (p.tmod q):=by
 rw [bF,bF];exact cj (bY _ _) (by rw [dU,zH h,iq]) pf
theorem N9 (p:Int):rsig (riOf p).neg (riOf p).mag=riOf p:=cj (oU p) (bF p) λ _=>rfl
theorem IU {p q:Int}(h:decide (cN (riOf p).mag (riOf q).mag<0)=true):p.natAbs<q.natAbs:=by
 have:=(ee (m:=p.natAbs) (n:=q.natAbs)).1;have h':cN (aA p.natAbs) (aA q.natAbs)<0:=qt h;omega
theorem Ex {p q:Int}(h:decide (cN (riOf p).mag (riOf q).mag<0)=false):q.natAbs≤p.natAbs:=by
 have:=(ee (m:=p.natAbs) (n:=q.natAbs)).1;have h':¬ cN (aA p.natAbs) (aA q.natAbs)<0:=qv h;omega
theorem one_limb' {v:Nat}(hv:val l=v)(ok:okL l)(h:l.length=1):l[0]'zo=v∧v<4294967296:=by
 match l,h with
 | [x],_=>exact ⟨by simpa using hv,by have:=ok x (by simp);simp at hv;omega⟩
theorem ey (h:(riOf q).mag.length=1):(riOf q).mag[0]'zo=q.natAbs∧q.natAbs<4294967296:=one_limb' (bF q) (oU q) h
theorem fy {p:Int}:(riOf p).mag.length=lz p:=rfl
theorem Mj (h:(riOf q).mag.length=k+2):(riOf q).mag.getD (k+1) 0≠0:=by
 have h1:=(bm q.natAbs).2;have h2:(aA q.natAbs).length=k+2:=h;intro hh;apply h1;rw [List.getLast?_eq_getElem?,h2,show k+2-1=k+1 from rfl];have:(aA q.natAbs).getD (k+1) 0=0:=hh;rw [List.getD_eq_getElem?_getD,List.getElem?_eq_getElem zo] at this;rw [List.getElem?_eq_getElem zo];simpa using this
theorem iw (h:q≠0):0<lz q:=by unfold lz;rw [dh zo];simp
theorem fO {p q:Int}(h:p.natAbs≤q.natAbs):lz p≤lz q:=cE h
theorem Ho (h:q≠0):4294967296^(lz q-1)≤q.natAbs:=by
 have:=(bm q.natAbs).lt_val (by rw [dh zo];simp);rw [aI] at this;exact this
theorem fh (q:Int):q.natAbs<4294967296^lz q:=cz (qi _)
theorem zi_zeroN:(cat (lE [BoA false,MgN []] [])).va=(RIN (riOf 0)).va:=by
 rw [show riOf 0=⟨false,[]⟩ from by simp [riOf,bE]]
 rfl
theorem Ln {p q:Int}(hq:q≠0)(hge:q.natAbs≤p.natAbs)(h:(riOf q).mag.length=1):rsig ((riOf p).neg != (riOf q).neg) (digs (riOf p).mag.length (val (riOf p).mag/(riOf q).mag[0]'zo))=riOf (p.tdiv q):=by
 rw [show (riOf q).mag[0]'zo=val (riOf q).mag from by rw [(ey h).1,bF]];have:=Dy (fh p) (Ho hq) (iw hq) (fO hge);rw [show lz q=1 from h] at this;exact HJ this
theorem EM {p q:Int}(h:(riOf q).mag.length=1)(hq:q≠0):rsig (riOf p).neg [val (riOf p).mag%(riOf q).mag[0]'zo]=riOf (p.tmod q):=by
 have h1:=ey h;rw [h1.1,bF];have:p.natAbs%q.natAbs<4294967296:=zD (qW _ zo) h1.2;exact cj (okL_cons.2 ⟨this,cU⟩) (by rw [iq];simp) pf
theorem sh (p q:Int)(hq:q≠0)(hp:lz p≤1099511627776):Cn Tryz.prog 218 [Zi p,Zi q] (Tu [(RIN (riOf (p.tdiv q))).va,(RIN (riOf (p.tmod q))).va]):=by
 refine Cn.introW Tryz.func218 G zk nq (.cons (yc _).va (.cons (yc _).va .nil)) (AE (.cons (dA _).va (.cons (dA _).va .nil))) (λ B w0 a hB0 U=>?_);have U:=zn [(0,(RIO (riOf p)).va),(1,(RIO (riOf q)).va)] [] U;refine qb<|zg [] [zpL 2 26 0 _,zpL 3 26 1 _,zpL 4 26 2 _,zpL 5 26 3 _] [.alc 0,.alc 1,.alc 2,.alc 3] [] U (zW 0 G (zW 1 G (zY G (Str.zero ga) (zY G (Str.zero ga) o0)))) (zz [] Rp λ a w U=>?_);refine zt<|qk<|qb<|zg Us [] (.adr 11 2 (.some 1) True::.v 12 _::.adr 13 3 (.some 1) True::(Wb 14 [.v 10 _])) [.o 6] U (zO 0 G ar (zL 0 0 1 G bb (zO 1 G ar (zL 2 1 1 G bb (zQ G ((uf _ _).wk (.cons lC (.cons lC .nil))) (.p (vq 1 G) (vq 3 G)) (zv G (aN (vq 4 G) ab) (zA 5 G o0))))))) (zz [(10,_)] Rp λ a w U=>?_);refine zJ 0 U G (λ hb0=>?_) (λ hb0=>?_)
 ·have hlt:=IU hb0;refine qb<|zg [η,η,some (6,_),some (7,_)] [] (.v 17 _::.adr 18 2 (.some 0) True::.v 19 _::.adr 20 2 (.some 1) True::(W6 21 [.sto 2,.sto 3])) [] U (zv G (aT (qs:=[]) (cI famN) .nil) (zO 0 G aY (zL 1 0 0 G ty_4 (zO 0 G ar (zL 3 0 1 G bb (zQ G ((JB _ _ hp).wk (.cons aG (.cons lC .nil))) (.p (vq 2 G) (vq 4 G)) (zS 0 G ap (zS 5 G ap o0)))))))) (zz [] Rp λ a w U=>?_);refine aa<|qh<|aD ?_;refine aj ?_;refine aJ ?_ (aP (rs:=[.cell 4 26,.cell 5 26]) G U (.cell (zm 2 G) ap (.cell (zm 3 G) ap .nil)) zd);exact tu2 ((qp (λ z=>(RIN (riOf z)).va) (rr hlt).1).trans zi_zeroN.symm).symm (qp (λ x=>(RIN x).va) ((N9 p).trans (qp riOf (rr hlt).2.symm)))
 ·have hge:=Ex hb0;have hp0:0<(riOf p).mag.length:=qD (iw hq) (fO hge);refine qb<|zg Us [] (.adr 24 3 (.some 1) True::(Wb 25 [.v 23 _])) UP U (zO 1 G ar (zL 0 1 1 G bb (zv G (aK qd (aC (vq 1 G))) (zv G (bC (vq 2 G) ab) (zA 3 G o0))))) (zz [(23,_)] Rp λ a w U=>?_);refine zJ 0 U G (λ hb1=>?_) (λ hb1=>?_)
  ·have h1:(riOf q).mag.length=1:=by simp at hb1;omega
   refine qb<|zg Us [] (.adr 28 2 (.some 1) True::(W6 29 [.v 6 _])) UJ U (zO 0 G ar (zL 0 0 1 G bb (zQ G ((DJ _ hp).wk (.cons lC .nil)) (.o (vq 1 G)) (zA 2 G o0)))) (zz [(6,_)] Rp λ a w U=>?_);obtain ⟨c,ext,hc1,hc2,hok,hcx,U⟩:=U.own hB0 0 rfl hp0 rfl;have U:=U.sel [];refine zt<|zg [some (5,_),η,η,η,η] [] (.adr 31 6 .none True::.adr 32 3 (.some 1) True::(Wb 33 [.cal 36 _ 0,.v 7 _])) [.o 6] U (oc (ob_a G G cW) (zO 2 G ar (zL 1 2 1 G bb (zv G (bO bc (aC (vq 2 G)) (aF 0 G) zo) (zv G (ao (vq 3 G) aO) (oc (Nn (xs:=[.tmp 31,.tmp 35]) G G G (IZ _ ext c _ (oU p) hp (by rw [(ey h1).1];omega) (by rw [(ey h1).1];exact (ey h1).2)) (.cons (arw2 0 G zk) (.o (vq 4 G)))) (zv G (aR (KC 5 G zk zk)) o0))))))) (zz [(7,_)] [⟨6,138,slH (riOf p).mag.length c,_⟩,O 2 26 _,O 3 26 _,O 4 26 _,O 5 26 _] λ a w U=>?_);refine zt<|zgd [[],[0],[],[2],(Wm 4),[],(Wm 6),[],[7],[],[9],(Wm 11),(Wm 12),(Wm 13)] [none,none,none,some (12,_),some (13,_)] [] (.adr 37 2 (.some 0) True::.v 38 _::.adr 39 3 (.some 0) True::(W6 40 (.adr 42 6 .none True::.v 43 _::.adr 44 2 (.some 0) True::(Ww 45 [.sto 3,.sto 4])))) [] ac U (zO 1 G aY (zL 0 1 0 G ty_4 (zO 2 G aY (zL 2 2 0 G ty_4 (zv G (mE zk (vq 1 G) (vq 3 G)) (oc (ob_a G G cW) (zQ G (db _ _) (.p (vq 4 G) (Fv 5 G zk (lz0 0 G) ⟨(ay _ _).symm,hc1,hc2,bY _ _⟩ (by rw [hcx,qu,qu,ay]))) (zO 1 G aY (zL 7 1 0 G ty_4 (zM 0 G (zv G (rA (l:=[_]) (xs:=[.tmp 46]) bc zk nq nq (okL_cons.2 ⟨zD (qW _ (by rw [(ey h1).1];omega)) (by rw [(ey h1).1];exact (ey h1).2),cU⟩) (.o (vq 9 G)) G G) (zQ G (db _ _) (.p (vq 8 G) (vq 10 G)) (zS 6 G ap (zS 11 G ap o0)))))))))))))) zk zk zk zk (zz [] [⟨6,138,slH (riOf p).mag.length c,_⟩,O 2 26 _,O 3 26 _,O 4 26 _,O 5 26 _] λ a w U=>?_);refine aa<|qh<|aD ?_;refine aj ?_;refine aJ ?_ (aP (rs:=[.cell 4 26,.cell 5 26]) G U (.cell (zm 3 G) ap (.cell (zm 4 G) ap .nil)) zd);exact tu2 (qp (λ x=>(RIN x).va) (Ln hq hge h1)) (qp (λ x=>(RIN x).va) (EM h1 hq))
  ·have h1:(riOf q).mag.length≠1:=by simp at hb1;omega
   have hql:=iw hq;rw [← fy] at hql;obtain ⟨k,hk⟩:∃ k,(riOf q).mag.length=k+2:=⟨(riOf q).mag.length-2,by omega⟩;have hkp:k+2≤(riOf p).mag.length:=by rw [← hk];exact fO hge
   refine qj<|ak ?_;refine zt<|zg Us [] (.adr 50 2 (.some 1) True::.v 51 _::.adr 52 3 (.some 1) True::(W6 53 (.v 49 _::(W6 55 (W6 8))))) [.o 8,.o 9] U (zO 0 G ar (zL 0 0 1 G bb (zO 1 G ar (zL 2 1 1 G bb (zQ G ((Gf _ _ k hk (Mj hk) hkp hp).wk (.cons lC (.cons lC .nil))) (.p (vq 1 G) (vq 3 G)) (zV 4 G (zv G (aQ (vq 5 G) G) (zv G (aQ (vq 5 G) G) (zA 6 G (zA 7 G o0)))))))))) (zz (Wc 8 9) Rp λ a w U=>?_);refine zt<|zgd [[],[0],[],[2],(Wm 4),[],(Wm 6),[],[7],[],(Wm 10),(Wm 11),(Wm 12)] [none,none,some (11,_),some (12,_)] [] (.adr 57 2 (.some 0) True::.v 58 _::.adr 59 3 (.some 0) True::(Ww 60 (.adr 64 2 (.some 0) True::(Wb 65 [.sto 2,.sto 3])))) [] ac U (zO 0 G aY (zL 0 0 0 G ty_4 (zO 1 G aY (zL 2 1 0 G ty_4 (zv G (mE zk (vq 1 G) (vq 3 G)) (zM 0 G (zQ G (db _ _) (.p (vq 4 G) (vq 5 G)) (zO 0 G aY (zL 7 0 0 G ty_4 (zM 1 G (zQ G (db _ _) (.p (vq 8 G) (vq 9 G)) (zS 6 G ap (zS 10 G ap o0))))))))))))) zk zk zk zk (zz [] Rp λ a w U=>?_);refine aa<|qh<|aJ ?_ (aP (rs:=[.cell 4 26,.cell 5 26]) G U (.cell (zm 2 G) ap (.cell (zm 3 G) ap .nil)) zd);exact tu2 (qp (λ x=>(RIN x).va) (HJ (hk▸Dy (fh p) (Ho hq) (iw hq) (fO hge)))) (qp (λ x=>(RIN x).va) (Og (zD (qW _ zo) (hk▸fh q))))
theorem BY (p:Int):rsig false (riOf p).mag=riOf ((p.natAbs:Nat):Int):=cj (oU p) (by rw [bF];omega) λ _=>by simp
theorem Hq (p:Int):lz ((p.natAbs:Nat):Int)=lz p:=by simp [lz]
theorem NI (h:decide (((riOf (n:Int)).mag.length:Int)>0)=true):0<n:=by
 rcases vT n with rfl|hp
 ·simp [riOf,bE] at h
 ·exact hp
theorem Qq (h:decide (((riOf (n:Int)).mag.length:Int)>0)=false):n=0:=by
 rcases vT n with rfl|hp
 ·rfl
 ·have:=iw (q:=(n:Int)) zo;have h':¬ (((riOf (n:Int)).mag.length:Int)>0):=qv h;rw [fy] at h';omega
theorem K9 {x n:Nat}(h:lz (n:Int)≤1099511627776)(hn:0<n):lz ((x%n:Nat):Int)≤1099511627776:=qf (fO (by have:=qW x hn;omega)) h
theorem FG {x n p:Nat}(h:Nat.gcd x n=p):Nat.gcd n (x%n)=p:=by rw [← h,xY n,xY x,Nat.gcd_rec n x]
theorem wR (p q:Int)(hp:lz p≤1099511627776)(hq:lz q≤1099511627776):Cn Tryz.prog 178 [Zi p,Zi q] ((RIN (riOf ((Int.gcd p q:Nat):Int))).va):=by
 refine Cn.intro Tryz.func178 G zk nq (zy [(0,Zi p),(1,Zi q)] λ B w0 a U=>?_);refine qb<|zg [] Ul Um [] U (zW 0 G (zW 1 G (zY G (Str.zero bu) o0))) (zz [] Un λ a w U=>?_);refine zt<|zgd [[],[0],[0,1],[],[3],(Wm 5),[],[],(Wm 8),(Wm 9)] Uo [⟨5,26,ptrH,some 6,_,some (8,_)⟩,⟨6,26,ptrH,some 7,_,some (9,_)⟩] (.adr 9 2 (.some 1) True::(W6 10 (.adr 12 3 (.some 1) True::(W6 13 [.alc 3,.alc 4,.sto 3,.sto 4])))) [] ac U (zO 0 G ar (zL 0 0 1 G bb (zQ G (JB _ _ hp) (.cons aE (.o (vq 1 G))) (zO 1 G ar (zL 3 1 1 G bb (zQ G (JB _ _ hq) (.cons aE (.o (vq 4 G))) (zY G (Str.zero bu) (zY G (Str.zero bu) (zS 2 G ap (zS 5 G ap o0)))))))))) zk zk zk zk (zz [] Rq λ a w U=>?_);refine zt<|qk ?_;have U:=U.sel [];have U:=U.selL [2,3,4];refine wp_loop_ghost (λ n a w=>∃ x:Nat,(Nat.gcd x n=Int.gcd p q∧lz (x:Int)≤1099511627776∧lz (n:Int)≤1099511627776)∧St B w0 28 [] [⟨4,26,ptrH,cat [BoA false,MgA []]⟩,⟨5,26,ptrH,RIN (riOf ((x:Nat):Int))⟩,⟨6,26,ptrH,RIN (riOf ((n:Nat):Int))⟩] a w) (q.natAbs) ?_ ?_
 ·exact ⟨p.natAbs,⟨rfl,by rw [Hq];exact hp,by rw [Hq];exact hq⟩,by rw [show rsig false (aA p.natAbs)=_ from BY p,show rsig false (aA q.natAbs)=_ from BY q] at U;exact U⟩
 intro n a w hI;obtain ⟨x,⟨hg,hx,hn⟩,U⟩:=hI;refine qb<|qb<|zg US [] (.adr 15 6 (.some 1) True::(Wb 16)) UJ U (zO 2 G ar (zL 0 2 1 G bb (zv G (aK qd (tl (vq 1 G))) (zv G (cM (vq 2 G) ab) o0)))) (zz [(18,_)] [O 4 26 _,O 5 26 _,O 6 26 _] λ a w U=>?_);refine zJ 0 U G (λ hb0=>?_) (λ hb0=>?_)
 ·have h0:=NI hb0;refine qj<|aa<|qk<|qb<|zg US [⟨7,26,ptrH,some 6,_,some (8,_)⟩,⟨8,26,ptrH,some 7,_,some (9,_)⟩] (Wb 20 (.v 19 _::(W6 23 [.alc 3,.alc 4,.sto 3,.sto 4]))) [] U (zl 1 G ap (zl 2 G ap (zQ G ((sh _ _ zo hx).wk (.cons lB (.cons lB .nil))) (.p (vq 0 G) (vq 1 G)) (zV 2 G (zv G (aQ (vq 3 G) G) (zv G (aQ (vq 3 G) G) (zY G (Str.zero bu) (zY G (Str.zero bu) (zS 4 G ap (zS 5 G ap o0)))))))))) (zz [] [O 4 26 _,O 5 26 _,O 6 26 _,O 7 26 _,O 8 26 _] λ a w U=>?_);refine aa<|zgd [[],[],[0],[0,1,2]] [none,some (2,_),some (3,_),none,none] [] (W6 25 [.sto 1,.sto 2]) [] ac U (zl 2 G ap (zl 4 G ap (zS 0 G ap (zS 1 G ap o0)))) zk zk zk zk (zz [] [O 4 26 _,O 5 26 _,O 6 26 _,O 7 26 _,O 8 26 _] λ a w U=>?_);refine ak ?_;refine aa ?_;have U:=U.sel [];have U:=U.selL [0,1,2];exact ⟨x%n,qW _ h0,n,⟨FG hg,hn,K9 hn h0⟩,U⟩
 ·obtain rfl:=Qq hb0;refine qL<|ai<|ai<|az<|zt<|zg [some (1,_),η,η] [] [.v 27 _,.sto 0] [] U (zl 1 G ap (zS 0 G ap o0)) (zz [] [O 4 26 _,O 5 26 _,O 6 26 _] λ a w U=>?_);refine aa<|qh<|aJ ?_ (au G U (zm 0 G) ap);exact qp (λ z:Nat=>(RIN (riOf (z:Int))).va) ((Nat.gcd_zero_right x).symm.trans hg)
theorem Kh (x:RI):Cn Tryz.prog 254 [(RIA x).va] (Bo (decide ((x.mag.length:Int)>2048))):=by
 refine Cn.intro Tryz.func254 G zk nq (zy [(0,(RIA x).va)] λ B w0 a U=>?_);refine qb<|zg [] Uu Uv Uw U (zW 0 G (zE G aE)) (zz Ux Uy ?_);refine ztA<|zgA U4 [] (.adr 3 1 (.some 1) True::(Wb 4 [.v 2 _])) UP (zO 0 G ar (zL 0 0 1 G bb (zv G (aK qd (vq 1 G)) (zv G (cM (vq 2 G) ab) (zA 3 G o0))))) (zz Ux Uy λ a w U=>?_);exact aa<|qh<|am G U (zm 0 G)
def bigI (x:RI):Bool:=decide ((x.mag.length:Int)>2048)
theorem Ki (x:RI):Cn Tryz.prog 254 [(RIA x).va] (Bo (bigI x)):=Kh x
theorem Gx {l:List RI}(h:j<l.length)(h2:bigI l[j]=true):l.any bigI=true:=jk.2 ⟨_,qg h,h2⟩
theorem IE {l:List RI}(h:j<l.length)(h1:(l.take j).any bigI=false)(h2:bigI l[j]=false):(l.take (j+1)).any bigI=false:=by
 rw [qw h,kb,h1];simp [h2]
def IxV (b:Bool):VA where
 p _ v _:=∃ n:Int,v=.int .i64 n∧b=decide (n≥0)
 deps:=[]
 cg:=λ _ _ _ _ _ h=>h
 wr:=λ _ _ _ _ _ _ _ _ _ _ _ _ h=>h
theorem NN {n:Int}{b:Bool}(h:b=decide (n≥0)):Wk (In n) (IxV b):=λ _ _ _ hv=>⟨n,bj hv,h⟩
theorem r_ix {R:Rg}{xt yt:Yh}{b:Bool}(hx:Has R B w0 i x (IxV b)):Wv P Q R B w0 i (.binOp .geq xt x (.const (.int .i64 0)) yt) (Bo b) :=
 bk λ _ _ _ _ _ a w av=>by
  obtain ⟨n,e1,rfl⟩:=hx a w av;refine ⟨.bool (decide (n≥0)),w,?_,Grow.refl w,dJ _ _ _⟩;have hg:(eqGuard .geq xt x (.const (.int .i64 0)) (.int .i64 n) (.int .i64 0)).run P w=.ok () w:=by unfold eqGuard;split <;> rfl
  have e2:a.eval (.const (.int .i64 0))=.int .i64 0:=rfl;have hr:(binOp .geq xt (.int .i64 n) (.int .i64 0)).run P w=.ok (.bool (decide (n≥0))) w:=by rw [binOp_geq];rfl
  simp only [execOp,e1,e2,Sem.run_bind,hg,hr,Result.andThen_ok,Sem.run_pure]
theorem Kv (l:List RI)(hl:l.length≤1099511627776):Cn Tryz.prog 264 [(SlA 26 [U32] (l.map RIA)).va,FnV Tryz.prog [] (λ x:RI=>[(RIA x).va]) (λ x=>Bo (bigI x))] (IxV (l.any bigI)):=by
 refine Cn.intro Tryz.func264 G zk nq (zy [(0,(SlA 26 [U32] (l.map RIA)).va),(1,FnV Tryz.prog [] (λ x:RI=>[(RIA x).va]) (λ x=>Bo (bigI x)))] λ B w0 a U=>?_);refine qb<|zh WR WS U (zE G ab) (zz WT [] ?_);refine ztA<|zsA<|zhA (Wb 6) (W7 [.o 1,.o 2]) (zM 0 G (zv G (bg Tryz.underlying271 (vq 0 G)) (zv G (aq ab) o0))) (zz (W8 0 1 4 7 8) [] λ a w U=>?_);refine aa<|qk ?_;have U:=U.sel [0,1,3,4];refine wp_loop_ghost (λ n a w=>∃ j:Nat,(n+j=l.length∧(l.take j).any bigI=false)∧St B w0 19 [(0,(SlA 26 [U32] (l.map RIA)).va),(1,FnV Tryz.prog [] (λ x:RI=>[(RIA x).va]) (λ x=>Bo (bigI x))),(7,In (l.length:Nat)),(8,In (j:Nat))] [] a w) (l.length) ?_ ?_
 ·exact ⟨0,⟨by omega,rfl⟩,by rw [qc] at U;exact U⟩
 intro n a w hI;obtain ⟨j,⟨hn,hno⟩,U⟩:=hI;refine qb<|zh [.v 9 _] Ut U (zv G (aN (gq 3 G) (gq 2 G)) o0) (zz (W8 0 1 7 8 9) [] λ a w U=>?_);refine zt<|cd U (zm 4 G) (λ hb0=>?_) (λ hb0=>?_)
 ·have hj:j<l.length:=by simp at hb0;omega
  refine qj<|zt<|qk<|qb<|zh [.v 10 _,.v 5 _] Rh U (zM 3 G (zA 0 G o0)) (zz (W8 0 1 7 8 5) [] ?_);refine ztA<|zhA (Wl 11) (Wi [.o 5]) (zM 1 G (zM 0 G (zM 4 G (zv G (bB AW (bX λ _=>rfl) (vq 1 G) (vq 2 G) (bn hj)) (zv G (ao (vq 3 G) ap) (zv G (Jj _ (vq 0 G) (.o (vq 4 G))) o0)))))) (zz (Wj 0 1 7 8 5 16) [] λ a w U=>?_);refine zJ 5 U G (λ hb1=>?_) (λ hb1=>?_)
  ·refine qb<|zh [.v 17 _,.v 4 _] Rh U (zM 4 G (zA 0 G o0)) (zz (W8 0 1 7 8 4) [] λ a w U=>?_);refine aa<|qh<|aD ?_;refine aj ?_;refine aj ?_;refine aD ?_;refine aj ?_;refine al ?_ (am G U (zm 4 G));exact NN (by rw [Gx hj hb1];simp)
  ·refine qj<|ak ?_;refine aa<|zh [.v 18 _,.v 8 _] WX U (zv G (aL (gq 3 G) ab (aW zo)) (zV 0 G o0)) (zz (Wf 0 1 7 8) [] λ a w U=>?_);refine aa ?_;have U:=U.sel [0,1,2,3];exact ⟨n-1,by omega,j+1,⟨by omega,IE hj hno hb1⟩,U⟩
 ·obtain rfl:j=l.length:=by simp at hb0;omega
  refine qL<|ai<|ai<|az<|zt<|zh WR U2 U (zE G ab) (zz U3 [] λ a w U=>?_);refine aa<|qh<|al ?_ (am G U (zm 0 G));exact NN (by rw [qH] at hno;rw [hno];rfl)
theorem A7 (l:List RI)(hl:l.length≤1099511627776):Cn Tryz.prog 253 [(SlA 26 [U32] (l.map RIA)).va,FnV Tryz.prog [] (λ x:RI=>[(RIA x).va]) (λ x=>Bo (bigI x))] (Bo (l.any bigI)):=by
 refine Cn.intro Tryz.func253 G zk nq (zy [(0,(SlA 26 [U32] (l.map RIA)).va),(1,FnV Tryz.prog [] (λ x:RI=>[(RIA x).va]) (λ x=>Bo (bigI x)))] λ B w0 a U=>?_);refine qb<|zh WR WS U (zE G aE) (zz WT [] ?_);refine ztA<|zhA (Ww 5 [.v 4 _]) UP (zM 0 G (zM 1 G (zQ G (Kv _ hl) (.p (vq 0 G) (vq 1 G)) (zv G (r_ix (vq 2 G)) (zA 3 G o0))))) (zz U3 [] λ a w U=>?_);exact aa<|qh<|am G U (zm 0 G)
theorem Cu (l:List RI)(hl:l.length≤1099511627776):Cn Tryz.prog 239 [(SlA 26 [U32] (l.map RIA)).va] (Bo (l.any bigI)):=by
 refine Cn.intro Tryz.func239 G zk nq (zy [(0,(SlA 26 [U32] (l.map RIA)).va)] λ B w0 a U=>?_);refine qb<|zh UA Rk U (zE G aE) (zz Rl [] ?_);refine ztA<|zhA (W6 3 [.v 2 _]) Ud (zM 0 G (zQ G (A7 _ hl) (.p (vq 0 G) (Fx Ki)) (zA 1 G o0))) (zz Ux [] λ a w U=>?_);exact aa<|qh<|am G U (zm 0 G)
theorem t8 {z:Int}(h:z.natAbs<4294967296^k):lz z≤k:=ez h
theorem iy (p q:Int):lz (p*q)≤lz p+lz q:=by
 apply t8;rw [jS,xf];exact kV (fh p) (fh q)
theorem rL (p q:Int):lz (p+q)≤max (lz p) (lz q)+1:=by
 apply t8;have h1:p.natAbs<4294967296^max (lz p) (lz q):=qD (fh p) (zZ zd (jp _ _));have h2:q.natAbs<4294967296^max (lz p) (lz q):=qD (fh q) (zZ zd (jj _ _));have h3:=Int.natAbs_add_le p q;rw [zi];omega
theorem Hn (p q:Int):lz (p-q)≤max (lz p) (lz q)+1:=by have:=rL p (-q);rw [lK] at this;exact this
theorem pg (p q:Int):lz (p.tdiv q)≤lz p:=fO (by rw [m6];exact ka _ _)
theorem Ka {p q:Int}(h:q≠0):lz (p.tmod q)≤lz q:=fO (by rw [iq];exact xb (qW _ zo))
theorem Cj (p q:Int):lz ((Int.gcd p q:Nat):Int)≤max (lz p) (lz q):=by
 by_cases h:p=0
 ·subst h;have:lz ((Int.gcd 0 q:Nat):Int)=lz q:=by simp [lz]
  omega
 ·have:lz ((Int.gcd p q:Nat):Int)≤lz p:=fO (by
   have:Int.gcd p q≤p.natAbs:=Nat.le_of_dvd zo (jB _ _);omega)
  omega
def ZA (k:Nat)(z:Int):As:=(RIA (riOf z)).and (lz z≤k)
abbrev Zs (k:Nat)(z:Int):VA:=(ZA k z).va
theorem wk_z {z:Int}:Wk (Zs k z) (Zi z):=λ _ _ _ h=>(eD h).2
theorem I7 {z:Int}(h:(Zs k z).p B v w):lz z≤k:=(eD h).1
theorem gC {z:Int}(h:lz z≤k):Wk (Zi z) (Zs k z):=λ _ _ _ hp=>GM h hp
section
variable {P:Program}{f:FuncId}{post:VA}{a b:Nat}{p q:Int}
theorem zs1 (hex:Xx P f)(h:lz p≤a→Cn P f [Zi p] post):Cn P f [Zs a p] post :=
 Cn.know (c:=lz p≤a) hex (λ B w args ha=>by cases ha with|cons h1 _=>exact I7 h1) λ hc=>(h hc).wk (.cons wk_z .nil)
theorem zs2 (hex:Xx P f)(h:lz p≤a→lz q≤b→Cn P f [Zi p,Zi q] post):Cn P f [Zs a p,Zs b q] post :=
 Cn.know (c:=lz p≤a∧lz q≤b) hex (λ B w args ha=>by cases ha with|cons h1 ha=>cases ha with|cons h2 _=>exact ⟨I7 h1,I7 h2⟩) λ hc=>(h hc.1 hc.2).wk (.cons wk_z (.cons wk_z .nil))
end
theorem cB {A A' A'':VA}(h:Wk A A')(h':Wk A' A''):Wk A A'':=λ B v w hp=>h' B v w (h B v w hp)
theorem ba {A A':VA}(h:A=A'):Wk A A':=h▸aG
theorem Pa {l l':Yc}(h:All2 Wk l l'):∀ {vs:Ym},All2 (λ (A:VA) v=>A.p B v w) l vs→All2 (λ (A:VA) v=>A.p B v w) l' vs:=by
 induction h with
 | nil=>intro vs hp;cases hp;exact .nil
 | cons h1 _ ih=>intro vs hp;cases hp with|cons h2 h3=>exact .cons (h1 _ _ _ h2) (ih h3)
theorem Ej {l l':Yc}(h:All2 Wk l l'):Wk (Tu l) (Tu l'):=λ _ _ _ ⟨vs,hv,hp⟩=>⟨vs,hv,Pa h hp⟩
def sg3 (p q:Int):Int:=if p<q then -1 else if q<p then 1 else 0
theorem dL (p:Int):sgI (riOf p)=p.sign:=by
 unfold sgI;by_cases h:p=0
 ·subst h;simp [riOf,bE]
 ·have:=iw h;rw [fy,qz zo];by_cases h2:p<0
  ·simp [riOf,h2,xN h2]
  ·have:0<p:=by omega
   simp [riOf,h2,xZ this]
theorem Ey (m n:Nat):(cN (aA m) (aA n)<0↔m<n)∧(cN (aA m) (aA n)=0↔m=n)∧(0<cN (aA m) (aA n)↔n<m):=by
 have:=(ee (m:=m) (n:=n));omega
theorem HO (p q:Int):cmpI (riOf p) (riOf q)=sg3 p q:=by
 unfold cmpI;rw [dL,dL];have h:=Ey p.natAbs q.natAbs;have e1:(riOf p).mag=aA p.natAbs:=rfl;have e2:(riOf q).mag=aA q.natAbs:=rfl;rw [e1,e2];generalize cN (aA p.natAbs) (aA q.natAbs)=s at *;have hp:p.sign=if p<0 then -1 else if p=0 then 0 else 1:=by
  rcases kT p 0 with h|h|h
  ·rw [qC h,xN h]
  ·subst h;rfl
  ·rw [qz zo,qz zo,xZ h]
 have hq:q.sign=if q<0 then -1 else if q=0 then 0 else 1:=by
  rcases kT q 0 with h|h|h
  ·rw [qC h,xN h]
  ·subst h;rfl
  ·rw [qz zo,qz zo,xZ h]
 have hn:(riOf p).neg=decide (p<0):=rfl;rw [hp,hq,hn];unfold sg3;by_cases h1:p<0
 ·by_cases h2:q<0
  ·simp only [h1,h2,if_true,decide_true];rw [qz zo];split <;> (try split) <;> omega
  ·rw [qC h1,qz h2,qC (by split <;> omega),qC (by split <;> omega),qC zo]
 ·by_cases h2:q<0
  ·rw [qz h1,qC h2,qC (by split <;> omega),qz (by split <;> omega),qz zo,qC zo]
  ·simp only [h1,h2,if_false,decide_false];by_cases h3:p=0 <;> by_cases h4:q=0 <;> simp only [h3,h4,if_true,if_false]
   ·rw [qz zo];simp;omega
   ·rw [qC zo,qC zo,qC zo]
   ·rw [qC zo,qz zo,qz zo,qC zo]
   ·rw [qz zo];simp only [Bool.false_eq_true,if_false];split <;> (try split) <;> omega
theorem Em (p q:Int):rsig ((riOf p).neg != (riOf q).neg) (digs ((riOf p).mag.length+(riOf q).mag.length) (val (riOf p).mag*val (riOf q).mag))=riOf (p*q):=by
 rw [bF,bF];refine cj (bY _ _) ?_ λ hz=>?_
 ·rw [dU,zH,jS];rw [fy,fy,xf];exact kV (fh p) (fh q)
 ·have hp:p≠0:=λ e=>hz (by rw [e,Int.zero_mul]);have hq:q≠0:=λ e=>hz (by rw [e,vu]);show (decide (p<0) != decide (q<0))=decide (p*q<0);by_cases h1:p<0 <;> by_cases h2:q<0
  ·have:=vc h1 h2;simp [h1,h2];omega
  ·have:=jX h1 (by omega:0<q);simp [h1,h2];omega
  ·have:=jW (by omega:0<p) h2;simp [h1,h2];omega
  ·have:=vF (by omega:0<p) (by omega:0<q);simp [h1,h2];omega
theorem G5:Xx Tryz.prog 191:=⟨_,Tryz.func191,zk,zk⟩
theorem Di:Xx Tryz.prog 108:=⟨_,Tryz.func108,zk,zk⟩
theorem G6:Xx Tryz.prog 193:=⟨_,Tryz.func193,zk,zk⟩
theorem O7:Xx Tryz.prog 177:=⟨_,Tryz.func177,zk,zk⟩
theorem L7:Xx Tryz.prog 176:=⟨_,Tryz.func176,zk,zk⟩
theorem Dj:Xx Tryz.prog 218:=⟨_,Tryz.func218,zk,zk⟩
theorem Dk:Xx Tryz.prog 178:=⟨_,Tryz.func178,zk,zk⟩
theorem Dc:Xx Tryz.prog 192:=⟨_,Tryz.func192,zk,zk⟩
section
variable {a b:Nat}{p q:Int}(ha:a≤1099511627776)
include ha
theorem ov:Cn Tryz.prog 192 [Zs a p] (Zs a (-p)):=zs1 Dc λ h=>(AD p zo).wkp (gC (by rw [lK];exact h))
variable (hb:b≤1099511627776)
include hb
theorem dO:Cn Tryz.prog 191 [Zs a p,Zs b q] (Zs (a+b) (p*q)):=zs2 G5 λ h h'=>(ID (riOf p) (riOf q) (by rw [fy];omega) (by rw [fy];omega)).wkp (cB (cB lB (ba (qp (λ x=>(RIA x).va) (Em p q)))) (gC (by have:=iy p q;omega)))
theorem ux:Cn Tryz.prog 108 [Zs a p,Zs b q] (Zs (max a b+1) (p+q)):=zs2 Di λ h h'=>(He p q zo zo).wkp (gC (by have:=rL p q;omega))
theorem K4:Cn Tryz.prog 193 [Zs a p,Zs b q] (Zs (max a b+1) (p-q)):=zs2 G6 λ h h'=>(Ce p q zo zo).wkp (gC (by have:=Hn p q;omega))
theorem Ot:Cn Tryz.prog 177 [Zs a p,Zs b q] (In (sg3 p q)):=zs2 O7 λ h h'=>(HP (riOf p) (riOf q) (by rw [fy];omega) (by rw [fy];omega)).post (by rw [HO])
theorem Gj:Cn Tryz.prog 178 [Zs a p,Zs b q] (Zs (max a b) ((Int.gcd p q:Nat):Int)):=zs2 Dk λ h h'=>(wR p q zo zo).wkp (cB lB (gC (by have:=Cj p q;omega)))
omit hb in
theorem wK (hq:q≠0):Cn Tryz.prog 218 [Zs a p,Zs b q] (Tu [Zs a (p.tdiv q),Zs b (p.tmod q)]):=zs2 Dj λ h h'=>(sh p q hq zo).wkp (Ej (.cons (cB lB (gC (by have:=pg p q;omega))) (.cons (cB lB (gC (by have:=Ka (p:=p) hq;omega))) .nil)))
end
theorem AZ {a:Nat}{p:Int}:Cn Tryz.prog 176 [Zs a p] (In p.sign):=zs1 L7 λ _=>(ug (riOf p)).post (by rw [dL])
theorem of_z {n:Int}(h0 : -9223372036854775808≤n)(h1:n<9223372036854775808):Cn Tryz.prog 107 [In n] (Zs 2 n):=(of_c n h0 h1).wkp (gC (t8 zo))
def QA (k:Nat)(r:Rat):As:=cat [ZA k r.num,ZA k (r.den:Int)]
abbrev Qs (k:Nat)(r:Rat):VA:=(QA k r).va
def WkA (A A':As):Prop:=A'.n=A.n∧A'.ag=A.ag∧∀ B cs w,A.p B cs w→A'.p B cs w
theorem WkA.va {A A':As}(h:WkA A A'):Wk A.va A'.va:=λ B v w ⟨cs,hp,hv⟩=>⟨cs,h.2.2 B cs w hp,by rw [h.2.1];exact hv⟩
theorem WkA.refl (A:As):WkA A A:=⟨rfl,rfl,λ _ _ _ h=>h⟩
theorem WkA.trans {A A' A'':As}(h:WkA A A')(h':WkA A' A''):WkA A A'':=⟨h'.1.trans h.1,h'.2.1.trans h.2.1,λ B cs w hp=>h'.2.2 B cs w (h.2.2 B cs w hp)⟩
theorem gZ (h:A=A'):WkA A A':=h▸WkA.refl A
theorem br {l l':Yb}(h:All2 WkA l l'):WkA (cat l) (cat l'):=by
 have key:∀ {l l':List As},All2 WkA l l'→(cat l').n=(cat l).n∧∀ B ps w,All2 (λ (A:As) c=>A.p B c w) l ps→All2 (λ (A:As) c=>A.p B c w) l' ps:=by
  intro l l' h
  induction h with
  | nil=>exact ⟨rfl,λ B ps w h=>by cases h;exact .nil⟩
  | cons h1 _ ih =>
   refine ⟨?_,λ B ps w h=>?_⟩
   ·have:=ih.1;simp only [cat,qS,xe] at this ⊢;rw [h1.1,this]
   ·cases h with
    | cons h2 h3=>exact .cons (h1.2.2 _ _ _ h2) (ih.2 _ _ _ h3)
 exact ⟨(key h).1,rfl,λ B cs w ⟨ps,e1,e2⟩=>⟨ps,e1,(key h).2 B ps w e2⟩⟩
theorem zaA {z:Int}:WkA (ZA k z) (RIA (riOf z)):=⟨rfl,rfl,λ _ _ _ h=>h.2⟩
theorem Ib {z:Int}(h:lz z≤k):WkA (RIA (riOf z)) (ZA k z):=⟨rfl,rfl,λ _ _ _ hp=>⟨h,hp⟩⟩
theorem fE {k k':Nat}{z:Int}(h:k≤k'):WkA (ZA k z) (ZA k' z):=⟨rfl,rfl,λ _ _ _ hp=>⟨qf hp.1 h,hp.2⟩⟩
theorem qaA {r:Rat}:WkA (QA k r) (RFA (rfOf r)):=br (.cons zaA (.cons zaA .nil))
theorem F7 {r:Rat}(h:lz r.num≤k)(h':lz (r.den:Int)≤k):WkA (RFA (rfOf r)) (QA k r):=br (.cons (Ib h) (.cons (Ib h') .nil))
theorem cc {k k':Nat}{r:Rat}(h:k≤k'):WkA (QA k r) (QA k' r):=br (.cons (fE h) (.cons (fE h) .nil))
theorem St.wkL (h:St B w0 N Γ Λ a w)(k:Nat)(hm:Λ[k]?=some ⟨s,T,H,A⟩)(e:WkA A A'):St B w0 N Γ (Λ.set k ⟨s,T,H,A'⟩) a w:=by
 obtain ⟨hk,he⟩:=List.getElem?_eq_some_iff.1 hm;have hset:∀ l∈Λ.set k ⟨s,T,H,A'⟩,l=⟨s,T,H,A'⟩∨l∈Λ:=λ l hl=>(qA hl).symm;have hin:(⟨s,T,H,A⟩:Lc)∈Λ:=qa hm;have hd:∀ l∈Λ.set k ⟨s,T,H,A'⟩,∃ l'∈Λ,l'.s=l.s:=λ l hl=>by
  rcases hset l hl with rfl|hl
  ·exact ⟨_,hin,rfl⟩
  ·exact ⟨l,hl,rfl⟩
 refine ⟨h.lo,h.defers,h.size,h.base,h.vals,λ l hl=>?_,λ l hl m hm' hne=>?_⟩
 ·rcases hset l hl with rfl|hl
  ·obtain ⟨g,cs,h1,h2,h3,h4⟩:=h.locs _ hin;exact ⟨g,cs,h1,h2,h3,e.2.2 _ _ _ h4⟩
  ·exact h.locs l hl
 ·obtain ⟨l',hl',e1⟩:=hd l hl;obtain ⟨m',hm'',e2⟩:=hd m hm';have:=h.dis l' hl' m' hm'' (by rw [e1,e2];exact hne);rw [e1,e2] at this;exact this
theorem CW (h:(sg3 ((n:Nat):Int) 1 != 0)=false):n=1:=by
 unfold sg3 at h;simp at h;split at h
 ·simp at h
 ·split at h
  ·simp at h
  ·omega
theorem GR {x:Int}(h:(sg3 ((n:Nat):Int) 1 != 0)=false):x=x.tdiv ((n:Nat):Int):=by rw [CW h,Int.natCast_one,Int.tdiv_one]
theorem B6 {z:Int}(h:decide (z.sign<0)=true):z<0:=wi.1 (qt h)
theorem GZ {z:Int}(h:decide (z.sign<0)=false):¬ z<0:=λ hh=>qv h (wi.2 hh)
theorem ta {p q:Int}(hq:q≠0):(if q.tdiv (Int.gcd p q:Nat)<0 then -(p.tdiv (Int.gcd p q:Nat)) else p.tdiv (Int.gcd p q:Nat))=(Rat.divInt p q).num ∧
  (if q.tdiv (Int.gcd p q:Nat)<0 then -(q.tdiv (Int.gcd p q:Nat)) else q.tdiv (Int.gcd p q:Nat))=((Rat.divInt p q).den:Int):=by
 have hg:0<Int.gcd p q:=x4 p hq;have d1:((Int.gcd p q:Nat):Int)∣p:=Int.gcd_dvd_left ..;have d2:((Int.gcd p q:Nat):Int)∣q:=Int.gcd_dvd_right ..;rw [Rat.num_divInt,Rat.den_divInt,qz hq,Int.gcd_comm q p];generalize Int.gcd p q=g at *;obtain ⟨x,rfl⟩:=d1;obtain ⟨y,rfl⟩:=d2;have hg':(g:Int)≠0:=by omega
 rw [vh _ hg',vh _ hg'];have hy:y≠0:=λ e=>hq (by rw [e,vu]);have e2:((g:Int)*y).natAbs/g=y.natAbs:=by rw [jS];exact Nat.mul_div_cancel_left _ hg
 rw [e2];by_cases h:y<0
 ·have h1:(g:Int)*y<0:=jW zo h;rw [xN h1,qC h,qC h];refine ⟨?_,by omega⟩;rw [show (-1:Int)*(g*x)=g*(-x) by rw [Int.mul_neg];omega,vi _ hg']
 ·have h1:0<(g:Int)*y:=vF zo zo;rw [xZ h1,qz h,qz h,Int.one_mul,vi _ hg'];exact ⟨rfl,by omega⟩
theorem gV {p q:Int}(hq:q≠0):lz (Rat.divInt p q).num≤lz p∧lz ((Rat.divInt p q).den:Int)≤lz q:=by
 obtain ⟨h1,h2⟩:=ta (p:=p) hq;rw [← h1,← h2];have a1:=pg p (Int.gcd p q:Nat);have a2:=pg q (Int.gcd p q:Nat);constructor <;> split <;> first | (rw [lK];assumption) | assumption
theorem gj {p q:Int}(hc:c≤1099511627776)(hd:d≤1099511627776)(hq:q≠0):Cn Tryz.prog 190 [Zs c p,Zs d q] (Qs (max c d) (Rat.divInt p q)):=by
 have hg0:0<Int.gcd p q:=x4 p hq;obtain ⟨hn1,hn2⟩:=ta (p:=p) hq;refine Cn.intro Tryz.func190 G zk nq (zy [(0,Zs c p),(1,Zs d q)] λ B w0 a U=>?_);refine qb<|zg [] Rr Um [] U (zW 0 G (zW 1 G (zY G (Str.zero aS) o0))) (zz [] Rt ?_);refine ztA<|zsA<|zgA Uo [⟨5,26,ptrH,some 3,_,some (4,_)⟩] (Wb 6 [.alc 3,.sto 3]) [] (zl 0 G ap (zl 1 G ap (zQ G (Gj zo zo) (.p (vq 0 G) (vq 1 G)) (zY G (Str.zero bu) (zS 2 G ap o0))))) (zz [] Ru λ a w U=>?_);refine zt<|zgd UW Uq [] (Ww 9) UJ ac U (zl 3 G ap (zQ G (of_z zd zd) (.cons ab .nil) (zQ G (Ot zo zo) (.p (vq 0 G) (vq 1 G)) (zv G (ca (vq 2 G) ab) o0)))) zk zk zk zk (zz [(12,_)] Ru λ a w U=>?_);refine aa<|bP (λ a w =>  St B w0 35 [] [⟨2,26,ptrH,ZA c (p.tdiv ((Int.gcd p q:Nat):Int))⟩,⟨3,26,ptrH,ZA d (q.tdiv ((Int.gcd p q:Nat):Int))⟩,⟨4,28,ptrH,RFA ⟨⟨false,[]⟩,⟨false,[]⟩⟩⟩,⟨5,26,ptrH,ZA (max c d) ((Int.gcd p q:Nat):Int)⟩] a w) U (zm 0 G) (λ hb0=>?_) (λ hb0=>?_) (λ a w U=>?_)
 ·refine qb<|zg [some (6,_),η,η,η] [] (Wb 14 (.v 13 _::(W6 17 [.sto 0]))) [] U (zl 0 G ap (zl 3 G ap (zQ G (wK zo zo) (.p (vq 0 G) (vq 1 G)) (zV 2 G (zv G (aQ (vq 3 G) G) (zv G (aQ (vq 3 G) G) (zS 4 G ap o0))))))) (zz [] Ru ?_);refine znA<|zgA [none,some (6,_),none,none] [] (Wb 20 (.v 19 _::(W6 23 [.sto 1]))) [] (zl 1 G ap (zl 3 G ap (zQ G (wK zo zo) (.p (vq 0 G) (vq 1 G)) (zV 2 G (zv G (aQ (vq 3 G) G) (zv G (aQ (vq 3 G) G) (zS 4 G ap o0))))))) (zz [] Ru λ a w U=>?_);refine aa ?_;have U:=U.sel [];exact U
 ·refine qj<|aa ?_;have U:=U.sel [];have U:=St.cvA (A':=ZA c (p.tdiv ((Int.gcd p q:Nat):Int))) U 0 rfl (qp (ZA c) (GR hb0));have U:=St.cvA (A':=ZA d (q.tdiv ((Int.gcd p q:Nat):Int))) U 1 rfl (qp (ZA d) (GR hb0));exact U
 refine zt<|qb<|zg Us [] (Wb 25) Ud U (zl 1 G ap (zQ G AZ (.o (vq 0 G)) (zv G (aN (vq 1 G) ab) o0))) (zz [(27,_)] Ru λ a w U=>?_);refine aa<|bP (λ a w =>  St B w0 35 [] [⟨2,26,ptrH,ZA c (Rat.divInt p q).num⟩,⟨3,26,ptrH,ZA d ((Rat.divInt p q).den:Int)⟩,⟨4,28,ptrH,RFA ⟨⟨false,[]⟩,⟨false,[]⟩⟩⟩,⟨5,26,ptrH,ZA (max c d) ((Int.gcd p q:Nat):Int)⟩] a w) U (zm 0 G) (λ hb1=>?_) (λ hb1=>?_) (λ a w U=>?_)
 ·refine zgd UE [some (4,_),some (5,_),none,none] [] (Ww 28 [.sto 0,.sto 1]) [] ac U (zl 0 G ap (zQ G (ov zo) (.o (vq 0 G)) (zl 1 G ap (zQ G (ov zo) (.o (vq 2 G)) (zS 1 G ap (zS 3 G ap o0)))))) zk zk zk zk (zz [] Ru λ a w U=>?_);refine aa ?_;have U:=U.sel [];rw [qC (B6 hb1)] at hn1 hn2;rw [hn1,hn2] at U;exact U
 ·refine qj<|aa ?_;have U:=U.sel [];rw [qz (GZ hb1)] at hn1 hn2;rw [hn1,hn2] at U;exact U
 refine zt<|zg [η,η,some (3,_),η] [] (Wb 32 [.sto 2]) [] U (zl 0 G ap (zl 1 G ap (zv G (aT (qs:=[(0,_),(1,_)]) aS (.cons ⟨rfl,vq 0 rfl,rfl⟩ (.cons ⟨rfl,vq 1 rfl,rfl⟩ .nil))) (zS 2 G ax o0)))) (zz [] Ru λ a w U=>?_);refine aa<|qh<|al ?_ (au G U (zm 2 G) ax);exact (br (.cons (fE (jp _ _)) (.cons (fE (jj _ _)) .nil))).va
end Go.Proofs.YtbghmmnkciimdaaGreatDoor
