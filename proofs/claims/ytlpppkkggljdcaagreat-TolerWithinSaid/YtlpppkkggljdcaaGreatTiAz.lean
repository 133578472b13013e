/- TolerWithin: for all loose elements and all benches within: the law of chapter 24, the stage\'s theorem, answers true. No condition. -/
import Derived.Test.YtlpppkkggljdcaaGreatTiAa
import Derived.Test.YtlpppkkggljdcaaGreatTiAc
import Derived.Test.YtlpppkkggljdcaaGreatTiAy
import Derived.Test.YtlpppkkggljdcaaGreatRows
import Derived.WalkKit
import Derived.ProofKit
import Derived.OpenShut
import Derived.ShutString
import Derived.ChangeOld
import Derived.Below
set_option linter.unusedVariables false
set_option linter.unusedSimpArgs false
set_option linter.unusedSectionVars false
set_option maxRecDepth 100000
namespace Go.Proofs.YtlpppkkggljdcaaGreat
open Go Go.RowKit
abbrev LsT (q:MQ):Prop:=longQ q.a=false∧longQ q.b=false∧longQ q.c=false∧longQ q.d=false
theorem asM_T {m:MQ}(h:LsT m):asM 0 m=(rmOf m,0):=by
 obtain ⟨h1,h2,h3,h4⟩:=h
 rw [asM,if_pos rfl,if_neg (by simp [h1,h2,h3,h4])]
theorem all2_b8 {B:Nat}{w:World}:∀ {ts:List Nat} {ps:List (List Value)},All2 (fun (A:As) c=>A.p B c w) (ts.map U8A) ps→okB8 ts
 | [],_,_=>fun _ h=>by cases h
 | t::ts,_,h=>by
  cases h with
  | cons h1 h2 =>
   intro x hx
   rcases List.mem_cons.1 hx with rfl | hx
   ·exact h1.1
   ·exact all2_b8 h2 x hx
theorem sl_b8 {E:TypeId}{D:List TypeId}{B:Nat}{v:Value}{w:World}{ts:List Nat}(h:(SlA E D (ts.map U8A)).va.p B v w):okB8 ts:=by
 obtain ⟨cs,⟨_,A,c,ds,_,_,_,⟨ps,_,h2⟩,_⟩,_⟩:=h
 exact all2_b8 h2
structure WiOk (xs:List RLo) (ys:List RE):Prop where
 i:All2 InB xs ys
 h:chF ys=0
 l:LsT (prodQ ys)
 k:okM (rmOf (prodQ ys))=true
 tl:longQ (trQ' (prodQ ys))=false
 pl:longQ (pwQ' (prodQ ys))=false
theorem wi_ok {xs:List RLo}{ts:List Nat}(h:FewOk xs)(ht:okB8 ts):WiOk xs (wiL xs ts):=by
 have hi:=wi_in h ht
 have ha:=all2_ok h.a hi
 have hl:(wiL xs ts).length=xs.length:=all2_l hi
 have hr:=zc4 (in_rep h.a (wi_s h ht)) (show 2*sumL xs+1≤801 by have:=h.s; omega)
 obtain ⟨q1,q2,q3,q4⟩:=zjz hr
 have hL:LsT (prodQ (wiL xs ts)):=⟨zcn q1 zd,zcn q2 zd,zcn q3 zd,zcn q4 zd⟩
 exact ⟨hi,ch_mk (by rw [hl]; exact h.l4) ha,hL,okM_of hL.1 hL.2.1 hL.2.2.1 hL.2.2.2 (prod_det ha),zcn (zkl q1 q4) zd,zcn (bQ_negT q3) zd⟩
theorem trace24_l {xs:List RLo}(h:FewOk xs):Cn Tryz.prog 17 [(SlA 41 [U32] (xs.map LoA)).va] (Tu [(GpA ⟨rfOf (loS (aF trQ' xs) (2^manyF xs)),rfOf (hiS (aF trQ' xs) (2^manyF xs))⟩).va,In 0]):=(tTrace_c xs).post (by rw [(zj9 h (fun k=>(few_b h k).1)).1])
theorem power24_l {xs:List RLo}(h:FewOk xs):Cn Tryz.prog 18 [(SlA 41 [U32] (xs.map LoA)).va] (Tu [(GpA ⟨rfOf (loS (aF pwQ' xs) (2^manyF xs)),rfOf (hiS (aF pwQ' xs) (2^manyF xs))⟩).va,In 0]):=(tPower_c xs).post (by rw [(zj9 h (fun k=>(few_b h k).2)).1])
theorem all24_l {xs:List RLo}(h:FewOk xs):Cn Tryz.prog 19 [(SlA 41 [U32] (xs.map LoA)).va] (Tu [Bo (allF xs),In 0]):=(tAll_c xs).post (by rw [allR,if_pos h.t])
theorem trip_g {ys:List RE}(h:chF ys=0)(l:LsT (prodQ ys)):Cn Tryz.prog 24 [(SlA 62 [U32] (ys.map REA)).va,Bo true] (MR (rmOf (prodQ ys),0)):=(trip_c ys true).post (congrArg MR (show tripF ys true=(rmOf (prodQ ys),0) from by rw [tripF,if_pos h]; exact asM_T l))
theorem tr24_l {M:MQ}(hm:okM (rmOf M)=true)(hl:longQ (trQ' M)=false):Cn Tryz.prog 25 [(RMA (rmOf M)).va] (FrR (rfOf (trQ' M),0)) :=
 (trace_c (rmOf M)).post (congrArg FrR (by
  unfold trF asF kM
  rw [hm,toM_of]
  exact zjd (longQ_false.1 hl)))
theorem pw24_l {M:MQ}(hm:okM (rmOf M)=true)(hl:longQ (pwQ' M)=false):Cn Tryz.prog 31 [(RMA (rmOf M)).va] (FrR (rfOf (pwQ' M),0)) :=
 (power_c (rmOf M)).post (congrArg FrR (by
  unfold powF
  rw [hm,toM_of,if_pos rfl]
  exact zjd (longQ_false.1 hl)))
theorem ki24_l {M:MQ}(hm:okM (rmOf M)=true):Cn Tryz.prog 32 [(RMA (rmOf M)).va] (KiR (kiQ M,0)) :=
 (kind_c (rmOf M)).post (congrArg KiR (by
  unfold kiF
  rw [hm,toM_of,if_pos rfl]))
theorem lie_q {x l h:Rat}(hx:longQ x=false)(hl:longQ l=false)(hh:longQ h=false)(h1:l≤x)(h2:x≤h):lieF (rfOf x) ⟨rfOf l,rfOf h⟩=true:=by
 unfold lieF
 rw [cmF_of hl hx,cmF_of hx hh,decide_eq_true (cmp_le.2 h1),decide_eq_true (cmp_le.2 h2)]
 rfl
theorem four_e:Rat.divInt 4 1=4:=rfl
theorem sq_lt2 {t:Rat}(h:t*t<4) : -2<t∧t<2:=by
 constructor
 ·refine Rat.not_le.1 fun hl=>?_
  have:=Rat.mul_nonneg (show 0 ≤ -2-t by grind) (show 0≤2-t by grind)
  grind
 ·refine Rat.not_le.1 fun hl=>?_
  have:=Rat.mul_nonneg (show 0≤t-2 by grind) (show 0≤t+2 by grind)
  grind
theorem lt2_sq {t:Rat}(h1 : -2<t)(h2:t<2):t*t<4:=by
 have:=Rat.mul_pos (show 0<t+2 by grind) (show 0<2-t by grind)
 grind
theorem wi_st {xs:List RLo}{ys:List RE}(h:FewOk xs)(hi:All2 InB xs ys)(ha:allF xs=true):kiQ (prodQ ys)=1:=by
 have hc:∀ k,k<2^manyF xs→aF trQ' xs k*aF trQ' xs k<4:=fun k hk=>by
  have h1:=List.all_eq_true.1 ha k (List.mem_range.2 hk)
  have h2:nsF xs k=false:=by simpa using h1
  unfold nsF at h2
  have h3:=of_decide_eq_false h2
  have h4:cmQ (trsQ (prodQ (cnF xs k))) (Rat.divInt 4 1)<0:=by omega
  have h5:=cm_lt0'.1 h4
  rw [four_e] at h5
  exact h5
 obtain ⟨g1,g2⟩:=in_tr hi h.a
 obtain ⟨i,hi',ei⟩:=lo_some (aF trQ' xs) _ (Nat.two_pow_pos (manyF xs))
 obtain ⟨j,hj',ej⟩:=hi_some (aF trQ' xs) _ (Nat.two_pow_pos (manyF xs))
 rw [ei] at g1
 rw [ej] at g2
 have b1:=(sq_lt2 (hc i hi')).1
 have b2:=(sq_lt2 (hc j hj')).2
 have hs:=lt2_sq (t:=trQ' (prodQ ys)) (by grind) (by grind)
 unfold kiQ
 rw [if_pos]
 rw [four_e]
 exact cm_lt0'.2 hs
theorem wi_no (h:((((((((0:Int) != 0) || ((0:Int) != 0)) || ((0:Int) != 0)) || ((0:Int) != 0)) || ((0:Int) != 0)) || ((0:Int) != 0)) || ((0:Int) != 0))=true):False:=by simp at h
theorem wi_end {xs:List RLo}{ys:List RE}(hF:FewOk xs)(o:WiOk xs ys):((((lieF (rfOf (trQ' (prodQ ys))) ⟨rfOf (loS (aF trQ' xs) (2^manyF xs)),rfOf (hiS (aF trQ' xs) (2^manyF xs))⟩&&lieF (rfOf (pwQ' (prodQ ys))) ⟨rfOf (loS (aF pwQ' xs) (2^manyF xs)),rfOf (hiS (aF pwQ' xs) (2^manyF xs))⟩)&&((!allF xs) || (kiQ (prodQ ys)==1))))&&true)=true:=by
 obtain ⟨_,l1,l2⟩:=zj9 hF (fun k=>(few_b hF k).1)
 obtain ⟨_,p1,p2⟩:=zj9 hF (fun k=>(few_b hF k).2)
 have a:=in_tr o.i hF.a
 have b:=in_pw o.i hF.a
 rw [lie_q o.tl l1 l2 a.1 a.2,lie_q o.pl p1 p2 b.1 b.2]
 cases ha:allF xs with
 | false=>rfl
 | true=>rw [wi_st hF o.i ha]; rfl
set_option maxHeartbeats 8000000 in
theorem within_w (xs:List RLo)(ts:List Nat)(ht:okB8 ts):Cn Tryz.prog 6 [(SlA 41 [U32] (xs.map LoA)).va,(SlA 5 [U32] (ts.map U8A)).va] (Bo true):=by
 refine Cn.intro Tryz.func6 rfl zk nq (fun B w0 a hst=>?_)
 have hst:St B w0 107 [(0,(SlA 41 [U32] (xs.map LoA)).va),(1,(SlA 5 [U32] (ts.map U8A)).va)] [] a w0.w:=hst
 refine wp_seq ?_
 refine gl (sts:=[]) (news:=[]) (sp:=[.val 4 _]) [.g 0,.g 1,.o 0] hst (zv rfl (za1 zbk) o0) (fun a w hst=>?_)
 have hst:St B w0 107 [(0,_),(1,_),(4,_)] [] a w:=hst
 refine zt ?_
 refine wp_seq ?_
 refine gl (sts:=[]) (news:=[]) (sp:=[.val 20 _,.val 21 _,.val 22 _]) [.g 0,.g 1,.g 2,.o 2] hst (zv rfl (za2 (gq 0 rfl)) (zv rfl (za5 (xs:=[.tmp 20]) (few_c xs) (.cons (vq 0 rfl) .nil)) (zv rfl (zdl (vq 1 rfl)) o0))) (fun a w hst=>?_)
 have hst:St B w0 107 [(0,_),(1,_),(4,_),(22,_)] [] a w:=hst
 refine za0 ?_
 refine zaa hst (zm 3 rfl) (fun hb0=>?_) (fun hb0=>?_)
 ·refine wp_seq ?_
  refine gl (sts:=[]) (news:=[]) (sp:=[.val 23 _,.val 4 _]) [.g 0,.g 1,.o 1] hst (zv rfl (za5 (xs:=[]) zkm .nil) (zv rfl (za1 (vq 0 rfl)) o0)) (fun a w hst=>?_)
  have hst:St B w0 107 [(0,_),(1,_),(4,_)] [] a w:=hst
  refine za0 ?_
  refine wp_ret ?_
  refine zaf ?_
  refine zad ?_ (zaj rfl hst (zm 2 rfl))
  exact zay
 ·have hF:=fe_ok hb0
  obtain ⟨ys,hys⟩:∃ ys,wiL xs ts=ys:=⟨_,rfl⟩
  have hW:=within24_c xs ts hF
  have o:=wi_ok hF ht
  rw [hys] at hW o
  refine wp_skip ?_
  refine zt<|gl (sts:=[]) (news:=[]) (sp:=[.val 24 _,.val 25 _,.val 26 _,.val 5 _]) [.g 0,.g 2,.o 3] hst (zv rfl (za2 (gq 0 rfl)) (zv rfl (za2 (gq 1 rfl)) (zv rfl (za5 (xs:=[.tmp 24,.tmp 25]) hW (.cons (vq 0 rfl) (.cons (vq 1 rfl) .nil))) (zv rfl (za1 (vq 2 rfl)) o0)))) (fun a w hst=>?_)
  have hst:St B w0 107 [(0,_),(4,_),(5,_)] [] a w:=hst
  refine zt<|gl (sts:=[]) (news:=[⟨6,56,ptrH,some 5,_,some (6,_)⟩]) (sp:=[.val 28 _,.val 29 _,.val 27 _,.val 30 _,.val 31 _,.alc 0,.sto 0,.val 7 _]) [.g 0,.g 1,.o 7] hst (zv rfl (za2 (gq 2 rfl)) (zv rfl (za5 (xs:=[.tmp 28,.const (.bool true)]) (trip_g o.h o.l) (.cons (vq 0 rfl) (.cons zbk .nil))) (zv rfl (za2 (vq 1 rfl)) (zv rfl (zcy (vq 2 rfl)) (zv rfl (zcx (vq 2 rfl)) (oc (zag rfl rfl rfl (Str.zero zaw)) (oc (za9 rfl rfl rfl (vq 3 rfl) zbc (Eq.trans (b:=16) rfl rfl)) (zv rfl (za1 (vq 4 rfl)) o0)))))))) (fun a w hst=>?_)
  have hst:St B w0 107 [(0,_),(4,_),(7,_)] [⟨6,56,ptrH,_⟩] a w:=hst
  refine zt<|gl (sts:=[none]) (news:=[⟨8,37,ptrH,some 5,_,some (6,_)⟩]) (sp:=[.val 33 _,.val 34 _,.val 32 _,.val 35 _,.val 36 _,.alc 1,.sto 1,.val 9 _]) [.g 0,.g 1,.g 2,.o 7] hst (zv rfl (zac (lz0 0 rfl) zbc) (zv rfl (za5 (xs:=[.tmp 33]) (tr24_l o.k o.tl) (.cons (vq 0 rfl) .nil)) (zv rfl (za2 (vq 1 rfl)) (zv rfl (zcy (vq 2 rfl)) (zv rfl (zcx (vq 2 rfl)) (oc (zag rfl rfl rfl (Str.zero zam)) (oc (za9 rfl rfl rfl (vq 3 rfl) za7 (Eq.trans (b:=4) rfl rfl)) (zv rfl (za1 (vq 4 rfl)) o0)))))))) (fun a w hst=>?_)
  have hst:St B w0 107 [(0,_),(4,_),(7,_),(9,_)] [⟨6,56,ptrH,_⟩,⟨8,37,ptrH,_⟩] a w:=hst
  refine zt<|gl (sts:=[none,none]) (news:=[⟨10,37,ptrH,some 5,_,some (6,_)⟩]) (sp:=[.val 38 _,.val 39 _,.val 37 _,.val 40 _,.val 41 _,.alc 2,.sto 2,.val 11 _]) [.g 0,.g 1,.g 2,.g 3,.o 7] hst (zv rfl (zac (lz0 0 rfl) zbc) (zv rfl (za5 (xs:=[.tmp 38]) (pw24_l o.k o.pl) (.cons (vq 0 rfl) .nil)) (zv rfl (za2 (vq 1 rfl)) (zv rfl (zcy (vq 2 rfl)) (zv rfl (zcx (vq 2 rfl)) (oc (zag rfl rfl rfl (Str.zero zam)) (oc (za9 rfl rfl rfl (vq 3 rfl) za7 (Eq.trans (b:=4) rfl rfl)) (zv rfl (za1 (vq 4 rfl)) o0)))))))) (fun a w hst=>?_)
  have hst:St B w0 107 [(0,_),(4,_),(7,_),(9,_),(11,_)] [⟨6,56,ptrH,_⟩,⟨8,37,ptrH,_⟩,⟨10,37,ptrH,_⟩] a w:=hst
  refine zt<|gl (sts:=[none,none,none]) (news:=[⟨12,39,ptrH,some 5,_,some (6,_)⟩]) (sp:=[.val 43 _,.val 44 _,.val 42 _,.val 45 _,.val 46 _,.alc 3,.sto 3,.val 13 _]) [.g 0,.g 1,.g 2,.g 3,.g 4,.o 7] hst (zv rfl (za2 (gq 0 rfl)) (zv rfl (za5 (xs:=[.tmp 43]) (trace24_l hF) (.cons (vq 0 rfl) .nil)) (zv rfl (za2 (vq 1 rfl)) (zv rfl (zcy (vq 2 rfl)) (zv rfl (zcx (vq 2 rfl)) (oc (zag rfl rfl rfl (Str.zero zcu)) (oc (za9 rfl rfl rfl (vq 3 rfl) zby (Eq.trans (b:=8) rfl rfl)) (zv rfl (za1 (vq 4 rfl)) o0)))))))) (fun a w hst=>?_)
  have hst:St B w0 107 [(0,_),(4,_),(7,_),(9,_),(11,_),(13,_)] [⟨6,56,ptrH,_⟩,⟨8,37,ptrH,_⟩,⟨10,37,ptrH,_⟩,⟨12,39,ptrH,_⟩] a w:=hst
  refine zt<|gl (sts:=[none,none,none,none]) (news:=[⟨14,39,ptrH,some 5,_,some (6,_)⟩]) (sp:=[.val 48 _,.val 49 _,.val 47 _,.val 50 _,.val 51 _,.alc 4,.sto 4,.val 15 _]) [.g 0,.g 1,.g 2,.g 3,.g 4,.g 5,.o 7] hst (zv rfl (za2 (gq 0 rfl)) (zv rfl (za5 (xs:=[.tmp 48]) (power24_l hF) (.cons (vq 0 rfl) .nil)) (zv rfl (za2 (vq 1 rfl)) (zv rfl (zcy (vq 2 rfl)) (zv rfl (zcx (vq 2 rfl)) (oc (zag rfl rfl rfl (Str.zero zcu)) (oc (za9 rfl rfl rfl (vq 3 rfl) zby (Eq.trans (b:=8) rfl rfl)) (zv rfl (za1 (vq 4 rfl)) o0)))))))) (fun a w hst=>?_)
  have hst:St B w0 107 [(0,_),(4,_),(7,_),(9,_),(11,_),(13,_),(15,_)] [⟨6,56,ptrH,_⟩,⟨8,37,ptrH,_⟩,⟨10,37,ptrH,_⟩,⟨12,39,ptrH,_⟩,⟨14,39,ptrH,_⟩] a w:=hst
  refine zt<|gl (sts:=[none,none,none,none,none]) (news:=[]) (sp:=[.val 53 _,.val 54 _,.val 52 _,.val 55 _,.val 56 _,.val 16 _,.val 17 _]) [.g 1,.g 2,.g 3,.g 4,.g 5,.g 6,.o 5,.o 6] hst (zv rfl (za2 (gq 0 rfl)) (zv rfl (za5 (xs:=[.tmp 53]) (all24_l hF) (.cons (vq 0 rfl) .nil)) (zv rfl (za2 (vq 1 rfl)) (zv rfl (zcy (vq 2 rfl)) (zv rfl (zcx (vq 2 rfl)) (zv rfl (za1 (vq 3 rfl)) (zv rfl (za1 (vq 4 rfl)) o0))))))) (fun a w hst=>?_)
  have hst:St B w0 107 [(4,_),(7,_),(9,_),(11,_),(13,_),(15,_),(16,_),(17,_)] [⟨6,56,ptrH,_⟩,⟨8,37,ptrH,_⟩,⟨10,37,ptrH,_⟩,⟨12,39,ptrH,_⟩,⟨14,39,ptrH,_⟩] a w:=hst
  refine zt<|gl (sts:=[none,none,none,none,none]) (news:=[]) (sp:=[.val 58 _,.val 59 _,.val 57 _,.val 60 _,.val 61 _,.val 18 _,.val 19 _]) [.g 0,.g 1,.g 2,.g 3,.g 4,.g 5,.g 6,.g 7,.o 5,.o 6] hst (zv rfl (zac (lz0 0 rfl) zbc) (zv rfl (za5 (xs:=[.tmp 58]) (ki24_l o.k) (.cons (vq 0 rfl) .nil)) (zv rfl (za2 (vq 1 rfl)) (zv rfl (zcy (vq 2 rfl)) (zv rfl (zcx (vq 2 rfl)) (zv rfl (za1 (vq 3 rfl)) (zv rfl (za1 (vq 4 rfl)) o0))))))) (fun a w hst=>?_)
  have hst:St B w0 107 [(4,_),(7,_),(9,_),(11,_),(13,_),(15,_),(16,_),(17,_),(18,_),(19,_)] [⟨6,56,ptrH,_⟩,⟨8,37,ptrH,_⟩,⟨10,37,ptrH,_⟩,⟨12,39,ptrH,_⟩,⟨14,39,ptrH,_⟩] a w:=hst
  refine zt ?_
  refine wp_seq ?_
  refine gl (sts:=[none,none,none,none,none]) (news:=[]) (sp:=((.val 62 _:Sp)::(.val 63 _)::(.val 64 _)::(.val 65 (Wh (_=false) _))::(.val 66 (Wh (_=false) _))::(.val 67 _)::(.val 68 _)::(.val 69 (Wh (_=false) _))::(.val 70 (Wh (_=false) _))::(.val 71 _)::(.val 72 _)::(.val 73 (Wh (_=false) _))::(.val 74 (Wh (_=false) _))::(.val 75 _)::(.val 76 _)::(.val 77 (Wh (_=false) _))::(.val 78 (Wh (_=false) _))::(.val 79 _)::(.val 80 _)::(.val 81 (Wh (_=false) _))::(.val 82 (Wh (_=false) _))::(.val 83 _)::(.val 84 _)::(.val 85 (Wh (_=false) _))::(.val 86 (Wh (_=false) _))::(.val 87 _)::[])) [.g 0,.g 6,.g 8,.o 25] hst (zv rfl (za2 (gq 1 rfl)) (zv rfl (zcf (vq 0 rfl) za3) (zv rfl (za2 (vq 1 rfl)) (oc (zan rfl rfl rfl (vq 2 rfl) nq (fun hg=>za2 (gq 2 rfl))) (oc (zan rfl rfl rfl (vq 2 rfl) nq (fun hg=>zcf (zah (vq 3 rfl) hg) za3)) (zv rfl (r_or (vq 2 rfl) (vq 4 rfl)) (zv rfl (za2 (vq 5 rfl)) (oc (zan rfl rfl rfl (vq 6 rfl) nq (fun hg=>za2 (gq 3 rfl))) (oc (zan rfl rfl rfl (vq 6 rfl) nq (fun hg=>zcf (zah (vq 7 rfl) hg) za3)) (zv rfl (r_or (vq 6 rfl) (vq 8 rfl)) (zv rfl (za2 (vq 9 rfl)) (oc (zan rfl rfl rfl (vq 10 rfl) nq (fun hg=>za2 (gq 4 rfl))) (oc (zan rfl rfl rfl (vq 10 rfl) nq (fun hg=>zcf (zah (vq 11 rfl) hg) za3)) (zv rfl (r_or (vq 10 rfl) (vq 12 rfl)) (zv rfl (za2 (vq 13 rfl)) (oc (zan rfl rfl rfl (vq 14 rfl) nq (fun hg=>za2 (gq 5 rfl))) (oc (zan rfl rfl rfl (vq 14 rfl) nq (fun hg=>zcf (zah (vq 15 rfl) hg) za3)) (zv rfl (r_or (vq 14 rfl) (vq 16 rfl)) (zv rfl (za2 (vq 17 rfl)) (oc (zan rfl rfl rfl (vq 18 rfl) nq (fun hg=>za2 (gq 7 rfl))) (oc (zan rfl rfl rfl (vq 18 rfl) nq (fun hg=>zcf (zah (vq 19 rfl) hg) za3)) (zv rfl (r_or (vq 18 rfl) (vq 20 rfl)) (zv rfl (za2 (vq 21 rfl)) (oc (zan rfl rfl rfl (vq 22 rfl) nq (fun hg=>za2 (gq 9 rfl))) (oc (zan rfl rfl rfl (vq 22 rfl) nq (fun hg=>zcf (zah (vq 23 rfl) hg) za3)) (zv rfl (r_or (vq 22 rfl) (vq 24 rfl)) o0)))))))))))))))))))))))))) (fun a w hst=>?_)
  have hst:St B w0 107 [(4,_),(16,_),(18,_),(87,_)] [⟨6,56,ptrH,_⟩,⟨8,37,ptrH,_⟩,⟨10,37,ptrH,_⟩,⟨12,39,ptrH,_⟩,⟨14,39,ptrH,_⟩] a w:=hst
  refine za0 ?_
  refine zaa hst (zm 3 rfl) (fun hb1=>?_) (fun hb1=>?_)
  ·exact (wi_no hb1).elim
  ·refine wp_skip ?_
   refine zt<|gl (sts:=[none,none,none,none,none]) (news:=[]) (sp:=[.val 88 _,.val 89 _,.val 90 _,.val 91 _,.val 92 (Wh (_=true) _),.val 93 (Wh (_=true) _),.val 94 (Wh (_=true) _),.val 95 _,.val 96 _,.val 97 (Wh (_=true) _),.val 98 (Wh (_=true) _),.val 99 (Wh (_=true) _),.val 100 (Wh ((_=true)∧_=false) _),.val 101 (Wh ((_=true)∧_=false) _),.val 102 (Wh (_=true) _),.val 103 _,.val 104 _,.val 105 (Wh (_=true) _),.val 106 _,.val 4 _]) [.o 19] hst (zv rfl (zac (lz0 1 rfl) za7) (zv rfl (zac (lz0 3 rfl) zby) (zv rfl (za5 (xs:=[.tmp 88,.tmp 89]) (lies24_c _ ⟨_,_⟩) (.cons (vq 0 rfl) (.cons (vq 1 rfl) .nil))) (zv rfl (za2 (vq 2 rfl)) (oc (zan rfl rfl rfl (vq 3 rfl) nq (fun hg=>zac (lz0 2 rfl) za7)) (oc (zan rfl rfl rfl (vq 3 rfl) nq (fun hg=>zac (lz0 4 rfl) zby)) (oc (zan rfl rfl rfl (vq 3 rfl) nq (fun hg=>za5 (xs:=[.tmp 92,.tmp 93]) (lies24_c _ ⟨_,_⟩) (.cons (zah (vq 4 rfl) hg) (.cons (zah (vq 5 rfl) hg) .nil)))) (zv rfl (zcq (vq 3 rfl) (vq 6 rfl)) (zv rfl (za2 (vq 7 rfl)) (oc (zan rfl rfl rfl (vq 8 rfl) nq (fun hg=>za2 (gq 1 rfl))) (oc (zan rfl rfl rfl (vq 8 rfl) nq (fun hg=>zdl (zah (vq 9 rfl) hg))) (oc (zan rfl rfl rfl (vq 8 rfl) nq (fun hg=>za2 (zah (vq 10 rfl) hg))) (oc (zfe rfl rfl rfl (vq 11 rfl) nq (fun hg=>za2 (gq 2 rfl))) (oc (zfe rfl rfl rfl (vq 11 rfl) nq (fun hg=>zcc (zah (vq 12 rfl) hg) za3)) (oc (zan rfl rfl rfl (vq 8 rfl) nq (fun hg=>r_or (zah (vq 11 rfl) hg) (zl4 (vq 13 rfl) hg))) (zv rfl (zcq (vq 8 rfl) (vq 14 rfl)) (zv rfl (za2 (vq 15 rfl)) (oc (zan rfl rfl rfl (vq 16 rfl) nq (fun hg=>za5 (xs:=[]) zkm .nil)) (zv rfl (zcq (vq 16 rfl) (vq 17 rfl)) (zv rfl (za1 (vq 18 rfl)) o0)))))))))))))))))))) (fun a w hst=>?_)
   have hst:St B w0 107 [(4,_)] [⟨6,56,ptrH,_⟩,⟨8,37,ptrH,_⟩,⟨10,37,ptrH,_⟩,⟨12,39,ptrH,_⟩,⟨14,39,ptrH,_⟩] a w:=hst
   refine za0 ?_
   refine wp_ret ?_
   refine zad ?_ (zaj rfl hst (zm 0 rfl))
   exact zcp (congrArg Bo (wi_end hF o))
open Go.ChangeShapes Go.WideShapes Go.ChangeAt
open Go.ChangeMaps (open_string shut_string)
theorem own:ownKnob Tryz.prog.godebug=none:=by kernel_rfl
theorem laidOut:laidOutB Tryz.prog=true:=by kernel_rfl
theorem lifted (os:Os)(started:os.Started)(H:Type)(enc:TypeId × Value→H) :
  ReturnsInHanded {} Tryz.checked os 6 .any (Rows.tolerWithinSpec.pre6 enc Tryz.prog Tryz.f6 Rows.tolerWithinRow.domain false) (Rows.tolerWithinSpec.post enc Tryz.prog Tryz.f6 false true false false):=by
 refine returnsInHanded_of_change (C:=Tryz.checked) own started zk Tryz.func6
  (ChangeSpec.witness6 (enc:=enc) (C:=Tryz.checked) false ⟨#[],#[.slice none 0 0,.slice none 0 0],[]⟩ 8 zk zk zk zk) ?_
 intro W base args ds gs before hval0 hW hcnd _
 have hval:∀ (j:Nat) t v,Tryz.f6.params[j]?=some t→args[j]?=some v→Value.okWide Tryz.prog W .any base t v:=hval0
 have hW':=hW
 obtain ⟨p,q,hA0,hV,rfl,hfz,hnd⟩:=hW
 have hA:DataW.TrodAll enc Tryz.prog W 0 (fun _=>true) true Tryz.f6.params.toList args.toList ds p:=hA0
 rw [Tryz.params6] at hA hval
 obtain ⟨v0,vs0,d0,ds0,p0,q0,hargs,rfl,rfl,h0,r0⟩:=trodAll_cons hA
 obtain ⟨v1,vs1,d1,ds1,p1,q1,rfl,rfl,rfl,h1,r1⟩:=trodAll_cons r0
 obtain ⟨rfl,rfl,rfl⟩:=trodAll_nil r1
 obtain rfl:args = #[v0,v1]:=by cases args; simp_all
 obtain ⟨rfl,rfl⟩:=trodVars_none hV
 have k0:=h0
 have lt0:∀ x∈p0,x.block<W.heap.size:=by obtain ⟨m,hm⟩:=k0; exact DataW.trod_lt m _ _ _ hm
 have k1:=h1
 have lt1:∀ x∈p1,x.block<W.heap.size:=by obtain ⟨m,hm⟩:=k1; exact DataW.trod_lt m _ _ _ hm
 obtain ⟨x0,a0⟩:=arg_sl (A:=LoA) (m:=17) (D:=[130]) Tryz.underlying22 zk zd (fun _=>nd_self zk) rd_lo (hval 0 22 v0 rfl rfl) h0
 obtain ⟨x1,a1⟩:=arg_sl (A:=U8A) (m:=1) (D:=[130]) Tryz.underlying31 zk zd (fun _=>nd_self zk) rd_u8 (hval 1 31 v1 rfl rfl) h1
 clear hA0 hval0
 refine ((within_w x0 x1 (sl_b8 a1)).2 W.heap.size W [v0,v1] (Nat.le_refl _) (.cons a0 (.cons a1 .nil))).mono fun e W' ⟨v,he,hv,bel⟩=>?_
 have hv':=zei hv
 subst hv' he
 exact ⟨_,rfl,_,_,_,[],_,[],hW',trodAll_mk1 (shut_bool Tryz.underlying4 _),(trodAll_cons_mk (Below.trod laidOut zk (of_decide_eq_true zk) k0 bel lt0) (trodAll_cons_mk (Below.trod laidOut zk (of_decide_eq_true zk) k1 bel lt1) trodAll_mk0)),rfl,bel.frame _,fun h=>by cases h⟩
theorem over:Rows.tolerWithinRow.holds Tryz.pinned (OpenSpec.ofChange Rows.tolerWithinSpec) :=
 OpenClaim.holds_of_wide 6 Tryz.f6 rfl rfl rfl rfl rfl rfl rfl ⟨rfl,rfl,rfl,rfl,rfl⟩ rfl rfl rfl rfl rfl zk Tryz.func6 zk
  (of_decide_eq_true zk) (by unfold Func.isWrapper; rw [if_neg (of_decide_eq_false zk)]; exact ⟨rfl,rfl⟩)
  (fun os started H enc _=>lifted os started H enc)
theorem provedTolerWithin:Rows.TolerWithinSaid:=over
#print axioms provedTolerWithin
end Go.Proofs.YtlpppkkggljdcaaGreat
