/- TolerNarrow: for all loose elements and all gaps within their gaps the law of chapter 24 answers true. No condition. -/
import Derived.Test.YtlpppkkggljdcaaGreatTnAa
import Derived.Test.YtlpppkkggljdcaaGreatTnAc
import Derived.Test.YtlpppkkggljdcaaGreatTnAw
import Derived.Test.YtlpppkkggljdcaaGreatRows
import Derived.WalkKit
import Derived.ProofKit
import Derived.OpenShut
import Derived.ShutString
import Derived.ChangeOld
import Derived.Below
import Derived.Laws.AppendOwn
import Derived.Laws.OwnMore
import Derived.Orders
set_option linter.unusedVariables false
set_option linter.unusedSimpArgs false
set_option linter.unusedSectionVars false
set_option maxRecDepth 100000
namespace Go.Proofs.YtlpppkkggljdcaaGreat
open Go Go.RowKit
theorem gap_t {xs:List RLo}(ht:tchF xs=0){ask:MQ→Rat}(hb:∀ k,bQ 1603 (aF ask xs k)):gapF ask xs=(⟨rfOf (loS (aF ask xs) (2^manyF xs)),rfOf (hiS (aF ask xs) (2^manyF xs))⟩,0)∧longQ (loS (aF ask xs) (2^manyF xs))=false∧longQ (hiS (aF ask xs) (2^manyF xs))=false:=by
 have l1:=zde (lo_b zd hb (2^manyF xs)) zd
 have l2:=zde (hi_b zd hb (2^manyF xs)) zd
 refine ⟨?_,l1,l2⟩
 unfold gapF
 rw [if_pos ht,if_neg (by simp [l1,l2])]
theorem zjc {xs:List RLo}(ht:tchF xs=0)(hb:∀ k,bQ 1603 (aF trQ' xs k)):Cn Tryz.prog 17 [(SlA 41 [U32] (xs.map LoA)).va] (Tu [((GpA ⟨rfOf (loS (aF trQ' xs) (2^manyF xs)),rfOf (hiS (aF trQ' xs) (2^manyF xs))⟩)).va,In 0]):=(tTrace_c xs).post (by rw [(gap_t ht hb).1])
theorem zjq {xs:List RLo}(ht:tchF xs=0)(hb:∀ k,bQ 1603 (aF pwQ' xs k)):Cn Tryz.prog 18 [(SlA 41 [U32] (xs.map LoA)).va] (Tu [((GpA ⟨rfOf (loS (aF pwQ' xs) (2^manyF xs)),rfOf (hiS (aF pwQ' xs) (2^manyF xs))⟩)).va,In 0]):=(tPower_c xs).post (by rw [(gap_t ht hb).1])
theorem all24_t {xs:List RLo}(ht:tchF xs=0):Cn Tryz.prog 19 [(SlA 41 [U32] (xs.map LoA)).va] (Tu [Bo (allF xs),In 0]):=(tAll_c xs).post (by rw [allR,if_pos ht])
theorem all2_b8 {B:Nat}{w:World}:∀ {ts:List Nat} {ps:List (List Value)},All2 (fun (A:As) c=>A.p B c w) (ts.map U8A) ps→okB8 ts
 | [],_,_=>fun _ h=>by cases h
 | t::ts,_,h=>by
  cases h with
  | cons h1 h2 =>
   intro x hx
   rcases List.mem_cons.1 hx with rfl | hx
   ·exact h1.1
   ·exact all2_b8 h2 x hx
theorem sl_b8 {E:TypeId}{D:List TypeId}{B:Nat}{v:Value}{w:World}{ts:List Nat}(h:(SlA E D (ts.map U8A)).va.p B v w):okB8 ts:=by
 obtain ⟨cs,⟨_,A,c,ds,_,_,_,⟨ps,_,h2⟩,_⟩,_⟩:=h
 exact all2_b8 h2
theorem lie_q {x l h:Rat}(hx:longQ x=false)(hl:longQ l=false)(hh:longQ h=false)(h1:l≤x)(h2:x≤h):lieF (rfOf x) ⟨rfOf l,rfOf h⟩=true:=by
 unfold lieF
 rw [cmF_of hl hx,cmF_of hx hh,decide_eq_true (cmp_le.2 h1),decide_eq_true (cmp_le.2 h2)]
 rfl
theorem four_e:Rat.divInt 4 1=4:=rfl
theorem sq_lt2 {t:Rat}(h:t*t<4) : -2<t∧t<2:=by
 constructor
 ·refine Rat.not_le.1 fun hl=>?_
  have:=Rat.mul_nonneg (show 0 ≤ -2-t by grind) (show 0≤2-t by grind)
  grind
 ·refine Rat.not_le.1 fun hl=>?_
  have:=Rat.mul_nonneg (show 0≤t-2 by grind) (show 0≤t+2 by grind)
  grind
theorem lt2_sq {t:Rat}(h1 : -2<t)(h2:t<2):t*t<4:=by
 have:=Rat.mul_pos (show 0<t+2 by grind) (show 0<2-t by grind)
 grind
structure NwOk (xs zs:List RLo):Prop where
 t:tchF zs=0
 i:∀ k,All2 InB xs (cnF zs k)
 b:∀ k,bQ 1603 (aF trQ' zs k)∧bQ 1603 (aF pwQ' zs k)
theorem all2_ib {xs:List RLo}{ys:List RE}(h:All2 InS xs ys):All2 InB xs ys:=by
 induction h with
 | nil=>exact .nil
 | cons h1 _ ih=>exact .cons h1.1 ih
theorem nw_ok {xs:List RLo}{ts:List Nat}(h:FewOk xs)(ht:okB8 ts):NwOk xs (nwL xs ts):=by
 refine ⟨nw_tch h ht,fun k=>all2_ib (nw_ins h ht (cnF_co _ k)),fun k=>?_⟩
 have hr:=zbz (in_rep h.a (nw_ins h ht (cnF_co (nwL xs ts) k))) (show 2*sumL xs+1≤801 by have:=h.s; omega)
 obtain ⟨a,_,c,d⟩:=zjm hr
 refine ⟨zk9 a d,?_⟩
 have:=bQ_negT c
 exact ⟨Nat.le_trans this.1 zd,Nat.le_trans this.2 zd⟩
theorem nw_st {xs:List RLo}{ys:List RE}(h:FewOk xs)(hi:All2 InB xs ys)(ha:allF xs=true):trQ' (prodQ ys)*trQ' (prodQ ys)<4:=by
 have hc:∀ k,k<2^manyF xs→aF trQ' xs k*aF trQ' xs k<4:=fun k hk=>by
  have h1:=List.all_eq_true.1 ha k (List.mem_range.2 hk)
  have h2:nsF xs k=false:=by simpa using h1
  unfold nsF at h2
  have h3:=of_decide_eq_false h2
  have h4:cmQ (trsQ (prodQ (cnF xs k))) (Rat.divInt 4 1)<0:=by omega
  have h5:=cm_lt0'.1 h4
  rw [four_e] at h5
  exact h5
 obtain ⟨g1,g2⟩:=in_tr hi h.a
 obtain ⟨i,hi',ei⟩:=zit (aF trQ' xs) _ (Nat.two_pow_pos (manyF xs))
 obtain ⟨j,hj',ej⟩:=ziu (aF trQ' xs) _ (Nat.two_pow_pos (manyF xs))
 rw [ei] at g1
 rw [ej] at g2
 have b1:=(sq_lt2 (hc i hi')).1
 have b2:=(sq_lt2 (hc j hj')).2
 exact lt2_sq (by grind) (by grind)
theorem nw_alls {xs zs:List RLo}(h:FewOk xs)(o:NwOk xs zs)(ha:allF xs=true):allF zs=true:=by
 unfold allF
 refine List.all_eq_true.2 fun k _=>?_
 have h1:=nw_st h (o.i k) ha
 have h4:cmQ (trsQ (prodQ (cnF zs k))) (Rat.divInt 4 1)<0:=cm_lt0'.2 (by rw [four_e]; exact h1)
 have:nsF zs k=false:=by unfold nsF; exact decide_eq_false zo
 simp [this]
theorem nw_no (h:((((((((0:Int) != 0) || ((0:Int) != 0)) || ((0:Int) != 0)) || ((0:Int) != 0)) || ((0:Int) != 0)) || ((0:Int) != 0)))=true):False:=by simp at h
theorem nw_end {xs zs:List RLo}(hF:FewOk xs)(o:NwOk xs zs):(((((((lieF (rfOf (loS (aF trQ' zs) (2^manyF zs))) ⟨rfOf (loS (aF trQ' xs) (2^manyF xs)),rfOf (hiS (aF trQ' xs) (2^manyF xs))⟩&&lieF (rfOf (hiS (aF trQ' zs) (2^manyF zs))) ⟨rfOf (loS (aF trQ' xs) (2^manyF xs)),rfOf (hiS (aF trQ' xs) (2^manyF xs))⟩)&&decide (cmF (rfOf (loS (aF trQ' zs) (2^manyF zs))) (rfOf (hiS (aF trQ' zs) (2^manyF zs)))≤0))&&lieF (rfOf (loS (aF pwQ' zs) (2^manyF zs))) ⟨rfOf (loS (aF pwQ' xs) (2^manyF xs)),rfOf (hiS (aF pwQ' xs) (2^manyF xs))⟩)&&lieF (rfOf (hiS (aF pwQ' zs) (2^manyF zs))) ⟨rfOf (loS (aF pwQ' xs) (2^manyF xs)),rfOf (hiS (aF pwQ' xs) (2^manyF xs))⟩)&&((!allF xs) || allF zs)))&&true)=true:=by
 obtain ⟨_,l1,l2⟩:=few_gap hF (fun k=>(few_b hF k).1)
 obtain ⟨_,p1,p2⟩:=few_gap hF (fun k=>(few_b hF k).2)
 obtain ⟨_,m1,m2⟩:=gap_t o.t (fun k=>(o.b k).1)
 obtain ⟨_,n1,n2⟩:=gap_t o.t (fun k=>(o.b k).2)
 obtain ⟨i,hi,ei⟩:=zit (aF trQ' zs) _ (Nat.two_pow_pos (manyF zs))
 obtain ⟨j,hj,ej⟩:=ziu (aF trQ' zs) _ (Nat.two_pow_pos (manyF zs))
 obtain ⟨i',hi',ei'⟩:=zit (aF pwQ' zs) _ (Nat.two_pow_pos (manyF zs))
 obtain ⟨j',hj',ej'⟩:=ziu (aF pwQ' zs) _ (Nat.two_pow_pos (manyF zs))
 have hlh:=lo_all (aF trQ' zs) _ j hj
 rw [← ej] at hlh
 have a1:=in_tr (o.i i) hF.a
 have a2:=in_tr (o.i j) hF.a
 have b1:=in_pw (o.i i') hF.a
 have b2:=in_pw (o.i j') hF.a
 rw [lie_q m1 l1 l2 (by rw [ei]; exact a1.1) (by rw [ei]; exact a1.2),lie_q m2 l1 l2 (by rw [ej]; exact a2.1) (by rw [ej]; exact a2.2),
  lie_q n1 p1 p2 (by rw [ei']; exact b1.1) (by rw [ei']; exact b1.2),lie_q n2 p1 p2 (by rw [ej']; exact b2.1) (by rw [ej']; exact b2.2),
  cmF_of m1 m2,decide_eq_true (cmp_le.2 hlh)]
 cases ha:allF xs with
 | false=>rfl
 | true=>rw [nw_alls hF o ha]; rfl
set_option maxHeartbeats 8000000 in
theorem narrow_w (xs:List RLo)(ts:List Nat)(ht:okB8 ts):Cn Tryz.prog 4 [(SlA 41 [U32] (xs.map LoA)).va,(SlA 5 [U32] (ts.map U8A)).va] (Bo true):=by
 obtain ⟨it,z,e1,e2,e3,e4,e5⟩:=app_loo
 refine Cn.introF Tryz.func4 rfl zk nq (fun B w0 a hF hst=>?_)
 have hst:St B w0 161 [(0,(SlA 41 [U32] (xs.map LoA)).va),(1,(SlA 5 [U32] (ts.map U8A)).va)] [] a w0.w:=hst
 obtain ⟨v0,hv0,hst⟩:=St.eqv hst 0 rfl
 refine wp_seq ?_
 refine gl (sts:=[]) (news:=[]) (sp:=[.val 4 _]) [.g 0,.g 1,.o 0] hst (zv rfl (za2 zbm) o0) (fun a w hst=>?_)
 have hst:St B w0 161 [(0,_),(1,_),(4,_)] [] a w:=hst
 refine zt ?_
 refine wp_seq ?_
 refine gl (sts:=[]) (news:=[]) (sp:=[.val 19 _,.val 20 _,.val 21 _]) [.g 0,.g 1,.g 2,.o 2] hst (zv rfl (za1 (gq 0 rfl)) (zv rfl (za5 (xs:=[.tmp 19]) (few_c xs) (.cons (zcb hF hv0 (vq 0 rfl)) .nil)) (zv rfl (zdp (vq 1 rfl)) o0))) (fun a w hst=>?_)
 have hst:St B w0 161 [(0,_),(1,_),(4,_),(21,_)] [] a w:=hst
 refine za0 ?_
 refine zab hst (zm 3 rfl) (fun hb0=>?_) (fun hb0=>?_)
 ·refine wp_seq ?_
  refine gl (sts:=[]) (news:=[]) (sp:=[.val 22 _,.val 4 _]) [.g 0,.g 1,.o 1] hst (zv rfl (za5 (xs:=[]) zkb .nil) (zv rfl (za2 (vq 0 rfl)) o0)) (fun a w hst=>?_)
  have hst:St B w0 161 [(0,_),(1,_),(4,_)] [] a w:=hst
  refine za0 ?_
  refine wp_ret ?_
  refine zak ?_
  refine zah ?_ (zaj rfl hst (zm 2 rfl))
  exact zb1
 ·have hQ:=fe_ok hb0
  have o:=nw_ok hQ ht
  refine wp_skip ?_
  refine zt<|gl (sts:=[]) (news:=[]) (sp:=[.val 5 _]) [.g 0,.g 1,.g 2,.o 0] hst (zv rfl (za2 zby) o0) (fun a w hst=>?_)
  have hst:St B w0 161 [(0,_),(1,_),(4,_),(5,_)] [] a w:=hst
  refine zt ?_
  refine wp_seq ?_
  refine gl (sts:=[]) (news:=[]) (sp:=[.val 6 _]) [.g 0,.g 1,.g 2,.g 3,.o 0] hst (zv rfl (za2 za3) o0) (fun a w hst=>?_)
  have hst:St B w0 161 [(0,_),(1,_),(4,_),(5,_),(6,_)] [] a w:=hst
  refine za0 ?_
  refine wp_block ?_
  have hst:=St.sel hst [0,1,3,4]
  refine wp_loop_ghost (fun n a w=>∃ j:Nat,(n+j=xs.length)∧St B w0 161 [(0,EqV v0),(1,(SlA 5 [U32] (ts.map U8A)).va),(5,OwnR w0.w.heap.size 41 17 [U32] (((List.range j).map (njF xs ts)).map LoA)),(6,In (j:Nat))] [] a w) (xs.length) ?_ ?_
  ·have hst:=St.wkG (A':=OwnR w0.w.heap.size 41 17 [U32] (((List.range 0).map (njF xs ts)).map LoA)) hst 2 rfl own_nil
   exact ⟨0,by omega,hst⟩
  intro n a w hI
  obtain ⟨j,hn,hst⟩:=hI
  refine wp_seq ?_
  refine wp_seq ?_
  refine gl (sts:=[]) (news:=[]) (sp:=[.val 23 _,.val 24 _,.val 25 _,.val 26 _]) [.g 0,.g 1,.g 2,.g 3,.o 3] hst (zv rfl (za1 (gq 3 rfl)) (zv rfl (za1 (gq 0 rfl)) (zv rfl (zeb Tryz.underlying22 (zcb hF hv0 (vq 1 rfl))) (zv rfl (zc0 (vq 0 rfl) (vq 2 rfl)) o0)))) (fun a w hst=>?_)
  have hst:St B w0 161 [(0,_),(1,_),(5,_),(6,_),(26,_)] [] a w:=hst
  refine za0 ?_
  refine zab hst (zm 4 rfl) (fun hb1=>?_) (fun hb1=>?_)
  ·have hj:j<xs.length:=by rw [List.length_map] at hb1; have:=of_decide_eq_true hb1; omega
   have h30:=hQ.l30
   refine wp_skip ?_
   refine zt ?_
   refine wp_block ?_
   refine go_app (sp:=((.val 29 _:Sp)::(.val 30 _)::(.val 31 _)::(.val 32 _)::(.val 33 _)::(.val 34 _)::(.val 35 _)::(.val 36 _)::(.val 37 _)::(.val 38 _)::(.val 39 _)::(.val 40 _)::(.val 41 _)::(.val 42 _)::(.val 43 _)::(.val 44 _)::(.val 45 _)::(.val 46 _)::(.val 47 _)::(.val 48 _)::(.val 49 _)::(.val 50 _)::(.val 51 _)::(.val 52 _)::(.val 53 _)::(.val 54 _)::(.val 55 _)::(.val 56 _)::(.val 57 _)::(.val 58 _)::(.val 59 _)::(.val 60 _)::(.val 61 _)::(.val 62 _)::(.val 63 _)::(.val 64 _)::(.val 65 _)::(.val 66 _)::(.val 67 _)::(.val 68 VT)::(.val 5 VT)::[])) [[],[],[],[1,2],[1,2,3],[1,2,3,4],[],[],[6,7],[6,7,8],[6,7,8,9],[],[],[12],[11,12,13],[],[],[16],[16,17],[11,12,13,14,15,16,17,18],[6,7,8,9,10,11,12,13,14,15,16,17,18,19],[],[],[21,22],[21,22,23],[21,22,23,24],[],[],[27],[27,28],[6,7,8,9,10,11,12,13,14,15,16,17,18,19,20,26,27,28,29],[],[],[32],[32,33],[6,7,8,9,10,11,12,13,14,15,16,17,18,19,20,26,27,28,29,30,31,32,33,34],[6,7,8,9,10,11,12,13,14,15,16,17,18,19,20,21,22,23,24,25,26,27,28,29,30,31,32,33,34,35],[1,2,3,4,5,6,7,8,9,10,11,12,13,14,15,16,17,18,19,20,21,22,23,24,25,26,27,28,29,30,31,32,33,34,35,36],[1,2,3,4,5,6,7,8,9,10,11,12,13,14,15,16,17,18,19,20,21,22,23,24,25,26,27,28,29,30,31,32,33,34,35,36,37],[0,1,2,3,4,5,6,7,8,9,10,11,12,13,14,15,16,17,18,19,20,21,22,23,24,25,26,27,28,29,30,31,32,33,34,35,36,37,38],[0,1,2,3,4,5,6,7,8,9,10,11,12,13,14,15,16,17,18,19,20,21,22,23,24,25,26,27,28,29,30,31,32,33,34,35,36,37,38,39]] 39 [0,1,3] 0 38 za6 hst (zv rfl (za1 (gq 2 rfl)) (zv rfl (za1 (gq 0 rfl)) (zv rfl (za1 (gq 3 rfl)) (zv rfl (zdt zf4 (zed fun _=>rfl) (zcb hF hv0 (vq 1 rfl)) (vq 2 rfl) (zd2 hj)) (zv rfl (zbo (vq 3 rfl) zgi (Sub.part 0 rfl rfl)) (zv rfl (zat (vq 4 rfl) zgo) (zv rfl (za1 (gq 0 rfl)) (zv rfl (za1 (gq 3 rfl)) (zv rfl (zdt zf4 (zed fun _=>rfl) (zcb hF hv0 (vq 6 rfl)) (vq 7 rfl) (zd2 hj)) (zv rfl (zbo (vq 8 rfl) zcf (Sub.part 1 rfl rfl)) (zv rfl (zat (vq 9 rfl) zbl) (zv rfl (za1 (gq 1 rfl)) (zv rfl (za1 (gq 3 rfl)) (zv rfl (zkk za3 (vq 12 rfl) ((wi64 zo zo).trans (by omega:(_:Int)=((4*j:Nat):Int)))) (zv rfl (za5 (xs:=[.tmp 40,.tmp 42]) (at24_c ts (4*j)) (.cons (vq 11 rfl) (.cons (vq 13 rfl) .nil))) (zv rfl (za1 (gq 1 rfl)) (zv rfl (za1 (gq 3 rfl)) (zv rfl (zkk za3 (vq 16 rfl) ((wi64 zo zo).trans (by omega:(_:Int)=((4*j:Nat):Int)))) (zv rfl (zb9 (vq 17 rfl) za3 ((wi64 zo zo).trans (by omega:(_:Int)=((4*j+1:Nat):Int)))) (zv rfl (za5 (xs:=[.tmp 44,.tmp 47]) (at24_c ts (4*j+1)) (.cons (vq 15 rfl) (.cons (vq 18 rfl) .nil))) (zv rfl (za5 (xs:=[.tmp 39,.tmp 43,.tmp 48]) (zhu (zi0 hQ hj).1 (zi0 hQ hj).2.2.1) (.cons (vq 10 rfl) (.cons (vq 14 rfl) (.cons (vq 19 rfl) .nil)))) (zv rfl (za1 (gq 0 rfl)) (zv rfl (za1 (gq 3 rfl)) (zv rfl (zdt zf4 (zed fun _=>rfl) (zcb hF hv0 (vq 21 rfl)) (vq 22 rfl) (zd2 hj)) (zv rfl (zbo (vq 23 rfl) zcx (Sub.part 2 rfl rfl)) (zv rfl (zat (vq 24 rfl) zbl) (zv rfl (za1 (gq 1 rfl)) (zv rfl (za1 (gq 3 rfl)) (zv rfl (zkk za3 (vq 27 rfl) ((wi64 zo zo).trans (by omega:(_:Int)=((4*j:Nat):Int)))) (zv rfl (zb9 (vq 28 rfl) za3 ((wi64 zo zo).trans (by omega:(_:Int)=((4*j+2:Nat):Int)))) (zv rfl (za5 (xs:=[.tmp 55,.tmp 58]) (at24_c ts (4*j+2)) (.cons (vq 26 rfl) (.cons (vq 29 rfl) .nil))) (zv rfl (za1 (gq 1 rfl)) (zv rfl (za1 (gq 3 rfl)) (zv rfl (zkk za3 (vq 32 rfl) ((wi64 zo zo).trans (by omega:(_:Int)=((4*j:Nat):Int)))) (zv rfl (zb9 (vq 33 rfl) za3 ((wi64 zo zo).trans (by omega:(_:Int)=((4*j+3:Nat):Int)))) (zv rfl (za5 (xs:=[.tmp 60,.tmp 63]) (at24_c ts (4*j+3)) (.cons (vq 31 rfl) (.cons (vq 34 rfl) .nil))) (zv rfl (za5 (xs:=[.tmp 54,.tmp 59,.tmp 64]) (zhu (zi0 hQ hj).2.1 (zi0 hQ hj).2.2.2) (.cons (vq 25 rfl) (.cons (vq 30 rfl) (.cons (vq 35 rfl) .nil)))) (zv rfl (zb7 (xs:=[(0,.tmp 34),(1,.tmp 49),(2,.tmp 65)]) (qs:=[(0,_),(1,_),(2,_)]) zdo (.cons ⟨rfl,(vq 5 rfl),rfl⟩ (.cons ⟨rfl,(vq 20 rfl),rfl⟩ (.cons ⟨rfl,(vq 36 rfl),rfl⟩ .nil)))) (zv rfl (zcl (D:=[U32]) (l:=[_]) (xs:=[.tmp 66]) (zf5 zk) zf4 zk (n_ok zk) nq nq nq (.cons (vq 37 rfl) .nil) rfl rfl) o0))))))))))))))))))))))))))))))))))))))) rfl zk zk zk zk rfl rfl zd rfl zd rfl Tryz.underlying22 e1 e2 e3 e4 e5 zd (by rw [List.length_map,List.length_map,List.length_range]; have:=hQ.l30; omega) zd (fun T hT=>hT) zd rfl zk nq nq zk zk (fun a w hst=>?_)
   have hst:St B w0 161 [(5,_),(0,_),(1,_),(6,_)] [] a w:=hst
   refine zan ?_
   refine za0 ?_
   refine gl (sts:=[]) (news:=[]) (sp:=[.val 27 _,.val 28 _,.val 6 _]) [.g 0,.g 1,.g 2,.o 2] hst (zv rfl (za1 (gq 3 rfl)) (zv rfl (zb9 (vq 0 rfl) za3 ((wi64 zo zo).trans (by omega:(_:Int)=((j+1:Nat):Int)))) (zv rfl (za2 (vq 1 rfl)) o0))) (fun a w hst=>?_)
   have hst:St B w0 161 [(5,_),(0,_),(1,_),(6,_)] [] a w:=hst
   refine za0 ?_
   have hst:=St.sel hst [1,2,0,3]
   have hst:=St.wkG (A':=OwnR w0.w.heap.size 41 17 [U32] (((List.range (j+1)).map (njF xs ts)).map LoA)) hst 2 rfl (zd4 (congrArg (OwnR w0.w.heap.size 41 17 [U32]) (nj_nx hj)))
   exact ⟨n-1,by omega,j+1,by omega,hst⟩
  ·obtain rfl:j=xs.length:=by rw [List.length_map] at hb1; have:=of_decide_eq_false hb1; omega
   have hst:=St.wkG (A':=(SlA 41 [U32] ((nwL xs ts).map LoA)).va) hst 2 rfl own_sl
   refine wp_exit ?_
   refine zai ?_
   refine zai ?_
   refine zb0 ?_
   refine zt<|gl (sts:=[]) (news:=[⟨7,39,ptrH,some 5,_,some (6,_)⟩]) (sp:=[.val 70 _,.val 71 _,.val 69 _,.val 72 _,.val 73 _,.alc 0,.sto 0,.val 8 _]) [.g 0,.g 2,.o 7] hst (zv rfl (za1 (gq 0 rfl)) (zv rfl (za5 (xs:=[.tmp 70]) (zjc hQ.t (fun k=>(few_b hQ k).1)) (.cons (zcb hF hv0 (vq 0 rfl)) .nil)) (zv rfl (za1 (vq 1 rfl)) (zv rfl (zd8 (vq 2 rfl)) (zv rfl (zd7 (vq 2 rfl)) (oc (zaf rfl rfl rfl (Str.zero zc3)) (oc (za7 rfl rfl rfl (vq 3 rfl) zbl (Eq.trans (b:=8) rfl rfl)) (zv rfl (za2 (vq 4 rfl)) o0)))))))) (fun a w hst=>?_)
   have hst:St B w0 161 [(0,_),(5,_),(8,_)] [⟨7,39,ptrH,_⟩] a w:=hst
   refine zt<|gl (sts:=[none]) (news:=[⟨9,39,ptrH,some 5,_,some (6,_)⟩]) (sp:=[.val 75 _,.val 76 _,.val 74 _,.val 77 _,.val 78 _,.alc 1,.sto 1,.val 10 _]) [.g 0,.g 1,.g 2,.o 7] hst (zv rfl (za1 (gq 1 rfl)) (zv rfl (za5 (xs:=[.tmp 75]) (zjc o.t (fun k=>(o.b k).1)) (.cons (vq 0 rfl) .nil)) (zv rfl (za1 (vq 1 rfl)) (zv rfl (zd8 (vq 2 rfl)) (zv rfl (zd7 (vq 2 rfl)) (oc (zaf rfl rfl rfl (Str.zero zc3)) (oc (za7 rfl rfl rfl (vq 3 rfl) zbl (Eq.trans (b:=8) rfl rfl)) (zv rfl (za2 (vq 4 rfl)) o0)))))))) (fun a w hst=>?_)
   have hst:St B w0 161 [(0,_),(5,_),(8,_),(10,_)] [⟨7,39,ptrH,_⟩,⟨9,39,ptrH,_⟩] a w:=hst
   refine zt<|gl (sts:=[none,none]) (news:=[⟨11,39,ptrH,some 5,_,some (6,_)⟩]) (sp:=[.val 80 _,.val 81 _,.val 79 _,.val 82 _,.val 83 _,.alc 2,.sto 2,.val 12 _]) [.g 0,.g 1,.g 2,.g 3,.o 7] hst (zv rfl (za1 (gq 0 rfl)) (zv rfl (za5 (xs:=[.tmp 80]) (zjq hQ.t (fun k=>(few_b hQ k).2)) (.cons (zcb hF hv0 (vq 0 rfl)) .nil)) (zv rfl (za1 (vq 1 rfl)) (zv rfl (zd8 (vq 2 rfl)) (zv rfl (zd7 (vq 2 rfl)) (oc (zaf rfl rfl rfl (Str.zero zc3)) (oc (za7 rfl rfl rfl (vq 3 rfl) zbl (Eq.trans (b:=8) rfl rfl)) (zv rfl (za2 (vq 4 rfl)) o0)))))))) (fun a w hst=>?_)
   have hst:St B w0 161 [(0,_),(5,_),(8,_),(10,_),(12,_)] [⟨7,39,ptrH,_⟩,⟨9,39,ptrH,_⟩,⟨11,39,ptrH,_⟩] a w:=hst
   refine zt<|gl (sts:=[none,none,none]) (news:=[⟨13,39,ptrH,some 5,_,some (6,_)⟩]) (sp:=[.val 85 _,.val 86 _,.val 84 _,.val 87 _,.val 88 _,.alc 3,.sto 3,.val 14 _]) [.g 0,.g 1,.g 2,.g 3,.g 4,.o 7] hst (zv rfl (za1 (gq 1 rfl)) (zv rfl (za5 (xs:=[.tmp 85]) (zjq o.t (fun k=>(o.b k).2)) (.cons (vq 0 rfl) .nil)) (zv rfl (za1 (vq 1 rfl)) (zv rfl (zd8 (vq 2 rfl)) (zv rfl (zd7 (vq 2 rfl)) (oc (zaf rfl rfl rfl (Str.zero zc3)) (oc (za7 rfl rfl rfl (vq 3 rfl) zbl (Eq.trans (b:=8) rfl rfl)) (zv rfl (za2 (vq 4 rfl)) o0)))))))) (fun a w hst=>?_)
   have hst:St B w0 161 [(0,_),(5,_),(8,_),(10,_),(12,_),(14,_)] [⟨7,39,ptrH,_⟩,⟨9,39,ptrH,_⟩,⟨11,39,ptrH,_⟩,⟨13,39,ptrH,_⟩] a w:=hst
   refine zt<|gl (sts:=[none,none,none,none]) (news:=[]) (sp:=[.val 90 _,.val 91 _,.val 89 _,.val 92 _,.val 93 _,.val 15 _,.val 16 _]) [.g 1,.g 2,.g 3,.g 4,.g 5,.o 5,.o 6] hst (zv rfl (za1 (gq 0 rfl)) (zv rfl (za5 (xs:=[.tmp 90]) (all24_t hQ.t) (.cons (zcb hF hv0 (vq 0 rfl)) .nil)) (zv rfl (za1 (vq 1 rfl)) (zv rfl (zd8 (vq 2 rfl)) (zv rfl (zd7 (vq 2 rfl)) (zv rfl (za2 (vq 3 rfl)) (zv rfl (za2 (vq 4 rfl)) o0))))))) (fun a w hst=>?_)
   have hst:St B w0 161 [(5,_),(8,_),(10,_),(12,_),(14,_),(15,_),(16,_)] [⟨7,39,ptrH,_⟩,⟨9,39,ptrH,_⟩,⟨11,39,ptrH,_⟩,⟨13,39,ptrH,_⟩] a w:=hst
   refine zt<|gl (sts:=[none,none,none,none]) (news:=[]) (sp:=[.val 95 _,.val 96 _,.val 94 _,.val 97 _,.val 98 _,.val 17 _,.val 18 _]) [.g 1,.g 2,.g 3,.g 4,.g 5,.g 6,.o 5,.o 6] hst (zv rfl (za1 (gq 0 rfl)) (zv rfl (za5 (xs:=[.tmp 95]) (all24_t o.t) (.cons (vq 0 rfl) .nil)) (zv rfl (za1 (vq 1 rfl)) (zv rfl (zd8 (vq 2 rfl)) (zv rfl (zd7 (vq 2 rfl)) (zv rfl (za2 (vq 3 rfl)) (zv rfl (za2 (vq 4 rfl)) o0))))))) (fun a w hst=>?_)
   have hst:St B w0 161 [(8,_),(10,_),(12,_),(14,_),(15,_),(16,_),(17,_),(18,_)] [⟨7,39,ptrH,_⟩,⟨9,39,ptrH,_⟩,⟨11,39,ptrH,_⟩,⟨13,39,ptrH,_⟩] a w:=hst
   refine zt ?_
   refine wp_seq ?_
   refine gl (sts:=[none,none,none,none]) (news:=[]) (sp:=[.val 99 _,.val 100 _,.val 101 _,.val 102 (Wh (_=false) _),.val 103 (Wh (_=false) _),.val 104 _,.val 105 _,.val 106 (Wh (_=false) _),.val 107 (Wh (_=false) _),.val 108 _,.val 109 _,.val 110 (Wh (_=false) _),.val 111 (Wh (_=false) _),.val 112 _,.val 113 _,.val 114 (Wh (_=false) _),.val 115 (Wh (_=false) _),.val 116 _,.val 117 _,.val 118 (Wh (_=false) _),.val 119 (Wh (_=false) _),.val 120 _]) [.g 4,.g 6,.o 21] hst (zv rfl (za1 (gq 0 rfl)) (zv rfl (zd5 (vq 0 rfl) za3) (zv rfl (za1 (vq 1 rfl)) (oc (zam rfl rfl rfl (vq 2 rfl) nq (fun hg=>za1 (gq 1 rfl))) (oc (zam rfl rfl rfl (vq 2 rfl) nq (fun hg=>zd5 (zag (vq 3 rfl) hg) za3)) (zv rfl (r_or (vq 2 rfl) (vq 4 rfl)) (zv rfl (za1 (vq 5 rfl)) (oc (zam rfl rfl rfl (vq 6 rfl) nq (fun hg=>za1 (gq 2 rfl))) (oc (zam rfl rfl rfl (vq 6 rfl) nq (fun hg=>zd5 (zag (vq 7 rfl) hg) za3)) (zv rfl (r_or (vq 6 rfl) (vq 8 rfl)) (zv rfl (za1 (vq 9 rfl)) (oc (zam rfl rfl rfl (vq 10 rfl) nq (fun hg=>za1 (gq 3 rfl))) (oc (zam rfl rfl rfl (vq 10 rfl) nq (fun hg=>zd5 (zag (vq 11 rfl) hg) za3)) (zv rfl (r_or (vq 10 rfl) (vq 12 rfl)) (zv rfl (za1 (vq 13 rfl)) (oc (zam rfl rfl rfl (vq 14 rfl) nq (fun hg=>za1 (gq 5 rfl))) (oc (zam rfl rfl rfl (vq 14 rfl) nq (fun hg=>zd5 (zag (vq 15 rfl) hg) za3)) (zv rfl (r_or (vq 14 rfl) (vq 16 rfl)) (zv rfl (za1 (vq 17 rfl)) (oc (zam rfl rfl rfl (vq 18 rfl) nq (fun hg=>za1 (gq 7 rfl))) (oc (zam rfl rfl rfl (vq 18 rfl) nq (fun hg=>zd5 (zag (vq 19 rfl) hg) za3)) (zv rfl (r_or (vq 18 rfl) (vq 20 rfl)) o0)))))))))))))))))))))) (fun a w hst=>?_)
   have hst:St B w0 161 [(15,_),(17,_),(120,_)] [⟨7,39,ptrH,_⟩,⟨9,39,ptrH,_⟩,⟨11,39,ptrH,_⟩,⟨13,39,ptrH,_⟩] a w:=hst
   refine za0 ?_
   refine zab hst (zm 2 rfl) (fun hb2=>?_) (fun hb2=>?_)
   ·exact (nw_no hb2).elim
   ·refine wp_skip ?_
    refine zt<|gl (sts:=[none,none,none,none]) (news:=[]) (sp:=((.adr 121 9 (.some 0) True:Sp)::(.val 122 _)::(.val 123 _)::(.val 124 _)::(.val 125 _)::(.adr 126 9 (.some 4) (_=true))::(.val 127 (Wh (_=true) _))::(.val 128 (Wh (_=true) _))::(.val 129 (Wh (_=true) _))::(.val 130 _)::(.val 131 _)::(.adr 132 9 (.some 0) (_=true))::(.val 133 (Wh (_=true) _))::(.adr 134 9 (.some 4) (_=true))::(.val 135 (Wh (_=true) _))::(.val 136 (Wh (_=true) _))::(.val 137 (Wh (_=true) _))::(.val 138 _)::(.val 139 _)::(.adr 140 13 (.some 0) (_=true))::(.val 141 (Wh (_=true) _))::(.val 142 (Wh (_=true) _))::(.val 143 (Wh (_=true) _))::(.val 144 _)::(.val 145 _)::(.adr 146 13 (.some 4) (_=true))::(.val 147 (Wh (_=true) _))::(.val 148 (Wh (_=true) _))::(.val 149 (Wh (_=true) _))::(.val 150 _)::(.val 151 _)::(.val 152 (Wh (_=true) _))::(.val 153 (Wh (_=true) _))::(.val 154 (Wh (_=true) _))::(.val 155 (Wh ((_=true)∧_=false) _))::(.val 156 (Wh (_=true) _))::(.val 157 _)::(.val 158 _)::(.val 159 (Wh (_=true) _))::(.val 160 _)::(.val 4 _)::[])) [.o 40] hst (oc (ob_a rfl rfl (za8 (lz0 1 rfl) zbj)) (zv rfl (za4 0 rfl zk trivial (lz0 1 rfl) (Sub.part 0 rfl rfl) zaa) (zv rfl (zac (lz0 0 rfl) zbl) (zv rfl (za5 (xs:=[.tmp 122,.tmp 123]) (zgf _ ⟨_,_⟩) (.cons (vq 1 rfl) (.cons (vq 2 rfl) .nil))) (zv rfl (za1 (vq 3 rfl)) (oc (zd9 rfl rfl rfl (vq 4 rfl) nq (fun hg=>za8 (lz0 1 rfl) zbq)) (oc (zam rfl rfl rfl (vq 4 rfl) nq (fun hg=>za4 5 rfl zk hg (lz0 1 rfl) (Sub.part 1 rfl rfl) zaa)) (oc (zam rfl rfl rfl (vq 4 rfl) nq (fun hg=>zac (lz0 0 rfl) zbl)) (oc (zam rfl rfl rfl (vq 4 rfl) nq (fun hg=>za5 (xs:=[.tmp 127,.tmp 128]) (zgf _ ⟨_,_⟩) (.cons (zag (vq 6 rfl) hg) (.cons (zag (vq 7 rfl) hg) .nil)))) (zv rfl (zcm (vq 4 rfl) (vq 8 rfl)) (zv rfl (za1 (vq 9 rfl)) (oc (zd9 rfl rfl rfl (vq 10 rfl) nq (fun hg=>za8 (lz0 1 rfl) zbj)) (oc (zam rfl rfl rfl (vq 10 rfl) nq (fun hg=>za4 11 rfl zk hg (lz0 1 rfl) (Sub.part 0 rfl rfl) zaa)) (oc (zd9 rfl rfl rfl (vq 10 rfl) nq (fun hg=>za8 (lz0 1 rfl) zbq)) (oc (zam rfl rfl rfl (vq 10 rfl) nq (fun hg=>za4 13 rfl zk hg (lz0 1 rfl) (Sub.part 1 rfl rfl) zaa)) (oc (zam rfl rfl rfl (vq 10 rfl) nq (fun hg=>za5 (xs:=[.tmp 133,.tmp 135]) (zha _ _) (.cons (zag (vq 12 rfl) hg) (.cons (zag (vq 14 rfl) hg) .nil)))) (oc (zam rfl rfl rfl (vq 10 rfl) nq (fun hg=>zhk (zag (vq 15 rfl) hg) za3)) (zv rfl (zcm (vq 10 rfl) (vq 16 rfl)) (zv rfl (za1 (vq 17 rfl)) (oc (zd9 rfl rfl rfl (vq 18 rfl) nq (fun hg=>za8 (lz0 3 rfl) zbj)) (oc (zam rfl rfl rfl (vq 18 rfl) nq (fun hg=>za4 19 rfl zk hg (lz0 3 rfl) (Sub.part 0 rfl rfl) zaa)) (oc (zam rfl rfl rfl (vq 18 rfl) nq (fun hg=>zac (lz0 2 rfl) zbl)) (oc (zam rfl rfl rfl (vq 18 rfl) nq (fun hg=>za5 (xs:=[.tmp 141,.tmp 142]) (zgf _ ⟨_,_⟩) (.cons (zag (vq 20 rfl) hg) (.cons (zag (vq 21 rfl) hg) .nil)))) (zv rfl (zcm (vq 18 rfl) (vq 22 rfl)) (zv rfl (za1 (vq 23 rfl)) (oc (zd9 rfl rfl rfl (vq 24 rfl) nq (fun hg=>za8 (lz0 3 rfl) zbq)) (oc (zam rfl rfl rfl (vq 24 rfl) nq (fun hg=>za4 25 rfl zk hg (lz0 3 rfl) (Sub.part 1 rfl rfl) zaa)) (oc (zam rfl rfl rfl (vq 24 rfl) nq (fun hg=>zac (lz0 2 rfl) zbl)) (oc (zam rfl rfl rfl (vq 24 rfl) nq (fun hg=>za5 (xs:=[.tmp 147,.tmp 148]) (zgf _ ⟨_,_⟩) (.cons (zag (vq 26 rfl) hg) (.cons (zag (vq 27 rfl) hg) .nil)))) (zv rfl (zcm (vq 24 rfl) (vq 28 rfl)) (zv rfl (za1 (vq 29 rfl)) (oc (zam rfl rfl rfl (vq 30 rfl) nq (fun hg=>za1 (gq 0 rfl))) (oc (zam rfl rfl rfl (vq 30 rfl) nq (fun hg=>zdp (zag (vq 31 rfl) hg))) (oc (zam rfl rfl rfl (vq 30 rfl) nq (fun hg=>za1 (zag (vq 32 rfl) hg))) (oc (zfk rfl rfl rfl (vq 33 rfl) nq (fun hg=>za1 (gq 1 rfl))) (oc (zam rfl rfl rfl (vq 30 rfl) nq (fun hg=>r_or (zag (vq 33 rfl) hg) (zkr (vq 34 rfl) hg))) (zv rfl (zcm (vq 30 rfl) (vq 35 rfl)) (zv rfl (za1 (vq 36 rfl)) (oc (zam rfl rfl rfl (vq 37 rfl) nq (fun hg=>za5 (xs:=[]) zkb .nil)) (zv rfl (zcm (vq 37 rfl) (vq 38 rfl)) (zv rfl (za2 (vq 39 rfl)) o0))))))))))))))))))))))))))))))))))))))))) (fun a w hst=>?_)
    have hst:St B w0 161 [(4,_)] [⟨7,39,ptrH,_⟩,⟨9,39,ptrH,_⟩,⟨11,39,ptrH,_⟩,⟨13,39,ptrH,_⟩] a w:=hst
    refine za0 ?_
    refine wp_ret ?_
    refine zah ?_ (zaj rfl hst (zm 0 rfl))
    exact zd4 (congrArg Bo (nw_end hQ o))
open Go.ChangeShapes Go.WideShapes Go.ChangeAt
open Go.ChangeMaps (open_string shut_string)
theorem own:ownKnob Tryz.prog.godebug=none:=by kernel_rfl
theorem laidOut:laidOutB Tryz.prog=true:=by kernel_rfl
theorem lifted (os:Os)(started:os.Started)(H:Type)(enc:TypeId × Value→H) :
  ReturnsInHanded {} Tryz.checked os 4 .any (Rows.tolerNarrowSpec.pre6 enc Tryz.prog Tryz.f4 Rows.tolerNarrowRow.domain false) (Rows.tolerNarrowSpec.post enc Tryz.prog Tryz.f4 false true false false):=by
 refine returnsInHanded_of_change (C:=Tryz.checked) own started zk Tryz.func4
  (ChangeSpec.witness6 (enc:=enc) (C:=Tryz.checked) false ⟨#[],#[.slice none 0 0,.slice none 0 0],[]⟩ 8 zk zk zk zk) ?_
 intro W base args ds gs before hval0 hW hcnd _
 have hval:∀ (j:Nat) t v,Tryz.f4.params[j]?=some t→args[j]?=some v→Value.okWide Tryz.prog W .any base t v:=hval0
 have hW':=hW
 obtain ⟨p,q,hA0,hV,rfl,hfz,hnd⟩:=hW
 have hA:DataW.TrodAll enc Tryz.prog W 0 (fun _=>true) true Tryz.f4.params.toList args.toList ds p:=hA0
 rw [Tryz.params4] at hA hval
 obtain ⟨v0,vs0,d0,ds0,p0,q0,hargs,rfl,rfl,h0,r0⟩:=trodAll_cons hA
 obtain ⟨v1,vs1,d1,ds1,p1,q1,rfl,rfl,rfl,h1,r1⟩:=trodAll_cons r0
 obtain ⟨rfl,rfl,rfl⟩:=trodAll_nil r1
 obtain rfl:args = #[v0,v1]:=by cases args; simp_all
 obtain ⟨rfl,rfl⟩:=trodVars_none hV
 have k0:=h0
 have lt0:∀ x∈p0,x.block<W.heap.size:=by obtain ⟨m,hm⟩:=k0; exact DataW.trod_lt m _ _ _ hm
 have k1:=h1
 have lt1:∀ x∈p1,x.block<W.heap.size:=by obtain ⟨m,hm⟩:=k1; exact DataW.trod_lt m _ _ _ hm
 obtain ⟨x0,a0⟩:=arg_sl (A:=LoA) (m:=17) (D:=[130]) Tryz.underlying22 zk zd (fun _=>nd_self zk) rd_lo (hval 0 22 v0 rfl rfl) h0
 obtain ⟨x1,a1⟩:=arg_sl (A:=U8A) (m:=1) (D:=[130]) Tryz.underlying31 zk zd (fun _=>nd_self zk) rd_u8 (hval 1 31 v1 rfl rfl) h1
 clear hA0 hval0
 refine ((narrow_w x0 x1 (sl_b8 a1)).2 W.heap.size W [v0,v1] (Nat.le_refl _) (.cons a0 (.cons a1 .nil))).mono fun e W' ⟨v,he,hv,bel⟩=>?_
 have hv':=ze9 hv
 subst hv' he
 exact ⟨_,rfl,_,_,_,[],_,[],hW',trodAll_mk1 (shut_bool Tryz.underlying4 _),(trodAll_cons_mk (Below.trod laidOut zk (of_decide_eq_true zk) k0 bel lt0) (trodAll_cons_mk (Below.trod laidOut zk (of_decide_eq_true zk) k1 bel lt1) trodAll_mk0)),rfl,bel.frame _,fun h=>by cases h⟩
theorem over:Rows.tolerNarrowRow.holds Tryz.pinned (OpenSpec.ofChange Rows.tolerNarrowSpec) :=
 OpenClaim.holds_of_wide 4 Tryz.f4 rfl rfl rfl rfl rfl rfl rfl ⟨rfl,rfl,rfl,rfl,rfl⟩ rfl rfl rfl rfl rfl zk Tryz.func4 zk
  (of_decide_eq_true zk) (by unfold Func.isWrapper; rw [if_neg (of_decide_eq_false zk)]; exact ⟨rfl,rfl⟩)
  (fun os started H enc _=>lifted os started H enc)
theorem provedTolerNarrow:Rows.TolerNarrowSaid:=over
#print axioms provedTolerNarrow
end Go.Proofs.YtlpppkkggljdcaaGreat
