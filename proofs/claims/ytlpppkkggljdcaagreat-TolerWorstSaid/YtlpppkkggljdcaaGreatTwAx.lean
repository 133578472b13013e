/- TolerWorst: for all loose elements the law of chapter 24 on the worst corner answers true. No condition. -/
import Derived.Test.YtlpppkkggljdcaaGreatTwAa
import Derived.Test.YtlpppkkggljdcaaGreatTwAc
import Derived.Test.YtlpppkkggljdcaaGreatTwAw
import Derived.Test.YtlpppkkggljdcaaGreatRows
import Derived.WalkKit
import Derived.ProofKit
import Derived.OpenShut
import Derived.ShutString
import Derived.ChangeOld
import Derived.Below
set_option linter.unusedVariables false
set_option linter.unusedSimpArgs false
set_option linter.unusedSectionVars false
set_option maxRecDepth 100000
namespace Go.Proofs.YtlpppkkggljdcaaGreat
open Go Go.RowKit
abbrev LsT (q:MQ):Prop:=longQ q.a=false∧longQ q.b=false∧longQ q.c=false∧longQ q.d=false
theorem asM_T {m:MQ}(h:LsT m):asM 0 m=(rmOf m,0):=by
 obtain ⟨h1,h2,h3,h4⟩:=h
 rw [asM,if_pos rfl,if_neg (by simp [h1,h2,h3,h4])]
abbrev wW (xs:List RLo):List RE:=(woS xs (2^manyF xs)).1
abbrev loT (xs:List RLo):Rat:=loS (aF trQ' xs) (2^manyF xs)
abbrev hiT (xs:List RLo):Rat:=hiS (aF trQ' xs) (2^manyF xs)
abbrev tW (xs:List RLo):Rat:=trQ' (prodQ (wW xs))
theorem wo_some (xs:List RLo):∀ n,0<n→∃ k,k<n∧(woS xs n).1=cnF xs k∧(woS xs n).2=trsQ (prodQ (woS xs n).1)
 | n+1,_=>by
  unfold woS
  split
  ·exact ⟨n,by omega,rfl,rfl⟩
  ·rename_i hc
   rw [Bool.not_eq_true,Bool.or_eq_false_iff] at hc
   have hn:n≠0:=k_ne hc.1
   obtain ⟨k,h1,h2,h3⟩:=wo_some xs n zo
   exact ⟨k,by omega,h2,h3⟩
theorem wo_all (xs:List RLo):∀ n k,k<n→trsQ (prodQ (cnF xs k))≤(woS xs n).2
 | n+1,k,h=>by
  unfold woS
  split
  ·rename_i hc
   by_cases e:k=n
   ·rw [e]; exact Rat.le_refl
   ·rw [Bool.or_eq_true] at hc
    rcases hc with hc | hc
    ·exact absurd (show n=0 by
      have:((n:Nat):Int)=0:=by simpa using hc
      omega) zo
    ·exact Rat.le_trans (wo_all xs n k zo) (Rat.le_of_lt (cm_gt0'.1 (of_decide_eq_true hc)))
  ·rename_i hc
   by_cases e:k=n
   ·rw [e]
    rw [Bool.not_eq_true,Bool.or_eq_false_iff] at hc
    have:¬ (woS xs n).2<trsQ (prodQ (cnF xs n)):=fun h=>by have h2:=of_decide_eq_false hc.2; exact h2 (cm_gt0'.2 h)
    grind
   ·exact wo_all xs n k zo
structure WoOk (xs:List RLo):Prop where
 c:All2 CoB xs (wW xs)
 h:chF (wW xs)=0
 l:LsT (prodQ (wW xs))
 k:okM (rmOf (prodQ (wW xs)))=true
 tl:longQ (tW xs)=false
 ge:loT xs≤tW xs
 le:tW xs≤hiT xs
 big:∀ i,i<2^manyF xs→trsQ (prodQ (cnF xs i))≤trsQ (prodQ (wW xs))
theorem wo_ok {xs:List RLo}(h:FewOk xs):WoOk xs:=by
 obtain ⟨k,hk,e,e2⟩:=wo_some xs (2^manyF xs) (Nat.two_pow_pos _)
 have hc:All2 CoB xs (wW xs):=by rw [wW,e]; exact cnF_co xs k
 have ha:=all2_okC h.a hc
 have hl:(wW xs).length=xs.length:=all2_l hc
 have hr:=zc5 (co_rep h.a hc) (show 2*sumL xs+1≤801 by have:=h.s; omega)
 obtain ⟨q1,q2,q3,q4⟩:=rep_bQ hr
 have hL:LsT (prodQ (wW xs)):=⟨zfi q1 zd,zfi q2 zd,zfi q3 zd,zfi q4 zd⟩
 refine ⟨hc,ch_mk (by rw [hl]; exact h.l4) ha,hL,okM_of hL.1 hL.2.1 hL.2.2.1 hL.2.2.2 (prod_det ha),zfi (bQ_add q1 q4) zd,?_,?_,fun i hi=>?_⟩
 ·have:=lo_all (aF trQ' xs) _ k hk
  rw [tW,wW,e]; exact this
 ·have:=hi_all (aF trQ' xs) _ k hk
  rw [tW,wW,e]; exact this
 ·have:=wo_all xs _ i hi
  rwa [e2] at this
theorem worst_l {xs:List RLo}(h:FewOk xs):Cn Tryz.prog 22 [(SlA 41 [U32] (xs.map LoA)).va] (Tu [(SlA 62 [U32] ((wW xs).map REA)).va,In 0]):=(tWorst_c xs).post (by rw [wrF,if_pos h.t])
theorem trace24_l {xs:List RLo}(h:FewOk xs):Cn Tryz.prog 17 [(SlA 41 [U32] (xs.map LoA)).va] (Tu [(GpA ⟨rfOf (loT xs),rfOf (hiT xs)⟩).va,In 0]):=(tTrace_c xs).post (by rw [(zj1 h (fun k=>(few_b h k).1)).1])
theorem trip_g {ys:List RE}(h:chF ys=0)(l:LsT (prodQ ys)):Cn Tryz.prog 24 [(SlA 62 [U32] (ys.map REA)).va,Bo true] (MR (rmOf (prodQ ys),0)):=(trip_c ys true).post (congrArg MR (show tripF ys true=(rmOf (prodQ ys),0) from by rw [tripF,if_pos h]; exact asM_T l))
theorem tr24_l {M:MQ}(hm:okM (rmOf M)=true)(hl:longQ (trQ' M)=false):Cn Tryz.prog 25 [(RMA (rmOf M)).va] (FrR (rfOf (trQ' M),0)) :=
 (trace_c (rmOf M)).post (congrArg FrR (by
  unfold trF asF kM
  rw [hm,toM_of]
  exact ansF_ok (longQ_false.1 hl)))
def absT (x:Rat):Rat:=if x<0 then 0-x else x
theorem r1_0:r1 0=rfOf 0:=rfl
theorem size_l {x:Rat}(h:longQ x=false):Cn Tryz.prog 27 [(RFA (rfOf x)).va] (RFA (rfOf (absT x))).va:=(size24_c (rfOf x)).post (by
 have e:sizF (rfOf x)=rfOf (absT x):=by
  unfold sizF absT
  rw [sgF_of h]
  by_cases h0:x<0
  ·have hs:x.num.sign<0:=by
    have:=(zie x).2.1
    have h1:¬ 0≤x.num.sign:=fun hh=>by have:=this.1 hh; grind
    omega
   rw [if_pos hs,if_pos h0,r1_0]
   have e2:(0:Rat)-x = -x:=by grind
   have hl:longQ (0-x)=false:=by rw [e2]; exact longQ_false.2 (by rw [Rat.neg_num,zfa,Rat.neg_den]; exact longQ_false.1 h)
   have:=do_ok (op:=fun a b=>some (a-b)) (x:=rfOf 0) (y:=rfOf x) (z:=0-x) (ok_long (by kernel_rfl)) (ok_long h) (by rw [zds,zds]) hl
   exact congrArg Prod.fst this
  ·have hs:¬ x.num.sign<0:=by
    have:=(zie x).2.1.2 (by grind)
    omega
   rw [if_neg hs,if_neg h0]
 rw [e])
def mostT (xs:List RLo):Rat:=if decide (cmF (rfOf (absT (hiT xs))) (rfOf (absT (loT xs)))>0)=true then absT (hiT xs) else absT (loT xs)
theorem most_t {xs:List RLo}(h:decide (cmF (rfOf (absT (hiT xs))) (rfOf (absT (loT xs)))>0)=true):absT (hiT xs)=mostT xs:=by rw [mostT,if_pos h]
theorem most_f {xs:List RLo}(h:decide (cmF (rfOf (absT (hiT xs))) (rfOf (absT (loT xs)))>0)=false):absT (loT xs)=mostT xs:=by rw [mostT,if_neg (by rw [h]; decide)]
theorem abs_long {x:Rat}(h:longQ x=false):longQ (absT x)=false:=by
 unfold absT
 split
 ·have e2:(0:Rat)-x = -x:=by grind
  rw [e2]; exact longQ_false.2 (by rw [Rat.neg_num,zfa,Rat.neg_den]; exact longQ_false.1 h)
 ·exact h
theorem abs_0 (x:Rat):0≤absT x:=by unfold absT; split <;> grind
theorem abs_sq (x:Rat):absT x*absT x=x*x:=by unfold absT; split <;> grind
theorem sq_leT {a b:Rat}(ha:0≤a)(hb:0≤b)(h:a*a≤b*b):a≤b:=by
 refine Rat.not_lt.1 fun hl=>?_
 have h1:=Rat.mul_le_mul_of_nonneg_left (Rat.le_of_lt hl) hb
 have h2:0<(a-b)*a:=Rat.mul_pos (by grind) (by grind)
 grind
theorem abs_le {x y:Rat}(h:x*x≤y*y):absT x≤absT y:=sq_leT (abs_0 x) (abs_0 y) (by rw [abs_sq,abs_sq]; exact h)
theorem wo_most {xs:List RLo}(h:FewOk xs)(o:WoOk xs):absT (tW xs)=mostT xs:=by
 obtain ⟨_,l1,l2⟩:=zj1 h (fun k=>(few_b h k).1)
 obtain ⟨i,hi,ei⟩:=zkw (aF trQ' xs) _ (Nat.two_pow_pos (manyF xs))
 obtain ⟨j,hj,ej⟩:=zkx (aF trQ' xs) _ (Nat.two_pow_pos (manyF xs))
 have b1:absT (loT xs)≤absT (tW xs):=abs_le (by rw [loT,ei]; exact o.big i hi)
 have b2:absT (hiT xs)≤absT (tW xs):=abs_le (by rw [hiT,ej]; exact o.big j hj)
 have g1:=o.ge
 have g2:=o.le
 have hmax:absT (tW xs)≤absT (loT xs)∨absT (tW xs)≤absT (hiT xs):=by
  unfold absT at *
  by_cases c1:tW xs<0
  ·left; split <;> grind
  ·right; split <;> grind
 unfold mostT
 rw [cmF_of (abs_long l2) (abs_long l1)]
 by_cases hc:absT (loT xs)<absT (hiT xs)
 ·rw [if_pos (decide_eq_true (cm_gt0'.2 hc))]
  grind
 ·rw [if_neg (by simpa using fun hh=>hc (cm_gt0'.1 hh))]
  grind
theorem wo_no1 {xs:List RLo}(o:WoOk xs)(h:((((((0:Int) != 0) || ((0:Int) != 0)) || ((((wW xs).map REA).length:Int) != ((xs.map LoA).length:Int))) || (chF (wW xs) != 0)))=true):False:=by
 rw [o.h,List.length_map,List.length_map,all2_l o.c] at h
 simp at h
theorem wo_lie {xs:List RLo}(h:FewOk xs)(o:WoOk xs):lieF (rfOf (tW xs)) ⟨rfOf (loT xs),rfOf (hiT xs)⟩=true:=by
 obtain ⟨_,l1,l2⟩:=zj1 h (fun k=>(few_b h k).1)
 unfold lieF
 rw [cmF_of l1 o.tl,cmF_of o.tl l2,decide_eq_true (cmp_le.2 o.ge),decide_eq_true (cmp_le.2 o.le)]
 rfl
theorem wo_no2 {xs:List RLo}(hF:FewOk xs)(o:WoOk xs)(h:(((((0:Int) != 0) || ((0:Int) != 0)) || (!lieF (rfOf (tW xs)) ⟨rfOf (loT xs),rfOf (hiT xs)⟩)))=true):False:=by
 rw [wo_lie hF o] at h
 simp at h
theorem all2_at {α β:Type}{R:α→β→Prop}{l:List α}{m:List β}(h:All2 R l m):∀ j (h1:j<l.length) (h2:j<m.length),R l[j] m[j]:=by
 induction h with
 | nil=>intro j h1; cases h1
 | cons hh _ ih =>
  intro j h1 h2
  cases j with
  | zero=>exact hh
  | succ j=>exact ih j (by simpa using h1) (by simpa using h2)
theorem wo_no3 {x:RLo}{y:RE}(o:CoB x y)(h:(((y.k != x.k) || (!(decide (y.p=x.p.lo) || decide (y.p=x.p.hi)))) || (!(decide (y.q=x.q.lo) || decide (y.q=x.q.hi))))=true):False:=by
 obtain ⟨e,hp,hq⟩:=o
 have hp':(decide (y.p=x.p.lo) || decide (y.p=x.p.hi))=true:=by rcases hp with e | e <;> simp [e]
 have hq':(decide (y.q=x.q.lo) || decide (y.q=x.q.hi))=true:=by rcases hq with e | e <;> simp [e]
 rw [hp',hq',e] at h
 simp at h
theorem wo_end {xs:List RLo}(hF:FewOk xs)(o:WoOk xs):(((decide (rfOf (absT (tW xs))=rfOf (mostT xs))&&(decide (((looN xs:Nat):Int)>0) || decide (rfOf (loT xs)=rfOf (hiT xs)))))&&true)=true:=by
 rw [decide_eq_true (congrArg rfOf (wo_most hF o))]
 by_cases h0:looN xs=0
 ·have hm:manyF xs=0:=by rw [← loo_many hF.a]; exact h0
  have e:rfOf (loT xs)=rfOf (hiT xs):=by
   obtain ⟨i,hi,ei⟩:=zkw (aF trQ' xs) _ (Nat.two_pow_pos (manyF xs))
   obtain ⟨j,hj,ej⟩:=zkx (aF trQ' xs) _ (Nat.two_pow_pos (manyF xs))
   rw [loT,hiT,ei,ej]
   rw [hm] at hi hj
   have:i=j:=by omega
   rw [this]
  rw [decide_eq_true e]
  simp
 ·rw [decide_eq_true (show ((looN xs:Nat):Int)>0 by omega)]
  rfl
set_option maxHeartbeats 8000000 in
theorem worst_w (xs:List RLo):Cn Tryz.prog 5 [(SlA 41 [U32] (xs.map LoA)).va] (Bo true):=by
 refine Cn.intro Tryz.func5 rfl zk nq (fun B w0 a hst=>?_)
 have hst:St B w0 141 [(0,(SlA 41 [U32] (xs.map LoA)).va)] [] a w0.w:=hst
 refine wp_seq ?_
 refine gl (sts:=[]) (news:=[]) (sp:=[.val 2 _]) [.g 0,.o 0] hst (zv rfl (za1 zbm) o0) (fun a w hst=>?_)
 have hst:St B w0 141 [(0,_),(2,_)] [] a w:=hst
 refine zt ?_
 refine wp_seq ?_
 refine gl (sts:=[]) (news:=[]) (sp:=[.val 11 _,.val 12 _,.val 13 _]) [.g 0,.g 1,.o 2] hst (zv rfl (za2 (gq 0 rfl)) (zv rfl (za5 (xs:=[.tmp 11]) (few_c xs) (.cons (vq 0 rfl) .nil)) (zv rfl (zda (vq 1 rfl)) o0))) (fun a w hst=>?_)
 have hst:St B w0 141 [(0,_),(2,_),(13,_)] [] a w:=hst
 refine za0 ?_
 refine zac hst (zm 2 rfl) (fun hb0=>?_) (fun hb0=>?_)
 ·refine wp_seq ?_
  refine gl (sts:=[]) (news:=[]) (sp:=[.val 14 _,.val 2 _]) [.g 0,.o 1] hst (zv rfl (za5 (xs:=[]) zkf .nil) (zv rfl (za1 (vq 0 rfl)) o0)) (fun a w hst=>?_)
  have hst:St B w0 141 [(0,_),(2,_)] [] a w:=hst
  refine za0 ?_
  refine wp_ret ?_
  refine zaj ?_
  refine zae ?_ (zah rfl hst (zm 1 rfl))
  exact zay
 ·have hF:=fe_ok hb0
  have o:=wo_ok hF
  obtain ⟨_,l1,l2⟩:=zj1 hF (fun k=>(few_b hF k).1)
  refine wp_skip ?_
  refine zt<|gl (sts:=[]) (news:=[]) (sp:=[.val 16 _,.val 17 _,.val 15 _,.val 18 _,.val 19 _,.val 3 _,.val 4 _]) [.g 0,.g 1,.o 5,.o 6] hst (zv rfl (za2 (gq 0 rfl)) (zv rfl (za5 (xs:=[.tmp 16]) (worst_l hF) (.cons (vq 0 rfl) .nil)) (zv rfl (za2 (vq 1 rfl)) (zv rfl (zee (vq 2 rfl)) (zv rfl (zed (vq 2 rfl)) (zv rfl (za1 (vq 3 rfl)) (zv rfl (za1 (vq 4 rfl)) o0))))))) (fun a w hst=>?_)
  have hst:St B w0 141 [(0,_),(2,_),(3,_),(4,_)] [] a w:=hst
  refine zt<|gl (sts:=[]) (news:=[⟨5,39,ptrH,some 5,_,some (6,_)⟩]) (sp:=[.val 21 _,.val 22 _,.val 20 _,.val 23 _,.val 24 _,.alc 0,.sto 0,.val 6 _]) [.g 0,.g 1,.g 2,.g 3,.o 7] hst (zv rfl (za2 (gq 0 rfl)) (zv rfl (za5 (xs:=[.tmp 21]) (trace24_l hF) (.cons (vq 0 rfl) .nil)) (zv rfl (za2 (vq 1 rfl)) (zv rfl (zee (vq 2 rfl)) (zv rfl (zed (vq 2 rfl)) (oc (zag rfl rfl rfl (Str.zero zd5)) (oc (za8 rfl rfl rfl (vq 3 rfl) zc1 (Eq.trans (b:=8) rfl rfl)) (zv rfl (za1 (vq 4 rfl)) o0)))))))) (fun a w hst=>?_)
  have hst:St B w0 141 [(0,_),(2,_),(3,_),(4,_),(6,_)] [⟨5,39,ptrH,_⟩] a w:=hst
  refine zt ?_
  refine wp_seq ?_
  refine gl (sts:=[none]) (news:=[]) (sp:=[.val 25 _,.val 26 _,.val 27 _,.val 28 (Wh (_=false) _),.val 29 (Wh (_=false) _),.val 30 _,.val 31 _,.val 32 (Wh (_=false) _),.val 33 (Wh (_=false) _),.val 34 (Wh (_=false) _),.val 35 (Wh (_=false) _),.val 36 (Wh (_=false) _),.val 37 _,.val 38 _,.val 39 (Wh (_=false) _),.val 40 (Wh (_=false) _),.val 41 (Wh (_=false) _),.val 42 _]) [.g 0,.g 1,.g 2,.g 3,.g 4,.o 17] hst (zv rfl (za2 (gq 3 rfl)) (zv rfl (zca (vq 0 rfl) za3) (zv rfl (za2 (vq 1 rfl)) (oc (zaf rfl rfl rfl (vq 2 rfl) nq (fun hg=>za2 (gq 4 rfl))) (oc (zaf rfl rfl rfl (vq 2 rfl) nq (fun hg=>zca (zaa (vq 3 rfl) hg) za3)) (zv rfl (r_or (vq 2 rfl) (vq 4 rfl)) (zv rfl (za2 (vq 5 rfl)) (oc (zaf rfl rfl rfl (vq 6 rfl) nq (fun hg=>za2 (gq 2 rfl))) (oc (zaf rfl rfl rfl (vq 6 rfl) nq (fun hg=>zdt Tryz.underlying51 (zaa (vq 7 rfl) hg))) (oc (zaf rfl rfl rfl (vq 6 rfl) nq (fun hg=>za2 (gq 0 rfl))) (oc (zaf rfl rfl rfl (vq 6 rfl) nq (fun hg=>zdt Tryz.underlying22 (zaa (vq 9 rfl) hg))) (oc (zaf rfl rfl rfl (vq 6 rfl) nq (fun hg=>zca (zaa (vq 8 rfl) hg) (zaa (vq 10 rfl) hg))) (zv rfl (r_or (vq 6 rfl) (vq 11 rfl)) (zv rfl (za2 (vq 12 rfl)) (oc (zaf rfl rfl rfl (vq 13 rfl) nq (fun hg=>za2 (gq 2 rfl))) (oc (zaf rfl rfl rfl (vq 13 rfl) nq (fun hg=>za5 (xs:=[.tmp 39]) (zgh _) (.cons (zaa (vq 14 rfl) hg) .nil))) (oc (zaf rfl rfl rfl (vq 13 rfl) nq (fun hg=>zca (zaa (vq 15 rfl) hg) za3)) (zv rfl (r_or (vq 13 rfl) (vq 16 rfl)) o0)))))))))))))))))) (fun a w hst=>?_)
  have hst:St B w0 141 [(0,_),(2,_),(3,_),(4,_),(6,_),(42,_)] [⟨5,39,ptrH,_⟩] a w:=hst
  refine za0 ?_
  refine zac hst (zm 5 rfl) (fun hb1=>?_) (fun hb1=>?_)
  ·exact (wo_no1 o hb1).elim
  ·refine wp_skip ?_
   refine zt<|gl (sts:=[none]) (news:=[⟨7,56,ptrH,some 5,_,some (6,_)⟩]) (sp:=[.val 44 _,.val 45 _,.val 43 _,.val 46 _,.val 47 _,.alc 1,.sto 1,.val 4 _]) [.g 0,.g 1,.g 2,.g 4,.o 7] hst (zv rfl (za2 (gq 2 rfl)) (zv rfl (za5 (xs:=[.tmp 44,.const (.bool true)]) (trip_g o.h o.l) (.cons (vq 0 rfl) (.cons zbm .nil))) (zv rfl (za2 (vq 1 rfl)) (zv rfl (zee (vq 2 rfl)) (zv rfl (zed (vq 2 rfl)) (oc (zag rfl rfl rfl (Str.zero zav)) (oc (za8 rfl rfl rfl (vq 3 rfl) zbk (Eq.trans (b:=16) rfl rfl)) (zv rfl (za1 (vq 4 rfl)) o0)))))))) (fun a w hst=>?_)
   have hst:St B w0 141 [(0,_),(2,_),(3,_),(6,_),(4,_)] [⟨5,39,ptrH,_⟩,⟨7,56,ptrH,_⟩] a w:=hst
   refine zt<|gl (sts:=[none,none]) (news:=[⟨8,37,ptrH,some 5,_,some (6,_)⟩]) (sp:=[.val 49 _,.val 50 _,.val 48 _,.val 51 _,.val 52 _,.alc 2,.sto 2,.val 6 _]) [.g 0,.g 1,.g 2,.g 4,.o 7] hst (zv rfl (zad (lz0 1 rfl) zbk) (zv rfl (za5 (xs:=[.tmp 49]) (tr24_l o.k o.tl) (.cons (vq 0 rfl) .nil)) (zv rfl (za2 (vq 1 rfl)) (zv rfl (zee (vq 2 rfl)) (zv rfl (zed (vq 2 rfl)) (oc (zag rfl rfl rfl (Str.zero zaq)) (oc (za8 rfl rfl rfl (vq 3 rfl) za7 (Eq.trans (b:=4) rfl rfl)) (zv rfl (za1 (vq 4 rfl)) o0)))))))) (fun a w hst=>?_)
   have hst:St B w0 141 [(0,_),(2,_),(3,_),(4,_),(6,_)] [⟨5,39,ptrH,_⟩,⟨7,56,ptrH,_⟩,⟨8,37,ptrH,_⟩] a w:=hst
   refine zt ?_
   refine wp_seq ?_
   refine gl (sts:=[none,none,none]) (news:=[]) (sp:=[.val 53 _,.val 54 _,.val 55 _,.val 56 (Wh (_=false) _),.val 57 (Wh (_=false) _),.val 58 _,.val 59 _,.val 60 (Wh (_=false) _),.val 61 (Wh (_=false) _),.val 62 (Wh (_=false) _),.val 63 (Wh (_=false) _),.val 64 _]) [.g 0,.g 1,.g 2,.o 11] hst (zv rfl (za2 (gq 3 rfl)) (zv rfl (zca (vq 0 rfl) za3) (zv rfl (za2 (vq 1 rfl)) (oc (zaf rfl rfl rfl (vq 2 rfl) nq (fun hg=>za2 (gq 4 rfl))) (oc (zaf rfl rfl rfl (vq 2 rfl) nq (fun hg=>zca (zaa (vq 3 rfl) hg) za3)) (zv rfl (r_or (vq 2 rfl) (vq 4 rfl)) (zv rfl (za2 (vq 5 rfl)) (oc (zaf rfl rfl rfl (vq 6 rfl) nq (fun hg=>zad (lz0 2 rfl) za7)) (oc (zaf rfl rfl rfl (vq 6 rfl) nq (fun hg=>zad (lz0 0 rfl) zc1)) (oc (zaf rfl rfl rfl (vq 6 rfl) nq (fun hg=>za5 (xs:=[.tmp 60,.tmp 61]) (lies24_c _ ⟨_,_⟩) (.cons (zaa (vq 7 rfl) hg) (.cons (zaa (vq 8 rfl) hg) .nil)))) (oc (zaf rfl rfl rfl (vq 6 rfl) nq (fun hg=>zda (zaa (vq 9 rfl) hg))) (zv rfl (r_or (vq 6 rfl) (vq 10 rfl)) o0)))))))))))) (fun a w hst=>?_)
   have hst:St B w0 141 [(0,_),(2,_),(3,_),(64,_)] [⟨5,39,ptrH,_⟩,⟨7,56,ptrH,_⟩,⟨8,37,ptrH,_⟩] a w:=hst
   refine za0 ?_
   refine zac hst (zm 3 rfl) (fun hb2=>?_) (fun hb2=>?_)
   ·exact (wo_no2 hF o hb2).elim
   ·refine wp_skip ?_
    refine zt ?_
    refine wp_seq ?_
    refine gl (sts:=[none,none,none]) (news:=[]) (sp:=[.val 9 _]) [.g 0,.g 1,.g 2,.o 0] hst (zv rfl (za1 za3) o0) (fun a w hst=>?_)
    have hst:St B w0 141 [(0,_),(2,_),(3,_),(9,_)] [⟨5,39,ptrH,_⟩,⟨7,56,ptrH,_⟩,⟨8,37,ptrH,_⟩] a w:=hst
    refine za0 ?_
    refine wp_block ?_
    have hst:=St.sel hst [0,2,3]
    have hst:=St.selL hst [0,2]
    refine wp_loop_ghost (fun n a w=>∃ j:Nat,(n+j=(wW xs).length)∧St B w0 141 [(0,(SlA 41 [U32] (xs.map LoA)).va),(3,(SlA 62 [U32] ((wW xs).map REA)).va),(9,In (j:Nat))] [⟨5,39,ptrH,GpA ⟨rfOf (loT xs),rfOf (hiT xs)⟩⟩,⟨8,37,ptrH,RFA (rfOf (tW xs))⟩] a w) ((wW xs).length) ?_ ?_
    ·exact ⟨0,by omega,hst⟩
    intro n a w hI
    obtain ⟨j,hn,hst⟩:=hI
    refine wp_seq ?_
    refine wp_seq ?_
    refine gl (sts:=[none,none]) (news:=[]) (sp:=[.val 65 _,.val 66 _,.val 67 _,.val 68 _]) [.g 0,.g 1,.g 2,.o 3] hst (zv rfl (za2 (gq 2 rfl)) (zv rfl (za2 (gq 1 rfl)) (zv rfl (zdt Tryz.underlying51 (vq 1 rfl)) (zv rfl (zby (vq 0 rfl) (vq 2 rfl)) o0)))) (fun a w hst=>?_)
    have hst:St B w0 141 [(0,_),(3,_),(9,_),(68,_)] [⟨5,39,ptrH,_⟩,⟨8,37,ptrH,_⟩] a w:=hst
    refine za0 ?_
    refine zac hst (zm 3 rfl) (fun hb3=>?_) (fun hb3=>?_)
    ·have hjW:j<(wW xs).length:=by rw [List.length_map] at hb3; have:=of_decide_eq_true hb3; omega
     have hj:j<xs.length:=by rw [← all2_l o.c]; exact hjW
     refine wp_skip ?_
     refine zt ?_
     refine wp_block ?_
     refine wp_seq ?_
     refine zau (anc:=[[],[],[0,1],[0,1,2],[0,1,2,3],[],[],[5,6],[5,6,7],[5,6,7,8],[0,1,2,3,4,5,6,7,8,9],[0,1,2,3,4,5,6,7,8,9,10],[0,1,2,3,4,5,6,7,8,9,10,11],[0,1,2,3,4,5,6,7,8,9,10,11],[0,1,2,3,4,5,6,7,8,9,10,11,12,13],[0,1,2,3,4,5,6,7,8,9,10,11,12,13,14],[0,1,2,3,4,5,6,7,8,9,10,11,12,13,14,15],[0,1,2,3,4,5,6,7,8,9,10,11],[0,1,2,3,4,5,6,7,8,9,10,11],[0,1,2,3,4,5,6,7,8,9,10,11,17,18],[0,1,2,3,4,5,6,7,8,9,10,11,17,18,19],[0,1,2,3,4,5,6,7,8,9,10,11,17,18,19,20],[0,1,2,3,4,5,6,7,8,9,10,11,12,13,14,15,16,17,18,19,20,21],[0,1,2,3,4,5,6,7,8,9,10,11,12,13,14,15,16,17,18,19,20,21,22],[0,1,2,3,4,5,6,7,8,9,10,11,12,13,14,15,16,17,18,19,20,21,22,23],[0,1,2,3,4,5,6,7,8,9,10,11,12,13,14,15,16,17,18,19,20,21,22,23,24],[0,1,2,3,4,5,6,7,8,9,10,11,12,13,14,15,16,17,18,19,20,21,22,23,24,25],[0,1,2,3,4,5,6,7,8,9,10,11,12,13,14,15,16,17,18,19,20,21,22,23,24,25],[0,1,2,3,4,5,6,7,8,9,10,11,12,13,14,15,16,17,18,19,20,21,22,23,24,25,26,27],[0,1,2,3,4,5,6,7,8,9,10,11,12,13,14,15,16,17,18,19,20,21,22,23,24,25,26,27,28],[0,1,2,3,4,5,6,7,8,9,10,11,12,13,14,15,16,17,18,19,20,21,22,23,24,25,26,27,28,29],[0,1,2,3,4,5,6,7,8,9,10,11,12,13,14,15,16,17,18,19,20,21,22,23,24,25],[0,1,2,3,4,5,6,7,8,9,10,11,12,13,14,15,16,17,18,19,20,21,22,23,24,25],[0,1,2,3,4,5,6,7,8,9,10,11,12,13,14,15,16,17,18,19,20,21,22,23,24,25,31,32],[0,1,2,3,4,5,6,7,8,9,10,11,12,13,14,15,16,17,18,19,20,21,22,23,24,25,31,32,33],[0,1,2,3,4,5,6,7,8,9,10,11,12,13,14,15,16,17,18,19,20,21,22,23,24,25,31,32,33,34],[0,1,2,3,4,5,6,7,8,9,10,11,12,13,14,15,16,17,18,19,20,21,22,23,24,25,26,27,28,29,30,31,32,33,34,35],[0,1,2,3,4,5,6,7,8,9,10,11,12,13,14,15,16,17,18,19,20,21,22,23,24,25,26,27,28,29,30,31,32,33,34,35,36],[0,1,2,3,4,5,6,7,8,9,10,11,12,13,14,15,16,17,18,19,20,21,22,23,24,25,26,27,28,29,30,31,32,33,34,35,36,37]]) (sts:=[none,none]) (news:=[]) (sp:=((.val 71 _:Sp)::(.val 72 _)::(.val 73 _)::(.val 74 _)::(.val 75 _)::(.val 76 _)::(.val 77 _)::(.val 78 _)::(.val 79 _)::(.val 80 _)::(.val 81 _)::(.val 82 _)::(.val 83 (Wh (_=false) _))::(.val 84 (Wh (_=false) _))::(.val 85 (Wh (_=false) _))::(.val 86 (Wh (_=false) _))::(.val 87 (Wh (_=false) _))::(.val 88 (Wh (_=false) _))::(.val 89 (Wh (_=false) _))::(.val 90 (Wh (_=false) _))::(.val 91 (Wh (_=false) _))::(.val 92 (Wh (_=false) _))::(.val 93 (Wh (_=false) _))::(.val 94 (Wh (_=false) _))::(.val 95 _)::(.val 96 _)::(.val 97 (Wh (_=false) _))::(.val 98 (Wh (_=false) _))::(.val 99 (Wh (_=false) _))::(.val 100 (Wh (_=false) _))::(.val 101 (Wh (_=false) _))::(.val 102 (Wh (_=false) _))::(.val 103 (Wh (_=false) _))::(.val 104 (Wh (_=false) _))::(.val 105 (Wh (_=false) _))::(.val 106 (Wh (_=false) _))::(.val 107 (Wh (_=false) _))::(.val 108 (Wh (_=false) _))::(.val 109 _)::[])) [.g 0,.g 1,.g 2,.o 38] za6 hst (zv rfl (za2 (gq 1 rfl)) (zv rfl (za2 (gq 2 rfl)) (zv rfl (zdg zkl (ze1 fun _=>rfl) (vq 0 rfl) (vq 1 rfl) (zcr hjW)) (zv rfl (zbd (vq 2 rfl) zdm (Sub.part 0 rfl rfl)) (zv rfl (zas (vq 3 rfl) zgm) (zv rfl (za2 (gq 0 rfl)) (zv rfl (za2 (gq 2 rfl)) (zv rfl (zdg zfd (ze1 fun _=>rfl) (vq 5 rfl) (vq 6 rfl) (zcr hj)) (zv rfl (zbd (vq 7 rfl) zgs (Sub.part 0 rfl rfl)) (zv rfl (zas (vq 8 rfl) zgm) (zv rfl (zca (vq 4 rfl) (vq 9 rfl)) (zv rfl (za2 (vq 10 rfl)) (oc (zaf rfl rfl rfl (vq 11 rfl) nq (fun hg=>za2 (gq 1 rfl))) (oc (zaf rfl rfl rfl (vq 11 rfl) nq (fun hg=>za2 (gq 2 rfl))) (oc (zaf rfl rfl rfl (vq 11 rfl) nq (fun hg=>zdg zkl (ze1 fun _=>rfl) (zaa (vq 12 rfl) hg) (zaa (vq 13 rfl) hg) (zcr hjW))) (oc (zaf rfl rfl rfl (vq 11 rfl) nq (fun hg=>zbd (zaa (vq 14 rfl) hg) ze6 (Sub.part 1 rfl rfl))) (oc (zaf rfl rfl rfl (vq 11 rfl) nq (fun hg=>zas (zaa (vq 15 rfl) hg) za7)) (oc (zaf rfl rfl rfl (vq 11 rfl) nq (fun hg=>za2 (gq 0 rfl))) (oc (zaf rfl rfl rfl (vq 11 rfl) nq (fun hg=>za2 (gq 2 rfl))) (oc (zaf rfl rfl rfl (vq 11 rfl) nq (fun hg=>zdg zfd (ze1 fun _=>rfl) (zaa (vq 17 rfl) hg) (zaa (vq 18 rfl) hg) (zcr hj))) (oc (zaf rfl rfl rfl (vq 11 rfl) nq (fun hg=>zbd (zaa (vq 19 rfl) hg) zch (Sub.part 1 rfl rfl))) (oc (zaf rfl rfl rfl (vq 11 rfl) nq (fun hg=>zas (zaa (vq 20 rfl) hg) zc1)) (oc (zaf rfl rfl rfl (vq 11 rfl) nq (fun hg=>za5 (xs:=[.tmp 87,.tmp 92]) (end24_c _ _) (.cons (zaa (vq 16 rfl) hg) (.cons (zaa (vq 21 rfl) hg) .nil)))) (oc (zaf rfl rfl rfl (vq 11 rfl) nq (fun hg=>zda (zaa (vq 22 rfl) hg))) (zv rfl (r_or (vq 11 rfl) (vq 23 rfl)) (zv rfl (za2 (vq 24 rfl)) (oc (zaf rfl rfl rfl (vq 25 rfl) nq (fun hg=>za2 (gq 1 rfl))) (oc (zaf rfl rfl rfl (vq 25 rfl) nq (fun hg=>za2 (gq 2 rfl))) (oc (zaf rfl rfl rfl (vq 25 rfl) nq (fun hg=>zdg zkl (ze1 fun _=>rfl) (zaa (vq 26 rfl) hg) (zaa (vq 27 rfl) hg) (zcr hjW))) (oc (zaf rfl rfl rfl (vq 25 rfl) nq (fun hg=>zbd (zaa (vq 28 rfl) hg) zf1 (Sub.part 2 rfl rfl))) (oc (zaf rfl rfl rfl (vq 25 rfl) nq (fun hg=>zas (zaa (vq 29 rfl) hg) za7)) (oc (zaf rfl rfl rfl (vq 25 rfl) nq (fun hg=>za2 (gq 0 rfl))) (oc (zaf rfl rfl rfl (vq 25 rfl) nq (fun hg=>za2 (gq 2 rfl))) (oc (zaf rfl rfl rfl (vq 25 rfl) nq (fun hg=>zdg zfd (ze1 fun _=>rfl) (zaa (vq 31 rfl) hg) (zaa (vq 32 rfl) hg) (zcr hj))) (oc (zaf rfl rfl rfl (vq 25 rfl) nq (fun hg=>zbd (zaa (vq 33 rfl) hg) zd0 (Sub.part 2 rfl rfl))) (oc (zaf rfl rfl rfl (vq 25 rfl) nq (fun hg=>zas (zaa (vq 34 rfl) hg) zc1)) (oc (zaf rfl rfl rfl (vq 25 rfl) nq (fun hg=>za5 (xs:=[.tmp 101,.tmp 106]) (end24_c _ _) (.cons (zaa (vq 30 rfl) hg) (.cons (zaa (vq 35 rfl) hg) .nil)))) (oc (zaf rfl rfl rfl (vq 25 rfl) nq (fun hg=>zda (zaa (vq 36 rfl) hg))) (zv rfl (r_or (vq 25 rfl) (vq 37 rfl)) o0))))))))))))))))))))))))))))))))))))))) zk zk zk zk (fun a w hst=>?_)
     have hst:St B w0 141 [(0,_),(3,_),(9,_),(109,_)] [⟨5,39,ptrH,_⟩,⟨8,37,ptrH,_⟩] a w:=hst
     refine za0 ?_
     refine zac hst (zm 3 rfl) (fun hb4=>?_) (fun hb4=>?_)
     ·exact (wo_no3 (all2_at o.c j hj hjW) hb4).elim
     ·refine wp_skip ?_
      refine zan ?_
      refine za0 ?_
      refine gl (sts:=[none,none]) (news:=[]) (sp:=[.val 69 _,.val 70 _,.val 9 _]) [.g 0,.g 1,.o 2] hst (zv rfl (za2 (gq 2 rfl)) (zv rfl (zbc (vq 0 rfl) za3 ((wi64 (by have:=hF.l30; omega) (by have:=hF.l30; omega)).trans (by omega:(_:Int)=((j+1:Nat):Int)))) (zv rfl (za1 (vq 1 rfl)) o0))) (fun a w hst=>?_)
      have hst:St B w0 141 [(0,_),(3,_),(9,_)] [⟨5,39,ptrH,_⟩,⟨8,37,ptrH,_⟩] a w:=hst
      refine za0 ?_
      have hst:=St.sel hst [0,1,2]
      exact ⟨n-1,by omega,j+1,by omega,hst⟩
    ·refine wp_exit ?_
     refine zal ?_
     refine zal ?_
     refine zb1 ?_
     refine zt<|gl (sts:=[none,none]) (news:=[⟨10,37,ptrH,some 3,_,some (4,_)⟩]) (sp:=[.adr 110 5 (.some 0) True,.val 111 _,.val 112 _,.alc 2,.sto 2]) [.g 0] hst (oc (ob_a rfl rfl (za9 (lz0 0 rfl) zbs)) (zv rfl (za4 0 rfl zk trivial (lz0 0 rfl) (Sub.part 0 rfl rfl) za7) (zv rfl (za5 (xs:=[.tmp 111]) (size_l l1) (.cons (vq 1 rfl) .nil)) (oc (zag rfl rfl rfl (Str.zero zaq)) (oc (za8 rfl rfl rfl (vq 2 rfl) za7 (Eq.trans (b:=4) rfl rfl)) o0))))) (fun a w hst=>?_)
     have hst:St B w0 141 [(0,_)] [⟨5,39,ptrH,_⟩,⟨8,37,ptrH,_⟩,⟨10,37,ptrH,_⟩] a w:=hst
     refine zt ?_
     refine wp_seq ?_
     refine zau (anc:=[[],[0],[0,1],[],[0,1,2,3],[0,1,2,3,4]]) (sts:=[none,none,none]) (news:=[]) (sp:=[.adr 113 5 (.some 4) True,.val 114 _,.val 115 _,.val 116 _,.val 117 _,.val 118 _]) [.g 0,.o 5] za6 hst (oc (ob_a rfl rfl (za9 (lz0 0 rfl) zbr)) (zv rfl (za4 0 rfl zk trivial (lz0 0 rfl) (Sub.part 1 rfl rfl) za7) (zv rfl (za5 (xs:=[.tmp 114]) (size_l l2) (.cons (vq 1 rfl) .nil)) (zv rfl (zad (lz0 2 rfl) za7) (zv rfl (za5 (xs:=[.tmp 115,.tmp 116]) (zhf _ _) (.cons (vq 2 rfl) (.cons (vq 3 rfl) .nil))) (zv rfl (zfe (vq 4 rfl) za3) o0)))))) zk zk zk zk (fun a w hst=>?_)
     have hst:St B w0 141 [(0,_),(118,_)] [⟨5,39,ptrH,_⟩,⟨8,37,ptrH,_⟩,⟨10,37,ptrH,_⟩] a w:=hst
     refine za0 ?_
     refine zc2 (fun a w =>  St B w0 141 [(0,(SlA 41 [U32] (xs.map LoA)).va)] [⟨5,39,ptrH,GpA ⟨rfOf (loT xs),rfOf (hiT xs)⟩⟩,⟨8,37,ptrH,RFA (rfOf (tW xs))⟩,⟨10,37,ptrH,RFA (rfOf (mostT xs))⟩] a w) hst (zm 1 rfl) (fun hb5=>?_) (fun hb5=>?_) (fun a w hst=>?_)
     ·refine gl (sts:=[none,none,some (3,_)]) (news:=[]) (sp:=[.adr 119 5 (.some 4) True,.val 120 _,.val 121 _,.sto 2]) [.g 0] hst (oc (ob_a rfl rfl (za9 (lz0 0 rfl) zbr)) (zv rfl (za4 0 rfl zk trivial (lz0 0 rfl) (Sub.part 1 rfl rfl) za7) (zv rfl (za5 (xs:=[.tmp 120]) (size_l l2) (.cons (vq 1 rfl) .nil)) (oc (za8 rfl rfl rfl (vq 2 rfl) za7 (Eq.trans (b:=4) rfl rfl)) o0)))) (fun a w hst=>?_)
      have hst:St B w0 141 [(0,_)] [⟨5,39,ptrH,_⟩,⟨8,37,ptrH,_⟩,⟨10,37,ptrH,_⟩] a w:=hst
      refine za0 ?_
      have hst:=St.sel hst [0]
      rw [most_t hb5] at hst; exact hst
     ·refine wp_skip ?_
      refine za0 ?_
      have hst:=St.sel hst [0]
      rw [most_f hb5] at hst; exact hst
     refine zt<|zau (anc:=[[],[0],[],[0,1,2],[0,1,2,3],[0,1,2,3,4],[0,1,2,3,4,5],[0,1,2,3,4,5,6],[0,1,2,3,4,5,6,7],[0,1,2,3,4,5,6,7,8],[0,1,2,3,4,5,6,7,8,9],[0,1,2,3,4,5,6,7,8],[0,1,2,3,4,5,6,7,8,11],[0,1,2,3,4,5,6,7,8,9,10,11,12],[0,1,2,3,4,5,6,7,8,9,10,11,12,13],[0,1,2,3,4,5,6,7,8,9,10,11,12,13,14],[0,1,2,3,4,5,6,7,8,9,10,11,12,13,14,15],[0,1,2,3,4,5,6,7,8,9,10,11,12,13,14,15,16],[0,1,2,3,4,5,6,7,8,9,10,11,12,13,14,15,16,17],[0,1,2,3,4,5,6,7,8,9,10,11,12,13,14,15,16,17,18]]) (sts:=[none,none,none]) (news:=[]) (sp:=[.val 122 _,.val 123 _,.val 124 _,.val 125 _,.val 126 _,.val 127 (Wh (_=true) _),.val 128 (Wh (_=true) _),.val 129 (Wh (_=true) _),.val 130 (Wh (_=true) _),.adr 131 5 (.some 0) ((_=true)∧_=false),.val 132 (Wh ((_=true)∧_=false) _),.adr 133 5 (.some 4) ((_=true)∧_=false),.val 134 (Wh ((_=true)∧_=false) _),.val 135 (Wh ((_=true)∧_=false) _),.val 136 (Wh (_=true) _),.val 137 _,.val 138 _,.val 139 (Wh (_=true) _),.val 140 _,.val 2 _]) [.o 19] za6 hst (zv rfl (zad (lz0 1 rfl) za7) (zv rfl (za5 (xs:=[.tmp 122]) (size_l o.tl) (.cons (vq 0 rfl) .nil)) (zv rfl (zad (lz0 2 rfl) za7) (zv rfl (za5 (xs:=[.tmp 123,.tmp 124]) (zck _ _) (.cons (vq 1 rfl) (.cons (vq 2 rfl) .nil))) (zv rfl (za2 (vq 3 rfl)) (oc (zaf rfl rfl rfl (vq 4 rfl) nq (fun hg=>za2 (gq 0 rfl))) (oc (zaf rfl rfl rfl (vq 4 rfl) nq (fun hg=>za5 (xs:=[.tmp 127]) (loose_c xs hF.l4) (.cons (zaa (vq 5 rfl) hg) .nil))) (oc (zaf rfl rfl rfl (vq 4 rfl) nq (fun hg=>zfe (zaa (vq 6 rfl) hg) za3)) (oc (zaf rfl rfl rfl (vq 4 rfl) nq (fun hg=>za2 (zaa (vq 7 rfl) hg))) (oc (zjw rfl rfl rfl (vq 8 rfl) nq (fun hg=>za9 (lz0 0 rfl) zbs)) (oc (zeh rfl rfl rfl (vq 8 rfl) nq (fun hg=>za4 9 rfl zk hg (lz0 0 rfl) (Sub.part 0 rfl rfl) za7)) (oc (zjw rfl rfl rfl (vq 8 rfl) nq (fun hg=>za9 (lz0 0 rfl) zbr)) (oc (zeh rfl rfl rfl (vq 8 rfl) nq (fun hg=>za4 11 rfl zk hg (lz0 0 rfl) (Sub.part 1 rfl rfl) za7)) (oc (zeh rfl rfl rfl (vq 8 rfl) nq (fun hg=>za5 (xs:=[.tmp 132,.tmp 134]) (zck _ _) (.cons (zaa (vq 10 rfl) hg) (.cons (zaa (vq 12 rfl) hg) .nil)))) (oc (zaf rfl rfl rfl (vq 4 rfl) nq (fun hg=>r_or (zaa (vq 8 rfl) hg) (zky (vq 13 rfl) hg))) (zv rfl (zd6 (vq 4 rfl) (vq 14 rfl)) (zv rfl (za2 (vq 15 rfl)) (oc (zaf rfl rfl rfl (vq 16 rfl) nq (fun hg=>za5 (xs:=[]) zkf .nil)) (zv rfl (zd6 (vq 16 rfl) (vq 17 rfl)) (zv rfl (za1 (vq 18 rfl)) o0)))))))))))))))))))) zk zk zk zk (fun a w hst=>?_)
     have hst:St B w0 141 [(2,_)] [⟨5,39,ptrH,_⟩,⟨8,37,ptrH,_⟩,⟨10,37,ptrH,_⟩] a w:=hst
     refine za0 ?_
     refine wp_ret ?_
     refine zae ?_ (zah rfl hst (zm 0 rfl))
     exact zcm (congrArg Bo (wo_end hF o))
open Go.ChangeShapes Go.WideShapes Go.ChangeAt
open Go.ChangeMaps (open_string shut_string)
theorem own:ownKnob Tryz.prog.godebug=none:=by kernel_rfl
theorem laidOut:laidOutB Tryz.prog=true:=by kernel_rfl
theorem lifted (os:Os)(started:os.Started)(H:Type)(enc:TypeId × Value→H) :
  ReturnsInHanded {} Tryz.checked os 5 .any (Rows.tolerWorstSpec.pre6 enc Tryz.prog Tryz.f5 Rows.tolerWorstRow.domain false) (Rows.tolerWorstSpec.post enc Tryz.prog Tryz.f5 false true false false):=by
 refine returnsInHanded_of_change (C:=Tryz.checked) own started zk Tryz.func5
  (ChangeSpec.witness6 (enc:=enc) (C:=Tryz.checked) false ⟨#[],#[.slice none 0 0],[]⟩ 8 zk zk zk zk) ?_
 intro W base args ds gs before hval0 hW hcnd _
 have hval:∀ (j:Nat) t v,Tryz.f5.params[j]?=some t→args[j]?=some v→Value.okWide Tryz.prog W .any base t v:=hval0
 have hW':=hW
 obtain ⟨p,q,hA0,hV,rfl,hfz,hnd⟩:=hW
 have hA:DataW.TrodAll enc Tryz.prog W 0 (fun _=>true) true Tryz.f5.params.toList args.toList ds p:=hA0
 rw [Tryz.params5] at hA hval
 obtain ⟨v0,vs0,d0,ds0,p0,q0,hargs,rfl,rfl,h0,r0⟩:=trodAll_cons hA
 obtain ⟨rfl,rfl,rfl⟩:=trodAll_nil r0
 obtain rfl:args = #[v0]:=by cases args; simp_all
 obtain ⟨rfl,rfl⟩:=trodVars_none hV
 have k0:=h0
 have lt0:∀ x∈p0,x.block<W.heap.size:=by obtain ⟨m,hm⟩:=k0; exact DataW.trod_lt m _ _ _ hm
 obtain ⟨x0,a0⟩:=arg_sl (A:=LoA) (m:=17) (D:=[130]) Tryz.underlying22 zk zd (fun _=>nd_self zk) rd_lo (hval 0 22 v0 rfl rfl) h0
 clear hA0 hval0
 refine ((worst_w x0).2 W.heap.size W [v0] (Nat.le_refl _) (.cons a0 .nil)).mono fun e W' ⟨v,he,hv,bel⟩=>?_
 have hv':=zeb hv
 subst hv' he
 exact ⟨_,rfl,_,_,_,[],_,[],hW',trodAll_mk1 (shut_bool Tryz.underlying4 _),(trodAll_cons_mk (Below.trod laidOut zk (of_decide_eq_true zk) k0 bel lt0) trodAll_mk0),rfl,bel.frame _,fun h=>by cases h⟩
theorem over:Rows.tolerWorstRow.holds Tryz.pinned (OpenSpec.ofChange Rows.tolerWorstSpec) :=
 OpenClaim.holds_of_wide 5 Tryz.f5 rfl rfl rfl rfl rfl rfl rfl ⟨rfl,rfl,rfl,rfl,rfl⟩ rfl rfl rfl rfl rfl zk Tryz.func5 zk
  (of_decide_eq_true zk) (by unfold Func.isWrapper; rw [if_neg (of_decide_eq_false zk)]; exact ⟨rfl,rfl⟩)
  (fun os started H enc _=>lifted os started H enc)
theorem provedTolerWorst:Rows.TolerWorstSaid:=over
#print axioms provedTolerWorst
end Go.Proofs.YtlpppkkggljdcaaGreat
