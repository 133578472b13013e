/- BenchSame: for all benches the law of chapter 10 on the simple bench answers true. No condition. -/
import Derived.Test.YtljkepdpoelpkaaBsAa
import Derived.Test.YtljkepdpoelpkaaBsAc
import Derived.Test.YtljkepdpoelpkaaBsAm
import Derived.Test.YtljkepdpoelpkaaBsAv
import Derived.Test.YtljkepdpoelpkaaRows
import Derived.WalkKit
import Derived.ProofKit
import Derived.OpenShut
import Derived.ShutString
import Derived.ChangeOld
import Derived.Below
set_option linter.unusedVariables false
set_option linter.unusedSimpArgs false
set_option linter.unusedSectionVars false
set_option maxRecDepth 100000
namespace Go.Proofs.Ytljkepdpoelpkaa
open Go Go.RowKit
theorem re_eq {x y:RE}:((((x.k==y.k)&&decide (x.p=y.p)))&&decide (x.q=y.q))=decide (x=y):=by
 cases x; cases y
 simp [RE.mk.injEq,Bool.and_assoc]
 rfl
theorem se_no {xs ys:List RE}{j:Nat}(hx:j<xs.length)(hy:j<ys.length)(h:decide (xs[j]=ys[j])=false):decide (xs=ys)=false:=by
 simp only [decide_eq_false_iff_not] at h ⊢
 rintro rfl
 exact h rfl
theorem se_nx {xs ys:List RE}{j:Nat}(hx:j<xs.length)(hy:j<ys.length)(hp:xs.take j=ys.take j)(h:decide (xs[j]=ys[j])=true):xs.take (j+1)=ys.take (j+1):=by
 rw [List.take_succ_eq_append_getElem hx,List.take_succ_eq_append_getElem hy,hp,of_decide_eq_true h]
theorem sameEl_c (x y:RE):Cn Try.prog 27 [(REA x).va,(REA y).va] (Bo (decide (x=y))):=by
 refine Cn.intro Try.func27 rfl zk nq (fun B w0 a hst=>?_)
 have hst:St B w0 24 [(0,(REA x).va),(1,(REA y).va)] [] a w0.w:=hst
 refine wp_seq ?_
 refine gl (sts:=[]) (news:=[⟨2,49,ptrH,some 0,_,none⟩,⟨3,49,ptrH,some 1,_,none⟩]) (sp:=[.alc 0,.alc 1,.val 4 _]) [.o 2] hst (oc (zaq rfl rfl rfl (gq 0 rfl)) (oc (zaq rfl rfl rfl (gq 1 rfl)) (zv rfl (za2 zbg) o0))) (fun a w hst=>?_)
 have hst:St B w0 24 [(4,_)] [⟨2,49,ptrH,_⟩,⟨3,49,ptrH,_⟩] a w:=hst
 refine zt<|gl (sts:=[none,none]) (news:=[]) (sp:=[.adr 5 2 (.some 0) True,.val 6 _,.adr 7 3 (.some 0) True,.val 8 _,.val 9 _,.val 10 _,.adr 11 2 (.some 1) (_=true),.val 12 (Wh (_=true) _),.adr 13 3 (.some 1) (_=true),.val 14 (Wh (_=true) _),.val 15 (Wh (_=true) _),.val 16 _,.val 17 _,.adr 18 2 (.some 5) (_=true),.val 19 (Wh (_=true) _),.adr 20 3 (.some 5) (_=true),.val 21 (Wh (_=true) _),.val 22 (Wh (_=true) _),.val 23 _,.val 4 _]) [.o 19] hst (oc (ob_a rfl rfl (za9 (lz0 0 rfl) zbz)) (zv rfl (za4 0 rfl zk trivial (lz0 0 rfl) (Sub.part 0 rfl rfl) ty_46) (oc (ob_a rfl rfl (za9 (lz0 1 rfl) zbz)) (zv rfl (za4 2 rfl zk trivial (lz0 1 rfl) (Sub.part 0 rfl rfl) ty_46) (zv rfl (zc5 (vq 1 rfl) (vq 3 rfl)) (zv rfl (za1 (vq 4 rfl)) (oc (ob_ag rfl rfl rfl (vq 5 rfl) nq (fun hg=>za9 (lz0 0 rfl) zbp)) (oc (zac rfl rfl rfl (vq 5 rfl) nq (fun hg=>za4 6 rfl zk hg (lz0 0 rfl) (Sub.part 1 rfl rfl) zam)) (oc (ob_ag rfl rfl rfl (vq 5 rfl) nq (fun hg=>za9 (lz0 1 rfl) zbp)) (oc (zac rfl rfl rfl (vq 5 rfl) nq (fun hg=>za4 8 rfl zk hg (lz0 1 rfl) (Sub.part 1 rfl rfl) zam)) (oc (zac rfl rfl rfl (vq 5 rfl) nq (fun hg=>za5 (xs:=[.tmp 12,.tmp 14]) (sameFrac_c _ _) (.cons (za7 (vq 7 rfl) hg) (.cons (za7 (vq 9 rfl) hg) .nil)))) (zv rfl (zci (vq 5 rfl) (vq 10 rfl)) (zv rfl (za1 (vq 11 rfl)) (oc (ob_ag rfl rfl rfl (vq 12 rfl) nq (fun hg=>za9 (lz0 0 rfl) fld_49_2)) (oc (zac rfl rfl rfl (vq 12 rfl) nq (fun hg=>za4 13 rfl zk hg (lz0 0 rfl) (Sub.part 2 rfl rfl) zam)) (oc (ob_ag rfl rfl rfl (vq 12 rfl) nq (fun hg=>za9 (lz0 1 rfl) fld_49_2)) (oc (zac rfl rfl rfl (vq 12 rfl) nq (fun hg=>za4 15 rfl zk hg (lz0 1 rfl) (Sub.part 2 rfl rfl) zam)) (oc (zac rfl rfl rfl (vq 12 rfl) nq (fun hg=>za5 (xs:=[.tmp 19,.tmp 21]) (sameFrac_c _ _) (.cons (za7 (vq 14 rfl) hg) (.cons (za7 (vq 16 rfl) hg) .nil)))) (zv rfl (zci (vq 12 rfl) (vq 17 rfl)) (zv rfl (za2 (vq 18 rfl)) o0)))))))))))))))))))) (fun a w hst=>?_)
 have hst:St B w0 24 [(4,_)] [⟨2,49,ptrH,_⟩,⟨3,49,ptrH,_⟩] a w:=hst
 refine za0 ?_
 refine wp_ret ?_
 refine zak ?_ (zaf rfl hst (zm 0 rfl))
 exact zc9 (congrArg Bo re_eq)
theorem sameEls_c (xs ys:List RE):Cn Try.prog 10 [(SlA 49 [U32] (xs.map REA)).va,(SlA 49 [U32] (ys.map REA)).va] (Bo (decide (xs=ys))):=by
 refine Cn.intro Try.func10 rfl zk nq (fun B w0 a hst=>?_)
 have hst:St B w0 27 [(0,(SlA 49 [U32] (xs.map REA)).va),(1,(SlA 49 [U32] (ys.map REA)).va)] [] a w0.w:=hst
 have hl:=slA_lenm (hst.vals (0,(SlA 49 [U32] (xs.map REA)).va) (zm 0 rfl))
 refine wp_seq ?_
 refine gl (sts:=[]) (news:=[]) (sp:=[.val 4 _]) [.g 0,.g 1,.o 0] hst (zv rfl (za2 zbg) o0) (fun a w hst=>?_)
 have hst:St B w0 27 [(0,_),(1,_),(4,_)] [] a w:=hst
 refine zt ?_
 refine wp_seq ?_
 refine gl (sts:=[]) (news:=[]) (sp:=[.val 6 _,.val 7 _,.val 8 _,.val 9 _,.val 10 _]) [.g 0,.g 1,.g 2,.o 4] hst (zv rfl (za1 (gq 0 rfl)) (zv rfl (r_len Try.underlying22 (vq 0 rfl)) (zv rfl (za1 (gq 1 rfl)) (zv rfl (r_len Try.underlying22 (vq 2 rfl)) (zv rfl (zch (vq 1 rfl) (vq 3 rfl)) o0))))) (fun a w hst=>?_)
 have hst:St B w0 27 [(0,_),(1,_),(4,_),(10,_)] [] a w:=hst
 refine za0 ?_
 refine zaa hst (zm 3 rfl) (fun hb0=>?_) (fun hb0=>?_)
 ·have hne:decide (xs=ys)=false:=by
   simp only [List.length_map] at hb0
   simp only [decide_eq_false_iff_not]
   rintro rfl
   simp at hb0
  refine wp_seq ?_
  refine gl (sts:=[]) (news:=[]) (sp:=[.val 4 _]) [.g 0,.g 1,.o 0] hst (zv rfl (za2 zbg) o0) (fun a w hst=>?_)
  have hst:St B w0 27 [(0,_),(1,_),(4,_)] [] a w:=hst
  refine za0 ?_
  refine wp_ret ?_
  refine zag ?_
  refine zak ?_ (zaf rfl hst (zm 2 rfl))
  exact zc9 (congrArg Bo hne.symm)
 ·have hee:xs.length=ys.length:=by
   simp only [List.length_map] at hb0; have:(xs.length:Int)=(ys.length:Int):=by simpa using hb0
   omega
  refine wp_skip ?_
  refine zt ?_
  refine wp_seq ?_
  refine gl (sts:=[]) (news:=[]) (sp:=[.val 5 _]) [.g 0,.g 1,.g 2,.o 0] hst (zv rfl (za2 za3) o0) (fun a w hst=>?_)
  have hst:St B w0 27 [(0,_),(1,_),(4,_),(5,_)] [] a w:=hst
  refine za0 ?_
  refine wp_block ?_
  have hst:=St.sel hst [0,1,3]
  refine wp_loop_ghost (fun n a w=>∃ (j:Nat),(n+j=xs.length∧xs.take j=ys.take j)∧St B w0 27 [(0,(SlA 49 [U32] (xs.map REA)).va),(1,(SlA 49 [U32] (ys.map REA)).va),(5,In (j:Nat))] [] a w) (xs.length) ?_ ?_
  ·exact ⟨0,⟨by omega,rfl⟩,hst⟩
  intro n a w hI
  obtain ⟨j,⟨hn,hp⟩,hst⟩:=hI
  refine wp_seq ?_
  refine wp_seq ?_
  refine gl (sts:=[]) (news:=[]) (sp:=[.val 11 _,.val 12 _,.val 13 _,.val 14 _]) [.g 0,.g 1,.g 2,.o 3] hst (zv rfl (za1 (gq 2 rfl)) (zv rfl (za1 (gq 0 rfl)) (zv rfl (r_len Try.underlying22 (vq 1 rfl)) (zv rfl (zc0 (vq 0 rfl) (vq 2 rfl)) o0)))) (fun a w hst=>?_)
  have hst:St B w0 27 [(0,_),(1,_),(5,_),(14,_)] [] a w:=hst
  refine za0 ?_
  refine zaa hst (zm 3 rfl) (fun hb1=>?_) (fun hb1=>?_)
  ·have hj:j<xs.length:=by rw [List.length_map] at hb1; have:=of_decide_eq_true hb1; omega
   have hj2:j<ys.length:=by omega
   refine wp_skip ?_
   refine zt ?_
   refine wp_block ?_
   refine wp_seq ?_
   refine zaw (anc:=[[],[],[0,1],[0,1,2],[],[],[4,5],[4,5,6],[0,1,2,3,4,5,6,7],[0,1,2,3,4,5,6,7,8]]) (sts:=[]) (news:=[]) (sp:=[.val 17 _,.val 18 _,.val 19 _,.val 20 _,.val 21 _,.val 22 _,.val 23 _,.val 24 _,.val 25 _,.val 26 _]) [.g 0,.g 1,.g 2,.o 9] za6 hst (zv rfl (za1 (gq 0 rfl)) (zv rfl (za1 (gq 2 rfl)) (zv rfl (r_idx sl_22 (map_n fun _=>rfl) (vq 0 rfl) (vq 1 rfl) (map_at hj)) (zv rfl (zas (vq 2 rfl) ty_49) (zv rfl (za1 (gq 1 rfl)) (zv rfl (za1 (gq 2 rfl)) (zv rfl (r_idx sl_22 (map_n fun _=>rfl) (vq 4 rfl) (vq 5 rfl) (map_at hj2)) (zv rfl (zas (vq 6 rfl) ty_49) (zv rfl (za5 (xs:=[.tmp 20,.tmp 24]) (sameEl_c _ _) (.cons (vq 3 rfl) (.cons (vq 7 rfl) .nil))) (zv rfl (r_not (vq 8 rfl)) o0)))))))))) zk zk zk zk (fun a w hst=>?_)
   have hst:St B w0 27 [(0,_),(1,_),(5,_),(26,_)] [] a w:=hst
   refine za0 ?_
   refine zaa hst (zm 3 rfl) (fun hb2=>?_) (fun hb2=>?_)
   ·refine wp_seq ?_
    refine gl (sts:=[]) (news:=[]) (sp:=[.val 4 _]) [.g 0,.g 1,.g 2,.o 0] hst (zv rfl (za2 zbg) o0) (fun a w hst=>?_)
    have hst:St B w0 27 [(0,_),(1,_),(5,_),(4,_)] [] a w:=hst
    refine za0 ?_
    refine wp_ret ?_
    refine zbd ?_
    refine zag ?_
    refine zag ?_
    refine zbd ?_
    refine zag ?_
    refine zak ?_ (zaf rfl hst (zm 3 rfl))
    exact zc9 (congrArg Bo (se_no hj hj2 (by simpa using hb2)).symm)
   ·refine wp_skip ?_
    refine zaj ?_
    refine za0 ?_
    refine gl (sts:=[]) (news:=[]) (sp:=[.val 15 _,.val 16 _,.val 5 _]) [.g 0,.g 1,.o 2] hst (zv rfl (za1 (gq 2 rfl)) (zv rfl (zba (vq 0 rfl) za3 ((wi64 zo zo).trans (by omega:(_:Int)=((j+1:Nat):Int)))) (zv rfl (za2 (vq 1 rfl)) o0))) (fun a w hst=>?_)
    have hst:St B w0 27 [(0,_),(1,_),(5,_)] [] a w:=hst
    refine za0 ?_
    have hst:=St.sel hst [0,1,2]
    exact ⟨n-1,by omega,j+1,⟨by omega,se_nx hj hj2 hp (by simpa using hb2)⟩,hst⟩
  ·have hj:j=xs.length:=by rw [List.length_map] at hb1; have:=of_decide_eq_false hb1; omega
   refine wp_exit ?_
   refine zah ?_
   refine zah ?_
   refine zaz ?_
   refine zt<|gl (sts:=[]) (news:=[]) (sp:=[.val 4 _]) [.o 0] hst (zv rfl (za2 zbg) o0) (fun a w hst=>?_)
   have hst:St B w0 27 [(4,_)] [] a w:=hst
   refine za0 ?_
   refine wp_ret ?_
   refine zak ?_ (zaf rfl hst (zm 0 rfl))
   exact zc9 (congrArg Bo (decide_eq_true (by rw [hj,List.take_length,hee,List.take_length] at hp; exact hp)).symm)
theorem sE_re {e:EQ}(h:EOk e):sE (reOf e)=e:=by
 obtain ⟨k,p⟩:=e
 have e1:toQ (rfOf p)=p:=toQ_of p
 rcases h with ⟨hk,_⟩ | ⟨hk,_⟩ | ⟨hk,_⟩ <;> (have hk:k=_:=hk; subst hk; exact congrArg (Prod.mk _) e1)
theorem put_id {L:List EQ}{e:EQ}(h:Plain (L++[e])):putQ L e.1 e.2=L++[e]:=by
 have he:=h.1 e (by simp)
 have hn:¬ (e.1≠5∧e.2=0):=by
  rintro ⟨h1,h2⟩
  rcases he with ⟨_,h3⟩ | ⟨_,h3⟩ | ⟨h3,_⟩
  ·grind
  ·exact h3 h2
  ·exact h1 h3
 rw [putQ,if_neg hn]
 cases hl:L.getLast? with
 | none=>rfl
 | some f =>
  show (if f.1=e.1 then _ else _)=_
  rw [if_neg (plain_last h f hl)]
theorem sim_app (xs ys:List RE):simQ (xs++ys)=ys.foldl (fun L x=>putQ L (sE x).1 (sE x).2) (simQ xs):=by
 unfold simQ
 rw [List.foldl_append]
theorem sim_plain {L:List EQ}(h:Plain L):simQ (L.map reOf)=L:=by
 have key:∀ n,∀ L:List EQ,L.length=n→Plain L→simQ (L.map reOf)=L:=by
  intro n
  induction n with
  | zero =>
   intro L hl _
   have:L=[]:=List.length_eq_zero_iff.1 hl
   subst this
   rfl
  | succ n ih =>
   intro L hl hp
   rcases List.eq_nil_or_concat L with rfl | ⟨M,e,rfl⟩
   ·simp at hl
   ·rw [List.concat_eq_append] at hl hp ⊢
    simp at hl
    rw [List.map_append,sim_app,ih M hl (plain_drop hp)]
    show putQ M (sE (reOf e)).1 (sE (reOf e)).2=_
    rw [sE_re (hp.1 e (by simp)),put_id hp]
 exact key _ L rfl h
theorem sE_kind {x:RE}(h:elF x=true):(((sE x).1=1∧0≤(sE x).2)∨(sE x).1=2∨((sE x).1=5∧(sE x).2=0))∧kdM (sE x)=elM x:=by
 obtain ⟨_,hk⟩:=el_kinds h
 have h2:elK x.k (toQ x.p).num.sign (toQ x.q).num.sign=true:=by
  rw [elF,Bool.and_eq_true] at h
  exact h.2
 have hs:∀ {y:Rat},y.num.sign≥0→0≤y:=fun {y} hy=>by
  have:=sgn_l0 (x:=y)
  rw [decide_eq_false (show ¬ y.num.sign<0 by omega)] at this
  have:=of_decide_eq_false this.symm
  grind
 have e0:∀ y:Rat,(0:Rat)-y = -y:=fun y=>by grind
 unfold elM
 rcases hk with hk | hk | ⟨hk,h0⟩ | hk | hk
 ·rw [hk,kd1 rfl,Bool.and_eq_true,decide_eq_true_eq] at h2
  rw [sE,hk]
  exact ⟨.inl ⟨rfl,hs h2.1⟩,rfl⟩
 ·rw [sE,hk]
  refine ⟨.inr (.inl rfl),?_⟩
  show (⟨1,0,-toQ x.p,1⟩:MQ)=⟨1,0,0-toQ x.p,1⟩
  rw [e0]
 ·rw [hk,kd3 rfl rfl rfl,Bool.and_eq_true,decide_eq_true_eq] at h2
  rw [sE,hk]
  refine ⟨.inl ⟨rfl,?_⟩,rfl⟩
  have hp:=hs h2.1
  have hq:0<toQ x.q:=by
   have:=sgn_g0 (x:=toQ x.q)
   rw [h2.2] at this
   exact of_decide_eq_true this.symm
  show 0≤toQ x.p/toQ x.q
  rw [Rat.div_def]
  exact Rat.mul_nonneg hp (Rat.le_of_lt (Rat.inv_pos.2 hq))
 ·rw [sE,hk]
  refine ⟨.inr (.inl rfl),?_⟩
  show (⟨1,0,-(toQ x.p*toQ x.q),1⟩:MQ)=⟨1,0,0-toQ x.p*toQ x.q,1⟩
  rw [e0]
 ·rw [hk,kd5 rfl rfl rfl rfl,Bool.and_eq_true,Bool.and_eq_true,sgn_0,decide_eq_true_eq] at h2
  rw [sE,hk]
  refine ⟨.inr (.inr ⟨rfl,h2.1.2⟩),?_⟩
  show (⟨-1,0,0,-1⟩:MQ)=⟨0-1,0-0,0-0,0-1⟩
  simp only [MQ.mk.injEq]
  exact ⟨by grind,by grind,by grind,by grind⟩
theorem sim_ok {xs:List RE}(h:xs.all elF=true):Plain (simQ xs)∧prdQ (simQ xs)=prodQ xs:=by
 have key:∀ j,j≤xs.length→Plain (simQ (xs.take j))∧prdQ (simQ (xs.take j))=prodQ (xs.take j):=by
  intro j
  induction j with
  | zero=>exact fun _=>⟨plain_nil,rfl⟩
  | succ j ih =>
   intro hj
   obtain ⟨h1,h2⟩:=ih zo
   obtain ⟨k1,k2⟩:=sE_kind (List.all_eq_true.1 h _ (List.getElem_mem (show j<xs.length by omega)))
   rw [sim_nx zo]
   refine ⟨put_plain h1 k1,?_⟩
   rw [put_prd _ (k1.elim (fun h=>.inl h.1) fun h=>h.elim (fun h=>.inr (.inl h)) fun h=>.inr (.inr h.1)),h2,prod_nx zo]
   rw [← k2]
 have:=key xs.length (Nat.le_refl _)
 rwa [List.take_length] at this
theorem simple_s (xs:List RE):Cn Try.prog 7 [(SlA 49 [U32] (xs.map REA)).va] (Tu [(SlA 49 [U32] (((simF xs).1.map reOf).map REA)).va,In (simF xs).2]):=(simple_c xs).wkp (tu2w eb_sl zbl)
theorem bs_in {xs ys:List RE}(h:((!true) || (!fiF xs ys))=false):chF xs=0∧chF ys=0∧xs.length+ys.length≤4096:=fi_ok (by simpa using h)
theorem sim_ch {xs:List RE}(h:chF xs=0):simF xs=toldL (simQ xs):=if_pos h
theorem bs_err {xs:List RE}(h:chF xs=0)(h2:((simF xs).2 != 0)=true):((simF xs).2==4)=true:=by
 rw [sim_ch h] at h2 ⊢
 rcases tlF_2 ((simQ xs).map reOf) with h1 | h1
 ·rw [toldL_0 h1] at h2; simp at h2
 ·rw [toldL_4 h1]; rfl
theorem bs_ok {xs:List RE}(h:chF xs=0)(h2:((simF xs).2 != 0)=false):simF xs=(simQ xs,0)∧Plain (simQ xs)∧(∀ e∈simQ xs,longQ e.2=false)∧chF ((simQ xs).map reOf)=0∧simF ((simQ xs).map reOf)=(simQ xs,0)∧benF ((simQ xs).map reOf)=benF xs:=by
 rw [sim_ch h] at h2
 obtain ⟨hl,hal⟩:=ch_ok h
 obtain ⟨hp,hpr⟩:=sim_ok hal
 have h5:=sim_len xs
 rcases tlF_2 ((simQ xs).map reOf) with h1 | h1
 ·have hlg:=told_all h1
  have hc:=ch_re hp hlg zo
  refine ⟨by rw [sim_ch h,toldL_0 h1],hp,hlg,hc,by rw [sim_ch hc,sim_plain hp,toldL_0 h1],?_⟩
  rw [benF,benF,if_pos h,if_pos hc,prod_re hp.1,hpr]
 ·rw [toldL_4 h1] at h2; simp at h2
theorem ch_app2 {xs ys:List RE}(h1:chF xs=0)(h2:chF ys=0)(h3:xs.length+ys.length≤4096):chF (xs++ys)=0:=ch_mk (by rw [List.length_append]; omega) (by rw [List.all_append,(ch_ok h1).2,(ch_ok h2).2]; rfl)
theorem bs_len {xs ys:List RE}(h:xs.length+ys.length≤4096):((simQ xs).map reOf).length+ys.length≤4096:=by
 have:=sim_len xs
 rw [List.length_map]
 omega
theorem bs_two {xs ys:List RE}(h1:chF xs=0)(h2:chF ys=0)(h3:xs.length+ys.length≤4096)(hp:Plain (simQ xs))(hc:chF ((simQ xs).map reOf)=0):simF ((simQ xs).map reOf++ys)=simF (xs++ys):=by
 rw [sim_ch (ch_app2 h1 h2 h3),sim_ch (ch_app2 hc h2 (bs_len h3)),sim_app,sim_plain hp,sim_app]
theorem bs_no {L:List EQ}{xs:List RE}(h:L.length≤xs.length)(h2:(((((((0:Int) != 0) || decide ((((L.map reOf).map REA).length:Int)>((xs.map REA).length:Int))) || (!true)) || ((0:Int) != 0)) || (!decide (L.map reOf=L.map reOf)))=true)):False:=by
 simp at h2
 omega
theorem bs_no2 {c:Int}{L:List RE}(h2:(((c != c) || (!decide (L=L)))=true)):False:=by simp at h2
theorem bs_end {c:Int}{m:RM}:(((c==c)&&decide (m=m)))=true:=by simp
set_option maxHeartbeats 4000000 in
theorem same_w (xs ys:List RE):Cn Try.prog 3 [(SlA 49 [U32] (xs.map REA)).va,(SlA 49 [U32] (ys.map REA)).va] (Bo true):=by
 refine Cn.intro Try.func3 rfl zk nq (fun B w0 a hst=>?_)
 have hst:St B w0 106 [(0,(SlA 49 [U32] (xs.map REA)).va),(1,(SlA 49 [U32] (ys.map REA)).va)] [] a w0.w:=hst
 refine wp_seq ?_
 refine gl (sts:=[]) (news:=[]) (sp:=[.val 4 _]) [.g 0,.g 1,.o 0] hst (zv rfl (za2 zbg) o0) (fun a w hst=>?_)
 have hst:St B w0 106 [(0,_),(1,_),(4,_)] [] a w:=hst
 refine zt ?_
 refine wp_seq ?_
 refine gl (sts:=[]) (news:=[]) (sp:=[.val 17 _,.val 18 _,.val 19 _,.val 20 (Wh (_=false) _),.val 21 (Wh (_=false) _),.val 22 (Wh (_=false) _),.val 23 (Wh (_=false) _),.val 24 _]) [.g 0,.g 1,.g 2,.o 7] hst (zv rfl (za5 (xs:=[]) alive10_c .nil) (zv rfl (r_not (vq 0 rfl)) (zv rfl (za1 (vq 1 rfl)) (oc (zac rfl rfl rfl (vq 2 rfl) nq (fun hg=>za1 (gq 0 rfl))) (oc (zac rfl rfl rfl (vq 2 rfl) nq (fun hg=>za1 (gq 1 rfl))) (oc (zac rfl rfl rfl (vq 2 rfl) nq (fun hg=>za5 (xs:=[.tmp 20,.tmp 21]) (fits10_c _ _) (.cons (za7 (vq 3 rfl) hg) (.cons (za7 (vq 4 rfl) hg) .nil)))) (oc (zac rfl rfl rfl (vq 2 rfl) nq (fun hg=>r_not (za7 (vq 5 rfl) hg))) (zv rfl (r_or (vq 2 rfl) (vq 6 rfl)) o0)))))))) (fun a w hst=>?_)
 have hst:St B w0 106 [(0,_),(1,_),(4,_),(24,_)] [] a w:=hst
 refine za0 ?_
 refine zaa hst (zm 3 rfl) (fun hb0=>?_) (fun hb0=>?_)
 ·refine wp_seq ?_
  refine gl (sts:=[]) (news:=[]) (sp:=[.val 25 _,.val 4 _]) [.g 0,.g 1,.o 1] hst (zv rfl (za5 (xs:=[]) alive10_c .nil) (zv rfl (za2 (vq 0 rfl)) o0)) (fun a w hst=>?_)
  have hst:St B w0 106 [(0,_),(1,_),(4,_)] [] a w:=hst
  refine za0 ?_
  refine wp_ret ?_
  refine zag ?_
  refine zak ?_ (zaf rfl hst (zm 2 rfl))
  exact zbl
 ·have hin:=bs_in hb0
  refine wp_skip ?_
  refine zt<|gl (sts:=[]) (news:=[]) (sp:=[.val 27 _,.val 28 _,.val 26 _,.val 29 _,.val 30 _,.val 5 _,.val 6 _]) [.g 0,.g 1,.g 2,.o 5,.o 6] hst (zv rfl (za1 (gq 0 rfl)) (zv rfl (za5 (xs:=[.tmp 27]) (simple_s xs) (.cons (vq 0 rfl) .nil)) (zv rfl (za1 (vq 1 rfl)) (zv rfl (r_ex0 (vq 2 rfl)) (zv rfl (r_ex1 (vq 2 rfl)) (zv rfl (za2 (vq 3 rfl)) (zv rfl (za2 (vq 4 rfl)) o0))))))) (fun a w hst=>?_)
  have hst:St B w0 106 [(0,_),(1,_),(4,_),(5,_),(6,_)] [] a w:=hst
  refine zt ?_
  refine wp_seq ?_
  refine gl (sts:=[]) (news:=[]) (sp:=[.val 31 _,.val 32 _]) [.g 0,.g 1,.g 2,.g 3,.g 4,.o 1] hst (zv rfl (za1 (gq 4 rfl)) (zv rfl (zch (vq 0 rfl) za3) o0)) (fun a w hst=>?_)
  have hst:St B w0 106 [(0,_),(1,_),(4,_),(5,_),(6,_),(32,_)] [] a w:=hst
  refine za0 ?_
  refine zaa hst (zm 5 rfl) (fun hb1=>?_) (fun hb1=>?_)
  ·have hr:=bs_err hin.1 hb1
   refine wp_seq ?_
   refine gl (sts:=[]) (news:=[]) (sp:=[.val 33 _,.val 34 _,.val 4 _]) [.g 0,.g 1,.g 3,.o 2] hst (zv rfl (za1 (gq 4 rfl)) (zv rfl (zc5 (vq 0 rfl) za3) (zv rfl (za2 (vq 1 rfl)) o0))) (fun a w hst=>?_)
   have hst:St B w0 106 [(0,_),(1,_),(5,_),(4,_)] [] a w:=hst
   refine za0 ?_
   refine wp_ret ?_
   refine zag ?_
   refine zak ?_ (zaf rfl hst (zm 3 rfl))
   exact zc9 (congrArg Bo hr)
  ·obtain ⟨hS,hp,hL,hC,hA,hM⟩:=bs_ok hin.1 hb1
   have hst:=St.cvG (A':=(SlA 49 [U32] (((simQ xs).map reOf).map REA)).va) hst 3 rfl (congrArg (fun r:List EQ × Int=>(SlA 49 [U32] ((r.1.map reOf).map REA)).va) hS)
   refine wp_skip ?_
   refine zt<|gl (sts:=[]) (news:=[]) (sp:=[.val 36 _,.val 37 _,.val 35 _,.val 38 _,.val 39 _,.val 7 _,.val 8 _]) [.g 0,.g 1,.g 2,.g 3,.o 5,.o 6] hst (zv rfl (za1 (gq 3 rfl)) (zv rfl (za5 (xs:=[.tmp 36]) (simple_s ((simQ xs).map reOf)) (.cons (vq 0 rfl) .nil)) (zv rfl (za1 (vq 1 rfl)) (zv rfl (r_ex0 (vq 2 rfl)) (zv rfl (r_ex1 (vq 2 rfl)) (zv rfl (za2 (vq 3 rfl)) (zv rfl (za2 (vq 4 rfl)) o0))))))) (fun a w hst=>?_)
   have hst:St B w0 106 [(0,_),(1,_),(4,_),(5,_),(7,_),(8,_)] [] a w:=hst
   have hst:=St.cvG (A':=(SlA 49 [U32] (((simQ xs).map reOf).map REA)).va) hst 4 rfl (congrArg (fun r:List EQ × Int=>(SlA 49 [U32] ((r.1.map reOf).map REA)).va) hA)
   have hst:=St.cvG (A':=In 0) hst 5 rfl (congrArg (fun r:List EQ × Int=>In r.2) hA)
   refine zt ?_
   refine wp_seq ?_
   refine gl (sts:=[]) (news:=[]) (sp:=((.val 40 _:Sp)::(.val 41 _)::(.val 42 _)::(.val 43 (Wh (_=false) _))::(.val 44 (Wh (_=false) _))::(.val 45 (Wh (_=false) _))::(.val 46 (Wh (_=false) _))::(.val 47 (Wh (_=false) _))::(.val 48 _)::(.val 49 _)::(.val 50 (Wh (_=false) _))::(.val 51 (Wh (_=false) _))::(.val 52 (Wh (_=false) _))::(.val 53 _)::(.val 54 _)::(.val 55 (Wh (_=false) _))::(.val 56 (Wh (_=false) _))::(.val 57 (Wh (_=false) _))::(.val 58 _)::(.val 59 _)::(.val 60 (Wh (_=false) _))::(.val 61 (Wh (_=false) _))::(.val 62 (Wh (_=false) _))::(.val 63 (Wh (_=false) _))::(.val 64 _)::[])) [.g 0,.g 1,.g 2,.g 3,.o 24] hst (zv rfl (za1 (gq 5 rfl)) (zv rfl (zch (vq 0 rfl) za3) (zv rfl (za1 (vq 1 rfl)) (oc (zac rfl rfl rfl (vq 2 rfl) nq (fun hg=>za1 (gq 3 rfl))) (oc (zac rfl rfl rfl (vq 2 rfl) nq (fun hg=>r_len Try.underlying22 (za7 (vq 3 rfl) hg))) (oc (zac rfl rfl rfl (vq 2 rfl) nq (fun hg=>za1 (gq 0 rfl))) (oc (zac rfl rfl rfl (vq 2 rfl) nq (fun hg=>r_len Try.underlying22 (za7 (vq 5 rfl) hg))) (oc (zac rfl rfl rfl (vq 2 rfl) nq (fun hg=>r_gtr (za7 (vq 4 rfl) hg) (za7 (vq 6 rfl) hg))) (zv rfl (r_or (vq 2 rfl) (vq 7 rfl)) (zv rfl (za1 (vq 8 rfl)) (oc (zac rfl rfl rfl (vq 9 rfl) nq (fun hg=>za1 (gq 3 rfl))) (oc (zac rfl rfl rfl (vq 9 rfl) nq (fun hg=>za5 (xs:=[.tmp 50]) (plain_c (simQ xs) hp hL) (.cons (za7 (vq 10 rfl) hg) .nil))) (oc (zac rfl rfl rfl (vq 9 rfl) nq (fun hg=>r_not (za7 (vq 11 rfl) hg))) (zv rfl (r_or (vq 9 rfl) (vq 12 rfl)) (zv rfl (za1 (vq 13 rfl)) (oc (zac rfl rfl rfl (vq 14 rfl) nq (fun hg=>za1 (gq 3 rfl))) (oc (zac rfl rfl rfl (vq 14 rfl) nq (fun hg=>za5 (xs:=[.tmp 55]) ((benCheck_c ((simQ xs).map reOf)).post (congrArg In hC)) (.cons (za7 (vq 15 rfl) hg) .nil))) (oc (zac rfl rfl rfl (vq 14 rfl) nq (fun hg=>zch (za7 (vq 16 rfl) hg) za3)) (zv rfl (r_or (vq 14 rfl) (vq 17 rfl)) (zv rfl (za1 (vq 18 rfl)) (oc (zac rfl rfl rfl (vq 19 rfl) nq (fun hg=>za1 (gq 4 rfl))) (oc (zac rfl rfl rfl (vq 19 rfl) nq (fun hg=>za1 (gq 3 rfl))) (oc (zac rfl rfl rfl (vq 19 rfl) nq (fun hg=>za5 (xs:=[.tmp 60,.tmp 61]) (sameEls_c ((simQ xs).map reOf) ((simQ xs).map reOf)) (.cons (za7 (vq 20 rfl) hg) (.cons (za7 (vq 21 rfl) hg) .nil)))) (oc (zac rfl rfl rfl (vq 19 rfl) nq (fun hg=>r_not (za7 (vq 22 rfl) hg))) (zv rfl (r_or (vq 19 rfl) (vq 23 rfl)) o0))))))))))))))))))))))))) (fun a w hst=>?_)
   have hst:St B w0 106 [(0,_),(1,_),(4,_),(5,_),(64,_)] [] a w:=hst
   refine za0 ?_
   refine zaa hst (zm 4 rfl) (fun hb2=>?_) (fun hb2=>?_)
   ·exact (bs_no (sim_len xs) hb2).elim
   ·refine wp_skip ?_
    refine zt<|gl (sts:=[]) (news:=[]) (sp:=[.val 66 _,.val 67 _,.val 68 _,.val 69 _,.val 65 _,.val 70 _,.val 71 _,.val 9 _,.val 10 _]) [.g 0,.g 1,.g 2,.g 3,.o 7,.o 8] hst (zv rfl (za1 (gq 0 rfl)) (zv rfl (za1 (gq 1 rfl)) (zv rfl (za5 (xs:=[.tmp 66,.tmp 67]) (both10_c _ _ hin.2.2) (.cons (vq 0 rfl) (.cons (vq 1 rfl) .nil))) (zv rfl (za5 (xs:=[.tmp 68]) (simple_s (xs++ys)) (.cons (vq 2 rfl) .nil)) (zv rfl (za1 (vq 3 rfl)) (zv rfl (r_ex0 (vq 4 rfl)) (zv rfl (r_ex1 (vq 4 rfl)) (zv rfl (za2 (vq 5 rfl)) (zv rfl (za2 (vq 6 rfl)) o0))))))))) (fun a w hst=>?_)
    have hst:St B w0 106 [(0,_),(1,_),(4,_),(5,_),(9,_),(10,_)] [] a w:=hst
    refine zt<|gl (sts:=[]) (news:=[]) (sp:=[.val 73 _,.val 74 _,.val 75 _,.val 76 _,.val 72 _,.val 77 _,.val 78 _,.val 11 _,.val 12 _]) [.g 0,.g 2,.g 3,.g 4,.g 5,.o 7,.o 8] hst (zv rfl (za1 (gq 3 rfl)) (zv rfl (za1 (gq 1 rfl)) (zv rfl (za5 (xs:=[.tmp 73,.tmp 74]) (both10_c _ _ (bs_len hin.2.2)) (.cons (vq 0 rfl) (.cons (vq 1 rfl) .nil))) (zv rfl (za5 (xs:=[.tmp 75]) (simple_s (((simQ xs).map reOf)++ys)) (.cons (vq 2 rfl) .nil)) (zv rfl (za1 (vq 3 rfl)) (zv rfl (r_ex0 (vq 4 rfl)) (zv rfl (r_ex1 (vq 4 rfl)) (zv rfl (za2 (vq 5 rfl)) (zv rfl (za2 (vq 6 rfl)) o0))))))))) (fun a w hst=>?_)
    have hst:St B w0 106 [(0,_),(4,_),(5,_),(9,_),(10,_),(11,_),(12,_)] [] a w:=hst
    have hst:=St.cvG (A':=(SlA 49 [U32] (((simF (xs++ys)).1.map reOf).map REA)).va) hst 5 rfl (congrArg (fun r:List EQ × Int=>(SlA 49 [U32] ((r.1.map reOf).map REA)).va) (bs_two hin.1 hin.2.1 hin.2.2 hp hC))
    have hst:=St.cvG (A':=In (simF (xs++ys)).2) hst 6 rfl (congrArg (fun r:List EQ × Int=>In r.2) (bs_two hin.1 hin.2.1 hin.2.2 hp hC))
    refine zt ?_
    refine wp_seq ?_
    refine gl (sts:=[]) (news:=[]) (sp:=[.val 79 _,.val 80 _,.val 81 _,.val 82 _,.val 83 (Wh (_=false) _),.val 84 (Wh (_=false) _),.val 85 (Wh (_=false) _),.val 86 (Wh (_=false) _),.val 87 _]) [.g 0,.g 1,.g 2,.o 8] hst (zv rfl (za1 (gq 4 rfl)) (zv rfl (za1 (gq 6 rfl)) (zv rfl (zch (vq 0 rfl) (vq 1 rfl)) (zv rfl (za1 (vq 2 rfl)) (oc (zac rfl rfl rfl (vq 3 rfl) nq (fun hg=>za1 (gq 3 rfl))) (oc (zac rfl rfl rfl (vq 3 rfl) nq (fun hg=>za1 (gq 5 rfl))) (oc (zac rfl rfl rfl (vq 3 rfl) nq (fun hg=>za5 (xs:=[.tmp 83,.tmp 84]) (sameEls_c ((simF (xs++ys)).1.map reOf) ((simF (xs++ys)).1.map reOf)) (.cons (za7 (vq 4 rfl) hg) (.cons (za7 (vq 5 rfl) hg) .nil)))) (oc (zac rfl rfl rfl (vq 3 rfl) nq (fun hg=>r_not (za7 (vq 6 rfl) hg))) (zv rfl (r_or (vq 3 rfl) (vq 7 rfl)) o0))))))))) (fun a w hst=>?_)
    have hst:St B w0 106 [(0,_),(4,_),(5,_),(87,_)] [] a w:=hst
    refine za0 ?_
    refine zaa hst (zm 3 rfl) (fun hb3=>?_) (fun hb3=>?_)
    ·exact (bs_no2 hb3).elim
    ·refine wp_skip ?_
     refine zt<|gl (sts:=[]) (news:=[⟨13,37,ptrH,some 5,_,some (6,_)⟩]) (sp:=[.val 89 _,.val 90 _,.val 88 _,.val 91 _,.val 92 _,.alc 0,.sto 0,.val 14 _]) [.g 1,.g 2,.o 7] hst (zv rfl (za1 (gq 0 rfl)) (zv rfl (za5 (xs:=[.tmp 89]) (benMatrix_c xs) (.cons (vq 0 rfl) .nil)) (zv rfl (za1 (vq 1 rfl)) (zv rfl (r_ex0 (vq 2 rfl)) (zv rfl (r_ex1 (vq 2 rfl)) (oc (zao rfl rfl rfl (Str.zero zar)) (oc (zae rfl rfl rfl (vq 3 rfl) zb9 (Eq.trans (b:=16) rfl rfl)) (zv rfl (za2 (vq 4 rfl)) o0)))))))) (fun a w hst=>?_)
     have hst:St B w0 106 [(4,_),(5,_),(14,_)] [⟨13,37,ptrH,_⟩] a w:=hst
     refine zt<|gl (sts:=[none]) (news:=[⟨15,37,ptrH,some 5,_,some (6,_)⟩]) (sp:=[.val 94 _,.val 95 _,.val 93 _,.val 96 _,.val 97 _,.alc 1,.sto 1,.val 16 _]) [.g 0,.g 2,.o 7] hst (zv rfl (za1 (gq 1 rfl)) (zv rfl (za5 (xs:=[.tmp 94]) (benMatrix_c ((simQ xs).map reOf)) (.cons (vq 0 rfl) .nil)) (zv rfl (za1 (vq 1 rfl)) (zv rfl (r_ex0 (vq 2 rfl)) (zv rfl (r_ex1 (vq 2 rfl)) (oc (zao rfl rfl rfl (Str.zero zar)) (oc (zae rfl rfl rfl (vq 3 rfl) zb9 (Eq.trans (b:=16) rfl rfl)) (zv rfl (za2 (vq 4 rfl)) o0)))))))) (fun a w hst=>?_)
     have hst:St B w0 106 [(4,_),(14,_),(16,_)] [⟨13,37,ptrH,_⟩,⟨15,37,ptrH,_⟩] a w:=hst
     have hst:=St.cvA (A':=RMA (benF xs).1) hst 1 rfl (congrArg (fun r:RM × Int=>RMA r.1) hM)
     have hst:=St.cvG (A':=In (benF xs).2) hst 2 rfl (congrArg (fun r:RM × Int=>In r.2) hM)
     refine zt<|gl (sts:=[none,none]) (news:=[]) (sp:=[.val 98 _,.val 99 _,.val 100 _,.val 101 _,.val 102 (Wh (_=true) _),.val 103 (Wh (_=true) _),.val 104 (Wh (_=true) _),.val 105 _,.val 4 _]) [.o 8] hst (zv rfl (za1 (gq 1 rfl)) (zv rfl (za1 (gq 2 rfl)) (zv rfl (zc5 (vq 0 rfl) (vq 1 rfl)) (zv rfl (za1 (vq 2 rfl)) (oc (zac rfl rfl rfl (vq 3 rfl) nq (fun hg=>zap (lz0 0 rfl) zb9)) (oc (zac rfl rfl rfl (vq 3 rfl) nq (fun hg=>zap (lz0 1 rfl) zb9)) (oc (zac rfl rfl rfl (vq 3 rfl) nq (fun hg=>za5 (xs:=[.tmp 102,.tmp 103]) (sameMatrix_c _ _) (.cons (za7 (vq 4 rfl) hg) (.cons (za7 (vq 5 rfl) hg) .nil)))) (zv rfl (zci (vq 3 rfl) (vq 6 rfl)) (zv rfl (za2 (vq 7 rfl)) o0))))))))) (fun a w hst=>?_)
     have hst:St B w0 106 [(4,_)] [⟨13,37,ptrH,_⟩,⟨15,37,ptrH,_⟩] a w:=hst
     refine za0 ?_
     refine wp_ret ?_
     refine zak ?_ (zaf rfl hst (zm 0 rfl))
     exact zc9 (congrArg Bo bs_end)
open Go.ChangeShapes Go.WideShapes Go.ChangeAt
open Go.ChangeMaps (open_string shut_string)
theorem own:ownKnob Try.prog.godebug=none:=by kernel_rfl
theorem laidOut:laidOutB Try.prog=true:=by kernel_rfl
theorem lifted (os:Os)(started:os.Started)(H:Type)(enc:TypeId × Value→H) :
  ReturnsInHanded {} Try.checked os 3 .any (Rows.benchSameSpec.pre6 enc Try.prog Try.f3 Rows.benchSameRow.domain false) (Rows.benchSameSpec.post enc Try.prog Try.f3 false true false false):=by
 refine returnsInHanded_of_change (C:=Try.checked) own started zk Try.func3
  (ChangeSpec.witness6 (enc:=enc) (C:=Try.checked) false ⟨#[],#[.slice none 0 0,.slice none 0 0],[]⟩ 8 zk zk zk zk) ?_
 intro W base args ds gs before hval0 hW hcnd _
 have hval:∀ (j:Nat) t v,Try.f3.params[j]?=some t→args[j]?=some v→Value.okWide Try.prog W .any base t v:=hval0
 have hW':=hW
 obtain ⟨p,q,hA0,hV,rfl,hfz,hnd⟩:=hW
 have hA:DataW.TrodAll enc Try.prog W 0 (fun _=>true) true Try.f3.params.toList args.toList ds p:=hA0
 rw [Try.params3] at hA hval
 obtain ⟨v0,vs0,d0,ds0,p0,q0,hargs,rfl,rfl,h0,r0⟩:=trodAll_cons hA
 obtain ⟨v1,vs1,d1,ds1,p1,q1,rfl,rfl,rfl,h1,r1⟩:=trodAll_cons r0
 obtain ⟨rfl,rfl,rfl⟩:=trodAll_nil r1
 obtain rfl:args = #[v0,v1]:=by cases args; simp_all
 obtain ⟨rfl,rfl⟩:=trodVars_none hV
 have k0:=h0
 have lt0:∀ x∈p0,x.block<W.heap.size:=by obtain ⟨m,hm⟩:=k0; exact DataW.trod_lt m _ _ _ hm
 have k1:=h1
 have lt1:∀ x∈p1,x.block<W.heap.size:=by obtain ⟨m,hm⟩:=k1; exact DataW.trod_lt m _ _ _ hm
 obtain ⟨x0,a0⟩:=arg_sl (A:=REA) (m:=9) (D:=[91]) Try.underlying22 zk zd (fun _=>nd_self zk) rd_re (hval 0 22 v0 rfl rfl) h0
 obtain ⟨x1,a1⟩:=arg_sl (A:=REA) (m:=9) (D:=[91]) Try.underlying22 zk zd (fun _=>nd_self zk) rd_re (hval 1 22 v1 rfl rfl) h1
 clear hA0 hval0
 refine ((same_w x0 x1).2 W.heap.size W [v0,v1] (Nat.le_refl _) (.cons a0 (.cons a1 .nil))).mono fun e W' ⟨v,he,hv,bel⟩=>?_
 have hv':=bo_val hv
 subst hv' he
 exact ⟨_,rfl,_,_,_,[],_,[],hW',trodAll_mk1 (shut_bool Try.underlying4 _),(trodAll_cons_mk (Below.trod laidOut zk (of_decide_eq_true zk) k0 bel lt0) (trodAll_cons_mk (Below.trod laidOut zk (of_decide_eq_true zk) k1 bel lt1) trodAll_mk0)),rfl,bel.frame _,fun h=>by cases h⟩
theorem over:Rows.benchSameRow.holds Try.pinned (OpenSpec.ofChange Rows.benchSameSpec) :=
 OpenClaim.holds_of_wide 3 Try.f3 rfl rfl rfl rfl rfl rfl rfl ⟨rfl,rfl,rfl,rfl,rfl⟩ rfl rfl rfl rfl rfl zk Try.func3 zk
  (of_decide_eq_true zk) (by unfold Func.isWrapper; rw [if_neg (of_decide_eq_false zk)]; exact ⟨rfl,rfl⟩)
  (fun os started H enc _=>lifted os started H enc)
theorem provedBenchSame:Rows.BenchSameSaid:=over
#print axioms provedBenchSame
end Go.Proofs.Ytljkepdpoelpkaa
