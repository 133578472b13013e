import Derived.Test.YtlpppkkggljdcaaGreatTnAa
import Derived.Test.YtlpppkkggljdcaaGreatTnAc
import Derived.Test.YtlpppkkggljdcaaGreatTnAm
set_option linter.unusedVariables false
set_option linter.unusedSimpArgs false
set_option linter.unusedSectionVars false
set_option maxRecDepth 100000
namespace Go.Proofs.YtlpppkkggljdcaaGreat
open Go Go.RowKit
theorem new_mg (l:List Nat):NewA (MgN l):=fun B cs w ⟨_,h⟩=>by
 rcases h with ⟨_,rfl⟩ | ⟨g,ext,rfl,_,h2,h3⟩
 ·intro g hg; cases hg
 ·intro g' hg
  have:g'=g:=by simpa [cbl,blk] using hg
  subst this
  exact ⟨h2,(Array.getElem?_eq_some_iff.1 h3).1⟩
theorem new_bo (b:Bool):NewA (BoA b):=fun B cs w h=>by
 have h':cs=[.bool b]:=h
 subst h'
 intro g hg; cases hg
theorem new_riN (x:RI):NewA (RIN x):=new_cat (fun A hA=>by
 simp at hA
 rcases hA with rfl | rfl
 ·exact new_bo _
 ·exact new_mg _)
theorem nod_riN (x:RI):NodA (RIN x):=fun B cs w ⟨ps,e,h⟩=>by
 subst e
 cases h with
 | @cons _ c1 _ _ h1 h=>cases h with
  | @cons _ c2 _ _ h2 h =>
   cases h
   have e1:c1=[.bool x.neg]:=h1
   have l2:=(MgN x.mag).len _ _ _ h2
   subst e1
   match c2,l2 with
   | [v],_ =>
    show (List.filterMap blk [.bool x.neg,v]).Nodup
    have:List.filterMap blk [.bool x.neg,v]=List.filterMap blk [v]:=rfl
    rw [this]
    cases hb:blk v with
    | none=>simp [hb]
    | some g=>simp [hb]
def ZN (k:Nat)(z:Int):As:=(RIN (riOf z)).and (lz z≤k)
theorem zdc {k:Nat}{z:Int}:NewA (ZN k z):=zfc (new_riN _)
theorem nod_zn {k:Nat}{z:Int}:NodA (ZN k z):=nod_and (nod_riN _)
theorem free_and {A:As}{c:Prop}(h:FreeA A A):FreeA (A.and c) (A.and c):=⟨rfl,rfl,fun B B' cs w hB hp=>⟨hp.1,h.2.2 B B' cs w hB hp.2⟩⟩
theorem ze2 {k:Nat}{z:Int}:FreeA (ZN k z) (ZN k z):=free_and (zg7 _)
theorem wkA_riN {x:RI}:WkA (RIN x) (RIA x):=⟨rfl,rfl,fun B cs w h=>(zgh x).2.2 B B cs w (Nat.le_refl _) h⟩
theorem zn_za {k:Nat}{z:Int}:WkA (ZN k z) (ZA k z):=⟨rfl,rfl,fun B cs w h=>⟨h.1,wkA_riN.2.2 B cs w h.2⟩⟩
theorem zi5 {k k':Nat}{z:Int}(h:k≤k'):WkA (ZN k z) (ZN k' z):=⟨rfl,rfl,fun _ _ _ hp=>⟨Nat.le_trans hp.1 h,hp.2⟩⟩
theorem zn_of {k:Nat}{z:Int}(h:lz z≤k):Wk (RIN (riOf z)).va (ZN k z).va:=fun _ _ _ ⟨cs,hp,hv⟩=>⟨cs,⟨h,hp⟩,hv⟩
theorem plusD_e0 {a b:Int}(h:((riOf a).neg==(riOf b).neg)=true):(RIN (rsig (riOf a).neg (digs (max (riOf a).mag.length (riOf b).mag.length+1) (val (riOf a).mag+val (riOf b).mag)))).va=(RIN (riOf (a+b))).va:=by
 have h':decide (a<0)=decide (b<0):=by simpa [riOf] using h
 rw [zbr,zbr,zcr (zbw _ _) (z:=a+b) (by show val (digs (max (limbs a.natAbs).length (limbs b.natAbs).length+1) _)=_; rw [val_sum]; simp only [decide_eq_decide] at h'; omega) (fun hz=>by show decide (a<0)=_; simp only [decide_eq_decide] at h' ⊢; omega)]
theorem plusD_e1 {a b:Int}(h:((riOf a).neg==(riOf b).neg)=false)(h2:b.natAbs≤a.natAbs):(RIN (rsig (riOf a).neg (limbs (val (riOf a).mag-val (riOf b).mag)))).va=(RIN (riOf (a+b))).va:=by
 have h':¬ decide (a<0)=decide (b<0):=by simpa [riOf] using h
 rw [zbr,zbr,zcr (zbv _).1 (z:=a+b) (by rw [zbh]; simp only [decide_eq_decide] at h'; omega) (fun hz=>by show decide (a<0)=_; simp only [decide_eq_decide] at h' ⊢; omega)]
theorem plusD_e2 {a b:Int}(h:((riOf a).neg==(riOf b).neg)=false)(h2:a.natAbs≤b.natAbs):(RIN (rsig (riOf b).neg (limbs (val (riOf b).mag-val (riOf a).mag)))).va=(RIN (riOf (a+b))).va:=by
 have h':¬ decide (a<0)=decide (b<0):=by simpa [riOf] using h
 rw [zbr,zbr,zcr (zbv _).1 (z:=a+b) (by rw [zbh]; simp only [decide_eq_decide] at h'; omega) (fun hz=>by show decide (b<0)=_; simp only [decide_eq_decide] at h' ⊢; omega)]
theorem plusD_c (p q:Int)(hp:lz p≤1099511627776)(hq:lz q≤1099511627776):Cn Tryz.prog 97 [Zi p,Zi q] ((RIN (riOf (p+q))).va):=by
 refine Cn.intro Tryz.func97 rfl zk nq (fun B w0 a hst=>?_)
 have hst:St B w0 40 [(0,Zi p),(1,Zi q)] [] a w0.w:=hst
 refine wp_seq ?_
 refine gl (sts:=[]) (news:=[⟨2,35,ptrH,some 0,_,none⟩,⟨3,35,ptrH,some 1,_,none⟩,⟨4,35,ptrH,some 2,_,none⟩]) (sp:=[.alc 0,.alc 1,.alc 2]) [] hst (oc (zal rfl rfl rfl (gq 0 rfl)) (oc (zal rfl rfl rfl (gq 1 rfl)) (oc (zaf rfl rfl rfl (Str.zero zc2)) o0))) (fun a w hst=>?_)
 have hst:St B w0 40 [] [⟨2,35,ptrH,_⟩,⟨3,35,ptrH,_⟩,⟨4,35,ptrH,_⟩] a w:=hst
 refine zt ?_
 refine wp_seq ?_
 refine gl (sts:=[none,none,none]) (news:=[]) (sp:=[.adr 5 2 (.some 0) True,.val 6 _,.adr 7 3 (.some 0) True,.val 8 _,.val 9 _]) [.o 4] hst (oc (ob_a rfl rfl (za8 (lz0 0 rfl) zb5)) (zv rfl (za4 0 rfl zk trivial (lz0 0 rfl) (Sub.part 0 rfl rfl) ty_4) (oc (ob_a rfl rfl (za8 (lz0 1 rfl) zb5)) (zv rfl (za4 2 rfl zk trivial (lz0 1 rfl) (Sub.part 0 rfl rfl) ty_4) (zv rfl (r_eqlb zk (vq 1 rfl) (vq 3 rfl)) o0))))) (fun a w hst=>?_)
 have hst:St B w0 40 [(9,_)] [⟨2,35,ptrH,_⟩,⟨3,35,ptrH,_⟩,⟨4,35,ptrH,_⟩] a w:=hst
 refine za0 ?_
 refine zab hst (zm 0 rfl) (fun hb0=>?_) (fun hb0=>?_)
 ·refine wp_seq ?_
  refine zav (anc:=[[],[0],[],[2],[],[4],[2,3,4,5],[0,1,2,3,4,5,6],[0,1,2,3,4,5,6,7]]) (sts:=[none,none,some (8,_)]) (news:=[]) (sp:=[.adr 10 2 (.some 0) True,.val 11 _,.adr 12 2 (.some 1) True,.val 13 _,.adr 14 3 (.some 1) True,.val 15 _,.val 16 _,.val 17 _,.sto 2]) [] za6 hst (oc (ob_a rfl rfl (za8 (lz0 0 rfl) zb5)) (zv rfl (za4 0 rfl zk trivial (lz0 0 rfl) (Sub.part 0 rfl rfl) ty_4) (oc (ob_a rfl rfl (za8 (lz0 0 rfl) zar)) (zv rfl (za4 2 rfl zk trivial (lz0 0 rfl) (Sub.part 1 rfl rfl) zbs) (oc (ob_a rfl rfl (za8 (lz0 1 rfl) zar)) (zv rfl (za4 4 rfl zk trivial (lz0 1 rfl) (Sub.part 1 rfl rfl) zbs) (zv rfl (za5 (xs:=[.tmp 13,.tmp 15]) (add_c _ _ hp hq) (.cons (vq 3 rfl) (.cons (vq 5 rfl) .nil))) (zv rfl (za5 (xs:=[.tmp 11,.tmp 16]) (zcz _ _) (.cons (vq 1 rfl) (.cons (vq 6 rfl) .nil))) (oc (za7 rfl rfl rfl (vq 7 rfl) zae (Eq.trans (b:=2) rfl rfl)) o0))))))))) zk zk zk zk (fun a w hst=>?_)
  have hst:St B w0 40 [] [⟨2,35,ptrH,_⟩,⟨3,35,ptrH,_⟩,⟨4,35,ptrH,_⟩] a w:=hst
  refine za0 ?_
  refine wp_ret ?_
  refine zak ?_
  refine zap ?_ (zao rfl hst (zm 2 rfl) zae)
  exact plusD_e0 hb0
 ·refine wp_skip ?_
  refine zt ?_
  refine wp_seq ?_
  refine gl (sts:=[none,none,none]) (news:=[]) (sp:=[.adr 18 2 (.some 1) True,.val 19 _,.adr 20 3 (.some 1) True,.val 21 _,.val 22 _,.val 23 _]) [.o 5] hst (oc (ob_a rfl rfl (za8 (lz0 0 rfl) zar)) (zv rfl (za4 0 rfl zk trivial (lz0 0 rfl) (Sub.part 1 rfl rfl) zbs) (oc (ob_a rfl rfl (za8 (lz0 1 rfl) zar)) (zv rfl (za4 2 rfl zk trivial (lz0 1 rfl) (Sub.part 1 rfl rfl) zbs) (zv rfl (za5 (xs:=[.tmp 19,.tmp 21]) (size_c _ _) (.cons (vq 1 rfl) (.cons (vq 3 rfl) .nil))) (zv rfl (zg1 (vq 4 rfl) za3) o0)))))) (fun a w hst=>?_)
  have hst:St B w0 40 [(23,_)] [⟨2,35,ptrH,_⟩,⟨3,35,ptrH,_⟩,⟨4,35,ptrH,_⟩] a w:=hst
  refine za0 ?_
  refine zab hst (zm 0 rfl) (fun hb1=>?_) (fun hb1=>?_)
  ·refine wp_seq ?_
   refine zav (anc:=[[],[0],[],[2],[],[4],[2,3,4,5],[0,1,2,3,4,5,6],[0,1,2,3,4,5,6,7]]) (sts:=[none,none,some (8,_)]) (news:=[]) (sp:=[.adr 24 2 (.some 0) True,.val 25 _,.adr 26 2 (.some 1) True,.val 27 _,.adr 28 3 (.some 1) True,.val 29 _,.val 30 _,.val 31 _,.sto 2]) [] za6 hst (oc (ob_a rfl rfl (za8 (lz0 0 rfl) zb5)) (zv rfl (za4 0 rfl zk trivial (lz0 0 rfl) (Sub.part 0 rfl rfl) ty_4) (oc (ob_a rfl rfl (za8 (lz0 0 rfl) zar)) (zv rfl (za4 2 rfl zk trivial (lz0 0 rfl) (Sub.part 1 rfl rfl) zbs) (oc (ob_a rfl rfl (za8 (lz0 1 rfl) zar)) (zv rfl (za4 4 rfl zk trivial (lz0 1 rfl) (Sub.part 1 rfl rfl) zbs) (zv rfl (za5 (xs:=[.tmp 27,.tmp 29]) (sub_c _ _ hp (zdz (zg3 hb1)) (by show val (limbs _)≤val (limbs _); rw [zbh,zbh]; exact zg3 hb1)) (.cons (vq 3 rfl) (.cons (vq 5 rfl) .nil))) (zv rfl (za5 (xs:=[.tmp 25,.tmp 30]) (zcz _ _) (.cons (vq 1 rfl) (.cons (vq 6 rfl) .nil))) (oc (za7 rfl rfl rfl (vq 7 rfl) zae (Eq.trans (b:=2) rfl rfl)) o0))))))))) zk zk zk zk (fun a w hst=>?_)
   have hst:St B w0 40 [] [⟨2,35,ptrH,_⟩,⟨3,35,ptrH,_⟩,⟨4,35,ptrH,_⟩] a w:=hst
   refine za0 ?_
   refine wp_ret ?_
   refine zak ?_
   refine zap ?_ (zao rfl hst (zm 2 rfl) zae)
   exact plusD_e1 hb0 (zg3 hb1)
  ·refine wp_skip ?_
   refine zt<|zav (anc:=[[],[0],[],[2],[],[4],[2,3,4,5],[0,1,2,3,4,5,6],[0,1,2,3,4,5,6,7]]) (sts:=[none,none,some (8,_)]) (news:=[]) (sp:=[.adr 32 3 (.some 0) True,.val 33 _,.adr 34 3 (.some 1) True,.val 35 _,.adr 36 2 (.some 1) True,.val 37 _,.val 38 _,.val 39 _,.sto 2]) [] za6 hst (oc (ob_a rfl rfl (za8 (lz0 1 rfl) zb5)) (zv rfl (za4 0 rfl zk trivial (lz0 1 rfl) (Sub.part 0 rfl rfl) ty_4) (oc (ob_a rfl rfl (za8 (lz0 1 rfl) zar)) (zv rfl (za4 2 rfl zk trivial (lz0 1 rfl) (Sub.part 1 rfl rfl) zbs) (oc (ob_a rfl rfl (za8 (lz0 0 rfl) zar)) (zv rfl (za4 4 rfl zk trivial (lz0 0 rfl) (Sub.part 1 rfl rfl) zbs) (zv rfl (za5 (xs:=[.tmp 35,.tmp 37]) (sub_c _ _ hq (zdz (zg2 hb1)) (by show val (limbs _)≤val (limbs _); rw [zbh,zbh]; exact zg2 hb1)) (.cons (vq 3 rfl) (.cons (vq 5 rfl) .nil))) (zv rfl (za5 (xs:=[.tmp 33,.tmp 38]) (zcz _ _) (.cons (vq 1 rfl) (.cons (vq 6 rfl) .nil))) (oc (za7 rfl rfl rfl (vq 7 rfl) zae (Eq.trans (b:=2) rfl rfl)) o0))))))))) zk zk zk zk (fun a w hst=>?_)
   have hst:St B w0 40 [] [⟨2,35,ptrH,_⟩,⟨3,35,ptrH,_⟩,⟨4,35,ptrH,_⟩] a w:=hst
   refine za0 ?_
   refine wp_ret ?_
   refine zap ?_ (zao rfl hst (zm 2 rfl) zae)
   exact plusD_e2 hb0 (zg2 hb1)
theorem minusD_c (p q:Int)(hp:lz p≤1099511627776)(hq:lz q≤1099511627776):Cn Tryz.prog 135 [Zi p,Zi q] ((RIN (riOf (p-q))).va):=by
 refine Cn.intro Tryz.func135 rfl zk nq (fun B w0 a hst=>?_)
 have hst:St B w0 19 [(0,Zi p),(1,Zi q)] [] a w0.w:=hst
 refine wp_seq ?_
 refine gl (sts:=[]) (news:=[⟨2,35,ptrH,some 0,_,none⟩,⟨3,35,ptrH,some 1,_,none⟩,⟨4,35,ptrH,some 2,_,none⟩]) (sp:=[.alc 0,.alc 1,.alc 2]) [] hst (oc (zal rfl rfl rfl (gq 0 rfl)) (oc (zal rfl rfl rfl (gq 1 rfl)) (oc (zaf rfl rfl rfl (Str.zero zc2)) o0))) (fun a w hst=>?_)
 have hst:St B w0 19 [] [⟨2,35,ptrH,_⟩,⟨3,35,ptrH,_⟩,⟨4,35,ptrH,_⟩] a w:=hst
 refine zt<|gl (sts:=[none,none,some (14,_)]) (news:=[]) (sp:=[.val 5 _,.adr 6 3 (.some 0) True,.val 7 _,.val 8 _,.val 9 _,.adr 10 3 (.some 1) (_=true),.val 11 (Wh (_=true) _),.val 12 (Wh (_=true) _),.val 13 (Wh (_=true) _),.val 14 _,.adr 15 3 (.some 1) True,.val 16 _,.val 17 _,.val 18 _,.sto 2]) [] hst (zv rfl (zac (lz0 0 rfl) zae) (oc (ob_a rfl rfl (za8 (lz0 1 rfl) zb5)) (zv rfl (za4 1 rfl zk trivial (lz0 1 rfl) (Sub.part 0 rfl rfl) ty_4) (zv rfl (zdp (vq 2 rfl)) (zv rfl (za1 (vq 3 rfl)) (oc (zd9 rfl rfl rfl (vq 4 rfl) nq (fun hg=>za8 (lz0 1 rfl) zar)) (oc (zam rfl rfl rfl (vq 4 rfl) nq (fun hg=>za4 5 rfl zk hg (lz0 1 rfl) (Sub.part 1 rfl rfl) zbs)) (oc (zam rfl rfl rfl (vq 4 rfl) nq (fun hg=>zb4 Tryz.underlying33 (zag (vq 6 rfl) hg))) (oc (zam rfl rfl rfl (vq 4 rfl) nq (fun hg=>zg0 (zag (vq 7 rfl) hg) za3)) (zv rfl (zcm (vq 4 rfl) (vq 8 rfl)) (oc (ob_a rfl rfl (za8 (lz0 1 rfl) zar)) (zv rfl (za4 10 rfl zk trivial (lz0 1 rfl) (Sub.part 1 rfl rfl) zbs) (zv rfl (zb7 (xs:=[(0,.tmp 14),(1,.tmp 16)]) (qs:=[(0,_),(1,_)]) zc2 (.cons ⟨rfl,(vq 9 rfl),rfl⟩ (.cons ⟨rfl,(vq 11 rfl),rfl⟩ .nil))) (zv rfl (za5 (xs:=[.tmp 5,.tmp 17]) ((plusD_c p (-q) hp (by rw [zf9]; exact hq)).pre (congrArg (fun A=>[Zi p,A]) minus_e)) (.cons (vq 0 rfl) (.cons (vq 12 rfl) .nil))) (oc (za7 rfl rfl rfl (vq 13 rfl) zae (Eq.trans (b:=2) rfl rfl)) o0))))))))))))))) (fun a w hst=>?_)
 have hst:St B w0 19 [] [⟨2,35,ptrH,_⟩,⟨3,35,ptrH,_⟩,⟨4,35,ptrH,_⟩] a w:=hst
 refine za0 ?_
 refine wp_ret ?_
 refine zap ?_ (zao rfl hst (zm 2 rfl) zae)
 exact congrArg (fun z=>(RIN (riOf z)).va) Int.sub_eq_add_neg.symm
theorem turnedD_c (p:Int)(hp:lz p≤1099511627776):Cn Tryz.prog 103 [Zi p] ((RIN (riOf (-p))).va):=by
 refine Cn.intro Tryz.func103 rfl zk nq (fun B w0 a hst=>?_)
 have hst:St B w0 6 [(0,Zi p)] [] a w0.w:=hst
 refine wp_seq ?_
 refine gl (sts:=[]) (news:=[⟨1,35,ptrH,some 0,_,none⟩,⟨2,35,ptrH,some 1,_,none⟩]) (sp:=[.alc 0,.alc 1]) [] hst (oc (zal rfl rfl rfl (gq 0 rfl)) (oc (zaf rfl rfl rfl (Str.zero zc2)) o0)) (fun a w hst=>?_)
 have hst:St B w0 6 [] [⟨1,35,ptrH,_⟩,⟨2,35,ptrH,_⟩] a w:=hst
 refine zt<|zav (anc:=[[],[],[0,1],[0,1,2]]) (sts:=[none,some (3,_)]) (news:=[]) (sp:=[.val 3 _,.val 4 _,.val 5 _,.sto 1]) [] za6 hst (zv rfl (za5 (xs:=[.const (.int .i64 (0))]) (of_c 0 zd zd) (.cons za3 .nil)) (zv rfl (zac (lz0 0 rfl) zae) (zv rfl (za5 (xs:=[.tmp 3,.tmp 4]) (minusD_c 0 p (by simp [lz,zbi]) hp) (.cons (vq 0 rfl) (.cons (vq 1 rfl) .nil))) (oc (za7 rfl rfl rfl (vq 2 rfl) zae (Eq.trans (b:=2) rfl rfl)) o0)))) zk zk zk zk (fun a w hst=>?_)
 have hst:St B w0 6 [] [⟨1,35,ptrH,_⟩,⟨2,35,ptrH,_⟩] a w:=hst
 refine za0 ?_
 refine wp_ret ?_
 refine zap ?_ (zao rfl hst (zm 1 rfl) zae)
 exact congrArg (fun z=>(RIN (riOf z)).va) (Int.zero_sub p)
theorem ex_turnedD : ∃ fn, Tryz.prog.funcs[103]? = some fn ∧ (fn.name == "runtime.NumGoroutine") = false ∧ fn.body.isNone = false := ⟨_, Tryz.func103, by kernel_rfl, by kernel_rfl⟩
section
variable {a b:Nat} {p q:Int} (ha:a≤549755813888)
include ha
theorem zgp:Cn Tryz.prog 103 [Zs a p] (ZN a (-p)).va:=zs1 ex_turnedD fun h=>(turnedD_c p zo).wkp (zn_of (by rw [zf9]; exact h))
variable (hb:b≤549755813888)
include hb
theorem times_zn:Cn Tryz.prog 90 [Zs a p,Zs b q] (ZN (a+b) (p*q)).va:=zs2 ex_Times fun h h'=>(times_c (riOf p) (riOf q) (by rw [zdi]; omega) (by rw [zdi]; omega)).wkp (zc4 (zd4 (congrArg (fun x=>(RIN x).va) (times_ri p q))) (zn_of (by have:=ze8 p q; omega)))
theorem zif:Cn Tryz.prog 97 [Zs a p,Zs b q] (ZN (max a b+1) (p+q)).va:=zs2 ex_Plus fun h h'=>(plusD_c p q zo zo).wkp (zn_of (by have:=zjs p q; omega))
omit hb in
theorem zk2 (hq:q≠0):Cn Tryz.prog 116 [Zs a p,Zs b q] (Tu [(ZN a (p.tdiv q)).va,(ZN b (p.tmod q)).va]):=zs2 zjz fun h h'=>(zhb p q hq zo).wkp (tu_wk (.cons (zn_of (by have:=ziq p q; omega)) (.cons (zn_of (by have:=lz_tm (p:=p) hq; omega)) .nil)))
end
def QD (k:Nat)(q:Rat):As:=DisA (cat [ZN k q.num,ZN k (q.den:Int)])
theorem zix {A A':As}(h:WkA A A'):WkA (DisA A) (DisA A'):=⟨h.1,h.2.1,fun B cs w hp=>⟨h.2.2 B cs w hp.1,hp.2⟩⟩
theorem qd_mono {k k':Nat}{q:Rat}(h:k≤k'):WkA (QD k q) (QD k' q):=zix (zcc (.cons (zi5 h) (.cons (zi5 h) .nil)))
theorem pin_mono {v:Value}{A A':As}(h:WkA A A'):WkA (PinA v A) (PinA v A'):=⟨h.1,h.2.1,fun B cs w hp=>⟨h.2.2 B cs w hp.1,by rw [h.2.1]; exact hp.2⟩⟩
theorem and_triv {A:As}{c:Prop}{u:Value}:WkA (A.and c) (A.and (SepAll [] u)):=⟨rfl,rfl,fun _ _ _ hp=>⟨(fun _ h=>by cases h),hp.2⟩⟩
theorem pz_za {v:Value}{k:Nat}{z:Int}{c:Prop}:WkA (PinA v ((ZN k z).and c)) (ZA k z):=pin_wk.trans (and_wk.trans zn_za)
theorem nf_zn {a b:Nat}{p q:Int}:∀ A∈[ZN a p,ZN b q],NewA A∧FreeA A A:=fun A hA=>by
 simp at hA
 rcases hA with rfl | rfl <;> exact ⟨zdc,ze2⟩
end Go.Proofs.YtlpppkkggljdcaaGreat
namespace Go.Proofs.YtlpppkkggljdcaaGreat
open Go Go.RowKit
theorem zkl {u v:Value}{c d k:Nat}{q:Rat}(hc:c≤k)(hd:d≤k):WkA (cat [PinA u ((ZN c q.num).and (SepAll [] u)),PinA v ((ZN d (q.den:Int)).and (SepAll [u] v))]) (QD k q) :=
 (dis_pins (l:=[(u,ZN c q.num),(v,ZN d (q.den:Int))]) (fun x hx=>by
  simp at hx
  rcases hx with rfl | rfl <;> exact nod_zn)).trans (zix (zcc (.cons (zi5 hc) (.cons (zi5 hd) .nil))))
theorem qd_of {k c:Nat}{q:Rat}(h1:lz q.num≤c)(h2:lz (q.den:Int)≤c):WkA (QD k q) (QD c q):=zix (zcc (.cons ⟨rfl,rfl,fun _ _ _ hp=>⟨h1,hp.2⟩⟩ (.cons ⟨rfl,rfl,fun _ _ _ hp=>⟨h2,hp.2⟩⟩ .nil)))
theorem lowestD_c {u0 v0:Value}{c d:Nat}{p q:Int}(hc:c≤549755813888)(hd:d≤549755813888)(hq:q≠0):Cn Tryz.prog 82 [(PinA u0 ((ZN c p).and (SepAll [] u0))).va,(PinA v0 ((ZN d q).and (SepAll [u0] v0))).va] ((QD (max c d) (Rat.divInt p q)).va):=by
 have hg0:0<Int.gcd p q:=Int.gcd_pos_of_ne_zero_right p hq
 obtain ⟨hn1,hn2⟩:=zkq (p:=p) hq
 refine Cn.intro Tryz.func82 rfl zk nq (fun B w0 a hst=>?_)
 have hst:St B w0 35 [(0,(PinA u0 ((ZN c p).and (SepAll [] u0))).va),(1,(PinA v0 ((ZN d q).and (SepAll [u0] v0))).va)] [] a w0.w:=hst
 refine wp_seq ?_
 refine gl (sts:=[]) (news:=[⟨2,35,ptrH,some 0,_,none⟩,⟨3,35,ptrH,some 1,_,none⟩,⟨4,37,ptrH,some 2,_,none⟩]) (sp:=[.alc 0,.alc 1,.alc 2]) [] hst (oc (zal rfl rfl rfl (gq 0 rfl)) (oc (zal rfl rfl rfl (gq 1 rfl)) (oc (zaf rfl rfl rfl (Str.zero zaq)) o0))) (fun a w hst=>?_)
 have hst:St B w0 35 [] [⟨2,35,ptrH,_⟩,⟨3,35,ptrH,_⟩,⟨4,37,ptrH,_⟩] a w:=hst
 refine zt ?_
 refine wp_seq ?_
 refine gl (sts:=[none,none,none]) (news:=[⟨5,35,ptrH,some 3,_,some (4,_)⟩]) (sp:=[.val 6 _,.val 7 _,.val 8 _,.alc 3,.sto 3]) [] hst (zv rfl (zac (lz0 0 rfl) zae) (zv rfl (zac (lz0 1 rfl) zae) (zv rfl (za5 (xs:=[.tmp 6,.tmp 7]) (common_z zo zo) (.cons (has_wk' (vq 0 rfl) pz_za.va) (.cons (has_wk' (vq 1 rfl) pz_za.va) .nil))) (oc (zaf rfl rfl rfl (Str.zero zc2)) (oc (za7 rfl rfl rfl (vq 2 rfl) zae (Eq.trans (b:=2) rfl rfl)) o0))))) (fun a w hst=>?_)
 have hst:St B w0 35 [] [⟨2,35,ptrH,_⟩,⟨3,35,ptrH,_⟩,⟨4,37,ptrH,_⟩,⟨5,35,ptrH,_⟩] a w:=hst
 refine zt<|zav (anc:=[[],[],[0,1],[0,1,2]]) (sts:=[none,none,none,none]) (news:=[]) (sp:=[.val 9 _,.val 10 _,.val 11 _,.val 12 _]) [.o 3] za6 hst (zv rfl (zac (lz0 3 rfl) zae) (zv rfl (za5 (xs:=[.const (.int .i64 (1))]) (of_z zd zd) (.cons za3 .nil)) (zv rfl (za5 (xs:=[.tmp 9,.tmp 10]) (cmp_z zo zo) (.cons (vq 0 rfl) (.cons (vq 1 rfl) .nil))) (zv rfl (zd5 (vq 2 rfl) za3) o0)))) zk zk zk zk (fun a w hst=>?_)
 have hst:St B w0 35 [(12,_)] [⟨2,35,ptrH,_⟩,⟨3,35,ptrH,_⟩,⟨4,37,ptrH,_⟩,⟨5,35,ptrH,_⟩] a w:=hst
 refine za0 ?_
 refine zc6 (fun a w=>∃ u v:Value,St B w0 35 [] [⟨2,35,ptrH,PinA u ((ZN c (p.tdiv ((Int.gcd p q:Nat):Int))).and (SepAll [] u))⟩,⟨3,35,ptrH,PinA v ((ZN d (q.tdiv ((Int.gcd p q:Nat):Int))).and (SepAll [u] v))⟩,⟨4,37,ptrH,RFA ⟨⟨false,[]⟩,⟨false,[]⟩⟩⟩,⟨5,35,ptrH,ZA (max c d) ((Int.gcd p q:Nat):Int)⟩] a w) hst (zm 0 rfl) (fun hb0=>?_) (fun hb0=>?_) (fun a w hst=>?_)
 ·refine wp_seq ?_
  refine go_linV (sts:=[some (6,fun ν=>_),none,none,none]) (news:=[]) (sp:=[(fun ν=>.val 14 _),(fun ν=>.val 15 _),(fun ν=>.val 16 (PinT (ν 2) [ZN c (p.tdiv ((Int.gcd p q:Nat):Int)),ZN (max c d) (p.tmod ((Int.gcd p q:Nat):Int))] [v0])),(fun ν=>.val 13 _),(fun ν=>.val 17 (PinA (ν 4) ((ZN c (p.tdiv ((Int.gcd p q:Nat):Int))).and (SepAll [v0] (ν 4)))).va),(fun ν=>.val 18 (PinA (ν 5) ((ZN (max c d) (p.tmod ((Int.gcd p q:Nat):Int))).and (SepAll [v0] (ν 5)))).va),(fun ν=>.sto 0)]) [] hst ⟨of_u fun ν=>ob_v rfl rfl (zac (lz0 0 rfl) zae),⟨of_u fun ν=>ob_v rfl rfl (zac (lz0 3 rfl) zae),⟨of_callT (us:=fun ν=>[v0]) (xs:=[.tmp 14,.tmp 15]) rfl rfl (zk2 zo zo) nf_zn (.cons upA_za.va (.cons upA_za.va .nil)) (fun ν=>(.cons (has_wk' (vq 0 rfl) pz_za.va) (.cons (vq 1 rfl) .nil))) (fun _ _=>rfl) (fun ν=>(live_loc (zfc zdc) (lz0 1 rfl) zcw)),⟨of_u fun ν=>ob_v rfl rfl (za1 (vq 2 rfl)),⟨of_ext (us:=fun ν=>[v0]) rfl rfl (fun ν=>(vq 3 rfl)) rfl (fun _ _=>rfl),⟨of_ext (us:=fun ν=>[v0]) rfl rfl (fun ν=>(vq 3 rfl)) rfl (fun _ _=>rfl),⟨of_u fun ν=>za7 rfl rfl rfl (vq 4 rfl) zae (Eq.trans (b:=2) rfl rfl),trivial⟩⟩⟩⟩⟩⟩⟩ ⟨(fun ν ν' h=>rfl),⟨(fun ν ν' h=>rfl),⟨(fun ν ν' h=>by first | rfl | simp only [h 2 rfl]),⟨(fun ν ν' h=>by first | rfl | simp only [h 2 rfl]),⟨(fun ν ν' h=>by first | rfl | simp only [h 2 rfl,h 4 rfl]),⟨(fun ν ν' h=>by first | rfl | simp only [h 2 rfl,h 4 rfl,h 5 rfl]),⟨(fun ν ν' h=>by first | rfl | simp only [h 2 rfl,h 4 rfl,h 5 rfl]),trivial⟩⟩⟩⟩⟩⟩⟩ ⟨(fun ν ν' h=>by first | rfl | simp only [h 2 rfl,h 4 rfl,h 5 rfl]),⟨trivial,⟨trivial,⟨trivial,trivial⟩⟩⟩⟩ zk (fun ν=>by kernel_rfl) (fun ν=>by kernel_rfl) (fun ν3 a w hst=>?_)
  have hst:St B w0 35 [] [⟨2,35,ptrH,_⟩,⟨3,35,ptrH,_⟩,⟨4,37,ptrH,_⟩,⟨5,35,ptrH,_⟩] a w:=hst
  refine za0 ?_
  refine go_linV (sts:=[none,some (6,fun ν=>_),none,none]) (news:=[]) (sp:=[(fun ν=>.val 20 _),(fun ν=>.val 21 _),(fun ν=>.val 22 (PinT (ν 2) [ZN d (q.tdiv ((Int.gcd p q:Nat):Int)),ZN (max c d) (q.tmod ((Int.gcd p q:Nat):Int))] [(ν3 4)])),(fun ν=>.val 19 _),(fun ν=>.val 23 (PinA (ν 4) ((ZN d (q.tdiv ((Int.gcd p q:Nat):Int))).and (SepAll [(ν3 4)] (ν 4)))).va),(fun ν=>.val 24 (PinA (ν 5) ((ZN (max c d) (q.tmod ((Int.gcd p q:Nat):Int))).and (SepAll [(ν3 4)] (ν 5)))).va),(fun ν=>.sto 1)]) [] hst ⟨of_u fun ν=>ob_v rfl rfl (zac (lz0 1 rfl) zae),⟨of_u fun ν=>ob_v rfl rfl (zac (lz0 3 rfl) zae),⟨of_callT (us:=fun ν=>[(ν3 4)]) (xs:=[.tmp 20,.tmp 21]) rfl rfl (zk2 zo zo) nf_zn (.cons upA_za.va (.cons upA_za.va .nil)) (fun ν=>(.cons (has_wk' (vq 0 rfl) pz_za.va) (.cons (vq 1 rfl) .nil))) (fun _ _=>rfl) (fun ν=>(live_loc (zfc zdc) (lz0 0 rfl) zcw)),⟨of_u fun ν=>ob_v rfl rfl (za1 (vq 2 rfl)),⟨of_ext (us:=fun ν=>[(ν3 4)]) rfl rfl (fun ν=>(vq 3 rfl)) rfl (fun _ _=>rfl),⟨of_ext (us:=fun ν=>[(ν3 4)]) rfl rfl (fun ν=>(vq 3 rfl)) rfl (fun _ _=>rfl),⟨of_u fun ν=>za7 rfl rfl rfl (vq 4 rfl) zae (Eq.trans (b:=2) rfl rfl),trivial⟩⟩⟩⟩⟩⟩⟩ ⟨(fun ν ν' h=>rfl),⟨(fun ν ν' h=>rfl),⟨(fun ν ν' h=>by first | rfl | simp only [h 2 rfl]),⟨(fun ν ν' h=>by first | rfl | simp only [h 2 rfl]),⟨(fun ν ν' h=>by first | rfl | simp only [h 2 rfl,h 4 rfl]),⟨(fun ν ν' h=>by first | rfl | simp only [h 2 rfl,h 4 rfl,h 5 rfl]),⟨(fun ν ν' h=>by first | rfl | simp only [h 2 rfl,h 4 rfl,h 5 rfl]),trivial⟩⟩⟩⟩⟩⟩⟩ ⟨trivial,⟨(fun ν ν' h=>by first | rfl | simp only [h 2 rfl,h 4 rfl,h 5 rfl]),⟨trivial,⟨trivial,trivial⟩⟩⟩⟩ zk (fun ν=>by kernel_rfl) (fun ν=>by kernel_rfl) (fun ν4 a w hst=>?_)
  have hst:St B w0 35 [] [⟨2,35,ptrH,_⟩,⟨3,35,ptrH,_⟩,⟨4,37,ptrH,_⟩,⟨5,35,ptrH,_⟩] a w:=hst
  refine za0 ?_
  have hst:=St.sel hst []
  have hst:=St.wkL (A':=PinA (ν3 4) ((ZN c (p.tdiv ((Int.gcd p q:Nat):Int))).and (SepAll [] (ν3 4)))) hst 0 rfl (pin_mono and_triv)
  exact ⟨ν3 4,ν4 4,hst⟩
 ·refine wp_skip ?_
  refine za0 ?_
  have hst:=St.sel hst []
  have hst:=St.cvA (A':=PinA u0 ((ZN c (p.tdiv ((Int.gcd p q:Nat):Int))).and (SepAll [] u0))) hst 0 rfl (congrArg (fun z=>PinA u0 ((ZN c z).and (SepAll [] u0))) (tdiv_g hb0))
  have hst:=St.cvA (A':=PinA v0 ((ZN d (q.tdiv ((Int.gcd p q:Nat):Int))).and (SepAll [u0] v0))) hst 1 rfl (congrArg (fun z=>PinA v0 ((ZN d z).and (SepAll [u0] v0))) (tdiv_g hb0))
  exact ⟨u0,v0,hst⟩
 obtain ⟨u1,v1,hst⟩:=hst
 refine zt ?_
 refine wp_seq ?_
 refine gl (sts:=[none,none,none,none]) (news:=[]) (sp:=[.val 25 _,.val 26 _,.val 27 _]) [.o 2] hst (zv rfl (zac (lz0 1 rfl) zae) (zv rfl (za5 (xs:=[.tmp 25]) sign_z (.cons (has_wk' (vq 0 rfl) pz_za.va) .nil)) (zv rfl (zc0 (vq 1 rfl) za3) o0))) (fun a w hst=>?_)
 have hst:St B w0 35 [(27,_)] [⟨2,35,ptrH,_⟩,⟨3,35,ptrH,_⟩,⟨4,37,ptrH,_⟩,⟨5,35,ptrH,_⟩] a w:=hst
 refine za0 ?_
 refine zc6 (fun a w=>∃ u v:Value,St B w0 35 [] [⟨2,35,ptrH,PinA u ((ZN c (Rat.divInt p q).num).and (SepAll [] u))⟩,⟨3,35,ptrH,PinA v ((ZN d ((Rat.divInt p q).den:Int)).and (SepAll [u] v))⟩,⟨4,37,ptrH,RFA ⟨⟨false,[]⟩,⟨false,[]⟩⟩⟩,⟨5,35,ptrH,ZA (max c d) ((Int.gcd p q:Nat):Int)⟩] a w) hst (zm 0 rfl) (fun hb1=>?_) (fun hb1=>?_) (fun a w hst=>?_)
 ·refine go_drawV' [[],[0],[],[0,1,2],[0,1,2,3],[0,1,2,3,4]] (sts:=[some (4,fun ν=>_),some (5,fun ν=>_),none,none]) (news:=[]) (sp:=[(fun ν=>.val 28 _),(fun ν=>.val 29 (PinA (ν 1) ((ZN c (-(p.tdiv ((Int.gcd p q:Nat):Int)))).and (SepAll [] (ν 1)))).va),(fun ν=>.val 30 _),(fun ν=>.val 31 (PinA (ν 3) ((ZN d (-(q.tdiv ((Int.gcd p q:Nat):Int)))).and (SepAll [ν 1] (ν 3)))).va),(fun ν=>.sto 0),(fun ν=>.sto 1)]) [] za6 hst ⟨of_u fun ν=>ob_v rfl rfl (zac (lz0 0 rfl) zae),⟨zec (us:=fun ν=>[]) (xs:=[.tmp 28]) rfl rfl (zgp zo) zdc ze2 (.cons upA_za.va .nil) (fun ν=>(.cons (has_wk' (vq 0 rfl) pz_za.va) .nil)) (fun _ _=>rfl) (fun ν=>zcw),⟨of_u fun ν=>ob_v rfl rfl (zac (lz0 1 rfl) zae),⟨zec (us:=fun ν=>[ν 1]) (xs:=[.tmp 30]) rfl rfl (zgp zo) zdc ze2 (.cons upA_za.va .nil) (fun ν=>(.cons (has_wk' (vq 2 rfl) pz_za.va) .nil)) (fun _ _=>rfl) (fun ν=>(zfm (zfc zdc) (vq 1 rfl) zcw)),⟨of_u fun ν=>za7 rfl rfl rfl (vq 1 rfl) zae (Eq.trans (b:=2) rfl rfl),⟨of_u fun ν=>za7 rfl rfl rfl (vq 3 rfl) zae (Eq.trans (b:=2) rfl rfl),trivial⟩⟩⟩⟩⟩⟩ ⟨(fun ν ν' h=>rfl),⟨(fun ν ν' h=>by first | rfl | simp only [h 1 rfl]),⟨(fun ν ν' h=>rfl),⟨(fun ν ν' h=>by first | rfl | simp only [h 1 rfl,h 3 rfl]),⟨(fun ν ν' h=>by first | rfl | simp only [h 1 rfl,h 3 rfl]),⟨(fun ν ν' h=>by first | rfl | simp only [h 1 rfl,h 3 rfl]),trivial⟩⟩⟩⟩⟩⟩ ⟨(fun ν ν' h=>by first | rfl | simp only [h 1 rfl,h 3 rfl]),⟨(fun ν ν' h=>by first | rfl | simp only [h 1 rfl,h 3 rfl]),⟨trivial,⟨trivial,trivial⟩⟩⟩⟩ zk zk (fun ν=>by kernel_rfl) (fun ν=>by kernel_rfl) (fun ν6 a w hst=>?_)
  have hst:St B w0 35 [] [⟨2,35,ptrH,_⟩,⟨3,35,ptrH,_⟩,⟨4,37,ptrH,_⟩,⟨5,35,ptrH,_⟩] a w:=hst
  refine za0 ?_
  have hst:=St.sel hst []
  rw [if_pos (sgn_yes hb1)] at hn1 hn2; rw [hn1,hn2] at hst; exact ⟨ν6 1,ν6 3,hst⟩
 ·refine wp_skip ?_
  refine za0 ?_
  have hst:=St.sel hst []
  rw [if_neg (sgn_no hb1)] at hn1 hn2; rw [hn1,hn2] at hst; exact ⟨u1,v1,hst⟩
 obtain ⟨u2,v2,hst⟩:=hst
 refine zt<|gl (sts:=[none,none,some (3,_),none]) (news:=[]) (sp:=[.val 32 _,.val 33 _,.val 34 _,.sto 2]) [] hst (zv rfl (zac (lz0 0 rfl) zae) (zv rfl (zac (lz0 1 rfl) zae) (zv rfl (zb7 (xs:=[(0,.tmp 32),(1,.tmp 33)]) (qs:=[(0,_),(1,_)]) zaq (.cons ⟨rfl,(vq 0 rfl),rfl⟩ (.cons ⟨rfl,(vq 1 rfl),rfl⟩ .nil))) (oc (za7 rfl rfl rfl (vq 2 rfl) zaa (Eq.trans (b:=4) rfl rfl)) o0)))) (fun a w hst=>?_)
 have hst:St B w0 35 [] [⟨2,35,ptrH,_⟩,⟨3,35,ptrH,_⟩,⟨4,37,ptrH,_⟩,⟨5,35,ptrH,_⟩] a w:=hst
 refine za0 ?_
 refine wp_ret ?_
 refine zah ?_ (zao rfl hst (zm 2 rfl) zaa)
 exact (zkl (Nat.le_max_left _ _) (Nat.le_max_right _ _)).va
theorem plusD_q {c d:Nat}{x y:Rat}(hc:c+d≤137438953472):Cn Tryz.prog 60 [Qs c x,Qs d y] ((QD (c+d+1) (x+y)).va):=by
 refine Cn.intro Tryz.func60 rfl zk nq (fun B w0 a hst=>?_)
 have hst:St B w0 22 [(0,Qs c x),(1,Qs d y)] [] a w0.w:=hst
 refine wp_seq ?_
 refine gl (sts:=[]) (news:=[⟨2,37,ptrH,some 0,_,none⟩,⟨3,37,ptrH,some 1,_,none⟩,⟨4,37,ptrH,some 2,_,none⟩]) (sp:=[.alc 0,.alc 1,.alc 2]) [] hst (oc (zal rfl rfl rfl (gq 0 rfl)) (oc (zal rfl rfl rfl (gq 1 rfl)) (oc (zaf rfl rfl rfl (Str.zero zaq)) o0))) (fun a w hst=>?_)
 have hst:St B w0 22 [] [⟨2,37,ptrH,_⟩,⟨3,37,ptrH,_⟩,⟨4,37,ptrH,_⟩] a w:=hst
 refine zt ?_
 refine go_drawV' [[],[0],[],[2],[0,1,2,3],[],[5],[],[7],[0,1,2,3,4,5,6,7,8],[0,1,2,3,4,5,6,7,8,9],[],[11],[],[13],[0,1,2,3,4,5,6,7,8,9,10,11,12,13,14],[0,1,2,3,4,5,6,7,8,9,10,11,12,13,14,15],[0,1,2,3,4,5,6,7,8,9,10,11,12,13,14,15,16]] (sts:=[none,none,some (17,fun ν=>_)]) (news:=[]) (sp:=[(fun ν=>.adr 5 2 (.some 0) True),(fun ν=>.val 6 _),(fun ν=>.adr 7 3 (.some 2) True),(fun ν=>.val 8 _),(fun ν=>.val 9 _),(fun ν=>.adr 10 3 (.some 0) True),(fun ν=>.val 11 _),(fun ν=>.adr 12 2 (.some 2) True),(fun ν=>.val 13 _),(fun ν=>.val 14 _),(fun ν=>.val 15 (PinA (ν 10) ((ZN (max (c+d) (d+c)+1) (x.num*(y.den:Int)+y.num*(x.den:Int))).and (SepAll [] (ν 10)))).va),(fun ν=>.adr 16 2 (.some 2) True),(fun ν=>.val 17 _),(fun ν=>.adr 18 3 (.some 2) True),(fun ν=>.val 19 _),(fun ν=>.val 20 (PinA (ν 15) ((ZN (c+d) ((x.den:Int)*(y.den:Int))).and (SepAll [ν 10] (ν 15)))).va),(fun ν=>.val 21 _),(fun ν=>.sto 2)]) [] za6 hst ⟨of_u fun ν=>ob_a rfl rfl (za8 (lz0 0 rfl) zbg),⟨of_u fun ν=>ob_v rfl rfl (za4 0 rfl zk trivial (lz0 0 rfl) (Sub.part 0 rfl rfl) zae),⟨of_u fun ν=>ob_a rfl rfl (za8 (lz0 1 rfl) zb2),⟨of_u fun ν=>ob_v rfl rfl (za4 2 rfl zk trivial (lz0 1 rfl) (Sub.part 1 rfl rfl) zae),⟨of_u fun ν=>ob_v rfl rfl (za5 (xs:=[.tmp 6,.tmp 8]) (zck zo zo) (.cons (vq 1 rfl) (.cons (vq 3 rfl) .nil))),⟨of_u fun ν=>ob_a rfl rfl (za8 (lz0 1 rfl) zbg),⟨of_u fun ν=>ob_v rfl rfl (za4 5 rfl zk trivial (lz0 1 rfl) (Sub.part 0 rfl rfl) zae),⟨of_u fun ν=>ob_a rfl rfl (za8 (lz0 0 rfl) zb2),⟨of_u fun ν=>ob_v rfl rfl (za4 7 rfl zk trivial (lz0 0 rfl) (Sub.part 1 rfl rfl) zae),⟨of_u fun ν=>ob_v rfl rfl (za5 (xs:=[.tmp 11,.tmp 13]) (zck zo zo) (.cons (vq 6 rfl) (.cons (vq 8 rfl) .nil))),⟨zec (us:=fun ν=>[]) (xs:=[.tmp 9,.tmp 14]) rfl rfl (zif zo zo) zdc ze2 (.cons upA_za.va (.cons upA_za.va .nil)) (fun ν=>(.cons (vq 4 rfl) (.cons (vq 9 rfl) .nil))) (fun _ _=>rfl) (fun ν=>zcw),⟨of_u fun ν=>ob_a rfl rfl (za8 (lz0 0 rfl) zb2),⟨of_u fun ν=>ob_v rfl rfl (za4 11 rfl zk trivial (lz0 0 rfl) (Sub.part 1 rfl rfl) zae),⟨of_u fun ν=>ob_a rfl rfl (za8 (lz0 1 rfl) zb2),⟨of_u fun ν=>ob_v rfl rfl (za4 13 rfl zk trivial (lz0 1 rfl) (Sub.part 1 rfl rfl) zae),⟨zec (us:=fun ν=>[ν 10]) (xs:=[.tmp 17,.tmp 19]) rfl rfl (times_zn zo zo) zdc ze2 (.cons upA_za.va (.cons upA_za.va .nil)) (fun ν=>(.cons (vq 12 rfl) (.cons (vq 14 rfl) .nil))) (fun _ _=>rfl) (fun ν=>(zfm (zfc zdc) (vq 10 rfl) zcw)),⟨of_u fun ν=>ob_v rfl rfl (za5 (xs:=[.tmp 15,.tmp 20]) (lowestD_c zo zo (den_nz x y)) (.cons (vq 10 rfl) (.cons (vq 15 rfl) .nil))),⟨of_u fun ν=>za7 rfl rfl rfl (vq 16 rfl) zaa (Eq.trans (b:=4) rfl rfl),trivial⟩⟩⟩⟩⟩⟩⟩⟩⟩⟩⟩⟩⟩⟩⟩⟩⟩⟩ ⟨(fun ν ν' h=>rfl),⟨(fun ν ν' h=>rfl),⟨(fun ν ν' h=>rfl),⟨(fun ν ν' h=>rfl),⟨(fun ν ν' h=>rfl),⟨(fun ν ν' h=>rfl),⟨(fun ν ν' h=>rfl),⟨(fun ν ν' h=>rfl),⟨(fun ν ν' h=>rfl),⟨(fun ν ν' h=>rfl),⟨(fun ν ν' h=>by first | rfl | simp only [h 10 rfl]),⟨(fun ν ν' h=>rfl),⟨(fun ν ν' h=>rfl),⟨(fun ν ν' h=>rfl),⟨(fun ν ν' h=>rfl),⟨(fun ν ν' h=>by first | rfl | simp only [h 10 rfl,h 15 rfl]),⟨(fun ν ν' h=>by first | rfl | simp only [h 10 rfl,h 15 rfl]),⟨(fun ν ν' h=>by first | rfl | simp only [h 10 rfl,h 15 rfl]),trivial⟩⟩⟩⟩⟩⟩⟩⟩⟩⟩⟩⟩⟩⟩⟩⟩⟩⟩ ⟨trivial,⟨trivial,⟨(fun ν ν' h=>by first | rfl | simp only [h 10 rfl,h 15 rfl]),trivial⟩⟩⟩ zk zk (fun ν=>by kernel_rfl) (fun ν=>by kernel_rfl) (fun ν1 a w hst=>?_)
 have hst:St B w0 22 [] [⟨2,37,ptrH,_⟩,⟨3,37,ptrH,_⟩,⟨4,37,ptrH,_⟩] a w:=hst
 refine za0 ?_
 refine wp_ret ?_
 refine zah ?_ (zao rfl hst (zm 2 rfl) zaa)
 exact zc4 (zd4 (congrArg (fun z=>(QD _ z).va) (zki x y))) (qd_mono zo).va
theorem qd_tn {u v:Value}{c d k:Nat}{x:Rat}(hc:c≤k)(hd:d≤k):WkA (cat [PinA u ((ZN c (-x.num)).and (SepAll [] u)),PinA v ((ZN d ((x.den:Int)+0)).and (SepAll [u] v))]) (QD k (-x)):=by
 rw [Int.add_zero]
 exact zkl (q := -x) hc hd
theorem qd_cp {u v:Value}{c d k:Nat}{x:Rat}(hc:c≤k)(hd:d≤k):WkA (cat [PinA u ((ZN c (x.num+0)).and (SepAll [] u)),PinA v ((ZN d ((x.den:Int)+0)).and (SepAll [u] v))]) (QD k x):=by
 rw [Int.add_zero,Int.add_zero]
 exact zkl hc hd
theorem turnedD_r {c:Nat}{x:Rat}(hc:c≤137438953472):Cn Tryz.prog 66 [Qs c x] ((QD (max c 2+1) (-x)).va):=by
 refine Cn.intro Tryz.func66 rfl zk nq (fun B w0 a hst=>?_)
 have hst:St B w0 11 [(0,Qs c x)] [] a w0.w:=hst
 refine wp_seq ?_
 refine gl (sts:=[]) (news:=[⟨1,37,ptrH,some 0,_,none⟩,⟨2,37,ptrH,some 1,_,none⟩]) (sp:=[.alc 0,.alc 1]) [] hst (oc (zal rfl rfl rfl (gq 0 rfl)) (oc (zaf rfl rfl rfl (Str.zero zaq)) o0)) (fun a w hst=>?_)
 have hst:St B w0 11 [] [⟨1,37,ptrH,_⟩,⟨2,37,ptrH,_⟩] a w:=hst
 refine zt ?_
 refine go_drawV' [[],[0],[0,1],[],[3],[0,1,2],[0,1,2,3,4,5],[0,1,2,3,4,5,6],[0,1,2,3,4,5,6,7]] (sts:=[none,some (8,fun ν=>_)]) (news:=[]) (sp:=[(fun ν=>.adr 3 1 (.some 0) True),(fun ν=>.val 4 _),(fun ν=>.val 5 (PinA (ν 2) ((ZN c (-x.num)).and (SepAll [] (ν 2)))).va),(fun ν=>.adr 6 1 (.some 2) True),(fun ν=>.val 7 _),(fun ν=>.val 8 _),(fun ν=>.val 9 (PinA (ν 6) ((ZN (max c 2+1) ((x.den:Int)+0)).and (SepAll [ν 2] (ν 6)))).va),(fun ν=>.val 10 _),(fun ν=>.sto 1)]) [] za6 hst ⟨of_u fun ν=>ob_a rfl rfl (za8 (lz0 0 rfl) zbg),⟨of_u fun ν=>ob_v rfl rfl (za4 0 rfl zk trivial (lz0 0 rfl) (Sub.part 0 rfl rfl) zae),⟨zec (us:=fun ν=>[]) (xs:=[.tmp 4]) rfl rfl (zgp zo) zdc ze2 (.cons upA_za.va .nil) (fun ν=>(.cons (vq 1 rfl) .nil)) (fun _ _=>rfl) (fun ν=>zcw),⟨of_u fun ν=>ob_a rfl rfl (za8 (lz0 0 rfl) zb2),⟨of_u fun ν=>ob_v rfl rfl (za4 3 rfl zk trivial (lz0 0 rfl) (Sub.part 1 rfl rfl) zae),⟨of_u fun ν=>ob_v rfl rfl (za5 (xs:=[.const (.int .i64 (0))]) (of_z zd zd) (.cons za3 .nil)),⟨zec (us:=fun ν=>[ν 2]) (xs:=[.tmp 7,.tmp 8]) rfl rfl (zif zo zo) zdc ze2 (.cons upA_za.va (.cons upA_za.va .nil)) (fun ν=>(.cons (vq 4 rfl) (.cons (vq 5 rfl) .nil))) (fun _ _=>rfl) (fun ν=>(zfm (zfc zdc) (vq 2 rfl) zcw)),⟨of_u fun ν=>ob_v rfl rfl (zb7 (xs:=[(0,.tmp 5),(1,.tmp 9)]) (qs:=[(0,_),(1,_)]) zaq (.cons ⟨rfl,(vq 2 rfl),rfl⟩ (.cons ⟨rfl,(vq 6 rfl),rfl⟩ .nil))),⟨of_u fun ν=>za7 rfl rfl rfl (vq 7 rfl) zaa (Eq.trans (b:=4) rfl rfl),trivial⟩⟩⟩⟩⟩⟩⟩⟩⟩ ⟨(fun ν ν' h=>rfl),⟨(fun ν ν' h=>rfl),⟨(fun ν ν' h=>by first | rfl | simp only [h 2 rfl]),⟨(fun ν ν' h=>rfl),⟨(fun ν ν' h=>rfl),⟨(fun ν ν' h=>by first | rfl | simp only [h 2 rfl]),⟨(fun ν ν' h=>by first | rfl | simp only [h 2 rfl,h 6 rfl]),⟨(fun ν ν' h=>by first | rfl | simp only [h 2 rfl,h 6 rfl]),⟨(fun ν ν' h=>by first | rfl | simp only [h 2 rfl,h 6 rfl]),trivial⟩⟩⟩⟩⟩⟩⟩⟩⟩ ⟨trivial,⟨(fun ν ν' h=>by first | rfl | simp only [h 2 rfl,h 6 rfl]),trivial⟩⟩ zk zk (fun ν=>by kernel_rfl) (fun ν=>by kernel_rfl) (fun ν1 a w hst=>?_)
 have hst:St B w0 11 [] [⟨1,37,ptrH,_⟩,⟨2,37,ptrH,_⟩] a w:=hst
 refine za0 ?_
 refine wp_ret ?_
 refine zah ?_ (zao rfl hst (zm 1 rfl) zaa)
 exact (qd_tn zo zo).va
theorem copyD_r {c:Nat}{x:Rat}(hc:c≤137438953472):Cn Tryz.prog 81 [Qs c x] ((QD (max c 2+1) x).va):=by
 refine Cn.intro Tryz.func81 rfl zk nq (fun B w0 a hst=>?_)
 have hst:St B w0 14 [(0,Qs c x)] [] a w0.w:=hst
 refine wp_seq ?_
 refine gl (sts:=[]) (news:=[⟨1,37,ptrH,some 0,_,none⟩,⟨2,37,ptrH,some 1,_,none⟩]) (sp:=[.alc 0,.alc 1]) [] hst (oc (zal rfl rfl rfl (gq 0 rfl)) (oc (zaf rfl rfl rfl (Str.zero zaq)) o0)) (fun a w hst=>?_)
 have hst:St B w0 14 [] [⟨1,37,ptrH,_⟩,⟨2,37,ptrH,_⟩] a w:=hst
 refine zt<|gl (sts:=[none,none]) (news:=[⟨3,35,ptrH,some 1,_,some (2,_)⟩]) (sp:=[.val 4 _,.alc 2,.sto 2]) [] hst (zv rfl (za5 (xs:=[.const (.int .i64 (0))]) (of_z zd zd) (.cons za3 .nil)) (oc (zaf rfl rfl rfl (Str.zero zc2)) (oc (za7 rfl rfl rfl (vq 0 rfl) zae (Eq.trans (b:=2) rfl rfl)) o0))) (fun a w hst=>?_)
 have hst:St B w0 14 [] [⟨1,37,ptrH,_⟩,⟨2,37,ptrH,_⟩,⟨3,35,ptrH,_⟩] a w:=hst
 refine zt ?_
 refine go_drawV' [[],[0],[],[0,1,2],[],[4],[],[0,1,2,3,4,5,6],[0,1,2,3,4,5,6,7],[0,1,2,3,4,5,6,7,8]] (sts:=[none,some (9,fun ν=>_),none]) (news:=[]) (sp:=[(fun ν=>.adr 5 1 (.some 0) True),(fun ν=>.val 6 _),(fun ν=>.val 7 _),(fun ν=>.val 8 (PinA (ν 3) ((ZN (max c 2+1) (x.num+0)).and (SepAll [] (ν 3)))).va),(fun ν=>.adr 9 1 (.some 2) True),(fun ν=>.val 10 _),(fun ν=>.val 11 _),(fun ν=>.val 12 (PinA (ν 7) ((ZN (max c 2+1) ((x.den:Int)+0)).and (SepAll [ν 3] (ν 7)))).va),(fun ν=>.val 13 _),(fun ν=>.sto 1)]) [] za6 hst ⟨of_u fun ν=>ob_a rfl rfl (za8 (lz0 0 rfl) zbg),⟨of_u fun ν=>ob_v rfl rfl (za4 0 rfl zk trivial (lz0 0 rfl) (Sub.part 0 rfl rfl) zae),⟨of_u fun ν=>ob_v rfl rfl (zac (lz0 2 rfl) zae),⟨zec (us:=fun ν=>[]) (xs:=[.tmp 6,.tmp 7]) rfl rfl (zif zo zo) zdc ze2 (.cons upA_za.va (.cons upA_za.va .nil)) (fun ν=>(.cons (vq 1 rfl) (.cons (vq 2 rfl) .nil))) (fun _ _=>rfl) (fun ν=>zcw),⟨of_u fun ν=>ob_a rfl rfl (za8 (lz0 0 rfl) zb2),⟨of_u fun ν=>ob_v rfl rfl (za4 4 rfl zk trivial (lz0 0 rfl) (Sub.part 1 rfl rfl) zae),⟨of_u fun ν=>ob_v rfl rfl (zac (lz0 2 rfl) zae),⟨zec (us:=fun ν=>[ν 3]) (xs:=[.tmp 10,.tmp 11]) rfl rfl (zif zo zo) zdc ze2 (.cons upA_za.va (.cons upA_za.va .nil)) (fun ν=>(.cons (vq 5 rfl) (.cons (vq 6 rfl) .nil))) (fun _ _=>rfl) (fun ν=>(zfm (zfc zdc) (vq 3 rfl) zcw)),⟨of_u fun ν=>ob_v rfl rfl (zb7 (xs:=[(0,.tmp 8),(1,.tmp 12)]) (qs:=[(0,_),(1,_)]) zaq (.cons ⟨rfl,(vq 3 rfl),rfl⟩ (.cons ⟨rfl,(vq 7 rfl),rfl⟩ .nil))),⟨of_u fun ν=>za7 rfl rfl rfl (vq 8 rfl) zaa (Eq.trans (b:=4) rfl rfl),trivial⟩⟩⟩⟩⟩⟩⟩⟩⟩⟩ ⟨(fun ν ν' h=>rfl),⟨(fun ν ν' h=>rfl),⟨(fun ν ν' h=>rfl),⟨(fun ν ν' h=>by first | rfl | simp only [h 3 rfl]),⟨(fun ν ν' h=>rfl),⟨(fun ν ν' h=>rfl),⟨(fun ν ν' h=>rfl),⟨(fun ν ν' h=>by first | rfl | simp only [h 3 rfl,h 7 rfl]),⟨(fun ν ν' h=>by first | rfl | simp only [h 3 rfl,h 7 rfl]),⟨(fun ν ν' h=>by first | rfl | simp only [h 3 rfl,h 7 rfl]),trivial⟩⟩⟩⟩⟩⟩⟩⟩⟩⟩ ⟨trivial,⟨(fun ν ν' h=>by first | rfl | simp only [h 3 rfl,h 7 rfl]),⟨trivial,trivial⟩⟩⟩ zk zk (fun ν=>by kernel_rfl) (fun ν=>by kernel_rfl) (fun ν2 a w hst=>?_)
 have hst:St B w0 14 [] [⟨1,37,ptrH,_⟩,⟨2,37,ptrH,_⟩,⟨3,35,ptrH,_⟩] a w:=hst
 refine za0 ?_
 refine wp_ret ?_
 refine zah ?_ (zao rfl hst (zm 1 rfl) zaa)
 exact (qd_cp zo zo).va
theorem turnedD_q {c:Nat}{x:Rat}(hc:c≤137438953472):Cn Tryz.prog 66 [Qs c x] (QD c (-x)).va :=
 Cn.know (c:=lz x.num≤c∧lz (x.den:Int)≤c) ex_qturned (fun B w args ha=>by cases ha with | cons h1 _=>exact qs_le h1) fun h=>(turnedD_r hc).wkp (qd_of (by rw [Rat.neg_num,zf9]; exact h.1) (by rw [Rat.neg_den]; exact h.2)).va
theorem copyD_q {c:Nat}{x:Rat}(hc:c≤137438953472):Cn Tryz.prog 81 [Qs c x] (QD c x).va :=
 Cn.know (c:=lz x.num≤c∧lz (x.den:Int)≤c) ex_qcopy (fun B w args ha=>by cases ha with | cons h1 _=>exact qs_le h1) fun h=>(copyD_r hc).wkp (qd_of h.1 h.2).va
end Go.Proofs.YtlpppkkggljdcaaGreat
namespace Go.Proofs.YtlpppkkggljdcaaGreat
open Go Go.RowKit
end Go.Proofs.YtlpppkkggljdcaaGreat
