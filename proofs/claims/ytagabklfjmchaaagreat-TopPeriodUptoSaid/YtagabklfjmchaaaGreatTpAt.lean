import Derived.Test.YtagabklfjmchaaaGreatTpAa
import Derived.Test.YtagabklfjmchaaaGreatTpAc
import Derived.Test.YtagabklfjmchaaaGreatTpAo
import Derived.Test.YtagabklfjmchaaaGreatTpAs
set_option linter.unusedVariables false
set_option linter.unusedSimpArgs false
set_option linter.unusedSectionVars false
set_option maxRecDepth 100000
namespace Go.Proofs.YtagabklfjmchaaaGreat
open Go Go.RowKit
theorem St.itm {B N:Nat}{w0:Bs}{Γ:List (Nat × VA)}{Λ:List Lc}{a:Act}{w:World}{s:Nat}{f:FuncId}{cf:List Nat→List (TypeId × As)}{D:List TypeId}{hD:∀ gs,(ItV f (cf gs) gs).deps=D}{ps:List (Nat × Nat)}(k:Nat)(ks:List Nat)(h:St B w0 N Γ Λ a w)(hm:Γ[k]?=some (s,ItM f cf D hD (ps.map Prod.snd)))(hn:Nmd Γ ps ks) :
  ∃ gb,St B w0 N (Γ.set k (s,ItV f (cf gb) gb)) Λ a w∧∀ t∈ps.map Prod.fst,∀ g,blk (a.eval (.tmp t))=some g→g ∉ gb:=by
 obtain ⟨gb,h1,h2⟩:=h.vals _ (List.mem_of_getElem? hm)
 refine ⟨gb,⟨h.lo,h.defers,h.size,h.base,fun x hx=>?_,h.locs,h.dis⟩,fun t ht g hg=>?_⟩
 ·rcases List.mem_or_eq_of_mem_set hx with hx | rfl
  ·exact h.vals x hx
  ·exact h1
 ·have key:∀ (ps:List (Nat × Nat)) (ks:List Nat),Nmd Γ ps ks→∀ p∈ps,a.eval (.tmp p.1)=ptr p.2:=by
   intro ps
   induction ps with
   | nil=>intro _ _ p hp; cases hp
   | cons q ps ih =>
    intro ks hk p hp
    cases ks with
    | nil=>exact hk.elim
    | cons k ks =>
     obtain ⟨e1,e2⟩:=hk
     rcases List.mem_cons.1 hp with rfl | hp
     ·exact h.vals _ (List.mem_of_getElem? e1)
     ·exact ih ks e2 p hp
  obtain ⟨p,hp,rfl⟩:=List.mem_map.1 ht
  rw [key ps ks hn p hp] at hg
  have:p.2=g:=by injection hg
  rw [← this]
  exact h2 p.2 (List.mem_map.2 ⟨p,hp,rfl⟩)
section
variable {P:Program} {R:Rg} {Q:Exit→Act→World→Prop} {B i:Nat} {w0:Bs}
theorem r_callM {f f':FuncId}{pre:List VA}{cf:List Nat→List (TypeId × As)}{D:List TypeId}{hD:∀ gs,(ItV f (cf gs) gs).deps=D}{xs:List Operand}{at_:Array TypeId}(ns:List (Nat × Nat))(hc:CnI P f' pre (fun b=>ItB b f cf D hD))(hx:HasL R B w0 i xs pre)(hns:Nmo R B w0 i ns) :
  Wv P Q R B w0 i (.call ⟨.value (.func f'),xs.toArray,at_⟩) (ItM f cf D hD (ns.map Prod.snd)):=by
 intro d T' ps af gd a w av K hK
 obtain ⟨⟨fn,hf,hn,hb⟩,hcall⟩:=hc
 have hrun:(execOp a.eval ⟨some d,.call ⟨.value (.func f'),xs.toArray,at_⟩,T',ps,af,gd⟩).run P w=.ok (.enter f' (xs.map a.eval).toArray) w:=by
  have e1:a.eval (.func f')=.func (.func f') #[] #[]:=rfl
  simp only [execOp,resolve,e1,Deferred.ofValue,Sem.run_bind,Sem.run_pure,Result.andThen_ok,invoke,zbj hf hn hb]
  simp
 unfold Oper.wp
 rw [hrun]
 refine (hcall B w _ (Av.bw av) (hx.all av)).mono fun e w' ⟨v,he,⟨gs,h1,h2⟩,hg⟩=>?_
 subst he
 refine hK v w' hg ⟨gs,h1,fun n hn' hm=>?_⟩
 obtain ⟨p,hp',rfl⟩:=List.mem_map.1 hn'
 have h3:=hns.lt av p hp'
 have h4:=h2 _ hm
 omega
end
def RawA (k:Nat):As where
 n:=k
 ag:=true
 p _ cs _:=cs.length=k∧∀ c∈cs,c.oneCell'=true
 deps:=[]
 len:=fun _ _ _ h=>h.1
 one:=fun _ _ _ h=>h.2
 ag1:=fun h=>by cases h
 cg:=fun _ _ _ _ _ h=>h
 wr:=fun _ _ _ _ _ _ _ _ _ _ _ _ h=>h
theorem zero_two:Zero Tryz.prog 97 (RawA 4):=Zero.of (z:=.agg #[.bool false,.slice none 0 0,.bool false,.slice none 0 0]) zk (fun _ _=>⟨rfl,fun c hc=>List.all_eq_true.1 (show ([.bool false,.slice none 0 0,.bool false,.slice none 0 0]:List Value).all (·.oneCell')=true by kernel_rfl) c hc⟩)
section
variable {P:Program} {R:Rg} {Q:Exit→Act→World→Prop} {B i:Nat} {w0:Bs}
theorem r_idxv {x y:Operand}{T E:TypeId}{k:Nat}{kd:IntKind}{l:List As}{A':As}(hx:Has R B w0 i x (cat l).va)(hA':A'.ag=true)(hS:P.underlying T=some (.array l.length E))(ht:Ty P E A'.n A'.ag)(hm:∀ A∈l,A.n=A'.n)(hy:Has R B w0 i y (NumA kd k).va)(hk:l[k]?=some A'):Wv P Q R B w0 i (.index T x y) A'.va :=
 zbe fun d T' ps af gd a w av=>by
  obtain ⟨cs,h1,hv⟩:=hx a w av
  obtain ⟨p1,l1⟩:=zge h1 hk
  have hlt:k<l.length:=(List.getElem?_eq_some_iff.1 hk).1
  have ho:=zhx hm (k:=k) zo
  unfold offs at ho
  rw [ho] at p1 l1
  have hv':a.eval x=.agg cs.toArray:=hv
  have e:=zbl (hy a w av)
  have ha:(isAgg E).run P w=.ok true w:=by
   have:=ht.2
   rw [hA'] at this
   cases hu:P.underlying E with
   | none=>rw [hu] at this; simp at this
   | some u =>
    rw [hu] at this
    unfold isAgg
    simp only [Sem.run_bind,run_underlying hu,Result.andThen_ok]
    cases u <;> simp_all
  have hz:(sizeOf E).run P w=.ok A'.n w:=by
   have:=ht.1
   cases hi:P.info? E with
   | none=>rw [hi] at this; simp at this
   | some it=>rw [hi] at this; simp [sizeOf,typeInfo,hi]; simpa using this
  refine ⟨.agg (cs.toArray.extract (k*A'.n) (k*A'.n+A'.n)),w,?_,Grow.refl w,_,p1,?_⟩
  ·simp [execOp,hv',e,Instr.index,asIntOf,run_underlying hS,hlt,part,ha,hz]
  ·unfold shape
   rw [hA',if_pos rfl]
   congr 1
   apply Array.ext'
   simp
end
def far1 (l:Rat)(z d:Int):Bool:=decide (sg3 ((z.natAbs:Int)*(l.den:Int)) (l.num*d)>0)
def farO (l:Rat)(p:Int × Int)(d:Int):Bool:=far1 l p.1 d || far1 l p.2 d
def farK (m:RM)(r:RR)(l:RF)(k:Nat):Bool:=farO (toQ l) (wkL (mI (toM m)) (rI (toY r)) k) (wkD (mq (toM m)) (rq (toY r)) k)
def fstK (m:RM)(r:RR)(l:RF):Nat:=((List.range 4097).find? (farK m r l)).getD 0
def leO (m:RM)(r:RR)(l:RF):Int × Int:=if fiO m r&&okX l then (match (List.range 4097).find? (farK m r l) with | some k=>((k:Int),0) | none=>(0,7)) else (0,1)
theorem zero_i3:Zero Tryz.prog 3 (NumA .i64 0):=Zero.of (z:=.int .i64 0) zk (fun _ _=>rfl)
theorem zero_i38:Zero Tryz.prog 39 (NumA .i64 0):=Zero.of (z:=.int .i64 0) zk (fun _ _=>rfl)
theorem St.factL {B N:Nat}{w0:Bs}{s T:Nat}{H:Hd}{A:As}{c:Prop}{Γ:List (Nat × VA)}{Λ:List Lc}{a:Act}{w:World}(h:St B w0 N Γ Λ a w)(i:Nat)(hm:Λ[i]?=some ⟨s,T,H,A.and c⟩):c:=by
 obtain ⟨g,cs,_,_,_,p⟩:=h.locs _ (List.mem_of_getElem? hm)
 exact p.1
theorem two_at {c:Nat}{p:Int × Int}{j:Nat}(h:j<2):[ZA c p.1,ZA c p.2][j]?=some (ZA c (if j=0 then p.1 else p.2)) :=
 match j,h with
 | 0,_=>rfl
 | 1,_=>rfl
theorem fst_some {F:Nat→Bool}{k:Nat}(hk:k≤4096)(h:∀ i,i<k→F i=false)(hF:F k=true):(List.range 4097).find? F=some k:=by
 rw [List.find?_range_eq_some]
 exact ⟨hF,by simp; omega,fun j hj=>by simp [h j hj]⟩
theorem fst_none {F:Nat→Bool}(h:∀ i,i<4097→F i=false):(List.range 4097).find? F=none:=by
 rw [List.find?_eq_none]
 intro i hi
 simp at hi
 simp [h i zo]
end Go.Proofs.YtagabklfjmchaaaGreat
namespace Go.Proofs.YtagabklfjmchaaaGreat
open Go Go.RowKit
theorem le_in {m:RM}{r:RR}{l:RF}(h:((!fiO m r) || ((if okX l then (0:Int) else 1) != 0))=false):fiO m r=true∧okX l=true:=by
 simp only [Bool.or_eq_false_iff] at h
 refine ⟨by simpa using h.1,?_⟩
 have:=h.2
 cases hl:okX l with
 | true=>rfl
 | false=>rw [hl] at this; simp at this
theorem le_no {m:RM}{r:RR}{l:RF}(h:((!fiO m r) || ((if okX l then (0:Int) else 1) != 0))=true):leO m r l=(0,1):=by
 rw [leO,if_neg]
 intro h2
 rw [Bool.and_eq_true] at h2
 rw [h2.1,h2.2] at h
 simp at h
theorem far_some {l:Rat}{p:Int × Int}{d:Int}{j:Nat}(h:far1 l (if j=0 then p.1 else p.2) d=true):farO l p d=true:=by
 unfold farO
 by_cases h0:j=0
 ·rw [if_pos h0] at h
  rw [h]; rfl
 ·rw [if_neg h0] at h
  rw [h,Bool.or_true]
theorem far_none {l:Rat}{p:Int × Int}{d:Int}(h:∀ i,i<2→far1 l (if i=0 then p.1 else p.2) d=false):farO l p d=false:=by
 have h0:=h 0 zd
 have h1:=h 1 zd
 unfold farO
 simp at h0 h1
 rw [h0,h1]; rfl
theorem all_nx2 {F:Nat→Bool}{j:Nat}(h:∀ i,i<j→F i=false)(h2:F j=false):∀ i,i<j+1→F i=false:=fun i hi=>by
 rcases Nat.lt_or_ge i j with h1 | h1
 ·exact h i h1
 ·have e:i=j:=by omega
  rw [e]; exact h2
theorem abs_ri (z:Int):riOf ((z.natAbs:Nat):Int)=⟨false,(riOf z).mag⟩:=by simp [riOf]
theorem abs_wk {z:Int}{c:Nat}(h:lz z≤c):WkA (cat [BoA false,MgA (riOf z).mag]) (ZA c ((z.natAbs:Nat):Int)):=⟨rfl,rfl,fun B cs w hp=>by
 refine ⟨by unfold lz at *; simpa using h,?_⟩
 rw [abs_ri]
 exact hp⟩
theorem le_none {m:RM}{r:RR}{l:RF}(h:fiO m r=true∧okX l=true)(hn:∀ i,i<4097→farK m r l i=false):leO m r l=(0,7):=by
 rw [leO,h.1,h.2,fst_none hn]
 rfl
theorem le_some {m:RM}{r:RR}{l:RF}{k:Nat}(h:fiO m r=true∧okX l=true)(hn:(List.range 4097).find? (farK m r l)=some k):leO m r l=(((fstK m r l:Nat):Int),0):=by
 rw [fstK,leO,h.1,h.2,hn]
 rfl
theorem leaves_c (m:RM)(r:RR)(lm:RF):Cn Tryz.prog 24 [(RMA m).va,(RRA r).va,(RFA lm).va] (Tu [In (leO m r lm).1,In (leO m r lm).2]):=by
 refine Cn.introR Tryz.func24 rfl zk nq (.cons (zg5 (.cons (zey _) (.cons (zey _) (.cons (zey _) (.cons (zey _) .nil))))).va (.cons (zg5 (.cons (zey _) (.cons (zey _) .nil))).va (.cons (zey _).va .nil))) (free_tu (.cons (zi2 _ _).va (.cons (zi2 _ _).va .nil))) (fun B w0 a hB0 hN0 hst=>?_)
 have hst:St B w0 50 [(0,(RMA m).va),(1,(RRA r).va),(2,(RFA lm).va)] [] a w0.w:=hst
 refine wp_seq ?_
 refine gl (sts:=[]) (news:=[⟨3,38,ptrH,some 0,_,none⟩,⟨4,29,ptrH,some 1,_,none⟩,⟨5,27,ptrH,some 2,_,none⟩,⟨6,3,ptrH,some 3,_,none⟩,⟨7,39,ptrH,some 4,_,none⟩]) (sp:=[.alc 0,.alc 1,.alc 2,.alc 3,.alc 4]) [] hst (oc (zam rfl rfl rfl (gq 0 rfl)) (oc (zam rfl rfl rfl (gq 1 rfl)) (oc (zam rfl rfl rfl (gq 2 rfl)) (oc (zao rfl rfl rfl zero_i3) (oc (zao rfl rfl rfl zero_i38) o0))))) (fun a w hst=>?_)
 have hst:St B w0 50 [] [⟨3,38,ptrH,_⟩,⟨4,29,ptrH,_⟩,⟨5,27,ptrH,_⟩,⟨6,3,ptrH,_⟩,⟨7,39,ptrH,_⟩] a w:=hst
 refine zt ?_
 refine wp_seq ?_
 refine gl (sts:=[none,none,none,none,none]) (news:=[]) (sp:=[.val 14 _,.val 15 _,.val 16 _,.val 17 _,.val 18 _,.val 19 (Wh (_=false) _),.val 20 (Wh (_=false) _),.val 21 (Wh (_=false) _),.val 22 _]) [.o 8] hst (zv rfl (zab (lz0 0 rfl) zat) (zv rfl (zab (lz0 1 rfl) ty_29) (zv rfl (za5 (xs:=[.tmp 14,.tmp 15]) (fine_c m r) (.cons (vq 0 rfl) (.cons (vq 1 rfl) .nil))) (zv rfl (zft (vq 2 rfl)) (zv rfl (za2 (vq 3 rfl)) (oc (zal rfl rfl rfl (vq 4 rfl) nq (fun hg=>zab (lz0 2 rfl) za9)) (oc (zal rfl rfl rfl (vq 4 rfl) nq (fun hg=>za5 (xs:=[.tmp 19]) (zjy lm) (.cons (zaf (vq 5 rfl) hg) .nil))) (oc (zal rfl rfl rfl (vq 4 rfl) nq (fun hg=>zco (zaf (vq 6 rfl) hg) za3)) (zv rfl (r_or (vq 4 rfl) (vq 7 rfl)) o0))))))))) (fun a w hst=>?_)
 have hst:St B w0 50 [(22,_)] [⟨3,38,ptrH,_⟩,⟨4,29,ptrH,_⟩,⟨5,27,ptrH,_⟩,⟨6,3,ptrH,_⟩,⟨7,39,ptrH,_⟩] a w:=hst
 refine za0 ?_
 refine zaa hst (zm 0 rfl) (fun hb0=>?_) (fun hb0=>?_)
 ·refine wp_seq ?_
  refine gl (sts:=[none,none,none,some (0,_),some (1,_)]) (news:=[]) (sp:=[.sto 3,.sto 4]) [] hst (oc (zad rfl rfl rfl za3 ty_3 (Eq.trans (b:=1) rfl rfl)) (oc (zad rfl rfl rfl za3 zij (Eq.trans (b:=1) rfl rfl)) o0)) (fun a w hst=>?_)
  have hst:St B w0 50 [] [⟨3,38,ptrH,_⟩,⟨4,29,ptrH,_⟩,⟨5,27,ptrH,_⟩,⟨6,3,ptrH,_⟩,⟨7,39,ptrH,_⟩] a w:=hst
  refine za0 ?_
  refine wp_ret ?_
  refine zah ?_
  refine zag ?_ (zaq (rs:=[.cell 6 3,.cell 7 39]) rfl hst (.cell (zm 3 rfl) ty_3 (.cell (zm 4 rfl) zij .nil)) zd)
  rw [le_no hb0]; exact zb2
 ·have hin:=le_in hb0
  have hok:=fiO_ok (m:=m) (r:=r) (by rw [hin.1]; rfl)
  have hst:=St.wkL hst 0 rfl (qm_x (zhv hok.1).1)
  have hst:=St.wkL hst 1 rfl (qr_x hok.2)
  have hst:=St.wkL hst 2 rfl (qa_x hin.2 (Nat.le_refl _))
  refine wp_skip ?_
  refine zt<|gl (sts:=[none,none,none,none,none]) (news:=[⟨8,3,ptrH,some 0,_,some (1,_)⟩]) (sp:=[.alc 5,.sto 5]) [] hst (oc (zao rfl rfl rfl zero_i3) (oc (zad rfl rfl rfl za3 ty_3 (Eq.trans (b:=1) rfl rfl)) o0)) (fun a w hst=>?_)
  have hst:St B w0 50 [] [⟨3,38,ptrH,_⟩,⟨4,29,ptrH,_⟩,⟨5,27,ptrH,_⟩,⟨6,3,ptrH,_⟩,⟨7,39,ptrH,_⟩,⟨8,3,ptrH,_⟩] a w:=hst
  refine zt ?_
  refine wp_seq ?_
  have hst:=St.wkL (A':=(NumA .i64 0).and ((0:Nat)≤4097∧(∀ i,i<(0:Nat)→farK m r lm i=false))) hst 3 rfl ⟨rfl,rfl,fun _ _ _ h=>⟨⟨by decide,fun i hi=>absurd hi (Nat.not_lt_zero _)⟩,h⟩⟩
  obtain ⟨q5,hst⟩:=St.nm hst 2 rfl
  obtain ⟨q6,hst⟩:=St.nm hst 3 rfl
  obtain ⟨q7,hst⟩:=St.nm hst 4 rfl
  obtain ⟨q8,hst⟩:=St.nm hst 5 rfl
  refine gl (sts:=[none,none,none,none,none,none]) (news:=[]) (sp:=[.val 23 _,.val 24 _,.val 25 _]) [.g 0,.g 1,.g 2,.g 3,.o 2] hst (zv rfl (zab (lz0 0 rfl) zat) (zv rfl (zab (lz0 1 rfl) ty_29) (zv rfl (r_callM (xs:=[.tmp 23,.tmp 24]) [(5,q5),(6,q6),(7,q7),(8,q8)] (walk_c (toM m) (toY r)) (.cons (vq 0 rfl) (.cons (vq 1 rfl) .nil)) (.cons (gq 3 rfl) (lz0 2 rfl) (.cons (gq 2 rfl) (lz0 3 rfl) (.cons (gq 1 rfl) (lz0 4 rfl) (.cons (gq 0 rfl) (lz0 5 rfl) .nil))))) o0))) (fun a w hst=>?_)
  have hst:St B w0 50 [(8,_),(7,_),(6,_),(5,_),(25,_)] [⟨3,38,ptrH,_⟩,⟨4,29,ptrH,_⟩,⟨5,27,ptrH,_⟩,⟨6,3,ptrH,_⟩,⟨7,39,ptrH,_⟩,⟨8,3,ptrH,_⟩] a w:=hst
  obtain ⟨gb,hst,hds⟩:=St.itm (ps:=[(5,q5),(6,q6),(7,q7),(8,q8)]) 4 [3,2,1,0] hst rfl ⟨rfl,rfl,rfl,rfl,trivial⟩
  have hdis:∀ s∈[5,6,7,8],∀ g,blk (a.eval (.tmp s))=some g→g ∉ gb:=hds
  refine za0 ?_
  refine wp_block ?_
  have hst:=St.selL hst [2,3,4,5]
  refine go_range (k0:=4) (gb:=gb) (Dd:=[25,U32]) (Db:=[27,3,39]) (fun k=>[⟨5,27,ptrH,QA 2048 (toQ lm)⟩,⟨6,3,ptrH,(NumA .i64 0).and (k≤4097∧(∀ i,i<k→farK m r lm i=false))⟩,⟨7,39,ptrH,NumA .i64 0⟩,⟨8,3,ptrH,NumA .i64 ((k:Nat):Int)⟩]) (some [⟨5,27,ptrH,QA 2048 (toQ lm)⟩,⟨6,3,ptrH,(NumA .i64 ((fstK m r lm:Nat):Int)).and (leO m r lm=(((fstK m r lm:Nat):Int),0))⟩,⟨7,39,ptrH,NumA .i64 0⟩,⟨8,3,ptrH,NumA .i64 ((fstK m r lm:Nat):Int)⟩]) (fun id=>if id=0 then some [⟨5,27,ptrH,QA 2048 (toQ lm)⟩,⟨6,3,ptrH,(NumA .i64 0).and (∀ i,i<4097→farK m r lm i=false)⟩,⟨7,39,ptrH,NumA .i64 0⟩,⟨8,3,ptrH,NumA .i64 ((4097:Nat):Int)⟩] else none) hst hB0 hN0 rfl (walk_it gb (mI (toM m)) (rI (toY r)) (mq (toM m)) (rq (toY r))) (M:=4100) (Y:=fun k=>[(cat [ZA (bL k) (wkL (mI (toM m)) (rI (toY r)) k).1,ZA (bL k) (wkL (mI (toM m)) (rI (toY r)) k).2]).va,Zs (bD k) (wkD (mq (toM m)) (rq (toY r)) k)]) (fun _=>by decide) zk [] zk (fun _=>by kernel_rfl) [5,6,7,8] (fun _=>by kernel_rfl) hdis (fun L hL=>by cases hL; kernel_rfl) (fun id L hL=>by (try dsimp only at hL); split at hL; cases hL; kernel_rfl; cases hL) (fun _=>rfl) zd zk (fun l k a1 Ws hk hBs hct hst=>?_) (fun a w hst=>?_) (fun L hL a w hst=>?_) (fun id L hL a w hst=>?_)
  ·obtain ⟨a0,rfl⟩:∃ x,x=a:=⟨_,rfl⟩
   have hst:St B (rndB B [27,3,39] gb Ws Ws) 50 [(26,_),(27,_),(5,_),(6,_),(7,_),(8,_)] [⟨5,27,ptrH,QA 2048 (toQ lm)⟩,⟨6,3,ptrH,(NumA .i64 0).and (k≤4097∧(∀ i,i<k→farK m r lm i=false))⟩,⟨7,39,ptrH,NumA .i64 0⟩,⟨8,3,ptrH,NumA .i64 ((k:Nat):Int)⟩] a1 Ws:=hst
   refine wpIn_seq ?_
   refine zl4 0 [0,1,2,3,4,5] hst rfl rfl rfl zk (zd5 fun _ _ h=>h) zero_two rfl ty_97 rfl zd rfl zk zk (fun a w hst=>?_)
   have hst:St B (rndB B [27,3,39] gb Ws Ws) 50 [(26,_),(27,_),(5,_),(6,_),(7,_),(8,_)] [⟨5,27,ptrH,_⟩,⟨6,3,ptrH,_⟩,⟨7,39,ptrH,_⟩,⟨8,3,ptrH,_⟩,⟨9,97,ptrH,_⟩] a w:=hst
   refine za0 ?_
   refine zl4 1 [0,1,2,3,4,5] hst rfl rfl rfl zk (zd5 fun _ _ h=>h) (Str.zero zbr) rfl zak rfl zd rfl zk zk (fun a w hst=>?_)
   have hst:St B (rndB B [27,3,39] gb Ws Ws) 50 [(26,_),(27,_),(5,_),(6,_),(7,_),(8,_)] [⟨5,27,ptrH,_⟩,⟨6,3,ptrH,_⟩,⟨7,39,ptrH,_⟩,⟨8,3,ptrH,_⟩,⟨9,97,ptrH,_⟩,⟨10,25,ptrH,_⟩] a w:=hst
   refine za0 ?_
   refine ⟨hst.base,fun W3 hbg=>?_⟩
   have hkk:=St.factL hst 1 rfl
   have hst:=St.begin hst (Nat.le_refl _) hBs hbg
   refine wpIn_block ?_
   refine wpIn_seq ?_
   refine wpIn_seq ?_
   refine zdu (sts:=[none,none,none,none,none,none]) (news:=[]) (sp:=[.val 28 _,.val 29 _]) [.g 0,.g 1,.g 2,.g 3,.g 4,.g 5,.o 1] zk (zd5 fun _ _ h=>h) hst (zv rfl (zab (lz0 3 rfl) ty_3) (zv rfl (zex (vq 0 rfl) za3) o0)) zk zk zk (fun a w hst=>?_)
   have hst:St B (rndB B [27,3,39] gb Ws W3) 50 [(26,_),(27,_),(5,_),(6,_),(7,_),(8,_),(29,_)] [⟨5,27,ptrH,_⟩,⟨6,3,ptrH,_⟩,⟨7,39,ptrH,_⟩,⟨8,3,ptrH,_⟩,⟨9,97,ptrH,_⟩,⟨10,25,ptrH,_⟩] a w:=hst
   refine za0 ?_
   refine zfj hst (zm 6 rfl) (fun hb1=>?_) (fun hb1=>?_)
   ·have hk7:=of_decide_eq_true hb1
    refine wpIn_exit ?_
    refine zae ?_
    refine blk_exit' zd ?_
    obtain rfl:k=4097:=by omega
    have hst:=St.wkL (A':=(NumA .i64 0).and (∀ i,i<4097→farK m r lm i=false)) hst 1 rfl ⟨rfl,rfl,fun _ _ _ h=>⟨h.1.2,h.2⟩⟩
    have hst:=St.selL hst [0,1,2,3]
    exact ⟨_,rfl,zjl [2,3,4,5] hst ⟨rfl,⟨rfl,⟨rfl,⟨rfl,trivial⟩⟩⟩⟩⟩
   ·have hk6:k≤4096:=by have:=of_decide_eq_false hb1; omega
    refine wpIn_skip ?_
    refine za0 ?_
    refine wpIn_seq ?_
    refine zdu (sts:=[none,none,none,none,none,none]) (news:=[⟨11,25,ptrH,some 4,_,some (5,_)⟩]) (sp:=[.adr 30 5 (.some 0) True,.val 31 _,.val 32 _,.val 33 _,.alc 6,.sto 6]) [.g 0,.g 1,.g 2,.g 3,.g 4,.g 5] zk (zd5 fun _ _ h=>h) hst (oc (ob_a rfl rfl (za7 (lz0 0 rfl) zba)) (zv rfl (za4 0 rfl zk trivial (lz0 0 rfl) (Sub.part 0 rfl rfl) zak) (zv rfl (zab (lz0 5 rfl) zak) (zv rfl (za5 (xs:=[.tmp 31,.tmp 32]) (zbz (by first | omega | (unfold bD; omega) | (unfold bL; omega)) (by first | omega | (unfold bD; omega) | (unfold bL; omega))) (.cons (vq 1 rfl) (.cons (vq 2 rfl) .nil))) (oc (zao rfl rfl rfl (Str.zero zbr)) (oc (zad rfl rfl rfl (vq 3 rfl) zak (Eq.trans (b:=2) rfl rfl)) o0)))))) zk zk zk (fun a w hst=>?_)
    have hst:St B (rndB B [27,3,39] gb Ws W3) 50 [(26,_),(27,_),(5,_),(6,_),(7,_),(8,_)] [⟨5,27,ptrH,_⟩,⟨6,3,ptrH,_⟩,⟨7,39,ptrH,_⟩,⟨8,3,ptrH,_⟩,⟨9,97,ptrH,_⟩,⟨10,25,ptrH,_⟩,⟨11,25,ptrH,_⟩] a w:=hst
    refine za0 ?_
    refine wpIn_seq ?_
    refine wpIn_seq ?_
    refine zdu (sts:=[none,none,none,none,none,none,none]) (news:=[]) (sp:=[.val 34 _,.val 35 _]) [.g 0,.g 1,.g 2,.g 3,.g 4,.g 5,.o 0,.o 1] zk (zd5 fun _ _ h=>h) hst (zv rfl (zab (lz0 4 rfl) ty_97) (zv rfl (za2 za3) o0)) zk zk zk (fun a w hst=>?_)
    have hst:St B (rndB B [27,3,39] gb Ws W3) 50 [(26,_),(27,_),(5,_),(6,_),(7,_),(8,_),(34,_),(35,_)] [⟨5,27,ptrH,_⟩,⟨6,3,ptrH,_⟩,⟨7,39,ptrH,_⟩,⟨8,3,ptrH,_⟩,⟨9,97,ptrH,_⟩,⟨10,25,ptrH,_⟩,⟨11,25,ptrH,_⟩] a w:=hst
    refine za0 ?_
    refine wpIn_block ?_
    have hst:=St.sel hst [6,7,2,3,4,5]
    have hst:=St.selL hst [0,1,2,3,6]
    refine wpIn_loop_ghost (fun n a w=>∃ j:Nat,(n+j=2∧∀ i,i<j→far1 (toQ lm) (if i=0 then (wkL (mI (toM m)) (rI (toY r)) k).1 else (wkL (mI (toM m)) (rI (toY r)) k).2) (wkD (mq (toM m)) (rq (toY r)) k)=false)∧St B (rndB B [27,3,39] gb Ws W3) 50 [(34,(cat [ZA (bL k) (wkL (mI (toM m)) (rI (toY r)) k).1,ZA (bL k) (wkL (mI (toM m)) (rI (toY r)) k).2]).va),(35,In (j:Nat)),(5,EqV (a0.eval (.tmp 5))),(6,EqV (a0.eval (.tmp 6))),(7,EqV (a0.eval (.tmp 7))),(8,EqV (a0.eval (.tmp 8)))] [⟨5,27,ptrH,QA 2048 (toQ lm)⟩,⟨6,3,ptrH,(NumA .i64 0).and (k≤4097∧(∀ i,i<k→farK m r lm i=false))⟩,⟨7,39,ptrH,NumA .i64 0⟩,⟨8,3,ptrH,NumA .i64 ((k:Nat):Int)⟩,⟨11,25,ptrH,ZA (2048+bD k) ((toQ lm).num*wkD (mq (toM m)) (rq (toY r)) k)⟩] a w) (2) ?_ ?_
    ·exact ⟨0,⟨rfl,fun i hi=>absurd hi (Nat.not_lt_zero _)⟩,hst⟩
    intro n a w hI
    obtain ⟨j,⟨hn,hfr⟩,hst⟩:=hI
    refine wpIn_seq ?_
    refine zdu (sts:=[none,none,none,none,none]) (news:=[]) (sp:=[.val 36 _]) [.g 0,.g 1,.g 2,.g 3,.g 4,.g 5,.o 0] zk (zd5 fun _ _ h=>h) hst (zv rfl (zc2 (gq 1 rfl) za3) o0) zk zk zk (fun a w hst=>?_)
    have hst:St B (rndB B [27,3,39] gb Ws W3) 50 [(34,_),(35,_),(5,_),(6,_),(7,_),(8,_),(36,_)] [⟨5,27,ptrH,_⟩,⟨6,3,ptrH,_⟩,⟨7,39,ptrH,_⟩,⟨8,3,ptrH,_⟩,⟨11,25,ptrH,_⟩] a w:=hst
    refine za0 ?_
    refine wpIn_seq ?_
    refine zfj hst (zm 6 rfl) (fun hb2=>?_) (fun hb2=>?_)
    ·have hj:j<2:=by have:=of_decide_eq_true hb2; omega
     refine wpIn_skip ?_
     refine za0 ?_
     refine wpIn_seq ?_
     refine wpIn_block ?_
     refine wpIn_seq ?_
     refine zdu (sts:=[none,none,none,none,none]) (news:=[⟨13,25,ptrH,some 1,_,some (2,_)⟩]) (sp:=[.val 37 _,.alc 5,.sto 5]) [.g 0,.g 1,.g 2,.g 3,.g 4,.g 5] zk (zd5 fun _ _ h=>h) hst (zv rfl (r_idxv (gq 0 rfl) rfl Tryz.underlying97 zak (n_ok zk) (gq 1 rfl) (two_at hj)) (oc (zao rfl rfl rfl (Str.zero zbr)) (oc (zad rfl rfl rfl (vq 0 rfl) zak (Eq.trans (b:=2) rfl rfl)) o0))) zk zk zk (fun a w hst=>?_)
     have hst:St B (rndB B [27,3,39] gb Ws W3) 50 [(34,_),(35,_),(5,_),(6,_),(7,_),(8,_)] [⟨5,27,ptrH,_⟩,⟨6,3,ptrH,_⟩,⟨7,39,ptrH,_⟩,⟨8,3,ptrH,_⟩,⟨11,25,ptrH,_⟩,⟨13,25,ptrH,_⟩] a w:=hst
     refine za0 ?_
     refine wpIn_seq ?_
     have hlz:=St.factL hst 5 rfl
     have hst:=St.wkL (A':=cat [BoA (riOf (if j=0 then (wkL (mI (toM m)) (rI (toY r)) k).1 else (wkL (mI (toM m)) (rI (toY r)) k).2)).neg,MgA (riOf (if j=0 then (wkL (mI (toM m)) (rI (toY r)) k).1 else (wkL (mI (toM m)) (rI (toY r)) k).2)).mag]) hst 5 rfl zaA
     refine zdu (sts:=[none,none,none,none,none,some (1,_)]) (news:=[]) (sp:=[.adr 38 13 (.some 0) True,.sto 5]) [.g 0,.g 1,.g 2,.g 3,.g 4,.g 5] zk (zd5 fun _ _ h=>h) hst (oc (ob_a rfl rfl (za7 (lz0 5 rfl) zbm)) (oc (zfu 0 rfl rfl rfl rfl zk zbk ty_4 (Put.part 0 rfl rfl rfl)) o0)) zk zk zk (fun a w hst=>?_)
     have hst:St B (rndB B [27,3,39] gb Ws W3) 50 [(34,_),(35,_),(5,_),(6,_),(7,_),(8,_)] [⟨5,27,ptrH,_⟩,⟨6,3,ptrH,_⟩,⟨7,39,ptrH,_⟩,⟨8,3,ptrH,_⟩,⟨11,25,ptrH,_⟩,⟨13,25,ptrH,_⟩] a w:=hst
     refine za0 ?_
     refine wpIn_seq ?_
     have hst:=St.wkL (A':=ZA (bL k) (((if j=0 then (wkL (mI (toM m)) (rI (toY r)) k).1 else (wkL (mI (toM m)) (rI (toY r)) k).2).natAbs:Nat):Int)) hst 5 rfl (abs_wk hlz)
     refine go_drawF (anc:=[[],[],[1],[0,1,2],[],[0,1,2,3,4],[0,1,2,3,4,5]]) (sts:=[none,none,none,none,none,none]) (news:=[]) (sp:=[.val 39 _,.adr 40 5 (.some 2) True,.val 41 _,.val 42 _,.val 43 _,.val 44 _,.val 45 _]) [.g 0,.g 1,.g 2,.g 3,.g 4,.g 5,.o 6] za6 zk (zd5 fun _ _ h=>h) hst (zv rfl (zab (lz0 5 rfl) zak) (oc (ob_a rfl rfl (za7 (lz0 0 rfl) zb5)) (zv rfl (za4 1 rfl zk trivial (lz0 0 rfl) (Sub.part 1 rfl rfl) zak) (zv rfl (za5 (xs:=[.tmp 39,.tmp 41]) (zbz (by first | omega | (unfold bD; omega) | (unfold bL; omega)) (by first | omega | (unfold bD; omega) | (unfold bL; omega))) (.cons (vq 0 rfl) (.cons (vq 2 rfl) .nil))) (zv rfl (zab (lz0 4 rfl) zak) (zv rfl (za5 (xs:=[.tmp 42,.tmp 43]) (cmp_z (by first | omega | (unfold bD; omega) | (unfold bL; omega)) (by first | omega | (unfold bD; omega) | (unfold bL; omega))) (.cons (vq 3 rfl) (.cons (vq 4 rfl) .nil))) (zv rfl (zex (vq 5 rfl) za3) o0))))))) zk zk zk zk (fun a w hst=>?_)
     have hst:St B (rndB B [27,3,39] gb Ws W3) 50 [(34,_),(35,_),(5,_),(6,_),(7,_),(8,_),(45,_)] [⟨5,27,ptrH,_⟩,⟨6,3,ptrH,_⟩,⟨7,39,ptrH,_⟩,⟨8,3,ptrH,_⟩,⟨11,25,ptrH,_⟩,⟨13,25,ptrH,_⟩] a w:=hst
     refine za0 ?_
     refine zfj hst (zm 6 rfl) (fun hb3=>?_) (fun hb3=>?_)
     ·have hfar:farK m r lm k=true:=far_some hb3
      refine wpIn_seq ?_
      refine zdu (sts:=[none,some (1,_),some (2,_),none,none,none]) (news:=[]) (sp:=[.val 46 _,.sto 1,.sto 2]) [.g 0,.g 1,.g 2,.g 3,.g 4,.g 5] zk (zd5 fun _ _ h=>h) hst (zv rfl (zab (lz0 3 rfl) ty_3) (oc (zad rfl rfl rfl (vq 0 rfl) ty_3 (Eq.trans (b:=1) rfl rfl)) (oc (zad rfl rfl rfl za3 zij (Eq.trans (b:=1) rfl rfl)) o0))) zk zk zk (fun a w hst=>?_)
      have hst:St B (rndB B [27,3,39] gb Ws W3) 50 [(34,_),(35,_),(5,_),(6,_),(7,_),(8,_)] [⟨5,27,ptrH,_⟩,⟨6,3,ptrH,_⟩,⟨7,39,ptrH,_⟩,⟨8,3,ptrH,_⟩,⟨11,25,ptrH,_⟩,⟨13,25,ptrH,_⟩] a w:=hst
      refine za0 ?_
      refine wpIn_ret ?_
      refine zb1 ?_
      refine zah ?_
      refine zah ?_
      refine zb1 ?_
      refine zah ?_
      refine zb1 ?_
      have hfk:k=fstK m r lm:=by rw [fstK,fst_some hk6 hkk.2 hfar]; rfl
      have hle:=le_some hin (fst_some hk6 hkk.2 hfar)
      rw [hfk] at hst
      have hst:=St.wkL (A':=(NumA .i64 ((fstK m r lm:Nat):Int)).and (leO m r lm=(((fstK m r lm:Nat):Int),0))) hst 1 rfl ⟨rfl,rfl,fun _ _ _ h=>⟨hle,h⟩⟩
      have hst:=St.selL hst [0,1,2,3]
      exact ⟨_,rfl,zjl [2,3,4,5] hst ⟨rfl,⟨rfl,⟨rfl,⟨rfl,trivial⟩⟩⟩⟩⟩
     ·refine wpIn_skip ?_
      refine zan ?_
      refine za0 ?_
      refine zdu (sts:=[none,none,none,none,none,none]) (news:=[]) (sp:=[.val 47 _,.val 35 _]) [.g 0,.g 2,.g 3,.g 4,.g 5,.o 1] zk (zd5 fun _ _ h=>h) hst (zv rfl (zb8 (gq 1 rfl) za3 ((wi64 zo zo).trans (by omega:(_:Int)=((j+1:Nat):Int)))) (zv rfl (za2 (vq 0 rfl)) o0)) zk zk zk (fun a w hst=>?_)
      have hst:St B (rndB B [27,3,39] gb Ws W3) 50 [(34,_),(5,_),(6,_),(7,_),(8,_),(35,_)] [⟨5,27,ptrH,_⟩,⟨6,3,ptrH,_⟩,⟨7,39,ptrH,_⟩,⟨8,3,ptrH,_⟩,⟨11,25,ptrH,_⟩,⟨13,25,ptrH,_⟩] a w:=hst
      refine za0 ?_
      have hst:=St.sel hst [0,5,1,2,3,4]
      have hst:=St.selL hst [0,1,2,3,4]
      exact ⟨n-1,by omega,j+1,⟨by omega,all_nx2 hfr hb3⟩,hst⟩
    ·obtain rfl:j=2:=by have:=of_decide_eq_false hb2; omega
     have hnf:farK m r lm k=false:=far_none hfr
     refine wpIn_exit ?_
     refine zae ?_
     refine zae ?_
     refine zaw ?_
     refine za0 ?_
     refine zdu (sts:=[none,none,none,some (2,_),none]) (news:=[]) (sp:=[.val 48 _,.val 49 _,.sto 3]) [.g 2,.g 3,.g 4,.g 5] zk (zd5 fun _ _ h=>h) hst (zv rfl (zab (lz0 3 rfl) ty_3) (zv rfl (zb8 (vq 0 rfl) za3 ((wi64 zo zo).trans (by omega:(_:Int)=((k+1:Nat):Int)))) (oc (zad rfl rfl rfl (vq 1 rfl) ty_3 (Eq.trans (b:=1) rfl rfl)) o0))) zk zk zk (fun a w hst=>?_)
     have hst:St B (rndB B [27,3,39] gb Ws W3) 50 [(5,_),(6,_),(7,_),(8,_)] [⟨5,27,ptrH,_⟩,⟨6,3,ptrH,_⟩,⟨7,39,ptrH,_⟩,⟨8,3,ptrH,_⟩,⟨11,25,ptrH,_⟩] a w:=hst
     refine zan ?_
     have hst:=St.wkL (A':=(NumA .i64 0).and (k+1≤4097∧(∀ i,i<(k+1)→farK m r lm i=false))) hst 1 rfl ⟨rfl,rfl,fun _ _ _ h=>⟨⟨by omega,all_nx2 h.1.2 hnf⟩,h.2⟩⟩
     have hst:=St.selL hst [0,1,2,3]
     exact ⟨fun _=>by omega,zjl [0,1,2,3] hst ⟨rfl,⟨rfl,⟨rfl,⟨rfl,trivial⟩⟩⟩⟩⟩
  ·have hst:St B w0 50 [] [⟨5,27,ptrH,_⟩,⟨6,3,ptrH,_⟩,⟨7,39,ptrH,_⟩,⟨8,3,ptrH,_⟩] a w:=hst
   have hst:=St.wkL (A':=(NumA .i64 0).and (∀ i,i<4097→farK m r lm i=false)) hst 1 rfl ⟨rfl,rfl,fun _ _ _ h=>absurd h.1.1 zd⟩
   have hle:=le_none hin (St.factL hst 1 rfl)
   refine zan ?_
   refine zt<|gl (sts:=[none,some (0,_),some (1,_),none]) (news:=[]) (sp:=[.sto 1,.sto 2]) [] hst (oc (zad rfl rfl rfl za3 ty_3 (Eq.trans (b:=1) rfl rfl)) (oc (zad rfl rfl rfl za3 zij (Eq.trans (b:=1) rfl rfl)) o0)) (fun a w hst=>?_)
   have hst:St B w0 50 [] [⟨5,27,ptrH,_⟩,⟨6,3,ptrH,_⟩,⟨7,39,ptrH,_⟩,⟨8,3,ptrH,_⟩] a w:=hst
   refine za0 ?_
   refine wp_ret ?_
   refine zag ?_ (zaq (rs:=[.cell 6 3,.cell 7 39]) rfl hst (.cell (zm 1 rfl) ty_3 (.cell (zm 2 rfl) zij .nil)) zd)
   rw [hle]; exact zb2
  ·cases hL
   have hst:St B w0 50 [] [⟨5,27,ptrH,_⟩,⟨6,3,ptrH,_⟩,⟨7,39,ptrH,_⟩,⟨8,3,ptrH,_⟩] a w:=hst
   have hle:=St.factL hst 1 rfl
   refine zb1 ?_
   refine zah ?_
   refine zag ?_ (zaq (rs:=[.cell 6 3,.cell 7 39]) rfl hst (.cell (zm 1 rfl) ty_3 (.cell (zm 2 rfl) zij .nil)) zd)
   rw [hle]; exact tu2w (fun _ _ _ h=>(and_va h).2) zb2
  ·(try dsimp only at hL); split at hL; rotate_left; cases hL; cases hL; rename_i hid; subst hid
   have hst:St B w0 50 [] [⟨5,27,ptrH,_⟩,⟨6,3,ptrH,_⟩,⟨7,39,ptrH,_⟩,⟨8,3,ptrH,_⟩] a w:=hst
   have hle:=le_none hin (St.factL hst 1 rfl)
   refine zaw ?_
   refine zt<|gl (sts:=[none,some (0,_),some (1,_),none]) (news:=[]) (sp:=[.sto 1,.sto 2]) [] hst (oc (zad rfl rfl rfl za3 ty_3 (Eq.trans (b:=1) rfl rfl)) (oc (zad rfl rfl rfl za3 zij (Eq.trans (b:=1) rfl rfl)) o0)) (fun a w hst=>?_)
   have hst:St B w0 50 [] [⟨5,27,ptrH,_⟩,⟨6,3,ptrH,_⟩,⟨7,39,ptrH,_⟩,⟨8,3,ptrH,_⟩] a w:=hst
   refine za0 ?_
   refine wp_ret ?_
   refine zag ?_ (zaq (rs:=[.cell 6 3,.cell 7 39]) rfl hst (.cell (zm 1 rfl) ty_3 (.cell (zm 2 rfl) zij .nil)) zd)
   rw [hle]; exact zb2
end Go.Proofs.YtagabklfjmchaaaGreat
namespace Go.Proofs.YtagabklfjmchaaaGreat
open Go Go.RowKit
def maO (x:Int):Int:=if x<0 then 1 else if x>4096 then 4 else 0
theorem maO_0 {x:Int}(h:maO x=0):0≤x∧x≤4096:=by
 unfold maO at h
 split at h
 ·omega
 ·split at h <;> omega
theorem many_c (x:Int):Cn Tryz.prog 32 [In x] (In (maO x)):=by
 refine Cn.intro Tryz.func32 rfl zk nq (fun B w0 a hst=>?_)
 have hst:St B w0 9 [(0,In x)] [] a w0.w:=hst
 refine wp_seq ?_
 refine gl (sts:=[]) (news:=[]) (sp:=[.val 2 _]) [.g 0,.o 0] hst (zv rfl (za1 za3) o0) (fun a w hst=>?_)
 have hst:St B w0 9 [(0,_),(2,_)] [] a w:=hst
 refine zt ?_
 refine wp_block ?_
 refine wp_seq ?_
 refine gl (sts:=[]) (news:=[]) (sp:=[.val 4 _,.val 5 _,.val 3 _]) [.g 0,.g 1,.o 2] hst (zv rfl (za2 (gq 0 rfl)) (zv rfl (zc2 (vq 0 rfl) za3) (zv rfl (za1 (vq 1 rfl)) o0))) (fun a w hst=>?_)
 have hst:St B w0 9 [(0,_),(2,_),(3,_)] [] a w:=hst
 refine za0 ?_
 refine zaa hst (zm 2 rfl) (fun hb0=>?_) (fun hb0=>?_)
 ·have h0:=of_decide_eq_true hb0
  refine wp_seq ?_
  refine gl (sts:=[]) (news:=[]) (sp:=[.val 2 _]) [.o 0] hst (zv rfl (za1 za3) o0) (fun a w hst=>?_)
  have hst:St B w0 9 [(2,_)] [] a w:=hst
  refine za0 ?_
  refine wp_ret ?_
  refine zb1 ?_
  refine zah ?_
  refine zag ?_ (zaj rfl hst (zm 0 rfl))
  rw [maO,if_pos h0]; exact zb2
 ·have h0:=of_decide_eq_false hb0
  refine wp_seq ?_
  refine gl (sts:=[]) (news:=[]) (sp:=[.val 7 _,.val 8 _,.val 6 _]) [.g 1,.o 2] hst (zv rfl (za2 (gq 0 rfl)) (zv rfl (zex (vq 0 rfl) za3) (zv rfl (za1 (vq 1 rfl)) o0))) (fun a w hst=>?_)
  have hst:St B w0 9 [(2,_),(6,_)] [] a w:=hst
  refine za0 ?_
  refine zaa hst (zm 1 rfl) (fun hb1=>?_) (fun hb1=>?_)
  ·have h1:=of_decide_eq_true hb1
   refine wp_seq ?_
   refine gl (sts:=[]) (news:=[]) (sp:=[.val 2 _]) [.o 0] hst (zv rfl (za1 za3) o0) (fun a w hst=>?_)
   have hst:St B w0 9 [(2,_)] [] a w:=hst
   refine za0 ?_
   refine wp_ret ?_
   refine zb1 ?_
   refine zah ?_
   refine zag ?_ (zaj rfl hst (zm 0 rfl))
   rw [maO,if_neg h0,if_pos h1]; exact zb2
  ·have h1:=of_decide_eq_false hb1
   refine wp_skip ?_
   refine zan ?_
   refine zt<|gl (sts:=[]) (news:=[]) (sp:=[.val 2 _]) [.o 0] hst (zv rfl (za1 za3) o0) (fun a w hst=>?_)
   have hst:St B w0 9 [(2,_)] [] a w:=hst
   refine za0 ?_
   refine wp_ret ?_
   refine zag ?_ (zaj rfl hst (zm 0 rfl))
   rw [maO,if_neg h0,if_neg h1]; exact zb2
def poO (m:RM)(x:Int):RM × Int:=if okM m then (if maO x=0 then asM 0 (powQ (toM m) x.toNat) else (rm0,maO x)) else (rm0,1)
theorem po_lo {m:MQ}(h:[m.a,m.b,m.c,m.d].any longQ=true):asM 0 m=(rm0,4):=by rw [asM,if_pos rfl,if_pos h]
theorem po_ok {m:MQ}(h:[m.a,m.b,m.c,m.d].any longQ=false):asM 0 m=(rmOf m,0):=by rw [asM,if_pos rfl,if_neg (by rw [h]; decide)]
theorem power13_c (m:RM)(x:Int):Cn Tryz.prog 14 [(RMA m).va,In x] (MR (poO m x)):=by
 refine Cn.intro Tryz.func14 rfl zk nq (fun B w0 a hst=>?_)
 have hst:St B w0 33 [(0,(RMA m).va),(1,In x)] [] a w0.w:=hst
 refine wp_seq ?_
 refine gl (sts:=[]) (news:=[⟨2,38,ptrH,some 0,_,none⟩,⟨4,38,ptrH,some 1,_,none⟩]) (sp:=[.alc 0,.alc 1,.val 5 _]) [.g 1,.o 2] hst (oc (zam rfl rfl rfl (gq 0 rfl)) (oc (zao rfl rfl rfl (Str.zero zai)) (zv rfl (za1 za3) o0))) (fun a w hst=>?_)
 have hst:St B w0 33 [(1,_),(5,_)] [⟨2,38,ptrH,_⟩,⟨4,38,ptrH,_⟩] a w:=hst
 refine zt ?_
 refine wp_seq ?_
 refine gl (sts:=[none,none]) (news:=[]) (sp:=[.val 8 _,.val 9 _,.val 10 _]) [.g 0,.g 1,.o 2] hst (zv rfl (zab (lz0 0 rfl) zat) (zv rfl (za5 (xs:=[.tmp 8]) (zhr m) (.cons (vq 0 rfl) .nil)) (zv rfl (zft (vq 1 rfl)) o0))) (fun a w hst=>?_)
 have hst:St B w0 33 [(1,_),(5,_),(10,_)] [⟨2,38,ptrH,_⟩,⟨4,38,ptrH,_⟩] a w:=hst
 refine za0 ?_
 refine zaa hst (zm 2 rfl) (fun hb0=>?_) (fun hb0=>?_)
 ·have hno:¬ okM m=true:=by simpa using hb0
  refine wp_seq ?_
  refine gl (sts:=[none,some (1,_)]) (news:=[]) (sp:=[.val 11 _,.sto 1,.val 5 _]) [.g 0,.o 2] hst (zv rfl (zbd (xs:=[]) (qs:=[]) zai .nil) (oc (zad rfl rfl rfl (vq 0 rfl) zat (Eq.trans (b:=16) rfl rfl)) (zv rfl (za1 za3) o0))) (fun a w hst=>?_)
  have hst:St B w0 33 [(1,_),(5,_)] [⟨2,38,ptrH,_⟩,⟨4,38,ptrH,_⟩] a w:=hst
  refine za0 ?_
  refine wp_ret ?_
  refine zah ?_
  refine zag ?_ (zaq (rs:=[.cell 4 38,.tmp 5]) rfl hst (.cell (zm 1 rfl) zat (.tmp (zm 1 rfl) .nil)) zd)
  rw [poO,if_neg hno]; exact zb2
 ·have hy:okM m=true:=by simpa using hb0
  have hst:=St.wkL hst 0 rfl (qm_x (zhv hy).1)
  refine wp_skip ?_
  refine zt ?_
  refine wp_seq ?_
  refine gl (sts:=[none,none]) (news:=[]) (sp:=[.val 12 _,.val 13 _,.val 6 _]) [.g 0,.g 1,.o 2] hst (zv rfl (za2 (gq 0 rfl)) (zv rfl (za5 (xs:=[.tmp 12]) (many_c _) (.cons (vq 0 rfl) .nil)) (zv rfl (za1 (vq 1 rfl)) o0))) (fun a w hst=>?_)
  have hst:St B w0 33 [(1,_),(5,_),(6,_)] [⟨2,38,ptrH,_⟩,⟨4,38,ptrH,_⟩] a w:=hst
  refine zt<|gl (sts:=[none,none]) (news:=[]) (sp:=[.val 14 _,.val 15 _]) [.g 0,.g 1,.g 2,.o 1] hst (zv rfl (za2 (gq 2 rfl)) (zv rfl (zco (vq 0 rfl) za3) o0)) (fun a w hst=>?_)
  have hst:St B w0 33 [(1,_),(5,_),(6,_),(15,_)] [⟨2,38,ptrH,_⟩,⟨4,38,ptrH,_⟩] a w:=hst
  refine za0 ?_
  refine zaa hst (zm 3 rfl) (fun hb1=>?_) (fun hb1=>?_)
  ·have hm:¬ maO x=0:=by simpa using hb1
   refine wp_seq ?_
   refine gl (sts:=[none,some (2,_)]) (news:=[]) (sp:=[.val 16 _,.val 17 _,.sto 1,.val 5 _]) [.g 0,.o 3] hst (zv rfl (zbd (xs:=[]) (qs:=[]) zai .nil) (zv rfl (za2 (gq 2 rfl)) (oc (zad rfl rfl rfl (vq 0 rfl) zat (Eq.trans (b:=16) rfl rfl)) (zv rfl (za1 (vq 1 rfl)) o0)))) (fun a w hst=>?_)
   have hst:St B w0 33 [(1,_),(5,_)] [⟨2,38,ptrH,_⟩,⟨4,38,ptrH,_⟩] a w:=hst
   refine za0 ?_
   refine wp_ret ?_
   refine zah ?_
   refine zag ?_ (zaq (rs:=[.cell 4 38,.tmp 5]) rfl hst (.cell (zm 1 rfl) zat (.tmp (zm 1 rfl) .nil)) zd)
   rw [poO,if_pos hy,if_neg hm]; exact zb2
  ·have hm:maO x=0:=by simpa using hb1
   obtain ⟨k,rfl⟩:∃ k:Nat,x=(k:Int):=⟨x.toNat,by have:=maO_0 hm; omega⟩
   have hk4:k≤4096:=by have:=maO_0 hm; omega
   refine wp_skip ?_
   refine zt<|gl (sts:=[none,none]) (news:=[⟨7,38,ptrH,some 3,_,some (4,_)⟩]) (sp:=[.val 18 _,.val 19 _,.val 20 _,.alc 2,.sto 2]) [.g 1] hst (zv rfl (zab (lz0 0 rfl) zat) (zv rfl (za2 (gq 0 rfl)) (zv rfl (za5 (xs:=[.tmp 18,.tmp 19]) (rowPower_q hk4) (.cons (vq 0 rfl) (.cons (vq 1 rfl) .nil))) (oc (zao rfl rfl rfl (Str.zero zai)) (oc (zad rfl rfl rfl (vq 2 rfl) zat (Eq.trans (b:=16) rfl rfl)) o0))))) (fun a w hst=>?_)
   have hst:St B w0 33 [(5,_)] [⟨2,38,ptrH,_⟩,⟨4,38,ptrH,_⟩,⟨7,38,ptrH,_⟩] a w:=hst
   refine zt ?_
   refine wp_seq ?_
   refine gl (sts:=[none,none,none]) (news:=[]) (sp:=[.adr 21 7 (.some 0) True,.val 22 _,.adr 23 7 (.some 4) True,.val 24 _,.adr 25 7 (.some 8) True,.val 26 _,.adr 27 7 (.some 12) True,.val 28 _,.val 29 _,.val 30 _]) [.g 0,.o 9] hst (oc (ob_a rfl rfl (za7 (lz0 2 rfl) zbc)) (zv rfl (za4 0 rfl zk trivial (lz0 2 rfl) (Sub.part 0 rfl rfl) za9) (oc (ob_a rfl rfl (za7 (lz0 2 rfl) zbi)) (zv rfl (za4 2 rfl zk trivial (lz0 2 rfl) (Sub.part 1 rfl rfl) za9) (oc (ob_a rfl rfl (za7 (lz0 2 rfl) zbh)) (zv rfl (za4 4 rfl zk trivial (lz0 2 rfl) (Sub.part 2 rfl rfl) za9) (oc (ob_a rfl rfl (za7 (lz0 2 rfl) zbf)) (zv rfl (za4 6 rfl zk trivial (lz0 2 rfl) (Sub.part 3 rfl rfl) za9) (zv rfl (zc5 (D:=[U32]) (l:=[_,_,_,_]) (xs:=[.tmp 22,.tmp 24,.tmp 26,.tmp 28]) (zdh zk) zcz zk (n_ok zk) nq nq nq (.cons (vq 1 rfl) (.cons (vq 3 rfl) (.cons (vq 5 rfl) (.cons (vq 7 rfl) .nil)))) rfl rfl) (zv rfl (za5 (xs:=[.tmp 29]) (long_q [(powQ (toM m) k).a,(powQ (toM m) k).b,(powQ (toM m) k).c,(powQ (toM m) k).d] (.cons ⟨_,rfl⟩ (.cons ⟨_,rfl⟩ (.cons ⟨_,rfl⟩ (.cons ⟨_,rfl⟩ .nil)))) nq) (.cons (vq 8 rfl) .nil)) o0)))))))))) (fun a w hst=>?_)
   have hst:St B w0 33 [(5,_),(30,_)] [⟨2,38,ptrH,_⟩,⟨4,38,ptrH,_⟩,⟨7,38,ptrH,_⟩] a w:=hst
   refine za0 ?_
   refine zaa hst (zm 1 rfl) (fun hb2=>?_) (fun hb2=>?_)
   ·refine wp_seq ?_
    refine gl (sts:=[none,some (1,_),none]) (news:=[]) (sp:=[.val 31 _,.sto 1,.val 5 _]) [.o 2] hst (zv rfl (zbd (xs:=[]) (qs:=[]) zai .nil) (oc (zad rfl rfl rfl (vq 0 rfl) zat (Eq.trans (b:=16) rfl rfl)) (zv rfl (za1 za3) o0))) (fun a w hst=>?_)
    have hst:St B w0 33 [(5,_)] [⟨2,38,ptrH,_⟩,⟨4,38,ptrH,_⟩,⟨7,38,ptrH,_⟩] a w:=hst
    refine za0 ?_
    refine wp_ret ?_
    refine zah ?_
    refine zag ?_ (zaq (rs:=[.cell 4 38,.tmp 5]) rfl hst (.cell (zm 1 rfl) zat (.tmp (zm 0 rfl) .nil)) zd)
    rw [poO,if_pos hy,if_pos hm,Int.toNat_natCast,po_lo hb2]; exact zb2
   ·refine wp_skip ?_
    refine zt<|gl (sts:=[none,some (1,_),none]) (news:=[]) (sp:=[.val 32 _,.sto 1,.val 5 _]) [.o 2] hst (zv rfl (zab (lz0 2 rfl) zat) (oc (zad rfl rfl rfl (vq 0 rfl) zat (Eq.trans (b:=16) rfl rfl)) (zv rfl (za1 za3) o0))) (fun a w hst=>?_)
    have hst:St B w0 33 [(5,_)] [⟨2,38,ptrH,_⟩,⟨4,38,ptrH,_⟩,⟨7,38,ptrH,_⟩] a w:=hst
    refine za0 ?_
    refine wp_ret ?_
    refine zag ?_ (zaq (rs:=[.cell 4 38,.tmp 5]) rfl hst (.cell (zm 1 rfl) zat (.tmp (zm 0 rfl) .nil)) zd)
    rw [poO,if_pos hy,if_pos hm,Int.toNat_natCast,po_ok hb2]; exact tu2w qmA.va zb2
theorem pow_one' (m:MQ):powQ m 1=m:=one_mul' m
theorem okM_all {m:MQ}(hl:[m.a,m.b,m.c,m.d].any longQ=false)(h:detM m=1):okM (rmOf m)=true:=by
 simp only [List.any_cons,List.any_nil,Bool.or_false,Bool.or_eq_false_iff] at hl
 exact okM_of hl.1 hl.2.1 hl.2.2.1 hl.2.2.2 h
end Go.Proofs.YtagabklfjmchaaaGreat
