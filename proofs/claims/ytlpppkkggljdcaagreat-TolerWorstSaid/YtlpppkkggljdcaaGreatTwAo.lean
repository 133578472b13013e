import Derived.Test.YtlpppkkggljdcaaGreatTwAa
import Derived.Test.YtlpppkkggljdcaaGreatTwAc
import Derived.Test.YtlpppkkggljdcaaGreatTwAn
import Derived.Laws.AppendOwn
import Derived.Orders
import Derived.Laws.OwnMore
import Derived.ProofKit
import Derived.OpenShut
import Derived.ChangeOld
import Derived.Below
set_option linter.unusedVariables false
set_option linter.unusedSimpArgs false
set_option linter.unusedSectionVars false
set_option maxRecDepth 100000
namespace Go.Proofs.YtlpppkkggljdcaaGreat
open Go Go.RowKit
section
variable {P:Program} {R:Rg} {Q:Exit→Act→World→Prop} {B i:Nat} {w0:Bs}
theorem zil {g:Nat}:offP (ptrH.f g) (.some 0)=ptrH.f g:=by simp [ptrH,ptr,offP,add0]
theorem zg0 {b T':Nat}{A:As}(hl:Loc R i b T' A):Ad P Q R B w0 i (.move (.tmp b)) b (.some 0):=by
 intro d ty ps af gd a w av K hK
 obtain ⟨g,cs,h1,_⟩:=hl.ok av
 rw [h1,zil] at hK
 exact zbq (w':=w) (v:=a.eval (.tmp b)) rfl (by rw [h1]; exact hK)
theorem zi6 {b t T':Nat}{A:As}(j:Nat)(hj:R.sp[j]?=some (.adr t b (.some 0) True))(hji:(R.anc i).contains j=true)(hl:Loc R i b T' A):Ad P Q R B w0 i (.nilCheck (.tmp t)) b (.some 0):=by
 intro d ty ps af gd a w av K hK
 obtain ⟨g,cs,h1,_⟩:=hl.ok av
 have h2:=av.d j t b (.some 0) True hji hj trivial
 rw [h1,zil] at h2 hK
 have h2':a.eval (.tmp t)=.pointer (some ⟨g,0,none⟩):=h2
 exact zbq (w':=w) (v:=.pointer (some ⟨g,0,none⟩)) (by simp [execOp,h2']) hK
theorem arw0 {s t T':Nat}{A:As}(j:Nat)(hj:R.sp[j]?=some (.adr t s (.some 0) True))(hji:(R.anc i).contains j=true)(hl:Loc R i s T' A):ArH R B w0 i s ptrH (.w ptrH) (.tmp t):=⟨rfl,fun a w av=>by
 obtain ⟨g,cs,h1,_⟩:=hl.ok av
 have h2:=av.d j t s (.some 0) True hji hj trivial
 rw [h1,zil] at h2
 rw [h1]
 exact h2⟩
theorem zei {fn:Func}{RQ':Ending→World→Prop}{a:Act}{w:World}(h:bPost P fn RQ' .ret a w):bPost P fn RQ' .normal a w:=h
theorem nil_sl {E:TypeId}{D:List TypeId}:Wk (EqV (.slice none 0 0)) (SlA E D []).va:=fun _ v _ h=>by
 have e:v=.slice none 0 0:=h
 subst e
 exact ⟨[.slice none 0 0],⟨(fun A hA=>by cases hA),none,0,[],rfl,Nat.le_refl _,Nat.zero_le _,⟨[],rfl,.nil⟩,fun h=>by cases h⟩,rfl⟩
theorem elp_wk {E:TypeId}{A A':As}(h:WkA A A'):Wk (ElP E A) (ElP E A'):=fun _ _ _ ⟨b,o,cs,h1,h2,h3,h4,h5⟩=>⟨b,o,cs,h1,h2,h3,h.2.2 _ _ _ h4,h5⟩
theorem zjv {b k m:Nat}{T E:TypeId}{l:List As}{y:Operand}{A:As}{kd:IntKind}(hl:Loc R i b T (cat l))(hS:P.underlying T=some (.array l.length E))(hsz:(P.info? E).map (·.size)=some m)(hm:∀ A∈l,A.n=m)(hy:Has R B w0 i y (NumA kd k).va)(hk:l[k]?=some A) :
  Wv P Q R B w0 i (.indexAddr T (.tmp b) y) (ElP T A) :=
 zb8 fun d T' ps af gd a w av=>by
  obtain ⟨g,cs,h1,hmay,h3,h4⟩:=hl.ok av
  have h1':a.eval (.tmp b)=.pointer (some ⟨g,0,none⟩):=h1
  have hlt:k<l.length:=(List.getElem?_eq_some_iff.1 hk).1
  obtain ⟨p1,l1⟩:=zfx h4 hk
  have ho:=zgp hm (k:=k) zo
  unfold offs at ho
  rw [ho] at p1 l1
  refine ⟨.pointer (some ⟨g,k*m,none⟩),w,?_,Grow.refl w,g,k*m,_,rfl,(Array.getElem?_eq_some_iff.1 h3).1,.inr ⟨_,_,h3⟩,p1,fun j u hu=>?_⟩
  ·cases hi:P.info? E with
   | none=>rw [hi] at hsz; simp at hsz
   | some it =>
    rw [hi] at hsz
    have hs2:it.size=m:=by simpa using hsz
    have e:=zba (hy a w av)
    simp [execOp,h1',e,Instr.indexAt,asIntOf,run_underlying hS,sizeOf,typeInfo,hi,hs2,add_k,hlt,Instr.sureAddr]
  ·rw [List.getElem?_take] at hu
   split at hu
   ·rw [List.getElem?_drop] at hu
    rw [cell_of_row w g (k*m+j) cs.toArray T _ h3]
    simpa using hu
   ·cases hu
theorem zi2 {f g:Nat→Option (Nat × Nat)}:∀ (ps:List (Nat × Value)) (cells:Array Value),(∀ p∈ps,f p.1=g p.1)→Instr.fill f cells ps=Instr.fill g cells ps
 | [],_,_=>rfl
 | (k,v)::ps,cells,h=>by
  have h1:=h (k,v) (by simp)
  have h2:=fun c=>zi2 ps c fun p hp=>h p (by simp [hp])
  simp only [Instr.fill]
  simp only at h1
  rw [h1]
  cases g k with
  | none=>rfl
  | some x=>simp only [h2]
def Arr (P:Program)(T:TypeId)(Z:List As):Prop :=
 ∃ it z n E ie,P.info? T=some it∧it.zero=some z∧P.underlying T=some (.array n E)∧P.info? E=some ie∧(∀ f,f<Z.length→some (f*ie.size,ie.size)=(placesOf Z)[f]?)∧∀ B w,(cat Z).p B z.cells.toList w
theorem Arr.zero {T:TypeId}{Z:List As}(h:Arr P T Z):Zero P T (cat Z):=by
 obtain ⟨it,z,_,_,_,h1,h2,_,_,_,h3⟩:=h
 exact ⟨it,z,h1,h2,h3⟩
theorem all2_right {α β:Type}{R':α→β→Prop}{qs:List α}{ps:List β}(h:All2 R' qs ps){p:β}(hp:p∈ps):∃ q,R' q p:=by
 induction h with
 | nil=>cases hp
 | cons hh _ ih =>
  rcases List.mem_cons.1 hp with rfl | hp'
  ·exact ⟨_,hh⟩
  ·exact ih hp'
theorem zdy {T:TypeId}{Z:List As}{xs:List (Nat × Operand)}{qs:List (Nat × As)}(hT:Arr P T Z)(hx:All2 (fun (q:Nat × As) (x:Nat × Operand)=>x.1=q.1∧Has R B w0 i x.2 q.2.va∧(Z[q.1]?).map (·.n)=some q.2.n) qs xs) :
  Wv P Q R B w0 i (.build T xs.toArray) (cat (setAll Z qs)).va :=
 zb8 fun d T' ps af gd a w av=>by
  obtain ⟨it,z,n,E,ie,h1,h2,h3,h4,h6,h5⟩:=hT
  have hps:All2 (fun (q:Nat × As) (p:Nat × Value)=>p.1=q.1∧q.2.va.p B p.2 w∧(Z[q.1]?).map (·.n)=some q.2.n) qs (xs.map fun x=>(x.1,a.eval x.2)):=by
   induction hx with
   | nil=>exact .nil
   | cons h _ ih=>exact .cons ⟨h.1,h.2.1 a w av,h.2.2⟩ ih
  obtain ⟨cells',e1,e2⟩:=zj0 (places:=placesOf Z) rfl (xs.map fun x=>(x.1,a.eval x.2)) qs Z z.cells rfl (h5 B w) hps
  refine ⟨.agg cells',w,?_,Grow.refl w,cells'.toList,e2,by simp [shape,cat]⟩
  have hin:∀ p∈(xs.map fun x=>(x.1,a.eval x.2)),some (p.1*ie.size,ie.size)=((placesOf Z).toArray[p.1]?:Option (Nat × Nat)):=by
   intro p hp
   have:p.1<Z.length:=by
    obtain ⟨q,hh⟩:=all2_right hps hp
    rw [hh.1]
    cases hz:Z[q.1]? with
    | none=>rw [hz] at hh; simp at hh
    | some y=>exact (List.getElem?_eq_some_iff.1 hz).1
   simpa using h6 p.1 this
  have hb:P.built T (xs.map fun x=>(x.1,a.eval x.2))=some cells':=by
   unfold Program.built
   simp only [h1,h3,h2,h4]
   rw [← e1]
   exact zi2 _ _ hin
  have:=run_build (P:=P) w T ((xs.map fun x=>(x.1,a.eval x.2)).toArray) cells' (by simpa using hb)
  simp [execOp,this]
end
end Go.Proofs.YtlpppkkggljdcaaGreat
namespace Go.Proofs.YtlpppkkggljdcaaGreat
open Go Go.RowKit
theorem str_keeper:Str Tryz.prog 98 [NumA .i64 0] :=
 Str.of (z:=.agg #[.int .i64 0]) zk Tryz.underlying98 zk fun _ _=>⟨[[.int .i64 0]],rfl,.cons rfl .nil⟩
abbrev KA (e:Int):As:=cat [NumA .i64 e]
def kM (e:Int)(m:RM):Int:=if e=0 then (if okM m then 0 else 1) else e
def ansE (e:Int)(qs:List Rat):Int:=if e=0 then (if qs.any longQ then 4 else 0) else e
theorem kM_y {e:Int}{m:RM}(h:(e==0)=true):(if okM m then (0:Int) else 1)=kM e m:=(if_pos (show e=0 by simpa using h)).symm
theorem kM_n {e:Int}{m:RM}(h:(e==0)=false):e=kM e m:=(if_neg (show ¬ e=0 by simpa using h)).symm
theorem an_no {e:Int}{qs:List Rat}(h:(e != 0)=true):e=ansE e qs∧ansE e qs≠0:=by
 have h':e≠0:=by simpa using h
 rw [ansE,if_neg h']
 exact ⟨rfl,h'⟩
theorem an_lo {e:Int}{qs:List Rat}(h0:(e != 0)=false):(if qs.any longQ then (4:Int) else 0)=ansE e qs:=by
 have h':e=0:=by simpa using h0
 rw [ansE,if_pos h']
abbrev FnL (c:Prop)(L:List As):VA:=FnV Tryz.prog [56,999999,130] (fun _:PLift c=>[]) (fun _=>(SlA 37 [U32] L).va)
theorem kmatrix_c (e:Int)(m:RM):Cm Tryz.prog 57 98 (KA e) (KA (kM e m)) [.w (ptrH),.v ((RMA m).va)] (Tu []):=by
 refine Cm.intro Tryz.func57 rfl zk nq (fun B g w0 a hst=>?_)
 have hst:St B w0 14 [(0,EqV ((ptrH).f g)),(1,(RMA m).va)] [⟨0,98,ptrH,KA e⟩] a w0.w:=hst
 refine wp_seq ?_
 refine gl (sts:=[none]) (news:=[⟨3,56,ptrH,some 0,_,none⟩]) (sp:=[.alc 1]) [.g 0] hst (oc (zam rfl rfl rfl (gq 1 rfl)) o0) (fun a w hst=>?_)
 have hst:St B w0 14 [(0,_)] [⟨0,98,ptrH,_⟩,⟨3,56,ptrH,_⟩] a w:=hst
 refine zt<|gl (sts:=[none,none]) (news:=[]) (sp:=[.adr 4 0 (.some 0) True,.adr 5 0 (.some 0) True,.adr 6 0 (.some (0+0)) True,.val 7 _,.val 8 _]) [.g 0,.o 4] hst (oc (ob_a rfl rfl (zg0 (lz0 0 rfl))) (oc (ob_a rfl rfl (zi6 0 rfl zk (lz0 0 rfl))) (oc (ob_a rfl rfl (zfb 1 rfl zk trivial (lz0 0 rfl) zf0)) (zv rfl (za4 2 rfl zk trivial (lz0 0 rfl) (Sub.part 0 rfl rfl) zgn) (zv rfl (zcq (vq 3 rfl) za3) o0))))) (fun a w hst=>?_)
 have hst:St B w0 14 [(0,_),(8,_)] [⟨0,98,ptrH,_⟩,⟨3,56,ptrH,_⟩] a w:=hst
 refine za0 ?_
 refine zac hst (zm 1 rfl) (fun hb0=>?_) (fun hb0=>?_)
 ·refine gl (sts:=[some (5,_),none]) (news:=[]) (sp:=[.adr 9 0 (.some 0) True,.val 10 _,.val 11 _,.adr 12 0 (.some 0) True,.adr 13 0 (.some (0+0)) True,.sto 0]) [.g 0] hst (oc (ob_a rfl rfl (zg0 (lz0 0 rfl))) (zv rfl (zad (lz0 1 rfl) zbk) (zv rfl (za5 (xs:=[.tmp 10]) (rayCheck_c _) (.cons (vq 1 rfl) .nil)) (oc (ob_a rfl rfl (zi6 0 rfl zk (lz0 0 rfl))) (oc (ob_a rfl rfl (zfb 3 rfl zk trivial (lz0 0 rfl) zf0)) (oc (zdz 4 rfl rfl rfl rfl zk (vq 2 rfl) zgn (Put.part 0 rfl rfl rfl)) o0)))))) (fun a w hst=>?_)
  have hst:St B w0 14 [(0,_)] [⟨0,98,ptrH,_⟩,⟨3,56,ptrH,_⟩] a w:=hst
  refine zei ?_
  have hst:=St.cvA (A':=KA (kM e m)) hst 0 rfl (congrArg KA (kM_y hb0))
  refine zig hst (zm 0 rfl) (zm 0 rfl) ?_
  refine zae ?_ (zaw (rs:=[]) rfl hst .nil zd)
  exact zay
 ·refine wp_skip ?_
  refine zei ?_
  have hst:=St.cvA (A':=KA (kM e m)) hst 0 rfl (congrArg KA (kM_n hb0))
  refine zig hst (zm 0 rfl) (zm 0 rfl) ?_
  refine zae ?_ (zaw (rs:=[]) rfl hst .nil zd)
  exact zay
theorem kanswer_c (e:Int)(L:List As)(qs:List Rat)(hL:All2 IsQ L qs)(hl:qs.length≤1099511627776):Cm Tryz.prog 96 98 (KA e) (KA (ansE e qs)) [.w (ptrH),.v (FnL (e=0) L)] ((SlA 37 [U32] (if ansE e qs=0 then L else [])).va):=by
 refine Cm.intro Tryz.func96 rfl zk nq (fun B g w0 a hst=>?_)
 have hst:St B w0 24 [(0,EqV ((ptrH).f g)),(1,FnL (e=0) L)] [⟨0,98,ptrH,KA e⟩] a w0.w:=hst
 refine wp_seq ?_
 refine gl (sts:=[none]) (news:=[]) (sp:=[.val 4 _]) [.g 0,.g 1,.o 0] hst (zv rfl (za1 zbg) o0) (fun a w hst=>?_)
 have hst:St B w0 24 [(0,_),(1,_),(4,_)] [⟨0,98,ptrH,_⟩] a w:=hst
 refine zt ?_
 refine wp_seq ?_
 refine gl (sts:=[none]) (news:=[]) (sp:=[.adr 6 0 (.some 0) True,.adr 7 0 (.some 0) True,.adr 8 0 (.some (0+0)) True,.val 9 _,.val 10 _]) [.g 0,.g 1,.g 2,.o 4] hst (oc (ob_a rfl rfl (zg0 (lz0 0 rfl))) (oc (ob_a rfl rfl (zi6 0 rfl zk (lz0 0 rfl))) (oc (ob_a rfl rfl (zfb 1 rfl zk trivial (lz0 0 rfl) zf0)) (zv rfl (za4 2 rfl zk trivial (lz0 0 rfl) (Sub.part 0 rfl rfl) zgn) (zv rfl (zca (vq 3 rfl) za3) o0))))) (fun a w hst=>?_)
 have hst:St B w0 24 [(0,_),(1,_),(4,_),(10,_)] [⟨0,98,ptrH,_⟩] a w:=hst
 refine za0 ?_
 refine zac hst (zm 3 rfl) (fun hb0=>?_) (fun hb0=>?_)
 ·refine wp_seq ?_
  refine gl (sts:=[none]) (news:=[]) (sp:=[.val 4 _]) [.g 0,.g 1,.o 0] hst (zv rfl (za1 zbg) o0) (fun a w hst=>?_)
  have hst:St B w0 24 [(0,_),(1,_),(4,_)] [⟨0,98,ptrH,_⟩] a w:=hst
  refine za0 ?_
  refine wp_ret ?_
  refine zaj ?_
  have hst:=St.cvA (A':=KA (ansE e qs)) hst 0 rfl (congrArg KA (an_no hb0).1)
  refine zig hst (zm 0 rfl) (zm 0 rfl) ?_
  refine zae ?_ (zah rfl hst (zm 2 rfl))
  rw [if_neg (an_no hb0).2]; exact nil_sl
 ·have h0:e=0:=by simpa using hb0
  refine wp_skip ?_
  refine zt<|gl (sts:=[none]) (news:=[]) (sp:=[.val 11 _,.val 12 _,.val 5 _]) [.g 0,.g 2,.o 2] hst (zv rfl (za2 (gq 1 rfl)) (zv rfl (zh7 (xs:=[]) ⟨h0⟩ (vq 0 rfl) .nil) (zv rfl (za1 (vq 1 rfl)) o0))) (fun a w hst=>?_)
  have hst:St B w0 24 [(0,_),(4,_),(5,_)] [⟨0,98,ptrH,_⟩] a w:=hst
  refine zt ?_
  refine wp_seq ?_
  refine gl (sts:=[some (5,_)]) (news:=[]) (sp:=[.adr 13 0 (.some 0) True,.val 14 _,.val 15 _,.adr 16 0 (.some 0) True,.adr 17 0 (.some (0+0)) True,.sto 0]) [.g 0,.g 1,.g 2] hst (oc (ob_a rfl rfl (zg0 (lz0 0 rfl))) (zv rfl (za2 (gq 2 rfl)) (zv rfl (za5 (xs:=[.tmp 14]) (zgv qs hL hl) (.cons (vq 1 rfl) .nil)) (oc (ob_a rfl rfl (zi6 0 rfl zk (lz0 0 rfl))) (oc (ob_a rfl rfl (zfb 3 rfl zk trivial (lz0 0 rfl) zf0)) (oc (zdz 4 rfl rfl rfl rfl zk (vq 2 rfl) zgn (Put.part 0 rfl rfl rfl)) o0)))))) (fun a w hst=>?_)
  have hst:St B w0 24 [(0,_),(4,_),(5,_)] [⟨0,98,ptrH,_⟩] a w:=hst
  refine zt<|gl (sts:=[none]) (news:=[]) (sp:=[.adr 18 0 (.some 0) True,.adr 19 0 (.some 0) True,.adr 20 0 (.some (0+0)) True,.val 21 _,.val 22 _]) [.g 0,.g 1,.g 2,.o 4] hst (oc (ob_a rfl rfl (zg0 (lz0 0 rfl))) (oc (ob_a rfl rfl (zi6 0 rfl zk (lz0 0 rfl))) (oc (ob_a rfl rfl (zfb 1 rfl zk trivial (lz0 0 rfl) zf0)) (zv rfl (za4 2 rfl zk trivial (lz0 0 rfl) (Sub.part 0 rfl rfl) zgn) (zv rfl (zca (vq 3 rfl) za3) o0))))) (fun a w hst=>?_)
  have hst:St B w0 24 [(0,_),(4,_),(5,_),(22,_)] [⟨0,98,ptrH,_⟩] a w:=hst
  refine za0 ?_
  refine zac hst (zm 3 rfl) (fun hb1=>?_) (fun hb1=>?_)
  ·refine wp_seq ?_
   refine gl (sts:=[none]) (news:=[]) (sp:=[.val 4 _]) [.g 0,.g 2,.o 0] hst (zv rfl (za1 zbg) o0) (fun a w hst=>?_)
   have hst:St B w0 24 [(0,_),(5,_),(4,_)] [⟨0,98,ptrH,_⟩] a w:=hst
   refine za0 ?_
   refine wp_ret ?_
   refine zaj ?_
   have hst:=St.cvA (A':=KA (ansE e qs)) hst 0 rfl (congrArg KA (an_lo hb0))
   refine zig hst (zm 0 rfl) (zm 0 rfl) ?_
   refine zae ?_ (zah rfl hst (zm 2 rfl))
   rw [if_neg (by rw [← an_lo hb0]; simpa using hb1)]; exact nil_sl
  ·refine wp_skip ?_
   refine zt<|gl (sts:=[none]) (news:=[]) (sp:=[.val 23 _,.val 4 _]) [.g 0,.o 1] hst (zv rfl (za2 (gq 2 rfl)) (zv rfl (za1 (vq 0 rfl)) o0)) (fun a w hst=>?_)
   have hst:St B w0 24 [(0,_),(4,_)] [⟨0,98,ptrH,_⟩] a w:=hst
   refine za0 ?_
   refine wp_ret ?_
   have hst:=St.cvA (A':=KA (ansE e qs)) hst 0 rfl (congrArg KA (an_lo hb0))
   refine zig hst (zm 0 rfl) (zm 0 rfl) ?_
   refine zae ?_ (zah rfl hst (zm 1 rfl))
   rw [if_pos (by rw [← an_lo hb0]; simpa using hb1)]; exact zay
def asM (e:Int)(m:MQ):RM × Int:=if e=0 then (if [m.a,m.b,m.c,m.d].any longQ then (rm0,4) else (rmOf m,0)) else (rm0,e)
def asF (e:Int)(q:Rat):RF × Int:=if e=0 then ansF q else (rf0,e)
abbrev MR (r:RM × Int):VA:=Tu [(RMA r.1).va,In r.2]
theorem asF_no {e:Int}{q:Rat}(h:ansE e [q]≠0):asF e q=(rf0,ansE e [q]):=by
 unfold ansE at *
 unfold asF ansF
 rw [zfp] at *
 by_cases he:e=0
 ·rw [if_pos he] at h ⊢
  rw [if_pos he]
  cases hl:longQ q with
  | true=>rfl
  | false=>rw [hl] at h; exact absurd rfl h
 ·rw [if_neg he,if_neg he]
theorem asF_yes {e:Int}{q:Rat}(h:ansE e [q]=0):asF e q=(rfOf q,0):=by
 unfold ansE at *
 unfold asF ansF
 rw [zfp] at *
 by_cases he:e=0
 ·rw [if_pos he] at h ⊢
  cases hl:longQ q with
  | true=>rw [hl] at h; exact absurd h zd
  | false=>rfl
 ·rw [if_neg he] at h; exact absurd h he
theorem short_no {c:Prop}[Decidable c]{L:List As}{n:Int}(h:decide ((((if c then L else []).length:Nat):Int)<n)=true)(hn:n≤L.length):¬ c:=fun hc=>by
 rw [if_pos hc] at h
 have:=of_decide_eq_true h
 omega
theorem short_yes {c:Prop}[Decidable c]{L:List As}{n:Int}(h:decide ((((if c then L else []).length:Nat):Int)<n)=false)(hn:0<n):c:=Decidable.byContradiction fun hc=>by
 rw [if_neg hc] at h
 have:=of_decide_eq_false h
 simp at this
 omega
theorem kasFrac_c (e:Int)(k:Nat)(q:Rat):Cm Tryz.prog 58 98 (KA e) (KA (ansE e [q])) [.w (ptrH),.v (FnL (e=0) [QA k q])] (FrR (asF e q)):=by
 refine Cm.intro Tryz.func58 rfl zk nq (fun B g w0 a hst=>?_)
 have hst:St B w0 21 [(0,EqV ((ptrH).f g)),(1,FnL (e=0) [QA k q])] [⟨0,98,ptrH,KA e⟩] a w0.w:=hst
 refine wp_seq ?_
 refine gl (sts:=[none]) (news:=[⟨4,37,ptrH,some 0,_,none⟩]) (sp:=[.alc 1,.val 5 _]) [.g 0,.g 1,.o 1] hst (oc (zag rfl rfl rfl (Str.zero zaq)) (zv rfl (za1 za3) o0)) (fun a w hst=>?_)
 have hst:St B w0 21 [(0,_),(1,_),(5,_)] [⟨0,98,ptrH,_⟩,⟨4,37,ptrH,_⟩] a w:=hst
 refine zt<|gl (sts:=[some (2,_),none]) (news:=[]) (sp:=[.adr 7 0 (.some 0) True,.val 8 _,.cal 9 _ 0,.val 6 _]) [.g 0,.g 2,.o 3] hst (oc (ob_a rfl rfl (zg0 (lz0 0 rfl))) (zv rfl (za2 (gq 1 rfl)) (oc (ob_cal (xs:=[.tmp 7,.tmp 8]) rfl rfl rfl (kanswer_c e [QA k q] [q] (.cons ⟨_,rfl⟩ .nil) nq) (.cons (arw0 0 rfl zk (lz0 0 rfl)) (.cons (vq 1 rfl) .nil))) (zv rfl (za1 (zkz 2 rfl zk zk)) o0)))) (fun a w hst=>?_)
 have hst:St B w0 21 [(0,_),(5,_),(6,_)] [⟨0,98,ptrH,_⟩,⟨4,37,ptrH,_⟩] a w:=hst
 refine zt ?_
 refine wp_seq ?_
 refine gl (sts:=[none,none]) (news:=[]) (sp:=[.val 10 _,.val 11 _,.val 12 _]) [.g 0,.g 1,.g 2,.o 2] hst (zv rfl (za2 (gq 2 rfl)) (zv rfl (zdt Tryz.underlying101 (vq 0 rfl)) (zv rfl (zby (vq 1 rfl) za3) o0))) (fun a w hst=>?_)
 have hst:St B w0 21 [(0,_),(5,_),(6,_),(12,_)] [⟨0,98,ptrH,_⟩,⟨4,37,ptrH,_⟩] a w:=hst
 refine za0 ?_
 refine zac hst (zm 3 rfl) (fun hb0=>?_) (fun hb0=>?_)
 ·have hst:=St.sel hst [0,1,3]
  have hE:=short_no hb0 (by simp)
  refine wp_seq ?_
  refine zau (anc:=[[],[],[1],[1,2],[1,2,3],[0],[0,1,2,3,4,5]]) (sts:=[none,some (5,_)]) (news:=[]) (sp:=[.val 13 _,.adr 14 0 (.some 0) True,.adr 15 0 (.some 0) True,.adr 16 0 (.some (0+0)) True,.val 17 _,.sto 1,.val 5 _]) [.g 0,.o 6] za6 hst (zv rfl (zb3 (xs:=[]) (qs:=[]) zaq .nil) (oc (ob_a rfl rfl (zg0 (lz0 0 rfl))) (oc (ob_a rfl rfl (zi6 1 rfl zk (lz0 0 rfl))) (oc (ob_a rfl rfl (zfb 2 rfl zk trivial (lz0 0 rfl) zf0)) (zv rfl (za4 3 rfl zk trivial (lz0 0 rfl) (Sub.part 0 rfl rfl) zgn) (oc (za8 rfl rfl rfl (vq 0 rfl) za7 (Eq.trans (b:=4) rfl rfl)) (zv rfl (za1 (vq 4 rfl)) o0))))))) zk zk zk zk (fun a w hst=>?_)
  have hst:St B w0 21 [(0,_),(5,_)] [⟨0,98,ptrH,_⟩,⟨4,37,ptrH,_⟩] a w:=hst
  refine za0 ?_
  refine wp_ret ?_
  refine zaj ?_
  refine zig hst (zm 0 rfl) (zm 0 rfl) ?_
  refine zae ?_ (zaw (rs:=[.cell 4 37,.tmp 5]) rfl hst (.cell (zm 1 rfl) za7 (.tmp (zm 1 rfl) .nil)) zd)
  rw [asF_no hE]; exact zay
 ·have hE:=short_yes hb0 zd
  have hst:=St.cvG (A':=(SlA 37 [U32] [QA k q]).va) hst 2 rfl (by rw [if_pos hE])
  refine wp_skip ?_
  refine zt<|gl (sts:=[none,some (3,_)]) (news:=[]) (sp:=[.val 18 _,.val 19 _,.val 20 _,.sto 1,.val 5 _]) [.g 0,.o 4] hst (zv rfl (za2 (gq 2 rfl)) (zv rfl (zdg zdc (n_ok zk) (vq 0 rfl) (zb0 0 rfl) rfl) (zv rfl (zas (vq 1 rfl) za7) (oc (za8 rfl rfl rfl (vq 2 rfl) za7 (Eq.trans (b:=4) rfl rfl)) (zv rfl (za1 za3) o0))))) (fun a w hst=>?_)
  have hst:St B w0 21 [(0,_),(5,_)] [⟨0,98,ptrH,_⟩,⟨4,37,ptrH,_⟩] a w:=hst
  refine za0 ?_
  refine wp_ret ?_
  refine zig hst (zm 0 rfl) (zm 0 rfl) ?_
  refine zae ?_ (zaw (rs:=[.cell 4 37,.tmp 5]) rfl hst (.cell (zm 1 rfl) za7 (.tmp (zm 1 rfl) .nil)) zd)
  rw [asF_yes hE]; exact tu2w qaA.va zay
def mirQ (m:MQ):MQ:=⟨m.d,m.b,m.c,m.a⟩
def trF (m:RM):RF × Int:=asF (kM 0 m) ((toM m).a+(toM m).d)
theorem kM_0 {e:Int}{m:RM}(h:kM e m=0):okM m=true∧e=0:=by
 unfold kM at h
 by_cases he:e=0
 ·rw [if_pos he] at h
  cases hm:okM m with
  | true=>exact ⟨rfl,he⟩
  | false=>rw [hm] at h; simp at h
 ·rw [if_neg he] at h; exact absurd h he
theorem trace1_c (m:MQ):Cn Tryz.prog 59 [(ElP 56 (QMA 2048 m))] ((SlA 37 [U32] [QA 4097 (m.a+m.d)]).va):=by
 refine Cn.intro Tryz.func59 rfl zk nq (fun B w0 a hst=>?_)
 have hst:St B w0 8 [(0,(ElP 56 (QMA 2048 m)))] [] a w0.w:=hst
 refine wp_seq ?_
 refine gl (sts:=[]) (news:=[]) (sp:=[.val 1 _]) [.g 0,.o 0] hst (zv rfl (za1 zbg) o0) (fun a w hst=>?_)
 have hst:St B w0 8 [(0,_),(1,_)] [] a w:=hst
 refine zt<|gl (sts:=[]) (news:=[]) (sp:=[.val 2 _,.val 3 _,.val 4 _,.val 5 _,.val 6 _,.val 7 _,.val 1 _]) [.o 6] hst (zv rfl (zbd (gq 0 rfl) zcg (Sub.part 0 rfl rfl)) (zv rfl (zas (vq 0 rfl) za7) (zv rfl (zbd (gq 0 rfl) zcd (Sub.part 3 rfl rfl)) (zv rfl (zas (vq 2 rfl) za7) (zv rfl (za5 (xs:=[.tmp 3,.tmp 5]) (plus_q zo) (.cons (vq 1 rfl) (.cons (vq 3 rfl) .nil))) (zv rfl (zc8 (D:=[U32]) (l:=[_]) (xs:=[.tmp 6]) (zdu zk) zdc zk (n_ok zk) nq nq nq (.cons (vq 4 rfl) .nil) rfl rfl) (zv rfl (za1 (vq 5 rfl)) o0))))))) (fun a w hst=>?_)
 have hst:St B w0 8 [(1,_)] [] a w:=hst
 refine za0 ?_
 refine wp_ret ?_
 refine zae ?_ (zah rfl hst (zm 0 rfl))
 exact zay
theorem trace1_x {m:RM}(h:kM 0 m=0):Cn Tryz.prog 59 [(ElP 56 (RMA m))] (SlA 37 [U32] [QA 4097 ((toM m).a+(toM m).d)]).va:=(trace1_c (toM m)).wk (.cons (elp_wk (qm_x (okM_q (kM_0 h).1).1)) .nil)
theorem trace_c (m:RM):Cn Tryz.prog 25 [(RMA m).va] (FrR (trF m)):=by
 refine Cn.intro Tryz.func25 rfl zk nq (fun B w0 a hst=>?_)
 have hst:St B w0 15 [(0,(RMA m).va)] [] a w0.w:=hst
 refine wp_seq ?_
 refine gl (sts:=[]) (news:=[⟨1,56,ptrH,some 0,_,none⟩,⟨2,37,ptrH,some 1,_,none⟩]) (sp:=[.alc 0,.alc 1,.val 3 _]) [.o 2] hst (oc (zam rfl rfl rfl (gq 0 rfl)) (oc (zag rfl rfl rfl (Str.zero zaq)) (zv rfl (za1 za3) o0))) (fun a w hst=>?_)
 have hst:St B w0 15 [(3,_)] [⟨1,56,ptrH,_⟩,⟨2,37,ptrH,_⟩] a w:=hst
 refine zt<|zdo (sts:=[none,none]) (news:=[⟨6,98,ptrH,some 1,_,none⟩]) (sp:=[.val 5 _,.alc 2,.adr 4 6 .none True]) [.g 0] [(4,6)] [⟨1,56,ptrH,_⟩,⟨2,37,ptrH,_⟩,⟨4,98,ptrH,_⟩] hst (zv rfl (zb3 (xs:=[]) (qs:=[]) str_keeper .nil) (oc (zam rfl rfl rfl (vq 0 rfl)) (oc (ob_a rfl rfl zkg) o0))) zk zk zk ⟨⟨2,rfl⟩,trivial⟩ rfl zk (fun a w hst=>?_)
 have hst:St B w0 15 [(3,_)] [⟨1,56,ptrH,_⟩,⟨2,37,ptrH,_⟩,⟨4,98,ptrH,_⟩] a w:=hst
 refine zt<|gl (sts:=[none,none,some (2,_)]) (news:=[]) (sp:=[.adr 7 4 (.some 0) True,.val 8 _,.cal 9 _ 2]) [.g 0] hst (oc (ob_a rfl rfl (zg0 (lz0 2 rfl))) (zv rfl (zad (lz0 0 rfl) zbk) (oc (ob_cal (xs:=[.tmp 7,.tmp 8]) rfl rfl rfl (kmatrix_c _ _) (.cons (arw0 0 rfl zk (lz0 2 rfl)) (.cons (vq 1 rfl) .nil))) o0))) (fun a w hst=>?_)
 have hst:St B w0 15 [(3,_)] [⟨1,56,ptrH,_⟩,⟨2,37,ptrH,_⟩,⟨4,98,ptrH,_⟩] a w:=hst
 refine zt<|gl (sts:=[none,some (5,_),some (2,_)]) (news:=[]) (sp:=[.adr 10 4 (.some 0) True,.val 11 _,.cal 12 _ 2,.val 13 _,.val 14 _,.sto 1,.val 3 _]) [.o 6] hst (oc (ob_a rfl rfl (zg0 (lz0 2 rfl))) (zv rfl (r_mkfunc (xs:=[.tmp 1]) (D:=[56,999999,130]) (pre:=fun _:PLift (kM 0 m=0)=>[]) (post:=fun _=>(SlA 37 [U32] [QA 4097 ((toM m).a+(toM m).d)]).va) (fun i=>trace1_x i.down) (nd_va rfl) (.cons (zge (lz0 0 rfl)) .nil)) (oc (ob_cal (xs:=[.tmp 10,.tmp 11]) rfl rfl rfl (kasFrac_c _ 4097 ((toM m).a+(toM m).d)) (.cons (arw0 0 rfl zk (lz0 2 rfl)) (.cons (vq 1 rfl) .nil))) (zv rfl (zee (zkz 2 rfl zk zk)) (zv rfl (zed (zkz 2 rfl zk zk)) (oc (za8 rfl rfl rfl (vq 3 rfl) za7 (Eq.trans (b:=4) rfl rfl)) (zv rfl (za1 (vq 4 rfl)) o0))))))) (fun a w hst=>?_)
 have hst:St B w0 15 [(3,_)] [⟨1,56,ptrH,_⟩,⟨2,37,ptrH,_⟩,⟨4,98,ptrH,_⟩] a w:=hst
 refine za0 ?_
 refine wp_ret ?_
 refine zae ?_ (zaw (rs:=[.cell 2 37,.tmp 3]) rfl hst (.cell (zm 1 rfl) za7 (.tmp (zm 0 rfl) .nil)) zd)
 exact zay
end Go.Proofs.YtlpppkkggljdcaaGreat
namespace Go.Proofs.YtlpppkkggljdcaaGreat
open Go Go.RowKit
section
variable {P:Program} {R:Rg} {Q:Exit→Act→World→Prop} {B:Nat} {w0:Bs} {a:Act} {w:World}
end
end Go.Proofs.YtlpppkkggljdcaaGreat
namespace Go.Proofs.YtlpppkkggljdcaaGreat
open Go Go.RowKit
def cutW (w w':World):World:={ w' with heap:=w'.heap.extract 0 w.heap.size }
theorem cut_at {w w':World}(hs:w.heap.size≤w'.heap.size){k:Nat}(hk:k<w.heap.size):(cutW w w').heap[k]?=w'.heap[k]?:=by
 show (w'.heap.extract 0 w.heap.size)[k]?=_
 rw [Array.getElem?_extract]
 simp
 omega
theorem zgu {w w':World}(hs:w.heap.size≤w'.heap.size):(cutW w w').heap.size=w.heap.size:=by
 show (w'.heap.extract 0 w.heap.size).size=_
 simp
 omega
theorem cut_wr {w w':World}{g:Nat}(h:w.grownBy w' (some g)):Wr g w (cutW w w') :=
 ⟨h.os,h.tape,h.output,zgu h.size,fun k hk=>by
  by_cases hlt:k<w.heap.size
  ·rw [cut_at h.size hlt]
   exact h.block k hlt (fun e=>hk (by injection e))
  ·rw [Array.getElem?_eq_none (by rw [zgu h.size]; omega),Array.getElem?_eq_none zo]⟩
theorem cut_grow {w w':World}{row:Option Nat}(h:w.grownBy w' row):Grow (cutW w w') w' :=
 ⟨rfl,rfl,rfl,by rw [zgu h.size]; exact h.size,fun k hk=>by
  rw [zgu h.size] at hk
  rw [cut_at h.size hk]⟩
theorem zjx {w w':World}(h:w.grownBy w' none):Grow w w':=⟨h.os,h.tape,h.output,h.size,fun k hk=>h.block k hk (by simp)⟩
def RowOk (w:World)(b:Nat)(E:TypeId)(row:Option Nat):Prop:=∀ g,row=some g→b≤g∧∃ c fz,w.heap[g]?=some (.cells c E fz)
theorem DefOk.grown {w0:Bs}{a a':Act}{w w':World}{b:Nat}{E:TypeId}{row:Option Nat}(h:DefOk w0 a w)(hg:w.grownBy w' row)(hr:RowOk w b E row)(e:a'.defers=a.defers):DefOk w0 a' w' :=
 h.keep e fun D hD=>(hg.block D (Array.getElem?_eq_some_iff.1 hD).1 (fun e=>by
  obtain ⟨_,c,fz,hc⟩:=hr D e.symm
  rw [hc] at hD
  cases hD)).trans hD
theorem VA.grown {A:VA}{B b:Nat}{v:Value}{w w':World}{E:TypeId}{row:Option Nat}(hp:A.p B v w)(hg:w.grownBy w' row)(hr:RowOk w b E row)(hb:B≤b)(hE:E ∉ A.deps):A.p B v w':=by
 cases row with
 | none=>exact A.grow _ _ _ _ (zjx hg) hp
 | some g =>
  obtain ⟨h1,c,fz,h2⟩:=hr g rfl
  exact A.grow _ _ _ _ (cut_grow hg) (A.wr _ _ _ _ _ _ _ _ h2 hE (Nat.le_trans hb h1) (cut_wr hg) hp)
theorem As.grown {A:As}{B b:Nat}{cs:List Value}{w w':World}{E:TypeId}{row:Option Nat}(hp:A.p B cs w)(hg:w.grownBy w' row)(hr:RowOk w b E row)(hb:B≤b)(hE:E ∉ A.deps):A.p B cs w':=by
 cases row with
 | none=>exact A.grow _ _ _ _ (zjx hg) hp
 | some g =>
  obtain ⟨h1,c,fz,h2⟩:=hr g rfl
  exact A.grow _ _ _ _ (cut_grow hg) (A.wr _ _ _ _ _ _ _ _ h2 hE (Nat.le_trans hb h1) (cut_wr hg) hp)
def OwnR (b:Nat)(E:TypeId)(m:Nat)(D:List TypeId)(l:List As):VA where
 p B v w:=(∀ A∈l,A.n=m)∧(∀ A∈l,∀ T∈A.deps,T∈D)∧∃ ds,(cat l).p B ds w∧w.ownsRow b E m v l.length ds
 deps:=E::D
 cg:=by
  rintro B v w w' hg ⟨h1,h2,ds,h3,h4,h5⟩
  refine ⟨h1,h2,ds,(cat l).cg _ _ _ _ hg h3,h4,?_⟩
  rcases h5 with h5 | ⟨g,cap,cur,e1,e2,e3,e4⟩
  ·exact .inl h5
  ·exact .inr ⟨g,cap,cur,e1,e2,hg.heap e3,e4⟩
 wr:=by
  rintro B v w w' g c T fz hgc hT hB hW ⟨h1,h2,ds,h3,h4,h5⟩
  simp only [List.mem_cons,not_or] at hT
  refine ⟨h1,h2,ds,(cat l).wr _ _ _ _ _ _ _ _ hgc (zke h2 hT.2) hB hW h3,h4,?_⟩
  rcases h5 with h5 | ⟨g0,cap,cur,e1,e2,e3,e4⟩
  ·exact .inl h5
  ·refine .inr ⟨g0,cap,cur,e1,e2,?_,e4⟩
   have hne:g0≠g:=by
    rintro rfl
    rw [hgc] at e3
    injection e3 with e3
    injection e3 with _ e3 _
    exact hT.1 e3
   rw [hW.block g0 hne]
   exact e3
theorem own_nil {b:Nat}{E:TypeId}{m:Nat}{D:List TypeId}:Wk (EqV (.slice none 0 0)) (OwnR b E m D []):=fun _ v w h=>by
 have e:v=.slice none 0 0:=h
 subst e
 exact ⟨(fun A hA=>by cases hA),(fun A hA=>by cases hA),[],⟨[],rfl,.nil⟩,World.ownsRow_nil w b E m⟩
theorem own_row {b:Nat}{E:TypeId}{m:Nat}{v:Value}{n:Nat}{ds:List Value}{w:World}(h:w.ownsRow b E m v n ds):RowOk w b E v.ownBlock:=by
 intro g hg
 obtain ⟨_,⟨rfl,_⟩ | ⟨g',cap,cur,rfl,e2,e3,_⟩⟩:=h
 ·cases hg
 ·have:g'=g:=by injection hg
  subst this
  exact ⟨e2,_,_,e3⟩
theorem all2_app {α β:Type}{R':α→β→Prop}{l1 l2:List α}{m1 m2:List β}(h:All2 R' l1 m1)(h':All2 R' l2 m2):All2 R' (l1++l2) (m1++m2):=by
 induction h with
 | nil=>exact h'
 | cons h1 _ ih=>exact .cons h1 ih
theorem cat_app {l l':List As}{B:Nat}{ds ds':List Value}{w:World}(h:(cat l).p B ds w)(h':(cat l').p B ds' w):(cat (l++l')).p B (ds++ds') w:=by
 obtain ⟨ps,rfl,h1⟩:=h
 obtain ⟨ps',rfl,h2⟩:=h'
 exact ⟨ps++ps',by simp,all2_app h1 h2⟩
end Go.Proofs.YtlpppkkggljdcaaGreat
namespace Go.Proofs.YtlpppkkggljdcaaGreat
open Go Go.RowKit
def VT:VA:=⟨fun _ _ _=>True,[],fun _ _ _ _ _ _=>trivial,fun _ _ _ _ _ _ _ _ _ _ _ _ _=>trivial⟩
theorem St.wkG {B N:Nat}{w0:Bs}{Γ:List (Nat × VA)}{Λ:List Lc}{a:Act}{w:World}(h:St B w0 N Γ Λ a w){s:Nat}{A A':VA}(k:Nat)(hm:Γ[k]?=some (s,A))(hw:Wk A A'):St B w0 N (Γ.set k (s,A')) Λ a w :=
 ⟨h.lo,h.defers,h.size,h.base,fun x hx=>by
  rcases List.mem_or_eq_of_mem_set hx with hx | rfl
  ·exact h.vals x hx
  ·exact hw _ _ _ (h.vals _ (List.mem_of_getElem? hm)),h.locs,h.dis⟩
def lesN (Λ:List Lc):List Le:=Λ.map fun l=>⟨l.s,l.T,l.H,none,l.A,none⟩
section
variable {P:Program} {Q:Exit→Act→World→Prop} {B N:Nat} {w0:Bs} {Γ:List (Nat × VA)} {Λ:List Lc} {a:Act} {w:World}
end
theorem zjs {P:Program}{w:World}(base:Nat)(t ty e:TypeId)(i:TypeInfo)(size:Nat)(ht:P.underlying t=some (.slice e))(hi:P.info? e=some i)
  (v:Value) (n c:Nat) (xs:List Value) (hown:w.ownsRow base e size v n xs):(Builtin.append_ #[t,t] ty #[v,.slice none 0 c]).run P w=.ok v w:=by
 rcases hown.2 with ⟨rfl,rfl⟩ | ⟨g,cap,cur,rfl,_,_,hnc,_⟩
 ·simp [Builtin.append_,run_underlying ht,sizeOf,typeInfo,hi,Builtin.lenOf,Builtin.firstCells]
 ·simp [Builtin.append_,run_underlying ht,sizeOf,typeInfo,hi,Builtin.lenOf,Builtin.firstCells,hnc,storeCells]
theorem cat_len {l:List As}{m:Nat}(hm:∀ A∈l,A.n=m):(cat l).n=l.length*m:=by
 induction l with
 | nil=>simp [cat]
 | cons A l ih =>
  have:=ih fun A' h=>hm A' (List.mem_cons_of_mem _ h)
  simp only [cat,List.map_cons,List.sum_cons,List.length_cons] at this ⊢
  rw [this,hm A (by simp),Nat.add_mul,Nat.one_mul,Nat.add_comm]
theorem run_ownM {P:Program}{S E T1:TypeId}{m bytes b B:Nat}{D D':List TypeId}{l xs:List As}{w:World}{v u:Value}{it:TypeInfo}{z:Value}
  (hS:P.underlying S=some (.slice E)) (hi:P.info? E=some it) (hz:it.zero=some z) (hsz:it.size=m) (hby:it.bytes=bytes) (hzs:z.cells.size=m) (hm0:0<m) (hl:l.length+xs.length≤100000000000) (hb6:bytes≤1000)
  (hv:(OwnR b E m D l).p B v w) (hu:(SlA E D' xs).va.p B u w) (hD':∀ T∈D',T∈D) (hED:E ∉ D) (hxm:∀ x∈xs,x.n=m) (hbw:b≤w.heap.size) (hB:B≤b) :
  ∃ v' w',(Builtin.append_ #[S,S] T1 #[v,u]).run P w=.ok v' w'∧(OwnR b E m D (l++xs)).p B v' w'∧w.grownBy w' v.ownBlock∧RowOk w b E v.ownBlock:=by
 obtain ⟨h1,h2,ds,h3,h4⟩:=hv
 obtain ⟨cs,⟨hD,Ad,c,ds1,rfl,_,_,h5,h6⟩,hu'⟩:=hu
 have hu2:u=.slice Ad xs.length c:=hu'
 subst hu2
 have hl1:ds1.length=xs.length*m:=by rw [(cat xs).len _ _ _ h5,cat_len hxm]
 have hro:=own_row h4
 have hmx:l.length+xs.length≤maxLen:=by unfold maxLen; omega
 have hbt:(l.length+xs.length)*bytes≤140737488355328:=Nat.le_trans (Nat.mul_le_mul hl hb6) zd
 have fin:∀ v' w',w'.ownsRow b E m v' (l.length+xs.length) (ds++ds1)→w.grownBy w' v.ownBlock→(OwnR b E m D (l++xs)).p B v' w':=fun v' w' r1 r2=>by
  refine ⟨fun A hA=>?_,fun A hA=>?_,ds++ds1,cat_app (As.grown h3 r2 hro hB (zke h2 hED)) (As.grown h5 r2 hro hB (zke (fun A hA T hT=>hD' T (hD A hA T hT)) hED)),by rw [List.length_append]; exact r1⟩
  ·rcases List.mem_append.1 hA with hA | hA
   ·exact h1 A hA
   ·exact hxm A hA
  ·rcases List.mem_append.1 hA with hA | hA
   ·exact h2 A hA
   ·exact fun T hT=>hD' T (hD A hA T hT)
 have some_case:∀ a:Addr,Ad=some a→(∀ (j:Nat) u,ds1[j]?=some u→w.cell? (a.add j)=some u)→∃ v' w',(Builtin.append_ #[S,S] T1 #[v,.slice Ad xs.length c]).run P w=.ok v' w'∧(OwnR b E m D (l++xs)).p B v' w'∧w.grownBy w' v.ownBlock∧RowOk w b E v.ownBlock:=fun a ha hc=>by
  subst ha
  obtain ⟨v',w',hr,r1,r2,_⟩:=run_append_own (P:=P) w b S T1 E it z m bytes hS hi hz hsz hby hzs hm0 v l.length ds h4 a xs.length c ds1 hl1 hc ((cat xs).one _ _ _ h5) hmx hbt hbw
  exact ⟨v',w',hr,fin v' w' r1 r2,r2,hro⟩
 by_cases hx:0<xs.length
 ·obtain ⟨g1,o1,rfl,_,_,h8⟩:=h6 hx
  exact some_case _ rfl fun j u hj=>by rw [add_k]; exact h8 j u hj
 ·have h0:xs.length=0:=by omega
  have hds0:ds1=[]:=List.length_eq_zero_iff.1 (by rw [hl1,h0,Nat.zero_mul])
  cases Ad with
  | some a=>exact some_case a rfl fun j u hj=>by rw [hds0] at hj; simp at hj
  | none =>
   rw [h0]
   refine ⟨v,w,zjs b S T1 E it m hS hi v l.length c ds h4,fin v w ?_ ⟨rfl,rfl,rfl,Nat.le_refl _,fun _ _ _=>rfl⟩,⟨rfl,rfl,rfl,Nat.le_refl _,fun _ _ _=>rfl⟩,hro⟩
   rw [h0,hds0,List.append_nil]
   exact h4
section
variable {P:Program} {R:Rg} {Q:Exit→Act→World→Prop} {B:Nat} {w0:Bs} {a:Act} {w:World}
open Rg in
theorem Rg.linK {id:Nat}{Λ:List Lc}{n m:Nat}(hsz:R.ops.size=n+m)(hanc:R.anc=fun i=>List.range i)(hk:R.chk=true)(h:St B w0 R.N R.Γ Λ a w)(hles:∀ e∈R.les,e.cr=none→(⟨e.s,e.T,e.H,e.A0⟩:Lc)∈Λ)
  (hob:∀ i,i<n→R.Ob P Q B w0 i) (hQ:∀ a w,R.Inv B w0 (fun k=>decide (k<n)) a w→wpOps P R.ops Q (List.range' n m) a w):(Code.region id R.ops false).wp P Q a w:=by
 refine wp_region ?_
 have key:∀ q k,k+q=n→∀ a w,R.Inv B w0 (fun j=>decide (j<k)) a w→wpOps P R.ops Q (List.range' k (q+m)) a w:=by
  intro q
  induction q with
  | zero =>
   intro k hkm a w hi
   have:k=n:=by omega
   subst this
   rw [Nat.zero_add]
   exact hQ a w hi
  | succ q ih =>
   intro k hkm a w hi
   rw [show q+1+m=(q+m)+1 by omega,List.range'_succ,wpOps_cons]
   refine step hk (hob k zo) hi ?_ (by simp) ?_ _ fun a' w' hi'=>ih (k+1) zo a' w' (hi'.congr fun j=>?_)
   ·intro i hi j hj
    rw [hanc] at hj
    simp at hi hj ⊢
    omega
   ·intro j hj
    rw [hanc] at hj
    simpa using hj
   ·unfold upd
    by_cases h1:j=k
    ·subst h1; simp
    ·have h2:(j==k)=false:=by simpa using h1
     rw [h2,Bool.false_or,decide_eq_decide]
     omega
 rw [List.range_eq_range',hsz]
 exact key n 0 zo a w ((start h hles).congr fun j=>by simp)
end
section
variable {P:Program} {Q:Exit→Act→World→Prop} {B N:Nat} {w0:Bs} {Γ:List (Nat × VA)} {Λ:List Lc} {a:Act} {w:World}
end
theorem Cn.introF {P : Program} {f : FuncId} {fn : Func} {c : Code} {pre : List VA} {post : VA} (hf : P.funcs[f]? = some fn) (hb : fn.body = some c) (hn : (fn.name == "runtime.NumGoroutine") = false) (hsz : pre.length ≤ fn.ntmps)
  (h:∀ (B:Nat) (w0:Bs) (a:Act),NoF w0→St B w0 fn.ntmps (argΓ pre) [] a w0.w→c.wp P (bPost P fn (RQ B w0 post)) a w0.w):Cn P f pre post:=by
 refine ⟨⟨fn,hf,hn,by rw [hb]; rfl⟩,fun B w args hB ha=>(zc3 hf hb (h B ⟨w,fun _=>False,false⟩ _ (fun _ h=>h.elim) ?_)).mono fun _ _ ⟨v,he,hv,hk⟩=>⟨v,he,hv,hk.grow0⟩⟩
 have hl:=ha.length
 refine ⟨fun g hg=>Nat.le_trans hB (hg.resolve_right fun h=>h),DefOk.nil rfl,?_,Kept.refl _,All2.args ha,(fun l hl=>by cases hl),(fun l hl=>by cases hl)⟩
 simp only [Array.size_append,List.size_toArray,Array.size_replicate]
 omega
theorem zk2 {R:Rg}{B i:Nat}{w0:Bs}{x:Operand}{v:Value}{A:VA}(hF:NoF w0)(hv:A.p B v w0.w)(h:Has R B w0 i x (EqV v)):Has R B w0 i x A:=fun a w av=>by
 have e:a.eval x=v:=h a w av
 rw [e]
 exact A.cg _ _ _ _ (hF.cg av.base) hv
theorem St.eqv {B N:Nat}{w0:Bs}{Γ:List (Nat × VA)}{Λ:List Lc}{a:Act}(h:St B w0 N Γ Λ a w0.w){s:Nat}{A:VA}(k:Nat)(hm:Γ[k]?=some (s,A)):∃ v,A.p B v w0.w∧St B w0 N (Γ.set k (s,EqV v)) Λ a w0.w :=
 ⟨a.eval (.tmp s),h.vals _ (List.mem_of_getElem? hm),h.lo,h.defers,h.size,h.base,fun x hx=>by
  rcases List.mem_or_eq_of_mem_set hx with hx | rfl
  ·exact h.vals x hx
  ·exact rfl,h.locs,h.dis⟩
theorem free_all {l l':List VA}(h:All2 Free l l'){B B':Nat}{w:World}(hB:B'≤B):∀ {vs:List Value},All2 (fun (A:VA) x=>A.p B x w) l vs→All2 (fun (A:VA) x=>A.p B' x w) l' vs:=by
 induction h with
 | nil=>intro vs hv; cases hv; exact .nil
 | cons h _ ih=>intro vs hv; cases hv with | cons h1 h2=>exact .cons (h _ _ _ _ hB h1) (ih h2)
theorem free_tu {l l':List VA}(h:All2 Free l l'):Free (Tu l) (Tu l'):=fun _ _ _ _ hB ⟨vs,e,hv⟩=>⟨vs,e,free_all h hB hv⟩
def CnI (P:Program)(f:FuncId)(pre:List VA)(mk:Nat→VA):Prop :=
 (∃ fn, P.funcs[f]? = some fn ∧ (fn.name == "runtime.NumGoroutine") = false ∧ fn.body.isNone = false) ∧
 ∀ (B:Nat) (w:World) (args:List Value),B≤w.heap.size→All2 (fun A v=>A.p B v w) pre args →
  Calls P f args.toArray w fun e w'=>∃ v,e=.returned v∧(mk w.heap.size).p B v w'∧Grow w w'
theorem CnI.introF {P : Program} {f : FuncId} {fn : Func} {c : Code} {pre : List VA} {mk : Nat → VA} (hf : P.funcs[f]? = some fn) (hb : fn.body = some c) (hn : (fn.name == "runtime.NumGoroutine") = false) (hsz : pre.length ≤ fn.ntmps)
  (h:∀ (B:Nat) (w0:Bs) (a:Act),(∀ g,¬ w0.F g)→NoF w0→St B w0 fn.ntmps (argΓ pre) [] a w0.w→c.wp P (bPost P fn (RQ B w0 (mk w0.w.heap.size))) a w0.w):CnI P f pre mk:=by
 refine ⟨⟨fn,hf,hn,by rw [hb]; rfl⟩,fun B w args hB ha=>(zc3 hf hb (h B ⟨w,fun _=>False,false⟩ _ (fun _ h=>h) (fun _ h=>h.elim) ?_)).mono fun _ _ ⟨v,he,hv,hk⟩=>⟨v,he,hv,hk.grow0⟩⟩
 have hl:=ha.length
 refine ⟨fun g hg=>Nat.le_trans hB (hg.resolve_right fun h=>h),DefOk.nil rfl,?_,Kept.refl _,All2.args ha,(fun l hl=>by cases hl),(fun l hl=>by cases hl)⟩
 simp only [Array.size_append,List.size_toArray,Array.size_replicate]
 omega
end Go.Proofs.YtlpppkkggljdcaaGreat
namespace Go.Proofs.YtlpppkkggljdcaaGreat
open Go Go.RowKit
def mulQ (m q:MQ):MQ:=⟨m.a*q.a+m.b*q.c,m.a*q.b+m.b*q.d,m.c*q.a+m.d*q.c,m.c*q.b+m.d*q.d⟩
end Go.Proofs.YtlpppkkggljdcaaGreat
namespace Go.Proofs.YtlpppkkggljdcaaGreat
open Go Go.RowKit
theorem det_mul (m q:MQ):detM (mulQ m q)=detM m*detM q:=by unfold detM mulQ; grind
end Go.Proofs.YtlpppkkggljdcaaGreat
namespace Go.Proofs.YtlpppkkggljdcaaGreat
open Go Go.RowKit
theorem Cm.introK {P : Program} {f : FuncId} {fn : Func} {c : Code} {T : TypeId} {A0 A1 : As} {H : Hd} {pre : List Ar} {post : VA} (p : Nat) (hf : P.funcs[f]? = some fn) (hb : fn.body = some c) (hn : (fn.name == "runtime.NumGoroutine") = false) (hsz : pre.length ≤ fn.ntmps)
  (hm:∀ g,(p,EqV (H.f g))∈argΓ (pre.map (Ar.va g)))
  (h:∀ (B g:Nat) (w0:Bs) (a:Act),St B w0 fn.ntmps (argΓ (pre.map (Ar.va g))) [⟨p,T,H,A0⟩] a w0.w→c.wp P (bPost P fn (RQm B w0 g T A1 post)) a w0.w):Cm P f T A0 A1 pre post:=by
 refine ⟨⟨fn,hf,hn,by rw [hb]; rfl⟩,fun B w g cs args hB hg hp ha=>(zc3 hf hb (h B g ⟨w,fun k=>k=g,false⟩ _ ?_)).mono fun _ _ ⟨v,cs',he,hv,hk,h1,h2⟩=>⟨v,cs',he,hv,hk,h1,h2⟩⟩
 have hl:=ha.length
 have hgw:=(Array.getElem?_eq_some_iff.1 hg).1
 have ha':All2 (fun (A:VA) v=>A.p B v w) (pre.map (Ar.va g)) args:=by
  clear hl hm h hsz
  induction ha with
  | nil=>exact .nil
  | @cons x y xs ys h1 _ ih =>
   refine .cons ?_ ih
   cases x with
   | v A=>exact h1
   | w H=>exact h1
 have h0:(⟨args.toArray++Array.replicate (fn.ntmps-args.toArray.size) undef,[]⟩:Act).eval (.tmp p)=H.f g :=
  All2.args (N:=fn.ntmps-args.toArray.size) ha' (p,EqV (H.f g)) (hm g)
 refine ⟨fun k hk=>?_,DefOk.nil rfl,?_,Kept.refl _,All2.args ha',fun l hl=>?_,fun l hl m hm hne=>?_⟩
 ·rcases hk with hk | hk
  ·exact Nat.le_trans hB (Nat.le_trans (Nat.le_of_lt hgw) hk)
  ·have:k=g:=hk
   omega
 ·simp only [Array.size_append,List.size_toArray,Array.size_replicate]
  omega
 ·simp at hl
  subst hl
  exact ⟨g,cs,h0,.inr rfl,hg,hp⟩
 ·simp at hl hm
  subst hl hm
  exact absurd rfl hne
theorem zh5 {P:Program}{fn:Func}{B N g p:Nat}{w0:Bs}{Γ:List (Nat × VA)}{Λ:List Lc}{a:Act}{w:World}{T:TypeId}{H:Hd}{A1:As}{post:VA}(h:St B w0 N Γ Λ a w)(hm:(p,EqV (H.f g))∈Γ)(hl:(⟨p,T,H,A1⟩:Lc)∈Λ)
  (hb:bPost P fn (RQ B w0 post) .ret a w):bPost P fn (RQm B w0 g T A1 post) .ret a w:=by
 refine zhm h hb fun v w h ⟨v',e1,e2,e3⟩=>?_
 obtain ⟨g',cs,f1,_,f3,f4⟩:=h.locs _ hl
 replace f1:a.eval (.tmp p)=H.f g':=f1
 have f0:a.eval (.tmp p)=H.f g:=h.vals _ hm
 have:g'=g:=Rg.Hd.inj (H:=H) (H':=H) (by rw [← f1,← f0])
 subst this
 exact ⟨v',cs,e1,e2,e3,f3,f4⟩
theorem sub_self {A:As}:Sub A 0 A:=fun B cs w h=>by
 have hl:=A.len B cs w h
 refine ⟨?_,by omega⟩
 rw [List.drop_zero,List.take_of_length_le zo]
 exact h
end Go.Proofs.YtlpppkkggljdcaaGreat
namespace Go.Proofs.YtlpppkkggljdcaaGreat
open Go Go.RowKit
def bQ (k:Nat)(r:Rat):Prop:=lz r.num≤k∧lz (r.den:Int)≤k
theorem bQ_add {c d:Nat}{x y:Rat}(hx:bQ c x)(hy:bQ d y):bQ (c+d+1) (x+y):=by
 obtain ⟨x1,x2⟩:=hx
 obtain ⟨y1,y2⟩:=hy
 rw [← zkm]
 obtain ⟨h1,h2⟩:=zek (p:=x.num*(y.den:Int)+y.num*(x.den:Int)) (q:=(x.den:Int)*(y.den:Int)) (den_nz x y)
 have h3:=zjz (x.num*(y.den:Int)) (y.num*(x.den:Int))
 have h4:=zea x.num y.den
 have h5:=zea y.num x.den
 have h6:=zea x.den y.den
 exact ⟨by omega,by omega⟩
theorem bQ_mul {c d:Nat}{x y:Rat}(hx:bQ c x)(hy:bQ d y):bQ (c+d) (x*y):=by
 obtain ⟨x1,x2⟩:=hx
 obtain ⟨y1,y2⟩:=hy
 rw [← rat_mul]
 obtain ⟨h1,h2⟩:=zek (p:=x.num*y.num) (q:=(x.den:Int)*(y.den:Int)) (den_nz x y)
 have h4:=zea x.num y.num
 have h6:=zea x.den y.den
 exact ⟨by omega,by omega⟩
theorem zfi {k:Nat}{r:Rat}(h:bQ k r)(hk:k≤2048):longQ r=false:=zfr h hk
def szQ (r:Rat):Nat:=lz r.num+lz (r.den:Int)
theorem bQ_sz (r:Rat):bQ (szQ r) r:=⟨by unfold szQ; omega,by unfold szQ; omega⟩
theorem frac_sz {r:Rat}(h:longQ r=false):fracSizeF (rfOf r)=((szQ r+2:Nat):Int):=by
 obtain ⟨h1,h2⟩:=longQ_false.1 h
 unfold fracSizeF intSizeF szQ
 show IntKind.i64.wrap (IntKind.i64.wrap (1+((lz r.num:Nat):Int))+IntKind.i64.wrap (1+((lz (r.den:Int):Nat):Int)))=_
 rw [wi64 (x:=1+((lz r.num:Nat):Int)) zo zo,wi64 (x:=1+((lz (r.den:Int):Nat):Int)) zo zo,wi64 zo zo]
 omega
theorem sz_le {r:Rat}(h:longQ r=false):szQ r≤4096:=by
 obtain ⟨h1,h2⟩:=longQ_false.1 h
 unfold szQ
 omega
end Go.Proofs.YtlpppkkggljdcaaGreat
namespace Go.Proofs.YtlpppkkggljdcaaGreat
open Go Go.RowKit
theorem nd_eq (x:Rat):x=(x.num:Rat)/((x.den:Int):Rat):=by rw [← Rat.divInt_eq_div]; exact (Rat.num_divInt_den x).symm
theorem den_ne (x:Rat):((x.den:Int):Rat)≠0:=by
 have:=x.den_nz
 intro h
 exact this (by exact_mod_cast h)
theorem mul_assoc3 (m n o:MQ):mulQ m (mulQ n o)=mulQ (mulQ m n) o:=by
 unfold mulQ
 simp only [MQ.mk.injEq]
 refine ⟨by grind,by grind,by grind,by grind⟩
end Go.Proofs.YtlpppkkggljdcaaGreat
namespace Go.Proofs.YtlpppkkggljdcaaGreat
open Go Go.RowKit
section
variable {P:Program} {R:Rg} {Q:Exit→Act→World→Prop} {B i:Nat} {w0:Bs}
end
end Go.Proofs.YtlpppkkggljdcaaGreat
namespace Go.Proofs.YtlpppkkggljdcaaGreat
open Go Go.RowKit
end Go.Proofs.YtlpppkkggljdcaaGreat
