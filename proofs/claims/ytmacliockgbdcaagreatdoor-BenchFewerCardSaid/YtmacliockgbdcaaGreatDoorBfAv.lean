import Derived.Test.YtmacliockgbdcaaGreatDoorBfAa
import Derived.Test.YtmacliockgbdcaaGreatDoorBfAc
import Derived.Test.YtmacliockgbdcaaGreatDoorBfAq
import Derived.Laws.AppendOwn
import Derived.Laws.OwnMore
import Derived.Orders
set_option linter.unusedVariables false
set_option linter.unusedSimpArgs false
set_option linter.unusedSectionVars false
set_option maxRecDepth 100000
namespace Go.Proofs.YtmacliockgbdcaaGreatDoor
open Go Go.RowKit
theorem Cn.introD {P : Program} {f : FuncId} {fn : Func} {c : Code} {pre : List VA} {post : VA} (hf : P.funcs[f]? = some fn) (hb : fn.body = some c) (hn : (fn.name == "runtime.NumGoroutine") = false) (hsz : pre.length ≤ fn.ntmps)
  (h:∀ (B:Nat) (w0:Bs) (a:Act),(∀ g,¬ w0.F g)→w0.nd=true→NoF w0→St B w0 fn.ntmps (argΓ pre) [] a w0.w→c.wp P (bPost P fn (RQ B w0 post)) a w0.w):Cn P f pre post:=by
 refine ⟨⟨fn,hf,hn,by rw [hb]; rfl⟩,fun B w args hB ha=>(bQ hf hb (h B ⟨w,fun _=>False,true⟩ _ (fun _ h=>h) G (fun _ h=>h.elim) ?_)).mono fun _ _ ⟨v,he,hv,hk⟩=>⟨v,he,hv,⟨hk.os,hk.tape,hk.output,hk.size,fun k hlt=>hk.block k hlt fun h=>h⟩⟩⟩
 have hl:=ha.length
 refine ⟨fun g hg=>Nat.le_trans hB (hg.resolve_right fun h=>h),DefOk.nil rfl,?_,Kept.refl _,All2.args ha,(fun l hl=>by cases hl),(fun l hl=>by cases hl)⟩
 simp only [Array.size_append,List.size_toArray,Array.size_replicate]
 omega
def now (w:World)(go:Nat):Bs:=⟨w,fun g=>g=go,true⟩
theorem Kept.trans1 {w0:Bs}{w w':World}{go:Nat}(h:Kept w0 w)(hgo:w0.may go)(h2:Kept (now w go) w'):Kept w0 w' :=
 ⟨h2.os.trans h.os,h2.tape.trans h.tape,h2.output.trans h.output,Nat.le_trans h.size h2.size,fun k hk hf=>(h2.block k (Nat.lt_of_lt_of_le hk h.size) fun e=>by
  have e':k=go:=e
  subst e'
  rcases hgo with h1 | h1
  ·omega
  ·exact hf h1).trans (h.block k hk hf)⟩
theorem St.rebase {B N:Nat}{w0:Bs}{Γ:List (Nat × VA)}{Λ:List Lc}{a:Act}{w:World}(h:St B w0 N Γ Λ a w)(hnd:w0.nd=true){go:Nat}(hgo:w0.may go)(hΛ:∀ l∈Λ,blk (a.eval (.tmp l.s))=some go):St B (now w go) N Γ Λ a w :=
 ⟨fun g hg=>by
  rcases hg with h1 | h1
  ·exact Nat.le_trans (h.lo w0.w.heap.size (.inl (Nat.le_refl _))) (Nat.le_trans h.base.size h1)
  ·have e:g=go:=h1
   rw [e]; exact h.lo _ hgo,DefOk.nil (h.defers.none hnd),h.size,Kept.refl _,h.vals,fun l hl=>by
  obtain ⟨g,cs,e1,e2,e3,e4⟩:=h.locs l hl
  have:=hΛ l hl
  rw [e1,l.H.ok] at this
  injection this with this
  exact ⟨g,cs,e1,.inr this,e3,e4⟩,h.dis⟩
theorem St.back {B N:Nat}{w0:Bs}{Γ:List (Nat × VA)}{Λ:List Lc}{a:Act}{w w':World}{go:Nat}(h:St B (now w go) N Γ Λ a w')(hlo:∀ g,w0.may g→B≤g)(hk:Kept w0 w)(hgo:w0.may go):St B w0 N Γ Λ a w' :=
 ⟨hlo,DefOk.nil (h.defers.none rfl),h.size,hk.trans1 hgo h.base,h.vals,fun l hl=>by
  obtain ⟨g,cs,e1,e2,e3,e4⟩:=h.locs l hl
  refine ⟨g,cs,e1,?_,e3,e4⟩
  rcases e2 with e2 | e2
  ·exact .inl (Nat.le_trans hk.size e2)
  ·have e:g=go:=e2
   rw [e]; exact hgo,h.dis⟩
theorem g9 {R:Rg}{B i:Nat}{w0:Bs}{x:Operand}{v:Value}{A:VA}(hA:∀ w,Kept w0 w→A.p B v w)(h:Has R B w0 i x (EqV v)):Has R B w0 i x A:=fun a w av=>by
 rw [h a w av]
 exact hA _ av.base
theorem wD {B:Nat}{w w':World}{A:Option Addr}{c:Nat}{l:List Nat}(h:Mag B w A c l)(hs:w.heap.size≤w'.heap.size)(hk:∀ b,A.map (·.block)=some b→b<w.heap.size→w'.heap[b]?=w.heap[b]?):Mag B w' A c l :=
 ⟨h.ok,h.le,h.max,fun hl=>by
  obtain ⟨b,o,rfl,h1,h2,h3⟩:=h.at_ hl
  have e:=hk b rfl h1
  refine ⟨b,o,rfl,Nat.lt_of_lt_of_le h1 hs,?_,fun j hj=>?_⟩
  ·rcases h2 with h2 | ⟨c',fz,h2⟩
   ·exact .inl h2
   ·exact .inr ⟨c',fz,e.trans h2⟩
  ·rw [← h3 j hj]
   unfold World.cell?
   rw [e]⟩
theorem tu {B:Nat}{w w':World}{v:Value}{l:List Nat}{go:Nat}(h:(MgA l).va.p B v w)(hne:blk v≠some go)(hk:Kept (now w go) w'):(MgA l).va.p B v w':=by
 obtain ⟨A,c,rfl,hm⟩:=fL h
 refine dW (wD hm hk.size fun b hb hlt=>hk.block b hlt fun e=>?_) rfl
 have e':b=go:=e
 subst e'
 cases A with
 | none=>cases hb
 | some ad=>exact hne hb
structure Rst (B:Nat) (w0:Bs) (a:Act) (w:World) (s8:Nat) (v:Value) (l:List Nat) (go:Nat):Prop where
 mg:(MgA l).va.p B v w
 ne:blk v≠some go
 at8:blk (a.eval (.tmp s8))=some go
 may:w0.may go
 lt:go<w.heap.size
theorem St.eqF {B N:Nat}{w0:Bs}{Γ:List (Nat × VA)}{Λ:List Lc}{a:Act}{w:World}(h:St B w0 N Γ Λ a w){s:Nat}{v:Value}{A:VA}(k:Nat)(hm:Γ[k]?=some (s,EqV v))(hA:A.p B v w):St B w0 N (Γ.set k (s,A)) Λ a w :=
 ⟨h.lo,h.defers,h.size,h.base,fun x hx=>by
  rcases List.mem_or_eq_of_mem_set hx with hx | rfl
  ·exact h.vals x hx
  ·have e:a.eval (.tmp s)=v:=h.vals _ (List.mem_of_getElem? hm)
   show A.p B (a.eval (.tmp s)) w
   rw [e]; exact hA,h.locs,h.dis⟩
theorem St.toE {B N:Nat}{w0:Bs}{Γ:List (Nat × VA)}{Λ:List Lc}{a:Act}{w:World}(h:St B w0 N Γ Λ a w){s:Nat}{A:VA}(k:Nat)(hm:Γ[k]?=some (s,A)):∃ v,A.p B v w∧St B w0 N (Γ.set k (s,EqV v)) Λ a w :=
 ⟨a.eval (.tmp s),h.vals _ (List.mem_of_getElem? hm),h.lo,h.defers,h.size,h.base,fun x hx=>by
  rcases List.mem_or_eq_of_mem_set hx with hx | rfl
  ·exact h.vals x hx
  ·exact rfl,h.locs,h.dis⟩
open Rg in
theorem St.putV {B N:Nat}{w0:Bs}{Γ:List (Nat × VA)}{Λ:List Lc}{a:Act}{w w2:World}(h:St B w0 N Γ Λ a w){c:Nat}{v:Value}{M:VA}(hc:c<N)(hg:Grow w w2)(hp:M.p B v w2)(hΓ:∀ y∈Γ,y.1≠c)(hΛ:∀ l∈Λ,l.s≠c):St B w0 N ((c,M)::Γ) Λ (a.put (some c) v) w2:=by
 have hs:c<a.tmps.size:=by rw [h.size]; exact hc
 refine ⟨h.lo,h.defers.grow hg rfl,by rw [bu]; exact h.size,h.base.grow hg,fun y hy=>?_,fun l hl=>?_,fun l hl m hm hne=>?_⟩
 ·rcases List.mem_cons.1 hy with rfl | hy
  ·show M.p B ((a.put (some c) v).eval (.tmp c)) w2
   rw [aM _ _ _ hs]; exact hp
  ·rw [aj _ _ _ _ (hΓ y hy)]
   exact VA.grow y.2 _ _ _ _ hg (h.vals y hy)
 ·obtain ⟨g,cs,e1,e2,e3,e4⟩:=LcOk.grow (h.locs l hl) hg
  exact ⟨g,cs,by rw [aj _ _ _ _ (hΛ l hl)]; exact e1,e2,e3,e4⟩
 ·rw [aj _ _ _ _ (hΛ l hl),aj _ _ _ _ (hΛ m hm)]
  exact h.dis l hl m hm hne
theorem sa {P : Program} {w : World} {a : Act} {f : FuncId} {fn : Func} {d : Nat} {T : TypeId} {ps : String} {af : Array Edge} {gd : Option (Nat × Bool)} {at_ : Array TypeId} {xs : List Operand} (hf : P.funcs[f]? = some fn) (hn : (fn.name == "runtime.NumGoroutine") = false) (hb : fn.body.isNone = false) :
  (execOp a.eval ⟨some d,.call ⟨.value (.func f),xs.toArray,at_⟩,T,ps,af,gd⟩).run P w=.ok (.enter f (xs.map a.eval).toArray) w:=by
 simp only [execOp,resolve,Act.eval,Deferred.ofValue,Sem.run_bind,Sem.run_pure,Result.andThen_ok,invoke,bk hf hn hb]
 simp
open Rg in
open Rg in
theorem BU {P:Program}{Q:Exit→Act→World→Prop}{B N:Nat}{w0:Bs}{Γ:List (Nat × VA)}{Λ:List Lc}{a:Act}{w:World}{id:Nat}{ops:Array Oper}{sp:List Sp}(n:Nat)(src:List Nat)(i1 i2 k3:Nat){S E T1 T2 T3:TypeId}{f:FuncId}{M1 M2:VA}{at_:Array TypeId}{s u d c e m bytes b s3:Nat}{ps1 ps2 ps3:String}{af1 af2 af3:Array Edge}{D D':List TypeId}{l xs:List As}{A2:VA}{it:TypeInfo}{z:Value}
  (h:St B w0 N Γ Λ a w) (hob:Obs P Q ⟨ops,N,Γ,lesN Λ,sp,fun i=>List.range i⟩ B w0 0 n) (hn2:ops.size=n+3) (hk:Rg.chk ⟨ops,N,Γ,lesN Λ,sp,fun i=>List.range i⟩=true)
  (ho1:ops[n]?=some ⟨some d,.call ⟨.builtin .append,#[.tmp s,.tmp u],#[S,S]⟩,T1,ps1,af1,none⟩) (ho2:ops[n+1]?=some ⟨some c,.call ⟨.value (.func f),#[.tmp d],at_⟩,T2,ps2,af2,none⟩) (ho9:ops[n+2]?=some ⟨some e,.assign (.tmp c),T3,ps3,af3,none⟩) (hcn:Cn P f [M1] M2) (hM:Wk (OwnB b E m D (l++xs)) M1)
  (hi1:i1<n) (h1:sp[i1]?=some (.v s (OwnB b E m D l))) (hi2:i2<n) (h2:sp[i2]?=some (.v u A2)) (h3:Γ[k3]?=some (s3,PtrLt b)) (ho3:Rg.outG ⟨ops,N,Γ,lesN Λ,sp,fun i=>List.range i⟩ s3=true) (hwb:w0.w.heap.size≤b) (hA2:∀ w u,A2.p B u w→Kept w0 w→(SlA E D' xs).va.p B u w)
  (hS:P.underlying S=some (.slice E)) (hi:P.info? E=some it) (hz:it.zero=some z) (hsz:it.size=m) (hby:it.bytes=bytes) (hzs:z.cells.size=m) (hm0:0<m) (hl:l.length+xs.length≤100000000000) (hb6:bytes≤1000)
  (hD':∀ T∈D',T∈D) (hED:E ∉ D) (hxm:∀ x∈xs,x.n=m) (hde:((d != c)&&(d != e)&&(c != e))=true) (hd:d<N) (hcN:c<N) (he:e<N)
  (hsrc:src.all (fun k=>match Γ[k]? with | some y => !y.2.deps.contains E&&Rg.outG ⟨ops,N,Γ,lesN Λ,sp,fun i=>List.range i⟩ y.1 | none=>false)=true)
  (hΛ:Λ.all (fun l=>(l.T != E || l.s==s3) && !l.A.deps.contains E&&l.s != d&&l.s != c&&l.s != e)=true)
  (hQ:∀ a w,St B w0 N ((e,M2)::src.filterMap (fun k=>Γ[k]?)) Λ a w→Q .normal a w):(Code.region id ops false).wp P Q a w:=by
 have hles0:∀ y∈lesN Λ,y.cr=none∧y.st=none∧(⟨y.s,y.T,y.H,y.A0⟩:Lc)∈Λ:=fun y hy=>by
  obtain ⟨l',hl',rfl⟩:=List.mem_map.1 hy
  exact ⟨rfl,rfl,hl'⟩
 refine Rg.linK (R:=⟨ops,N,Γ,lesN Λ,sp,fun i=>List.range i⟩) (m:=3) hn2 G hk h (fun y hy _=>(hles0 y hy).2.2) (fun i hi=>hob.all i zo zo) fun a1 w1 hinv=>?_
 have hcl:∀ deps,Rg.clash ⟨ops,N,Γ,lesN Λ,sp,fun i=>List.range i⟩ (fun k=>decide (k<n)) deps=false:=fun deps=>by
  unfold Rg.clash
  rw [List.any_eq_false]
  intro y hy
  rw [(hles0 y hy).2.1]
  simp
 obtain ⟨hbw,hB,hv⟩:=hinv.v i1 _ s _ h1 rfl (decide_eq_true hi1) (hcl _)
 have hout:∀ t,Rg.outG ⟨ops,N,Γ,lesN Λ,sp,fun i=>List.range i⟩ t=true→∀ q,q<ops.size→Rg.dst ⟨ops,N,Γ,lesN Λ,sp,fun i=>List.range i⟩ q≠some t:=fun t ht q hq=>by
  have:=List.all_eq_true.1 ht q (by simpa using hq)
  simpa using this
 obtain ⟨g3,hg3,hlt3⟩:=hinv.g _ (List.mem_of_getElem? h3) (fun q hq hdq=>absurd hdq (hout _ ho3 q hq)) (hcl _)
 have hu:=hA2 _ _ (hinv.v i2 _ u _ h2 rfl (decide_eq_true hi2) (hcl _)) hinv.base
 obtain ⟨v',w',hr,r1,r2,r3⟩:=ic (T1:=T1) hS hi hz hsz hby hzs hm0 hl hb6 hv hu hD' hED hxm hbw hB
 have hdsz:d<a1.tmps.size:=by rw [hinv.size]; exact hd
 simp only [Bool.and_eq_true,bne_iff_ne] at hde
 obtain ⟨⟨hdc,hde⟩,hce⟩:=hde
 have hlc:∀ l'∈Λ,(l'.T≠E∨l'.s=s3)∧E ∉ l'.A.deps∧l'.s≠d∧l'.s≠c∧l'.s≠e:=fun l' hl'=>by
  have:=List.all_eq_true.1 hΛ l' hl'
  simp only [Bool.and_eq_true,Bool.or_eq_true,beq_iff_eq,bne_iff_ne,Bool.not_eq_true',List.contains_eq_mem,decide_eq_false_iff_not] at this
  exact ⟨this.1.1.1.1,this.1.1.1.2,this.1.1.2,this.1.2,this.2⟩
 have hcur:∀ l'∈Λ,(⟨l'.s,l'.T,l'.H,none,l'.A,none⟩:Le)∈lesN Λ:=fun l' hl'=>List.mem_map.2 ⟨l',hl',rfl⟩
 have hsr:∀ y∈src.filterMap (fun k=>Γ[k]?),E ∉ y.2.deps∧y.1≠d∧y.1≠c∧y.1≠e∧y.2.p B (a1.eval (.tmp y.1)) w1:=fun y hy=>by
  obtain ⟨k,hk1,hk2⟩:=List.mem_filterMap.1 hy
  have hs:=List.all_eq_true.1 hsrc k hk1
  simp only [hk2,Bool.and_eq_true,Bool.not_eq_true',List.contains_eq_mem,decide_eq_false_iff_not] at hs
  have ho:=hout y.1 hs.2
  exact ⟨hs.1,fun e1=>ho n zo (by unfold Rg.dst; rw [ho1,e1]; rfl),fun e1=>ho (n+1) zo (by unfold Rg.dst; rw [ho2,e1]; rfl),fun e1=>ho (n+2) zo (by unfold Rg.dst; rw [ho9,e1]; rfl),hinv.g y (List.mem_of_getElem? hk2) (fun q hq hdq=>absurd hdq (ho q hq)) (hcl _)⟩
 have U:St B w0 N ((d,OwnB b E m D (l++xs))::src.filterMap (fun k=>Γ[k]?)) Λ (a1.put (some d) v') w':=by
  refine ⟨hinv.lo,hinv.defers.grown r2 r3 rfl,by rw [bu]; exact hinv.size,?_,?_,?_,?_⟩
  ·exact ⟨r2.os.trans hinv.base.os,r2.tape.trans hinv.base.tape,r2.output.trans hinv.base.output,Nat.le_trans hinv.base.size r2.size,fun k hk hf =>
    (r2.block k (Nat.lt_of_lt_of_le hk hinv.base.size) (fun e=>by have:=(r3 k e.symm).1; omega)).trans (hinv.base.block k hk hf)⟩
  ·intro y hy
   rcases List.mem_cons.1 hy with rfl | hy
   ·show (OwnB b E m D (l++xs)).p B ((a1.put (some d) v').eval (.tmp d)) w'
    rw [aM _ _ _ hdsz]
    exact ⟨Nat.le_trans hbw r2.size,hB,r1⟩
   ·obtain ⟨q1,q2,_,_,q5⟩:=hsr y hy
    rw [aj _ _ _ _ q2]
    exact VA.grown q5 r2 r3 hB q1
  ·intro l' hl'
   obtain ⟨g1,g2,g3,_⟩:=hlc l' hl'
   obtain ⟨g,cs,e1,e2,e3,e4⟩:=hinv.c _ (hcur l' hl') l'.A rfl
   refine ⟨g,cs,by rw [aj _ _ _ _ g3]; exact e1,e2,?_,As.grown e4 r2 r3 hB g2⟩
   rw [r2.block g (Array.getElem?_eq_some_iff.1 e3).1 (fun e5=>by
    obtain ⟨h8,c,fz,e6⟩:=r3 g e5.symm
    rcases g1 with g1 | g1
    ·rw [e3] at e6
     injection e6 with e6
     injection e6 with _ e6 _
     exact g1 e6
    ·rw [← g1,e1,l'.H.ok] at hg3
     injection hg3 with hg3
     omega)]
   exact e3
  ·intro l1 hl1 l2 hl2 hne'
   obtain ⟨_,_,g3,_⟩:=hlc l1 hl1
   obtain ⟨_,_,g5,_⟩:=hlc l2 hl2
   rw [aj _ _ _ _ g3,aj _ _ _ _ g5]
   exact hinv.x _ (hcur l1 hl1) _ (hcur l2 hl2) hne' G rfl
 rw [List.range'_succ,wpOps_cons]
 refine bv (R:=⟨ops,N,Γ,lesN Λ,sp,fun i=>List.range i⟩) ho1 G (ba (w':=w') (v:=v') (by simp [execOp,resolve,invoke,builtin,hr,Result.andThen]) ?_)
 rw [List.range'_succ,wpOps_cons]
 refine bv (R:=⟨ops,N,Γ,lesN Λ,sp,fun i=>List.range i⟩) ho2 G ?_
 obtain ⟨⟨fn,hf,hn,hb⟩,hcall⟩:=hcn
 have hrun:=sa (P:=P) (w:=w') (a:=a1.put (some d) v') (d:=c) (T:=T2) (ps:=ps2) (af:=af2) (gd:=none) (at_:=at_) (xs:=[.tmp d]) hf hn hb
 unfold Oper.wp
 rw [show (#[Operand.tmp d]:Array Operand)=[Operand.tmp d].toArray from rfl,hrun]
 have hm1:M1.p B ((a1.put (some d) v').eval (.tmp d)) w':=hM _ _ _ (U.vals _ (List.mem_cons_self ..))
 have hBw:B≤w'.heap.size:=Nat.le_trans (Nat.le_trans hB hbw) r2.size
 refine (hcall B w' [(a1.put (some d) v').eval (.tmp d)] hBw (.cons hm1 .nil)).mono fun ex w2 ⟨v2,he2,hp2,hg2⟩=>?_
 subst he2
 have hst2:=St.putV U (v:=v2) (M:=M2) hcN hg2 hp2 (fun y hy=>by
  rcases List.mem_cons.1 hy with rfl | hy
  ·exact hdc
  ·exact (hsr y hy).2.2.1) (fun l' hl'=>(hlc l' hl').2.2.2.1)
 have hst3:=St.putV hst2 (c:=e) (v:=v2) (M:=M2) he (Grow.refl w2) hp2 (fun y hy=>by
  rcases List.mem_cons.1 hy with rfl | hy
  ·exact hce
  ·rcases List.mem_cons.1 hy with rfl | hy
   ·exact hde
   ·exact (hsr y hy).2.2.2.1) (fun l' hl'=>(hlc l' hl').2.2.2.2)
 show wpOps P ops Q ((n+1+1)::List.range' (n+1+1+1) 0) ((a1.put (some d) v').put (some c) v2) w2
 rw [wpOps_cons]
 have hcsz:c<(a1.put (some d) v').tmps.size:=by rw [bu,hinv.size]; exact hcN
 refine bv (R:=⟨ops,N,Γ,lesN Λ,sp,fun i=>List.range i⟩) ho9 G (ba (w':=w2) (v:=v2) ?_ (hQ _ _ ?_))
 ·have:=aM (a1.put (some d) v') c v2 hcsz
  simp [execOp,this]
 ·exact ⟨hst3.lo,hst3.defers,hst3.size,hst3.base,fun y hy=>hst3.vals y (by
   rcases List.mem_cons.1 hy with rfl | hy
   ·exact List.mem_cons_self ..
   ·exact List.mem_cons_of_mem _ (List.mem_cons_of_mem _ (List.mem_cons_of_mem _ hy))),hst3.locs,hst3.dis⟩
section
variable {P:Program} {R:Rg} {Q:Exit→Act→World→Prop} {B i:Nat} {w0:Bs}
theorem AI {A:VA}{f:FuncId}{xs:List Operand}{As:List VA}{mk:Nat→VA}{at_:Array TypeId}(hc:CnI P f As mk)(hw:∀ n,w0.w.heap.size≤n→Wk (mk n) A)(hx:HasL R B w0 i xs As):Wv P Q R B w0 i (.call ⟨.value (.func f),xs.toArray,at_⟩) A:=by
 intro d T ps af gd a w av K hK
 obtain ⟨⟨fn,hf,hn,hb⟩,hcall⟩:=hc
 have hrun:(execOp a.eval ⟨some d,.call ⟨.value (.func f),xs.toArray,at_⟩,T,ps,af,gd⟩).run P w=.ok (.enter f (xs.map a.eval).toArray) w:=by
  simp only [execOp,resolve,Act.eval,Deferred.ofValue,Sem.run_bind,Sem.run_pure,Result.andThen_ok,invoke,bk hf hn hb]
  simp
 unfold Oper.wp
 rw [hrun]
 exact (hcall B w _ (Av.bw av) (hx.all av)).mono fun e w' ⟨v,he,hv,hg⟩=>by subst he; exact hK v w' hg (hw _ av.base.size _ _ _ hv)
end
theorem wA {b b':Nat}{l:List Nat}(h:b≤b'):Wk (MgB b' l).va (MgB b l).va:=fun _ _ _ hp=>tv (mB _ _ _ hp) fun g hg=>Nat.le_trans h (mA hp g hg)
theorem wq {b:Nat}{l:List Nat}(ok:okL l):Wk (OwnB b U32 1 [] (NL l)) (MgB b l).va:=fun B v w h=>sX ok B v w h.2.2
theorem mG {D:Nat}(h:(limbs D).length=1):(limbs D)[0]'zo=D:=by
 have h1:=ep (l:=limbs D) (j:=0) zo
 rw [List.drop_zero,aG,List.drop_of_length_le zo] at h1
 simp at h1
 exact h1.symm
theorem rD {x:Nat}(h:x<4294967296):trimL [x]=limbs x:=by
 rw [d9 (ew h)]
 simp [val]
theorem rE {x R:Nat}(h:x<4294967296):trimL (x::limbs R)=limbs (R*4294967296+x):=by
 rw [d9 (fun y hy=>by
  rcases List.mem_cons.1 hy with rfl | hy
  ·exact h
  ·exact (bo _).1 y hy)]
 show limbs (x+4294967296*val (limbs R))=_
 rw [aG]
 congr 1
 omega
theorem cm_lt0 {X Y:Nat}:cmL (limbs X) (limbs Y)<0↔X<Y:=by
 rw [fa]
 split
 ·omega
 ·split <;> omega
theorem Ak {l:List Nat}{d j:Nat}(hl:okL l)(hd:0<d)(hj:j<l.length)(h:val (l.drop (j+1))%d*4294967296+l[j]<d):rsSt l d (j+1)=rsSt l d j:=by
 rw [← nA hl hd hj,Nat.div_eq_of_lt h]
 unfold rsSt
 rw [List.replicate_succ',List.append_assoc,eO _ _ _ _ (by simp)]
 rfl
theorem St.rowV {B N:Nat}{w0:Bs}{Γ:List (Nat × VA)}{Λ:List Lc}{a:Act}{w:World}(h:St B w0 N Γ Λ a w){s T:Nat}{H:Hd}{A:As}(e:Nat)(he:Λ[e]?=some ⟨s,T,H,A⟩):∃ v g,blk v=some g∧w0.may g∧g<w.heap.size∧St B w0 N ((s,EqV v)::Γ) Λ a w:=by
 obtain ⟨g,cs,e1,e2,e3,e4⟩:=h.locs _ (List.mem_of_getElem? he)
 exact ⟨a.eval (.tmp s),g,by rw [e1]; exact H.ok g,e2,(Array.getElem?_eq_some_iff.1 e3).1,h.lo,h.defers,h.size,h.base,fun x hx=>by
  rcases List.mem_cons.1 hx with rfl | hx
  ·exact rfl
  ·exact h.vals x hx,h.locs,h.dis⟩
theorem St.ownT {B N:Nat}{w0:Bs}{Γ:List (Nat × VA)}{Λ:List Lc}{a:Act}{w:World}(h:St B w0 N Γ Λ a w){s s3 go:Nat}{v8:Value}{E:TypeId}{m:Nat}{D:List TypeId}(k k8:Nat)(hm:Γ[k]?=some (s,EqV (.slice none 0 0)))(h8:Γ[k8]?=some (s3,EqV v8))(hv:blk v8=some go)(hlt:go<w0.w.heap.size) :
  ∃ b,w0.w.heap.size≤b∧go<b∧St B w0 N (Γ.set k (s,OwnB b E m D [])++[(s3,PtrLt b)]) Λ a w:=by
 refine ⟨w.heap.size,h.base.size,Nat.lt_of_lt_of_le hlt h.base.size,h.lo,h.defers,h.size,h.base,fun x hx=>?_,h.locs,h.dis⟩
 rcases List.mem_append.1 hx with hx | hx
 ·rcases List.mem_or_eq_of_mem_set hx with hx | rfl
  ·exact h.vals x hx
  ·exact ⟨Nat.le_refl _,Nat.le_trans (h.lo _ (.inl (Nat.le_refl _))) h.base.size,fH _ _ _ (h.vals _ (List.mem_of_getElem? hm))⟩
 ·obtain rfl:=List.mem_singleton.1 hx
  have e:a.eval (.tmp s3)=v8:=h.vals _ (List.mem_of_getElem? h8)
  exact ⟨go,by show blk (a.eval (.tmp s3))=_; rw [e]; exact hv,Nat.lt_of_lt_of_le hlt h.base.size⟩
structure Rs (B:Nat) (w0:Bs) (w:World) (v:Value) (l:List Nat) (go:Nat):Prop where
 mg:(MgA l).va.p B v w
 ne:blk v≠some go
 may:w0.may go
 lt:go<w.heap.size
theorem yP {x V D:Nat}(hD:0<D)(hx:x<4294967296):V%D*4294967296+x<D*4294967296:=by
 have h1:=Nat.mod_lt V hD
 have h2:(V%D+1)*4294967296≤D*4294967296:=Nat.mul_le_mul_right _ h1
 omega
theorem len_rb {D x:Nat}(h:x<D*4294967296):(limbs x).length≤(limbs D).length+1:=by
 have h1:=bZ (n:=D) (Nat.le_refl _)
 refine dN (Nat.lt_of_lt_of_le h ?_)
 rw [Nat.pow_succ]
 exact Nat.mul_le_mul_right _ (Nat.le_of_lt h1)
theorem sub_mod' {a b:Nat}:a-b*(a/b)=a%b:=by
 have:=Nat.div_add_mod a b
 omega
set_option maxHeartbeats 1000000 in
theorem su {D:Nat}(l:List Nat)(hD:0<D)(hls:l.length≤1000000000)(hds:(limbs D).length≤1000000000):Cn Tryz.prog 216 [(MgA l).va,(MgA (limbs D)).va] (Tu [(MgA (limbs (val l/D))).va,(MgA (limbs (val l%D))).va]):=by
 obtain ⟨it,z,e1,e2,e3,e4,e5⟩:=jt
 refine Cn.introD Tryz.func216 G zk nq (fun B w0 a hF0 hnd hF U=>?_)
 have U:=zn [(0,(MgA l).va),(1,(MgA (limbs D)).va)] [] U
 obtain ⟨v0,hv0,U⟩:=St.eqv U 0 rfl
 obtain ⟨v1,hv1,U⟩:=St.eqv U 1 rfl
 have hl:=(dH hv0).1; have hokD:=(dH hv1).1
 refine wp_seq<|zh [.v 4 _,.v 5 _] [.g 0,.g 1,.o 0,.o 1] U (zv G (a9 aP) (zv G (a9 aP) o0)) (zz [(0,_),(1,_),(4,_),(5,_)] [] fun a w U=>?_)
 refine zt<|wp_seq<|zh [.v 13 _,.v 14 _,.v 15 _] [.g 0,.g 1,.g 2,.g 3,.o 2] U (zM 1 G (zv G (aI Tryz.underlying23 (bE hF hv1 (vq 0 G))) (zv G (bD (vq 1 G) a8) o0))) (zz [(0,_),(1,_),(4,_),(5,_),(15,_)] [] fun a w U=>?_)
 refine a7<|ah U (zm 4 G) (fun hb0=>?_) (fun hb0=>?_)
 ·have hlen:(limbs D).length=1:=by simp at hb0; omega
  have hd0:=mG hlen
  refine wp_seq<|zh [.v 17 _,.v 18 _,.v 19 _,.v 20 _,.v 21 _,.v 16 _,.v 22 _,.v 23 _,.v 6 _,.v 7 _] [.g 0,.g 1,.g 2,.g 3,.o 8,.o 9] U (zM 0 G (zM 1 G (zv G (bH aZ (bE hF hv1 (vq 1 G)) (aF 0 G) zo) (zv G (aq (vq 2 G) aO) (zv G (aa (xs:=[.tmp 17,.tmp 20]) (oU l ((limbs D)[0]'zo) zo (by rw [hd0]; exact hD) (hokD _ (List.getElem_mem _))) (.cons (bE hF hv0 (vq 0 G)) (.cons (vq 3 G) .nil))) (zv G (ae (vq 4 G)) (zv G (aQ (vq 5 G) G) (zv G (aQ (vq 5 G) G) (zA 6 G (zA 7 G o0)))))))))) (zz [(0,_),(1,_),(4,_),(5,_),(6,_),(7,_)] [] fun a w U=>?_)
  refine zt<|zh [.v 24 _,.v 25 _,.v 26 _,.v 27 _,.v 4 _,.v 5 _] [.g 0,.g 1,.o 4,.o 5] U (zM 4 G (zM 5 G (zv G (da (l:=[_]) (xs:=[.tmp 25]) aZ zk nq nq ((ew (Nat.lt_trans (Nat.mod_lt _ (by rw [hd0]; exact hD)) (hokD _ (List.getElem_mem _))))) (.cons (vq 1 G) .nil) G G) (zv G (aa (xs:=[.tmp 26]) (dR famA _) (.cons (vq 2 G) .nil)) (zA 0 G (zA 3 G o0)))))) (zz [(0,_),(1,_),(4,_),(5,_)] [] fun a w U=>?_)
  refine a7<|wp_ret<|ap ?_
  refine ar ?_ (aS (rs:=[.tmp 4,.tmp 5]) G U (.tmp (zm 2 G) (.tmp (zm 3 G) .nil)) zd)
  rw [hd0]; exact tu2w lL (bc (congrArg (fun l=>(MgA l).va) (rD (Nat.lt_trans (Nat.mod_lt _ hD) (by rw [← hd0]; exact hokD _ (List.getElem_mem _))))))
 ·refine wp_skip<|zt<|d7 (sts:=[]) (news:=[⟨30,109,slH _ _,some 2,_,none⟩]) (sp:=[.v 28 _,.v 29 _,.alc 0,.adr 8 30 .none True]) [.g 0,.g 1,.g 2,.g 3] [(8,30)] [⟨8,109,slH _ _,_⟩] U (zM 0 G (zv G (aI Tryz.underlying23 (bE hF hv0 (vq 0 G))) (oc (dU G G G eI (vq 1 G) (vq 1 G) zo) (oc (ob_a G G jy) o0)))) zk zk zk ⟨⟨3,rfl⟩,trivial⟩ G zk (zz [(0,_),(1,_),(4,_),(5,_)] [⟨8,109,slH _ _,_⟩] fun a w U=>?_)
  refine zt<|zg [none] [] [.v 9 _] [.g 0,.g 1,.g 2,.g 3,.o 0] U (zv G (a9 aP) o0) (zz [(0,_),(1,_),(4,_),(5,_),(9,_)] [⟨8,109,slH _ _,_⟩] fun a w U=>?_)
  refine zt<|wp_seq<|zg [none] [] [.v 31 _,.v 32 _,.v 33 _,.v 10 _] [.g 0,.g 1,.g 2,.g 3,.g 4,.o 3] U (zM 0 G (zv G (aI Tryz.underlying23 (bE hF hv0 (vq 0 G))) (zv G (ck (vq 1 G) a8 (wi64 zo zo)) (zA 2 G o0)))) (zz [(0,_),(1,_),(4,_),(5,_),(9,_),(10,_)] [⟨8,109,slH _ _,_⟩] fun a w U=>?_)
  obtain ⟨v8,go,hv8,hm8,hl8,U⟩:=St.rowV U 0 rfl
  refine a7<|wp_block ?_
  have U:=St.sel U [1,2,0,5,6]
  refine wp_loop_ghost (fun n a w=>∃ (v9 v8:Value) (go:Nat),(n≤l.length∧Rs B w0 w v9 (limbs (val (l.drop n)%D)) go∧blk v8=some go)∧St B w0 68 [(0,EqV v0),(1,EqV v1),(8,EqV v8),(9,EqV v9),(10,In ((n:Int)-1))] [⟨8,109,slH l.length l.length,Nums .u32 (rsSt l D n)⟩] a w) (l.length) ?_ ?_
  ·exact ⟨_,v8,go,⟨Nat.le_refl _,⟨by rw [show limbs (val (l.drop l.length)%D)=[] from by simp [bt]]; exact ⟨_,eU B _,rfl⟩,(by intro e; cases e),hm8,hl8⟩,hv8⟩,by rw [jV]; exact U⟩
  intro n a w hI
  clear hv8 hm8 hl8; obtain ⟨v9,v8,go,⟨hn,hR,hv8⟩,U⟩:=hI
  have hk0:∀ w',Kept (now w go) w'→(MgA l).va.p B v0 w':=fun w' hk=>(MgA l).va.cg _ _ _ _ (hF.cg (U.base.trans1 hR.may hk)) hv0
  have hk1:∀ w',Kept (now w go) w'→(MgA (limbs D)).va.p B v1 w':=fun w' hk=>(MgA (limbs D)).va.cg _ _ _ _ (hF.cg (U.base.trans1 hR.may hk)) hv1
  have hk9:∀ w',Kept (now w go) w'→(MgA (limbs (val (l.drop n)%D))).va.p B v9 w':=fun w' hk=>tu hR.mg hR.ne hk
  have hback:∀ {Γ:List (Nat × VA)} {Λ:List Lc} {a:Act} {w':World},St B (now w go) 68 Γ Λ a w'→St B w0 68 Γ Λ a w':=fun h=>h.back U.lo U.base hR.may
  have hlt1:go<(now w go).w.heap.size:=hR.lt
  have U:=U.rebase hnd hR.may (fun m hm=>by
   obtain rfl:=List.mem_singleton.1 hm
   have e:a.eval (.tmp 8)=v8:=U.vals _ (zm 2 rfl)
   show blk (a.eval (.tmp 8))=_
   rw [e]; exact hv8)
  have hnd1:(now w go).nd=true:=rfl
  have hmay1:(now w go).may go:=.inr rfl
  generalize now w go=W1 at U hk0 hk1 hk9 hback hlt1 hnd1 hmay1
  refine wp_seq<|wp_seq<|zg [none] [] [.v 34 _,.v 35 _] [.g 0,.g 1,.g 2,.g 3,.g 4,.o 1] U (zM 4 G (zv G (eK (vq 0 G) a8) o0)) (fun a w U=>?_)
  have U:St B W1 68 [(0,_),(1,_),(8,_),(9,_),(10,_),(35,_)] [⟨8,109,slH _ _,_⟩] a w:=U
  refine a7<|ah U (zm 5 G) (fun hb1=>?_) (fun hb1=>?_)
  ·obtain ⟨j,rfl⟩:∃ j,n=j+1:=⟨n-1,by simp at hb1; omega⟩; rw [show ((j+1:Nat):Int)-1=(j:Int) from by omega] at U
   have hj:j<l.length:=by omega
   have hx:=hl _ (List.getElem_mem hj)
   have hmd:=Nat.mod_lt (val (l.drop (j+1))) hD
   refine wp_skip<|zt<|wp_block<|wp_seq<|zg [none] [] [.v 11 _] [.g 0,.g 1,.g 2,.g 3,.g 4,.o 0] U (zv G (a9 aP) o0) (fun a w U=>?_)
   have U:St B W1 68 [(0,_),(1,_),(8,_),(9,_),(10,_),(11,_)] [⟨8,109,slH _ _,_⟩] a w:=U
   refine zt ?_
   obtain ⟨b,hwb,hgb,U⟩:=St.ownT (E:=U32) (m:=1) (D:=[]) U 5 2 rfl rfl hv8 hlt1
   refine BV (sp:=[.v 38 _,.v 39 _,.v 40 _,.v 41 _,.v 42 _,.v 43 _,.v 44 VT,.v 11 VT]) 6 [0,1,2,3,4,6] 0 5 6 U (zM 5 rfl (zM 0 rfl (zM 4 rfl (zv rfl (bH aZ (g9 hk0 (vq 1 rfl)) (vq 2 rfl) hj) (zv rfl (aq (vq 3 rfl) aO) (zv rfl (da (l:=[_]) (xs:=[.tmp 42]) aZ zk nq nq ((ew hx)) (.cons (vq 4 rfl) .nil) rfl rfl) o0)))))) rfl zk rfl rfl zd rfl zd rfl rfl zk hwb (fun _ _ h _=>(dH h).2) Tryz.underlying23 e1 e2 e3 e4 e5 zd (by simp) zd (fun T hT=>hT) zd (fun A hA=>by obtain ⟨_,_,rfl⟩:=List.mem_map.1 hA; rfl) zk nq nq zk zk (fun a w U=>?_)
   have U:St B W1 68 [(11,_),(0,_),(1,_),(8,_),(9,_),(10,_),(8,_)] [⟨8,109,slH _ _,_⟩] a w:=U
   refine zt<|BU (sp:=[.v 45 _,.v 46 _,.v 47 VT,.v 48 VT,.v 9 VT]) 2 [1,2,3,5] 0 1 6 (M1:=(MgB b (l[j]::limbs (val (l.drop (j+1))%D))).va) (M2:=(MgB b (trimL (l[j]::limbs (val (l.drop (j+1))%D)))).va) U (zM 0 rfl (zM 4 rfl o0)) rfl zk rfl rfl rfl (dR (famB b) _) (wq (l:=l[j]::limbs (val (l.drop (j+1))%D)) (okL_cons.2 ⟨hx,(bo _).1⟩)) zd rfl zd rfl rfl zk hwb (D':=[]) (xs:=NL (limbs (val (l.drop (j+1))%D))) (fun w u e k=>by have e':u=v9:=e; rw [e']; exact (dH (hk9 w k)).2) Tryz.underlying23 e1 e2 e3 e4 e5 zd (by simp only [List.length_append,List.length_map,List.length_nil,List.length_singleton]; have:=cf (Nat.le_of_lt hmd); omega) zd (fun T hT=>hT) zd (fun A hA=>by obtain ⟨_,_,rfl⟩:=List.mem_map.1 hA; rfl) zk nq nq nq zk zk (fun a w U=>?_)
   have U:St B W1 68 [(9,_),(0,_),(1,_),(8,_),(10,_)] [⟨8,109,slH _ _,_⟩] a w:=U
   have U:=St.wkG (A':=(MgB b (limbs ((val (l.drop (j+1))%D)*4294967296+l[j]))).va) U 0 rfl (bc (congrArg (fun l=>(MgB b l).va) (rE hx)))
   refine zt<|wp_seq<|zg [none] [] [.v 49 _,.v 50 _,.v 51 _,.v 52 _] [.g 0,.g 1,.g 2,.g 3,.g 4,.o 3] U (zM 0 G (zM 2 G (zv G (aa (xs:=[.tmp 49,.tmp 50]) ((mn (limbs (val (l.drop (j+1))%D*4294967296+l[j])) (limbs D)).wk (.cons mB (.cons bh .nil))) (.cons (vq 0 G) (.cons (g9 hk1 (vq 1 G)) .nil))) (zv G (aN (vq 2 G) a8) o0)))) (fun a w U=>?_)
   have U:St B W1 68 [(9,_),(0,_),(1,_),(8,_),(10,_),(52,_)] [⟨8,109,slH _ _,_⟩] a w:=U
   refine a7<|ah U (zm 5 G) (fun hb2=>?_) (fun hb2=>?_)
   ·have hq:(val (l.drop (j+1))%D*4294967296+l[j])<D:=cm_lt0.1 (of_decide_eq_true hb2)
    refine wp_exit<|ak<|aC<|a7<|zg [none] [] [.v 36 _,.v 37 _,.v 10 _] [.g 0,.g 1,.g 2,.g 3,.o 2] U (zM 4 G (zv G (ck (vq 0 G) a8 (wi64 zo zo)) (zA 1 G o0))) (fun a w U=>?_)
    have U:St B W1 68 [(9,_),(0,_),(1,_),(8,_),(10,_)] [⟨8,109,slH _ _,_⟩] a w:=U
    refine a7 ?_
    have U:=St.sel U [1,2,3,0,4]
    obtain ⟨v9c,h9c,U⟩:=St.toE U 3 rfl
    have hne:blk v9c≠some go:=fun e=>by have:=mA h9c go e; omega
    have hsz:=U.base.size
    exact ⟨j,by omega,v9c,v8,go,⟨by omega,⟨by rw [← nB hD hj,Nat.mod_eq_of_lt hq]; exact mB _ _ _ h9c,hne,hR.may,by omega⟩,hv8⟩,by have U:=hback U; rw [Ak hl hD hj hq] at U; exact U⟩
   ·have hq:¬ (val (l.drop (j+1))%D*4294967296+l[j])<D:=fun h=>of_decide_eq_false hb2 (cm_lt0.2 h)
    have hsub:(val (l.drop (j+1))%D*4294967296+l[j])-D*((val (l.drop (j+1))%D*4294967296+l[j])/D)=val (limbs (val (l.drop (j+1))%D*4294967296+l[j]))-val (limbs (val (limbs D)*((val (l.drop (j+1))%D*4294967296+l[j])/D))):=by rw [aG,aG,aG]
    have hle:D*((val (l.drop (j+1))%D*4294967296+l[j])/D)≤(val (l.drop (j+1))%D*4294967296+l[j]):=Nat.mul_div_le _ _
    have hsl:(limbs (val (limbs D)*((val (l.drop (j+1))%D*4294967296+l[j])/D))).length≤(limbs (val (l.drop (j+1))%D*4294967296+l[j])).length:=by rw [aG]; exact cf hle
    have hsv:val (limbs (val (limbs D)*((val (l.drop (j+1))%D*4294967296+l[j])/D)))≤val (limbs (val (l.drop (j+1))%D*4294967296+l[j])):=by rw [aG,aG,aG]; exact hle
    have hlen2:(limbs (val (l.drop (j+1))%D*4294967296+l[j])).length≤1000000001:=Nat.le_trans (len_rb (yP hD hx)) zo
    refine wp_skip<|zt<|zg [none] [] [.v 53 _,.v 54 _,.v 55 _,.v 12 _] [.g 0,.g 1,.g 2,.g 3,.g 4,.o 3] U (zM 0 G (zM 2 G (zv G (aa (xs:=[.tmp 53,.tmp 54]) ((Dw (R:=(val (l.drop (j+1))%D*4294967296+l[j])) (D:=D) hD (yP hD hx) zo).wk (.cons mB (.cons bh .nil))) (.cons (vq 0 G) (.cons (g9 hk1 (vq 1 G)) .nil))) (zA 2 G o0)))) (fun a w U=>?_)
    have U:St B W1 68 [(9,_),(0,_),(1,_),(8,_),(10,_),(12,_)] [⟨8,109,slH _ _,_⟩] a w:=U
    refine zt ?_
    obtain ⟨v9b,h9b,U⟩:=St.toE U 0 rfl
    have hk0:∀ w',Kept (now w go) w'→(MgA l).va.p B v0 w':=fun w' hk=>hk0 w' (U.base.trans1 hmay1 hk)
    have hk1:∀ w',Kept (now w go) w'→(MgA (limbs D)).va.p B v1 w':=fun w' hk=>hk1 w' (U.base.trans1 hmay1 hk)
    have hk9:∀ w',Kept (now w go) w'→(MgA (limbs (val (l.drop (j+1))%D*4294967296+l[j]))).va.p B v9b w':=fun w' hk=>tu (mB _ _ _ h9b) (fun e=>by have:=mA h9b go e; omega) hk
    have hback:∀ {Γ:List (Nat × VA)} {Λ:List Lc} {a:Act} {w':World},St B (now w go) 68 Γ Λ a w'→St B w0 68 Γ Λ a w':=fun h=>hback (h.back U.lo U.base hmay1)
    have hlt1:go<(now w go).w.heap.size:=Nat.lt_of_lt_of_le hlt1 U.base.size
    have U:=U.rebase hnd1 hmay1 (fun m hm=>by
     obtain rfl:=List.mem_singleton.1 hm
     have e:a.eval (.tmp 8)=v8:=U.vals _ (zm 3 rfl)
     show blk (a.eval (.tmp 8))=_
     rw [e]; exact hv8)
    have hnd1:(now w go).nd=true:=rfl
    have hmay1:(now w go).may go:=.inr rfl
    generalize now w go=W2 at U hk0 hk1 hk9 hback hlt1 hnd1 hmay1
    refine zg [some (4,_)] [] [.adr 56 8 .none True,.v 57 _,.v 58 _,.adr 59 8 (.some _) True,.sto 0] [.g 0,.g 1,.g 2,.g 3,.g 4,.g 5] U (oc (ob_a G G cL) (zM 4 G (zM 5 G (oc (ob_a G G (em 0 G zk (lz0 0 G) aZ (vq 1 G) hj)) (oc (cA 3 G G G G zk (fun _=>bX _ _ _ _) (vq 2 G) aO (bC (by rw [fk zo]; omega))) o0))))) (fun a w U=>?_)
    have U:St B W2 68 [(9,_),(0,_),(1,_),(8,_),(10,_),(12,_)] [⟨8,109,slH _ _,_⟩] a w:=U
    refine a7<|zg [none] [] [.v 60 _,.v 61 _,.v 62 _,.v 63 _,.v 64 _,.v 9 _] [.g 1,.g 2,.g 3,.g 4,.o 5] U (zM 0 G (zM 2 G (zM 5 G (zv G (aa (xs:=[.tmp 61,.tmp 62]) (oT (limbs D) ((val (l.drop (j+1))%D*4294967296+l[j])/D) zo (vX hD hx)) (.cons (g9 hk1 (vq 1 G)) (.cons (vq 2 G) .nil))) (zv G (AI (xs:=[.tmp 60,.tmp 63]) (si (limbs (val (l.drop (j+1))%D*4294967296+l[j])) (limbs (val (limbs D)*((val (l.drop (j+1))%D*4294967296+l[j])/D))) zo hsl hsv) (fun n hn=>wA hn) (.cons (g9 hk9 (vq 0 G)) (.cons (vq 3 G) .nil))) (zA 4 G o0)))))) (fun a w U=>?_)
    have U:St B W2 68 [(0,_),(1,_),(8,_),(10,_),(9,_)] [⟨8,109,slH _ _,_⟩] a w:=U
    refine ao ?_
    refine a7<|zg [none] [] [.v 36 _,.v 37 _,.v 10 _] [.g 0,.g 1,.g 2,.g 4,.o 2] U (zM 3 G (zv G (ck (vq 0 G) a8 (wi64 zo zo)) (zA 1 G o0))) (fun a w U=>?_)
    have U:St B W2 68 [(0,_),(1,_),(8,_),(9,_),(10,_)] [⟨8,109,slH _ _,_⟩] a w:=U
    refine a7 ?_
    have U:=St.sel U [0,1,2,3,4]
    obtain ⟨v9c,h9c,U⟩:=St.toE U 3 rfl
    have hne:blk v9c≠some go:=fun e=>by have:=mA h9c go e; omega
    have hsz:=U.base.size
    exact ⟨j,by omega,v9c,v8,go,⟨by omega,⟨by rw [← nB hD hj,← sub_mod',hsub]; exact mB _ _ _ h9c,hne,hR.may,by omega⟩,hv8⟩,by have U:=hback U; rw [nA hl hD hj] at U; exact U⟩
  ·obtain rfl:n=0:=by simp at hb1; omega
   have h9:=hk9 _ U.base
   have U:=hback U
   have U:=St.eqF U 3 rfl h9
   refine wp_exit<|ak<|ak<|aC<|zt<|zg [none] [] [.adr 65 8 .none True,.v 66 _,.v 67 _,.v 4 _,.v 5 _] [.g 2,.o 3,.o 4] U (oc (ob_a G G cL) (zv G (aa (xs:=[.tmp 65]) (dR famN _) (.cons (g8 0 G zk (lz0 0 G) ⟨by rw [fk (Nat.zero_le _)],Nat.le_refl _,by unfold maxLen; omega,sj⟩ (by rw [fk (Nat.zero_le _)])) .nil)) (zM 3 G (zA 1 G (zA 2 G o0))))) (zz [(8,_),(4,_),(5,_)] [⟨8,109,slH _ _,_⟩] fun a w U=>?_)
   refine a7<|wp_ret<|ar ?_ (aS (rs:=[.tmp 4,.tmp 5]) G U (.tmp (zm 1 G) (.tmp (zm 2 G) .nil)) zd)
   rw [y4 hl,List.drop_zero]; exact tu2w lL bh
theorem vh {l m:List Nat}(hl:okL l)(hm:okL m):val (digs (addN l m) (val l+val m))=val l+val m:=by
 rw [dn,Nat.mod_eq_of_lt]
 unfold addN
 split
 ·assumption
 ·exact xT hl hm
theorem vY {a b:Int}(h:((riOf a).neg==(riOf b).neg)=true):(RIA (rsig (riOf a).neg (digs (addN (riOf a).mag (riOf b).mag) (val (riOf a).mag+val (riOf b).mag)))).va=Zi (a+b):=by
 have h':decide (a<0)=decide (b<0):=by simpa [riOf] using h
 rw [bS (bN _ _) (z:=a+b) (by rw [vh (kS a) (kS b),bx,bx]; simp only [decide_eq_decide] at h'; omega) (fun hz=>by show decide (a<0)=_; simp only [decide_eq_decide] at h' ⊢; omega)]
theorem cm_ge0 {X Y:Nat}:cmL (limbs X) (limbs Y)≥0↔Y≤X:=by
 rw [fa]
 split
 ·omega
 ·split <;> omega
theorem kE {a b:Int}(h:decide (cmL (riOf a).mag (riOf b).mag≥0)=true):b.natAbs≤a.natAbs:=cm_ge0.1 (of_decide_eq_true h)
theorem kD {a b:Int}(h:decide (cmL (riOf a).mag (riOf b).mag≥0)=false):a.natAbs≤b.natAbs:=Nat.le_of_lt (Nat.lt_of_not_le fun h2=>of_decide_eq_false h (cm_ge0.2 h2))
theorem wx {p q:Int}(h:p*q≠0):(decide (p<0) != decide (q<0))=decide (p*q<0):=by
 have hp:p≠0:=fun e=>h (by rw [e,Int.zero_mul])
 have hq:q≠0:=fun e=>h (by rw [e,Int.mul_zero])
 rcases Int.lt_or_le p 0 with h1 | h1 <;> rcases Int.lt_or_le q 0 with h2 | h2
 ·have:=Int.mul_pos_of_neg_of_neg h1 h2
  rw [decide_eq_true h1,decide_eq_true h2,decide_eq_false zo]; rfl
 ·have:=Int.mul_neg_of_neg_of_pos h1 (show 0<q by omega)
  rw [decide_eq_true h1,decide_eq_false (show ¬ q<0 by omega),decide_eq_true this]; rfl
 ·have:=Int.mul_neg_of_pos_of_neg (show 0<p by omega) h2
  rw [decide_eq_false (show ¬ p<0 by omega),decide_eq_true h2,decide_eq_true this]; rfl
 ·have:=Int.mul_pos (show 0<p by omega) (show 0<q by omega)
  rw [decide_eq_false (show ¬ p<0 by omega),decide_eq_false (show ¬ q<0 by omega),decide_eq_false zo]; rfl
theorem vV {p q:Int}:(RIA (rsig ((riOf p).neg != (riOf q).neg) (limbs (val (riOf p).mag*val (riOf q).mag)))).va=Zi (p*q):=congrArg (fun x=>(RIA x).va) (bS (bo _).1 (z:=p*q) (by rw [aG,bx,bx,Int.natAbs_mul]) wx)
theorem rdiv_q {p q:Int}:(RIA (rsig ((riOf p).neg != (riOf q).neg) (limbs (val (riOf p).mag/q.natAbs)))).va=Zi (p.tdiv q):=congrArg (fun x=>(RIA x).va) (bS (bo _).1 (z:=p.tdiv q) (by rw [aG,bx,iq]) pP)
theorem DB {p q:Int}:(RIA (rsig (riOf p).neg (limbs (val (riOf p).mag%q.natAbs)))).va=Zi (p.tmod q):=congrArg (fun x=>(RIA x).va) (bS (bo _).1 (z:=p.tmod q) (by rw [aG,bx,fY]) kZ)
theorem oV (p q:Int)(hp:lz p≤1000000000)(hq:lz q≤1000000000):Cn Tryz.prog 120 [Zi p,Zi q] (Zi (p+q)):=by
 refine Cn.intro Tryz.func120 G zk nq (fun B w0 a U=>?_)
 have U:=zn [(0,Zi p),(1,Zi q)] [] U
 refine wp_seq<|zg [] [⟨2,25,ptrH,some 0,_,none⟩,⟨3,25,ptrH,some 1,_,none⟩,⟨4,25,ptrH,some 2,_,none⟩] [.alc 0,.alc 1,.alc 2] [] U (oc (ay G G G (gq 0 G)) (oc (ay G G G (gq 1 G)) (oc (aJ G G G (Str.zero bm)) o0))) (zz [] [O 2 25 _,O 3 25 _,O 4 25 _] fun a w U=>?_)
 refine zt<|wp_seq<|zg [none,none,none] [] [.adr 5 2 (.some 0) True,.v 6 _,.adr 7 3 (.some 0) True,.v 8 _,.v 9 _] [.o 4] U (oc (ob_a G G (ac (lz0 0 G) aU)) (zL 0 0 0 G ty_4 (oc (ob_a G G (ac (lz0 1 G) aU)) (zL 2 1 0 G ty_4 (zv G (sB zk (vq 1 G) (vq 3 G)) o0))))) (zz [(9,_)] [O 2 25 _,O 3 25 _,O 4 25 _] fun a w U=>?_)
 refine a7<|ah U (zm 0 G) (fun hb0=>?_) (fun hb0=>?_)
 ·refine wp_seq<|zgd [[],[0],[],[2],[],[4],[2,3,4,5],[0,1,2,3,4,5,6],[0,1,2,3,4,5,6,7]] [none,none,some (8,_)] [] [.adr 10 2 (.some 0) True,.v 11 _,.adr 12 2 (.some 1) True,.v 13 _,.adr 14 3 (.some 1) True,.v 15 _,.v 16 _,.v 17 _,.sto 2] [] ab U (oc (ob_a G G (ac (lz0 0 G) aU)) (zL 0 0 0 G ty_4 (oc (ob_a G G (ac (lz0 0 G) au)) (zL 2 0 1 G aW (oc (ob_a G G (ac (lz0 1 G) au)) (zL 4 1 1 G aW (zv G (aa (xs:=[.tmp 13,.tmp 15]) (radd_c _ _ (Nat.le_trans hp zd) (Nat.le_trans hq zd)) (.cons (vq 3 G) (.cons (vq 5 G) .nil))) (zv G (aa (xs:=[.tmp 11,.tmp 16]) (bY _ _) (.cons (vq 1 G) (.cons (vq 6 G) .nil))) (oc (aA G G G (vq 7 G) al (Eq.trans (b:=2) G G)) o0))))))))) zk zk zk zk (zz [] [O 2 25 _,O 3 25 _,O 4 25 _] fun a w U=>?_)
  refine a7<|wp_ret<|ap ?_
  refine ar ?_ (az G U (zm 2 G) al)
  exact bc (vY hb0)
 ·refine wp_skip<|zt<|wp_seq<|zg [none,none,none] [] [.adr 18 2 (.some 1) True,.v 19 _,.adr 20 3 (.some 1) True,.v 21 _,.v 22 _,.v 23 _] [.o 5] U (oc (ob_a G G (ac (lz0 0 G) au)) (zL 0 0 1 G aW (oc (ob_a G G (ac (lz0 1 G) au)) (zL 2 1 1 G aW (zv G (aa (xs:=[.tmp 19,.tmp 21]) (mn _ _) (.cons (vq 1 G) (.cons (vq 3 G) .nil))) (zv G (eK (vq 4 G) a8) o0)))))) (zz [(23,_)] [O 2 25 _,O 3 25 _,O 4 25 _] fun a w U=>?_)
  refine a7<|ah U (zm 0 G) (fun hb1=>?_) (fun hb1=>?_)
  ·refine wp_seq<|zgd [[],[0],[],[2],[],[4],[2,3,4,5],[0,1,2,3,4,5,6],[0,1,2,3,4,5,6,7]] [none,none,some (8,_)] [] [.adr 24 2 (.some 0) True,.v 25 _,.adr 26 2 (.some 1) True,.v 27 _,.adr 28 3 (.some 1) True,.v 29 _,.v 30 _,.v 31 _,.sto 2] [] ab U (oc (ob_a G G (ac (lz0 0 G) aU)) (zL 0 0 0 G ty_4 (oc (ob_a G G (ac (lz0 0 G) au)) (zL 2 0 1 G aW (oc (ob_a G G (ac (lz0 1 G) au)) (zL 4 1 1 G aW (zv G (aa (xs:=[.tmp 27,.tmp 29]) (sf _ _ (Nat.le_trans hp zd) (cf (kE hb1)) (by show val (limbs _)≤val (limbs _); rw [aG,aG]; exact kE hb1)) (.cons (vq 3 G) (.cons (vq 5 G) .nil))) (zv G (aa (xs:=[.tmp 25,.tmp 30]) (bY _ _) (.cons (vq 1 G) (.cons (vq 6 G) .nil))) (oc (aA G G G (vq 7 G) al (Eq.trans (b:=2) G G)) o0))))))))) zk zk zk zk (zz [] [O 2 25 _,O 3 25 _,O 4 25 _] fun a w U=>?_)
   refine a7<|wp_ret<|ap ?_
   refine ar ?_ (az G U (zm 2 G) al)
   exact bc (sP hb0 (kE hb1))
  ·refine wp_skip<|zt<|zgd [[],[0],[],[2],[],[4],[2,3,4,5],[0,1,2,3,4,5,6],[0,1,2,3,4,5,6,7]] [none,none,some (8,_)] [] [.adr 32 3 (.some 0) True,.v 33 _,.adr 34 3 (.some 1) True,.v 35 _,.adr 36 2 (.some 1) True,.v 37 _,.v 38 _,.v 39 _,.sto 2] [] ab U (oc (ob_a G G (ac (lz0 1 G) aU)) (zL 0 1 0 G ty_4 (oc (ob_a G G (ac (lz0 1 G) au)) (zL 2 1 1 G aW (oc (ob_a G G (ac (lz0 0 G) au)) (zL 4 0 1 G aW (zv G (aa (xs:=[.tmp 35,.tmp 37]) (sf _ _ (Nat.le_trans hq zd) (cf (kD hb1)) (by show val (limbs _)≤val (limbs _); rw [aG,aG]; exact kD hb1)) (.cons (vq 3 G) (.cons (vq 5 G) .nil))) (zv G (aa (xs:=[.tmp 33,.tmp 38]) (bY _ _) (.cons (vq 1 G) (.cons (vq 6 G) .nil))) (oc (aA G G G (vq 7 G) al (Eq.trans (b:=2) G G)) o0))))))))) zk zk zk zk (zz [] [O 2 25 _,O 3 25 _,O 4 25 _] fun a w U=>?_)
   refine a7<|wp_ret<|ar ?_ (az G U (zm 2 G) al)
   exact bc (sO hb0 (kD hb1))
theorem mj (p q:Int)(hp:lz p≤1000000000)(hq:lz q≤1000000000):Cn Tryz.prog 196 [Zi p,Zi q] (Zi (p-q)):=by
 refine Cn.intro Tryz.func196 G zk nq (fun B w0 a U=>?_)
 have U:=zn [(0,Zi p),(1,Zi q)] [] U
 refine wp_seq<|zg [] [⟨2,25,ptrH,some 0,_,none⟩,⟨3,25,ptrH,some 1,_,none⟩,⟨4,25,ptrH,some 2,_,none⟩] [.alc 0,.alc 1,.alc 2] [] U (oc (ay G G G (gq 0 G)) (oc (ay G G G (gq 1 G)) (oc (aJ G G G (Str.zero bm)) o0))) (zz [] [O 2 25 _,O 3 25 _,O 4 25 _] fun a w U=>?_)
 refine zt<|zgd [[],[],[1],[0,1,2],[0,1,2,3]] [none,none,some (4,_)] [] [.v 5 _,.v 6 _,.v 7 _,.v 8 _,.sto 2] [] ab U (zl 0 G al (zl 1 G al (zv G (aa (xs:=[.tmp 6]) (sb q) (.cons (vq 1 G) .nil)) (zv G (aa (xs:=[.tmp 5,.tmp 7]) (oV p (-q) hp (by rw [j3]; exact hq)) (.cons (vq 0 G) (.cons (vq 2 G) .nil))) (oc (aA G G G (vq 3 G) al (Eq.trans (b:=2) G G)) o0))))) zk zk zk zk (zz [] [O 2 25 _,O 3 25 _,O 4 25 _] fun a w U=>?_)
 refine a7<|wp_ret<|ar ?_ (az G U (zm 2 G) al)
 exact bc (congrArg Zi Int.sub_eq_add_neg.symm)
theorem sd (p q:Int)(hp:lz p≤1000000000)(hq:lz q≤1000000000):Cn Tryz.prog 121 [Zi p,Zi q] (Zi (p*q)):=by
 refine Cn.intro Tryz.func121 G zk nq (fun B w0 a U=>?_)
 have U:=zn [(0,Zi p),(1,Zi q)] [] U
 refine wp_seq<|zg [] [⟨2,25,ptrH,some 0,_,none⟩,⟨3,25,ptrH,some 1,_,none⟩,⟨4,25,ptrH,some 2,_,none⟩] [.alc 0,.alc 1,.alc 2] [] U (oc (ay G G G (gq 0 G)) (oc (ay G G G (gq 1 G)) (oc (aJ G G G (Str.zero bm)) o0))) (zz [] [O 2 25 _,O 3 25 _,O 4 25 _] fun a w U=>?_)
 refine zt<|zgd [[],[0],[],[2],[0,1,2,3],[],[5],[],[7],[5,6,7,8],[0,1,2,3,4,5,6,7,8,9],[0,1,2,3,4,5,6,7,8,9,10]] [none,none,some (11,_)] [] [.adr 5 2 (.some 0) True,.v 6 _,.adr 7 3 (.some 0) True,.v 8 _,.v 9 _,.adr 10 2 (.some 1) True,.v 11 _,.adr 12 3 (.some 1) True,.v 13 _,.v 14 _,.v 15 _,.sto 2] [] ab U (oc (ob_a G G (ac (lz0 0 G) aU)) (zL 0 0 0 G ty_4 (oc (ob_a G G (ac (lz0 1 G) aU)) (zL 2 1 0 G ty_4 (zv G (jY zk (vq 1 G) (vq 3 G)) (oc (ob_a G G (ac (lz0 0 G) au)) (zL 5 0 1 G aW (oc (ob_a G G (ac (lz0 1 G) au)) (zL 7 1 1 G aW (zv G (aa (xs:=[.tmp 11,.tmp 13]) ((sk _ _ (Nat.le_trans hp zd) (Nat.le_trans hq zd)).wkp lL) (.cons (vq 6 G) (.cons (vq 8 G) .nil))) (zv G (aa (xs:=[.tmp 9,.tmp 14]) (bY _ _) (.cons (vq 4 G) (.cons (vq 9 G) .nil))) (oc (aA G G G (vq 10 G) al (Eq.trans (b:=2) G G)) o0)))))))))))) zk zk zk zk (zz [] [O 2 25 _,O 3 25 _,O 4 25 _] fun a w U=>?_)
 refine a7<|wp_ret<|ar ?_ (az G U (zm 2 G) al)
 exact bc vV
theorem jW (p q:Int)(hq0:q≠0)(hp:lz p≤1000000000)(hq:lz q≤1000000000):Cn Tryz.prog 188 [Zi p,Zi q] (Tu [Zi (p.tdiv q),Zi (p.tmod q)]):=by
 refine Cn.intro Tryz.func188 G zk nq (fun B w0 a U=>?_)
 have U:=zn [(0,Zi p),(1,Zi q)] [] U
 refine wp_seq<|zg [] [⟨2,25,ptrH,some 0,_,none⟩,⟨3,25,ptrH,some 1,_,none⟩,⟨4,25,ptrH,some 2,_,none⟩,⟨5,25,ptrH,some 3,_,none⟩] [.alc 0,.alc 1,.alc 2,.alc 3] [] U (oc (ay G G G (gq 0 G)) (oc (ay G G G (gq 1 G)) (oc (aJ G G G (Str.zero bm)) (oc (aJ G G G (Str.zero bm)) o0)))) (zz [] [O 2 25 _,O 3 25 _,O 4 25 _,O 5 25 _] fun a w U=>?_)
 refine zt<|zg [none,none,none,none] [] [.adr 9 2 (.some 1) True,.v 10 _,.adr 11 3 (.some 1) True,.v 12 _,.v 13 _,.v 8 _,.v 14 _,.v 15 _,.v 6 _,.v 7 _] [.o 8,.o 9] U (oc (ob_a G G (ac (lz0 0 G) au)) (zL 0 0 1 G aW (oc (ob_a G G (ac (lz0 1 G) au)) (zL 2 1 1 G aW (zv G (aa (xs:=[.tmp 10,.tmp 12]) (su (D:=q.natAbs) (riOf p).mag zo hp hq) (.cons (vq 1 G) (.cons (vq 3 G) .nil))) (zv G (ae (vq 4 G)) (zv G (aQ (vq 5 G) G) (zv G (aQ (vq 5 G) G) (zA 6 G (zA 7 G o0)))))))))) (zz [(6,_),(7,_)] [O 2 25 _,O 3 25 _,O 4 25 _,O 5 25 _] fun a w U=>?_)
 refine zt<|zgd [[],[0],[],[2],[0,1,2,3],[],[0,1,2,3,4,5],[],[7],[],[0,1,2,3,4,5,6,7,8,9],[0,1,2,3,4,5,6,7,8,9,10],[0,1,2,3,4,5,6,7,8,9,10,11]] [none,none,some (11,_),some (12,_)] [] [.adr 16 2 (.some 0) True,.v 17 _,.adr 18 3 (.some 0) True,.v 19 _,.v 20 _,.v 21 _,.v 22 _,.adr 23 2 (.some 0) True,.v 24 _,.v 25 _,.v 26 _,.sto 2,.sto 3] [] ab U (oc (ob_a G G (ac (lz0 0 G) aU)) (zL 0 0 0 G ty_4 (oc (ob_a G G (ac (lz0 1 G) aU)) (zL 2 1 0 G ty_4 (zv G (jY zk (vq 1 G) (vq 3 G)) (zM 0 G (zv G (aa (xs:=[.tmp 20,.tmp 21]) (bY _ _) (.cons (vq 4 G) (.cons (vq 5 G) .nil))) (oc (ob_a G G (ac (lz0 0 G) aU)) (zL 7 0 0 G ty_4 (zM 1 G (zv G (aa (xs:=[.tmp 24,.tmp 25]) (bY _ _) (.cons (vq 8 G) (.cons (vq 9 G) .nil))) (oc (aA G G G (vq 6 G) al (Eq.trans (b:=2) G G)) (oc (aA G G G (vq 10 G) al (Eq.trans (b:=2) G G)) o0))))))))))))) zk zk zk zk (zz [] [O 2 25 _,O 3 25 _,O 4 25 _,O 5 25 _] fun a w U=>?_)
 refine a7<|wp_ret<|ar ?_ (aS (rs:=[.cell 4 25,.cell 5 25]) G U (.cell (zm 2 G) al (.cell (zm 3 G) al .nil)) zd)
 exact tu2w (bc rdiv_q) (bc DB)
def bln:Nat→Nat
 | 0=>0
 | n+1=>bln ((n+1)/2)+1
decreasing_by omega
theorem quo32 {t:Nat}(h:t<4294967296):IntKind.u32.wrap ((t:Int).tdiv ((2:Nat):Int))=((t/2:Nat):Int):=by
 rw [Int.tdiv_eq_ediv_of_nonneg zo,← Int.natCast_ediv,wu32 zo]
theorem ow {n:Nat}(h:0<n):bln n=bln (n/2)+1:=by
 cases n with
 | zero=>omega
 | succ n=>rw [bln]
theorem z5:∀ (k n:Nat),n<2^k→bln n≤k
 | k,0,_=>by rw [bln]; omega
 | 0,n+1,h=>by simp at h
 | k+1,n+1,h=>by
  rw [bln]
  have:=z5 k ((n+1)/2) (by rw [Nat.pow_succ] at h; omega)
  omega
def bitF (p:Int):Nat:=if lz p=0 then 0 else 32*(lz p-1)+bln ((limbs p.natAbs).getD (lz p-1) 0)
theorem Di {p:Int}(h:lz p≠0):0<(limbs p.natAbs).getD (lz p-1) 0:=by
 apply Decidable.byContradiction
 intro hn
 have hlt:lz p-1<(limbs p.natAbs).length:=by show lz p-1<lz p; omega
 rw [cK hlt] at hn
 have e:limbs p.natAbs=(limbs p.natAbs).take (lz p-1)++[0]:=by
  have h2:=List.take_succ_eq_append_getElem hlt
  rw [List.take_of_length_le (by show lz p≤lz p-1+1; omega)] at h2
  rw [show (limbs p.natAbs)[lz p-1]=0 by omega] at h2
  exact h2
 have hv:=aG p.natAbs
 rw [e,i9,Nat.mul_zero,Nat.add_zero] at hv
 have h3:=eM (l:=(limbs p.natAbs).take (lz p-1)) (fun x hx=>(bo _).1 x (List.mem_of_mem_take hx))
 rw [hv] at h3
 have h4:=dN h3
 rw [List.length_take] at h4
 have h5:lz p=(limbs p.natAbs).length:=rfl
 omega
theorem xB {p:Int}(h:bitF p=1):p.natAbs=1:=by
 unfold bitF at h
 split at h
 ·omega
 ·rename_i h0
  have h1:=Di h0
  rw [ow h1] at h
  have h2:lz p=1:=by omega
  have h3:bln ((limbs p.natAbs).getD (lz p-1) 0/2)=0:=by omega
  have h4:(limbs p.natAbs).getD (lz p-1) 0=1:=by
   apply Decidable.byContradiction
   intro hn
   have:=ow (n:=(limbs p.natAbs).getD (lz p-1) 0/2) zo
   omega
  have h5:=mG (D:=p.natAbs) h2
  have h6:(limbs p.natAbs).getD 0 0=1:=by rw [h2] at h4; exact h4
  rw [cK (by show 0<lz p; omega)] at h6
  omega
theorem nD (p:Int)(hp:lz p≤1000000000):Cn Tryz.prog 214 [Zi p] (In (bitF p:Nat)):=by
 have hrl:(riOf p).mag.length=lz p:=rfl
 refine Cn.intro Tryz.func214 G zk nq (fun B w0 a U=>?_)
 have U:=zn [(0,Zi p)] [] U
 refine wp_seq<|zg [] [⟨1,25,ptrH,some 0,_,none⟩] [.alc 0,.v 2 _] [.o 1] U (oc (ay G G G (gq 0 G)) (zv G (a9 a8) o0)) (zz [(2,_)] [O 1 25 _] fun a w U=>?_)
 refine zt<|wp_seq<|zg [none] [] [.adr 5 1 (.some 1) True,.v 6 _,.v 7 _,.v 8 _] [.g 0,.o 3] U (oc (ob_a G G (ac (lz0 0 G) au)) (zL 0 0 1 G aW (zv G (aI Tryz.underlying23 (vq 1 G)) (zv G (bD (vq 2 G) a8) o0)))) (zz [(2,_),(8,_)] [O 1 25 _] fun a w U=>?_)
 refine a7<|ah U (zm 1 G) (fun hb0=>?_) (fun hb0=>?_)
 ·have h0:lz p=0:=by simp at hb0; rw [← hrl,hb0]; rfl
  refine wp_seq<|zg [none] [] [.v 2 _] [.o 0] U (zv G (a9 a8) o0) (zz [(2,_)] [O 1 25 _] fun a w U=>?_)
  refine a7<|wp_ret<|ap ?_
  refine ar ?_ (am G U (zm 0 G))
  rw [show bitF p=0 by rw [bitF,if_pos h0]]; exact bh
 ·have h0:lz p≠0:=by intro e; rw [← hrl] at e; simp [List.eq_nil_of_length_eq_zero e] at hb0
  have hlt:lz p-1<(limbs p.natAbs).length:=by show lz p-1<lz p; omega
  have htop:(limbs p.natAbs).getD (lz p-1) 0<4294967296:=eZ (bo _).1 _
  have hbt:32*(lz p-1)+bln ((limbs p.natAbs).getD (lz p-1) 0)=bitF p:=by rw [bitF,if_neg h0]
  have hb32:=z5 32 _ htop
  refine wp_skip<|zt<|zg [none] [] [.adr 9 1 (.some 1) True,.v 10 _,.v 11 _,.v 12 _,.v 13 _,.v 3 _] [.g 0,.o 5] U (oc (ob_a G G (ac (lz0 0 G) au)) (zL 0 0 1 G aW (zv G (aI Tryz.underlying23 (vq 1 G)) (zv G (ck (vq 2 G) a8 ((wi64 zo zo).trans (by omega:(_:Int)=((lz p-1:Nat):Int)))) (zv G (kG a8 (vq 3 G) ((wi64 zo zo).trans (by omega:(_:Int)=((32*(lz p-1):Nat):Int)))) (zA 4 G o0)))))) (zz [(2,_),(3,_)] [O 1 25 _] fun a w U=>?_)
  refine zt<|wp_seq<|zg [none] [] [.adr 14 1 (.some 1) True,.v 15 _,.adr 16 1 (.some 1) True,.v 17 _,.v 18 _,.v 19 _,.v 20 _,.v 21 _,.v 4 _] [.g 0,.g 1,.o 8] U (oc (ob_a G G (ac (lz0 0 G) au)) (zL 0 0 1 G aW (oc (ob_a G G (ac (lz0 0 G) au)) (zL 2 0 1 G aW (zv G (aI Tryz.underlying23 (vq 3 G)) (zv G (ck (vq 4 G) a8 ((wi64 zo zo).trans (by omega:(_:Int)=((lz p-1:Nat):Int)))) (zv G (bH aZ (vq 1 G) (vq 5 G) hlt) (zv G (aq (vq 6 G) aO) (zA 7 G o0))))))))) (zz [(2,_),(3,_),(4,_)] [O 1 25 _] fun a w U=>?_)
  refine a7<|wp_block ?_
  have U:=St.sel U [1,2]
  refine wp_loop_ghost (fun n a w=>∃ s t:Nat,(t<4294967296∧n=t∧s+bln t=bitF p)∧St B w0 29 [(3,In (s:Nat)),(4,(NumA .u32 (t:Nat)).va)] [⟨1,25,ptrH,RIA (riOf p)⟩] a w) ((limbs p.natAbs).getD (lz p-1) 0) ?_ ?_
  ·rw [← cK hlt] at U; exact ⟨_,_,⟨htop,rfl,hbt⟩,U⟩
  intro n a w hI
  obtain ⟨s,t,⟨ht,hnt,hs⟩,U⟩:=hI
  refine wp_seq<|wp_seq<|zg [none] [] [.v 22 _,.v 23 _] [.g 0,.g 1,.o 1] U (zM 1 G (zv G (dJ (vq 0 G) (aF 0 G)) o0)) (zz [(3,_),(4,_),(23,_)] [O 1 25 _] fun a w U=>?_)
  refine a7<|ah U (zm 2 G) (fun hb1=>?_) (fun hb1=>?_)
  ·have hb1:0<t:=by simp at hb1; omega
   refine wp_skip<|zt<|wp_block<|zg [none] [] [.v 26 _,.v 27 _,.v 3 _] [.g 1,.o 2] U (zM 0 G (zv G (aR (vq 0 G) a8 (aX zo)) (zA 1 G o0))) (zz [(4,_),(3,_)] [O 1 25 _] fun a w U=>?_)
   refine ao ?_
   refine a7<|zg [none] [] [.v 24 _,.v 25 _,.v 4 _] [.g 1,.o 2] U (zM 0 G (zv G (jE (vq 0 G) (aF 2 G) zd (quo32 ht)) (zA 1 G o0))) (zz [(3,_),(4,_)] [O 1 25 _] fun a w U=>?_)
   refine a7 ?_
   have U:=St.sel U [0,1]
   exact ⟨t/2,by omega,s+1,t/2,⟨by omega,rfl,by rw [ow hb1] at hs; omega⟩,U⟩
  ·have ht0:t=0:=by simp at hb1; omega
   refine wp_exit<|ak<|ak<|aC<|zt<|zg [none] [] [.v 28 _,.v 2 _] [.o 1] U (zM 0 G (zA 0 G o0)) (zz [(2,_)] [O 1 25 _] fun a w U=>?_)
   refine a7<|wp_ret<|ar ?_ (am G U (zm 0 G))
   rw [show bitF p=s by rw [← hs,ht0,bln]; rfl]; exact bh
theorem se (l:List Nat)(x:Nat)(hls:l.length≤1099511627776)(hx:x<4294967296):Cn Tryz.prog 232 [(MgA l).va,(NumA .u32 (x:Nat)).va] ((MgN (limbs (val l*x))).va):=by
 refine Cn.intro Tryz.func232 G zk nq (fun B w0 a U=>?_)
 have U:=zn [(0,(MgA l).va),(1,(NumA .u32 (x:Nat)).va)] [] U
 refine wp_seq<|zh [.v 4 _] [.g 0,.g 1,.o 0] U (zv G (a9 aP) o0) (zz [(0,_),(1,_),(4,_)] [] fun a w U=>?_)
 refine zt<|zh [.v 5 _,.v 6 _,.v 7 _,.v 8 _,.v 9 _,.v 4 _] [.o 5] U (zM 0 G (zM 1 G (zv G (da (l:=[_]) (xs:=[.tmp 6]) aZ zk nq nq ((ew hx)) (.cons (vq 1 G) .nil) G G) (zv G (aa (xs:=[.tmp 7]) (dR famA _) (.cons (vq 2 G) .nil)) (zv G (aa (xs:=[.tmp 5,.tmp 8]) (sk l (trimL [x]) hls (Nat.le_trans (ia x).1 zd)) (.cons (vq 0 G) (.cons (vq 3 G) .nil))) (zA 4 G o0)))))) (zz [(4,_)] [] fun a w U=>?_)
 refine a7<|wp_ret<|ar ?_ (am G U (zm 0 G))
 rw [(ia x).2]; exact bh
theorem nh {B:Nat}{w:World}:∀ (l:List Nat),(cat (NL l)).p B (l.map fun (x:Nat)=>Value.int .u32 x) w
 | []=>⟨[],rfl,.nil⟩
 | x::l=>by
  obtain ⟨ps,e,hp⟩:=nh (B:=B) (w:=w) l
  exact ⟨[.int .u32 x]::ps,by show _::_=_; rw [List.flatten_cons,← e]; rfl,.cons G hp⟩
theorem St.rowO {B N:Nat}{w0:Bs}{Γ:List (Nat × VA)}{Λ:List Lc}{a:Act}{w:World}(h:St B w0 N Γ Λ a w)(hB:B=w0.w.heap.size){s:Nat}{l:List Nat}{n:Nat}(hn:n=l.length)(hl:l.length≤maxLen)(e:Nat)(he:Λ[e]?=some ⟨s,U32,slH n n,Nums .u32 l⟩) :
  St B w0 N ((s,OwnR w0.w.heap.size U32 1 [] (NL l))::Γ) (Λ.eraseIdx e) a w:=by
 subst hn
 obtain ⟨g,cs,e1,e2,e3,e4⟩:=h.locs _ (List.mem_of_getElem? he)
 have e4':cs=l.map fun (x:Nat)=>Value.int .u32 x:=e4
 refine ⟨h.lo,h.defers,h.size,h.base,fun x hx=>?_,fun m hm=>h.locs m (List.mem_of_mem_eraseIdx hm),fun m hm m' hm' hne=>h.dis m (List.mem_of_mem_eraseIdx hm) m' (List.mem_of_mem_eraseIdx hm') hne⟩
 rcases List.mem_cons.1 hx with rfl | hx
 ·have q1:∀ A∈NL l,A.n=1:=fun A hA=>by
   obtain ⟨_,_,rfl⟩:=List.mem_map.1 hA; rfl
  have q2:∀ A∈NL l,∀ T∈A.deps,T∈([]:List TypeId):=kU
  have q3:(cat (NL l)).p B cs w:=by rw [e4']; exact nh l
  have q4:a.eval (.tmp s)=.slice (some ⟨g,0,none⟩) l.length l.length:=by rw [e1]; rfl
  exact ⟨q1,q2,cs,q3,by rw [e4']; simp,.inr ⟨g,l.length,cs.toArray,by rw [List.length_map]; exact q4,by rw [← hB]; exact h.lo g e2,e3,by simp,hl,by rw [e4']; simp,by rw [e4']; simp [List.take_of_length_le]⟩⟩
 ·exact h.vals x hx
theorem qi64 {x:Nat}(h:x<4611686018427387904):IntKind.i64.wrap ((x:Int).tdiv 32)=((x/32:Nat):Int):=by
 rw [show (32:Int)=((32:Nat):Int) from rfl,Int.tdiv_eq_ediv_of_nonneg zo,← Int.natCast_ediv,wi64 zo zo]
theorem wmul32 {i:Nat}(h:i<31):IntKind.u32.wrap (((2:Nat):Int)*((2^i:Nat):Int))=((2^(i+1):Nat):Int):=by
 have h1:2^(i+1)≤2^31:=Nat.pow_le_pow_right zd zo
 rw [← Int.natCast_mul,Nat.mul_comm,← Nat.pow_succ,wu32 (Nat.lt_of_le_of_lt h1 zd)]
theorem pow32 (k:Nat):4294967296^k=2^(32*k):=by rw [Nat.pow_mul]
theorem we {i:Nat}(h:i<32):2^i<4294967296:=Nat.lt_of_le_of_lt (Nat.pow_le_pow_right zd (show i≤31 by omega)) zd
theorem dbl_e {p:Int}{t:Nat}:(RIN (rsig (riOf p).neg (limbs (val (List.replicate (t/32) 0++(riOf p).mag)*2^(t%32))))).va=(RIN (riOf (p*((2^t:Nat):Int)))).va:=by
 have hpos:(0:Int)<((2^t:Nat):Int):=by exact_mod_cast Nat.pow_pos (by decide:0<2)
 refine congrArg (fun x=>(RIN x).va) (bS (bo _).1 (z:=p*((2^t:Nat):Int)) ?_ fun hz=>?_)
 ·rw [aG,gA,lO,List.length_replicate,bx,Nat.zero_add,Int.natAbs_mul,Int.natAbs_natCast,pow32,Nat.mul_right_comm,← Nat.pow_add,Nat.div_add_mod,Nat.mul_comm]
 ·show decide (p<0)=_
  rw [decide_eq_decide]
  exact ⟨fun h=>Int.mul_neg_of_neg_of_pos h hpos,fun h=>by
   apply Decidable.byContradiction
   intro hn
   have:=Int.mul_nonneg (show 0≤p by omega) (Int.le_of_lt hpos)
   omega⟩
theorem ss (p:Int)(t:Nat)(hp0:p≠0)(hp:lz p≤1000000000)(ht:t≤64000000000):Cn Tryz.prog 229 [Zi p,In (t:Nat)] ((RIN (riOf (p*((2^t:Nat):Int)))).va):=by
 obtain ⟨it,z,e1,e2,e3,e4,e5⟩:=jt
 refine Cn.introW Tryz.func229 G zk nq (.cons (qj _).va (.cons (oB _ _).va .nil)) (fN _).va (fun B w0 a hB0 U=>?_)
 have U:=zn [(0,(RIO (riOf p)).va),(1,In (t:Nat))] [] U
 refine wp_seq<|zg [] [⟨2,25,ptrH,some 0,_,none⟩,⟨4,25,ptrH,some 1,_,none⟩] [.alc 0,.alc 1] [.g 1] U (oc (ay G G G (gq 0 G)) (oc (aJ G G G (Str.zero fj)) o0)) (zz [(1,_)] [O 2 25 _,O 4 25 _] fun a w U=>?_)
 refine zt<|wp_seq<|zg [none,none] [] [.adr 8 2 (.some 1) True,.v 9 _,.v 10 _,.v 11 _] [.g 0,.o 3] U (oc (ob_a G G (ac (lz0 0 G) au)) (zL 0 0 1 G aW (zv G (aI Tryz.underlying23 (aL (vq 1 G))) (zv G (bD (vq 2 G) a8) o0)))) (zz [(1,_),(11,_)] [O 2 25 _,O 4 25 _] fun a w U=>?_)
 refine a7<|ah U (zm 1 G) (fun hb0=>?_) (fun hb0=>?_)
 ·have h0:(riOf p).mag=[]:=by simpa using hb0
  exact absurd (hC hp0) (by show ¬ 0<(riOf p).mag.length; rw [h0]; decide)
 ·refine wp_skip<|zt<|d7 (sts:=[none,none]) (news:=[⟨15,109,slH _ _,some 2,_,none⟩]) (sp:=[.v 13 _,.v 14 _,.alc 2,.adr 5 15 .none True]) [.g 0] [(5,15)] [O 2 25 _,O 4 25 _,⟨5,109,slH _ _,_⟩] U (zM 0 G (zv G (jE (vq 0 G) a8 zd (qi64 zo)) (oc (dU G G G eI (vq 1 G) (vq 1 G) zo) (oc (ob_a G G jy) o0)))) zk zk zk ⟨⟨3,rfl⟩,trivial⟩ G zk (zz [(1,_)] [O 2 25 _,O 4 25 _,⟨5,109,slH _ _,_⟩] fun a w U=>?_)
  refine zt ?_
  have U:=St.rowO U hB0 (l:=List.replicate (t/32) 0) (by simp) (by simp; unfold maxLen; omega) 2 rfl
  have U:=zn [(5,_),(1,_)] [O 2 25 _,O 4 25 _] U
  refine ll (sp:=[.v 16 _,.adr 17 2 (.some 1) True,.v 18 _,.v 19 VT,.v 5 VT]) 3 [1] 0 2 U (zM 0 rfl (oc (ob_a rfl rfl (ac (lz0 0 rfl) au)) (zL 1 0 1 rfl aW o0))) rfl zk rfl rfl zd rfl zd rfl (fun w u h k=>by have h2:=SlO.use h; exact (dH h2).2) Tryz.underlying23 e1 e2 e3 e4 e5 zd (by simp only [List.length_map,List.length_replicate]; have:(riOf p).mag.length=lz p:=rfl; omega) zd (fun T hT=>hT) zd (fun A hA=>by obtain ⟨_,_,rfl⟩:=List.mem_map.1 hA; rfl) zk nq nq zk zk (zz [(5,_),(1,_)] [O 2 25 _,O 4 25 _] fun a w U=>?_)
  refine zt<|zg [none,none] [] [.v 6 _] [.g 0,.g 1,.o 0] U (zv G (a9 (aF 1 G)) o0) (zz [(5,_),(1,_),(6,_)] [O 2 25 _,O 4 25 _] fun a w U=>?_)
  refine zt<|wp_seq<|zg [none,none] [] [.v 7 _] [.g 0,.g 1,.g 2,.o 0] U (zv G (a9 a8) o0) (zz [(5,_),(1,_),(6,_),(7,_)] [O 2 25 _,O 4 25 _] fun a w U=>?_)
  refine a7<|wp_block ?_
  have U:=St.sel U [1,0,2,3]
  refine wp_loop_ghost (fun n a w=>∃ i:Nat,(n+i=t%32)∧St B w0 34 [(1,In (t:Nat)),(5,OwnR w0.w.heap.size U32 1 [] (NL (List.replicate (t/32) 0)++NL (riOf p).mag)),(6,(NumA .u32 (2^i:Nat)).va),(7,In (i:Nat))] [⟨2,25,ptrH,RIO (riOf p)⟩,⟨4,25,ptrH,cat [BoA false,MgO []]⟩] a w) (t%32) ?_ ?_
  ·exact ⟨0,by omega,U⟩
  intro n a w hI
  obtain ⟨i,hn,U⟩:=hI
  have hm32:=Nat.mod_lt t (by decide:0<32)
  refine wp_seq<|wp_seq<|zg [none,none] [] [.v 20 _,.v 21 _,.v 22 _,.v 23 _] [.g 0,.g 1,.g 2,.g 3,.o 3] U (zM 3 G (zM 0 G (zv G (jD (vq 1 G) a8 zd (nrem (y:=32))) (zv G (aN (vq 0 G) (vq 2 G)) o0)))) (zz [(1,_),(5,_),(6,_),(7,_),(23,_)] [O 2 25 _,O 4 25 _] fun a w U=>?_)
  refine a7<|ah U (zm 4 G) (fun hb1=>?_) (fun hb1=>?_)
  ·have hi:i<t%32:=by have:=of_decide_eq_true hb1; omega
   refine wp_skip<|zt<|wp_block<|zg [none,none] [] [.v 26 _,.v 27 _,.v 6 _] [.g 0,.g 1,.g 3,.o 2] U (zM 2 G (zv G (kG (aF 2 G) (vq 0 G) (wmul32 zo)) (zA 1 G o0))) (zz [(1,_),(5,_),(7,_),(6,_)] [O 2 25 _,O 4 25 _] fun a w U=>?_)
   refine ao ?_
   refine a7<|zg [none,none] [] [.v 24 _,.v 25 _,.v 7 _] [.g 0,.g 1,.g 3,.o 2] U (zM 2 G (zv G (aR (vq 0 G) a8 (aX zo)) (zA 1 G o0))) (zz [(1,_),(5,_),(6,_),(7,_)] [O 2 25 _,O 4 25 _] fun a w U=>?_)
   refine a7 ?_
   have U:=St.sel U [0,1,2,3]
   exact ⟨n-1,by omega,i+1,by omega,U⟩
  ·obtain rfl:i=t%32:=by have:=of_decide_eq_false hb1; omega
   have U:=St.wkG (A':=(MgA (List.replicate (t/32) 0++(riOf p).mag)).va) U 1 rfl (by unfold NL; rw [← List.map_append]; exact sY (okL_append.2 ⟨fun x hx=>by rw [(List.mem_replicate.1 hx).2]; decide,kS p⟩))
   refine wp_exit<|ak<|ak<|aC<|zt<|zgd [[],[0],[],[],[2,3],[0,1,2,3,4],[0,1,2,3,4,5]] [none,some (6,_)] [] [.adr 28 2 (.some 0) True,.v 29 _,.v 30 _,.v 31 _,.v 32 _,.v 33 _,.sto 1] [] ab U (oc (ob_a G G (ac (lz0 0 G) aU)) (zL 0 0 0 G ty_4 (zM 1 G (zM 2 G (zv G (aa (xs:=[.tmp 30,.tmp 31]) (se _ (2^(t%32)) (by simp only [List.length_append,List.length_replicate]; have:(riOf p).mag.length=lz p:=rfl; omega) (we (Nat.mod_lt _ zd))) (.cons (vq 2 G) (.cons (vq 3 G) .nil))) (zv G (aa (xs:=[.tmp 29,.tmp 32]) (qp _ _) (.cons (vq 1 G) (.cons (vq 4 G) .nil))) (oc (aA G G G (vq 5 G) al (Eq.trans (b:=2) G G)) o0))))))) zk zk zk zk (zz [] [O 2 25 _,O 4 25 _] fun a w U=>?_)
   refine a7<|wp_ret<|ar ?_ (az G U (zm 1 G) al)
   exact bc dbl_e
theorem ig (X:Nat)(h:(limbs X).length≤1099511627776):Cn Tryz.prog 228 [(MgA (limbs X)).va] (MgA (limbs (X/2))).va:=by
 have:=Aq (limbs X) h
 rwa [aG] at this
theorem hU {X:Nat}(h:0<X):0<(limbs X).length:=by rw [cW zo]; simp
theorem ii (X:Nat)(h:0<X):Cn Tryz.prog 227 [(MgA (limbs X)).va] (Bo (((X%2:Nat):Int)==((0:Nat):Int))):=by
 have:=At (limbs X) (hU h)
 rwa [aG] at this
theorem sh (X Y:Nat)(h:Y≤X)(hl:(limbs X).length≤10000000000):Cn Tryz.prog 185 [(MgA (limbs X)).va,(MgA (limbs Y)).va] (MgA (limbs (X-Y))).va:=by
 have:=sf (limbs X) (limbs Y) hl (cf h) (by rw [aG,aG]; exact h)
 rwa [aG,aG] at this
theorem pL {X:Nat}(h:(((X%2:Nat):Int)==((0:Nat):Int))=true):X%2=0:=by
 have:=beq_iff_eq.1 h
 omega
theorem xk {X:Nat}(h:(((X%2:Nat):Int)==((0:Nat):Int))=false):X%2=1:=by
 have h2:¬ ((X%2:Nat):Int)=((0:Nat):Int):=fun e=>by rw [e] at h; simp at h
 omega
theorem ev_two {X Y:Nat}(h:((((X%2:Nat):Int)==((0:Nat):Int))&&(((Y%2:Nat):Int)==((0:Nat):Int)))=true):X%2=0∧Y%2=0:=by
 rw [Bool.and_eq_true] at h
 exact ⟨pL h.1,pL h.2⟩
theorem ev_one {X Y:Nat}(h:((((X%2:Nat):Int)==((0:Nat):Int))&&(((Y%2:Nat):Int)==((0:Nat):Int)))=false):X%2=1∨Y%2=1:=by
 rw [Bool.and_eq_false_iff] at h
 rcases h with h | h
 ·exact .inl (xk h)
 ·exact .inr (xk h)
theorem py {X Y g:Nat}(h:Nat.gcd X Y=g)(hg:g%2=1)(hX:X%2=0):Nat.gcd (X/2) Y=g:=by
 have e:X=2*(X/2):=by omega
 apply Nat.dvd_antisymm
 ·rw [← h]
  exact Nat.dvd_gcd (Nat.dvd_trans (Nat.gcd_dvd_left _ _) ⟨2,by omega⟩) (Nat.gcd_dvd_right _ _)
 ·refine Nat.dvd_gcd ?_ (h▸Nat.gcd_dvd_right _ _)
  have h1:g∣2*(X/2):=by rw [← e]; exact h▸Nat.gcd_dvd_left _ _
  refine Nat.Coprime.dvd_of_dvd_mul_left ?_ h1
  show Nat.gcd g 2=1
  have h2:Nat.gcd g 2∣2:=Nat.gcd_dvd_right _ _
  have h3:Nat.gcd g 2∣g:=Nat.gcd_dvd_left _ _
  have h4:=Nat.le_of_dvd zd h2
  rcases Nat.lt_or_ge (Nat.gcd g 2) 2 with h5 | h5
  ·have:Nat.gcd g 2≠0:=by intro e0; have:=Nat.gcd_eq_zero_iff.1 e0; omega
   omega
  ·have h6:Nat.gcd g 2=2:=by omega
   rw [h6] at h3
   obtain ⟨c,hc⟩:=h3
   omega
theorem BW {X Y:Nat}(h:X%2=1∨Y%2=1):Nat.gcd X Y%2=1:=by
 apply Decidable.byContradiction
 intro hn
 have h2:2∣Nat.gcd X Y:=Nat.dvd_of_mod_eq_zero zo
 have h3:=Nat.dvd_trans h2 (Nat.gcd_dvd_left X Y)
 have h4:=Nat.dvd_trans h2 (Nat.gcd_dvd_right X Y)
 omega
theorem px {X Y g:Nat}(h:Nat.gcd X Y=g)(hle:Y≤X):Nat.gcd (X-Y) Y=g:=by
 rw [← h,Nat.gcd_comm,Nat.gcd_comm X Y]
 have:=Nat.gcd_add_self_right (m:=Y) (n:=X-Y)
 rw [Nat.sub_add_cancel hle] at this
 exact this.symm
theorem qk {X t k:Nat}(hX:0<X)(h:X*2^t<4294967296^k):t≤32*k:=by
 rw [pow32] at h
 have h1:2^t≤X*2^t:=Nat.le_mul_of_pos_left _ hX
 exact Nat.le_of_lt ((Nat.pow_lt_pow_iff_right (by decide:1<2)).1 (Nat.lt_of_le_of_lt h1 h))
structure Tw (P Q X Y t:Nat):Prop where
 x:0<X
 y:0<Y
 p:P=X*2^t
 q:Q=Y*2^t
theorem Tw.next {P Q X Y t:Nat}(h:Tw P Q X Y t)(hX:X%2=0)(hY:Y%2=0):Tw P Q (X/2) (Y/2) (t+1) :=
 ⟨by have:=h.x; omega,by have:=h.y; omega,by rw [h.p,Nat.pow_succ,Nat.mul_comm (2^t),← Nat.mul_assoc]; congr 1; omega,by rw [h.q,Nat.pow_succ,Nat.mul_comm (2^t),← Nat.mul_assoc]; congr 1; omega⟩
theorem Tw.xle {P Q X Y t:Nat}(h:Tw P Q X Y t):X≤P∧Y≤Q:=by
 have h1:0<2^t:=Nat.pow_pos zd
 rw [h.p,h.q]
 exact ⟨Nat.le_mul_of_pos_right _ h1,Nat.le_mul_of_pos_right _ h1⟩
theorem Tw.tle {P Q X Y t:Nat}(h:Tw P Q X Y t)(hl:(limbs P).length≤1000000000):t≤32000000000:=by
 have h1:=bZ (n:=P) (Nat.le_refl _)
 rw [h.p] at h1
 have h2:=qk h.x h1
 rw [← h.p] at h2
 omega
theorem lenM {X M:Nat}(h:X≤M)(hM:(limbs M).length≤1000000000):(limbs X).length≤1000000000:=Nat.le_trans (cf h) hM
theorem Bz {X:Nat}(h:decide (((limbs X).length:Int)>0)=true):0<X:=by
 apply Decidable.byContradiction
 intro hn
 obtain rfl:X=0:=by omega
 rw [bt] at h
 exact absurd h zd
theorem BA {X:Nat}(h:decide (((limbs X).length:Int)>0)=false):X=0:=by
 apply Decidable.byContradiction
 intro hn
 have:=hU (X:=X) zo
 exact absurd (of_decide_eq_false h) zo
theorem sgn_e {Y:Nat}:(RIA (rsig false (limbs Y))).va=Zi ((Y:Nat):Int):=by
 rw [bS (bo _).1 (z:=((Y:Nat):Int)) (by rw [aG]; omega) (fun hz=>by simp)]
theorem mag0 {p:Int}(h:(((riOf p).mag.length:Int)==0)=true):p=0:=by
 apply Decidable.byContradiction
 intro hn
 have h1:=hC hn
 have h2:(riOf p).mag.length=lz p:=rfl
 simp at h
 rw [h] at h2
 simp at h2
 omega
theorem mag1 {p:Int}(h:(((riOf p).mag.length:Int)==0)=false):0<p.natAbs:=by
 apply Decidable.byContradiction
 intro hn
 obtain rfl:p=0:=by omega
 exact absurd h (by rw [show (riOf (0:Int)).mag=[] from bt]; decide)
set_option maxHeartbeats 1000000 in
theorem jX (p q:Int)(hp:lz p≤1000000000)(hq:lz q≤1000000000):Cn Tryz.prog 215 [Zi p,Zi q] (Zi ((Int.gcd p q:Nat):Int)):=by
 refine Cn.intro Tryz.func215 G zk nq (fun B w0 a U=>?_)
 have U:=zn [(0,Zi p),(1,Zi q)] [] U
 refine wp_seq<|zg [] [⟨2,25,ptrH,some 0,_,none⟩,⟨3,25,ptrH,some 1,_,none⟩,⟨4,25,ptrH,some 2,_,none⟩] [.alc 0,.alc 1,.alc 2] [] U (oc (ay G G G (gq 0 G)) (oc (ay G G G (gq 1 G)) (oc (aJ G G G (Str.zero bm)) o0))) (zz [] [O 2 25 _,O 3 25 _,O 4 25 _] fun a w U=>?_)
 refine zt<|zg [none,none,none] [] [.adr 9 2 (.some 1) True,.v 10 _,.v 5 _] [.o 2] U (oc (ob_a G G (ac (lz0 0 G) au)) (zL 0 0 1 G aW (zA 1 G o0))) (zz [(5,_)] [O 2 25 _,O 3 25 _,O 4 25 _] fun a w U=>?_)
 refine zt<|zg [none,none,none] [] [.adr 11 3 (.some 1) True,.v 12 _,.v 6 _] [.g 0,.o 2] U (oc (ob_a G G (ac (lz0 1 G) au)) (zL 0 1 1 G aW (zA 1 G o0))) (zz [(5,_),(6,_)] [O 2 25 _,O 3 25 _,O 4 25 _] fun a w U=>?_)
 refine zt<|wp_seq<|zg [none,none,none] [] [.v 13 _,.v 14 _,.v 15 _] [.g 0,.g 1,.o 2] U (zM 0 G (zv G (aI Tryz.underlying23 (vq 0 G)) (zv G (bD (vq 1 G) a8) o0))) (zz [(5,_),(6,_),(15,_)] [O 2 25 _,O 3 25 _,O 4 25 _] fun a w U=>?_)
 refine a7<|ah U (zm 2 G) (fun hb0=>?_) (fun hb0=>?_)
 ·obtain rfl:=mag0 hb0
  refine wp_seq<|zg [none,none,some (2,_)] [] [.v 16 _,.v 17 _,.sto 2] [.g 0,.g 1] U (zM 1 G (zv G (aa (xs:=[.const (.bool false),.tmp 16]) (bY _ _) (.cons aK (.cons (vq 0 G) .nil))) (oc (aA G G G (vq 1 G) al (Eq.trans (b:=2) G G)) o0))) (zz [(5,_),(6,_)] [O 2 25 _,O 3 25 _,O 4 25 _] fun a w U=>?_)
  refine a7<|wp_ret<|ap ?_
  refine ar ?_ (az G U (zm 2 G) al)
  exact bc (size_e.trans (by rw [show Int.gcd 0 q=q.natAbs from Int.gcd_zero_left ..]))
 ·have hp0:=mag1 hb0
  refine wp_skip<|zt<|wp_seq<|zg [none,none,none] [] [.v 18 _,.v 19 _,.v 20 _] [.g 0,.g 1,.o 2] U (zM 1 G (zv G (aI Tryz.underlying23 (vq 0 G)) (zv G (bD (vq 1 G) a8) o0))) (zz [(5,_),(6,_),(20,_)] [O 2 25 _,O 3 25 _,O 4 25 _] fun a w U=>?_)
  refine a7<|ah U (zm 2 G) (fun hb1=>?_) (fun hb1=>?_)
  ·obtain rfl:=mag0 hb1
   refine wp_seq<|zg [none,none,some (2,_)] [] [.v 21 _,.v 22 _,.sto 2] [.g 0,.g 1] U (zM 0 G (zv G (aa (xs:=[.const (.bool false),.tmp 21]) (bY _ _) (.cons aK (.cons (vq 0 G) .nil))) (oc (aA G G G (vq 1 G) al (Eq.trans (b:=2) G G)) o0))) (zz [(5,_),(6,_)] [O 2 25 _,O 3 25 _,O 4 25 _] fun a w U=>?_)
   refine a7<|wp_ret<|ap ?_
   refine ar ?_ (az G U (zm 2 G) al)
   exact bc (size_e.trans (by rw [show Int.gcd p 0=p.natAbs from Int.gcd_zero_right ..]))
  ·have hq0:=mag1 hb1
   obtain ⟨M,hM0⟩:∃ M,M=max p.natAbs q.natAbs:=⟨_,rfl⟩
   have hPM:p.natAbs≤M:=by omega
   have hQM:q.natAbs≤M:=by omega
   have hM:(limbs M).length≤1000000000:=by
    rcases Nat.le_total p.natAbs q.natAbs with h | h
    ·rw [show M=q.natAbs by omega]; exact hq
    ·rw [show M=p.natAbs by omega]; exact hp
   refine wp_skip<|zt<|zg [none,none,none] [] [.v 7 _] [.g 0,.g 1,.o 0] U (zv G (a9 a8) o0) (zz [(5,_),(6,_),(7,_)] [O 2 25 _,O 3 25 _,O 4 25 _] fun a w U=>?_)
   refine zt<|wp_block ?_
   have U:=St.sel U [0,1,2]
   refine wp_loop_ghost (fun n a w=>∃ X Y t:Nat,(Tw p.natAbs q.natAbs X Y t∧n=X)∧St B w0 60 [(5,(MgA (limbs X)).va),(6,(MgA (limbs Y)).va),(7,In (t:Nat))] [⟨2,25,ptrH,RIA (riOf p)⟩,⟨3,25,ptrH,RIA (riOf q)⟩,⟨4,25,ptrH,cat [BoA false,MgA []]⟩] a w) (p.natAbs) ?_ ?_
   ·exact ⟨p.natAbs,q.natAbs,0,⟨⟨hp0,hq0,(Nat.mul_one _).symm,(Nat.mul_one _).symm⟩,rfl⟩,U⟩
   intro n a w hI
   obtain ⟨X,Y,t,⟨hT,hnX⟩,U⟩:=hI
   have htl:=hT.tle hp
   have hTx:=hT.x
   refine wp_seq<|wp_seq<|zg [none,none,none] [] [.v 23 _,.v 24 _,.v 25 _,.v 26 (Wh (_=true) _),.v 27 (Wh (_=true) _),.v 28 _] [.g 0,.g 1,.g 2,.o 5] U (zM 0 G (zv G (aa (xs:=[.tmp 23]) (ii X hT.x) (.cons (vq 0 G) .nil)) (zv G (ae (vq 1 G)) (oc (an G G G (vq 2 G) nq (fun hg=>ae (gq 1 G))) (oc (an G G G (vq 2 G) nq (fun hg=>aa (xs:=[.tmp 26]) (ii Y hT.y) (.cons (ai (vq 3 G) hg) .nil))) (zv G (bJ (vq 2 G) (vq 4 G)) o0)))))) (zz [(5,_),(6,_),(7,_),(28,_)] [O 2 25 _,O 3 25 _,O 4 25 _] fun a w U=>?_)
   refine a7<|ah U (zm 3 G) (fun hb2=>?_) (fun hb2=>?_)
   ·have hev:=ev_two hb2
    refine wp_skip<|a7<|wp_block<|wp_seq<|zg [none,none,none] [] [.v 29 _,.v 30 _,.v 5 _] [.g 1,.g 2,.o 2] U (zM 0 G (zv G (aa (xs:=[.tmp 29]) (ig X (Nat.le_trans (lenM (Nat.le_trans hT.xle.1 hPM) hM) zd)) (.cons (vq 0 G) .nil)) (zA 1 G o0))) (zz [(6,_),(7,_),(5,_)] [O 2 25 _,O 3 25 _,O 4 25 _] fun a w U=>?_)
    refine zt<|zg [none,none,none] [] [.v 31 _,.v 32 _,.v 6 _] [.g 1,.g 2,.o 2] U (zM 0 G (zv G (aa (xs:=[.tmp 31]) (ig Y (Nat.le_trans (lenM (Nat.le_trans hT.xle.2 hQM) hM) zd)) (.cons (vq 0 G) .nil)) (zA 1 G o0))) (zz [(7,_),(5,_),(6,_)] [O 2 25 _,O 3 25 _,O 4 25 _] fun a w U=>?_)
    refine a7<|zg [none,none,none] [] [.v 33 _,.v 34 _,.v 7 _] [.g 1,.g 2,.o 2] U (zM 0 G (zv G (aR (vq 0 G) a8 (aX zo)) (zA 1 G o0))) (zz [(5,_),(6,_),(7,_)] [O 2 25 _,O 3 25 _,O 4 25 _] fun a w U=>?_)
    refine ao ?_
    refine a7 ?_
    have U:=St.sel U [0,1,2]
    exact ⟨X/2,by omega,X/2,Y/2,t+1,⟨hT.next hev.1 hev.2,rfl⟩,U⟩
   ·have hgo0:=BW (ev_one hb2)
    obtain ⟨g,hgd⟩:∃ g,Nat.gcd X Y=g:=⟨_,rfl⟩
    have hgo:g%2=1:=by rw [← hgd]; exact hgo0
    have hgp:Int.gcd p q=g*2^t:=by show Nat.gcd p.natAbs q.natAbs=_; rw [hT.p,hT.q,Nat.gcd_mul_right,hgd]
    refine wp_exit<|ak<|ak<|aC<|zt<|wp_block ?_
    have U:=St.sel U [0,1,2]
    refine wp_loop_ghost (fun n a w=>∃ X Y:Nat,(0<Y∧X≤M∧Y≤M∧Nat.gcd X Y=g∧n=X+Y)∧St B w0 60 [(5,(MgA (limbs X)).va),(6,(MgA (limbs Y)).va),(7,In (t:Nat))] [⟨2,25,ptrH,RIA (riOf p)⟩,⟨3,25,ptrH,RIA (riOf q)⟩,⟨4,25,ptrH,cat [BoA false,MgA []]⟩] a w) (X+Y) ?_ ?_
    ·exact ⟨X,Y,⟨hT.y,Nat.le_trans hT.xle.1 hPM,Nat.le_trans hT.xle.2 hQM,hgd,rfl⟩,U⟩
    intro n a w hI
    clear hgd; obtain ⟨X,Y,⟨hY0,hXM,hYM,hg1,hn1⟩,U⟩:=hI
    obtain ⟨n1,hn2⟩:∃ n1,n1=n:=⟨n,rfl⟩
    refine wp_seq<|wp_seq<|zg [none,none,none] [] [.v 35 _,.v 36 _,.v 37 _] [.g 0,.g 1,.g 2,.o 2] U (zM 0 G (zv G (aI Tryz.underlying23 (vq 0 G)) (zv G (dJ (vq 1 G) a8) o0))) (zz [(5,_),(6,_),(7,_),(37,_)] [O 2 25 _,O 3 25 _,O 4 25 _] fun a w U=>?_)
    refine a7<|ah U (zm 3 G) (fun hb3=>?_) (fun hb3=>?_)
    ·have hX0:=Bz hb3
     refine wp_skip<|a7<|wp_block<|wp_seq<|wp_block ?_
     have U:=St.sel U [0,1,2]
     refine wp_loop_ghost (fun n a w=>∃ X2:Nat,(0<X2∧X2≤X∧Nat.gcd X2 Y=g∧n=X2)∧St B w0 60 [(5,(MgA (limbs X2)).va),(6,(MgA (limbs Y)).va),(7,In (t:Nat))] [⟨2,25,ptrH,RIA (riOf p)⟩,⟨3,25,ptrH,RIA (riOf q)⟩,⟨4,25,ptrH,cat [BoA false,MgA []]⟩] a w) (X) ?_ ?_
     ·exact ⟨X,⟨hX0,Nat.le_refl _,hg1,rfl⟩,U⟩
     intro n a w hI
     obtain ⟨X2,⟨hX3,hX4,hg2,hn3⟩,U⟩:=hI
     have hXM2:=Nat.le_trans hX4 hXM
     refine wp_seq<|wp_seq<|zg [none,none,none] [] [.v 38 _,.v 39 _] [.g 0,.g 1,.g 2,.o 1] U (zM 0 G (zv G (aa (xs:=[.tmp 38]) (ii X2 hX3) (.cons (vq 0 G) .nil)) o0)) (zz [(5,_),(6,_),(7,_),(39,_)] [O 2 25 _,O 3 25 _,O 4 25 _] fun a w U=>?_)
     refine a7<|ah U (zm 3 G) (fun hb4=>?_) (fun hb4=>?_)
     ·have hev:=pL hb4
      refine wp_skip<|a7<|wp_block<|zg [none,none,none] [] [.v 40 _,.v 41 _,.v 5 _] [.g 1,.g 2,.o 2] U (zM 0 G (zv G (aa (xs:=[.tmp 40]) (ig X2 (Nat.le_trans (lenM hXM2 hM) zd)) (.cons (vq 0 G) .nil)) (zA 1 G o0))) (zz [(6,_),(7,_),(5,_)] [O 2 25 _,O 3 25 _,O 4 25 _] fun a w U=>?_)
      refine ao ?_
      refine a7 ?_
      have U:=St.sel U [2,0,1]
      exact ⟨X2/2,by omega,X2/2,⟨by omega,by omega,py hg2 hgo hev,rfl⟩,U⟩
     ·have hoX:=xk hb4
      refine wp_exit<|ak<|ak<|aC<|zt<|wp_block ?_
      have U:=St.sel U [0,1,2]
      refine wp_loop_ghost (fun n a w=>∃ Y2:Nat,(0<Y2∧Y2≤Y∧Nat.gcd X2 Y2=g∧n=Y2)∧St B w0 60 [(5,(MgA (limbs X2)).va),(6,(MgA (limbs Y2)).va),(7,In (t:Nat))] [⟨2,25,ptrH,RIA (riOf p)⟩,⟨3,25,ptrH,RIA (riOf q)⟩,⟨4,25,ptrH,cat [BoA false,MgA []]⟩] a w) (Y) ?_ ?_
      ·exact ⟨Y,⟨hY0,Nat.le_refl _,hg2,rfl⟩,U⟩
      intro n a w hI
      obtain ⟨Y2,⟨hY3,hY4,hg3,hn4⟩,U⟩:=hI
      have hYM2:=Nat.le_trans hY4 hYM
      refine wp_seq<|wp_seq<|zg [none,none,none] [] [.v 42 _,.v 43 _] [.g 0,.g 1,.g 2,.o 1] U (zM 1 G (zv G (aa (xs:=[.tmp 42]) (ii Y2 hY3) (.cons (vq 0 G) .nil)) o0)) (zz [(5,_),(6,_),(7,_),(43,_)] [O 2 25 _,O 3 25 _,O 4 25 _] fun a w U=>?_)
      refine a7<|ah U (zm 3 G) (fun hb5=>?_) (fun hb5=>?_)
      ·have hev:=pL hb5
       refine wp_skip<|a7<|wp_block<|zg [none,none,none] [] [.v 44 _,.v 45 _,.v 6 _] [.g 0,.g 2,.o 2] U (zM 1 G (zv G (aa (xs:=[.tmp 44]) (ig Y2 (Nat.le_trans (lenM hYM2 hM) zd)) (.cons (vq 0 G) .nil)) (zA 1 G o0))) (zz [(5,_),(7,_),(6,_)] [O 2 25 _,O 3 25 _,O 4 25 _] fun a w U=>?_)
       refine ao ?_
       refine a7 ?_
       have U:=St.sel U [0,2,1]
       exact ⟨Y2/2,by omega,Y2/2,⟨by omega,by omega,by rw [Nat.gcd_comm]; exact py (by rw [Nat.gcd_comm]; exact hg3) hgo hev,rfl⟩,U⟩
      ·have hoY:=xk hb5
       refine wp_exit<|ak<|ak<|aC<|zt<|wp_seq<|zg [none,none,none] [] [.v 46 _,.v 47 _,.v 48 _,.v 49 _] [.g 0,.g 1,.g 2,.o 3] U (zM 0 G (zM 1 G (zv G (aa (xs:=[.tmp 46,.tmp 47]) (mn _ _) (.cons (vq 0 G) (.cons (vq 1 G) .nil))) (zv G (aN (vq 2 G) a8) o0)))) (zz [(5,_),(6,_),(7,_),(49,_)] [O 2 25 _,O 3 25 _,O 4 25 _] fun a w U=>?_)
       refine a7<|ah U (zm 3 G) (fun hb6=>?_) (fun hb6=>?_)
       ·have hcm:X2<Y2:=cm_lt0.1 (of_decide_eq_true hb6)
        refine wp_seq<|zg [none,none,none] [] [.v 50 _,.v 8 _] [.g 0,.g 1,.g 2,.o 1] U (zM 0 G (zA 0 G o0)) (zz [(5,_),(6,_),(7,_),(8,_)] [O 2 25 _,O 3 25 _,O 4 25 _] fun a w U=>?_)
        refine zt<|zg [none,none,none] [] [.v 51 _,.v 5 _] [.g 1,.g 2,.g 3,.o 1] U (zM 1 G (zA 0 G o0)) (zz [(6,_),(7,_),(8,_),(5,_)] [O 2 25 _,O 3 25 _,O 4 25 _] fun a w U=>?_)
        refine a7<|zg [none,none,none] [] [.v 52 _,.v 6 _] [.g 1,.g 3,.o 1] U (zM 2 G (zA 0 G o0)) (zz [(7,_),(5,_),(6,_)] [O 2 25 _,O 3 25 _,O 4 25 _] fun a w U=>?_)
        refine a7<|zg [none,none,none] [] [.v 53 _,.v 54 _,.v 55 _,.v 5 _] [.g 0,.g 2,.o 3] U (zM 1 G (zM 2 G (zv G (aa (xs:=[.tmp 53,.tmp 54]) (sh Y2 X2 (Nat.le_of_lt hcm) (Nat.le_trans (lenM hYM2 hM) zd)) (.cons (vq 0 G) (.cons (vq 1 G) .nil))) (zA 2 G o0)))) (zz [(7,_),(6,_),(5,_)] [O 2 25 _,O 3 25 _,O 4 25 _] fun a w U=>?_)
        refine ao ?_
        refine a7 ?_
        have U:=St.sel U [2,1,0]
        exact ⟨Y2-X2+X2,by omega,Y2-X2,X2,⟨hX3,by omega,hXM2,px (by rw [Nat.gcd_comm]; exact hg3) (Nat.le_of_lt hcm),rfl⟩,U⟩
       ·have hcm:Y2≤X2:=Nat.le_of_not_lt fun h=>of_decide_eq_false hb6 (cm_lt0.2 h)
        refine wp_skip<|a7<|zg [none,none,none] [] [.v 53 _,.v 54 _,.v 55 _,.v 5 _] [.g 1,.g 2,.o 3] U (zM 0 G (zM 1 G (zv G (aa (xs:=[.tmp 53,.tmp 54]) (sh X2 Y2 hcm (Nat.le_trans (lenM hXM2 hM) zd)) (.cons (vq 0 G) (.cons (vq 1 G) .nil))) (zA 2 G o0)))) (zz [(6,_),(7,_),(5,_)] [O 2 25 _,O 3 25 _,O 4 25 _] fun a w U=>?_)
        refine ao ?_
        refine a7 ?_
        have U:=St.sel U [2,0,1]
        exact ⟨X2-Y2+Y2,by omega,X2-Y2,Y2,⟨hY3,by omega,hYM2,px hg3 hcm,rfl⟩,U⟩
    ·obtain rfl:=BA hb3
     rw [Nat.gcd_zero_left] at hg1
     refine wp_exit<|ak<|ak<|aC<|zt<|zg [none,none,some (4,_)] [] [.v 56 _,.v 57 _,.v 58 _,.v 59 _,.sto 2] [] U (zM 1 G (zv G (aa (xs:=[.const (.bool false),.tmp 56]) ((bY false (limbs Y)).post sgn_e) (.cons aK (.cons (vq 0 G) .nil))) (zM 2 G (zv G (aa (xs:=[.tmp 57,.tmp 58]) ((ss ((Y:Nat):Int) t zo (lenM hYM hM) zo).wkp gU) (.cons (vq 1 G) (.cons (vq 2 G) .nil))) (oc (aA G G G (vq 3 G) al (Eq.trans (b:=2) G G)) o0))))) (zz [] [O 2 25 _,O 3 25 _,O 4 25 _] fun a w U=>?_)
     refine a7<|wp_ret<|ar ?_ (az G U (zm 2 G) al)
     exact bc (congrArg Zi (by rw [hgp,← hg1]; push_cast; rfl))
end Go.Proofs.YtmacliockgbdcaaGreatDoor
