import Derived.Test.YtagabklfjmchaaaGreatTpAa
import Derived.Test.YtagabklfjmchaaaGreatTpAc
import Derived.Test.YtagabklfjmchaaaGreatTpAo
import Derived.Test.YtagabklfjmchaaaGreatTpAp
import Derived.Test.YtagabklfjmchaaaGreatTpAq
import Derived.Laws.AppendOwn
import Derived.Laws.OwnMore
import Derived.Orders
set_option linter.unusedVariables false
set_option linter.unusedSimpArgs false
set_option linter.unusedSectionVars false
set_option maxRecDepth 100000
namespace Go.Proofs.YtagabklfjmchaaaGreat
open Go Go.RowKit
open Rg in
theorem go_appBk {P:Program}{Q:Exit→Act→World→Prop}{B N:Nat}{w0:Bs}{Γ:List (Nat × VA)}{Λ:List Lc}{a:Act}{w:World}{id:Nat}{ops:Array Oper}{sp:List Sp}(n:Nat)(src:List Nat)(i1 i2 k3:Nat)(kl:List Nat){S E T1 T2:TypeId}{s u d e m bytes b s3:Nat}{ps1 ps2:String}{af1 af2:Array Edge}{D D':List TypeId}{l xs:List As}{A2:VA}{it:TypeInfo}{z:Value}
  (h:St B w0 N Γ Λ a w) (hob:Obs P Q ⟨ops,N,Γ,lesN Λ,sp,fun i=>List.range i⟩ B w0 0 n) (hn2:ops.size=n+2) (hk:Rg.chk ⟨ops,N,Γ,lesN Λ,sp,fun i=>List.range i⟩=true)
  (ho1:ops[n]?=some ⟨some d,.call ⟨.builtin .append,#[.tmp s,.tmp u],#[S,S]⟩,T1,ps1,af1,none⟩) (ho2:ops[n+1]?=some ⟨some e,.assign (.tmp d),T2,ps2,af2,none⟩)
  (hi1:i1<n) (h1:sp[i1]?=some (.val s (OwnB b E m D l))) (hi2:i2<n) (h2:sp[i2]?=some (.val u A2)) (h3:Γ[k3]?=some (s3,PtrLt b)) (ho3:Rg.outG ⟨ops,N,Γ,lesN Λ,sp,fun i=>List.range i⟩ s3=true) (hwb:w0.w.heap.size≤b) (hA2:∀ w u,A2.p B u w→Kept w0 w→(SlA E D' xs).va.p B u w)
  (hS:P.underlying S=some (.slice E)) (hi:P.info? E=some it) (hz:it.zero=some z) (hsz:it.size=m) (hby:it.bytes=bytes) (hzs:z.cells.size=m) (hm0:0<m) (hl:l.length+xs.length≤100000000000) (hb6:bytes≤1000)
  (hD':∀ T∈D',T∈D) (hED:E ∉ D) (hxm:∀ x∈xs,x.n=m) (hde:(d != e)=true) (hd:d<N) (he:e<N)
  (hsrc:src.all (fun k=>match Γ[k]? with | some y => !y.2.deps.contains E&&Rg.outG ⟨ops,N,Γ,lesN Λ,sp,fun i=>List.range i⟩ y.1 | none=>false)=true)
  (hΛ:(kl.filterMap fun k=>Λ[k]?).all (fun l=>(l.T != E || l.s==s3) && !l.A.deps.contains E&&l.s != d&&l.s != e)=true)
  (hQ:∀ a w,St B w0 N ((e,OwnB b E m D (l++xs))::src.filterMap (fun k=>Γ[k]?)) (kl.filterMap fun k=>Λ[k]?) a w→Q .normal a w):(Code.region id ops false).wp P Q a w:=by
 have hles0:∀ y∈lesN Λ,y.cr=none∧y.st=none∧(⟨y.s,y.T,y.H,y.A0⟩:Lc)∈Λ:=fun y hy=>by
  obtain ⟨l',hl',rfl⟩:=List.mem_map.1 hy
  exact ⟨rfl,rfl,hl'⟩
 refine Rg.linK (R:=⟨ops,N,Γ,lesN Λ,sp,fun i=>List.range i⟩) (m:=2) hn2 rfl hk h (fun y hy _=>(hles0 y hy).2.2) (fun i hi=>hob.all i zo zo) fun a1 w1 hinv=>?_
 have hcl:∀ deps,Rg.clash ⟨ops,N,Γ,lesN Λ,sp,fun i=>List.range i⟩ (fun k=>decide (k<n)) deps=false:=fun deps=>by
  unfold Rg.clash
  rw [List.any_eq_false]
  intro y hy
  rw [(hles0 y hy).2.1]
  simp
 obtain ⟨hbw,hB,hv⟩:=hinv.v i1 _ s _ h1 rfl (decide_eq_true hi1) (hcl _)
 have hout:∀ t,Rg.outG ⟨ops,N,Γ,lesN Λ,sp,fun i=>List.range i⟩ t=true→∀ q,q<ops.size→Rg.dst ⟨ops,N,Γ,lesN Λ,sp,fun i=>List.range i⟩ q≠some t:=fun t ht q hq=>by
  have:=List.all_eq_true.1 ht q (by simpa using hq)
  simpa using this
 obtain ⟨g3,hg3,hlt3⟩:=hinv.g _ (List.mem_of_getElem? h3) (fun q hq hdq=>absurd hdq (hout _ ho3 q hq)) (hcl _)
 have hu:=hA2 _ _ (hinv.v i2 _ u _ h2 rfl (decide_eq_true hi2) (hcl _)) hinv.base
 obtain ⟨v',w',hr,r1,r2,r3⟩:=run_ownM (T1:=T1) hS hi hz hsz hby hzs hm0 hl hb6 hv hu hD' hED hxm hbw hB
 have hdsz:d<a1.tmps.size:=by rw [hinv.size]; exact hd
 have hesz:e<(a1.put (some d) v').tmps.size:=by rw [zbv,hinv.size]; exact he
 have hne:d≠e:=by simpa using hde
 rw [List.range'_succ,wpOps_cons]
 refine zc4 (R:=⟨ops,N,Γ,lesN Λ,sp,fun i=>List.range i⟩) ho1 rfl (zbn (w':=w') (v:=v') (by simp [execOp,resolve,invoke,builtin,hr,Result.andThen]) ?_)
 rw [List.range'_succ,wpOps_cons]
 refine zc4 (R:=⟨ops,N,Γ,lesN Λ,sp,fun i=>List.range i⟩) ho2 rfl (zbn (w':=w') (v:=v') ?_ (hQ _ _ ?_))
 ·have:=zaz a1 d v' hdsz
  simp [execOp,this]
 ·have hother:∀ t,t≠d→t≠e→((a1.put (some d) v').put (some e) v').eval (.tmp t)=a1.eval (.tmp t):=fun t h3 h4=>by
   rw [za8 _ _ _ _ h4,za8 _ _ _ _ h3]
  have hsub:∀ l'∈(kl.filterMap fun k=>Λ[k]?),l'∈Λ:=fun l' hl'=>by
   obtain ⟨k,_,hk⟩:=List.mem_filterMap.1 hl'
   exact List.mem_of_getElem? hk
  have hlc:∀ l'∈(kl.filterMap fun k=>Λ[k]?),(l'.T≠E∨l'.s=s3)∧E ∉ l'.A.deps∧l'.s≠d∧l'.s≠e:=fun l' hl'=>by
   have:=List.all_eq_true.1 hΛ l' hl'
   simp only [Bool.and_eq_true,Bool.or_eq_true,beq_iff_eq,bne_iff_ne,Bool.not_eq_true',List.contains_eq_mem,decide_eq_false_iff_not] at this
   exact ⟨this.1.1.1,this.1.1.2,this.1.2,this.2⟩
  have hcur:∀ l'∈Λ,(⟨l'.s,l'.T,l'.H,none,l'.A,none⟩:Le)∈lesN Λ:=fun l' hl'=>List.mem_map.2 ⟨l',hl',rfl⟩
  refine ⟨hinv.lo,hinv.defers.grown r2 r3 rfl,by rw [zbv,zbv]; exact hinv.size,?_,?_,?_,?_⟩
  ·exact ⟨r2.os.trans hinv.base.os,r2.tape.trans hinv.base.tape,r2.output.trans hinv.base.output,Nat.le_trans hinv.base.size r2.size,fun k hk hf =>
    (r2.block k (Nat.lt_of_lt_of_le hk hinv.base.size) (fun e=>by have:=(r3 k e.symm).1; omega)).trans (hinv.base.block k hk hf)⟩
  ·intro y hy
   rcases List.mem_cons.1 hy with rfl | hy
   ·show (OwnB b E m D (l++xs)).p B (((a1.put (some d) v').put (some e) v').eval (.tmp e)) w'
    rw [zaz _ _ _ hesz]
    exact ⟨Nat.le_trans hbw r2.size,hB,r1⟩
   ·obtain ⟨k,hk1,hk2⟩:=List.mem_filterMap.1 hy
    have hs:=List.all_eq_true.1 hsrc k hk1
    simp only [hk2,Bool.and_eq_true,Bool.not_eq_true',List.contains_eq_mem,decide_eq_false_iff_not] at hs
    have hout:=hout y.1 hs.2
    have g1:y.1≠d:=fun e1=>hout n zo (by unfold Rg.dst; rw [ho1,e1]; rfl)
    have g2:y.1≠e:=fun e1=>hout (n+1) zo (by unfold Rg.dst; rw [ho2,e1]; rfl)
    rw [hother _ g1 g2]
    exact VA.grown (hinv.g y (List.mem_of_getElem? hk2) (fun q hq hdq=>absurd hdq (hout q hq)) (hcl _)) r2 r3 hB hs.1
  ·intro l' hl'
   obtain ⟨g1,g2,g3,g4⟩:=hlc l' hl'
   obtain ⟨g,cs,e1,e2,e3,e4⟩:=hinv.c _ (hcur l' (hsub l' hl')) l'.A rfl
   refine ⟨g,cs,by rw [hother _ g3 g4]; exact e1,e2,?_,As.grown e4 r2 r3 hB g2⟩
   rw [r2.block g (Array.getElem?_eq_some_iff.1 e3).1 (fun e5=>by
    obtain ⟨h8,c,fz,e6⟩:=r3 g e5.symm
    rcases g1 with g1 | g1
    ·rw [e3] at e6
     injection e6 with e6
     injection e6 with _ e6 _
     exact g1 e6
    ·rw [← g1,e1,l'.H.ok] at hg3
     injection hg3 with hg3
     omega)]
   exact e3
  ·intro l1 hl1 l2 hl2 hne'
   obtain ⟨_,_,g3,g4⟩:=hlc l1 hl1
   obtain ⟨_,_,g5,g6⟩:=hlc l2 hl2
   rw [hother _ g3 g4,hother _ g5 g6]
   exact hinv.x _ (hcur l1 (hsub l1 hl1)) _ (hcur l2 (hsub l2 hl2)) hne' rfl rfl
section
open Rg
variable {P:Program} {Q:Exit→Act→World→Prop} {B N:Nat} {w0:Bs} {Γ:List (Nat × VA)} {Λ:List Lc} {a:Act} {w:World}
theorem zl2 {R:Rg}{n:Nat}(hles:∀ l'∈Λ,∃ st,(⟨l'.s,l'.T,l'.H,none,l'.A,st⟩:Le)∈R.les)(hles2:∀ y∈R.les,∀ i A,y.st=some (i,A)→n≤i)(hinv:R.Inv B w0 (fun k=>decide (k<n)) a w)(src:List Src)
  (hsrc:src.all (fun s=>match s with | .g k=>(match R.Γ[k]? with | some x=>Rg.outG R x.1 | none=>false) | .o i=>decide (i<n))=true):St B w0 R.N (src.filterMap (takeS R)) Λ a w:=by
 have hcl:∀ deps,Rg.clash R (fun k=>decide (k<n)) deps=false:=fun deps=>by
  unfold Rg.clash
  rw [List.any_eq_false]
  intro y hy
  cases hst:y.st with
  | none=>simp
  | some x =>
   obtain ⟨i,B'⟩:=x
   have:=hles2 y hy i B' hst
   have hno:¬ i<n:=by omega
   simp [hno]
 have hcur:∀ y∈R.les,y.cr=none→Rg.cur (fun k=>decide (k<n)) y=some y.A0:=fun y hy h0=>by
  unfold Rg.cur
  rw [h0]
  simp only [Rg.crOk,if_true]
  cases hst:y.st with
  | none=>rfl
  | some x =>
   obtain ⟨i,B'⟩:=x
   have:=hles2 y hy i B' hst
   have hno:¬ i<n:=by omega
   simp [hno]
 refine ⟨hinv.lo,hinv.defers,hinv.size,hinv.base,fun x hx=>?_,fun l' hl'=>?_,fun l1 h1 l2 h2 hne=>?_⟩
 rotate_left
 ·obtain ⟨st,hy⟩:=hles l' hl'
  exact hinv.c _ hy l'.A (hcur _ hy rfl)
 ·obtain ⟨s1,hy1⟩:=hles l1 h1
  obtain ⟨s2,hy2⟩:=hles l2 h2
  exact hinv.x _ hy1 _ hy2 hne (by rw [hcur _ hy1 rfl]; rfl) (by rw [hcur _ hy2 rfl]; rfl)
 obtain ⟨s,hs1,hs2⟩:=List.mem_filterMap.1 hx
 have ho:=List.all_eq_true.1 hsrc s hs1
 cases s with
 | g k =>
  simp only [takeS] at hs2
  simp only [hs2] at ho
  refine hinv.g x (List.mem_of_getElem? hs2) (fun q hq hdq=>?_) (hcl _)
  cases h2:R.ops[q]? with
  | none=>unfold Rg.dst at hdq; rw [h2] at hdq; cases hdq
  | some v =>
   have:=List.all_eq_true.1 ho q (by simpa using (Array.getElem?_eq_some_iff.1 h2).1)
   exact absurd hdq (by simpa using this)
 | o i =>
  simp only [takeS] at hs2
  cases hy:R.sp[i]? with
  | none=>rw [hy] at hs2; cases hs2
  | some y =>
   rw [hy] at hs2
   exact hinv.v i y x.1 x.2 hy hs2 ho (hcl _)
end
section
open Rg
variable {P:Program} {Q:Exit→Act→World→Prop} {B N:Nat} {w0:Bs} {Γ:List (Nat × VA)} {Λ:List Lc} {a:Act} {w:World}
theorem zkq {ops:Array Oper}{i d x g:Nat}{T ty T2:TypeId}{n:Nat}{ag:Bool}{old:Array Value}{cs:List Value}{ps:String}{af:Array Edge}{K:Act→World→Prop}(ho:ops[i]?=some ⟨none,.store ty (.tmp d) (.tmp x),T2,ps,af,none⟩)
  (hd:a.eval (.tmp d)=ptr g) (hv:a.eval (.tmp x)=shape ag cs) (hc:(shape ag cs).cells=cs.toArray) (ht:Ty P ty n ag) (hl:cs.length=n) (ho2:old.size=n) (h1:∀ c∈cs,c.oneCell'=true) (hg:w.heap[g]?=some (.cells old T (0,0))) (hK:K a (w.setRow g cs.toArray)):wpOp P ops Q i K a w:=by
 have hrun:=zby ht w g 0 T old _ cs hc hl zo h1 hg
 rw [List.drop_of_length_le (by simp; omega)] at hrun
 simp only [List.take_zero,List.nil_append,List.append_nil] at hrun
 unfold wpOp
 rw [ho]
 have hwant:Region.wanted (⟨none,.store ty (.tmp d) (.tmp x),T2,ps,af,none⟩:Oper) (yielded ops a.tmps)=true:=rfl
 simp only [hwant,if_true]
 refine .inl (wp_skip' (w':=w.setRow g cs.toArray) ?_ hK)
 have e1:a.eval (.tmp d)=.pointer (some ⟨g,0,none⟩):=hd
 simp [execOp,e1,hv,Instr.storeAt,Instr.sureAddr,hrun]
theorem zkr {ops:Array Oper}{i d:Nat}{T T1:TypeId}{ps:String}{af:Array Edge}{it:TypeInfo}{z:Value}{K:Act→World→Prop}(ho:ops[i]?=some ⟨some d,.alloc T,T1,ps,af,none⟩)(z1:P.info? T=some it)(z2:it.zero=some z)
  (hK:K (a.put (some d) (ptr w.heap.size)) (w.alloc (.cells z.cells T))):wpOp P ops Q i K a w :=
 zc4 (R:=⟨ops,0,[],[],[],fun _=>[]⟩) ho rfl (zbn (w':=w.alloc (.cells z.cells T)) (v:=ptr w.heap.size) (by simp [execOp,Instr.alloc,zeroValue,typeInfo,z1,z2,newVar,newRow,ptr]) hK)
theorem op_new2 {ops:Array Oper}{i d x d' x':Nat}{T ty T1 T2 T' ty' T3 T4:TypeId}{A0 A A0' A':As}{ps1 ps2 ps3 ps4:String}{af1 af2 af3 af4:Array Edge}{rest:List Nat}(kx kx':Nat)(src:List Nat)
  (ho1:ops[i]?=some ⟨some d,.alloc T,T1,ps1,af1,none⟩) (ho2:ops[i+1]?=some ⟨some d',.alloc T',T2,ps2,af2,none⟩)
  (ho3:ops[i+2]?=some ⟨none,.store ty (.tmp d) (.tmp x),T3,ps3,af3,none⟩) (ho4:ops[i+3]?=some ⟨none,.store ty' (.tmp d') (.tmp x'),T4,ps4,af4,none⟩)
  (h:St B w0 N Γ Λ a w) (hz:Zero P T A0) (hz':Zero P T' A0') (hx:Γ[kx]?=some (x,A.va)) (hx':Γ[kx']?=some (x',A'.va)) (ht:Ty P ty A.n A.ag) (ht':Ty P ty' A'.n A'.ag) (hn:A0.n=A.n) (hn':A0'.n=A'.n) (hd:d<N) (hd':d'<N)
  (hne:(d != d'&&d != x&&d != x'&&d' != x&&d' != x')=true)
  (hsrc:src.all (fun k=>match Γ[k]? with | some y=>y.1 != d&&y.1 != d' | none=>false)=true) (hΛ:Λ.all (fun l=>l.s != d&&l.s != d')=true)
  (hK:∀ a' w',St B w0 N (src.filterMap fun k=>Γ[k]?) (Λ++[⟨d,T,ptrH,A⟩,⟨d',T',ptrH,A'⟩]) a' w'→wpOps P ops Q rest a' w'):wpOps P ops Q (i::(i+1)::(i+2)::(i+3)::rest) a w:=by
 obtain ⟨it,z,z1,z2,z3⟩:=hz
 obtain ⟨it',z',z1',z2',z3'⟩:=hz'
 obtain ⟨cs,hp,hv⟩:=h.vals _ (List.mem_of_getElem? hx)
 obtain ⟨cs',hp',hv'⟩:=h.vals _ (List.mem_of_getElem? hx')
 have e1:a.eval (.tmp x)=shape A.ag cs:=hv
 have e1':a.eval (.tmp x')=shape A'.ag cs':=hv'
 have l1:=A.len _ _ _ hp
 have l1':=A'.len _ _ _ hp'
 have l0:=A0.len _ _ _ (z3 B w)
 have l0':=A0'.len _ _ _ (z3' B w)
 have l2:z.cells.size=A0.n:=by simpa using l0
 have l2':z'.cells.size=A0'.n:=by simpa using l0'
 simp only [Bool.and_eq_true,bne_iff_ne] at hne
 obtain ⟨⟨⟨⟨n1,n2⟩,n3⟩,n4⟩,n5⟩:=hne
 have hΛ':∀ l∈Λ,l.s≠d∧l.s≠d':=fun l hl=>by
  have:=List.all_eq_true.1 hΛ l hl
  simpa using this
 have hds:d<a.tmps.size:=by rw [h.size]; exact hd
 obtain ⟨W1,hW1⟩:∃ W1,w.alloc (.cells z.cells T)=W1:=⟨_,rfl⟩
 obtain ⟨W2,hW2⟩:∃ W2,W1.alloc (.cells z'.cells T')=W2:=⟨_,rfl⟩
 have hg1:Grow w W1:=by rw [← hW1]; exact Grow.alloc _ _
 have hg2:Grow W1 W2:=by rw [← hW2]; exact Grow.alloc _ _
 have hs1:W1.heap.size=w.heap.size+1:=by rw [← hW1]; simp
 have hc1:W1.heap[w.heap.size]?=some (.cells z.cells T (0,0)):=by rw [← hW1]; exact heap_alloc_new w _
 have hc2:W2.heap[w.heap.size]?=some (.cells z.cells T (0,0)):=hg2.heap hc1
 have hc2':W2.heap[W1.heap.size]?=some (.cells z'.cells T' (0,0)):=by rw [← hW2]; exact heap_alloc_new W1 _
 rw [wpOps_cons]
 refine zkr ho1 z1 z2 ?_
 rw [hW1]
 obtain ⟨a1,ha1⟩:∃ a1,a.put (some d) (ptr w.heap.size)=a1:=⟨_,rfl⟩
 have d1:a1.eval (.tmp d)=ptr w.heap.size:=by rw [← ha1]; exact zaz _ _ _ hds
 have eo:∀ t,t≠d→a1.eval (.tmp t)=a.eval (.tmp t):=fun t ht=>by rw [← ha1]; exact za8 _ _ _ _ ht
 have es:a1.tmps.size=N:=by rw [← ha1,zbv]; exact h.size
 have ef:a1.defers=a.defers:=by rw [← ha1]; rfl
 rw [ha1,wpOps_cons]
 refine zkr ho2 z1' z2' ?_
 rw [hW2]
 obtain ⟨a2,ha2⟩:∃ a2,a1.put (some d') (ptr W1.heap.size)=a2:=⟨_,rfl⟩
 have d2:a2.eval (.tmp d')=ptr W1.heap.size:=by rw [← ha2]; exact zaz _ _ _ (by rw [es]; exact hd')
 have eo2:∀ t,t≠d→t≠d'→a2.eval (.tmp t)=a.eval (.tmp t):=fun t ht ht'=>by rw [← ha2,za8 _ _ _ _ ht']; exact eo t ht
 have d1':a2.eval (.tmp d)=ptr w.heap.size:=by rw [← ha2,za8 _ _ _ _ n1]; exact d1
 have es2:a2.tmps.size=N:=by rw [← ha2,zbv]; exact es
 have ef2:a2.defers=a.defers:=by rw [← ha2]; exact ef
 rw [ha2,wpOps_cons]
 refine zkq ho3 d1' ((eo2 x (Ne.symm n2) (Ne.symm n4)).trans e1) (A.cells_shape hp) ht l1 zo (A.one _ _ _ hp) hc2 ?_
 have hW3:=Wr.setRow W2 w.heap.size cs.toArray
 have hc3:(W2.setRow w.heap.size cs.toArray).heap[w.heap.size]?=some (.cells cs.toArray T (0,0)):=setRow_heap W2 _ _ _ _ _ hc2
 have hc3':(W2.setRow w.heap.size cs.toArray).heap[W1.heap.size]?=some (.cells z'.cells T' (0,0)):=(hW3.block _ zo).trans hc2'
 rw [wpOps_cons]
 refine zkq ho4 d2 ((eo2 x' (Ne.symm n3) (Ne.symm n5)).trans e1') (A'.cells_shape hp') ht' l1' zo (A'.one _ _ _ hp') hc3' ?_
 have hW4:=Wr.setRow (W2.setRow w.heap.size cs.toArray) W1.heap.size cs'.toArray
 have hc4':((W2.setRow w.heap.size cs.toArray).setRow W1.heap.size cs'.toArray).heap[W1.heap.size]?=some (.cells cs'.toArray T' (0,0)):=setRow_heap _ _ _ _ _ _ hc3'
 have hc4:((W2.setRow w.heap.size cs.toArray).setRow W1.heap.size cs'.toArray).heap[w.heap.size]?=some (.cells cs.toArray T (0,0)):=(hW4.block _ zo).trans hc3
 have hgr:Grow w ((W2.setRow w.heap.size cs.toArray).setRow W1.heap.size cs'.toArray):=Kept.grow0 ((((hg1.trans hg2).kept).wr hW3 (.inl (Nat.le_refl _))).wr hW4 (.inl (by show w.heap.size≤_; omega)))
 have hnm:∀ m∈Λ,∃ g,blk (a2.eval (.tmp m.s))=some g∧g<w.heap.size:=fun m hm=>by
  obtain ⟨g,c,q1,q2,q3,q4⟩:=h.locs m hm
  exact ⟨g,by rw [eo2 _ (hΛ' m hm).1 (hΛ' m hm).2,q1]; exact m.H.ok g,(Array.getElem?_eq_some_iff.1 q3).1⟩
 have b1:blk (a2.eval (.tmp d))=some w.heap.size:=by rw [d1']; rfl
 have b2:blk (a2.eval (.tmp d'))=some W1.heap.size:=by rw [d2]; rfl
 have hnd:∀ m∈Λ++[(⟨d,T,ptrH,A⟩:Lc),⟨d',T',ptrH,A'⟩],(m∈Λ∧∃ g,blk (a2.eval (.tmp m.s))=some g∧g<w.heap.size)∨(m=⟨d,T,ptrH,A⟩)∨(m=⟨d',T',ptrH,A'⟩):=fun m hm=>by
  rcases List.mem_append.1 hm with hm | hm
  ·exact .inl ⟨hm,hnm m hm⟩
  ·rcases List.mem_cons.1 hm with rfl | hm
   ·exact .inr (.inl rfl)
   ·exact .inr (.inr (List.mem_singleton.1 hm))
 refine hK _ _ ⟨h.lo,h.defers.grow hgr ef2,es2,h.base.grow hgr,fun y hy=>?_,fun m hm=>?_,fun m hm m' hm' hne'=>?_⟩
 ·obtain ⟨k,hk1,hk2⟩:=List.mem_filterMap.1 hy
  have:=List.all_eq_true.1 hsrc k hk1
  rw [hk2] at this
  simp only [Bool.and_eq_true,bne_iff_ne] at this
  rw [eo2 _ this.1 this.2]
  exact y.2.grow _ _ _ _ hgr (h.vals y (List.mem_of_getElem? hk2))
 ·rcases hnd m hm with ⟨hm,_⟩ | rfl | rfl
  ·obtain ⟨g,c,q1,q2,q3,q4⟩:=h.locs m hm
   exact ⟨g,c,by rw [eo2 _ (hΛ' m hm).1 (hΛ' m hm).2]; exact q1,q2,hgr.heap q3,m.A.grow _ _ _ _ hgr q4⟩
  ·exact ⟨w.heap.size,cs,d1',.inl h.base.size,hc4,A.grow _ _ _ _ hgr hp⟩
  ·exact ⟨W1.heap.size,cs',d2,.inl (by have:=h.base.size; show w0.w.heap.size≤_; omega),hc4',A'.grow _ _ _ _ hgr hp'⟩
 ·rcases hnd m hm with ⟨hm,g,q1,q2⟩ | rfl | rfl <;> rcases hnd m' hm' with ⟨hm',g',q1',q2'⟩ | rfl | rfl
  ·rw [eo2 _ (hΛ' m hm).1 (hΛ' m hm).2,eo2 _ (hΛ' m' hm').1 (hΛ' m' hm').2]
   exact h.dis m hm m' hm' hne'
  ·rw [q1,b1]; intro e; injection e with e; omega
  ·rw [q1,b2]; intro e; injection e with e; omega
  ·rw [q1',b1]; intro e; injection e with e; omega
  ·exact absurd rfl hne'
  ·show blk (a2.eval (.tmp d))≠blk (a2.eval (.tmp d'))
   rw [b1,b2]; intro e; injection e with e; omega
  ·rw [q1',b2]; intro e; injection e with e; omega
  ·show blk (a2.eval (.tmp d'))≠blk (a2.eval (.tmp d))
   rw [b1,b2]; intro e; injection e with e; omega
  ·exact absurd rfl hne'
theorem zhf {id:Nat}{ops:Array Oper}{sp:List Sp}(n:Nat)(src:List Src){d x d' x':Nat}{T ty T1 T2 T' ty' T3 T4:TypeId}{A0 A A0' A':As}{ps1 ps2 ps3 ps4:String}{af1 af2 af3 af4:Array Edge}(kx kx':Nat)(src2:List Nat)
  (h:St B w0 N Γ Λ a w) (hob:Obs P Q ⟨ops,N,Γ,lesN Λ++[⟨d,999999,ptrH,some n,OneC,some (n+2,OneC)⟩,⟨d',999999,ptrH,some (n+1),OneC,some (n+3,OneC)⟩],sp,fun i=>List.range i⟩ B w0 0 n) (hsz:ops.size=n+4) (hk:Rg.chk ⟨ops,N,Γ,lesN Λ++[⟨d,999999,ptrH,some n,OneC,some (n+2,OneC)⟩,⟨d',999999,ptrH,some (n+1),OneC,some (n+3,OneC)⟩],sp,fun i=>List.range i⟩=true)
  (hsrc:src.all (fun s=>match s with | .g k=>(match Γ[k]? with | some x=>Rg.outG ⟨ops,N,Γ,lesN Λ++[⟨d,999999,ptrH,some n,OneC,some (n+2,OneC)⟩,⟨d',999999,ptrH,some (n+1),OneC,some (n+3,OneC)⟩],sp,fun i=>List.range i⟩ x.1 | none=>false) | .o i=>decide (i<n))=true)
  (ho1:ops[n]?=some ⟨some d,.alloc T,T1,ps1,af1,none⟩) (ho2:ops[n+1]?=some ⟨some d',.alloc T',T2,ps2,af2,none⟩)
  (ho3:ops[n+2]?=some ⟨none,.store ty (.tmp d) (.tmp x),T3,ps3,af3,none⟩) (ho4:ops[n+3]?=some ⟨none,.store ty' (.tmp d') (.tmp x'),T4,ps4,af4,none⟩)
  (hz:Zero P T A0) (hz':Zero P T' A0') (hx:(src.filterMap (takeS ⟨ops,N,Γ,lesN Λ++[⟨d,999999,ptrH,some n,OneC,some (n+2,OneC)⟩,⟨d',999999,ptrH,some (n+1),OneC,some (n+3,OneC)⟩],sp,fun i=>List.range i⟩))[kx]?=some (x,A.va)) (hx':(src.filterMap (takeS ⟨ops,N,Γ,lesN Λ++[⟨d,999999,ptrH,some n,OneC,some (n+2,OneC)⟩,⟨d',999999,ptrH,some (n+1),OneC,some (n+3,OneC)⟩],sp,fun i=>List.range i⟩))[kx']?=some (x',A'.va)) (ht:Ty P ty A.n A.ag) (ht':Ty P ty' A'.n A'.ag) (hn:A0.n=A.n) (hn':A0'.n=A'.n) (hd:d<N) (hd':d'<N)
  (hne:(d != d'&&d != x&&d != x'&&d' != x&&d' != x')=true)
  (hsrc2:src2.all (fun k=>match (src.filterMap (takeS ⟨ops,N,Γ,lesN Λ++[⟨d,999999,ptrH,some n,OneC,some (n+2,OneC)⟩,⟨d',999999,ptrH,some (n+1),OneC,some (n+3,OneC)⟩],sp,fun i=>List.range i⟩))[k]? with | some y=>y.1 != d&&y.1 != d' | none=>false)=true) (hΛ:Λ.all (fun l=>l.s != d&&l.s != d')=true)
  (hQ:∀ a' w',St B w0 N (src2.filterMap fun k=>(src.filterMap (takeS ⟨ops,N,Γ,lesN Λ++[⟨d,999999,ptrH,some n,OneC,some (n+2,OneC)⟩,⟨d',999999,ptrH,some (n+1),OneC,some (n+3,OneC)⟩],sp,fun i=>List.range i⟩))[k]?) (Λ++[⟨d,T,ptrH,A⟩,⟨d',T',ptrH,A'⟩]) a' w'→Q .normal a' w'):(Code.region id ops false).wp P Q a w:=by
 refine Rg.linK (R:=⟨ops,N,Γ,lesN Λ++[⟨d,999999,ptrH,some n,OneC,some (n+2,OneC)⟩,⟨d',999999,ptrH,some (n+1),OneC,some (n+3,OneC)⟩],sp,fun i=>List.range i⟩) (m:=4) hsz rfl hk h (fun y hy hcr=>?_) (fun i hi=>hob.all i zo zo) fun a1 w1 hinv=>?_
 ·rcases List.mem_append.1 hy with hy | hy
  ·obtain ⟨l',hl',rfl⟩:=List.mem_map.1 hy
   exact hl'
  ·rcases List.mem_cons.1 hy with rfl | hy
   ·cases hcr
   ·obtain rfl:=List.mem_singleton.1 hy
    cases hcr
 ·rw [show List.range' n 4=[n,n+1,n+2,n+3] from rfl]
  exact op_new2 kx kx' src2 ho1 ho2 ho3 ho4 (zl2 (fun l' hl'=>⟨none,List.mem_append_left _ (List.mem_map.2 ⟨l',hl',rfl⟩)⟩) (fun y hy i B' hst=>by
   rcases List.mem_append.1 hy with hy | hy
   ·obtain ⟨l',hl',rfl⟩:=List.mem_map.1 hy
    cases hst
   ·rcases List.mem_cons.1 hy with rfl | hy
    ·injection hst with hst; injection hst with hst _; omega
    ·obtain rfl:=List.mem_singleton.1 hy
     injection hst with hst; injection hst with hst _; omega) hinv src hsrc) hz hz' hx hx' ht ht' hn hn' hd hd' hne hsrc2 hΛ fun a' w' hst=>hQ _ _ hst
end
theorem ownB_wr {b g:Nat}{E T:TypeId}{m:Nat}{D:List TypeId}{l:List As}{B:Nat}{v:Value}{w w':World}{c:Array Value}{fz:Nat × Nat}(h:(OwnB b E m D l).p B v w)(hg:w.heap[g]?=some (.cells c T fz))(hT:T ∉ D)(hB:B≤g)(hlt:g<b)(hW:Wr g w w'):(OwnB b E m D l).p B v w':=by
 obtain ⟨k1,k2,h1,h2,ds,h3,h4,h5⟩:=h
 refine ⟨by rw [hW.size]; exact k1,k2,h1,h2,ds,(cat l).wr _ _ _ _ _ _ _ _ hg (zgx h2 hT) hB hW h3,h4,?_⟩
 rcases h5 with h5 | ⟨g',cap,cur,q1,q2,q3,q4⟩
 ·exact .inl h5
 ·exact .inr ⟨g',cap,cur,q1,q2,(hW.block _ zo).trans q3,q4⟩
section
open Rg
variable {P:Program} {Q:Exit→Act→World→Prop} {B N:Nat} {w0:Bs} {Γ:List (Nat × VA)} {Λ:List Lc} {a:Act} {w:World}
theorem go_stB {id:Nat}{ops:Array Oper}{sp:List Sp}(anc:List (List Nat))(n:Nat)(src:List Src)(kd ko k3 e:Nat)(src2:List Nat){sx d so m b:Nat}{T ty T' E:TypeId}{A0 A:As}{D:List TypeId}{l:List As}{ps:String}{af:Array Edge}(hmx:P.follows .mixedOrders=true)
  (h:St B w0 N Γ Λ a w) (hob:Obs P Q ⟨ops,N,Γ,lesS Λ e n A,sp,fun i=>anc.getD i []⟩ B w0 0 n) (hsz:ops.size=n+1) (hanc:Rg.ancOk ⟨ops,N,Γ,lesS Λ e n A,sp,fun i=>anc.getD i []⟩=true) (hall:∀ i,n≤i→i<n+1→∀ j,j<i→(anc.getD i []).contains j=true) (hk:Rg.chk ⟨ops,N,Γ,lesS Λ e n A,sp,fun i=>anc.getD i []⟩=true)
  (hsrc:src.all (fun s=>match s with | .g k=>(match Γ[k]? with | some x=>Rg.outG ⟨ops,N,Γ,lesS Λ e n A,sp,fun i=>anc.getD i []⟩ x.1 | none=>false) | .o i=>decide (i<n))=true)
  (ho:ops[n]?=some ⟨none,.store ty (.tmp sx) (.tmp d),T',ps,af,none⟩) (hd:(src.filterMap (takeS ⟨ops,N,Γ,lesS Λ e n A,sp,fun i=>anc.getD i []⟩))[kd]?=some (d,A.va)) (hl:Λ[e]?=some ⟨sx,T,ptrH,A0⟩) (ht:Ty P ty A.n A.ag) (hn:A0.n=A.n) (hT:A.deps.contains T=false)
  (hko:(src.filterMap (takeS ⟨ops,N,Γ,lesS Λ e n A,sp,fun i=>anc.getD i []⟩))[ko]?=some (so,OwnB b E m D l)) (h3:(src.filterMap (takeS ⟨ops,N,Γ,lesS Λ e n A,sp,fun i=>anc.getD i []⟩))[k3]?=some (sx,PtrLt b)) (hDT:D.contains T=false)
  (hsrc2:src2.all (fun k=>match (src.filterMap (takeS ⟨ops,N,Γ,lesS Λ e n A,sp,fun i=>anc.getD i []⟩))[k]? with | some y => !y.2.deps.contains T | none=>false)=true) (hΛ:Λ.zipIdx.all (fun x=>x.2==e || (x.1.s != sx && !x.1.A.deps.contains T))=true)
  (hQ:∀ a' w',St B w0 N ((so,OwnB b E m D l)::src2.filterMap fun k=>(src.filterMap (takeS ⟨ops,N,Γ,lesS Λ e n A,sp,fun i=>anc.getD i []⟩))[k]?) (Λ.set e ⟨sx,T,ptrH,A⟩) a' w'→Q .normal a' w'):(Code.region id ops true).wp P Q a w:=by
 refine Rg.drawK (R:=⟨ops,N,Γ,lesS Λ e n A,sp,fun i=>anc.getD i []⟩) (m:=1) hsz zd hmx hanc hk h (fun y hy _=>?_) (fun i hi=>hob.all i zo zo) (fun i h1 h2 j hj=>hall i h1 h2 j hj) fun a1 w1 hinv=>?_
 ·exact (zds y hy).2.1
 ·rw [show List.range' n 1=[n] from rfl,wpOps_cons]
  have hst:=zl2 (fun l' hl'=>by
   obtain ⟨j,hj⟩:=List.getElem?_of_mem hl'
   exact ⟨_,List.mem_map.2 ⟨(l',j),List.mem_zipIdx_iff_getElem?.2 hj,rfl⟩⟩) (fun y hy i B' h1=>Nat.le_of_eq ((zds y hy).2.2 i B' h1).symm) hinv src hsrc
  refine zkp (kd:=kd) (e:=e) src2 ho hst hd hl ht hn hT hsrc2 hΛ _ fun w' ⟨g,c,fz,q1,q2,q3,q4⟩ hst'=>hQ _ _ ⟨hst'.lo,hst'.defers,hst'.size,hst'.base,fun x hx=>?_,hst'.locs,hst'.dis⟩
  rcases List.mem_cons.1 hx with rfl | hx
  ·obtain ⟨g3,r1,r2⟩:=hst.vals _ (List.mem_of_getElem? h3)
   have e3:g3=g:=by rw [q1] at r1; injection r1 with r1; exact r1.symm
   subst e3
   exact ownB_wr (hst.vals _ (List.mem_of_getElem? hko)) q3 (by simpa using hDT) q2 r2 q4
  ·exact hst'.vals x hx
end
def SizeGe (b:Nat):VA where
 p _ _ w:=b≤w.heap.size
 deps:=[]
 cg:=fun _ _ _ _ hg h=>Nat.le_trans h hg.size
 wr:=fun _ _ _ _ _ _ _ _ _ _ _ hW h=>by rw [hW.size]; exact h
section
open Rg
variable {P:Program} {Q:Exit→Act→World→Prop} {B N:Nat} {w0:Bs} {Γ:List (Nat × VA)} {Λ:List Lc} {a:Act} {w:World}
theorem op_new2X {s9 b1:Nat}(Aup:Nat→As){ops:Array Oper}{i d x d' x':Nat}{T ty T1 T2 T' ty' T3 T4:TypeId}{A0 A A0' A':As}{ps1 ps2 ps3 ps4:String}{af1 af2 af3 af4:Array Edge}{rest:List Nat}(kx kx' k9:Nat)(src:List Nat)
  (ho1:ops[i]?=some ⟨some d,.alloc T,T1,ps1,af1,none⟩) (ho2:ops[i+1]?=some ⟨some d',.alloc T',T2,ps2,af2,none⟩)
  (ho3:ops[i+2]?=some ⟨none,.store ty (.tmp d) (.tmp x),T3,ps3,af3,none⟩) (ho4:ops[i+3]?=some ⟨none,.store ty' (.tmp d') (.tmp x'),T4,ps4,af4,none⟩)
  (h:St B w0 N Γ Λ a w) (hA:∀ b cs w,w.heap.size=b→A.p B cs w→(Aup b).p B cs w) (h9:Γ[k9]?=some (s9,SizeGe b1)) (hz:Zero P T A0) (hz':Zero P T' A0') (hx:Γ[kx]?=some (x,A.va)) (hx':Γ[kx']?=some (x',A'.va)) (ht:Ty P ty A.n A.ag) (ht':Ty P ty' A'.n A'.ag) (hn:A0.n=A.n) (hn':A0'.n=A'.n) (hd:d<N) (hd':d'<N)
  (hne:(d != d'&&d != x&&d != x'&&d' != x&&d' != x')=true)
  (hsrc:src.all (fun k=>match Γ[k]? with | some y=>y.1 != d&&y.1 != d' | none=>false)=true) (hΛ:Λ.all (fun l=>l.s != d&&l.s != d')=true)
  (hK:∀ b a' w',b1≤b→St B w0 N ((d,EqV (ptr b))::(d',EqV (ptr (b+1)))::src.filterMap fun k=>Γ[k]?) (Λ++[⟨d,T,ptrH,Aup b⟩,⟨d',T',ptrH,A'⟩]) a' w'→wpOps P ops Q rest a' w'):wpOps P ops Q (i::(i+1)::(i+2)::(i+3)::rest) a w:=by
 obtain ⟨it,z,z1,z2,z3⟩:=hz
 obtain ⟨it',z',z1',z2',z3'⟩:=hz'
 obtain ⟨cs,hp,hv⟩:=h.vals _ (List.mem_of_getElem? hx)
 obtain ⟨cs',hp',hv'⟩:=h.vals _ (List.mem_of_getElem? hx')
 have e1:a.eval (.tmp x)=shape A.ag cs:=hv
 have e1':a.eval (.tmp x')=shape A'.ag cs':=hv'
 have l1:=A.len _ _ _ hp
 have l1':=A'.len _ _ _ hp'
 have l0:=A0.len _ _ _ (z3 B w)
 have l0':=A0'.len _ _ _ (z3' B w)
 have l2:z.cells.size=A0.n:=by simpa using l0
 have l2':z'.cells.size=A0'.n:=by simpa using l0'
 simp only [Bool.and_eq_true,bne_iff_ne] at hne
 obtain ⟨⟨⟨⟨n1,n2⟩,n3⟩,n4⟩,n5⟩:=hne
 have hΛ':∀ l∈Λ,l.s≠d∧l.s≠d':=fun l hl=>by
  have:=List.all_eq_true.1 hΛ l hl
  simpa using this
 have hds:d<a.tmps.size:=by rw [h.size]; exact hd
 obtain ⟨W1,hW1⟩:∃ W1,w.alloc (.cells z.cells T)=W1:=⟨_,rfl⟩
 obtain ⟨W2,hW2⟩:∃ W2,W1.alloc (.cells z'.cells T')=W2:=⟨_,rfl⟩
 have hg1:Grow w W1:=by rw [← hW1]; exact Grow.alloc _ _
 have hg2:Grow W1 W2:=by rw [← hW2]; exact Grow.alloc _ _
 have hs1:W1.heap.size=w.heap.size+1:=by rw [← hW1]; simp
 have hc1:W1.heap[w.heap.size]?=some (.cells z.cells T (0,0)):=by rw [← hW1]; exact heap_alloc_new w _
 have hc2:W2.heap[w.heap.size]?=some (.cells z.cells T (0,0)):=hg2.heap hc1
 have hc2':W2.heap[W1.heap.size]?=some (.cells z'.cells T' (0,0)):=by rw [← hW2]; exact heap_alloc_new W1 _
 rw [wpOps_cons]
 refine zkr ho1 z1 z2 ?_
 rw [hW1]
 obtain ⟨a1,ha1⟩:∃ a1,a.put (some d) (ptr w.heap.size)=a1:=⟨_,rfl⟩
 have d1:a1.eval (.tmp d)=ptr w.heap.size:=by rw [← ha1]; exact zaz _ _ _ hds
 have eo:∀ t,t≠d→a1.eval (.tmp t)=a.eval (.tmp t):=fun t ht=>by rw [← ha1]; exact za8 _ _ _ _ ht
 have es:a1.tmps.size=N:=by rw [← ha1,zbv]; exact h.size
 have ef:a1.defers=a.defers:=by rw [← ha1]; rfl
 rw [ha1,wpOps_cons]
 refine zkr ho2 z1' z2' ?_
 rw [hW2]
 obtain ⟨a2,ha2⟩:∃ a2,a1.put (some d') (ptr W1.heap.size)=a2:=⟨_,rfl⟩
 have d2:a2.eval (.tmp d')=ptr W1.heap.size:=by rw [← ha2]; exact zaz _ _ _ (by rw [es]; exact hd')
 have eo2:∀ t,t≠d→t≠d'→a2.eval (.tmp t)=a.eval (.tmp t):=fun t ht ht'=>by rw [← ha2,za8 _ _ _ _ ht']; exact eo t ht
 have d1':a2.eval (.tmp d)=ptr w.heap.size:=by rw [← ha2,za8 _ _ _ _ n1]; exact d1
 have es2:a2.tmps.size=N:=by rw [← ha2,zbv]; exact es
 have ef2:a2.defers=a.defers:=by rw [← ha2]; exact ef
 rw [ha2,wpOps_cons]
 refine zkq ho3 d1' ((eo2 x (Ne.symm n2) (Ne.symm n4)).trans e1) (A.cells_shape hp) ht l1 zo (A.one _ _ _ hp) hc2 ?_
 have hW3:=Wr.setRow W2 w.heap.size cs.toArray
 have hc3:(W2.setRow w.heap.size cs.toArray).heap[w.heap.size]?=some (.cells cs.toArray T (0,0)):=setRow_heap W2 _ _ _ _ _ hc2
 have hc3':(W2.setRow w.heap.size cs.toArray).heap[W1.heap.size]?=some (.cells z'.cells T' (0,0)):=(hW3.block _ zo).trans hc2'
 rw [wpOps_cons]
 refine zkq ho4 d2 ((eo2 x' (Ne.symm n3) (Ne.symm n5)).trans e1') (A'.cells_shape hp') ht' l1' zo (A'.one _ _ _ hp') hc3' ?_
 have hW4:=Wr.setRow (W2.setRow w.heap.size cs.toArray) W1.heap.size cs'.toArray
 have hc4':((W2.setRow w.heap.size cs.toArray).setRow W1.heap.size cs'.toArray).heap[W1.heap.size]?=some (.cells cs'.toArray T' (0,0)):=setRow_heap _ _ _ _ _ _ hc3'
 have hc4:((W2.setRow w.heap.size cs.toArray).setRow W1.heap.size cs'.toArray).heap[w.heap.size]?=some (.cells cs.toArray T (0,0)):=(hW4.block _ zo).trans hc3
 have hgr:Grow w ((W2.setRow w.heap.size cs.toArray).setRow W1.heap.size cs'.toArray):=Kept.grow0 ((((hg1.trans hg2).kept).wr hW3 (.inl (Nat.le_refl _))).wr hW4 (.inl (by show w.heap.size≤_; omega)))
 have hnm:∀ m∈Λ,∃ g,blk (a2.eval (.tmp m.s))=some g∧g<w.heap.size:=fun m hm=>by
  obtain ⟨g,c,q1,q2,q3,q4⟩:=h.locs m hm
  exact ⟨g,by rw [eo2 _ (hΛ' m hm).1 (hΛ' m hm).2,q1]; exact m.H.ok g,(Array.getElem?_eq_some_iff.1 q3).1⟩
 have b1:blk (a2.eval (.tmp d))=some w.heap.size:=by rw [d1']; rfl
 have b2:blk (a2.eval (.tmp d'))=some W1.heap.size:=by rw [d2]; rfl
 have hnd:∀ m∈Λ++[(⟨d,T,ptrH,Aup w.heap.size⟩:Lc),⟨d',T',ptrH,A'⟩],(m∈Λ∧∃ g,blk (a2.eval (.tmp m.s))=some g∧g<w.heap.size)∨(m=⟨d,T,ptrH,Aup w.heap.size⟩)∨(m=⟨d',T',ptrH,A'⟩):=fun m hm=>by
  rcases List.mem_append.1 hm with hm | hm
  ·exact .inl ⟨hm,hnm m hm⟩
  ·rcases List.mem_cons.1 hm with rfl | hm
   ·exact .inr (.inl rfl)
   ·exact .inr (.inr (List.mem_singleton.1 hm))
 refine hK w.heap.size _ _ (h.vals _ (List.mem_of_getElem? h9)) ⟨h.lo,h.defers.grow hgr ef2,es2,h.base.grow hgr,fun y hy=>?_,fun m hm=>?_,fun m hm m' hm' hne'=>?_⟩
 ·rcases List.mem_cons.1 hy with rfl | hy
  ·exact d1'
  rcases List.mem_cons.1 hy with rfl | hy
  ·show a2.eval (.tmp d')=ptr (w.heap.size+1)
   rw [d2,hs1]
  obtain ⟨k,hk1,hk2⟩:=List.mem_filterMap.1 hy
  have:=List.all_eq_true.1 hsrc k hk1
  rw [hk2] at this
  simp only [Bool.and_eq_true,bne_iff_ne] at this
  rw [eo2 _ this.1 this.2]
  exact y.2.grow _ _ _ _ hgr (h.vals y (List.mem_of_getElem? hk2))
 ·rcases hnd m hm with ⟨hm,_⟩ | rfl | rfl
  ·obtain ⟨g,c,q1,q2,q3,q4⟩:=h.locs m hm
   exact ⟨g,c,by rw [eo2 _ (hΛ' m hm).1 (hΛ' m hm).2]; exact q1,q2,hgr.heap q3,m.A.grow _ _ _ _ hgr q4⟩
  ·exact ⟨w.heap.size,cs,d1',.inl h.base.size,hc4,(Aup _).grow _ _ _ _ hgr (hA _ _ _ rfl hp)⟩
  ·exact ⟨W1.heap.size,cs',d2,.inl (by have:=h.base.size; show w0.w.heap.size≤_; omega),hc4',A'.grow _ _ _ _ hgr hp'⟩
 ·rcases hnd m hm with ⟨hm,g,q1,q2⟩ | rfl | rfl <;> rcases hnd m' hm' with ⟨hm',g',q1',q2'⟩ | rfl | rfl
  ·rw [eo2 _ (hΛ' m hm).1 (hΛ' m hm).2,eo2 _ (hΛ' m' hm').1 (hΛ' m' hm').2]
   exact h.dis m hm m' hm' hne'
  ·rw [q1,b1]; intro e; injection e with e; omega
  ·rw [q1,b2]; intro e; injection e with e; omega
  ·rw [q1',b1]; intro e; injection e with e; omega
  ·exact absurd rfl hne'
  ·show blk (a2.eval (.tmp d))≠blk (a2.eval (.tmp d'))
   rw [b1,b2]; intro e; injection e with e; omega
  ·rw [q1',b2]; intro e; injection e with e; omega
  ·show blk (a2.eval (.tmp d'))≠blk (a2.eval (.tmp d))
   rw [b1,b2]; intro e; injection e with e; omega
  ·exact absurd rfl hne'
theorem zjt {s9 b1:Nat}(Aup:Nat→As){id:Nat}{ops:Array Oper}{sp:List Sp}(n:Nat)(src:List Src){d x d' x':Nat}{T ty T1 T2 T' ty' T3 T4:TypeId}{A0 A A0' A':As}{ps1 ps2 ps3 ps4:String}{af1 af2 af3 af4:Array Edge}(kx kx' k9:Nat)(src2:List Nat)
  (h:St B w0 N Γ Λ a w) (hob:Obs P Q ⟨ops,N,Γ,lesN Λ++[⟨d,999999,ptrH,some n,OneC,some (n+2,OneC)⟩,⟨d',999999,ptrH,some (n+1),OneC,some (n+3,OneC)⟩],sp,fun i=>List.range i⟩ B w0 0 n) (hsz:ops.size=n+4) (hk:Rg.chk ⟨ops,N,Γ,lesN Λ++[⟨d,999999,ptrH,some n,OneC,some (n+2,OneC)⟩,⟨d',999999,ptrH,some (n+1),OneC,some (n+3,OneC)⟩],sp,fun i=>List.range i⟩=true)
  (hsrc:src.all (fun s=>match s with | .g k=>(match Γ[k]? with | some x=>Rg.outG ⟨ops,N,Γ,lesN Λ++[⟨d,999999,ptrH,some n,OneC,some (n+2,OneC)⟩,⟨d',999999,ptrH,some (n+1),OneC,some (n+3,OneC)⟩],sp,fun i=>List.range i⟩ x.1 | none=>false) | .o i=>decide (i<n))=true)
  (ho1:ops[n]?=some ⟨some d,.alloc T,T1,ps1,af1,none⟩) (ho2:ops[n+1]?=some ⟨some d',.alloc T',T2,ps2,af2,none⟩)
  (ho3:ops[n+2]?=some ⟨none,.store ty (.tmp d) (.tmp x),T3,ps3,af3,none⟩) (ho4:ops[n+3]?=some ⟨none,.store ty' (.tmp d') (.tmp x'),T4,ps4,af4,none⟩)
  (hA:∀ b cs w,w.heap.size=b→A.p B cs w→(Aup b).p B cs w) (h9:(src.filterMap (takeS ⟨ops,N,Γ,lesN Λ++[⟨d,999999,ptrH,some n,OneC,some (n+2,OneC)⟩,⟨d',999999,ptrH,some (n+1),OneC,some (n+3,OneC)⟩],sp,fun i=>List.range i⟩))[k9]?=some (s9,SizeGe b1)) (hz:Zero P T A0) (hz':Zero P T' A0') (hx:(src.filterMap (takeS ⟨ops,N,Γ,lesN Λ++[⟨d,999999,ptrH,some n,OneC,some (n+2,OneC)⟩,⟨d',999999,ptrH,some (n+1),OneC,some (n+3,OneC)⟩],sp,fun i=>List.range i⟩))[kx]?=some (x,A.va)) (hx':(src.filterMap (takeS ⟨ops,N,Γ,lesN Λ++[⟨d,999999,ptrH,some n,OneC,some (n+2,OneC)⟩,⟨d',999999,ptrH,some (n+1),OneC,some (n+3,OneC)⟩],sp,fun i=>List.range i⟩))[kx']?=some (x',A'.va)) (ht:Ty P ty A.n A.ag) (ht':Ty P ty' A'.n A'.ag) (hn:A0.n=A.n) (hn':A0'.n=A'.n) (hd:d<N) (hd':d'<N)
  (hne:(d != d'&&d != x&&d != x'&&d' != x&&d' != x')=true)
  (hsrc2:src2.all (fun k=>match (src.filterMap (takeS ⟨ops,N,Γ,lesN Λ++[⟨d,999999,ptrH,some n,OneC,some (n+2,OneC)⟩,⟨d',999999,ptrH,some (n+1),OneC,some (n+3,OneC)⟩],sp,fun i=>List.range i⟩))[k]? with | some y=>y.1 != d&&y.1 != d' | none=>false)=true) (hΛ:Λ.all (fun l=>l.s != d&&l.s != d')=true)
  (hQ:∀ b a' w',b1≤b→St B w0 N ((d,EqV (ptr b))::(d',EqV (ptr (b+1)))::src2.filterMap fun k=>(src.filterMap (takeS ⟨ops,N,Γ,lesN Λ++[⟨d,999999,ptrH,some n,OneC,some (n+2,OneC)⟩,⟨d',999999,ptrH,some (n+1),OneC,some (n+3,OneC)⟩],sp,fun i=>List.range i⟩))[k]?) (Λ++[⟨d,T,ptrH,Aup b⟩,⟨d',T',ptrH,A'⟩]) a' w'→Q .normal a' w'):(Code.region id ops false).wp P Q a w:=by
 refine Rg.linK (R:=⟨ops,N,Γ,lesN Λ++[⟨d,999999,ptrH,some n,OneC,some (n+2,OneC)⟩,⟨d',999999,ptrH,some (n+1),OneC,some (n+3,OneC)⟩],sp,fun i=>List.range i⟩) (m:=4) hsz rfl hk h (fun y hy hcr=>?_) (fun i hi=>hob.all i zo zo) fun a1 w1 hinv=>?_
 ·rcases List.mem_append.1 hy with hy | hy
  ·obtain ⟨l',hl',rfl⟩:=List.mem_map.1 hy
   exact hl'
  ·rcases List.mem_cons.1 hy with rfl | hy
   ·cases hcr
   ·obtain rfl:=List.mem_singleton.1 hy
    cases hcr
 ·rw [show List.range' n 4=[n,n+1,n+2,n+3] from rfl]
  exact op_new2X Aup kx kx' k9 src2 ho1 ho2 ho3 ho4 (zl2 (fun l' hl'=>⟨none,List.mem_append_left _ (List.mem_map.2 ⟨l',hl',rfl⟩)⟩) (fun y hy i B' hst=>by
   rcases List.mem_append.1 hy with hy | hy
   ·obtain ⟨l',hl',rfl⟩:=List.mem_map.1 hy
    cases hst
   ·rcases List.mem_cons.1 hy with rfl | hy
    ·injection hst with hst; injection hst with hst _; omega
    ·obtain rfl:=List.mem_singleton.1 hy
     injection hst with hst; injection hst with hst _; omega) hinv src hsrc) hA h9 hz hz' hx hx' ht ht' hn hn' hd hd' hne hsrc2 hΛ fun b a' w' hb hst=>hQ _ _ _ hb hst
end
theorem app_int:∃ it z,Tryz.prog.info? 25=some it∧it.zero=some z∧it.size=2∧it.bytes=32∧z.cells.size=2:=by
 have h:((Tryz.prog.info? 25).bind fun it=>it.zero.map fun z=>(it.size,it.bytes,z.cells.size))=some (2,32,2):=by kernel_rfl
 cases hi:Tryz.prog.info? 25 with
 | none=>rw [hi] at h; simp at h
 | some it =>
  rw [hi] at h
  cases hz:it.zero with
  | none=>simp [hz] at h
  | some z =>
   simp [hz] at h
   exact ⟨it,z,rfl,hz,h.1,h.2.1,h.2.2⟩
def lqS (xs:List Rat):Nat→Int
 | 0=>1
 | j+1=>lqS xs j*Int.tdiv ((xs.getD j 0).den:Int) ((Int.gcd (lqS xs j) ((xs.getD j 0).den:Int):Nat):Int)
def ovA (Q:Int)(x:Rat):As:=ZA 10242 (x.num*Int.tdiv Q (x.den:Int))
theorem at_d {α:Type}{f:α→As}{xs:List α}{j:Nat}{d:α}(h:j<xs.length):(xs.map f)[j]?=some (f (xs.getD j d)):=by
 rw [List.getElem?_map,List.getElem?_eq_getElem h,List.getD_eq_getElem?_getD,List.getElem?_eq_getElem h]; rfl
theorem gcd_nz (q:Int)(x:Rat):((Int.gcd q (x.den:Int):Nat):Int)≠0:=by
 have h:=x.den_nz
 intro e
 have e2:Int.gcd q (x.den:Int)=0:=by omega
 have:=Int.gcd_eq_zero_iff.1 e2
 omega
theorem den_nzI (x:Rat):(x.den:Int)≠0:=by have h:=x.den_nz; omega
theorem ov_nx {Q:Int}{xs:List Rat}{j:Nat}(h:j<xs.length):(xs.take j).map (ovA Q)++[ovA Q (xs.getD j 0)]=(xs.take (j+1)).map (ovA Q):=by
 rw [List.getD_eq_getElem?_getD,List.getElem?_eq_getElem h,List.take_succ_eq_append_getElem h,List.map_append]
 rfl
theorem zkf (xs:List Rat)(hl:xs.length≤4):Cn Tryz.prog 83 [(SlA 27 [U32] (xs.map (QA 2048))).va] (Tu [(SlA 25 [U32] (xs.map (ovA (lqS xs xs.length)))).va,Zs 8194 (lqS xs xs.length)]):=by
 obtain ⟨it,z,e1,e2,e3,e4,e5⟩:=app_int
 refine Cn.introF Tryz.func83 rfl zk nq (fun B w0 a hF hst=>?_)
 have hst:St B w0 56 [(0,(SlA 27 [U32] (xs.map (QA 2048))).va)] [] a w0.w:=hst
 obtain ⟨v0,hv0,hst⟩:=St.eqv hst 0 rfl
 refine wp_seq ?_
 refine gl (sts:=[]) (news:=[⟨3,25,ptrH,some 1,_,none⟩]) (sp:=[.val 2 _,.alc 0]) [.g 0,.o 0] hst (zv rfl (za1 zc6) (oc (zao rfl rfl rfl (Str.zero zbr)) o0)) (fun a w hst=>?_)
 have hst:St B w0 56 [(0,_),(2,_)] [⟨3,25,ptrH,_⟩] a w:=hst
 refine zt<|gl (sts:=[some (1,_)]) (news:=[]) (sp:=[.val 12 _,.sto 0]) [.g 0,.g 1] hst (zv rfl (za5 (xs:=[.const (.int .i64 (1))]) (of_z zd zd) (.cons za3 .nil)) (oc (zad rfl rfl rfl (vq 0 rfl) zak (Eq.trans (b:=2) rfl rfl)) o0)) (fun a w hst=>?_)
 have hst:St B w0 56 [(0,_),(2,_)] [⟨3,25,ptrH,_⟩] a w:=hst
 refine zt ?_
 refine wp_seq ?_
 refine gl (sts:=[none]) (news:=[]) (sp:=[.val 13 _,.val 14 _,.val 15 _]) [.g 0,.g 1,.o 0,.o 1,.o 2] hst (zv rfl (za2 (gq 0 rfl)) (zv rfl (zfb Tryz.underlying101 (zdi hF hv0 (vq 0 rfl))) (zv rfl (za2 za3) o0))) (fun a w hst=>?_)
 have hst:St B w0 56 [(0,_),(2,_),(13,_),(14,_),(15,_)] [⟨3,25,ptrH,_⟩] a w:=hst
 refine za0 ?_
 refine wp_block ?_
 have hst:=St.sel hst [0,1,2,3,4]
 refine wp_loop_ghost (fun n a w=>∃ j:Nat,(n+j=xs.length)∧St B w0 56 [(0,EqV v0),(2,EqV (.slice none 0 0)),(13,EqV v0),(14,In (xs.length:Nat)),(15,In (j:Nat))] [⟨3,25,ptrH,ZA (2+2048*j) (lqS xs j)⟩] a w) (xs.length) ?_ ?_
 ·rw [List.length_map] at hst; exact ⟨0,by omega,hst⟩
 intro n a w hI
 obtain ⟨j,hn,hst⟩:=hI
 refine wp_seq ?_
 refine gl (sts:=[none]) (news:=[]) (sp:=[.val 16 _]) [.g 0,.g 1,.g 2,.g 3,.g 4,.o 0] hst (zv rfl (zc2 (gq 4 rfl) (gq 3 rfl)) o0) (fun a w hst=>?_)
 have hst:St B w0 56 [(0,_),(2,_),(13,_),(14,_),(15,_),(16,_)] [⟨3,25,ptrH,_⟩] a w:=hst
 refine zt ?_
 refine zaa hst (zm 5 rfl) (fun hb0=>?_) (fun hb0=>?_)
 ·have hj:j<xs.length:=by simp at hb0; omega
  refine wp_skip ?_
  refine zt ?_
  refine wp_block ?_
  refine wp_seq ?_
  refine gl (sts:=[none]) (news:=[⟨5,27,ptrH,some 2,_,some (3,_)⟩]) (sp:=[.val 17 _,.val 18 _,.alc 1,.sto 1]) [.g 0,.g 1,.g 2,.g 3,.g 4] hst (zv rfl (zde zcz (zg7 fun _=>rfl) (zdi hF hv0 (gq 2 rfl)) (gq 4 rfl) (at_d (d:=0) hj)) (zv rfl (zas (vq 0 rfl) za9) (oc (zao rfl rfl rfl (Str.zero zb3)) (oc (zad rfl rfl rfl (vq 1 rfl) za9 (Eq.trans (b:=4) rfl rfl)) o0)))) (fun a w hst=>?_)
  have hst:St B w0 56 [(0,_),(2,_),(13,_),(14,_),(15,_)] [⟨3,25,ptrH,_⟩,⟨5,27,ptrH,_⟩] a w:=hst
  refine zt<|zav (anc:=[[],[0],[],[],[3],[2,3,4],[0,1,2,3,4,5],[0,1,2,3,4,5,6],[0,1,2,3,4,5,6,7],[0,1,2,3,4,5,6,7],[],[],[0,1,2,3,4,5,6,7,8,10,11],[0,1,2,3,4,5,6,7,8,9,10,11,12]]) (sts:=[none,none]) (news:=[⟨6,25,ptrH,some 10,_,some (12,_)⟩,⟨7,25,ptrH,some 11,_,some (13,_)⟩]) (sp:=[.adr 20 5 (.some 2) True,.val 21 _,.val 22 _,.adr 23 5 (.some 2) True,.val 24 _,.val 25 _,.val 26 _,.val 19 _,.val 27 _,.val 28 _,.alc 2,.alc 3,.sto 2,.sto 3]) [.g 0,.g 1,.g 2,.g 3,.g 4] za6 hst (oc (ob_a rfl rfl (za7 (lz0 1 rfl) zb5)) (zv rfl (za4 0 rfl zk trivial (lz0 1 rfl) (Sub.part 1 rfl rfl) zak) (zv rfl (zab (lz0 0 rfl) zak) (oc (ob_a rfl rfl (za7 (lz0 1 rfl) zb5)) (zv rfl (za4 3 rfl zk trivial (lz0 1 rfl) (Sub.part 1 rfl rfl) zak) (zv rfl (za5 (xs:=[.tmp 22,.tmp 24]) (common_z zo zo) (.cons (vq 2 rfl) (.cons (vq 4 rfl) .nil))) (zv rfl (za5 (xs:=[.tmp 21,.tmp 25]) (zgb zo (gcd_nz _ _)) (.cons (vq 1 rfl) (.cons (vq 5 rfl) .nil))) (zv rfl (za2 (vq 6 rfl)) (zv rfl (ze4 (vq 7 rfl)) (zv rfl (ze3 (vq 7 rfl)) (oc (zao rfl rfl rfl (Str.zero zbr)) (oc (zao rfl rfl rfl (Str.zero zbr)) (oc (zad rfl rfl rfl (vq 8 rfl) zak (Eq.trans (b:=2) rfl rfl)) (oc (zad rfl rfl rfl (vq 9 rfl) zak (Eq.trans (b:=2) rfl rfl)) o0)))))))))))))) zk zk zk zk (fun a w hst=>?_)
  have hst:St B w0 56 [(0,_),(2,_),(13,_),(14,_),(15,_)] [⟨3,25,ptrH,_⟩,⟨5,27,ptrH,_⟩,⟨6,25,ptrH,_⟩,⟨7,25,ptrH,_⟩] a w:=hst
  refine za0 ?_
  refine gl (sts:=[some (3,_),none,none,none]) (news:=[]) (sp:=[.val 29 _,.val 30 _,.val 31 _,.sto 0]) [.g 0,.g 1,.g 2,.g 3,.g 4] hst (zv rfl (zab (lz0 0 rfl) zak) (zv rfl (zab (lz0 2 rfl) zak) (zv rfl (za5 (xs:=[.tmp 29,.tmp 30]) (zbz zo zo) (.cons (vq 0 rfl) (.cons (vq 1 rfl) .nil))) (oc (zad rfl rfl rfl (vq 2 rfl) zak (Eq.trans (b:=2) rfl rfl)) o0)))) (fun a w hst=>?_)
  have hst:St B w0 56 [(0,_),(2,_),(13,_),(14,_),(15,_)] [⟨3,25,ptrH,_⟩,⟨5,27,ptrH,_⟩,⟨6,25,ptrH,_⟩,⟨7,25,ptrH,_⟩] a w:=hst
  refine zan ?_
  refine za0 ?_
  refine gl (sts:=[none,none,none,none]) (news:=[]) (sp:=[.val 32 _,.val 15 _]) [.g 0,.g 1,.g 2,.g 3,.o 1] hst (zv rfl (zb8 (gq 4 rfl) za3 ((wi64 zo zo).trans (by omega:(_:Int)=((j+1:Nat):Int)))) (zv rfl (za2 (vq 0 rfl)) o0)) (fun a w hst=>?_)
  have hst:St B w0 56 [(0,_),(2,_),(13,_),(14,_),(15,_)] [⟨3,25,ptrH,_⟩,⟨5,27,ptrH,_⟩,⟨6,25,ptrH,_⟩,⟨7,25,ptrH,_⟩] a w:=hst
  refine za0 ?_
  have hst:=St.sel hst [0,1,2,3,4]
  have hst:=St.selL hst [0]
  exact ⟨n-1,by omega,j+1,by omega,St.wkL hst 0 rfl (zdl zo)⟩
 ·obtain rfl:j=xs.length:=by simp at hb0; omega
  refine wp_exit ?_
  refine zae ?_
  refine zae ?_
  refine zaw ?_
  refine zt ?_
  refine wp_seq ?_
  have hst:=St.wkL (A':=ZA 8194 (lqS xs xs.length)) hst 0 rfl (zdl zo)
  obtain ⟨b,hwb,hst⟩:=St.ownB (E:=25) (m:=2) (D:=[U32]) hst 1 0 rfl rfl
  have hst:St B w0 56 [(0,_),(2,_),(13,_),(14,_),(15,_),(16,_),(3,_)] [⟨3,25,ptrH,_⟩] a w:=hst
  refine gl (sts:=[none]) (news:=[]) (sp:=[.val 33 _,.val 34 _,.val 35 _]) [.g 1,.g 6,.o 0,.o 1,.o 2] hst (zv rfl (za2 (gq 0 rfl)) (zv rfl (zfb Tryz.underlying101 (zdi hF hv0 (vq 0 rfl))) (zv rfl (za2 za3) o0))) (fun a w hst=>?_)
  have hst:St B w0 56 [(2,_),(3,_),(33,_),(34,_),(35,_)] [⟨3,25,ptrH,_⟩] a w:=hst
  refine za0 ?_
  refine wp_block ?_
  have hst:=St.sel hst [2,3,4,0,1]
  refine wp_loop_ghost (fun n a w=>∃ j:Nat,(n+j=xs.length)∧St B w0 56 [(33,EqV v0),(34,In (xs.length:Nat)),(35,In (j:Nat)),(2,OwnB b 25 2 [U32] ((xs.take j).map (ovA (lqS xs xs.length)))),(3,PtrLt b)] [⟨3,25,ptrH,ZA 8194 (lqS xs xs.length)⟩] a w) (xs.length) ?_ ?_
  ·rw [List.length_map] at hst; exact ⟨0,by omega,hst⟩
  intro n a w hI
  obtain ⟨j,hn,hst⟩:=hI
  refine wp_seq ?_
  refine gl (sts:=[none]) (news:=[]) (sp:=[.val 36 _]) [.g 0,.g 1,.g 2,.g 3,.g 4,.o 0] hst (zv rfl (zc2 (gq 2 rfl) (gq 1 rfl)) o0) (fun a w hst=>?_)
  have hst:St B w0 56 [(33,_),(34,_),(35,_),(2,_),(3,_),(36,_)] [⟨3,25,ptrH,_⟩] a w:=hst
  refine zt ?_
  refine zaa hst (zm 5 rfl) (fun hb1=>?_) (fun hb1=>?_)
  ·have hj:j<xs.length:=by simp at hb1; omega
   refine wp_skip ?_
   refine zt ?_
   refine wp_block ?_
   refine wp_seq ?_
   refine gl (sts:=[none]) (news:=[⟨9,27,ptrH,some 2,_,some (3,_)⟩]) (sp:=[.val 37 _,.val 38 _,.alc 1,.sto 1]) [.g 0,.g 1,.g 2,.g 3,.g 4] hst (zv rfl (zde zcz (zg7 fun _=>rfl) (zdi hF hv0 (gq 0 rfl)) (gq 2 rfl) (at_d (d:=0) hj)) (zv rfl (zas (vq 0 rfl) za9) (oc (zao rfl rfl rfl (Str.zero zb3)) (oc (zad rfl rfl rfl (vq 1 rfl) za9 (Eq.trans (b:=4) rfl rfl)) o0)))) (fun a w hst=>?_)
   have hst:St B w0 56 [(33,_),(34,_),(35,_),(2,_),(3,_)] [⟨3,25,ptrH,_⟩,⟨9,27,ptrH,_⟩] a w:=hst
   refine zt<|zhf (sp:=[.val 40 _,.adr 41 9 (.some 2) True,.val 42 _,.val 43 _,.val 39 _,.val 44 _,.val 45 _,.alc 2,.alc 3,.sto 2,.sto 3]) 7 [.g 0,.g 1,.g 2,.g 3,.g 4,.o 5,.o 6] 5 6 [0,1,2,3,4] hst (zv rfl (zab (lz0 0 rfl) zak) (oc (ob_a rfl rfl (za7 (lz0 1 rfl) zb5)) (zv rfl (za4 1 rfl zk trivial (lz0 1 rfl) (Sub.part 1 rfl rfl) zak) (zv rfl (za5 (xs:=[.tmp 40,.tmp 42]) (zgb zo (den_nzI _)) (.cons (vq 0 rfl) (.cons (vq 2 rfl) .nil))) (zv rfl (za2 (vq 3 rfl)) (zv rfl (ze4 (vq 4 rfl)) (zv rfl (ze3 (vq 4 rfl)) o0))))))) rfl zk zk rfl rfl rfl rfl (Str.zero zbr) (Str.zero zbr) rfl rfl zak zak rfl rfl nq nq zk zk zk (fun a w hst=>?_)
   have hst:St B w0 56 [(33,_),(34,_),(35,_),(2,_),(3,_)] [⟨3,25,ptrH,_⟩,⟨9,27,ptrH,_⟩,⟨10,25,ptrH,_⟩,⟨11,25,ptrH,_⟩] a w:=hst
   refine za0 ?_
   refine go_appBk (sp:=[.val 46 _,.adr 47 9 (.some 0) True,.val 48 _,.val 49 _,.val 50 _,.val 51 _,.val 52 VT,.val 2 VT]) 6 [0,1,2,4] 0 5 4 [0] hst (zv rfl (za2 (gq 3 rfl)) (oc (ob_a rfl rfl (za7 (lz0 1 rfl) zba)) (zv rfl (za4 1 rfl zk trivial (lz0 1 rfl) (Sub.part 0 rfl rfl) zak) (zv rfl (zab (lz0 2 rfl) zak) (zv rfl (za5 (xs:=[.tmp 48,.tmp 49]) (zbz zo zo) (.cons (vq 2 rfl) (.cons (vq 3 rfl) .nil))) (zv rfl (zc5 (D:=[U32]) (l:=[_]) (xs:=[.tmp 50]) (zdh zk) ze5 zk (n_ok zk) nq nq nq (.cons (vq 4 rfl) .nil) rfl rfl) o0)))))) rfl zk rfl rfl zd rfl zd rfl rfl zk hwb (fun _ _ h _=>h) Tryz.underlying114 e1 e2 e3 e4 e5 zd (by simp only [List.length_map,List.length_take,List.length_singleton]; omega) zd (fun T hT=>hT) zd (fun A hA=>by obtain rfl:=List.mem_singleton.1 hA; rfl) zk nq nq zk zk (fun a w hst=>?_)
   have hst:St B w0 56 [(2,_),(33,_),(34,_),(35,_),(3,_)] [⟨3,25,ptrH,_⟩] a w:=hst
   refine zan ?_
   refine za0 ?_
   refine gl (sts:=[none]) (news:=[]) (sp:=[.val 53 _,.val 35 _]) [.g 0,.g 1,.g 2,.g 4,.o 1] hst (zv rfl (zb8 (gq 3 rfl) za3 ((wi64 zo zo).trans (by omega:(_:Int)=((j+1:Nat):Int)))) (zv rfl (za2 (vq 0 rfl)) o0)) (fun a w hst=>?_)
   have hst:St B w0 56 [(2,_),(33,_),(34,_),(3,_),(35,_)] [⟨3,25,ptrH,_⟩] a w:=hst
   refine za0 ?_
   have hst:=St.sel hst [1,2,4,0,3]
   exact ⟨n-1,by omega,j+1,by omega,St.wkG (A':=OwnB b 25 2 [U32] ((xs.take (j+1)).map (ovA (lqS xs xs.length)))) hst 3 rfl (zd2 (congrArg (OwnB b 25 2 [U32]) (ov_nx hj)))⟩
  ·obtain rfl:j=xs.length:=by simp at hb1; omega
   refine wp_exit ?_
   refine zae ?_
   refine zae ?_
   refine zaw ?_
   refine zt<|go_stB (sp:=[.val 54 _,.val 55 _,.val 2 _,.sto 0]) [[],[],[0],[0,1,2]] 3 [.o 1,.o 2,.g 4] 0 1 2 0 [] za6 hst (zv rfl (za2 (gq 3 rfl)) (zv rfl (zab (lz0 0 rfl) zak) (zv rfl (za1 (vq 0 rfl)) o0))) rfl zk (zib zk) zk zk rfl rfl rfl zak rfl rfl rfl rfl rfl zk zk (fun a w hst=>?_)
   have hst:St B w0 56 [(2,_)] [⟨3,25,ptrH,_⟩] a w:=hst
   refine za0 ?_
   refine wp_ret ?_
   refine zag ?_ (zaq (rs:=[.tmp 2,.cell 3 25]) rfl hst (.tmp (zm 0 rfl) (.cell (zm 0 rfl) zak .nil)) zd)
   rw [List.take_length]; exact tu2w (zcu ownB_R own_sl) zb2
end Go.Proofs.YtagabklfjmchaaaGreat
