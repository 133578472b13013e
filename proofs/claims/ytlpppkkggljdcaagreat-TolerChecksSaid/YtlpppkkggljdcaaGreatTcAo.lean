import Derived.Test.YtlpppkkggljdcaaGreatTcAa
import Derived.Test.YtlpppkkggljdcaaGreatTcAc
import Derived.Test.YtlpppkkggljdcaaGreatTcAl
import Derived.Test.YtlpppkkggljdcaaGreatTcAm
import Derived.Test.YtlpppkkggljdcaaGreatTcAn
import Derived.Laws.AppendOwn
import Derived.Laws.OwnMore
import Derived.Orders
import Derived.ProofKit
import Derived.OpenShut
import Derived.ChangeOld
import Derived.Below
set_option linter.unusedVariables false
set_option linter.unusedSimpArgs false
set_option linter.unusedSectionVars false
set_option maxRecDepth 100000
namespace Go.Proofs.YtlpppkkggljdcaaGreat
open Go Go.RowKit
def RowX (b c:Nat)(l r:List Nat):VA where
 p B v w:=∃ g,v=.slice (some ⟨g,0,none⟩) l.length c∧b≤g∧B≤g∧c=(l++r).length∧c≤maxLen∧w.heap[g]?=some (.cells ((l++r).map fun (x:Nat)=>Value.int .u32 x).toArray U32 (0,0))
 deps:=[U32]
 cg:=by
  rintro B v w w' hg ⟨g,h1,h2,h3,h4,h5,h6⟩
  exact ⟨g,h1,h2,h3,h4,h5,hg.heap h6⟩
 wr:=by
  rintro B v w w' g c T fz hg hT hB hW ⟨g',h1,h2,h3,h4,h5,h6⟩
  refine ⟨g',h1,h2,h3,h4,h5,?_⟩
  rw [hW.block g' fun hh=>?_]
  ·exact h6
  ·subst hh
   rw [hg] at h6
   simp only [Option.some.injEq,Obj.cells.injEq] at h6
   exact hT (by simp [h6.2.1])
theorem rowX_ok {b c B:Nat}{l r:List Nat}{v:Value}{w:World}(h:(RowX b c l r).p B v w):RowOk w b U32 v.ownBlock:=by
 obtain ⟨g,rfl,h2,_,_,_,h6⟩:=h
 intro g' e
 have e':g=g':=by injection e
 subst e'
 exact ⟨h2,_,_,h6⟩
theorem grown_set {w:World}{g:Nat}(cs:Array Value):w.grownBy (w.setRow g cs) (some g):=by
 have h:=Wr.setRow w g cs
 exact ⟨h.os,h.tape,h.output,by rw [h.size]; exact Nat.le_refl _,fun k _ hk=>h.block k fun e=>hk (by rw [e])⟩
theorem run_rowX {P:Program}{S T1:TypeId}{b c B:Nat}{l r xs:List Nat}{w:World}{v u:Value}{it:TypeInfo}(hS:P.underlying S=some (.slice U32))(hi:P.info? U32=some it)(hsz:it.size=1)(hroom:xs.length≤r.length)
  (hv:(RowX b c l r).p B v w) (hu:(MgA xs).va.p B u w) :
  ∃ v' w',(Builtin.append_ #[S,S] T1 #[v,u]).run P w=.ok v' w'∧(RowX b c (l++xs) (r.drop xs.length)).p B v' w'∧w.grownBy w' v.ownBlock∧RowOk w b U32 v.ownBlock∧blk v'=blk v:=by
 have hro:=rowX_ok hv
 obtain ⟨g,rfl,h2,hBg,h4,h5,h6⟩:=hv
 obtain ⟨A,c',rfl,hm⟩:=zfv hu
 have hlen:l.length+xs.length≤c:=by rw [h4,List.length_append]; omega
 have fin:(RowX b c (l++xs) (r.drop xs.length)).p B (.slice (some ⟨g,0,none⟩) (l.length+xs.length) c) (w.setRow g (((l++xs)++r.drop xs.length).map fun (x:Nat)=>Value.int .u32 x).toArray) :=
  ⟨g,by rw [List.length_append],h2,hBg,by rw [h4]; simp only [List.length_append,List.length_drop]; omega,h5,setRow_heap w g _ _ _ _ h6⟩
 cases A with
 | none =>
  have hx:xs=[]:=by
   apply List.eq_nil_of_length_eq_zero
   apply Decidable.byContradiction
   intro hn
   obtain ⟨_,_,e,_⟩:=hm.at_ zo
   cases e
  subst hx
  have hown:w.ownsRow b U32 1 (.slice (some ⟨g,0,none⟩) l.length c) l.length (l.map fun (x:Nat)=>Value.int .u32 x):=⟨by simp,.inr ⟨g,c,_,rfl,h2,h6,by omega,h5,by simp [h4],by simp⟩⟩
  refine ⟨_,w,zh4 b S T1 U32 it 1 hS hi _ _ c' _ hown,⟨g,by simp,h2,hBg,by simpa using h4,h5,by simpa using h6⟩,⟨rfl,rfl,rfl,Nat.le_refl _,fun _ _ _=>rfl⟩,hro,rfl⟩
 | some ad =>
  have hnew:∀ j u,(xs.map fun (x:Nat)=>Value.int .u32 x)[j]?=some u→w.cell? (ad.add j)=some u:=fun j u hj=>by
   have hjx:j<xs.length:=by have:=(List.getElem?_eq_some_iff.1 hj).1; simpa using this
   obtain ⟨b',o,e,_,_,h8⟩:=hm.at_ zo
   injection e with e
   subst e
   rw [add_k,h8 j hjx]
   simpa [hjx] using hj
  have hr:=run_append_room (P:=P) w S T1 U32 it hS hi g l.length c _ h6 ad xs.length c' (xs.map fun (x:Nat)=>Value.int .u32 x) (by simp [hsz]) hnew (fun u hu=>by obtain ⟨_,_,rfl⟩:=List.mem_map.1 hu; rfl) hlen (by rw [hsz]; simp; omega)
  refine ⟨_,_,hr,?_,grown_set _,hro,rfl⟩
  have e:(((l++r).map fun (x:Nat)=>Value.int .u32 x).toArray.toList.take (l.length*it.size)++(xs.map fun (x:Nat)=>Value.int .u32 x)++((l++r).map fun (x:Nat)=>Value.int .u32 x).toArray.toList.drop (l.length*it.size+(xs.map fun (x:Nat)=>Value.int .u32 x).length))=((l++xs)++r.drop xs.length).map fun (x:Nat)=>Value.int .u32 x:=by
   rw [hsz]
   simp [List.drop_append,List.map_drop]
  rw [e]
  exact fin
section
variable {P:Program} {R:Rg} {Q:Exit→Act→World→Prop} {B i:Nat} {w0:Bs}
theorem r_make0 {S:TypeId}{n:Nat}{x y:Operand}(hM:MakeOk P S U32 .u32)(hB:B≤w0.w.heap.size)(hx:Has R B w0 i x (In 0))(hy:Has R B w0 i y (In n))(hn:n≤17592186044416):Wv P Q R B w0 i (.makeSlice S x y) (RowX w0.w.heap.size n [] (List.replicate n 0)) :=
 zbk fun d T ps af gd a w av=>by
  obtain ⟨h1,h2,h3,h4,h5⟩:=hM
  obtain ⟨it,hi,hz⟩:=Option.bind_eq_some_iff.1 h2
  have hsz:it.size=1:=by rw [hi] at h3; simpa using h3
  have hby:=h5 it hi
  have hm:=run_make (P:=P) w S U32 it (.int .u32 0) h1 hi hz .i64 .i64 0 n zo zo (by
   have:it.bytes*n≤8*n:=Nat.mul_le_mul_right _ hby
   have h6:((it.bytes*n:Nat):Int)≤281474976710656:=by omega
   rwa [Int.natCast_mul] at h6) zo
  have e1:=zbj (hx a w av)
  have e2:=zbj (hy a w av)
  have hcells:madeCells (Value.int .u32 0).cells (n*it.size)=((List.replicate n 0).map fun (x:Nat)=>Value.int .u32 x).toArray:=by
   rw [hsz,Nat.mul_one]
   apply Array.ext_getElem?
   intro j
   simp only [madeCells,Value.cells,List.map_replicate]
   by_cases hj:j<n
   ·simp [hj,Nat.mod_one]
   ·simp [hj]
  simp only [Int.toNat_natCast] at hm
  rw [hcells] at hm
  refine ⟨.slice (some ⟨w.heap.size,0,none⟩) 0 n,w.alloc (.cells ((List.replicate n 0).map fun (x:Nat)=>Value.int .u32 x).toArray U32),?_,Grow.alloc _ _,⟨w.heap.size,rfl,av.base.size,Nat.le_trans hB av.base.size,by simp,by unfold maxLen; omega,by simpa using heap_alloc_new w _⟩⟩
  simp [execOp,e1,e2,hm]
end
open Rg in
theorem go_appX {P:Program}{Q:Exit→Act→World→Prop}{B N:Nat}{w0:Bs}{Γ:List (Nat × VA)}{Λ:List Lc}{a:Act}{w:World}{id:Nat}{ops:Array Oper}{sp:List Sp}(n:Nat)(src:List Nat)(i1 i2:Nat){S T1 T2:TypeId}{s u d e c0:Nat}{ps1 ps2:String}{af1 af2:Array Edge}{l r xs:List Nat}{A2:VA}{it:TypeInfo}
  (h:St B w0 N Γ Λ a w) (hob:Obs P Q ⟨ops,N,Γ,lesN Λ,sp,fun i=>List.range i⟩ B w0 0 n) (hn2:ops.size=n+2) (hk:Rg.chk ⟨ops,N,Γ,lesN Λ,sp,fun i=>List.range i⟩=true)
  (ho1:ops[n]?=some ⟨some d,.call ⟨.builtin .append,#[.tmp s,.tmp u],#[S,S]⟩,T1,ps1,af1,none⟩) (ho2:ops[n+1]?=some ⟨some e,.assign (.tmp d),T2,ps2,af2,none⟩)
  (hi1:i1<n) (h1:sp[i1]?=some (.val s (RowX w0.w.heap.size c0 l r))) (hi2:i2<n) (h2:sp[i2]?=some (.val u A2)) (hA2:∀ w u,A2.p B u w→Kept w0 w→(MgA xs).va.p B u w)
  (hS:P.underlying S=some (.slice U32)) (hi:P.info? U32=some it) (hsz:it.size=1) (hroom:xs.length≤r.length) (hde:(d != e)=true) (hd:d<N) (he:e<N)
  (hsrc:src.all (fun k=>match Γ[k]? with | some y => !y.2.deps.contains U32&&Rg.outG ⟨ops,N,Γ,lesN Λ,sp,fun i=>List.range i⟩ y.1 | none=>false)=true)
  (hΛ:Λ.all (fun l=>l.T != U32 && !l.A.deps.contains U32&&l.s != d&&l.s != e)=true)
  (hQ:∀ a w,St B w0 N ((e,RowX w0.w.heap.size c0 (l++xs) (r.drop xs.length))::src.filterMap (fun k=>Γ[k]?)) Λ a w→Q .normal a w):(Code.region id ops false).wp P Q a w:=by
 have hles0:∀ y∈lesN Λ,y.cr=none∧y.st=none∧(⟨y.s,y.T,y.H,y.A0⟩:Lc)∈Λ:=fun y hy=>by
  obtain ⟨l',hl',rfl⟩:=List.mem_map.1 hy
  exact ⟨rfl,rfl,hl'⟩
 refine Rg.linK (R:=⟨ops,N,Γ,lesN Λ,sp,fun i=>List.range i⟩) (m:=2) hn2 rfl hk h (fun y hy _=>(hles0 y hy).2.2) (fun i hi=>hob.all i zo zo) fun a1 w1 hinv=>?_
 have hcl:∀ deps,Rg.clash ⟨ops,N,Γ,lesN Λ,sp,fun i=>List.range i⟩ (fun k=>decide (k<n)) deps=false:=fun deps=>by
  unfold Rg.clash
  rw [List.any_eq_false]
  intro y hy
  rw [(hles0 y hy).2.1]
  simp
 have hv:=hinv.v i1 _ s _ h1 rfl (decide_eq_true hi1) (hcl _)
 have hu:=hA2 _ _ (hinv.v i2 _ u _ h2 rfl (decide_eq_true hi2) (hcl _)) hinv.base
 have hB:B≤w0.w.heap.size:=hinv.lo _ (.inl (Nat.le_refl _))
 obtain ⟨v',w',hr,r1,r2,r3,_⟩:=run_rowX (T1:=T1) hS hi hsz hroom hv hu
 have hdsz:d<a1.tmps.size:=by rw [hinv.size]; exact hd
 have hesz:e<(a1.put (some d) v').tmps.size:=by rw [zbl,hinv.size]; exact he
 have hne:d≠e:=by simpa using hde
 rw [List.range'_succ,wpOps_cons]
 refine zbg (R:=⟨ops,N,Γ,lesN Λ,sp,fun i=>List.range i⟩) ho1 rfl (zbc (w':=w') (v:=v') (by simp [execOp,resolve,invoke,builtin,hr,Result.andThen]) ?_)
 rw [List.range'_succ,wpOps_cons]
 refine zbg (R:=⟨ops,N,Γ,lesN Λ,sp,fun i=>List.range i⟩) ho2 rfl (zbc (w':=w') (v:=v') ?_ (hQ _ _ ?_))
 ·have:=zax a1 d v' hdsz
  simp [execOp,this]
 ·have hother:∀ t,t≠d→t≠e→((a1.put (some d) v').put (some e) v').eval (.tmp t)=a1.eval (.tmp t):=fun t h3 h4=>by
   rw [za9 _ _ _ _ h4,za9 _ _ _ _ h3]
  have hlc:∀ l'∈Λ,l'.T≠U32∧U32 ∉ l'.A.deps∧l'.s≠d∧l'.s≠e:=fun l' hl'=>by
   have:=List.all_eq_true.1 hΛ l' hl'
   simp only [Bool.and_eq_true,bne_iff_ne,Bool.not_eq_true',List.contains_eq_mem,decide_eq_false_iff_not] at this
   exact ⟨this.1.1.1,this.1.1.2,this.1.2,this.2⟩
  have hcur:∀ l'∈Λ,(⟨l'.s,l'.T,l'.H,none,l'.A,none⟩:Le)∈lesN Λ:=fun l' hl'=>List.mem_map.2 ⟨l',hl',rfl⟩
  refine ⟨hinv.lo,hinv.defers.grown r2 r3 rfl,by rw [zbl,zbl]; exact hinv.size,?_,?_,?_,?_⟩
  ·exact ⟨r2.os.trans hinv.base.os,r2.tape.trans hinv.base.tape,r2.output.trans hinv.base.output,Nat.le_trans hinv.base.size r2.size,fun k hk hf =>
    (r2.block k (Nat.lt_of_lt_of_le hk hinv.base.size) (fun e=>by have:=(r3 k e.symm).1; omega)).trans (hinv.base.block k hk hf)⟩
  ·intro y hy
   rcases List.mem_cons.1 hy with rfl | hy
   ·show (RowX w0.w.heap.size c0 (l++xs) (r.drop xs.length)).p B (((a1.put (some d) v').put (some e) v').eval (.tmp e)) w'
    rw [zax _ _ _ hesz]
    exact r1
   ·obtain ⟨k,hk1,hk2⟩:=List.mem_filterMap.1 hy
    have hs:=List.all_eq_true.1 hsrc k hk1
    simp only [hk2,Bool.and_eq_true,Bool.not_eq_true',List.contains_eq_mem,decide_eq_false_iff_not] at hs
    have hout:∀ q,q<ops.size→Rg.dst ⟨ops,N,Γ,lesN Λ,sp,fun i=>List.range i⟩ q≠some y.1:=fun q hq=>by
     have:=List.all_eq_true.1 hs.2 q (by simpa using hq)
     simpa using this
    have g1:y.1≠d:=fun e1=>hout n zo (by unfold Rg.dst; rw [ho1,e1]; rfl)
    have g2:y.1≠e:=fun e1=>hout (n+1) zo (by unfold Rg.dst; rw [ho2,e1]; rfl)
    rw [hother _ g1 g2]
    exact VA.grown (hinv.g y (List.mem_of_getElem? hk2) (fun q hq hdq=>absurd hdq (hout q hq)) (hcl _)) r2 r3 hB hs.1
  ·intro l' hl'
   obtain ⟨g1,g2,g3,g4⟩:=hlc l' hl'
   obtain ⟨g,cs,e1,e2,e3,e4⟩:=hinv.c _ (hcur l' hl') l'.A rfl
   refine ⟨g,cs,by rw [hother _ g3 g4]; exact e1,e2,?_,As.grown e4 r2 r3 hB g2⟩
   rw [r2.block g (Array.getElem?_eq_some_iff.1 e3).1 (fun e5=>by
    obtain ⟨_,c,fz,e6⟩:=r3 g e5.symm
    rw [e3] at e6
    injection e6 with e6
    injection e6 with _ e6 _
    exact g1 e6)]
   exact e3
  ·intro l1 hl1 l2 hl2 hne'
   obtain ⟨_,_,g3,g4⟩:=hlc l1 hl1
   obtain ⟨_,_,g5,g6⟩:=hlc l2 hl2
   rw [hother _ g3 g4,hother _ g5 g6]
   exact hinv.x _ (hcur l1 hl1) _ (hcur l2 hl2) hne' rfl rfl
def TwN (l:List Nat):As where
 n:=1
 ag:=false
 p B cs w:=okL l∧∃ g,cs=[.slice (some ⟨g,0,none⟩) l.length (l.length+1)]∧B≤g∧l.length+1≤maxLen∧w.heap[g]?=some (.cells ((l++[7777]).map fun (x:Nat)=>Value.int .u32 x).toArray U32 (0,0))
 deps:=[U32]
 len:=by rintro B cs w ⟨_,g,rfl,_⟩; rfl
 one:=by rintro B cs w ⟨_,g,rfl,_⟩ x hx; simp at hx; subst hx; rfl
 ag1:=fun _=>rfl
 cg:=by
  rintro B cs w w' hg ⟨h0,g,rfl,h1,h2,h3⟩
  exact ⟨h0,g,rfl,h1,h2,hg.heap h3⟩
 wr:=by
  rintro B cs w w' g c T fz hg hT hB hW ⟨h0,g',rfl,h1,h2,h3⟩
  refine ⟨h0,g',rfl,h1,h2,?_⟩
  rw [hW.block g' fun hh=>?_]
  ·exact h3
  ·subst hh
   rw [hg] at h3
   simp only [Option.some.injEq,Obj.cells.injEq] at h3
   exact hT (by simp [h3.2.1])
theorem twN_full {l:List Nat}{B g:Nat}{w:World}(ok:okL l)(h2:l.length+1≤maxLen)(h3:w.heap[g]?=some (.cells ((l++[7777]).map fun (x:Nat)=>Value.int .u32 x).toArray U32 (0,0))):Mag B w (some ⟨g,0,none⟩) (l.length+1) (l++[7777]) :=
 Mag.own h3 (okL_append.2 ⟨ok,zeg zd⟩) (by simp) h2 (fun j hj=>by rw [List.getElem?_toArray,List.getElem?_map,List.getElem?_eq_getElem hj]; rfl)
theorem twN_A {l:List Nat}:Wk (TwN l).va (MgA l).va:=fun B v w ⟨cs,⟨ok,g,e,h1,h2,h3⟩,hv⟩=>by
 subst e
 have e2:v=.slice (some ⟨g,0,none⟩) l.length (l.length+1):=hv
 subst e2
 have:=zf0 ((twN_full (B:=B) ok h2 h3).take l.length) (n:=l.length) (by simp)
 rwa [List.take_left] at this
theorem free_twN (l:List Nat):FreeA (TwN l) (TwN l):=⟨rfl,rfl,fun B B' cs w hB h=>by
 obtain ⟨ok,g,e,h1,h2,h3⟩:=h
 exact ⟨ok,g,e,Nat.le_trans hB h1,h2,h3⟩⟩
def RIT (x:RI):As:=cat [BoA x.neg,TwN x.mag]
theorem zk3 (x:RI):FreeA (RIT x) (RIT x):=zc8 (.cons (zek _) (.cons (free_twN _) .nil))
def SlK (v:Value)(h:v.oneCell'=true):As where
 n:=1
 ag:=false
 p _ cs _:=cs=[v]
 deps:=[]
 len:=by rintro B cs w rfl; rfl
 one:=by rintro B cs w rfl c hc; simp at hc; subst hc; exact h
 ag1:=fun _=>rfl
 cg:=fun _ _ _ _ _ h=>h
 wr:=fun _ _ _ _ _ _ _ _ _ _ _ _ h=>h
theorem eqv_slK {v:Value}{h:v.oneCell'=true}:Wk (EqV v) (SlK v h).va:=fun _ u _ e=>⟨[v],rfl,e⟩
theorem St.toRow {B N:Nat}{w0:Bs}{Γ:List (Nat × VA)}{Λ:List Lc}{a:Act}{w:World}(h:St B w0 N Γ Λ a w){s c:Nat}{l r:List Nat}(k:Nat)(hm:Γ[k]?=some (s,RowX w0.w.heap.size c l r))(hΛ:Λ.all (fun m=>m.T != U32)=true) :
  ∃ g,B≤g∧c=(l++r).length∧c≤maxLen∧St B w0 N (Γ.set k (s,EqV (.slice (some ⟨g,0,none⟩) l.length c))) (Λ++[⟨s,U32,slH l.length c,Nums .u32 (l++r)⟩]) a w:=by
 obtain ⟨g,hv,h2,h3,h4,h5,h6⟩:=h.vals _ (List.mem_of_getElem? hm)
 have hd:∀ m∈Λ,blk (a.eval (.tmp m.s))≠some g:=by
  intro m hm2 hh
  obtain ⟨g',cs,e1,_,e3,_⟩:=h.locs m hm2
  rw [e1,m.H.ok] at hh
  injection hh with hh
  subst hh
  rw [e3] at h6
  simp only [Option.some.injEq,Obj.cells.injEq] at h6
  have:=List.all_eq_true.1 hΛ m hm2
  simp [h6.2.1] at this
 have hv':a.eval (.tmp s)=.slice (some ⟨g,0,none⟩) l.length c:=hv
 have hg:blk (a.eval (.tmp s))=some g:=by rw [hv']; rfl
 refine ⟨g,h3,h4,h5,h.lo,h.defers,h.size,h.base,fun x hx=>?_,fun x hx=>?_,fun x hx y hy hne=>?_⟩
 ·rcases List.mem_or_eq_of_mem_set hx with hx | rfl
  ·exact h.vals x hx
  ·exact hv'
 ·rcases List.mem_append.1 hx with hx | hx
  ·exact h.locs x hx
  ·obtain rfl:=List.mem_singleton.1 hx
   exact ⟨g,_,hv',.inl h2,h6,rfl⟩
 ·rcases List.mem_append.1 hx with hx | hx <;> rcases List.mem_append.1 hy with hy | hy
  ·exact h.dis x hx y hy hne
  ·obtain rfl:=List.mem_singleton.1 hy
   rw [hg]; exact hd x hx
  ·obtain rfl:=List.mem_singleton.1 hx
   rw [hg]; exact fun e=>hd y hy e.symm
  ·obtain rfl:=List.mem_singleton.1 hx
   obtain rfl:=List.mem_singleton.1 hy
   exact absurd rfl hne
section
variable {P:Program} {R:Rg} {Q:Exit→Act→World→Prop} {B i:Nat} {w0:Bs}
theorem ob_appI {d s e g c:Nat}{cr:Option Nat}{l r xs:List Nat}{x y:Operand}{S ty:TypeId}{ps:String}{af:Array Edge}{it:TypeInfo}
  (hs:R.sp[i]?=some (.cal d (EqV (.slice (some ⟨g,0,none⟩) (l.length+xs.length) c)) e)) (he:R.les[e]?=some ⟨s,U32,slH l.length c,cr,Nums .u32 (l++r),some (i,Nums .u32 (l++xs++r.drop xs.length))⟩) (ho:R.ops[i]?=some ⟨some d,.call ⟨.builtin .append,#[x,y],#[S,S]⟩,ty,ps,af,none⟩)
  (hS:P.underlying S=some (.slice U32)) (hi:P.info? U32=some it) (hsz:it.size=1) (hroom:xs.length≤r.length) (hc:c=(l++r).length) (hmx:c≤maxLen) (hx:Has R B w0 i x (EqV (.slice (some ⟨g,0,none⟩) l.length c))) (hsl:Has R B w0 i (.tmp s) (EqV (.slice (some ⟨g,0,none⟩) l.length c))) (hy:Has R B w0 i y (MgA xs).va):R.Ob P Q B w0 i:=by
 unfold Rg.Ob
 simp only [hs,he]
 intro a w av g' cs h1 hB h3 h4 _ K hK
 have e1:a.eval x=_:=hx a w av
 have e2:a.eval (.tmp s)=.slice (some ⟨g,0,none⟩) l.length c:=hsl a w av
 have eg:g=g':=by
  rw [h1] at e2
  have:some g'=some g:=congrArg blk e2
  injection this with this
  exact this.symm
 subst eg
 have h4':cs=(l++r).map fun (x:Nat)=>Value.int .u32 x:=h4
 obtain ⟨v',w',hr,hX,hgr,_,hbk⟩:=run_rowX (P:=P) (S:=S) (T1:=ty) (b:=g) (c:=c) (B:=B) (l:=l) (r:=r) (xs:=xs) (w:=w) hS hi hsz hroom ⟨g,rfl,Nat.le_refl _,hB,hc,hmx,by rw [← h4']; exact h3⟩ (hy a w av)
 obtain ⟨g2,q1,_,_,q4,q5,q6⟩:=hX
 refine zbg ho rfl (zbc (w':=w') (v:=v') (by simp [execOp,resolve,invoke,builtin,e1,hr,Result.andThen]) ?_)
 have eg2:g2=g:=by
  rw [q1] at hbk
  injection hbk
 subst eg2
 exact hK v' _ w' ⟨hgr.os,hgr.tape,hgr.output,hgr.size,fun k hk hf=>hgr.block k hk fun e=>hf (by injection e)⟩ q6 rfl (by rw [q1,List.length_append]; rfl)
end
end Go.Proofs.YtlpppkkggljdcaaGreat
namespace Go.Proofs.YtlpppkkggljdcaaGreat
open Go Go.RowKit
theorem oneK {g n c:Nat}:(Value.slice (some ⟨g,0,none⟩) n c).oneCell'=true:=rfl
theorem St.twin {B N:Nat}{w0:Bs}{Γ:List (Nat × VA)}{Λ:List Lc}{a:Act}{w:World}(h:St B w0 N Γ Λ a w){s s2 T2 g c:Nat}{H2:Hd}{b:Bool}{l:List Nat}(k e2 e3:Nat)(hm:Γ[k]?=some (s,EqV (.slice (some ⟨g,0,none⟩) l.length c)))(he2:Λ[e2]?=some ⟨s2,T2,H2,cat [BoA b,SlK (.slice (some ⟨g,0,none⟩) l.length c) oneK]⟩)
  (he3:Λ[e3]?=some ⟨s,U32,slH l.length c,Nums .u32 (l++[7777])⟩) (ok:okL l) (hc:c=l.length+1) (hcm:c≤maxLen) (hB:B≤g):St B w0 N Γ (Λ.set e2 ⟨s2,T2,H2,RIT ⟨b,l⟩⟩) a w:=by
 obtain ⟨g3,cs3,f1,_,f3,f4⟩:=h.locs _ (List.mem_of_getElem? he3)
 have f4':cs3=(l++[7777]).map fun (x:Nat)=>Value.int .u32 x:=f4
 have f5:a.eval (.tmp s)=.slice (some ⟨g,0,none⟩) l.length c:=h.vals _ (List.mem_of_getElem? hm)
 have eg:g=g3:=by
  rw [f5] at f1
  have:some g=some g3:=congrArg blk f1
  injection this
 subst eg
 rw [f4'] at f3
 have hset:∀ m∈Λ.set e2 ⟨s2,T2,H2,RIT ⟨b,l⟩⟩,m=⟨s2,T2,H2,RIT ⟨b,l⟩⟩∨m∈Λ:=fun m hm=>(List.mem_or_eq_of_mem_set hm).symm
 have hin:=List.mem_of_getElem? he2
 refine ⟨h.lo,h.defers,h.size,h.base,h.vals,fun m hm'=>?_,fun m hm1 m' hm2 hne=>?_⟩
 ·rcases hset m hm' with rfl | hm'
  ·obtain ⟨g2,cs,e1,e2',e3',e4⟩:=h.locs _ hin
   refine ⟨g2,cs,e1,e2',e3',?_⟩
   obtain ⟨ps,q1,q2⟩:=e4
   cases q2 with
   | cons q3 q2=>cases q2 with
    | cons q4 q2 =>
     refine ⟨_,q1,.cons q3 (.cons ?_ q2)⟩
     exact ⟨ok,g,by rw [← hc]; exact q4,hB,by rw [← hc]; exact hcm,f3⟩
  ·exact h.locs m hm'
 ·have key:∀ m∈Λ.set e2 ⟨s2,T2,H2,RIT ⟨b,l⟩⟩,∃ m'∈Λ,m'.s=m.s:=fun m hm=>by
   rcases hset m hm with rfl | hm
   ·exact ⟨_,hin,rfl⟩
   ·exact ⟨m,hm,rfl⟩
  obtain ⟨p,p1,p2⟩:=key m hm1
  obtain ⟨p',p3,p4⟩:=key m' hm2
  rw [← p2,← p4]
  exact h.dis p p1 p' p3 (by rw [p2,p4]; exact hne)
theorem drop_rep (n:Nat):(List.replicate (n+1) 0).drop n=[0]:=by rw [List.drop_replicate,Nat.add_sub_cancel_left]; rfl
theorem zki (x:RI)(hx:x.mag.length≤1000000000000):Cn Tryz.prog 138 [(RIA x).va] ((RIT x).va):=by
 obtain ⟨it,z,e1,e2,e3,e4,e5⟩:=zi9
 refine Cn.introW Tryz.func138 rfl zk nq (.cons (up_ri _).va .nil) (zk3 _).va (fun B w0 a hB0 hst=>?_)
 have hst:St B w0 23 [(0,(RIO x).va)] [] a w0.w:=hst
 have hok:okL x.mag:=(zgr (wk_riO _ _ _ (hst.vals _ (zm 0 rfl)))).1
 refine wp_seq ?_
 refine gl (sts:=[]) (news:=[⟨1,35,ptrH,some 0,_,none⟩,⟨2,35,ptrH,some 1,_,none⟩]) (sp:=[.alc 0,.alc 1]) [] hst (oc (zan rfl rfl rfl (gq 0 rfl)) (oc (zap rfl rfl rfl (Str.zero zfe)) o0)) (fun a w hst=>?_)
 have hst:St B w0 23 [] [⟨1,35,ptrH,_⟩,⟨2,35,ptrH,_⟩] a w:=hst
 refine zt<|gl (sts:=[none,none]) (news:=[]) (sp:=[.adr 4 1 (.some 1) True,.val 5 _,.val 6 _,.val 7 (In ((x.mag.length+1:Nat):Int)),.val 8 _,.val 3 _]) [.o 5] hst (oc (ob_a rfl rfl (za7 (lz0 0 rfl) zag)) (zv rfl (za4 0 rfl zk trivial (lz0 0 rfl) (Sub.part 1 rfl rfl) zb8) (zv rfl (zaw Tryz.underlying33 (zas (vq 1 rfl))) (zv rfl (zb7 (vq 2 rfl) za3 (zbh zo)) (zv rfl (r_make0 zez (Nat.le_of_eq hB0) za3 (vq 3 rfl) zo) (zv rfl (za1 (vq 4 rfl)) o0)))))) (fun a w hst=>?_)
 have hst:St B w0 23 [(3,_)] [⟨1,35,ptrH,_⟩,⟨2,35,ptrH,_⟩] a w:=hst
 refine zt<|go_appX (sp:=[.val 9 _,.adr 10 1 (.some 1) True,.val 11 _,.val 12 VT,.val 3 VT]) 3 [] 0 2 hst (zv rfl (za2 (gq 0 rfl)) (oc (ob_a rfl rfl (za7 (lz0 0 rfl) zag)) (zv rfl (za4 1 rfl zk trivial (lz0 0 rfl) (Sub.part 1 rfl rfl) zb8) o0))) rfl zk rfl rfl zd rfl zd rfl (xs:=x.mag) (fun w u h k=>zh2 _ _ _ h) Tryz.underlying33 e1 e3 (by simp) zk nq nq zk zk (fun a w hst=>?_)
 have hst:=St.wkG (A':=RowX w0.w.heap.size (x.mag.length+1) x.mag [0]) hst 0 rfl (zbv (by rw [drop_rep]; rfl))
 have hst:St B w0 23 [(3,_)] [⟨1,35,ptrH,_⟩,⟨2,35,ptrH,_⟩] a w:=hst
 refine zt ?_
 obtain ⟨g,hBg,hce,hcm,hst⟩:=St.toRow hst 0 rfl rfl
 refine zaz (anc:=[[],[0],[],[],[2,3],[],[5],[5,6],[2,3,4,5,6,7],[0,1,2,3,4,5,6,7,8],[0,1,2,3,4,5,6,7,8,9]]) (sts:=[none,some (10,_),some (4,_)]) (news:=[]) (sp:=[.adr 13 1 (.some 0) True,.val 14 _,.val 15 _,.val 16 _,.cal 17 (EqV (.slice (some ⟨g,0,none⟩) (x.mag.length+[7777].length) (x.mag.length+1))) 2,.adr 18 1 (.some 1) True,.val 19 _,.val 20 _,.val 21 (EqV (.slice (some ⟨g,0,none⟩) x.mag.length (x.mag.length+1))),.val 22 _,.sto 1]) [.g 0] za6 hst (oc (ob_a rfl rfl (za7 (lz0 0 rfl) zb2)) (zv rfl (za4 0 rfl zk trivial (lz0 0 rfl) (Sub.part 0 rfl rfl) ty_4) (zv rfl (za2 (gq 0 rfl)) (zv rfl (zdm (l:=[_]) (xs:=[.const (.int .u32 (7777))]) zb4 zk nq nq (zeg zd) (.cons (zar 7777 rfl) .nil) rfl rfl) (oc (ob_appI (l:=x.mag) (r:=[0]) (xs:=[7777]) rfl rfl rfl Tryz.underlying33 e1 e3 zd hce hcm (vq 2 rfl) (gq 0 rfl) (vq 3 rfl)) (oc (ob_a rfl rfl (za7 (lz0 0 rfl) zag)) (zv rfl (za4 5 rfl zk trivial (lz0 0 rfl) (Sub.part 1 rfl rfl) zb8) (zv rfl (zaw Tryz.underlying33 (zas (vq 6 rfl))) (zv rfl (r_winE0 zb4 (has_c 4 rfl zk zk) (vq 7 rfl) ⟨by omega,by omega⟩) (zv rfl (zbb (xs:=[(0,.tmp 14),(1,.tmp 21)]) (qs:=[(0,_),(1,SlK (.slice (some ⟨g,0,none⟩) x.mag.length (x.mag.length+1)) oneK)]) zfe (.cons ⟨rfl,(vq 1 rfl),rfl⟩ (.cons ⟨rfl,has_wk' (vq 8 rfl) (eqv_slK (h:=oneK)),rfl⟩ .nil))) (oc (zaf rfl rfl rfl (vq 9 rfl) zab (Eq.trans (b:=2) rfl rfl)) o0))))))))))) zk zk zk zk (fun a w hst=>?_)
 have hst:St B w0 23 [(3,_)] [⟨1,35,ptrH,_⟩,⟨2,35,ptrH,_⟩,⟨3,130,slH _ _,_⟩] a w:=hst
 have hst:=St.wkL (A:=Nums .u32 (x.mag++[7777]++[])) (A':=Nums .u32 (x.mag++[7777])) hst 2 rfl (zig (by rw [List.append_nil]))
 have hst:=St.twin hst 0 1 2 rfl rfl rfl hok (by simp at hce; omega) hcm hBg
 refine za0 ?_
 refine wp_ret ?_
 refine zai ?_ (zam rfl hst (zm 1 rfl) zab)
 exact zb6
end Go.Proofs.YtlpppkkggljdcaaGreat
namespace Go.Proofs.YtlpppkkggljdcaaGreat
open Go Go.RowKit
def RFT (x:RF):As:=cat [RIT x.num,RIT x.den]
theorem wkA_twN {l:List Nat}:WkA (TwN l) (MgA l):=⟨rfl,rfl,fun B cs w h=>by
 obtain ⟨cs',h1,h2⟩:=twN_A B (shape false cs) w ⟨cs,h,rfl⟩
 have l1:=(TwN l).len _ _ _ h
 have l2:=(MgA l).len _ _ _ h1
 match cs,cs',l1,l2 with
 | [c],[c'],_,_ =>
  have e:c=c':=h2
  subst e
  exact h1⟩
theorem wkA_rit {x:RI}:WkA (RIT x) (RIA x):=zci (.cons (.refl _) (.cons wkA_twN .nil))
theorem wkA_rft {x:RF}:WkA (RFT x) (RFA x):=zci (.cons wkA_rit (.cons wkA_rit .nil))
section
variable {P:Program} {R:Rg} {Q:Exit→Act→World→Prop} {B i:Nat} {w0:Bs}
theorem twN_va {l:List Nat}{B:Nat}{v:Value}{w:World}(h:(TwN l).va.p B v w):okL l∧∃ g,v=.slice (some ⟨g,0,none⟩) l.length (l.length+1)∧l.length+1≤maxLen∧w.heap[g]?=some (.cells ((l++[7777]).map fun (x:Nat)=>Value.int .u32 x).toArray U32 (0,0)):=by
 obtain ⟨cs,⟨ok,g,e,h1,h2,h3⟩,hv⟩:=h
 subst e
 exact ⟨ok,g,hv,h2,h3⟩
theorem r_capT {x:Operand}{S E':TypeId}{l:List Nat}(hS:P.underlying S=some (.slice E'))(hx:Has R B w0 i x (TwN l).va):Wv P Q R B w0 i (.call ⟨.builtin .cap,#[x],#[S]⟩) (In ((l.length+1:Nat):Int)) :=
 zbk fun d T ps af gd a w av=>by
  obtain ⟨_,g,hv,_,_⟩:=twN_va (hx a w av)
  refine ⟨.int .i64 ((l.length+1:Nat):Int),w,?_,Grow.refl w,zcr _ _ _ _⟩
  simp [execOp,resolve,invoke,builtin,hv,Builtin.cap_,run_underlying hS,goInt]
theorem r_reslT {x z:Operand}{S:TypeId}{l:List Nat}(hS:Sl P S U32 1)(hx:Has R B w0 i x (TwN l).va)(hz:Has R B w0 i z (In ((l.length+1:Nat):Int))):Wv P Q R B w0 i (.slice S x none (some z) none) (MgA (l++[7777])).va :=
 zbk fun d T ps af gd a w av=>by
  obtain ⟨hs1,hs2⟩:=hS
  obtain ⟨ok,g,e1,hm,hh⟩:=twN_va (hx a w av)
  have e3:=zbj (hz a w av)
  have hE:P.elem S=U32:=by simp [Program.elem,hs1]
  have hs1':P.underlying S=some (.slice (P.elem S)):=by rw [hE]; exact hs1
  have hsz:∀ w,(sizeOf U32).run P w=.ok 1 w:=fun w=>by
   cases hi:P.info? U32 with
   | none=>rw [hi] at hs2; simp at hs2
   | some it=>rw [hi] at hs2; simp [sizeOf,typeInfo,hi]; simpa using hs2
  refine ⟨.slice (some ⟨g,0,none⟩) (l.length+1) (l.length+1),w,?_,Grow.refl w,zf0 (twN_full ok hm hh) (by simp)⟩
  have hr:=run_slice_h (P:=P) w S (some ⟨g,0,none⟩) l.length (l.length+1) hs1' .i64 ((l.length+1:Nat):Int) zo zo
  rw [hE,hsz] at hr
  have hne:¬ l.length+1=0:=by omega
  simp only [Result.andThen_ok,sliced,Int.toNat_natCast,hne,if_false,Nat.mul_one,Option.map_some,Nat.sub_zero] at hr
  simp only [execOp,e1,e3,Option.map_some,run_sliceAt_slice _ _ _ _ _ _ hs1',Sem.run_bind,Sem.run_pure]
  erw [hr]
  simp [Addr.add]
end
set_option maxHeartbeats 1000000 in
theorem zl2 (x y:RI)(hx:x.mag.length≤1000000000000):Cn Tryz.prog 143 [(RIT x).va,(RIA y).va] (Bo (decide (x=y))):=by
 refine Cn.intro Tryz.func143 rfl zk nq (fun B w0 a hst=>?_)
 have hst:St B w0 32 [(0,(RIT x).va),(1,(RIA y).va)] [] a w0.w:=hst
 refine wp_seq ?_
 refine gl (sts:=[]) (news:=[⟨2,35,ptrH,some 0,_,none⟩,⟨3,35,ptrH,some 1,_,none⟩]) (sp:=[.alc 0,.alc 1,.val 4 _]) [.o 2] hst (oc (zan rfl rfl rfl (gq 0 rfl)) (oc (zan rfl rfl rfl (gq 1 rfl)) (zv rfl (za1 zba) o0))) (fun a w hst=>?_)
 have hst:St B w0 32 [(4,_)] [⟨2,35,ptrH,_⟩,⟨3,35,ptrH,_⟩] a w:=hst
 refine zt<|zaz (anc:=[[],[],[0,1],[0,1,2],[0,1,2,3],[0,1,2,3,4],[0,1,2,3,4,5],[0,1,2,3],[0,1,2,3,7],[0,1,2,3,7,8],[0,1,2,3,4,5,6,7,8,9],[0,1,2,3,4,5,6,7,8,9,10],[0,1,2,3,4,5,6,7,8,9,10,11],[0,1,2,3,4,5,6,7,8,9,10,11,12],[0,1,2,3,4,5,6,7,8,9,10,11,12,13],[0,1,2,3,4,5,6,7,8,9,10,11,12],[0,1,2,3,4,5,6,7,8,9,10,11,12,15],[0,1,2,3,4,5,6,7,8,9,10,11,12,15,16],[0,1,2,3,4,5,6,7,8,9,10,11,12,15,16,17],[0,1,2,3,4,5,6,7,8,9,10,11,12,13,14,15,16,17,18],[0,1,2,3,4,5,6,7,8,9,10,11,12],[0,1,2,3,4,5,6,7,8,9,10,11,12,20],[0,1,2,3,4,5,6,7,8,9,10,11,12,20,21],[0,1,2,3,4,5,6,7,8,9,10,11,12,13,14,15,16,17,18,19,20,21,22],[0,1,2,3,4,5,6,7,8,9,10,11,12,13,14,15,16,17,18,19,20,21,22,23],[0,1,2,3,4,5,6,7,8,9,10,11,12,13,14,15,16,17,18,19,20,21,22,23,24],[0,1,2,3,4,5,6,7,8,9,10,11,12,13,14,15,16,17,18,19,20,21,22,23,24,25],[0,1,2,3,4,5,6,7,8,9,10,11,12,13,14,15,16,17,18,19,20,21,22,23,24,25,26]]) (sts:=[none,none]) (news:=[]) (sp:=((.val 5 _:Sp)::(.val 6 _)::(.val 7 _)::(.val 8 _)::(.adr 9 2 (.some 1) (_=true))::(.val 10 (Wh (_=true) _))::(.val 11 (Wh (_=true) _))::(.adr 12 2 (.some 1) (_=true))::(.val 13 (Wh (_=true) _))::(.val 14 (Wh (_=true) _))::(.val 15 (Wh (_=true) _))::(.val 16 _)::(.val 17 _)::(.adr 18 2 (.some 1) (_=true))::(.val 19 (Wh (_=true) _))::(.adr 20 2 (.some 1) (_=true))::(.val 21 (Wh (_=true) _))::(.val 22 (Wh (_=true) _))::(.val 23 (Wh (_=true) _))::(.val 24 (Wh (_=true) _))::(.adr 25 2 (.some 1) (_=true))::(.val 26 (Wh (_=true) _))::(.val 27 (Wh (_=true) _))::(.val 28 (Wh (_=true) _))::(.val 29 (Wh (_=true) _))::(.val 30 (Wh (_=true) _))::(.val 31 _)::(.val 4 _)::[])) [.o 27] za6 hst (zv rfl (zaq (lz0 0 rfl) zab) (zv rfl (zaq (lz0 1 rfl) zab) (zv rfl (za5 (xs:=[.tmp 5,.tmp 6]) ((zht x y).wk (.cons wkA_rit.va (.cons zb6 .nil))) (.cons (vq 0 rfl) (.cons (vq 1 rfl) .nil))) (zv rfl (za2 (vq 2 rfl)) (oc (zbz rfl rfl rfl (vq 3 rfl) nq (fun hg=>za7 (lz0 0 rfl) zag)) (oc (zal rfl rfl rfl (vq 3 rfl) nq (fun hg=>za4 4 rfl zk hg (lz0 0 rfl) (Sub.part 1 rfl rfl) zb8)) (oc (zal rfl rfl rfl (vq 3 rfl) nq (fun hg=>r_capT Tryz.underlying33 (zae (vq 5 rfl) hg))) (oc (zbz rfl rfl rfl (vq 3 rfl) nq (fun hg=>za7 (lz0 0 rfl) zag)) (oc (zal rfl rfl rfl (vq 3 rfl) nq (fun hg=>za4 7 rfl zk hg (lz0 0 rfl) (Sub.part 1 rfl rfl) zb8)) (oc (zal rfl rfl rfl (vq 3 rfl) nq (fun hg=>zaw Tryz.underlying33 (has_wk' (zae (vq 8 rfl) hg) twN_A))) (oc (zal rfl rfl rfl (vq 3 rfl) nq (fun hg=>zdo (zae (vq 6 rfl) hg) (zae (vq 9 rfl) hg))) (zv rfl (zcj (vq 3 rfl) (vq 10 rfl)) (zv rfl (za2 (vq 11 rfl)) (oc (zbz rfl rfl rfl (vq 12 rfl) nq (fun hg=>za7 (lz0 0 rfl) zag)) (oc (zal rfl rfl rfl (vq 12 rfl) nq (fun hg=>za4 13 rfl zk hg (lz0 0 rfl) (Sub.part 1 rfl rfl) zb8)) (oc (zbz rfl rfl rfl (vq 12 rfl) nq (fun hg=>za7 (lz0 0 rfl) zag)) (oc (zal rfl rfl rfl (vq 12 rfl) nq (fun hg=>za4 15 rfl zk hg (lz0 0 rfl) (Sub.part 1 rfl rfl) zb8)) (oc (zal rfl rfl rfl (vq 12 rfl) nq (fun hg=>zaw Tryz.underlying33 (has_wk' (zae (vq 16 rfl) hg) twN_A))) (oc (zal rfl rfl rfl (vq 12 rfl) nq (fun hg=>zb7 (zae (vq 17 rfl) hg) za3 (zbh zo))) (oc (zal rfl rfl rfl (vq 12 rfl) nq (fun hg=>r_reslT zb4 (zae (vq 14 rfl) hg) (zae (vq 18 rfl) hg))) (oc (zbz rfl rfl rfl (vq 12 rfl) nq (fun hg=>za7 (lz0 0 rfl) zag)) (oc (zal rfl rfl rfl (vq 12 rfl) nq (fun hg=>za4 20 rfl zk hg (lz0 0 rfl) (Sub.part 1 rfl rfl) zb8)) (oc (zal rfl rfl rfl (vq 12 rfl) nq (fun hg=>zaw Tryz.underlying33 (has_wk' (zae (vq 21 rfl) hg) twN_A))) (oc (zal rfl rfl rfl (vq 12 rfl) nq (fun hg=>r_idxmd zb4 (zae (vq 19 rfl) hg) (zae (vq 22 rfl) hg) (by simp))) (oc (zal rfl rfl rfl (vq 12 rfl) nq (fun hg=>zav (zae (vq 23 rfl) hg) zb0)) (oc (zal rfl rfl rfl (vq 12 rfl) nq (fun hg=>zc2 (zae (vq 24 rfl) hg) (zar 7777 rfl))) (zv rfl (zcj (vq 12 rfl) (vq 25 rfl)) (zv rfl (za1 (vq 26 rfl)) o0)))))))))))))))))))))))))))) zk zk zk zk (fun a w hst=>?_)
 have hst:St B w0 32 [(4,_)] [⟨2,35,ptrH,_⟩,⟨3,35,ptrH,_⟩] a w:=hst
 refine za0 ?_
 refine wp_ret ?_
 refine zai ?_ (zaa rfl hst (zm 0 rfl))
 refine zbv (congrArg Bo ?_); simp; omega
def bdF (x:RF):Prop:=x.num.mag.length≤1000000000000∧x.den.mag.length≤1000000000000
theorem zik (x:RF)(hx:bdF x):Cn Tryz.prog 107 [(RFA x).va] ((RFT x).va):=by
 refine Cn.intro Tryz.func107 rfl zk nq (fun B w0 a hst=>?_)
 have hst:St B w0 10 [(0,(RFA x).va)] [] a w0.w:=hst
 refine wp_seq ?_
 refine gl (sts:=[]) (news:=[⟨1,37,ptrH,some 0,_,none⟩,⟨2,37,ptrH,some 1,_,none⟩]) (sp:=[.alc 0,.alc 1]) [] hst (oc (zan rfl rfl rfl (gq 0 rfl)) (oc (zap rfl rfl rfl (Str.zero zb9)) o0)) (fun a w hst=>?_)
 have hst:St B w0 10 [] [⟨1,37,ptrH,_⟩,⟨2,37,ptrH,_⟩] a w:=hst
 refine zt<|zaz (anc:=[[],[0],[0,1],[],[3],[0,1,2,3,4],[0,1,2,3,4,5],[0,1,2,3,4,5,6]]) (sts:=[none,some (7,_)]) (news:=[]) (sp:=[.adr 3 1 (.some 0) True,.val 4 _,.val 5 _,.adr 6 1 (.some 2) True,.val 7 _,.val 8 _,.val 9 _,.sto 1]) [] za6 hst (oc (ob_a rfl rfl (za7 (lz0 0 rfl) zbf)) (zv rfl (za4 0 rfl zk trivial (lz0 0 rfl) (Sub.part 0 rfl rfl) zab) (zv rfl (za5 (xs:=[.tmp 4]) (zki _ hx.1) (.cons (vq 1 rfl) .nil)) (oc (ob_a rfl rfl (za7 (lz0 0 rfl) zb5)) (zv rfl (za4 3 rfl zk trivial (lz0 0 rfl) (Sub.part 1 rfl rfl) zab) (zv rfl (za5 (xs:=[.tmp 7]) (zki _ hx.2) (.cons (vq 4 rfl) .nil)) (zv rfl (zbb (xs:=[(0,.tmp 5),(1,.tmp 8)]) (qs:=[(0,_),(1,_)]) zb9 (.cons ⟨rfl,(vq 2 rfl),rfl⟩ (.cons ⟨rfl,(vq 5 rfl),rfl⟩ .nil))) (oc (zaf rfl rfl rfl (vq 6 rfl) zao (Eq.trans (b:=4) rfl rfl)) o0)))))))) zk zk zk zk (fun a w hst=>?_)
 have hst:St B w0 10 [] [⟨1,37,ptrH,_⟩,⟨2,37,ptrH,_⟩] a w:=hst
 refine za0 ?_
 refine wp_ret ?_
 refine zai ?_ (zam rfl hst (zm 1 rfl) zao)
 exact zb6
theorem zj1 (x y:RF)(hx:bdF x):Cn Tryz.prog 112 [(RFT x).va,(RFA y).va] (Bo (decide (x=y))):=by
 refine Cn.intro Tryz.func112 rfl zk nq (fun B w0 a hst=>?_)
 have hst:St B w0 17 [(0,(RFT x).va),(1,(RFA y).va)] [] a w0.w:=hst
 refine wp_seq ?_
 refine gl (sts:=[]) (news:=[⟨2,37,ptrH,some 0,_,none⟩,⟨3,37,ptrH,some 1,_,none⟩]) (sp:=[.alc 0,.alc 1,.val 4 _]) [.o 2] hst (oc (zan rfl rfl rfl (gq 0 rfl)) (oc (zan rfl rfl rfl (gq 1 rfl)) (zv rfl (za1 zba) o0))) (fun a w hst=>?_)
 have hst:St B w0 17 [(4,_)] [⟨2,37,ptrH,_⟩,⟨3,37,ptrH,_⟩] a w:=hst
 refine zt<|gl (sts:=[none,none]) (news:=[]) (sp:=[.adr 5 2 (.some 0) True,.val 6 _,.adr 7 3 (.some 0) True,.val 8 _,.val 9 _,.val 10 _,.adr 11 2 (.some 2) (_=true),.val 12 (Wh (_=true) _),.adr 13 3 (.some 2) (_=true),.val 14 (Wh (_=true) _),.val 15 (Wh (_=true) _),.val 16 _,.val 4 _]) [.o 12] hst (oc (ob_a rfl rfl (za7 (lz0 0 rfl) zbf)) (zv rfl (za4 0 rfl zk trivial (lz0 0 rfl) (Sub.part 0 rfl rfl) zab) (oc (ob_a rfl rfl (za7 (lz0 1 rfl) zbf)) (zv rfl (za4 2 rfl zk trivial (lz0 1 rfl) (Sub.part 0 rfl rfl) zab) (zv rfl (za5 (xs:=[.tmp 6,.tmp 8]) (zl2 _ _ hx.1) (.cons (vq 1 rfl) (.cons (vq 3 rfl) .nil))) (zv rfl (za2 (vq 4 rfl)) (oc (zbz rfl rfl rfl (vq 5 rfl) nq (fun hg=>za7 (lz0 0 rfl) zb5)) (oc (zal rfl rfl rfl (vq 5 rfl) nq (fun hg=>za4 6 rfl zk hg (lz0 0 rfl) (Sub.part 1 rfl rfl) zab)) (oc (zbz rfl rfl rfl (vq 5 rfl) nq (fun hg=>za7 (lz0 1 rfl) zb5)) (oc (zal rfl rfl rfl (vq 5 rfl) nq (fun hg=>za4 8 rfl zk hg (lz0 1 rfl) (Sub.part 1 rfl rfl) zab)) (oc (zal rfl rfl rfl (vq 5 rfl) nq (fun hg=>za5 (xs:=[.tmp 12,.tmp 14]) (zl2 _ _ hx.2) (.cons (zae (vq 7 rfl) hg) (.cons (zae (vq 9 rfl) hg) .nil)))) (zv rfl (zcj (vq 5 rfl) (vq 10 rfl)) (zv rfl (za1 (vq 11 rfl)) o0))))))))))))) (fun a w hst=>?_)
 have hst:St B w0 17 [(4,_)] [⟨2,37,ptrH,_⟩,⟨3,37,ptrH,_⟩] a w:=hst
 refine za0 ?_
 refine wp_ret ?_
 refine zai ?_ (zaa rfl hst (zm 0 rfl))
 exact zbv (congrArg Bo rf_eq)
end Go.Proofs.YtlpppkkggljdcaaGreat
namespace Go.Proofs.YtlpppkkggljdcaaGreat
open Go Go.RowKit
def p4 (m:MQ)(j:Nat):Rat:=[m.a,m.b,m.c,m.d].getD j 0
def mulQ (m q:MQ):MQ:=⟨m.a*q.a+m.b*q.c,m.a*q.b+m.b*q.d,m.c*q.a+m.d*q.c,m.c*q.b+m.d*q.d⟩
end Go.Proofs.YtlpppkkggljdcaaGreat
namespace Go.Proofs.YtlpppkkggljdcaaGreat
open Go Go.RowKit
end Go.Proofs.YtlpppkkggljdcaaGreat
namespace Go.Proofs.YtlpppkkggljdcaaGreat
open Go Go.RowKit
theorem Cm.introK {P : Program} {f : FuncId} {fn : Func} {c : Code} {T : TypeId} {A0 A1 : As} {H : Hd} {pre : List Ar} {post : VA} (p : Nat) (hf : P.funcs[f]? = some fn) (hb : fn.body = some c) (hn : (fn.name == "runtime.NumGoroutine") = false) (hsz : pre.length ≤ fn.ntmps)
  (hm:∀ g,(p,EqV (H.f g))∈argΓ (pre.map (Ar.va g)))
  (h:∀ (B g:Nat) (w0:Bs) (a:Act),St B w0 fn.ntmps (argΓ (pre.map (Ar.va g))) [⟨p,T,H,A0⟩] a w0.w→c.wp P (bPost P fn (RQm B w0 g T A1 post)) a w0.w):Cm P f T A0 A1 pre post:=by
 refine ⟨⟨fn,hf,hn,by rw [hb]; rfl⟩,fun B w g cs args hB hg hp ha=>(zcf hf hb (h B g ⟨w,fun k=>k=g,false⟩ _ ?_)).mono fun _ _ ⟨v,cs',he,hv,hk,h1,h2⟩=>⟨v,cs',he,hv,hk,h1,h2⟩⟩
 have hl:=ha.length
 have hgw:=(Array.getElem?_eq_some_iff.1 hg).1
 have ha':All2 (fun (A:VA) v=>A.p B v w) (pre.map (Ar.va g)) args:=by
  clear hl hm h hsz
  induction ha with
  | nil=>exact .nil
  | @cons x y xs ys h1 _ ih =>
   refine .cons ?_ ih
   cases x with
   | v A=>exact h1
   | w H=>exact h1
 have h0:(⟨args.toArray++Array.replicate (fn.ntmps-args.toArray.size) undef,[]⟩:Act).eval (.tmp p)=H.f g :=
  All2.args (N:=fn.ntmps-args.toArray.size) ha' (p,EqV (H.f g)) (hm g)
 refine ⟨fun k hk=>?_,DefOk.nil rfl,?_,Kept.refl _,All2.args ha',fun l hl=>?_,fun l hl m hm hne=>?_⟩
 ·rcases hk with hk | hk
  ·exact Nat.le_trans hB (Nat.le_trans (Nat.le_of_lt hgw) hk)
  ·have:k=g:=hk
   omega
 ·simp only [Array.size_append,List.size_toArray,Array.size_replicate]
  omega
 ·simp at hl
  subst hl
  exact ⟨g,cs,h0,.inr rfl,hg,hp⟩
 ·simp at hl hm
  subst hl hm
  exact absurd rfl hne
theorem zhw {P:Program}{fn:Func}{B N g p:Nat}{w0:Bs}{Γ:List (Nat × VA)}{Λ:List Lc}{a:Act}{w:World}{T:TypeId}{H:Hd}{A1:As}{post:VA}(h:St B w0 N Γ Λ a w)(hm:(p,EqV (H.f g))∈Γ)(hl:(⟨p,T,H,A1⟩:Lc)∈Λ)
  (hb:bPost P fn (RQ B w0 post) .ret a w):bPost P fn (RQm B w0 g T A1 post) .ret a w:=by
 refine zi8 h hb fun v w h ⟨v',e1,e2,e3⟩=>?_
 obtain ⟨g',cs,f1,_,f3,f4⟩:=h.locs _ hl
 replace f1:a.eval (.tmp p)=H.f g':=f1
 have f0:a.eval (.tmp p)=H.f g:=h.vals _ hm
 have:g'=g:=Rg.Hd.inj (H:=H) (H':=H) (by rw [← f1,← f0])
 subst this
 exact ⟨v',cs,e1,e2,e3,f3,f4⟩
theorem sub_self {A:As}:Sub A 0 A:=fun B cs w h=>by
 have hl:=A.len B cs w h
 refine ⟨?_,by omega⟩
 rw [List.drop_zero,List.take_of_length_le zo]
 exact h
end Go.Proofs.YtlpppkkggljdcaaGreat
namespace Go.Proofs.YtlpppkkggljdcaaGreat
open Go Go.RowKit
def bQ (k:Nat)(r:Rat):Prop:=lz r.num≤k∧lz (r.den:Int)≤k
theorem bQ_add {c d:Nat}{x y:Rat}(hx:bQ c x)(hy:bQ d y):bQ (c+d+1) (x+y):=by
 obtain ⟨x1,x2⟩:=hx
 obtain ⟨y1,y2⟩:=hy
 rw [← rat_add]
 obtain ⟨h1,h2⟩:=zf4 (p:=x.num*(y.den:Int)+y.num*(x.den:Int)) (q:=(x.den:Int)*(y.den:Int)) (den_nz x y)
 have h3:=zky (x.num*(y.den:Int)) (y.num*(x.den:Int))
 have h4:=ze6 x.num y.den
 have h5:=ze6 y.num x.den
 have h6:=ze6 x.den y.den
 exact ⟨by omega,by omega⟩
theorem bQ_mul {c d:Nat}{x y:Rat}(hx:bQ c x)(hy:bQ d y):bQ (c+d) (x*y):=by
 obtain ⟨x1,x2⟩:=hx
 obtain ⟨y1,y2⟩:=hy
 rw [← rat_mul]
 obtain ⟨h1,h2⟩:=zf4 (p:=x.num*y.num) (q:=(x.den:Int)*(y.den:Int)) (den_nz x y)
 have h4:=ze6 x.num y.num
 have h6:=ze6 x.den y.den
 exact ⟨by omega,by omega⟩
def szQ (r:Rat):Nat:=lz r.num+lz (r.den:Int)
end Go.Proofs.YtlpppkkggljdcaaGreat
namespace Go.Proofs.YtlpppkkggljdcaaGreat
open Go Go.RowKit
theorem nd_eq (x:Rat):x=(x.num:Rat)/((x.den:Int):Rat):=by rw [← Rat.divInt_eq_div]; exact (Rat.num_divInt_den x).symm
theorem den_ne (x:Rat):((x.den:Int):Rat)≠0:=by
 have:=x.den_nz
 intro h
 exact this (by exact_mod_cast h)
end Go.Proofs.YtlpppkkggljdcaaGreat
namespace Go.Proofs.YtlpppkkggljdcaaGreat
open Go Go.RowKit
section
variable {P:Program} {R:Rg} {Q:Exit→Act→World→Prop} {B i:Nat} {w0:Bs}
end
end Go.Proofs.YtlpppkkggljdcaaGreat
namespace Go.Proofs.YtlpppkkggljdcaaGreat
open Go Go.RowKit
end Go.Proofs.YtlpppkkggljdcaaGreat
namespace Go.Proofs.YtlpppkkggljdcaaGreat
open Go Go.RowKit
theorem zg8 {c d e f:Nat}{x y z u:Rat}(hk:c+d+e+f≤137438953472):Cn Tryz.prog 120 [Qs c x,Qs d y,Qs e z,Qs f u] (Qs (c+d+(e+f)+1) (x*y+z*u)):=by
 refine Cn.intro Tryz.func120 rfl zk nq (fun B w0 a hst=>?_)
 have hst:St B w0 16 [(0,Qs c x),(1,Qs d y),(2,Qs e z),(3,Qs f u)] [] a w0.w:=hst
 refine wp_seq ?_
 refine gl (sts:=[]) (news:=[⟨4,37,ptrH,some 0,_,none⟩,⟨5,37,ptrH,some 1,_,none⟩,⟨6,37,ptrH,some 2,_,none⟩,⟨7,37,ptrH,some 3,_,none⟩,⟨8,37,ptrH,some 4,_,none⟩]) (sp:=[.alc 0,.alc 1,.alc 2,.alc 3,.alc 4]) [] hst (oc (zan rfl rfl rfl (gq 0 rfl)) (oc (zan rfl rfl rfl (gq 1 rfl)) (oc (zan rfl rfl rfl (gq 2 rfl)) (oc (zan rfl rfl rfl (gq 3 rfl)) (oc (zap rfl rfl rfl (Str.zero zb9)) o0))))) (fun a w hst=>?_)
 have hst:St B w0 16 [] [⟨4,37,ptrH,_⟩,⟨5,37,ptrH,_⟩,⟨6,37,ptrH,_⟩,⟨7,37,ptrH,_⟩,⟨8,37,ptrH,_⟩] a w:=hst
 refine zt<|zaz (anc:=[[],[],[0,1],[],[],[0,1,2,3,4],[0,1,2,3,4,5],[0,1,2,3,4,5,6]]) (sts:=[none,none,none,none,some (7,_)]) (news:=[]) (sp:=[.val 9 _,.val 10 _,.val 11 _,.val 12 _,.val 13 _,.val 14 _,.val 15 _,.sto 4]) [] za6 hst (zv rfl (zaq (lz0 0 rfl) zao) (zv rfl (zaq (lz0 1 rfl) zao) (zv rfl (za5 (xs:=[.tmp 9,.tmp 10]) (zjc zo) (.cons (vq 0 rfl) (.cons (vq 1 rfl) .nil))) (zv rfl (zaq (lz0 2 rfl) zao) (zv rfl (zaq (lz0 3 rfl) zao) (zv rfl (za5 (xs:=[.tmp 12,.tmp 13]) (zjc zo) (.cons (vq 3 rfl) (.cons (vq 4 rfl) .nil))) (zv rfl (za5 (xs:=[.tmp 11,.tmp 14]) (plus_q zo) (.cons (vq 2 rfl) (.cons (vq 5 rfl) .nil))) (oc (zaf rfl rfl rfl (vq 6 rfl) zao (Eq.trans (b:=4) rfl rfl)) o0)))))))) zk zk zk zk (fun a w hst=>?_)
 have hst:St B w0 16 [] [⟨4,37,ptrH,_⟩,⟨5,37,ptrH,_⟩,⟨6,37,ptrH,_⟩,⟨7,37,ptrH,_⟩,⟨8,37,ptrH,_⟩] a w:=hst
 refine za0 ?_
 refine wp_ret ?_
 refine zai ?_ (zam rfl hst (zm 4 rfl) zao)
 exact zb6
theorem rowTimes_q {c d:Nat}{m q:MQ}(hk:c+d≤68719476736):Cn Tryz.prog 87 [(QMA c m).va,(QMA d q).va] ((QMA (c+d+(c+d)+1) (mulQ m q)).va):=by
 refine Cn.intro Tryz.func87 rfl zk nq (fun B w0 a hst=>?_)
 have hst:St B w0 42 [(0,(QMA c m).va),(1,(QMA d q).va)] [] a w0.w:=hst
 refine wp_seq ?_
 refine gl (sts:=[]) (news:=[⟨2,56,ptrH,some 0,_,none⟩,⟨3,56,ptrH,some 1,_,none⟩,⟨4,56,ptrH,some 2,_,none⟩]) (sp:=[.alc 0,.alc 1,.alc 2]) [] hst (oc (zan rfl rfl rfl (gq 0 rfl)) (oc (zan rfl rfl rfl (gq 1 rfl)) (oc (zap rfl rfl rfl (Str.zero zbn)) o0))) (fun a w hst=>?_)
 have hst:St B w0 42 [] [⟨2,56,ptrH,_⟩,⟨3,56,ptrH,_⟩,⟨4,56,ptrH,_⟩] a w:=hst
 refine zt<|zaz (anc:=[[],[0],[],[2],[],[4],[],[6],[0,1,2,3,4,5,6,7],[],[9],[],[11],[],[13],[],[15],[0,1,2,3,4,5,6,7,8,9,10,11,12,13,14,15,16],[],[18],[],[20],[],[22],[],[24],[0,1,2,3,4,5,6,7,8,9,10,11,12,13,14,15,16,17,18,19,20,21,22,23,24,25],[],[27],[],[29],[],[31],[],[33],[0,1,2,3,4,5,6,7,8,9,10,11,12,13,14,15,16,17,18,19,20,21,22,23,24,25,26,27,28,29,30,31,32,33,34],[0,1,2,3,4,5,6,7,8,9,10,11,12,13,14,15,16,17,18,19,20,21,22,23,24,25,26,27,28,29,30,31,32,33,34,35],[0,1,2,3,4,5,6,7,8,9,10,11,12,13,14,15,16,17,18,19,20,21,22,23,24,25,26,27,28,29,30,31,32,33,34,35,36]]) (sts:=[none,none,some (37,_)]) (news:=[]) (sp:=((.adr 5 2 (.some 0) True:Sp)::(.val 6 _)::(.adr 7 3 (.some 0) True)::(.val 8 _)::(.adr 9 2 (.some 4) True)::(.val 10 _)::(.adr 11 3 (.some 8) True)::(.val 12 _)::(.val 13 _)::(.adr 14 2 (.some 0) True)::(.val 15 _)::(.adr 16 3 (.some 4) True)::(.val 17 _)::(.adr 18 2 (.some 4) True)::(.val 19 _)::(.adr 20 3 (.some 12) True)::(.val 21 _)::(.val 22 _)::(.adr 23 2 (.some 8) True)::(.val 24 _)::(.adr 25 3 (.some 0) True)::(.val 26 _)::(.adr 27 2 (.some 12) True)::(.val 28 _)::(.adr 29 3 (.some 8) True)::(.val 30 _)::(.val 31 _)::(.adr 32 2 (.some 8) True)::(.val 33 _)::(.adr 34 3 (.some 4) True)::(.val 35 _)::(.adr 36 2 (.some 12) True)::(.val 37 _)::(.adr 38 3 (.some 12) True)::(.val 39 _)::(.val 40 _)::(.val 41 _)::(.sto 2)::[])) [] za6 hst (oc (ob_a rfl rfl (za7 (lz0 0 rfl) zfl)) (zv rfl (za4 0 rfl zk trivial (lz0 0 rfl) (Sub.part 0 rfl rfl) zao) (oc (ob_a rfl rfl (za7 (lz0 1 rfl) zfl)) (zv rfl (za4 2 rfl zk trivial (lz0 1 rfl) (Sub.part 0 rfl rfl) zao) (oc (ob_a rfl rfl (za7 (lz0 0 rfl) zem)) (zv rfl (za4 4 rfl zk trivial (lz0 0 rfl) (Sub.part 1 rfl rfl) zao) (oc (ob_a rfl rfl (za7 (lz0 1 rfl) zel)) (zv rfl (za4 6 rfl zk trivial (lz0 1 rfl) (Sub.part 2 rfl rfl) zao) (zv rfl (za5 (xs:=[.tmp 6,.tmp 8,.tmp 10,.tmp 12]) (zg8 zo) (.cons (vq 1 rfl) (.cons (vq 3 rfl) (.cons (vq 5 rfl) (.cons (vq 7 rfl) .nil))))) (oc (ob_a rfl rfl (za7 (lz0 0 rfl) zfl)) (zv rfl (za4 9 rfl zk trivial (lz0 0 rfl) (Sub.part 0 rfl rfl) zao) (oc (ob_a rfl rfl (za7 (lz0 1 rfl) zem)) (zv rfl (za4 11 rfl zk trivial (lz0 1 rfl) (Sub.part 1 rfl rfl) zao) (oc (ob_a rfl rfl (za7 (lz0 0 rfl) zem)) (zv rfl (za4 13 rfl zk trivial (lz0 0 rfl) (Sub.part 1 rfl rfl) zao) (oc (ob_a rfl rfl (za7 (lz0 1 rfl) zfk)) (zv rfl (za4 15 rfl zk trivial (lz0 1 rfl) (Sub.part 3 rfl rfl) zao) (zv rfl (za5 (xs:=[.tmp 15,.tmp 17,.tmp 19,.tmp 21]) (zg8 zo) (.cons (vq 10 rfl) (.cons (vq 12 rfl) (.cons (vq 14 rfl) (.cons (vq 16 rfl) .nil))))) (oc (ob_a rfl rfl (za7 (lz0 0 rfl) zel)) (zv rfl (za4 18 rfl zk trivial (lz0 0 rfl) (Sub.part 2 rfl rfl) zao) (oc (ob_a rfl rfl (za7 (lz0 1 rfl) zfl)) (zv rfl (za4 20 rfl zk trivial (lz0 1 rfl) (Sub.part 0 rfl rfl) zao) (oc (ob_a rfl rfl (za7 (lz0 0 rfl) zfk)) (zv rfl (za4 22 rfl zk trivial (lz0 0 rfl) (Sub.part 3 rfl rfl) zao) (oc (ob_a rfl rfl (za7 (lz0 1 rfl) zel)) (zv rfl (za4 24 rfl zk trivial (lz0 1 rfl) (Sub.part 2 rfl rfl) zao) (zv rfl (za5 (xs:=[.tmp 24,.tmp 26,.tmp 28,.tmp 30]) (zg8 zo) (.cons (vq 19 rfl) (.cons (vq 21 rfl) (.cons (vq 23 rfl) (.cons (vq 25 rfl) .nil))))) (oc (ob_a rfl rfl (za7 (lz0 0 rfl) zel)) (zv rfl (za4 27 rfl zk trivial (lz0 0 rfl) (Sub.part 2 rfl rfl) zao) (oc (ob_a rfl rfl (za7 (lz0 1 rfl) zem)) (zv rfl (za4 29 rfl zk trivial (lz0 1 rfl) (Sub.part 1 rfl rfl) zao) (oc (ob_a rfl rfl (za7 (lz0 0 rfl) zfk)) (zv rfl (za4 31 rfl zk trivial (lz0 0 rfl) (Sub.part 3 rfl rfl) zao) (oc (ob_a rfl rfl (za7 (lz0 1 rfl) zfk)) (zv rfl (za4 33 rfl zk trivial (lz0 1 rfl) (Sub.part 3 rfl rfl) zao) (zv rfl (za5 (xs:=[.tmp 33,.tmp 35,.tmp 37,.tmp 39]) (zg8 zo) (.cons (vq 28 rfl) (.cons (vq 30 rfl) (.cons (vq 32 rfl) (.cons (vq 34 rfl) .nil))))) (zv rfl (zbb (xs:=[(0,.tmp 13),(1,.tmp 22),(2,.tmp 31),(3,.tmp 40)]) (qs:=[(0,_),(1,_),(2,_),(3,_)]) zbn (.cons ⟨rfl,(vq 8 rfl),rfl⟩ (.cons ⟨rfl,(vq 17 rfl),rfl⟩ (.cons ⟨rfl,(vq 26 rfl),rfl⟩ (.cons ⟨rfl,(vq 35 rfl),rfl⟩ .nil))))) (oc (zaf rfl rfl rfl (vq 36 rfl) zco (Eq.trans (b:=16) rfl rfl)) o0)))))))))))))))))))))))))))))))))))))) zk zk zk zk (fun a w hst=>?_)
 have hst:St B w0 42 [] [⟨2,56,ptrH,_⟩,⟨3,56,ptrH,_⟩,⟨4,56,ptrH,_⟩] a w:=hst
 refine za0 ?_
 refine wp_ret ?_
 refine zai ?_ (zam rfl hst (zm 2 rfl) zco)
 exact zb6
theorem zfg  : Cn Tryz.prog 86 [] ((QMA 2 ⟨1,0,0,1⟩).va):=by
 refine Cn.intro Tryz.func86 rfl zk nq (fun B w0 a hst=>?_)
 have hst:St B w0 6 [] [] a w0.w:=hst
 refine wp_seq ?_
 refine gl (sts:=[]) (news:=[⟨0,56,ptrH,some 0,_,none⟩]) (sp:=[.alc 0]) [] hst (oc (zap rfl rfl rfl (Str.zero zbn)) o0) (fun a w hst=>?_)
 have hst:St B w0 6 [] [⟨0,56,ptrH,_⟩] a w:=hst
 refine zt<|gl (sts:=[some (5,_)]) (news:=[]) (sp:=[.val 1 _,.val 2 _,.val 3 _,.val 4 _,.val 5 _,.sto 0]) [] hst (zv rfl (za5 (xs:=[]) one_q .nil) (zv rfl (za5 (xs:=[]) zjs .nil) (zv rfl (za5 (xs:=[]) zjs .nil) (zv rfl (za5 (xs:=[]) one_q .nil) (zv rfl (zbb (xs:=[(0,.tmp 1),(1,.tmp 2),(2,.tmp 3),(3,.tmp 4)]) (qs:=[(0,_),(1,_),(2,_),(3,_)]) zbn (.cons ⟨rfl,(vq 0 rfl),rfl⟩ (.cons ⟨rfl,(vq 1 rfl),rfl⟩ (.cons ⟨rfl,(vq 2 rfl),rfl⟩ (.cons ⟨rfl,(vq 3 rfl),rfl⟩ .nil))))) (oc (zaf rfl rfl rfl (vq 4 rfl) zco (Eq.trans (b:=16) rfl rfl)) o0)))))) (fun a w hst=>?_)
 have hst:St B w0 6 [] [⟨0,56,ptrH,_⟩] a w:=hst
 refine za0 ?_
 refine wp_ret ?_
 refine zai ?_ (zam rfl hst (zm 0 rfl) zco)
 exact zb6
def trsQ (m:MQ):Rat:=(m.a+m.d)*(m.a+m.d)
theorem as_no {c:Prop}[Decidable c](h:((if c then (4:Int) else 0) != 0)=false):¬ c:=fun hc=>by rw [if_pos hc] at h; simp at h
theorem as_yes {c:Prop}[Decidable c](h:((if c then (4:Int) else 0) != 0)=true):c:=Decidable.byContradiction fun hc=>by rw [if_neg hc] at h; simp at h
end Go.Proofs.YtlpppkkggljdcaaGreat
