import Derived.Test.YthncfchnkjemiaaGreatDoorRmAa
import Derived.Test.YthncfchnkjemiaaGreatDoorRmAc
import Derived.Test.YthncfchnkjemiaaGreatDoorRmAl
import Derived.Test.YthncfchnkjemiaaGreatDoorRmAv
import Derived.Laws.AppendOwn
import Derived.Laws.OwnMore
import Derived.Orders
set_option linter.unusedVariables false
set_option linter.unusedSimpArgs false
set_option linter.unusedSectionVars false
set_option maxRecDepth 100000
namespace Go.Proofs.YthncfchnkjemiaaGreatDoor
open Go Go.RowKit
def RowX (b c:Nat)(l r:List Nat):VA where
 p B v w:=∃ g,v=.slice (some ⟨g,0,none⟩) l.length c∧b≤g∧B≤g∧c=(l++r).length∧c≤maxLen∧w.heap[g]?=some (.cells ((l++r).map fun (x:Nat)=>Value.int .u32 x).toArray U32 (0,0))
 deps:=[U32]
 cg:=by
  rintro B v w w' hg ⟨g,h1,h2,h3,h4,h5,h6⟩
  exact ⟨g,h1,h2,h3,h4,h5,hg.heap h6⟩
 wr:=by
  rintro B v w w' g c T fz hg hT hB hW ⟨g',h1,h2,h3,h4,h5,h6⟩
  refine ⟨g',h1,h2,h3,h4,h5,?_⟩
  rw [hW.block g' fun hh=>?_]
  ·exact h6
  ·subst hh
   rw [hg] at h6
   simp only [Option.some.injEq,Obj.cells.injEq] at h6
   exact hT (by simp [h6.2.1])
theorem rowX_ok {b c B:Nat}{l r:List Nat}{v:Value}{w:World}(h:(RowX b c l r).p B v w):RowOk w b U32 v.ownBlock:=by
 obtain ⟨g,rfl,h2,_,_,_,h6⟩:=h
 intro g' e
 have e':g=g':=by injection e
 subst e'
 exact ⟨h2,_,_,h6⟩
theorem zjq {w:World}{g:Nat}(cs:Array Value):w.grownBy (w.setRow g cs) (some g):=by
 have h:=Wr.setRow w g cs
 exact ⟨h.os,h.tape,h.output,by rw [h.size]; exact Nat.le_refl _,fun k _ hk=>h.block k fun e=>hk (by rw [e])⟩
theorem zpv {P:Program}{S T1:TypeId}{b c B:Nat}{l r xs:List Nat}{w:World}{v u:Value}{it:TypeInfo}(hS:P.underlying S=some (.slice U32))(hi:P.info? U32=some it)(hsz:it.size=1)(hroom:xs.length≤r.length)
  (hv:(RowX b c l r).p B v w) (hu:(MgA xs).va.p B u w) :
  ∃ v' w',(Builtin.append_ #[S,S] T1 #[v,u]).run P w=.ok v' w'∧(RowX b c (l++xs) (r.drop xs.length)).p B v' w'∧w.grownBy w' v.ownBlock∧RowOk w b U32 v.ownBlock∧blk v'=blk v:=by
 have hro:=rowX_ok hv
 obtain ⟨g,rfl,h2,hBg,h4,h5,h6⟩:=hv
 obtain ⟨A,c',rfl,hm⟩:=zh0 hu
 have hlen:l.length+xs.length≤c:=by rw [h4,List.length_append]; omega
 have fin:(RowX b c (l++xs) (r.drop xs.length)).p B (.slice (some ⟨g,0,none⟩) (l.length+xs.length) c) (w.setRow g (((l++xs)++r.drop xs.length).map fun (x:Nat)=>Value.int .u32 x).toArray) :=
  ⟨g,by rw [List.length_append],h2,hBg,by rw [h4]; simp only [List.length_append,List.length_drop]; omega,h5,setRow_heap w g _ _ _ _ h6⟩
 cases A with
 | none =>
  have hx:xs=[]:=by
   apply List.eq_nil_of_length_eq_zero
   apply Decidable.byContradiction
   intro hn
   obtain ⟨_,_,e,_⟩:=hm.at_ zo
   cases e
  subst hx
  have hown:w.ownsRow b U32 1 (.slice (some ⟨g,0,none⟩) l.length c) l.length (l.map fun (x:Nat)=>Value.int .u32 x):=⟨by simp,.inr ⟨g,c,_,rfl,h2,h6,by omega,h5,by simp [h4],by simp⟩⟩
  refine ⟨_,w,zij b S T1 U32 it 1 hS hi _ _ c' _ hown,⟨g,by simp,h2,hBg,by simpa using h4,h5,by simpa using h6⟩,⟨rfl,rfl,rfl,Nat.le_refl _,fun _ _ _=>rfl⟩,hro,rfl⟩
 | some ad =>
  have hnew:∀ j u,(xs.map fun (x:Nat)=>Value.int .u32 x)[j]?=some u→w.cell? (ad.add j)=some u:=fun j u hj=>by
   have hjx:j<xs.length:=by have:=(List.getElem?_eq_some_iff.1 hj).1; simpa using this
   obtain ⟨b',o,e,_,_,h8⟩:=hm.at_ zo
   injection e with e
   subst e
   rw [zo8,h8 j hjx]
   simpa [hjx] using hj
  have hr:=run_append_room (P:=P) w S T1 U32 it hS hi g l.length c _ h6 ad xs.length c' (xs.map fun (x:Nat)=>Value.int .u32 x) (by simp [hsz]) hnew (fun u hu=>by obtain ⟨_,_,rfl⟩:=List.mem_map.1 hu; rfl) hlen (by rw [hsz]; simp; omega)
  refine ⟨_,_,hr,?_,zjq _,hro,rfl⟩
  have e:(((l++r).map fun (x:Nat)=>Value.int .u32 x).toArray.toList.take (l.length*it.size)++(xs.map fun (x:Nat)=>Value.int .u32 x)++((l++r).map fun (x:Nat)=>Value.int .u32 x).toArray.toList.drop (l.length*it.size+(xs.map fun (x:Nat)=>Value.int .u32 x).length))=((l++xs)++r.drop xs.length).map fun (x:Nat)=>Value.int .u32 x:=by
   rw [hsz]
   simp [List.drop_append,List.map_drop]
  rw [e]
  exact fin
section
variable {P:Program} {R:Rg} {Q:Exit→Act→World→Prop} {B i:Nat} {w0:Bs}
theorem r_make0 {S:TypeId}{n:Nat}{x y:Operand}(hM:MakeOk P S U32 .u32)(hB:B≤w0.w.heap.size)(hx:Has R B w0 i x (In 0))(hy:Has R B w0 i y (In n))(hn:n≤17592186044416):Wv P Q R B w0 i (.makeSlice S x y) (RowX w0.w.heap.size n [] (List.replicate n 0)) :=
 zbx fun d T ps af gd a w av=>by
  obtain ⟨h1,h2,h3,h4,h5⟩:=hM
  obtain ⟨it,hi,hz⟩:=Option.bind_eq_some_iff.1 h2
  have hsz:it.size=1:=by rw [hi] at h3; simpa using h3
  have hby:=h5 it hi
  have hm:=run_make (P:=P) w S U32 it (.int .u32 0) h1 hi hz .i64 .i64 0 n zo zo (by
   have:it.bytes*n≤8*n:=Nat.mul_le_mul_right _ hby
   have h6:((it.bytes*n:Nat):Int)≤281474976710656:=by omega
   rwa [Int.natCast_mul] at h6) zo
  have e1:=zc2 (hx a w av)
  have e2:=zc2 (hy a w av)
  have hcells:madeCells (Value.int .u32 0).cells (n*it.size)=((List.replicate n 0).map fun (x:Nat)=>Value.int .u32 x).toArray:=by
   rw [hsz,Nat.mul_one]
   apply Array.ext_getElem?
   intro j
   simp only [madeCells,Value.cells,List.map_replicate]
   by_cases hj:j<n
   ·simp [hj,Nat.mod_one]
   ·simp [hj]
  simp only [Int.toNat_natCast] at hm
  rw [hcells] at hm
  refine ⟨.slice (some ⟨w.heap.size,0,none⟩) 0 n,w.alloc (.cells ((List.replicate n 0).map fun (x:Nat)=>Value.int .u32 x).toArray U32),?_,Grow.alloc _ _,⟨w.heap.size,rfl,av.base.size,Nat.le_trans hB av.base.size,by simp,by unfold maxLen; omega,by simpa using heap_alloc_new w _⟩⟩
  simp [execOp,e1,e2,hm]
end
open Rg in
theorem go_appX {P:Program}{Q:Exit→Act→World→Prop}{B N:Nat}{w0:Bs}{Γ:List (Nat × VA)}{Λ:List Lc}{a:Act}{w:World}{id:Nat}{ops:Array Oper}{sp:List Sp}(n:Nat)(src:List Nat)(i1 i2:Nat){S T1 T2:TypeId}{s u d e c0:Nat}{ps1 ps2:String}{af1 af2:Array Edge}{l r xs:List Nat}{A2:VA}{it:TypeInfo}
  (h:St B w0 N Γ Λ a w) (hob:Obs P Q ⟨ops,N,Γ,lesN Λ,sp,fun i=>List.range i⟩ B w0 0 n) (hn2:ops.size=n+2) (hk:Rg.chk ⟨ops,N,Γ,lesN Λ,sp,fun i=>List.range i⟩=true)
  (ho1:ops[n]?=some ⟨some d,.call ⟨.builtin .append,#[.tmp s,.tmp u],#[S,S]⟩,T1,ps1,af1,none⟩) (ho2:ops[n+1]?=some ⟨some e,.assign (.tmp d),T2,ps2,af2,none⟩)
  (hi1:i1<n) (h1:sp[i1]?=some (.val s (RowX w0.w.heap.size c0 l r))) (hi2:i2<n) (h2:sp[i2]?=some (.val u A2)) (hA2:∀ w u,A2.p B u w→Kept w0 w→(MgA xs).va.p B u w)
  (hS:P.underlying S=some (.slice U32)) (hi:P.info? U32=some it) (hsz:it.size=1) (hroom:xs.length≤r.length) (hde:(d != e)=true) (hd:d<N) (he:e<N)
  (hsrc:src.all (fun k=>match Γ[k]? with | some y => !y.2.deps.contains U32&&Rg.outG ⟨ops,N,Γ,lesN Λ,sp,fun i=>List.range i⟩ y.1 | none=>false)=true)
  (hΛ:Λ.all (fun l=>l.T != U32 && !l.A.deps.contains U32&&l.s != d&&l.s != e)=true)
  (hQ:∀ a w,St B w0 N ((e,RowX w0.w.heap.size c0 (l++xs) (r.drop xs.length))::src.filterMap (fun k=>Γ[k]?)) Λ a w→Q .normal a w):(Code.region id ops false).wp P Q a w:=by
 have hles0:∀ y∈lesN Λ,y.cr=none∧y.st=none∧(⟨y.s,y.T,y.H,y.A0⟩:Lc)∈Λ:=fun y hy=>by
  obtain ⟨l',hl',rfl⟩:=List.mem_map.1 hy
  exact ⟨rfl,rfl,hl'⟩
 refine Rg.linK (R:=⟨ops,N,Γ,lesN Λ,sp,fun i=>List.range i⟩) (m:=2) hn2 rfl hk h (fun y hy _=>(hles0 y hy).2.2) (fun i hi=>hob.all i zo zo) fun a1 w1 hinv=>?_
 have hcl:∀ deps,Rg.clash ⟨ops,N,Γ,lesN Λ,sp,fun i=>List.range i⟩ (fun k=>decide (k<n)) deps=false:=fun deps=>by
  unfold Rg.clash
  rw [List.any_eq_false]
  intro y hy
  rw [(hles0 y hy).2.1]
  simp
 have hv:=hinv.v i1 _ s _ h1 rfl (decide_eq_true hi1) (hcl _)
 have hu:=hA2 _ _ (hinv.v i2 _ u _ h2 rfl (decide_eq_true hi2) (hcl _)) hinv.base
 have hB:B≤w0.w.heap.size:=hinv.lo _ (.inl (Nat.le_refl _))
 obtain ⟨v',w',hr,r1,r2,r3,_⟩:=zpv (T1:=T1) hS hi hsz hroom hv hu
 have hdsz:d<a1.tmps.size:=by rw [hinv.size]; exact hd
 have hesz:e<(a1.put (some d) v').tmps.size:=by rw [zcd,hinv.size]; exact he
 have hne:d≠e:=by simpa using hde
 rw [List.range'_succ,wpOps_cons]
 refine zc9 (R:=⟨ops,N,Γ,lesN Λ,sp,fun i=>List.range i⟩) ho1 rfl (zbr (w':=w') (v:=v') (by simp [execOp,resolve,invoke,builtin,hr,Result.andThen]) ?_)
 rw [List.range'_succ,wpOps_cons]
 refine zc9 (R:=⟨ops,N,Γ,lesN Λ,sp,fun i=>List.range i⟩) ho2 rfl (zbr (w':=w') (v:=v') ?_ (hQ _ _ ?_))
 ·have:=zbe a1 d v' hdsz
  simp [execOp,this]
 ·have hother:∀ t,t≠d→t≠e→((a1.put (some d) v').put (some e) v').eval (.tmp t)=a1.eval (.tmp t):=fun t h3 h4=>by
   rw [zah _ _ _ _ h4,zah _ _ _ _ h3]
  have hlc:∀ l'∈Λ,l'.T≠U32∧U32 ∉ l'.A.deps∧l'.s≠d∧l'.s≠e:=fun l' hl'=>by
   have:=List.all_eq_true.1 hΛ l' hl'
   simp only [Bool.and_eq_true,bne_iff_ne,Bool.not_eq_true',List.contains_eq_mem,decide_eq_false_iff_not] at this
   exact ⟨this.1.1.1,this.1.1.2,this.1.2,this.2⟩
  have hcur:∀ l'∈Λ,(⟨l'.s,l'.T,l'.H,none,l'.A,none⟩:Le)∈lesN Λ:=fun l' hl'=>List.mem_map.2 ⟨l',hl',rfl⟩
  refine ⟨hinv.lo,hinv.defers.grown r2 r3 rfl,by rw [zcd,zcd]; exact hinv.size,?_,?_,?_,?_⟩
  ·exact ⟨r2.os.trans hinv.base.os,r2.tape.trans hinv.base.tape,r2.output.trans hinv.base.output,Nat.le_trans hinv.base.size r2.size,fun k hk hf =>
    (r2.block k (Nat.lt_of_lt_of_le hk hinv.base.size) (fun e=>by have:=(r3 k e.symm).1; omega)).trans (hinv.base.block k hk hf)⟩
  ·intro y hy
   rcases List.mem_cons.1 hy with rfl | hy
   ·show (RowX w0.w.heap.size c0 (l++xs) (r.drop xs.length)).p B (((a1.put (some d) v').put (some e) v').eval (.tmp e)) w'
    rw [zbe _ _ _ hesz]
    exact r1
   ·obtain ⟨k,hk1,hk2⟩:=List.mem_filterMap.1 hy
    have hs:=List.all_eq_true.1 hsrc k hk1
    simp only [hk2,Bool.and_eq_true,Bool.not_eq_true',List.contains_eq_mem,decide_eq_false_iff_not] at hs
    have hout:∀ q,q<ops.size→Rg.dst ⟨ops,N,Γ,lesN Λ,sp,fun i=>List.range i⟩ q≠some y.1:=fun q hq=>by
     have:=List.all_eq_true.1 hs.2 q (by simpa using hq)
     simpa using this
    have g1:y.1≠d:=fun e1=>hout n zo (by unfold Rg.dst; rw [ho1,e1]; rfl)
    have g2:y.1≠e:=fun e1=>hout (n+1) zo (by unfold Rg.dst; rw [ho2,e1]; rfl)
    rw [hother _ g1 g2]
    exact VA.grown (hinv.g y (List.mem_of_getElem? hk2) (fun q hq hdq=>absurd hdq (hout q hq)) (hcl _)) r2 r3 hB hs.1
  ·intro l' hl'
   obtain ⟨g1,g2,g3,g4⟩:=hlc l' hl'
   obtain ⟨g,cs,e1,e2,e3,e4⟩:=hinv.c _ (hcur l' hl') l'.A rfl
   refine ⟨g,cs,by rw [hother _ g3 g4]; exact e1,e2,?_,As.grown e4 r2 r3 hB g2⟩
   rw [r2.block g (Array.getElem?_eq_some_iff.1 e3).1 (fun e5=>by
    obtain ⟨_,c,fz,e6⟩:=r3 g e5.symm
    rw [e3] at e6
    injection e6 with e6
    injection e6 with _ e6 _
    exact g1 e6)]
   exact e3
  ·intro l1 hl1 l2 hl2 hne'
   obtain ⟨_,_,g3,g4⟩:=hlc l1 hl1
   obtain ⟨_,_,g5,g6⟩:=hlc l2 hl2
   rw [hother _ g3 g4,hother _ g5 g6]
   exact hinv.x _ (hcur l1 hl1) _ (hcur l2 hl2) hne' rfl rfl
def TwN (l:List Nat):As where
 n:=1
 ag:=false
 p B cs w:=okL l∧∃ g,cs=[.slice (some ⟨g,0,none⟩) l.length (l.length+1)]∧B≤g∧l.length+1≤maxLen∧w.heap[g]?=some (.cells ((l++[7777]).map fun (x:Nat)=>Value.int .u32 x).toArray U32 (0,0))
 deps:=[U32]
 len:=by rintro B cs w ⟨_,g,rfl,_⟩; rfl
 one:=by rintro B cs w ⟨_,g,rfl,_⟩ x hx; simp at hx; subst hx; rfl
 ag1:=fun _=>rfl
 cg:=by
  rintro B cs w w' hg ⟨h0,g,rfl,h1,h2,h3⟩
  exact ⟨h0,g,rfl,h1,h2,hg.heap h3⟩
 wr:=by
  rintro B cs w w' g c T fz hg hT hB hW ⟨h0,g',rfl,h1,h2,h3⟩
  refine ⟨h0,g',rfl,h1,h2,?_⟩
  rw [hW.block g' fun hh=>?_]
  ·exact h3
  ·subst hh
   rw [hg] at h3
   simp only [Option.some.injEq,Obj.cells.injEq] at h3
   exact hT (by simp [h3.2.1])
theorem zpm {l:List Nat}{B g:Nat}{w:World}(ok:okL l)(h2:l.length+1≤maxLen)(h3:w.heap[g]?=some (.cells ((l++[7777]).map fun (x:Nat)=>Value.int .u32 x).toArray U32 (0,0))):Mag B w (some ⟨g,0,none⟩) (l.length+1) (l++[7777]) :=
 Mag.own h3 (okL_append.2 ⟨ok,zff zd⟩) (by simp) h2 (fun j hj=>by rw [List.getElem?_toArray,List.getElem?_map,List.getElem?_eq_getElem hj]; rfl)
theorem free_twN (l:List Nat):FreeA (TwN l) (TwN l):=⟨rfl,rfl,fun B B' cs w hB h=>by
 obtain ⟨ok,g,e,h1,h2,h3⟩:=h
 exact ⟨ok,g,e,Nat.le_trans hB h1,h2,h3⟩⟩
def RIT (x:RI):As:=cat [BoA x.neg,TwN x.mag]
theorem zhm (x:RI):FreeA (RIT x) (RIT x):=zec (.cons (zg6 _) (.cons (free_twN _) .nil))
def SlK (v:Value)(h:v.oneCell'=true):As where
 n:=1
 ag:=false
 p _ cs _:=cs=[v]
 deps:=[]
 len:=by rintro B cs w rfl; rfl
 one:=by rintro B cs w rfl c hc; simp at hc; subst hc; exact h
 ag1:=fun _=>rfl
 cg:=fun _ _ _ _ _ h=>h
 wr:=fun _ _ _ _ _ _ _ _ _ _ _ _ h=>h
theorem eqv_slK {v:Value}{h:v.oneCell'=true}:Wk (EqV v) (SlK v h).va:=fun _ u _ e=>⟨[v],rfl,e⟩
theorem St.toRow {B N:Nat}{w0:Bs}{Γ:List (Nat × VA)}{Λ:List Lc}{a:Act}{w:World}(h:St B w0 N Γ Λ a w){s c:Nat}{l r:List Nat}(k:Nat)(hm:Γ[k]?=some (s,RowX w0.w.heap.size c l r))(hΛ:Λ.all (fun m=>m.T != U32)=true) :
  ∃ g,B≤g∧c=(l++r).length∧c≤maxLen∧St B w0 N (Γ.set k (s,EqV (.slice (some ⟨g,0,none⟩) l.length c))) (Λ++[⟨s,U32,slH l.length c,Nums .u32 (l++r)⟩]) a w:=by
 obtain ⟨g,hv,h2,h3,h4,h5,h6⟩:=h.vals _ (List.mem_of_getElem? hm)
 have hd:∀ m∈Λ,blk (a.eval (.tmp m.s))≠some g:=by
  intro m hm2 hh
  obtain ⟨g',cs,e1,_,e3,_⟩:=h.locs m hm2
  rw [e1,m.H.ok] at hh
  injection hh with hh
  subst hh
  rw [e3] at h6
  simp only [Option.some.injEq,Obj.cells.injEq] at h6
  have:=List.all_eq_true.1 hΛ m hm2
  simp [h6.2.1] at this
 have hv':a.eval (.tmp s)=.slice (some ⟨g,0,none⟩) l.length c:=hv
 have hg:blk (a.eval (.tmp s))=some g:=by rw [hv']; rfl
 refine ⟨g,h3,h4,h5,h.lo,h.defers,h.size,h.base,fun x hx=>?_,fun x hx=>?_,fun x hx y hy hne=>?_⟩
 ·rcases List.mem_or_eq_of_mem_set hx with hx | rfl
  ·exact h.vals x hx
  ·exact hv'
 ·rcases List.mem_append.1 hx with hx | hx
  ·exact h.locs x hx
  ·obtain rfl:=List.mem_singleton.1 hx
   exact ⟨g,_,hv',.inl h2,h6,rfl⟩
 ·rcases List.mem_append.1 hx with hx | hx <;> rcases List.mem_append.1 hy with hy | hy
  ·exact h.dis x hx y hy hne
  ·obtain rfl:=List.mem_singleton.1 hy
   rw [hg]; exact hd x hx
  ·obtain rfl:=List.mem_singleton.1 hx
   rw [hg]; exact fun e=>hd y hy e.symm
  ·obtain rfl:=List.mem_singleton.1 hx
   obtain rfl:=List.mem_singleton.1 hy
   exact absurd rfl hne
section
variable {P:Program} {R:Rg} {Q:Exit→Act→World→Prop} {B i:Nat} {w0:Bs}
theorem ob_appI {d s e g c:Nat}{cr:Option Nat}{l r xs:List Nat}{x y:Operand}{S ty:TypeId}{ps:String}{af:Array Edge}{it:TypeInfo}
  (hs:R.sp[i]?=some (.cal d (EqV (.slice (some ⟨g,0,none⟩) (l.length+xs.length) c)) e)) (he:R.les[e]?=some ⟨s,U32,slH l.length c,cr,Nums .u32 (l++r),some (i,Nums .u32 (l++xs++r.drop xs.length))⟩) (ho:R.ops[i]?=some ⟨some d,.call ⟨.builtin .append,#[x,y],#[S,S]⟩,ty,ps,af,none⟩)
  (hS:P.underlying S=some (.slice U32)) (hi:P.info? U32=some it) (hsz:it.size=1) (hroom:xs.length≤r.length) (hc:c=(l++r).length) (hmx:c≤maxLen) (hx:Has R B w0 i x (EqV (.slice (some ⟨g,0,none⟩) l.length c))) (hsl:Has R B w0 i (.tmp s) (EqV (.slice (some ⟨g,0,none⟩) l.length c))) (hy:Has R B w0 i y (MgA xs).va):R.Ob P Q B w0 i:=by
 unfold Rg.Ob
 simp only [hs,he]
 intro a w av g' cs h1 hB h3 h4 _ K hK
 have e1:a.eval x=_:=hx a w av
 have e2:a.eval (.tmp s)=.slice (some ⟨g,0,none⟩) l.length c:=hsl a w av
 have eg:g=g':=by
  rw [h1] at e2
  have:some g'=some g:=congrArg blk e2
  injection this with this
  exact this.symm
 subst eg
 have h4':cs=(l++r).map fun (x:Nat)=>Value.int .u32 x:=h4
 obtain ⟨v',w',hr,hX,hgr,_,hbk⟩:=zpv (P:=P) (S:=S) (T1:=ty) (b:=g) (c:=c) (B:=B) (l:=l) (r:=r) (xs:=xs) (w:=w) hS hi hsz hroom ⟨g,rfl,Nat.le_refl _,hB,hc,hmx,by rw [← h4']; exact h3⟩ (hy a w av)
 obtain ⟨g2,q1,_,_,q4,q5,q6⟩:=hX
 refine zc9 ho rfl (zbr (w':=w') (v:=v') (by simp [execOp,resolve,invoke,builtin,e1,hr,Result.andThen]) ?_)
 have eg2:g2=g:=by
  rw [q1] at hbk
  injection hbk
 subst eg2
 exact hK v' _ w' ⟨hgr.os,hgr.tape,hgr.output,hgr.size,fun k hk hf=>hgr.block k hk fun e=>hf (by injection e)⟩ q6 rfl (by rw [q1,List.length_append]; rfl)
end
end Go.Proofs.YthncfchnkjemiaaGreatDoor
namespace Go.Proofs.YthncfchnkjemiaaGreatDoor
open Go Go.RowKit
theorem oneK {g n c:Nat}:(Value.slice (some ⟨g,0,none⟩) n c).oneCell'=true:=rfl
theorem St.twin {B N:Nat}{w0:Bs}{Γ:List (Nat × VA)}{Λ:List Lc}{a:Act}{w:World}(h:St B w0 N Γ Λ a w){s s2 T2 g c:Nat}{H2:Hd}{b:Bool}{l:List Nat}(k e2 e3:Nat)(hm:Γ[k]?=some (s,EqV (.slice (some ⟨g,0,none⟩) l.length c)))(he2:Λ[e2]?=some ⟨s2,T2,H2,cat [BoA b,SlK (.slice (some ⟨g,0,none⟩) l.length c) oneK]⟩)
  (he3:Λ[e3]?=some ⟨s,U32,slH l.length c,Nums .u32 (l++[7777])⟩) (ok:okL l) (hc:c=l.length+1) (hcm:c≤maxLen) (hB:B≤g):St B w0 N Γ (Λ.set e2 ⟨s2,T2,H2,RIT ⟨b,l⟩⟩) a w:=by
 obtain ⟨g3,cs3,f1,_,f3,f4⟩:=h.locs _ (List.mem_of_getElem? he3)
 have f4':cs3=(l++[7777]).map fun (x:Nat)=>Value.int .u32 x:=f4
 have f5:a.eval (.tmp s)=.slice (some ⟨g,0,none⟩) l.length c:=h.vals _ (List.mem_of_getElem? hm)
 have eg:g=g3:=by
  rw [f5] at f1
  have:some g=some g3:=congrArg blk f1
  injection this
 subst eg
 rw [f4'] at f3
 have hset:∀ m∈Λ.set e2 ⟨s2,T2,H2,RIT ⟨b,l⟩⟩,m=⟨s2,T2,H2,RIT ⟨b,l⟩⟩∨m∈Λ:=fun m hm=>(List.mem_or_eq_of_mem_set hm).symm
 have hin:=List.mem_of_getElem? he2
 refine ⟨h.lo,h.defers,h.size,h.base,h.vals,fun m hm'=>?_,fun m hm1 m' hm2 hne=>?_⟩
 ·rcases hset m hm' with rfl | hm'
  ·obtain ⟨g2,cs,e1,e2',e3',e4⟩:=h.locs _ hin
   refine ⟨g2,cs,e1,e2',e3',?_⟩
   obtain ⟨ps,q1,q2⟩:=e4
   cases q2 with
   | cons q3 q2=>cases q2 with
    | cons q4 q2 =>
     refine ⟨_,q1,.cons q3 (.cons ?_ q2)⟩
     exact ⟨ok,g,by rw [← hc]; exact q4,hB,by rw [← hc]; exact hcm,f3⟩
  ·exact h.locs m hm'
 ·have key:∀ m∈Λ.set e2 ⟨s2,T2,H2,RIT ⟨b,l⟩⟩,∃ m'∈Λ,m'.s=m.s:=fun m hm=>by
   rcases hset m hm with rfl | hm
   ·exact ⟨_,hin,rfl⟩
   ·exact ⟨m,hm,rfl⟩
  obtain ⟨p,p1,p2⟩:=key m hm1
  obtain ⟨p',p3,p4⟩:=key m' hm2
  rw [← p2,← p4]
  exact h.dis p p1 p' p3 (by rw [p2,p4]; exact hne)
theorem drop_rep (n:Nat):(List.replicate (n+1) 0).drop n=[0]:=by rw [List.drop_replicate,Nat.add_sub_cancel_left]; rfl
theorem zmx (x:RI)(hx:x.mag.length≤1000000000000):Cn Tryz.prog 157 [(RIA x).va] ((RIT x).va):=by
 obtain ⟨it,z,e1,e2,e3,e4,e5⟩:=zk8
 refine Cn.introW Tryz.func157 rfl zk nq (.cons (zmu _).va .nil) (zhm _).va (fun B w0 a hB0 hst=>?_)
 have hst:St B w0 23 [(0,(RIO x).va)] [] a w0.w:=hst
 have hok:okL x.mag:=(zi4 (wk_riO _ _ _ (hst.vals _ (zm 0 rfl)))).1
 refine wp_seq ?_
 refine gl (sts:=[]) (news:=[⟨1,24,ptrH,some 0,_,none⟩,⟨2,24,ptrH,some 1,_,none⟩]) (sp:=[.alc 0,.alc 1]) [] hst (oc (zak rfl rfl rfl (gq 0 rfl)) (oc (zas rfl rfl rfl (Str.zero zge)) o0)) (fun a w hst=>?_)
 have hst:St B w0 23 [] [⟨1,24,ptrH,_⟩,⟨2,24,ptrH,_⟩] a w:=hst
 refine zt<|gl (sts:=[none,none]) (news:=[]) (sp:=[.adr 4 1 (.some 1) True,.val 5 _,.val 6 _,.val 7 (In ((x.mag.length+1:Nat):Int)),.val 8 _,.val 3 _]) [.o 5] hst (oc (ob_a rfl rfl (zaa (lz0 0 rfl) zal)) (zv rfl (za4 0 rfl zk trivial (lz0 0 rfl) (Sub.part 1 rfl rfl) zbg) (zv rfl (zaz Tryz.underlying22 (zb2 (vq 1 rfl))) (zv rfl (zbl (vq 2 rfl) za3 (zbo zo)) (zv rfl (r_make0 zg0 (Nat.le_of_eq hB0) za3 (vq 3 rfl) zo) (zv rfl (za1 (vq 4 rfl)) o0)))))) (fun a w hst=>?_)
 have hst:St B w0 23 [(3,_)] [⟨1,24,ptrH,_⟩,⟨2,24,ptrH,_⟩] a w:=hst
 refine zt<|go_appX (sp:=[.val 9 _,.adr 10 1 (.some 1) True,.val 11 _,.val 12 VT,.val 3 VT]) 3 [] 0 2 hst (zv rfl (za2 (gq 0 rfl)) (oc (ob_a rfl rfl (zaa (lz0 0 rfl) zal)) (zv rfl (za4 1 rfl zk trivial (lz0 0 rfl) (Sub.part 1 rfl rfl) zbg) o0))) rfl zk rfl rfl zd rfl zd rfl (xs:=x.mag) (fun w u h k=>zh3 _ _ _ h) Tryz.underlying22 e1 e3 (by simp) zk nq nq zk zk (fun a w hst=>?_)
 have hst:=St.wkG (A':=RowX w0.w.heap.size (x.mag.length+1) x.mag [0]) hst 0 rfl (zbz (by rw [drop_rep]; rfl))
 have hst:St B w0 23 [(3,_)] [⟨1,24,ptrH,_⟩,⟨2,24,ptrH,_⟩] a w:=hst
 refine zt ?_
 obtain ⟨g,hBg,hce,hcm,hst⟩:=St.toRow hst 0 rfl rfl
 refine zay (anc:=[[],[0],[],[],[2,3],[],[5],[5,6],[2,3,4,5,6,7],[0,1,2,3,4,5,6,7,8],[0,1,2,3,4,5,6,7,8,9]]) (sts:=[none,some (10,_),some (4,_)]) (news:=[]) (sp:=[.adr 13 1 (.some 0) True,.val 14 _,.val 15 _,.val 16 _,.cal 17 (EqV (.slice (some ⟨g,0,none⟩) (x.mag.length+[7777].length) (x.mag.length+1))) 2,.adr 18 1 (.some 1) True,.val 19 _,.val 20 _,.val 21 (EqV (.slice (some ⟨g,0,none⟩) x.mag.length (x.mag.length+1))),.val 22 _,.sto 1]) [.g 0] za7 hst (oc (ob_a rfl rfl (zaa (lz0 0 rfl) zbd)) (zv rfl (za4 0 rfl zk trivial (lz0 0 rfl) (Sub.part 0 rfl rfl) ty_4) (zv rfl (za2 (gq 0 rfl)) (zv rfl (ze5 (l:=[_]) (xs:=[.const (.int .u32 (7777))]) zbi zk nq nq (zff zd) (.cons (zav 7777 rfl) .nil) rfl rfl) (oc (ob_appI (l:=x.mag) (r:=[0]) (xs:=[7777]) rfl rfl rfl Tryz.underlying22 e1 e3 zd hce hcm (vq 2 rfl) (gq 0 rfl) (vq 3 rfl)) (oc (ob_a rfl rfl (zaa (lz0 0 rfl) zal)) (zv rfl (za4 5 rfl zk trivial (lz0 0 rfl) (Sub.part 1 rfl rfl) zbg) (zv rfl (zaz Tryz.underlying22 (zb2 (vq 6 rfl))) (zv rfl (zul zbi (zhl 4 rfl zk zk) (vq 7 rfl) ⟨by omega,by omega⟩) (zv rfl (zbb (xs:=[(0,.tmp 14),(1,.tmp 21)]) (qs:=[(0,_),(1,SlK (.slice (some ⟨g,0,none⟩) x.mag.length (x.mag.length+1)) oneK)]) zge (.cons ⟨rfl,(vq 1 rfl),rfl⟩ (.cons ⟨rfl,has_wk' (vq 8 rfl) (eqv_slK (h:=oneK)),rfl⟩ .nil))) (oc (zag rfl rfl rfl (vq 9 rfl) zac (Eq.trans (b:=2) rfl rfl)) o0))))))))))) zk zk zk zk (fun a w hst=>?_)
 have hst:St B w0 23 [(3,_)] [⟨1,24,ptrH,_⟩,⟨2,24,ptrH,_⟩,⟨3,168,slH _ _,_⟩] a w:=hst
 have hst:=St.wkL (A:=Nums .u32 (x.mag++[7777]++[])) (A':=Nums .u32 (x.mag++[7777])) hst 2 rfl (zmp (by rw [List.append_nil]))
 have hst:=St.twin hst 0 1 2 rfl rfl rfl hok (by simp at hce; omega) hcm hBg
 refine za0 ?_
 refine wp_ret ?_
 refine zan ?_ (zao rfl hst (zm 1 rfl) zac)
 exact zbt
end Go.Proofs.YthncfchnkjemiaaGreatDoor
namespace Go.Proofs.YthncfchnkjemiaaGreatDoor
open Go Go.RowKit
def RFT (x:RF):As:=cat [RIT x.num,RIT x.den]
section
variable {P:Program} {R:Rg} {Q:Exit→Act→World→Prop} {B i:Nat} {w0:Bs}
end
def bdF (x:RF):Prop:=x.num.mag.length≤1000000000000∧x.den.mag.length≤1000000000000
def RMT (x:RM):As:=cat [RFT x.a,RFT x.b,RFT x.c,RFT x.d]
end Go.Proofs.YthncfchnkjemiaaGreatDoor
