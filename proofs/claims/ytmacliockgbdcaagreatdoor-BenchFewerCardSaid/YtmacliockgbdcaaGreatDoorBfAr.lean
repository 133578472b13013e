import Derived.Test.YtmacliockgbdcaaGreatDoorBfAa
import Derived.Test.YtmacliockgbdcaaGreatDoorBfAc
import Derived.Test.YtmacliockgbdcaaGreatDoorBfAj
import Derived.Test.YtmacliockgbdcaaGreatDoorBfAp
import Derived.Test.YtmacliockgbdcaaGreatDoorBfAq
import Derived.Laws.AppendOwn
import Derived.Laws.OwnMore
import Derived.Orders
set_option linter.unusedVariables false
set_option linter.unusedSimpArgs false
set_option linter.unusedSectionVars false
set_option maxRecDepth 100000
namespace Go.Proofs.YtmacliockgbdcaaGreatDoor
open Go Go.RowKit
def RowX (b c:Nat)(l r:List Nat):VA where
 p B v w:=∃ g,v=.slice (some ⟨g,0,none⟩) l.length c∧b≤g∧B≤g∧c=(l++r).length∧c≤maxLen∧w.heap[g]?=some (.cells ((l++r).map fun (x:Nat)=>Value.int .u32 x).toArray U32 (0,0))
 deps:=[U32]
 cg:=by
  rintro B v w w' hg ⟨g,h1,h2,h3,h4,h5,h6⟩
  exact ⟨g,h1,h2,h3,h4,h5,hg.heap h6⟩
 wr:=by
  rintro B v w w' g c T fz hg hT hB hW ⟨g',h1,h2,h3,h4,h5,h6⟩
  refine ⟨g',h1,h2,h3,h4,h5,?_⟩
  rw [hW.block g' fun hh=>?_]
  ·exact h6
  ·subst hh
   rw [hg] at h6
   simp only [Option.some.injEq,Obj.cells.injEq] at h6
   exact hT (by simp [h6.2.1])
theorem Am {b c B:Nat}{l r:List Nat}{v:Value}{w:World}(h:(RowX b c l r).p B v w):RowOk w b U32 v.ownBlock:=by
 obtain ⟨g,rfl,h2,_,_,_,h6⟩:=h
 intro g' e
 have e':g=g':=by injection e
 subst e'
 exact ⟨h2,_,_,h6⟩
theorem qP {w:World}{g:Nat}(cs:Array Value):w.grownBy (w.setRow g cs) (some g):=by
 have h:=Wr.setRow w g cs
 exact ⟨h.os,h.tape,h.output,by rw [h.size]; exact Nat.le_refl _,fun k _ hk=>h.block k fun e=>hk (by rw [e])⟩
theorem oR {P:Program}{S T1:TypeId}{b c B:Nat}{l r xs:List Nat}{w:World}{v u:Value}{it:TypeInfo}(hS:P.underlying S=some (.slice U32))(hi:P.info? U32=some it)(hsz:it.size=1)(hroom:xs.length≤r.length)
  (hv:(RowX b c l r).p B v w) (hu:(MgA xs).va.p B u w) :
  ∃ v' w',(Builtin.append_ #[S,S] T1 #[v,u]).run P w=.ok v' w'∧(RowX b c (l++xs) (r.drop xs.length)).p B v' w'∧w.grownBy w' v.ownBlock∧RowOk w b U32 v.ownBlock∧blk v'=blk v:=by
 have hro:=Am hv
 obtain ⟨g,rfl,h2,hBg,h4,h5,h6⟩:=hv
 obtain ⟨A,c',rfl,hm⟩:=fL hu
 have hlen:l.length+xs.length≤c:=by rw [h4,List.length_append]; omega
 have fin:(RowX b c (l++xs) (r.drop xs.length)).p B (.slice (some ⟨g,0,none⟩) (l.length+xs.length) c) (w.setRow g (((l++xs)++r.drop xs.length).map fun (x:Nat)=>Value.int .u32 x).toArray) :=
  ⟨g,by rw [List.length_append],h2,hBg,by rw [h4]; simp only [List.length_append,List.length_drop]; omega,h5,setRow_heap w g _ _ _ _ h6⟩
 cases A with
 | none =>
  have hx:xs=[]:=by
   apply List.eq_nil_of_length_eq_zero
   apply Decidable.byContradiction
   intro hn
   obtain ⟨_,_,e,_⟩:=hm.at_ zo
   cases e
  subst hx
  have hown:w.ownsRow b U32 1 (.slice (some ⟨g,0,none⟩) l.length c) l.length (l.map fun (x:Nat)=>Value.int .u32 x):=⟨by simp,.inr ⟨g,c,_,rfl,h2,h6,by omega,h5,by simp [h4],by simp⟩⟩
  refine ⟨_,w,gW b S T1 U32 it 1 hS hi _ _ c' _ hown,⟨g,by simp,h2,hBg,by simpa using h4,h5,by simpa using h6⟩,⟨rfl,rfl,rfl,Nat.le_refl _,fun _ _ _=>rfl⟩,hro,rfl⟩
 | some ad =>
  have hnew:∀ j u,(xs.map fun (x:Nat)=>Value.int .u32 x)[j]?=some u→w.cell? (ad.add j)=some u:=fun j u hj=>by
   have hjx:j<xs.length:=by have:=(List.getElem?_eq_some_iff.1 hj).1; simpa using this
   obtain ⟨b',o,e,_,_,h8⟩:=hm.at_ zo
   injection e with e
   subst e
   rw [jH,h8 j hjx]
   simpa [hjx] using hj
  have hr:=run_append_room (P:=P) w S T1 U32 it hS hi g l.length c _ h6 ad xs.length c' (xs.map fun (x:Nat)=>Value.int .u32 x) (by simp [hsz]) hnew (fun u hu=>by obtain ⟨_,_,rfl⟩:=List.mem_map.1 hu; rfl) hlen (by rw [hsz]; simp; omega)
  refine ⟨_,_,hr,?_,qP _,hro,rfl⟩
  have e:(((l++r).map fun (x:Nat)=>Value.int .u32 x).toArray.toList.take (l.length*it.size)++(xs.map fun (x:Nat)=>Value.int .u32 x)++((l++r).map fun (x:Nat)=>Value.int .u32 x).toArray.toList.drop (l.length*it.size+(xs.map fun (x:Nat)=>Value.int .u32 x).length))=((l++xs)++r.drop xs.length).map fun (x:Nat)=>Value.int .u32 x:=by
   rw [hsz]
   simp [List.drop_append,List.map_drop]
  rw [e]
  exact fin
section
variable {P:Program} {R:Rg} {Q:Exit→Act→World→Prop} {B i:Nat} {w0:Bs}
theorem AG {S:TypeId}{n:Nat}{x y:Operand}(hM:MakeOk P S U32 .u32)(hB:B≤w0.w.heap.size)(hx:Has R B w0 i x (In 0))(hy:Has R B w0 i y (In n))(hn:n≤17592186044416):Wv P Q R B w0 i (.makeSlice S x y) (RowX w0.w.heap.size n [] (List.replicate n 0)) :=
 bb fun d T ps af gd a w av=>by
  obtain ⟨h1,h2,h3,h4,h5⟩:=hM
  obtain ⟨it,hi,hz⟩:=Option.bind_eq_some_iff.1 h2
  have hsz:it.size=1:=by rw [hi] at h3; simpa using h3
  have hby:=h5 it hi
  have hm:=run_make (P:=P) w S U32 it (.int .u32 0) h1 hi hz .i64 .i64 0 n zo zo (by
   have:it.bytes*n≤8*n:=Nat.mul_le_mul_right _ hby
   have h6:((it.bytes*n:Nat):Int)≤281474976710656:=by omega
   rwa [Int.natCast_mul] at h6) zo
  have e1:=bj (hx a w av)
  have e2:=bj (hy a w av)
  have hcells:madeCells (Value.int .u32 0).cells (n*it.size)=((List.replicate n 0).map fun (x:Nat)=>Value.int .u32 x).toArray:=by
   rw [hsz,Nat.mul_one]
   apply Array.ext_getElem?
   intro j
   simp only [madeCells,Value.cells,List.map_replicate]
   by_cases hj:j<n
   ·simp [hj,Nat.mod_one]
   ·simp [hj]
  simp only [Int.toNat_natCast] at hm
  rw [hcells] at hm
  refine ⟨.slice (some ⟨w.heap.size,0,none⟩) 0 n,w.alloc (.cells ((List.replicate n 0).map fun (x:Nat)=>Value.int .u32 x).toArray U32),?_,Grow.alloc _ _,⟨w.heap.size,rfl,av.base.size,Nat.le_trans hB av.base.size,by simp,by unfold maxLen; omega,by simpa using heap_alloc_new w _⟩⟩
  simp [execOp,e1,e2,hm]
end
open Rg in
theorem BT {P:Program}{Q:Exit→Act→World→Prop}{B N:Nat}{w0:Bs}{Γ:List (Nat × VA)}{Λ:List Lc}{a:Act}{w:World}{id:Nat}{ops:Array Oper}{sp:List Sp}(n:Nat)(src:List Nat)(i1 i2:Nat){S T1 T2:TypeId}{s u d e c0:Nat}{ps1 ps2:String}{af1 af2:Array Edge}{l r xs:List Nat}{A2:VA}{it:TypeInfo}
  (h:St B w0 N Γ Λ a w) (hob:Obs P Q ⟨ops,N,Γ,lesN Λ,sp,fun i=>List.range i⟩ B w0 0 n) (hn2:ops.size=n+2) (hk:Rg.chk ⟨ops,N,Γ,lesN Λ,sp,fun i=>List.range i⟩=true)
  (ho1:ops[n]?=some ⟨some d,.call ⟨.builtin .append,#[.tmp s,.tmp u],#[S,S]⟩,T1,ps1,af1,none⟩) (ho2:ops[n+1]?=some ⟨some e,.assign (.tmp d),T2,ps2,af2,none⟩)
  (hi1:i1<n) (h1:sp[i1]?=some (.v s (RowX w0.w.heap.size c0 l r))) (hi2:i2<n) (h2:sp[i2]?=some (.v u A2)) (hA2:∀ w u,A2.p B u w→Kept w0 w→(MgA xs).va.p B u w)
  (hS:P.underlying S=some (.slice U32)) (hi:P.info? U32=some it) (hsz:it.size=1) (hroom:xs.length≤r.length) (hde:(d != e)=true) (hd:d<N) (he:e<N)
  (hsrc:src.all (fun k=>match Γ[k]? with | some y => !y.2.deps.contains U32&&Rg.outG ⟨ops,N,Γ,lesN Λ,sp,fun i=>List.range i⟩ y.1 | none=>false)=true)
  (hΛ:Λ.all (fun l=>l.T != U32 && !l.A.deps.contains U32&&l.s != d&&l.s != e)=true)
  (hQ:∀ a w,St B w0 N ((e,RowX w0.w.heap.size c0 (l++xs) (r.drop xs.length))::src.filterMap (fun k=>Γ[k]?)) Λ a w→Q .normal a w):(Code.region id ops false).wp P Q a w:=by
 have hles0:∀ y∈lesN Λ,y.cr=none∧y.st=none∧(⟨y.s,y.T,y.H,y.A0⟩:Lc)∈Λ:=fun y hy=>by
  obtain ⟨l',hl',rfl⟩:=List.mem_map.1 hy
  exact ⟨rfl,rfl,hl'⟩
 refine Rg.linK (R:=⟨ops,N,Γ,lesN Λ,sp,fun i=>List.range i⟩) (m:=2) hn2 G hk h (fun y hy _=>(hles0 y hy).2.2) (fun i hi=>hob.all i zo zo) fun a1 w1 hinv=>?_
 have hcl:∀ deps,Rg.clash ⟨ops,N,Γ,lesN Λ,sp,fun i=>List.range i⟩ (fun k=>decide (k<n)) deps=false:=fun deps=>by
  unfold Rg.clash
  rw [List.any_eq_false]
  intro y hy
  rw [(hles0 y hy).2.1]
  simp
 have hv:=hinv.v i1 _ s _ h1 rfl (decide_eq_true hi1) (hcl _)
 have hu:=hA2 _ _ (hinv.v i2 _ u _ h2 rfl (decide_eq_true hi2) (hcl _)) hinv.base
 have hB:B≤w0.w.heap.size:=hinv.lo _ (.inl (Nat.le_refl _))
 obtain ⟨v',w',hr,r1,r2,r3,_⟩:=oR (T1:=T1) hS hi hsz hroom hv hu
 have hdsz:d<a1.tmps.size:=by rw [hinv.size]; exact hd
 have hesz:e<(a1.put (some d) v').tmps.size:=by rw [bu,hinv.size]; exact he
 have hne:d≠e:=by simpa using hde
 rw [List.range'_succ,wpOps_cons]
 refine bv (R:=⟨ops,N,Γ,lesN Λ,sp,fun i=>List.range i⟩) ho1 G (ba (w':=w') (v:=v') (by simp [execOp,resolve,invoke,builtin,hr,Result.andThen]) ?_)
 rw [List.range'_succ,wpOps_cons]
 refine bv (R:=⟨ops,N,Γ,lesN Λ,sp,fun i=>List.range i⟩) ho2 G (ba (w':=w') (v:=v') ?_ (hQ _ _ ?_))
 ·have:=aM a1 d v' hdsz
  simp [execOp,this]
 ·have hother:∀ t,t≠d→t≠e→((a1.put (some d) v').put (some e) v').eval (.tmp t)=a1.eval (.tmp t):=fun t h3 h4=>by
   rw [aj _ _ _ _ h4,aj _ _ _ _ h3]
  have hlc:∀ l'∈Λ,l'.T≠U32∧U32 ∉ l'.A.deps∧l'.s≠d∧l'.s≠e:=fun l' hl'=>by
   have:=List.all_eq_true.1 hΛ l' hl'
   simp only [Bool.and_eq_true,bne_iff_ne,Bool.not_eq_true',List.contains_eq_mem,decide_eq_false_iff_not] at this
   exact ⟨this.1.1.1,this.1.1.2,this.1.2,this.2⟩
  have hcur:∀ l'∈Λ,(⟨l'.s,l'.T,l'.H,none,l'.A,none⟩:Le)∈lesN Λ:=fun l' hl'=>List.mem_map.2 ⟨l',hl',rfl⟩
  refine ⟨hinv.lo,hinv.defers.grown r2 r3 rfl,by rw [bu,bu]; exact hinv.size,?_,?_,?_,?_⟩
  ·exact ⟨r2.os.trans hinv.base.os,r2.tape.trans hinv.base.tape,r2.output.trans hinv.base.output,Nat.le_trans hinv.base.size r2.size,fun k hk hf =>
    (r2.block k (Nat.lt_of_lt_of_le hk hinv.base.size) (fun e=>by have:=(r3 k e.symm).1; omega)).trans (hinv.base.block k hk hf)⟩
  ·intro y hy
   rcases List.mem_cons.1 hy with rfl | hy
   ·show (RowX w0.w.heap.size c0 (l++xs) (r.drop xs.length)).p B (((a1.put (some d) v').put (some e) v').eval (.tmp e)) w'
    rw [aM _ _ _ hesz]
    exact r1
   ·obtain ⟨k,hk1,hk2⟩:=List.mem_filterMap.1 hy
    have hs:=List.all_eq_true.1 hsrc k hk1
    simp only [hk2,Bool.and_eq_true,Bool.not_eq_true',List.contains_eq_mem,decide_eq_false_iff_not] at hs
    have hout:∀ q,q<ops.size→Rg.dst ⟨ops,N,Γ,lesN Λ,sp,fun i=>List.range i⟩ q≠some y.1:=fun q hq=>by
     have:=List.all_eq_true.1 hs.2 q (by simpa using hq)
     simpa using this
    have g1:y.1≠d:=fun e1=>hout n zo (by unfold Rg.dst; rw [ho1,e1]; rfl)
    have g2:y.1≠e:=fun e1=>hout (n+1) zo (by unfold Rg.dst; rw [ho2,e1]; rfl)
    rw [hother _ g1 g2]
    exact VA.grown (hinv.g y (List.mem_of_getElem? hk2) (fun q hq hdq=>absurd hdq (hout q hq)) (hcl _)) r2 r3 hB hs.1
  ·intro l' hl'
   obtain ⟨g1,g2,g3,g4⟩:=hlc l' hl'
   obtain ⟨g,cs,e1,e2,e3,e4⟩:=hinv.c _ (hcur l' hl') l'.A rfl
   refine ⟨g,cs,by rw [hother _ g3 g4]; exact e1,e2,?_,As.grown e4 r2 r3 hB g2⟩
   rw [r2.block g (Array.getElem?_eq_some_iff.1 e3).1 (fun e5=>by
    obtain ⟨_,c,fz,e6⟩:=r3 g e5.symm
    rw [e3] at e6
    injection e6 with e6
    injection e6 with _ e6 _
    exact g1 e6)]
   exact e3
  ·intro l1 hl1 l2 hl2 hne'
   obtain ⟨_,_,g3,g4⟩:=hlc l1 hl1
   obtain ⟨_,_,g5,g6⟩:=hlc l2 hl2
   rw [hother _ g3 g4,hother _ g5 g6]
   exact hinv.x _ (hcur l1 hl1) _ (hcur l2 hl2) hne' G rfl
def TwN (l:List Nat):As where
 n:=1
 ag:=false
 p B cs w:=okL l∧∃ g,cs=[.slice (some ⟨g,0,none⟩) l.length (l.length+1)]∧B≤g∧l.length+1≤maxLen∧w.heap[g]?=some (.cells ((l++[7777]).map fun (x:Nat)=>Value.int .u32 x).toArray U32 (0,0))
 deps:=[U32]
 len:=by rintro B cs w ⟨_,g,rfl,_⟩; rfl
 one:=by rintro B cs w ⟨_,g,rfl,_⟩ x hx; simp at hx; subst hx; rfl
 ag1:=fun _=>rfl
 cg:=by
  rintro B cs w w' hg ⟨h0,g,rfl,h1,h2,h3⟩
  exact ⟨h0,g,rfl,h1,h2,hg.heap h3⟩
 wr:=by
  rintro B cs w w' g c T fz hg hT hB hW ⟨h0,g',rfl,h1,h2,h3⟩
  refine ⟨h0,g',rfl,h1,h2,?_⟩
  rw [hW.block g' fun hh=>?_]
  ·exact h3
  ·subst hh
   rw [hg] at h3
   simp only [Option.some.injEq,Obj.cells.injEq] at h3
   exact hT (by simp [h3.2.1])
theorem oE {l:List Nat}{B g:Nat}{w:World}(ok:okL l)(h2:l.length+1≤maxLen)(h3:w.heap[g]?=some (.cells ((l++[7777]).map fun (x:Nat)=>Value.int .u32 x).toArray U32 (0,0))):Mag B w (some ⟨g,0,none⟩) (l.length+1) (l++[7777]) :=
 Mag.own h3 (okL_append.2 ⟨ok,ew zd⟩) (by simp) h2 (fun j hj=>by rw [List.getElem?_toArray,List.getElem?_map,List.getElem?_eq_getElem hj]; rfl)
theorem vo {l:List Nat}:Wk (TwN l).va (MgA l).va:=fun B v w ⟨cs,⟨ok,g,e,h1,h2,h3⟩,hv⟩=>by
 subst e
 have e2:v=.slice (some ⟨g,0,none⟩) l.length (l.length+1):=hv
 subst e2
 have:=dW ((oE (B:=B) ok h2 h3).take l.length) (n:=l.length) (by simp)
 rwa [List.take_left] at this
theorem wZ (l:List Nat):FreeA (TwN l) (TwN l):=⟨rfl,rfl,fun B B' cs w hB h=>by
 obtain ⟨ok,g,e,h1,h2,h3⟩:=h
 exact ⟨ok,g,e,Nat.le_trans hB h1,h2,h3⟩⟩
def RIT (x:RI):As:=cat [BoA x.neg,TwN x.mag]
theorem eE (x:RI):FreeA (RIT x) (RIT x):=ci (.cons (eF _) (.cons (wZ _) .nil))
def SlK (v:Value)(h:v.oneCell'=true):As where
 n:=1
 ag:=false
 p _ cs _:=cs=[v]
 deps:=[]
 len:=by rintro B cs w rfl; rfl
 one:=by rintro B cs w rfl c hc; simp at hc; subst hc; exact h
 ag1:=fun _=>rfl
 cg:=fun _ _ _ _ _ h=>h
 wr:=fun _ _ _ _ _ _ _ _ _ _ _ _ h=>h
theorem Cb {v:Value}{h:v.oneCell'=true}:Wk (EqV v) (SlK v h).va:=fun _ u _ e=>⟨[v],rfl,e⟩
theorem St.toRow {B N:Nat}{w0:Bs}{Γ:List (Nat × VA)}{Λ:List Lc}{a:Act}{w:World}(h:St B w0 N Γ Λ a w){s c:Nat}{l r:List Nat}(k:Nat)(hm:Γ[k]?=some (s,RowX w0.w.heap.size c l r))(hΛ:Λ.all (fun m=>m.T != U32)=true) :
  ∃ g,B≤g∧c=(l++r).length∧c≤maxLen∧St B w0 N (Γ.set k (s,EqV (.slice (some ⟨g,0,none⟩) l.length c))) (Λ++[⟨s,U32,slH l.length c,Nums .u32 (l++r)⟩]) a w:=by
 obtain ⟨g,hv,h2,h3,h4,h5,h6⟩:=h.vals _ (List.mem_of_getElem? hm)
 have hd:∀ m∈Λ,blk (a.eval (.tmp m.s))≠some g:=by
  intro m hm2 hh
  obtain ⟨g',cs,e1,_,e3,_⟩:=h.locs m hm2
  rw [e1,m.H.ok] at hh
  injection hh with hh
  subst hh
  rw [e3] at h6
  simp only [Option.some.injEq,Obj.cells.injEq] at h6
  have:=List.all_eq_true.1 hΛ m hm2
  simp [h6.2.1] at this
 have hv':a.eval (.tmp s)=.slice (some ⟨g,0,none⟩) l.length c:=hv
 have hg:blk (a.eval (.tmp s))=some g:=by rw [hv']; rfl
 refine ⟨g,h3,h4,h5,h.lo,h.defers,h.size,h.base,fun x hx=>?_,fun x hx=>?_,fun x hx y hy hne=>?_⟩
 ·rcases List.mem_or_eq_of_mem_set hx with hx | rfl
  ·exact h.vals x hx
  ·exact hv'
 ·rcases List.mem_append.1 hx with hx | hx
  ·exact h.locs x hx
  ·obtain rfl:=List.mem_singleton.1 hx
   exact ⟨g,_,hv',.inl h2,h6,rfl⟩
 ·rcases List.mem_append.1 hx with hx | hx <;> rcases List.mem_append.1 hy with hy | hy
  ·exact h.dis x hx y hy hne
  ·obtain rfl:=List.mem_singleton.1 hy
   rw [hg]; exact hd x hx
  ·obtain rfl:=List.mem_singleton.1 hx
   rw [hg]; exact fun e=>hd y hy e.symm
  ·obtain rfl:=List.mem_singleton.1 hx
   obtain rfl:=List.mem_singleton.1 hy
   exact absurd G hne
section
variable {P:Program} {R:Rg} {Q:Exit→Act→World→Prop} {B i:Nat} {w0:Bs}
theorem B9 {d s e g c:Nat}{cr:Option Nat}{l r xs:List Nat}{x y:Operand}{S ty:TypeId}{ps:String}{af:Array Edge}{it:TypeInfo}
  (hs:R.sp[i]?=some (.cal d (EqV (.slice (some ⟨g,0,none⟩) (l.length+xs.length) c)) e)) (he:R.les[e]?=some ⟨s,U32,slH l.length c,cr,Nums .u32 (l++r),some (i,Nums .u32 (l++xs++r.drop xs.length))⟩) (ho:R.ops[i]?=some ⟨some d,.call ⟨.builtin .append,#[x,y],#[S,S]⟩,ty,ps,af,none⟩)
  (hS:P.underlying S=some (.slice U32)) (hi:P.info? U32=some it) (hsz:it.size=1) (hroom:xs.length≤r.length) (hc:c=(l++r).length) (hmx:c≤maxLen) (hx:Has R B w0 i x (EqV (.slice (some ⟨g,0,none⟩) l.length c))) (hsl:Has R B w0 i (.tmp s) (EqV (.slice (some ⟨g,0,none⟩) l.length c))) (hy:Has R B w0 i y (MgA xs).va):R.Ob P Q B w0 i:=by
 unfold Rg.Ob
 simp only [hs,he]
 intro a w av g' cs h1 hB h3 h4 _ K hK
 have e1:a.eval x=_:=hx a w av
 have e2:a.eval (.tmp s)=.slice (some ⟨g,0,none⟩) l.length c:=hsl a w av
 have eg:g=g':=by
  rw [h1] at e2
  have:some g'=some g:=congrArg blk e2
  injection this with this
  exact this.symm
 subst eg
 have h4':cs=(l++r).map fun (x:Nat)=>Value.int .u32 x:=h4
 obtain ⟨v',w',hr,hX,hgr,_,hbk⟩:=oR (P:=P) (S:=S) (T1:=ty) (b:=g) (c:=c) (B:=B) (l:=l) (r:=r) (xs:=xs) (w:=w) hS hi hsz hroom ⟨g,rfl,Nat.le_refl _,hB,hc,hmx,by rw [← h4']; exact h3⟩ (hy a w av)
 obtain ⟨g2,q1,_,_,q4,q5,q6⟩:=hX
 refine bv ho G (ba (w':=w') (v:=v') (by simp [execOp,resolve,invoke,builtin,e1,hr,Result.andThen]) ?_)
 have eg2:g2=g:=by
  rw [q1] at hbk
  injection hbk
 subst eg2
 exact hK v' _ w' ⟨hgr.os,hgr.tape,hgr.output,hgr.size,fun k hk hf=>hgr.block k hk fun e=>hf (by injection e)⟩ q6 G (by rw [q1,List.length_append]; rfl)
end
theorem oneK {g n c:Nat}:(Value.slice (some ⟨g,0,none⟩) n c).oneCell'=true:=rfl
theorem St.twin {B N:Nat}{w0:Bs}{Γ:List (Nat × VA)}{Λ:List Lc}{a:Act}{w:World}(h:St B w0 N Γ Λ a w){s s2 T2 g c:Nat}{H2:Hd}{b:Bool}{l:List Nat}(k e2 e3:Nat)(hm:Γ[k]?=some (s,EqV (.slice (some ⟨g,0,none⟩) l.length c)))(he2:Λ[e2]?=some ⟨s2,T2,H2,cat [BoA b,SlK (.slice (some ⟨g,0,none⟩) l.length c) oneK]⟩)
  (he3:Λ[e3]?=some ⟨s,U32,slH l.length c,Nums .u32 (l++[7777])⟩) (ok:okL l) (hc:c=l.length+1) (hcm:c≤maxLen) (hB:B≤g):St B w0 N Γ (Λ.set e2 ⟨s2,T2,H2,RIT ⟨b,l⟩⟩) a w:=by
 obtain ⟨g3,cs3,f1,_,f3,f4⟩:=h.locs _ (List.mem_of_getElem? he3)
 have f4':cs3=(l++[7777]).map fun (x:Nat)=>Value.int .u32 x:=f4
 have f5:a.eval (.tmp s)=.slice (some ⟨g,0,none⟩) l.length c:=h.vals _ (List.mem_of_getElem? hm)
 have eg:g=g3:=by
  rw [f5] at f1
  have:some g=some g3:=congrArg blk f1
  injection this
 subst eg
 rw [f4'] at f3
 have hset:∀ m∈Λ.set e2 ⟨s2,T2,H2,RIT ⟨b,l⟩⟩,m=⟨s2,T2,H2,RIT ⟨b,l⟩⟩∨m∈Λ:=fun m hm=>(List.mem_or_eq_of_mem_set hm).symm
 have hin:=List.mem_of_getElem? he2
 refine ⟨h.lo,h.defers,h.size,h.base,h.vals,fun m hm'=>?_,fun m hm1 m' hm2 hne=>?_⟩
 ·rcases hset m hm' with rfl | hm'
  ·obtain ⟨g2,cs,e1,e2',e3',e4⟩:=h.locs _ hin
   refine ⟨g2,cs,e1,e2',e3',?_⟩
   obtain ⟨ps,q1,q2⟩:=e4
   cases q2 with
   | cons q3 q2=>cases q2 with
    | cons q4 q2 =>
     refine ⟨_,q1,.cons q3 (.cons ?_ q2)⟩
     exact ⟨ok,g,by rw [← hc]; exact q4,hB,by rw [← hc]; exact hcm,f3⟩
  ·exact h.locs m hm'
 ·have key:∀ m∈Λ.set e2 ⟨s2,T2,H2,RIT ⟨b,l⟩⟩,∃ m'∈Λ,m'.s=m.s:=fun m hm=>by
   rcases hset m hm with rfl | hm
   ·exact ⟨_,hin,rfl⟩
   ·exact ⟨m,hm,rfl⟩
  obtain ⟨p,p1,p2⟩:=key m hm1
  obtain ⟨p',p3,p4⟩:=key m' hm2
  rw [← p2,← p4]
  exact h.dis p p1 p' p3 (by rw [p2,p4]; exact hne)
theorem xu (n:Nat):(List.replicate (n+1) 0).drop n=[0]:=by rw [List.drop_replicate,Nat.add_sub_cancel_left]; rfl
theorem lT (x:RI)(hx:x.mag.length≤1000000000000):Cn Tryz.prog 99 [(RIA x).va] ((RIT x).va):=by
 obtain ⟨it,z,e1,e2,e3,e4,e5⟩:=jt
 refine Cn.introW Tryz.func99 G zk nq (.cons (qj _).va .nil) (eE _).va (fun B w0 a hB0 U=>?_)
 have U:=zn [(0,(RIO x).va)] [] U
 have hok:okL x.mag:=(gF (D1 _ _ _ (U.vals _ (zm 0 rfl)))).1
 refine wp_seq<|zg [] [⟨1,25,ptrH,some 0,_,none⟩,⟨2,25,ptrH,some 1,_,none⟩] [.alc 0,.alc 1] [] U (oc (ay G G G (gq 0 G)) (oc (aJ G G G (Str.zero fj)) o0)) (zz [] [O 1 25 _,O 2 25 _] fun a w U=>?_)
 refine zt<|zg [none,none] [] [.adr 4 1 (.some 1) True,.v 5 _,.v 6 _,.v 7 (In ((x.mag.length+1:Nat):Int)),.v 8 _,.v 3 _] [.o 5] U (oc (ob_a G G (ac (lz0 0 G) au)) (zL 0 0 1 G aW (zv G (aI Tryz.underlying23 (aL (vq 1 G))) (zv G (aR (vq 2 G) a8 (aX zo)) (zv G (AG eI (Nat.le_of_eq hB0) a8 (vq 3 G) zo) (zA 4 G o0)))))) (zz [(3,_)] [O 1 25 _,O 2 25 _] fun a w U=>?_)
 refine zt<|BT (sp:=[.v 9 _,.adr 10 1 (.some 1) True,.v 11 _,.v 12 VT,.v 3 VT]) 3 [] 0 2 U (zM 0 G (oc (ob_a G G (ac (lz0 0 G) au)) (zL 1 0 1 G aW o0))) G zk G G zd G zd G (xs:=x.mag) (fun w u h k=>gV _ _ _ h) Tryz.underlying23 e1 e3 (by simp) zk nq nq zk zk (fun a w U=>?_)
 have U:=St.wkG (A':=RowX w0.w.heap.size (x.mag.length+1) x.mag [0]) U 0 rfl (bc (by rw [xu]; rfl))
 have U:=zn [(3,_)] [O 1 25 _,O 2 25 _] U
 refine zt ?_
 obtain ⟨g,hBg,hce,hcm,U⟩:=St.toRow U 0 rfl rfl
 refine zgd [[],[0],[],[],[2,3],[],[5],[5,6],[2,3,4,5,6,7],[0,1,2,3,4,5,6,7,8],[0,1,2,3,4,5,6,7,8,9]] [none,some (10,_),some (4,_)] [] [.adr 13 1 (.some 0) True,.v 14 _,.v 15 _,.v 16 _,.cal 17 (EqV (.slice (some ⟨g,0,none⟩) (x.mag.length+[7777].length) (x.mag.length+1))) 2,.adr 18 1 (.some 1) True,.v 19 _,.v 20 _,.v 21 (EqV (.slice (some ⟨g,0,none⟩) x.mag.length (x.mag.length+1))),.v 22 _,.sto 1] [.g 0] ab U (oc (ob_a G G (ac (lz0 0 G) aU)) (zL 0 0 0 G ty_4 (zM 0 G (zv G (da (l:=[_]) (xs:=[.const (.int .u32 (7777))]) aZ zk nq nq (ew zd) (.cons (aF 7777 G) .nil) G G) (oc (B9 (l:=x.mag) (r:=[0]) (xs:=[7777]) G G G Tryz.underlying23 e1 e3 zd hce hcm (vq 2 G) (gq 0 G) (vq 3 G)) (oc (ob_a G G (ac (lz0 0 G) au)) (zL 5 0 1 G aW (zv G (aI Tryz.underlying23 (aL (vq 6 G))) (zv G (sz aZ (BM 4 G zk zk) (vq 7 G) ⟨by omega,by omega⟩) (zv G (bi (xs:=[(0,.tmp 14),(1,.tmp 21)]) (qs:=[(0,_),(1,SlK (.slice (some ⟨g,0,none⟩) x.mag.length (x.mag.length+1)) oneK)]) fj (.cons ⟨rfl,(vq 1 G),rfl⟩ (.cons ⟨rfl,has_wk' (vq 8 G) (Cb (h:=oneK)),rfl⟩ .nil))) (oc (aA G G G (vq 9 G) al (Eq.trans (b:=2) G G)) o0))))))))))) zk zk zk zk (zz [(3,_)] [O 1 25 _,O 2 25 _,⟨3,109,slH _ _,_⟩] fun a w U=>?_)
 have U:=St.wkL (A:=Nums .u32 (x.mag++[7777]++[])) (A':=Nums .u32 (x.mag++[7777])) U 2 rfl (jJ (by rw [List.append_nil]))
 have U:=St.twin U 0 1 2 rfl rfl rfl hok (by simp at hce; omega) hcm hBg
 refine a7<|wp_ret<|ar ?_ (az G U (zm 1 G) al)
 exact bh
def RFT (x:RF):As:=cat [RIT x.num,RIT x.den]
theorem zi {l:List Nat}:WkA (TwN l) (MgA l):=⟨rfl,rfl,fun B cs w h=>by
 obtain ⟨cs',h1,h2⟩:=vo B (shape false cs) w ⟨cs,h,rfl⟩
 have l1:=(TwN l).len _ _ _ h
 have l2:=(MgA l).len _ _ _ h1
 match cs,cs',l1,l2 with
 | [c],[c'],_,_ =>
  have e:c=c':=h2
  subst e
  exact h1⟩
theorem wkA_rit {x:RI}:WkA (RIT x) (RIA x):=bz (.cons (.refl _) (.cons zi .nil))
theorem gz {x:RF}:WkA (RFT x) (RFA x):=bz (.cons wkA_rit (.cons wkA_rit .nil))
section
variable {P:Program} {R:Rg} {Q:Exit→Act→World→Prop} {B i:Nat} {w0:Bs}
theorem xQ {l:List Nat}{B:Nat}{v:Value}{w:World}(h:(TwN l).va.p B v w):okL l∧∃ g,v=.slice (some ⟨g,0,none⟩) l.length (l.length+1)∧l.length+1≤maxLen∧w.heap[g]?=some (.cells ((l++[7777]).map fun (x:Nat)=>Value.int .u32 x).toArray U32 (0,0)):=by
 obtain ⟨cs,⟨ok,g,e,h1,h2,h3⟩,hv⟩:=h
 subst e
 exact ⟨ok,g,hv,h2,h3⟩
theorem r_capT {x:Operand}{S E':TypeId}{l:List Nat}(hS:P.underlying S=some (.slice E'))(hx:Has R B w0 i x (TwN l).va):Wv P Q R B w0 i (.call ⟨.builtin .cap,#[x],#[S]⟩) (In ((l.length+1:Nat):Int)) :=
 bb fun d T ps af gd a w av=>by
  obtain ⟨_,g,hv,_,_⟩:=xQ (hx a w av)
  refine ⟨.int .i64 ((l.length+1:Nat):Int),w,?_,Grow.refl w,ca _ _ _ _⟩
  simp [execOp,resolve,invoke,builtin,hv,Builtin.cap_,run_underlying hS,goInt]
theorem AA {x z:Operand}{S:TypeId}{l:List Nat}(hS:Sl P S U32 1)(hx:Has R B w0 i x (TwN l).va)(hz:Has R B w0 i z (In ((l.length+1:Nat):Int))):Wv P Q R B w0 i (.slice S x none (some z) none) (MgA (l++[7777])).va :=
 bb fun d T ps af gd a w av=>by
  obtain ⟨hs1,hs2⟩:=hS
  obtain ⟨ok,g,e1,hm,hh⟩:=xQ (hx a w av)
  have e3:=bj (hz a w av)
  have hE:P.elem S=U32:=by simp [Program.elem,hs1]
  have hs1':P.underlying S=some (.slice (P.elem S)):=by rw [hE]; exact hs1
  have hsz:∀ w,(sizeOf U32).run P w=.ok 1 w:=fun w=>by
   cases hi:P.info? U32 with
   | none=>rw [hi] at hs2; simp at hs2
   | some it=>rw [hi] at hs2; simp [sizeOf,typeInfo,hi]; simpa using hs2
  refine ⟨.slice (some ⟨g,0,none⟩) (l.length+1) (l.length+1),w,?_,Grow.refl w,dW (oE ok hm hh) (by simp)⟩
  have hr:=run_slice_h (P:=P) w S (some ⟨g,0,none⟩) l.length (l.length+1) hs1' .i64 ((l.length+1:Nat):Int) zo zo
  rw [hE,hsz] at hr
  have hne:¬ l.length+1=0:=by omega
  simp only [Result.andThen_ok,sliced,Int.toNat_natCast,hne,if_false,Nat.mul_one,Option.map_some,Nat.sub_zero] at hr
  simp only [execOp,e1,e3,Option.map_some,run_sliceAt_slice _ _ _ _ _ _ hs1',Sem.run_bind,Sem.run_pure]
  erw [hr]
  simp [Addr.add]
end
set_option maxHeartbeats 1000000 in
theorem mI (x y:RI)(hx:x.mag.length≤1000000000000):Cn Tryz.prog 136 [(RIT x).va,(RIA y).va] (Bo (decide (x=y))):=by
 refine Cn.intro Tryz.func136 G zk nq (fun B w0 a U=>?_)
 have U:=zn [(0,(RIT x).va),(1,(RIA y).va)] [] U
 refine wp_seq<|zg [] [⟨2,25,ptrH,some 0,_,none⟩,⟨3,25,ptrH,some 1,_,none⟩] [.alc 0,.alc 1,.v 4 _] [.o 2] U (oc (ay G G G (gq 0 G)) (oc (ay G G G (gq 1 G)) (zv G (a9 aK) o0))) (zz [(4,_)] [O 2 25 _,O 3 25 _] fun a w U=>?_)
 refine zt<|j6 (anc:=[[],[],[0,1],[0,1,2],[0,1,2,3],[0,1,2,3,4],[0,1,2,3,4,5],[0,1,2,3],[0,1,2,3,7],[0,1,2,3,7,8],[0,1,2,3,4,5,6,7,8,9],[0,1,2,3,4,5,6,7,8,9,10],[0,1,2,3,4,5,6,7,8,9,10,11],[0,1,2,3,4,5,6,7,8,9,10,11,12],[0,1,2,3,4,5,6,7,8,9,10,11,12,13],[0,1,2,3,4,5,6,7,8,9,10,11,12],[0,1,2,3,4,5,6,7,8,9,10,11,12,15],[0,1,2,3,4,5,6,7,8,9,10,11,12,15,16],[0,1,2,3,4,5,6,7,8,9,10,11,12,15,16,17],[0,1,2,3,4,5,6,7,8,9,10,11,12,13,14,15,16,17,18],[0,1,2,3,4,5,6,7,8,9,10,11,12],[0,1,2,3,4,5,6,7,8,9,10,11,12,20],[0,1,2,3,4,5,6,7,8,9,10,11,12,20,21],[0,1,2,3,4,5,6,7,8,9,10,11,12,13,14,15,16,17,18,19,20,21,22],[0,1,2,3,4,5,6,7,8,9,10,11,12,13,14,15,16,17,18,19,20,21,22,23],[0,1,2,3,4,5,6,7,8,9,10,11,12,13,14,15,16,17,18,19,20,21,22,23,24],[0,1,2,3,4,5,6,7,8,9,10,11,12,13,14,15,16,17,18,19,20,21,22,23,24,25],[0,1,2,3,4,5,6,7,8,9,10,11,12,13,14,15,16,17,18,19,20,21,22,23,24,25,26]]) (sts:=[none,none]) (news:=[]) (sp:=((.v 5 _:Sp)::(.v 6 _)::(.v 7 _)::(.v 8 _)::(.adr 9 2 (.some 1) (_=true))::(.v 10 (Wh (_=true) _))::(.v 11 (Wh (_=true) _))::(.adr 12 2 (.some 1) (_=true))::(.v 13 (Wh (_=true) _))::(.v 14 (Wh (_=true) _))::(.v 15 (Wh (_=true) _))::(.v 16 _)::(.v 17 _)::(.adr 18 2 (.some 1) (_=true))::(.v 19 (Wh (_=true) _))::(.adr 20 2 (.some 1) (_=true))::(.v 21 (Wh (_=true) _))::(.v 22 (Wh (_=true) _))::(.v 23 (Wh (_=true) _))::(.v 24 (Wh (_=true) _))::(.adr 25 2 (.some 1) (_=true))::(.v 26 (Wh (_=true) _))::(.v 27 (Wh (_=true) _))::(.v 28 (Wh (_=true) _))::(.v 29 (Wh (_=true) _))::(.v 30 (Wh (_=true) _))::(.v 31 _)::(.v 4 _)::[])) [.o 27] ab U (zl 0 G al (zl 1 G al (zv G (aa (xs:=[.tmp 5,.tmp 6]) ((iO x y).wk (.cons wkA_rit.va (.cons bh .nil))) (.cons (vq 0 G) (.cons (vq 1 G) .nil))) (zv G (ae (vq 2 G)) (oc (bM G G G (vq 3 G) nq (fun hg=>ac (lz0 0 G) au)) (oc (an G G G (vq 3 G) nq (fun hg=>aD 4 G zk hg (lz0 0 G) (Sub.part 1 G G) aW)) (oc (an G G G (vq 3 G) nq (fun hg=>r_capT Tryz.underlying23 (ai (vq 5 G) hg))) (oc (bM G G G (vq 3 G) nq (fun hg=>ac (lz0 0 G) au)) (oc (an G G G (vq 3 G) nq (fun hg=>aD 7 G zk hg (lz0 0 G) (Sub.part 1 G G) aW)) (oc (an G G G (vq 3 G) nq (fun hg=>aI Tryz.underlying23 (has_wk' (ai (vq 8 G) hg) vo))) (oc (an G G G (vq 3 G) nq (fun hg=>dJ (ai (vq 6 G) hg) (ai (vq 9 G) hg))) (zv G (bJ (vq 3 G) (vq 10 G)) (zv G (ae (vq 11 G)) (oc (bM G G G (vq 12 G) nq (fun hg=>ac (lz0 0 G) au)) (oc (an G G G (vq 12 G) nq (fun hg=>aD 13 G zk hg (lz0 0 G) (Sub.part 1 G G) aW)) (oc (bM G G G (vq 12 G) nq (fun hg=>ac (lz0 0 G) au)) (oc (an G G G (vq 12 G) nq (fun hg=>aD 15 G zk hg (lz0 0 G) (Sub.part 1 G G) aW)) (oc (an G G G (vq 12 G) nq (fun hg=>aI Tryz.underlying23 (has_wk' (ai (vq 16 G) hg) vo))) (oc (an G G G (vq 12 G) nq (fun hg=>aR (ai (vq 17 G) hg) a8 (aX zo))) (oc (an G G G (vq 12 G) nq (fun hg=>AA aZ (ai (vq 14 G) hg) (ai (vq 18 G) hg))) (oc (bM G G G (vq 12 G) nq (fun hg=>ac (lz0 0 G) au)) (oc (an G G G (vq 12 G) nq (fun hg=>aD 20 G zk hg (lz0 0 G) (Sub.part 1 G G) aW)) (oc (an G G G (vq 12 G) nq (fun hg=>aI Tryz.underlying23 (has_wk' (ai (vq 21 G) hg) vo))) (oc (an G G G (vq 12 G) nq (fun hg=>kI aZ (ai (vq 19 G) hg) (ai (vq 22 G) hg) (by simp))) (oc (an G G G (vq 12 G) nq (fun hg=>aq (ai (vq 23 G) hg) aO)) (oc (an G G G (vq 12 G) nq (fun hg=>bD (ai (vq 24 G) hg) (aF 7777 G))) (zv G (bJ (vq 12 G) (vq 25 G)) (zA 26 G o0)))))))))))))))))))))))))))) zk zk zk zk (zz [(4,_)] [O 2 25 _,O 3 25 _] fun a w U=>?_)
 refine a7<|wp_ret<|ar ?_ (am G U (zm 0 G))
 refine bc (congrArg Bo ?_); simp; omega
def bdF (x:RF):Prop:=x.num.mag.length≤1000000000000∧x.den.mag.length≤1000000000000
def RMT (x:RM):As:=cat [RFT x.a,RFT x.b,RFT x.c,RFT x.d]
theorem wkA_rmt {x:RM}:WkA (RMT x) (RMA x):=bz (.cons gz (.cons gz (.cons gz (.cons gz .nil))))
theorem dt (x y:RF)(hx:bdF x):Cn Tryz.prog 45 [(RFT x).va,(RFA y).va] (Bo (decide (x=y))):=by
 refine Cn.intro Tryz.func45 G zk nq (fun B w0 a U=>?_)
 have U:=zn [(0,(RFT x).va),(1,(RFA y).va)] [] U
 refine wp_seq<|zg [] [⟨2,27,ptrH,some 0,_,none⟩,⟨3,27,ptrH,some 1,_,none⟩] [.alc 0,.alc 1,.v 4 _] [.o 2] U (oc (ay G G G (gq 0 G)) (oc (ay G G G (gq 1 G)) (zv G (a9 aK) o0))) (zz [(4,_)] [O 2 27 _,O 3 27 _] fun a w U=>?_)
 refine zt<|zg [none,none] [] [.adr 5 2 (.some 0) True,.v 6 _,.adr 7 3 (.some 0) True,.v 8 _,.v 9 _,.v 10 _,.adr 11 2 (.some 2) (_=true),.v 12 (Wh (_=true) _),.adr 13 3 (.some 2) (_=true),.v 14 (Wh (_=true) _),.v 15 (Wh (_=true) _),.v 16 _,.v 4 _] [.o 12] U (oc (ob_a G G (ac (lz0 0 G) aY)) (zL 0 0 0 G al (oc (ob_a G G (ac (lz0 1 G) aY)) (zL 2 1 0 G al (zv G (aa (xs:=[.tmp 6,.tmp 8]) (mI _ _ hx.1) (.cons (vq 1 G) (.cons (vq 3 G) .nil))) (zv G (ae (vq 4 G)) (oc (bM G G G (vq 5 G) nq (fun hg=>ac (lz0 0 G) aT)) (oc (an G G G (vq 5 G) nq (fun hg=>aD 6 G zk hg (lz0 0 G) (Sub.part 1 G G) al)) (oc (bM G G G (vq 5 G) nq (fun hg=>ac (lz0 1 G) aT)) (oc (an G G G (vq 5 G) nq (fun hg=>aD 8 G zk hg (lz0 1 G) (Sub.part 1 G G) al)) (oc (an G G G (vq 5 G) nq (fun hg=>aa (xs:=[.tmp 12,.tmp 14]) (mI _ _ hx.2) (.cons (ai (vq 7 G) hg) (.cons (ai (vq 9 G) hg) .nil)))) (zv G (bJ (vq 5 G) (vq 10 G)) (zA 11 G o0))))))))))))) (zz [(4,_)] [O 2 27 _,O 3 27 _] fun a w U=>?_)
 refine a7<|wp_ret<|ar ?_ (am G U (zm 0 G))
 exact bc (congrArg Bo Dy)
theorem mH (x y:RM)(hx:bdF x.a∧bdF x.b∧bdF x.c∧bdF x.d):Cn Tryz.prog 15 [(RMT x).va,(RMA y).va] (Bo (decide (x=y))):=by
 refine Cn.intro Tryz.func15 G zk nq (fun B w0 a U=>?_)
 have U:=zn [(0,(RMT x).va),(1,(RMA y).va)] [] U
 refine wp_seq<|zg [] [⟨2,29,ptrH,some 0,_,none⟩,⟨3,29,ptrH,some 1,_,none⟩] [.alc 0,.alc 1,.v 4 _] [.o 2] U (oc (ay G G G (gq 0 G)) (oc (ay G G G (gq 1 G)) (zv G (a9 aK) o0))) (zz [(4,_)] [O 2 29 _,O 3 29 _] fun a w U=>?_)
 refine zt<|gl (sts:=[none,none]) (news:=[]) (sp:=((.adr 5 2 (.some 0) True:Sp)::(.v 6 _)::(.adr 7 3 (.some 0) True)::(.v 8 _)::(.v 9 _)::(.v 10 _)::(.adr 11 2 (.some 4) (_=true))::(.v 12 (Wh (_=true) _))::(.adr 13 3 (.some 4) (_=true))::(.v 14 (Wh (_=true) _))::(.v 15 (Wh (_=true) _))::(.v 16 _)::(.v 17 _)::(.adr 18 2 (.some 8) (_=true))::(.v 19 (Wh (_=true) _))::(.adr 20 3 (.some 8) (_=true))::(.v 21 (Wh (_=true) _))::(.v 22 (Wh (_=true) _))::(.v 23 _)::(.v 24 _)::(.adr 25 2 (.some 12) (_=true))::(.v 26 (Wh (_=true) _))::(.adr 27 3 (.some 12) (_=true))::(.v 28 (Wh (_=true) _))::(.v 29 (Wh (_=true) _))::(.v 30 _)::(.v 4 _)::[])) [.o 26] U (oc (ob_a G G (ac (lz0 0 G) bG)) (zL 0 0 0 G ax (oc (ob_a G G (ac (lz0 1 G) bG)) (zL 2 1 0 G ax (zv G (aa (xs:=[.tmp 6,.tmp 8]) (dt _ _ hx.1) (.cons (vq 1 G) (.cons (vq 3 G) .nil))) (zv G (ae (vq 4 G)) (oc (bM G G G (vq 5 G) nq (fun hg=>ac (lz0 0 G) bF)) (oc (an G G G (vq 5 G) nq (fun hg=>aD 6 G zk hg (lz0 0 G) (Sub.part 1 G G) ax)) (oc (bM G G G (vq 5 G) nq (fun hg=>ac (lz0 1 G) bF)) (oc (an G G G (vq 5 G) nq (fun hg=>aD 8 G zk hg (lz0 1 G) (Sub.part 1 G G) ax)) (oc (an G G G (vq 5 G) nq (fun hg=>aa (xs:=[.tmp 12,.tmp 14]) (dt _ _ hx.2.1) (.cons (ai (vq 7 G) hg) (.cons (ai (vq 9 G) hg) .nil)))) (zv G (bJ (vq 5 G) (vq 10 G)) (zv G (ae (vq 11 G)) (oc (bM G G G (vq 12 G) nq (fun hg=>ac (lz0 0 G) bU)) (oc (an G G G (vq 12 G) nq (fun hg=>aD 13 G zk hg (lz0 0 G) (Sub.part 2 G G) ax)) (oc (bM G G G (vq 12 G) nq (fun hg=>ac (lz0 1 G) bU)) (oc (an G G G (vq 12 G) nq (fun hg=>aD 15 G zk hg (lz0 1 G) (Sub.part 2 G G) ax)) (oc (an G G G (vq 12 G) nq (fun hg=>aa (xs:=[.tmp 19,.tmp 21]) (dt _ _ hx.2.2.1) (.cons (ai (vq 14 G) hg) (.cons (ai (vq 16 G) hg) .nil)))) (zv G (bJ (vq 12 G) (vq 17 G)) (zv G (ae (vq 18 G)) (oc (bM G G G (vq 19 G) nq (fun hg=>ac (lz0 0 G) bW)) (oc (an G G G (vq 19 G) nq (fun hg=>aD 20 G zk hg (lz0 0 G) (Sub.part 3 G G) ax)) (oc (bM G G G (vq 19 G) nq (fun hg=>ac (lz0 1 G) bW)) (oc (an G G G (vq 19 G) nq (fun hg=>aD 22 G zk hg (lz0 1 G) (Sub.part 3 G G) ax)) (oc (an G G G (vq 19 G) nq (fun hg=>aa (xs:=[.tmp 26,.tmp 28]) (dt _ _ hx.2.2.2) (.cons (ai (vq 21 G) hg) (.cons (ai (vq 23 G) hg) .nil)))) (zv G (bJ (vq 19 G) (vq 24 G)) (zA 25 G o0))))))))))))))))))))))))))) (zz [(4,_)] [O 2 29 _,O 3 29 _] fun a w U=>?_)
 refine a7<|wp_ret<|ar ?_ (am G U (zm 0 G))
 exact bc (congrArg Bo rm_eq)
def LenS (k:Nat):As where
 n:=1
 ag:=false
 p _ cs _:=∃ g c,cs=[.slice (some ⟨g,0,none⟩) k c]
 deps:=[]
 len:=by rintro B cs w ⟨g,c,rfl⟩; rfl
 one:=by rintro B cs w ⟨g,c,rfl⟩ x hx; simp at hx; subst hx; rfl
 ag1:=fun _=>rfl
 cg:=fun _ _ _ _ _ h=>h
 wr:=fun _ _ _ _ _ _ _ _ _ _ _ _ h=>h
def IntZ:As:=cat [BoA false,EqS (.slice none 0 0)]
def IntM (n:Nat):As:=cat [BoA false,LenS (1+n%40)]
def FrZ:As:=cat [IntZ,IntZ]
def FrM (n:Nat):As:=cat [IntM n,IntZ]
def MkE (n:Nat):As:=cat [NumA .u8 99,FrM n,FrZ]
def anyA (A:As):Prop:=∀ B B' w w' cs,A.p B cs w→A.p B' cs w'
theorem jv {l:List As}(h:∀ A∈l,anyA A):anyA (cat l):=by
 rintro B B' w w' cs ⟨ps,e,hp⟩
 refine ⟨ps,e,?_⟩
 clear e
 induction hp with
 | nil=>exact .nil
 | cons h1 _ ih=>exact .cons (h _ (by simp) _ _ _ _ _ h1) (ih fun A hA=>h A (by simp [hA]))
theorem gp {A A':As}(h:anyA A)(h':anyA A'):∀ X∈[A,A'],anyA X:=fun X hX=>by
 rcases List.mem_cons.1 hX with rfl | hX
 ·exact h
 ·obtain rfl:=List.mem_singleton.1 hX; exact h'
theorem vb:anyA IntZ:=jv (gp (fun _ _ _ _ _ h=>h) (fun _ _ _ _ _ h=>h))
theorem any_im (n:Nat):anyA (IntM n):=jv (gp (fun _ _ _ _ _ h=>h) (fun _ _ _ _ _ h=>h))
theorem any_fz:anyA FrZ:=jv (gp vb vb)
theorem any_fm (n:Nat):anyA (FrM n):=jv (gp (any_im n) vb)
theorem mkp_e:MkP MkE 9:=⟨fun _=>rfl,fun _=>rfl,fun n=>jv (fun X hX=>by
 rcases List.mem_cons.1 hX with rfl | hX
 ·exact fun _ _ _ _ _ h=>h
 ·exact gp (any_fm n) any_fz X hX)⟩
section
variable {P:Program} {R:Rg} {Q:Exit→Act→World→Prop} {B i:Nat} {w0:Bs}
theorem AF {S:TypeId}{n:Nat}{x y:Operand}(hM:MakeOk P S U32 .u32)(hx:Has R B w0 i x (In n))(hy:Has R B w0 i y (In n))(hn:n≤17592186044416):Wv P Q R B w0 i (.makeSlice S x y) (LenS n).va :=
 bb fun d T ps af gd a w av=>by
  obtain ⟨h1,h2,h3,h4,h5⟩:=hM
  obtain ⟨it,hi,hz⟩:=Option.bind_eq_some_iff.1 h2
  have hby:=h5 it hi
  have hm:=run_make (P:=P) w S U32 it (.int .u32 0) h1 hi hz .i64 .i64 n n zo zo (by
   have:it.bytes*n≤8*n:=Nat.mul_le_mul_right _ hby
   have h6:((it.bytes*n:Nat):Int)≤281474976710656:=by omega
   rwa [Int.natCast_mul] at h6) zo
  have e1:=bj (hx a w av)
  have e2:=bj (hy a w av)
  refine ⟨.slice (some ⟨w.heap.size,0,none⟩) n n,w.alloc (.cells (madeCells (Value.int .u32 0).cells (n*it.size)) U32),?_,Grow.alloc _ _,⟨[.slice (some ⟨w.heap.size,0,none⟩) n n],⟨_,_,rfl⟩,rfl⟩⟩
  simp only [Int.toNat_natCast] at hm
  simp [execOp,e1,e2,hm]
theorem r_lenK {x:Operand}{S E':TypeId}{k:Nat}(hS:P.underlying S=some (.slice E'))(hx:Has R B w0 i x (LenS k).va):Wv P Q R B w0 i (.call ⟨.builtin .len,#[x],#[S]⟩) (In k) :=
 bb fun d T ps af gd a w av=>by
  obtain ⟨cs,⟨g,c,rfl⟩,hv⟩:=hx a w av
  have hv':a.eval x=.slice (some ⟨g,0,none⟩) k c:=hv
  refine ⟨.int .i64 (k:Int),w,?_,Grow.refl w,ca _ _ _ _⟩
  simp [execOp,resolve,invoke,builtin,hv',Builtin.len_,run_underlying hS,goInt]
theorem mt {x:Operand}{S E':TypeId}{n:Nat}{v:Value}(hS:P.underlying S=some (.slice E'))(hv:RowV v n)(hx:Has R B w0 i x (EqS v).va):Wv P Q R B w0 i (.call ⟨.builtin .len,#[x],#[S]⟩) (In n) :=
 bb fun d T ps af gd a w av=>by
  have e:=jg (hx a w av)
  rcases hv with ⟨rfl,rfl⟩ | ⟨g,cap,rfl,_⟩
  ·refine ⟨.int .i64 0,w,?_,Grow.refl w,ca _ _ _ _⟩
   simp [execOp,resolve,invoke,builtin,e,Builtin.len_,run_underlying hS,goInt]
  ·refine ⟨.int .i64 (n:Int),w,?_,Grow.refl w,ca _ _ _ _⟩
   simp [execOp,resolve,invoke,builtin,e,Builtin.len_,run_underlying hS,goInt]
end
theorem oL:Str Tryz.prog 25 [BoA false,EqS (.slice none 0 0)] :=
 Str.of (z:=.agg #[.bool false,.slice none 0 0]) zk Tryz.underlying25 zk fun B w=>⟨[[.bool false],[.slice none 0 0]],rfl,.cons rfl (.cons ⟨rfl,rfl⟩ .nil)⟩
theorem iz_p (B:Nat)(w:World):IntZ.p B [.bool false,.slice none 0 0] w:=⟨[[.bool false],[.slice none 0 0]],rfl,.cons rfl (.cons ⟨rfl,rfl⟩ .nil)⟩
theorem fz_p (B:Nat)(w:World):FrZ.p B [.bool false,.slice none 0 0,.bool false,.slice none 0 0] w:=⟨[[.bool false,.slice none 0 0],[.bool false,.slice none 0 0]],rfl,.cons (iz_p B w) (.cons (iz_p B w) .nil)⟩
theorem qm:Str Tryz.prog 27 [IntZ,IntZ] :=
 Str.of (z:=.agg #[.bool false,.slice none 0 0,.bool false,.slice none 0 0]) zk Tryz.underlying27 zk fun B w=>fz_p B w
theorem lZ:Str Tryz.prog 67 [NumA .u8 0,FrZ,FrZ] :=
 Str.of (z:=.agg #[.int .u8 0,.bool false,.slice none 0 0,.bool false,.slice none 0 0,.bool false,.slice none 0 0,.bool false,.slice none 0 0]) zk Tryz.underlying67 zk fun B w=>⟨[[.int .u8 0],[.bool false,.slice none 0 0,.bool false,.slice none 0 0],[.bool false,.slice none 0 0,.bool false,.slice none 0 0]],rfl,.cons rfl (.cons (fz_p B w) (.cons (fz_p B w) .nil))⟩
theorem tm40 {n:Nat}:((n:Nat):Int).tmod 40=((n%40:Nat):Int):=by rw [Int.tmod_eq_emod_of_nonneg zo]; omega
theorem w40 {n:Nat}:IntKind.i64.wrap (1+((n%40:Nat):Int))=((1+n%40:Nat):Int):=by rw [wi64 zo zo]; omega
theorem tz (n0:Nat):Cn Tryz.prog 200 [In (n0:Nat)] ((IntM n0).va):=by
 refine Cn.intro Tryz.func200 G zk nq (fun B w0 a U=>?_)
 have U:=zn [(0,In (n0:Nat))] [] U
 refine wp_seq<|zg [] [⟨2,25,ptrH,some 0,_,none⟩] [.alc 0] [.g 0] U (oc (aJ G G G (Str.zero oL)) o0) (zz [(0,_)] [O 2 25 _] fun a w U=>?_)
 refine zt<|zg [some (5,_)] [] [.v 3 _,.v 4 _,.v 5 _,.v 6 _,.v 7 _,.sto 0] [] U (zM 0 G (zv G (jD (vq 0 G) a8 zd tm40) (zv G (aR a8 (vq 1 G) (w40)) (zv G (AF eI (vq 2 G) (vq 2 G) zo) (zv G (bi (xs:=[(1,.tmp 6)]) (qs:=[(1,_)]) oL (.cons ⟨rfl,(vq 3 G),rfl⟩ .nil)) (oc (aA G G G (vq 4 G) al (Eq.trans (b:=2) G G)) o0)))))) (zz [] [O 2 25 _] fun a w U=>?_)
 refine a7<|wp_ret<|ar ?_ (az G U (zm 0 G) al)
 exact bh
theorem BF (n0:Nat):Cn Tryz.prog 201 [(IntM n0).va,In (n0:Nat)] (Bo true):=by
 refine Cn.intro Tryz.func201 G zk nq (fun B w0 a U=>?_)
 have U:=zn [(0,(IntM n0).va),(1,In (n0:Nat))] [] U
 refine wp_seq<|zg [] [⟨2,25,ptrH,some 0,_,none⟩] [.alc 0,.v 4 _] [.g 1,.o 1] U (oc (ay G G G (gq 0 G)) (zv G (a9 aK) o0)) (zz [(1,_),(4,_)] [O 2 25 _] fun a w U=>?_)
 refine zt<|zg [none] [] [.adr 5 2 (.some 1) True,.v 6 _,.v 7 _,.v 8 _,.v 9 _,.v 10 _,.v 11 _,.v 12 _,.adr 13 2 (.some 0) (_=true),.v 14 (Wh (_=true) _),.v 15 (Wh (_=true) _),.v 16 _,.v 4 _] [.o 12] U (oc (ob_a G G (ac (lz0 0 G) au)) (zL 0 0 1 G aW (zv G (r_lenK Tryz.underlying23 (vq 1 G)) (zM 0 G (zv G (jD (vq 3 G) a8 zd tm40) (zv G (aR a8 (vq 4 G) (w40)) (zv G (bD (vq 2 G) (vq 5 G)) (zv G (ae (vq 6 G)) (oc (bM G G G (vq 7 G) nq (fun hg=>ac (lz0 0 G) aU)) (oc (an G G G (vq 7 G) nq (fun hg=>aD 8 G zk hg (lz0 0 G) (Sub.part 0 G G) ty_4)) (oc (an G G G (vq 7 G) nq (fun hg=>dS (ai (vq 9 G) hg))) (zv G (bJ (vq 7 G) (vq 10 G)) (zA 11 G o0))))))))))))) (zz [(4,_)] [O 2 25 _] fun a w U=>?_)
 refine a7<|wp_ret<|ar ?_ (am G U (zm 0 G))
 refine bc (congrArg Bo ?_); simp
theorem fZ (n0:Nat):Cn Tryz.prog 146 [In (n0:Nat)] ((MkE n0).va):=by
 refine Cn.intro Tryz.func146 G zk nq (fun B w0 a U=>?_)
 have U:=zn [(0,In (n0:Nat))] [] U
 refine wp_seq<|zg [] [⟨2,67,ptrH,some 0,_,none⟩] [.alc 0] [.g 0] U (oc (aJ G G G (Str.zero lZ)) o0) (zz [(0,_)] [O 2 67 _] fun a w U=>?_)
 refine zt<|zg [some (4,_)] [] [.v 3 _,.v 4 _,.v 5 _,.v 6 _,.sto 0] [] U (zM 0 G (zv G (aa (xs:=[.tmp 3]) (tz _) (.cons (vq 0 G) .nil)) (zv G (bi (xs:=[(0,.tmp 4)]) (qs:=[(0,_)]) qm (.cons ⟨rfl,(vq 1 G),rfl⟩ .nil)) (zv G (bi (xs:=[(0,.const (.int .u8 (99))),(1,.tmp 5)]) (qs:=[(0,_),(1,_)]) lZ (.cons ⟨rfl,a8,rfl⟩ (.cons ⟨rfl,(vq 2 G),rfl⟩ .nil))) (oc (aA G G G (vq 3 G) cb (Eq.trans (b:=9) G G)) o0))))) (zz [] [O 2 67 _] fun a w U=>?_)
 refine a7<|wp_ret<|ar ?_ (az G U (zm 0 G) cb)
 exact bh
theorem j5 (n0:Nat):Cn Tryz.prog 162 [(MkE n0).va,In (n0:Nat)] (Bo true):=by
 refine Cn.intro Tryz.func162 G zk nq (fun B w0 a U=>?_)
 have U:=zn [(0,(MkE n0).va),(1,In (n0:Nat))] [] U
 refine wp_seq<|zg [] [⟨2,67,ptrH,some 0,_,none⟩] [.alc 0,.v 4 _] [.g 1,.o 1] U (oc (ay G G G (gq 0 G)) (zv G (a9 aK) o0)) (zz [(1,_),(4,_)] [O 2 67 _] fun a w U=>?_)
 refine zt<|zg [none] [] [.adr 5 2 (.some 0) True,.v 6 _,.v 7 _,.v 8 _,.adr 9 2 (.some 1) (_=true),.adr 10 2 (.some (1+0)) (_=true),.v 11 (Wh (_=true) _),.v 12 (Wh (_=true) _),.v 13 (Wh (_=true) _),.v 14 _,.v 15 _,.adr 16 2 (.some 5) (_=true),.adr 17 2 (.some (5+0)) (_=true),.adr 18 2 (.some (5+1)) (_=true),.v 19 (Wh (_=true) _),.v 20 (Wh (_=true) _),.v 21 (Wh (_=true) _),.v 22 _,.v 4 _] [.o 18] U (oc (ob_a G G (ac (lz0 0 G) bP)) (zL 0 0 0 G er (zv G (bD (vq 1 G) a8) (zv G (ae (vq 2 G)) (oc (bM G G G (vq 3 G) nq (fun hg=>ac (lz0 0 G) bg)) (oc (bM G G G (vq 3 G) nq (fun hg=>dI 4 G zk hg (lz0 0 G) aY)) (oc (an G G G (vq 3 G) nq (fun hg=>aD 5 G zk hg (lz0 0 G) (Sub.trans (Sub.part 1 G G) (Sub.part 0 G G) G) al)) (oc (an G G G (vq 3 G) nq (fun hg=>ae (gq 0 G))) (oc (an G G G (vq 3 G) nq (fun hg=>aa (xs:=[.tmp 11,.tmp 12]) (BF _) (.cons (ai (vq 6 G) hg) (.cons (ai (vq 7 G) hg) .nil)))) (zv G (bJ (vq 3 G) (vq 8 G)) (zv G (ae (vq 9 G)) (oc (bM G G G (vq 10 G) nq (fun hg=>ac (lz0 0 G) bK)) (oc (bM G G G (vq 10 G) nq (fun hg=>dI 11 G zk hg (lz0 0 G) aY)) (oc (bM G G G (vq 10 G) nq (fun hg=>dI 12 G zk hg (lz0 0 G) au)) (oc (an G G G (vq 10 G) nq (fun hg=>aD 13 G zk hg (lz0 0 G) (Sub.trans (Sub.part 2 G G) (Sub.trans (Sub.part 0 G G) (Sub.part 1 G G) G) G) aW)) (oc (an G G G (vq 10 G) nq (fun hg=>be Tryz.underlying23 (has_wk' (ai (vq 14 G) hg) bn))) (oc (an G G G (vq 10 G) nq (fun hg=>bD (ai (vq 15 G) hg) a8)) (zv G (bJ (vq 10 G) (vq 16 G)) (zA 17 G o0))))))))))))))))))) (zz [(4,_)] [O 2 67 _] fun a w U=>?_)
 refine a7<|wp_ret<|ar ?_ (am G U (zm 0 G))
 refine bc (congrArg Bo ?_); simp
structure Slt.new (s:Slt):Prop where
 rv:RowV s.v s.xs.length
 z1:s.z.oneCell'=true
 n1:s.n≤1000000
 lx:s.xs.length≤2000000000
 uv:s.u=s.v
 yx:s.ys=s.xs
structure Fik (A:Nat→As) (s t:Slt) (c:Nat→Prop):Prop where
 v:t.v=s.v
 u:t.u=s.v
 yx:t.ys=t.xs
 z:t.z=s.z
 n:t.n=s.n
 l:t.xs.length=s.xs.length
 m:∀ q x,t.xs[q]?=some x→c q→isMk A s.n x
def FiK (A:Nat→As)(L M:List Slt)(i k:Nat):Prop:=M.length=L.length∧∀ (j:Nat) s,L[j]?=some s→∃ t,M[j]?=some t∧Fik A s t (fun q=>j<i∨(j=i∧q<k))
theorem fik_0 {A:Nat→As}{L:List Slt}(h:∀ s∈L,s.new):FiK A L L 0 0:=⟨rfl,fun j s hs=>⟨s,hs,rfl,(h s (List.mem_of_getElem? hs)).uv,(h s (List.mem_of_getElem? hs)).yx,rfl,rfl,rfl,fun q x _ hc=>by omega⟩⟩
theorem yI {A:Nat→As}{L M:List Slt}{i k j:Nat}{s:Slt}(h:FiK A L M i k)(hs:L[j]?=some s):∃ t,M[j]?=some t∧Fik A s t (fun q=>j<i∨(j=i∧q<k)):=h.2 j s hs
theorem xc {A:Nat→As}{L M:List Slt}{i k:Nat}{s t:Slt}{ds:List Value}(h:FiK A L M i k)(hs:L[i]?=some s)(ht:M[i]?=some t)(hd:isMk A s.n ds):FiK A L (M.set i { t with xs:=t.xs.set k ds,ys:=t.xs.set k ds }) i (k+1):=by
 have hlt:=(List.getElem?_eq_some_iff.1 ht).1
 refine ⟨by rw [List.length_set]; exact h.1,fun j s' hj=>?_⟩
 obtain ⟨t',h1,h2⟩:=h.2 j s' hj
 by_cases e:j=i
 ·subst e
  rw [hs] at hj
  injection hj with hj
  subst hj
  rw [ht] at h1
  injection h1 with h1
  subst h1
  refine ⟨_,List.getElem?_set_self hlt,h2.v,h2.u,rfl,h2.z,h2.n,by rw [List.length_set]; exact h2.l,fun q x hq hc=>?_⟩
  by_cases e2:q=k
  ·subst e2
   have hq':(t.xs.set q ds)[q]?=some x:=hq
   rw [List.getElem?_set] at hq'
   simp only [if_true] at hq'
   split at hq'
   ·injection hq' with hq'
    subst hq'
    exact hd
   ·cases hq'
  ·have hq':(t.xs.set k ds)[q]?=some x:=hq
   rw [List.getElem?_set_ne (fun e3=>e2 e3.symm)] at hq'
   exact h2.m q x hq' zo
 ·refine ⟨t',by rw [List.getElem?_set_ne (fun e2=>e e2.symm)]; exact h1,h2.v,h2.u,h2.yx,h2.z,h2.n,h2.l,fun q x hq hc=>h2.m q x hq ?_⟩
  rcases hc with hc | ⟨hc,_⟩
  ·exact .inl hc
  ·exact absurd hc e
theorem xe {A:Nat→As}{L M:List Slt}{i:Nat}{s:Slt}(h:FiK A L M i s.xs.length)(hs:L[i]?=some s):FiK A L M (i+1) 0:=by
 refine ⟨h.1,fun j s' hj=>?_⟩
 obtain ⟨t,h1,h2⟩:=h.2 j s' hj
 refine ⟨t,h1,h2.v,h2.u,h2.yx,h2.z,h2.n,h2.l,fun q x hq hc=>h2.m q x hq ?_⟩
 rcases hc with hc | ⟨_,hc⟩
 ·by_cases e:j=i
  ·subst e
   rw [hs] at hj
   injection hj with hj
   subst hj
   have:=(List.getElem?_eq_some_iff.1 hq).1
   exact .inr ⟨rfl,by rw [← h2.l]; exact this⟩
  ·exact .inl zo
 ·omega
structure Slt.full (A:Nat→As) (s:Slt):Prop extends s.new where
 xm:∀ x∈s.xs,isMk A s.n x
theorem uu {A:Nat→As}{s t:Slt}{c:Nat→Prop}(h:Fik A s t c)(hs:s.new):t.new:=⟨by rw [h.v,h.l]; exact hs.rv,by rw [h.z]; exact hs.z1,by rw [h.n]; exact hs.n1,by rw [h.l]; exact hs.lx,by rw [h.u,h.v],h.yx⟩
theorem uw {A:Nat→As}{L M:List Slt}{i k:Nat}(h:FiK A L M i k){t:Slt}(ht:t∈M):∃ j s,L[j]?=some s∧Fik A s t (fun q=>j<i∨(j=i∧q<k)):=by
 obtain ⟨j,hj⟩:=List.getElem?_of_mem ht
 have hlt:=(List.getElem?_eq_some_iff.1 hj).1
 rw [h.1] at hlt
 obtain ⟨t',h1,h2⟩:=h.2 j _ (List.getElem?_eq_getElem hlt)
 rw [hj] at h1
 injection h1 with h1
 subst h1
 exact ⟨j,_,List.getElem?_eq_getElem hlt,h2⟩
theorem C5 {A:Nat→As}{L M:List Slt}{i k:Nat}(h:FiK A L M i k)(hn:∀ s∈L,s.new):OneK M:=fun t ht=>by
 obtain ⟨j,s,hs,hf⟩:=uw h ht
 have:=uu hf (hn s (List.mem_of_getElem? hs))
 exact ⟨this.rv.one,this.z1⟩
def allFull (A:Nat→As)(L M:List Slt):Prop:=M.length=L.length∧∀ t∈M,t.full A
theorem C6 {A:Nat→As}{L M:List Slt}{i:Nat}(h:FiK A L M i 0)(hi:L.length≤i)(hn:∀ s∈L,s.new):allFull A L M:=⟨h.1,fun t ht=>by
 obtain ⟨j,s,hs,hf⟩:=uw h ht
 refine ⟨uu hf (hn s (List.mem_of_getElem? hs)),fun x hx=>?_⟩
 obtain ⟨q,hq⟩:=List.getElem?_of_mem hx
 rw [hf.n]
 exact hf.m q x hq (.inl (by have:=(List.getElem?_eq_some_iff.1 hs).1; omega))⟩
structure GrewK (A:Nat→As) (s t:Slt):Prop where
 v:t.v=s.v
 xs:t.xs=s.xs
 n:t.n=s.n
 z:t.z=t.u
 yl:t.ys.length=s.xs.length+70
 ym:∀ y∈t.ys,isMk A s.n y
def GrK (A:Nat→As)(L M:List Slt)(i:Nat):Prop:=M.length=L.length∧∀ (j:Nat) s,L[j]?=some s→∃ t,M[j]?=some t∧(j<i→GrewK A s t)∧(i≤j→t=s)
theorem grk_0 {A:Nat→As}{L:List Slt}:GrK A L L 0:=⟨rfl,fun j s h=>⟨s,h,fun h=>absurd h (Nat.not_lt_zero _),fun _=>rfl⟩⟩
theorem grk_at {A:Nat→As}{L M:List Slt}{i:Nat}{s:Slt}(h:GrK A L M i)(hs:L[i]?=some s):M[i]?=some s:=by
 obtain ⟨t,h1,_,h2⟩:=h.2 i s hs
 rw [h1,h2 (Nat.le_refl _)]
def Slt.ext (s:Slt)(u:Value)(ys:List (List Value)):Slt:={ s with u:=u,ys:=ys }
theorem wR {A:Nat→As}{L M:List Slt}{i:Nat}{s:Slt}{u:Value}{ys:List (List Value)}(h:GrK A L M i)(hs:L[i]?=some s)(hl:ys.length=s.xs.length+70)(hy:∀ y∈ys,isMk A s.n y):GrK A L (M.set i { s.ext u ys with z:=u }) (i+1):=by
 refine ⟨by rw [List.length_set]; exact h.1,fun j s' hj=>?_⟩
 by_cases e:j=i
 ·subst e
  rw [hs] at hj
  injection hj with hj
  subst hj
  refine ⟨_,List.getElem?_set_self (by rw [h.1]; exact (List.getElem?_eq_some_iff.1 hs).1),fun _=>⟨rfl,rfl,rfl,rfl,hl,hy⟩,fun h=>by omega⟩
 ·obtain ⟨t,h1,h2,h3⟩:=h.2 j s' hj
  exact ⟨t,by rw [List.getElem?_set_ne (fun e2=>e e2.symm)]; exact h1,fun h=>h2 zo,fun h=>h3 zo⟩
theorem BO {A:Nat→As}{L M:List Slt}{i:Nat}(h:GrK A L M i){t:Slt}(ht:t∈M):∃ s∈L,GrewK A s t∨t=s:=by
 obtain ⟨j,hj⟩:=List.getElem?_of_mem ht
 have hlt:=(List.getElem?_eq_some_iff.1 hj).1
 rw [h.1] at hlt
 obtain ⟨t',h1,h2,h3⟩:=h.2 j _ (List.getElem?_eq_getElem hlt)
 rw [hj] at h1
 injection h1 with h1
 subst h1
 refine ⟨_,List.getElem_mem hlt,?_⟩
 by_cases e:j<i
 ·exact .inl (h2 e)
 ·exact .inr (h3 zo)
structure Slt.done (A:Nat→As) (t:Slt):Prop where
 rv:RowV t.v t.xs.length
 zu:t.z=t.u
 xm:∀ x∈t.xs,isMk A t.n x
 ym:∀ y∈t.ys,isMk A t.n y
 yl:t.ys.length=t.xs.length+70
 n1:t.n≤1000000
 lx:t.xs.length≤2000000000
def allDone (A:Nat→As)(L M:List Slt):Prop:=M.length=L.length∧∀ t∈M,t.done A
theorem BP {A:Nat→As}{L M:List Slt}{i:Nat}(h:GrK A L M i)(hi:L.length≤i)(hf:∀ s∈L,s.full A):allDone A L M:=⟨h.1,fun t ht=>by
 obtain ⟨j,hj⟩:=List.getElem?_of_mem ht
 have hlt:=(List.getElem?_eq_some_iff.1 hj).1
 rw [h.1] at hlt
 obtain ⟨t',h1,h2,_⟩:=h.2 j _ (List.getElem?_eq_getElem hlt)
 rw [hj] at h1
 injection h1 with h1
 subst h1
 have hG:=h2 zo
 have hs:=hf _ (List.getElem_mem hlt)
 exact ⟨by rw [hG.v,hG.xs]; exact hs.rv,hG.z,by rw [hG.xs,hG.n]; exact hs.xm,by rw [hG.n]; exact hG.ym,by rw [hG.xs]; exact hG.yl,by rw [hG.n]; exact hs.n1,by rw [hG.xs]; exact hs.lx⟩⟩
theorem oQ {M:List Slt}{i:Nat}{x y:Slt}:(M.set i x).set i y=M.set i y:=by simp
theorem s9 {M:List Slt}{i:Nat}{x:Slt}(h:M[i]?=some x):M.set i x=M:=by
 obtain ⟨h1,h2⟩:=List.getElem?_eq_some_iff.1 h
 subst h2
 simp
theorem extK_0 {s:Slt}(h:s.new):s.ext s.v s.xs=s:=by
 have h1:=h.uv
 have h2:=h.yx
 obtain ⟨v,xs,u,ys,z,n⟩:=s
 simp only at h1 h2
 subst h1 h2
 rfl
theorem mk_mem {A:Nat→As}{n:Nat}{ys:List (List Value)}{ds:List Value}(h:∀ y∈ys,isMk A n y)(hd:isMk A n ds):∀ y∈ys++[ds],isMk A n y:=fun y hy=>by
 rcases List.mem_append.1 hy with hy | hy
 ·exact h y hy
 ·obtain rfl:=List.mem_singleton.1 hy; exact hd
theorem sn {A:As}{n k:Nat}(h:k<n):(List.replicate n A)[k]?=some A:=by rw [List.getElem?_replicate,if_pos h]
theorem y7 {A:As}{n m:Nat}(h:A.n=m):∀ X∈List.replicate n A,X.n=m:=fun X hX=>by rw [(List.mem_replicate.1 hX).2]; exact h
end Go.Proofs.YtmacliockgbdcaaGreatDoor
