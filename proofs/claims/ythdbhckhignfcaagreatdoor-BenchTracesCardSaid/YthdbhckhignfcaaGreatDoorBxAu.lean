import Derived.Test.YthdbhckhignfcaaGreatDoorBxAa
import Derived.Test.YthdbhckhignfcaaGreatDoorBxAc
import Derived.Test.YthdbhckhignfcaaGreatDoorBxAl
import Derived.Test.YthdbhckhignfcaaGreatDoorBxAs
import Derived.Test.YthdbhckhignfcaaGreatDoorBxAt
import Derived.Laws.AppendOwn
import Derived.Laws.OwnMore
import Derived.Orders
set_option linter.unusedVariables false
set_option linter.unusedSimpArgs false
set_option linter.unusedSectionVars false
set_option maxRecDepth 100000
namespace Go.Proofs.YthdbhckhignfcaaGreatDoor
open Go Go.RowKit
def RowX (b c:Nat)(l r:List Nat):VA where
 p B v w:=∃ g,v=.slice (some ⟨g,0,none⟩) l.length c∧b≤g∧B≤g∧c=(l++r).length∧c≤maxLen∧w.heap[g]?=some (.cells ((l++r).map fun (x:Nat)=>Value.int .u32 x).toArray U32 (0,0))
 deps:=[U32]
 cg:=by
  rintro B v w w' hg ⟨g,h1,h2,h3,h4,h5,h6⟩
  exact ⟨g,h1,h2,h3,h4,h5,hg.heap h6⟩
 wr:=by
  rintro B v w w' g c T fz hg hT hB hW ⟨g',h1,h2,h3,h4,h5,h6⟩
  refine ⟨g',h1,h2,h3,h4,h5,?_⟩
  rw [hW.block g' fun hh=>?_]
  ·exact h6
  ·subst hh
   rw [hg] at h6
   simp only [Option.some.injEq,Obj.cells.injEq] at h6
   exact hT (by simp [h6.2.1])
theorem rowX_ok {b c B:Nat}{l r:List Nat}{v:Value}{w:World}(h:(RowX b c l r).p B v w):RowOk w b U32 v.ownBlock:=by
 obtain ⟨g,rfl,h2,_,_,_,h6⟩:=h
 intro g' e
 have e':g=g':=by injection e
 subst e'
 exact ⟨h2,_,_,h6⟩
theorem zu2 {w:World}{g:Nat}(cs:Array Value):w.grownBy (w.setRow g cs) (some g):=by
 have h:=Wr.setRow w g cs
 exact ⟨h.os,h.tape,h.output,by rw [h.size]; exact Nat.le_refl _,fun k _ hk=>h.block k fun e=>hk (by rw [e])⟩
theorem zrb {P:Program}{S T1:TypeId}{b c B:Nat}{l r xs:List Nat}{w:World}{v u:Value}{it:TypeInfo}(hS:P.underlying S=some (.slice U32))(hi:P.info? U32=some it)(hsz:it.size=1)(hroom:xs.length≤r.length)
  (hv:(RowX b c l r).p B v w) (hu:(MgA xs).va.p B u w) :
  ∃ v' w',(Builtin.append_ #[S,S] T1 #[v,u]).run P w=.ok v' w'∧(RowX b c (l++xs) (r.drop xs.length)).p B v' w'∧w.grownBy w' v.ownBlock∧RowOk w b U32 v.ownBlock∧blk v'=blk v:=by
 have hro:=rowX_ok hv
 obtain ⟨g,rfl,h2,hBg,h4,h5,h6⟩:=hv
 obtain ⟨A,c',rfl,hm⟩:=zh0 hu
 have hlen:l.length+xs.length≤c:=by rw [h4,List.length_append]; omega
 have fin:(RowX b c (l++xs) (r.drop xs.length)).p B (.slice (some ⟨g,0,none⟩) (l.length+xs.length) c) (w.setRow g (((l++xs)++r.drop xs.length).map fun (x:Nat)=>Value.int .u32 x).toArray) :=
  ⟨g,by rw [List.length_append],h2,hBg,by rw [h4]; simp only [List.length_append,List.length_drop]; omega,h5,setRow_heap w g _ _ _ _ h6⟩
 cases A with
 | none =>
  have hx:xs=[]:=by
   apply List.eq_nil_of_length_eq_zero
   apply Decidable.byContradiction
   intro hn
   obtain ⟨_,_,e,_⟩:=hm.at_ zo
   cases e
  subst hx
  have hown:w.ownsRow b U32 1 (.slice (some ⟨g,0,none⟩) l.length c) l.length (l.map fun (x:Nat)=>Value.int .u32 x):=⟨by simp,.inr ⟨g,c,_,rfl,h2,h6,by omega,h5,by simp [h4],by simp⟩⟩
  refine ⟨_,w,zj1 b S T1 U32 it 1 hS hi _ _ c' _ hown,⟨g,by simp,h2,hBg,by simpa using h4,h5,by simpa using h6⟩,⟨rfl,rfl,rfl,Nat.le_refl _,fun _ _ _=>rfl⟩,hro,rfl⟩
 | some ad =>
  have hnew:∀ j u,(xs.map fun (x:Nat)=>Value.int .u32 x)[j]?=some u→w.cell? (ad.add j)=some u:=fun j u hj=>by
   have hjx:j<xs.length:=by have:=(List.getElem?_eq_some_iff.1 hj).1; simpa using this
   obtain ⟨b',o,e,_,_,h8⟩:=hm.at_ zo
   injection e with e
   subst e
   rw [zqu,h8 j hjx]
   simpa [hjx] using hj
  have hr:=run_append_room (P:=P) w S T1 U32 it hS hi g l.length c _ h6 ad xs.length c' (xs.map fun (x:Nat)=>Value.int .u32 x) (by simp [hsz]) hnew (fun u hu=>by obtain ⟨_,_,rfl⟩:=List.mem_map.1 hu; rfl) hlen (by rw [hsz]; simp; omega)
  refine ⟨_,_,hr,?_,zu2 _,hro,rfl⟩
  have e:(((l++r).map fun (x:Nat)=>Value.int .u32 x).toArray.toList.take (l.length*it.size)++(xs.map fun (x:Nat)=>Value.int .u32 x)++((l++r).map fun (x:Nat)=>Value.int .u32 x).toArray.toList.drop (l.length*it.size+(xs.map fun (x:Nat)=>Value.int .u32 x).length))=((l++xs)++r.drop xs.length).map fun (x:Nat)=>Value.int .u32 x:=by
   rw [hsz]
   simp [List.drop_append,List.map_drop]
  rw [e]
  exact fin
section
variable {P:Program} {R:Rg} {Q:Exit→Act→World→Prop} {B i:Nat} {w0:Bs}
theorem r_make0 {S:TypeId}{n:Nat}{x y:Operand}(hM:MakeOk P S U32 .u32)(hB:B≤w0.w.heap.size)(hx:Has R B w0 i x (In 0))(hy:Has R B w0 i y (In n))(hn:n≤17592186044416):Wv P Q R B w0 i (.makeSlice S x y) (RowX w0.w.heap.size n [] (List.replicate n 0)) :=
 zbr fun d T ps af gd a w av=>by
  obtain ⟨h1,h2,h3,h4,h5⟩:=hM
  obtain ⟨it,hi,hz⟩:=Option.bind_eq_some_iff.1 h2
  have hsz:it.size=1:=by rw [hi] at h3; simpa using h3
  have hby:=h5 it hi
  have hm:=run_make (P:=P) w S U32 it (.int .u32 0) h1 hi hz .i64 .i64 0 n zo zo (by
   have:it.bytes*n≤8*n:=Nat.mul_le_mul_right _ hby
   have h6:((it.bytes*n:Nat):Int)≤281474976710656:=by omega
   rwa [Int.natCast_mul] at h6) zo
  have e1:=zbq (hx a w av)
  have e2:=zbq (hy a w av)
  have hcells:madeCells (Value.int .u32 0).cells (n*it.size)=((List.replicate n 0).map fun (x:Nat)=>Value.int .u32 x).toArray:=by
   rw [hsz,Nat.mul_one]
   apply Array.ext_getElem?
   intro j
   simp only [madeCells,Value.cells,List.map_replicate]
   by_cases hj:j<n
   ·simp [hj,Nat.mod_one]
   ·simp [hj]
  simp only [Int.toNat_natCast] at hm
  rw [hcells] at hm
  refine ⟨.slice (some ⟨w.heap.size,0,none⟩) 0 n,w.alloc (.cells ((List.replicate n 0).map fun (x:Nat)=>Value.int .u32 x).toArray U32),?_,Grow.alloc _ _,⟨w.heap.size,rfl,av.base.size,Nat.le_trans hB av.base.size,by simp,by unfold maxLen; omega,by simpa using heap_alloc_new w _⟩⟩
  simp [execOp,e1,e2,hm]
end
open Rg in
theorem go_appX {P:Program}{Q:Exit→Act→World→Prop}{B N:Nat}{w0:Bs}{Γ:List (Nat × VA)}{Λ:List Lc}{a:Act}{w:World}{id:Nat}{ops:Array Oper}{sp:List Sp}(n:Nat)(src:List Nat)(i1 i2:Nat){S T1 T2:TypeId}{s u d e c0:Nat}{ps1 ps2:String}{af1 af2:Array Edge}{l r xs:List Nat}{A2:VA}{it:TypeInfo}
  (h:St B w0 N Γ Λ a w) (hob:Obs P Q ⟨ops,N,Γ,lesN Λ,sp,fun i=>List.range i⟩ B w0 0 n) (hn2:ops.size=n+2) (hk:Rg.chk ⟨ops,N,Γ,lesN Λ,sp,fun i=>List.range i⟩=true)
  (ho1:ops[n]?=some ⟨some d,.call ⟨.builtin .append,#[.tmp s,.tmp u],#[S,S]⟩,T1,ps1,af1,none⟩) (ho2:ops[n+1]?=some ⟨some e,.assign (.tmp d),T2,ps2,af2,none⟩)
  (hi1:i1<n) (h1:sp[i1]?=some (.v s (RowX w0.w.heap.size c0 l r))) (hi2:i2<n) (h2:sp[i2]?=some (.v u A2)) (hA2:∀ w u,A2.p B u w→Kept w0 w→(MgA xs).va.p B u w)
  (hS:P.underlying S=some (.slice U32)) (hi:P.info? U32=some it) (hsz:it.size=1) (hroom:xs.length≤r.length) (hde:(d != e)=true) (hd:d<N) (he:e<N)
  (hsrc:src.all (fun k=>match Γ[k]? with | some y => !y.2.deps.contains U32&&Rg.outG ⟨ops,N,Γ,lesN Λ,sp,fun i=>List.range i⟩ y.1 | none=>false)=true)
  (hΛ:Λ.all (fun l=>l.T != U32 && !l.A.deps.contains U32&&l.s != d&&l.s != e)=true)
  (hQ:∀ a w,St B w0 N ((e,RowX w0.w.heap.size c0 (l++xs) (r.drop xs.length))::src.filterMap (fun k=>Γ[k]?)) Λ a w→Q .normal a w):(Code.region id ops false).wp P Q a w:=by
 have hles0:∀ y∈lesN Λ,y.cr=none∧y.st=none∧(⟨y.s,y.T,y.H,y.A0⟩:Lc)∈Λ:=fun y hy=>by
  obtain ⟨l',hl',rfl⟩:=List.mem_map.1 hy
  exact ⟨rfl,rfl,hl'⟩
 refine Rg.linK (R:=⟨ops,N,Γ,lesN Λ,sp,fun i=>List.range i⟩) (m:=2) hn2 rfl hk h (fun y hy _=>(hles0 y hy).2.2) (fun i hi=>hob.all i zo zo) fun a1 w1 hinv=>?_
 have hcl:∀ deps,Rg.clash ⟨ops,N,Γ,lesN Λ,sp,fun i=>List.range i⟩ (fun k=>decide (k<n)) deps=false:=fun deps=>by
  unfold Rg.clash
  rw [List.any_eq_false]
  intro y hy
  rw [(hles0 y hy).2.1]
  simp
 have hv:=hinv.v i1 _ s _ h1 rfl (decide_eq_true hi1) (hcl _)
 have hu:=hA2 _ _ (hinv.v i2 _ u _ h2 rfl (decide_eq_true hi2) (hcl _)) hinv.base
 have hB:B≤w0.w.heap.size:=hinv.lo _ (.inl (Nat.le_refl _))
 obtain ⟨v',w',hr,r1,r2,r3,_⟩:=zrb (T1:=T1) hS hi hsz hroom hv hu
 have hdsz:d<a1.tmps.size:=by rw [hinv.size]; exact hd
 have hesz:e<(a1.put (some d) v').tmps.size:=by rw [zc3,hinv.size]; exact he
 have hne:d≠e:=by simpa using hde
 rw [List.range'_succ,wpOps_cons]
 refine zbw (R:=⟨ops,N,Γ,lesN Λ,sp,fun i=>List.range i⟩) ho1 rfl (zbh (w':=w') (v:=v') (by simp [execOp,resolve,invoke,builtin,hr,Result.andThen]) ?_)
 rw [List.range'_succ,wpOps_cons]
 refine zbw (R:=⟨ops,N,Γ,lesN Λ,sp,fun i=>List.range i⟩) ho2 rfl (zbh (w':=w') (v:=v') ?_ (hQ _ _ ?_))
 ·have:=zb2 a1 d v' hdsz
  simp [execOp,this]
 ·have hother:∀ t,t≠d→t≠e→((a1.put (some d) v').put (some e) v').eval (.tmp t)=a1.eval (.tmp t):=fun t h3 h4=>by
   rw [zaa _ _ _ _ h4,zaa _ _ _ _ h3]
  have hlc:∀ l'∈Λ,l'.T≠U32∧U32 ∉ l'.A.deps∧l'.s≠d∧l'.s≠e:=fun l' hl'=>by
   have:=List.all_eq_true.1 hΛ l' hl'
   simp only [Bool.and_eq_true,bne_iff_ne,Bool.not_eq_true',List.contains_eq_mem,decide_eq_false_iff_not] at this
   exact ⟨this.1.1.1,this.1.1.2,this.1.2,this.2⟩
  have hcur:∀ l'∈Λ,(⟨l'.s,l'.T,l'.H,none,l'.A,none⟩:Le)∈lesN Λ:=fun l' hl'=>List.mem_map.2 ⟨l',hl',rfl⟩
  refine ⟨hinv.lo,hinv.defers.grown r2 r3 rfl,by rw [zc3,zc3]; exact hinv.size,?_,?_,?_,?_⟩
  ·exact ⟨r2.os.trans hinv.base.os,r2.tape.trans hinv.base.tape,r2.output.trans hinv.base.output,Nat.le_trans hinv.base.size r2.size,fun k hk hf =>
    (r2.block k (Nat.lt_of_lt_of_le hk hinv.base.size) (fun e=>by have:=(r3 k e.symm).1; omega)).trans (hinv.base.block k hk hf)⟩
  ·intro y hy
   rcases List.mem_cons.1 hy with rfl | hy
   ·show (RowX w0.w.heap.size c0 (l++xs) (r.drop xs.length)).p B (((a1.put (some d) v').put (some e) v').eval (.tmp e)) w'
    rw [zb2 _ _ _ hesz]
    exact r1
   ·obtain ⟨k,hk1,hk2⟩:=List.mem_filterMap.1 hy
    have hs:=List.all_eq_true.1 hsrc k hk1
    simp only [hk2,Bool.and_eq_true,Bool.not_eq_true',List.contains_eq_mem,decide_eq_false_iff_not] at hs
    have hout:∀ q,q<ops.size→Rg.dst ⟨ops,N,Γ,lesN Λ,sp,fun i=>List.range i⟩ q≠some y.1:=fun q hq=>by
     have:=List.all_eq_true.1 hs.2 q (by simpa using hq)
     simpa using this
    have g1:y.1≠d:=fun e1=>hout n zo (by unfold Rg.dst; rw [ho1,e1]; rfl)
    have g2:y.1≠e:=fun e1=>hout (n+1) zo (by unfold Rg.dst; rw [ho2,e1]; rfl)
    rw [hother _ g1 g2]
    exact VA.grown (hinv.g y (List.mem_of_getElem? hk2) (fun q hq hdq=>absurd hdq (hout q hq)) (hcl _)) r2 r3 hB hs.1
  ·intro l' hl'
   obtain ⟨g1,g2,g3,g4⟩:=hlc l' hl'
   obtain ⟨g,cs,e1,e2,e3,e4⟩:=hinv.c _ (hcur l' hl') l'.A rfl
   refine ⟨g,cs,by rw [hother _ g3 g4]; exact e1,e2,?_,As.grown e4 r2 r3 hB g2⟩
   rw [r2.block g (Array.getElem?_eq_some_iff.1 e3).1 (fun e5=>by
    obtain ⟨_,c,fz,e6⟩:=r3 g e5.symm
    rw [e3] at e6
    injection e6 with e6
    injection e6 with _ e6 _
    exact g1 e6)]
   exact e3
  ·intro l1 hl1 l2 hl2 hne'
   obtain ⟨_,_,g3,g4⟩:=hlc l1 hl1
   obtain ⟨_,_,g5,g6⟩:=hlc l2 hl2
   rw [hother _ g3 g4,hother _ g5 g6]
   exact hinv.x _ (hcur l1 hl1) _ (hcur l2 hl2) hne' rfl rfl
def TwN (l:List Nat):As where
 n:=1
 ag:=false
 p B cs w:=okL l∧∃ g,cs=[.slice (some ⟨g,0,none⟩) l.length (l.length+1)]∧B≤g∧l.length+1≤maxLen∧w.heap[g]?=some (.cells ((l++[7777]).map fun (x:Nat)=>Value.int .u32 x).toArray U32 (0,0))
 deps:=[U32]
 len:=by rintro B cs w ⟨_,g,rfl,_⟩; rfl
 one:=by rintro B cs w ⟨_,g,rfl,_⟩ x hx; simp at hx; subst hx; rfl
 ag1:=fun _=>rfl
 cg:=by
  rintro B cs w w' hg ⟨h0,g,rfl,h1,h2,h3⟩
  exact ⟨h0,g,rfl,h1,h2,hg.heap h3⟩
 wr:=by
  rintro B cs w w' g c T fz hg hT hB hW ⟨h0,g',rfl,h1,h2,h3⟩
  refine ⟨h0,g',rfl,h1,h2,?_⟩
  rw [hW.block g' fun hh=>?_]
  ·exact h3
  ·subst hh
   rw [hg] at h3
   simp only [Option.some.injEq,Obj.cells.injEq] at h3
   exact hT (by simp [h3.2.1])
theorem zr0 {l:List Nat}{B g:Nat}{w:World}(ok:okL l)(h2:l.length+1≤maxLen)(h3:w.heap[g]?=some (.cells ((l++[7777]).map fun (x:Nat)=>Value.int .u32 x).toArray U32 (0,0))):Mag B w (some ⟨g,0,none⟩) (l.length+1) (l++[7777]) :=
 Mag.own h3 (okL_append.2 ⟨ok,zfg zd⟩) (by simp) h2 (fun j hj=>by rw [List.getElem?_toArray,List.getElem?_map,List.getElem?_eq_getElem hj]; rfl)
theorem zzw {l:List Nat}:Wk (TwN l).va (MgA l).va:=fun B v w ⟨cs,⟨ok,g,e,h1,h2,h3⟩,hv⟩=>by
 subst e
 have e2:v=.slice (some ⟨g,0,none⟩) l.length (l.length+1):=hv
 subst e2
 have:=zer ((zr0 (B:=B) ok h2 h3).take l.length) (n:=l.length) (by simp)
 rwa [List.take_left] at this
theorem free_twN (l:List Nat):FreeA (TwN l) (TwN l):=⟨rfl,rfl,fun B B' cs w hB h=>by
 obtain ⟨ok,g,e,h1,h2,h3⟩:=h
 exact ⟨ok,g,e,Nat.le_trans hB h1,h2,h3⟩⟩
def RIT (x:RI):As:=cat [BoA x.neg,TwN x.mag]
theorem zfm (x:RI):FreeA (RIT x) (RIT x):=zcj (.cons (zes _) (.cons (free_twN _) .nil))
def SlK (v:Value)(h:v.oneCell'=true):As where
 n:=1
 ag:=false
 p _ cs _:=cs=[v]
 deps:=[]
 len:=by rintro B cs w rfl; rfl
 one:=by rintro B cs w rfl c hc; simp at hc; subst hc; exact h
 ag1:=fun _=>rfl
 cg:=fun _ _ _ _ _ h=>h
 wr:=fun _ _ _ _ _ _ _ _ _ _ _ _ h=>h
theorem eqv_slK {v:Value}{h:v.oneCell'=true}:Wk (EqV v) (SlK v h).va:=fun _ u _ e=>⟨[v],rfl,e⟩
theorem St.toRow {B N:Nat}{w0:Bs}{Γ:List (Nat × VA)}{Λ:List Lc}{a:Act}{w:World}(h:St B w0 N Γ Λ a w){s c:Nat}{l r:List Nat}(k:Nat)(hm:Γ[k]?=some (s,RowX w0.w.heap.size c l r))(hΛ:Λ.all (fun m=>m.T != U32)=true) :
  ∃ g,B≤g∧c=(l++r).length∧c≤maxLen∧St B w0 N (Γ.set k (s,EqV (.slice (some ⟨g,0,none⟩) l.length c))) (Λ++[⟨s,U32,slH l.length c,Nums .u32 (l++r)⟩]) a w:=by
 obtain ⟨g,hv,h2,h3,h4,h5,h6⟩:=h.vals _ (List.mem_of_getElem? hm)
 have hd:∀ m∈Λ,blk (a.eval (.tmp m.s))≠some g:=by
  intro m hm2 hh
  obtain ⟨g',cs,e1,_,e3,_⟩:=h.locs m hm2
  rw [e1,m.H.ok] at hh
  injection hh with hh
  subst hh
  rw [e3] at h6
  simp only [Option.some.injEq,Obj.cells.injEq] at h6
  have:=List.all_eq_true.1 hΛ m hm2
  simp [h6.2.1] at this
 have hv':a.eval (.tmp s)=.slice (some ⟨g,0,none⟩) l.length c:=hv
 have hg:blk (a.eval (.tmp s))=some g:=by rw [hv']; rfl
 refine ⟨g,h3,h4,h5,h.lo,h.defers,h.size,h.base,fun x hx=>?_,fun x hx=>?_,fun x hx y hy hne=>?_⟩
 ·rcases List.mem_or_eq_of_mem_set hx with hx | rfl
  ·exact h.vals x hx
  ·exact hv'
 ·rcases List.mem_append.1 hx with hx | hx
  ·exact h.locs x hx
  ·obtain rfl:=List.mem_singleton.1 hx
   exact ⟨g,_,hv',.inl h2,h6,rfl⟩
 ·rcases List.mem_append.1 hx with hx | hx <;> rcases List.mem_append.1 hy with hy | hy
  ·exact h.dis x hx y hy hne
  ·obtain rfl:=List.mem_singleton.1 hy
   rw [hg]; exact hd x hx
  ·obtain rfl:=List.mem_singleton.1 hx
   rw [hg]; exact fun e=>hd y hy e.symm
  ·obtain rfl:=List.mem_singleton.1 hx
   obtain rfl:=List.mem_singleton.1 hy
   exact absurd rfl hne
section
variable {P:Program} {R:Rg} {Q:Exit→Act→World→Prop} {B i:Nat} {w0:Bs}
theorem ob_appI {d s e g c:Nat}{cr:Option Nat}{l r xs:List Nat}{x y:Operand}{S ty:TypeId}{ps:String}{af:Array Edge}{it:TypeInfo}
  (hs:R.sp[i]?=some (.cal d (EqV (.slice (some ⟨g,0,none⟩) (l.length+xs.length) c)) e)) (he:R.les[e]?=some ⟨s,U32,slH l.length c,cr,Nums .u32 (l++r),some (i,Nums .u32 (l++xs++r.drop xs.length))⟩) (ho:R.ops[i]?=some ⟨some d,.call ⟨.builtin .append,#[x,y],#[S,S]⟩,ty,ps,af,none⟩)
  (hS:P.underlying S=some (.slice U32)) (hi:P.info? U32=some it) (hsz:it.size=1) (hroom:xs.length≤r.length) (hc:c=(l++r).length) (hmx:c≤maxLen) (hx:Has R B w0 i x (EqV (.slice (some ⟨g,0,none⟩) l.length c))) (hsl:Has R B w0 i (.tmp s) (EqV (.slice (some ⟨g,0,none⟩) l.length c))) (hy:Has R B w0 i y (MgA xs).va):R.Ob P Q B w0 i:=by
 unfold Rg.Ob
 simp only [hs,he]
 intro a w av g' cs h1 hB h3 h4 _ K hK
 have e1:a.eval x=_:=hx a w av
 have e2:a.eval (.tmp s)=.slice (some ⟨g,0,none⟩) l.length c:=hsl a w av
 have eg:g=g':=by
  rw [h1] at e2
  have:some g'=some g:=congrArg blk e2
  injection this with this
  exact this.symm
 subst eg
 have h4':cs=(l++r).map fun (x:Nat)=>Value.int .u32 x:=h4
 obtain ⟨v',w',hr,hX,hgr,_,hbk⟩:=zrb (P:=P) (S:=S) (T1:=ty) (b:=g) (c:=c) (B:=B) (l:=l) (r:=r) (xs:=xs) (w:=w) hS hi hsz hroom ⟨g,rfl,Nat.le_refl _,hB,hc,hmx,by rw [← h4']; exact h3⟩ (hy a w av)
 obtain ⟨g2,q1,_,_,q4,q5,q6⟩:=hX
 refine zbw ho rfl (zbh (w':=w') (v:=v') (by simp [execOp,resolve,invoke,builtin,e1,hr,Result.andThen]) ?_)
 have eg2:g2=g:=by
  rw [q1] at hbk
  injection hbk
 subst eg2
 exact hK v' _ w' ⟨hgr.os,hgr.tape,hgr.output,hgr.size,fun k hk hf=>hgr.block k hk fun e=>hf (by injection e)⟩ q6 rfl (by rw [q1,List.length_append]; rfl)
end
end Go.Proofs.YthdbhckhignfcaaGreatDoor
namespace Go.Proofs.YthdbhckhignfcaaGreatDoor
open Go Go.RowKit
theorem oneK {g n c:Nat}:(Value.slice (some ⟨g,0,none⟩) n c).oneCell'=true:=rfl
theorem St.twin {B N:Nat}{w0:Bs}{Γ:List (Nat × VA)}{Λ:List Lc}{a:Act}{w:World}(h:St B w0 N Γ Λ a w){s s2 T2 g c:Nat}{H2:Hd}{b:Bool}{l:List Nat}(k e2 e3:Nat)(hm:Γ[k]?=some (s,EqV (.slice (some ⟨g,0,none⟩) l.length c)))(he2:Λ[e2]?=some ⟨s2,T2,H2,cat [BoA b,SlK (.slice (some ⟨g,0,none⟩) l.length c) oneK]⟩)
  (he3:Λ[e3]?=some ⟨s,U32,slH l.length c,Nums .u32 (l++[7777])⟩) (ok:okL l) (hc:c=l.length+1) (hcm:c≤maxLen) (hB:B≤g):St B w0 N Γ (Λ.set e2 ⟨s2,T2,H2,RIT ⟨b,l⟩⟩) a w:=by
 obtain ⟨g3,cs3,f1,_,f3,f4⟩:=h.locs _ (List.mem_of_getElem? he3)
 have f4':cs3=(l++[7777]).map fun (x:Nat)=>Value.int .u32 x:=f4
 have f5:a.eval (.tmp s)=.slice (some ⟨g,0,none⟩) l.length c:=h.vals _ (List.mem_of_getElem? hm)
 have eg:g=g3:=by
  rw [f5] at f1
  have:some g=some g3:=congrArg blk f1
  injection this
 subst eg
 rw [f4'] at f3
 have hset:∀ m∈Λ.set e2 ⟨s2,T2,H2,RIT ⟨b,l⟩⟩,m=⟨s2,T2,H2,RIT ⟨b,l⟩⟩∨m∈Λ:=fun m hm=>(List.mem_or_eq_of_mem_set hm).symm
 have hin:=List.mem_of_getElem? he2
 refine ⟨h.lo,h.defers,h.size,h.base,h.vals,fun m hm'=>?_,fun m hm1 m' hm2 hne=>?_⟩
 ·rcases hset m hm' with rfl | hm'
  ·obtain ⟨g2,cs,e1,e2',e3',e4⟩:=h.locs _ hin
   refine ⟨g2,cs,e1,e2',e3',?_⟩
   obtain ⟨ps,q1,q2⟩:=e4
   cases q2 with
   | cons q3 q2=>cases q2 with
    | cons q4 q2 =>
     refine ⟨_,q1,.cons q3 (.cons ?_ q2)⟩
     exact ⟨ok,g,by rw [← hc]; exact q4,hB,by rw [← hc]; exact hcm,f3⟩
  ·exact h.locs m hm'
 ·have key:∀ m∈Λ.set e2 ⟨s2,T2,H2,RIT ⟨b,l⟩⟩,∃ m'∈Λ,m'.s=m.s:=fun m hm=>by
   rcases hset m hm with rfl | hm
   ·exact ⟨_,hin,rfl⟩
   ·exact ⟨m,hm,rfl⟩
  obtain ⟨p,p1,p2⟩:=key m hm1
  obtain ⟨p',p3,p4⟩:=key m' hm2
  rw [← p2,← p4]
  exact h.dis p p1 p' p3 (by rw [p2,p4]; exact hne)
theorem drop_rep (n:Nat):(List.replicate (n+1) 0).drop n=[0]:=by rw [List.drop_replicate,Nat.add_sub_cancel_left]; rfl
theorem zo7 (x:RI)(hx:x.mag.length≤1000000000000):Cn Tryz.prog 89 [(RIA x).va] ((RIT x).va):=by
 obtain ⟨it,z,e1,e2,e3,e4,e5⟩:=zkx
 refine Cn.introW Tryz.func89 rfl zk nq (.cons (ztc _).va .nil) (zfm _).va (fun B w0 a hB0 O=>?_)
 have O:=zn [(0,(RIO x).va)] [] O
 have hok:okL x.mag:=(zie (wk_riO _ _ _ (O.vals _ (zm 0 rfl)))).1
 refine wp_seq<|zg [] [⟨1,25,ptrH,some 0,_,none⟩,⟨2,25,ptrH,some 1,_,none⟩] [.alc 0,.alc 1] [] O (oc (zam rfl rfl rfl (gq 0 rfl)) (oc (zas rfl rfl rfl (Str.zero zga)) o0)) (zz [] [⟨1,25,ptrH,_⟩,⟨2,25,ptrH,_⟩] fun a w O=>?_)
 refine zt<|zg [none,none] [] [.adr 4 1 (.some 1) True,.v 5 _,.v 6 _,.v 7 (In ((x.mag.length+1:Nat):Int)),.v 8 _,.v 3 _] [.o 5] O (oc (ob_a rfl rfl (za9 (lz0 0 rfl) zah)) (zv rfl (za4 0 rfl zk trivial (lz0 0 rfl) (Sub.part 1 rfl rfl) zb9) (zv rfl (zax Tryz.underlying23 (zaz (vq 1 rfl))) (zv rfl (zb5 (vq 2 rfl) za3 (zb3 zo)) (zv rfl (r_make0 zfs (Nat.le_of_eq hB0) za3 (vq 3 rfl) zo) (zv rfl (za2 (vq 4 rfl)) o0)))))) (zz [(3,_)] [⟨1,25,ptrH,_⟩,⟨2,25,ptrH,_⟩] fun a w O=>?_)
 refine zt<|go_appX (sp:=[.v 9 _,.adr 10 1 (.some 1) True,.v 11 _,.v 12 VT,.v 3 VT]) 3 [] 0 2 O (zv rfl (za1 (gq 0 rfl)) (oc (ob_a rfl rfl (za9 (lz0 0 rfl) zah)) (zv rfl (za4 1 rfl zk trivial (lz0 0 rfl) (Sub.part 1 rfl rfl) zb9) o0))) rfl zk rfl rfl zd rfl zd rfl (xs:=x.mag) (fun w u h k=>zj0 _ _ _ h) Tryz.underlying23 e1 e3 (by simp) zk nq nq zk zk (fun a w O=>?_)
 have O:=St.wkG (A':=RowX w0.w.heap.size (x.mag.length+1) x.mag [0]) O 0 rfl (zbt (by rw [drop_rep]; rfl))
 have O:=zn [(3,_)] [⟨1,25,ptrH,_⟩,⟨2,25,ptrH,_⟩] O
 refine zt ?_
 obtain ⟨g,hBg,hce,hcm,O⟩:=St.toRow O 0 rfl rfl
 refine zgd [[],[0],[],[],[2,3],[],[5],[5,6],[2,3,4,5,6,7],[0,1,2,3,4,5,6,7,8],[0,1,2,3,4,5,6,7,8,9]] [none,some (10,_),some (4,_)] [] [.adr 13 1 (.some 0) True,.v 14 _,.v 15 _,.v 16 _,.cal 17 (EqV (.slice (some ⟨g,0,none⟩) (x.mag.length+[7777].length) (x.mag.length+1))) 2,.adr 18 1 (.some 1) True,.v 19 _,.v 20 _,.v 21 (EqV (.slice (some ⟨g,0,none⟩) x.mag.length (x.mag.length+1))),.v 22 _,.sto 1] [.g 0] za6 O (oc (ob_a rfl rfl (za9 (lz0 0 rfl) zb7)) (zv rfl (za4 0 rfl zk trivial (lz0 0 rfl) (Sub.part 0 rfl rfl) ty_4) (zv rfl (za1 (gq 0 rfl)) (zv rfl (zdo (l:=[_]) (xs:=[.const (.int .u32 (7777))]) zbc zk nq nq (zfg zd) (.cons (zau 7777 rfl) .nil) rfl rfl) (oc (ob_appI (l:=x.mag) (r:=[0]) (xs:=[7777]) rfl rfl rfl Tryz.underlying23 e1 e3 zd hce hcm (vq 2 rfl) (gq 0 rfl) (vq 3 rfl)) (oc (ob_a rfl rfl (za9 (lz0 0 rfl) zah)) (zv rfl (za4 5 rfl zk trivial (lz0 0 rfl) (Sub.part 1 rfl rfl) zb9) (zv rfl (zax Tryz.underlying23 (zaz (vq 6 rfl))) (zv rfl (zwa zbc (has_c 4 rfl zk zk) (vq 7 rfl) ⟨by omega,by omega⟩) (zv rfl (zbg (xs:=[(0,.tmp 14),(1,.tmp 21)]) (qs:=[(0,_),(1,SlK (.slice (some ⟨g,0,none⟩) x.mag.length (x.mag.length+1)) oneK)]) zga (.cons ⟨rfl,(vq 1 rfl),rfl⟩ (.cons ⟨rfl,has_wk' (vq 8 rfl) (eqv_slK (h:=oneK)),rfl⟩ .nil))) (oc (zak rfl rfl rfl (vq 9 rfl) zac (Eq.trans (b:=2) rfl rfl)) o0))))))))))) zk zk zk zk (zz [(3,_)] [⟨1,25,ptrH,_⟩,⟨2,25,ptrH,_⟩,⟨3,106,slH _ _,_⟩] fun a w O=>?_)
 have O:=St.wkL (A:=Nums .u32 (x.mag++[7777]++[])) (A':=Nums .u32 (x.mag++[7777])) O 2 rfl (zju (by rw [List.append_nil]))
 have O:=St.twin O 0 1 2 rfl rfl rfl hok (by simp at hce; omega) hcm hBg
 refine za0<|wp_ret<|zai ?_ (zaj rfl O (zm 1 rfl) zac)
 exact zbn
end Go.Proofs.YthdbhckhignfcaaGreatDoor
namespace Go.Proofs.YthdbhckhignfcaaGreatDoor
open Go Go.RowKit
def RFT (x:RF):As:=cat [RIT x.num,RIT x.den]
theorem wkA_twN {l:List Nat}:WkA (TwN l) (MgA l):=⟨rfl,rfl,fun B cs w h=>by
 obtain ⟨cs',h1,h2⟩:=zzw B (shape false cs) w ⟨cs,h,rfl⟩
 have l1:=(TwN l).len _ _ _ h
 have l2:=(MgA l).len _ _ _ h1
 match cs,cs',l1,l2 with
 | [c],[c'],_,_ =>
  have e:c=c':=h2
  subst e
  exact h1⟩
theorem wkA_rit {x:RI}:WkA (RIT x) (RIA x):=zc1 (.cons (.refl _) (.cons wkA_twN .nil))
theorem zm5 {x:RF}:WkA (RFT x) (RFA x):=zc1 (.cons wkA_rit (.cons wkA_rit .nil))
section
variable {P:Program} {R:Rg} {Q:Exit→Act→World→Prop} {B i:Nat} {w0:Bs}
theorem twN_va {l:List Nat}{B:Nat}{v:Value}{w:World}(h:(TwN l).va.p B v w):okL l∧∃ g,v=.slice (some ⟨g,0,none⟩) l.length (l.length+1)∧l.length+1≤maxLen∧w.heap[g]?=some (.cells ((l++[7777]).map fun (x:Nat)=>Value.int .u32 x).toArray U32 (0,0)):=by
 obtain ⟨cs,⟨ok,g,e,h1,h2,h3⟩,hv⟩:=h
 subst e
 exact ⟨ok,g,hv,h2,h3⟩
theorem r_capT {x:Operand}{S E':TypeId}{l:List Nat}(hS:P.underlying S=some (.slice E'))(hx:Has R B w0 i x (TwN l).va):Wv P Q R B w0 i (.call ⟨.builtin .cap,#[x],#[S]⟩) (In ((l.length+1:Nat):Int)) :=
 zbr fun d T ps af gd a w av=>by
  obtain ⟨_,g,hv,_,_⟩:=twN_va (hx a w av)
  refine ⟨.int .i64 ((l.length+1:Nat):Int),w,?_,Grow.refl w,zct _ _ _ _⟩
  simp [execOp,resolve,invoke,builtin,hv,Builtin.cap_,run_underlying hS,goInt]
theorem r_reslT {x z:Operand}{S:TypeId}{l:List Nat}(hS:Sl P S U32 1)(hx:Has R B w0 i x (TwN l).va)(hz:Has R B w0 i z (In ((l.length+1:Nat):Int))):Wv P Q R B w0 i (.slice S x none (some z) none) (MgA (l++[7777])).va :=
 zbr fun d T ps af gd a w av=>by
  obtain ⟨hs1,hs2⟩:=hS
  obtain ⟨ok,g,e1,hm,hh⟩:=twN_va (hx a w av)
  have e3:=zbq (hz a w av)
  have hE:P.elem S=U32:=by simp [Program.elem,hs1]
  have hs1':P.underlying S=some (.slice (P.elem S)):=by rw [hE]; exact hs1
  have hsz:∀ w,(sizeOf U32).run P w=.ok 1 w:=fun w=>by
   cases hi:P.info? U32 with
   | none=>rw [hi] at hs2; simp at hs2
   | some it=>rw [hi] at hs2; simp [sizeOf,typeInfo,hi]; simpa using hs2
  refine ⟨.slice (some ⟨g,0,none⟩) (l.length+1) (l.length+1),w,?_,Grow.refl w,zer (zr0 ok hm hh) (by simp)⟩
  have hr:=run_slice_h (P:=P) w S (some ⟨g,0,none⟩) l.length (l.length+1) hs1' .i64 ((l.length+1:Nat):Int) zo zo
  rw [hE,hsz] at hr
  have hne:¬ l.length+1=0:=by omega
  simp only [Result.andThen_ok,sliced,Int.toNat_natCast,hne,if_false,Nat.mul_one,Option.map_some,Nat.sub_zero] at hr
  simp only [execOp,e1,e3,Option.map_some,run_sliceAt_slice _ _ _ _ _ _ hs1',Sem.run_bind,Sem.run_pure]
  erw [hr]
  simp [Addr.add]
end
set_option maxHeartbeats 1000000 in
theorem zow (x y:RI)(hx:x.mag.length≤1000000000000):Cn Tryz.prog 117 [(RIT x).va,(RIA y).va] (Bo (decide (x=y))):=by
 refine Cn.intro Tryz.func117 rfl zk nq (fun B w0 a O=>?_)
 have O:=zn [(0,(RIT x).va),(1,(RIA y).va)] [] O
 refine wp_seq<|zg [] [⟨2,25,ptrH,some 0,_,none⟩,⟨3,25,ptrH,some 1,_,none⟩] [.alc 0,.alc 1,.v 4 _] [.o 2] O (oc (zam rfl rfl rfl (gq 0 rfl)) (oc (zam rfl rfl rfl (gq 1 rfl)) (zv rfl (za2 zav) o0))) (zz [(4,_)] [⟨2,25,ptrH,_⟩,⟨3,25,ptrH,_⟩] fun a w O=>?_)
 refine zt<|zis (anc:=[[],[],[0,1],[0,1,2],[0,1,2,3],[0,1,2,3,4],[0,1,2,3,4,5],[0,1,2,3],[0,1,2,3,7],[0,1,2,3,7,8],[0,1,2,3,4,5,6,7,8,9],[0,1,2,3,4,5,6,7,8,9,10],[0,1,2,3,4,5,6,7,8,9,10,11],[0,1,2,3,4,5,6,7,8,9,10,11,12],[0,1,2,3,4,5,6,7,8,9,10,11,12,13],[0,1,2,3,4,5,6,7,8,9,10,11,12],[0,1,2,3,4,5,6,7,8,9,10,11,12,15],[0,1,2,3,4,5,6,7,8,9,10,11,12,15,16],[0,1,2,3,4,5,6,7,8,9,10,11,12,15,16,17],[0,1,2,3,4,5,6,7,8,9,10,11,12,13,14,15,16,17,18],[0,1,2,3,4,5,6,7,8,9,10,11,12],[0,1,2,3,4,5,6,7,8,9,10,11,12,20],[0,1,2,3,4,5,6,7,8,9,10,11,12,20,21],[0,1,2,3,4,5,6,7,8,9,10,11,12,13,14,15,16,17,18,19,20,21,22],[0,1,2,3,4,5,6,7,8,9,10,11,12,13,14,15,16,17,18,19,20,21,22,23],[0,1,2,3,4,5,6,7,8,9,10,11,12,13,14,15,16,17,18,19,20,21,22,23,24],[0,1,2,3,4,5,6,7,8,9,10,11,12,13,14,15,16,17,18,19,20,21,22,23,24,25],[0,1,2,3,4,5,6,7,8,9,10,11,12,13,14,15,16,17,18,19,20,21,22,23,24,25,26]]) (sts:=[none,none]) (news:=[]) (sp:=((.v 5 _:Sp)::(.v 6 _)::(.v 7 _)::(.v 8 _)::(.adr 9 2 (.some 1) (_=true))::(.v 10 (Wh (_=true) _))::(.v 11 (Wh (_=true) _))::(.adr 12 2 (.some 1) (_=true))::(.v 13 (Wh (_=true) _))::(.v 14 (Wh (_=true) _))::(.v 15 (Wh (_=true) _))::(.v 16 _)::(.v 17 _)::(.adr 18 2 (.some 1) (_=true))::(.v 19 (Wh (_=true) _))::(.adr 20 2 (.some 1) (_=true))::(.v 21 (Wh (_=true) _))::(.v 22 (Wh (_=true) _))::(.v 23 (Wh (_=true) _))::(.v 24 (Wh (_=true) _))::(.adr 25 2 (.some 1) (_=true))::(.v 26 (Wh (_=true) _))::(.v 27 (Wh (_=true) _))::(.v 28 (Wh (_=true) _))::(.v 29 (Wh (_=true) _))::(.v 30 (Wh (_=true) _))::(.v 31 _)::(.v 4 _)::[])) [.o 27] za6 O (zv rfl (zaq (lz0 0 rfl) zac) (zv rfl (zaq (lz0 1 rfl) zac) (zv rfl (za5 (xs:=[.tmp 5,.tmp 6]) ((zk2 x y).wk (.cons wkA_rit.va (.cons zbn .nil))) (.cons (vq 0 rfl) (.cons (vq 1 rfl) .nil))) (zv rfl (za1 (vq 2 rfl)) (oc (zce rfl rfl rfl (vq 3 rfl) nq (fun hg=>za9 (lz0 0 rfl) zah)) (oc (zan rfl rfl rfl (vq 3 rfl) nq (fun hg=>za4 4 rfl zk hg (lz0 0 rfl) (Sub.part 1 rfl rfl) zb9)) (oc (zan rfl rfl rfl (vq 3 rfl) nq (fun hg=>r_capT Tryz.underlying23 (zab (vq 5 rfl) hg))) (oc (zce rfl rfl rfl (vq 3 rfl) nq (fun hg=>za9 (lz0 0 rfl) zah)) (oc (zan rfl rfl rfl (vq 3 rfl) nq (fun hg=>za4 7 rfl zk hg (lz0 0 rfl) (Sub.part 1 rfl rfl) zb9)) (oc (zan rfl rfl rfl (vq 3 rfl) nq (fun hg=>zax Tryz.underlying23 (has_wk' (zab (vq 8 rfl) hg) zzw))) (oc (zan rfl rfl rfl (vq 3 rfl) nq (fun hg=>zev (zab (vq 6 rfl) hg) (zab (vq 9 rfl) hg))) (zv rfl (zcc (vq 3 rfl) (vq 10 rfl)) (zv rfl (za1 (vq 11 rfl)) (oc (zce rfl rfl rfl (vq 12 rfl) nq (fun hg=>za9 (lz0 0 rfl) zah)) (oc (zan rfl rfl rfl (vq 12 rfl) nq (fun hg=>za4 13 rfl zk hg (lz0 0 rfl) (Sub.part 1 rfl rfl) zb9)) (oc (zce rfl rfl rfl (vq 12 rfl) nq (fun hg=>za9 (lz0 0 rfl) zah)) (oc (zan rfl rfl rfl (vq 12 rfl) nq (fun hg=>za4 15 rfl zk hg (lz0 0 rfl) (Sub.part 1 rfl rfl) zb9)) (oc (zan rfl rfl rfl (vq 12 rfl) nq (fun hg=>zax Tryz.underlying23 (has_wk' (zab (vq 16 rfl) hg) zzw))) (oc (zan rfl rfl rfl (vq 12 rfl) nq (fun hg=>zb5 (zab (vq 17 rfl) hg) za3 (zb3 zo))) (oc (zan rfl rfl rfl (vq 12 rfl) nq (fun hg=>r_reslT zbc (zab (vq 14 rfl) hg) (zab (vq 18 rfl) hg))) (oc (zce rfl rfl rfl (vq 12 rfl) nq (fun hg=>za9 (lz0 0 rfl) zah)) (oc (zan rfl rfl rfl (vq 12 rfl) nq (fun hg=>za4 20 rfl zk hg (lz0 0 rfl) (Sub.part 1 rfl rfl) zb9)) (oc (zan rfl rfl rfl (vq 12 rfl) nq (fun hg=>zax Tryz.underlying23 (has_wk' (zab (vq 21 rfl) hg) zzw))) (oc (zan rfl rfl rfl (vq 12 rfl) nq (fun hg=>zmj zbc (zab (vq 19 rfl) hg) (zab (vq 22 rfl) hg) (by simp))) (oc (zan rfl rfl rfl (vq 12 rfl) nq (fun hg=>zad (zab (vq 23 rfl) hg) zb0)) (oc (zan rfl rfl rfl (vq 12 rfl) nq (fun hg=>zca (zab (vq 24 rfl) hg) (zau 7777 rfl))) (zv rfl (zcc (vq 12 rfl) (vq 25 rfl)) (zv rfl (za2 (vq 26 rfl)) o0)))))))))))))))))))))))))))) zk zk zk zk (zz [(4,_)] [⟨2,25,ptrH,_⟩,⟨3,25,ptrH,_⟩] fun a w O=>?_)
 refine za0<|wp_ret<|zai ?_ (zaf rfl O (zm 0 rfl))
 refine zbt (congrArg Bo ?_); simp; omega
def bdF (x:RF):Prop:=x.num.mag.length≤1000000000000∧x.den.mag.length≤1000000000000
def RRT (x:RR):As:=cat [RFT x.y,RFT x.u]
theorem wkA_rrt {x:RR}:WkA (RRT x) (RRA x):=zc1 (.cons zm5 (.cons zm5 .nil))
theorem zgg (x y:RF)(hx:bdF x):Cn Tryz.prog 34 [(RFT x).va,(RFA y).va] (Bo (decide (x=y))):=by
 refine Cn.intro Tryz.func34 rfl zk nq (fun B w0 a O=>?_)
 have O:=zn [(0,(RFT x).va),(1,(RFA y).va)] [] O
 refine wp_seq<|zg [] [⟨2,27,ptrH,some 0,_,none⟩,⟨3,27,ptrH,some 1,_,none⟩] [.alc 0,.alc 1,.v 4 _] [.o 2] O (oc (zam rfl rfl rfl (gq 0 rfl)) (oc (zam rfl rfl rfl (gq 1 rfl)) (zv rfl (za2 zav) o0))) (zz [(4,_)] [⟨2,27,ptrH,_⟩,⟨3,27,ptrH,_⟩] fun a w O=>?_)
 refine zt<|zg [none,none] [] [.adr 5 2 (.some 0) True,.v 6 _,.adr 7 3 (.some 0) True,.v 8 _,.v 9 _,.v 10 _,.adr 11 2 (.some 2) (_=true),.v 12 (Wh (_=true) _),.adr 13 3 (.some 2) (_=true),.v 14 (Wh (_=true) _),.v 15 (Wh (_=true) _),.v 16 _,.v 4 _] [.o 12] O (oc (ob_a rfl rfl (za9 (lz0 0 rfl) zbf)) (zv rfl (za4 0 rfl zk trivial (lz0 0 rfl) (Sub.part 0 rfl rfl) zac) (oc (ob_a rfl rfl (za9 (lz0 1 rfl) zbf)) (zv rfl (za4 2 rfl zk trivial (lz0 1 rfl) (Sub.part 0 rfl rfl) zac) (zv rfl (za5 (xs:=[.tmp 6,.tmp 8]) (zow _ _ hx.1) (.cons (vq 1 rfl) (.cons (vq 3 rfl) .nil))) (zv rfl (za1 (vq 4 rfl)) (oc (zce rfl rfl rfl (vq 5 rfl) nq (fun hg=>za9 (lz0 0 rfl) zbb)) (oc (zan rfl rfl rfl (vq 5 rfl) nq (fun hg=>za4 6 rfl zk hg (lz0 0 rfl) (Sub.part 1 rfl rfl) zac)) (oc (zce rfl rfl rfl (vq 5 rfl) nq (fun hg=>za9 (lz0 1 rfl) zbb)) (oc (zan rfl rfl rfl (vq 5 rfl) nq (fun hg=>za4 8 rfl zk hg (lz0 1 rfl) (Sub.part 1 rfl rfl) zac)) (oc (zan rfl rfl rfl (vq 5 rfl) nq (fun hg=>za5 (xs:=[.tmp 12,.tmp 14]) (zow _ _ hx.2) (.cons (zab (vq 7 rfl) hg) (.cons (zab (vq 9 rfl) hg) .nil)))) (zv rfl (zcc (vq 5 rfl) (vq 10 rfl)) (zv rfl (za2 (vq 11 rfl)) o0))))))))))))) (zz [(4,_)] [⟨2,27,ptrH,_⟩,⟨3,27,ptrH,_⟩] fun a w O=>?_)
 refine za0<|wp_ret<|zai ?_ (zaf rfl O (zm 0 rfl))
 exact zbt (congrArg Bo rf_eq)
theorem zxn (x y:RR)(hx:bdF x.y∧bdF x.u):Cn Tryz.prog 13 [(RRT x).va,(RRA y).va] (Bo (decide (x=y))):=by
 refine Cn.intro Tryz.func13 rfl zk nq (fun B w0 a O=>?_)
 have O:=zn [(0,(RRT x).va),(1,(RRA y).va)] [] O
 refine wp_seq<|zg [] [⟨2,29,ptrH,some 0,_,none⟩,⟨3,29,ptrH,some 1,_,none⟩] [.alc 0,.alc 1,.v 4 _] [.o 2] O (oc (zam rfl rfl rfl (gq 0 rfl)) (oc (zam rfl rfl rfl (gq 1 rfl)) (zv rfl (za2 zav) o0))) (zz [(4,_)] [⟨2,29,ptrH,_⟩,⟨3,29,ptrH,_⟩] fun a w O=>?_)
 refine zt<|zg [none,none] [] [.adr 5 2 (.some 0) True,.v 6 _,.adr 7 3 (.some 0) True,.v 8 _,.v 9 _,.v 10 _,.adr 11 2 (.some 4) (_=true),.v 12 (Wh (_=true) _),.adr 13 3 (.some 4) (_=true),.v 14 (Wh (_=true) _),.v 15 (Wh (_=true) _),.v 16 _,.v 4 _] [.o 12] O (oc (ob_a rfl rfl (za9 (lz0 0 rfl) zci)) (zv rfl (za4 0 rfl zk trivial (lz0 0 rfl) (Sub.part 0 rfl rfl) zar) (oc (ob_a rfl rfl (za9 (lz0 1 rfl) zci)) (zv rfl (za4 2 rfl zk trivial (lz0 1 rfl) (Sub.part 0 rfl rfl) zar) (zv rfl (za5 (xs:=[.tmp 6,.tmp 8]) (zgg _ _ hx.1) (.cons (vq 1 rfl) (.cons (vq 3 rfl) .nil))) (zv rfl (za1 (vq 4 rfl)) (oc (zce rfl rfl rfl (vq 5 rfl) nq (fun hg=>za9 (lz0 0 rfl) zch)) (oc (zan rfl rfl rfl (vq 5 rfl) nq (fun hg=>za4 6 rfl zk hg (lz0 0 rfl) (Sub.part 1 rfl rfl) zar)) (oc (zce rfl rfl rfl (vq 5 rfl) nq (fun hg=>za9 (lz0 1 rfl) zch)) (oc (zan rfl rfl rfl (vq 5 rfl) nq (fun hg=>za4 8 rfl zk hg (lz0 1 rfl) (Sub.part 1 rfl rfl) zar)) (oc (zan rfl rfl rfl (vq 5 rfl) nq (fun hg=>za5 (xs:=[.tmp 12,.tmp 14]) (zgg _ _ hx.2) (.cons (zab (vq 7 rfl) hg) (.cons (zab (vq 9 rfl) hg) .nil)))) (zv rfl (zcc (vq 5 rfl) (vq 10 rfl)) (zv rfl (za2 (vq 11 rfl)) o0))))))))))))) (zz [(4,_)] [⟨2,29,ptrH,_⟩,⟨3,29,ptrH,_⟩] fun a w O=>?_)
 refine za0<|wp_ret<|zai ?_ (zaf rfl O (zm 0 rfl))
 exact zbt (congrArg Bo rr_eq)
end Go.Proofs.YthdbhckhignfcaaGreatDoor
namespace Go.Proofs.YthdbhckhignfcaaGreatDoor
open Go Go.RowKit
def LenS (k:Nat):As where
 n:=1
 ag:=false
 p _ cs _:=∃ g c,cs=[.slice (some ⟨g,0,none⟩) k c]
 deps:=[]
 len:=by rintro B cs w ⟨g,c,rfl⟩; rfl
 one:=by rintro B cs w ⟨g,c,rfl⟩ x hx; simp at hx; subst hx; rfl
 ag1:=fun _=>rfl
 cg:=fun _ _ _ _ _ h=>h
 wr:=fun _ _ _ _ _ _ _ _ _ _ _ _ h=>h
def IntZ:As:=cat [BoA false,EqS (.slice none 0 0)]
def IntM (n:Nat):As:=cat [BoA false,LenS (1+n%40)]
def FrZ:As:=cat [IntZ,IntZ]
def FrM (n:Nat):As:=cat [IntM n,IntZ]
def MkE (n:Nat):As:=cat [NumA .u8 99,FrM n,FrZ]
def MkR (n:Nat):As:=cat [FrM n,FrZ]
def anyA (A:As):Prop:=∀ B B' w w' cs,A.p B cs w→A.p B' cs w'
theorem ziw {l:List As}(h:∀ A∈l,anyA A):anyA (cat l):=by
 rintro B B' w w' cs ⟨ps,e,hp⟩
 refine ⟨ps,e,?_⟩
 clear e
 induction hp with
 | nil=>exact .nil
 | cons h1 _ ih=>exact .cons (h _ (by simp) _ _ _ _ _ h1) (ih fun A hA=>h A (by simp [hA]))
theorem zgn {A A':As}(h:anyA A)(h':anyA A'):∀ X∈[A,A'],anyA X:=fun X hX=>by
 rcases List.mem_cons.1 hX with rfl | hX
 ·exact h
 ·obtain rfl:=List.mem_singleton.1 hX; exact h'
theorem zzm:anyA IntZ:=ziw (zgn (fun _ _ _ _ _ h=>h) (fun _ _ _ _ _ h=>h))
theorem any_im (n:Nat):anyA (IntM n):=ziw (zgn (fun _ _ _ _ _ h=>h) (fun _ _ _ _ _ h=>h))
theorem any_fz:anyA FrZ:=ziw (zgn zzm zzm)
theorem any_fm (n:Nat):anyA (FrM n):=ziw (zgn (any_im n) zzm)
theorem mkp_r:MkP MkR 8:=⟨fun _=>rfl,fun _=>rfl,fun n=>ziw (zgn (any_fm n) any_fz)⟩
theorem mkp_e:MkP MkE 9:=⟨fun _=>rfl,fun _=>rfl,fun n=>ziw (fun X hX=>by
 rcases List.mem_cons.1 hX with rfl | hX
 ·exact fun _ _ _ _ _ h=>h
 ·exact zgn (any_fm n) any_fz X hX)⟩
section
variable {P:Program} {R:Rg} {Q:Exit→Act→World→Prop} {B i:Nat} {w0:Bs}
theorem r_makeL {S:TypeId}{n:Nat}{x y:Operand}(hM:MakeOk P S U32 .u32)(hx:Has R B w0 i x (In n))(hy:Has R B w0 i y (In n))(hn:n≤17592186044416):Wv P Q R B w0 i (.makeSlice S x y) (LenS n).va :=
 zbr fun d T ps af gd a w av=>by
  obtain ⟨h1,h2,h3,h4,h5⟩:=hM
  obtain ⟨it,hi,hz⟩:=Option.bind_eq_some_iff.1 h2
  have hby:=h5 it hi
  have hm:=run_make (P:=P) w S U32 it (.int .u32 0) h1 hi hz .i64 .i64 n n zo zo (by
   have:it.bytes*n≤8*n:=Nat.mul_le_mul_right _ hby
   have h6:((it.bytes*n:Nat):Int)≤281474976710656:=by omega
   rwa [Int.natCast_mul] at h6) zo
  have e1:=zbq (hx a w av)
  have e2:=zbq (hy a w av)
  refine ⟨.slice (some ⟨w.heap.size,0,none⟩) n n,w.alloc (.cells (madeCells (Value.int .u32 0).cells (n*it.size)) U32),?_,Grow.alloc _ _,⟨[.slice (some ⟨w.heap.size,0,none⟩) n n],⟨_,_,rfl⟩,rfl⟩⟩
  simp only [Int.toNat_natCast] at hm
  simp [execOp,e1,e2,hm]
theorem r_lenK {x:Operand}{S E':TypeId}{k:Nat}(hS:P.underlying S=some (.slice E'))(hx:Has R B w0 i x (LenS k).va):Wv P Q R B w0 i (.call ⟨.builtin .len,#[x],#[S]⟩) (In k) :=
 zbr fun d T ps af gd a w av=>by
  obtain ⟨cs,⟨g,c,rfl⟩,hv⟩:=hx a w av
  have hv':a.eval x=.slice (some ⟨g,0,none⟩) k c:=hv
  refine ⟨.int .i64 (k:Int),w,?_,Grow.refl w,zct _ _ _ _⟩
  simp [execOp,resolve,invoke,builtin,hv',Builtin.len_,run_underlying hS,goInt]
theorem zgt {x:Operand}{S E':TypeId}{n:Nat}{v:Value}(hS:P.underlying S=some (.slice E'))(hv:RowV v n)(hx:Has R B w0 i x (EqS v).va):Wv P Q R B w0 i (.call ⟨.builtin .len,#[x],#[S]⟩) (In n) :=
 zbr fun d T ps af gd a w av=>by
  have e:=zhy (hx a w av)
  rcases hv with ⟨rfl,rfl⟩ | ⟨g,cap,rfl,_⟩
  ·refine ⟨.int .i64 0,w,?_,Grow.refl w,zct _ _ _ _⟩
   simp [execOp,resolve,invoke,builtin,e,Builtin.len_,run_underlying hS,goInt]
  ·refine ⟨.int .i64 (n:Int),w,?_,Grow.refl w,zct _ _ _ _⟩
   simp [execOp,resolve,invoke,builtin,e,Builtin.len_,run_underlying hS,goInt]
end
theorem zr7:Str Tryz.prog 25 [BoA false,EqS (.slice none 0 0)] :=
 Str.of (z:=.agg #[.bool false,.slice none 0 0]) zk Tryz.underlying25 zk fun B w=>⟨[[.bool false],[.slice none 0 0]],rfl,.cons rfl (.cons ⟨rfl,rfl⟩ .nil)⟩
theorem iz_p (B:Nat)(w:World):IntZ.p B [.bool false,.slice none 0 0] w:=⟨[[.bool false],[.slice none 0 0]],rfl,.cons rfl (.cons ⟨rfl,rfl⟩ .nil)⟩
theorem fz_p (B:Nat)(w:World):FrZ.p B [.bool false,.slice none 0 0,.bool false,.slice none 0 0] w:=⟨[[.bool false,.slice none 0 0],[.bool false,.slice none 0 0]],rfl,.cons (iz_p B w) (.cons (iz_p B w) .nil)⟩
theorem zlm:Str Tryz.prog 27 [IntZ,IntZ] :=
 Str.of (z:=.agg #[.bool false,.slice none 0 0,.bool false,.slice none 0 0]) zk Tryz.underlying27 zk fun B w=>fz_p B w
theorem zoc:Str Tryz.prog 69 [NumA .u8 0,FrZ,FrZ] :=
 Str.of (z:=.agg #[.int .u8 0,.bool false,.slice none 0 0,.bool false,.slice none 0 0,.bool false,.slice none 0 0,.bool false,.slice none 0 0]) zk Tryz.underlying69 zk fun B w=>⟨[[.int .u8 0],[.bool false,.slice none 0 0,.bool false,.slice none 0 0],[.bool false,.slice none 0 0,.bool false,.slice none 0 0]],rfl,.cons rfl (.cons (fz_p B w) (.cons (fz_p B w) .nil))⟩
theorem zr6:Str Tryz.prog 29 [FrZ,FrZ] :=
 Str.of (z:=.agg #[.bool false,.slice none 0 0,.bool false,.slice none 0 0,.bool false,.slice none 0 0,.bool false,.slice none 0 0]) zk Tryz.underlying29 zk fun B w=>⟨[[.bool false,.slice none 0 0,.bool false,.slice none 0 0],[.bool false,.slice none 0 0,.bool false,.slice none 0 0]],rfl,.cons (fz_p B w) (.cons (fz_p B w) .nil)⟩
theorem tm40 {n:Nat}:((n:Nat):Int).tmod 40=((n%40:Nat):Int):=by rw [Int.tmod_eq_emod_of_nonneg zo]; omega
theorem w40 {n:Nat}:IntKind.i64.wrap (1+((n%40:Nat):Int))=((1+n%40:Nat):Int):=by rw [wi64 zo zo]; omega
theorem zos (n0:Nat):Cn Tryz.prog 180 [In (n0:Nat)] ((IntM n0).va):=by
 refine Cn.intro Tryz.func180 rfl zk nq (fun B w0 a O=>?_)
 have O:=zn [(0,In (n0:Nat))] [] O
 refine wp_seq<|zg [] [⟨2,25,ptrH,some 0,_,none⟩] [.alc 0] [.g 0] O (oc (zas rfl rfl rfl (Str.zero zr7)) o0) (zz [(0,_)] [⟨2,25,ptrH,_⟩] fun a w O=>?_)
 refine zt<|zg [some (5,_)] [] [.v 3 _,.v 4 _,.v 5 _,.v 6 _,.v 7 _,.sto 0] [] O (zv rfl (za1 (gq 0 rfl)) (zv rfl (zl9 (vq 0 rfl) za3 zd tm40) (zv rfl (zb5 za3 (vq 1 rfl) (w40)) (zv rfl (r_makeL zfs (vq 2 rfl) (vq 2 rfl) zo) (zv rfl (zbg (xs:=[(1,.tmp 6)]) (qs:=[(1,_)]) zr7 (.cons ⟨rfl,(vq 3 rfl),rfl⟩ .nil)) (oc (zak rfl rfl rfl (vq 4 rfl) zac (Eq.trans (b:=2) rfl rfl)) o0)))))) (zz [] [⟨2,25,ptrH,_⟩] fun a w O=>?_)
 refine za0<|wp_ret<|zai ?_ (zaj rfl O (zm 0 rfl) zac)
 exact zbn
theorem zxy (n0:Nat):Cn Tryz.prog 181 [(IntM n0).va,In (n0:Nat)] (Bo true):=by
 refine Cn.intro Tryz.func181 rfl zk nq (fun B w0 a O=>?_)
 have O:=zn [(0,(IntM n0).va),(1,In (n0:Nat))] [] O
 refine wp_seq<|zg [] [⟨2,25,ptrH,some 0,_,none⟩] [.alc 0,.v 4 _] [.g 1,.o 1] O (oc (zam rfl rfl rfl (gq 0 rfl)) (zv rfl (za2 zav) o0)) (zz [(1,_),(4,_)] [⟨2,25,ptrH,_⟩] fun a w O=>?_)
 refine zt<|zg [none] [] [.adr 5 2 (.some 1) True,.v 6 _,.v 7 _,.v 8 _,.v 9 _,.v 10 _,.v 11 _,.v 12 _,.adr 13 2 (.some 0) (_=true),.v 14 (Wh (_=true) _),.v 15 (Wh (_=true) _),.v 16 _,.v 4 _] [.o 12] O (oc (ob_a rfl rfl (za9 (lz0 0 rfl) zah)) (zv rfl (za4 0 rfl zk trivial (lz0 0 rfl) (Sub.part 1 rfl rfl) zb9) (zv rfl (r_lenK Tryz.underlying23 (vq 1 rfl)) (zv rfl (za1 (gq 0 rfl)) (zv rfl (zl9 (vq 3 rfl) za3 zd tm40) (zv rfl (zb5 za3 (vq 4 rfl) (w40)) (zv rfl (zca (vq 2 rfl) (vq 5 rfl)) (zv rfl (za1 (vq 6 rfl)) (oc (zce rfl rfl rfl (vq 7 rfl) nq (fun hg=>za9 (lz0 0 rfl) zb7)) (oc (zan rfl rfl rfl (vq 7 rfl) nq (fun hg=>za4 8 rfl zk hg (lz0 0 rfl) (Sub.part 0 rfl rfl) ty_4)) (oc (zan rfl rfl rfl (vq 7 rfl) nq (fun hg=>zeh (zab (vq 9 rfl) hg))) (zv rfl (zcc (vq 7 rfl) (vq 10 rfl)) (zv rfl (za2 (vq 11 rfl)) o0))))))))))))) (zz [(4,_)] [⟨2,25,ptrH,_⟩] fun a w O=>?_)
 refine za0<|wp_ret<|zai ?_ (zaf rfl O (zm 0 rfl))
 refine zbt (congrArg Bo ?_); simp
theorem zhl (n0:Nat):Cn Tryz.prog 127 [In (n0:Nat)] ((MkE n0).va):=by
 refine Cn.intro Tryz.func127 rfl zk nq (fun B w0 a O=>?_)
 have O:=zn [(0,In (n0:Nat))] [] O
 refine wp_seq<|zg [] [⟨2,69,ptrH,some 0,_,none⟩] [.alc 0] [.g 0] O (oc (zas rfl rfl rfl (Str.zero zoc)) o0) (zz [(0,_)] [⟨2,69,ptrH,_⟩] fun a w O=>?_)
 refine zt<|zg [some (4,_)] [] [.v 3 _,.v 4 _,.v 5 _,.v 6 _,.sto 0] [] O (zv rfl (za1 (gq 0 rfl)) (zv rfl (za5 (xs:=[.tmp 3]) (zos _) (.cons (vq 0 rfl) .nil)) (zv rfl (zbg (xs:=[(0,.tmp 4)]) (qs:=[(0,_)]) zlm (.cons ⟨rfl,(vq 1 rfl),rfl⟩ .nil)) (zv rfl (zbg (xs:=[(0,.const (.int .u8 (99))),(1,.tmp 5)]) (qs:=[(0,_),(1,_)]) zoc (.cons ⟨rfl,za3,rfl⟩ (.cons ⟨rfl,(vq 2 rfl),rfl⟩ .nil))) (oc (zak rfl rfl rfl (vq 3 rfl) zeg (Eq.trans (b:=9) rfl rfl)) o0))))) (zz [] [⟨2,69,ptrH,_⟩] fun a w O=>?_)
 refine za0<|wp_ret<|zai ?_ (zaj rfl O (zm 0 rfl) zeg)
 exact zbn
theorem zkc (n0:Nat):Cn Tryz.prog 143 [(MkE n0).va,In (n0:Nat)] (Bo true):=by
 refine Cn.intro Tryz.func143 rfl zk nq (fun B w0 a O=>?_)
 have O:=zn [(0,(MkE n0).va),(1,In (n0:Nat))] [] O
 refine wp_seq<|zg [] [⟨2,69,ptrH,some 0,_,none⟩] [.alc 0,.v 4 _] [.g 1,.o 1] O (oc (zam rfl rfl rfl (gq 0 rfl)) (zv rfl (za2 zav) o0)) (zz [(1,_),(4,_)] [⟨2,69,ptrH,_⟩] fun a w O=>?_)
 refine zt<|zg [none] [] [.adr 5 2 (.some 0) True,.v 6 _,.v 7 _,.v 8 _,.adr 9 2 (.some 1) (_=true),.adr 10 2 (.some (1+0)) (_=true),.v 11 (Wh (_=true) _),.v 12 (Wh (_=true) _),.v 13 (Wh (_=true) _),.v 14 _,.v 15 _,.adr 16 2 (.some 5) (_=true),.adr 17 2 (.some (5+0)) (_=true),.adr 18 2 (.some (5+1)) (_=true),.v 19 (Wh (_=true) _),.v 20 (Wh (_=true) _),.v 21 (Wh (_=true) _),.v 22 _,.v 4 _] [.o 18] O (oc (ob_a rfl rfl (za9 (lz0 0 rfl) zcy)) (zv rfl (za4 0 rfl zk trivial (lz0 0 rfl) (Sub.part 0 rfl rfl) zha) (zv rfl (zca (vq 1 rfl) za3) (zv rfl (za1 (vq 2 rfl)) (oc (zce rfl rfl rfl (vq 3 rfl) nq (fun hg=>za9 (lz0 0 rfl) zc8)) (oc (zce rfl rfl rfl (vq 3 rfl) nq (fun hg=>zda 4 rfl zk hg (lz0 0 rfl) zbf)) (oc (zan rfl rfl rfl (vq 3 rfl) nq (fun hg=>za4 5 rfl zk hg (lz0 0 rfl) (Sub.trans (Sub.part 1 rfl rfl) (Sub.part 0 rfl rfl) rfl) zac)) (oc (zan rfl rfl rfl (vq 3 rfl) nq (fun hg=>za1 (gq 0 rfl))) (oc (zan rfl rfl rfl (vq 3 rfl) nq (fun hg=>za5 (xs:=[.tmp 11,.tmp 12]) (zxy _) (.cons (zab (vq 6 rfl) hg) (.cons (zab (vq 7 rfl) hg) .nil)))) (zv rfl (zcc (vq 3 rfl) (vq 8 rfl)) (zv rfl (za1 (vq 9 rfl)) (oc (zce rfl rfl rfl (vq 10 rfl) nq (fun hg=>za9 (lz0 0 rfl) zcf)) (oc (zce rfl rfl rfl (vq 10 rfl) nq (fun hg=>zda 11 rfl zk hg (lz0 0 rfl) zbf)) (oc (zce rfl rfl rfl (vq 10 rfl) nq (fun hg=>zda 12 rfl zk hg (lz0 0 rfl) zah)) (oc (zan rfl rfl rfl (vq 10 rfl) nq (fun hg=>za4 13 rfl zk hg (lz0 0 rfl) (Sub.trans (Sub.part 2 rfl rfl) (Sub.trans (Sub.part 0 rfl rfl) (Sub.part 1 rfl rfl) rfl) rfl) zb9)) (oc (zan rfl rfl rfl (vq 10 rfl) nq (fun hg=>zbk Tryz.underlying23 (has_wk' (zab (vq 14 rfl) hg) zbl))) (oc (zan rfl rfl rfl (vq 10 rfl) nq (fun hg=>zca (zab (vq 15 rfl) hg) za3)) (zv rfl (zcc (vq 10 rfl) (vq 16 rfl)) (zv rfl (za2 (vq 17 rfl)) o0))))))))))))))))))) (zz [(4,_)] [⟨2,69,ptrH,_⟩] fun a w O=>?_)
 refine za0<|wp_ret<|zai ?_ (zaf rfl O (zm 0 rfl))
 refine zbt (congrArg Bo ?_); simp
theorem zor (n0:Nat):Cn Tryz.prog 126 [In (n0:Nat)] ((MkR n0).va):=by
 refine Cn.intro Tryz.func126 rfl zk nq (fun B w0 a O=>?_)
 have O:=zn [(0,In (n0:Nat))] [] O
 refine wp_seq<|zg [] [⟨2,29,ptrH,some 0,_,none⟩] [.alc 0] [.g 0] O (oc (zas rfl rfl rfl (Str.zero zr6)) o0) (zz [(0,_)] [⟨2,29,ptrH,_⟩] fun a w O=>?_)
 refine zt<|zg [some (4,_)] [] [.v 3 _,.v 4 _,.v 5 _,.v 6 _,.sto 0] [] O (zv rfl (za1 (gq 0 rfl)) (zv rfl (za5 (xs:=[.tmp 3]) (zos _) (.cons (vq 0 rfl) .nil)) (zv rfl (zbg (xs:=[(0,.tmp 4)]) (qs:=[(0,_)]) zlm (.cons ⟨rfl,(vq 1 rfl),rfl⟩ .nil)) (zv rfl (zbg (xs:=[(0,.tmp 5)]) (qs:=[(0,_)]) zr6 (.cons ⟨rfl,(vq 2 rfl),rfl⟩ .nil)) (oc (zak rfl rfl rfl (vq 3 rfl) zdg (Eq.trans (b:=8) rfl rfl)) o0))))) (zz [] [⟨2,29,ptrH,_⟩] fun a w O=>?_)
 refine za0<|wp_ret<|zai ?_ (zaj rfl O (zm 0 rfl) zdg)
 exact zbn
theorem zxx (n0:Nat):Cn Tryz.prog 142 [(MkR n0).va,In (n0:Nat)] (Bo true):=by
 refine Cn.intro Tryz.func142 rfl zk nq (fun B w0 a O=>?_)
 have O:=zn [(0,(MkR n0).va),(1,In (n0:Nat))] [] O
 refine wp_seq<|zg [] [⟨2,29,ptrH,some 0,_,none⟩] [.alc 0,.v 4 _] [.g 1,.o 1] O (oc (zam rfl rfl rfl (gq 0 rfl)) (zv rfl (za2 zav) o0)) (zz [(1,_),(4,_)] [⟨2,29,ptrH,_⟩] fun a w O=>?_)
 refine zt<|zg [none] [] [.adr 5 2 (.some 0) True,.adr 6 2 (.some (0+0)) True,.v 7 _,.v 8 _,.v 9 _,.v 10 _,.adr 11 2 (.some 4) (_=true),.adr 12 2 (.some (4+0)) (_=true),.adr 13 2 (.some (4+1)) (_=true),.v 14 (Wh (_=true) _),.v 15 (Wh (_=true) _),.v 16 (Wh (_=true) _),.v 17 _,.v 4 _] [.o 13] O (oc (ob_a rfl rfl (za9 (lz0 0 rfl) zci)) (oc (ob_a rfl rfl (zda 0 rfl zk trivial (lz0 0 rfl) zbf)) (zv rfl (za4 1 rfl zk trivial (lz0 0 rfl) (Sub.trans (Sub.part 0 rfl rfl) (Sub.part 0 rfl rfl) rfl) zac) (zv rfl (za1 (gq 0 rfl)) (zv rfl (za5 (xs:=[.tmp 7,.tmp 8]) (zxy _) (.cons (vq 2 rfl) (.cons (vq 3 rfl) .nil))) (zv rfl (za1 (vq 4 rfl)) (oc (zce rfl rfl rfl (vq 5 rfl) nq (fun hg=>za9 (lz0 0 rfl) zch)) (oc (zce rfl rfl rfl (vq 5 rfl) nq (fun hg=>zda 6 rfl zk hg (lz0 0 rfl) zbf)) (oc (zce rfl rfl rfl (vq 5 rfl) nq (fun hg=>zda 7 rfl zk hg (lz0 0 rfl) zah)) (oc (zan rfl rfl rfl (vq 5 rfl) nq (fun hg=>za4 8 rfl zk hg (lz0 0 rfl) (Sub.trans (Sub.part 1 rfl rfl) (Sub.trans (Sub.part 0 rfl rfl) (Sub.part 1 rfl rfl) rfl) rfl) zb9)) (oc (zan rfl rfl rfl (vq 5 rfl) nq (fun hg=>zbk Tryz.underlying23 (has_wk' (zab (vq 9 rfl) hg) zbl))) (oc (zan rfl rfl rfl (vq 5 rfl) nq (fun hg=>zca (zab (vq 10 rfl) hg) za3)) (zv rfl (zcc (vq 5 rfl) (vq 11 rfl)) (zv rfl (za2 (vq 12 rfl)) o0)))))))))))))) (zz [(4,_)] [⟨2,29,ptrH,_⟩] fun a w O=>?_)
 refine za0<|wp_ret<|zai ?_ (zaf rfl O (zm 0 rfl))
 refine zbt (congrArg Bo ?_); simp
end Go.Proofs.YthdbhckhignfcaaGreatDoor
