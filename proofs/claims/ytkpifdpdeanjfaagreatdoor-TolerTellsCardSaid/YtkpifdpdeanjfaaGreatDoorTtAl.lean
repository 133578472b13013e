import Derived.Test.YtkpifdpdeanjfaaGreatDoorTtAj
import Derived.Test.YtkpifdpdeanjfaaGreatDoorTtAk
set_option linter.all false
set_option maxRecDepth 100000
namespace Go.Proofs.YtkpifdpdeanjfaaGreatDoor
open Go Go.RowKit
variable {w:World}{B:Nat}{a:Act}{v:Value}{T:TypeId}{w0:Bs}{Γ:List (Nat × VA)}{Λ:List Lc}{ps:String}{af:Array Edge}{vr:Value}{H:Hd}{cs:List Value}{w':World}{P:Program}{D:List TypeId}
def RowX (b c:Nat)(l r:List Nat):VA where
 p B v w:=∃ g,v=.slice (some ⟨g,0,none⟩) l.length c∧b≤g∧B≤g∧c=(l++r).length∧c≤maxLen∧w.heap[g]?=some (.cells ((l++r).map λ (x:Nat)=>Value.int .u32 x).toArray U32 (0,0))
 deps:=[U32]
 cg:=by
  rintro B v w w' hg ⟨g,h1,h2,h3,h4,h5,h6⟩
  exact ⟨g,h1,h2,h3,h4,h5,hg.heap h6⟩
 wr:=by
  rintro B v w w' g c T fz hg hT hB hW ⟨g',h1,h2,h3,h4,h5,h6⟩
  refine ⟨g',h1,h2,h3,h4,h5,?_⟩
  rw [hW.block g' λ hh=>?_]
  ·exact h6
  ·subst hh
   rw [hg] at h6
   simp only [Option.some.injEq,Obj.cells.injEq] at h6
   exact hT (by simp [h6.2.1])
theorem Fa {b c B:Nat}{l r:List Nat}(h:(RowX b c l r).p B v w):RowOk w b U32 v.ownBlock:=by
 obtain ⟨g,rfl,h2,_,_,_,h6⟩:=h
 intro g' e
 have e':g=g':=by injection e
 subst e'
 exact ⟨h2,_,_,h6⟩
theorem un {g:Nat}(cs:Array Value):w.grownBy (w.setRow g cs) (some g):=by
 have h:=Wr.setRow w g cs
 exact ⟨h.os,h.tape,h.output,by rw [h.size]; exact qg _,λ k _ hk=>h.block k λ e=>hk (by rw [e])⟩
theorem sr {S T1:TypeId}{b c B:Nat}{l r xs:List Nat}{v u:Value}{it:TypeInfo}(hS:P.underlying S=some (.slice U32))(hi:P.info? U32=some it)(hsz:it.size=1)(hroom:xs.length≤r.length)
  (hv:(RowX b c l r).p B v w) (hu:(MgA xs).va.p B u w) :
  ∃ v' w',(Builtin.append_ #[S,S] T1 #[v,u]).run P w=.ok v' w'∧(RowX b c (l++xs) (r.drop xs.length)).p B v' w'∧w.grownBy w' v.ownBlock∧RowOk w b U32 v.ownBlock∧blk v'=blk v:=by
 have hro:=Fa hv
 obtain ⟨g,rfl,h2,hBg,h4,h5,h6⟩:=hv
 obtain ⟨A,c',rfl,hm⟩:=fP hu
 have hlen:l.length+xs.length≤c:=by rw [h4,qn]; omega
 have fin:(RowX b c (l++xs) (r.drop xs.length)).p B (.slice (some ⟨g,0,none⟩) (l.length+xs.length) c) (w.setRow g (((l++xs)++r.drop xs.length).map λ (x:Nat)=>Value.int .u32 x).toArray) :=
  ⟨g,by rw [qn],h2,hBg,by rw [h4]; simp only [qn,xw]; omega,h5,setRow_heap w g _ _ _ _ h6⟩
 cases A with
 | none =>
  have hx:xs=[]:=by
   apply z7
   apply Decidable.byContradiction
   intro hn
   obtain ⟨_,_,e,_⟩:=hm.at_ zo
   cases e
  subst hx
  have hown:w.ownsRow b U32 1 (.slice (some ⟨g,0,none⟩) l.length c) l.length (l.map λ (x:Nat)=>Value.int .u32 x):=⟨by simp,.inr ⟨g,c,_,rfl,h2,h6,by omega,h5,by simp [h4],by simp⟩⟩
  refine ⟨_,w,ia b S T1 U32 it 1 hS hi _ _ c' _ hown,⟨g,by simp,h2,hBg,by simpa using h4,h5,by simpa using h6⟩,⟨rfl,rfl,rfl,qg _,λ _ _ _=>rfl⟩,hro,rfl⟩
 | some ad =>
  have hnew:∀ j u,(xs.map λ (x:Nat)=>Value.int .u32 x)[j]?=some u→w.cell? (ad.add j)=some u:=λ j u hj=>by
   have hjx:j<xs.length:=by have:=(List.getElem?_eq_some_iff.1 hj).1; simpa using this
   obtain ⟨b',o,e,_,_,h8⟩:=hm.at_ zo
   injection e with e
   subst e
   rw [rX,h8 j hjx]
   simpa [hjx] using hj
  have hr:=run_append_room (P:=P) w S T1 U32 it hS hi g l.length c _ h6 ad xs.length c' (xs.map λ (x:Nat)=>Value.int .u32 x) (by simp [hsz]) hnew (λ u hu=>by obtain ⟨_,_,rfl⟩:=qm.1 hu; rfl) hlen (by rw [hsz]; simp; omega)
  refine ⟨_,_,hr,?_,un _,hro,rfl⟩
  have e:(((l++r).map λ (x:Nat)=>Value.int .u32 x).toArray.toList.take (l.length*it.size)++(xs.map λ (x:Nat)=>Value.int .u32 x)++((l++r).map λ (x:Nat)=>Value.int .u32 x).toArray.toList.drop (l.length*it.size+(xs.map λ (x:Nat)=>Value.int .u32 x).length))=((l++xs)++r.drop xs.length).map λ (x:Nat)=>Value.int .u32 x:=by
   rw [hsz]
   simp [vf,List.map_drop]
  rw [e]
  exact fin
section
variable {P:Program} {R:Rg} {Q:Exit→Act→World→Prop} {B i:Nat} {w0:Bs}
theorem Fp {S:TypeId}{n:Nat}{x y:Operand}(hM:MakeOk P S U32 .u32)(hB:B≤w0.w.heap.size)(hx:Has R B w0 i x (In 0))(hy:Has R B w0 i y (In n))(hn:n≤17592186044416):Wv P Q R B w0 i (.makeSlice S x y) (RowX w0.w.heap.size n [] (List.replicate n 0)) :=
 bm λ d T ps af gd a w av=>by
  obtain ⟨h1,h2,h3,h4,h5⟩:=hM
  obtain ⟨it,hi,hz⟩:=xV.1 h2
  have hsz:it.size=1:=by rw [hi] at h3; simpa using h3
  have hby:=h5 it hi
  have hm:=run_make (P:=P) w S U32 it (.int .u32 0) h1 hi hz .i64 .i64 0 n zo zo (by
   have:it.bytes*n≤8*n:=qG _ hby
   have h6:((it.bytes*n:Nat):Int)≤281474976710656:=by omega
   rwa [xD] at h6) zo
  have e1:=bo (hx a w av)
  have e2:=bo (hy a w av)
  have hcells:madeCells (Value.int .u32 0).cells (n*it.size)=((List.replicate n 0).map λ (x:Nat)=>Value.int .u32 x).toArray:=by
   rw [hsz,zT]
   apply kY
   intro j
   simp only [madeCells,Value.cells,kX]
   by_cases hj:j<n
   ·simp [hj,Nat.mod_one]
   ·simp [hj]
  simp only [zH] at hm
  rw [hcells] at hm
  refine ⟨.slice (some ⟨w.heap.size,0,none⟩) 0 n,w.alloc (.cells ((List.replicate n 0).map λ (x:Nat)=>Value.int .u32 x).toArray U32),?_,Grow.alloc _ _,⟨w.heap.size,rfl,av.base.size,qd hB av.base.size,by simp,by unfold maxLen; omega,by simpa using heap_alloc_new w _⟩⟩
  simp [execOp,e1,e2,hm]
end
open Rg in
theorem Gz {Q:Exit→Act→World→Prop}{B N:Nat}{id:Nat}{ops:Array Oper}{sp:List Sp}(n:Nat)(src:List Nat)(i1 i2:Nat){S T1 T2:TypeId}{s u d e c0:Nat}{ps1 ps2:String}{af1 af2:Array Edge}{l r xs:List Nat}{A2:VA}{it:TypeInfo}
  (h:St B w0 N Γ Λ a w) (hob:Obs P Q ⟨ops,N,Γ,lesN Λ,sp,λ i=>List.range i⟩ B w0 0 n) (hn2:ops.size=n+2) (hk:Rg.chk ⟨ops,N,Γ,lesN Λ,sp,λ i=>List.range i⟩=true)
  (ho1:ops[n]?=some ⟨some d,.call ⟨.builtin .append,#[.tmp s,.tmp u],#[S,S]⟩,T1,ps1,af1,none⟩) (ho2:ops[n+1]?=some ⟨some e,.assign (.tmp d),T2,ps2,af2,none⟩)
  (hi1:i1<n) (h1:sp[i1]?=some (.v s (RowX w0.w.heap.size c0 l r))) (hi2:i2<n) (h2:sp[i2]?=some (.v u A2)) (hA2:∀ w u,A2.p B u w→Kept w0 w→(MgA xs).va.p B u w)
  (hS:P.underlying S=some (.slice U32)) (hi:P.info? U32=some it) (hsz:it.size=1) (hroom:xs.length≤r.length) (hde:(d != e)=true) (hd:d<N) (he:e<N)
  (hsrc:src.all (λ k=>match Γ[k]? with | some y => !y.2.deps.contains U32&&Rg.outG ⟨ops,N,Γ,lesN Λ,sp,λ i=>List.range i⟩ y.1 | none=>false)=true)
  (hΛ:Λ.all (λ l=>l.T != U32 && !l.A.deps.contains U32&&l.s != d&&l.s != e)=true)
  (hQ:∀ a w,St B w0 N ((e,RowX w0.w.heap.size c0 (l++xs) (r.drop xs.length))::src.filterMap (λ k=>Γ[k]?)) Λ a w→Q .normal a w):(Code.region id ops false).wp P Q a w:=by
 have hles0:∀ y∈lesN Λ,y.cr=none∧y.st=none∧(⟨y.s,y.T,y.H,y.A0⟩:Lc)∈Λ:=λ y hy=>by
  obtain ⟨l',hl',rfl⟩:=qm.1 hy
  exact ⟨rfl,rfl,hl'⟩
 refine Rg.linK (R:=⟨ops,N,Γ,lesN Λ,sp,λ i=>List.range i⟩) (m:=2) hn2 G hk h (λ y hy _=>(hles0 y hy).2.2) (λ i hi=>hob.all i zo zo) λ a1 w1 hinv=>?_
 have hcl:∀ deps,Rg.clash ⟨ops,N,Γ,lesN Λ,sp,λ i=>List.range i⟩ (λ k=>decide (k<n)) deps=false:=λ deps=>by
  unfold Rg.clash
  rw [xb]
  intro y hy
  rw [(hles0 y hy).2.1]
  simp
 have hv:=hinv.v i1 _ s _ h1 rfl (qP hi1) (hcl _)
 have hu:=hA2 _ _ (hinv.v i2 _ u _ h2 rfl (qP hi2) (hcl _)) hinv.base
 have hB:B≤w0.w.heap.size:=hinv.lo _ (.inl (qg _))
 obtain ⟨v',w',hr,r1,r2,r3,_⟩:=sr (T1:=T1) hS hi hsz hroom hv hu
 have hdsz:d<a1.tmps.size:=by rw [hinv.size]; exact hd
 have hesz:e<(a1.put (some d) v').tmps.size:=by rw [bt,hinv.size]; exact he
 have hne:d≠e:=by simpa using hde
 rw [List.range'_succ,qv]
 refine bu (R:=⟨ops,N,Γ,lesN Λ,sp,λ i=>List.range i⟩) ho1 G (bc (w':=w') (v:=v') (by simp [execOp,resolve,invoke,builtin,hr,Result.andThen]) ?_)
 rw [List.range'_succ,qv]
 refine bu (R:=⟨ops,N,Γ,lesN Λ,sp,λ i=>List.range i⟩) ho2 G (bc (w':=w') (v:=v') ?_ (hQ _ _ ?_))
 ·have:=aG a1 d v' hdsz
  simp [execOp,this]
 ·have hother:∀ t,t≠d→t≠e→((a1.put (some d) v').put (some e) v').eval (.tmp t)=a1.eval (.tmp t):=λ t h3 h4=>by
   rw [ai _ _ _ _ h4,ai _ _ _ _ h3]
  have hlc:∀ l'∈Λ,l'.T≠U32∧U32 ∉ l'.A.deps∧l'.s≠d∧l'.s≠e:=λ l' hl'=>by
   have:=qc.1 hΛ l' hl'
   simp only [qj,bne_iff_ne,qz,qy,qu] at this
   exact ⟨this.1.1.1,this.1.1.2,this.1.2,this.2⟩
  have hcur:∀ l'∈Λ,(⟨l'.s,l'.T,l'.H,none,l'.A,none⟩:Le)∈lesN Λ:=λ l' hl'=>qm.2 ⟨l',hl',rfl⟩
  refine ⟨hinv.lo,hinv.defers.grown r2 r3 rfl,by rw [bt,bt]; exact hinv.size,?_,?_,?_,?_⟩
  ·exact ⟨r2.os.trans hinv.base.os,r2.tape.trans hinv.base.tape,r2.output.trans hinv.base.output,qd hinv.base.size r2.size,λ k hk hf =>
    (r2.block k (qE hk hinv.base.size) (λ e=>by have:=(r3 k e.symm).1; omega)).trans (hinv.base.block k hk hf)⟩
  ·intro y hy
   rcases qo.1 hy with rfl | hy
   ·show (RowX w0.w.heap.size c0 (l++xs) (r.drop xs.length)).p B (((a1.put (some d) v').put (some e) v').eval (.tmp e)) w'
    rw [aG _ _ _ hesz]
    exact r1
   ·obtain ⟨k,hk1,hk2⟩:=qJ.1 hy
    have hs:=qc.1 hsrc k hk1
    simp only [hk2,qj,qz,qy,qu] at hs
    have hout:∀ q,q<ops.size→Rg.dst ⟨ops,N,Γ,lesN Λ,sp,λ i=>List.range i⟩ q≠some y.1:=λ q hq=>by
     have:=qc.1 hs.2 q (by simpa using hq)
     simpa using this
    have g1:y.1≠d:=λ e1=>hout n zo (by unfold Rg.dst; rw [ho1,e1]; rfl)
    have g2:y.1≠e:=λ e1=>hout (n+1) zo (by unfold Rg.dst; rw [ho2,e1]; rfl)
    rw [hother _ g1 g2]
    exact VA.grown (hinv.g y (qa hk2) (λ q hq hdq=>absurd hdq (hout q hq)) (hcl _)) r2 r3 hB hs.1
  ·intro l' hl'
   obtain ⟨g1,g2,g3,g4⟩:=hlc l' hl'
   obtain ⟨g,cs,e1,e2,e3,e4⟩:=hinv.c _ (hcur l' hl') l'.A rfl
   refine ⟨g,cs,by rw [hother _ g3 g4]; exact e1,e2,?_,As.grown e4 r2 r3 hB g2⟩
   rw [r2.block g (Array.getElem?_eq_some_iff.1 e3).1 (λ e5=>by
    obtain ⟨_,c,fz,e6⟩:=r3 g e5.symm
    rw [e3] at e6
    injection e6 with e6
    injection e6 with _ e6 _
    exact g1 e6)]
   exact e3
  ·intro l1 hl1 l2 hl2 hne'
   obtain ⟨_,_,g3,g4⟩:=hlc l1 hl1
   obtain ⟨_,_,g5,g6⟩:=hlc l2 hl2
   rw [hother _ g3 g4,hother _ g5 g6]
   exact hinv.x _ (hcur l1 hl1) _ (hcur l2 hl2) hne' G rfl
def TwN (l:List Nat):As where
 n:=1
 ag:=false
 p B cs w:=okL l∧∃ g,cs=[.slice (some ⟨g,0,none⟩) l.length (l.length+1)]∧B≤g∧l.length+1≤maxLen∧w.heap[g]?=some (.cells ((l++[7777]).map λ (x:Nat)=>Value.int .u32 x).toArray U32 (0,0))
 deps:=[U32]
 len:=by rintro B cs w ⟨_,g,rfl,_⟩; rfl
 one:=by rintro B cs w ⟨_,g,rfl,_⟩ x hx; simp at hx; subst hx; rfl
 ag1:=λ _=>rfl
 cg:=by
  rintro B cs w w' hg ⟨h0,g,rfl,h1,h2,h3⟩
  exact ⟨h0,g,rfl,h1,h2,hg.heap h3⟩
 wr:=by
  rintro B cs w w' g c T fz hg hT hB hW ⟨h0,g',rfl,h1,h2,h3⟩
  refine ⟨h0,g',rfl,h1,h2,?_⟩
  rw [hW.block g' λ hh=>?_]
  ·exact h3
  ·subst hh
   rw [hg] at h3
   simp only [Option.some.injEq,Obj.cells.injEq] at h3
   exact hT (by simp [h3.2.1])
theorem sa {l:List Nat}{B g:Nat}(ok:okL l)(h2:l.length+1≤maxLen)(h3:w.heap[g]?=some (.cells ((l++[7777]).map λ (x:Nat)=>Value.int .u32 x).toArray U32 (0,0))):Mag B w (some ⟨g,0,none⟩) (l.length+1) (l++[7777]) :=
 Mag.own h3 (okL_append.2 ⟨ok,ez zd⟩) (by simp) h2 (λ j hj=>by rw [List.getElem?_toArray,List.getElem?_map,List.getElem?_eq_getElem hj]; rfl)
theorem AY {l:List Nat}:Wk (TwN l).va (MgA l).va:=λ B v w ⟨cs,⟨ok,g,e,h1,h2,h3⟩,hv⟩=>by
 subst e
 have e2:v=.slice (some ⟨g,0,none⟩) l.length (l.length+1):=hv
 subst e2
 have:=dW ((sa (B:=B) ok h2 h3).take l.length) (n:=l.length) (by simp)
 rwa [jM] at this
theorem Cl (l:List Nat):FreeA (TwN l) (TwN l):=⟨rfl,rfl,λ B B' cs w hB h=>by
 obtain ⟨ok,g,e,h1,h2,h3⟩:=h
 exact ⟨ok,g,e,qd hB h1,h2,h3⟩⟩
def RIT (x:RI):As:=cat [BoA x.neg,TwN x.mag]
theorem o8 (x:RI):FreeA (RIT x) (RIT x):=bZ (.cons (dX _) (.cons (Cl _) .nil))
def SlK (v:Value)(h:v.oneCell'=true):As where
 n:=1
 ag:=false
 p _ cs _:=cs=[v]
 deps:=[]
 len:=by rintro B cs w rfl; rfl
 one:=by rintro B cs w rfl c hc; simp at hc; subst hc; exact h
 ag1:=λ _=>rfl
 cg:=λ _ _ _ _ _ h=>h
 wr:=λ _ _ _ _ _ _ _ _ _ _ _ _ h=>h
theorem GP {h:v.oneCell'=true}:Wk (EqV v) (SlK v h).va:=λ _ u _ e=>⟨[v],rfl,e⟩
theorem St.toRow {B N:Nat}(h:St B w0 N Γ Λ a w){s c:Nat}{l r:List Nat}(k:Nat)(hm:Γ[k]?=some (s,RowX w0.w.heap.size c l r))(hΛ:Λ.all (λ m=>m.T != U32)=true):
  ∃ g,B≤g∧c=(l++r).length∧c≤maxLen∧St B w0 N (Γ.set k (s,EqV (.slice (some ⟨g,0,none⟩) l.length c))) (Λ++[⟨s,U32,slH l.length c,Nums .u32 (l++r)⟩]) a w:=by
 obtain ⟨g,hv,h2,h3,h4,h5,h6⟩:=h.vals _ (qa hm)
 have hd:∀ m∈Λ,blk (a.eval (.tmp m.s))≠some g:=by
  intro m hm2 hh
  obtain ⟨g',cs,e1,_,e3,_⟩:=h.locs m hm2
  rw [e1,m.H.ok] at hh
  injection hh with hh
  subst hh
  rw [e3] at h6
  simp only [Option.some.injEq,Obj.cells.injEq] at h6
  have:=qc.1 hΛ m hm2
  simp [h6.2.1] at this
 have hv':a.eval (.tmp s)=.slice (some ⟨g,0,none⟩) l.length c:=hv
 have hg:blk (a.eval (.tmp s))=some g:=by rw [hv']; rfl
 refine ⟨g,h3,h4,h5,h.lo,h.defers,h.size,h.base,λ x hx=>?_,λ x hx=>?_,λ x hx y hy hne=>?_⟩
 ·rcases qp hx with hx | rfl
  ·exact h.vals x hx
  ·exact hv'
 ·rcases qw.1 hx with hx | hx
  ·exact h.locs x hx
  ·obtain rfl:=qq.1 hx
   exact ⟨g,_,hv',.inl h2,h6,rfl⟩
 ·rcases qw.1 hx with hx | hx <;> rcases qw.1 hy with hy | hy
  ·exact h.dis x hx y hy hne
  ·obtain rfl:=qq.1 hy
   rw [hg]; exact hd x hx
  ·obtain rfl:=qq.1 hx
   rw [hg]; exact λ e=>hd y hy e.symm
  ·obtain rfl:=qq.1 hx
   obtain rfl:=qq.1 hy
   exact absurd G hne
section
variable {P:Program} {R:Rg} {Q:Exit→Act→World→Prop} {B i:Nat} {w0:Bs}
theorem FJ {d s e g c:Nat}{cr:Option Nat}{l r xs:List Nat}{x y:Operand}{S ty:TypeId}{it:TypeInfo}
  (hs:R.sp[i]?=some (.cal d (EqV (.slice (some ⟨g,0,none⟩) (l.length+xs.length) c)) e)) (he:R.les[e]?=some ⟨s,U32,slH l.length c,cr,Nums .u32 (l++r),some (i,Nums .u32 (l++xs++r.drop xs.length))⟩) (ho:R.ops[i]?=some ⟨some d,.call ⟨.builtin .append,#[x,y],#[S,S]⟩,ty,ps,af,none⟩)
  (hS:P.underlying S=some (.slice U32)) (hi:P.info? U32=some it) (hsz:it.size=1) (hroom:xs.length≤r.length) (hc:c=(l++r).length) (hmx:c≤maxLen) (hx:Has R B w0 i x (EqV (.slice (some ⟨g,0,none⟩) l.length c))) (hsl:Has R B w0 i (.tmp s) (EqV (.slice (some ⟨g,0,none⟩) l.length c))) (hy:Has R B w0 i y (MgA xs).va):R.Ob P Q B w0 i:=by
 unfold Rg.Ob
 simp only [hs,he]
 intro a w av g' cs h1 hB h3 h4 _ K hK
 have e1:a.eval x=_:=hx a w av
 have e2:a.eval (.tmp s)=.slice (some ⟨g,0,none⟩) l.length c:=hsl a w av
 have eg:g=g':=by
  rw [h1] at e2
  have:some g'=some g:=qk blk e2
  injection this with this
  exact this.symm
 subst eg
 have h4':cs=(l++r).map λ (x:Nat)=>Value.int .u32 x:=h4
 obtain ⟨v',w',hr,hX,hgr,_,hbk⟩:=sr (P:=P) (S:=S) (T1:=ty) (b:=g) (c:=c) (B:=B) (l:=l) (r:=r) (xs:=xs) (w:=w) hS hi hsz hroom ⟨g,rfl,qg _,hB,hc,hmx,by rw [← h4']; exact h3⟩ (hy a w av)
 obtain ⟨g2,q1,_,_,q4,q5,q6⟩:=hX
 refine bu ho G (bc (w':=w') (v:=v') (by simp [execOp,resolve,invoke,builtin,e1,hr,Result.andThen]) ?_)
 have eg2:g2=g:=by
  rw [q1] at hbk
  injection hbk
 subst eg2
 exact hK v' _ w' ⟨hgr.os,hgr.tape,hgr.output,hgr.size,λ k hk hf=>hgr.block k hk λ e=>hf (by injection e)⟩ q6 G (by rw [q1,qn]; rfl)
end
theorem oneK {g n c:Nat}:(Value.slice (some ⟨g,0,none⟩) n c).oneCell'=true:=rfl
theorem St.twin {B N:Nat}(h:St B w0 N Γ Λ a w){s s2 T2 g c:Nat}{H2:Hd}{b:Bool}{l:List Nat}(k e2 e3:Nat)(hm:Γ[k]?=some (s,EqV (.slice (some ⟨g,0,none⟩) l.length c)))(he2:Λ[e2]?=some ⟨s2,T2,H2,cat [BoA b,SlK (.slice (some ⟨g,0,none⟩) l.length c) oneK]⟩)
  (he3:Λ[e3]?=some ⟨s,U32,slH l.length c,Nums .u32 (l++[7777])⟩) (ok:okL l) (hc:c=l.length+1) (hcm:c≤maxLen) (hB:B≤g):St B w0 N Γ (Λ.set e2 ⟨s2,T2,H2,RIT ⟨b,l⟩⟩) a w:=by
 obtain ⟨g3,cs3,f1,_,f3,f4⟩:=h.locs _ (qa he3)
 have f4':cs3=(l++[7777]).map λ (x:Nat)=>Value.int .u32 x:=f4
 have f5:a.eval (.tmp s)=.slice (some ⟨g,0,none⟩) l.length c:=h.vals _ (qa hm)
 have eg:g=g3:=by
  rw [f5] at f1
  have:some g=some g3:=qk blk f1
  injection this
 subst eg
 rw [f4'] at f3
 have hset:∀ m∈Λ.set e2 ⟨s2,T2,H2,RIT ⟨b,l⟩⟩,m=⟨s2,T2,H2,RIT ⟨b,l⟩⟩∨m∈Λ:=λ m hm=>(qp hm).symm
 have hin:=qa he2
 refine ⟨h.lo,h.defers,h.size,h.base,h.vals,λ m hm'=>?_,λ m hm1 m' hm2 hne=>?_⟩
 ·rcases hset m hm' with rfl | hm'
  ·obtain ⟨g2,cs,e1,e2',e3',e4⟩:=h.locs _ hin
   refine ⟨g2,cs,e1,e2',e3',?_⟩
   obtain ⟨ps,q1,q2⟩:=e4
   cases q2 with
   | cons q3 q2=>cases q2 with
    | cons q4 q2 =>
     refine ⟨_,q1,.cons q3 (.cons ?_ q2)⟩
     exact ⟨ok,g,by rw [← hc]; exact q4,hB,by rw [← hc]; exact hcm,f3⟩
  ·exact h.locs m hm'
 ·have key:∀ m∈Λ.set e2 ⟨s2,T2,H2,RIT ⟨b,l⟩⟩,∃ m'∈Λ,m'.s=m.s:=λ m hm=>by
   rcases hset m hm with rfl | hm
   ·exact ⟨_,hin,rfl⟩
   ·exact ⟨m,hm,rfl⟩
  obtain ⟨p,p1,p2⟩:=key m hm1
  obtain ⟨p',p3,p4⟩:=key m' hm2
  rw [← p2,← p4]
  exact h.dis p p1 p' p3 (by rw [p2,p4]; exact hne)
theorem CI (n:Nat):(List.replicate (n+1) 0).drop n=[0]:=by rw [List.drop_replicate,jx]; rfl
theorem oO (x:RI)(hx:x.mag.length≤1000000000000):Cn Tryz.prog 221 [(RIA x).va] ((RIT x).va):=by
 obtain ⟨it,z,e1,e2,e3,e4,e5⟩:=m8
 refine Cn.introW Tryz.func221 G zk nq (.cons (tQ _).va .nil) (o8 _).va (λ B w0 a hB0 U=>?_)
 have U:=zn [(0,(RIO x).va)] [] U
 have hok:okL x.mag:=(gL (HB _ _ _ (U.vals _ (zm 0 rfl)))).1
 refine qb<|zg [] [⟨1,28,ptrH,some 0,_,none⟩,⟨2,28,ptrH,some 1,_,none⟩] [.alc 0,.alc 1] [] U (zW 0 G (zY G (Str.zero fk) o0)) (zz [] [O 1 28 _,O 2 28 _] λ a w U=>?_)
 refine zt<|zg [η,η] [] [.adr 4 1 (.some 1) True,.v 5 _,.v 6 _,.v 7 (In ((x.mag.length+1:Nat):Int)),.v 8 _,.v 3 _] [.o 5] U (zO 0 G ar (zL 0 0 1 G aY (zv G (aJ Tryz.underlying26 (aC (vq 1 G))) (zv G (aQ (vq 2 G) a8 (aW zo)) (zv G (Fp eJ (xZ hB0) a8 (vq 3 G) zo) (zA 4 G o0)))))) (zz [(3,_)] [O 1 28 _,O 2 28 _] λ a w U=>?_)
 refine zt<|Gz (sp:=[.v 9 _,.adr 10 1 (.some 1) True,.v 11 _,.v 12 VT,.v 3 VT]) 3 [] 0 2 U (zM 0 G (zO 0 G ar (zL 1 0 1 G aY o0))) G zk G G zd G zd G (xs:=x.mag) (λ w u h k=>i9 _ _ _ h) Tryz.underlying26 e1 e3 (by simp) zk nq nq zk zk (λ a w U=>?_)
 have U:=St.wkG (A':=RowX w0.w.heap.size (x.mag.length+1) x.mag [0]) U 0 rfl (bj (by rw [CI]; rfl))
 have U:=zn [(3,_)] [O 1 28 _,O 2 28 _] U
 refine zt ?_
 obtain ⟨g,hBg,hce,hcm,U⟩:=St.toRow U 0 rfl rfl
 refine zgd [[],[0],[],[],[2,3],[],[5],[5,6],[2,3,4,5,6,7],[0,1,2,3,4,5,6,7,8],[0,1,2,3,4,5,6,7,8,9]] [none,some (10,_),some (4,_)] [] [.adr 13 1 (.some 0) True,.v 14 _,.v 15 _,.v 16 _,.cal 17 (EqV (.slice (some ⟨g,0,none⟩) (x.mag.length+[7777].length) (x.mag.length+1))) 2,.adr 18 1 (.some 1) True,.v 19 _,.v 20 _,.v 21 (EqV (.slice (some ⟨g,0,none⟩) x.mag.length (x.mag.length+1))),.v 22 _,.sto 1] [.g 0] aa U (zO 0 G aU (zL 0 0 0 G ty_4 (zM 0 G (zv G (dh (l:=[_]) (xs:=[.const (.int .u32 (7777))]) bb zk nq nq (ez zd) (.o (aD 7777 G)) G G) (oc (FJ (l:=x.mag) (r:=[0]) (xs:=[7777]) G G G Tryz.underlying26 e1 e3 zd hce hcm (vq 2 G) (gq 0 G) (vq 3 G)) (zO 0 G ar (zL 5 0 1 G aY (zv G (aJ Tryz.underlying26 (aC (vq 6 G))) (zv G (ww bb (yJ 4 G zk zk) (vq 7 G) ⟨by omega,by omega⟩) (zv G (aO (qs:=[(0,_),(1,SlK (.slice (some ⟨g,0,none⟩) x.mag.length (x.mag.length+1)) oneK)]) fk (.cons ⟨rfl,vq 1 rfl,rfl⟩ (.cons ⟨rfl,has_wk' (vq 8 G) (GP (h:=oneK)),rfl⟩ .nil))) (zS 9 G al o0))))))))))) zk zk zk zk (zz [(3,_)] [O 1 28 _,O 2 28 _,⟨3,128,slH _ _,_⟩] λ a w U=>?_)
 have U:=St.wkL (A:=Nums .u32 (x.mag++[7777]++[])) (A':=Nums .u32 (x.mag++[7777])) U 2 rfl (dD (by rw [zp]))
 have U:=St.twin U 0 1 2 rfl rfl rfl hok (by simp at hce; omega) hcm hBg
 refine a7<|qe<|aj ?_ (ap G U (zm 1 G) al)
 exact aL
def RFT (x:RF):As:=cat [RIT x.num,RIT x.den]
theorem Ew {l:List Nat}:WkA (TwN l) (MgA l):=⟨rfl,rfl,λ B cs w h=>by
 obtain ⟨cs',h1,h2⟩:=AY B (shape false cs) w ⟨cs,h,rfl⟩
 have l1:=(TwN l).len _ _ _ h
 have l2:=(MgA l).len _ _ _ h1
 match cs,cs',l1,l2 with
 | [c],[c'],_,_ =>
  have e:c=c':=h2
  subst e
  exact h1⟩
theorem wkA_rit {x:RI}:WkA (RIT x) (RIA x):=bz (.cons (.refl _) (.cons Ew .nil))
theorem uS {x:RF}:WkA (RFT x) (RFA x):=bz (.cons wkA_rit (.cons wkA_rit .nil))
section
variable {P:Program} {R:Rg} {Q:Exit→Act→World→Prop} {B i:Nat} {w0:Bs}
theorem D8 {l:List Nat}(h:(TwN l).va.p B v w):okL l∧∃ g,v=.slice (some ⟨g,0,none⟩) l.length (l.length+1)∧l.length+1≤maxLen∧w.heap[g]?=some (.cells ((l++[7777]).map λ (x:Nat)=>Value.int .u32 x).toArray U32 (0,0)):=by
 obtain ⟨cs,⟨ok,g,e,h1,h2,h3⟩,hv⟩:=h
 subst e
 exact ⟨ok,g,hv,h2,h3⟩
theorem r_capT {x:Operand}{S E':TypeId}{l:List Nat}(hS:P.underlying S=some (.slice E'))(hx:Has R B w0 i x (TwN l).va):Wv P Q R B w0 i (.call ⟨.builtin .cap,#[x],#[S]⟩) (In ((l.length+1:Nat):Int)) :=
 bm λ d T ps af gd a w av=>by
  obtain ⟨_,g,hv,_,_⟩:=D8 (hx a w av)
  refine ⟨.int .i64 ((l.length+1:Nat):Int),w,?_,Grow.refl w,cp _ _ _ _⟩
  simp [execOp,resolve,invoke,builtin,hv,Builtin.cap_,run_underlying hS,goInt]
theorem Fl {x z:Operand}{S:TypeId}{l:List Nat}(hS:Sl P S U32 1)(hx:Has R B w0 i x (TwN l).va)(hz:Has R B w0 i z (In ((l.length+1:Nat):Int))):Wv P Q R B w0 i (.slice S x none (some z) none) (MgA (l++[7777])).va :=
 bm λ d T ps af gd a w av=>by
  obtain ⟨hs1,hs2⟩:=hS
  obtain ⟨ok,g,e1,hm,hh⟩:=D8 (hx a w av)
  have e3:=bo (hz a w av)
  have hE:P.elem S=U32:=by simp [Program.elem,hs1]
  have hs1':P.underlying S=some (.slice (P.elem S)):=by rw [hE]; exact hs1
  have hsz:∀ w,(sizeOf U32).run P w=.ok 1 w:=λ w=>by
   cases hi:P.info? U32 with
   | none=>rw [hi] at hs2; simp at hs2
   | some it=>rw [hi] at hs2; simp [sizeOf,typeInfo,hi]; simpa using hs2
  refine ⟨.slice (some ⟨g,0,none⟩) (l.length+1) (l.length+1),w,?_,Grow.refl w,dW (sa ok hm hh) (by simp)⟩
  have hr:=run_slice_h (P:=P) w S (some ⟨g,0,none⟩) l.length (l.length+1) hs1' .i64 ((l.length+1:Nat):Int) zo zo
  rw [hE,hsz] at hr
  have hne:¬ l.length+1=0:=by omega
  simp only [Result.andThen_ok,sliced,zH,hne,if_false,zT,qH,je] at hr
  simp only [execOp,e1,e3,qH,run_sliceAt_slice _ _ _ _ _ _ hs1',Sem.run_bind,Sem.run_pure]
  erw [hr]
  simp [Addr.add]
end
set_option maxHeartbeats 1000000 in
theorem pj (x y:RI)(hx:x.mag.length≤1000000000000):Cn Tryz.prog 247 [(RIT x).va,(RIA y).va] (Bo (decide (x=y))):=by
 refine Cn.intro Tryz.func247 G zk nq (λ B w0 a U=>?_)
 have U:=zn [(0,(RIT x).va),(1,(RIA y).va)] [] U
 refine qb<|zg [] [⟨2,28,ptrH,some 0,_,none⟩,⟨3,28,ptrH,some 1,_,none⟩] [.alc 0,.alc 1,.v 4 _] [.o 2] U (zW 0 G (zW 1 G (zv G (a9 aB) o0))) (zz [(4,_)] [O 2 28 _,O 3 28 _] λ a w U=>?_)
 refine zt<|f9 (anc:=[[],[],[0,1],[0,1,2],[0,1,2,3],[0,1,2,3,4],[0,1,2,3,4,5],[0,1,2,3],[0,1,2,3,7],[0,1,2,3,7,8],[0,1,2,3,4,5,6,7,8,9],[0,1,2,3,4,5,6,7,8,9,10],[0,1,2,3,4,5,6,7,8,9,10,11],[0,1,2,3,4,5,6,7,8,9,10,11,12],[0,1,2,3,4,5,6,7,8,9,10,11,12,13],[0,1,2,3,4,5,6,7,8,9,10,11,12],[0,1,2,3,4,5,6,7,8,9,10,11,12,15],[0,1,2,3,4,5,6,7,8,9,10,11,12,15,16],[0,1,2,3,4,5,6,7,8,9,10,11,12,15,16,17],[0,1,2,3,4,5,6,7,8,9,10,11,12,13,14,15,16,17,18],[0,1,2,3,4,5,6,7,8,9,10,11,12],[0,1,2,3,4,5,6,7,8,9,10,11,12,20],[0,1,2,3,4,5,6,7,8,9,10,11,12,20,21],[0,1,2,3,4,5,6,7,8,9,10,11,12,13,14,15,16,17,18,19,20,21,22],[0,1,2,3,4,5,6,7,8,9,10,11,12,13,14,15,16,17,18,19,20,21,22,23],[0,1,2,3,4,5,6,7,8,9,10,11,12,13,14,15,16,17,18,19,20,21,22,23,24],[0,1,2,3,4,5,6,7,8,9,10,11,12,13,14,15,16,17,18,19,20,21,22,23,24,25],[0,1,2,3,4,5,6,7,8,9,10,11,12,13,14,15,16,17,18,19,20,21,22,23,24,25,26]]) (sts:=[none,none]) (news:=[]) (sp:=((.v 5 _:Sp)::(.v 6 _)::(.v 7 _)::(.v 8 _)::(.adr 9 2 (.some 1) (_=true))::(.t 10 _)::(.t 11 _)::(.adr 12 2 (.some 1) (_=true))::(.t 13 _)::(.t 14 _)::(.t 15 _)::(.v 16 _)::(.v 17 _)::(.adr 18 2 (.some 1) (_=true))::(.t 19 _)::(.adr 20 2 (.some 1) (_=true))::(.t 21 _)::(.t 22 _)::(.t 23 _)::(.t 24 _)::(.adr 25 2 (.some 1) (_=true))::(.t 26 _)::(.t 27 _)::(.t 28 _)::(.t 29 _)::(.t 30 _)::(.v 31 _)::(.v 4 _)::[])) [.o 27] aa U (zl 0 G al (zl 1 G al (zQ G ((l3 x y).wk (.cons wkA_rit.va (.cons aL .nil))) (.p (vq 0 G) (vq 1 G)) (zv G (ab (vq 2 G)) (zC 3 0 G ar (zB 3 G (λ hg=>ax 4 G zk hg (lz0 0 G) (Sub.part 1 G G) aY) (zB 3 G (λ hg=>r_capT Tryz.underlying26 (ac (vq 5 G) hg)) (zC 3 0 G ar (zB 3 G (λ hg=>ax 7 G zk hg (lz0 0 G) (Sub.part 1 G G) aY) (zB 3 G (λ hg=>aJ Tryz.underlying26 (has_wk' (ac (vq 8 G) hg) AY)) (zB 3 G (λ hg=>cP (ac (vq 6 G) hg) (ac (vq 9 G) hg)) (zv G (bG (vq 3 G) (vq 10 G)) (zv G (ab (vq 11 G)) (zC 12 0 G ar (zB 12 G (λ hg=>ax 13 G zk hg (lz0 0 G) (Sub.part 1 G G) aY) (zC 12 0 G ar (zB 12 G (λ hg=>ax 15 G zk hg (lz0 0 G) (Sub.part 1 G G) aY) (zB 12 G (λ hg=>aJ Tryz.underlying26 (has_wk' (ac (vq 16 G) hg) AY)) (zB 12 G (λ hg=>aQ (ac (vq 17 G) hg) a8 (aW zo)) (zB 12 G (λ hg=>Fl bb (ac (vq 14 G) hg) (ac (vq 18 G) hg)) (zC 12 0 G ar (zB 12 G (λ hg=>ax 20 G zk hg (lz0 0 G) (Sub.part 1 G G) aY) (zB 12 G (λ hg=>aJ Tryz.underlying26 (has_wk' (ac (vq 21 G) hg) AY)) (zB 12 G (λ hg=>nk bb (ac (vq 19 G) hg) (ac (vq 22 G) hg) (by simp)) (zB 12 G (λ hg=>aq (ac (vq 23 G) hg) aM) (zB 12 G (λ hg=>bF (ac (vq 24 G) hg) (aD 7777 G)) (zv G (bG (vq 12 G) (vq 25 G)) (zA 26 G o0)))))))))))))))))))))))))))) zk zk zk zk (zz [(4,_)] [O 2 28 _,O 3 28 _] λ a w U=>?_)
 refine a7<|qe<|aj ?_ (an G U (zm 0 G))
 refine bj (qk Bo ?_); simp; omega
def bdF (x:RF):Prop:=x.num.mag.length≤1000000000000∧x.den.mag.length≤1000000000000
theorem mw (x:RF)(hx:bdF x):Cn Tryz.prog 176 [(RFA x).va] ((RFT x).va):=by
 refine Cn.intro Tryz.func176 G zk nq (λ B w0 a U=>?_)
 have U:=zn [(0,(RFA x).va)] [] U
 refine qb<|zg [] [⟨1,30,ptrH,some 0,_,none⟩,⟨2,30,ptrH,some 1,_,none⟩] [.alc 0,.alc 1] [] U (zW 0 G (zY G (Str.zero az) o0)) (zz [] [O 1 30 _,O 2 30 _] λ a w U=>?_)
 refine zt<|zgd [[],[0],[0,1],[],[3],[0,1,2,3,4],[0,1,2,3,4,5],[0,1,2,3,4,5,6]] [none,some (7,_)] [] [.adr 3 1 (.some 0) True,.v 4 _,.v 5 _,.adr 6 1 (.some 2) True,.v 7 _,.v 8 _,.v 9 _,.sto 1] [] aa U (zO 0 G aV (zL 0 0 0 G al (zQ G (oO _ hx.1) (.o (vq 1 G)) (zO 0 G aN (zL 3 0 1 G al (zQ G (oO _ hx.2) (.o (vq 4 G)) (zv G (aO (qs:=[(0,_),(1,_)]) az (.cons ⟨rfl,vq 2 rfl,rfl⟩ (.cons ⟨rfl,vq 5 rfl,rfl⟩ .nil))) (zS 6 G ak o0)))))))) zk zk zk zk (zz [] [O 1 30 _,O 2 30 _] λ a w U=>?_)
 refine a7<|qe<|aj ?_ (ap G U (zm 1 G) ak)
 exact aL
theorem mL (x y:RF)(hx:bdF x):Cn Tryz.prog 209 [(RFT x).va,(RFA y).va] (Bo (decide (x=y))):=by
 refine Cn.intro Tryz.func209 G zk nq (λ B w0 a U=>?_)
 have U:=zn [(0,(RFT x).va),(1,(RFA y).va)] [] U
 refine qb<|zg [] [⟨2,30,ptrH,some 0,_,none⟩,⟨3,30,ptrH,some 1,_,none⟩] [.alc 0,.alc 1,.v 4 _] [.o 2] U (zW 0 G (zW 1 G (zv G (a9 aB) o0))) (zz [(4,_)] [O 2 30 _,O 3 30 _] λ a w U=>?_)
 refine zt<|zg [η,η] [] [.adr 5 2 (.some 0) True,.v 6 _,.adr 7 3 (.some 0) True,.v 8 _,.v 9 _,.v 10 _,.adr 11 2 (.some 2) (_=true),.t 12 _,.adr 13 3 (.some 2) (_=true),.t 14 _,.t 15 _,.v 16 _,.v 4 _] [.o 12] U (zO 0 G aV (zL 0 0 0 G al (zO 1 G aV (zL 2 1 0 G al (zQ G (pj _ _ hx.1) (.p (vq 1 G) (vq 3 G)) (zv G (ab (vq 4 G)) (zC 5 0 G aN (zB 5 G (λ hg=>ax 6 G zk hg (lz0 0 G) (Sub.part 1 G G) al) (zC 5 1 G aN (zB 5 G (λ hg=>ax 8 G zk hg (lz0 1 G) (Sub.part 1 G G) al) (zB 5 G (λ hg=>aX (pj _ _ hx.2) (.p (ac (vq 7 G) hg) (ac (vq 9 G) hg))) (zv G (bG (vq 5 G) (vq 10 G)) (zA 11 G o0))))))))))))) (zz [(4,_)] [O 2 30 _,O 3 30 _] λ a w U=>?_)
 refine a7<|qe<|aj ?_ (an G U (zm 0 G))
 exact bj (qk Bo rf_eq)
def LenS (k:Nat):As where
 n:=1
 ag:=false
 p _ cs _:=∃ g c,cs=[.slice (some ⟨g,0,none⟩) k c]
 deps:=[]
 len:=by rintro B cs w ⟨g,c,rfl⟩; rfl
 one:=by rintro B cs w ⟨g,c,rfl⟩ x hx; simp at hx; subst hx; rfl
 ag1:=λ _=>rfl
 cg:=λ _ _ _ _ _ h=>h
 wr:=λ _ _ _ _ _ _ _ _ _ _ _ _ h=>h
def IntZ:As:=cat [BoA false,EqS (.slice none 0 0)]
def IntM (n:Nat):As:=cat [BoA false,LenS (1+n%40)]
def FrZ:As:=cat [IntZ,IntZ]
def FrM (n:Nat):As:=cat [IntM n,IntZ]
def MkE (n:Nat):As:=cat [NumA .u8 99,FrM n,FrZ]
def anyA (A:As):Prop:=∀ B B' w w' cs,A.p B cs w→A.p B' cs w'
theorem mc {l:List As}(h:∀ A∈l,anyA A):anyA (cat l):=by
 rintro B B' w w' cs ⟨ps,e,hp⟩
 refine ⟨ps,e,?_⟩
 clear e
 induction hp with
 | nil=>exact .nil
 | cons h1 _ ih=>exact .cons (h _ (by simp) _ _ _ _ _ h1) (ih λ A hA=>h A (by simp [hA]))
theorem gC {A A':As}(h:anyA A)(h':anyA A'):∀ X∈[A,A'],anyA X:=λ X hX=>by
 rcases qo.1 hX with rfl | hX
 ·exact h
 ·obtain rfl:=qq.1 hX; exact h'
theorem AK:anyA IntZ:=mc (gC (λ _ _ _ _ _ h=>h) (λ _ _ _ _ _ h=>h))
theorem any_im (n:Nat):anyA (IntM n):=mc (gC (λ _ _ _ _ _ h=>h) (λ _ _ _ _ _ h=>h))
theorem any_fz:anyA FrZ:=mc (gC AK AK)
theorem any_fm (n:Nat):anyA (FrM n):=mc (gC (any_im n) AK)
theorem mkp_e:MkP MkE 9:=⟨λ _=>rfl,λ _=>rfl,λ n=>mc (λ X hX=>by
 rcases qo.1 hX with rfl | hX
 ·exact λ _ _ _ _ _ h=>h
 ·exact gC (any_fm n) any_fz X hX)⟩
section
variable {P:Program} {R:Rg} {Q:Exit→Act→World→Prop} {B i:Nat} {w0:Bs}
theorem Fo {S:TypeId}{n:Nat}{x y:Operand}(hM:MakeOk P S U32 .u32)(hx:Has R B w0 i x (In n))(hy:Has R B w0 i y (In n))(hn:n≤17592186044416):Wv P Q R B w0 i (.makeSlice S x y) (LenS n).va :=
 bm λ d T ps af gd a w av=>by
  obtain ⟨h1,h2,h3,h4,h5⟩:=hM
  obtain ⟨it,hi,hz⟩:=xV.1 h2
  have hby:=h5 it hi
  have hm:=run_make (P:=P) w S U32 it (.int .u32 0) h1 hi hz .i64 .i64 n n zo zo (by
   have:it.bytes*n≤8*n:=qG _ hby
   have h6:((it.bytes*n:Nat):Int)≤281474976710656:=by omega
   rwa [xD] at h6) zo
  have e1:=bo (hx a w av)
  have e2:=bo (hy a w av)
  refine ⟨.slice (some ⟨w.heap.size,0,none⟩) n n,w.alloc (.cells (madeCells (Value.int .u32 0).cells (n*it.size)) U32),?_,Grow.alloc _ _,⟨[.slice (some ⟨w.heap.size,0,none⟩) n n],⟨_,_,rfl⟩,rfl⟩⟩
  simp only [zH] at hm
  simp [execOp,e1,e2,hm]
theorem r_lenK {x:Operand}{S E':TypeId}{k:Nat}(hS:P.underlying S=some (.slice E'))(hx:Has R B w0 i x (LenS k).va):Wv P Q R B w0 i (.call ⟨.builtin .len,#[x],#[S]⟩) (In k) :=
 bm λ d T ps af gd a w av=>by
  obtain ⟨cs,⟨g,c,rfl⟩,hv⟩:=hx a w av
  have hv':a.eval x=.slice (some ⟨g,0,none⟩) k c:=hv
  refine ⟨.int .i64 (k:Int),w,?_,Grow.refl w,cp _ _ _ _⟩
  simp [execOp,resolve,invoke,builtin,hv',Builtin.len_,run_underlying hS,goInt]
theorem p6 {x:Operand}{S E':TypeId}{n:Nat}(hS:P.underlying S=some (.slice E'))(hv:RowV v n)(hx:Has R B w0 i x (EqS v).va):Wv P Q R B w0 i (.call ⟨.builtin .len,#[x],#[S]⟩) (In n) :=
 bm λ d T ps af gd a w av=>by
  have e:=lR (hx a w av)
  rcases hv with ⟨rfl,rfl⟩ | ⟨g,cap,rfl,_⟩
  ·refine ⟨.int .i64 0,w,?_,Grow.refl w,cp _ _ _ _⟩
   simp [execOp,resolve,invoke,builtin,e,Builtin.len_,run_underlying hS,goInt]
  ·refine ⟨.int .i64 (n:Int),w,?_,Grow.refl w,cp _ _ _ _⟩
   simp [execOp,resolve,invoke,builtin,e,Builtin.len_,run_underlying hS,goInt]
end
theorem sh:Str Tryz.prog 28 [BoA false,EqS (.slice none 0 0)] :=
 Str.of (z:=.agg #[.bool false,.slice none 0 0]) zk Tryz.underlying28 zk λ B w=>⟨[[.bool false],[.slice none 0 0]],rfl,.cons rfl (.cons ⟨rfl,rfl⟩ .nil)⟩
theorem iz_p (B:Nat)(w:World):IntZ.p B [.bool false,.slice none 0 0] w:=⟨[[.bool false],[.slice none 0 0]],rfl,.cons rfl (.cons ⟨rfl,rfl⟩ .nil)⟩
theorem fz_p (B:Nat)(w:World):FrZ.p B [.bool false,.slice none 0 0,.bool false,.slice none 0 0] w:=⟨[[.bool false,.slice none 0 0],[.bool false,.slice none 0 0]],rfl,.cons (iz_p B w) (.cons (iz_p B w) .nil)⟩
theorem tU:Str Tryz.prog 30 [IntZ,IntZ] :=
 Str.of (z:=.agg #[.bool false,.slice none 0 0,.bool false,.slice none 0 0]) zk Tryz.underlying30 zk λ B w=>fz_p B w
theorem oT:Str Tryz.prog 92 [NumA .u8 0,FrZ,FrZ] :=
 Str.of (z:=.agg #[.int .u8 0,.bool false,.slice none 0 0,.bool false,.slice none 0 0,.bool false,.slice none 0 0,.bool false,.slice none 0 0]) zk Tryz.underlying92 zk λ B w=>⟨[[.int .u8 0],[.bool false,.slice none 0 0,.bool false,.slice none 0 0],[.bool false,.slice none 0 0,.bool false,.slice none 0 0]],rfl,.cons rfl (.cons (fz_p B w) (.cons (fz_p B w) .nil))⟩
theorem tm40 {n:Nat}:((n:Nat):Int).tmod 40=((n%40:Nat):Int):=by rw [jm zo]; omega
theorem w40 {n:Nat}:IntKind.i64.wrap (1+((n%40:Nat):Int))=((1+n%40:Nat):Int):=by rw [wi64 zo zo]; omega
theorem y8 (n0:Nat):Cn Tryz.prog 212 [In (n0:Nat)] ((IntM n0).va):=by
 refine Cn.intro Tryz.func212 G zk nq (λ B w0 a U=>?_)
 have U:=zn [(0,In (n0:Nat))] [] U
 refine qb<|zg [] [⟨2,28,ptrH,some 0,_,none⟩] [.alc 0] [.g 0] U (zY G (Str.zero sh) o0) (zz [(0,_)] [O 2 28 _] λ a w U=>?_)
 refine zt<|zg [some (5,_)] [] [.v 3 _,.v 4 _,.v 5 _,.v 6 _,.v 7 _,.sto 0] [] U (zM 0 G (zv G (lf (vq 0 G) a8 zd tm40) (zv G (aQ a8 (vq 1 G) (w40)) (zv G (Fo eJ (vq 2 G) (vq 2 G) zo) (zv G (aO (qs:=[(1,_)]) sh (.cons ⟨rfl,vq 3 rfl,rfl⟩ .nil)) (zS 4 G al o0)))))) (zz [] [O 2 28 _] λ a w U=>?_)
 refine a7<|qe<|aj ?_ (ap G U (zm 0 G) al)
 exact aL
theorem Gh (n0:Nat):Cn Tryz.prog 213 [(IntM n0).va,In (n0:Nat)] (Bo true):=by
 refine Cn.intro Tryz.func213 G zk nq (λ B w0 a U=>?_)
 have U:=zn [(0,(IntM n0).va),(1,In (n0:Nat))] [] U
 refine qb<|zg [] [⟨2,28,ptrH,some 0,_,none⟩] [.alc 0,.v 4 _] [.g 1,.o 1] U (zW 0 G (zv G (a9 aB) o0)) (zz [(1,_),(4,_)] [O 2 28 _] λ a w U=>?_)
 refine zt<|zg [η] [] [.adr 5 2 (.some 1) True,.v 6 _,.v 7 _,.v 8 _,.v 9 _,.v 10 _,.v 11 _,.v 12 _,.adr 13 2 (.some 0) (_=true),.t 14 _,.t 15 _,.v 16 _,.v 4 _] [.o 12] U (zO 0 G ar (zL 0 0 1 G aY (zv G (r_lenK Tryz.underlying26 (vq 1 G)) (zM 0 G (zv G (lf (vq 3 G) a8 zd tm40) (zv G (aQ a8 (vq 4 G) (w40)) (zv G (bF (vq 2 G) (vq 5 G)) (zv G (ab (vq 6 G)) (zC 7 0 G aU (zB 7 G (λ hg=>ax 8 G zk hg (lz0 0 G) (Sub.part 0 G G) ty_4) (zB 7 G (λ hg=>cW (ac (vq 9 G) hg)) (zv G (bG (vq 7 G) (vq 10 G)) (zA 11 G o0))))))))))))) (zz [(4,_)] [O 2 28 _] λ a w U=>?_)
 refine a7<|qe<|aj ?_ (an G U (zm 0 G))
 refine bj (qk Bo ?_); simp
theorem gk (n0:Nat):Cn Tryz.prog 146 [In (n0:Nat)] ((MkE n0).va):=by
 refine Cn.intro Tryz.func146 G zk nq (λ B w0 a U=>?_)
 have U:=zn [(0,In (n0:Nat))] [] U
 refine qb<|zg [] [⟨2,92,ptrH,some 0,_,none⟩] [.alc 0] [.g 0] U (zY G (Str.zero oT) o0) (zz [(0,_)] [O 2 92 _] λ a w U=>?_)
 refine zt<|zg [some (4,_)] [] [.v 3 _,.v 4 _,.v 5 _,.v 6 _,.sto 0] [] U (zM 0 G (zQ G (y8 _) (.o (vq 0 G)) (zv G (aO (qs:=[(0,_)]) tU (.cons ⟨rfl,vq 1 rfl,rfl⟩ .nil)) (zv G (aO (qs:=[(0,_),(1,_)]) oT (.cons ⟨rfl,a8,rfl⟩ (.cons ⟨rfl,vq 2 rfl,rfl⟩ .nil))) (zS 3 G er o0))))) (zz [] [O 2 92 _] λ a w U=>?_)
 refine a7<|qe<|aj ?_ (ap G U (zm 0 G) er)
 exact aL
theorem lG (n0:Nat):Cn Tryz.prog 162 [(MkE n0).va,In (n0:Nat)] (Bo true):=by
 refine Cn.intro Tryz.func162 G zk nq (λ B w0 a U=>?_)
 have U:=zn [(0,(MkE n0).va),(1,In (n0:Nat))] [] U
 refine qb<|zg [] [⟨2,92,ptrH,some 0,_,none⟩] [.alc 0,.v 4 _] [.g 1,.o 1] U (zW 0 G (zv G (a9 aB) o0)) (zz [(1,_),(4,_)] [O 2 92 _] λ a w U=>?_)
 refine zt<|zg [η] [] [.adr 5 2 (.some 0) True,.v 6 _,.v 7 _,.v 8 _,.adr 9 2 (.some 1) (_=true),.adr 10 2 (.some (1+0)) (_=true),.t 11 _,.t 12 _,.t 13 _,.v 14 _,.v 15 _,.adr 16 2 (.some 5) (_=true),.adr 17 2 (.some (5+0)) (_=true),.adr 18 2 (.some (5+1)) (_=true),.t 19 _,.t 20 _,.t 21 _,.v 22 _,.v 4 _] [.o 18] U (zO 0 G cI (zL 0 0 0 G dz (zv G (bF (vq 1 G) a8) (zv G (ab (vq 2 G)) (zC 3 0 G bT (oc (mm G G G (vq 3 G) nq (λ hg=>co 4 G zk hg (lz0 0 G) aV)) (zB 3 G (λ hg=>ax 5 G zk hg (lz0 0 G) (Sub.trans (Sub.part 1 G G) (Sub.part 0 G G) G) al) (zB 3 G (λ hg=>ab (gq 0 G)) (zB 3 G (λ hg=>aX (Gh _) (.p (ac (vq 6 G) hg) (ac (vq 7 G) hg))) (zv G (bG (vq 3 G) (vq 8 G)) (zv G (ab (vq 9 G)) (zC 10 0 G bX (oc (mm G G G (vq 10 G) nq (λ hg=>co 11 G zk hg (lz0 0 G) aV)) (oc (mm G G G (vq 10 G) nq (λ hg=>co 12 G zk hg (lz0 0 G) ar)) (zB 10 G (λ hg=>ax 13 G zk hg (lz0 0 G) (Sub.trans (Sub.part 2 G G) (Sub.trans (Sub.part 0 G G) (Sub.part 1 G G) G) G) aY) (zB 10 G (λ hg=>bh Tryz.underlying26 (has_wk' (ac (vq 14 G) hg) br)) (zB 10 G (λ hg=>bF (ac (vq 15 G) hg) a8) (zv G (bG (vq 10 G) (vq 16 G)) (zA 17 G o0))))))))))))))))))) (zz [(4,_)] [O 2 92 _] λ a w U=>?_)
 refine a7<|qe<|aj ?_ (an G U (zm 0 G))
 refine bj (qk Bo ?_); simp
structure Slt.new (s:Slt):Prop where
 rv:RowV s.v s.xs.length
 z1:s.z.oneCell'=true
 n1:s.n≤1000000
 lx:s.xs.length≤2000000000
 uv:s.u=s.v
 yx:s.ys=s.xs
structure Fik (A:Nat→As) (s t:Slt) (c:Nat→Prop):Prop where
 v:t.v=s.v
 u:t.u=s.v
 yx:t.ys=t.xs
 z:t.z=s.z
 n:t.n=s.n
 l:t.xs.length=s.xs.length
 m:∀ q x,t.xs[q]?=some x→c q→isMk A s.n x
def FiK (A:Nat→As)(L M:List Slt)(i k:Nat):Prop:=M.length=L.length∧∀ (j:Nat) s,L[j]?=some s→∃ t,M[j]?=some t∧Fik A s t (λ q=>j<i∨(j=i∧q<k))
theorem fik_0 {A:Nat→As}{L:List Slt}(h:∀ s∈L,s.new):FiK A L L 0 0:=⟨rfl,λ j s hs=>⟨s,hs,rfl,(h s (qa hs)).uv,(h s (qa hs)).yx,rfl,rfl,rfl,λ q x _ hc=>by omega⟩⟩
theorem E0 {A:Nat→As}{L M:List Slt}{i k j:Nat}{s:Slt}(h:FiK A L M i k)(hs:L[j]?=some s):∃ t,M[j]?=some t∧Fik A s t (λ q=>j<i∨(j=i∧q<k)):=h.2 j s hs
theorem Cx {A:Nat→As}{L M:List Slt}{i k:Nat}{s t:Slt}{ds:List Value}(h:FiK A L M i k)(hs:L[i]?=some s)(ht:M[i]?=some t)(hd:isMk A s.n ds):FiK A L (M.set i { t with xs:=t.xs.set k ds,ys:=t.xs.set k ds }) i (k+1):=by
 have hlt:=(List.getElem?_eq_some_iff.1 ht).1
 refine ⟨by rw [qS]; exact h.1,λ j s' hj=>?_⟩
 obtain ⟨t',h1,h2⟩:=h.2 j s' hj
 by_cases e:j=i
 ·subst e
  rw [hs] at hj
  injection hj with hj
  subst hj
  rw [ht] at h1
  injection h1 with h1
  subst h1
  refine ⟨_,List.getElem?_set_self hlt,h2.v,h2.u,rfl,h2.z,h2.n,by rw [qS]; exact h2.l,λ q x hq hc=>?_⟩
  by_cases e2:q=k
  ·subst e2
   have hq':(t.xs.set q ds)[q]?=some x:=hq
   rw [List.getElem?_set] at hq'
   simp only [if_true] at hq'
   split at hq'
   ·injection hq' with hq'
    subst hq'
    exact hd
   ·cases hq'
  ·have hq':(t.xs.set k ds)[q]?=some x:=hq
   rw [List.getElem?_set_ne (λ e3=>e2 e3.symm)] at hq'
   exact h2.m q x hq' zo
 ·refine ⟨t',by rw [List.getElem?_set_ne (λ e2=>e e2.symm)]; exact h1,h2.v,h2.u,h2.yx,h2.z,h2.n,h2.l,λ q x hq hc=>h2.m q x hq ?_⟩
  rcases hc with hc | ⟨hc,_⟩
  ·exact .inl hc
  ·exact absurd hc e
theorem Cy {A:Nat→As}{L M:List Slt}{i:Nat}{s:Slt}(h:FiK A L M i s.xs.length)(hs:L[i]?=some s):FiK A L M (i+1) 0:=by
 refine ⟨h.1,λ j s' hj=>?_⟩
 obtain ⟨t,h1,h2⟩:=h.2 j s' hj
 refine ⟨t,h1,h2.v,h2.u,h2.yx,h2.z,h2.n,h2.l,λ q x hq hc=>h2.m q x hq ?_⟩
 rcases hc with hc | ⟨_,hc⟩
 ·by_cases e:j=i
  ·subst e
   rw [hs] at hj
   injection hj with hj
   subst hj
   have:=(List.getElem?_eq_some_iff.1 hq).1
   exact .inr ⟨rfl,by rw [← h2.l]; exact this⟩
  ·exact .inl zo
 ·omega
structure Slt.full (A:Nat→As) (s:Slt):Prop extends s.new where
 xm:∀ x∈s.xs,isMk A s.n x
theorem A4 {A:Nat→As}{s t:Slt}{c:Nat→Prop}(h:Fik A s t c)(hs:s.new):t.new:=⟨by rw [h.v,h.l]; exact hs.rv,by rw [h.z]; exact hs.z1,by rw [h.n]; exact hs.n1,by rw [h.l]; exact hs.lx,by rw [h.u,h.v],h.yx⟩
theorem A5 {A:Nat→As}{L M:List Slt}{i k:Nat}(h:FiK A L M i k){t:Slt}(ht:t∈M):∃ j s,L[j]?=some s∧Fik A s t (λ q=>j<i∨(j=i∧q<k)):=by
 obtain ⟨j,hj⟩:=List.getElem?_of_mem ht
 have hlt:=(List.getElem?_eq_some_iff.1 hj).1
 rw [h.1] at hlt
 obtain ⟨t',h1,h2⟩:=h.2 j _ (List.getElem?_eq_getElem hlt)
 rw [hj] at h1
 injection h1 with h1
 subst h1
 exact ⟨j,_,List.getElem?_eq_getElem hlt,h2⟩
theorem GM {A:Nat→As}{L M:List Slt}{i k:Nat}(h:FiK A L M i k)(hn:∀ s∈L,s.new):OneK M:=λ t ht=>by
 obtain ⟨j,s,hs,hf⟩:=A5 h ht
 have:=A4 hf (hn s (qa hs))
 exact ⟨this.rv.one,this.z1⟩
def allFull (A:Nat→As)(L M:List Slt):Prop:=M.length=L.length∧∀ t∈M,t.full A
theorem GN {A:Nat→As}{L M:List Slt}{i:Nat}(h:FiK A L M i 0)(hi:L.length≤i)(hn:∀ s∈L,s.new):allFull A L M:=⟨h.1,λ t ht=>by
 obtain ⟨j,s,hs,hf⟩:=A5 h ht
 refine ⟨A4 hf (hn s (qa hs)),λ x hx=>?_⟩
 obtain ⟨q,hq⟩:=List.getElem?_of_mem hx
 rw [hf.n]
 exact hf.m q x hq (.inl (by have:=(List.getElem?_eq_some_iff.1 hs).1; omega))⟩
structure GrewK (A:Nat→As) (s t:Slt):Prop where
 v:t.v=s.v
 xs:t.xs=s.xs
 n:t.n=s.n
 z:t.z=t.u
 yl:t.ys.length=s.xs.length+70
 ym:∀ y∈t.ys,isMk A s.n y
def GrK (A:Nat→As)(L M:List Slt)(i:Nat):Prop:=M.length=L.length∧∀ (j:Nat) s,L[j]?=some s→∃ t,M[j]?=some t∧(j<i→GrewK A s t)∧(i≤j→t=s)
theorem grk_0 {A:Nat→As}{L:List Slt}:GrK A L L 0:=⟨rfl,λ j s h=>⟨s,h,λ h=>absurd h (jE _),λ _=>rfl⟩⟩
theorem grk_at {A:Nat→As}{L M:List Slt}{i:Nat}{s:Slt}(h:GrK A L M i)(hs:L[i]?=some s):M[i]?=some s:=by
 obtain ⟨t,h1,_,h2⟩:=h.2 i s hs
 rw [h1,h2 (qg _)]
def Slt.ext (s:Slt)(u:Value)(ys:List (List Value)):Slt:={ s with u:=u,ys:=ys }
theorem Cb {A:Nat→As}{L M:List Slt}{i:Nat}{s:Slt}{u:Value}{ys:List (List Value)}(h:GrK A L M i)(hs:L[i]?=some s)(hl:ys.length=s.xs.length+70)(hy:∀ y∈ys,isMk A s.n y):GrK A L (M.set i { s.ext u ys with z:=u }) (i+1):=by
 refine ⟨by rw [qS]; exact h.1,λ j s' hj=>?_⟩
 by_cases e:j=i
 ·subst e
  rw [hs] at hj
  injection hj with hj
  subst hj
  refine ⟨_,List.getElem?_set_self (by rw [h.1]; exact (List.getElem?_eq_some_iff.1 hs).1),λ _=>⟨rfl,rfl,rfl,rfl,hl,hy⟩,λ h=>by omega⟩
 ·obtain ⟨t,h1,h2,h3⟩:=h.2 j s' hj
  exact ⟨t,by rw [List.getElem?_set_ne (λ e2=>e e2.symm)]; exact h1,λ h=>h2 zo,λ h=>h3 zo⟩
theorem Gt {A:Nat→As}{L M:List Slt}{i:Nat}(h:GrK A L M i){t:Slt}(ht:t∈M):∃ s∈L,GrewK A s t∨t=s:=by
 obtain ⟨j,hj⟩:=List.getElem?_of_mem ht
 have hlt:=(List.getElem?_eq_some_iff.1 hj).1
 rw [h.1] at hlt
 obtain ⟨t',h1,h2,h3⟩:=h.2 j _ (List.getElem?_eq_getElem hlt)
 rw [hj] at h1
 injection h1 with h1
 subst h1
 refine ⟨_,qf hlt,?_⟩
 by_cases e:j<i
 ·exact .inl (h2 e)
 ·exact .inr (h3 zo)
structure Slt.done (A:Nat→As) (t:Slt):Prop where
 rv:RowV t.v t.xs.length
 zu:t.z=t.u
 xm:∀ x∈t.xs,isMk A t.n x
 ym:∀ y∈t.ys,isMk A t.n y
 yl:t.ys.length=t.xs.length+70
 n1:t.n≤1000000
 lx:t.xs.length≤2000000000
def allDone (A:Nat→As)(L M:List Slt):Prop:=M.length=L.length∧∀ t∈M,t.done A
theorem Gu {A:Nat→As}{L M:List Slt}{i:Nat}(h:GrK A L M i)(hi:L.length≤i)(hf:∀ s∈L,s.full A):allDone A L M:=⟨h.1,λ t ht=>by
 obtain ⟨j,hj⟩:=List.getElem?_of_mem ht
 have hlt:=(List.getElem?_eq_some_iff.1 hj).1
 rw [h.1] at hlt
 obtain ⟨t',h1,h2,_⟩:=h.2 j _ (List.getElem?_eq_getElem hlt)
 rw [hj] at h1
 injection h1 with h1
 subst h1
 have hG:=h2 zo
 have hs:=hf _ (qf hlt)
 exact ⟨by rw [hG.v,hG.xs]; exact hs.rv,hG.z,by rw [hG.xs,hG.n]; exact hs.xm,by rw [hG.n]; exact hG.ym,by rw [hG.xs]; exact hG.yl,by rw [hG.n]; exact hs.n1,by rw [hG.xs]; exact hs.lx⟩⟩
theorem sq {M:List Slt}{i:Nat}{x y:Slt}:(M.set i x).set i y=M.set i y:=by simp
theorem w5 {M:List Slt}{i:Nat}{x:Slt}(h:M[i]?=some x):M.set i x=M:=by
 obtain ⟨h1,h2⟩:=List.getElem?_eq_some_iff.1 h
 subst h2
 simp
theorem extK_0 {s:Slt}(h:s.new):s.ext s.v s.xs=s:=by
 have h1:=h.uv
 have h2:=h.yx
 obtain ⟨v,xs,u,ys,z,n⟩:=s
 simp only at h1 h2
 subst h1 h2
 rfl
theorem mk_mem {A:Nat→As}{n:Nat}{ys:List (List Value)}{ds:List Value}(h:∀ y∈ys,isMk A n y)(hd:isMk A n ds):∀ y∈ys++[ds],isMk A n y:=λ y hy=>by
 rcases qw.1 hy with hy | hy
 ·exact h y hy
 ·obtain rfl:=qq.1 hy; exact hd
theorem wo {A:As}{n k:Nat}(h:k<n):(List.replicate n A)[k]?=some A:=by rw [List.getElem?_replicate,qC h]
theorem Do {A:As}{n m:Nat}(h:A.n=m):∀ X∈List.replicate n A,X.n=m:=λ X hX=>by rw [(xl.1 hX).2]; exact h
def ExtP (A:Nat→As)(s:Slt)(k:Nat)(ys:List (List Value)):Prop:=ys.length=s.xs.length+k∧s.xs <+: ys∧∀ y∈ys,isMk A s.n y
theorem extP_0 {A:Nat→As}{s:Slt}(h:s.full A):ExtP A s 0 s.xs:=⟨rfl,List.prefix_refl _,h.xm⟩
theorem Cw {A:Nat→As}{s t:Slt}{c:Nat→Prop}(h:Fik A s t c):t.view=s.view:=by
 unfold Slt.view
 rw [h.v,h.z,h.n]
theorem AU {A:Nat→As}{M:List Slt}{i:Nat}{s t:Slt}{c:Nat→Prop}(ht:M[i]?=some t)(h:Fik A s t c):(M.map Slt.view)[i]?=some s.view:=by rw [mW ht,Cw h]
theorem cV:Str Tryz.prog 125 [EqS (.slice none 0 0),EqS (.slice none 0 0),NumA .i64 0] :=
 Str.of (z:=.agg #[.slice none 0 0,.slice none 0 0,.int .i64 0]) zk Tryz.underlying125 zk λ B w=>⟨[[.slice none 0 0],[.slice none 0 0],[.int .i64 0]],rfl,.cons ⟨rfl,rfl⟩ (.cons ⟨rfl,rfl⟩ (.cons rfl .nil))⟩
theorem oD:∃ it z,Tryz.prog.info? 92=some it∧it.zero=some z∧it.size=9∧it.bytes=136∧z.cells.size=9:=by
 have h:((Tryz.prog.info? 92).bind λ it=>it.zero.map λ z=>(it.size,it.bytes,z.cells.size))=some (9,136,9):=by kernel_rfl
 cases hi:Tryz.prog.info? 92 with
 | none=>rw [hi] at h; simp at h
 | some it =>
  rw [hi] at h
  cases hz:it.zero with
  | none=>simp [hz] at h
  | some z =>
   simp [hz] at h
   exact ⟨it,z,rfl,hz,h.1,h.2.1,h.2.2⟩
theorem wrElement {X:BkRest}{L:List Slot}{M M':List Slt}{B g T:Nat}{c c':Array Value}(h:(BqA { X with M:=M } vr L).p B cs w)(hgc:w.heap[g]?=some (.cells c T (0,0)))(hT:T=125∨T=92)(hB:B≤g)(f:∀ c0,(HkA 125 92 9 X.ve M).p B c0 w→(HkA 125 92 9 X.ve M').p B c0 (w.setRow g c')):(BqA { X with M:=M' } vr L).p B cs (w.setRow g c'):=by
 rcases hT with rfl | rfl
 ·exact pK h G (λ c0 hp=>As.kwr hp hgc (show 125 ∉ [127,U32] by decide) hB) (λ c0 hp=>As.kwr hp hgc (show 125 ∉ [132,3] by decide) hB) (λ c0 hp=>As.kwr hp hgc (show 125 ∉ [160,162] by decide) hB) f
 ·exact pK h G (λ c0 hp=>As.kwr hp hgc (show 92 ∉ [127,U32] by decide) hB) (λ c0 hp=>As.kwr hp hgc (show 92 ∉ [132,3] by decide) hB) (λ c0 hp=>As.kwr hp hgc (show 92 ∉ [160,162] by decide) hB) f
theorem grElement {X:BkRest}{L:List Slot}{M M':List Slt}{row:Option Nat}(h:(BqA { X with M:=M } vr L).p B cs w)(hg:w.grownBy w' row)(hr:RowOk w B 92 row)(f:∀ c0,(HkA 125 92 9 X.ve M).p B c0 w→(HkA 125 92 9 X.ve M').p B c0 w'):(BqA { X with M:=M' } vr L).p B cs w' :=
 pK h rfl (λ c0 hp=>As.grown hp hg hr (qg _) (show 92 ∉ [127,U32] by decide)) (λ c0 hp=>As.grown hp hg hr (qg _) (show 92 ∉ [132,3] by decide)) (λ c0 hp=>As.grown hp hg hr (qg _) (show 92 ∉ [160,162] by decide)) f
theorem hkElement {X:BkRest}{L:List Slot}{M:List Slt}(h:(BqA { X with M:=M } vr L).p B cs w):∃ c,(HkA 125 92 9 X.ve M).p B c w:=(cN h).2.2.2
theorem fiElement {X:BkRest}{L:List Slot}{M:List Slt}{B i k g cap:Nat}{t:Slt}{cs ds:List Value}(hi:M[i]?=some t)(hu:t.u=t.v)(hy:t.ys=t.xs)(hv:t.v=.slice (some ⟨g,0,none⟩) t.xs.length cap)(hk:k<t.xs.length)(hd:ds.length=9)(h:(BqA { X with M:=M } vr L).p B cs w):
  B≤g∧∃ c:Array Value,w.heap[g]?=some (Obj.cells c 92 (0,0))∧k*9+9≤c.size∧(BqA { X with M:=M.set i { t with xs:=t.xs.set k ds,ys:=t.xs.set k ds } } vr L).p B cs (w.setRow g (c.toList.take (k*9)++ds++c.toList.drop (k*9+9)).toArray):=by
 obtain ⟨c0,h0⟩:=hkElement h
 obtain ⟨h2,c,h3,h4,h5⟩:=yE zd h0 hi hu hy hv hk hd
 refine ⟨h2,c,h3,h4,wrElement h h3 (.inr G) h2 λ c1 h6=>?_⟩
 obtain ⟨_,c',h7,_,h8⟩:=yE zd h6 hi hu hy hv hk hd
 rw [h3] at h7
 injection h7 with h7
 injection h7 with h7
 subst h7
 exact h8
def ExElement (X:BkRest)(vr:Value)(L:List Slot)(p:List Slt→Prop):As where
 n:=17
 ag:=true
 p B cs w:=∃ M,p M∧(BqA { X with M:=M } vr L).p B cs w
 deps:=(BqA X vr L).deps
 len:=λ B cs w ⟨M,_,h⟩=>(BqA { X with M:=M } vr L).len B cs w h
 one:=λ B cs w ⟨M,_,h⟩=>(BqA { X with M:=M } vr L).one B cs w h
 ag1:=λ h=>by cases h
 cg:=λ B cs w w' hg ⟨M,h1,h⟩=>⟨M,h1,(BqA { X with M:=M } vr L).cg B cs w w' hg h⟩
 wr:=λ B cs w w' g c T fz h1 h2 h3 h4 ⟨M,h5,h⟩=>⟨M,h5,(BqA { X with M:=M } vr L).wr B cs w w' g c T fz h1 h2 h3 h4 h⟩
theorem exElement {X:BkRest}{L:List Slot}{M:List Slt}{p:List Slt→Prop}(hp:p M):WkA (BqA { X with M:=M } vr L) (ExElement X vr L p):=⟨rfl,rfl,λ B cs w h=>⟨M,hp,h⟩⟩
theorem stElement {X:BkRest}{L:List Slot}{p:List Slt→Prop}{B N:Nat}{s:Nat}(h:St B w0 N Γ Λ a w)(k:Nat)(hm:Λ[k]?=some ⟨s,T,H,ExElement X vr L p⟩):∃ M,p M∧St B w0 N Γ (Λ.set k ⟨s,T,H,BqA { X with M:=M } vr L⟩) a w:=by
 obtain ⟨g,cs,q1,q2,q3,M,hG,q4⟩:=h.locs _ (qa hm)
 have hs:∀ m∈Λ.set k ⟨s,T,H,BqA { X with M:=M } vr L⟩,∃ m0∈Λ,m0.s=m.s:=λ m hm'=>by
  rcases qp hm' with hm' | rfl
  ·exact ⟨m,hm',rfl⟩
  ·exact ⟨_,qa hm,rfl⟩
 refine ⟨M,hG,h.lo,h.defers,h.size,h.base,h.vals,λ l hl=>?_,λ m1 hm1 m2 hm2 hne=>?_⟩
 ·rcases qp hl with hl | rfl
  ·exact h.locs l hl
  ·exact ⟨g,cs,q1,q2,q3,q4⟩
 ·obtain ⟨m3,r1,r2⟩:=hs m1 hm1
  obtain ⟨m4,r3,r4⟩:=hs m2 hm2
  rw [← r2,← r4] at hne ⊢
  exact h.dis m3 r1 m4 r3 hne
theorem apElement {X:BkRest}{L:List Slot}{M:List Slt}{B i k:Nat}{s:Slt}{u:Value}{ys:List (List Value)}(hMi:M[i]?=some s)(hE:ExtP MkE s k ys)(h:(BqA { X with M:=M.set i (s.ext u ys) } vr L).p B cs w):
  w.ownsRow B 92 9 u (s.xs.length+k) ys.flatten∧∀ v' w' ds,isMk MkE s.n ds→w'.ownsRow B 92 9 v' (s.xs.length+k+1) (ys.flatten++ds)→w.grownBy w' u.ownBlock→(v'.ownBlock=u.ownBlock∨(v'.ownBlock=some w.heap.size∧w.grownBy w' none))→(ExElement X vr L λ M'=>∃ ys',M'=M.set i (s.ext v' ys')∧ExtP MkE s (k+1) ys').p B cs w':=by
 have hlt:=(List.getElem?_eq_some_iff.1 hMi).1
 have hi:(M.set i (s.ext u ys))[i]?=some (s.ext u ys):=List.getElem?_set_self hlt
 obtain ⟨hl,hp,hm⟩:=hE
 obtain ⟨c0,h0⟩:=hkElement h
 have hown0:w.ownsRow B 92 9 u (s.xs.length+k) ys.flatten:=by
  have:=(h0.2.2.1 _ (qa hi)).1
  rw [show (s.ext u ys).ys.length=s.xs.length+k from hl] at this
  exact this
 refine ⟨hown0,λ v' w' ds hds hown hg hb=>⟨M.set i (s.ext v' (ys++[ds])),⟨ys++[ds],rfl,by rw [qn,hl]; rfl,hp.trans (List.prefix_append _ _),mk_mem hm hds⟩,grElement h hg (fM hown0) λ c hc=>?_⟩⟩
 have:=hk_app (v':=v') (ds:=ds) zd hc hi (by rw [show (s.ext u ys).ys.length=s.xs.length+k from hl]; exact hown) hg hb (λ _=>hp) (λ y hy=>mkp_e.len (hm y hy))
 rw [sq] at this
 exact this
theorem puElement {X:BkRest}{vr z:Value}{L:List Slot}{M:List Slt}{B i g cap:Nat}{s:Slt}(hi:M[i]?=some s)(hvr:X.ve=.slice (some ⟨g,0,none⟩) M.length cap)(h:(BqA { X with M:=M } vr L).p B cs w):
  B≤g∧∃ c:Array Value,w.heap[g]?=some (Obj.cells c 125 (0,0))∧i*3+1<c.size∧(BqA { X with M:=M.set i { s with z:=z } } vr L).p B cs (w.setRow g (c.setIfInBounds (i*3+1) z)):=by
 obtain ⟨c0,h0⟩:=hkElement h
 obtain ⟨h2,c,h3,h4,h5⟩:=DS zd z h0 hi hvr
 refine ⟨h2,c,h3,h4,wrElement h h3 (.inl G) h2 λ c1 h6=>?_⟩
 obtain ⟨_,c',h7,_,h8⟩:=DS zd z h6 hi hvr
 rw [h3] at h7
 injection h7 with h7
 injection h7 with h7
 subst h7
 exact h8
theorem knElement {X:BkRest}{L:List Slot}{M:List Slt}{B N:Nat}{s:Nat}(h:St B w0 N Γ Λ a w)(k:Nat)(hm:Λ[k]?=some ⟨s,T,H,BqA { X with M:=M } vr L⟩):RowV X.ve M.length∧∀ t∈M,RowV t.u t.ys.length∧RowV t.v t.xs.length:=by
 obtain ⟨g,cs,_,_,_,hp⟩:=h.locs _ (qa hm)
 obtain ⟨c,h1,h2,h3,_⟩:=hkElement hp
 exact ⟨(cY h2).2,λ t ht=>⟨(cY (h3 t ht).1).2,(h3 t ht).2.1⟩⟩
theorem kpElement {X:BkRest}{L:List Slot}{B N:Nat}{s:Nat}(h:St B w0 N Γ Λ a w)(k:Nat)(hm:Γ[k]?=some (s,ElP T (BqA X vr L))):∀ t∈X.M,RowV t.u t.ys.length∧RowV t.v t.xs.length:=by
 obtain ⟨b,o,cs,_,_,_,hp,_⟩:=h.vals _ (qa hm)
 obtain ⟨c,h1,h2,h3,_⟩:=hkElement (M:=X.M) hp
 exact λ t ht=>⟨(cY (h3 t ht).1).2,(h3 t ht).2.1⟩
section
open Rg
variable {P:Program} {Q:Exit→Act→World→Prop} {R:Rg} {B i:Nat} {w0:Bs}
theorem svElement {X:BkRest}{x y:Operand}{L:List Slot}{t:Slt}(hx:Has R B w0 i x (EqS t.v).va)(hl:Has R B w0 i y (ElP T (BqA X vr L)))(ht:t∈X.M)(hd:t.done MkE):Has R B w0 i x (SlA 92 [] (List.replicate t.xs.length (MkE t.n))).va:=λ a w av=>by
 obtain ⟨b,o,cs,_,_,_,h,_⟩:=hl a w av
 obtain ⟨c,h⟩:=hkElement (M:=X.M) h
 rw [lR (hx a w av)]
 exact wt mkp_e (h.2.2.1 t ht).2 hd.xm
theorem suElement {X:BkRest}{x y:Operand}{L:List Slot}{t:Slt}(hx:Has R B w0 i x (EqS t.z).va)(hl:Has R B w0 i y (ElP T (BqA X vr L)))(ht:t∈X.M)(hd:t.done MkE):Has R B w0 i x (SlA 92 [] (List.replicate t.ys.length (MkE t.n))).va:=λ a w av=>by
 obtain ⟨b,o,cs,_,_,_,h,_⟩:=hl a w av
 obtain ⟨c,h⟩:=hkElement (M:=X.M) h
 rw [lR (hx a w av),hd.zu]
 exact wt mkp_e (sG (λ y hy=>mkp_e.len (hd.ym y hy)) (h.2.2.1 t ht).1) hd.ym
end
theorem oo (X:BkRest)(vr:Value)(L:List Slot)(hnew:∀ s∈X.M,s.new)(hl:X.M.length≤1000000):CK Tryz.prog 59 61 [61,125,92] (BqA X vr L) (ExElement X vr L (allFull MkE X.M)) [] (Tu []):=by
 refine CK.intro Tryz.func59 G zk nq zk (λ B g w0 a hrm U=>?_)
 have U:=zn [(0,EqV ((ptrH).f g)),] [⟨0,61,ptrH,BqA X vr L⟩] U
 refine qb<|zg [η] [] [.v 2 _] [.g 0,.o 0] U (zv G (a9 a8) o0) (zz [(0,_),(2,_)] [O 0 61 _] λ a w U=>?_)
 refine a7<|ql ?_
 have U:=St.sel U [0,1]
 refine wp_loop_ghost (λ n a w=>∃ (i:Nat) (M:List Slt),(n+i=X.M.length∧FiK MkE X.M M i 0)∧St B w0 35 [(0,EqV (ptrH.f g)),(2,In (i:Nat))] [⟨0,61,ptrH,BqA { X with M:=M } vr L⟩] a w) (X.M.length) ?_ ?_
 ·exact ⟨0,X.M,⟨by omega,fik_0 hnew⟩,U⟩
 intro n a w hI
 obtain ⟨i,M,⟨hn,hF⟩,U⟩:=hI
 have h1M:=GM hF hnew
 refine qb<|qb<|zg [η] [] [.v 5 _,.adr 6 0 (.some 0) True,.adr 7 0 (.some 0) True,.adr 8 0 (.some (0+9)) True,.v 9 _,.v 10 _,.v 11 _] [.g 0,.g 1,.o 6] U (zM 1 G (oc (ob_a G G (fL (lz0 0 G))) (oc (ob_a G G (fK 1 G zk (lz0 0 G))) (oc (ob_a G G (co 2 G zk trivial (lz0 0 G) di)) (zL 3 0 9 G mf (zv G (bh Tryz.underlying52 (has_wk' (vq 4 G) (ry h1M))) (zv G (aK (vq 0 G) (vq 5 G)) o0))))))) (zz [(0,_),(2,_),(11,_)] [O 0 61 _] λ a w U=>?_)
 refine a7<|ae U (zm 2 G) (λ hb0=>?_) (λ hb0=>?_)
 ·have hi:i<X.M.length:=by have:=hF.1; simpa [this] using hb0
  obtain ⟨s,hs⟩:∃ s,X.M[i]?=some s:=⟨_,List.getElem?_eq_getElem hi⟩
  have hwf:=hnew s (qa hs)
  obtain ⟨t,ht,hf⟩:=E0 hF hs
  have hvi:=AU ht hf
  refine qh<|zt<|ql<|qb<|bN (sp:=[.adr 14 0 (.some 0) True,.adr 15 0 (.some 0) True,.adr 16 0 (.some (0+9)) True,.v 17 _,.v 18 _,.v 19 _,.v 20 _,.v 3 VT,.sto 0]) 7 2 0 8 OneC [.g 0,.g 1,.o 6] U (oc (ob_a G G (fL (lz0 0 G))) (oc (ob_a G G (fK 0 G zk (lz0 0 G))) (oc (ob_a G G (co 1 G zk trivial (lz0 0 G) di)) (zL 2 0 9 G mf (zM 1 G (zv G (cv (m:=3) ⟨Tryz.underlying52,by kernel_rfl⟩ pP (has_wk' (vq 3 G) (ry h1M)) (vq 4 G) hvi) (zv G (aq (vq 5 G) mv) o0))))))) G zd zk zk (zz [(0,_),(2,_),(20,_)] [O 0 61 _] λ a w U=>?_)
  rw [show List.range' 7 2=[7,8] from rfl]
  refine gV (A:=s.view) 2 [0,1] G G U (Str.zero cV) G mv G zd G zk zk (λ a w U=>?_)
  refine bC ?_
  have U:=zn [(0,_),(2,_)] [O 0 61 _,O 3 125 _] U
  refine zt<|zg [η,η] [] [.v 4 _] [.g 0,.g 1,.o 0] U (zv G (a9 a8) o0) (zz [(0,_),(2,_),(4,_)] [O 0 61 _,O 3 125 _] λ a w U=>?_)
  refine a7<|ql ?_
  have U:=St.sel U [0,1,2]
  refine wp_loop_ghost (λ n a w=>∃ (k:Nat) (M:List Slt),(n+k=s.xs.length∧FiK MkE X.M M i k)∧St B w0 35 [(0,EqV (ptrH.f g)),(2,In (i:Nat)),(4,In (k:Nat))] [⟨0,61,ptrH,BqA { X with M:=M } vr L⟩,⟨3,125,ptrH,s.view⟩] a w) (s.xs.length) ?_ ?_
  ·exact ⟨0,M,⟨by omega,hF⟩,U⟩
  intro n a w hI
  obtain ⟨k,M,⟨hn2,hF⟩,U⟩:=hI
  obtain ⟨t,ht,hf⟩:=E0 hF hs
  refine qb<|qb<|zg [η,η] [] [.v 21 _,.adr 22 3 (.some 0) True,.v 23 _,.v 24 _,.v 25 _] [.g 0,.g 1,.g 2,.o 4] U (zM 2 G (zO 1 G ee (zL 1 1 0 G iu (zv G (p6 Tryz.underlying38 hwf.rv (vq 2 G)) (zv G (aK (vq 0 G) (vq 3 G)) o0))))) (zz [(0,_),(2,_),(4,_),(25,_)] [O 0 61 _,O 3 125 _] λ a w U=>?_)
  refine a7<|ae U (zm 3 G) (λ hb1=>?_) (λ hb1=>?_)
  ·have hk:k<s.xs.length:=by simpa using hb1
   refine qh<|zt<|ql<|t9 (sp:=[.adr 28 3 (.some 0) True,.v 29 _,.v 30 _,.adr 31 3 (.some 2) True,.v 32 _,.v 33 _,.v 34 VT,.sto 0]) [[],[0],[],[],[3],[3,4],[0,1,2,3,4,5],[0,1,2,3,4,5,6]] 6 2 0 7 OneC [.g 0,.g 1,.g 2,.o 1,.o 2,.o 5] aa U (zO 1 G ee (zL 0 1 0 G iu (zM 2 G (zO 1 G gx (zL 3 1 2 G ty_3 (zQ G (gk _) (.o (vq 4 G)) o0)))))) G zd zd zk (oE zk) zk zk (zz [(0,_),(2,_),(4,_),(29,_),(30,_),(33,_)] [O 0 61 _,O 3 125 _] λ a w U=>?_)
   rw [show List.range' 6 2=[6,7] from rfl]
   obtain ⟨g1,cap1,hv1⟩:=hwf.rv.row hk
   have U:=St.wkG U 3 rfl (show Wk (EqS s.v).va (EqV (.slice (some ⟨g1,0,none⟩) s.xs.length cap1)) from hv1▸oG)
   obtain ⟨vm,ds,hmk,hvc,hone,U⟩:=St.pinV U 5 rfl
   have hds:=mkp_e.len ⟨_,_,hmk⟩
   rw [qv]
   refine ny (m:=9) (k:=k) 3 4 G U ⟨Tryz.underlying38,by kernel_rfl⟩ zd G G hk zd zk zk (λ a U=>?_)
   rw [qv]
   refine FD (A1:=BqA { X with M:=M.set i { t with xs:=t.xs.set k ds,ys:=t.xs.set k ds } } vr L) [1,2,3] 0 6 0 G U G G hone hvc hds er G zd (hrm _ zk) zk zk (λ cs hp=>fiElement ht (hf.u.trans hf.v.symm) hf.yx (by rw [hf.v,hf.l]; exact hv1) (by rw [hf.l]; exact hk) hds hp) (λ w U=>?_)
   refine df ?_
   have U:=zn [(0,_),(2,_),(4,_)] [⟨0,61,ptrH,BqA { X with M:=M.set i { t with xs:=t.xs.set k ds,ys:=t.xs.set k ds } } vr L⟩,O 3 125 _] U
   refine am ?_
   refine a7<|zg [η,η] [] [.v 26 _,.v 27 _,.v 4 _] [.g 0,.g 1,.o 2] U (zM 2 G (zv G (aQ (vq 0 G) a8 (aW (by have:=hwf.lx; omega))) (zA 1 G o0))) (zz [(0,_),(2,_),(4,_)] [O 0 61 _,O 3 125 _] λ a w U=>?_)
   refine a7 ?_
   have U:=St.sel U [0,1,2]
   exact ⟨n-1,by omega,k+1,_,⟨by omega,Cx hF hs ht ⟨_,_,hmk⟩⟩,U⟩
  ·have hk:k=s.xs.length:=by simp at hb1; omega
   subst hk
   refine qK<|ah<|ah<|ay<|am ?_
   refine a7<|zg [η,η] [] [.v 12 _,.v 13 _,.v 2 _] [.g 0,.o 2] U (zM 1 G (zv G (aQ (vq 0 G) a8 (aW (by have:=hwf.lx; omega))) (zA 1 G o0))) (zz [(0,_),(2,_)] [O 0 61 _,O 3 125 _] λ a w U=>?_)
   refine a7 ?_
   have U:=St.sel U [0,1]
   have U:=St.selL U [0]
   exact ⟨X.M.length-(i+1),by omega,i+1,M,⟨by omega,Cy hF hs⟩,U⟩
 ·have hi:X.M.length≤i:=by have:=hF.1; simp [this] at hb0; omega
  have U:=St.wkL (A':=ExElement X vr L (allFull MkE X.M)) U 0 rfl (exElement (GN hF hi hnew))
  refine qK<|ah<|ah<|ay<|cc<|fG U (zm 0 G) (zm 0 G) ?_
  exact aE (rs:=[]) G U .nil zd
theorem nX (X:BkRest)(vr:Value)(L:List Slot)(hfull:∀ s∈X.M,s.full MkE)(hl:X.M.length≤1000000):CK Tryz.prog 75 61 [61,125,92] (BqA X vr L) (ExElement X vr L (allDone MkE X.M)) [] (Tu []):=by
 obtain ⟨it0,z0,hi0,hz0,hs0,hb0',hc0⟩:=oD
 refine CK.intro Tryz.func75 G zk nq zk (λ B g w0 a hrm U=>?_)
 have U:=zn [(0,EqV ((ptrH).f g)),] [⟨0,61,ptrH,BqA X vr L⟩] U
 refine qb<|zg [η] [] [.v 2 _] [.g 0,.o 0] U (zv G (a9 a8) o0) (zz [(0,_),(2,_)] [O 0 61 _] λ a w U=>?_)
 refine a7<|ql ?_
 have U:=St.sel U [0,1]
 refine wp_loop_ghost (λ n a w=>∃ (i:Nat) (M:List Slt),(n+i=X.M.length∧GrK MkE X.M M i)∧St B w0 42 [(0,EqV (ptrH.f g)),(2,In (i:Nat))] [⟨0,61,ptrH,BqA { X with M:=M } vr L⟩] a w) (X.M.length) ?_ ?_
 ·exact ⟨0,X.M,⟨by omega,grk_0⟩,U⟩
 intro n a w hI
 obtain ⟨i,M,⟨hn,hG⟩,U⟩:=hI
 have h1M:OneK M:=λ t ht=>by
  obtain ⟨ru,rv⟩:=(knElement U 0 rfl).2 t ht
  obtain ⟨s,hs,h1 | h1⟩:=Gt hG ht
  ·exact ⟨rv.one,by rw [h1.z]; exact ru.one⟩
  ·subst h1; exact ⟨rv.one,(hfull t hs).z1⟩
 refine qb<|qb<|zg [η] [] [.v 6 _,.adr 7 0 (.some 0) True,.adr 8 0 (.some 0) True,.adr 9 0 (.some (0+9)) True,.v 10 _,.v 11 _,.v 12 _] [.g 0,.g 1,.o 6] U (zM 1 G (oc (ob_a G G (fL (lz0 0 G))) (oc (ob_a G G (fK 1 G zk (lz0 0 G))) (oc (ob_a G G (co 2 G zk trivial (lz0 0 G) di)) (zL 3 0 9 G mf (zv G (bh Tryz.underlying52 (has_wk' (vq 4 G) (ry h1M))) (zv G (aK (vq 0 G) (vq 5 G)) o0))))))) (zz [(0,_),(2,_),(12,_)] [O 0 61 _] λ a w U=>?_)
 refine a7<|ae U (zm 2 G) (λ hb0=>?_) (λ hb0=>?_)
 ·have hi:i<X.M.length:=by have:=hG.1; simpa [this] using hb0
  obtain ⟨s,hs⟩:∃ s,X.M[i]?=some s:=⟨_,List.getElem?_eq_getElem hi⟩
  have hf:=hfull s (qa hs)
  have hMi:=grk_at hG hs
  have hvi:=mW hMi
  have hMlt:i<M.length:=by rw [hG.1]; exact hi
  refine qh<|zt<|ql<|qb<|bN (sp:=[.adr 15 0 (.some 0) True,.adr 16 0 (.some 0) True,.adr 17 0 (.some (0+9)) True,.v 18 _,.v 19 _,.v 20 _,.v 21 _,.v 3 VT,.sto 0]) 7 2 0 8 OneC [.g 0,.g 1,.o 6] U (oc (ob_a G G (fL (lz0 0 G))) (oc (ob_a G G (fK 0 G zk (lz0 0 G))) (oc (ob_a G G (co 1 G zk trivial (lz0 0 G) di)) (zL 2 0 9 G mf (zM 1 G (zv G (cv (m:=3) ⟨Tryz.underlying52,by kernel_rfl⟩ pP (has_wk' (vq 3 G) (ry h1M)) (vq 4 G) hvi) (zv G (aq (vq 5 G) mv) o0))))))) G zd zk zk (zz [(0,_),(2,_),(21,_)] [O 0 61 _] λ a w U=>?_)
  rw [show List.range' 7 2=[7,8] from rfl]
  refine gV (A:=s.view) 2 [0,1] G G U (Str.zero cV) G mv G zd G zk zk (λ a w U=>?_)
  refine bC ?_
  have U:=zn [(0,_),(2,_)] [O 0 61 _,O 3 125 _] U
  refine zt<|zg [η,η] [] [.adr 22 3 (.some 0) True,.v 23 _,.v 4 _] [.g 0,.g 1,.o 2] U (zO 1 G ee (zL 0 1 0 G iu (zA 1 G o0))) (zz [(0,_),(2,_),(4,_)] [O 0 61 _,O 3 125 _] λ a w U=>?_)
  refine zt<|qb<|zg [η,η] [] [.v 5 _] [.g 0,.g 1,.g 2,.o 0] U (zv G (a9 a8) o0) (zz [(0,_),(2,_),(4,_),(5,_)] [O 0 61 _,O 3 125 _] λ a w U=>?_)
  refine a7<|ql ?_
  have U:=St.sel U [0,1,2,3]
  refine wp_loop_ghost (λ n a w=>∃ (k:Nat) (u:Value) (ys:List (List Value)),(n+k=70∧ExtP MkE s k ys)∧St B w0 42 [(0,EqV (ptrH.f g)),(2,In (i:Nat)),(4,EqV u),(5,In (k:Nat))] [⟨0,61,ptrH,BqA { X with M:=M.set i (s.ext u ys) } vr L⟩,⟨3,125,ptrH,s.view⟩] a w) (70) ?_ ?_
  ·have U:=St.cvA (A':=BqA { X with M:=M.set i (s.ext s.v s.xs) } vr L) U 0 rfl (show BqA { X with M:=M } vr L=_ by rw [extK_0 hf.tonew,w5 hMi]); have U:=St.wkG U 2 rfl oG; exact ⟨0,s.v,s.xs,⟨by omega,extP_0 hf⟩,U⟩
  intro n a w hI
  obtain ⟨k,u,ys,⟨hn2,hE⟩,U⟩:=hI
  refine qb<|qb<|zg [η,η] [] [.v 24 _,.v 25 _] [.g 0,.g 1,.g 2,.g 3,.o 1] U (zM 3 G (zv G (aK (vq 0 G) a8) o0)) (zz [(0,_),(2,_),(4,_),(5,_),(25,_)] [O 0 61 _,O 3 125 _] λ a w U=>?_)
  refine a7<|ae U (zm 4 G) (λ hb1=>?_) (λ hb1=>?_)
  ·have hk:k<70:=by have:=hb1; simp at this; omega
   refine qh<|zt<|ql<|bN (sp:=[.v 28 _,.adr 29 3 (.some 2) True,.v 30 _,.v 31 _,.v 32 _,.v 33 VT,.v 4 VT]) 5 2 99 9 OneC [.g 0,.g 1,.g 3,.o 0,.o 4] U (zM 2 G (zO 1 G gx (zL 1 1 2 G ty_3 (zQ G (gk _) (.o (vq 2 G)) (zv G (cq (D:=[]) (l:=[MkE s.n]) (xs:=[.tmp 31]) (dV zk) mj zk (n_ok zk) nq nq nq (.o (vq 3 G)) G G) o0))))) G zd zk zk (zz [(0,_),(2,_),(5,_),(28,_),(32,_)] [O 0 61 _,O 3 125 _] λ a w U=>?_)
   rw [show List.range' 5 2=[5,6] from rfl]
   rw [qv]
   refine gX (m:=9) (A1:=λ v'=>ExElement X vr L (λ M'=>∃ ys',M'=M.set i (s.ext v' ys')∧ExtP MkE s (k+1) ys')) (X:=MkE s.n) (F:=isMk MkE s.n) [0,1,2] 3 4 0 G U G G (λ ds h=>⟨_,_,h⟩) G G G (hrm _ zk) Tryz.underlying38 hi0 hz0 hs0 hb0' hc0 zd (n:=s.xs.length+k) (by have:=hf.lx; omega) (by have:=hf.lx; omega) zd zk zk zk zk (λ cs hp=>apElement hMi hE hp) (λ v' w U=>?_)
   rw [qv]
   refine wR 0 G U G zd zk zk (λ a U=>?_)
   refine bC ?_
   obtain ⟨M',⟨ys2,hM',hE2⟩,U⟩:=stElement U 0 rfl
   subst hM'
   have U:=zn [(4,_),(33,_),(0,_),(2,_),(5,_)] [⟨0,61,ptrH,BqA { X with M:=M.set i (s.ext v' ys2) } vr L⟩,O 3 125 _] U
   refine am ?_
   refine a7<|zg [η,η] [] [.v 26 _,.v 27 _,.v 5 _] [.g 0,.g 2,.g 3,.o 2] U (zM 4 G (zv G (aQ (vq 0 G) a8 (aW zo)) (zA 1 G o0))) (zz [(4,_),(0,_),(2,_),(5,_)] [O 0 61 _,O 3 125 _] λ a w U=>?_)
   refine a7 ?_
   have U:=St.sel U [1,2,0,3]
   exact ⟨n-1,by omega,k+1,v',ys2,⟨by omega,hE2⟩,U⟩
  ·have hk:k=70:=by simp at hb1; omega
   subst hk
   have hu:=((knElement U 0 rfl).2 _ (List.mem_set hMlt _)).1
   have hu1:=hu.one
   have hu2:u.cells = #[u]:=hu.cell
   refine qK<|ah<|ah<|ay<|a7<|bN (sp:=[.adr 34 0 (.some 0) True,.adr 35 0 (.some 0) True,.adr 36 0 (.some (0+9)) True,.v 37 _,.v 38 _,.v 39 _,.v 40 VT,.v 41 VT,.sto 0]) 6 3 0 8 OneC [.g 0,.g 1,.o 3,.o 4,.o 5] U (oc (ob_a G G (fL (lz0 0 G))) (oc (ob_a G G (fK 0 G zk (lz0 0 G))) (oc (ob_a G G (co 1 G zk trivial (lz0 0 G) di)) (zL 2 0 9 G mf (zM 1 G (zM 2 G o0)))))) G zd zk zk (zz [(0,_),(2,_),(37,_),(38,_),(39,_)] [O 0 61 _,O 3 125 _] λ a w U=>?_)
   rw [show List.range' 6 3=[6,7,8] from rfl]
   have U:=St.selL U [0]
   have U:=St.wkG U 2 rfl Gk
   have hvr:=(knElement U 0 rfl).1
   obtain ⟨g1,cap1,hv1⟩:=hvr.row (show i<_ by rw [qS,hG.1]; exact hi)
   have U:=St.cvG U 2 rfl (qk EqV hv1)
   rw [qv]
   refine ny (m:=3) (k:=i) 2 3 G U ⟨Tryz.underlying52,by kernel_rfl⟩ zd G G (by rw [qS,hG.1]; exact hi) zd zk zk (λ a U=>?_)
   rw [qv]
   refine gW 0 G U gy G zd zk zk (λ a U=>?_)
   rw [qv]
   refine rj (A1:=BqA { X with M:=(M.set i (s.ext u ys)).set i { s.ext u ys with z:=u } } vr L) [2,3] 0 6 0 G U G G hu1 hu2 iu G zd (hrm _ zk) zk zk (λ cs hp=>puElement (by rw [List.getElem?_set_self hMlt]) hv1 hp) (λ w U=>?_)
   refine df ?_
   have U:=zn [(0,_),(2,_)] [O 0 61 _] U
   refine am ?_
   refine a7<|zg [η] [] [.v 13 _,.v 14 _,.v 2 _] [.g 0,.o 2] U (zM 1 G (zv G (aQ (vq 0 G) a8 (aW zo)) (zA 1 G o0))) (zz [(0,_),(2,_)] [O 0 61 _] λ a w U=>?_)
   refine a7 ?_
   have U:=St.sel U [0,1]
   exact ⟨X.M.length-(i+1),by omega,i+1,_,⟨by omega,Cb hG hs hE.1 hE.2.2⟩,(sq (M:=M) (i:=i))▸U⟩
 ·have hi:X.M.length≤i:=by have:=hG.1; simp [this] at hb0; omega
  have U:=St.wkL (A':=ExElement X vr L (allDone MkE X.M)) U 0 rfl (exElement (Gu hG hi hfull))
  refine qK<|ah<|ah<|ay<|cc<|fG U (zm 0 G) (zm 0 G) ?_
  exact aE (rs:=[]) G U .nil zd
theorem nO (X:BkRest)(vr:Value)(L:List Slot)(hdone:∀ t∈X.M,t.done MkE)(hl:X.M.length≤1000000):Cn Tryz.prog 91 [ElP 61 (BqA X vr L)] (Bo true):=by
 refine Cn.intro Tryz.func91 G zk nq (λ B w0 a U=>?_)
 have U:=zn [(0,ElP 61 (BqA X vr L))] [] U
 have hkp:=kpElement U 0 rfl
 have h1M:OneK X.M:=λ t ht=>⟨(hkp t ht).2.one,by rw [(hdone t ht).zu]; exact (hkp t ht).1.one⟩
 refine qb<|zh [.v 2 _] [.g 0,.o 0] U (zv G (a9 aB) o0) (zz [(0,_),(2,_)] [] λ a w U=>?_)
 refine zt<|qb<|zh [.v 3 _] [.g 0,.g 1,.o 0] U (zv G (a9 a8) o0) (zz [(0,_),(2,_),(3,_)] [] λ a w U=>?_)
 refine a7<|ql ?_
 have U:=St.sel U [0,2]
 refine wp_loop_ghost (λ n a w=>∃ (i:Nat),n+i=X.M.length∧St B w0 64 [(0,ElP 61 (BqA X vr L)),(3,In (i:Nat))] [] a w) (X.M.length) ?_ ?_
 ·exact ⟨0,by omega,U⟩
 intro n a w hI
 obtain ⟨i,hn,U⟩:=hI
 refine qb<|qb<|zh [.v 6 _,.v 7 _,.v 8 _,.v 9 _,.v 10 _,.v 11 _,.v 12 _] [.g 0,.g 1,.o 6] U (zM 1 G (zM 0 G (zv G (bv (vq 1 G)) (zv G (aA (vq 2 G) di (Sub.part 9 G G)) (zv G (aq (vq 3 G) mf) (zv G (bh Tryz.underlying52 (has_wk' (vq 4 G) (ry h1M))) (zv G (aK (vq 0 G) (vq 5 G)) o0))))))) (zz [(0,_),(3,_),(12,_)] [] λ a w U=>?_)
 refine a7<|ae U (zm 2 G) (λ hb0=>?_) (λ hb0=>?_)
 ·have hi:i<X.M.length:=by have:=hb0; simp at this; omega
  obtain ⟨t,ht⟩:∃ t,X.M[i]?=some t:=⟨_,List.getElem?_eq_getElem hi⟩
  have hmem:=qa ht
  have hd:=hdone t hmem
  have hzr:RowV t.z t.ys.length:=by rw [hd.zu]; exact (hkp t hmem).1
  refine qh<|zt<|ql<|qb<|ta (sp:=[.v 15 _,.v 16 _,.v 17 _,.v 18 _,.v 19 _,.v 20 _,.v 21 _,.alc 0,.sto 0]) 7 2 4 [.g 0,.g 1,.o 6] U (zM 0 G (zv G (bv (vq 0 G)) (zv G (aA (vq 1 G) di (Sub.part 9 G G)) (zv G (aq (vq 2 G) mf) (zM 1 G (zv G (cv (m:=3) ⟨Tryz.underlying52,by kernel_rfl⟩ pP (has_wk' (vq 3 G) (ry h1M)) (vq 4 G) (mW ht)) (zv G (aq (vq 5 G) mv) o0))))))) G zk zk (zz [(0,_),(3,_),(21,_)] [] λ a w U=>?_)
  rw [show List.range' 7 2=[7,8] from rfl]
  refine gV (A:=t.view) 2 [0,1] G G U (Str.zero cV) G mv G zd G zk zk (λ a w U=>?_)
  refine bC ?_
  have U:=zn [(0,_),(3,_)] [O 4 125 _] U
  refine zt<|qb<|zg [η] [] [.adr 22 4 (.some 1) True,.v 23 _,.v 24 _,.adr 25 4 (.some 0) True,.v 26 _,.v 27 _,.v 28 _,.v 29 _] [.g 0,.g 1,.o 7] U (zO 0 G gy (zL 0 0 1 G iu (zv G (p6 Tryz.underlying38 hzr (vq 1 G)) (zO 0 G ee (zL 3 0 0 G iu (zv G (p6 Tryz.underlying38 hd.rv (vq 4 G)) (zv G (aQ (vq 5 G) a8 (HE (by have:=hd.lx; omega))) (zv G (ci (vq 2 G) (vq 6 G)) o0)))))))) (zz [(0,_),(3,_),(29,_)] [O 4 125 _] λ a w U=>?_)
  refine a7<|ae U (zm 2 G) (λ hb1=>?_) (λ hb1=>?_)
  ·exact absurd hb1 (by rw [hd.yl]; simp)
  ·refine qh<|zt<|zg [η] [] [.v 5 _] [.g 0,.g 1,.o 0] U (zv G (a9 a8) o0) (zz [(0,_),(3,_),(5,_)] [O 4 125 _] λ a w U=>?_)
   refine a7<|ql ?_
   have U:=St.sel U [0,1,2]
   refine wp_loop_ghost (λ n a w=>∃ (k:Nat),n+k=t.ys.length∧St B w0 64 [(0,ElP 61 (BqA X vr L)),(3,In (i:Nat)),(5,In (k:Nat))] [⟨4,125,ptrH,t.view⟩] a w) (t.ys.length) ?_ ?_
   ·exact ⟨0,by omega,U⟩
   intro n a w hI
   obtain ⟨k,hn2,U⟩:=hI
   refine qb<|qb<|zg [η] [] [.v 30 _,.adr 31 4 (.some 1) True,.v 32 _,.v 33 _,.v 34 _] [.g 0,.g 1,.g 2,.o 4] U (zM 2 G (zO 0 G gy (zL 1 0 1 G iu (zv G (p6 Tryz.underlying38 hzr (vq 2 G)) (zv G (aK (vq 0 G) (vq 3 G)) o0))))) (zz [(0,_),(3,_),(5,_),(34,_)] [O 4 125 _] λ a w U=>?_)
   refine a7<|ae U (zm 3 G) (λ hb2=>?_) (λ hb2=>?_)
   ·have hk:k<t.ys.length:=by have:=hb2; simp at this; omega
    refine qh<|zt<|ql<|qb<|f9 (anc:=[[],[0],[],[0,1,2],[0,1,2,3],[],[5],[0,1,2,3,4,5,6],[0,1,2,3,4,5,6,7],[0,1,2,3,4,5,6,7,8],[0,1,2,3,4,5,6,7,8,9],[0,1,2,3,4,5,6,7,8,9],[0,1,2,3,4,5,6,7,8,9,11],[0,1,2,3,4,5,6,7,8,9,11,12],[0,1,2,3,4,5,6,7,8,9,10,11,12,13],[0,1,2,3,4,5,6,7,8,9,10,11,12,13,14],[0,1,2,3,4,5,6,7,8,9,10,11,12,13,14,15],[0,1,2,3,4,5,6,7,8,9,10,11,12,13,14,15,16],[0,1,2,3,4,5,6,7,8,9,10,11,12,13,14,15],[0,1,2,3,4,5,6,7,8,9,10,11,12,13,14,15,16,17,18],[0,1,2,3,4,5,6,7,8,9,10,11,12,13,14,15,16,17,18,19],[0,1,2,3,4,5,6,7,8,9,10,11,12,13,14,15],[0,1,2,3,4,5,6,7,8,9,10,11,12,13,14,15,21],[0,1,2,3,4,5,6,7,8,9,10,11,12,13,14,15,16,17,18,19,20,21,22],[0,1,2,3,4,5,6,7,8,9,10,11,12,13,14,15,16,17,18,19,20,21,22,23],[0,1,2,3,4,5,6,7,8,9,10,11,12,13,14,15,16,17,18,19,20,21,22,23,24],[0,1,2,3,4,5,6,7,8,9,10,11,12,13,14,15,16,17,18,19,20,21,22,23,24,25]]) (sts:=[none]) (news:=[]) (sp:=((.adr 37 4 (.some 1) True:Sp)::(.v 38 _)::(.v 39 _)::(.v 40 _)::(.v 41 _)::(.adr 42 4 (.some 2) True)::(.v 43 _)::(.v 44 _)::(.v 45 _)::(.v 46 _)::(.f 47 _)::(.adr 48 4 (.some 0) (_=false))::(.f 49 _)::(.f 50 _)::(.f 51 _)::(.f 52 _)::(.adr 53 4 (.some 0) ((_=false)∧_=true))::(.v 54 (Wh ((_=false)∧_=true) _))::(.v 55 (Wh ((_=false)∧_=true) _))::(.v 56 (Wh ((_=false)∧_=true) _))::(.v 57 (Wh ((_=false)∧_=true) _))::(.adr 58 4 (.some 2) ((_=false)∧_=true))::(.v 59 (Wh ((_=false)∧_=true) _))::(.v 60 (Wh ((_=false)∧_=true) _))::(.v 61 (Wh ((_=false)∧_=true) _))::(.f 62 _)::(.v 63 _)::[])) [.g 0,.g 1,.g 2,.o 26] aa U (zO 0 G gy (zL 0 0 1 G iu (zM 2 G (zv G (cv (m:=9) ⟨Tryz.underlying38,by kernel_rfl⟩ (Do G) (suElement (vq 1 G) (gq 0 G) hmem hd) (vq 2 G) (wo hk)) (zv G (aq (vq 3 G) er) (zO 0 G gx (zL 5 0 2 G ty_3 (zQ G (lG _) (.p (vq 4 G) (vq 6 G)) (zv G (cW (vq 7 G)) (zv G (ab (vq 8 G)) (zB 9 G (λ hg=>ab (gq 2 G)) (zC 9 0 G ee (zB 9 G (λ hg=>ax 11 G zk hg (lz0 0 G) (Sub.part 0 G G) iu) (zB 9 G (λ hg=>p6 Tryz.underlying38 hd.rv (ac (vq 12 G) hg)) (zB 9 G (λ hg=>aK (ac (vq 10 G) hg) (ac (vq 13 G) hg)) (zB 9 G (λ hg=>ab (ac (vq 14 G) hg)) (oc (fJ G G G (vq 15 G) nq (λ hg=>dB (lz0 0 G) ee)) (oc (bJ G G G (vq 15 G) nq (λ hg=>ax 16 G zk hg (lz0 0 G) (Sub.part 0 G G) iu)) (oc (bJ G G G (vq 15 G) nq (λ hg=>ab (gq 2 G))) (oc (bJ G G G (vq 15 G) nq (λ hg=>cv (m:=9) ⟨Tryz.underlying38,by kernel_rfl⟩ (Do G) (svElement (ac (vq 17 G) hg) (gq 0 G) hmem hd) (ac (vq 18 G) hg) (wo (by have:=hg; simp at this; omega)))) (oc (bJ G G G (vq 15 G) nq (λ hg=>aq (ac (vq 19 G) hg) er)) (oc (fJ G G G (vq 15 G) nq (λ hg=>dB (lz0 0 G) gx)) (oc (bJ G G G (vq 15 G) nq (λ hg=>ax 21 G zk hg (lz0 0 G) (Sub.part 2 G G) ty_3)) (oc (bJ G G G (vq 15 G) nq (λ hg=>aX (lG _) (.p (ac (vq 20 G) hg) (ac (vq 22 G) hg)))) (oc (bJ G G G (vq 15 G) nq (λ hg=>cW (ac (vq 23 G) hg))) (zB 9 G (λ hg=>bG (ac (vq 15 G) hg) (eZ (vq 24 G) hg)) (zv G (r_or (vq 9 G) (vq 25 G)) o0))))))))))))))))))))))))))) zk zk zk zk (zz [(0,_),(3,_),(5,_),(63,_)] [O 4 125 _] λ a w U=>?_)
    refine a7<|ae U (zm 3 G) (λ hb3=>?_) (λ hb3=>?_)
    ·exact absurd hb3 (by simp)
    ·refine qh<|am ?_
     refine a7<|zg [η] [] [.v 35 _,.v 36 _,.v 5 _] [.g 0,.g 1,.o 2] U (zM 2 G (zv G (aQ (vq 0 G) a8 (aW (by have:=hd.lx; have:=hd.yl; omega))) (zA 1 G o0))) (zz [(0,_),(3,_),(5,_)] [O 4 125 _] λ a w U=>?_)
     refine a7 ?_
     have U:=St.sel U [0,1,2]
     exact ⟨n-1,by omega,k+1,by omega,U⟩
   ·have hk:k=t.ys.length:=by have:=hb2; simp at this; omega
    refine qK<|ah<|ah<|ay<|am ?_
    refine a7<|zg [η] [] [.v 13 _,.v 14 _,.v 3 _] [.g 0,.o 2] U (zM 1 G (zv G (aQ (vq 0 G) a8 (aW zo)) (zA 1 G o0))) (zz [(0,_),(3,_)] [O 4 125 _] λ a w U=>?_)
    refine a7 ?_
    have U:=St.sel U [0,1]
    have U:=St.selL U []
    exact ⟨X.M.length-(i+1),by omega,i+1,by omega,U⟩
 ·have hi:i=X.M.length:=by have:=hb0; simp at this; omega
  refine qK<|ah<|ah<|ay<|zt<|zh [.v 2 _] [.g 0,.o 0] U (zv G (a9 aB) o0) (zz [(0,_),(2,_)] [] λ a w U=>?_)
  exact a7<|qe<|an G U (zm 1 G)
section
open Rg
variable {P:Program} {Q:Exit→Act→World→Prop} {R:Rg} {B i:Nat} {w0:Bs}
end
abbrev KL:=List (Value × List Nat)
def SepL:List Slot→KL→Prop
 | _,[]=>True
 | L,p::l=>(∀ t∈L,∀ g,t.has g→p.1.ownBlock≠some g)∧SepL (L++[newS p.1 p.2 (L.length+1)]) l
def kbl (l:KL):List Nat:=l.filterMap λ p=>p.1.ownBlock
def JkA:As where
 n:=17
 ag:=true
 p _ cs _:=cs.length=17∧∀ c∈cs,c.oneCell'=true
 deps:=[]
 len:=λ _ _ _ h=>h.1
 one:=λ _ _ _ h=>h.2
 ag1:=λ h=>by cases h
 cg:=λ _ _ _ _ _ h=>h
 wr:=λ _ _ _ _ _ _ _ _ _ _ _ _ h=>h
def IntP (x:RI)(m:Value):As:=cat [BoA x.neg,PinA m (MgN x.mag)]
def FracP (x:RF)(m1 m2:Value):As:=cat [IntP x.num m1,IntP x.den m2]
abbrev kf (x:RF)(m1 m2:Value):KL:=[(m1,x.num.mag),(m2,x.den.mag)]
abbrev kg (x:RG)(m:Nat→Value):KL:=kf x.re (m 0) (m 1)++kf x.im (m 2) (m 3)
end Go.Proofs.YtkpifdpdeanjfaaGreatDoor
