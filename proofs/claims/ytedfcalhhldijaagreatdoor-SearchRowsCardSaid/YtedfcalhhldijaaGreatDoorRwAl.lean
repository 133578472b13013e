import Derived.Test.YtedfcalhhldijaaGreatDoorRwAj
import Derived.Test.YtedfcalhhldijaaGreatDoorRwAk
set_option linter.all false
set_option maxRecDepth 100000
namespace Go.Proofs.YtedfcalhhldijaaGreatDoor
open Go Go.RowKit
variable {w:World}{B:Nat}{a:Act}{v:Value}{T:TypeId}{w0:Bs}{Γ:List (Nat × VA)}{Λ:List Lc}{ps:String}{af:Array Edge}{vr:Value}{H:Hd}{cs:List Value}{w':World}{P:Program}{D:List TypeId}
def RowX (b c:Nat)(l r:List Nat):VA where
 p B v w:=∃ g,v=.slice (some ⟨g,0,none⟩) l.length c∧b≤g∧B≤g∧c=(l++r).length∧c≤maxLen∧w.heap[g]?=some (.cells ((l++r).map λ (x:Nat)=>Value.int .u32 x).toArray U32 (0,0))
 deps:=[U32]
 cg:=by
  rintro B v w w' hg ⟨g,h1,h2,h3,h4,h5,h6⟩
  exact ⟨g,h1,h2,h3,h4,h5,hg.heap h6⟩
 wr:=by
  rintro B v w w' g c T fz hg hT hB hW ⟨g',h1,h2,h3,h4,h5,h6⟩
  refine ⟨g',h1,h2,h3,h4,h5,?_⟩
  rw [hW.block g' λ hh=>?_]
  ·exact h6
  ·subst hh
   rw [hg] at h6
   simp only [Option.some.injEq,Obj.cells.injEq] at h6
   exact hT (by simp [h6.2.1])
theorem EU {b c B:Nat}{l r:List Nat}(h:(RowX b c l r).p B v w):RowOk w b U32 v.ownBlock:=by
 obtain ⟨g,rfl,h2,_,_,_,h6⟩:=h
 intro g' e
 have e':g=g':=by injection e
 subst e'
 exact ⟨h2,_,_,h6⟩
theorem tl {g:Nat}(cs:Array Value):w.grownBy (w.setRow g cs) (some g):=by
 have h:=Wr.setRow w g cs
 exact ⟨h.os,h.tape,h.output,by rw [h.size]; exact qi _,λ k _ hk=>h.block k λ e=>hk (by rw [e])⟩
theorem rr {S T1:TypeId}{b c B:Nat}{l r xs:List Nat}{v u:Value}{it:TypeInfo}(hS:P.underlying S=some (.slice U32))(hi:P.info? U32=some it)(hsz:it.size=1)(hroom:xs.length≤r.length)
  (hv:(RowX b c l r).p B v w) (hu:(MgA xs).va.p B u w) :
  ∃ v' w',(Builtin.append_ #[S,S] T1 #[v,u]).run P w=.ok v' w'∧(RowX b c (l++xs) (r.drop xs.length)).p B v' w'∧w.grownBy w' v.ownBlock∧RowOk w b U32 v.ownBlock∧blk v'=blk v:=by
 have hro:=EU hv
 obtain ⟨g,rfl,h2,hBg,h4,h5,h6⟩:=hv
 obtain ⟨A,c',rfl,hm⟩:=fq hu
 have hlen:l.length+xs.length≤c:=by rw [h4,qB]; omega
 have fin:(RowX b c (l++xs) (r.drop xs.length)).p B (.slice (some ⟨g,0,none⟩) (l.length+xs.length) c) (w.setRow g (((l++xs)++r.drop xs.length).map λ (x:Nat)=>Value.int .u32 x).toArray) :=
  ⟨g,by rw [qB],h2,hBg,by rw [h4]; simp only [qB,je]; omega,h5,setRow_heap w g _ _ _ _ h6⟩
 cases A with
 | none =>
  have hx:xs=[]:=by
   apply z8
   apply Decidable.byContradiction
   intro hn
   obtain ⟨_,_,e,_⟩:=hm.at_ zo
   cases e
  subst hx
  have hown:w.ownsRow b U32 1 (.slice (some ⟨g,0,none⟩) l.length c) l.length (l.map λ (x:Nat)=>Value.int .u32 x):=⟨by simp,.inr ⟨g,c,_,rfl,h2,h6,by omega,h5,by simp [h4],by simp⟩⟩
  refine ⟨_,w,gR b S T1 U32 it 1 hS hi _ _ c' _ hown,⟨g,by simp,h2,hBg,by simpa using h4,h5,by simpa using h6⟩,⟨rfl,rfl,rfl,qi _,λ _ _ _=>rfl⟩,hro,rfl⟩
 | some ad =>
  have hnew:∀ j u,(xs.map λ (x:Nat)=>Value.int .u32 x)[j]?=some u→w.cell? (ad.add j)=some u:=λ j u hj=>by
   have hjx:j<xs.length:=by have:=(List.getElem?_eq_some_iff.1 hj).1; simpa using this
   obtain ⟨b',o,e,_,_,h8⟩:=hm.at_ zo
   injection e with e
   subst e
   rw [r8,h8 j hjx]
   simpa [hjx] using hj
  have hr:=run_append_room (P:=P) w S T1 U32 it hS hi g l.length c _ h6 ad xs.length c' (xs.map λ (x:Nat)=>Value.int .u32 x) (by simp [hsz]) hnew (λ u hu=>by obtain ⟨_,_,rfl⟩:=qq.1 hu; rfl) hlen (by rw [hsz]; simp; omega)
  refine ⟨_,_,hr,?_,tl _,hro,rfl⟩
  have e:(((l++r).map λ (x:Nat)=>Value.int .u32 x).toArray.toList.take (l.length*it.size)++(xs.map λ (x:Nat)=>Value.int .u32 x)++((l++r).map λ (x:Nat)=>Value.int .u32 x).toArray.toList.drop (l.length*it.size+(xs.map λ (x:Nat)=>Value.int .u32 x).length))=((l++xs)++r.drop xs.length).map λ (x:Nat)=>Value.int .u32 x:=by
   rw [hsz]
   simp [vp,List.map_drop]
  rw [e]
  exact fin
section
variable {P:Program} {R:Rg} {Q:Exit→Act→World→Prop} {B i:Nat} {w0:Bs}
theorem Fb {S:TypeId}{n:Nat}{x y:Operand}(hM:MakeOk P S U32 .u32)(hB:B≤w0.w.heap.size)(hx:Has R B w0 i x (In 0))(hy:Has R B w0 i y (In n))(hn:n≤17592186044416):Wv P Q R B w0 i (.makeSlice S x y) (RowX w0.w.heap.size n [] (List.replicate n 0)) :=
 bj λ d T ps af gd a w av=>by
  obtain ⟨h1,h2,h3,h4,h5⟩:=hM
  obtain ⟨it,hi,hz⟩:=kB.1 h2
  have hsz:it.size=1:=by rw [hi] at h3; simpa using h3
  have hby:=h5 it hi
  have hm:=run_make (P:=P) w S U32 it (.int .u32 0) h1 hi hz .i64 .i64 0 n zo zo (by
   have:it.bytes*n≤8*n:=qR _ hby
   have h6:((it.bytes*n:Nat):Int)≤281474976710656:=by omega
   rwa [xo] at h6) zo
  have e1:=bh (hx a w av)
  have e2:=bh (hy a w av)
  have hcells:madeCells (Value.int .u32 0).cells (n*it.size)=((List.replicate n 0).map λ (x:Nat)=>Value.int .u32 x).toArray:=by
   rw [hsz,zK]
   apply jt
   intro j
   simp only [madeCells,Value.cells,jo]
   by_cases hj:j<n
   ·simp [hj,kM]
   ·simp [hj]
  simp only [zX] at hm
  rw [hcells] at hm
  refine ⟨.slice (some ⟨w.heap.size,0,none⟩) 0 n,w.alloc (.cells ((List.replicate n 0).map λ (x:Nat)=>Value.int .u32 x).toArray U32),?_,Grow.alloc _ _,⟨w.heap.size,rfl,av.base.size,qe hB av.base.size,by simp,by unfold maxLen; omega,by simpa using heap_alloc_new w _⟩⟩
  simp [execOp,e1,e2,hm]
end
open Rg in
theorem Gp {Q:Exit→Act→World→Prop}{B N:Nat}{id:Nat}{ops:Array Oper}{sp:List Sp}(n:Nat)(src:List Nat)(i1 i2:Nat){S T1 T2:TypeId}{s u d e c0:Nat}{ps1 ps2:String}{af1 af2:Array Edge}{l r xs:List Nat}{A2:VA}{it:TypeInfo}
  (h:St B w0 N Γ Λ a w) (hob:Obs P Q ⟨ops,N,Γ,lesN Λ,sp,λ i=>List.range i⟩ B w0 0 n) (hn2:ops.size=n+2) (hk:Rg.chk ⟨ops,N,Γ,lesN Λ,sp,λ i=>List.range i⟩=true)
  (ho1:ops[n]?=some ⟨some d,.call ⟨.builtin .append,#[.tmp s,.tmp u],#[S,S]⟩,T1,ps1,af1,none⟩) (ho2:ops[n+1]?=some ⟨some e,.assign (.tmp d),T2,ps2,af2,none⟩)
  (hi1:i1<n) (h1:sp[i1]?=some (.v s (RowX w0.w.heap.size c0 l r))) (hi2:i2<n) (h2:sp[i2]?=some (.v u A2)) (hA2:∀ w u,A2.p B u w→Kept w0 w→(MgA xs).va.p B u w)
  (hS:P.underlying S=some (.slice U32)) (hi:P.info? U32=some it) (hsz:it.size=1) (hroom:xs.length≤r.length) (hde:(d != e)=true) (hd:d<N) (he:e<N)
  (hsrc:src.all (λ k=>match Γ[k]? with | some y => !y.2.deps.contains U32&&Rg.outG ⟨ops,N,Γ,lesN Λ,sp,λ i=>List.range i⟩ y.1 | none=>false)=true)
  (hΛ:Λ.all (λ l=>l.T != U32 && !l.A.deps.contains U32&&l.s != d&&l.s != e)=true)
  (hQ:∀ a w,St B w0 N ((e,RowX w0.w.heap.size c0 (l++xs) (r.drop xs.length))::src.filterMap (λ k=>Γ[k]?)) Λ a w→Q .normal a w):(Code.region id ops false).wp P Q a w:=by
 have hles0:∀ y∈lesN Λ,y.cr=none∧y.st=none∧(⟨y.s,y.T,y.H,y.A0⟩:Lc)∈Λ:=λ y hy=>by
  obtain ⟨l',hl',rfl⟩:=qq.1 hy
  exact ⟨rfl,rfl,hl'⟩
 refine Rg.linK (R:=⟨ops,N,Γ,lesN Λ,sp,λ i=>List.range i⟩) (m:=2) hn2 G hk h (λ y hy _=>(hles0 y hy).2.2) (λ i hi=>hob.all i zo zo) λ a1 w1 hinv=>?_
 have hcl:∀ deps,Rg.clash ⟨ops,N,Γ,lesN Λ,sp,λ i=>List.range i⟩ (λ k=>decide (k<n)) deps=false:=λ deps=>by
  unfold Rg.clash
  rw [xh]
  intro y hy
  rw [(hles0 y hy).2.1]
  simp
 have hv:=hinv.v i1 _ s _ h1 rfl (qC hi1) (hcl _)
 have hu:=hA2 _ _ (hinv.v i2 _ u _ h2 rfl (qC hi2) (hcl _)) hinv.base
 have hB:B≤w0.w.heap.size:=hinv.lo _ (.inl (qi _))
 obtain ⟨v',w',hr,r1,r2,r3,_⟩:=rr (T1:=T1) hS hi hsz hroom hv hu
 have hdsz:d<a1.tmps.size:=by rw [hinv.size]; exact hd
 have hesz:e<(a1.put (some d) v').tmps.size:=by rw [size_put,hinv.size]; exact he
 have hne:d≠e:=by simpa using hde
 rw [List.range'_succ,qA]
 refine bu (R:=⟨ops,N,Γ,lesN Λ,sp,λ i=>List.range i⟩) ho1 G (aY (w':=w') (v:=v') (by simp [execOp,resolve,invoke,builtin,hr,Result.andThen]) ?_)
 rw [List.range'_succ,qA]
 refine bu (R:=⟨ops,N,Γ,lesN Λ,sp,λ i=>List.range i⟩) ho2 G (aY (w':=w') (v:=v') ?_ (hQ _ _ ?_))
 ·have:=aM a1 d v' hdsz
  simp [execOp,this]
 ·have hother:∀ t,t≠d→t≠e→((a1.put (some d) v').put (some e) v').eval (.tmp t)=a1.eval (.tmp t):=λ t h3 h4=>by
   rw [aq _ _ _ _ h4,aq _ _ _ _ h3]
  have hlc:∀ l'∈Λ,l'.T≠U32∧U32 ∉ l'.A.deps∧l'.s≠d∧l'.s≠e:=λ l' hl'=>by
   have:=qd.1 hΛ l' hl'
   simp only [ql,bne_iff_ne,qv,qx,qk] at this
   exact ⟨this.1.1.1,this.1.1.2,this.1.2,this.2⟩
  have hcur:∀ l'∈Λ,(⟨l'.s,l'.T,l'.H,none,l'.A,none⟩:Le)∈lesN Λ:=λ l' hl'=>qq.2 ⟨l',hl',rfl⟩
  refine ⟨hinv.lo,hinv.defers.grown r2 r3 rfl,by rw [size_put,size_put]; exact hinv.size,?_,?_,?_,?_⟩
  ·exact ⟨r2.os.trans hinv.base.os,r2.tape.trans hinv.base.tape,r2.output.trans hinv.base.output,qe hinv.base.size r2.size,λ k hk hf =>
    (r2.block k (qE hk hinv.base.size) (λ e=>by have:=(r3 k e.symm).1; omega)).trans (hinv.base.block k hk hf)⟩
  ·intro y hy
   rcases qt.1 hy with rfl | hy
   ·show (RowX w0.w.heap.size c0 (l++xs) (r.drop xs.length)).p B (((a1.put (some d) v').put (some e) v').eval (.tmp e)) w'
    rw [aM _ _ _ hesz]
    exact r1
   ·obtain ⟨k,hk1,hk2⟩:=qQ.1 hy
    have hs:=qd.1 hsrc k hk1
    simp only [hk2,ql,qv,qx,qk] at hs
    have hout:∀ q,q<ops.size→Rg.dst ⟨ops,N,Γ,lesN Λ,sp,λ i=>List.range i⟩ q≠some y.1:=λ q hq=>by
     have:=qd.1 hs.2 q (by simpa using hq)
     simpa using this
    have g1:y.1≠d:=λ e1=>hout n zo (by unfold Rg.dst; rw [ho1,e1]; rfl)
    have g2:y.1≠e:=λ e1=>hout (n+1) zo (by unfold Rg.dst; rw [ho2,e1]; rfl)
    rw [hother _ g1 g2]
    exact VA.grown (hinv.g y (qa hk2) (λ q hq hdq=>absurd hdq (hout q hq)) (hcl _)) r2 r3 hB hs.1
  ·intro l' hl'
   obtain ⟨g1,g2,g3,g4⟩:=hlc l' hl'
   obtain ⟨g,cs,e1,e2,e3,e4⟩:=hinv.c _ (hcur l' hl') l'.A rfl
   refine ⟨g,cs,by rw [hother _ g3 g4]; exact e1,e2,?_,As.grown e4 r2 r3 hB g2⟩
   rw [r2.block g (Array.getElem?_eq_some_iff.1 e3).1 (λ e5=>by
    obtain ⟨_,c,fz,e6⟩:=r3 g e5.symm
    rw [e3] at e6
    injection e6 with e6
    injection e6 with _ e6 _
    exact g1 e6)]
   exact e3
  ·intro l1 hl1 l2 hl2 hne'
   obtain ⟨_,_,g3,g4⟩:=hlc l1 hl1
   obtain ⟨_,_,g5,g6⟩:=hlc l2 hl2
   rw [hother _ g3 g4,hother _ g5 g6]
   exact hinv.x _ (hcur l1 hl1) _ (hcur l2 hl2) hne' G rfl
def TwN (l:List Nat):As where
 n:=1
 ag:=false
 p B cs w:=okL l∧∃ g,cs=[.slice (some ⟨g,0,none⟩) l.length (l.length+1)]∧B≤g∧l.length+1≤maxLen∧w.heap[g]?=some (.cells ((l++[7777]).map λ (x:Nat)=>Value.int .u32 x).toArray U32 (0,0))
 deps:=[U32]
 len:=by rintro B cs w ⟨_,g,rfl,_⟩; rfl
 one:=by rintro B cs w ⟨_,g,rfl,_⟩ x hx; simp at hx; subst hx; rfl
 ag1:=λ _=>rfl
 cg:=by
  rintro B cs w w' hg ⟨h0,g,rfl,h1,h2,h3⟩
  exact ⟨h0,g,rfl,h1,h2,hg.heap h3⟩
 wr:=by
  rintro B cs w w' g c T fz hg hT hB hW ⟨h0,g',rfl,h1,h2,h3⟩
  refine ⟨h0,g',rfl,h1,h2,?_⟩
  rw [hW.block g' λ hh=>?_]
  ·exact h3
  ·subst hh
   rw [hg] at h3
   simp only [Option.some.injEq,Obj.cells.injEq] at h3
   exact hT (by simp [h3.2.1])
theorem rj {l:List Nat}{B g:Nat}(ok:okL l)(h2:l.length+1≤maxLen)(h3:w.heap[g]?=some (.cells ((l++[7777]).map λ (x:Nat)=>Value.int .u32 x).toArray U32 (0,0))):Mag B w (some ⟨g,0,none⟩) (l.length+1) (l++[7777]) :=
 Mag.own h3 (okL_append.2 ⟨ok,e8 zd⟩) (by simp) h2 (λ j hj=>by rw [List.getElem?_toArray,List.getElem?_map,List.getElem?_eq_getElem hj]; rfl)
theorem Ae {l:List Nat}:Wk (TwN l).va (MgA l).va:=λ B v w ⟨cs,⟨ok,g,e,h1,h2,h3⟩,hv⟩=>by
 subst e
 have e2:v=.slice (some ⟨g,0,none⟩) l.length (l.length+1):=hv
 subst e2
 have:=dL ((rj (B:=B) ok h2 h3).take l.length) (n:=l.length) (by simp)
 rwa [List.take_left] at this
theorem BK (l:List Nat):FreeA (TwN l) (TwN l):=⟨rfl,rfl,λ B B' cs w hB h=>by
 obtain ⟨ok,g,e,h1,h2,h3⟩:=h
 exact ⟨ok,g,e,qe hB h1,h2,h3⟩⟩
def RIT (x:RI):As:=cat [BoA x.neg,TwN x.mag]
theorem mT (x:RI):FreeA (RIT x) (RIT x):=bF (.cons (dv _) (.cons (BK _) .nil))
def SlK (v:Value)(h:v.oneCell'=true):As where
 n:=1
 ag:=false
 p _ cs _:=cs=[v]
 deps:=[]
 len:=by rintro B cs w rfl; rfl
 one:=by rintro B cs w rfl c hc; simp at hc; subst hc; exact h
 ag1:=λ _=>rfl
 cg:=λ _ _ _ _ _ h=>h
 wr:=λ _ _ _ _ _ _ _ _ _ _ _ _ h=>h
theorem GD {h:v.oneCell'=true}:Wk (EqV v) (SlK v h).va:=λ _ u _ e=>⟨[v],rfl,e⟩
theorem St.toRow {B N:Nat}(h:St B w0 N Γ Λ a w){s c:Nat}{l r:List Nat}(k:Nat)(hm:Γ[k]?=some (s,RowX w0.w.heap.size c l r))(hΛ:Λ.all (λ m=>m.T != U32)=true):
  ∃ g,B≤g∧c=(l++r).length∧c≤maxLen∧St B w0 N (Γ.set k (s,EqV (.slice (some ⟨g,0,none⟩) l.length c))) (Λ++[⟨s,U32,slH l.length c,Nums .u32 (l++r)⟩]) a w:=by
 obtain ⟨g,hv,h2,h3,h4,h5,h6⟩:=h.vals _ (qa hm)
 have hd:∀ m∈Λ,blk (a.eval (.tmp m.s))≠some g:=by
  intro m hm2 hh
  obtain ⟨g',cs,e1,_,e3,_⟩:=h.locs m hm2
  rw [e1,m.H.ok] at hh
  injection hh with hh
  subst hh
  rw [e3] at h6
  simp only [Option.some.injEq,Obj.cells.injEq] at h6
  have:=qd.1 hΛ m hm2
  simp [h6.2.1] at this
 have hv':a.eval (.tmp s)=.slice (some ⟨g,0,none⟩) l.length c:=hv
 have hg:blk (a.eval (.tmp s))=some g:=by rw [hv']; rfl
 refine ⟨g,h3,h4,h5,h.lo,h.defers,h.size,h.base,λ x hx=>?_,λ x hx=>?_,λ x hx y hy hne=>?_⟩
 ·rcases qy hx with hx | rfl
  ·exact h.vals x hx
  ·exact hv'
 ·rcases qo.1 hx with hx | hx
  ·exact h.locs x hx
  ·obtain rfl:=qn.1 hx
   exact ⟨g,_,hv',.inl h2,h6,rfl⟩
 ·rcases qo.1 hx with hx | hx <;> rcases qo.1 hy with hy | hy
  ·exact h.dis x hx y hy hne
  ·obtain rfl:=qn.1 hy
   rw [hg]; exact hd x hx
  ·obtain rfl:=qn.1 hx
   rw [hg]; exact λ e=>hd y hy e.symm
  ·obtain rfl:=qn.1 hx
   obtain rfl:=qn.1 hy
   exact absurd G hne
section
variable {P:Program} {R:Rg} {Q:Exit→Act→World→Prop} {B i:Nat} {w0:Bs}
theorem FE {d s e g c:Nat}{cr:Option Nat}{l r xs:List Nat}{x y:Operand}{S ty:TypeId}{it:TypeInfo}
  (hs:R.sp[i]?=some (.cal d (EqV (.slice (some ⟨g,0,none⟩) (l.length+xs.length) c)) e)) (he:R.les[e]?=some ⟨s,U32,slH l.length c,cr,Nums .u32 (l++r),some (i,Nums .u32 (l++xs++r.drop xs.length))⟩) (ho:R.ops[i]?=some ⟨some d,.call ⟨.builtin .append,#[x,y],#[S,S]⟩,ty,ps,af,none⟩)
  (hS:P.underlying S=some (.slice U32)) (hi:P.info? U32=some it) (hsz:it.size=1) (hroom:xs.length≤r.length) (hc:c=(l++r).length) (hmx:c≤maxLen) (hx:Has R B w0 i x (EqV (.slice (some ⟨g,0,none⟩) l.length c))) (hsl:Has R B w0 i (.tmp s) (EqV (.slice (some ⟨g,0,none⟩) l.length c))) (hy:Has R B w0 i y (MgA xs).va):R.Ob P Q B w0 i:=by
 unfold Rg.Ob
 simp only [hs,he]
 intro a w av g' cs h1 hB h3 h4 _ K hK
 have e1:a.eval x=_:=hx a w av
 have e2:a.eval (.tmp s)=.slice (some ⟨g,0,none⟩) l.length c:=hsl a w av
 have eg:g=g':=by
  rw [h1] at e2
  have:some g'=some g:=qm blk e2
  injection this with this
  exact this.symm
 subst eg
 have h4':cs=(l++r).map λ (x:Nat)=>Value.int .u32 x:=h4
 obtain ⟨v',w',hr,hX,hgr,_,hbk⟩:=rr (P:=P) (S:=S) (T1:=ty) (b:=g) (c:=c) (B:=B) (l:=l) (r:=r) (xs:=xs) (w:=w) hS hi hsz hroom ⟨g,rfl,qi _,hB,hc,hmx,by rw [← h4']; exact h3⟩ (hy a w av)
 obtain ⟨g2,q1,_,_,q4,q5,q6⟩:=hX
 refine bu ho G (aY (w':=w') (v:=v') (by simp [execOp,resolve,invoke,builtin,e1,hr,Result.andThen]) ?_)
 have eg2:g2=g:=by
  rw [q1] at hbk
  injection hbk
 subst eg2
 exact hK v' _ w' ⟨hgr.os,hgr.tape,hgr.output,hgr.size,λ k hk hf=>hgr.block k hk λ e=>hf (by injection e)⟩ q6 G (by rw [q1,qB]; rfl)
end
theorem oneK {g n c:Nat}:(Value.slice (some ⟨g,0,none⟩) n c).oneCell'=true:=rfl
theorem St.twin {B N:Nat}(h:St B w0 N Γ Λ a w){s s2 T2 g c:Nat}{H2:Hd}{b:Bool}{l:List Nat}(k e2 e3:Nat)(hm:Γ[k]?=some (s,EqV (.slice (some ⟨g,0,none⟩) l.length c)))(he2:Λ[e2]?=some ⟨s2,T2,H2,cat [BoA b,SlK (.slice (some ⟨g,0,none⟩) l.length c) oneK]⟩)
  (he3:Λ[e3]?=some ⟨s,U32,slH l.length c,Nums .u32 (l++[7777])⟩) (ok:okL l) (hc:c=l.length+1) (hcm:c≤maxLen) (hB:B≤g):St B w0 N Γ (Λ.set e2 ⟨s2,T2,H2,RIT ⟨b,l⟩⟩) a w:=by
 obtain ⟨g3,cs3,f1,_,f3,f4⟩:=h.locs _ (qa he3)
 have f4':cs3=(l++[7777]).map λ (x:Nat)=>Value.int .u32 x:=f4
 have f5:a.eval (.tmp s)=.slice (some ⟨g,0,none⟩) l.length c:=h.vals _ (qa hm)
 have eg:g=g3:=by
  rw [f5] at f1
  have:some g=some g3:=qm blk f1
  injection this
 subst eg
 rw [f4'] at f3
 have hset:∀ m∈Λ.set e2 ⟨s2,T2,H2,RIT ⟨b,l⟩⟩,m=⟨s2,T2,H2,RIT ⟨b,l⟩⟩∨m∈Λ:=λ m hm=>(qy hm).symm
 have hin:=qa he2
 refine ⟨h.lo,h.defers,h.size,h.base,h.vals,λ m hm'=>?_,λ m hm1 m' hm2 hne=>?_⟩
 ·rcases hset m hm' with rfl | hm'
  ·obtain ⟨g2,cs,e1,e2',e3',e4⟩:=h.locs _ hin
   refine ⟨g2,cs,e1,e2',e3',?_⟩
   obtain ⟨ps,q1,q2⟩:=e4
   cases q2 with
   | cons q3 q2=>cases q2 with
    | cons q4 q2 =>
     refine ⟨_,q1,.cons q3 (.cons ?_ q2)⟩
     exact ⟨ok,g,by rw [← hc]; exact q4,hB,by rw [← hc]; exact hcm,f3⟩
  ·exact h.locs m hm'
 ·have key:∀ m∈Λ.set e2 ⟨s2,T2,H2,RIT ⟨b,l⟩⟩,∃ m'∈Λ,m'.s=m.s:=λ m hm=>by
   rcases hset m hm with rfl | hm
   ·exact ⟨_,hin,rfl⟩
   ·exact ⟨m,hm,rfl⟩
  obtain ⟨p,p1,p2⟩:=key m hm1
  obtain ⟨p',p3,p4⟩:=key m' hm2
  rw [← p2,← p4]
  exact h.dis p p1 p' p3 (by rw [p2,p4]; exact hne)
theorem Ch (n:Nat):(List.replicate (n+1) 0).drop n=[0]:=by rw [kW,jD]; rfl
theorem nF (x:RI)(hx:x.mag.length≤1000000000000):Cn Tryz.prog 97 [(RIA x).va] ((RIT x).va):=by
 obtain ⟨it,z,e1,e2,e3,e4,e5⟩:=ln
 refine Cn.introW Tryz.func97 G zk nq (.cons (sN _).va .nil) (mT _).va (λ B w0 a hB0 U=>?_)
 have U:=zn [(0,(RIO x).va)] [] U
 have hok:okL x.mag:=(gy (Hx _ _ _ (U.vals _ (zm 0 rfl)))).1
 refine qb<|zg [] [⟨1,26,ptrH,some 0,_,none⟩,⟨2,26,ptrH,some 1,_,none⟩] [.alc 0,.alc 1] [] U (zW 0 G (zY G (Str.zero eQ) o0)) (zz [] [O 1 26 _,O 2 26 _] λ a w U=>?_)
 refine zt<|zg [η,η] [] [.adr 4 1 (.some 1) True,.v 5 _,.v 6 _,.v 7 (In ((x.mag.length+1:Nat):Int)),.v 8 _,.v 3 _] [.o 5] U (zO 0 G ay (zL 0 0 1 G aX (zv G (aI Tryz.underlying24 (aD (vq 1 G))) (zv G (aN (vq 2 G) ab (ba zo)) (zv G (Fb eD (xp hB0) ab (vq 3 G) zo) (zA 4 G o0)))))) (zz [(3,_)] [O 1 26 _,O 2 26 _] λ a w U=>?_)
 refine zt<|Gp (sp:=[.v 9 _,.adr 10 1 (.some 1) True,.v 11 _,.v 12 VT,.v 3 VT]) 3 [] 0 2 U (zM 0 G (zO 0 G ay (zL 1 0 1 G aX o0))) G zk G G zd G zd G (xs:=x.mag) (λ w u h k=>gO _ _ _ h) Tryz.underlying24 e1 e3 (by simp) zk nq nq zk zk (λ a w U=>?_)
 have U:=St.wkG (A':=RowX w0.w.heap.size (x.mag.length+1) x.mag [0]) U 0 rfl (aZ (by rw [Ch]; rfl))
 have U:=zn [(3,_)] [O 1 26 _,O 2 26 _] U
 refine zt ?_
 obtain ⟨g,hBg,hce,hcm,U⟩:=St.toRow U 0 rfl rfl
 refine zgd [[],[0],[],[],[2,3],[],[5],[5,6],[2,3,4,5,6,7],[0,1,2,3,4,5,6,7,8],[0,1,2,3,4,5,6,7,8,9]] [none,some (10,_),some (4,_)] [] [.adr 13 1 (.some 0) True,.v 14 _,.v 15 _,.v 16 _,.cal 17 (EqV (.slice (some ⟨g,0,none⟩) (x.mag.length+[7777].length) (x.mag.length+1))) 2,.adr 18 1 (.some 1) True,.v 19 _,.v 20 _,.v 21 (EqV (.slice (some ⟨g,0,none⟩) x.mag.length (x.mag.length+1))),.v 22 _,.sto 1] [.g 0] ae U (zO 0 G aV (zL 0 0 0 G ty_4 (zM 0 G (zv G (cX (l:=[_]) (xs:=[.const (.int .u32 (7777))]) b9 zk nq nq (e8 zd) (.o (aG 7777 G)) G G) (oc (FE (l:=x.mag) (r:=[0]) (xs:=[7777]) G G G Tryz.underlying24 e1 e3 zd hce hcm (vq 2 G) (gq 0 G) (vq 3 G)) (zO 0 G ay (zL 5 0 1 G aX (zv G (aI Tryz.underlying24 (aD (vq 6 G))) (zv G (uT b9 (Gk 4 G zk zk) (vq 7 G) ⟨by omega,by omega⟩) (zv G (aU (qs:=[(0,_),(1,SlK (.slice (some ⟨g,0,none⟩) x.mag.length (x.mag.length+1)) oneK)]) eQ (.cons ⟨rfl,vq 1 rfl,rfl⟩ (.cons ⟨rfl,has_wk' (vq 8 G) (GD (h:=oneK)),rfl⟩ .nil))) (zS 9 G ar o0))))))))))) zk zk zk zk (zz [(3,_)] [O 1 26 _,O 2 26 _,⟨3,134,slH _ _,_⟩] λ a w U=>?_)
 have U:=St.wkL (A:=Nums .u32 (x.mag++[7777]++[])) (A':=Nums .u32 (x.mag++[7777])) U 2 rfl (dc (by rw [zj]))
 have U:=St.twin U 0 1 2 rfl rfl rfl hok (by simp at hce; omega) hcm hBg
 refine aa<|qg<|ao ?_ (aA G U (zm 1 G) ar)
 exact aL
def RFT (x:RF):As:=cat [RIT x.num,RIT x.den]
theorem E8 {l:List Nat}:WkA (TwN l) (MgA l):=⟨rfl,rfl,λ B cs w h=>by
 obtain ⟨cs',h1,h2⟩:=Ae B (shape false cs) w ⟨cs,h,rfl⟩
 have l1:=(TwN l).len _ _ _ h
 have l2:=(MgA l).len _ _ _ h1
 match cs,cs',l1,l2 with
 | [c],[c'],_,_ =>
  have e:c=c':=h2
  subst e
  exact h1⟩
theorem wkA_rit {x:RI}:WkA (RIT x) (RIA x):=bo (.cons (.refl _) (.cons E8 .nil))
theorem m5 {x:RF}:WkA (RFT x) (RFA x):=bo (.cons wkA_rit (.cons wkA_rit .nil))
section
variable {P:Program} {R:Rg} {Q:Exit→Act→World→Prop} {B i:Nat} {w0:Bs}
theorem CV {l:List Nat}(h:(TwN l).va.p B v w):okL l∧∃ g,v=.slice (some ⟨g,0,none⟩) l.length (l.length+1)∧l.length+1≤maxLen∧w.heap[g]?=some (.cells ((l++[7777]).map λ (x:Nat)=>Value.int .u32 x).toArray U32 (0,0)):=by
 obtain ⟨cs,⟨ok,g,e,h1,h2,h3⟩,hv⟩:=h
 subst e
 exact ⟨ok,g,hv,h2,h3⟩
theorem r_capT {x:Operand}{S E':TypeId}{l:List Nat}(hS:P.underlying S=some (.slice E'))(hx:Has R B w0 i x (TwN l).va):Wv P Q R B w0 i (.call ⟨.builtin .cap,#[x],#[S]⟩) (In ((l.length+1:Nat):Int)) :=
 bj λ d T ps af gd a w av=>by
  obtain ⟨_,g,hv,_,_⟩:=CV (hx a w av)
  refine ⟨.int .i64 ((l.length+1:Nat):Int),w,?_,Grow.refl w,bN _ _ _ _⟩
  simp [execOp,resolve,invoke,builtin,hv,Builtin.cap_,run_underlying hS,goInt]
theorem F8 {x z:Operand}{S:TypeId}{l:List Nat}(hS:Sl P S U32 1)(hx:Has R B w0 i x (TwN l).va)(hz:Has R B w0 i z (In ((l.length+1:Nat):Int))):Wv P Q R B w0 i (.slice S x none (some z) none) (MgA (l++[7777])).va :=
 bj λ d T ps af gd a w av=>by
  obtain ⟨hs1,hs2⟩:=hS
  obtain ⟨ok,g,e1,hm,hh⟩:=CV (hx a w av)
  have e3:=bh (hz a w av)
  have hE:P.elem S=U32:=by simp [Program.elem,hs1]
  have hs1':P.underlying S=some (.slice (P.elem S)):=by rw [hE]; exact hs1
  have hsz:∀ w,(sizeOf U32).run P w=.ok 1 w:=λ w=>by
   cases hi:P.info? U32 with
   | none=>rw [hi] at hs2; simp at hs2
   | some it=>rw [hi] at hs2; simp [sizeOf,typeInfo,hi]; simpa using hs2
  refine ⟨.slice (some ⟨g,0,none⟩) (l.length+1) (l.length+1),w,?_,Grow.refl w,dL (rj ok hm hh) (by simp)⟩
  have hr:=run_slice_h (P:=P) w S (some ⟨g,0,none⟩) l.length (l.length+1) hs1' .i64 ((l.length+1:Nat):Int) zo zo
  rw [hE,hsz] at hr
  have hne:¬ l.length+1=0:=by omega
  simp only [Result.andThen_ok,sliced,zX,hne,if_false,zK,qL,x5] at hr
  simp only [execOp,e1,e3,qL,run_sliceAt_slice _ _ _ _ _ _ hs1',Sem.run_bind,Sem.run_pure]
  erw [hr]
  simp [Addr.add]
end
set_option maxHeartbeats 1000000 in
theorem o6 (x y:RI)(hx:x.mag.length≤1000000000000):Cn Tryz.prog 169 [(RIT x).va,(RIA y).va] (Bo (decide (x=y))):=by
 refine Cn.intro Tryz.func169 G zk nq (λ B w0 a U=>?_)
 have U:=zn [(0,(RIT x).va),(1,(RIA y).va)] [] U
 refine qb<|zg [] [⟨2,26,ptrH,some 0,_,none⟩,⟨3,26,ptrH,some 1,_,none⟩] [.alc 0,.alc 1,.v 4 _] [.o 2] U (zW 0 G (zW 1 G (zv G (ac aJ) o0))) (zz [(4,_)] [O 2 26 _,O 3 26 _] λ a w U=>?_)
 refine zt<|iY (anc:=[[],[],[0,1],[0,1,2],[0,1,2,3],[0,1,2,3,4],[0,1,2,3,4,5],[0,1,2,3],[0,1,2,3,7],[0,1,2,3,7,8],[0,1,2,3,4,5,6,7,8,9],[0,1,2,3,4,5,6,7,8,9,10],[0,1,2,3,4,5,6,7,8,9,10,11],[0,1,2,3,4,5,6,7,8,9,10,11,12],[0,1,2,3,4,5,6,7,8,9,10,11,12,13],[0,1,2,3,4,5,6,7,8,9,10,11,12],[0,1,2,3,4,5,6,7,8,9,10,11,12,15],[0,1,2,3,4,5,6,7,8,9,10,11,12,15,16],[0,1,2,3,4,5,6,7,8,9,10,11,12,15,16,17],[0,1,2,3,4,5,6,7,8,9,10,11,12,13,14,15,16,17,18],[0,1,2,3,4,5,6,7,8,9,10,11,12],[0,1,2,3,4,5,6,7,8,9,10,11,12,20],[0,1,2,3,4,5,6,7,8,9,10,11,12,20,21],[0,1,2,3,4,5,6,7,8,9,10,11,12,13,14,15,16,17,18,19,20,21,22],[0,1,2,3,4,5,6,7,8,9,10,11,12,13,14,15,16,17,18,19,20,21,22,23],[0,1,2,3,4,5,6,7,8,9,10,11,12,13,14,15,16,17,18,19,20,21,22,23,24],[0,1,2,3,4,5,6,7,8,9,10,11,12,13,14,15,16,17,18,19,20,21,22,23,24,25],[0,1,2,3,4,5,6,7,8,9,10,11,12,13,14,15,16,17,18,19,20,21,22,23,24,25,26]]) (sts:=[none,none]) (news:=[]) (sp:=((.v 5 _:Sp)::(.v 6 _)::(.v 7 _)::(.v 8 _)::(.adr 9 2 (.some 1) (_=true))::(.t 10 _)::(.t 11 _)::(.adr 12 2 (.some 1) (_=true))::(.t 13 _)::(.t 14 _)::(.t 15 _)::(.v 16 _)::(.v 17 _)::(.adr 18 2 (.some 1) (_=true))::(.t 19 _)::(.adr 20 2 (.some 1) (_=true))::(.t 21 _)::(.t 22 _)::(.t 23 _)::(.t 24 _)::(.adr 25 2 (.some 1) (_=true))::(.t 26 _)::(.t 27 _)::(.t 28 _)::(.t 29 _)::(.t 30 _)::(.v 31 _)::(.v 4 _)::[])) [.o 27] ae U (zl 0 G ar (zl 1 G ar (zQ G ((iL x y).wk (.cons wkA_rit.va (.cons aL .nil))) (.p (vq 0 G) (vq 1 G)) (zv G (ai (vq 2 G)) (zC 3 0 G ay (zB 3 G (λ hg=>aF 4 G zk hg (lz0 0 G) (Sub.part 1 G G) aX) (zB 3 G (λ hg=>r_capT Tryz.underlying24 (ak (vq 5 G) hg)) (zC 3 0 G ay (zB 3 G (λ hg=>aF 7 G zk hg (lz0 0 G) (Sub.part 1 G G) aX) (zB 3 G (λ hg=>aI Tryz.underlying24 (has_wk' (ak (vq 8 G) hg) Ae)) (zB 3 G (λ hg=>ci (ak (vq 6 G) hg) (ak (vq 9 G) hg)) (zv G (bA (vq 3 G) (vq 10 G)) (zv G (ai (vq 11 G)) (zC 12 0 G ay (zB 12 G (λ hg=>aF 13 G zk hg (lz0 0 G) (Sub.part 1 G G) aX) (zC 12 0 G ay (zB 12 G (λ hg=>aF 15 G zk hg (lz0 0 G) (Sub.part 1 G G) aX) (zB 12 G (λ hg=>aI Tryz.underlying24 (has_wk' (ak (vq 16 G) hg) Ae)) (zB 12 G (λ hg=>aN (ak (vq 17 G) hg) ab (ba zo)) (zB 12 G (λ hg=>F8 b9 (ak (vq 14 G) hg) (ak (vq 18 G) hg)) (zC 12 0 G ay (zB 12 G (λ hg=>aF 20 G zk hg (lz0 0 G) (Sub.part 1 G G) aX) (zB 12 G (λ hg=>aI Tryz.underlying24 (has_wk' (ak (vq 21 G) hg) Ae)) (zB 12 G (λ hg=>mr b9 (ak (vq 19 G) hg) (ak (vq 22 G) hg) (by simp)) (zB 12 G (λ hg=>au (ak (vq 23 G) hg) aO) (zB 12 G (λ hg=>bC (ak (vq 24 G) hg) (aG 7777 G)) (zv G (bA (vq 12 G) (vq 25 G)) (zA 26 G o0)))))))))))))))))))))))))))) zk zk zk zk (zz [(4,_)] [O 2 26 _,O 3 26 _] λ a w U=>?_)
 refine aa<|qg<|ao ?_ (an G U (zm 0 G))
 refine aZ (qm Bo ?_); simp; omega
def bdF (x:RF):Prop:=x.num.mag.length≤1000000000000∧x.den.mag.length≤1000000000000
theorem eN (x:RF)(hx:bdF x):Cn Tryz.prog 21 [(RFA x).va] ((RFT x).va):=by
 refine Cn.intro Tryz.func21 G zk nq (λ B w0 a U=>?_)
 have U:=zn [(0,(RFA x).va)] [] U
 refine qb<|zg [] [⟨1,28,ptrH,some 0,_,none⟩,⟨2,28,ptrH,some 1,_,none⟩] [.alc 0,.alc 1] [] U (zW 0 G (zY G (Str.zero aP) o0)) (zz [] [O 1 28 _,O 2 28 _] λ a w U=>?_)
 refine zt<|zgd [[],[0],[0,1],[],[3],[0,1,2,3,4],[0,1,2,3,4,5],[0,1,2,3,4,5,6]] [none,some (7,_)] [] [.adr 3 1 (.some 0) True,.v 4 _,.v 5 _,.adr 6 1 (.some 2) True,.v 7 _,.v 8 _,.v 9 _,.sto 1] [] ae U (zO 0 G aW (zL 0 0 0 G ar (zQ G (nF _ hx.1) (.o (vq 1 G)) (zO 0 G aR (zL 3 0 1 G ar (zQ G (nF _ hx.2) (.o (vq 4 G)) (zv G (aU (qs:=[(0,_),(1,_)]) aP (.cons ⟨rfl,vq 2 rfl,rfl⟩ (.cons ⟨rfl,vq 5 rfl,rfl⟩ .nil))) (zS 6 G ax o0)))))))) zk zk zk zk (zz [] [O 1 28 _,O 2 28 _] λ a w U=>?_)
 refine aa<|qg<|ao ?_ (aA G U (zm 1 G) ax)
 exact aL
theorem eY (x y:RF)(hx:bdF x):Cn Tryz.prog 88 [(RFT x).va,(RFA y).va] (Bo (decide (x=y))):=by
 refine Cn.intro Tryz.func88 G zk nq (λ B w0 a U=>?_)
 have U:=zn [(0,(RFT x).va),(1,(RFA y).va)] [] U
 refine qb<|zg [] [⟨2,28,ptrH,some 0,_,none⟩,⟨3,28,ptrH,some 1,_,none⟩] [.alc 0,.alc 1,.v 4 _] [.o 2] U (zW 0 G (zW 1 G (zv G (ac aJ) o0))) (zz [(4,_)] [O 2 28 _,O 3 28 _] λ a w U=>?_)
 refine zt<|zg [η,η] [] [.adr 5 2 (.some 0) True,.v 6 _,.adr 7 3 (.some 0) True,.v 8 _,.v 9 _,.v 10 _,.adr 11 2 (.some 2) (_=true),.t 12 _,.adr 13 3 (.some 2) (_=true),.t 14 _,.t 15 _,.v 16 _,.v 4 _] [.o 12] U (zO 0 G aW (zL 0 0 0 G ar (zO 1 G aW (zL 2 1 0 G ar (zQ G (o6 _ _ hx.1) (.p (vq 1 G) (vq 3 G)) (zv G (ai (vq 4 G)) (zC 5 0 G aR (zB 5 G (λ hg=>aF 6 G zk hg (lz0 0 G) (Sub.part 1 G G) ar) (zC 5 1 G aR (zB 5 G (λ hg=>aF 8 G zk hg (lz0 1 G) (Sub.part 1 G G) ar) (zB 5 G (λ hg=>be (o6 _ _ hx.2) (.p (ak (vq 7 G) hg) (ak (vq 9 G) hg))) (zv G (bA (vq 5 G) (vq 10 G)) (zA 11 G o0))))))))))))) (zz [(4,_)] [O 2 28 _,O 3 28 _] λ a w U=>?_)
 refine aa<|qg<|ao ?_ (an G U (zm 0 G))
 exact aZ (qm Bo I8)
abbrev KL:=List (Value × List Nat)
def addL:List Slot→KL→List Slot
 | L,[]=>L
 | L,p::l=>addL (L++[newS p.1 p.2 (L.length+1)]) l
def SepL:List Slot→KL→Prop
 | _,[]=>True
 | L,p::l=>(∀ t∈L,∀ g,t.has g→p.1.ownBlock≠some g)∧SepL (L++[newS p.1 p.2 (L.length+1)]) l
theorem gj:∀ {l:KL} {L:List Slot},(addL L l).length=L.length+l.length
 | [],L=>rfl
 | p::l,L=>by rw [addL,gj]; simp; omega
theorem sJ:∀ {l m:KL} {L:List Slot},addL L (l++m)=addL (addL L l) m
 | [],m,L=>rfl
 | p::l,m,L=>by rw [jf,addL,addL,sJ]
theorem mn:∀ {l m:KL} {L:List Slot},SepL L (l++m)→SepL L l∧SepL (addL L l) m
 | [],m,L,h=>⟨trivial,h⟩
 | p::l,m,L,h=>by
  obtain ⟨h1,h2⟩:=h
  obtain ⟨h3,h4⟩:=mn h2
  exact ⟨⟨h1,h3⟩,h4⟩
def kbl (l:KL):List Nat:=l.filterMap λ p=>p.1.ownBlock
theorem uy:∀ {l:KL} {L:List Slot},(kbl l).Nodup→(∀ t∈L,∀ g,t.has g→g ∉ kbl l)→SepL L l
 | [],L,_,_=>trivial
 | p::l,L,hn,hL=>by
  have hk:∀ g,p.1.ownBlock=some g→kbl (p::l)=g::kbl l:=λ g hg=>by simp [kbl,jW,hg]
  have hk0:p.1.ownBlock=none→kbl (p::l)=kbl l:=λ hg=>by simp [kbl,jW,hg]
  have hsub:∀ g,g∈kbl l→g∈kbl (p::l):=λ g hg=>by
   cases hp:p.1.ownBlock with
   | none=>rw [hk0 hp]; exact hg
   | some g'=>rw [hk g' hp]; exact qX _ hg
  refine ⟨λ t ht g hg hp=>hL t ht g hg (by rw [hk g hp]; exact xe ..),uy ?_ λ t ht g hg hm=>?_⟩
  ·cases hp:p.1.ownBlock with
   | none=>rw [hk0 hp] at hn; exact hn
   | some g'=>rw [hk g' hp] at hn; exact (xx.1 hn).2
  ·rcases qo.1 ht with ht | ht
   ·exact hL t ht g hg (hsub g hm)
   ·obtain rfl:=qn.1 ht
    have hp:p.1.ownBlock=some g:=by rcases hg with h | h <;> exact h
    rw [hk g hp] at hn
    exact (xx.1 hn).1 hm
theorem sI:∀ {l:KL} {L:List Slot} {s:Slot},s∈addL L l→s∈L∨∃ p∈l,∃ n,n≤L.length+l.length∧s=newS p.1 p.2 n
 | [],L,s,h=>.inl h
 | p::l,L,s,h=>by
  rcases sI (l:=l) h with h | ⟨q,hq,n,hn,e⟩
  ·rcases qo.1 h with h | h
   ·exact .inl h
   ·exact .inr ⟨p,by simp,L.length+1,by simp,qn.1 h⟩
  ·exact .inr ⟨q,by simp [hq],n,by simp at hn ⊢; omega,e⟩
def JkA:As where
 n:=17
 ag:=true
 p _ cs _:=cs.length=17∧∀ c∈cs,c.oneCell'=true
 deps:=[]
 len:=λ _ _ _ h=>h.1
 one:=λ _ _ _ h=>h.2
 ag1:=λ h=>by cases h
 cg:=λ _ _ _ _ _ h=>h
 wr:=λ _ _ _ _ _ _ _ _ _ _ _ _ h=>h
def IntP (x:RI)(m:Value):As:=cat [BoA x.neg,PinA m (MgN x.mag)]
def FracP (x:RF)(m1 m2:Value):As:=cat [IntP x.num m1,IntP x.den m2]
abbrev kf (x:RF)(m1 m2:Value):KL:=[(m1,x.num.mag),(m2,x.den.mag)]
theorem G9 (v:Value)(xs:List Nat)(L:List Slot)(hsep:∀ t∈L,∀ g,t.has g→v.ownBlock≠some g)(hl:L.length≤1000000):CK Tryz.prog 210 59 [59,133] (BkE L) (BkE (L++[newS v xs (L.length+1)])) [(PinA v (MgN xs)).va] (Tu []) :=
 CK.ex (c:=λ _=>True) (DC undef v xs L hsep hl).1 (λ vr _=>DC vr v xs L hsep hl) λ B cs w ⟨vr,h⟩=>⟨vr,trivial,h⟩
theorem CG : ∃ fn, Tryz.prog.funcs[12]? = some fn ∧ (fn.name == "runtime.NumGoroutine") = false ∧ fn.body.isNone = false := ⟨_, Tryz.func12, by kernel_rfl, by kernel_rfl⟩
theorem CH (l:KL)(hok:∀ p∈l,okL p.2∧p.2.length≤2000000000000)(hl:l.length≤1000000):CK Tryz.prog 12 59 [59,133,134] (BkE (addL [] l)) JkA [] (Bo true):=by
 have hlen:(addL [] l).length≤1000000:=by rw [gj]; simpa using hl
 refine CK.ex (c:=λ _=>∀ s∈addL [] l,s.new) (CG) (λ vr hn=>(Hn vr (addL [] l) hn hlen).wk λ B cs w h=>?_) λ B cs w ⟨vr,h⟩=>⟨vr,λ s hs=>?_,h⟩
 ·exact ⟨(GkA vr _).len _ _ _ h,(GkA vr _).one _ _ _ h⟩
 ·obtain ⟨c,h0⟩:=nr h
  have hrv:=(h0.2.2.1 s hs).2.1
  rcases sI hs with h1 | ⟨p,hp,n,hn,rfl⟩
  ·cases h1
  ·exact { rv:=hrv,ox:=(hok p hp).1,oy:=(hok p hp).1,z1:=rfl,n1:=by simp at hn; show n≤_; omega,lx:=(hok p hp).2,uv:=rfl,yx:=rfl }
theorem wK (x:RI)(m:Value)(L:List Slot)(hs:SepL L [(m,x.mag)])(hl:L.length≤999999):CK Tryz.prog 135 59 [59,133] (BkE L) (BkE (addL L [(m,x.mag)])) [(IntP x m).va] (Tu []):=by
 refine CK.intro Tryz.func135 G zk nq zk (λ B g w0 a hrm U=>?_)
 have U:=zn [(0,EqV ((ptrH).f g)),(1,(IntP x m).va)] [⟨0,59,ptrH,BkE L⟩] U
 refine qb<|zg [η] [⟨3,26,ptrH,some 0,_,none⟩] [.alc 1] [.g 0] U (zW 1 G o0) (zz [(0,_)] [O 0 59 _,O 3 26 _] λ a w U=>?_)
 refine aa<|cc (sp:=[.v 4 _,.adr 5 3 (.some 1) True,.v 6 _,.v 7 VT]) 3 1 99 3 OneC [.g 0,.o 0,.o 2] U (zM 0 G (zO 1 G ay (zL 1 1 1 G aX o0))) G zd zk zk (zz [(0,_),(4,_),(6,_)] [O 0 59 _,O 3 26 _] λ a w U=>?_)
 rw [show List.range' 3 1=[3] from rfl]
 rw [qA]
 refine fO (A1:=BkE (L++[newS m x.mag (L.length+1)])) (xs:=[.tmp 6]) [0] [2] 0 G U (G9 m x.mag L hs.1 zo) G (xA (b:=ptr g) (U.vals _ (zm 1 G)) (j7 (U.vals _ (zm 0 G)))) (.cons ⟨_,rfl,rfl⟩ .nil) G hrm zd zk zk zk zk (λ a w U=>?_)
 refine cq ?_
 have U:=zn [(7,_),(0,_)] [⟨0,59,ptrH,BkE (L++[newS m x.mag (L.length+1)])⟩,O 3 26 _] U
 refine ec<|iN U (zm 1 G) (zm 0 G) ?_
 exact bf (rs:=[]) G U .nil zd
theorem wL (x:RF)(m1 m2:Value)(L:List Slot)(hs:SepL L (kf x m1 m2))(hl:L.length≤999990):CK Tryz.prog 37 59 [59,133] (BkE L) (BkE (addL L (kf x m1 m2))) [(FracP x m1 m2).va] (Tu []):=by
 obtain ⟨hs1,hs2⟩:=mn (l:=[(m1,x.num.mag)]) (m:=[(m2,x.den.mag)]) hs
 refine CK.intro Tryz.func37 G zk nq zk (λ B g w0 a hrm U=>?_)
 have U:=zn [(0,EqV ((ptrH).f g)),(1,(FracP x m1 m2).va)] [⟨0,59,ptrH,BkE L⟩] U
 refine qb<|zg [η] [⟨3,28,ptrH,some 0,_,none⟩] [.alc 1] [.g 0] U (zW 1 G o0) (zz [(0,_)] [O 0 59 _,O 3 28 _] λ a w U=>?_)
 refine zt<|cc (sp:=[.v 4 _,.adr 5 3 (.some 0) True,.v 6 _,.v 7 VT]) 3 1 99 3 OneC [.g 0,.o 0,.o 2] U (zM 0 G (zO 1 G aW (zL 1 1 0 G ar o0))) G zd zk zk (zz [(0,_),(4,_),(6,_)] [O 0 59 _,O 3 28 _] λ a w U=>?_)
 rw [show List.range' 3 1=[3] from rfl]
 rw [qA]
 refine fO (A1:=BkE (addL L [(m1,x.num.mag)])) (xs:=[.tmp 6]) [0] [2] 0 G U (wK x.num m1 L hs1 zo) G (xA (b:=ptr g) (U.vals _ (zm 1 G)) (j7 (U.vals _ (zm 0 G)))) (.cons ⟨_,rfl,rfl⟩ .nil) G hrm zd zk zk zk zk (λ a w U=>?_)
 refine cq ?_
 have U:=zn [(7,_),(0,_)] [⟨0,59,ptrH,BkE (addL L [(m1,x.num.mag)])⟩,O 3 28 _] U
 refine aa<|cc (sp:=[.v 8 _,.adr 9 3 (.some 2) True,.v 10 _,.v 11 VT]) 3 1 99 3 OneC [.g 1,.o 0,.o 2] U (zM 1 G (zO 1 G aR (zL 1 1 1 G ar o0))) G zd zk zk (zz [(0,_),(8,_),(10,_)] [O 0 59 _,O 3 28 _] λ a w U=>?_)
 rw [show List.range' 3 1=[3] from rfl]
 rw [qA]
 refine fO (A1:=BkE (addL L (kf x m1 m2))) (xs:=[.tmp 10]) [0] [2] 0 G U (wK x.den m2 (addL L [(m1,x.num.mag)]) hs2 (by rw [gj]; simp; omega)) G (xA (b:=ptr g) (U.vals _ (zm 1 G)) (j7 (U.vals _ (zm 0 G)))) (.cons ⟨_,rfl,rfl⟩ .nil) G hrm zd zk zk zk zk (λ a w U=>?_)
 refine cq ?_
 have U:=zn [(11,_),(0,_)] [⟨0,59,ptrH,BkE (addL L (kf x m1 m2))⟩,O 3 28 _] U
 refine ec<|iN U (zm 1 G) (zm 0 G) ?_
 exact bf (rs:=[]) G U .nil zd
abbrev km (x:RM)(m:Nat→Value):KL:=kf x.a (m 0) (m 1)++kf x.b (m 2) (m 3)++kf x.c (m 4) (m 5)++kf x.d (m 6) (m 7)
def NilM:As where
 n:=1
 ag:=false
 p _ cs _:=cs=[.slice none 0 0]
 deps:=[]
 len:=by rintro B cs w rfl; rfl
 one:=by rintro B cs w rfl x hx; simp at hx; subst hx; rfl
 ag1:=λ _=>rfl
 cg:=λ _ _ _ _ _ h=>h
 wr:=λ _ _ _ _ _ _ _ _ _ _ _ _ h=>h
def NilI:As:=cat [BoA false,NilM]
def RFN (x:RF):As:=cat [RIN x.num,RIN x.den]
def RFD (x:RF):As:=DisA (RFN x)
theorem BN {x:RF}:FreeA (RFD x) (RFD x):=nk (bF (.cons (du _) (.cons (du _) .nil)))
theorem qd_rfd {k:Nat}{q:Rat}:WkA (QD k q) (RFD (rfOf q)):=iw (bo (.cons E2 (.cons E2 .nil)))
theorem iW (h:(cat [NilI,NilI]).p B cs w):cs=[.bool false,.slice none 0 0,.bool false,.slice none 0 0]:=by
 obtain ⟨ps,rfl,hp⟩:=h
 have hI:∀ c,NilI.p B c w→c=[.bool false,.slice none 0 0]:=λ c ⟨qs,e,hq⟩=>by
  cases hq with
  | @cons _ c1 _ _ h1 hq=>cases hq with
   | @cons _ c2 _ _ h2 hq =>
    cases hq
    have h1':c1=[.bool false]:=h1
    have h2':c2=[.slice none 0 0]:=h2
    rw [e,h1',h2']
    rfl
 cases hp with
 | cons h1 hp=>cases hp with
  | cons h2 hp =>
   cases hp
   rw [hI _ h1,hI _ h2]
   rfl
theorem zf_rfd:WkA (cat [NilI,NilI]) (RFD rf0):=⟨rfl,rfl,λ B cs w h=>by
 have hi:(RIN ⟨false,[]⟩).p B [.bool false,.slice none 0 0] w:=⟨[[.bool false],[.slice none 0 0]],rfl,.cons rfl (.cons ⟨cI,.inl ⟨rfl,rfl⟩⟩ .nil)⟩
 rw [iW h]
 exact ⟨⟨[[.bool false,.slice none 0 0],[.bool false,.slice none 0 0]],rfl,.cons hi (.cons hi .nil)⟩,jn⟩⟩
section
open Rg
variable {P:Program} {Q:Exit→Act→World→Prop} {B N:Nat} {w0:Bs} {Γ:List (Nat × VA)} {ops:Array Oper} {les:List LeF} {sp:List ((Nat→Value)→Sp)} {anc:Nat→List Nat} {i:Nat}
end
theorem Hb {m:Value}{xs:List Nat}(h:(MgN xs).p B [m] w):blk m=m.ownBlock:=by
 rcases h.2 with ⟨_,e⟩ | ⟨g,ext,e,_⟩
 ·injection e with e
  subst e
  rfl
 ·injection e with e
  subst e
  rfl
theorem o7 {x:RI}(h:(RIN x).p B cs w):∃ m,(IntP x m).p B cs w∧cbl cs=kbl [(m,x.mag)]:=by
 obtain ⟨ps,rfl,hp⟩:=h
 cases hp with
 | @cons _ c1 _ _ h1 hp=>cases hp with
  | @cons _ c2 _ _ h2 hp =>
   cases hp
   have h1':c1=[.bool x.neg]:=h1
   subst h1'
   have l2:=(MgN x.mag).len _ _ _ h2
   match c2,l2 with
   | [m],_ =>
    refine ⟨m,⟨[[.bool x.neg],[m]],rfl,.cons G (.cons ⟨h2,rfl⟩ .nil)⟩,?_⟩
    have e:=Hb h2
    show List.filterMap blk [.bool x.neg,m]=List.filterMap (λ p=>p.1.ownBlock) [(m,x.mag)]
    have:List.filterMap blk [.bool x.neg,m]=List.filterMap blk [m]:=rfl
    rw [this]
    simp [jW,e]
section
open Rg
variable {P:Program} {Q:Exit→Act→World→Prop} {B N:Nat} {w0:Bs} {Γ:List (Nat × VA)} {ops:Array Oper} {les:List LeF} {sp:List ((Nat→Value)→Sp)} {anc:Nat→List Nat} {i:Nat}
end
section
open Rg
variable {P:Program} {Q:Exit→Act→World→Prop} {B N:Nat} {w0:Bs} {Γ:List (Nat × VA)} {Λ:List Lc} {a:Act} {w:World}
def les0 (Λ:List Lc):List Le:=Λ.map λ l=>⟨l.s,l.T,l.H,none,l.A,none⟩
theorem o5:(les0 Λ).map (λ e=>(⟨e.s,e.T,e.H,Rg.last e⟩:Lc))=Λ:=by
 unfold les0
 rw [z6]
 have:(λ e:Le=>(⟨e.s,e.T,e.H,Rg.last e⟩:Lc))∘(λ l:Lc=>(⟨l.s,l.T,l.H,none,l.A,none⟩:Le))=id:=by
  funext l
  rfl
 rw [this,List.map_id]
theorem Gn {ops:Array Oper}{sp:List Sp}{d0:Nat}{A0:VA}(src:List Src)(h:St B w0 N ((d0,A0)::Γ) Λ a w)(h0:sp[0]?=some (.v d0 A0))(hsz:0<ops.size)
  (hob:Obs P Q ⟨ops,N,Γ,les0 Λ,sp,λ i=>List.range i⟩ B w0 1 (ops.size-1)) (hk:Rg.chk ⟨ops,N,Γ,les0 Λ,sp,λ i=>List.range i⟩=true) (hsrc:src.all (okS ⟨ops,N,Γ,les0 Λ,sp,λ i=>List.range i⟩)=true)
  (hQ:∀ a w,St B w0 N (src.filterMap (takeS ⟨ops,N,Γ,les0 Λ,sp,λ i=>List.range i⟩)) Λ a w→Q .normal a w):wpOps P ops Q (List.range' 1 (ops.size-1)) a w:=by
 have hmem:∀ e∈les0 Λ,e.cr=none∧e.st=none∧(⟨e.s,e.T,e.H,e.A0⟩:Lc)∈Λ:=λ e he=>by
  obtain ⟨l,hl,rfl⟩:=qq.1 he
  exact ⟨rfl,rfl,hl⟩
 have hcur:∀ e∈les0 Λ,∀ L:Nat→Bool,Rg.cur L e=some e.A0:=λ e he L=>by
  obtain ⟨h1,h2,_⟩:=hmem e he
  unfold Rg.cur
  rw [h1,h2]
  rfl
 have hi0:Rg.Inv ⟨ops,N,Γ,les0 Λ,sp,λ i=>List.range i⟩ B w0 (λ j=>decide (j<1)) a w:=by
  refine ⟨h.lo,h.defers,h.size,h.base,λ x hx _ _=>h.vals x (qX _ hx),λ i y d A hs hv hL _=>?_,λ i d b k c hs hL _=>?_,λ e he A hA=>?_,λ e he f hf hne _ _=>?_⟩
  ·have hL':i<1:=qp hL
   have:i=0:=by omega
   subst this
   have hs':sp[0]?=some y:=hs
   rw [h0] at hs'
   injection hs' with hs'
   subst hs'
   simp only [Sp.vl,Option.some.injEq,Prod.mk.injEq] at hv
   obtain ⟨rfl,rfl⟩:=hv
   exact h.vals (d0,A0) (xe ..)
  ·have hL':i<1:=qp hL
   have:i=0:=by omega
   subst this
   have hs':sp[0]?=some (.adr d b k c):=hs
   rw [h0] at hs'
   cases hs'
  ·rw [hcur e he] at hA
   injection hA with hA
   subst hA
   exact h.locs _ (hmem e he).2.2
  ·exact h.dis _ (hmem e he).2.2 _ (hmem f hf).2.2 hne
 have key:∀ m k,1≤k→k+m=ops.size→∀ a w,Rg.Inv ⟨ops,N,Γ,les0 Λ,sp,λ i=>List.range i⟩ B w0 (λ j=>decide (j<k)) a w→wpOps P ops Q (List.range' k m) a w:=by
  intro m
  induction m with
  | zero =>
   intro k hk1 hkm a w hi
   have:k=ops.size:=by omega
   subst this
   have:=eJ hk ⟨hi⟩ src hsrc
   rw [show (Rg.mk ops N Γ (les0 Λ) sp (λ i=>List.range i)).les=les0 Λ from rfl,o5] at this
   exact hQ a w this
  | succ m ih =>
   intro k hk1 hkm a w hi
   rw [List.range'_succ,qA]
   refine Rg.step hk (hob.all k zo zo) hi ?_ (by simp) ?_ _ λ a' w' hi'=>ih (k+1) zo zo a' w' (hi'.congr λ j=>?_)
   ·intro i hi j hj
    have hj:(List.range i).contains j=true:=hj
    simp at hi hj ⊢
    omega
   ·intro j hj
    have hj:(List.range k).contains j=true:=hj
    simpa using hj
   ·unfold upd
    by_cases h1:j=k
    ·subst h1; simp
    ·have h2:(j==k)=false:=by simpa using h1
     rw [h2,xB,qS]
     omega
 exact key (ops.size-1) 1 (qi _) zo a w hi0
end
theorem He:(BkE []).p B ([Value.int .i64 0]++List.replicate 16 (Value.slice none 0 0)) w :=
 ⟨.slice none 0 0,[Value.int .i64 0]::List.replicate 16 [Value.slice none 0 0],rfl,.cons rfl (.cons ⟨rfl,World.ownsRow_nil ..,(λ s hs=>by cases hs),λ i j s t h=>by cases h⟩ (.cons ⟨rfl,rfl⟩ (.cons ⟨rfl,rfl⟩ (.cons ⟨rfl,rfl⟩ (.cons ⟨rfl,rfl⟩ (.cons ⟨rfl,rfl⟩ (.cons ⟨rfl,rfl⟩ (.cons ⟨rfl,rfl⟩ (.cons ⟨rfl,rfl⟩ (.cons ⟨rfl,rfl⟩ (.cons ⟨rfl,rfl⟩ (.cons ⟨rfl,rfl⟩ (.cons ⟨rfl,rfl⟩ (.cons ⟨rfl,rfl⟩ (.cons ⟨rfl,rfl⟩ (.cons ⟨rfl,rfl⟩ .nil))))))))))))))))⟩
theorem tP:Zero Tryz.prog 59 (BkE []):=Zero.of (z:=.agg ([Value.int .i64 0]++List.replicate 16 (Value.slice none 0 0)).toArray) zk λ B w=>He
end Go.Proofs.YtedfcalhhldijaaGreatDoor
