import Derived.Test.YtkpifdpdeanjfaaGreatDoorTtAo
import Derived.SizedLaws
set_option linter.all false
set_option maxRecDepth 100000
namespace Go.Proofs.YtkpifdpdeanjfaaGreatDoor
open Go Go.RowKit
variable {w:World}{B:Nat}{a:Act}{v:Value}{T:TypeId}{w0:Bs}{Γ:List (Nat × VA)}{Λ:List Lc}{ps:String}{af:Array Edge}{vr:Value}{H:Hd}{cs:List Value}{w':World}{P:Program}{D:List TypeId}
open Go.ChangeShapes Go.WideShapes Go.ChangeAt
theorem iH {A:As}(h:(A.deps.all λ T=>D.contains T)=true):∀ T∈A.deps,T∈D:=λ T hT=>by
 have:=qc.1 h T hT
 simpa using this
def wdI (x:RI):Prop:=x.mag.length≤140737488355328
def wdF (x:RF):Prop:=wdI x.num∧wdI x.den
abbrev Wt {H:Type}(P:Program)(t:TypeId)(d:DataW H):Prop:=∀ n∈d.weights P t,n≤reachBytes
section
variable {H:Type} {enc:TypeId × Value→H} {w:World} {base:Nat} {spare:Nat→Bool} {held:Bool} {fuel:Nat} {cs:List Value} {x:DataW H × List MemPlace}
theorem rb_mg (h:DataW.trod enc Tryz.prog w base spare held fuel 26 cs=some x)(hw:Wt Tryz.prog 26 x.1):∃ l,(MgA l).p w.heap.size cs w∧l.length≤140737488355328:=by
 obtain ⟨l,hl⟩:=rd_mg h
 refine ⟨l,hl,?_⟩
 rcases open_ints Tryz.underlying26 Tryz.underlying128 zk h with ⟨hcs,_⟩ | ⟨a,len,cap,zs,rfl,_,h1,hm,hz,hx,hcell,hwz⟩
 ·subst hcs
  obtain ⟨_,_,A,c,ds,e,_⟩:=hl
  rw [qi] at e
  simp only [List.cons.injEq,Value.slice.injEq,and_true] at e
  omega
 ·obtain ⟨_,_,A,c,ds,e,_⟩:=hl
  rw [qi] at e
  simp only [List.cons.injEq,Value.slice.injEq,and_true] at e
  have h4:Tryz.prog.bytesOf 128=4:=by kernel_rfl
  have:=hw (((lits .u32 (zs.take len):List (DataW H)).length+(lits .u32 (zs.drop len):List (DataW H)).length)*Tryz.prog.bytesOf 128) (by rw [hx]; simp [DataW.weights,Tryz.underlying26,lits])
  rw [h4] at this
  simp only [lits,qi,zj,xw] at this
  have hlen:len≤zs.length:=by rw [hz]; split <;> omega
  unfold reachBytes at this
  omega
theorem et {t:TypeId}{fs:Array Field}(ht:P.underlying t=some (.struct fs))(h:DataW.trod enc P w base spare held fuel t cs=some x)(hw:Wt P t x.1)(j:Nat){f:Field}(hf:fs[j]?=some f):
  ∃ n y,DataW.trod enc P w base spare held n f.type ((cs.drop f.offset).take (P.cellsOf f.type))=some y∧Wt P f.type y.1:=by
 obtain ⟨xs,n,_,hx,_,hlen,hel⟩:=DataW.trod_struct ht h
 have hj:j<fs.size:=(Array.getElem?_eq_some_iff.1 hf).1
 have h1:=hel j f hf
 rw [List.getElem?_eq_getElem zo] at h1
 refine ⟨n,_,h1,λ k hk=>hw k ?_⟩
 rw [hx]
 simp only [DataW.weights,ht]
 exact DataW.weights_mem_each (j:=j) (by rw [List.getElem?_map]; show (fs.toList[j]?).map _=_; rw [Array.getElem?_toList,hf]; rfl) (by rw [List.getElem?_map,List.getElem?_eq_getElem zo]; rfl) k hk
theorem rb_ri (h:DataW.trod enc Tryz.prog w base spare held fuel 28 cs=some x)(hw:Wt Tryz.prog 28 x.1):∃ y,(RIA y).p w.heap.size cs w∧wdI y:=by
 have hl:cs.length=2:=by
  obtain ⟨_,_,_,_,hl,_,_⟩:=DataW.trod_struct Tryz.underlying28 h
  exact hl.trans zk
 obtain ⟨n0,y0,h0,w0⟩:=et Tryz.underlying28 h hw 0 rfl
 have c0:Tryz.prog.cellsOf 4=1:=by kernel_rfl
 have h0:DataW.trod enc Tryz.prog w base spare held n0 4 ((cs.drop 0).take (Tryz.prog.cellsOf 4))=some y0:=h0
 rw [c0] at h0
 obtain ⟨a0,q0⟩:=rd_bo h0
 obtain ⟨n1,y1,h1,w1⟩:=et Tryz.underlying28 h hw 1 rfl
 have c1:Tryz.prog.cellsOf 26=1:=by kernel_rfl
 have h1:DataW.trod enc Tryz.prog w base spare held n1 26 ((cs.drop 1).take (Tryz.prog.cellsOf 26))=some y1:=h1
 rw [c1] at h1
 obtain ⟨a1,q1,b1⟩:=rb_mg h1 w1
 exact ⟨⟨a0,a1⟩,Ay q0 q1 hl,b1⟩
theorem rb_rf (h:DataW.trod enc Tryz.prog w base spare held fuel 30 cs=some x)(hw:Wt Tryz.prog 30 x.1):∃ y,(RFA y).p w.heap.size cs w∧wdF y:=by
 have hl:cs.length=4:=by
  obtain ⟨_,_,_,_,hl,_,_⟩:=DataW.trod_struct Tryz.underlying30 h
  exact hl.trans zk
 obtain ⟨n0,y0,h0,w0⟩:=et Tryz.underlying30 h hw 0 rfl
 have c0:Tryz.prog.cellsOf 28=2:=by kernel_rfl
 have h0:DataW.trod enc Tryz.prog w base spare held n0 28 ((cs.drop 0).take (Tryz.prog.cellsOf 28))=some y0:=h0
 rw [c0] at h0
 obtain ⟨a0,q0,b0⟩:=rb_ri h0 w0
 obtain ⟨n1,y1,h1,w1⟩:=et Tryz.underlying30 h hw 1 rfl
 have c1:Tryz.prog.cellsOf 28=2:=by kernel_rfl
 have h1:DataW.trod enc Tryz.prog w base spare held n1 28 ((cs.drop 2).take (Tryz.prog.cellsOf 28))=some y1:=h1
 rw [c1] at h1
 obtain ⟨a1,q1,b1⟩:=rb_ri h1 w1
 exact ⟨⟨a0,a1⟩,Ay q0 q1 hl,⟨b0,b1⟩⟩
theorem wt_of {ts:List TypeId}{ds:List (DataW H)}(h:(DataW.weightsEach P ts ds).all (· ≤ reachBytes)=true)(j:Nat){t:TypeId}{d:DataW H}(ht:ts[j]?=some t)(hd:ds[j]?=some d):Wt P t d:=λ n hn=>by
 have:=qc.1 h n (DataW.weights_mem_each ht hd n hn)
 simpa using this
theorem fH {P:Program}{e:TypeId}:∀ {l:List (DataW H)} {d:DataW H},d∈l→∀ n∈d.weights P e,n∈DataW.weightsAll P e l
 | [],_,h,_,_=>by cases h
 | x::l,d,h,n,hn=>by
  simp only [DataW.weightsAll,qw]
  rcases qo.1 h with rfl | h
  ·exact .inl hn
  ·exact .inr (fH h n hn)
theorem rb_sl {α:Type}{A:α→As}{bd:α→Prop}{t e:TypeId}{m:Nat}(ht:P.underlying t=some (.slice e))(hc:P.cellsOf e=m)(hm0:0<m)(hby:0<P.bytesOf e)(hD:∀ y,∀ T∈(A y).deps,T∈D)
  (rd:∀ {fuel:Nat} {cs:List Value} {x:DataW H × List MemPlace},DataW.trod enc P w base spare held fuel e cs=some x→Wt P e x.1→∃ y,(A y).p w.heap.size cs w∧bd y)
  (h:DataW.trod enc P w base spare held fuel t cs=some x) (hw:Wt P t x.1):∃ l:List α,(SlA e D (l.map A)).p w.heap.size cs w∧(∀ y∈l,bd y)∧l.length≤140737488355328:=by
 rcases Go.Deep.open_slice ht h with ⟨rfl,_⟩ | ⟨a,len,cap,m',n,Df,Pl,rfl,hb,hl,hmx,hm',hxx,hel⟩
 ·exact ⟨[],⟨λ A hA=>by simp at hA,none,0,[],rfl,qg _,za _,⟨[],rfl,.nil⟩,λ h=>absurd h (by simp)⟩,λ y hy=>(by cases hy),by simp⟩
 ·rw [hc] at hel
  have hle:len≤m':=by rw [hm']; split <;> omega
  have hwt:∀ k,k<len→Wt P e (Df k):=λ k hk n hn=>hw n (by
   rw [hxx]
   simp only [DataW.weights,ht]
   exact zi _ (kK _ (fH (qm.2 ⟨k,x3.2 hk,rfl⟩) n hn)))
  have hlw:len≤140737488355328:=by
   have:=hw ((((List.range len).map Df).length+((List.range (m'-len)).map λ j=>Df (len+j)).length)*P.bytesOf e) (by rw [hxx]; simp [DataW.weights,ht])
   simp only [qi,List.length_range] at this
   unfold reachBytes at this
   have h1:(len+(m'-len))*1≤(len+(m'-len))*P.bytesOf e:=zq _ hby
   omega
  have key:∀ k,k≤len→∃ (l:List α) (ds:List Value),l.length=k∧ds.length=k*m∧(cat (l.map A)).p w.heap.size ds w∧(∀ y∈l,bd y)∧∀ (j:Nat) v,ds[j]?=some v→w.cell? (a.add j)=some v:=by
   intro k
   induction k with
   | zero=>exact λ _=>⟨[],[],rfl,by simp,⟨[],rfl,.nil⟩,λ y hy=>(by cases hy),λ j v hv=>by simp at hv⟩
   | succ k ih =>
    intro hk
    obtain ⟨l,ds,h1,h2,h3,hbd,h4⟩:=ih zo
    obtain ⟨cs',q1,q2⟩:=hel k zo
    obtain ⟨y,hy,hyb⟩:=rd q2 (hwt k zo)
    obtain ⟨_,q3,q4⟩:=World.cells?_some q1
    refine ⟨l++[y],ds++cs',by simp [h1],by rw [qn,h2,q3,xI,j6],?_,λ z hz=>by
     rcases qw.1 hz with hz | hz
     ·exact hbd z hz
     ·obtain rfl:=qq.1 hz; exact hyb,λ j v hv=>?_⟩
    ·rw [zF]
     exact He h3 (CP hy)
    ·by_cases hj:j<ds.length
     ·rw [List.getElem?_append_left hj] at hv
      exact h4 j v hv
     ·rw [List.getElem?_append_right zo] at hv
      have hlt:j-ds.length<cs'.length:=(List.getElem?_eq_some_iff.1 hv).1
      have:=q4 (j-ds.length) zo
      rw [Go.Deep.add_add,show k*m+(j-ds.length)=j by omega] at this
      rw [this,hv]
  obtain ⟨l,ds,h1,h2,h3,hbd,h4⟩:=key len (qg _)
  refine ⟨l,⟨λ A' hA=>?_,some a,cap,ds,by rw [qi,h1],by rw [qi,h1]; exact hl,hmx,h3,λ hpos=>?_⟩,hbd,by omega⟩
  ·obtain ⟨y,_,rfl⟩:=qm.1 hA
   exact hD y
  ·rw [qi,h1] at hpos
   have hds:0<ds.length:=by rw [h2]; exact jt hpos hm0
   obtain ⟨b,off,spot⟩:=a
   have h0:=h4 0 (ds[0]) (List.getElem?_eq_getElem hds)
   have hspot:spot=none:=by simpa [Addr.add] using World.cell?_spot h0
   subst hspot
   have hblk:b<w.heap.size:=World.block_lt_of_cell? w _ (by rw [Go.WideShapes.add_plain] at h0; exact h0)
   exact ⟨b,off,rfl,hblk,.inl hblk,λ j v hv=>by rw [← Go.WideShapes.add_plain]; exact h4 j v hv⟩
theorem Hr {α:Type}{A:α→As}{bd:α→Prop}{t e:TypeId}{m:Nat}{r:Reach}{b0:Nat}{d:DataW H}{p:List MemPlace}(ht:P.underlying t=some (.slice e))(hc:P.cellsOf e=m)(hm0:0<m)(hby:0<P.bytesOf e)(hD:∀ y,∀ T∈(A y).deps,T∈D)
  (rd:∀ {fuel:Nat} {cs:List Value} {x:DataW H × List MemPlace},DataW.trod enc P w base spare held fuel e cs=some x→Wt P e x.1→∃ y,(A y).p w.heap.size cs w∧bd y)
  (hv:Value.okWide P w r b0 t v) (h:DataW.Trod enc P w base spare held t v d p) (hw:Wt P t d):∃ l:List α,(SlA e D (l.map A)).va.p w.heap.size v w∧(∀ y∈l,bd y)∧l.length≤140737488355328:=by
 obtain ⟨a,len,cap,rfl⟩:=okWide_slice ht hv
 obtain ⟨fuel,hf⟩:=h
 obtain ⟨l,hl,h2⟩:=rb_sl ht hc hm0 hby hD rd hf hw
 exact ⟨l,⟨_,hl,rfl⟩,h2⟩
end
theorem pt:FreeA (RFA rf0) (RFA rf0):=bZ (.cons (bZ (.cons (dX _) (.cons tf .nil))) (.cons (bZ (.cons (dX _) (.cons tf .nil))) .nil))
def andV (A A':VA):VA where
 p B v w:=A.p B v w∧A'.p B v w
 deps:=A.deps++A'.deps
 cg:=λ B v w w' hg h=>⟨A.cg _ _ _ _ hg h.1,A'.cg _ _ _ _ hg h.2⟩
 wr:=λ B v w w' g c T fz h1 h2 h3 h4 h=>by
  simp only [qw,not_or] at h2
  exact ⟨A.wr _ _ _ _ _ _ _ _ h1 h2.1 h3 h4 h.1,A'.wr _ _ _ _ _ _ _ _ h1 h2.2 h3 h4 h.2⟩
theorem andV_1 {A A':VA}:Wk (andV A A') A:=λ _ _ _ h=>h.1
theorem AL {A A':VA}:Wk (andV A A') A':=λ _ _ _ h=>h.2
def LsQ (q:Nat→Prop)(E m:Nat)(D:List TypeId)(Xs:List As):VA where
 p B v w:=(∀ A∈Xs,A.n=m)∧(∀ A∈Xs,∀ T∈A.deps,T∈D)∧(∃ ds,(cat Xs).p B ds w∧w.ownsRow B E m v Xs.length ds∧(cbl ds).Nodup∧∀ g∈cbl ds,q g)∧∀ g,v.ownBlock=some g→q g
 deps:=E::D
 cg:=λ B v w w' hg ⟨h1,h2,⟨ds,h3,h4,h5⟩,h6⟩=>⟨h1,h2,⟨ds,(cat Xs).cg _ _ _ _ hg h3,cu h4 λ g c _ h=>hg.heap h,h5⟩,h6⟩
 wr:=by
  rintro B v w w' g c T fz hgc hT hB hW ⟨h1,h2,⟨ds,h3,h4,h5⟩,h6⟩
  simp only [qo,not_or] at hT
  refine ⟨h1,h2,⟨ds,(cat Xs).wr _ _ _ _ _ _ _ _ hgc (λ hh=>?_) hB hW h3,cu h4 λ g' c' _ h7=>?_,h5⟩,h6⟩
  ·obtain ⟨A,hA,hd⟩:=List.mem_flatMap.1 hh
   exact hT.2 (h2 A hA T hd)
  ·rw [hW.block g' (λ e=>?_)]
   ·exact h7
   ·subst e
    rw [hgc] at h7
    injection h7 with h7
    injection h7 with _ h7 _
    exact hT.1 h7
abbrev LsN (E m:Nat)(D:List TypeId)(Xs:List As):VA:=LsQ (λ _=>True) E m D Xs
abbrev LsG (lo E m:Nat)(D:List TypeId)(Xs:List As):VA:=LsQ (λ g=>lo≤g) E m D Xs
abbrev LsI (lo hi E m:Nat)(D:List TypeId)(Xs:List As):VA:=LsQ (λ g=>lo≤g∧g<hi) E m D Xs
theorem ya {q:Nat→Prop}{E m:Nat}{Xs:List As}:Wk (LsQ q E m D Xs) (SlA E D Xs).va:=λ B v w ⟨h1,h2,⟨ds,h3,h4,_⟩,_⟩=>ii (b:=B) B v w ⟨h1,h2,ds,h3,h4⟩
theorem rF {q:Nat→Prop}{E m:Nat}{Xs:List As}(hX:∀ A∈Xs,FreeA A A):Free (LsQ q E m D Xs) (LsQ q E m D Xs):=λ B B' v w hB ⟨h1,h2,⟨ds,h3,h4,h5⟩,h6⟩=>by
 refine ⟨h1,h2,⟨ds,ti hB hX h3,⟨h4.1,?_⟩,h5⟩,h6⟩
 rcases h4.2 with h | ⟨g,cap,cur,e1,e2,e3⟩
 ·exact .inl h
 ·exact .inr ⟨g,cap,cur,e1,qd hB e2,e3⟩
theorem DE {E m:Nat}{Xs:List As}(hX:∀ A∈Xs,NewA A){q:Nat→Prop}(h:(LsQ q E m D Xs).p B v w):(LsQ (λ g=>q g∧B≤g∧g<w.heap.size) E m D Xs).p B v w:=by
 obtain ⟨h1,h2,⟨ds,h3,h4,h5,h5'⟩,h6⟩:=h
 refine ⟨h1,h2,⟨ds,h3,h4,h5,λ g hg=>⟨h5' g hg,?_⟩⟩,λ g hg=>⟨h6 g hg,?_⟩⟩
 ·obtain ⟨ps,rfl,hp⟩:=h3
  exact nG hX hp g hg
 ·obtain ⟨q1,c,fz,q2⟩:=fM h4 g hg
  exact ⟨q1,(Array.getElem?_eq_some_iff.1 q2).1⟩
theorem DL {q q':Nat→Prop}(h:∀ g,q g→q' g){E m:Nat}{Xs:List As}:Wk (LsQ q E m D Xs) (LsQ q' E m D Xs):=λ B v w ⟨h1,h2,⟨ds,h3,h4,h5,h5'⟩,h6⟩=>⟨h1,h2,⟨ds,h3,h4,h5,λ g hg=>h _ (h5' g hg)⟩,λ g hg=>h _ (h6 g hg)⟩
theorem FY {q:Nat→Prop}{E m:Nat}{Xs:List As}(hX:∀ A∈Xs,FreeA A A)(hN:∀ A∈Xs,NewA A){B h lo:Nat}(hB:B≤h)(hlo:lo≤h)(hp:(LsQ q E m D Xs).p h v w):(LsG lo E m D Xs).p B v w :=
 DL (λ g hg=>qd hlo hg.2.1) _ _ _ (rF hX _ _ _ _ hB (DE hN hp))
theorem ls_top {lo:Nat}{E m:Nat}{Xs:List As}(hX:∀ A∈Xs,NewA A)(h:(LsG lo E m D Xs).p B v w):(LsI lo w.heap.size E m D Xs).p B v w:=DL (λ g hg=>⟨hg.1,hg.2.2⟩) _ _ _ (DE hX h)
def ivZ (I:List (Nat × Nat))(Xs:List As):List As:=List.zipWith (λ x A=>IvA x.1 x.2 A) I Xs
def Srt (I:List (Nat × Nat))(top:Nat):Prop:=I.Pairwise (λ x y=>x.2≤y.1)∧∀ x∈I,x.2≤top
theorem EU {t:Nat}:Srt [] t:=⟨.nil,λ x hx=>by cases hx⟩
theorem EV {I:List (Nat × Nat)}{t lo hi:Nat}(h:Srt I t)(h1:t≤lo)(h2:lo≤hi):Srt (I++[(lo,hi)]) hi:=by
 refine ⟨List.pairwise_append.2 ⟨h.1,List.pairwise_singleton ..,λ x hx y hy=>?_⟩,λ x hx=>?_⟩
 ·obtain rfl:=qq.1 hy
  exact qd (h.2 x hx) h1
 ·rcases qw.1 hx with hx | hx
  ·exact qd (h.2 x hx) zo
  ·obtain rfl:=qq.1 hx
   exact qg _
theorem Gd {I:List (Nat × Nat)}{Xs:List As}{lo hi:Nat}{X:As}(h:I.length=Xs.length):ivZ I Xs++[IvA lo hi X]=ivZ (I++[(lo,hi)]) (Xs++[X]):=by
 unfold ivZ
 rw [List.zipWith_append h]
 rfl
theorem yD {I:List (Nat × Nat)}{Xs:List As}(h:I.length=Xs.length):(ivZ I Xs).length=Xs.length:=by unfold ivZ; rw [List.length_zipWith,h]; omega
theorem yC {B:Nat}{w:World}:∀ {I:List (Nat × Nat)} {Xs:List As} {ds:List Value},I.length=Xs.length→I.Pairwise (λ x y=>x.2≤y.1)→(cat (ivZ I Xs)).p B ds w→(cat Xs).p B ds w∧(cbl ds).Nodup∧∀ g∈cbl ds,∃ x∈I,x.1≤g∧g<x.2
 | [],[],ds,_,_,⟨ps,e,hp⟩=>by
  cases hp
  subst e
  exact ⟨⟨[],rfl,.nil⟩,xK,λ g hg=>by cases hg⟩
 | x::I,X::Xs,ds,hl,hs,h=>by
  obtain ⟨ps,e,hp⟩:=(show (cat (IvA x.1 x.2 X::ivZ I Xs)).p B ds w from h)
  cases hp with
  | @cons _ c _ ps h1 hp =>
   obtain ⟨q1,q2,q3⟩:=yC (ds:=ps.flatten) (by simpa using hl) (kW.1 hs).2 ⟨ps,rfl,hp⟩
   obtain ⟨⟨qs,e2,hq⟩⟩:=id (⟨q1⟩:PLift _)
   obtain ⟨p1,p2,p3⟩:=h1
   subst e
   refine ⟨⟨c::qs,by rw [qL,qL,e2],.cons p1 hq⟩,?_,λ g hg=>?_⟩
   ·rw [qL,d6]
    refine xG.2 ⟨p2,q2,λ a ha b hb e=>?_⟩
    subst e
    obtain ⟨y,hy,r1,r2⟩:=q3 a hb
    have r3:=(kW.1 hs).1 y hy
    have r4:=p3 a ha
    omega
   ·rw [qL,d6] at hg
    rcases qw.1 hg with hg | hg
    ·exact ⟨x,by simp,p3 g hg⟩
    ·obtain ⟨y,hy,r⟩:=q3 g hg
     exact ⟨y,by simp [hy],r⟩
theorem own_up {b E m h:Nat}{l:List As}{X:As}(hX:NewA X)(hp:(OwnR b E m D (l++[GeA h X])).p B v w):(OwnR b E m D (l++[IvA h w.heap.size X])).p B v w:=by
 obtain ⟨h1,h2,ds,⟨ps,e,hc⟩,h4⟩:=hp
 have hcg:∀ {l:List As} {ps:List (List Value)},All2 (λ (A:As) c=>A.p B c w) (l++[GeA h X]) ps→All2 (λ (A:As) c=>A.p B c w) (l++[IvA h w.heap.size X]) ps:=λ {l}=>by
  induction l with
  | nil =>
   intro ps hc
   cases hc with
   | cons q1 q2 =>
    cases q2
    exact .cons ⟨q1.1,q1.2.1,λ g hg=>⟨q1.2.2 g hg,(hX _ _ _ q1.1 g hg).2⟩⟩ .nil
  | cons A l ih =>
   intro ps hc
   cases hc with
   | cons q1 q2=>exact .cons q1 (ih q2)
 refine ⟨λ A hA=>?_,λ A hA=>?_,ds,⟨ps,e,hcg hc⟩,?_⟩
 ·rcases qw.1 hA with hA | hA
  ·exact h1 A (by simp [hA])
  ·obtain rfl:=qq.1 hA
   exact h1 (GeA h X) (by simp)
 ·rcases qw.1 hA with hA | hA
  ·exact h2 A (by simp [hA])
  ·obtain rfl:=qq.1 hA
   exact h2 (GeA h X) (by simp)
 ·simpa using h4
theorem FA {b E m:Nat}{I:List (Nat × Nat)}{Xs:List As}{top:Nat}(hl:I.length=Xs.length)(hs:Srt I top):∀ {B:Nat} {v:Value} {w:World},B≤b→(OwnR b E m D (ivZ I Xs)).p B v w→(LsN E m D Xs).p B v w:=λ {B v w} hb ⟨h1,h2,ds,h3,h4⟩=>by
 obtain ⟨q1,q2,q3⟩:=yC hl hs.1 h3
 have hmem:∀ {I:List (Nat × Nat)} {Xs:List As},I.length=Xs.length→∀ A∈Xs,∃ x:Nat × Nat,IvA x.1 x.2 A∈ivZ I Xs:=λ {I}=>by
  induction I with
  | nil=>intro Xs hl A hA; cases Xs with | nil=>cases hA | cons=>cases hl
  | cons x I ih =>
   intro Xs hl A hA
   cases Xs with
   | nil=>cases hA
   | cons X Xs =>
    rcases qo.1 hA with rfl | hA
    ·exact ⟨x,xA ..⟩
    ·obtain ⟨y,hy⟩:=ih (by simpa using hl) A hA
     exact ⟨y,zi _ hy⟩
 refine ⟨λ A hA=>?_,λ A hA=>?_,⟨ds,q1,?_,q2,λ _ _=>trivial⟩,λ _ _=>trivial⟩
 ·obtain ⟨x,hx⟩:=hmem hl A hA; have:=h1 _ hx; exact this
 ·obtain ⟨x,hx⟩:=hmem hl A hA; have:=h2 _ hx; exact this
 ·rw [yD hl] at h4
  refine ⟨h4.1,?_⟩
  rcases h4.2 with h | ⟨g,cap,cur,e1,e2,e3⟩
  ·exact .inl h
  ·exact .inr ⟨g,cap,cur,e1,qd hb e2,e3⟩
def lsP {α:Type}(z:α)(AP:α→(Nat→Value)→As)(ms:Nat→Nat→Value)(xs:List α):List As:=(List.range xs.length).map λ j=>AP (xs.getD j z) (ms j)
def lsK {α:Type}(z:α)(kx:α→(Nat→Value)→KL)(ms:Nat→Nat→Value)(xs:List α)(i:Nat):KL:=((List.range i).map λ j=>kx (xs.getD j z) (ms j)).flatten
theorem lsK_0 {α:Type}{z:α}{kx:α→(Nat→Value)→KL}{ms:Nat→Nat→Value}{xs:List α}:lsK z kx ms xs 0=[]:=rfl
theorem pf {α:Type}{z:α}{kx:α→(Nat→Value)→KL}{ms:Nat→Nat→Value}{xs:List α}{i:Nat}:lsK z kx ms xs (i+1)=lsK z kx ms xs i++kx (xs.getD i z) (ms i):=by
 unfold lsK
 rw [List.range_succ,zF,jc]
 simp
theorem nL {α:Type}{z:α}{AP:α→(Nat→Value)→As}{ms:Nat→Nat→Value}{xs:List α}:(lsP z AP ms xs).length=xs.length:=by unfold lsP; simp
theorem lsP_at {α:Type}{z:α}{AP:α→(Nat→Value)→As}{ms:Nat→Nat→Value}{xs:List α}{i:Nat}(h:i<xs.length):(lsP z AP ms xs)[i]?=some (AP (xs.getD i z) (ms i)):=by
 unfold lsP
 rw [List.getElem?_map,List.getElem?_range h]
 rfl
theorem rp {α:Type}{z:α}{AP:α→(Nat→Value)→As}{ms:Nat→Nat→Value}{xs:List α}{p:As→Prop}(h:∀ x m,p (AP x m)):∀ A∈lsP z AP ms xs,p A:=λ A hA=>by
 obtain ⟨j,_,rfl⟩:=qm.1 hA
 exact h _ _
theorem sR {α:Type}{z:α}{AN:α→As}{AP:α→(Nat→Value)→As}{kx:α→(Nat→Value)→KL}(hs:∀ {x:α} {B:Nat} {cs:List Value} {w:World},(AN x).p B cs w→∃ m,(AP x m).p B cs w∧cbl cs=kbl (kx x m)∧OkK (kx x m)){B:Nat}{w:World} :
  ∀ {xs:List α} {ds:List Value},(cat (xs.map AN)).p B ds w→∃ ms,(cat (lsP z AP ms xs)).p B ds w∧cbl ds=kbl (lsK z kx ms xs xs.length)∧OkK (lsK z kx ms xs xs.length)
 | [],ds,⟨ps,e,hp⟩=>by
  cases hp
  subst e
  exact ⟨λ _ _=>undef,⟨[],rfl,.nil⟩,rfl,λ p hp=>by cases hp⟩
 | x::xs,ds,⟨ps,e,hp⟩=>by
  cases hp with
  | @cons _ c _ ps h1 hp =>
   obtain ⟨m,p1,e1,o1⟩:=hs h1
   obtain ⟨ms,⟨qs,e2,hq⟩,e3,o3⟩:=sR hs (xs:=xs) (ds:=ps.flatten) ⟨ps,rfl,hp⟩
   have hP:lsP z AP (λ j=>match j with | 0=>m | j+1=>ms j) (x::xs)=AP x m::lsP z AP ms xs:=by
    unfold lsP
    rw [qR,List.range_succ_eq_map,qX,jg]
    rfl
   have hK:lsK z kx (λ j=>match j with | 0=>m | j+1=>ms j) (x::xs) (x::xs).length=kx x m++lsK z kx ms xs xs.length:=by
    unfold lsK
    rw [qR,List.range_succ_eq_map,qX,jg,qL]
    rfl
   refine ⟨λ j=>match j with | 0=>m | j+1=>ms j,?_,?_,?_⟩
   ·rw [hP]
    exact ⟨c::qs,by rw [e,qL,qL,e2],.cons p1 hq⟩
   ·rw [hK,e,qL,d6,e1,e3,kbl_app]
   ·rw [hK]
    exact fN o1 o3
def LsP (E m:Nat)(D:List TypeId)(l:List As)(v:Value):VA where
 p B u w:=u=v∧(OwnR B E m D l).p B u w
 deps:=E::D
 cg:=λ B u w w' hg h=>⟨h.1,(OwnR B E m D l).cg _ _ _ _ hg h.2⟩
 wr:=λ B u w w' g c T fz h1 h2 h3 h4 h=>⟨h.1,(OwnR B E m D l).wr _ _ _ _ _ _ _ _ h1 h2 h3 h4 h.2⟩
theorem lsp_ow {E m:Nat}{l:List As}{n:Nat}(hn:l.length=n):Wk (LsP E m D l v) (OwV E m v n):=λ B u w ⟨h,_,_,ds,_,h4⟩=>by
 subst h hn
 exact ⟨rfl,ds,h4⟩
theorem DK {E m:Nat}{l:List As}:Wk (LsP E m D l v) (SlA E D l).va:=λ B u w ⟨_,h⟩=>ii _ _ _ h
theorem St.nameLs {α:Type}{z:α}{AN:α→As}{AP:α→(Nat→Value)→As}{kx:α→(Nat→Value)→KL}(hs:∀ {x:α} {B:Nat} {cs:List Value} {w:World},(AN x).p B cs w→∃ m,(AP x m).p B cs w∧cbl cs=kbl (kx x m)∧OkK (kx x m))
  {B N:Nat} {w0:Bs} {Γ:List (Nat × VA)} {Λ:List Lc} {a:Act} {w:World} {s E m:Nat} {D:List TypeId} {q:Nat→Prop} {xs:List α} (hn:∀ x m',(AP x m').n=m) (hd:∀ x m',∀ T∈(AP x m').deps,T∈D) (h:St B w0 N Γ Λ a w) (k:Nat) (hm:Γ[k]?=some (s,LsQ q E m D (xs.map AN))) :
  ∃ v ms,(kbl (lsK z kx ms xs xs.length)).Nodup∧(∀ g∈kbl (lsK z kx ms xs xs.length),q g)∧OkK (lsK z kx ms xs xs.length)∧(∀ g,v.ownBlock=some g→q g)∧St B w0 N (Γ.set k (s,LsP E m D (lsP z AP ms xs) v)) Λ a w:=by
 obtain ⟨h1,h2,⟨ds,h3,h4,h5,h6⟩,h7⟩:=h.getG k hm
 obtain ⟨ms,p1,e1,o1⟩:=sR (z:=z) hs h3
 refine ⟨a.eval (.tmp s),ms,by rw [← e1]; exact h5,λ g hg=>h6 g (by rw [e1]; exact hg),o1,h7,h.setG k hm λ _=>⟨rfl,rp hn,rp hd,ds,p1,?_⟩⟩
 rw [nL]
 rw [qi] at h4
 exact h4
def reO:RE:=⟨0,rf0,rf0⟩
def REN (x:RE):As:=cat [NumA .u8 x.k,RFN x.p,RFN x.q]
theorem rl {x:RE}:NewA (REN x):=lC λ A hA=>by
 simp at hA
 rcases hA with rfl | rfl | rfl
 ·exact FM _ _
 ·exact lB
 ·exact lB
theorem oa {x:RE}:FreeA (REN x) (REN x):=bZ (.cons (cH _ _) (.cons iM (.cons iM .nil)))
theorem wq {x:RE}:WkA (REN x) (REA x):=bz (.cons (.refl _) (.cons wj (.cons wj .nil)))
theorem rR {k:IntKind}{n:Int}(h:(NumA k n).p B cs w):cbl cs=[]:=by
 have h':cs=[.int k n]:=h
 subst h'
 rfl
theorem Af {x:RE}(h:(REN x).p B cs w):∃ m:Nat→Value,(EleP x m).p B cs w∧cbl cs=kbl (ke x m)∧OkK (ke x m):=by
 obtain ⟨ps,rfl,hp⟩:=h
 cases hp with
 | @cons _ c0 _ _ h0 hp=>cases hp with
  | @cons _ c1 _ _ h1 hp=>cases hp with
   | @cons _ c2 _ _ h2 hp =>
    cases hp
    obtain ⟨m1,m2,p1,e1,o1⟩:=fx h1
    obtain ⟨m3,m4,p2,e2,o2⟩:=fx h2
    refine ⟨nm4 m1 m2 m3 m4,⟨[c0,c1,c2],rfl,.cons h0 (.cons p1 (.cons p2 .nil))⟩,?_,fN o1 o2⟩
    have:([c0,c1,c2]:List (List Value)).flatten=c0++(c1++c2):=by simp
    rw [this,d6,d6,rR h0,e1,e2]
    exact kbl_app.symm
theorem CE (x:RE)(m:Nat→Value):∀ T∈(EleP x m).deps,T∈[U32]:=λ T hT=>by
 have h:=qc.1 (show ((EleP x m).deps.all λ T=>[U32].contains T)=true by kernel_rfl) T hT
 simpa using h
theorem d5 {ms:Nat→Nat→Value}{xs:List RE}:∀ {i:Nat},(lsK reO ke ms xs i).length=4*i
 | 0=>rfl
 | i+1=>by rw [pf,qn,d5]; simp only [qn,qR,zy]; omega
theorem nr {ms:Nat→Nat→Value}{xs:List RE}{K:KL}{i:Nat}(hi:i<xs.length)(h:(kbl (K++lsK reO ke ms xs xs.length)).Nodup):(kbl ((K++lsK reO ke ms xs i)++ke (xs.getD i reO) (ms i))).Nodup:=by
 have key:∀ d,i+1+d=xs.length→(kbl (K++lsK reO ke ms xs (i+1))).Nodup:=λ d hd=>by
  have:∀ d n,(kbl (K++lsK reO ke ms xs (n+d))).Nodup→(kbl (K++lsK reO ke ms xs n)).Nodup:=λ d=>by
   induction d with
   | zero=>exact λ n h=>h
   | succ d ih=>exact λ n h=>ih n (by rw [← x9,pf,← qD] at h; exact sO h)
  exact this d _ (by rw [hd]; exact h)
 have:=key (xs.length-(i+1)) zo
 rwa [pf,← qD] at this
theorem yz {ms:Nat→Nat→Value}{xs:List RE}(K:KL)(Rs Es:VL)(hs:(kbl (K++lsK reO ke ms xs xs.length)).Nodup)(hv:∀ p∈Es,∀ g,p.1.ownBlock=some g→v.ownBlock≠some g)(hl:K.length+4*xs.length+Rs.length+Es.length≤999900):CK Tryz.prog 19 61 [61,127,125] (BkF (K) Rs Es) (BkF (K++lsK reO ke ms xs xs.length) Rs (Es++[(v,xs.length)])) [LsP 92 9 [U32] (lsP reO EleP ms xs) v] (Tu []):=by
 refine CK.intro Tryz.func19 G zk nq zk (λ B g w0 a hrm U=>?_)
 have U:=zn [(0,EqV ((ptrH).f g)),(1,LsP 92 9 [U32] (lsP reO EleP ms xs) v)] [⟨0,61,ptrH,BkF (K) Rs Es⟩] U
 refine qb<|qb<|zg [η] [] [.v 4 _] [.g 0,.g 1,.o 0] U (zv G (a9 a8) o0) (zz [(0,_),(1,_),(4,_)] [O 0 61 _] λ a w U=>?_)
 refine a7<|ql ?_
 have U:=St.sel U [0,1,2]
 refine wp_loop_ghost (λ n a w=>∃ (i:Nat),n+i=xs.length∧St B w0 20 [(0,EqV (ptrH.f g)),(1,LsP 92 9 [U32] (lsP reO EleP ms xs) v),(4,In (i:Nat))] [⟨0,61,ptrH,BkF (K++lsK reO ke ms xs i) Rs Es⟩] a w) (xs.length) ?_ ?_
 ·exact ⟨0,by omega,St.cvA U 0 G (qk (λ k=>BkF k Rs Es) (show K=K++lsK reO ke ms xs 0 by rw [lsK_0,zp]))⟩
 intro n a w hI
 obtain ⟨i,hn,U⟩:=hI
 refine qb<|qb<|zg [η] [] [.v 5 _,.v 6 _,.v 7 _,.v 8 _] [.g 0,.g 1,.g 2,.o 3] U (zM 2 G (zM 1 G (zv G (bh Tryz.underlying38 (has_wk' (vq 1 G) DK)) (zv G (aK (vq 0 G) (vq 2 G)) o0)))) (zz [(0,_),(1,_),(4,_),(8,_)] [O 0 61 _] λ a w U=>?_)
 refine a7<|ae U (zm 3 G) (λ hb0=>?_) (λ hb0=>?_)
 ·have hi:i<xs.length:=by have:=qt hb0; rw [nL] at this; omega
  refine qh<|zt<|ql<|bN (sp:=[.v 11 _,.v 12 _,.v 13 _,.v 14 _,.v 15 _,.v 16 VT]) 5 1 99 5 OneC [.g 0,.g 1,.g 2,.o 0,.o 4] U (zM 0 G (zM 1 G (zM 2 G (zv G (cv mj (rp λ _ _=>rfl) (has_wk' (vq 1 G) DK) (vq 2 G) (lsP_at hi)) (zv G (aq (vq 3 G) er) o0))))) G zd zk zk (zz [(0,_),(1,_),(4,_),(11,_),(15,_)] [O 0 61 _] λ a w U=>?_)
  rw [show List.range' 5 1=[5] from rfl]
  rw [qv]
  refine d8 (A1:=BkF ((K++lsK reO ke ms xs i)++ke (xs.getD i reO) (ms i)) Rs Es) (xs:=[.tmp 15]) [0,1,2] [4] 0 G U (CK.wkT (yB (xs.getD i reO) (ms i) (K++lsK reO ke ms xs i) Rs Es (nr hi hs) (by rw [qn,d5]; omega)) zd) G (zV (b:=ptr g) (U.vals _ (zm 3 G)) (x4 (U.vals _ (zm 0 G)))) (.cons ⟨_,rfl,rfl⟩ .nil) G hrm zd zk zk zk zk (λ a w U=>?_)
  refine bC ?_
  have U:=zn [(16,_),(0,_),(1,_),(4,_)] [⟨0,61,ptrH,BkF ((K++lsK reO ke ms xs i)++ke (xs.getD i reO) (ms i)) Rs Es⟩] U
  refine am ?_
  refine a7<|zg [η] [] [.v 9 _,.v 10 _,.v 4 _] [.g 1,.g 2,.o 2] U (zM 3 G (zv G (aQ (vq 0 G) a8 (aW zo)) (zA 1 G o0))) (zz [(0,_),(1,_),(4,_)] [O 0 61 _] λ a w U=>?_)
  refine a7 ?_
  have U:=St.sel U [0,1,2]
  exact ⟨n-1,by omega,i+1,by omega,St.cvA U 0 G (qk (λ k=>BkF k Rs Es) (show (K++lsK reO ke ms xs i)++ke (xs.getD i reO) (ms i)=K++lsK reO ke ms xs (i+1) by rw [pf,qD]))⟩
 ·obtain rfl:i=xs.length:=by have:=qr hb0; rw [nL] at this; omega
  refine qK<|ah<|ah<|ay<|a7<|bN (sp:=[.v 17 _,.v 18 _,.v 19 VT]) 2 1 99 2 OneC [.g 0,.g 1,.o 0,.o 1] U (zM 0 G (zv G (ab (has_wk' (gq 1 G) (lsp_ow nL))) o0)) G zd zk zk (zz [(0,_),(1,_),(17,_),(18,_)] [O 0 61 _] λ a w U=>?_)
  rw [show List.range' 2 1=[2] from rfl]
  rw [qv]
  refine d8 (A1:=BkF (K++lsK reO ke ms xs xs.length) Rs (Es++[(v,xs.length)])) (xs:=[.tmp 18]) [0,1] [3] 0 G U (CK.wkT (C7 (K++lsK reO ke ms xs xs.length) Rs Es v xs.length hv (by rw [qn,d5]; omega)) zd) G (zV (b:=ptr g) (U.vals _ (zm 2 G)) (x4 (U.vals _ (zm 0 G)))) (.cons ⟨_,rfl,rfl⟩ .nil) G hrm zd zk zk zk zk (λ a w U=>?_)
  refine bC ?_
  have U:=zn [(19,_),(0,_),(1,_)] [⟨0,61,ptrH,BkF (K++lsK reO ke ms xs xs.length) Rs (Es++[(v,xs.length)])⟩] U
  refine cc<|fG U (zm 1 G) (zm 0 G) ?_
  exact aE (rs:=[]) G U .nil zd
theorem Er:WkA (cat ZBk) (BkF [] [] []):=⟨rfl,rfl,λ B cs w ⟨ps,e,hp⟩=>by
 refine ⟨⟨0,.slice none 0 0,[],.slice none 0 0,[],.slice none 0 0,[]⟩,.slice none 0 0,[],⟨rfl,rfl,⟨rfl,λ s hs=>by cases hs⟩,⟨rfl,λ s hs=>by cases hs⟩,⟨rfl,λ s hs=>by cases hs⟩⟩,ps,e,?_⟩
 have hk:∀ {H E m:Nat} {c:List Value},(EqS (.slice none 0 0)).p B c w→(HkA H E m (.slice none 0 0) []).p B c w:=λ {H E m c} h=>⟨h.1,World.ownsRow_nil ..,(λ s hs=>by cases hs),λ i j s t h=>by cases h⟩
 cases hp with
 | cons h1 hp=>cases hp with
  | cons h2 hp=>cases hp with
   | cons h3 hp =>
    refine .cons h1 (.cons ⟨h2.1,World.ownsRow_nil ..,(λ s hs=>by cases hs),λ i j s t h=>by cases h⟩ (.cons (hk h3) ?_))
    iterate 5 (cases hp; rename_i h3 hp; refine .cons h3 ?_)
    cases hp; rename_i h3 hp; refine .cons (hk h3) ?_
    cases hp; rename_i h3 hp; refine .cons (hk h3) ?_
    iterate 7 (cases hp; rename_i h3 hp; refine .cons h3 ?_)
    cases hp
    exact .nil⟩
theorem sZ {x:RI}{m:Value}:WkA (IntP x m) (RIA x):=(show WkA (IntP x m) (RIN x) from bz (.cons (.refl _) (.cons pin_wk .nil))).trans wkA_riN
theorem yR {x:RF}{m1 m2:Value}:WkA (FracP x m1 m2) (RFA x):=bz (.cons sZ (.cons sZ .nil))
theorem lnK_e {x:RE}{m:Nat→Value}(h:bdF x.p∧bdF x.q):LnK (ke x m):=fQ (C5 h.1) (C5 h.2)
theorem lnK_ls {ms:Nat→Nat→Value}{xs:List RE}(h:∀ x∈xs,bdF x.p∧bdF x.q):LnK (lsK reO ke ms xs xs.length):=by
 have key:∀ i,i≤xs.length→LnK (lsK reO ke ms xs i):=λ i=>by
  induction i with
  | zero=>exact λ _ p hp=>by cases hp
  | succ i ih =>
   intro hi
   rw [pf]
   refine fQ (ih zo) (lnK_e (h _ ?_))
   rw [List.getD_eq_getElem?_getD,List.getElem?_eq_getElem zo]
   exact qf _
 exact key _ (qg _)
theorem FX {q:Nat→Prop}{E m:Nat}{xs:List RE}:Wk (LsQ q E m [U32] (xs.map REN)) (SlA E [U32] (xs.map REA)).va:=bO ya (vO (iJ λ x=>wq) (cz (p:=λ A=>∀ T∈A.deps,T∈[U32]) λ x=>iH zk)).va
def OwI (b E m:Nat)(D:List TypeId)(l:List As):VA where
 p B v w:=∃ (I:List (Nat × Nat)) (top:Nat),I.length=l.length∧Srt I top∧top≤w.heap.size∧(OwnR b E m D (ivZ I l)).p B v w
 deps:=E::D
 cg:=λ B v w w' hg ⟨I,top,h1,h2,h3,h4⟩=>⟨I,top,h1,h2,qd h3 hg.le,(OwnR b E m D (ivZ I l)).cg _ _ _ _ hg h4⟩
 wr:=λ B v w w' g c T fz q1 q2 q3 q4 ⟨I,top,h1,h2,h3,h4⟩=>⟨I,top,h1,h2,by rw [q4.size]; exact h3,(OwnR b E m D (ivZ I l)).wr _ _ _ _ _ _ _ _ q1 q2 q3 q4 h4⟩
theorem FC {b E m:Nat}:Wk (OwnR b E m D []) (OwI b E m D []):=λ B v w h=>⟨[],0,rfl,EU,za _,h⟩
section
variable {B N:Nat} {w0:Bs} {Γ:List (Nat × VA)} {Λ:List Lc} {a:Act} {w:World}
theorem St.openI {s b E m:Nat}{l:List As}(h:St B w0 N Γ Λ a w)(k:Nat)(hm:Γ[k]?=some (s,OwI b E m D l)):∃ (I:List (Nat × Nat)) (top:Nat),I.length=l.length∧Srt I top∧top≤w.heap.size∧St B w0 N (Γ.set k (s,OwnR b E m D (ivZ I l))) Λ a w:=by
 obtain ⟨I,top,h1,h2,h3,h4⟩:=h.getG k hm
 exact ⟨I,top,h1,h2,h3,h.setG k hm λ _=>h4⟩
theorem St.closeI {s sg b E m h1 top:Nat}{l:List As}{I:List (Nat × Nat)}{X:As}(hX:NewA X)(hl:I.length=l.length)(hs:Srt I top)(ht:top≤h1)(h:St B w0 N Γ Λ a w)(k kg:Nat)(hm:Γ[k]?=some (s,OwnR b E m D (ivZ I l++[GeA h1 X])))(hg:Γ[kg]?=some (sg,SzV h1)):St B w0 N (Γ.set k (s,OwI b E m D (l++[X]))) Λ a w :=
 h.setG k hm λ hp=>⟨I++[(h1,w.heap.size)],w.heap.size,by rw [qn,qn,hl]; rfl,EV hs ht (h.getG kg hg),qg _,by rw [← Gd hl]; exact own_up hX hp⟩
theorem St.lsN {s E m:Nat}{l:List As}(h:St B w0 N Γ Λ a w)(k:Nat)(hm:Γ[k]?=some (s,OwI w0.w.heap.size E m D l)):St B w0 N (Γ.set k (s,LsN E m D l)) Λ a w :=
 h.setG k hm λ⟨I,top,h1,h2,_,h4⟩=>FA h1 h2 (h.lo _ (.inl (qg _))) h4
end
theorem DC {q:Nat→Prop}{E m:Nat}:Wk (EqV (.slice none 0 0)) (LsQ q E m D []):=λ B v w h=>by
 have h':v=.slice none 0 0:=h
 subst h'
 exact ⟨λ A hA=>(by cases hA),λ A hA=>(by cases hA),⟨[],⟨[],rfl,.nil⟩,World.ownsRow_nil ..,xK,λ g hg=>(by cases hg)⟩,λ g hg=>by cases hg⟩
section
open Rg
variable {P:Program} {Q:Exit→Act→World→Prop} {R:Rg} {B i:Nat} {w0:Bs}
theorem wA {f h s E m:Nat}{Xs:List As}{C:As}{pre pre':List VA}{xs:List Operand}{at_:Array TypeId}(hc:Cn P f pre' (Tu [LsN E m D Xs,C.va]))(hN:∀ A∈Xs,NewA A)(hF:∀ A∈Xs,FreeA A A)(hfC:FreeA C C)(hup:All2 Up pre pre')(hx:HasL R B w0 i xs pre)(hs:Has R B w0 i (.tmp s) (SzV h)):Wv P Q R B w0 i (.call ⟨.value (.func f),xs.toArray,at_⟩) (Tu [LsG h E m D Xs,C.va]):=by
 intro d T ps af gd a w av K hK
 obtain ⟨⟨fn,hf,hn,hb⟩,hcall⟩:=hc
 have hrun:(execOp a.eval ⟨some d,.call ⟨.value (.func f),xs.toArray,at_⟩,T,ps,af,gd⟩).run P w=.ok (.enter f (xs.map a.eval).toArray) w:=by
  simp only [execOp,resolve,Act.eval,Deferred.ofValue,Sem.run_bind,Sem.run_pure,Result.andThen_ok,invoke,be hf hn hb]
  simp
 have hsz:h≤w.heap.size:=hs a w av
 unfold Oper.wp
 rw [hrun]
 refine (hcall w.heap.size w _ (qg _) (rW hup hx av)).mono ?_
 rintro e w' ⟨v,rfl,⟨vs,hv,h2⟩,hg⟩
 cases h2 with
 | @cons _ x _ vs h2 h3=>cases h3 with
  | @cons _ y _ vs h3 h4 =>
   cases h4
   obtain ⟨ds,hq,hsq⟩:=h3
   exact hK v w' hg ⟨[x,y],hv,.cons (FY hF hN (Av.bw av) hsz h2) (.cons ⟨ds,hfC.2.2 _ _ _ _ (Av.bw av) hq,hsq⟩ .nil)⟩
end
open Go.ChangeShapes Go.WideShapes Go.ChangeAt
structure RGp where
 lo:RF
 hi:RF
 deriving DecidableEq
structure RLo where
 k:Int
 p:RGp
 q:RGp
 deriving DecidableEq
def GpA (x:RGp):As:=cat [RFA x.lo,RFA x.hi]
def LoA (x:RLo):As:=cat [NumA .u8 x.k,GpA x.p,GpA x.q]
abbrev gp0:RGp:=⟨rf0,rf0⟩
theorem Cc (B:Nat)(w:World):(GpA gp0).p B [.bool false,.slice none 0 0,.bool false,.slice none 0 0,.bool false,.slice none 0 0,.bool false,.slice none 0 0] w:=⟨[[.bool false,.slice none 0 0,.bool false,.slice none 0 0],[.bool false,.slice none 0 0,.bool false,.slice none 0 0]],rfl,.cons (l7 B w) (.cons (l7 B w) .nil)⟩
theorem bL:Str Tryz.prog 32 [RFA rf0,RFA rf0] :=
 Str.of (z:=.agg #[.bool false,.slice none 0 0,.bool false,.slice none 0 0,.bool false,.slice none 0 0,.bool false,.slice none 0 0]) zk Tryz.underlying32 zk λ B w=>⟨[[.bool false,.slice none 0 0,.bool false,.slice none 0 0],[.bool false,.slice none 0 0,.bool false,.slice none 0 0]],rfl,.cons (l7 B w) (.cons (l7 B w) .nil)⟩
theorem cU:Str Tryz.prog 69 [NumA .u8 0,GpA gp0,GpA gp0] :=
 Str.of (z:=.agg #[.int .u8 0,.bool false,.slice none 0 0,.bool false,.slice none 0 0,.bool false,.slice none 0 0,.bool false,.slice none 0 0,.bool false,.slice none 0 0,.bool false,.slice none 0 0,.bool false,.slice none 0 0,.bool false,.slice none 0 0]) zk Tryz.underlying69 zk λ B w=>⟨[[.int .u8 0],[.bool false,.slice none 0 0,.bool false,.slice none 0 0,.bool false,.slice none 0 0,.bool false,.slice none 0 0],[.bool false,.slice none 0 0,.bool false,.slice none 0 0,.bool false,.slice none 0 0,.bool false,.slice none 0 0]],rfl,.cons rfl (.cons (Cc B w) (.cons (Cc B w) .nil))⟩
theorem tM:Arr Tryz.prog 104 [GpA gp0,GpA gp0]:=by
 have hz:((Tryz.prog.info? 104).bind (·.zero))=some (.agg #[.bool false,.slice none 0 0,.bool false,.slice none 0 0,.bool false,.slice none 0 0,.bool false,.slice none 0 0,.bool false,.slice none 0 0,.bool false,.slice none 0 0,.bool false,.slice none 0 0,.bool false,.slice none 0 0]):=by kernel_rfl
 obtain ⟨it,e1,e2⟩:=xV.1 hz
 have h:(Tryz.prog.info? 32).map (·.size)=some 8:=by kernel_rfl
 obtain ⟨ie,h1,h2⟩:∃ ie,Tryz.prog.info? 32=some ie∧ie.size=8:=by
  cases hi:Tryz.prog.info? 32 with
  | none=>rw [hi] at h; simp at h
  | some ie=>rw [hi] at h; exact ⟨ie,rfl,by simpa using h⟩
 refine ⟨it,_,2,32,ie,e1,e2,Tryz.underlying104,h1,?_,λ B w=>⟨[[.bool false,.slice none 0 0,.bool false,.slice none 0 0,.bool false,.slice none 0 0,.bool false,.slice none 0 0],[.bool false,.slice none 0 0,.bool false,.slice none 0 0,.bool false,.slice none 0 0,.bool false,.slice none 0 0]],rfl,.cons (Cc B w) (.cons (Cc B w) .nil)⟩⟩
 rw [h2]
 intro f hf
 match f,hf with
 | 0,_=>rfl
 | 1,_=>rfl
theorem D7 (x:RGp):UpA (GpA x) (GpA x):=iq (.cons (fW _) (.cons (fW _) .nil))
theorem eH (x:RLo):UpA (LoA x) (LoA x):=iq (.cons (mt _ _) (.cons (D7 _) (.cons (D7 _) .nil)))
section
variable {H:Type} {enc:TypeId × Value→H} {w:World} {base:Nat} {spare:Nat→Bool} {held:Bool} {fuel:Nat} {cs:List Value} {x:DataW H × List MemPlace}
theorem cat_two' {A0 A1:As}(h0:A0.p B ((cs.drop 0).take A0.n) w)(h1:A1.p B ((cs.drop A0.n).take A1.n) w)(hl:cs.length=A0.n+A1.n):(cat [A0,A1]).p B cs w :=
 tJ (by simpa using hl) λ k A hk=>by
  match k,hk with
  | 0,hk=>simp at hk; subst hk; exact h0
  | 1,hk=>simp at hk; subst hk; simpa [offs] using h1
end
def mayG (x:RGp):Bool:=[x.lo,x.hi].all okX&&decide (cmQ (toQ x.lo) (toQ x.hi)≤0)
def ptF (x:RGp):Bool:=cmQ (toQ x.lo) (toQ x.hi)==0
def loF (x:RLo):Bool:=(mayG x.p&&mayG x.q)&&(chF [⟨x.k,x.p.lo,x.q.lo⟩,⟨x.k,x.p.hi,x.q.hi⟩]==0)
def gpL (g:RGp):Nat:=if ptF g then 0 else 1
def lsI (x:RLo)(i:Nat):Nat:=if i=0 then 0 else if i=1 then gpL x.p else gpL x.p+gpL x.q
def gAt (x:RLo)(i:Nat):RGp:=if i=0 then x.p else x.q
def manyF (xs:List RLo):Nat:=(xs.map λ x=>gpL x.p+gpL x.q).sum
def tchF (xs:List RLo):Int:=if xs.length>4096 then 4 else if xs.all loF then (if manyF xs>12 then 4 else 0) else 1
theorem cmp_x {x y:RF}(h:[x,y].all okX=true):Cn Tryz.prog 35 [(RFA x).va,(RFA y).va] (In (cmQ (toQ x) (toQ y))):=by
 simp only [xr,xP,xR,qj] at h
 exact (Aq (c:=2048) (d:=2048) zd).wk (.cons (qa_x h.1 (qg _)).va (.cons (qa_x h.2 (qg _)).va .nil))
theorem nJ {g:RGp}(h:mayG g=true):[g.lo,g.hi].all okX=true:=by unfold mayG at h; rw [qj] at h; exact h.1
theorem sS {x:RLo}{i:Nat}(h:loF x=true):mayG (gAt x i)=true:=by
 unfold loF at h
 rw [qj,qj] at h
 unfold gAt
 split
 ·exact h.1.1
 ·exact h.1.2
theorem gs_at {x:RLo}{i:Nat}(h:i<2):[GpA x.p,GpA x.q][i]?=some (GpA (gAt x i)) :=
 match i,h with
 | 0,_=>rfl
 | 1,_=>rfl
theorem lsI_1 {x:RLo}{i:Nat}(hi:i<2)(h:(!ptF (gAt x i))=true):lsI x (i+1)=lsI x i+1:=by
 have h':ptF (gAt x i)=false:=by simpa using h
 match i,hi with
 | 0,_ => 
  have h0:ptF x.p=false:=h'
  simp [lsI,gpL,h0]
 | 1,_ =>
  have h0:ptF x.q=false:=h'
  simp [lsI,gpL,h0]
theorem lsI_0 {x:RLo}{i:Nat}(hi:i<2)(h:(!ptF (gAt x i))=false):lsI x (i+1)=lsI x i:=by
 have h':ptF (gAt x i)=true:=by simpa using h
 match i,hi with
 | 0,_ => 
  have h0:ptF x.p=true:=h'
  simp [lsI,gpL,h0]
 | 1,_ =>
  have h0:ptF x.q=true:=h'
  simp [lsI,gpL,h0]
theorem mN (g:RGp):gpL g≤1:=by unfold gpL; split <;> omega
theorem mK (x:RLo)(i:Nat):lsI x i≤2:=by
 have h1:=mN x.p
 have h2:=mN x.q
 unfold lsI
 split
 ·omega
 ·split <;> omega
theorem FV (xs:List RLo):manyF xs≤2*xs.length:=by
 induction xs with
 | nil=>exact qg _
 | cons x xs ih =>
  have h1:=mN x.p
  have h2:=mN x.q
  have e:manyF (x::xs)=gpL x.p+gpL x.q+manyF xs:=by simp [manyF]
  rw [e,qR]
  omega
theorem ro {xs:List RLo}{j:Nat}(h:j<xs.length):manyF (xs.take (j+1))=manyF (xs.take j)+lsI xs[j] 2:=by
 rw [qx h]
 unfold manyF
 rw [zF,List.sum_append]
 simp [lsI]
theorem dF (xs:List RLo)(j:Nat):manyF (xs.take j)≤2*xs.length:=qd (FV _) (by rw [zj]; omega)
theorem pT {xs:List RLo}{j:Nat}(h4:¬ xs.length>4096)(hj:j<xs.length)(h:loF xs[j]=false):tchF xs=1:=by
 unfold tchF
 rw [qA h4,qA]
 intro hh
 rw [qc.1 hh _ (qf hj)] at h
 cases h
theorem DN {x:RLo}(h:((!mayG x.p) || (!mayG x.q))=true):loF x=false:=by
 unfold loF
 cases h1:mayG x.p <;> cases h2:mayG x.q <;> simp_all
theorem lo_no2 {x:RLo}(h:(chF [⟨x.k,x.p.lo,x.q.lo⟩,⟨x.k,x.p.hi,x.q.hi⟩] != 0)=true):loF x=false:=by
 unfold loF
 rw [show (chF [⟨x.k,x.p.lo,x.q.lo⟩,⟨x.k,x.p.hi,x.q.hi⟩]==0)=false from by simpa using h,kc]
theorem lo_yes {x:RLo}(h1:((!mayG x.p) || (!mayG x.q))=false)(h2:(chF [⟨x.k,x.p.lo,x.q.lo⟩,⟨x.k,x.p.hi,x.q.hi⟩] != 0)=false):loF x=true:=by
 unfold loF
 simp only [qN,jS] at h1
 rw [h1.1,h1.2,show (chF [⟨x.k,x.p.lo,x.q.lo⟩,⟨x.k,x.p.hi,x.q.hi⟩]==0)=true from by simpa using h2]
 rfl
section
variable {P:Program} {R:Rg} {Q:Exit→Act→World→Prop} {B i:Nat} {w0:Bs}
theorem Dr {x y:Operand}{T E:TypeId}{k:Nat}{kd:IntKind}{l:List As}{A':As}(hx:Has R B w0 i x (cat l).va)(hA':A'.ag=true)(hS:P.underlying T=some (.array l.length E))(ht:Ty P E A'.n A'.ag)(hm:∀ A∈l,A.n=A'.n)(hy:Has R B w0 i y (NumA kd k).va)(hk:l[k]?=some A'):Wv P Q R B w0 i (.index T x y) A'.va :=
 bm λ d T' ps af gd a w av=>by
  obtain ⟨cs,h1,hv⟩:=hx a w av
  obtain ⟨p1,l1⟩:=iQ h1 hk
  have hlt:k<l.length:=(List.getElem?_eq_some_iff.1 hk).1
  have ho:=nC hm (k:=k) zo
  unfold offs at ho
  rw [ho] at p1 l1
  have hv':a.eval x=.agg cs.toArray:=hv
  have e:=bo (hy a w av)
  have ha:(isAgg E).run P w=.ok true w:=by
   have:=ht.2
   rw [hA'] at this
   cases hu:P.underlying E with
   | none=>rw [hu] at this; simp at this
   | some u =>
    rw [hu] at this
    unfold isAgg
    simp only [Sem.run_bind,run_underlying hu,Result.andThen_ok]
    cases u <;> simp_all
  have hz:(sizeOf E).run P w=.ok A'.n w:=by
   have:=ht.1
   cases hi:P.info? E with
   | none=>rw [hi] at this; simp at this
   | some it=>rw [hi] at this; simp [sizeOf,typeInfo,hi]; simpa using this
  refine ⟨.agg (cs.toArray.extract (k*A'.n) (k*A'.n+A'.n)),w,?_,Grow.refl w,_,p1,?_⟩
  ·simp [execOp,hv',e,Instr.index,asIntOf,run_underlying hS,hlt,part,ha,hz]
  ·unfold shape
   rw [hA',qC rfl]
   congr 1
   apply Array.ext'
   simp
end
theorem ri {g:RGp}(h:[g.lo,g.hi].all okX=true):Cn Tryz.prog 106 [(GpA g).va] (Bo (ptF g)):=by
 refine Cn.intro Tryz.func106 G zk nq (λ B w0 a U=>?_)
 have U:=zn [(0,(GpA g).va)] [] U
 refine qb<|zg [] [⟨1,32,ptrH,some 0,_,none⟩] [.alc 0,.v 2 _] [.o 1] U (zW 0 G (zv G (a9 aB) o0)) (zz [(2,_)] [O 1 32 _] λ a w U=>?_)
 refine zt<|zg [η] [] [.adr 3 1 (.some 0) True,.v 4 _,.adr 5 1 (.some 4) True,.v 6 _,.v 7 _,.v 8 _,.v 2 _] [.o 6] U (zO 0 G bg (zL 0 0 0 G ak (zO 0 G bi (zL 2 0 1 G ak (zQ G (cmp_x h) (.p (vq 1 G) (vq 3 G)) (zv G (bF (vq 4 G) a8) (zA 5 G o0))))))) (zz [(2,_)] [O 1 32 _] λ a w U=>?_)
 refine a7<|qe<|aj ?_ (an G U (zm 0 G))
 exact aL
theorem Da (g:RGp):Cn Tryz.prog 104 [(GpA g).va] (Bo (mayG g)):=by
 refine Cn.intro Tryz.func104 G zk nq (λ B w0 a U=>?_)
 have U:=zn [(0,(GpA g).va)] [] U
 refine qb<|zg [] [⟨1,32,ptrH,some 0,_,none⟩] [.alc 0,.v 2 _] [.o 1] U (zW 0 G (zv G (a9 aB) o0)) (zz [(2,_)] [O 1 32 _] λ a w U=>?_)
 refine zt<|zg [η] [] [.adr 3 1 (.some 0) True,.v 4 _,.adr 5 1 (.some 4) True,.v 6 _,.v 7 _,.v 8 _,.v 9 _,.adr 10 1 (.some 0) (_=true),.t 11 _,.adr 12 1 (.some 4) (_=true),.t 13 _,.t 14 _,.t 15 _,.v 16 _,.v 2 _] [.o 14] U (zO 0 G bg (zL 0 0 0 G ak (zO 0 G bi (zL 2 0 1 G ak (zv G (cq (D:=[U32]) (l:=[_,_]) (xs:=[.tmp 4,.tmp 6]) (dV zk) eI zk (n_ok zk) nq nq nq (.p (vq 1 G) (vq 3 G)) G G) (zQ G (tF [g.lo,g.hi] nq) (.o (vq 4 G)) (zv G (ab (vq 5 G)) (zC 6 0 G bg (zB 6 G (λ hg=>ax 7 G zk hg (lz0 0 G) (Sub.part 0 G G) ak) (zC 6 0 G bi (zB 6 G (λ hg=>ax 9 G zk hg (lz0 0 G) (Sub.part 1 G G) ak) (zB 6 G (λ hg=>aX (cmp_x hg) (.p (ac (vq 8 G) hg) (ac (vq 10 G) hg))) (zB 6 G (λ hg=>p5 (ac (vq 11 G) hg) a8) (zv G (bG (vq 6 G) (vq 12 G)) (zA 13 G o0))))))))))))))) (zz [(2,_)] [O 1 32 _] λ a w U=>?_)
 refine a7<|qe<|aj ?_ (an G U (zm 0 G))
 exact aL
set_option maxHeartbeats 1000000 in
theorem fh (xs:List RLo):Cn Tryz.prog 27 [(SlA 69 [U32] (xs.map LoA)).va] (In (tchF xs)):=by
 refine Cn.introW Tryz.func27 rfl zk nq (.cons (ir (λ A hA=>by obtain ⟨x,_,rfl⟩:=qm.1 hA; exact eH x)).va .nil) (cH _ _).va (λ B w0 a hB0 U=>?_)
 have U:=zn [(0,(SlO 69 [U32] (xs.map LoA) True).va)] [] U
 have hl:=vQ (U.vals (0,(SlO 69 [U32] (xs.map LoA) True).va) (zm 0 rfl))
 rw [qi] at hl
 refine qb<|zh [.v 2 _] [.g 0,.o 0] U (zv G (a9 a8) o0) (zz [(0,_),(2,_)] [] λ a w U=>?_)
 refine zt<|qb<|zh [.v 9 _,.v 10 _,.v 11 _] [.g 0,.g 1,.o 2] U (zM 0 G (zv G (bh Tryz.underlying22 (bS (aC (vq 0 G)))) (zv G (cP (vq 1 G) a8) o0))) (zz [(0,_),(2,_),(11,_)] [] λ a w U=>?_)
 refine a7<|ae U (zm 2 G) (λ hb0=>?_) (λ hb0=>?_)
 ·have hbig:xs.length>4096:=by rw [qi] at hb0; have:=qt hb0; omega
  refine qb<|zh [.v 2 _] [.g 0,.o 0] U (zv G (a9 a8) o0) (zz [(0,_),(2,_)] [] λ a w U=>?_)
  refine a7<|qe<|ao ?_
  refine aj ?_ (an G U (zm 1 G))
  rw [tchF,qC hbig]; exact aL
 ·have hbig:¬ xs.length>4096:=by rw [qi] at hb0; have:=qr hb0; omega
  refine qh<|zt<|zh [.v 3 _] [.g 0,.g 1,.o 0] U (zv G (a9 a8) o0) (zz [(0,_),(2,_),(3,_)] [] λ a w U=>?_)
  refine zt<|qb<|zh [.v 12 _,.v 13 _,.v 14 _] [.g 1,.g 2,.o 0,.o 1,.o 2] U (zM 0 G (zv G (bh Tryz.underlying22 (bS (aC (vq 0 G)))) (zv G (ab a8) o0))) (zz [(2,_),(3,_),(12,_),(13,_),(14,_)] [] λ a w U=>?_)
  refine a7<|ql ?_
  have U:=St.sel U [1,2,3,4]
  refine wp_loop_ghost (λ n a w=>∃ j:Nat,(n+j=xs.length∧(xs.take j).all loF=true)∧St B w0 67 [(3,In ((manyF (xs.take j):Nat):Int)),(12,(SlO 69 [U32] (xs.map LoA) True).va),(13,In (xs.length:Nat)),(14,In (j:Nat))] [] a w) (xs.length) ?_ ?_
  ·exact ⟨0,⟨by omega,rfl⟩,by rw [qi] at U; exact U⟩
  intro n a w hI
  obtain ⟨j,⟨hn,hno⟩,U⟩:=hI; obtain ⟨n1,hn1⟩:∃ n1,n1=n:=⟨n,rfl⟩
  refine qb<|zh [.v 15 _] [.g 0,.g 1,.g 2,.g 3,.o 0] U (zv G (aK (gq 3 G) (gq 2 G)) o0) (zz [(3,_),(12,_),(13,_),(14,_),(15,_)] [] λ a w U=>?_)
  refine zt<|ae U (zm 4 G) (λ hb1=>?_) (λ hb1=>?_)
  ·have hj:j<xs.length:=by have:=qt hb1; omega
   refine qh<|zt<|ql<|qb<|zg [] [⟨5,69,ptrH,some 2,_,some (3,_)⟩] [.v 16 _,.v 17 _,.alc 0,.sto 0] [.g 0,.g 1,.g 2,.g 3] U (zv G (cv dP (dJ λ _=>rfl) (bS (aC (gq 1 G))) (gq 3 G) (cD hj)) (zv G (aq (vq 0 G) fX) (zY G (Str.zero cU) (zS 1 G fX o0)))) (zz [(3,_),(12,_),(13,_),(14,_)] [O 5 69 _] λ a w U=>?_)
   refine zt<|qb<|zg [η] [] [.adr 18 5 (.some 1) True,.v 19 _,.v 20 _,.v 21 _,.v 22 _,.adr 23 5 (.some 9) (_=false),.f 24 _,.f 25 _,.f 26 _,.v 27 _] [.g 0,.g 1,.g 2,.g 3,.o 9] U (zO 0 G bU (zL 0 0 1 G b9 (zQ G (Da _) (.o (vq 1 G)) (zv G (cW (vq 2 G)) (zv G (ab (vq 3 G)) (zC 4 0 G bY (zB 4 G (λ hg=>ax 5 G zk hg (lz0 0 G) (Sub.part 2 G G) b9) (zB 4 G (λ hg=>aX (Da _) (.o (ac (vq 6 G) hg))) (zB 4 G (λ hg=>cW (ac (vq 7 G) hg)) (zv G (r_or (vq 4 G) (vq 8 G)) o0)))))))))) (zz [(3,_),(12,_),(13,_),(14,_),(27,_)] [O 5 69 _] λ a w U=>?_)
   refine a7<|ae U (zm 4 G) (λ hb2=>?_) (λ hb2=>?_)
   ·refine qb<|zg [η] [] [.v 2 _] [.g 0,.g 1,.g 2,.g 3,.o 0] U (zv G (a9 a8) o0) (zz [(3,_),(12,_),(13,_),(14,_),(2,_)] [O 5 69 _] λ a w U=>?_)
    refine a7<|qe<|ao ?_
    refine aT ?_
    refine ao ?_
    refine ao ?_
    refine aT ?_
    refine ao ?_
    refine aj ?_ (an G U (zm 4 G))
    rw [pT hbig hj (DN hb2)]; exact aL
   ·refine qh<|zt<|zg [η] [] [.adr 28 5 (.some 0) True,.v 29 _,.adr 30 5 (.some 1) True,.adr 31 5 (.some (1+0)) True,.v 32 _,.adr 33 5 (.some 9) True,.adr 34 5 (.some (9+0)) True,.v 35 _,.v 36 _,.adr 37 5 (.some 0) True,.v 38 _,.adr 39 5 (.some 1) True,.adr 40 5 (.some (1+4)) True,.v 41 _,.adr 42 5 (.some 9) True,.adr 43 5 (.some (9+4)) True,.v 44 _,.v 45 _,.v 46 _,.v 6 _] [.g 0,.g 1,.g 2,.g 3,.o 19] U (zO 0 G cM (zL 0 0 0 G dz (zO 0 G bU (oc (ob_a G G (co 2 G zk trivial (lz0 0 G) bg)) (zv G (ax 3 G zk trivial (lz0 0 G) (Sub.trans (Sub.part 1 G G) (Sub.part 0 G G) G) ak) (zO 0 G bY (oc (ob_a G G (co 5 G zk trivial (lz0 0 G) bg)) (zv G (ax 6 G zk trivial (lz0 0 G) (Sub.trans (Sub.part 2 G G) (Sub.part 0 G G) G) ak) (zv G (aO (qs:=[(0,_),(1,_),(2,_)]) cF (.cons ⟨rfl,vq 1 rfl,rfl⟩ (.cons ⟨rfl,vq 4 rfl,rfl⟩ (.cons ⟨rfl,vq 7 rfl,rfl⟩ .nil)))) (zO 0 G cM (zL 9 0 0 G dz (zO 0 G bU (oc (ob_a G G (co 11 G zk trivial (lz0 0 G) bi)) (zv G (ax 12 G zk trivial (lz0 0 G) (Sub.trans (Sub.part 1 G G) (Sub.part 1 G G) G) ak) (zO 0 G bY (oc (ob_a G G (co 14 G zk trivial (lz0 0 G) bi)) (zv G (ax 15 G zk trivial (lz0 0 G) (Sub.trans (Sub.part 2 G G) (Sub.part 1 G G) G) ak) (zv G (aO (qs:=[(0,_),(1,_),(2,_)]) cF (.cons ⟨rfl,vq 10 rfl,rfl⟩ (.cons ⟨rfl,vq 13 rfl,rfl⟩ (.cons ⟨rfl,vq 16 rfl,rfl⟩ .nil)))) (zv G (cq (D:=[U32]) (l:=[_,_]) (xs:=[.tmp 36,.tmp 45]) (dV zk) mj zk (n_ok zk) nq nq nq (.p (vq 8 G) (vq 17 G)) G G) (zA 18 G o0)))))))))))))))))))) (zz [(3,_),(12,_),(13,_),(14,_),(6,_)] [O 5 69 _] λ a w U=>?_)
    refine zt<|qb<|zg [η] [] [.v 47 _,.v 48 _,.v 49 _] [.g 0,.g 1,.g 2,.g 3,.o 2] U (zM 4 G (zQ G (uL [⟨_,_,_⟩,⟨_,_,_⟩]) (.o (vq 0 G)) (zv G (ci (vq 1 G) a8) o0))) (zz [(3,_),(12,_),(13,_),(14,_),(49,_)] [O 5 69 _] λ a w U=>?_)
    refine a7<|ae U (zm 4 G) (λ hb3=>?_) (λ hb3=>?_)
    ·refine qb<|zg [η] [] [.v 2 _] [.g 0,.g 1,.g 2,.g 3,.o 0] U (zv G (a9 a8) o0) (zz [(3,_),(12,_),(13,_),(14,_),(2,_)] [O 5 69 _] λ a w U=>?_)
     refine a7<|qe<|ao ?_
     refine aT ?_
     refine ao ?_
     refine ao ?_
     refine aT ?_
     refine ao ?_
     refine aj ?_ (an G U (zm 4 G))
     rw [pT hbig hj (lo_no2 hb3)]; exact aL
    ·have hlo:loF xs[j]=true:=lo_yes hb2 hb3
     refine qh<|zt<|zg [η] [] [.adr 50 5 (.some 1) True,.v 51 _,.adr 52 5 (.some 9) True,.v 53 _,.v 54 _,.v 55 _] [.g 0,.g 1,.g 2,.g 3,.o 4,.o 5] U (zO 0 G bU (zL 0 0 1 G b9 (zO 0 G bY (zL 2 0 2 G b9 (zv G (ew (qs:=[(0,_),(1,_)]) tM (.cons ⟨rfl,vq 1 rfl,rfl⟩ (.cons ⟨rfl,vq 3 rfl,rfl⟩ .nil))) (zv G (ab a8) o0)))))) (zz [(3,_),(12,_),(13,_),(14,_),(54,_),(55,_)] [O 5 69 _] λ a w U=>?_)
     refine a7<|ql ?_
     have U:=St.sel U [0,1,2,3,4,5]
     have U:=St.selL U []
     refine wp_loop_ghost (λ n a w=>∃ i:Nat,(n+i=2)∧St B w0 67 [(3,In ((manyF (xs.take j)+lsI xs[j] i:Nat):Int)),(12,(SlO 69 [U32] (xs.map LoA) True).va),(13,In (xs.length:Nat)),(14,In (j:Nat)),(54,(cat [GpA xs[j].p,GpA xs[j].q]).va),(55,In (i:Nat))] [] a w) (2) ?_ ?_
     ·exact ⟨0,rfl,U⟩
     intro n a w hI
     obtain ⟨i,hn2,U⟩:=hI
     refine qb<|zh [.v 56 _] [.g 0,.g 1,.g 2,.g 3,.g 4,.g 5,.o 0] U (zv G (aK (gq 5 G) a8) o0) (zz [(3,_),(12,_),(13,_),(14,_),(54,_),(55,_),(56,_)] [] λ a w U=>?_)
     refine zt<|ae U (zm 6 G) (λ hb4=>?_) (λ hb4=>?_)
     ·have hi:i<2:=by have:=qt hb4; omega
      refine qh<|zt<|ql<|qb<|zg [] [⟨8,32,ptrH,some 1,_,some (2,_)⟩] [.v 57 _,.alc 0,.sto 0] [.g 0,.g 1,.g 2,.g 3,.g 4,.g 5] U (zv G (Dr (gq 4 G) G Tryz.underlying104 b9 (n_ok zk) (gq 5 G) (gs_at hi)) (zY G (Str.zero bL) (zS 0 G b9 o0))) (zz [(3,_),(12,_),(13,_),(14,_),(54,_),(55,_)] [O 8 32 _] λ a w U=>?_)
      refine zt<|zg [η] [] [.v 58 _,.v 59 _,.v 60 _] [.g 0,.g 1,.g 2,.g 3,.g 4,.g 5,.o 2] U (zl 0 G b9 (zQ G (ri (nJ (sS hlo))) (.o (vq 0 G)) (zv G (cW (vq 1 G)) o0))) (zz [(3,_),(12,_),(13,_),(14,_),(54,_),(55,_),(60,_)] [O 8 32 _] λ a w U=>?_)
      refine a7<|bB (λ a w =>  St B w0 67 [(3,In ((manyF (xs.take j)+lsI xs[j] (i+1):Nat):Int)),(12,(SlO 69 [U32] (xs.map LoA) True).va),(13,In (xs.length:Nat)),(14,In (j:Nat)),(54,(cat [GpA xs[j].p,GpA xs[j].q]).va),(55,In (i:Nat))] [⟨8,32,ptrH,GpA (gAt xs[j] i)⟩] a w) U (zm 6 G) (λ hb5=>?_) (λ hb5=>?_) (λ a w U=>?_)
      ·refine zg [η] [] [.v 61 _,.v 62 _,.v 3 _] [.g 1,.g 2,.g 3,.g 4,.g 5,.o 2] U (zM 0 G (zv G (aQ (vq 0 G) a8 ((wi64 (by have:=dF xs j; have:=mK xs[j] i; omega) (by have:=dF xs j; have:=mK xs[j] i; omega)).trans (by omega:(_:Int)=((manyF (xs.take j)+(lsI xs[j] i+1):Nat):Int)))) (zA 1 G o0))) (zz [(12,_),(13,_),(14,_),(54,_),(55,_),(3,_)] [O 8 32 _] λ a w U=>?_)
       refine a7 ?_
       have U:=St.sel U [5,0,1,2,3,4]
       have hm:=dF xs j
       have hle:=mK xs[j] i
       rw [lsI_1 hi hb5]
       exact U
      ·refine qh<|a7 ?_
       have U:=St.sel U [0,1,2,3,4,5]
       rw [lsI_0 hi hb5]
       exact U
      refine am ?_
      refine a7<|zg [η] [] [.v 63 _,.v 55 _] [.g 0,.g 1,.g 2,.g 3,.g 4,.o 1] U (zv G (aQ (gq 5 G) a8 ((wi64 zo zo).trans (by omega:(_:Int)=((i+1:Nat):Int)))) (zv G (ab (vq 0 G)) o0)) (zz [(3,_),(12,_),(13,_),(14,_),(54,_),(55,_)] [O 8 32 _] λ a w U=>?_)
      refine a7 ?_
      have U:=St.sel U [0,1,2,3,4,5]
      have U:=St.selL U []
      exact ⟨n-1,by omega,i+1,by omega,U⟩
     ·obtain rfl:i=2:=by have:=qr hb4; omega
      refine qK<|ah<|ah<|ay<|am ?_
      refine a7<|zh [.v 64 _,.v 14 _] [.g 0,.g 1,.g 2,.o 1] U (zv G (aQ (gq 3 G) a8 ((wi64 zo zo).trans (by omega:(_:Int)=((j+1:Nat):Int)))) (zv G (ab (vq 0 G)) o0)) (zz [(3,_),(12,_),(13,_),(14,_)] [] λ a w U=>?_)
      refine a7 ?_
      have U:=St.sel U [0,1,2,3]
      rw [← ro hj] at U
      exact ⟨n1-1,by omega,j+1,⟨by omega,AO hj hno hlo⟩,U⟩
  ·obtain rfl:j=xs.length:=by have:=qr hb1; omega
   refine qK<|ah<|ah<|ay<|zt<|qb<|zh [.v 65 _,.v 66 _] [.o 1] U (zM 0 G (zv G (cP (vq 0 G) a8) o0)) (zz [(66,_)] [] λ a w U=>?_)
   refine a7<|ae U (zm 0 G) (λ hb6=>?_) (λ hb6=>?_)
   ·have hm:manyF xs>12:=by rw [qI] at hb6; have:=qt hb6; omega
    refine qb<|zh [.v 2 _] [.o 0] U (zv G (a9 a8) o0) (zz [(2,_)] [] λ a w U=>?_)
    refine a7<|qe<|ao ?_
    refine aj ?_ (an G U (zm 0 G))
    rw [qI] at hno; rw [tchF,qA hbig,qC hno,qC hm]; exact aL
   ·have hm:¬ manyF xs>12:=by rw [qI] at hb6; have:=qr hb6; omega
    refine qh<|zt<|zh [.v 2 _] [.o 0] U (zv G (a9 a8) o0) (zz [(2,_)] [] λ a w U=>?_)
    refine a7<|qe<|aj ?_ (an G U (zm 0 G))
    rw [qI] at hno; rw [tchF,qA hbig,qC hno,qA hm]; exact aL
def NewIt (f:FuncId)(T:TypeId)(v:Value):VA where
 p B u w:=∃ g,u=.func (.func f) #[] #[ptr g]∧B≤g∧w.heap[g]?=some (.cells #[v] T (0,0))
 deps:=[T]
 cg:=λ B u w w' hg ⟨g,e,h1,h2⟩=>⟨g,e,h1,hg.heap h2⟩
 wr:=by
  rintro B u w w' g c T' fz hc hT hB hW ⟨g',e,h1,h2⟩
  refine ⟨g',e,h1,?_⟩
  rw [hW.block g' (λ e=>by subst e; rw [hc] at h2; injection h2 with h2; injection h2 with _ h2 _; exact hT (by simp [h2]))]
  exact h2
def ItN (f:FuncId)(caps:List (TypeId × As))(ns:List Nat):VA where
 p B v w:=∃ gs,(ItV f caps gs).p B v w∧∀ n∈ns,n ∉ gs
 deps:=caps.map zX++caps.flatMap (·.2.deps)
 cg:=λ B v w w' hg ⟨gs,h1,h2⟩=>⟨gs,(ItV f caps gs).cg B v w w' hg h1,h2⟩
 wr:=λ B v w w' g c T fz h1 hT h3 h4 ⟨gs,h5,h6⟩=>⟨gs,(ItV f caps gs).wr B v w w' g c T fz h1 hT h3 h4 h5,h6⟩
def Nmd (Γ:List (Nat × VA)):List (Nat × Nat)→List Nat→Prop
 | [],[]=>True
 | p::ps,k::ks=>Γ[k]?=some (p.1,EqV (ptr p.2))∧Nmd Γ ps ks
 | _,_=>False
theorem St.itn {B N:Nat}{s:Nat}{f:FuncId}{caps:List (TypeId × As)}{ps:List (Nat × Nat)}(k:Nat)(ks:List Nat)(h:St B w0 N Γ Λ a w)(hm:Γ[k]?=some (s,ItN f caps (ps.map Prod.snd)))(hn:Nmd Γ ps ks):
  ∃ gb,St B w0 N (Γ.set k (s,ItV f caps gb)) Λ a w∧∀ t∈ps.map zX,∀ g,blk (a.eval (.tmp t))=some g→g ∉ gb:=by
 obtain ⟨gb,h1,h2⟩:=h.vals _ (qa hm)
 refine ⟨gb,⟨h.lo,h.defers,h.size,h.base,λ x hx=>?_,h.locs,h.dis⟩,λ t ht g hg=>?_⟩
 ·rcases qp hx with hx | rfl
  ·exact h.vals x hx
  ·exact h1
 ·have key:∀ (ps:List (Nat × Nat)) (ks:List Nat),Nmd Γ ps ks→∀ p∈ps,a.eval (.tmp p.1)=ptr p.2:=by
   intro ps
   induction ps with
   | nil=>intro _ _ p hp; cases hp
   | cons q ps ih =>
    intro ks hk p hp
    cases ks with
    | nil=>exact hk.elim
    | cons k ks =>
     obtain ⟨e1,e2⟩:=hk
     rcases qo.1 hp with rfl | hp
     ·exact h.vals _ (qa e1)
     ·exact ih ks e2 p hp
  obtain ⟨p,hp,rfl⟩:=qm.1 ht
  rw [key ps ks hn p hp] at hg
  have:p.2=g:=by injection hg
  rw [← this]
  exact h2 p.2 (qm.2 ⟨p,hp,rfl⟩)
section
variable {P:Program} {R:Rg} {Q:Exit→Act→World→Prop} {B i:Nat} {w0:Bs}
inductive Nmo (R:Rg) (B:Nat) (w0:Bs) (i:Nat):List (Nat × Nat)→Prop
 | nil:Nmo R B w0 i []
 | cons {s g T:Nat} {A:As} {l:List (Nat × Nat)}:Has R B w0 i (.tmp s) (EqV (ptr g))→Loc R i s T A→Nmo R B w0 i l→Nmo R B w0 i ((s,g)::l)
theorem Nmo.lt {l:List (Nat × Nat)}(h:Nmo R B w0 i l)(av:R.Av B w0 i a w):∀ p∈l,p.2<w.heap.size:=by
 induction h with
 | nil=>intro p hp; cases hp
 | cons h1 h2 _ ih =>
  intro p hp
  rcases qo.1 hp with rfl | hp
  ·obtain ⟨g,cs,e1,_,e3,_⟩:=h2.ok av
   have e2:=h1 a w av
   have e2':a.eval (.tmp _)=ptr _:=e2
   rw [e2'] at e1
   have:ptr _=ptr g:=e1
   injection this with this
   injection this with this
   injection this with this
   rw [this]
   exact (Array.getElem?_eq_some_iff.1 e3).1
  ·exact ih p hp
theorem Gp {x:Operand}(h:v.oneCell'=true)(h1:Has R B w0 i x (EqV v)):Has R B w0 i x (EqA v).va:=λ a w av=>by
 have e:a.eval x=v:=h1 a w av
 rw [e]
 exact uX h
theorem r_mkIt {f:FuncId}{s:Nat}(h1:Loc R i s T (EqA v)):Wv P Q R B w0 i (.makeFunc (.func f) #[] #[.tmp s]) (NewIt f T v) :=
 bm λ _ _ _ _ _ a w av=>by
  obtain ⟨g,c,e1,m1,h3,h4⟩:=h1.ok av
  obtain rfl:=h4.1
  have e1':a.eval (.tmp s)=ptr g:=e1
  exact ⟨.func (.func f) #[] (#[Operand.tmp s].map a.eval),w,by simp [execOp,Instr.makeFunc],Grow.refl w,g,by simp [e1'],av.lo _ m1,h3⟩
theorem nn {f f':FuncId}{x:Operand}{A:As}{at_:Array TypeId}(ns:List (Nat × Nat))(hA:A.ag=false)(hc:∀ v,v.oneCell'=true→Cn P f' [EqV v] (NewIt f T v))(hx:Has R B w0 i x A.va)(hns:Nmo R B w0 i ns):
  Wv P Q R B w0 i (.call ⟨.value (.func f'),#[x],at_⟩) (ItN f [(T,A)] (ns.map Prod.snd)):=by
 intro d T' ps af gd a w av K hK
 have hone:(a.eval x).oneCell'=true:=by
  obtain ⟨cs,hp,hv⟩:=hx a w av
  have hl:=A.len _ _ _ hp
  rw [A.ag1 hA] at hl
  match cs,hl,hp,hv with
  | [c],_,hp,hv =>
   have:a.eval x=c:=by rw [hv]; simp [shape,hA]
   rw [this]
   exact A.one _ _ _ hp c (by simp)
 obtain ⟨⟨fn,hf,hn,hb⟩,hcall⟩:=hc (a.eval x) hone
 have hrun:(execOp a.eval ⟨some d,.call ⟨.value (.func f'),#[x],at_⟩,T',ps,af,gd⟩).run P w=.ok (.enter f' #[a.eval x]) w:=by
  have e1:a.eval (.func f')=.func (.func f') #[] #[]:=rfl
  simp only [execOp,resolve,e1,Deferred.ofValue,Sem.run_bind,Sem.run_pure,Result.andThen_ok,invoke,be hf hn hb]
  simp
 unfold Oper.wp
 rw [hrun]
 refine (hcall w.heap.size w [a.eval x] (qg _) (.cons G .nil)).mono λ e w' ⟨v,he,⟨g,h1,h2,h3⟩,hg⟩=>?_
 subst he
 obtain ⟨cs,hp,hv⟩:=hx a w av
 have hcs:cs=[a.eval x]:=by
  have hl:=A.len _ _ _ hp
  rw [A.ag1 hA] at hl
  match cs,hl with
  | [c],_ =>
   rw [hv]
   simp [shape,hA]
 refine hK v w' hg ⟨[g],⟨h1,by simp,.cons ⟨qd (Av.bw av) h2,_,h3,?_⟩ .nil⟩,λ n hn' hm=>?_⟩
 ·rw [← hcs]
  exact A.grow _ _ _ _ hg hp
 ·obtain rfl:=qq.1 hm
  obtain ⟨p,hp',rfl⟩:=qm.1 hn'
  have:=hns.lt av p hp'
  omega
end
end Go.Proofs.YtkpifdpdeanjfaaGreatDoor
