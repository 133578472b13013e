import Derived.Test.YtkpifdpdeanjfaaGreatDoorTtAi
set_option linter.all false
set_option maxRecDepth 100000
namespace Go.Proofs.YtkpifdpdeanjfaaGreatDoor
open Go Go.RowKit
variable {w:World}{B:Nat}{a:Act}{v:Value}{T:TypeId}{w0:Bs}{Γ:List (Nat × VA)}{Λ:List Lc}{ps:String}{af:Array Edge}{vr:Value}{H:Hd}{cs:List Value}{w':World}{P:Program}{D:List TypeId}
structure Slt where
 v:Value
 xs:List (List Value)
 u:Value
 ys:List (List Value)
 z:Value
 n:Nat
def Slt.cells (s:Slt):List Value:=[s.v,s.z,.int .i64 s.n]
def Slt.has (s:Slt)(g:Nat):Prop:=s.v.ownBlock=some g∨s.u.ownBlock=some g
def AptK (L:List Slt):Prop:=∀ (i j:Nat) (s t:Slt),L[i]?=some s→L[j]?=some t→i≠j→∀ g,s.has g→¬ t.has g
section
variable {H E m:Nat}
def RdyK (E m:Nat)(B:Nat)(w:World)(v:Value)(xs:List (List Value)):Prop:=RowV v xs.length∧(∀ x∈xs,x.length=m)∧∀ g,v.ownBlock=some g→B≤g∧∃ c,w.heap[g]?=some (Obj.cells c E (0,0))∧c.toList.take (xs.length*m)=xs.flatten
def Slt.ok (E m:Nat)(B:Nat)(w:World)(s:Slt):Prop:=w.ownsRow B E m s.u s.ys.length s.ys.flatten∧RdyK E m B w s.v s.xs
theorem eh:∀ {xs:List (List Value)},(∀ x∈xs,x.length=m)→xs.flatten.length=xs.length*m
 | [],_=>by simp
 | x::xs,h=>by
  rw [qL,qn,h x (by simp),eh (λ y hy=>h y (by simp [hy])),qR,xI,j6,z5]
theorem RdyK.keep {xs:List (List Value)}(h:RdyK E m B w v xs)(hk:∀ (g:Nat) (c:Array Value),v.ownBlock=some g→w.heap[g]?=some (Obj.cells c E (0,0))→w'.heap[g]?=some (Obj.cells c E (0,0))):RdyK E m B w' v xs :=
 ⟨h.1,h.2.1,λ g hg=>by
  obtain ⟨h1,c,h2,h3⟩:=h.2.2 g hg
  exact ⟨h1,c,hk g c hg h2,h3⟩⟩
theorem Slt.ok.keep {B:Nat}{s:Slt}{w w':World}(h:s.ok E m B w)(hk:∀ (g:Nat) (c:Array Value),s.has g→w.heap[g]?=some (Obj.cells c E (0,0))→w'.heap[g]?=some (Obj.cells c E (0,0))):s.ok E m B w' :=
 ⟨cu h.1 λ g c hg=>hk g c (.inr hg),h.2.keep λ g c hg=>hk g c (.inl hg)⟩
theorem Slt.ok.lt {s:Slt}(h:s.ok E m B w){g:Nat}(hg:s.has g):B≤g∧∃ c,w.heap[g]?=some (Obj.cells c E (0,0)):=by
 rcases hg with hg | hg
 ·obtain ⟨h1,c,h2,_⟩:=h.2.2.2 g hg
  exact ⟨h1,c,h2⟩
 ·rcases h.1.2 with ⟨e,_⟩ | ⟨g',cap,cur,e,h2,h3,_⟩
  ·rw [e] at hg; cases hg
  ·rw [e] at hg
   have:g'=g:=by simpa [Value.ownBlock] using hg
   subst this
   exact ⟨h2,cur,h3⟩
def HkA (H E m:Nat)(vr:Value)(L:List Slt):As where
 n:=1
 ag:=false
 p B cs w:=cs=[vr]∧w.ownsRow B H 3 vr L.length (L.flatMap Slt.cells)∧(∀ s∈L,s.ok E m B w)∧AptK L
 deps:=[H,E]
 len:=by rintro B cs w ⟨rfl,_⟩; rfl
 one:=by
  rintro B cs w ⟨rfl,h,_⟩ c hc
  obtain rfl:=qq.1 hc
  rcases h.2 with ⟨rfl,_⟩ | ⟨g,cap,cur,rfl,_⟩ <;> rfl
 ag1:=λ _=>rfl
 cg:=λ B cs w w' hg ⟨h1,h2,h3,h4⟩=>⟨h1,cu h2 λ g c _ h=>hg.heap h,λ s hs=>(h3 s hs).keep λ g c _ h=>hg.heap h,h4⟩
 wr:=by
  rintro B cs w w' g c T fz hgc hT hB hW ⟨h1,h2,h3,h4⟩
  simp only [qo,z6,or_false,not_or] at hT
  have hne:∀ (g':Nat) (c':Array Value) (E':TypeId),(E'=H∨E'=E)→w.heap[g']?=some (Obj.cells c' E' (0,0))→w'.heap[g']?=some (Obj.cells c' E' (0,0)):=λ g' c' E' hE h=>by
   rw [hW.block g' (λ e=>?_)]
   ·exact h
   ·subst e
    rw [hgc] at h
    injection h with h
    injection h with _ h _
    subst h
    rcases hE with e | e
    ·exact hT.1 e
    ·exact hT.2 e
  exact ⟨h1,cu h2 λ g c _ h=>hne g c _ (.inl G) h,λ s hs=>(h3 s hs).keep λ g c _ h=>hne g c _ (.inr G) h,h4⟩
theorem pv {α:Type}{f:Slt→List α}:∀ {L:List Slt} {i:Nat} {s s':Slt},L[i]?=some s→f s'=f s→(L.set i s').flatMap f=L.flatMap f
 | x::L,0,s,s',h,e=>by
  simp at h
  subst h
  simp [e]
 | x::L,i+1,s,s',h,e=>by
  simp only [xU,zG]
  rw [pv (by simpa using h) e]
theorem DR {L:List Slt}{B i:Nat}{s s':Slt}(h:(HkA H E m vr L).p B cs w)(hi:L[i]?=some s)(hc:s'.cells=s.cells)(hok:s'.ok E m B w')
  (hrow:∀ (g:Nat) (c:Array Value),w.heap[g]?=some (Obj.cells c H (0,0))→w'.heap[g]?=some (Obj.cells c H (0,0))) (hoth:∀ (g:Nat) (c:Array Value),¬ s.has g→w.heap[g]?=some (Obj.cells c E (0,0))→w'.heap[g]?=some (Obj.cells c E (0,0)))
  (hblk:∀ g,s'.has g→s.has g∨w.heap.size≤g):(HkA H E m vr (L.set i s')).p B cs w':=by
 obtain ⟨h1,h2,h3,h4⟩:=h
 have hlt:i<L.length:=(List.getElem?_eq_some_iff.1 hi).1
 have hfar:∀ (j:Nat) t,L[j]?=some t→j≠i→∀ g,t.has g→¬ s'.has g:=λ j t hj hne g hg hg'=>by
  rcases hblk g hg' with h5 | h5
  ·exact h4 j i t s hj hi hne g hg h5
  ·obtain ⟨_,c,h6⟩:=(h3 t (qa hj)).lt hg
   have:=(Array.getElem?_eq_some_iff.1 h6).1
   omega
 refine ⟨h1,?_,λ t ht=>?_,λ j k t1 t2 hj hk hne g hg hg'=>?_⟩
 ·rw [qS,pv hi hc]
  exact cu h2 λ g c _ h=>hrow g c h
 ·obtain ⟨j,hj⟩:=List.getElem?_of_mem ht
  by_cases e:j=i
  ·subst e
   rw [List.getElem?_set_self hlt] at hj
   injection hj with hj
   subst hj
   exact hok
  ·rw [List.getElem?_set_ne (λ e2=>e e2.symm)] at hj
   exact (h3 t (qa hj)).keep λ g c hg hh=>hoth g c (λ hs=>h4 j i t s hj hi e g hg hs) hh
 ·by_cases e:j=i
  ·subst e
   rw [List.getElem?_set_self hlt] at hj
   injection hj with hj
   subst hj
   rw [List.getElem?_set_ne hne] at hk
   exact hfar k t2 hk (λ e=>hne e.symm) g hg' hg
  ·rw [List.getElem?_set_ne (λ e2=>e e2.symm)] at hj
   by_cases e2:k=i
   ·subst e2
    rw [List.getElem?_set_self hlt] at hk
    injection hk with hk
    subst hk
    exact hfar j t1 hj e g hg hg'
   ·rw [List.getElem?_set_ne (λ e3=>e2 e3.symm)] at hk
    exact h4 j k t1 t2 hj hk hne g hg hg'
theorem vJ {c:List Value}{xs:List (List Value)}{k:Nat}{ds:List Value}(hx:∀ x∈xs,x.length=m)(hk:k<xs.length)(hd:ds.length=m)(h:c.take (xs.length*m)=xs.flatten):(c.take (k*m)++ds++c.drop (k*m+m)).take (xs.length*m)=(xs.set k ds).flatten:=by
 have hl:=eh hx
 have hle:xs.length*m≤c.length:=by
  have:=qk List.length h
  rw [hl,zj] at this
  omega
 have hk1:k*m+m≤xs.length*m:=by rw [← xk]; exact qG m hk
 have e1:c.take (k*m)=(xs.take k).flatten:=by
  have h0:=qk (List.take (k*m)) h
  rw [jl,xi zo] at h0
  rw [h0]
  have h2:xs.flatten=(xs.take k).flatten++(xs.drop k).flatten:=by rw [← jc,xq]
  have h3:(xs.take k).flatten.length=k*m:=by
   rw [eh (λ x hx'=>hx x (z9 hx')),zj,xi (zD hk)]
  rw [h2,← h3,jM]
 have e2:(c.drop (k*m+m)).take (xs.length*m-(k*m+m))=(xs.drop (k+1)).flatten:=by
  have h0:=qk (List.drop (k*m+m)) h
  rw [List.drop_take] at h0
  rw [h0]
  have h2:xs.flatten=(xs.take (k+1)).flatten++(xs.drop (k+1)).flatten:=by rw [← jc,xq]
  have h3:(xs.take (k+1)).flatten.length=k*m+m:=by
   rw [eh (λ x hx'=>hx x (z9 hx')),zj,xi hk,xk]
  rw [h2,← h3,List.drop_left]
 have l1:(c.take (k*m)).length=k*m:=by rw [zj]; omega
 rw [qD,j0,l1,jl,Nat.min_eq_right (show k*m≤xs.length*m by omega),j0,hd,qB (l:=ds) (by rw [hd]; omega),Nat.sub_sub,e1,e2,xW,qC hk]
 simp
theorem yE {L:List Slt}{B i k g cap:Nat}{s:Slt}{cs ds:List Value}(hHE:H≠E)(h:(HkA H E m vr L).p B cs w)(hi:L[i]?=some s)(hu:s.u=s.v)(hy:s.ys=s.xs)(hv:s.v=.slice (some ⟨g,0,none⟩) s.xs.length cap)(hk:k<s.xs.length)(hd:ds.length=m):
  B≤g∧∃ c:Array Value,w.heap[g]?=some (Obj.cells c E (0,0))∧k*m+m≤c.size∧(HkA H E m vr (L.set i { s with xs:=s.xs.set k ds,ys:=s.xs.set k ds })).p B cs (w.setRow g (c.toList.take (k*m)++ds++c.toList.drop (k*m+m)).toArray):=by
 have hs:=h.2.2.1 s (qa hi)
 have hg:s.v.ownBlock=some g:=by rw [hv]; rfl
 obtain ⟨hB,c,hc,htk⟩:=hs.2.2.2 g hg
 have hown:=hs.1
 rw [hu,hy,hv] at hown
 rcases hown.2 with ⟨e,_⟩ | ⟨g',cap',cur,e,h2,h3,h4,h5,h6,h7⟩
 ·cases e
 ·injection e with e1 e2 e3
  injection e1 with e1
  injection e1 with e1
  subst e1
  subst e3
  rw [hc] at h3
  injection h3 with h3
  injection h3 with h3
  subst h3
  have hk1:k*m+m≤s.xs.length*m:=by rw [← xk]; exact qG m hk
  have hk2:s.xs.length*m≤cap*m:=qG m h4
  have hsz:k*m+m≤c.size:=by rw [h6]; omega
  have hnew:(w.setRow g (c.toList.take (k*m)++ds++c.toList.drop (k*m+m)).toArray).heap[g]?=some (Obj.cells (c.toList.take (k*m)++ds++c.toList.drop (k*m+m)).toArray E (0,0)):=setRow_heap w g _ _ _ _ hc
  have hitem:∀ x∈s.xs.set k ds,x.length=m:=λ x hx=>by
   rcases qp hx with hx | rfl
   ·exact hs.2.2.1 x hx
   ·exact hd
  have htk2:(c.toList.take (k*m)++ds++c.toList.drop (k*m+m)).take ((s.xs.set k ds).length*m)=(s.xs.set k ds).flatten:=by
   rw [qS]
   exact vJ hs.2.2.1 hk hd htk
  refine ⟨hB,c,hc,hsz,DR h hi G ⟨?_,?_⟩ (λ g2 c2 h8=>?_) (λ g2 c2 h8 h9=>?_) λ g2 h8=>.inl h8⟩
  ·show World.ownsRow _ B E m s.u (s.xs.set k ds).length (s.xs.set k ds).flatten
   rw [hu,hv]
   refine ⟨eh hitem,.inr ⟨g,cap,_,by rw [qS],hB,hnew,by rw [qS]; exact h4,h5,?_,htk2⟩⟩
   have hcl:c.toList.length=c.size:=by simp
   simp only [zE,qn,zj,xw,hcl,hd]
   rw [h6] at hsz ⊢
   omega
  ·show RdyK E m B _ s.v (s.xs.set k ds)
   refine ⟨by rw [qS]; exact hs.2.1,hitem,λ g2 h8=>?_⟩
   rw [hg] at h8
   injection h8 with h8
   subst h8
   exact ⟨hB,_,hnew,htk2⟩
  ·rw [setRow_other _ _ _ _ (λ e=>by subst e; rw [hc] at h8; injection h8 with h8; injection h8 with _ h8 _; exact hHE h8.symm)]
   exact h8
  ·rw [setRow_other _ _ _ _ (λ e=>h8 (.inl (by rw [e]; exact hg)))]
   exact h9
theorem hk_app {vr v':Value}{L:List Slt}{B i:Nat}{s:Slt}{cs ds:List Value}(hHE:H≠E)(h:(HkA H E m vr L).p B cs w)(hi:L[i]?=some s)(hown:w'.ownsRow B E m v' (s.ys.length+1) (s.ys.flatten++ds))(hg:w.grownBy w' s.u.ownBlock)
  (hb:v'.ownBlock=s.u.ownBlock∨(v'.ownBlock=some w.heap.size∧w.grownBy w' none)) (hpre:s.u.ownBlock=s.v.ownBlock→s.xs <+: s.ys) (hyl:∀ y∈s.ys,y.length=m):(HkA H E m vr (L.set i { s with u:=v',ys:=s.ys++[ds] })).p B cs w':=by
 have hs:=h.2.2.1 s (qa hi)
 have hlt:∀ (g:Nat) (c:Array Value) (T:TypeId),w.heap[g]?=some (Obj.cells c T (0,0))→g<w.heap.size:=λ g c T h=>(Array.getElem?_eq_some_iff.1 h).1
 refine DR h hi G ⟨by simpa using hown,?_⟩ (λ g c h8=>?_) (λ g c h8 h9=>?_) λ g h8=>?_
 ·refine ⟨hs.2.1,hs.2.2.1,λ g hgv=>?_⟩
  obtain ⟨h1,c,h2,h3⟩:=hs.2.2.2 g hgv
  by_cases e:s.u.ownBlock=some g
  ·rcases hb with hb | ⟨hb,hgn⟩
   ·rcases hown.2 with ⟨e1,_⟩ | ⟨g',cap,cur,e1,h4,h5,h6,h7,h10,h11⟩
    ·rw [e1,e] at hb
     cases hb
    ·have:g'=g:=by
      have:v'.ownBlock=some g':=by rw [e1]; rfl
      rw [hb,e] at this
      injection this with this
      exact this.symm
     subst this
     refine ⟨h1,cur,h5,?_⟩
     obtain ⟨t,ht⟩:=hpre (e.trans hgv.symm)
     have hle:s.xs.length≤s.ys.length:=by rw [← ht]; simp
     have hle2:s.xs.length*m≤(s.ys.length+1)*m:=qG m zo
     have h12:=qk (List.take (s.xs.length*m)) h11
     rw [jl,xi hle2] at h12
     show cur.toList.take (s.xs.length*m)=s.xs.flatten
     rw [h12,← ht,jc,qD,← eh hs.2.2.1,jM]
   ·exact ⟨h1,c,(hgn.block g (hlt _ _ _ h2) (by simp)).trans h2,h3⟩
  ·exact ⟨h1,c,(hg.block g (hlt _ _ _ h2) (λ e2=>e e2.symm)).trans h2,h3⟩
 ·refine (hg.block g (hlt _ _ _ h8) (λ e=>?_)).trans h8
  obtain ⟨_,c2,h9⟩:=hs.lt (g:=g) (.inr e.symm)
  rw [h8] at h9
  injection h9 with h9
  injection h9 with _ h9 _
  exact hHE h9
 ·exact (hg.block g (hlt _ _ _ h9) (λ e=>h8 (.inr e.symm))).trans h9
 ·rcases h8 with h8 | h8
  ·exact .inl (.inl h8)
  ·rcases hb with hb | ⟨hb,_⟩
   ·exact .inl (.inr (hb.symm.trans h8))
   ·have h8':v'.ownBlock=some g:=h8
    rw [hb] at h8'
    injection h8' with h8'
    exact .inr (xZ h8')
theorem tl:∀ {L:List Slt} {i:Nat} {s:Slt},L[i]?=some s→∀ z,(L.set i { s with z:=z }).flatMap Slt.cells=(L.flatMap Slt.cells).set (3*i+1) z
 | x::L,0,s,h,z=>by
  simp at h
  subst h
  rfl
 | x::L,i+1,s,h,z=>by
  simp only [xU,zG]
  rw [tl (by simpa using h) z,show 3*(i+1)+1=(3*i+1)+3 by omega]
  rfl
theorem flatK3 {L:List Slt}:(L.flatMap Slt.cells).length=L.length*3:=by
 induction L with
 | nil=>rfl
 | cons x L ih=>rw [zG,qn,ih,qR]; show 3+_=_; omega
theorem DS {L:List Slt}{B i g cap:Nat}{s:Slt}(hHE:H≠E)(z:Value)(h:(HkA H E m vr L).p B cs w)(hi:L[i]?=some s)(hvr:vr=.slice (some ⟨g,0,none⟩) L.length cap):
  B≤g∧∃ c:Array Value,w.heap[g]?=some (Obj.cells c H (0,0))∧i*3+1<c.size∧(HkA H E m vr (L.set i { s with z:=z })).p B cs (w.setRow g (c.setIfInBounds (i*3+1) z)):=by
 obtain ⟨h1,h2,h3,h4⟩:=h
 have hlt:i<L.length:=(List.getElem?_eq_some_iff.1 hi).1
 rcases h2.2 with ⟨e,_⟩ | ⟨g',cap',cur,e,q2,q3,q4,q5,q6,q7⟩
 ·rw [hvr] at e; cases e
 ·rw [hvr] at e
  injection e with e1 e2 e3
  injection e1 with e1
  injection e1 with e1
  subst e1
  have hsz:i*3+1<cur.size:=by
   rw [q6]
   have:L.length*3≤cap'*3:=qG 3 q4
   omega
  have hnew:(w.setRow g (cur.setIfInBounds (i*3+1) z)).heap[g]?=some (Obj.cells (cur.setIfInBounds (i*3+1) z) H (0,0)):=setRow_heap w g _ _ _ _ q3
  refine ⟨q2,cur,q3,hsz,h1,?_,λ t ht=>?_,λ j k t1 t2 hj hk hne g2 hg hg'=>?_⟩
  ·rw [qS,tl hi]
   refine ⟨by rw [qS,flatK3],.inr ⟨g,cap',_,?_,q2,hnew,q4,q5,by simp [q6],?_⟩⟩
   ·rw [hvr,e3]
   ·rw [xL,kn,q7,show 3*i+1=i*3+1 by omega]
  ·have hkeep:∀ t':Slt,t'.ok E m B w→t'.ok E m B (w.setRow g (cur.setIfInBounds (i*3+1) z)):=λ t' ht'=>ht'.keep λ g2 c2 hg2 h8=>by
    rw [setRow_other _ _ _ _ (λ e=>by subst e; rw [q3] at h8; injection h8 with h8; injection h8 with _ h8 _; exact hHE h8)]
    exact h8
   rcases qp ht with ht | rfl
   ·exact hkeep t (h3 t ht)
   ·exact hkeep _ (h3 s (qa hi))
  ·have hsame:∀ (j:Nat) t,(L.set i { s with z:=z })[j]?=some t→∃ t0,L[j]?=some t0∧∀ g,t.has g→t0.has g:=λ j t hj=>by
    by_cases e:j=i
    ·subst e
     rw [List.getElem?_set_self hlt] at hj
     injection hj with hj
     subst hj
     exact ⟨s,hi,λ g h=>h⟩
    ·rw [List.getElem?_set_ne (λ e2=>e e2.symm)] at hj
     exact ⟨t,hj,λ g h=>h⟩
   obtain ⟨t3,r1,r2⟩:=hsame j t1 hj
   obtain ⟨t4,r3,r4⟩:=hsame k t2 hk
   exact h4 j k t3 t4 r1 r3 hne g2 (r2 g2 hg) (r4 g2 hg')
end
def Slt.view (s:Slt):As:=cat [EqS s.v,EqS s.z,NumA .i64 (s.n:Nat)]
theorem pG {B:Nat}{w:World}:∀ {L:List Slt},(∀ s∈L,s.v.oneCell'=true∧s.z.oneCell'=true)→(cat (L.map Slt.view)).p B (L.flatMap Slt.cells) w
 | [],_=>⟨[],rfl,.nil⟩
 | s::L,h=>by
  obtain ⟨ps,e,hp⟩:=pG (B:=B) (w:=w) (L:=L) λ t ht=>h t (by simp [ht])
  refine ⟨s.cells::ps,by rw [zG,e]; rfl,.cons ?_ hp⟩
  exact ⟨[[s.v],[s.z],[.int .i64 s.n]],rfl,.cons ⟨rfl,(h s (by simp)).1⟩ (.cons ⟨rfl,(h s (by simp)).2⟩ (.cons G .nil))⟩
abbrev OneK (M:List Slt):Prop:=∀ s∈M,s.v.oneCell'=true∧s.z.oneCell'=true
theorem ry {H E m:Nat}{L:List Slt}(h:OneK L):Wk (HkA H E m vr L).va (SlA H [] (L.map Slt.view)).va:=λ B v w ⟨cs,⟨e,h2,_⟩,hv⟩=>by
 subst e
 have hv':v=vr:=hv
 subst hv'
 refine ii (b:=B) (m:=3) B v w ⟨λ A hA=>?_,λ A hA T hT=>?_,L.flatMap Slt.cells,pG h,?_⟩
 ·obtain ⟨s,_,rfl⟩:=qm.1 hA; rfl
 ·obtain ⟨s,_,rfl⟩:=qm.1 hA; cases (show T∈([]:List TypeId) from hT)
 ·rw [qi]; exact h2
theorem Gk {H E m:Nat}{L:List Slt}:Wk (HkA H E m vr L).va (EqV vr):=λ B v w ⟨cs,⟨e,_⟩,hv⟩=>by
 subst e
 exact hv
theorem mW {L:List Slt}{i:Nat}{s:Slt}(h:L[i]?=some s):(L.map Slt.view)[i]?=some s.view:=by rw [List.getElem?_map,h]; rfl
theorem pP {L:List Slt}:∀ A∈L.map Slt.view,A.n=3:=λ A hA=>by
 obtain ⟨s,_,rfl⟩:=qm.1 hA; rfl
structure MkP (A:Nat→As) (m:Nat):Prop where
 n:∀ k,(A k).n=m
 d:∀ k,(A k).deps=[]
 any:∀ k B B' w w' cs,(A k).p B cs w→(A k).p B' cs w'
def isMk (A:Nat→As)(k:Nat)(ds:List Value):Prop:=∃ B w,(A k).p B ds w
theorem MkP.len {A:Nat→As}{m k:Nat}(h:MkP A m){ds:List Value}(hd:isMk A k ds):ds.length=m:=by
 obtain ⟨B,w,hd⟩:=hd
 rw [(A k).len _ _ _ hd,h.n]
theorem MkP.cat {A:Nat→As}{m k:Nat}(h:MkP A m){B:Nat}{w:World}:∀ {xs:List (List Value)},(∀ x∈xs,isMk A k x)→(cat (List.replicate xs.length (A k))).p B xs.flatten w
 | [],_=>⟨[],rfl,.nil⟩
 | x::xs,hx=>by
  obtain ⟨ps,e,hp⟩:=h.cat (B:=B) (w:=w) (xs:=xs) λ y hy=>hx y (by simp [hy])
  obtain ⟨B',w',h1⟩:=hx x (by simp)
  refine ⟨x::ps,by rw [qL,qL,e],?_⟩
  rw [qR,kP]
  exact .cons (h.any _ _ _ _ _ _ h1) hp
theorem wt {A:Nat→As}{E m k B:Nat}{xs:List (List Value)}(hA:MkP A m)(h:RdyK E m B w v xs)(hx:∀ x∈xs,isMk A k x):(SlA E [] (List.replicate xs.length (A k))).va.p B v w:=by
 have hdep:∀ A'∈List.replicate xs.length (A k),∀ T∈A'.deps,T∈([]:List TypeId):=λ A' h1 T hT=>by
  rw [(xl.1 h1).2,hA.d] at hT; cases hT
 rcases h.1 with ⟨rfl,e⟩ | ⟨g,cap,rfl,h1,h2⟩
 ·refine ⟨[.slice none 0 0],⟨hdep,none,0,xs.flatten,by rw [qU,e],by rw [qU,e]; exact qg _,za _,hA.cat hx,λ h=>by rw [qU,e] at h; omega⟩,rfl⟩
 ·obtain ⟨_,c,h3,h4⟩:=h.2.2 g rfl
  refine ⟨[.slice (some ⟨g,0,none⟩) xs.length cap],⟨hdep,_,cap,xs.flatten,by rw [qU],by rw [qU]; exact h1,h2,hA.cat hx,λ _=>⟨g,0,rfl,(Array.getElem?_eq_some_iff.1 h3).1,.inr ⟨_,_,h3⟩,λ j u hu=>?_⟩⟩,rfl⟩
  rw [cell_of_row w g (0+j) c E _ h3,zc]
  rw [← h4,List.getElem?_take] at hu
  split at hu
  ·simpa using hu
  ·cases hu
theorem sG {E m B:Nat}{ys:List (List Value)}(hy:∀ y∈ys,y.length=m)(h:w.ownsRow B E m v ys.length ys.flatten):RdyK E m B w v ys:=by
 rcases h.2 with ⟨rfl,e⟩ | ⟨g,cap,cur,rfl,h1,h2,h3,h4,h5,h6⟩
 ·exact ⟨.inl ⟨rfl,e⟩,hy,λ g hg=>by cases hg⟩
 ·refine ⟨.inr ⟨g,cap,rfl,h3,h4⟩,hy,λ g' hg=>?_⟩
  have:g=g':=by simpa [Value.ownBlock] using hg
  subst this
  exact ⟨h1,cur,h2,h6⟩
section
open Rg
variable {P:Program} {Q:Exit→Act→World→Prop} {B N:Nat} {w0:Bs} {Γ:List (Nat × VA)} {Λ:List Lc} {a:Act} {w:World} {ops:Array Oper} {i:Nat} {K:Act→World→Prop}
theorem FD {p d g k n sx:Nat}{ag:Bool}{E ty T T':TypeId}{A0 A1:As}{ds:List Value}(src:List Nat)(kp kd e:Nat)(ho:ops[i]?=some ⟨none,.store ty (.tmp p) (.tmp d),T',ps,af,none⟩)(h:St B w0 N Γ Λ a w)
  (hp:Γ[kp]?=some (p,EqV (.pointer (some ⟨g,k,none⟩)))) (hd:Γ[kd]?=some (d,EqV v)) (hv1:∀ c∈ds,c.oneCell'=true) (hvc:v.cells=ds.toArray) (hdl:ds.length=n) (ht:Ty P ty n ag) (hl:Λ[e]?=some ⟨sx,T,H,A0⟩) (hTE:(T != E)=true) (hrm:RowMay w0 B E)
  (hsrc:src.all (λ k=>match Γ[k]? with | some y => !y.2.deps.contains E | none=>false)=true) (hΛ:Λ.zipIdx.all (λ x=>x.2==e || (x.1.T != E && !x.1.A.deps.contains E))=true)
  (htr:∀ cs,A0.p B cs w→B≤g∧∃ c:Array Value,w.heap[g]?=some (.cells c E (0,0))∧k+n≤c.size∧A1.p B cs (w.setRow g (c.toList.take k++ds++c.toList.drop (k+n)).toArray))
  (hK:∀ w',St B w0 N (src.filterMap λ k=>Γ[k]?) (Λ.set e ⟨sx,T,H,A1⟩) a w'→K (a.put none undef) w'):wpOp P ops Q i K a w:=by
 have e1:a.eval (.tmp p)=.pointer (some ⟨g,k,none⟩):=h.vals _ (qa hp)
 have e2:a.eval (.tmp d)=v:=h.vals _ (qa hd)
 obtain ⟨g0,cs0,q1,q2,q3,q4⟩:=h.locs _ (qa hl)
 obtain ⟨hB,c,hc,hkc,_⟩:=htr cs0 q4
 have hrun:=ce ht w g k E c v ds hvc hdl hkc hv1 hc
 unfold wpOp
 simp only [ho,Region.wanted,if_true]
 refine .inl (wp_skip' (w':=w.setRow g (c.toList.take k++ds++c.toList.drop (k+n)).toArray) ?_ (hK _ (h.turn src e po (λ g' e=>?_) hrm hl hTE hsrc hΛ λ cs hp=>?_)))
 ·simp [execOp,e1,e2,Instr.storeAt,Instr.sureAddr,hrun]
 ·injection e with e
  subst e
  exact ⟨hB,_,_,hc⟩
 ·obtain ⟨_,c',hc',_,h5⟩:=htr cs hp
  rw [hc] at hc'
  injection hc' with hc'
  injection hc' with hc'
  subst hc'
  exact h5
theorem St.pinV {s:Nat}{A:As}(h:St B w0 N Γ Λ a w)(k:Nat)(hm:Γ[k]?=some (s,A.va)):∃ v ds,A.p B ds w∧v.cells=ds.toArray∧(∀ c∈ds,c.oneCell'=true)∧St B w0 N (Γ.set k (s,EqV v)) Λ a w:=by
 obtain ⟨ds,h1,h2⟩:=h.vals _ (qa hm)
 exact ⟨a.eval (.tmp s),ds,h1,by rw [show a.eval (.tmp s)=shape A.ag ds from h2]; exact A.cells_shape h1,A.one _ _ _ h1,h.lo,h.defers,h.size,h.base,λ y hy=>by
  rcases qp hy with hy | rfl
  ·exact h.vals y hy
  ·exact rfl,h.locs,h.dis⟩
end
structure BkRest where
 n:Nat
 vn:Value
 N:List Slt
 vy:Value
 R:List Slt
 ve:Value
 M:List Slt
abbrev nuA (X:BkRest):As:=HkA 132 3 1 X.vn X.N
abbrev ryA (X:BkRest):As:=HkA 160 162 8 X.vy X.R
abbrev elA (X:BkRest):As:=HkA 125 92 9 X.ve X.M
def BqA (X:BkRest)(vr:Value)(L:List Slot):As:=cat [NumA .i64 (X.n:Nat),HbA vr L,nuA X,EqS (.slice none 0 0),EqS (.slice none 0 0),EqS (.slice none 0 0),EqS (.slice none 0 0),EqS (.slice none 0 0),ryA X,elA X,EqS (.slice none 0 0),EqS (.slice none 0 0),EqS (.slice none 0 0),EqS (.slice none 0 0),EqS (.slice none 0 0),EqS (.slice none 0 0),EqS (.slice none 0 0)]
theorem pK {X X':BkRest}{vr vr':Value}{L L':List Slot}(h:(BqA X vr L).p B cs w)(hn:X'.n=X.n)(f1:∀ c,(HbA vr L).p B c w→(HbA vr' L').p B c w')(f2:∀ c,(nuA X).p B c w→(nuA X').p B c w')(f3:∀ c,(ryA X).p B c w→(ryA X').p B c w')(f4:∀ c,(elA X).p B c w→(elA X').p B c w'):(BqA X' vr' L').p B cs w':=by
 obtain ⟨ps,e,hp⟩:=h
 refine ⟨ps,e,?_⟩
 cases hp with
 | cons h1 hp=>cases hp with
  | cons h2 hp=>cases hp with
   | cons h3 hp =>
    refine .cons (by rw [hn]; exact h1) (.cons (f1 _ h2) (.cons (f2 _ h3) ?_))
    iterate 5 (cases hp; rename_i h3 hp; refine .cons h3 ?_)
    cases hp; rename_i h3 hp; refine .cons (f3 _ h3) ?_
    cases hp; rename_i h3 hp; refine .cons (f4 _ h3) ?_
    iterate 7 (cases hp; rename_i h3 hp; refine .cons h3 ?_)
    cases hp
    exact .nil
theorem cN {X:BkRest}{L:List Slot}(h:(BqA X vr L).p B cs w):(∃ c,(HbA vr L).p B c w)∧(∃ c,(nuA X).p B c w)∧(∃ c,(ryA X).p B c w)∧(∃ c,(elA X).p B c w):=by
 obtain ⟨ps,e,hp⟩:=h
 cases hp with
 | cons h1 hp=>cases hp with
  | cons h2 hp=>cases hp with
   | cons h3 hp =>
    iterate 5 (cases hp; rename_i _ hp)
    cases hp; rename_i h4 hp
    cases hp; rename_i h5 hp
    exact ⟨⟨_,h2⟩,⟨_,h3⟩,⟨_,h4⟩,⟨_,h5⟩⟩
theorem As.kwr {A:As}{B g T:Nat}{c c':Array Value}(h:A.p B cs w)(hgc:w.heap[g]?=some (.cells c T (0,0)))(hT:T ∉ A.deps)(hB:B≤g):A.p B cs (w.setRow g c'):=A.wr _ _ _ _ _ _ _ _ hgc hT hB (Wr.setRow w g c') h
theorem Ei {X:BkRest}{L L':List Slot}{B g T:Nat}{c c':Array Value}(h:(BqA X vr L).p B cs w)(hgc:w.heap[g]?=some (.cells c T (0,0)))(hT:T ∉ [132,3,160,162,125,92])(hB:B≤g)(f1:∀ c0,(HbA vr L).p B c0 w→(HbA vr L').p B c0 (w.setRow g c')):(BqA X vr L').p B cs (w.setRow g c'):=by
 simp only [qo,z6,or_false,not_or] at hT
 have k:∀ {H E m:Nat} {v:Value} {M:List Slt},T≠H→T≠E→∀ c0,(HkA H E m v M).p B c0 w→(HkA H E m v M).p B c0 (w.setRow g c'):=λ {H E m v M} h1 h2 c0 hp=>As.kwr hp hgc (show T ∉ [H,E] by simp [h1,h2]) hB
 exact pK h G f1 (k hT.1 hT.2.1) (k hT.2.2.1 hT.2.2.2.1) (k hT.2.2.2.2.1 hT.2.2.2.2.2)
theorem bq_grL {X:BkRest}{L L':List Slot}{B T:Nat}{row:Option Nat}(h:(BqA X vr L).p B cs w)(hg:w.grownBy w' row)(hr:RowOk w B T row)(hT:T ∉ [132,3,160,162,125,92])(f1:∀ c0,(HbA vr L).p B c0 w→(HbA vr L').p B c0 w'):(BqA X vr L').p B cs w':=by
 simp only [qo,z6,or_false,not_or] at hT
 have k:∀ {H E m:Nat} {v:Value} {M:List Slt},T≠H→T≠E→∀ c0,(HkA H E m v M).p B c0 w→(HkA H E m v M).p B c0 w':=λ {H E m v M} h1 h2 c0 hp=>As.grown hp hg hr (qg _) (show T ∉ [H,E] by simp [h1,h2])
 exact pK h G f1 (k hT.1 hT.2.1) (k hT.2.2.1 hT.2.2.2.1) (k hT.2.2.2.2.1 hT.2.2.2.2.2)
section
open Rg
variable {P:Program} {Q:Exit→Act→World→Prop} {R:Rg} {B i:Nat} {w0:Bs}
theorem Gn {X:BkRest}{x:Operand}{L:List Slot}{s:Slot}{q:Nat}(hx:Has R B w0 i x (EqS s.v).va)(hl:LocH R i q 61 ptrH (BqA X vr L))(hs:s∈L)(ok:okL s.xs):Has R B w0 i x (MgA s.xs).va:=λ a w av=>by
 obtain ⟨g,cs,_,_,_,h⟩:=hl.ok av
 obtain ⟨c,h⟩:=(cN h).1
 rw [lR (hx a w av)]
 exact ws (h.2.2.1 s hs).2 ok
theorem nV {X:BkRest}{x y:Operand}{L:List Slot}{s:Slot}(hx:Has R B w0 i x (EqS s.v).va)(hl:Has R B w0 i y (ElP T (BqA X vr L)))(hs:s∈L)(ok:okL s.xs):Has R B w0 i x (MgA s.xs).va:=λ a w av=>by
 obtain ⟨b,o,cs,_,_,_,h,_⟩:=hl a w av
 obtain ⟨c,h⟩:=(cN h).1
 rw [lR (hx a w av)]
 exact ws (h.2.2.1 s hs).2 ok
theorem nW {X:BkRest}{x y:Operand}{L:List Slot}{s:Slot}(hx:Has R B w0 i x (EqS s.z).va)(hz:s.z=s.u)(hl:Has R B w0 i y (ElP T (BqA X vr L)))(hs:s∈L)(ok:okL s.ys):Has R B w0 i x (MgA s.ys).va:=λ a w av=>by
 obtain ⟨b,o,cs,_,_,_,h,_⟩:=hl a w av
 obtain ⟨c,h⟩:=(cN h).1
 rw [lR (hx a w av),hz]
 exact ws (wL (h.2.2.1 s hs).1) ok
end
theorem Hj {X:BkRest}{L:List Slot}{B i k g cap:Nat}{s:Slot}(hn:∀ s∈L,s.new)(hi:L[i]?=some s)(hk:k<s.xs.length)(hv:s.v=.slice (some ⟨g,0,none⟩) s.xs.length cap)(h:(BqA X vr (fl L i k)).p B cs w):
  B≤g∧∃ c:Array Value,w.heap[g]?=some (Obj.cells c U32 (0,0))∧k*1<c.size∧(BqA X vr (fl L i (k+1))).p B cs (w.setRow g (c.setIfInBounds (k*1) (.int .u32 (mkN s.n:Nat)))):=by
 obtain ⟨c0,h0⟩:=(cN h).1
 have hs:=hn s (qa hi)
 have key:∀ c1,(HbA vr (fl L i k)).p B c1 w→B≤g∧∃ c:Array Value,w.heap[g]?=some (Obj.cells c U32 (0,0))∧k<c.size∧(HbA vr (fl L i (k+1))).p B c1 (w.setRow g (c.setIfInBounds k (lv (mkN s.n)))):=λ c1 h1=>by
  have:=Gl (m:=mkN s.n) (k:=k) (g:=g) (cap:=cap) h1 (Cu hi) hs.uv rfl (by rw [i6 (zD hk)]; exact hv) (by rw [i6 (zD hk)]; exact hk)
  rwa [GI hi hk] at this
 obtain ⟨h2,c,h3,h4,h5⟩:=key c0 h0
 rw [zT]
 refine ⟨h2,c,h3,h4,Ei h h3 zd h2 (λ c1 h6=>?_)⟩
 obtain ⟨_,c',h7,_,h8⟩:=key c1 h6
 rw [h3] at h7
 injection h7 with h7
 injection h7 with h7
 subst h7
 exact h8
theorem rU {X:BkRest}{M:List Slot}{B N:Nat}{s:Nat}(h:St B w0 N Γ Λ a w)(k:Nat)(hm:Λ[k]?=some ⟨s,T,H,BqA X vr M⟩):RowV vr M.length∧∀ t∈M,RowV t.u t.ys.length∧RowV t.v t.xs.length:=by
 obtain ⟨g,cs,_,_,_,hp⟩:=h.locs _ (qa hm)
 obtain ⟨c,h1,h2,h3,_⟩:=(cN hp).1
 exact ⟨(cY h2).2,λ t ht=>⟨(cY (h3 t ht).1).2,(h3 t ht).2.1⟩⟩
theorem bq_one {X:BkRest}{M:List Slot}{B N:Nat}{s:Nat}(h:St B w0 N Γ Λ a w)(k:Nat)(hm:Λ[k]?=some ⟨s,T,H,BqA X vr M⟩)(hz:∀ t∈M,t.z.oneCell'=true∨t.z=t.u):One1 M:=λ t ht=>by
 obtain ⟨h1,h2⟩:=(rU h k hm).2 t ht
 refine ⟨h2.one,?_⟩
 rcases hz t ht with e | e
 ·exact e
 ·rw [e]; exact h1.one
theorem bq_app {X:BkRest}{vr v':Value}{M:List Slot}{B i k:Nat}{s:Slot}{u:Value}(hf:s.full)(hi:M[i]?=some (s.ext u k))(h:(BqA X vr M).p B cs w):
  w.ownsRow B U32 1 u (s.xs.length+k) ((List.replicate (s.xs.length+k) (mkN s.n)).map lv)∧∀ v' w' ds,ds=[lv (mkN s.n)]→w'.ownsRow B U32 1 v' (s.xs.length+k+1) ((List.replicate (s.xs.length+k) (mkN s.n)).map lv++ds)→w.grownBy w' u.ownBlock→(v'.ownBlock=u.ownBlock∨(v'.ownBlock=some w.heap.size∧w.grownBy w' none))→(BqA X vr (M.set i (s.ext v' (k+1)))).p B cs w':=by
 have hlen:(List.replicate (s.xs.length+k) (mkN s.n)).length=s.xs.length+k:=qU
 obtain ⟨c0,h0⟩:=(cN h).1
 have hown0:w.ownsRow B U32 1 u (s.xs.length+k) ((List.replicate (s.xs.length+k) (mkN s.n)).map lv):=by
  have:=(h0.2.2.1 _ (qa hi)).1
  have e:(s.ext u k).ys.length=s.xs.length+k:=hlen
  rw [e] at this
  exact this
 refine ⟨hown0,λ v' w' ds hds hown hg hb=>?_⟩
 subst hds
 refine bq_grL h hg (fM hown0) zd (λ c hc=>?_)
 have:=hb_app (v':=v') (m:=mkN s.n) hc hi (by show World.ownsRow w' B U32 1 v' ((List.replicate (s.xs.length+k) (mkN s.n)).length+1) _; rw [hlen]; exact hown) hg hb λ _=>by
  show s.xs <+: List.replicate (s.xs.length+k) (mkN s.n)
  rw [hf.xm,qU]
  exact ⟨List.replicate k (mkN s.n),List.replicate_append_replicate⟩
 have e:({ s.ext u k with u:=v',ys:=(s.ext u k).ys++[mkN s.n] }:Slot)=s.ext v' (k+1):=by
  show Slot.mk s.v s.xs v' (List.replicate (s.xs.length+k) (mkN s.n)++[mkN s.n]) s.z s.n=Slot.mk s.v s.xs v' (List.replicate (s.xs.length+(k+1)) (mkN s.n)) s.z s.n
  rw [← xJ,x9]
 rw [e] at this
 exact this
theorem bq_put {X:BkRest}{vr z:Value}{M:List Slot}{B i g cap:Nat}{s:Slot}(hi:M[i]?=some s)(hvr:vr=.slice (some ⟨g,0,none⟩) M.length cap)(h:(BqA X vr M).p B cs w):
  B≤g∧∃ c:Array Value,w.heap[g]?=some (Obj.cells c 127 (0,0))∧i*3+1<c.size∧(BqA X vr (M.set i { s with z:=z })).p B cs (w.setRow g (c.setIfInBounds (i*3+1) z)):=by
 obtain ⟨c0,h0⟩:=(cN h).1
 obtain ⟨h2,c,h3,h4,h5⟩:=DU z h0 hi hvr
 refine ⟨h2,c,h3,h4,Ei h h3 zd h2 (λ c1 h6=>?_)⟩
 obtain ⟨_,c',h7,_,h8⟩:=DU z h6 hi hvr
 rw [h3] at h7
 injection h7 with h7
 injection h7 with h7
 subst h7
 exact h8
def GqA (X:BkRest)(vr:Value)(L:List Slot):As where
 n:=17
 ag:=true
 p B cs w:=∃ M,Gr L M L.length∧(BqA X vr M).p B cs w
 deps:=[127,U32,132,3,160,162,125,92]
 len:=λ B cs w ⟨M,_,h⟩=>(BqA X vr M).len B cs w h
 one:=λ B cs w ⟨M,_,h⟩=>(BqA X vr M).one B cs w h
 ag1:=λ h=>by cases h
 cg:=λ B cs w w' hg ⟨M,h1,h⟩=>⟨M,h1,(BqA X vr M).cg B cs w w' hg h⟩
 wr:=λ B cs w w' g c T fz h1 h2 h3 h4 ⟨M,h5,h⟩=>⟨M,h5,(BqA X vr M).wr B cs w w' g c T fz h1 h2 h3 h4 h⟩
theorem gq_of {X:BkRest}{L M:List Slot}(h:Gr L M L.length):WkA (BqA X vr M) (GqA X vr L):=⟨rfl,rfl,λ B cs w hp=>⟨M,h,hp⟩⟩
theorem gq_st {X:BkRest}{L:List Slot}{B N:Nat}{s:Nat}(h:St B w0 N Γ Λ a w)(k:Nat)(hm:Λ[k]?=some ⟨s,T,H,GqA X vr L⟩):∃ M,Gr L M L.length∧St B w0 N Γ (Λ.set k ⟨s,T,H,BqA X vr M⟩) a w:=by
 obtain ⟨g,cs,q1,q2,q3,M,hG,q4⟩:=h.locs _ (qa hm)
 obtain ⟨hk,he⟩:=List.getElem?_eq_some_iff.1 hm
 have hs:∀ m∈Λ.set k ⟨s,T,H,BqA X vr M⟩,∃ m0∈Λ,m0.s=m.s:=λ m hm'=>by
  rcases qp hm' with hm' | rfl
  ·exact ⟨m,hm',rfl⟩
  ·exact ⟨_,qa hm,rfl⟩
 refine ⟨M,hG,h.lo,h.defers,h.size,h.base,h.vals,λ l hl=>?_,λ m1 hm1 m2 hm2 hne=>?_⟩
 ·rcases qp hl with hl | rfl
  ·exact h.locs l hl
  ·exact ⟨g,cs,q1,q2,q3,q4⟩
 ·obtain ⟨m3,r1,r2⟩:=hs m1 hm1
  obtain ⟨m4,r3,r4⟩:=hs m2 hm2
  rw [← r2,← r4] at hne ⊢
  exact h.dis m3 r1 m4 r3 hne
theorem Hi {X:BkRest}{M:List Slot}{B N:Nat}{s:Nat}(h:St B w0 N Γ Λ a w)(k:Nat)(hm:Γ[k]?=some (s,ElP T (BqA X vr M)))(hz:∀ t∈M,t.z=t.u):One1 M:=λ t ht=>by
 obtain ⟨b,o,cs,_,_,_,hp,_⟩:=h.vals _ (qa hm)
 obtain ⟨c,h1,h2,h3,_⟩:=(cN hp).1
 refine ⟨(h3 t ht).2.1.one,?_⟩
 rw [hz t ht]
 exact (cY (h3 t ht).1).1
theorem GK (X:BkRest)(vr:Value)(L:List Slot)(hnew:∀ s∈L,s.new)(hl:L.length≤1000000):CK Tryz.prog 51 61 [61,127,128] (BqA X vr L) (BqA X vr (L.map λ s=>s.fil s.xs.length)) [] (Tu []):=by
 have h0:=GH hnew
 refine CK.intro Tryz.func51 G zk nq zk (λ B g w0 a hrm U=>?_)
 have U:=zn [(0,EqV ((ptrH).f g)),] [⟨0,61,ptrH,BqA X vr L⟩] U
 rw [← h0] at U
 refine qb<|zg [η] [] [.v 2 _] [.g 0,.o 0] U (zv G (a9 a8) o0) (zz [(0,_),(2,_)] [O 0 61 _] λ a w U=>?_)
 refine a7<|ql ?_
 have U:=St.sel U [0,1]
 refine wp_loop_ghost (λ n a w=>∃ i:Nat,n+i=L.length∧St B w0 35 [(0,EqV (ptrH.f g)),(2,In (i:Nat))] [⟨0,61,ptrH,BqA X vr (fl L i 0)⟩] a w) (L.length) ?_ ?_
 ·exact ⟨0,by omega,U⟩
 intro n a w hI
 obtain ⟨i,hn,U⟩:=hI
 have hwL:=fl_wf (i:=i) (k:=0) hnew (λ _ _=>za _)
 refine qb<|qb<|zg [η] [] [.v 5 _,.adr 6 0 (.some 0) True,.adr 7 0 (.some 0) True,.adr 8 0 (.some (0+1)) True,.v 9 _,.v 10 _,.v 11 _] [.g 0,.g 1,.o 6] U (zM 1 G (oc (ob_a G G (fL (lz0 0 G))) (oc (ob_a G G (fK 1 G zk (lz0 0 G))) (oc (ob_a G G (co 2 G zk trivial (lz0 0 G) dk)) (zL 3 0 1 G mh (zv G (bh Tryz.underlying44 (has_wk' (vq 4 G) (hb_sl hwL))) (zv G (aK (vq 0 G) (vq 5 G)) o0))))))) (zz [(0,_),(2,_),(11,_)] [O 0 61 _] λ a w U=>?_)
 refine a7<|ae U (zm 2 G) (λ hb0=>?_) (λ hb0=>?_)
 ·have hi:i<L.length:=by simpa [yU] using hb0
  obtain ⟨s,hs⟩:∃ s,L[i]?=some s:=⟨_,List.getElem?_eq_getElem hi⟩
  have hwf:=hnew s (qa hs)
  refine qh<|zt<|ql<|qb<|bN (sp:=[.adr 14 0 (.some 0) True,.adr 15 0 (.some 0) True,.adr 16 0 (.some (0+1)) True,.v 17 _,.v 18 _,.v 19 _,.v 20 _,.v 3 VT,.sto 0]) 7 2 0 8 OneC [.g 0,.g 1,.o 6] U (oc (ob_a G G (fL (lz0 0 G))) (oc (ob_a G G (fK 0 G zk (lz0 0 G))) (oc (ob_a G G (co 1 G zk trivial (lz0 0 G) dk)) (zL 2 0 1 G mh (zM 1 G (zv G (cv (m:=3) ⟨Tryz.underlying44,by kernel_rfl⟩ uV (has_wk' (vq 3 G) (hb_sl hwL)) (vq 4 G) (pO (Cu hs))) (zv G (aq (vq 5 G) mu) o0))))))) G zd zk zk (zz [(0,_),(2,_),(20,_)] [O 0 61 _] λ a w U=>?_)
  rw [show List.range' 7 2=[7,8] from rfl]
  refine gV (A:=s.view) 2 [0,1] G G U (Str.zero iA) G mu G zd G zk zk (λ a w U=>?_)
  refine bC ?_
  have U:=zn [(0,_),(2,_)] [O 0 61 _,O 3 127 _] U
  refine zt<|zg [η,η] [] [.v 4 _] [.g 0,.g 1,.o 0] U (zv G (a9 a8) o0) (zz [(0,_),(2,_),(4,_)] [O 0 61 _,O 3 127 _] λ a w U=>?_)
  refine a7<|ql ?_
  have U:=St.sel U [0,1,2]
  refine wp_loop_ghost (λ n a w=>∃ k:Nat,n+k=s.xs.length∧St B w0 35 [(0,EqV (ptrH.f g)),(2,In (i:Nat)),(4,In (k:Nat))] [⟨0,61,ptrH,BqA X vr (fl L i k)⟩,⟨3,127,ptrH,s.view⟩] a w) (s.xs.length) ?_ ?_
  ·exact ⟨0,by omega,U⟩
  intro n a w hI
  obtain ⟨k,hn2,U⟩:=hI
  refine qb<|qb<|zg [η,η] [] [.v 21 _,.adr 22 3 (.some 0) True,.v 23 _,.v 24 _,.v 25 _] [.g 0,.g 1,.g 2,.o 4] U (zM 2 G (zO 1 G ec (zL 1 1 0 G aY (zv G (aJ Tryz.underlying26 (Gn (s:=s.fil k) (vq 2 G) (lz0 0 G) (qa (Cu hs)) (A3 hwf.towf))) (zv G (aK (vq 0 G) (vq 3 G)) o0))))) (zz [(0,_),(2,_),(4,_),(25,_)] [O 0 61 _,O 3 127 _] λ a w U=>?_)
  refine a7<|ae U (zm 3 G) (λ hb1=>?_) (λ hb1=>?_)
  ·have hk:k<s.xs.length:=by simpa [i6 (show k≤s.xs.length by omega)] using hb1
   refine qh<|zt<|ql<|t9 (sp:=[.adr 28 3 (.some 0) True,.v 29 _,.v 30 _,.adr 31 3 (.some 2) True,.v 32 _,.v 33 _,.v 34 VT,.sto 0]) [[],[0],[],[],[3],[3,4],[0,1,2,3,4,5],[0,1,2,3,4,5,6]] 6 2 0 7 OneC [.g 0,.g 1,.g 2,.o 1,.o 2,.o 5] aa U (zO 1 G ec (zL 0 1 0 G aY (zM 2 G (zO 1 G gv (zL 3 1 2 G ty_3 (zQ G (DF _ hwf.n1) (.o (vq 4 G)) o0)))))) G zd zd zk (oE zk) zk zk (zz [(0,_),(2,_),(4,_),(29,_),(30,_),(33,_)] [O 0 61 _,O 3 127 _] λ a w U=>?_)
   rw [show List.range' 6 2=[6,7] from rfl]
   obtain ⟨g1,cap1,hv1⟩:=hwf.rv.row hk
   have U:=St.wkG U 3 rfl (show Wk (EqS s.v).va (EqV (.slice (some ⟨g1,0,none⟩) s.xs.length cap1)) from hv1▸oG)
   have U:=St.wkG U 5 rfl Ev
   rw [qv]
   refine ny (m:=1) (k:=k) 3 4 G U ⟨Tryz.underlying26,by kernel_rfl⟩ zd G G hk zd zk zk (λ a U=>?_)
   rw [qv]
   refine rj (A1:=BqA X vr (fl L i (k+1))) [1,2,3] 0 6 0 G U G G G G aM G zd (hrm _ zk) zk zk (λ cs hp=>Hj hnew hs hk hv1 hp) (λ w U=>?_)
   refine df ?_
   have U:=zn [(0,_),(2,_),(4,_)] [⟨0,61,ptrH,BqA X vr (fl L i (k+1))⟩,O 3 127 _] U
   refine am ?_
   refine a7<|zg [η,η] [] [.v 26 _,.v 27 _,.v 4 _] [.g 0,.g 1,.o 2] U (zM 2 G (zv G (aQ (vq 0 G) a8 (aW (by have:=hwf.lx; omega))) (zA 1 G o0))) (zz [(0,_),(2,_),(4,_)] [O 0 61 _,O 3 127 _] λ a w U=>?_)
   refine a7 ?_
   have U:=St.sel U [0,1,2]
   exact ⟨n-1,by omega,k+1,by omega,U⟩
  ·have hk:k=s.xs.length:=by simp [i6 (show k≤s.xs.length by omega)] at hb1; omega
   subst hk
   refine qK<|ah<|ah<|ay<|am ?_
   refine a7<|zg [η,η] [] [.v 12 _,.v 13 _,.v 2 _] [.g 0,.o 2] U (zM 1 G (zv G (aQ (vq 0 G) a8 (aW (by have:=hwf.lx; omega))) (zA 1 G o0))) (zz [(0,_),(2,_)] [O 0 61 _,O 3 127 _] λ a w U=>?_)
   refine a7 ?_
   have U:=St.sel U [0,1]
   have U:=St.selL U [0]
   exact ⟨L.length-(i+1),by omega,i+1,by omega,(GJ hs hnew)▸U⟩
 ·have hi:i=L.length:=by simp [yU] at hb0; omega
  subst hi
  rw [fl_end] at U
  refine qK<|ah<|ah<|ay<|cc<|fG U (zm 0 G) (zm 0 G) ?_
  exact aE (rs:=[]) G U .nil zd
theorem Gq (X:BkRest)(vr:Value)(L:List Slot)(hfull:∀ s∈L,s.full)(hl:L.length≤1000000):CK Tryz.prog 67 61 [61,127,128] (BqA X vr L) (GqA X vr L) [] (Tu []):=by
 obtain ⟨it0,z0,hi0,hz0,hs0,hb0',hc0⟩:=CT
 refine CK.intro Tryz.func67 G zk nq zk (λ B g w0 a hrm U=>?_)
 have U:=zn [(0,EqV ((ptrH).f g)),] [⟨0,61,ptrH,BqA X vr L⟩] U
 refine qb<|zg [η] [] [.v 2 _] [.g 0,.o 0] U (zv G (a9 a8) o0) (zz [(0,_),(2,_)] [O 0 61 _] λ a w U=>?_)
 refine a7<|ql ?_
 have U:=St.sel U [0,1]
 refine wp_loop_ghost (λ n a w=>∃ (i:Nat) (M:List Slot),(n+i=L.length∧Gr L M i)∧St B w0 42 [(0,EqV (ptrH.f g)),(2,In (i:Nat))] [⟨0,61,ptrH,BqA X vr M⟩] a w) (L.length) ?_ ?_
 ·exact ⟨0,L,⟨by omega,gr_0⟩,U⟩
 intro n a w hI
 obtain ⟨i,M,⟨hn,hG⟩,U⟩:=hI
 have h1M:=bq_one U 0 rfl (gr_z hG hfull)
 refine qb<|qb<|zg [η] [] [.v 6 _,.adr 7 0 (.some 0) True,.adr 8 0 (.some 0) True,.adr 9 0 (.some (0+1)) True,.v 10 _,.v 11 _,.v 12 _] [.g 0,.g 1,.o 6] U (zM 1 G (oc (ob_a G G (fL (lz0 0 G))) (oc (ob_a G G (fK 1 G zk (lz0 0 G))) (oc (ob_a G G (co 2 G zk trivial (lz0 0 G) dk)) (zL 3 0 1 G mh (zv G (bh Tryz.underlying44 (has_wk' (vq 4 G) (t6 h1M))) (zv G (aK (vq 0 G) (vq 5 G)) o0))))))) (zz [(0,_),(2,_),(12,_)] [O 0 61 _] λ a w U=>?_)
 refine a7<|ae U (zm 2 G) (λ hb0=>?_) (λ hb0=>?_)
 ·have hi:i<L.length:=by have:=hG.1; simpa [this] using hb0
  obtain ⟨s,hs⟩:∃ s,L[i]?=some s:=⟨_,List.getElem?_eq_getElem hi⟩
  have hf:=hfull s (qa hs)
  have hn1:=hf.n1
  have hMi:=gr_at hG hs
  have hMlt:i<M.length:=by rw [hG.1]; exact hi
  refine qh<|zt<|ql<|qb<|bN (sp:=[.adr 15 0 (.some 0) True,.adr 16 0 (.some 0) True,.adr 17 0 (.some (0+1)) True,.v 18 _,.v 19 _,.v 20 _,.v 21 _,.v 3 VT,.sto 0]) 7 2 0 8 OneC [.g 0,.g 1,.o 6] U (oc (ob_a G G (fL (lz0 0 G))) (oc (ob_a G G (fK 0 G zk (lz0 0 G))) (oc (ob_a G G (co 1 G zk trivial (lz0 0 G) dk)) (zL 2 0 1 G mh (zM 1 G (zv G (cv (m:=3) ⟨Tryz.underlying44,by kernel_rfl⟩ uV (has_wk' (vq 3 G) (t6 h1M)) (vq 4 G) (pO hMi)) (zv G (aq (vq 5 G) mu) o0))))))) G zd zk zk (zz [(0,_),(2,_),(21,_)] [O 0 61 _] λ a w U=>?_)
  rw [show List.range' 7 2=[7,8] from rfl]
  refine gV (A:=s.view) 2 [0,1] G G U (Str.zero iA) G mu G zd G zk zk (λ a w U=>?_)
  refine bC ?_
  have U:=zn [(0,_),(2,_)] [O 0 61 _,O 3 127 _] U
  refine zt<|zg [η,η] [] [.adr 22 3 (.some 0) True,.v 23 _,.v 4 _] [.g 0,.g 1,.o 2] U (zO 1 G ec (zL 0 1 0 G aY (zA 1 G o0))) (zz [(0,_),(2,_),(4,_)] [O 0 61 _,O 3 127 _] λ a w U=>?_)
  refine zt<|qb<|zg [η,η] [] [.v 5 _] [.g 0,.g 1,.g 2,.o 0] U (zv G (a9 a8) o0) (zz [(0,_),(2,_),(4,_),(5,_)] [O 0 61 _,O 3 127 _] λ a w U=>?_)
  refine a7<|ql ?_
  have U:=St.sel U [0,1,2,3]
  refine wp_loop_ghost (λ n a w=>∃ (k:Nat) (u:Value),n+k=70∧St B w0 42 [(0,EqV (ptrH.f g)),(2,In (i:Nat)),(4,EqV u),(5,In (k:Nat))] [⟨0,61,ptrH,BqA X vr (M.set i (s.ext u k))⟩,⟨3,127,ptrH,s.view⟩] a w) (70) ?_ ?_
  ·have U:=St.cvA (A':=BqA X vr (M.set i (s.ext s.v 0))) U 0 rfl (show BqA X vr M=_ by rw [ext_0 hf,Bj hMi]); have U:=St.wkG U 2 rfl oG; exact ⟨0,s.v,by omega,U⟩
  intro n a w hI
  obtain ⟨k,u,hn2,U⟩:=hI
  refine qb<|qb<|zg [η,η] [] [.v 24 _,.v 25 _] [.g 0,.g 1,.g 2,.g 3,.o 1] U (zM 3 G (zv G (aK (vq 0 G) a8) o0)) (zz [(0,_),(2,_),(4,_),(5,_),(25,_)] [O 0 61 _,O 3 127 _] λ a w U=>?_)
  refine a7<|ae U (zm 4 G) (λ hb1=>?_) (λ hb1=>?_)
  ·have hk:k<70:=by have:=hb1; simp at this; omega
   refine qh<|zt<|ql<|bN (sp:=[.v 28 _,.adr 29 3 (.some 2) True,.v 30 _,.v 31 _,.v 32 _,.v 33 VT,.v 4 VT]) 5 2 99 9 OneC [.g 0,.g 1,.g 3,.o 0,.o 4] U (zM 2 G (zO 1 G gv (zL 1 1 2 G ty_3 (zQ G (DF _ hn1) (.o (vq 2 G)) (zv G (dh (l:=[_]) (xs:=[.tmp 31]) bb zk nq nq (okm hn1) (.o (vq 3 G)) G G) o0))))) G zd zk zk (zz [(0,_),(2,_),(5,_),(28,_),(32,_)] [O 0 61 _,O 3 127 _] λ a w U=>?_)
   rw [show List.range' 5 2=[5,6] from rfl]
   have U:=St.wkG U 4 rfl HD
   rw [qv]
   refine gX (A1:=λ v'=>BqA X vr (M.set i (s.ext v' (k+1)))) (X:=NumA .u32 (mkN s.n:Nat)) (F:=λ ds=>ds=[lv (mkN s.n)]) [0,1,2] 3 4 0 rfl U rfl rfl (λ ds h=>h) rfl rfl rfl (hrm _ zk) Tryz.underlying26 hi0 hz0 hs0 hb0' hc0 Nat.one_pos (n:=s.xs.length+k) (by have:=hf.lx; omega) (by have:=hf.lx; omega) zd zk zk zk zk (λ cs hp=>by have h:=bq_app (v':=undef) hf (by rw [List.getElem?_set_self hMlt]) hp; simp only [w3] at h; exact h) (λ v' w U=>?_)
   rw [qv]
   refine wR 0 G U G zd zk zk (λ a U=>?_)
   refine bC ?_
   have U:=zn [(4,_),(33,_),(0,_),(2,_),(5,_)] [⟨0,61,ptrH,BqA X vr (M.set i (s.ext v' (k+1)))⟩,O 3 127 _] U
   refine am ?_
   refine a7<|zg [η,η] [] [.v 26 _,.v 27 _,.v 5 _] [.g 0,.g 2,.g 3,.o 2] U (zM 4 G (zv G (aQ (vq 0 G) a8 (aW zo)) (zA 1 G o0))) (zz [(4,_),(0,_),(2,_),(5,_)] [O 0 61 _,O 3 127 _] λ a w U=>?_)
   refine a7 ?_
   have U:=St.sel U [1,2,0,3]
   exact ⟨n-1,by omega,k+1,v',by omega,U⟩
  ·have hk:k=70:=by simp at hb1; omega
   subst hk
   have hu:=((rU U 0 rfl).2 _ (List.mem_set hMlt _)).1
   have hu1:=hu.one
   have hu2:u.cells = #[u]:=hu.cell
   refine qK<|ah<|ah<|ay<|a7<|bN (sp:=[.adr 34 0 (.some 0) True,.adr 35 0 (.some 0) True,.adr 36 0 (.some (0+1)) True,.v 37 _,.v 38 _,.v 39 _,.v 40 VT,.v 41 VT,.sto 0]) 6 3 0 8 OneC [.g 0,.g 1,.o 3,.o 4,.o 5] U (oc (ob_a G G (fL (lz0 0 G))) (oc (ob_a G G (fK 0 G zk (lz0 0 G))) (oc (ob_a G G (co 1 G zk trivial (lz0 0 G) dk)) (zL 2 0 1 G mh (zM 1 G (zM 2 G o0)))))) G zd zk zk (zz [(0,_),(2,_),(37,_),(38,_),(39,_)] [O 0 61 _,O 3 127 _] λ a w U=>?_)
   rw [show List.range' 6 3=[6,7,8] from rfl]
   have U:=St.selL U [0]
   have U:=St.wkG U 2 rfl Gm
   have hvr:=(rU U 0 rfl).1
   obtain ⟨g1,cap1,hv1⟩:=hvr.row (show i<_ by rw [qS,hG.1]; exact hi)
   have U:=St.cvG U 2 rfl (qk EqV hv1)
   rw [qv]
   refine ny (m:=3) (k:=i) 2 3 G U ⟨Tryz.underlying44,by kernel_rfl⟩ zd G G (by rw [qS,hG.1]; exact hi) zd zk zk (λ a U=>?_)
   rw [qv]
   refine gW 0 G U gw G zd zk zk (λ a U=>?_)
   rw [qv]
   refine rj (A1:=BqA X vr ((M.set i (s.ext u 70)).set i { s.ext u 70 with z:=u })) [2,3] 0 6 0 G U G G hu1 hu2 aY G zd (hrm _ zk) zk zk (λ cs hp=>bq_put (by rw [List.getElem?_set_self hMlt]) hv1 hp) (λ w U=>?_)
   refine df ?_
   have U:=zn [(0,_),(2,_)] [O 0 61 _] U
   refine am ?_
   refine a7<|zg [η] [] [.v 13 _,.v 14 _,.v 2 _] [.g 0,.o 2] U (zM 1 G (zv G (aQ (vq 0 G) a8 (aW zo)) (zA 1 G o0))) (zz [(0,_),(2,_)] [O 0 61 _] λ a w U=>?_)
   refine a7 ?_
   have U:=St.sel U [0,1]
   exact ⟨L.length-(i+1),by omega,i+1,_,⟨by omega,Gv hG hs⟩,(w3 (M:=M) (i:=i))▸U⟩
 ·have hi:i=L.length:=by have:=hG.1; simp [this] at hb0; omega
  subst hi
  have U:=St.wkL (A':=GqA X vr L) U 0 rfl (gq_of hG)
  refine qK<|ah<|ah<|ay<|cc<|fG U (zm 0 G) (zm 0 G) ?_
  exact aE (rs:=[]) G U .nil zd
theorem G1 (X:BkRest)(vr:Value)(M:List Slot)(hdone:∀ t∈M,t.done)(hl:M.length≤1000000):Cn Tryz.prog 83 [ElP 61 (BqA X vr M)] (Bo true):=by
 refine Cn.intro Tryz.func83 G zk nq (λ B w0 a U=>?_)
 have U:=zn [(0,ElP 61 (BqA X vr M))] [] U
 have h1M:=Hi U 0 rfl (λ t ht=>(hdone t ht).zu)
 refine qb<|zh [.v 2 _] [.g 0,.o 0] U (zv G (a9 aB) o0) (zz [(0,_),(2,_)] [] λ a w U=>?_)
 refine zt<|qb<|zh [.v 3 _] [.g 0,.g 1,.o 0] U (zv G (a9 a8) o0) (zz [(0,_),(2,_),(3,_)] [] λ a w U=>?_)
 refine a7<|ql ?_
 have U:=St.sel U [0,2]
 refine wp_loop_ghost (λ n a w=>∃ (i:Nat),n+i=M.length∧St B w0 64 [(0,ElP 61 (BqA X vr M)),(3,In (i:Nat))] [] a w) (M.length) ?_ ?_
 ·exact ⟨0,by omega,U⟩
 intro n a w hI
 obtain ⟨i,hn,U⟩:=hI
 refine qb<|qb<|zh [.v 6 _,.v 7 _,.v 8 _,.v 9 _,.v 10 _,.v 11 _,.v 12 _] [.g 0,.g 1,.o 6] U (zM 1 G (zM 0 G (zv G (bv (vq 1 G)) (zv G (aA (vq 2 G) dk (Sub.part 1 G G)) (zv G (aq (vq 3 G) mh) (zv G (bh Tryz.underlying44 (has_wk' (vq 4 G) (t6 h1M))) (zv G (aK (vq 0 G) (vq 5 G)) o0))))))) (zz [(0,_),(3,_),(12,_)] [] λ a w U=>?_)
 refine a7<|ae U (zm 2 G) (λ hb0=>?_) (λ hb0=>?_)
 ·have hi:i<M.length:=by have:=hb0; simp at this; omega
  obtain ⟨t,ht⟩:∃ t,M[i]?=some t:=⟨_,List.getElem?_eq_getElem hi⟩
  have hmem:=qa ht
  have hd:=hdone t hmem
  refine qh<|zt<|ql<|qb<|ta (sp:=[.v 15 _,.v 16 _,.v 17 _,.v 18 _,.v 19 _,.v 20 _,.v 21 _,.alc 0,.sto 0]) 7 2 4 [.g 0,.g 1,.o 6] U (zM 0 G (zv G (bv (vq 0 G)) (zv G (aA (vq 1 G) dk (Sub.part 1 G G)) (zv G (aq (vq 2 G) mh) (zM 1 G (zv G (cv (m:=3) ⟨Tryz.underlying44,by kernel_rfl⟩ uV (has_wk' (vq 3 G) (t6 h1M)) (vq 4 G) (pO ht)) (zv G (aq (vq 5 G) mu) o0))))))) G zk zk (zz [(0,_),(3,_),(21,_)] [] λ a w U=>?_)
  rw [show List.range' 7 2=[7,8] from rfl]
  refine gV (A:=t.view) 2 [0,1] G G U (Str.zero iA) G mu G zd G zk zk (λ a w U=>?_)
  refine bC ?_
  have U:=zn [(0,_),(3,_)] [O 4 127 _] U
  refine zt<|qb<|zg [η] [] [.adr 22 4 (.some 1) True,.v 23 _,.v 24 _,.adr 25 4 (.some 0) True,.v 26 _,.v 27 _,.v 28 _,.v 29 _] [.g 0,.g 1,.o 7] U (zO 0 G gw (zL 0 0 1 G aY (zv G (aJ Tryz.underlying26 (nW (vq 1 G) hd.zu (gq 0 G) hmem (Ai hd))) (zO 0 G ec (zL 3 0 0 G aY (zv G (aJ Tryz.underlying26 (nV (vq 4 G) (gq 0 G) hmem (Aj hd))) (zv G (aQ (vq 5 G) a8 (HE hd.lx)) (zv G (ci (vq 2 G) (vq 6 G)) o0)))))))) (zz [(0,_),(3,_),(29,_)] [O 4 127 _] λ a w U=>?_)
  refine a7<|ae U (zm 2 G) (λ hb1=>?_) (λ hb1=>?_)
  ·exact absurd hb1 (by rw [ou hd]; simp)
  ·refine qh<|zt<|zg [η] [] [.v 5 _] [.g 0,.g 1,.o 0] U (zv G (a9 a8) o0) (zz [(0,_),(3,_),(5,_)] [O 4 127 _] λ a w U=>?_)
   refine a7<|ql ?_
   have U:=St.sel U [0,1,2]
   refine wp_loop_ghost (λ n a w=>∃ (k:Nat),n+k=t.ys.length∧St B w0 64 [(0,ElP 61 (BqA X vr M)),(3,In (i:Nat)),(5,In (k:Nat))] [⟨4,127,ptrH,t.view⟩] a w) (t.ys.length) ?_ ?_
   ·exact ⟨0,by omega,U⟩
   intro n a w hI
   obtain ⟨k,hn2,U⟩:=hI
   refine qb<|qb<|zg [η] [] [.v 30 _,.adr 31 4 (.some 1) True,.v 32 _,.v 33 _,.v 34 _] [.g 0,.g 1,.g 2,.o 4] U (zM 2 G (zO 0 G gw (zL 1 0 1 G aY (zv G (aJ Tryz.underlying26 (nW (vq 2 G) hd.zu (gq 0 G) hmem (Ai hd))) (zv G (aK (vq 0 G) (vq 3 G)) o0))))) (zz [(0,_),(3,_),(5,_),(34,_)] [O 4 127 _] λ a w U=>?_)
   refine a7<|ae U (zm 3 G) (λ hb2=>?_) (λ hb2=>?_)
   ·have hk:k<t.ys.length:=by have:=hb2; simp at this; omega
    refine qh<|zt<|ql<|qb<|f9 (anc:=[[],[0],[],[0,1,2],[0,1,2,3],[],[5],[0,1,2,3,4,5,6],[0,1,2,3,4,5,6,7],[0,1,2,3,4,5,6,7,8],[0,1,2,3,4,5,6,7,8,9],[0,1,2,3,4,5,6,7,8,9],[0,1,2,3,4,5,6,7,8,9,11],[0,1,2,3,4,5,6,7,8,9,11,12],[0,1,2,3,4,5,6,7,8,9,10,11,12,13],[0,1,2,3,4,5,6,7,8,9,10,11,12,13,14],[0,1,2,3,4,5,6,7,8,9,10,11,12,13,14,15],[0,1,2,3,4,5,6,7,8,9,10,11,12,13,14,15,16],[0,1,2,3,4,5,6,7,8,9,10,11,12,13,14,15],[0,1,2,3,4,5,6,7,8,9,10,11,12,13,14,15,16,17,18],[0,1,2,3,4,5,6,7,8,9,10,11,12,13,14,15,16,17,18,19],[0,1,2,3,4,5,6,7,8,9,10,11,12,13,14,15],[0,1,2,3,4,5,6,7,8,9,10,11,12,13,14,15,21],[0,1,2,3,4,5,6,7,8,9,10,11,12,13,14,15,16,17,18,19,20,21,22],[0,1,2,3,4,5,6,7,8,9,10,11,12,13,14,15,16,17,18,19,20,21,22,23],[0,1,2,3,4,5,6,7,8,9,10,11,12,13,14,15,16,17,18,19,20,21,22,23,24],[0,1,2,3,4,5,6,7,8,9,10,11,12,13,14,15,16,17,18,19,20,21,22,23,24,25]]) (sts:=[none]) (news:=[]) (sp:=((.adr 37 4 (.some 1) True:Sp)::(.v 38 _)::(.v 39 _)::(.v 40 _)::(.v 41 _)::(.adr 42 4 (.some 2) True)::(.v 43 _)::(.v 44 _)::(.v 45 _)::(.v 46 _)::(.f 47 _)::(.adr 48 4 (.some 0) (_=false))::(.f 49 _)::(.f 50 _)::(.f 51 _)::(.f 52 _)::(.adr 53 4 (.some 0) ((_=false)∧_=true))::(.v 54 (Wh ((_=false)∧_=true) _))::(.v 55 (Wh ((_=false)∧_=true) _))::(.v 56 (Wh ((_=false)∧_=true) _))::(.v 57 (Wh ((_=false)∧_=true) _))::(.adr 58 4 (.some 2) ((_=false)∧_=true))::(.v 59 (Wh ((_=false)∧_=true) _))::(.v 60 (Wh ((_=false)∧_=true) _))::(.v 61 (Wh ((_=false)∧_=true) _))::(.f 62 _)::(.v 63 _)::[])) [.g 0,.g 1,.g 2,.o 26] aa U (zO 0 G gw (zL 0 0 1 G aY (zM 2 G (zv G (bK ⟨Tryz.underlying26,by kernel_rfl⟩ (nW (vq 1 G) hd.zu (gq 0 G) hmem (Ai hd)) (vq 2 G) hk) (zv G (aq (vq 3 G) aM) (zO 0 G gv (zL 5 0 2 G ty_3 (zQ G (sY _ _ hd.n1) (.p (vq 4 G) (vq 6 G)) (zv G (cW (vq 7 G)) (zv G (ab (vq 8 G)) (zB 9 G (λ hg=>ab (gq 2 G)) (zC 9 0 G ec (zB 9 G (λ hg=>ax 11 G zk hg (lz0 0 G) (Sub.part 0 G G) aY) (zB 9 G (λ hg=>aJ Tryz.underlying26 (nV (ac (vq 12 G) hg) (gq 0 G) hmem (Aj hd))) (zB 9 G (λ hg=>aK (ac (vq 10 G) hg) (ac (vq 13 G) hg)) (zB 9 G (λ hg=>ab (ac (vq 14 G) hg)) (oc (fJ G G G (vq 15 G) nq (λ hg=>dB (lz0 0 G) ec)) (oc (bJ G G G (vq 15 G) nq (λ hg=>ax 16 G zk hg (lz0 0 G) (Sub.part 0 G G) aY)) (oc (bJ G G G (vq 15 G) nq (λ hg=>ab (gq 2 G))) (oc (bJ G G G (vq 15 G) nq (λ hg=>nk ⟨Tryz.underlying26,by kernel_rfl⟩ (nV (ac (vq 17 G) hg) (gq 0 G) hmem (Aj hd)) (ac (vq 18 G) hg) (by have:=hg; simp at this; omega))) (oc (bJ G G G (vq 15 G) nq (λ hg=>aq (ac (vq 19 G) hg) aM)) (oc (fJ G G G (vq 15 G) nq (λ hg=>dB (lz0 0 G) gv)) (oc (bJ G G G (vq 15 G) nq (λ hg=>ax 21 G zk hg (lz0 0 G) (Sub.part 2 G G) ty_3)) (oc (bJ G G G (vq 15 G) nq (λ hg=>aX (sY _ _ hd.n1) (.p (ac (vq 20 G) hg) (ac (vq 22 G) hg)))) (oc (bJ G G G (vq 15 G) nq (λ hg=>cW (ac (vq 23 G) hg))) (zB 9 G (λ hg=>bG (ac (vq 15 G) hg) (eZ (vq 24 G) hg)) (zv G (r_or (vq 9 G) (vq 25 G)) o0))))))))))))))))))))))))))) zk zk zk zk (zz [(0,_),(3,_),(5,_),(63,_)] [O 4 127 _] λ a w U=>?_)
    refine a7<|ae U (zm 3 G) (λ hb3=>?_) (λ hb3=>?_)
    ·exact absurd (hb3.symm.trans (G0 hd hk)) zd
    ·refine qh<|am ?_
     refine a7<|zg [η] [] [.v 35 _,.v 36 _,.v 5 _] [.g 0,.g 1,.o 2] U (zM 2 G (zv G (aQ (vq 0 G) a8 (aW (by have:=hd.lx; have:=ou hd; omega))) (zA 1 G o0))) (zz [(0,_),(3,_),(5,_)] [O 4 127 _] λ a w U=>?_)
     refine a7 ?_
     have U:=St.sel U [0,1,2]
     exact ⟨n-1,by omega,k+1,by omega,U⟩
   ·have hk:k=t.ys.length:=by have:=hb2; simp at this; omega
    refine qK<|ah<|ah<|ay<|am ?_
    refine a7<|zg [η] [] [.v 13 _,.v 14 _,.v 3 _] [.g 0,.o 2] U (zM 1 G (zv G (aQ (vq 0 G) a8 (aW zo)) (zA 1 G o0))) (zz [(0,_),(3,_)] [O 4 127 _] λ a w U=>?_)
    refine a7 ?_
    have U:=St.sel U [0,1]
    have U:=St.selL U []
    exact ⟨M.length-(i+1),by omega,i+1,by omega,U⟩
 ·have hi:i=M.length:=by have:=hb0; simp at this; omega
  refine qK<|ah<|ah<|ay<|zt<|zh [.v 2 _] [.g 0,.o 0] U (zv G (a9 aB) o0) (zz [(0,_),(2,_)] [] λ a w U=>?_)
  exact a7<|qe<|an G U (zm 1 G)
end Go.Proofs.YtkpifdpdeanjfaaGreatDoor
