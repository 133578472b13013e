import Derived.Test.YtedfcalhhldijaaGreatDoorRwAh
set_option linter.all false
set_option maxRecDepth 100000
namespace Go.Proofs.YtedfcalhhldijaaGreatDoor
open Go Go.RowKit
variable {w:World}{B:Nat}{a:Act}{v:Value}{T:TypeId}{w0:Bs}{Γ:List (Nat × VA)}{Λ:List Lc}{ps:String}{af:Array Edge}{vr:Value}{H:Hd}{cs:List Value}{w':World}{P:Program}{D:List TypeId}
def lv (x:Nat):Value:=.int .u32 x
structure Slot where
 v:Value
 xs:List Nat
 u:Value
 ys:List Nat
 z:Value
 n:Nat
def Slot.cells (s:Slot):List Value:=[s.v,s.z,.int .i64 s.n]
def RowV (v:Value)(n:Nat):Prop:=(v=.slice none 0 0∧n=0)∨∃ g cap,v=.slice (some ⟨g,0,none⟩) n cap∧n≤cap∧cap≤maxLen
def Rdy (B:Nat)(w:World)(v:Value)(xs:List Nat):Prop:=RowV v xs.length∧∀ g,v.ownBlock=some g→B≤g∧∃ c,w.heap[g]?=some (Obj.cells c U32 (0,0))∧c.toList.take xs.length=xs.map lv
def Slot.ok (B:Nat)(w:World)(s:Slot):Prop:=w.ownsRow B U32 1 s.u s.ys.length (s.ys.map lv)∧Rdy B w s.v s.xs
def Slot.has (s:Slot)(g:Nat):Prop:=s.v.ownBlock=some g∨s.u.ownBlock=some g
def Apt (L:List Slot):Prop:=∀ (i j:Nat) (s t:Slot),L[i]?=some s→L[j]?=some t→i≠j→∀ g,s.has g→¬ t.has g
theorem fN {E m n B:Nat}{xs:List Value}(h:w.ownsRow B E m v n xs)(hk:∀ (g:Nat) (c:Array Value),v.ownBlock=some g→w.heap[g]?=some (Obj.cells c E (0,0))→w'.heap[g]?=some (Obj.cells c E (0,0))):w'.ownsRow B E m v n xs:=by
 refine ⟨h.1,?_⟩
 rcases h.2 with h1 | ⟨g,cap,cur,rfl,h2,h3,h4⟩
 ·exact .inl h1
 ·exact .inr ⟨g,cap,cur,rfl,h2,hk g cur G h3,h4⟩
theorem Rdy.keep {xs:List Nat}(h:Rdy B w v xs)(hk:∀ (g:Nat) (c:Array Value),v.ownBlock=some g→w.heap[g]?=some (Obj.cells c U32 (0,0))→w'.heap[g]?=some (Obj.cells c U32 (0,0))):Rdy B w' v xs :=
 ⟨h.1,λ g hg=>by
  obtain ⟨h1,c,h2,h3⟩:=h.2 g hg
  exact ⟨h1,c,hk g c hg h2,h3⟩⟩
theorem Slot.ok.keep {B:Nat}{s:Slot}{w w':World}(h:s.ok B w)(hk:∀ (g:Nat) (c:Array Value),s.has g→w.heap[g]?=some (Obj.cells c U32 (0,0))→w'.heap[g]?=some (Obj.cells c U32 (0,0))):s.ok B w' :=
 ⟨fN h.1 λ g c hg=>hk g c (.inr hg),h.2.keep λ g c hg=>hk g c (.inl hg)⟩
theorem Slot.ok.lt {s:Slot}(h:s.ok B w){g:Nat}(hg:s.has g):B≤g∧∃ c,w.heap[g]?=some (Obj.cells c U32 (0,0)):=by
 rcases hg with hg | hg
 ·obtain ⟨h1,c,h2,_⟩:=h.2.2 g hg
  exact ⟨h1,c,h2⟩
 ·rcases h.1.2 with ⟨e,_⟩ | ⟨g',cap,cur,e,h2,h3,_⟩
  ·rw [e] at hg; cases hg
  ·rw [e] at hg
   have:g'=g:=by simpa [Value.ownBlock] using hg
   subst this
   exact ⟨h2,cur,h3⟩
def HbA (vr:Value)(L:List Slot):As where
 n:=1
 ag:=false
 p B cs w:=cs=[vr]∧w.ownsRow B 133 3 vr L.length (L.flatMap Slot.cells)∧(∀ s∈L,s.ok B w)∧Apt L
 deps:=[133,U32]
 len:=by rintro B cs w ⟨rfl,_⟩; rfl
 one:=by
  rintro B cs w ⟨rfl,h,_⟩ c hc
  obtain rfl:=qn.1 hc
  rcases h.2 with ⟨rfl,_⟩ | ⟨g,cap,cur,rfl,_⟩ <;> rfl
 ag1:=λ _=>rfl
 cg:=λ B cs w w' hg ⟨h1,h2,h3,h4⟩=>⟨h1,fN h2 λ g c _ h=>hg.heap h,λ s hs=>(h3 s hs).keep λ g c _ h=>hg.heap h,h4⟩
 wr:=by
  rintro B cs w w' g c T fz hgc hT hB hW ⟨h1,h2,h3,h4⟩
  simp only [qt,z5,or_false,not_or] at hT
  have hne:∀ (g':Nat) (c':Array Value) (E:TypeId),(E=133∨E=U32)→w.heap[g']?=some (Obj.cells c' E (0,0))→w'.heap[g']?=some (Obj.cells c' E (0,0)):=λ g' c' E hE h=>by
   rw [hW.block g' (λ e=>?_)]
   ·exact h
   ·subst e
    rw [hgc] at h
    injection h with h
    injection h with _ h _
    subst h
    rcases hE with e | e
    ·exact hT.1 e
    ·exact hT.2 e
  exact ⟨h1,fN h2 λ g c _ h=>hne g c _ (.inl G) h,λ s hs=>(h3 s hs).keep λ g c _ h=>hne g c _ (.inr G) h,h4⟩
theorem sc {α:Type}{f:Slot→List α}:∀ {L:List Slot} {i:Nat} {s s':Slot},L[i]?=some s→f s'=f s→(L.set i s').flatMap f=L.flatMap f
 | x::L,0,s,s',h,e=>by
  simp at h
  subst h
  simp [e]
 | x::L,i+1,s,s',h,e=>by
  simp only [j0,xz]
  rw [sc (by simpa using h) e]
theorem DG {L:List Slot}{B i:Nat}{s s':Slot}(h:(HbA vr L).p B cs w)(hi:L[i]?=some s)(hc:s'.cells=s.cells)(hok:s'.ok B w')
  (hrow:∀ (g:Nat) (c:Array Value),w.heap[g]?=some (Obj.cells c 133 (0,0))→w'.heap[g]?=some (Obj.cells c 133 (0,0))) (hoth:∀ (g:Nat) (c:Array Value),¬ s.has g→w.heap[g]?=some (Obj.cells c U32 (0,0))→w'.heap[g]?=some (Obj.cells c U32 (0,0)))
  (hblk:∀ g,s'.has g→s.has g∨w.heap.size≤g):(HbA vr (L.set i s')).p B cs w':=by
 obtain ⟨h1,h2,h3,h4⟩:=h
 have hlt:i<L.length:=(List.getElem?_eq_some_iff.1 hi).1
 have hfar:∀ (j:Nat) t,L[j]?=some t→j≠i→∀ g,t.has g→¬ s'.has g:=λ j t hj hne g hg hg'=>by
  rcases hblk g hg' with h5 | h5
  ·exact h4 j i t s hj hi hne g hg h5
  ·obtain ⟨_,c,h6⟩:=(h3 t (qa hj)).lt hg
   have:=(Array.getElem?_eq_some_iff.1 h6).1
   omega
 refine ⟨h1,?_,λ t ht=>?_,λ j k t1 t2 hj hk hne g hg hg'=>?_⟩
 ·rw [zG,sc hi hc]
  exact fN h2 λ g c _ h=>hrow g c h
 ·obtain ⟨j,hj⟩:=List.getElem?_of_mem ht
  by_cases e:j=i
  ·subst e
   rw [List.getElem?_set_self hlt] at hj
   injection hj with hj
   subst hj
   exact hok
  ·rw [List.getElem?_set_ne (λ e2=>e e2.symm)] at hj
   exact (h3 t (qa hj)).keep λ g c hg hh=>hoth g c (λ hs=>h4 j i t s hj hi e g hg hs) hh
 ·by_cases e:j=i
  ·subst e
   rw [List.getElem?_set_self hlt] at hj
   injection hj with hj
   subst hj
   rw [List.getElem?_set_ne hne] at hk
   exact hfar k t2 hk (λ e=>hne e.symm) g hg' hg
  ·rw [List.getElem?_set_ne (λ e2=>e e2.symm)] at hj
   by_cases e2:k=i
   ·subst e2
    rw [List.getElem?_set_self hlt] at hk
    injection hk with hk
    subst hk
    exact hfar j t1 hj e g hg hg'
   ·rw [List.getElem?_set_ne (λ e3=>e2 e3.symm)] at hk
    exact h4 j k t1 t2 hj hk hne g hg hg'
theorem take_set {c:List Value}{xs:List Nat}{k m:Nat}(h:c.take xs.length=xs.map lv):(c.set k (lv m)).take xs.length=(xs.set k m).map lv:=by
 rw [List.take_set,h,List.map_set]
theorem Gh {L:List Slot}{B i k g cap m:Nat}{s:Slot}(h:(HbA vr L).p B cs w)(hi:L[i]?=some s)(hu:s.u=s.v)(hy:s.ys=s.xs)(hv:s.v=.slice (some ⟨g,0,none⟩) s.xs.length cap)(hk:k<s.xs.length):
  B≤g∧∃ c:Array Value,w.heap[g]?=some (Obj.cells c U32 (0,0))∧k<c.size∧(HbA vr (L.set i { s with xs:=s.xs.set k m,ys:=s.xs.set k m })).p B cs (w.setRow g (c.setIfInBounds k (lv m))):=by
 have hs:=h.2.2.1 s (qa hi)
 have hg:s.v.ownBlock=some g:=by rw [hv]; rfl
 obtain ⟨hB,c,hc,htk⟩:=hs.2.2 g hg
 have hown:=hs.1
 rw [hu,hy,hv] at hown
 rcases hown.2 with ⟨e,_⟩ | ⟨g',cap',cur,e,h2,h3,h4,h5,h6,h7⟩
 ·cases e
 ·injection e with e1 e2 e3
  injection e1 with e1
  injection e1 with e1
  subst e1
  subst e3
  rw [hc] at h3
  injection h3 with h3
  injection h3 with h3
  subst h3
  have hlen:c.size=cap:=by rw [h6,zK]
  have hnew:(w.setRow g (c.setIfInBounds k (lv m))).heap[g]?=some (Obj.cells (c.setIfInBounds k (lv m)) U32 (0,0)):=setRow_heap w g _ _ _ _ hc
  have htk2:(c.setIfInBounds k (lv m)).toList.take (s.xs.set k m).length=(s.xs.set k m).map lv:=by
   rw [js,zG]
   exact take_set htk
  refine ⟨hB,c,hc,by omega,DG h hi G ⟨?_,?_⟩ (λ g2 c2 h8=>?_) (λ g2 c2 h8 h9=>?_) λ g2 h8=>.inl h8⟩
  ·show World.ownsRow _ B U32 1 s.u (s.xs.set k m).length ((s.xs.set k m).map lv)
   rw [hu,hv,zG]
   refine ⟨by simp,.inr ⟨g,cap,_,rfl,hB,hnew,h4,h5,by simp [hlen],?_⟩⟩
   rw [zG] at htk2
   rw [zK]
   exact htk2
  ·show Rdy B _ s.v (s.xs.set k m)
   refine ⟨?_,λ g2 h8=>?_⟩
   ·rw [zG]; exact hs.2.1
   ·rw [hg] at h8
    injection h8 with h8
    subst h8
    exact ⟨hB,_,hnew,htk2⟩
  ·rw [setRow_other _ _ _ _ (λ e=>by subst e; rw [hc] at h8; injection h8 with h8; injection h8 with _ h8 _; revert h8; decide)]
   exact h8
  ·rw [setRow_other _ _ _ _ (λ e=>h8 (.inl (by rw [e]; exact hg)))]
   exact h9
theorem hb_app {vr v':Value}{L:List Slot}{B i m:Nat}{s:Slot}(h:(HbA vr L).p B cs w)(hi:L[i]?=some s)(hown:w'.ownsRow B U32 1 v' (s.ys.length+1) (s.ys.map lv++[lv m]))(hg:w.grownBy w' s.u.ownBlock)
  (hb:v'.ownBlock=s.u.ownBlock∨(v'.ownBlock=some w.heap.size∧w.grownBy w' none)) (hpre:s.u.ownBlock=s.v.ownBlock→s.xs <+: s.ys):(HbA vr (L.set i { s with u:=v',ys:=s.ys++[m] })).p B cs w':=by
 have hs:=h.2.2.1 s (qa hi)
 have hlt:∀ (g:Nat) (c:Array Value) (T:TypeId),w.heap[g]?=some (Obj.cells c T (0,0))→g<w.heap.size:=λ g c T h=>(Array.getElem?_eq_some_iff.1 h).1
 refine DG h hi G ⟨by simpa using hown,?_⟩ (λ g c h8=>?_) (λ g c h8 h9=>?_) λ g h8=>?_
 ·refine ⟨hs.2.1,λ g hgv=>?_⟩
  obtain ⟨h1,c,h2,h3⟩:=hs.2.2 g hgv
  by_cases e:s.u.ownBlock=some g
  ·rcases hb with hb | ⟨hb,hgn⟩
   ·rcases hown.2 with ⟨e1,_⟩ | ⟨g',cap,cur,e1,h4,h5,h6,h7,h10,h11⟩
    ·rw [e1,e] at hb
     cases hb
    ·have:g'=g:=by
      have:v'.ownBlock=some g':=by rw [e1]; rfl
      rw [hb,e] at this
      injection this with this
      exact this.symm
     subst this
     refine ⟨h1,cur,h5,?_⟩
     obtain ⟨t,ht⟩:=hpre (e.trans hgv.symm)
     have hle:s.xs.length≤s.ys.length:=by rw [← ht]; simp
     rw [zK] at h11
     have h12:=qm (List.take s.xs.length) h11
     rw [jR,xl zo] at h12
     show cur.toList.take s.xs.length=s.xs.map lv
     rw [h12,← ht]
     simp [z7]
   ·exact ⟨h1,c,(hgn.block g (hlt _ _ _ h2) (by simp)).trans h2,h3⟩
  ·exact ⟨h1,c,(hg.block g (hlt _ _ _ h2) (λ e2=>e e2.symm)).trans h2,h3⟩
 ·refine (hg.block g (hlt _ _ _ h8) (λ e=>?_)).trans h8
  obtain ⟨_,c2,h9⟩:=hs.lt (g:=g) (.inr e.symm)
  rw [h8] at h9
  injection h9 with h9
  injection h9 with _ h9 _
  revert h9
  decide
 ·exact (hg.block g (hlt _ _ _ h9) (λ e=>h8 (.inr e.symm))).trans h9
 ·rcases h8 with h8 | h8
  ·exact .inl (.inl h8)
  ·rcases hb with hb | ⟨hb,_⟩
   ·exact .inl (.inr (hb.symm.trans h8))
   ·have h8':v'.ownBlock=some g:=h8
    rw [hb] at h8'
    injection h8' with h8'
    exact .inr (xp h8')
theorem yb:∀ {L:List Slot} {i:Nat} {s:Slot},L[i]?=some s→∀ z,(L.set i { s with z:=z }).flatMap Slot.cells=(L.flatMap Slot.cells).set (3*i+1) z
 | x::L,0,s,h,z=>by
  simp at h
  subst h
  rfl
 | x::L,i+1,s,h,z=>by
  simp only [j0,xz]
  rw [yb (by simpa using h) z,show 3*(i+1)+1=(3*i+1)+3 by omega]
  rfl
theorem BZ {L:List Slot}:(L.flatMap Slot.cells).length=L.length*3:=by
 induction L with
 | nil=>rfl
 | cons x L ih=>rw [xz,qB,ih,zy]; show 3+_=_; omega
theorem DH {L:List Slot}{B i g cap:Nat}{s:Slot}(z:Value)(h:(HbA vr L).p B cs w)(hi:L[i]?=some s)(hvr:vr=.slice (some ⟨g,0,none⟩) L.length cap):
  B≤g∧∃ c:Array Value,w.heap[g]?=some (Obj.cells c 133 (0,0))∧i*3+1<c.size∧(HbA vr (L.set i { s with z:=z })).p B cs (w.setRow g (c.setIfInBounds (i*3+1) z)):=by
 obtain ⟨h1,h2,h3,h4⟩:=h
 have hlt:i<L.length:=(List.getElem?_eq_some_iff.1 hi).1
 rcases h2.2 with ⟨e,_⟩ | ⟨g',cap',cur,e,q2,q3,q4,q5,q6,q7⟩
 ·rw [hvr] at e; cases e
 ·rw [hvr] at e
  injection e with e1 e2 e3
  injection e1 with e1
  injection e1 with e1
  subst e1
  have hsz:i*3+1<cur.size:=by
   rw [q6]
   have:L.length*3≤cap'*3:=qR 3 q4
   omega
  have hnew:(w.setRow g (cur.setIfInBounds (i*3+1) z)).heap[g]?=some (Obj.cells (cur.setIfInBounds (i*3+1) z) 133 (0,0)):=setRow_heap w g _ _ _ _ q3
  refine ⟨q2,cur,q3,hsz,h1,?_,λ t ht=>?_,λ j k t1 t2 hj hk hne g2 hg hg'=>?_⟩
  ·rw [zG,yb hi]
   refine ⟨by rw [zG,BZ],.inr ⟨g,cap',_,?_,q2,hnew,q4,q5,by simp [q6],?_⟩⟩
   ·rw [hvr,e3]
   ·rw [js,List.take_set,q7,show 3*i+1=i*3+1 by omega]
  ·have hkeep:∀ t':Slot,t'.ok B w→t'.ok B (w.setRow g (cur.setIfInBounds (i*3+1) z)):=λ t' ht'=>ht'.keep λ g2 c2 hg2 h8=>by
    rw [setRow_other _ _ _ _ (λ e=>by subst e; rw [q3] at h8; injection h8 with h8; injection h8 with _ h8 _; revert h8; decide)]
    exact h8
   rcases qy ht with ht | rfl
   ·exact hkeep t (h3 t ht)
   ·exact hkeep _ (h3 s (qa hi))
  ·have hsame:∀ (j:Nat) t,(L.set i { s with z:=z })[j]?=some t→∃ t0,L[j]?=some t0∧∀ g,t.has g→t0.has g:=λ j t hj=>by
    by_cases e:j=i
    ·subst e
     rw [List.getElem?_set_self hlt] at hj
     injection hj with hj
     subst hj
     exact ⟨s,hi,λ g h=>h⟩
    ·rw [List.getElem?_set_ne (λ e2=>e e2.symm)] at hj
     exact ⟨t,hj,λ g h=>h⟩
   obtain ⟨t3,r1,r2⟩:=hsame j t1 hj
   obtain ⟨t4,r3,r4⟩:=hsame k t2 hk
   exact h4 j k t3 t4 r1 r3 hne g2 (r2 g2 hg) (r4 g2 hg')
abbrev mkN (n:Nat):Nat:=100000+n
def EqS (v:Value):As where
 n:=1
 ag:=false
 p _ cs _:=cs=[v]∧v.oneCell'=true
 deps:=[]
 len:=by rintro B cs w ⟨rfl,_⟩; rfl
 one:=by rintro B cs w ⟨rfl,h⟩ c hc; simp at hc; subst hc; exact h
 ag1:=λ _=>rfl
 cg:=λ _ _ _ _ _ h=>h
 wr:=λ _ _ _ _ _ _ _ _ _ _ _ _ h=>h
theorem sg {v u:Value}(h:(EqS v).va.p B u w):u=v:=by
 obtain ⟨cs,⟨rfl,_⟩,h2⟩:=h
 exact h2
theorem tS:Wk (EqS v).va (EqV v):=λ _ _ _ h=>sg h
def BkA (vr:Value)(L:List Slot):As:=cat [NumA .i64 (L.length:Nat),HbA vr L,EqS (.slice none 0 0),EqS (.slice none 0 0),EqS (.slice none 0 0),EqS (.slice none 0 0),EqS (.slice none 0 0),EqS (.slice none 0 0),EqS (.slice none 0 0),EqS (.slice none 0 0),EqS (.slice none 0 0),EqS (.slice none 0 0),EqS (.slice none 0 0),EqS (.slice none 0 0),EqS (.slice none 0 0),EqS (.slice none 0 0),EqS (.slice none 0 0)]
def Slot.view (s:Slot):As:=cat [EqS s.v,EqS s.z,NumA .i64 (s.n:Nat)]
structure Slot.wf (s:Slot):Prop where
 rv:RowV s.v s.xs.length
 ox:okL s.xs
 oy:okL s.ys
 z1:s.z.oneCell'=true
 n1:s.n≤1000000
 lx:s.xs.length≤2000000000000
theorem RowV.one {n:Nat}(h:RowV v n):v.oneCell'=true:=by
 rcases h with ⟨rfl,_⟩ | ⟨g,cap,rfl,_⟩ <;> rfl
theorem sD {B:Nat}{w:World}:∀ {L:List Slot},(∀ s∈L,s.wf)→(cat (L.map Slot.view)).p B (L.flatMap Slot.cells) w
 | [],_=>⟨[],rfl,.nil⟩
 | s::L,h=>by
  obtain ⟨ps,e,hp⟩:=sD (B:=B) (w:=w) (L:=L) λ t ht=>h t (by simp [ht])
  refine ⟨s.cells::ps,by rw [xz,e]; rfl,.cons ?_ hp⟩
  exact ⟨[[s.v],[s.z],[.int .i64 s.n]],rfl,.cons ⟨rfl,(h s (by simp)).rv.one⟩ (.cons ⟨rfl,(h s (by simp)).z1⟩ (.cons G .nil))⟩
theorem hb_sl {L:List Slot}(h:∀ s∈L,s.wf):Wk (HbA vr L).va (SlA 133 [] (L.map Slot.view)).va:=λ B v w ⟨cs,⟨e,h2,_⟩,hv⟩=>by
 subst e
 have hv':v=vr:=hv
 subst hv'
 refine lR (b:=B) (m:=3) B v w ⟨λ A hA=>?_,λ A hA T hT=>?_,L.flatMap Slot.cells,sD h,?_⟩
 ·obtain ⟨s,_,rfl⟩:=qq.1 hA; rfl
 ·obtain ⟨s,_,rfl⟩:=qq.1 hA; cases (show T∈([]:List TypeId) from hT)
 ·rw [qc]; exact h2
theorem uP {xs:List Nat}(h:Rdy B w v xs)(ok:okL xs):(MgA xs).va.p B v w:=by
 rcases h.1 with ⟨rfl,e⟩ | ⟨g,cap,rfl,h1,h2⟩
 ·exact dL ⟨ok,by omega,zc _,λ h=>by omega⟩ e.symm
 ·obtain ⟨_,c,h3,h4⟩:=h.2 g rfl
  refine dL (Mag.own h3 ok h1 h2 λ j hj=>?_) rfl
  have h5:=qm (λ l=>l[j]?) h4
  simp only [List.getElem?_take,hj,if_true,List.getElem?_map,List.getElem?_eq_getElem hj,qL] at h5
  rw [← Array.getElem?_toList]
  exact h5
theorem vT {ys:List Nat}(h:w.ownsRow B U32 1 v ys.length (ys.map lv)):Rdy B w v ys:=by
 rcases h.2 with ⟨rfl,e⟩ | ⟨g,cap,cur,rfl,h1,h2,h3,h4,h5,h6⟩
 ·exact ⟨.inl ⟨rfl,e⟩,λ g hg=>by cases hg⟩
 ·refine ⟨.inr ⟨g,cap,rfl,h3,h4⟩,λ g' hg=>?_⟩
  have:g=g':=by simpa [Value.ownBlock] using hg
  subst this
  rw [zK] at h6
  exact ⟨h1,cur,h2,h6⟩
theorem nr {L:List Slot}(h:(BkA vr L).p B cs w):∃ c,(HbA vr L).p B c w:=by
 obtain ⟨ps,_,hp⟩:=h
 cases hp with
 | cons _ h=>cases h with
  | cons h _=>exact ⟨_,h⟩
section
open Rg
variable {P:Program} {Q:Exit→Act→World→Prop} {R:Rg} {B i:Nat} {w0:Bs}
theorem has_mv {x:Operand}{L:List Slot}{s:Slot}{q:Nat}(hx:Has R B w0 i x (EqS s.v).va)(hl:LocH R i q 59 ptrH (BkA vr L))(hs:s∈L)(ok:okL s.xs):Has R B w0 i x (MgA s.xs).va:=λ a w av=>by
 obtain ⟨g,cs,_,_,_,h⟩:=hl.ok av
 obtain ⟨c,h⟩:=nr h
 rw [sg (hx a w av)]
 exact uP (h.2.2.1 s hs).2 ok
end
theorem tR {n:Nat}(h:n≤1000000):IntKind.i64.wrap (100000+(n:Int))=((mkN n:Nat):Int):=by
 rw [wi64 zo zo]
 simp
theorem ra {n:Nat}(h:n≤1000000):IntKind.u32.wrap ((mkN n:Nat):Int)=((mkN n:Nat):Int):=wu32 (by unfold mkN; omega)
theorem Du (n0:Nat)(hn:n0≤1000000):Cn Tryz.prog 136 [In (n0:Nat)] ((NumA .u32 (mkN n0:Nat)).va):=by
 refine Cn.intro Tryz.func136 G zk nq (λ B w0 a U=>?_)
 have U:=zn [(0,In (n0:Nat))] [] U
 refine qb<|zh [.v 2 _] [.g 0,.o 0] U (zv G (ac (aG 0 G)) o0) (zz [(0,_),(2,_)] [] λ a w U=>?_)
 refine zt<|zh [.v 3 _,.v 4 _,.v 5 _,.v 2 _] [.o 3] U (zM 0 G (zv G (aN ab (vq 0 G) (tR hn)) (zv G (aK .u32 zk zk (vq 1 G) (ra hn)) (zA 2 G o0)))) (zz [(2,_)] [] λ a w U=>?_)
 exact aa<|qg<|an G U (zm 0 G)
theorem rU (x0 n0:Nat)(hn:n0≤1000000):Cn Tryz.prog 152 [(NumA .u32 (x0:Nat)).va,In (n0:Nat)] (Bo (((x0:Nat):Int)==((mkN n0:Nat):Int))):=by
 refine Cn.intro Tryz.func152 G zk nq (λ B w0 a U=>?_)
 have U:=zn [(0,(NumA .u32 (x0:Nat)).va),(1,In (n0:Nat))] [] U
 refine qb<|zh [.v 4 _] [.g 0,.g 1,.o 0] U (zv G (ac aJ) o0) (zz [(0,_),(1,_),(4,_)] [] λ a w U=>?_)
 refine zt<|zh [.v 5 _,.v 6 _,.v 7 _,.v 8 _,.v 9 _,.v 4 _] [.o 5] U (zM 0 G (zM 1 G (zv G (aN ab (vq 1 G) (tR hn)) (zv G (aK .u32 zk zk (vq 2 G) (ra hn)) (zv G (bC (vq 0 G) (vq 3 G)) (zA 4 G o0)))))) (zz [(4,_)] [] λ a w U=>?_)
 exact aa<|qg<|an G U (zm 0 G)
theorem ij:Str Tryz.prog 133 [EqS (.slice none 0 0),EqS (.slice none 0 0),NumA .i64 0] :=
 Str.of (z:=.agg #[.slice none 0 0,.slice none 0 0,.int .i64 0]) zk Tryz.underlying133 zk λ B w=>⟨[[.slice none 0 0],[.slice none 0 0],[.int .i64 0]],rfl,.cons ⟨rfl,rfl⟩ (.cons ⟨rfl,rfl⟩ (.cons rfl .nil))⟩
def Slot.fil (s:Slot)(k:Nat):Slot:={ s with xs:=List.replicate k (mkN s.n)++s.xs.drop k,ys:=List.replicate k (mkN s.n)++s.xs.drop k }
theorem gK {s:Slot}{k:Nat}(h:k≤s.xs.length):(s.fil k).xs.length=s.xs.length:=by
 show (List.replicate k (mkN s.n)++s.xs.drop k).length=_
 rw [qB,qW,je]; omega
theorem fil_0 {s:Slot}(h:s.ys=s.xs):s.fil 0=s:=by
 obtain ⟨v,xs,u,ys,z,n⟩:=s
 have h:ys=xs:=h
 subst h
 rfl
theorem GB {s:Slot}{k:Nat}(h:k<s.xs.length):(s.fil k).xs.set k (mkN s.n)=(s.fil (k+1)).xs:=by
 show (List.replicate k (mkN s.n)++s.xs.drop k).set k (mkN s.n)=List.replicate (k+1) (mkN s.n)++s.xs.drop (k+1)
 rw [xJ _ _ (by simp),qW,xD,qG h,k7,xM,za]
 rfl
structure Slot.new (s:Slot):Prop extends s.wf where
 uv:s.u=s.v
 yx:s.ys=s.xs
theorem FZ0 {n k:Nat}(h:n≤1000000):okL (List.replicate k (mkN n)):=λ x hx=>by
 rw [(xY.1 hx).2]; unfold mkN; omega
theorem yi {s:Slot}{k:Nat}(h:s.wf):okL (s.fil k).xs:=λ x hx=>by
 rcases qo.1 hx with hx | hx
 ·exact FZ0 h.n1 x hx
 ·exact h.ox x (kN hx)
theorem yh {s:Slot}{k:Nat}(h:s.wf)(hk:k≤s.xs.length):(s.fil k).wf:=⟨by rw [gK hk]; exact h.rv,yi h,yi h,h.z1,h.n1,by rw [gK hk]; exact h.lx⟩
def fl (L:List Slot)(i k:Nat):List Slot:=L.mapIdx λ j s=>if j<i then s.fil s.xs.length else if j=i then s.fil k else s
theorem om {L:List Slot}{i k:Nat}:(fl L i k).length=L.length:=by unfold fl; simp
theorem C0 {L:List Slot}{i k:Nat}{s:Slot}(h:L[i]?=some s):(fl L i k)[i]?=some (s.fil k):=by
 unfold fl
 rw [List.getElem?_mapIdx,h]
 simp
theorem Gz {L:List Slot}{i k:Nat}{s:Slot}(h:L[i]?=some s)(hk:k<s.xs.length):(fl L i k).set i { s.fil k with xs:=(s.fil k).xs.set k (mkN s.n),ys:=(s.fil k).xs.set k (mkN s.n) }=fl L i (k+1):=by
 apply jB
 intro j
 by_cases e:j=i
 ·subst e
  rw [List.getElem?_set_self (by rw [om]; exact (List.getElem?_eq_some_iff.1 h).1),C0 h,GB hk]
  rfl
 ·rw [List.getElem?_set_ne (λ e2=>e e2.symm)]
  unfold fl
  rw [List.getElem?_mapIdx,List.getElem?_mapIdx]
  simp [e]
theorem GA {L:List Slot}{i:Nat}{s:Slot}(h:L[i]?=some s)(hn:∀ s∈L,s.new):fl L i s.xs.length=fl L (i+1) 0:=by
 apply jB
 intro j
 unfold fl
 rw [List.getElem?_mapIdx,List.getElem?_mapIdx]
 cases hj:L[j]? with
 | none=>rfl
 | some t =>
  simp only [qL]
  by_cases e:j=i
  ·subst e
   rw [h] at hj
   injection hj with hj
   subst hj
   simp
  ·by_cases e1:j<i
   ·rw [qz e1,qz zo]
   ·rw [qw e1,qw e,qw zo]
    by_cases e2:j=i+1
    ·rw [qz e2,fil_0 (hn t (qa hj)).yx]
    ·rw [qw e2]
theorem Gy {L:List Slot}(hn:∀ s∈L,s.new):fl L 0 0=L:=by
 apply jB
 intro j
 unfold fl
 rw [List.getElem?_mapIdx]
 cases hj:L[j]? with
 | none=>rfl
 | some t =>
  simp only [qL,vv,if_false]
  by_cases e:j=0
  ·rw [qz e,fil_0 (hn t (qa hj)).yx]
  ·rw [qw e]
theorem fl_end {L:List Slot}{k:Nat}:fl L L.length k=L.map λ s=>s.fil s.xs.length:=by
 apply jB
 intro j
 unfold fl
 rw [List.getElem?_mapIdx,List.getElem?_map]
 cases hj:L[j]? with
 | none=>rfl
 | some t =>
  have:=(List.getElem?_eq_some_iff.1 hj).1
  simp only [qL]
  rw [qz this]
theorem fl_wf {L:List Slot}{i k:Nat}(hn:∀ s∈L,s.new)(hk:∀ s,L[i]?=some s→k≤s.xs.length):∀ s∈fl L i k,s.wf:=λ s hs=>by
 obtain ⟨j,hj⟩:=List.getElem?_of_mem hs
 unfold fl at hj
 rw [List.getElem?_mapIdx] at hj
 cases ht:L[j]? with
 | none=>rw [ht] at hj; cases hj
 | some t =>
  rw [ht] at hj
  have hw:=(hn t (qa ht)).towf
  simp only [qL,Option.some.injEq] at hj
  split at hj
  ·subst hj; exact yh hw (qi _)
  ·split at hj
   ·rename_i e; subst e; subst hj; exact yh hw (hk t ht)
   ·subst hj; exact hw
theorem oK {L:List Slot}{i:Nat}{s:Slot}(h:L[i]?=some s):(L.map Slot.view)[i]?=some s.view:=by rw [List.getElem?_map,h]; rfl
theorem tU {L:List Slot}:∀ A∈L.map Slot.view,A.n=3:=λ A hA=>by
 obtain ⟨s,_,rfl⟩:=qq.1 hA; rfl
theorem yX {M M':List Slot}(h:(BkA vr M).p B cs w)(hf:∀ c,(HbA vr M).p B c w→(HbA vr M').p B c w')(hl:M'.length=M.length):(BkA vr M').p B cs w':=by
 obtain ⟨ps,e,hp⟩:=h
 refine ⟨ps,e,?_⟩
 cases hp with
 | cons h1 hp=>cases hp with
  | cons h2 hp =>
   refine .cons (by rw [hl]; exact h1) (.cons (hf _ h2) ?_)
   iterate 15 (cases hp; rename_i h3 hp; refine .cons h3 ?_)
   cases hp
   exact .nil
theorem RowV.row {n k:Nat}(h:RowV v n)(hk:k<n):∃ g cap,v=.slice (some ⟨g,0,none⟩) n cap:=by
 rcases h with ⟨_,e⟩ | ⟨g,cap,h,_⟩
 ·omega
 ·exact ⟨g,cap,h⟩
theorem cq {ops:Array Oper}{Q:Exit→Act→World→Prop}(h:Q .normal a w):wpOps P ops Q [] a w:=h
theorem fx {ops:Array Oper}{Q:Exit→Act→World→Prop}(h:Q .normal a w):wpOps P ops Q [] (a.put none undef) w:=h
theorem Hy {k:IntKind}{n:Int}:Wk (NumA k n).va (EqV (.int k n)):=λ _ _ _ h=>bh h
theorem Hg {L:List Slot}{B i k g cap:Nat}{s:Slot}(hn:∀ s∈L,s.new)(hi:L[i]?=some s)(hk:k<s.xs.length)(hv:s.v=.slice (some ⟨g,0,none⟩) s.xs.length cap)(h:(BkA vr (fl L i k)).p B cs w):
  B≤g∧∃ c:Array Value,w.heap[g]?=some (Obj.cells c U32 (0,0))∧k*1<c.size∧(BkA vr (fl L i (k+1))).p B cs (w.setRow g (c.setIfInBounds (k*1) (.int .u32 (mkN s.n:Nat)))):=by
 obtain ⟨c0,h0⟩:=nr h
 have hs:=hn s (qa hi)
 have key:∀ c1,(HbA vr (fl L i k)).p B c1 w→B≤g∧∃ c:Array Value,w.heap[g]?=some (Obj.cells c U32 (0,0))∧k<c.size∧(HbA vr (fl L i (k+1))).p B c1 (w.setRow g (c.setIfInBounds k (lv (mkN s.n)))):=λ c1 h1=>by
  have:=Gh (m:=mkN s.n) (k:=k) (g:=g) (cap:=cap) h1 (C0 hi) hs.uv rfl (by rw [gK (zU hk)]; exact hv) (by rw [gK (zU hk)]; exact hk)
  rwa [Gz hi hk] at this
 obtain ⟨h2,c,h3,h4,h5⟩:=key c0 h0
 rw [zK]
 refine ⟨h2,c,h3,h4,yX h (λ c1 h6=>?_) (by rw [om,om])⟩
 obtain ⟨_,c',h7,_,h8⟩:=key c1 h6
 rw [h3] at h7
 injection h7 with h7
 injection h7 with h7
 subst h7
 exact h8
theorem fill_c (vr:Value)(L:List Slot)(hnew:∀ s∈L,s.new)(hl:L.length≤1000000):CK Tryz.prog 38 59 [59,133,134] (BkA vr L) (BkA vr (L.map λ s=>s.fil s.xs.length)) [] (Tu []):=by
 have h0:=Gy hnew
 refine CK.intro Tryz.func38 G zk nq zk (λ B g w0 a hrm U=>?_)
 have U:=zn [(0,EqV ((ptrH).f g)),] [⟨0,59,ptrH,BkA vr L⟩] U
 rw [← h0] at U
 refine qb<|zg [η] [] [.v 2 _] [.g 0,.o 0] U (zv G (ac ab) o0) (zz [(0,_),(2,_)] [O 0 59 _] λ a w U=>?_)
 refine aa<|qj ?_
 have U:=St.sel U [0,1]
 refine wp_loop_ghost (λ n a w=>∃ i:Nat,n+i=L.length∧St B w0 35 [(0,EqV (ptrH.f g)),(2,In (i:Nat))] [⟨0,59,ptrH,BkA vr (fl L i 0)⟩] a w) (L.length) ?_ ?_
 ·exact ⟨0,by omega,U⟩
 intro n a w hI
 obtain ⟨i,hn,U⟩:=hI
 have hwL:=fl_wf (i:=i) (k:=0) hnew (λ _ _=>zc _)
 refine qb<|qb<|zg [η] [] [.v 5 _,.adr 6 0 (.some 0) True,.adr 7 0 (.some 0) True,.adr 8 0 (.some (0+1)) True,.v 9 _,.v 10 _,.v 11 _] [.g 0,.g 1,.o 6] U (zM 1 G (oc (ob_a G G (oI (lz0 0 G))) (oc (ob_a G G (oH 1 G zk (lz0 0 G))) (oc (ob_a G G (i6 2 G zk trivial (lz0 0 G) cY)) (zL 3 0 1 G ly (zv G (bg Tryz.underlying42 (has_wk' (vq 4 G) (hb_sl hwL))) (zv G (aS (vq 0 G) (vq 5 G)) o0))))))) (zz [(0,_),(2,_),(11,_)] [O 0 59 _] λ a w U=>?_)
 refine aa<|aj U (zm 2 G) (λ hb0=>?_) (λ hb0=>?_)
 ·have hi:i<L.length:=by simpa [om] using hb0
  obtain ⟨s,hs⟩:∃ s,L[i]?=some s:=⟨_,List.getElem?_eq_getElem hi⟩
  have hwf:=hnew s (qa hs)
  refine qh<|zt<|qj<|qb<|cc (sp:=[.adr 14 0 (.some 0) True,.adr 15 0 (.some 0) True,.adr 16 0 (.some (0+1)) True,.v 17 _,.v 18 _,.v 19 _,.v 20 _,.v 3 VT,.sto 0]) 7 2 0 8 OneC [.g 0,.g 1,.o 6] U (oc (ob_a G G (oI (lz0 0 G))) (oc (ob_a G G (oH 0 G zk (lz0 0 G))) (oc (ob_a G G (i6 1 G zk trivial (lz0 0 G) cY)) (zL 2 0 1 G ly (zM 1 G (zv G (bH (m:=3) ⟨Tryz.underlying42,by kernel_rfl⟩ tU (has_wk' (vq 3 G) (hb_sl hwL)) (vq 4 G) (oK (C0 hs))) (zv G (au (vq 5 G) lG) o0))))))) G zd zk zk (zz [(0,_),(2,_),(20,_)] [O 0 59 _] λ a w U=>?_)
  rw [show List.range' 7 2=[7,8] from rfl]
  refine my (A:=s.view) 2 [0,1] G G U (Str.zero ij) G lG G zd G zk zk (λ a w U=>?_)
  refine cq ?_
  have U:=zn [(0,_),(2,_)] [O 0 59 _,O 3 133 _] U
  refine zt<|zg [η,η] [] [.v 4 _] [.g 0,.g 1,.o 0] U (zv G (ac ab) o0) (zz [(0,_),(2,_),(4,_)] [O 0 59 _,O 3 133 _] λ a w U=>?_)
  refine aa<|qj ?_
  have U:=St.sel U [0,1,2]
  refine wp_loop_ghost (λ n a w=>∃ k:Nat,n+k=s.xs.length∧St B w0 35 [(0,EqV (ptrH.f g)),(2,In (i:Nat)),(4,In (k:Nat))] [⟨0,59,ptrH,BkA vr (fl L i k)⟩,⟨3,133,ptrH,s.view⟩] a w) (s.xs.length) ?_ ?_
  ·exact ⟨0,by omega,U⟩
  intro n a w hI
  obtain ⟨k,hn2,U⟩:=hI
  refine qb<|qb<|zg [η,η] [] [.v 21 _,.adr 22 3 (.some 0) True,.v 23 _,.v 24 _,.v 25 _] [.g 0,.g 1,.g 2,.o 4] U (zM 2 G (zO 1 G dO (zL 1 1 0 G aX (zv G (aI Tryz.underlying24 (has_mv (s:=s.fil k) (vq 2 G) (lz0 0 G) (qa (C0 hs)) (yi hwf.towf))) (zv G (aS (vq 0 G) (vq 3 G)) o0))))) (zz [(0,_),(2,_),(4,_),(25,_)] [O 0 59 _,O 3 133 _] λ a w U=>?_)
  refine aa<|aj U (zm 3 G) (λ hb1=>?_) (λ hb1=>?_)
  ·have hk:k<s.xs.length:=by simpa [gK (show k≤s.xs.length by omega)] using hb1
   refine qh<|zt<|qj<|ir (sp:=[.adr 28 3 (.some 0) True,.v 29 _,.v 30 _,.adr 31 3 (.some 2) True,.v 32 _,.v 33 _,.v 34 VT,.sto 0]) [[],[0],[],[],[3],[3,4],[0,1,2,3,4,5],[0,1,2,3,4,5,6]] 6 2 0 7 OneC [.g 0,.g 1,.g 2,.o 1,.o 2,.o 5] ae U (zO 1 G dO (zL 0 1 0 G aX (zM 2 G (zO 1 G fY (zL 3 1 2 G ty_3 (zQ G (Du _ hwf.n1) (.o (vq 4 G)) o0)))))) G zd zd zk (gM zk) zk zk (zz [(0,_),(2,_),(4,_),(29,_),(30,_),(33,_)] [O 0 59 _,O 3 133 _] λ a w U=>?_)
   rw [show List.range' 6 2=[6,7] from rfl]
   obtain ⟨g1,cap1,hv1⟩:=hwf.rv.row hk
   have U:=St.wkG U 3 rfl (show Wk (EqS s.v).va (EqV (.slice (some ⟨g1,0,none⟩) s.xs.length cap1)) from hv1▸tS)
   have U:=St.wkG U 5 rfl Hy
   rw [qA]
   refine ph (m:=1) (k:=k) 3 4 G U ⟨Tryz.underlying24,by kernel_rfl⟩ zd G G hk zd zk zk (λ a U=>?_)
   rw [qA]
   refine w8 (A1:=BkA vr (fl L i (k+1))) [1,2,3] 0 6 0 G U G G G G aO G zd (hrm _ zk) zk zk (λ cs hp=>Hg hnew hs hk hv1 hp) (λ w U=>?_)
   refine fx ?_
   have U:=zn [(0,_),(2,_),(4,_)] [⟨0,59,ptrH,BkA vr (fl L i (k+1))⟩,O 3 133 _] U
   refine ap ?_
   refine aa<|zg [η,η] [] [.v 26 _,.v 27 _,.v 4 _] [.g 0,.g 1,.o 2] U (zM 2 G (zv G (aN (vq 0 G) ab (ba (by have:=hwf.lx; omega))) (zA 1 G o0))) (zz [(0,_),(2,_),(4,_)] [O 0 59 _,O 3 133 _] λ a w U=>?_)
   refine aa ?_
   have U:=St.sel U [0,1,2]
   exact ⟨n-1,by omega,k+1,by omega,U⟩
  ·have hk:k=s.xs.length:=by simp [gK (show k≤s.xs.length by omega)] at hb1; omega
   subst hk
   refine qK<|am<|am<|aB<|ap ?_
   refine aa<|zg [η,η] [] [.v 12 _,.v 13 _,.v 2 _] [.g 0,.o 2] U (zM 1 G (zv G (aN (vq 0 G) ab (ba (by have:=hwf.lx; omega))) (zA 1 G o0))) (zz [(0,_),(2,_)] [O 0 59 _,O 3 133 _] λ a w U=>?_)
   refine aa ?_
   have U:=St.sel U [0,1]
   have U:=St.selL U [0]
   exact ⟨L.length-(i+1),by omega,i+1,by omega,(GA hs hnew)▸U⟩
 ·have hi:i=L.length:=by simp [om] at hb0; omega
  subst hi
  rw [fl_end] at U
  refine qK<|am<|am<|aB<|ec<|iN U (zm 0 G) (zm 0 G) ?_
  exact bf (rs:=[]) G U .nil zd
theorem CD:∃ it z,Tryz.prog.info? 134=some it∧it.zero=some z∧it.size=1∧it.bytes=4∧z.cells.size=1:=by
 have h:((Tryz.prog.info? 134).bind λ it=>it.zero.map λ z=>(it.size,it.bytes,z.cells.size))=some (1,4,1):=by kernel_rfl
 cases hi:Tryz.prog.info? 134 with
 | none=>rw [hi] at h; simp at h
 | some it =>
  rw [hi] at h
  cases hz:it.zero with
  | none=>simp [hz] at h
  | some z =>
   simp [hz] at h
   exact ⟨it,z,rfl,hz,h.1,h.2.1,h.2.2⟩
def Slot.ext (s:Slot)(u:Value)(k:Nat):Slot:={ s with u:=u,ys:=List.replicate (s.xs.length+k) (mkN s.n) }
structure Slot.full (s:Slot):Prop extends s.wf where
 uv:s.u=s.v
 yx:s.ys=s.xs
 xm:s.xs=List.replicate s.xs.length (mkN s.n)
theorem ext_0 {s:Slot}(h:s.full):s.ext s.v 0=s:=by
 have h1:=h.uv
 have h2:=h.yx
 have h3:=h.xm
 obtain ⟨v,xs,u,ys,z,n⟩:=s
 simp only at h1 h2 h3
 subst h1 h2
 show Slot.mk u ys u (List.replicate (ys.length+0) (mkN n)) z n=_
 rw [xF,← h3]
structure Grew (s t:Slot):Prop where
 v:t.v=s.v
 xs:t.xs=s.xs
 n:t.n=s.n
 z:t.z=t.u
 ys:t.ys=List.replicate (s.xs.length+70) (mkN s.n)
def Gr (L M:List Slot)(i:Nat):Prop:=M.length=L.length∧∀ (j:Nat) s,L[j]?=some s→∃ t,M[j]?=some t∧(j<i→Grew s t)∧(i≤j→t=s)
theorem gr_0 {L:List Slot}:Gr L L 0:=⟨rfl,λ j s h=>⟨s,h,λ h=>absurd h (vv _),λ _=>rfl⟩⟩
theorem gr_at {L M:List Slot}{i:Nat}{s:Slot}(h:Gr L M i)(hs:L[i]?=some s):M[i]?=some s:=by
 obtain ⟨t,h1,_,h2⟩:=h.2 i s hs
 rw [h1,h2 (qi _)]
theorem Gl {L M:List Slot}{i:Nat}{s:Slot}{u:Value}(h:Gr L M i)(hs:L[i]?=some s):Gr L (M.set i { s.ext u 70 with z:=u }) (i+1):=by
 refine ⟨by rw [zG]; exact h.1,λ j s' hj=>?_⟩
 by_cases e:j=i
 ·subst e
  rw [hs] at hj
  injection hj with hj
  subst hj
  refine ⟨_,List.getElem?_set_self (by rw [h.1]; exact (List.getElem?_eq_some_iff.1 hs).1),λ _=>⟨rfl,rfl,rfl,rfl,rfl⟩,λ h=>by omega⟩
 ·obtain ⟨t,h1,h2,h3⟩:=h.2 j s' hj
  exact ⟨t,by rw [List.getElem?_set_ne (λ e2=>e e2.symm)]; exact h1,λ h=>h2 zo,λ h=>h3 zo⟩
theorem gr_mem {L M:List Slot}{i:Nat}(h:Gr L M i){t:Slot}(ht:t∈M):∃ s∈L,Grew s t∨t=s:=by
 obtain ⟨j,hj⟩:=List.getElem?_of_mem ht
 have hlt:=(List.getElem?_eq_some_iff.1 hj).1
 rw [h.1] at hlt
 obtain ⟨t',h1,h2,h3⟩:=h.2 j _ (List.getElem?_eq_getElem hlt)
 rw [hj] at h1
 injection h1 with h1
 subst h1
 refine ⟨_,qf hlt,?_⟩
 by_cases e:j<i
 ·exact .inl (h2 e)
 ·exact .inr (h3 zo)
def One1 (M:List Slot):Prop:=∀ s∈M,s.v.oneCell'=true∧s.z.oneCell'=true
theorem oC {B:Nat}{w:World}:∀ {L:List Slot},One1 L→(cat (L.map Slot.view)).p B (L.flatMap Slot.cells) w
 | [],_=>⟨[],rfl,.nil⟩
 | s::L,h=>by
  obtain ⟨ps,e,hp⟩:=oC (B:=B) (w:=w) (L:=L) λ t ht=>h t (by simp [ht])
  refine ⟨s.cells::ps,by rw [xz,e]; rfl,.cons ?_ hp⟩
  exact ⟨[[s.v],[s.z],[.int .i64 s.n]],rfl,.cons ⟨rfl,(h s (by simp)).1⟩ (.cons ⟨rfl,(h s (by simp)).2⟩ (.cons G .nil))⟩
theorem rW {L:List Slot}(h:One1 L):Wk (HbA vr L).va (SlA 133 [] (L.map Slot.view)).va:=λ B v w ⟨cs,⟨e,h2,_⟩,hv⟩=>by
 subst e
 have hv':v=vr:=hv
 subst hv'
 refine lR (b:=B) (m:=3) B v w ⟨λ A hA=>?_,λ A hA T hT=>?_,L.flatMap Slot.cells,oC h,?_⟩
 ·obtain ⟨s,_,rfl⟩:=qq.1 hA; rfl
 ·obtain ⟨s,_,rfl⟩:=qq.1 hA; cases (show T∈([]:List TypeId) from hT)
 ·rw [qc]; exact h2
theorem Gi {L:List Slot}:Wk (HbA vr L).va (EqV vr):=λ B v w ⟨cs,⟨e,_⟩,hv⟩=>by
 subst e
 exact hv
theorem eV {E m n B:Nat}{xs:List Value}(h:w.ownsRow B E m v n xs):v.oneCell'=true∧RowV v n:=by
 rcases h.2 with ⟨rfl,e⟩ | ⟨g,cap,cur,rfl,_,_,h3,h4,_⟩
 ·exact ⟨rfl,.inl ⟨rfl,e⟩⟩
 ·exact ⟨rfl,.inr ⟨g,cap,rfl,h3,h4⟩⟩
theorem r5 {M:List Slot}{B N:Nat}{s:Nat}(h:St B w0 N Γ Λ a w)(k:Nat)(hm:Λ[k]?=some ⟨s,T,H,BkA vr M⟩):RowV vr M.length∧∀ t∈M,RowV t.u t.ys.length∧RowV t.v t.xs.length:=by
 obtain ⟨g,cs,_,_,_,hp⟩:=h.locs _ (qa hm)
 obtain ⟨c,h1,h2,h3,_⟩:=nr hp
 exact ⟨(eV h2).2,λ t ht=>⟨(eV (h3 t ht).1).2,(h3 t ht).2.1⟩⟩
theorem bk_one {M:List Slot}{B N:Nat}{s:Nat}(h:St B w0 N Γ Λ a w)(k:Nat)(hm:Λ[k]?=some ⟨s,T,H,BkA vr M⟩)(hz:∀ t∈M,t.z.oneCell'=true∨t.z=t.u):One1 M:=λ t ht=>by
 obtain ⟨h1,h2⟩:=(r5 h k hm).2 t ht
 refine ⟨h2.one,?_⟩
 rcases hz t ht with e | e
 ·exact e
 ·rw [e]; exact h1.one
theorem gr_z {L M:List Slot}{i:Nat}(h:Gr L M i)(hf:∀ s∈L,s.full):∀ t∈M,t.z.oneCell'=true∨t.z=t.u:=λ t ht=>by
 obtain ⟨s,hs,h1 | h1⟩:=gr_mem h ht
 ·exact .inr h1.z
 ·subst h1; exact .inl (hf t hs).z1
theorem bk_app {vr v':Value}{M:List Slot}{B i k:Nat}{s:Slot}{u:Value}(hf:s.full)(hi:M[i]?=some (s.ext u k))(h:(BkA vr M).p B cs w):
  w.ownsRow B U32 1 u (s.xs.length+k) ((List.replicate (s.xs.length+k) (mkN s.n)).map lv)∧∀ v' w' ds,ds=[lv (mkN s.n)]→w'.ownsRow B U32 1 v' (s.xs.length+k+1) ((List.replicate (s.xs.length+k) (mkN s.n)).map lv++ds)→w.grownBy w' u.ownBlock→(v'.ownBlock=u.ownBlock∨(v'.ownBlock=some w.heap.size∧w.grownBy w' none))→(BkA vr (M.set i (s.ext v' (k+1)))).p B cs w':=by
 have hlen:(List.replicate (s.xs.length+k) (mkN s.n)).length=s.xs.length+k:=qW
 obtain ⟨c0,h0⟩:=nr h
 refine ⟨?_,λ v' w' ds hds hown hg hb=>?_⟩
 ·have:=(h0.2.2.1 _ (qa hi)).1
  have e:(s.ext u k).ys.length=s.xs.length+k:=hlen
  rw [e] at this
  exact this
 ·subst hds
  refine yX h (λ c hc=>?_) (by rw [zG])
  have:=hb_app (v':=v') (m:=mkN s.n) hc hi (by show World.ownsRow w' B U32 1 v' ((List.replicate (s.xs.length+k) (mkN s.n)).length+1) _; rw [hlen]; exact hown) hg hb λ _=>by
   show s.xs <+: List.replicate (s.xs.length+k) (mkN s.n)
   rw [hf.xm,qW]
   exact ⟨List.replicate k (mkN s.n),List.replicate_append_replicate⟩
  have e:({ s.ext u k with u:=v',ys:=(s.ext u k).ys++[mkN s.n] }:Slot)=s.ext v' (k+1):=by
   show Slot.mk s.v s.xs v' (List.replicate (s.xs.length+k) (mkN s.n)++[mkN s.n]) s.z s.n=Slot.mk s.v s.xs v' (List.replicate (s.xs.length+(k+1)) (mkN s.n)) s.z s.n
   rw [← xM,xR]
  rw [e] at this
  exact this
theorem bk_put {vr z:Value}{M:List Slot}{B i g cap:Nat}{s:Slot}(hi:M[i]?=some s)(hvr:vr=.slice (some ⟨g,0,none⟩) M.length cap)(h:(BkA vr M).p B cs w):
  B≤g∧∃ c:Array Value,w.heap[g]?=some (Obj.cells c 133 (0,0))∧i*3+1<c.size∧(BkA vr (M.set i { s with z:=z })).p B cs (w.setRow g (c.setIfInBounds (i*3+1) z)):=by
 obtain ⟨c0,h0⟩:=nr h
 obtain ⟨h2,c,h3,h4,h5⟩:=DH z h0 hi hvr
 refine ⟨h2,c,h3,h4,yX h (λ c1 h6=>?_) (by rw [zG])⟩
 obtain ⟨_,c',h7,_,h8⟩:=DH z h6 hi hvr
 rw [h3] at h7
 injection h7 with h7
 injection h7 with h7
 subst h7
 exact h8
theorem RowV.cell {n:Nat}(h:RowV v n):v.cells = #[v]:=by
 rcases h with ⟨rfl,_⟩ | ⟨g,cap,rfl,_⟩ <;> rfl
def GkA (vr:Value)(L:List Slot):As where
 n:=17
 ag:=true
 p B cs w:=∃ M,Gr L M L.length∧(BkA vr M).p B cs w
 deps:=[133,U32]
 len:=λ B cs w ⟨M,_,h⟩=>(BkA vr M).len B cs w h
 one:=λ B cs w ⟨M,_,h⟩=>(BkA vr M).one B cs w h
 ag1:=λ h=>by cases h
 cg:=λ B cs w w' hg ⟨M,h1,h⟩=>⟨M,h1,(BkA vr M).cg B cs w w' hg h⟩
 wr:=λ B cs w w' g c T fz h1 h2 h3 h4 ⟨M,h5,h⟩=>⟨M,h5,(BkA vr M).wr B cs w w' g c T fz h1 h2 h3 h4 h⟩
theorem gk_of {L M:List Slot}(h:Gr L M L.length):WkA (BkA vr M) (GkA vr L):=⟨rfl,rfl,λ B cs w hp=>⟨M,h,hp⟩⟩
theorem okm {n:Nat}(h:n≤1000000):okL [mkN n]:=λ y hy=>by
 have:y=mkN n:=by simpa using hy
 subst this
 unfold mkN
 omega
theorem Hz {l:List Nat}:Wk (MgA l).va (SlA U32 [] (l.map λ (x:Nat)=>NumA .u32 (x:Int))).va:=λ _ _ _ h=>(dI h).2
theorem uw {M:List Slot}{i:Nat}{x y:Slot}:(M.set i x).set i y=M.set i y:=by simp
theorem AE {M:List Slot}{i:Nat}{x:Slot}(h:M[i]?=some x):M.set i x=M:=by
 obtain ⟨h1,h2⟩:=List.getElem?_eq_some_iff.1 h
 subst h2
 simp
theorem grow_c (vr:Value)(L:List Slot)(hfull:∀ s∈L,s.full)(hl:L.length≤1000000):CK Tryz.prog 54 59 [59,133,134] (BkA vr L) (GkA vr L) [] (Tu []):=by
 obtain ⟨it0,z0,hi0,hz0,hs0,hb0',hc0⟩:=CD
 refine CK.intro Tryz.func54 G zk nq zk (λ B g w0 a hrm U=>?_)
 have U:=zn [(0,EqV ((ptrH).f g)),] [⟨0,59,ptrH,BkA vr L⟩] U
 refine qb<|zg [η] [] [.v 2 _] [.g 0,.o 0] U (zv G (ac ab) o0) (zz [(0,_),(2,_)] [O 0 59 _] λ a w U=>?_)
 refine aa<|qj ?_
 have U:=St.sel U [0,1]
 refine wp_loop_ghost (λ n a w=>∃ (i:Nat) (M:List Slot),(n+i=L.length∧Gr L M i)∧St B w0 42 [(0,EqV (ptrH.f g)),(2,In (i:Nat))] [⟨0,59,ptrH,BkA vr M⟩] a w) (L.length) ?_ ?_
 ·exact ⟨0,L,⟨by omega,gr_0⟩,U⟩
 intro n a w hI
 obtain ⟨i,M,⟨hn,hG⟩,U⟩:=hI
 have h1M:=bk_one U 0 rfl (gr_z hG hfull)
 refine qb<|qb<|zg [η] [] [.v 6 _,.adr 7 0 (.some 0) True,.adr 8 0 (.some 0) True,.adr 9 0 (.some (0+1)) True,.v 10 _,.v 11 _,.v 12 _] [.g 0,.g 1,.o 6] U (zM 1 G (oc (ob_a G G (oI (lz0 0 G))) (oc (ob_a G G (oH 1 G zk (lz0 0 G))) (oc (ob_a G G (i6 2 G zk trivial (lz0 0 G) cY)) (zL 3 0 1 G ly (zv G (bg Tryz.underlying42 (has_wk' (vq 4 G) (rW h1M))) (zv G (aS (vq 0 G) (vq 5 G)) o0))))))) (zz [(0,_),(2,_),(12,_)] [O 0 59 _] λ a w U=>?_)
 refine aa<|aj U (zm 2 G) (λ hb0=>?_) (λ hb0=>?_)
 ·have hi:i<L.length:=by have:=hG.1; simpa [this] using hb0
  obtain ⟨s,hs⟩:∃ s,L[i]?=some s:=⟨_,List.getElem?_eq_getElem hi⟩
  have hf:=hfull s (qa hs)
  have hn1:=hf.n1
  have hMi:=gr_at hG hs
  have hMlt:i<M.length:=by rw [hG.1]; exact hi
  refine qh<|zt<|qj<|qb<|cc (sp:=[.adr 15 0 (.some 0) True,.adr 16 0 (.some 0) True,.adr 17 0 (.some (0+1)) True,.v 18 _,.v 19 _,.v 20 _,.v 21 _,.v 3 VT,.sto 0]) 7 2 0 8 OneC [.g 0,.g 1,.o 6] U (oc (ob_a G G (oI (lz0 0 G))) (oc (ob_a G G (oH 0 G zk (lz0 0 G))) (oc (ob_a G G (i6 1 G zk trivial (lz0 0 G) cY)) (zL 2 0 1 G ly (zM 1 G (zv G (bH (m:=3) ⟨Tryz.underlying42,by kernel_rfl⟩ tU (has_wk' (vq 3 G) (rW h1M)) (vq 4 G) (oK hMi)) (zv G (au (vq 5 G) lG) o0))))))) G zd zk zk (zz [(0,_),(2,_),(21,_)] [O 0 59 _] λ a w U=>?_)
  rw [show List.range' 7 2=[7,8] from rfl]
  refine my (A:=s.view) 2 [0,1] G G U (Str.zero ij) G lG G zd G zk zk (λ a w U=>?_)
  refine cq ?_
  have U:=zn [(0,_),(2,_)] [O 0 59 _,O 3 133 _] U
  refine zt<|zg [η,η] [] [.adr 22 3 (.some 0) True,.v 23 _,.v 4 _] [.g 0,.g 1,.o 2] U (zO 1 G dO (zL 0 1 0 G aX (zA 1 G o0))) (zz [(0,_),(2,_),(4,_)] [O 0 59 _,O 3 133 _] λ a w U=>?_)
  refine zt<|qb<|zg [η,η] [] [.v 5 _] [.g 0,.g 1,.g 2,.o 0] U (zv G (ac ab) o0) (zz [(0,_),(2,_),(4,_),(5,_)] [O 0 59 _,O 3 133 _] λ a w U=>?_)
  refine aa<|qj ?_
  have U:=St.sel U [0,1,2,3]
  refine wp_loop_ghost (λ n a w=>∃ (k:Nat) (u:Value),n+k=70∧St B w0 42 [(0,EqV (ptrH.f g)),(2,In (i:Nat)),(4,EqV u),(5,In (k:Nat))] [⟨0,59,ptrH,BkA vr (M.set i (s.ext u k))⟩,⟨3,133,ptrH,s.view⟩] a w) (70) ?_ ?_
  ·have U:=St.cvA (A':=BkA vr (M.set i (s.ext s.v 0))) U 0 rfl (show BkA vr M=_ by rw [ext_0 hf,AE hMi]); have U:=St.wkG U 2 rfl tS; exact ⟨0,s.v,by omega,U⟩
  intro n a w hI
  obtain ⟨k,u,hn2,U⟩:=hI
  refine qb<|qb<|zg [η,η] [] [.v 24 _,.v 25 _] [.g 0,.g 1,.g 2,.g 3,.o 1] U (zM 3 G (zv G (aS (vq 0 G) ab) o0)) (zz [(0,_),(2,_),(4,_),(5,_),(25,_)] [O 0 59 _,O 3 133 _] λ a w U=>?_)
  refine aa<|aj U (zm 4 G) (λ hb1=>?_) (λ hb1=>?_)
  ·have hk:k<70:=by have:=hb1; simp at this; omega
   refine qh<|zt<|qj<|cc (sp:=[.v 28 _,.adr 29 3 (.some 2) True,.v 30 _,.v 31 _,.v 32 _,.v 33 VT,.v 4 VT]) 5 2 99 9 OneC [.g 0,.g 1,.g 3,.o 0,.o 4] U (zM 2 G (zO 1 G fY (zL 1 1 2 G ty_3 (zQ G (Du _ hn1) (.o (vq 2 G)) (zv G (cX (l:=[_]) (xs:=[.tmp 31]) b9 zk nq nq (okm hn1) (.o (vq 3 G)) G G) o0))))) G zd zk zk (zz [(0,_),(2,_),(5,_),(28,_),(32,_)] [O 0 59 _,O 3 133 _] λ a w U=>?_)
   rw [show List.range' 5 2=[5,6] from rfl]
   have U:=St.wkG U 4 rfl Hz
   rw [qA]
   refine pj (A1:=λ v'=>BkA vr (M.set i (s.ext v' (k+1)))) (X:=NumA .u32 (mkN s.n:Nat)) (F:=λ ds=>ds=[lv (mkN s.n)]) [0,1,2] 3 4 0 rfl U rfl rfl (λ ds h=>h) rfl rfl rfl (hrm _ zk) Tryz.underlying24 hi0 hz0 hs0 hb0' hc0 Nat.one_pos (n:=s.xs.length+k) (by have:=hf.lx; omega) (by have:=hf.lx; omega) zd zk zk zk zk (λ cs hp=>by have h:=bk_app (v':=undef) hf (by rw [List.getElem?_set_self hMlt]) hp; simp only [uw] at h; exact h) (λ v' w U=>?_)
   rw [qA]
   refine pi 0 G U G zd zk zk (λ a U=>?_)
   refine cq ?_
   have U:=zn [(4,_),(33,_),(0,_),(2,_),(5,_)] [⟨0,59,ptrH,BkA vr (M.set i (s.ext v' (k+1)))⟩,O 3 133 _] U
   refine ap ?_
   refine aa<|zg [η,η] [] [.v 26 _,.v 27 _,.v 5 _] [.g 0,.g 2,.g 3,.o 2] U (zM 4 G (zv G (aN (vq 0 G) ab (ba zo)) (zA 1 G o0))) (zz [(4,_),(0,_),(2,_),(5,_)] [O 0 59 _,O 3 133 _] λ a w U=>?_)
   refine aa ?_
   have U:=St.sel U [1,2,0,3]
   exact ⟨n-1,by omega,k+1,v',by omega,U⟩
  ·have hk:k=70:=by simp at hb1; omega
   subst hk
   have hu:=((r5 U 0 rfl).2 _ (List.mem_set hMlt _)).1
   have hu1:=hu.one
   have hu2:u.cells = #[u]:=hu.cell
   refine qK<|am<|am<|aB<|aa<|cc (sp:=[.adr 34 0 (.some 0) True,.adr 35 0 (.some 0) True,.adr 36 0 (.some (0+1)) True,.v 37 _,.v 38 _,.v 39 _,.v 40 VT,.v 41 VT,.sto 0]) 6 3 0 8 OneC [.g 0,.g 1,.o 3,.o 4,.o 5] U (oc (ob_a G G (oI (lz0 0 G))) (oc (ob_a G G (oH 0 G zk (lz0 0 G))) (oc (ob_a G G (i6 1 G zk trivial (lz0 0 G) cY)) (zL 2 0 1 G ly (zM 1 G (zM 2 G o0)))))) G zd zk zk (zz [(0,_),(2,_),(37,_),(38,_),(39,_)] [O 0 59 _,O 3 133 _] λ a w U=>?_)
   rw [show List.range' 6 3=[6,7,8] from rfl]
   have U:=St.selL U [0]
   have U:=St.wkG U 2 rfl Gi
   have hvr:=(r5 U 0 rfl).1
   obtain ⟨g1,cap1,hv1⟩:=hvr.row (show i<_ by rw [zG,hG.1]; exact hi)
   have U:=St.cvG U 2 rfl (qm EqV hv1)
   rw [qA]
   refine ph (m:=3) (k:=i) 2 3 G U ⟨Tryz.underlying42,by kernel_rfl⟩ zd G G (by rw [zG,hG.1]; exact hi) zd zk zk (λ a U=>?_)
   rw [qA]
   refine iU 0 G U fZ G zd zk zk (λ a U=>?_)
   rw [qA]
   refine w8 (A1:=BkA vr ((M.set i (s.ext u 70)).set i { s.ext u 70 with z:=u })) [2,3] 0 6 0 G U G G hu1 hu2 aX G zd (hrm _ zk) zk zk (λ cs hp=>bk_put (by rw [List.getElem?_set_self hMlt]) hv1 hp) (λ w U=>?_)
   refine fx ?_
   have U:=zn [(0,_),(2,_)] [O 0 59 _] U
   refine ap ?_
   refine aa<|zg [η] [] [.v 13 _,.v 14 _,.v 2 _] [.g 0,.o 2] U (zM 1 G (zv G (aN (vq 0 G) ab (ba zo)) (zA 1 G o0))) (zz [(0,_),(2,_)] [O 0 59 _] λ a w U=>?_)
   refine aa ?_
   have U:=St.sel U [0,1]
   exact ⟨L.length-(i+1),by omega,i+1,_,⟨by omega,Gl hG hs⟩,(uw (M:=M) (i:=i))▸U⟩
 ·have hi:i=L.length:=by have:=hG.1; simp [this] at hb0; omega
  subst hi
  have U:=St.wkL (A':=GkA vr L) U 0 rfl (gk_of hG)
  refine qK<|am<|am<|aB<|ec<|iN U (zm 0 G) (zm 0 G) ?_
  exact bf (rs:=[]) G U .nil zd
structure Slot.done (t:Slot):Prop where
 zu:t.z=t.u
 xm:t.xs=List.replicate t.xs.length (mkN t.n)
 ym:t.ys=List.replicate (t.xs.length+70) (mkN t.n)
 n1:t.n≤1000000
 lx:t.xs.length≤2000000000000
theorem Gm {L M:List Slot}(h:Gr L M L.length)(hf:∀ s∈L,s.full):∀ t∈M,t.done:=λ t ht=>by
 obtain ⟨j,hj⟩:=List.getElem?_of_mem ht
 have hlt:=(List.getElem?_eq_some_iff.1 hj).1
 rw [h.1] at hlt
 obtain ⟨t',h1,h2,_⟩:=h.2 j _ (List.getElem?_eq_getElem hlt)
 rw [hj] at h1
 injection h1 with h1
 subst h1
 have hG:=h2 hlt
 have hs:=hf _ (qf hlt)
 refine ⟨hG.z,?_,?_,?_,?_⟩
 ·rw [hG.xs,hG.n]; exact hs.xm
 ·rw [hG.xs,hG.n]; exact hG.ys
 ·rw [hG.n]; exact hs.n1
 ·rw [hG.xs]; exact hs.lx
theorem nj {t:Slot}(h:t.done):t.ys.length=t.xs.length+70:=by rw [h.ym,qW]
theorem yz {t:Slot}(h:t.done):okL t.xs:=h.xm▸FZ0 h.n1
theorem yy {t:Slot}(h:t.done):okL t.ys:=h.ym▸FZ0 h.n1
theorem GO {t:Slot}(h:t.done){k:Nat}(hk:k<t.xs.length):t.xs[k]=mkN t.n:=by
 have h1:=h.xm
 have h2:t.xs[k]?=(List.replicate t.xs.length (mkN t.n))[k]?:=qm (λ l=>l[k]?) h1
 rw [List.getElem?_eq_getElem hk,List.getElem?_replicate,qz hk] at h2
 injection h2
theorem GN {t:Slot}(h:t.done){k:Nat}(hk:k<t.ys.length):t.ys[k]=mkN t.n:=by
 have h2:t.ys[k]?=(List.replicate (t.xs.length+70) (mkN t.n))[k]?:=qm (λ l=>l[k]?) h.ym
 rw [List.getElem?_eq_getElem hk,List.getElem?_replicate,qz (by rw [← nj h]; exact hk)] at h2
 injection h2
theorem G0 {t:Slot}(h:t.done){k:Nat}(hk:k<t.ys.length):((!(((t.ys[k]:Nat):Int)==((mkN t.n:Nat):Int))) || (decide ((k:Int)<(t.xs.length:Int))&&(!(((t.xs.getD k 0:Nat):Int)==((mkN t.n:Nat):Int)))))=false:=by
 rw [GN h hk,beq_self_eq_true,kA,xB]
 by_cases h2:k<t.xs.length
 ·rw [List.getD_eq_getElem?_getD,List.getElem?_eq_getElem h2,xf,GO h h2,beq_self_eq_true,kA,Bool.and_false]
 ·rw [zb zo,Bool.false_and]
theorem Hf {M:List Slot}{B N:Nat}{s:Nat}(h:St B w0 N Γ Λ a w)(k:Nat)(hm:Γ[k]?=some (s,ElP T (BkA vr M)))(hz:∀ t∈M,t.z=t.u):One1 M:=λ t ht=>by
 obtain ⟨b,o,cs,_,_,_,hp,_⟩:=h.vals _ (qa hm)
 obtain ⟨c,h1,h2,h3,_⟩:=nr hp
 refine ⟨(h3 t ht).2.1.one,?_⟩
 rw [hz t ht]
 exact (eV (h3 t ht).1).1
section
open Rg
variable {P:Program} {Q:Exit→Act→World→Prop} {B N:Nat} {w0:Bs} {Γ:List (Nat × VA)} {Λ:List Lc} {a:Act} {w:World}
def lesA (Λ:List Lc)(d n:Nat):List Le:=(Λ.map λ l=>⟨l.s,l.T,l.H,none,l.A,none⟩)++[⟨d,999999,ptrH,some n,OneC,some (n+1,OneC)⟩]
theorem BF {id:Nat}{ops:Array Oper}{sp:List Sp}(n m d:Nat)(src:List Src)
  (h:St B w0 N Γ Λ a w) (hob:Obs P Q ⟨ops,N,Γ,lesA Λ d n,sp,λ i=>List.range i⟩ B w0 0 n) (hsz:ops.size=n+m) (hk:Rg.chk ⟨ops,N,Γ,lesA Λ d n,sp,λ i=>List.range i⟩=true)
  (hsrc:src.all (λ s=>match s with | .g k=>(match Γ[k]? with | some x=>Rg.outG ⟨ops,N,Γ,lesA Λ d n,sp,λ i=>List.range i⟩ x.1 | none=>false) | .o i=>decide (i<n))=true)
  (hQ:∀ a' w',St B w0 N (src.filterMap (takeS ⟨ops,N,Γ,lesA Λ d n,sp,λ i=>List.range i⟩)) Λ a' w'→wpOps P ops Q (List.range' n m) a' w'):(Code.region id ops false).wp P Q a w:=by
 refine Rg.linK (R:=⟨ops,N,Γ,lesA Λ d n,sp,λ i=>List.range i⟩) (m:=m) hsz G hk h (λ y hy hcr=>?_) (λ i hi=>hob.all i zo zo) λ a1 w1 hinv=>?_
 ·rcases qo.1 hy with hy | hy
  ·obtain ⟨l,hl,rfl⟩:=qq.1 hy
   exact hl
  ·obtain rfl:=qn.1 hy
   cases hcr
 ·exact hQ a1 w1 (iX (λ l' hl'=>⟨none,qo.2 (.inl (qq.2 ⟨l',hl',rfl⟩))⟩) (λ y hy i A' h1=>by
   rcases qo.1 hy with hy | hy
   ·obtain ⟨l,hl,rfl⟩:=qq.1 hy
    cases h1
   ·obtain rfl:=qn.1 hy
    injection h1 with h1
    injection h1 with h1 _
    omega) hinv src hsrc)
end
section
open Rg
variable {P:Program} {Q:Exit→Act→World→Prop} {R:Rg} {B i:Nat} {w0:Bs}
theorem pB {x y:Operand}{L:List Slot}{s:Slot}(hx:Has R B w0 i x (EqS s.v).va)(hl:Has R B w0 i y (ElP T (BkA vr L)))(hs:s∈L)(ok:okL s.xs):Has R B w0 i x (MgA s.xs).va:=λ a w av=>by
 obtain ⟨b,o,cs,_,_,_,h,_⟩:=hl a w av
 obtain ⟨c,h⟩:=nr h
 rw [sg (hx a w av)]
 exact uP (h.2.2.1 s hs).2 ok
theorem pC {x y:Operand}{L:List Slot}{s:Slot}(hx:Has R B w0 i x (EqS s.z).va)(hz:s.z=s.u)(hl:Has R B w0 i y (ElP T (BkA vr L)))(hs:s∈L)(ok:okL s.ys):Has R B w0 i x (MgA s.ys).va:=λ a w av=>by
 obtain ⟨b,o,cs,_,_,_,h,_⟩:=hl a w av
 obtain ⟨c,h⟩:=nr h
 rw [sg (hx a w av),hz]
 exact uP (vT (h.2.2.1 s hs).1) ok
theorem nQ {x:Operand}{E:TypeId}{A:As}(hx:Has R B w0 i x (ElP E A)):Wv P Q R B w0 i (.nilCheck x) (ElP E A) :=
 bj λ d T ps af gd a w av=>by
  have h:=hx a w av
  obtain ⟨b,o,cs,hv,_⟩:=h
  exact ⟨a.eval x,w,by simp [execOp,hv],Grow.refl w,hx a w av⟩
end
theorem wk_70 {n:Nat}(h:n≤2000000000000):IntKind.i64.wrap ((n:Int)+70)=((n+70:Nat):Int):=by rw [wi64 zo zo]; rfl
theorem look_c (vr:Value)(M:List Slot)(hdone:∀ t∈M,t.done)(hl:M.length≤1000000):Cn Tryz.prog 70 [ElP 59 (BkA vr M)] (Bo true):=by
 refine Cn.intro Tryz.func70 G zk nq (λ B w0 a U=>?_)
 have U:=zn [(0,ElP 59 (BkA vr M))] [] U
 have h1M:=Hf U 0 rfl (λ t ht=>(hdone t ht).zu)
 refine qb<|zh [.v 2 _] [.g 0,.o 0] U (zv G (ac aJ) o0) (zz [(0,_),(2,_)] [] λ a w U=>?_)
 refine zt<|qb<|zh [.v 3 _] [.g 0,.g 1,.o 0] U (zv G (ac ab) o0) (zz [(0,_),(2,_),(3,_)] [] λ a w U=>?_)
 refine aa<|qj ?_
 have U:=St.sel U [0,2]
 refine wp_loop_ghost (λ n a w=>∃ (i:Nat),n+i=M.length∧St B w0 64 [(0,ElP 59 (BkA vr M)),(3,In (i:Nat))] [] a w) (M.length) ?_ ?_
 ·exact ⟨0,by omega,U⟩
 intro n a w hI
 obtain ⟨i,hn,U⟩:=hI
 refine qb<|qb<|zh [.v 6 _,.v 7 _,.v 8 _,.v 9 _,.v 10 _,.v 11 _,.v 12 _] [.g 0,.g 1,.o 6] U (zM 1 G (zM 0 G (zv G (nQ (vq 1 G)) (zv G (bL (vq 2 G) cY (Sub.part 1 G G)) (zv G (au (vq 3 G) ly) (zv G (bg Tryz.underlying42 (has_wk' (vq 4 G) (rW h1M))) (zv G (aS (vq 0 G) (vq 5 G)) o0))))))) (zz [(0,_),(3,_),(12,_)] [] λ a w U=>?_)
 refine aa<|aj U (zm 2 G) (λ hb0=>?_) (λ hb0=>?_)
 ·have hi:i<M.length:=by have:=hb0; simp at this; omega
  obtain ⟨t,ht⟩:∃ t,M[i]?=some t:=⟨_,List.getElem?_eq_getElem hi⟩
  have hmem:=qa ht
  have hd:=hdone t hmem
  refine qh<|zt<|qj<|qb<|BF (sp:=[.v 15 _,.v 16 _,.v 17 _,.v 18 _,.v 19 _,.v 20 _,.v 21 _,.alc 0,.sto 0]) 7 2 4 [.g 0,.g 1,.o 6] U (zM 0 G (zv G (nQ (vq 0 G)) (zv G (bL (vq 1 G) cY (Sub.part 1 G G)) (zv G (au (vq 2 G) ly) (zM 1 G (zv G (bH (m:=3) ⟨Tryz.underlying42,by kernel_rfl⟩ tU (has_wk' (vq 3 G) (rW h1M)) (vq 4 G) (oK ht)) (zv G (au (vq 5 G) lG) o0))))))) G zk zk (zz [(0,_),(3,_),(21,_)] [] λ a w U=>?_)
  rw [show List.range' 7 2=[7,8] from rfl]
  refine my (A:=t.view) 2 [0,1] G G U (Str.zero ij) G lG G zd G zk zk (λ a w U=>?_)
  refine cq ?_
  have U:=zn [(0,_),(3,_)] [O 4 133 _] U
  refine zt<|qb<|zg [η] [] [.adr 22 4 (.some 1) True,.v 23 _,.v 24 _,.adr 25 4 (.some 0) True,.v 26 _,.v 27 _,.v 28 _,.v 29 _] [.g 0,.g 1,.o 7] U (zO 0 G fZ (zL 0 0 1 G aX (zv G (aI Tryz.underlying24 (pC (vq 1 G) hd.zu (gq 0 G) hmem (yy hd))) (zO 0 G dO (zL 3 0 0 G aX (zv G (aI Tryz.underlying24 (pB (vq 4 G) (gq 0 G) hmem (yz hd))) (zv G (aN (vq 5 G) ab (wk_70 hd.lx)) (zv G (bX (vq 2 G) (vq 6 G)) o0)))))))) (zz [(0,_),(3,_),(29,_)] [O 4 133 _] λ a w U=>?_)
  refine aa<|aj U (zm 2 G) (λ hb1=>?_) (λ hb1=>?_)
  ·exact absurd hb1 (by rw [nj hd]; simp)
  ·refine qh<|zt<|zg [η] [] [.v 5 _] [.g 0,.g 1,.o 0] U (zv G (ac ab) o0) (zz [(0,_),(3,_),(5,_)] [O 4 133 _] λ a w U=>?_)
   refine aa<|qj ?_
   have U:=St.sel U [0,1,2]
   refine wp_loop_ghost (λ n a w=>∃ (k:Nat),n+k=t.ys.length∧St B w0 64 [(0,ElP 59 (BkA vr M)),(3,In (i:Nat)),(5,In (k:Nat))] [⟨4,133,ptrH,t.view⟩] a w) (t.ys.length) ?_ ?_
   ·exact ⟨0,by omega,U⟩
   intro n a w hI
   obtain ⟨k,hn2,U⟩:=hI
   refine qb<|qb<|zg [η] [] [.v 30 _,.adr 31 4 (.some 1) True,.v 32 _,.v 33 _,.v 34 _] [.g 0,.g 1,.g 2,.o 4] U (zM 2 G (zO 0 G fZ (zL 1 0 1 G aX (zv G (aI Tryz.underlying24 (pC (vq 2 G) hd.zu (gq 0 G) hmem (yy hd))) (zv G (aS (vq 0 G) (vq 3 G)) o0))))) (zz [(0,_),(3,_),(5,_),(34,_)] [O 4 133 _] λ a w U=>?_)
   refine aa<|aj U (zm 3 G) (λ hb2=>?_) (λ hb2=>?_)
   ·have hk:k<t.ys.length:=by have:=hb2; simp at this; omega
    refine qh<|zt<|qj<|qb<|iY (anc:=[[],[0],[],[0,1,2],[0,1,2,3],[],[5],[0,1,2,3,4,5,6],[0,1,2,3,4,5,6,7],[0,1,2,3,4,5,6,7,8],[0,1,2,3,4,5,6,7,8,9],[0,1,2,3,4,5,6,7,8,9],[0,1,2,3,4,5,6,7,8,9,11],[0,1,2,3,4,5,6,7,8,9,11,12],[0,1,2,3,4,5,6,7,8,9,10,11,12,13],[0,1,2,3,4,5,6,7,8,9,10,11,12,13,14],[0,1,2,3,4,5,6,7,8,9,10,11,12,13,14,15],[0,1,2,3,4,5,6,7,8,9,10,11,12,13,14,15,16],[0,1,2,3,4,5,6,7,8,9,10,11,12,13,14,15],[0,1,2,3,4,5,6,7,8,9,10,11,12,13,14,15,16,17,18],[0,1,2,3,4,5,6,7,8,9,10,11,12,13,14,15,16,17,18,19],[0,1,2,3,4,5,6,7,8,9,10,11,12,13,14,15],[0,1,2,3,4,5,6,7,8,9,10,11,12,13,14,15,21],[0,1,2,3,4,5,6,7,8,9,10,11,12,13,14,15,16,17,18,19,20,21,22],[0,1,2,3,4,5,6,7,8,9,10,11,12,13,14,15,16,17,18,19,20,21,22,23],[0,1,2,3,4,5,6,7,8,9,10,11,12,13,14,15,16,17,18,19,20,21,22,23,24],[0,1,2,3,4,5,6,7,8,9,10,11,12,13,14,15,16,17,18,19,20,21,22,23,24,25]]) (sts:=[none]) (news:=[]) (sp:=((.adr 37 4 (.some 1) True:Sp)::(.v 38 _)::(.v 39 _)::(.v 40 _)::(.v 41 _)::(.adr 42 4 (.some 2) True)::(.v 43 _)::(.v 44 _)::(.v 45 _)::(.v 46 _)::(.f 47 _)::(.adr 48 4 (.some 0) (_=false))::(.f 49 _)::(.f 50 _)::(.f 51 _)::(.f 52 _)::(.adr 53 4 (.some 0) ((_=false)∧_=true))::(.v 54 (Wh ((_=false)∧_=true) _))::(.v 55 (Wh ((_=false)∧_=true) _))::(.v 56 (Wh ((_=false)∧_=true) _))::(.v 57 (Wh ((_=false)∧_=true) _))::(.adr 58 4 (.some 2) ((_=false)∧_=true))::(.v 59 (Wh ((_=false)∧_=true) _))::(.v 60 (Wh ((_=false)∧_=true) _))::(.v 61 (Wh ((_=false)∧_=true) _))::(.f 62 _)::(.v 63 _)::[])) [.g 0,.g 1,.g 2,.o 26] ae U (zO 0 G fZ (zL 0 0 1 G aX (zM 2 G (zv G (bG ⟨Tryz.underlying24,by kernel_rfl⟩ (pC (vq 1 G) hd.zu (gq 0 G) hmem (yy hd)) (vq 2 G) hk) (zv G (au (vq 3 G) aO) (zO 0 G fY (zL 5 0 2 G ty_3 (zQ G (rU _ _ hd.n1) (.p (vq 4 G) (vq 6 G)) (zv G (dY (vq 7 G)) (zv G (ai (vq 8 G)) (zB 9 G (λ hg=>ai (gq 2 G)) (zC 9 0 G dO (zB 9 G (λ hg=>aF 11 G zk hg (lz0 0 G) (Sub.part 0 G G) aX) (zB 9 G (λ hg=>aI Tryz.underlying24 (pB (ak (vq 12 G) hg) (gq 0 G) hmem (yz hd))) (zB 9 G (λ hg=>aS (ak (vq 10 G) hg) (ak (vq 13 G) hg)) (zB 9 G (λ hg=>ai (ak (vq 14 G) hg)) (oc (gS G G G (vq 15 G) nq (λ hg=>gk (lz0 0 G) dO)) (oc (bT G G G (vq 15 G) nq (λ hg=>aF 16 G zk hg (lz0 0 G) (Sub.part 0 G G) aX)) (oc (bT G G G (vq 15 G) nq (λ hg=>ai (gq 2 G))) (oc (bT G G G (vq 15 G) nq (λ hg=>mr ⟨Tryz.underlying24,by kernel_rfl⟩ (pB (ak (vq 17 G) hg) (gq 0 G) hmem (yz hd)) (ak (vq 18 G) hg) (by have:=hg; simp at this; omega))) (oc (bT G G G (vq 15 G) nq (λ hg=>au (ak (vq 19 G) hg) aO)) (oc (gS G G G (vq 15 G) nq (λ hg=>gk (lz0 0 G) fY)) (oc (bT G G G (vq 15 G) nq (λ hg=>aF 21 G zk hg (lz0 0 G) (Sub.part 2 G G) ty_3)) (oc (bT G G G (vq 15 G) nq (λ hg=>be (rU _ _ hd.n1) (.p (ak (vq 20 G) hg) (ak (vq 22 G) hg)))) (oc (bT G G G (vq 15 G) nq (λ hg=>dY (ak (vq 23 G) hg))) (zB 9 G (λ hg=>bA (ak (vq 15 G) hg) (fu (vq 24 G) hg)) (zv G (r_or (vq 9 G) (vq 25 G)) o0))))))))))))))))))))))))))) zk zk zk zk (zz [(0,_),(3,_),(5,_),(63,_)] [O 4 133 _] λ a w U=>?_)
    refine aa<|aj U (zm 3 G) (λ hb3=>?_) (λ hb3=>?_)
    ·exact absurd (hb3.symm.trans (G0 hd hk)) zd
    ·refine qh<|ap ?_
     refine aa<|zg [η] [] [.v 35 _,.v 36 _,.v 5 _] [.g 0,.g 1,.o 2] U (zM 2 G (zv G (aN (vq 0 G) ab (ba (by have:=hd.lx; have:=nj hd; omega))) (zA 1 G o0))) (zz [(0,_),(3,_),(5,_)] [O 4 133 _] λ a w U=>?_)
     refine aa ?_
     have U:=St.sel U [0,1,2]
     exact ⟨n-1,by omega,k+1,by omega,U⟩
   ·have hk:k=t.ys.length:=by have:=hb2; simp at this; omega
    refine qK<|am<|am<|aB<|ap ?_
    refine aa<|zg [η] [] [.v 13 _,.v 14 _,.v 3 _] [.g 0,.o 2] U (zM 1 G (zv G (aN (vq 0 G) ab (ba zo)) (zA 1 G o0))) (zz [(0,_),(3,_)] [O 4 133 _] λ a w U=>?_)
    refine aa ?_
    have U:=St.sel U [0,1]
    have U:=St.selL U []
    exact ⟨M.length-(i+1),by omega,i+1,by omega,U⟩
 ·have hi:i=M.length:=by have:=hb0; simp at this; omega
  refine qK<|am<|am<|aB<|zt<|zh [.v 2 _] [.g 0,.o 0] U (zv G (ac aJ) o0) (zz [(0,_),(2,_)] [] λ a w U=>?_)
  exact aa<|qg<|an G U (zm 1 G)
theorem pl:Wk (EqS (.slice none 0 0)).va (SlA 0 [] []).va:=cd tS Dt
section
open Rg
variable {R:Rg} {B i:Nat} {w0:Bs}
end
theorem ab_fg {f : FuncId} {fn : Func} {E : VA} {r0 r1 rest y : Code} {i t : Nat} (hf : P.funcs[f]? = some fn) (hb : fn.body = some (.seq r0 (.block i (.loop (.seq (.seq r1 (.cond (.tmp t) y (.exit i))) rest))))) (hn : (fn.name == "runtime.NumGoroutine") = false) (hsz : [E].length ≤ fn.ntmps) (hr : fn.results = #[])
  (h0:∀ (B:Nat) (w0:Bs) (a:Act) (w:World) (Q:Exit→Act→World→Prop),St B w0 fn.ntmps [(0,E)] [] a w→(∀ a w,St B w0 fn.ntmps [(0,E),(2,In 0)] [] a w→Q .normal a w)→r0.wp P Q a w)
  (h1:∀ (B:Nat) (w0:Bs) (a:Act) (w:World) (Q:Exit→Act→World→Prop),St B w0 fn.ntmps [(0,E),(2,In 0)] [] a w→(∀ a w,St B w0 fn.ntmps [(t,Bo false)] [] a w→Q .normal a w)→r1.wp P Q a w):Cn P f [E] (Tu []):=by
 refine Cn.intro hf hb hn hsz (λ B w0 a U=>?_)
 refine qb (h0 B w0 a _ _ U λ a w U=>?_)
 refine aa<|qj<|wp_loop_ghost (λ n a w=>St B w0 fn.ntmps [(0,E),(2,In 0)] [] a w) 0 U ?_
 intro n a w U
 refine qb<|qb (h1 B w0 a w _ U λ a w U=>?_)
 refine aa<|aj U (zm 0 G) (λ hb0=>?_) (λ hb0=>?_)
 ·exact absurd hb0 zd
 exact qK<|am<|am<|aB<|ec<|bf (rs:=[]) hr U .nil zd
theorem ab_lk {f : FuncId} {fn : Func} {E : VA} {r0 r1 r2 r3 rest y : Code} {i t : Nat} (hf : P.funcs[f]? = some fn) (hb : fn.body = some (.seq r0 (.seq (.seq r3 (.block i (.loop (.seq (.seq r1 (.cond (.tmp t) y (.exit i))) rest)))) (.seq r2 .ret)))) (hn : (fn.name == "runtime.NumGoroutine") = false) (hsz : [E].length ≤ fn.ntmps) (hr : fn.results = #[.tmp 2])
  (h0:∀ (B:Nat) (w0:Bs) (a:Act) (w:World) (Q:Exit→Act→World→Prop),St B w0 fn.ntmps [(0,E)] [] a w→(∀ a w,St B w0 fn.ntmps [(0,E)] [] a w→Q .normal a w)→r0.wp P Q a w)
  (h3:∀ (B:Nat) (w0:Bs) (a:Act) (w:World) (Q:Exit→Act→World→Prop),St B w0 fn.ntmps [(0,E)] [] a w→(∀ a w,St B w0 fn.ntmps [(0,E),(3,In 0)] [] a w→Q .normal a w)→r3.wp P Q a w)
  (h1:∀ (B:Nat) (w0:Bs) (a:Act) (w:World) (Q:Exit→Act→World→Prop),St B w0 fn.ntmps [(0,E),(3,In 0)] [] a w→(∀ a w,St B w0 fn.ntmps [(0,E),(t,Bo false)] [] a w→Q .normal a w)→r1.wp P Q a w)
  (h2:∀ (B:Nat) (w0:Bs) (a:Act) (w:World) (Q:Exit→Act→World→Prop),St B w0 fn.ntmps [(0,E),(t,Bo false)] [] a w→(∀ a w,St B w0 fn.ntmps [(2,Bo true)] [] a w→Q .normal a w)→r2.wp P Q a w):Cn P f [E] (Bo true):=by
 refine Cn.intro hf hb hn hsz (λ B w0 a U=>?_)
 refine qb (h0 B w0 a _ _ U λ a w U=>?_)
 refine zt<|qb (h3 B w0 a w _ U λ a w U=>?_)
 refine aa<|qj<|wp_loop_ghost (λ n a w=>St B w0 fn.ntmps [(0,E),(3,In 0)] [] a w) 0 U ?_
 intro n a w U
 refine qb<|qb (h1 B w0 a w _ U λ a w U=>?_)
 refine aa<|aj U (zm 1 G) (λ hb0=>?_) (λ hb0=>?_)
 ·exact absurd hb0 zd
 refine qK<|am<|am<|aB<|aa<|qb (h2 B w0 a w _ U λ a w U=>?_)
 exact aa<|qg<|an hr U (zm 0 G)
theorem cz {f : FuncId} {fn : Func} {vr : Value} {M : List Slot} {k o i i0 i1 : Nat} {SH EE X1 X2 : TypeId} {T0 : TypeId} {p0 : String} {a0 : Array Edge} {T1 : TypeId} {p1 : String} {a1 : Array Edge} {T2 : TypeId} {p2 : String} {a2 : Array Edge} {T3 : TypeId} {p3 : String} {a3 : Array Edge} {T4 : TypeId} {p4 : String} {a4 : Array Edge} {T5 : TypeId} {p5 : String} {a5 : Array Edge} {T6 : TypeId} {p6 : String} {a6 : Array Edge} {T7 : TypeId} {p7 : String} {a7 : Array Edge} {rest y : Code} (hf : P.funcs[f]? = some fn) (hb : fn.body = some (.seq (.region i0 #[⟨some 2, .assign (.const (.int .i64 0)), T0, p0, a0, none⟩] false) (.block i (.loop (.seq (.seq (.region i1 #[⟨some 5, .move (.tmp 2), T1, p1, a1, none⟩, ⟨some 6, .move (.tmp 0), T2, p2, a2, none⟩, ⟨some 7, .nilCheck (.tmp 6), T3, p3, a3, none⟩, ⟨some 8, .fieldAddr 59 (.tmp 7) k, T4, p4, a4, none⟩, ⟨some 9, .load SH (.tmp 8), T5, p5, a5, none⟩, ⟨some 10, .call ⟨.builtin .len, #[.tmp 9], #[SH]⟩, T6, p6, a6, none⟩, ⟨some 11, .binOp .lss X1 (.tmp 5) (.tmp 10) X2, T7, p7, a7, none⟩] false) (.cond (.tmp 11) y (.exit i))) rest))))) (hn : (fn.name == "runtime.NumGoroutine") = false) (hN : fn.ntmps = 35) (hr : fn.results = #[]) (hfl : Fld P 59 k o 1) (hS : Sub (BkA vr M) o (EqS (.slice none 0 0))) (hty : Ty P SH 1 false) (hU : P.underlying SH = some (.slice EE)) : Cn P f [ElP 59 (BkA vr M)] (Tu []) := by
 refine ab_fg hf hb hn (by rw [hN]; exact x9 G) hr ?_ ?_ <;> rw [hN]
 ·exact (λ B w0 a w Q U k=>zh [.v 2 _] [.g 0,.o 0] U (zv G (ac ab) o0) k)
 ·exact (λ B w0 a w Q U k=>zh [.v 5 _,.v 6 _,.v 7 _,.v 8 _,.v 9 _,.v 10 _,.v 11 _] [.o 6] U (zM 1 G (zM 0 G (zv G (nQ (vq 1 G)) (zv G (bL (vq 2 G) hfl hS) (zv G (au (vq 3 G) hty) (zv G (bg hU (has_wk' (vq 4 G) pl)) (zv G (aS (vq 0 G) (vq 5 G)) o0))))))) k)
theorem cy {f : FuncId} {fn : Func} {vr : Value} {M : List Slot} {k o i i0 i1 : Nat} {SH EE X1 X2 : TypeId} {T0 : TypeId} {p0 : String} {a0 : Array Edge} {T1 : TypeId} {p1 : String} {a1 : Array Edge} {T2 : TypeId} {p2 : String} {a2 : Array Edge} {T3 : TypeId} {p3 : String} {a3 : Array Edge} {T4 : TypeId} {p4 : String} {a4 : Array Edge} {T5 : TypeId} {p5 : String} {a5 : Array Edge} {T6 : TypeId} {p6 : String} {a6 : Array Edge} {T7 : TypeId} {p7 : String} {a7 : Array Edge} {rest y : Code} (hf : P.funcs[f]? = some fn) (hb : fn.body = some (.seq (.region i0 #[⟨some 2, .assign (.const (.int .i64 0)), T0, p0, a0, none⟩] false) (.block i (.loop (.seq (.seq (.region i1 #[⟨some 6, .move (.tmp 2), T1, p1, a1, none⟩, ⟨some 7, .move (.tmp 0), T2, p2, a2, none⟩, ⟨some 8, .nilCheck (.tmp 7), T3, p3, a3, none⟩, ⟨some 9, .fieldAddr 59 (.tmp 8) k, T4, p4, a4, none⟩, ⟨some 10, .load SH (.tmp 9), T5, p5, a5, none⟩, ⟨some 11, .call ⟨.builtin .len, #[.tmp 10], #[SH]⟩, T6, p6, a6, none⟩, ⟨some 12, .binOp .lss X1 (.tmp 6) (.tmp 11) X2, T7, p7, a7, none⟩] false) (.cond (.tmp 12) y (.exit i))) rest))))) (hn : (fn.name == "runtime.NumGoroutine") = false) (hN : fn.ntmps = 42) (hr : fn.results = #[]) (hfl : Fld P 59 k o 1) (hS : Sub (BkA vr M) o (EqS (.slice none 0 0))) (hty : Ty P SH 1 false) (hU : P.underlying SH = some (.slice EE)) : Cn P f [ElP 59 (BkA vr M)] (Tu []) := by
 refine ab_fg hf hb hn (by rw [hN]; exact x9 G) hr ?_ ?_ <;> rw [hN]
 ·exact (λ B w0 a w Q U k=>zh [.v 2 _] [.g 0,.o 0] U (zv G (ac ab) o0) k)
 ·exact (λ B w0 a w Q U k=>zh [.v 6 _,.v 7 _,.v 8 _,.v 9 _,.v 10 _,.v 11 _,.v 12 _] [.o 6] U (zM 1 G (zM 0 G (zv G (nQ (vq 1 G)) (zv G (bL (vq 2 G) hfl hS) (zv G (au (vq 3 G) hty) (zv G (bg hU (has_wk' (vq 4 G) pl)) (zv G (aS (vq 0 G) (vq 5 G)) o0))))))) k)
theorem cw {f : FuncId} {fn : Func} {vr : Value} {M : List Slot} {k o i i0 i1 i8 i9 : Nat} {SH EE X1 X2 : TypeId} {T0 : TypeId} {p0 : String} {a0 : Array Edge} {T1 : TypeId} {p1 : String} {a1 : Array Edge} {T2 : TypeId} {p2 : String} {a2 : Array Edge} {T3 : TypeId} {p3 : String} {a3 : Array Edge} {T4 : TypeId} {p4 : String} {a4 : Array Edge} {T5 : TypeId} {p5 : String} {a5 : Array Edge} {T6 : TypeId} {p6 : String} {a6 : Array Edge} {T7 : TypeId} {p7 : String} {a7 : Array Edge} {T8 : TypeId} {p8 : String} {a8 : Array Edge} {T9 : TypeId} {p9 : String} {a9 : Array Edge} {rest y : Code} (hf : P.funcs[f]? = some fn) (hb : fn.body = some (.seq (.region i0 #[⟨some 2, .assign (.const (.bool false)), T0, p0, a0, none⟩] false) (.seq (.seq (.region i8 #[⟨some 3, .assign (.const (.int .i64 0)), T8, p8, a8, none⟩] false) (.block i (.loop (.seq (.seq (.region i1 #[⟨some 6, .move (.tmp 3), T1, p1, a1, none⟩, ⟨some 7, .move (.tmp 0), T2, p2, a2, none⟩, ⟨some 8, .nilCheck (.tmp 7), T3, p3, a3, none⟩, ⟨some 9, .fieldAddr 59 (.tmp 8) k, T4, p4, a4, none⟩, ⟨some 10, .load SH (.tmp 9), T5, p5, a5, none⟩, ⟨some 11, .call ⟨.builtin .len, #[.tmp 10], #[SH]⟩, T6, p6, a6, none⟩, ⟨some 12, .binOp .lss X1 (.tmp 6) (.tmp 11) X2, T7, p7, a7, none⟩] false) (.cond (.tmp 12) y (.exit i))) rest)))) (.seq (.region i9 #[⟨some 2, .assign (.const (.bool true)), T9, p9, a9, none⟩] false) .ret)))) (hn : (fn.name == "runtime.NumGoroutine") = false) (hN : fn.ntmps = 64) (hr : fn.results = #[.tmp 2]) (hfl : Fld P 59 k o 1) (hS : Sub (BkA vr M) o (EqS (.slice none 0 0))) (hty : Ty P SH 1 false) (hU : P.underlying SH = some (.slice EE)) : Cn P f [ElP 59 (BkA vr M)] (Bo true) := by
 refine ab_lk hf hb hn (by rw [hN]; exact x9 G) hr ?_ ?_ ?_ ?_ <;> rw [hN]
 ·exact (λ B w0 a w Q U k=>zh [.v 2 _] [.g 0] U (zv G (ac aJ) o0) k)
 ·exact (λ B w0 a w Q U k=>zh [.v 3 _] [.g 0,.o 0] U (zv G (ac ab) o0) k)
 ·exact (λ B w0 a w Q U k=>zh [.v 6 _,.v 7 _,.v 8 _,.v 9 _,.v 10 _,.v 11 _,.v 12 _] [.g 0,.o 6] U (zM 1 G (zM 0 G (zv G (nQ (vq 1 G)) (zv G (bL (vq 2 G) hfl hS) (zv G (au (vq 3 G) hty) (zv G (bg hU (has_wk' (vq 4 G) pl)) (zv G (aS (vq 0 G) (vq 5 G)) o0))))))) k)
 ·exact (λ B w0 a w Q U k=>zh [.v 2 _] [.o 0] U (zv G (ac aJ) o0) k)
theorem oo (vr:Value)(M:List Slot):Cn Tryz.prog 39 [ElP 59 (BkA vr M)] (Tu []):=cz Tryz.func39 rfl zk rfl rfl nf (Sub.part 2 rfl rfl) Eu Tryz.underlying43
theorem ob (vr:Value)(M:List Slot):Cn Tryz.prog 55 [ElP 59 (BkA vr M)] (Tu []):=cy Tryz.func55 rfl zk rfl rfl nf (Sub.part 2 rfl rfl) Eu Tryz.underlying43
theorem nY (vr:Value)(M:List Slot):Cn Tryz.prog 71 [ElP 59 (BkA vr M)] (Bo true):=cw Tryz.func71 rfl zk rfl rfl nf (Sub.part 2 rfl rfl) Eu Tryz.underlying43
theorem pJ (vr:Value)(M:List Slot):Cn Tryz.prog 40 [ElP 59 (BkA vr M)] (Tu []):=cz Tryz.func40 rfl zk rfl rfl nc (Sub.part 3 rfl rfl) Et Tryz.underlying44
theorem pF (vr:Value)(M:List Slot):Cn Tryz.prog 56 [ElP 59 (BkA vr M)] (Tu []):=cy Tryz.func56 rfl zk rfl rfl nc (Sub.part 3 rfl rfl) Et Tryz.underlying44
theorem pu (vr:Value)(M:List Slot):Cn Tryz.prog 72 [ElP 59 (BkA vr M)] (Bo true):=cw Tryz.func72 rfl zk rfl rfl nc (Sub.part 3 rfl rfl) Et Tryz.underlying44
theorem ni (vr:Value)(M:List Slot):Cn Tryz.prog 41 [ElP 59 (BkA vr M)] (Tu []):=cz Tryz.func41 rfl zk rfl rfl nb (Sub.part 4 rfl rfl) Es Tryz.underlying45
theorem mP (vr:Value)(M:List Slot):Cn Tryz.prog 57 [ElP 59 (BkA vr M)] (Tu []):=cy Tryz.func57 rfl zk rfl rfl nb (Sub.part 4 rfl rfl) Es Tryz.underlying45
theorem mL (vr:Value)(M:List Slot):Cn Tryz.prog 73 [ElP 59 (BkA vr M)] (Bo true):=cw Tryz.func73 rfl zk rfl rfl nb (Sub.part 4 rfl rfl) Es Tryz.underlying45
theorem tx (vr:Value)(M:List Slot):Cn Tryz.prog 42 [ElP 59 (BkA vr M)] (Tu []):=cz Tryz.func42 rfl zk rfl rfl na (Sub.part 5 rfl rfl) Er Tryz.underlying46
theorem tm (vr:Value)(M:List Slot):Cn Tryz.prog 58 [ElP 59 (BkA vr M)] (Tu []):=cy Tryz.func58 rfl zk rfl rfl na (Sub.part 5 rfl rfl) Er Tryz.underlying46
theorem tc (vr:Value)(M:List Slot):Cn Tryz.prog 74 [ElP 59 (BkA vr M)] (Bo true):=cw Tryz.func74 rfl zk rfl rfl na (Sub.part 5 rfl rfl) Er Tryz.underlying46
theorem tB (vr:Value)(M:List Slot):Cn Tryz.prog 43 [ElP 59 (BkA vr M)] (Tu []):=cz Tryz.func43 rfl zk rfl rfl mZ (Sub.part 6 rfl rfl) Ep Tryz.underlying47
theorem tq (vr:Value)(M:List Slot):Cn Tryz.prog 59 [ElP 59 (BkA vr M)] (Tu []):=cy Tryz.func59 rfl zk rfl rfl mZ (Sub.part 6 rfl rfl) Ep Tryz.underlying47
theorem tf (vr:Value)(M:List Slot):Cn Tryz.prog 75 [ElP 59 (BkA vr M)] (Bo true):=cw Tryz.func75 rfl zk rfl rfl mZ (Sub.part 6 rfl rfl) Ep Tryz.underlying47
theorem pI (vr:Value)(M:List Slot):Cn Tryz.prog 44 [ElP 59 (BkA vr M)] (Tu []):=cz Tryz.func44 rfl zk rfl rfl mY (Sub.part 7 rfl rfl) Eo Tryz.underlying48
theorem pE (vr:Value)(M:List Slot):Cn Tryz.prog 60 [ElP 59 (BkA vr M)] (Tu []):=cy Tryz.func60 rfl zk rfl rfl mY (Sub.part 7 rfl rfl) Eo Tryz.underlying48
theorem pt (vr:Value)(M:List Slot):Cn Tryz.prog 76 [ElP 59 (BkA vr M)] (Bo true):=cw Tryz.func76 rfl zk rfl rfl mY (Sub.part 7 rfl rfl) Eo Tryz.underlying48
theorem ye (vr:Value)(M:List Slot):Cn Tryz.prog 45 [ElP 59 (BkA vr M)] (Tu []):=cz Tryz.func45 rfl zk rfl rfl mX (Sub.part 8 rfl rfl) En Tryz.underlying49
theorem wW (vr:Value)(M:List Slot):Cn Tryz.prog 61 [ElP 59 (BkA vr M)] (Tu []):=cy Tryz.func61 rfl zk rfl rfl mX (Sub.part 8 rfl rfl) En Tryz.underlying49
theorem wD (vr:Value)(M:List Slot):Cn Tryz.prog 77 [ElP 59 (BkA vr M)] (Bo true):=cw Tryz.func77 rfl zk rfl rfl mX (Sub.part 8 rfl rfl) En Tryz.underlying49
theorem nh (vr:Value)(M:List Slot):Cn Tryz.prog 46 [ElP 59 (BkA vr M)] (Tu []):=cz Tryz.func46 rfl zk rfl rfl mW (Sub.part 9 rfl rfl) Em Tryz.underlying50
theorem mO (vr:Value)(M:List Slot):Cn Tryz.prog 62 [ElP 59 (BkA vr M)] (Tu []):=cy Tryz.func62 rfl zk rfl rfl mW (Sub.part 9 rfl rfl) Em Tryz.underlying50
theorem mK (vr:Value)(M:List Slot):Cn Tryz.prog 78 [ElP 59 (BkA vr M)] (Bo true):=cw Tryz.func78 rfl zk rfl rfl mW (Sub.part 9 rfl rfl) Em Tryz.underlying50
theorem tD (vr:Value)(M:List Slot):Cn Tryz.prog 47 [ElP 59 (BkA vr M)] (Tu []):=cz Tryz.func47 rfl zk rfl rfl l9 (Sub.part 10 rfl rfl) El Tryz.underlying51
theorem tt (vr:Value)(M:List Slot):Cn Tryz.prog 63 [ElP 59 (BkA vr M)] (Tu []):=cy Tryz.func63 rfl zk rfl rfl l9 (Sub.part 10 rfl rfl) El Tryz.underlying51
theorem ti (vr:Value)(M:List Slot):Cn Tryz.prog 79 [ElP 59 (BkA vr M)] (Bo true):=cw Tryz.func79 rfl zk rfl rfl l9 (Sub.part 10 rfl rfl) El Tryz.underlying51
theorem tC (vr:Value)(M:List Slot):Cn Tryz.prog 48 [ElP 59 (BkA vr M)] (Tu []):=cz Tryz.func48 rfl zk rfl rfl l8 (Sub.part 11 rfl rfl) Ek Tryz.underlying52
theorem tr (vr:Value)(M:List Slot):Cn Tryz.prog 64 [ElP 59 (BkA vr M)] (Tu []):=cy Tryz.func64 rfl zk rfl rfl l8 (Sub.part 11 rfl rfl) Ek Tryz.underlying52
theorem th (vr:Value)(M:List Slot):Cn Tryz.prog 80 [ElP 59 (BkA vr M)] (Bo true):=cw Tryz.func80 rfl zk rfl rfl l8 (Sub.part 11 rfl rfl) Ek Tryz.underlying52
theorem tz (vr:Value)(M:List Slot):Cn Tryz.prog 49 [ElP 59 (BkA vr M)] (Tu []):=cz Tryz.func49 rfl zk rfl rfl l7 (Sub.part 12 rfl rfl) Ej Tryz.underlying53
theorem tn (vr:Value)(M:List Slot):Cn Tryz.prog 65 [ElP 59 (BkA vr M)] (Tu []):=cy Tryz.func65 rfl zk rfl rfl l7 (Sub.part 12 rfl rfl) Ej Tryz.underlying53
theorem td (vr:Value)(M:List Slot):Cn Tryz.prog 81 [ElP 59 (BkA vr M)] (Bo true):=cw Tryz.func81 rfl zk rfl rfl l7 (Sub.part 12 rfl rfl) Ej Tryz.underlying53
theorem yf (vr:Value)(M:List Slot):Cn Tryz.prog 50 [ElP 59 (BkA vr M)] (Tu []):=cz Tryz.func50 rfl zk rfl rfl l6 (Sub.part 13 rfl rfl) Ei Tryz.underlying54
theorem wX (vr:Value)(M:List Slot):Cn Tryz.prog 66 [ElP 59 (BkA vr M)] (Tu []):=cy Tryz.func66 rfl zk rfl rfl l6 (Sub.part 13 rfl rfl) Ei Tryz.underlying54
theorem wF (vr:Value)(M:List Slot):Cn Tryz.prog 82 [ElP 59 (BkA vr M)] (Bo true):=cw Tryz.func82 rfl zk rfl rfl l6 (Sub.part 13 rfl rfl) Ei Tryz.underlying54
theorem tA (vr:Value)(M:List Slot):Cn Tryz.prog 51 [ElP 59 (BkA vr M)] (Tu []):=cz Tryz.func51 rfl zk rfl rfl l5 (Sub.part 14 rfl rfl) Eh Tryz.underlying55
theorem tp (vr:Value)(M:List Slot):Cn Tryz.prog 67 [ElP 59 (BkA vr M)] (Tu []):=cy Tryz.func67 rfl zk rfl rfl l5 (Sub.part 14 rfl rfl) Eh Tryz.underlying55
theorem te (vr:Value)(M:List Slot):Cn Tryz.prog 83 [ElP 59 (BkA vr M)] (Bo true):=cw Tryz.func83 rfl zk rfl rfl l5 (Sub.part 14 rfl rfl) Eh Tryz.underlying55
theorem yg (vr:Value)(M:List Slot):Cn Tryz.prog 52 [ElP 59 (BkA vr M)] (Tu []):=cz Tryz.func52 rfl zk rfl rfl l4 (Sub.part 15 rfl rfl) Eg Tryz.underlying56
theorem wY (vr:Value)(M:List Slot):Cn Tryz.prog 68 [ElP 59 (BkA vr M)] (Tu []):=cy Tryz.func68 rfl zk rfl rfl l4 (Sub.part 15 rfl rfl) Eg Tryz.underlying56
theorem wG (vr:Value)(M:List Slot):Cn Tryz.prog 84 [ElP 59 (BkA vr M)] (Bo true):=cw Tryz.func84 rfl zk rfl rfl l4 (Sub.part 15 rfl rfl) Eg Tryz.underlying56
theorem pH (vr:Value)(M:List Slot):Cn Tryz.prog 53 [ElP 59 (BkA vr M)] (Tu []):=cz Tryz.func53 rfl zk rfl rfl l3 (Sub.part 16 rfl rfl) Ef Tryz.underlying57
theorem pD (vr:Value)(M:List Slot):Cn Tryz.prog 69 [ElP 59 (BkA vr M)] (Tu []):=cy Tryz.func69 rfl zk rfl rfl l3 (Sub.part 16 rfl rfl) Ef Tryz.underlying57
theorem pq (vr:Value)(M:List Slot):Cn Tryz.prog 85 [ElP 59 (BkA vr M)] (Bo true):=cw Tryz.func85 rfl zk rfl rfl l3 (Sub.part 16 rfl rfl) Ef Tryz.underlying57
abbrev filL (L:List Slot):List Slot:=L.map λ s=>s.fil s.xs.length
theorem C1 {s:Slot}(h:s.new):(s.fil s.xs.length).full:=by
 have e:(s.fil s.xs.length).xs=List.replicate s.xs.length (mkN s.n):=by
  show List.replicate s.xs.length (mkN s.n)++s.xs.drop s.xs.length=_
  rw [xg,zj]
 exact ⟨yh h.towf (qi _),h.uv,rfl,by rw [e,qW]; rfl⟩
theorem oq {L:List Slot}(h:∀ s∈L,s.new):∀ s∈filL L,s.full:=λ s hs=>by
 obtain ⟨t,ht,rfl⟩:=qq.1 hs
 exact C1 (h t ht)
theorem gk_st {L:List Slot}{B N:Nat}{s:Nat}(h:St B w0 N Γ Λ a w)(k:Nat)(hm:Λ[k]?=some ⟨s,T,H,GkA vr L⟩):∃ M,Gr L M L.length∧St B w0 N Γ (Λ.set k ⟨s,T,H,BkA vr M⟩) a w:=by
 obtain ⟨g,cs,q1,q2,q3,M,hG,q4⟩:=h.locs _ (qa hm)
 obtain ⟨hk,he⟩:=List.getElem?_eq_some_iff.1 hm
 have hs:∀ m∈Λ.set k ⟨s,T,H,BkA vr M⟩,∃ m0∈Λ,m0.s=m.s:=λ m hm'=>by
  rcases qy hm' with hm' | rfl
  ·exact ⟨m,hm',rfl⟩
  ·exact ⟨_,qa hm,rfl⟩
 refine ⟨M,hG,h.lo,h.defers,h.size,h.base,h.vals,λ l hl=>?_,λ m1 hm1 m2 hm2 hne=>?_⟩
 ·rcases qy hl with hl | rfl
  ·exact h.locs l hl
  ·exact ⟨g,cs,q1,q2,q3,q4⟩
 ·obtain ⟨m3,r1,r2⟩:=hs m1 hm1
  obtain ⟨m4,r3,r4⟩:=hs m2 hm2
  rw [← r2,← r4] at hne ⊢
  exact h.dis m3 r1 m4 r3 hne
theorem Hn (vr:Value)(L:List Slot)(hnew:∀ s∈L,s.new)(hl:L.length≤1000000):CK Tryz.prog 12 59 [59,133,134] (BkA vr L) (GkA vr (filL L)) [] (Bo true):=by
 refine CK.intro Tryz.func12 G zk nq zk (λ B g w0 a hrm U=>?_)
 have U:=zn [(0,EqV ((ptrH).f g)),] [⟨0,59,ptrH,BkA vr L⟩] U
 refine qb<|zg [η] [] [.v 2 _] [.g 0,.o 0] U (zv G (ac aJ) o0) (zz [(0,_),(2,_)] [O 0 59 _] λ a w U=>?_)
 refine zt<|cc (sp:=[.v 3 _,.v 4 VT]) 1 1 99 1 OneC [.g 0,.g 1,.o 0] U (zM 0 G o0) G zd zk zk (zz [(0,_),(2,_),(3,_)] [O 0 59 _] λ a w U=>?_)
 rw [show List.range' 1 1=[1] from rfl]
 rw [qA]
 refine fO (A1:=BkA vr (filL L)) [0,1] [] 0 G U (fill_c vr L hnew hl) G (xA (b:=ptr g) (U.vals _ (zm 2 G)) (j7 (U.vals _ (zm 0 G)))) .nil G hrm zd zk zk zk zk (λ a w U=>?_)
 refine cq ?_
 have U:=zn [(4,_),(0,_),(2,_)] [⟨0,59,ptrH,BkA vr (filL L)⟩] U
 refine zt<|zg [η] [] [.v 5 _,.v 6 _] [.g 1,.g 2] U (zv G (ai (bb (lz0 0 G))) (zQ G (oo vr (filL L)) (.o (vq 0 G)) o0)) (zz [(0,_),(2,_)] [O 0 59 _] λ a w U=>?_)
 refine zt<|zg [η] [] [.v 7 _,.v 8 _] [.g 0,.g 1] U (zv G (ai (bb (lz0 0 G))) (zQ G (pJ vr (filL L)) (.o (vq 0 G)) o0)) (zz [(0,_),(2,_)] [O 0 59 _] λ a w U=>?_)
 refine zt<|zg [η] [] [.v 9 _,.v 10 _] [.g 0,.g 1] U (zv G (ai (bb (lz0 0 G))) (zQ G (ni vr (filL L)) (.o (vq 0 G)) o0)) (zz [(0,_),(2,_)] [O 0 59 _] λ a w U=>?_)
 refine zt<|zg [η] [] [.v 11 _,.v 12 _] [.g 0,.g 1] U (zv G (ai (bb (lz0 0 G))) (zQ G (tx vr (filL L)) (.o (vq 0 G)) o0)) (zz [(0,_),(2,_)] [O 0 59 _] λ a w U=>?_)
 refine zt<|zg [η] [] [.v 13 _,.v 14 _] [.g 0,.g 1] U (zv G (ai (bb (lz0 0 G))) (zQ G (tB vr (filL L)) (.o (vq 0 G)) o0)) (zz [(0,_),(2,_)] [O 0 59 _] λ a w U=>?_)
 refine zt<|zg [η] [] [.v 15 _,.v 16 _] [.g 0,.g 1] U (zv G (ai (bb (lz0 0 G))) (zQ G (pI vr (filL L)) (.o (vq 0 G)) o0)) (zz [(0,_),(2,_)] [O 0 59 _] λ a w U=>?_)
 refine zt<|zg [η] [] [.v 17 _,.v 18 _] [.g 0,.g 1] U (zv G (ai (bb (lz0 0 G))) (zQ G (ye vr (filL L)) (.o (vq 0 G)) o0)) (zz [(0,_),(2,_)] [O 0 59 _] λ a w U=>?_)
 refine zt<|zg [η] [] [.v 19 _,.v 20 _] [.g 0,.g 1] U (zv G (ai (bb (lz0 0 G))) (zQ G (nh vr (filL L)) (.o (vq 0 G)) o0)) (zz [(0,_),(2,_)] [O 0 59 _] λ a w U=>?_)
 refine zt<|zg [η] [] [.v 21 _,.v 22 _] [.g 0,.g 1] U (zv G (ai (bb (lz0 0 G))) (zQ G (tD vr (filL L)) (.o (vq 0 G)) o0)) (zz [(0,_),(2,_)] [O 0 59 _] λ a w U=>?_)
 refine zt<|zg [η] [] [.v 23 _,.v 24 _] [.g 0,.g 1] U (zv G (ai (bb (lz0 0 G))) (zQ G (tC vr (filL L)) (.o (vq 0 G)) o0)) (zz [(0,_),(2,_)] [O 0 59 _] λ a w U=>?_)
 refine zt<|zg [η] [] [.v 25 _,.v 26 _] [.g 0,.g 1] U (zv G (ai (bb (lz0 0 G))) (zQ G (tz vr (filL L)) (.o (vq 0 G)) o0)) (zz [(0,_),(2,_)] [O 0 59 _] λ a w U=>?_)
 refine zt<|zg [η] [] [.v 27 _,.v 28 _] [.g 0,.g 1] U (zv G (ai (bb (lz0 0 G))) (zQ G (yf vr (filL L)) (.o (vq 0 G)) o0)) (zz [(0,_),(2,_)] [O 0 59 _] λ a w U=>?_)
 refine zt<|zg [η] [] [.v 29 _,.v 30 _] [.g 0,.g 1] U (zv G (ai (bb (lz0 0 G))) (zQ G (tA vr (filL L)) (.o (vq 0 G)) o0)) (zz [(0,_),(2,_)] [O 0 59 _] λ a w U=>?_)
 refine zt<|zg [η] [] [.v 31 _,.v 32 _] [.g 0,.g 1] U (zv G (ai (bb (lz0 0 G))) (zQ G (yg vr (filL L)) (.o (vq 0 G)) o0)) (zz [(0,_),(2,_)] [O 0 59 _] λ a w U=>?_)
 refine zt<|zg [η] [] [.v 33 _,.v 34 _] [.g 0,.g 1] U (zv G (ai (bb (lz0 0 G))) (zQ G (pH vr (filL L)) (.o (vq 0 G)) o0)) (zz [(0,_),(2,_)] [O 0 59 _] λ a w U=>?_)
 refine zt<|cc (sp:=[.v 35 _,.v 36 VT]) 1 1 99 1 OneC [.g 0,.g 1,.o 0] U (zM 0 G o0) G zd zk zk (zz [(0,_),(2,_),(35,_)] [O 0 59 _] λ a w U=>?_)
 rw [show List.range' 1 1=[1] from rfl]
 rw [qA]
 refine fO (A1:=GkA vr (filL L)) [0,1] [] 0 G U (grow_c vr (filL L) (oq hnew) (by rw [qc]; exact hl)) G (xA (b:=ptr g) (U.vals _ (zm 2 G)) (j7 (U.vals _ (zm 0 G)))) .nil G hrm zd zk zk zk zk (λ a w U=>?_)
 refine cq ?_
 have U:=zn [(36,_),(0,_),(2,_)] [⟨0,59,ptrH,GkA vr (filL L)⟩] U
 obtain ⟨M,hG,U⟩:=gk_st U 0 rfl
 have hdone:=Gm hG (oq hnew)
 have hlM:M.length≤1000000:=by rw [hG.1,qc]; exact hl
 have U:=zn [(36,_),(0,_),(2,_)] [⟨0,59,ptrH,BkA vr M⟩] U
 refine zt<|zg [η] [] [.v 37 _,.v 38 _] [.g 1,.g 2] U (zv G (ai (bb (lz0 0 G))) (zQ G (ob vr M) (.o (vq 0 G)) o0)) (zz [(0,_),(2,_)] [O 0 59 _] λ a w U=>?_)
 refine zt<|zg [η] [] [.v 39 _,.v 40 _] [.g 0,.g 1] U (zv G (ai (bb (lz0 0 G))) (zQ G (pF vr M) (.o (vq 0 G)) o0)) (zz [(0,_),(2,_)] [O 0 59 _] λ a w U=>?_)
 refine zt<|zg [η] [] [.v 41 _,.v 42 _] [.g 0,.g 1] U (zv G (ai (bb (lz0 0 G))) (zQ G (mP vr M) (.o (vq 0 G)) o0)) (zz [(0,_),(2,_)] [O 0 59 _] λ a w U=>?_)
 refine zt<|zg [η] [] [.v 43 _,.v 44 _] [.g 0,.g 1] U (zv G (ai (bb (lz0 0 G))) (zQ G (tm vr M) (.o (vq 0 G)) o0)) (zz [(0,_),(2,_)] [O 0 59 _] λ a w U=>?_)
 refine zt<|zg [η] [] [.v 45 _,.v 46 _] [.g 0,.g 1] U (zv G (ai (bb (lz0 0 G))) (zQ G (tq vr M) (.o (vq 0 G)) o0)) (zz [(0,_),(2,_)] [O 0 59 _] λ a w U=>?_)
 refine zt<|zg [η] [] [.v 47 _,.v 48 _] [.g 0,.g 1] U (zv G (ai (bb (lz0 0 G))) (zQ G (pE vr M) (.o (vq 0 G)) o0)) (zz [(0,_),(2,_)] [O 0 59 _] λ a w U=>?_)
 refine zt<|zg [η] [] [.v 49 _,.v 50 _] [.g 0,.g 1] U (zv G (ai (bb (lz0 0 G))) (zQ G (wW vr M) (.o (vq 0 G)) o0)) (zz [(0,_),(2,_)] [O 0 59 _] λ a w U=>?_)
 refine zt<|zg [η] [] [.v 51 _,.v 52 _] [.g 0,.g 1] U (zv G (ai (bb (lz0 0 G))) (zQ G (mO vr M) (.o (vq 0 G)) o0)) (zz [(0,_),(2,_)] [O 0 59 _] λ a w U=>?_)
 refine zt<|zg [η] [] [.v 53 _,.v 54 _] [.g 0,.g 1] U (zv G (ai (bb (lz0 0 G))) (zQ G (tt vr M) (.o (vq 0 G)) o0)) (zz [(0,_),(2,_)] [O 0 59 _] λ a w U=>?_)
 refine zt<|zg [η] [] [.v 55 _,.v 56 _] [.g 0,.g 1] U (zv G (ai (bb (lz0 0 G))) (zQ G (tr vr M) (.o (vq 0 G)) o0)) (zz [(0,_),(2,_)] [O 0 59 _] λ a w U=>?_)
 refine zt<|zg [η] [] [.v 57 _,.v 58 _] [.g 0,.g 1] U (zv G (ai (bb (lz0 0 G))) (zQ G (tn vr M) (.o (vq 0 G)) o0)) (zz [(0,_),(2,_)] [O 0 59 _] λ a w U=>?_)
 refine zt<|zg [η] [] [.v 59 _,.v 60 _] [.g 0,.g 1] U (zv G (ai (bb (lz0 0 G))) (zQ G (wX vr M) (.o (vq 0 G)) o0)) (zz [(0,_),(2,_)] [O 0 59 _] λ a w U=>?_)
 refine zt<|zg [η] [] [.v 61 _,.v 62 _] [.g 0,.g 1] U (zv G (ai (bb (lz0 0 G))) (zQ G (tp vr M) (.o (vq 0 G)) o0)) (zz [(0,_),(2,_)] [O 0 59 _] λ a w U=>?_)
 refine zt<|zg [η] [] [.v 63 _,.v 64 _] [.g 0,.g 1] U (zv G (ai (bb (lz0 0 G))) (zQ G (wY vr M) (.o (vq 0 G)) o0)) (zz [(0,_),(2,_)] [O 0 59 _] λ a w U=>?_)
 refine zt<|zg [η] [] [.v 65 _,.v 66 _] [.g 0,.g 1] U (zv G (ai (bb (lz0 0 G))) (zQ G (pD vr M) (.o (vq 0 G)) o0)) (zz [(0,_),(2,_)] [O 0 59 _] λ a w U=>?_)
 refine zt<|gl (sts:=[none]) (news:=[]) (sp:=((.v 67 _:Sp)::(.v 68 _)::(.v 69 _)::(.t 70 _)::(.t 71 _)::(.v 72 _)::(.v 73 _)::(.t 74 _)::(.t 75 _)::(.v 76 _)::(.v 77 _)::(.t 78 _)::(.t 79 _)::(.v 80 _)::(.v 81 _)::(.t 82 _)::(.t 83 _)::(.v 84 _)::(.v 85 _)::(.t 86 _)::(.t 87 _)::(.v 88 _)::(.v 89 _)::(.t 90 _)::(.t 91 _)::(.v 92 _)::(.v 93 _)::(.t 94 _)::(.t 95 _)::(.v 96 _)::(.v 97 _)::(.t 98 _)::(.t 99 _)::(.v 100 _)::(.v 101 _)::(.t 102 _)::(.t 103 _)::(.v 104 _)::(.v 105 _)::(.t 106 _)::(.t 107 _)::(.v 108 _)::(.v 109 _)::(.t 110 _)::(.t 111 _)::(.v 112 _)::(.v 113 _)::(.t 114 _)::(.t 115 _)::(.v 116 _)::(.v 117 _)::(.t 118 _)::(.t 119 _)::(.v 120 _)::(.v 121 _)::(.t 122 _)::(.t 123 _)::(.v 124 _)::(.v 125 _)::(.t 126 _)::(.t 127 _)::(.v 128 _)::(.v 2 _)::[])) [.g 0,.o 62] U (zv G (ai (bb (lz0 0 G))) (zQ G (look_c vr M hdone hlM) (.o (vq 0 G)) (zv G (ai (vq 1 G)) (zB 2 G (λ hg=>ai (bb (lz0 0 G))) (zB 2 G (λ hg=>be (nY vr M) (.o (ak (vq 3 G) hg))) (zv G (bA (vq 2 G) (vq 4 G)) (zv G (ai (vq 5 G)) (zB 6 G (λ hg=>ai (bb (lz0 0 G))) (zB 6 G (λ hg=>be (pu vr M) (.o (ak (vq 7 G) hg))) (zv G (bA (vq 6 G) (vq 8 G)) (zv G (ai (vq 9 G)) (zB 10 G (λ hg=>ai (bb (lz0 0 G))) (zB 10 G (λ hg=>be (mL vr M) (.o (ak (vq 11 G) hg))) (zv G (bA (vq 10 G) (vq 12 G)) (zv G (ai (vq 13 G)) (zB 14 G (λ hg=>ai (bb (lz0 0 G))) (zB 14 G (λ hg=>be (tc vr M) (.o (ak (vq 15 G) hg))) (zv G (bA (vq 14 G) (vq 16 G)) (zv G (ai (vq 17 G)) (zB 18 G (λ hg=>ai (bb (lz0 0 G))) (zB 18 G (λ hg=>be (tf vr M) (.o (ak (vq 19 G) hg))) (zv G (bA (vq 18 G) (vq 20 G)) (zv G (ai (vq 21 G)) (zB 22 G (λ hg=>ai (bb (lz0 0 G))) (zB 22 G (λ hg=>be (pt vr M) (.o (ak (vq 23 G) hg))) (zv G (bA (vq 22 G) (vq 24 G)) (zv G (ai (vq 25 G)) (zB 26 G (λ hg=>ai (bb (lz0 0 G))) (zB 26 G (λ hg=>be (wD vr M) (.o (ak (vq 27 G) hg))) (zv G (bA (vq 26 G) (vq 28 G)) (zv G (ai (vq 29 G)) (zB 30 G (λ hg=>ai (bb (lz0 0 G))) (zB 30 G (λ hg=>be (mK vr M) (.o (ak (vq 31 G) hg))) (zv G (bA (vq 30 G) (vq 32 G)) (zv G (ai (vq 33 G)) (zB 34 G (λ hg=>ai (bb (lz0 0 G))) (zB 34 G (λ hg=>be (ti vr M) (.o (ak (vq 35 G) hg))) (zv G (bA (vq 34 G) (vq 36 G)) (zv G (ai (vq 37 G)) (zB 38 G (λ hg=>ai (bb (lz0 0 G))) (zB 38 G (λ hg=>be (th vr M) (.o (ak (vq 39 G) hg))) (zv G (bA (vq 38 G) (vq 40 G)) (zv G (ai (vq 41 G)) (zB 42 G (λ hg=>ai (bb (lz0 0 G))) (zB 42 G (λ hg=>be (td vr M) (.o (ak (vq 43 G) hg))) (zv G (bA (vq 42 G) (vq 44 G)) (zv G (ai (vq 45 G)) (zB 46 G (λ hg=>ai (bb (lz0 0 G))) (zB 46 G (λ hg=>be (wF vr M) (.o (ak (vq 47 G) hg))) (zv G (bA (vq 46 G) (vq 48 G)) (zv G (ai (vq 49 G)) (zB 50 G (λ hg=>ai (bb (lz0 0 G))) (zB 50 G (λ hg=>be (te vr M) (.o (ak (vq 51 G) hg))) (zv G (bA (vq 50 G) (vq 52 G)) (zv G (ai (vq 53 G)) (zB 54 G (λ hg=>ai (bb (lz0 0 G))) (zB 54 G (λ hg=>be (wG vr M) (.o (ak (vq 55 G) hg))) (zv G (bA (vq 54 G) (vq 56 G)) (zv G (ai (vq 57 G)) (zB 58 G (λ hg=>ai (bb (lz0 0 G))) (zB 58 G (λ hg=>be (pq vr M) (.o (ak (vq 59 G) hg))) (zv G (bA (vq 58 G) (vq 60 G)) (zA 61 G o0))))))))))))))))))))))))))))))))))))))))))))))))))))))))))))))) (zz [(0,_),(2,_)] [O 0 59 _] λ a w U=>?_)
 have U:=St.wkL (A':=GkA vr (filL L)) U 0 rfl (gk_of hG)
 refine aa<|qg<|iN U (zm 0 G) (zm 0 G) ?_
 exact an G U (zm 1 G)
end Go.Proofs.YtedfcalhhldijaaGreatDoor
