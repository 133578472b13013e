import Derived.Test.YthdbhckhignfcaaGreatDoorBxAa
import Derived.Test.YthdbhckhignfcaaGreatDoorBxAc
import Derived.Test.YthdbhckhignfcaaGreatDoorBxAp
set_option linter.unusedVariables false
set_option linter.unusedSimpArgs false
set_option linter.unusedSectionVars false
set_option maxRecDepth 100000
namespace Go.Proofs.YthdbhckhignfcaaGreatDoor
open Go Go.RowKit
def lv (x:Nat):Value:=.int .u32 x
structure Slot where
 v:Value
 xs:List Nat
 u:Value
 ys:List Nat
 z:Value
 n:Nat
def Slot.cells (s:Slot):List Value:=[s.v,s.z,.int .i64 s.n]
def RowV (v:Value)(n:Nat):Prop:=(v=.slice none 0 0∧n=0)∨∃ g cap,v=.slice (some ⟨g,0,none⟩) n cap∧n≤cap∧cap≤maxLen
def Rdy (B:Nat)(w:World)(v:Value)(xs:List Nat):Prop:=RowV v xs.length∧∀ g,v.ownBlock=some g→B≤g∧∃ c,w.heap[g]?=some (Obj.cells c U32 (0,0))∧c.toList.take xs.length=xs.map lv
def Slot.ok (B:Nat)(w:World)(s:Slot):Prop:=w.ownsRow B U32 1 s.u s.ys.length (s.ys.map lv)∧Rdy B w s.v s.xs
def Slot.has (s:Slot)(g:Nat):Prop:=s.v.ownBlock=some g∨s.u.ownBlock=some g
def Apt (L:List Slot):Prop:=∀ (i j:Nat) (s t:Slot),L[i]?=some s→L[j]?=some t→i≠j→∀ g,s.has g→¬ t.has g
theorem zcw {E m n B:Nat}{v:Value}{xs:List Value}{w w':World}(h:w.ownsRow B E m v n xs)(hk:∀ (g:Nat) (c:Array Value),v.ownBlock=some g→w.heap[g]?=some (Obj.cells c E (0,0))→w'.heap[g]?=some (Obj.cells c E (0,0))):w'.ownsRow B E m v n xs:=by
 refine ⟨h.1,?_⟩
 rcases h.2 with h1 | ⟨g,cap,cur,rfl,h2,h3,h4⟩
 ·exact .inl h1
 ·exact .inr ⟨g,cap,cur,rfl,h2,hk g cur rfl h3,h4⟩
theorem Rdy.keep {B:Nat}{v:Value}{xs:List Nat}{w w':World}(h:Rdy B w v xs)(hk:∀ (g:Nat) (c:Array Value),v.ownBlock=some g→w.heap[g]?=some (Obj.cells c U32 (0,0))→w'.heap[g]?=some (Obj.cells c U32 (0,0))):Rdy B w' v xs :=
 ⟨h.1,fun g hg=>by
  obtain ⟨h1,c,h2,h3⟩:=h.2 g hg
  exact ⟨h1,c,hk g c hg h2,h3⟩⟩
theorem Slot.ok.keep {B:Nat}{s:Slot}{w w':World}(h:s.ok B w)(hk:∀ (g:Nat) (c:Array Value),s.has g→w.heap[g]?=some (Obj.cells c U32 (0,0))→w'.heap[g]?=some (Obj.cells c U32 (0,0))):s.ok B w' :=
 ⟨zcw h.1 fun g c hg=>hk g c (.inr hg),h.2.keep fun g c hg=>hk g c (.inl hg)⟩
theorem Slot.ok.lt {B:Nat}{s:Slot}{w:World}(h:s.ok B w){g:Nat}(hg:s.has g):B≤g∧∃ c,w.heap[g]?=some (Obj.cells c U32 (0,0)):=by
 rcases hg with hg | hg
 ·obtain ⟨h1,c,h2,_⟩:=h.2.2 g hg
  exact ⟨h1,c,h2⟩
 ·rcases h.1.2 with ⟨e,_⟩ | ⟨g',cap,cur,e,h2,h3,_⟩
  ·rw [e] at hg; cases hg
  ·rw [e] at hg
   have:g'=g:=by simpa [Value.ownBlock] using hg
   subst this
   exact ⟨h2,cur,h3⟩
def HbA (vr:Value)(L:List Slot):As where
 n:=1
 ag:=false
 p B cs w:=cs=[vr]∧w.ownsRow B 105 3 vr L.length (L.flatMap Slot.cells)∧(∀ s∈L,s.ok B w)∧Apt L
 deps:=[105,U32]
 len:=by rintro B cs w ⟨rfl,_⟩; rfl
 one:=by
  rintro B cs w ⟨rfl,h,_⟩ c hc
  obtain rfl:=List.mem_singleton.1 hc
  rcases h.2 with ⟨rfl,_⟩ | ⟨g,cap,cur,rfl,_⟩ <;> rfl
 ag1:=fun _=>rfl
 cg:=fun B cs w w' hg ⟨h1,h2,h3,h4⟩=>⟨h1,zcw h2 fun g c _ h=>hg.heap h,fun s hs=>(h3 s hs).keep fun g c _ h=>hg.heap h,h4⟩
 wr:=by
  rintro B cs w w' g c T fz hgc hT hB hW ⟨h1,h2,h3,h4⟩
  simp only [List.mem_cons,List.not_mem_nil,or_false,not_or] at hT
  have hne:∀ (g':Nat) (c':Array Value) (E:TypeId),(E=105∨E=U32)→w.heap[g']?=some (Obj.cells c' E (0,0))→w'.heap[g']?=some (Obj.cells c' E (0,0)):=fun g' c' E hE h=>by
   rw [hW.block g' (fun e=>?_)]
   ·exact h
   ·subst e
    rw [hgc] at h
    injection h with h
    injection h with _ h _
    subst h
    rcases hE with e | e
    ·exact hT.1 e
    ·exact hT.2 e
  exact ⟨h1,zcw h2 fun g c _ h=>hne g c _ (.inl rfl) h,fun s hs=>(h3 s hs).keep fun g c _ h=>hne g c _ (.inr rfl) h,h4⟩
theorem zsn {α:Type}{f:Slot→List α}:∀ {L:List Slot} {i:Nat} {s s':Slot},L[i]?=some s→f s'=f s→(L.set i s').flatMap f=L.flatMap f
 | x::L,0,s,s',h,e=>by
  simp at h
  subst h
  simp [e]
 | x::L,i+1,s,s',h,e=>by
  simp only [List.set_cons_succ,List.flatMap_cons]
  rw [zsn (by simpa using h) e]
theorem hb_set {vr:Value}{L:List Slot}{B i:Nat}{s s':Slot}{cs:List Value}{w w':World}(h:(HbA vr L).p B cs w)(hi:L[i]?=some s)(hc:s'.cells=s.cells)(hok:s'.ok B w')
  (hrow:∀ (g:Nat) (c:Array Value),w.heap[g]?=some (Obj.cells c 105 (0,0))→w'.heap[g]?=some (Obj.cells c 105 (0,0))) (hoth:∀ (g:Nat) (c:Array Value),¬ s.has g→w.heap[g]?=some (Obj.cells c U32 (0,0))→w'.heap[g]?=some (Obj.cells c U32 (0,0)))
  (hblk:∀ g,s'.has g→s.has g∨w.heap.size≤g):(HbA vr (L.set i s')).p B cs w':=by
 obtain ⟨h1,h2,h3,h4⟩:=h
 have hlt:i<L.length:=(List.getElem?_eq_some_iff.1 hi).1
 have hfar:∀ (j:Nat) t,L[j]?=some t→j≠i→∀ g,t.has g→¬ s'.has g:=fun j t hj hne g hg hg'=>by
  rcases hblk g hg' with h5 | h5
  ·exact h4 j i t s hj hi hne g hg h5
  ·obtain ⟨_,c,h6⟩:=(h3 t (List.mem_of_getElem? hj)).lt hg
   have:=(Array.getElem?_eq_some_iff.1 h6).1
   omega
 refine ⟨h1,?_,fun t ht=>?_,fun j k t1 t2 hj hk hne g hg hg'=>?_⟩
 ·rw [List.length_set,zsn hi hc]
  exact zcw h2 fun g c _ h=>hrow g c h
 ·obtain ⟨j,hj⟩:=List.getElem?_of_mem ht
  by_cases e:j=i
  ·subst e
   rw [List.getElem?_set_self hlt] at hj
   injection hj with hj
   subst hj
   exact hok
  ·rw [List.getElem?_set_ne (fun e2=>e e2.symm)] at hj
   exact (h3 t (List.mem_of_getElem? hj)).keep fun g c hg hh=>hoth g c (fun hs=>h4 j i t s hj hi e g hg hs) hh
 ·by_cases e:j=i
  ·subst e
   rw [List.getElem?_set_self hlt] at hj
   injection hj with hj
   subst hj
   rw [List.getElem?_set_ne hne] at hk
   exact hfar k t2 hk (fun e=>hne e.symm) g hg' hg
  ·rw [List.getElem?_set_ne (fun e2=>e e2.symm)] at hj
   by_cases e2:k=i
   ·subst e2
    rw [List.getElem?_set_self hlt] at hk
    injection hk with hk
    subst hk
    exact hfar j t1 hj e g hg hg'
   ·rw [List.getElem?_set_ne (fun e3=>e2 e3.symm)] at hk
    exact h4 j k t1 t2 hj hk hne g hg hg'
theorem take_set {c:List Value}{xs:List Nat}{k m:Nat}(h:c.take xs.length=xs.map lv):(c.set k (lv m)).take xs.length=(xs.set k m).map lv:=by
 rw [List.take_set,h,List.map_set]
theorem hb_fill {vr:Value}{L:List Slot}{B i k g cap m:Nat}{s:Slot}{cs:List Value}{w:World}(h:(HbA vr L).p B cs w)(hi:L[i]?=some s)(hu:s.u=s.v)(hy:s.ys=s.xs)(hv:s.v=.slice (some ⟨g,0,none⟩) s.xs.length cap)(hk:k<s.xs.length) :
  B≤g∧∃ c:Array Value,w.heap[g]?=some (Obj.cells c U32 (0,0))∧k<c.size∧(HbA vr (L.set i { s with xs:=s.xs.set k m,ys:=s.xs.set k m })).p B cs (w.setRow g (c.setIfInBounds k (lv m))):=by
 have hs:=h.2.2.1 s (List.mem_of_getElem? hi)
 have hg:s.v.ownBlock=some g:=by rw [hv]; rfl
 obtain ⟨hB,c,hc,htk⟩:=hs.2.2 g hg
 have hown:=hs.1
 rw [hu,hy,hv] at hown
 rcases hown.2 with ⟨e,_⟩ | ⟨g',cap',cur,e,h2,h3,h4,h5,h6,h7⟩
 ·cases e
 ·injection e with e1 e2 e3
  injection e1 with e1
  injection e1 with e1
  subst e1
  subst e3
  rw [hc] at h3
  injection h3 with h3
  injection h3 with h3
  subst h3
  have hlen:c.size=cap:=by rw [h6,Nat.mul_one]
  have hnew:(w.setRow g (c.setIfInBounds k (lv m))).heap[g]?=some (Obj.cells (c.setIfInBounds k (lv m)) U32 (0,0)):=setRow_heap w g _ _ _ _ hc
  have htk2:(c.setIfInBounds k (lv m)).toList.take (s.xs.set k m).length=(s.xs.set k m).map lv:=by
   rw [Array.toList_setIfInBounds,List.length_set]
   exact take_set htk
  refine ⟨hB,c,hc,by omega,hb_set h hi rfl ⟨?_,?_⟩ (fun g2 c2 h8=>?_) (fun g2 c2 h8 h9=>?_) fun g2 h8=>.inl h8⟩
  ·show World.ownsRow _ B U32 1 s.u (s.xs.set k m).length ((s.xs.set k m).map lv)
   rw [hu,hv,List.length_set]
   refine ⟨by simp,.inr ⟨g,cap,_,rfl,hB,hnew,h4,h5,by simp [hlen],?_⟩⟩
   rw [List.length_set] at htk2
   rw [Nat.mul_one]
   exact htk2
  ·show Rdy B _ s.v (s.xs.set k m)
   refine ⟨?_,fun g2 h8=>?_⟩
   ·rw [List.length_set]; exact hs.2.1
   ·rw [hg] at h8
    injection h8 with h8
    subst h8
    exact ⟨hB,_,hnew,htk2⟩
  ·rw [setRow_other _ _ _ _ (fun e=>by subst e; rw [hc] at h8; injection h8 with h8; injection h8 with _ h8 _; revert h8; decide)]
   exact h8
  ·rw [setRow_other _ _ _ _ (fun e=>h8 (.inl (by rw [e]; exact hg)))]
   exact h9
theorem hb_app {vr v':Value}{L:List Slot}{B i m:Nat}{s:Slot}{cs:List Value}{w w':World}(h:(HbA vr L).p B cs w)(hi:L[i]?=some s)(hown:w'.ownsRow B U32 1 v' (s.ys.length+1) (s.ys.map lv++[lv m]))(hg:w.grownBy w' s.u.ownBlock)
  (hb:v'.ownBlock=s.u.ownBlock∨(v'.ownBlock=some w.heap.size∧w.grownBy w' none)) (hpre:s.u.ownBlock=s.v.ownBlock→s.xs <+: s.ys):(HbA vr (L.set i { s with u:=v',ys:=s.ys++[m] })).p B cs w':=by
 have hs:=h.2.2.1 s (List.mem_of_getElem? hi)
 have hlt:∀ (g:Nat) (c:Array Value) (T:TypeId),w.heap[g]?=some (Obj.cells c T (0,0))→g<w.heap.size:=fun g c T h=>(Array.getElem?_eq_some_iff.1 h).1
 refine hb_set h hi rfl ⟨by simpa using hown,?_⟩ (fun g c h8=>?_) (fun g c h8 h9=>?_) fun g h8=>?_
 ·refine ⟨hs.2.1,fun g hgv=>?_⟩
  obtain ⟨h1,c,h2,h3⟩:=hs.2.2 g hgv
  by_cases e:s.u.ownBlock=some g
  ·rcases hb with hb | ⟨hb,hgn⟩
   ·rcases hown.2 with ⟨e1,_⟩ | ⟨g',cap,cur,e1,h4,h5,h6,h7,h10,h11⟩
    ·rw [e1,e] at hb
     cases hb
    ·have:g'=g:=by
      have:v'.ownBlock=some g':=by rw [e1]; rfl
      rw [hb,e] at this
      injection this with this
      exact this.symm
     subst this
     refine ⟨h1,cur,h5,?_⟩
     obtain ⟨t,ht⟩:=hpre (e.trans hgv.symm)
     have hle:s.xs.length≤s.ys.length:=by rw [← ht]; simp
     rw [Nat.mul_one] at h11
     have h12:=congrArg (List.take s.xs.length) h11
     rw [List.take_take,Nat.min_eq_left zo] at h12
     show cur.toList.take s.xs.length=s.xs.map lv
     rw [h12,← ht]
     simp [List.take_append_of_le_length]
   ·exact ⟨h1,c,(hgn.block g (hlt _ _ _ h2) (by simp)).trans h2,h3⟩
  ·exact ⟨h1,c,(hg.block g (hlt _ _ _ h2) (fun e2=>e e2.symm)).trans h2,h3⟩
 ·refine (hg.block g (hlt _ _ _ h8) (fun e=>?_)).trans h8
  obtain ⟨_,c2,h9⟩:=hs.lt (g:=g) (.inr e.symm)
  rw [h8] at h9
  injection h9 with h9
  injection h9 with _ h9 _
  revert h9
  decide
 ·exact (hg.block g (hlt _ _ _ h9) (fun e=>h8 (.inr e.symm))).trans h9
 ·rcases h8 with h8 | h8
  ·exact .inl (.inl h8)
  ·rcases hb with hb | ⟨hb,_⟩
   ·exact .inl (.inr (hb.symm.trans h8))
   ·have h8':v'.ownBlock=some g:=h8
    rw [hb] at h8'
    injection h8' with h8'
    exact .inr (Nat.le_of_eq h8')
theorem zyg:∀ {L:List Slot} {i:Nat} {s:Slot},L[i]?=some s→∀ z,(L.set i { s with z:=z }).flatMap Slot.cells=(L.flatMap Slot.cells).set (3*i+1) z
 | x::L,0,s,h,z=>by
  simp at h
  subst h
  rfl
 | x::L,i+1,s,h,z=>by
  simp only [List.set_cons_succ,List.flatMap_cons]
  rw [zyg (by simpa using h) z,show 3*(i+1)+1=(3*i+1)+3 by omega]
  rfl
theorem flat_len {L:List Slot}:(L.flatMap Slot.cells).length=L.length*3:=by
 induction L with
 | nil=>rfl
 | cons x L ih=>rw [List.flatMap_cons,List.length_append,ih,List.length_cons]; show 3+_=_; omega
theorem hb_put {vr:Value}{L:List Slot}{B i g cap:Nat}{s:Slot}{cs:List Value}{w:World}(z:Value)(h:(HbA vr L).p B cs w)(hi:L[i]?=some s)(hvr:vr=.slice (some ⟨g,0,none⟩) L.length cap) :
  B≤g∧∃ c:Array Value,w.heap[g]?=some (Obj.cells c 105 (0,0))∧i*3+1<c.size∧(HbA vr (L.set i { s with z:=z })).p B cs (w.setRow g (c.setIfInBounds (i*3+1) z)):=by
 obtain ⟨h1,h2,h3,h4⟩:=h
 have hlt:i<L.length:=(List.getElem?_eq_some_iff.1 hi).1
 rcases h2.2 with ⟨e,_⟩ | ⟨g',cap',cur,e,q2,q3,q4,q5,q6,q7⟩
 ·rw [hvr] at e; cases e
 ·rw [hvr] at e
  injection e with e1 e2 e3
  injection e1 with e1
  injection e1 with e1
  subst e1
  have hsz:i*3+1<cur.size:=by
   rw [q6]
   have:L.length*3≤cap'*3:=Nat.mul_le_mul_right 3 q4
   omega
  have hnew:(w.setRow g (cur.setIfInBounds (i*3+1) z)).heap[g]?=some (Obj.cells (cur.setIfInBounds (i*3+1) z) 105 (0,0)):=setRow_heap w g _ _ _ _ q3
  refine ⟨q2,cur,q3,hsz,h1,?_,fun t ht=>?_,fun j k t1 t2 hj hk hne g2 hg hg'=>?_⟩
  ·rw [List.length_set,zyg hi]
   refine ⟨by rw [List.length_set,flat_len],.inr ⟨g,cap',_,?_,q2,hnew,q4,q5,by simp [q6],?_⟩⟩
   ·rw [hvr,e3]
   ·rw [Array.toList_setIfInBounds,List.take_set,q7,show 3*i+1=i*3+1 by omega]
  ·have hkeep:∀ t':Slot,t'.ok B w→t'.ok B (w.setRow g (cur.setIfInBounds (i*3+1) z)):=fun t' ht'=>ht'.keep fun g2 c2 hg2 h8=>by
    rw [setRow_other _ _ _ _ (fun e=>by subst e; rw [q3] at h8; injection h8 with h8; injection h8 with _ h8 _; revert h8; decide)]
    exact h8
   rcases List.mem_or_eq_of_mem_set ht with ht | rfl
   ·exact hkeep t (h3 t ht)
   ·exact hkeep _ (h3 s (List.mem_of_getElem? hi))
  ·have hsame:∀ (j:Nat) t,(L.set i { s with z:=z })[j]?=some t→∃ t0,L[j]?=some t0∧∀ g,t.has g→t0.has g:=fun j t hj=>by
    by_cases e:j=i
    ·subst e
     rw [List.getElem?_set_self hlt] at hj
     injection hj with hj
     subst hj
     exact ⟨s,hi,fun g h=>h⟩
    ·rw [List.getElem?_set_ne (fun e2=>e e2.symm)] at hj
     exact ⟨t,hj,fun g h=>h⟩
   obtain ⟨t3,r1,r2⟩:=hsame j t1 hj
   obtain ⟨t4,r3,r4⟩:=hsame k t2 hk
   exact h4 j k t3 t4 r1 r3 hne g2 (r2 g2 hg) (r4 g2 hg')
end Go.Proofs.YthdbhckhignfcaaGreatDoor
namespace Go.Proofs.YthdbhckhignfcaaGreatDoor
open Go Go.RowKit
abbrev mkN (n:Nat):Nat:=100000+n
def EqS (v:Value):As where
 n:=1
 ag:=false
 p _ cs _:=cs=[v]∧v.oneCell'=true
 deps:=[]
 len:=by rintro B cs w ⟨rfl,_⟩; rfl
 one:=by rintro B cs w ⟨rfl,h⟩ c hc; simp at hc; subst hc; exact h
 ag1:=fun _=>rfl
 cg:=fun _ _ _ _ _ h=>h
 wr:=fun _ _ _ _ _ _ _ _ _ _ _ _ h=>h
theorem zhy {v u:Value}{B:Nat}{w:World}(h:(EqS v).va.p B u w):u=v:=by
 obtain ⟨cs,⟨rfl,_⟩,h2⟩:=h
 exact h2
theorem zjt {v:Value}:Wk (EqS v).va (EqV v):=fun _ _ _ h=>zhy h
def BkA (vr:Value)(L:List Slot):As:=cat [NumA .i64 (L.length:Nat),HbA vr L,EqS (.slice none 0 0),EqS (.slice none 0 0),EqS (.slice none 0 0),EqS (.slice none 0 0),EqS (.slice none 0 0),EqS (.slice none 0 0),EqS (.slice none 0 0),EqS (.slice none 0 0),EqS (.slice none 0 0),EqS (.slice none 0 0),EqS (.slice none 0 0),EqS (.slice none 0 0),EqS (.slice none 0 0),EqS (.slice none 0 0),EqS (.slice none 0 0)]
def Slot.view (s:Slot):As:=cat [EqS s.v,EqS s.z,NumA .i64 (s.n:Nat)]
structure Slot.wf (s:Slot):Prop where
 rv:RowV s.v s.xs.length
 ox:okL s.xs
 oy:okL s.ys
 z1:s.z.oneCell'=true
 n1:s.n≤1000000
 lx:s.xs.length≤2000000000000
theorem RowV.one {v:Value}{n:Nat}(h:RowV v n):v.oneCell'=true:=by
 rcases h with ⟨rfl,_⟩ | ⟨g,cap,rfl,_⟩ <;> rfl
theorem zt8 {B:Nat}{w:World}:∀ {L:List Slot},(∀ s∈L,s.wf)→(cat (L.map Slot.view)).p B (L.flatMap Slot.cells) w
 | [],_=>⟨[],rfl,.nil⟩
 | s::L,h=>by
  obtain ⟨ps,e,hp⟩:=zt8 (B:=B) (w:=w) (L:=L) fun t ht=>h t (by simp [ht])
  refine ⟨s.cells::ps,by rw [List.flatMap_cons,e]; rfl,.cons ?_ hp⟩
  exact ⟨[[s.v],[s.z],[.int .i64 s.n]],rfl,.cons ⟨rfl,(h s (by simp)).rv.one⟩ (.cons ⟨rfl,(h s (by simp)).z1⟩ (.cons rfl .nil))⟩
theorem hb_sl {vr:Value}{L:List Slot}(h:∀ s∈L,s.wf):Wk (HbA vr L).va (SlA 105 [] (L.map Slot.view)).va:=fun B v w ⟨cs,⟨e,h2,_⟩,hv⟩=>by
 subst e
 have hv':v=vr:=hv
 subst hv'
 refine zhj (b:=B) (m:=3) B v w ⟨fun A hA=>?_,fun A hA T hT=>?_,L.flatMap Slot.cells,zt8 h,?_⟩
 ·obtain ⟨s,_,rfl⟩:=List.mem_map.1 hA; rfl
 ·obtain ⟨s,_,rfl⟩:=List.mem_map.1 hA; cases (show T∈([]:List TypeId) from hT)
 ·rw [List.length_map]; exact h2
theorem zw5 {B:Nat}{w:World}{v:Value}{xs:List Nat}(h:Rdy B w v xs)(ok:okL xs):(MgA xs).va.p B v w:=by
 rcases h.1 with ⟨rfl,e⟩ | ⟨g,cap,rfl,h1,h2⟩
 ·exact zer ⟨ok,by omega,Nat.zero_le _,fun h=>by omega⟩ e.symm
 ·obtain ⟨_,c,h3,h4⟩:=h.2 g rfl
  refine zer (Mag.own h3 ok h1 h2 fun j hj=>?_) rfl
  have h5:=congrArg (fun l=>l[j]?) h4
  simp only [List.getElem?_take,hj,if_true,List.getElem?_map,List.getElem?_eq_getElem hj,Option.map_some] at h5
  rw [← Array.getElem?_toList]
  exact h5
theorem zwo {B:Nat}{w:World}{v:Value}{ys:List Nat}(h:w.ownsRow B U32 1 v ys.length (ys.map lv)):Rdy B w v ys:=by
 rcases h.2 with ⟨rfl,e⟩ | ⟨g,cap,cur,rfl,h1,h2,h3,h4,h5,h6⟩
 ·exact ⟨.inl ⟨rfl,e⟩,fun g hg=>by cases hg⟩
 ·refine ⟨.inr ⟨g,cap,rfl,h3,h4⟩,fun g' hg=>?_⟩
  have:g=g':=by simpa [Value.ownBlock] using hg
  subst this
  rw [Nat.mul_one] at h6
  exact ⟨h1,cur,h2,h6⟩
section
open Rg
variable {P:Program} {Q:Exit→Act→World→Prop} {R:Rg} {B i:Nat} {w0:Bs}
end
theorem zus {n:Nat}(h:n≤1000000):IntKind.i64.wrap (100000+(n:Int))=((mkN n:Nat):Int):=by
 rw [wi64 zo zo]
 simp
theorem zqv {n:Nat}(h:n≤1000000):IntKind.u32.wrap ((mkN n:Nat):Int)=((mkN n:Nat):Int):=wu32 (by unfold mkN; omega)
theorem mark_c (n0:Nat)(hn:n0≤1000000):Cn Tryz.prog 119 [In (n0:Nat)] ((NumA .u32 (mkN n0:Nat)).va):=by
 refine Cn.intro Tryz.func119 rfl zk nq (fun B w0 a O=>?_)
 have O:=zn [(0,In (n0:Nat))] [] O
 refine wp_seq<|zh [.v 2 _] [.g 0,.o 0] O (zv rfl (za2 (zau 0 rfl)) o0) (zz [(0,_),(2,_)] [] fun a w O=>?_)
 refine zt<|zh [.v 3 _,.v 4 _,.v 5 _,.v 2 _] [.o 3] O (zv rfl (za1 (gq 0 rfl)) (zv rfl (zb5 za3 (vq 0 rfl) (zus hn)) (zv rfl (zaw .u32 zk zk (vq 1 rfl) (zqv hn)) (zv rfl (za2 (vq 2 rfl)) o0)))) (zz [(2,_)] [] fun a w O=>?_)
 exact za0<|wp_ret<|zaf rfl O (zm 0 rfl)
theorem zsa (x0 n0:Nat)(hn:n0≤1000000):Cn Tryz.prog 135 [(NumA .u32 (x0:Nat)).va,In (n0:Nat)] (Bo (((x0:Nat):Int)==((mkN n0:Nat):Int))):=by
 refine Cn.intro Tryz.func135 rfl zk nq (fun B w0 a O=>?_)
 have O:=zn [(0,(NumA .u32 (x0:Nat)).va),(1,In (n0:Nat))] [] O
 refine wp_seq<|zh [.v 4 _] [.g 0,.g 1,.o 0] O (zv rfl (za2 zav) o0) (zz [(0,_),(1,_),(4,_)] [] fun a w O=>?_)
 refine zt<|zh [.v 5 _,.v 6 _,.v 7 _,.v 8 _,.v 9 _,.v 4 _] [.o 5] O (zv rfl (za1 (gq 0 rfl)) (zv rfl (za1 (gq 1 rfl)) (zv rfl (zb5 za3 (vq 1 rfl) (zus hn)) (zv rfl (zaw .u32 zk zk (vq 2 rfl) (zqv hn)) (zv rfl (zca (vq 0 rfl) (vq 3 rfl)) (zv rfl (za2 (vq 4 rfl)) o0)))))) (zz [(4,_)] [] fun a w O=>?_)
 exact za0<|wp_ret<|zaf rfl O (zm 0 rfl)
end Go.Proofs.YthdbhckhignfcaaGreatDoor
namespace Go.Proofs.YthdbhckhignfcaaGreatDoor
open Go Go.RowKit
theorem zjb:Str Tryz.prog 105 [EqS (.slice none 0 0),EqS (.slice none 0 0),NumA .i64 0] :=
 Str.of (z:=.agg #[.slice none 0 0,.slice none 0 0,.int .i64 0]) zk Tryz.underlying105 zk fun B w=>⟨[[.slice none 0 0],[.slice none 0 0],[.int .i64 0]],rfl,.cons ⟨rfl,rfl⟩ (.cons ⟨rfl,rfl⟩ (.cons rfl .nil))⟩
def Slot.fil (s:Slot)(k:Nat):Slot:={ s with xs:=List.replicate k (mkN s.n)++s.xs.drop k,ys:=List.replicate k (mkN s.n)++s.xs.drop k }
theorem zit {s:Slot}{k:Nat}(h:k≤s.xs.length):(s.fil k).xs.length=s.xs.length:=by
 show (List.replicate k (mkN s.n)++s.xs.drop k).length=_
 rw [List.length_append,List.length_replicate,List.length_drop]; omega
theorem fil_0 {s:Slot}(h:s.ys=s.xs):s.fil 0=s:=by
 obtain ⟨v,xs,u,ys,z,n⟩:=s
 have h:ys=xs:=h
 subst h
 rfl
theorem fil_set {s:Slot}{k:Nat}(h:k<s.xs.length):(s.fil k).xs.set k (mkN s.n)=(s.fil (k+1)).xs:=by
 show (List.replicate k (mkN s.n)++s.xs.drop k).set k (mkN s.n)=List.replicate (k+1) (mkN s.n)++s.xs.drop (k+1)
 rw [List.set_append_right _ _ (by simp),List.length_replicate,Nat.sub_self,List.drop_eq_getElem_cons h,List.set_cons_zero,List.replicate_succ',List.append_assoc]
 rfl
structure Slot.new (s:Slot):Prop extends s.wf where
 uv:s.u=s.v
 yx:s.ys=s.xs
theorem mk_ok {n k:Nat}(h:n≤1000000):okL (List.replicate k (mkN n)):=fun x hx=>by
 rw [(List.mem_replicate.1 hx).2]; unfold mkN; omega
theorem zyn {s:Slot}{k:Nat}(h:s.wf):okL (s.fil k).xs:=fun x hx=>by
 rcases List.mem_append.1 hx with hx | hx
 ·exact mk_ok h.n1 x hx
 ·exact h.ox x (List.mem_of_mem_drop hx)
theorem zym {s:Slot}{k:Nat}(h:s.wf)(hk:k≤s.xs.length):(s.fil k).wf:=⟨by rw [zit hk]; exact h.rv,zyn h,zyn h,h.z1,h.n1,by rw [zit hk]; exact h.lx⟩
def fl (L:List Slot)(i k:Nat):List Slot:=L.mapIdx fun j s=>if j<i then s.fil s.xs.length else if j=i then s.fil k else s
theorem zyh {L:List Slot}{i k:Nat}:(fl L i k).length=L.length:=by unfold fl; simp
theorem fl_at {L:List Slot}{i k:Nat}{s:Slot}(h:L[i]?=some s):(fl L i k)[i]?=some (s.fil k):=by
 unfold fl
 rw [List.getElem?_mapIdx,h]
 simp
theorem fl_step {L:List Slot}{i k:Nat}{s:Slot}(h:L[i]?=some s)(hk:k<s.xs.length):(fl L i k).set i { s.fil k with xs:=(s.fil k).xs.set k (mkN s.n),ys:=(s.fil k).xs.set k (mkN s.n) }=fl L i (k+1):=by
 apply List.ext_getElem?
 intro j
 by_cases e:j=i
 ·subst e
  rw [List.getElem?_set_self (by rw [zyh]; exact (List.getElem?_eq_some_iff.1 h).1),fl_at h,fil_set hk]
  rfl
 ·rw [List.getElem?_set_ne (fun e2=>e e2.symm)]
  unfold fl
  rw [List.getElem?_mapIdx,List.getElem?_mapIdx]
  simp [e]
theorem fl_next {L:List Slot}{i:Nat}{s:Slot}(h:L[i]?=some s)(hn:∀ s∈L,s.new):fl L i s.xs.length=fl L (i+1) 0:=by
 apply List.ext_getElem?
 intro j
 unfold fl
 rw [List.getElem?_mapIdx,List.getElem?_mapIdx]
 cases hj:L[j]? with
 | none=>rfl
 | some t =>
  simp only [Option.map_some]
  by_cases e:j=i
  ·subst e
   rw [h] at hj
   injection hj with hj
   subst hj
   simp
  ·by_cases e1:j<i
   ·rw [if_pos e1,if_pos zo]
   ·rw [if_neg e1,if_neg e,if_neg zo]
    by_cases e2:j=i+1
    ·rw [if_pos e2,fil_0 (hn t (List.mem_of_getElem? hj)).yx]
    ·rw [if_neg e2]
theorem fl_zero {L:List Slot}(hn:∀ s∈L,s.new):fl L 0 0=L:=by
 apply List.ext_getElem?
 intro j
 unfold fl
 rw [List.getElem?_mapIdx]
 cases hj:L[j]? with
 | none=>rfl
 | some t =>
  simp only [Option.map_some,Nat.not_lt_zero,if_false]
  by_cases e:j=0
  ·rw [if_pos e,fil_0 (hn t (List.mem_of_getElem? hj)).yx]
  ·rw [if_neg e]
theorem fl_end {L:List Slot}{k:Nat}:fl L L.length k=L.map fun s=>s.fil s.xs.length:=by
 apply List.ext_getElem?
 intro j
 unfold fl
 rw [List.getElem?_mapIdx,List.getElem?_map]
 cases hj:L[j]? with
 | none=>rfl
 | some t =>
  have:=(List.getElem?_eq_some_iff.1 hj).1
  simp only [Option.map_some]
  rw [if_pos this]
theorem fl_wf {L:List Slot}{i k:Nat}(hn:∀ s∈L,s.new)(hk:∀ s,L[i]?=some s→k≤s.xs.length):∀ s∈fl L i k,s.wf:=fun s hs=>by
 obtain ⟨j,hj⟩:=List.getElem?_of_mem hs
 unfold fl at hj
 rw [List.getElem?_mapIdx] at hj
 cases ht:L[j]? with
 | none=>rw [ht] at hj; cases hj
 | some t =>
  rw [ht] at hj
  have hw:=(hn t (List.mem_of_getElem? ht)).towf
  simp only [Option.map_some,Option.some.injEq] at hj
  split at hj
  ·subst hj; exact zym hw (Nat.le_refl _)
  ·split at hj
   ·rename_i e; subst e; subst hj; exact zym hw (hk t ht)
   ·subst hj; exact hw
theorem zpi {L:List Slot}{i:Nat}{s:Slot}(h:L[i]?=some s):(L.map Slot.view)[i]?=some s.view:=by rw [List.getElem?_map,h]; rfl
theorem zuu {L:List Slot}:∀ A∈L.map Slot.view,A.n=3:=fun A hA=>by
 obtain ⟨s,_,rfl⟩:=List.mem_map.1 hA; rfl
theorem RowV.row {v:Value}{n k:Nat}(h:RowV v n)(hk:k<n):∃ g cap,v=.slice (some ⟨g,0,none⟩) n cap:=by
 rcases h with ⟨_,e⟩ | ⟨g,cap,h,_⟩
 ·omega
 ·exact ⟨g,cap,h⟩
theorem zbi {P:Program}{ops:Array Oper}{Q:Exit→Act→World→Prop}{a:Act}{w:World}(h:Q .normal a w):wpOps P ops Q [] a w:=h
theorem zcq {P:Program}{ops:Array Oper}{Q:Exit→Act→World→Prop}{a:Act}{w:World}(h:Q .normal a w):wpOps P ops Q [] (a.put none undef) w:=h
theorem zzr {k:IntKind}{n:Int}:Wk (NumA k n).va (EqV (.int k n)):=fun _ _ _ h=>zbq h
end Go.Proofs.YthdbhckhignfcaaGreatDoor
namespace Go.Proofs.YthdbhckhignfcaaGreatDoor
open Go Go.RowKit
theorem app_u32S:∃ it z,Tryz.prog.info? 106=some it∧it.zero=some z∧it.size=1∧it.bytes=4∧z.cells.size=1:=by
 have h:((Tryz.prog.info? 106).bind fun it=>it.zero.map fun z=>(it.size,it.bytes,z.cells.size))=some (1,4,1):=by kernel_rfl
 cases hi:Tryz.prog.info? 106 with
 | none=>rw [hi] at h; simp at h
 | some it =>
  rw [hi] at h
  cases hz:it.zero with
  | none=>simp [hz] at h
  | some z =>
   simp [hz] at h
   exact ⟨it,z,rfl,hz,h.1,h.2.1,h.2.2⟩
def Slot.ext (s:Slot)(u:Value)(k:Nat):Slot:={ s with u:=u,ys:=List.replicate (s.xs.length+k) (mkN s.n) }
structure Slot.full (s:Slot):Prop extends s.wf where
 uv:s.u=s.v
 yx:s.ys=s.xs
 xm:s.xs=List.replicate s.xs.length (mkN s.n)
theorem ext_0 {s:Slot}(h:s.full):s.ext s.v 0=s:=by
 have h1:=h.uv
 have h2:=h.yx
 have h3:=h.xm
 obtain ⟨v,xs,u,ys,z,n⟩:=s
 simp only at h1 h2 h3
 subst h1 h2
 show Slot.mk u ys u (List.replicate (ys.length+0) (mkN n)) z n=_
 rw [Nat.add_zero,← h3]
structure Grew (s t:Slot):Prop where
 v:t.v=s.v
 xs:t.xs=s.xs
 n:t.n=s.n
 z:t.z=t.u
 ys:t.ys=List.replicate (s.xs.length+70) (mkN s.n)
def Gr (L M:List Slot)(i:Nat):Prop:=M.length=L.length∧∀ (j:Nat) s,L[j]?=some s→∃ t,M[j]?=some t∧(j<i→Grew s t)∧(i≤j→t=s)
theorem gr_0 {L:List Slot}:Gr L L 0:=⟨rfl,fun j s h=>⟨s,h,fun h=>absurd h (Nat.not_lt_zero _),fun _=>rfl⟩⟩
theorem gr_at {L M:List Slot}{i:Nat}{s:Slot}(h:Gr L M i)(hs:L[i]?=some s):M[i]?=some s:=by
 obtain ⟨t,h1,_,h2⟩:=h.2 i s hs
 rw [h1,h2 (Nat.le_refl _)]
theorem gr_next {L M:List Slot}{i:Nat}{s:Slot}{u:Value}(h:Gr L M i)(hs:L[i]?=some s):Gr L (M.set i { s.ext u 70 with z:=u }) (i+1):=by
 refine ⟨by rw [List.length_set]; exact h.1,fun j s' hj=>?_⟩
 by_cases e:j=i
 ·subst e
  rw [hs] at hj
  injection hj with hj
  subst hj
  refine ⟨_,List.getElem?_set_self (by rw [h.1]; exact (List.getElem?_eq_some_iff.1 hs).1),fun _=>⟨rfl,rfl,rfl,rfl,rfl⟩,fun h=>by omega⟩
 ·obtain ⟨t,h1,h2,h3⟩:=h.2 j s' hj
  exact ⟨t,by rw [List.getElem?_set_ne (fun e2=>e e2.symm)]; exact h1,fun h=>h2 zo,fun h=>h3 zo⟩
theorem gr_mem {L M:List Slot}{i:Nat}(h:Gr L M i){t:Slot}(ht:t∈M):∃ s∈L,Grew s t∨t=s:=by
 obtain ⟨j,hj⟩:=List.getElem?_of_mem ht
 have hlt:=(List.getElem?_eq_some_iff.1 hj).1
 rw [h.1] at hlt
 obtain ⟨t',h1,h2,h3⟩:=h.2 j _ (List.getElem?_eq_getElem hlt)
 rw [hj] at h1
 injection h1 with h1
 subst h1
 refine ⟨_,List.getElem_mem hlt,?_⟩
 by_cases e:j<i
 ·exact .inl (h2 e)
 ·exact .inr (h3 zo)
def One1 (M:List Slot):Prop:=∀ s∈M,s.v.oneCell'=true∧s.z.oneCell'=true
theorem zpd {B:Nat}{w:World}:∀ {L:List Slot},One1 L→(cat (L.map Slot.view)).p B (L.flatMap Slot.cells) w
 | [],_=>⟨[],rfl,.nil⟩
 | s::L,h=>by
  obtain ⟨ps,e,hp⟩:=zpd (B:=B) (w:=w) (L:=L) fun t ht=>h t (by simp [ht])
  refine ⟨s.cells::ps,by rw [List.flatMap_cons,e]; rfl,.cons ?_ hp⟩
  exact ⟨[[s.v],[s.z],[.int .i64 s.n]],rfl,.cons ⟨rfl,(h s (by simp)).1⟩ (.cons ⟨rfl,(h s (by simp)).2⟩ (.cons rfl .nil))⟩
theorem zsd {vr:Value}{L:List Slot}(h:One1 L):Wk (HbA vr L).va (SlA 105 [] (L.map Slot.view)).va:=fun B v w ⟨cs,⟨e,h2,_⟩,hv⟩=>by
 subst e
 have hv':v=vr:=hv
 subst hv'
 refine zhj (b:=B) (m:=3) B v w ⟨fun A hA=>?_,fun A hA T hT=>?_,L.flatMap Slot.cells,zpd h,?_⟩
 ·obtain ⟨s,_,rfl⟩:=List.mem_map.1 hA; rfl
 ·obtain ⟨s,_,rfl⟩:=List.mem_map.1 hA; cases (show T∈([]:List TypeId) from hT)
 ·rw [List.length_map]; exact h2
theorem hb_eq {vr:Value}{L:List Slot}:Wk (HbA vr L).va (EqV vr):=fun B v w ⟨cs,⟨e,_⟩,hv⟩=>by
 subst e
 exact hv
theorem zcv {E m n B:Nat}{v:Value}{xs:List Value}{w:World}(h:w.ownsRow B E m v n xs):v.oneCell'=true∧RowV v n:=by
 rcases h.2 with ⟨rfl,e⟩ | ⟨g,cap,cur,rfl,_,_,h3,h4,_⟩
 ·exact ⟨rfl,.inl ⟨rfl,e⟩⟩
 ·exact ⟨rfl,.inr ⟨g,cap,rfl,h3,h4⟩⟩
theorem gr_z {L M:List Slot}{i:Nat}(h:Gr L M i)(hf:∀ s∈L,s.full):∀ t∈M,t.z.oneCell'=true∨t.z=t.u:=fun t ht=>by
 obtain ⟨s,hs,h1 | h1⟩:=gr_mem h ht
 ·exact .inr h1.z
 ·subst h1; exact .inl (hf t hs).z1
theorem RowV.cell {v:Value}{n:Nat}(h:RowV v n):v.cells = #[v]:=by
 rcases h with ⟨rfl,_⟩ | ⟨g,cap,rfl,_⟩ <;> rfl
theorem okm {n:Nat}(h:n≤1000000):okL [mkN n]:=fun y hy=>by
 have:y=mkN n:=by simpa using hy
 subst this
 unfold mkN
 omega
theorem wk_mag {l:List Nat}:Wk (MgA l).va (SlA U32 [] (l.map fun (x:Nat)=>NumA .u32 (x:Int))).va:=fun _ _ _ h=>(zed h).2
theorem zvp {M:List Slot}{i:Nat}{x y:Slot}:(M.set i x).set i y=M.set i y:=by simp
theorem set_same {M:List Slot}{i:Nat}{x:Slot}(h:M[i]?=some x):M.set i x=M:=by
 obtain ⟨h1,h2⟩:=List.getElem?_eq_some_iff.1 h
 subst h2
 simp
end Go.Proofs.YthdbhckhignfcaaGreatDoor
namespace Go.Proofs.YthdbhckhignfcaaGreatDoor
open Go Go.RowKit
structure Slot.done (t:Slot):Prop where
 zu:t.z=t.u
 xm:t.xs=List.replicate t.xs.length (mkN t.n)
 ym:t.ys=List.replicate (t.xs.length+70) (mkN t.n)
 n1:t.n≤1000000
 lx:t.xs.length≤2000000000000
theorem gr_done {L M:List Slot}(h:Gr L M L.length)(hf:∀ s∈L,s.full):∀ t∈M,t.done:=fun t ht=>by
 obtain ⟨j,hj⟩:=List.getElem?_of_mem ht
 have hlt:=(List.getElem?_eq_some_iff.1 hj).1
 rw [h.1] at hlt
 obtain ⟨t',h1,h2,_⟩:=h.2 j _ (List.getElem?_eq_getElem hlt)
 rw [hj] at h1
 injection h1 with h1
 subst h1
 have hG:=h2 hlt
 have hs:=hf _ (List.getElem_mem hlt)
 refine ⟨hG.z,?_,?_,?_,?_⟩
 ·rw [hG.xs,hG.n]; exact hs.xm
 ·rw [hG.xs,hG.n]; exact hG.ys
 ·rw [hG.n]; exact hs.n1
 ·rw [hG.xs]; exact hs.lx
theorem znu {t:Slot}(h:t.done):t.ys.length=t.xs.length+70:=by rw [h.ym,List.length_replicate]
theorem zz2 {t:Slot}(h:t.done):okL t.xs:=h.xm▸mk_ok h.n1
theorem zz1 {t:Slot}(h:t.done):okL t.ys:=h.ym▸mk_ok h.n1
theorem done_xk {t:Slot}(h:t.done){k:Nat}(hk:k<t.xs.length):t.xs[k]=mkN t.n:=by
 have h1:=h.xm
 have h2:t.xs[k]?=(List.replicate t.xs.length (mkN t.n))[k]?:=congrArg (fun l=>l[k]?) h1
 rw [List.getElem?_eq_getElem hk,List.getElem?_replicate,if_pos hk] at h2
 injection h2
theorem done_yk {t:Slot}(h:t.done){k:Nat}(hk:k<t.ys.length):t.ys[k]=mkN t.n:=by
 have h2:t.ys[k]?=(List.replicate (t.xs.length+70) (mkN t.n))[k]?:=congrArg (fun l=>l[k]?) h.ym
 rw [List.getElem?_eq_getElem hk,List.getElem?_replicate,if_pos (by rw [← znu h]; exact hk)] at h2
 injection h2
theorem look_no {t:Slot}(h:t.done){k:Nat}(hk:k<t.ys.length):((!(((t.ys[k]:Nat):Int)==((mkN t.n:Nat):Int))) || (decide ((k:Int)<(t.xs.length:Int))&&(!(((t.xs.getD k 0:Nat):Int)==((mkN t.n:Nat):Int)))))=false:=by
 rw [done_yk h hk,beq_self_eq_true,Bool.not_true,Bool.false_or]
 by_cases h2:k<t.xs.length
 ·rw [List.getD_eq_getElem?_getD,List.getElem?_eq_getElem h2,Option.getD_some,done_xk h h2,beq_self_eq_true,Bool.not_true,Bool.and_false]
 ·rw [decide_eq_false zo,Bool.false_and]
section
open Rg
variable {P:Program} {Q:Exit→Act→World→Prop} {B N:Nat} {w0:Bs} {Γ:List (Nat × VA)} {Λ:List Lc} {a:Act} {w:World}
def lesA (Λ:List Lc)(d n:Nat):List Le:=(Λ.map fun l=>⟨l.s,l.T,l.H,none,l.A,none⟩)++[⟨d,999999,ptrH,some n,OneC,some (n+1,OneC)⟩]
theorem znh {id:Nat}{ops:Array Oper}{sp:List Sp}(n m d:Nat)(src:List Src)
  (h:St B w0 N Γ Λ a w) (hob:Obs P Q ⟨ops,N,Γ,lesA Λ d n,sp,fun i=>List.range i⟩ B w0 0 n) (hsz:ops.size=n+m) (hk:Rg.chk ⟨ops,N,Γ,lesA Λ d n,sp,fun i=>List.range i⟩=true)
  (hsrc:src.all (fun s=>match s with | .g k=>(match Γ[k]? with | some x=>Rg.outG ⟨ops,N,Γ,lesA Λ d n,sp,fun i=>List.range i⟩ x.1 | none=>false) | .o i=>decide (i<n))=true)
  (hQ:∀ a' w',St B w0 N (src.filterMap (takeS ⟨ops,N,Γ,lesA Λ d n,sp,fun i=>List.range i⟩)) Λ a' w'→wpOps P ops Q (List.range' n m) a' w'):(Code.region id ops false).wp P Q a w:=by
 refine Rg.linK (R:=⟨ops,N,Γ,lesA Λ d n,sp,fun i=>List.range i⟩) (m:=m) hsz rfl hk h (fun y hy hcr=>?_) (fun i hi=>hob.all i zo zo) fun a1 w1 hinv=>?_
 ·rcases List.mem_append.1 hy with hy | hy
  ·obtain ⟨l,hl,rfl⟩:=List.mem_map.1 hy
   exact hl
  ·obtain rfl:=List.mem_singleton.1 hy
   cases hcr
 ·exact hQ a1 w1 (zn9 (fun l' hl'=>⟨none,List.mem_append.2 (.inl (List.mem_map.2 ⟨l',hl',rfl⟩))⟩) (fun y hy i A' h1=>by
   rcases List.mem_append.1 hy with hy | hy
   ·obtain ⟨l,hl,rfl⟩:=List.mem_map.1 hy
    cases h1
   ·obtain rfl:=List.mem_singleton.1 hy
    injection h1 with h1
    injection h1 with h1 _
    omega) hinv src hsrc)
end
section
open Rg
variable {P:Program} {Q:Exit→Act→World→Prop} {R:Rg} {B i:Nat} {w0:Bs}
theorem zbu {x:Operand}{E:TypeId}{A:As}(hx:Has R B w0 i x (ElP E A)):Wv P Q R B w0 i (.nilCheck x) (ElP E A) :=
 zbr fun d T ps af gd a w av=>by
  have h:=hx a w av
  obtain ⟨b,o,cs,hv,_⟩:=h
  exact ⟨a.eval x,w,by simp [execOp,hv],Grow.refl w,hx a w av⟩
end
theorem wk_70 {n:Nat}(h:n≤2000000000000):IntKind.i64.wrap ((n:Int)+70)=((n+70:Nat):Int):=by rw [wi64 zo zo]; rfl
end Go.Proofs.YthdbhckhignfcaaGreatDoor
namespace Go.Proofs.YthdbhckhignfcaaGreatDoor
open Go Go.RowKit
theorem zbl:Wk (EqS (.slice none 0 0)).va (SlA 0 [] []).va:=zc6 zjt zrv
section
open Rg
variable {R:Rg} {B i:Nat} {w0:Bs}
end
end Go.Proofs.YthdbhckhignfcaaGreatDoor
namespace Go.Proofs.YthdbhckhignfcaaGreatDoor
open Go Go.RowKit
abbrev filL (L:List Slot):List Slot:=L.map fun s=>s.fil s.xs.length
theorem fil_full {s:Slot}(h:s.new):(s.fil s.xs.length).full:=by
 have e:(s.fil s.xs.length).xs=List.replicate s.xs.length (mkN s.n):=by
  show List.replicate s.xs.length (mkN s.n)++s.xs.drop s.xs.length=_
  rw [List.drop_length,List.append_nil]
 exact ⟨zym h.towf (Nat.le_refl _),h.uv,rfl,by rw [e,List.length_replicate]; rfl⟩
theorem zp5 {L:List Slot}(h:∀ s∈L,s.new):∀ s∈filL L,s.full:=fun s hs=>by
 obtain ⟨t,ht,rfl⟩:=List.mem_map.1 hs
 exact fil_full (h t ht)
end Go.Proofs.YthdbhckhignfcaaGreatDoor
namespace Go.Proofs.YthdbhckhignfcaaGreatDoor
open Go Go.RowKit
section
open Rg
variable {P:Program} {Q:Exit→Act→World→Prop} {B N:Nat} {w0:Bs} {Γ:List (Nat × VA)} {Λ:List Lc} {a:Act} {w:World}
theorem inv_stL {R:Rg}{n:Nat}{L:Nat→Bool}(hL:∀ i,n≤i→L i=false)(hles:∀ l'∈Λ,∃ st,(⟨l'.s,l'.T,l'.H,none,l'.A,st⟩:Le)∈R.les)(hles2:∀ y∈R.les,∀ i A,y.st=some (i,A)→n≤i)(hinv:R.Inv B w0 L a w)(src:List Src)
  (hsrc:src.all (fun s=>match s with | .g k=>(match R.Γ[k]? with | some x=>Rg.outG R x.1 | none=>false) | .o i=>L i)=true):St B w0 R.N (src.filterMap (takeS R)) Λ a w:=by
 have hcl:∀ deps,Rg.clash R L deps=false:=fun deps=>by
  unfold Rg.clash
  rw [List.any_eq_false]
  intro y hy
  cases O:y.st with
  | none=>simp
  | some x =>
   obtain ⟨i,B'⟩:=x
   have:=hles2 y hy i B' O
   have hno:=hL i zo
   simp [hno]
 have hcur:∀ y∈R.les,y.cr=none→Rg.cur L y=some y.A0:=fun y hy h0=>by
  unfold Rg.cur
  rw [h0]
  simp only [Rg.crOk,if_true]
  cases O:y.st with
  | none=>rfl
  | some x =>
   obtain ⟨i,B'⟩:=x
   have:=hles2 y hy i B' O
   have hno:=hL i zo
   simp [hno]
 refine ⟨hinv.lo,hinv.defers,hinv.size,hinv.base,fun x hx=>?_,fun l' hl'=>?_,fun l1 h1 l2 h2 hne=>?_⟩
 rotate_left
 ·obtain ⟨st,hy⟩:=hles l' hl'
  exact hinv.c _ hy l'.A (hcur _ hy rfl)
 ·obtain ⟨s1,hy1⟩:=hles l1 h1
  obtain ⟨s2,hy2⟩:=hles l2 h2
  exact hinv.x _ hy1 _ hy2 hne (by rw [hcur _ hy1 rfl]; rfl) (by rw [hcur _ hy2 rfl]; rfl)
 obtain ⟨s,hs1,hs2⟩:=List.mem_filterMap.1 hx
 have ho:=List.all_eq_true.1 hsrc s hs1
 cases s with
 | g k =>
  simp only [takeS] at hs2
  simp only [hs2] at ho
  refine hinv.g x (List.mem_of_getElem? hs2) (fun q hq hdq=>?_) (hcl _)
  cases h2:R.ops[q]? with
  | none=>unfold Rg.dst at hdq; rw [h2] at hdq; cases hdq
  | some v =>
   have:=List.all_eq_true.1 ho q (by simpa using (Array.getElem?_eq_some_iff.1 h2).1)
   exact absurd hdq (by simpa using this)
 | o i =>
  simp only [takeS] at hs2
  cases hy:R.sp[i]? with
  | none=>rw [hy] at hs2; cases hs2
  | some y =>
   rw [hy] at hs2
   exact hinv.v i y x.1 x.2 hy hs2 ho (hcl _)
end
section
variable {P:Program} {R:Rg} {Q:Exit→Act→World→Prop} {B:Nat} {w0:Bs} {a:Act} {w:World}
open Rg in
theorem Rg.drawZ {id:Nat}{Λ:List Lc}{n m:Nat}(z:Nat)(hz:z<n)(hsz2:R.ops.size=n+m)(hm0:0<m)(hm:P.follows .mixedOrders=true)(hanc:ancOk R=true)(hk:R.chk=true)(h:St B w0 R.N R.Γ Λ a w)(hles:∀ e∈R.les,e.cr=none→(⟨e.s,e.T,e.H,e.A0⟩:Lc)∈Λ)
  (hob:∀ i,i<n→R.Ob P Q B w0 i) (ha0:∀ j,j<n→j≠z→(R.anc n).contains j=true) (ha1:∀ i,n<i→i<n+m→∀ j,j<i→(R.anc i).contains j=true)
  (hQ:∀ a w,R.Inv B w0 (fun k=>decide (k<n)) a w→wpOps P R.ops Q (List.range' n m) a w) (hQz:∀ a w,R.Inv B w0 (fun k=>decide (k<n)&&k != z) a w→wpOps P R.ops Q (n::z::List.range' (n+1) (m-1)) a w) :
  (Code.region id R.ops true).wp P Q a w:=by
 refine wp_region_any hm ?_
 have ho:∀ i,i<R.ops.size→∃ o:Oper,R.ops[i]?=some o∧(∀ j,(R.anc i).contains j=true→∃ e∈o.after,Region.binds .any e=true∧(e.on=j∨(R.anc e.on).contains j=true)) ∧
   ∀ e∈o.after,Region.binds .any e=true→e.on<i:=by
  intro i hi
  have:=List.all_eq_true.1 hanc i (by simpa using hi)
  cases hoi:R.ops[i]? with
  | none=>rw [hoi] at this; cases this
  | some o =>
   rw [hoi] at this
   simp only [Bool.and_eq_true] at this
   refine ⟨o,rfl,fun j hj=>?_,fun e he hb=>?_⟩
   ·have hh:=List.all_eq_true.1 this.1 j (by simpa using hj)
    obtain ⟨e,he,h1⟩:=Array.any_eq_true'.1 hh
    simp only [Bool.and_eq_true,Bool.or_eq_true,beq_iff_eq] at h1
    exact ⟨e,he,h1.1,h1.2⟩
   ·have hh:=Array.all_eq_true'.1 this.2 e he
    simpa [hb] using hh
 have hrd:∀ (listed:Array Bool) i,i∈Region.ready .any R.ops listed→i<R.ops.size∧listed.getD i true=false∧∀ o,R.ops[i]?=some o→∀ e∈o.after,Region.binds .any e=true→listed.getD e.on false=true:=by
  intro listed i hi
  unfold Region.ready at hi
  obtain ⟨h1,h2⟩:=List.mem_filter.1 hi
  simp only [Bool.and_eq_true,Bool.not_eq_true'] at h2
  refine ⟨by simpa using h1,h2.1,fun o hoi e he hb=>?_⟩
  have h3:=h2.2
  rw [hoi] at h3
  simp only [Option.map_some,Option.getD_some] at h3
  have:=Array.all_eq_true'.1 h3 e he
  simpa [hb] using this
 have hset:∀ (listed:Array Bool) (i k:Nat),listed.size=R.ops.size→i<R.ops.size→(listed.setIfInBounds i true).getD k false=upd (fun i=>listed.getD i false) i k:=by
  intro listed i k hsz hi
  unfold upd
  by_cases hki:k=i
  ·subst hki
   simp [hsz,hi]
  ·simp [hki,Array.getElem?_setIfInBounds_ne (fun e=>hki e.symm)]
 have hpos:∀ (listed:Array Bool) (i:Nat),i<R.ops.size→listed.getD i false=false→0<(List.range R.ops.size).countP (fun k => !listed.getD k false):=fun listed i hi hl =>
  List.countP_pos_iff.2 ⟨i,by simpa using hi,by simp only [hl]; rfl⟩
 have hlt:∀ (listed:Array Bool) (i:Nat),listed.size=R.ops.size→i<R.ops.size→listed.getD i false=false→(List.range R.ops.size).countP (fun k => !(listed.setIfInBounds i true).getD k false)<(List.range R.ops.size).countP (fun k => !listed.getD k false):=by
  intro listed i hsz hi hLi
  refine zg4 (x:=i) (fun x hx=>?_) (by simpa using hi) (by rw [hLi]; rfl) (by rw [hset listed i i hsz hi,zcu]; rfl)
  have hx':upd (fun i=>listed.getD i false) i x=false:=by
   rw [← hset listed i x hsz hi]
   simpa only [Bool.not_eq_true'] using hx
  rw [(ze7 hx').2]
  rfl
 have hfull:∀ (listed:Array Bool),listed.size=R.ops.size→Region.ready .any R.ops listed=[]→∀ k,k<R.ops.size→listed.getD k false=true:=by
  intro listed hsz hr k
  induction k using Nat.strongRecOn with
  | _ k ih =>
   intro hkn
   cases hl:listed.getD k false with
   | true=>rfl
   | false =>
    exfalso
    obtain ⟨x,ho1,_,ho3⟩:=ho k hkn
    have:k∈Region.ready .any R.ops listed:=by
     unfold Region.ready
     refine List.mem_filter.2 ⟨by simpa using hkn,?_⟩
     have h0:listed.getD k true=false:=by
      simp only [Array.getD,hsz,hkn,dite_true] at hl ⊢
      exact hl
     rw [h0,ho1]
     simp only [Bool.not_false,Bool.true_and,Option.map_some,Option.getD_some]
     refine Array.all_eq_true'.2 fun e he=>?_
     cases hb:Region.binds .any e with
     | false=>rfl
     | true=>simpa using ih e.on (ho3 e he hb) (Nat.lt_trans (ho3 e he hb) hkn)
    rw [hr] at this
    cases this
 have hancL:∀ (listed:Array Bool) i,Closed R (fun i=>listed.getD i false)→i∈Region.ready .any R.ops listed→∀ j,(R.anc i).contains j=true→listed.getD j false=true:=by
  intro listed i hcl hir j hj
  obtain ⟨h1,h2,h3⟩:=hrd listed i hir
  obtain ⟨x,ho1,ho2,_⟩:=ho i h1
  obtain ⟨e,he,hb,hj'⟩:=ho2 j hj
  have hl:=h3 x ho1 e he hb
  rcases hj' with rfl | hj'
  ·exact hl
  ·exact hcl e.on hl j hj'
 have hclN:∀ (listed:Array Bool) i,listed.size=R.ops.size→Closed R (fun i=>listed.getD i false)→i∈Region.ready .any R.ops listed→Closed R (fun k=>(listed.setIfInBounds i true).getD k false):=by
  intro listed i hsz hcl hir k hk' j hj
  obtain ⟨h1,_,_⟩:=hrd listed i hir
  have hk2:upd (fun i=>listed.getD i false) i k=true:=by rw [← hset listed i k hsz h1]; exact hk'
  show (listed.setIfInBounds i true).getD j false=true
  rw [hset listed i j hsz h1]
  rcases zrr hk2 with rfl | h4
  ·exact ze6 _ (hancL listed k hcl hir j hj)
  ·exact ze6 _ (hcl k h4 j hj)
 have tail:∀ q k,k+q=n+m→n≤k→∀ fuel (listed:Array Bool) a w,listed.size=R.ops.size→(List.range R.ops.size).countP (fun i => !listed.getD i false)≤fuel→Closed R (fun i=>listed.getD i false) →
   (∀ j,j<k→listed.getD j false=true)→(∀ j,k≤j→j<n+m→listed.getD j false=false)→wpOps P R.ops Q (List.range' k q) a w→wpAny P .any R.ops Q fuel listed a w:=by
  intro q
  induction q with
  | zero =>
   intro k hkq hnk fuel listed a w hsz hcnt hcl hall _ hwp
   have hr:Region.ready .any R.ops listed=[]:=by
    cases hrr:Region.ready .any R.ops listed with
    | nil=>rfl
    | cons i rest =>
     obtain ⟨h1,h2,_⟩:=hrd listed i (by rw [hrr]; simp)
     have:=hall i zo
     simp only [Array.getD,hsz,h1,dite_true] at h2 this
     rw [h2] at this
     cases this
   cases fuel with
   | zero=>exact ⟨hr,hwp⟩
   | succ fuel=>exact ⟨fun _=>hwp,fun i hir=>by rw [hr] at hir; cases hir⟩
  | succ q ih =>
   intro k hkq hnk fuel listed a w hsz hcnt hcl hall hnone hwp
   have hLk:listed.getD k false=false:=hnone k (Nat.le_refl _) zo
   have hp:=hpos listed k zo hLk
   cases fuel with
   | zero=>omega
   | succ fuel =>
    refine ⟨fun hr=>absurd (hfull listed hsz hr k zo) (by rw [hLk]; decide),fun i hir=>?_⟩
    obtain ⟨h1,h2,h3⟩:=hrd listed i hir
    have hik:i=k:=by
     by_cases e:i=k
     ·exact e
     ·exfalso
      by_cases hlt':i<k
      ·have:=hall i hlt'
       simp only [Array.getD,hsz,h1,dite_true] at h2 this
       rw [h2] at this
       cases this
      ·have:=hancL listed i hcl hir k (ha1 i zo zo k zo)
       rw [hLk] at this
       cases this
    subst hik
    rw [List.range'_succ,wpOps_cons] at hwp
    refine wpOp_mono (fun a' w' hr=>ih (i+1) zo zo fuel _ a' w' (by simpa using hsz) ?_ (hclN listed i hsz hcl hir) (fun j hj=>?_) (fun j hj hj2=>?_) hr) hwp
    ·have:=hlt listed i hsz h1 hLk
     omega
    ·rw [hset listed i j hsz h1]
     by_cases e:j=i
     ·rw [e]; exact zcu _ _
     ·exact ze6 _ (hall j zo)
    ·rw [hset listed i j hsz h1,zdz _ zo]
     exact hnone j zo hj2
 have tailz:∀ fuel (listed:Array Bool) a w,listed.size=R.ops.size→(List.range R.ops.size).countP (fun i => !listed.getD i false)≤fuel→Closed R (fun i=>listed.getD i false) →
   (∀ j,j<n→j≠z→listed.getD j false=true)→listed.getD z false=false→listed.getD n false=true→(∀ j,n+1≤j→j<n+m→listed.getD j false=false)→wpOps P R.ops Q (z::List.range' (n+1) (m-1)) a w→wpAny P .any R.ops Q fuel listed a w:=by
  intro fuel listed a w hsz hcnt hcl hall hzf hnt hnone hwp
  have hp:=hpos listed z zo hzf
  cases fuel with
  | zero=>omega
  | succ fuel =>
   refine ⟨fun hr=>absurd (hfull listed hsz hr z zo) (by rw [hzf]; decide),fun i hir=>?_⟩
   obtain ⟨h1,h2,h3⟩:=hrd listed i hir
   have hLi:listed.getD i false=false:=by
    simp only [Array.getD,hsz,h1,dite_true] at h2 ⊢
    exact h2
   have hiz:i=z:=by
    by_cases e:i=z
    ·exact e
    ·exfalso
     by_cases hlt':i<n
     ·rw [hall i hlt' e] at hLi; cases hLi
     ·by_cases e2:i=n
      ·rw [e2,hnt] at hLi; cases hLi
      ·have:=hancL listed i hcl hir z (ha1 i zo zo z zo)
       rw [hzf] at this
       cases this
   subst hiz
   rw [wpOps_cons] at hwp
   refine wpOp_mono (fun a' w' hr=>tail (m-1) (n+1) zo zo fuel _ a' w' (by simpa using hsz) ?_ (hclN listed i hsz hcl hir) (fun j hj=>?_) (fun j hj hj2=>?_) hr) hwp
   ·have:=hlt listed i hsz h1 hLi
    omega
   ·rw [hset listed i j hsz h1]
    by_cases e:j=i
    ·rw [e]; exact zcu _ _
    ·by_cases e2:j=n
     ·rw [e2]; exact ze6 _ hnt
     ·exact ze6 _ (hall j zo e)
   ·rw [hset listed i j hsz h1,zdz _ zo]
    exact hnone j zo hj2
 have key:∀ fuel (listed:Array Bool) a w,listed.size=R.ops.size→(List.range R.ops.size).countP (fun i => !listed.getD i false)≤fuel→Closed R (fun i=>listed.getD i false) →
   (∀ j,n≤j→j<n+m→listed.getD j false=false)→R.Inv B w0 (fun i=>listed.getD i false) a w→wpAny P .any R.ops Q fuel listed a w:=by
  intro fuel
  induction fuel with
  | zero =>
   intro listed a w hsz hcnt hcl hn0 hi
   have:=hpos listed n zo (hn0 n (Nat.le_refl _) zo)
   omega
  | succ fuel ih =>
   intro listed a w hsz hcnt hcl hn0 hi
   have hn00:=hn0 n (Nat.le_refl _) zo
   by_cases hdone:∀ j,j<n→listed.getD j false=true
   ·refine tail m n rfl (Nat.le_refl _) (fuel+1) listed a w hsz hcnt hcl hdone hn0 (hQ a w (hi.congr fun k=>?_))
    by_cases hkn:k<n
    ·rw [hdone k hkn]; simp [hkn]
    ·by_cases hkm:k<n+m
     ·rw [hn0 k zo hkm]; simp [hkn]
     ·have:listed.getD k false=false:=by simp [Array.getD,hsz,hsz2,hkm]
      rw [this]; simp [hkn]
   ·refine ⟨fun hr=>absurd (hfull listed hsz hr n zo) (by rw [hn00]; decide),fun i hir=>?_⟩
    obtain ⟨h1,h2,h3⟩:=hrd listed i hir
    have hLi:listed.getD i false=false:=by
     simp only [Array.getD,hsz,h1,dite_true] at h2 ⊢
     exact h2
    by_cases hin:i<n
    ·refine step hk (hob i hin) hi hcl hLi (hancL listed i hcl hir) _ fun a' w' hi'=>ih _ _ _ (by simpa using hsz) ?_ (hclN listed i hsz hcl hir) ?_ (hi'.congr fun k=>hset listed i k hsz h1)
     ·have:=hlt listed i hsz h1 hLi
      omega
     ·intro j hj hj2
      rw [hset listed i j hsz h1,zdz _ zo]
      exact hn0 j hj hj2
    ·by_cases hgt:n<i
     ·exact absurd (fun j hj=>hancL listed i hcl hir j (ha1 i hgt zo j zo)) hdone
     ·have hin':i=n:=by omega
      have hjs:∀ j,j<n→j≠z→listed.getD j false=true:=fun j hj hne=>hancL listed i hcl hir j (by rw [hin']; exact ha0 j hj hne)
      have hzf:listed.getD z false=false:=by
       cases hh:listed.getD z false with
       | false=>rfl
       | true=>exact absurd (fun j hj=>if e:j=z then e▸hh else hjs j hj e) hdone
      have hwp:=hQz a w (hi.congr fun k=>by
       by_cases hkn:k<n
       ·by_cases hkz:k=z
        ·subst hkz; rw [hzf]; simp
        ·rw [hjs k hkn hkz]; simp [hkn,hkz]
       ·by_cases hkm:k<n+m
        ·rw [hn0 k zo hkm]; simp [hkn]
        ·have:listed.getD k false=false:=by simp [Array.getD,hsz,hsz2,hkm]
         rw [this]; simp [hkn])
      rw [wpOps_cons] at hwp
      rw [hin']
      rw [hin'] at hir hLi h1
      refine wpOp_mono (fun a' w' hr=>tailz fuel _ a' w' (by simpa using hsz) ?_ (hclN listed n hsz hcl hir) (fun j hj hne=>?_) ?_ ?_ (fun j hj hj2=>?_) hr) hwp
      ·have:=hlt listed n hsz h1 hLi
       omega
      ·rw [hset listed n j hsz h1]; exact ze6 _ (hjs j hj hne)
      ·rw [hset listed n z hsz h1,zdz _ zo]; exact hzf
      ·rw [hset listed n n hsz h1]; exact zcu _ _
      ·rw [hset listed n j hsz h1,zdz _ zo]; exact hn0 j zo hj2
 refine key _ _ a _ (by simp) ?_ ?_ ?_ ?_
 ·refine Nat.le_trans (List.countP_le_length) (by simp)
 ·intro i hi
  exfalso
  simp only [Array.getD,Array.size_replicate] at hi
  split at hi <;> simp at hi
 ·intro j hj hj2
  simp only [Array.getD,Array.size_replicate]
  split <;> simp
 ·have hs:=start h hles
  have hd:R.Inv B w0 (fun _=>false) a w.drew:=⟨hs.lo,hs.defers.grow (Grow.drew w) rfl,hs.size,hs.base.drew,fun x hx h1 h2=>x.2.grow _ _ _ _ (Grow.drew w) (hs.g x hx h1 h2),(fun i y d A _ _ hf=>by cases hf),(fun i d b k c _ hf=>by cases hf),
   fun e he A hA=>(hs.c e he A hA).grow (Grow.drew w),hs.x⟩
  refine Inv.congr hd fun k=>?_
  simp only [Array.getD,Array.size_replicate]
  split <;> simp
end
section
open Rg
variable {P:Program} {Q:Exit→Act→World→Prop} {B N:Nat} {w0:Bs} {Γ:List (Nat × VA)} {Λ:List Lc} {a:Act} {w:World}
theorem znf {id:Nat}{ops:Array Oper}{sp:List Sp}(anc:List (List Nat))(n m e j z:Nat)(A:As)(src srcz:List Src)(hmx:P.follows .mixedOrders=true)
  (h:St B w0 N Γ Λ a w) (hob:Obs P Q ⟨ops,N,Γ,lesS Λ e j A,sp,fun i=>anc.getD i []⟩ B w0 0 n) (hsz:ops.size=n+m) (hm:0<m) (hj:n≤j) (hz:z<n) (hanc:Rg.ancOk ⟨ops,N,Γ,lesS Λ e j A,sp,fun i=>anc.getD i []⟩=true)
  (ha0:(List.range n).all (fun j=>j==z || (anc.getD n []).contains j)=true) (hall:∀ i,n+1≤i→i<n+1+(m-1)→∀ j,j<i→(anc.getD i []).contains j=true) (hk:Rg.chk ⟨ops,N,Γ,lesS Λ e j A,sp,fun i=>anc.getD i []⟩=true)
  (hsrc:src.all (fun s=>match s with | .g k=>(match Γ[k]? with | some x=>Rg.outG ⟨ops,N,Γ,lesS Λ e j A,sp,fun i=>anc.getD i []⟩ x.1 | none=>false) | .o i=>decide (i<n))=true)
  (hsrcz:srcz.all (fun s=>match s with | .g k=>(match Γ[k]? with | some x=>Rg.outG ⟨ops,N,Γ,lesS Λ e j A,sp,fun i=>anc.getD i []⟩ x.1 | none=>false) | .o i=>decide (i<n)&&i != z)=true)
  (hQ:∀ a' w',St B w0 N (src.filterMap (takeS ⟨ops,N,Γ,lesS Λ e j A,sp,fun i=>anc.getD i []⟩)) Λ a' w'→wpOps P ops Q (List.range' n m) a' w')
  (hQz:∀ a' w',St B w0 N (srcz.filterMap (takeS ⟨ops,N,Γ,lesS Λ e j A,sp,fun i=>anc.getD i []⟩)) Λ a' w'→wpOps P ops Q (n::z::List.range' (n+1) (m-1)) a' w'):(Code.region id ops true).wp P Q a w:=by
 have hl1:∀ l'∈Λ,∃ st,(⟨l'.s,l'.T,l'.H,none,l'.A,st⟩:Le)∈lesS Λ e j A:=fun l' hl'=>by
  obtain ⟨j',hj'⟩:=List.getElem?_of_mem hl'
  exact ⟨_,List.mem_map.2 ⟨(l',j'),List.mem_zipIdx_iff_getElem?.2 hj',rfl⟩⟩
 have hl2:∀ y∈lesS Λ e j A,∀ i A',y.st=some (i,A')→n≤i:=fun y hy i B' h1=>by have:=(zio y hy).2.2 i B' h1; omega
 refine Rg.drawZ (R:=⟨ops,N,Γ,lesS Λ e j A,sp,fun i=>anc.getD i []⟩) (m:=m) z hz hsz hm hmx hanc hk h (fun y hy _=>(zio y hy).2.1) (fun i hi=>hob.all i zo zo) (fun j hj hne=>?_) (fun i h1 h2 j hj=>hall i zo zo j hj) (fun a1 w1 hinv=>?_) fun a1 w1 hinv=>?_
 ·have:=List.all_eq_true.1 ha0 j (by simpa using hj)
  simpa [hne] using this
 ·exact hQ a1 w1 (zn9 hl1 hl2 hinv src hsrc)
 ·exact hQz a1 w1 (inv_stL (n:=n) (fun i hi=>by simp [show ¬ i<n by omega]) hl1 hl2 hinv srcz hsrcz)
theorem zpz {ops:Array Oper}{i:Nat}{K:Act→World→Prop}{d u:Nat}{T':TypeId}{ps:String}{af:Array Edge}{A:VA}(ku:Nat)(ho:ops[i]?=some ⟨some d,.move (.tmp u),T',ps,af,none⟩)(h:St B w0 N Γ Λ a w)
  (hu:Γ[ku]?=some (u,A)) (hd:d<N) (hΓ:Γ.all (fun x=>x.1 != d)=true) (hΛ:Λ.all (fun l=>l.s != d)=true)
  (hK:∀ a',St B w0 N ((d,A)::Γ) Λ a' w→K a' w):wpOp P ops Q i K a w :=
 zwt (A:=A) (v:=a.eval (.tmp u)) ho h hd hΓ hΛ (by simp [execOp]) (h.vals _ (List.mem_of_getElem? hu)) (hK _)
end
end Go.Proofs.YthdbhckhignfcaaGreatDoor
