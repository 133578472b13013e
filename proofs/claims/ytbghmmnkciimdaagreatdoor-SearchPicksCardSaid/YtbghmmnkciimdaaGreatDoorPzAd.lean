import Derived.Test.YtbghmmnkciimdaaGreatDoorPzAc
set_option linter.all false
set_option maxRecDepth 100000
set_option autoImplicit true
namespace Go.Proofs.YtbghmmnkciimdaaGreatDoor
open Go Go.RowKit
variable {w:World}{B:Nat}{a:Act}{v:Value}{T:TypeId}{w0:Bs}{Γ:List (Nat × VA)}{Λ:List Lc}{ps:String}{af:Array Edge}{vr:Value}{H:Hd}{cs:List Value}{w':World}{P:Program}{D:List TypeId}
def lv (x:Nat):Value:=.int .u32 x
structure Slot where
 v:Value
 xs:List Nat
 u:Value
 ys:List Nat
 z:Value
 n:Nat
def Slot.cells (s:Slot):List Value:=[s.v,s.z,.int .i64 s.n]
def RowV (v:Value)(n:Nat):Prop:=(v=.slice none 0 0∧n=0)∨∃ g cap,v=.slice (some ⟨g,0,none⟩) n cap∧n≤cap∧cap≤maxLen
def Rdy (B:Nat)(w:World)(v:Value)(xs:List Nat):Prop:=RowV v xs.length∧∀ g,v.ownBlock=some g→B≤g∧∃ c,w.heap[g]?=some (Obj.cells c U32 (0,0))∧c.toList.take xs.length=xs.map lv
def Slot.ok (B:Nat)(w:World)(s:Slot):Prop:=w.ownsRow B U32 1 s.u s.ys.length (s.ys.map lv)∧Rdy B w s.v s.xs
def Slot.has (s:Slot)(g:Nat):Prop:=s.v.ownBlock=some g∨s.u.ownBlock=some g
def Apt (L:List Slot):Prop:=∀ (i j:Nat) (s t:Slot),L[i]?=some s→L[j]?=some t→i≠j→∀ g,s.has g→¬ t.has g
theorem cv {E m n B:Nat}{xs:Yl}(h:w.ownsRow B E m v n xs)(hk:∀ (g:Nat) (c:Array Yn),v.ownBlock=some g→w.heap[g]?=some (Obj.cells c E (0,0))→w'.heap[g]?=some (Obj.cells c E (0,0))):w'.ownsRow B E m v n xs:=by
 refine ⟨h.1,?_⟩;rcases h.2 with h1|⟨g,cap,cur,rfl,h2,h3,h4⟩
 ·exact .inl h1
 ·exact .inr ⟨g,cap,cur,rfl,h2,hk g cur G h3,h4⟩
theorem Rdy.keep {xs:Ya}(h:Rdy B w v xs)(hk:∀ (g:Nat) (c:Array Yn),v.ownBlock=some g→w.heap[g]?=some (Obj.cells c U32 (0,0))→w'.heap[g]?=some (Obj.cells c U32 (0,0))):Rdy B w' v xs :=
 ⟨h.1,λ g hg=>by
  obtain ⟨h1,c,h2,h3⟩:=h.2 g hg;exact ⟨h1,c,hk g c hg h2,h3⟩⟩
theorem Slot.ok.keep {B:Nat}{s:Slot}{w w':Yi}(h:s.ok B w)(hk:∀ (g:Nat) (c:Array Yn),s.has g→w.heap[g]?=some (Obj.cells c U32 (0,0))→w'.heap[g]?=some (Obj.cells c U32 (0,0))):s.ok B w' :=
 ⟨cv h.1 λ g c hg=>hk g c (.inr hg),h.2.keep λ g c hg=>hk g c (.inl hg)⟩
theorem Slot.ok.lt {s:Slot}(h:s.ok B w)(hg:s.has g):B≤g∧∃ c,w.heap[g]?=some (Obj.cells c U32 (0,0)):=by
 rcases hg with hg|hg
 ·obtain ⟨h1,c,h2,_⟩:=h.2.2 g hg;exact ⟨h1,c,h2⟩
 ·rcases h.1.2 with ⟨e,_⟩|⟨g',cap,cur,e,h2,h3,_⟩
  ·rw [e] at hg;cases hg
  ·rw [e] at hg;have:g'=g:=by simpa [Value.ownBlock] using hg
   subst this;exact ⟨h2,cur,h3⟩
def HbA (vr:Value)(L:List Slot):As where
 n:=1
 ag:=false
 p B cs w:=cs=[vr]∧w.ownsRow B 137 3 vr L.length (L.flatMap Slot.cells)∧(∀ s∈L,s.ok B w)∧Apt L
 deps:=[137,U32]
 len:=by rintro B cs w ⟨rfl,_⟩;rfl
 one:=by
  rintro B cs w ⟨rfl,h,_⟩ c hc;obtain rfl:=qo.1 hc;rcases h.2 with ⟨rfl,_⟩|⟨g,cap,cur,rfl,_⟩ <;> rfl
 ag1:=λ _=>rfl
 cg:=λ B cs w w' hg ⟨h1,h2,h3,h4⟩=>⟨h1,cv h2 λ g c _ h=>hg.heap h,λ s hs=>(h3 s hs).keep λ g c _ h=>hg.heap h,h4⟩
 wr:=by
  rintro B cs w w' g c T fz hgc hT hB hW ⟨h1,h2,h3,h4⟩;simp only [qt,zw,or_false,not_or] at hT;have hne:∀ (g':Nat) (c':Array Value) (E:TypeId),(E=137∨E=U32)→w.heap[g']?=some (Obj.cells c' E (0,0))→w'.heap[g']?=some (Obj.cells c' E (0,0)):=λ g' c' E hE h=>by
   rw [hW.block g' (λ e=>?_)]
   ·exact h
   ·subst e;rw [hgc] at h;injection h with h;injection h with _ h _;subst h;rcases hE with e|e
    ·exact hT.1 e
    ·exact hT.2 e
  exact ⟨h1,cv h2 λ g c _ h=>hne g c _ (.inl G) h,λ s hs=>(h3 s hs).keep λ g c _ h=>hne g c _ (.inr G) h,h4⟩
theorem wz {α:Type}{f:Slot→List α}:∀ {L:List Slot}{i:Nat}{s s':Slot},L[i]?=some s→f s'=f s→(L.set i s').flatMap f=L.flatMap f
 | x::L,0,s,s',h,e=>by
  simp at h;subst h;simp [e]
 | x::L,i+1,s,s',h,e=>by
  simp only [ju,xi];rw [wz (by simpa using h) e]
theorem Hx {L:List Slot}{B i:Nat}{s s':Slot}(h:(HbA vr L).p B cs w)(hi:L[i]?=some s)(hc:s'.cells=s.cells)(hok:s'.ok B w')
  (hrow:∀ (g:Nat) (c:Array Value),w.heap[g]?=some (Obj.cells c 137 (0,0))→w'.heap[g]?=some (Obj.cells c 137 (0,0))) (hoth:∀ (g:Nat) (c:Array Value),¬ s.has g→w.heap[g]?=some (Obj.cells c U32 (0,0))→w'.heap[g]?=some (Obj.cells c U32 (0,0)))
  (hblk:∀ g,s'.has g→s.has g∨w.heap.size≤g):(HbA vr (L.set i s')).p B cs w':=by
 obtain ⟨h1,h2,h3,h4⟩:=h;have hlt:i<L.length:=(List.getElem?_eq_some_iff.1 hi).1;have hfar:∀ (j:Nat) t,L[j]?=some t→j≠i→∀ g,t.has g→¬ s'.has g:=λ j t hj hne g hg hg'=>by
  rcases hblk g hg' with h5|h5
  ·exact h4 j i t s hj hi hne g hg h5
  ·obtain ⟨_,c,h6⟩:=(h3 t (qa hj)).lt hg;have:=(Array.getElem?_eq_some_iff.1 h6).1;omega
 refine ⟨h1,?_,λ t ht=>?_,λ j k t1 t2 hj hk hne g hg hg'=>?_⟩
 ·rw [qY,wz hi hc];exact cv h2 λ g c _ h=>hrow g c h
 ·obtain ⟨j,hj⟩:=List.getElem?_of_mem ht;by_cases e:j=i
  ·subst e;rw [List.getElem?_set_self hlt] at hj;injection hj with hj;subst hj;exact hok
  ·rw [List.getElem?_set_ne (λ e2=>e e2.symm)] at hj;exact (h3 t (qa hj)).keep λ g c hg hh=>hoth g c (λ hs=>h4 j i t s hj hi e g hg hs) hh
 ·by_cases e:j=i
  ·subst e;rw [List.getElem?_set_self hlt] at hj;injection hj with hj;subst hj;rw [List.getElem?_set_ne hne] at hk;exact hfar k t2 hk (λ e=>hne e.symm) g hg' hg
  ·rw [List.getElem?_set_ne (λ e2=>e e2.symm)] at hj;by_cases e2:k=i
   ·subst e2;rw [List.getElem?_set_self hlt] at hk;injection hk with hk;subst hk;exact hfar j t1 hj e g hg hg'
   ·rw [List.getElem?_set_ne (λ e3=>e2 e3.symm)] at hk;exact h4 j k t1 t2 hj hk hne g hg hg'
theorem take_set {c:Yl}{xs:Ya}(h:c.take xs.length=xs.map lv):(c.set k (lv m)).take xs.length=(xs.set k m).map lv:=by
 rw [vh,h,List.map_set]
theorem Kv {L:List Slot}{B i k g cap m:Nat}{s:Slot}(h:(HbA vr L).p B cs w)(hi:L[i]?=some s)(hu:s.u=s.v)(hy:s.ys=s.xs)(hv:s.v=.slice (some ⟨g,0,none⟩) s.xs.length cap)(hk:k<s.xs.length):
  B≤g∧∃ c:Array Value,w.heap[g]?=some (Obj.cells c U32 (0,0))∧k<c.size∧(HbA vr (L.set i { s with xs:=s.xs.set k m,ys:=s.xs.set k m })).p B cs (w.setRow g (c.setIfInBounds k (lv m))):=by
 have hs:=h.2.2.1 s (qa hi);have hg:s.v.ownBlock=some g:=by rw [hv];rfl
 obtain ⟨hB,c,hc,htk⟩:=hs.2.2 g hg;have hown:=hs.1;rw [hu,hy,hv] at hown;rcases hown.2 with ⟨e,_⟩|⟨g',cap',cur,e,h2,h3,h4,h5,h6,h7⟩
 ·cases e
 ·injection e with e1 e2 e3;injection e1 with e1;injection e1 with e1;subst e1;subst e3;rw [hc] at h3;injection h3 with h3;injection h3 with h3;subst h3;have hlen:c.size=cap:=by rw [h6,z8]
  have hnew:(w.setRow g (c.setIfInBounds k (lv m))).heap[g]?=some (Obj.cells (c.setIfInBounds k (lv m)) U32 (0,0)):=setRow_heap w g _ _ _ _ hc;have htk2:(c.setIfInBounds k (lv m)).toList.take (s.xs.set k m).length=(s.xs.set k m).map lv:=by
   rw [ji,qY];exact take_set htk
  refine ⟨hB,c,hc,by omega,Hx h hi G ⟨?_,?_⟩ (λ g2 c2 h8=>?_) (λ g2 c2 h8 h9=>?_) λ g2 h8=>.inl h8⟩
  ·show World.ownsRow _ B U32 1 s.u (s.xs.set k m).length ((s.xs.set k m).map lv);rw [hu,hv,qY];refine ⟨by simp,.inr ⟨g,cap,_,rfl,hB,hnew,h4,h5,by simp [hlen],?_⟩⟩;rw [qY] at htk2;rw [z8];exact htk2
  ·show Rdy B _ s.v (s.xs.set k m);refine ⟨?_,λ g2 h8=>?_⟩
   ·rw [qY];exact hs.2.1
   ·rw [hg] at h8;injection h8 with h8;subst h8;exact ⟨hB,_,hnew,htk2⟩
  ·rw [setRow_other _ _ _ _ (λ e=>by subst e;rw [hc] at h8;injection h8 with h8;injection h8 with _ h8 _;revert h8;decide)];exact h8
  ·rw [setRow_other _ _ _ _ (λ e=>h8 (.inl (by rw [e];exact hg)))];exact h9
theorem NQ {vr v':Yn}{L:List Slot}{B i m:Nat}{s:Slot}(h:(HbA vr L).p B cs w)(hi:L[i]?=some s)(hown:w'.ownsRow B U32 1 v' (s.ys.length+1) (s.ys.map lv++[lv m]))(hg:w.grownBy w' s.u.ownBlock)
  (hb:v'.ownBlock=s.u.ownBlock∨(v'.ownBlock=some w.heap.size∧w.grownBy w' none)) (hpre:s.u.ownBlock=s.v.ownBlock→s.xs <+: s.ys):(HbA vr (L.set i { s with u:=v',ys:=s.ys++[m] })).p B cs w':=by
 have hs:=h.2.2.1 s (qa hi);have hlt:∀ (g:Nat) (c:Array Value) (T:TypeId),w.heap[g]?=some (Obj.cells c T (0,0))→g<w.heap.size:=λ g c T h=>(Array.getElem?_eq_some_iff.1 h).1;refine Hx h hi G ⟨by simpa using hown,?_⟩ (λ g c h8=>?_) (λ g c h8 h9=>?_) λ g h8=>?_
 ·refine ⟨hs.2.1,λ g hgv=>?_⟩;obtain ⟨h1,c,h2,h3⟩:=hs.2.2 g hgv;by_cases e:s.u.ownBlock=some g
  ·rcases hb with hb|⟨hb,hgn⟩
   ·rcases hown.2 with ⟨e1,_⟩|⟨g',cap,cur,e1,h4,h5,h6,h7,h10,h11⟩
    ·rw [e1,e] at hb;cases hb
    ·have:g'=g:=by
      have:v'.ownBlock=some g':=by rw [e1];rfl
      rw [hb,e] at this;injection this with this;exact this.symm
     subst this;refine ⟨h1,cur,h5,?_⟩;obtain ⟨t,ht⟩:=hpre (e.trans hgv.symm);have hle:s.xs.length≤s.ys.length:=by rw [← ht];simp
     rw [z8] at h11;have h12:=qq (List.take s.xs.length) h11;rw [je,xo zo] at h12;show cur.toList.take s.xs.length=s.xs.map lv;rw [h12,← ht];simp [xr]
   ·exact ⟨h1,c,(hgn.block g (hlt _ _ _ h2) (by simp)).trans h2,h3⟩
  ·exact ⟨h1,c,(hg.block g (hlt _ _ _ h2) (λ e2=>e e2.symm)).trans h2,h3⟩
 ·refine (hg.block g (hlt _ _ _ h8) (λ e=>?_)).trans h8;obtain ⟨_,c2,h9⟩:=hs.lt (g:=g) (.inr e.symm);rw [h8] at h9;injection h9 with h9;injection h9 with _ h9 _;revert h9;decide
 ·exact (hg.block g (hlt _ _ _ h9) (λ e=>h8 (.inr e.symm))).trans h9
 ·rcases h8 with h8|h8
  ·exact .inl (.inl h8)
  ·rcases hb with hb|⟨hb,_⟩
   ·exact .inl (.inr (hb.symm.trans h8))
   ·have h8':v'.ownBlock=some g:=h8;rw [hb] at h8';injection h8' with h8';exact .inr (xC h8')
theorem D1:∀ {L:List Slot}{i:Nat}{s:Slot},L[i]?=some s→∀ z,(L.set i { s with z:=z }).flatMap Slot.cells=(L.flatMap Slot.cells).set (3*i+1) z
 | x::L,0,s,h,z=>by
  simp at h;subst h
  rfl
 | x::L,i+1,s,h,z=>by
  simp only [ju,xi];rw [D1 (by simpa using h) z,show 3*(i+1)+1=(3*i+1)+3 by omega]
  rfl
theorem FU {L:List Slot}:(L.flatMap Slot.cells).length=L.length*3:=by
 induction L with
 | nil=>rfl
 | cons x L ih=>rw [xi,qv,ih,zi];show 3+_=_;omega
theorem Hy {L:List Slot}{B i g cap:Nat}{s:Slot}(z:Yn)(h:(HbA vr L).p B cs w)(hi:L[i]?=some s)(hvr:vr=.slice (some ⟨g,0,none⟩) L.length cap):
  B≤g∧∃ c:Array Value,w.heap[g]?=some (Obj.cells c 137 (0,0))∧i*3+1<c.size∧(HbA vr (L.set i { s with z:=z })).p B cs (w.setRow g (c.setIfInBounds (i*3+1) z)):=by
 obtain ⟨h1,h2,h3,h4⟩:=h;have hlt:i<L.length:=(List.getElem?_eq_some_iff.1 hi).1;rcases h2.2 with ⟨e,_⟩|⟨g',cap',cur,e,q2,q3,q4,q5,q6,q7⟩
 ·rw [hvr] at e;cases e
 ·rw [hvr] at e;injection e with e1 e2 e3;injection e1 with e1;injection e1 with e1;subst e1;have hsz:i*3+1<cur.size:=by
   rw [q6];have:L.length*3≤cap'*3:=qK 3 q4;omega
  have hnew:(w.setRow g (cur.setIfInBounds (i*3+1) z)).heap[g]?=some (Obj.cells (cur.setIfInBounds (i*3+1) z) 137 (0,0)):=setRow_heap w g _ _ _ _ q3;refine ⟨q2,cur,q3,hsz,h1,?_,λ t ht=>?_,λ j k t1 t2 hj hk hne g2 hg hg'=>?_⟩
  ·rw [qY,D1 hi];refine ⟨by rw [qY,FU],.inr ⟨g,cap',_,?_,q2,hnew,q4,q5,by simp [q6],?_⟩⟩
   ·rw [hvr,e3]
   ·rw [ji,vh,q7,show 3*i+1=i*3+1 by omega]
  ·have hkeep:∀ t':Slot,t'.ok B w→t'.ok B (w.setRow g (cur.setIfInBounds (i*3+1) z)):=λ t' ht'=>ht'.keep λ g2 c2 hg2 h8=>by
    rw [setRow_other _ _ _ _ (λ e=>by subst e;rw [q3] at h8;injection h8 with h8;injection h8 with _ h8 _;revert h8;decide)];exact h8
   rcases qB ht with ht|rfl
   ·exact hkeep t (h3 t ht)
   ·exact hkeep _ (h3 s (qa hi))
  ·have hsame:∀ (j:Nat) t,(L.set i { s with z:=z })[j]?=some t→∃ t0,L[j]?=some t0∧∀ g,t.has g→t0.has g:=λ j t hj=>by
    by_cases e:j=i
    ·subst e;rw [List.getElem?_set_self hlt] at hj;injection hj with hj;subst hj;exact ⟨s,hi,λ g h=>h⟩
    ·rw [List.getElem?_set_ne (λ e2=>e e2.symm)] at hj;exact ⟨t,hj,λ g h=>h⟩
   obtain ⟨t3,r1,r2⟩:=hsame j t1 hj;obtain ⟨t4,r3,r4⟩:=hsame k t2 hk;exact h4 j k t3 t4 r1 r3 hne g2 (r2 g2 hg) (r4 g2 hg')
abbrev mkN (n:Nat):Nat:=100000+n
def EqS (v:Value):As where
 n:=1
 ag:=false
 p _ cs _:=cs=[v]∧v.oneCell'=true
 deps:=[]
 len:=by rintro B cs w ⟨rfl,_⟩;rfl
 one:=by rintro B cs w ⟨rfl,h⟩ c hc;simp at hc;subst hc;exact h
 ag1:=λ _=>rfl
 cg:=λ _ _ _ _ _ h=>h
 wr:=λ _ _ _ _ _ _ _ _ _ _ _ _ h=>h
theorem mX {v u:Yn}(h:(EqS v).va.p B u w):u=v:=by
 obtain ⟨cs,⟨rfl,_⟩,h2⟩:=h;exact h2
theorem rf:Wk (EqS v).va (EqV v):=λ _ _ _ h=>mX h
def Slot.view (s:Slot):As:=cat [EqS s.v,EqS s.z,NumA .i64 (s.n:Nat)]
structure Slot.wf (s:Slot):Prop where
 rv:RowV s.v s.xs.length
 ox:okL s.xs
 oy:okL s.ys
 z1:s.z.oneCell'=true
 n1:s.n≤1000000
 lx:s.xs.length≤2000000000000
theorem RowV.one (h:RowV v n):v.oneCell'=true:=by
 rcases h with ⟨rfl,_⟩|⟨g,cap,rfl,_⟩ <;> rfl
theorem wW {B:Nat}{w:Yi}:∀ {L:List Slot},(∀ s∈L,s.wf)→(cat (L.map Slot.view)).p B (L.flatMap Slot.cells) w
 | [],_=>⟨[],rfl,.nil⟩
 | s::L,h=>by
  obtain ⟨ps,e,hp⟩:=wW (B:=B) (w:=w) (L:=L) λ t ht=>h t (by simp [ht]);refine ⟨s.cells::ps,by rw [xi,e];rfl,.cons ?_ hp⟩;exact ⟨[[s.v],[s.z],[.int .i64 s.n]],rfl,.cons ⟨rfl,(h s (by simp)).rv.one⟩ (.cons ⟨rfl,(h s (by simp)).z1⟩ (.cons G .nil))⟩
theorem NO {L:List Slot}(h:∀ s∈L,s.wf):Wk (HbA vr L).va (SlA 137 [] (L.map Slot.view)).va:=λ B v w ⟨cs,⟨e,h2,_⟩,hv⟩=>by
 subst e;have hv':v=vr:=hv;subst hv';refine ip (b:=B) (m:=3) B v w ⟨λ A hA=>?_,λ A hA T hT=>?_,L.flatMap Slot.cells,wW h,?_⟩
 ·obtain ⟨s,_,rfl⟩:=qr.1 hA;rfl
 ·obtain ⟨s,_,rfl⟩:=qr.1 hA;cases (show T∈([]:List TypeId) from hT)
 ·rw [qd];exact h2
theorem Bw {xs:Ya}(h:Rdy B w v xs)(ok:okL xs):(MgA xs).va.p B v w:=by
 rcases h.1 with ⟨rfl,e⟩|⟨g,cap,rfl,h1,h2⟩
 ·exact eG ⟨ok,by omega,zr _,λ h=>by omega⟩ e.symm
 ·obtain ⟨_,c,h3,h4⟩:=h.2 g rfl;refine eG (Mag.own h3 ok h1 h2 λ j hj=>?_) rfl;have h5:=qq (λ l=>l[j]?) h4;simp only [List.getElem?_take,hj,if_true,List.getElem?_map,List.getElem?_eq_getElem hj,qU] at h5;rw [← Array.getElem?_toList];exact h5
theorem BW {ys:Ya}(h:w.ownsRow B U32 1 v ys.length (ys.map lv)):Rdy B w v ys:=by
 rcases h.2 with ⟨rfl,e⟩|⟨g,cap,cur,rfl,h1,h2,h3,h4,h5,h6⟩
 ·exact ⟨.inl ⟨rfl,e⟩,λ g hg=>by cases hg⟩
 ·refine ⟨.inr ⟨g,cap,rfl,h3,h4⟩,λ g' hg=>?_⟩;have:g=g':=by simpa [Value.ownBlock] using hg
  subst this;rw [z8] at h6;exact ⟨h1,cur,h2,h6⟩
section
open Rg
variable {P:Program}{Q:Exit→Act→World→Prop}{R:Rg}{B i:Nat}{w0:Bs}
end
theorem Am {n:Nat}(h:n≤1000000):IntKind.i64.wrap (100000+(n:Int))=((mkN n:Nat):Int):=by
 rw [wi64 zo zo];simp
theorem tW {n:Nat}(h:n≤1000000):IntKind.u32.wrap ((mkN n:Nat):Int)=((mkN n:Nat):Int):=wu32 (by unfold mkN;omega)
theorem Hk (n0:Nat)(hn:n0≤1000000):Cn Tryz.prog 134 [In (n0:Nat)] ((NumA .u32 (mkN n0:Nat)).va):=by
 refine Cn.intro Tryz.func134 G zk nq (zy [(0,In (n0:Nat))] λ B w0 a U=>?_);refine qb<|zh UA Rd U (zv G (aR (aF 0 G)) o0) (zz Re [] ?_);refine ztA<|zhA (Wb 3 [.v 2 _]) UJ (zM 0 G (zv G (aL ab (vq 0 G) (Am hn)) (zv G (aH .u32 zk zk (vq 1 G) (tW hn)) (zA 2 G o0)))) (zz Ux [] λ a w U=>?_);exact aa<|qi<|am G U (zm 0 G)
theorem uR (x0 n0:Nat)(hn:n0≤1000000):Cn Tryz.prog 150 [(NumA .u32 (x0:Nat)).va,In (n0:Nat)] (Bo (((x0:Nat):Int)==((mkN n0:Nat):Int))):=by
 refine Cn.intro Tryz.func150 G zk nq (zy [(0,(NumA .u32 (x0:Nat)).va),(1,In (n0:Nat))] λ B w0 a U=>?_);refine qb<|zh WR WS U (zE G aE) (zz WT [] ?_);refine ztA<|zhA (Wd 5 [.v 4 _]) [.o 5] (zM 0 G (zM 1 G (zv G (aL ab (vq 1 G) (Am hn)) (zv G (aH .u32 zk zk (vq 2 G) (tW hn)) (zv G (bC (vq 0 G) (vq 3 G)) (zA 4 G o0)))))) (zz U3 [] λ a w U=>?_);exact aa<|qi<|am G U (zm 0 G)
theorem lW:Str Tryz.prog 137 [EqS (.slice none 0 0),EqS (.slice none 0 0),NumA .i64 0] :=
 Str.of (z:=.agg #[.slice none 0 0,.slice none 0 0,.int .i64 0]) zk Tryz.underlying137 zk λ B w=>⟨[[.slice none 0 0],[.slice none 0 0],[.int .i64 0]],rfl,.cons ⟨rfl,rfl⟩ (.cons ⟨rfl,rfl⟩ (.cons rfl .nil))⟩
def Slot.fil (s:Slot)(k:Nat):Slot:={ s with xs:=List.replicate k (mkN s.n)++s.xs.drop k,ys:=List.replicate k (mkN s.n)++s.xs.drop k }
theorem lw {s:Slot}(h:k≤s.xs.length):(s.fil k).xs.length=s.xs.length:=by
 show (List.replicate k (mkN s.n)++s.xs.drop k).length=_;rw [qv,ze,xW];omega
theorem O0 {s:Slot}(h:s.ys=s.xs):s.fil 0=s:=by
 obtain ⟨v,xs,u,ys,z,n⟩:=s;have h:ys=xs:=h;subst h
 rfl
theorem L1 {s:Slot}(h:k<s.xs.length):(s.fil k).xs.set k (mkN s.n)=(s.fil (k+1)).xs:=by
 show (List.replicate k (mkN s.n)++s.xs.drop k).set k (mkN s.n)=List.replicate (k+1) (mkN s.n)++s.xs.drop (k+1);rw [x7 _ _ (by simp),ze,xY,qL h,vV,jf,qQ]
 rfl
structure Slot.new (s:Slot):Prop extends s.wf where
 uv:s.u=s.v
 yx:s.ys=s.xs
theorem K1 (h:n≤1000000):okL (List.replicate k (mkN n)):=λ x hx=>by
 rw [(xN.1 hx).2];unfold mkN;omega
theorem D8 {s:Slot}(h:s.wf):okL (s.fil k).xs:=λ x hx=>by
 rcases qp.1 hx with hx|hx
 ·exact K1 h.n1 x hx
 ·exact h.ox x (vD hx)
theorem D7 {s:Slot}(h:s.wf)(hk:k≤s.xs.length):(s.fil k).wf:=⟨by rw [lw hk];exact h.rv,D8 h,D8 h,h.z1,h.n1,by rw [lw hk];exact h.lx⟩
def fl (L:List Slot)(i k:Nat):List Slot:=L.mapIdx λ j s=>if j<i then s.fil s.xs.length else if j=i then s.fil k else s
theorem D2 :(fl L i k).length=L.length:=by unfold fl;simp
theorem FV (h:L[i]?=some s):(fl L i k)[i]?=some (s.fil k):=by
 unfold fl;rw [List.getElem?_mapIdx,h];simp
theorem KY (h:L[i]?=some s)(hk:k<s.xs.length):(fl L i k).set i { s.fil k with xs:=(s.fil k).xs.set k (mkN s.n),ys:=(s.fil k).xs.set k (mkN s.n) }=fl L i (k+1):=by
 apply j2;intro j;by_cases e:j=i
 ·subst e;rw [List.getElem?_set_self (by rw [D2];exact (List.getElem?_eq_some_iff.1 h).1),FV h,L1 hk]
  rfl
 ·rw [List.getElem?_set_ne (λ e2=>e e2.symm)];unfold fl;rw [List.getElem?_mapIdx,List.getElem?_mapIdx];simp [e]
theorem KZ (h:L[i]?=some s)(hn:∀ s∈L,s.new):fl L i s.xs.length=fl L (i+1) 0:=by
 apply j2;intro j;unfold fl;rw [List.getElem?_mapIdx,List.getElem?_mapIdx];cases hj:L[j]? with
 | none=>rfl
 | some t =>
  simp only [qU];by_cases e:j=i
  ·subst e;rw [h] at hj;injection hj with hj;subst hj;simp
  ·by_cases e1:j<i
   ·rw [qD e1,qD zo]
   ·rw [qA e1,qA e,qA zo];by_cases e2:j=i+1
    ·rw [qD e2,O0 (hn t (qa hj)).yx]
    ·rw [qA e2]
theorem KX (hn:∀ s∈L,s.new):fl L 0 0=L:=by
 apply j2;intro j;unfold fl;rw [List.getElem?_mapIdx];cases hj:L[j]? with
 | none=>rfl
 | some t =>
  simp only [qU,k7,if_false];by_cases e:j=0
  ·rw [qD e,O0 (hn t (qa hj)).yx]
  ·rw [qA e]
theorem NY :fl L L.length k=L.map λ s=>s.fil s.xs.length:=by
 apply j2;intro j;unfold fl;rw [List.getElem?_mapIdx,List.getElem?_map];cases hj:L[j]? with
 | none=>rfl
 | some t =>
  have:=(List.getElem?_eq_some_iff.1 hj).1;simp only [qU];rw [qD this]
theorem Qu (hn:∀ s∈L,s.new)(hk:∀ s,L[i]?=some s→k≤s.xs.length):∀ s∈fl L i k,s.wf:=λ s hs=>by
 obtain ⟨j,hj⟩:=List.getElem?_of_mem hs;unfold fl at hj;rw [List.getElem?_mapIdx] at hj;cases ht:L[j]? with
 | none=>rw [ht] at hj;cases hj
 | some t =>
  rw [ht] at hj;have hw:=(hn t (qa ht)).towf;simp only [qU,Option.some.injEq] at hj;split at hj
  ·subst hj;exact D7 hw (qj _)
  ·split at hj
   ·rename_i e;subst e;subst hj;exact D7 hw (hk t ht)
   ·subst hj;exact hw
theorem sC {L:List Slot}{i:Nat}{s:Slot}(h:L[i]?=some s):(L.map Slot.view)[i]?=some s.view:=by rw [List.getElem?_map,h];rfl
theorem Ap {L:List Slot}:∀ A∈L.map Slot.view,A.n=3:=λ A hA=>by
 obtain ⟨s,_,rfl⟩:=qr.1 hA;rfl
theorem RowV.row (h:RowV v n)(hk:k<n):∃ g cap,v=.slice (some ⟨g,0,none⟩) n cap:=by
 rcases h with ⟨_,e⟩|⟨g,cap,h,_⟩
 ·omega
 ·exact ⟨g,cap,h⟩
theorem bU {ops:Yg}{Q:Yd}(h:Q .normal a w):wpOps P ops Q [] a w:=h
theorem dC {ops:Yg}{Q:Yd}(h:Q .normal a w):wpOps P ops Q [] (a.put none undef) w:=h
theorem Id :Wk (NumA k n).va (EqV (.int k n)):=λ _ _ _ h=>bj h
theorem Gx:∃ it z,Tryz.prog.info? 138=some it∧it.zero=some z∧it.size=1∧it.bytes=4∧z.cells.size=1:=by
 have h:((Tryz.prog.info? 138).bind λ it=>it.zero.map λ z=>(it.size,it.bytes,z.cells.size))=some (1,4,1):=by kernel_rfl
 cases hi:Tryz.prog.info? 138 with
 | none=>rw [hi] at h;simp at h
 | some it =>
  rw [hi] at h;cases hz:it.zero with
  | none=>simp [hz] at h
  | some z =>
   simp [hz] at h;exact ⟨it,z,rfl,hz,h.1,h.2.1,h.2.2⟩
def Slot.ext (s:Slot)(u:Value)(k:Nat):Slot:={ s with u:=u,ys:=List.replicate (s.xs.length+k) (mkN s.n) }
structure Slot.full (s:Slot):Prop extends s.wf where
 uv:s.u=s.v
 yx:s.ys=s.xs
 xm:s.xs=List.replicate s.xs.length (mkN s.n)
theorem Qx {s:Slot}(h:s.full):s.ext s.v 0=s:=by
 have h1:=h.uv;have h2:=h.yx;have h3:=h.xm;obtain ⟨v,xs,u,ys,z,n⟩:=s;simp only at h1 h2 h3;subst h1 h2;show Slot.mk u ys u (List.replicate (ys.length+0) (mkN n)) z n=_;rw [jy,← h3]
structure Grew (s t:Slot):Prop where
 v:t.v=s.v
 xs:t.xs=s.xs
 n:t.n=s.n
 z:t.z=t.u
 ys:t.ys=List.replicate (s.xs.length+70) (mkN s.n)
def Gr (L M:List Slot)(i:Nat):Prop:=M.length=L.length∧∀ (j:Nat) s,L[j]?=some s→∃ t,M[j]?=some t∧(j<i→Grew s t)∧(i≤j→t=s)
theorem gr_0 :Gr L L 0:=⟨rfl,λ j s h=>⟨s,h,λ h=>absurd h (k7 _),λ _=>rfl⟩⟩
theorem Qq (h:Gr L M i)(hs:L[i]?=some s):M[i]?=some s:=by
 obtain ⟨t,h1,_,h2⟩:=h.2 i s hs;rw [h1,h2 (qj _)]
theorem KG (h:Gr L M i)(hs:L[i]?=some s):Gr L (M.set i { s.ext u 70 with z:=u }) (i+1):=by
 refine ⟨by rw [qY];exact h.1,λ j s' hj=>?_⟩;by_cases e:j=i
 ·subst e;rw [hs] at hj;injection hj with hj;subst hj;refine ⟨_,List.getElem?_set_self (by rw [h.1];exact (List.getElem?_eq_some_iff.1 hs).1),λ _=>⟨rfl,rfl,rfl,rfl,rfl⟩,λ h=>by omega⟩
 ·obtain ⟨t,h1,h2,h3⟩:=h.2 j s' hj;exact ⟨t,by rw [List.getElem?_set_ne (λ e2=>e e2.symm)];exact h1,λ h=>h2 zo,λ h=>h3 zo⟩
theorem NS (h:Gr L M i)(ht:t∈M):∃ s∈L,Grew s t∨t=s:=by
 obtain ⟨j,hj⟩:=List.getElem?_of_mem ht;have hlt:=(List.getElem?_eq_some_iff.1 hj).1;rw [h.1] at hlt;obtain ⟨t',h1,h2,h3⟩:=h.2 j _ (List.getElem?_eq_getElem hlt);rw [hj] at h1;injection h1 with h1;subst h1;refine ⟨_,qh hlt,?_⟩;by_cases e:j<i
 ·exact .inl (h2 e)
 ·exact .inr (h3 zo)
def One1 (M:List Slot):Prop:=∀ s∈M,s.v.oneCell'=true∧s.z.oneCell'=true
theorem sq {B:Nat}{w:Yi}:∀ {L:List Slot},One1 L→(cat (L.map Slot.view)).p B (L.flatMap Slot.cells) w
 | [],_=>⟨[],rfl,.nil⟩
 | s::L,h=>by
  obtain ⟨ps,e,hp⟩:=sq (B:=B) (w:=w) (L:=L) λ t ht=>h t (by simp [ht]);refine ⟨s.cells::ps,by rw [xi,e];rfl,.cons ?_ hp⟩;exact ⟨[[s.v],[s.z],[.int .i64 s.n]],rfl,.cons ⟨rfl,(h s (by simp)).1⟩ (.cons ⟨rfl,(h s (by simp)).2⟩ (.cons G .nil))⟩
theorem uV {L:List Slot}(h:One1 L):Wk (HbA vr L).va (SlA 137 [] (L.map Slot.view)).va:=λ B v w ⟨cs,⟨e,h2,_⟩,hv⟩=>by
 subst e;have hv':v=vr:=hv;subst hv';refine ip (b:=B) (m:=3) B v w ⟨λ A hA=>?_,λ A hA T hT=>?_,L.flatMap Slot.cells,sq h,?_⟩
 ·obtain ⟨s,_,rfl⟩:=qr.1 hA;rfl
 ·obtain ⟨s,_,rfl⟩:=qr.1 hA;cases (show T∈([]:List TypeId) from hT)
 ·rw [qd];exact h2
theorem Kw {L:List Slot}:Wk (HbA vr L).va (EqV vr):=λ B v w ⟨cs,⟨e,_⟩,hv⟩=>by
 subst e;exact hv
theorem de {E m n B:Nat}{xs:Yl}(h:w.ownsRow B E m v n xs):v.oneCell'=true∧RowV v n:=by
 rcases h.2 with ⟨rfl,e⟩|⟨g,cap,cur,rfl,_,_,h3,h4,_⟩
 ·exact ⟨rfl,.inl ⟨rfl,e⟩⟩
 ·exact ⟨rfl,.inr ⟨g,cap,rfl,h3,h4⟩⟩
theorem gr_z (h:Gr L M i)(hf:∀ s∈L,s.full):∀ t∈M,t.z.oneCell'=true∨t.z=t.u:=λ t ht=>by
 obtain ⟨s,hs,h1|h1⟩:=NS h ht
 ·exact .inr h1.z
 ·subst h1;exact .inl (hf t hs).z1
theorem RowV.cell (h:RowV v n):v.cells = #[v]:=by
 rcases h with ⟨rfl,_⟩|⟨g,cap,rfl,_⟩ <;> rfl
theorem okm (h:n≤1000000):okL [mkN n]:=λ y hy=>by
 have:y=mkN n:=by simpa using hy
 subst this;unfold mkN;omega
theorem LX :Wk (MgA l).va (SlA U32 [] (l.map λ (x:Nat)=>NumA .u32 (x:Int))).va:=λ _ _ _ h=>(eD h).2
theorem B8 {M:List Slot}:(M.set i x).set i y=M.set i y:=by simp
theorem ED {M:List Slot}{i:Nat}{x:Slot}(h:M[i]?=some x):M.set i x=M:=by
 obtain ⟨h1,h2⟩:=List.getElem?_eq_some_iff.1 h;subst h2;simp
structure Slot.done (t:Slot):Prop where
 zu:t.z=t.u
 xm:t.xs=List.replicate t.xs.length (mkN t.n)
 ym:t.ys=List.replicate (t.xs.length+70) (mkN t.n)
 n1:t.n≤1000000
 lx:t.xs.length≤2000000000000
theorem KH (h:Gr L M L.length)(hf:∀ s∈L,s.full):∀ t∈M,t.done:=λ t ht=>by
 obtain ⟨j,hj⟩:=List.getElem?_of_mem ht;have hlt:=(List.getElem?_eq_some_iff.1 hj).1;rw [h.1] at hlt;obtain ⟨t',h1,h2,_⟩:=h.2 j _ (List.getElem?_eq_getElem hlt);rw [hj] at h1;injection h1 with h1;subst h1;have hG:=h2 hlt;have hs:=hf _ (qh hlt);refine ⟨hG.z,?_,?_,?_,?_⟩
 ·rw [hG.xs,hG.n];exact hs.xm
 ·rw [hG.xs,hG.n];exact hG.ys
 ·rw [hG.n];exact hs.n1
 ·rw [hG.xs];exact hs.lx
theorem pQ {t:Slot}(h:t.done):t.ys.length=t.xs.length+70:=by rw [h.ym,ze]
theorem Dt {t:Slot}(h:t.done):okL t.xs:=h.xm▸K1 h.n1
theorem Dr {t:Slot}(h:t.done):okL t.ys:=h.ym▸K1 h.n1
theorem Lj {t:Slot}(h:t.done)(hk:k<t.xs.length):t.xs[k]=mkN t.n:=by
 have h1:=h.xm;have h2:t.xs[k]?=(List.replicate t.xs.length (mkN t.n))[k]?:=qq (λ l=>l[k]?) h1;rw [List.getElem?_eq_getElem hk,List.getElem?_replicate,qD hk] at h2;injection h2
theorem Li {t:Slot}(h:t.done)(hk:k<t.ys.length):t.ys[k]=mkN t.n:=by
 have h2:t.ys[k]?=(List.replicate (t.xs.length+70) (mkN t.n))[k]?:=qq (λ l=>l[k]?) h.ym;rw [List.getElem?_eq_getElem hk,List.getElem?_replicate,qD (by rw [← pQ h];exact hk)] at h2;injection h2
theorem Kd {t:Slot}(h:t.done){k:Nat}(hk:k<t.ys.length):((!(((t.ys[k]:Nat):Int)==((mkN t.n:Nat):Int))) || (decide ((k:Int)<(t.xs.length:Int))&&(!(((t.xs.getD k 0:Nat):Int)==((mkN t.n:Nat):Int)))))=false:=by
 rw [Li h hk,beq_self_eq_true,vk,xJ];by_cases h2:k<t.xs.length
 ·rw [List.getD_eq_getElem?_getD,List.getElem?_eq_getElem h2,xy,Lj h h2,beq_self_eq_true,vk,Bool.and_false]
 ·rw [zT zo,Bool.false_and]
section
open Rg
variable {P:Program}{Q:Exit→Act→World→Prop}{B N:Nat}{w0:Bs}{Γ:List (Nat × VA)}{Λ:List Lc}{a:Act}{w:World}
def lesA (Λ:List Lc)(d n:Nat):List Le:=(Λ.map λ l=>⟨l.s,l.T,l.H,none,l.A,none⟩)++[⟨d,999999,ptrH,some n,OneC,some (n+1,OneC)⟩]
theorem uY {id:Nat}{ops:Yg}{sp:Yu}(n m d:Nat)(src:List Src)
  (h:St B w0 N Γ Λ a w) (hob:Obs P Q ⟨ops,N,Γ,lesA Λ d n,sp,λ i=>List.range i⟩ B w0 0 n) (hsz:ops.size=n+m) (hk:Rg.chk ⟨ops,N,Γ,lesA Λ d n,sp,λ i=>List.range i⟩=true)
  (hsrc:src.all (λ s=>match s with | .g k=>(match Γ[k]? with|some x=>Rg.outG ⟨ops,N,Γ,lesA Λ d n,sp,λ i=>List.range i⟩ x.1|none=>false) | .o i=>decide (i<n))=true)
  (hQ:∀ a' w',St B w0 N (src.filterMap (cC ⟨ops,N,Γ,lesA Λ d n,sp,λ i=>List.range i⟩)) Λ a' w'→wpOps P ops Q (List.range' n m) a' w'):(Code.region id ops false).wp P Q a w:=by
 refine Rg.linK (R:=⟨ops,N,Γ,lesA Λ d n,sp,λ i=>List.range i⟩) (m:=m) hsz G hk h (λ y hy hcr=>?_) (λ i hi=>hob.all i zo zo) λ a1 w1 hinv=>?_
 ·rcases qp.1 hy with hy|hy
  ·obtain ⟨l,hl,rfl⟩:=qr.1 hy;exact hl
  ·obtain rfl:=qo.1 hy;cases hcr
 ·exact hQ a1 w1 (ln (λ l' hl'=>⟨none,qp.2 (.inl (qr.2 ⟨l',hl',rfl⟩))⟩) (λ y hy i A' h1=>by
   rcases qp.1 hy with hy|hy
   ·obtain ⟨l,hl,rfl⟩:=qr.1 hy;cases h1
   ·obtain rfl:=qo.1 hy;injection h1 with h1;injection h1 with h1 _;omega) hinv src hsrc)
end
section
open Rg
variable {P:Program}{Q:Exit→Act→World→Prop}{R:Rg}{B i:Nat}{w0:Bs}
theorem mD {E:Yh}(hx:Has R B w0 i x (ElP E A)):Wv P Q R B w0 i (.nilCheck x) (ElP E A) :=
 bk λ d T ps af gd a w av=>by
  have h:=hx a w av;obtain ⟨b,o,cs,hv,_⟩:=h;exact ⟨a.eval x,w,by simp [execOp,hv],Grow.refl w,hx a w av⟩
end
theorem LZ {n:Nat}(h:n≤2000000000000):IntKind.i64.wrap ((n:Int)+70)=((n+70:Nat):Int):=by rw [wi64 zo zo];rfl
theorem bt:Wk (EqS (.slice none 0 0)).va (SlA 0 [] []).va:=cB rf uG
section
open Rg
variable {R:Rg}{B i:Nat}{w0:Bs}
end
theorem P8 {f : Ym}{fn : Func}{E : VA}{r0 r1 rest y : Code}{i t : Nat} (hf : P.funcs[f]? = some fn) (hb : fn.body = some (.seq r0 (.block i (.loop (.seq (.seq r1 (.cond (.tmp t) y (.exit i))) rest))))) (hn : (fn.name == "runtime.NumGoroutine") = false) (hsz : [E].length ≤ fn.ntmps) (hr : fn.results = #[])
  (h0:∀ (B:Nat) (w0:Bs) (a:Act) (w:World) (Q:Exit→Act→World→Prop),St B w0 fn.ntmps [(0,E)] [] a w→(∀ a w,St B w0 fn.ntmps [(0,E),(2,In 0)] [] a w→Q .normal a w)→r0.wp P Q a w)
  (h1:∀ (B:Nat) (w0:Bs) (a:Act) (w:World) (Q:Exit→Act→World→Prop),St B w0 fn.ntmps [(0,E),(2,In 0)] [] a w→(∀ a w,St B w0 fn.ntmps [(t,Bo false)] [] a w→Q .normal a w)→r1.wp P Q a w):Cn P f [E] (Tu []):=by
 refine Cn.intro hf hb hn hsz (λ B w0 a U=>?_);refine qb (h0 B w0 a _ _ U λ a w U=>?_);refine aa<|ql<|wp_loop_ghost (λ n a w=>St B w0 fn.ntmps [(0,E),(2,In 0)] [] a w) 0 U ?_;intro n a w U;refine qb<|qb (h1 B w0 a w _ U λ a w U=>?_);refine zJ 0 U G (λ hb0=>?_) (λ hb0=>?_)
 ·exact absurd hb0 zd
 exact qM<|ai<|ai<|az<|dg<|aP (rs:=[]) hr U .nil zd
theorem R7 {f : Ym}{fn : Func}{E : VA}{r0 r1 r2 r3 rest y : Code}{i t : Nat} (hf : P.funcs[f]? = some fn) (hb : fn.body = some (.seq r0 (.seq (.seq r3 (.block i (.loop (.seq (.seq r1 (.cond (.tmp t) y (.exit i))) rest)))) (.seq r2 .ret)))) (hn : (fn.name == "runtime.NumGoroutine") = false) (hsz : [E].length ≤ fn.ntmps) (hr : fn.results = #[.tmp 2])
  (h0:∀ (B:Nat) (w0:Bs) (a:Act) (w:World) (Q:Exit→Act→World→Prop),St B w0 fn.ntmps [(0,E)] [] a w→(∀ a w,St B w0 fn.ntmps [(0,E)] [] a w→Q .normal a w)→r0.wp P Q a w)
  (h3:∀ (B:Nat) (w0:Bs) (a:Act) (w:World) (Q:Exit→Act→World→Prop),St B w0 fn.ntmps [(0,E)] [] a w→(∀ a w,St B w0 fn.ntmps [(0,E),(3,In 0)] [] a w→Q .normal a w)→r3.wp P Q a w)
  (h1:∀ (B:Nat) (w0:Bs) (a:Act) (w:World) (Q:Exit→Act→World→Prop),St B w0 fn.ntmps [(0,E),(3,In 0)] [] a w→(∀ a w,St B w0 fn.ntmps [(0,E),(t,Bo false)] [] a w→Q .normal a w)→r1.wp P Q a w)
  (h2:∀ (B:Nat) (w0:Bs) (a:Act) (w:World) (Q:Exit→Act→World→Prop),St B w0 fn.ntmps [(0,E),(t,Bo false)] [] a w→(∀ a w,St B w0 fn.ntmps [(2,Bo true)] [] a w→Q .normal a w)→r2.wp P Q a w):Cn P f [E] (Bo true):=by
 refine Cn.intro hf hb hn hsz (λ B w0 a U=>?_);refine qb (h0 B w0 a _ _ U λ a w U=>?_);refine zt<|qb (h3 B w0 a w _ U λ a w U=>?_);refine aa<|ql<|wp_loop_ghost (λ n a w=>St B w0 fn.ntmps [(0,E),(3,In 0)] [] a w) 0 U ?_;intro n a w U;refine qb<|qb (h1 B w0 a w _ U λ a w U=>?_);refine zJ 1 U G (λ hb0=>?_) (λ hb0=>?_)
 ·exact absurd hb0 zd
 refine qM<|ai<|ai<|az<|aa<|qb (h2 B w0 a w _ U λ a w U=>?_);exact aa<|qi<|am hr U (zm 0 G)
theorem dp {f : Ym}{fn : Func}{A0 A1 : As}{e : Yh}{k o i i0 i1 : Nat}{SH EE X1 X2 : Yh}{T0 : Yh}{p0 : Yv}{a0 : Yw}{T1 : Yh}{p1 : Yv}{a1 : Yw}{T2 : Yh}{p2 : Yv}{a2 : Yw}{T3 : Yh}{p3 : Yv}{a3 : Yw}{T4 : Yh}{p4 : Yv}{a4 : Yw}{T5 : Yh}{p5 : Yv}{a5 : Yw}{T6 : Yh}{p6 : Yv}{a6 : Yw}{T7 : Yh}{p7 : Yv}{a7 : Yw}{rest y : Code} (hf : P.funcs[f]? = some fn) (hb : fn.body = some (.seq (.region i0 #[⟨some 2, .assign (.const (.int .i64 0)), T0, p0, a0, none⟩] false) (.block i (.loop (.seq (.seq (.region i1 #[⟨some 5, .move (.tmp 2), T1, p1, a1, none⟩, ⟨some 6, .move (.tmp 0), T2, p2, a2, none⟩, ⟨some 7, .nilCheck (.tmp 6), T3, p3, a3, none⟩, ⟨some 8, .fieldAddr 60 (.tmp 7) k, T4, p4, a4, none⟩, ⟨some 9, .load SH (.tmp 8), T5, p5, a5, none⟩, ⟨some 10, .call ⟨.builtin .len, #[.tmp 9], #[SH]⟩, T6, p6, a6, none⟩, ⟨some 11, .binOp .lss X1 (.tmp 5) (.tmp 10) X2, T7, p7, a7, none⟩] false) (.cond (.tmp 11) y (.exit i))) rest))))) (hn : (fn.name == "runtime.NumGoroutine") = false) (hN : fn.ntmps = 35) (hr : fn.results = #[]) (hfl : Fld P 60 k o A1.n) (hS : Sub A0 o A1) (hty : Ty P SH A1.n A1.ag) (hU : P.underlying SH = some (.slice EE)) (hA : Wk A1.va (SlA e [] []).va) : Cn P f [ElP 60 A0] (Tu []) := by
 refine P8 hf hb hn (by rw [hN];exact jz G) hr ?_ ?_ <;> rw [hN]
 ·exact (λ B w0 a w Q U k=>zh UA Rd U (zE G ab) k)
 ·exact (λ B w0 a w Q U k=>zh (WG 5) [.o 6] U (zM 1 G (zM 0 G (zv G (mD (vq 1 G)) (zv G (bK (vq 2 G) hfl hS) (zv G (ao (vq 3 G) hty) (zv G (bg hU (has_wk' (vq 4 G) hA)) (zv G (aN (vq 0 G) (vq 5 G)) o0))))))) k)
theorem dn {f : Ym}{fn : Func}{A0 A1 : As}{e : Yh}{k o i i0 i1 : Nat}{SH EE X1 X2 : Yh}{T0 : Yh}{p0 : Yv}{a0 : Yw}{T1 : Yh}{p1 : Yv}{a1 : Yw}{T2 : Yh}{p2 : Yv}{a2 : Yw}{T3 : Yh}{p3 : Yv}{a3 : Yw}{T4 : Yh}{p4 : Yv}{a4 : Yw}{T5 : Yh}{p5 : Yv}{a5 : Yw}{T6 : Yh}{p6 : Yv}{a6 : Yw}{T7 : Yh}{p7 : Yv}{a7 : Yw}{rest y : Code} (hf : P.funcs[f]? = some fn) (hb : fn.body = some (.seq (.region i0 #[⟨some 2, .assign (.const (.int .i64 0)), T0, p0, a0, none⟩] false) (.block i (.loop (.seq (.seq (.region i1 #[⟨some 6, .move (.tmp 2), T1, p1, a1, none⟩, ⟨some 7, .move (.tmp 0), T2, p2, a2, none⟩, ⟨some 8, .nilCheck (.tmp 7), T3, p3, a3, none⟩, ⟨some 9, .fieldAddr 60 (.tmp 8) k, T4, p4, a4, none⟩, ⟨some 10, .load SH (.tmp 9), T5, p5, a5, none⟩, ⟨some 11, .call ⟨.builtin .len, #[.tmp 10], #[SH]⟩, T6, p6, a6, none⟩, ⟨some 12, .binOp .lss X1 (.tmp 6) (.tmp 11) X2, T7, p7, a7, none⟩] false) (.cond (.tmp 12) y (.exit i))) rest))))) (hn : (fn.name == "runtime.NumGoroutine") = false) (hN : fn.ntmps = 42) (hr : fn.results = #[]) (hfl : Fld P 60 k o A1.n) (hS : Sub A0 o A1) (hty : Ty P SH A1.n A1.ag) (hU : P.underlying SH = some (.slice EE)) (hA : Wk A1.va (SlA e [] []).va) : Cn P f [ElP 60 A0] (Tu []) := by
 refine P8 hf hb hn (by rw [hN];exact jz G) hr ?_ ?_ <;> rw [hN]
 ·exact (λ B w0 a w Q U k=>zh UA Rd U (zE G ab) k)
 ·exact (λ B w0 a w Q U k=>zh (WG 6) [.o 6] U (zM 1 G (zM 0 G (zv G (mD (vq 1 G)) (zv G (bK (vq 2 G) hfl hS) (zv G (ao (vq 3 G) hty) (zv G (bg hU (has_wk' (vq 4 G) hA)) (zv G (aN (vq 0 G) (vq 5 G)) o0))))))) k)
theorem dm {f : Ym}{fn : Func}{A0 A1 : As}{e : Yh}{k o i i0 i1 i8 i9 : Nat}{SH EE X1 X2 : Yh}{T0 : Yh}{p0 : Yv}{a0 : Yw}{T1 : Yh}{p1 : Yv}{a1 : Yw}{T2 : Yh}{p2 : Yv}{a2 : Yw}{T3 : Yh}{p3 : Yv}{a3 : Yw}{T4 : Yh}{p4 : Yv}{a4 : Yw}{T5 : Yh}{p5 : Yv}{a5 : Yw}{T6 : Yh}{p6 : Yv}{a6 : Yw}{T7 : Yh}{p7 : Yv}{a7 : Yw}{T8 : Yh}{p8 : Yv}{a8 : Yw}{T9 : Yh}{p9 : Yv}{a9 : Yw}{rest y : Code} (hf : P.funcs[f]? = some fn) (hb : fn.body = some (.seq (.region i0 #[⟨some 2, .assign (.const (.bool false)), T0, p0, a0, none⟩] false) (.seq (.seq (.region i8 #[⟨some 3, .assign (.const (.int .i64 0)), T8, p8, a8, none⟩] false) (.block i (.loop (.seq (.seq (.region i1 #[⟨some 6, .move (.tmp 3), T1, p1, a1, none⟩, ⟨some 7, .move (.tmp 0), T2, p2, a2, none⟩, ⟨some 8, .nilCheck (.tmp 7), T3, p3, a3, none⟩, ⟨some 9, .fieldAddr 60 (.tmp 8) k, T4, p4, a4, none⟩, ⟨some 10, .load SH (.tmp 9), T5, p5, a5, none⟩, ⟨some 11, .call ⟨.builtin .len, #[.tmp 10], #[SH]⟩, T6, p6, a6, none⟩, ⟨some 12, .binOp .lss X1 (.tmp 6) (.tmp 11) X2, T7, p7, a7, none⟩] false) (.cond (.tmp 12) y (.exit i))) rest)))) (.seq (.region i9 #[⟨some 2, .assign (.const (.bool true)), T9, p9, a9, none⟩] false) .ret)))) (hn : (fn.name == "runtime.NumGoroutine") = false) (hN : fn.ntmps = 64) (hr : fn.results = #[.tmp 2]) (hfl : Fld P 60 k o A1.n) (hS : Sub A0 o A1) (hty : Ty P SH A1.n A1.ag) (hU : P.underlying SH = some (.slice EE)) (hA : Wk A1.va (SlA e [] []).va) : Cn P f [ElP 60 A0] (Bo true) := by
 refine R7 hf hb hn (by rw [hN];exact jz G) hr ?_ ?_ ?_ ?_ <;> rw [hN]
 ·exact (λ B w0 a w Q U k=>zh UA UL U (zE G aE) k)
 ·exact (λ B w0 a w Q U k=>zh [.v 3 _] Rd U (zE G ab) k)
 ·exact (λ B w0 a w Q U k=>zh (WG 6) [.g 0,.o 6] U (zM 1 G (zM 0 G (zv G (mD (vq 1 G)) (zv G (bK (vq 2 G) hfl hS) (zv G (ao (vq 3 G) hty) (zv G (bg hU (has_wk' (vq 4 G) hA)) (zv G (aN (vq 0 G) (vq 5 G)) o0))))))) k)
 ·exact (λ B w0 a w Q U k=>zh UA U2 U (zE G aE) k)
abbrev filL (L:List Slot):List Slot:=L.map λ s=>s.fil s.xs.length
theorem FW {s:Slot}(h:s.new):(s.fil s.xs.length).full:=by
 have e:(s.fil s.xs.length).xs=List.replicate s.xs.length (mkN s.n):=by
  show List.replicate s.xs.length (mkN s.n)++s.xs.drop s.xs.length=_;rw [xM,zX]
 exact ⟨D7 h.towf (qj _),h.uv,rfl,by rw [e,ze];rfl⟩
theorem se (h:∀ s∈L,s.new):∀ s∈filL L,s.full:=λ s hs=>by
 obtain ⟨t,ht,rfl⟩:=qr.1 hs;exact FW (h t ht)
section
open Rg
variable {P:Program}{Q:Exit→Act→World→Prop}{B N:Nat}{w0:Bs}{Γ:List (Nat × VA)}{Λ:List Lc}{a:Act}{w:World}
theorem CL {R:Rg}{n:Nat}{L:Nat→Bool}(hL:∀ i,n≤i→L i=false)(hles:∀ l'∈Λ,∃ st,(⟨l'.s,l'.T,l'.H,none,l'.A,st⟩:Le)∈R.les)(hles2:∀ y∈R.les,∀ i A,y.st=some (i,A)→n≤i)(hinv:R.Inv B w0 L a w)(src:List Src)
  (hsrc:src.all (λ s=>match s with | .g k=>(match R.Γ[k]? with|some x=>Rg.outG R x.1|none=>false) | .o i=>L i)=true):St B w0 R.N (src.filterMap (cC R)) Λ a w:=by
 have hcl:∀ deps,Rg.clash R L deps=false:=λ deps=>by
  unfold Rg.clash;rw [xv];intro y hy;cases U:y.st with
  | none=>simp
  | some x =>
   obtain ⟨i,B'⟩:=x;have:=hles2 y hy i B' U;have hno:=hL i zo;simp [hno]
 have hcur:∀ y∈R.les,y.cr=none→Rg.cur L y=some y.A0:=λ y hy h0=>by
  unfold Rg.cur;rw [h0];simp only [Rg.crOk,if_true];cases U:y.st with
  | none=>rfl
  | some x =>
   obtain ⟨i,B'⟩:=x;have:=hles2 y hy i B' U;have hno:=hL i zo;simp [hno]
 refine ⟨hinv.lo,hinv.defers,hinv.size,hinv.base,λ x hx=>?_,λ l' hl'=>?_,λ l1 h1 l2 h2 hne=>?_⟩
 rotate_left
 ·obtain ⟨st,hy⟩:=hles l' hl';exact hinv.c _ hy l'.A (hcur _ hy G)
 ·obtain ⟨s1,hy1⟩:=hles l1 h1;obtain ⟨s2,hy2⟩:=hles l2 h2;exact hinv.x _ hy1 _ hy2 hne (by rw [hcur _ hy1 rfl];rfl) (by rw [hcur _ hy2 rfl];rfl)
 obtain ⟨s,hs1,hs2⟩:=qS.1 hx;have ho:=qf.1 hsrc s hs1;cases s with
 | g k =>
  simp only [cC] at hs2;simp only [hs2] at ho;refine hinv.g x (qa hs2) (λ q hq hdq=>?_) (hcl _);cases h2:R.ops[q]? with
  | none=>unfold Rg.dst at hdq;rw [h2] at hdq;cases hdq
  | some v =>
   have:=qf.1 ho q (by simpa using (Array.getElem?_eq_some_iff.1 h2).1);exact absurd hdq (by simpa using this)
 | o i =>
  simp only [cC] at hs2;cases hy:R.sp[i]? with
  | none=>rw [hy] at hs2;cases hs2
  | some y =>
   rw [hy] at hs2;exact hinv.v i y x.1 x.2 hy hs2 ho (hcl _)
end
section
variable {P:Program}{R:Rg}{Q:Exit→Act→World→Prop}{B:Nat}{w0:Bs}{a:Act}{w:World}
open Rg in
theorem Rg.drawJ {id:Nat}{n m:Nat}(z:Nat)(hz:z<n)(hsz2:R.ops.size=n+m)(hm0:0<m)(hm:P.follows .mixedOrders=true)(hanc:ancOk R=true)(J:(Nat→Bool)→Act→Yi→Prop)(hJc:∀ {L L':Nat→Bool}{a:Act}{w:Yi},J L a w→(∀ k,L' k=L k)→J L' a w)(hJ0:J (λ _=>false) a w.drew)
  (hJs:∀ i,i<n→∀ (L:Nat→Bool) (a:Act) (w:World),J L a w→cG R L→L i=false→(∀ j,(R.anc i).contains j=true→L j=true)→∀ K:Act→World→Prop,(∀ a' w',J (upd L i) a' w'→K a' w')→wpOp P R.ops Q i K a w) (ha0:∀ j,j<n→j≠z→(R.anc n).contains j=true) (ha1:∀ i,n<i→i<n+m→∀ j,j<i→(R.anc i).contains j=true)
  (hQ:∀ a w,J (λ k=>decide (k<n)) a w→wpOps P R.ops Q (List.range' n m) a w) (hQz:(R.anc n).contains z=false→∀ a w,J (λ k=>decide (k<n)&&k != z) a w→wpOps P R.ops Q (n::z::List.range' (n+1) (m-1)) a w) :
  (Code.region id R.ops true).wp P Q a w:=by
 refine wp_region_any hm ?_;have ho:∀ i,i<R.ops.size→∃ o:Oper,R.ops[i]?=some o∧(∀ j,(R.anc i).contains j=true→∃ e∈o.after,Region.binds .any e=true∧(e.on=j∨(R.anc e.on).contains j=true)) ∧
   ∀ e∈o.after,Region.binds .any e=true→e.on<i:=by
  intro i hi;have:=qf.1 hanc i (by simpa using hi);cases hoi:R.ops[i]? with
  | none=>rw [hoi] at this;cases this
  | some o =>
   rw [hoi] at this;simp only [qm] at this;refine ⟨o,rfl,λ j hj=>?_,λ e he hb=>?_⟩
   ·have hh:=qf.1 this.1 j (by simpa using hj);obtain ⟨e,he,h1⟩:=jV.1 hh;simp only [qm,z4,xw] at h1;exact ⟨e,he,h1.1,h1.2⟩
   ·have hh:=z6.1 this.2 e he;simpa [hb] using hh
 have hrd:∀ (listed:Array Bool) i,i∈Region.ready .any R.ops listed→i<R.ops.size∧listed.getD i true=false∧∀ o,R.ops[i]?=some o→∀ e∈o.after,Region.binds .any e=true→listed.getD e.on false=true:=by
  intro listed i hi;unfold Region.ready at hi;obtain ⟨h1,h2⟩:=z5.1 hi;simp only [qm,qz] at h2;refine ⟨by simpa using h1,h2.1,λ o hoi e he hb=>?_⟩;have h3:=h2.2;rw [hoi] at h3;simp only [qU,xy] at h3;have:=z6.1 h3 e he;simpa [hb] using this
 have hset:∀ (listed:Array Bool) (i k:Nat),listed.size=R.ops.size→i<R.ops.size→(listed.setIfInBounds i true).getD k false=upd (λ i=>listed.getD i false) i k:=by
  intro listed i k hsz hi;unfold upd;by_cases hki:k=i
  ·subst hki;simp [hsz,hi]
  ·simp [hki,Array.getElem?_setIfInBounds_ne (λ e=>hki e.symm)]
 have hpos:∀ (listed:Array Bool) (i:Nat),i<R.ops.size→listed.getD i false=false→0<(List.range R.ops.size).countP (λ k => !listed.getD k false):=λ listed i hi hl =>
  jJ.2 ⟨i,by simpa using hi,by simp only [hl];rfl⟩
 have hlt:∀ (listed:Array Bool) (i:Nat),listed.size=R.ops.size→i<R.ops.size→listed.getD i false=false→(List.range R.ops.size).countP (λ k => !(listed.setIfInBounds i true).getD k false)<(List.range R.ops.size).countP (λ k => !listed.getD k false):=by
  intro listed i hsz hi hLi;refine eR (x:=i) (λ x hx=>?_) (by simpa using hi) (by rw [hLi];rfl) (by rw [hset listed i i hsz hi,ci];rfl);have hx':upd (λ i=>listed.getD i false) i x=false:=by
   rw [← hset listed i x hsz hi];simpa only [qz] using hx
  rw [(dK hx').2]
  rfl
 have hfull:∀ (listed:Array Bool),listed.size=R.ops.size→Region.ready .any R.ops listed=[]→∀ k,k<R.ops.size→listed.getD k false=true:=by
  intro listed hsz hr k
  induction k using Nat.strongRecOn with
  | _ k ih =>
   intro hkn;cases hl:listed.getD k false with
   | true=>rfl
   | false =>
    exfalso;obtain ⟨x,ho1,_,ho3⟩:=ho k hkn;have:k∈Region.ready .any R.ops listed:=by
     unfold Region.ready;refine z5.2 ⟨by simpa using hkn,?_⟩;have h0:listed.getD k true=false:=by
      simp only [Array.getD,hsz,hkn,dite_true] at hl ⊢;exact hl
     rw [h0,ho1];simp only [jU,kt,qU,xy];refine z6.2 λ e he=>?_;cases hb:Region.binds .any e with
     | false=>rfl
     | true=>simpa using ih e.on (ho3 e he hb) (zF (ho3 e he hb) hkn)
    rw [hr] at this;cases this
 have hancL:∀ (listed:Array Bool) i,cG R (λ i=>listed.getD i false)→i∈Region.ready .any R.ops listed→∀ j,(R.anc i).contains j=true→listed.getD j false=true:=by
  intro listed i hcl hir j hj;obtain ⟨h1,h2,h3⟩:=hrd listed i hir;obtain ⟨x,ho1,ho2,_⟩:=ho i h1;obtain ⟨e,he,hb,hj'⟩:=ho2 j hj;have hl:=h3 x ho1 e he hb;rcases hj' with rfl|hj'
  ·exact hl
  ·exact hcl e.on hl j hj'
 have hclN:∀ (listed:Array Bool) i,listed.size=R.ops.size→cG R (λ i=>listed.getD i false)→i∈Region.ready .any R.ops listed→cG R (λ k=>(listed.setIfInBounds i true).getD k false):=by
  intro listed i hsz hcl hir k hk' j hj;obtain ⟨h1,_,_⟩:=hrd listed i hir;have hk2:upd (λ i=>listed.getD i false) i k=true:=by rw [← hset listed i k hsz h1];exact hk'
  show (listed.setIfInBounds i true).getD j false=true;rw [hset listed i j hsz h1];rcases rG hk2 with rfl|h4
  ·exact cX _ (hancL listed k hcl hir j hj)
  ·exact cX _ (hcl k h4 j hj)
 have tail:∀ q k,k+q=n+m→n≤k→∀ fuel (listed:Array Bool) a w,listed.size=R.ops.size→(List.range R.ops.size).countP (λ i => !listed.getD i false)≤fuel→cG R (λ i=>listed.getD i false) →
   (∀ j,j<k→listed.getD j false=true)→(∀ j,k≤j→j<n+m→listed.getD j false=false)→wpOps P R.ops Q (List.range' k q) a w→wpAny P .any R.ops Q fuel listed a w:=by
  intro q
  induction q with
  | zero =>
   intro k hkq hnk fuel listed a w hsz hcnt hcl hall _ hwp;have hr:Region.ready .any R.ops listed=[]:=by
    cases hrr:Region.ready .any R.ops listed with
    | nil=>rfl
    | cons i rest =>
     obtain ⟨h1,h2,_⟩:=hrd listed i (by rw [hrr];simp);have:=hall i zo;simp only [Array.getD,hsz,h1,dite_true] at h2 this;rw [h2] at this;cases this
   cases fuel with
   | zero=>exact ⟨hr,hwp⟩
   | succ fuel=>exact ⟨λ _=>hwp,λ i hir=>by rw [hr] at hir;cases hir⟩
  | succ q ih =>
   intro k hkq hnk fuel listed a w hsz hcnt hcl hall hnone hwp;have hLk:listed.getD k false=false:=hnone k (qj _) zo;have hp:=hpos listed k zo hLk;cases fuel with
   | zero=>omega
   | succ fuel =>
    refine ⟨λ hr=>absurd (hfull listed hsz hr k zo) (by rw [hLk];decide),λ i hir=>?_⟩;obtain ⟨h1,h2,h3⟩:=hrd listed i hir;have hik:i=k:=by
     by_cases e:i=k
     ·exact e
     ·exfalso;by_cases hlt':i<k
      ·have:=hall i hlt';simp only [Array.getD,hsz,h1,dite_true] at h2 this;rw [h2] at this;cases this
      ·have:=hancL listed i hcl hir k (ha1 i zo zo k zo);rw [hLk] at this;cases this
    subst hik;rw [List.range'_succ,qy] at hwp;refine wpOp_mono (λ a' w' hr=>ih (i+1) zo zo fuel _ a' w' (by simpa using hsz) ?_ (hclN listed i hsz hcl hir) (λ j hj=>?_) (λ j hj hj2=>?_) hr) hwp
    ·have:=hlt listed i hsz h1 hLk;omega
    ·rw [hset listed i j hsz h1];by_cases e:j=i
     ·rw [e];exact ci _ _
     ·exact cX _ (hall j zo)
    ·rw [hset listed i j hsz h1,d9 _ zo];exact hnone j zo hj2
 have tailz:∀ fuel (listed:Array Bool) a w,listed.size=R.ops.size→(List.range R.ops.size).countP (λ i => !listed.getD i false)≤fuel→cG R (λ i=>listed.getD i false) →
   (∀ j,j<n→j≠z→listed.getD j false=true)→listed.getD z false=false→listed.getD n false=true→(∀ j,n+1≤j→j<n+m→listed.getD j false=false)→wpOps P R.ops Q (z::List.range' (n+1) (m-1)) a w→wpAny P .any R.ops Q fuel listed a w:=by
  intro fuel listed a w hsz hcnt hcl hall hzf hnt hnone hwp;have hp:=hpos listed z zo hzf;cases fuel with
  | zero=>omega
  | succ fuel =>
   refine ⟨λ hr=>absurd (hfull listed hsz hr z zo) (by rw [hzf];decide),λ i hir=>?_⟩;obtain ⟨h1,h2,h3⟩:=hrd listed i hir;have hLi:listed.getD i false=false:=by
    simp only [Array.getD,hsz,h1,dite_true] at h2 ⊢;exact h2
   have hiz:i=z:=by
    by_cases e:i=z
    ·exact e
    ·exfalso;by_cases hlt':i<n
     ·rw [hall i hlt' e] at hLi;cases hLi
     ·by_cases e2:i=n
      ·rw [e2,hnt] at hLi;cases hLi
      ·have:=hancL listed i hcl hir z (ha1 i zo zo z zo);rw [hzf] at this;cases this
   subst hiz;rw [qy] at hwp;refine wpOp_mono (λ a' w' hr=>tail (m-1) (n+1) zo zo fuel _ a' w' (by simpa using hsz) ?_ (hclN listed i hsz hcl hir) (λ j hj=>?_) (λ j hj hj2=>?_) hr) hwp
   ·have:=hlt listed i hsz h1 hLi;omega
   ·rw [hset listed i j hsz h1];by_cases e:j=i
    ·rw [e];exact ci _ _
    ·by_cases e2:j=n
     ·rw [e2];exact cX _ hnt
     ·exact cX _ (hall j zo e)
   ·rw [hset listed i j hsz h1,d9 _ zo];exact hnone j zo hj2
 have key:∀ fuel (listed:Array Bool) a w,listed.size=R.ops.size→(List.range R.ops.size).countP (λ i => !listed.getD i false)≤fuel→cG R (λ i=>listed.getD i false) →
   (∀ j,n≤j→j<n+m→listed.getD j false=false)→J (λ i=>listed.getD i false) a w→wpAny P .any R.ops Q fuel listed a w:=by
  intro fuel
  induction fuel with
  | zero =>
   intro listed a w hsz hcnt hcl hn0 hi;have:=hpos listed n zo (hn0 n (qj _) zo);omega
  | succ fuel ih =>
   intro listed a w hsz hcnt hcl hn0 hi;have hn00:=hn0 n (qj _) zo;by_cases hdone:∀ j,j<n→listed.getD j false=true
   ·refine tail m n G (qj _) (fuel+1) listed a w hsz hcnt hcl hdone hn0 (hQ a w (hJc hi λ k=>?_));by_cases hkn:k<n
    ·rw [hdone k hkn];simp [hkn]
    ·by_cases hkm:k<n+m
     ·rw [hn0 k zo hkm];simp [hkn]
     ·have:listed.getD k false=false:=by simp [Array.getD,hsz,hsz2,hkm]
      rw [this];simp [hkn]
   ·refine ⟨λ hr=>absurd (hfull listed hsz hr n zo) (by rw [hn00];decide),λ i hir=>?_⟩;obtain ⟨h1,h2,h3⟩:=hrd listed i hir;have hLi:listed.getD i false=false:=by
     simp only [Array.getD,hsz,h1,dite_true] at h2 ⊢;exact h2
    by_cases hin:i<n
    ·refine hJs i hin _ _ _ hi hcl hLi (hancL listed i hcl hir) _ λ a' w' hi'=>ih _ _ _ (by simpa using hsz) ?_ (hclN listed i hsz hcl hir) ?_ (hJc hi' λ k=>hset listed i k hsz h1)
     ·have:=hlt listed i hsz h1 hLi;omega
     ·intro j hj hj2;rw [hset listed i j hsz h1,d9 _ zo];exact hn0 j hj hj2
    ·by_cases hgt:n<i
     ·exact absurd (λ j hj=>hancL listed i hcl hir j (ha1 i hgt zo j zo)) hdone
     ·have hin':i=n:=by omega
      have hjs:∀ j,j<n→j≠z→listed.getD j false=true:=λ j hj hne=>hancL listed i hcl hir j (by rw [hin'];exact ha0 j hj hne);have hzf:listed.getD z false=false:=by
       cases hh:listed.getD z false with
       | false=>rfl
       | true=>exact absurd (λ j hj=>if e:j=z then e▸hh else hjs j hj e) hdone
      have hnc:(R.anc n).contains z=false:=by
       cases hh:(R.anc n).contains z with
       | false=>rfl
       | true=>exact absurd (hancL listed i hcl hir z (by rw [hin'];exact hh)) (by rw [hzf];decide)
      have hwp:=hQz hnc a w (hJc hi λ k=>by
       by_cases hkn:k<n
       ·by_cases hkz:k=z
        ·subst hkz;rw [hzf];simp
        ·rw [hjs k hkn hkz];simp [hkn,hkz]
       ·by_cases hkm:k<n+m
        ·rw [hn0 k zo hkm];simp [hkn]
        ·have:listed.getD k false=false:=by simp [Array.getD,hsz,hsz2,hkm]
         rw [this];simp [hkn])
      rw [qy] at hwp;rw [hin'];rw [hin'] at hir hLi h1;refine wpOp_mono (λ a' w' hr=>tailz fuel _ a' w' (by simpa using hsz) ?_ (hclN listed n hsz hcl hir) (λ j hj hne=>?_) ?_ ?_ (λ j hj hj2=>?_) hr) hwp
      ·have:=hlt listed n hsz h1 hLi;omega
      ·rw [hset listed n j hsz h1];exact cX _ (hjs j hj hne)
      ·rw [hset listed n z hsz h1,d9 _ zo];exact hzf
      ·rw [hset listed n n hsz h1];exact ci _ _
      ·rw [hset listed n j hsz h1,d9 _ zo];exact hn0 j zo hj2
 refine key _ _ a _ (by simp) ?_ ?_ ?_ ?_
 ·refine qg (jA) (by simp)
 ·intro i hi;exfalso;simp only [Array.getD,qP] at hi;split at hi <;> simp at hi
 ·intro j hj hj2;simp only [Array.getD,qP];split <;> simp
 ·refine hJc hJ0 λ k=>?_;simp only [Array.getD,qP];split <;> simp
open Rg in
theorem Rg.drawZ {id:Nat}{n m:Nat}(z:Nat)(hz:z<n)(hsz2:R.ops.size=n+m)(hm0:0<m)(hm:P.follows .mixedOrders=true)(hanc:ancOk R=true)(hk:R.chk=true)(h:St B w0 R.N R.Γ Λ a w)(hles:∀ e∈R.les,e.cr=none→(⟨e.s,e.T,e.H,e.A0⟩:Lc)∈Λ)
  (hob:∀ i,i<n→R.Ob P Q B w0 i) (ha0:∀ j,j<n→j≠z→(R.anc n).contains j=true) (ha1:∀ i,n<i→i<n+m→∀ j,j<i→(R.anc i).contains j=true)
  (hQ:∀ a w,R.Inv B w0 (λ k=>decide (k<n)) a w→wpOps P R.ops Q (List.range' n m) a w) (hQz:∀ a w,R.Inv B w0 (λ k=>decide (k<n)&&k != z) a w→wpOps P R.ops Q (n::z::List.range' (n+1) (m-1)) a w) :
  (Code.region id R.ops true).wp P Q a w:=by
 have hs:=start h hles;have hd:R.Inv B w0 (λ _=>false) a w.drew:=⟨hs.lo,hs.defers.grow (Grow.drew w) rfl,hs.size,hs.base.drew,λ x hx h1 h2=>x.2.grow _ _ _ _ (Grow.drew w) (hs.g x hx h1 h2),(λ i y d A _ _ hf=>by cases hf),(λ i d b k c _ hf=>by cases hf),
  λ e he A hA=>(hs.c e he A hA).grow (Grow.drew w),hs.x⟩
 exact Rg.drawJ z hz hsz2 hm0 hm hanc (λ L a w=>R.Inv B w0 L a w) (λ h hk'=>h.congr hk') hd (λ i hi L a w hJ hcl hL ha K hK=>step hk (hob i hi) hJ hcl hL ha K hK) ha0 ha1 hQ (λ _=>hQz)
end
section
open Rg
variable {P:Program}{Q:Exit→Act→World→Prop}{B N:Nat}{w0:Bs}{Γ:List (Nat × VA)}{Λ:List Lc}{a:Act}{w:World}
theorem uX {id:Nat}{ops:Yg}{sp:Yu}(anc:List (Ya))(n m e j z:Nat)(A:As)(src srcz:List Src)(hmx:P.follows .mixedOrders=true)
  (h:St B w0 N Γ Λ a w) (hob:Obs P Q ⟨ops,N,Γ,lesS Λ e j A,sp,λ i=>anc.getD i []⟩ B w0 0 n) (hsz:ops.size=n+m) (hm:0<m) (hj:n≤j) (hz:z<n) (hanc:Rg.ancOk ⟨ops,N,Γ,lesS Λ e j A,sp,λ i=>anc.getD i []⟩=true)
  (ha0:(List.range n).all (λ j=>j==z || (anc.getD n []).contains j)=true) (hall:∀ i,n+1≤i→i<n+1+(m-1)→∀ j,j<i→(anc.getD i []).contains j=true) (hk:Rg.chk ⟨ops,N,Γ,lesS Λ e j A,sp,λ i=>anc.getD i []⟩=true)
  (hsrc:src.all (λ s=>match s with | .g k=>(match Γ[k]? with|some x=>Rg.outG ⟨ops,N,Γ,lesS Λ e j A,sp,λ i=>anc.getD i []⟩ x.1|none=>false) | .o i=>decide (i<n))=true)
  (hsrcz:srcz.all (λ s=>match s with | .g k=>(match Γ[k]? with|some x=>Rg.outG ⟨ops,N,Γ,lesS Λ e j A,sp,λ i=>anc.getD i []⟩ x.1|none=>false) | .o i=>decide (i<n)&&i != z)=true)
  (hQ:∀ a' w',St B w0 N (src.filterMap (cC ⟨ops,N,Γ,lesS Λ e j A,sp,λ i=>anc.getD i []⟩)) Λ a' w'→wpOps P ops Q (List.range' n m) a' w')
  (hQz:∀ a' w',St B w0 N (srcz.filterMap (cC ⟨ops,N,Γ,lesS Λ e j A,sp,λ i=>anc.getD i []⟩)) Λ a' w'→wpOps P ops Q (n::z::List.range' (n+1) (m-1)) a' w'):(Code.region id ops true).wp P Q a w:=by
 have hl1:∀ l'∈Λ,∃ st,(⟨l'.s,l'.T,l'.H,none,l'.A,st⟩:Le)∈lesS Λ e j A:=λ l' hl'=>by
  obtain ⟨j',hj'⟩:=List.getElem?_of_mem hl';exact ⟨_,qr.2 ⟨(l',j'),zp.2 hj',rfl⟩⟩
 have hl2:∀ y∈lesS Λ e j A,∀ i A',y.st=some (i,A')→n≤i:=λ y hy i B' h1=>by have:=(ek y hy).2.2 i B' h1;omega
 refine Rg.drawZ (R:=⟨ops,N,Γ,lesS Λ e j A,sp,λ i=>anc.getD i []⟩) (m:=m) z hz hsz hm hmx hanc hk h (λ y hy _=>(ek y hy).2.1) (λ i hi=>hob.all i zo zo) (λ j hj hne=>?_) (λ i h1 h2 j hj=>hall i zo zo j hj) (λ a1 w1 hinv=>?_) λ a1 w1 hinv=>?_
 ·have:=qf.1 ha0 j (by simpa using hj);simpa [hne] using this
 ·exact hQ a1 w1 (ln hl1 hl2 hinv src hsrc)
 ·exact hQz a1 w1 (CL (n:=n) (λ i hi=>by simp [show ¬ i<n by omega]) hl1 hl2 hinv srcz hsrcz)
def fP (Λ:List Lc)(e j:Nat)(A:As):List LeF:=Λ.zipIdx.map λ x=>⟨x.1.s,x.1.T,x.1.H,none,x.1.A,if x.2=e then some (j,λ _=>A) else none⟩
theorem pn {ν:Yy}:(fP Λ e j A).map (LeF.on ν)=lesS Λ e j A:=by
 unfold fP lesS;rw [xE];refine jm λ x _=>?_;by_cases h:x.2=e <;> simp [LeF.on,h]
theorem CV {id:Nat}{ops:Yg}{sp:List ((Yy)→Sp)}(anc:List (Ya))(n m e j z:Nat)(A:As)(src srcz:List Src)(hmx:P.follows .mixedOrders=true)
  (h:St B w0 N Γ Λ a w) (hob:ObsF P Q ops N Γ (fP Λ e j A) sp (λ i=>anc.getD i []) B w0 0 n) (hdS:DepS (λ i=>anc.getD i []) 0 sp) (hsz:ops.size=n+m) (hm:0<m) (hj:n≤j) (hz:z<n) (hanc:Rg.ancOk (fam ops N Γ (fP Λ e j A) sp (λ i=>anc.getD i []) (λ _=>undef))=true)
  (ha0:(List.range n).all (λ j=>j==z || (anc.getD n []).contains j)=true) (hall:∀ i,n+1≤i→i<n+1+(m-1)→∀ j,j<i→(anc.getD i []).contains j=true) (hk:∀ ν,Rg.chk (fam ops N Γ (fP Λ e j A) sp (λ i=>anc.getD i []) ν)=true)
  (hsrc:∀ ν,src.all (λ s=>match s with | .g k=>(match Γ[k]? with|some x=>Rg.outG (fam ops N Γ (fP Λ e j A) sp (λ i=>anc.getD i []) ν) x.1|none=>false) | .o i=>decide (i<n))=true)
  (hsrcz:∀ ν,srcz.all (λ s=>match s with | .g k=>(match Γ[k]? with|some x=>Rg.outG (fam ops N Γ (fP Λ e j A) sp (λ i=>anc.getD i []) ν) x.1|none=>false) | .o i=>decide (i<n)&&i != z)=true)
  (hQ:∀ ν a' w',St B w0 N (src.filterMap (cC (fam ops N Γ (fP Λ e j A) sp (λ i=>anc.getD i []) ν))) Λ a' w'→wpOps P ops Q (List.range' n m) a' w')
  (hQz:(anc.getD n []).contains z=false→∀ ν a' w',St B w0 N (srcz.filterMap (cC (fam ops N Γ (fP Λ e j A) sp (λ i=>anc.getD i []) ν))) Λ a' w'→wpOps P ops Q (n::z::List.range' (n+1) (m-1)) a' w'):(Code.region id ops true).wp P Q a w:=by
 have hl1:∀ (ν:Nat→Value),∀ l'∈Λ,∃ st,(⟨l'.s,l'.T,l'.H,none,l'.A,st⟩:Le)∈(fP Λ e j A).map (LeF.on ν):=λ ν l' hl'=>by
  obtain ⟨j',hj'⟩:=List.getElem?_of_mem hl';rw [pn];exact ⟨_,qr.2 ⟨(l',j'),zp.2 hj',rfl⟩⟩
 have hl2:∀ (ν:Nat→Value),∀ y∈(fP Λ e j A).map (LeF.on ν),∀ i A',y.st=some (i,A')→n≤i:=λ ν y hy i B' h1=>by
  rw [pn] at hy;have:=(ek y hy).2.2 i B' h1;omega
 have hl3:∀ y∈(fP Λ e j A).map (LeF.on (λ _=>undef)),y.cr=none→(⟨y.s,y.T,y.H,y.A0⟩:Lc)∈Λ:=λ y hy _=>by
  rw [pn] at hy;exact (ek y hy).2.1
 have hdL:∀ y∈fP Λ e j A,∀ j' f,y.st=some (j',f)→Dep (bef (λ i=>anc.getD i []) j') f:=λ y hy j' f hf=>by
  obtain ⟨x,_,rfl⟩:=qr.1 hy;dsimp only at hf;split at hf
  ·injection hf with hf;injection hf with _ hf;subst hf;exact λ _ _ _=>rfl
  ·cases hf
 have hs:=Rg.start (R:=fam ops N Γ (fP Λ e j A) sp (λ i=>anc.getD i []) (λ _=>undef)) h hl3;have hd:(fam ops N Γ (fP Λ e j A) sp (λ i=>anc.getD i []) (λ _=>undef)).Inv B w0 (λ _=>false) a w.drew:=⟨hs.lo,hs.defers.grow (Grow.drew w) rfl,hs.size,hs.base.drew,λ x hx h1 h2=>x.2.grow _ _ _ _ (Grow.drew w) (hs.g x hx h1 h2),(λ i y d A _ _ hf=>by cases hf),(λ i d b k c _ hf=>by cases hf),
  λ e he A hA=>(hs.c e he A hA).grow (Grow.drew w),hs.x⟩
 refine Rg.drawJ (R:=fam ops N Γ (fP Λ e j A) sp (λ i=>anc.getD i []) (λ _=>undef)) (m:=m) z hz hsz hm hmx hanc (λ L a w=>∃ ν,(fam ops N Γ (fP Λ e j A) sp (λ i=>anc.getD i []) ν).Inv B w0 L a w) (λ⟨ν,h⟩ hk'=>⟨ν,h.congr hk'⟩) ⟨_,hd⟩ (λ i hi L a w ⟨ν,hJ⟩ hcl hL ha K hK=>IJ hk (λ i f hf=>by have:=hdS.at i f hf;rwa [qV] at this) hdL (hob.all i zo zo) hJ hcl hL ha K λ ν' a' w' hi=>hK a' w' ⟨ν',hi⟩) (λ j hj hne=>?_) (λ i h1 h2 j hj=>hall i zo zo j hj) (λ a1 w1 ⟨ν,hinv⟩=>?_) λ hnc a1 w1 ⟨ν,hinv⟩=>?_
 ·have:=qf.1 ha0 j (by simpa using hj);simpa [hne] using this
 ·exact hQ ν a1 w1 (ln (hl1 ν) (hl2 ν) hinv src (hsrc ν))
 ·exact hQz hnc ν a1 w1 (CL (n:=n) (λ i hi=>by simp [show ¬ i<n by omega]) (hl1 ν) (hl2 ν) hinv srcz (hsrcz ν))
theorem C1 {ops:Yg}{i:Nat}{K:Ye}{d u:Nat}{T':Yh}{A:VA}(ku:Nat)(ho:ops[i]?=some ⟨some d,.move (.tmp u),T',ps,af,none⟩)(h:St B w0 N Γ Λ a w)
  (hu:Γ[ku]?=some (u,A)) (hd:d<N) (hΓ:Γ.all (λ x=>x.1 != d)=true) (hΛ:Λ.all (λ l=>l.s != d)=true)
  (hK:∀ a',St B w0 N ((d,A)::Γ) Λ a' w→K a' w):wpOp P ops Q i K a w :=
 lQ (A:=A) (v:=a.eval (.tmp u)) ho h hd hΓ hΛ (by simp [execOp]) (h.vals _ (qa hu)) (hK _)
end
theorem Gy:∃ it z,Tryz.prog.info? 137=some it∧it.zero=some z∧it.size=3∧it.bytes=56∧z.cells.size=3:=by
 have h:((Tryz.prog.info? 137).bind λ it=>it.zero.map λ z=>(it.size,it.bytes,z.cells.size))=some (3,56,3):=by kernel_rfl
 cases hi:Tryz.prog.info? 137 with
 | none=>rw [hi] at h;simp at h
 | some it =>
  rw [hi] at h;cases hz:it.zero with
  | none=>simp [hz] at h
  | some z =>
   simp [hz] at h;exact ⟨it,z,rfl,hz,h.1,h.2.1,h.2.2⟩
def newS (v:Value)(xs:List Nat)(n:Nat):Slot:=⟨v,xs,v,xs,.slice none 0 0,n⟩
theorem Nq {xs:Ya}(h:(MgN xs).va.p B v w):w.ownsRow B U32 1 v xs.length (xs.map lv):=by
 obtain ⟨cs,⟨h0,⟨rfl,rfl⟩|⟨g,ext,rfl,e1,e2,e3⟩⟩,hv⟩:=h
 ·have hv':v=.slice none 0 0:=hv;subst hv';exact ⟨rfl,.inl ⟨rfl,rfl⟩⟩
 ·have hv':v=.slice (some ⟨g,0,none⟩) xs.length (xs++ext).length:=hv;subst hv';refine ⟨by simp,.inr ⟨g,(xs++ext).length,_,rfl,e2,e3,by simp,e1,by simp,?_⟩⟩;rw [z8];show (List.map _ (xs++ext)).take xs.length=_;rw [zD,xr (by simp),qG (by simp)]
  rfl
theorem CN {n B:Nat}{xs:Ya}{ds:Yl}(h:(cat [EqS v,EqS (.slice none 0 0),NumA .i64 (n:Nat)]).p B ds w):ds=(newS v xs n).cells:=by
 obtain ⟨ps,rfl,hp⟩:=h;cases hp with
 | cons h1 hp=>cases hp with
  | cons h2 hp=>cases hp with
   | cons h3 hp =>
    cases hp;have h3':=h3;obtain ⟨rfl,_⟩:=h1;obtain ⟨rfl,_⟩:=h2;have:_=[Value.int .i64 (n:Nat)]:=h3';subst this
    rfl
theorem N4 {xs:Ya}:Wk (PinA v (MgN xs)).va (EqS v).va:=λ B u w ⟨cs,⟨h1,h2⟩,h3⟩=>by
 have h4:u=v:=h3.trans h2;subst h4;have hl:=(MgN xs).len _ _ _ h1;have h5:=(MgN xs).one _ _ _ h1
 match cs,hl with
 | [x],_ =>
  have h6:u=x:=h3;subst h6;exact ⟨[u],⟨rfl,h5 u (by simp)⟩,rfl⟩
theorem Hc {v u:Yn}{xs:Ya}(h:(PinA v (MgN xs)).va.p B u w):(MgN xs).va.p B v w:=by
 obtain ⟨cs,⟨h1,h2⟩,_⟩:=h;exact ⟨cs,h1,h2.symm⟩
section
open Rg
variable {P:Program}{Q:Exit→Act→World→Prop}{R:Rg}{B i:Nat}{w0:Bs}
theorem lG (hx:Has R B w0 i x (EqV (.pointer (some ⟨g,o,none⟩)))):Wv P Q R B w0 i (.nilCheck x) (EqV (.pointer (some ⟨g,o,none⟩))) :=
 bk λ d T ps af gd a w av=>by
  have h:a.eval x=.pointer (some ⟨g,o,none⟩):=hx a w av;exact ⟨_,w,by simp [execOp,h],Grow.refl w,rfl⟩
theorem lH (hx:Has R B w0 i x (EqV (.pointer (some ⟨g,o,none⟩))))(hf:Fld P T f k n):Wv P Q R B w0 i (.fieldAddr T x f) (EqV (.pointer (some ⟨g,o+k,none⟩))) :=
 bk λ d T ps af gd a w av=>by
  have h:a.eval x=.pointer (some ⟨g,o,none⟩):=hx a w av;exact ⟨_,w,by simp [execOp,h,eh hf],Grow.refl w,rfl⟩
end
structure Slt where
 v:Value
 xs:List (List Value)
 u:Value
 ys:List (List Value)
 z:Value
 n:Nat
def Slt.cells (s:Slt):List Value:=[s.v,s.z,.int .i64 s.n]
def Slt.has (s:Slt)(g:Nat):Prop:=s.v.ownBlock=some g∨s.u.ownBlock=some g
def AptK (L:List Slt):Prop:=∀ (i j:Nat) (s t:Slt),L[i]?=some s→L[j]?=some t→i≠j→∀ g,s.has g→¬ t.has g
section
variable {H E m:Nat}
def RdyK (E m:Nat)(B:Nat)(w:World)(v:Value)(xs:List (List Value)):Prop:=RowV v xs.length∧(∀ x∈xs,x.length=m)∧∀ g,v.ownBlock=some g→B≤g∧∃ c,w.heap[g]?=some (Obj.cells c E (0,0))∧c.toList.take (xs.length*m)=xs.flatten
def Slt.ok (E m:Nat)(B:Nat)(w:World)(s:Slt):Prop:=w.ownsRow B E m s.u s.ys.length s.ys.flatten∧RdyK E m B w s.v s.xs
theorem eQ:∀ {xs:Yx},(∀ x∈xs,x.length=m)→xs.flatten.length=xs.length*m
 | [],_=>by simp
 | x::xs,h=>by
  rw [za,qv,h x (by simp),eQ (λ y hy=>h y (by simp [hy])),zi,xX,j0,xq]
theorem RdyK.keep {xs:Yx}(h:RdyK E m B w v xs)(hk:∀ (g:Nat) (c:Array Yn),v.ownBlock=some g→w.heap[g]?=some (Obj.cells c E (0,0))→w'.heap[g]?=some (Obj.cells c E (0,0))):RdyK E m B w' v xs :=
 ⟨h.1,h.2.1,λ g hg=>by
  obtain ⟨h1,c,h2,h3⟩:=h.2.2 g hg;exact ⟨h1,c,hk g c hg h2,h3⟩⟩
theorem Slt.ok.keep {B:Nat}{s:Slt}{w w':Yi}(h:s.ok E m B w)(hk:∀ (g:Nat) (c:Array Yn),s.has g→w.heap[g]?=some (Obj.cells c E (0,0))→w'.heap[g]?=some (Obj.cells c E (0,0))):s.ok E m B w' :=
 ⟨cv h.1 λ g c hg=>hk g c (.inr hg),h.2.keep λ g c hg=>hk g c (.inl hg)⟩
theorem Slt.ok.lt {s:Slt}(h:s.ok E m B w)(hg:s.has g):B≤g∧∃ c,w.heap[g]?=some (Obj.cells c E (0,0)):=by
 rcases hg with hg|hg
 ·obtain ⟨h1,c,h2,_⟩:=h.2.2.2 g hg;exact ⟨h1,c,h2⟩
 ·rcases h.1.2 with ⟨e,_⟩|⟨g',cap,cur,e,h2,h3,_⟩
  ·rw [e] at hg;cases hg
  ·rw [e] at hg;have:g'=g:=by simpa [Value.ownBlock] using hg
   subst this;exact ⟨h2,cur,h3⟩
def HkA (H E m:Nat)(vr:Value)(L:List Slt):As where
 n:=1
 ag:=false
 p B cs w:=cs=[vr]∧w.ownsRow B H 3 vr L.length (L.flatMap Slt.cells)∧(∀ s∈L,s.ok E m B w)∧AptK L
 deps:=[H,E]
 len:=by rintro B cs w ⟨rfl,_⟩;rfl
 one:=by
  rintro B cs w ⟨rfl,h,_⟩ c hc;obtain rfl:=qo.1 hc;rcases h.2 with ⟨rfl,_⟩|⟨g,cap,cur,rfl,_⟩ <;> rfl
 ag1:=λ _=>rfl
 cg:=λ B cs w w' hg ⟨h1,h2,h3,h4⟩=>⟨h1,cv h2 λ g c _ h=>hg.heap h,λ s hs=>(h3 s hs).keep λ g c _ h=>hg.heap h,h4⟩
 wr:=by
  rintro B cs w w' g c T fz hgc hT hB hW ⟨h1,h2,h3,h4⟩;simp only [qt,zw,or_false,not_or] at hT;have hne:∀ (g':Nat) (c':Array Value) (E':TypeId),(E'=H∨E'=E)→w.heap[g']?=some (Obj.cells c' E' (0,0))→w'.heap[g']?=some (Obj.cells c' E' (0,0)):=λ g' c' E' hE h=>by
   rw [hW.block g' (λ e=>?_)]
   ·exact h
   ·subst e;rw [hgc] at h;injection h with h;injection h with _ h _;subst h;rcases hE with e|e
    ·exact hT.1 e
    ·exact hT.2 e
  exact ⟨h1,cv h2 λ g c _ h=>hne g c _ (.inl G) h,λ s hs=>(h3 s hs).keep λ g c _ h=>hne g c _ (.inr G) h,h4⟩
theorem sc {α:Type}{f:Slt→List α}:∀ {L:List Slt}{i:Nat}{s s':Slt},L[i]?=some s→f s'=f s→(L.set i s').flatMap f=L.flatMap f
 | x::L,0,s,s',h,e=>by
  simp at h;subst h;simp [e]
 | x::L,i+1,s,s',h,e=>by
  simp only [ju,xi];rw [sc (by simpa using h) e]
theorem Hv {L:List Slt}{B i:Nat}{s s':Slt}(h:(HkA H E m vr L).p B cs w)(hi:L[i]?=some s)(hc:s'.cells=s.cells)(hok:s'.ok E m B w')
  (hrow:∀ (g:Nat) (c:Array Value),w.heap[g]?=some (Obj.cells c H (0,0))→w'.heap[g]?=some (Obj.cells c H (0,0))) (hoth:∀ (g:Nat) (c:Array Value),¬ s.has g→w.heap[g]?=some (Obj.cells c E (0,0))→w'.heap[g]?=some (Obj.cells c E (0,0)))
  (hblk:∀ g,s'.has g→s.has g∨w.heap.size≤g):(HkA H E m vr (L.set i s')).p B cs w':=by
 obtain ⟨h1,h2,h3,h4⟩:=h;have hlt:i<L.length:=(List.getElem?_eq_some_iff.1 hi).1;have hfar:∀ (j:Nat) t,L[j]?=some t→j≠i→∀ g,t.has g→¬ s'.has g:=λ j t hj hne g hg hg'=>by
  rcases hblk g hg' with h5|h5
  ·exact h4 j i t s hj hi hne g hg h5
  ·obtain ⟨_,c,h6⟩:=(h3 t (qa hj)).lt hg;have:=(Array.getElem?_eq_some_iff.1 h6).1;omega
 refine ⟨h1,?_,λ t ht=>?_,λ j k t1 t2 hj hk hne g hg hg'=>?_⟩
 ·rw [qY,sc hi hc];exact cv h2 λ g c _ h=>hrow g c h
 ·obtain ⟨j,hj⟩:=List.getElem?_of_mem ht;by_cases e:j=i
  ·subst e;rw [List.getElem?_set_self hlt] at hj;injection hj with hj;subst hj;exact hok
  ·rw [List.getElem?_set_ne (λ e2=>e e2.symm)] at hj;exact (h3 t (qa hj)).keep λ g c hg hh=>hoth g c (λ hs=>h4 j i t s hj hi e g hg hs) hh
 ·by_cases e:j=i
  ·subst e;rw [List.getElem?_set_self hlt] at hj;injection hj with hj;subst hj;rw [List.getElem?_set_ne hne] at hk;exact hfar k t2 hk (λ e=>hne e.symm) g hg' hg
  ·rw [List.getElem?_set_ne (λ e2=>e e2.symm)] at hj;by_cases e2:k=i
   ·subst e2;rw [List.getElem?_set_self hlt] at hk;injection hk with hk;subst hk;exact hfar j t1 hj e g hg hg'
   ·rw [List.getElem?_set_ne (λ e3=>e2 e3.symm)] at hk;exact h4 j k t1 t2 hj hk hne g hg hg'
theorem AL {c:Yl}{xs:Yx}{k:Nat}{ds:Yl}(hx:∀ x∈xs,x.length=m)(hk:k<xs.length)(hd:ds.length=m)(h:c.take (xs.length*m)=xs.flatten):(c.take (k*m)++ds++c.drop (k*m+m)).take (xs.length*m)=(xs.set k ds).flatten:=by
 have hl:=eQ hx;have hle:xs.length*m≤c.length:=by
  have:=qq List.length h;rw [hl,zf] at this;omega
 have hk1:k*m+m≤xs.length*m:=by rw [← xH];exact qK m hk
 have e1:c.take (k*m)=(xs.take k).flatten:=by
  have h0:=qq (List.take (k*m)) h;rw [je,xo zo] at h0;rw [h0];have h2:xs.flatten=(xs.take k).flatten++(xs.drop k).flatten:=by rw [← jn,xP]
  have h3:(xs.take k).flatten.length=k*m:=by
   rw [eQ (λ x hx'=>hx x (xk hx')),zf,xo (xc hk)]
  rw [h2,← h3,kn]
 have e2:(c.drop (k*m+m)).take (xs.length*m-(k*m+m))=(xs.drop (k+1)).flatten:=by
  have h0:=qq (List.drop (k*m+m)) h;rw [List.drop_take] at h0;rw [h0];have h2:xs.flatten=(xs.take (k+1)).flatten++(xs.drop (k+1)).flatten:=by rw [← jn,xP]
  have h3:(xs.take (k+1)).flatten.length=k*m+m:=by
   rw [eQ (λ x hx'=>hx x (xk hx')),zf,xo hk,xH]
  rw [h2,← h3,List.drop_left]
 have l1:(c.take (k*m)).length=k*m:=by rw [zf];omega
 rw [qQ,kY,l1,je,Nat.min_eq_right (show k*m≤xs.length*m by omega),kY,hd,qG (l:=ds) (by rw [hd];omega),Nat.sub_sub,e1,e2,xz,qD hk];simp
theorem CM {L:List Slt}{B i k g cap:Nat}{s:Slt}{cs ds:Yl}(hHE:H≠E)(h:(HkA H E m vr L).p B cs w)(hi:L[i]?=some s)(hu:s.u=s.v)(hy:s.ys=s.xs)(hv:s.v=.slice (some ⟨g,0,none⟩) s.xs.length cap)(hk:k<s.xs.length)(hd:ds.length=m):
  B≤g∧∃ c:Array Value,w.heap[g]?=some (Obj.cells c E (0,0))∧k*m+m≤c.size∧(HkA H E m vr (L.set i { s with xs:=s.xs.set k ds,ys:=s.xs.set k ds })).p B cs (w.setRow g (c.toList.take (k*m)++ds++c.toList.drop (k*m+m)).toArray):=by
 have hs:=h.2.2.1 s (qa hi);have hg:s.v.ownBlock=some g:=by rw [hv];rfl
 obtain ⟨hB,c,hc,htk⟩:=hs.2.2.2 g hg;have hown:=hs.1;rw [hu,hy,hv] at hown;rcases hown.2 with ⟨e,_⟩|⟨g',cap',cur,e,h2,h3,h4,h5,h6,h7⟩
 ·cases e
 ·injection e with e1 e2 e3;injection e1 with e1;injection e1 with e1;subst e1;subst e3;rw [hc] at h3;injection h3 with h3;injection h3 with h3;subst h3;have hk1:k*m+m≤s.xs.length*m:=by rw [← xH];exact qK m hk
  have hk2:s.xs.length*m≤cap*m:=qK m h4;have hsz:k*m+m≤c.size:=by rw [h6];omega
  have hnew:(w.setRow g (c.toList.take (k*m)++ds++c.toList.drop (k*m+m)).toArray).heap[g]?=some (Obj.cells (c.toList.take (k*m)++ds++c.toList.drop (k*m+m)).toArray E (0,0)):=setRow_heap w g _ _ _ _ hc;have hitem:∀ x∈s.xs.set k ds,x.length=m:=λ x hx=>by
   rcases qB hx with hx|rfl
   ·exact hs.2.2.1 x hx
   ·exact hd
  have htk2:(c.toList.take (k*m)++ds++c.toList.drop (k*m+m)).take ((s.xs.set k ds).length*m)=(s.xs.set k ds).flatten:=by
   rw [qY];exact AL hs.2.2.1 hk hd htk
  refine ⟨hB,c,hc,hsz,Hv h hi G ⟨?_,?_⟩ (λ g2 c2 h8=>?_) (λ g2 c2 h8 h9=>?_) λ g2 h8=>.inl h8⟩
  ·show World.ownsRow _ B E m s.u (s.xs.set k ds).length (s.xs.set k ds).flatten;rw [hu,hv];refine ⟨eQ hitem,.inr ⟨g,cap,_,by rw [qY],hB,hnew,by rw [qY];exact h4,h5,?_,htk2⟩⟩;have hcl:c.toList.length=c.size:=by simp
   simp only [z9,qv,zf,xW,hcl,hd];rw [h6] at hsz ⊢;omega
  ·show RdyK E m B _ s.v (s.xs.set k ds);refine ⟨by rw [qY];exact hs.2.1,hitem,λ g2 h8=>?_⟩;rw [hg] at h8;injection h8 with h8;subst h8;exact ⟨hB,_,hnew,htk2⟩
  ·rw [setRow_other _ _ _ _ (λ e=>by subst e;rw [hc] at h8;injection h8 with h8;injection h8 with _ h8 _;exact hHE h8.symm)];exact h8
  ·rw [setRow_other _ _ _ _ (λ e=>h8 (.inl (by rw [e];exact hg)))];exact h9
theorem NN {vr v':Yn}{L:List Slt}{B i:Nat}{s:Slt}{cs ds:Yl}(hHE:H≠E)(h:(HkA H E m vr L).p B cs w)(hi:L[i]?=some s)(hown:w'.ownsRow B E m v' (s.ys.length+1) (s.ys.flatten++ds))(hg:w.grownBy w' s.u.ownBlock)
  (hb:v'.ownBlock=s.u.ownBlock∨(v'.ownBlock=some w.heap.size∧w.grownBy w' none)) (hpre:s.u.ownBlock=s.v.ownBlock→s.xs <+: s.ys) (hyl:∀ y∈s.ys,y.length=m):(HkA H E m vr (L.set i { s with u:=v',ys:=s.ys++[ds] })).p B cs w':=by
 have hs:=h.2.2.1 s (qa hi);have hlt:∀ (g:Nat) (c:Array Value) (T:TypeId),w.heap[g]?=some (Obj.cells c T (0,0))→g<w.heap.size:=λ g c T h=>(Array.getElem?_eq_some_iff.1 h).1;refine Hv h hi G ⟨by simpa using hown,?_⟩ (λ g c h8=>?_) (λ g c h8 h9=>?_) λ g h8=>?_
 ·refine ⟨hs.2.1,hs.2.2.1,λ g hgv=>?_⟩;obtain ⟨h1,c,h2,h3⟩:=hs.2.2.2 g hgv;by_cases e:s.u.ownBlock=some g
  ·rcases hb with hb|⟨hb,hgn⟩
   ·rcases hown.2 with ⟨e1,_⟩|⟨g',cap,cur,e1,h4,h5,h6,h7,h10,h11⟩
    ·rw [e1,e] at hb;cases hb
    ·have:g'=g:=by
      have:v'.ownBlock=some g':=by rw [e1];rfl
      rw [hb,e] at this;injection this with this;exact this.symm
     subst this;refine ⟨h1,cur,h5,?_⟩;obtain ⟨t,ht⟩:=hpre (e.trans hgv.symm);have hle:s.xs.length≤s.ys.length:=by rw [← ht];simp
     have hle2:s.xs.length*m≤(s.ys.length+1)*m:=qK m zo;have h12:=qq (List.take (s.xs.length*m)) h11;rw [je,xo hle2] at h12;show cur.toList.take (s.xs.length*m)=s.xs.flatten;rw [h12,← ht,jn,qQ,← eQ hs.2.2.1,kn]
   ·exact ⟨h1,c,(hgn.block g (hlt _ _ _ h2) (by simp)).trans h2,h3⟩
  ·exact ⟨h1,c,(hg.block g (hlt _ _ _ h2) (λ e2=>e e2.symm)).trans h2,h3⟩
 ·refine (hg.block g (hlt _ _ _ h8) (λ e=>?_)).trans h8;obtain ⟨_,c2,h9⟩:=hs.lt (g:=g) (.inr e.symm);rw [h8] at h9;injection h9 with h9;injection h9 with _ h9 _;exact hHE h9
 ·exact (hg.block g (hlt _ _ _ h9) (λ e=>h8 (.inr e.symm))).trans h9
 ·rcases h8 with h8|h8
  ·exact .inl (.inl h8)
  ·rcases hb with hb|⟨hb,_⟩
   ·exact .inl (.inr (hb.symm.trans h8))
   ·have h8':v'.ownBlock=some g:=h8;rw [hb] at h8';injection h8' with h8';exact .inr (xC h8')
theorem wA:∀ {L:List Slt}{i:Nat}{s:Slt},L[i]?=some s→∀ z,(L.set i { s with z:=z }).flatMap Slt.cells=(L.flatMap Slt.cells).set (3*i+1) z
 | x::L,0,s,h,z=>by
  simp at h;subst h
  rfl
 | x::L,i+1,s,h,z=>by
  simp only [ju,xi];rw [wA (by simpa using h) z,show 3*(i+1)+1=(3*i+1)+3 by omega]
  rfl
theorem NX {L:List Slt}:(L.flatMap Slt.cells).length=L.length*3:=by
 induction L with
 | nil=>rfl
 | cons x L ih=>rw [xi,qv,ih,zi];show 3+_=_;omega
theorem Hw {L:List Slt}{B i g cap:Nat}{s:Slt}(hHE:H≠E)(z:Yn)(h:(HkA H E m vr L).p B cs w)(hi:L[i]?=some s)(hvr:vr=.slice (some ⟨g,0,none⟩) L.length cap):
  B≤g∧∃ c:Array Value,w.heap[g]?=some (Obj.cells c H (0,0))∧i*3+1<c.size∧(HkA H E m vr (L.set i { s with z:=z })).p B cs (w.setRow g (c.setIfInBounds (i*3+1) z)):=by
 obtain ⟨h1,h2,h3,h4⟩:=h;have hlt:i<L.length:=(List.getElem?_eq_some_iff.1 hi).1;rcases h2.2 with ⟨e,_⟩|⟨g',cap',cur,e,q2,q3,q4,q5,q6,q7⟩
 ·rw [hvr] at e;cases e
 ·rw [hvr] at e;injection e with e1 e2 e3;injection e1 with e1;injection e1 with e1;subst e1;have hsz:i*3+1<cur.size:=by
   rw [q6];have:L.length*3≤cap'*3:=qK 3 q4;omega
  have hnew:(w.setRow g (cur.setIfInBounds (i*3+1) z)).heap[g]?=some (Obj.cells (cur.setIfInBounds (i*3+1) z) H (0,0)):=setRow_heap w g _ _ _ _ q3;refine ⟨q2,cur,q3,hsz,h1,?_,λ t ht=>?_,λ j k t1 t2 hj hk hne g2 hg hg'=>?_⟩
  ·rw [qY,wA hi];refine ⟨by rw [qY,NX],.inr ⟨g,cap',_,?_,q2,hnew,q4,q5,by simp [q6],?_⟩⟩
   ·rw [hvr,e3]
   ·rw [ji,vh,q7,show 3*i+1=i*3+1 by omega]
  ·have hkeep:∀ t':Slt,t'.ok E m B w→t'.ok E m B (w.setRow g (cur.setIfInBounds (i*3+1) z)):=λ t' ht'=>ht'.keep λ g2 c2 hg2 h8=>by
    rw [setRow_other _ _ _ _ (λ e=>by subst e;rw [q3] at h8;injection h8 with h8;injection h8 with _ h8 _;exact hHE h8)];exact h8
   rcases qB ht with ht|rfl
   ·exact hkeep t (h3 t ht)
   ·exact hkeep _ (h3 s (qa hi))
  ·have hsame:∀ (j:Nat) t,(L.set i { s with z:=z })[j]?=some t→∃ t0,L[j]?=some t0∧∀ g,t.has g→t0.has g:=λ j t hj=>by
    by_cases e:j=i
    ·subst e;rw [List.getElem?_set_self hlt] at hj;injection hj with hj;subst hj;exact ⟨s,hi,λ g h=>h⟩
    ·rw [List.getElem?_set_ne (λ e2=>e e2.symm)] at hj;exact ⟨t,hj,λ g h=>h⟩
   obtain ⟨t3,r1,r2⟩:=hsame j t1 hj;obtain ⟨t4,r3,r4⟩:=hsame k t2 hk;exact h4 j k t3 t4 r1 r3 hne g2 (r2 g2 hg) (r4 g2 hg')
end
def Slt.view (s:Slt):As:=cat [EqS s.v,EqS s.z,NumA .i64 (s.n:Nat)]
theorem so {B:Nat}{w:Yi}:∀ {L:List Slt},(∀ s∈L,s.v.oneCell'=true∧s.z.oneCell'=true)→(cat (L.map Slt.view)).p B (L.flatMap Slt.cells) w
 | [],_=>⟨[],rfl,.nil⟩
 | s::L,h=>by
  obtain ⟨ps,e,hp⟩:=so (B:=B) (w:=w) (L:=L) λ t ht=>h t (by simp [ht]);refine ⟨s.cells::ps,by rw [xi,e];rfl,.cons ?_ hp⟩;exact ⟨[[s.v],[s.z],[.int .i64 s.n]],rfl,.cons ⟨rfl,(h s (by simp)).1⟩ (.cons ⟨rfl,(h s (by simp)).2⟩ (.cons G .nil))⟩
abbrev OneK (M:List Slt):Prop:=∀ s∈M,s.v.oneCell'=true∧s.z.oneCell'=true
theorem tk {H E m:Nat}{L:List Slt}(h:OneK L):Wk (HkA H E m vr L).va (SlA H [] (L.map Slt.view)).va:=λ B v w ⟨cs,⟨e,h2,_⟩,hv⟩=>by
 subst e;have hv':v=vr:=hv;subst hv';refine ip (b:=B) (m:=3) B v w ⟨λ A hA=>?_,λ A hA T hT=>?_,L.flatMap Slt.cells,so h,?_⟩
 ·obtain ⟨s,_,rfl⟩:=qr.1 hA;rfl
 ·obtain ⟨s,_,rfl⟩:=qr.1 hA;cases (show T∈([]:List TypeId) from hT)
 ·rw [qd];exact h2
theorem Ku {H E m:Nat}{L:List Slt}:Wk (HkA H E m vr L).va (EqV vr):=λ B v w ⟨cs,⟨e,_⟩,hv⟩=>by
 subst e;exact hv
theorem om {L:List Slt}{i:Nat}{s:Slt}(h:L[i]?=some s):(L.map Slt.view)[i]?=some s.view:=by rw [List.getElem?_map,h];rfl
theorem sD {L:List Slt}:∀ A∈L.map Slt.view,A.n=3:=λ A hA=>by
 obtain ⟨s,_,rfl⟩:=qr.1 hA;rfl
structure MkP (A:Nat→As) (m:Nat):Prop where
 n:∀ k,(A k).n=m
 d:∀ k,(A k).deps=[]
 any:∀ k B B' w w' cs,(A k).p B cs w→(A k).p B' cs w'
def isMk (A:Nat→As)(k:Nat)(ds:List Value):Prop:=∃ B w,(A k).p B ds w
theorem MkP.len {A:Nat→As}{m k:Nat}(h:MkP A m){ds:Yl}(hd:isMk A k ds):ds.length=m:=by
 obtain ⟨B,w,hd⟩:=hd;rw [(A k).len _ _ _ hd,h.n]
theorem MkP.cat (h:MkP A m){B:Nat}{w:Yi}:∀ {xs:Yx},(∀ x∈xs,isMk A k x)→(cat (List.replicate xs.length (A k))).p B xs.flatten w
 | [],_=>⟨[],rfl,.nil⟩
 | x::xs,hx=>by
  obtain ⟨ps,e,hp⟩:=h.cat (B:=B) (w:=w) (xs:=xs) λ y hy=>hx y (by simp [hy]);obtain ⟨B',w',h1⟩:=hx x (by simp);refine ⟨x::ps,by rw [za,za,e],?_⟩;rw [zi,vL];exact .cons (h.any _ _ _ _ _ _ h1) hp
theorem Bx {A:Nat→As}{E m k B:Nat}{xs:Yx}(hA:MkP A m)(h:RdyK E m B w v xs)(hx:∀ x∈xs,isMk A k x):(SlA E [] (List.replicate xs.length (A k))).va.p B v w:=by
 have hdep:∀ A'∈List.replicate xs.length (A k),∀ T∈A'.deps,T∈([]:List TypeId):=λ A' h1 T hT=>by
  rw [(xN.1 h1).2,hA.d] at hT;cases hT
 rcases h.1 with ⟨rfl,e⟩|⟨g,cap,rfl,h1,h2⟩
 ·refine ⟨[.slice none 0 0],⟨hdep,none,0,xs.flatten,by rw [ze,e],by rw [ze,e];exact qj _,zr _,hA.cat hx,λ h=>by rw [ze,e] at h;omega⟩,rfl⟩
 ·obtain ⟨_,c,h3,h4⟩:=h.2.2 g rfl;refine ⟨[.slice (some ⟨g,0,none⟩) xs.length cap],⟨hdep,_,cap,xs.flatten,by rw [ze],by rw [ze];exact h1,h2,hA.cat hx,λ _=>⟨g,0,rfl,(Array.getElem?_eq_some_iff.1 h3).1,.inr ⟨_,_,h3⟩,λ j u hu=>?_⟩⟩,rfl⟩;rw [cell_of_row w g (0+j) c E _ h3,qV];rw [← h4,List.getElem?_take] at hu;split at hu
  ·simpa using hu
  ·cases hu
theorem uA {E m B:Nat}{ys:Yx}(hy:∀ y∈ys,y.length=m)(h:w.ownsRow B E m v ys.length ys.flatten):RdyK E m B w v ys:=by
 rcases h.2 with ⟨rfl,e⟩|⟨g,cap,cur,rfl,h1,h2,h3,h4,h5,h6⟩
 ·exact ⟨.inl ⟨rfl,e⟩,hy,λ g hg=>by cases hg⟩
 ·refine ⟨.inr ⟨g,cap,rfl,h3,h4⟩,hy,λ g' hg=>?_⟩;have:g=g':=by simpa [Value.ownBlock] using hg
  subst this;exact ⟨h1,cur,h2,h6⟩
section
open Rg
variable {P:Program}{Q:Exit→Act→World→Prop}{B N:Nat}{w0:Bs}{Γ:List (Nat × VA)}{Λ:List Lc}{a:Act}{w:World}{ops:Array Oper}{i:Nat}{K:Act→World→Prop}
theorem JD {p d g k n sx:Nat}{ag:Bool}{E ty T T':Yh}{A0 A1:As}{ds:Yl}(src:Ya)(kp kd e:Nat)(ho:ops[i]?=some ⟨none,.store ty (.tmp p) (.tmp d),T',ps,af,none⟩)(h:St B w0 N Γ Λ a w)
  (hp:Γ[kp]?=some (p,EqV (.pointer (some ⟨g,k,none⟩)))) (hd:Γ[kd]?=some (d,EqV v)) (hv1:∀ c∈ds,c.oneCell'=true) (hvc:v.cells=ds.toArray) (hdl:ds.length=n) (ht:Ty P ty n ag) (hl:Λ[e]?=some ⟨sx,T,H,A0⟩) (hTE:(T != E)=true) (hrm:fC w0 B E)
  (hsrc:src.all (λ k=>match Γ[k]? with|some y => !y.2.deps.contains E|none=>false)=true) (hΛ:Λ.zipIdx.all (λ x=>x.2==e || (x.1.T != E && !x.1.A.deps.contains E))=true)
  (htr:∀ cs,A0.p B cs w→B≤g∧∃ c:Array Value,w.heap[g]?=some (.cells c E (0,0))∧k+n≤c.size∧A1.p B cs (w.setRow g (c.toList.take k++ds++c.toList.drop (k+n)).toArray))
  (hK:∀ w',St B w0 N (src.filterMap λ k=>Γ[k]?) (Λ.set e ⟨sx,T,H,A1⟩) a w'→K (a.put none undef) w'):wpOp P ops Q i K a w:=by
 have e1:a.eval (.tmp p)=.pointer (some ⟨g,k,none⟩):=h.vals _ (qa hp);have e2:a.eval (.tmp d)=v:=h.vals _ (qa hd);obtain ⟨g0,cs0,q1,q2,q3,q4⟩:=h.locs _ (qa hl);obtain ⟨hB,c,hc,hkc,_⟩:=htr cs0 q4;have hrun:=bW ht w g k E c v ds hvc hdl hkc hv1 hc;unfold wpOp;simp only [ho,Region.wanted,if_true];refine .inl (wp_skip' (w':=w.setRow g (c.toList.take k++ds++c.toList.drop (k+n)).toArray) ?_ (hK _ (h.turn src e rW (λ g' e=>?_) hrm hl hTE hsrc hΛ λ cs hp=>?_)))
 ·simp [execOp,e1,e2,Instr.storeAt,Instr.sureAddr,hrun]
 ·injection e with e;subst e;exact ⟨hB,_,_,hc⟩
 ·obtain ⟨_,c',hc',_,h5⟩:=htr cs hp;rw [hc] at hc';injection hc' with hc';injection hc' with hc';subst hc';exact h5
theorem St.pinV {A:As}(h:St B w0 N Γ Λ a w)(k:Nat)(hm:Γ[k]?=some (s,A.va)):∃ v ds,A.p B ds w∧v.cells=ds.toArray∧(∀ c∈ds,c.oneCell'=true)∧St B w0 N (Γ.set k (s,EqV v)) Λ a w:=by
 obtain ⟨ds,h1,h2⟩:=h.vals _ (qa hm);exact ⟨a.eval (.tmp s),ds,h1,by rw [show a.eval (.tmp s)=cN A.ag ds from h2];exact A.cells_shape h1,A.one _ _ _ h1,h.lo,h.defers,h.size,h.base,λ y hy=>by
  rcases qB hy with hy|rfl
  ·exact h.vals y hy
  ·exact rfl,h.locs,h.dis⟩
end
structure BkRest where
 n:Nat
 vn:Value
 N:List Slt
 vy:Value
 R:List Slt
 ve:Value
 M:List Slt
abbrev nuA (X:BkRest):As:=HkA 141 3 1 X.vn X.N
abbrev ryA (X:BkRest):As:=HkA 168 124 8 X.vy X.R
abbrev elA (X:BkRest):As:=HkA 135 76 9 X.ve X.M
def BqA (X:BkRest)(vr:Value)(L:List Slot):As:=cat [NumA .i64 (X.n:Nat),HbA vr L,nuA X,EqS (.slice none 0 0),EqS (.slice none 0 0),EqS (.slice none 0 0),EqS (.slice none 0 0),EqS (.slice none 0 0),ryA X,elA X,EqS (.slice none 0 0),EqS (.slice none 0 0),EqS (.slice none 0 0),EqS (.slice none 0 0),EqS (.slice none 0 0),EqS (.slice none 0 0),EqS (.slice none 0 0)]
theorem su {X X':BkRest}{vr vr':Yn}(h:(BqA X vr L).p B cs w)(hn:X'.n=X.n)(f1:∀ c,(HbA vr L).p B c w→(HbA vr' L').p B c w')(f2:∀ c,(nuA X).p B c w→(nuA X').p B c w')(f3:∀ c,(ryA X).p B c w→(ryA X').p B c w')(f4:∀ c,(elA X).p B c w→(elA X').p B c w'):(BqA X' vr' L').p B cs w':=by
 obtain ⟨ps,e,hp⟩:=h;refine ⟨ps,e,?_⟩;cases hp with
 | cons h1 hp=>cases hp with
  | cons h2 hp=>cases hp with
   | cons h3 hp =>
    refine .cons (by rw [hn];exact h1) (.cons (f1 _ h2) (.cons (f2 _ h3) ?_))
    iterate 5 (cases hp;rename_i h3 hp;refine .cons h3 ?_)
    cases hp;rename_i h3 hp;refine .cons (f3 _ h3) ?_;cases hp;rename_i h3 hp;refine .cons (f4 _ h3) ?_
    iterate 7 (cases hp;rename_i h3 hp;refine .cons h3 ?_)
    cases hp;exact .nil
theorem cS (h:(BqA X vr L).p B cs w):(∃ c,(HbA vr L).p B c w)∧(∃ c,(nuA X).p B c w)∧(∃ c,(ryA X).p B c w)∧(∃ c,(elA X).p B c w):=by
 obtain ⟨ps,e,hp⟩:=h;cases hp with
 | cons h1 hp=>cases hp with
  | cons h2 hp=>cases hp with
   | cons h3 hp =>
    iterate 5 (cases hp;rename_i _ hp)
    cases hp;rename_i h4 hp;cases hp;rename_i h5 hp;exact ⟨⟨_,h2⟩,⟨_,h3⟩,⟨_,h4⟩,⟨_,h5⟩⟩
theorem As.kwr {A:As}{B g T:Nat}(h:A.p B cs w)(hgc:w.heap[g]?=some (.cells c T (0,0)))(hT:T ∉ A.deps)(hB:B≤g):A.p B cs (w.setRow g c'):=A.wr _ _ _ _ _ _ _ _ hgc hT hB (Wr.setRow w g c') h
theorem HY {B g T:Nat}(h:(BqA X vr L).p B cs w)(hgc:w.heap[g]?=some (.cells c T (0,0)))(hT:T ∉ [141,3,168,124,135,76])(hB:B≤g)(f1:∀ c0,(HbA vr L).p B c0 w→(HbA vr L').p B c0 (w.setRow g c')):(BqA X vr L').p B cs (w.setRow g c'):=by
 simp only [qt,zw,or_false,not_or] at hT;have k:∀ {H E m:Nat}{v:Value}{M:List Slt},T≠H→T≠E→∀ c0,(HkA H E m v M).p B c0 w→(HkA H E m v M).p B c0 (w.setRow g c'):=λ {H E m v M} h1 h2 c0 hp=>As.kwr hp hgc (show T ∉ [H,E] by simp [h1,h2]) hB;exact su h G f1 (k hT.1 hT.2.1) (k hT.2.2.1 hT.2.2.2.1) (k hT.2.2.2.2.1 hT.2.2.2.2.2)
theorem OO {X:BkRest}{L L':List Slot}{B T:Nat}{row:Yt}(h:(BqA X vr L).p B cs w)(hg:w.grownBy w' row)(hr:gF w B T row)(hT:T ∉ [141,3,168,124,135,76])(f1:∀ c0,(HbA vr L).p B c0 w→(HbA vr L').p B c0 w'):(BqA X vr L').p B cs w':=by
 simp only [qt,zw,or_false,not_or] at hT;have k:∀ {H E m:Nat}{v:Value}{M:List Slt},T≠H→T≠E→∀ c0,(HkA H E m v M).p B c0 w→(HkA H E m v M).p B c0 w':=λ {H E m v M} h1 h2 c0 hp=>As.grown hp hg hr (qj _) (show T ∉ [H,E] by simp [h1,h2]);exact su h G f1 (k hT.1 hT.2.1) (k hT.2.2.1 hT.2.2.2.1) (k hT.2.2.2.2.1 hT.2.2.2.2.2)
section
open Rg
variable {P:Program}{Q:Exit→Act→World→Prop}{R:Rg}{B i:Nat}{w0:Bs}
theorem Kx {s:Slot}(hx:Has R B w0 i x (EqS s.v).va)(hl:LocH R i q 60 ptrH (BqA X vr L))(hs:s∈L)(ok:okL s.xs):Has R B w0 i x (MgA s.xs).va:=λ a w av=>by
 obtain ⟨g,cs,_,_,_,h⟩:=hl.ok av;obtain ⟨c,h⟩:=(cS h).1;rw [mX (hx a w av)];exact Bw (h.2.2.1 s hs).2 ok
theorem pq {s:Slot}(hx:Has R B w0 i x (EqS s.v).va)(hl:Has R B w0 i y (ElP T (BqA X vr L)))(hs:s∈L)(ok:okL s.xs):Has R B w0 i x (MgA s.xs).va:=λ a w av=>by
 obtain ⟨b,o,cs,_,_,_,h,_⟩:=hl a w av;obtain ⟨c,h⟩:=(cS h).1;rw [mX (hx a w av)];exact Bw (h.2.2.1 s hs).2 ok
theorem pt {s:Slot}(hx:Has R B w0 i x (EqS s.z).va)(hz:s.z=s.u)(hl:Has R B w0 i y (ElP T (BqA X vr L)))(hs:s∈L)(ok:okL s.ys):Has R B w0 i x (MgA s.ys).va:=λ a w av=>by
 obtain ⟨b,o,cs,_,_,_,h,_⟩:=hl a w av;obtain ⟨c,h⟩:=(cS h).1;rw [mX (hx a w av),hz];exact Bw (BW (h.2.2.1 s hs).1) ok
end
theorem Lz {B i k g cap:Nat}(hn:∀ s∈L,s.new)(hi:L[i]?=some s)(hk:k<s.xs.length)(hv:s.v=.slice (some ⟨g,0,none⟩) s.xs.length cap)(h:(BqA X vr (fl L i k)).p B cs w):
  B≤g∧∃ c:Array Value,w.heap[g]?=some (Obj.cells c U32 (0,0))∧k*1<c.size∧(BqA X vr (fl L i (k+1))).p B cs (w.setRow g (c.setIfInBounds (k*1) (.int .u32 (mkN s.n:Nat)))):=by
 obtain ⟨c0,h0⟩:=(cS h).1;have hs:=hn s (qa hi);have key:∀ c1,(HbA vr (fl L i k)).p B c1 w→B≤g∧∃ c:Array Value,w.heap[g]?=some (Obj.cells c U32 (0,0))∧k<c.size∧(HbA vr (fl L i (k+1))).p B c1 (w.setRow g (c.setIfInBounds k (lv (mkN s.n)))):=λ c1 h1=>by
  have:=Kv (m:=mkN s.n) (k:=k) (g:=g) (cap:=cap) h1 (FV hi) hs.uv rfl (by rw [lw (xc hk)];exact hv) (by rw [lw (xc hk)];exact hk);rwa [KY hi hk] at this
 obtain ⟨h2,c,h3,h4,h5⟩:=key c0 h0;rw [z8];refine ⟨h2,c,h3,h4,HY h h3 zd h2 (λ c1 h6=>?_)⟩;obtain ⟨_,c',h7,_,h8⟩:=key c1 h6;rw [h3] at h7;injection h7 with h7;injection h7 with h7;subst h7;exact h8
theorem tN {B N:Nat}(h:St B w0 N Γ Λ a w)(k:Nat)(hm:Λ[k]?=some ⟨s,T,H,BqA X vr M⟩):RowV vr M.length∧∀ t∈M,RowV t.u t.ys.length∧RowV t.v t.xs.length:=by
 obtain ⟨g,cs,_,_,_,hp⟩:=h.locs _ (qa hm);obtain ⟨c,h1,h2,h3,_⟩:=(cS hp).1;exact ⟨(de h2).2,λ t ht=>⟨(de (h3 t ht).1).2,(h3 t ht).2.1⟩⟩
theorem ON {B N:Nat}(h:St B w0 N Γ Λ a w)(k:Nat)(hm:Λ[k]?=some ⟨s,T,H,BqA X vr M⟩)(hz:∀ t∈M,t.z.oneCell'=true∨t.z=t.u):One1 M:=λ t ht=>by
 obtain ⟨h1,h2⟩:=(tN h k hm).2 t ht;refine ⟨h2.one,?_⟩;rcases hz t ht with e|e
 ·exact e
 ·rw [e];exact h1.one
theorem OP {X:BkRest}{vr v':Yn}{M:List Slot}{B i k:Nat}{s:Slot}{u:Yn}(hf:s.full)(hi:M[i]?=some (s.ext u k))(h:(BqA X vr M).p B cs w):
  w.ownsRow B U32 1 u (s.xs.length+k) ((List.replicate (s.xs.length+k) (mkN s.n)).map lv)∧∀ v' w' ds,ds=[lv (mkN s.n)]→w'.ownsRow B U32 1 v' (s.xs.length+k+1) ((List.replicate (s.xs.length+k) (mkN s.n)).map lv++ds)→w.grownBy w' u.ownBlock→(v'.ownBlock=u.ownBlock∨(v'.ownBlock=some w.heap.size∧w.grownBy w' none))→(BqA X vr (M.set i (s.ext v' (k+1)))).p B cs w':=by
 have hlen:(List.replicate (s.xs.length+k) (mkN s.n)).length=s.xs.length+k:=ze;obtain ⟨c0,h0⟩:=(cS h).1;have hown0:w.ownsRow B U32 1 u (s.xs.length+k) ((List.replicate (s.xs.length+k) (mkN s.n)).map lv):=by
  have:=(h0.2.2.1 _ (qa hi)).1;have e:(s.ext u k).ys.length=s.xs.length+k:=hlen;rw [e] at this;exact this
 refine ⟨hown0,λ v' w' ds hds hown hg hb=>?_⟩;subst hds;refine OO h hg (fb hown0) zd (λ c hc=>?_);have:=NQ (v':=v') (m:=mkN s.n) hc hi (by show World.ownsRow w' B U32 1 v' ((List.replicate (s.xs.length+k) (mkN s.n)).length+1) _;rw [hlen];exact hown) hg hb λ _=>by
  show s.xs <+: List.replicate (s.xs.length+k) (mkN s.n);rw [hf.xm,ze];exact ⟨List.replicate k (mkN s.n),List.replicate_append_replicate⟩
 have e:({ s.ext u k with u:=v',ys:=(s.ext u k).ys++[mkN s.n] }:Slot)=s.ext v' (k+1):=by
  show Slot.mk s.v s.xs v' (List.replicate (s.xs.length+k) (mkN s.n)++[mkN s.n]) s.z s.n=Slot.mk s.v s.xs v' (List.replicate (s.xs.length+(k+1)) (mkN s.n)) s.z s.n;rw [← jf,jo]
 rw [e] at this;exact this
theorem OM {vr z:Yn}{B i g cap:Nat}(hi:M[i]?=some s)(hvr:vr=.slice (some ⟨g,0,none⟩) M.length cap)(h:(BqA X vr M).p B cs w):
  B≤g∧∃ c:Array Value,w.heap[g]?=some (Obj.cells c 137 (0,0))∧i*3+1<c.size∧(BqA X vr (M.set i { s with z:=z })).p B cs (w.setRow g (c.setIfInBounds (i*3+1) z)):=by
 obtain ⟨c0,h0⟩:=(cS h).1;obtain ⟨h2,c,h3,h4,h5⟩:=Hy z h0 hi hvr;refine ⟨h2,c,h3,h4,HY h h3 zd h2 (λ c1 h6=>?_)⟩;obtain ⟨_,c',h7,_,h8⟩:=Hy z h6 hi hvr;rw [h3] at h7;injection h7 with h7;injection h7 with h7;subst h7;exact h8
def GqA (X:BkRest)(vr:Value)(L:List Slot):As where
 n:=17
 ag:=true
 p B cs w:=∃ M,Gr L M L.length∧(BqA X vr M).p B cs w
 deps:=[137,U32,141,3,168,124,135,76]
 len:=λ B cs w ⟨M,_,h⟩=>(BqA X vr M).len B cs w h
 one:=λ B cs w ⟨M,_,h⟩=>(BqA X vr M).one B cs w h
 ag1:=λ h=>by cases h
 cg:=λ B cs w w' hg ⟨M,h1,h⟩=>⟨M,h1,(BqA X vr M).cg B cs w w' hg h⟩
 wr:=λ B cs w w' g c T fz h1 h2 h3 h4 ⟨M,h5,h⟩=>⟨M,h5,(BqA X vr M).wr B cs w w' g c T fz h1 h2 h3 h4 h⟩
theorem Qt (h:Gr L M L.length):WkA (BqA X vr M) (GqA X vr L):=⟨rfl,rfl,λ B cs w hp=>⟨M,h,hp⟩⟩
theorem Qr {B N:Nat}(h:St B w0 N Γ Λ a w)(k:Nat)(hm:Λ[k]?=some ⟨s,T,H,GqA X vr L⟩):∃ M,Gr L M L.length∧St B w0 N Γ (Λ.set k ⟨s,T,H,BqA X vr M⟩) a w:=by
 obtain ⟨g,cs,q1,q2,q3,M,hG,q4⟩:=h.locs _ (qa hm);obtain ⟨hk,he⟩:=List.getElem?_eq_some_iff.1 hm;have hs:∀ m∈Λ.set k ⟨s,T,H,BqA X vr M⟩,∃ m0∈Λ,m0.s=m.s:=λ m hm'=>by
  rcases qB hm' with hm' | rfl
  ·exact ⟨m,hm',rfl⟩
  ·exact ⟨_,qa hm,rfl⟩
 refine ⟨M,hG,h.lo,h.defers,h.size,h.base,h.vals,λ l hl=>?_,λ m1 hm1 m2 hm2 hne=>?_⟩
 ·rcases qB hl with hl|rfl
  ·exact h.locs l hl
  ·exact ⟨g,cs,q1,q2,q3,q4⟩
 ·obtain ⟨m3,r1,r2⟩:=hs m1 hm1;obtain ⟨m4,r3,r4⟩:=hs m2 hm2;rw [← r2,← r4] at hne ⊢;exact h.dis m3 r1 m4 r3 hne
theorem Ly {B N:Nat}(h:St B w0 N Γ Λ a w)(k:Nat)(hm:Γ[k]?=some (s,ElP T (BqA X vr M)))(hz:∀ t∈M,t.z=t.u):One1 M:=λ t ht=>by
 obtain ⟨b,o,cs,_,_,_,hp,_⟩:=h.vals _ (qa hm);obtain ⟨c,h1,h2,h3,_⟩:=(cS hp).1;refine ⟨(h3 t ht).2.1.one,?_⟩;rw [hz t ht];exact (de (h3 t ht).1).1
theorem L0 (X:BkRest)(vr:Yn)(L:List Slot)(hnew:∀ s∈L,s.new)(hl:L.length≤1000000):CK Tryz.prog 38 60 [60,137,138] (BqA X vr L) (BqA X vr (L.map λ s=>s.fil s.xs.length)) [] (Tu []):=by
 have h0:=KX hnew;refine CK.intro Tryz.func38 G zk nq zk (λ B g w0 a hrm U=>?_);have U:=zn [(0,EqV ((ptrH).f g)),] [⟨0,60,ptrH,BqA X vr L⟩] U;rw [← h0] at U;refine qb<|zg U6 [] UA Rd U (zE G ab) (zz Re RL λ a w U=>?_);refine aa<|ql ?_;have U:=St.sel U [0,1];refine wp_loop_ghost (λ n a w=>∃ i:Nat,n+i=L.length∧St B w0 35 [(0,EqV (ptrH.f g)),(2,In (i:Nat))] [⟨0,60,ptrH,BqA X vr (fl L i 0)⟩] a w) (L.length) ?_ ?_
 ·exact ⟨0,by omega,U⟩
 intro n a w hI;obtain ⟨i,hn,U⟩:=hI;have hwL:=Qu (i:=i) (k:=0) hnew (λ _ _=>zr _);refine qb<|qb<|zg U6 [] (.v 5 _::.adr 6 0 (.some 0) True::.adr 7 0 (.some 0) True::.adr 8 0 (.some (0+1)) True::(Wb 9)) RN U (zM 1 G (oc (ob_a G G (gK (lz0 0 G))) (oc (ob_a G G (gJ 1 G zk (lz0 0 G))) (oc (ob_a G G (dT 2 G zk trivial (lz0 0 G) dI)) (zL 3 0 1 G nC (zv G (bg xB (has_wk' (vq 4 G) (NO hwL))) (zv G (aN (vq 0 G) (vq 5 G)) o0))))))) (zz (Wa 0 2 11) RL λ a w U=>?_);refine zJ 2 U G (λ hb0=>?_) (λ hb0=>?_)
 ·have hi:i<L.length:=by simpa [D2] using hb0
  obtain ⟨s,hs⟩:∃ s,L[i]?=some s:=⟨_,List.getElem?_eq_getElem hi⟩;have hwf:=hnew s (qa hs);refine qk<|zt<|ql<|qb<|bS (sp:=[.adr 14 0 (.some 0) True,.adr 15 0 (.some 0) True,.adr 16 0 (.some (0+1)) True,.v 17 _,.v 18 _,.v 19 _,.v 20 _,.v 3 VT,.sto 0]) 7 2 0 8 OneC [.g 0,.g 1,.o 6] U (oc (ob_a G G (gK (lz0 0 G))) (oc (ob_a G G (gJ 0 G zk (lz0 0 G))) (oc (ob_a G G (dT 1 G zk trivial (lz0 0 G) dI)) (zL 2 0 1 G nC (zM 1 G (zv G (bB (m:=3) ⟨xB,by kernel_rfl⟩ Ap (has_wk' (vq 3 G) (NO hwL)) (vq 4 G) (sC (FV hs))) (zv G (ao (vq 5 G) nN) o0))))))) G zd zk zk (zz (Wa 0 2 20) RL λ a w U=>?_);rw [show List.range' 7 2=[7,8] from rfl];refine fJ (A:=s.view) 2 [0,1] G G U (Str.zero lW) G nN G zd G zk zk (λ a w U=>?_);refine bU ?_;have U:=zn Re RO U;refine zt<|zg UH [] WR WS U (zE G ab) (zz Rf RO λ a w U=>?_);refine aa<|ql ?_;have U:=St.sel U [0,1,2];refine wp_loop_ghost (λ n a w=>∃ k:Nat,n+k=s.xs.length∧St B w0 35 [(0,EqV (ptrH.f g)),(2,In (i:Nat)),(4,In (k:Nat))] [⟨0,60,ptrH,BqA X vr (fl L i k)⟩,⟨3,137,ptrH,s.view⟩] a w) (s.xs.length) ?_ ?_
  ·exact ⟨0,by omega,U⟩
  intro n a w hI;obtain ⟨k,hn2,U⟩:=hI;refine qb<|qb<|zg UH [] (.v 21 _::.adr 22 3 (.some 0) True::(Wb 23)) WU U (zM 2 G (zO 1 G eO (zL 1 1 0 G bb (zv G (aK qe (Kx (s:=s.fil k) (vq 2 G) (lz0 0 G) (qa (FV hs)) (D8 hwf.towf))) (zv G (aN (vq 0 G) (vq 3 G)) o0))))) (zz (Wf 0 2 4 25) RO λ a w U=>?_);refine zJ 3 U G (λ hb1=>?_) (λ hb1=>?_)
  ·have hk:k<s.xs.length:=by simpa [lw (show k≤s.xs.length by omega)] using hb1
   refine qk<|zt<|ql<|iE (sp:=[.adr 28 3 (.some 0) True,.v 29 _,.v 30 _,.adr 31 3 (.some 2) True,.v 32 _,.v 33 _,.v 34 VT,.sto 0]) [[],[0],[],[],[3],[3,4],[0,1,2,3,4,5],[0,1,2,3,4,5,6]] 6 2 0 7 OneC [.g 0,.g 1,.g 2,.o 1,.o 2,.o 5] ac U (zO 1 G eO (zL 0 1 0 G bb (zM 2 G (zO 1 G iJ (zL 3 1 2 G ty_3 (zQ G (Hk _ hwf.n1) (.o (vq 4 G)) o0)))))) G zd zd zk (fx zk) zk zk (zz (Wj 0 2 4 29 30 33) RO λ a w U=>?_);rw [show List.range' 6 2=[6,7] from rfl];obtain ⟨g1,cap1,hv1⟩:=hwf.rv.row hk;have U:=St.wkG U 3 rfl (show Wk (EqS s.v).va (EqV (.slice (some ⟨g1,0,none⟩) s.xs.length cap1)) from hv1▸rf);have U:=St.wkG U 5 rfl Id;rw [qy];refine mJ (m:=1) (k:=k) 3 4 G U ⟨qe,by kernel_rfl⟩ zd G G hk zd zk zk (λ a U=>?_);rw [qy];refine sY (A1:=BqA X vr (fl L i (k+1))) [1,2,3] 0 6 0 G U G G G G aO G zd (hrm _ zk) zk zk (λ cs hp=>Lz hnew hs hk hv1 hp) (λ w U=>?_);refine dC ?_;have U:=zn Rf [⟨0,60,ptrH,BqA X vr (fl L i (k+1))⟩,O 3 137 _] U;refine ak ?_;refine aa<|zg UH [] (W6 26 [.v 4 _]) U1 U (zM 2 G (zv G (aL (vq 0 G) ab (aW (by have:=hwf.lx;omega))) (zA 1 G o0))) (zz Rf RO λ a w U=>?_);refine aa ?_;have U:=St.sel U [0,1,2];exact ⟨n-1,by omega,k+1,by omega,U⟩
  ·have hk:k=s.xs.length:=by simp [lw (show k≤s.xs.length by omega)] at hb1;omega
   subst hk;refine qM<|ai<|ai<|az<|ak ?_;refine aa<|zg UH [] (W6 12 [.v 2 _]) Ui U (zM 1 G (zv G (aL (vq 0 G) ab (aW (by have:=hwf.lx;omega))) (zA 1 G o0))) (zz Re RO λ a w U=>?_);refine aa ?_;have U:=St.sel U [0,1];have U:=St.selL U [0];exact ⟨L.length-(i+1),by omega,i+1,by omega,(KZ hs hnew)▸U⟩
 ·have hi:i=L.length:=by simp [D2] at hb0;omega
  subst hi;rw [NY] at U;refine qM<|ai<|ai<|az<|dg<|ik U (zm 0 G) (zm 0 G) ?_;exact aP (rs:=[]) G U .nil zd
theorem KB (X:BkRest)(vr:Yn)(L:List Slot)(hfull:∀ s∈L,s.full)(hl:L.length≤1000000):CK Tryz.prog 54 60 [60,137,138] (BqA X vr L) (GqA X vr L) [] (Tu []):=by
 obtain ⟨it0,z0,hi0,hz0,hs0,hb0',hc0⟩:=Gx;refine CK.intro Tryz.func54 G zk nq zk (λ B g w0 a hrm U=>?_);have U:=zn [(0,EqV ((ptrH).f g)),] [⟨0,60,ptrH,BqA X vr L⟩] U;refine qb<|zg U6 [] UA Rd U (zE G ab) (zz Re RL λ a w U=>?_);refine aa<|ql ?_;have U:=St.sel U [0,1];refine wp_loop_ghost (λ n a w=>∃ (i:Nat) (M:List Slot),(n+i=L.length∧Gr L M i)∧St B w0 42 [(0,EqV (ptrH.f g)),(2,In (i:Nat))] [⟨0,60,ptrH,BqA X vr M⟩] a w) (L.length) ?_ ?_
 ·exact ⟨0,L,⟨by omega,gr_0⟩,U⟩
 intro n a w hI;obtain ⟨i,M,⟨hn,hG⟩,U⟩:=hI;have h1M:=ON U 0 rfl (gr_z hG hfull);refine qb<|qb<|zg U6 [] (.v 6 _::.adr 7 0 (.some 0) True::.adr 8 0 (.some 0) True::.adr 9 0 (.some (0+1)) True::(Wb 10)) RN U (zM 1 G (oc (ob_a G G (gK (lz0 0 G))) (oc (ob_a G G (gJ 1 G zk (lz0 0 G))) (oc (ob_a G G (dT 2 G zk trivial (lz0 0 G) dI)) (zL 3 0 1 G nC (zv G (bg xB (has_wk' (vq 4 G) (uV h1M))) (zv G (aN (vq 0 G) (vq 5 G)) o0))))))) (zz (Wa 0 2 12) RL λ a w U=>?_);refine zJ 2 U G (λ hb0=>?_) (λ hb0=>?_)
 ·have hi:i<L.length:=by have:=hG.1;simpa [this] using hb0
  obtain ⟨s,hs⟩:∃ s,L[i]?=some s:=⟨_,List.getElem?_eq_getElem hi⟩;have hf:=hfull s (qa hs);have hn1:=hf.n1;have hMi:=Qq hG hs;have hMlt:i<M.length:=by rw [hG.1];exact hi
  refine qk<|zt<|ql<|qb<|bS (sp:=[.adr 15 0 (.some 0) True,.adr 16 0 (.some 0) True,.adr 17 0 (.some (0+1)) True,.v 18 _,.v 19 _,.v 20 _,.v 21 _,.v 3 VT,.sto 0]) 7 2 0 8 OneC [.g 0,.g 1,.o 6] U (oc (ob_a G G (gK (lz0 0 G))) (oc (ob_a G G (gJ 0 G zk (lz0 0 G))) (oc (ob_a G G (dT 1 G zk trivial (lz0 0 G) dI)) (zL 2 0 1 G nC (zM 1 G (zv G (bB (m:=3) ⟨xB,by kernel_rfl⟩ Ap (has_wk' (vq 3 G) (uV h1M)) (vq 4 G) (sC hMi)) (zv G (ao (vq 5 G) nN) o0))))))) G zd zk zk (zz (Wa 0 2 21) RL λ a w U=>?_);rw [show List.range' 7 2=[7,8] from rfl];refine fJ (A:=s.view) 2 [0,1] G G U (Str.zero lW) G nN G zd G zk zk (λ a w U=>?_);refine bU ?_;have U:=zn Re RO U;refine zt<|zg UH [] [.adr 22 3 (.some 0) True,.v 23 _,.v 4 _] U1 U (zO 1 G eO (zL 0 1 0 G bb (zA 1 G o0))) (zz Rf RO ?_);refine ztA<|zsA<|zgA UF [] UY WZ (zE G ab) (zz (Wf 0 2 4 5) RO λ a w U=>?_);refine aa<|ql ?_;have U:=St.sel U [0,1,2,3];refine wp_loop_ghost (λ n a w=>∃ (k:Nat) (u:Value),n+k=70∧St B w0 42 [(0,EqV (ptrH.f g)),(2,In (i:Nat)),(4,EqV u),(5,In (k:Nat))] [⟨0,60,ptrH,BqA X vr (M.set i (s.ext u k))⟩,⟨3,137,ptrH,s.view⟩] a w) (70) ?_ ?_
  ·have U:=St.cvA (A':=BqA X vr (M.set i (s.ext s.v 0))) U 0 rfl (show BqA X vr M=_ by rw [Qx hf,ED hMi]);have U:=St.wkG U 2 rfl rf;exact ⟨0,s.v,by omega,U⟩
  intro n a w hI;obtain ⟨k,u,hn2,U⟩:=hI;refine qb<|qb<|zg UH [] (W6 24) Ra U (zM 3 G (zv G (aN (vq 0 G) ab) o0)) (zz (W8 0 2 4 5 25) RO λ a w U=>?_);refine zJ 4 U G (λ hb1=>?_) (λ hb1=>?_)
  ·have hk:k<70:=by have:=hb1;simp at this;omega
   refine qk<|zt<|ql<|bS (sp:=[.v 28 _,.adr 29 3 (.some 2) True,.v 30 _,.v 31 _,.v 32 _,.v 33 VT,.v 4 VT]) 5 2 99 9 OneC [.g 0,.g 1,.g 3,.o 0,.o 4] U (zM 2 G (zO 1 G iJ (zL 1 1 2 G ty_3 (zQ G (Hk _ hn1) (.o (vq 2 G)) (zv G (dF (l:=[_]) (xs:=[.tmp 31]) bc zk nq nq (okm hn1) (.o (vq 3 G)) G G) o0))))) G zd zk zk (zz (W8 0 2 5 28 32) RO λ a w U=>?_);rw [show List.range' 5 2=[5,6] from rfl];have U:=St.wkG U 4 rfl LX;rw [qy];refine ll (A1:=λ v'=>BqA X vr (M.set i (s.ext v' (k+1)))) (X:=NumA .u32 (mkN s.n:Nat)) (F:=λ ds=>ds=[lv (mkN s.n)]) [0,1,2] 3 4 0 rfl U rfl rfl (λ ds h=>h) rfl rfl rfl (hrm _ zk) qe hi0 hz0 hs0 hb0' hc0 k6 (n:=s.xs.length+k) (by have:=hf.lx;omega) (by have:=hf.lx;omega) zd zk zk zk zk (λ cs hp=>by have h:=OP (v':=undef) hf (by rw [List.getElem?_set_self hMlt]) hp;simp only [B8] at h;exact h) (λ v' w U=>?_);rw [qy];refine oS 0 G U G zd zk zk (λ a U=>?_);refine bU ?_;have U:=zn (W8 4 33 0 2 5) [⟨0,60,ptrH,BqA X vr (M.set i (s.ext v' (k+1)))⟩,O 3 137 _] U;refine ak ?_;refine aa<|zg UH [] (W6 26 [.v 5 _]) [.g 0,.g 2,.g 3,.o 2] U (zM 4 G (zv G (aL (vq 0 G) ab (aW zo)) (zA 1 G o0))) (zz (Wf 4 0 2 5) RO λ a w U=>?_);refine aa ?_;have U:=St.sel U [1,2,0,3];exact ⟨n-1,by omega,k+1,v',by omega,U⟩
  ·have hk:k=70:=by simp at hb1;omega
   subst hk;have hu:=((tN U 0 rfl).2 _ (List.mem_set hMlt _)).1;have hu1:=hu.one;have hu2:u.cells = #[u]:=hu.cell;refine qM<|ai<|ai<|az<|aa<|bS (sp:=[.adr 34 0 (.some 0) True,.adr 35 0 (.some 0) True,.adr 36 0 (.some (0+1)) True,.v 37 _,.v 38 _,.v 39 _,.v 40 VT,.v 41 VT,.sto 0]) 6 3 0 8 OneC [.g 0,.g 1,.o 3,.o 4,.o 5] U (oc (ob_a G G (gK (lz0 0 G))) (oc (ob_a G G (gJ 0 G zk (lz0 0 G))) (oc (ob_a G G (dT 1 G zk trivial (lz0 0 G) dI)) (zL 2 0 1 G nC (zM 1 G (zM 2 G o0)))))) G zd zk zk (zz (W8 0 2 37 38 39) RO λ a w U=>?_);rw [show List.range' 6 3=[6,7,8] from rfl];have U:=St.selL U [0];have U:=St.wkG U 2 rfl Kw;have hvr:=(tN U 0 rfl).1;obtain ⟨g1,cap1,hv1⟩:=hvr.row (show i<_ by rw [qY,hG.1];exact hi);have U:=St.cvG U 2 rfl (qq EqV hv1);rw [qy];refine mJ (m:=3) (k:=i) 2 3 G U ⟨xB,by kernel_rfl⟩ zd G G (by rw [qY,hG.1];exact hi) zd zk zk (λ a U=>?_);rw [qy];refine fK 0 G U iK G zd zk zk (λ a U=>?_);rw [qy];refine sY (A1:=BqA X vr ((M.set i (s.ext u 70)).set i { s.ext u 70 with z:=u })) [2,3] 0 6 0 G U G G hu1 hu2 bb G zd (hrm _ zk) zk zk (λ cs hp=>OM (by rw [List.getElem?_set_self hMlt]) hv1 hp) (λ w U=>?_);refine dC ?_;have U:=zn Re RL U;refine ak ?_;refine aa<|zg U6 [] (W6 13 [.v 2 _]) Ui U (zM 1 G (zv G (aL (vq 0 G) ab (aW zo)) (zA 1 G o0))) (zz Re RL λ a w U=>?_);refine aa ?_;have U:=St.sel U [0,1];exact ⟨L.length-(i+1),by omega,i+1,_,⟨by omega,KG hG hs⟩,(B8 (M:=M) (i:=i))▸U⟩
 ·have hi:i=L.length:=by have:=hG.1;simp [this] at hb0;omega
  subst hi;have U:=St.wkL (A':=GqA X vr L) U 0 rfl (Qt hG);refine qM<|ai<|ai<|az<|dg<|ik U (zm 0 G) (zm 0 G) ?_;exact aP (rs:=[]) G U .nil zd
theorem Ke (X:BkRest)(vr:Yn)(M:List Slot)(hdone:∀ t∈M,t.done)(hl:M.length≤1000000):Cn Tryz.prog 70 [ElP 60 (BqA X vr M)] (Bo true):=by
 refine Cn.intro Tryz.func70 G zk nq (zy [(0,ElP 60 (BqA X vr M))] λ B w0 a U=>?_);have h1M:=Ly U 0 rfl (λ t ht=>(hdone t ht).zu);refine qb<|zh UA Rd U (zE G aE) (zz Re [] ?_);refine ztA<|zsA<|zhA [.v 3 _] WS (zE G ab) (zz (Wa 0 2 3) [] λ a w U=>?_);refine aa<|ql ?_;have U:=St.sel U [0,2];refine wp_loop_ghost (λ n a w=>∃ (i:Nat),n+i=M.length∧St B w0 64 [(0,ElP 60 (BqA X vr M)),(3,In (i:Nat))] [] a w) (M.length) ?_ ?_
 ·exact ⟨0,by omega,U⟩
 intro n a w hI;obtain ⟨i,hn,U⟩:=hI;refine qb<|qb<|zh (WG 6) RN U (zM 1 G (zM 0 G (zv G (mD (vq 1 G)) (zv G (bK (vq 2 G) dI (Sub.part 1 G G)) (zv G (ao (vq 3 G) nC) (zv G (bg xB (has_wk' (vq 4 G) (uV h1M))) (zv G (aN (vq 0 G) (vq 5 G)) o0))))))) (zz (Wa 0 3 12) [] λ a w U=>?_);refine zJ 2 U G (λ hb0=>?_) (λ hb0=>?_)
 ·have hi:i<M.length:=by have:=hb0;simp at this;omega
  obtain ⟨t,ht⟩:∃ t,M[i]?=some t:=⟨_,List.getElem?_eq_getElem hi⟩;have hmem:=qa ht;have hd:=hdone t hmem;refine qk<|zt<|ql<|qb<|uY (sp:=[.v 15 _,.v 16 _,.v 17 _,.v 18 _,.v 19 _,.v 20 _,.v 21 _,.alc 0,.sto 0]) 7 2 4 [.g 0,.g 1,.o 6] U (zM 0 G (zv G (mD (vq 0 G)) (zv G (bK (vq 1 G) dI (Sub.part 1 G G)) (zv G (ao (vq 2 G) nC) (zM 1 G (zv G (bB (m:=3) ⟨xB,by kernel_rfl⟩ Ap (has_wk' (vq 3 G) (uV h1M)) (vq 4 G) (sC ht)) (zv G (ao (vq 5 G) nN) o0))))))) G zk zk (zz (Wa 0 3 21) [] λ a w U=>?_);rw [show List.range' 7 2=[7,8] from rfl];refine fJ (A:=t.view) 2 [0,1] G G U (Str.zero lW) G nN G zd G zk zk (λ a w U=>?_);refine bU ?_;have U:=zn UO RP U;refine zt<|qb<|zg U6 [] (.adr 22 4 (.some 1) True::(W6 23 (.adr 25 4 (.some 0) True::(Ww 26)))) (We [.o 7]) U (zO 0 G iK (zL 0 0 1 G bb (zv G (aK qe (pt (vq 1 G) hd.zu (gq 0 G) hmem (Dr hd))) (zO 0 G eO (zL 3 0 0 G bb (zv G (aK qe (pq (vq 4 G) (gq 0 G) hmem (Dt hd))) (zv G (aL (vq 5 G) ab (LZ hd.lx)) (zv G (ca (vq 2 G) (vq 6 G)) o0)))))))) (zz (Wa 0 3 29) RP λ a w U=>?_);refine zJ 2 U G (λ hb1=>?_) (λ hb1=>?_)
  ·exact absurd hb1 (by rw [pQ hd];simp)
  ·refine qk<|zt<|zg U6 [] UY WS U (zE G ab) (zz (Wa 0 3 5) RP λ a w U=>?_);refine aa<|ql ?_;have U:=St.sel U [0,1,2];refine wp_loop_ghost (λ n a w=>∃ (k:Nat),n+k=t.ys.length∧St B w0 64 [(0,ElP 60 (BqA X vr M)),(3,In (i:Nat)),(5,In (k:Nat))] [⟨4,137,ptrH,t.view⟩] a w) (t.ys.length) ?_ ?_
   ·exact ⟨0,by omega,U⟩
   intro n a w hI;obtain ⟨k,hn2,U⟩:=hI;refine qb<|qb<|zg U6 [] (.v 30 _::.adr 31 4 (.some 1) True::(Wb 32)) WU U (zM 2 G (zO 0 G iK (zL 1 0 1 G bb (zv G (aK qe (pt (vq 2 G) hd.zu (gq 0 G) hmem (Dr hd))) (zv G (aN (vq 0 G) (vq 3 G)) o0))))) (zz (Wf 0 3 5 34) RP λ a w U=>?_);refine zJ 3 U G (λ hb2=>?_) (λ hb2=>?_)
   ·have hk:k<t.ys.length:=by have:=hb2;simp at this;omega
    refine qk<|zt<|ql<|qb<|lp (anc:=[[],[0],[],[0,1,2],[0,1,2,3],[],[5],[0,1,2,3,4,5,6],[0,1,2,3,4,5,6,7],[0,1,2,3,4,5,6,7,8],[0,1,2,3,4,5,6,7,8,9],[0,1,2,3,4,5,6,7,8,9],[0,1,2,3,4,5,6,7,8,9,11],[0,1,2,3,4,5,6,7,8,9,11,12],[0,1,2,3,4,5,6,7,8,9,10,11,12,13],[0,1,2,3,4,5,6,7,8,9,10,11,12,13,14],[0,1,2,3,4,5,6,7,8,9,10,11,12,13,14,15],[0,1,2,3,4,5,6,7,8,9,10,11,12,13,14,15,16],[0,1,2,3,4,5,6,7,8,9,10,11,12,13,14,15],[0,1,2,3,4,5,6,7,8,9,10,11,12,13,14,15,16,17,18],[0,1,2,3,4,5,6,7,8,9,10,11,12,13,14,15,16,17,18,19],[0,1,2,3,4,5,6,7,8,9,10,11,12,13,14,15],[0,1,2,3,4,5,6,7,8,9,10,11,12,13,14,15,21],[0,1,2,3,4,5,6,7,8,9,10,11,12,13,14,15,16,17,18,19,20,21,22],[0,1,2,3,4,5,6,7,8,9,10,11,12,13,14,15,16,17,18,19,20,21,22,23],[0,1,2,3,4,5,6,7,8,9,10,11,12,13,14,15,16,17,18,19,20,21,22,23,24],[0,1,2,3,4,5,6,7,8,9,10,11,12,13,14,15,16,17,18,19,20,21,22,23,24,25]]) (sts:=[none]) (news:=[]) (sp:=((.adr 37 4 (.some 1) True:Sp)::(.v 38 _)::(.v 39 _)::(.v 40 _)::(.v 41 _)::(.adr 42 4 (.some 2) True)::(.v 43 _)::(.v 44 _)::(.v 45 _)::(.v 46 _)::(.f 47 _)::(.adr 48 4 (.some 0) (_=false))::(.f 49 _)::(.f 50 _)::(.f 51 _)::(.f 52 _)::(.adr 53 4 (.some 0) ((_=false)∧_=true))::(.v 54 (Wh ((_=false)∧_=true) _))::(.v 55 (Wh ((_=false)∧_=true) _))::(.v 56 (Wh ((_=false)∧_=true) _))::(.v 57 (Wh ((_=false)∧_=true) _))::(.adr 58 4 (.some 2) ((_=false)∧_=true))::(.v 59 (Wh ((_=false)∧_=true) _))::(.v 60 (Wh ((_=false)∧_=true) _))::(.v 61 (Wh ((_=false)∧_=true) _))::(.f 62 _)::(.v 63 _)::[])) [.g 0,.g 1,.g 2,.o 26] ac U (zO 0 G iK (zL 0 0 1 G bb (zM 2 G (zv G (bO ⟨qe,by kernel_rfl⟩ (pt (vq 1 G) hd.zu (gq 0 G) hmem (Dr hd)) (vq 2 G) hk) (zv G (ao (vq 3 G) aO) (zO 0 G iJ (zL 5 0 2 G ty_3 (zQ G (uR _ _ hd.n1) (.p (vq 4 G) (vq 6 G)) (zv G (dc (vq 7 G)) (zV 8 G (zB 9 G (λ hg=>aq (gq 2 G)) (zC 9 0 G eO (zB 9 G (λ hg=>aB 11 G zk hg (lz0 0 G) (Sub.part 0 G G) bb) (zB 9 G (λ hg=>aK qe (pq (ae (vq 12 G) hg) (gq 0 G) hmem (Dt hd))) (zB 9 G (λ hg=>aN (ae (vq 10 G) hg) (ae (vq 13 G) hg)) (zB 9 G (λ hg=>aq (ae (vq 14 G) hg)) (oc (gI G G G (vq 15 G) nq (λ hg=>fY (lz0 0 G) eO)) (oc (bT G G G (vq 15 G) nq (λ hg=>aB 16 G zk hg (lz0 0 G) (Sub.part 0 G G) bb)) (oc (bT G G G (vq 15 G) nq (λ hg=>aq (gq 2 G))) (oc (bT G G G (vq 15 G) nq (λ hg=>oJ ⟨qe,by kernel_rfl⟩ (pq (ae (vq 17 G) hg) (gq 0 G) hmem (Dt hd)) (ae (vq 18 G) hg) (by have:=hg;simp at this;omega))) (oc (bT G G G (vq 15 G) nq (λ hg=>ao (ae (vq 19 G) hg) aO)) (oc (gI G G G (vq 15 G) nq (λ hg=>fY (lz0 0 G) iJ)) (oc (bT G G G (vq 15 G) nq (λ hg=>aB 21 G zk hg (lz0 0 G) (Sub.part 2 G G) ty_3)) (oc (bT G G G (vq 15 G) nq (λ hg=>be (uR _ _ hd.n1) (.p (ae (vq 20 G) hg) (ae (vq 22 G) hg)))) (oc (bT G G G (vq 15 G) nq (λ hg=>dc (ae (vq 23 G) hg))) (zB 9 G (λ hg=>bv (ae (vq 15 G) hg) (fR (vq 24 G) hg)) (zv G (r_or (vq 9 G) (vq 25 G)) o0))))))))))))))))))))))))))) zk zk zk zk (zz (Wf 0 3 5 63) RP λ a w U=>?_);refine zJ 3 U G (λ hb3=>?_) (λ hb3=>?_)
    ·exact absurd (hb3.symm.trans (Kd hd hk)) zd
    ·refine qk<|ak ?_;refine aa<|zg U6 [] (W6 35 [.v 5 _]) U1 U (zM 2 G (zv G (aL (vq 0 G) ab (aW (by have:=hd.lx;have:=pQ hd;omega))) (zA 1 G o0))) (zz (Wa 0 3 5) RP λ a w U=>?_);refine aa ?_;have U:=St.sel U [0,1,2];exact ⟨n-1,by omega,k+1,by omega,U⟩
   ·have hk:k=t.ys.length:=by have:=hb2;simp at this;omega
    refine qM<|ai<|ai<|az<|ak ?_;refine aa<|zg U6 [] (W6 13 [.v 3 _]) Ui U (zM 1 G (zv G (aL (vq 0 G) ab (aW zo)) (zA 1 G o0))) (zz UO RP λ a w U=>?_);refine aa ?_;have U:=St.sel U [0,1];have U:=St.selL U [];exact ⟨M.length-(i+1),by omega,i+1,by omega,U⟩
 ·have hi:i=M.length:=by have:=hb0;simp at this;omega
  refine qM<|ai<|ai<|az<|zt<|zh UA Rd U (zE G aE) (zz Re [] λ a w U=>?_);exact aa<|qi<|am G U (zm 1 G)
theorem Be (A:Option Addr)(c:Nat)(w:Yi):Calls Tryz.prog 251 #[.slice A 0 c] w λ e w'=>e=.returned (.slice A 0 c)∧w=w':=by
 go_enter Tryz.func251,Tryz.ntmps251
 go_wp2
 go_loop [0] (λ v=>v=.slice A 0 c) (λ _=>0)
 case atStart=>rfl
 case round =>
  subst hrel
  go_wp2
  go_ret
  exact ⟨rfl,rfl⟩
theorem yk (b o c:Nat)(l:Ya)(w:Yi)(hc:∀ j (h:j<l.length),w.cell? ⟨b,o+j,none⟩=some (.int .u32 (l[j]:Nat)))(hm:l.length≤9223372036854775807)(hnc:l.length≤c) :
  Calls Tryz.prog 251 #[.slice (some ⟨b,o,none⟩) l.length c] w λ e w'=>e=.returned (.slice (some ⟨b,o,none⟩) (bx l).length c)∧w=w':=by
 obtain ⟨n,hn⟩:∃ n,n=l.length:=⟨_,rfl⟩;rw [← hn] at hm hnc ⊢;have HN:Hid (n=l.length):=hn;clear hn
 go_enter Tryz.func251,Tryz.ntmps251
 go_wp2
 go_loop [0] (λ v=>∃ k:Nat,k≤n∧v=.slice (some ⟨b,o,none⟩) k c∧bx (l.take k)=bx l) (λ v=>lenOf v)
 case atStart=>exact ⟨n,qj _,rfl,by rw [qG (xC HN.out.symm)]⟩
 case round =>
  obtain ⟨k,hk,rfl,ht⟩:=hrel;have HT:Hid (bx (l.take k)=bx l):=ht;clear ht;cases k with
  | zero =>
   go_wp2
   go_ret
   exact ⟨by rw [← HT.out];simp [bx],rfl⟩
  | succ k =>
   have hkl:k<l.length:=by rw [← HN.out];omega
   obtain ⟨x,hx⟩:∃ x,x=l[k]:=⟨_,rfl⟩;have hcell:=hc k hkl;rw [← hx] at hcell;clear hc;have HX:Hid (x=l[k]):=hx;clear hx;by_cases hz:x=0
   ·subst hz
    go_wp2
    go_round
    case rel=>exact ⟨k,by omega,rfl,by rw [← HT.out,nQ hkl HX.out.symm]⟩
    case measure=>simp [lenOf]
   ·have hz':((x:Int)==0)=false:=by simp;omega
    go_wp2
    go_ret
    refine ⟨?_,rfl⟩;rw [← HT.out,nP hkl (by rw [← HX.out];exact hz),zf,xo zo]
    rfl
theorem eE (hM:Fam M)(l:Ya):Cn Tryz.prog 251 [(M l).va] (M (bx l)).va:=by
 refine ⟨iQ Tryz.func251 zk zk,λ B w args hB ha=>?_⟩;obtain ⟨v,rfl,hv⟩:=ha.one;obtain ⟨A,c,rfl,hm,htk⟩:=hM.op _ _ _ _ hv;have hsh:∀ A',A'=A→(M (bx l)).va.p B (.slice A' (bx l).length c) w:=by
  rintro _ rfl;have:=htk (bx l).length;rwa [← iZ] at this
 by_cases h0:l.length=0
 ·have hl:l=[]:=xu h0;subst hl;refine (Be A c w).mono λ e w' ⟨he,hw⟩=>?_;subst hw;exact ⟨_,he,hsh A rfl,Grow.refl w⟩
 ·obtain ⟨b,o,rfl,h1,h2,h3⟩:=hm.at_ zo;refine (yk b o c l w h3 (by have:=hm.le;have:=hm.max;unfold maxLen at this;omega) hm.le).mono λ e w' ⟨he,hw⟩=>?_;subst hw;exact ⟨_,he,hsh _ rfl,Grow.refl w⟩
theorem cy (neg:Bool)(l:Ya):Cn Tryz.prog 231 [Bo neg,(MgA l).va] ((RIA (rsig neg l)).va):=by
 refine Cn.intro Tryz.func231 G zk nq (zy [(0,Bo neg),(1,(MgA l).va)] λ B w0 a U=>?_);refine qb<|zg [] Ue Uf We U (zY G (Str.zero (cI famA)) o0) (zz Ug Uh ?_);refine ztA<|zgA U4 [] (W6 5 [.v 1 _]) Ui (zM 1 G (zQ G (eE famA _) (.o (vq 0 G)) (zA 1 G o0))) (zz Ug Uh ?_);refine ztA<|zsA<|zgA U4 [] (Wb 7) U1 (zM 1 G (zv G (aK qe (vq 0 G)) (zv G (bC (vq 1 G) ab) o0))) (zz (Wa 0 1 9) Uh λ a w U=>?_);refine zJ 2 U G (λ hb0=>?_) (λ hb0=>?_)
 ·refine qb<|zg Uj [] Uk We U (zv G (aT (qs:=[]) (cI famA) .nil) (zS 0 G ap o0)) (zz Ug Uh λ a w U=>?_);refine aa<|qi<|aj ?_;refine aJ ?_ (au G U (zm 0 G) ap);exact fG (M:=MgA) hb0
 ·refine qk<|zt<|zg [some (3,_)] [] (Wb 11 [.sto 0]) [] U (zM 0 G (zM 1 G (zv G (aT (qs:=[(0,_),(1,_)]) (cI famA) (.cons ⟨rfl,vq 0 rfl,rfl⟩ (.cons ⟨rfl,vq 1 rfl,rfl⟩ .nil))) (zS 2 G ap o0)))) (zz [] Uh λ a w U=>?_);refine aa<|qi<|aJ ?_ (au G U (zm 0 G) ap);exact ii (M:=MgA) hb0
theorem yn (neg:Bool)(l:Ya):Cn Tryz.prog 231 [Bo neg,(MgN l).va] ((RIN (rsig neg l)).va):=by
 refine Cn.intro Tryz.func231 G zk nq (zy [(0,Bo neg),(1,(MgN l).va)] λ B w0 a U=>?_);refine qb<|zg [] Ue Uf We U (zY G (Str.zero (cI famN)) o0) (zz Ug Uh ?_);refine ztA<|zgA U4 [] (W6 5 [.v 1 _]) Ui (zM 1 G (zQ G (eE famN _) (.o (vq 0 G)) (zA 1 G o0))) (zz Ug Uh ?_);refine ztA<|zsA<|zgA U4 [] (Wb 7) U1 (zM 1 G (zv G (aK qe (tl (vq 0 G))) (zv G (bC (vq 1 G) ab) o0))) (zz (Wa 0 1 9) Uh λ a w U=>?_);refine zJ 2 U G (λ hb0=>?_) (λ hb0=>?_)
 ·refine qb<|zg Uj [] Uk We U (zv G (aT (qs:=[]) (cI famN) .nil) (zS 0 G ap o0)) (zz Ug Uh λ a w U=>?_);refine aa<|qi<|aj ?_;refine aJ ?_ (au G U (zm 0 G) ap);exact fG (M:=MgN) hb0
 ·refine qk<|zt<|zg [some (3,_)] [] (Wb 11 [.sto 0]) [] U (zM 0 G (zM 1 G (zv G (aT (qs:=[(0,_),(1,_)]) (cI famN) (.cons ⟨rfl,vq 0 rfl,rfl⟩ (.cons ⟨rfl,vq 1 rfl,rfl⟩ .nil))) (zS 2 G ap o0)))) (zz [] Uh λ a w U=>?_);refine aa<|qi<|aJ ?_ (au G U (zm 0 G) ap);exact ii (M:=MgN) hb0
def cmL (l m:List Nat):Int:=if l.length≠m.length then (if l.length<m.length then -1 else 1) else if val l<val m then -1 else if val m<val l then 1 else 0
theorem QQ {l m:Ya}(h:((l.length:Int) != (m.length:Int))=true)(h2:decide ((l.length:Int)<(m.length:Int))=true):(-1:Int)=cmL l m:=by
 have h':l.length≠m.length:=by simp at h;omega
 unfold cmL;rw [qD h',qD (by simp at h2;omega)]
theorem QP {l m:Ya}(h:((l.length:Int) != (m.length:Int))=true)(h2:decide ((l.length:Int)<(m.length:Int))=false):(1:Int)=cmL l m:=by
 have h':l.length≠m.length:=by simp at h;omega
 unfold cmL;rw [qD h',qA (by simp at h2;omega)]
theorem QO {l m:Ya}{j:Nat}(ha:okL l)(hl:l.length=m.length)(hj:j<l.length)(hd:l.drop (j+1)=m.drop (j+1))(h:decide (((l[j]:Nat):Int)<((m[j]'zo:Nat):Int))=true):(-1:Int)=cmL l m:=by
 have:=ua (a:=l) (b:=m) ha hj zo hd (by simpa using h);unfold cmL;rw [qA zo,qD this]
theorem QN {l m:Ya}{j:Nat}(hb:okL m)(hl:l.length=m.length)(hj:j<l.length)(hd:l.drop (j+1)=m.drop (j+1))(h:decide (((l[j]:Nat):Int)>((m[j]'zo:Nat):Int))=true):(1:Int)=cmL l m:=by
 have:=ua (a:=m) (b:=l) hb zo hj hd.symm (by simpa using h);unfold cmL;rw [qA zo,qA zo,qD this]
theorem QM {l m:Ya}(hd:l.drop 0=m.drop 0):(0:Int)=cmL l m:=by
 have:l=m:=by simpa using hd
 subst this;simp [cmL]
theorem rz (l m:Ya):Cn Tryz.prog 249 [(MgA l).va,(MgA m).va] (In (cmL l m)):=by
 refine Cn.intro Tryz.func249 G zk nq (zy [(0,(MgA l).va),(1,(MgA m).va)] λ B w0 a U=>?_);obtain ⟨ha,hla⟩:=U.mag 0 rfl;obtain ⟨hb,hlb⟩:=U.mag 1 rfl;refine qb<|zh WR WS U (zE G ab) (zz WT [] ?_);refine ztA<|zsA<|zhA (Wd 6) WU (zM 0 G (zv G (aK qe (vq 0 G)) (zM 1 G (zv G (aK qe (vq 2 G)) (zv G (ca (vq 1 G) (vq 3 G)) o0))))) (zz (Wf 0 1 4 10) [] λ a w U=>?_);refine zJ 3 U G (λ hb0=>?_) (λ hb0=>?_)
 ·refine qb<|qb<|zh (Wd 11) WU U (zM 0 G (zv G (aK qe (vq 0 G)) (zM 1 G (zv G (aK qe (vq 2 G)) (zv G (aN (vq 1 G) (vq 3 G)) o0))))) (zz (Wf 0 1 4 15) [] λ a w U=>?_);refine zJ 3 U G (λ hb1=>?_) (λ hb1=>?_)
  ·refine qb<|zh WR WS U (zE G ab) (zz WT [] λ a w U=>?_);refine aa<|qi<|aj ?_;refine aj ?_;refine aJ ?_ (am G U (zm 2 G));exact nu (QQ hb0 hb1)
  ·refine qk<|zt<|zh WR WS U (zE G ab) (zz WT [] λ a w U=>?_);refine aa<|qi<|aj ?_;refine aJ ?_ (am G U (zm 2 G));exact nu (QP hb0 hb1)
 ·have hl:l.length=m.length:=by simp at hb0;omega
  refine qk<|zt<|qb<|zh (Wb 16 [.v 5 _]) WV U (zM 0 G (zv G (aK qe (vq 0 G)) (zv G (cH (vq 1 G) ab (wi64 zo zo)) (zA 2 G o0)))) (zz WW [] λ a w U=>?_);refine aa<|ql ?_;have U:=St.sel U [0,1,3];refine wp_loop_ghost (λ n a w=>n≤l.length∧l.drop n=m.drop n∧St B w0 41 [(0,(MgA l).va),(1,(MgA m).va),(5,In ((n:Int)-1))] [] a w) (l.length) ?_ ?_
  ·exact ⟨qj _,by rw [xM,hl,xM],U⟩
  intro n a w hI;obtain ⟨hi,hd,U⟩:=hI;refine qb<|qb<|zh (W6 19) WX U (zM 2 G (zv G (dP (vq 0 G) ab) o0)) (zz (Wf 0 1 5 20) [] λ a w U=>?_);refine zJ 3 U G (λ hb2=>?_) (λ hb2=>?_)
  ·obtain ⟨j,rfl⟩:∃ j,n=j+1:=⟨n-1,by simp at hb2;omega⟩;rw [show ((j+1:Nat):Int)-1=(j:Int) from by omega] at U;refine qk<|zt<|ql<|qb<|qb<|zgd WY [] [] (Wo 23) (W7 [.o 8]) ac U (zM 0 G (zM 2 G (zv G (bO bc (vq 0 G) (vq 1 G) zo) (zv G (ao (vq 2 G) aO) (zM 1 G (zM 2 G (zv G (bO bc (vq 4 G) (vq 5 G) zo) (zv G (ao (vq 6 G) aO) (zv G (aN (vq 3 G) (vq 7 G)) o0))))))))) zk zk zk zk (zz (Wf 0 1 5 31) [] λ a w U=>?_);refine zJ 3 U G (λ hb3=>?_) (λ hb3=>?_)
   ·refine qb<|zh WR WZ U (zE G ab) (zz U0 [] λ a w U=>?_);refine aa<|qi<|aj ?_;refine aD ?_;refine aj ?_;refine aj ?_;refine aD ?_;refine aj ?_;refine aJ ?_ (am G U (zm 3 G));exact nu (QO ha hl zo hd hb3)
   ·refine qk<|zt<|zgd WY [] [] (Wo 32) (W7 [.o 8]) ac U (zM 0 G (zM 2 G (zv G (bO bc (vq 0 G) (vq 1 G) zo) (zv G (ao (vq 2 G) aO) (zM 1 G (zM 2 G (zv G (bO bc (vq 4 G) (vq 5 G) zo) (zv G (ao (vq 6 G) aO) (zv G (cL (vq 3 G) (vq 7 G)) o0))))))))) zk zk zk zk (zz (Wf 0 1 5 40) [] λ a w U=>?_);refine zJ 3 U G (λ hb4=>?_) (λ hb4=>?_)
    ·refine qb<|zh WR WZ U (zE G ab) (zz U0 [] λ a w U=>?_);refine aa<|qi<|aD ?_;refine aj ?_;refine aj ?_;refine aD ?_;refine aj ?_;refine aJ ?_ (am G U (zm 3 G));exact nu (QN hb hl zo hd hb4)
    ·refine qk<|ak ?_;refine aa<|zh (W6 21 [.v 5 _]) U1 U (zM 2 G (zv G (cH (vq 0 G) ab (wi64 zo zo)) (zA 1 G o0))) (zz (Wa 0 1 5) [] λ a w U=>?_);refine aa ?_;have U:=St.sel U [0,1,2];exact ⟨j,by omega,by omega,lN zo zo hd (by simp at hb3 hb4;omega),U⟩
  ·obtain rfl:n=0:=by simp at hb2;omega
   refine qM<|ai<|ai<|az<|zt<|zh WR U2 U (zE G ab) (zz U3 [] λ a w U=>?_);refine zN 0 U G G ?_;exact nu (QM hd)
theorem ur (x:RI):Cn Tryz.prog 224 [(RIA x).va] (In (if okRI x then 0 else 1)):=by
 refine Cn.intro Tryz.func224 G zk nq (zy [(0,(RIA x).va)] λ B w0 a U=>?_);have hk:=(l7 (U.vals _ (zm 0 rfl))).2;refine qb<|zg [] Uu Uv Uw U (zW 0 G (zE G ab)) (zz Ux Uy λ a w U=>?_);refine zt<|qb<|gl (sts:=[none]) (news:=[]) (sp:=((.adr 3 1 (.some 1) True:Sp)::(.v 4 _)::(.v 5 _)::(.v 6 _)::(.v 7 _)::(.adr 8 1 (.some 1) (_=false))::(.f 9 _)::(.f 10 _)::(.f 11 _)::(.f 12 _)::(.adr 13 1 (.some 1) ((_=false)∧_=true))::(.v 14 (Wh ((_=false)∧_=true) _))::(.adr 15 1 (.some 1) ((_=false)∧_=true))::(.v 16 (Wh ((_=false)∧_=true) _))::(.v 17 (Wh ((_=false)∧_=true) _))::(.v 18 (Wh ((_=false)∧_=true) _))::(.v 19 (Wh ((_=false)∧_=true) _))::(.v 20 (Wh ((_=false)∧_=true) _))::(.v 21 (Wh ((_=false)∧_=true) _))::(.f 22 _)::(.v 23 _)::(.v 24 _)::(.adr 25 1 (.some 1) (_=false))::(.f 26 _)::(.f 27 _)::(.f 28 _)::(.f 29 _)::(.adr 30 1 (.some 0) ((_=false)∧_=true))::(.v 31 (Wh ((_=false)∧_=true) _))::(.f 32 _)::(.v 33 _)::[])) [.g 0,.o 30] U (zO 0 G ar (zL 0 0 1 G bb (zv G (aK qe (vq 1 G)) (zv G (cL (vq 2 G) ab) (zV 3 G (zC 4 0 G ar (zB 4 G (λ hg=>aB 5 G zk hg (lz0 0 G) (Sub.part 1 G G) bb) (zB 4 G (λ hg=>aK qe (ae (vq 6 G) hg)) (zB 4 G (λ hg=>cL (ae (vq 7 G) hg) ab) (zB 4 G (λ hg=>aq (ae (vq 8 G) hg)) (oc (gI G G G (vq 9 G) nq (λ hg=>fY (lz0 0 G) ar)) (oc (bT G G G (vq 9 G) nq (λ hg=>aB 10 G zk hg (lz0 0 G) (Sub.part 1 G G) bb)) (oc (gI G G G (vq 9 G) nq (λ hg=>fY (lz0 0 G) ar)) (oc (bT G G G (vq 9 G) nq (λ hg=>aB 12 G zk hg (lz0 0 G) (Sub.part 1 G G) bb)) (oc (bT G G G (vq 9 G) nq (λ hg=>aK qe (ae (vq 13 G) hg))) (oc (bT G G G (vq 9 G) nq (λ hg=>cH (ae (vq 14 G) hg) ab (Ii (by have h:=hg.2;simp at h;omega) hk))) (oc (bT G G G (vq 9 G) nq (λ hg=>oJ bc (ae (vq 11 G) hg) (ae (vq 15 G) hg) (by have h:=hg.2;simp at h;omega))) (oc (bT G G G (vq 9 G) nq (λ hg=>ao (ae (vq 16 G) hg) aO)) (oc (bT G G G (vq 9 G) nq (λ hg=>bC (ae (vq 17 G) hg) (aF 0 G))) (zB 4 G (λ hg=>bv (ae (vq 9 G) hg) (fR (vq 18 G) hg)) (zv G (r_or (vq 4 G) (vq 19 G)) (zV 20 G (zC 21 0 G ar (zB 21 G (λ hg=>aB 22 G zk hg (lz0 0 G) (Sub.part 1 G G) bb) (zB 21 G (λ hg=>aK qe (ae (vq 23 G) hg)) (zB 21 G (λ hg=>bC (ae (vq 24 G) hg) ab) (zB 21 G (λ hg=>aq (ae (vq 25 G) hg)) (oc (gI G G G (vq 26 G) nq (λ hg=>fY (lz0 0 G) aY)) (oc (bT G G G (vq 26 G) nq (λ hg=>aB 27 G zk hg (lz0 0 G) (Sub.part 0 G G) ty_4)) (zB 21 G (λ hg=>bv (ae (vq 26 G) hg) (fR (vq 28 G) hg)) (zv G (r_or (vq 21 G) (vq 29 G)) o0))))))))))))))))))))))))))))))) (zz (Wc 2 33) Uy λ a w U=>?_);refine zJ 1 U G (λ hb0=>?_) (λ hb0=>?_)
 ·refine qb<|zg U6 [] UA U2 U (zE G ab) (zz Ux Uy λ a w U=>?_);refine aa<|qi<|aj ?_;refine aJ ?_ (am G U (zm 0 G));exact nu (wV hb0)
 ·refine qk<|zt<|zg U6 [] UA U2 U (zE G ab) (zz Ux Uy λ a w U=>?_);refine zN 0 U G G ?_;exact nu (wU hb0)
theorem mB (x:RI):Cn Tryz.prog 187 [(RIA x).va] (In (sgI x)):=by
 refine Cn.intro Tryz.func187 G zk nq (zy [(0,(RIA x).va)] λ B w0 a U=>?_);refine qb<|zg [] Uu Uv Uw U (zW 0 G (zE G ab)) (zz Ux Uy ?_);refine ztA<|zsA<|zgA U4 [] (.adr 3 1 (.some 1) True::(Wb 4)) RJ (zO 0 G ar (zL 0 0 1 G bb (zv G (aK qe (vq 1 G)) (zv G (bC (vq 2 G) ab) o0)))) (zz (Wc 2 6) Uy λ a w U=>?_);refine zJ 1 U G (λ hb0=>?_) (λ hb0=>?_)
 ·refine qb<|zg U6 [] UA U2 U (zE G ab) (zz Ux Uy λ a w U=>?_);refine aa<|qi<|aj ?_;refine aJ ?_ (am G U (zm 0 G));exact nu (B5 hb0)
 ·refine qk<|zt<|qb<|zg U6 [] [.adr 7 1 (.some 0) True,.v 8 _] Rc U (zO 0 G aY (zL 0 0 0 G ty_4 o0)) (zz (Wc 2 8) Uy λ a w U=>?_);refine zJ 1 U G (λ hb1=>?_) (λ hb1=>?_)
  ·refine qb<|zg U6 [] UA U2 U (zE G ab) (zz Ux Uy λ a w U=>?_);refine aa<|qi<|aj ?_;refine aJ ?_ (am G U (zm 0 G));exact nu (B4 hb0 hb1)
  ·refine qk<|zt<|zg U6 [] UA U2 U (zE G ab) (zz Ux Uy λ a w U=>?_);refine zN 0 U G G ?_;exact nu (B3 hb0 hb1)
theorem fV :cmL (aA m) (aA n)=if m<n then -1 else if n<m then 1 else 0:=by
 unfold cmL;rw [aI,aI];by_cases h:(aA m).length=(aA n).length
 ·rw [qA zo]
 ·rw [qD h];by_cases h2:m≤n
  ·have:=cE h2;have:m≠n:=λ e=>h (by rw [e]);rw [qD zo,qD zo]
  ·have:=cE (xc (jj h2));rw [qA zo,qA zo,qD zo]
theorem my (p:Int):p.sign=if p<0 then -1 else if p=0 then 0 else 1:=by
 rcases kU p 0 with h|h|h
 ·rw [qD h,xO h]
 ·subst h;rfl
 ·rw [qA zo,qA zo,x3 h]
theorem PG (h:(sgI (riOf p) != sgI (riOf q))=true)(h2:decide (sgI (riOf p)<sgI (riOf q))=true):(-1:Int)=sg3 p q:=by
 rw [qJ,dL,dL,my,my] at h2;unfold sg3;rw [qD];split at h2 <;> split at h2 <;> (try split at h2) <;> (try split at h2) <;> omega
theorem PF (h:(sgI (riOf p) != sgI (riOf q))=true)(h2:decide (sgI (riOf p)<sgI (riOf q))=false):(1:Int)=sg3 p q:=by
 rw [qn,dL,dL,my,my] at h2;have h3:sgI (riOf p)≠sgI (riOf q):=by simpa using h
 rw [dL,dL,my,my] at h3;unfold sg3;rw [qA,qD] <;> (split at h2 <;> split at h2 <;> (try split at h2) <;> (try split at h2) <;> (try split at h3) <;> (try split at h3) <;> (try split at h3) <;> omega)
theorem MI (h:(sgI (riOf p) != sgI (riOf q))=false):(p<0↔q<0)∧(p=0↔q=0):=by
 have h3:sgI (riOf p)=sgI (riOf q):=by simpa using h
 rw [dL,dL,my,my] at h3;split at h3 <;> split at h3 <;> (try split at h3) <;> (try split at h3) <;> omega
theorem PE (h:(sgI (riOf p) != sgI (riOf q))=false)(h2:decide (sgI (riOf p)<0)=true) : -(cmL (riOf p).mag (riOf q).mag)=sg3 p q:=by
 have h1:=MI h;rw [qJ,dL,my] at h2;have hp:p<0:=by split at h2 <;> (try split at h2) <;> omega
 show -(cmL (aA p.natAbs) (aA q.natAbs))=_;rw [fV];unfold sg3;split <;> split <;> (try split) <;> omega
theorem PD (h:(sgI (riOf p) != sgI (riOf q))=false)(h2:decide (sgI (riOf p)<0)=false):cmL (riOf p).mag (riOf q).mag=sg3 p q:=by
 have h1:=MI h;rw [qn,dL,my] at h2;have hp:¬ p<0:=by intro hp;rw [qD hp] at h2;omega
 show cmL (aA p.natAbs) (aA q.natAbs)=_;rw [fV];unfold sg3;split <;> split <;> (try split) <;> omega
theorem Ox (l m:Ya) : -1≤cmL l m∧cmL l m≤1:=by
 unfold cmL;split <;> split <;> (try split) <;> omega
theorem Me :(RIA (rsig (!(riOf p).neg) (riOf p).mag)).va=Zi (-p):=by
 rw [cj (oU p) (z := -p) (by rw [bF];omega) (λ hz=>by show (!decide (p<0))=_;by_cases h:p<0 <;> simp [h] <;> omega)]
theorem size_e {p:Int}:(RIA (rsig false (riOf p).mag)).va=Zi ((p.natAbs:Nat):Int):=by
 rw [cj (oU p) (z:=((p.natAbs:Nat):Int)) (by rw [bF];omega) (λ hz=>by simp)]
theorem Jb (p q:Int):Cn Tryz.prog 247 [Zi p,Zi q] (In (sg3 p q)):=by
 refine Cn.intro Tryz.func247 G zk nq (zy [(0,Zi p),(1,Zi q)] λ B w0 a U=>?_);have hbd:=Ox (riOf p).mag (riOf q).mag;refine qb<|zg [] UB UC Ud U (zW 0 G (zW 1 G (zE G ab))) (zz U3 UD ?_);refine ztA<|zgA UF [] (W6 8 [.v 5 _]) Ui (zl 0 G ap (zQ G (mB (riOf p)) (.o (vq 0 G)) (zA 1 G o0))) (zz (Wc 4 5) UD ?_);refine ztA<|zgA UF [] (W6 10 [.v 6 _]) U1 (zl 1 G ap (zQ G (mB (riOf q)) (.o (vq 0 G)) (zA 1 G o0))) (zz (Wa 4 5 6) UD ?_);refine ztA<|zsA<|zgA UF [] (Wb 12) UG (zM 1 G (zM 2 G (zv G (ca (vq 0 G) (vq 1 G)) o0))) (zz (Wf 4 5 6 14) UD λ a w U=>?_);refine zJ 3 U G (λ hb0=>?_) (λ hb0=>?_)
 ·refine qb<|qb<|zg UH [] (Wb 15) U1 U (zM 1 G (zM 2 G (zv G (aN (vq 0 G) (vq 1 G)) o0))) (zz (Wa 4 5 17) UD λ a w U=>?_);refine zJ 2 U G (λ hb1=>?_) (λ hb1=>?_)
  ·refine qb<|zg UH [] WR [.g 1,.o 0] U (zE G ab) (zz (Wc 5 4) UD λ a w U=>?_);refine aa<|qi<|aj ?_;refine aj ?_;refine aJ ?_ (am G U (zm 1 G));exact nu (PG hb0 hb1)
  ·refine qk<|zt<|zg UH [] WR [.g 1,.o 0] U (zE G ab) (zz (Wc 5 4) UD λ a w U=>?_);refine aa<|qi<|aj ?_;refine aJ ?_ (am G U (zm 1 G));exact nu (PF hb0 hb1)
 ·refine qk<|zt<|zg UH [] (.adr 18 2 (.some 1) True::.v 19 _::.adr 20 3 (.some 1) True::(W6 21 [.v 7 _])) (We [.o 5]) U (zO 0 G ar (zL 0 0 1 G bb (zO 1 G ar (zL 2 1 1 G bb (zQ G (rz _ _) (.p (vq 1 G) (vq 3 G)) (zA 4 G o0)))))) (zz (Wa 4 5 7) UD ?_);refine ztA<|zsA<|zgA UF [] (W6 23) [.g 0,.g 2,.o 1] (zM 1 G (zv G (aN (vq 0 G) ab) o0)) (zz (Wa 4 7 24) UD λ a w U=>?_);refine zJ 2 U G (λ hb2=>?_) (λ hb2=>?_)
  ·refine qb<|zg UH [] (W6 25 [.v 4 _]) Rh U (zM 1 G (zv G (EX (vq 0 G) ((wi64 zo zo).trans (kR _))) (zA 1 G o0))) (zz (Wc 7 4) UD λ a w U=>?_);refine aa<|qi<|aj ?_;refine aJ ?_ (am G U (zm 1 G));exact nu (PE hb0 hb2)
  ·refine qk<|zt<|zg UH [] [.v 27 _,.v 4 _] Uw U (zM 1 G (zA 0 G o0)) (zz U3 UD λ a w U=>?_);refine zN 0 U G G ?_;exact nu (PD hb0 hb2)
theorem LD :decide (sg3 p q<0)=decide (p<q):=by
 unfold sg3;split
 ·rename_i h;rw [qH h];rfl
 ·rename_i h;rw [zT h];split <;> rfl
theorem EV (p q:Int):Cn Tryz.prog 226 [Zi p,Zi q] (Bo (decide (p<q))):=by
 refine Cn.intro Tryz.func226 G zk nq (zy [(0,Zi p),(1,Zi q)] λ B w0 a U=>?_);refine qb<|zg [] UB UC Ud U (zW 0 G (zW 1 G (zE G aE))) (zz U3 UD ?_);refine ztA<|zgA UF [] (Ww 5 [.v 4 _]) UP (zl 0 G ap (zl 1 G ap (zQ G (Jb p q) (.p (vq 0 G) (vq 1 G)) (zv G (aN (vq 2 G) ab) (zA 3 G o0))))) (zz U3 UD λ a w U=>?_);refine zN 0 U G G ?_;exact qq Bo LD
theorem ER (n:Int)(h0 : -9223372036854775808≤n)(h1:n<9223372036854775808):Cn Tryz.prog 200 [In n] (Zi n):=by
 refine Cn.intro Tryz.func200 G zk nq (zy [(0,In n)] λ B w0 a U=>?_);refine qb<|zg [] UK Uf UL U (zY G (Str.zero bu) o0) (zz UM UN ?_);refine ztA<|zgA U4 [] (W6 4 [.v 3 _]) Ui (zM 0 G (zv G (aH .u64 zk zk (vq 0 G) (G)) (zA 1 G o0))) (zz UO UN ?_);refine ztA<|zsA<|zgA U4 [] (W6 6) UI (zM 0 G (zv G (aN (vq 0 G) ab) o0)) (zz (Wa 0 3 7) UN λ a w U=>?_);refine aa<|bP (λ a w =>  St B w0 20 [(0,In n),(3,(NumA .u64 (n.natAbs:Nat)).va)] [⟨2,26,ptrH,cat [BoA false,MgA []]⟩] a w) U (zm 2 G) (λ hb0=>?_) (λ hb0=>?_) (λ a w U=>?_)
 ·refine zg U6 [] (W6 8 [.v 3 _]) Ui U (zM 1 G (zv G (cH (aF 0 G) (vq 0 G) (G)) (zA 1 G o0))) (zz UO UN λ a w U=>?_);refine aa ?_;have U:=St.sel U [0,1];rw [show IntKind.u64.wrap (((0:Nat):Int)-IntKind.u64.wrap n)=_ from JN h0 hb0] at U;exact U
 ·refine qk<|aa ?_;have U:=St.sel U [0,1];rw [JM h1 hb0] at U;exact U
 refine zt<|zg [some (10,_)] [] (Wn 10 [.sto 0]) [] U (zM 0 G (zv G (aN (vq 0 G) ab) (zM 1 G (zv G (nF (vq 2 G) (aF 4294967296 G) zd (nrem)) (zv G (aH .u32 zk zk (vq 3 G) (wu32 (qX _ zd))) (zM 1 G (zv G (nG (vq 5 G) (aF 4294967296 G) zd (nquo zo)) (zv G (aH .u32 zk zk (vq 6 G) (wu32 zo)) (zv G (dF (l:=[_,_]) (xs:=[.tmp 14,.tmp 17]) bc zk nq nq (C5 h0 h1) (.p (vq 4 G) (vq 7 G)) G G) (zQ G (cy _ _) (.p (vq 1 G) (vq 8 G)) (zS 9 G ap o0))))))))))) (zz [] UN λ a w U=>?_);refine aa<|qi<|aJ ?_ (au G U (zm 0 G) ap);exact Nh h0 h1
theorem Bd (p:Int):Cn Tryz.prog 230 [Zi p] (Zi (-p)):=by
 refine Cn.intro Tryz.func230 G zk nq (zy [(0,Zi p)] λ B w0 a U=>?_);refine qb<|zg [] UT UU [] U (zW 0 G (zY G (Str.zero bu) o0)) (zz [] UV ?_);refine ztA<|zgA RS [] (.adr 3 1 (.some 0) True::(W6 4 (.adr 6 1 (.some 1) True::(W6 7 [.sto 1])))) [] (zO 0 G aY (zL 0 0 0 G ty_4 (zv G (dc (vq 1 G)) (zO 0 G ar (zL 3 0 1 G bb (zQ G (cy _ _) (.p (vq 2 G) (vq 4 G)) (zS 5 G ap o0))))))) (zz [] UV λ a w U=>?_);refine aa<|qi<|aJ ?_ (au G U (zm 1 G) ap);exact Me
abbrev NL (l:List Nat):List As:=l.map λ (x:Nat)=>NumA .u32 (x:Int)
theorem np:∃ it z,Tryz.prog.info? 138=some it∧it.zero=some z∧it.size=1∧it.bytes=4∧z.cells.size=1:=by
 have h:((Tryz.prog.info? 138).bind λ it=>it.zero.map λ z=>(it.size,it.bytes,z.cells.size))=some (1,4,1):=by kernel_rfl
 cases hi:Tryz.prog.info? 138 with
 | none=>rw [hi] at h;simp at h
 | some it =>
  rw [hi] at h;cases hz:it.zero with
  | none=>simp [hz] at h
  | some z =>
   simp [hz] at h;exact ⟨it,z,rfl,hz,h.1,h.2.1,h.2.2⟩
theorem BY (ok:okL l):Wk (OwnR b U32 1 [] (NL l)) (MgA l).va:=λ B v w h=>GK ok (ip B v w h)
theorem fc (h:x<4294967296):okL [x]:=λ y hy=>by simp at hy;omega
theorem GP :bH l m (i+1)=bH l m i+4294967296^i*(l.getD i 0+m.getD i 0):=by
 unfold bH;rw [eW,eW,xh];omega
def addN (l m:List Nat):Nat:=if val l+val m<4294967296^max l.length m.length then max l.length m.length else max l.length m.length+1
theorem oB {l m:Ya}(h:max l.length m.length≤i):bH l m i=val l+val m:=by
 unfold bH;rw [qG zo,qG zo]
theorem GR (hl:okL l)(hm:okL m):val l+val m<4294967296^(max l.length m.length+1):=by
 have h1:=qE (fF hl) (zZ (by decide:0<4294967296) (jq l.length m.length));have h2:=qE (fF hm) (zZ (by decide:0<4294967296) (jk l.length m.length));rw [zj];omega
structure AddI (l m:List Nat) (i:Nat):Prop where
 le:i≤max l.length m.length+1
 top:i=max l.length m.length+1→4294967296^max l.length m.length≤val l+val m
theorem AddI.more {l m:Ya}{i:Nat}(h:AddI l m i)(hl:okL l)(hm:okL m)(hb:((decide ((i:Int)<(l.length:Int)) || decide ((i:Int)<(m.length:Int))) || decide (((bH l m i/4294967296^i:Nat):Int)>((0:Nat):Int)))=true):i≤max l.length m.length∧AddI l m (i+1):=by
 have h0:=h.le;simp only [z4,qJ] at hb;have h1:i≠max l.length m.length+1:=by
  intro e;have h3:=GR hl hm;have h4:bH l m i/4294967296^i=0:=by
   rw [oB zo,e];exact xL h3
  rw [h4] at hb;omega
 refine ⟨by omega,by omega,λ e=>?_⟩;have e':i=max l.length m.length:=by omega
 have h3:0<bH l m i/4294967296^i:=by
  rcases hb with (hb|hb) | hb
  ·omega
  ·omega
  ·omega
 rw [oB zo,e'] at h3;exact (Nat.div_pos_iff.1 h3).2
theorem AddI.fin {l m:Ya}{i:Nat}(h:AddI l m i)(hl:okL l)(hm:okL m)(hb:((decide ((i:Int)<(l.length:Int)) || decide ((i:Int)<(m.length:Int))) || decide (((bH l m i/4294967296^i:Nat):Int)>((0:Nat):Int)))=false):digs i (bH l m i)=digs (addN l m) (val l+val m):=by
 simp only [qO,qn] at hb;have h0:=h.le;have h1:max l.length m.length≤i:=by omega
 rw [oB h1];rw [oB h1] at hb
 congr 1
 unfold addN;by_cases e:i=max l.length m.length+1
 ·have:=h.top e;rw [qA zo,e]
 ·have e':i=max l.length m.length:=by omega
  rw [qD,e'];rw [← e'];have hp:0<4294967296^i:=zP zd;refine (Nat.div_eq_zero_iff_lt hp).1 ?_;generalize (val l+val m)/4294967296^i=z at *;omega
theorem LJ :NL (digs i (bH l m i))++NL [(bH l m i/4294967296^i+l.getD i 0+m.getD i 0)%4294967296]=NL (digs (i+1) (bH l m (i+1))):=by
 unfold NL;rw [GP,er,zD,jo]
theorem LK :(bH l m i/4294967296^i+l.getD i 0+m.getD i 0)/4294967296=bH l m (i+1)/4294967296^(i+1):=by
 rw [GP,carry_step',jo]
theorem MM (l m:Ya)(hls:l.length≤10000000000)(hms:m.length≤10000000000):Cn Tryz.prog 248 [(MgA l).va,(MgA m).va] ((MgA (digs (addN l m) (val l+val m))).va):=by
 obtain ⟨it,z,e1,e2,e3,e4,e5⟩:=np;refine Cn.introF Tryz.func248 G zk nq (λ B w0 a hF U=>?_);have U:=zn [(0,(MgA l).va),(1,(MgA m).va)] [] U;obtain ⟨v0,hv0,U⟩:=St.eqv U 0 rfl;obtain ⟨v1,hv1,U⟩:=St.eqv U 1 rfl;have hl:=(eD hv0).1;have hm:=(eD hv1).1;refine qb<|zh WR WS U (zE G aX) (zz WT [] ?_);refine ztA<|zhA UY WZ (zE G aX) (zz WW [] ?_);refine ztA<|zhA U5 Ut (zv G (aR (aF 0 G)) o0) (zz UZ [] ?_);refine ztA<|zsA<|zhA [.v 7 _] U7 (zE G ab) (zz (Wj 0 1 4 5 6 7) [] λ a w U=>?_);refine aa<|ql ?_;have U:=St.sel U [0,1,3,4,5];refine wp_loop_ghost (λ n a w=>∃ i:Nat,(n+i=max l.length m.length+1∧AddI l m i)∧St B w0 57 [(0,EqV v0),(1,EqV v1),(5,OwnR w0.w.heap.size U32 1 [] (NL (digs i (bH l m i)))),(6,(NumA .u64 ((bH l m i/4294967296^i:Nat):Int)).va),(7,In (i:Nat))] [] a w) (max l.length m.length+1) ?_ ?_
 ·exact ⟨0,⟨rfl,⟨by omega,λ h=>by omega⟩⟩,St.wkG (A':=(NumA .u64 ((bH l m 0/4294967296^0:Nat):Int)).va) (St.wkG U 2 rfl oQ) 3 rfl (ba (qq (λ x:Nat=>(NumA .u64 (x:Int)).va) (by simp [g7]:0=bH l m 0/4294967296^0)))⟩
 intro n a w hI;obtain ⟨i,⟨hn,hI⟩,U⟩:=hI;have hc:=fv hl hm i;refine qb<|qb<|zh (Wd 9 (.f 14 _::.f 15 _::.f 16 _::.f 17 _::(W6 18 [.f 20 _,.f 21 _,.v 22 _]))) (Wi [.o 13]) U (zM 4 G (zM 0 G (zv G (aK qe (aV hF hv0 (vq 1 G))) (zv G (aN (vq 0 G) (vq 2 G)) (zV 3 G (zB 4 G (λ hg=>aq (gq 4 G)) (zB 4 G (λ hg=>aq (gq 1 G)) (zB 4 G (λ hg=>aK qe (aV hF hv1 (ae (vq 6 G) hg))) (zB 4 G (λ hg=>aN (ae (vq 5 G) hg) (ae (vq 7 G) hg)) (zv G (r_or (vq 4 G) (vq 8 G)) (zV 9 G (zB 10 G (λ hg=>aq (gq 3 G)) (zB 10 G (λ hg=>cL (ae (vq 11 G) hg) (aF 0 G)) (zv G (r_or (vq 10 G) (vq 12 G)) o0)))))))))))))) (zz (Wj 0 1 5 6 7 22) [] λ a w U=>?_);refine zJ 5 U G (λ hb0=>?_) (λ hb0=>?_)
 ·obtain ⟨hi,hI2⟩:=hI.more hl hm hb0;have hg1:=fS hl i;have hg2:=fS hm i;refine qk<|zt<|ql<|qb<|zh [.v 25 _,.v 8 _] U8 U (zM 3 G (zA 0 G o0)) (zz (Wj 0 1 5 6 7 8) [] ?_);refine ztA<|zsA<|zhA (Ww 26) (Wq [.o 3]) (zM 4 G (zM 0 G (zv G (aK qe (aV hF hv0 (vq 1 G))) (zv G (aN (vq 0 G) (vq 2 G)) o0)))) (zz (Wu 0 1 5 6 7 8 29) [] λ a w U=>?_);refine aa<|bP (λ a w =>  St B w0 57 [(0,EqV v0),(1,EqV v1),(5,OwnR w0.w.heap.size U32 1 [] (NL (digs i (bH l m i)))),(7,In (i:Nat)),(8,(NumA .u64 ((bH l m i/4294967296^i+l.getD i 0:Nat):Int)).va)] [] a w) U (zm 6 G) (λ hb1=>?_) (λ hb1=>?_) (λ a w U=>?_)
  ·refine zh (WG 30 [.v 8 _]) (Wi [.o 7]) U (zM 5 G (zM 0 G (zM 4 G (zv G (bO bc (aV hF hv0 (vq 1 G)) (vq 2 G) (by simp at hb1;omega)) (zv G (ao (vq 3 G) aO) (zv G (aH .u64 zk zk (vq 4 G) (wu64 (zF (hl _ (qh _)) zd))) (zv G (aL (vq 0 G) (vq 5 G) (dQ (by have:=hl _ (qh (by simp at hb1;omega:i<l.length));omega))) (zA 6 G o0)))))))) (zz (Wj 0 1 5 6 7 8) [] λ a w U=>?_);refine aa ?_;have U:=St.sel U [0,1,2,4,5];rw [cV (by simp at hb1;omega)];exact U
  ·refine qk<|aa ?_;have U:=St.sel U [0,1,2,4,5];rw [en (by simp at hb1;omega)];exact U
  refine zt<|qb<|zh (Ww 37) (Wi [.o 3]) U (zM 3 G (zM 1 G (zv G (aK qe (aV hF hv1 (vq 1 G))) (zv G (aN (vq 0 G) (vq 2 G)) o0)))) (zz (Wj 0 1 5 7 8 40) [] λ a w U=>?_);refine aa<|bP (λ a w =>  St B w0 57 [(0,EqV v0),(1,EqV v1),(5,OwnR w0.w.heap.size U32 1 [] (NL (digs i (bH l m i)))),(7,In (i:Nat)),(8,(NumA .u64 ((bH l m i/4294967296^i+l.getD i 0+m.getD i 0:Nat):Int)).va)] [] a w) U (zm 5 G) (λ hb2=>?_) (λ hb2=>?_) (λ a w U=>?_)
  ·refine zh (WG 41 [.v 8 _]) (Wp [.o 7]) U (zM 4 G (zM 1 G (zM 3 G (zv G (bO bc (aV hF hv1 (vq 1 G)) (vq 2 G) (by simp at hb2;omega)) (zv G (ao (vq 3 G) aO) (zv G (aH .u64 zk zk (vq 4 G) (wu64 (zF (hm _ (qh _)) zd))) (zv G (aL (vq 0 G) (vq 5 G) (dQ (by have:=hm _ (qh (by simp at hb2;omega:i<m.length));omega))) (zA 6 G o0)))))))) (zz (W8 0 1 5 7 8) [] λ a w U=>?_);refine aa ?_;have U:=St.sel U [0,1,2,3,4];rw [cV (by simp at hb2;omega) (l:=m)];exact U
  ·refine qk<|aa ?_;have U:=St.sel U [0,1,2,3,4];rw [en (by simp at hb2;omega) (l:=m)];exact U
  refine zt<|lr (sp:=[.v 48 _,.v 49 _,.v 50 _,.v 51 _,.v 52 _,.v 53 VT,.v 5 VT]) 5 [0,1,3,4] 0 4 U (zM 2 rfl (zM 4 rfl (zv rfl (nF (vq 1 rfl) (aF 4294967296 rfl) zd (nrem)) (zv rfl (aH .u32 zk zk (vq 2 rfl) (wu32 (qX _ zd))) (zv rfl (dF (l:=[_]) (xs:=[.tmp 51]) bc zk nq nq ((fc (qX _ zd))) (.o (vq 3 rfl)) rfl rfl) o0))))) rfl zk rfl rfl zd rfl zd rfl (λ _ _ h _=>(eD h).2) qe e1 e2 e3 e4 e5 zd (by simp only [qd,ay,z7];omega) zd (λ T hT=>hT) zd (λ A hA=>by obtain ⟨_,_,rfl⟩:=qr.1 hA;rfl) zk nq nq zk zk (zz (W8 5 0 1 7 8) [] ?_);refine znA<|zhA (W6 54 [.v 6 _]) RT (zM 4 G (zv G (nG (vq 0 G) (aF 4294967296 G) zd (nquo zo)) (zA 1 G o0))) (zz (W8 5 0 1 7 6) [] λ a w U=>?_);refine ak ?_;refine aa<|zh (W6 23 [.v 7 _]) (W7 [.g 4,.o 2]) U (zM 3 G (zv G (aL (vq 0 G) ab (aW zo)) (zA 1 G o0))) (zz (W8 5 0 1 6 7) [] λ a w U=>?_);refine aa ?_;have U:=St.sel U [1,2,0,3,4];exact ⟨n-1,by omega,i+1,⟨by omega,hI2⟩,St.wkG (A':=(NumA .u64 ((bH l m (i+1)/4294967296^(i+1):Nat):Int)).va) (St.wkG (A':=OwnR w0.w.heap.size U32 1 [] (NL (digs (i+1) (bH l m (i+1))))) U 2 G (ba (qq (OwnR w0.w.heap.size U32 1 []) LJ))) 3 G (ba (qq (λ x:Nat=>(NumA .u64 (x:Int)).va) LK))⟩
 ·refine qM<|ai<|ai<|az<|zt<|zh [.v 56 _,.v 4 _] Uw U (zM 2 G (zA 0 G o0)) (zz U3 [] λ a w U=>?_);refine aa<|qi<|al ?_ (am G U (zm 0 G));rw [hI.fin hl hm hb0];exact BY (bY _ _)
def MgB (b:Nat)(l:List Nat):As where
 n:=1
 ag:=false
 p B cs w:=(MgA l).p B cs w∧∀ c∈cs,∀ g,blk c=some g→b≤g
 deps:=(MgA l).deps
 len:=λ B cs w h=>(MgA l).len B cs w h.1
 one:=λ B cs w h=>(MgA l).one B cs w h.1
 ag1:=λ _=>rfl
 cg:=λ B cs w w' hg h=>⟨(MgA l).cg B cs w w' hg h.1,h.2⟩
 wr:=λ B cs w w' g c T fz h1 h2 h3 h4 h=>⟨(MgA l).wr B cs w w' g c T fz h1 h2 h3 h4 h.1,h.2⟩
theorem rK :Wk (MgB b l).va (MgA l).va:=λ _ _ _ ⟨cs,h,hv⟩=>⟨cs,h.1,hv⟩
theorem rJ {b B:Nat}(h:(MgB b l).va.p B v w):∀ g,blk v=some g→b≤g:=by
 obtain ⟨cs,⟨h1,h2⟩,hv⟩:=h;have hn:=(MgA l).len _ _ _ h1
 match cs,hn with
 | [c],_ =>
  have e:v=c:=hv;subst e;exact h2 _ (by simp)
theorem Ci {b B:Nat}(h:(MgA l).va.p B v w)(hb:∀ g,blk v=some g→b≤g):(MgB b l).va.p B v w:=by
 obtain ⟨cs,h1,hv⟩:=h;have hn:=(MgA l).len _ _ _ h1
 match cs,hn with
 | [c],_ =>
  have e:v=c:=hv;subst e;exact ⟨[v],⟨h1,λ c hc=>by simp at hc;subst hc;exact hb⟩,rfl⟩
theorem famB (b:Nat):Fam (MgB b):=⟨λ _=>rfl,λ _=>rfl,λ l B v w h=>by
 obtain ⟨A,c,hv,hm,hk⟩:=famA.op l B v w (rK _ _ _ h);refine ⟨A,c,hv,hm,λ k=>Ci (hk k) λ g hg=>rJ h g ?_⟩;rw [hv];cases A with
 | none=>cases hg
 | some ad=>exact hg,λ B w=>⟨fN B w,λ c hc g hg=>by simp at hc;subst hc;cases hg⟩⟩
theorem BX (ok:okL l):Wk (OwnR b U32 1 [] (NL l)) (MgB b l).va:=λ B v w h=>Ci (BY ok B v w h) λ g hg=>by
 obtain ⟨_,_,ds,_,_,h5⟩:=h;rcases h5 with ⟨h5,_⟩|⟨g',cap,cur,e1,e2,_⟩
 ·have e:v=.slice none 0 0:=h5;rw [e] at hg;cases hg
 ·rw [e1] at hg;injection hg with hg;rw [← hg];exact e2
theorem wsub' {x y:Nat}(h:y≤x)(hx:x<18446744073709551616):IntKind.u64.wrap ((x:Int)-(y:Int))=((x-y:Nat):Int):=by
 have e:((x:Int)-(y:Int))=((x-y:Nat):Int):=by omega
 rw [e,wu64 zo]
theorem IF {l m:Ya}(h:i<l.length)(hl:okL l)(hm:okL m):NL (digs i (dif l m i))++NL [(if l[i]<1-dif l m i/4294967296^i+m.getD i 0 then l[i]+4294967296 else l[i])-(1-dif l m i/4294967296^i+m.getD i 0)]=NL (digs (i+1) (dif l m (i+1))):=by
 have h1:=fS hm i;have h2:=wO (m:=m) hl i;have h3:=hl _ (qh h);unfold NL;rw [pR h hm,er,zD]
 congr 3
 generalize dif l m i/4294967296^i=q at *;generalize m.getD i 0=y at *;generalize l[i]=x at *;split <;> omega
theorem IH {l m:Ya}(h:i<l.length)(hl:okL l)(hm:okL m):(if l[i]<1-dif l m i/4294967296^i+m.getD i 0 then 1 else 0)=1-dif l m (i+1)/4294967296^(i+1):=by
 rw [xq];exact mr h hl hm rfl
theorem IG {l m:Ya}(hl:okL l)(h:m.length≤l.length)(hv:val m≤val l):bx (digs l.length (dif l m l.length))=aA (val l-val m):=by
 have:=ro hl h hv;unfold lP at this;rw [xY,kq,zX] at this;exact this
theorem Bk (l m:Ya)(hls:l.length≤10000000000)(hml:m.length≤l.length)(hv:val m≤val l):CnI Tryz.prog 250 [(MgA l).va,(MgA m).va] (λ b=>(MgB b (aA (val l-val m))).va):=by
 obtain ⟨it,z,e1,e2,e3,e4,e5⟩:=np;refine CnI.introF Tryz.func250 G zk nq (λ B w0 a hF0 hF U=>?_);have U:=zn [(0,(MgA l).va),(1,(MgA m).va)] [] U;obtain ⟨v0,hv0,U⟩:=St.eqv U 0 rfl;obtain ⟨v1,hv1,U⟩:=St.eqv U 1 rfl;have hl:=(eD hv0).1;have hm:=(eD hv1).1;refine qb<|zh WR WS U (zE G aX) (zz WT [] ?_);refine ztA<|zhA UY WZ (zE G aX) (zz WW [] ?_);refine ztA<|zhA U5 Ut (zv G (aR (aF 0 G)) o0) (zz UZ [] ?_);refine ztA<|zsA<|zhA [.v 7 _] U7 (zE G ab) (zz (Wj 0 1 4 5 6 7) [] λ a w U=>?_);refine aa<|ql ?_;have U:=St.sel U [0,1,3,4,5];refine wp_loop_ghost (λ n a w=>∃ i:Nat,(n+i=l.length)∧St B w0 47 [(0,EqV v0),(1,EqV v1),(5,OwnR w0.w.heap.size U32 1 [] (NL (digs i (dif l m i)))),(6,(NumA .u64 ((1-dif l m i/4294967296^i:Nat):Int)).va),(7,In (i:Nat))] [] a w) (l.length) ?_ ?_
 ·exact ⟨0,by omega,St.wkG (A':=(NumA .u64 ((1-dif l m 0/4294967296^0:Nat):Int)).va) (St.wkG U 2 G oQ) 3 G (ba (qq (λ x:Nat=>(NumA .u64 (x:Int)).va) (wN l m).symm))⟩
 intro n a w hI;obtain ⟨i,hn,U⟩:=hI;have hc:=wO (m:=m) hl i;have hc1:1-dif l m i/4294967296^i≤1:=vS _ _;have hg2:=fS hm i;refine qb<|qb<|zh (Ww 10) (Wi [.o 3]) U (zM 4 G (zM 0 G (zv G (aK qe (aV hF hv0 (vq 1 G))) (zv G (aN (vq 0 G) (vq 2 G)) o0)))) (zz (Wj 0 1 5 6 7 13) [] λ a w U=>?_);refine zJ 5 U G (λ hb0=>?_) (λ hb0=>?_)
 ·have hi:i<l.length:=by simp at hb0;omega
  have hx:=hl _ (qh hi);refine qk<|zt<|ql<|qb<|zh [.v 16 _,.v 8 _] U8 U (zM 3 G (zA 0 G o0)) (zz (Wj 0 1 5 6 7 8) [] ?_);refine ztA<|zsA<|zhA (Ww 17) (Wq [.o 3]) (zM 4 G (zM 1 G (zv G (aK qe (aV hF hv1 (vq 1 G))) (zv G (aN (vq 0 G) (vq 2 G)) o0)))) (zz (Wu 0 1 5 6 7 8 20) [] λ a w U=>?_);refine aa<|bP (λ a w =>  St B w0 47 [(0,EqV v0),(1,EqV v1),(5,OwnR w0.w.heap.size U32 1 [] (NL (digs i (dif l m i)))),(7,In (i:Nat)),(8,(NumA .u64 ((1-dif l m i/4294967296^i+m.getD i 0:Nat):Int)).va)] [] a w) U (zm 6 G) (λ hb1=>?_) (λ hb1=>?_) (λ a w U=>?_)
  ·refine zh (WG 21 [.v 8 _]) (Wi [.o 7]) U (zM 5 G (zM 1 G (zM 4 G (zv G (bO bc (aV hF hv1 (vq 1 G)) (vq 2 G) (by simp at hb1;omega)) (zv G (ao (vq 3 G) aO) (zv G (aH .u64 zk zk (vq 4 G) (wu64 (zF (hm _ (qh _)) zd))) (zv G (aL (vq 0 G) (vq 5 G) (dQ (by have:=hm _ (qh (by simp at hb1;omega:i<m.length));omega))) (zA 6 G o0)))))))) (zz (Wj 0 1 5 6 7 8) [] λ a w U=>?_);refine aa ?_;have U:=St.sel U [0,1,2,4,5];rw [cV (by simp at hb1;omega) (l:=m)];exact U
  ·refine qk<|aa ?_;have U:=St.sel U [0,1,2,4,5];rw [en (by simp at hb1;omega) (l:=m)];exact U
  refine zt<|zh (Wd 28 [.v 9 _]) (Wi [.o 5]) U (zM 0 G (zM 3 G (zv G (bO bc (aV hF hv0 (vq 0 G)) (vq 1 G) hi) (zv G (ao (vq 2 G) aO) (zv G (aH .u64 zk zk (vq 3 G) (wu64 (zF (hl _ (qh _)) zd))) (zA 4 G o0)))))) (zz (Wj 0 1 5 7 8 9) [] ?_);refine ztA<|zhA U5 (Wq [.o 0]) (zv G (aR (aF 0 G)) o0) (zz (Wu 0 1 5 7 8 9 6) [] ?_);refine ztA<|zsA<|zhA (Wb 33) (Wx [.o 2]) (zM 5 G (zM 4 G (zv G (aN (vq 0 G) (vq 1 G)) o0))) (zz (Wy 0 1 5 7 8 9 6 35) [] λ a w U=>?_);refine aa<|bP (λ a w =>  St B w0 47 [(0,EqV v0),(1,EqV v1),(5,OwnR w0.w.heap.size U32 1 [] (NL (digs i (dif l m i)))),(6,(NumA .u64 (((if l[i]<1-dif l m i/4294967296^i+m.getD i 0 then 1 else 0):Nat):Int)).va),(7,In (i:Nat)),(8,(NumA .u64 ((1-dif l m i/4294967296^i+m.getD i 0:Nat):Int)).va),(9,(NumA .u64 (((if l[i]<1-dif l m i/4294967296^i+m.getD i 0 then l[i]+4294967296 else l[i]):Nat):Int)).va)] [] a w) U (zm 7 G) (λ hb2=>?_) (λ hb2=>?_) (λ a w U=>?_)
  ·refine qb<|zh (W6 36 [.v 9 _]) (Wi [.g 6,.o 2]) U (zM 5 G (zv G (aL (vq 0 G) (aF 4294967296 G) (dQ zo)) (zA 1 G o0))) (zz (Wu 0 1 5 7 8 6 9) [] ?_);refine znA<|zhA U5 (Wi [.g 6,.o 0]) (zv G (aR (aF 1 G)) o0) (zz (Wu 0 1 5 7 8 9 6) [] λ a w U=>?_);refine aa ?_;have U:=St.sel U [0,1,2,6,3,4,5];have hlt:l[i]<1-dif l m i/4294967296^i+m.getD i 0:=kS.1 (qu hb2);rw [qD hlt,qD hlt];exact U
  ·refine qk<|aa ?_;have U:=St.sel U [0,1,2,6,3,4,5];have hlt:¬ l[i]<1-dif l m i/4294967296^i+m.getD i 0:=λ h=>qw hb2 (kS.2 h);rw [qA hlt,qA hlt];exact U
  refine aa<|lr (sp:=[.v 38 _,.v 39 _,.v 40 _,.v 41 _,.v 42 _,.v 43 _,.v 44 VT,.v 5 VT]) 6 [0,1,3,4] 0 5 U (zM 2 rfl (zM 6 rfl (zM 5 rfl (zv rfl (cH (vq 1 rfl) (vq 2 rfl) (wsub' (by split <;> omega) (by split <;> omega))) (zv rfl (aH .u32 zk zk (vq 3 rfl) (wu32 (by split <;> omega))) (zv rfl (dF (l:=[_]) (xs:=[.tmp 42]) bc zk nq nq ((fc (by split <;> omega))) (.o (vq 4 rfl)) rfl rfl) o0)))))) rfl zk rfl rfl zd rfl zd rfl (λ _ _ h _=>(eD h).2) qe e1 e2 e3 e4 e5 zd (by simp only [qd,ay,z7];omega) zd (λ T hT=>hT) zd (λ A hA=>by obtain ⟨_,_,rfl⟩:=qr.1 hA;rfl) zk nq nq zk zk (zz (W8 5 0 1 6 7) [] λ a w U=>?_);refine ak ?_;refine aa<|zh (W6 14 [.v 7 _]) RT U (zM 4 G (zv G (aL (vq 0 G) ab (aW zo)) (zA 1 G o0))) (zz (W8 5 0 1 6 7) [] λ a w U=>?_);refine aa ?_;have U:=St.sel U [1,2,0,3,4];exact ⟨n-1,by omega,i+1,by omega,St.wkG (A':=(NumA .u64 ((1-dif l m (i+1)/4294967296^(i+1):Nat):Int)).va) (St.wkG (A':=OwnR w0.w.heap.size U32 1 [] (NL (digs (i+1) (dif l m (i+1))))) U 2 G (ba (qq (OwnR w0.w.heap.size U32 1 []) (IF hi hl hm)))) 3 G (ba (qq (λ x:Nat=>(NumA .u64 (x:Int)).va) (IH hi hl hm)))⟩
 ·obtain rfl:i=l.length:=by simp at hb0;omega
  have U:=St.wkG (A':=(MgB w0.w.heap.size (digs l.length (dif l m l.length))).va) U 2 rfl (BX (bY _ _));refine qM<|ai<|ai<|az<|zt<|zh (W6 45 [.v 4 _]) Ud U (zM 2 G (zQ G (eE (famB w0.w.heap.size) _) (.o (vq 0 G)) (zA 1 G o0))) (zz U3 [] λ a w U=>?_);refine aa<|qi<|al ?_ (am G U (zm 0 G));rw [IG hl hml hv];exact aG
theorem CnI.cn {f:Ym}{pre:Yc}{mk:Nat→VA}{A:VA}(h:CnI P f pre mk)(hw:∀ b,Wk (mk b) A):Cn P f pre A:=⟨h.1,λ B w args hB ha=>(h.2 B w args hB ha).mono λ e w' ⟨v,he,hv,hg⟩=>⟨v,he,hw _ _ _ _ hv,hg⟩⟩
theorem Bi (l m:Ya)(hls:l.length≤10000000000)(hml:m.length≤l.length)(hv:val m≤val l):Cn Tryz.prog 250 [(MgA l).va,(MgA m).va] (MgA (aA (val l-val m))).va:=(Bk l m hls hml hv).cn λ _=>rK
theorem MulI.step' {a b L:Ya}(h:MulI a b L i u k c)(hb:okL b)(hu:u<4294967296)(hk:k<b.length)(hj:i+k<L.length) :
  MulI a b (L.set (i+k) ((u*b[k]+L[i+k]+c)%4294967296)) i u (k+1) ((u*b[k]+L[i+k]+c)/4294967296):=by
 have:=h.step hb hu hk hj;rw [xq c] at this;exact this
theorem JZ {a b L:Ya}(ha:okL a)(hb:okL b)(h:MulO a b L a.length):bx L=aA (val a*val b):=by
 rw [h.fin,l3];rw [xg];exact kW (fF ha) (fF hb)
theorem Bp (l m:Ya)(hls:l.length≤1099511627776)(hms:m.length≤1099511627776):Cn Tryz.prog 232 [(MgA l).va,(MgA m).va] ((MgN (aA (val l*val m))).va):=by
 refine Cn.introW Tryz.func232 G zk nq (.cons (mo _).va (.cons (mo _).va .nil)) (eA _).va (λ B w0 a hB0 U=>?_);have U:=zn [(0,(MgO l).va),(1,(MgO m).va)] [] U;have ha:=(U.magO 0 rfl).1;have hb:=(U.magO 1 rfl).1;refine qb<|zh WR WS U (zE G aX) (zz WT [] λ a w U=>?_);refine zt<|dz (sts:=[]) (news:=[⟨15,138,slH _ _,some 5,_,none⟩]) (sp:=[.v 10 _,.v 11 _,.v 12 _,.v 13 _,.v 14 _,.alc 0,.adr 5 15 .none True]) [.g 0,.g 1,.g 2] [(5,15)] [zpH 5 138 _] U (zM 0 G (zv G (aK qe (aC (vq 0 G))) (zM 1 G (zv G (aK qe (aC (vq 2 G))) (zv G (aL (vq 1 G) (vq 3 G) (gZ zo)) (oc (eF G G G fA (vq 4 G) (vq 4 G) zo) (oc (ob_a G G nA) o0))))))) zk zk zk ⟨⟨6,rfl⟩,trivial⟩ G zk (zz WT [zpH 5 138 _] ?_);refine ztA<|zsA<|zgA U4 [] U5 WZ (zE G ab) (zz (Wf 0 1 4 6) [zpH 5 138 _] λ a w U=>?_);refine aa<|ql ?_;have U:=St.sel U [0,1,3];refine wp_loop_ghost (λ n a w=>∃ (i:Nat) (L:List Nat),n+i=l.length∧MulO l m L i∧St B w0 69 [(0,(MgO l).va),(1,(MgO m).va),(6,In (i:Nat))] [⟨5,138,slH (l.length+m.length) (l.length+m.length),Nums .u32 L⟩] a w) (l.length) ?_ ?_
 ·exact ⟨0,_,by omega,MulO.start _ _,U⟩
 intro n a w hI;obtain ⟨i,L,hn,hO,U⟩:=hI;obtain ⟨n1,hn1⟩:∃ n1,n1=n:=⟨n,rfl⟩;have hlen:=hO.len;refine qb<|qb<|zg U6 [] (Ww 16) WV U (zM 2 G (zM 0 G (zv G (aK qe (aC (vq 1 G))) (zv G (aN (vq 0 G) (vq 2 G)) o0)))) (zz (Wf 0 1 6 19) [zpH 5 138 _] λ a w U=>?_);refine zJ 3 U G (λ hb0=>?_) (λ hb0=>?_)
 ·have hi:i<l.length:=by simp at hb0;omega
  refine qk<|zt<|ql<|qb<|zg U6 [] [.v 7 _] WZ U (zv G (aR (aF 0 G)) o0) (zz (Wf 0 1 6 7) [zpH 5 138 _] ?_);refine ztA<|zsA<|zgA U4 [] [.v 8 _] Ut (zE G ab) (zz (W8 0 1 6 7 8) [zpH 5 138 _] λ a w U=>?_);refine aa<|ql ?_;have U:=St.sel U [0,1,2,3,4];refine wp_loop_ghost (λ n a w=>∃ (k c:Nat) (L:List Nat),n+k=m.length∧MulI l m L i l[i] k c∧St B w0 69 [(0,(MgO l).va),(1,(MgO m).va),(6,In (i:Nat)),(7,(NumA .u64 ((c:Nat):Int)).va),(8,In (k:Nat))] [⟨5,138,slH (l.length+m.length) (l.length+m.length),Nums .u32 L⟩] a w) (m.length) ?_ ?_
  ·exact ⟨0,0,L,by omega,hO.row _,U⟩
  intro n a w hI;clear hlen hO;obtain ⟨k,c,L,hn2,hI,U⟩:=hI;have hlen:=hI.len;have hc:=hI.cl;refine qb<|qb<|zg U6 [] (Ww 22) (Wi [.o 3]) U (zM 4 G (zM 1 G (zv G (aK qe (aC (vq 1 G))) (zv G (aN (vq 0 G) (vq 2 G)) o0)))) (zz (Wj 0 1 6 7 8 25) [zpH 5 138 _] λ a w U=>?_);refine zJ 5 U G (λ hb1=>?_) (λ hb1=>?_)
  ·have hk:k<m.length:=by simp at hb1;omega
   refine qk<|zt<|ql<|qb<|zgd [[],[],[0,1],[0,1,2],(Wm 4),[],[],[5,6],[5,6,7],[5,6,7,8],(Wm 10),[],[],[],[12,13],[11,12,13,14],[11,12,13,14,15],[11,12,13,14,15,16],(Wm 18),[],(Wm 20),(Wm 21)] U4 [] (WM 28 (.adr 39 5 .none True::(Wb 40 (.adr 43 5 (.some _) True::(Wd 44 [.v 9 _]))))) (Wi [.o 21]) ac U (zM 0 G (zM 2 G (zv G (bO bc (aC (vq 0 G)) (vq 1 G) zo) (zv G (ao (vq 2 G) aO) (zv G (aH .u64 zk zk (vq 3 G) (wu64 (zF (ha _ (qh _)) zd))) (zM 1 G (zM 4 G (zv G (bO bc (aC (vq 5 G)) (vq 6 G) zo) (zv G (ao (vq 7 G) aO) (zv G (aH .u64 zk zk (vq 8 G) (wu64 (zF (hb _ (qh _)) zd))) (zv G (mF (vq 4 G) (vq 9 G) (rb (qZ (qg (wd _ _) (ka _ _)) (lJ (ha _ (qh _)) (hb _ (qh _)) (show 0<4294967296 by decide) (show 0<4294967296 by decide))))) (oc (ob_a G G cW) (zM 2 G (zM 4 G (zv G (aL (vq 12 G) (vq 13 G) (gZ zo)) (oc (ob_a G G (eU 11 G zk (lz0 0 G) bc (vq 14 G) zo)) (zv G (sT 15 G zk (lz0 0 G) (λ _=>cw _ _ _ _) (oY zo) aO) (zv G (aH .u64 zk zk (vq 16 G) (wu64 (zF (hI.ok _ (qh _)) zd))) (zv G (aL (vq 10 G) (vq 17 G) (dQ (qZ (ka _ _) (lJ (ha _ (qh _)) (hb _ (qh _)) hc (hI.ok _ (qh _)))))) (zM 3 G (zv G (aL (vq 18 G) (vq 19 G) (dQ (by rw [xq];exact lJ (ha _ (qh _)) (hb _ (qh _)) hc (hI.ok _ (qh _))))) (zA 20 G o0)))))))))))))))))))))) zk zk zk zk (zz (Wj 0 1 6 7 8 9) [zpH 5 138 _] ?_);refine ztA<|zgA [some (8,_)] [] (.adr 49 5 .none True::(Wl 50 [.adr 56 5 (.some _) True,.sto 0])) Wq (oc (ob_a G G cW) (zM 2 G (zM 4 G (zv G (aL (vq 1 G) (vq 2 G) (gZ zo)) (zM 5 G (zv G (nF (vq 4 G) (aF 4294967296 G) zd (nrem)) (zv G (aH .u32 zk zk (vq 5 G) (wu32 (qX _ zd))) (oc (ob_a G G (eU 0 G zk (lz0 0 G) bc (vq 3 G) zo)) (oc (cJ 7 G G G G zk (λ _=>cw _ _ _ _) (vq 6 G) aO (bJ zo)) o0))))))))) (zz (Wj 0 1 6 7 8 9) [zpH 5 138 _] ?_);refine znA<|zgA U4 [] (W6 57 [.v 7 _]) (W7 [.g 4,.o 2]) (zM 5 G (zv G (nG (vq 0 G) (aF 4294967296 G) zd (nquo (qZ (kb _ _) (by rw [xq];exact lJ (ha _ (qh _)) (hb _ (qh _)) hc (hI.ok _ (qh _)))))) (zA 1 G o0))) (zz (W8 0 1 6 8 7) [zpH 5 138 _] λ a w U=>?_);refine ak ?_;refine aa<|zg U6 [] (W6 26 [.v 8 _]) (W7 [.g 4,.o 2]) U (zM 3 G (zv G (aL (vq 0 G) ab (aW zo)) (zA 1 G o0))) (zz (W8 0 1 6 7 8) [zpH 5 138 _] λ a w U=>?_);refine aa ?_;have U:=St.sel U [0,1,2,3,4];exact ⟨n-1,by omega,k+1,_,_,by omega,hI.step' hb (ha _ (qh _)) hk zo,U⟩
  ·obtain rfl:k=m.length:=by simp at hb1;omega
   refine qM<|ai<|ai<|az<|aa<|zg [some (8,_)] [] (.adr 59 5 .none True::(Wl 60 [.adr 66 5 (.some _) True,.sto 0])) W7 U (oc (ob_a G G cW) (zM 2 G (zM 1 G (zv G (aK qe (aC (vq 2 G))) (zv G (aL (vq 1 G) (vq 3 G) (gZ zo)) (zM 3 G (zv G (aH .u32 zk zk (vq 5 G) (wu32 hc)) (oc (ob_a G G (eU 0 G zk (lz0 0 G) bc (vq 4 G) zo)) (oc (cJ 7 G G G G zk (λ _=>cw _ _ _ _) (vq 6 G) aO (bJ zo)) o0))))))))) (zz (Wa 0 1 6) [zpH 5 138 _] λ a w U=>?_);refine ak ?_;refine aa<|zg U6 [] (W6 20 [.v 6 _]) U1 U (zM 2 G (zv G (aL (vq 0 G) ab (aW zo)) (zA 1 G o0))) (zz (Wa 0 1 6) [zpH 5 138 _] λ a w U=>?_);refine aa ?_;have U:=St.sel U [0,1,2];exact ⟨n1-1,by omega,i+1,_,by omega,hI.done hi rfl,U⟩
 ·obtain rfl:i=l.length:=by simp at hb0;omega
  refine qM<|ai<|ai<|az<|zt<|zg U6 [] [.adr 67 5 .none True,.v 68 _,.v 4 _] Ud U (oc (ob_a G G cW) (zQ G (eE famN _) (.o (iB 0 G zk (lz0 0 G) ⟨hO.len.symm,qj _,by unfold maxLen;omega,hO.ok⟩ hO.len.symm)) (zA 1 G o0))) (zz U3 [zpH 5 138 _] λ a w U=>?_);refine aa<|qi<|al ?_ (am G U (zm 0 G));rw [JZ ha hb hO];exact aG
theorem lV (x:Nat):(bx [x]).length≤1∧val (bx [x])=x:=⟨AJ [x],by rw [ri];simp [val]⟩
theorem um (l:Ya)(x:Nat)(hls:l.length≤1099511627776)(hx:x<4294967296):Cn Tryz.prog 267 [(MgA l).va,(NumA .u32 (x:Nat)).va] ((MgA (aA (val l*x))).va):=by
 refine Cn.intro Tryz.func267 G zk nq (zy [(0,(MgA l).va),(1,(NumA .u32 (x:Nat)).va)] λ B w0 a U=>?_);refine qb<|zh WR WS U (zE G aX) (zz WT [] ?_);refine ztA<|zhA (Wd 5 [.v 4 _]) [.o 5] (zM 0 G (zM 1 G (zv G (dF (l:=[_]) (xs:=[.tmp 6]) bc zk nq nq ((fc hx)) (.o (vq 1 G)) G G) (zQ G (eE famA _) (.o (vq 2 G)) (zQ G (Bp l (bx [x]) hls (qg (lV x).1 zd)) (.p (vq 0 G) (vq 3 G)) (zA 4 G o0)))))) (zz U3 [] λ a w U=>?_);refine aa<|qi<|al ?_ (am G U (zm 0 G));rw [(lV x).2];exact rc
def rsSt (l:List Nat)(d n:Nat):List Nat:=List.replicate n 0++digs (l.length-n) (val (l.drop n)/d)
theorem gf {l:Ya}(h:n≤l.length):(rsSt l d n).length=l.length:=by simp [rsSt,ay];omega
theorem nS (l:Ya)(d:Nat):rsSt l d l.length=List.replicate l.length 0:=by simp [rsSt,digs]
theorem Bl :okL (rsSt l d n):=okL_append.2 ⟨λ x hx=>by rw [(xN.1 hx).2];decide,bY _ _⟩
theorem eX {l:Ya}(h:j<l.length):val (l.drop j)=l[j]+4294967296*val (l.drop (j+1)):=by
 rw [qL h];rfl
theorem GZ (hd:0<d):(x+4294967296*V)/d=4294967296*(V/d)+(V%d*4294967296+x)/d∧(x+4294967296*V)%d=(V%d*4294967296+x)%d:=by
 have e:x+4294967296*V=(V%d*4294967296+x)+d*(4294967296*(V/d)):=by
  have:=x4 V d;have e2:d*(4294967296*(V/d))=4294967296*(d*(V/d)):=by rw [vZ]
  generalize d*(V/d)=p at *;omega
 rw [e,ki _ _ hd,jW];exact ⟨by omega,rfl⟩
theorem EN (hd:0<d)(hx:x<4294967296):(V%d*4294967296+x)/d<4294967296:=by
 have h1:=qX V hd;rw [kh hd];have h2:(V%d+1)*4294967296≤d*4294967296:=qK _ h1;omega
theorem sM (hl:okL l)(hd:0<d)(hj:j<l.length):(rsSt l d (j+1)).set j ((val (l.drop (j+1))%d*4294967296+l[j])/d)=rsSt l d j:=by
 unfold rsSt;have e:l.length-j=(l.length-(j+1))+1:=by omega
 rw [eX hj,(GZ hd).1,e,xq (4294967296*_),xq _ (4294967296*_),sj _ _ _ (EN hd (hl _ (qh hj)))];rw [jf,qQ,fH _ _ _ _ (by simp)]
 rfl
theorem sN {l:Ya}(hd:0<d)(hj:j<l.length):(val (l.drop (j+1))%d*4294967296+l[j])%d=val (l.drop j)%d:=by
 rw [eX hj,(GZ hd).2]
theorem GY (hl:okL l):bx (rsSt l d 0)=aA (val l/d):=by
 unfold rsSt;rw [kq,jH,jL,xl,l3];exact qZ (kb _ _) (fF hl)
theorem un (l:Ya)(d:Nat)(hls:l.length≤1099511627776)(hd:0<d)(hd2:d<4294967296):Cn Tryz.prog 266 [(MgA l).va,(NumA .u32 (d:Nat)).va] (Tu [(MgN (aA (val l/d))).va,(NumA .u32 (val l%d:Nat)).va]):=by
 refine Cn.introW Tryz.func266 G zk nq (.cons (mo _).va (.cons (lD _ _).va .nil)) (pA (.cons (eA _).va (.cons (co _ _).va .nil))) (λ B w0 a hB0 U=>?_);have U:=zn [(0,(MgO l).va),(1,(NumA .u32 (d:Nat)).va)] [] U;have hl:=(U.magO 0 rfl).1;refine qb<|zh (W6 4) Ri U (zv G (aR aX) (zv G (aR (aF 0 G)) o0)) (zz WW [] λ a w U=>?_);refine zt<|dz (sts:=[]) (news:=[⟨12,138,slH _ _,some 2,_,none⟩]) (sp:=[.v 10 _,.v 11 _,.alc 0,.adr 6 12 .none True]) [.g 0,.g 1,.g 2,.g 3] [(6,12)] [zpH 6 138 _] U (zM 0 G (zv G (aK qe (aC (vq 0 G))) (oc (eF G G G fA (vq 1 G) (vq 1 G) zo) (oc (ob_a G G nA) o0)))) zk zk zk ⟨⟨3,rfl⟩,trivial⟩ G zk (zz WW [zpH 6 138 _] ?_);refine ztA<|zgA U4 [] [.v 7 _] Ut (zv G (aR (aF 0 G)) o0) (zz (W8 0 1 4 5 7) [zpH 6 138 _] ?_);refine ztA<|zsA<|zgA U4 [] (Wb 13 [.v 8 _]) (Wi [.o 3]) (zM 0 G (zv G (aK qe (aC (vq 0 G))) (zv G (cH (vq 1 G) ab (wi64 zo zo)) (zA 2 G o0)))) (zz (Wj 0 1 4 5 7 8) [zpH 6 138 _] λ a w U=>?_);refine aa<|ql ?_;have U:=St.sel U [0,1,4,5];refine wp_loop_ghost (λ n a w=>n≤l.length∧St B w0 44 [(0,(MgO l).va),(1,(NumA .u32 (d:Nat)).va),(7,(NumA .u64 ((val (l.drop n)%d:Nat):Int)).va),(8,In ((n:Int)-1))] [⟨6,138,slH l.length l.length,Nums .u32 (rsSt l d n)⟩] a w) (l.length) ?_ ?_
 ·exact ⟨qj _,by rw [nS,show val (l.drop l.length)%d=0 from by simp];exact U⟩
 intro n a w hI;obtain ⟨hn,U⟩:=hI;have hmd:=qX (val (l.drop n)) hd;refine qb<|qb<|zg U6 [] (W6 16) Ra U (zM 3 G (zv G (dP (vq 0 G) ab) o0)) (zz (W8 0 1 7 8 17) [zpH 6 138 _] λ a w U=>?_);refine zJ 4 U G (λ hb0=>?_) (λ hb0=>?_)
 ·obtain ⟨j,rfl⟩:∃ j,n=j+1:=⟨n-1,by simp at hb0;omega⟩;rw [show ((j+1:Nat):Int)-1=(j:Int) from by omega] at U;have hj:j<l.length:=by omega
  have hx:=hl _ (qh hj);refine qk<|zt<|ql<|qb<|zg U6 [] (W9 20 [.v 9 _]) (Wp [.o 8]) U (zM 2 G (zv G (mF (vq 0 G) (aF 4294967296 G) (rb zo)) (zM 0 G (zM 3 G (zv G (bO bc (aC (vq 2 G)) (vq 3 G) hj) (zv G (ao (vq 4 G) aO) (zv G (aH .u64 zk zk (vq 5 G) (wu64 zo)) (zv G (aL (vq 1 G) (vq 6 G) (dQ zo)) (zA 7 G o0))))))))) (zz (W8 0 1 7 8 9) [zpH 6 138 _] ?_);refine ztA<|zgA [some (8,_)] [] (.adr 28 6 .none True::(Wl 29 [.adr 35 6 (.some _) True,.sto 0])) Wi (oc (ob_a G G cW) (zM 3 G (zM 4 G (zM 1 G (zv G (aH .u64 zk zk (vq 3 G) (wu64 zo)) (zv G (nG (vq 2 G) (vq 4 G) zo (nquo (zF (EN hd hx) zd))) (zv G (aH .u32 zk zk (vq 5 G) (wu32 (EN hd hx))) (oc (ob_a G G (eU 0 G zk (lz0 0 G) bc (vq 1 G) hj)) (oc (cJ 7 G G G G zk (λ _=>cw _ _ _ _) (vq 6 G) aO (bJ (by rw [gf zo];omega))) o0))))))))) (zz (W8 0 1 7 8 9) [zpH 6 138 _] ?_);refine znA<|zgA U4 [] (Ww 36 [.v 7 _]) (We [.g 3,.o 4]) (zM 4 G (zM 1 G (zv G (aH .u64 zk zk (vq 1 G) (wu64 zo)) (zv G (nF (vq 0 G) (vq 2 G) zo (nrem)) (zA 3 G o0))))) (zz (Wf 0 1 8 7) [zpH 6 138 _] λ a w U=>?_);refine ak ?_;refine aa<|zg U6 [] (W6 18 [.v 8 _]) Rb U (zM 2 G (zv G (cH (vq 0 G) ab (wi64 zo zo)) (zA 1 G o0))) (zz (Wf 0 1 7 8) [zpH 6 138 _] λ a w U=>?_);refine aa ?_;have U:=St.sel U [0,1,2,3];rw [sM hl hd hj,sN hd hj] at U;exact ⟨j,by omega,by omega,U⟩
 ·obtain rfl:n=0:=by simp at hb0;omega
  refine qM<|ai<|ai<|az<|zt<|zg U6 [] (.adr 40 6 .none True::(Wb 41 (W6 4))) [.o 4,.o 5] U (oc (ob_a G G cW) (zQ G (eE famN _) (.o (iB 0 G zk (lz0 0 G) ⟨by rw [gf (zr _)],qj _,by unfold maxLen;omega,Bl⟩ (by rw [gf (zr _)]))) (zM 2 G (zv G (aH .u32 zk zk (vq 2 G) (wu32 zo)) (zA 1 G (zA 3 G o0)))))) (zz (Wc 4 5) [zpH 6 138 _] λ a w U=>?_);refine aa<|qi<|al ?_ (aP (rs:=[.tmp 4,.tmp 5]) G U (.tmp (zm 0 G) (.tmp (zm 1 G) .nil)) zd);rw [GY hl,xl];exact aG
theorem J7 (l:Ya)(hls:l.length≤1099511627776):Cn Tryz.prog 260 [(MgA l).va] ((MgA (aA (val l/2))).va):=by
 refine Cn.intro Tryz.func260 G zk nq (zy [(0,(MgA l).va)] λ B w0 a U=>?_);refine qb<|zh UA Rd U (zE G aX) (zz Re [] ?_);refine ztA<|zhA (W6 6 (.v 5 _::(W6 8 (W6 3)))) [.g 1,.o 5] (zM 0 G (zQ G (un l 2 hls zd zd) (.p (vq 0 G) (aF 2 G)) (zV 1 G (zv G (aQ (vq 2 G) G) (zv G (aQ (vq 2 G) G) (zA 3 G (zA 4 G o0))))))) (zz (Wc 2 3) [] ?_);refine ztA<|zhA [.v 10 _,.v 2 _] Uw (zM 1 G (zA 0 G o0)) (zz Ux [] λ a w U=>?_);refine aa<|qi<|al ?_ (am G U (zm 0 G));exact rc
theorem O5 {l:Ya}(h:0<l.length):val l%2=l[0]%2:=by
 have:=eX h;rw [xl] at this;omega
theorem J9 (l:Ya)(h:0<l.length):Cn Tryz.prog 259 [(MgA l).va] (Bo (((val l%2:Nat):Int)==((0:Nat):Int))):=by
 refine Cn.intro Tryz.func259 G zk nq (zy [(0,(MgA l).va)] λ B w0 a U=>?_);refine qb<|zh UA Rd U (zE G aE) (zz Re [] ?_);refine ztA<|zhA (Wd 3 [.v 2 _]) [.o 5] (zM 0 G (zv G (bO bc (vq 0 G) (aF 0 G) h) (zv G (ao (vq 1 G) aO) (zv G (nF (vq 2 G) (aF 2 G) zd (nrem)) (zv G (bC (vq 3 G) (aF 0 G)) (zA 4 G o0)))))) (zz Ux [] λ a w U=>?_);refine aa<|qi<|al ?_ (am G U (zm 0 G));rw [O5 h];exact aG
theorem cm_le0 :cmL (aA X) (aA Y)≤0↔X≤Y:=by
 rw [fV];split
 ·omega
 ·split <;> omega
theorem Qv {R D q:Nat}(h1:D*q≤R)(h2:R<D*(q+1)):q=R/D:=by
 rw [zb] at h1 h2;exact (Nat.div_eq_of_lt_le h1 h2).symm
theorem Mv {R D:Nat}(hD:0<D)(hR:R<D*4294967296)(hl:(aA D).length≤1099511627776):Cn Tryz.prog 268 [(MgA (aA R)).va,(MgA (aA D)).va] ((NumA .u32 (R/D:Nat)).va):=by
 refine Cn.intro Tryz.func268 G zk nq (zy [(0,(MgA (aA R)).va),(1,(MgA (aA D)).va)] λ B w0 a U=>?_);refine qb<|zh WR WS U (zv G (aR (aF 0 G)) o0) (zz WT [] ?_);refine ztA<|zhA UY WZ (zv G (aR (aF 0 G)) o0) (zz WW [] ?_);refine ztA<|zhA U5 Ut (zv G (aR (aF 4294967295 G)) o0) (zz UZ [] λ a w U=>?_);refine zt<|ql ?_;have U:=St.sel U [0,1,3,4];refine wp_loop_ghost (λ n a w=>∃ lo hi:Nat,(lo≤hi∧hi≤4294967295∧D*lo≤R∧R<D*(hi+1)∧n=hi-lo)∧St B w0 28 [(0,(MgA (aA R)).va),(1,(MgA (aA D)).va),(5,(NumA .u64 ((lo:Nat):Int)).va),(6,(NumA .u64 ((hi:Nat):Int)).va)] [] a w) (4294967295) ?_ ?_
 ·exact ⟨0,4294967295,⟨by decide,by decide,by omega,hR,rfl⟩,U⟩
 intro n a w hI;obtain ⟨lo,hi,⟨i1,i2,i3,i4,i5⟩,U⟩:=hI;refine qb<|qb<|zh (Wb 8) RT U (zM 2 G (zM 3 G (zv G (aN (vq 0 G) (vq 1 G)) o0))) (zz (W8 0 1 5 6 10) [] λ a w U=>?_);refine zJ 4 U G (λ hb0=>?_) (λ hb0=>?_)
 ·have hlt:lo<hi:=by simp at hb0;omega
  refine qk<|aa<|ql<|qb<|zh (Wd 11 [.v 7 _]) (Wp [.o 5]) U (zM 2 G (zM 3 G (zv G (aL (vq 0 G) (vq 1 G) (dQ zo)) (zv G (aL (vq 2 G) (aF 1 G) (dQ zo)) (zv G (nG (vq 3 G) (aF 2 G) zd (nquo zo)) (zA 4 G o0)))))) (zz (W8 0 1 5 6 7) [] ?_);refine ztA<|zhA (WG 16) (Wi [.o 6]) (zM 1 G (zM 4 G (zv G (aH .u32 zk zk (vq 1 G) (wu32 zo)) (zQ G (um (aA D) ((lo+hi+1)/2) hl zo) (.p (vq 0 G) (vq 2 G)) (zM 0 G (zQ G (rz _ _) (.p (vq 3 G) (vq 4 G)) (zv G (l9 (vq 5 G) ab) o0))))))) (zz (Wj 0 1 5 6 7 22) [] λ a w U=>?_);refine zJ 5 U G (λ hb1=>?_) (λ hb1=>?_)
  ·have hq:D*((lo+hi+1)/2)≤R:=by have:=cm_le0.1 (qu hb1);rwa [aI] at this
   refine zh [.v 23 _,.v 5 _] (We [.g 3,.o 1]) U (zM 4 G (zA 0 G o0)) (zz (Wf 0 1 6 5) [] λ a w U=>?_);refine ak ?_;refine aa ?_;have U:=St.sel U [0,1,3,2];exact ⟨hi-(lo+hi+1)/2,by omega,(lo+hi+1)/2,hi,⟨by omega,i2,hq,i4,rfl⟩,U⟩
  ·have hq:R<D*((lo+hi+1)/2):=by have h9:=jj λ h=>qw hb1 (cm_le0.2 h);rwa [aI] at h9
   refine zh (W6 24 [.v 6 _]) UG U (zM 4 G (zv G (cH (vq 0 G) (aF 1 G) (wsub' zo zo)) (zA 1 G o0))) (zz (Wf 0 1 5 6) [] λ a w U=>?_);refine ak ?_;refine aa ?_;have U:=St.sel U [0,1,2,3];exact ⟨(lo+hi+1)/2-1-lo,by omega,lo,(lo+hi+1)/2-1,⟨by omega,by omega,i3,by rw [jP zo];exact hq,rfl⟩,U⟩
 ·obtain rfl:lo=hi:=by simp at hb0;omega
  refine qM<|ai<|ai<|az<|zt<|zh (W6 26 [.v 4 _]) Ud U (zM 2 G (zv G (aH .u32 zk zk (vq 0 G) (wu32 zo)) (zA 1 G o0))) (zz U3 [] λ a w U=>?_);refine aa<|qi<|al ?_ (am G U (zm 0 G));rw [← Qv i3 i4];exact aG
def RowX (b c:Nat)(l r:List Nat):VA where
 p B v w:=∃ g,v=.slice (some ⟨g,0,none⟩) l.length c∧b≤g∧B≤g∧c=(l++r).length∧c≤maxLen∧w.heap[g]?=some (.cells ((l++r).map λ (x:Nat)=>Value.int .u32 x).toArray U32 (0,0))
 deps:=[U32]
 cg:=by
  rintro B v w w' hg ⟨g,h1,h2,h3,h4,h5,h6⟩;exact ⟨g,h1,h2,h3,h4,h5,hg.heap h6⟩
 wr:=by
  rintro B v w w' g c T fz hg hT hB hW ⟨g',h1,h2,h3,h4,h5,h6⟩;refine ⟨g',h1,h2,h3,h4,h5,?_⟩;rw [hW.block g' λ hh=>?_]
  ·exact h6
  ·subst hh;rw [hg] at h6;simp only [Option.some.injEq,Obj.cells.injEq] at h6;exact hT (by simp [h6.2.1])
theorem J4 {b c B:Nat}(h:(RowX b c l r).p B v w):gF w b U32 v.ownBlock:=by
 obtain ⟨g,rfl,h2,_,_,_,h6⟩:=h;intro g' e;have e':g=g':=by injection e
 subst e';exact ⟨h2,_,_,h6⟩
theorem yN (cs:Array Yn):w.grownBy (w.setRow g cs) (some g):=by
 have h:=Wr.setRow w g cs;exact ⟨h.os,h.tape,h.output,by rw [h.size];exact qj _,λ k _ hk=>h.block k λ e=>hk (by rw [e])⟩
theorem uk {S T1:Yh}{b c B:Nat}{l r xs:Ya}{v u:Yn}{it:TypeInfo}(hS:P.underlying S=some (.slice U32))(hi:P.info? U32=some it)(hsz:it.size=1)(hroom:xs.length≤r.length)
  (hv:(RowX b c l r).p B v w) (hu:(MgA xs).va.p B u w) :
  ∃ v' w',(Builtin.append_ #[S,S] T1 #[v,u]).run P w=.ok v' w'∧(RowX b c (l++xs) (r.drop xs.length)).p B v' w'∧w.grownBy w' v.ownBlock∧gF w b U32 v.ownBlock∧blk v'=blk v:=by
 have hro:=J4 hv;obtain ⟨g,rfl,h2,hBg,h4,h5,h6⟩:=hv;obtain ⟨A,c',rfl,hm⟩:=gS hu;have hlen:l.length+xs.length≤c:=by rw [h4,qv];omega
 have fin:(RowX b c (l++xs) (r.drop xs.length)).p B (.slice (some ⟨g,0,none⟩) (l.length+xs.length) c) (w.setRow g (((l++xs)++r.drop xs.length).map λ (x:Nat)=>Value.int .u32 x).toArray) :=
  ⟨g,by rw [qv],h2,hBg,by rw [h4];simp only [qv,xW];omega,h5,setRow_heap w g _ _ _ _ h6⟩
 cases A with
 | none =>
  have hx:xs=[]:=by
   apply xu;apply Decidable.byContradiction;intro hn;obtain ⟨_,_,e,_⟩:=hm.at_ zo;cases e
  subst hx;have hown:w.ownsRow b U32 1 (.slice (some ⟨g,0,none⟩) l.length c) l.length (l.map λ (x:Nat)=>Value.int .u32 x):=⟨by simp,.inr ⟨g,c,_,rfl,h2,h6,by omega,h5,by simp [h4],by simp⟩⟩;refine ⟨_,w,lF b S T1 U32 it 1 hS hi _ _ c' _ hown,⟨g,by simp,h2,hBg,by simpa using h4,h5,by simpa using h6⟩,⟨rfl,rfl,rfl,qj _,λ _ _ _=>rfl⟩,hro,rfl⟩
 | some ad =>
  have hnew:∀ j u,(xs.map λ (x:Nat)=>Value.int .u32 x)[j]?=some u→w.cell? (ad.add j)=some u:=λ j u hj=>by
   have hjx:j<xs.length:=by have:=(List.getElem?_eq_some_iff.1 hj).1;simpa using this
   obtain ⟨b',o,e,_,_,h8⟩:=hm.at_ zo;injection e with e;subst e;rw [Ag,h8 j hjx];simpa [hjx] using hj
  have hr:=run_append_room (P:=P) w S T1 U32 it hS hi g l.length c _ h6 ad xs.length c' (xs.map λ (x:Nat)=>Value.int .u32 x) (by simp [hsz]) hnew (λ u hu=>by obtain ⟨_,_,rfl⟩:=qr.1 hu;rfl) hlen (by rw [hsz];simp;omega);refine ⟨_,_,hr,?_,yN _,hro,rfl⟩;have e:(((l++r).map λ (x:Nat)=>Value.int .u32 x).toArray.toList.take (l.length*it.size)++(xs.map λ (x:Nat)=>Value.int .u32 x)++((l++r).map λ (x:Nat)=>Value.int .u32 x).toArray.toList.drop (l.length*it.size+(xs.map λ (x:Nat)=>Value.int .u32 x).length))=((l++xs)++r.drop xs.length).map λ (x:Nat)=>Value.int .u32 x:=by
   rw [hsz];simp [wh,List.map_drop]
  rw [e];exact fin
section
variable {P:Program}{R:Rg}{Q:Exit→Act→World→Prop}{B i:Nat}{w0:Bs}
theorem Jh {S:Yh}{n:Nat}{x y:Yj}(hM:oi P S U32 .u32)(hB:B≤w0.w.heap.size)(hx:Has R B w0 i x (In 0))(hy:Has R B w0 i y (In n))(hn:n≤17592186044416):Wv P Q R B w0 i (.makeSlice S x y) (RowX w0.w.heap.size n [] (List.replicate n 0)) :=
 bk λ d T ps af gd a w av=>by
  obtain ⟨h1,h2,h3,h4,h5⟩:=hM;obtain ⟨it,hi,hz⟩:=j3.1 h2;have hsz:it.size=1:=by rw [hi] at h3;simpa using h3
  have hby:=h5 it hi;have hm:=run_make (P:=P) w S U32 it (.int .u32 0) h1 hi hz .i64 .i64 0 n zo zo (by
   have:it.bytes*n≤8*n:=qK _ hby;have h6:((it.bytes*n:Nat):Int)≤281474976710656:=by omega
   rwa [xG] at h6) zo
  have e1:=bj (hx a w av);have e2:=bj (hy a w av);have hcells:madeCells (Value.int .u32 0).cells (n*it.size)=((List.replicate n 0).map λ (x:Nat)=>Value.int .u32 x).toArray:=by
   rw [hsz,z8];apply kB;intro j;simp only [madeCells,Value.cells,kz];by_cases hj:j<n
   ·simp [hj,vC]
   ·simp [hj]
  simp only [xa] at hm;rw [hcells] at hm;refine ⟨.slice (some ⟨w.heap.size,0,none⟩) 0 n,w.alloc (.cells ((List.replicate n 0).map λ (x:Nat)=>Value.int .u32 x).toArray U32),?_,Grow.alloc _ _,⟨w.heap.size,rfl,av.base.size,qg hB av.base.size,by simp,by unfold maxLen;omega,by simpa using heap_alloc_new w _⟩⟩;simp [execOp,e1,e2,hm]
end
open Rg in
theorem KK {Q:Yd}{B N:Nat}{id:Nat}{ops:Yg}{sp:Yu}(n:Nat)(src:Ya)(i1 i2:Nat){S T1 T2:Yh}{s u d e c0:Nat}{ps1 ps2:Yv}{af1 af2:Yw}{l r xs:Ya}{A2:VA}{it:TypeInfo}
  (h:St B w0 N Γ Λ a w) (hob:Obs P Q ⟨ops,N,Γ,lesN Λ,sp,λ i=>List.range i⟩ B w0 0 n) (hn2:ops.size=n+2) (hk:Rg.chk ⟨ops,N,Γ,lesN Λ,sp,λ i=>List.range i⟩=true)
  (ho1:ops[n]?=some ⟨some d,.call ⟨.builtin .append,#[.tmp s,.tmp u],#[S,S]⟩,T1,ps1,af1,none⟩) (ho2:ops[n+1]?=some ⟨some e,.assign (.tmp d),T2,ps2,af2,none⟩)
  (hi1:i1<n) (h1:sp[i1]?=some (.v s (RowX w0.w.heap.size c0 l r))) (hi2:i2<n) (h2:sp[i2]?=some (.v u A2)) (hA2:∀ w u,A2.p B u w→Kept w0 w→(MgA xs).va.p B u w)
  (hS:P.underlying S=some (.slice U32)) (hi:P.info? U32=some it) (hsz:it.size=1) (hroom:xs.length≤r.length) (hde:(d != e)=true) (hd:d<N) (he:e<N)
  (hsrc:src.all (λ k=>match Γ[k]? with|some y => !y.2.deps.contains U32&&Rg.outG ⟨ops,N,Γ,lesN Λ,sp,λ i=>List.range i⟩ y.1|none=>false)=true)
  (hΛ:Λ.all (λ l=>l.T != U32 && !l.A.deps.contains U32&&l.s != d&&l.s != e)=true)
  (hQ:∀ a w,St B w0 N ((e,RowX w0.w.heap.size c0 (l++xs) (r.drop xs.length))::src.filterMap (λ k=>Γ[k]?)) Λ a w→Q .normal a w):(Code.region id ops false).wp P Q a w:=by
 have hles0:∀ y∈lesN Λ,y.cr=none∧y.st=none∧(⟨y.s,y.T,y.H,y.A0⟩:Lc)∈Λ:=λ y hy=>by
  obtain ⟨l',hl',rfl⟩:=qr.1 hy;exact ⟨rfl,rfl,hl'⟩
 refine Rg.linK (R:=⟨ops,N,Γ,lesN Λ,sp,λ i=>List.range i⟩) (m:=2) hn2 G hk h (λ y hy _=>(hles0 y hy).2.2) (λ i hi=>hob.all i zo zo) λ a1 w1 hinv=>?_;have hcl:∀ deps,Rg.clash ⟨ops,N,Γ,lesN Λ,sp,λ i=>List.range i⟩ (λ k=>decide (k<n)) deps=false:=λ deps=>by
  unfold Rg.clash;rw [xv];intro y hy;rw [(hles0 y hy).2.1];simp
 have hv:=hinv.v i1 _ s _ h1 rfl (qH hi1) (hcl _);have hu:=hA2 _ _ (hinv.v i2 _ u _ h2 rfl (qH hi2) (hcl _)) hinv.base;have hB:B≤w0.w.heap.size:=hinv.lo _ (.inl (qj _));obtain ⟨v',w',hr,r1,r2,r3,_⟩:=uk (T1:=T1) hS hi hsz hroom hv hu;have hdsz:d<a1.tmps.size:=by rw [hinv.size];exact hd
 have hesz:e<(a1.put (some d) v').tmps.size:=by rw [size_put,hinv.size];exact he
 have hne:d≠e:=by simpa using hde
 rw [List.range'_succ,qy];refine bA (R:=⟨ops,N,Γ,lesN Λ,sp,λ i=>List.range i⟩) ho1 G (bf (w':=w') (v:=v') (by simp [execOp,resolve,invoke,builtin,hr,Result.andThen]) ?_);rw [List.range'_succ,qy];refine bA (R:=⟨ops,N,Γ,lesN Λ,sp,λ i=>List.range i⟩) ho2 G (bf (w':=w') (v:=v') ?_ (hQ _ _ ?_))
 ·have:=aM a1 d v' hdsz;simp [execOp,this]
 ·have hother:∀ t,t≠d→t≠e→((a1.put (some d) v').put (some e) v').eval (.tmp t)=a1.eval (.tmp t):=λ t h3 h4=>by
   rw [an _ _ _ _ h4,an _ _ _ _ h3]
  have hlc:∀ l'∈Λ,l'.T≠U32∧U32 ∉ l'.A.deps∧l'.s≠d∧l'.s≠e:=λ l' hl'=>by
   have:=qf.1 hΛ l' hl';simp only [qm,bne_iff_ne,qz,qC,qn] at this;exact ⟨this.1.1.1,this.1.1.2,this.1.2,this.2⟩
  have hcur:∀ l'∈Λ,(⟨l'.s,l'.T,l'.H,none,l'.A,none⟩:Le)∈lesN Λ:=λ l' hl'=>qr.2 ⟨l',hl',rfl⟩;refine ⟨hinv.lo,hinv.defers.grown r2 r3 rfl,by rw [size_put,size_put];exact hinv.size,?_,?_,?_,?_⟩
  ·exact ⟨r2.os.trans hinv.base.os,r2.tape.trans hinv.base.tape,r2.output.trans hinv.base.output,qg hinv.base.size r2.size,λ k hk hf =>
    (r2.block k (qE hk hinv.base.size) (λ e=>by have:=(r3 k e.symm).1;omega)).trans (hinv.base.block k hk hf)⟩
  ·intro y hy;rcases qt.1 hy with rfl|hy
   ·show (RowX w0.w.heap.size c0 (l++xs) (r.drop xs.length)).p B (((a1.put (some d) v').put (some e) v').eval (.tmp e)) w';rw [aM _ _ _ hesz];exact r1
   ·obtain ⟨k,hk1,hk2⟩:=qS.1 hy;have hs:=qf.1 hsrc k hk1;simp only [hk2,qm,qz,qC,qn] at hs;have hout:∀ q,q<ops.size→Rg.dst ⟨ops,N,Γ,lesN Λ,sp,λ i=>List.range i⟩ q≠some y.1:=λ q hq=>by
     have:=qf.1 hs.2 q (by simpa using hq);simpa using this
    have g1:y.1≠d:=λ e1=>hout n zo (by unfold Rg.dst;rw [ho1,e1];rfl);have g2:y.1≠e:=λ e1=>hout (n+1) zo (by unfold Rg.dst;rw [ho2,e1];rfl);rw [hother _ g1 g2];exact VA.grown (hinv.g y (qa hk2) (λ q hq hdq=>absurd hdq (hout q hq)) (hcl _)) r2 r3 hB hs.1
  ·intro l' hl';obtain ⟨g1,g2,g3,g4⟩:=hlc l' hl';obtain ⟨g,cs,e1,e2,e3,e4⟩:=hinv.c _ (hcur l' hl') l'.A rfl;refine ⟨g,cs,by rw [hother _ g3 g4];exact e1,e2,?_,As.grown e4 r2 r3 hB g2⟩;rw [r2.block g (Array.getElem?_eq_some_iff.1 e3).1 (λ e5=>by
    obtain ⟨_,c,fz,e6⟩:=r3 g e5.symm;rw [e3] at e6;injection e6 with e6;injection e6 with _ e6 _;exact g1 e6)]
   exact e3
  ·intro l1 hl1 l2 hl2 hne';obtain ⟨_,_,g3,g4⟩:=hlc l1 hl1;obtain ⟨_,_,g5,g6⟩:=hlc l2 hl2;rw [hother _ g3 g4,hother _ g5 g6];exact hinv.x _ (hcur l1 hl1) _ (hcur l2 hl2) hne' G rfl
def TwN (l:List Nat):As where
 n:=1
 ag:=false
 p B cs w:=okL l∧∃ g,cs=[.slice (some ⟨g,0,none⟩) l.length (l.length+1)]∧B≤g∧l.length+1≤maxLen∧w.heap[g]?=some (.cells ((l++[7777]).map λ (x:Nat)=>Value.int .u32 x).toArray U32 (0,0))
 deps:=[U32]
 len:=by rintro B cs w ⟨_,g,rfl,_⟩;rfl
 one:=by rintro B cs w ⟨_,g,rfl,_⟩ x hx;simp at hx;subst hx;rfl
 ag1:=λ _=>rfl
 cg:=by
  rintro B cs w w' hg ⟨h0,g,rfl,h1,h2,h3⟩;exact ⟨h0,g,rfl,h1,h2,hg.heap h3⟩
 wr:=by
  rintro B cs w w' g c T fz hg hT hB hW ⟨h0,g',rfl,h1,h2,h3⟩;refine ⟨h0,g',rfl,h1,h2,?_⟩;rw [hW.block g' λ hh=>?_]
  ·exact h3
  ·subst hh;rw [hg] at h3;simp only [Option.some.injEq,Obj.cells.injEq] at h3;exact hT (by simp [h3.2.1])
theorem u7 {B g:Nat}(ok:okL l)(h2:l.length+1≤maxLen)(h3:w.heap[g]?=some (.cells ((l++[7777]).map λ (x:Nat)=>Value.int .u32 x).toArray U32 (0,0))):Mag B w (some ⟨g,0,none⟩) (l.length+1) (l++[7777]) :=
 Mag.own h3 (okL_append.2 ⟨ok,fc zd⟩) (by simp) h2 (λ j hj=>by rw [List.getElem?_toArray,List.getElem?_map,List.getElem?_eq_getElem hj];rfl)
theorem Ei :Wk (TwN l).va (MgA l).va:=λ B v w ⟨cs,⟨ok,g,e,h1,h2,h3⟩,hv⟩=>by
 subst e;have e2:v=.slice (some ⟨g,0,none⟩) l.length (l.length+1):=hv;subst e2;have:=eG ((u7 (B:=B) ok h2 h3).take l.length) (n:=l.length) (by simp);rwa [kn] at this
theorem FG (l:Ya):FreeA (TwN l) (TwN l):=⟨rfl,rfl,λ B B' cs w hB h=>by
 obtain ⟨ok,g,e,h1,h2,h3⟩:=h;exact ⟨ok,g,e,qg hB h1,h2,h3⟩⟩
def RIT (x:RI):As:=cat [BoA x.neg,TwN x.mag]
theorem pB (x:RI):FreeA (RIT x) (RIT x):=bN (.cons (ep _) (.cons (FG _) .nil))
def SlK (v:Value)(h:v.oneCell'=true):As where
 n:=1
 ag:=false
 p _ cs _:=cs=[v]
 deps:=[]
 len:=by rintro B cs w rfl;rfl
 one:=by rintro B cs w rfl c hc;simp at hc;subst hc;exact h
 ag1:=λ _=>rfl
 cg:=λ _ _ _ _ _ h=>h
 wr:=λ _ _ _ _ _ _ _ _ _ _ _ _ h=>h
theorem L6 :Wk (EqV v) (SlK v h).va:=λ _ u _ e=>⟨[v],rfl,e⟩
theorem St.toRow {B N:Nat}(h:St B w0 N Γ Λ a w)(k:Nat)(hm:Γ[k]?=some (s,RowX w0.w.heap.size c l r))(hΛ:Λ.all (λ m=>m.T != U32)=true):
  ∃ g,B≤g∧c=(l++r).length∧c≤maxLen∧St B w0 N (Γ.set k (s,EqV (.slice (some ⟨g,0,none⟩) l.length c))) (Λ++[⟨s,U32,slH l.length c,Nums .u32 (l++r)⟩]) a w:=by
 obtain ⟨g,hv,h2,h3,h4,h5,h6⟩:=h.vals _ (qa hm);have hd:∀ m∈Λ,blk (a.eval (.tmp m.s))≠some g:=by
  intro m hm2 hh;obtain ⟨g',cs,e1,_,e3,_⟩:=h.locs m hm2;rw [e1,m.H.ok] at hh;injection hh with hh;subst hh;rw [e3] at h6;simp only [Option.some.injEq,Obj.cells.injEq] at h6;have:=qf.1 hΛ m hm2;simp [h6.2.1] at this
 have hv':a.eval (.tmp s)=.slice (some ⟨g,0,none⟩) l.length c:=hv;have hg:blk (a.eval (.tmp s))=some g:=by rw [hv'];rfl
 refine ⟨g,h3,h4,h5,h.lo,h.defers,h.size,h.base,λ x hx=>?_,λ x hx=>?_,λ x hx y hy hne=>?_⟩
 ·rcases qB hx with hx|rfl
  ·exact h.vals x hx
  ·exact hv'
 ·rcases qp.1 hx with hx|hx
  ·exact h.locs x hx
  ·obtain rfl:=qo.1 hx;exact ⟨g,_,hv',.inl h2,h6,rfl⟩
 ·rcases qp.1 hx with hx|hx <;> rcases qp.1 hy with hy|hy
  ·exact h.dis x hx y hy hne
  ·obtain rfl:=qo.1 hy;rw [hg];exact hd x hx
  ·obtain rfl:=qo.1 hx;rw [hg];exact λ e=>hd y hy e.symm
  ·obtain rfl:=qo.1 hx;obtain rfl:=qo.1 hy;exact absurd G hne
section
variable {P:Program}{R:Rg}{Q:Exit→Act→World→Prop}{B i:Nat}{w0:Bs}
theorem JP {d s e g c:Nat}{cr:Yt}{l r xs:Ya}{x y:Yj}{S ty:Yh}{it:TypeInfo}
  (hs:R.sp[i]?=some (.cal d (EqV (.slice (some ⟨g,0,none⟩) (l.length+xs.length) c)) e)) (he:R.les[e]?=some ⟨s,U32,slH l.length c,cr,Nums .u32 (l++r),some (i,Nums .u32 (l++xs++r.drop xs.length))⟩) (ho:R.ops[i]?=some ⟨some d,.call ⟨.builtin .append,#[x,y],#[S,S]⟩,ty,ps,af,none⟩)
  (hS:P.underlying S=some (.slice U32)) (hi:P.info? U32=some it) (hsz:it.size=1) (hroom:xs.length≤r.length) (hc:c=(l++r).length) (hmx:c≤maxLen) (hx:Has R B w0 i x (EqV (.slice (some ⟨g,0,none⟩) l.length c))) (hsl:Has R B w0 i (.tmp s) (EqV (.slice (some ⟨g,0,none⟩) l.length c))) (hy:Has R B w0 i y (MgA xs).va):R.Ob P Q B w0 i:=by
 unfold Rg.Ob;simp only [hs,he];intro a w av g' cs h1 hB h3 h4 _ K hK;have e1:a.eval x=_:=hx a w av;have e2:a.eval (.tmp s)=.slice (some ⟨g,0,none⟩) l.length c:=hsl a w av;have eg:g=g':=by
  rw [h1] at e2;have:some g'=some g:=qq blk e2;injection this with this;exact this.symm
 subst eg;have h4':cs=(l++r).map λ (x:Nat)=>Value.int .u32 x:=h4;obtain ⟨v',w',hr,hX,hgr,_,hbk⟩:=uk (P:=P) (S:=S) (T1:=ty) (b:=g) (c:=c) (B:=B) (l:=l) (r:=r) (xs:=xs) (w:=w) hS hi hsz hroom ⟨g,rfl,qj _,hB,hc,hmx,by rw [← h4'];exact h3⟩ (hy a w av);obtain ⟨g2,q1,_,_,q4,q5,q6⟩:=hX;refine bA ho G (bf (w':=w') (v:=v') (by simp [execOp,resolve,invoke,builtin,e1,hr,Result.andThen]) ?_);have eg2:g2=g:=by
  rw [q1] at hbk;injection hbk
 subst eg2;exact hK v' _ w' ⟨hgr.os,hgr.tape,hgr.output,hgr.size,λ k hk hf=>hgr.block k hk λ e=>hf (by injection e)⟩ q6 G (by rw [q1,qv];rfl)
end
theorem oneK :(Value.slice (some ⟨g,0,none⟩) n c).oneCell'=true:=rfl
theorem St.twin {B N:Nat}(h:St B w0 N Γ Λ a w){s s2 T2 g c:Nat}{H2:Hd}{b:Bool}{l:Ya}(k e2 e3:Nat)(hm:Γ[k]?=some (s,EqV (.slice (some ⟨g,0,none⟩) l.length c)))(he2:Λ[e2]?=some ⟨s2,T2,H2,cat [BoA b,SlK (.slice (some ⟨g,0,none⟩) l.length c) oneK]⟩)
  (he3:Λ[e3]?=some ⟨s,U32,slH l.length c,Nums .u32 (l++[7777])⟩) (ok:okL l) (hc:c=l.length+1) (hcm:c≤maxLen) (hB:B≤g):St B w0 N Γ (Λ.set e2 ⟨s2,T2,H2,RIT ⟨b,l⟩⟩) a w:=by
 obtain ⟨g3,cs3,f1,_,f3,f4⟩:=h.locs _ (qa he3);have f4':cs3=(l++[7777]).map λ (x:Nat)=>Value.int .u32 x:=f4;have f5:a.eval (.tmp s)=.slice (some ⟨g,0,none⟩) l.length c:=h.vals _ (qa hm);have eg:g=g3:=by
  rw [f5] at f1;have:some g=some g3:=qq blk f1;injection this
 subst eg;rw [f4'] at f3;have hset:∀ m∈Λ.set e2 ⟨s2,T2,H2,RIT ⟨b,l⟩⟩,m=⟨s2,T2,H2,RIT ⟨b,l⟩⟩∨m∈Λ:=λ m hm=>(qB hm).symm;have hin:=qa he2;refine ⟨h.lo,h.defers,h.size,h.base,h.vals,λ m hm'=>?_,λ m hm1 m' hm2 hne=>?_⟩
 ·rcases hset m hm' with rfl|hm'
  ·obtain ⟨g2,cs,e1,e2',e3',e4⟩:=h.locs _ hin;refine ⟨g2,cs,e1,e2',e3',?_⟩;obtain ⟨ps,q1,q2⟩:=e4;cases q2 with
   | cons q3 q2=>cases q2 with
    | cons q4 q2 =>
     refine ⟨_,q1,.cons q3 (.cons ?_ q2)⟩;exact ⟨ok,g,by rw [← hc];exact q4,hB,by rw [← hc];exact hcm,f3⟩
  ·exact h.locs m hm'
 ·have key:∀ m∈Λ.set e2 ⟨s2,T2,H2,RIT ⟨b,l⟩⟩,∃ m'∈Λ,m'.s=m.s:=λ m hm=>by
   rcases hset m hm with rfl|hm
   ·exact ⟨_,hin,rfl⟩
   ·exact ⟨m,hm,rfl⟩
  obtain ⟨p,p1,p2⟩:=key m hm1;obtain ⟨p',p3,p4⟩:=key m' hm2;rw [← p2,← p4];exact h.dis p p1 p' p3 (by rw [p2,p4];exact hne)
theorem Gb (n:Nat):(List.replicate (n+1) 0).drop n=[0]:=by rw [List.drop_replicate,j5];rfl
theorem rk (x:RI)(hx:x.mag.length≤1000000000000):Cn Tryz.prog 99 [(RIA x).va] ((RIT x).va):=by
 obtain ⟨it,z,e1,e2,e3,e4,e5⟩:=np;refine Cn.introW Tryz.func99 G zk nq (.cons (ye _).va .nil) (pB _).va (λ B w0 a hB0 U=>?_);have U:=zn [(0,(RIO x).va)] [] U;have hok:okL x.mag:=(l7 (LW _ _ _ (U.vals _ (zm 0 rfl)))).1;refine qb<|zg [] UT UU [] U (zW 0 G (zY G (Str.zero ga) o0)) (zz [] UV ?_);refine ztA<|zgA UF [] (.adr 4 1 (.some 1) True::(W6 5 [.v 7 (In ((x.mag.length+1:Nat):Int)),.v 8 _,.v 3 _])) [.o 5] (zO 0 G ar (zL 0 0 1 G bb (zv G (aK qe (aC (vq 1 G))) (zv G (aL (vq 2 G) ab (aW zo)) (zv G (Jh fA (xC hB0) ab (vq 3 G) zo) (zA 4 G o0)))))) (zz RH UV λ a w U=>?_);refine zt<|KK (sp:=[.v 9 _,.adr 10 1 (.some 1) True,.v 11 _,.v 12 VT,.v 3 VT]) 3 [] 0 2 U (zM 0 G (zO 0 G ar (zL 1 0 1 G bb o0))) G zk G G zd G zd G (xs:=x.mag) (λ w u h k=>lC _ _ _ h) qe e1 e3 (by simp) zk nq nq zk zk (λ a w U=>?_);have U:=St.wkG (A':=RowX w0.w.heap.size (x.mag.length+1) x.mag [0]) U 0 rfl (ba (by rw [Gb];rfl));have U:=zn RH UV U;refine zt ?_;obtain ⟨g,hBg,hce,hcm,U⟩:=St.toRow U 0 rfl rfl;refine zgd [[],[0],[],[],[2,3],[],[5],[5,6],[2,3,4,5,6,7],(Wm 9),(Wm 10)] [none,some (10,_),some (4,_)] [] (.adr 13 1 (.some 0) True::(Wb 14 (.cal 17 (EqV (.slice (some ⟨g,0,none⟩) (x.mag.length+[7777].length) (x.mag.length+1))) 2::.adr 18 1 (.some 1) True::(W6 19 [.v 21 (EqV (.slice (some ⟨g,0,none⟩) x.mag.length (x.mag.length+1))),.v 22 _,.sto 1])))) UL ac U (zO 0 G aY (zL 0 0 0 G ty_4 (zM 0 G (zv G (dF (l:=[_]) (xs:=[.const (.int .u32 (7777))]) bc zk nq nq (fc zd) (.o (aF 7777 G)) G G) (oc (JP (l:=x.mag) (r:=[0]) (xs:=[7777]) G G G qe e1 e3 zd hce hcm (vq 2 G) (gq 0 G) (vq 3 G)) (zO 0 G ar (zL 5 0 1 G bb (zv G (aK qe (aC (vq 6 G))) (zv G (BB bc (KA 4 G zk zk) (vq 7 G) ⟨by omega,by omega⟩) (zv G (aT (qs:=[(0,_),(1,SlK (.slice (some ⟨g,0,none⟩) x.mag.length (x.mag.length+1)) oneK)]) ga (.cons ⟨rfl,vq 1 rfl,rfl⟩ (.cons ⟨rfl,has_wk' (vq 8 G) (L6 (h:=oneK)),rfl⟩ .nil))) (zS 9 G ap o0))))))))))) zk zk zk zk (zz RH [O 1 26 _,O 2 26 _,zpH 3 138 _] λ a w U=>?_);have U:=St.wkL (A:=Nums .u32 (x.mag++[7777]++[])) (A':=Nums .u32 (x.mag++[7777])) U 2 rfl (gX (by rw [zX]));have U:=St.twin U 0 1 2 rfl rfl rfl hok (by simp at hce;omega) hcm hBg;refine aa<|qi<|al ?_ (au G U (zm 1 G) ap);exact aG
def RFT (x:RF):As:=cat [RIT x.num,RIT x.den]
theorem Ie :WkA (TwN l) (MgA l):=⟨rfl,rfl,λ B cs w h=>by
 obtain ⟨cs',h1,h2⟩:=Ei B (cN false cs) w ⟨cs,h,rfl⟩;have l1:=(TwN l).len _ _ _ h;have l2:=(MgA l).len _ _ _ h1
 match cs,cs',l1,l2 with
 | [c],[c'],_,_ =>
  have e:c=c':=h2;subst e;exact h1⟩
theorem wkA_rit :WkA (RIT x) (RIA x):=br (.cons (.refl _) (.cons Ie .nil))
theorem ol :WkA (RFT x) (RFA x):=br (.cons wkA_rit (.cons wkA_rit .nil))
section
variable {P:Program}{R:Rg}{Q:Exit→Act→World→Prop}{B i:Nat}{w0:Bs}
theorem GN (h:(TwN l).va.p B v w):okL l∧∃ g,v=.slice (some ⟨g,0,none⟩) l.length (l.length+1)∧l.length+1≤maxLen∧w.heap[g]?=some (.cells ((l++[7777]).map λ (x:Nat)=>Value.int .u32 x).toArray U32 (0,0)):=by
 obtain ⟨cs,⟨ok,g,e,h1,h2,h3⟩,hv⟩:=h;subst e;exact ⟨ok,g,hv,h2,h3⟩
theorem MX {S E':Yh}{l:Ya}(hS:P.underlying S=some (.slice E'))(hx:Has R B w0 i x (TwN l).va):Wv P Q R B w0 i (.call ⟨.builtin .cap,#[x],#[S]⟩) (In ((l.length+1:Nat):Int)) :=
 bk λ d T ps af gd a w av=>by
  obtain ⟨_,g,hv,_,_⟩:=GN (hx a w av);refine ⟨.int .i64 ((l.length+1:Nat):Int),w,?_,Grow.refl w,bV _ _ _ _⟩;simp [execOp,resolve,invoke,builtin,hv,Builtin.cap_,run_underlying hS,goInt]
theorem Je {S:Yh}{l:Ya}(hS:Sl P S U32 1)(hx:Has R B w0 i x (TwN l).va)(hz:Has R B w0 i z (In ((l.length+1:Nat):Int))):Wv P Q R B w0 i (.slice S x none (some z) none) (MgA (l++[7777])).va :=
 bk λ d T ps af gd a w av=>by
  obtain ⟨hs1,hs2⟩:=hS;obtain ⟨ok,g,e1,hm,hh⟩:=GN (hx a w av);have e3:=bj (hz a w av);have hE:P.elem S=U32:=by simp [Program.elem,hs1]
  have hs1':P.underlying S=some (.slice (P.elem S)):=by rw [hE];exact hs1
  have hsz:∀ w,(sizeOf U32).run P w=.ok 1 w:=λ w=>by
   cases hi:P.info? U32 with
   | none=>rw [hi] at hs2;simp at hs2
   | some it=>rw [hi] at hs2;simp [sizeOf,typeInfo,hi];simpa using hs2
  refine ⟨.slice (some ⟨g,0,none⟩) (l.length+1) (l.length+1),w,?_,Grow.refl w,eG (u7 ok hm hh) (by simp)⟩;have hr:=run_slice_h (P:=P) w S (some ⟨g,0,none⟩) l.length (l.length+1) hs1' .i64 ((l.length+1:Nat):Int) zo zo;rw [hE,hsz] at hr;have hne:¬ l.length+1=0:=by omega
  simp only [Result.andThen_ok,sliced,xa,hne,if_false,z8,qU,jL] at hr;simp only [execOp,e1,e3,qU,run_sliceAt_slice _ _ _ _ _ _ hs1',Sem.run_bind,Sem.run_pure]
  erw [hr]
  simp [Addr.add]
end
set_option maxHeartbeats 1000000 in
theorem rR (x y:RI)(hx:x.mag.length≤1000000000000):Cn Tryz.prog 167 [(RIT x).va,(RIA y).va] (Bo (decide (x=y))):=by
 refine Cn.intro Tryz.func167 G zk nq (zy [(0,(RIT x).va),(1,(RIA y).va)] λ B w0 a U=>?_);refine qb<|zg [] UB UC Ud U (zW 0 G (zW 1 G (zE G aE))) (zz U3 UD λ a w U=>?_);refine zt<|lp (anc:=[[],[],[0,1],[0,1,2],[0,1,2,3],[0,1,2,3,4],[0,1,2,3,4,5],[0,1,2,3],[0,1,2,3,7],[0,1,2,3,7,8],[0,1,2,3,4,5,6,7,8,9],[0,1,2,3,4,5,6,7,8,9,10],[0,1,2,3,4,5,6,7,8,9,10,11],[0,1,2,3,4,5,6,7,8,9,10,11,12],[0,1,2,3,4,5,6,7,8,9,10,11,12,13],[0,1,2,3,4,5,6,7,8,9,10,11,12],[0,1,2,3,4,5,6,7,8,9,10,11,12,15],[0,1,2,3,4,5,6,7,8,9,10,11,12,15,16],[0,1,2,3,4,5,6,7,8,9,10,11,12,15,16,17],[0,1,2,3,4,5,6,7,8,9,10,11,12,13,14,15,16,17,18],[0,1,2,3,4,5,6,7,8,9,10,11,12],[0,1,2,3,4,5,6,7,8,9,10,11,12,20],[0,1,2,3,4,5,6,7,8,9,10,11,12,20,21],[0,1,2,3,4,5,6,7,8,9,10,11,12,13,14,15,16,17,18,19,20,21,22],[0,1,2,3,4,5,6,7,8,9,10,11,12,13,14,15,16,17,18,19,20,21,22,23],[0,1,2,3,4,5,6,7,8,9,10,11,12,13,14,15,16,17,18,19,20,21,22,23,24],[0,1,2,3,4,5,6,7,8,9,10,11,12,13,14,15,16,17,18,19,20,21,22,23,24,25],[0,1,2,3,4,5,6,7,8,9,10,11,12,13,14,15,16,17,18,19,20,21,22,23,24,25,26]]) (sts:=[none,none]) (news:=[]) (sp:=((.v 5 _:Sp)::(.v 6 _)::(.v 7 _)::(.v 8 _)::(.adr 9 2 (.some 1) (_=true))::(.t 10 _)::(.t 11 _)::(.adr 12 2 (.some 1) (_=true))::(.t 13 _)::(.t 14 _)::(.t 15 _)::(.v 16 _)::(.v 17 _)::(.adr 18 2 (.some 1) (_=true))::(.t 19 _)::(.adr 20 2 (.some 1) (_=true))::(.t 21 _)::(.t 22 _)::(.t 23 _)::(.t 24 _)::(.adr 25 2 (.some 1) (_=true))::(.t 26 _)::(.t 27 _)::(.t 28 _)::(.t 29 _)::(.t 30 _)::(.v 31 _)::(.v 4 _)::[])) [.o 27] ac U (zl 0 G ap (zl 1 G ap (zQ G ((mA x y).wk (.cons wkA_rit.va (.cons aG .nil))) (.p (vq 0 G) (vq 1 G)) (zV 2 G (zC 3 0 G ar (zB 3 G (λ hg=>aB 4 G zk hg (lz0 0 G) (Sub.part 1 G G) bb) (zB 3 G (λ hg=>MX qe (ae (vq 5 G) hg)) (zC 3 0 G ar (zB 3 G (λ hg=>aB 7 G zk hg (lz0 0 G) (Sub.part 1 G G) bb) (zB 3 G (λ hg=>aK qe (has_wk' (ae (vq 8 G) hg) Ei)) (zB 3 G (λ hg=>cL (ae (vq 6 G) hg) (ae (vq 9 G) hg)) (zv G (bv (vq 3 G) (vq 10 G)) (zV 11 G (zC 12 0 G ar (zB 12 G (λ hg=>aB 13 G zk hg (lz0 0 G) (Sub.part 1 G G) bb) (zC 12 0 G ar (zB 12 G (λ hg=>aB 15 G zk hg (lz0 0 G) (Sub.part 1 G G) bb) (zB 12 G (λ hg=>aK qe (has_wk' (ae (vq 16 G) hg) Ei)) (zB 12 G (λ hg=>aL (ae (vq 17 G) hg) ab (aW zo)) (zB 12 G (λ hg=>Je bc (ae (vq 14 G) hg) (ae (vq 18 G) hg)) (zC 12 0 G ar (zB 12 G (λ hg=>aB 20 G zk hg (lz0 0 G) (Sub.part 1 G G) bb) (zB 12 G (λ hg=>aK qe (has_wk' (ae (vq 21 G) hg) Ei)) (zB 12 G (λ hg=>oJ bc (ae (vq 19 G) hg) (ae (vq 22 G) hg) (by simp)) (zB 12 G (λ hg=>ao (ae (vq 23 G) hg) aO) (zB 12 G (λ hg=>bC (ae (vq 24 G) hg) (aF 7777 G)) (zv G (bv (vq 12 G) (vq 25 G)) (zA 26 G o0)))))))))))))))))))))))))))) zk zk zk zk (zz U3 UD λ a w U=>?_);refine aa<|qi<|al ?_ (am G U (zm 0 G));refine ba (qq Bo ?_);simp;omega
def bdF (x:RF):Prop:=x.num.mag.length≤1000000000000∧x.den.mag.length≤1000000000000
theorem fZ (x:RF)(hx:bdF x):Cn Tryz.prog 23 [(RFA x).va] ((RFT x).va):=by
 refine Cn.intro Tryz.func23 G zk nq (zy [(0,(RFA x).va)] λ B w0 a U=>?_);refine qb<|zg [] Rw UU [] U (zW 0 G (zY G (Str.zero aS) o0)) (zz [] Rx λ a w U=>?_);refine zt<|zgd RK [none,some (7,_)] [] (.adr 3 1 (.some 0) True::(W6 4 (.adr 6 1 (.some 2) True::(Wb 7 [.sto 1])))) [] ac U (zO 0 G aZ (zL 0 0 0 G ap (zQ G (rk _ hx.1) (.o (vq 1 G)) (zO 0 G aU (zL 3 0 1 G ap (zQ G (rk _ hx.2) (.o (vq 4 G)) (zv G (aT (qs:=[(0,_),(1,_)]) aS (.cons ⟨rfl,vq 2 rfl,rfl⟩ (.cons ⟨rfl,vq 5 rfl,rfl⟩ .nil))) (zS 6 G ax o0)))))))) zk zk zk zk (zz [] Rx λ a w U=>?_);refine aa<|qi<|al ?_ (au G U (zm 1 G) ax);exact aG
theorem gk (x y:RF)(hx:bdF x):Cn Tryz.prog 88 [(RFT x).va,(RFA y).va] (Bo (decide (x=y))):=by
 refine Cn.intro Tryz.func88 G zk nq (zy [(0,(RFT x).va),(1,(RFA y).va)] λ B w0 a U=>?_);refine qb<|zg [] Rz UC Ud U (zW 0 G (zW 1 G (zE G aE))) (zz U3 RA ?_);refine ztA<|zgA UF [] (.adr 5 2 (.some 0) True::.v 6 _::.adr 7 3 (.some 0) True::(Wb 8 [.adr 11 2 (.some 2) (_=true),.t 12 _,.adr 13 3 (.some 2) (_=true),.t 14 _,.t 15 _,.v 16 _,.v 4 _])) [.o 12] (zO 0 G aZ (zL 0 0 0 G ap (zO 1 G aZ (zL 2 1 0 G ap (zQ G (rR _ _ hx.1) (.p (vq 1 G) (vq 3 G)) (zV 4 G (zC 5 0 G aU (zB 5 G (λ hg=>aB 6 G zk hg (lz0 0 G) (Sub.part 1 G G) ap) (zC 5 1 G aU (zB 5 G (λ hg=>aB 8 G zk hg (lz0 1 G) (Sub.part 1 G G) ap) (zB 5 G (λ hg=>be (rR _ _ hx.2) (.p (ae (vq 7 G) hg) (ae (vq 9 G) hg))) (zv G (bv (vq 5 G) (vq 10 G)) (zA 11 G o0))))))))))))) (zz U3 RA λ a w U=>?_);refine aa<|qi<|al ?_ (am G U (zm 0 G));exact ba (qq Bo Mw)
def LenS (k:Nat):As where
 n:=1
 ag:=false
 p _ cs _:=∃ g c,cs=[.slice (some ⟨g,0,none⟩) k c]
 deps:=[]
 len:=by rintro B cs w ⟨g,c,rfl⟩;rfl
 one:=by rintro B cs w ⟨g,c,rfl⟩ x hx;simp at hx;subst hx;rfl
 ag1:=λ _=>rfl
 cg:=λ _ _ _ _ _ h=>h
 wr:=λ _ _ _ _ _ _ _ _ _ _ _ _ h=>h
def IntZ:As:=cat [BoA false,EqS (.slice none 0 0)]
def IntM (n:Nat):As:=cat [BoA false,LenS (1+n%40)]
def FrZ:As:=cat [IntZ,IntZ]
def FrM (n:Nat):As:=cat [IntM n,IntZ]
def MkE (n:Nat):As:=cat [NumA .u8 99,FrM n,FrZ]
def anyA (A:As):Prop:=∀ B B' w w' cs,A.p B cs w→A.p B' cs w'
theorem nt (h:∀ A∈l,anyA A):anyA (cat l):=by
 rintro B B' w w' cs ⟨ps,e,hp⟩;refine ⟨ps,e,?_⟩;clear e
 induction hp with
 | nil=>exact .nil
 | cons h1 _ ih=>exact .cons (h _ (by simp) _ _ _ _ _ h1) (ih λ A hA=>h A (by simp [hA]))
theorem iT (h:anyA A)(h':anyA A'):∀ X∈[A,A'],anyA X:=λ X hX=>by
 rcases qt.1 hX with rfl|hX
 ·exact h
 ·obtain rfl:=qo.1 hX;exact h'
theorem E3:anyA IntZ:=nt (iT (λ _ _ _ _ _ h=>h) (λ _ _ _ _ _ h=>h))
theorem P3 (n:Nat):anyA (IntM n):=nt (iT (λ _ _ _ _ _ h=>h) (λ _ _ _ _ _ h=>h))
theorem P4:anyA FrZ:=nt (iT E3 E3)
theorem P5 (n:Nat):anyA (FrM n):=nt (iT (P3 n) E3)
theorem mkp_e:MkP MkE 9:=⟨λ _=>rfl,λ _=>rfl,λ n=>nt (λ X hX=>by
 rcases qt.1 hX with rfl|hX
 ·exact λ _ _ _ _ _ h=>h
 ·exact iT (P5 n) P4 X hX)⟩
section
variable {P:Program}{R:Rg}{Q:Exit→Act→World→Prop}{B i:Nat}{w0:Bs}
theorem Jg {S:Yh}{n:Nat}{x y:Yj}(hM:oi P S U32 .u32)(hx:Has R B w0 i x (In n))(hy:Has R B w0 i y (In n))(hn:n≤17592186044416):Wv P Q R B w0 i (.makeSlice S x y) (LenS n).va :=
 bk λ d T ps af gd a w av=>by
  obtain ⟨h1,h2,h3,h4,h5⟩:=hM;obtain ⟨it,hi,hz⟩:=j3.1 h2;have hby:=h5 it hi;have hm:=run_make (P:=P) w S U32 it (.int .u32 0) h1 hi hz .i64 .i64 n n zo zo (by
   have:it.bytes*n≤8*n:=qK _ hby;have h6:((it.bytes*n:Nat):Int)≤281474976710656:=by omega
   rwa [xG] at h6) zo
  have e1:=bj (hx a w av);have e2:=bj (hy a w av);refine ⟨.slice (some ⟨w.heap.size,0,none⟩) n n,w.alloc (.cells (madeCells (Value.int .u32 0).cells (n*it.size)) U32),?_,Grow.alloc _ _,⟨[.slice (some ⟨w.heap.size,0,none⟩) n n],⟨_,_,rfl⟩,rfl⟩⟩;simp only [xa] at hm;simp [execOp,e1,e2,hm]
theorem MV {S E':Yh}(hS:P.underlying S=some (.slice E'))(hx:Has R B w0 i x (LenS k).va):Wv P Q R B w0 i (.call ⟨.builtin .len,#[x],#[S]⟩) (In k) :=
 bk λ d T ps af gd a w av=>by
  obtain ⟨cs,⟨g,c,rfl⟩,hv⟩:=hx a w av;have hv':a.eval x=.slice (some ⟨g,0,none⟩) k c:=hv;refine ⟨.int .i64 (k:Int),w,?_,Grow.refl w,bV _ _ _ _⟩;simp [execOp,resolve,invoke,builtin,hv',Builtin.len_,run_underlying hS,goInt]
theorem rC {S E':Yh}(hS:P.underlying S=some (.slice E'))(hv:RowV v n)(hx:Has R B w0 i x (EqS v).va):Wv P Q R B w0 i (.call ⟨.builtin .len,#[x],#[S]⟩) (In n) :=
 bk λ d T ps af gd a w av=>by
  have e:=mX (hx a w av);rcases hv with ⟨rfl,rfl⟩|⟨g,cap,rfl,_⟩
  ·refine ⟨.int .i64 0,w,?_,Grow.refl w,bV _ _ _ _⟩;simp [execOp,resolve,invoke,builtin,e,Builtin.len_,run_underlying hS,goInt]
  ·refine ⟨.int .i64 (n:Int),w,?_,Grow.refl w,bV _ _ _ _⟩;simp [execOp,resolve,invoke,builtin,e,Builtin.len_,run_underlying hS,goInt]
end
theorem ub:Str Tryz.prog 26 [BoA false,EqS (.slice none 0 0)] :=
 Str.of (z:=.agg #[.bool false,.slice none 0 0]) zk xQ zk λ B w=>⟨[[.bool false],[.slice none 0 0]],rfl,.cons rfl (.cons ⟨rfl,rfl⟩ .nil)⟩
theorem iz_p (B:Nat)(w:Yi):IntZ.p B [.bool false,.slice none 0 0] w:=⟨[[.bool false],[.slice none 0 0]],rfl,.cons rfl (.cons ⟨rfl,rfl⟩ .nil)⟩
theorem fz_p (B:Nat)(w:Yi):FrZ.p B [.bool false,.slice none 0 0,.bool false,.slice none 0 0] w:=⟨[[.bool false,.slice none 0 0],[.bool false,.slice none 0 0]],rfl,.cons (iz_p B w) (.cons (iz_p B w) .nil)⟩
theorem yj:Str Tryz.prog 28 [IntZ,IntZ] :=
 Str.of (z:=.agg #[.bool false,.slice none 0 0,.bool false,.slice none 0 0]) zk jc zk λ B w=>fz_p B w
theorem rq:Str Tryz.prog 76 [NumA .u8 0,FrZ,FrZ] :=
 Str.of (z:=.agg #[.int .u8 0,.bool false,.slice none 0 0,.bool false,.slice none 0 0,.bool false,.slice none 0 0,.bool false,.slice none 0 0]) zk ja zk λ B w=>⟨[[.int .u8 0],[.bool false,.slice none 0 0,.bool false,.slice none 0 0],[.bool false,.slice none 0 0,.bool false,.slice none 0 0]],rfl,.cons rfl (.cons (fz_p B w) (.cons (fz_p B w) .nil))⟩
theorem tm40 {n:Nat}:((n:Nat):Int).tmod 40=((n%40:Nat):Int):=by rw [vc zo];omega
theorem w40 {n:Nat}:IntKind.i64.wrap (1+((n%40:Nat):Int))=((1+n%40:Nat):Int):=by rw [wi64 zo zo];omega
theorem Cj (n0:Nat):Cn Tryz.prog 212 [In (n0:Nat)] ((IntM n0).va):=by
 refine Cn.intro Tryz.func212 G zk nq (zy [(0,In (n0:Nat))] λ B w0 a U=>?_);refine qb<|zg [] UK Uf UL U (zY G (Str.zero ub) o0) (zz UM UN ?_);refine ztA<|zgA Uc [] (Wd 3 [.sto 0]) [] (zM 0 G (zv G (nF (vq 0 G) ab zd tm40) (zv G (aL ab (vq 1 G) (w40)) (zv G (Jg fA (vq 2 G) (vq 2 G) zo) (zv G (aT (qs:=[(1,_)]) ub (.cons ⟨rfl,vq 3 rfl,rfl⟩ .nil)) (zS 4 G ap o0)))))) (zz [] UN λ a w U=>?_);refine aa<|qi<|al ?_ (au G U (zm 0 G) ap);exact aG
theorem Kq (n0:Nat):Cn Tryz.prog 213 [(IntM n0).va,In (n0:Nat)] (Bo true):=by
 refine Cn.intro Tryz.func213 G zk nq (zy [(0,(IntM n0).va),(1,In (n0:Nat))] λ B w0 a U=>?_);refine qb<|zg [] UK RU RD U (zW 0 G (zE G aE)) (zz (Wc 1 4) UN ?_);refine ztA<|zgA U4 [] (.adr 5 2 (.some 1) True::(WG 6 [.adr 13 2 (.some 0) (_=true),.t 14 _,.t 15 _,.v 16 _,.v 4 _])) [.o 12] (zO 0 G ar (zL 0 0 1 G bb (zv G (MV qe (vq 1 G)) (zM 0 G (zv G (nF (vq 3 G) ab zd tm40) (zv G (aL ab (vq 4 G) (w40)) (zv G (bC (vq 2 G) (vq 5 G)) (zV 6 G (zC 7 0 G aY (zB 7 G (λ hg=>aB 8 G zk hg (lz0 0 G) (Sub.part 0 G G) ty_4) (zB 7 G (λ hg=>dc (ae (vq 9 G) hg)) (zv G (bv (vq 7 G) (vq 10 G)) (zA 11 G o0))))))))))))) (zz U3 UN λ a w U=>?_);refine aa<|qi<|al ?_ (am G U (zm 0 G));refine ba (qq Bo ?_);simp
theorem ir (n0:Nat):Cn Tryz.prog 142 [In (n0:Nat)] ((MkE n0).va):=by
 refine Cn.intro Tryz.func142 G zk nq (zy [(0,In (n0:Nat))] λ B w0 a U=>?_);refine qb<|zg [] [zpL 2 76 0 _] Uf UL U (zY G (Str.zero rq) o0) (zz UM [O 2 76 _] ?_);refine ztA<|zgA [some (4,_)] [] (Ww 3 [.sto 0]) [] (zM 0 G (zQ G (Cj _) (.o (vq 0 G)) (zv G (aT (qs:=[(0,_)]) yj (.cons ⟨rfl,vq 1 rfl,rfl⟩ .nil)) (zv G (aT (qs:=[(0,_),(1,_)]) rq (.cons ⟨rfl,ab,rfl⟩ (.cons ⟨rfl,vq 2 rfl,rfl⟩ .nil))) (zS 3 G dq o0))))) (zz [] [O 2 76 _] λ a w U=>?_);refine aa<|qi<|al ?_ (au G U (zm 0 G) dq);exact aG
theorem mO (n0:Nat):Cn Tryz.prog 158 [(MkE n0).va,In (n0:Nat)] (Bo true):=by
 refine Cn.intro Tryz.func158 G zk nq (zy [(0,(MkE n0).va),(1,In (n0:Nat))] λ B w0 a U=>?_);refine qb<|zg [] [zpL 2 76 0 _] RU RD U (zW 0 G (zE G aE)) (zz (Wc 1 4) [O 2 76 _] ?_);refine ztA<|zgA U4 [] (.adr 5 2 (.some 0) True::(Wb 6 (.adr 9 2 (.some 1) (_=true)::.adr 10 2 (.some (1+0)) (_=true)::.t 11 _::.t 12 _::.t 13 _::(W6 14 [.adr 16 2 (.some 5) (_=true),.adr 17 2 (.some (5+0)) (_=true),.adr 18 2 (.some (5+1)) (_=true),.t 19 _,.t 20 _,.t 21 _,.v 22 _,.v 4 _])))) [.o 18] (zO 0 G cR (zL 0 0 0 G lO (zv G (bC (vq 1 G) ab) (zV 2 G (zC 3 0 G bL (oc (yD G G G (vq 3 G) nq (λ hg=>dT 4 G zk hg (lz0 0 G) aZ)) (zB 3 G (λ hg=>aB 5 G zk hg (lz0 0 G) (Sub.trans (Sub.part 1 G G) (Sub.part 0 G G) G) ap) (zB 3 G (λ hg=>aq (gq 0 G)) (zB 3 G (λ hg=>be (Kq _) (.p (ae (vq 6 G) hg) (ae (vq 7 G) hg))) (zv G (bv (vq 3 G) (vq 8 G)) (zV 9 G (zC 10 0 G bZ (oc (yD G G G (vq 10 G) nq (λ hg=>dT 11 G zk hg (lz0 0 G) aZ)) (oc (yD G G G (vq 10 G) nq (λ hg=>dT 12 G zk hg (lz0 0 G) ar)) (zB 10 G (λ hg=>aB 13 G zk hg (lz0 0 G) (Sub.trans (Sub.part 2 G G) (Sub.trans (Sub.part 0 G G) (Sub.part 1 G G) G) G) bb) (zB 10 G (λ hg=>bg qe (has_wk' (ae (vq 14 G) hg) bt)) (zB 10 G (λ hg=>bC (ae (vq 15 G) hg) ab) (zv G (bv (vq 10 G) (vq 16 G)) (zA 17 G o0))))))))))))))))))) (zz U3 [O 2 76 _] λ a w U=>?_);refine aa<|qi<|al ?_ (am G U (zm 0 G));refine ba (qq Bo ?_);simp
structure Slt.new (s:Slt):Prop where
 rv:RowV s.v s.xs.length
 z1:s.z.oneCell'=true
 n1:s.n≤1000000
 lx:s.xs.length≤2000000000
 uv:s.u=s.v
 yx:s.ys=s.xs
structure Fik (A:Nat→As) (s t:Slt) (c:Nat→Prop):Prop where
 v:t.v=s.v
 u:t.u=s.v
 yx:t.ys=t.xs
 z:t.z=s.z
 n:t.n=s.n
 l:t.xs.length=s.xs.length
 m:∀ q x,t.xs[q]?=some x→c q→isMk A s.n x
def FiK (A:Nat→As)(L M:List Slt)(i k:Nat):Prop:=M.length=L.length∧∀ (j:Nat) s,L[j]?=some s→∃ t,M[j]?=some t∧Fik A s t (λ q=>j<i∨(j=i∧q<k))
theorem Qw (h:∀ s∈L,s.new):FiK A L L 0 0:=⟨rfl,λ j s hs=>⟨s,hs,rfl,(h s (qa hs)).uv,(h s (qa hs)).yx,rfl,rfl,rfl,λ q x _ hc=>by omega⟩⟩
theorem HA (h:FiK A L M i k)(hs:L[j]?=some s):∃ t,M[j]?=some t∧Fik A s t (λ q=>j<i∨(j=i∧q<k)):=h.2 j s hs
theorem FY {A:Nat→As}{L M:List Slt}{i k:Nat}{s t:Slt}{ds:Yl}(h:FiK A L M i k)(hs:L[i]?=some s)(ht:M[i]?=some t)(hd:isMk A s.n ds):FiK A L (M.set i { t with xs:=t.xs.set k ds,ys:=t.xs.set k ds }) i (k+1):=by
 have hlt:=(List.getElem?_eq_some_iff.1 ht).1;refine ⟨by rw [qY];exact h.1,λ j s' hj=>?_⟩;obtain ⟨t',h1,h2⟩:=h.2 j s' hj;by_cases e:j=i
 ·subst e;rw [hs] at hj;injection hj with hj;subst hj;rw [ht] at h1;injection h1 with h1;subst h1;refine ⟨_,List.getElem?_set_self hlt,h2.v,h2.u,rfl,h2.z,h2.n,by rw [qY];exact h2.l,λ q x hq hc=>?_⟩;by_cases e2:q=k
  ·subst e2;have hq':(t.xs.set q ds)[q]?=some x:=hq;rw [List.getElem?_set] at hq';simp only [if_true] at hq';split at hq'
   ·injection hq' with hq';subst hq';exact hd
   ·cases hq'
  ·have hq':(t.xs.set k ds)[q]?=some x:=hq;rw [List.getElem?_set_ne (λ e3=>e2 e3.symm)] at hq';exact h2.m q x hq' zo
 ·refine ⟨t',by rw [List.getElem?_set_ne (λ e2=>e e2.symm)];exact h1,h2.v,h2.u,h2.yx,h2.z,h2.n,h2.l,λ q x hq hc=>h2.m q x hq ?_⟩;rcases hc with hc|⟨hc,_⟩
  ·exact .inl hc
  ·exact absurd hc e
theorem FZ {s:Slt}(h:FiK A L M i s.xs.length)(hs:L[i]?=some s):FiK A L M (i+1) 0:=by
 refine ⟨h.1,λ j s' hj=>?_⟩;obtain ⟨t,h1,h2⟩:=h.2 j s' hj;refine ⟨t,h1,h2.v,h2.u,h2.yx,h2.z,h2.n,h2.l,λ q x hq hc=>h2.m q x hq ?_⟩;rcases hc with hc|⟨_,hc⟩
 ·by_cases e:j=i
  ·subst e;rw [hs] at hj;injection hj with hj;subst hj;have:=(List.getElem?_eq_some_iff.1 hq).1;exact .inr ⟨rfl,by rw [← h2.l];exact this⟩
  ·exact .inl zo
 ·omega
structure Slt.full (A:Nat→As) (s:Slt):Prop extends s.new where
 xm:∀ x∈s.xs,isMk A s.n x
theorem D9 {c:Nat→Prop}(h:Fik A s t c)(hs:s.new):t.new:=⟨by rw [h.v,h.l];exact hs.rv,by rw [h.z];exact hs.z1,by rw [h.n];exact hs.n1,by rw [h.l];exact hs.lx,by rw [h.u,h.v],h.yx⟩
theorem Da (h:FiK A L M i k)(ht:t∈M):∃ j s,L[j]?=some s∧Fik A s t (λ q=>j<i∨(j=i∧q<k)):=by
 obtain ⟨j,hj⟩:=List.getElem?_of_mem ht;have hlt:=(List.getElem?_eq_some_iff.1 hj).1;rw [h.1] at hlt;obtain ⟨t',h1,h2⟩:=h.2 j _ (List.getElem?_eq_getElem hlt);rw [hj] at h1;injection h1 with h1;subst h1;exact ⟨j,_,List.getElem?_eq_getElem hlt,h2⟩
theorem L3 (h:FiK A L M i k)(hn:∀ s∈L,s.new):OneK M:=λ t ht=>by
 obtain ⟨j,s,hs,hf⟩:=Da h ht;have:=D9 hf (hn s (qa hs));exact ⟨this.rv.one,this.z1⟩
def r7 (A:Nat→As)(L M:List Slt):Prop:=M.length=L.length∧∀ t∈M,t.full A
theorem L4 (h:FiK A L M i 0)(hi:L.length≤i)(hn:∀ s∈L,s.new):r7 A L M:=⟨h.1,λ t ht=>by
 obtain ⟨j,s,hs,hf⟩:=Da h ht;refine ⟨D9 hf (hn s (qa hs)),λ x hx=>?_⟩;obtain ⟨q,hq⟩:=List.getElem?_of_mem hx;rw [hf.n];exact hf.m q x hq (.inl (by have:=(List.getElem?_eq_some_iff.1 hs).1;omega))⟩
structure GrewK (A:Nat→As) (s t:Slt):Prop where
 v:t.v=s.v
 xs:t.xs=s.xs
 n:t.n=s.n
 z:t.z=t.u
 yl:t.ys.length=s.xs.length+70
 ym:∀ y∈t.ys,isMk A s.n y
def GrK (A:Nat→As)(L M:List Slt)(i:Nat):Prop:=M.length=L.length∧∀ (j:Nat) s,L[j]?=some s→∃ t,M[j]?=some t∧(j<i→GrewK A s t)∧(i≤j→t=s)
theorem Qp :GrK A L L 0:=⟨rfl,λ j s h=>⟨s,h,λ h=>absurd h (k7 _),λ _=>rfl⟩⟩
theorem NR (h:GrK A L M i)(hs:L[i]?=some s):M[i]?=some s:=by
 obtain ⟨t,h1,_,h2⟩:=h.2 i s hs;rw [h1,h2 (qj _)]
def Slt.ext (s:Slt)(u:Value)(ys:List (List Value)):Slt:={ s with u:=u,ys:=ys }
theorem Fx {ys:Yx}(h:GrK A L M i)(hs:L[i]?=some s)(hl:ys.length=s.xs.length+70)(hy:∀ y∈ys,isMk A s.n y):GrK A L (M.set i { s.ext u ys with z:=u }) (i+1):=by
 refine ⟨by rw [qY];exact h.1,λ j s' hj=>?_⟩;by_cases e:j=i
 ·subst e;rw [hs] at hj;injection hj with hj;subst hj;refine ⟨_,List.getElem?_set_self (by rw [h.1];exact (List.getElem?_eq_some_iff.1 hs).1),λ _=>⟨rfl,rfl,rfl,rfl,hl,hy⟩,λ h=>by omega⟩
 ·obtain ⟨t,h1,h2,h3⟩:=h.2 j s' hj;exact ⟨t,by rw [List.getElem?_set_ne (λ e2=>e e2.symm)];exact h1,λ h=>h2 zo,λ h=>h3 zo⟩
theorem KE (h:GrK A L M i)(ht:t∈M):∃ s∈L,GrewK A s t∨t=s:=by
 obtain ⟨j,hj⟩:=List.getElem?_of_mem ht;have hlt:=(List.getElem?_eq_some_iff.1 hj).1;rw [h.1] at hlt;obtain ⟨t',h1,h2,h3⟩:=h.2 j _ (List.getElem?_eq_getElem hlt);rw [hj] at h1;injection h1 with h1;subst h1;refine ⟨_,qh hlt,?_⟩;by_cases e:j<i
 ·exact .inl (h2 e)
 ·exact .inr (h3 zo)
structure Slt.done (A:Nat→As) (t:Slt):Prop where
 rv:RowV t.v t.xs.length
 zu:t.z=t.u
 xm:∀ x∈t.xs,isMk A t.n x
 ym:∀ y∈t.ys,isMk A t.n y
 yl:t.ys.length=t.xs.length+70
 n1:t.n≤1000000
 lx:t.xs.length≤2000000000
def r8 (A:Nat→As)(L M:List Slt):Prop:=M.length=L.length∧∀ t∈M,t.done A
theorem KF (h:GrK A L M i)(hi:L.length≤i)(hf:∀ s∈L,s.full A):r8 A L M:=⟨h.1,λ t ht=>by
 obtain ⟨j,hj⟩:=List.getElem?_of_mem ht;have hlt:=(List.getElem?_eq_some_iff.1 hj).1;rw [h.1] at hlt;obtain ⟨t',h1,h2,_⟩:=h.2 j _ (List.getElem?_eq_getElem hlt);rw [hj] at h1;injection h1 with h1;subst h1;have hG:=h2 zo;have hs:=hf _ (qh hlt);exact ⟨by rw [hG.v,hG.xs];exact hs.rv,hG.z,by rw [hG.xs,hG.n];exact hs.xm,by rw [hG.n];exact hG.ym,by rw [hG.xs];exact hG.yl,by rw [hG.n];exact hs.n1,by rw [hG.xs];exact hs.lx⟩⟩
theorem uj {M:List Slt}:(M.set i x).set i y=M.set i y:=by simp
theorem Ba {M:List Slt}{i:Nat}{x:Slt}(h:M[i]?=some x):M.set i x=M:=by
 obtain ⟨h1,h2⟩:=List.getElem?_eq_some_iff.1 h;subst h2;simp
theorem O2 {s:Slt}(h:s.new):s.ext s.v s.xs=s:=by
 have h1:=h.uv;have h2:=h.yx;obtain ⟨v,xs,u,ys,z,n⟩:=s;simp only at h1 h2;subst h1 h2
 rfl
theorem Np {A:Nat→As}{n:Nat}{ys:Yx}{ds:Yl}(h:∀ y∈ys,isMk A n y)(hd:isMk A n ds):∀ y∈ys++[ds],isMk A n y:=λ y hy=>by
 rcases qp.1 hy with hy|hy
 ·exact h y hy
 ·obtain rfl:=qo.1 hy;exact hd
theorem Bv (h:k<n):(List.replicate n A)[k]?=some A:=by rw [List.getElem?_replicate,qD h]
theorem H4 {A:As}(h:A.n=m):∀ X∈List.replicate n A,X.n=m:=λ X hX=>by rw [(xN.1 hX).2];exact h
def ExtP (A:Nat→As)(s:Slt)(k:Nat)(ys:List (List Value)):Prop:=ys.length=s.xs.length+k∧s.xs <+: ys∧∀ y∈ys,isMk A s.n y
theorem O1 {s:Slt}(h:s.full A):ExtP A s 0 s.xs:=⟨rfl,List.prefix_refl _,h.xm⟩
theorem FX {c:Nat→Prop}(h:Fik A s t c):t.view=s.view:=by
 unfold Slt.view;rw [h.v,h.z,h.n]
theorem Ee {A:Nat→As}{M:List Slt}{i:Nat}{s t:Slt}{c:Nat→Prop}(ht:M[i]?=some t)(h:Fik A s t c):(M.map Slt.view)[i]?=some s.view:=by rw [om ht,FX h]
theorem da:Str Tryz.prog 135 [EqS (.slice none 0 0),EqS (.slice none 0 0),NumA .i64 0] :=
 Str.of (z:=.agg #[.slice none 0 0,.slice none 0 0,.int .i64 0]) zk Tryz.underlying135 zk λ B w=>⟨[[.slice none 0 0],[.slice none 0 0],[.int .i64 0]],rfl,.cons ⟨rfl,rfl⟩ (.cons ⟨rfl,rfl⟩ (.cons rfl .nil))⟩
theorem pZ:∃ it z,Tryz.prog.info? 76=some it∧it.zero=some z∧it.size=9∧it.bytes=136∧z.cells.size=9:=by
 have h:((Tryz.prog.info? 76).bind λ it=>it.zero.map λ z=>(it.size,it.bytes,z.cells.size))=some (9,136,9):=by kernel_rfl
 cases hi:Tryz.prog.info? 76 with
 | none=>rw [hi] at h;simp at h
 | some it =>
  rw [hi] at h;cases hz:it.zero with
  | none=>simp [hz] at h
  | some z =>
   simp [hz] at h;exact ⟨it,z,rfl,hz,h.1,h.2.1,h.2.2⟩
theorem r9 {X:BkRest}{L:List Slot}{M M':List Slt}{B g T:Nat}{c c':Array Yn}(h:(BqA { X with M:=M } vr L).p B cs w)(hgc:w.heap[g]?=some (.cells c T (0,0)))(hT:T=135∨T=76)(hB:B≤g)(f:∀ c0,(HkA 135 76 9 X.ve M).p B c0 w→(HkA 135 76 9 X.ve M').p B c0 (w.setRow g c')):(BqA { X with M:=M' } vr L).p B cs (w.setRow g c'):=by
 rcases hT with rfl|rfl
 ·exact su h G (λ c0 hp=>As.kwr hp hgc (show 135 ∉ [137,U32] by decide) hB) (λ c0 hp=>As.kwr hp hgc (show 135 ∉ [141,3] by decide) hB) (λ c0 hp=>As.kwr hp hgc (show 135 ∉ [168,124] by decide) hB) f
 ·exact su h G (λ c0 hp=>As.kwr hp hgc (show 76 ∉ [137,U32] by decide) hB) (λ c0 hp=>As.kwr hp hgc (show 76 ∉ [141,3] by decide) hB) (λ c0 hp=>As.kwr hp hgc (show 76 ∉ [168,124] by decide) hB) f
theorem CU {X:BkRest}{L:List Slot}{M M':List Slt}{row:Yt}(h:(BqA { X with M:=M } vr L).p B cs w)(hg:w.grownBy w' row)(hr:gF w B 76 row)(f:∀ c0,(HkA 135 76 9 X.ve M).p B c0 w→(HkA 135 76 9 X.ve M').p B c0 w'):(BqA { X with M:=M' } vr L).p B cs w' :=
 su h rfl (λ c0 hp=>As.grown hp hg hr (qj _) (show 76 ∉ [137,U32] by decide)) (λ c0 hp=>As.grown hp hg hr (qj _) (show 76 ∉ [141,3] by decide)) (λ c0 hp=>As.grown hp hg hr (qj _) (show 76 ∉ [168,124] by decide)) f
theorem em {X:BkRest}{L:List Slot}{M:List Slt}(h:(BqA { X with M:=M } vr L).p B cs w):∃ c,(HkA 135 76 9 X.ve M).p B c w:=(cS h).2.2.2
theorem Dc {X:BkRest}{L:List Slot}{M:List Slt}{B i k g cap:Nat}{t:Slt}{cs ds:Yl}(hi:M[i]?=some t)(hu:t.u=t.v)(hy:t.ys=t.xs)(hv:t.v=.slice (some ⟨g,0,none⟩) t.xs.length cap)(hk:k<t.xs.length)(hd:ds.length=9)(h:(BqA { X with M:=M } vr L).p B cs w):
  B≤g∧∃ c:Array Value,w.heap[g]?=some (Obj.cells c 76 (0,0))∧k*9+9≤c.size∧(BqA { X with M:=M.set i { t with xs:=t.xs.set k ds,ys:=t.xs.set k ds } } vr L).p B cs (w.setRow g (c.toList.take (k*9)++ds++c.toList.drop (k*9+9)).toArray):=by
 obtain ⟨c0,h0⟩:=em h;obtain ⟨h2,c,h3,h4,h5⟩:=CM zd h0 hi hu hy hv hk hd;refine ⟨h2,c,h3,h4,r9 h h3 (.inr G) h2 λ c1 h6=>?_⟩;obtain ⟨_,c',h7,_,h8⟩:=CM zd h6 hi hu hy hv hk hd;rw [h3] at h7;injection h7 with h7;injection h7 with h7;subst h7;exact h8
def cQ (X:BkRest)(vr:Value)(L:List Slot)(p:List Slt→Prop):As where
 n:=17
 ag:=true
 p B cs w:=∃ M,p M∧(BqA { X with M:=M } vr L).p B cs w
 deps:=(BqA X vr L).deps
 len:=λ B cs w ⟨M,_,h⟩=>(BqA { X with M:=M } vr L).len B cs w h
 one:=λ B cs w ⟨M,_,h⟩=>(BqA { X with M:=M } vr L).one B cs w h
 ag1:=λ h=>by cases h
 cg:=λ B cs w w' hg ⟨M,h1,h⟩=>⟨M,h1,(BqA { X with M:=M } vr L).cg B cs w w' hg h⟩
 wr:=λ B cs w w' g c T fz h1 h2 h3 h4 ⟨M,h5,h⟩=>⟨M,h5,(BqA { X with M:=M } vr L).wr B cs w w' g c T fz h1 h2 h3 h4 h⟩
theorem sf {L:List Slot}{p:List Slt→Prop}(hp:p M):WkA (BqA { X with M:=M } vr L) (cQ X vr L p):=⟨rfl,rfl,λ B cs w h=>⟨M,hp,h⟩⟩
theorem mu {p:List Slt→Prop}{B N:Nat}(h:St B w0 N Γ Λ a w)(k:Nat)(hm:Λ[k]?=some ⟨s,T,H,cQ X vr L p⟩):∃ M,p M∧St B w0 N Γ (Λ.set k ⟨s,T,H,BqA { X with M:=M } vr L⟩) a w:=by
 obtain ⟨g,cs,q1,q2,q3,M,hG,q4⟩:=h.locs _ (qa hm);have hs:∀ m∈Λ.set k ⟨s,T,H,BqA { X with M:=M } vr L⟩,∃ m0∈Λ,m0.s=m.s:=λ m hm'=>by
  rcases qB hm' with hm' | rfl
  ·exact ⟨m,hm',rfl⟩
  ·exact ⟨_,qa hm,rfl⟩
 refine ⟨M,hG,h.lo,h.defers,h.size,h.base,h.vals,λ l hl=>?_,λ m1 hm1 m2 hm2 hne=>?_⟩
 ·rcases qB hl with hl|rfl
  ·exact h.locs l hl
  ·exact ⟨g,cs,q1,q2,q3,q4⟩
 ·obtain ⟨m3,r1,r2⟩:=hs m1 hm1;obtain ⟨m4,r3,r4⟩:=hs m2 hm2;rw [← r2,← r4] at hne ⊢;exact h.dis m3 r1 m4 r3 hne
theorem E2 {X:BkRest}{L:List Slot}{M:List Slt}{B i k:Nat}{s:Slt}{u:Yn}{ys:Yx}(hMi:M[i]?=some s)(hE:ExtP MkE s k ys)(h:(BqA { X with M:=M.set i (s.ext u ys) } vr L).p B cs w):
  w.ownsRow B 76 9 u (s.xs.length+k) ys.flatten∧∀ v' w' ds,isMk MkE s.n ds→w'.ownsRow B 76 9 v' (s.xs.length+k+1) (ys.flatten++ds)→w.grownBy w' u.ownBlock→(v'.ownBlock=u.ownBlock∨(v'.ownBlock=some w.heap.size∧w.grownBy w' none))→(cQ X vr L λ M'=>∃ ys',M'=M.set i (s.ext v' ys')∧ExtP MkE s (k+1) ys').p B cs w':=by
 have hlt:=(List.getElem?_eq_some_iff.1 hMi).1;have hi:(M.set i (s.ext u ys))[i]?=some (s.ext u ys):=List.getElem?_set_self hlt;obtain ⟨hl,hp,hm⟩:=hE;obtain ⟨c0,h0⟩:=em h;have hown0:w.ownsRow B 76 9 u (s.xs.length+k) ys.flatten:=by
  have:=(h0.2.2.1 _ (qa hi)).1;rw [show (s.ext u ys).ys.length=s.xs.length+k from hl] at this;exact this
 refine ⟨hown0,λ v' w' ds hds hown hg hb=>⟨M.set i (s.ext v' (ys++[ds])),⟨ys++[ds],rfl,by rw [qv,hl];rfl,hp.trans (List.prefix_append _ _),Np hm hds⟩,CU h hg (fb hown0) λ c hc=>?_⟩⟩;have:=NN (v':=v') (ds:=ds) zd hc hi (by rw [show (s.ext u ys).ys.length=s.xs.length+k from hl];exact hown) hg hb (λ _=>hp) (λ y hy=>mkp_e.len (hm y hy));rw [uj] at this;exact this
theorem BM {X:BkRest}{vr z:Yn}{L:List Slot}{M:List Slt}{B i g cap:Nat}{s:Slt}(hi:M[i]?=some s)(hvr:X.ve=.slice (some ⟨g,0,none⟩) M.length cap)(h:(BqA { X with M:=M } vr L).p B cs w):
  B≤g∧∃ c:Array Value,w.heap[g]?=some (Obj.cells c 135 (0,0))∧i*3+1<c.size∧(BqA { X with M:=M.set i { s with z:=z } } vr L).p B cs (w.setRow g (c.setIfInBounds (i*3+1) z)):=by
 obtain ⟨c0,h0⟩:=em h;obtain ⟨h2,c,h3,h4,h5⟩:=Hw zd z h0 hi hvr;refine ⟨h2,c,h3,h4,r9 h h3 (.inl G) h2 λ c1 h6=>?_⟩;obtain ⟨_,c',h7,_,h8⟩:=Hw zd z h6 hi hvr;rw [h3] at h7;injection h7 with h7;injection h7 with h7;subst h7;exact h8
theorem mN {X:BkRest}{L:List Slot}{M:List Slt}{B N:Nat}{s:Nat}(h:St B w0 N Γ Λ a w)(k:Nat)(hm:Λ[k]?=some ⟨s,T,H,BqA { X with M:=M } vr L⟩):RowV X.ve M.length∧∀ t∈M,RowV t.u t.ys.length∧RowV t.v t.xs.length:=by
 obtain ⟨g,cs,_,_,_,hp⟩:=h.locs _ (qa hm);obtain ⟨c,h1,h2,h3,_⟩:=em hp;exact ⟨(de h2).2,λ t ht=>⟨(de (h3 t ht).1).2,(h3 t ht).2.1⟩⟩
theorem Cz {X:BkRest}{L:List Slot}{B N:Nat}{s:Nat}(h:St B w0 N Γ Λ a w)(k:Nat)(hm:Γ[k]?=some (s,ElP T (BqA X vr L))):∀ t∈X.M,RowV t.u t.ys.length∧RowV t.v t.xs.length:=by
 obtain ⟨b,o,cs,_,_,_,hp,_⟩:=h.vals _ (qa hm);obtain ⟨c,h1,h2,h3,_⟩:=em (M:=X.M) hp;exact λ t ht=>⟨(de (h3 t ht).1).2,(h3 t ht).2.1⟩
section
open Rg
variable {P:Program}{Q:Exit→Act→World→Prop}{R:Rg}{B i:Nat}{w0:Bs}
theorem AM {X:BkRest}{x y:Yj}{L:List Slot}{t:Slt}(hx:Has R B w0 i x (EqS t.v).va)(hl:Has R B w0 i y (ElP T (BqA X vr L)))(ht:t∈X.M)(hd:t.done MkE):Has R B w0 i x (SlA 76 [] (List.replicate t.xs.length (MkE t.n))).va:=λ a w av=>by
 obtain ⟨b,o,cs,_,_,_,h,_⟩:=hl a w av;obtain ⟨c,h⟩:=em (M:=X.M) h;rw [mX (hx a w av)];exact Bx mkp_e (h.2.2.1 t ht).2 hd.xm
theorem AR {X:BkRest}{x y:Yj}{L:List Slot}{t:Slt}(hx:Has R B w0 i x (EqS t.z).va)(hl:Has R B w0 i y (ElP T (BqA X vr L)))(ht:t∈X.M)(hd:t.done MkE):Has R B w0 i x (SlA 76 [] (List.replicate t.ys.length (MkE t.n))).va:=λ a w av=>by
 obtain ⟨b,o,cs,_,_,_,h,_⟩:=hl a w av;obtain ⟨c,h⟩:=em (M:=X.M) h;rw [mX (hx a w av),hd.zu];exact Bx mkp_e (uA (λ y hy=>mkp_e.len (hd.ym y hy)) (h.2.2.1 t ht).1) hd.ym
end
theorem pL (X:BkRest)(vr:Yn)(L:List Slot)(hnew:∀ s∈X.M,s.new)(hl:X.M.length≤1000000):CK Tryz.prog 46 60 [60,135,76] (BqA X vr L) (cQ X vr L (r7 MkE X.M)) [] (Tu []):=by
 refine CK.intro Tryz.func46 G zk nq zk (λ B g w0 a hrm U=>?_);have U:=zn [(0,EqV ((ptrH).f g)),] [⟨0,60,ptrH,BqA X vr L⟩] U;refine qb<|zg U6 [] UA Rd U (zE G ab) (zz Re RL λ a w U=>?_);refine aa<|ql ?_;have U:=St.sel U [0,1];refine wp_loop_ghost (λ n a w=>∃ (i:Nat) (M:List Slt),(n+i=X.M.length∧FiK MkE X.M M i 0)∧St B w0 35 [(0,EqV (ptrH.f g)),(2,In (i:Nat))] [⟨0,60,ptrH,BqA { X with M:=M } vr L⟩] a w) (X.M.length) ?_ ?_
 ·exact ⟨0,X.M,⟨by omega,Qw hnew⟩,U⟩
 intro n a w hI;obtain ⟨i,M,⟨hn,hF⟩,U⟩:=hI;have h1M:=L3 hF hnew;refine qb<|qb<|zg U6 [] (.v 5 _::.adr 6 0 (.some 0) True::.adr 7 0 (.some 0) True::.adr 8 0 (.some (0+9)) True::(Wb 9)) RN U (zM 1 G (oc (ob_a G G (gK (lz0 0 G))) (oc (ob_a G G (gJ 1 G zk (lz0 0 G))) (oc (ob_a G G (dT 2 G zk trivial (lz0 0 G) dH)) (zL 3 0 9 G nB (zv G (bg xA (has_wk' (vq 4 G) (tk h1M))) (zv G (aN (vq 0 G) (vq 5 G)) o0))))))) (zz (Wa 0 2 11) RL λ a w U=>?_);refine zJ 2 U G (λ hb0=>?_) (λ hb0=>?_)
 ·have hi:i<X.M.length:=by have:=hF.1;simpa [this] using hb0
  obtain ⟨s,hs⟩:∃ s,X.M[i]?=some s:=⟨_,List.getElem?_eq_getElem hi⟩;have hwf:=hnew s (qa hs);obtain ⟨t,ht,hf⟩:=HA hF hs;have hvi:=Ee ht hf;refine qk<|zt<|ql<|qb<|bS (sp:=[.adr 14 0 (.some 0) True,.adr 15 0 (.some 0) True,.adr 16 0 (.some (0+9)) True,.v 17 _,.v 18 _,.v 19 _,.v 20 _,.v 3 VT,.sto 0]) 7 2 0 8 OneC [.g 0,.g 1,.o 6] U (oc (ob_a G G (gK (lz0 0 G))) (oc (ob_a G G (gJ 0 G zk (lz0 0 G))) (oc (ob_a G G (dT 1 G zk trivial (lz0 0 G) dH)) (zL 2 0 9 G nB (zM 1 G (zv G (bB (m:=3) ⟨xA,by kernel_rfl⟩ sD (has_wk' (vq 3 G) (tk h1M)) (vq 4 G) hvi) (zv G (ao (vq 5 G) nO) o0))))))) G zd zk zk (zz (Wa 0 2 20) RL λ a w U=>?_);rw [show List.range' 7 2=[7,8] from rfl];refine fJ (A:=s.view) 2 [0,1] G G U (Str.zero da) G nO G zd G zk zk (λ a w U=>?_);refine bU ?_;have U:=zn Re RV U;refine zt<|zg UH [] WR WS U (zE G ab) (zz Rf RV λ a w U=>?_);refine aa<|ql ?_;have U:=St.sel U [0,1,2];refine wp_loop_ghost (λ n a w=>∃ (k:Nat) (M:List Slt),(n+k=s.xs.length∧FiK MkE X.M M i k)∧St B w0 35 [(0,EqV (ptrH.f g)),(2,In (i:Nat)),(4,In (k:Nat))] [⟨0,60,ptrH,BqA { X with M:=M } vr L⟩,⟨3,135,ptrH,s.view⟩] a w) (s.xs.length) ?_ ?_
  ·exact ⟨0,M,⟨by omega,hF⟩,U⟩
  intro n a w hI;obtain ⟨k,M,⟨hn2,hF⟩,U⟩:=hI;obtain ⟨t,ht,hf⟩:=HA hF hs;refine qb<|qb<|zg UH [] (.v 21 _::.adr 22 3 (.some 0) True::(Wb 23)) WU U (zM 2 G (zO 1 G eP (zL 1 1 0 G nD (zv G (rC zq hwf.rv (vq 2 G)) (zv G (aN (vq 0 G) (vq 3 G)) o0))))) (zz (Wf 0 2 4 25) RV λ a w U=>?_);refine zJ 3 U G (λ hb1=>?_) (λ hb1=>?_)
  ·have hk:k<s.xs.length:=by simpa using hb1
   refine qk<|zt<|ql<|iE (sp:=[.adr 28 3 (.some 0) True,.v 29 _,.v 30 _,.adr 31 3 (.some 2) True,.v 32 _,.v 33 _,.v 34 VT,.sto 0]) [[],[0],[],[],[3],[3,4],[0,1,2,3,4,5],[0,1,2,3,4,5,6]] 6 2 0 7 OneC [.g 0,.g 1,.g 2,.o 1,.o 2,.o 5] ac U (zO 1 G eP (zL 0 1 0 G nD (zM 2 G (zO 1 G iL (zL 3 1 2 G ty_3 (zQ G (ir _) (.o (vq 4 G)) o0)))))) G zd zd zk (fx zk) zk zk (zz (Wj 0 2 4 29 30 33) RV λ a w U=>?_);rw [show List.range' 6 2=[6,7] from rfl];obtain ⟨g1,cap1,hv1⟩:=hwf.rv.row hk;have U:=St.wkG U 3 rfl (show Wk (EqS s.v).va (EqV (.slice (some ⟨g1,0,none⟩) s.xs.length cap1)) from hv1▸rf);obtain ⟨vm,ds,hmk,hvc,hone,U⟩:=St.pinV U 5 rfl;have hds:=mkp_e.len ⟨_,_,hmk⟩;rw [qy];refine mJ (m:=9) (k:=k) 3 4 G U ⟨zq,by kernel_rfl⟩ zd G G hk zd zk zk (λ a U=>?_);rw [qy];refine JD (A1:=BqA { X with M:=M.set i { t with xs:=t.xs.set k ds,ys:=t.xs.set k ds } } vr L) [1,2,3] 0 6 0 G U G G hone hvc hds dq G zd (hrm _ zk) zk zk (λ cs hp=>Dc ht (hf.u.trans hf.v.symm) hf.yx (by rw [hf.v,hf.l];exact hv1) (by rw [hf.l];exact hk) hds hp) (λ w U=>?_);refine dC ?_;have U:=zn Rf [⟨0,60,ptrH,BqA { X with M:=M.set i { t with xs:=t.xs.set k ds,ys:=t.xs.set k ds } } vr L⟩,O 3 135 _] U;refine ak ?_;refine aa<|zg UH [] (W6 26 [.v 4 _]) U1 U (zM 2 G (zv G (aL (vq 0 G) ab (aW (by have:=hwf.lx;omega))) (zA 1 G o0))) (zz Rf RV λ a w U=>?_);refine aa ?_;have U:=St.sel U [0,1,2];exact ⟨n-1,by omega,k+1,_,⟨by omega,FY hF hs ht ⟨_,_,hmk⟩⟩,U⟩
  ·have hk:k=s.xs.length:=by simp at hb1;omega
   subst hk;refine qM<|ai<|ai<|az<|ak ?_;refine aa<|zg UH [] (W6 12 [.v 2 _]) Ui U (zM 1 G (zv G (aL (vq 0 G) ab (aW (by have:=hwf.lx;omega))) (zA 1 G o0))) (zz Re RV λ a w U=>?_);refine aa ?_;have U:=St.sel U [0,1];have U:=St.selL U [0];exact ⟨X.M.length-(i+1),by omega,i+1,M,⟨by omega,FZ hF hs⟩,U⟩
 ·have hi:X.M.length≤i:=by have:=hF.1;simp [this] at hb0;omega
  have U:=St.wkL (A':=cQ X vr L (r7 MkE X.M)) U 0 rfl (sf (L4 hF hi hnew));refine qM<|ai<|ai<|az<|dg<|ik U (zm 0 G) (zm 0 G) ?_;exact aP (rs:=[]) G U .nil zd
theorem pu (X:BkRest)(vr:Yn)(L:List Slot)(hfull:∀ s∈X.M,s.full MkE)(hl:X.M.length≤1000000):CK Tryz.prog 62 60 [60,135,76] (BqA X vr L) (cQ X vr L (r8 MkE X.M)) [] (Tu []):=by
 obtain ⟨it0,z0,hi0,hz0,hs0,hb0',hc0⟩:=pZ;refine CK.intro Tryz.func62 G zk nq zk (λ B g w0 a hrm U=>?_);have U:=zn [(0,EqV ((ptrH).f g)),] [⟨0,60,ptrH,BqA X vr L⟩] U;refine qb<|zg U6 [] UA Rd U (zE G ab) (zz Re RL λ a w U=>?_);refine aa<|ql ?_;have U:=St.sel U [0,1];refine wp_loop_ghost (λ n a w=>∃ (i:Nat) (M:List Slt),(n+i=X.M.length∧GrK MkE X.M M i)∧St B w0 42 [(0,EqV (ptrH.f g)),(2,In (i:Nat))] [⟨0,60,ptrH,BqA { X with M:=M } vr L⟩] a w) (X.M.length) ?_ ?_
 ·exact ⟨0,X.M,⟨by omega,Qp⟩,U⟩
 intro n a w hI;obtain ⟨i,M,⟨hn,hG⟩,U⟩:=hI;have h1M:OneK M:=λ t ht=>by
  obtain ⟨ru,rv⟩:=(mN U 0 rfl).2 t ht;obtain ⟨s,hs,h1|h1⟩:=KE hG ht
  ·exact ⟨rv.one,by rw [h1.z];exact ru.one⟩
  ·subst h1;exact ⟨rv.one,(hfull t hs).z1⟩
 refine qb<|qb<|zg U6 [] (.v 6 _::.adr 7 0 (.some 0) True::.adr 8 0 (.some 0) True::.adr 9 0 (.some (0+9)) True::(Wb 10)) RN U (zM 1 G (oc (ob_a G G (gK (lz0 0 G))) (oc (ob_a G G (gJ 1 G zk (lz0 0 G))) (oc (ob_a G G (dT 2 G zk trivial (lz0 0 G) dH)) (zL 3 0 9 G nB (zv G (bg xA (has_wk' (vq 4 G) (tk h1M))) (zv G (aN (vq 0 G) (vq 5 G)) o0))))))) (zz (Wa 0 2 12) RL λ a w U=>?_);refine zJ 2 U G (λ hb0=>?_) (λ hb0=>?_)
 ·have hi:i<X.M.length:=by have:=hG.1;simpa [this] using hb0
  obtain ⟨s,hs⟩:∃ s,X.M[i]?=some s:=⟨_,List.getElem?_eq_getElem hi⟩;have hf:=hfull s (qa hs);have hMi:=NR hG hs;have hvi:=om hMi;have hMlt:i<M.length:=by rw [hG.1];exact hi
  refine qk<|zt<|ql<|qb<|bS (sp:=[.adr 15 0 (.some 0) True,.adr 16 0 (.some 0) True,.adr 17 0 (.some (0+9)) True,.v 18 _,.v 19 _,.v 20 _,.v 21 _,.v 3 VT,.sto 0]) 7 2 0 8 OneC [.g 0,.g 1,.o 6] U (oc (ob_a G G (gK (lz0 0 G))) (oc (ob_a G G (gJ 0 G zk (lz0 0 G))) (oc (ob_a G G (dT 1 G zk trivial (lz0 0 G) dH)) (zL 2 0 9 G nB (zM 1 G (zv G (bB (m:=3) ⟨xA,by kernel_rfl⟩ sD (has_wk' (vq 3 G) (tk h1M)) (vq 4 G) hvi) (zv G (ao (vq 5 G) nO) o0))))))) G zd zk zk (zz (Wa 0 2 21) RL λ a w U=>?_);rw [show List.range' 7 2=[7,8] from rfl];refine fJ (A:=s.view) 2 [0,1] G G U (Str.zero da) G nO G zd G zk zk (λ a w U=>?_);refine bU ?_;have U:=zn Re RV U;refine zt<|zg UH [] [.adr 22 3 (.some 0) True,.v 23 _,.v 4 _] U1 U (zO 1 G eP (zL 0 1 0 G nD (zA 1 G o0))) (zz Rf RV ?_);refine ztA<|zsA<|zgA UF [] UY WZ (zE G ab) (zz (Wf 0 2 4 5) RV λ a w U=>?_);refine aa<|ql ?_;have U:=St.sel U [0,1,2,3];refine wp_loop_ghost (λ n a w=>∃ (k:Nat) (u:Value) (ys:List (List Value)),(n+k=70∧ExtP MkE s k ys)∧St B w0 42 [(0,EqV (ptrH.f g)),(2,In (i:Nat)),(4,EqV u),(5,In (k:Nat))] [⟨0,60,ptrH,BqA { X with M:=M.set i (s.ext u ys) } vr L⟩,⟨3,135,ptrH,s.view⟩] a w) (70) ?_ ?_
  ·have U:=St.cvA (A':=BqA { X with M:=M.set i (s.ext s.v s.xs) } vr L) U 0 rfl (show BqA { X with M:=M } vr L=_ by rw [O2 hf.tonew,Ba hMi]);have U:=St.wkG U 2 rfl rf;exact ⟨0,s.v,s.xs,⟨by omega,O1 hf⟩,U⟩
  intro n a w hI;obtain ⟨k,u,ys,⟨hn2,hE⟩,U⟩:=hI;refine qb<|qb<|zg UH [] (W6 24) Ra U (zM 3 G (zv G (aN (vq 0 G) ab) o0)) (zz (W8 0 2 4 5 25) RV λ a w U=>?_);refine zJ 4 U G (λ hb1=>?_) (λ hb1=>?_)
  ·have hk:k<70:=by have:=hb1;simp at this;omega
   refine qk<|zt<|ql<|bS (sp:=[.v 28 _,.adr 29 3 (.some 2) True,.v 30 _,.v 31 _,.v 32 _,.v 33 VT,.v 4 VT]) 5 2 99 9 OneC [.g 0,.g 1,.g 3,.o 0,.o 4] U (zM 2 G (zO 1 G iL (zL 1 1 2 G ty_3 (zQ G (ir _) (.o (vq 2 G)) (zv G (bR (D:=[]) (l:=[MkE s.n]) (xs:=[.tmp 31]) (cO zk) mx zk (n_ok zk) nq nq nq (.o (vq 3 G)) G G) o0))))) G zd zk zk (zz (W8 0 2 5 28 32) RV λ a w U=>?_);rw [show List.range' 5 2=[5,6] from rfl];rw [qy];refine ll (m:=9) (A1:=λ v'=>cQ X vr L (λ M'=>∃ ys',M'=M.set i (s.ext v' ys')∧ExtP MkE s (k+1) ys')) (X:=MkE s.n) (F:=isMk MkE s.n) [0,1,2] 3 4 0 G U G G (λ ds h=>⟨_,_,h⟩) G G G (hrm _ zk) zq hi0 hz0 hs0 hb0' hc0 zd (n:=s.xs.length+k) (by have:=hf.lx;omega) (by have:=hf.lx;omega) zd zk zk zk zk (λ cs hp=>E2 hMi hE hp) (λ v' w U=>?_);rw [qy];refine oS 0 G U G zd zk zk (λ a U=>?_);refine bU ?_;obtain ⟨M',⟨ys2,hM',hE2⟩,U⟩:=mu U 0 rfl;subst hM';have U:=zn (W8 4 33 0 2 5) [⟨0,60,ptrH,BqA { X with M:=M.set i (s.ext v' ys2) } vr L⟩,O 3 135 _] U;refine ak ?_;refine aa<|zg UH [] (W6 26 [.v 5 _]) [.g 0,.g 2,.g 3,.o 2] U (zM 4 G (zv G (aL (vq 0 G) ab (aW zo)) (zA 1 G o0))) (zz (Wf 4 0 2 5) RV λ a w U=>?_);refine aa ?_;have U:=St.sel U [1,2,0,3];exact ⟨n-1,by omega,k+1,v',ys2,⟨by omega,hE2⟩,U⟩
  ·have hk:k=70:=by simp at hb1;omega
   subst hk;have hu:=((mN U 0 rfl).2 _ (List.mem_set hMlt _)).1;have hu1:=hu.one;have hu2:u.cells = #[u]:=hu.cell;refine qM<|ai<|ai<|az<|aa<|bS (sp:=[.adr 34 0 (.some 0) True,.adr 35 0 (.some 0) True,.adr 36 0 (.some (0+9)) True,.v 37 _,.v 38 _,.v 39 _,.v 40 VT,.v 41 VT,.sto 0]) 6 3 0 8 OneC [.g 0,.g 1,.o 3,.o 4,.o 5] U (oc (ob_a G G (gK (lz0 0 G))) (oc (ob_a G G (gJ 0 G zk (lz0 0 G))) (oc (ob_a G G (dT 1 G zk trivial (lz0 0 G) dH)) (zL 2 0 9 G nB (zM 1 G (zM 2 G o0)))))) G zd zk zk (zz (W8 0 2 37 38 39) RV λ a w U=>?_);rw [show List.range' 6 3=[6,7,8] from rfl];have U:=St.selL U [0];have U:=St.wkG U 2 rfl Ku;have hvr:=(mN U 0 rfl).1;obtain ⟨g1,cap1,hv1⟩:=hvr.row (show i<_ by rw [qY,hG.1];exact hi);have U:=St.cvG U 2 rfl (qq EqV hv1);rw [qy];refine mJ (m:=3) (k:=i) 2 3 G U ⟨xA,by kernel_rfl⟩ zd G G (by rw [qY,hG.1];exact hi) zd zk zk (λ a U=>?_);rw [qy];refine fK 0 G U iM G zd zk zk (λ a U=>?_);rw [qy];refine sY (A1:=BqA { X with M:=(M.set i (s.ext u ys)).set i { s.ext u ys with z:=u } } vr L) [2,3] 0 6 0 G U G G hu1 hu2 nD G zd (hrm _ zk) zk zk (λ cs hp=>BM (by rw [List.getElem?_set_self hMlt]) hv1 hp) (λ w U=>?_);refine dC ?_;have U:=zn Re RL U;refine ak ?_;refine aa<|zg U6 [] (W6 13 [.v 2 _]) Ui U (zM 1 G (zv G (aL (vq 0 G) ab (aW zo)) (zA 1 G o0))) (zz Re RL λ a w U=>?_);refine aa ?_;have U:=St.sel U [0,1];exact ⟨X.M.length-(i+1),by omega,i+1,_,⟨by omega,Fx hG hs hE.1 hE.2.2⟩,(uj (M:=M) (i:=i))▸U⟩
 ·have hi:X.M.length≤i:=by have:=hG.1;simp [this] at hb0;omega
  have U:=St.wkL (A':=cQ X vr L (r8 MkE X.M)) U 0 rfl (sf (KF hG hi hfull));refine qM<|ai<|ai<|az<|dg<|ik U (zm 0 G) (zm 0 G) ?_;exact aP (rs:=[]) G U .nil zd
theorem pj (X:BkRest)(vr:Yn)(L:List Slot)(hdone:∀ t∈X.M,t.done MkE)(hl:X.M.length≤1000000):Cn Tryz.prog 78 [ElP 60 (BqA X vr L)] (Bo true):=by
 refine Cn.intro Tryz.func78 G zk nq (zy [(0,ElP 60 (BqA X vr L))] λ B w0 a U=>?_);have hkp:=Cz U 0 rfl;have h1M:OneK X.M:=λ t ht=>⟨(hkp t ht).2.one,by rw [(hdone t ht).zu];exact (hkp t ht).1.one⟩;refine qb<|zh UA Rd U (zE G aE) (zz Re [] ?_);refine ztA<|zsA<|zhA [.v 3 _] WS (zE G ab) (zz (Wa 0 2 3) [] λ a w U=>?_);refine aa<|ql ?_;have U:=St.sel U [0,2];refine wp_loop_ghost (λ n a w=>∃ (i:Nat),n+i=X.M.length∧St B w0 64 [(0,ElP 60 (BqA X vr L)),(3,In (i:Nat))] [] a w) (X.M.length) ?_ ?_
 ·exact ⟨0,by omega,U⟩
 intro n a w hI;obtain ⟨i,hn,U⟩:=hI;refine qb<|qb<|zh (WG 6) RN U (zM 1 G (zM 0 G (zv G (mD (vq 1 G)) (zv G (bK (vq 2 G) dH (Sub.part 9 G G)) (zv G (ao (vq 3 G) nB) (zv G (bg xA (has_wk' (vq 4 G) (tk h1M))) (zv G (aN (vq 0 G) (vq 5 G)) o0))))))) (zz (Wa 0 3 12) [] λ a w U=>?_);refine zJ 2 U G (λ hb0=>?_) (λ hb0=>?_)
 ·have hi:i<X.M.length:=by have:=hb0;simp at this;omega
  obtain ⟨t,ht⟩:∃ t,X.M[i]?=some t:=⟨_,List.getElem?_eq_getElem hi⟩;have hmem:=qa ht;have hd:=hdone t hmem;have hzr:RowV t.z t.ys.length:=by rw [hd.zu];exact (hkp t hmem).1
  refine qk<|zt<|ql<|qb<|uY (sp:=[.v 15 _,.v 16 _,.v 17 _,.v 18 _,.v 19 _,.v 20 _,.v 21 _,.alc 0,.sto 0]) 7 2 4 [.g 0,.g 1,.o 6] U (zM 0 G (zv G (mD (vq 0 G)) (zv G (bK (vq 1 G) dH (Sub.part 9 G G)) (zv G (ao (vq 2 G) nB) (zM 1 G (zv G (bB (m:=3) ⟨xA,by kernel_rfl⟩ sD (has_wk' (vq 3 G) (tk h1M)) (vq 4 G) (om ht)) (zv G (ao (vq 5 G) nO) o0))))))) G zk zk (zz (Wa 0 3 21) [] λ a w U=>?_);rw [show List.range' 7 2=[7,8] from rfl];refine fJ (A:=t.view) 2 [0,1] G G U (Str.zero da) G nO G zd G zk zk (λ a w U=>?_);refine bU ?_;have U:=zn UO RW U;refine zt<|qb<|zg U6 [] (.adr 22 4 (.some 1) True::(W6 23 (.adr 25 4 (.some 0) True::(Ww 26)))) (We [.o 7]) U (zO 0 G iM (zL 0 0 1 G nD (zv G (rC zq hzr (vq 1 G)) (zO 0 G eP (zL 3 0 0 G nD (zv G (rC zq hd.rv (vq 4 G)) (zv G (aL (vq 5 G) ab (LZ (by have:=hd.lx;omega))) (zv G (ca (vq 2 G) (vq 6 G)) o0)))))))) (zz (Wa 0 3 29) RW λ a w U=>?_);refine zJ 2 U G (λ hb1=>?_) (λ hb1=>?_)
  ·exact absurd hb1 (by rw [hd.yl];simp)
  ·refine qk<|zt<|zg U6 [] UY WS U (zE G ab) (zz (Wa 0 3 5) RW λ a w U=>?_);refine aa<|ql ?_;have U:=St.sel U [0,1,2];refine wp_loop_ghost (λ n a w=>∃ (k:Nat),n+k=t.ys.length∧St B w0 64 [(0,ElP 60 (BqA X vr L)),(3,In (i:Nat)),(5,In (k:Nat))] [⟨4,135,ptrH,t.view⟩] a w) (t.ys.length) ?_ ?_
   ·exact ⟨0,by omega,U⟩
   intro n a w hI;obtain ⟨k,hn2,U⟩:=hI;refine qb<|qb<|zg U6 [] (.v 30 _::.adr 31 4 (.some 1) True::(Wb 32)) WU U (zM 2 G (zO 0 G iM (zL 1 0 1 G nD (zv G (rC zq hzr (vq 2 G)) (zv G (aN (vq 0 G) (vq 3 G)) o0))))) (zz (Wf 0 3 5 34) RW λ a w U=>?_);refine zJ 3 U G (λ hb2=>?_) (λ hb2=>?_)
   ·have hk:k<t.ys.length:=by have:=hb2;simp at this;omega
    refine qk<|zt<|ql<|qb<|lp (anc:=[[],[0],[],[0,1,2],[0,1,2,3],[],[5],[0,1,2,3,4,5,6],[0,1,2,3,4,5,6,7],[0,1,2,3,4,5,6,7,8],[0,1,2,3,4,5,6,7,8,9],[0,1,2,3,4,5,6,7,8,9],[0,1,2,3,4,5,6,7,8,9,11],[0,1,2,3,4,5,6,7,8,9,11,12],[0,1,2,3,4,5,6,7,8,9,10,11,12,13],[0,1,2,3,4,5,6,7,8,9,10,11,12,13,14],[0,1,2,3,4,5,6,7,8,9,10,11,12,13,14,15],[0,1,2,3,4,5,6,7,8,9,10,11,12,13,14,15,16],[0,1,2,3,4,5,6,7,8,9,10,11,12,13,14,15],[0,1,2,3,4,5,6,7,8,9,10,11,12,13,14,15,16,17,18],[0,1,2,3,4,5,6,7,8,9,10,11,12,13,14,15,16,17,18,19],[0,1,2,3,4,5,6,7,8,9,10,11,12,13,14,15],[0,1,2,3,4,5,6,7,8,9,10,11,12,13,14,15,21],[0,1,2,3,4,5,6,7,8,9,10,11,12,13,14,15,16,17,18,19,20,21,22],[0,1,2,3,4,5,6,7,8,9,10,11,12,13,14,15,16,17,18,19,20,21,22,23],[0,1,2,3,4,5,6,7,8,9,10,11,12,13,14,15,16,17,18,19,20,21,22,23,24],[0,1,2,3,4,5,6,7,8,9,10,11,12,13,14,15,16,17,18,19,20,21,22,23,24,25]]) (sts:=[none]) (news:=[]) (sp:=((.adr 37 4 (.some 1) True:Sp)::(.v 38 _)::(.v 39 _)::(.v 40 _)::(.v 41 _)::(.adr 42 4 (.some 2) True)::(.v 43 _)::(.v 44 _)::(.v 45 _)::(.v 46 _)::(.f 47 _)::(.adr 48 4 (.some 0) (_=false))::(.f 49 _)::(.f 50 _)::(.f 51 _)::(.f 52 _)::(.adr 53 4 (.some 0) ((_=false)∧_=true))::(.v 54 (Wh ((_=false)∧_=true) _))::(.v 55 (Wh ((_=false)∧_=true) _))::(.v 56 (Wh ((_=false)∧_=true) _))::(.v 57 (Wh ((_=false)∧_=true) _))::(.adr 58 4 (.some 2) ((_=false)∧_=true))::(.v 59 (Wh ((_=false)∧_=true) _))::(.v 60 (Wh ((_=false)∧_=true) _))::(.v 61 (Wh ((_=false)∧_=true) _))::(.f 62 _)::(.v 63 _)::[])) [.g 0,.g 1,.g 2,.o 26] ac U (zO 0 G iM (zL 0 0 1 G nD (zM 2 G (zv G (bB (m:=9) ⟨zq,by kernel_rfl⟩ (H4 G) (AR (vq 1 G) (gq 0 G) hmem hd) (vq 2 G) (Bv hk)) (zv G (ao (vq 3 G) dq) (zO 0 G iL (zL 5 0 2 G ty_3 (zQ G (mO _) (.p (vq 4 G) (vq 6 G)) (zv G (dc (vq 7 G)) (zV 8 G (zB 9 G (λ hg=>aq (gq 2 G)) (zC 9 0 G eP (zB 9 G (λ hg=>aB 11 G zk hg (lz0 0 G) (Sub.part 0 G G) nD) (zB 9 G (λ hg=>rC zq hd.rv (ae (vq 12 G) hg)) (zB 9 G (λ hg=>aN (ae (vq 10 G) hg) (ae (vq 13 G) hg)) (zB 9 G (λ hg=>aq (ae (vq 14 G) hg)) (oc (gI G G G (vq 15 G) nq (λ hg=>fY (lz0 0 G) eP)) (oc (bT G G G (vq 15 G) nq (λ hg=>aB 16 G zk hg (lz0 0 G) (Sub.part 0 G G) nD)) (oc (bT G G G (vq 15 G) nq (λ hg=>aq (gq 2 G))) (oc (bT G G G (vq 15 G) nq (λ hg=>bB (m:=9) ⟨zq,by kernel_rfl⟩ (H4 G) (AM (ae (vq 17 G) hg) (gq 0 G) hmem hd) (ae (vq 18 G) hg) (Bv (by have:=hg;simp at this;omega)))) (oc (bT G G G (vq 15 G) nq (λ hg=>ao (ae (vq 19 G) hg) dq)) (oc (gI G G G (vq 15 G) nq (λ hg=>fY (lz0 0 G) iL)) (oc (bT G G G (vq 15 G) nq (λ hg=>aB 21 G zk hg (lz0 0 G) (Sub.part 2 G G) ty_3)) (oc (bT G G G (vq 15 G) nq (λ hg=>be (mO _) (.p (ae (vq 20 G) hg) (ae (vq 22 G) hg)))) (oc (bT G G G (vq 15 G) nq (λ hg=>dc (ae (vq 23 G) hg))) (zB 9 G (λ hg=>bv (ae (vq 15 G) hg) (fR (vq 24 G) hg)) (zv G (r_or (vq 9 G) (vq 25 G)) o0))))))))))))))))))))))))))) zk zk zk zk (zz (Wf 0 3 5 63) RW λ a w U=>?_);refine zJ 3 U G (λ hb3=>?_) (λ hb3=>?_)
    ·exact absurd hb3 (by simp)
    ·refine qk<|ak ?_;refine aa<|zg U6 [] (W6 35 [.v 5 _]) U1 U (zM 2 G (zv G (aL (vq 0 G) ab (aW (by have:=hd.lx;have:=hd.yl;omega))) (zA 1 G o0))) (zz (Wa 0 3 5) RW λ a w U=>?_);refine aa ?_;have U:=St.sel U [0,1,2];exact ⟨n-1,by omega,k+1,by omega,U⟩
   ·have hk:k=t.ys.length:=by have:=hb2;simp at this;omega
    refine qM<|ai<|ai<|az<|ak ?_;refine aa<|zg U6 [] (W6 13 [.v 3 _]) Ui U (zM 1 G (zv G (aL (vq 0 G) ab (aW zo)) (zA 1 G o0))) (zz UO RW λ a w U=>?_);refine aa ?_;have U:=St.sel U [0,1];have U:=St.selL U [];exact ⟨X.M.length-(i+1),by omega,i+1,by omega,U⟩
 ·have hi:i=X.M.length:=by have:=hb0;simp at this;omega
  refine qM<|ai<|ai<|az<|zt<|zh UA Rd U (zE G aE) (zz Re [] λ a w U=>?_);exact aa<|qi<|am G U (zm 1 G)
section
open Rg
variable {P:Program}{Q:Exit→Act→World→Prop}{R:Rg}{B i:Nat}{w0:Bs}
end
abbrev KL:=List (Value × List Nat)
def SepL:List Slot→KL→Prop
 | _,[]=>True
 | L,p::l=>(∀ t∈L,∀ g,t.has g→p.1.ownBlock≠some g)∧SepL (L++[newS p.1 p.2 (L.length+1)]) l
def kbl (l:KL):List Nat:=l.filterMap λ p=>p.1.ownBlock
def JkA:As where
 n:=17
 ag:=true
 p _ cs _:=cs.length=17∧∀ c∈cs,c.oneCell'=true
 deps:=[]
 len:=λ _ _ _ h=>h.1
 one:=λ _ _ _ h=>h.2
 ag1:=λ h=>by cases h
 cg:=λ _ _ _ _ _ h=>h
 wr:=λ _ _ _ _ _ _ _ _ _ _ _ _ h=>h
def IntP (x:RI)(m:Value):As:=cat [BoA x.neg,PinA m (MgN x.mag)]
def E9 (x:RF)(m1 m2:Value):As:=cat [IntP x.num m1,IntP x.den m2]
abbrev kf (x:RF)(m1 m2:Value):KL:=[(m1,x.num.mag),(m2,x.den.mag)]
abbrev km (x:RM)(m:Nat→Value):KL:=kf x.a (m 0) (m 1)++kf x.b (m 2) (m 3)++kf x.c (m 4) (m 5)++kf x.d (m 6) (m 7)
end Go.Proofs.YtbghmmnkciimdaaGreatDoor
