import Derived.Test.YthdbhckhignfcaaGreatDoorBxAa
import Derived.Test.YthdbhckhignfcaaGreatDoorBxAc
import Derived.Test.YthdbhckhignfcaaGreatDoorBxAq
set_option linter.unusedVariables false
set_option linter.unusedSimpArgs false
set_option linter.unusedSectionVars false
set_option maxRecDepth 100000
namespace Go.Proofs.YthdbhckhignfcaaGreatDoor
open Go Go.RowKit
theorem app_held:∃ it z,Tryz.prog.info? 105=some it∧it.zero=some z∧it.size=3∧it.bytes=56∧z.cells.size=3:=by
 have h:((Tryz.prog.info? 105).bind fun it=>it.zero.map fun z=>(it.size,it.bytes,z.cells.size))=some (3,56,3):=by kernel_rfl
 cases hi:Tryz.prog.info? 105 with
 | none=>rw [hi] at h; simp at h
 | some it =>
  rw [hi] at h
  cases hz:it.zero with
  | none=>simp [hz] at h
  | some z =>
   simp [hz] at h
   exact ⟨it,z,rfl,hz,h.1,h.2.1,h.2.2⟩
def newS (v:Value)(xs:List Nat)(n:Nat):Slot:=⟨v,xs,v,xs,.slice none 0 0,n⟩
def BkE (L:List Slot):As where
 n:=17
 ag:=true
 p B cs w:=∃ vr,(BkA vr L).p B cs w
 deps:=[105,U32]
 len:=fun B cs w ⟨vr,h⟩=>(BkA vr L).len B cs w h
 one:=fun B cs w ⟨vr,h⟩=>(BkA vr L).one B cs w h
 ag1:=fun h=>by cases h
 cg:=fun B cs w w' hg ⟨vr,h⟩=>⟨vr,(BkA vr L).cg B cs w w' hg h⟩
 wr:=fun B cs w w' g c T fz h1 h2 h3 h4 ⟨vr,h⟩=>⟨vr,(BkA vr L).wr B cs w w' g c T fz h1 h2 h3 h4 h⟩
theorem mg_own {B:Nat}{w:World}{v:Value}{xs:List Nat}(h:(MgN xs).va.p B v w):w.ownsRow B U32 1 v xs.length (xs.map lv):=by
 obtain ⟨cs,⟨h0,⟨rfl,rfl⟩ | ⟨g,ext,rfl,e1,e2,e3⟩⟩,hv⟩:=h
 ·have hv':v=.slice none 0 0:=hv
  subst hv'
  exact ⟨rfl,.inl ⟨rfl,rfl⟩⟩
 ·have hv':v=.slice (some ⟨g,0,none⟩) xs.length (xs++ext).length:=hv
  subst hv'
  refine ⟨by simp,.inr ⟨g,(xs++ext).length,_,rfl,e2,e3,by simp,e1,by simp,?_⟩⟩
  rw [Nat.mul_one]
  show (List.map _ (xs++ext)).take xs.length=_
  rw [List.map_append,List.take_append_of_le_length (by simp),List.take_of_length_le (by simp)]
  rfl
theorem zy0 {v:Value}{n B:Nat}{w:World}{xs:List Nat}{ds:List Value}(h:(cat [EqS v,EqS (.slice none 0 0),NumA .i64 (n:Nat)]).p B ds w):ds=(newS v xs n).cells:=by
 obtain ⟨ps,rfl,hp⟩:=h
 cases hp with
 | cons h1 hp=>cases hp with
  | cons h2 hp=>cases hp with
   | cons h3 hp =>
    cases hp
    have h3':=h3
    obtain ⟨rfl,_⟩:=h1
    obtain ⟨rfl,_⟩:=h2
    have:_=[Value.int .i64 (n:Nat)]:=h3'
    subst this
    rfl
theorem pin_eq {v:Value}{xs:List Nat}:Wk (PinA v (MgN xs)).va (EqS v).va:=fun B u w ⟨cs,⟨h1,h2⟩,h3⟩=>by
 have h4:u=v:=h3.trans h2
 subst h4
 have hl:=(MgN xs).len _ _ _ h1
 have h5:=(MgN xs).one _ _ _ h1
 match cs,hl with
 | [x],_ =>
  have h6:u=x:=h3
  subst h6
  exact ⟨[u],⟨rfl,h5 u (by simp)⟩,rfl⟩
theorem pin_mg {v u:Value}{xs:List Nat}{B:Nat}{w:World}(h:(PinA v (MgN xs)).va.p B u w):(MgN xs).va.p B v w:=by
 obtain ⟨cs,⟨h1,h2⟩,_⟩:=h
 exact ⟨cs,h1,h2.symm⟩
section
open Rg
variable {P:Program} {Q:Exit→Act→World→Prop} {R:Rg} {B i:Nat} {w0:Bs}
theorem zfp {x:Operand}{g o:Nat}(hx:Has R B w0 i x (EqV (.pointer (some ⟨g,o,none⟩)))):Wv P Q R B w0 i (.nilCheck x) (EqV (.pointer (some ⟨g,o,none⟩))) :=
 zbr fun d T ps af gd a w av=>by
  have h:a.eval x=.pointer (some ⟨g,o,none⟩):=hx a w av
  exact ⟨_,w,by simp [execOp,h],Grow.refl w,rfl⟩
theorem zfq {x:Operand}{T:TypeId}{f k n g o:Nat}(hx:Has R B w0 i x (EqV (.pointer (some ⟨g,o,none⟩))))(hf:Fld P T f k n):Wv P Q R B w0 i (.fieldAddr T x f) (EqV (.pointer (some ⟨g,o+k,none⟩))) :=
 zbr fun d T ps af gd a w av=>by
  have h:a.eval x=.pointer (some ⟨g,o,none⟩):=hx a w av
  exact ⟨_,w,by simp [execOp,h,ze9 hf],Grow.refl w,rfl⟩
end
end Go.Proofs.YthdbhckhignfcaaGreatDoor
namespace Go.Proofs.YthdbhckhignfcaaGreatDoor
open Go Go.RowKit
structure Slt where
 v:Value
 xs:List (List Value)
 u:Value
 ys:List (List Value)
 z:Value
 n:Nat
def Slt.cells (s:Slt):List Value:=[s.v,s.z,.int .i64 s.n]
def Slt.has (s:Slt)(g:Nat):Prop:=s.v.ownBlock=some g∨s.u.ownBlock=some g
def AptK (L:List Slt):Prop:=∀ (i j:Nat) (s t:Slt),L[i]?=some s→L[j]?=some t→i≠j→∀ g,s.has g→¬ t.has g
section
variable {H E m:Nat}
def RdyK (E m:Nat)(B:Nat)(w:World)(v:Value)(xs:List (List Value)):Prop:=RowV v xs.length∧(∀ x∈xs,x.length=m)∧∀ g,v.ownBlock=some g→B≤g∧∃ c,w.heap[g]?=some (Obj.cells c E (0,0))∧c.toList.take (xs.length*m)=xs.flatten
def Slt.ok (E m:Nat)(B:Nat)(w:World)(s:Slt):Prop:=w.ownsRow B E m s.u s.ys.length s.ys.flatten∧RdyK E m B w s.v s.xs
theorem zf1:∀ {xs:List (List Value)},(∀ x∈xs,x.length=m)→xs.flatten.length=xs.length*m
 | [],_=>by simp
 | x::xs,h=>by
  rw [List.flatten_cons,List.length_append,h x (by simp),zf1 (fun y hy=>h y (by simp [hy])),List.length_cons,Nat.add_mul,Nat.one_mul,Nat.add_comm]
theorem RdyK.keep {B:Nat}{v:Value}{xs:List (List Value)}{w w':World}(h:RdyK E m B w v xs)(hk:∀ (g:Nat) (c:Array Value),v.ownBlock=some g→w.heap[g]?=some (Obj.cells c E (0,0))→w'.heap[g]?=some (Obj.cells c E (0,0))):RdyK E m B w' v xs :=
 ⟨h.1,h.2.1,fun g hg=>by
  obtain ⟨h1,c,h2,h3⟩:=h.2.2 g hg
  exact ⟨h1,c,hk g c hg h2,h3⟩⟩
theorem Slt.ok.keep {B:Nat}{s:Slt}{w w':World}(h:s.ok E m B w)(hk:∀ (g:Nat) (c:Array Value),s.has g→w.heap[g]?=some (Obj.cells c E (0,0))→w'.heap[g]?=some (Obj.cells c E (0,0))):s.ok E m B w' :=
 ⟨zcw h.1 fun g c hg=>hk g c (.inr hg),h.2.keep fun g c hg=>hk g c (.inl hg)⟩
theorem Slt.ok.lt {B:Nat}{s:Slt}{w:World}(h:s.ok E m B w){g:Nat}(hg:s.has g):B≤g∧∃ c,w.heap[g]?=some (Obj.cells c E (0,0)):=by
 rcases hg with hg | hg
 ·obtain ⟨h1,c,h2,_⟩:=h.2.2.2 g hg
  exact ⟨h1,c,h2⟩
 ·rcases h.1.2 with ⟨e,_⟩ | ⟨g',cap,cur,e,h2,h3,_⟩
  ·rw [e] at hg; cases hg
  ·rw [e] at hg
   have:g'=g:=by simpa [Value.ownBlock] using hg
   subst this
   exact ⟨h2,cur,h3⟩
def HkA (H E m:Nat)(vr:Value)(L:List Slt):As where
 n:=1
 ag:=false
 p B cs w:=cs=[vr]∧w.ownsRow B H 3 vr L.length (L.flatMap Slt.cells)∧(∀ s∈L,s.ok E m B w)∧AptK L
 deps:=[H,E]
 len:=by rintro B cs w ⟨rfl,_⟩; rfl
 one:=by
  rintro B cs w ⟨rfl,h,_⟩ c hc
  obtain rfl:=List.mem_singleton.1 hc
  rcases h.2 with ⟨rfl,_⟩ | ⟨g,cap,cur,rfl,_⟩ <;> rfl
 ag1:=fun _=>rfl
 cg:=fun B cs w w' hg ⟨h1,h2,h3,h4⟩=>⟨h1,zcw h2 fun g c _ h=>hg.heap h,fun s hs=>(h3 s hs).keep fun g c _ h=>hg.heap h,h4⟩
 wr:=by
  rintro B cs w w' g c T fz hgc hT hB hW ⟨h1,h2,h3,h4⟩
  simp only [List.mem_cons,List.not_mem_nil,or_false,not_or] at hT
  have hne:∀ (g':Nat) (c':Array Value) (E':TypeId),(E'=H∨E'=E)→w.heap[g']?=some (Obj.cells c' E' (0,0))→w'.heap[g']?=some (Obj.cells c' E' (0,0)):=fun g' c' E' hE h=>by
   rw [hW.block g' (fun e=>?_)]
   ·exact h
   ·subst e
    rw [hgc] at h
    injection h with h
    injection h with _ h _
    subst h
    rcases hE with e | e
    ·exact hT.1 e
    ·exact hT.2 e
  exact ⟨h1,zcw h2 fun g c _ h=>hne g c _ (.inl rfl) h,fun s hs=>(h3 s hs).keep fun g c _ h=>hne g c _ (.inr rfl) h,h4⟩
theorem zp3 {α:Type}{f:Slt→List α}:∀ {L:List Slt} {i:Nat} {s s':Slt},L[i]?=some s→f s'=f s→(L.set i s').flatMap f=L.flatMap f
 | x::L,0,s,s',h,e=>by
  simp at h
  subst h
  simp [e]
 | x::L,i+1,s,s',h,e=>by
  simp only [List.set_cons_succ,List.flatMap_cons]
  rw [zp3 (by simpa using h) e]
theorem hk_set {vr:Value}{L:List Slt}{B i:Nat}{s s':Slt}{cs:List Value}{w w':World}(h:(HkA H E m vr L).p B cs w)(hi:L[i]?=some s)(hc:s'.cells=s.cells)(hok:s'.ok E m B w')
  (hrow:∀ (g:Nat) (c:Array Value),w.heap[g]?=some (Obj.cells c H (0,0))→w'.heap[g]?=some (Obj.cells c H (0,0))) (hoth:∀ (g:Nat) (c:Array Value),¬ s.has g→w.heap[g]?=some (Obj.cells c E (0,0))→w'.heap[g]?=some (Obj.cells c E (0,0)))
  (hblk:∀ g,s'.has g→s.has g∨w.heap.size≤g):(HkA H E m vr (L.set i s')).p B cs w':=by
 obtain ⟨h1,h2,h3,h4⟩:=h
 have hlt:i<L.length:=(List.getElem?_eq_some_iff.1 hi).1
 have hfar:∀ (j:Nat) t,L[j]?=some t→j≠i→∀ g,t.has g→¬ s'.has g:=fun j t hj hne g hg hg'=>by
  rcases hblk g hg' with h5 | h5
  ·exact h4 j i t s hj hi hne g hg h5
  ·obtain ⟨_,c,h6⟩:=(h3 t (List.mem_of_getElem? hj)).lt hg
   have:=(Array.getElem?_eq_some_iff.1 h6).1
   omega
 refine ⟨h1,?_,fun t ht=>?_,fun j k t1 t2 hj hk hne g hg hg'=>?_⟩
 ·rw [List.length_set,zp3 hi hc]
  exact zcw h2 fun g c _ h=>hrow g c h
 ·obtain ⟨j,hj⟩:=List.getElem?_of_mem ht
  by_cases e:j=i
  ·subst e
   rw [List.getElem?_set_self hlt] at hj
   injection hj with hj
   subst hj
   exact hok
  ·rw [List.getElem?_set_ne (fun e2=>e e2.symm)] at hj
   exact (h3 t (List.mem_of_getElem? hj)).keep fun g c hg hh=>hoth g c (fun hs=>h4 j i t s hj hi e g hg hs) hh
 ·by_cases e:j=i
  ·subst e
   rw [List.getElem?_set_self hlt] at hj
   injection hj with hj
   subst hj
   rw [List.getElem?_set_ne hne] at hk
   exact hfar k t2 hk (fun e=>hne e.symm) g hg' hg
  ·rw [List.getElem?_set_ne (fun e2=>e e2.symm)] at hj
   by_cases e2:k=i
   ·subst e2
    rw [List.getElem?_set_self hlt] at hk
    injection hk with hk
    subst hk
    exact hfar j t1 hj e g hg hg'
   ·rw [List.getElem?_set_ne (fun e3=>e2 e3.symm)] at hk
    exact h4 j k t1 t2 hj hk hne g hg hg'
theorem zvb {c:List Value}{xs:List (List Value)}{k:Nat}{ds:List Value}(hx:∀ x∈xs,x.length=m)(hk:k<xs.length)(hd:ds.length=m)(h:c.take (xs.length*m)=xs.flatten):(c.take (k*m)++ds++c.drop (k*m+m)).take (xs.length*m)=(xs.set k ds).flatten:=by
 have hl:=zf1 hx
 have hle:xs.length*m≤c.length:=by
  have:=congrArg List.length h
  rw [hl,List.length_take] at this
  omega
 have hk1:k*m+m≤xs.length*m:=by rw [← Nat.succ_mul]; exact Nat.mul_le_mul_right m hk
 have e1:c.take (k*m)=(xs.take k).flatten:=by
  have h0:=congrArg (List.take (k*m)) h
  rw [List.take_take,Nat.min_eq_left zo] at h0
  rw [h0]
  have h2:xs.flatten=(xs.take k).flatten++(xs.drop k).flatten:=by rw [← List.flatten_append,List.take_append_drop]
  have h3:(xs.take k).flatten.length=k*m:=by
   rw [zf1 (fun x hx'=>hx x (List.mem_of_mem_take hx')),List.length_take,Nat.min_eq_left (Nat.le_of_lt hk)]
  rw [h2,← h3,List.take_left]
 have e2:(c.drop (k*m+m)).take (xs.length*m-(k*m+m))=(xs.drop (k+1)).flatten:=by
  have h0:=congrArg (List.drop (k*m+m)) h
  rw [List.drop_take] at h0
  rw [h0]
  have h2:xs.flatten=(xs.take (k+1)).flatten++(xs.drop (k+1)).flatten:=by rw [← List.flatten_append,List.take_append_drop]
  have h3:(xs.take (k+1)).flatten.length=k*m+m:=by
   rw [zf1 (fun x hx'=>hx x (List.mem_of_mem_take hx')),List.length_take,Nat.min_eq_left hk,Nat.succ_mul]
  rw [h2,← h3,List.drop_left]
 have l1:(c.take (k*m)).length=k*m:=by rw [List.length_take]; omega
 rw [List.append_assoc,List.take_append,l1,List.take_take,Nat.min_eq_right (show k*m≤xs.length*m by omega),List.take_append,hd,List.take_of_length_le (l:=ds) (by rw [hd]; omega),Nat.sub_sub,e1,e2,List.set_eq_take_append_cons_drop,if_pos hk]
 simp
theorem zna {vr:Value}{L:List Slt}{B i k g cap:Nat}{s:Slt}{cs ds:List Value}{w:World}(hHE:H≠E)(h:(HkA H E m vr L).p B cs w)(hi:L[i]?=some s)(hu:s.u=s.v)(hy:s.ys=s.xs)(hv:s.v=.slice (some ⟨g,0,none⟩) s.xs.length cap)(hk:k<s.xs.length)(hd:ds.length=m) :
  B≤g∧∃ c:Array Value,w.heap[g]?=some (Obj.cells c E (0,0))∧k*m+m≤c.size∧(HkA H E m vr (L.set i { s with xs:=s.xs.set k ds,ys:=s.xs.set k ds })).p B cs (w.setRow g (c.toList.take (k*m)++ds++c.toList.drop (k*m+m)).toArray):=by
 have hs:=h.2.2.1 s (List.mem_of_getElem? hi)
 have hg:s.v.ownBlock=some g:=by rw [hv]; rfl
 obtain ⟨hB,c,hc,htk⟩:=hs.2.2.2 g hg
 have hown:=hs.1
 rw [hu,hy,hv] at hown
 rcases hown.2 with ⟨e,_⟩ | ⟨g',cap',cur,e,h2,h3,h4,h5,h6,h7⟩
 ·cases e
 ·injection e with e1 e2 e3
  injection e1 with e1
  injection e1 with e1
  subst e1
  subst e3
  rw [hc] at h3
  injection h3 with h3
  injection h3 with h3
  subst h3
  have hk1:k*m+m≤s.xs.length*m:=by rw [← Nat.succ_mul]; exact Nat.mul_le_mul_right m hk
  have hk2:s.xs.length*m≤cap*m:=Nat.mul_le_mul_right m h4
  have hsz:k*m+m≤c.size:=by rw [h6]; omega
  have hnew:(w.setRow g (c.toList.take (k*m)++ds++c.toList.drop (k*m+m)).toArray).heap[g]?=some (Obj.cells (c.toList.take (k*m)++ds++c.toList.drop (k*m+m)).toArray E (0,0)):=setRow_heap w g _ _ _ _ hc
  have hitem:∀ x∈s.xs.set k ds,x.length=m:=fun x hx=>by
   rcases List.mem_or_eq_of_mem_set hx with hx | rfl
   ·exact hs.2.2.1 x hx
   ·exact hd
  have htk2:(c.toList.take (k*m)++ds++c.toList.drop (k*m+m)).take ((s.xs.set k ds).length*m)=(s.xs.set k ds).flatten:=by
   rw [List.length_set]
   exact zvb hs.2.2.1 hk hd htk
  refine ⟨hB,c,hc,hsz,hk_set h hi rfl ⟨?_,?_⟩ (fun g2 c2 h8=>?_) (fun g2 c2 h8 h9=>?_) fun g2 h8=>.inl h8⟩
  ·show World.ownsRow _ B E m s.u (s.xs.set k ds).length (s.xs.set k ds).flatten
   rw [hu,hv]
   refine ⟨zf1 hitem,.inr ⟨g,cap,_,by rw [List.length_set],hB,hnew,by rw [List.length_set]; exact h4,h5,?_,htk2⟩⟩
   have hcl:c.toList.length=c.size:=by simp
   simp only [List.size_toArray,List.length_append,List.length_take,List.length_drop,hcl,hd]
   rw [h6] at hsz ⊢
   omega
  ·show RdyK E m B _ s.v (s.xs.set k ds)
   refine ⟨by rw [List.length_set]; exact hs.2.1,hitem,fun g2 h8=>?_⟩
   rw [hg] at h8
   injection h8 with h8
   subst h8
   exact ⟨hB,_,hnew,htk2⟩
  ·rw [setRow_other _ _ _ _ (fun e=>by subst e; rw [hc] at h8; injection h8 with h8; injection h8 with _ h8 _; exact hHE h8.symm)]
   exact h8
  ·rw [setRow_other _ _ _ _ (fun e=>h8 (.inl (by rw [e]; exact hg)))]
   exact h9
theorem hk_app {vr v':Value}{L:List Slt}{B i:Nat}{s:Slt}{cs ds:List Value}{w w':World}(hHE:H≠E)(h:(HkA H E m vr L).p B cs w)(hi:L[i]?=some s)(hown:w'.ownsRow B E m v' (s.ys.length+1) (s.ys.flatten++ds))(hg:w.grownBy w' s.u.ownBlock)
  (hb:v'.ownBlock=s.u.ownBlock∨(v'.ownBlock=some w.heap.size∧w.grownBy w' none)) (hpre:s.u.ownBlock=s.v.ownBlock→s.xs <+: s.ys) (hyl:∀ y∈s.ys,y.length=m):(HkA H E m vr (L.set i { s with u:=v',ys:=s.ys++[ds] })).p B cs w':=by
 have hs:=h.2.2.1 s (List.mem_of_getElem? hi)
 have hlt:∀ (g:Nat) (c:Array Value) (T:TypeId),w.heap[g]?=some (Obj.cells c T (0,0))→g<w.heap.size:=fun g c T h=>(Array.getElem?_eq_some_iff.1 h).1
 refine hk_set h hi rfl ⟨by simpa using hown,?_⟩ (fun g c h8=>?_) (fun g c h8 h9=>?_) fun g h8=>?_
 ·refine ⟨hs.2.1,hs.2.2.1,fun g hgv=>?_⟩
  obtain ⟨h1,c,h2,h3⟩:=hs.2.2.2 g hgv
  by_cases e:s.u.ownBlock=some g
  ·rcases hb with hb | ⟨hb,hgn⟩
   ·rcases hown.2 with ⟨e1,_⟩ | ⟨g',cap,cur,e1,h4,h5,h6,h7,h10,h11⟩
    ·rw [e1,e] at hb
     cases hb
    ·have:g'=g:=by
      have:v'.ownBlock=some g':=by rw [e1]; rfl
      rw [hb,e] at this
      injection this with this
      exact this.symm
     subst this
     refine ⟨h1,cur,h5,?_⟩
     obtain ⟨t,ht⟩:=hpre (e.trans hgv.symm)
     have hle:s.xs.length≤s.ys.length:=by rw [← ht]; simp
     have hle2:s.xs.length*m≤(s.ys.length+1)*m:=Nat.mul_le_mul_right m zo
     have h12:=congrArg (List.take (s.xs.length*m)) h11
     rw [List.take_take,Nat.min_eq_left hle2] at h12
     show cur.toList.take (s.xs.length*m)=s.xs.flatten
     rw [h12,← ht,List.flatten_append,List.append_assoc,← zf1 hs.2.2.1,List.take_left]
   ·exact ⟨h1,c,(hgn.block g (hlt _ _ _ h2) (by simp)).trans h2,h3⟩
  ·exact ⟨h1,c,(hg.block g (hlt _ _ _ h2) (fun e2=>e e2.symm)).trans h2,h3⟩
 ·refine (hg.block g (hlt _ _ _ h8) (fun e=>?_)).trans h8
  obtain ⟨_,c2,h9⟩:=hs.lt (g:=g) (.inr e.symm)
  rw [h8] at h9
  injection h9 with h9
  injection h9 with _ h9 _
  exact hHE h9
 ·exact (hg.block g (hlt _ _ _ h9) (fun e=>h8 (.inr e.symm))).trans h9
 ·rcases h8 with h8 | h8
  ·exact .inl (.inl h8)
  ·rcases hb with hb | ⟨hb,_⟩
   ·exact .inl (.inr (hb.symm.trans h8))
   ·have h8':v'.ownBlock=some g:=h8
    rw [hb] at h8'
    injection h8' with h8'
    exact .inr (Nat.le_of_eq h8')
theorem zso:∀ {L:List Slt} {i:Nat} {s:Slt},L[i]?=some s→∀ z,(L.set i { s with z:=z }).flatMap Slt.cells=(L.flatMap Slt.cells).set (3*i+1) z
 | x::L,0,s,h,z=>by
  simp at h
  subst h
  rfl
 | x::L,i+1,s,h,z=>by
  simp only [List.set_cons_succ,List.flatMap_cons]
  rw [zso (by simpa using h) z,show 3*(i+1)+1=(3*i+1)+3 by omega]
  rfl
theorem flatK3 {L:List Slt}:(L.flatMap Slt.cells).length=L.length*3:=by
 induction L with
 | nil=>rfl
 | cons x L ih=>rw [List.flatMap_cons,List.length_append,ih,List.length_cons]; show 3+_=_; omega
theorem zsc {vr:Value}{L:List Slt}{B i g cap:Nat}{s:Slt}{cs:List Value}{w:World}(hHE:H≠E)(z:Value)(h:(HkA H E m vr L).p B cs w)(hi:L[i]?=some s)(hvr:vr=.slice (some ⟨g,0,none⟩) L.length cap) :
  B≤g∧∃ c:Array Value,w.heap[g]?=some (Obj.cells c H (0,0))∧i*3+1<c.size∧(HkA H E m vr (L.set i { s with z:=z })).p B cs (w.setRow g (c.setIfInBounds (i*3+1) z)):=by
 obtain ⟨h1,h2,h3,h4⟩:=h
 have hlt:i<L.length:=(List.getElem?_eq_some_iff.1 hi).1
 rcases h2.2 with ⟨e,_⟩ | ⟨g',cap',cur,e,q2,q3,q4,q5,q6,q7⟩
 ·rw [hvr] at e; cases e
 ·rw [hvr] at e
  injection e with e1 e2 e3
  injection e1 with e1
  injection e1 with e1
  subst e1
  have hsz:i*3+1<cur.size:=by
   rw [q6]
   have:L.length*3≤cap'*3:=Nat.mul_le_mul_right 3 q4
   omega
  have hnew:(w.setRow g (cur.setIfInBounds (i*3+1) z)).heap[g]?=some (Obj.cells (cur.setIfInBounds (i*3+1) z) H (0,0)):=setRow_heap w g _ _ _ _ q3
  refine ⟨q2,cur,q3,hsz,h1,?_,fun t ht=>?_,fun j k t1 t2 hj hk hne g2 hg hg'=>?_⟩
  ·rw [List.length_set,zso hi]
   refine ⟨by rw [List.length_set,flatK3],.inr ⟨g,cap',_,?_,q2,hnew,q4,q5,by simp [q6],?_⟩⟩
   ·rw [hvr,e3]
   ·rw [Array.toList_setIfInBounds,List.take_set,q7,show 3*i+1=i*3+1 by omega]
  ·have hkeep:∀ t':Slt,t'.ok E m B w→t'.ok E m B (w.setRow g (cur.setIfInBounds (i*3+1) z)):=fun t' ht'=>ht'.keep fun g2 c2 hg2 h8=>by
    rw [setRow_other _ _ _ _ (fun e=>by subst e; rw [q3] at h8; injection h8 with h8; injection h8 with _ h8 _; exact hHE h8)]
    exact h8
   rcases List.mem_or_eq_of_mem_set ht with ht | rfl
   ·exact hkeep t (h3 t ht)
   ·exact hkeep _ (h3 s (List.mem_of_getElem? hi))
  ·have hsame:∀ (j:Nat) t,(L.set i { s with z:=z })[j]?=some t→∃ t0,L[j]?=some t0∧∀ g,t.has g→t0.has g:=fun j t hj=>by
    by_cases e:j=i
    ·subst e
     rw [List.getElem?_set_self hlt] at hj
     injection hj with hj
     subst hj
     exact ⟨s,hi,fun g h=>h⟩
    ·rw [List.getElem?_set_ne (fun e2=>e e2.symm)] at hj
     exact ⟨t,hj,fun g h=>h⟩
   obtain ⟨t3,r1,r2⟩:=hsame j t1 hj
   obtain ⟨t4,r3,r4⟩:=hsame k t2 hk
   exact h4 j k t3 t4 r1 r3 hne g2 (r2 g2 hg) (r4 g2 hg')
end
def Slt.view (s:Slt):As:=cat [EqS s.v,EqS s.z,NumA .i64 (s.n:Nat)]
theorem zpc {B:Nat}{w:World}:∀ {L:List Slt},(∀ s∈L,s.v.oneCell'=true∧s.z.oneCell'=true)→(cat (L.map Slt.view)).p B (L.flatMap Slt.cells) w
 | [],_=>⟨[],rfl,.nil⟩
 | s::L,h=>by
  obtain ⟨ps,e,hp⟩:=zpc (B:=B) (w:=w) (L:=L) fun t ht=>h t (by simp [ht])
  refine ⟨s.cells::ps,by rw [List.flatMap_cons,e]; rfl,.cons ?_ hp⟩
  exact ⟨[[s.v],[s.z],[.int .i64 s.n]],rfl,.cons ⟨rfl,(h s (by simp)).1⟩ (.cons ⟨rfl,(h s (by simp)).2⟩ (.cons rfl .nil))⟩
abbrev OneK (M:List Slt):Prop:=∀ s∈M,s.v.oneCell'=true∧s.z.oneCell'=true
theorem zir {H E m:Nat}{vr:Value}{L:List Slt}(h:OneK L):Wk (HkA H E m vr L).va (SlA H [] (L.map Slt.view)).va:=fun B v w ⟨cs,⟨e,h2,_⟩,hv⟩=>by
 subst e
 have hv':v=vr:=hv
 subst hv'
 refine zhj (b:=B) (m:=3) B v w ⟨fun A hA=>?_,fun A hA T hT=>?_,L.flatMap Slt.cells,zpc h,?_⟩
 ·obtain ⟨s,_,rfl⟩:=List.mem_map.1 hA; rfl
 ·obtain ⟨s,_,rfl⟩:=List.mem_map.1 hA; cases (show T∈([]:List TypeId) from hT)
 ·rw [List.length_map]; exact h2
theorem zu1 {H E m:Nat}{vr:Value}{L:List Slt}:Wk (HkA H E m vr L).va (EqV vr):=fun B v w ⟨cs,⟨e,_⟩,hv⟩=>by
 subst e
 exact hv
theorem zh9 {L:List Slt}{i:Nat}{s:Slt}(h:L[i]?=some s):(L.map Slt.view)[i]?=some s.view:=by rw [List.getElem?_map,h]; rfl
theorem zi9 {L:List Slt}:∀ A∈L.map Slt.view,A.n=3:=fun A hA=>by
 obtain ⟨s,_,rfl⟩:=List.mem_map.1 hA; rfl
structure MkP (A:Nat→As) (m:Nat):Prop where
 n:∀ k,(A k).n=m
 d:∀ k,(A k).deps=[]
 any:∀ k B B' w w' cs,(A k).p B cs w→(A k).p B' cs w'
def isMk (A:Nat→As)(k:Nat)(ds:List Value):Prop:=∃ B w,(A k).p B ds w
theorem MkP.len {A:Nat→As}{m k:Nat}(h:MkP A m){ds:List Value}(hd:isMk A k ds):ds.length=m:=by
 obtain ⟨B,w,hd⟩:=hd
 rw [(A k).len _ _ _ hd,h.n]
theorem MkP.cat {A:Nat→As}{m k:Nat}(h:MkP A m){B:Nat}{w:World}:∀ {xs:List (List Value)},(∀ x∈xs,isMk A k x)→(cat (List.replicate xs.length (A k))).p B xs.flatten w
 | [],_=>⟨[],rfl,.nil⟩
 | x::xs,hx=>by
  obtain ⟨ps,e,hp⟩:=h.cat (B:=B) (w:=w) (xs:=xs) fun y hy=>hx y (by simp [hy])
  obtain ⟨B',w',h1⟩:=hx x (by simp)
  refine ⟨x::ps,by rw [List.flatten_cons,List.flatten_cons,e],?_⟩
  rw [List.length_cons,List.replicate_succ]
  exact .cons (h.any _ _ _ _ _ _ h1) hp
theorem zmg {A:Nat→As}{E m k B:Nat}{w:World}{v:Value}{xs:List (List Value)}(hA:MkP A m)(h:RdyK E m B w v xs)(hx:∀ x∈xs,isMk A k x):(SlA E [] (List.replicate xs.length (A k))).va.p B v w:=by
 have hdep:∀ A'∈List.replicate xs.length (A k),∀ T∈A'.deps,T∈([]:List TypeId):=fun A' h1 T hT=>by
  rw [(List.mem_replicate.1 h1).2,hA.d] at hT; cases hT
 rcases h.1 with ⟨rfl,e⟩ | ⟨g,cap,rfl,h1,h2⟩
 ·refine ⟨[.slice none 0 0],⟨hdep,none,0,xs.flatten,by rw [List.length_replicate,e],by rw [List.length_replicate,e]; exact Nat.le_refl _,Nat.zero_le _,hA.cat hx,fun h=>by rw [List.length_replicate,e] at h; omega⟩,rfl⟩
 ·obtain ⟨_,c,h3,h4⟩:=h.2.2 g rfl
  refine ⟨[.slice (some ⟨g,0,none⟩) xs.length cap],⟨hdep,_,cap,xs.flatten,by rw [List.length_replicate],by rw [List.length_replicate]; exact h1,h2,hA.cat hx,fun _=>⟨g,0,rfl,(Array.getElem?_eq_some_iff.1 h3).1,.inr ⟨_,_,h3⟩,fun j u hu=>?_⟩⟩,rfl⟩
  rw [cell_of_row w g (0+j) c E _ h3,Nat.zero_add]
  rw [← h4,List.getElem?_take] at hu
  split at hu
  ·simpa using hu
  ·cases hu
theorem zmo {E m B:Nat}{w:World}{v:Value}{ys:List (List Value)}(hy:∀ y∈ys,y.length=m)(h:w.ownsRow B E m v ys.length ys.flatten):RdyK E m B w v ys:=by
 rcases h.2 with ⟨rfl,e⟩ | ⟨g,cap,cur,rfl,h1,h2,h3,h4,h5,h6⟩
 ·exact ⟨.inl ⟨rfl,e⟩,hy,fun g hg=>by cases hg⟩
 ·refine ⟨.inr ⟨g,cap,rfl,h3,h4⟩,hy,fun g' hg=>?_⟩
  have:g=g':=by simpa [Value.ownBlock] using hg
  subst this
  exact ⟨h1,cur,h2,h6⟩
section
open Rg
variable {P:Program} {Q:Exit→Act→World→Prop} {B N:Nat} {w0:Bs} {Γ:List (Nat × VA)} {Λ:List Lc} {a:Act} {w:World} {ops:Array Oper} {i:Nat} {K:Act→World→Prop}
theorem zwu {p d g k n sx:Nat}{ag:Bool}{E ty T T':TypeId}{H:Hd}{A0 A1:As}{ps:String}{af:Array Edge}{v:Value}{ds:List Value}(src:List Nat)(kp kd e:Nat)(ho:ops[i]?=some ⟨none,.store ty (.tmp p) (.tmp d),T',ps,af,none⟩)(h:St B w0 N Γ Λ a w)
  (hp:Γ[kp]?=some (p,EqV (.pointer (some ⟨g,k,none⟩)))) (hd:Γ[kd]?=some (d,EqV v)) (hv1:∀ c∈ds,c.oneCell'=true) (hvc:v.cells=ds.toArray) (hdl:ds.length=n) (ht:Ty P ty n ag) (hl:Λ[e]?=some ⟨sx,T,H,A0⟩) (hTE:(T != E)=true) (hrm:RowMay w0 B E)
  (hsrc:src.all (fun k=>match Γ[k]? with | some y => !y.2.deps.contains E | none=>false)=true) (hΛ:Λ.zipIdx.all (fun x=>x.2==e || (x.1.T != E && !x.1.A.deps.contains E))=true)
  (htr:∀ cs,A0.p B cs w→B≤g∧∃ c:Array Value,w.heap[g]?=some (.cells c E (0,0))∧k+n≤c.size∧A1.p B cs (w.setRow g (c.toList.take k++ds++c.toList.drop (k+n)).toArray))
  (hK:∀ w',St B w0 N (src.filterMap fun k=>Γ[k]?) (Λ.set e ⟨sx,T,H,A1⟩) a w'→K (a.put none undef) w'):wpOp P ops Q i K a w:=by
 have e1:a.eval (.tmp p)=.pointer (some ⟨g,k,none⟩):=h.vals _ (List.mem_of_getElem? hp)
 have e2:a.eval (.tmp d)=v:=h.vals _ (List.mem_of_getElem? hd)
 obtain ⟨g0,cs0,q1,q2,q3,q4⟩:=h.locs _ (List.mem_of_getElem? hl)
 obtain ⟨hB,c,hc,hkc,_⟩:=htr cs0 q4
 have hrun:=zcp ht w g k E c v ds hvc hdl hkc hv1 hc
 unfold wpOp
 simp only [ho,Region.wanted,if_true]
 refine .inl (wp_skip' (w':=w.setRow g (c.toList.take k++ds++c.toList.drop (k+n)).toArray) ?_ (hK _ (h.turn src e zoz (fun g' e=>?_) hrm hl hTE hsrc hΛ fun cs hp=>?_)))
 ·simp [execOp,e1,e2,Instr.storeAt,Instr.sureAddr,hrun]
 ·injection e with e
  subst e
  exact ⟨hB,_,_,hc⟩
 ·obtain ⟨_,c',hc',_,h5⟩:=htr cs hp
  rw [hc] at hc'
  injection hc' with hc'
  injection hc' with hc'
  subst hc'
  exact h5
theorem St.pinV {s:Nat}{A:As}(h:St B w0 N Γ Λ a w)(k:Nat)(hm:Γ[k]?=some (s,A.va)):∃ v ds,A.p B ds w∧v.cells=ds.toArray∧(∀ c∈ds,c.oneCell'=true)∧St B w0 N (Γ.set k (s,EqV v)) Λ a w:=by
 obtain ⟨ds,h1,h2⟩:=h.vals _ (List.mem_of_getElem? hm)
 exact ⟨a.eval (.tmp s),ds,h1,by rw [show a.eval (.tmp s)=shape A.ag ds from h2]; exact A.cells_shape h1,A.one _ _ _ h1,h.lo,h.defers,h.size,h.base,fun y hy=>by
  rcases List.mem_or_eq_of_mem_set hy with hy | rfl
  ·exact h.vals y hy
  ·exact rfl,h.locs,h.dis⟩
end
end Go.Proofs.YthdbhckhignfcaaGreatDoor
