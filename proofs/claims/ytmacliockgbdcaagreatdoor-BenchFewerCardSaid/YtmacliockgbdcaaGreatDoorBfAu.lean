import Derived.Test.YtmacliockgbdcaaGreatDoorBfAa
import Derived.Test.YtmacliockgbdcaaGreatDoorBfAc
import Derived.Test.YtmacliockgbdcaaGreatDoorBfAj
import Derived.Test.YtmacliockgbdcaaGreatDoorBfAl
import Derived.Test.YtmacliockgbdcaaGreatDoorBfAs
import Derived.Test.YtmacliockgbdcaaGreatDoorBfAt
set_option linter.unusedVariables false
set_option linter.unusedSimpArgs false
set_option linter.unusedSectionVars false
set_option maxRecDepth 100000
namespace Go.Proofs.YtmacliockgbdcaaGreatDoor
open Go Go.RowKit
def BqG (n:Nat)(la nu ra el:As):As:=cat [NumA .i64 (n:Nat),la,nu,EqS (.slice none 0 0),EqS (.slice none 0 0),EqS (.slice none 0 0),EqS (.slice none 0 0),EqS (.slice none 0 0),ra,el,EqS (.slice none 0 0),EqS (.slice none 0 0),EqS (.slice none 0 0),EqS (.slice none 0 0),EqS (.slice none 0 0),EqS (.slice none 0 0),EqS (.slice none 0 0)]
theorem uW {n m:Nat}{la nu ra el:As}{B:Nat}{cs:List Value}{w:World}(h:(BqG n la nu ra el).p B cs w):0+0<cs.length∧(BqG m la nu ra el).p B (cs.set (0+0) (.int .i64 (m:Nat))) w:=by
 obtain ⟨ps,e,hp⟩:=h
 cases hp with
 | @cons _ c _ ps h1 hp =>
  have h1':c=[.int .i64 (n:Nat)]:=h1
  subst h1' e
  exact ⟨by simp,[.int .i64 (m:Nat)]::ps,by simp,.cons G hp⟩
theorem uX {n:Nat}{la nu ra el la' nu' ra' el':As}{B:Nat}{cs:List Value}{w w':World}(h:(BqG n la nu ra el).p B cs w)(f1:∀ c,la.p B c w→la'.p B c w')(f2:∀ c,nu.p B c w→nu'.p B c w')(f3:∀ c,ra.p B c w→ra'.p B c w')(f4:∀ c,el.p B c w→el'.p B c w'):(BqG n la' nu' ra' el').p B cs w':=by
 obtain ⟨ps,e,hp⟩:=h
 refine ⟨ps,e,?_⟩
 cases hp with
 | cons h1 hp=>cases hp with
  | cons h2 hp=>cases hp with
   | cons h3 hp =>
    refine .cons h1 (.cons (f1 _ h2) (.cons (f2 _ h3) ?_))
    iterate 5 (cases hp; rename_i h3 hp; refine .cons h3 ?_)
    cases hp; rename_i h3 hp; refine .cons (f3 _ h3) ?_
    cases hp; rename_i h3 hp; refine .cons (f4 _ h3) ?_
    iterate 7 (cases hp; rename_i h3 hp; refine .cons h3 ?_)
    cases hp
    exact .nil
def HxG (c:Value)(A:As)(v:Value):As where
 n:=1
 ag:=false
 p B cs w:=cs=[c]∧c.oneCell'=true∧A.p B [v] w∧v.oneCell'=true
 deps:=A.deps
 len:=by rintro B cs w ⟨rfl,_⟩; rfl
 one:=by rintro B cs w ⟨rfl,h,_⟩ x hx; simp at hx; subst hx; exact h
 ag1:=fun _=>rfl
 cg:=fun B cs w w' hg ⟨h1,h2,h3,h4⟩=>⟨h1,h2,A.cg _ _ _ _ hg h3,h4⟩
 wr:=fun B cs w w' g c T fz h1 h2 h3 h4 ⟨h5,h6,h7,h8⟩=>⟨h5,h6,A.wr _ _ _ _ _ _ _ _ h1 h2 h3 h4 h7,h8⟩
theorem yZ {n:Nat}{c v:Value}{A nu ra el:As}{B:Nat}{cs:List Value}{w:World}(h:(BqG n (HxG c A v) nu ra el).p B cs w):0+1<cs.length∧(BqG n A nu ra el).p B (cs.set (0+1) v) w:=by
 obtain ⟨ps,e,hp⟩:=h
 cases hp with
 | @cons _ c1 _ ps h1 hp=>cases hp with
  | @cons _ c2 _ ps h2 hp =>
   have h1':c1=[.int .i64 (n:Nat)]:=h1
   obtain ⟨h3,h4,h5,_⟩:=h2
   subst h1' h3 e
   refine ⟨by simp,[.int .i64 (n:Nat)]::[v]::ps,by simp,.cons G (.cons h5 hp)⟩
theorem nM {A:As}(hA:A.n=1){B:Nat}{c:List Value}{w:World}(h:A.p B c w):∃ x,c=[x]:=List.length_eq_one_iff.1 (by rw [A.len _ _ _ h,hA])
theorem yY {n:Nat}{c v:Value}{la nu ra A:As}(n1:la.n=1)(n2:nu.n=1)(n3:ra.n=1){B:Nat}{cs:List Value}{w:World}(h:(BqG n la nu ra (HxG c A v)).p B cs w):0+9<cs.length∧(BqG n la nu ra A).p B (cs.set (0+9) v) w:=by
 obtain ⟨ps,e,hp⟩:=h
 cases hp with
 | @cons _ c0 _ ps h0 hp=>cases hp with
  | @cons _ c1 _ ps h1 hp=>cases hp with
   | @cons _ c2 _ ps h2 hp=>cases hp with
    | @cons _ c3 _ ps h3 hp=>cases hp with
     | @cons _ c4 _ ps h4 hp=>cases hp with
      | @cons _ c5 _ ps h5 hp=>cases hp with
       | @cons _ c6 _ ps h6 hp=>cases hp with
        | @cons _ c7 _ ps h7 hp=>cases hp with
         | @cons _ c8 _ ps h8 hp=>cases hp with
          | @cons _ c9 _ ps h9 hp =>
           obtain ⟨x1,rfl⟩:=nM n1 h1
           obtain ⟨x2,rfl⟩:=nM n2 h2
           obtain ⟨x8,rfl⟩:=nM n3 h8
           have h0':c0=[.int .i64 (n:Nat)]:=h0
           obtain ⟨rfl,_⟩:=h3
           obtain ⟨rfl,_⟩:=h4
           obtain ⟨rfl,_⟩:=h5
           obtain ⟨rfl,_⟩:=h6
           obtain ⟨rfl,_⟩:=h7
           obtain ⟨rfl,q4,q5,q6⟩:=h9
           subst h0' e
           refine ⟨by simp,[.int .i64 (n:Nat)]::[x1]::[x2]::[.slice none 0 0]::[.slice none 0 0]::[.slice none 0 0]::[.slice none 0 0]::[.slice none 0 0]::[x8]::[v]::ps,by simp,?_⟩
           exact .cons G (.cons h1 (.cons h2 (.cons ⟨rfl,rfl⟩ (.cons ⟨rfl,rfl⟩ (.cons ⟨rfl,rfl⟩ (.cons ⟨rfl,rfl⟩ (.cons ⟨rfl,rfl⟩ (.cons h8 (.cons q5 hp)))))))))
theorem hb_grO {vr:Value}{L:List Slot}{B T:Nat}{row:Option Nat}{w w':World}(hg:w.grownBy w' row)(hr:RowOk w B T row)(hT:T≠108∧T≠U32):∀ c,(HbA vr L).p B c w→(HbA vr L).p B c w':=fun c hp=>As.grown hp hg hr (Nat.le_refl _) (show T ∉ [108,U32] by simp [hT.1,hT.2])
theorem mL {H E m:Nat}{vr:Value}{L:List Slt}{B T:Nat}{row:Option Nat}{w w':World}(hg:w.grownBy w' row)(hr:RowOk w B T row)(hT:T≠H∧T≠E):∀ c,(HkA H E m vr L).p B c w→(HkA H E m vr L).p B c w':=fun c hp=>As.grown hp hg hr (Nat.le_refl _) (show T ∉ [H,E] by simp [hT.1,hT.2])
theorem pv {vr v:Value}{L:List Slot}{xs:List Nat}{n B:Nat}{c:List Value}{w:World}(h:(HbA vr L).p B c w)(hm:(MgN xs).va.p B v w)(hsep:∀ t∈L,∀ g,t.has g→v.ownBlock≠some g) :
  w.ownsRow B 108 3 vr L.length (L.flatMap Slot.cells)∧∀ v' w',w'.ownsRow B 108 3 v' (L.length+1) (L.flatMap Slot.cells++(newS v xs n).cells)→w.grownBy w' vr.ownBlock→(HxG vr (HbA v' (L++[newS v xs n])) v').p B c w':=by
 obtain ⟨q1,q2,q3,q4⟩:=h
 refine ⟨q2,fun v' w' hown hg=>?_⟩
 have hkeep:∀ (g:Nat) (c:Array Value),w.heap[g]?=some (Obj.cells c U32 (0,0))→w'.heap[g]?=some (Obj.cells c U32 (0,0)):=fun g c h8=>by
  refine (hg.block g (Array.getElem?_eq_some_iff.1 h8).1 (fun e9=>?_)).trans h8
  rcases q2.2 with ⟨e1,_⟩ | ⟨g',cap,cur,e1,_,e3,_⟩
  ·rw [e1] at e9; cases e9
  ·rw [e1] at e9
   have:g=g':=by simpa [Value.ownBlock] using e9
   subst this
   rw [h8] at e3
   injection e3 with e3
   injection e3 with _ e3 _
   revert e3
   decide
 have hown1:=mg_own hm
 refine ⟨q1,(cT q2).1,⟨rfl,?_,fun t ht=>?_,fun i j s t hi hj hne g hs ht=>?_⟩,(cT hown).1⟩
 ·rw [List.length_append,List.flatMap_append]
  simpa using hown
 ·rcases List.mem_append.1 ht with ht | ht
  ·exact (q3 t ht).keep fun g c _ h8=>hkeep g c h8
  ·obtain rfl:=List.mem_singleton.1 ht
   have h9:w'.ownsRow B U32 1 v xs.length (xs.map lv):=cv hown1 fun g c _ h8=>hkeep g c h8
   exact ⟨h9,sW h9⟩
 ·have hb1:∀ g,(newS v xs n).has g→v.ownBlock=some g:=fun g h=>by
   rcases h with h | h <;> exact h
  have hget:∀ (i:Nat) s,(L++[newS v xs n])[i]?=some s→(L[i]?=some s∧i<L.length)∨(i=L.length∧s=newS v xs n):=fun i s hi=>by
   by_cases h5:i<L.length
   ·rw [List.getElem?_append_left h5] at hi
    exact .inl ⟨hi,h5⟩
   ·rw [List.getElem?_append_right zo] at hi
    have h6:=(List.getElem?_eq_some_iff.1 hi).1
    simp at h6
    have h7:i=L.length:=by omega
    subst h7
    simp at hi
    exact .inr ⟨rfl,hi.symm⟩
  rcases hget i s hi with ⟨h5,h5'⟩ | ⟨h5,rfl⟩ <;> rcases hget j t hj with ⟨h6,h6'⟩ | ⟨h6,rfl⟩
  ·exact q4 i j s t h5 h6 hne g hs ht
  ·exact hsep s (List.mem_of_getElem? h5) g hs (hb1 g ht)
  ·exact hsep t (List.mem_of_getElem? h6) g ht (hb1 g hs)
  ·omega
def chunks (m n:Nat)(ds:List Value):List (List Value):=(List.range n).map fun k=>(ds.drop (k*m)).take m
theorem ki {m n:Nat}{ds:List Value}:(chunks m n ds).length=n:=by unfold chunks; simp
theorem oq {m n:Nat}{ds:List Value}(h:ds.length=n*m):∀ x∈chunks m n ds,x.length=m:=fun x hx=>by
 obtain ⟨k,hk,rfl⟩:=List.mem_map.1 hx
 have hk':=List.mem_range.1 hk
 have:k*m+m≤n*m:=by rw [← Nat.succ_mul]; exact Nat.mul_le_mul_right m hk'
 rw [List.length_take,List.length_drop]
 omega
theorem jo {m:Nat}:∀ {n:Nat} {ds:List Value},ds.length=n*m→(chunks m n ds).flatten=ds
 | 0,ds,h=>by
  have:ds=[]:=List.eq_nil_of_length_eq_zero (by simpa using h)
  subst this
  rfl
 | n+1,ds,h=>by
  have h1:chunks m (n+1) ds=ds.take m::chunks m n (ds.drop m):=by
   unfold chunks
   rw [List.range_succ_eq_map,List.map_cons,List.map_map,Nat.zero_mul,List.drop_zero]
   congr 1
   apply List.map_congr_left
   intro k _
   show (ds.drop ((k+1)*m)).take m=((ds.drop m).drop (k*m)).take m
   rw [List.drop_drop,Nat.succ_mul,Nat.add_comm m]
  rw [h1,List.flatten_cons,jo (by rw [List.length_drop,h,Nat.succ_mul]; omega),List.take_append_drop]
def newK (m:Nat)(v:Value)(a:Nat)(ds:List Value)(n:Nat):Slt:=⟨v,chunks m a ds,v,chunks m a ds,.slice none 0 0,n⟩
def OwV (E m:Nat)(v:Value)(n:Nat):VA where
 p B u w:=u=v∧∃ ds,w.ownsRow B E m v n ds
 deps:=[E]
 cg:=fun B u w w' hg ⟨h,ds,h2⟩=>⟨h,ds,cv h2 fun g c _ h=>hg.heap h⟩
 wr:=by
  rintro B u w w' g c T fz hgc hT hB hW ⟨h,ds,h2⟩
  simp only [List.mem_cons,List.not_mem_nil,or_false] at hT
  refine ⟨h,ds,cv h2 fun g' c' _ h3=>?_⟩
  rw [hW.block g' (fun e=>?_)]
  ·exact h3
  ·subst e
   rw [hgc] at h3
   injection h3 with h3
   injection h3 with _ h3 _
   exact hT h3
theorem owv_eq {E m n:Nat}{v:Value}:Wk (OwV E m v n) (EqS v).va:=fun B u w ⟨h,ds,h2⟩=>⟨[v],⟨rfl,(cT h2).1⟩,h⟩
theorem pt {H E m a n B:Nat}{vr v:Value}{L:List Slt}{c ds:List Value}{w:World}(hHE:H≠E)(h:(HkA H E m vr L).p B c w)(hm:w.ownsRow B E m v a ds)(hsep:∀ t∈L,∀ g,t.has g→v.ownBlock≠some g) :
  w.ownsRow B H 3 vr L.length (L.flatMap Slt.cells)∧∀ v' w',w'.ownsRow B H 3 v' (L.length+1) (L.flatMap Slt.cells++(newK m v a ds n).cells)→w.grownBy w' vr.ownBlock→(HxG vr (HkA H E m v' (L++[newK m v a ds n])) v').p B c w':=by
 obtain ⟨q1,q2,q3,q4⟩:=h
 refine ⟨q2,fun v' w' hown hg=>?_⟩
 have hkeep:∀ (g:Nat) (c:Array Value),w.heap[g]?=some (Obj.cells c E (0,0))→w'.heap[g]?=some (Obj.cells c E (0,0)):=fun g c h8=>by
  refine (hg.block g (Array.getElem?_eq_some_iff.1 h8).1 (fun e9=>?_)).trans h8
  rcases q2.2 with ⟨e1,_⟩ | ⟨g',cap,cur,e1,_,e3,_⟩
  ·rw [e1] at e9; cases e9
  ·rw [e1] at e9
   have:g=g':=by simpa [Value.ownBlock] using e9
   subst this
   rw [h8] at e3
   injection e3 with e3
   injection e3 with _ e3 _
   exact hHE e3.symm
 have hcl:(chunks m a ds).length=a:=ki
 have hfl:(chunks m a ds).flatten=ds:=jo hm.1
 refine ⟨q1,(cT q2).1,⟨rfl,?_,fun t ht=>?_,fun i j s t hi hj hne g hs ht=>?_⟩,(cT hown).1⟩
 ·rw [List.length_append,List.flatMap_append]
  simpa using hown
 ·rcases List.mem_append.1 ht with ht | ht
  ·exact (q3 t ht).keep fun g c _ h8=>hkeep g c h8
  ·obtain rfl:=List.mem_singleton.1 ht
   have h9:w'.ownsRow B E m v (chunks m a ds).length (chunks m a ds).flatten:=by
    rw [hcl,hfl]
    exact cv hm fun g c _ h8=>hkeep g c h8
   exact ⟨h9,p6 (oq hm.1) h9⟩
 ·have hb1:∀ g,(newK m v a ds n).has g→v.ownBlock=some g:=fun g h=>by
   rcases h with h | h <;> exact h
  have hget:∀ (i:Nat) s,(L++[newK m v a ds n])[i]?=some s→(L[i]?=some s∧i<L.length)∨(i=L.length∧s=newK m v a ds n):=fun i s hi=>by
   by_cases h5:i<L.length
   ·rw [List.getElem?_append_left h5] at hi
    exact .inl ⟨hi,h5⟩
   ·rw [List.getElem?_append_right zo] at hi
    have h6:=(List.getElem?_eq_some_iff.1 hi).1
    simp at h6
    have h7:i=L.length:=by omega
    subst h7
    simp at hi
    exact .inr ⟨rfl,hi.symm⟩
  rcases hget i s hi with ⟨h5,h5'⟩ | ⟨h5,rfl⟩ <;> rcases hget j t hj with ⟨h6,h6'⟩ | ⟨h6,rfl⟩
  ·exact q4 i j s t h5 h6 hne g hs ht
  ·exact hsep s (List.mem_of_getElem? h5) g hs (hb1 g ht)
  ·exact hsep t (List.mem_of_getElem? h6) g ht (hb1 g hs)
  ·omega
theorem yC {v:Value}{n B:Nat}{w:World}{m a:Nat}{es ds:List Value}(h:(cat [EqS v,EqS (.slice none 0 0),NumA .i64 (n:Nat)]).p B ds w):ds=(newK m v a es n).cells:=by
 obtain ⟨ps,rfl,hp⟩:=h
 cases hp with
 | cons h1 hp=>cases hp with
  | cons h2 hp=>cases hp with
   | cons h3 hp =>
    cases hp
    have h3':=h3
    obtain ⟨rfl,_⟩:=h1
    obtain ⟨rfl,_⟩:=h2
    have:_=[Value.int .i64 (n:Nat)]:=h3'
    subst this
    rfl
theorem yX {n:Nat}{c v:Value}{A nu ra el:As}{B N:Nat}{w0:Bs}{Γ:List (Nat × VA)}{Λ:List Lc}{a:Act}{w:World}{s:Nat}{T:TypeId}{H:Hd}(h:St B w0 N Γ Λ a w)(k:Nat)(hm:Λ[k]?=some ⟨s,T,H,BqG n (HxG c A v) nu ra el⟩):v.oneCell'=true∧v.cells = #[v]:=by
 obtain ⟨g,cs,_,_,_,hp⟩:=h.locs _ (List.mem_of_getElem? hm)
 obtain ⟨ps,e,hp⟩:=hp
 cases hp with
 | cons h1 hp=>cases hp with
  | cons h2 hp=>exact ⟨h2.2.2.2,jp h2.2.2.2⟩
theorem yW {n:Nat}{c v:Value}{A la nu ra:As}{B N:Nat}{w0:Bs}{Γ:List (Nat × VA)}{Λ:List Lc}{a:Act}{w:World}{s:Nat}{T:TypeId}{H:Hd}(h:St B w0 N Γ Λ a w)(k:Nat)(hm:Λ[k]?=some ⟨s,T,H,BqG n la nu ra (HxG c A v)⟩):v.oneCell'=true∧v.cells = #[v]:=by
 obtain ⟨g,cs,_,_,_,hp⟩:=h.locs _ (List.mem_of_getElem? hm)
 obtain ⟨ps,e,hp⟩:=hp
 iterate 9 (cases hp; rename_i _ hp)
 cases hp; rename_i h2 hp
 exact ⟨h2.2.2.2,jp h2.2.2.2⟩
theorem ju:∃ it z,Tryz.prog.info? 105=some it∧it.zero=some z∧it.size=3∧it.bytes=56∧z.cells.size=3:=by
 have h:((Tryz.prog.info? 105).bind fun it=>it.zero.map fun z=>(it.size,it.bytes,z.cells.size))=some (3,56,3):=by kernel_rfl
 cases hi:Tryz.prog.info? 105 with
 | none=>rw [hi] at h; simp at h
 | some it =>
  rw [hi] at h
  cases hz:it.zero with
  | none=>simp [hz] at h
  | some z =>
   simp [hz] at h
   exact ⟨it,z,rfl,hz,h.1,h.2.1,h.2.2⟩
def BqE (p:BkRest→List Slot→Prop):As where
 n:=17
 ag:=true
 p B cs w:=∃ X vr L,p X L∧(BqA X vr L).p B cs w
 deps:=[108,U32,112,3,140,142,105,67]
 len:=fun B cs w ⟨X,vr,L,_,h⟩=>(BqA X vr L).len B cs w h
 one:=fun B cs w ⟨X,vr,L,_,h⟩=>(BqA X vr L).one B cs w h
 ag1:=fun h=>by cases h
 cg:=fun B cs w w' hg ⟨X,vr,L,h1,h⟩=>⟨X,vr,L,h1,(BqA X vr L).cg B cs w w' hg h⟩
 wr:=fun B cs w w' g c T fz h1 h2 h3 h4 ⟨X,vr,L,h5,h⟩=>⟨X,vr,L,h5,(BqA X vr L).wr B cs w w' g c T fz h1 h2 h3 h4 h⟩
theorem qe {X:BkRest}{vr:Value}{L:List Slot}{p:BkRest→List Slot→Prop}(h:p X L):WkA (BqA X vr L) (BqE p):=⟨rfl,rfl,fun B cs w hp=>⟨X,vr,L,h,hp⟩⟩
theorem pn {X:BkRest}{n:Nat}{vr v:Value}{L:List Slot}{xs:List Nat}{B:Nat}{cs:List Value}{w:World}(h:(BqG n (HbA vr L) (nuA X) (ryA X) (elA X)).p B cs w)(hm:(MgN xs).va.p B v w)(hsep:∀ t∈L,∀ g,t.has g→v.ownBlock≠some g) :
  w.ownsRow B 108 3 vr L.length (L.flatMap Slot.cells)∧∀ v' w' ds,ds=(newS v xs n).cells→w'.ownsRow B 108 3 v' (L.length+1) (L.flatMap Slot.cells++ds)→w.grownBy w' vr.ownBlock→(v'.ownBlock=vr.ownBlock∨(v'.ownBlock=some w.heap.size∧w.grownBy w' none))→(BqG n (HxG vr (HbA v' (L++[newS v xs n])) v') (nuA X) (ryA X) (elA X)).p B cs w':=by
 obtain ⟨⟨c0,h0⟩,_⟩:=cG (X:={ X with n:=n }) h
 have hown:=(pv (n:=n) h0 hm hsep).1
 refine ⟨hown,fun v' w' ds hds hown' hg hb=>?_⟩
 subst hds
 have hr:=dT hown
 exact uX h (fun c hc=>(pv (n:=n) hc hm hsep).2 v' w' hown' hg) (mL hg hr zd) (mL hg hr zd) (mL hg hr zd)
theorem pp {X:BkRest}{n a:Nat}{vr v:Value}{L:List Slot}{es:List Value}{B:Nat}{cs:List Value}{w:World}(h:(BqG n (HbA vr L) (nuA X) (ryA X) (elA X)).p B cs w)(hm:w.ownsRow B 67 9 v a es)(hsep:∀ t∈X.M,∀ g,t.has g→v.ownBlock≠some g) :
  w.ownsRow B 105 3 X.ve X.M.length (X.M.flatMap Slt.cells)∧∀ v' w' ds,ds=(newK 9 v a es n).cells→w'.ownsRow B 105 3 v' (X.M.length+1) (X.M.flatMap Slt.cells++ds)→w.grownBy w' X.ve.ownBlock→(v'.ownBlock=X.ve.ownBlock∨(v'.ownBlock=some w.heap.size∧w.grownBy w' none))→(BqG n (HbA vr L) (nuA X) (ryA X) (HxG X.ve (HkA 105 67 9 v' (X.M++[newK 9 v a es n])) v')).p B cs w':=by
 obtain ⟨_,_,_,⟨c0,h0⟩⟩:=cG (X:={ X with n:=n }) h
 have hown:=(pt (n:=n) zd h0 hm hsep).1
 refine ⟨hown,fun v' w' ds hds hown' hg hb=>?_⟩
 subst hds
 have hr:=dT hown
 exact uX h (hb_grO hg hr zd) (mL hg hr zd) (mL hg hr zd) (fun c hc=>(pt (n:=n) zd hc hm hsep).2 v' w' hown' hg)
theorem tS (X:BkRest)(vr v:Value)(xs:List Nat)(L:List Slot)(hsep:∀ t∈L,∀ g,t.has g→v.ownBlock≠some g)(hl:L.length≤1000000)(hn:X.n≤10000000):CK Tryz.prog 198 58 [58,108] (BqA X vr L) (BqE (fun X2 L2=>X2.n=X.n+1∧X2.N=X.N∧X2.R=X.R∧X2.M=X.M∧L2=L++[newS v xs (X.n+1)])) [(PinA v (MgN xs)).va] (Tu []):=by
 obtain ⟨it0,z0,hi0,hz0,hs0,hb0',hc0⟩:=xF
 refine CK.intro Tryz.func198 G zk nq zk (fun B g w0 a hrm U=>?_)
 have U:=zn [(0,EqV ((ptrH).f g)),(1,(PinA v (MgN xs)).va)] [⟨0,58,ptrH,BqA X vr L⟩] U
 have U:St B w0 26 _ [⟨0,58,ptrH,BqG X.n (HbA vr L) (nuA X) (ryA X) (elA X)⟩] a w0.w:=U
 refine wp_seq<|bf (sp:=[.v 4 _,.v 5 _,.v 6 _,.v 7 _,.v 8 _,.v 9 _,.v 10 _,.sto 0]) 7 1 0 7 OneC [.g 0,.g 1,.o 4,.o 6] U (zM 0 G (zv G (gX (vq 0 G)) (zv G (gY (vq 1 G) fu) (zv G (ce (vq 2 G) (lz0 0 G) (gq 0 G) (Sub.part 0 G G) ty_3) (zv G (aR (vq 3 G) a8 (aX zo)) (zv G (gX (vq 0 G)) (zv G (gY (vq 5 G) fu) o0))))))) G zd zk zk (zz [(0,_),(1,_),(8,_),(10,_)] [O 0 58 _] fun a w U=>?_)
 rw [show List.range' 7 1=[7] from rfl]
 have U:=St.wkG U 2 rfl zf
 rw [wpOps_cons]
 refine gO (A1:=BqG (X.n+1) (HbA vr L) (nuA X) (ryA X) (elA X)) [0,1] 3 2 0 0 G U G G G G G ty_3 G zk zk G (fun cs hp=>uW hp) (fun w U=>?_)
 refine d8 ?_
 have U:=zn [(0,_),(1,_)] [⟨0,58,ptrH,BqG (X.n+1) (HbA vr L) (nuA X) (ryA X) (elA X)⟩] U
 refine a7<|pw (sp:=[.v 11 _,.v 12 _,.v 13 _,.v 14 _,.v 15 _,.v 16 _,.v 17 _,.v 18 _,.v 19 _,.v 20 _,.v 21 _,.v 22 _,.v 23 VT,.v 24 VT,.v 25 VT,.sto 0]) [[],[],[1],[1,2],[1,2,3],[],[],[6],[6,7],[6,7,8],[5,6,7,8,9],[5,6,7,8,9,10],[1,2,3,4,5,6,7,8,9,10,11],[0,1,2,3,4,5,6,7,8,9,10,11,12],[0,1,2,3,4,5,6,7,8,9,10,11,12,13],[0,1,2,3,4,5,6,7,8,9,10,11,12,13,14]] 12 4 0 15 0 OneC [.g 0,.g 1,.o 0,.o 4,.o 11] [.g 0,.g 1,.o 4,.o 11] ab U (zM 0 G (zM 0 G (zv G (gX (vq 1 G)) (zv G (gY (vq 2 G) dc) (zv G (ce (vq 3 G) (lz0 0 G) (gq 0 G) (Sub.part 1 G G) jA) (zv G (ae (has_wk' (gq 1 G) pin_eq)) (zM 0 G (zv G (gX (vq 6 G)) (zv G (gY (vq 7 G) fu) (zv G (ce (vq 8 G) (lz0 0 G) (gq 0 G) (Sub.part 0 G G) ty_3) (zv G (bi (xs:=[(0,.tmp 16),(2,.tmp 20)]) (qs:=[(0,_),(2,_)]) ib (.cons ⟨rfl,(vq 5 G),rfl⟩ (.cons ⟨rfl,(vq 9 G),rfl⟩ .nil))) (zv G (cz (D:=[U32]) (l:=[_]) (xs:=[.tmp 21]) (dK zk) sl_41 zk (n_ok zk) nq nq nq (.cons (vq 10 G) .nil) G G) o0)))))))))))) G zd zd zd zk zk (cp zk) zk zk zk (fun a w U=>?_) (fun a w U=>?_)
 ·have U:=zn [(0,_),(1,_),(11,_),(15,_),(22,_)] [O 0 58 _] U
  rw [show List.range' 12 4=[12,13,14,15] from rfl]
  have U:=St.wkG U 3 rfl BJ
  have hm:=U.vals _ (zm 1 rfl)
  rw [wpOps_cons]
  refine fJ (m:=3) (X:=cat [EqS v,EqS (.slice none 0 0),NumA .i64 ((X.n+1:Nat):Int)]) (A1:=fun v'=>BqG (X.n+1) (HxG vr (HbA v' (L++[newS v xs (X.n+1)])) v') (nuA X) (ryA X) (elA X)) (F:=fun ds=>ds=(newS v xs (X.n+1)).cells) [0,2] 3 4 0 G U G G (fun ds h=>tZ h) G G G (hrm _ zk) Tryz.underlying41 hi0 hz0 hs0 hb0' hc0 zd (n:=L.length) zo zo zd zk zk zk zk (fun cs hp=>pn hp (ye hm) hsep) (fun v' w' U=>?_)
  rw [wpOps_cons]
  refine eQ 2 G U G zd zk zk (fun a U=>?_)
  rw [wpOps_cons]
  refine eu 0 G U dc G zd zk zk (fun a U=>?_)
  rw [wpOps_cons]
  have hv1:=(yX U 0 rfl)
  refine gO (A1:=BqG (X.n+1) (HbA v' (L++[newS v xs (X.n+1)])) (nuA X) (ryA X) (elA X)) [3] 0 2 3 0 G U G G G hv1.1 hv1.2 jA G zk zk G (fun cs hp=>yZ hp) (fun w U=>?_)
  refine d8 ?_
  have U:=St.wkL (A':=BqE (fun X2 L2=>X2.n=X.n+1∧X2.N=X.N∧X2.R=X.R∧X2.M=X.M∧L2=L++[newS v xs (X.n+1)])) U 0 rfl (qe (X:={ X with n:=X.n+1 }) (vr:=v') (L:=L++[newS v xs (X.n+1)]) ⟨rfl,rfl,rfl,rfl,rfl⟩)
  have U:=zn [(0,_)] [O 0 58 _] U
  refine cD<|fG U (zm 0 G) (zm 0 G) ?_
  exact aS (rs:=[]) G U .nil zd
 ·have U:=zn [(0,_),(1,_),(15,_),(22,_)] [O 0 58 _] U
  rw [show List.range' (12+1) (4-1)=[13,14,15] from rfl]
  have U:=St.wkG U 2 rfl BJ
  have hm:=U.vals _ (zm 1 rfl)
  rw [wpOps_cons]
  refine fJ (m:=3) (X:=cat [EqS v,EqS (.slice none 0 0),NumA .i64 ((X.n+1:Nat):Int)]) (A1:=fun v'=>BqG (X.n+1) (HxG vr (HbA v' (L++[newS v xs (X.n+1)])) v') (nuA X) (ryA X) (elA X)) (F:=fun ds=>ds=(newS v xs (X.n+1)).cells) [0] 2 3 0 G U G G (fun ds h=>tZ h) G G G (hrm _ zk) Tryz.underlying41 hi0 hz0 hs0 hb0' hc0 zd (n:=L.length) zo zo zd zk zk zk zk (fun cs hp=>pn hp (ye hm) hsep) (fun v' w' U=>?_)
  rw [wpOps_cons]
  refine ta 1 G U G zd zk zk (fun a U=>?_)
  rw [wpOps_cons]
  refine eQ 0 G U G zd zk zk (fun a U=>?_)
  rw [wpOps_cons]
  refine eu 0 G U dc G zd zk zk (fun a U=>?_)
  rw [wpOps_cons]
  have hv1:=(yX U 0 rfl)
  refine gO (A1:=BqG (X.n+1) (HbA v' (L++[newS v xs (X.n+1)])) (nuA X) (ryA X) (elA X)) [4] 0 3 4 0 G U G G G hv1.1 hv1.2 jA G zk zk G (fun cs hp=>yZ hp) (fun w U=>?_)
  refine d8 ?_
  have U:=St.wkL (A':=BqE (fun X2 L2=>X2.n=X.n+1∧X2.N=X.N∧X2.R=X.R∧X2.M=X.M∧L2=L++[newS v xs (X.n+1)])) U 0 rfl (qe (X:={ X with n:=X.n+1 }) (vr:=v') (L:=L++[newS v xs (X.n+1)]) ⟨rfl,rfl,rfl,rfl,rfl⟩)
  have U:=zn [(0,_)] [O 0 58 _] U
  refine cD<|fG U (zm 0 G) (zm 0 G) ?_
  exact aS (rs:=[]) G U .nil zd
theorem tT (X:BkRest)(vr v:Value)(na:Nat)(L:List Slot)(hsep:∀ t∈X.M,∀ g,t.has g→v.ownBlock≠some g)(hl:X.M.length≤1000000)(hn:X.n≤10000000):CK Tryz.prog 47 58 [58,105] (BqA X vr L) (BqE (fun X2 L2=>X2.n=X.n+1∧X2.N=X.N∧X2.R=X.R∧L2=L∧∃ es,es.length=na*9∧X2.M=X.M++[newK 9 v na es (X.n+1)])) [OwV 67 9 v na] (Tu []):=by
 obtain ⟨it0,z0,hi0,hz0,hs0,hb0',hc0⟩:=ju
 refine CK.intro Tryz.func47 G zk nq zk (fun B g w0 a hrm U=>?_)
 have U:=zn [(0,EqV ((ptrH).f g)),(1,OwV 67 9 v na)] [⟨0,58,ptrH,BqA X vr L⟩] U
 have U:St B w0 26 _ [⟨0,58,ptrH,BqG X.n (HbA vr L) (nuA X) (ryA X) (elA X)⟩] a w0.w:=U
 refine wp_seq<|bf (sp:=[.v 4 _,.v 5 _,.v 6 _,.v 7 _,.v 8 _,.v 9 _,.v 10 _,.sto 0]) 7 1 0 7 OneC [.g 0,.g 1,.o 4,.o 6] U (zM 0 G (zv G (gX (vq 0 G)) (zv G (gY (vq 1 G) fu) (zv G (ce (vq 2 G) (lz0 0 G) (gq 0 G) (Sub.part 0 G G) ty_3) (zv G (aR (vq 3 G) a8 (aX zo)) (zv G (gX (vq 0 G)) (zv G (gY (vq 5 G) fu) o0))))))) G zd zk zk (zz [(0,_),(1,_),(8,_),(10,_)] [O 0 58 _] fun a w U=>?_)
 rw [show List.range' 7 1=[7] from rfl]
 have U:=St.wkG U 2 rfl zf
 rw [wpOps_cons]
 refine gO (A1:=BqG (X.n+1) (HbA vr L) (nuA X) (ryA X) (elA X)) [0,1] 3 2 0 0 G U G G G G G ty_3 G zk zk G (fun cs hp=>uW hp) (fun w U=>?_)
 refine d8 ?_
 have U:=zn [(0,_),(1,_)] [⟨0,58,ptrH,BqG (X.n+1) (HbA vr L) (nuA X) (ryA X) (elA X)⟩] U
 refine a7<|pw (sp:=[.v 11 _,.v 12 _,.v 13 _,.v 14 _,.v 15 _,.v 16 _,.v 17 _,.v 18 _,.v 19 _,.v 20 _,.v 21 _,.v 22 _,.v 23 VT,.v 24 VT,.v 25 VT,.sto 0]) [[],[],[1],[1,2],[1,2,3],[],[],[6],[6,7],[6,7,8],[5,6,7,8,9],[5,6,7,8,9,10],[1,2,3,4,5,6,7,8,9,10,11],[0,1,2,3,4,5,6,7,8,9,10,11,12],[0,1,2,3,4,5,6,7,8,9,10,11,12,13],[0,1,2,3,4,5,6,7,8,9,10,11,12,13,14]] 12 4 0 15 0 OneC [.g 0,.g 1,.o 0,.o 4,.o 11] [.g 0,.g 1,.o 4,.o 11] ab U (zM 0 G (zM 0 G (zv G (gX (vq 1 G)) (zv G (gY (vq 2 G) db) (zv G (ce (vq 3 G) (lz0 0 G) (gq 0 G) (Sub.part 9 G G) jz) (zv G (ae (has_wk' (gq 1 G) owv_eq)) (zM 0 G (zv G (gX (vq 6 G)) (zv G (gY (vq 7 G) fu) (zv G (ce (vq 8 G) (lz0 0 G) (gq 0 G) (Sub.part 0 G G) ty_3) (zv G (bi (xs:=[(0,.tmp 16),(2,.tmp 20)]) (qs:=[(0,_),(2,_)]) cR (.cons ⟨rfl,(vq 5 G),rfl⟩ (.cons ⟨rfl,(vq 9 G),rfl⟩ .nil))) (zv G (cz (D:=[U32]) (l:=[_]) (xs:=[.tmp 21]) (dK zk) sl_49 zk (n_ok zk) nq nq nq (.cons (vq 10 G) .nil) G G) o0)))))))))))) G zd zd zd zk zk (cp zk) zk zk zk (fun a w U=>?_) (fun a w U=>?_)
 ·have U:=zn [(0,_),(1,_),(11,_),(15,_),(22,_)] [O 0 58 _] U
  rw [show List.range' 12 4=[12,13,14,15] from rfl]
  have U:=St.wkG U 3 rfl BH
  have hm:=U.vals _ (zm 1 rfl)
  obtain ⟨-,es,hm⟩:=hm
  rw [wpOps_cons]
  refine fJ (m:=3) (X:=cat [EqS v,EqS (.slice none 0 0),NumA .i64 ((X.n+1:Nat):Int)]) (A1:=fun v'=>BqG (X.n+1) (HbA vr L) (nuA X) (ryA X) (HxG X.ve (HkA 105 67 9 v' (X.M++[newK 9 v na es (X.n+1)])) v')) (F:=fun ds=>ds=(newK 9 v na es (X.n+1)).cells) [0,2] 3 4 0 G U G G (fun ds h=>yC h) G G G (hrm _ zk) Tryz.underlying49 hi0 hz0 hs0 hb0' hc0 zd (n:=X.M.length) zo zo zd zk zk zk zk (fun cs hp=>pp hp hm hsep) (fun v' w' U=>?_)
  rw [wpOps_cons]
  refine eQ 2 G U G zd zk zk (fun a U=>?_)
  rw [wpOps_cons]
  refine eu 0 G U db G zd zk zk (fun a U=>?_)
  rw [wpOps_cons]
  have hv1:=(yW U 0 rfl)
  refine gO (A1:=BqG (X.n+1) (HbA vr L) (nuA X) (ryA X) (HkA 105 67 9 v' (X.M++[newK 9 v na es (X.n+1)]))) [3] 0 2 3 0 G U G G G hv1.1 hv1.2 jz G zk zk G (fun cs hp=>yY G G G hp) (fun w U=>?_)
  refine d8 ?_
  have U:=St.wkL (A':=BqE (fun X2 L2=>X2.n=X.n+1∧X2.N=X.N∧X2.R=X.R∧L2=L∧∃ es,es.length=na*9∧X2.M=X.M++[newK 9 v na es (X.n+1)])) U 0 rfl (qe (X:={ X with n:=X.n+1,ve:=v',M:=X.M++[newK 9 v na es (X.n+1)] }) (vr:=vr) (L:=L) ⟨rfl,rfl,rfl,rfl,es,hm.1,rfl⟩)
  have U:=zn [(0,_)] [O 0 58 _] U
  refine cD<|fG U (zm 0 G) (zm 0 G) ?_
  exact aS (rs:=[]) G U .nil zd
 ·have U:=zn [(0,_),(1,_),(15,_),(22,_)] [O 0 58 _] U
  rw [show List.range' (12+1) (4-1)=[13,14,15] from rfl]
  have U:=St.wkG U 2 rfl BH
  have hm:=U.vals _ (zm 1 rfl)
  obtain ⟨-,es,hm⟩:=hm
  rw [wpOps_cons]
  refine fJ (m:=3) (X:=cat [EqS v,EqS (.slice none 0 0),NumA .i64 ((X.n+1:Nat):Int)]) (A1:=fun v'=>BqG (X.n+1) (HbA vr L) (nuA X) (ryA X) (HxG X.ve (HkA 105 67 9 v' (X.M++[newK 9 v na es (X.n+1)])) v')) (F:=fun ds=>ds=(newK 9 v na es (X.n+1)).cells) [0] 2 3 0 G U G G (fun ds h=>yC h) G G G (hrm _ zk) Tryz.underlying49 hi0 hz0 hs0 hb0' hc0 zd (n:=X.M.length) zo zo zd zk zk zk zk (fun cs hp=>pp hp hm hsep) (fun v' w' U=>?_)
  rw [wpOps_cons]
  refine ta 1 G U G zd zk zk (fun a U=>?_)
  rw [wpOps_cons]
  refine eQ 0 G U G zd zk zk (fun a U=>?_)
  rw [wpOps_cons]
  refine eu 0 G U db G zd zk zk (fun a U=>?_)
  rw [wpOps_cons]
  have hv1:=(yW U 0 rfl)
  refine gO (A1:=BqG (X.n+1) (HbA vr L) (nuA X) (ryA X) (HkA 105 67 9 v' (X.M++[newK 9 v na es (X.n+1)]))) [4] 0 3 4 0 G U G G G hv1.1 hv1.2 jz G zk zk G (fun cs hp=>yY G G G hp) (fun w U=>?_)
  refine d8 ?_
  have U:=St.wkL (A':=BqE (fun X2 L2=>X2.n=X.n+1∧X2.N=X.N∧X2.R=X.R∧L2=L∧∃ es,es.length=na*9∧X2.M=X.M++[newK 9 v na es (X.n+1)])) U 0 rfl (qe (X:={ X with n:=X.n+1,ve:=v',M:=X.M++[newK 9 v na es (X.n+1)] }) (vr:=vr) (L:=L) ⟨rfl,rfl,rfl,rfl,es,hm.1,rfl⟩)
  have U:=zn [(0,_)] [O 0 58 _] U
  refine cD<|fG U (zm 0 G) (zm 0 G) ?_
  exact aS (rs:=[]) G U .nil zd
def NilM:As where
 n:=1
 ag:=false
 p _ cs _:=cs=[.slice none 0 0]
 deps:=[]
 len:=by rintro B cs w rfl; rfl
 one:=by rintro B cs w rfl x hx; simp at hx; subst hx; rfl
 ag1:=fun _=>rfl
 cg:=fun _ _ _ _ _ h=>h
 wr:=fun _ _ _ _ _ _ _ _ _ _ _ _ h=>h
def NilI:As:=cat [BoA false,NilM]
def RFN (x:RF):As:=cat [RIN x.num,RIN x.den]
def RFD (x:RF):As:=DisA (RFN x)
theorem qd_rfd {k:Nat}{q:Rat}:WkA (QD k q) (RFD (rfOf q)):=fv (bz (.cons and_wk (.cons and_wk .nil)))
theorem lY:Str Tryz.prog 27 [NilI,NilI] :=
 Str.of (z:=.agg #[.bool false,.slice none 0 0,.bool false,.slice none 0 0]) zk Tryz.underlying27 zk fun B w=>⟨[[.bool false,.slice none 0 0],[.bool false,.slice none 0 0]],rfl,.cons ⟨[[.bool false],[.slice none 0 0]],rfl,.cons rfl (.cons rfl .nil)⟩ (.cons ⟨[[.bool false],[.slice none 0 0]],rfl,.cons rfl (.cons rfl .nil)⟩ .nil)⟩
section
open Rg
variable {P:Program} {Q:Exit→Act→World→Prop} {B N:Nat} {w0:Bs} {Γ:List (Nat × VA)} {ops:Array Oper} {les:List LeF} {sp:List ((Nat→Value)→Sp)} {anc:Nat→List Nat} {i:Nat}
end
theorem CL {m:Value}{xs:List Nat}{B:Nat}{w:World}(h:(MgN xs).p B [m] w):blk m=m.ownBlock:=by
 rcases h.2 with ⟨_,e⟩ | ⟨g,ext,e,_⟩
 ·injection e with e
  subst e
  rfl
 ·injection e with e
  subst e
  rfl
theorem mJ {x:RI}{B:Nat}{cs:List Value}{w:World}(h:(RIN x).p B cs w):∃ m,(IntP x m).p B cs w∧cbl cs=kbl [(m,x.mag)]:=by
 obtain ⟨ps,rfl,hp⟩:=h
 cases hp with
 | @cons _ c1 _ _ h1 hp=>cases hp with
  | @cons _ c2 _ _ h2 hp =>
   cases hp
   have h1':c1=[.bool x.neg]:=h1
   subst h1'
   have l2:=(MgN x.mag).len _ _ _ h2
   match c2,l2 with
   | [m],_ =>
    refine ⟨m,⟨[[.bool x.neg],[m]],rfl,.cons G (.cons ⟨h2,rfl⟩ .nil)⟩,?_⟩
    have e:=CL h2
    show List.filterMap blk [.bool x.neg,m]=List.filterMap (fun p=>p.1.ownBlock) [(m,x.mag)]
    have:List.filterMap blk [.bool x.neg,m]=List.filterMap blk [m]:=rfl
    rw [this]
    simp [List.filterMap_cons,e]
section
open Rg
variable {P:Program} {Q:Exit→Act→World→Prop} {B N:Nat} {w0:Bs} {Γ:List (Nat × VA)} {ops:Array Oper} {les:List LeF} {sp:List ((Nat→Value)→Sp)} {anc:Nat→List Nat} {i:Nat}
end
section
open Rg
variable {P:Program} {Q:Exit→Act→World→Prop} {B N:Nat} {w0:Bs} {Γ:List (Nat × VA)} {Λ:List Lc} {a:Act} {w:World}
def les0 (Λ:List Lc):List Le:=Λ.map fun l=>⟨l.s,l.T,l.H,none,l.A,none⟩
theorem tQ:(les0 Λ).map (fun e=>(⟨e.s,e.T,e.H,Rg.last e⟩:Lc))=Λ:=by
 unfold les0
 rw [List.map_map]
 have:(fun e:Le=>(⟨e.s,e.T,e.H,Rg.last e⟩:Lc))∘(fun l:Lc=>(⟨l.s,l.T,l.H,none,l.A,none⟩:Le))=id:=by
  funext l
  rfl
 rw [this,List.map_id]
theorem BS {ops:Array Oper}{sp:List Sp}{d0:Nat}{A0:VA}(src:List Src)(h:St B w0 N ((d0,A0)::Γ) Λ a w)(h0:sp[0]?=some (.v d0 A0))(hsz:0<ops.size)
  (hob:Obs P Q ⟨ops,N,Γ,les0 Λ,sp,fun i=>List.range i⟩ B w0 1 (ops.size-1)) (hk:Rg.chk ⟨ops,N,Γ,les0 Λ,sp,fun i=>List.range i⟩=true) (hsrc:src.all (okS ⟨ops,N,Γ,les0 Λ,sp,fun i=>List.range i⟩)=true)
  (hQ:∀ a w,St B w0 N (src.filterMap (takeS ⟨ops,N,Γ,les0 Λ,sp,fun i=>List.range i⟩)) Λ a w→Q .normal a w):wpOps P ops Q (List.range' 1 (ops.size-1)) a w:=by
 have hmem:∀ e∈les0 Λ,e.cr=none∧e.st=none∧(⟨e.s,e.T,e.H,e.A0⟩:Lc)∈Λ:=fun e he=>by
  obtain ⟨l,hl,rfl⟩:=List.mem_map.1 he
  exact ⟨rfl,rfl,hl⟩
 have hcur:∀ e∈les0 Λ,∀ L:Nat→Bool,Rg.cur L e=some e.A0:=fun e he L=>by
  obtain ⟨h1,h2,_⟩:=hmem e he
  unfold Rg.cur
  rw [h1,h2]
  rfl
 have hi0:Rg.Inv ⟨ops,N,Γ,les0 Λ,sp,fun i=>List.range i⟩ B w0 (fun j=>decide (j<1)) a w:=by
  refine ⟨h.lo,h.defers,h.size,h.base,fun x hx _ _=>h.vals x (List.mem_cons_of_mem _ hx),fun i y d A hs hv hL _=>?_,fun i d b k c hs hL _=>?_,fun e he A hA=>?_,fun e he f hf hne _ _=>?_⟩
  ·have hL':i<1:=of_decide_eq_true hL
   have:i=0:=by omega
   subst this
   have hs':sp[0]?=some y:=hs
   rw [h0] at hs'
   injection hs' with hs'
   subst hs'
   simp only [Sp.vl,Option.some.injEq,Prod.mk.injEq] at hv
   obtain ⟨rfl,rfl⟩:=hv
   exact h.vals (d0,A0) (List.mem_cons_self ..)
  ·have hL':i<1:=of_decide_eq_true hL
   have:i=0:=by omega
   subst this
   have hs':sp[0]?=some (.adr d b k c):=hs
   rw [h0] at hs'
   cases hs'
  ·rw [hcur e he] at hA
   injection hA with hA
   subst hA
   exact h.locs _ (hmem e he).2.2
  ·exact h.dis _ (hmem e he).2.2 _ (hmem f hf).2.2 hne
 have key:∀ m k,1≤k→k+m=ops.size→∀ a w,Rg.Inv ⟨ops,N,Γ,les0 Λ,sp,fun i=>List.range i⟩ B w0 (fun j=>decide (j<k)) a w→wpOps P ops Q (List.range' k m) a w:=by
  intro m
  induction m with
  | zero =>
   intro k hk1 hkm a w hi
   have:k=ops.size:=by omega
   subst this
   have:=fO hk ⟨hi⟩ src hsrc
   rw [show (Rg.mk ops N Γ (les0 Λ) sp (fun i=>List.range i)).les=les0 Λ from rfl,tQ] at this
   exact hQ a w this
  | succ m ih =>
   intro k hk1 hkm a w hi
   rw [List.range'_succ,wpOps_cons]
   refine Rg.step hk (hob.all k zo zo) hi ?_ (by simp) ?_ _ fun a' w' hi'=>ih (k+1) zo zo a' w' (hi'.congr fun j=>?_)
   ·intro i hi j hj
    have hj:(List.range i).contains j=true:=hj
    simp at hi hj ⊢
    omega
   ·intro j hj
    have hj:(List.range k).contains j=true:=hj
    simpa using hj
   ·unfold upd
    by_cases h1:j=k
    ·subst h1; simp
    ·have h2:(j==k)=false:=by simpa using h1
     rw [h2,Bool.false_or,decide_eq_decide]
     omega
 exact key (ops.size-1) 1 (Nat.le_refl _) zo a w hi0
end
theorem CN {B:Nat}{w:World}:(BkE []).p B ([Value.int .i64 0]++List.replicate 16 (Value.slice none 0 0)) w :=
 ⟨.slice none 0 0,[Value.int .i64 0]::List.replicate 16 [Value.slice none 0 0],rfl,.cons rfl (.cons ⟨rfl,World.ownsRow_nil ..,(fun s hs=>by cases hs),fun i j s t h=>by cases h⟩ (.cons ⟨rfl,rfl⟩ (.cons ⟨rfl,rfl⟩ (.cons ⟨rfl,rfl⟩ (.cons ⟨rfl,rfl⟩ (.cons ⟨rfl,rfl⟩ (.cons ⟨rfl,rfl⟩ (.cons ⟨rfl,rfl⟩ (.cons ⟨rfl,rfl⟩ (.cons ⟨rfl,rfl⟩ (.cons ⟨rfl,rfl⟩ (.cons ⟨rfl,rfl⟩ (.cons ⟨rfl,rfl⟩ (.cons ⟨rfl,rfl⟩ (.cons ⟨rfl,rfl⟩ (.cons ⟨rfl,rfl⟩ .nil))))))))))))))))⟩
theorem rj:Zero Tryz.prog 58 (BkE []):=Zero.of (z:=.agg ([Value.int .i64 0]++List.replicate 16 (Value.slice none 0 0)).toArray) zk fun B w=>CN
end Go.Proofs.YtmacliockgbdcaaGreatDoor
