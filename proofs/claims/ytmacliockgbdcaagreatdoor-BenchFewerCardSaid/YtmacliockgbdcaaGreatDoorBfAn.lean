import Derived.Test.YtmacliockgbdcaaGreatDoorBfAa
import Derived.Test.YtmacliockgbdcaaGreatDoorBfAc
import Derived.Test.YtmacliockgbdcaaGreatDoorBfAm
set_option linter.unusedVariables false
set_option linter.unusedSimpArgs false
set_option linter.unusedSectionVars false
set_option maxRecDepth 100000
namespace Go.Proofs.YtmacliockgbdcaaGreatDoor
open Go Go.RowKit
def TyIn (w:World)(k:Nat)(Ts:List TypeId):Prop:=∃ c T fz,w.heap[k]?=some (.cells c T fz)∧T∈Ts
abbrev Wid (B:Nat)(w:World)(Ts:List TypeId):Bs:=⟨w,fun k=>B≤k∧TyIn w k Ts,false⟩
open Classical in
theorem pm {p:World→Prop}{B:Nat}{Ts:List TypeId}(hcg:∀ w w',Grow w w'→p w→p w')(hwr:∀ w w' g c T fz,w.heap[g]?=some (.cells c T fz)→T∈Ts→B≤g→Wr g w w'→p w→p w')
  {w w':World} (hk:Kept (Wid B w Ts) w') (hp:p w):p w':=by
 let W:Nat→World:=fun m=>{ w with heap:=w.heap.mapIdx fun k o=>if k<m∧(Wid B w Ts).F k then (w'.heap[k]?).getD o else o }
 have hW:∀ m k,(W m).heap[k]?=if k<m∧(Wid B w Ts).F k∧k<w.heap.size then w'.heap[k]? else w.heap[k]?:=fun m k=>by
  show (w.heap.mapIdx _)[k]?=_
  rw [Array.getElem?_mapIdx]
  by_cases hlt:k<w.heap.size
  ·rw [Array.getElem?_eq_getElem hlt]
   have hlt':k<w'.heap.size:=Nat.lt_of_lt_of_le hlt hk.size
   rw [Array.getElem?_eq_getElem hlt']
   by_cases hc:k<m∧(Wid B w Ts).F k
   ·rw [if_pos ⟨hc.1,hc.2,hlt⟩,Option.map_some,if_pos hc]
    rfl
   ·rw [if_neg (fun h=>hc ⟨h.1,h.2.1⟩),Option.map_some,if_neg hc]
  ·have h0:w.heap[k]?=none:=Array.getElem?_eq_none zo
   rw [if_neg (fun h=>hlt h.2.2),h0]
   rfl
 have hs:∀ m,(W m).heap.size=w.heap.size:=fun m=>by simp [W]
 have key:∀ m,p (W m):=fun m=>by
  induction m with
  | zero=>exact hcg w (W 0) ⟨rfl,rfl,rfl,by rw [hs]; exact Nat.le_refl _,fun k hk=>by rw [hW,if_neg (fun h=>by omega)]⟩ hp
  | succ m ih =>
   by_cases hF:(Wid B w Ts).F m
   ·obtain ⟨hB,c,T,fz,hc,hT⟩:=hF
    refine hwr (W m) (W (m+1)) m c T fz ?_ hT hB ⟨rfl,rfl,rfl,by rw [hs,hs],fun k hk=>?_⟩ ih
    ·rw [hW,if_neg (fun h=>by omega)]; exact hc
    ·rw [hW,hW]
     by_cases h1:k<m
     ·simp [h1,Nat.lt_succ_of_lt h1]
     ·have:¬ k<m+1:=by omega
      simp [h1,this]
   ·refine hcg (W m) (W (m+1)) ⟨rfl,rfl,rfl,by rw [hs,hs]; exact Nat.le_refl _,fun k hk=>?_⟩ ih
    rw [hW,hW]
    by_cases h1:k<m
    ·simp [h1,Nat.lt_succ_of_lt h1]
    ·by_cases h2:k=m
     ·subst h2
      rw [if_neg (fun h=>hF h.2.1),if_neg (fun h=>by omega)]
     ·have:¬ k<m+1:=by omega
      simp [h1,this]
 refine hcg (W w.heap.size) w' ⟨hk.os,hk.tape,hk.output,by rw [hs]; exact hk.size,fun k hlt=>?_⟩ (key _)
 rw [hs] at hlt
 rw [hW]
 by_cases hF:(Wid B w Ts).F k
 ·rw [if_pos ⟨hlt,hF,hlt⟩]
 ·rw [if_neg (fun h=>hF h.2.1)]
  exact hk.block k hlt hF
theorem VA.kept {A:VA}{B:Nat}{v:Value}{w w':World}{Ts:List TypeId}(hp:A.p B v w)(hk:Kept (Wid B w Ts) w')(hd:∀ T∈Ts,T ∉ A.deps):A.p B v w' :=
 pm (p:=fun w=>A.p B v w) (fun w w' hg h=>A.grow _ _ _ _ hg h) (fun w w' g c T fz hc hT hB hW h=>A.wr _ _ _ _ _ _ _ _ hc (hd T hT) hB hW h) hk hp
theorem As.kept {A:As}{B:Nat}{cs:List Value}{w w':World}{Ts:List TypeId}(hp:A.p B cs w)(hk:Kept (Wid B w Ts) w')(hd:∀ T∈Ts,T ∉ A.deps):A.p B cs w' :=
 pm (p:=fun w=>A.p B cs w) (fun w w' hg h=>A.grow _ _ _ _ hg h) (fun w w' g c T fz hc hT hB hW h=>A.wr _ _ _ _ _ _ _ _ hc (hd T hT) hB hW h) hk hp
def CK (P:Program)(f:FuncId)(T:TypeId)(Ts:List TypeId)(A0 A1:As)(pre:List VA)(post:VA):Prop :=
 (∃ fn, P.funcs[f]? = some fn ∧ (fn.name == "runtime.NumGoroutine") = false ∧ fn.body.isNone = false) ∧
 ∀ (B:Nat) (w:World) (g:Nat) (cs:List Value) (args:List Value),B≤g→w.heap[g]?=some (.cells cs.toArray T (0,0))→A0.p B cs w→All2 (fun (A:VA) v=>A.p B v w) pre args →
  Calls P f (ptr g::args).toArray w fun e w'=>∃ v cs',e=.returned v∧post.p B v w'∧Kept (Wid B w Ts) w'∧w'.heap[g]?=some (.cells (List.toArray cs') T (0,0))∧A1.p B cs' w'
theorem Bj {B:Nat}{w:World}{Ts:List TypeId}{E:TypeId}(hE:E∈Ts):RowMay (Wid B w Ts) B E:=fun w1 g c fz hk hB hc=>by
 by_cases hF:(Wid B w Ts).F g
 ·exact .inr hF
 ·by_cases hlt:g<w.heap.size
  ·exact .inr ⟨hB,c,E,fz,(hk.block g hlt hF).symm.trans hc,hE⟩
  ·exact .inl (Nat.le_of_not_lt hlt)
theorem CK.intro {P : Program} {f : FuncId} {fn : Func} {c : Code} {T : TypeId} {Ts : List TypeId} {A0 A1 : As} {pre : List VA} {post : VA} (hf : P.funcs[f]? = some fn) (hb : fn.body = some c) (hn : (fn.name == "runtime.NumGoroutine") = false) (hsz : pre.length + 1 ≤ fn.ntmps) (hT : Ts.contains T = true)
  (h:∀ (B g:Nat) (w0:Bs) (a:Act),(∀ E,Ts.contains E=true→RowMay w0 B E)→St B w0 fn.ntmps (argΓ (EqV (ptrH.f g)::pre)) [⟨0,T,ptrH,A0⟩] a w0.w→c.wp P (bPost P fn (RQm B w0 g T A1 post)) a w0.w):CK P f T Ts A0 A1 pre post:=by
 refine ⟨⟨fn,hf,hn,by rw [hb]; rfl⟩,fun B w g cs args hB hg hp ha=>(bQ hf hb (h B g (Wid B w Ts) _ (fun E hE=>Bj (by simpa using hE)) ?_)).mono fun _ _ ⟨v,cs',he,hv,hk,h1,h2⟩=>⟨v,cs',he,hv,hk,h1,h2⟩⟩
 have hl:=ha.length
 have hgw:=(Array.getElem?_eq_some_iff.1 hg).1
 have ha':All2 (fun (A:VA) v=>A.p B v w) (EqV (ptrH.f g)::pre) (ptr g::args):=.cons rfl ha
 have h0:(⟨(ptr g::args).toArray++Array.replicate (fn.ntmps-(ptr g::args).toArray.size) undef,[]⟩:Act).eval (.tmp 0)=ptrH.f g:=by
  have:=All2.args (N:=fn.ntmps-(ptr g::args).toArray.size) ha' (0,EqV (ptrH.f g)) (by simp [argΓ])
  exact this
 refine ⟨fun k hk=>?_,DefOk.nil rfl,?_,Kept.refl _,All2.args ha',fun l hl=>?_,fun l hl m hm hne=>?_⟩
 ·rcases hk with hk | hk
  ·exact Nat.le_trans hB (Nat.le_trans (Nat.le_of_lt hgw) hk)
  ·exact hk.1
 ·simp only [Array.size_append,List.size_toArray,Array.size_replicate,List.length_cons]
  omega
 ·simp at hl
  subst hl
  exact ⟨g,cs,h0,.inr ⟨hB,_,_,_,hg,by simpa using hT⟩,hg,hp⟩
 ·simp at hl hm
  subst hl hm
  exact absurd G hne
theorem CK.ex {P : Program} {f : FuncId} {T : TypeId} {Ts : List TypeId} {A0 A1 : As} {A : Value → As} {c : Value → Prop} {pre : List VA} {post : VA} (hex : ∃ fn, P.funcs[f]? = some fn ∧ (fn.name == "runtime.NumGoroutine") = false ∧ fn.body.isNone = false) (h : ∀ x, c x → CK P f T Ts (A x) A1 pre post) (hp : ∀ B cs w, A0.p B cs w → ∃ x, c x ∧ (A x).p B cs w) : CK P f T Ts A0 A1 pre post :=
 ⟨hex,fun B w g cs args hB hg hp0 ha=>by
  obtain ⟨x,hc,hx⟩:=hp B cs w hp0
  exact (h x hc).2 B w g cs args hB hg hx ha⟩
theorem CK.wk {P:Program}{f:FuncId}{T:TypeId}{Ts:List TypeId}{A0 A1 A1':As}{pre:List VA}{post:VA}(h:CK P f T Ts A0 A1 pre post)(hp:∀ B cs w,A1.p B cs w→A1'.p B cs w):CK P f T Ts A0 A1' pre post :=
 ⟨h.1,fun B w g cs args hB hg hp0 ha=>(h.2 B w g cs args hB hg hp0 ha).mono fun _ _ ⟨v,cs',he,hv,hk,h1,h2⟩=>⟨v,cs',he,hv,hk,h1,hp _ _ _ h2⟩⟩
theorem CK.wkT {P:Program}{f:FuncId}{T:TypeId}{Ts Ts':List TypeId}{A0 A1:As}{pre:List VA}{post:VA}(h:CK P f T Ts A0 A1 pre post)(hT:∀ E∈Ts,E∈Ts'):CK P f T Ts' A0 A1 pre post :=
 ⟨h.1,fun B w g cs args hB hg hp0 ha=>(h.2 B w g cs args hB hg hp0 ha).mono fun _ _ ⟨v,cs',he,hv,hk,h1,h2⟩=>⟨v,cs',he,hv,⟨hk.os,hk.tape,hk.output,hk.size,fun k h1 h2=>hk.block k h1 fun ⟨q1,c,T,fz,q2,q3⟩=>h2 ⟨q1,c,T,fz,q2,hT T q3⟩⟩,h1,h2⟩⟩
section
open Rg
variable {P:Program} {Q:Exit→Act→World→Prop} {B N:Nat} {w0:Bs} {Γ:List (Nat × VA)} {Λ:List Lc} {a:Act} {w:World} {ops:Array Oper} {i:Nat} {K:Act→World→Prop}
theorem CQ {pre:List VA}{ks:List Nat}{xs:List Operand}(h:St B w0 N Γ Λ a w)(hx:All2 (fun (A:VA) (kx:Nat × Operand)=>∃ t,kx.2=.tmp t∧Γ[kx.1]?=some (t,A)) pre (ks.zip xs))(hl:ks.length=xs.length):All2 (fun (A:VA) v=>A.p B v w) pre (xs.map a.eval):=by
 induction pre generalizing ks xs with
 | nil =>
  cases hk:ks.zip xs with
  | nil =>
   have:xs=[]:=by
    cases xs with
    | nil=>rfl
    | cons x xs=>cases ks with
     | nil=>cases hl
     | cons k ks=>cases hk
   subst this
   exact .nil
  | cons y ys=>rw [hk] at hx; cases hx
 | cons A pre ih =>
  cases ks with
  | nil=>cases hx
  | cons k ks=>cases xs with
   | nil=>cases hx
   | cons x xs =>
    cases hx with
    | cons h1 h2 =>
     obtain ⟨t,e,h3⟩:=h1
     have e:x=.tmp t:=e
     subst e
     exact .cons (h.vals _ (List.mem_of_getElem? h3)) (ih h2 (by simpa using hl))
theorem cP {d p f sx:Nat}{T T1:TypeId}{Ts:List TypeId}{A0 A1:As}{pre:List VA}{post:VA}{xs:List Operand}{at_:Array TypeId}{ps:String}{af:Array Edge}(src ks:List Nat)(e:Nat)(ho:ops[i]?=some ⟨some d,.call ⟨.value (.func f),(.tmp p::xs).toArray,at_⟩,T1,ps,af,none⟩)(h:St B w0 N Γ Λ a w)
  (hc:CK P f T Ts A0 A1 pre post) (hl:Λ[e]?=some ⟨sx,T,ptrH,A0⟩) (hp:a.eval (.tmp p)=a.eval (.tmp sx)) (hx:All2 (fun (A:VA) (kx:Nat × Operand)=>∃ t,kx.2=.tmp t∧Γ[kx.1]?=some (t,A)) pre (ks.zip xs)) (hkl:ks.length=xs.length)
  (hrm:∀ E,Ts.contains E=true→RowMay w0 B E) (hd:d<N) (hΓ:Γ.all (fun x=>x.1 != d)=true) (hΛd:Λ.all (fun l=>l.s != d)=true)
  (hsrc:src.all (fun k=>match Γ[k]? with | some y=>Ts.all (fun E => !y.2.deps.contains E) | none=>false)=true) (hΛ:Λ.zipIdx.all (fun x=>x.2==e || (!Ts.contains x.1.T&&Ts.all (fun E => !x.1.A.deps.contains E)))=true)
  (hK:∀ a' w',St B w0 N ((d,post)::src.filterMap fun k=>Γ[k]?) (Λ.set e ⟨sx,T,ptrH,A1⟩) a' w'→K a' w'):wpOp P ops Q i K a w:=by
 obtain ⟨g,cs,q1,q2,q3,q4⟩:=h.locs _ (List.mem_of_getElem? hl)
 have e1:a.eval (.tmp p)=ptr g:=hp.trans q1
 have hargs:=CQ h hx hkl
 obtain ⟨⟨fn,hf,hn,hb⟩,hcall⟩:=hc
 have hrun:(execOp a.eval ⟨some d,.call ⟨.value (.func f),(.tmp p::xs).toArray,at_⟩,T1,ps,af,none⟩).run P w=.ok (.enter f (ptr g::xs.map a.eval).toArray) w:=by
  simp only [execOp,resolve,Act.eval,Deferred.ofValue,Sem.run_bind,Sem.run_pure,Result.andThen_ok,invoke,bk hf hn hb]
  have e1':a.eval (.tmp p)=ptr g:=e1
  simp [Act.eval] at e1' ⊢
  exact e1'
 have hdsz:d<a.tmps.size:=by rw [h.size]; exact hd
 have hBw:B≤w.heap.size:=Nat.le_trans (h.lo _ (.inl (Nat.le_refl _))) h.base.size
 unfold wpOp
 simp only [ho,Region.wanted,if_true]
 refine .inl ?_
 unfold Oper.wp
 rw [hrun]
 refine (hcall B w g cs _ (h.lo g q2) q3 q4 hargs).mono ?_
 rintro e0 w' ⟨v,cs',rfl,hv,hk,h1,h2⟩
 refine hK _ _ ?_
 have hls:∀ l∈Λ,l.s≠d:=fun l hl=>by simpa using List.all_eq_true.1 hΛd l hl
 have hrow:∀ {g:Nat} {c:Array Value} {T':TypeId} {fz:Nat × Nat},w.heap[g]?=some (.cells c T' fz)→T' ∉ Ts→w'.heap[g]?=some (.cells c T' fz):=fun {g c T' fz} hg1 hne =>
  (hk.block g (Array.getElem?_eq_some_iff.1 hg1).1 (fun ⟨_,c',T2,fz',e5,e6⟩=>by
   rw [hg1] at e5
   injection e5 with e5
   injection e5 with _ e5 _
   subst e5
   exact hne e6)).trans hg1
 have hset:∀ m∈Λ.set e ⟨sx,T,ptrH,A1⟩,∃ m0∈Λ,m0.s=m.s:=fun m hm=>by
  rcases List.mem_or_eq_of_mem_set hm with hm | rfl
  ·exact ⟨m,hm,rfl⟩
  ·exact ⟨_,List.mem_of_getElem? hl,rfl⟩
 refine ⟨h.lo,h.defers.keep rfl fun D hD=>(hk.block D (Array.getElem?_eq_some_iff.1 hD).1 (fun ⟨_,c,T2,fz,e5,_⟩=>by rw [hD] at e5; cases e5)).trans hD,by rw [bu]; exact h.size,⟨hk.os.trans h.base.os,hk.tape.trans h.base.tape,hk.output.trans h.base.output,Nat.le_trans h.base.size hk.size,fun k h3 h4=>?_⟩,fun y hy=>?_,fun m hm=>?_,fun m1 hm1 m2 hm2 hne=>?_⟩
 ·refine (hk.block k (Nat.lt_of_lt_of_le h3 h.base.size) (fun ⟨q5,c,T2,fz,q6,q7⟩=>?_)).trans (h.base.block k h3 h4)
  rcases hrm T2 (by simpa using q7) w k c fz h.base q5 q6 with q8 | q8
  ·omega
  ·exact h4 q8
 ·rcases List.mem_cons.1 hy with rfl | hy
  ·show post.p B ((a.put (some d) v).eval (.tmp d)) w'
   rw [aM _ _ _ hdsz]
   exact hv
  ·obtain ⟨k,hk1,hk2⟩:=List.mem_filterMap.1 hy
   have hs:=List.all_eq_true.1 hsrc k hk1
   simp only [hk2,List.all_eq_true,Bool.not_eq_true',List.contains_eq_mem,decide_eq_false_iff_not] at hs
   have hyd:y.1≠d:=by simpa using List.all_eq_true.1 hΓ y (List.mem_of_getElem? hk2)
   rw [aj _ _ _ _ hyd]
   exact VA.kept (h.vals y (List.mem_of_getElem? hk2)) hk hs
 ·obtain ⟨j,hj⟩:=List.getElem?_of_mem hm
  by_cases e1:j=e
  ·subst e1
   have:m=⟨sx,T,ptrH,A1⟩:=by
    rw [List.getElem?_set_self (List.getElem?_eq_some_iff.1 hl).1] at hj
    injection hj with hj
    exact hj.symm
   subst this
   exact ⟨g,cs',by rw [aj _ _ _ _ (hls _ (List.mem_of_getElem? hl))]; exact q1,q2,h1,h2⟩
  ·rw [List.getElem?_set_ne (fun e2=>e1 e2.symm)] at hj
   have hc:=List.all_eq_true.1 hΛ (m,j) (List.mem_zipIdx_iff_getElem?.2 hj)
   simp only [Bool.or_eq_true,beq_iff_eq,Bool.and_eq_true,Bool.not_eq_true',List.contains_eq_mem,decide_eq_false_iff_not,List.all_eq_true] at hc
   have hc':=hc.resolve_left e1
   obtain ⟨g',cs2,p1,p2,p3,p4⟩:=h.locs m (List.mem_of_getElem? hj)
   exact ⟨g',cs2,by rw [aj _ _ _ _ (hls _ (List.mem_of_getElem? hj))]; exact p1,p2,hrow p3 hc'.1,As.kept p4 hk hc'.2⟩
 ·obtain ⟨m3,r1,r2⟩:=hset m1 hm1
  obtain ⟨m4,r3,r4⟩:=hset m2 hm2
  rw [← r2,← r4] at hne ⊢
  rw [aj _ _ _ _ (hls _ r1),aj _ _ _ _ (hls _ r3)]
  exact h.dis m3 r1 m4 r3 hne
end
def lv (x:Nat):Value:=.int .u32 x
structure Slot where
 v:Value
 xs:List Nat
 u:Value
 ys:List Nat
 z:Value
 n:Nat
def Slot.cells (s:Slot):List Value:=[s.v,s.z,.int .i64 s.n]
def RowV (v:Value)(n:Nat):Prop:=(v=.slice none 0 0∧n=0)∨∃ g cap,v=.slice (some ⟨g,0,none⟩) n cap∧n≤cap∧cap≤maxLen
def Rdy (B:Nat)(w:World)(v:Value)(xs:List Nat):Prop:=RowV v xs.length∧∀ g,v.ownBlock=some g→B≤g∧∃ c,w.heap[g]?=some (Obj.cells c U32 (0,0))∧c.toList.take xs.length=xs.map lv
def Slot.ok (B:Nat)(w:World)(s:Slot):Prop:=w.ownsRow B U32 1 s.u s.ys.length (s.ys.map lv)∧Rdy B w s.v s.xs
def Slot.has (s:Slot)(g:Nat):Prop:=s.v.ownBlock=some g∨s.u.ownBlock=some g
def Apt (L:List Slot):Prop:=∀ (i j:Nat) (s t:Slot),L[i]?=some s→L[j]?=some t→i≠j→∀ g,s.has g→¬ t.has g
theorem cv {E m n B:Nat}{v:Value}{xs:List Value}{w w':World}(h:w.ownsRow B E m v n xs)(hk:∀ (g:Nat) (c:Array Value),v.ownBlock=some g→w.heap[g]?=some (Obj.cells c E (0,0))→w'.heap[g]?=some (Obj.cells c E (0,0))):w'.ownsRow B E m v n xs:=by
 refine ⟨h.1,?_⟩
 rcases h.2 with h1 | ⟨g,cap,cur,rfl,h2,h3,h4⟩
 ·exact .inl h1
 ·exact .inr ⟨g,cap,cur,rfl,h2,hk g cur G h3,h4⟩
theorem Rdy.keep {B:Nat}{v:Value}{xs:List Nat}{w w':World}(h:Rdy B w v xs)(hk:∀ (g:Nat) (c:Array Value),v.ownBlock=some g→w.heap[g]?=some (Obj.cells c U32 (0,0))→w'.heap[g]?=some (Obj.cells c U32 (0,0))):Rdy B w' v xs :=
 ⟨h.1,fun g hg=>by
  obtain ⟨h1,c,h2,h3⟩:=h.2 g hg
  exact ⟨h1,c,hk g c hg h2,h3⟩⟩
theorem Slot.ok.keep {B:Nat}{s:Slot}{w w':World}(h:s.ok B w)(hk:∀ (g:Nat) (c:Array Value),s.has g→w.heap[g]?=some (Obj.cells c U32 (0,0))→w'.heap[g]?=some (Obj.cells c U32 (0,0))):s.ok B w' :=
 ⟨cv h.1 fun g c hg=>hk g c (.inr hg),h.2.keep fun g c hg=>hk g c (.inl hg)⟩
theorem Slot.ok.lt {B:Nat}{s:Slot}{w:World}(h:s.ok B w){g:Nat}(hg:s.has g):B≤g∧∃ c,w.heap[g]?=some (Obj.cells c U32 (0,0)):=by
 rcases hg with hg | hg
 ·obtain ⟨h1,c,h2,_⟩:=h.2.2 g hg
  exact ⟨h1,c,h2⟩
 ·rcases h.1.2 with ⟨e,_⟩ | ⟨g',cap,cur,e,h2,h3,_⟩
  ·rw [e] at hg; cases hg
  ·rw [e] at hg
   have:g'=g:=by simpa [Value.ownBlock] using hg
   subst this
   exact ⟨h2,cur,h3⟩
def HbA (vr:Value)(L:List Slot):As where
 n:=1
 ag:=false
 p B cs w:=cs=[vr]∧w.ownsRow B 108 3 vr L.length (L.flatMap Slot.cells)∧(∀ s∈L,s.ok B w)∧Apt L
 deps:=[108,U32]
 len:=by rintro B cs w ⟨rfl,_⟩; rfl
 one:=by
  rintro B cs w ⟨rfl,h,_⟩ c hc
  obtain rfl:=List.mem_singleton.1 hc
  rcases h.2 with ⟨rfl,_⟩ | ⟨g,cap,cur,rfl,_⟩ <;> rfl
 ag1:=fun _=>rfl
 cg:=fun B cs w w' hg ⟨h1,h2,h3,h4⟩=>⟨h1,cv h2 fun g c _ h=>hg.heap h,fun s hs=>(h3 s hs).keep fun g c _ h=>hg.heap h,h4⟩
 wr:=by
  rintro B cs w w' g c T fz hgc hT hB hW ⟨h1,h2,h3,h4⟩
  simp only [List.mem_cons,List.not_mem_nil,or_false,not_or] at hT
  have hne:∀ (g':Nat) (c':Array Value) (E:TypeId),(E=108∨E=U32)→w.heap[g']?=some (Obj.cells c' E (0,0))→w'.heap[g']?=some (Obj.cells c' E (0,0)):=fun g' c' E hE h=>by
   rw [hW.block g' (fun e=>?_)]
   ·exact h
   ·subst e
    rw [hgc] at h
    injection h with h
    injection h with _ h _
    subst h
    rcases hE with e | e
    ·exact hT.1 e
    ·exact hT.2 e
  exact ⟨h1,cv h2 fun g c _ h=>hne g c _ (.inl G) h,fun s hs=>(h3 s hs).keep fun g c _ h=>hne g c _ (.inr G) h,h4⟩
theorem pG {α:Type}{f:Slot→List α}:∀ {L:List Slot} {i:Nat} {s s':Slot},L[i]?=some s→f s'=f s→(L.set i s').flatMap f=L.flatMap f
 | x::L,0,s,s',h,e=>by
  simp at h
  subst h
  simp [e]
 | x::L,i+1,s,s',h,e=>by
  simp only [List.set_cons_succ,List.flatMap_cons]
  rw [pG (by simpa using h) e]
theorem yF {vr:Value}{L:List Slot}{B i:Nat}{s s':Slot}{cs:List Value}{w w':World}(h:(HbA vr L).p B cs w)(hi:L[i]?=some s)(hc:s'.cells=s.cells)(hok:s'.ok B w')
  (hrow:∀ (g:Nat) (c:Array Value),w.heap[g]?=some (Obj.cells c 108 (0,0))→w'.heap[g]?=some (Obj.cells c 108 (0,0))) (hoth:∀ (g:Nat) (c:Array Value),¬ s.has g→w.heap[g]?=some (Obj.cells c U32 (0,0))→w'.heap[g]?=some (Obj.cells c U32 (0,0)))
  (hblk:∀ g,s'.has g→s.has g∨w.heap.size≤g):(HbA vr (L.set i s')).p B cs w':=by
 obtain ⟨h1,h2,h3,h4⟩:=h
 have hlt:i<L.length:=(List.getElem?_eq_some_iff.1 hi).1
 have hfar:∀ (j:Nat) t,L[j]?=some t→j≠i→∀ g,t.has g→¬ s'.has g:=fun j t hj hne g hg hg'=>by
  rcases hblk g hg' with h5 | h5
  ·exact h4 j i t s hj hi hne g hg h5
  ·obtain ⟨_,c,h6⟩:=(h3 t (List.mem_of_getElem? hj)).lt hg
   have:=(Array.getElem?_eq_some_iff.1 h6).1
   omega
 refine ⟨h1,?_,fun t ht=>?_,fun j k t1 t2 hj hk hne g hg hg'=>?_⟩
 ·rw [List.length_set,pG hi hc]
  exact cv h2 fun g c _ h=>hrow g c h
 ·obtain ⟨j,hj⟩:=List.getElem?_of_mem ht
  by_cases e:j=i
  ·subst e
   rw [List.getElem?_set_self hlt] at hj
   injection hj with hj
   subst hj
   exact hok
  ·rw [List.getElem?_set_ne (fun e2=>e e2.symm)] at hj
   exact (h3 t (List.mem_of_getElem? hj)).keep fun g c hg hh=>hoth g c (fun hs=>h4 j i t s hj hi e g hg hs) hh
 ·by_cases e:j=i
  ·subst e
   rw [List.getElem?_set_self hlt] at hj
   injection hj with hj
   subst hj
   rw [List.getElem?_set_ne hne] at hk
   exact hfar k t2 hk (fun e=>hne e.symm) g hg' hg
  ·rw [List.getElem?_set_ne (fun e2=>e e2.symm)] at hj
   by_cases e2:k=i
   ·subst e2
    rw [List.getElem?_set_self hlt] at hk
    injection hk with hk
    subst hk
    exact hfar j t1 hj e g hg hg'
   ·rw [List.getElem?_set_ne (fun e3=>e2 e3.symm)] at hk
    exact h4 j k t1 t2 hj hk hne g hg hg'
theorem take_set {c:List Value}{xs:List Nat}{k m:Nat}(h:c.take xs.length=xs.map lv):(c.set k (lv m)).take xs.length=(xs.set k m).map lv:=by
 rw [List.take_set,h,List.map_set]
theorem BI {vr:Value}{L:List Slot}{B i k g cap m:Nat}{s:Slot}{cs:List Value}{w:World}(h:(HbA vr L).p B cs w)(hi:L[i]?=some s)(hu:s.u=s.v)(hy:s.ys=s.xs)(hv:s.v=.slice (some ⟨g,0,none⟩) s.xs.length cap)(hk:k<s.xs.length) :
  B≤g∧∃ c:Array Value,w.heap[g]?=some (Obj.cells c U32 (0,0))∧k<c.size∧(HbA vr (L.set i { s with xs:=s.xs.set k m,ys:=s.xs.set k m })).p B cs (w.setRow g (c.setIfInBounds k (lv m))):=by
 have hs:=h.2.2.1 s (List.mem_of_getElem? hi)
 have hg:s.v.ownBlock=some g:=by rw [hv]; rfl
 obtain ⟨hB,c,hc,htk⟩:=hs.2.2 g hg
 have hown:=hs.1
 rw [hu,hy,hv] at hown
 rcases hown.2 with ⟨e,_⟩ | ⟨g',cap',cur,e,h2,h3,h4,h5,h6,h7⟩
 ·cases e
 ·injection e with e1 e2 e3
  injection e1 with e1
  injection e1 with e1
  subst e1
  subst e3
  rw [hc] at h3
  injection h3 with h3
  injection h3 with h3
  subst h3
  have hlen:c.size=cap:=by rw [h6,Nat.mul_one]
  have hnew:(w.setRow g (c.setIfInBounds k (lv m))).heap[g]?=some (Obj.cells (c.setIfInBounds k (lv m)) U32 (0,0)):=setRow_heap w g _ _ _ _ hc
  have htk2:(c.setIfInBounds k (lv m)).toList.take (s.xs.set k m).length=(s.xs.set k m).map lv:=by
   rw [Array.toList_setIfInBounds,List.length_set]
   exact take_set htk
  refine ⟨hB,c,hc,by omega,yF h hi G ⟨?_,?_⟩ (fun g2 c2 h8=>?_) (fun g2 c2 h8 h9=>?_) fun g2 h8=>.inl h8⟩
  ·show World.ownsRow _ B U32 1 s.u (s.xs.set k m).length ((s.xs.set k m).map lv)
   rw [hu,hv,List.length_set]
   refine ⟨by simp,.inr ⟨g,cap,_,rfl,hB,hnew,h4,h5,by simp [hlen],?_⟩⟩
   rw [List.length_set] at htk2
   rw [Nat.mul_one]
   exact htk2
  ·show Rdy B _ s.v (s.xs.set k m)
   refine ⟨?_,fun g2 h8=>?_⟩
   ·rw [List.length_set]; exact hs.2.1
   ·rw [hg] at h8
    injection h8 with h8
    subst h8
    exact ⟨hB,_,hnew,htk2⟩
  ·rw [setRow_other _ _ _ _ (fun e=>by subst e; rw [hc] at h8; injection h8 with h8; injection h8 with _ h8 _; revert h8; decide)]
   exact h8
  ·rw [setRow_other _ _ _ _ (fun e=>h8 (.inl (by rw [e]; exact hg)))]
   exact h9
theorem hb_app {vr v':Value}{L:List Slot}{B i m:Nat}{s:Slot}{cs:List Value}{w w':World}(h:(HbA vr L).p B cs w)(hi:L[i]?=some s)(hown:w'.ownsRow B U32 1 v' (s.ys.length+1) (s.ys.map lv++[lv m]))(hg:w.grownBy w' s.u.ownBlock)
  (hb:v'.ownBlock=s.u.ownBlock∨(v'.ownBlock=some w.heap.size∧w.grownBy w' none)) (hpre:s.u.ownBlock=s.v.ownBlock→s.xs <+: s.ys):(HbA vr (L.set i { s with u:=v',ys:=s.ys++[m] })).p B cs w':=by
 have hs:=h.2.2.1 s (List.mem_of_getElem? hi)
 have hlt:∀ (g:Nat) (c:Array Value) (T:TypeId),w.heap[g]?=some (Obj.cells c T (0,0))→g<w.heap.size:=fun g c T h=>(Array.getElem?_eq_some_iff.1 h).1
 refine yF h hi G ⟨by simpa using hown,?_⟩ (fun g c h8=>?_) (fun g c h8 h9=>?_) fun g h8=>?_
 ·refine ⟨hs.2.1,fun g hgv=>?_⟩
  obtain ⟨h1,c,h2,h3⟩:=hs.2.2 g hgv
  by_cases e:s.u.ownBlock=some g
  ·rcases hb with hb | ⟨hb,hgn⟩
   ·rcases hown.2 with ⟨e1,_⟩ | ⟨g',cap,cur,e1,h4,h5,h6,h7,h10,h11⟩
    ·rw [e1,e] at hb
     cases hb
    ·have:g'=g:=by
      have:v'.ownBlock=some g':=by rw [e1]; rfl
      rw [hb,e] at this
      injection this with this
      exact this.symm
     subst this
     refine ⟨h1,cur,h5,?_⟩
     obtain ⟨t,ht⟩:=hpre (e.trans hgv.symm)
     have hle:s.xs.length≤s.ys.length:=by rw [← ht]; simp
     rw [Nat.mul_one] at h11
     have h12:=congrArg (List.take s.xs.length) h11
     rw [List.take_take,Nat.min_eq_left zo] at h12
     show cur.toList.take s.xs.length=s.xs.map lv
     rw [h12,← ht]
     simp [List.take_append_of_le_length]
   ·exact ⟨h1,c,(hgn.block g (hlt _ _ _ h2) (by simp)).trans h2,h3⟩
  ·exact ⟨h1,c,(hg.block g (hlt _ _ _ h2) (fun e2=>e e2.symm)).trans h2,h3⟩
 ·refine (hg.block g (hlt _ _ _ h8) (fun e=>?_)).trans h8
  obtain ⟨_,c2,h9⟩:=hs.lt (g:=g) (.inr e.symm)
  rw [h8] at h9
  injection h9 with h9
  injection h9 with _ h9 _
  revert h9
  decide
 ·exact (hg.block g (hlt _ _ _ h9) (fun e=>h8 (.inr e.symm))).trans h9
 ·rcases h8 with h8 | h8
  ·exact .inl (.inl h8)
  ·rcases hb with hb | ⟨hb,_⟩
   ·exact .inl (.inr (hb.symm.trans h8))
   ·have h8':v'.ownBlock=some g:=h8
    rw [hb] at h8'
    injection h8' with h8'
    exact .inr (Nat.le_of_eq h8')
theorem uk:∀ {L:List Slot} {i:Nat} {s:Slot},L[i]?=some s→∀ z,(L.set i { s with z:=z }).flatMap Slot.cells=(L.flatMap Slot.cells).set (3*i+1) z
 | x::L,0,s,h,z=>by
  simp at h
  subst h
  rfl
 | x::L,i+1,s,h,z=>by
  simp only [List.set_cons_succ,List.flatMap_cons]
  rw [uk (by simpa using h) z,show 3*(i+1)+1=(3*i+1)+3 by omega]
  rfl
theorem x7 {L:List Slot}:(L.flatMap Slot.cells).length=L.length*3:=by
 induction L with
 | nil=>rfl
 | cons x L ih=>rw [List.flatMap_cons,List.length_append,ih,List.length_cons]; show 3+_=_; omega
theorem yG {vr:Value}{L:List Slot}{B i g cap:Nat}{s:Slot}{cs:List Value}{w:World}(z:Value)(h:(HbA vr L).p B cs w)(hi:L[i]?=some s)(hvr:vr=.slice (some ⟨g,0,none⟩) L.length cap) :
  B≤g∧∃ c:Array Value,w.heap[g]?=some (Obj.cells c 108 (0,0))∧i*3+1<c.size∧(HbA vr (L.set i { s with z:=z })).p B cs (w.setRow g (c.setIfInBounds (i*3+1) z)):=by
 obtain ⟨h1,h2,h3,h4⟩:=h
 have hlt:i<L.length:=(List.getElem?_eq_some_iff.1 hi).1
 rcases h2.2 with ⟨e,_⟩ | ⟨g',cap',cur,e,q2,q3,q4,q5,q6,q7⟩
 ·rw [hvr] at e; cases e
 ·rw [hvr] at e
  injection e with e1 e2 e3
  injection e1 with e1
  injection e1 with e1
  subst e1
  have hsz:i*3+1<cur.size:=by
   rw [q6]
   have:L.length*3≤cap'*3:=Nat.mul_le_mul_right 3 q4
   omega
  have hnew:(w.setRow g (cur.setIfInBounds (i*3+1) z)).heap[g]?=some (Obj.cells (cur.setIfInBounds (i*3+1) z) 108 (0,0)):=setRow_heap w g _ _ _ _ q3
  refine ⟨q2,cur,q3,hsz,h1,?_,fun t ht=>?_,fun j k t1 t2 hj hk hne g2 hg hg'=>?_⟩
  ·rw [List.length_set,uk hi]
   refine ⟨by rw [List.length_set,x7],.inr ⟨g,cap',_,?_,q2,hnew,q4,q5,by simp [q6],?_⟩⟩
   ·rw [hvr,e3]
   ·rw [Array.toList_setIfInBounds,List.take_set,q7,show 3*i+1=i*3+1 by omega]
  ·have hkeep:∀ t':Slot,t'.ok B w→t'.ok B (w.setRow g (cur.setIfInBounds (i*3+1) z)):=fun t' ht'=>ht'.keep fun g2 c2 hg2 h8=>by
    rw [setRow_other _ _ _ _ (fun e=>by subst e; rw [q3] at h8; injection h8 with h8; injection h8 with _ h8 _; revert h8; decide)]
    exact h8
   rcases List.mem_or_eq_of_mem_set ht with ht | rfl
   ·exact hkeep t (h3 t ht)
   ·exact hkeep _ (h3 s (List.mem_of_getElem? hi))
  ·have hsame:∀ (j:Nat) t,(L.set i { s with z:=z })[j]?=some t→∃ t0,L[j]?=some t0∧∀ g,t.has g→t0.has g:=fun j t hj=>by
    by_cases e:j=i
    ·subst e
     rw [List.getElem?_set_self hlt] at hj
     injection hj with hj
     subst hj
     exact ⟨s,hi,fun g h=>h⟩
    ·rw [List.getElem?_set_ne (fun e2=>e e2.symm)] at hj
     exact ⟨t,hj,fun g h=>h⟩
   obtain ⟨t3,r1,r2⟩:=hsame j t1 hj
   obtain ⟨t4,r3,r4⟩:=hsame k t2 hk
   exact h4 j k t3 t4 r1 r3 hne g2 (r2 g2 hg) (r4 g2 hg')
abbrev mkN (n:Nat):Nat:=100000+n
def EqS (v:Value):As where
 n:=1
 ag:=false
 p _ cs _:=cs=[v]∧v.oneCell'=true
 deps:=[]
 len:=by rintro B cs w ⟨rfl,_⟩; rfl
 one:=by rintro B cs w ⟨rfl,h⟩ c hc; simp at hc; subst hc; exact h
 ag1:=fun _=>rfl
 cg:=fun _ _ _ _ _ h=>h
 wr:=fun _ _ _ _ _ _ _ _ _ _ _ _ h=>h
theorem jg {v u:Value}{B:Nat}{w:World}(h:(EqS v).va.p B u w):u=v:=by
 obtain ⟨cs,⟨rfl,_⟩,h2⟩:=h
 exact h2
theorem lM {v:Value}:Wk (EqS v).va (EqV v):=fun _ _ _ h=>jg h
def BkA (vr:Value)(L:List Slot):As:=cat [NumA .i64 (L.length:Nat),HbA vr L,EqS (.slice none 0 0),EqS (.slice none 0 0),EqS (.slice none 0 0),EqS (.slice none 0 0),EqS (.slice none 0 0),EqS (.slice none 0 0),EqS (.slice none 0 0),EqS (.slice none 0 0),EqS (.slice none 0 0),EqS (.slice none 0 0),EqS (.slice none 0 0),EqS (.slice none 0 0),EqS (.slice none 0 0),EqS (.slice none 0 0),EqS (.slice none 0 0)]
def Slot.view (s:Slot):As:=cat [EqS s.v,EqS s.z,NumA .i64 (s.n:Nat)]
structure Slot.wf (s:Slot):Prop where
 rv:RowV s.v s.xs.length
 ox:okL s.xs
 oy:okL s.ys
 z1:s.z.oneCell'=true
 n1:s.n≤1000000
 lx:s.xs.length≤2000000000000
theorem RowV.one {v:Value}{n:Nat}(h:RowV v n):v.oneCell'=true:=by
 rcases h with ⟨rfl,_⟩ | ⟨g,cap,rfl,_⟩ <;> rfl
theorem qb {B:Nat}{w:World}:∀ {L:List Slot},(∀ s∈L,s.wf)→(cat (L.map Slot.view)).p B (L.flatMap Slot.cells) w
 | [],_=>⟨[],rfl,.nil⟩
 | s::L,h=>by
  obtain ⟨ps,e,hp⟩:=qb (B:=B) (w:=w) (L:=L) fun t ht=>h t (by simp [ht])
  refine ⟨s.cells::ps,by rw [List.flatMap_cons,e]; rfl,.cons ?_ hp⟩
  exact ⟨[[s.v],[s.z],[.int .i64 s.n]],rfl,.cons ⟨rfl,(h s (by simp)).rv.one⟩ (.cons ⟨rfl,(h s (by simp)).z1⟩ (.cons G .nil))⟩
theorem hb_sl {vr:Value}{L:List Slot}(h:∀ s∈L,s.wf):Wk (HbA vr L).va (SlA 108 [] (L.map Slot.view)).va:=fun B v w ⟨cs,⟨e,h2,_⟩,hv⟩=>by
 subst e
 have hv':v=vr:=hv
 subst hv'
 refine eP (b:=B) (m:=3) B v w ⟨fun A hA=>?_,fun A hA T hT=>?_,L.flatMap Slot.cells,qb h,?_⟩
 ·obtain ⟨s,_,rfl⟩:=List.mem_map.1 hA; rfl
 ·obtain ⟨s,_,rfl⟩:=List.mem_map.1 hA; cases (show T∈([]:List TypeId) from hT)
 ·rw [List.length_map]; exact h2
theorem sq {B:Nat}{w:World}{v:Value}{xs:List Nat}(h:Rdy B w v xs)(ok:okL xs):(MgA xs).va.p B v w:=by
 rcases h.1 with ⟨rfl,e⟩ | ⟨g,cap,rfl,h1,h2⟩
 ·exact dW ⟨ok,by omega,Nat.zero_le _,fun h=>by omega⟩ e.symm
 ·obtain ⟨_,c,h3,h4⟩:=h.2 g rfl
  refine dW (Mag.own h3 ok h1 h2 fun j hj=>?_) rfl
  have h5:=congrArg (fun l=>l[j]?) h4
  simp only [List.getElem?_take,hj,if_true,List.getElem?_map,List.getElem?_eq_getElem hj,Option.map_some] at h5
  rw [← Array.getElem?_toList]
  exact h5
theorem sW {B:Nat}{w:World}{v:Value}{ys:List Nat}(h:w.ownsRow B U32 1 v ys.length (ys.map lv)):Rdy B w v ys:=by
 rcases h.2 with ⟨rfl,e⟩ | ⟨g,cap,cur,rfl,h1,h2,h3,h4,h5,h6⟩
 ·exact ⟨.inl ⟨rfl,e⟩,fun g hg=>by cases hg⟩
 ·refine ⟨.inr ⟨g,cap,rfl,h3,h4⟩,fun g' hg=>?_⟩
  have:g=g':=by simpa [Value.ownBlock] using hg
  subst this
  rw [Nat.mul_one] at h6
  exact ⟨h1,cur,h2,h6⟩
section
open Rg
variable {P:Program} {Q:Exit→Act→World→Prop} {R:Rg} {B i:Nat} {w0:Bs}
end
theorem rk {n:Nat}(h:n≤1000000):IntKind.i64.wrap (100000+(n:Int))=((mkN n:Nat):Int):=by
 rw [wi64 zo zo]
 simp
theorem oA {n:Nat}(h:n≤1000000):IntKind.u32.wrap ((mkN n:Nat):Int)=((mkN n:Nat):Int):=wu32 (by unfold mkN; omega)
theorem yr (n0:Nat)(hn:n0≤1000000):Cn Tryz.prog 138 [In (n0:Nat)] ((NumA .u32 (mkN n0:Nat)).va):=by
 refine Cn.intro Tryz.func138 G zk nq (fun B w0 a U=>?_)
 have U:=zn [(0,In (n0:Nat))] [] U
 refine wp_seq<|zh [.v 2 _] [.g 0,.o 0] U (zv G (a9 (aF 0 G)) o0) (zz [(0,_),(2,_)] [] fun a w U=>?_)
 refine zt<|zh [.v 3 _,.v 4 _,.v 5 _,.v 2 _] [.o 3] U (zM 0 G (zv G (aR a8 (vq 0 G) (rk hn)) (zv G (aE .u32 zk zk (vq 1 G) (oA hn)) (zA 2 G o0)))) (zz [(2,_)] [] fun a w U=>?_)
 exact a7<|wp_ret<|am G U (zm 0 G)
theorem pq (x0 n0:Nat)(hn:n0≤1000000):Cn Tryz.prog 154 [(NumA .u32 (x0:Nat)).va,In (n0:Nat)] (Bo (((x0:Nat):Int)==((mkN n0:Nat):Int))):=by
 refine Cn.intro Tryz.func154 G zk nq (fun B w0 a U=>?_)
 have U:=zn [(0,(NumA .u32 (x0:Nat)).va),(1,In (n0:Nat))] [] U
 refine wp_seq<|zh [.v 4 _] [.g 0,.g 1,.o 0] U (zv G (a9 aK) o0) (zz [(0,_),(1,_),(4,_)] [] fun a w U=>?_)
 refine zt<|zh [.v 5 _,.v 6 _,.v 7 _,.v 8 _,.v 9 _,.v 4 _] [.o 5] U (zM 0 G (zM 1 G (zv G (aR a8 (vq 1 G) (rk hn)) (zv G (aE .u32 zk zk (vq 2 G) (oA hn)) (zv G (bD (vq 0 G) (vq 3 G)) (zA 4 G o0)))))) (zz [(4,_)] [] fun a w U=>?_)
 exact a7<|wp_ret<|am G U (zm 0 G)
theorem ib:Str Tryz.prog 108 [EqS (.slice none 0 0),EqS (.slice none 0 0),NumA .i64 0] :=
 Str.of (z:=.agg #[.slice none 0 0,.slice none 0 0,.int .i64 0]) zk Tryz.underlying108 zk fun B w=>⟨[[.slice none 0 0],[.slice none 0 0],[.int .i64 0]],rfl,.cons ⟨rfl,rfl⟩ (.cons ⟨rfl,rfl⟩ (.cons rfl .nil))⟩
def Slot.fil (s:Slot)(k:Nat):Slot:={ s with xs:=List.replicate k (mkN s.n)++s.xs.drop k,ys:=List.replicate k (mkN s.n)++s.xs.drop k }
theorem gS {s:Slot}{k:Nat}(h:k≤s.xs.length):(s.fil k).xs.length=s.xs.length:=by
 show (List.replicate k (mkN s.n)++s.xs.drop k).length=_
 rw [List.length_append,List.length_replicate,List.length_drop]; omega
theorem fil_0 {s:Slot}(h:s.ys=s.xs):s.fil 0=s:=by
 obtain ⟨v,xs,u,ys,z,n⟩:=s
 have h:ys=xs:=h
 subst h
 rfl
theorem C4 {s:Slot}{k:Nat}(h:k<s.xs.length):(s.fil k).xs.set k (mkN s.n)=(s.fil (k+1)).xs:=by
 show (List.replicate k (mkN s.n)++s.xs.drop k).set k (mkN s.n)=List.replicate (k+1) (mkN s.n)++s.xs.drop (k+1)
 rw [List.set_append_right _ _ (by simp),List.length_replicate,Nat.sub_self,List.drop_eq_getElem_cons h,List.set_cons_zero,List.replicate_succ',List.append_assoc]
 rfl
structure Slot.new (s:Slot):Prop extends s.wf where
 uv:s.u=s.v
 yx:s.ys=s.xs
theorem Bf {n k:Nat}(h:n≤1000000):okL (List.replicate k (mkN n)):=fun x hx=>by
 rw [(List.mem_replicate.1 hx).2]; unfold mkN; omega
theorem ut {s:Slot}{k:Nat}(h:s.wf):okL (s.fil k).xs:=fun x hx=>by
 rcases List.mem_append.1 hx with hx | hx
 ·exact Bf h.n1 x hx
 ·exact h.ox x (List.mem_of_mem_drop hx)
theorem ur {s:Slot}{k:Nat}(h:s.wf)(hk:k≤s.xs.length):(s.fil k).wf:=⟨by rw [gS hk]; exact h.rv,ut h,ut h,h.z1,h.n1,by rw [gS hk]; exact h.lx⟩
def fl (L:List Slot)(i k:Nat):List Slot:=L.mapIdx fun j s=>if j<i then s.fil s.xs.length else if j=i then s.fil k else s
theorem ul {L:List Slot}{i k:Nat}:(fl L i k).length=L.length:=by unfold fl; simp
theorem x9 {L:List Slot}{i k:Nat}{s:Slot}(h:L[i]?=some s):(fl L i k)[i]?=some (s.fil k):=by
 unfold fl
 rw [List.getElem?_mapIdx,h]
 simp
theorem C1 {L:List Slot}{i k:Nat}{s:Slot}(h:L[i]?=some s)(hk:k<s.xs.length):(fl L i k).set i { s.fil k with xs:=(s.fil k).xs.set k (mkN s.n),ys:=(s.fil k).xs.set k (mkN s.n) }=fl L i (k+1):=by
 apply List.ext_getElem?
 intro j
 by_cases e:j=i
 ·subst e
  rw [List.getElem?_set_self (by rw [ul]; exact (List.getElem?_eq_some_iff.1 h).1),x9 h,C4 hk]
  rfl
 ·rw [List.getElem?_set_ne (fun e2=>e e2.symm)]
  unfold fl
  rw [List.getElem?_mapIdx,List.getElem?_mapIdx]
  simp [e]
theorem C2 {L:List Slot}{i:Nat}{s:Slot}(h:L[i]?=some s)(hn:∀ s∈L,s.new):fl L i s.xs.length=fl L (i+1) 0:=by
 apply List.ext_getElem?
 intro j
 unfold fl
 rw [List.getElem?_mapIdx,List.getElem?_mapIdx]
 cases hj:L[j]? with
 | none=>rfl
 | some t =>
  simp only [Option.map_some]
  by_cases e:j=i
  ·subst e
   rw [h] at hj
   injection hj with hj
   subst hj
   simp
  ·by_cases e1:j<i
   ·rw [if_pos e1,if_pos zo]
   ·rw [if_neg e1,if_neg e,if_neg zo]
    by_cases e2:j=i+1
    ·rw [if_pos e2,fil_0 (hn t (List.mem_of_getElem? hj)).yx]
    ·rw [if_neg e2]
theorem C0 {L:List Slot}(hn:∀ s∈L,s.new):fl L 0 0=L:=by
 apply List.ext_getElem?
 intro j
 unfold fl
 rw [List.getElem?_mapIdx]
 cases hj:L[j]? with
 | none=>rfl
 | some t =>
  simp only [Option.map_some,Nat.not_lt_zero,if_false]
  by_cases e:j=0
  ·rw [if_pos e,fil_0 (hn t (List.mem_of_getElem? hj)).yx]
  ·rw [if_neg e]
theorem fl_end {L:List Slot}{k:Nat}:fl L L.length k=L.map fun s=>s.fil s.xs.length:=by
 apply List.ext_getElem?
 intro j
 unfold fl
 rw [List.getElem?_mapIdx,List.getElem?_map]
 cases hj:L[j]? with
 | none=>rfl
 | some t =>
  have:=(List.getElem?_eq_some_iff.1 hj).1
  simp only [Option.map_some]
  rw [if_pos this]
theorem fl_wf {L:List Slot}{i k:Nat}(hn:∀ s∈L,s.new)(hk:∀ s,L[i]?=some s→k≤s.xs.length):∀ s∈fl L i k,s.wf:=fun s hs=>by
 obtain ⟨j,hj⟩:=List.getElem?_of_mem hs
 unfold fl at hj
 rw [List.getElem?_mapIdx] at hj
 cases ht:L[j]? with
 | none=>rw [ht] at hj; cases hj
 | some t =>
  rw [ht] at hj
  have hw:=(hn t (List.mem_of_getElem? ht)).towf
  simp only [Option.map_some,Option.some.injEq] at hj
  split at hj
  ·subst hj; exact ur hw (Nat.le_refl _)
  ·split at hj
   ·rename_i e; subst e; subst hj; exact ur hw (hk t ht)
   ·subst hj; exact hw
theorem nk {L:List Slot}{i:Nat}{s:Slot}(h:L[i]?=some s):(L.map Slot.view)[i]?=some s.view:=by rw [List.getElem?_map,h]; rfl
theorem rm {L:List Slot}:∀ A∈L.map Slot.view,A.n=3:=fun A hA=>by
 obtain ⟨s,_,rfl⟩:=List.mem_map.1 hA; rfl
theorem RowV.row {v:Value}{n k:Nat}(h:RowV v n)(hk:k<n):∃ g cap,v=.slice (some ⟨g,0,none⟩) n cap:=by
 rcases h with ⟨_,e⟩ | ⟨g,cap,h,_⟩
 ·omega
 ·exact ⟨g,cap,h⟩
theorem bq {P:Program}{ops:Array Oper}{Q:Exit→Act→World→Prop}{a:Act}{w:World}(h:Q .normal a w):wpOps P ops Q [] a w:=h
theorem d8 {P:Program}{ops:Array Oper}{Q:Exit→Act→World→Prop}{a:Act}{w:World}(h:Q .normal a w):wpOps P ops Q [] (a.put none undef) w:=h
theorem zf {k:IntKind}{n:Int}:Wk (NumA k n).va (EqV (.int k n)):=fun _ _ _ h=>bj h
theorem xE:∃ it z,Tryz.prog.info? 109=some it∧it.zero=some z∧it.size=1∧it.bytes=4∧z.cells.size=1:=by
 have h:((Tryz.prog.info? 109).bind fun it=>it.zero.map fun z=>(it.size,it.bytes,z.cells.size))=some (1,4,1):=by kernel_rfl
 cases hi:Tryz.prog.info? 109 with
 | none=>rw [hi] at h; simp at h
 | some it =>
  rw [hi] at h
  cases hz:it.zero with
  | none=>simp [hz] at h
  | some z =>
   simp [hz] at h
   exact ⟨it,z,rfl,hz,h.1,h.2.1,h.2.2⟩
def Slot.ext (s:Slot)(u:Value)(k:Nat):Slot:={ s with u:=u,ys:=List.replicate (s.xs.length+k) (mkN s.n) }
structure Slot.full (s:Slot):Prop extends s.wf where
 uv:s.u=s.v
 yx:s.ys=s.xs
 xm:s.xs=List.replicate s.xs.length (mkN s.n)
theorem ext_0 {s:Slot}(h:s.full):s.ext s.v 0=s:=by
 have h1:=h.uv
 have h2:=h.yx
 have h3:=h.xm
 obtain ⟨v,xs,u,ys,z,n⟩:=s
 simp only at h1 h2 h3
 subst h1 h2
 show Slot.mk u ys u (List.replicate (ys.length+0) (mkN n)) z n=_
 rw [Nat.add_zero,← h3]
structure Grew (s t:Slot):Prop where
 v:t.v=s.v
 xs:t.xs=s.xs
 n:t.n=s.n
 z:t.z=t.u
 ys:t.ys=List.replicate (s.xs.length+70) (mkN s.n)
def Gr (L M:List Slot)(i:Nat):Prop:=M.length=L.length∧∀ (j:Nat) s,L[j]?=some s→∃ t,M[j]?=some t∧(j<i→Grew s t)∧(i≤j→t=s)
theorem gr_0 {L:List Slot}:Gr L L 0:=⟨rfl,fun j s h=>⟨s,h,fun h=>absurd h (Nat.not_lt_zero _),fun _=>rfl⟩⟩
theorem gr_at {L M:List Slot}{i:Nat}{s:Slot}(h:Gr L M i)(hs:L[i]?=some s):M[i]?=some s:=by
 obtain ⟨t,h1,_,h2⟩:=h.2 i s hs
 rw [h1,h2 (Nat.le_refl _)]
theorem BQ {L M:List Slot}{i:Nat}{s:Slot}{u:Value}(h:Gr L M i)(hs:L[i]?=some s):Gr L (M.set i { s.ext u 70 with z:=u }) (i+1):=by
 refine ⟨by rw [List.length_set]; exact h.1,fun j s' hj=>?_⟩
 by_cases e:j=i
 ·subst e
  rw [hs] at hj
  injection hj with hj
  subst hj
  refine ⟨_,List.getElem?_set_self (by rw [h.1]; exact (List.getElem?_eq_some_iff.1 hs).1),fun _=>⟨rfl,rfl,rfl,rfl,rfl⟩,fun h=>by omega⟩
 ·obtain ⟨t,h1,h2,h3⟩:=h.2 j s' hj
  exact ⟨t,by rw [List.getElem?_set_ne (fun e2=>e e2.symm)]; exact h1,fun h=>h2 zo,fun h=>h3 zo⟩
theorem gr_mem {L M:List Slot}{i:Nat}(h:Gr L M i){t:Slot}(ht:t∈M):∃ s∈L,Grew s t∨t=s:=by
 obtain ⟨j,hj⟩:=List.getElem?_of_mem ht
 have hlt:=(List.getElem?_eq_some_iff.1 hj).1
 rw [h.1] at hlt
 obtain ⟨t',h1,h2,h3⟩:=h.2 j _ (List.getElem?_eq_getElem hlt)
 rw [hj] at h1
 injection h1 with h1
 subst h1
 refine ⟨_,List.getElem_mem hlt,?_⟩
 by_cases e:j<i
 ·exact .inl (h2 e)
 ·exact .inr (h3 zo)
def One1 (M:List Slot):Prop:=∀ s∈M,s.v.oneCell'=true∧s.z.oneCell'=true
theorem nf {B:Nat}{w:World}:∀ {L:List Slot},One1 L→(cat (L.map Slot.view)).p B (L.flatMap Slot.cells) w
 | [],_=>⟨[],rfl,.nil⟩
 | s::L,h=>by
  obtain ⟨ps,e,hp⟩:=nf (B:=B) (w:=w) (L:=L) fun t ht=>h t (by simp [ht])
  refine ⟨s.cells::ps,by rw [List.flatMap_cons,e]; rfl,.cons ?_ hp⟩
  exact ⟨[[s.v],[s.z],[.int .i64 s.n]],rfl,.cons ⟨rfl,(h s (by simp)).1⟩ (.cons ⟨rfl,(h s (by simp)).2⟩ (.cons G .nil))⟩
theorem pu {vr:Value}{L:List Slot}(h:One1 L):Wk (HbA vr L).va (SlA 108 [] (L.map Slot.view)).va:=fun B v w ⟨cs,⟨e,h2,_⟩,hv⟩=>by
 subst e
 have hv':v=vr:=hv
 subst hv'
 refine eP (b:=B) (m:=3) B v w ⟨fun A hA=>?_,fun A hA T hT=>?_,L.flatMap Slot.cells,nf h,?_⟩
 ·obtain ⟨s,_,rfl⟩:=List.mem_map.1 hA; rfl
 ·obtain ⟨s,_,rfl⟩:=List.mem_map.1 hA; cases (show T∈([]:List TypeId) from hT)
 ·rw [List.length_map]; exact h2
theorem BJ {vr:Value}{L:List Slot}:Wk (HbA vr L).va (EqV vr):=fun B v w ⟨cs,⟨e,_⟩,hv⟩=>by
 subst e
 exact hv
theorem cT {E m n B:Nat}{v:Value}{xs:List Value}{w:World}(h:w.ownsRow B E m v n xs):v.oneCell'=true∧RowV v n:=by
 rcases h.2 with ⟨rfl,e⟩ | ⟨g,cap,cur,rfl,_,_,h3,h4,_⟩
 ·exact ⟨rfl,.inl ⟨rfl,e⟩⟩
 ·exact ⟨rfl,.inr ⟨g,cap,rfl,h3,h4⟩⟩
theorem gr_z {L M:List Slot}{i:Nat}(h:Gr L M i)(hf:∀ s∈L,s.full):∀ t∈M,t.z.oneCell'=true∨t.z=t.u:=fun t ht=>by
 obtain ⟨s,hs,h1 | h1⟩:=gr_mem h ht
 ·exact .inr h1.z
 ·subst h1; exact .inl (hf t hs).z1
theorem RowV.cell {v:Value}{n:Nat}(h:RowV v n):v.cells = #[v]:=by
 rcases h with ⟨rfl,_⟩ | ⟨g,cap,rfl,_⟩ <;> rfl
theorem okm {n:Nat}(h:n≤1000000):okL [mkN n]:=fun y hy=>by
 have:y=mkN n:=by simpa using hy
 subst this
 unfold mkN
 omega
theorem D3 {l:List Nat}:Wk (MgA l).va (SlA U32 [] (l.map fun (x:Nat)=>NumA .u32 (x:Int))).va:=fun _ _ _ h=>(dH h).2
theorem s0 {M:List Slot}{i:Nat}{x y:Slot}:(M.set i x).set i y=M.set i y:=by simp
theorem vO {M:List Slot}{i:Nat}{x:Slot}(h:M[i]?=some x):M.set i x=M:=by
 obtain ⟨h1,h2⟩:=List.getElem?_eq_some_iff.1 h
 subst h2
 simp
structure Slot.done (t:Slot):Prop where
 zu:t.z=t.u
 xm:t.xs=List.replicate t.xs.length (mkN t.n)
 ym:t.ys=List.replicate (t.xs.length+70) (mkN t.n)
 n1:t.n≤1000000
 lx:t.xs.length≤2000000000000
theorem BR {L M:List Slot}(h:Gr L M L.length)(hf:∀ s∈L,s.full):∀ t∈M,t.done:=fun t ht=>by
 obtain ⟨j,hj⟩:=List.getElem?_of_mem ht
 have hlt:=(List.getElem?_eq_some_iff.1 hj).1
 rw [h.1] at hlt
 obtain ⟨t',h1,h2,_⟩:=h.2 j _ (List.getElem?_eq_getElem hlt)
 rw [hj] at h1
 injection h1 with h1
 subst h1
 have hG:=h2 hlt
 have hs:=hf _ (List.getElem_mem hlt)
 refine ⟨hG.z,?_,?_,?_,?_⟩
 ·rw [hG.xs,hG.n]; exact hs.xm
 ·rw [hG.xs,hG.n]; exact hG.ys
 ·rw [hG.n]; exact hs.n1
 ·rw [hG.xs]; exact hs.lx
theorem lE {t:Slot}(h:t.done):t.ys.length=t.xs.length+70:=by rw [h.ym,List.length_replicate]
theorem uJ {t:Slot}(h:t.done):okL t.xs:=h.xm▸Bf h.n1
theorem uI {t:Slot}(h:t.done):okL t.ys:=h.ym▸Bf h.n1
theorem Cq {t:Slot}(h:t.done){k:Nat}(hk:k<t.xs.length):t.xs[k]=mkN t.n:=by
 have h1:=h.xm
 have h2:t.xs[k]?=(List.replicate t.xs.length (mkN t.n))[k]?:=congrArg (fun l=>l[k]?) h1
 rw [List.getElem?_eq_getElem hk,List.getElem?_replicate,if_pos hk] at h2
 injection h2
theorem Cp {t:Slot}(h:t.done){k:Nat}(hk:k<t.ys.length):t.ys[k]=mkN t.n:=by
 have h2:t.ys[k]?=(List.replicate (t.xs.length+70) (mkN t.n))[k]?:=congrArg (fun l=>l[k]?) h.ym
 rw [List.getElem?_eq_getElem hk,List.getElem?_replicate,if_pos (by rw [← lE h]; exact hk)] at h2
 injection h2
theorem Bp {t:Slot}(h:t.done){k:Nat}(hk:k<t.ys.length):((!(((t.ys[k]:Nat):Int)==((mkN t.n:Nat):Int))) || (decide ((k:Int)<(t.xs.length:Int))&&(!(((t.xs.getD k 0:Nat):Int)==((mkN t.n:Nat):Int)))))=false:=by
 rw [Cp h hk,beq_self_eq_true,Bool.not_true,Bool.false_or]
 by_cases h2:k<t.xs.length
 ·rw [List.getD_eq_getElem?_getD,List.getElem?_eq_getElem h2,Option.getD_some,Cq h h2,beq_self_eq_true,Bool.not_true,Bool.and_false]
 ·rw [decide_eq_false zo,Bool.false_and]
section
open Rg
variable {P:Program} {Q:Exit→Act→World→Prop} {B N:Nat} {w0:Bs} {Γ:List (Nat × VA)} {Λ:List Lc} {a:Act} {w:World}
def lesA (Λ:List Lc)(d n:Nat):List Le:=(Λ.map fun l=>⟨l.s,l.T,l.H,none,l.A,none⟩)++[⟨d,999999,ptrH,some n,OneC,some (n+1,OneC)⟩]
theorem iw {id:Nat}{ops:Array Oper}{sp:List Sp}(n m d:Nat)(src:List Src)
  (h:St B w0 N Γ Λ a w) (hob:Obs P Q ⟨ops,N,Γ,lesA Λ d n,sp,fun i=>List.range i⟩ B w0 0 n) (hsz:ops.size=n+m) (hk:Rg.chk ⟨ops,N,Γ,lesA Λ d n,sp,fun i=>List.range i⟩=true)
  (hsrc:src.all (fun s=>match s with | .g k=>(match Γ[k]? with | some x=>Rg.outG ⟨ops,N,Γ,lesA Λ d n,sp,fun i=>List.range i⟩ x.1 | none=>false) | .o i=>decide (i<n))=true)
  (hQ:∀ a' w',St B w0 N (src.filterMap (takeS ⟨ops,N,Γ,lesA Λ d n,sp,fun i=>List.range i⟩)) Λ a' w'→wpOps P ops Q (List.range' n m) a' w'):(Code.region id ops false).wp P Q a w:=by
 refine Rg.linK (R:=⟨ops,N,Γ,lesA Λ d n,sp,fun i=>List.range i⟩) (m:=m) hsz G hk h (fun y hy hcr=>?_) (fun i hi=>hob.all i zo zo) fun a1 w1 hinv=>?_
 ·rcases List.mem_append.1 hy with hy | hy
  ·obtain ⟨l,hl,rfl⟩:=List.mem_map.1 hy
   exact hl
  ·obtain rfl:=List.mem_singleton.1 hy
   cases hcr
 ·exact hQ a1 w1 (gR (fun l' hl'=>⟨none,List.mem_append.2 (.inl (List.mem_map.2 ⟨l',hl',rfl⟩))⟩) (fun y hy i A' h1=>by
   rcases List.mem_append.1 hy with hy | hy
   ·obtain ⟨l,hl,rfl⟩:=List.mem_map.1 hy
    cases h1
   ·obtain rfl:=List.mem_singleton.1 hy
    injection h1 with h1
    injection h1 with h1 _
    omega) hinv src hsrc)
end
section
open Rg
variable {P:Program} {Q:Exit→Act→World→Prop} {R:Rg} {B i:Nat} {w0:Bs}
theorem bp {x:Operand}{E:TypeId}{A:As}(hx:Has R B w0 i x (ElP E A)):Wv P Q R B w0 i (.nilCheck x) (ElP E A) :=
 bb fun d T ps af gd a w av=>by
  have h:=hx a w av
  obtain ⟨b,o,cs,hv,_⟩:=h
  exact ⟨a.eval x,w,by simp [execOp,hv],Grow.refl w,hx a w av⟩
end
theorem D4 {n:Nat}(h:n≤2000000000000):IntKind.i64.wrap ((n:Int)+70)=((n+70:Nat):Int):=by rw [wi64 zo zo]; rfl
theorem bn:Wk (EqS (.slice none 0 0)).va (SlA 0 [] []).va:=br lM pf
section
open Rg
variable {R:Rg} {B i:Nat} {w0:Bs}
end
abbrev filL (L:List Slot):List Slot:=L.map fun s=>s.fil s.xs.length
theorem xa {s:Slot}(h:s.new):(s.fil s.xs.length).full:=by
 have e:(s.fil s.xs.length).xs=List.replicate s.xs.length (mkN s.n):=by
  show List.replicate s.xs.length (mkN s.n)++s.xs.drop s.xs.length=_
  rw [List.drop_length,List.append_nil]
 exact ⟨ur h.towf (Nat.le_refl _),h.uv,rfl,by rw [e,List.length_replicate]; rfl⟩
theorem mS {L:List Slot}(h:∀ s∈L,s.new):∀ s∈filL L,s.full:=fun s hs=>by
 obtain ⟨t,ht,rfl⟩:=List.mem_map.1 hs
 exact xa (h t ht)
end Go.Proofs.YtmacliockgbdcaaGreatDoor
