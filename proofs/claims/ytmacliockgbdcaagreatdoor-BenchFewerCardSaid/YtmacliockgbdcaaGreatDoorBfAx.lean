import Derived.Test.YtmacliockgbdcaaGreatDoorBfAa
import Derived.Test.YtmacliockgbdcaaGreatDoorBfAc
import Derived.Test.YtmacliockgbdcaaGreatDoorBfAl
import Derived.Test.YtmacliockgbdcaaGreatDoorBfAr
import Derived.Test.YtmacliockgbdcaaGreatDoorBfAw
import Derived.ArgAppend
import Derived.Laws.AppendOwn
import Derived.Great.BuildSlice
import Derived.ProofKit
import Derived.OpenShut
import Derived.ChangeOld
import Derived.Below
import Derived.Deep.Slices
import Derived.SizedLaws
set_option linter.unusedVariables false
set_option linter.unusedSimpArgs false
set_option linter.unusedSectionVars false
set_option maxRecDepth 100000
namespace Go.Proofs.YtmacliockgbdcaaGreatDoor
open Go Go.RowKit
def SzV (h:Nat):VA where
 p _ _ w:=h≤w.heap.size
 deps:=[]
 cg:=fun _ _ _ _ hg hh=>Nat.le_trans hh hg.le
 wr:=fun _ _ _ _ _ _ _ _ _ _ _ hW hh=>by rw [hW.size]; exact hh
def GeA (h:Nat)(A:As):As where
 n:=A.n
 ag:=A.ag
 p B cs w:=A.p B cs w∧(cbl cs).Nodup∧∀ g∈cbl cs,h≤g
 deps:=A.deps
 len:=fun B cs w hp=>A.len B cs w hp.1
 one:=fun B cs w hp=>A.one B cs w hp.1
 ag1:=A.ag1
 cg:=fun B cs w w' hg hp=>⟨A.cg B cs w w' hg hp.1,hp.2⟩
 wr:=fun B cs w w' g c T fz h1 h2 h3 h4 hp=>⟨A.wr B cs w w' g c T fz h1 h2 h3 h4 hp.1,hp.2⟩
def IvA (lo hi:Nat)(A:As):As where
 n:=A.n
 ag:=A.ag
 p B cs w:=A.p B cs w∧(cbl cs).Nodup∧∀ g∈cbl cs,lo≤g∧g<hi
 deps:=A.deps
 len:=fun B cs w hp=>A.len B cs w hp.1
 one:=fun B cs w hp=>A.one B cs w hp.1
 ag1:=A.ag1
 cg:=fun B cs w w' hg hp=>⟨A.cg B cs w w' hg hp.1,hp.2⟩
 wr:=fun B cs w w' g c T fz h1 h2 h3 h4 hp=>⟨A.wr B cs w w' g c T fz h1 h2 h3 h4 hp.1,hp.2⟩
theorem ge_wk {h:Nat}{A:As}:WkA (GeA h A) A:=⟨rfl,rfl,fun _ _ _ hp=>hp.1⟩
theorem iv_wk {lo hi:Nat}{A:As}:WkA (IvA lo hi A) A:=⟨rfl,rfl,fun _ _ _ hp=>hp.1⟩
theorem tV {lo hi:Nat}{A A':As}(k:WkA A A'):WkA (IvA lo hi A) (IvA lo hi A'):=⟨k.1,k.2.1,fun _ _ _ hp=>⟨k.2.2 _ _ _ hp.1,hp.2⟩⟩
section
variable {B N:Nat} {w0:Bs} {Γ:List (Nat × VA)} {Λ:List Lc} {a:Act} {w:World}
theorem St.setG (h:St B w0 N Γ Λ a w){s:Nat}{A A':VA}(k:Nat)(hm:Γ[k]?=some (s,A))(hp:A.p B (a.eval (.tmp s)) w→A'.p B (a.eval (.tmp s)) w):St B w0 N (Γ.set k (s,A')) Λ a w :=
 ⟨h.lo,h.defers,h.size,h.base,fun x hx=>by
  rcases List.mem_or_eq_of_mem_set hx with hx | rfl
  ·exact h.vals x hx
  ·exact hp (h.vals _ (List.mem_of_getElem? hm)),h.locs,h.dis⟩
theorem St.getG (h:St B w0 N Γ Λ a w){s:Nat}{A:VA}(k:Nat)(hm:Γ[k]?=some (s,A)):A.p B (a.eval (.tmp s)) w:=h.vals _ (List.mem_of_getElem? hm)
theorem St.addSz (h:St B w0 N Γ Λ a w)(s:Nat):St B w0 N (Γ++[(s,SzV w.heap.size)]) Λ a w :=
 ⟨h.lo,h.defers,h.size,h.base,fun x hx=>by
  rcases List.mem_append.1 hx with hx | hx
  ·exact h.vals x hx
  ·obtain rfl:=List.mem_singleton.1 hx
   exact Nat.le_refl _,h.locs,h.dis⟩
theorem St.newSz (h:St B w0 N Γ Λ a w){s h0:Nat}(k:Nat)(hm:Γ[k]?=some (s,SzV h0)):h0≤w.heap.size∧St B w0 N (Γ.set k (s,SzV w.heap.size)) Λ a w:=⟨h.getG k hm,h.setG k hm fun _=>Nat.le_refl _⟩
theorem St.setL (h:St B w0 N Γ Λ a w){s:Nat}{T:TypeId}{H:Hd}{A A':As}(k:Nat)(hm:Λ[k]?=some ⟨s,T,H,A⟩)(hp:∀ cs,A.p B cs w→A'.p B cs w):St B w0 N Γ (Λ.set k ⟨s,T,H,A'⟩) a w:=by
 obtain ⟨g,cs,q1,q2,q3,q4⟩:=h.locs _ (List.mem_of_getElem? hm)
 have hs:∀ m∈Λ.set k ⟨s,T,H,A'⟩,∃ m0∈Λ,m0.s=m.s:=fun m hm'=>by
  rcases List.mem_or_eq_of_mem_set hm' with hm' | rfl
  ·exact ⟨m,hm',rfl⟩
  ·exact ⟨_,List.mem_of_getElem? hm,rfl⟩
 refine ⟨h.lo,h.defers,h.size,h.base,h.vals,fun l hl=>?_,fun m1 hm1 m2 hm2 hne=>?_⟩
 ·rcases List.mem_or_eq_of_mem_set hl with hl | rfl
  ·exact h.locs l hl
  ·exact ⟨g,cs,q1,q2,q3,hp cs q4⟩
 ·obtain ⟨m3,r1,r2⟩:=hs m1 hm1
  obtain ⟨m4,r3,r4⟩:=hs m2 hm2
  rw [← r2,← r4] at hne ⊢
  exact h.dis m3 r1 m4 r3 hne
end
section
open Rg
variable {P:Program} {Q:Exit→Act→World→Prop} {R:Rg} {B i:Nat} {w0:Bs}
theorem v4 {pre pre':List VA}{xs:List Operand}{a:Act}{w:World}(hup:All2 Up pre pre')(hx:HasL R B w0 i xs pre)(av:R.Av B w0 i a w):All2 (fun (A:VA) v=>A.p w.heap.size v w) pre' (xs.map a.eval):=by
 have hbw:=Av.bw av
 have h1:=hx.all av
 clear hx
 generalize xs.map a.eval=vs at h1
 induction hup generalizing vs with
 | nil=>cases h1; exact .nil
 | cons hu _ ih =>
  cases h1 with
  | cons h2 h3=>exact .cons (hu _ _ _ hbw h2) (ih _ h3)
theorem kM {f h s:Nat}{A:As}{pre pre':List VA}{xs:List Operand}{at_:Array TypeId}(hc:Cn P f pre' A.va)(hnew:NewA A)(hnod:NodA A)(hfree:FreeA A A)(hup:All2 Up pre pre')(hx:HasL R B w0 i xs pre)(hs:Has R B w0 i (.tmp s) (SzV h)):Wv P Q R B w0 i (.call ⟨.value (.func f),xs.toArray,at_⟩) (GeA h A).va:=by
 intro d T ps af gd a w av K hK
 obtain ⟨⟨fn,hf,hn,hb⟩,hcall⟩:=hc
 have hrun:(execOp a.eval ⟨some d,.call ⟨.value (.func f),xs.toArray,at_⟩,T,ps,af,gd⟩).run P w=.ok (.enter f (xs.map a.eval).toArray) w:=by
  simp only [execOp,resolve,Act.eval,Deferred.ofValue,Sem.run_bind,Sem.run_pure,Result.andThen_ok,invoke,bk hf hn hb]
  simp
 have hsz:h≤w.heap.size:=hs a w av
 unfold Oper.wp
 rw [hrun]
 refine (hcall w.heap.size w _ (Nat.le_refl _) (v4 hup hx av)).mono ?_
 rintro e w' ⟨v,rfl,⟨cs,hv,hsh⟩,hg⟩
 exact hK v w' hg ⟨cs,⟨hfree.2.2 _ _ _ _ (Av.bw av) hv,hnod _ _ _ hv,fun g hg'=>Nat.le_trans hsz (hnew _ _ _ hv g hg').1⟩,hsh⟩
end
structure IvK (k:KL) (I:List (Nat × Nat)):Prop where
 nd:(kbl k).Nodup
 iv:∀ g∈kbl k,∃ x∈I,x.1≤g∧g<x.2
theorem BD:IvK [] []:=⟨List.nodup_nil,fun g hg=>by cases hg⟩
theorem lf {k l:KL}{I:List (Nat × Nat)}{lo hi:Nat}(h:IvK k I)(nl:(kbl l).Nodup)(hl:∀ g∈kbl l,lo≤g∧g<hi)(hI:∀ x∈I,x.2≤lo∨hi≤x.1):IvK (k++l) (I++[(lo,hi)]):=by
 refine ⟨?_,fun g hg=>?_⟩
 ·rw [kbl_app]
  refine List.nodup_append.2 ⟨h.nd,nl,fun x hx y hy e=>?_⟩
  subst e
  obtain ⟨z,hz,q1,q2⟩:=h.iv x hx
  have q3:=hl x hy
  rcases hI z hz with q | q <;> omega
 ·rw [kbl_app] at hg
  rcases List.mem_append.1 hg with hg | hg
  ·obtain ⟨x,hx,q⟩:=h.iv g hg
   exact ⟨x,by simp [hx],q⟩
  ·exact ⟨(lo,hi),by simp,hl g hg⟩
theorem lg {lo hi:Nat}:∀ x∈([]:List (Nat × Nat)),x.2≤lo∨hi≤x.1:=fun x hx=>by cases hx
theorem gQ {I:List (Nat × Nat)}{lo hi l2 h2:Nat}(h:∀ x∈I,x.2≤lo∨hi≤x.1)(k:h2≤lo∨hi≤l2):∀ x∈I++[(l2,h2)],x.2≤lo∨hi≤x.1:=fun x hx=>by
 rcases List.mem_append.1 hx with hx | hx
 ·exact h x hx
 ·obtain rfl:=List.mem_singleton.1 hx
  exact k
def NewR (b:Nat)(E:TypeId)(l:List As):VA where
 p B v w:=∃ g ds,v=.slice (some ⟨g,0,none⟩) l.length l.length∧b≤g∧w.heap[g]?=some (.cells (List.toArray ds) E (0,0))∧(cat l).p B ds w
 deps:=E::(cat l).deps
 cg:=by
  rintro B v w w' hg ⟨g,ds,e,h1,h2,h3⟩
  exact ⟨g,ds,e,h1,hg.heap h2,(cat l).cg _ _ _ _ hg h3⟩
 wr:=by
  rintro B v w w' g c T fz hgc hT hB hW ⟨g0,ds,e,h1,h2,h3⟩
  simp only [List.mem_cons,not_or] at hT
  have n1:g0≠g:=by
   rintro rfl
   rw [hgc] at h2
   injection h2 with h2
   injection h2 with _ h2 _
   exact hT.1 h2
  exact ⟨g0,ds,e,h1,by rw [hW.block g0 n1]; exact h2,(cat l).wr _ _ _ _ _ _ _ _ hgc hT.2 hB hW h3⟩
theorem ng {l:List As}{m B:Nat}{ds:List Value}{w:World}(hm:∀ A∈l,A.n=m)(h:(cat l).p B ds w):∀ k,(cat (l.take k)).p B (ds.take (k*m)) w∧(cat (l.drop k)).p B (ds.drop (k*m)) w:=by
 obtain ⟨ps,rfl,h⟩:=h
 induction h with
 | nil=>intro k; simp only [List.take_nil,List.drop_nil,List.flatten_nil]; exact ⟨⟨[],rfl,.nil⟩,⟨[],rfl,.nil⟩⟩
 | @cons A c ls bs h1 h2 ih =>
  intro k
  cases k with
  | zero =>
   simp only [List.take_zero,Nat.zero_mul,List.drop_zero]
   exact ⟨⟨[],rfl,.nil⟩,⟨c::bs,rfl,.cons h1 h2⟩⟩
  | succ k =>
   obtain ⟨i1,i2⟩:=ih (fun A' hA=>hm A' (List.mem_cons_of_mem _ hA)) k
   have hl:c.length=m:=(A.len _ _ _ h1).trans (hm A (by simp))
   have e1:(c::bs).flatten.take ((k+1)*m)=c++bs.flatten.take (k*m):=by
    rw [List.flatten_cons,List.take_append,List.take_of_length_le (by rw [hl,Nat.add_mul]; omega),hl]
    congr 2
    rw [Nat.add_mul]
    omega
   have e2:(c::bs).flatten.drop ((k+1)*m)=bs.flatten.drop (k*m):=by
    rw [List.flatten_cons,List.drop_append,List.drop_of_length_le (by rw [hl,Nat.add_mul]; omega),List.nil_append,hl]
    congr 1
    rw [Nat.add_mul]
    omega
   rw [e1,e2,List.take_succ_cons,List.drop_succ_cons]
   refine ⟨?_,i2⟩
   obtain ⟨qs,e,hq⟩:=i1
   exact ⟨c::qs,by rw [List.flatten_cons,← e],.cons h1 hq⟩
section
variable {P:Program} {R:Rg} {Q:Exit→Act→World→Prop} {B i:Nat} {w0:Bs}
theorem oX {S E:TypeId}{l:List As}{m:Nat}{xs:List Operand}(hS:Sl P S E m)(hz:((P.info? E).bind (·.zero)).isSome=true)(hm:∀ A∈l,A.n=m)(hm0:0<m)(hl0:0<l.length)(hsmall:l.length*m≤16777216)
  (hx:All2 (fun (A:As) x=>Has R B w0 i x A.va) l xs) {ps':Array (Nat × Operand)} (hps:ps'.toList=(xs.zipIdx 0).map fun x=>(x.2,x.1)) {n:Nat} (hn:n=l.length):Wv P Q R B w0 i (.buildSlice S n ps') (NewR w0.w.heap.size E l) :=
 bb fun d T ps af gd a w av=>by
  subst hn
  obtain ⟨hs1,hs2⟩:=hS
  cases hi:P.info? E with
  | none=>rw [hi] at hs2; simp at hs2
  | some it =>
   rw [hi] at hs2 hz
   have hsz:it.size=m:=by simpa using hs2
   obtain ⟨z,hzz⟩:=Option.isSome_iff_exists.1 hz
   simp only [Option.bind_some] at hzz
   have hvs:All2 (fun (A:As) v=>A.va.p B v w) l (xs.map a.eval):=by
    clear hps hm hl0 hsmall
    induction hx with
    | nil=>exact .nil
    | cons h _ ih=>exact .cons (h a w av) ih
   have hlen:=hvs.length
   have hvn:∀ v∈xs.map a.eval,v.cells.size=m:=by
    intro v hv
    obtain ⟨k,hk⟩:=List.getElem?_of_mem hv
    have hkl:k<l.length:=by rw [hlen]; exact (List.getElem?_eq_some_iff.1 hk).1
    obtain ⟨v',hv',cs,hp,he⟩:=hvs.get (List.getElem?_eq_getElem hkl)
    rw [hk] at hv'
    injection hv' with hv'
    subst hv'
    rw [he,As.cells_shape _ hp]
    have:=As.len _ _ _ _ hp
    simp [this]
    exact hm _ (by simp)
   have hf:=Great.fill_whole hm0 (xs.map a.eval) ((Array.range (l.length*m)).map (z.cells[· % z.cells.size]!)) hvn (by simp [hlen])
   have hrun:=run_buildSlice (P:=P) w S E l.length (ps'.map fun x=>(x.1,a.eval x.2)) ((xs.map a.eval).flatMap fun v=>v.cells.toList).toArray it z hs1 hi hzz (by rw [hsz]; omega) (by rw [hsz]; exact Nat.ne_of_gt (Nat.mul_pos hl0 hm0)) (by
    rw [hsz,← hf]
    congr 1
    rw [Array.toList_map,hps]
    simp [List.zipIdx_map,List.map_map,Function.comp_def])
   refine ⟨.slice (some ⟨w.heap.size,0,none⟩) l.length l.length,w.alloc (.cells ((xs.map a.eval).flatMap fun v=>v.cells.toList).toArray E),?_,Grow.alloc _ _,w.heap.size,_,rfl,av.base.size,heap_alloc_new w _,(cat l).grow _ _ _ _ (Grow.alloc _ _) (kh hvs)⟩
   simp [execOp,hrun]
end
def TwK (g c:Nat)(E:TypeId)(m:Nat)(D:List TypeId)(l:List As)(x:As):VA where
 p B v w:=v=.slice (some ⟨g,0,none⟩) l.length c∧B≤g∧(OwnR 0 E m D (l++[x])).p B (.slice (some ⟨g,0,none⟩) (l.length+1) c) w
 deps:=E::D
 cg:=fun B v w w' hg h=>⟨h.1,h.2.1,(OwnR 0 E m D (l++[x])).cg _ _ _ _ hg h.2.2⟩
 wr:=fun B v w w' g c T fz h1 h2 h3 h4 h=>⟨h.1,h.2.1,(OwnR 0 E m D (l++[x])).wr _ _ _ _ _ _ _ _ h1 h2 h3 h4 h.2.2⟩
def TwS (E:TypeId)(m:Nat)(D:List TypeId)(l:List As)(x:As):VA where
 p B v w:=∃ g c,(TwK g c E m D l x).p B v w
 deps:=E::D
 cg:=fun B v w w' hg ⟨g,c,h⟩=>⟨g,c,(TwK g c E m D l x).cg _ _ _ _ hg h⟩
 wr:=fun B v w w' g c T fz h1 h2 h3 h4 ⟨g',c',h⟩=>⟨g',c',(TwK g' c' E m D l x).wr _ _ _ _ _ _ _ _ h1 h2 h3 h4 h⟩
theorem pE {l:List As}{B B':Nat}{w:World}(hB:B'≤B)(hl:∀ A∈l,FreeA A A){ds:List Value}(h:(cat l).p B ds w):(cat l).p B' ds w:=by
 obtain ⟨ps,rfl,h⟩:=h
 refine ⟨ps,rfl,?_⟩
 induction h with
 | nil=>exact .nil
 | cons h _ ih=>exact .cons ((hl _ (by simp)).2.2 _ _ _ _ hB h) (ih fun A hA=>hl A (by simp [hA]))
theorem wY {E:TypeId}{m:Nat}{D:List TypeId}{l:List As}{x:As}(hl:∀ A∈l++[x],FreeA A A):Free (TwS E m D l x) (TwS E m D l x):=fun B B' v w hB ⟨g,c,h1,h2,h3,h4,ds,h5,h6⟩=>⟨g,c,h1,Nat.le_trans hB h2,h3,h4,ds,pE hB hl h5,h6⟩
theorem St.exK {B N:Nat}{w0:Bs}{Γ:List (Nat × VA)}{Λ:List Lc}{a:Act}{w:World}(h:St B w0 N Γ Λ a w){s:Nat}{E:TypeId}{m:Nat}{D:List TypeId}{l:List As}{x:As}(k:Nat)(hm:Γ[k]?=some (s,TwS E m D l x)):∃ g c,St B w0 N (Γ.set k (s,TwK g c E m D l x)) Λ a w:=by
 obtain ⟨g,c,hv⟩:=h.vals _ (List.mem_of_getElem? hm)
 exact ⟨g,c,h.lo,h.defers,h.size,h.base,fun y hy=>by
  rcases List.mem_or_eq_of_mem_set hy with hy | rfl
  ·exact h.vals y hy
  ·exact hv,h.locs,h.dis⟩
theorem ry {g c:Nat}{E:TypeId}{m:Nat}{D:List TypeId}{l:List As}{x:As}{B:Nat}{v:Value}{w:World}(h:(TwK g c E m D l x).p B v w):l.length+1≤c∧c≤maxLen:=by
 obtain ⟨_,_,_,_,ds,_,_,h6⟩:=h
 rcases h6 with ⟨h6,_⟩ | ⟨g',cap,cur,e1,e2,e3,e4,e5,e6,e7⟩
 ·cases h6
 ·injection e1 with _ _ e1
  rw [List.length_append] at e4
  exact ⟨by rw [e1]; exact e4,by rw [e1]; exact e5⟩
theorem own_w {b:Nat}{E:TypeId}{m:Nat}{D:List TypeId}{l:List As}{B:Nat}{v:Value}{w:World}(h:(OwnR b E m D l).p B v w):(SlA E D l).va.p B v w:=eP _ _ _ h
theorem rx {g c:Nat}{E:TypeId}{m:Nat}{D:List TypeId}{l:List As}{x:As}:Wk (TwK g c E m D l x) (SlA E D l).va:=fun B v w h=>by
 obtain ⟨h1,h2,h3,h4,ds,h5,h6,h7⟩:=h
 rcases h7 with ⟨h7,_⟩ | ⟨g',cap,cur,e1,e2,e3,e4,e5,e6,e7⟩
 ·cases h7
 ·injection e1 with eg _ e1
  injection eg with eg
  injection eg with eg
  subst eg e1 h1
  have hs:=(ng h3 h5 l.length).1
  rw [List.take_left] at hs
  refine ⟨[.slice (some ⟨g,0,none⟩) l.length c],⟨fun A hA=>h4 A (by simp [hA]),_,c,ds.take (l.length*m),rfl,by rw [List.length_append] at e4; exact Nat.le_of_lt e4,e5,hs,fun _=>⟨g,0,rfl,(Array.getElem?_eq_some_iff.1 e3).1,.inr ⟨_,_,e3⟩,fun j u hu=>?_⟩⟩,rfl⟩
  rw [cell_of_row w g (0+j) cur E _ e3,Nat.zero_add]
  rw [List.getElem?_take] at hu
  split at hu
  ·rw [← e7,List.getElem?_take] at hu
   split at hu
   ·simpa using hu
   ·cases hu
  ·cases hu
theorem Dg {E:TypeId}{m:Nat}{D:List TypeId}{l:List As}{x:As}:Wk (TwS E m D l x) (SlA E D l).va:=fun B v w ⟨g,c,h⟩=>rx _ _ _ h
section
variable {P:Program} {R:Rg} {Q:Exit→Act→World→Prop} {B i:Nat} {w0:Bs}
theorem r_capK {x:Operand}{S E E':TypeId}{g c m:Nat}{D:List TypeId}{l:List As}{z:As}(hS:P.underlying S=some (.slice E'))(hx:Has R B w0 i x (TwK g c E m D l z)):Wv P Q R B w0 i (.call ⟨.builtin .cap,#[x],#[S]⟩) (In (c:Int)) :=
 bb fun d T ps af gd a w av=>by
  have hv:=(hx a w av).1
  refine ⟨.int .i64 (c:Int),w,?_,Grow.refl w,ca _ _ _ _⟩
  simp [execOp,resolve,invoke,builtin,hv,Builtin.cap_,run_underlying hS,goInt]
theorem AB {x y:Operand}{S E:TypeId}{g c m:Nat}{D:List TypeId}{l:List As}{z:As}(hS:Sl P S E m)(hx:Has R B w0 i x (TwK g c E m D l z))(hy:Has R B w0 i y (In ((l.length+1:Nat):Int))):Wv P Q R B w0 i (.slice S x none (some y) none) (SlA E D (l++[z])).va :=
 bb fun d T ps af gd a w av=>by
  have hk:=hx a w av
  have hc:=ry hk
  obtain ⟨hs1,hs2⟩:=hS
  have e1:=hk.1
  have e3:=bj (hy a w av)
  have hE:P.elem S=E:=by simp [Program.elem,hs1]
  have hs1':P.underlying S=some (.slice (P.elem S)):=by rw [hE]; exact hs1
  have hsz:∀ w,(sizeOf E).run P w=.ok m w:=fun w=>by
   cases hi:P.info? E with
   | none=>rw [hi] at hs2; simp at hs2
   | some it=>rw [hi] at hs2; simp [sizeOf,typeInfo,hi]; simpa using hs2
  refine ⟨.slice (some ⟨g,0,none⟩) (l.length+1) c,w,?_,Grow.refl w,own_w hk.2.2⟩
  have hr:=run_slice_h (P:=P) w S (some ⟨g,0,none⟩) l.length c hs1' .i64 ((l.length+1:Nat):Int) zo zo
  rw [hE,hsz] at hr
  have hne:¬ c=0:=by omega
  simp only [Result.andThen_ok,sliced,Int.toNat_natCast,hne,if_false,Nat.zero_mul,Option.map_some,Nat.sub_zero] at hr
  simp only [execOp,e1,e3,Option.map_some,run_sliceAt_slice _ _ _ _ _ _ hs1',Sem.run_bind,Sem.run_pure]
  erw [hr]
  simp [Addr.add]
theorem AE {S E:TypeId}{m bytes n:Nat}{D:List TypeId}{x y:Operand}{it:TypeInfo}{z:Value}(hS:P.underlying S=some (.slice E))(hi:P.info? E=some it)(hz:it.zero=some z)(hsz:it.size=m)(hby:it.bytes=bytes)(hzs:z.cells.size=m)(hm0:0<m)(hb6:bytes≤1000)(hB:B≤w0.w.heap.size)(hx:Has R B w0 i x (In 0))(hy:Has R B w0 i y (In n))(hn:n≤17592186044):Wv P Q R B w0 i (.makeSlice S x y) (OwnR w0.w.heap.size E m D []) :=
 bb fun d T ps af gd a w av=>by
  have hbn:bytes*n≤1000*n:=Nat.mul_le_mul_right _ hb6
  have hm:=run_make (P:=P) w S E it z hS hi hz .i64 .i64 0 n zo zo (by
   have h6:((it.bytes*n:Nat):Int)≤281474976710656:=by rw [hby]; omega
   rwa [Int.natCast_mul] at h6) zo
  have e1:=bj (hx a w av)
  have e2:=bj (hy a w av)
  refine ⟨.slice (some ⟨w.heap.size,0,none⟩) 0 n,w.alloc (.cells (madeCells z.cells (n*it.size)) E),?_,Grow.alloc _ _,(fun A hA=>by cases hA),(fun A hA=>by cases hA),[],⟨[],rfl,.nil⟩,by simp,.inr ⟨w.heap.size,n,madeCells z.cells (n*it.size),rfl,av.base.size,by simpa using heap_alloc_new w _,Nat.zero_le _,by unfold maxLen; omega,?_,by simp⟩⟩
  ·simp only [Int.toNat_natCast] at hm
   simp [execOp,e1,e2,hm]
  ·rw [hsz]
   simp [madeCells]
end
open Rg in
theorem wV {P:Program}{Q:Exit→Act→World→Prop}{B N:Nat}{w0:Bs}{Γ:List (Nat × VA)}{Λ:List Lc}{a:Act}{w:World}{id:Nat}{ops:Array Oper}{sp:List Sp}(n:Nat)(src:List Nat)(i1 i2:Nat){S E T1 T2 T3 T4 T5:TypeId}{s u d e f c0 c1 c2 m bytes:Nat}{ps1 ps2 ps3 ps4 ps5:String}{af1 af2 af3 af4 af5:Array Edge}{D D':List TypeId}{l:List As}{x:As}{A2 X:VA}{it:TypeInfo}{z:Value}
  (h:St B w0 N Γ Λ a w) (hob:Obs P Q ⟨ops,N,Γ,lesN Λ,sp,fun i=>List.range i⟩ B w0 0 n) (hn2:ops.size=n+5) (hk:Rg.chk ⟨ops,N,Γ,lesN Λ,sp,fun i=>List.range i⟩=true)
  (ho1:ops[n]?=some ⟨some d,.call ⟨.builtin .append,#[.tmp s,.tmp u],#[S,S]⟩,T1,ps1,af1,none⟩) (ho2:ops[n+1]?=some ⟨some c1,.move (.tmp c0),T2,ps2,af2,none⟩)
  (ho3:ops[n+2]?=some ⟨some c2,.call ⟨.builtin .len,#[.tmp c1],#[S]⟩,T3,ps3,af3,none⟩) (ho4:ops[n+3]?=some ⟨some f,.slice S (.tmp d) none (some (.tmp c2)) none,T4,ps4,af4,none⟩) (ho5:ops[n+4]?=some ⟨some e,.assign (.tmp f),T5,ps5,af5,none⟩)
  (kx:Nat) (hkx:Γ[kx]?=some (c0,X)) (hX:∀ B u w,X.p B u w→∃ A c,u=.slice A l.length c) (hXo:Rg.outG ⟨ops,N,Γ,lesN Λ,sp,fun i=>List.range i⟩ c0=true)
  (hi1:i1<n) (h1:sp[i1]?=some (.v s (OwnR w0.w.heap.size E m D l))) (hi2:i2<n) (h2:sp[i2]?=some (.v u A2)) (hA2:∀ w u,A2.p B u w→Kept w0 w→(SlA E D' [x]).va.p B u w)
  (hS:P.underlying S=some (.slice E)) (hi:P.info? E=some it) (hz:it.zero=some z) (hsz:it.size=m) (hby:it.bytes=bytes) (hzs:z.cells.size=m) (hm0:0<m) (hl:l.length+1≤100000000000) (hb6:bytes≤1000)
  (hD':∀ T∈D',T∈D) (hED:E ∉ D) (hxm:x.n=m) (hnd:decide ([d,c1,c2,f,e,c0].Nodup)=true) (hd:d<N) (he:e<N) (hc1:c1<N) (hc2:c2<N) (hf:f<N)
  (hsrc:src.all (fun k=>match Γ[k]? with | some y => !y.2.deps.contains E&&Rg.outG ⟨ops,N,Γ,lesN Λ,sp,fun i=>List.range i⟩ y.1 | none=>false)=true)
  (hΛ:Λ.all (fun l=>l.T != E && !l.A.deps.contains E&&l.s != d&&l.s != e&&l.s != c1&&l.s != c2&&l.s != f)=true)
  (hQ:∀ a w,St B w0 N ((e,TwS E m D l x)::src.filterMap (fun k=>Γ[k]?)) Λ a w→Q .normal a w):(Code.region id ops false).wp P Q a w:=by
 have hles0:∀ y∈lesN Λ,y.cr=none∧y.st=none∧(⟨y.s,y.T,y.H,y.A0⟩:Lc)∈Λ:=fun y hy=>by
  obtain ⟨l',hl',rfl⟩:=List.mem_map.1 hy
  exact ⟨rfl,rfl,hl'⟩
 refine Rg.linK (R:=⟨ops,N,Γ,lesN Λ,sp,fun i=>List.range i⟩) (m:=5) hn2 G hk h (fun y hy _=>(hles0 y hy).2.2) (fun i hi=>hob.all i zo zo) fun a1 w1 hinv=>?_
 have hcl:∀ deps,Rg.clash ⟨ops,N,Γ,lesN Λ,sp,fun i=>List.range i⟩ (fun k=>decide (k<n)) deps=false:=fun deps=>by
  unfold Rg.clash
  rw [List.any_eq_false]
  intro y hy
  rw [(hles0 y hy).2.1]
  simp
 have hv:=hinv.v i1 _ s _ h1 rfl (decide_eq_true hi1) (hcl _)
 have hu:=hA2 _ _ (hinv.v i2 _ u _ h2 rfl (decide_eq_true hi2) (hcl _)) hinv.base
 have hB:B≤w0.w.heap.size:=hinv.lo _ (.inl (Nat.le_refl _))
 obtain ⟨v',w',hr,r1,r2,r3⟩:=ic (xs:=[x]) (T1:=T1) hS hi hz hsz hby hzs hm0 (by simpa using hl) hb6 hv hu hD' hED (fun y hy=>by simp at hy; subst hy; exact hxm) hinv.base.size hB
 have hnd':=of_decide_eq_true hnd
 simp only [List.nodup_cons,List.mem_cons,List.not_mem_nil,or_false,not_or,List.nodup_nil,and_true,not_false_iff] at hnd'
 obtain ⟨⟨n1,n2,n3,n4,n5⟩,⟨n6,n7,n8,n9⟩,⟨n10,n11,n12⟩,⟨n13,n14⟩,n15⟩:=hnd'
 have hgc:∀ q,q<ops.size→Rg.dst ⟨ops,N,Γ,lesN Λ,sp,fun i=>List.range i⟩ q≠some c0:=fun q hq=>by
  have:=List.all_eq_true.1 hXo q (by simpa using hq)
  simpa using this
 obtain ⟨Ax,cx,ex⟩:=hX _ _ _ (hinv.g (c0,X) (List.mem_of_getElem? hkx) (fun q hq hdq=>absurd hdq (hgc q hq)) (hcl _))
 obtain ⟨q1,q2,ds,q3,q4,q5⟩:=r1
 rcases q5 with ⟨_,q5⟩ | ⟨g,cap,cur,e1,e2,e3,e4,e5,e6,e7⟩
 ·simp at q5
 rw [List.length_append,List.length_singleton] at e1 e4
 subst e1
 have hsza:a1.tmps.size=N:=hinv.size
 obtain ⟨a2,ha2⟩:∃ a2,a2=a1.put (some d) (.slice (some ⟨g,0,none⟩) (l.length+1) cap):=⟨_,rfl⟩
 obtain ⟨a3,ha3⟩:∃ a3,a3=a2.put (some c1) (.slice Ax l.length cx):=⟨_,rfl⟩
 obtain ⟨a4,ha4⟩:∃ a4,a4=a3.put (some c2) (.int .i64 (l.length:Int)):=⟨_,rfl⟩
 obtain ⟨a5,ha5⟩:∃ a5,a5=a4.put (some f) (.slice (some ⟨g,0,none⟩) l.length cap):=⟨_,rfl⟩
 obtain ⟨a6,ha6⟩:∃ a6,a6=a5.put (some e) (.slice (some ⟨g,0,none⟩) l.length cap):=⟨_,rfl⟩
 have s2:a2.tmps.size=N:=by rw [ha2,bu]; exact hsza
 have s3:a3.tmps.size=N:=by rw [ha3,bu]; exact s2
 have s4:a4.tmps.size=N:=by rw [ha4,bu]; exact s3
 have s5:a5.tmps.size=N:=by rw [ha5,bu]; exact s4
 have s6:a6.tmps.size=N:=by rw [ha6,bu]; exact s5
 have hE:P.elem S=E:=by simp [Program.elem,hS]
 have hs1':P.underlying S=some (.slice (P.elem S)):=by rw [hE]; exact hS
 have hszo:∀ w,(sizeOf E).run P w=.ok m w:=fun w=>by simp [sizeOf,typeInfo,hi,hsz]
 rw [List.range'_succ,wpOps_cons]
 refine bv (R:=⟨ops,N,Γ,lesN Λ,sp,fun i=>List.range i⟩) ho1 G (ba (w':=w') (v:=.slice (some ⟨g,0,none⟩) (l.length+1) cap) (by simp [execOp,resolve,invoke,builtin,hr,Result.andThen]) ?_)
 show wpOps P ops Q _ (a1.put (some d) _) w'
 rw [← ha2]
 rw [List.range'_succ,wpOps_cons]
 refine bv (R:=⟨ops,N,Γ,lesN Λ,sp,fun i=>List.range i⟩) ho2 G (ba (w':=w') (v:=.slice Ax l.length cx) (by
  have:a2.eval (.tmp c0)=.slice Ax l.length cx:=by rw [ha2,aj _ _ _ _ (fun h=>n5 h.symm)]; exact ex
  simp [execOp,this]) ?_)
 show wpOps P ops Q _ (a2.put (some c1) _) w'
 rw [← ha3]
 rw [List.range'_succ,wpOps_cons]
 refine bv (R:=⟨ops,N,Γ,lesN Λ,sp,fun i=>List.range i⟩) ho3 G (ba (w':=w') (v:=.int .i64 (l.length:Int)) (by
  have:a3.eval (.tmp c1)=.slice Ax l.length cx:=by rw [ha3]; exact aM _ _ _ (by rw [s2]; exact hc1)
  simp [execOp,resolve,invoke,builtin,this,Builtin.len_,run_underlying hS,goInt]) ?_)
 show wpOps P ops Q _ (a3.put (some c2) _) w'
 rw [← ha4]
 have d4:a4.eval (.tmp d)=.slice (some ⟨g,0,none⟩) (l.length+1) cap:=by rw [ha4,aj _ _ _ _ n2,ha3,aj _ _ _ _ n1,ha2]; exact aM _ _ _ (by rw [hsza]; exact hd)
 have c4:a4.eval (.tmp c2)=.int .i64 (l.length:Int):=by rw [ha4]; exact aM _ _ _ (by rw [s3]; exact hc2)
 rw [List.range'_succ,wpOps_cons]
 refine bv (R:=⟨ops,N,Γ,lesN Λ,sp,fun i=>List.range i⟩) ho4 G (ba (w':=w') (v:=.slice (some ⟨g,0,none⟩) l.length cap) (by
  have hr2:=run_slice_h (P:=P) w' S (some ⟨g,0,none⟩) (l.length+1) cap hs1' .i64 (l.length:Int) zo zo
  rw [hE,hszo] at hr2
  have hne:¬ cap=0:=by omega
  simp only [Result.andThen_ok,sliced,Int.toNat_natCast,hne,if_false,Nat.zero_mul,Option.map_some,Nat.sub_zero] at hr2
  simp only [execOp,d4,c4,Option.map_some,run_sliceAt_slice _ _ _ _ _ _ hs1',Sem.run_bind,Sem.run_pure]
  erw [hr2]
  simp [Addr.add]) ?_)
 show wpOps P ops Q _ (a4.put (some f) _) w'
 rw [← ha5]
 rw [List.range'_succ,wpOps_cons]
 refine bv (R:=⟨ops,N,Γ,lesN Λ,sp,fun i=>List.range i⟩) ho5 G (ba (w':=w') (v:=.slice (some ⟨g,0,none⟩) l.length cap) ?_ ?_)
 ·have:a5.eval (.tmp f)=.slice (some ⟨g,0,none⟩) l.length cap:=by rw [ha5]; exact aM _ _ _ (by rw [s4]; exact hf)
  simp [execOp,this]
 show wpOps P ops Q _ (a5.put (some e) _) w'
 rw [← ha6]
 refine hQ _ _ ?_
 have hother:∀ t,t≠d→t≠c1→t≠c2→t≠f→t≠e→a6.eval (.tmp t)=a1.eval (.tmp t):=fun t h1 h2 h3 h4 h5=>by
  rw [ha6,aj _ _ _ _ h5,ha5,aj _ _ _ _ h4,ha4,aj _ _ _ _ h3,ha3,aj _ _ _ _ h2,ha2,aj _ _ _ _ h1]
 have hdf:a6.defers=a1.defers:=by rw [ha6,ha5,ha4,ha3,ha2]; rfl
 have hlc:∀ l'∈Λ,l'.T≠E∧E ∉ l'.A.deps∧a6.eval (.tmp l'.s)=a1.eval (.tmp l'.s):=fun l' hl'=>by
  have:=List.all_eq_true.1 hΛ l' hl'
  simp only [Bool.and_eq_true,bne_iff_ne,Bool.not_eq_true',List.contains_eq_mem,decide_eq_false_iff_not] at this
  exact ⟨this.1.1.1.1.1.1,this.1.1.1.1.1.2,hother _ this.1.1.1.1.2 this.1.1.2 this.1.2 this.2 this.1.1.1.2⟩
 have hcur:∀ l'∈Λ,(⟨l'.s,l'.T,l'.H,none,l'.A,none⟩:Le)∈lesN Λ:=fun l' hl'=>List.mem_map.2 ⟨l',hl',rfl⟩
 refine ⟨hinv.lo,hinv.defers.grown r2 r3 hdf,s6,?_,?_,?_,?_⟩
 ·exact ⟨r2.os.trans hinv.base.os,r2.tape.trans hinv.base.tape,r2.output.trans hinv.base.output,Nat.le_trans hinv.base.size r2.size,fun k hk hf =>
   (r2.block k (Nat.lt_of_lt_of_le hk hinv.base.size) (fun e=>by have:=(r3 k e.symm).1; omega)).trans (hinv.base.block k hk hf)⟩
 ·intro y hy
  rcases List.mem_cons.1 hy with rfl | hy
  ·show (TwS E m D l x).p B (a6.eval (.tmp e)) w'
   rw [ha6,aM _ _ _ (by rw [s5]; exact he)]
   exact ⟨g,cap,rfl,Nat.le_trans hB e2,q1,q2,ds,q3,q4,.inr ⟨g,cap,cur,by rw [List.length_append]; rfl,Nat.zero_le _,e3,by rw [List.length_append]; exact e4,e5,e6,e7⟩⟩
  ·obtain ⟨k,hk1,hk2⟩:=List.mem_filterMap.1 hy
   have hs:=List.all_eq_true.1 hsrc k hk1
   simp only [hk2,Bool.and_eq_true,Bool.not_eq_true',List.contains_eq_mem,decide_eq_false_iff_not] at hs
   have hout:∀ q,q<ops.size→Rg.dst ⟨ops,N,Γ,lesN Λ,sp,fun i=>List.range i⟩ q≠some y.1:=fun q hq=>by
    have:=List.all_eq_true.1 hs.2 q (by simpa using hq)
    simpa using this
   rw [hother _ (fun e1=>hout n zo (by unfold Rg.dst; rw [ho1,e1]; rfl)) (fun e1=>hout (n+1) zo (by unfold Rg.dst; rw [ho2,e1]; rfl)) (fun e1=>hout (n+2) zo (by unfold Rg.dst; rw [ho3,e1]; rfl)) (fun e1=>hout (n+3) zo (by unfold Rg.dst; rw [ho4,e1]; rfl)) (fun e1=>hout (n+4) zo (by unfold Rg.dst; rw [ho5,e1]; rfl))]
   exact VA.grown (hinv.g y (List.mem_of_getElem? hk2) (fun q hq hdq=>absurd hdq (hout q hq)) (hcl _)) r2 r3 hB hs.1
 ·intro l' hl'
  obtain ⟨g1,g2,g3⟩:=hlc l' hl'
  obtain ⟨g,cs,e1,e2,e3,e4⟩:=hinv.c _ (hcur l' hl') l'.A rfl
  refine ⟨g,cs,by rw [g3]; exact e1,e2,?_,As.grown e4 r2 r3 hB g2⟩
  rw [r2.block g (Array.getElem?_eq_some_iff.1 e3).1 (fun e5=>by
   obtain ⟨_,c,fz,e6⟩:=r3 g e5.symm
   rw [e3] at e6
   injection e6 with e6
   injection e6 with _ e6 _
   exact g1 e6)]
  exact e3
 ·intro l1 hl1 l2 hl2 hne'
  rw [(hlc l1 hl1).2.2,(hlc l2 hl2).2.2]
  exact hinv.x _ (hcur l1 hl1) _ (hcur l2 hl2) hne' G rfl
theorem Du {α:Type}{f:α→As}{xs:List α}{j:Nat}(h:j<xs.length):(xs.take j).map f++[f xs[j]]=(xs.take (j+1)).map f:=by
 rw [List.take_succ_eq_append_getElem h,List.map_append]
 rfl
theorem pA (x:RF):FreeA (RFT x) (RFT x):=ci (.cons (eE _) (.cons (eE _) .nil))
theorem ph {p:As→Prop}{l:List As}{z:As}(h1:∀ A∈l,p A)(h2:p z):∀ A∈l++[z],p A:=fun A hA=>by
 rcases List.mem_append.1 hA with hA | hA
 ·exact h1 A hA
 ·obtain rfl:=List.mem_singleton.1 hA
  exact h2
theorem cm {α:Type}{p:As→Prop}{f:α→As}{xs:List α}(h:∀ x,p (f x)):∀ A∈xs.map f,p A:=fun A hA=>by
 obtain ⟨x,_,rfl⟩:=List.mem_map.1 hA
 exact h x
theorem dr {α:Type}{f k:α→As}(h:∀ x,WkA (f x) (k x)):∀ {xs:List α},All2 WkA (xs.map f) (xs.map k)
 | []=>.nil
 | x::xs=>.cons (h x) (dr h)
theorem pD:FreeA (MgA []) (MgA []):=⟨rfl,rfl,fun B B' cs w hB ⟨ok,hD,A,c,ds,h0,h1,h2,⟨ps,h3,h4⟩,h5⟩=>⟨ok,hD,A,c,ds,h0,h1,h2,by cases h4; exact ⟨[],h3,.nil⟩,fun h=>absurd h zd⟩⟩
theorem D7 {α β:Type}{f:α→β}{xs:List α}(h:xs.length<4611686018427387903):IntKind.i64.wrap (((xs.map f).length:Int)+1)=((xs.length+1:Nat):Int):=by rw [List.length_map]; exact aX zo
theorem Dn {E:TypeId}{D:List TypeId}{l:List As}{p:Prop}:∀ B u w,(SlO E D l p).va.p B u w→∃ A c,u=.slice A l.length c:=fun B u w ⟨cs,⟨_,_,A,c,ds,h0,_⟩,hv⟩=>by
 subst h0
 exact ⟨A,c,hv⟩
theorem By {α β:Type}{f:α→As}{k:β→As}{xs:List α}{ys:List β}{c:Nat}(h:(((((xs.map f).length:Nat):Int) != (((ys.map k).length:Nat):Int)) || decide ((c:Int)≤(((ys.map k).length:Nat):Int)))=false):xs.length=ys.length:=by
 simp only [Bool.or_eq_false_iff,List.length_map,bne_eq_false_iff_eq] at h
 have:=h.1
 omega
theorem Bx {α:Type}[DecidableEq α]{f k:α→As}{xs ys:List α}{c:Nat}(hc:xs.length+1≤c)(h:(((((xs.map f).length:Nat):Int) != (((ys.map k).length:Nat):Int)) || decide ((c:Int)≤(((ys.map k).length:Nat):Int)))=true):false=decide (xs=ys):=by
 symm
 apply decide_eq_false
 rintro rfl
 simp at h
 omega
theorem vz {α:Type}[DecidableEq α]{xs ys:List α}{j:Nat}(h2:j<ys.length)(h1:j<xs.length)(ht:xs.take j=ys.take j)(h:(!decide (xs[j]=ys[j]))=false):xs.take (j+1)=ys.take (j+1):=by
 rw [List.take_succ_eq_append_getElem h1,List.take_succ_eq_append_getElem h2,ht]
 simp at h
 rw [h]
theorem vx {α:Type}[DecidableEq α]{xs ys:List α}{j:Nat}(h2:j<ys.length)(h1:j<xs.length)(h:(!decide (xs[j]=ys[j]))=true):false=decide (xs=ys):=by
 symm
 apply decide_eq_false
 rintro rfl
 simp at h
open Go.ChangeShapes Go.WideShapes Go.ChangeAt
theorem fX {A:As}{D:List TypeId}(h:(A.deps.all fun T=>D.contains T)=true):∀ T∈A.deps,T∈D:=fun T hT=>by
 have:=List.all_eq_true.1 h T hT
 simpa using this
def wdI (x:RI):Prop:=x.mag.length≤140737488355328
def wdF (x:RF):Prop:=wdI x.num∧wdI x.den
def wdM (x:RM):Prop:=wdF x.a∧wdF x.b∧wdF x.c∧wdF x.d
abbrev Wt {H:Type}(P:Program)(t:TypeId)(d:DataW H):Prop:=∀ n∈d.weights P t,n≤reachBytes
section
variable {H:Type} {enc:TypeId × Value→H} {w:World} {base:Nat} {spare:Nat→Bool} {held:Bool} {fuel:Nat} {cs:List Value} {x:DataW H × List MemPlace}
theorem rb_mg (h:DataW.trod enc Tryz.prog w base spare held fuel 23 cs=some x)(hw:Wt Tryz.prog 23 x.1):∃ l,(MgA l).p w.heap.size cs w∧l.length≤140737488355328:=by
 obtain ⟨l,hl⟩:=rd_mg h
 refine ⟨l,hl,?_⟩
 rcases open_ints Tryz.underlying23 Tryz.underlying109 zk h with ⟨hcs,_⟩ | ⟨a,len,cap,zs,rfl,_,h1,hm,hz,hx,hcell,hwz⟩
 ·subst hcs
  obtain ⟨_,_,A,c,ds,e,_⟩:=hl
  rw [List.length_map] at e
  simp only [List.cons.injEq,Value.slice.injEq,and_true] at e
  omega
 ·obtain ⟨_,_,A,c,ds,e,_⟩:=hl
  rw [List.length_map] at e
  simp only [List.cons.injEq,Value.slice.injEq,and_true] at e
  have h4:Tryz.prog.bytesOf 109=4:=by kernel_rfl
  have:=hw (((lits .u32 (zs.take len):List (DataW H)).length+(lits .u32 (zs.drop len):List (DataW H)).length)*Tryz.prog.bytesOf 109) (by rw [hx]; simp [DataW.weights,Tryz.underlying23,lits])
  rw [h4] at this
  simp only [lits,List.length_map,List.length_take,List.length_drop] at this
  have hlen:len≤zs.length:=by rw [hz]; split <;> omega
  unfold reachBytes at this
  omega
theorem dB {P:Program}{t:TypeId}{fs:Array Field}(ht:P.underlying t=some (.struct fs))(h:DataW.trod enc P w base spare held fuel t cs=some x)(hw:Wt P t x.1)(j:Nat){f:Field}(hf:fs[j]?=some f) :
  ∃ n y,DataW.trod enc P w base spare held n f.type ((cs.drop f.offset).take (P.cellsOf f.type))=some y∧Wt P f.type y.1:=by
 obtain ⟨xs,n,_,hx,_,hlen,hel⟩:=DataW.trod_struct ht h
 have hj:j<fs.size:=(Array.getElem?_eq_some_iff.1 hf).1
 have h1:=hel j f hf
 rw [List.getElem?_eq_getElem zo] at h1
 refine ⟨n,_,h1,fun k hk=>hw k ?_⟩
 rw [hx]
 simp only [DataW.weights,ht]
 exact DataW.weights_mem_each (j:=j) (by rw [List.getElem?_map]; show (fs.toList[j]?).map _=_; rw [Array.getElem?_toList,hf]; rfl) (by rw [List.getElem?_map,List.getElem?_eq_getElem zo]; rfl) k hk
theorem rb_ri (h:DataW.trod enc Tryz.prog w base spare held fuel 25 cs=some x)(hw:Wt Tryz.prog 25 x.1):∃ y,(RIA y).p w.heap.size cs w∧wdI y:=by
 have hl:cs.length=2:=by
  obtain ⟨_,_,_,_,hl,_,_⟩:=DataW.trod_struct Tryz.underlying25 h
  exact hl.trans zk
 obtain ⟨n0,y0,h0,w0⟩:=dB Tryz.underlying25 h hw 0 rfl
 have c0:Tryz.prog.cellsOf 4=1:=by kernel_rfl
 have h0:DataW.trod enc Tryz.prog w base spare held n0 4 ((cs.drop 0).take (Tryz.prog.cellsOf 4))=some y0:=h0
 rw [c0] at h0
 obtain ⟨a0,q0⟩:=rd_bo h0
 obtain ⟨n1,y1,h1,w1⟩:=dB Tryz.underlying25 h hw 1 rfl
 have c1:Tryz.prog.cellsOf 23=1:=by kernel_rfl
 have h1:DataW.trod enc Tryz.prog w base spare held n1 23 ((cs.drop 1).take (Tryz.prog.cellsOf 23))=some y1:=h1
 rw [c1] at h1
 obtain ⟨a1,q1,b1⟩:=rb_mg h1 w1
 exact ⟨⟨a0,a1⟩,uR q0 q1 hl,b1⟩
theorem qq (h:DataW.trod enc Tryz.prog w base spare held fuel 27 cs=some x)(hw:Wt Tryz.prog 27 x.1):∃ y,(RFA y).p w.heap.size cs w∧wdF y:=by
 have hl:cs.length=4:=by
  obtain ⟨_,_,_,_,hl,_,_⟩:=DataW.trod_struct Tryz.underlying27 h
  exact hl.trans zk
 obtain ⟨n0,y0,h0,w0⟩:=dB Tryz.underlying27 h hw 0 rfl
 have c0:Tryz.prog.cellsOf 25=2:=by kernel_rfl
 have h0:DataW.trod enc Tryz.prog w base spare held n0 25 ((cs.drop 0).take (Tryz.prog.cellsOf 25))=some y0:=h0
 rw [c0] at h0
 obtain ⟨a0,q0,b0⟩:=rb_ri h0 w0
 obtain ⟨n1,y1,h1,w1⟩:=dB Tryz.underlying27 h hw 1 rfl
 have c1:Tryz.prog.cellsOf 25=2:=by kernel_rfl
 have h1:DataW.trod enc Tryz.prog w base spare held n1 25 ((cs.drop 2).take (Tryz.prog.cellsOf 25))=some y1:=h1
 rw [c1] at h1
 obtain ⟨a1,q1,b1⟩:=rb_ri h1 w1
 exact ⟨⟨a0,a1⟩,uR q0 q1 hl,⟨b0,b1⟩⟩
theorem rb_rm (h:DataW.trod enc Tryz.prog w base spare held fuel 29 cs=some x)(hw:Wt Tryz.prog 29 x.1):∃ y,(RMA y).p w.heap.size cs w∧wdM y:=by
 have hl:cs.length=16:=by
  obtain ⟨_,_,_,_,hl,_,_⟩:=DataW.trod_struct Tryz.underlying29 h
  exact hl.trans zk
 obtain ⟨n0,y0,h0,w0⟩:=dB Tryz.underlying29 h hw 0 rfl
 have c0:Tryz.prog.cellsOf 27=4:=by kernel_rfl
 have h0:DataW.trod enc Tryz.prog w base spare held n0 27 ((cs.drop 0).take (Tryz.prog.cellsOf 27))=some y0:=h0
 rw [c0] at h0
 obtain ⟨a0,q0,b0⟩:=qq h0 w0
 obtain ⟨n1,y1,h1,w1⟩:=dB Tryz.underlying29 h hw 1 rfl
 have c1:Tryz.prog.cellsOf 27=4:=by kernel_rfl
 have h1:DataW.trod enc Tryz.prog w base spare held n1 27 ((cs.drop 4).take (Tryz.prog.cellsOf 27))=some y1:=h1
 rw [c1] at h1
 obtain ⟨a1,q1,b1⟩:=qq h1 w1
 obtain ⟨n2,y2,h2,w2⟩:=dB Tryz.underlying29 h hw 2 rfl
 have c2:Tryz.prog.cellsOf 27=4:=by kernel_rfl
 have h2:DataW.trod enc Tryz.prog w base spare held n2 27 ((cs.drop 8).take (Tryz.prog.cellsOf 27))=some y2:=h2
 rw [c2] at h2
 obtain ⟨a2,q2,b2⟩:=qq h2 w2
 obtain ⟨n3,y3,h3,w3⟩:=dB Tryz.underlying29 h hw 3 rfl
 have c3:Tryz.prog.cellsOf 27=4:=by kernel_rfl
 have h3:DataW.trod enc Tryz.prog w base spare held n3 27 ((cs.drop 12).take (Tryz.prog.cellsOf 27))=some y3:=h3
 rw [c3] at h3
 obtain ⟨a3,q3,b3⟩:=qq h3 w3
 exact ⟨⟨a0,a1,a2,a3⟩,xA q0 q1 q2 q3 hl,⟨b0,b1,b2,b3⟩⟩
theorem CS {P:Program}{α:Type}{A:α→As}{bd:α→Prop}{t:TypeId}{fs:Array Field}{r:Reach}{b0:Nat}{v:Value}{d:DataW H}{p:List MemPlace}(hag:∀ y,(A y).ag=true)(ht:P.underlying t=some (.struct fs))
  (rd:∀ {fuel:Nat} {cs:List Value} {x:DataW H × List MemPlace},DataW.trod enc P w base spare held fuel t cs=some x→Wt P t x.1→∃ y,(A y).p w.heap.size cs w∧bd y)
  (hv:Value.okWide P w r b0 t v) (h:DataW.Trod enc P w base spare held t v d p) (hw:Wt P t d):∃ y,(A y).va.p w.heap.size v w∧bd y:=by
 obtain ⟨cs,hcs,_⟩:=okWide_struct ht hv
 subst hcs
 obtain ⟨fuel,hf⟩:=h
 obtain ⟨y,hy,hb⟩:=rd hf hw
 refine ⟨y,⟨cs.toList,hy,?_⟩,hb⟩
 unfold shape
 rw [hag y,if_pos rfl]
theorem D0 {P:Program}{ts:List TypeId}{ds:List (DataW H)}(h:(DataW.weightsEach P ts ds).all (· ≤ reachBytes)=true)(j:Nat){t:TypeId}{d:DataW H}(ht:ts[j]?=some t)(hd:ds[j]?=some d):Wt P t d:=fun n hn=>by
 have:=List.all_eq_true.1 h n (DataW.weights_mem_each ht hd n hn)
 simpa using this
theorem fA {P:Program}{e:TypeId}:∀ {l:List (DataW H)} {d:DataW H},d∈l→∀ n∈d.weights P e,n∈DataW.weightsAll P e l
 | [],_,h,_,_=>by cases h
 | x::l,d,h,n,hn=>by
  simp only [DataW.weightsAll,List.mem_append]
  rcases List.mem_cons.1 h with rfl | h
  ·exact .inl hn
  ·exact .inr (fA h n hn)
theorem rb_sl {P:Program}{α:Type}{A:α→As}{bd:α→Prop}{t e:TypeId}{m:Nat}{D:List TypeId}(ht:P.underlying t=some (.slice e))(hc:P.cellsOf e=m)(hm0:0<m)(hby:0<P.bytesOf e)(hD:∀ y,∀ T∈(A y).deps,T∈D)
  (rd:∀ {fuel:Nat} {cs:List Value} {x:DataW H × List MemPlace},DataW.trod enc P w base spare held fuel e cs=some x→Wt P e x.1→∃ y,(A y).p w.heap.size cs w∧bd y)
  (h:DataW.trod enc P w base spare held fuel t cs=some x) (hw:Wt P t x.1):∃ l:List α,(SlA e D (l.map A)).p w.heap.size cs w∧(∀ y∈l,bd y)∧l.length≤140737488355328:=by
 rcases Go.Deep.open_slice ht h with ⟨rfl,_⟩ | ⟨a,len,cap,m',n,Df,Pl,rfl,hb,hl,hmx,hm',hxx,hel⟩
 ·exact ⟨[],⟨fun A hA=>by simp at hA,none,0,[],rfl,Nat.le_refl _,Nat.zero_le _,⟨[],rfl,.nil⟩,fun h=>absurd h (by simp)⟩,fun y hy=>(by cases hy),by simp⟩
 ·rw [hc] at hel
  have hle:len≤m':=by rw [hm']; split <;> omega
  have hwt:∀ k,k<len→Wt P e (Df k):=fun k hk n hn=>hw n (by
   rw [hxx]
   simp only [DataW.weights,ht]
   exact List.mem_cons_of_mem _ (List.mem_append_left _ (fA (List.mem_map.2 ⟨k,List.mem_range.2 hk,rfl⟩) n hn)))
  have hlw:len≤140737488355328:=by
   have:=hw ((((List.range len).map Df).length+((List.range (m'-len)).map fun j=>Df (len+j)).length)*P.bytesOf e) (by rw [hxx]; simp [DataW.weights,ht])
   simp only [List.length_map,List.length_range] at this
   unfold reachBytes at this
   have h1:(len+(m'-len))*1≤(len+(m'-len))*P.bytesOf e:=Nat.mul_le_mul_left _ hby
   omega
  have key:∀ k,k≤len→∃ (l:List α) (ds:List Value),l.length=k∧ds.length=k*m∧(cat (l.map A)).p w.heap.size ds w∧(∀ y∈l,bd y)∧∀ (j:Nat) v,ds[j]?=some v→w.cell? (a.add j)=some v:=by
   intro k
   induction k with
   | zero=>exact fun _=>⟨[],[],rfl,by simp,⟨[],rfl,.nil⟩,fun y hy=>(by cases hy),fun j v hv=>by simp at hv⟩
   | succ k ih =>
    intro hk
    obtain ⟨l,ds,h1,h2,h3,hbd,h4⟩:=ih zo
    obtain ⟨cs',q1,q2⟩:=hel k zo
    obtain ⟨y,hy,hyb⟩:=rd q2 (hwt k zo)
    obtain ⟨_,q3,q4⟩:=World.cells?_some q1
    refine ⟨l++[y],ds++cs',by simp [h1],by rw [List.length_append,h2,q3,Nat.add_mul,Nat.one_mul],?_,fun z hz=>by
     rcases List.mem_append.1 hz with hz | hz
     ·exact hbd z hz
     ·obtain rfl:=List.mem_singleton.1 hz; exact hyb,fun j v hv=>?_⟩
    ·rw [List.map_append]
     exact CC h3 (xz hy)
    ·by_cases hj:j<ds.length
     ·rw [List.getElem?_append_left hj] at hv
      exact h4 j v hv
     ·rw [List.getElem?_append_right zo] at hv
      have hlt:j-ds.length<cs'.length:=(List.getElem?_eq_some_iff.1 hv).1
      have:=q4 (j-ds.length) zo
      rw [Go.Deep.add_add,show k*m+(j-ds.length)=j by omega] at this
      rw [this,hv]
  obtain ⟨l,ds,h1,h2,h3,hbd,h4⟩:=key len (Nat.le_refl _)
  refine ⟨l,⟨fun A' hA=>?_,some a,cap,ds,by rw [List.length_map,h1],by rw [List.length_map,h1]; exact hl,hmx,h3,fun hpos=>?_⟩,hbd,by omega⟩
  ·obtain ⟨y,_,rfl⟩:=List.mem_map.1 hA
   exact hD y
  ·rw [List.length_map,h1] at hpos
   have hds:0<ds.length:=by rw [h2]; exact Nat.mul_pos hpos hm0
   obtain ⟨b,off,spot⟩:=a
   have h0:=h4 0 (ds[0]) (List.getElem?_eq_getElem hds)
   have hspot:spot=none:=by simpa [Addr.add] using World.cell?_spot h0
   subst hspot
   have hblk:b<w.heap.size:=World.block_lt_of_cell? w _ (by rw [Go.WideShapes.add_plain] at h0; exact h0)
   exact ⟨b,off,rfl,hblk,.inl hblk,fun j v hv=>by rw [← Go.WideShapes.add_plain]; exact h4 j v hv⟩
theorem CR {P:Program}{α:Type}{A:α→As}{bd:α→Prop}{t e:TypeId}{m:Nat}{D:List TypeId}{r:Reach}{b0:Nat}{v:Value}{d:DataW H}{p:List MemPlace}(ht:P.underlying t=some (.slice e))(hc:P.cellsOf e=m)(hm0:0<m)(hby:0<P.bytesOf e)(hD:∀ y,∀ T∈(A y).deps,T∈D)
  (rd:∀ {fuel:Nat} {cs:List Value} {x:DataW H × List MemPlace},DataW.trod enc P w base spare held fuel e cs=some x→Wt P e x.1→∃ y,(A y).p w.heap.size cs w∧bd y)
  (hv:Value.okWide P w r b0 t v) (h:DataW.Trod enc P w base spare held t v d p) (hw:Wt P t d):∃ l:List α,(SlA e D (l.map A)).va.p w.heap.size v w∧(∀ y∈l,bd y)∧l.length≤140737488355328:=by
 obtain ⟨a,len,cap,rfl⟩:=okWide_slice ht hv
 obtain ⟨fuel,hf⟩:=h
 obtain ⟨l,hl,h2⟩:=rb_sl ht hc hm0 hby hD rd hf hw
 exact ⟨l,⟨_,hl,rfl⟩,h2⟩
end
theorem ee {x:RF}(h:wdF x):∃ c:Nat,fracCostF x=(c:Int)∧x.num.mag.length+x.den.mag.length+2≤c∧c≤4503599627370496:=by
 obtain ⟨h1,h2⟩:=h
 unfold wdI at h1 h2
 have e1:intSizeF x.num=((1+x.num.mag.length:Nat):Int):=by unfold intSizeF; rw [wi64 zo zo]; omega
 have e2:intSizeF x.den=((1+x.den.mag.length:Nat):Int):=by unfold intSizeF; rw [wi64 zo zo]; omega
 have e3:fracSizeF x=((2+x.num.mag.length+x.den.mag.length:Nat):Int):=by unfold fracSizeF; rw [e1,e2,wi64 zo zo]; omega
 obtain ⟨u,hu⟩:∃ u:Nat,u=min x.num.mag.length 1048576:=⟨_,rfl⟩
 obtain ⟨v,hv⟩:∃ v:Nat,v=min x.den.mag.length 1048576:=⟨_,rfl⟩
 have hu':min (x.num.mag.length:Int) 1048576=(u:Int):=by omega
 have hv':min (x.den.mag.length:Int) 1048576=(v:Int):=by omega
 have huv:u*v≤1048576*1048576:=Nat.mul_le_mul zo zo
 have h16:u*v/16≤68719476736:=Nat.le_trans (Nat.div_le_div_right huv) zd
 have e4:lowCostF x.num x.den=((u*v/16*1024:Nat):Int):=by
  unfold lowCostF
  have t1:IntKind.i64.wrap (((u*v:Nat):Int))=((u*v:Nat):Int):=wi64 zo zo
  have t2:(((u*v:Nat):Int)).tdiv 16=((u*v/16:Nat):Int):=by rw [show (16:Int)=((16:Nat):Int) from rfl,Int.tdiv_eq_ediv_of_nonneg zo,← Int.natCast_ediv]
  have t3:IntKind.i64.wrap (((u*v/16:Nat):Int))=((u*v/16:Nat):Int):=wi64 zo zo
  rw [hu',hv',← Int.natCast_mul,t1,t2,t3,wi64 zo zo]
  omega
 refine ⟨2+x.num.mag.length+x.den.mag.length+u*v/16*1024,?_,by omega,by omega⟩
 unfold fracCostF
 rw [e3,e4,wi64 zo zo]
 omega
theorem wB {x:RM}(h:wdM x):∃ a b c d:Nat,matCostF x=((a+b+c+d:Nat):Int)∧(x.a.num.mag.length+x.a.den.mag.length≤a∧x.b.num.mag.length+x.b.den.mag.length≤b∧x.c.num.mag.length+x.c.den.mag.length≤c∧x.d.num.mag.length+x.d.den.mag.length≤d)∧a+b+c+d≤18014398509481984:=by
 obtain ⟨h1,h2,h3,h4⟩:=h
 obtain ⟨a,ea,la,ma⟩:=ee h1
 obtain ⟨b,eb,lb,mb⟩:=ee h2
 obtain ⟨c,ec,lc,mc⟩:=ee h3
 obtain ⟨d,ed,ld,md⟩:=ee h4
 refine ⟨a,b,c,d,?_,⟨by omega,by omega,by omega,by omega⟩,by omega⟩
 unfold matCostF
 rw [ea,eb,ec,ed,wi64 (x:=(a:Int)+b) zo zo,wi64 (x:=(a:Int)+b+c) zo zo,wi64 zo zo]
 omega
theorem CG {n:Nat}{l:List Nat}(hn:n+l.sum≤9223372036854775807)(h:bydF (n:Int) (l.map fun (x:Nat)=>(x:Int))=false):n≤1048576∨l=[]→n+l.sum≤1048576∨l=[]:=by
 induction l generalizing n with
 | nil=>exact fun _=>.inr rfl
 | cons x l ih =>
  intro _
  simp only [List.sum_cons] at hn
  simp only [List.map_cons,bydF] at h
  rw [wi64 zo zo] at h
  split at h
  ·cases h
  ·rename_i h1
   have h2:n+x≤1048576:=by
    rw [decide_eq_true_eq] at h1
    omega
   rw [show ((n:Int)+(x:Int))=((n+x:Nat):Int) from rfl] at h
   rcases ih (n:=n+x) zo h (.inl h2) with h3 | h3
   ·left; simp only [List.sum_cons]; omega
   ·subst h3; left; simp; omega
theorem byd_0 {l:List Nat}(hn:l.sum≤9223372036854775807)(h:bydF 0 (l.map fun (x:Nat)=>(x:Int))=false):l.sum≤1048576:=by
 rcases CG (n:=0) zo h (.inl zd) with h | h
 ·omega
 ·subst h; decide
end Go.Proofs.YtmacliockgbdcaaGreatDoor
