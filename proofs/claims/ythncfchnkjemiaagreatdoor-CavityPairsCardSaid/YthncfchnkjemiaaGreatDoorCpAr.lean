import Derived.Test.YthncfchnkjemiaaGreatDoorCpAa
import Derived.Test.YthncfchnkjemiaaGreatDoorCpAc
import Derived.Test.YthncfchnkjemiaaGreatDoorCpAq
import Derived.Laws.AppendOwn
import Derived.Orders
import Derived.Laws.OwnMore
set_option linter.unusedVariables false
set_option linter.unusedSimpArgs false
set_option linter.unusedSectionVars false
set_option maxRecDepth 100000
namespace Go.Proofs.YthncfchnkjemiaaGreatDoor
open Go Go.RowKit
section
variable {P:Program} {R:Rg} {Q:Exit→Act→World→Prop} {B i:Nat} {w0:Bs}
theorem ptr_zero {g:Nat}:offP (ptrH.f g) (.some 0)=ptrH.f g:=by simp [ptrH,ptr,offP,add0]
theorem a_mov0 {b T':Nat} {A:As} (hl:Loc R i b T' A):Ad P Q R B w0 i (.move (.tmp b)) b (.some 0):=by
 intro d ty ps af gd a w av K hK
 obtain ⟨g,cs,h1,_⟩:=hl.ok av
 rw [h1,ptr_zero] at hK
 exact wp_value (w':=w) (v:=a.eval (.tmp b)) rfl (by rw [h1]; exact hK)
theorem a_nil0 {b t T':Nat} {A:As} (j:Nat) (hj:R.sp[j]?=some (.adr t b (.some 0) True)) (hji:(R.anc i).contains j=true) (hl:Loc R i b T' A):Ad P Q R B w0 i (.nilCheck (.tmp t)) b (.some 0):=by
 intro d ty ps af gd a w av K hK
 obtain ⟨g,cs,h1,_⟩:=hl.ok av
 have h2:=av.d j t b (.some 0) True hji hj trivial
 rw [h1,ptr_zero] at h2 hK
 have h2':a.eval (.tmp t)=.pointer (some ⟨g,0,none⟩):=h2
 exact wp_value (w':=w) (v:=.pointer (some ⟨g,0,none⟩)) (by simp [execOp,h2']) hK
theorem nrm_ret {fn:Func} {RQ':Ending→World→Prop} {a:Act} {w:World} (h:bPost P fn RQ' .ret a w):bPost P fn RQ' .normal a w:=h
theorem nil_sl {E:TypeId} {D:List TypeId}:Wk (EqV (.slice none 0 0)) (SlA E D []).va:=fun _ v _ h=>by
 have e:v=.slice none 0 0:=h
 subst e
 exact ⟨[.slice none 0 0],⟨(fun A hA=>by cases hA),none,0,[],rfl,Nat.le_refl _,Nat.zero_le _,⟨[],rfl,.nil⟩,fun h=>by cases h⟩,rfl⟩
def Arr (P:Program) (T:TypeId) (Z:List As):Prop :=
 ∃ it z n E ie,P.info? T=some it∧it.zero=some z∧P.underlying T=some (.array n E)∧P.info? E=some ie∧(∀ f,f<Z.length→some (f*ie.size,ie.size)=(placesOf Z)[f]?)∧∀ B w,(cat Z).p B z.cells.toList w
theorem Arr.zero {T:TypeId} {Z:List As} (h:Arr P T Z):Zero P T (cat Z):=by
 obtain ⟨it,z,_,_,_,h1,h2,_,_,_,h3⟩:=h
 exact ⟨it,z,h1,h2,h3⟩
end
end Go.Proofs.YthncfchnkjemiaaGreatDoor
namespace Go.Proofs.YthncfchnkjemiaaGreatDoor
open Go Go.RowKit
def asM (e:Int) (m:MQ):RM × Int:=if e=0 then (if [m.a,m.b,m.c,m.d].any longQ then (rm0,4) else (rmOf m,0)) else (rm0,e)
abbrev MR (r:RM × Int):VA:=Tu [(RMA r.1).va,In r.2]
end Go.Proofs.YthncfchnkjemiaaGreatDoor
namespace Go.Proofs.YthncfchnkjemiaaGreatDoor
open Go Go.RowKit
section
variable {P:Program} {R:Rg} {Q:Exit→Act→World→Prop} {B:Nat} {w0:Bs} {a:Act} {w:World}
end
end Go.Proofs.YthncfchnkjemiaaGreatDoor
namespace Go.Proofs.YthncfchnkjemiaaGreatDoor
open Go Go.RowKit
def cutW (w w':World):World:={ w' with heap:=w'.heap.extract 0 w.heap.size }
theorem cut_at {w w':World} (hs:w.heap.size≤w'.heap.size) {k:Nat} (hk:k<w.heap.size):(cutW w w').heap[k]?=w'.heap[k]?:=by
 show (w'.heap.extract 0 w.heap.size)[k]?=_
 rw [Array.getElem?_extract]
 simp
 omega
theorem cut_size {w w':World} (hs:w.heap.size≤w'.heap.size):(cutW w w').heap.size=w.heap.size:=by
 show (w'.heap.extract 0 w.heap.size).size=_
 simp
 omega
theorem cut_wr {w w':World} {g:Nat} (h:w.grownBy w' (some g)):Wr g w (cutW w w') :=
 ⟨h.os,h.tape,h.output,cut_size h.size,fun k hk=>by
  by_cases hlt:k<w.heap.size
  ·rw [cut_at h.size hlt]
   exact h.block k hlt (fun e=>hk (by injection e))
  ·rw [Array.getElem?_eq_none (by rw [cut_size h.size]; omega),Array.getElem?_eq_none zo]⟩
theorem cut_grow {w w':World} {row:Option Nat} (h:w.grownBy w' row):Grow (cutW w w') w' :=
 ⟨rfl,rfl,rfl,by rw [cut_size h.size]; exact h.size,fun k hk=>by
  rw [cut_size h.size] at hk
  rw [cut_at h.size hk]⟩
theorem none_grow {w w':World} (h:w.grownBy w' none):Grow w w':=⟨h.os,h.tape,h.output,h.size,fun k hk=>h.block k hk (by simp)⟩
def RowOk (w:World) (b:Nat) (E:TypeId) (row:Option Nat):Prop:=∀ g,row=some g→b≤g∧∃ c fz,w.heap[g]?=some (.cells c E fz)
theorem DefOk.grown {w0:Bs} {a a':Act} {w w':World} {b:Nat} {E:TypeId} {row:Option Nat} (h:DefOk w0 a w) (hg:w.grownBy w' row) (hr:RowOk w b E row) (e:a'.defers=a.defers):DefOk w0 a' w' :=
 h.keep e fun D hD=>(hg.block D (Array.getElem?_eq_some_iff.1 hD).1 (fun e=>by
  obtain ⟨_,c,fz,hc⟩:=hr D e.symm
  rw [hc] at hD
  cases hD)).trans hD
theorem VA.grown {A:VA} {B b:Nat} {v:Value} {w w':World} {E:TypeId} {row:Option Nat} (hp:A.p B v w) (hg:w.grownBy w' row) (hr:RowOk w b E row) (hb:B≤b) (hE:E ∉ A.deps):A.p B v w':=by
 cases row with
 | none=>exact A.grow _ _ _ _ (none_grow hg) hp
 | some g =>
  obtain ⟨h1,c,fz,h2⟩:=hr g rfl
  exact A.grow _ _ _ _ (cut_grow hg) (A.wr _ _ _ _ _ _ _ _ h2 hE (Nat.le_trans hb h1) (cut_wr hg) hp)
theorem As.grown {A:As} {B b:Nat} {cs:List Value} {w w':World} {E:TypeId} {row:Option Nat} (hp:A.p B cs w) (hg:w.grownBy w' row) (hr:RowOk w b E row) (hb:B≤b) (hE:E ∉ A.deps):A.p B cs w':=by
 cases row with
 | none=>exact A.grow _ _ _ _ (none_grow hg) hp
 | some g =>
  obtain ⟨h1,c,fz,h2⟩:=hr g rfl
  exact A.grow _ _ _ _ (cut_grow hg) (A.wr _ _ _ _ _ _ _ _ h2 hE (Nat.le_trans hb h1) (cut_wr hg) hp)
def OwnR (b:Nat) (E:TypeId) (m:Nat) (D:List TypeId) (l:List As):VA where
 p B v w:=(∀ A∈l,A.n=m)∧(∀ A∈l,∀ T∈A.deps,T∈D)∧∃ ds,(cat l).p B ds w∧w.ownsRow b E m v l.length ds
 deps:=E::D
 cg:=by
  rintro B v w w' hg ⟨h1,h2,ds,h3,h4,h5⟩
  refine ⟨h1,h2,ds,(cat l).cg _ _ _ _ hg h3,h4,?_⟩
  rcases h5 with h5 | ⟨g,cap,cur,e1,e2,e3,e4⟩
  ·exact .inl h5
  ·exact .inr ⟨g,cap,cur,e1,e2,hg.heap e3,e4⟩
 wr:=by
  rintro B v w w' g c T fz hgc hT hB hW ⟨h1,h2,ds,h3,h4,h5⟩
  simp only [List.mem_cons,not_or] at hT
  refine ⟨h1,h2,ds,(cat l).wr _ _ _ _ _ _ _ _ hgc (cat_nd h2 hT.2) hB hW h3,h4,?_⟩
  rcases h5 with h5 | ⟨g0,cap,cur,e1,e2,e3,e4⟩
  ·exact .inl h5
  ·refine .inr ⟨g0,cap,cur,e1,e2,?_,e4⟩
   have hne:g0≠g:=by
    rintro rfl
    rw [hgc] at e3
    injection e3 with e3
    injection e3 with _ e3 _
    exact hT.1 e3
   rw [hW.block g0 hne]
   exact e3
theorem own_nil {b:Nat} {E:TypeId} {m:Nat} {D:List TypeId}:Wk (EqV (.slice none 0 0)) (OwnR b E m D []):=fun _ v w h=>by
 have e:v=.slice none 0 0:=h
 subst e
 exact ⟨(fun A hA=>by cases hA),(fun A hA=>by cases hA),[],⟨[],rfl,.nil⟩,World.ownsRow_nil w b E m⟩
theorem own_sl {b:Nat} {E:TypeId} {m:Nat} {D:List TypeId} {l:List As}:Wk (OwnR b E m D l) (SlA E D l).va:=fun B v w ⟨_,h2,ds,h3,h4,h5⟩=>by
 rcases h5 with ⟨rfl,h5⟩ | ⟨g,cap,cur,rfl,e2,e3,e4,e5,e6,e7⟩
 ·refine ⟨[.slice none 0 0],⟨h2,none,0,ds,by rw [h5],by omega,Nat.zero_le _,h3,fun h=>by omega⟩,rfl⟩
 ·refine ⟨[.slice (some ⟨g,0,none⟩) l.length cap],⟨h2,_,cap,ds,rfl,e4,e5,h3,fun _=>⟨g,0,rfl,(Array.getElem?_eq_some_iff.1 e3).1,.inr ⟨_,_,e3⟩,fun j u hu=>?_⟩⟩,rfl⟩
  rw [cell_of_row w g (0+j) cur E _ e3,Nat.zero_add]
  rw [← e7,List.getElem?_take] at hu
  split at hu
  ·simpa using hu
  ·cases hu
theorem own_row {b:Nat} {E:TypeId} {m:Nat} {v:Value} {n:Nat} {ds:List Value} {w:World} (h:w.ownsRow b E m v n ds):RowOk w b E v.ownBlock:=by
 intro g hg
 obtain ⟨_,⟨rfl,_⟩ | ⟨g',cap,cur,rfl,e2,e3,_⟩⟩:=h
 ·cases hg
 ·have:g'=g:=by injection hg
  subst this
  exact ⟨e2,_,_,e3⟩
theorem all2_app {α β:Type} {R':α→β→Prop} {l1 l2:List α} {m1 m2:List β} (h:All2 R' l1 m1) (h':All2 R' l2 m2):All2 R' (l1++l2) (m1++m2):=by
 induction h with
 | nil=>exact h'
 | cons h1 _ ih=>exact .cons h1 ih
theorem cat_app {l l':List As} {B:Nat} {ds ds':List Value} {w:World} (h:(cat l).p B ds w) (h':(cat l').p B ds' w):(cat (l++l')).p B (ds++ds') w:=by
 obtain ⟨ps,rfl,h1⟩:=h
 obtain ⟨ps',rfl,h2⟩:=h'
 exact ⟨ps++ps',by simp,all2_app h1 h2⟩
end Go.Proofs.YthncfchnkjemiaaGreatDoor
namespace Go.Proofs.YthncfchnkjemiaaGreatDoor
open Go Go.RowKit
def VT:VA:=⟨fun _ _ _=>True,[],fun _ _ _ _ _ _=>trivial,fun _ _ _ _ _ _ _ _ _ _ _ _ _=>trivial⟩
theorem St.wkG {B N:Nat} {w0:Bs} {Γ:List (Nat × VA)} {Λ:List Lc} {a:Act} {w:World} (h:St B w0 N Γ Λ a w) {s:Nat} {A A':VA} (k:Nat) (hm:Γ[k]?=some (s,A)) (hw:Wk A A'):St B w0 N (Γ.set k (s,A')) Λ a w :=
 ⟨h.lo,h.defers,h.size,h.base,fun x hx=>by
  rcases List.mem_or_eq_of_mem_set hx with hx | rfl
  ·exact h.vals x hx
  ·exact hw _ _ _ (h.vals _ (List.mem_of_getElem? hm)),h.locs,h.dis⟩
def lesN (Λ:List Lc):List Le:=Λ.map fun l=>⟨l.s,l.T,l.H,none,l.A,none⟩
section
variable {P:Program} {Q:Exit→Act→World→Prop} {B N:Nat} {w0:Bs} {Γ:List (Nat × VA)} {Λ:List Lc} {a:Act} {w:World}
end
theorem run_app_zero {P:Program} {w:World} (base:Nat) (t ty e:TypeId) (i:TypeInfo) (size:Nat) (ht:P.underlying t=some (.slice e)) (hi:P.info? e=some i)
  (v:Value) (n c:Nat) (xs:List Value) (hown:w.ownsRow base e size v n xs):(Builtin.append_ #[t,t] ty #[v,.slice none 0 c]).run P w=.ok v w:=by
 rcases hown.2 with ⟨rfl,rfl⟩ | ⟨g,cap,cur,rfl,_,_,hnc,_⟩
 ·simp [Builtin.append_,run_underlying ht,sizeOf,typeInfo,hi,Builtin.lenOf,Builtin.firstCells]
 ·simp [Builtin.append_,run_underlying ht,sizeOf,typeInfo,hi,Builtin.lenOf,Builtin.firstCells,hnc,storeCells]
theorem cat_len {l:List As} {m:Nat} (hm:∀ A∈l,A.n=m):(cat l).n=l.length*m:=by
 induction l with
 | nil=>simp [cat]
 | cons A l ih =>
  have:=ih fun A' h=>hm A' (List.mem_cons_of_mem _ h)
  simp only [cat,List.map_cons,List.sum_cons,List.length_cons] at this ⊢
  rw [this,hm A (by simp),Nat.add_mul,Nat.one_mul,Nat.add_comm]
theorem run_ownM {P:Program} {S E T1:TypeId} {m bytes b B:Nat} {D D':List TypeId} {l xs:List As} {w:World} {v u:Value} {it:TypeInfo} {z:Value}
  (hS:P.underlying S=some (.slice E)) (hi:P.info? E=some it) (hz:it.zero=some z) (hsz:it.size=m) (hby:it.bytes=bytes) (hzs:z.cells.size=m) (hm0:0<m) (hl:l.length+xs.length≤100000000000) (hb6:bytes≤1000)
  (hv:(OwnR b E m D l).p B v w) (hu:(SlA E D' xs).va.p B u w) (hD':∀ T∈D',T∈D) (hED:E ∉ D) (hxm:∀ x∈xs,x.n=m) (hbw:b≤w.heap.size) (hB:B≤b) :
  ∃ v' w',(Builtin.append_ #[S,S] T1 #[v,u]).run P w=.ok v' w'∧(OwnR b E m D (l++xs)).p B v' w'∧w.grownBy w' v.ownBlock∧RowOk w b E v.ownBlock:=by
 obtain ⟨h1,h2,ds,h3,h4⟩:=hv
 obtain ⟨cs,⟨hD,Ad,c,ds1,rfl,_,_,h5,h6⟩,hu'⟩:=hu
 have hu2:u=.slice Ad xs.length c:=hu'
 subst hu2
 have hl1:ds1.length=xs.length*m:=by rw [(cat xs).len _ _ _ h5,cat_len hxm]
 have hro:=own_row h4
 have hmx:l.length+xs.length≤maxLen:=by unfold maxLen; omega
 have hbt:(l.length+xs.length)*bytes≤140737488355328:=Nat.le_trans (Nat.mul_le_mul hl hb6) zd
 have fin:∀ v' w',w'.ownsRow b E m v' (l.length+xs.length) (ds++ds1)→w.grownBy w' v.ownBlock→(OwnR b E m D (l++xs)).p B v' w':=fun v' w' r1 r2=>by
  refine ⟨fun A hA=>?_,fun A hA=>?_,ds++ds1,cat_app (As.grown h3 r2 hro hB (cat_nd h2 hED)) (As.grown h5 r2 hro hB (cat_nd (fun A hA T hT=>hD' T (hD A hA T hT)) hED)),by rw [List.length_append]; exact r1⟩
  ·rcases List.mem_append.1 hA with hA | hA
   ·exact h1 A hA
   ·exact hxm A hA
  ·rcases List.mem_append.1 hA with hA | hA
   ·exact h2 A hA
   ·exact fun T hT=>hD' T (hD A hA T hT)
 have some_case:∀ a:Addr,Ad=some a→(∀ (j:Nat) u,ds1[j]?=some u→w.cell? (a.add j)=some u)→∃ v' w',(Builtin.append_ #[S,S] T1 #[v,.slice Ad xs.length c]).run P w=.ok v' w'∧(OwnR b E m D (l++xs)).p B v' w'∧w.grownBy w' v.ownBlock∧RowOk w b E v.ownBlock:=fun a ha hc=>by
  subst ha
  obtain ⟨v',w',hr,r1,r2,_⟩:=run_append_own (P:=P) w b S T1 E it z m bytes hS hi hz hsz hby hzs hm0 v l.length ds h4 a xs.length c ds1 hl1 hc ((cat xs).one _ _ _ h5) hmx hbt hbw
  exact ⟨v',w',hr,fin v' w' r1 r2,r2,hro⟩
 by_cases hx:0<xs.length
 ·obtain ⟨g1,o1,rfl,_,_,h8⟩:=h6 hx
  exact some_case _ rfl fun j u hj=>by rw [add_k]; exact h8 j u hj
 ·have h0:xs.length=0:=by omega
  have hds0:ds1=[]:=List.length_eq_zero_iff.1 (by rw [hl1,h0,Nat.zero_mul])
  cases Ad with
  | some a=>exact some_case a rfl fun j u hj=>by rw [hds0] at hj; simp at hj
  | none =>
   rw [h0]
   refine ⟨v,w,run_app_zero b S T1 E it m hS hi v l.length c ds h4,fin v w ?_ ⟨rfl,rfl,rfl,Nat.le_refl _,fun _ _ _=>rfl⟩,⟨rfl,rfl,rfl,Nat.le_refl _,fun _ _ _=>rfl⟩,hro⟩
   rw [h0,hds0,List.append_nil]
   exact h4
section
variable {P:Program} {R:Rg} {Q:Exit→Act→World→Prop} {B:Nat} {w0:Bs} {a:Act} {w:World}
open Rg in
theorem Rg.linK {id:Nat} {Λ:List Lc} {n m:Nat} (hsz:R.ops.size=n+m) (hanc:R.anc=fun i=>List.range i) (hk:R.chk=true) (h:St B w0 R.N R.Γ Λ a w) (hles:∀ e∈R.les,e.cr=none→(⟨e.s,e.T,e.H,e.A0⟩:Lc)∈Λ)
  (hob:∀ i,i<n→R.Ob P Q B w0 i) (hQ:∀ a w,R.Inv B w0 (fun k=>decide (k<n)) a w→wpOps P R.ops Q (List.range' n m) a w):(Code.region id R.ops false).wp P Q a w:=by
 refine wp_region ?_
 have key:∀ q k,k+q=n→∀ a w,R.Inv B w0 (fun j=>decide (j<k)) a w→wpOps P R.ops Q (List.range' k (q+m)) a w:=by
  intro q
  induction q with
  | zero =>
   intro k hkm a w hi
   have:k=n:=by omega
   subst this
   rw [Nat.zero_add]
   exact hQ a w hi
  | succ q ih =>
   intro k hkm a w hi
   rw [show q+1+m=(q+m)+1 by omega,List.range'_succ,wpOps_cons]
   refine step hk (hob k zo) hi ?_ (by simp) ?_ _ fun a' w' hi'=>ih (k+1) zo a' w' (hi'.congr fun j=>?_)
   ·intro i hi j hj
    rw [hanc] at hj
    simp at hi hj ⊢
    omega
   ·intro j hj
    rw [hanc] at hj
    simpa using hj
   ·unfold upd
    by_cases h1:j=k
    ·subst h1; simp
    ·have h2:(j == k)=false:=by simpa using h1
     rw [h2,Bool.false_or,decide_eq_decide]
     omega
 rw [List.range_eq_range',hsz]
 exact key n 0 zo a w ((start h hles).congr fun j=>by simp)
end
open Rg in
theorem go_appL {P:Program} {Q:Exit→Act→World→Prop} {B N:Nat} {w0:Bs} {Γ:List (Nat × VA)} {Λ:List Lc} {a:Act} {w:World} {id:Nat} {ops:Array Oper} {sp:List Sp} (n:Nat) (src:List Nat) (i1 i2:Nat) {S E T1 T2:TypeId} {s u d e m bytes:Nat} {ps1 ps2:String} {af1 af2:Array Edge} {D D':List TypeId} {l xs:List As} {A2:VA} {it:TypeInfo} {z:Value}
  (h:St B w0 N Γ Λ a w) (hob:Obs P Q ⟨ops,N,Γ,lesN Λ,sp,fun i=>List.range i⟩ B w0 0 n) (hn2:ops.size=n+2) (hk:Rg.chk ⟨ops,N,Γ,lesN Λ,sp,fun i=>List.range i⟩=true)
  (ho1:ops[n]?=some ⟨some d,.call ⟨.builtin .append,#[.tmp s,.tmp u],#[S,S]⟩,T1,ps1,af1,none⟩) (ho2:ops[n+1]?=some ⟨some e,.assign (.tmp d),T2,ps2,af2,none⟩)
  (hi1:i1<n) (h1:sp[i1]?=some (.val s (OwnR w0.w.heap.size E m D l))) (hi2:i2<n) (h2:sp[i2]?=some (.val u A2)) (hA2:∀ w u,A2.p B u w→Kept w0 w→(SlA E D' xs).va.p B u w)
  (hS:P.underlying S=some (.slice E)) (hi:P.info? E=some it) (hz:it.zero=some z) (hsz:it.size=m) (hby:it.bytes=bytes) (hzs:z.cells.size=m) (hm0:0<m) (hl:l.length+xs.length≤100000000000) (hb6:bytes≤1000)
  (hD':∀ T∈D',T∈D) (hED:E ∉ D) (hxm:∀ x∈xs,x.n=m) (hde:(d != e)=true) (hd:d<N) (he:e<N)
  (hsrc:src.all (fun k=>match Γ[k]? with | some y => !y.2.deps.contains E && Rg.outG ⟨ops,N,Γ,lesN Λ,sp,fun i=>List.range i⟩ y.1 | none=>false)=true)
  (hΛ:Λ.all (fun l=>l.T != E && !l.A.deps.contains E && l.s != d && l.s != e)=true)
  (hQ:∀ a w,St B w0 N ((e,OwnR w0.w.heap.size E m D (l++xs))::src.filterMap (fun k=>Γ[k]?)) Λ a w→Q .normal a w):(Code.region id ops false).wp P Q a w:=by
 have hles0:∀ y∈lesN Λ,y.cr=none∧y.st=none∧(⟨y.s,y.T,y.H,y.A0⟩:Lc)∈Λ:=fun y hy=>by
  obtain ⟨l',hl',rfl⟩:=List.mem_map.1 hy
  exact ⟨rfl,rfl,hl'⟩
 refine Rg.linK (R:=⟨ops,N,Γ,lesN Λ,sp,fun i=>List.range i⟩) (m:=2) hn2 rfl hk h (fun y hy _=>(hles0 y hy).2.2) (fun i hi=>hob.all i zo zo) fun a1 w1 hinv=>?_
 have hcl:∀ deps,Rg.clash ⟨ops,N,Γ,lesN Λ,sp,fun i=>List.range i⟩ (fun k=>decide (k<n)) deps=false:=fun deps=>by
  unfold Rg.clash
  rw [List.any_eq_false]
  intro y hy
  rw [(hles0 y hy).2.1]
  simp
 have hv:=hinv.v i1 _ s _ h1 rfl (decide_eq_true hi1) (hcl _)
 have hu:=hA2 _ _ (hinv.v i2 _ u _ h2 rfl (decide_eq_true hi2) (hcl _)) hinv.base
 have hB:B≤w0.w.heap.size:=hinv.lo _ (.inl (Nat.le_refl _))
 obtain ⟨v',w',hr,r1,r2,r3⟩:=run_ownM (T1:=T1) hS hi hz hsz hby hzs hm0 hl hb6 hv hu hD' hED hxm hinv.base.size hB
 have hdsz:d<a1.tmps.size:=by rw [hinv.size]; exact hd
 have hesz:e<(a1.put (some d) v').tmps.size:=by rw [size_put,hinv.size]; exact he
 have hne:d≠e:=by simpa using hde
 rw [List.range'_succ,wpOps_cons]
 refine wpOp_of (R:=⟨ops,N,Γ,lesN Λ,sp,fun i=>List.range i⟩) ho1 rfl (wp_value (w':=w') (v:=v') (by simp [execOp,resolve,invoke,builtin,hr,Result.andThen]) ?_)
 rw [List.range'_succ,wpOps_cons]
 refine wpOp_of (R:=⟨ops,N,Γ,lesN Λ,sp,fun i=>List.range i⟩) ho2 rfl (wp_value (w':=w') (v:=v') ?_ (hQ _ _ ?_))
 ·have:=eval_put_same a1 d v' hdsz
  simp [execOp,this]
 ·have hother:∀ t,t≠d→t≠e→((a1.put (some d) v').put (some e) v').eval (.tmp t)=a1.eval (.tmp t):=fun t h3 h4=>by
   rw [eval_put_other _ _ _ _ h4,eval_put_other _ _ _ _ h3]
  have hlc:∀ l'∈Λ,l'.T≠E∧E ∉ l'.A.deps∧l'.s≠d∧l'.s≠e:=fun l' hl'=>by
   have:=List.all_eq_true.1 hΛ l' hl'
   simp only [Bool.and_eq_true,bne_iff_ne,Bool.not_eq_true',List.contains_eq_mem,decide_eq_false_iff_not] at this
   exact ⟨this.1.1.1,this.1.1.2,this.1.2,this.2⟩
  have hcur:∀ l'∈Λ,(⟨l'.s,l'.T,l'.H,none,l'.A,none⟩:Le)∈lesN Λ:=fun l' hl'=>List.mem_map.2 ⟨l',hl',rfl⟩
  refine ⟨hinv.lo,hinv.defers.grown r2 r3 rfl,by rw [size_put,size_put]; exact hinv.size,?_,?_,?_,?_⟩
  ·exact ⟨r2.os.trans hinv.base.os,r2.tape.trans hinv.base.tape,r2.output.trans hinv.base.output,Nat.le_trans hinv.base.size r2.size,fun k hk hf =>
    (r2.block k (Nat.lt_of_lt_of_le hk hinv.base.size) (fun e=>by have:=(r3 k e.symm).1; omega)).trans (hinv.base.block k hk hf)⟩
  ·intro y hy
   rcases List.mem_cons.1 hy with rfl | hy
   ·show (OwnR w0.w.heap.size E m D (l++xs)).p B (((a1.put (some d) v').put (some e) v').eval (.tmp e)) w'
    rw [eval_put_same _ _ _ hesz]
    exact r1
   ·obtain ⟨k,hk1,hk2⟩:=List.mem_filterMap.1 hy
    have hs:=List.all_eq_true.1 hsrc k hk1
    simp only [hk2,Bool.and_eq_true,Bool.not_eq_true',List.contains_eq_mem,decide_eq_false_iff_not] at hs
    have hout:∀ q,q<ops.size→Rg.dst ⟨ops,N,Γ,lesN Λ,sp,fun i=>List.range i⟩ q≠some y.1:=fun q hq=>by
     have:=List.all_eq_true.1 hs.2 q (by simpa using hq)
     simpa using this
    have g1:y.1≠d:=fun e1=>hout n zo (by unfold Rg.dst; rw [ho1,e1]; rfl)
    have g2:y.1≠e:=fun e1=>hout (n+1) zo (by unfold Rg.dst; rw [ho2,e1]; rfl)
    rw [hother _ g1 g2]
    exact VA.grown (hinv.g y (List.mem_of_getElem? hk2) (fun q hq hdq=>absurd hdq (hout q hq)) (hcl _)) r2 r3 hB hs.1
  ·intro l' hl'
   obtain ⟨g1,g2,g3,g4⟩:=hlc l' hl'
   obtain ⟨g,cs,e1,e2,e3,e4⟩:=hinv.c _ (hcur l' hl') l'.A rfl
   refine ⟨g,cs,by rw [hother _ g3 g4]; exact e1,e2,?_,As.grown e4 r2 r3 hB g2⟩
   rw [r2.block g (Array.getElem?_eq_some_iff.1 e3).1 (fun e5=>by
    obtain ⟨_,c,fz,e6⟩:=r3 g e5.symm
    rw [e3] at e6
    injection e6 with e6
    injection e6 with _ e6 _
    exact g1 e6)]
   exact e3
  ·intro l1 hl1 l2 hl2 hne'
   obtain ⟨_,_,g3,g4⟩:=hlc l1 hl1
   obtain ⟨_,_,g5,g6⟩:=hlc l2 hl2
   rw [hother _ g3 g4,hother _ g5 g6]
   exact hinv.x _ (hcur l1 hl1) _ (hcur l2 hl2) hne' rfl rfl
section
variable {P:Program} {Q:Exit→Act→World→Prop} {B N:Nat} {w0:Bs} {Γ:List (Nat × VA)} {Λ:List Lc} {a:Act} {w:World}
end
def OwnB (b:Nat) (E:TypeId) (m:Nat) (D:List TypeId) (l:List As):VA where
 p B v w:=b≤w.heap.size∧B≤b∧(OwnR b E m D l).p B v w
 deps:=E::D
 cg:=fun B v w w' hg ⟨h1,h2,h3⟩=>⟨Nat.le_trans h1 hg.size,h2,(OwnR b E m D l).cg B v w w' hg h3⟩
 wr:=fun B v w w' g c T fz hgc hT hB hW ⟨h1,h2,h3⟩=>⟨by rw [hW.size]; exact h1,h2,(OwnR b E m D l).wr B v w w' g c T fz hgc hT hB hW h3⟩
def PtrLt (b:Nat):VA where
 p _ v _:=∃ g,blk v=some g∧g<b
 deps:=[]
 cg:=fun _ _ _ _ _ h=>h
 wr:=fun _ _ _ _ _ _ _ _ _ _ _ _ h=>h
open Rg in
theorem go_appB {P:Program} {Q:Exit→Act→World→Prop} {B N:Nat} {w0:Bs} {Γ:List (Nat × VA)} {Λ:List Lc} {a:Act} {w:World} {id:Nat} {ops:Array Oper} {sp:List Sp} (n:Nat) (src:List Nat) (i1 i2 k3:Nat) {S E T1 T2:TypeId} {s u d e m bytes b s3:Nat} {ps1 ps2:String} {af1 af2:Array Edge} {D D':List TypeId} {l xs:List As} {A2:VA} {it:TypeInfo} {z:Value}
  (h:St B w0 N Γ Λ a w) (hob:Obs P Q ⟨ops,N,Γ,lesN Λ,sp,fun i=>List.range i⟩ B w0 0 n) (hn2:ops.size=n+2) (hk:Rg.chk ⟨ops,N,Γ,lesN Λ,sp,fun i=>List.range i⟩=true)
  (ho1:ops[n]?=some ⟨some d,.call ⟨.builtin .append,#[.tmp s,.tmp u],#[S,S]⟩,T1,ps1,af1,none⟩) (ho2:ops[n+1]?=some ⟨some e,.assign (.tmp d),T2,ps2,af2,none⟩)
  (hi1:i1<n) (h1:sp[i1]?=some (.val s (OwnB b E m D l))) (hi2:i2<n) (h2:sp[i2]?=some (.val u A2)) (h3:Γ[k3]?=some (s3,PtrLt b)) (ho3:Rg.outG ⟨ops,N,Γ,lesN Λ,sp,fun i=>List.range i⟩ s3=true) (hwb:w0.w.heap.size≤b) (hA2:∀ w u,A2.p B u w→Kept w0 w→(SlA E D' xs).va.p B u w)
  (hS:P.underlying S=some (.slice E)) (hi:P.info? E=some it) (hz:it.zero=some z) (hsz:it.size=m) (hby:it.bytes=bytes) (hzs:z.cells.size=m) (hm0:0<m) (hl:l.length+xs.length≤100000000000) (hb6:bytes≤1000)
  (hD':∀ T∈D',T∈D) (hED:E ∉ D) (hxm:∀ x∈xs,x.n=m) (hde:(d != e)=true) (hd:d<N) (he:e<N)
  (hsrc:src.all (fun k=>match Γ[k]? with | some y => !y.2.deps.contains E && Rg.outG ⟨ops,N,Γ,lesN Λ,sp,fun i=>List.range i⟩ y.1 | none=>false)=true)
  (hΛ:Λ.all (fun l=>(l.T != E || l.s == s3) && !l.A.deps.contains E && l.s != d && l.s != e)=true)
  (hQ:∀ a w,St B w0 N ((e,OwnB b E m D (l++xs))::src.filterMap (fun k=>Γ[k]?)) Λ a w→Q .normal a w):(Code.region id ops false).wp P Q a w:=by
 have hles0:∀ y∈lesN Λ,y.cr=none∧y.st=none∧(⟨y.s,y.T,y.H,y.A0⟩:Lc)∈Λ:=fun y hy=>by
  obtain ⟨l',hl',rfl⟩:=List.mem_map.1 hy
  exact ⟨rfl,rfl,hl'⟩
 refine Rg.linK (R:=⟨ops,N,Γ,lesN Λ,sp,fun i=>List.range i⟩) (m:=2) hn2 rfl hk h (fun y hy _=>(hles0 y hy).2.2) (fun i hi=>hob.all i zo zo) fun a1 w1 hinv=>?_
 have hcl:∀ deps,Rg.clash ⟨ops,N,Γ,lesN Λ,sp,fun i=>List.range i⟩ (fun k=>decide (k<n)) deps=false:=fun deps=>by
  unfold Rg.clash
  rw [List.any_eq_false]
  intro y hy
  rw [(hles0 y hy).2.1]
  simp
 obtain ⟨hbw,hB,hv⟩:=hinv.v i1 _ s _ h1 rfl (decide_eq_true hi1) (hcl _)
 have hout:∀ t,Rg.outG ⟨ops,N,Γ,lesN Λ,sp,fun i=>List.range i⟩ t=true→∀ q,q<ops.size→Rg.dst ⟨ops,N,Γ,lesN Λ,sp,fun i=>List.range i⟩ q≠some t:=fun t ht q hq=>by
  have:=List.all_eq_true.1 ht q (by simpa using hq)
  simpa using this
 obtain ⟨g3,hg3,hlt3⟩:=hinv.g _ (List.mem_of_getElem? h3) (fun q hq hdq=>absurd hdq (hout _ ho3 q hq)) (hcl _)
 have hu:=hA2 _ _ (hinv.v i2 _ u _ h2 rfl (decide_eq_true hi2) (hcl _)) hinv.base
 obtain ⟨v',w',hr,r1,r2,r3⟩:=run_ownM (T1:=T1) hS hi hz hsz hby hzs hm0 hl hb6 hv hu hD' hED hxm hbw hB
 have hdsz:d<a1.tmps.size:=by rw [hinv.size]; exact hd
 have hesz:e<(a1.put (some d) v').tmps.size:=by rw [size_put,hinv.size]; exact he
 have hne:d≠e:=by simpa using hde
 rw [List.range'_succ,wpOps_cons]
 refine wpOp_of (R:=⟨ops,N,Γ,lesN Λ,sp,fun i=>List.range i⟩) ho1 rfl (wp_value (w':=w') (v:=v') (by simp [execOp,resolve,invoke,builtin,hr,Result.andThen]) ?_)
 rw [List.range'_succ,wpOps_cons]
 refine wpOp_of (R:=⟨ops,N,Γ,lesN Λ,sp,fun i=>List.range i⟩) ho2 rfl (wp_value (w':=w') (v:=v') ?_ (hQ _ _ ?_))
 ·have:=eval_put_same a1 d v' hdsz
  simp [execOp,this]
 ·have hother:∀ t,t≠d→t≠e→((a1.put (some d) v').put (some e) v').eval (.tmp t)=a1.eval (.tmp t):=fun t h3 h4=>by
   rw [eval_put_other _ _ _ _ h4,eval_put_other _ _ _ _ h3]
  have hlc:∀ l'∈Λ,(l'.T≠E∨l'.s=s3)∧E ∉ l'.A.deps∧l'.s≠d∧l'.s≠e:=fun l' hl'=>by
   have:=List.all_eq_true.1 hΛ l' hl'
   simp only [Bool.and_eq_true,Bool.or_eq_true,beq_iff_eq,bne_iff_ne,Bool.not_eq_true',List.contains_eq_mem,decide_eq_false_iff_not] at this
   exact ⟨this.1.1.1,this.1.1.2,this.1.2,this.2⟩
  have hcur:∀ l'∈Λ,(⟨l'.s,l'.T,l'.H,none,l'.A,none⟩:Le)∈lesN Λ:=fun l' hl'=>List.mem_map.2 ⟨l',hl',rfl⟩
  refine ⟨hinv.lo,hinv.defers.grown r2 r3 rfl,by rw [size_put,size_put]; exact hinv.size,?_,?_,?_,?_⟩
  ·exact ⟨r2.os.trans hinv.base.os,r2.tape.trans hinv.base.tape,r2.output.trans hinv.base.output,Nat.le_trans hinv.base.size r2.size,fun k hk hf =>
    (r2.block k (Nat.lt_of_lt_of_le hk hinv.base.size) (fun e=>by have:=(r3 k e.symm).1; omega)).trans (hinv.base.block k hk hf)⟩
  ·intro y hy
   rcases List.mem_cons.1 hy with rfl | hy
   ·show (OwnB b E m D (l++xs)).p B (((a1.put (some d) v').put (some e) v').eval (.tmp e)) w'
    rw [eval_put_same _ _ _ hesz]
    exact ⟨Nat.le_trans hbw r2.size,hB,r1⟩
   ·obtain ⟨k,hk1,hk2⟩:=List.mem_filterMap.1 hy
    have hs:=List.all_eq_true.1 hsrc k hk1
    simp only [hk2,Bool.and_eq_true,Bool.not_eq_true',List.contains_eq_mem,decide_eq_false_iff_not] at hs
    have hout:=hout y.1 hs.2
    have g1:y.1≠d:=fun e1=>hout n zo (by unfold Rg.dst; rw [ho1,e1]; rfl)
    have g2:y.1≠e:=fun e1=>hout (n+1) zo (by unfold Rg.dst; rw [ho2,e1]; rfl)
    rw [hother _ g1 g2]
    exact VA.grown (hinv.g y (List.mem_of_getElem? hk2) (fun q hq hdq=>absurd hdq (hout q hq)) (hcl _)) r2 r3 hB hs.1
  ·intro l' hl'
   obtain ⟨g1,g2,g3,g4⟩:=hlc l' hl'
   obtain ⟨g,cs,e1,e2,e3,e4⟩:=hinv.c _ (hcur l' hl') l'.A rfl
   refine ⟨g,cs,by rw [hother _ g3 g4]; exact e1,e2,?_,As.grown e4 r2 r3 hB g2⟩
   rw [r2.block g (Array.getElem?_eq_some_iff.1 e3).1 (fun e5=>by
    obtain ⟨h8,c,fz,e6⟩:=r3 g e5.symm
    rcases g1 with g1 | g1
    ·rw [e3] at e6
     injection e6 with e6
     injection e6 with _ e6 _
     exact g1 e6
    ·rw [← g1,e1,l'.H.ok] at hg3
     injection hg3 with hg3
     omega)]
   exact e3
  ·intro l1 hl1 l2 hl2 hne'
   obtain ⟨_,_,g3,g4⟩:=hlc l1 hl1
   obtain ⟨_,_,g5,g6⟩:=hlc l2 hl2
   rw [hother _ g3 g4,hother _ g5 g6]
   exact hinv.x _ (hcur l1 hl1) _ (hcur l2 hl2) hne' rfl rfl
theorem Cn.introF {P : Program} {f : FuncId} {fn : Func} {c : Code} {pre : List VA} {post : VA} (hf : P.funcs[f]? = some fn) (hb : fn.body = some c) (hn : (fn.name == "runtime.NumGoroutine") = false) (hsz : pre.length ≤ fn.ntmps)
  (h:∀ (B:Nat) (w0:Bs) (a:Act),NoF w0→St B w0 fn.ntmps (argΓ pre) [] a w0.w→c.wp P (bPost P fn (RQ B w0 post)) a w0.w):Cn P f pre post:=by
 refine ⟨⟨fn,hf,hn,by rw [hb]; rfl⟩,fun B w args hB ha=>(calls_of_b hf hb (h B ⟨w,fun _=>False,false⟩ _ (fun _ h=>h.elim) ?_)).mono fun _ _ ⟨v,he,hv,hk⟩=>⟨v,he,hv,hk.grow0⟩⟩
 have hl:=ha.length
 refine ⟨fun g hg=>Nat.le_trans hB (hg.resolve_right fun h=>h),DefOk.nil rfl,?_,Kept.refl _,All2.args ha,(fun l hl=>by cases hl),(fun l hl=>by cases hl)⟩
 simp only [Array.size_append,List.size_toArray,Array.size_replicate]
 omega
theorem has_again {R:Rg} {B i:Nat} {w0:Bs} {x:Operand} {v:Value} {A:VA} (hF:NoF w0) (hv:A.p B v w0.w) (h:Has R B w0 i x (EqV v)):Has R B w0 i x A:=fun a w av=>by
 have e:a.eval x=v:=h a w av
 rw [e]
 exact A.cg _ _ _ _ (hF.cg av.base) hv
theorem St.eqv {B N:Nat} {w0:Bs} {Γ:List (Nat × VA)} {Λ:List Lc} {a:Act} (h:St B w0 N Γ Λ a w0.w) {s:Nat} {A:VA} (k:Nat) (hm:Γ[k]?=some (s,A)):∃ v,A.p B v w0.w∧St B w0 N (Γ.set k (s,EqV v)) Λ a w0.w :=
 ⟨a.eval (.tmp s),h.vals _ (List.mem_of_getElem? hm),h.lo,h.defers,h.size,h.base,fun x hx=>by
  rcases List.mem_or_eq_of_mem_set hx with hx | rfl
  ·exact h.vals x hx
  ·exact rfl,h.locs,h.dis⟩
theorem free_all {l l':List VA} (h:All2 Free l l') {B B':Nat} {w:World} (hB:B'≤B):∀ {vs:List Value},All2 (fun (A:VA) x=>A.p B x w) l vs→All2 (fun (A:VA) x=>A.p B' x w) l' vs:=by
 induction h with
 | nil=>intro vs hv; cases hv; exact .nil
 | cons h _ ih=>intro vs hv; cases hv with | cons h1 h2=>exact .cons (h _ _ _ _ hB h1) (ih h2)
theorem free_tu {l l':List VA} (h:All2 Free l l'):Free (Tu l) (Tu l'):=fun _ _ _ _ hB ⟨vs,e,hv⟩=>⟨vs,e,free_all h hB hv⟩
def CnI (P:Program) (f:FuncId) (pre:List VA) (mk:Nat→VA):Prop :=
 (∃ fn, P.funcs[f]? = some fn ∧ (fn.name == "runtime.NumGoroutine") = false ∧ fn.body.isNone = false) ∧
 ∀ (B:Nat) (w:World) (args:List Value),B≤w.heap.size→All2 (fun A v=>A.p B v w) pre args →
  Calls P f args.toArray w fun e w'=>∃ v,e=.returned v∧(mk w.heap.size).p B v w'∧Grow w w'
theorem CnI.introF {P : Program} {f : FuncId} {fn : Func} {c : Code} {pre : List VA} {mk : Nat → VA} (hf : P.funcs[f]? = some fn) (hb : fn.body = some c) (hn : (fn.name == "runtime.NumGoroutine") = false) (hsz : pre.length ≤ fn.ntmps)
  (h:∀ (B:Nat) (w0:Bs) (a:Act),(∀ g,¬ w0.F g)→NoF w0→St B w0 fn.ntmps (argΓ pre) [] a w0.w→c.wp P (bPost P fn (RQ B w0 (mk w0.w.heap.size))) a w0.w):CnI P f pre mk:=by
 refine ⟨⟨fn,hf,hn,by rw [hb]; rfl⟩,fun B w args hB ha=>(calls_of_b hf hb (h B ⟨w,fun _=>False,false⟩ _ (fun _ h=>h) (fun _ h=>h.elim) ?_)).mono fun _ _ ⟨v,he,hv,hk⟩=>⟨v,he,hv,hk.grow0⟩⟩
 have hl:=ha.length
 refine ⟨fun g hg=>Nat.le_trans hB (hg.resolve_right fun h=>h),DefOk.nil rfl,?_,Kept.refl _,All2.args ha,(fun l hl=>by cases hl),(fun l hl=>by cases hl)⟩
 simp only [Array.size_append,List.size_toArray,Array.size_replicate]
 omega
end Go.Proofs.YthncfchnkjemiaaGreatDoor
namespace Go.Proofs.YthncfchnkjemiaaGreatDoor
open Go Go.RowKit
def fw (o:Option Nat):Fence:={ fn:=fun _=>True,depth:=none,alive:=false,round:=o }
section
variable {P:Program} {R:Rg} {Q:Exit→Act→World→Prop} {B:Nat} {w0:Bs} {a:Act} {w:World} {o:Option Nat}
end
section
variable {P:Program} {R:Rg} {Q:Exit→Act→World→Prop} {B:Nat} {w0:Bs} {a:Act} {w:World} {o:Option Nat}
open Rg in
theorem Rg.drawK {id:Nat} {Λ:List Lc} {n m:Nat} (hsz2:R.ops.size=n+m) (hm0:0<m) (hm:P.follows .mixedOrders=true) (hanc:ancOk R=true) (hk:R.chk=true) (h:St B w0 R.N R.Γ Λ a w) (hles:∀ e∈R.les,e.cr=none→(⟨e.s,e.T,e.H,e.A0⟩:Lc)∈Λ)
  (hob:∀ i,i<n→R.Ob P Q B w0 i) (ha1:∀ i,n≤i→i<n+m→∀ j,j<i→(R.anc i).contains j=true)
  (hQ:∀ a w,R.Inv B w0 (fun k=>decide (k<n)) a w→wpOps P R.ops Q (List.range' n m) a w) :
  (Code.region id R.ops true).wp P Q a w:=by
 refine wp_region_any hm ?_
 have ho:∀ i,i<R.ops.size→∃ o:Oper,R.ops[i]?=some o∧(∀ j,(R.anc i).contains j=true→∃ e∈o.after,Region.binds .any e=true∧(e.on=j∨(R.anc e.on).contains j=true)) ∧
   ∀ e∈o.after,Region.binds .any e=true→e.on<i:=by
  intro i hi
  have:=List.all_eq_true.1 hanc i (by simpa using hi)
  cases hoi:R.ops[i]? with
  | none=>rw [hoi] at this; cases this
  | some o =>
   rw [hoi] at this
   simp only [Bool.and_eq_true] at this
   refine ⟨o,rfl,fun j hj=>?_,fun e he hb=>?_⟩
   ·have hh:=List.all_eq_true.1 this.1 j (by simpa using hj)
    obtain ⟨e,he,h1⟩:=Array.any_eq_true'.1 hh
    simp only [Bool.and_eq_true,Bool.or_eq_true,beq_iff_eq] at h1
    exact ⟨e,he,h1.1,h1.2⟩
   ·have hh:=Array.all_eq_true'.1 this.2 e he
    simpa [hb] using hh
 have hrd:∀ (listed:Array Bool) i,i∈Region.ready .any R.ops listed→i<R.ops.size∧listed.getD i true=false∧∀ o,R.ops[i]?=some o→∀ e∈o.after,Region.binds .any e=true→listed.getD e.on false=true:=by
  intro listed i hi
  unfold Region.ready at hi
  obtain ⟨h1,h2⟩:=List.mem_filter.1 hi
  simp only [Bool.and_eq_true,Bool.not_eq_true'] at h2
  refine ⟨by simpa using h1,h2.1,fun o hoi e he hb=>?_⟩
  have h3:=h2.2
  rw [hoi] at h3
  simp only [Option.map_some,Option.getD_some] at h3
  have:=Array.all_eq_true'.1 h3 e he
  simpa [hb] using this
 have hset:∀ (listed:Array Bool) (i k:Nat),listed.size=R.ops.size→i<R.ops.size→(listed.setIfInBounds i true).getD k false=upd (fun i=>listed.getD i false) i k:=by
  intro listed i k hsz hi
  unfold upd
  by_cases hki:k=i
  ·subst hki
   simp [hsz,hi]
  ·simp [hki,Array.getElem?_setIfInBounds_ne (fun e=>hki e.symm)]
 have hpos:∀ (listed:Array Bool) (i:Nat),i<R.ops.size→listed.getD i false=false→0<(List.range R.ops.size).countP (fun k => !listed.getD k false):=fun listed i hi hl =>
  List.countP_pos_iff.2 ⟨i,by simpa using hi,by simp only [hl]; rfl⟩
 have hlt:∀ (listed:Array Bool) (i:Nat),listed.size=R.ops.size→i<R.ops.size→listed.getD i false=false→(List.range R.ops.size).countP (fun k => !(listed.setIfInBounds i true).getD k false)<(List.range R.ops.size).countP (fun k => !listed.getD k false):=by
  intro listed i hsz hi hLi
  refine countP_lt (x:=i) (fun x hx=>?_) (by simpa using hi) (by rw [hLi]; rfl) (by rw [hset listed i i hsz hi,upd_same]; rfl)
  have hx':upd (fun i=>listed.getD i false) i x=false:=by
   rw [← hset listed i x hsz hi]
   simpa only [Bool.not_eq_true'] using hx
  rw [(upd_false hx').2]
  rfl
 have hfull:∀ (listed:Array Bool),listed.size=R.ops.size→Region.ready .any R.ops listed=[]→∀ k,k<R.ops.size→listed.getD k false=true:=by
  intro listed hsz hr k
  induction k using Nat.strongRecOn with
  | _ k ih =>
   intro hkn
   cases hl:listed.getD k false with
   | true=>rfl
   | false =>
    exfalso
    obtain ⟨x,ho1,_,ho3⟩:=ho k hkn
    have:k∈Region.ready .any R.ops listed:=by
     unfold Region.ready
     refine List.mem_filter.2 ⟨by simpa using hkn,?_⟩
     have h0:listed.getD k true=false:=by
      simp only [Array.getD,hsz,hkn,dite_true] at hl ⊢
      exact hl
     rw [h0,ho1]
     simp only [Bool.not_false,Bool.true_and,Option.map_some,Option.getD_some]
     refine Array.all_eq_true'.2 fun e he=>?_
     cases hb:Region.binds .any e with
     | false=>rfl
     | true=>simpa using ih e.on (ho3 e he hb) (Nat.lt_trans (ho3 e he hb) hkn)
    rw [hr] at this
    cases this
 have hancL:∀ (listed:Array Bool) i,Closed R (fun i=>listed.getD i false)→i∈Region.ready .any R.ops listed→∀ j,(R.anc i).contains j=true→listed.getD j false=true:=by
  intro listed i hcl hir j hj
  obtain ⟨h1,h2,h3⟩:=hrd listed i hir
  obtain ⟨x,ho1,ho2,_⟩:=ho i h1
  obtain ⟨e,he,hb,hj'⟩:=ho2 j hj
  have hl:=h3 x ho1 e he hb
  rcases hj' with rfl | hj'
  ·exact hl
  ·exact hcl e.on hl j hj'
 have hclN:∀ (listed:Array Bool) i,listed.size=R.ops.size→Closed R (fun i=>listed.getD i false)→i∈Region.ready .any R.ops listed→Closed R (fun k=>(listed.setIfInBounds i true).getD k false):=by
  intro listed i hsz hcl hir k hk' j hj
  obtain ⟨h1,_,_⟩:=hrd listed i hir
  have hk2:upd (fun i=>listed.getD i false) i k=true:=by rw [← hset listed i k hsz h1]; exact hk'
  show (listed.setIfInBounds i true).getD j false=true
  rw [hset listed i j hsz h1]
  rcases of_upd hk2 with rfl | h4
  ·exact upd_of _ (hancL listed k hcl hir j hj)
  ·exact upd_of _ (hcl k h4 j hj)
 have tail:∀ q k,k+q=n+m→n≤k→∀ fuel (listed:Array Bool) a w,listed.size=R.ops.size→(List.range R.ops.size).countP (fun i => !listed.getD i false)≤fuel→Closed R (fun i=>listed.getD i false) →
   (∀ j,j<k→listed.getD j false=true)→(∀ j,k≤j→j<n+m→listed.getD j false=false)→wpOps P R.ops Q (List.range' k q) a w→wpAny P .any R.ops Q fuel listed a w:=by
  intro q
  induction q with
  | zero =>
   intro k hkq hnk fuel listed a w hsz hcnt hcl hall _ hwp
   have hr:Region.ready .any R.ops listed=[]:=by
    cases hrr:Region.ready .any R.ops listed with
    | nil=>rfl
    | cons i rest =>
     obtain ⟨h1,h2,_⟩:=hrd listed i (by rw [hrr]; simp)
     have:=hall i zo
     simp only [Array.getD,hsz,h1,dite_true] at h2 this
     rw [h2] at this
     cases this
   cases fuel with
   | zero=>exact ⟨hr,hwp⟩
   | succ fuel=>exact ⟨fun _=>hwp,fun i hir=>by rw [hr] at hir; cases hir⟩
  | succ q ih =>
   intro k hkq hnk fuel listed a w hsz hcnt hcl hall hnone hwp
   have hLk:listed.getD k false=false:=hnone k (Nat.le_refl _) zo
   have hp:=hpos listed k zo hLk
   cases fuel with
   | zero=>omega
   | succ fuel =>
    refine ⟨fun hr=>absurd (hfull listed hsz hr k zo) (by rw [hLk]; decide),fun i hir=>?_⟩
    obtain ⟨h1,h2,h3⟩:=hrd listed i hir
    have hik:i=k:=by
     by_cases e:i=k
     ·exact e
     ·exfalso
      by_cases hlt':i<k
      ·have:=hall i hlt'
       simp only [Array.getD,hsz,h1,dite_true] at h2 this
       rw [h2] at this
       cases this
      ·have:=hancL listed i hcl hir k (ha1 i zo zo k zo)
       rw [hLk] at this
       cases this
    subst hik
    rw [List.range'_succ,wpOps_cons] at hwp
    refine wpOp_mono (fun a' w' hr=>ih (i+1) zo zo fuel _ a' w' (by simpa using hsz) ?_ (hclN listed i hsz hcl hir) (fun j hj=>?_) (fun j hj hj2=>?_) hr) hwp
    ·have:=hlt listed i hsz h1 hLk
     omega
    ·rw [hset listed i j hsz h1]
     by_cases e:j=i
     ·rw [e]; exact upd_same _ _
     ·exact upd_of _ (hall j zo)
    ·rw [hset listed i j hsz h1,upd_ne _ zo]
     exact hnone j zo hj2
 have key:∀ fuel (listed:Array Bool) a w,listed.size=R.ops.size→(List.range R.ops.size).countP (fun i => !listed.getD i false)≤fuel→Closed R (fun i=>listed.getD i false) →
   (∀ j,n≤j→j<n+m→listed.getD j false=false)→R.Inv B w0 (fun i=>listed.getD i false) a w→wpAny P .any R.ops Q fuel listed a w:=by
  intro fuel
  induction fuel with
  | zero =>
   intro listed a w hsz hcnt hcl hn0 hi
   have:=hpos listed n zo (hn0 n (Nat.le_refl _) zo)
   omega
  | succ fuel ih =>
   intro listed a w hsz hcnt hcl hn0 hi
   have hn00:=hn0 n (Nat.le_refl _) zo
   by_cases hdone:∀ j,j<n→listed.getD j false=true
   ·refine tail m n rfl (Nat.le_refl _) (fuel+1) listed a w hsz hcnt hcl hdone hn0 (hQ a w (hi.congr fun k=>?_))
    by_cases hkn:k<n
    ·rw [hdone k hkn]; simp [hkn]
    ·by_cases hkm:k<n+m
     ·rw [hn0 k zo hkm]; simp [hkn]
     ·have:listed.getD k false=false:=by simp [Array.getD,hsz,hsz2,hkm]
      rw [this]; simp [hkn]
   ·refine ⟨fun hr=>absurd (hfull listed hsz hr n zo) (by rw [hn00]; decide),fun i hir=>?_⟩
    obtain ⟨h1,h2,h3⟩:=hrd listed i hir
    have hin:i<n:=by
     by_cases e:i<n
     ·exact e
     ·exact absurd (fun j hj=>hancL listed i hcl hir j (ha1 i zo zo j zo)) hdone
    have hLi:listed.getD i false=false:=by
     simp only [Array.getD,hsz,h1,dite_true] at h2 ⊢
     exact h2
    refine step hk (hob i hin) hi hcl hLi (hancL listed i hcl hir) _ fun a' w' hi'=>ih _ _ _ (by simpa using hsz) ?_ (hclN listed i hsz hcl hir) ?_ (hi'.congr fun k=>hset listed i k hsz h1)
    ·have:=hlt listed i hsz h1 hLi
     omega
    ·intro j hj hj2
     rw [hset listed i j hsz h1,upd_ne _ zo]
     exact hn0 j hj hj2
 refine key _ _ a _ (by simp) ?_ ?_ ?_ ?_
 ·refine Nat.le_trans (List.countP_le_length) (by simp)
 ·intro i hi
  exfalso
  simp only [Array.getD,Array.size_replicate] at hi
  split at hi <;> simp at hi
 ·intro j hj hj2
  simp only [Array.getD,Array.size_replicate]
  split <;> simp
 ·have hs:=start h hles
  have hd:R.Inv B w0 (fun _=>false) a w.drew:=⟨hs.lo,hs.defers.grow (Grow.drew w) rfl,hs.size,hs.base.drew,fun x hx h1 h2=>x.2.grow _ _ _ _ (Grow.drew w) (hs.g x hx h1 h2),(fun i y d A _ _ hf=>by cases hf),(fun i d b k c _ hf=>by cases hf),
   fun e he A hA=>(hs.c e he A hA).grow (Grow.drew w),hs.x⟩
  refine Inv.congr hd fun k=>?_
  simp only [Array.getD,Array.size_replicate]
  split <;> simp
end
section
variable {P:Program} {Q:Exit→Act→World→Prop} {B N:Nat} {w0:Bs} {Γ:List (Nat × VA)} {Λ:List Lc} {a:Act} {w:World}
end
end Go.Proofs.YthncfchnkjemiaaGreatDoor
namespace Go.Proofs.YthncfchnkjemiaaGreatDoor
open Go Go.RowKit
def rndB (b:Nat) (D:List TypeId) (gs:List Nat) (Ws W:World):Bs:=⟨W,fun k=>b≤k∧(Ws.heap.size≤k∨(k ∉ gs∧∃ c T fz,Ws.heap[k]?=some (.cells c T fz)∧T∈D)),false⟩
abbrev Stp (b:Nat) (D:List TypeId) (gs:List Nat) (W W':World):Prop:=Kept (rndB b D gs W W) W'
theorem Stp.held {b:Nat} {D:List TypeId} {gs:List Nat} {W W':World} (h:Stp b D gs W W') {k:Nat} {o:Obj} (hk:W.heap[k]?=some o) (hg:k∈gs):W'.heap[k]?=some o :=
 (h.block k (Array.getElem?_eq_some_iff.1 hk).1 (fun hF=>by
  rcases hF.2 with h1 | ⟨h1,_⟩
  ·have:=(Array.getElem?_eq_some_iff.1 hk).1; omega
  ·exact h1 hg)).trans hk
def offD (D:List TypeId) (deps:List TypeId):Bool:=deps.all fun T => !D.contains T
def CellsT (Tc:List TypeId) (gs:List Nat) (W:World):Prop:=∀ g∈gs,∃ c T fz,W.heap[g]?=some (.cells c T fz)∧T∈Tc
abbrev StpI (gs:List Nat) (W W':World):Prop:=Kept ⟨W,fun k=>k∈gs,true⟩ W'
theorem St.put {B N:Nat} {w0:Bs} {Γ:List (Nat × VA)} {Λ:List Lc} {a:Act} {W:World} {r:Nat} {o o':Obj} (h:St B w0 N Γ Λ a W) (hr:W.heap[r]?=some o) (ho:o.isCells=false) (hd:o≠.deferred (some [])) (hge:w0.w.heap.size≤r):St B w0 N Γ Λ a (W.putObj r o'):=by
 have hc:Cg W (W.putObj r o'):=⟨by simp,fun g c T fz hg=>(World.putObj_heap_other (fun e=>by subst e; rw [hg] at hr; injection hr with hr; subst hr; cases ho)).trans hg⟩
 refine ⟨h.lo,h.defers.keep rfl fun Dm hD=>(World.putObj_heap_other (fun e=>by subst e; rw [hD] at hr; injection hr with hr; exact hd hr.symm)).trans hD,h.size,⟨h.base.os,h.base.tape,h.base.output,by simpa using h.base.size,fun k hk hf=>(World.putObj_heap_other zo).trans (h.base.block k hk hf)⟩,
  fun x hx=>x.2.cg _ _ _ _ hc (h.vals x hx),fun l hl=>?_,h.dis⟩
 obtain ⟨g,cs,e1,e2,e3,e4⟩:=h.locs l hl
 exact ⟨g,cs,e1,e2,hc.heap e3,l.A.cg _ _ _ _ hc e4⟩
def CapsOk (B:Nat) (w:World) (caps:List (TypeId × As)) (gs:List Nat):Prop:=All2 (fun (c:TypeId × As) (g:Nat)=>B≤g∧∃ cs,w.heap[g]?=some (.cells (List.toArray cs) c.1 (0,0))∧c.2.p B cs w) caps gs
structure ItH (P:Program) (l B:Nat) (Db Tc:List TypeId) (gs:List Nat) (Y:Nat→List VA) (inf:Bool) (M:Nat) (J:Nat→World→Prop) (Jx:World→Prop):Prop where
 inf':inf=true→∀ W,¬ J M W
 st:∀ k W W',J k W→StpI gs W W'→CellsT Tc gs W'→J k W'
 stx:∀ W W',Jx W→StpI gs W W'→CellsT Tc gs W'→Jx W'
 ct:∀ k W,J k W→CellsT Tc gs W
 ctx:∀ W,Jx W→CellsT Tc gs W
 yd:∀ k W args,k<M→J k W→All2 (fun (A:VA) v=>A.p B v W) (Y k) args→YieldAt Fence.wide 0 P l args.toArray W fun e W'=>(e=.returned (.bool true)∧J (k+1) W'∧Stp B Db gs W W') ∨
  (e=.returned (.bool false)∧Jx W'∧W.heap.size≤W'.heap.size∧∀ D:Nat,W.heap[D]?=some (.deferred (some []))→W'.heap[D]?=some (.deferred (some [])))
def ItCg (P:Program) (f:FuncId) (caps:List (TypeId × As)) (gs:List Nat) (Y:Nat→List VA) (inf:Bool) (M:Nat) (Dd:List TypeId):Prop :=
 (∃ fn, P.funcs[f]? = some fn ∧ (fn.name == "runtime.NumGoroutine") = false ∧ fn.body.isNone = false) ∧
 ∀ (l B:Nat) (w:World) (Db:List TypeId) (J:Nat→World→Prop) (Jx:World→Prop),B≤w.heap.size→gs.Nodup→CapsOk B w caps gs→offD Db Dd=true→ItH P l B Db (caps.map Prod.fst) gs Y inf M J Jx→J 0 w →
  Calls P f (.func (.yield l) #[] #[]::gs.map ptr).toArray w fun e W'=>∃ v,e=.returned v∧(J M W'∨Jx W')
theorem caps_cells {B:Nat} {w:World} {caps:List (TypeId × As)} {gs:List Nat} (h:CapsOk B w caps gs):CellsT (caps.map Prod.fst) gs w∧∀ g∈gs,B≤g:=by
 induction h with
 | nil=>exact ⟨(fun _ h=>by cases h),(fun _ h=>by cases h)⟩
 | @cons c g cs gs hh _ ih =>
  obtain ⟨hB,ds,h1,_⟩:=hh
  refine ⟨fun g' hg=>?_,fun g' hg=>?_⟩
  ·rcases List.mem_cons.1 hg with rfl | hg
   ·exact ⟨_,_,_,h1,by simp⟩
   ·obtain ⟨c',T,fz,h2,h3⟩:=ih.1 g' hg
    exact ⟨c',T,fz,h2,by simp only [List.map_cons,List.mem_cons]; exact .inr h3⟩
  ·rcases List.mem_cons.1 hg with rfl | hg
   ·exact hB
   ·exact ih.2 g' hg
theorem eval_tmp (a:Act) (s:Nat):a.eval (.tmp s)=(a.tmps[s]?).getD undef:=by simp [Act.eval]
section
variable {P:Program} {Q:Exit→Act→World→Prop} {B N:Nat} {w0:Bs} {Γ:List (Nat × VA)} {a:Act} {w:World}
end
end Go.Proofs.YthncfchnkjemiaaGreatDoor
namespace Go.Proofs.YthncfchnkjemiaaGreatDoor
open Go Go.RowKit
theorem anc_all {anc:List (List Nat)} {n m:Nat} (h:(List.range m).all (fun q=>(List.range (n+q)).all fun j=>(anc.getD (n+q) []).contains j)=true):∀ i,n≤i→i<n+m→∀ j,j<i→(anc.getD i []).contains j=true:=fun i h1 h2 j hj=>by
 have:=List.all_eq_true.1 (List.all_eq_true.1 h (i - n) (by simp; omega)) j (by simp; omega)
 rwa [show n+(i - n)=i by omega] at this
theorem calls_of_bF {P:Program} {f:FuncId} {fn:Func} {c:Code} {args:Array Value} {w:World} {R:Ending→World→Prop} (hf:P.funcs[f]?=some fn) (hb:fn.body=some c)
  (h:c.wpIn (fw none) 0 P (bPost P fn R) { tmps:=args++Array.replicate (fn.ntmps - args.size) undef,defers:=[] } w):Calls P f args w R :=
 calls_of_b hf hb (wpIn_wide.1 h)
def itB (gs:List Nat) (w:World):Bs:=⟨w,fun k=>k∈gs,true⟩
def capsΛ (caps:List (TypeId × As)):List Lc:=caps.zipIdx.map fun x=>⟨x.2+1,x.1.1,ptrH,x.1.2⟩
def capsΓ (gs:List Nat) (n:Nat):List (Nat × VA):=(List.range n).map fun i=>(i+1,EqV (ptr (gs.getD i 0)))
structure ItG (B:Nat) (gs:List Nat) (Tc:List TypeId) (J:Nat→World→Prop) (k:Nat) (w0:Bs):Prop where
 eq:w0=itB gs w0.w
 j:J k w0.w
 ge:∀ g∈gs,B≤g
theorem nodup_at {α:Type}:∀ {l:List α},l.Nodup→∀ {i j:Nat} {x:α},l[i]?=some x→l[j]?=some x→i=j
 | [],_,_,_,_,h,_=>by cases h
 | y::l,nd,i,j,x,hi,hj=>by
  obtain ⟨n1,n2⟩:=List.nodup_cons.1 nd
  cases i with
  | zero=>cases j with
   | zero=>rfl
   | succ j =>
    have e1:y=x:=by simpa using hi
    have e2:l[j]?=some x:=by simpa using hj
    exact absurd (List.mem_of_getElem? e2) (by rw [← e1]; exact n1)
  | succ i=>cases j with
   | zero =>
    have e1:y=x:=by simpa using hj
    have e2:l[i]?=some x:=by simpa using hi
    exact absurd (List.mem_of_getElem? e2) (by rw [← e1]; exact n1)
   | succ j=>rw [nodup_at n2 (i:=i) (j:=j) (x:=x) (by simpa using hi) (by simpa using hj)]
theorem ItCg.intro {P : Program} {gs : List Nat} {f : FuncId} {fn : Func} {c : Code} {caps : List (TypeId × As)} {Y : Nat → List VA} {inf : Bool} {M : Nat} {Dd : List TypeId} (hf : P.funcs[f]? = some fn) (hb : fn.body = some c) (hn : (fn.name == "runtime.NumGoroutine") = false) (hsz : caps.length + 1 ≤ fn.ntmps)
  (h:∀ (l B:Nat) (Db:List TypeId) (J:Nat→World→Prop) (Jx:World→Prop) (w0:Bs) (a:Act),gs.length=caps.length→offD Db Dd=true→ItH P l B Db (caps.map Prod.fst) gs Y inf M J Jx→ItG B gs (caps.map Prod.fst) J 0 w0 →
   St B w0 fn.ntmps ((0,EqV (.func (.yield l) #[] #[]))::capsΓ gs caps.length) (capsΛ caps) a w0.w→c.wpIn (fw none) 0 P (bPost P fn (fun e W'=>∃ v,e=.returned v∧(J M W'∨Jx W'))) a w0.w):ItCg P f caps gs Y inf M Dd:=by
 refine ⟨⟨fn,hf,hn,by rw [hb]; rfl⟩,fun l B w Db J Jx hB hgn hcaps hoff hI hJ=>calls_of_bF hf hb (h l B Db J Jx (itB gs w) _ hcaps.length.symm hoff hI ⟨rfl,hJ,(caps_cells hcaps).2⟩ ?_)⟩
 have hlen:=hcaps.length
 have hev:∀ i (hi:i<gs.length),({ tmps:=(Value.func (.yield l) #[] #[]::gs.map ptr).toArray++Array.replicate (fn.ntmps - (Value.func (.yield l) #[] #[]::gs.map ptr).toArray.size) undef,defers:=[] }:Act).eval (.tmp (i+1))=ptr (gs.getD i 0):=fun i hi=>by
  rw [eval_tmp]
  have h1:(((Value.func (.yield l) #[] #[]::gs.map ptr).toArray++Array.replicate (fn.ntmps - (Value.func (.yield l) #[] #[]::gs.map ptr).toArray.size) undef:Array Value)[i+1]?)=some (ptr (gs.getD i 0)):=by
   rw [Array.getElem?_append_left (by simp; omega)]
   simp [List.getD,hi]
  show ((_:Array Value)[i+1]?).getD undef=_
  rw [h1]
  rfl
 have hat:∀ {i:Nat} {c:TypeId × As},caps[i]?=some c→∃ g,gs[i]?=some g∧g∈gs∧B≤g∧∃ cs,w.heap[g]?=some (.cells (List.toArray cs) c.1 (0,0))∧c.2.p B cs w:=fun {i c} hc=>by
  obtain ⟨g,h1,h2⟩:=hcaps.get hc
  exact ⟨g,h1,List.mem_of_getElem? h1,h2⟩
 have hΛ:∀ m∈capsΛ caps,∃ i c g,caps[i]?=some c∧gs[i]?=some g∧m=⟨i+1,c.1,ptrH,c.2⟩:=fun m hm=>by
  obtain ⟨x,hx,rfl⟩:=List.mem_map.1 hm
  have hx':=List.mem_zipIdx_iff_getElem?.1 hx
  obtain ⟨g,h1,_⟩:=hat hx'
  exact ⟨x.2,x.1,g,hx',h1,rfl⟩
 have hev':∀ {i g:Nat},gs[i]?=some g→({ tmps:=(Value.func (.yield l) #[] #[]::gs.map ptr).toArray++Array.replicate (fn.ntmps - (Value.func (.yield l) #[] #[]::gs.map ptr).toArray.size) undef,defers:=[] }:Act).eval (.tmp (i+1))=ptr g:=fun {i g} hg=>by
  rw [hev i (List.getElem?_eq_some_iff.1 hg).1]
  simp [List.getD,hg]
 refine ⟨fun g hg=>?_,DefOk.nil rfl,?_,Kept.refl _,fun x hx=>?_,fun m hm=>?_,fun m hm m' hm' hne=>?_⟩
 ·rcases hg with hg | hg
  ·exact Nat.le_trans hB hg
  ·exact (caps_cells hcaps).2 g hg
 ·simp only [Array.size_append,List.size_toArray,Array.size_replicate,List.length_cons,List.length_map]
  omega
 ·rcases List.mem_cons.1 hx with rfl | hx
  ·show _=_
   rw [eval_tmp]
   show ((_:Array Value)[0]?).getD undef=_
   rw [Array.getElem?_append_left (by simp)]
   simp
  ·obtain ⟨i,hi,rfl⟩:=List.mem_map.1 hx
   exact hev i (by rw [← hlen]; simpa using hi)
 ·obtain ⟨i,c,g,h1,h2,rfl⟩:=hΛ m hm
  obtain ⟨g',h3,h4,_,cs,h5,h6⟩:=hat h1
  rw [h2] at h3
  injection h3 with h3
  subst h3
  exact ⟨g,cs,hev' h2,.inr h4,h5,h6⟩
 ·obtain ⟨i,c,g,h1,h2,rfl⟩:=hΛ m hm
  obtain ⟨j,c',g',h3,h4,rfl⟩:=hΛ m' hm'
  show blk (Act.eval _ (.tmp (i+1)))≠blk (Act.eval _ (.tmp (j+1)))
  rw [hev' h2,hev' h4]
  intro e
  have e':g=g':=by injection e
  subst e'
  exact hne (by rw [nodup_at hgn h2 h4])
section
open Rg
variable {P:Program} {Q:Exit→Act→World→Prop} {B N:Nat} {w0:Bs} {Γ:List (Nat × VA)} {Λ:List Lc} {a:Act} {w:World}
end
end Go.Proofs.YthncfchnkjemiaaGreatDoor
namespace Go.Proofs.YthncfchnkjemiaaGreatDoor
open Go Go.RowKit
def OneC:As where
 n:=1
 ag:=false
 p _ cs _:=∃ v,cs=[v]∧v.oneCell'=true
 deps:=[]
 len:=by rintro B cs w ⟨v,rfl,_⟩; rfl
 one:=by
  rintro B cs w ⟨v,rfl,h⟩ c hc
  obtain rfl:=List.mem_singleton.1 hc
  exact h
 ag1:=fun _=>rfl
 cg:=fun _ _ _ _ _ h=>h
 wr:=fun _ _ _ _ _ _ _ _ _ _ _ _ h=>h
def RowMay (w0:Bs) (B:Nat) (E:TypeId):Prop:=∀ (w:World) (g:Nat) (c:Array Value) (fz:Nat × Nat),Kept w0 w→B≤g→w.heap[g]?=some (.cells c E fz)→w0.may g
section
open Rg
variable {P:Program} {Q:Exit→Act→World→Prop} {B N:Nat} {w0:Bs} {Γ:List (Nat × VA)} {Λ:List Lc} {a:Act} {w:World}
def lesS (Λ:List Lc) (e j:Nat) (A:As):List Le:=Λ.zipIdx.map fun x=>⟨x.1.s,x.1.T,x.1.H,none,x.1.A,if x.2=e then some (j,A) else none⟩
theorem lesS_of {Λ:List Lc} {e j:Nat} {A:As}:∀ y∈lesS Λ e j A,y.cr=none∧(⟨y.s,y.T,y.H,y.A0⟩:Lc)∈Λ∧∀ i B,y.st=some (i,B)→i=j:=fun y hy=>by
 obtain ⟨x,hx,rfl⟩:=List.mem_map.1 hy
 refine ⟨rfl,List.mem_of_getElem? (List.mem_zipIdx_iff_getElem?.1 hx),fun i B h=>?_⟩
 simp only at h
 split at h
 ·injection h with h
  injection h with h _
  exact h.symm
 ·cases h
end
section
open Rg
variable {P:Program} {Q:Exit→Act→World→Prop} {B N:Nat} {w0:Bs} {Γ:List (Nat × VA)} {Λ:List Lc} {a:Act} {w:World}
end
end Go.Proofs.YthncfchnkjemiaaGreatDoor
