import Derived.Test.YtljkepdpoelpkaaBsAa
import Derived.Test.YtljkepdpoelpkaaBsAc
import Derived.Test.YtljkepdpoelpkaaBsAl
import Derived.Laws.AppendOwn
import Derived.Orders
import Derived.Laws.OwnMore
import Derived.ProofKit
import Derived.OpenShut
import Derived.ChangeOld
import Derived.Below
set_option linter.unusedVariables false
set_option linter.unusedSimpArgs false
set_option linter.unusedSectionVars false
set_option maxRecDepth 100000
namespace Go.Proofs.Ytljkepdpoelpkaa
open Go Go.RowKit
section
variable {P:Program} {R:Rg} {Q:Exit→Act→World→Prop} {B i:Nat} {w0:Bs}
theorem nrm_ret {fn:Func}{RQ':Ending→World→Prop}{a:Act}{w:World}(h:bPost P fn RQ' .ret a w):bPost P fn RQ' .normal a w:=h
theorem nil_sl {E:TypeId}{D:List TypeId}:Wk (EqV (.slice none 0 0)) (SlA E D []).va:=fun _ v _ h=>by
 have e:v=.slice none 0 0:=h
 subst e
 exact ⟨[.slice none 0 0],⟨(fun A hA=>by cases hA),none,0,[],rfl,Nat.le_refl _,Nat.zero_le _,⟨[],rfl,.nil⟩,fun h=>by cases h⟩,rfl⟩
theorem r_arrv {b k m:Nat}{T E:TypeId}{l:List As}{y:Operand}{A:As}{kd:IntKind}(hl:Loc R i b T (cat l))(hS:P.underlying T=some (.array l.length E))(hsz:(P.info? E).map (·.size)=some m)(hm:∀ A∈l,A.n=m)(hy:Has R B w0 i y (NumA kd k).va)(hk:l[k]?=some A) :
  Wv P Q R B w0 i (.indexAddr T (.tmp b) y) (ElP T A) :=
 zb5 fun d T' ps af gd a w av=>by
  obtain ⟨g,cs,h1,hmay,h3,h4⟩:=hl.ok av
  have h1':a.eval (.tmp b)=.pointer (some ⟨g,0,none⟩):=h1
  have hlt:k<l.length:=(List.getElem?_eq_some_iff.1 hk).1
  obtain ⟨p1,l1⟩:=cat_part h4 hk
  have ho:=offs_all hm (k:=k) zo
  unfold offs at ho
  rw [ho] at p1 l1
  refine ⟨.pointer (some ⟨g,k*m,none⟩),w,?_,Grow.refl w,g,k*m,_,rfl,(Array.getElem?_eq_some_iff.1 h3).1,.inr ⟨_,_,h3⟩,p1,fun j u hu=>?_⟩
  ·cases hi:P.info? E with
   | none=>rw [hi] at hsz; simp at hsz
   | some it =>
    rw [hi] at hsz
    have hs2:it.size=m:=by simpa using hsz
    have e:=zbc (hy a w av)
    simp [execOp,h1',e,Instr.indexAt,asIntOf,run_underlying hS,sizeOf,typeInfo,hi,hs2,add_k,hlt,Instr.sureAddr]
  ·rw [List.getElem?_take] at hu
   split at hu
   ·rw [List.getElem?_drop] at hu
    rw [cell_of_row w g (k*m+j) cs.toArray T _ h3]
    simpa using hu
   ·cases hu
theorem fill_congr {f g:Nat→Option (Nat × Nat)}:∀ (ps:List (Nat × Value)) (cells:Array Value),(∀ p∈ps,f p.1=g p.1)→Instr.fill f cells ps=Instr.fill g cells ps
 | [],_,_=>rfl
 | (k,v)::ps,cells,h=>by
  have h1:=h (k,v) (by simp)
  have h2:=fun c=>fill_congr ps c fun p hp=>h p (by simp [hp])
  simp only [Instr.fill]
  simp only at h1
  rw [h1]
  cases g k with
  | none=>rfl
  | some x=>simp only [h2]
def Arr (P:Program)(T:TypeId)(Z:List As):Prop :=
 ∃ it z n E ie,P.info? T=some it∧it.zero=some z∧P.underlying T=some (.array n E)∧P.info? E=some ie∧(∀ f,f<Z.length→some (f*ie.size,ie.size)=(placesOf Z)[f]?)∧∀ B w,(cat Z).p B z.cells.toList w
theorem Arr.zero {T:TypeId}{Z:List As}(h:Arr P T Z):Zero P T (cat Z):=by
 obtain ⟨it,z,_,_,_,h1,h2,_,_,_,h3⟩:=h
 exact ⟨it,z,h1,h2,h3⟩
theorem all2_right {α β:Type}{R':α→β→Prop}{qs:List α}{ps:List β}(h:All2 R' qs ps){p:β}(hp:p∈ps):∃ q,R' q p:=by
 induction h with
 | nil=>cases hp
 | cons hh _ ih =>
  rcases List.mem_cons.1 hp with rfl | hp'
  ·exact ⟨_,hh⟩
  ·exact ih hp'
theorem r_buildA {T:TypeId}{Z:List As}{xs:List (Nat × Operand)}{qs:List (Nat × As)}(hT:Arr P T Z)(hx:All2 (fun (q:Nat × As) (x:Nat × Operand)=>x.1=q.1∧Has R B w0 i x.2 q.2.va∧(Z[q.1]?).map (·.n)=some q.2.n) qs xs) :
  Wv P Q R B w0 i (.build T xs.toArray) (cat (setAll Z qs)).va :=
 zb5 fun d T' ps af gd a w av=>by
  obtain ⟨it,z,n,E,ie,h1,h2,h3,h4,h6,h5⟩:=hT
  have hps:All2 (fun (q:Nat × As) (p:Nat × Value)=>p.1=q.1∧q.2.va.p B p.2 w∧(Z[q.1]?).map (·.n)=some q.2.n) qs (xs.map fun x=>(x.1,a.eval x.2)):=by
   induction hx with
   | nil=>exact .nil
   | cons h _ ih=>exact .cons ⟨h.1,h.2.1 a w av,h.2.2⟩ ih
  obtain ⟨cells',e1,e2⟩:=fill_cat (places:=placesOf Z) rfl (xs.map fun x=>(x.1,a.eval x.2)) qs Z z.cells rfl (h5 B w) hps
  refine ⟨.agg cells',w,?_,Grow.refl w,cells'.toList,e2,by simp [shape,cat]⟩
  have hin:∀ p∈(xs.map fun x=>(x.1,a.eval x.2)),some (p.1*ie.size,ie.size)=((placesOf Z).toArray[p.1]?:Option (Nat × Nat)):=by
   intro p hp
   have:p.1<Z.length:=by
    obtain ⟨q,hh⟩:=all2_right hps hp
    rw [hh.1]
    cases hz:Z[q.1]? with
    | none=>rw [hz] at hh; simp at hh
    | some y=>exact (List.getElem?_eq_some_iff.1 hz).1
   simpa using h6 p.1 this
  have hb:P.built T (xs.map fun x=>(x.1,a.eval x.2))=some cells':=by
   unfold Program.built
   simp only [h1,h3,h2,h4]
   rw [← e1]
   exact fill_congr _ _ hin
  have:=run_build (P:=P) w T ((xs.map fun x=>(x.1,a.eval x.2)).toArray) cells' (by simpa using hb)
  simp [execOp,this]
end
end Go.Proofs.Ytljkepdpoelpkaa
namespace Go.Proofs.Ytljkepdpoelpkaa
open Go Go.RowKit
theorem info_frac:∃ ie,Try.prog.info? 35=some ie∧ie.size=4:=by
 have h:(Try.prog.info? 35).map (·.size)=some 4:=by kernel_rfl
 cases hi:Try.prog.info? 35 with
 | none=>rw [hi] at h; simp at h
 | some ie=>rw [hi] at h; exact ⟨ie,rfl,by simpa using h⟩
theorem arr_four:Arr Try.prog 71 [RFA rf0,RFA rf0,RFA rf0,RFA rf0]:=by
 have hz:((Try.prog.info? 71).bind (·.zero))=some (.agg #[.bool false,.slice none 0 0,.bool false,.slice none 0 0,.bool false,.slice none 0 0,.bool false,.slice none 0 0,.bool false,.slice none 0 0,.bool false,.slice none 0 0,.bool false,.slice none 0 0,.bool false,.slice none 0 0]):=by kernel_rfl
 obtain ⟨it,e1,e2⟩:=Option.bind_eq_some_iff.1 hz
 obtain ⟨ie,h1,h2⟩:=info_frac
 refine ⟨it,_,4,35,ie,e1,e2,Try.underlying71,h1,?_,fun B w=>⟨[[.bool false,.slice none 0 0,.bool false,.slice none 0 0],[.bool false,.slice none 0 0,.bool false,.slice none 0 0],[.bool false,.slice none 0 0,.bool false,.slice none 0 0],[.bool false,.slice none 0 0,.bool false,.slice none 0 0]],rfl,(.cons (rf0_p B w) (.cons (rf0_p B w) (.cons (rf0_p B w) (.cons (rf0_p B w) .nil))))⟩⟩
 rw [h2]
 intro f hf
 match f,hf with
 | 0,_=>rfl
 | 1,_=>rfl
 | 2,_=>rfl
 | 3,_=>rfl
def asM (e:Int)(m:MQ):RM × Int:=if e=0 then (if [m.a,m.b,m.c,m.d].any longQ then (rm0,4) else (rmOf m,0)) else (rm0,e)
abbrev MR (r:RM × Int):VA:=Tu [(RMA r.1).va,In r.2]
theorem fourMat_c {k:Nat}(m:MQ):Cn Try.prog 42 [(QMA k m).va] ((QMA k m).va):=by
 refine Cn.intro Try.func42 rfl zk nq (fun B w0 a hst=>?_)
 have hst:St B w0 12 [(0,(QMA k m).va)] [] a w0.w:=hst
 refine wp_seq ?_
 refine gl (sts:=[]) (news:=[⟨1,71,ptrH,some 0,_,none⟩,⟨2,37,ptrH,some 1,_,none⟩]) (sp:=[.alc 0,.alc 1]) [] hst (oc (zaq rfl rfl rfl (gq 0 rfl)) (oc (zao rfl rfl rfl (Str.zero zar)) o0)) (fun a w hst=>?_)
 have hst:St B w0 12 [] [⟨1,71,ptrH,_⟩,⟨2,37,ptrH,_⟩] a w:=hst
 refine zt<|gl (sts:=[none,some (9,_)]) (news:=[]) (sp:=[.val 3 _,.val 4 _,.val 5 _,.val 6 _,.val 7 _,.val 8 _,.val 9 _,.val 10 _,.val 11 _,.sto 1]) [] hst (zv rfl (r_arrv (m:=4) (lz0 0 rfl) Try.underlying71 zk (n_ok zk) (zav 0 rfl) rfl) (zv rfl (zas (vq 0 rfl) zam) (zv rfl (r_arrv (m:=4) (lz0 0 rfl) Try.underlying71 zk (n_ok zk) (zav 1 rfl) rfl) (zv rfl (zas (vq 2 rfl) zam) (zv rfl (r_arrv (m:=4) (lz0 0 rfl) Try.underlying71 zk (n_ok zk) (zav 2 rfl) rfl) (zv rfl (zas (vq 4 rfl) zam) (zv rfl (r_arrv (m:=4) (lz0 0 rfl) Try.underlying71 zk (n_ok zk) (zav 3 rfl) rfl) (zv rfl (zas (vq 6 rfl) zam) (zv rfl (zbi (xs:=[(0,.tmp 4),(1,.tmp 6),(2,.tmp 8),(3,.tmp 10)]) (qs:=[(0,_),(1,_),(2,_),(3,_)]) zar (.cons ⟨rfl,(vq 1 rfl),rfl⟩ (.cons ⟨rfl,(vq 3 rfl),rfl⟩ (.cons ⟨rfl,(vq 5 rfl),rfl⟩ (.cons ⟨rfl,(vq 7 rfl),rfl⟩ .nil))))) (oc (zae rfl rfl rfl (vq 8 rfl) zb9 (Eq.trans (b:=16) rfl rfl)) o0)))))))))) (fun a w hst=>?_)
 have hst:St B w0 12 [] [⟨1,71,ptrH,_⟩,⟨2,37,ptrH,_⟩] a w:=hst
 refine za0 ?_
 refine wp_ret ?_
 refine zak ?_ (zan rfl hst (zm 1 rfl) zb9)
 exact zbl
theorem one09_q  : Cn Try.prog 19 [] ((QMA 2 ⟨1,0,0,1⟩).va):=by
 refine Cn.intro Try.func19 rfl zk nq (fun B w0 a hst=>?_)
 have hst:St B w0 7 [] [] a w0.w:=hst
 refine wp_seq ?_
 refine gl (sts:=[]) (news:=[⟨0,37,ptrH,some 0,_,none⟩]) (sp:=[.alc 0]) [] hst (oc (zao rfl rfl rfl (Str.zero zar)) o0) (fun a w hst=>?_)
 have hst:St B w0 7 [] [⟨0,37,ptrH,_⟩] a w:=hst
 refine zt<|gl (sts:=[some (6,_)]) (news:=[]) (sp:=[.val 1 _,.val 2 _,.val 3 _,.val 4 _,.val 5 _,.val 6 _,.sto 0]) [] hst (zv rfl (za5 (xs:=[]) one_q .nil) (zv rfl (za5 (xs:=[]) nought_q .nil) (zv rfl (za5 (xs:=[]) nought_q .nil) (zv rfl (za5 (xs:=[]) one_q .nil) (zv rfl (r_buildA (xs:=[(0,.tmp 1),(1,.tmp 2),(2,.tmp 3),(3,.tmp 4)]) (qs:=[(0,_),(1,_),(2,_),(3,_)]) arr_four (.cons ⟨rfl,(vq 0 rfl),rfl⟩ (.cons ⟨rfl,(vq 1 rfl),rfl⟩ (.cons ⟨rfl,(vq 2 rfl),rfl⟩ (.cons ⟨rfl,(vq 3 rfl),rfl⟩ .nil))))) (zv rfl (za5 (xs:=[.tmp 5]) (fourMat_c ⟨_,_,_,_⟩) (.cons (vq 4 rfl) .nil)) (oc (zae rfl rfl rfl (vq 5 rfl) zb9 (Eq.trans (b:=16) rfl rfl)) o0))))))) (fun a w hst=>?_)
 have hst:St B w0 7 [] [⟨0,37,ptrH,_⟩] a w:=hst
 refine za0 ?_
 refine wp_ret ?_
 refine zak ?_ (zan rfl hst (zm 0 rfl) zb9)
 exact zbl
end Go.Proofs.Ytljkepdpoelpkaa
namespace Go.Proofs.Ytljkepdpoelpkaa
open Go Go.RowKit
section
variable {P:Program} {R:Rg} {Q:Exit→Act→World→Prop} {B:Nat} {w0:Bs} {a:Act} {w:World}
end
end Go.Proofs.Ytljkepdpoelpkaa
namespace Go.Proofs.Ytljkepdpoelpkaa
open Go Go.RowKit
def cutW (w w':World):World:={ w' with heap:=w'.heap.extract 0 w.heap.size }
theorem cut_at {w w':World}(hs:w.heap.size≤w'.heap.size){k:Nat}(hk:k<w.heap.size):(cutW w w').heap[k]?=w'.heap[k]?:=by
 show (w'.heap.extract 0 w.heap.size)[k]?=_
 rw [Array.getElem?_extract]
 simp
 omega
theorem cut_size {w w':World}(hs:w.heap.size≤w'.heap.size):(cutW w w').heap.size=w.heap.size:=by
 show (w'.heap.extract 0 w.heap.size).size=_
 simp
 omega
theorem cut_wr {w w':World}{g:Nat}(h:w.grownBy w' (some g)):Wr g w (cutW w w') :=
 ⟨h.os,h.tape,h.output,cut_size h.size,fun k hk=>by
  by_cases hlt:k<w.heap.size
  ·rw [cut_at h.size hlt]
   exact h.block k hlt (fun e=>hk (by injection e))
  ·rw [Array.getElem?_eq_none (by rw [cut_size h.size]; omega),Array.getElem?_eq_none zo]⟩
theorem cut_grow {w w':World}{row:Option Nat}(h:w.grownBy w' row):Grow (cutW w w') w' :=
 ⟨rfl,rfl,rfl,by rw [cut_size h.size]; exact h.size,fun k hk=>by
  rw [cut_size h.size] at hk
  rw [cut_at h.size hk]⟩
theorem none_grow {w w':World}(h:w.grownBy w' none):Grow w w':=⟨h.os,h.tape,h.output,h.size,fun k hk=>h.block k hk (by simp)⟩
def RowOk (w:World)(b:Nat)(E:TypeId)(row:Option Nat):Prop:=∀ g,row=some g→b≤g∧∃ c fz,w.heap[g]?=some (.cells c E fz)
theorem DefOk.grown {w0:Bs}{a a':Act}{w w':World}{b:Nat}{E:TypeId}{row:Option Nat}(h:DefOk w0 a w)(hg:w.grownBy w' row)(hr:RowOk w b E row)(e:a'.defers=a.defers):DefOk w0 a' w' :=
 h.keep e fun D hD=>(hg.block D (Array.getElem?_eq_some_iff.1 hD).1 (fun e=>by
  obtain ⟨_,c,fz,hc⟩:=hr D e.symm
  rw [hc] at hD
  cases hD)).trans hD
theorem VA.grown {A:VA}{B b:Nat}{v:Value}{w w':World}{E:TypeId}{row:Option Nat}(hp:A.p B v w)(hg:w.grownBy w' row)(hr:RowOk w b E row)(hb:B≤b)(hE:E ∉ A.deps):A.p B v w':=by
 cases row with
 | none=>exact A.grow _ _ _ _ (none_grow hg) hp
 | some g =>
  obtain ⟨h1,c,fz,h2⟩:=hr g rfl
  exact A.grow _ _ _ _ (cut_grow hg) (A.wr _ _ _ _ _ _ _ _ h2 hE (Nat.le_trans hb h1) (cut_wr hg) hp)
theorem As.grown {A:As}{B b:Nat}{cs:List Value}{w w':World}{E:TypeId}{row:Option Nat}(hp:A.p B cs w)(hg:w.grownBy w' row)(hr:RowOk w b E row)(hb:B≤b)(hE:E ∉ A.deps):A.p B cs w':=by
 cases row with
 | none=>exact A.grow _ _ _ _ (none_grow hg) hp
 | some g =>
  obtain ⟨h1,c,fz,h2⟩:=hr g rfl
  exact A.grow _ _ _ _ (cut_grow hg) (A.wr _ _ _ _ _ _ _ _ h2 hE (Nat.le_trans hb h1) (cut_wr hg) hp)
def OwnR (b:Nat)(E:TypeId)(m:Nat)(D:List TypeId)(l:List As):VA where
 p B v w:=(∀ A∈l,A.n=m)∧(∀ A∈l,∀ T∈A.deps,T∈D)∧∃ ds,(cat l).p B ds w∧w.ownsRow b E m v l.length ds
 deps:=E::D
 cg:=by
  rintro B v w w' hg ⟨h1,h2,ds,h3,h4,h5⟩
  refine ⟨h1,h2,ds,(cat l).cg _ _ _ _ hg h3,h4,?_⟩
  rcases h5 with h5 | ⟨g,cap,cur,e1,e2,e3,e4⟩
  ·exact .inl h5
  ·exact .inr ⟨g,cap,cur,e1,e2,hg.heap e3,e4⟩
 wr:=by
  rintro B v w w' g c T fz hgc hT hB hW ⟨h1,h2,ds,h3,h4,h5⟩
  simp only [List.mem_cons,not_or] at hT
  refine ⟨h1,h2,ds,(cat l).wr _ _ _ _ _ _ _ _ hgc (cat_nd h2 hT.2) hB hW h3,h4,?_⟩
  rcases h5 with h5 | ⟨g0,cap,cur,e1,e2,e3,e4⟩
  ·exact .inl h5
  ·refine .inr ⟨g0,cap,cur,e1,e2,?_,e4⟩
   have hne:g0≠g:=by
    rintro rfl
    rw [hgc] at e3
    injection e3 with e3
    injection e3 with _ e3 _
    exact hT.1 e3
   rw [hW.block g0 hne]
   exact e3
theorem own_nil {b:Nat}{E:TypeId}{m:Nat}{D:List TypeId}:Wk (EqV (.slice none 0 0)) (OwnR b E m D []):=fun _ v w h=>by
 have e:v=.slice none 0 0:=h
 subst e
 exact ⟨(fun A hA=>by cases hA),(fun A hA=>by cases hA),[],⟨[],rfl,.nil⟩,World.ownsRow_nil w b E m⟩
theorem own_sl {b:Nat}{E:TypeId}{m:Nat}{D:List TypeId}{l:List As}:Wk (OwnR b E m D l) (SlA E D l).va:=fun B v w ⟨_,h2,ds,h3,h4,h5⟩=>by
 rcases h5 with ⟨rfl,h5⟩ | ⟨g,cap,cur,rfl,e2,e3,e4,e5,e6,e7⟩
 ·refine ⟨[.slice none 0 0],⟨h2,none,0,ds,by rw [h5],by omega,Nat.zero_le _,h3,fun h=>by omega⟩,rfl⟩
 ·refine ⟨[.slice (some ⟨g,0,none⟩) l.length cap],⟨h2,_,cap,ds,rfl,e4,e5,h3,fun _=>⟨g,0,rfl,(Array.getElem?_eq_some_iff.1 e3).1,.inr ⟨_,_,e3⟩,fun j u hu=>?_⟩⟩,rfl⟩
  rw [cell_of_row w g (0+j) cur E _ e3,Nat.zero_add]
  rw [← e7,List.getElem?_take] at hu
  split at hu
  ·simpa using hu
  ·cases hu
theorem own_row {b:Nat}{E:TypeId}{m:Nat}{v:Value}{n:Nat}{ds:List Value}{w:World}(h:w.ownsRow b E m v n ds):RowOk w b E v.ownBlock:=by
 intro g hg
 obtain ⟨_,⟨rfl,_⟩ | ⟨g',cap,cur,rfl,e2,e3,_⟩⟩:=h
 ·cases hg
 ·have:g'=g:=by injection hg
  subst this
  exact ⟨e2,_,_,e3⟩
theorem all2_app {α β:Type}{R':α→β→Prop}{l1 l2:List α}{m1 m2:List β}(h:All2 R' l1 m1)(h':All2 R' l2 m2):All2 R' (l1++l2) (m1++m2):=by
 induction h with
 | nil=>exact h'
 | cons h1 _ ih=>exact .cons h1 ih
theorem cat_app {l l':List As}{B:Nat}{ds ds':List Value}{w:World}(h:(cat l).p B ds w)(h':(cat l').p B ds' w):(cat (l++l')).p B (ds++ds') w:=by
 obtain ⟨ps,rfl,h1⟩:=h
 obtain ⟨ps',rfl,h2⟩:=h'
 exact ⟨ps++ps',by simp,all2_app h1 h2⟩
end Go.Proofs.Ytljkepdpoelpkaa
namespace Go.Proofs.Ytljkepdpoelpkaa
open Go Go.RowKit
def VT:VA:=⟨fun _ _ _=>True,[],fun _ _ _ _ _ _=>trivial,fun _ _ _ _ _ _ _ _ _ _ _ _ _=>trivial⟩
theorem St.wkG {B N:Nat}{w0:Bs}{Γ:List (Nat × VA)}{Λ:List Lc}{a:Act}{w:World}(h:St B w0 N Γ Λ a w){s:Nat}{A A':VA}(k:Nat)(hm:Γ[k]?=some (s,A))(hw:Wk A A'):St B w0 N (Γ.set k (s,A')) Λ a w :=
 ⟨h.lo,h.defers,h.size,h.base,fun x hx=>by
  rcases List.mem_or_eq_of_mem_set hx with hx | rfl
  ·exact h.vals x hx
  ·exact hw _ _ _ (h.vals _ (List.mem_of_getElem? hm)),h.locs,h.dis⟩
def lesN (Λ:List Lc):List Le:=Λ.map fun l=>⟨l.s,l.T,l.H,none,l.A,none⟩
section
variable {P:Program} {Q:Exit→Act→World→Prop} {B N:Nat} {w0:Bs} {Γ:List (Nat × VA)} {Λ:List Lc} {a:Act} {w:World}
end
theorem run_app_zero {P:Program}{w:World}(base:Nat)(t ty e:TypeId)(i:TypeInfo)(size:Nat)(ht:P.underlying t=some (.slice e))(hi:P.info? e=some i)
  (v:Value) (n c:Nat) (xs:List Value) (hown:w.ownsRow base e size v n xs):(Builtin.append_ #[t,t] ty #[v,.slice none 0 c]).run P w=.ok v w:=by
 rcases hown.2 with ⟨rfl,rfl⟩ | ⟨g,cap,cur,rfl,_,_,hnc,_⟩
 ·simp [Builtin.append_,run_underlying ht,sizeOf,typeInfo,hi,Builtin.lenOf,Builtin.firstCells]
 ·simp [Builtin.append_,run_underlying ht,sizeOf,typeInfo,hi,Builtin.lenOf,Builtin.firstCells,hnc,storeCells]
theorem cat_len {l:List As}{m:Nat}(hm:∀ A∈l,A.n=m):(cat l).n=l.length*m:=by
 induction l with
 | nil=>simp [cat]
 | cons A l ih =>
  have:=ih fun A' h=>hm A' (List.mem_cons_of_mem _ h)
  simp only [cat,List.map_cons,List.sum_cons,List.length_cons] at this ⊢
  rw [this,hm A (by simp),Nat.add_mul,Nat.one_mul,Nat.add_comm]
theorem run_ownM {P:Program}{S E T1:TypeId}{m bytes b B:Nat}{D D':List TypeId}{l xs:List As}{w:World}{v u:Value}{it:TypeInfo}{z:Value}
  (hS:P.underlying S=some (.slice E)) (hi:P.info? E=some it) (hz:it.zero=some z) (hsz:it.size=m) (hby:it.bytes=bytes) (hzs:z.cells.size=m) (hm0:0<m) (hl:l.length+xs.length≤100000000000) (hb6:bytes≤1000)
  (hv:(OwnR b E m D l).p B v w) (hu:(SlA E D' xs).va.p B u w) (hD':∀ T∈D',T∈D) (hED:E ∉ D) (hxm:∀ x∈xs,x.n=m) (hbw:b≤w.heap.size) (hB:B≤b) :
  ∃ v' w',(Builtin.append_ #[S,S] T1 #[v,u]).run P w=.ok v' w'∧(OwnR b E m D (l++xs)).p B v' w'∧w.grownBy w' v.ownBlock∧RowOk w b E v.ownBlock:=by
 obtain ⟨h1,h2,ds,h3,h4⟩:=hv
 obtain ⟨cs,⟨hD,Ad,c,ds1,rfl,_,_,h5,h6⟩,hu'⟩:=hu
 have hu2:u=.slice Ad xs.length c:=hu'
 subst hu2
 have hl1:ds1.length=xs.length*m:=by rw [(cat xs).len _ _ _ h5,cat_len hxm]
 have hro:=own_row h4
 have hmx:l.length+xs.length≤maxLen:=by unfold maxLen; omega
 have hbt:(l.length+xs.length)*bytes≤140737488355328:=Nat.le_trans (Nat.mul_le_mul hl hb6) zd
 have fin:∀ v' w',w'.ownsRow b E m v' (l.length+xs.length) (ds++ds1)→w.grownBy w' v.ownBlock→(OwnR b E m D (l++xs)).p B v' w':=fun v' w' r1 r2=>by
  refine ⟨fun A hA=>?_,fun A hA=>?_,ds++ds1,cat_app (As.grown h3 r2 hro hB (cat_nd h2 hED)) (As.grown h5 r2 hro hB (cat_nd (fun A hA T hT=>hD' T (hD A hA T hT)) hED)),by rw [List.length_append]; exact r1⟩
  ·rcases List.mem_append.1 hA with hA | hA
   ·exact h1 A hA
   ·exact hxm A hA
  ·rcases List.mem_append.1 hA with hA | hA
   ·exact h2 A hA
   ·exact fun T hT=>hD' T (hD A hA T hT)
 have some_case:∀ a:Addr,Ad=some a→(∀ (j:Nat) u,ds1[j]?=some u→w.cell? (a.add j)=some u)→∃ v' w',(Builtin.append_ #[S,S] T1 #[v,.slice Ad xs.length c]).run P w=.ok v' w'∧(OwnR b E m D (l++xs)).p B v' w'∧w.grownBy w' v.ownBlock∧RowOk w b E v.ownBlock:=fun a ha hc=>by
  subst ha
  obtain ⟨v',w',hr,r1,r2,_⟩:=run_append_own (P:=P) w b S T1 E it z m bytes hS hi hz hsz hby hzs hm0 v l.length ds h4 a xs.length c ds1 hl1 hc ((cat xs).one _ _ _ h5) hmx hbt hbw
  exact ⟨v',w',hr,fin v' w' r1 r2,r2,hro⟩
 by_cases hx:0<xs.length
 ·obtain ⟨g1,o1,rfl,_,_,h8⟩:=h6 hx
  exact some_case _ rfl fun j u hj=>by rw [add_k]; exact h8 j u hj
 ·have h0:xs.length=0:=by omega
  have hds0:ds1=[]:=List.length_eq_zero_iff.1 (by rw [hl1,h0,Nat.zero_mul])
  cases Ad with
  | some a=>exact some_case a rfl fun j u hj=>by rw [hds0] at hj; simp at hj
  | none =>
   rw [h0]
   refine ⟨v,w,run_app_zero b S T1 E it m hS hi v l.length c ds h4,fin v w ?_ ⟨rfl,rfl,rfl,Nat.le_refl _,fun _ _ _=>rfl⟩,⟨rfl,rfl,rfl,Nat.le_refl _,fun _ _ _=>rfl⟩,hro⟩
   rw [h0,hds0,List.append_nil]
   exact h4
section
variable {P:Program} {R:Rg} {Q:Exit→Act→World→Prop} {B:Nat} {w0:Bs} {a:Act} {w:World}
open Rg in
theorem Rg.linK {id:Nat}{Λ:List Lc}{n m:Nat}(hsz:R.ops.size=n+m)(hanc:R.anc=fun i=>List.range i)(hk:R.chk=true)(h:St B w0 R.N R.Γ Λ a w)(hles:∀ e∈R.les,e.cr=none→(⟨e.s,e.T,e.H,e.A0⟩:Lc)∈Λ)
  (hob:∀ i,i<n→R.Ob P Q B w0 i) (hQ:∀ a w,R.Inv B w0 (fun k=>decide (k<n)) a w→wpOps P R.ops Q (List.range' n m) a w):(Code.region id R.ops false).wp P Q a w:=by
 refine wp_region ?_
 have key:∀ q k,k+q=n→∀ a w,R.Inv B w0 (fun j=>decide (j<k)) a w→wpOps P R.ops Q (List.range' k (q+m)) a w:=by
  intro q
  induction q with
  | zero =>
   intro k hkm a w hi
   have:k=n:=by omega
   subst this
   rw [Nat.zero_add]
   exact hQ a w hi
  | succ q ih =>
   intro k hkm a w hi
   rw [show q+1+m=(q+m)+1 by omega,List.range'_succ,wpOps_cons]
   refine step hk (hob k zo) hi ?_ (by simp) ?_ _ fun a' w' hi'=>ih (k+1) zo a' w' (hi'.congr fun j=>?_)
   ·intro i hi j hj
    rw [hanc] at hj
    simp at hi hj ⊢
    omega
   ·intro j hj
    rw [hanc] at hj
    simpa using hj
   ·unfold upd
    by_cases h1:j=k
    ·subst h1; simp
    ·have h2:(j==k)=false:=by simpa using h1
     rw [h2,Bool.false_or,decide_eq_decide]
     omega
 rw [List.range_eq_range',hsz]
 exact key n 0 zo a w ((start h hles).congr fun j=>by simp)
end
theorem again_w {B:Nat}{w0:Bs}{A:VA}{v:Value}(hF:NoF w0)(hv:A.p B v w0.w):∀ w u,(EqV v).p B u w→Kept w0 w→A.p B u w:=fun w u h hk=>by
 have e:u=v:=h
 subst e
 exact A.cg _ _ _ _ (hF.cg hk) hv
open Rg in
theorem go_appL {P:Program}{Q:Exit→Act→World→Prop}{B N:Nat}{w0:Bs}{Γ:List (Nat × VA)}{Λ:List Lc}{a:Act}{w:World}{id:Nat}{ops:Array Oper}{sp:List Sp}(n:Nat)(src:List Nat)(i1 i2:Nat){S E T1 T2:TypeId}{s u d e m bytes:Nat}{ps1 ps2:String}{af1 af2:Array Edge}{D D':List TypeId}{l xs:List As}{A2:VA}{it:TypeInfo}{z:Value}
  (h:St B w0 N Γ Λ a w) (hob:Obs P Q ⟨ops,N,Γ,lesN Λ,sp,fun i=>List.range i⟩ B w0 0 n) (hn2:ops.size=n+2) (hk:Rg.chk ⟨ops,N,Γ,lesN Λ,sp,fun i=>List.range i⟩=true)
  (ho1:ops[n]?=some ⟨some d,.call ⟨.builtin .append,#[.tmp s,.tmp u],#[S,S]⟩,T1,ps1,af1,none⟩) (ho2:ops[n+1]?=some ⟨some e,.assign (.tmp d),T2,ps2,af2,none⟩)
  (hi1:i1<n) (h1:sp[i1]?=some (.val s (OwnR w0.w.heap.size E m D l))) (hi2:i2<n) (h2:sp[i2]?=some (.val u A2)) (hA2:∀ w u,A2.p B u w→Kept w0 w→(SlA E D' xs).va.p B u w)
  (hS:P.underlying S=some (.slice E)) (hi:P.info? E=some it) (hz:it.zero=some z) (hsz:it.size=m) (hby:it.bytes=bytes) (hzs:z.cells.size=m) (hm0:0<m) (hl:l.length+xs.length≤100000000000) (hb6:bytes≤1000)
  (hD':∀ T∈D',T∈D) (hED:E ∉ D) (hxm:∀ x∈xs,x.n=m) (hde:(d != e)=true) (hd:d<N) (he:e<N)
  (hsrc:src.all (fun k=>match Γ[k]? with | some y => !y.2.deps.contains E&&Rg.outG ⟨ops,N,Γ,lesN Λ,sp,fun i=>List.range i⟩ y.1 | none=>false)=true)
  (hΛ:Λ.all (fun l=>l.T != E && !l.A.deps.contains E&&l.s != d&&l.s != e)=true)
  (hQ:∀ a w,St B w0 N ((e,OwnR w0.w.heap.size E m D (l++xs))::src.filterMap (fun k=>Γ[k]?)) Λ a w→Q .normal a w):(Code.region id ops false).wp P Q a w:=by
 have hles0:∀ y∈lesN Λ,y.cr=none∧y.st=none∧(⟨y.s,y.T,y.H,y.A0⟩:Lc)∈Λ:=fun y hy=>by
  obtain ⟨l',hl',rfl⟩:=List.mem_map.1 hy
  exact ⟨rfl,rfl,hl'⟩
 refine Rg.linK (R:=⟨ops,N,Γ,lesN Λ,sp,fun i=>List.range i⟩) (m:=2) hn2 rfl hk h (fun y hy _=>(hles0 y hy).2.2) (fun i hi=>hob.all i zo zo) fun a1 w1 hinv=>?_
 have hcl:∀ deps,Rg.clash ⟨ops,N,Γ,lesN Λ,sp,fun i=>List.range i⟩ (fun k=>decide (k<n)) deps=false:=fun deps=>by
  unfold Rg.clash
  rw [List.any_eq_false]
  intro y hy
  rw [(hles0 y hy).2.1]
  simp
 have hv:=hinv.v i1 _ s _ h1 rfl (decide_eq_true hi1) (hcl _)
 have hu:=hA2 _ _ (hinv.v i2 _ u _ h2 rfl (decide_eq_true hi2) (hcl _)) hinv.base
 have hB:B≤w0.w.heap.size:=hinv.lo _ (.inl (Nat.le_refl _))
 obtain ⟨v',w',hr,r1,r2,r3⟩:=run_ownM (T1:=T1) hS hi hz hsz hby hzs hm0 hl hb6 hv hu hD' hED hxm hinv.base.size hB
 have hdsz:d<a1.tmps.size:=by rw [hinv.size]; exact hd
 have hesz:e<(a1.put (some d) v').tmps.size:=by rw [size_put,hinv.size]; exact he
 have hne:d≠e:=by simpa using hde
 rw [List.range'_succ,wpOps_cons]
 refine zbu (R:=⟨ops,N,Γ,lesN Λ,sp,fun i=>List.range i⟩) ho1 rfl (zbo (w':=w') (v:=v') (by simp [execOp,resolve,invoke,builtin,hr,Result.andThen]) ?_)
 rw [List.range'_succ,wpOps_cons]
 refine zbu (R:=⟨ops,N,Γ,lesN Λ,sp,fun i=>List.range i⟩) ho2 rfl (zbo (w':=w') (v:=v') ?_ (hQ _ _ ?_))
 ·have:=zb7 a1 d v' hdsz
  simp [execOp,this]
 ·have hother:∀ t,t≠d→t≠e→((a1.put (some d) v').put (some e) v').eval (.tmp t)=a1.eval (.tmp t):=fun t h3 h4=>by
   rw [zab _ _ _ _ h4,zab _ _ _ _ h3]
  have hlc:∀ l'∈Λ,l'.T≠E∧E ∉ l'.A.deps∧l'.s≠d∧l'.s≠e:=fun l' hl'=>by
   have:=List.all_eq_true.1 hΛ l' hl'
   simp only [Bool.and_eq_true,bne_iff_ne,Bool.not_eq_true',List.contains_eq_mem,decide_eq_false_iff_not] at this
   exact ⟨this.1.1.1,this.1.1.2,this.1.2,this.2⟩
  have hcur:∀ l'∈Λ,(⟨l'.s,l'.T,l'.H,none,l'.A,none⟩:Le)∈lesN Λ:=fun l' hl'=>List.mem_map.2 ⟨l',hl',rfl⟩
  refine ⟨hinv.lo,hinv.defers.grown r2 r3 rfl,by rw [size_put,size_put]; exact hinv.size,?_,?_,?_,?_⟩
  ·exact ⟨r2.os.trans hinv.base.os,r2.tape.trans hinv.base.tape,r2.output.trans hinv.base.output,Nat.le_trans hinv.base.size r2.size,fun k hk hf =>
    (r2.block k (Nat.lt_of_lt_of_le hk hinv.base.size) (fun e=>by have:=(r3 k e.symm).1; omega)).trans (hinv.base.block k hk hf)⟩
  ·intro y hy
   rcases List.mem_cons.1 hy with rfl | hy
   ·show (OwnR w0.w.heap.size E m D (l++xs)).p B (((a1.put (some d) v').put (some e) v').eval (.tmp e)) w'
    rw [zb7 _ _ _ hesz]
    exact r1
   ·obtain ⟨k,hk1,hk2⟩:=List.mem_filterMap.1 hy
    have hs:=List.all_eq_true.1 hsrc k hk1
    simp only [hk2,Bool.and_eq_true,Bool.not_eq_true',List.contains_eq_mem,decide_eq_false_iff_not] at hs
    have hout:∀ q,q<ops.size→Rg.dst ⟨ops,N,Γ,lesN Λ,sp,fun i=>List.range i⟩ q≠some y.1:=fun q hq=>by
     have:=List.all_eq_true.1 hs.2 q (by simpa using hq)
     simpa using this
    have g1:y.1≠d:=fun e1=>hout n zo (by unfold Rg.dst; rw [ho1,e1]; rfl)
    have g2:y.1≠e:=fun e1=>hout (n+1) zo (by unfold Rg.dst; rw [ho2,e1]; rfl)
    rw [hother _ g1 g2]
    exact VA.grown (hinv.g y (List.mem_of_getElem? hk2) (fun q hq hdq=>absurd hdq (hout q hq)) (hcl _)) r2 r3 hB hs.1
  ·intro l' hl'
   obtain ⟨g1,g2,g3,g4⟩:=hlc l' hl'
   obtain ⟨g,cs,e1,e2,e3,e4⟩:=hinv.c _ (hcur l' hl') l'.A rfl
   refine ⟨g,cs,by rw [hother _ g3 g4]; exact e1,e2,?_,As.grown e4 r2 r3 hB g2⟩
   rw [r2.block g (Array.getElem?_eq_some_iff.1 e3).1 (fun e5=>by
    obtain ⟨_,c,fz,e6⟩:=r3 g e5.symm
    rw [e3] at e6
    injection e6 with e6
    injection e6 with _ e6 _
    exact g1 e6)]
   exact e3
  ·intro l1 hl1 l2 hl2 hne'
   obtain ⟨_,_,g3,g4⟩:=hlc l1 hl1
   obtain ⟨_,_,g5,g6⟩:=hlc l2 hl2
   rw [hother _ g3 g4,hother _ g5 g6]
   exact hinv.x _ (hcur l1 hl1) _ (hcur l2 hl2) hne' rfl rfl
section
variable {P:Program} {Q:Exit→Act→World→Prop} {B N:Nat} {w0:Bs} {Γ:List (Nat × VA)} {Λ:List Lc} {a:Act} {w:World}
end
theorem Cn.introF {P : Program} {f : FuncId} {fn : Func} {c : Code} {pre : List VA} {post : VA} (hf : P.funcs[f]? = some fn) (hb : fn.body = some c) (hn : (fn.name == "runtime.NumGoroutine") = false) (hsz : pre.length ≤ fn.ntmps)
  (h:∀ (B:Nat) (w0:Bs) (a:Act),NoF w0→St B w0 fn.ntmps (argΓ pre) [] a w0.w→c.wp P (bPost P fn (RQ B w0 post)) a w0.w):Cn P f pre post:=by
 refine ⟨⟨fn,hf,hn,by rw [hb]; rfl⟩,fun B w args hB ha=>(zbw hf hb (h B ⟨w,fun _=>False,false⟩ _ (fun _ h=>h.elim) ?_)).mono fun _ _ ⟨v,he,hv,hk⟩=>⟨v,he,hv,hk.grow0⟩⟩
 have hl:=ha.length
 refine ⟨fun g hg=>Nat.le_trans hB (hg.resolve_right fun h=>h),DefOk.nil rfl,?_,Kept.refl _,All2.args ha,(fun l hl=>by cases hl),(fun l hl=>by cases hl)⟩
 simp only [Array.size_append,List.size_toArray,Array.size_replicate]
 omega
theorem has_again {R:Rg}{B i:Nat}{w0:Bs}{x:Operand}{v:Value}{A:VA}(hF:NoF w0)(hv:A.p B v w0.w)(h:Has R B w0 i x (EqV v)):Has R B w0 i x A:=fun a w av=>by
 have e:a.eval x=v:=h a w av
 rw [e]
 exact A.cg _ _ _ _ (hF.cg av.base) hv
theorem St.eqv {B N:Nat}{w0:Bs}{Γ:List (Nat × VA)}{Λ:List Lc}{a:Act}(h:St B w0 N Γ Λ a w0.w){s:Nat}{A:VA}(k:Nat)(hm:Γ[k]?=some (s,A)):∃ v,A.p B v w0.w∧St B w0 N (Γ.set k (s,EqV v)) Λ a w0.w :=
 ⟨a.eval (.tmp s),h.vals _ (List.mem_of_getElem? hm),h.lo,h.defers,h.size,h.base,fun x hx=>by
  rcases List.mem_or_eq_of_mem_set hx with hx | rfl
  ·exact h.vals x hx
  ·exact rfl,h.locs,h.dis⟩
theorem free_all {l l':List VA}(h:All2 Free l l'){B B':Nat}{w:World}(hB:B'≤B):∀ {vs:List Value},All2 (fun (A:VA) x=>A.p B x w) l vs→All2 (fun (A:VA) x=>A.p B' x w) l' vs:=by
 induction h with
 | nil=>intro vs hv; cases hv; exact .nil
 | cons h _ ih=>intro vs hv; cases hv with | cons h1 h2=>exact .cons (h _ _ _ _ hB h1) (ih h2)
theorem free_tu {l l':List VA}(h:All2 Free l l'):Free (Tu l) (Tu l'):=fun _ _ _ _ hB ⟨vs,e,hv⟩=>⟨vs,e,free_all h hB hv⟩
def CnI (P:Program)(f:FuncId)(pre:List VA)(mk:Nat→VA):Prop :=
 (∃ fn, P.funcs[f]? = some fn ∧ (fn.name == "runtime.NumGoroutine") = false ∧ fn.body.isNone = false) ∧
 ∀ (B:Nat) (w:World) (args:List Value),B≤w.heap.size→All2 (fun A v=>A.p B v w) pre args →
  Calls P f args.toArray w fun e w'=>∃ v,e=.returned v∧(mk w.heap.size).p B v w'∧Grow w w'
theorem CnI.introF {P : Program} {f : FuncId} {fn : Func} {c : Code} {pre : List VA} {mk : Nat → VA} (hf : P.funcs[f]? = some fn) (hb : fn.body = some c) (hn : (fn.name == "runtime.NumGoroutine") = false) (hsz : pre.length ≤ fn.ntmps)
  (h:∀ (B:Nat) (w0:Bs) (a:Act),(∀ g,¬ w0.F g)→NoF w0→St B w0 fn.ntmps (argΓ pre) [] a w0.w→c.wp P (bPost P fn (RQ B w0 (mk w0.w.heap.size))) a w0.w):CnI P f pre mk:=by
 refine ⟨⟨fn,hf,hn,by rw [hb]; rfl⟩,fun B w args hB ha=>(zbw hf hb (h B ⟨w,fun _=>False,false⟩ _ (fun _ h=>h) (fun _ h=>h.elim) ?_)).mono fun _ _ ⟨v,he,hv,hk⟩=>⟨v,he,hv,hk.grow0⟩⟩
 have hl:=ha.length
 refine ⟨fun g hg=>Nat.le_trans hB (hg.resolve_right fun h=>h),DefOk.nil rfl,?_,Kept.refl _,All2.args ha,(fun l hl=>by cases hl),(fun l hl=>by cases hl)⟩
 simp only [Array.size_append,List.size_toArray,Array.size_replicate]
 omega
end Go.Proofs.Ytljkepdpoelpkaa
namespace Go.Proofs.Ytljkepdpoelpkaa
open Go Go.RowKit
def p4 (m:MQ)(j:Nat):Rat:=[m.a,m.b,m.c,m.d].getD j 0
def mulQ (m q:MQ):MQ:=⟨m.a*q.a+m.b*q.c,m.a*q.b+m.b*q.d,m.c*q.a+m.d*q.c,m.c*q.b+m.d*q.d⟩
end Go.Proofs.Ytljkepdpoelpkaa
namespace Go.Proofs.Ytljkepdpoelpkaa
open Go Go.RowKit
end Go.Proofs.Ytljkepdpoelpkaa
namespace Go.Proofs.Ytljkepdpoelpkaa
open Go Go.RowKit
theorem Cm.introK {P : Program} {f : FuncId} {fn : Func} {c : Code} {T : TypeId} {A0 A1 : As} {H : Hd} {pre : List Ar} {post : VA} (p : Nat) (hf : P.funcs[f]? = some fn) (hb : fn.body = some c) (hn : (fn.name == "runtime.NumGoroutine") = false) (hsz : pre.length ≤ fn.ntmps)
  (hm:∀ g,(p,EqV (H.f g))∈argΓ (pre.map (Ar.va g)))
  (h:∀ (B g:Nat) (w0:Bs) (a:Act),St B w0 fn.ntmps (argΓ (pre.map (Ar.va g))) [⟨p,T,H,A0⟩] a w0.w→c.wp P (bPost P fn (RQm B w0 g T A1 post)) a w0.w):Cm P f T A0 A1 pre post:=by
 refine ⟨⟨fn,hf,hn,by rw [hb]; rfl⟩,fun B w g cs args hB hg hp ha=>(zbw hf hb (h B g ⟨w,fun k=>k=g,false⟩ _ ?_)).mono fun _ _ ⟨v,cs',he,hv,hk,h1,h2⟩=>⟨v,cs',he,hv,hk,h1,h2⟩⟩
 have hl:=ha.length
 have hgw:=(Array.getElem?_eq_some_iff.1 hg).1
 have ha':All2 (fun (A:VA) v=>A.p B v w) (pre.map (Ar.va g)) args:=by
  clear hl hm h hsz
  induction ha with
  | nil=>exact .nil
  | @cons x y xs ys h1 _ ih =>
   refine .cons ?_ ih
   cases x with
   | v A=>exact h1
   | w H=>exact h1
 have h0:(⟨args.toArray++Array.replicate (fn.ntmps-args.toArray.size) undef,[]⟩:Act).eval (.tmp p)=H.f g :=
  All2.args (N:=fn.ntmps-args.toArray.size) ha' (p,EqV (H.f g)) (hm g)
 refine ⟨fun k hk=>?_,DefOk.nil rfl,?_,Kept.refl _,All2.args ha',fun l hl=>?_,fun l hl m hm hne=>?_⟩
 ·rcases hk with hk | hk
  ·exact Nat.le_trans hB (Nat.le_trans (Nat.le_of_lt hgw) hk)
  ·have:k=g:=hk
   omega
 ·simp only [Array.size_append,List.size_toArray,Array.size_replicate]
  omega
 ·simp at hl
  subst hl
  exact ⟨g,cs,h0,.inr rfl,hg,hp⟩
 ·simp at hl hm
  subst hl hm
  exact absurd rfl hne
theorem ret_mK {P:Program}{fn:Func}{B N g p:Nat}{w0:Bs}{Γ:List (Nat × VA)}{Λ:List Lc}{a:Act}{w:World}{T:TypeId}{H:Hd}{A1:As}{post:VA}(h:St B w0 N Γ Λ a w)(hm:(p,EqV (H.f g))∈Γ)(hl:(⟨p,T,H,A1⟩:Lc)∈Λ)
  (hb:bPost P fn (RQ B w0 post) .ret a w):bPost P fn (RQm B w0 g T A1 post) .ret a w:=by
 refine bPost_map h hb fun v w h ⟨v',e1,e2,e3⟩=>?_
 obtain ⟨g',cs,f1,_,f3,f4⟩:=h.locs _ hl
 replace f1:a.eval (.tmp p)=H.f g':=f1
 have f0:a.eval (.tmp p)=H.f g:=h.vals _ hm
 have:g'=g:=Rg.Hd.inj (H:=H) (H':=H) (by rw [← f1,← f0])
 subst this
 exact ⟨v',cs,e1,e2,e3,f3,f4⟩
theorem sub_self {A:As}:Sub A 0 A:=fun B cs w h=>by
 have hl:=A.len B cs w h
 refine ⟨?_,by omega⟩
 rw [List.drop_zero,List.take_of_length_le zo]
 exact h
end Go.Proofs.Ytljkepdpoelpkaa
namespace Go.Proofs.Ytljkepdpoelpkaa
open Go Go.RowKit
def bQ (k:Nat)(r:Rat):Prop:=lz r.num≤k∧lz (r.den:Int)≤k
theorem bQ_mul {c d:Nat}{x y:Rat}(hx:bQ c x)(hy:bQ d y):bQ (c+d) (x*y):=by
 obtain ⟨x1,x2⟩:=hx
 obtain ⟨y1,y2⟩:=hy
 rw [← rat_mul]
 obtain ⟨h1,h2⟩:=lz_low2 (p:=x.num*y.num) (q:=(x.den:Int)*(y.den:Int)) (den_nz x y)
 have h4:=lz_mul x.num y.num
 have h6:=lz_mul x.den y.den
 exact ⟨by omega,by omega⟩
end Go.Proofs.Ytljkepdpoelpkaa
namespace Go.Proofs.Ytljkepdpoelpkaa
open Go Go.RowKit
theorem nd_eq (x:Rat):x=(x.num:Rat)/((x.den:Int):Rat):=by rw [← Rat.divInt_eq_div]; exact (Rat.num_divInt_den x).symm
theorem den_ne (x:Rat):((x.den:Int):Rat)≠0:=by
 have:=x.den_nz
 intro h
 exact this (by exact_mod_cast h)
end Go.Proofs.Ytljkepdpoelpkaa
namespace Go.Proofs.Ytljkepdpoelpkaa
open Go Go.RowKit
section
variable {P:Program} {R:Rg} {Q:Exit→Act→World→Prop} {B i:Nat} {w0:Bs}
end
end Go.Proofs.Ytljkepdpoelpkaa
namespace Go.Proofs.Ytljkepdpoelpkaa
open Go Go.RowKit
end Go.Proofs.Ytljkepdpoelpkaa
namespace Go.Proofs.Ytljkepdpoelpkaa
open Go Go.RowKit
abbrev EQ:=Int × Rat
def kdM (e:EQ):MQ:=if e.1=1 then ⟨1,e.2,0,1⟩ else if e.1=2 then ⟨1,0,-e.2,1⟩ else if e.1=5 then ⟨-1,0,0,-1⟩ else ⟨1,0,0,1⟩
def prdQ (L:List EQ):MQ:=L.foldl (fun m e=>mulQ (kdM e) m) ⟨1,0,0,1⟩
theorem prd_snoc (L:List EQ)(e:EQ):prdQ (L++[e])=mulQ (kdM e) (prdQ L):=by simp [prdQ,List.foldl_append]
theorem mul_as (m n k:MQ):mulQ (mulQ m n) k=mulQ m (mulQ n k):=by
 unfold mulQ
 simp only [MQ.mk.injEq]
 exact ⟨by grind,by grind,by grind,by grind⟩
theorem mul_1 (m:MQ):mulQ ⟨1,0,0,1⟩ m=m:=by
 cases m
 unfold mulQ
 simp only [MQ.mk.injEq]
 exact ⟨by grind,by grind,by grind,by grind⟩
def putQ (L:List EQ)(k:Int)(p:Rat):List EQ :=
 if k≠5∧p=0 then L else
 match L.getLast? with
 | none=>L++[(k,p)]
 | some e=>if e.1=k then (if k=5∨e.2+p=0 then L.dropLast else L.dropLast++[(k,e.2+p)]) else L++[(k,p)]
theorem kd_0 {k:Int}(h:k=1∨k=2):kdM (k,0)=⟨1,0,0,1⟩:=by
 rcases h with rfl | rfl
 ·rfl
 ·have e:(-(0:Rat))=0:=by grind
  show (⟨1,0,-(0:Rat),1⟩:MQ)=_
  rw [e]
theorem kd_add {k:Int}{p q:Rat}(h:k=1∨k=2):mulQ (kdM (k,q)) (kdM (k,p))=kdM (k,p+q):=by
 rcases h with rfl | rfl
 ·show mulQ ⟨1,q,0,1⟩ ⟨1,p,0,1⟩=⟨1,p+q,0,1⟩
  unfold mulQ
  simp only [MQ.mk.injEq]
  exact ⟨by grind,by grind,by grind,by grind⟩
 ·show mulQ ⟨1,0,-q,1⟩ ⟨1,0,-p,1⟩=⟨1,0,-(p+q),1⟩
  unfold mulQ
  simp only [MQ.mk.injEq]
  exact ⟨by grind,by grind,by grind,by grind⟩
theorem kd_5 {p q:Rat}:mulQ (kdM (5,q)) (kdM (5,p))=⟨1,0,0,1⟩:=by
 show mulQ ⟨-1,0,0,-1⟩ ⟨-1,0,0,-1⟩=_
 unfold mulQ
 simp only [MQ.mk.injEq]
 exact ⟨by grind,by grind,by grind,by grind⟩
theorem put_prd (L:List EQ){k:Int}{p:Rat}(h:k=1∨k=2∨k=5):prdQ (putQ L k p)=mulQ (kdM (k,p)) (prdQ L):=by
 unfold putQ
 by_cases h0:k≠5∧p=0
 ·rw [if_pos h0,h0.2,kd_0 (by rcases h with h | h | h <;> first | exact .inl h | exact .inr h | exact absurd h h0.1),mul_1]
 ·rw [if_neg h0]
  rcases List.eq_nil_or_concat L with rfl | ⟨M,e,rfl⟩
  ·exact prd_snoc [] (k,p)
  ·rw [List.concat_eq_append]
   simp only [List.getLast?_concat,List.dropLast_concat]
   obtain ⟨k',q⟩:=e
   by_cases hk:k'=k
   ·subst hk
    simp only [if_true]
    rw [prd_snoc,← mul_as]
    rcases h with h | h | h
    ·rw [kd_add (.inl h)]
     by_cases hs:k'=5∨q+p=0
     ·rw [if_pos hs]
      have:q+p=0:=hs.resolve_left zo
      rw [this,kd_0 (.inl h),mul_1]
     ·rw [if_neg hs,prd_snoc]
    ·rw [kd_add (.inr h)]
     by_cases hs:k'=5∨q+p=0
     ·rw [if_pos hs]
      have:q+p=0:=hs.resolve_left zo
      rw [this,kd_0 (.inr h),mul_1]
     ·rw [if_neg hs,prd_snoc]
    ·subst h
     rw [if_pos (.inl rfl),kd_5,mul_1]
   ·rw [if_neg hk,prd_snoc,prd_snoc]
theorem put_len (L:List EQ)(k:Int)(p:Rat):(putQ L k p).length≤L.length+1:=by
 unfold putQ
 split
 ·omega
 ·split
  ·simp
  ·split
   ·split
    ·simp only [List.length_dropLast]; omega
    ·simp only [List.length_append,List.length_dropLast,List.length_cons,List.length_nil]; omega
   ·simp
def EOk (e:EQ):Prop:=(e.1=1∧0<e.2)∨(e.1=2∧e.2≠0)∨(e.1=5∧e.2=0)
def Plain (L:List EQ):Prop:=(∀ e∈L,EOk e)∧∀ i e f,L[i]?=some e→L[i+1]?=some f→e.1≠f.1
theorem plain_nil:Plain []:=⟨(fun e h=>by cases h),(fun i e f h=>by simp at h)⟩
theorem plain_drop {M:List EQ}{e:EQ}(h:Plain (M++[e])):Plain M:=⟨fun x hx=>h.1 x (List.mem_append.2 (.inl hx)),fun i x y hx hy=>by
 have h1:=(List.getElem?_eq_some_iff.1 hx).1
 have h2:=(List.getElem?_eq_some_iff.1 hy).1
 exact h.2 i x y (by rw [List.getElem?_append_left h1]; exact hx) (by rw [List.getElem?_append_left h2]; exact hy)⟩
theorem plain_last {M:List EQ}{e:EQ}(h:Plain (M++[e])):∀ f,M.getLast?=some f→f.1≠e.1:=fun f hf=>by
 rw [List.getLast?_eq_getElem?] at hf
 have h1:=(List.getElem?_eq_some_iff.1 hf).1
 refine h.2 (M.length-1) f e (by rw [List.getElem?_append_left h1]; exact hf) ?_
 rw [show M.length-1+1=M.length from by omega]
 simp
theorem plain_snoc {M:List EQ}{e:EQ}(h:Plain M)(he:EOk e)(hl:∀ f,M.getLast?=some f→f.1≠e.1):Plain (M++[e]):=⟨fun x hx=>by
 rcases List.mem_append.1 hx with hx | hx
 ·exact h.1 x hx
 ·cases List.mem_singleton.1 hx; exact he,fun i x y hx hy=>by
 have h2:=(List.getElem?_eq_some_iff.1 hy).1
 simp only [List.length_append,List.length_cons,List.length_nil] at h2
 by_cases hi:i+1<M.length
 ·exact h.2 i x y (by rw [← hx,List.getElem?_append_left zo]) (by rw [← hy,List.getElem?_append_left hi])
 ·have hm:i+1=M.length:=by omega
  have e1:M[i]?=some x:=by rw [← hx,List.getElem?_append_left zo]
  have e2:y=e:=by
   rw [hm] at hy
   simp at hy
   exact hy.symm
  rw [e2]
  refine hl x ?_
  rw [List.getLast?_eq_getElem?,show M.length-1=i from by omega]
  exact e1⟩
theorem put_plain {L:List EQ}{k:Int}{p:Rat}(h:Plain L)(hk:(k=1∧0≤p)∨k=2∨(k=5∧p=0)):Plain (putQ L k p):=by
 unfold putQ
 by_cases h0:k≠5∧p=0
 ·rw [if_pos h0]; exact h
 ·rw [if_neg h0]
  have hok:EOk (k,p):=by
   unfold EOk
   rcases hk with ⟨rfl,hp⟩ | rfl | ⟨rfl,rfl⟩
   ·have hp0:p≠0:=fun e=>h0 ⟨by decide,e⟩
    exact .inl ⟨rfl,by show 0<p; grind⟩
   ·exact .inr (.inl ⟨rfl,fun e=>h0 ⟨by decide,e⟩⟩)
   ·exact .inr (.inr ⟨rfl,rfl⟩)
  rcases List.eq_nil_or_concat L with rfl | ⟨M,e,rfl⟩
  ·exact plain_snoc plain_nil hok (fun f hf=>by simp at hf)
  ·rw [List.concat_eq_append] at h ⊢
   simp only [List.getLast?_concat,List.dropLast_concat]
   obtain ⟨k',q⟩:=e
   by_cases hkk:k'=k
   ·subst hkk
    simp only [if_true]
    by_cases hs:k'=5∨q+p=0
    ·rw [if_pos hs]; exact plain_drop h
    ·rw [if_neg hs]
     refine plain_snoc (plain_drop h) ?_ (fun f hf=>plain_last (e:=(k',q)) h f hf)
     have hq:=h.1 (k',q) (by simp)
     unfold EOk at hq ⊢
     rcases hk with ⟨rfl,hp⟩ | rfl | ⟨rfl,rfl⟩
     ·have hq':0<q:=by
       rcases hq with ⟨_,hq⟩ | ⟨hq,_⟩ | ⟨hq,_⟩
       ·exact hq
       ·exact absurd hq (by show ¬ (1:Int)=2; decide)
       ·exact absurd hq (by show ¬ (1:Int)=5; decide)
      exact .inl ⟨rfl,by show 0<q+p; grind⟩
     ·exact .inr (.inl ⟨rfl,fun e=>hs (.inr e)⟩)
     ·exact absurd (.inl rfl) hs
   ·rw [if_neg hkk]
    exact plain_snoc h hok (fun f hf=>by
     rw [List.getLast?_concat] at hf
     cases hf
     exact hkk)
end Go.Proofs.Ytljkepdpoelpkaa
