import Derived.Test.YtlpppkkggljdcaaGreatTcAa
import Derived.Test.YtlpppkkggljdcaaGreatTcAc
import Derived.Test.YtlpppkkggljdcaaGreatTcAp
import Derived.Test.YtlpppkkggljdcaaGreatTcAr
import Derived.Test.YtlpppkkggljdcaaGreatTcAt
import Derived.Test.YtlpppkkggljdcaaGreatTcAu
import Derived.Laws.AppendOwn
import Derived.Laws.OwnMore
import Derived.Orders
set_option linter.unusedVariables false
set_option linter.unusedSimpArgs false
set_option linter.unusedSectionVars false
set_option maxRecDepth 100000
namespace Go.Proofs.YtlpppkkggljdcaaGreat
open Go Go.RowKit
def NewIt (f:FuncId)(T:TypeId)(v:Value):VA where
 p B u w:=∃ g,u=.func (.func f) #[] #[ptr g]∧B≤g∧w.heap[g]?=some (.cells #[v] T (0,0))
 deps:=[T]
 cg:=fun B u w w' hg ⟨g,e,h1,h2⟩=>⟨g,e,h1,hg.heap h2⟩
 wr:=by
  rintro B u w w' g c T' fz hc hT hB hW ⟨g',e,h1,h2⟩
  refine ⟨g',e,h1,?_⟩
  rw [hW.block g' (fun e=>by subst e; rw [hc] at h2; injection h2 with h2; injection h2 with _ h2 _; exact hT (by simp [h2]))]
  exact h2
def ItN (f:FuncId)(caps:List (TypeId × As))(ns:List Nat):VA where
 p B v w:=∃ gs,(ItV f caps gs).p B v w∧∀ n∈ns,n ∉ gs
 deps:=caps.map Prod.fst++caps.flatMap (·.2.deps)
 cg:=fun B v w w' hg ⟨gs,h1,h2⟩=>⟨gs,(ItV f caps gs).cg B v w w' hg h1,h2⟩
 wr:=fun B v w w' g c T fz h1 hT h3 h4 ⟨gs,h5,h6⟩=>⟨gs,(ItV f caps gs).wr B v w w' g c T fz h1 hT h3 h4 h5,h6⟩
def Nmd (Γ:List (Nat × VA)):List (Nat × Nat)→List Nat→Prop
 | [],[]=>True
 | p::ps,k::ks=>Γ[k]?=some (p.1,EqV (ptr p.2))∧Nmd Γ ps ks
 | _,_=>False
theorem St.itn {B N:Nat}{w0:Bs}{Γ:List (Nat × VA)}{Λ:List Lc}{a:Act}{w:World}{s:Nat}{f:FuncId}{caps:List (TypeId × As)}{ps:List (Nat × Nat)}(k:Nat)(ks:List Nat)(h:St B w0 N Γ Λ a w)(hm:Γ[k]?=some (s,ItN f caps (ps.map Prod.snd)))(hn:Nmd Γ ps ks) :
  ∃ gb,St B w0 N (Γ.set k (s,ItV f caps gb)) Λ a w∧∀ t∈ps.map Prod.fst,∀ g,blk (a.eval (.tmp t))=some g→g ∉ gb:=by
 obtain ⟨gb,h1,h2⟩:=h.vals _ (List.mem_of_getElem? hm)
 refine ⟨gb,⟨h.lo,h.defers,h.size,h.base,fun x hx=>?_,h.locs,h.dis⟩,fun t ht g hg=>?_⟩
 ·rcases List.mem_or_eq_of_mem_set hx with hx | rfl
  ·exact h.vals x hx
  ·exact h1
 ·have key:∀ (ps:List (Nat × Nat)) (ks:List Nat),Nmd Γ ps ks→∀ p∈ps,a.eval (.tmp p.1)=ptr p.2:=by
   intro ps
   induction ps with
   | nil=>intro _ _ p hp; cases hp
   | cons q ps ih =>
    intro ks hk p hp
    cases ks with
    | nil=>exact hk.elim
    | cons k ks =>
     obtain ⟨e1,e2⟩:=hk
     rcases List.mem_cons.1 hp with rfl | hp
     ·exact h.vals _ (List.mem_of_getElem? e1)
     ·exact ih ks e2 p hp
  obtain ⟨p,hp,rfl⟩:=List.mem_map.1 ht
  rw [key ps ks hn p hp] at hg
  have:p.2=g:=by injection hg
  rw [← this]
  exact h2 p.2 (List.mem_map.2 ⟨p,hp,rfl⟩)
section
variable {P:Program} {R:Rg} {Q:Exit→Act→World→Prop} {B i:Nat} {w0:Bs}
inductive Nmo (R:Rg) (B:Nat) (w0:Bs) (i:Nat):List (Nat × Nat)→Prop
 | nil:Nmo R B w0 i []
 | cons {s g T:Nat} {A:As} {l:List (Nat × Nat)}:Has R B w0 i (.tmp s) (EqV (ptr g))→Loc R i s T A→Nmo R B w0 i l→Nmo R B w0 i ((s,g)::l)
theorem Nmo.lt {l:List (Nat × Nat)}(h:Nmo R B w0 i l){a:Act}{w:World}(av:R.Av B w0 i a w):∀ p∈l,p.2<w.heap.size:=by
 induction h with
 | nil=>intro p hp; cases hp
 | cons h1 h2 _ ih =>
  intro p hp
  rcases List.mem_cons.1 hp with rfl | hp
  ·obtain ⟨g,cs,e1,_,e3,_⟩:=h2.ok av
   have e2:=h1 a w av
   have e2':a.eval (.tmp _)=ptr _:=e2
   rw [e2'] at e1
   have:ptr _=ptr g:=e1
   injection this with this
   injection this with this
   injection this with this
   rw [this]
   exact (Array.getElem?_eq_some_iff.1 e3).1
  ·exact ih p hp
theorem has_eqA {x:Operand}{v:Value}(h:v.oneCell'=true)(h1:Has R B w0 i x (EqV v)):Has R B w0 i x (EqA v).va:=fun a w av=>by
 have e:a.eval x=v:=h1 a w av
 rw [e]
 exact va_eqA h
theorem r_mkIt {f:FuncId}{T:TypeId}{v:Value}{s:Nat}(h1:Loc R i s T (EqA v)):Wv P Q R B w0 i (.makeFunc (.func f) #[] #[.tmp s]) (NewIt f T v) :=
 zbk fun _ _ _ _ _ a w av=>by
  obtain ⟨g,c,e1,m1,h3,h4⟩:=h1.ok av
  obtain rfl:=h4.1
  have e1':a.eval (.tmp s)=ptr g:=e1
  exact ⟨.func (.func f) #[] (#[Operand.tmp s].map a.eval),w,by simp [execOp,Instr.makeFunc],Grow.refl w,g,by simp [e1'],av.lo _ m1,h3⟩
theorem r_callIt {f f':FuncId}{T:TypeId}{x:Operand}{A:As}{at_:Array TypeId}(ns:List (Nat × Nat))(hA:A.ag=false)(hc:∀ v,v.oneCell'=true→Cn P f' [EqV v] (NewIt f T v))(hx:Has R B w0 i x A.va)(hns:Nmo R B w0 i ns) :
  Wv P Q R B w0 i (.call ⟨.value (.func f'),#[x],at_⟩) (ItN f [(T,A)] (ns.map Prod.snd)):=by
 intro d T' ps af gd a w av K hK
 have hone:(a.eval x).oneCell'=true:=by
  obtain ⟨cs,hp,hv⟩:=hx a w av
  have hl:=A.len _ _ _ hp
  rw [A.ag1 hA] at hl
  match cs,hl,hp,hv with
  | [c],_,hp,hv =>
   have:a.eval x=c:=by rw [hv]; simp [shape,hA]
   rw [this]
   exact A.one _ _ _ hp c (by simp)
 obtain ⟨⟨fn,hf,hn,hb⟩,hcall⟩:=hc (a.eval x) hone
 have hrun:(execOp a.eval ⟨some d,.call ⟨.value (.func f'),#[x],at_⟩,T',ps,af,gd⟩).run P w=.ok (.enter f' #[a.eval x]) w:=by
  have e1:a.eval (.func f')=.func (.func f') #[] #[]:=rfl
  simp only [execOp,resolve,e1,Deferred.ofValue,Sem.run_bind,Sem.run_pure,Result.andThen_ok,invoke,zbm hf hn hb]
  simp
 unfold Oper.wp
 rw [hrun]
 refine (hcall w.heap.size w [a.eval x] (Nat.le_refl _) (.cons rfl .nil)).mono fun e w' ⟨v,he,⟨g,h1,h2,h3⟩,hg⟩=>?_
 subst he
 obtain ⟨cs,hp,hv⟩:=hx a w av
 have hcs:cs=[a.eval x]:=by
  have hl:=A.len _ _ _ hp
  rw [A.ag1 hA] at hl
  match cs,hl with
  | [c],_ =>
   rw [hv]
   simp [shape,hA]
 refine hK v w' hg ⟨[g],⟨h1,by simp,.cons ⟨Nat.le_trans (Av.bw av) h2,_,h3,?_⟩ .nil⟩,fun n hn' hm=>?_⟩
 ·rw [← hcs]
  exact A.grow _ _ _ _ hg hp
 ·obtain rfl:=List.mem_singleton.1 hm
  obtain ⟨p,hp',rfl⟩:=List.mem_map.1 hn'
  have:=hns.lt av p hp'
  omega
end
end Go.Proofs.YtlpppkkggljdcaaGreat
namespace Go.Proofs.YtlpppkkggljdcaaGreat
open Go Go.RowKit
def RFN (x:RF):As:=cat [RIN x.num,RIN x.den]
def REN (x:RE):As:=cat [NumA .u8 x.k,RFN x.p,RFN x.q]
theorem zgf (x:RF):FreeA (RFN x) (RFA x):=zc8 (.cons (zhi _) (.cons (zhi _) .nil))
theorem free_reN (x:RE):FreeA (REN x) (REA x):=zc8 (.cons (zdy _ _) (.cons (zgf _) (.cons (zgf _) .nil)))
theorem free_own {E:TypeId}{m:Nat}{D:List TypeId}{l l':List As}(h:All2 FreeA l l')(hD:∀ A∈l',∀ T∈A.deps,T∈D):Free (OwnC E m D l).va (SlA E D l').va:=fun B B' v w hB hp=>by
 obtain ⟨_,h2,ds,h3,h4,h5⟩:=ownC_v hp
 have hl:=h.length
 have h3':=(zc8 h).2.2 B B' ds w hB h3
 rcases h5 with ⟨rfl,h5⟩ | ⟨g,cap,cur,rfl,e2,e3,e4,e5,e6,e7⟩
 ·exact ⟨[.slice none 0 0],⟨hD,none,0,ds,by rw [← hl,h5],by omega,Nat.zero_le _,h3',fun h=>by omega⟩,rfl⟩
 ·refine ⟨[.slice (some ⟨g,0,none⟩) l.length cap],⟨hD,_,cap,ds,by rw [← hl],by omega,e5,h3',fun _=>⟨g,0,rfl,(Array.getElem?_eq_some_iff.1 e3).1,.inr ⟨_,_,e3⟩,fun j u hu=>?_⟩⟩,rfl⟩
  rw [cell_of_row w g (0+j) cur E _ e3,Nat.zero_add]
  rw [← e7,List.getElem?_take] at hu
  split at hu
  ·simpa using hu
  ·cases hu
theorem map_free {α:Type}{f g:α→As}(h:∀ x,FreeA (f x) (g x)):∀ (l:List α),All2 FreeA (l.map f) (l.map g)
 | []=>.nil
 | x::l=>.cons (h x) (map_free h l)
theorem free_rfNN (x:RF):FreeA (RFN x) (RFN x):=zc8 (.cons (zfx _) (.cons (zfx _) .nil))
theorem free_reNN (x:RE):FreeA (REN x) (REN x):=zc8 (.cons (zdy _ _) (.cons (free_rfNN _) (.cons (free_rfNN _) .nil)))
theorem qd_rfn {k:Nat}{q:Rat}:WkA (QD k q) (RFN (rfOf q)):=dis_wk.trans (zci (.cons and_wk (.cons and_wk .nil)))
theorem copyN_x {x:RF}(h:okX x=true):Cn Tryz.prog 81 [(RFA x).va] (RFN x).va :=
 ((copyD_q (c:=2048) zd).wk (.cons (qa_x h (Nat.le_refl _)).va .nil)).wkp (qd_rfn.trans (zig (congrArg RFN (okX_q h).1.symm))).va
theorem free_ownC {E:TypeId}{m:Nat}{D:List TypeId}{l:List As}(hl:∀ A∈l,FreeA A A):Free (OwnC E m D l).va (OwnC E m D l).va:=fun B B' v w hB hp=>by
 obtain ⟨h1,h2,ds,h3,h4,h5⟩:=ownC_v hp
 refine ⟨[v],⟨v,rfl,h1,h2,ds,free_cat hB hl h3,h4,?_⟩,rfl⟩
 rcases h5 with h5 | ⟨g,cap,cur,e1,e2,e3⟩
 ·exact .inl h5
 ·exact .inr ⟨g,cap,cur,e1,Nat.le_trans hB e2,e3⟩
theorem St.nbC {B N:Nat}{w0:Bs}{Γ:List (Nat × VA)}{Λ:List Lc}{a:Act}{w:World}(h:St B w0 N Γ Λ a w){s m:Nat}{E:TypeId}{D:List TypeId}{l:List As}(k:Nat)(hm:Γ[k]?=some (s,OwnR w0.w.heap.size E m D l))(hB:B=w0.w.heap.size):St B w0 N (Γ.set k (s,(OwnC E m D l).va)) Λ a w :=
 ⟨h.lo,h.defers,h.size,h.base,fun x hx=>by
  rcases List.mem_or_eq_of_mem_set hx with hx | rfl
  ·exact h.vals x hx
  ·have:=h.vals _ (List.mem_of_getElem? hm)
   subst hB
   exact ⟨[_],⟨_,rfl,this⟩,rfl⟩,h.locs,h.dis⟩
def locV (Λ:List Lc)(a:Act)(k:Nat):Prop:=∃ l∈Λ,blk (a.eval (.tmp l.s))=some k
def defV (w0:Bs)(w:World)(k:Nat):Prop:=w0.may k∧w.heap[k]?=some (.deferred (some []))
theorem St.frameA {B N:Nat}{w0:Bs}{Γ:List (Nat × VA)}{Λ:List Lc}{a:Act}{w:World}(h:St B w0 N Γ Λ a w):∃ w1:Bs,St B w1 N Γ Λ a w∧∀ {N':Nat} {Γ':List (Nat × VA)} {Λ':List Lc} {a':Act} {w':World},St B w1 N' Γ' Λ' a' w' →
  St B w0 N' Γ' Λ' a' w'∧∀ {A:VA} {v:Value},A.p B v w→Λ.all (fun l => !A.deps.contains l.T)=true→A.p B v w':=by
 have hloc:∀ k,locV Λ a k→w0.may k∧∃ l∈Λ,blk (a.eval (.tmp l.s))=some k∧∃ cs,w.heap[k]?=some (.cells cs l.T (0,0)):=fun k ⟨l,hl,hb⟩=>by
  obtain ⟨g,cs,e1,e2,e3,_⟩:=h.locs l hl
  have:g=k:=by rw [e1,l.H.ok] at hb; injection hb
  subst this
  exact ⟨e2,l,hl,hb,_,e3⟩
 have hmay:∀ k,(⟨w,fun k=>locV Λ a k∨defV w0 w k,w0.nd⟩:Bs).may k→w0.may k:=fun k hk=>by
  rcases hk with hk | hk | hk
  ·exact .inl (Nat.le_trans h.base.size hk)
  ·exact (hloc k hk).1
  ·exact hk.1
 refine ⟨⟨w,fun k=>locV Λ a k∨defV w0 w k,w0.nd⟩,⟨?_,⟨fun d hd=>?_,h.defers.nodup,h.defers.none⟩,h.size,Kept.refl _,h.vals,fun l hl=>?_,h.dis⟩,fun {N' Γ' Λ' a' w'} h'=>⟨⟨h.lo,⟨fun d hd=>?_,h'.defers.nodup,h'.defers.none⟩,h'.size,?_,h'.vals,fun l hl=>?_,h'.dis⟩,?_⟩⟩
 ·exact fun g hg=>h.lo g (hmay g hg)
 ·obtain ⟨D,e1,e2,e3⟩:=h.defers.all d hd
  exact ⟨D,e1,.inr (.inr ⟨e2,e3⟩),e3⟩
 ·obtain ⟨g,cs,e1,e2,e3,e4⟩:=h.locs l hl
  exact ⟨g,cs,e1,.inr (.inl ⟨l,hl,by rw [e1]; exact l.H.ok g⟩),e3,e4⟩
 ·obtain ⟨D,e1,e2,e3⟩:=h'.defers.all d hd
  exact ⟨D,e1,hmay D e2,e3⟩
 ·refine ⟨h'.base.os.trans h.base.os,h'.base.tape.trans h.base.tape,h'.base.output.trans h.base.output,Nat.le_trans h.base.size h'.base.size,fun k hk hf=>?_⟩
  refine (h'.base.block k (Nat.lt_of_lt_of_le hk h.base.size) (fun hF=>?_)).trans (h.base.block k hk hf)
  rcases hmay k (.inr hF) with h1 | h1
  ·omega
  ·exact hf h1
 ·obtain ⟨g,cs,e1,e2,e3,e4⟩:=h'.locs l hl
  exact ⟨g,cs,e1,hmay g e2,e3,e4⟩
 ·intro A v hp hch
  refine VA.many (Λ.filterMap fun l'=>blk (a.eval (.tmp l'.s))) hp h'.base.os h'.base.tape h'.base.output h'.base.size (fun k c T fz hk hn=>h'.base.block k (Array.getElem?_eq_some_iff.1 hk).1 fun hF=>by
   rcases hF with ⟨l',hl',hb'⟩ | hF
   ·exact hn (List.mem_filterMap.2 ⟨l',hl',hb'⟩)
   ·rw [hF.2] at hk; cases hk) (fun g hg=>?_)
  obtain ⟨l',hl',hb'⟩:=List.mem_filterMap.1 hg
  obtain ⟨hm,l2,hl2,hb2',cs,hcs⟩:=hloc g ⟨l',hl',hb'⟩
  exact ⟨h.lo _ hm,_,_,_,hcs,fun hT=>by
   have:=List.all_eq_true.1 hch l2 hl2
   simp only [Bool.not_eq_true',List.contains_eq_mem,decide_eq_false_iff_not] at this
   exact this hT⟩
theorem St.hide {B N:Nat}{w0:Bs}{Γ:List (Nat × VA)}{Λ:List Lc}{a:Act}{w:World}(h:St B w0 N Γ Λ a w){s:Nat}{A:VA}(k:Nat)(hm:Γ[k]?=some (s,A)):∃ v,A.p B v w∧St B w0 N (Γ.set k (s,EqV v)) Λ a w :=
 ⟨a.eval (.tmp s),h.vals _ (List.mem_of_getElem? hm),h.lo,h.defers,h.size,h.base,fun x hx=>by
  rcases List.mem_or_eq_of_mem_set hx with hx | rfl
  ·exact h.vals x hx
  ·exact rfl,h.locs,h.dis⟩
theorem St.shw {B N:Nat}{w0:Bs}{Γ:List (Nat × VA)}{Λ:List Lc}{a:Act}{w:World}(h:St B w0 N Γ Λ a w){s:Nat}{A:VA}{v:Value}(k:Nat)(hm:Γ[k]?=some (s,EqV v))(hp:A.p B v w):St B w0 N (Γ.set k (s,A)) Λ a w :=
 ⟨h.lo,h.defers,h.size,h.base,fun x hx=>by
  rcases List.mem_or_eq_of_mem_set hx with hx | rfl
  ·exact h.vals x hx
  ·have e:a.eval (.tmp s)=v:=h.vals _ (List.mem_of_getElem? hm)
   show A.p B (a.eval (.tmp s)) w
   rw [e]
   exact hp,h.locs,h.dis⟩
section
variable {P:Program} {R:Rg} {Q:Exit→Act→World→Prop} {B i:Nat} {w0:Bs}
theorem ob_calV {d s e c:Nat}{T:TypeId}{H:Hd}{cr:Option Nat}{A0 A1:As}{A:VA}{f:FuncId}{ys xs:List Operand}{vs:List Value}{pre:List Ar}{at_:Array TypeId}{ty:TypeId}{ps:String}{af:Array Edge}
  (hs:R.sp[i]?=some (.cal d A e)) (he:R.les[e]?=some ⟨s,T,H,cr,A0,some (i,A1)⟩) (ho:R.ops[i]?=some ⟨some d,.call ⟨.value (.tmp c),ys.toArray,at_⟩,ty,ps,af,none⟩)
  (hc:Cm P f T A0 A1 pre A) (hv:Has R B w0 i (.tmp c) (EqA (.func (.func f) #[] vs.toArray)).va) (hvs:HasL R B w0 i xs (vs.map EqV)) (hx:All2 (ArH R B w0 i s H) pre (ys++xs)):R.Ob P Q B w0 i:=by
 unfold Rg.Ob
 simp only [hs,he]
 intro a w av g cs h1 hB h3 h4 _ K hK
 obtain ⟨⟨fn,hf,hn,hb2⟩,hcall⟩:=hc
 have ev:a.eval (.tmp c)=.func (.func f) #[] vs.toArray:=eqA_va (hv a w av)
 have evs:=eqs_all hvs av
 have hrun:(execOp a.eval ⟨some d,.call ⟨.value (.tmp c),ys.toArray,at_⟩,ty,ps,af,none⟩).run P w=.ok (.enter f ((ys++xs).map a.eval).toArray) w:=by
  simp only [execOp,resolve,ev,Deferred.ofValue,Sem.run_bind,Sem.run_pure,Result.andThen_ok,invoke,zbm hf hn hb2,List.map_append,evs]
  simp
 refine zbg ho rfl ?_
 unfold Oper.wp
 rw [hrun]
 refine (hcall B w g cs _ hB h3 h4 ?_).mono fun e w' ⟨v,cs',he,hv,hg,h5,h6⟩=>by subst he; exact hK v cs' w' hg h5 h6 hv
 clear hcall hrun ho hs he hvs evs
 generalize ys++xs=zs at hx
 induction hx with
 | nil=>exact .nil
 | @cons x y _ _ h _ ih =>
  refine .cons ?_ ih
  cases x with
  | v A=>exact h a w av
  | w H' =>
   obtain ⟨rfl,h2⟩:=h
   exact (h2 a w av).trans h1
end
def endF (g:RGp)(c:Nat):RF × Nat:=if ptF g then (g.lo,c) else if c%2=1 then (g.hi,c/2) else (g.lo,c/2)
def cst (x:RLo)(c:Nat):RE × Nat:=(⟨x.k,(endF x.p c).1,(endF x.q (endF x.p c).2).1⟩,(endF x.q (endF x.p c).2).2)
def cnS (s:List RE × Nat):List RLo→List RE × Nat
 | []=>s
 | x::xs=>cnS (s.1++[(cst x s.2).1],(cst x s.2).2) xs
def cnF (xs:List RLo)(c:Nat):List RE:=(cnS ([],c) xs).1
theorem cnS_app (xs ys:List RLo):∀ s,cnS s (xs++ys)=cnS (cnS s xs) ys:=by
 induction xs with
 | nil=>exact fun _=>rfl
 | cons x xs ih=>exact fun s=>ih _
theorem cn_nx {xs:List RLo}{j c:Nat}(h:j<xs.length):cnS ([],c) (xs.take (j+1))=((cnS ([],c) (xs.take j)).1++[(cst xs[j] (cnS ([],c) (xs.take j)).2).1],(cst xs[j] (cnS ([],c) (xs.take j)).2).2):=by
 rw [List.take_succ_eq_append_getElem h,cnS_app]
 rfl
theorem end_le (g:RGp)(c:Nat):(endF g c).2≤c:=by
 unfold endF
 split
 ·exact Nat.le_refl _
 ·split <;> (show c/2≤c; omega)
theorem cnS_le:∀ (xs:List RLo) (s:List RE × Nat),(cnS s xs).2≤s.2
 | [],s=>Nat.le_refl _
 | x::xs,s=>Nat.le_trans (cnS_le xs _) (Nat.le_trans (end_le _ _) (end_le _ _))
theorem cnS_len:∀ (xs:List RLo) (s:List RE × Nat),(cnS s xs).1.length=s.1.length+xs.length
 | [],s=>rfl
 | x::xs,s=>by
  have e:cnS s (x::xs)=cnS (s.1++[(cst x s.2).1],(cst x s.2).2) xs:=rfl
  rw [e,cnS_len xs,List.length_append,List.length_cons,List.length_cons,List.length_nil]
  omega
theorem lo_p {x:RLo}(h:loF x=true):[x.p.lo,x.p.hi].all okX=true:=zjv (lo_may (i:=0) h)
theorem lo_q {x:RLo}(h:loF x=true):[x.q.lo,x.q.hi].all okX=true:=zjv (lo_may (i:=1) h)
theorem ok_2 {x y:RF}(h:[x,y].all okX=true):okX x=true∧okX y=true:=by
 simp only [List.all_cons,List.all_nil,Bool.and_true,Bool.and_eq_true] at h
 exact h
theorem u_half {e:Nat}:((e:Int)/2^(1:Int).toNat)=((e/2:Nat):Int):=by simp
theorem u_bit {e:Nat}(h:e≤4096):bits .and .u64 (e:Int) 1=((e%2:Nat):Int):=by
 have o:∀ {x:Nat},x≤4096→(BitVec.ofInt 64 (x:Int)).toNat=x:=fun hx=>by
  rw [BitVec.ofInt_natCast,BitVec.toNat_ofNat]
  exact Nat.mod_eq_of_lt zo
 have e1:(BitVec.ofInt 64 (e:Int) &&& BitVec.ofInt 64 ((1:Nat):Int)).toNat=e &&& 1:=by rw [BitVec.toNat_and,o h,o zo]
 show IntKind.u64.wrap (((BitVec.ofInt 64 (e:Int) &&& BitVec.ofInt 64 ((1:Nat):Int)).toNat:Nat):Int)=_
 rw [e1,Nat.and_one_is_mod,wu64 zo]
theorem app_cel:∃ it z,Tryz.prog.info? 62=some it∧it.zero=some z∧it.size=9∧it.bytes=136∧z.cells.size=9:=by
 have h:((Tryz.prog.info? 62).bind fun it=>it.zero.map fun z=>(it.size,it.bytes,z.cells.size))=some (9,136,9):=by kernel_rfl
 cases hi:Tryz.prog.info? 62 with
 | none=>rw [hi] at h; simp at h
 | some it =>
  rw [hi] at h
  cases hz:it.zero with
  | none=>simp [hz] at h
  | some z =>
   simp [hz] at h
   exact ⟨it,z,rfl,hz,h.1,h.2.1,h.2.2⟩
open Rg in
theorem go_appLk {P:Program}{Q:Exit→Act→World→Prop}{B N:Nat}{w0:Bs}{Γ:List (Nat × VA)}{Λ:List Lc}{a:Act}{w:World}{id:Nat}{ops:Array Oper}{sp:List Sp}(n:Nat)(src:List Nat)(i1 i2:Nat)(kl:List Nat){S E T1 T2:TypeId}{s u d e m bytes:Nat}{ps1 ps2:String}{af1 af2:Array Edge}{D D':List TypeId}{l xs:List As}{A2:VA}{it:TypeInfo}{z:Value}
  (h:St B w0 N Γ Λ a w) (hob:Obs P Q ⟨ops,N,Γ,lesN Λ,sp,fun i=>List.range i⟩ B w0 0 n) (hn2:ops.size=n+2) (hk:Rg.chk ⟨ops,N,Γ,lesN Λ,sp,fun i=>List.range i⟩=true)
  (ho1:ops[n]?=some ⟨some d,.call ⟨.builtin .append,#[.tmp s,.tmp u],#[S,S]⟩,T1,ps1,af1,none⟩) (ho2:ops[n+1]?=some ⟨some e,.assign (.tmp d),T2,ps2,af2,none⟩)
  (hi1:i1<n) (h1:sp[i1]?=some (.val s (OwnR w0.w.heap.size E m D l))) (hi2:i2<n) (h2:sp[i2]?=some (.val u A2)) (hA2:∀ w u,A2.p B u w→Kept w0 w→(SlA E D' xs).va.p B u w)
  (hS:P.underlying S=some (.slice E)) (hi:P.info? E=some it) (hz:it.zero=some z) (hsz:it.size=m) (hby:it.bytes=bytes) (hzs:z.cells.size=m) (hm0:0<m) (hl:l.length+xs.length≤100000000000) (hb6:bytes≤1000)
  (hD':∀ T∈D',T∈D) (hED:E ∉ D) (hxm:∀ x∈xs,x.n=m) (hde:(d != e)=true) (hd:d<N) (he:e<N)
  (hsrc:src.all (fun k=>match Γ[k]? with | some y => !y.2.deps.contains E&&Rg.outG ⟨ops,N,Γ,lesN Λ,sp,fun i=>List.range i⟩ y.1 | none=>false)=true)
  (hΛ:(kl.filterMap fun k=>Λ[k]?).all (fun l=>l.T != E && !l.A.deps.contains E&&l.s != d&&l.s != e)=true)
  (hQ:∀ a w,St B w0 N ((e,OwnR w0.w.heap.size E m D (l++xs))::src.filterMap (fun k=>Γ[k]?)) (kl.filterMap fun k=>Λ[k]?) a w→Q .normal a w):(Code.region id ops false).wp P Q a w:=by
 have hles0:∀ y∈lesN Λ,y.cr=none∧y.st=none∧(⟨y.s,y.T,y.H,y.A0⟩:Lc)∈Λ:=fun y hy=>by
  obtain ⟨l',hl',rfl⟩:=List.mem_map.1 hy
  exact ⟨rfl,rfl,hl'⟩
 refine Rg.linK (R:=⟨ops,N,Γ,lesN Λ,sp,fun i=>List.range i⟩) (m:=2) hn2 rfl hk h (fun y hy _=>(hles0 y hy).2.2) (fun i hi=>hob.all i zo zo) fun a1 w1 hinv=>?_
 have hcl:∀ deps,Rg.clash ⟨ops,N,Γ,lesN Λ,sp,fun i=>List.range i⟩ (fun k=>decide (k<n)) deps=false:=fun deps=>by
  unfold Rg.clash
  rw [List.any_eq_false]
  intro y hy
  rw [(hles0 y hy).2.1]
  simp
 have hv:=hinv.v i1 _ s _ h1 rfl (decide_eq_true hi1) (hcl _)
 have hu:=hA2 _ _ (hinv.v i2 _ u _ h2 rfl (decide_eq_true hi2) (hcl _)) hinv.base
 have hB:B≤w0.w.heap.size:=hinv.lo _ (.inl (Nat.le_refl _))
 obtain ⟨v',w',hr,r1,r2,r3⟩:=zg7 (T1:=T1) hS hi hz hsz hby hzs hm0 hl hb6 hv hu hD' hED hxm hinv.base.size hB
 have hdsz:d<a1.tmps.size:=by rw [hinv.size]; exact hd
 have hesz:e<(a1.put (some d) v').tmps.size:=by rw [zbl,hinv.size]; exact he
 have hne:d≠e:=by simpa using hde
 rw [List.range'_succ,wpOps_cons]
 refine zbg (R:=⟨ops,N,Γ,lesN Λ,sp,fun i=>List.range i⟩) ho1 rfl (zbc (w':=w') (v:=v') (by simp [execOp,resolve,invoke,builtin,hr,Result.andThen]) ?_)
 rw [List.range'_succ,wpOps_cons]
 refine zbg (R:=⟨ops,N,Γ,lesN Λ,sp,fun i=>List.range i⟩) ho2 rfl (zbc (w':=w') (v:=v') ?_ (hQ _ _ ?_))
 ·have:=zax a1 d v' hdsz
  simp [execOp,this]
 ·have hother:∀ t,t≠d→t≠e→((a1.put (some d) v').put (some e) v').eval (.tmp t)=a1.eval (.tmp t):=fun t h3 h4=>by
   rw [za9 _ _ _ _ h4,za9 _ _ _ _ h3]
  have hsub:∀ l'∈(kl.filterMap fun k=>Λ[k]?),l'∈Λ:=fun l' hl'=>by
   obtain ⟨k,_,hk⟩:=List.mem_filterMap.1 hl'
   exact List.mem_of_getElem? hk
  have hlc:∀ l'∈(kl.filterMap fun k=>Λ[k]?),l'.T≠E∧E ∉ l'.A.deps∧l'.s≠d∧l'.s≠e:=fun l' hl'=>by
   have:=List.all_eq_true.1 hΛ l' hl'
   simp only [Bool.and_eq_true,bne_iff_ne,Bool.not_eq_true',List.contains_eq_mem,decide_eq_false_iff_not] at this
   exact ⟨this.1.1.1,this.1.1.2,this.1.2,this.2⟩
  have hcur:∀ l'∈Λ,(⟨l'.s,l'.T,l'.H,none,l'.A,none⟩:Le)∈lesN Λ:=fun l' hl'=>List.mem_map.2 ⟨l',hl',rfl⟩
  refine ⟨hinv.lo,hinv.defers.grown r2 r3 rfl,by rw [zbl,zbl]; exact hinv.size,?_,?_,?_,?_⟩
  ·exact ⟨r2.os.trans hinv.base.os,r2.tape.trans hinv.base.tape,r2.output.trans hinv.base.output,Nat.le_trans hinv.base.size r2.size,fun k hk hf =>
    (r2.block k (Nat.lt_of_lt_of_le hk hinv.base.size) (fun e=>by have:=(r3 k e.symm).1; omega)).trans (hinv.base.block k hk hf)⟩
  ·intro y hy
   rcases List.mem_cons.1 hy with rfl | hy
   ·show (OwnR w0.w.heap.size E m D (l++xs)).p B (((a1.put (some d) v').put (some e) v').eval (.tmp e)) w'
    rw [zax _ _ _ hesz]
    exact r1
   ·obtain ⟨k,hk1,hk2⟩:=List.mem_filterMap.1 hy
    have hs:=List.all_eq_true.1 hsrc k hk1
    simp only [hk2,Bool.and_eq_true,Bool.not_eq_true',List.contains_eq_mem,decide_eq_false_iff_not] at hs
    have hout:∀ q,q<ops.size→Rg.dst ⟨ops,N,Γ,lesN Λ,sp,fun i=>List.range i⟩ q≠some y.1:=fun q hq=>by
     have:=List.all_eq_true.1 hs.2 q (by simpa using hq)
     simpa using this
    have g1:y.1≠d:=fun e1=>hout n zo (by unfold Rg.dst; rw [ho1,e1]; rfl)
    have g2:y.1≠e:=fun e1=>hout (n+1) zo (by unfold Rg.dst; rw [ho2,e1]; rfl)
    rw [hother _ g1 g2]
    exact VA.grown (hinv.g y (List.mem_of_getElem? hk2) (fun q hq hdq=>absurd hdq (hout q hq)) (hcl _)) r2 r3 hB hs.1
  ·intro l' hl'
   obtain ⟨g1,g2,g3,g4⟩:=hlc l' hl'
   obtain ⟨g,cs,e1,e2,e3,e4⟩:=hinv.c _ (hcur l' (hsub l' hl')) l'.A rfl
   refine ⟨g,cs,by rw [hother _ g3 g4]; exact e1,e2,?_,As.grown e4 r2 r3 hB g2⟩
   rw [r2.block g (Array.getElem?_eq_some_iff.1 e3).1 (fun e5=>by
    obtain ⟨_,c,fz,e6⟩:=r3 g e5.symm
    rw [e3] at e6
    injection e6 with e6
    injection e6 with _ e6 _
    exact g1 e6)]
   exact e3
  ·intro l1 hl1 l2 hl2 hne'
   obtain ⟨_,_,g3,g4⟩:=hlc l1 hl1
   obtain ⟨_,_,g5,g6⟩:=hlc l2 hl2
   rw [hother _ g3 g4,hother _ g5 g6]
   exact hinv.x _ (hcur l1 (hsub l1 hl1)) _ (hcur l2 (hsub l2 hl2)) hne' rfl rfl
theorem corner1_c {gp:RGp}{c:Nat}(h:[gp.lo,gp.hi].all okX=true)(hc:c≤4096):Cm Tryz.prog 119 119 (NumA .u64 (c:Nat)) (NumA .u64 ((endF gp c).2:Nat)) [.v ((GpA gp).va),.w (ptrH)] ((RFN (endF gp c).1).va):=by
 refine Cm.introK 1 Tryz.func119 rfl zk nq (fun g=>zm 1 rfl) (fun B g w0 a hst=>?_)
 have hst:St B w0 22 [(0,(GpA gp).va),(1,EqV ((ptrH).f g))] [⟨1,119,ptrH,NumA .u64 (c:Nat)⟩] a w0.w:=hst
 refine wp_seq ?_
 refine gl (sts:=[none]) (news:=[⟨2,39,ptrH,some 0,_,none⟩,⟨3,37,ptrH,some 1,_,none⟩]) (sp:=[.alc 1,.alc 2]) [.g 1] hst (oc (zan rfl rfl rfl (gq 0 rfl)) (oc (zap rfl rfl rfl (Str.zero zb9)) o0)) (fun a w hst=>?_)
 have hst:St B w0 22 [(1,_)] [⟨1,119,ptrH,_⟩,⟨2,39,ptrH,_⟩,⟨3,37,ptrH,_⟩] a w:=hst
 refine zt ?_
 refine wp_seq ?_
 refine gl (sts:=[none,none,none]) (news:=[]) (sp:=[.val 5 _,.val 6 _]) [.g 0,.o 1] hst (zv rfl (zaq (lz0 1 rfl) zc6) (zv rfl (za5 (xs:=[.tmp 5]) (point_c h) (.cons (vq 0 rfl) .nil)) o0)) (fun a w hst=>?_)
 have hst:St B w0 22 [(1,_),(6,_)] [⟨1,119,ptrH,_⟩,⟨2,39,ptrH,_⟩,⟨3,37,ptrH,_⟩] a w:=hst
 refine za0 ?_
 refine za8 hst (zm 1 rfl) (fun hb0=>?_) (fun hb0=>?_)
 ·have e:endF gp c=(gp.lo,c):=if_pos hb0
  refine wp_seq ?_
  refine gl (sts:=[none,none,some (3,_)]) (news:=[]) (sp:=[.adr 7 2 (.some 0) True,.val 8 _,.val 9 _,.sto 2]) [.g 0] hst (oc (ob_a rfl rfl (za7 (lz0 1 rfl) zbw)) (zv rfl (za4 0 rfl zk trivial (lz0 1 rfl) (Sub.part 0 rfl rfl) zao) (zv rfl (za5 (xs:=[.tmp 8]) (copyN_x (ok_2 h).1) (.cons (vq 1 rfl) .nil)) (oc (zaf rfl rfl rfl (vq 2 rfl) zao (Eq.trans (b:=4) rfl rfl)) o0)))) (fun a w hst=>?_)
  have hst:St B w0 22 [(1,_)] [⟨1,119,ptrH,_⟩,⟨2,39,ptrH,_⟩,⟨3,37,ptrH,_⟩] a w:=hst
  refine za0 ?_
  refine wp_ret ?_
  refine zad ?_
  have hst:=St.cvA (A':=NumA .u64 ((endF gp c).2:Nat)) hst 0 rfl (by rw [e]; rfl)
  refine zhw hst (zm 0 rfl) (zm 0 rfl) ?_
  refine zai ?_ (zam rfl hst (zm 2 rfl) zao)
  rw [e]; exact zb6
 ·refine wp_skip ?_
  refine zt<|gl (sts:=[none,none,none]) (news:=[]) (sp:=[.val 10 _,.val 11 _,.val 12 _,.val 4 _]) [.g 0,.o 3] hst (zv rfl (zaq (lz0 0 rfl) ty_119) (zv rfl (r_band (vq 0 rfl) (zar 1 rfl) (u_bit hc)) (zv rfl (zc2 (vq 1 rfl) (zar 1 rfl)) (zv rfl (za1 (vq 2 rfl)) o0)))) (fun a w hst=>?_)
  have hst:St B w0 22 [(1,_),(4,_)] [⟨1,119,ptrH,_⟩,⟨2,39,ptrH,_⟩,⟨3,37,ptrH,_⟩] a w:=hst
  refine zt<|gl (sts:=[some (2,_),none,none]) (news:=[]) (sp:=[.val 13 _,.val 14 _,.sto 0]) [.g 0,.g 1] hst (zv rfl (zaq (lz0 0 rfl) ty_119) (zv rfl (zgs (vq 0 rfl) (zar 1 rfl) zd (u_half)) (oc (zaf rfl rfl rfl (vq 1 rfl) ty_119 (Eq.trans (b:=1) rfl rfl)) o0))) (fun a w hst=>?_)
  have hst:St B w0 22 [(1,_),(4,_)] [⟨1,119,ptrH,_⟩,⟨2,39,ptrH,_⟩,⟨3,37,ptrH,_⟩] a w:=hst
  refine zt ?_
  refine wp_seq ?_
  refine gl (sts:=[none,none,none]) (news:=[]) (sp:=[.val 15 _]) [.g 0,.o 0] hst (zv rfl (za2 (gq 1 rfl)) o0) (fun a w hst=>?_)
  have hst:St B w0 22 [(1,_),(15,_)] [⟨1,119,ptrH,_⟩,⟨2,39,ptrH,_⟩,⟨3,37,ptrH,_⟩] a w:=hst
  refine za0 ?_
  refine za8 hst (zm 1 rfl) (fun hb1=>?_) (fun hb1=>?_)
  ·have e:endF gp c=(gp.hi,c/2):=by
    have h1:c%2=1:=by
     have:((c%2:Nat):Int)=1:=by simpa using hb1
     omega
    rw [endF,if_neg (by rw [hb0]; decide),if_pos h1]
   refine wp_seq ?_
   refine gl (sts:=[none,none,some (3,_)]) (news:=[]) (sp:=[.adr 16 2 (.some 4) True,.val 17 _,.val 18 _,.sto 2]) [.g 0] hst (oc (ob_a rfl rfl (za7 (lz0 1 rfl) zby)) (zv rfl (za4 0 rfl zk trivial (lz0 1 rfl) (Sub.part 1 rfl rfl) zao) (zv rfl (za5 (xs:=[.tmp 17]) (copyN_x (ok_2 h).2) (.cons (vq 1 rfl) .nil)) (oc (zaf rfl rfl rfl (vq 2 rfl) zao (Eq.trans (b:=4) rfl rfl)) o0)))) (fun a w hst=>?_)
   have hst:St B w0 22 [(1,_)] [⟨1,119,ptrH,_⟩,⟨2,39,ptrH,_⟩,⟨3,37,ptrH,_⟩] a w:=hst
   refine za0 ?_
   refine wp_ret ?_
   refine zad ?_
   have hst:=St.cvA (A':=NumA .u64 ((endF gp c).2:Nat)) hst 0 rfl (by rw [e]; rfl)
   refine zhw hst (zm 0 rfl) (zm 0 rfl) ?_
   refine zai ?_ (zam rfl hst (zm 2 rfl) zao)
   rw [e]; exact zb6
  ·have e:endF gp c=(gp.lo,c/2):=by
    have h1:¬ c%2=1:=fun h=>by rw [h] at hb1; exact absurd hb1 zd
    rw [endF,if_neg (by rw [hb0]; decide),if_neg h1]
   refine wp_skip ?_
   refine zt<|gl (sts:=[none,none,some (3,_)]) (news:=[]) (sp:=[.adr 19 2 (.some 0) True,.val 20 _,.val 21 _,.sto 2]) [.g 0] hst (oc (ob_a rfl rfl (za7 (lz0 1 rfl) zbw)) (zv rfl (za4 0 rfl zk trivial (lz0 1 rfl) (Sub.part 0 rfl rfl) zao) (zv rfl (za5 (xs:=[.tmp 20]) (copyN_x (ok_2 h).1) (.cons (vq 1 rfl) .nil)) (oc (zaf rfl rfl rfl (vq 2 rfl) zao (Eq.trans (b:=4) rfl rfl)) o0)))) (fun a w hst=>?_)
   have hst:St B w0 22 [(1,_)] [⟨1,119,ptrH,_⟩,⟨2,39,ptrH,_⟩,⟨3,37,ptrH,_⟩] a w:=hst
   refine za0 ?_
   refine wp_ret ?_
   have hst:=St.cvA (A':=NumA .u64 ((endF gp c).2:Nat)) hst 0 rfl (by rw [e]; rfl)
   refine zhw hst (zm 0 rfl) (zm 0 rfl) ?_
   refine zai ?_ (zam rfl hst (zm 2 rfl) zao)
   rw [e]; exact zb6
theorem In_len (xs:List RLo):In (((xs.map LoA).length:Nat):Int)=In ((xs.length:Nat):Int):=by rw [List.length_map]
section
variable {P:Program} {R:Rg} {Q:Exit→Act→World→Prop} {B i:Nat} {w0:Bs}
theorem wv_ex {A A':VA}{op:Op}(e:A=A')(h:Wv P Q R B w0 i op A):Wv P Q R B w0 i op A':=e▸h
end
set_option maxHeartbeats 1000000 in
theorem corner_c (xs:List RLo){c:Nat}(h4:xs.length≤4096)(hx:xs.all loF=true)(hc:c≤4096):Cn Tryz.prog 85 [(SlA 41 [U32] (xs.map LoA)).va,(NumA .u64 (c:Nat)).va] ((OwnC 62 9 [U32] ((cnF xs c).map REN)).va):=by
 obtain ⟨it,z,e1,e2,e3,e4,e5⟩:=app_cel
 refine Cn.introW Tryz.func85 rfl zk nq (.cons (zjb (fun A hA=>by obtain ⟨x,_,rfl⟩:=List.mem_map.1 hA; exact zke x)).va (.cons (zii _ _).va .nil)) (free_ownC fun A hA=>by obtain ⟨x,_,rfl⟩:=List.mem_map.1 hA; exact free_reNN x) (fun B w0 a hB0 hst=>?_)
 have hst:St B w0 38 [(0,(SlO 41 [U32] (xs.map LoA) True).va),(1,(NumA .u64 (c:Nat)).va)] [] a w0.w:=hst
 refine wp_seq ?_
 refine gl (sts:=[]) (news:=[⟨3,119,ptrH,some 0,_,none⟩]) (sp:=[.alc 0,.val 4 _]) [.g 0,.o 1] hst (oc (zan rfl rfl rfl (gq 1 rfl)) (zv rfl (za1 zbe) o0)) (fun a w hst=>?_)
 have hst:St B w0 38 [(0,_),(4,_)] [⟨3,119,ptrH,_⟩] a w:=hst
 refine zt ?_
 obtain ⟨q3,hst⟩:=St.nm hst 0 rfl
 refine gl (sts:=[none]) (news:=[]) (sp:=[.val 10 _,.val 5 _]) [.g 0,.g 1,.g 2,.o 1] hst (zv rfl (zde (xs:=[.tmp 3]) (vs:=[ptr q3]) (.cons (gq 0 rfl) .nil)) (zv rfl (za1 (vq 0 rfl)) o0)) (fun a w hst=>?_)
 have hst:St B w0 38 [(3,_),(0,_),(4,_),(5,_)] [⟨3,119,ptrH,_⟩] a w:=hst
 refine zt<|gl (sts:=[none]) (news:=[]) (sp:=[.val 11 _,.val 12 (In (xs.length:Nat)),.val 13 (OwnR w0.w.heap.size 62 9 [U32] []),.val 6 _]) [.g 0,.g 1,.g 3,.o 3] hst (zv rfl (za2 (gq 1 rfl)) (zv rfl (wv_ex (In_len xs) (zd4 Tryz.underlying22 (zca (zas (vq 0 rfl))))) (zv rfl (r_makeR Tryz.underlying51 e1 e2 e3 e4 e5 zd zd (Nat.le_of_eq hB0) za3 (vq 1 rfl) zo) (zv rfl (za1 (vq 2 rfl)) o0)))) (fun a w hst=>?_)
 have hst:St B w0 38 [(3,_),(0,_),(5,_),(6,_)] [⟨3,119,ptrH,_⟩] a w:=hst
 refine zt ?_
 refine wp_seq ?_
 refine gl (sts:=[none]) (news:=[]) (sp:=[.val 14 _,.val 15 _,.val 16 _]) [.g 0,.g 2,.g 3,.o 0,.o 1,.o 2] hst (zv rfl (za2 (gq 1 rfl)) (zv rfl (zd4 Tryz.underlying22 (zca (zas (vq 0 rfl)))) (zv rfl (za2 za3) o0))) (fun a w hst=>?_)
 have hst:St B w0 38 [(3,_),(5,_),(6,_),(14,_),(15,_),(16,_)] [⟨3,119,ptrH,_⟩] a w:=hst
 refine za0 ?_
 refine wp_block ?_
 have hst:=St.sel hst [0,1,2,3,4,5]
 refine wp_loop_ghost (fun n a w=>∃ j:Nat,(n+j=xs.length)∧St B w0 38 [(3,EqV (ptr q3)),(5,(EqA (.func (.func 119) #[] #[ptr q3])).va),(6,OwnR w0.w.heap.size 62 9 [U32] ((cnS ([],c) (xs.take j)).1.map REN)),(14,(SlO 41 [U32] (xs.map LoA) True).va),(15,In (xs.length:Nat)),(16,In (j:Nat))] [⟨3,119,ptrH,NumA .u64 ((cnS ([],c) (xs.take j)).2:Nat)⟩] a w) (xs.length) ?_ ?_
 ·rw [List.length_map] at hst
  exact ⟨0,by omega,hst⟩
 intro n a w hI
 obtain ⟨j,hn,hst⟩:=hI
 refine wp_seq ?_
 refine gl (sts:=[none]) (news:=[]) (sp:=[.val 17 _]) [.g 0,.g 1,.g 2,.g 3,.g 4,.g 5,.o 0] hst (zv rfl (zbt (gq 5 rfl) (gq 4 rfl)) o0) (fun a w hst=>?_)
 have hst:St B w0 38 [(3,_),(5,_),(6,_),(14,_),(15,_),(16,_),(17,_)] [⟨3,119,ptrH,_⟩] a w:=hst
 refine zt ?_
 refine za8 hst (zm 6 rfl) (fun hb0=>?_) (fun hb0=>?_)
 ·have hj:j<xs.length:=by have:=of_decide_eq_true hb0; omega
  have hlo:loF xs[j]=true:=List.all_eq_true.1 hx _ (List.getElem_mem hj)
  have hcl:(cnS ([],c) (xs.take j)).2≤4096:=Nat.le_trans (cnS_le _ _) hc
  refine wp_skip ?_
  refine zt ?_
  refine wp_block ?_
  refine wp_seq ?_
  refine gl (sts:=[none]) (news:=[⟨8,41,ptrH,some 2,_,some (3,_)⟩]) (sp:=[.val 18 _,.val 19 _,.alc 1,.sto 1]) [.g 0,.g 1,.g 2,.g 3,.g 4,.g 5] hst (zv rfl (ze5 zeu (zf1 fun _=>rfl) (zca (zas (gq 3 rfl))) (gq 5 rfl) (zdg hj)) (zv rfl (zav (vq 0 rfl) zg2) (oc (zap rfl rfl rfl (Str.zero zcw)) (oc (zaf rfl rfl rfl (vq 1 rfl) zg2 (Eq.trans (b:=17) rfl rfl)) o0)))) (fun a w hst=>?_)
  have hst:St B w0 38 [(3,_),(5,_),(6,_),(14,_),(15,_),(16,_)] [⟨3,119,ptrH,_⟩,⟨8,41,ptrH,_⟩] a w:=hst
  refine zt ?_
  obtain ⟨v6,hv6,hst⟩:=St.hide hst 2 rfl
  obtain ⟨w1,hst,hback⟩:=St.frameA hst
  have hst:St B w1 38 [(3,_),(5,_),(6,_),(14,_),(15,_),(16,_)] [⟨3,119,ptrH,_⟩,⟨8,41,ptrH,_⟩] a w:=hst
  refine zaz (anc:=[[],[0],[],[],[3],[2,3,4],[0,1,2,3,4,5],[],[0,1,2,3,4,5,6,7]]) (sts:=[some (5,_),none]) (news:=[⟨9,62,ptrH,some 7,_,some (8,_)⟩]) (sp:=[.adr 20 8 (.some 0) True,.val 21 _,.val 22 _,.adr 23 8 (.some 1) True,.val 24 _,.cal 25 _ 0,.val 26 _,.alc 2,.sto 2]) [.g 0,.g 1,.g 2,.g 3,.g 4,.g 5] za6 hst (oc (ob_a rfl rfl (za7 (lz0 1 rfl) zcz)) (zv rfl (za4 0 rfl zk trivial (lz0 1 rfl) (Sub.part 0 rfl rfl) zeb) (zv rfl (za2 (gq 1 rfl)) (oc (ob_a rfl rfl (za7 (lz0 1 rfl) zc5)) (zv rfl (za4 3 rfl zk trivial (lz0 1 rfl) (Sub.part 1 rfl rfl) zc6) (oc (ob_calV (ys:=[.tmp 24]) (xs:=[.tmp 3]) (vs:=[ptr q3]) rfl rfl rfl (corner1_c (lo_p hlo) hcl) (vq 2 rfl) (.cons (gq 0 rfl) .nil) (.cons (vq 4 rfl) (.cons arw .nil))) (zv rfl (zbb (xs:=[(0,.tmp 21),(1,.tmp 25)]) (qs:=[(0,_),(1,_)]) zd8 (.cons ⟨rfl,(vq 1 rfl),rfl⟩ (.cons ⟨rfl,(has_c 5 rfl zk zk),rfl⟩ .nil))) (oc (zap rfl rfl rfl (Str.zero zd8)) (oc (zaf rfl rfl rfl (vq 6 rfl) zkf (Eq.trans (b:=9) rfl rfl)) o0))))))))) zk zk zk zk (fun a w hst=>?_)
  have hst:St B w1 38 [(3,_),(5,_),(6,_),(14,_),(15,_),(16,_)] [⟨3,119,ptrH,_⟩,⟨8,41,ptrH,_⟩,⟨9,62,ptrH,_⟩] a w:=hst
  refine zt<|gl (sts:=[some (3,_),none,some (5,_)]) (news:=[]) (sp:=[.val 27 _,.adr 28 8 (.some 9) True,.val 29 _,.cal 30 _ 0,.adr 31 9 (.some 5) True,.sto 2]) [.g 0,.g 1,.g 2,.g 3,.g 4,.g 5] hst (zv rfl (za2 (gq 1 rfl)) (oc (ob_a rfl rfl (za7 (lz0 1 rfl) zcb)) (zv rfl (za4 1 rfl zk trivial (lz0 1 rfl) (Sub.part 2 rfl rfl) zc6) (oc (ob_calV (ys:=[.tmp 29]) (xs:=[.tmp 3]) (vs:=[ptr q3]) rfl rfl rfl (corner1_c (lo_q hlo) (Nat.le_trans (end_le _ _) hcl)) (vq 0 rfl) (.cons (gq 0 rfl) .nil) (.cons (vq 2 rfl) (.cons arw .nil))) (oc (ob_a rfl rfl (za7 (lz0 2 rfl) zda)) (oc (zft 4 rfl rfl rfl rfl zk (has_c 3 rfl zk zk) zao (Put.part 2 rfl rfl rfl)) o0)))))) (fun a w hst=>?_)
  have hst:St B w1 38 [(3,_),(5,_),(6,_),(14,_),(15,_),(16,_)] [⟨3,119,ptrH,_⟩,⟨8,41,ptrH,_⟩,⟨9,62,ptrH,_⟩] a w:=hst
  obtain ⟨hst,hown⟩:=hback hst
  have hst:=St.shw hst 2 rfl (hown hv6 zk)
  have hst:St B w0 38 [(3,_),(5,_),(6,_),(14,_),(15,_),(16,_)] [⟨3,119,ptrH,_⟩,⟨8,41,ptrH,_⟩,⟨9,62,ptrH,_⟩] a w:=hst
  refine za0 ?_
  refine go_appLk (sp:=[.val 32 _,.val 33 _,.val 34 _,.val 35 VT,.val 6 VT]) 3 [0,1,3,4,5] 0 2 [0] hst (zv rfl (za2 (gq 2 rfl)) (zv rfl (zaq (lz0 2 rfl) zkf) (zv rfl (zcx (D:=[U32]) (l:=[_]) (xs:=[.tmp 33]) (zfq zk) sl_51 zk (n_ok zk) nq nq nq (.cons (vq 1 rfl) .nil) rfl rfl) o0))) rfl zk rfl rfl zd rfl zd rfl (fun _ _ h _=>h) Tryz.underlying51 e1 e2 e3 e4 e5 zd (by simp only [List.length_map,cnS_len,List.length_take,List.length_nil,List.length_singleton]; omega) zd (fun T hT=>hT) zd (fun A hA=>by obtain rfl:=List.mem_singleton.1 hA; rfl) zk nq nq zk zk (fun a w hst=>?_)
  have hst:St B w0 38 [(6,_),(3,_),(5,_),(14,_),(15,_),(16,_)] [⟨3,119,ptrH,_⟩] a w:=hst
  refine zaj ?_
  refine za0 ?_
  refine gl (sts:=[none]) (news:=[]) (sp:=[.val 36 _,.val 16 _]) [.g 0,.g 1,.g 2,.g 3,.g 4,.o 1] hst (zv rfl (zb7 (gq 5 rfl) za3 ((wi64 zo zo).trans (by omega:(_:Int)=((j+1:Nat):Int)))) (zv rfl (za2 (vq 0 rfl)) o0)) (fun a w hst=>?_)
  have hst:St B w0 38 [(6,_),(3,_),(5,_),(14,_),(15,_),(16,_)] [⟨3,119,ptrH,_⟩] a w:=hst
  refine za0 ?_
  have hst:=St.sel hst [1,2,0,3,4,5]
  have e:=cn_nx (c:=c) hj
  have hst:=St.wkG (A':=OwnR w0.w.heap.size 62 9 [U32] ((cnS ([],c) (xs.take (j+1))).1.map REN)) hst 2 rfl (zbv (by rw [e,List.map_append]; rfl))
  have hst:=St.cvA (A':=NumA .u64 ((cnS ([],c) (xs.take (j+1))).2:Nat)) hst 0 rfl (by rw [e]; rfl)
  exact ⟨n-1,by omega,j+1,by omega,hst⟩
 ·obtain rfl:j=xs.length:=by have:=of_decide_eq_false hb0; omega
  rw [List.take_length] at hst
  have hst:=St.nbC hst 2 rfl hB0
  refine wp_exit ?_
  refine zac ?_
  refine zac ?_
  refine zay ?_
  refine zt<|gl (sts:=[none]) (news:=[]) (sp:=[.val 37 _,.val 4 _]) [.g 0,.o 1] hst (zv rfl (za2 (gq 2 rfl)) (zv rfl (za1 (vq 0 rfl)) o0)) (fun a w hst=>?_)
  have hst:St B w0 38 [(3,_),(4,_)] [⟨3,119,ptrH,_⟩] a w:=hst
  refine za0 ?_
  refine wp_ret ?_
  refine zai ?_ (zaa rfl hst (zm 1 rfl))
  exact zb6
theorem sh_pow {k:Nat}(h:k≤12):IntKind.i64.wrap ((1:Int)*2^((k:Int).toNat))=((2^k:Nat):Int):=by
 have h1:2^k≤4096:=Nat.le_trans (Nat.pow_le_pow_right zd h) zd
 have e:(1:Int)*2^((k:Int).toNat)=((2^k:Nat):Int):=by rw [Int.toNat_natCast,Int.one_mul]; simp
 rw [e]
 generalize 2^k=p at h1
 rw [wi64 zo zo]
theorem pow_12 {k:Nat}(h:k≤12):2^k≤4096:=Nat.le_trans (Nat.pow_le_pow_right zd h) zd
set_option maxHeartbeats 1000000 in
theorem zj6 (xs:List RLo)(h4:xs.length≤4096)(hx:xs.all loF=true)(hm12:manyF xs≤12):ItC Tryz.prog 84 [(22,SlO 41 [U32] (xs.map LoA) True)] (fun k=>[In ((k:Nat):Int),(OwnC 62 9 [U32] ((cnF xs k).map REN)).va]) false ((2^manyF xs)) [U32]:=by
 intro gs
 refine ItCg.intro Tryz.func84 rfl zk nq (fun l B Db J Jx w0 a hgl hoff hIt hG hst=>?_)
 have hst:St B w0 44 [(0,EqV (.func (.yield l) #[] #[])),(1,EqV (ptr (gs.getD 0 0)))] [⟨1,22,ptrH,SlO 41 [U32] (xs.map LoA) True⟩] a w0.w:=hst
 have hp12:=pow_12 hm12
 refine wpIn_seq ?_
 refine zc4 (sts:=[none]) (news:=[]) (sp:=[.val 3 _]) [.g 0,.g 1,.o 0] zk (zcd fun _ _ h=>h) hst (zv rfl (za1 za3) o0) zk zk zk (fun a w hst=>?_)
 have hst:St B w0 44 [(0,_),(1,_),(3,_)] [⟨1,22,ptrH,_⟩] a w:=hst
 refine za0 ?_
 refine wpIn_seq ?_
 refine wpIn_seq ?_
 refine zc4 (sts:=[none]) (news:=[]) (sp:=[.val 9 _,.val 10 _,.val 11 _]) [.g 0,.g 1,.g 2,.o 0,.o 1,.o 2] zk (zcd fun _ _ h=>h) hst (zv rfl (zaq (lz0 0 rfl) ty_22) (zv rfl (zd4 Tryz.underlying22 (zca (zas (E:=41) (vq 0 rfl)))) (zv rfl (za2 za3) o0))) zk zk zk (fun a w hst=>?_)
 have hst:St B w0 44 [(0,_),(1,_),(3,_),(9,_),(10,_),(11,_)] [⟨1,22,ptrH,_⟩] a w:=hst
 refine za0 ?_
 refine wpIn_block ?_
 have hst:=St.sel hst [0,1,2,3,4,5]
 refine wpIn_loop_ghost (fun n a w=>∃ j:Nat,(n+j=xs.length)∧St B w0 44 [(0,EqV (.func (.yield l) #[] #[])),(1,EqV (ptr (gs.getD 0 0))),(3,In ((manyF (xs.take j):Nat):Int)),(9,(SlO 41 [U32] (xs.map LoA) True).va),(10,In (xs.length:Nat)),(11,In (j:Nat))] [⟨1,22,ptrH,SlO 41 [U32] (xs.map LoA) True⟩] a w) (xs.length) ?_ ?_
 ·rw [List.length_map] at hst
  exact ⟨0,by omega,hst⟩
 intro n a w hI
 obtain ⟨j,hn,hst⟩:=hI; obtain ⟨n1,hn1⟩:∃ n1,n1=n:=⟨n,rfl⟩
 refine wpIn_seq ?_
 refine zc4 (sts:=[none]) (news:=[]) (sp:=[.val 12 _]) [.g 0,.g 1,.g 2,.g 3,.g 4,.g 5,.o 0] zk (zcd fun _ _ h=>h) hst (zv rfl (zbt (gq 5 rfl) (gq 4 rfl)) o0) zk zk zk (fun a w hst=>?_)
 have hst:St B w0 44 [(0,_),(1,_),(3,_),(9,_),(10,_),(11,_),(12,_)] [⟨1,22,ptrH,_⟩] a w:=hst
 refine za0 ?_
 refine wpIn_seq ?_
 refine zeo hst (zm 6 rfl) (fun hb0=>?_) (fun hb0=>?_)
 ·have hj:j<xs.length:=by have:=of_decide_eq_true hb0; omega
  have hlo:loF xs[j]=true:=List.all_eq_true.1 hx _ (List.getElem_mem hj)
  refine wpIn_skip ?_
  refine za0 ?_
  refine wpIn_seq ?_
  refine wpIn_block ?_
  refine wpIn_seq ?_
  refine zc4 (sts:=[none]) (news:=[⟨5,41,ptrH,some 2,_,some (3,_)⟩]) (sp:=[.val 13 _,.val 14 _,.alc 1,.sto 1]) [.g 0,.g 1,.g 2,.g 3,.g 4,.g 5] zk (zcd fun _ _ h=>h) hst (zv rfl (ze5 zeu (zf1 fun _=>rfl) (zca (zas (E:=41) (gq 3 rfl))) (gq 5 rfl) (zdg hj)) (zv rfl (zav (vq 0 rfl) zg2) (oc (zap rfl rfl rfl (Str.zero zcw)) (oc (zaf rfl rfl rfl (vq 1 rfl) zg2 (Eq.trans (b:=17) rfl rfl)) o0)))) zk zk zk (fun a w hst=>?_)
  have hst:St B w0 44 [(0,_),(1,_),(3,_),(9,_),(10,_),(11,_)] [⟨1,22,ptrH,_⟩,⟨5,41,ptrH,_⟩] a w:=hst
  refine za0 ?_
  refine wpIn_seq ?_
  refine zc4 (sts:=[none,none]) (news:=[]) (sp:=[.adr 15 5 (.some 1) True,.val 16 _,.adr 17 5 (.some 9) True,.val 18 _,.val 19 _,.val 20 _]) [.g 0,.g 1,.g 2,.g 3,.g 4,.g 5,.o 4,.o 5] zk (zcd fun _ _ h=>h) hst (oc (ob_a rfl rfl (za7 (lz0 1 rfl) zc5)) (zv rfl (za4 0 rfl zk trivial (lz0 1 rfl) (Sub.part 1 rfl rfl) zc6) (oc (ob_a rfl rfl (za7 (lz0 1 rfl) zcb)) (zv rfl (za4 2 rfl zk trivial (lz0 1 rfl) (Sub.part 2 rfl rfl) zc6) (zv rfl (zef (xs:=[(0,.tmp 16),(1,.tmp 18)]) (qs:=[(0,_),(1,_)]) arr_gaps (.cons ⟨rfl,(vq 1 rfl),rfl⟩ (.cons ⟨rfl,(vq 3 rfl),rfl⟩ .nil))) (zv rfl (za2 za3) o0)))))) zk zk zk (fun a w hst=>?_)
  have hst:St B w0 44 [(0,_),(1,_),(3,_),(9,_),(10,_),(11,_),(19,_),(20,_)] [⟨1,22,ptrH,_⟩,⟨5,41,ptrH,_⟩] a w:=hst
  refine za0 ?_
  refine wpIn_block ?_
  have hst:=St.sel hst [0,1,2,3,4,5,6,7]
  have hst:=St.selL hst [0]
  refine wpIn_loop_ghost (fun n a w=>∃ i:Nat,(n+i=2)∧St B w0 44 [(0,EqV (.func (.yield l) #[] #[])),(1,EqV (ptr (gs.getD 0 0))),(3,In ((manyF (xs.take j)+lsI xs[j] i:Nat):Int)),(9,(SlO 41 [U32] (xs.map LoA) True).va),(10,In (xs.length:Nat)),(11,In (j:Nat)),(19,(cat [GpA xs[j].p,GpA xs[j].q]).va),(20,In (i:Nat))] [⟨1,22,ptrH,SlO 41 [U32] (xs.map LoA) True⟩] a w) (2) ?_ ?_
  ·exact ⟨0,rfl,hst⟩
  intro n a w hI
  obtain ⟨i,hn2,hst⟩:=hI
  refine wpIn_seq ?_
  refine zc4 (sts:=[none]) (news:=[]) (sp:=[.val 21 _]) [.g 0,.g 1,.g 2,.g 3,.g 4,.g 5,.g 6,.g 7,.o 0] zk (zcd fun _ _ h=>h) hst (zv rfl (zbt (gq 7 rfl) za3) o0) zk zk zk (fun a w hst=>?_)
  have hst:St B w0 44 [(0,_),(1,_),(3,_),(9,_),(10,_),(11,_),(19,_),(20,_),(21,_)] [⟨1,22,ptrH,_⟩] a w:=hst
  refine za0 ?_
  refine wpIn_seq ?_
  refine zeo hst (zm 8 rfl) (fun hb1=>?_) (fun hb1=>?_)
  ·have hi:i<2:=by have:=of_decide_eq_true hb1; omega
   refine wpIn_skip ?_
   refine za0 ?_
   refine wpIn_seq ?_
   refine wpIn_block ?_
   refine wpIn_seq ?_
   refine zc4 (sts:=[none]) (news:=[⟨7,39,ptrH,some 1,_,some (2,_)⟩]) (sp:=[.val 22 _,.alc 1,.sto 1]) [.g 0,.g 1,.g 2,.g 3,.g 4,.g 5,.g 6,.g 7] zk (zcd fun _ _ h=>h) hst (zv rfl (r_idxv (gq 6 rfl) rfl Tryz.underlying73 zc6 (n_ok zk) (gq 7 rfl) (gs_at hi)) (oc (zap rfl rfl rfl (Str.zero zd0)) (oc (zaf rfl rfl rfl (vq 0 rfl) zc6 (Eq.trans (b:=8) rfl rfl)) o0))) zk zk zk (fun a w hst=>?_)
   have hst:St B w0 44 [(0,_),(1,_),(3,_),(9,_),(10,_),(11,_),(19,_),(20,_)] [⟨1,22,ptrH,_⟩,⟨7,39,ptrH,_⟩] a w:=hst
   refine za0 ?_
   refine wpIn_seq ?_
   refine zc4 (sts:=[none,none]) (news:=[]) (sp:=[.val 23 _,.val 24 _,.val 25 _]) [.g 0,.g 1,.g 2,.g 3,.g 4,.g 5,.g 6,.g 7,.o 2] zk (zcd fun _ _ h=>h) hst (zv rfl (zaq (lz0 1 rfl) zc6) (zv rfl (za5 (xs:=[.tmp 23]) (point_c (zjv (lo_may hlo))) (.cons (vq 0 rfl) .nil)) (zv rfl (zev (vq 1 rfl)) o0))) zk zk zk (fun a w hst=>?_)
   have hst:St B w0 44 [(0,_),(1,_),(3,_),(9,_),(10,_),(11,_),(19,_),(20,_),(25,_)] [⟨1,22,ptrH,_⟩,⟨7,39,ptrH,_⟩] a w:=hst
   refine za0 ?_
   refine zh0 (fun a w =>  St B w0 44 [(0,EqV (.func (.yield l) #[] #[])),(1,EqV (ptr (gs.getD 0 0))),(3,In ((manyF (xs.take j)+lsI xs[j] (i+1):Nat):Int)),(9,(SlO 41 [U32] (xs.map LoA) True).va),(10,In (xs.length:Nat)),(11,In (j:Nat)),(19,(cat [GpA xs[j].p,GpA xs[j].q]).va),(20,In (i:Nat))] [⟨1,22,ptrH,SlO 41 [U32] (xs.map LoA) True⟩,⟨7,39,ptrH,GpA (gAt xs[j] i)⟩] a w) hst (zm 8 rfl) (fun hb2=>?_) (fun hb2=>?_) (fun a w hst=>?_)
   ·refine zc4 (sts:=[none,none]) (news:=[]) (sp:=[.val 26 _,.val 27 _,.val 3 _]) [.g 0,.g 1,.g 3,.g 4,.g 5,.g 6,.g 7,.o 2] zk (zcd fun _ _ h=>h) hst (zv rfl (za2 (gq 2 rfl)) (zv rfl (zb7 (vq 0 rfl) za3 ((wi64 (by have:=zdp xs j; have:=zj0 xs[j] i; omega) (by have:=zdp xs j; have:=zj0 xs[j] i; omega)).trans (by omega:(_:Int)=((manyF (xs.take j)+(lsI xs[j] i+1):Nat):Int)))) (zv rfl (za1 (vq 1 rfl)) o0))) zk zk zk (fun a w hst=>?_)
    have hst:St B w0 44 [(0,_),(1,_),(9,_),(10,_),(11,_),(19,_),(20,_),(3,_)] [⟨1,22,ptrH,_⟩,⟨7,39,ptrH,_⟩] a w:=hst
    refine za0 ?_
    have hst:=St.sel hst [0,1,7,2,3,4,5,6]
    have hm:=zdp xs j
    have hle:=zj0 xs[j] i
    rw [lsI_1 hi hb2]
    exact hst
   ·refine wpIn_skip ?_
    refine za0 ?_
    have hst:=St.sel hst [0,1,2,3,4,5,6,7]
    rw [lsI_0 hi hb2]
    exact hst
   refine zaj ?_
   refine za0 ?_
   refine zc4 (sts:=[none,none]) (news:=[]) (sp:=[.val 28 _,.val 20 _]) [.g 0,.g 1,.g 2,.g 3,.g 4,.g 5,.g 6,.o 1] zk (zcd fun _ _ h=>h) hst (zv rfl (zb7 (gq 7 rfl) za3 ((wi64 zo zo).trans (by omega:(_:Int)=((i+1:Nat):Int)))) (zv rfl (za2 (vq 0 rfl)) o0)) zk zk zk (fun a w hst=>?_)
   have hst:St B w0 44 [(0,_),(1,_),(3,_),(9,_),(10,_),(11,_),(19,_),(20,_)] [⟨1,22,ptrH,_⟩,⟨7,39,ptrH,_⟩] a w:=hst
   refine za0 ?_
   have hst:=St.sel hst [0,1,2,3,4,5,6,7]
   have hst:=St.selL hst [0]
   exact ⟨n-1,by omega,i+1,by omega,hst⟩
  ·obtain rfl:i=2:=by have:=of_decide_eq_false hb1; omega
   refine wpIn_exit ?_
   refine zac ?_
   refine zac ?_
   refine zay ?_
   refine zaj ?_
   refine za0 ?_
   refine zc4 (sts:=[none]) (news:=[]) (sp:=[.val 29 _,.val 11 _]) [.g 0,.g 1,.g 2,.g 3,.g 4,.o 1] zk (zcd fun _ _ h=>h) hst (zv rfl (zb7 (gq 5 rfl) za3 ((wi64 zo zo).trans (by omega:(_:Int)=((j+1:Nat):Int)))) (zv rfl (za2 (vq 0 rfl)) o0)) zk zk zk (fun a w hst=>?_)
   have hst:St B w0 44 [(0,_),(1,_),(3,_),(9,_),(10,_),(11,_)] [⟨1,22,ptrH,_⟩] a w:=hst
   refine za0 ?_
   have hst:=St.sel hst [0,1,2,3,4,5]
   rw [← many_nx hj] at hst
   exact ⟨n1-1,by omega,j+1,by omega,hst⟩
 ·obtain rfl:j=xs.length:=by have:=of_decide_eq_false hb0; omega
  rw [List.take_length] at hst
  refine wpIn_exit ?_
  refine zac ?_
  refine zac ?_
  refine zay ?_
  refine za0 ?_
  refine wpIn_seq ?_
  refine zc4 (sts:=[none]) (news:=[]) (sp:=[.val 30 _,.val 31 _,.val 32 _]) [.g 0,.g 1,.o 1,.o 2] zk (zcd fun _ _ h=>h) hst (zv rfl (za2 (gq 2 rfl)) (zv rfl (r_shl za3 (vq 0 rfl) (⟨by omega,by show ((manyF xs:Nat):Int)≤64; omega⟩) (sh_pow hm12)) (zv rfl (za2 za3) o0))) zk zk zk (fun a w hst=>?_)
  have hst:St B w0 44 [(0,_),(1,_),(31,_),(32,_)] [⟨1,22,ptrH,_⟩] a w:=hst
  refine za0 ?_
  refine wpIn_block ?_
  have hst:=St.sel hst [0,1,2,3]
  refine wpIn_loop_ghost (fun n a w=>∃ (k:Nat) (w0:Bs),(n+k=2^manyF xs∧ItG B gs [22] J k w0)∧St B w0 44 [(0,EqV (.func (.yield l) #[] #[])),(1,EqV (ptr (gs.getD 0 0))),(31,In ((2^manyF xs:Nat):Int)),(32,In (k:Nat))] [⟨1,22,ptrH,SlO 41 [U32] (xs.map LoA) True⟩] a w) (2^manyF xs) ?_ ?_
  ·exact ⟨0,w0,⟨by omega,hG⟩,hst⟩
  intro n a w hI
  obtain ⟨k,w0,⟨hn,hG⟩,hst⟩:=hI
  refine wpIn_seq ?_
  refine zc4 (sts:=[none]) (news:=[]) (sp:=[.val 33 _]) [.g 0,.g 1,.g 2,.g 3,.o 0] zk (zcd fun _ _ h=>h) hst (zv rfl (zbt (gq 3 rfl) (gq 2 rfl)) o0) zk zk zk (fun a w hst=>?_)
  have hst:St B w0 44 [(0,_),(1,_),(31,_),(32,_),(33,_)] [⟨1,22,ptrH,_⟩] a w:=hst
  refine za0 ?_
  refine wpIn_seq ?_
  refine zeo hst (zm 4 rfl) (fun hb3=>?_) (fun hb3=>?_)
  ·have hk:k<2^manyF xs:=by have:=of_decide_eq_true hb3; omega
   refine wpIn_skip ?_
   refine za0 ?_
   refine wpIn_seq ?_
   refine wpIn_block ?_
   refine wpIn_seq ?_
   refine zc4 (sts:=[none]) (news:=[]) (sp:=[.val 34 _,.val 8 _]) [.g 0,.g 1,.g 2,.g 3,.o 1] zk (zcd fun _ _ h=>h) hst (zv rfl (za2 (gq 3 rfl)) (zv rfl (za1 (vq 0 rfl)) o0)) zk zk zk (fun a w hst=>?_)
   have hst:St B w0 44 [(0,_),(1,_),(31,_),(32,_),(8,_)] [⟨1,22,ptrH,_⟩] a w:=hst
   refine za0 ?_
   refine wpIn_seq ?_
   refine go_yield2 (sp:=[.val 35 _,.val 36 _,.val 37 _,.val 38 _,.val 39 _,.val 40 _,.val 41 VT,.val 42 VT]) 6 [0,1,2,3] [(1,0)] (fun b => !b) hst (zv rfl (za2 (gq 0 rfl)) (zv rfl (za2 (gq 4 rfl)) (zv rfl (zaq (lz0 0 rfl) ty_22) (zv rfl (za2 (gq 4 rfl)) (zv rfl (zau .u64 zk zk (vq 3 rfl) (wu64 zo)) (zv rfl (za5 (xs:=[.tmp 37,.tmp 39]) ((corner_c xs h4 hx (c:=k) zo).wk (.cons slx (.cons zb6 .nil))) (.cons (vq 2 rfl) (.cons (vq 4 rfl) .nil))) o0)))))) rfl zk zk rfl rfl not_op nq zd (vq 0 rfl) (.cons (vq 1 rfl) (.cons (vq 5 rfl) .nil)) hoff hIt hG hk ⟨rfl,⟨_,rfl⟩,trivial⟩ hgl zk zk zk zk (zcd fun _ _ h=>h) nq (fun w0 a w hG hst hw0=>?_) (fun w0 a w hw0 hJx hst=>?_)
   ·have hst:St B w0 44 [(42,Bo false),(0,_),(1,_),(31,_),(32,_)] [⟨1,22,ptrH,_⟩] a w:=hst
    refine za0 ?_
    refine zeo hst (zm 0 rfl) (fun hb4=>?_) (fun hb4=>?_)
    ·cases hb4
    ·refine wpIn_skip ?_
     refine zaj ?_
     refine za0 ?_
     refine zc4 (sts:=[none]) (news:=[]) (sp:=[.val 43 _,.val 32 _]) [.g 1,.g 2,.g 3,.o 1] zk (zcd fun _ _ h=>h) hst (zv rfl (zb7 (gq 4 rfl) za3 ((wi64 zo zo).trans (by omega:(_:Int)=((k+1:Nat):Int)))) (zv rfl (za2 (vq 0 rfl)) o0)) zk zk zk (fun a w hst=>?_)
     have hst:St B w0 44 [(0,_),(1,_),(31,_),(32,_)] [⟨1,22,ptrH,_⟩] a w:=hst
     refine za0 ?_
     have hst:=St.sel hst [0,1,2,3]
     exact ⟨n-1,by omega,k+1,w0,⟨by omega,hG⟩,hst⟩
   ·have hst:St B w0 44 [(42,Bo true)] [] a w:=hst
    refine za0 ?_
    refine zeo hst (zm 0 rfl) (fun hb5=>?_) (fun hb5=>?_)
    ·refine wpIn_ret ?_
     refine zb3 ?_
     refine zad ?_
     refine zad ?_
     refine zb3 ?_
     exact it_stop rfl hst hw0 hIt hJx
    ·cases hb5
  ·obtain rfl:k=2^manyF xs:=by have:=of_decide_eq_false hb3; omega
   refine wpIn_exit ?_
   refine zac ?_
   refine zac ?_
   refine zay ?_
   refine zgx ?_
   exact it_done (gs:=gs) (ix:=[(1,0)]) rfl hst (Tc:=[22]) ⟨rfl,⟨_,rfl⟩,trivial⟩ hgl hIt hG
theorem corners_c {v:Value}(hv:v.oneCell'=true):Cn Tryz.prog 48 [EqV v] (NewIt 84 22 v):=by
 refine Cn.intro Tryz.func48 rfl zk nq (fun B w0 a hst=>?_)
 have hst:St B w0 4 [(0,EqV v)] [] a w0.w:=hst
 refine wp_seq ?_
 refine gl (sts:=[]) (news:=[⟨1,22,ptrH,some 0,_,none⟩]) (sp:=[.alc 0,.val 2 _]) [.o 1] hst (oc (zan rfl rfl rfl (has_eqA hv (gq 0 rfl))) (zv rfl (za1 zbe) o0)) (fun a w hst=>?_)
 have hst:St B w0 4 [(2,_)] [⟨1,22,ptrH,_⟩] a w:=hst
 refine zt<|gl (sts:=[none]) (news:=[]) (sp:=[.val 3 _,.val 2 _]) [.o 1] hst (zv rfl (r_mkIt (lz0 0 rfl)) (zv rfl (za1 (vq 0 rfl)) o0)) (fun a w hst=>?_)
 have hst:St B w0 4 [(2,_)] [⟨1,22,ptrH,_⟩] a w:=hst
 refine za0 ?_
 refine wp_ret ?_
 refine zai ?_ (zaa rfl hst (zm 0 rfl))
 exact zb6
end Go.Proofs.YtlpppkkggljdcaaGreat
