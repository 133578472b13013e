import Derived.Test.YtlakjmncfooodaaGreatSsAr
set_option linter.all false
set_option maxRecDepth 100000
namespace Go.Proofs.YtlakjmncfooodaaGreat
open Go Go.RowKit
variable {w:World}{B:Nat}{a:Act}{v:Value}{T:TypeId}{w0:Bs}{Γ:List (Nat × VA)}{Λ:List Lc}{ps:String}{af:Array Edge}{vr:Value}{H:Hd}{cs:List Value}{w':World}{P:Program}{D:List TypeId}
def prvB (lo hi:Nat)(Tp:List TypeId)(gs:List Nat)(W:World):Bs:=⟨W,λ k=>k∈gs∨(lo≤k∧k<hi∧∃ c T fz,W.heap[k]?=some (.cells c T fz)∧T∈Tp),true⟩
abbrev StpV (lo hi:Nat)(Tp:List TypeId)(gs:List Nat)(W W':World):Prop:=Kept (prvB lo hi Tp gs W) W'
def StV (lo hi:Nat)(Tp Tc:List TypeId)(A:VA):Prop:=∀ (B:Nat) (v:Value) (gs:List Nat) (W W':World),B≤lo→A.p B v W→StpV lo hi Tp gs W W'→CellsT Tc gs W→(∀ g∈gs,B≤g)→A.p B v W'
def StVA (lo hi:Nat)(Tp Tc:List TypeId)(A:As):Prop:=∀ (B:Nat) (cs:List Value) (gs:List Nat) (W W':World),B≤lo→A.p B cs W→StpV lo hi Tp gs W W'→CellsT Tc gs W→(∀ g∈gs,B≤g)→A.p B cs W'
theorem stV_off {lo hi:Nat}{Tp Tc:List TypeId}{A:VA}(h:offD (Tc++Tp) A.deps=true):StV lo hi Tp Tc A:=λ B v gs W W' hlo hp hs hc hb=>by
 have hD:=dm h
 refine VA.many (gs++(List.range W.heap.size).filter λ k=>match (W.heap[k]?:Option Obj) with | some (Obj.cells _ T _)=>Tp.contains T&&decide (lo≤k) | _=>false) hp hs.os hs.tape hs.output hs.size (λ k c T fz hk hn=>?_) (λ g hg=>?_)
 ·refine hs.block k (Array.getElem?_eq_some_iff.1 hk).1 λ hF=>hn ?_
  rcases hF with hF | ⟨h1,h2,c',T',fz',h3,h4⟩
  ·exact qm.2 (.inl hF)
  ·have h3':W.heap[k]?=_:=h3
   refine qm.2 (.inr (zb.2 ⟨by simpa using (Array.getElem?_eq_some_iff.1 hk).1,?_⟩))
   rw [h3']
   simp only [qh,qA,qr]
   exact ⟨h4,h1⟩
 ·rcases qm.1 hg with hg | hg
  ·obtain ⟨c,T,fz,h1,h2⟩:=hc g hg
   exact ⟨hb g hg,c,T,fz,h1,hD T (qm.2 (.inl h2))⟩
  ·obtain ⟨_,h2⟩:=zb.1 hg
   split at h2
   ·rename_i c T fz h3
    simp only [qh,qA,qr] at h2
    exact ⟨qg hlo h2.2,c,T,fz,h3,hD T (qm.2 (.inr h2.1))⟩
   ·cases h2
theorem cK {lo hi:Nat}{Tp Tc:List TypeId}{A:As}(h:offD (Tc++Tp) A.deps=true):StVA lo hi Tp Tc A:=λ B cs gs W W' hlo hp hs hc hb=>stV_off (A:=As.vaC A cs) h B undef gs W W' hlo hp hs hc hb
theorem stpV_I {lo:Nat}{Tp:List TypeId}{gs:List Nat}{W W':World}(h:StpI gs W W'):StpV lo lo Tp gs W W':=⟨h.os,h.tape,h.output,h.size,λ k hk hf=>h.block k hk λ hF=>hf (.inl hF)⟩
def StG (lo0:Nat)(Tp Tc:List TypeId)(gb:List Nat)(A:VA):Prop:=∀ (B:Nat) (v:Value) (lo hi:Nat) (W W':World),B≤lo→lo0≤lo→A.p B v W→StpV lo hi Tp gb W W'→CellsT Tc gb W→(∀ g∈gb,B≤g)→A.p B v W'
def StGL (lo0:Nat)(Tp Tc:List TypeId)(gb:List Nat):List (Nat × VA)→Prop
 | []=>True
 | x::l=>StG lo0 Tp Tc gb x.2∧StGL lo0 Tp Tc gb l
theorem StGL.all {lo0:Nat}{Tp Tc:List TypeId}{gb:List Nat}:∀ {l:List (Nat × VA)},StGL lo0 Tp Tc gb l→∀ x∈l,StG lo0 Tp Tc gb x.2
 | _::_,h,x,hx=>by
  rcases qn.1 hx with rfl | hx
  ·exact h.1
  ·exact StGL.all h.2 x hx
theorem StpV.noncell {lo hi:Nat}{Tp Tc:List TypeId}{gs:List Nat}{W W':World}(h:StpV lo hi Tp gs W W')(hc:CellsT Tc gs W){k:Nat}{o:Obj}(hk:W.heap[k]?=some o)(ho:o.isCells=false):W'.heap[k]?=some o :=
 (h.block k (Array.getElem?_eq_some_iff.1 hk).1 (λ hF=>by
  rcases hF with hF | ⟨_,_,c,T,fz,h1,_⟩
  ·obtain ⟨c,T,fz,h1,_⟩:=hc k hF
   rw [h1] at hk
   injection hk with hk
   subst hk
   cases ho
  ·have h1':W.heap[k]?=_:=h1
   rw [h1'] at hk
   injection hk with hk
   subst hk
   cases ho)).trans hk
theorem St.stpV {B N:Nat}{W W':World}{gs:List Nat}{Tp Tc:List TypeId}{lo hi:Nat}(h:St B w0 N Γ Λ a W)(hB:B=w0.w.heap.size)(hlo:B≤lo)(hs:StpV lo hi Tp gs W W')(hc:CellsT Tc gs W)(hb:∀ g∈gs,B≤g)(hΓ:∀ x∈Γ,x.2.p B (a.eval (.tmp x.1)) W→x.2.p B (a.eval (.tmp x.1)) W')(hΛ:∀ l∈Λ,∀ cs,l.A.p B cs W→l.A.p B cs W')
  (hdis:∀ l∈Λ,∀ g,blk (a.eval (.tmp l.s))=some g→g ∉ gs) (hlt:∀ l∈Λ,∀ g,blk (a.eval (.tmp l.s))=some g→g<lo):St B w0 N Γ Λ a W':=by
 refine ⟨h.lo,h.defers.keep rfl λ Dm hD=>hs.noncell hc hD rfl,h.size,⟨hs.os.trans h.base.os,hs.tape.trans h.base.tape,hs.output.trans h.base.output,qg h.base.size hs.size,λ k hk hf=>(hs.block k (qM hk h.base.size) (λ hF=>by
   rcases hF with hF | ⟨h1,_⟩
   ·have:=hb k hF; omega
   ·omega)).trans (h.base.block k hk hf)⟩,
  λ x hx=>hΓ x hx (h.vals x hx),λ l hl=>?_,h.dis⟩
 obtain ⟨g,cs,e1,e2,e3,e4⟩:=h.locs l hl
 exact ⟨g,cs,e1,e2,(hs.block g (Array.getElem?_eq_some_iff.1 e3).1 (λ hF=>by
  have hbk:blk (a.eval (.tmp l.s))=some g:=by rw [e1]; exact l.H.ok g
  rcases hF with hF | ⟨h1,_⟩
  ·exact hdis l hl g hbk hF
  ·have:=hlt l hl g hbk; omega)).trans e3,hΛ l hl _ e4⟩
structure ItHp (P:Program) (l B:Nat) (Db Tc Tp:List TypeId) (gs:List Nat) (Y:Nat→List VA) (inf:Bool) (M lo:Nat) (J0:World→Prop) (J:Nat→Nat→World→Prop) (Jx:World→Prop):Prop where
 inf':inf=true→∀ hi W,¬ J hi M W
 st0:∀ W W',J0 W→StpI gs W W'→CellsT Tc gs W'→J0 W'
 go:∀ hi W,hi≤W.heap.size→J0 W→J hi 0 W
 st:∀ hi k W W',k<M→J hi k W→StpV lo hi Tp gs W W'→CellsT Tc gs W'→J hi k W'
 stM:∀ hi W W',J hi M W→StpI gs W W'→CellsT Tc gs W'→J hi M W'
 stx:∀ W W',Jx W→StpI gs W W'→CellsT Tc gs W'→Jx W'
 ct0:∀ W,J0 W→CellsT Tc gs W
 ct:∀ hi k W,J hi k W→CellsT Tc gs W
 ctx:∀ W,Jx W→CellsT Tc gs W
 yd:∀ hi k W args,k<M→J hi k W→All2 (λ (A:VA) v=>A.p B v W) (Y k) args→YieldAt Fence.wide 0 P l args.toArray W λ e W'=>(e=.returned (.bool true)∧J hi (k+1) W'∧Stp B Db (gs++List.range' lo (hi-lo)) W W') ∨
  (e=.returned (.bool false)∧Jx W'∧W.heap.size≤W'.heap.size∧∀ D:Nat,W.heap[D]?=some (.deferred (some []))→W'.heap[D]?=some (.deferred (some [])))
def ItPg (P:Program)(f:FuncId)(caps:List (TypeId × As))(gs:List Nat)(Y:Nat→List VA)(inf:Bool)(M:Nat)(Dd Tp:List TypeId):Prop :=
 (∃ fn, P.funcs[f]? = some fn ∧ (fn.name == "runtime.NumGoroutine") = false ∧ fn.body.isNone = false) ∧
 ∀ (l B:Nat) (w:World) (Db:List TypeId) (J0:World→Prop) (J:Nat→Nat→World→Prop) (Jx:World→Prop),B≤w.heap.size→gs.Nodup→CapsOk B w caps gs→offD Db Dd=true→ItHp P l B Db (caps.map zf) Tp gs Y inf M w.heap.size J0 J Jx→J0 w →
  Calls P f (.func (.yield l) #[] #[]::gs.map ptr).toArray w λ e W'=>∃ v,e=.returned v∧((∃ hi,J hi M W')∨Jx W')
section
variable {P:Program} {Q:Exit→Act→World→Prop} {B N:Nat} {w0:Bs} {Γ:List (Nat × VA)} {a:Act} {w:World}
theorem iJ {gs k0:Nat}{ps:List Nat}{assign body:Code}(Λ0:List Lc)(Λ:Nat→Nat→List Lc)(Λr:Option (List Lc))(Λx:Nat→Option (List Lc)){f:FuncId}{caps:List (TypeId × As)}{gb:List Nat}{Y:Nat→List VA}{inf:Bool}{M:Nat}{Dd Db Tp:List TypeId}
  (h:St B w0 N Γ Λ0 a w) (hB:B=w0.w.heap.size) (hN0:w0.nd=false) (hk0:Γ[k0]?=some (gs,ItV f caps gb)) (hit:ItPg P f caps gb Y inf M Dd Tp) (hM:inf=true→0<M) (hDd:offD Db Dd=true)
  (ks:List Nat) (hΓ:ks.all (λ k=>match Γ[k]? with | some x=>offD Db x.2.deps && !ps.contains x.1 | none=>false)=true) (hΓs:StGL w.heap.size Tp (caps.map zf) gb (ks.filterMap λ k=>Γ[k]?))
  (hΛ:∀ hi k,(Λ hi k).all (λ l => !ps.contains l.s&&Db.contains l.T)=true) (hΛs:∀ lo hi k,k<M→B≤lo→w.heap.size≤lo→∀ l∈Λ hi k,StVA lo hi Tp (caps.map zf) l.A) (hΛM:∀ hi,(Λ hi M).all (λ l=>offD (caps.map zf) l.A.deps)=true) (hΛ0:Λ0.all (λ l=>offD (caps.map zf) l.A.deps)=true) (sl:List Nat) (hsl:∀ hi k,(Λ hi k).all (λ l=>sl.contains l.s)=true) (hsl0:Λ0.all (λ l=>sl.contains l.s)=true) (hsl1:sl.all (λ s=>Λ0.any λ l=>l.s==s)=true) (hdis:∀ s∈sl,∀ g,blk (a.eval (.tmp s))=some g→g ∉ gb)
  (hΛr:∀ L,Λr=some L→L.all (λ l=>offD (caps.map zf) l.A.deps&&sl.contains l.s)=true) (hΛx:∀ id L,Λx id=some L→L.all (λ l=>offD (caps.map zf) l.A.deps&&sl.contains l.s)=true)
  (hps:∀ k,(Y k).length=ps.length) (hnd:ps.Nodup) (hpN:ps.all (λ p=>p<N)=true)
  (hgo:∀ hi Γ a W,hi≤W.heap.size→St B w0 N Γ Λ0 a W→St B w0 N Γ (Λ hi 0) a W) (hM0:0<M)
  (hround:∀ l lo hi k a1 Ws,k<M→B≤lo→w.heap.size≤lo→hi≤Ws.heap.size→B≤Ws.heap.size→CellsT (caps.map zf) gb Ws→St B (rndB B Db (gb++List.range' lo (hi-lo)) Ws Ws) N (ks.filterMap (λ k=>Γ[k]?)++(ps.zip (Y k)++(Λ hi k).map λ l=>(l.s,EqV (a.eval (.tmp l.s))))) (Λ hi k) a1 Ws →
   assign.wpIn (fw (some l)) 0 P (Exit.then (λ a2 W2=>Kept (rndB B Db (gb++List.range' lo (hi-lo)) Ws Ws) W2∧∀ W3,Bg l W2 W3→body.wpIn (fw (some l)) 0 P (rPost B N (rndB B Db (gb++List.range' lo (hi-lo)) Ws W3) a (inf=true→k+1<M) (Λ hi (k+1)) Λr Λx) a2 W3) (λ _ _ _=>False)) a1 Ws)
  (hdone:∀ hi a' W,St B w0 N (ks.filterMap (λ k=>Γ[k]?)) (Λ hi M) a' W→Q .normal a' W) (hret:∀ L,Λr=some L→∀ a' W,St B w0 N (ks.filterMap (λ k=>Γ[k]?)) L a' W→Q .ret a' W) (hexit:∀ id L,Λx id=some L→∀ a' W,St B w0 N (ks.filterMap (λ k=>Γ[k]?)) L a' W→Q (.exit id) a' W) :
  (Code.rangeFunc (.tmp gs) ps.toArray assign body).wp P Q a w:=by
 refine (wpIn_wide (n:=0)).1 (wpIn_rangeFunc ?_)
 intro fn hfn
 obtain ⟨⟨ff,hf,hn,hb⟩,hcall⟩:=hit
 obtain ⟨hev,hgn,hcaps⟩:=h.vals _ (qb hk0)
 have hev':a.eval (.tmp gs)=.func (.func f) #[] (gb.map ptr).toArray:=hev
 obtain ⟨hct,hcb⟩:=cX hcaps
 replace h:=h.sel ks
 obtain ⟨Γ,hΓe⟩:∃ Γ',ks.filterMap (λ k=>Γ[k]?)=Γ':=⟨_,rfl⟩
 rw [hΓe] at h hΓs hround hdone hret hexit
 replace hΓ:∀ x∈Γ,(offD Db x.2.deps && !ps.contains x.1)=true:=λ x hx=>by
  rw [← hΓe] at hx
  obtain ⟨k,hk1,hk2⟩:=q9.1 hx
  have:=qd.1 hΓ k hk1
  rwa [hk2] at this
 clear hΓe
 obtain ⟨rec,hrec⟩:∃ rec:LoopState→Option Code→Loop,rec=λ st pe=>{ state:=st,pending:=pe,fn,tmps:=a.tmps,params:=ps.toArray,assign,body,defers:=w.heap.size }:=⟨_,rfl⟩
 obtain ⟨W1,hW1⟩:∃ W1,(w.alloc (.deferred (some []))).alloc (.loop (rec .ready none))=W1:=⟨_,rfl⟩
 have hgr:Grow w W1:=by rw [← hW1]; exact (Grow.alloc _ _).trans (Grow.alloc _ _)
 have hL1:W1.heap[w.heap.size+1]?=some (.loop (rec .ready none)):=by
  rw [← hW1]; have:=World.alloc_heap_new (w.alloc (.deferred (some []))) (.loop (rec .ready none)); rwa [World.size_alloc] at this
 have hK1:W1.heap[w.heap.size]?=some (.deferred (some [])):=by
  rw [← hW1]; exact (Below.heap_alloc _ _ _ (by simp)).trans (World.alloc_heap_new w _)
 have hws:w0.w.heap.size≤w.heap.size:=h.base.size
 have h1:St B w0 N Γ Λ0 a W1:=⟨h.lo,h.defers.grow hgr rfl,h.size,h.base.grow hgr,λ x hx=>x.2.grow _ _ _ _ hgr (h.vals x hx),λ l hl=>(h.locs l hl).grow hgr,h.dis⟩
 have hΓ':∀ x∈Γ,True∧offD Db x.2.deps=true∧x.1 ∉ ps:=λ x hx=>by
  have:=hΓ x hx
  simp only [qh,qv,qA,qw] at this
  exact ⟨trivial,this.1,this.2⟩
 have hΓg:=StGL.all hΓs
 have hΛ':∀ hi k,∀ l∈Λ hi k,True∧l.s ∉ ps∧l.T∈Db:=λ hi k l hl=>by
  have:=qd.1 (hΛ hi k) l hl
  simp only [qh,qv,qA,qw,qr] at this
  exact ⟨trivial,this.1,this.2⟩
 have hlo:B≤W1.heap.size:=by have:=hgr.size; omega
 have hlt:∀ s∈sl,∀ g,blk (a.eval (.tmp s))=some g→g<W1.heap.size:=λ s hs g hg=>by
  obtain ⟨l,hl,e⟩:=xu.1 (qd.1 hsl1 s hs)
  obtain ⟨g',cs,e1,e2,e3,_⟩:=h1.locs l hl
  have e':l.s=s:=by simpa using e
  rw [← e',e1,l.H.ok] at hg
  injection hg with hg
  subst hg
  exact (Array.getElem?_eq_some_iff.1 e3).1
 have stp:∀ {L:List Lc} {W W':World},L.all (λ l=>offD (caps.map zf) l.A.deps&&sl.contains l.s)=true→St B w0 N Γ L a W→CellsT (caps.map zf) gb W→StpI gb W W'→St B w0 N Γ L a W':=λ {L W W'} hL hs hc hk=>by
  have hL':∀ l∈L,offD (caps.map zf) l.A.deps=true∧l.s∈sl:=λ l hl=>by
   have:=qd.1 hL l hl
   simpa using this
  exact St.stpV (lo:=W1.heap.size) (hi:=W1.heap.size) (Tp:=Tp) hs hB hlo (stpV_I hk) hc hcb (λ x hx hp=>hΓg x hx _ _ _ _ _ _ hlo hgr.size hp (stpV_I hk) hc hcb) (λ l hl cs hp=>As.stpI hp hk hc hcb (dm (hL' l hl).1)) (λ l hl g hg=>hdis l.s (hL' l hl).2 g hg) λ l hl g hg=>hlt l.s (hL' l hl).2 g hg
 have and2:∀ {L:List Lc},L.all (λ l=>offD (caps.map zf) l.A.deps)=true→L.all (λ l=>sl.contains l.s)=true→L.all (λ l=>offD (caps.map zf) l.A.deps&&sl.contains l.s)=true:=λ {L} h1 h2=>qd.2 λ l hl=>by
  rw [qd.1 h1 l hl,qd.1 h2 l hl]
  rfl
 have stpv:∀ {hi k:Nat} {W W':World},k<M→St B w0 N Γ (Λ hi k) a W→CellsT (caps.map zf) gb W→StpV W1.heap.size hi Tp gb W W'→St B w0 N Γ (Λ hi k) a W':=λ {hi k W W'} hk hs hc hv =>
  St.stpV hs hB hlo hv hc hcb (λ x hx hp=>hΓg x hx _ _ _ _ _ _ hlo hgr.size hp hv hc hcb) (λ l hl cs hp=>hΛs _ hi k hk hlo hgr.size l hl _ _ _ _ _ hlo hp hv hc hcb) (λ l hl g hg=>hdis l.s (by have:=qd.1 (hsl hi k) l hl; simpa using this) g hg) λ l hl g hg=>hlt l.s (by have:=qd.1 (hsl hi k) l hl; simpa using this) g hg
 have back:∀ {L:List Lc} {Ws W3 W:World} {a':Act} (hi k:Nat) (r:Loop) (st:LoopState) (pe:Option Code),St B w0 N Γ (Λ hi k) a Ws→Ws.heap[w.heap.size+1]?=some (.loop (rec .ready none))→Ws.heap[w.heap.size]?=some (.deferred (some [])) →
   (∀ j,j<Ws.heap.size→j≠w.heap.size+1→¬ (rndB B Db (gb++List.range' W1.heap.size (hi-W1.heap.size)) Ws W3).F j→W3.heap[j]?=Ws.heap[j]?)→Ws.heap.size≤W3.heap.size→W3.os=Ws.os∧W3.tape=Ws.tape∧W3.output=Ws.output→W3.heap[w.heap.size+1]?=some (.loop r)→REnd B N (rndB B Db (gb++List.range' W1.heap.size (hi-W1.heap.size)) Ws W3) a L a' W →
   W.heap[w.heap.size+1]?=some (.loop r)∧St B w0 N Γ L a (W.putObj (w.heap.size+1) (.loop (rec st pe)))∧(W.putObj (w.heap.size+1) (.loop (rec st pe))).heap[w.heap.size+1]?=some (.loop (rec st pe)) ∧
    (W.putObj (w.heap.size+1) (.loop (rec st pe))).heap[w.heap.size]?=some (.deferred (some []))∧(st=.ready→pe=none→Stp B Db (gb++List.range' W1.heap.size (hi-W1.heap.size)) Ws (W.putObj (w.heap.size+1) (.loop (rec st pe))))∧(∀ g∈gb,g<Ws.heap.size→g≠w.heap.size+1→(W.putObj (w.heap.size+1) (.loop (rec st pe))).heap[g]?=Ws.heap[g]?)∧Ws.heap.size≤(W.putObj (w.heap.size+1) (.loop (rec st pe))).heap.size∧∀ D:Nat,Ws.heap[D]?=some (.deferred (some []))→(W.putObj (w.heap.size+1) (.loop (rec st pe))).heap[D]?=some (.deferred (some [])):=by
  rintro L Ws W3 W a' hi k r st pe hs hl hd hc0 hsz ho hl3 ⟨Γ3,h3,heq⟩
  have hnF:∀ {j:Nat} {o:Obj},Ws.heap[j]?=some o→o.isCells=false→¬ (rndB B Db (gb++List.range' W1.heap.size (hi-W1.heap.size)) Ws W3).F j:=λ {j o} hj ho hF=>by
   rcases hF.2 with h4 | ⟨_,c,T,fz,h4,_⟩
   ·have:=(Array.getElem?_eq_some_iff.1 hj).1; omega
   ·rw [hj] at h4; injection h4 with h4; subst h4; cases ho
  have hlt1:=(Array.getElem?_eq_some_iff.1 hl).1
  have hWl:W.heap[w.heap.size+1]?=some (.loop r):=(h3.base.block _ (by show _<W3.heap.size; omega) (hnF hl rfl)).trans hl3
  have hlt2:=(Array.getElem?_eq_some_iff.1 hWl).1
  have hnew:=World.putObj_heap_same (w:=W) (o:=.loop (rec st pe)) hlt2
  have hblk:∀ j,j<Ws.heap.size→j≠w.heap.size+1→¬ (rndB B Db (gb++List.range' W1.heap.size (hi-W1.heap.size)) Ws W3).F j→(W.putObj (w.heap.size+1) (.loop (rec st pe))).heap[j]?=Ws.heap[j]?:=λ j hj hne hF =>
   (World.putObj_heap_other hne).trans ((h3.base.block j (by show _<W3.heap.size; omega) hF).trans (hc0 j hj hne hF))
  have hD':(W.putObj (w.heap.size+1) (.loop (rec st pe))).heap[w.heap.size]?=some (.deferred (some [])):=(hblk _ (Array.getElem?_eq_some_iff.1 hd).1 zo (hnF hd rfl)).trans hd
  have hsz3:W3.heap.size≤W.heap.size:=h3.base.size
  have hcg:=loop_cg hWl (.loop (rec st pe))
  have hDk:∀ D:Nat,Ws.heap[D]?=some (.deferred (some []))→(W.putObj (w.heap.size+1) (.loop (rec st pe))).heap[D]?=some (.deferred (some [])):=λ D hDd=>by
   have hne:D≠w.heap.size+1:=λ e=>by rw [e,hl] at hDd; cases hDd
   exact (hblk D (Array.getElem?_eq_some_iff.1 hDd).1 hne (hnF hDd G)).trans hDd
  refine ⟨hWl,⟨h.lo,hs.defers.keep rfl λ D hDd=>?_,hs.size,?_,λ x hx=>?_,λ m hm=>?_,λ m hm m' hm' hne=>?_⟩,hnew,hD',λ e1 e2=>?_,λ g hg hlt hne=>hblk g hlt hne (λ hF=>by rcases hF.2 with h4 | h4; omega; exact h4.1 (qm.2 (.inl hg))),by rw [World.putObj_size]; omega,hDk⟩
  ·exact hDk D hDd
  ·refine ⟨(h3.base.os.trans ho.1).trans hs.base.os,(h3.base.tape.trans ho.2.1).trans hs.base.tape,(h3.base.output.trans ho.2.2).trans hs.base.output,?_,λ j hj hf=>?_⟩
   ·have:=hs.base.size
    rw [World.putObj_size]
    omega
   ·have hjs:j<Ws.heap.size:=qM hj hs.base.size
    exact (hblk j hjs zo (λ hF=>by have:=hF.1; omega)).trans (hs.base.block j hj hf)
  ·
   have hb:=(hΓ' x hx).2.1
   refine VA.many ((List.range Ws.heap.size).filter λ j=>match Ws.heap[j]? with | some (.cells _ T _)=>Db.contains T&&decide (B≤j) | _=>false) (hs.vals x hx) (h3.base.os.trans ho.1) (h3.base.tape.trans ho.2.1) (h3.base.output.trans ho.2.2) (by rw [World.putObj_size]; omega) (λ j c T fz hj hn=>?_) (λ g hg=>?_)
   ·refine hblk j (Array.getElem?_eq_some_iff.1 hj).1 (λ e=>by rw [e,hl] at hj; cases hj) λ hF=>hn (zb.2 ⟨by simpa using (Array.getElem?_eq_some_iff.1 hj).1,?_⟩)
    rcases hF.2 with h4 | ⟨_,c',T',fz',hc,hD''⟩
    ·have:=(Array.getElem?_eq_some_iff.1 hj).1; omega
    ·rw [hj] at hc
     injection hc with hc
     injection hc with _ hc _
     subst hc
     rw [hj]
     simp only [qh,qA,qr]
     exact ⟨hD'',hF.1⟩
   ·obtain ⟨_,h2⟩:=zb.1 hg
    split at h2
    ·rename_i c T fz hc
     simp only [qh,qA,qr] at h2
     exact ⟨h2.2,c,T,fz,hc,dm hb T h2.1⟩
    ·cases h2
  ·obtain ⟨g,cs,e1,e2,e3,e4⟩:=h3.locs m hm
   refine ⟨g,cs,(heq m hm).symm.trans e1,.inl ?_,hcg.heap e3,m.A.cg _ _ _ _ hcg e4⟩
   have:=h3.lo g e2
   omega
  ·rw [← heq m hm,← heq m' hm']
   exact h3.dis m hm m' hm' hne
  ·subst e1 e2
   refine ⟨h3.base.os.trans ho.1,h3.base.tape.trans ho.2.1,h3.base.output.trans ho.2.2,by rw [World.putObj_size]; show Ws.heap.size≤_; omega,λ j hj hF=>?_⟩
   have hj':j<Ws.heap.size:=hj
   by_cases e:j=w.heap.size+1
   ·subst e
    show _=Ws.heap[w.heap.size+1]?
    rw [hnew,hl]
   ·exact hblk j hj' e hF
 refine ⟨w.heap.size+1,[mark w.heap.size],W1,{ target:=.fn (.func f) (gb.map ptr).toArray,args := #[.func (.yield (w.heap.size+1)) #[] #[]] },W1,f,
  #[.func (.yield (w.heap.size+1)) #[] #[]]++(gb.map ptr).toArray,W1,?_,?_,λ _ _=>trivial,?_,(λ hh=>by cases hh),?_⟩
 ·rw [← hW1,hrec]; exact run_enterLoop_outer _ _ _ _ _
 ·simp only [resolve,hev']
  simp [go_sem]
 ·simp [invoke,aZ hf hn hb]
 ·refine callsIn_wide.2 ?_
  have hargs:(#[.func (.yield (w.heap.size+1)) #[] #[]]++(gb.map ptr).toArray:Array Value)=(.func (.yield (w.heap.size+1)) #[] #[]::gb.map ptr).toArray:=by simp
  rw [hargs]
  have hcaps1:CapsOk B W1 caps gb:=hcaps.mono λ c g ⟨h3,cs,h4,h5⟩=>⟨h3,cs,hgr.heap h4,c.2.grow _ _ _ _ hgr h5⟩
  have hgl:∀ g∈gb,g≠w.heap.size+1:=λ g hg=>by
   obtain ⟨c,T,fz,h1,_⟩:=hct g hg
   have:=(Array.getElem?_eq_some_iff.1 h1).1
   omega
  refine (hcall (w.heap.size+1) B W1 Db
   (λ W=>(St B w0 N Γ Λ0 a W∧W.heap[w.heap.size+1]?=some (.loop (rec .ready none))∧W.heap[w.heap.size]?=some (.deferred (some [])))∧CellsT (caps.map zf) gb W)
   (λ hi k W=>((St B w0 N Γ (Λ hi k) a W∧W.heap[w.heap.size+1]?=some (.loop (rec .ready none))∧W.heap[w.heap.size]?=some (.deferred (some [])))∧(inf=true→k<M)∧hi≤W.heap.size)∧CellsT (caps.map zf) gb W)
   (λ W=>(∃ c,((c=.ret∧∃ L,Λr=some L∧St B w0 N Γ L a W)∨(∃ id L,c=.exit id∧Λx id=some L∧St B w0 N Γ L a W))∧W.heap[w.heap.size+1]?=some (.loop (rec .done (some c)))∧W.heap[w.heap.size]?=some (.deferred (some [])))∧CellsT (caps.map zf) gb W)
   (by have:=hgr.size; omega) hgn hcaps1 hDd ⟨λ hi2 hi W hJ=>absurd (hJ.1.2.1 hi2) (Nat.lt_irrefl M),?_,?_,?_,?_,?_,λ W hJ=>hJ.2,λ hi k W hJ=>hJ.2,λ W hJ=>hJ.2,?_⟩ ⟨⟨h1,hL1,hK1⟩,(cX hcaps1).1⟩).mono ?_
  ·rintro W W' ⟨⟨hs,hl,hd⟩,hcc⟩ hk hcc'
   exact ⟨⟨stp (and2 hΛ0 hsl0) hs hcc hk,hk.noncell hcc hl rfl,hk.noncell hcc hd rfl⟩,hcc'⟩
  ·rintro hi W hhi ⟨⟨hs,hl,hd⟩,hcc⟩
   exact ⟨⟨⟨hgo hi _ _ _ hhi hs,hl,hd⟩,(λ _=>hM0),hhi⟩,hcc⟩
  ·rintro hi k W W' hkM ⟨⟨⟨hs,hl,hd⟩,hc,hhi⟩,hcc⟩ hk hcc'
   exact ⟨⟨⟨stpv hkM hs hcc hk,hk.noncell hcc hl rfl,hk.noncell hcc hd rfl⟩,hc,qg hhi hk.size⟩,hcc'⟩
  ·rintro hi W W' ⟨⟨⟨hs,hl,hd⟩,hc,hhi⟩,hcc⟩ hk hcc'
   exact ⟨⟨⟨stp (and2 (hΛM hi) (hsl hi M)) hs hcc hk,hk.noncell hcc hl rfl,hk.noncell hcc hd rfl⟩,hc,qg hhi hk.size⟩,hcc'⟩
  ·rintro W W' ⟨⟨c,hc,hl,hd⟩,hcc⟩ hk hcc'
   refine ⟨⟨c,?_,hk.noncell hcc hl rfl,hk.noncell hcc hd rfl⟩,hcc'⟩
   rcases hc with ⟨e,L,hL,hs⟩ | ⟨id,L,e,hL,hs⟩
   ·exact .inl ⟨e,L,hL,stp (hΛr L hL) hs hcc hk⟩
   ·exact .inr ⟨id,L,e,hL,stp (hΛx id L hL) hs hcc hk⟩
  ·rintro hi k W args hkM ⟨⟨⟨hs,hl,hd⟩,hc,hhi⟩,hcc⟩ hargs'
   have hla:args.length=ps.length:=by rw [← hargs'.length,hps k]
   have hy:=run_yield (P:=P) (args:=args.toArray) hl (by rw [hrec]; simpa using hla)
   rw [hrec] at hy
   have hlt':=hlt
   have hlt:w.heap.size+1<W.heap.size:=(Array.getElem?_eq_some_iff.1 hl).1
   have hBW:B≤W.heap.size:=by have:=hs.base.size; omega
   have hzip:(ps.toArray.zip args.toArray).foldl (λ (t:Array Value) (x:Nat × Value)=>t.setIfInBounds x.1 x.2) a.tmps=(ps.zip args).foldl (λ t x=>t.setIfInBounds x.1 x.2) a.tmps:=by
    rw [List.zip_toArray,List.foldl_toArray]
   obtain ⟨z1,z2,z3⟩:=set_all (ps.zip args) a.tmps
   have hfst:(ps.zip args).map zf=ps:=by rw [List.map_fst_zip]; omega
   rw [hfst] at z2 z3
   refine ⟨fn,_,assign,body,hy,roundIn_of_wpIn hfn ?_⟩
   have hst1:St B (rndB B Db (gb++List.range' W1.heap.size (hi-W1.heap.size)) W W) N (Γ++(ps.zip (Y k)++(Λ hi k).map λ l=>(l.s,EqV (a.eval (.tmp l.s))))) (Λ hi k) { tmps:=(ps.zip args).foldl (λ t x=>t.setIfInBounds x.1 x.2) a.tmps,defers:=[] } W:=by
    have hold:∀ s,s ∉ ps→({ tmps:=(ps.zip args).foldl (λ t x=>t.setIfInBounds x.1 x.2) a.tmps,defers:=[] }:Act).eval (.tmp s)=a.eval (.tmp s):=λ s hs'=>by
     rw [ep,ep]
     show ((_:Array Value)[s]?).getD undef=_
     rw [z2 s hs']
    refine ⟨λ g hg=>?_,DefOk.nil rfl,by rw [z1]; exact hs.size,Kept.refl _,λ x hx=>?_,λ m hm=>?_,λ m hm m' hm' hne=>?_⟩
    ·rcases hg with hg | hg
     ·exact qg hBW hg
     ·exact hg.1
    ·rcases qm.1 hx with hx | hx
     ·rw [hold _ (hΓ' x hx).2.2]
      exact hs.vals x hx
     ·rcases qm.1 hx with hx | hx
      ·obtain ⟨i,hi⟩:=List.getElem?_of_mem hx
       obtain ⟨p,A,e1,e2,rfl⟩:∃ p A,ps[i]?=some p∧(Y k)[i]?=some A∧x=(p,A):=by
        rw [List.getElem?_zip_eq_some] at hi
        exact ⟨x.1,x.2,hi.1,hi.2,rfl⟩
       obtain ⟨v,hv1,hv2⟩:=hargs'.get e2
       have hm:(p,v)∈ps.zip args:=qb (i:=i) (by rw [List.getElem?_zip_eq_some]; exact ⟨e1,hv1⟩)
       have hpl:p<a.tmps.size:=by
        rw [hs.size]
        have:=qd.1 hpN p (qb e1)
        simpa using this
       show A.p B _ W
       rw [ep]
       show A.p B (((_:Array Value)[p]?).getD undef) W
       rw [z3 hnd (p,v) hm hpl]
       exact hv2
      ·obtain ⟨m,hm,rfl⟩:=qp.1 hx
       exact hold m.s (hΛ' hi k m hm).2.1
    ·obtain ⟨g,cs,e1,e2,e3,e4⟩:=hs.locs m hm
     exact ⟨g,cs,(hold m.s (hΛ' hi k m hm).2.1).trans e1,.inr ⟨h.lo g e2,.inr ⟨(λ hm2=>by
      rcases qm.1 hm2 with hm2 | hm2
      ·exact hdis m.s (by have:=qd.1 (hsl hi k) m hm; simpa using this) g (by rw [e1]; exact m.H.ok g) hm2
      ·have h8:=hlt' m.s (by have:=qd.1 (hsl hi k) m hm; simpa using this) g (by rw [e1]; exact m.H.ok g)
       have h9:=(jZ.1 hm2).1
       omega),_,_,_,e3,(hΛ' hi k m hm).2.2⟩⟩,e3,e4⟩
    ·rw [hold m.s (hΛ' hi k m hm).2.1,hold m'.s (hΛ' hi k m' hm').2.1]
     exact hs.dis m hm m' hm' hne
   have hasg:=hround (w.heap.size+1) W1.heap.size hi k _ W hkM hlo hgr.size hhi hBW hcc hst1
   rw [← hzip] at hasg
   refine wpIn_mono hasg ?_
   rintro e a2 W2 hq
   cases e with
   | normal =>
    obtain ⟨hk2,hbody⟩:=hq
    have hnF:∀ {j:Nat} {o:Obj},W.heap[j]?=some o→o.isCells=false→¬ (rndB B Db (gb++List.range' W1.heap.size (hi-W1.heap.size)) W W).F j:=λ {j o} hj ho hF=>by
     rcases hF.2 with h4 | ⟨_,c,T,fz,h4,_⟩
     ·have:=(Array.getElem?_eq_some_iff.1 hj).1; omega
     ·rw [hj] at h4; injection h4 with h4; subst h4; cases ho
    have hl2:W2.heap[w.heap.size+1]?=some (.loop (rec .ready none)):=(hk2.block _ hlt (hnF hl rfl)).trans hl
    have hlt2:=(Array.getElem?_eq_some_iff.1 hl2).1
    refine ⟨_,run_beginRound hl2 (by rw [hrec]),?_⟩
    obtain ⟨W3,hW3⟩:∃ W3,W2.putObj (w.heap.size+1) (.loop { rec .ready none with state:=.busy })=W3:=⟨_,rfl⟩
    rw [hW3]
    have hl3:W3.heap[w.heap.size+1]?=some (.loop { rec .ready none with state:=.busy }):=by rw [← hW3]; exact World.putObj_heap_same hlt2
    have hc0:∀ j,j<W.heap.size→j≠w.heap.size+1→¬ (rndB B Db (gb++List.range' W1.heap.size (hi-W1.heap.size)) W W3).F j→W3.heap[j]?=W.heap[j]?:=λ j hj hne hF=>by rw [← hW3]; exact (World.putObj_heap_other hne).trans (hk2.block j hj hF)
    have hsz3:W.heap.size≤W3.heap.size:=by rw [← hW3,World.putObj_size]; exact hk2.size
    have ho3:W3.os=W.os∧W3.tape=W.tape∧W3.output=W.output:=by rw [← hW3]; exact ⟨hk2.os,hk2.tape,hk2.output⟩
    refine wpIn_mono (hbody W3 ⟨_,_,hl2,hW3.symm⟩) ?_
    rintro e a3 W4 hp
    have fin:∀ {L:List Lc} (jump:Option Code),REnd B N (rndB B Db (gb++List.range' W1.heap.size (hi-W1.heap.size)) W W3) a L a3 W4→∃ W5,(Instr.endRound (w.heap.size+1) jump).run P W4=.ok (.bool jump.isNone) W5∧St B w0 N Γ L a W5∧W5.heap[w.heap.size+1]?=some (.loop (rec (if jump.isNone then .ready else .done) jump))∧W5.heap[w.heap.size]?=some (.deferred (some []))∧(jump=none→Stp B Db (gb++List.range' W1.heap.size (hi-W1.heap.size)) W W5)∧CellsT (caps.map zf) gb W5∧W.heap.size≤W5.heap.size∧(∀ D:Nat,W.heap[D]?=some (.deferred (some []))→W5.heap[D]?=some (.deferred (some []))):=λ {L} jump hr=>by
     obtain ⟨b1,b2,b3,b4,b5,b6,b7,b8⟩:=back hi k _ (if jump.isNone then .ready else .done) jump hs hl hd hc0 hsz3 ho3 hl3 hr
     have hrun:=run_endRound (P:=P) jump b1
     refine ⟨_,?_,b2,b3,b4,(λ e=>b5 (by rw [e]; rfl) e),(λ g hg=>?_),b7,b8⟩
     rotate_left
     ·obtain ⟨c,T,fz,h5,h6⟩:=hcc g hg
      exact ⟨c,T,fz,(b6 g hg (Array.getElem?_eq_some_iff.1 h5).1 (hgl g hg)).trans h5,h6⟩
     rw [hrun,hrec]
    cases e with
    | normal =>
     obtain ⟨hci,hr⟩:=hp
     obtain ⟨W5,f1,f2,f3,f4,f5,f6,f7,_⟩:=fin none hr
     exact ⟨_,_,f1,.inl ⟨rfl,⟨⟨⟨f2,f3,f4⟩,hci,qg hhi f7⟩,f6⟩,f5 rfl⟩⟩
    | ret =>
     obtain ⟨L,hL,hr⟩:=hp
     obtain ⟨W5,f1,f2,f3,f4,_,f6,f7,f8⟩:=fin (some .ret) hr
     exact ⟨_,_,f1,.inr ⟨rfl,⟨⟨.ret,.inl ⟨rfl,L,hL,f2⟩,f3,f4⟩,f6⟩,f7,f8⟩⟩
    | exit id =>
     obtain ⟨L,hL,hr⟩:=hp
     obtain ⟨W5,f1,f2,f3,f4,_,f6,f7,f8⟩:=fin (some (.exit id)) hr
     exact ⟨_,_,f1,.inr ⟨rfl,⟨⟨.exit id,.inr ⟨id,L,rfl,hL,f2⟩,f3,f4⟩,f6⟩,f7,f8⟩⟩
    | goto t=>exact hp.elim
    | panic ch=>exact hp.elim
    | outgrown=>exact hp.elim
   | exit id=>exact hq.elim
   | goto t=>exact hq.elim
   | ret=>exact hq.elim
   | panic ch=>exact hq.elim
   | outgrown=>exact hq.elim
  ·have fin:∀ {L:List Lc} {W:World} {st:LoopState} {pe:Option Code},st≠.busy→St B w0 N Γ L a W→W.heap[w.heap.size+1]?=some (.loop (rec st pe))→W.heap[w.heap.size]?=some (.deferred (some []))→∃ W',(Instr.endLoop (w.heap.size+1)).run P W=.ok pe W'∧St B w0 N Γ L { a with defers:=[mark w.heap.size]++a.defers } W':=λ {L W st pe} U hs hl hd=>by
    have hrun:=run_endLoop (P:=P) hl (by rw [hrec]; exact U)
    have hpe:(rec st pe).pending=pe:=by rw [hrec]
    refine ⟨W.putObj (w.heap.size+1) (.loop { rec st pe with state:=.exhausted }),hrun.trans (qt (λ x=>Result.ok x _) hpe),?_⟩
    have h5:=hs.put (o':=.loop { rec st pe with state:=.exhausted }) hl rfl (by simp) zo
    refine ⟨h5.lo,⟨λ d hd'=>?_,?_,λ hn=>by rw [hN0] at hn; cases hn⟩,h5.size,h5.base,h5.vals,h5.locs,h5.dis⟩
    ·rcases qn.1 hd' with rfl | hd'
     ·exact ⟨_,rfl,.inl hws,(World.putObj_heap_other zo).trans hd⟩
     ·exact h5.defers.all d hd'
    ·refine xy.2 ⟨λ hm=>?_,h5.defers.nodup⟩
     obtain ⟨D,e1,_,e3⟩:=h.defers.all _ hm
     have e1':w.heap.size=D:=by
      have:=qt Deferred.target e1
      simpa using this
     rw [← e1'] at e3
     have:=(Array.getElem?_eq_some_iff.1 e3).1
     omega
   rintro e W ⟨v,rfl,(⟨hi,⟨⟨hs,hl,hd⟩,_⟩,_⟩ | ⟨⟨c,hc,hl,hd⟩,_⟩)⟩
   ·obtain ⟨W',f1,f2⟩:=fin (by simp) hs hl hd
    exact ⟨none,W',f1,hdone _ _ _ f2⟩
   ·rcases hc with ⟨rfl,L,hL,hs⟩ | ⟨id,L,rfl,hL,hs⟩
    ·obtain ⟨W',f1,f2⟩:=fin (by simp) hs hl hd
     exact ⟨some .ret,W',f1,wpIn_ret (hret L hL _ _ f2)⟩
    ·obtain ⟨W',f1,f2⟩:=fin (by simp) hs hl hd
     exact ⟨some (.exit id),W',f1,wpIn_exit (hexit id L hL _ _ f2)⟩
end
def kdB (B lo hi:Nat)(Tp Db:List TypeId)(gs:List Nat)(W:World):Bs:=⟨W,λ k=>k∈gs∨(lo≤k∧k<hi∧∃ c T fz,W.heap[k]?=some (.cells c T fz)∧T∈Tp)∨(B≤k∧∃ c T fz,W.heap[k]?=some (.cells c T fz)∧T∈Db),true⟩
abbrev KD (B lo hi:Nat)(Tp Db:List TypeId)(gs:List Nat)(W W':World):Prop:=Kept (kdB B lo hi Tp Db gs W) W'
theorem kd_refl {B lo hi:Nat}{Tp Db:List TypeId}{gs:List Nat}{W:World}:KD B lo hi Tp Db gs W W:=Kept.refl _
theorem kd_grow {B lo hi:Nat}{Tp Db:List TypeId}{gs:List Nat}{W W' W'':World}(h:KD B lo hi Tp Db gs W W')(hg:Grow W' W''):KD B lo hi Tp Db gs W W'':=h.grow hg
theorem kd_stpV {B lo hi:Nat}{Tp Db:List TypeId}{gs:List Nat}{W W':World}(h:StpV lo hi Tp gs W W'):KD B lo hi Tp Db gs W W' :=
 ⟨h.os,h.tape,h.output,h.size,λ k hk hf=>h.block k hk λ hF=>hf (by
  rcases hF with hF | hF
  ·exact .inl hF
  ·exact .inr (.inl hF))⟩
theorem VA.kd {A:VA}{B lo hi:Nat}{Tp Db Tc:List TypeId}{gs:List Nat}{W W':World}(hp:A.p B v W)(h:KD B lo hi Tp Db gs W W')(hlo:B≤lo)(hc:CellsT Tc gs W)(hb:∀ g∈gs,B≤g)(hD:offD (Tc++Tp++Db) A.deps=true):A.p B v W':=by
 have hD:=dm hD
 refine VA.many (gs++(List.range W.heap.size).filter λ k=>match (W.heap[k]?:Option Obj) with | some (Obj.cells _ T _)=>(Tp++Db).contains T&&decide (B≤k) | _=>false) hp h.os h.tape h.output h.size (λ k c T fz hk hn=>?_) (λ g hg=>?_)
 ·have hin:∀ T',(∃ c T fz,W.heap[k]?=some (.cells c T fz)∧T=T')→T'∈Tp++Db→B≤k→k∈gs++(List.range W.heap.size).filter λ k=>match (W.heap[k]?:Option Obj) with | some (Obj.cells _ T _)=>(Tp++Db).contains T&&decide (B≤k) | _=>false:=λ T' ⟨c',T'',fz',h3,e⟩ hT hB=>by
   refine qm.2 (.inr (zb.2 ⟨by simpa using (Array.getElem?_eq_some_iff.1 hk).1,?_⟩))
   rw [h3]
   subst e
   simp only [qh,qA,qr]
   exact ⟨hT,hB⟩
  refine h.block k (Array.getElem?_eq_some_iff.1 hk).1 λ hF=>hn ?_
  rcases hF with hF | ⟨h1,h2,c',T',fz',h3,h4⟩ | ⟨h1,c',T',fz',h3,h4⟩
  ·exact qm.2 (.inl hF)
  ·exact hin T' ⟨c',T',fz',h3,rfl⟩ (qm.2 (.inl h4)) (qg hlo h1)
  ·exact hin T' ⟨c',T',fz',h3,rfl⟩ (qm.2 (.inr h4)) h1
 ·rcases qm.1 hg with hg | hg
  ·obtain ⟨c,T,fz,h1,h2⟩:=hc g hg
   exact ⟨hb g hg,c,T,fz,h1,hD T (qm.2 (.inl (qm.2 (.inl h2))))⟩
  ·obtain ⟨_,h2⟩:=zb.1 hg
   split at h2
   ·rename_i c T fz h3
    simp only [qh,qA,qr,qm] at h2
    refine ⟨h2.2,c,T,fz,h3,hD T ?_⟩
    rcases h2.1 with h4 | h4
    ·exact qm.2 (.inl (qm.2 (.inr h4)))
    ·exact qm.2 (.inr h4)
   ·cases h2
def freshB (W:World):Bs:=⟨W,λ _=>False,true⟩
theorem St.anew {B lo hi N:Nat}{a a':Act}{W W':World}{Tp Db Tc:List TypeId}{gs:List Nat}(src:List Nat)(h:St B w0 N Γ Λ a W)(hnd:w0.nd=true)(hk:KD B lo hi Tp Db gs W W')(hlo:B≤lo)(hc:CellsT Tc gs W)(hb:∀ g∈gs,B≤g)
  (hsrc:src.all (λ k=>match Γ[k]? with | some y=>offD (Tc++Tp++Db) y.2.deps | none=>false)=true) (ha:∀ k∈src,∀ y,Γ[k]?=some y→a'.eval (.tmp y.1)=a.eval (.tmp y.1)) (hd:a'.defers=a.defers) (hs:a'.tmps.size=a.tmps.size):St B (freshB W') N (src.filterMap λ k=>Γ[k]?) [] a' W':=by
 have hBW:B≤W.heap.size:=qg (h.lo _ (.inl (qf _))) h.base.size
 refine ⟨λ g hg=>?_,DefOk.nil (hd.trans (h.defers.none hnd)),hs.trans h.size,Kept.refl _,λ x hx=>?_,(λ _ h=>by cases h),(λ _ h=>by cases h)⟩
 ·rcases hg with hg | hg
  ·exact qg hBW (qg hk.size hg)
  ·exact hg.elim
 ·obtain ⟨k,hk1,hk2⟩:=q9.1 hx
  have hs':=qd.1 hsrc k hk1
  rw [hk2] at hs'
  rw [ha k hk1 x hk2]
  exact VA.kd (h.vals x (qb hk2)) hk hlo hc hb hs'
section
variable {P:Program} {Q:Exit→Act→World→Prop} {ops:Array Oper} {i:Nat} {K:Act→World→Prop} {a:Act} {w:World}
theorem op_callF {d c : Nat} {f : FuncId} {xs : List Operand} {gs : List Value} {at_ : Array TypeId} {T : TypeId} {ps : String} {af : Array Edge} {R : Ending → World → Prop} (ho : ops[i]? = some ⟨some d, .call ⟨.value (.tmp c), xs.toArray, at_⟩, T, ps, af, none⟩) (hex : ∃ fn, P.funcs[f]? = some fn ∧ (fn.name == "runtime.NumGoroutine") = false ∧ fn.body.isNone = false)
  (hv:a.eval (.tmp c)=.func (.func f) #[] gs.toArray) (hc:Calls P f (xs.map a.eval++gs).toArray w R) (hK:∀ e w',R e w'→∃ v,e=.returned v∧K (a.put (some d) v) w'):wpOp P ops Q i K a w:=by
 obtain ⟨fn,hf,hn,hb⟩:=hex
 have hrun:(execOp a.eval ⟨some d,.call ⟨.value (.tmp c),xs.toArray,at_⟩,T,ps,af,none⟩).run P w=.ok (.enter f (xs.map a.eval++gs).toArray) w:=by
  simp only [execOp,resolve,hv,Deferred.ofValue,Sem.run_bind,Sem.run_pure,Result.andThen_ok,invoke,aZ hf hn hb]
  simp
 unfold wpOp
 simp only [ho,Region.wanted,if_true]
 refine .inl ?_
 unfold Oper.wp
 rw [hrun]
 exact hc.mono λ e w' hr=>by
  obtain ⟨v,rfl,hk⟩:=hK e w' hr
  exact hk
end
section
open Rg
variable {P:Program} {Q:Exit→Act→World→Prop} {B N:Nat} {w0:Bs} {Γ:List (Nat × VA)} {Λ:List Lc} {a:Act} {w:World}
theorem go_headF {id:Nat}{ops:Array Oper}{sp:List Sp}(n m e j:Nat)(A:As)(src:List Src)
  (hnd:noDefer ops=true) (hQ0:¬ LetsOut Q) (h:St B w0 N Γ Λ a w) (hob:Obs P Q ⟨ops,N,Γ,lesS Λ e j A,sp,λ i=>List.range i⟩ B w0 0 n) (hsz:ops.size=n+m) (hj:n≤j) (hk:Rg.chk ⟨ops,N,Γ,lesS Λ e j A,sp,λ i=>List.range i⟩=true)
  (hsrc:src.all (λ s=>match s with | .g k=>(match Γ[k]? with | some x=>Rg.outG ⟨ops,N,Γ,lesS Λ e j A,sp,λ i=>List.range i⟩ x.1 | none=>false) | .o i=>decide (i<n))=true)
  (hQ:∀ a' w',St B w0 N (src.filterMap (takeS ⟨ops,N,Γ,lesS Λ e j A,sp,λ i=>List.range i⟩)) Λ a' w'→wpOpsIn (fw none) 0 P ops Q (List.range' n m) a' w'):(Code.region id ops false).wpIn (fw none) 0 P Q a w:=by
 refine Rg.linKF (R:=⟨ops,N,Γ,lesS Λ e j A,sp,λ i=>List.range i⟩) (m:=m) hnd hQ0 hsz G hk h (λ y hy _=>?_) (λ i hi=>hob.all i zo zo) λ a1 w1 hinv=>?_
 ·exact (dU y hy).2.1
 ·exact hQ a1 w1 (kw (λ l' hl'=>by
   obtain ⟨j',hj'⟩:=List.getElem?_of_mem hl'
   exact ⟨_,qp.2 ⟨(l',j'),zi.2 hj',rfl⟩⟩) (λ y hy i B' h1=>by have:=(dU y hy).2.2 i B' h1; omega) hinv src hsrc)
theorem op_yieldP {ops:Array Oper}{i d c l:Nat}{xs:List Operand}{at_:Array TypeId}{K:Act→World→Prop}{R:Ending→World→Prop}(ho:ops[i]?=some ⟨some d,.call ⟨.value (.tmp c),xs.toArray,at_⟩,T,ps,af,none⟩)
  (hv:a.eval (.tmp c)=.func (.yield l) #[] #[]) (hy:YieldAt Fence.wide 0 P l (xs.map a.eval).toArray w R) (hK:∀ e w',R e w'→∃ v,e=.returned v∧K (a.put (some d) v) w'):wpOpIn (fw none) 0 P ops Q i K a w:=by
 obtain ⟨fn,tmps,assign,body,hy,hR⟩:=hy
 have hrun:(execOp a.eval ⟨some d,.call ⟨.value (.tmp c),xs.toArray,at_⟩,T,ps,af,none⟩).run P w=.ok (.round l fn tmps assign body) w:=by
  have hy':(Instr.yield l (xs.map a.eval).toArray).run P w=.ok (.round l fn tmps assign body) w:=hy
  simp only [execOp,resolve,hv,Deferred.ofValue,Sem.run_bind,Sem.run_pure,Result.andThen_ok,invoke]
  simpa using hy'
 have hwant:Region.wanted (⟨some d,.call ⟨.value (.tmp c),xs.toArray,at_⟩,T,ps,af,none⟩:Oper) (yielded ops a.tmps)=true:=rfl
 unfold wpOpIn
 rw [ho]
 simp only [hwant,if_true]
 refine ⟨λ _ _=>trivial,?_⟩
 rw [show Oper.semAt (fw none).round a.eval _=execOp a.eval _ from rfl,hrun]
 refine ⟨λ hh=>(by cases hh),?_⟩
 refine RoundIn.mono hR ?_
 intro e w' hr
 obtain ⟨v,rfl,hk⟩:=hK e w' hr
 exact hk
theorem op_asgF {ops:Array Oper}{i e d:Nat}{K:Act→World→Prop}{b:Bool}(ho:ops[i]?=some ⟨some e,.assign (.tmp d),T,ps,af,none⟩)(hv:a.eval (.tmp d)=.bool b)(hK:K (a.put (some e) (.bool b)) w):wpOpIn (fw none) 0 P ops Q i K a w:=by
 have hwant:Region.wanted (⟨some e,.assign (.tmp d),T,ps,af,none⟩:Oper) (yielded ops a.tmps)=true:=rfl
 unfold wpOpIn
 rw [ho]
 simp only [hwant,if_true]
 refine ⟨λ _ _=>trivial,?_⟩
 rw [show Oper.semAt (fw none).round a.eval _=execOp a.eval _ from rfl,asg_op a w b hv]
 exact hK
theorem wide_of {c:Code}(h:c.wpIn (fw none) 0 P Q a w):c.wp P Q a w:=wpIn_wide.1 h
end
def PkR (E:TypeId)(hp:Nat)(w:World)(q:List Int):Prop:=w.heap[hp]?=some (.cells (q.map λ (n:Int)=>Value.int .i64 n).toArray E (0,0))
theorem iW {lo hi g:Nat}{Tp:List TypeId}{gs:List Nat}{c:Array Value}{fz:Nat × Nat}(h:Wr g w w')(hg:w.heap[g]?=some (.cells c T fz))(h1:lo≤g)(h2:g<hi)(hT:T∈Tp):StpV lo hi Tp gs w w' :=
 ⟨h.os,h.tape,h.output,xN h.size.symm,λ k hk hf=>h.block k λ e=>hf (by subst e; exact .inr ⟨h1,h2,c,T,fz,hg,hT⟩)⟩
section
variable {P:Program} {Q:Exit→Act→World→Prop} {ops:Array Oper} {i:Nat} {K:Act→World→Prop} {a:Act} {w:World}
theorem op_stoH {p d hp j:Nat}{k:Int}{E ty T':TypeId}{q:List Int}(ho:ops[i]?=some ⟨none,.store ty (.tmp p) (.tmp d),T',ps,af,none⟩)(hpv:a.eval (.tmp p)=.pointer (some ⟨hp,j,none⟩))(hdv:a.eval (.tmp d)=.int .i64 k)
  (hq:PkR E hp w q) (hj:j<q.length) (ht:Ty P ty 1 false) (hK:∀ w',PkR E hp w' (q.set j k)→Wr hp w w'→K (a.put none undef) w'):wpOp P ops Q i K a w:=by
 unfold PkR at hq
 have hrun:=bx ht w hp j E (q.map λ (n:Int)=>Value.int .i64 n).toArray (.int .i64 k) [.int .i64 k] rfl rfl (by simp; omega) (by intro x hx; simp at hx; subst hx; rfl) hq
 have e3:(((q.map λ (n:Int)=>Value.int .i64 n).take j)++[Value.int .i64 k]++((q.map λ (n:Int)=>Value.int .i64 n).drop (j+1)))=(q.set j k).map λ (n:Int)=>Value.int .i64 n:=by
  rw [List.map_set,jc,ql (by simpa using hj)]
  simp
 simp only [e3] at hrun
 unfold wpOp
 simp only [ho,Region.wanted,if_true]
 refine .inl (wp_skip' (w':=w.setRow hp ((q.set j k).map λ (n:Int)=>Value.int .i64 n).toArray) ?_ (hK _ ?_ (Wr.setRow w hp _)))
 ·simp [execOp,hpv,hdv,Instr.storeAt,Instr.sureAddr,hrun]
 ·exact setRow_heap w hp _ _ _ _ hq
end
structure DnE where
 l:Nat
 B:Nat
 lo:Nat
 hi:Nat
 hp:Nat
 n:Nat
 gT:Nat
 gP:Nat
 gY:Nat
 gA:Nat
 gD:Nat
 t:RTk
 ah:List Nat
 Db:List TypeId
 gs:List Nat
 M:Nat
 J:Nat→World→Prop
 Jx:World→Prop
def DnE.cap (e:DnE):List Value:=[ptr e.gT,ptr e.gP,ptr e.gY,ptr e.gA,ptr e.gD]
def DnE.pk (e:DnE)(k:Nat):List Nat:=exW e.t.ps.length e.ah e.n 0 k
def dnK (i:Nat):Nat:=1+4097*(2*i)
def DnE.F (e:DnE)(w:World):Prop :=
 (ElP 30 (TkO e.t)).p e.B (ptr e.gT) w∧(ElP 31 (EqA (.slice (some ⟨e.hp,0,none⟩) e.n e.n))).p e.B (ptr e.gP) w∧(ElP 98 (EqA (.func (.yield e.l) #[] #[]))).p e.B (ptr e.gY) w ∧
  (ElP 31 (SlO 3 [] (e.ah.map λ (k:Nat)=>InA (k:Int)) True)).p e.B (ptr e.gA) w∧(ElP 99 (EqA (.func (.func 53) #[] e.cap.toArray))).p e.B (ptr e.gD) w
def DnE.Y (e:DnE)(k:Nat):List VA:=[(WyA (dnK (e.n+2)+4200) (wayW e.t (e.pk k))).va]
structure DnE.Ok (e:DnE):Prop where
 lo:e.B≤e.lo
 gs:∀ g∈e.gs,e.B≤g
 hp:e.lo≤e.hp∧e.hp<e.hi
 ck:ckF e.t=0
 n:e.t.sp.length=e.n+1
 ah:e.ah.length≤e.n∧∀ x∈e.ah,x<e.t.ps.length
 M:e.M=cntW e.t.ps.length e.ah.length e.n 0
 Db:offD e.Db [30,31,98,99,U32,28,101]=true
 st:∀ k W W',k<e.M→e.J k W→StpV e.lo e.hi [3] e.gs W W'→CellsT [30,31] e.gs W'→e.J k W'
 stM:∀ W W',e.J e.M W→StpI e.gs W W'→CellsT [30,31] e.gs W'→e.J e.M W'
 stx:∀ W W',e.Jx W→StpI e.gs W W'→CellsT [30,31] e.gs W'→e.Jx W'
 ct:∀ k W,e.J k W→CellsT [30,31] e.gs W
 ctx:∀ W,e.Jx W→CellsT [30,31] e.gs W
 yd:∀ k W args,k<e.M→e.J k W→All2 (λ (A:VA) v=>A.p e.B v W) (e.Y k) args→YieldAt Fence.wide 0 Tryz.prog e.l args.toArray W λ x W'=>(x=.returned (.bool true)∧e.J (k+1) W'∧Stp e.B e.Db (e.gs++List.range' e.lo (e.hi-e.lo)) W W') ∨
  (x=.returned (.bool false)∧e.Jx W'∧W.heap.size≤W'.heap.size∧∀ D:Nat,W.heap[D]?=some (.deferred (some []))→W'.heap[D]?=some (.deferred (some [])))
def DnC (e:DnE)(f i:Nat):Prop:=∀ (pre:List Nat) (k:Nat) (w:World) (q:List Int) (vr:Value),pre.length=i→i+f=e.n→(∀ x∈pre,x<e.t.ps.length) →
 (∀ r,r<cntW e.t.ps.length e.ah.length f i→e.pk (k+r)=pre++exW e.t.ps.length e.ah f i r)→k+cntW e.t.ps.length e.ah.length f i≤e.M→e.J k w→e.F w→PkR 3 e.hp w q→q.length=e.n→q.take i=pre.map (λ (x:Nat)=>(x:Int)) →
 (CoA (dnK i) (prodQ (benP e.t pre))).va.p e.B vr w →
 Calls Tryz.prog 53 ([.int .i64 (i:Nat),.int .i64 (cosW e.t pre),vr]++e.cap).toArray w λ x w' =>
  (x=.returned (.bool true)∧e.J (k+cntW e.t.ps.length e.ah.length f i) w'∧KD e.B e.lo e.hi [3] e.Db [] w w'∧∃ q',PkR 3 e.hp w' q'∧q'.length=e.n∧q'.take i=q.take i)∨(x=.returned (.bool false)∧e.Jx w'∧w.heap.size≤w'.heap.size)
theorem DnE.F.kd {e:DnE}(ok:e.Ok){w w':World}(h:e.F w)(hk:KD e.B e.lo e.hi [3] e.Db [] w w'):e.F w':=by
 obtain ⟨h1,h2,h3,h4,h5⟩:=h
 have hD:∀ T∈e.Db,T ∉ [30,31,98,99,U32,28,101]:=dm ok.Db
 have key:∀ {deps:List TypeId},deps.all (λ T=>[30,31,98,99,U32,28,101].contains T)=true→offD ([]++[3]++e.Db) deps=true:=λ {deps} hd=>qd.2 λ T hT=>by
  have hd':=qd.1 hd T hT
  have hm:T∈[30,31,98,99,U32,28,101]:=by simpa using hd'
  have hn:T ∉ []++[3]++e.Db:=λ hh=>by
   rcases qm.1 hh with hh | hh
   ·have:T=3:=by simpa using hh
    subst this
    exact absurd hm zd
   ·refine hD T hh ?_
    simp only [qn,z9,or_false] at hm ⊢
    rcases hm with h | h | h | h | h | h | h <;> simp [h]
  simpa using hn
 have hv:=λ {A:VA} {v:Value} (hp:A.p e.B v w) (hd:A.deps.all (λ T=>[30,31,98,99,U32,28,101].contains T)=true)=>VA.kd (Tc:=[]) hp hk ok.lo (λ g hg=>by cases hg) (λ g hg=>by cases hg) (key hd)
 exact ⟨hv h1 zk,hv h2 zk,hv h3 zk,hv h4 zk,hv h5 zk⟩
theorem dn_rep {t:RTk}{l:List Nat}(h:(benP t l).all elF=true):RepM (1+4097*(benP t l).length) (prodQ (benP t l)):=by
 have:=gJ h (benP t l).length (qf _)
 rwa [qO] at this
theorem benP_len (t:RTk):∀ l:List Nat,(benP t l).length=2*l.length:=λ l=>by
 unfold benP
 rw [List.length_flatMap]
 have h:∀ m:Nat,((List.range m).map λ _=>2).sum=2*m:=λ m=>by
  induction m with
  | zero=>rfl
  | succ m ih=>rw [List.range_succ,zx,ki,ih]; simp; omega
 exact h l.length
theorem d9 {B lo hi:Nat}{Tp Db:List TypeId}{gs:List Nat}{W W' W'':World}(h:KD B lo hi Tp Db gs W W')(h':KD B lo hi Tp Db gs W' W''):KD B lo hi Tp Db gs W W'':=by
 refine ⟨h'.os.trans h.os,h'.tape.trans h.tape,h'.output.trans h.output,qg h.size h'.size,λ k hk hf=>?_⟩
 have hk1:k<W.heap.size:=hk
 have e1:W'.heap[k]?=W.heap[k]?:=h.block k hk hf
 refine (h'.block k (qM hk1 h.size) λ hF=>hf ?_).trans e1
 rcases hF with hF | ⟨h1,h2,c,T,fz,h3,h4⟩ | ⟨h1,c,T,fz,h3,h4⟩
 ·exact .inl hF
 ·exact .inr (.inl ⟨h1,h2,c,T,fz,e1.symm.trans h3,h4⟩)
 ·exact .inr (.inr ⟨h1,c,T,fz,e1.symm.trans h3,h4⟩)
theorem St.entry {B N:Nat}{pre:List VA}{args:List Value}(hB:B≤w.heap.size)(ha:All2 (λ (A:VA) v=>A.p B v w) pre args)(hn:pre.length≤N):St B (freshB w) N (argΓ pre) [] { tmps:=args.toArray++Array.replicate (N-args.toArray.size) undef,defers:=[] } w:=by
 have hl:=ha.length
 refine ⟨λ g hg=>qg hB (hg.resolve_right λ h=>h),DefOk.nil rfl,?_,Kept.refl _,All2.args ha,(λ l hl=>by cases hl),(λ l hl=>by cases hl)⟩
 simp only [zu,zr,qB]
 omega
theorem dn_s {e:DnE}(ok:e.Ok){i:Nat}(hi:i≤e.n):∃ h:i<e.t.sp.length,okX e.t.sp[i]=true∧elF (spE e.t.sp[i])=true:=by
 have hlt:i<e.t.sp.length:=by rw [ok.n]; omega
 refine ⟨hlt,?_⟩
 have hc:=ok.ck
 unfold ckF at hc
 have h0:hdF e.t=false:=by
  by_cases h:hdF e.t=true
  ·rw [ql h] at hc; exact absurd hc zd
  ·exact zD.2 h
 rw [qj (by rw [h0]; decide)] at hc
 have h1:e.t.sp.all spF=true:=by
  by_cases h:e.t.sp.all spF=true
  ·exact h
  ·rw [ql (by rw [zD.2 h]; rfl)] at hc; exact absurd hc zd
 have h2:=qd.1 h1 _ (qi hlt)
 unfold spF at h2
 simp only [qv,qI,qw] at h2
 have h3:okX e.t.sp[i]=true:=by
  by_cases h:okX e.t.sp[i]=true
  ·exact h
  ·have:=h2.1
   rw [qj h] at this
   exact absurd this zd
 refine ⟨h3,?_⟩
 unfold elF spE
 rw [qh]
 refine ⟨?_,?_⟩
 ·simp only [xa,xm,xc,qh]
  exact ⟨h3,by kernel_rfl⟩
 ·show elK 1 _ _=true
  rw [kd1 (by rfl)]
  rw [qh]
  refine ⟨qK (show (toQ e.t.sp[i]).num.sign≥0 from by have:=h2.2; omega),by kernel_rfl⟩
theorem de {t:RTk}(h:ckF t=0):hdF t=false∧t.sp.all spF=true∧t.ps.all ptF=true:=by
 unfold ckF at h
 by_cases h0:hdF t=true
 ·rw [ql h0] at h; exact absurd h zd
 ·rw [qj h0] at h
  by_cases h1:t.sp.all spF=true
  ·rw [qj (by rw [h1]; decide)] at h
   by_cases h2:t.ps.all ptF=true
   ·exact ⟨zD.2 h0,h1,h2⟩
   ·rw [ql (by rw [zD.2 h2]; rfl)] at h; exact absurd h zd
  ·rw [ql (by rw [zD.2 h1]; rfl)] at h; exact absurd h zd
theorem dn_p {t:RTk}(h:ckF t=0){x:Nat}(hx:x<t.ps.length):elF (t.ps.getD x ⟨⟨#[]⟩,⟨0,rf0,rf0⟩,0⟩).e=true:=by
 have h1:=qd.1 (de h).2.2 _ (qi hx)
 unfold ptF at h1
 simp only [qv,qI] at h1
 have h2:chF [t.ps[x].e]=0:=by simpa using h1.1.1.2
 have h3:=(ch_ok h2).2
 rw [show t.ps.getD x ⟨⟨#[]⟩,⟨0,rf0,rf0⟩,0⟩=t.ps[x] from by simp [List.getD,hx]]
 simpa using h3
theorem dn_all {e:DnE}(ok:e.Ok){l:List Nat}(hl:l.length≤e.n)(hp:∀ x∈l,x<e.t.ps.length):(benP e.t l).all elF=true:=by
 rw [qd]
 intro y hy
 unfold benP at hy
 obtain ⟨i,hi,hy⟩:=j7.1 hy
 have hi':i<l.length:=xY.1 hi
 simp only [qn,z9,or_false] at hy
 rcases hy with rfl | rfl
 ·obtain ⟨hlt,_,h⟩:=dn_s ok (i:=i) zo
  rw [show e.t.sp.getD i rf0=e.t.sp[i] from by simp [List.getD,hlt]]
  exact h
 ·refine dn_p ok.ck ?_
  rw [show l.getD i 0=l[i] from by simp [List.getD,hi']]
  exact hp _ (qi hi')
theorem dn_m {e:DnE}(ok:e.Ok){l:List Nat}(hl:l.length≤e.n)(hp:∀ x∈l,x<e.t.ps.length):RepM (dnK l.length) (prodQ (benP e.t l)):=by
 have h:=dn_rep (dn_all ok hl hp)
 rw [benP_len] at h
 exact h
theorem dn_n {e:DnE}(ok:e.Ok):1≤e.n∧e.n≤12:=by
 have:=hd_b (de ok.ck).1
 have:=ok.n
 omega
theorem dn_K {e:DnE}(ok:e.Ok){i:Nat}(hi:i≤e.n):dnK i≤200000:=by
 have:=(dn_n ok).2
 unfold dnK
 omega
end Go.Proofs.YtlakjmncfooodaaGreat
