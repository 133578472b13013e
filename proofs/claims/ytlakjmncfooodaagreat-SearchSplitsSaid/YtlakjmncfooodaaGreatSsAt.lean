import Derived.Test.YtlakjmncfooodaaGreatSsAs
set_option linter.all false
set_option maxRecDepth 100000
namespace Go.Proofs.YtlakjmncfooodaaGreat
open Go Go.RowKit
variable {w:World}{B:Nat}{a:Act}{v:Value}{T:TypeId}{w0:Bs}{Γ:List (Nat × VA)}{Λ:List Lc}{ps:String}{af:Array Edge}{vr:Value}{H:Hd}{cs:List Value}{w':World}{P:Program}{D:List TypeId}
theorem fk:Str Tryz.prog 69 [EqA (.slice none 0 0),RFA rf0,RFA rf0,NumA .i64 0] :=
 Str.of (z:=.agg #[.slice none 0 0,.bool false,.slice none 0 0,.bool false,.slice none 0 0,.bool false,.slice none 0 0,.bool false,.slice none 0 0,.int .i64 0]) zk Tryz.underlying69 zk λ B w=>⟨[[.slice none 0 0],[.bool false,.slice none 0 0,.bool false,.slice none 0 0],[.bool false,.slice none 0 0,.bool false,.slice none 0 0],[.int .i64 0]],rfl,.cons ⟨rfl,rfl⟩ (.cons (dk B w) (.cons (dk B w) (.cons rfl .nil)))⟩
theorem sp_mul (x:RF)(m:MQ):m.a+toQ x*m.c=(mulQ (elM (spE x)) m).a∧m.c=(mulQ (elM (spE x)) m).c:=by
 rw [thr_1 (x:=spE x) rfl]
 constructor
 ·show m.a+toQ x*m.c=1*m.a+toQ x*m.c
  rw [xI]
 ·show m.c=0*m.a+1*m.c
  rw [jE,xI,Rat.zero_add]
theorem fR {f:FuncId}{fn:Func}{c:Code}{R:Ending→World→Prop}(pre:List VA){args:List Value}(hf:P.funcs[f]?=some fn)(hb:fn.body=some c)(hB:B≤w.heap.size)(ha:All2 (λ (A:VA) v=>A.p B v w) pre args)(hn:pre.length≤fn.ntmps)
  (h:∀ (w0:Bs) (a:Act),w0=freshB w→St B w0 fn.ntmps (argΓ pre) [] a w→c.wp P (bPost P fn R) a w):Calls P f args.toArray w R:=bu hf hb (h _ _ rfl (St.entry hB ha hn))
section
open Rg
variable {P:Program} {Q:Exit→Act→World→Prop} {R:Rg} {B i:Nat} {w0:Bs}
theorem r_lenQ {x:Operand}{S E':TypeId}{A:Option Addr}{n c:Nat}(hS:P.underlying S=some (.slice E'))(hx:Has R B w0 i x (EqA (.slice A n c)).va):Wv P Q R B w0 i (.call ⟨.builtin .len,#[x],#[S]⟩) (In (n:Nat)) :=
 aQ λ d T ps af gd a w av=>by
  have hv':a.eval x=.slice A n c:=fJ (hx a w av)
  refine ⟨.int .i64 n,w,?_,Grow.refl w,bm _ _ _ _⟩
  simp [execOp,resolve,invoke,builtin,hv',Builtin.len_,run_underlying hS,goInt]
end
theorem grow_stpV {lo hi:Nat}{Tp:List TypeId}{gs:List Nat}(h:Grow w w'):StpV lo hi Tp gs w w':=⟨h.os,h.tape,h.output,h.size,λ k hk _=>h.block k hk⟩
theorem bZ {gs:List Nat}(h:Grow w w'):StpI gs w w':=⟨h.os,h.tape,h.output,h.size,λ k hk _=>h.block k hk⟩
theorem CellsT.grow {Tc:List TypeId}{gs:List Nat}(h:CellsT Tc gs w)(hg:Grow w w'):CellsT Tc gs w':=λ g hm=>by
 obtain ⟨c,T,fz,h1,h2⟩:=h g hm
 exact ⟨c,T,fz,hg.heap h1,h2⟩
theorem aR (h:Kept (freshB w) w'):Grow w w':=⟨h.os,h.tape,h.output,h.size,λ k hk=>h.block k hk (λ h=>h)⟩
theorem kd_of {B lo hi:Nat}{Tp Db:List TypeId}{gs:List Nat}(h:Grow w w'):KD B lo hi Tp Db gs w w':=kd_grow kd_refl h
theorem d3 {E:TypeId}{hp:Nat}{q:List Int}(h:PkR E hp w q)(hg:Grow w w'):PkR E hp w' q:=hg.heap h
theorem DnE.F.grow {e:DnE}{w w':World}(h:e.F w)(hg:Grow w w'):e.F w':=by
 obtain ⟨h1,h2,h3,h4,h5⟩:=h
 exact ⟨VA.grow _ _ _ _ _ hg h1,VA.grow _ _ _ _ _ hg h2,VA.grow _ _ _ _ _ hg h3,VA.grow _ _ _ _ _ hg h4,VA.grow _ _ _ _ _ hg h5⟩
theorem DnE.Ok.grow {e:DnE}(ok:e.Ok){k:Nat}{w w':World}(hk:k≤e.M)(hJ:e.J k w)(hg:Grow w w'):e.J k w':=by
 have hc:=(ok.ct k w hJ).grow hg
 by_cases h:k=e.M
 ·rw [h] at hJ ⊢
  exact ok.stM _ _ hJ (bZ hg) hc
 ·exact ok.st _ _ _ zo hJ (grow_stpV hg) hc
theorem DnE.Ok.growx {e:DnE}(ok:e.Ok)(hJ:e.Jx w)(hg:Grow w w'):e.Jx w':=ok.stx _ _ hJ (bZ hg) ((ok.ctx w hJ).grow hg)
def DnE.R (e:DnE)(f i k:Nat)(q:List Int)(w:World):Ending→World→Prop:=λ x w' =>
 (x=.returned (.bool true)∧e.J (k+cntW e.t.ps.length e.ah.length f i) w'∧KD e.B e.lo e.hi [3] e.Db [] w w'∧∃ q',PkR 3 e.hp w' q'∧q'.length=e.n∧q'.take i=q.take i)∨(x=.returned (.bool false)∧e.Jx w'∧w.heap.size≤w'.heap.size)
theorem DnE.R.grow {e:DnE}(ok:e.Ok){f i k:Nat}{q:List Int}{w:World}{x:Ending}{w1 w2:World}(hk:k+cntW e.t.ps.length e.ah.length f i≤e.M)(h:e.R f i k q w x w1)(hg:Grow w1 w2):e.R f i k q w x w2:=by
 rcases h with ⟨h1,h2,h3,q',h4,h5⟩ | ⟨h1,h2,h3⟩
 ·exact .inl ⟨h1,ok.grow hk h2 hg,kd_grow h3 hg,q',d3 h4 hg,h5⟩
 ·exact .inr ⟨h1,ok.growx h2 hg,qg h3 hg.size⟩
theorem St.bare {B N:Nat}(h:St B w0 N Γ Λ a w)(hnd:w0.nd=true)(hs:w.heap.size≤w'.heap.size):St B (freshB w') N [] [] a w':=by
 have hBW:B≤w.heap.size:=qg (h.lo _ (.inl (qf _))) h.base.size
 refine ⟨λ g hg=>?_,DefOk.nil (h.defers.none hnd),h.size,Kept.refl _,(λ _ h=>by cases h),(λ _ h=>by cases h),(λ _ h=>by cases h)⟩
 rcases hg with hg | hg
 ·exact qg hBW (qg hs hg)
 ·exact hg.elim
theorem St.ofPtr {B N:Nat}(h:St B w0 N Γ Λ a w){s:Nat}{A:As}(k:Nat)(hm:Λ[k]?=some ⟨s,T,ptrH,A⟩):St B w0 N ((s,ElP T A)::Γ) (Λ.eraseIdx k) a w:=by
 have hsub:∀ l'∈Λ.eraseIdx k,l'∈Λ:=λ l' hl'=>jy hl'
 refine ⟨h.lo,h.defers,h.size,h.base,λ x hx'=>?_,λ l' hl'=>h.locs l' (hsub l' hl'),λ l1 h1 l2 h2 hne=>h.dis l1 (hsub l1 h1) l2 (hsub l2 h2) hne⟩
 rcases qn.1 hx' with rfl | hx'
 ·obtain ⟨g,cs,h1,_,h3,h4⟩:=h.locs _ (qb hm)
  refine ⟨g,0,cs,h1,(Array.getElem?_eq_some_iff.1 h3).1,.inr ⟨_,_,h3⟩,h4,λ j v hv=>?_⟩
  rw [qC,cell_of_row w g j cs.toArray T _ h3]
  simpa using hv
 ·exact h.vals x hx'
theorem dn_ret {fn:Func}{R:Ending→World→Prop}{B N t:Nat}{b:Bool}(hr:fn.results = #[.tmp t])(h:St B w0 N Γ Λ a w)(hnd:w0.nd=true)(hm:(t,Bo b)∈Γ)(hR:R (.returned (.bool b)) w)(hg:∀ x w1 w2,R x w1→Grow w1 w2→R x w2):bPost P fn R .ret a w:=by
 refine ⟨[],h.defers.none hnd,.nil,(λ _ h=>by cases h),λ w' hs=>⟨_,results_tmp hr a.tmps P w',?_⟩⟩
 have e:a.tmps.getD t undef=.bool b:=cq (h.vals _ hm)
 rw [e]
 exact hg _ _ _ hR ⟨hs.os,hs.tape,hs.output,xN hs.size.symm,λ k _=>hs.block k (by simp)⟩
theorem cW {B:Nat}{w:World}:∀ (ws:List Int),(cat (ws.map InA)).p B (ws.map λ (n:Int)=>Value.int .i64 n) w
 | []=>⟨[],rfl,.nil⟩
 | n::ws=>by
  obtain ⟨ps,h1,h2⟩:=cW (B:=B) (w:=w) ws
  exact ⟨[.int .i64 n]::ps,by rw [qF,h1]; rfl,.cons G h2⟩
theorem way_va {k k1 k2 B hp n:Nat}{ws:List Int}{p q:Rat}{c:Int}(h:(cat [EqA (.slice (some ⟨hp,0,none⟩) n n),QA k1 p,QA k2 q,NumA .i64 c]).va.p B v w)(hr:PkR 3 hp w ws)(hn:ws.length=n)(hm:n≤1000)(h1:WkA (QA k1 p) (QA k p))(h2:WkA (QA k2 q) (QA k q)):(WyA k ⟨ws,p,q,c⟩).va.p B v w:=by
 obtain ⟨cs,⟨ps,rfl,hps⟩,rfl⟩:=h
 cases hps with
 | cons q1 hps =>
  cases hps with
  | cons q2 hps =>
   cases hps with
   | cons q3 hps =>
    refine ⟨_,⟨_,rfl,.cons ?_ (.cons (h1.2.2 _ _ _ q2) (.cons (h2.2.2 _ _ _ q3) hps))⟩,rfl⟩
    obtain ⟨rfl,_⟩:=q1
    refine ⟨λ A hA T hT=>?_,_,n,_,by rw [qc,hn],by rw [qc,hn]; exact qf _,by unfold maxLen; omega,cW ws,λ _=>⟨hp,0,rfl,(Array.getElem?_eq_some_iff.1 hr).1,.inr ⟨_,_,hr⟩,λ j u hu=>?_⟩⟩
    ·obtain ⟨x,_,rfl⟩:=qp.1 hA
     cases hT
    ·rw [qC,cell_of_row w hp j _ 3 _ hr]
     simpa using hu
theorem cosW_b {t:RTk}(h:ckF t=0):∀ {l:List Nat},(∀ x∈l,x<t.ps.length)→0≤cosW t l∧cosW t l≤1073741824*(l.length:Int)
 | [],_=>by simp [cosW]
 | x::l,hp=>by
  obtain ⟨h1,h2⟩:=cosW_b h (l:=l) λ y hy=>hp y (ze _ hy)
  have hx:x<t.ps.length:=hp x z0
  have h3:=qd.1 (de h).2.2 _ (qi hx)
  unfold ptF at h3
  simp only [qv,qI,qw] at h3
  have h4:cosW t (x::l)=t.ps[x].c+cosW t l:=by
   unfold cosW
   rw [qF,zP,show t.ps.getD x ⟨⟨#[]⟩,⟨0,rf0,rf0⟩,0⟩=t.ps[x] from by simp [List.getD,hx]]
  rw [h4,zV]
  have:=h3.1.2
  have:=h3.2
  omega
def dnD (e:DnE)(f i j:Nat):Nat:=if i<e.ah.length then (if e.ah.getD i 0<j then cntW e.t.ps.length e.ah.length f (i+1) else 0) else j*cntW e.t.ps.length e.ah.length f (i+1)
theorem dnD_0 (e:DnE)(f i:Nat):dnD e f i 0=0:=by
 unfold dnD
 split
 ·rw [qj zo]
 ·rw [jF]
theorem dnD_end {e:DnE}(ok:e.Ok)(f i:Nat):dnD e f i e.t.ps.length=cntW e.t.ps.length e.ah.length (f+1) i:=by
 unfold dnD
 split
 ·rename_i h
  rw [ql,dW h]
  rw [List.getD,List.getElem?_eq_getElem h]
  exact ok.ah.2 _ (qi h)
 ·rename_i h
  rw [fN h]
theorem dnD_skip {e:DnE}{f i j:Nat}(h:i<e.ah.length)(h2:e.ah.getD i 0≠j):dnD e f i (j+1)=dnD e f i j:=by
 unfold dnD
 rw [ql h,ql h]
 by_cases h3:e.ah.getD i 0<j
 ·rw [ql h3,ql zo]
 ·rw [qj h3,qj zo]
theorem dnD_go {e:DnE}{f i j:Nat}(h:i<e.ah.length→e.ah.getD i 0=j):dnD e f i (j+1)=dnD e f i j+cntW e.t.ps.length e.ah.length f (i+1):=by
 unfold dnD
 by_cases h1:i<e.ah.length
 ·rw [ql h1,ql h1,ql (by have:=h h1; omega),qj (by have:=h h1; omega),qC]
 ·rw [qj h1,qj h1,xW,jJ]
theorem dnD_le {e:DnE}{f i j:Nat}(hj:j<e.t.ps.length)(h:i<e.ah.length→e.ah.getD i 0=j):dnD e f i j+cntW e.t.ps.length e.ah.length f (i+1)≤cntW e.t.ps.length e.ah.length (f+1) i:=by
 rw [← dnD_go h]
 unfold dnD
 by_cases h1:i<e.ah.length
 ·rw [ql h1,ql (by have:=h h1; omega),dW h1]; exact qf _
 ·rw [qj h1,fN h1]
  exact qP _ hj
theorem dn_pk {e:DnE}{f i j k:Nat}{pre:List Nat}(hp:∀ r,r<cntW e.t.ps.length e.ah.length (f+1) i→e.pk (k+r)=pre++exW e.t.ps.length e.ah (f+1) i r)(hj:j<e.t.ps.length)(h:i<e.ah.length→e.ah.getD i 0=j) :
  ∀ r,r<cntW e.t.ps.length e.ah.length f (i+1)→e.pk (k+dnD e f i j+r)=(pre++[j])++exW e.t.ps.length e.ah f (i+1) r:=λ r hr=>by
 have hle:=dnD_le (f:=f) hj h
 rw [jx,hp _ zo,qW]
 refine qt (pre ++ ·) ?_
 unfold dnD
 by_cases h1:i<e.ah.length
 ·have h2:=h h1
  rw [ql h1,qj zo,qC,exW_ah h1,z4]
  rw [List.getD,List.getElem?_eq_getElem h1] at h2
  have h2':e.ah[i]=j:=h2
  rw [h2']
 ·rw [qj h1,exW_at h1 hr,z4]
theorem gB {q p:List Int}{i:Nat}{v:Int}(h:q.take i=p)(hi:i<q.length):(q.set i v).take (i+1)=p++[v]:=by
 rw [qu (by rw [xz]; exact hi),jP (qf _),h,List.getElem_set_self]
theorem cells_wr {Tc:List TypeId}{gs:List Nat}{g:Nat}{c:Array Value}{fz:Nat × Nat}(h:CellsT Tc gs w)(hw:Wr g w w')(hg:w.heap[g]?=some (.cells c T fz))(hT:T ∉ Tc):CellsT Tc gs w':=λ k hk=>by
 obtain ⟨c',T',fz',h1,h2⟩:=h k hk
 exact ⟨c',T',fz',(hw.block k (λ e=>by
  subst e
  rw [hg] at h1
  injection h1 with h1
  injection h1 with _ h1 _
  exact hT (by rw [h1]; exact h2))).trans h1,h2⟩
theorem pk_stp {b lo hi:Nat}{gs:List Nat}{W W':World}{E:TypeId}{hp:Nat}{q:List Int}(h:Stp b D (gs++List.range' lo (hi-lo)) W W')(h1:lo≤hp)(h2:hp<hi)(hq:PkR E hp W q):PkR E hp W' q :=
 h.held hq (qm.2 (.inr (jZ.2 ⟨h1,by omega⟩)))
theorem fZ {o:Option Nat}{n:Nat}{ops:Array Oper}{Q:Exit→Act→World→Prop}(h:Q .normal a w):wpOpsIn (fw o) n P ops Q [] a w:=h
theorem kd_stp0 {B lo hi:Nat}{Tp Db:List TypeId}{gs:List Nat}{W W':World}(h:Stp B Db gs W W'):KD B lo hi Tp Db [] W W' :=
 ⟨h.os,h.tape,h.output,h.size,λ k hk hf=>h.block k hk λ hF=>hf (by
  rcases hF with ⟨h1,h2 | ⟨_,h2⟩⟩
  ·have hk':k<W.heap.size:=hk
   omega
  ·exact .inr (.inr ⟨h1,h2⟩))⟩
theorem ah_at {ah:List Nat}{i:Nat}(h:i<ah.length):(ah.map λ (k:Nat)=>InA (k:Int))[i]?=some (InA ((ah.getD i 0:Nat):Int)):=by
 rw [List.getElem?_map,List.getElem?_eq_getElem h,List.getD,List.getElem?_eq_getElem h]; rfl
theorem St.anewD {e:DnE}(ok:e.Ok){N:Nat}{a a':Act}{W W':World}(src:List Nat)(h:St e.B w0 N Γ Λ a W)(hnd:w0.nd=true)(hk:KD e.B e.lo e.hi [3] e.Db [] W W')
  (hsrc:src.all (λ k=>match Γ[k]? with | some y=>y.2.deps.all (λ T=>[30,31,98,99,U32,28,101].contains T) | none=>false)=true) (ha:∀ k∈src,∀ y,Γ[k]?=some y→a'.eval (.tmp y.1)=a.eval (.tmp y.1)) (hd:a'.defers=a.defers) (hs:a'.tmps.size=a.tmps.size):St e.B (freshB W') N (src.filterMap λ k=>Γ[k]?) [] a' W':=by
 have hD:∀ T∈e.Db,T ∉ [30,31,98,99,U32,28,101]:=dm ok.Db
 have key:∀ {deps:List TypeId},deps.all (λ T=>[30,31,98,99,U32,28,101].contains T)=true→offD ([]++[3]++e.Db) deps=true:=λ {deps} hd=>qd.2 λ T hT=>by
  have hd':=qd.1 hd T hT
  have hm:T∈[30,31,98,99,U32,28,101]:=by simpa using hd'
  have hn:T ∉ []++[3]++e.Db:=λ hh=>by
   rcases qm.1 hh with hh | hh
   ·have:T=3:=by simpa using hh
    subst this
    exact absurd hm zd
   ·refine hD T hh ?_
    simp only [qn,z9,or_false] at hm ⊢
    rcases hm with h | h | h | h | h | h | h <;> simp [h]
  simpa using hn
 refine h.anew (Tc:=[]) src hnd hk ok.lo (λ g hg=>by cases hg) (λ g hg=>by cases hg) (qd.2 λ k hk=>?_) ha hd hs
 have:=qd.1 hsrc k hk
 cases hy:Γ[k]? with
 | none=>rw [hy] at this; cases this
 | some y=>rw [hy] at this; exact key this
set_option maxHeartbeats 4000000 in
theorem dn_walk {e:DnE}(ok:e.Ok){f i:Nat}(ih:∀ f',f'+1=f→∀ i,DnC e f' i):DnC e f i:=by
 intro pre k wE q vr hpl hif hpp hpk hkM hJ hF hq hql hqi hvr
 obtain ⟨hlt,hsx,hel⟩:=dn_s ok (i:=i) zo
 have htg:okX e.t.tg=true:=(hd_b (de ok.ck).1).2.2.2.2
 have hn12:=dn_n ok
 have hsl:=ok.n
 obtain ⟨m,hme⟩:∃ m,prodQ (benP e.t pre)=m:=⟨_,rfl⟩
 have hbw0:=gc (benP e.t pre) (spE (e.t.sp.getD pre.length rf0))
 rw [hme] at hvr hbw0
 have hm:RepM (dnK i) m:=by rw [← hme,← hpl]; exact dn_m ok zo hpp
 have hKb:dnK i≤200000:=dn_K ok zo
 have hBw:e.B≤wE.heap.size:=by have:=(Array.getElem?_eq_some_iff.1 hq).1; have:=ok.lo; have:=ok.hp; omega
 obtain ⟨hco1,hco2⟩:=cosW_b ok.ck hpp
 obtain ⟨B,hBe⟩:∃ B,e.B=B:=⟨_,rfl⟩
 have hKi:dnK (i+1)=dnK i+4097+4097:=by unfold dnK; omega
 obtain ⟨K,hK⟩:∃ K,dnK i=K:=⟨_,rfl⟩
 rw [hK] at hvr hm hKb hKi
 have hxe:e.t.sp.getD pre.length rf0=e.t.sp[i]:=by rw [hpl]; simp [List.getD,hlt]
 obtain ⟨x,hx⟩:∃ x,e.t.sp[i]=x:=⟨_,rfl⟩
 rw [hx] at hsx hel hxe
 rw [hxe] at hbw0
 obtain ⟨m1,hm1⟩:∃ m1,mulQ (elM (spE x)) m=m1:=⟨_,rfl⟩
 have hm1r:RepM (K+4097) m1:=by rw [← hm1]; exact dQ hel hm
 have hbw:prodQ (benW e.t pre)=m1:=by rw [← hm1,← hbw0]; unfold benW; rw [hxe]
 have hpw:powW e.t pre = -m1.c:=by unfold powW; rw [hbw]
 have haw:awaW e.t pre=if (-m1.c-toQ e.t.tg).num.sign<0 then -(-m1.c-toQ e.t.tg) else -m1.c-toQ e.t.tg:=by unfold awaW; rw [hpw]
 obtain ⟨F1,F2,F3,F4,F5⟩:=id hF
 rw [hBe] at F1 F2 F3 F4 F5 hvr hBw
 refine fR (R:=e.R f i k q wE) (B:=B) [In (i:Nat),In (cosW e.t pre),(CoA K m).va,ElP 30 (TkO e.t),ElP 31 (EqA (.slice (some ⟨e.hp,0,none⟩) e.n e.n)),ElP 98 (EqA (.func (.yield e.l) #[] #[])),ElP 31 (SlO 3 [] (e.ah.map λ (k:Nat)=>InA (k:Int)) True),ElP 99 (EqA (.func (.func 53) #[] e.cap.toArray))] Tryz.func53 G hBw (.cons (bm _ _ _ _) (.cons (bm _ _ _ _) (.cons hvr (.cons F1 (.cons F2 (.cons F3 (.cons F4 (.cons F5 .nil)))))))) nq (λ w0 a hw0 U=>?_)
 subst hw0
 obtain ⟨w,hw⟩:∃ w,w=wE:=⟨_,rfl⟩
 have U:St B (freshB wE) 92 [(0,_),(1,_),(2,_),(3,_),(4,_),(5,_),(6,_),(7,_)] [] a wE:=U
 refine qa<|zg [] [⟨10,101,ptrH,some 0,_,none⟩] [.alc 0,.v 11 _] [.g 0,.g 1,.g 3,.g 4,.g 5,.g 6,.g 7,.o 1] U (zW 2 G (zv G (a6 aH) o0)) (λ a w U=>?_)
 have U:St B (freshB wE) 92 [(0,_),(1,_),(3,_),(4,_),(5,_),(6,_),(7,_),(11,_)] [O 10 101 _] a w:=U
 refine a4<|wp_scope_straight ?_
 refine qa<|zgd [[],[0],[],[2],[],[2,3,4],[2,3,4,5],[],[7],[2,3,4,5,6,7,8],[0,1,2,3,4,5,6,7,8,9],[0,1,2,3,4,5,6,7,8,9,10],[0,1,2,3,4,5,6,7,8,9,10,11]] [some (12,_)] [] [.adr 15 10 (.some 0) True,.v 16 _,.v 17 _,.v 18 _,.v 19 _,.v 20 _,.v 21 _,.adr 22 10 (.some 4) True,.v 23 _,.v 24 _,.v 25 _,.adr 26 10 (.some 0) True,.sto 0] [.g 0,.g 1,.g 2,.g 3,.g 4,.g 5,.g 6,.g 7] a7 U (zO 0 G bL (zL 0 0 0 G ac (zv G (bj (gq 2 G) cw (Sub.part 0 G G)) (zv G (am (vq 2 G) gy) (zM 0 G (zv G (cn dM (cE λ _=>rfl) (aV (ao (vq 3 G))) (vq 4 G) (bI hlt)) (zv G (am (vq 5 G) ac) (zO 0 G bK (zL 7 0 1 G ac (zQ G ((cB (c:=2048) (d:=K) (x:=toQ x) (y:=m.c) zo).wk (.cons (bN (bA (qt (λ z=>(RFA z).va) hx)) (qa_x hsx (qf _)).va) (.cons ay .nil))) (.p (vq 6 G) (vq 8 G)) (zQ G (plus_q zo) (.p (vq 1 G) (vq 9 G)) (zO 0 G bL (oc (bS 11 G G G G zk (vq 10 G) ac (Put.part 0 G G G)) o0))))))))))))) zk zk zk zk (λ a w U=>?_)
 have U:St B (freshB wE) 92 [(0,_),(1,_),(3,_),(4,_),(5,_),(6,_),(7,_),(11,_)] [O 10 101 _] a w:=U
 have U:=St.wkL (A':=CoA (K+4097) m1) U 0 rfl (by rw [← hm1]; exact co_of (sp_mul x m).1 (sp_mul x m).2 (dQ hel hm))
 have U:St B (freshB wE) 92 [(0,_),(1,_),(3,_),(4,_),(5,_),(6,_),(7,_),(11,_)] [O 10 101 _] a w:=U
 refine zt<|qa<|zg [η] [] [.v 27 _,.v 28 _,.v 29 _,.v 30 _] [.g 0,.g 1,.g 2,.g 3,.g 4,.g 5,.g 6,.g 7,.o 3] U (zM 0 G (zv G (am (gq 3 G) eB) (zv G (r_lenQ Tryz.underlying31 (vq 1 G)) (zv G (bv (vq 0 G) (vq 2 G)) o0)))) (λ a w U=>?_)
 have U:St B (freshB wE) 92 [(0,_),(1,_),(3,_),(4,_),(5,_),(6,_),(7,_),(11,_),(30,_)] [O 10 101 _] a w:=U
 refine a4<|a9 U (zm 8 G) (λ hb0=>?_) (λ hb0=>?_)
 ·have hin:i=e.n:=by have h:((i:Nat):Int)=((e.n:Nat):Int):=eq_of_beq hb0; omega
  obtain rfl:f=0:=by omega
  have hc0:cntW e.t.ps.length e.ah.length 0 i=1:=rfl
  have hpk0:e.pk k=pre:=by have:=hpk 0 zo; simpa [exW] using this
  refine qa<|zgd [[],[],[1],[1,2],[],[0,1,2,3,4],[],[0,1,2,3,4,5,6]] [none] [⟨12,69,ptrH,some 6,_,some (7,_)⟩] [.v 31 _,.adr 32 10 (.some 4) True,.v 33 _,.v 34 _,.v 35 _,.v 36 _,.alc 1,.sto 1] [.g 0,.g 1,.g 2,.g 3,.g 4,.g 5,.g 6,.g 7] a7 U (zv G (am (gq 3 G) eB) (zO 0 G bK (zL 1 0 1 G ac (zQ G (e8 zo) (.o (vq 2 G)) (zM 1 G (zv G (aI (qs:=[(0,_),(1,_),(3,_)]) fk (.cons ⟨rfl,vq 0 rfl,rfl⟩ (.cons ⟨rfl,vq 3 rfl,rfl⟩ (.cons ⟨rfl,vq 4 rfl,rfl⟩ .nil)))) (zY G (Str.zero fk) (zS 5 G il o0)))))))) zk zk zk zk (λ a w U=>?_)
  have U:St B (freshB wE) 92 [(0,_),(1,_),(3,_),(4,_),(5,_),(6,_),(7,_),(11,_)] [O 10 101 _,O 12 69 _] a w:=U
  refine zt<|zg [η,some (6,_)] [] [.adr 37 12 (.some 1) True,.v 38 _,.v 39 _,.v 40 _,.v 41 _,.adr 42 12 (.some 5) True,.sto 1] [.g 0,.g 1,.g 2,.g 3,.g 4,.g 5,.g 6,.g 7] U (zO 1 G db (zL 0 1 1 G ac (zv G (bj (gq 2 G) hU (Sub.part 2 G G)) (zv G (am (vq 2 G) ac) (zQ G ((fB (c:=K+4097) (d:=2048) (x := -m1.c) (y:=toQ e.t.tg) zo).wk (.cons ay (.cons (qa_x htg (qf _)).va .nil))) (.p (vq 1 G) (vq 3 G)) (zO 1 G dG (oc (bS 5 G G G G zk (vq 4 G) ac (Put.part 2 G G G)) o0))))))) (λ a w U=>?_)
  have U:St B (freshB wE) 92 [(0,_),(1,_),(3,_),(4,_),(5,_),(6,_),(7,_),(11,_)] [O 10 101 _,O 12 69 _] a w:=U
  refine zt<|qa<|zg [η,η] [] [.adr 43 12 (.some 5) True,.v 44 _,.v 45 _,.v 46 _] [.g 0,.g 1,.g 2,.g 3,.g 4,.g 5,.g 6,.g 7,.o 3] U (zO 1 G dG (zL 0 1 2 G ac (zQ G sign_q (.o (vq 1 G)) (zv G (aX (vq 2 G) a5) o0)))) (λ a w U=>?_)
  have U:St B (freshB wE) 92 [(0,_),(1,_),(3,_),(4,_),(5,_),(6,_),(7,_),(11,_),(46,_)] [O 10 101 _,O 12 69 _] a w:=U
  refine a4<|bG (λ a w =>  St B (freshB wE) 92 [(5,ElP 98 (EqA (.func (.yield e.l) #[] #[])))] [⟨10,101,ptrH,CoA (K+4097) m1⟩,⟨12,69,ptrH,cat [EqA (.slice (some ⟨e.hp,0,none⟩) e.n e.n),QA (K+4097) (powW e.t pre),QA (K+4097+2048+1) (awaW e.t pre),NumA .i64 (cosW e.t pre)]⟩] a w) U (zm 8 G) (λ hb1=>?_) (λ hb1=>?_) (λ a w U=>?_)
  ·refine zg [η,some (4,_)] [] [.adr 47 12 (.some 5) True,.v 48 _,.v 49 _,.adr 50 12 (.some 5) True,.sto 1] [.g 0,.g 1,.g 2,.g 3,.g 4,.g 5,.g 6,.g 7] U (zO 1 G dG (zL 0 1 2 G ac (zQ G (e8 zo) (.o (vq 1 G)) (zO 1 G dG (oc (bS 3 G G G G zk (vq 2 G) ac (Put.part 2 G G G)) o0))))) (λ a w U=>?_)
   have U:St B (freshB wE) 92 [(0,_),(1,_),(3,_),(4,_),(5,_),(6,_),(7,_),(11,_)] [O 10 101 _,O 12 69 _] a w:=U
   refine a4 ?_
   have U:=St.sel U [4]
   rw [hpw,haw,ql (qo hb1)]; exact U
  ·refine qk<|a4 ?_
   have U:=St.sel U [4]
   rw [hpw,haw,qj (qx hb1)]; exact U
  refine zt<|wide_of ?_
  refine go_headF (sp:=[.v 51 _,.v 52 _,.v 53 VT,.v 11 VT]) 2 2 99 2 OneC [.g 0,.o 0,.o 1] zk (dn λ _ _ h=>h) U (zv G (am (gq 0 G) ty_98) (zl 1 G il o0)) G zd zk zk (λ a w U=>?_)
  have U:St B (freshB wE) 92 [(5,_),(51,_),(52,_)] [O 10 101 _,O 12 69 _] a w:=U
  rw [show List.range' 2 2=[2,3] from rfl]
  have hgw:=aR U.base
  have e51:=fJ (U.vals (51,_) (zm 1 rfl))
  have hqe:q=pre.map (λ (x:Nat)=>(x:Int)):=by rw [← hqi,qE zo]
  have hway:(WyA (dnK (e.n+2)+4200) (wayW e.t (e.pk k))).va.p e.B (a.eval (.tmp 52)) w:=by rw [hBe,hpk0]; exact way_va (U.vals (52,_) (zm 2 rfl)) (by rw [← hqe]; exact d3 hq hgw) (by rw [qc]; omega) zo (aU (by rw [← hK]; unfold dnK; omega)) (aU (by rw [← hK]; unfold dnK; omega))
  rw [wpOpsIn_cons]
  refine op_yieldP (xs:=[.tmp 52]) G e51 (ok.yd k w [a.eval (.tmp 52)] zo (ok.grow zo hJ hgw) (.cons hway .nil)) (λ x w3 hR3=>?_)
  rcases hR3 with ⟨rfl,hJ3,hs3⟩ | ⟨rfl,hx3,hsz3,_⟩
  ·refine ⟨_,rfl,?_⟩
   have U:=(St.bare U rfl hs3.size).addV (d:=53) (v:=.bool true) (A:=Bo true) zd zk zk (co _ _ _)
   rw [wpOpsIn_cons]
   refine op_asgF (b:=true) G (cq (U.vals (53,_) (zm 0 G))) ?_
   refine fZ ?_
   have U:=U.addV (d:=11) (v:=.bool true) (A:=Bo true) zd zk zk (co _ _ _)
   have hR:e.R 0 i k q wE (.returned (.bool true)) w3:=.inl ⟨rfl,hJ3,d9 (kd_of hgw) (kd_stp0 hs3),q,pk_stp hs3 ok.hp.1 ok.hp.2 (d3 hq hgw),hql,rfl⟩
   refine a4<|qe<|ab ?_
   refine fq ?_
   exact dn_ret G U G (zm 0 G) hR (λ x w1 w2=>DnE.R.grow ok hkM)
  ·refine ⟨_,rfl,?_⟩
   have U:=(St.bare U rfl hsz3).addV (d:=53) (v:=.bool false) (A:=Bo false) zd zk zk (co _ _ _)
   rw [wpOpsIn_cons]
   refine op_asgF (b:=false) G (cq (U.vals (53,_) (zm 0 G))) ?_
   refine fZ ?_
   have U:=U.addV (d:=11) (v:=.bool false) (A:=Bo false) zd zk zk (co _ _ _)
   have hR:e.R 0 i k q wE (.returned (.bool false)) w3:=.inr ⟨rfl,hx3,qg hgw.size hsz3⟩
   refine a4<|qe<|ab ?_
   refine fq ?_
   exact dn_ret G U G (zm 0 G) hR (λ x w1 w2=>DnE.R.grow ok hkM)
 ·have hin:i≠e.n:=λ h=>by rw [h] at hb0; simp at hb0
  obtain ⟨f,rfl⟩:∃ f0,f=f0+1:=⟨f-1,by omega⟩
  have hlen64:=(hd_b (de ok.ck).1).2.2.2.1
  refine qk<|zt<|wp_label<|zt<|qa ?_
  have U:=St.ofPtr U 0 rfl
  have U:St B (freshB wE) 92 [(10,_),(0,_),(1,_),(3,_),(4,_),(5,_),(6,_),(7,_),(11,_),(30,_)] [] a w:=U
  refine zh [.v 54 _,.v 55 _,.v 56 _,.v 57 _] [.g 0,.g 1,.g 2,.g 3,.g 4,.g 5,.g 6,.g 7,.g 8,.o 1,.o 2,.o 3] U (zv G (bj (gq 3 G) cd (Sub.part 1 G G)) (zv G (am (vq 0 G) fU) (zv G (bn Tryz.underlying23 (aV (ao (vq 1 G)))) (zv G (a8 a5) o0)))) (λ a w U=>?_)
  have U:St B (freshB wE) 92 [(10,_),(0,_),(1,_),(3,_),(4,_),(5,_),(6,_),(7,_),(11,_),(55,_),(56,_),(57,_)] [] a w:=U
  refine a4<|qq ?_
  have U:=St.sel U [1,2,3,4,5,6,7,0,9,10,11]
  refine wp_loop_ghost (λ n a w=>∃ (j:Nat) (W1:World) (q1:List Int),(n+j=e.t.ps.length∧e.J (k+dnD e f i j) W1∧KD e.B e.lo e.hi [3] e.Db [] wE W1∧PkR 3 e.hp W1 q1∧q1.length=e.n∧q1.take i=q.take i)∧St B (freshB W1) 92 [(0,In (i:Nat)),(1,In (cosW e.t pre)),(3,ElP 30 (TkO e.t)),(4,ElP 31 (EqA (.slice (some ⟨e.hp,0,none⟩) e.n e.n))),(5,ElP 98 (EqA (.func (.yield e.l) #[] #[]))),(6,ElP 31 (SlO 3 [] (e.ah.map λ (k:Nat)=>InA (k:Int)) True)),(7,ElP 99 (EqA (.func (.func 53) #[] e.cap.toArray))),(10,ElP 101 (CoA (K+4097) m1)),(55,(SlO 56 [U32] (e.t.ps.map PtA) True).va),(56,In (e.t.ps.length:Nat)),(57,In (j:Nat))] [] a w) (e.t.ps.length) ?_ ?_
  ·rw [qc] at U
   exact ⟨0,wE,q,⟨by omega,by rw [dnD_0]; exact hJ,kd_refl,hq,hql,rfl⟩,U⟩
  intro n a w hI
  obtain ⟨j,W1,q1,⟨hn,hJ1,hkd,hq1,hql1,hqt⟩,U⟩:=hI
  refine qa<|zh [.v 58 _] [.g 0,.g 1,.g 2,.g 3,.g 4,.g 5,.g 6,.g 7,.g 8,.g 9,.g 10,.o 0] U (zv G (aX (gq 10 G) (gq 9 G)) o0) (λ a w U=>?_)
  have U:St B (freshB W1) 92 [(0,_),(1,_),(3,_),(4,_),(5,_),(6,_),(7,_),(10,_),(55,_),(56,_),(57,_),(58,_)] [] a w:=U
  refine zt<|a9 U (zm 11 G) (λ hb2=>?_) (λ hb2=>?_)
  ·have hj:j<e.t.ps.length:=by have:=qo hb2; omega
   have hpj:e.t.ps.getD j ⟨⟨#[]⟩,⟨0,rf0,rf0⟩,0⟩=e.t.ps[j]:=by simp [List.getD,hj]
   have hpe:elF e.t.ps[j].e=true:=by rw [← hpj]; exact dn_p ok.ck hj
   have hpc:=cosW_b ok.ck (l:=[j]) (λ y hy=>by rw [qD.1 hy]; exact hj)
   rw [show cosW e.t [j]=e.t.ps[j].c from by unfold cosW; rw [qF,xD,zP,List.sum_nil,hpj,xE]] at hpc
   obtain ⟨hpc1,hpc2⟩:=hpc
   refine qk<|zt<|qq<|qa<|zg [] [⟨14,56,ptrH,some 3,_,some (5,_)⟩] [.v 59 _,.v 60 _,.v 61 _,.alc 0,.v 13 _,.sto 0] [.g 0,.g 1,.g 2,.g 3,.g 4,.g 5,.g 6,.g 7,.g 8,.g 9,.g 10,.o 4] U (zM 10 G (zv G (cn sl_23 (cE λ _=>rfl) (aV (ao (gq 8 G))) (gq 10 G) (bI hj)) (zv G (am (vq 1 G) ty_56) (zY G (Str.zero eW) (zA 0 G (zS 2 G ty_56 o0)))))) (λ a w U=>?_)
   have U:St B (freshB W1) 92 [(0,_),(1,_),(3,_),(4,_),(5,_),(6,_),(7,_),(10,_),(55,_),(56,_),(57,_),(13,_)] [O 14 56 _] a w:=U
   have U:=St.ofPtr U 0 rfl
   have U:St B (freshB W1) 92 [(14,_),(0,_),(1,_),(3,_),(4,_),(5,_),(6,_),(7,_),(10,_),(55,_),(56,_),(57,_),(13,_)] [] a w:=U
   refine zt<|qa<|zh [.v 62 _,.v 63 _,.v 64 _,.v 65 _,.v 66 _,.t 67 _,.t 68 _,.t 69 _,.t 70 _,.t 71 _,.t 72 _,.v 73 _] [.g 0,.g 1,.g 2,.g 3,.g 4,.g 5,.g 6,.g 7,.g 8,.g 9,.g 10,.g 11,.g 12,.o 11] U (zM 1 G (zv G (am (gq 6 G) eB) (zv G (bn Tryz.underlying31 (aV (ao (vq 1 G)))) (zv G (aX (vq 0 G) (vq 2 G)) (zv G (a8 (vq 3 G)) (zB 4 G (λ hg=>a8 (gq 12 G)) (zB 4 G (λ hg=>am (gq 6 G) eB) (zB 4 G (λ hg=>a8 (gq 1 G)) (zB 4 G (λ hg=>cn eT (cE λ _=>rfl) (aV (ao (aa (vq 6 G) hg))) (aa (vq 7 G) hg) (ah_at (by have:=qo hg; simp only [qc] at this; omega))) (zB 4 G (λ hg=>am (aa (vq 8 G) hg) ty_3) (zB 4 G (λ hg=>bz (aa (vq 5 G) hg) (aa (vq 9 G) hg)) (zv G (bF (vq 4 G) (vq 10 G)) o0)))))))))))) (λ a w U=>?_)
   have U:St B (freshB W1) 92 [(14,_),(0,_),(1,_),(3,_),(4,_),(5,_),(6,_),(7,_),(10,_),(55,_),(56,_),(57,_),(13,_),(73,_)] [] a w:=U
   refine a4<|a9 U (zm 13 G) (λ hb3=>?_) (λ hb3=>?_)
   ·have hsk:i<e.ah.length∧e.ah.getD i 0≠j:=by
     simp only [qc,qh,qr,bne_iff_ne,ne_eq] at hb3
     exact ⟨by omega,by omega⟩
    refine za<|ak<|aC<|a4<|zh [.v 91 _,.v 57 _] [.g 0,.g 1,.g 2,.g 3,.g 4,.g 5,.g 6,.g 7,.g 8,.g 9,.g 10,.g 12,.o 1] U (zv G (aJ (gq 11 G) a5 ((wi64 zo zo).trans (by omega:(_:Int)=((j+1:Nat):Int)))) (zv G (a8 (vq 0 G)) o0)) (λ a w U=>?_)
    have U:St B (freshB W1) 92 [(14,_),(0,_),(1,_),(3,_),(4,_),(5,_),(6,_),(7,_),(10,_),(55,_),(56,_),(13,_),(57,_)] [] a w:=U
    refine a4 ?_
    have U:=St.sel U [1,2,3,4,5,6,7,8,9,10,12]
    exact ⟨n-1,by omega,j+1,W1,q1,⟨by omega,by rw [dnD_skip hsk.1 hsk.2]; exact hJ1,hkd,hq1,hql1,hqt⟩,U⟩
   ·have hgo:i<e.ah.length→e.ah.getD i 0=j:=λ h=>by
     simp only [qc,jI,qw,bne_eq_false_iff_eq] at hb3
     rcases hb3 with h1 | h1 <;> omega
    have hdl:=dnD_le (f:=f) hj hgo
    have hcp:0<cntW e.t.ps.length e.ah.length f (i+1):=cx zo _ _
    refine qk<|zt<|gU (sp:=[.v 74 _,.v 75 _,.v 76 _,.v 77 VT,.skp]) 3 2 99 3 OneC [.g 0,.g 1,.g 2,.g 3,.g 4,.g 5,.g 6,.g 7,.g 8,.g 9,.g 10,.g 11,.g 12,.o 0,.o 1,.o 2] U (zv G (am (gq 4 G) eB) (zM 1 G (zM 12 G o0))) G zd zk zk (λ a w U=>?_)
    have U:St B (freshB W1) 92 [(14,_),(0,_),(1,_),(3,_),(4,_),(5,_),(6,_),(7,_),(10,_),(55,_),(56,_),(57,_),(13,_),(74,_),(75,_),(76,_)] [] a w:=U
    rw [show List.range' 3 2=[3,4] from rfl]
    have hgw:=aR U.base
    have hJw:=ok.grow zo hJ1 hgw
    have hq2:=d3 hq1 hgw
    have U:=St.wkG U 13 rfl eqa_v
    rw [qX]
    refine op_idxS 13 14 G U eT zd G G zo zd zk zk (λ a U=>?_)
    have e77:=U.vals (77,_) (zm 0 rfl)
    have e77:a.eval (.tmp 77)=.pointer (some ⟨e.hp,i,none⟩):=by rw [← zF i]; exact e77
    rw [qX]
    refine op_stoH (q:=q1) (k:=(j:Nat)) G e77 (aL (U.vals (76,_) (zm 16 G))) hq2 zo ty_3 (λ W2 hq3 hwr=>?_)
    refine wpOps_sH ?_
    have hsv:StpV e.lo e.hi [3] e.gs w W2:=iW hwr hq2 ok.hp.1 ok.hp.2 zd
    have hkd0:KD e.B e.lo e.hi [3] e.Db [] w W2:=kd_stpV (iW hwr hq2 ok.hp.1 ok.hp.2 zd)
    have hJ2:e.J (k+dnD e f i j) W2:=ok.st _ _ _ zo hJw hsv (cells_wr (ok.ct _ _ hJw) hwr hq2 zd)
    have hkd2:=d9 (d9 hkd (kd_of hgw)) hkd0
    have hloB:B≤e.lo:=by rw [← hBe]; exact ok.lo
    have U:=St.anew (Tp:=[3]) (Db:=[]) (Tc:=[]) (gs:=[]) (lo:=e.lo) (hi:=e.hi) (a':=a) [1,2,3,4,5,6,7,8,9,10,11,12,13] U rfl (kd_stpV (iW hwr hq2 ok.hp.1 ok.hp.2 zd)) hloB (λ _ h=>by cases h) (λ _ h=>by cases h) zk (λ _ _ _ _=>rfl) rfl rfl
    have U:St B (freshB W2) 92 [(14,_),(0,_),(1,_),(3,_),(4,_),(5,_),(6,_),(7,_),(10,_),(55,_),(56,_),(57,_),(13,_)] [] _ W2:=U
    refine zt<|go_headD (sp:=[.v 78 _,.v 79 _,.v 80 _,.v 81 _,.v 82 _,.v 83 _,.v 84 _,.v 85 _,.v 86 _,.v 87 _,.v 88 _,.v 89 VT,.v 90 VT]) [[],[],[1],[],[],[4],[3,4,5],[],[7],[],[7,8,9],[0,1,2,3,4,5,6,7,8,9,10],[0,1,2,3,4,5,6,7,8,9,10,11]] 11 2 99 11 OneC [.g 0,.g 1,.g 2,.g 3,.g 4,.g 5,.g 6,.g 7,.g 8,.g 9,.g 10,.g 11,.g 12,.o 0,.o 2,.o 6,.o 10] a7 U (zv G (am (gq 7 G) ty_99) (zM 1 G (zv G (aJ (vq 1 G) a5 ((wi64 zo zo).trans (by omega:(_:Int)=((i+1:Nat):Int)))) (zM 2 G (zv G (bj (gq 0 G) gZ (Sub.part 2 G G)) (zv G (am (vq 4 G) ty_3) (zv G (aJ (vq 3 G) (vq 5 G) ((wi64 (by simp only [zE] at hpc2; omega) (by simp only [zE] at hpc2; omega)))) (zv G (bj (gq 0 G) f9 (Sub.part 1 G G)) (zv G (am (vq 7 G) eA) (zv G (am (gq 8 G) ty_101) (zQ G (through_q (x:=e.t.ps[j].e) (b:=K+4097) (m:=m1) hpe hm1r zo) (.p (vq 8 G) (vq 9 G)) o0))))))))))) G zd zd zk (anc_all zk) zk zk (λ a w U=>?_)
    have U:St B (freshB W2) 92 [(14,_),(0,_),(1,_),(3,_),(4,_),(5,_),(6,_),(7,_),(10,_),(55,_),(56,_),(57,_),(13,_),(78,_),(80,_),(84,_),(88,_)] [] a w:=U
    rw [show List.range' 11 2=[11,12] from rfl]
    have hgw2:=aR U.base
    have e78:=fJ (U.vals (78,_) (zm 13 rfl))
    have e80:=aL (U.vals (80,_) (zm 14 rfl))
    have e84:=aL (U.vals (84,_) (zm 15 rfl))
    have hvr2:=(U.vals (88,_) (zm 16 rfl))
    have hl2:(pre++[j]).length=i+1:=by rw [qy,hpl]; rfl
    have hmem2:∀ y∈pre++[j],y<e.t.ps.length:=λ y hy=>by
     rcases qm.1 hy with hy | hy
     ·exact hpp y hy
     ·rw [qD.1 hy]; exact hj
    have hqt2:(q1.set i (j:Int)).take (i+1)=(pre++[j]).map (λ (y:Nat)=>(y:Int)):=by
     rw [gB (hqt.trans hqi) zo,zx]; rfl
    have hm2:prodQ (benP e.t (pre++[j]))=mulQ (elM e.t.ps[j].e) m1:=by rw [prodP_snoc,hpj,hbw]
    have hc2:cosW e.t (pre++[j])=cosW e.t pre+e.t.ps[j].c:=by rw [cos_snoc,hpj]
    have hcall:=ih f rfl (i+1) (pre++[j]) (k+dnD e f i j) w (q1.set i (j:Int)) (a.eval (.tmp 88)) hl2 zo hmem2 (dn_pk hpk hj hgo) zo (ok.grow zo hJ2 hgw2) ((hF.kd ok hkd2).grow hgw2) (d3 hq3 hgw2) (by rw [xz]; exact hql1) hqt2 (by rw [hBe,hm2,hKi]; exact hvr2)
    rw [qX]
    refine op_callF (f:=53) (xs:=[.tmp 80,.tmp 84,.tmp 88]) (gs:=e.cap) G ⟨_,Tryz.func53,by kernel_rfl,by kernel_rfl⟩ e78 (by rw [hc2] at hcall; rw [show [Operand.tmp 80,.tmp 84,.tmp 88].map a.eval=[a.eval (.tmp 80),a.eval (.tmp 84),a.eval (.tmp 88)] from rfl,e80,e84]; exact hcall) (λ x w3 hR3=>?_)
    rcases hR3 with ⟨rfl,hJ3,hkd3,q3,hq4,hql4,hqt4⟩ | ⟨rfl,hx3,hsz3⟩
    ·refine ⟨_,rfl,?_⟩
     have U:=St.anewD (a':=a) ok [1,2,3,4,5,6,7,8,9,10,11] (by rw [hBe]; exact U) rfl hkd3 zk (λ _ _ _ _=>rfl) rfl rfl
     rw [hBe] at U
     have U:=U.addV (d:=89) (v:=.bool true) (A:=Bo true) zd zk zk (co _ _ _)
     rw [qX]
     refine fX (A:=Bo false) (v:=.bool false) G U zd zk zk (not_op _ _ _ (cq (U.vals (89,_) (zm 0 G)))) (co _ _ _) (λ U=>?_)
     refine cY ?_
     have U:St B (freshB w3) 92 [(90,_),(89,_),(0,_),(1,_),(3,_),(4,_),(5,_),(6,_),(7,_),(10,_),(55,_),(56,_),(57,_)] [] _ w3:=U
     have hkd4:=d9 (d9 hkd2 (kd_of hgw2)) hkd3
     have hqt5:q3.take i=q.take i:=by
      rw [← hqt,show q3.take i=(q3.take (i+1)).take i by rw [js,xf zo],hqt4,js,xf zo,jP zo]
     have hJ4:e.J (k+dnD e f i (j+1)) w3:=by rw [dnD_go hgo,← jx]; exact hJ3
     refine a4<|a9 U (zm 0 G) (λ hb4=>?_) (λ hb4=>?_)
     ·cases hb4
     ·refine qk<|al ?_
      refine a4<|zh [.v 91 _,.v 57 _] [.g 2,.g 3,.g 4,.g 5,.g 6,.g 7,.g 8,.g 9,.g 10,.g 11,.o 1] U (zv G (aJ (gq 12 G) a5 ((wi64 zo zo).trans (by omega:(_:Int)=((j+1:Nat):Int)))) (zv G (a8 (vq 0 G)) o0)) (λ a w U=>?_)
      have U:St B (freshB w3) 92 [(0,_),(1,_),(3,_),(4,_),(5,_),(6,_),(7,_),(10,_),(55,_),(56,_),(57,_)] [] a w:=U
      refine a4 ?_
      have U:=St.sel U [0,1,2,3,4,5,6,7,8,9,10]
      exact ⟨n-1,by omega,j+1,w3,q3,⟨by omega,hJ4,hkd4,hq4,hql4,hqt5⟩,U⟩
    ·refine ⟨_,rfl,?_⟩
     have U:=St.bare (w':=w3) U rfl hsz3
     have U:=U.addV (d:=89) (v:=.bool false) (A:=Bo false) zd zk zk (co _ _ _)
     rw [qX]
     refine fX (A:=Bo true) (v:=.bool true) G U zd zk zk (not_op _ _ _ (cq (U.vals (89,_) (zm 0 G)))) (co _ _ _) (λ U=>?_)
     refine cY ?_
     refine a4<|a9 U (zm 0 G) (λ hb5=>?_) (λ hb5=>?_)
     ·refine qa<|zh [.v 11 _] [.o 0] U (zv G (a6 aH) o0) (λ a w U=>?_)
      have U:St B (freshB w3) 92 [(11,_)] [] a w:=U
      have hR:e.R (f+1) i k q wE (.returned (.bool false)) w:=.inr ⟨rfl,ok.growx hx3 (aR U.base),qg (qg (d9 hkd2 (kd_of (lo:=e.lo) (hi:=e.hi) hgw2)).size hsz3) (aR U.base).size⟩
      refine a4<|qe<|aD ?_
      refine ab ?_
      refine ab ?_
      refine aD ?_
      refine ab ?_
      refine fq ?_
      exact dn_ret G U G (zm 0 G) hR (λ x w1 w2=>DnE.R.grow ok hkM)
     ·cases hb5
  ·obtain rfl:j=e.t.ps.length:=by have:=qx hb2; omega
   refine za<|ak<|ak<|aC<|zt<|zh [.v 11 _] [.g 0,.g 1,.g 2,.g 3,.g 4,.g 5,.g 6,.g 7,.g 8,.g 9,.g 10,.o 0] U (zv G (a6 aH) o0) (λ a w U=>?_)
   have U:St B (freshB W1) 92 [(0,_),(1,_),(3,_),(4,_),(5,_),(6,_),(7,_),(10,_),(55,_),(56,_),(57,_),(11,_)] [] a w:=U
   have hR:e.R (f+1) i k q wE (.returned (.bool true)) w:=.inl ⟨rfl,by rw [← dnD_end ok]; exact ok.grow (by rw [dnD_end ok]; omega) hJ1 (aR U.base),d9 hkd (kd_of (aR U.base)),q1,d3 hq1 (aR U.base),hql1,hqt⟩
   refine a4<|qe<|fq ?_
   exact dn_ret G U G (zm 11 G) hR (λ x w1 w2=>DnE.R.grow ok hkM)
theorem dn_goes {e:DnE}(ok:e.Ok):∀ f i,DnC e f i
 | 0,i=>dn_walk ok (λ f' h=>absurd h zo)
 | f+1,i=>dn_walk ok (λ f' h i'=>by
  obtain rfl:f'=f:=by omega
  exact dn_goes ok f' i')
theorem zero_si:Zero Tryz.prog 31 (EqA (.slice none 0 0)):=Zero.of (z:=.slice none 0 0) zk (λ _ _=>⟨rfl,rfl⟩)
theorem zero_dt:Zero Tryz.prog 99 (EqA .nilFunc):=Zero.of (z:=.nilFunc) zk (λ _ _=>⟨rfl,rfl⟩)
def bothV (A A':VA):VA where
 p B v w:=A.p B v w∧A'.p B v w
 deps:=A.deps++A'.deps
 cg:=λ B v w w' hg h=>⟨A.cg _ _ _ _ hg h.1,A'.cg _ _ _ _ hg h.2⟩
 wr:=λ B v w w' g c T fz h1 hT h3 h4 h=>by
  simp only [qm,not_or] at hT
  exact ⟨A.wr _ _ _ _ _ _ _ _ h1 hT.1 h3 h4 h.1,A'.wr _ _ _ _ _ _ _ _ h1 hT.2 h3 h4 h.2⟩
theorem both_1 {A A':VA}:Wk (bothV A A') A:=λ _ _ _ h=>h.1
theorem both_2 {A A':VA}:Wk (bothV A A') A':=λ _ _ _ h=>h.2
theorem wk_eqA (h:v.oneCell'=true):Wk (EqV v) (EqA v).va:=λ B u w e=>by
 have e':u=v:=e
 rw [e']
 exact ii h
theorem elp_of {B g:Nat}{A:As}(h:w.heap[g]?=some (.cells (List.toArray cs) T (0,0)))(hp:A.p B cs w):(ElP T A).p B (ptr g) w:=by
 refine ⟨g,0,cs,rfl,(Array.getElem?_eq_some_iff.1 h).1,.inr ⟨_,_,h⟩,hp,λ j v hv=>?_⟩
 rw [qC,cell_of_row w g j cs.toArray T _ h]
 simpa using hv
theorem kC {B N:Nat}(h:St B w0 N Γ Λ a w){s g:Nat}{A:As}(k j:Nat)(h1:Γ[k]?=some (s,EqV (ptr g)))(h2:Λ[j]?=some ⟨s,T,ptrH,A⟩):(ElP T A).p B (ptr g) w:=by
 obtain ⟨g',cs,e1,_,e3,e4⟩:=h.locs _ (qb h2)
 have e:a.eval (.tmp s)=ptr g:=h.vals _ (qb h1)
 have e1':a.eval (.tmp s)=ptr g':=e1
 rw [← e,e1']
 exact elp_of e3 e4
theorem St.elpG {B N:Nat}(h:St B w0 N Γ Λ a w){s:Nat}{A:VA}(k:Nat)(h1:Γ[k]?=some (s,EqV v))(hA:A.p B v w):St B w0 N (Γ.set k (s,A)) Λ a w:=by
 refine ⟨h.lo,h.defers,h.size,h.base,λ x hx=>?_,h.locs,h.dis⟩
 rcases qS hx with hx | rfl
 ·exact h.vals x hx
 ·have e:a.eval (.tmp s)=v:=h.vals _ (qb h1)
  show A.p B (a.eval (.tmp s)) w
  rw [e]
  exact hA
theorem St.here {B N:Nat}(h:St B w0 N Γ Λ a w)(hnd:w0.nd=true)(src:List Nat):St B (freshB w) N (src.filterMap λ k=>Γ[k]?) [] a w:=by
 refine ⟨λ g hg=>?_,DefOk.nil (h.defers.none hnd),h.size,Kept.refl _,λ x hx=>?_,(λ _ h=>by cases h),(λ _ h=>by cases h)⟩
 ·rcases hg with hg | hg
  ·exact qg (qg (h.lo _ (.inl (qf _))) h.base.size) hg
  ·exact hg.elim
 ·obtain ⟨k,_,hk2⟩:=q9.1 hx
  exact h.vals x (qb hk2)
theorem op_mkS {Q:Exit→Act→World→Prop}{B N:Nat}{ops:Array Oper}{i:Nat}{K:Act→World→Prop}{d u n:Nat}{S E T':TypeId}(ku:Nat)(ho:ops[i]?=some ⟨some d,.makeSlice S (.tmp u) (.tmp u),T',ps,af,none⟩)(h:St B w0 N Γ Λ a w)
  (hM:MakeOk P S E .i64) (hu:Γ[ku]?=some (u,In (n:Nat))) (hn:n≤17592186044416) (hd:d<N) (hΓ:Γ.all (λ x=>x.1 != d)=true) (hΛ:Λ.all (λ l=>l.s != d)=true)
  (hK:∀ a' w' hp,St B w0 N ((d,EqV (.slice (some ⟨hp,0,none⟩) n n))::Γ) Λ a' w'→PkR E hp w' (List.replicate n 0)→w.heap.size≤hp→Grow w w'→K a' w'):wpOp P ops Q i K a w:=by
 obtain ⟨h1,h2,h3,h4,h5⟩:=hM
 obtain ⟨it,hi,hz⟩:=xL.1 h2
 have hsz:it.size=1:=by rw [hi] at h3; simpa using h3
 have hby:=h5 it hi
 have hm:=run_make (P:=P) w S E it (.int .i64 0) h1 hi hz .i64 .i64 n n zo (Int.le_refl _) (by
  have:it.bytes*n≤8*n:=qP _ hby
  have h6:((it.bytes*n:Nat):Int)≤281474976710656:=by omega
  rwa [xg] at h6) zo
 have e1:a.eval (.tmp u)=.int .i64 (n:Nat):=aL (h.vals _ (qb hu))
 have hcells:madeCells (Value.int .i64 0).cells (n*it.size)=((List.replicate n 0).map λ (x:Int)=>Value.int .i64 x).toArray:=by
  rw [hsz,zF]
  apply xH
  intro j
  simp only [madeCells,Value.cells,x9]
  by_cases hj:j<n
  ·simp [hj,jK]
  ·simp [hj]
 simp only [zN] at hm
 rw [hcells] at hm
 have hg:Grow w (w.alloc (.cells ((List.replicate n 0).map λ (x:Int)=>Value.int .i64 x).toArray E)):=Grow.alloc _ _
 unfold wpOp
 simp only [ho,Region.wanted,if_true]
 exact .inl (ba (w':=w.alloc (.cells ((List.replicate n 0).map λ (x:Int)=>Value.int .i64 x).toArray E)) (v:=.slice (some ⟨w.heap.size,0,none⟩) n n) (by simp [execOp,e1,hm]) (hK _ _ w.heap.size ((h.growM hg).addV hd hΓ hΛ G) (heap_alloc_new w _) (qf _) hg))
theorem dn_ret0 {fn:Func}{R:Ending→World→Prop}{B N:Nat}(hr:fn.results = #[])(h:St B w0 N Γ Λ a w)(hnd:w0.nd=true)(hR:∀ v w1,Grow w w1→R (.returned v) w1):bPost P fn R .ret a w:=by
 refine ⟨[],h.defers.none hnd,.nil,(λ _ h=>by cases h),λ w' hs=>⟨_,results_none hr _ _ _,hR _ _ ⟨hs.os,hs.tape,hs.output,xN hs.size.symm,λ k _=>hs.block k (by simp)⟩⟩⟩
theorem mk_si:MakeOk Tryz.prog 31 3 .i64:=⟨by kernel_rfl,by kernel_rfl,by kernel_rfl,by kernel_rfl,λ it h=>by
 have h2:(Tryz.prog.info? 3).map (·.bytes)=some 8:=by kernel_rfl
 rw [h] at h2
 exact xN (Option.some.inj h2)⟩
set_option maxHeartbeats 2000000 in
theorem all1_it {t:RTk}{ah:List Nat}{nn:Nat}(hck:ckF t=0)(hnn:t.sp.length=nn+1)(hah:ah.length≤nn∧∀ x∈ah,x<t.ps.length):∀ gs,ItPg Tryz.prog 52 [(30,TkO t),(31,SlO 3 [] (ah.map λ (k:Nat)=>InA (k:Int)) True)] gs (λ k=>[(WyA (dnK (nn+2)+4200) (wayW t (exW t.ps.length ah nn 0 k))).va]) false (cntW t.ps.length ah.length nn 0) [30,31,98,99,U32,28,101] [3]:=by
 intro gs
 obtain ⟨hs2,hs13,_⟩:=hd_b (de hck).1
 refine ⟨⟨_,Tryz.func52,by kernel_rfl,by kernel_rfl⟩,λ l B wE Db J0 J Jx hB hgn hcaps hoff hIt hJ0=>?_⟩
 have hgb:=(cX hcaps).2
 obtain ⟨g0,g1,rfl,c1,c2⟩:=All2.two hcaps
 obtain ⟨hb0,cs0,hh0,hp0⟩:=c1
 obtain ⟨hb1,cs1,hh1,hp1⟩:=c2
 have hT:(ElP 30 (TkO t)).p B (ptr g0) wE:=elp_of hh0 hp0
 have hA:(ElP 31 (SlO 3 [] (ah.map λ (k:Nat)=>InA (k:Int)) True)).p B (ptr g1) wE:=elp_of hh1 hp1
 have hsz:wE.heap.size≤wE.heap.size:=qf _
 refine fR (B:=B) [EqV (.func (.yield l) #[] #[]),bothV (EqV (ptr g0)) (ElP 30 (TkO t)),EqV (ptr g1)] Tryz.func52 G hB (.cons G (.cons ⟨rfl,hT⟩ (.cons G .nil))) nq (λ w0 a hw0 U=>?_)
 subst hw0
 have U:St B (freshB wE) 15 [(0,_),(1,_),(2,_)] [] a wE:=U
 refine qa<|zg [] [⟨3,98,ptrH,some 0,_,none⟩] [.alc 0] [.g 1,.g 2] U (oc (ob_box G G G (has_eqA G (gq 0 G))) o0) (λ a w U=>?_)
 have U:St B (freshB wE) 15 [(1,_),(2,_)] [O 3 98 _] a w:=U
 obtain ⟨q3,U⟩:=St.nm U 0 rfl
 have U:St B (freshB wE) 15 [(3,_),(1,_),(2,_)] [O 3 98 _] a w:=U
 have hY:=kC U 0 0 rfl rfl
 have hgr:=aR U.base
 have hT:=VA.grow _ _ _ _ _ hgr hT
 have hA:=VA.grow _ _ _ _ _ hgr hA
 have hJ0:=hIt.st0 _ _ hJ0 (bZ hgr) ((hIt.ct0 _ hJ0).grow hgr)
 have hsz:=qg hsz hgr.size
 have U:=U.here rfl [0,1,2]
 obtain ⟨w1,rfl⟩:∃ x,x=w:=⟨_,rfl⟩
 have U:St B (freshB w1) 15 [(3,_),(1,_),(2,_)] [] _ w1:=U
 refine zt<|gU (sp:=[.v 6 _,.v 7 _,.skp,.skp,.skp]) 2 3 99 2 OneC [.g 0,.g 1,.g 2,.o 1] U (zv G (am (has_wk' (gq 1 G) both_2) cS) (zQ G ((gF t).wk (.cons tko_A.va .nil)) (.o (vq 0 G)) o0)) G zd zk zk (λ a w U=>?_)
 have U:St B (freshB w1) 15 [(3,_),(1,_),(2,_),(7,_)] [] a w:=U
 rw [show List.range' 2 3=[2,3,4] from rfl]
 have U:=St.wkG U 1 rfl both_1
 have U:St B (freshB w1) 15 [(3,_),(1,_),(2,_),(7,_)] [] a w:=U
 rw [qX]
 rw [slo_e hs2 hs13,show t.sp.length-1=nn by omega] at U
 have hsz1:=qg hsz (aR U.base).size
 refine op_mkS (n:=nn) 3 G U mk_si G zo zd zk zk (λ a W hp U hqp hge hgp=>?_)
 obtain ⟨w,rfl⟩:∃ x,x=W:=⟨_,rfl⟩
 have U:St B (freshB w1) 15 [(8,_),(3,_),(1,_),(2,_),(7,_)] [] a w:=U
 have hloh:wE.heap.size≤hp:=qg hsz1 hge
 have hgr:=aR U.base
 have hT:=VA.grow _ _ _ _ _ hgr hT
 have hA:=VA.grow _ _ _ _ _ hgr hA
 have hY:=VA.grow _ _ _ _ _ hgr hY
 have hJ0:=hIt.st0 _ _ hJ0 (bZ hgr) ((hIt.ct0 _ hJ0).grow hgr)
 have hsz:=qg hsz hgr.size
 have U:=U.here rfl [0,1,2,3,4]
 obtain ⟨w2,rfl⟩:∃ x,x=w:=⟨_,rfl⟩
 have U:St B (freshB w2) 15 [(8,_),(3,_),(1,_),(2,_),(7,_)] [] _ w2:=U
 have U:=St.wkG U 0 rfl (wk_eqA rfl)
 have U:St B (freshB w2) 15 [(8,_),(3,_),(1,_),(2,_),(7,_)] [] _ w2:=U
 refine op_newS 0 [1,2,3] G G U zero_si G eB G zd zk zk zk (λ a w U=>?_)
 refine cY ?_
 have U:St B (freshB w2) 15 [(3,_),(1,_),(2,_)] [O 4 31 _] a w:=U
 obtain ⟨q4,U⟩:=St.nm U 0 rfl
 have U:St B (freshB w2) 15 [(4,_),(3,_),(1,_),(2,_)] [O 4 31 _] a w:=U
 have hP:=kC U 0 0 rfl rfl
 have hqp:=d3 hqp (aR U.base)
 have hgr:=aR U.base
 have hT:=VA.grow _ _ _ _ _ hgr hT
 have hA:=VA.grow _ _ _ _ _ hgr hA
 have hY:=VA.grow _ _ _ _ _ hgr hY
 have hJ0:=hIt.st0 _ _ hJ0 (bZ hgr) ((hIt.ct0 _ hJ0).grow hgr)
 have hsz:=qg hsz hgr.size
 have U:=U.here rfl [0,1,2,3]
 obtain ⟨w3,rfl⟩:∃ x,x=w:=⟨_,rfl⟩
 have U:St B (freshB w3) 15 [(4,_),(3,_),(1,_),(2,_)] [] _ w3:=U
 refine zt<|zg [] [⟨5,99,ptrH,some 0,_,none⟩] [.alc 0] [.g 0,.g 1,.g 2,.g 3] U (zY G zero_dt o0) (λ a w U=>?_)
 have U:St B (freshB w3) 15 [(4,_),(3,_),(1,_),(2,_)] [O 5 99 _] a w:=U
 obtain ⟨q5,U⟩:=St.nm U 0 rfl
 have U:St B (freshB w3) 15 [(5,_),(4,_),(3,_),(1,_),(2,_)] [O 5 99 _] a w:=U
 refine zt<|zg [some (1,_)] [] [.v 9 _,.sto 0] [.g 0,.g 1,.g 2,.g 3,.g 4] U (zv G (c9 (vs:=[ptr g0,ptr q4,ptr q3,ptr g1,ptr q5]) (.cons (gq 3 G) (.cons (gq 1 G) (.cons (gq 2 G) (.p (gq 4 G) (gq 0 G)))))) (zS 0 G ty_99 o0)) (λ a w U=>?_)
 have U:St B (freshB w3) 15 [(5,_),(4,_),(3,_),(1,_),(2,_)] [O 5 99 _] a w:=U
 have hD:=kC U 0 0 rfl rfl
 have hqp:=d3 hqp (aR U.base)
 have hgr:=aR U.base
 have hT:=VA.grow _ _ _ _ _ hgr hT
 have hA:=VA.grow _ _ _ _ _ hgr hA
 have hY:=VA.grow _ _ _ _ _ hgr hY
 have hP:=VA.grow _ _ _ _ _ hgr hP
 have hJ0:=hIt.st0 _ _ hJ0 (bZ hgr) ((hIt.ct0 _ hJ0).grow hgr)
 have hsz:=qg hsz hgr.size
 have U:=U.here rfl [0,1,2,3,4]
 obtain ⟨w4,rfl⟩:∃ x,x=w:=⟨_,rfl⟩
 have U:St B (freshB w4) 15 [(5,_),(4,_),(3,_),(1,_),(2,_)] [] _ w4:=U
 have U:=St.elpG U 0 rfl hD
 have U:St B (freshB w4) 15 [(5,_),(4,_),(3,_),(1,_),(2,_)] [] _ w4:=U
 refine a4<|go_headD (sp:=[.v 10 _,.v 11 _,.v 12 _,.v 13 _,.skp]) [[],[],[1],[1,2],[0,1,2,3]] 4 1 99 4 OneC [.g 0,.g 1,.g 2,.g 3,.g 4,.o 0,.o 3] a7 U (zv G (am (gq 0 G) ty_99) (zQ G one_q .nil (zQ G ej .nil (zv G (aI (qs:=[(0,_),(1,_)]) str_ray (.cons ⟨rfl,vq 1 rfl,rfl⟩ (.cons ⟨rfl,vq 2 rfl,rfl⟩ .nil))) o0)))) G zd zd zk (anc_all zk) zk zk (λ a w U=>?_)
 have U:St B (freshB w4) 15 [(5,_),(4,_),(3,_),(1,_),(2,_),(10,_),(13,_)] [] a w:=U
 rw [show List.range' 4 1=[4] from rfl]
 have e10:=fJ (U.vals (10,_) (zm 5 rfl))
 have hvr:=(U.vals (13,_) (zm 6 rfl))
 have hqp:=d3 hqp (aR U.base)
 have hgr:=aR U.base
 have hT:=VA.grow _ _ _ _ _ hgr hT
 have hA:=VA.grow _ _ _ _ _ hgr hA
 have hY:=VA.grow _ _ _ _ _ hgr hY
 have hP:=VA.grow _ _ _ _ _ hgr hP
 have hD:=VA.grow _ _ _ _ _ hgr hD
 have hJ0:=hIt.st0 _ _ hJ0 (bZ hgr) ((hIt.ct0 _ hJ0).grow hgr)
 obtain ⟨hi,hhi⟩:∃ x,w.heap.size=x:=⟨_,rfl⟩
 have hlt:=(Array.getElem?_eq_some_iff.1 hqp).1
 have hJ1:=hIt.go hi w zo hJ0
 obtain ⟨e,he⟩:∃ e:DnE,e=⟨l,B,wE.heap.size,hi,hp,nn,g0,q4,q3,g1,q5,t,ah,Db,[g0,g1],cntW t.ps.length ah.length nn 0,J hi,Jx⟩:=⟨_,rfl⟩
 have ok:e.Ok:=by subst he; exact ⟨hB,hgb,⟨hloh,by show hp<hi; omega⟩,hck,by show t.sp.length=nn+1; omega,hah,rfl,hoff,λ k W W' hk hj hs hc=>hIt.st hi k W W' hk hj hs hc,λ W W' hj hs hc=>hIt.stM hi W W' hj hs hc,hIt.stx,hIt.ct hi,hIt.ctx,λ k W args hk hj ha=>hIt.yd hi k W args hk hj ha⟩
 have hcall:=dn_goes ok nn 0 [] 0 w (List.replicate nn 0) (a.eval (.tmp 13)) rfl (by subst he; exact qC _) (λ x hx=>by cases hx) (λ r hr=>by subst he; rw [qC]; rfl) (by subst he; rw [qC]; exact qf _) (by subst he; exact hJ1) (by subst he; exact ⟨hT,hP,hY,hA,hD⟩) (by subst he; exact hqp) (by subst he; exact xq) rfl (by have h1:=dn_m ok (l:=[]) (q7 _) (λ x hx=>by cases hx); subst he; exact (co_of rfl rfl h1).va _ _ _ hvr)
 rw [qX]
 refine op_callF (f:=53) (xs:=[.const (.int .i64 0),.const (.int .i64 0),.tmp 13]) (gs:=e.cap) G ⟨_,Tryz.func53,by kernel_rfl,by kernel_rfl⟩ (by subst he; exact e10) hcall (λ x w5 hR=>?_)
 have hR2:∃ b,x=.returned b∧w.heap.size≤w5.heap.size∧((∃ hi,J hi (cntW t.ps.length ah.length nn 0) w5)∨Jx w5):=by
  subst he
  rcases hR with ⟨h1,h2,h3,_⟩ | ⟨h1,h2,h3⟩
  ·exact ⟨_,h1,h3.size,.inl ⟨hi,by rw [qC] at h2; exact h2⟩⟩
  ·exact ⟨_,h1,h3,.inr h2⟩
 obtain ⟨b,hx,hsz5,hR3⟩:=hR2
 refine ⟨_,hx,?_⟩
 have U:=(St.bare U rfl hsz5).addV (d:=14) (v:=b) (A:=VT) zd zk zk trivial
 refine cY ?_
 refine eJ<|dn_ret0 G U G (λ v w6 hg6=>⟨v,rfl,?_⟩)
 rcases hR3 with ⟨hi,h1⟩ | h1
 ·exact .inl ⟨hi,hIt.stM hi _ _ h1 (bZ hg6) ((hIt.ct hi _ _ h1).grow hg6)⟩
 ·exact .inr (hIt.stx _ _ h1 (bZ hg6) ((hIt.ctx _ h1).grow hg6))
end Go.Proofs.YtlakjmncfooodaaGreat
