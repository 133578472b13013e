import Derived.Test.YtlakjmncfooodaaSnAq
set_option linter.all false
set_option maxRecDepth 100000
namespace Go.Proofs.Ytlakjmncfooodaa
open Go Go.RowKit
variable {w:World}{B:Nat}{a:Act}{v:Value}{T:TypeId}{w0:Bs}{Γ:List (Nat × VA)}{Λ:List Lc}{ps:String}{af:Array Edge}{vr:Value}{H:Hd}{cs:List Value}{w':World}{P:Program}{D:List TypeId}
theorem cK:Str Try.prog 59 [EqA (.slice none 0 0),RFA rf0,RFA rf0,NumA .i64 0] :=
 Str.of (z:=.agg #[.slice none 0 0,.bool false,.slice none 0 0,.bool false,.slice none 0 0,.bool false,.slice none 0 0,.bool false,.slice none 0 0,.int .i64 0]) zk Try.underlying59 zk λ B w=>⟨[[.slice none 0 0],[.bool false,.slice none 0 0,.bool false,.slice none 0 0],[.bool false,.slice none 0 0,.bool false,.slice none 0 0],[.int .i64 0]],rfl,.cons ⟨rfl,rfl⟩ (.cons (et B w) (.cons (et B w) (.cons rfl .nil)))⟩
theorem sp_mul (x:RF)(m:MQ):m.a+toQ x*m.c=(mulQ (elM (spE x)) m).a∧m.c=(mulQ (elM (spE x)) m).c:=by
 rw [thr_1 (x:=spE x) rfl]
 constructor
 ·show m.a+toQ x*m.c=1*m.a+toQ x*m.c
  rw [xB]
 ·show m.c=0*m.a+1*m.c
  rw [jv,xB,Rat.zero_add]
theorem fC {f:FuncId}{fn:Func}{c:Code}{R:Ending→World→Prop}(pre:List VA){args:List Value}(hf:P.funcs[f]?=some fn)(hb:fn.body=some c)(hB:B≤w.heap.size)(ha:All2 (λ (A:VA) v=>A.p B v w) pre args)(hn:pre.length≤fn.ntmps)
  (h:∀ (w0:Bs) (a:Act),w0=freshB w→St B w0 fn.ntmps (argΓ pre) [] a w→c.wp P (bPost P fn R) a w):Calls P f args.toArray w R:=bz hf hb (h _ _ rfl (St.entry hB ha hn))
section
open Rg
variable {P:Program} {Q:Exit→Act→World→Prop} {R:Rg} {B i:Nat} {w0:Bs}
theorem r_lenQ {x:Operand}{S E':TypeId}{A:Option Addr}{n c:Nat}(hS:P.underlying S=some (.slice E'))(hx:Has R B w0 i x (EqA (.slice A n c)).va):Wv P Q R B w0 i (.call ⟨.builtin .len,#[x],#[S]⟩) (In (n:Nat)) :=
 aK λ d T ps af gd a w av=>by
  have hv':a.eval x=.slice A n c:=fT (hx a w av)
  refine ⟨.int .i64 n,w,?_,Grow.refl w,br _ _ _ _⟩
  simp [execOp,resolve,invoke,builtin,hv',Builtin.len_,run_underlying hS,goInt]
end
theorem grow_stpV {lo hi:Nat}{Tp:List TypeId}{gs:List Nat}(h:Grow w w'):StpV lo hi Tp gs w w':=⟨h.os,h.tape,h.output,h.size,λ k hk _=>h.block k hk⟩
theorem bW {gs:List Nat}(h:Grow w w'):StpI gs w w':=⟨h.os,h.tape,h.output,h.size,λ k hk _=>h.block k hk⟩
theorem CellsT.grow {Tc:List TypeId}{gs:List Nat}(h:CellsT Tc gs w)(hg:Grow w w'):CellsT Tc gs w':=λ g hm=>by
 obtain ⟨c,T,fz,h1,h2⟩:=h g hm
 exact ⟨c,T,fz,hg.heap h1,h2⟩
theorem aL (h:Kept (freshB w) w'):Grow w w':=⟨h.os,h.tape,h.output,h.size,λ k hk=>h.block k hk (λ h=>h)⟩
theorem kd_of {B lo hi:Nat}{Tp Db:List TypeId}{gs:List Nat}(h:Grow w w'):KD B lo hi Tp Db gs w w':=kd_grow kd_refl h
theorem cL {E:TypeId}{hp:Nat}{q:List Int}(h:PkR E hp w q)(hg:Grow w w'):PkR E hp w' q:=hg.heap h
theorem DnE.F.grow {e:DnE}{w w':World}(h:e.F w)(hg:Grow w w'):e.F w':=by
 obtain ⟨h1,h2,h3,h4,h5⟩:=h
 exact ⟨VA.grow _ _ _ _ _ hg h1,VA.grow _ _ _ _ _ hg h2,VA.grow _ _ _ _ _ hg h3,VA.grow _ _ _ _ _ hg h4,VA.grow _ _ _ _ _ hg h5⟩
theorem DnE.Ok.grow {e:DnE}(ok:e.Ok){k:Nat}{w w':World}(hk:k≤e.M)(hJ:e.J k w)(hg:Grow w w'):e.J k w':=by
 have hc:=(ok.ct k w hJ).grow hg
 by_cases h:k=e.M
 ·rw [h] at hJ ⊢
  exact ok.stM _ _ hJ (bW hg) hc
 ·exact ok.st _ _ _ zo hJ (grow_stpV hg) hc
theorem DnE.Ok.growx {e:DnE}(ok:e.Ok)(hJ:e.Jx w)(hg:Grow w w'):e.Jx w':=ok.stx _ _ hJ (bW hg) ((ok.ctx w hJ).grow hg)
def DnE.R (e:DnE)(f i k:Nat)(q:List Int)(w:World):Ending→World→Prop:=λ x w' =>
 (x=.returned (.bool true)∧e.J (k+cntW e.t.ps.length e.ah.length f i) w'∧KD e.B e.lo e.hi [3] e.Db [] w w'∧∃ q',PkR 3 e.hp w' q'∧q'.length=e.n∧q'.take i=q.take i)∨(x=.returned (.bool false)∧e.Jx w'∧w.heap.size≤w'.heap.size)
theorem DnE.R.grow {e:DnE}(ok:e.Ok){f i k:Nat}{q:List Int}{w:World}{x:Ending}{w1 w2:World}(hk:k+cntW e.t.ps.length e.ah.length f i≤e.M)(h:e.R f i k q w x w1)(hg:Grow w1 w2):e.R f i k q w x w2:=by
 rcases h with ⟨h1,h2,h3,q',h4,h5⟩ | ⟨h1,h2,h3⟩
 ·exact .inl ⟨h1,ok.grow hk h2 hg,kd_grow h3 hg,q',cL h4 hg,h5⟩
 ·exact .inr ⟨h1,ok.growx h2 hg,qe h3 hg.size⟩
theorem St.bare {B N:Nat}(h:St B w0 N Γ Λ a w)(hnd:w0.nd=true)(hs:w.heap.size≤w'.heap.size):St B (freshB w') N [] [] a w':=by
 have hBW:B≤w.heap.size:=qe (h.lo _ (.inl (qf _))) h.base.size
 refine ⟨λ g hg=>?_,DefOk.nil (h.defers.none hnd),h.size,Kept.refl _,(λ _ h=>by cases h),(λ _ h=>by cases h),(λ _ h=>by cases h)⟩
 rcases hg with hg | hg
 ·exact qe hBW (qe hs hg)
 ·exact hg.elim
theorem St.ofPtr {B N:Nat}(h:St B w0 N Γ Λ a w){s:Nat}{A:As}(k:Nat)(hm:Λ[k]?=some ⟨s,T,ptrH,A⟩):St B w0 N ((s,ElP T A)::Γ) (Λ.eraseIdx k) a w:=by
 have hsub:∀ l'∈Λ.eraseIdx k,l'∈Λ:=λ l' hl'=>jq hl'
 refine ⟨h.lo,h.defers,h.size,h.base,λ x hx'=>?_,λ l' hl'=>h.locs l' (hsub l' hl'),λ l1 h1 l2 h2 hne=>h.dis l1 (hsub l1 h1) l2 (hsub l2 h2) hne⟩
 rcases ql.1 hx' with rfl | hx'
 ·obtain ⟨g,cs,h1,_,h3,h4⟩:=h.locs _ (qa hm)
  refine ⟨g,0,cs,h1,(Array.getElem?_eq_some_iff.1 h3).1,.inr ⟨_,_,h3⟩,h4,λ j v hv=>?_⟩
  rw [qB,cell_of_row w g j cs.toArray T _ h3]
  simpa using hv
 ·exact h.vals x hx'
theorem dn_ret {fn:Func}{R:Ending→World→Prop}{B N t:Nat}{b:Bool}(hr:fn.results = #[.tmp t])(h:St B w0 N Γ Λ a w)(hnd:w0.nd=true)(hm:(t,Bo b)∈Γ)(hR:R (.returned (.bool b)) w)(hg:∀ x w1 w2,R x w1→Grow w1 w2→R x w2):bPost P fn R .ret a w:=by
 refine ⟨[],h.defers.none hnd,.nil,(λ _ h=>by cases h),λ w' hs=>⟨_,results_tmp hr a.tmps P w',?_⟩⟩
 have e:a.tmps.getD t undef=.bool b:=cm (h.vals _ hm)
 rw [e]
 exact hg _ _ _ hR ⟨hs.os,hs.tape,hs.output,xy hs.size.symm,λ k _=>hs.block k (by simp)⟩
theorem dt {B:Nat}{w:World}:∀ (ws:List Int),(cat (ws.map InA)).p B (ws.map λ (n:Int)=>Value.int .i64 n) w
 | []=>⟨[],rfl,.nil⟩
 | n::ws=>by
  obtain ⟨ps,h1,h2⟩:=dt (B:=B) (w:=w) ws
  exact ⟨[.int .i64 n]::ps,by rw [qH,h1]; rfl,.cons G h2⟩
theorem way_va {k k1 k2 B hp n:Nat}{ws:List Int}{p q:Rat}{c:Int}(h:(cat [EqA (.slice (some ⟨hp,0,none⟩) n n),QA k1 p,QA k2 q,NumA .i64 c]).va.p B v w)(hr:PkR 3 hp w ws)(hn:ws.length=n)(hm:n≤1000)(h1:WkA (QA k1 p) (QA k p))(h2:WkA (QA k2 q) (QA k q)):(WyA k ⟨ws,p,q,c⟩).va.p B v w:=by
 obtain ⟨cs,⟨ps,rfl,hps⟩,rfl⟩:=h
 cases hps with
 | cons q1 hps =>
  cases hps with
  | cons q2 hps =>
   cases hps with
   | cons q3 hps =>
    refine ⟨_,⟨_,rfl,.cons ?_ (.cons (h1.2.2 _ _ _ q2) (.cons (h2.2.2 _ _ _ q3) hps))⟩,rfl⟩
    obtain ⟨rfl,_⟩:=q1
    refine ⟨λ A hA T hT=>?_,_,n,_,by rw [qd,hn],by rw [qd,hn]; exact qf _,by unfold maxLen; omega,dt ws,λ _=>⟨hp,0,rfl,(Array.getElem?_eq_some_iff.1 hr).1,.inr ⟨_,_,hr⟩,λ j u hu=>?_⟩⟩
    ·obtain ⟨x,_,rfl⟩:=qo.1 hA
     cases hT
    ·rw [qB,cell_of_row w hp j _ 3 _ hr]
     simpa using hu
theorem cosW_b {t:RTk}(h:ckF t=0):∀ {l:List Nat},(∀ x∈l,x<t.ps.length)→0≤cosW t l∧cosW t l≤1073741824*(l.length:Int)
 | [],_=>by simp [cosW]
 | x::l,hp=>by
  obtain ⟨h1,h2⟩:=cosW_b h (l:=l) λ y hy=>hp y (zc _ hy)
  have hx:x<t.ps.length:=hp x zZ
  have h3:=qc.1 (eB h).2.2 _ (qg hx)
  unfold ptF at h3
  simp only [qq,qJ,qn] at h3
  have h4:cosW t (x::l)=t.ps[x].c+cosW t l:=by
   unfold cosW
   rw [qH,xb,show t.ps.getD x ⟨⟨#[]⟩,⟨0,rf0,rf0⟩,0⟩=t.ps[x] from by simp [List.getD,hx]]
  rw [h4,zU]
  have:=h3.1.2
  have:=h3.2
  omega
def dnD (e:DnE)(f i j:Nat):Nat:=if i<e.ah.length then (if e.ah.getD i 0<j then cntW e.t.ps.length e.ah.length f (i+1) else 0) else j*cntW e.t.ps.length e.ah.length f (i+1)
theorem dnD_0 (e:DnE)(f i:Nat):dnD e f i 0=0:=by
 unfold dnD
 split
 ·rw [qm zo]
 ·rw [jw]
theorem dnD_end {e:DnE}(ok:e.Ok)(f i:Nat):dnD e f i e.t.ps.length=cntW e.t.ps.length e.ah.length (f+1) i:=by
 unfold dnD
 split
 ·rename_i h
  rw [qy,iW h]
  rw [List.getD,List.getElem?_eq_getElem h]
  exact ok.ah.2 _ (qg h)
 ·rename_i h
  rw [cntW_at h]
theorem dnD_skip {e:DnE}{f i j:Nat}(h:i<e.ah.length)(h2:e.ah.getD i 0≠j):dnD e f i (j+1)=dnD e f i j:=by
 unfold dnD
 rw [qy h,qy h]
 by_cases h3:e.ah.getD i 0<j
 ·rw [qy h3,qy zo]
 ·rw [qm h3,qm zo]
theorem dnD_go {e:DnE}{f i j:Nat}(h:i<e.ah.length→e.ah.getD i 0=j):dnD e f i (j+1)=dnD e f i j+cntW e.t.ps.length e.ah.length f (i+1):=by
 unfold dnD
 by_cases h1:i<e.ah.length
 ·rw [qy h1,qy h1,qy (by have:=h h1; omega),qm (by have:=h h1; omega),qB]
 ·rw [qm h1,qm h1,xh,jC]
theorem dnD_le {e:DnE}{f i j:Nat}(hj:j<e.t.ps.length)(h:i<e.ah.length→e.ah.getD i 0=j):dnD e f i j+cntW e.t.ps.length e.ah.length f (i+1)≤cntW e.t.ps.length e.ah.length (f+1) i:=by
 rw [← dnD_go h]
 unfold dnD
 by_cases h1:i<e.ah.length
 ·rw [qy h1,qy (by have:=h h1; omega),iW h1]; exact qf _
 ·rw [qm h1,cntW_at h1]
  exact qU _ hj
theorem dn_pk {e:DnE}{f i j k:Nat}{pre:List Nat}(hp:∀ r,r<cntW e.t.ps.length e.ah.length (f+1) i→e.pk (k+r)=pre++exW e.t.ps.length e.ah (f+1) i r)(hj:j<e.t.ps.length)(h:i<e.ah.length→e.ah.getD i 0=j) :
  ∀ r,r<cntW e.t.ps.length e.ah.length f (i+1)→e.pk (k+dnD e f i j+r)=(pre++[j])++exW e.t.ps.length e.ah f (i+1) r:=λ r hr=>by
 have hle:=dnD_le (f:=f) hj h
 rw [jp,hp _ zo,qM]
 refine qu (pre ++ ·) ?_
 unfold dnD
 by_cases h1:i<e.ah.length
 ·have h2:=h h1
  rw [qy h1,qm zo,qB,exW_ah h1,z4]
  rw [List.getD,List.getElem?_eq_getElem h1] at h2
  have h2':e.ah[i]=j:=h2
  rw [h2']
 ·rw [qm h1,exW_at h1 hr,z4]
theorem g9 {q p:List Int}{i:Nat}{v:Int}(h:q.take i=p)(hi:i<q.length):(q.set i v).take (i+1)=p++[v]:=by
 rw [qp (by rw [xv]; exact hi),jI (qf _),h,List.getElem_set_self]
theorem cells_wr {Tc:List TypeId}{gs:List Nat}{g:Nat}{c:Array Value}{fz:Nat × Nat}(h:CellsT Tc gs w)(hw:Wr g w w')(hg:w.heap[g]?=some (.cells c T fz))(hT:T ∉ Tc):CellsT Tc gs w':=λ k hk=>by
 obtain ⟨c',T',fz',h1,h2⟩:=h k hk
 exact ⟨c',T',fz',(hw.block k (λ e=>by
  subst e
  rw [hg] at h1
  injection h1 with h1
  injection h1 with _ h1 _
  exact hT (by rw [h1]; exact h2))).trans h1,h2⟩
theorem pk_stp {b lo hi:Nat}{gs:List Nat}{W W':World}{E:TypeId}{hp:Nat}{q:List Int}(h:Stp b D (gs++List.range' lo (hi-lo)) W W')(h1:lo≤hp)(h2:hp<hi)(hq:PkR E hp W q):PkR E hp W' q :=
 h.held hq (qj.2 (.inr (jW.2 ⟨h1,by omega⟩)))
theorem fH {o:Option Nat}{n:Nat}{ops:Array Oper}{Q:Exit→Act→World→Prop}(h:Q .normal a w):wpOpsIn (fw o) n P ops Q [] a w:=h
theorem kd_stp0 {B lo hi:Nat}{Tp Db:List TypeId}{gs:List Nat}{W W':World}(h:Stp B Db gs W W'):KD B lo hi Tp Db [] W W' :=
 ⟨h.os,h.tape,h.output,h.size,λ k hk hf=>h.block k hk λ hF=>hf (by
  rcases hF with ⟨h1,h2 | ⟨_,h2⟩⟩
  ·have hk':k<W.heap.size:=hk
   omega
  ·exact .inr (.inr ⟨h1,h2⟩))⟩
theorem ah_at {ah:List Nat}{i:Nat}(h:i<ah.length):(ah.map λ (k:Nat)=>InA (k:Int))[i]?=some (InA ((ah.getD i 0:Nat):Int)):=by
 rw [List.getElem?_map,List.getElem?_eq_getElem h,List.getD,List.getElem?_eq_getElem h]; rfl
theorem St.anewD {e:DnE}(ok:e.Ok){N:Nat}{a a':Act}{W W':World}(src:List Nat)(h:St e.B w0 N Γ Λ a W)(hnd:w0.nd=true)(hk:KD e.B e.lo e.hi [3] e.Db [] W W')
  (hsrc:src.all (λ k=>match Γ[k]? with | some y=>y.2.deps.all (λ T=>[36,22,79,80,U32,27,82].contains T) | none=>false)=true) (ha:∀ k∈src,∀ y,Γ[k]?=some y→a'.eval (.tmp y.1)=a.eval (.tmp y.1)) (hd:a'.defers=a.defers) (hs:a'.tmps.size=a.tmps.size):St e.B (freshB W') N (src.filterMap λ k=>Γ[k]?) [] a' W':=by
 have hD:∀ T∈e.Db,T ∉ [36,22,79,80,U32,27,82]:=d3 ok.Db
 have key:∀ {deps:List TypeId},deps.all (λ T=>[36,22,79,80,U32,27,82].contains T)=true→offD ([]++[3]++e.Db) deps=true:=λ {deps} hd=>qc.2 λ T hT=>by
  have hd':=qc.1 hd T hT
  have hm:T∈[36,22,79,80,U32,27,82]:=by simpa using hd'
  have hn:T ∉ []++[3]++e.Db:=λ hh=>by
   rcases qj.1 hh with hh | hh
   ·have:T=3:=by simpa using hh
    subst this
    exact absurd hm zd
   ·refine hD T hh ?_
    simp only [ql,zR,or_false] at hm ⊢
    rcases hm with h | h | h | h | h | h | h <;> simp [h]
  simpa using hn
 refine h.anew (Tc:=[]) src hnd hk ok.lo (λ g hg=>by cases hg) (λ g hg=>by cases hg) (qc.2 λ k hk=>?_) ha hd hs
 have:=qc.1 hsrc k hk
 cases hy:Γ[k]? with
 | none=>rw [hy] at this; cases this
 | some y=>rw [hy] at this; exact key this
set_option maxHeartbeats 4000000 in
theorem dn_walk {e:DnE}(ok:e.Ok){f i:Nat}(ih:∀ f',f'+1=f→∀ i,DnC e f' i):DnC e f i:=by
 intro pre k wE q vr hpl hif hpp hpk hkM hJ hF hq hql hqi hvr
 obtain ⟨hlt,hsx,hel⟩:=dn_s ok (i:=i) zo
 have htg:okX e.t.tg=true:=(hd_b (eB ok.ck).1).2.2.2.2
 have hn12:=dn_n ok
 have hsl:=ok.n
 obtain ⟨m,hme⟩:∃ m,prodQ (benP e.t pre)=m:=⟨_,rfl⟩
 have hbw0:=fO (benP e.t pre) (spE (e.t.sp.getD pre.length rf0))
 rw [hme] at hvr hbw0
 have hm:RepM (dnK i) m:=by rw [← hme,← hpl]; exact dn_m ok zo hpp
 have hKb:dnK i≤200000:=dn_K ok zo
 have hBw:e.B≤wE.heap.size:=by have:=(Array.getElem?_eq_some_iff.1 hq).1; have:=ok.lo; have:=ok.hp; omega
 obtain ⟨hco1,hco2⟩:=cosW_b ok.ck hpp
 obtain ⟨B,hBe⟩:∃ B,e.B=B:=⟨_,rfl⟩
 have hKi:dnK (i+1)=dnK i+4097+4097:=by unfold dnK; omega
 obtain ⟨K,hK⟩:∃ K,dnK i=K:=⟨_,rfl⟩
 rw [hK] at hvr hm hKb hKi
 have hxe:e.t.sp.getD pre.length rf0=e.t.sp[i]:=by rw [hpl]; simp [List.getD,hlt]
 obtain ⟨x,hx⟩:∃ x,e.t.sp[i]=x:=⟨_,rfl⟩
 rw [hx] at hsx hel hxe
 rw [hxe] at hbw0
 obtain ⟨m1,hm1⟩:∃ m1,mulQ (elM (spE x)) m=m1:=⟨_,rfl⟩
 have hm1r:RepM (K+4097) m1:=by rw [← hm1]; exact dE hel hm
 have hbw:prodQ (benW e.t pre)=m1:=by rw [← hm1,← hbw0]; unfold benW; rw [hxe]
 have hpw:powW e.t pre = -m1.c:=by unfold powW; rw [hbw]
 have haw:awaW e.t pre=if (-m1.c-toQ e.t.tg).num.sign<0 then -(-m1.c-toQ e.t.tg) else -m1.c-toQ e.t.tg:=by unfold awaW; rw [hpw]
 obtain ⟨F1,F2,F3,F4,F5⟩:=id hF
 rw [hBe] at F1 F2 F3 F4 F5 hvr hBw
 refine fC (R:=e.R f i k q wE) (B:=B) [In (i:Nat),In (cosW e.t pre),(CoA K m).va,ElP 36 (TkO e.t),ElP 22 (EqA (.slice (some ⟨e.hp,0,none⟩) e.n e.n)),ElP 79 (EqA (.func (.yield e.l) #[] #[])),ElP 22 (SlO 3 [] (e.ah.map λ (k:Nat)=>InA (k:Int)) True),ElP 80 (EqA (.func (.func 32) #[] e.cap.toArray))] Try.func32 G hBw (.cons (br _ _ _ _) (.cons (br _ _ _ _) (.cons hvr (.cons F1 (.cons F2 (.cons F3 (.cons F4 (.cons F5 .nil)))))))) nq (λ w0 a hw0 U=>?_)
 subst hw0
 obtain ⟨w,hw⟩:∃ w,w=wE:=⟨_,rfl⟩
 have U:St B (freshB wE) 92 [(0,_),(1,_),(2,_),(3,_),(4,_),(5,_),(6,_),(7,_)] [] a wE:=U
 refine qb<|zg [] [⟨10,82,ptrH,some 0,_,none⟩] [.alc 0,.v 11 _] [.g 0,.g 1,.g 3,.g 4,.g 5,.g 6,.g 7,.o 1] U (zW 2 G (zv G (a6 aE) o0)) (λ a w U=>?_)
 have U:St B (freshB wE) 92 [(0,_),(1,_),(3,_),(4,_),(5,_),(6,_),(7,_),(11,_)] [O 10 82 _] a w:=U
 refine a4<|wp_scope_straight ?_
 refine qb<|zgd [[],[0],[],[2],[],[2,3,4],[2,3,4,5],[],[7],[2,3,4,5,6,7,8],[0,1,2,3,4,5,6,7,8,9],[0,1,2,3,4,5,6,7,8,9,10],[0,1,2,3,4,5,6,7,8,9,10,11]] [some (12,_)] [] [.adr 15 10 (.some 0) True,.v 16 _,.v 17 _,.v 18 _,.v 19 _,.v 20 _,.v 21 _,.adr 22 10 (.some 4) True,.v 23 _,.v 24 _,.v 25 _,.adr 26 10 (.some 0) True,.sto 0] [.g 0,.g 1,.g 2,.g 3,.g 4,.g 5,.g 6,.g 7] a8 U (zO 0 G c8 (zL 0 0 0 G ar (zv G (bv (gq 2 G) bF (Sub.part 0 G G)) (zv G (al (vq 2 G) el) (zM 0 G (zv G (cy dF (cE λ _=>rfl) (bj (ap (vq 3 G))) (vq 4 G) (cb hlt)) (zv G (al (vq 5 G) ar) (zO 0 G c7 (zL 7 0 1 G ar (zQ G ((em (c:=2048) (d:=K) (x:=toQ x) (y:=m.c) zo).wk (.cons (bn (cd (qu (λ z=>(RFA z).va) hx)) (qa_x hsx (qf _)).va) (.cons aC .nil))) (.p (vq 6 G) (vq 8 G)) (zQ G (plus_q zo) (.p (vq 1 G) (vq 9 G)) (zO 0 G c8 (oc (bU 11 G G G G zk (vq 10 G) ar (Put.part 0 G G G)) o0))))))))))))) zk zk zk zk (λ a w U=>?_)
 have U:St B (freshB wE) 92 [(0,_),(1,_),(3,_),(4,_),(5,_),(6,_),(7,_),(11,_)] [O 10 82 _] a w:=U
 have U:=St.wkL (A':=CoA (K+4097) m1) U 0 rfl (by rw [← hm1]; exact iV (sp_mul x m).1 (sp_mul x m).2 (dE hel hm))
 have U:St B (freshB wE) 92 [(0,_),(1,_),(3,_),(4,_),(5,_),(6,_),(7,_),(11,_)] [O 10 82 _] a w:=U
 refine zt<|qb<|zg [η] [] [.v 27 _,.v 28 _,.v 29 _,.v 30 _] [.g 0,.g 1,.g 2,.g 3,.g 4,.g 5,.g 6,.g 7,.o 3] U (zM 0 G (zv G (al (gq 3 G) dD) (zv G (r_lenQ Try.underlying22 (vq 1 G)) (zv G (bd (vq 0 G) (vq 2 G)) o0)))) (λ a w U=>?_)
 have U:St B (freshB wE) 92 [(0,_),(1,_),(3,_),(4,_),(5,_),(6,_),(7,_),(11,_),(30,_)] [O 10 82 _] a w:=U
 refine a4<|aa U (zm 8 G) (λ hb0=>?_) (λ hb0=>?_)
 ·have hin:i=e.n:=by have h:((i:Nat):Int)=((e.n:Nat):Int):=eq_of_beq hb0; omega
  obtain rfl:f=0:=by omega
  have hc0:cntW e.t.ps.length e.ah.length 0 i=1:=rfl
  have hpk0:e.pk k=pre:=by have:=hpk 0 zo; simpa [exW] using this
  refine qb<|zgd [[],[],[1],[1,2],[],[0,1,2,3,4],[],[0,1,2,3,4,5,6]] [none] [⟨12,59,ptrH,some 6,_,some (7,_)⟩] [.v 31 _,.adr 32 10 (.some 4) True,.v 33 _,.v 34 _,.v 35 _,.v 36 _,.alc 1,.sto 1] [.g 0,.g 1,.g 2,.g 3,.g 4,.g 5,.g 6,.g 7] a8 U (zv G (al (gq 3 G) dD) (zO 0 G c7 (zL 1 0 1 G ar (zQ G (eK zo) (.o (vq 2 G)) (zM 1 G (zv G (aO (qs:=[(0,_),(1,_),(3,_)]) cK (.cons ⟨rfl,vq 0 rfl,rfl⟩ (.cons ⟨rfl,vq 3 rfl,rfl⟩ (.cons ⟨rfl,vq 4 rfl,rfl⟩ .nil)))) (zY G (Str.zero cK) (zS 5 G dx o0)))))))) zk zk zk zk (λ a w U=>?_)
  have U:St B (freshB wE) 92 [(0,_),(1,_),(3,_),(4,_),(5,_),(6,_),(7,_),(11,_)] [O 10 82 _,O 12 59 _] a w:=U
  refine zt<|zg [η,some (6,_)] [] [.adr 37 12 (.some 1) True,.v 38 _,.v 39 _,.v 40 _,.v 41 _,.adr 42 12 (.some 5) True,.sto 1] [.g 0,.g 1,.g 2,.g 3,.g 4,.g 5,.g 6,.g 7] U (zO 1 G cU (zL 0 1 1 G ar (zv G (bv (gq 2 G) fld_36_2 (Sub.part 2 G G)) (zv G (al (vq 2 G) ar) (zQ G ((iL (c:=K+4097) (d:=2048) (x := -m1.c) (y:=toQ e.t.tg) zo).wk (.cons aC (.cons (qa_x htg (qf _)).va .nil))) (.p (vq 1 G) (vq 3 G)) (zO 1 G dk (oc (bU 5 G G G G zk (vq 4 G) ar (Put.part 2 G G G)) o0))))))) (λ a w U=>?_)
  have U:St B (freshB wE) 92 [(0,_),(1,_),(3,_),(4,_),(5,_),(6,_),(7,_),(11,_)] [O 10 82 _,O 12 59 _] a w:=U
  refine zt<|qb<|zg [η,η] [] [.adr 43 12 (.some 5) True,.v 44 _,.v 45 _,.v 46 _] [.g 0,.g 1,.g 2,.g 3,.g 4,.g 5,.g 6,.g 7,.o 3] U (zO 1 G dk (zL 0 1 2 G ar (zQ G sign_q (.o (vq 1 G)) (zv G (aY (vq 2 G) a5) o0)))) (λ a w U=>?_)
  have U:St B (freshB wE) 92 [(0,_),(1,_),(3,_),(4,_),(5,_),(6,_),(7,_),(11,_),(46,_)] [O 10 82 _,O 12 59 _] a w:=U
  refine a4<|bC (λ a w =>  St B (freshB wE) 92 [(5,ElP 79 (EqA (.func (.yield e.l) #[] #[])))] [⟨10,82,ptrH,CoA (K+4097) m1⟩,⟨12,59,ptrH,cat [EqA (.slice (some ⟨e.hp,0,none⟩) e.n e.n),QA (K+4097) (powW e.t pre),QA (K+4097+2048+1) (awaW e.t pre),NumA .i64 (cosW e.t pre)]⟩] a w) U (zm 8 G) (λ hb1=>?_) (λ hb1=>?_) (λ a w U=>?_)
  ·refine zg [η,some (4,_)] [] [.adr 47 12 (.some 5) True,.v 48 _,.v 49 _,.adr 50 12 (.some 5) True,.sto 1] [.g 0,.g 1,.g 2,.g 3,.g 4,.g 5,.g 6,.g 7] U (zO 1 G dk (zL 0 1 2 G ar (zQ G (eK zo) (.o (vq 1 G)) (zO 1 G dk (oc (bU 3 G G G G zk (vq 2 G) ar (Put.part 2 G G G)) o0))))) (λ a w U=>?_)
   have U:St B (freshB wE) 92 [(0,_),(1,_),(3,_),(4,_),(5,_),(6,_),(7,_),(11,_)] [O 10 82 _,O 12 59 _] a w:=U
   refine a4 ?_
   have U:=St.sel U [4]
   rw [hpw,haw,qy (qw hb1)]; exact U
  ·refine qk<|a4 ?_
   have U:=St.sel U [4]
   rw [hpw,haw,qm (qx hb1)]; exact U
  refine zt<|wide_of ?_
  refine go_headF (sp:=[.v 51 _,.v 52 _,.v 53 VT,.v 11 VT]) 2 2 99 2 OneC [.g 0,.o 0,.o 1] zk (cv λ _ _ h=>h) U (zv G (al (gq 0 G) ty_79) (zl 1 G dx o0)) G zd zk zk (λ a w U=>?_)
  have U:St B (freshB wE) 92 [(5,_),(51,_),(52,_)] [O 10 82 _,O 12 59 _] a w:=U
  rw [show List.range' 2 2=[2,3] from rfl]
  have hgw:=aL U.base
  have e51:=fT (U.vals (51,_) (zm 1 rfl))
  have hqe:q=pre.map (λ (x:Nat)=>(x:Int)):=by rw [← hqi,qA zo]
  have hway:(WyA (dnK (e.n+2)+4200) (wayW e.t (e.pk k))).va.p e.B (a.eval (.tmp 52)) w:=by rw [hBe,hpk0]; exact way_va (U.vals (52,_) (zm 2 rfl)) (by rw [← hqe]; exact cL hq hgw) (by rw [qd]; omega) zo (ew (by rw [← hK]; unfold dnK; omega)) (ew (by rw [← hK]; unfold dnK; omega))
  rw [wpOpsIn_cons]
  refine op_yieldP (xs:=[.tmp 52]) G e51 (ok.yd k w [a.eval (.tmp 52)] zo (ok.grow zo hJ hgw) (.cons hway .nil)) (λ x w3 hR3=>?_)
  rcases hR3 with ⟨rfl,hJ3,hs3⟩ | ⟨rfl,hx3,hsz3,_⟩
  ·refine ⟨_,rfl,?_⟩
   have U:=(St.bare U rfl hs3.size).addV (d:=53) (v:=.bool true) (A:=Bo true) zd zk zk (ci _ _ _)
   rw [wpOpsIn_cons]
   refine op_asgF (b:=true) G (cm (U.vals (53,_) (zm 0 G))) ?_
   refine fH ?_
   have U:=U.addV (d:=11) (v:=.bool true) (A:=Bo true) zd zk zk (ci _ _ _)
   have hR:e.R 0 i k q wE (.returned (.bool true)) w3:=.inl ⟨rfl,hJ3,cQ (kd_of hgw) (kd_stp0 hs3),q,pk_stp hs3 ok.hp.1 ok.hp.2 (cL hq hgw),hql,rfl⟩
   refine a4<|qh<|ac ?_
   refine fc ?_
   exact dn_ret G U G (zm 0 G) hR (λ x w1 w2=>DnE.R.grow ok hkM)
  ·refine ⟨_,rfl,?_⟩
   have U:=(St.bare U rfl hsz3).addV (d:=53) (v:=.bool false) (A:=Bo false) zd zk zk (ci _ _ _)
   rw [wpOpsIn_cons]
   refine op_asgF (b:=false) G (cm (U.vals (53,_) (zm 0 G))) ?_
   refine fH ?_
   have U:=U.addV (d:=11) (v:=.bool false) (A:=Bo false) zd zk zk (ci _ _ _)
   have hR:e.R 0 i k q wE (.returned (.bool false)) w3:=.inr ⟨rfl,hx3,qe hgw.size hsz3⟩
   refine a4<|qh<|ac ?_
   refine fc ?_
   exact dn_ret G U G (zm 0 G) hR (λ x w1 w2=>DnE.R.grow ok hkM)
 ·have hin:i≠e.n:=λ h=>by rw [h] at hb0; simp at hb0
  obtain ⟨f,rfl⟩:∃ f0,f=f0+1:=⟨f-1,by omega⟩
  have hlen64:=(hd_b (eB ok.ck).1).2.2.2.1
  refine qk<|zt<|wp_label<|zt<|qb ?_
  have U:=St.ofPtr U 0 rfl
  have U:St B (freshB wE) 92 [(10,_),(0,_),(1,_),(3,_),(4,_),(5,_),(6,_),(7,_),(11,_),(30,_)] [] a w:=U
  refine zh [.v 54 _,.v 55 _,.v 56 _,.v 57 _] [.g 0,.g 1,.g 2,.g 3,.g 4,.g 5,.g 6,.g 7,.g 8,.o 1,.o 2,.o 3] U (zv G (bv (gq 3 G) bE (Sub.part 1 G G)) (zv G (al (vq 0 G) ek) (zv G (bH Try.underlying34 (bj (ap (vq 1 G)))) (zv G (a7 a5) o0)))) (λ a w U=>?_)
  have U:St B (freshB wE) 92 [(10,_),(0,_),(1,_),(3,_),(4,_),(5,_),(6,_),(7,_),(11,_),(55,_),(56,_),(57,_)] [] a w:=U
  refine a4<|qt ?_
  have U:=St.sel U [1,2,3,4,5,6,7,0,9,10,11]
  refine wp_loop_ghost (λ n a w=>∃ (j:Nat) (W1:World) (q1:List Int),(n+j=e.t.ps.length∧e.J (k+dnD e f i j) W1∧KD e.B e.lo e.hi [3] e.Db [] wE W1∧PkR 3 e.hp W1 q1∧q1.length=e.n∧q1.take i=q.take i)∧St B (freshB W1) 92 [(0,In (i:Nat)),(1,In (cosW e.t pre)),(3,ElP 36 (TkO e.t)),(4,ElP 22 (EqA (.slice (some ⟨e.hp,0,none⟩) e.n e.n))),(5,ElP 79 (EqA (.func (.yield e.l) #[] #[]))),(6,ElP 22 (SlO 3 [] (e.ah.map λ (k:Nat)=>InA (k:Int)) True)),(7,ElP 80 (EqA (.func (.func 32) #[] e.cap.toArray))),(10,ElP 82 (CoA (K+4097) m1)),(55,(SlO 52 [U32] (e.t.ps.map PtA) True).va),(56,In (e.t.ps.length:Nat)),(57,In (j:Nat))] [] a w) (e.t.ps.length) ?_ ?_
  ·rw [qd] at U
   exact ⟨0,wE,q,⟨by omega,by rw [dnD_0]; exact hJ,kd_refl,hq,hql,rfl⟩,U⟩
  intro n a w hI
  obtain ⟨j,W1,q1,⟨hn,hJ1,hkd,hq1,hql1,hqt⟩,U⟩:=hI
  refine qb<|zh [.v 58 _] [.g 0,.g 1,.g 2,.g 3,.g 4,.g 5,.g 6,.g 7,.g 8,.g 9,.g 10,.o 0] U (zv G (aY (gq 10 G) (gq 9 G)) o0) (λ a w U=>?_)
  have U:St B (freshB W1) 92 [(0,_),(1,_),(3,_),(4,_),(5,_),(6,_),(7,_),(10,_),(55,_),(56,_),(57,_),(58,_)] [] a w:=U
  refine zt<|aa U (zm 11 G) (λ hb2=>?_) (λ hb2=>?_)
  ·have hj:j<e.t.ps.length:=by have:=qw hb2; omega
   have hpj:e.t.ps.getD j ⟨⟨#[]⟩,⟨0,rf0,rf0⟩,0⟩=e.t.ps[j]:=by simp [List.getD,hj]
   have hpe:elF e.t.ps[j].e=true:=by rw [← hpj]; exact dn_p ok.ck hj
   have hpc:=cosW_b ok.ck (l:=[j]) (λ y hy=>by rw [qr.1 hy]; exact hj)
   rw [show cosW e.t [j]=e.t.ps[j].c from by unfold cosW; rw [qH,x5,xb,List.sum_nil,hpj,xz]] at hpc
   obtain ⟨hpc1,hpc2⟩:=hpc
   refine qk<|zt<|qt<|qb<|zg [] [⟨14,52,ptrH,some 3,_,some (5,_)⟩] [.v 59 _,.v 60 _,.v 61 _,.alc 0,.v 13 _,.sto 0] [.g 0,.g 1,.g 2,.g 3,.g 4,.g 5,.g 6,.g 7,.g 8,.g 9,.g 10,.o 4] U (zM 10 G (zv G (cy i6 (cE λ _=>rfl) (bj (ap (gq 8 G))) (gq 10 G) (cb hj)) (zv G (al (vq 1 G) ty_52) (zY G (Str.zero eL) (zA 0 G (zS 2 G ty_52 o0)))))) (λ a w U=>?_)
   have U:St B (freshB W1) 92 [(0,_),(1,_),(3,_),(4,_),(5,_),(6,_),(7,_),(10,_),(55,_),(56,_),(57,_),(13,_)] [O 14 52 _] a w:=U
   have U:=St.ofPtr U 0 rfl
   have U:St B (freshB W1) 92 [(14,_),(0,_),(1,_),(3,_),(4,_),(5,_),(6,_),(7,_),(10,_),(55,_),(56,_),(57,_),(13,_)] [] a w:=U
   refine zt<|qb<|zh [.v 62 _,.v 63 _,.v 64 _,.v 65 _,.v 66 _,.t 67 _,.t 68 _,.t 69 _,.t 70 _,.t 71 _,.t 72 _,.v 73 _] [.g 0,.g 1,.g 2,.g 3,.g 4,.g 5,.g 6,.g 7,.g 8,.g 9,.g 10,.g 11,.g 12,.o 11] U (zM 1 G (zv G (al (gq 6 G) dD) (zv G (bH Try.underlying22 (bj (ap (vq 1 G)))) (zv G (aY (vq 0 G) (vq 2 G)) (zv G (a7 (vq 3 G)) (zB 4 G (λ hg=>a7 (gq 12 G)) (zB 4 G (λ hg=>al (gq 6 G) dD) (zB 4 G (λ hg=>a7 (gq 1 G)) (zB 4 G (λ hg=>cy cD (cE λ _=>rfl) (bj (ap (a9 (vq 6 G) hg))) (a9 (vq 7 G) hg) (ah_at (by have:=qw hg; simp only [qd] at this; omega))) (zB 4 G (λ hg=>al (a9 (vq 8 G) hg) ty_3) (zB 4 G (λ hg=>bM (a9 (vq 5 G) hg) (a9 (vq 9 G) hg)) (zv G (bi (vq 4 G) (vq 10 G)) o0)))))))))))) (λ a w U=>?_)
   have U:St B (freshB W1) 92 [(14,_),(0,_),(1,_),(3,_),(4,_),(5,_),(6,_),(7,_),(10,_),(55,_),(56,_),(57,_),(13,_),(73,_)] [] a w:=U
   refine a4<|aa U (zm 13 G) (λ hb3=>?_) (λ hb3=>?_)
   ·have hsk:i<e.ah.length∧e.ah.getD i 0≠j:=by
     simp only [qd,qi,qQ,bne_iff_ne,ne_eq] at hb3
     exact ⟨by omega,by omega⟩
    refine zf<|aj<|az<|a4<|zh [.v 91 _,.v 57 _] [.g 0,.g 1,.g 2,.g 3,.g 4,.g 5,.g 6,.g 7,.g 8,.g 9,.g 10,.g 12,.o 1] U (zv G (aU (gq 11 G) a5 ((wi64 zo zo).trans (by omega:(_:Int)=((j+1:Nat):Int)))) (zv G (a7 (vq 0 G)) o0)) (λ a w U=>?_)
    have U:St B (freshB W1) 92 [(14,_),(0,_),(1,_),(3,_),(4,_),(5,_),(6,_),(7,_),(10,_),(55,_),(56,_),(13,_),(57,_)] [] a w:=U
    refine a4 ?_
    have U:=St.sel U [1,2,3,4,5,6,7,8,9,10,12]
    exact ⟨n-1,by omega,j+1,W1,q1,⟨by omega,by rw [dnD_skip hsk.1 hsk.2]; exact hJ1,hkd,hq1,hql1,hqt⟩,U⟩
   ·have hgo:i<e.ah.length→e.ah.getD i 0=j:=λ h=>by
     simp only [qd,jA,qn,bne_eq_false_iff_eq] at hb3
     rcases hb3 with h1 | h1 <;> omega
    have hdl:=dnD_le (f:=f) hj hgo
    have hcp:0<cntW e.t.ps.length e.ah.length f (i+1):=ec zo _ _
    refine qk<|zt<|eA (sp:=[.v 74 _,.v 75 _,.v 76 _,.v 77 VT,.skp]) 3 2 99 3 OneC [.g 0,.g 1,.g 2,.g 3,.g 4,.g 5,.g 6,.g 7,.g 8,.g 9,.g 10,.g 11,.g 12,.o 0,.o 1,.o 2] U (zv G (al (gq 4 G) dD) (zM 1 G (zM 12 G o0))) G zd zk zk (λ a w U=>?_)
    have U:St B (freshB W1) 92 [(14,_),(0,_),(1,_),(3,_),(4,_),(5,_),(6,_),(7,_),(10,_),(55,_),(56,_),(57,_),(13,_),(74,_),(75,_),(76,_)] [] a w:=U
    rw [show List.range' 3 2=[3,4] from rfl]
    have hgw:=aL U.base
    have hJw:=ok.grow zo hJ1 hgw
    have hq2:=cL hq1 hgw
    have U:=St.wkG U 13 rfl eqa_v
    rw [qG]
    refine op_idxS 13 14 G U cD zd G G zo zd zk zk (λ a U=>?_)
    have e77:=U.vals (77,_) (zm 0 rfl)
    have e77:a.eval (.tmp 77)=.pointer (some ⟨e.hp,i,none⟩):=by rw [← zJ i]; exact e77
    rw [qG]
    refine op_stoH (q:=q1) (k:=(j:Nat)) G e77 (aF (U.vals (76,_) (zm 16 G))) hq2 zo ty_3 (λ W2 hq3 hwr=>?_)
    refine db ?_
    have hsv:StpV e.lo e.hi [3] e.gs w W2:=iB hwr hq2 ok.hp.1 ok.hp.2 zd
    have hkd0:KD e.B e.lo e.hi [3] e.Db [] w W2:=kd_stpV (iB hwr hq2 ok.hp.1 ok.hp.2 zd)
    have hJ2:e.J (k+dnD e f i j) W2:=ok.st _ _ _ zo hJw hsv (cells_wr (ok.ct _ _ hJw) hwr hq2 zd)
    have hkd2:=cQ (cQ hkd (kd_of hgw)) hkd0
    have hloB:B≤e.lo:=by rw [← hBe]; exact ok.lo
    have U:=St.anew (Tp:=[3]) (Db:=[]) (Tc:=[]) (gs:=[]) (lo:=e.lo) (hi:=e.hi) (a':=a) [1,2,3,4,5,6,7,8,9,10,11,12,13] U rfl (kd_stpV (iB hwr hq2 ok.hp.1 ok.hp.2 zd)) hloB (λ _ h=>by cases h) (λ _ h=>by cases h) zk (λ _ _ _ _=>rfl) rfl rfl
    have U:St B (freshB W2) 92 [(14,_),(0,_),(1,_),(3,_),(4,_),(5,_),(6,_),(7,_),(10,_),(55,_),(56,_),(57,_),(13,_)] [] _ W2:=U
    refine zt<|eR (sp:=[.v 78 _,.v 79 _,.v 80 _,.v 81 _,.v 82 _,.v 83 _,.v 84 _,.v 85 _,.v 86 _,.v 87 _,.v 88 _,.v 89 VT,.v 90 VT]) [[],[],[1],[],[],[4],[3,4,5],[],[7],[],[7,8,9],[0,1,2,3,4,5,6,7,8,9,10],[0,1,2,3,4,5,6,7,8,9,10,11]] 11 2 99 11 OneC [.g 0,.g 1,.g 2,.g 3,.g 4,.g 5,.g 6,.g 7,.g 8,.g 9,.g 10,.g 11,.g 12,.o 0,.o 2,.o 6,.o 10] a8 U (zv G (al (gq 7 G) ty_80) (zM 1 G (zv G (aU (vq 1 G) a5 ((wi64 zo zo).trans (by omega:(_:Int)=((i+1:Nat):Int)))) (zM 2 G (zv G (bv (gq 0 G) eS (Sub.part 2 G G)) (zv G (al (vq 4 G) ty_3) (zv G (aU (vq 3 G) (vq 5 G) ((wi64 (by simp only [xp] at hpc2; omega) (by simp only [xp] at hpc2; omega)))) (zv G (bv (gq 0 G) gG (Sub.part 1 G G)) (zv G (al (vq 7 G) fZ) (zv G (al (gq 8 G) ty_82) (zQ G (through_q (x:=e.t.ps[j].e) (b:=K+4097) (m:=m1) hpe hm1r zo) (.p (vq 8 G) (vq 9 G)) o0))))))))))) G zd zd zk (fD zk) zk zk (λ a w U=>?_)
    have U:St B (freshB W2) 92 [(14,_),(0,_),(1,_),(3,_),(4,_),(5,_),(6,_),(7,_),(10,_),(55,_),(56,_),(57,_),(13,_),(78,_),(80,_),(84,_),(88,_)] [] a w:=U
    rw [show List.range' 11 2=[11,12] from rfl]
    have hgw2:=aL U.base
    have e78:=fT (U.vals (78,_) (zm 13 rfl))
    have e80:=aF (U.vals (80,_) (zm 14 rfl))
    have e84:=aF (U.vals (84,_) (zm 15 rfl))
    have hvr2:=(U.vals (88,_) (zm 16 rfl))
    have hl2:(pre++[j]).length=i+1:=by rw [qE,hpl]; rfl
    have hmem2:∀ y∈pre++[j],y<e.t.ps.length:=λ y hy=>by
     rcases qj.1 hy with hy | hy
     ·exact hpp y hy
     ·rw [qr.1 hy]; exact hj
    have hqt2:(q1.set i (j:Int)).take (i+1)=(pre++[j]).map (λ (y:Nat)=>(y:Int)):=by
     rw [g9 (hqt.trans hqi) zo,zF]; rfl
    have hm2:prodQ (benP e.t (pre++[j]))=mulQ (elM e.t.ps[j].e) m1:=by rw [prodP_snoc,hpj,hbw]
    have hc2:cosW e.t (pre++[j])=cosW e.t pre+e.t.ps[j].c:=by rw [cos_snoc,hpj]
    have hcall:=ih f rfl (i+1) (pre++[j]) (k+dnD e f i j) w (q1.set i (j:Int)) (a.eval (.tmp 88)) hl2 zo hmem2 (dn_pk hpk hj hgo) zo (ok.grow zo hJ2 hgw2) ((hF.kd ok hkd2).grow hgw2) (cL hq3 hgw2) (by rw [xv]; exact hql1) hqt2 (by rw [hBe,hm2,hKi]; exact hvr2)
    rw [qG]
    refine op_callF (f:=32) (xs:=[.tmp 80,.tmp 84,.tmp 88]) (gs:=e.cap) G ⟨_,Try.func32,by kernel_rfl,by kernel_rfl⟩ e78 (by rw [hc2] at hcall; rw [show [Operand.tmp 80,.tmp 84,.tmp 88].map a.eval=[a.eval (.tmp 80),a.eval (.tmp 84),a.eval (.tmp 88)] from rfl,e80,e84]; exact hcall) (λ x w3 hR3=>?_)
    rcases hR3 with ⟨rfl,hJ3,hkd3,q3,hq4,hql4,hqt4⟩ | ⟨rfl,hx3,hsz3⟩
    ·refine ⟨_,rfl,?_⟩
     have U:=St.anewD (a':=a) ok [1,2,3,4,5,6,7,8,9,10,11] (by rw [hBe]; exact U) rfl hkd3 zk (λ _ _ _ _=>rfl) rfl rfl
     rw [hBe] at U
     have U:=U.addV (d:=89) (v:=.bool true) (A:=Bo true) zd zk zk (ci _ _ _)
     rw [qG]
     refine fi (A:=Bo false) (v:=.bool false) G U zd zk zk (not_op _ _ _ (cm (U.vals (89,_) (zm 0 G)))) (ci _ _ _) (λ U=>?_)
     refine dc ?_
     have U:St B (freshB w3) 92 [(90,_),(89,_),(0,_),(1,_),(3,_),(4,_),(5,_),(6,_),(7,_),(10,_),(55,_),(56,_),(57,_)] [] _ w3:=U
     have hkd4:=cQ (cQ hkd2 (kd_of hgw2)) hkd3
     have hqt5:q3.take i=q.take i:=by
      rw [← hqt,show q3.take i=(q3.take (i+1)).take i by rw [jj,xf zo],hqt4,jj,xf zo,jI zo]
     have hJ4:e.J (k+dnD e f i (j+1)) w3:=by rw [dnD_go hgo,← jp]; exact hJ3
     refine a4<|aa U (zm 0 G) (λ hb4=>?_) (λ hb4=>?_)
     ·cases hb4
     ·refine qk<|ai ?_
      refine a4<|zh [.v 91 _,.v 57 _] [.g 2,.g 3,.g 4,.g 5,.g 6,.g 7,.g 8,.g 9,.g 10,.g 11,.o 1] U (zv G (aU (gq 12 G) a5 ((wi64 zo zo).trans (by omega:(_:Int)=((j+1:Nat):Int)))) (zv G (a7 (vq 0 G)) o0)) (λ a w U=>?_)
      have U:St B (freshB w3) 92 [(0,_),(1,_),(3,_),(4,_),(5,_),(6,_),(7,_),(10,_),(55,_),(56,_),(57,_)] [] a w:=U
      refine a4 ?_
      have U:=St.sel U [0,1,2,3,4,5,6,7,8,9,10]
      exact ⟨n-1,by omega,j+1,w3,q3,⟨by omega,hJ4,hkd4,hq4,hql4,hqt5⟩,U⟩
    ·refine ⟨_,rfl,?_⟩
     have U:=St.bare (w':=w3) U rfl hsz3
     have U:=U.addV (d:=89) (v:=.bool false) (A:=Bo false) zd zk zk (ci _ _ _)
     rw [qG]
     refine fi (A:=Bo true) (v:=.bool true) G U zd zk zk (not_op _ _ _ (cm (U.vals (89,_) (zm 0 G)))) (ci _ _ _) (λ U=>?_)
     refine dc ?_
     refine a4<|aa U (zm 0 G) (λ hb5=>?_) (λ hb5=>?_)
     ·refine qb<|zh [.v 11 _] [.o 0] U (zv G (a6 aE) o0) (λ a w U=>?_)
      have U:St B (freshB w3) 92 [(11,_)] [] a w:=U
      have hR:e.R (f+1) i k q wE (.returned (.bool false)) w:=.inr ⟨rfl,ok.growx hx3 (aL U.base),qe (qe (cQ hkd2 (kd_of (lo:=e.lo) (hi:=e.hi) hgw2)).size hsz3) (aL U.base).size⟩
      refine a4<|qh<|aA ?_
      refine ac ?_
      refine ac ?_
      refine aA ?_
      refine ac ?_
      refine fc ?_
      exact dn_ret G U G (zm 0 G) hR (λ x w1 w2=>DnE.R.grow ok hkM)
     ·cases hb5
  ·obtain rfl:j=e.t.ps.length:=by have:=qx hb2; omega
   refine zf<|aj<|aj<|az<|zt<|zh [.v 11 _] [.g 0,.g 1,.g 2,.g 3,.g 4,.g 5,.g 6,.g 7,.g 8,.g 9,.g 10,.o 0] U (zv G (a6 aE) o0) (λ a w U=>?_)
   have U:St B (freshB W1) 92 [(0,_),(1,_),(3,_),(4,_),(5,_),(6,_),(7,_),(10,_),(55,_),(56,_),(57,_),(11,_)] [] a w:=U
   have hR:e.R (f+1) i k q wE (.returned (.bool true)) w:=.inl ⟨rfl,by rw [← dnD_end ok]; exact ok.grow (by rw [dnD_end ok]; omega) hJ1 (aL U.base),cQ hkd (kd_of (aL U.base)),q1,cL hq1 (aL U.base),hql1,hqt⟩
   refine a4<|qh<|fc ?_
   exact dn_ret G U G (zm 11 G) hR (λ x w1 w2=>DnE.R.grow ok hkM)
theorem dn_goes {e:DnE}(ok:e.Ok):∀ f i,DnC e f i
 | 0,i=>dn_walk ok (λ f' h=>absurd h zo)
 | f+1,i=>dn_walk ok (λ f' h i'=>by
  obtain rfl:f'=f:=by omega
  exact dn_goes ok f' i')
theorem zero_si:Zero Try.prog 22 (EqA (.slice none 0 0)):=Zero.of (z:=.slice none 0 0) zk (λ _ _=>⟨rfl,rfl⟩)
theorem zero_dt:Zero Try.prog 80 (EqA .nilFunc):=Zero.of (z:=.nilFunc) zk (λ _ _=>⟨rfl,rfl⟩)
def bothV (A A':VA):VA where
 p B v w:=A.p B v w∧A'.p B v w
 deps:=A.deps++A'.deps
 cg:=λ B v w w' hg h=>⟨A.cg _ _ _ _ hg h.1,A'.cg _ _ _ _ hg h.2⟩
 wr:=λ B v w w' g c T fz h1 hT h3 h4 h=>by
  simp only [qj,not_or] at hT
  exact ⟨A.wr _ _ _ _ _ _ _ _ h1 hT.1 h3 h4 h.1,A'.wr _ _ _ _ _ _ _ _ h1 hT.2 h3 h4 h.2⟩
theorem both_1 {A A':VA}:Wk (bothV A A') A:=λ _ _ _ h=>h.1
theorem both_2 {A A':VA}:Wk (bothV A A') A':=λ _ _ _ h=>h.2
theorem wk_eqA (h:v.oneCell'=true):Wk (EqV v) (EqA v).va:=λ B u w e=>by
 have e':u=v:=e
 rw [e']
 exact kt h
theorem elp_of {B g:Nat}{A:As}(h:w.heap[g]?=some (.cells (List.toArray cs) T (0,0)))(hp:A.p B cs w):(ElP T A).p B (ptr g) w:=by
 refine ⟨g,0,cs,rfl,(Array.getElem?_eq_some_iff.1 h).1,.inr ⟨_,_,h⟩,hp,λ j v hv=>?_⟩
 rw [qB,cell_of_row w g j cs.toArray T _ h]
 simpa using hv
theorem iR {B N:Nat}(h:St B w0 N Γ Λ a w){s g:Nat}{A:As}(k j:Nat)(h1:Γ[k]?=some (s,EqV (ptr g)))(h2:Λ[j]?=some ⟨s,T,ptrH,A⟩):(ElP T A).p B (ptr g) w:=by
 obtain ⟨g',cs,e1,_,e3,e4⟩:=h.locs _ (qa h2)
 have e:a.eval (.tmp s)=ptr g:=h.vals _ (qa h1)
 have e1':a.eval (.tmp s)=ptr g':=e1
 rw [← e,e1']
 exact elp_of e3 e4
theorem St.elpG {B N:Nat}(h:St B w0 N Γ Λ a w){s:Nat}{A:VA}(k:Nat)(h1:Γ[k]?=some (s,EqV v))(hA:A.p B v w):St B w0 N (Γ.set k (s,A)) Λ a w:=by
 refine ⟨h.lo,h.defers,h.size,h.base,λ x hx=>?_,h.locs,h.dis⟩
 rcases qI hx with hx | rfl
 ·exact h.vals x hx
 ·have e:a.eval (.tmp s)=v:=h.vals _ (qa h1)
  show A.p B (a.eval (.tmp s)) w
  rw [e]
  exact hA
theorem St.here {B N:Nat}(h:St B w0 N Γ Λ a w)(hnd:w0.nd=true)(src:List Nat):St B (freshB w) N (src.filterMap λ k=>Γ[k]?) [] a w:=by
 refine ⟨λ g hg=>?_,DefOk.nil (h.defers.none hnd),h.size,Kept.refl _,λ x hx=>?_,(λ _ h=>by cases h),(λ _ h=>by cases h)⟩
 ·rcases hg with hg | hg
  ·exact qe (qe (h.lo _ (.inl (qf _))) h.base.size) hg
  ·exact hg.elim
 ·obtain ⟨k,_,hk2⟩:=qW.1 hx
  exact h.vals x (qa hk2)
theorem op_mkS {Q:Exit→Act→World→Prop}{B N:Nat}{ops:Array Oper}{i:Nat}{K:Act→World→Prop}{d u n:Nat}{S E T':TypeId}(ku:Nat)(ho:ops[i]?=some ⟨some d,.makeSlice S (.tmp u) (.tmp u),T',ps,af,none⟩)(h:St B w0 N Γ Λ a w)
  (hM:MakeOk P S E .i64) (hu:Γ[ku]?=some (u,In (n:Nat))) (hn:n≤17592186044416) (hd:d<N) (hΓ:Γ.all (λ x=>x.1 != d)=true) (hΛ:Λ.all (λ l=>l.s != d)=true)
  (hK:∀ a' w' hp,St B w0 N ((d,EqV (.slice (some ⟨hp,0,none⟩) n n))::Γ) Λ a' w'→PkR E hp w' (List.replicate n 0)→w.heap.size≤hp→Grow w w'→K a' w'):wpOp P ops Q i K a w:=by
 obtain ⟨h1,h2,h3,h4,h5⟩:=hM
 obtain ⟨it,hi,hz⟩:=Option.bind_eq_some_iff.1 h2
 have hsz:it.size=1:=by rw [hi] at h3; simpa using h3
 have hby:=h5 it hi
 have hm:=run_make (P:=P) w S E it (.int .i64 0) h1 hi hz .i64 .i64 n n zo (Int.le_refl _) (by
  have:it.bytes*n≤8*n:=qU _ hby
  have h6:((it.bytes*n:Nat):Int)≤281474976710656:=by omega
  rwa [xw] at h6) zo
 have e1:a.eval (.tmp u)=.int .i64 (n:Nat):=aF (h.vals _ (qa hu))
 have hcells:madeCells (Value.int .i64 0).cells (n*it.size)=((List.replicate n 0).map λ (x:Int)=>Value.int .i64 x).toArray:=by
  rw [hsz,zJ]
  apply jT
  intro j
  simp only [madeCells,Value.cells,jQ]
  by_cases hj:j<n
  ·simp [hj,Nat.mod_one]
  ·simp [hj]
 simp only [z6] at hm
 rw [hcells] at hm
 have hg:Grow w (w.alloc (.cells ((List.replicate n 0).map λ (x:Int)=>Value.int .i64 x).toArray E)):=Grow.alloc _ _
 unfold wpOp
 simp only [ho,Region.wanted,if_true]
 exact .inl (bf (w':=w.alloc (.cells ((List.replicate n 0).map λ (x:Int)=>Value.int .i64 x).toArray E)) (v:=.slice (some ⟨w.heap.size,0,none⟩) n n) (by simp [execOp,e1,hm]) (hK _ _ w.heap.size ((h.growM hg).addV hd hΓ hΛ G) (heap_alloc_new w _) (qf _) hg))
theorem dn_ret0 {fn:Func}{R:Ending→World→Prop}{B N:Nat}(hr:fn.results = #[])(h:St B w0 N Γ Λ a w)(hnd:w0.nd=true)(hR:∀ v w1,Grow w w1→R (.returned v) w1):bPost P fn R .ret a w:=by
 refine ⟨[],h.defers.none hnd,.nil,(λ _ h=>by cases h),λ w' hs=>⟨_,results_none hr _ _ _,hR _ _ ⟨hs.os,hs.tape,hs.output,xy hs.size.symm,λ k _=>hs.block k (by simp)⟩⟩⟩
theorem mk_si:MakeOk Try.prog 22 3 .i64:=⟨by kernel_rfl,by kernel_rfl,by kernel_rfl,by kernel_rfl,λ it h=>by
 have h2:(Try.prog.info? 3).map (·.bytes)=some 8:=by kernel_rfl
 rw [h] at h2
 exact xy (Option.some.inj h2)⟩
set_option maxHeartbeats 2000000 in
theorem kn {t:RTk}{ah:List Nat}{nn:Nat}(hck:ckF t=0)(hnn:t.sp.length=nn+1)(hah:ah.length≤nn∧∀ x∈ah,x<t.ps.length):∀ gs,ItPg Try.prog 31 [(36,TkO t),(22,SlO 3 [] (ah.map λ (k:Nat)=>InA (k:Int)) True)] gs (λ k=>[(WyA (dnK (nn+2)+4200) (wayW t (exW t.ps.length ah nn 0 k))).va]) false (cntW t.ps.length ah.length nn 0) [36,22,79,80,U32,27,82] [3]:=by
 intro gs
 obtain ⟨hs2,hs13,_⟩:=hd_b (eB hck).1
 refine ⟨⟨_,Try.func31,by kernel_rfl,by kernel_rfl⟩,λ l B wE Db J0 J Jx hB hgn hcaps hoff hIt hJ0=>?_⟩
 have hgb:=(cJ hcaps).2
 obtain ⟨g0,g1,rfl,c1,c2⟩:=All2.two hcaps
 obtain ⟨hb0,cs0,hh0,hp0⟩:=c1
 obtain ⟨hb1,cs1,hh1,hp1⟩:=c2
 have hT:(ElP 36 (TkO t)).p B (ptr g0) wE:=elp_of hh0 hp0
 have hA:(ElP 22 (SlO 3 [] (ah.map λ (k:Nat)=>InA (k:Int)) True)).p B (ptr g1) wE:=elp_of hh1 hp1
 have hsz:wE.heap.size≤wE.heap.size:=qf _
 refine fC (B:=B) [EqV (.func (.yield l) #[] #[]),bothV (EqV (ptr g0)) (ElP 36 (TkO t)),EqV (ptr g1)] Try.func31 G hB (.cons G (.cons ⟨rfl,hT⟩ (.cons G .nil))) nq (λ w0 a hw0 U=>?_)
 subst hw0
 have U:St B (freshB wE) 15 [(0,_),(1,_),(2,_)] [] a wE:=U
 refine qb<|zg [] [⟨3,79,ptrH,some 0,_,none⟩] [.alc 0] [.g 1,.g 2] U (oc (ob_box G G G (has_eqA G (gq 0 G))) o0) (λ a w U=>?_)
 have U:St B (freshB wE) 15 [(1,_),(2,_)] [O 3 79 _] a w:=U
 obtain ⟨q3,U⟩:=St.nm U 0 rfl
 have U:St B (freshB wE) 15 [(3,_),(1,_),(2,_)] [O 3 79 _] a w:=U
 have hY:=iR U 0 0 rfl rfl
 have hgr:=aL U.base
 have hT:=VA.grow _ _ _ _ _ hgr hT
 have hA:=VA.grow _ _ _ _ _ hgr hA
 have hJ0:=hIt.st0 _ _ hJ0 (bW hgr) ((hIt.ct0 _ hJ0).grow hgr)
 have hsz:=qe hsz hgr.size
 have U:=U.here rfl [0,1,2]
 obtain ⟨w1,rfl⟩:∃ x,x=w:=⟨_,rfl⟩
 have U:St B (freshB w1) 15 [(3,_),(1,_),(2,_)] [] _ w1:=U
 refine zt<|eA (sp:=[.v 6 _,.v 7 _,.skp,.skp,.skp]) 2 3 99 2 OneC [.g 0,.g 1,.g 2,.o 1] U (zv G (al (has_wk' (gq 1 G) both_2) bG) (zQ G ((gf t).wk (.cons tko_A.va .nil)) (.o (vq 0 G)) o0)) G zd zk zk (λ a w U=>?_)
 have U:St B (freshB w1) 15 [(3,_),(1,_),(2,_),(7,_)] [] a w:=U
 rw [show List.range' 2 3=[2,3,4] from rfl]
 have U:=St.wkG U 1 rfl both_1
 have U:St B (freshB w1) 15 [(3,_),(1,_),(2,_),(7,_)] [] a w:=U
 rw [qG]
 rw [slo_e hs2 hs13,show t.sp.length-1=nn by omega] at U
 have hsz1:=qe hsz (aL U.base).size
 refine op_mkS (n:=nn) 3 G U mk_si G zo zd zk zk (λ a W hp U hqp hge hgp=>?_)
 obtain ⟨w,rfl⟩:∃ x,x=W:=⟨_,rfl⟩
 have U:St B (freshB w1) 15 [(8,_),(3,_),(1,_),(2,_),(7,_)] [] a w:=U
 have hloh:wE.heap.size≤hp:=qe hsz1 hge
 have hgr:=aL U.base
 have hT:=VA.grow _ _ _ _ _ hgr hT
 have hA:=VA.grow _ _ _ _ _ hgr hA
 have hY:=VA.grow _ _ _ _ _ hgr hY
 have hJ0:=hIt.st0 _ _ hJ0 (bW hgr) ((hIt.ct0 _ hJ0).grow hgr)
 have hsz:=qe hsz hgr.size
 have U:=U.here rfl [0,1,2,3,4]
 obtain ⟨w2,rfl⟩:∃ x,x=w:=⟨_,rfl⟩
 have U:St B (freshB w2) 15 [(8,_),(3,_),(1,_),(2,_),(7,_)] [] _ w2:=U
 have U:=St.wkG U 0 rfl (wk_eqA rfl)
 have U:St B (freshB w2) 15 [(8,_),(3,_),(1,_),(2,_),(7,_)] [] _ w2:=U
 refine op_newS 0 [1,2,3] G G U zero_si G dD G zd zk zk zk (λ a w U=>?_)
 refine dc ?_
 have U:St B (freshB w2) 15 [(3,_),(1,_),(2,_)] [O 4 22 _] a w:=U
 obtain ⟨q4,U⟩:=St.nm U 0 rfl
 have U:St B (freshB w2) 15 [(4,_),(3,_),(1,_),(2,_)] [O 4 22 _] a w:=U
 have hP:=iR U 0 0 rfl rfl
 have hqp:=cL hqp (aL U.base)
 have hgr:=aL U.base
 have hT:=VA.grow _ _ _ _ _ hgr hT
 have hA:=VA.grow _ _ _ _ _ hgr hA
 have hY:=VA.grow _ _ _ _ _ hgr hY
 have hJ0:=hIt.st0 _ _ hJ0 (bW hgr) ((hIt.ct0 _ hJ0).grow hgr)
 have hsz:=qe hsz hgr.size
 have U:=U.here rfl [0,1,2,3]
 obtain ⟨w3,rfl⟩:∃ x,x=w:=⟨_,rfl⟩
 have U:St B (freshB w3) 15 [(4,_),(3,_),(1,_),(2,_)] [] _ w3:=U
 refine zt<|zg [] [⟨5,80,ptrH,some 0,_,none⟩] [.alc 0] [.g 0,.g 1,.g 2,.g 3] U (zY G zero_dt o0) (λ a w U=>?_)
 have U:St B (freshB w3) 15 [(4,_),(3,_),(1,_),(2,_)] [O 5 80 _] a w:=U
 obtain ⟨q5,U⟩:=St.nm U 0 rfl
 have U:St B (freshB w3) 15 [(5,_),(4,_),(3,_),(1,_),(2,_)] [O 5 80 _] a w:=U
 refine zt<|zg [some (1,_)] [] [.v 9 _,.sto 0] [.g 0,.g 1,.g 2,.g 3,.g 4] U (zv G (r_mkE (vs:=[ptr g0,ptr q4,ptr q3,ptr g1,ptr q5]) (.cons (gq 3 G) (.cons (gq 1 G) (.cons (gq 2 G) (.p (gq 4 G) (gq 0 G)))))) (zS 0 G ty_80 o0)) (λ a w U=>?_)
 have U:St B (freshB w3) 15 [(5,_),(4,_),(3,_),(1,_),(2,_)] [O 5 80 _] a w:=U
 have hD:=iR U 0 0 rfl rfl
 have hqp:=cL hqp (aL U.base)
 have hgr:=aL U.base
 have hT:=VA.grow _ _ _ _ _ hgr hT
 have hA:=VA.grow _ _ _ _ _ hgr hA
 have hY:=VA.grow _ _ _ _ _ hgr hY
 have hP:=VA.grow _ _ _ _ _ hgr hP
 have hJ0:=hIt.st0 _ _ hJ0 (bW hgr) ((hIt.ct0 _ hJ0).grow hgr)
 have hsz:=qe hsz hgr.size
 have U:=U.here rfl [0,1,2,3,4]
 obtain ⟨w4,rfl⟩:∃ x,x=w:=⟨_,rfl⟩
 have U:St B (freshB w4) 15 [(5,_),(4,_),(3,_),(1,_),(2,_)] [] _ w4:=U
 have U:=St.elpG U 0 rfl hD
 have U:St B (freshB w4) 15 [(5,_),(4,_),(3,_),(1,_),(2,_)] [] _ w4:=U
 refine a4<|eR (sp:=[.v 10 _,.v 11 _,.v 12 _,.v 13 _,.skp]) [[],[],[1],[1,2],[0,1,2,3]] 4 1 99 4 OneC [.g 0,.g 1,.g 2,.g 3,.g 4,.o 0,.o 3] a8 U (zv G (al (gq 0 G) ty_80) (zQ G one_q .nil (zQ G nought_q .nil (zv G (aO (qs:=[(0,_),(1,_)]) str_ray (.cons ⟨rfl,vq 1 rfl,rfl⟩ (.cons ⟨rfl,vq 2 rfl,rfl⟩ .nil))) o0)))) G zd zd zk (fD zk) zk zk (λ a w U=>?_)
 have U:St B (freshB w4) 15 [(5,_),(4,_),(3,_),(1,_),(2,_),(10,_),(13,_)] [] a w:=U
 rw [show List.range' 4 1=[4] from rfl]
 have e10:=fT (U.vals (10,_) (zm 5 rfl))
 have hvr:=(U.vals (13,_) (zm 6 rfl))
 have hqp:=cL hqp (aL U.base)
 have hgr:=aL U.base
 have hT:=VA.grow _ _ _ _ _ hgr hT
 have hA:=VA.grow _ _ _ _ _ hgr hA
 have hY:=VA.grow _ _ _ _ _ hgr hY
 have hP:=VA.grow _ _ _ _ _ hgr hP
 have hD:=VA.grow _ _ _ _ _ hgr hD
 have hJ0:=hIt.st0 _ _ hJ0 (bW hgr) ((hIt.ct0 _ hJ0).grow hgr)
 obtain ⟨hi,hhi⟩:∃ x,w.heap.size=x:=⟨_,rfl⟩
 have hlt:=(Array.getElem?_eq_some_iff.1 hqp).1
 have hJ1:=hIt.go hi w zo hJ0
 obtain ⟨e,he⟩:∃ e:DnE,e=⟨l,B,wE.heap.size,hi,hp,nn,g0,q4,q3,g1,q5,t,ah,Db,[g0,g1],cntW t.ps.length ah.length nn 0,J hi,Jx⟩:=⟨_,rfl⟩
 have ok:e.Ok:=by subst he; exact ⟨hB,hgb,⟨hloh,by show hp<hi; omega⟩,hck,by show t.sp.length=nn+1; omega,hah,rfl,hoff,λ k W W' hk hj hs hc=>hIt.st hi k W W' hk hj hs hc,λ W W' hj hs hc=>hIt.stM hi W W' hj hs hc,hIt.stx,hIt.ct hi,hIt.ctx,λ k W args hk hj ha=>hIt.yd hi k W args hk hj ha⟩
 have hcall:=dn_goes ok nn 0 [] 0 w (List.replicate nn 0) (a.eval (.tmp 13)) rfl (by subst he; exact qB _) (λ x hx=>by cases hx) (λ r hr=>by subst he; rw [qB]; rfl) (by subst he; rw [qB]; exact qf _) (by subst he; exact hJ1) (by subst he; exact ⟨hT,hP,hY,hA,hD⟩) (by subst he; exact hqp) (by subst he; exact xq) rfl (by have h1:=dn_m ok (l:=[]) (zi _) (λ x hx=>by cases hx); subst he; exact (iV rfl rfl h1).va _ _ _ hvr)
 rw [qG]
 refine op_callF (f:=32) (xs:=[.const (.int .i64 0),.const (.int .i64 0),.tmp 13]) (gs:=e.cap) G ⟨_,Try.func32,by kernel_rfl,by kernel_rfl⟩ (by subst he; exact e10) hcall (λ x w5 hR=>?_)
 have hR2:∃ b,x=.returned b∧w.heap.size≤w5.heap.size∧((∃ hi,J hi (cntW t.ps.length ah.length nn 0) w5)∨Jx w5):=by
  subst he
  rcases hR with ⟨h1,h2,h3,_⟩ | ⟨h1,h2,h3⟩
  ·exact ⟨_,h1,h3.size,.inl ⟨hi,by rw [qB] at h2; exact h2⟩⟩
  ·exact ⟨_,h1,h3,.inr h2⟩
 obtain ⟨b,hx,hsz5,hR3⟩:=hR2
 refine ⟨_,hx,?_⟩
 have U:=(St.bare U rfl hsz5).addV (d:=14) (v:=b) (A:=VT) zd zk zk trivial
 refine dc ?_
 refine nrm_ret<|dn_ret0 G U G (λ v w6 hg6=>⟨v,rfl,?_⟩)
 rcases hR3 with ⟨hi,h1⟩ | h1
 ·exact .inl ⟨hi,hIt.stM hi _ _ h1 (bW hg6) ((hIt.ct hi _ _ h1).grow hg6)⟩
 ·exact .inr (hIt.stx _ _ h1 (bW hg6) ((hIt.ctx _ h1).grow hg6))
end Go.Proofs.Ytlakjmncfooodaa
