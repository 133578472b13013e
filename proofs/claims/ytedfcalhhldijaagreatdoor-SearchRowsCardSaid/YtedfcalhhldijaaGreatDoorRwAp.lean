import Derived.Test.YtedfcalhhldijaaGreatDoorRwAo
set_option linter.all false
set_option maxRecDepth 100000
namespace Go.Proofs.YtedfcalhhldijaaGreatDoor
open Go Go.RowKit
variable {w:World}{B:Nat}{a:Act}{v:Value}{T:TypeId}{w0:Bs}{Γ:List (Nat × VA)}{Λ:List Lc}{ps:String}{af:Array Edge}{vr:Value}{H:Hd}{cs:List Value}{w':World}{P:Program}{D:List TypeId}
def kdB (B lo hi:Nat)(Tp Db:List TypeId)(gs:List Nat)(W:World):Bs:=⟨W,λ k=>k∈gs∨(lo≤k∧k<hi∧∃ c T fz,W.heap[k]?=some (.cells c T fz)∧T∈Tp)∨(B≤k∧∃ c T fz,W.heap[k]?=some (.cells c T fz)∧T∈Db),true⟩
abbrev KD (B lo hi:Nat)(Tp Db:List TypeId)(gs:List Nat)(W W':World):Prop:=Kept (kdB B lo hi Tp Db gs W) W'
theorem wN {B lo hi:Nat}{Tp Db:List TypeId}{gs:List Nat}{W:World}:KD B lo hi Tp Db gs W W:=Kept.refl _
theorem wP {B lo hi:Nat}{Tp Db:List TypeId}{gs:List Nat}{W W' W'':World}(h:KD B lo hi Tp Db gs W W')(hg:Grow W' W''):KD B lo hi Tp Db gs W W'':=h.grow hg
theorem wM {B lo hi:Nat}{Tp Db:List TypeId}{gs:List Nat}{W W':World}(h:StpV lo hi Tp gs W W'):KD B lo hi Tp Db gs W W' :=
 ⟨h.os,h.tape,h.output,h.size,λ k hk hf=>h.block k hk λ hF=>hf (by
  rcases hF with hF | hF
  ·exact .inl hF
  ·exact .inr (.inl hF))⟩
theorem VA.kd {A:VA}{B lo hi:Nat}{Tp Db Tc:List TypeId}{gs:List Nat}{W W':World}(hp:A.p B v W)(h:KD B lo hi Tp Db gs W W')(hlo:B≤lo)(hc:CellsT Tc gs W)(hb:∀ g∈gs,B≤g)(hD:offD (Tc++Tp++Db) A.deps=true):A.p B v W':=by
 have hD:=eB hD
 refine VA.many (gs++(List.range W.heap.size).filter λ k=>match (W.heap[k]?:Option Obj) with | some (Obj.cells _ T _)=>(Tp++Db).contains T&&decide (B≤k) | _=>false) hp h.os h.tape h.output h.size (λ k c T fz hk hn=>?_) (λ g hg=>?_)
 ·have hin:∀ T',(∃ c T fz,W.heap[k]?=some (.cells c T fz)∧T=T')→T'∈Tp++Db→B≤k→k∈gs++(List.range W.heap.size).filter λ k=>match (W.heap[k]?:Option Obj) with | some (Obj.cells _ T _)=>(Tp++Db).contains T&&decide (B≤k) | _=>false:=λ T' ⟨c',T'',fz',h3,e⟩ hT hB=>by
   refine qo.2 (.inr (zE.2 ⟨by simpa using (Array.getElem?_eq_some_iff.1 hk).1,?_⟩))
   rw [h3]
   subst e
   simp only [ql,qx,qH]
   exact ⟨hT,hB⟩
  refine h.block k (Array.getElem?_eq_some_iff.1 hk).1 λ hF=>hn ?_
  rcases hF with hF | ⟨h1,h2,c',T',fz',h3,h4⟩ | ⟨h1,c',T',fz',h3,h4⟩
  ·exact qo.2 (.inl hF)
  ·exact hin T' ⟨c',T',fz',h3,rfl⟩ (qo.2 (.inl h4)) (qe hlo h1)
  ·exact hin T' ⟨c',T',fz',h3,rfl⟩ (qo.2 (.inr h4)) h1
 ·rcases qo.1 hg with hg | hg
  ·obtain ⟨c,T,fz,h1,h2⟩:=hc g hg
   exact ⟨hb g hg,c,T,fz,h1,hD T (qo.2 (.inl (qo.2 (.inl h2))))⟩
  ·obtain ⟨_,h2⟩:=zE.1 hg
   split at h2
   ·rename_i c T fz h3
    simp only [ql,qx,qH,qo] at h2
    refine ⟨h2.2,c,T,fz,h3,hD T ?_⟩
    rcases h2.1 with h4 | h4
    ·exact qo.2 (.inl (qo.2 (.inr h4)))
    ·exact qo.2 (.inr h4)
   ·cases h2
def freshB (W:World):Bs:=⟨W,λ _=>False,true⟩
theorem St.anew {B lo hi N:Nat}{a a':Act}{W W':World}{Tp Db Tc:List TypeId}{gs:List Nat}(src:List Nat)(h:St B w0 N Γ Λ a W)(hnd:w0.nd=true)(hk:KD B lo hi Tp Db gs W W')(hlo:B≤lo)(hc:CellsT Tc gs W)(hb:∀ g∈gs,B≤g)
  (hsrc:src.all (λ k=>match Γ[k]? with | some y=>offD (Tc++Tp++Db) y.2.deps | none=>false)=true) (ha:∀ k∈src,∀ y,Γ[k]?=some y→a'.eval (.tmp y.1)=a.eval (.tmp y.1)) (hd:a'.defers=a.defers) (hs:a'.tmps.size=a.tmps.size):St B (freshB W') N (src.filterMap λ k=>Γ[k]?) [] a' W':=by
 have hBW:B≤W.heap.size:=qe (h.lo _ (.inl (qi _))) h.base.size
 refine ⟨λ g hg=>?_,DefOk.nil (hd.trans (h.defers.none hnd)),hs.trans h.size,Kept.refl _,λ x hx=>?_,(λ _ h=>by cases h),(λ _ h=>by cases h)⟩
 ·rcases hg with hg | hg
  ·exact qe hBW (qe hk.size hg)
  ·exact hg.elim
 ·obtain ⟨k,hk1,hk2⟩:=qQ.1 hx
  have hs':=qd.1 hsrc k hk1
  rw [hk2] at hs'
  rw [ha k hk1 x hk2]
  exact VA.kd (h.vals x (qa hk2)) hk hlo hc hb hs'
section
variable {P:Program} {Q:Exit→Act→World→Prop} {ops:Array Oper} {i:Nat} {K:Act→World→Prop} {a:Act} {w:World}
theorem rJ {d c : Nat} {f : FuncId} {xs : List Operand} {gs : List Value} {at_ : Array TypeId} {T : TypeId} {ps : String} {af : Array Edge} {R : Ending → World → Prop} (ho : ops[i]? = some ⟨some d, .call ⟨.value (.tmp c), xs.toArray, at_⟩, T, ps, af, none⟩) (hex : ∃ fn, P.funcs[f]? = some fn ∧ (fn.name == "runtime.NumGoroutine") = false ∧ fn.body.isNone = false)
  (hv:a.eval (.tmp c)=.func (.func f) #[] gs.toArray) (hc:Calls P f (xs.map a.eval++gs).toArray w R) (hK:∀ e w',R e w'→∃ v,e=.returned v∧K (a.put (some d) v) w'):wpOp P ops Q i K a w:=by
 obtain ⟨fn,hf,hn,hb⟩:=hex
 have hrun:(execOp a.eval ⟨some d,.call ⟨.value (.tmp c),xs.toArray,at_⟩,T,ps,af,none⟩).run P w=.ok (.enter f (xs.map a.eval++gs).toArray) w:=by
  simp only [execOp,resolve,hv,Deferred.ofValue,Sem.run_bind,Sem.run_pure,Result.andThen_ok,invoke,bk hf hn hb]
  simp
 unfold wpOp
 simp only [ho,Region.wanted,if_true]
 refine .inl ?_
 unfold Oper.wp
 rw [hrun]
 exact hc.mono λ e w' hr=>by
  obtain ⟨v,rfl,hk⟩:=hK e w' hr
  exact hk
end
section
open Rg
variable {P:Program} {Q:Exit→Act→World→Prop} {B N:Nat} {w0:Bs} {Γ:List (Nat × VA)} {Λ:List Lc} {a:Act} {w:World}
theorem BE {id:Nat}{ops:Array Oper}{sp:List Sp}(n m e j:Nat)(A:As)(src:List Src)
  (hnd:noDefer ops=true) (hQ0:¬ LetsOut Q) (h:St B w0 N Γ Λ a w) (hob:Obs P Q ⟨ops,N,Γ,lesS Λ e j A,sp,λ i=>List.range i⟩ B w0 0 n) (hsz:ops.size=n+m) (hj:n≤j) (hk:Rg.chk ⟨ops,N,Γ,lesS Λ e j A,sp,λ i=>List.range i⟩=true)
  (hsrc:src.all (λ s=>match s with | .g k=>(match Γ[k]? with | some x=>Rg.outG ⟨ops,N,Γ,lesS Λ e j A,sp,λ i=>List.range i⟩ x.1 | none=>false) | .o i=>decide (i<n))=true)
  (hQ:∀ a' w',St B w0 N (src.filterMap (takeS ⟨ops,N,Γ,lesS Λ e j A,sp,λ i=>List.range i⟩)) Λ a' w'→wpOpsIn (fw none) 0 P ops Q (List.range' n m) a' w'):(Code.region id ops false).wpIn (fw none) 0 P Q a w:=by
 refine Rg.linKF (R:=⟨ops,N,Γ,lesS Λ e j A,sp,λ i=>List.range i⟩) (m:=m) hnd hQ0 hsz G hk h (λ y hy _=>?_) (λ i hi=>hob.all i zo zo) λ a1 w1 hinv=>?_
 ·exact (ej y hy).2.1
 ·exact hQ a1 w1 (iX (λ l' hl'=>by
   obtain ⟨j',hj'⟩:=List.getElem?_of_mem hl'
   exact ⟨_,qq.2 ⟨(l',j'),qZ.2 hj',rfl⟩⟩) (λ y hy i B' h1=>by have:=(ej y hy).2.2 i B' h1; omega) hinv src hsrc)
theorem w7 {ops:Array Oper}{i d c l:Nat}{xs:List Operand}{at_:Array TypeId}{K:Act→World→Prop}{R:Ending→World→Prop}(ho:ops[i]?=some ⟨some d,.call ⟨.value (.tmp c),xs.toArray,at_⟩,T,ps,af,none⟩)
  (hv:a.eval (.tmp c)=.func (.yield l) #[] #[]) (hy:YieldAt Fence.wide 0 P l (xs.map a.eval).toArray w R) (hK:∀ e w',R e w'→∃ v,e=.returned v∧K (a.put (some d) v) w'):wpOpIn (fw none) 0 P ops Q i K a w:=by
 obtain ⟨fn,tmps,assign,body,hy,hR⟩:=hy
 have hrun:(execOp a.eval ⟨some d,.call ⟨.value (.tmp c),xs.toArray,at_⟩,T,ps,af,none⟩).run P w=.ok (.round l fn tmps assign body) w:=by
  have hy':(Instr.yield l (xs.map a.eval).toArray).run P w=.ok (.round l fn tmps assign body) w:=hy
  simp only [execOp,resolve,hv,Deferred.ofValue,Sem.run_bind,Sem.run_pure,Result.andThen_ok,invoke]
  simpa using hy'
 have hwant:Region.wanted (⟨some d,.call ⟨.value (.tmp c),xs.toArray,at_⟩,T,ps,af,none⟩:Oper) (yielded ops a.tmps)=true:=rfl
 unfold wpOpIn
 rw [ho]
 simp only [hwant,if_true]
 refine ⟨λ _ _=>trivial,?_⟩
 rw [show Oper.semAt (fw none).round a.eval _=execOp a.eval _ from rfl,hrun]
 refine ⟨λ hh=>(by cases hh),?_⟩
 refine RoundIn.mono hR ?_
 intro e w' hr
 obtain ⟨v,rfl,hk⟩:=hK e w' hr
 exact hk
theorem wa {ops:Array Oper}{i e d:Nat}{K:Act→World→Prop}{b:Bool}(ho:ops[i]?=some ⟨some e,.assign (.tmp d),T,ps,af,none⟩)(hv:a.eval (.tmp d)=.bool b)(hK:K (a.put (some e) (.bool b)) w):wpOpIn (fw none) 0 P ops Q i K a w:=by
 have hwant:Region.wanted (⟨some e,.assign (.tmp d),T,ps,af,none⟩:Oper) (yielded ops a.tmps)=true:=rfl
 unfold wpOpIn
 rw [ho]
 simp only [hwant,if_true]
 refine ⟨λ _ _=>trivial,?_⟩
 rw [show Oper.semAt (fw none).round a.eval _=execOp a.eval _ from rfl,asg_op a w b hv]
 exact hK
theorem Eb {c:Code}(h:c.wpIn (fw none) 0 P Q a w):c.wp P Q a w:=wpIn_wide.1 h
end
def PkR (E:TypeId)(hp:Nat)(w:World)(q:List Int):Prop:=w.heap[hp]?=some (.cells (q.map λ (n:Int)=>Value.int .i64 n).toArray E (0,0))
theorem oJ {lo hi g:Nat}{Tp:List TypeId}{gs:List Nat}{c:Array Value}{fz:Nat × Nat}(h:Wr g w w')(hg:w.heap[g]?=some (.cells c T fz))(h1:lo≤g)(h2:g<hi)(hT:T∈Tp):StpV lo hi Tp gs w w' :=
 ⟨h.os,h.tape,h.output,xp h.size.symm,λ k hk hf=>h.block k λ e=>hf (by subst e; exact .inr ⟨h1,h2,c,T,fz,hg,hT⟩)⟩
section
variable {P:Program} {Q:Exit→Act→World→Prop} {ops:Array Oper} {i:Nat} {K:Act→World→Prop} {a:Act} {w:World}
theorem Fu {p d hp j:Nat}{k:Int}{E ty T':TypeId}{q:List Int}(ho:ops[i]?=some ⟨none,.store ty (.tmp p) (.tmp d),T',ps,af,none⟩)(hpv:a.eval (.tmp p)=.pointer (some ⟨hp,j,none⟩))(hdv:a.eval (.tmp d)=.int .i64 k)
  (hq:PkR E hp w q) (hj:j<q.length) (ht:Ty P ty 1 false) (hK:∀ w',PkR E hp w' (q.set j k)→Wr hp w w'→K (a.put none undef) w'):wpOp P ops Q i K a w:=by
 unfold PkR at hq
 have hrun:=bM ht w hp j E (q.map λ (n:Int)=>Value.int .i64 n).toArray (.int .i64 k) [.int .i64 k] rfl rfl (by simp; omega) (by intro x hx; simp at hx; subst hx; rfl) hq
 have e3:(((q.map λ (n:Int)=>Value.int .i64 n).take j)++[Value.int .i64 k]++((q.map λ (n:Int)=>Value.int .i64 n).drop (j+1)))=(q.set j k).map λ (n:Int)=>Value.int .i64 n:=by
  rw [List.map_set,xv,qz (by simpa using hj)]
  simp
 simp only [e3] at hrun
 unfold wpOp
 simp only [ho,Region.wanted,if_true]
 refine .inl (wp_skip' (w':=w.setRow hp ((q.set j k).map λ (n:Int)=>Value.int .i64 n).toArray) ?_ (hK _ ?_ (Wr.setRow w hp _)))
 ·simp [execOp,hpv,hdv,Instr.storeAt,Instr.sureAddr,hrun]
 ·exact setRow_heap w hp _ _ _ _ hq
end
structure DnE where
 l:Nat
 B:Nat
 lo:Nat
 hi:Nat
 hp:Nat
 n:Nat
 gT:Nat
 gP:Nat
 gY:Nat
 gA:Nat
 gD:Nat
 t:RTk
 ah:List Nat
 Db:List TypeId
 gs:List Nat
 M:Nat
 J:Nat→World→Prop
 Jx:World→Prop
def DnE.cap (e:DnE):List Value:=[ptr e.gT,ptr e.gP,ptr e.gY,ptr e.gA,ptr e.gD]
def DnE.pk (e:DnE)(k:Nat):List Nat:=exW e.t.ps.length e.ah e.n 0 k
def dnK (i:Nat):Nat:=1+4097*(2*i)
def DnE.F (e:DnE)(w:World):Prop :=
 (ElP 30 (TkO e.t)).p e.B (ptr e.gT) w∧(ElP 31 (EqA (.slice (some ⟨e.hp,0,none⟩) e.n e.n))).p e.B (ptr e.gP) w∧(ElP 112 (EqA (.func (.yield e.l) #[] #[]))).p e.B (ptr e.gY) w ∧
  (ElP 31 (SlO 3 [] (e.ah.map λ (k:Nat)=>InA (k:Int)) True)).p e.B (ptr e.gA) w∧(ElP 113 (EqA (.func (.func 106) #[] e.cap.toArray))).p e.B (ptr e.gD) w
def DnE.Y (e:DnE)(k:Nat):List VA:=[(WyA (dnK (e.n+2)+4200) (wayW e.t (e.pk k))).va]
structure DnE.Ok (e:DnE):Prop where
 lo:e.B≤e.lo
 gs:∀ g∈e.gs,e.B≤g
 hp:e.lo≤e.hp∧e.hp<e.hi
 ck:ckF e.t=0
 n:e.t.sp.length=e.n+1
 ah:e.ah.length≤e.n∧∀ x∈e.ah,x<e.t.ps.length
 M:e.M=cntW e.t.ps.length e.ah.length e.n 0
 Db:offD e.Db [30,31,112,113,U32,28,115]=true
 st:∀ k W W',k<e.M→e.J k W→StpV e.lo e.hi [3] e.gs W W'→CellsT [30,31] e.gs W'→e.J k W'
 stM:∀ W W',e.J e.M W→StpI e.gs W W'→CellsT [30,31] e.gs W'→e.J e.M W'
 stx:∀ W W',e.Jx W→StpI e.gs W W'→CellsT [30,31] e.gs W'→e.Jx W'
 ct:∀ k W,e.J k W→CellsT [30,31] e.gs W
 ctx:∀ W,e.Jx W→CellsT [30,31] e.gs W
 yd:∀ k W args,k<e.M→e.J k W→All2 (λ (A:VA) v=>A.p e.B v W) (e.Y k) args→YieldAt Fence.wide 0 Tryz.prog e.l args.toArray W λ x W'=>(x=.returned (.bool true)∧e.J (k+1) W'∧Stp e.B e.Db (e.gs++List.range' e.lo (e.hi-e.lo)) W W') ∨
  (x=.returned (.bool false)∧e.Jx W'∧W.heap.size≤W'.heap.size∧∀ D:Nat,W.heap[D]?=some (.deferred (some []))→W'.heap[D]?=some (.deferred (some [])))
def DnC (e:DnE)(f i:Nat):Prop:=∀ (pre:List Nat) (k:Nat) (w:World) (q:List Int) (vr:Value),pre.length=i→i+f=e.n→(∀ x∈pre,x<e.t.ps.length) →
 (∀ r,r<cntW e.t.ps.length e.ah.length f i→e.pk (k+r)=pre++exW e.t.ps.length e.ah f i r)→k+cntW e.t.ps.length e.ah.length f i≤e.M→e.J k w→e.F w→PkR 3 e.hp w q→q.length=e.n→q.take i=pre.map (λ (x:Nat)=>(x:Int)) →
 (CoA (dnK i) (prodQ (benP e.t pre))).va.p e.B vr w →
 Calls Tryz.prog 106 ([.int .i64 (i:Nat),.int .i64 (cosW e.t pre),vr]++e.cap).toArray w λ x w' =>
  (x=.returned (.bool true)∧e.J (k+cntW e.t.ps.length e.ah.length f i) w'∧KD e.B e.lo e.hi [3] e.Db [] w w'∧∃ q',PkR 3 e.hp w' q'∧q'.length=e.n∧q'.take i=q.take i)∨(x=.returned (.bool false)∧e.Jx w'∧w.heap.size≤w'.heap.size)
theorem DnE.F.kd {e:DnE}(ok:e.Ok){w w':World}(h:e.F w)(hk:KD e.B e.lo e.hi [3] e.Db [] w w'):e.F w':=by
 obtain ⟨h1,h2,h3,h4,h5⟩:=h
 have hD:∀ T∈e.Db,T ∉ [30,31,112,113,U32,28,115]:=eB ok.Db
 have key:∀ {deps:List TypeId},deps.all (λ T=>[30,31,112,113,U32,28,115].contains T)=true→offD ([]++[3]++e.Db) deps=true:=λ {deps} hd=>qd.2 λ T hT=>by
  have hd':=qd.1 hd T hT
  have hm:T∈[30,31,112,113,U32,28,115]:=by simpa using hd'
  have hn:T ∉ []++[3]++e.Db:=λ hh=>by
   rcases qo.1 hh with hh | hh
   ·have:T=3:=by simpa using hh
    subst this
    exact absurd hm zd
   ·refine hD T hh ?_
    simp only [qt,z5,or_false] at hm ⊢
    rcases hm with h | h | h | h | h | h | h <;> simp [h]
  simpa using hn
 have hv:=λ {A:VA} {v:Value} (hp:A.p e.B v w) (hd:A.deps.all (λ T=>[30,31,112,113,U32,28,115].contains T)=true)=>VA.kd (Tc:=[]) hp hk ok.lo (λ g hg=>by cases hg) (λ g hg=>by cases hg) (key hd)
 exact ⟨hv h1 zk,hv h2 zk,hv h3 zk,hv h4 zk,hv h5 zk⟩
theorem dn_rep {t:RTk}{l:List Nat}(h:(benP t l).all elF=true):RepM (1+4097*(benP t l).length) (prodQ (benP t l)):=by
 have:=mt h (benP t l).length (qi _)
 rwa [qF] at this
theorem sH (t:RTk):∀ l:List Nat,(benP t l).length=2*l.length:=λ l=>by
 unfold benP
 rw [List.length_flatMap]
 have h:∀ m:Nat,((List.range m).map λ _=>2).sum=2*m:=λ m=>by
  induction m with
  | zero=>rfl
  | succ m ih=>rw [List.range_succ,zF,vz,ih]; simp; omega
 exact h l.length
theorem ek {B lo hi:Nat}{Tp Db:List TypeId}{gs:List Nat}{W W' W'':World}(h:KD B lo hi Tp Db gs W W')(h':KD B lo hi Tp Db gs W' W''):KD B lo hi Tp Db gs W W'':=by
 refine ⟨h'.os.trans h.os,h'.tape.trans h.tape,h'.output.trans h.output,qe h.size h'.size,λ k hk hf=>?_⟩
 have hk1:k<W.heap.size:=hk
 have e1:W'.heap[k]?=W.heap[k]?:=h.block k hk hf
 refine (h'.block k (qE hk1 h.size) λ hF=>hf ?_).trans e1
 rcases hF with hF | ⟨h1,h2,c,T,fz,h3,h4⟩ | ⟨h1,c,T,fz,h3,h4⟩
 ·exact .inl hF
 ·exact .inr (.inl ⟨h1,h2,c,T,fz,e1.symm.trans h3,h4⟩)
 ·exact .inr (.inr ⟨h1,c,T,fz,e1.symm.trans h3,h4⟩)
theorem St.entry {B N:Nat}{pre:List VA}{args:List Value}(hB:B≤w.heap.size)(ha:All2 (λ (A:VA) v=>A.p B v w) pre args)(hn:pre.length≤N):St B (freshB w) N (argΓ pre) [] { tmps:=args.toArray++Array.replicate (N-args.toArray.size) undef,defers:=[] } w:=by
 have hl:=ha.length
 refine ⟨λ g hg=>qe hB (hg.resolve_right λ h=>h),DefOk.nil rfl,?_,Kept.refl _,All2.args ha,(λ l hl=>by cases hl),(λ l hl=>by cases hl)⟩
 simp only [zZ,zV,qJ]
 omega
theorem dn_s {e:DnE}(ok:e.Ok){i:Nat}(hi:i≤e.n):∃ h:i<e.t.sp.length,okX e.t.sp[i]=true∧elF (spE e.t.sp[i])=true:=by
 have hlt:i<e.t.sp.length:=by rw [ok.n]; omega
 refine ⟨hlt,?_⟩
 have hc:=ok.ck
 unfold ckF at hc
 have h0:hdF e.t=false:=by
  by_cases h:hdF e.t=true
  ·rw [qz h] at hc; exact absurd hc zd
  ·exact xk.2 h
 rw [qw (by rw [h0]; decide)] at hc
 have h1:e.t.sp.all spcF=true:=by
  by_cases h:e.t.sp.all spcF=true
  ·exact h
  ·rw [qz (by rw [xk.2 h]; rfl)] at hc; exact absurd hc zd
 have h2:=qd.1 h1 _ (qf hlt)
 unfold spcF at h2
 simp only [qv,qI,qk] at h2
 have h3:okX e.t.sp[i]=true:=by
  by_cases h:okX e.t.sp[i]=true
  ·exact h
  ·have:=h2.1
   rw [qw h] at this
   exact absurd this zd
 refine ⟨h3,?_⟩
 unfold elF spE
 rw [ql]
 refine ⟨?_,?_⟩
 ·simp only [xS,x8,xT,ql]
  exact ⟨h3,by kernel_rfl⟩
 ·show elK 1 _ _=true
  rw [kd1 (by rfl)]
  rw [ql]
  refine ⟨qC (show (toQ e.t.sp[i]).num.sign≥0 from by have:=h2.2; omega),by kernel_rfl⟩
theorem fv {t:RTk}(h:ckF t=0):hdF t=false∧t.sp.all spcF=true∧t.ps.all ptF=true:=by
 unfold ckF at h
 by_cases h0:hdF t=true
 ·rw [qz h0] at h; exact absurd h zd
 ·rw [qw h0] at h
  by_cases h1:t.sp.all spcF=true
  ·rw [qw (by rw [h1]; decide)] at h
   by_cases h2:t.ps.all ptF=true
   ·exact ⟨xk.2 h0,h1,h2⟩
   ·rw [qz (by rw [xk.2 h2]; rfl)] at h; exact absurd h zd
  ·rw [qz (by rw [xk.2 h1]; rfl)] at h; exact absurd h zd
theorem dn_p {t:RTk}(h:ckF t=0){x:Nat}(hx:x<t.ps.length):elF (t.ps.getD x ⟨⟨#[]⟩,⟨0,rf0,rf0⟩,0⟩).e=true:=by
 have h1:=qd.1 (fv h).2.2 _ (qf hx)
 unfold ptF at h1
 simp only [qv,qI] at h1
 have h2:chF [t.ps[x].e]=0:=by simpa using h1.1.1.2
 have h3:=(ch_ok h2).2
 rw [show t.ps.getD x ⟨⟨#[]⟩,⟨0,rf0,rf0⟩,0⟩=t.ps[x] from by simp [List.getD,hx]]
 simpa using h3
theorem dn_all {e:DnE}(ok:e.Ok){l:List Nat}(hl:l.length≤e.n)(hp:∀ x∈l,x<e.t.ps.length):(benP e.t l).all elF=true:=by
 rw [qd]
 intro y hy
 unfold benP at hy
 obtain ⟨i,hi,hy⟩:=kc.1 hy
 have hi':i<l.length:=jS.1 hi
 simp only [qt,z5,or_false] at hy
 rcases hy with rfl | rfl
 ·obtain ⟨hlt,_,h⟩:=dn_s ok (i:=i) zo
  rw [show e.t.sp.getD i rf0=e.t.sp[i] from by simp [List.getD,hlt]]
  exact h
 ·refine dn_p ok.ck ?_
  rw [show l.getD i 0=l[i] from by simp [List.getD,hi']]
  exact hp _ (qf hi')
theorem dn_m {e:DnE}(ok:e.Ok){l:List Nat}(hl:l.length≤e.n)(hp:∀ x∈l,x<e.t.ps.length):RepM (dnK l.length) (prodQ (benP e.t l)):=by
 have h:=dn_rep (dn_all ok hl hp)
 rw [sH] at h
 exact h
theorem dn_n {e:DnE}(ok:e.Ok):1≤e.n∧e.n≤12:=by
 have:=hd_b (fv ok.ck).1
 have:=ok.n
 omega
theorem dn_K {e:DnE}(ok:e.Ok){i:Nat}(hi:i≤e.n):dnK i≤200000:=by
 have:=(dn_n ok).2
 unfold dnK
 omega
theorem iF:Str Tryz.prog 76 [EqA (.slice none 0 0),RFA rf0,RFA rf0,NumA .i64 0] :=
 Str.of (z:=.agg #[.slice none 0 0,.bool false,.slice none 0 0,.bool false,.slice none 0 0,.bool false,.slice none 0 0,.bool false,.slice none 0 0,.int .i64 0]) zk Tryz.underlying76 zk λ B w=>⟨[[.slice none 0 0],[.bool false,.slice none 0 0,.bool false,.slice none 0 0],[.bool false,.slice none 0 0,.bool false,.slice none 0 0],[.int .i64 0]],rfl,.cons ⟨rfl,rfl⟩ (.cons (dX B w) (.cons (dX B w) (.cons rfl .nil)))⟩
theorem D0 (x:RF)(m:MQ):m.a+toQ x*m.c=(mulQ (elM (spE x)) m).a∧m.c=(mulQ (elM (spE x)) m).c:=by
 rw [HV (x:=spE x) rfl]
 constructor
 ·show m.a+toQ x*m.c=1*m.a+toQ x*m.c
  rw [jy]
 ·show m.c=0*m.a+1*m.c
  rw [kD,jy,Rat.zero_add]
theorem lm {f:FuncId}{fn:Func}{c:Code}{R:Ending→World→Prop}(pre:List VA){args:List Value}(hf:P.funcs[f]?=some fn)(hb:fn.body=some c)(hB:B≤w.heap.size)(ha:All2 (λ (A:VA) v=>A.p B v w) pre args)(hn:pre.length≤fn.ntmps)
  (h:∀ (w0:Bs) (a:Act),w0=freshB w→St B w0 fn.ntmps (argΓ pre) [] a w→c.wp P (bPost P fn R) a w):Calls P f args.toArray w R:=bS hf hb (h _ _ rfl (St.entry hB ha hn))
section
open Rg
variable {P:Program} {Q:Exit→Act→World→Prop} {R:Rg} {B i:Nat} {w0:Bs}
theorem r_lenQ {x:Operand}{S E':TypeId}{A:Option Addr}{n c:Nat}(hS:P.underlying S=some (.slice E'))(hx:Has R B w0 i x (EqA (.slice A n c)).va):Wv P Q R B w0 i (.call ⟨.builtin .len,#[x],#[S]⟩) (In (n:Nat)) :=
 bj λ d T ps af gd a w av=>by
  have hv':a.eval x=.slice A n c:=gX (hx a w av)
  refine ⟨.int .i64 n,w,?_,Grow.refl w,bN _ _ _ _⟩
  simp [execOp,resolve,invoke,builtin,hv',Builtin.len_,run_underlying hS,goInt]
end
theorem wV {lo hi:Nat}{Tp:List TypeId}{gs:List Nat}(h:Grow w w'):StpV lo hi Tp gs w w':=⟨h.os,h.tape,h.output,h.size,λ k hk _=>h.block k hk⟩
theorem cL {gs:List Nat}(h:Grow w w'):StpI gs w w':=⟨h.os,h.tape,h.output,h.size,λ k hk _=>h.block k hk⟩
theorem CellsT.grow {Tc:List TypeId}{gs:List Nat}(h:CellsT Tc gs w)(hg:Grow w w'):CellsT Tc gs w':=λ g hm=>by
 obtain ⟨c,T,fz,h1,h2⟩:=h g hm
 exact ⟨c,T,fz,hg.heap h1,h2⟩
theorem bB (h:Kept (freshB w) w'):Grow w w':=⟨h.os,h.tape,h.output,h.size,λ k hk=>h.block k hk (λ h=>h)⟩
theorem wO {B lo hi:Nat}{Tp Db:List TypeId}{gs:List Nat}(h:Grow w w'):KD B lo hi Tp Db gs w w':=wP wN h
theorem dZ {E:TypeId}{hp:Nat}{q:List Int}(h:PkR E hp w q)(hg:Grow w w'):PkR E hp w' q:=hg.heap h
theorem DnE.F.grow {e:DnE}{w w':World}(h:e.F w)(hg:Grow w w'):e.F w':=by
 obtain ⟨h1,h2,h3,h4,h5⟩:=h
 exact ⟨VA.grow _ _ _ _ _ hg h1,VA.grow _ _ _ _ _ hg h2,VA.grow _ _ _ _ _ hg h3,VA.grow _ _ _ _ _ hg h4,VA.grow _ _ _ _ _ hg h5⟩
theorem DnE.Ok.grow {e:DnE}(ok:e.Ok){k:Nat}{w w':World}(hk:k≤e.M)(hJ:e.J k w)(hg:Grow w w'):e.J k w':=by
 have hc:=(ok.ct k w hJ).grow hg
 by_cases h:k=e.M
 ·rw [h] at hJ ⊢
  exact ok.stM _ _ hJ (cL hg) hc
 ·exact ok.st _ _ _ zo hJ (wV hg) hc
theorem DnE.Ok.growx {e:DnE}(ok:e.Ok)(hJ:e.Jx w)(hg:Grow w w'):e.Jx w':=ok.stx _ _ hJ (cL hg) ((ok.ctx w hJ).grow hg)
def DnE.R (e:DnE)(f i k:Nat)(q:List Int)(w:World):Ending→World→Prop:=λ x w' =>
 (x=.returned (.bool true)∧e.J (k+cntW e.t.ps.length e.ah.length f i) w'∧KD e.B e.lo e.hi [3] e.Db [] w w'∧∃ q',PkR 3 e.hp w' q'∧q'.length=e.n∧q'.take i=q.take i)∨(x=.returned (.bool false)∧e.Jx w'∧w.heap.size≤w'.heap.size)
theorem DnE.R.grow {e:DnE}(ok:e.Ok){f i k:Nat}{q:List Int}{w:World}{x:Ending}{w1 w2:World}(hk:k+cntW e.t.ps.length e.ah.length f i≤e.M)(h:e.R f i k q w x w1)(hg:Grow w1 w2):e.R f i k q w x w2:=by
 rcases h with ⟨h1,h2,h3,q',h4,h5⟩ | ⟨h1,h2,h3⟩
 ·exact .inl ⟨h1,ok.grow hk h2 hg,wP h3 hg,q',dZ h4 hg,h5⟩
 ·exact .inr ⟨h1,ok.growx h2 hg,qe h3 hg.size⟩
theorem St.bare {B N:Nat}(h:St B w0 N Γ Λ a w)(hnd:w0.nd=true)(hs:w.heap.size≤w'.heap.size):St B (freshB w') N [] [] a w':=by
 have hBW:B≤w.heap.size:=qe (h.lo _ (.inl (qi _))) h.base.size
 refine ⟨λ g hg=>?_,DefOk.nil (h.defers.none hnd),h.size,Kept.refl _,(λ _ h=>by cases h),(λ _ h=>by cases h),(λ _ h=>by cases h)⟩
 rcases hg with hg | hg
 ·exact qe hBW (qe hs hg)
 ·exact hg.elim
theorem St.ofPtr {B N:Nat}(h:St B w0 N Γ Λ a w){s:Nat}{A:As}(k:Nat)(hm:Λ[k]?=some ⟨s,T,ptrH,A⟩):St B w0 N ((s,ElP T A)::Γ) (Λ.eraseIdx k) a w:=by
 have hsub:∀ l'∈Λ.eraseIdx k,l'∈Λ:=λ l' hl'=>xi hl'
 refine ⟨h.lo,h.defers,h.size,h.base,λ x hx'=>?_,λ l' hl'=>h.locs l' (hsub l' hl'),λ l1 h1 l2 h2 hne=>h.dis l1 (hsub l1 h1) l2 (hsub l2 h2) hne⟩
 rcases qt.1 hx' with rfl | hx'
 ·obtain ⟨g,cs,h1,_,h3,h4⟩:=h.locs _ (qa hm)
  refine ⟨g,0,cs,h1,(Array.getElem?_eq_some_iff.1 h3).1,.inr ⟨_,_,h3⟩,h4,λ j v hv=>?_⟩
  rw [qO,cell_of_row w g j cs.toArray T _ h3]
  simpa using hv
 ·exact h.vals x hx'
theorem sk {fn:Func}{R:Ending→World→Prop}{B N t:Nat}{b:Bool}(hr:fn.results = #[.tmp t])(h:St B w0 N Γ Λ a w)(hnd:w0.nd=true)(hm:(t,Bo b)∈Γ)(hR:R (.returned (.bool b)) w)(hg:∀ x w1 w2,R x w1→Grow w1 w2→R x w2):bPost P fn R .ret a w:=by
 refine ⟨[],h.defers.none hnd,.nil,(λ _ h=>by cases h),λ w' hs=>⟨_,results_tmp hr a.tmps P w',?_⟩⟩
 have e:a.tmps.getD t undef=.bool b:=dg (h.vals _ hm)
 rw [e]
 exact hg _ _ _ hR ⟨hs.os,hs.tape,hs.output,xp hs.size.symm,λ k _=>hs.block k (by simp)⟩
theorem cV {B:Nat}{w:World}:∀ (ws:List Int),(cat (ws.map InA)).p B (ws.map λ (n:Int)=>Value.int .i64 n) w
 | []=>⟨[],rfl,.nil⟩
 | n::ws=>by
  obtain ⟨ps,h1,h2⟩:=cV (B:=B) (w:=w) ws
  exact ⟨[.int .i64 n]::ps,by rw [qN,h1]; rfl,.cons G h2⟩
theorem HD {k k1 k2 B hp n:Nat}{ws:List Int}{p q:Rat}{c:Int}(h:(cat [EqA (.slice (some ⟨hp,0,none⟩) n n),QA k1 p,QA k2 q,NumA .i64 c]).va.p B v w)(hr:PkR 3 hp w ws)(hn:ws.length=n)(hm:n≤1000)(h1:WkA (QA k1 p) (QA k p))(h2:WkA (QA k2 q) (QA k q)):(WyA k ⟨ws,p,q,c⟩).va.p B v w:=by
 obtain ⟨cs,⟨ps,rfl,hps⟩,rfl⟩:=h
 cases hps with
 | cons q1 hps =>
  cases hps with
  | cons q2 hps =>
   cases hps with
   | cons q3 hps =>
    refine ⟨_,⟨_,rfl,.cons ?_ (.cons (h1.2.2 _ _ _ q2) (.cons (h2.2.2 _ _ _ q3) hps))⟩,rfl⟩
    obtain ⟨rfl,_⟩:=q1
    refine ⟨λ A hA T hT=>?_,_,n,_,by rw [qc,hn],by rw [qc,hn]; exact qi _,by unfold maxLen; omega,cV ws,λ _=>⟨hp,0,rfl,(Array.getElem?_eq_some_iff.1 hr).1,.inr ⟨_,_,hr⟩,λ j u hu=>?_⟩⟩
    ·obtain ⟨x,_,rfl⟩:=qq.1 hA
     cases hT
    ·rw [qO,cell_of_row w hp j _ 3 _ hr]
     simpa using hu
theorem sw {t:RTk}(h:ckF t=0):∀ {l:List Nat},(∀ x∈l,x<t.ps.length)→0≤cosW t l∧cosW t l≤1073741824*(l.length:Int)
 | [],_=>by simp [cosW]
 | x::l,hp=>by
  obtain ⟨h1,h2⟩:=sw h (l:=l) λ y hy=>hp y (qX _ hy)
  have hx:x<t.ps.length:=hp x xe
  have h3:=qd.1 (fv h).2.2 _ (qf hx)
  unfold ptF at h3
  simp only [qv,qI,qk] at h3
  have h4:cosW t (x::l)=t.ps[x].c+cosW t l:=by
   unfold cosW
   rw [qN,z4,show t.ps.getD x ⟨⟨#[]⟩,⟨0,rf0,rf0⟩,0⟩=t.ps[x] from by simp [List.getD,hx]]
  rw [h4,zy]
  have:=h3.1.2
  have:=h3.2
  omega
def dnD (e:DnE)(f i j:Nat):Nat:=if i<e.ah.length then (if e.ah.getD i 0<j then cntW e.t.ps.length e.ah.length f (i+1) else 0) else j*cntW e.t.ps.length e.ah.length f (i+1)
theorem dnD_0 (e:DnE)(f i:Nat):dnD e f i 0=0:=by
 unfold dnD
 split
 ·rw [qw zo]
 ·rw [x3]
theorem yC {e:DnE}(ok:e.Ok)(f i:Nat):dnD e f i e.t.ps.length=cntW e.t.ps.length e.ah.length (f+1) i:=by
 unfold dnD
 split
 ·rename_i h
  rw [qz,pS h]
  rw [List.getD,List.getElem?_eq_getElem h]
  exact ok.ah.2 _ (qf h)
 ·rename_i h
  rw [pR h]
theorem Ci {e:DnE}{f i j:Nat}(h:i<e.ah.length)(h2:e.ah.getD i 0≠j):dnD e f i (j+1)=dnD e f i j:=by
 unfold dnD
 rw [qz h,qz h]
 by_cases h3:e.ah.getD i 0<j
 ·rw [qz h3,qz zo]
 ·rw [qw h3,qw zo]
theorem DN {e:DnE}{f i j:Nat}(h:i<e.ah.length→e.ah.getD i 0=j):dnD e f i (j+1)=dnD e f i j+cntW e.t.ps.length e.ah.length f (i+1):=by
 unfold dnD
 by_cases h1:i<e.ah.length
 ·rw [qz h1,qz h1,qz (by have:=h h1; omega),qw (by have:=h h1; omega),qO]
 ·rw [qw h1,qw h1,xL,jO]
theorem DM {e:DnE}{f i j:Nat}(hj:j<e.t.ps.length)(h:i<e.ah.length→e.ah.getD i 0=j):dnD e f i j+cntW e.t.ps.length e.ah.length f (i+1)≤cntW e.t.ps.length e.ah.length (f+1) i:=by
 rw [← DN h]
 unfold dnD
 by_cases h1:i<e.ah.length
 ·rw [qz h1,qz (by have:=h h1; omega),pS h1]; exact qi _
 ·rw [qw h1,pR h1]
  exact qR _ hj
theorem dn_pk {e:DnE}{f i j k:Nat}{pre:List Nat}(hp:∀ r,r<cntW e.t.ps.length e.ah.length (f+1) i→e.pk (k+r)=pre++exW e.t.ps.length e.ah (f+1) i r)(hj:j<e.t.ps.length)(h:i<e.ah.length→e.ah.getD i 0=j) :
  ∀ r,r<cntW e.t.ps.length e.ah.length f (i+1)→e.pk (k+dnD e f i j+r)=(pre++[j])++exW e.t.ps.length e.ah f (i+1) r:=λ r hr=>by
 have hle:=DM (f:=f) hj h
 rw [xR,hp _ zo,za]
 refine qm (pre ++ ·) ?_
 unfold dnD
 by_cases h1:i<e.ah.length
 ·have h2:=h h1
  rw [qz h1,qw zo,qO,ou h1,xu]
  rw [List.getD,List.getElem?_eq_getElem h1] at h2
  have h2':e.ah[i]=j:=h2
  rw [h2']
 ·rw [qw h1,yr h1 hr,xu]
theorem me {q p:List Int}{i:Nat}{v:Int}(h:q.take i=p)(hi:i<q.length):(q.set i v).take (i+1)=p++[v]:=by
 rw [qu (by rw [zG]; exact hi),kS (qi _),h,List.getElem_set_self]
theorem Cv {Tc:List TypeId}{gs:List Nat}{g:Nat}{c:Array Value}{fz:Nat × Nat}(h:CellsT Tc gs w)(hw:Wr g w w')(hg:w.heap[g]?=some (.cells c T fz))(hT:T ∉ Tc):CellsT Tc gs w':=λ k hk=>by
 obtain ⟨c',T',fz',h1,h2⟩:=h k hk
 exact ⟨c',T',fz',(hw.block k (λ e=>by
  subst e
  rw [hg] at h1
  injection h1 with h1
  injection h1 with _ h1 _
  exact hT (by rw [h1]; exact h2))).trans h1,h2⟩
theorem pk_stp {b lo hi:Nat}{gs:List Nat}{W W':World}{E:TypeId}{hp:Nat}{q:List Int}(h:Stp b D (gs++List.range' lo (hi-lo)) W W')(h1:lo≤hp)(h2:hp<hi)(hq:PkR E hp W q):PkR E hp W' q :=
 h.held hq (qo.2 (.inr (vf.2 ⟨h1,by omega⟩)))
theorem lE {o:Option Nat}{n:Nat}{ops:Array Oper}{Q:Exit→Act→World→Prop}(h:Q .normal a w):wpOpsIn (fw o) n P ops Q [] a w:=h
theorem Ga {B lo hi:Nat}{Tp Db:List TypeId}{gs:List Nat}{W W':World}(h:Stp B Db gs W W'):KD B lo hi Tp Db [] W W' :=
 ⟨h.os,h.tape,h.output,h.size,λ k hk hf=>h.block k hk λ hF=>hf (by
  rcases hF with ⟨h1,h2 | ⟨_,h2⟩⟩
  ·have hk':k<W.heap.size:=hk
   omega
  ·exact .inr (.inr ⟨h1,h2⟩))⟩
theorem ah_at {ah:List Nat}{i:Nat}(h:i<ah.length):(ah.map λ (k:Nat)=>InA (k:Int))[i]?=some (InA ((ah.getD i 0:Nat):Int)):=by
 rw [List.getElem?_map,List.getElem?_eq_getElem h,List.getD,List.getElem?_eq_getElem h]; rfl
theorem St.anewD {e:DnE}(ok:e.Ok){N:Nat}{a a':Act}{W W':World}(src:List Nat)(h:St e.B w0 N Γ Λ a W)(hnd:w0.nd=true)(hk:KD e.B e.lo e.hi [3] e.Db [] W W')
  (hsrc:src.all (λ k=>match Γ[k]? with | some y=>y.2.deps.all (λ T=>[30,31,112,113,U32,28,115].contains T) | none=>false)=true) (ha:∀ k∈src,∀ y,Γ[k]?=some y→a'.eval (.tmp y.1)=a.eval (.tmp y.1)) (hd:a'.defers=a.defers) (hs:a'.tmps.size=a.tmps.size):St e.B (freshB W') N (src.filterMap λ k=>Γ[k]?) [] a' W':=by
 have hD:∀ T∈e.Db,T ∉ [30,31,112,113,U32,28,115]:=eB ok.Db
 have key:∀ {deps:List TypeId},deps.all (λ T=>[30,31,112,113,U32,28,115].contains T)=true→offD ([]++[3]++e.Db) deps=true:=λ {deps} hd=>qd.2 λ T hT=>by
  have hd':=qd.1 hd T hT
  have hm:T∈[30,31,112,113,U32,28,115]:=by simpa using hd'
  have hn:T ∉ []++[3]++e.Db:=λ hh=>by
   rcases qo.1 hh with hh | hh
   ·have:T=3:=by simpa using hh
    subst this
    exact absurd hm zd
   ·refine hD T hh ?_
    simp only [qt,z5,or_false] at hm ⊢
    rcases hm with h | h | h | h | h | h | h <;> simp [h]
  simpa using hn
 refine h.anew (Tc:=[]) src hnd hk ok.lo (λ g hg=>by cases hg) (λ g hg=>by cases hg) (qd.2 λ k hk=>?_) ha hd hs
 have:=qd.1 hsrc k hk
 cases hy:Γ[k]? with
 | none=>rw [hy] at this; cases this
 | some y=>rw [hy] at this; exact key this
set_option maxHeartbeats 4000000 in
theorem yA {e:DnE}(ok:e.Ok){f i:Nat}(ih:∀ f',f'+1=f→∀ i,DnC e f' i):DnC e f i:=by
 intro pre k wE q vr hpl hif hpp hpk hkM hJ hF hq hql hqi hvr
 obtain ⟨hlt,hsx,hel⟩:=dn_s ok (i:=i) zo
 have htg:okX e.t.tg=true:=(hd_b (fv ok.ck).1).2.2.2.2
 have hn12:=dn_n ok
 have hsl:=ok.n
 obtain ⟨m,hme⟩:∃ m,prodQ (benP e.t pre)=m:=⟨_,rfl⟩
 have hbw0:=lQ (benP e.t pre) (spE (e.t.sp.getD pre.length rf0))
 rw [hme] at hvr hbw0
 have hm:RepM (dnK i) m:=by rw [← hme,← hpl]; exact dn_m ok zo hpp
 have hKb:dnK i≤200000:=dn_K ok zo
 have hBw:e.B≤wE.heap.size:=by have:=(Array.getElem?_eq_some_iff.1 hq).1; have:=ok.lo; have:=ok.hp; omega
 obtain ⟨hco1,hco2⟩:=sw ok.ck hpp
 obtain ⟨B,hBe⟩:∃ B,e.B=B:=⟨_,rfl⟩
 have hKi:dnK (i+1)=dnK i+4097+4097:=by unfold dnK; omega
 obtain ⟨K,hK⟩:∃ K,dnK i=K:=⟨_,rfl⟩
 rw [hK] at hvr hm hKb hKi
 have hxe:e.t.sp.getD pre.length rf0=e.t.sp[i]:=by rw [hpl]; simp [List.getD,hlt]
 obtain ⟨x,hx⟩:∃ x,e.t.sp[i]=x:=⟨_,rfl⟩
 rw [hx] at hsx hel hxe
 rw [hxe] at hbw0
 obtain ⟨m1,hm1⟩:∃ m1,mulQ (elM (spE x)) m=m1:=⟨_,rfl⟩
 have hm1r:RepM (K+4097) m1:=by rw [← hm1]; exact fm hel hm
 have hbw:prodQ (benW e.t pre)=m1:=by rw [← hm1,← hbw0]; unfold benW; rw [hxe]
 have hpw:powW e.t pre = -m1.c:=by unfold powW; rw [hbw]
 have haw:awaW e.t pre=if (-m1.c-toQ e.t.tg).num.sign<0 then -(-m1.c-toQ e.t.tg) else -m1.c-toQ e.t.tg:=by unfold awaW; rw [hpw]
 obtain ⟨F1,F2,F3,F4,F5⟩:=id hF
 rw [hBe] at F1 F2 F3 F4 F5 hvr hBw
 refine lm (R:=e.R f i k q wE) (B:=B) [In (i:Nat),In (cosW e.t pre),(CoA K m).va,ElP 30 (TkO e.t),ElP 31 (EqA (.slice (some ⟨e.hp,0,none⟩) e.n e.n)),ElP 112 (EqA (.func (.yield e.l) #[] #[])),ElP 31 (SlO 3 [] (e.ah.map λ (k:Nat)=>InA (k:Int)) True),ElP 113 (EqA (.func (.func 106) #[] e.cap.toArray))] Tryz.func106 G hBw (.cons (bN _ _ _ _) (.cons (bN _ _ _ _) (.cons hvr (.cons F1 (.cons F2 (.cons F3 (.cons F4 (.cons F5 .nil)))))))) nq (λ w0 a hw0 U=>?_)
 subst hw0
 obtain ⟨w,hw⟩:∃ w,w=wE:=⟨_,rfl⟩
 have U:St B (freshB wE) 92 [(0,_),(1,_),(2,_),(3,_),(4,_),(5,_),(6,_),(7,_)] [] a wE:=U
 refine qb<|zg [] [⟨10,115,ptrH,some 0,_,none⟩] [.alc 0,.v 11 _] [.g 0,.g 1,.g 3,.g 4,.g 5,.g 6,.g 7,.o 1] U (zW 2 G (zv G (ac aJ) o0)) (λ a w U=>?_)
 have U:St B (freshB wE) 92 [(0,_),(1,_),(3,_),(4,_),(5,_),(6,_),(7,_),(11,_)] [O 10 115 _] a w:=U
 refine aa<|wp_scope_straight ?_
 refine qb<|zgd [[],[0],[],[2],[],[2,3,4],[2,3,4,5],[],[7],[2,3,4,5,6,7,8],[0,1,2,3,4,5,6,7,8,9],[0,1,2,3,4,5,6,7,8,9,10],[0,1,2,3,4,5,6,7,8,9,10,11]] [some (12,_)] [] [.adr 15 10 (.some 0) True,.v 16 _,.v 17 _,.v 18 _,.v 19 _,.v 20 _,.v 21 _,.adr 22 10 (.some 4) True,.v 23 _,.v 24 _,.v 25 _,.adr 26 10 (.some 0) True,.sto 0] [.g 0,.g 1,.g 2,.g 3,.g 4,.g 5,.g 6,.g 7] ae U (zO 0 G ca (zL 0 0 0 G ax (zv G (bL (gq 2 G) bU (Sub.part 0 G G)) (zv G (au (vq 2 G) ew) (zM 0 G (zv G (bH cO (bW λ _=>rfl) (bm (aD (vq 3 G))) (vq 4 G) (bz hlt)) (zv G (au (vq 5 G) ax) (zO 0 G c5 (zL 7 0 1 G ax (zQ G ((gv (c:=2048) (d:=K) (x:=toQ x) (y:=m.c) zo).wk (.cons (cd (aZ (qm (λ z=>(RFA z).va) hx)) (qa_x hsx (qi _)).va) (.cons aL .nil))) (.p (vq 6 G) (vq 8 G)) (zQ G (vO zo) (.p (vq 1 G) (vq 9 G)) (zO 0 G ca (oc (cJ 11 G G G G zk (vq 10 G) ax (Put.part 0 G G G)) o0))))))))))))) zk zk zk zk (λ a w U=>?_)
 have U:St B (freshB wE) 92 [(0,_),(1,_),(3,_),(4,_),(5,_),(6,_),(7,_),(11,_)] [O 10 115 _] a w:=U
 have U:=St.wkL (A':=CoA (K+4097) m1) U 0 rfl (by rw [← hm1]; exact pQ (D0 x m).1 (D0 x m).2 (fm hel hm))
 have U:St B (freshB wE) 92 [(0,_),(1,_),(3,_),(4,_),(5,_),(6,_),(7,_),(11,_)] [O 10 115 _] a w:=U
 refine zt<|qb<|zg [η] [] [.v 27 _,.v 28 _,.v 29 _,.v 30 _] [.g 0,.g 1,.g 2,.g 3,.g 4,.g 5,.g 6,.g 7,.o 3] U (zM 0 G (zv G (au (gq 3 G) fk) (zv G (r_lenQ Tryz.underlying31 (vq 1 G)) (zv G (bC (vq 0 G) (vq 2 G)) o0)))) (λ a w U=>?_)
 have U:St B (freshB wE) 92 [(0,_),(1,_),(3,_),(4,_),(5,_),(6,_),(7,_),(11,_),(30,_)] [O 10 115 _] a w:=U
 refine aa<|aj U (zm 8 G) (λ hb0=>?_) (λ hb0=>?_)
 ·have hin:i=e.n:=by have h:((i:Nat):Int)=((e.n:Nat):Int):=eq_of_beq hb0; omega
  obtain rfl:f=0:=by omega
  have hc0:cntW e.t.ps.length e.ah.length 0 i=1:=rfl
  have hpk0:e.pk k=pre:=by have:=hpk 0 zo; simpa [exW] using this
  refine qb<|zgd [[],[],[1],[1,2],[],[0,1,2,3,4],[],[0,1,2,3,4,5,6]] [none] [⟨12,76,ptrH,some 6,_,some (7,_)⟩] [.v 31 _,.adr 32 10 (.some 4) True,.v 33 _,.v 34 _,.v 35 _,.v 36 _,.alc 1,.sto 1] [.g 0,.g 1,.g 2,.g 3,.g 4,.g 5,.g 6,.g 7] ae U (zv G (au (gq 3 G) fk) (zO 0 G c5 (zL 1 0 1 G ax (zQ G (ig zo) (.o (vq 2 G)) (zM 1 G (zv G (aU (qs:=[(0,_),(1,_),(3,_)]) iF (.cons ⟨rfl,vq 0 rfl,rfl⟩ (.cons ⟨rfl,vq 3 rfl,rfl⟩ (.cons ⟨rfl,vq 4 rfl,rfl⟩ .nil)))) (zY G (Str.zero iF) (zS 5 G nE o0)))))))) zk zk zk zk (λ a w U=>?_)
  have U:St B (freshB wE) 92 [(0,_),(1,_),(3,_),(4,_),(5,_),(6,_),(7,_),(11,_)] [O 10 115 _,O 12 76 _] a w:=U
  refine zt<|zg [η,some (6,_)] [] [.adr 37 12 (.some 1) True,.v 38 _,.v 39 _,.v 40 _,.v 41 _,.adr 42 12 (.some 5) True,.sto 1] [.g 0,.g 1,.g 2,.g 3,.g 4,.g 5,.g 6,.g 7] U (zO 1 G el (zL 0 1 1 G ax (zv G (bL (gq 2 G) dH (Sub.part 2 G G)) (zv G (au (vq 2 G) ax) (zQ G ((po (c:=K+4097) (d:=2048) (x := -m1.c) (y:=toQ e.t.tg) zo).wk (.cons aL (.cons (qa_x htg (qi _)).va .nil))) (.p (vq 1 G) (vq 3 G)) (zO 1 G f9 (oc (cJ 5 G G G G zk (vq 4 G) ax (Put.part 2 G G G)) o0))))))) (λ a w U=>?_)
  have U:St B (freshB wE) 92 [(0,_),(1,_),(3,_),(4,_),(5,_),(6,_),(7,_),(11,_)] [O 10 115 _,O 12 76 _] a w:=U
  refine zt<|qb<|zg [η,η] [] [.adr 43 12 (.some 5) True,.v 44 _,.v 45 _,.v 46 _] [.g 0,.g 1,.g 2,.g 3,.g 4,.g 5,.g 6,.g 7,.o 3] U (zO 1 G f9 (zL 0 1 2 G ax (zQ G sign_q (.o (vq 1 G)) (zv G (aS (vq 2 G) ab) o0)))) (λ a w U=>?_)
  have U:St B (freshB wE) 92 [(0,_),(1,_),(3,_),(4,_),(5,_),(6,_),(7,_),(11,_),(46,_)] [O 10 115 _,O 12 76 _] a w:=U
  refine aa<|bE (λ a w =>  St B (freshB wE) 92 [(5,ElP 112 (EqA (.func (.yield e.l) #[] #[])))] [⟨10,115,ptrH,CoA (K+4097) m1⟩,⟨12,76,ptrH,cat [EqA (.slice (some ⟨e.hp,0,none⟩) e.n e.n),QA (K+4097) (powW e.t pre),QA (K+4097+2048+1) (awaW e.t pre),NumA .i64 (cosW e.t pre)]⟩] a w) U (zm 8 G) (λ hb1=>?_) (λ hb1=>?_) (λ a w U=>?_)
  ·refine zg [η,some (4,_)] [] [.adr 47 12 (.some 5) True,.v 48 _,.v 49 _,.adr 50 12 (.some 5) True,.sto 1] [.g 0,.g 1,.g 2,.g 3,.g 4,.g 5,.g 6,.g 7] U (zO 1 G f9 (zL 0 1 2 G ax (zQ G (ig zo) (.o (vq 1 G)) (zO 1 G f9 (oc (cJ 3 G G G G zk (vq 2 G) ax (Put.part 2 G G G)) o0))))) (λ a w U=>?_)
   have U:St B (freshB wE) 92 [(0,_),(1,_),(3,_),(4,_),(5,_),(6,_),(7,_),(11,_)] [O 10 115 _,O 12 76 _] a w:=U
   refine aa ?_
   have U:=St.sel U [4]
   rw [hpw,haw,qz (qp hb1)]; exact U
  ·refine qh<|aa ?_
   have U:=St.sel U [4]
   rw [hpw,haw,qw (qr hb1)]; exact U
  refine zt<|Eb ?_
  refine BE (sp:=[.v 51 _,.v 52 _,.v 53 VT,.v 11 VT]) 2 2 99 2 OneC [.g 0,.o 0,.o 1] zk (eC λ _ _ h=>h) U (zv G (au (gq 0 G) HK) (zl 1 G nE o0)) G zd zk zk (λ a w U=>?_)
  have U:St B (freshB wE) 92 [(5,_),(51,_),(52,_)] [O 10 115 _,O 12 76 _] a w:=U
  rw [show List.range' 2 2=[2,3] from rfl]
  have hgw:=bB U.base
  have e51:=gX (U.vals (51,_) (zm 1 rfl))
  have hqe:q=pre.map (λ (x:Nat)=>(x:Int)):=by rw [← hqi,qD zo]
  have hway:(WyA (dnK (e.n+2)+4200) (wayW e.t (e.pk k))).va.p e.B (a.eval (.tmp 52)) w:=by rw [hBe,hpk0]; exact HD (U.vals (52,_) (zm 2 rfl)) (by rw [← hqe]; exact dZ hq hgw) (by rw [qc]; omega) zo (bO (by rw [← hK]; unfold dnK; omega)) (bO (by rw [← hK]; unfold dnK; omega))
  rw [wpOpsIn_cons]
  refine w7 (xs:=[.tmp 52]) G e51 (ok.yd k w [a.eval (.tmp 52)] zo (ok.grow zo hJ hgw) (.cons hway .nil)) (λ x w3 hR3=>?_)
  rcases hR3 with ⟨rfl,hJ3,hs3⟩ | ⟨rfl,hx3,hsz3,_⟩
  ·refine ⟨_,rfl,?_⟩
   have U:=(St.bare U rfl hs3.size).addV (d:=53) (v:=.bool true) (A:=Bo true) zd zk zk (cZ _ _ _)
   rw [wpOpsIn_cons]
   refine wa (b:=true) G (dg (U.vals (53,_) (zm 0 G))) ?_
   refine lE ?_
   have U:=U.addV (d:=11) (v:=.bool true) (A:=Bo true) zd zk zk (cZ _ _ _)
   have hR:e.R 0 i k q wE (.returned (.bool true)) w3:=.inl ⟨rfl,hJ3,ek (wO hgw) (Ga hs3),q,pk_stp hs3 ok.hp.1 ok.hp.2 (dZ hq hgw),hql,rfl⟩
   refine aa<|qg<|al ?_
   refine iK ?_
   exact sk G U G (zm 0 G) hR (λ x w1 w2=>DnE.R.grow ok hkM)
  ·refine ⟨_,rfl,?_⟩
   have U:=(St.bare U rfl hsz3).addV (d:=53) (v:=.bool false) (A:=Bo false) zd zk zk (cZ _ _ _)
   rw [wpOpsIn_cons]
   refine wa (b:=false) G (dg (U.vals (53,_) (zm 0 G))) ?_
   refine lE ?_
   have U:=U.addV (d:=11) (v:=.bool false) (A:=Bo false) zd zk zk (cZ _ _ _)
   have hR:e.R 0 i k q wE (.returned (.bool false)) w3:=.inr ⟨rfl,hx3,qe hgw.size hsz3⟩
   refine aa<|qg<|al ?_
   refine iK ?_
   exact sk G U G (zm 0 G) hR (λ x w1 w2=>DnE.R.grow ok hkM)
 ·have hin:i≠e.n:=λ h=>by rw [h] at hb0; simp at hb0
  obtain ⟨f,rfl⟩:∃ f0,f=f0+1:=⟨f-1,by omega⟩
  have hlen64:=(hd_b (fv ok.ck).1).2.2.2.1
  refine qh<|zt<|wp_label<|zt<|qb ?_
  have U:=St.ofPtr U 0 rfl
  have U:St B (freshB wE) 92 [(10,_),(0,_),(1,_),(3,_),(4,_),(5,_),(6,_),(7,_),(11,_),(30,_)] [] a w:=U
  refine zh [.v 54 _,.v 55 _,.v 56 _,.v 57 _] [.g 0,.g 1,.g 2,.g 3,.g 4,.g 5,.g 6,.g 7,.g 8,.o 1,.o 2,.o 3] U (zv G (bL (gq 3 G) bD (Sub.part 1 G G)) (zv G (au (vq 0 G) dn) (zv G (bg Tryz.underlying23 (bm (aD (vq 1 G)))) (zv G (ai ab) o0)))) (λ a w U=>?_)
  have U:St B (freshB wE) 92 [(10,_),(0,_),(1,_),(3,_),(4,_),(5,_),(6,_),(7,_),(11,_),(55,_),(56,_),(57,_)] [] a w:=U
  refine aa<|qj ?_
  have U:=St.sel U [1,2,3,4,5,6,7,0,9,10,11]
  refine wp_loop_ghost (λ n a w=>∃ (j:Nat) (W1:World) (q1:List Int),(n+j=e.t.ps.length∧e.J (k+dnD e f i j) W1∧KD e.B e.lo e.hi [3] e.Db [] wE W1∧PkR 3 e.hp W1 q1∧q1.length=e.n∧q1.take i=q.take i)∧St B (freshB W1) 92 [(0,In (i:Nat)),(1,In (cosW e.t pre)),(3,ElP 30 (TkO e.t)),(4,ElP 31 (EqA (.slice (some ⟨e.hp,0,none⟩) e.n e.n))),(5,ElP 112 (EqA (.func (.yield e.l) #[] #[]))),(6,ElP 31 (SlO 3 [] (e.ah.map λ (k:Nat)=>InA (k:Int)) True)),(7,ElP 113 (EqA (.func (.func 106) #[] e.cap.toArray))),(10,ElP 115 (CoA (K+4097) m1)),(55,(SlO 100 [U32] (e.t.ps.map PtA) True).va),(56,In (e.t.ps.length:Nat)),(57,In (j:Nat))] [] a w) (e.t.ps.length) ?_ ?_
  ·rw [qc] at U
   exact ⟨0,wE,q,⟨by omega,by rw [dnD_0]; exact hJ,wN,hq,hql,rfl⟩,U⟩
  intro n a w hI
  obtain ⟨j,W1,q1,⟨hn,hJ1,hkd,hq1,hql1,hqt⟩,U⟩:=hI
  refine qb<|zh [.v 58 _] [.g 0,.g 1,.g 2,.g 3,.g 4,.g 5,.g 6,.g 7,.g 8,.g 9,.g 10,.o 0] U (zv G (aS (gq 10 G) (gq 9 G)) o0) (λ a w U=>?_)
  have U:St B (freshB W1) 92 [(0,_),(1,_),(3,_),(4,_),(5,_),(6,_),(7,_),(10,_),(55,_),(56,_),(57,_),(58,_)] [] a w:=U
  refine zt<|aj U (zm 11 G) (λ hb2=>?_) (λ hb2=>?_)
  ·have hj:j<e.t.ps.length:=by have:=qp hb2; omega
   have hpj:e.t.ps.getD j ⟨⟨#[]⟩,⟨0,rf0,rf0⟩,0⟩=e.t.ps[j]:=by simp [List.getD,hj]
   have hpe:elF e.t.ps[j].e=true:=by rw [← hpj]; exact dn_p ok.ck hj
   have hpc:=sw ok.ck (l:=[j]) (λ y hy=>by rw [qn.1 hy]; exact hj)
   rw [show cosW e.t [j]=e.t.ps[j].c from by unfold cosW; rw [qN,x7,z4,List.sum_nil,hpj,jk]] at hpc
   obtain ⟨hpc1,hpc2⟩:=hpc
   refine qh<|zt<|qj<|qb<|zg [] [⟨14,100,ptrH,some 3,_,some (5,_)⟩] [.v 59 _,.v 60 _,.v 61 _,.alc 0,.v 13 _,.sto 0] [.g 0,.g 1,.g 2,.g 3,.g 4,.g 5,.g 6,.g 7,.g 8,.g 9,.g 10,.o 4] U (zM 10 G (zv G (bH ey (bW λ _=>rfl) (bm (aD (gq 8 G))) (gq 10 G) (bz hj)) (zv G (au (vq 1 G) dy) (zY G (Str.zero dz) (zA 0 G (zS 2 G dy o0)))))) (λ a w U=>?_)
   have U:St B (freshB W1) 92 [(0,_),(1,_),(3,_),(4,_),(5,_),(6,_),(7,_),(10,_),(55,_),(56,_),(57,_),(13,_)] [O 14 100 _] a w:=U
   have U:=St.ofPtr U 0 rfl
   have U:St B (freshB W1) 92 [(14,_),(0,_),(1,_),(3,_),(4,_),(5,_),(6,_),(7,_),(10,_),(55,_),(56,_),(57,_),(13,_)] [] a w:=U
   refine zt<|qb<|zh [.v 62 _,.v 63 _,.v 64 _,.v 65 _,.v 66 _,.t 67 _,.t 68 _,.t 69 _,.t 70 _,.t 71 _,.t 72 _,.v 73 _] [.g 0,.g 1,.g 2,.g 3,.g 4,.g 5,.g 6,.g 7,.g 8,.g 9,.g 10,.g 11,.g 12,.o 11] U (zM 1 G (zv G (au (gq 6 G) fk) (zv G (bg Tryz.underlying31 (bm (aD (vq 1 G)))) (zv G (aS (vq 0 G) (vq 2 G)) (zv G (ai (vq 3 G)) (zB 4 G (λ hg=>ai (gq 12 G)) (zB 4 G (λ hg=>au (gq 6 G) fk) (zB 4 G (λ hg=>ai (gq 1 G)) (zB 4 G (λ hg=>bH cP (bW λ _=>rfl) (bm (aD (ak (vq 6 G) hg))) (ak (vq 7 G) hg) (ah_at (by have:=qp hg; simp only [qc] at this; omega))) (zB 4 G (λ hg=>au (ak (vq 8 G) hg) ty_3) (zB 4 G (λ hg=>bX (ak (vq 5 G) hg) (ak (vq 9 G) hg)) (zv G (bA (vq 4 G) (vq 10 G)) o0)))))))))))) (λ a w U=>?_)
   have U:St B (freshB W1) 92 [(14,_),(0,_),(1,_),(3,_),(4,_),(5,_),(6,_),(7,_),(10,_),(55,_),(56,_),(57,_),(13,_),(73,_)] [] a w:=U
   refine aa<|aj U (zm 13 G) (λ hb3=>?_) (λ hb3=>?_)
   ·have hsk:i<e.ah.length∧e.ah.getD i 0≠j:=by
     simp only [qc,ql,qH,bne_iff_ne,ne_eq] at hb3
     exact ⟨by omega,by omega⟩
    refine qK<|am<|aB<|aa<|zh [.v 91 _,.v 57 _] [.g 0,.g 1,.g 2,.g 3,.g 4,.g 5,.g 6,.g 7,.g 8,.g 9,.g 10,.g 12,.o 1] U (zv G (aN (gq 11 G) ab ((wi64 zo zo).trans (by omega:(_:Int)=((j+1:Nat):Int)))) (zv G (ai (vq 0 G)) o0)) (λ a w U=>?_)
    have U:St B (freshB W1) 92 [(14,_),(0,_),(1,_),(3,_),(4,_),(5,_),(6,_),(7,_),(10,_),(55,_),(56,_),(13,_),(57,_)] [] a w:=U
    refine aa ?_
    have U:=St.sel U [1,2,3,4,5,6,7,8,9,10,12]
    exact ⟨n-1,by omega,j+1,W1,q1,⟨by omega,by rw [Ci hsk.1 hsk.2]; exact hJ1,hkd,hq1,hql1,hqt⟩,U⟩
   ·have hgo:i<e.ah.length→e.ah.getD i 0=j:=λ h=>by
     simp only [qc,jb,qk,bne_eq_false_iff_eq] at hb3
     rcases hb3 with h1 | h1 <;> omega
    have hdl:=DM (f:=f) hj hgo
    have hcp:0<cntW e.t.ps.length e.ah.length f (i+1):=dk zo _ _
    refine qh<|zt<|cc (sp:=[.v 74 _,.v 75 _,.v 76 _,.v 77 VT,.skp]) 3 2 99 3 OneC [.g 0,.g 1,.g 2,.g 3,.g 4,.g 5,.g 6,.g 7,.g 8,.g 9,.g 10,.g 11,.g 12,.o 0,.o 1,.o 2] U (zv G (au (gq 4 G) fk) (zM 1 G (zM 12 G o0))) G zd zk zk (λ a w U=>?_)
    have U:St B (freshB W1) 92 [(14,_),(0,_),(1,_),(3,_),(4,_),(5,_),(6,_),(7,_),(10,_),(55,_),(56,_),(57,_),(13,_),(74,_),(75,_),(76,_)] [] a w:=U
    rw [show List.range' 3 2=[3,4] from rfl]
    have hgw:=bB U.base
    have hJw:=ok.grow zo hJ1 hgw
    have hq2:=dZ hq1 hgw
    have U:=St.wkG U 13 rfl tH
    rw [qA]
    refine ph 13 14 G U cP zd G G zo zd zk zk (λ a U=>?_)
    have e77:=U.vals (77,_) (zm 0 rfl)
    have e77:a.eval (.tmp 77)=.pointer (some ⟨e.hp,i,none⟩):=by rw [← zK i]; exact e77
    rw [qA]
    refine Fu (q:=q1) (k:=(j:Nat)) G e77 (bh (U.vals (76,_) (zm 16 G))) hq2 zo ty_3 (λ W2 hq3 hwr=>?_)
    refine r9 ?_
    have hsv:StpV e.lo e.hi [3] e.gs w W2:=oJ hwr hq2 ok.hp.1 ok.hp.2 zd
    have hkd0:KD e.B e.lo e.hi [3] e.Db [] w W2:=wM (oJ hwr hq2 ok.hp.1 ok.hp.2 zd)
    have hJ2:e.J (k+dnD e f i j) W2:=ok.st _ _ _ zo hJw hsv (Cv (ok.ct _ _ hJw) hwr hq2 zd)
    have hkd2:=ek (ek hkd (wO hgw)) hkd0
    have hloB:B≤e.lo:=by rw [← hBe]; exact ok.lo
    have U:=St.anew (Tp:=[3]) (Db:=[]) (Tc:=[]) (gs:=[]) (lo:=e.lo) (hi:=e.hi) (a':=a) [1,2,3,4,5,6,7,8,9,10,11,12,13] U rfl (wM (oJ hwr hq2 ok.hp.1 ok.hp.2 zd)) hloB (λ _ h=>by cases h) (λ _ h=>by cases h) zk (λ _ _ _ _=>rfl) rfl rfl
    have U:St B (freshB W2) 92 [(14,_),(0,_),(1,_),(3,_),(4,_),(5,_),(6,_),(7,_),(10,_),(55,_),(56,_),(57,_),(13,_)] [] _ W2:=U
    refine zt<|ir (sp:=[.v 78 _,.v 79 _,.v 80 _,.v 81 _,.v 82 _,.v 83 _,.v 84 _,.v 85 _,.v 86 _,.v 87 _,.v 88 _,.v 89 VT,.v 90 VT]) [[],[],[1],[],[],[4],[3,4,5],[],[7],[],[7,8,9],[0,1,2,3,4,5,6,7,8,9,10],[0,1,2,3,4,5,6,7,8,9,10,11]] 11 2 99 11 OneC [.g 0,.g 1,.g 2,.g 3,.g 4,.g 5,.g 6,.g 7,.g 8,.g 9,.g 10,.g 11,.g 12,.o 0,.o 2,.o 6,.o 10] ae U (zv G (au (gq 7 G) u6) (zM 1 G (zv G (aN (vq 1 G) ab ((wi64 zo zo).trans (by omega:(_:Int)=((i+1:Nat):Int)))) (zM 2 G (zv G (bL (gq 0 G) co (Sub.part 2 G G)) (zv G (au (vq 4 G) ty_3) (zv G (aN (vq 3 G) (vq 5 G) ((wi64 (by simp only [zJ] at hpc2; omega) (by simp only [zJ] at hpc2; omega)))) (zv G (bL (gq 0 G) da (Sub.part 1 G G)) (zv G (au (vq 7 G) fh) (zv G (au (gq 8 G) fF) (zQ G (uf (x:=e.t.ps[j].e) (b:=K+4097) (m:=m1) hpe hm1r zo) (.p (vq 8 G) (vq 9 G)) o0))))))))))) G zd zd zk (gM zk) zk zk (λ a w U=>?_)
    have U:St B (freshB W2) 92 [(14,_),(0,_),(1,_),(3,_),(4,_),(5,_),(6,_),(7,_),(10,_),(55,_),(56,_),(57,_),(13,_),(78,_),(80,_),(84,_),(88,_)] [] a w:=U
    rw [show List.range' 11 2=[11,12] from rfl]
    have hgw2:=bB U.base
    have e78:=gX (U.vals (78,_) (zm 13 rfl))
    have e80:=bh (U.vals (80,_) (zm 14 rfl))
    have e84:=bh (U.vals (84,_) (zm 15 rfl))
    have hvr2:=(U.vals (88,_) (zm 16 rfl))
    have hl2:(pre++[j]).length=i+1:=by rw [qB,hpl]; rfl
    have hmem2:∀ y∈pre++[j],y<e.t.ps.length:=λ y hy=>by
     rcases qo.1 hy with hy | hy
     ·exact hpp y hy
     ·rw [qn.1 hy]; exact hj
    have hqt2:(q1.set i (j:Int)).take (i+1)=(pre++[j]).map (λ (y:Nat)=>(y:Int)):=by
     rw [me (hqt.trans hqi) zo,zF]; rfl
    have hm2:prodQ (benP e.t (pre++[j]))=mulQ (elM e.t.ps[j].e) m1:=by rw [t9,hpj,hbw]
    have hc2:cosW e.t (pre++[j])=cosW e.t pre+e.t.ps[j].c:=by rw [sv,hpj]
    have hcall:=ih f rfl (i+1) (pre++[j]) (k+dnD e f i j) w (q1.set i (j:Int)) (a.eval (.tmp 88)) hl2 zo hmem2 (dn_pk hpk hj hgo) zo (ok.grow zo hJ2 hgw2) ((hF.kd ok hkd2).grow hgw2) (dZ hq3 hgw2) (by rw [zG]; exact hql1) hqt2 (by rw [hBe,hm2,hKi]; exact hvr2)
    rw [qA]
    refine rJ (f:=106) (xs:=[.tmp 80,.tmp 84,.tmp 88]) (gs:=e.cap) G ⟨_,Tryz.func106,by kernel_rfl,by kernel_rfl⟩ e78 (by rw [hc2] at hcall; rw [show [Operand.tmp 80,.tmp 84,.tmp 88].map a.eval=[a.eval (.tmp 80),a.eval (.tmp 84),a.eval (.tmp 88)] from rfl,e80,e84]; exact hcall) (λ x w3 hR3=>?_)
    rcases hR3 with ⟨rfl,hJ3,hkd3,q3,hq4,hql4,hqt4⟩ | ⟨rfl,hx3,hsz3⟩
    ·refine ⟨_,rfl,?_⟩
     have U:=St.anewD (a':=a) ok [1,2,3,4,5,6,7,8,9,10,11] (by rw [hBe]; exact U) rfl hkd3 zk (λ _ _ _ _=>rfl) rfl rfl
     rw [hBe] at U
     have U:=U.addV (d:=89) (v:=.bool true) (A:=Bo true) zd zk zk (cZ _ _ _)
     rw [qA]
     refine ia (A:=Bo false) (v:=.bool false) G U zd zk zk (Dr _ _ _ (dg (U.vals (89,_) (zm 0 G)))) (cZ _ _ _) (λ U=>?_)
     refine dS ?_
     have U:St B (freshB w3) 92 [(90,_),(89,_),(0,_),(1,_),(3,_),(4,_),(5,_),(6,_),(7,_),(10,_),(55,_),(56,_),(57,_)] [] _ w3:=U
     have hkd4:=ek (ek hkd2 (wO hgw2)) hkd3
     have hqt5:q3.take i=q.take i:=by
      rw [← hqt,show q3.take i=(q3.take (i+1)).take i by rw [jR,xl zo],hqt4,jR,xl zo,kS zo]
     have hJ4:e.J (k+dnD e f i (j+1)) w3:=by rw [DN hgo,← xR]; exact hJ3
     refine aa<|aj U (zm 0 G) (λ hb4=>?_) (λ hb4=>?_)
     ·cases hb4
     ·refine qh<|ap ?_
      refine aa<|zh [.v 91 _,.v 57 _] [.g 2,.g 3,.g 4,.g 5,.g 6,.g 7,.g 8,.g 9,.g 10,.g 11,.o 1] U (zv G (aN (gq 12 G) ab ((wi64 zo zo).trans (by omega:(_:Int)=((j+1:Nat):Int)))) (zv G (ai (vq 0 G)) o0)) (λ a w U=>?_)
      have U:St B (freshB w3) 92 [(0,_),(1,_),(3,_),(4,_),(5,_),(6,_),(7,_),(10,_),(55,_),(56,_),(57,_)] [] a w:=U
      refine aa ?_
      have U:=St.sel U [0,1,2,3,4,5,6,7,8,9,10]
      exact ⟨n-1,by omega,j+1,w3,q3,⟨by omega,hJ4,hkd4,hq4,hql4,hqt5⟩,U⟩
    ·refine ⟨_,rfl,?_⟩
     have U:=St.bare (w':=w3) U rfl hsz3
     have U:=U.addV (d:=89) (v:=.bool false) (A:=Bo false) zd zk zk (cZ _ _ _)
     rw [qA]
     refine ia (A:=Bo true) (v:=.bool true) G U zd zk zk (Dr _ _ _ (dg (U.vals (89,_) (zm 0 G)))) (cZ _ _ _) (λ U=>?_)
     refine dS ?_
     refine aa<|aj U (zm 0 G) (λ hb5=>?_) (λ hb5=>?_)
     ·refine qb<|zh [.v 11 _] [.o 0] U (zv G (ac aJ) o0) (λ a w U=>?_)
      have U:St B (freshB w3) 92 [(11,_)] [] a w:=U
      have hR:e.R (f+1) i k q wE (.returned (.bool false)) w:=.inr ⟨rfl,ok.growx hx3 (bB U.base),qe (qe (ek hkd2 (wO (lo:=e.lo) (hi:=e.hi) hgw2)).size hsz3) (bB U.base).size⟩
      refine aa<|qg<|aE ?_
      refine al ?_
      refine al ?_
      refine aE ?_
      refine al ?_
      refine iK ?_
      exact sk G U G (zm 0 G) hR (λ x w1 w2=>DnE.R.grow ok hkM)
     ·cases hb5
  ·obtain rfl:j=e.t.ps.length:=by have:=qr hb2; omega
   refine qK<|am<|am<|aB<|zt<|zh [.v 11 _] [.g 0,.g 1,.g 2,.g 3,.g 4,.g 5,.g 6,.g 7,.g 8,.g 9,.g 10,.o 0] U (zv G (ac aJ) o0) (λ a w U=>?_)
   have U:St B (freshB W1) 92 [(0,_),(1,_),(3,_),(4,_),(5,_),(6,_),(7,_),(10,_),(55,_),(56,_),(57,_),(11,_)] [] a w:=U
   have hR:e.R (f+1) i k q wE (.returned (.bool true)) w:=.inl ⟨rfl,by rw [← yC ok]; exact ok.grow (by rw [yC ok]; omega) hJ1 (bB U.base),ek hkd (wO (bB U.base)),q1,dZ hq1 (bB U.base),hql1,hqt⟩
   refine aa<|qg<|iK ?_
   exact sk G U G (zm 11 G) hR (λ x w1 w2=>DnE.R.grow ok hkM)
theorem yB {e:DnE}(ok:e.Ok):∀ f i,DnC e f i
 | 0,i=>yA ok (λ f' h=>absurd h zo)
 | f+1,i=>yA ok (λ f' h i'=>by
  obtain rfl:f'=f:=by omega
  exact yB ok f' i')
theorem E4:Zero Tryz.prog 31 (EqA (.slice none 0 0)):=Zero.of (z:=.slice none 0 0) zk (λ _ _=>⟨rfl,rfl⟩)
theorem E5:Zero Tryz.prog 113 (EqA .nilFunc):=Zero.of (z:=.nilFunc) zk (λ _ _=>⟨rfl,rfl⟩)
def bothV (A A':VA):VA where
 p B v w:=A.p B v w∧A'.p B v w
 deps:=A.deps++A'.deps
 cg:=λ B v w w' hg h=>⟨A.cg _ _ _ _ hg h.1,A'.cg _ _ _ _ hg h.2⟩
 wr:=λ B v w w' g c T fz h1 hT h3 h4 h=>by
  simp only [qo,not_or] at hT
  exact ⟨A.wr _ _ _ _ _ _ _ _ h1 hT.1 h3 h4 h.1,A'.wr _ _ _ _ _ _ _ _ h1 hT.2 h3 h4 h.2⟩
theorem both_1 {A A':VA}:Wk (bothV A A') A:=λ _ _ _ h=>h.1
theorem both_2 {A A':VA}:Wk (bothV A A') A':=λ _ _ _ h=>h.2
theorem HA (h:v.oneCell'=true):Wk (EqV v) (EqA v).va:=λ B u w e=>by
 have e':u=v:=e
 rw [e']
 exact rf h
theorem yu {B g:Nat}{A:As}(h:w.heap[g]?=some (.cells (List.toArray cs) T (0,0)))(hp:A.p B cs w):(ElP T A).p B (ptr g) w:=by
 refine ⟨g,0,cs,rfl,(Array.getElem?_eq_some_iff.1 h).1,.inr ⟨_,_,h⟩,hp,λ j v hv=>?_⟩
 rw [qO,cell_of_row w g j cs.toArray T _ h]
 simpa using hv
theorem pM {B N:Nat}(h:St B w0 N Γ Λ a w){s g:Nat}{A:As}(k j:Nat)(h1:Γ[k]?=some (s,EqV (ptr g)))(h2:Λ[j]?=some ⟨s,T,ptrH,A⟩):(ElP T A).p B (ptr g) w:=by
 obtain ⟨g',cs,e1,_,e3,e4⟩:=h.locs _ (qa h2)
 have e:a.eval (.tmp s)=ptr g:=h.vals _ (qa h1)
 have e1':a.eval (.tmp s)=ptr g':=e1
 rw [← e,e1']
 exact yu e3 e4
theorem St.elpG {B N:Nat}(h:St B w0 N Γ Λ a w){s:Nat}{A:VA}(k:Nat)(h1:Γ[k]?=some (s,EqV v))(hA:A.p B v w):St B w0 N (Γ.set k (s,A)) Λ a w:=by
 refine ⟨h.lo,h.defers,h.size,h.base,λ x hx=>?_,h.locs,h.dis⟩
 rcases qy hx with hx | rfl
 ·exact h.vals x hx
 ·have e:a.eval (.tmp s)=v:=h.vals _ (qa h1)
  show A.p B (a.eval (.tmp s)) w
  rw [e]
  exact hA
theorem St.here {B N:Nat}(h:St B w0 N Γ Λ a w)(hnd:w0.nd=true)(src:List Nat):St B (freshB w) N (src.filterMap λ k=>Γ[k]?) [] a w:=by
 refine ⟨λ g hg=>?_,DefOk.nil (h.defers.none hnd),h.size,Kept.refl _,λ x hx=>?_,(λ _ h=>by cases h),(λ _ h=>by cases h)⟩
 ·rcases hg with hg | hg
  ·exact qe (qe (h.lo _ (.inl (qi _))) h.base.size) hg
  ·exact hg.elim
 ·obtain ⟨k,_,hk2⟩:=qQ.1 hx
  exact h.vals x (qa hk2)
theorem Dl {Q:Exit→Act→World→Prop}{B N:Nat}{ops:Array Oper}{i:Nat}{K:Act→World→Prop}{d u n:Nat}{S E T':TypeId}(ku:Nat)(ho:ops[i]?=some ⟨some d,.makeSlice S (.tmp u) (.tmp u),T',ps,af,none⟩)(h:St B w0 N Γ Λ a w)
  (hM:MakeOk P S E .i64) (hu:Γ[ku]?=some (u,In (n:Nat))) (hn:n≤17592186044416) (hd:d<N) (hΓ:Γ.all (λ x=>x.1 != d)=true) (hΛ:Λ.all (λ l=>l.s != d)=true)
  (hK:∀ a' w' hp,St B w0 N ((d,EqV (.slice (some ⟨hp,0,none⟩) n n))::Γ) Λ a' w'→PkR E hp w' (List.replicate n 0)→w.heap.size≤hp→Grow w w'→K a' w'):wpOp P ops Q i K a w:=by
 obtain ⟨h1,h2,h3,h4,h5⟩:=hM
 obtain ⟨it,hi,hz⟩:=kB.1 h2
 have hsz:it.size=1:=by rw [hi] at h3; simpa using h3
 have hby:=h5 it hi
 have hm:=run_make (P:=P) w S E it (.int .i64 0) h1 hi hz .i64 .i64 n n zo (Int.le_refl _) (by
  have:it.bytes*n≤8*n:=qR _ hby
  have h6:((it.bytes*n:Nat):Int)≤281474976710656:=by omega
  rwa [xo] at h6) zo
 have e1:a.eval (.tmp u)=.int .i64 (n:Nat):=bh (h.vals _ (qa hu))
 have hcells:madeCells (Value.int .i64 0).cells (n*it.size)=((List.replicate n 0).map λ (x:Int)=>Value.int .i64 x).toArray:=by
  rw [hsz,zK]
  apply jt
  intro j
  simp only [madeCells,Value.cells,jo]
  by_cases hj:j<n
  ·simp [hj,kM]
  ·simp [hj]
 simp only [zX] at hm
 rw [hcells] at hm
 have hg:Grow w (w.alloc (.cells ((List.replicate n 0).map λ (x:Int)=>Value.int .i64 x).toArray E)):=Grow.alloc _ _
 unfold wpOp
 simp only [ho,Region.wanted,if_true]
 exact .inl (aY (w':=w.alloc (.cells ((List.replicate n 0).map λ (x:Int)=>Value.int .i64 x).toArray E)) (v:=.slice (some ⟨w.heap.size,0,none⟩) n n) (by simp [execOp,e1,hm]) (hK _ _ w.heap.size ((h.growM hg).addV hd hΓ hΛ G) (heap_alloc_new w _) (qi _) hg))
theorem GP {fn:Func}{R:Ending→World→Prop}{B N:Nat}(hr:fn.results = #[])(h:St B w0 N Γ Λ a w)(hnd:w0.nd=true)(hR:∀ v w1,Grow w w1→R (.returned v) w1):bPost P fn R .ret a w:=by
 refine ⟨[],h.defers.none hnd,.nil,(λ _ h=>by cases h),λ w' hs=>⟨_,results_none hr _ _ _,hR _ _ ⟨hs.os,hs.tape,hs.output,xp hs.size.symm,λ k _=>hs.block k (by simp)⟩⟩⟩
theorem mk_si:MakeOk Tryz.prog 31 3 .i64:=⟨by kernel_rfl,by kernel_rfl,by kernel_rfl,by kernel_rfl,λ it h=>by
 have h2:(Tryz.prog.info? 3).map (·.bytes)=some 8:=by kernel_rfl
 rw [h] at h2
 exact xp (Option.some.inj h2)⟩
set_option maxHeartbeats 2000000 in
theorem A4 {t:RTk}{ah:List Nat}{nn:Nat}(hck:ckF t=0)(hnn:t.sp.length=nn+1)(hah:ah.length≤nn∧∀ x∈ah,x<t.ps.length):∀ gs,ItPg Tryz.prog 105 [(30,TkO t),(31,SlO 3 [] (ah.map λ (k:Nat)=>InA (k:Int)) True)] gs (λ k=>[(WyA (dnK (nn+2)+4200) (wayW t (exW t.ps.length ah nn 0 k))).va]) false (cntW t.ps.length ah.length nn 0) [30,31,112,113,U32,28,115] [3]:=by
 intro gs
 obtain ⟨hs2,hs13,_⟩:=hd_b (fv hck).1
 refine ⟨⟨_,Tryz.func105,by kernel_rfl,by kernel_rfl⟩,λ l B wE Db J0 J Jx hB hgn hcaps hoff hIt hJ0=>?_⟩
 have hgb:=(dR hcaps).2
 obtain ⟨g0,g1,rfl,c1,c2⟩:=All2.two hcaps
 obtain ⟨hb0,cs0,hh0,hp0⟩:=c1
 obtain ⟨hb1,cs1,hh1,hp1⟩:=c2
 have hT:(ElP 30 (TkO t)).p B (ptr g0) wE:=yu hh0 hp0
 have hA:(ElP 31 (SlO 3 [] (ah.map λ (k:Nat)=>InA (k:Int)) True)).p B (ptr g1) wE:=yu hh1 hp1
 have hsz:wE.heap.size≤wE.heap.size:=qi _
 refine lm (B:=B) [EqV (.func (.yield l) #[] #[]),bothV (EqV (ptr g0)) (ElP 30 (TkO t)),EqV (ptr g1)] Tryz.func105 G hB (.cons G (.cons ⟨rfl,hT⟩ (.cons G .nil))) nq (λ w0 a hw0 U=>?_)
 subst hw0
 have U:St B (freshB wE) 15 [(0,_),(1,_),(2,_)] [] a wE:=U
 refine qb<|zg [] [⟨3,112,ptrH,some 0,_,none⟩] [.alc 0] [.g 1,.g 2] U (oc (we G G G (Gj G (gq 0 G))) o0) (λ a w U=>?_)
 have U:St B (freshB wE) 15 [(1,_),(2,_)] [O 3 112 _] a w:=U
 obtain ⟨q3,U⟩:=St.nm U 0 rfl
 have U:St B (freshB wE) 15 [(3,_),(1,_),(2,_)] [O 3 112 _] a w:=U
 have hY:=pM U 0 0 rfl rfl
 have hgr:=bB U.base
 have hT:=VA.grow _ _ _ _ _ hgr hT
 have hA:=VA.grow _ _ _ _ _ hgr hA
 have hJ0:=hIt.st0 _ _ hJ0 (cL hgr) ((hIt.ct0 _ hJ0).grow hgr)
 have hsz:=qe hsz hgr.size
 have U:=U.here rfl [0,1,2]
 obtain ⟨w1,rfl⟩:∃ x,x=w:=⟨_,rfl⟩
 have U:St B (freshB w1) 15 [(3,_),(1,_),(2,_)] [] _ w1:=U
 refine zt<|cc (sp:=[.v 6 _,.v 7 _,.skp,.skp,.skp]) 2 3 99 2 OneC [.g 0,.g 1,.g 2,.o 1] U (zv G (au (has_wk' (gq 1 G) both_2) cN) (zQ G ((oT t).wk (.cons tko_A.va .nil)) (.o (vq 0 G)) o0)) G zd zk zk (λ a w U=>?_)
 have U:St B (freshB w1) 15 [(3,_),(1,_),(2,_),(7,_)] [] a w:=U
 rw [show List.range' 2 3=[2,3,4] from rfl]
 have U:=St.wkG U 1 rfl both_1
 have U:St B (freshB w1) 15 [(3,_),(1,_),(2,_),(7,_)] [] a w:=U
 rw [qA]
 rw [At hs2 hs13,show t.sp.length-1=nn by omega] at U
 have hsz1:=qe hsz (bB U.base).size
 refine Dl (n:=nn) 3 G U mk_si G zo zd zk zk (λ a W hp U hqp hge hgp=>?_)
 obtain ⟨w,rfl⟩:∃ x,x=W:=⟨_,rfl⟩
 have U:St B (freshB w1) 15 [(8,_),(3,_),(1,_),(2,_),(7,_)] [] a w:=U
 have hloh:wE.heap.size≤hp:=qe hsz1 hge
 have hgr:=bB U.base
 have hT:=VA.grow _ _ _ _ _ hgr hT
 have hA:=VA.grow _ _ _ _ _ hgr hA
 have hY:=VA.grow _ _ _ _ _ hgr hY
 have hJ0:=hIt.st0 _ _ hJ0 (cL hgr) ((hIt.ct0 _ hJ0).grow hgr)
 have hsz:=qe hsz hgr.size
 have U:=U.here rfl [0,1,2,3,4]
 obtain ⟨w2,rfl⟩:∃ x,x=w:=⟨_,rfl⟩
 have U:St B (freshB w2) 15 [(8,_),(3,_),(1,_),(2,_),(7,_)] [] _ w2:=U
 have U:=St.wkG U 0 rfl (HA rfl)
 have U:St B (freshB w2) 15 [(8,_),(3,_),(1,_),(2,_),(7,_)] [] _ w2:=U
 refine my 0 [1,2,3] G G U E4 G fk G zd zk zk zk (λ a w U=>?_)
 refine dS ?_
 have U:St B (freshB w2) 15 [(3,_),(1,_),(2,_)] [O 4 31 _] a w:=U
 obtain ⟨q4,U⟩:=St.nm U 0 rfl
 have U:St B (freshB w2) 15 [(4,_),(3,_),(1,_),(2,_)] [O 4 31 _] a w:=U
 have hP:=pM U 0 0 rfl rfl
 have hqp:=dZ hqp (bB U.base)
 have hgr:=bB U.base
 have hT:=VA.grow _ _ _ _ _ hgr hT
 have hA:=VA.grow _ _ _ _ _ hgr hA
 have hY:=VA.grow _ _ _ _ _ hgr hY
 have hJ0:=hIt.st0 _ _ hJ0 (cL hgr) ((hIt.ct0 _ hJ0).grow hgr)
 have hsz:=qe hsz hgr.size
 have U:=U.here rfl [0,1,2,3]
 obtain ⟨w3,rfl⟩:∃ x,x=w:=⟨_,rfl⟩
 have U:St B (freshB w3) 15 [(4,_),(3,_),(1,_),(2,_)] [] _ w3:=U
 refine zt<|zg [] [⟨5,113,ptrH,some 0,_,none⟩] [.alc 0] [.g 0,.g 1,.g 2,.g 3] U (zY G E5 o0) (λ a w U=>?_)
 have U:St B (freshB w3) 15 [(4,_),(3,_),(1,_),(2,_)] [O 5 113 _] a w:=U
 obtain ⟨q5,U⟩:=St.nm U 0 rfl
 have U:St B (freshB w3) 15 [(5,_),(4,_),(3,_),(1,_),(2,_)] [O 5 113 _] a w:=U
 refine zt<|zg [some (1,_)] [] [.v 9 _,.sto 0] [.g 0,.g 1,.g 2,.g 3,.g 4] U (zv G (r_mkE (vs:=[ptr g0,ptr q4,ptr q3,ptr g1,ptr q5]) (.cons (gq 3 G) (.cons (gq 1 G) (.cons (gq 2 G) (.p (gq 4 G) (gq 0 G)))))) (zS 0 G u6 o0)) (λ a w U=>?_)
 have U:St B (freshB w3) 15 [(5,_),(4,_),(3,_),(1,_),(2,_)] [O 5 113 _] a w:=U
 have hD:=pM U 0 0 rfl rfl
 have hqp:=dZ hqp (bB U.base)
 have hgr:=bB U.base
 have hT:=VA.grow _ _ _ _ _ hgr hT
 have hA:=VA.grow _ _ _ _ _ hgr hA
 have hY:=VA.grow _ _ _ _ _ hgr hY
 have hP:=VA.grow _ _ _ _ _ hgr hP
 have hJ0:=hIt.st0 _ _ hJ0 (cL hgr) ((hIt.ct0 _ hJ0).grow hgr)
 have hsz:=qe hsz hgr.size
 have U:=U.here rfl [0,1,2,3,4]
 obtain ⟨w4,rfl⟩:∃ x,x=w:=⟨_,rfl⟩
 have U:St B (freshB w4) 15 [(5,_),(4,_),(3,_),(1,_),(2,_)] [] _ w4:=U
 have U:=St.elpG U 0 rfl hD
 have U:St B (freshB w4) 15 [(5,_),(4,_),(3,_),(1,_),(2,_)] [] _ w4:=U
 refine aa<|ir (sp:=[.v 10 _,.v 11 _,.v 12 _,.v 13 _,.skp]) [[],[],[1],[1,2],[0,1,2,3]] 4 1 99 4 OneC [.g 0,.g 1,.g 2,.g 3,.g 4,.o 0,.o 3] ae U (zv G (au (gq 0 G) u6) (zQ G one_q .nil (zQ G Bi .nil (zv G (aU (qs:=[(0,_),(1,_)]) gw (.cons ⟨rfl,vq 1 rfl,rfl⟩ (.cons ⟨rfl,vq 2 rfl,rfl⟩ .nil))) o0)))) G zd zd zk (gM zk) zk zk (λ a w U=>?_)
 have U:St B (freshB w4) 15 [(5,_),(4,_),(3,_),(1,_),(2,_),(10,_),(13,_)] [] a w:=U
 rw [show List.range' 4 1=[4] from rfl]
 have e10:=gX (U.vals (10,_) (zm 5 rfl))
 have hvr:=(U.vals (13,_) (zm 6 rfl))
 have hqp:=dZ hqp (bB U.base)
 have hgr:=bB U.base
 have hT:=VA.grow _ _ _ _ _ hgr hT
 have hA:=VA.grow _ _ _ _ _ hgr hA
 have hY:=VA.grow _ _ _ _ _ hgr hY
 have hP:=VA.grow _ _ _ _ _ hgr hP
 have hD:=VA.grow _ _ _ _ _ hgr hD
 have hJ0:=hIt.st0 _ _ hJ0 (cL hgr) ((hIt.ct0 _ hJ0).grow hgr)
 obtain ⟨hi,hhi⟩:∃ x,w.heap.size=x:=⟨_,rfl⟩
 have hlt:=(Array.getElem?_eq_some_iff.1 hqp).1
 have hJ1:=hIt.go hi w zo hJ0
 obtain ⟨e,he⟩:∃ e:DnE,e=⟨l,B,wE.heap.size,hi,hp,nn,g0,q4,q3,g1,q5,t,ah,Db,[g0,g1],cntW t.ps.length ah.length nn 0,J hi,Jx⟩:=⟨_,rfl⟩
 have ok:e.Ok:=by subst he; exact ⟨hB,hgb,⟨hloh,by show hp<hi; omega⟩,hck,by show t.sp.length=nn+1; omega,hah,rfl,hoff,λ k W W' hk hj hs hc=>hIt.st hi k W W' hk hj hs hc,λ W W' hj hs hc=>hIt.stM hi W W' hj hs hc,hIt.stx,hIt.ct hi,hIt.ctx,λ k W args hk hj ha=>hIt.yd hi k W args hk hj ha⟩
 have hcall:=yB ok nn 0 [] 0 w (List.replicate nn 0) (a.eval (.tmp 13)) rfl (by subst he; exact qO _) (λ x hx=>by cases hx) (λ r hr=>by subst he; rw [qO]; rfl) (by subst he; rw [qO]; exact qi _) (by subst he; exact hJ1) (by subst he; exact ⟨hT,hP,hY,hA,hD⟩) (by subst he; exact hqp) (by subst he; exact qW) rfl (by have h1:=dn_m ok (l:=[]) (zc _) (λ x hx=>by cases hx); subst he; exact (pQ rfl rfl h1).va _ _ _ hvr)
 rw [qA]
 refine rJ (f:=106) (xs:=[.const (.int .i64 0),.const (.int .i64 0),.tmp 13]) (gs:=e.cap) G ⟨_,Tryz.func106,by kernel_rfl,by kernel_rfl⟩ (by subst he; exact e10) hcall (λ x w5 hR=>?_)
 have hR2:∃ b,x=.returned b∧w.heap.size≤w5.heap.size∧((∃ hi,J hi (cntW t.ps.length ah.length nn 0) w5)∨Jx w5):=by
  subst he
  rcases hR with ⟨h1,h2,h3,_⟩ | ⟨h1,h2,h3⟩
  ·exact ⟨_,h1,h3.size,.inl ⟨hi,by rw [qO] at h2; exact h2⟩⟩
  ·exact ⟨_,h1,h3,.inr h2⟩
 obtain ⟨b,hx,hsz5,hR3⟩:=hR2
 refine ⟨_,hx,?_⟩
 have U:=(St.bare U rfl hsz5).addV (d:=14) (v:=b) (A:=VT) zd zk zk trivial
 refine dS ?_
 refine ec<|GP G U G (λ v w6 hg6=>⟨v,rfl,?_⟩)
 rcases hR3 with ⟨hi,h1⟩ | h1
 ·exact .inl ⟨hi,hIt.stM hi _ _ h1 (cL hg6) ((hIt.ct hi _ _ h1).grow hg6)⟩
 ·exact .inr (hIt.stx _ _ h1 (cL hg6) ((hIt.ctx _ h1).grow hg6))
def ItB (b:Nat)(f:FuncId)(cf:List Nat→List (TypeId × As))(D:List TypeId)(hD:∀ gs,(ItV f (cf gs) gs).deps=D):VA where
 p B v w:=∃ gs,(ItV f (cf gs) gs).p B v w∧∀ g∈gs,b≤g
 deps:=D
 cg:=λ B v w w' hg ⟨gs,h1,h2⟩=>⟨gs,(ItV f (cf gs) gs).cg B v w w' hg h1,h2⟩
 wr:=λ B v w w' g c T fz h1 hT h3 h4 ⟨gs,h5,h6⟩=>⟨gs,(ItV f (cf gs) gs).wr B v w w' g c T fz h1 (by rw [hD gs]; exact hT) h3 h4 h5,h6⟩
def ItM (f:FuncId)(cf:List Nat→List (TypeId × As))(D:List TypeId)(hD:∀ gs,(ItV f (cf gs) gs).deps=D)(ns:List Nat):VA where
 p B v w:=∃ gs,(ItV f (cf gs) gs).p B v w∧∀ n∈ns,n ∉ gs
 deps:=D
 cg:=λ B v w w' hg ⟨gs,h1,h2⟩=>⟨gs,(ItV f (cf gs) gs).cg B v w w' hg h1,h2⟩
 wr:=λ B v w w' g c T fz h1 hT h3 h4 ⟨gs,h5,h6⟩=>⟨gs,(ItV f (cf gs) gs).wr B v w w' g c T fz h1 (by rw [hD gs]; exact hT) h3 h4 h5,h6⟩
def CapN (Γ:List (Nat × VA))(Λ:List Lc):List Nat→List (TypeId × As)→List Nat→List (Nat × Nat)→Prop
 | [],[],[],[]=>True
 | g::gs,c::cs,s::ss,(x,y)::ix=>(Γ[x]?=some (s,EqV (ptr g))∧Λ[y]?=some ⟨s,c.1,ptrH,c.2⟩)∧CapN Γ Λ gs cs ss ix
 | _,_,_,_=>False
theorem pW {B N:Nat}{w0:Bs}{Γ:List (Nat × VA)}{Λ:List Lc}{a:Act}{w:World}(h:St B w0 N Γ Λ a w):∀ {gs:List Nat} {cs:List (TypeId × As)} {ss:List Nat} {ix:List (Nat × Nat)},CapN Γ Λ gs cs ss ix →
  CapsOk B w cs gs∧(∀ g∈gs,w0.may g)∧∀ g∈gs,∃ s∈ss,∃ l∈Λ,l.s=s∧a.eval (.tmp s)=ptr g
 | [],[],[],[],_=>⟨.nil,(λ _ h=>by cases h),(λ _ h=>by cases h)⟩
 | g::gs,c::cs,s::ss,(x,y)::ix,hc=>by
  obtain ⟨⟨e1,e2⟩,h3⟩:=hc
  obtain ⟨i1,i2,i3⟩:=pW h h3
  have hn:a.eval (.tmp s)=ptr g:=h.vals _ (qa e1)
  obtain ⟨g',ds,f1,f2,f3,f4⟩:=h.locs _ (qa e2)
  have f1':a.eval (.tmp s)=ptr g':=f1
  have eg:g'=g:=by rw [hn] at f1'; injection f1' with f1'; injection f1' with f1'; injection f1' with f1'; exact f1'.symm
  subst eg
  refine ⟨.cons ⟨h.lo _ f2,ds,f3,f4⟩ i1,λ g hg=>?_,λ g hg=>?_⟩
  ·rcases qt.1 hg with rfl | hg
   ·exact f2
   ·exact i2 g hg
  ·rcases qt.1 hg with rfl | hg
   ·exact ⟨s,xe,_,qa e2,rfl,hn⟩
   ·obtain ⟨s',q1,q2⟩:=i3 g hg
    exact ⟨s',qX _ q1,q2⟩
 | [],_::_,_,_,h=>h.elim
 | [],[],_::_,_,h=>h.elim
 | [],[],[],_::_,h=>h.elim
 | _::_,[],_,_,h=>h.elim
 | _::_,_::_,[],_,h=>h.elim
 | _::_,_::_,_::_,[],h=>h.elim
theorem yS {B N:Nat}{w0:Bs}{Γ:List (Nat × VA)}{Λ:List Lc}{a:Act}{w:World}(h:St B w0 N Γ Λ a w):∀ {gs:List Nat} {cs:List (TypeId × As)} {ss:List Nat} {ix:List (Nat × Nat)},CapN Γ Λ gs cs ss ix→ss.Nodup→gs.Nodup
 | [],_,_,_,_,_=>jn
 | g::gs,c::cs,s::ss,(x,y)::ix,hc,hn=>by
  obtain ⟨⟨e1,e2⟩,h3⟩:=hc
  obtain ⟨n1,n2⟩:=xx.1 hn
  refine xx.2 ⟨λ hm=>?_,yS h h3 n2⟩
  obtain ⟨s',q1,l,q2,q3,q4⟩:=(pW h h3).2.2 g hm
  have hg:a.eval (.tmp s)=ptr g:=h.vals _ (qa e1)
  refine h.dis _ (qa e2) l q2 (λ e=>n1 ?_) ?_
  ·have e':s=l.s:=e
   rw [e',q3]; exact q1
  ·show blk (a.eval (.tmp s))=blk (a.eval (.tmp l.s))
   rw [q3,q4,hg]
 | _::_,[],_,_,h,_=>by simp [CapN] at h
 | _::_,_::_,[],_,h,_=>by simp [CapN] at h
 | _::_,_::_,_::_,[],h,_=>by simp [CapN] at h
theorem Ia {fn:Func}{B N t:Nat}{f:FuncId}{cf:List Nat→List (TypeId × As)}{hD:∀ gs,(ItV f (cf gs) gs).deps=D}(gs ss:List Nat)(ix:List (Nat × Nat))(hr:fn.results = #[.tmp t])(h:St B w0 N Γ Λ a w)(hF:∀ g,¬ w0.F g)
  (hm:(t,(EqA (.func (.func f) #[] (gs.map ptr).toArray)).va)∈Γ) (hc:CapN Γ Λ gs (cf gs) ss ix) (hs:ss.Nodup):bPost P fn (RQ B w0 (ItB w0.w.heap.size f cf D hD)) .ret a w :=
 fc h λ w h=>by
  have h1:=pW h hc
  refine ⟨_,results_tmp hr a.tmps P w,_,rfl,⟨gs,⟨gX (h.vals _ hm),yS h hc hs,h1.1⟩,λ g hg=>?_⟩,h.base⟩
  rcases h1.2.1 g hg with q | q
  ·exact q
  ·exact absurd q (hF _)
theorem St.itm {B N:Nat}{s:Nat}{f:FuncId}{cf:List Nat→List (TypeId × As)}{hD:∀ gs,(ItV f (cf gs) gs).deps=D}{ps:List (Nat × Nat)}(k:Nat)(ks:List Nat)(h:St B w0 N Γ Λ a w)(hm:Γ[k]?=some (s,ItM f cf D hD (ps.map Prod.snd)))(hn:Nmd Γ ps ks):
  ∃ gb,St B w0 N (Γ.set k (s,ItV f (cf gb) gb)) Λ a w∧∀ t∈ps.map zP,∀ g,blk (a.eval (.tmp t))=some g→g ∉ gb:=by
 obtain ⟨gb,h1,h2⟩:=h.vals _ (qa hm)
 refine ⟨gb,⟨h.lo,h.defers,h.size,h.base,λ x hx=>?_,h.locs,h.dis⟩,λ t ht g hg=>?_⟩
 ·rcases qy hx with hx | rfl
  ·exact h.vals x hx
  ·exact h1
 ·have key:∀ (ps:List (Nat × Nat)) (ks:List Nat),Nmd Γ ps ks→∀ p∈ps,a.eval (.tmp p.1)=ptr p.2:=by
   intro ps
   induction ps with
   | nil=>intro _ _ p hp; cases hp
   | cons q ps ih =>
    intro ks hk p hp
    cases ks with
    | nil=>exact hk.elim
    | cons k ks =>
     obtain ⟨e1,e2⟩:=hk
     rcases qt.1 hp with rfl | hp
     ·exact h.vals _ (qa e1)
     ·exact ih ks e2 p hp
  obtain ⟨p,hp,rfl⟩:=qq.1 ht
  rw [key ps ks hn p hp] at hg
  have:p.2=g:=by injection hg
  rw [← this]
  exact h2 p.2 (qq.2 ⟨p,hp,rfl⟩)
section
variable {P:Program} {R:Rg} {Q:Exit→Act→World→Prop} {B i:Nat} {w0:Bs}
theorem uY {f f':FuncId}{pre:List VA}{cf:List Nat→List (TypeId × As)}{hD:∀ gs,(ItV f (cf gs) gs).deps=D}{xs:List Operand}{at_:Array TypeId}(ns:List (Nat × Nat))(hc:CnI P f' pre (λ b=>ItB b f cf D hD))(hx:HasL R B w0 i xs pre)(hns:Nmo R B w0 i ns):
  Wv P Q R B w0 i (.call ⟨.value (.func f'),xs.toArray,at_⟩) (ItM f cf D hD (ns.map Prod.snd)):=by
 intro d T' ps af gd a w av K hK
 obtain ⟨⟨fn,hf,hn,hb⟩,hcall⟩:=hc
 have hrun:(execOp a.eval ⟨some d,.call ⟨.value (.func f'),xs.toArray,at_⟩,T',ps,af,gd⟩).run P w=.ok (.enter f' (xs.map a.eval).toArray) w:=by
  have e1:a.eval (.func f')=.func (.func f') #[] #[]:=rfl
  simp only [execOp,resolve,e1,Deferred.ofValue,Sem.run_bind,Sem.run_pure,Result.andThen_ok,invoke,bk hf hn hb]
  simp
 unfold Oper.wp
 rw [hrun]
 refine (hcall B w _ (Av.bw av) (hx.all av)).mono λ e w' ⟨v,he,⟨gs,h1,h2⟩,hg⟩=>?_
 subst he
 refine hK v w' hg ⟨gs,h1,λ n hn' hm=>?_⟩
 obtain ⟨p,hp',rfl⟩:=qq.1 hn'
 have h3:=hns.lt av p hp'
 have h4:=h2 _ hm
 omega
end
abbrev alC (t:RTk)(ah:List Nat)(_:List Nat):List (TypeId × As):=[(30,TkO t),(31,SlO 3 [] (ah.map λ (k:Nat)=>InA (k:Int)) True)]
abbrev alDs:List TypeId:=[30,31,U32,U32,U32,U32]
theorem al_D (t:RTk)(ah:List Nat):∀ gs,(ItV 105 (alC t ah gs) gs).deps=alDs:=λ _=>rfl
theorem Hq (t:RTk)(ah:List Nat):CnI Tryz.prog 24 [(TkO t).va,(SlO 3 [] (ah.map λ (k:Nat)=>InA (k:Int)) True).va] (λ b=>ItB b 105 (alC t ah) alDs (al_D t ah)):=by
 refine CnI.introF Tryz.func24 G zk nq (λ B w0 a hF0 hF U=>?_)
 have U:=zn [(0,(TkO t).va),(1,(SlO 3 [] (ah.map λ (k:Nat)=>InA (k:Int)) True).va)] [] U
 refine qb<|zg [] [⟨2,30,ptrH,some 0,_,none⟩,⟨3,31,ptrH,some 1,_,none⟩] [.alc 0,.alc 1,.v 4 _] [.o 2] U (zW 0 G (zW 1 G (zv G (ac bc) o0))) (zz [(4,_)] [O 2 30 _,O 3 31 _] λ a w U=>?_)
 refine zt ?_
 obtain ⟨q2,U⟩:=St.nm U 0 rfl
 obtain ⟨q3,U⟩:=St.nm U 1 rfl
 refine zg [η,η] [] [.v 5 _,.v 4 _] [.g 0,.g 1,.o 1] U (zv G (r_mkE (vs:=[ptr q2,ptr q3]) (.p (gq 1 G) (gq 0 G))) (zA 0 G o0)) (zz [(3,_),(2,_),(4,_)] [O 2 30 _,O 3 31 _] λ a w U=>?_)
 exact aa<|qg<|Ia [q2,q3] [2,3] [(1,0),(0,1)] G U hF0 (zm 2 G) ⟨⟨rfl,rfl⟩,⟨rfl,rfl⟩,trivial⟩ zd
def SlP (q:Nat→Prop)(E:TypeId)(D:List TypeId)(l:List As):As where
 n:=1
 ag:=false
 p B cs w:=(SlA E D l).p B cs w∧∀ v∈cs,∀ g,blk v=some g→q g
 deps:=E::D
 len:=λ B cs w h=>(SlA E D l).len B cs w h.1
 one:=λ B cs w h=>(SlA E D l).one B cs w h.1
 ag1:=λ _=>rfl
 cg:=λ B cs w w' hg h=>⟨(SlA E D l).cg B cs w w' hg h.1,h.2⟩
 wr:=λ B cs w w' g c T fz h1 h2 h3 h4 h=>⟨(SlA E D l).wr B cs w w' g c T fz h1 h2 h3 h4 h.1,h.2⟩
theorem I0 {q:Nat→Prop}{E:TypeId}{l:List As}:WkA (SlP q E D l) (SlA E D l):=⟨rfl,rfl,λ _ _ _ h=>h.1⟩
theorem Aw {q q':Nat→Prop}{E:TypeId}{l:List As}(h:∀ g,q g→q' g):WkA (SlP q E D l) (SlP q' E D l):=⟨rfl,rfl,λ _ _ _ hp=>⟨hp.1,λ v hv g hg=>h g (hp.2 v hv g hg)⟩⟩
theorem Ao {lo hi:Nat}{Tp Tc:List TypeId}{q:Nat→Prop}{E:TypeId}{l:List As}(hE:Tc.contains E=false)(hl:offD (Tc++Tp) (cat l).deps=true)(hq:∀ g,q g→¬ (lo≤g∧g<hi)):StVA lo hi Tp Tc (SlP q E D l):=by
 rintro B cs gs W W' hlo ⟨⟨hD,A,c,ds,rfl,h1,h2,h3,h4⟩,h5⟩ hs hc hb
 refine ⟨⟨hD,A,c,ds,rfl,h1,h2,dA hl _ _ _ _ _ hlo h3 hs hc hb,λ hn=>?_⟩,h5⟩
 obtain ⟨b,o,rfl,h6,h7,h8⟩:=h4 hn
 have hbk:W'.heap[b]?=W.heap[b]?:=hs.block b h6 (λ hF=>by
  rcases hF with hF | ⟨q1,q2,_⟩
  ·rcases h7 with h7 | ⟨c',fz,h7⟩
   ·have:=hb b hF
    omega
   ·obtain ⟨c2,T,fz2,e1,e2⟩:=hc b hF
    rw [h7] at e1
    injection e1 with e1
    injection e1 with _ e1 _
    rw [← e1] at e2
    have hE':E ∉ Tc:=by simpa using hE
    exact hE' e2
  ·exact hq b (h5 _ (qn.2 G) b G) ⟨q1,q2⟩)
 refine ⟨b,o,rfl,qE h6 hs.size,?_,λ j v hv=>?_⟩
 ·rcases h7 with h7 | ⟨c',fz,h7⟩
  ·exact .inl h7
  ·exact .inr ⟨c',fz,hbk.trans h7⟩
 ·rw [← h8 j v hv]
  exact World.cell?_of_block hbk
theorem Aq {lo hi:Nat}{Tp Tc:List TypeId}:∀ {l:List As},(∀ A∈l,StVA lo hi Tp Tc A)→StVA lo hi Tp Tc (cat l):=λ {l} hl B cs gs W W' hlo hp hs hc hb=>by
 obtain ⟨ps,rfl,h2⟩:=hp
 refine ⟨ps,rfl,?_⟩
 revert hl
 induction h2 with
 | nil=>exact λ _=>.nil
 | cons h _ ih=>exact λ hl=>.cons (hl _ xe _ _ _ _ _ hlo h hs hc hb) (ih λ A hA=>hl A (qX _ hA))
def StVAL (lo hi:Nat)(Tp Tc:List TypeId):List Lc→Prop
 | []=>True
 | l::L=>StVA lo hi Tp Tc l.A∧StVAL lo hi Tp Tc L
theorem stVL {lo hi:Nat}{Tp Tc:List TypeId}:∀ {L:List Lc},StVAL lo hi Tp Tc L→∀ l∈L,StVA lo hi Tp Tc l.A
 | _::_,h,l,hl=>by
  rcases qt.1 hl with rfl | hl
  ·exact h.1
  ·exact stVL h.2 l hl
def optA (k:Nat)(Z X:As)(h:X.n=Z.n∧X.ag=Z.ag):As where
 n:=Z.n
 ag:=Z.ag
 p B cs w:=(k=0∧Z.p B cs w)∨(k≠0∧X.p B cs w)
 deps:=Z.deps++X.deps
 len:=λ B cs w hp=>by
  rcases hp with ⟨_,hp⟩ | ⟨_,hp⟩
  ·exact Z.len _ _ _ hp
  ·exact (X.len _ _ _ hp).trans h.1
 one:=λ B cs w hp=>by
  rcases hp with ⟨_,hp⟩ | ⟨_,hp⟩
  ·exact Z.one _ _ _ hp
  ·exact X.one _ _ _ hp
 ag1:=Z.ag1
 cg:=λ B cs w w' hg hp=>by
  rcases hp with ⟨h1,hp⟩ | ⟨h1,hp⟩
  ·exact .inl ⟨h1,Z.cg _ _ _ _ hg hp⟩
  ·exact .inr ⟨h1,X.cg _ _ _ _ hg hp⟩
 wr:=λ B cs w w' g c T fz h1 h2 h3 h4 hp=>by
  simp only [qo,not_or] at h2
  rcases hp with ⟨h5,hp⟩ | ⟨h5,hp⟩
  ·exact .inl ⟨h5,Z.wr _ _ _ _ _ _ _ _ h1 h2.1 h3 h4 hp⟩
  ·exact .inr ⟨h5,X.wr _ _ _ _ _ _ _ _ h1 h2.2 h3 h4 hp⟩
theorem vZ {Z X:As}{h:X.n=Z.n∧X.ag=Z.ag}:WkA Z (optA 0 Z X h):=⟨rfl,rfl,λ _ _ _ hp=>.inl ⟨rfl,hp⟩⟩
theorem vY {k:Nat}{Z X:As}{h:X.n=Z.n∧X.ag=Z.ag}(hk:k≠0):WkA X (optA k Z X h):=⟨h.1.symm,h.2.symm,λ _ _ _ hp=>.inr ⟨hk,hp⟩⟩
theorem vX {k:Nat}{Z X:As}{h:X.n=Z.n∧X.ag=Z.ag}(hk:k≠0):WkA (optA k Z X h) X:=⟨h.1,h.2,λ _ _ _ hp=>by
 rcases hp with ⟨h1,_⟩ | ⟨_,hp⟩
 ·exact absurd h1 hk
 ·exact hp⟩
theorem Ap {lo hi k:Nat}{Tp Tc:List TypeId}{Z X:As}{h:X.n=Z.n∧X.ag=Z.ag}(hZ:StVA lo hi Tp Tc Z)(hX:k≠0→StVA lo hi Tp Tc X):StVA lo hi Tp Tc (optA k Z X h):=λ B cs gs W W' hlo hp hs hc hb=>by
 rcases hp with ⟨h1,hp⟩ | ⟨h1,hp⟩
 ·exact .inl ⟨h1,hZ _ _ _ _ _ hlo hp hs hc hb⟩
 ·exact .inr ⟨h1,hX h1 _ _ _ _ _ hlo hp hs hc hb⟩
def WyP (q:Nat→Prop)(k:Nat)(x:WyQ):As:=cat [SlP q 3 [] (x.l.map InA),QA k x.pw,QA k x.aw,InA x.c]
theorem Hv {q:Nat→Prop}{k:Nat}{x:WyQ}:WkA (WyP q k x) (WyA k x):=bo (.cons I0 (.cons (.refl _) (.cons (.refl _) (.cons (.refl _) .nil))))
theorem Bv (l:List Int):offD D (cat (l.map InA)).deps=true:=qd.2 λ T hT=>by
 obtain ⟨A,hA,hT⟩:=kc.1 hT
 obtain ⟨x,_,rfl⟩:=qq.1 hA
 cases hT
theorem St.upL {B N:Nat}(h:St B w0 N Γ Λ a w){s T:Nat}{A A':As}(i:Nat)(hm:Λ[i]?=some ⟨s,T,H,A⟩)(hA:∀ cs,A.p B cs w→A'.p B cs w):St B w0 N Γ (Λ.set i ⟨s,T,H,A'⟩) a w:=by
 have hin:∀ m∈Λ.set i ⟨s,T,H,A'⟩,∃ m'∈Λ,m'.s=m.s:=λ m hm'=>by
  rcases qy hm' with hm' | rfl
  ·exact ⟨m,hm',rfl⟩
  ·exact ⟨_,qa hm,rfl⟩
 refine ⟨h.lo,h.defers,h.size,h.base,h.vals,λ m hm'=>?_,λ m h1 m' h2 hne=>?_⟩
 ·rcases qy hm' with hm' | rfl
  ·exact h.locs m hm'
  ·obtain ⟨g,cs,e1,e2,e3,e4⟩:=h.locs _ (qa hm)
   exact ⟨g,cs,e1,e2,e3,hA cs e4⟩
 ·obtain ⟨p,q1,q2⟩:=hin m h1
  obtain ⟨p',q3,q4⟩:=hin m' h2
  rw [← q2,← q4]
  exact h.dis p q1 p' q3 (by rw [q2,q4]; exact hne)
def ElQ (gb:List Nat)(b0:Nat)(E:TypeId)(A:As):VA where
 p B v w:=(ElP E A).p B v w∧∃ g,v=ptr g∧g ∉ gb∧g<b0
 deps:=E::A.deps
 cg:=λ B v w w' hg h=>⟨(ElP E A).cg _ _ _ _ hg h.1,h.2⟩
 wr:=λ B v w w' g c T fz h1 h2 h3 h4 h=>⟨(ElP E A).wr _ _ _ _ _ _ _ _ h1 h2 h3 h4 h.1,h.2⟩
theorem St.toQ {B N:Nat}(h:St B w0 N Γ Λ a w){s:Nat}{A:As}{gb:List Nat}(k:Nat)(hm:Λ[k]?=some ⟨s,T,ptrH,A⟩)(hd:∀ g,blk (a.eval (.tmp s))=some g→g ∉ gb):St B w0 N ((s,ElQ gb w.heap.size T A)::Γ) (Λ.eraseIdx k) a w:=by
 have h2:=St.ofPtr h k hm
 obtain ⟨g,cs,e1,_,e3,e4⟩:=h.locs _ (qa hm)
 have e1':a.eval (.tmp s)=ptr g:=e1
 refine ⟨h2.lo,h2.defers,h2.size,h2.base,λ x hx=>?_,h2.locs,h2.dis⟩
 rcases qt.1 hx with rfl | hx
 ·exact ⟨h2.vals _ xe,g,e1',hd g (by rw [e1']; rfl),(Array.getElem?_eq_some_iff.1 e3).1⟩
 ·exact h2.vals x (qX _ hx)
def natL (l:List Int):List Nat:=l.map Int.toNat
theorem HY {l:List Int}{m:List Nat}(h:l=m.map (λ (k:Nat)=>(k:Int))):SlO 3 [] (l.map InA) True=SlO 3 [] (m.map λ (k:Nat)=>InA (k:Int)) True:=by rw [h,z6]; rfl
theorem up_si (l:List Int):UpA (SlA 3 [] (l.map InA)) (SlO 3 [] (l.map InA) True):=fC λ A hA=>by
 obtain ⟨x,_,rfl⟩:=qq.1 hA
 exact fD _ _
abbrev WyZ:As:=cat [EqA (.slice none 0 0),RFA rf0,RFA rf0,NumA .i64 0]
abbrev Wk26 (nn:Nat):Nat:=dnK (nn+2)+4200
theorem gn {nn:Nat}(h:nn≤12):Wk26 nn≤400000000:=by unfold Wk26 dnK; omega
abbrev WyX (t:RTk)(nn:Nat)(a:List Nat):As:=WyA (Wk26 nn) (wayW t a)
end Go.Proofs.YtedfcalhhldijaaGreatDoor
