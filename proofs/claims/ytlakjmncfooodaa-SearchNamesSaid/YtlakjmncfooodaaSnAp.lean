import Derived.Test.YtlakjmncfooodaaSnAo
set_option linter.all false
set_option maxRecDepth 100000
namespace Go.Proofs.Ytlakjmncfooodaa
open Go Go.RowKit
variable {w:World}{B:Nat}{a:Act}{v:Value}{T:TypeId}{w0:Bs}{Γ:List (Nat × VA)}{Λ:List Lc}{ps:String}{af:Array Edge}{vr:Value}{H:Hd}{cs:List Value}{w':World}{P:Program}{D:List TypeId}
def locV (Λ:List Lc)(a:Act)(k:Nat):Prop:=∃ l∈Λ,blk (a.eval (.tmp l.s))=some k
def defV (w0:Bs)(w:World)(k:Nat):Prop:=w0.may k∧w.heap[k]?=some (.deferred (some []))
theorem St.frameM {B N:Nat}(h:St B w0 N Γ Λ a w):∃ w1:Bs,St B w1 N Γ Λ a w∧∀ {N':Nat} {Γ':List (Nat × VA)} {Λ':List Lc} {a':Act} {w':World},St B w1 N' Γ' Λ' a' w' →
  St B w0 N' Γ' Λ' a' w'∧∀ (k:Nat) (es:Array MapEntry) (clock:Nat),w.heap[k]?=some (.map es clock)→w'.heap[k]?=some (.map es clock):=by
 have hloc:∀ k,locV Λ a k→w0.may k∧∃ l∈Λ,blk (a.eval (.tmp l.s))=some k∧∃ cs,w.heap[k]?=some (.cells cs l.T (0,0)):=λ k ⟨l,hl,hb⟩=>by
  obtain ⟨g,cs,e1,e2,e3,_⟩:=h.locs l hl
  have:g=k:=by rw [e1,l.H.ok] at hb; injection hb
  subst this
  exact ⟨e2,l,hl,hb,_,e3⟩
 have hmay:∀ k,(⟨w,λ k=>locV Λ a k∨defV w0 w k,w0.nd⟩:Bs).may k→w0.may k:=λ k hk=>by
  rcases hk with hk | hk | hk
  ·exact .inl (qe h.base.size hk)
  ·exact (hloc k hk).1
  ·exact hk.1
 refine ⟨⟨w,λ k=>locV Λ a k∨defV w0 w k,w0.nd⟩,⟨?_,⟨λ d hd=>?_,h.defers.nodup,h.defers.none⟩,h.size,Kept.refl _,h.vals,λ l hl=>?_,h.dis⟩,λ {N' Γ' Λ' a' w'} h'=>⟨⟨h.lo,⟨λ d hd=>?_,h'.defers.nodup,h'.defers.none⟩,h'.size,?_,h'.vals,λ l hl=>?_,h'.dis⟩,?_⟩⟩
 ·exact λ g hg=>h.lo g (hmay g hg)
 ·obtain ⟨D,e1,e2,e3⟩:=h.defers.all d hd
  exact ⟨D,e1,.inr (.inr ⟨e2,e3⟩),e3⟩
 ·obtain ⟨g,cs,e1,e2,e3,e4⟩:=h.locs l hl
  exact ⟨g,cs,e1,.inr (.inl ⟨l,hl,by rw [e1]; exact l.H.ok g⟩),e3,e4⟩
 ·obtain ⟨D,e1,e2,e3⟩:=h'.defers.all d hd
  exact ⟨D,e1,hmay D e2,e3⟩
 ·refine ⟨h'.base.os.trans h.base.os,h'.base.tape.trans h.base.tape,h'.base.output.trans h.base.output,qe h.base.size h'.base.size,λ k hk hf=>?_⟩
  refine (h'.base.block k (qD hk h.base.size) (λ hF=>?_)).trans (h.base.block k hk hf)
  rcases hmay k (.inr hF) with h1 | h1
  ·omega
  ·exact hf h1
 ·obtain ⟨g,cs,e1,e2,e3,e4⟩:=h'.locs l hl
  exact ⟨g,cs,e1,hmay g e2,e3,e4⟩
 ·intro k es clock hk
  refine (h'.base.block k (Array.getElem?_eq_some_iff.1 hk).1 λ hF=>?_).trans hk
  rcases hF with hF | hF
  ·obtain ⟨_,_,_,_,cs,hc⟩:=hloc k hF
   rw [hk] at hc
   cases hc
  ·rw [hF.2] at hk
   cases hk
theorem MpI.kept2 {K E:TypeId}{b:Nat}{ns:List ByteArray}(h:MpI P K E w b ns)(hk:∀ (k:Nat) (es:Array MapEntry) (clock:Nat),w.heap[k]?=some (.map es clock)→w'.heap[k]?=some (.map es clock)):MpI P K E w' b ns:=by
 obtain ⟨es,clock,hb⟩:=h.at_
 exact h.kept ((hk b es clock hb).trans hb.symm)
section
variable {P:Program} {Q:Exit→Act→World→Prop} {B N:Nat} {w0:Bs} {Γ:List (Nat × VA)} {Λ:List Lc} {a:Act} {w:World}
theorem St.growM (h:St B w0 N Γ Λ a w)(hg:Grow w w'):St B w0 N Γ Λ a w':=⟨h.lo,h.defers.grow hg rfl,h.size,h.base.grow hg,λ x hx=>x.2.grow _ _ _ _ hg (h.vals x hx),λ l hl=>(h.locs l hl).grow hg,h.dis⟩
theorem St.turnM {b:Nat}{es:Array MapEntry}{clock:Nat}(h:St B w0 N Γ Λ a w)(hb:w.heap[b]?=some (.map es clock))(hge:w0.w.heap.size≤b)(hg:w.grownBy w' (some b)):St B w0 N Γ Λ a w':=by
 have hblk:∀ k,k<w.heap.size→k≠b→w'.heap[k]?=w.heap[k]?:=λ k hk hne=>hg.block k hk (λ e=>hne (by injection e))
 have hc:Cg w w':=⟨hg.size,λ k c T fz hk=>(hblk k (Array.getElem?_eq_some_iff.1 hk).1 (λ e=>by subst e; rw [hb] at hk; cases hk)).trans hk⟩
 refine ⟨h.lo,h.defers.keep rfl λ D hD=>(hblk D (Array.getElem?_eq_some_iff.1 hD).1 (λ e=>by subst e; rw [hb] at hD; cases hD)).trans hD,h.size,⟨hg.os.trans h.base.os,hg.tape.trans h.base.tape,hg.output.trans h.base.output,qe h.base.size hg.size,λ k hk hf=>(hblk k (qD hk h.base.size) zo).trans (h.base.block k hk hf)⟩,
  λ x hx=>x.2.cg _ _ _ _ hc (h.vals x hx),λ l hl=>?_,h.dis⟩
 obtain ⟨g,cs,e1,e2,e3,e4⟩:=h.locs l hl
 exact ⟨g,cs,e1,e2,hc.heap e3,l.A.cg _ _ _ _ hc e4⟩
theorem go_hand {id n:Nat}{ops:Array Oper}(hsz:ops.size=n)(h:wpOps P ops Q (List.range' 0 n) a w):(Code.region id ops false).wp P Q a w:=by
 refine wp_region ?_
 rw [List.range_eq_range',hsz]
 exact h
variable {ops:Array Oper} {i:Nat} {K:Act→World→Prop}
theorem op_mkMap {d:Nat}{T KT E T':TypeId}(ho:ops[i]?=some ⟨some d,.makeMap T none,T',ps,af,none⟩)(h:St B w0 N Γ Λ a w)(hd:d<N)(hΓ:Γ.all (λ x=>x.1 != d)=true)(hΛ:Λ.all (λ l=>l.s != d)=true)
  (hK:∀ a' w' b,St B w0 N ((d,EqV (.map (some b)))::Γ) Λ a' w'→MpI P KT E w' b []→w0.w.heap.size≤b→K a' w'):wpOp P ops Q i K a w:=by
 unfold wpOp
 simp only [ho,Region.wanted,if_true]
 refine .inl (bf (w':=w.alloc (.map #[] 0)) (v:=.map (some w.heap.size)) (by simp [execOp,run_makeMap]) (hK _ _ _ ((h.growM (Grow.alloc _ _)).addV hd hΓ hΛ (show (EqV (.map (some w.heap.size))).p _ _ _ from G)) mp_new h.base.size))
theorem op_count {m s u:Nat}{T KT E T1:TypeId}{ps1:String}{af1:Array Edge}{b:Nat}{ns:List ByteArray}{x:ByteArray}(km ks:Nat)
  (h:St B w0 N Γ Λ a w) (hM:MpI P KT E w b ns) (hge:w0.w.heap.size≤b) (hKT:P.underlying KT=some .string) (ht:P.underlying T=some (.map KT E)) (hE:P.underlying E=some (.int .i64)) (hz:∀ w,(zeroValue E).run P w=.ok (.int .i64 0) w) (hn:ns.length<4096) (hs:x.size≤4096)
  (hm:Γ[km]?=some (m,EqV (.map (some b)))) (hx:Γ[ks]?=some (s,EqV (.string x))) (ho:ops[i]?=some ⟨some u,.lookup T (.tmp m) (.tmp s) false,T1,ps1,af1,none⟩) (hu:u<N) (hΓ:Γ.all (λ x=>x.1 != u)=true) (hΛ:Λ.all (λ l=>l.s != u)=true)
  (hK:∀ (c:Int) (a':Act),St B w0 N ((u,In c)::Γ) Λ a' w→(∃ w',(Instr.mapUpdate T (.map (some b)) (.string x) (.int .i64 (IntKind.i64.wrap (c+1)))).run P w=.ok () w'∧MpI P KT E w' b (ns++[x])∧w.grownBy w' (some b))→K a' w):wpOp P ops Q i K a w:=by
 obtain ⟨c,hr,hup⟩:=hM.add hKT ht hE (hz w) hn hs
 have e1:a.eval (.tmp m)=.map (some b):=h.vals _ (qa hm)
 have e2:a.eval (.tmp s)=.string x:=h.vals _ (qa hx)
 exact fi (A:=In c) (v:=.int .i64 c) ho h hu hΓ hΛ (by simp [execOp,e1,e2,hr]) (br _ _ _ _) λ U=>hK c _ U hup
theorem op_mupd {m s v:Nat}{T KT E T1:TypeId}{ps1:String}{af1:Array Edge}{b:Nat}{ns:List ByteArray}{x:ByteArray}{c:Int}(km ks kv:Nat)
  (h:St B w0 N Γ Λ a w) (hM:MpI P KT E w b ns) (hge:w0.w.heap.size≤b) (hup:∃ w',(Instr.mapUpdate T (.map (some b)) (.string x) (.int .i64 c)).run P w=.ok () w'∧MpI P KT E w' b (ns++[x])∧w.grownBy w' (some b))
  (hm:Γ[km]?=some (m,EqV (.map (some b)))) (hx:Γ[ks]?=some (s,EqV (.string x))) (hv:Γ[kv]?=some (v,In c)) (ho:ops[i]?=some ⟨none,.mapUpdate T (.tmp m) (.tmp s) (.tmp v),T1,ps1,af1,none⟩)
  (hK:∀ w',St B w0 N Γ Λ a w'→MpI P KT E w' b (ns++[x])→K (a.put none undef) w'):wpOp P ops Q i K a w:=by
 obtain ⟨w',hr,hM',hg⟩:=hup
 obtain ⟨es,clock,hb⟩:=hM.at_
 have e1:a.eval (.tmp m)=.map (some b):=h.vals _ (qa hm)
 have e2:a.eval (.tmp s)=.string x:=h.vals _ (qa hx)
 have e3:a.eval (.tmp v)=.int .i64 c:=aF (h.vals _ (qa hv))
 unfold wpOp
 simp only [ho,Region.wanted,if_true]
 refine .inl ?_
 unfold Oper.wp
 simp [execOp,e1,e2,e3,hr,Result.andThen]
 exact hK w' (h.turnM hb hge hg) hM'
end
theorem slo_A {E:TypeId}{l:List As}:WkA (SlO E D l True) (SlA E D l):=⟨rfl,rfl,λ B cs w ⟨_,hD,A,c,ds,e,h1,h2,h3,h4⟩=>⟨hD,A,c,ds,e,h1,h2,h3,λ hn=>by
 obtain ⟨b,o,e1,e2,e3,e4⟩:=h4 hn
 exact ⟨b,o,e1,e2,.inl e3,e4⟩⟩⟩
theorem up_eqA (v:Value):UpA (EqA v) (EqA v):=⟨rfl,rfl,λ _ _ _ _ h=>h⟩
theorem upA_pt (x:RPt):UpA (PtA x) (PtA x):=dB (.cons (up_eqA _) (.cons (upA_re _) (.cons (fL _ _) .nil)))
def TkO (t:RTk):As:=cat [SlO 27 [U32] (t.sp.map RFA) True,SlO 52 [U32] (t.ps.map PtA) True,RFA t.tg]
theorem cp (t:RTk):UpA (TkA t) (TkO t):=dB (.cons (gZ (λ A hA=>by obtain ⟨x,_,rfl⟩:=qo.1 hA; exact eD x)) (.cons (gZ (λ A hA=>by obtain ⟨x,_,rfl⟩:=qo.1 hA; exact upA_pt x)) (.cons (eD _) .nil)))
theorem tko_A {t:RTk}:WkA (TkO t) (TkA t):=bc (.cons slo_A (.cons slo_A (.cons (.refl _) .nil)))
def spF (x:RF):Bool := !(((if okX x then (0:Int) else 1) != 0) || decide ((toQ x).num.sign<0))
def ptF (p:RPt):Bool := !(((!namF p.nm || (chF [p.e] != 0)) || decide (p.c<0)) || decide (p.c>1073741824))
def hdF (t:RTk):Bool:=(((decide ((t.sp.length:Int)<2) || decide ((t.sp.length:Int)>13)) || decide ((t.ps.length:Int)<1)) || decide ((t.ps.length:Int)>64)) || ((if okX t.tg then (0:Int) else 1) != 0)
def wayB (p:Nat):Nat→Bool
 | 0=>false
 | k+1=>wayB p k || decide (p^(k+1)>65536)
def ckF (t:RTk):Int:=if hdF t then 1 else if !t.sp.all spF then 1 else if !t.ps.all ptF then 1 else if dupB (t.ps.map RPt.nm) then 10 else if wayB t.ps.length (t.sp.length-1) then 4 else 0
theorem nm_ok {p:RPt}(h:ptF p=true):p.nm.size≤32:=by
 unfold ptF at h
 simp only [qq,qJ,jS] at h
 have h1:=h.1.1.1
 unfold namF at h1
 split at h1
 ·cases h1
 ·rename_i h2
  exact nm_sz (by simpa using h2)
theorem sgn_s {x:RF}(h:((if okX x then (0:Int) else 1) != 0)=false):Cn Try.prog 27 [(RFA x).va] (In (toQ x).num.sign):=by
 have hx:okX x=true:=by
  by_cases h1:okX x=true
  ·exact h1
  ·rw [qm h1] at h; exact absurd h zd
 exact sign_q.wk (.cons (qa_x hx (qf _)).va .nil)
section
open Rg
variable {P:Program} {Q:Exit→Act→World→Prop} {B N:Nat} {w0:Bs} {Γ:List (Nat × VA)} {Λ:List Lc} {a:Act} {w:World}
def les0 (Λ:List Lc):List Le:=Λ.map λ l=>⟨l.s,l.T,l.H,none,l.A,none⟩
theorem les0_last:(les0 Λ).map (λ e=>(⟨e.s,e.T,e.H,Rg.last e⟩:Lc))=Λ:=by
 unfold les0
 rw [xa]
 have:(λ e:Le=>(⟨e.s,e.T,e.H,Rg.last e⟩:Lc))∘(λ l:Lc=>(⟨l.s,l.T,l.H,none,l.A,none⟩:Le))=id:=by
  funext l
  rfl
 rw [this,jF]
theorem go_restK {ops:Array Oper}{sp:List Sp}(Γd:List (Nat × VA))(m:Nat)(src:List Src)(h:St B w0 N (Γd++Γ) Λ a w)(h0:sp.take Γd.length=Γd.map λ x=>Sp.v x.1 x.2)(hsz:ops.size=Γd.length+m)
  (hob:Obs P Q ⟨ops,N,Γ,les0 Λ,sp,λ i=>List.range i⟩ B w0 Γd.length m) (hk:Rg.chk ⟨ops,N,Γ,les0 Λ,sp,λ i=>List.range i⟩=true) (hsrc:src.all (okS ⟨ops,N,Γ,les0 Λ,sp,λ i=>List.range i⟩)=true)
  (hQ:∀ a w,St B w0 N (src.filterMap (takeS ⟨ops,N,Γ,les0 Λ,sp,λ i=>List.range i⟩)) Λ a w→Q .normal a w):wpOps P ops Q (List.range' Γd.length m) a w:=by
 have hat:∀ i,i<Γd.length→∃ x,x∈Γd∧sp[i]?=some (.v x.1 x.2):=λ i hi=>by
  have e:(sp.take Γd.length)[i]?=sp[i]?:=by rw [List.getElem?_take,qy hi]
  rw [h0,List.getElem?_map] at e
  refine ⟨Γd[i],qg _,?_⟩
  rw [← e,List.getElem?_eq_getElem hi]; rfl
 have hmem:∀ e∈les0 Λ,e.cr=none∧e.st=none∧(⟨e.s,e.T,e.H,e.A0⟩:Lc)∈Λ:=λ e he=>by
  obtain ⟨l,hl,rfl⟩:=qo.1 he
  exact ⟨rfl,rfl,hl⟩
 have hcur:∀ e∈les0 Λ,∀ L:Nat→Bool,Rg.cur L e=some e.A0:=λ e he L=>by
  obtain ⟨h1,h2,_⟩:=hmem e he
  unfold Rg.cur
  rw [h1,h2]
  rfl
 have hi0:Rg.Inv ⟨ops,N,Γ,les0 Λ,sp,λ i=>List.range i⟩ B w0 (λ j=>decide (j<Γd.length)) a w:=by
  refine ⟨h.lo,h.defers,h.size,h.base,λ x hx _ _=>h.vals x (qj.2 (.inr hx)),λ i y d A hs hv hL _=>?_,λ i d b k c hs hL _=>?_,λ e he A hA=>?_,λ e he f hf hne _ _=>?_⟩
  ·obtain ⟨x,hx,hx2⟩:=hat i (qw hL)
   have hs':sp[i]?=some y:=hs
   rw [hx2] at hs'
   injection hs' with hs'
   subst hs'
   simp only [Sp.vl,Option.some.injEq,Prod.mk.injEq] at hv
   obtain ⟨rfl,rfl⟩:=hv
   exact h.vals x (qj.2 (.inl hx))
  ·obtain ⟨x,hx,hx2⟩:=hat i (qw hL)
   have hs':sp[i]?=some (.adr d b k c):=hs
   rw [hx2] at hs'
   cases hs'
  ·rw [hcur e he] at hA
   injection hA with hA
   subst hA
   exact h.locs _ (hmem e he).2.2
  ·exact h.dis _ (hmem e he).2.2 _ (hmem f hf).2.2 hne
 have key:∀ m k,Γd.length≤k→k+m=ops.size→∀ a w,Rg.Inv ⟨ops,N,Γ,les0 Λ,sp,λ i=>List.range i⟩ B w0 (λ j=>decide (j<k)) a w→wpOps P ops Q (List.range' k m) a w:=by
  intro m
  induction m with
  | zero =>
   intro k hk1 hkm a w hi
   have:k=ops.size:=by omega
   subst this
   have:=dL hk ⟨hi⟩ src hsrc
   rw [show (Rg.mk ops N Γ (les0 Λ) sp (λ i=>List.range i)).les=les0 Λ from rfl,les0_last] at this
   exact hQ a w this
  | succ m ih =>
   intro k hk1 hkm a w hi
   rw [List.range'_succ,qG]
   refine Rg.step hk (hob.all k zo zo) hi ?_ (by simp) ?_ _ λ a' w' hi'=>ih (k+1) zo zo a' w' (hi'.congr λ j=>?_)
   ·intro i hi j hj
    have hj:(List.range i).contains j=true:=hj
    simp at hi hj ⊢
    omega
   ·intro j hj
    have hj:(List.range k).contains j=true:=hj
    simpa using hj
   ·unfold upd
    by_cases h1:j=k
    ·subst h1; simp
    ·have h2:(j==k)=false:=by simpa using h1
     rw [h2,xc,qF]
     omega
 exact key m Γd.length (qf _) zo a w hi0
variable {ops:Array Oper} {i:Nat} {K:Act→World→Prop}
theorem op_mvS {d u:Nat}{T':TypeId}{A:VA}(ku:Nat)(ho:ops[i]?=some ⟨some d,.move (.tmp u),T',ps,af,none⟩)(h:St B w0 N Γ Λ a w)
  (hu:Γ[ku]?=some (u,A)) (hd:d<N) (hΓ:Γ.all (λ x=>x.1 != d)=true) (hΛ:Λ.all (λ l=>l.s != d)=true)
  (hK:∀ a',St B w0 N ((d,A)::Γ) Λ a' w→K a' w):wpOp P ops Q i K a w :=
 fi (A:=A) (v:=a.eval (.tmp u)) ho h hd hΓ hΛ (by simp [execOp]) (h.vals _ (qa hu)) (hK _)
theorem op_cnS {d:Nat}{k:IntKind}{n:Int}{T':TypeId}(ho:ops[i]?=some ⟨some d,.assign (.const (.int k n)),T',ps,af,none⟩)(h:St B w0 N Γ Λ a w)
  (hd:d<N) (hΓ:Γ.all (λ x=>x.1 != d)=true) (hΛ:Λ.all (λ l=>l.s != d)=true)
  (hK:∀ a',St B w0 N ((d,(NumA k n).va)::Γ) Λ a' w→K a' w):wpOp P ops Q i K a w :=
 fi (A:=(NumA k n).va) (v:=.int k n) ho h hd hΓ hΛ (by simp [execOp,Act.eval]) (br _ _ _ _) (hK _)
theorem op_adc {d u:Nat}{c n:Int}{xt yt T':TypeId}(ku:Nat)(ho:ops[i]?=some ⟨some d,.binOp .add xt (.tmp u) (.const (.int .i64 n)) yt,T',ps,af,none⟩)(h:St B w0 N Γ Λ a w)
  (hu:Γ[ku]?=some (u,In c)) (hd:d<N) (hΓ:Γ.all (λ x=>x.1 != d)=true) (hΛ:Λ.all (λ l=>l.s != d)=true)
  (hK:∀ a',St B w0 N ((d,In (IntKind.i64.wrap (c+n)))::Γ) Λ a' w→K a' w):wpOp P ops Q i K a w:=by
 have e:a.eval (.tmp u)=.int .i64 c:=aF (h.vals _ (qa hu))
 refine fi (A:=In (IntKind.i64.wrap (c+n))) (v:=.int .i64 (IntKind.i64.wrap (c+n))) ho h hd hΓ hΛ ?_ (br _ _ _ _) (hK _)
 have e2:a.eval (.const (.int .i64 n))=.int .i64 n:=rfl
 simp only [execOp,e,e2,Sem.run_bind,binOp_add]
 rfl
theorem op_mlen {d m:Nat}{T KT E T':TypeId}{b:Nat}{ns:List ByteArray}(km:Nat)(ho:ops[i]?=some ⟨some d,.call ⟨.builtin .len,#[.tmp m],#[T]⟩,T',ps,af,none⟩)(h:St B w0 N Γ Λ a w)(hM:MpI P KT E w b ns)(ht:P.underlying T=some (.map KT E))
  (hm:Γ[km]?=some (m,EqV (.map (some b)))) (hd:d<N) (hΓ:Γ.all (λ x=>x.1 != d)=true) (hΛ:Λ.all (λ l=>l.s != d)=true)
  (hK:∀ (n:Nat) a',decide ((n:Int)<(ns.length:Int))=dupB ns→St B w0 N ((d,In (n:Nat))::Γ) Λ a' w→K a' w):wpOp P ops Q i K a w:=by
 obtain ⟨n,hr,hn⟩:=hM.len ht T'
 have e1:a.eval (.tmp m)=.map (some b):=h.vals _ (qa hm)
 exact fi (A:=In (n:Nat)) (v:=.int .i64 n) ho h hd hΓ hΛ (by simp [execOp,resolve,invoke,builtin,e1,hr]) (br _ _ _ _) (hK n _ hn)
end
theorem eL:Str Try.prog 52 [EqA (.string ⟨#[]⟩),cat [NumA .u8 0,RFA rf0,RFA rf0],NumA .i64 0] :=
 Str.of (z:=.agg #[.string ⟨#[]⟩,.int .u8 0,.bool false,.slice none 0 0,.bool false,.slice none 0 0,.bool false,.slice none 0 0,.bool false,.slice none 0 0,.int .i64 0]) zk Try.underlying52 zk λ B w=>⟨[[.string ⟨#[]⟩],[.int .u8 0,.bool false,.slice none 0 0,.bool false,.slice none 0 0,.bool false,.slice none 0 0,.bool false,.slice none 0 0],[.int .i64 0]],rfl,.cons ⟨rfl,rfl⟩ (.cons ⟨[[.int .u8 0],[.bool false,.slice none 0 0,.bool false,.slice none 0 0],[.bool false,.slice none 0 0,.bool false,.slice none 0 0]],rfl,.cons rfl (.cons (et B w) (.cons (et B w) .nil))⟩ (.cons rfl .nil))⟩
theorem hd_b {t:RTk}(h:hdF t=false):2≤t.sp.length∧t.sp.length≤13∧1≤t.ps.length∧t.ps.length≤64∧okX t.tg=true:=by
 unfold hdF at h
 simp only [qJ,qn] at h
 refine ⟨by omega,by omega,by omega,by omega,?_⟩
 by_cases h1:okX t.tg=true
 ·exact h1
 ·have:=h.2
  rw [qm h1] at this
  exact absurd this zd
theorem ck_sp {t:RTk}(h1:hdF t=false)(h2:t.sp.all spF=false):ckF t=1:=by rw [ckF,qm (by rw [h1]; decide),qy (by rw [h2]; rfl)]
theorem ck_ps {t:RTk}(h1:hdF t=false)(h2:t.sp.all spF=true)(h3:t.ps.all ptF=false):ckF t=1:=by rw [ckF,qm (by rw [h1]; decide),qm (by rw [h2]; decide),qy (by rw [h3]; rfl)]
theorem ck_du {t:RTk}(h1:hdF t=false)(h2:t.sp.all spF=true)(h3:t.ps.all ptF=true)(h4:dupB (t.ps.map RPt.nm)=true):ckF t=10:=by rw [ckF,qm (by rw [h1]; decide),qm (by rw [h2]; decide),qm (by rw [h3]; decide),qy h4]
theorem ck_wa {t:RTk}(h1:hdF t=false)(h2:t.sp.all spF=true)(h3:t.ps.all ptF=true)(h4:dupB (t.ps.map RPt.nm)=false):ckF t=if wayB t.ps.length (t.sp.length-1) then 4 else 0:=by rw [ckF,qm (by rw [h1]; decide),qm (by rw [h2]; decide),qm (by rw [h3]; decide),qm (by rw [h4]; decide)]
theorem slo_e {t:RTk}(h1:2≤t.sp.length)(h2:t.sp.length≤13):sloF t=((t.sp.length-1:Nat):Int):=by
 unfold sloF
 rw [wi64 zo zo]
 omega
theorem way_le {p:Nat}:∀ {j:Nat},wayB p j=false→p^j≤65536
 | 0,_=>by rw [x3]; decide
 | j+1,h=>by
  rw [wayB,qJ,qn] at h
  omega
theorem way_mul {p j:Nat}(h:wayB p j=false)(hp:p≤64):IntKind.i64.wrap (((p^j:Nat):Int)*((p:Nat):Int))=((p^(j+1):Nat):Int):=by
 have h1:=way_le h
 have h2:p^j*p≤65536*64:=xj h1 hp
 rw [← xw,wi64 zo zo,qR]
theorem kr {p:Nat}:∀ {n j:Nat},j≤n→wayB p j=true→wayB p n=true
 | 0,j,h,hw=>by
  obtain rfl:j=0:=by omega
  exact hw
 | n+1,j,h,hw=>by
  by_cases e:j=n+1
  ·rw [← e]; exact hw
  ·rw [wayB,kr (n:=n) zo hw]; rfl
theorem dec_n {m:Nat}:decide (((m:Nat):Int)>65536)=decide (m>65536):=by
 rw [qF]; omega
theorem dc {ops:Array Oper}{Q:Exit→Act→World→Prop}(h:Q .normal a w):wpOps P ops Q [] a w:=h
theorem db {ops:Array Oper}{Q:Exit→Act→World→Prop}(h:Q .normal a w):wpOps P ops Q [] (a.put none undef) w:=h
set_option maxHeartbeats 2000000 in
theorem c6 (t:RTk):Cn Try.prog 13 [(TkA t).va] (In (ckF t)):=by
 refine Cn.introW Try.func13 G zk nq (.cons (cp t).va .nil) (cT _ _).va (λ B w0 a hB0 U=>?_)
 have U:=zn [(0,(TkO t).va)] [] U
 refine qb<|zg [] [⟨1,36,ptrH,some 0,_,none⟩] [.alc 0,.v 2 _] [.o 1] U (zW 0 G (zv G (a6 a5) o0)) (zz [(2,_)] [O 1 36 _] λ a w U=>?_)
 refine zt<|qb<|gl (sts:=[none]) (news:=[]) (sp:=((.adr 9 1 (.some 0) True:Sp)::(.v 10 _)::(.v 11 _)::(.v 12 _)::(.v 13 _)::(.adr 14 1 (.some 0) (_=false))::(.f 15 _)::(.f 16 _)::(.f 17 _)::(.v 18 _)::(.v 19 _)::(.adr 20 1 (.some 1) (_=false))::(.f 21 _)::(.f 22 _)::(.f 23 _)::(.v 24 _)::(.v 25 _)::(.adr 26 1 (.some 1) (_=false))::(.f 27 _)::(.f 28 _)::(.f 29 _)::(.v 30 _)::(.v 31 _)::(.adr 32 1 (.some 2) (_=false))::(.f 33 _)::(.f 34 _)::(.f 35 _)::(.v 36 _)::[])) [.g 0,.o 27] U (zO 0 G bF (zL 0 0 0 G el (zv G (bH Try.underlying33 (bj (ap (vq 1 G)))) (zv G (aY (vq 2 G) a5) (zv G (a7 (vq 3 G)) (zC 4 0 G bF (zB 4 G (λ hg=>aD 5 G zk hg (lz0 0 G) (Sub.part 0 G G) el) (zB 4 G (λ hg=>bH Try.underlying33 (bj (ap (a9 (vq 6 G) hg)))) (zB 4 G (λ hg=>cZ (a9 (vq 7 G) hg) a5) (zv G (r_or (vq 4 G) (vq 8 G)) (zv G (a7 (vq 9 G)) (zC 10 0 G bE (zB 10 G (λ hg=>aD 11 G zk hg (lz0 0 G) (Sub.part 1 G G) ek) (zB 10 G (λ hg=>bH Try.underlying34 (bj (ap (a9 (vq 12 G) hg)))) (zB 10 G (λ hg=>aY (a9 (vq 13 G) hg) a5) (zv G (r_or (vq 10 G) (vq 14 G)) (zv G (a7 (vq 15 G)) (zC 16 0 G bE (zB 16 G (λ hg=>aD 17 G zk hg (lz0 0 G) (Sub.part 1 G G) ek) (zB 16 G (λ hg=>bH Try.underlying34 (bj (ap (a9 (vq 18 G) hg)))) (zB 16 G (λ hg=>cZ (a9 (vq 19 G) hg) a5) (zv G (r_or (vq 16 G) (vq 20 G)) (zv G (a7 (vq 21 G)) (zC 22 0 G fld_36_2 (zB 22 G (λ hg=>aD 23 G zk hg (lz0 0 G) (Sub.part 2 G G) ar) (zB 22 G (λ hg=>aW (iY _) (.o (a9 (vq 24 G) hg))) (zB 22 G (λ hg=>bM (a9 (vq 25 G) hg) a5) (zv G (r_or (vq 22 G) (vq 26 G)) o0)))))))))))))))))))))))))))) (zz [(2,_),(36,_)] [O 1 36 _] λ a w U=>?_)
 refine a4<|aa U (zm 1 G) (λ hb0=>?_) (λ hb0=>?_)
 ·have hd:hdF t=true:=by simp only [qd] at hb0; exact hb0
  refine qb<|zg [η] [] [.v 2 _] [.o 0] U (zv G (a6 a5) o0) (zz [(2,_)] [O 1 36 _] λ a w U=>?_)
  refine a4<|qh<|ac ?_
  refine an ?_ (ae G U (zm 0 G))
  rw [ckF,qy hd]; exact aC
 ·have hd:hdF t=false:=by simp only [qd] at hb0; exact hb0
  obtain ⟨hs2,hs13,hp1,hp64,htg⟩:=hd_b hd
  refine qk<|zt<|qb<|zg [η] [] [.adr 37 1 (.some 0) True,.v 38 _,.v 39 _,.v 40 _] [.g 0,.o 1,.o 2,.o 3] U (zO 0 G bF (zL 0 0 0 G el (zv G (bH Try.underlying33 (bj (ap (vq 1 G)))) (zv G (a7 a5) o0)))) (zz [(2,_),(38,_),(39,_),(40,_)] [O 1 36 _] λ a w U=>?_)
  refine a4<|qt ?_
  have U:=St.sel U [1,2,3]
  refine wp_loop_ghost (λ n a w=>∃ j:Nat,(n+j=t.sp.length∧(t.sp.take j).all spF=true)∧St B w0 106 [(38,(SlO 27 [U32] (t.sp.map RFA) True).va),(39,In (t.sp.length:Nat)),(40,In (j:Nat))] [⟨1,36,ptrH,TkO t⟩] a w) (t.sp.length) ?_ ?_
  ·exact ⟨0,⟨by omega,rfl⟩,by rw [qd] at U; exact U⟩
  intro n a w hI
  obtain ⟨j,⟨hn,hno⟩,U⟩:=hI
  refine qb<|zg [η] [] [.v 41 _] [.g 0,.g 1,.g 2,.o 0] U (zv G (aY (gq 2 G) (gq 1 G)) o0) (zz [(38,_),(39,_),(40,_),(41,_)] [O 1 36 _] λ a w U=>?_)
  refine zt<|aa U (zm 3 G) (λ hb1=>?_) (λ hb1=>?_)
  ·have hj:j<t.sp.length:=by have:=qw hb1; omega
   refine qk<|zt<|qt<|qb<|zg [η] [⟨4,27,ptrH,some 2,_,some (3,_)⟩] [.v 42 _,.v 43 _,.alc 1,.sto 1] [.g 0,.g 1,.g 2] U (zv G (cy dF (cE λ _=>rfl) (bj (ap (gq 0 G))) (gq 2 G) (cb hj)) (zv G (al (vq 0 G) ar) (zY G (Str.zero aI) (zS 1 G ar o0)))) (zz [(38,_),(39,_),(40,_)] [O 1 36 _,O 4 27 _] λ a w U=>?_)
   refine zt<|zg [η,η] [] [.v 44 _,.v 45 _,.v 46 _,.v 47 _,.f 48 _,.f 49 _,.f 50 _,.v 51 _] [.g 0,.g 1,.g 2,.o 7] U (zl 1 G ar (zQ G (iY _) (.o (vq 0 G)) (zv G (bM (vq 1 G) a5) (zv G (a7 (vq 2 G)) (zB 3 G (λ hg=>d0 (lz0 1 G) ar) (zB 3 G (λ hg=>aW (sgn_s hg) (.o (a9 (vq 4 G) hg))) (zB 3 G (λ hg=>aY (a9 (vq 5 G) hg) a5) (zv G (r_or (vq 3 G) (vq 6 G)) o0)))))))) (zz [(38,_),(39,_),(40,_),(51,_)] [O 1 36 _,O 4 27 _] λ a w U=>?_)
   refine a4<|aa U (zm 3 G) (λ hb2=>?_) (λ hb2=>?_)
   ·refine qb<|zg [η,η] [] [.v 2 _] [.g 0,.g 1,.g 2,.o 0] U (zv G (a6 a5) o0) (zz [(38,_),(39,_),(40,_),(2,_)] [O 1 36 _,O 4 27 _] λ a w U=>?_)
    refine a4<|qh<|aA ?_
    refine ac ?_
    refine ac ?_
    refine aA ?_
    refine ac ?_
    refine an ?_ (ae G U (zm 3 G))
    rw [ck_sp hd (all_so hj (by unfold spF; rw [hb2]; rfl))]; exact aC
   ·refine qk<|ai ?_
    refine a4<|zg [η,η] [] [.v 52 _,.v 40 _] [.g 0,.g 1,.o 1] U (zv G (aU (gq 2 G) a5 ((wi64 zo zo).trans (by omega:(_:Int)=((j+1:Nat):Int)))) (zv G (a7 (vq 0 G)) o0)) (zz [(38,_),(39,_),(40,_)] [O 1 36 _,O 4 27 _] λ a w U=>?_)
    refine a4 ?_
    have U:=St.sel U [0,1,2]
    have U:=St.selL U [0]
    exact ⟨n-1,by omega,j+1,⟨by omega,all_nx hj hno (by unfold spF; rw [hb2]; rfl)⟩,U⟩
  ·obtain rfl:j=t.sp.length:=by have:=qx hb1; omega
   rw [qN] at hno
   have hsp:=hno
   refine zf<|aj<|aj<|az<|zt<|go_hand (n:=3) G ?_
   rw [show List.range' 0 3=[0,1,2] from rfl,qG]
   refine op_mkMap (KT:=9) (E:=3) G U zd zk zk (λ a w b U hM hgb=>?_)
   rw [qG]
   refine op_asgS 0 G U G zd zk zk (λ a U=>?_)
   rw [qG]
   refine op_cnS G U zd zk zk (λ a U=>?_)
   refine dc ?_
   have U:=zn [(6,_),(5,_),(53,_),(38,_),(39,_),(40,_),(41,_)] [O 1 36 _] U
   obtain ⟨w1,U,hback⟩:=St.frameM U
   refine zt<|qb<|zg [η] [] [.adr 54 1 (.some 1) True,.v 55 _,.v 56 _,.v 57 _] [.g 0,.g 1,.o 1,.o 2,.o 3] U (zO 0 G bE (zL 0 0 1 G ek (zv G (bH Try.underlying34 (bj (ap (vq 1 G)))) (zv G (a7 a5) o0)))) (λ a w U=>?_)
   have U:St B w1 106 [(6,_),(5,_),(55,_),(56,_),(57,_)] [O 1 36 _] a w:=U
   obtain ⟨U,hob⟩:=hback U
   have hM:=hM.kept2 hob
   refine a4<|qt ?_
   have U:=St.sel U [1,0,2,3,4]
   refine wp_loop_ghost (λ n a w=>∃ j:Nat,(n+j=t.ps.length∧(t.ps.take j).all ptF=true∧MpI Try.prog 9 3 w b ((t.ps.take j).map RPt.nm))∧St B w0 106 [(5,EqV (.map (some b))),(6,In 1),(55,(SlO 52 [U32] (t.ps.map PtA) True).va),(56,In (t.ps.length:Nat)),(57,In (j:Nat))] [⟨1,36,ptrH,TkO t⟩] a w) (t.ps.length) ?_ ?_
   ·exact ⟨0,⟨by omega,rfl,hM⟩,by rw [qd] at U; exact U⟩
   intro n a w hI
   obtain ⟨j,⟨hn,hno,hM⟩,U⟩:=hI
   obtain ⟨w1,U,hback⟩:=St.frameM U
   refine qb<|zg [η] [] [.v 58 _] [.g 0,.g 1,.g 2,.g 3,.g 4,.o 0] U (zv G (aY (gq 4 G) (gq 3 G)) o0) (λ a w U=>?_)
   have U:St B w1 106 [(5,_),(6,_),(55,_),(56,_),(57,_),(58,_)] [O 1 36 _] a w:=U
   refine zt<|aa U (zm 5 G) (λ hb3=>?_) (λ hb3=>?_)
   ·have hj:j<t.ps.length:=by have:=qw hb3; omega
    refine qk<|zt<|qt<|qb<|zg [η] [⟨8,52,ptrH,some 2,_,some (3,_)⟩] [.v 59 _,.v 60 _,.alc 1,.sto 1] [.g 0,.g 1,.g 2,.g 3,.g 4] U (zv G (cy i6 (cE λ _=>rfl) (bj (ap (gq 2 G))) (gq 4 G) (cb hj)) (zv G (al (vq 0 G) ty_52) (zY G (Str.zero eL) (zS 1 G ty_52 o0)))) (λ a w U=>?_)
    have U:St B w1 106 [(5,_),(6,_),(55,_),(56,_),(57,_)] [O 1 36 _,O 8 52 _] a w:=U
    refine zt<|qb<|zg [η,η] [] [.adr 61 8 (.some 0) True,.v 62 _,.v 63 _,.v 64 _,.v 65 _,.adr 66 8 (.some 1) (_=false),.f 67 _,.f 68 _,.f 69 _,.f 70 _,.v 71 _,.v 72 _,.adr 73 8 (.some 10) (_=false),.f 74 _,.f 75 _,.v 76 _,.v 77 _,.adr 78 8 (.some 10) (_=false),.f 79 _,.f 80 _,.v 81 _] [.g 0,.g 1,.g 2,.g 3,.g 4,.o 20] U (zO 1 G gH (zL 0 1 0 G ty_9 (zQ G (named_a _) (.o (vq 1 G)) (zv G (fh (vq 2 G)) (zv G (a7 (vq 3 G)) (zC 4 1 G gG (zB 4 G (λ hg=>aD 5 G zk hg (lz0 1 G) (Sub.part 1 G G) fZ) (zB 4 G (λ hg=>aV (D:=[U32]) (l:=[_]) (xs:=[.tmp 67]) (bN zk) sl_40 zk (n_ok zk) nq nq nq (.o (a9 (vq 6 G) hg)) G G) (zB 4 G (λ hg=>aW (benCheck_c [_]) (.o (a9 (vq 7 G) hg))) (zB 4 G (λ hg=>bM (a9 (vq 8 G) hg) a5) (zv G (r_or (vq 4 G) (vq 9 G)) (zv G (a7 (vq 10 G)) (zC 11 1 G eS (zB 11 G (λ hg=>aD 12 G zk hg (lz0 1 G) (Sub.part 2 G G) ty_3) (zB 11 G (λ hg=>aY (a9 (vq 13 G) hg) a5) (zv G (r_or (vq 11 G) (vq 14 G)) (zv G (a7 (vq 15 G)) (zC 16 1 G eS (zB 16 G (λ hg=>aD 17 G zk hg (lz0 1 G) (Sub.part 2 G G) ty_3) (zB 16 G (λ hg=>cZ (a9 (vq 18 G) hg) a5) (zv G (r_or (vq 16 G) (vq 19 G)) o0))))))))))))))))))))) (λ a w U=>?_)
    have U:St B w1 106 [(5,_),(6,_),(55,_),(56,_),(57,_),(81,_)] [O 1 36 _,O 8 52 _] a w:=U
    refine a4<|aa U (zm 5 G) (λ hb4=>?_) (λ hb4=>?_)
    ·have hpt:ptF t.ps[j]=false:=by unfold ptF; rw [hb4]; rfl
     refine qb<|zg [η,η] [] [.v 2 _] [.g 0,.g 1,.g 2,.g 3,.g 4,.o 0] U (zv G (a6 a5) o0) (λ a w U=>?_)
     have U:St B w1 106 [(5,_),(6,_),(55,_),(56,_),(57,_),(2,_)] [O 1 36 _,O 8 52 _] a w:=U
     refine a4<|qh<|ac ?_
     refine aA ?_
     refine ac ?_
     refine ac ?_
     refine aA ?_
     refine ac ?_
     obtain ⟨U,_⟩:=hback U
     refine an ?_ (ae G U (zm 5 G))
     rw [ck_ps hd hsp (all_so hj hpt)]; exact aC
    ·have hpt:ptF t.ps[j]=true:=by unfold ptF; rw [hb4]; rfl
     refine qk<|a4<|eA (sp:=[.v 82 _,.adr 83 8 (.some 0) True,.v 84 _,.v 85 VT,.v 86 VT,.skp]) 3 3 99 3 OneC [.g 0,.g 1,.g 2,.g 3,.g 4,.o 0,.o 2] U (zM 0 G (zO 1 G gH (zL 1 1 0 G ty_9 o0))) G zd zk zk (λ a w U=>?_)
     have U:St B w1 106 [(5,_),(6,_),(55,_),(56,_),(57,_),(82,_),(84,_)] [O 1 36 _,O 8 52 _] a w:=U
     rw [show List.range' 3 3=[3,4,5] from rfl]
     obtain ⟨U,hob⟩:=hback U
     have hM:=hM.kept2 hob
     have U:=St.wkG U 6 rfl eqa_v
     rw [qG]
     refine op_count (KT:=9) (E:=3) 5 6 U hM hgb zk Try.underlying75 zk (λ w=>rfl) (by rw [qd,zT]; omega) (by have:=nm_ok hpt; omega) G G G zd zk zk (λ c a U hup=>?_)
     rw [qG]
     refine op_adc 0 G U G zd zk zk (λ a U=>?_)
     rw [qG]
     refine op_mupd 7 8 0 U hM hgb hup G G G G (λ w U hM=>?_)
     refine db ?_
     have U:St B w0 106 [(86,_),(85,_),(5,_),(6,_),(55,_),(56,_),(57,_),(82,_),(84,_)] [O 1 36 _,O 8 52 _] _ w:=U
     have hM:MpI Try.prog 9 3 w b ((t.ps.take (j+1)).map RPt.nm):=by rw [qp hj,zF]; exact hM
     obtain ⟨w1,U,hback⟩:=St.frameM U
     refine ai ?_
     refine a4<|zg [η,η] [] [.v 87 _,.v 57 _] [.g 2,.g 3,.g 4,.g 5,.o 1] U (zv G (aU (gq 6 G) a5 ((wi64 zo zo).trans (by omega:(_:Int)=((j+1:Nat):Int)))) (zv G (a7 (vq 0 G)) o0)) (λ a w U=>?_)
     have U:St B w1 106 [(5,_),(6,_),(55,_),(56,_),(57,_)] [O 1 36 _,O 8 52 _] a w:=U
     obtain ⟨U,hob⟩:=hback U
     have hM:=hM.kept2 hob
     refine a4 ?_
     have U:=St.sel U [0,1,2,3,4]
     have U:=St.selL U [0]
     exact ⟨n-1,by omega,j+1,⟨by omega,all_nx hj hno hpt,hM⟩,U⟩
   ·obtain rfl:j=t.ps.length:=by have:=qx hb3; omega
    obtain ⟨U,hob⟩:=hback U
    have hM:=hM.kept2 hob
    rw [qN] at hno hM
    have hps:=hno
    refine zf<|aj<|aj<|az<|zt<|qb<|go_hand (n:=6) G ?_
    rw [show List.range' 0 6=0::1::List.range' 2 4 from rfl,qG]
    refine op_mvS 0 G U G zd zk zk (λ a U=>?_)
    rw [qG]
    refine op_mlen 0 G U hM Try.underlying75 G zd zk zk (λ nm a hnm U=>?_)
    have U:=St.sel U [1,0,2,3,4,5,6,7]
    refine go_restK (sp:=[.v 88 (EqV (.map (some b))),.v 89 (In (nm:Nat)),.adr 90 1 (.some 1) True,.v 91 _,.v 92 _,.v 93 _]) [(88,(EqV (.map (some b)))),(89,(In (nm:Nat)))] 4 [.g 1,.o 5] U G zk (zO 0 G bE (zL 2 0 1 G ek (zv G (bH Try.underlying34 (bj (ap (vq 3 G)))) (zv G (aY (vq 1 G) (vq 4 G)) o0)))) zk zk (zz [(6,_),(93,_)] [O 1 36 _] λ a w U=>?_)
    refine a4<|aa U (zm 1 G) (λ hb5=>?_) (λ hb5=>?_)
    ·have hdu:dupB (t.ps.map RPt.nm)=true:=by rw [← hnm]; simp only [qd] at hb5 ⊢; exact hb5
     refine qb<|zg [η] [] [.v 2 _] [.g 0,.o 0] U (zv G (a6 a5) o0) (zz [(6,_),(2,_)] [O 1 36 _] λ a w U=>?_)
     refine a4<|qh<|ac ?_
     refine an ?_ (ae G U (zm 1 G))
     rw [ck_du hd hsp hps hdu]; exact aC
    ·have hdu:dupB (t.ps.map RPt.nm)=false:=by rw [← hnm]; simp only [qd] at hb5 ⊢; exact hb5
     refine qk<|zt<|qb<|zg [η] [] [.v 94 _,.v 95 _,.v 96 _] [.g 0,.o 1,.o 2] U (zl 0 G bG (zQ G ((gf t).wk (.cons tko_A.va .nil)) (.o (vq 0 G)) (zv G (a7 a5) o0))) (zz [(6,_),(95,_),(96,_)] [O 1 36 _] λ a w U=>?_)
     refine a4<|qt ?_
     have U:=St.sel U [0,1,2]
     refine wp_loop_ghost (λ n a w=>∃ j:Nat,(n+j=t.sp.length-1∧wayB t.ps.length j=false)∧St B w0 106 [(6,In ((t.ps.length^j:Nat):Int)),(95,In ((t.sp.length-1:Nat):Int)),(96,In (j:Nat))] [⟨1,36,ptrH,TkO t⟩] a w) (t.sp.length-1) ?_ ?_
     ·have e:=slo_e hs2 hs13
      rw [e] at U
      exact ⟨0,⟨by omega,rfl⟩,U⟩
     intro n a w hI
     obtain ⟨j,⟨hn,hno⟩,U⟩:=hI
     refine qb<|zg [η] [] [.v 97 _] [.g 0,.g 1,.g 2,.o 0] U (zv G (aY (gq 2 G) (gq 1 G)) o0) (zz [(6,_),(95,_),(96,_),(97,_)] [O 1 36 _] λ a w U=>?_)
     refine zt<|aa U (zm 3 G) (λ hb6=>?_) (λ hb6=>?_)
     ·have hj:j<t.sp.length-1:=by have:=qw hb6; omega
      refine qk<|zt<|qt<|qb<|zg [η] [] [.v 98 _,.adr 99 1 (.some 1) True,.v 100 _,.v 101 _,.v 102 _,.v 6 _] [.g 1,.g 2,.o 5] U (zM 0 G (zO 0 G bE (zL 1 0 1 G ek (zv G (bH Try.underlying34 (bj (ap (vq 2 G)))) (zv G (r_mul (vq 0 G) (vq 3 G) (((qu (λ z:Nat=>IntKind.i64.wrap (((t.ps.length^j:Nat):Int)*(z:Int))) (qd PtA)).trans (way_mul hno hp64)))) (zA 4 G o0)))))) (zz [(95,_),(96,_),(6,_)] [O 1 36 _] λ a w U=>?_)
      refine zt<|zg [η] [] [.v 103 _,.v 104 _] [.g 0,.g 1,.g 2,.o 1] U (zM 2 G (zv G (cZ (vq 0 G) a5) o0)) (zz [(95,_),(96,_),(6,_),(104,_)] [O 1 36 _] λ a w U=>?_)
      refine a4<|aa U (zm 3 G) (λ hb7=>?_) (λ hb7=>?_)
      ·have hw:wayB t.ps.length (t.sp.length-1)=true:=kr (j:=j+1) zo (by rw [wayB,hno,xc,← dec_n]; exact hb7)
       refine qb<|zg [η] [] [.v 2 _] [.g 0,.g 1,.g 2,.o 0] U (zv G (a6 a5) o0) (zz [(95,_),(96,_),(6,_),(2,_)] [O 1 36 _] λ a w U=>?_)
       refine a4<|qh<|aA ?_
       refine ac ?_
       refine ac ?_
       refine aA ?_
       refine ac ?_
       refine an ?_ (ae G U (zm 3 G))
       rw [ck_wa hd hsp hps hdu,qy hw]; exact aC
      ·have hw:decide (t.ps.length^(j+1)>65536)=false:=by rw [← dec_n]; exact hb7
       refine qk<|ai ?_
       refine a4<|zg [η] [] [.v 105 _,.v 96 _] [.g 0,.g 2,.o 1] U (zv G (aU (gq 1 G) a5 ((wi64 zo zo).trans (by omega:(_:Int)=((j+1:Nat):Int)))) (zv G (a7 (vq 0 G)) o0)) (zz [(95,_),(6,_),(96,_)] [O 1 36 _] λ a w U=>?_)
       refine a4 ?_
       have U:=St.sel U [1,0,2]
       exact ⟨n-1,by omega,j+1,⟨by omega,by rw [wayB,hno,xc]; exact hw⟩,U⟩
     ·obtain rfl:j=t.sp.length-1:=by have:=qx hb6; omega
      refine zf<|aj<|aj<|az<|zt<|zg [η] [] [.v 2 _] [.o 0] U (zv G (a6 a5) o0) (zz [(2,_)] [O 1 36 _] λ a w U=>?_)
      refine a4<|qh<|an ?_ (ae G U (zm 0 G))
      rw [ck_wa hd hsp hps hdu,qm (by rw [hno]; decide)]; exact aC
def cntW (p a:Nat):Nat→Nat→Nat
 | 0,_=>1
 | f+1,i=>if i<a then cntW p a f (i+1) else p*cntW p a f (i+1)
def exW (p:Nat)(ah:List Nat):Nat→Nat→Nat→List Nat
 | 0,_,_=>[]
 | f+1,i,r=>if i<ah.length then ah.getD i 0::exW p ah f (i+1) r else (r/cntW p ah.length f (i+1))::exW p ah f (i+1) (r%cntW p ah.length f (i+1))
theorem ec {p a:Nat}(hp:0<p):∀ f i,0<cntW p a f i
 | 0,_=>jB
 | f+1,i=>by
  unfold cntW
  split
  ·exact ec hp f (i+1)
  ·exact xC hp (ec hp f (i+1))
theorem gJ (p:Nat)(ah:List Nat):∀ f i r,(exW p ah f i r).length=f
 | 0,_,_=>rfl
 | f+1,i,r=>by
  unfold exW
  split <;> rw [zU,gJ]
theorem exW_at {p:Nat}{ah:List Nat}{f i q r:Nat}(h:¬ i<ah.length)(hr:r<cntW p ah.length f (i+1)):exW p ah (f+1) i (q*cntW p ah.length f (i+1)+r)=q::exW p ah f (i+1) r:=by
 have hc:0<cntW p ah.length f (i+1):=by omega
 rw [exW,qm h]
 have e1:(q*cntW p ah.length f (i+1)+r)/cntW p ah.length f (i+1)=q:=by
  rw [qK,kb hc,z9 hr,xJ]
 have e2:(q*cntW p ah.length f (i+1)+r)%cntW p ah.length f (i+1)=r:=by
  rw [qK,ka,qS hr]
 rw [e1,e2]
theorem exW_ah {p:Nat}{ah:List Nat}{f i r:Nat}(h:i<ah.length):exW p ah (f+1) i r=ah[i]::exW p ah f (i+1) r:=by
 rw [exW,qy h,List.getD,List.getElem?_eq_getElem h]; rfl
theorem iW {p a f i:Nat}(h:i<a):cntW p a (f+1) i=cntW p a f (i+1):=by rw [cntW,qy h]
theorem cntW_at {p a f i:Nat}(h:¬ i<a):cntW p a (f+1) i=p*cntW p a f (i+1):=by rw [cntW,qm h]
theorem cntW_le {p a:Nat}(hp:0<p):∀ f i,cntW p a f i≤p^f
 | 0,_=>by rw [x3]; exact qf _
 | f+1,i=>by
  have h:=cntW_le (a:=a) hp f (i+1)
  unfold cntW
  rw [qR]
  split
  ·exact qe h (Nat.le_mul_of_pos_right _ hp)
  ·rw [qK]; exact qU _ h
theorem ir {p:Nat}:∀ f i a,i+f≤a→cntW p a f i=1
 | 0,_,_,_=>rfl
 | f+1,i,a,h=>by rw [iW zo,ir f (i+1) a zo]
def benP (t:RTk)(l:List Nat):List RE:=(List.range l.length).flatMap λ i=>[spE (t.sp.getD i rf0),(t.ps.getD (l.getD i 0) ⟨⟨#[]⟩,⟨0,rf0,rf0⟩,0⟩).e]
def benW (t:RTk)(l:List Nat):List RE:=benP t l++[spE (t.sp.getD l.length rf0)]
def cosW (t:RTk)(l:List Nat):Int:=(l.map λ k=>(t.ps.getD k ⟨⟨#[]⟩,⟨0,rf0,rf0⟩,0⟩).c).sum
def powW (t:RTk)(l:List Nat):Rat := -(prodQ (benW t l)).c
def awaW (t:RTk)(l:List Nat):Rat:=if (powW t l-toQ t.tg).num.sign<0 then -(powW t l-toQ t.tg) else powW t l-toQ t.tg
def wayW (t:RTk)(l:List Nat):WyQ:=⟨l.map λ (k:Nat)=>(k:Int),powW t l,awaW t l,cosW t l⟩
theorem iy (t:RTk)(l:List Nat)(k:Nat):benP t (l++[k])=benP t l++[spE (t.sp.getD l.length rf0),(t.ps.getD k ⟨⟨#[]⟩,⟨0,rf0,rf0⟩,0⟩).e]:=by
 unfold benP
 rw [qE,xp,List.range_succ,List.flatMap_append]
 have h1:∀ i∈List.range l.length,(λ i=>[spE (t.sp.getD i rf0),(t.ps.getD ((l++[k]).getD i 0) ⟨⟨#[]⟩,⟨0,rf0,rf0⟩,0⟩).e]) i=(λ i=>[spE (t.sp.getD i rf0),(t.ps.getD (l.getD i 0) ⟨⟨#[]⟩,⟨0,rf0,rf0⟩,0⟩).e]) i:=λ i hi=>by
  have hi':i<l.length:=List.mem_range.1 hi
  simp [List.getD,List.getElem?_append_left hi']
 rw [j5,xU h1,← j5]
 simp [List.getD]
theorem fO (xs:List RE)(x:RE):prodQ (xs++[x])=mulQ (elM x) (prodQ xs):=by
 unfold prodQ
 rw [jX]; rfl
theorem prodP_snoc (t:RTk)(l:List Nat)(k:Nat):prodQ (benP t (l++[k]))=mulQ (elM (t.ps.getD k ⟨⟨#[]⟩,⟨0,rf0,rf0⟩,0⟩).e) (prodQ (benW t l)):=by
 rw [iy,show benP t l++[spE (t.sp.getD l.length rf0),(t.ps.getD k ⟨⟨#[]⟩,⟨0,rf0,rf0⟩,0⟩).e]=(benW t l)++[(t.ps.getD k ⟨⟨#[]⟩,⟨0,rf0,rf0⟩,0⟩).e] from by unfold benW; simp,fO]
theorem cos_snoc (t:RTk)(l:List Nat)(k:Nat):cosW t (l++[k])=cosW t l+(t.ps.getD k ⟨⟨#[]⟩,⟨0,rf0,rf0⟩,0⟩).c:=by
 unfold cosW
 rw [zF,kg]; simp
theorem aR {n:Int}(h1 : -9223372036854775808≤n)(h2:n<9223372036854775808):Cn Try.prog 9 [In n] ((RFA (rfOf (Rat.divInt n 1))).va):=by
 refine Cn.intro Try.func9 G zk nq (λ B w0 a U=>?_)
 have U:=zn [(0,In n)] [] U
 refine qb<|zg [] [⟨2,27,ptrH,some 0,_,none⟩] [.alc 0] [.g 0] U (zY G (Str.zero aI) o0) (zz [(0,_)] [O 2 27 _] λ a w U=>?_)
 refine zt<|zg [η] [⟨3,27,ptrH,some 5,_,some (6,_)⟩] [.v 6 _,.v 7 _,.v 5 _,.v 8 _,.v 9 _,.alc 1,.sto 1,.v 4 _] [] U (zM 0 G (zQ G (ofQ_c h1 h2 zd zd zd) (.cons (vq 0 G) (.cons a5 .nil)) (zv G (a7 (vq 1 G)) (zv G (dS (vq 2 G)) (zv G (dR (vq 2 G)) (zY G (Str.zero aI) (zS 3 G ar (zA 4 G o0)))))))) (zz [] [O 2 27 _,O 3 27 _] λ a w U=>?_)
 refine zt<|zg [some (1,_),η] [] [.v 10 _,.sto 0] [] U (zl 1 G ar (zS 0 G ar o0)) (zz [] [O 2 27 _,O 3 27 _] λ a w U=>?_)
 refine a4<|qh<|an ?_ (ax G U (zm 0 G) ar)
 exact aC
theorem dU (s:ByteArray){p c:Int}(h1 : -9223372036854775808≤p)(h2:p<9223372036854775808):Cn Try.prog 10 [(EqA (.string s)).va,In p,In c] ((PtA ⟨s,⟨2,rfOf (Rat.divInt p 1),rfOf (Rat.divInt 0 1)⟩,c⟩).va):=by
 refine Cn.intro Try.func10 G zk nq (λ B w0 a U=>?_)
 have U:=zn [(0,(EqA (.string s)).va),(1,In p),(2,In c)] [] U
 refine qb<|zg [] [⟨6,52,ptrH,some 0,_,none⟩] [.alc 0] [.g 0,.g 1,.g 2] U (zY G (Str.zero eL) o0) (zz [(0,_),(1,_),(2,_)] [O 6 52 _] λ a w U=>?_)
 refine zt<|zg [some (7,_)] [] [.v 7 _,.v 8 _,.v 9 _,.v 10 _,.v 11 _,.v 12 _,.v 13 _,.sto 0] [] U (zM 0 G (zM 1 G (zQ G (aR zo zo) (.o (vq 1 G)) (zQ G (aR zd zd) (.cons a5 .nil) (zv G (aO (qs:=[(0,_),(1,_),(2,_)]) df (.cons ⟨rfl,a5,rfl⟩ (.cons ⟨rfl,vq 2 rfl,rfl⟩ (.cons ⟨rfl,vq 3 rfl,rfl⟩ .nil)))) (zM 2 G (zv G (aO (qs:=[(0,_),(1,_),(2,_)]) eL (.cons ⟨rfl,vq 0 rfl,rfl⟩ (.cons ⟨rfl,vq 4 rfl,rfl⟩ (.cons ⟨rfl,vq 5 rfl,rfl⟩ .nil)))) (zS 6 G ty_52 o0)))))))) (zz [] [O 6 52 _] λ a w U=>?_)
 refine a4<|qh<|an ?_ (ax G U (zm 0 G) ty_52)
 exact aC
theorem c5:Str Try.prog 36 [EqA (.slice none 0 0),EqA (.slice none 0 0),RFA rf0] :=
 Str.of (z:=.agg #[.slice none 0 0,.slice none 0 0,.bool false,.slice none 0 0,.bool false,.slice none 0 0]) zk Try.underlying36 zk λ B w=>⟨[[.slice none 0 0],[.slice none 0 0],[.bool false,.slice none 0 0,.bool false,.slice none 0 0]],rfl,.cons ⟨rfl,rfl⟩ (.cons ⟨rfl,rfl⟩ (.cons (et B w) .nil))⟩
def frI (n:Int):RF:=rfOf (Rat.divInt n 1)
def lnT (s:ByteArray)(p c:Int):RPt:=⟨s,⟨2,frI p,frI 0⟩,c⟩
def twoT (n:Int):RTk:=⟨[frI 0,frI 1,frI 0],[lnT ⟨#[97]⟩ 1 5,lnT ⟨#[98]⟩ 2 3],frI n⟩
theorem fp {R:Rg}{B i:Nat}{s:ByteArray}:Has R B w0 i (.const (.string s)) (EqA (.string s)).va:=λ _ _ _=>kt rfl
theorem bR {n:Int}(h1 : -9223372036854775808≤n)(h2:n<9223372036854775808):Cn Try.prog 5 [In n] ((TkA (twoT n)).va):=by
 refine Cn.intro Try.func5 G zk nq (λ B w0 a U=>?_)
 have U:=zn [(0,In n)] [] U
 refine qb<|zg [] [⟨2,36,ptrH,some 0,_,none⟩] [.alc 0] [.g 0] U (zY G (Str.zero c5) o0) (zz [(0,_)] [O 2 36 _] λ a w U=>?_)
 refine zt<|zg [some (10,_)] [] [.v 3 _,.v 4 _,.v 5 _,.v 6 _,.v 7 _,.v 8 _,.v 9 _,.v 10 _,.v 11 _,.v 12 _,.sto 0] [] U (zQ G (aR (n:=0) zd zd) (.cons a5 .nil) (zQ G (aR (n:=1) zd zd) (.cons a5 .nil) (zQ G (aR (n:=0) zd zd) (.cons a5 .nil) (zv G (aV (D:=[U32]) (l:=[_,_,_]) (xs:=[.tmp 3,.tmp 4,.tmp 5]) (bN zk) dF zk (n_ok zk) nq nq nq (.cons (vq 0 G) (.p (vq 1 G) (vq 2 G))) G G) (zv G (aW (xs:=[.const (.string ⟨#[97]⟩),.const (.int .i64 1),.const (.int .i64 5)]) (dU ⟨#[97]⟩ (p:=1) (c:=5) zd zd) (.cons fp (.cons a5 (.cons a5 .nil)))) (zv G (aW (xs:=[.const (.string ⟨#[98]⟩),.const (.int .i64 2),.const (.int .i64 3)]) (dU ⟨#[98]⟩ (p:=2) (c:=3) zd zd) (.cons fp (.cons a5 (.cons a5 .nil)))) (zv G (aV (D:=[U32]) (l:=[_,_]) (xs:=[.tmp 7,.tmp 8]) (bN zk) i6 zk (n_ok zk) nq nq nq (.p (vq 4 G) (vq 5 G)) G G) (zM 0 G (zQ G (aR h1 h2) (.o (vq 7 G)) (zv G (aO (qs:=[(0,_),(1,_),(2,_)]) c5 (.cons ⟨rfl,vq 3 rfl,rfl⟩ (.cons ⟨rfl,vq 6 rfl,rfl⟩ (.cons ⟨rfl,vq 8 rfl,rfl⟩ .nil)))) (zS 9 G bG o0))))))))))) (zz [] [O 2 36 _] λ a w U=>?_)
 refine a4<|qh<|an ?_ (ax G U (zm 0 G) bG)
 exact aC
def Nmd (Γ:List (Nat × VA)):List (Nat × Nat)→List Nat→Prop
 | [],[]=>True
 | p::ps,k::ks=>Γ[k]?=some (p.1,EqV (ptr p.2))∧Nmd Γ ps ks
 | _,_=>False
section
variable {P:Program} {R:Rg} {Q:Exit→Act→World→Prop} {B i:Nat} {w0:Bs}
inductive Nmo (R:Rg) (B:Nat) (w0:Bs) (i:Nat):List (Nat × Nat)→Prop
 | nil:Nmo R B w0 i []
 | cons {s g T:Nat} {A:As} {l:List (Nat × Nat)}:Has R B w0 i (.tmp s) (EqV (ptr g))→Loc R i s T A→Nmo R B w0 i l→Nmo R B w0 i ((s,g)::l)
theorem Nmo.lt {l:List (Nat × Nat)}(h:Nmo R B w0 i l)(av:R.Av B w0 i a w):∀ p∈l,p.2<w.heap.size:=by
 induction h with
 | nil=>intro p hp; cases hp
 | cons h1 h2 _ ih =>
  intro p hp
  rcases ql.1 hp with rfl | hp
  ·obtain ⟨g,cs,e1,_,e3,_⟩:=h2.ok av
   have e2:=h1 a w av
   have e2':a.eval (.tmp _)=ptr _:=e2
   rw [e2'] at e1
   have:ptr _=ptr g:=e1
   injection this with this
   injection this with this
   injection this with this
   rw [this]
   exact (Array.getElem?_eq_some_iff.1 e3).1
  ·exact ih p hp
theorem has_eqA {x:Operand}(h:v.oneCell'=true)(h1:Has R B w0 i x (EqV v)):Has R B w0 i x (EqA v).va:=λ a w av=>by
 have e:a.eval x=v:=h1 a w av
 rw [e]
 exact kt h
end
end Go.Proofs.Ytlakjmncfooodaa
