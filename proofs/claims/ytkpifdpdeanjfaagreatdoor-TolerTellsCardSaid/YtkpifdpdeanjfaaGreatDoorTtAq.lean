import Derived.Test.YtkpifdpdeanjfaaGreatDoorTtAp
set_option linter.all false
set_option maxRecDepth 100000
namespace Go.Proofs.YtkpifdpdeanjfaaGreatDoor
open Go Go.RowKit
variable {w:World}{B:Nat}{a:Act}{v:Value}{T:TypeId}{w0:Bs}{Γ:List (Nat × VA)}{Λ:List Lc}{ps:String}{af:Array Edge}{vr:Value}{H:Hd}{cs:List Value}{w':World}{P:Program}{D:List TypeId}
theorem o9 (x:RF):FreeA (RFN x) (RFA x):=bZ (.cons (iL _) (.cons (iL _) .nil))
def locV (Λ:List Lc)(a:Act)(k:Nat):Prop:=∃ l∈Λ,blk (a.eval (.tmp l.s))=some k
def defV (w0:Bs)(w:World)(k:Nat):Prop:=w0.may k∧w.heap[k]?=some (.deferred (some []))
theorem St.frameA {B N:Nat}(h:St B w0 N Γ Λ a w):∃ w1:Bs,St B w1 N Γ Λ a w∧∀ {N':Nat} {Γ':List (Nat × VA)} {Λ':List Lc} {a':Act} {w':World},St B w1 N' Γ' Λ' a' w' →
  St B w0 N' Γ' Λ' a' w'∧∀ {A:VA} {v:Value},A.p B v w→Λ.all (λ l => !A.deps.contains l.T)=true→A.p B v w':=by
 have hloc:∀ k,locV Λ a k→w0.may k∧∃ l∈Λ,blk (a.eval (.tmp l.s))=some k∧∃ cs,w.heap[k]?=some (.cells cs l.T (0,0)):=λ k ⟨l,hl,hb⟩=>by
  obtain ⟨g,cs,e1,e2,e3,_⟩:=h.locs l hl
  have:g=k:=by rw [e1,l.H.ok] at hb; injection hb
  subst this
  exact ⟨e2,l,hl,hb,_,e3⟩
 have hmay:∀ k,(⟨w,λ k=>locV Λ a k∨defV w0 w k,w0.nd⟩:Bs).may k→w0.may k:=λ k hk=>by
  rcases hk with hk | hk | hk
  ·exact .inl (qd h.base.size hk)
  ·exact (hloc k hk).1
  ·exact hk.1
 refine ⟨⟨w,λ k=>locV Λ a k∨defV w0 w k,w0.nd⟩,⟨?_,⟨λ d hd=>?_,h.defers.nodup,h.defers.none⟩,h.size,Kept.refl _,h.vals,λ l hl=>?_,h.dis⟩,λ {N' Γ' Λ' a' w'} h'=>⟨⟨h.lo,⟨λ d hd=>?_,h'.defers.nodup,h'.defers.none⟩,h'.size,?_,h'.vals,λ l hl=>?_,h'.dis⟩,?_⟩⟩
 ·exact λ g hg=>h.lo g (hmay g hg)
 ·obtain ⟨D,e1,e2,e3⟩:=h.defers.all d hd
  exact ⟨D,e1,.inr (.inr ⟨e2,e3⟩),e3⟩
 ·obtain ⟨g,cs,e1,e2,e3,e4⟩:=h.locs l hl
  exact ⟨g,cs,e1,.inr (.inl ⟨l,hl,by rw [e1]; exact l.H.ok g⟩),e3,e4⟩
 ·obtain ⟨D,e1,e2,e3⟩:=h'.defers.all d hd
  exact ⟨D,e1,hmay D e2,e3⟩
 ·refine ⟨h'.base.os.trans h.base.os,h'.base.tape.trans h.base.tape,h'.base.output.trans h.base.output,qd h.base.size h'.base.size,λ k hk hf=>?_⟩
  refine (h'.base.block k (qE hk h.base.size) (λ hF=>?_)).trans (h.base.block k hk hf)
  rcases hmay k (.inr hF) with h1 | h1
  ·omega
  ·exact hf h1
 ·obtain ⟨g,cs,e1,e2,e3,e4⟩:=h'.locs l hl
  exact ⟨g,cs,e1,hmay g e2,e3,e4⟩
 ·intro A v hp hch
  refine VA.many (Λ.filterMap λ l'=>blk (a.eval (.tmp l'.s))) hp h'.base.os h'.base.tape h'.base.output h'.base.size (λ k c T fz hk hn=>h'.base.block k (Array.getElem?_eq_some_iff.1 hk).1 λ hF=>by
   rcases hF with ⟨l',hl',hb'⟩ | hF
   ·exact hn (qJ.2 ⟨l',hl',hb'⟩)
   ·rw [hF.2] at hk; cases hk) (λ g hg=>?_)
  obtain ⟨l',hl',hb'⟩:=qJ.1 hg
  obtain ⟨hm,l2,hl2,hb2',cs,hcs⟩:=hloc g ⟨l',hl',hb'⟩
  exact ⟨h.lo _ hm,_,_,_,hcs,λ hT=>by
   have:=qc.1 hch l2 hl2
   simp only [qz,qy,qu] at this
   exact this hT⟩
theorem St.hide {B N:Nat}(h:St B w0 N Γ Λ a w){s:Nat}{A:VA}(k:Nat)(hm:Γ[k]?=some (s,A)):∃ v,A.p B v w∧St B w0 N (Γ.set k (s,EqV v)) Λ a w :=
 ⟨a.eval (.tmp s),h.vals _ (qa hm),h.lo,h.defers,h.size,h.base,λ x hx=>by
  rcases qp hx with hx | rfl
  ·exact h.vals x hx
  ·exact rfl,h.locs,h.dis⟩
theorem St.shw {B N:Nat}(h:St B w0 N Γ Λ a w){s:Nat}{A:VA}(k:Nat)(hm:Γ[k]?=some (s,EqV v))(hp:A.p B v w):St B w0 N (Γ.set k (s,A)) Λ a w :=
 ⟨h.lo,h.defers,h.size,h.base,λ x hx=>by
  rcases qp hx with hx | rfl
  ·exact h.vals x hx
  ·have e:a.eval (.tmp s)=v:=h.vals _ (qa hm)
   show A.p B (a.eval (.tmp s)) w
   rw [e]
   exact hp,h.locs,h.dis⟩
section
variable {P:Program} {R:Rg} {Q:Exit→Act→World→Prop} {B i:Nat} {w0:Bs}
end
def endF (g:RGp)(c:Nat):RF × Nat:=if ptF g then (g.lo,c) else if c%2=1 then (g.hi,c/2) else (g.lo,c/2)
def cst (x:RLo)(c:Nat):RE × Nat:=(⟨x.k,(endF x.p c).1,(endF x.q (endF x.p c).2).1⟩,(endF x.q (endF x.p c).2).2)
def cnS (s:List RE × Nat):List RLo→List RE × Nat
 | []=>s
 | x::xs=>cnS (s.1++[(cst x s.2).1],(cst x s.2).2) xs
def cnF (xs:List RLo)(c:Nat):List RE:=(cnS ([],c) xs).1
theorem H8 (xs ys:List RLo):∀ s,cnS s (xs++ys)=cnS (cnS s xs) ys:=by
 induction xs with
 | nil=>exact λ _=>rfl
 | cons x xs ih=>exact λ s=>ih _
theorem cn_nx {xs:List RLo}{j c:Nat}(h:j<xs.length):cnS ([],c) (xs.take (j+1))=((cnS ([],c) (xs.take j)).1++[(cst xs[j] (cnS ([],c) (xs.take j)).2).1],(cst xs[j] (cnS ([],c) (xs.take j)).2).2):=by
 rw [qx h,H8]
 rfl
theorem tq (g:RGp)(c:Nat):(endF g c).2≤c:=by
 unfold endF
 split
 ·exact qg _
 ·split <;> (show c/2≤c; omega)
theorem Ap:∀ (xs:List RLo) (s:List RE × Nat),(cnS s xs).2≤s.2
 | [],s=>qg _
 | x::xs,s=>qd (Ap xs _) (qd (tq _ _) (tq _ _))
theorem oA:∀ (xs:List RLo) (s:List RE × Nat),(cnS s xs).1.length=s.1.length+xs.length
 | [],s=>rfl
 | x::xs,s=>by
  have e:cnS s (x::xs)=cnS (s.1++[(cst x s.2).1],(cst x s.2).2) xs:=rfl
  rw [e,oA xs,qn,qR,qR,zy]
  omega
theorem lo_p {x:RLo}(h:loF x=true):[x.p.lo,x.p.hi].all okX=true:=nJ (sS (i:=0) h)
theorem lo_q {x:RLo}(h:loF x=true):[x.q.lo,x.q.hi].all okX=true:=nJ (sS (i:=1) h)
theorem ok_2 {x y:RF}(h:[x,y].all okX=true):okX x=true∧okX y=true:=by
 simp only [xr,xP,xR,qj] at h
 exact h
theorem HQ {e:Nat}:((e:Int)/2^(1:Int).toNat)=((e/2:Nat):Int):=by simp
theorem u_bit {e:Nat}(h:e≤4096):bits .and .u64 (e:Int) 1=((e%2:Nat):Int):=by
 have o:∀ {x:Nat},x≤4096→(BitVec.ofInt 64 (x:Int)).toNat=x:=λ hx=>by
  rw [BitVec.ofInt_natCast,BitVec.toNat_ofNat]
  exact q9 zo
 have e1:(BitVec.ofInt 64 (e:Int) &&& BitVec.ofInt 64 ((1:Nat):Int)).toNat=e &&& 1:=by rw [BitVec.toNat_and,o h,o zo]
 show IntKind.u64.wrap (((BitVec.ofInt 64 (e:Int) &&& BitVec.ofInt 64 ((1:Nat):Int)).toNat:Nat):Int)=_
 rw [e1,Nat.and_one_is_mod,wu64 zo]
theorem AI:∃ it z,Tryz.prog.info? 92=some it∧it.zero=some z∧it.size=9∧it.bytes=136∧z.cells.size=9:=by
 have h:((Tryz.prog.info? 92).bind λ it=>it.zero.map λ z=>(it.size,it.bytes,z.cells.size))=some (9,136,9):=by kernel_rfl
 cases hi:Tryz.prog.info? 92 with
 | none=>rw [hi] at h; simp at h
 | some it =>
  rw [hi] at h
  cases hz:it.zero with
  | none=>simp [hz] at h
  | some z =>
   simp [hz] at h
   exact ⟨it,z,rfl,hz,h.1,h.2.1,h.2.2⟩
open Rg in
theorem tb {Q:Exit→Act→World→Prop}{B N:Nat}{id:Nat}{ops:Array Oper}{sp:List Sp}(n:Nat)(src:List Nat)(i1 i2:Nat)(kl:List Nat){S E T1 T2:TypeId}{s u d e m bytes:Nat}{ps1 ps2:String}{af1 af2:Array Edge}{D D':List TypeId}{l xs:List As}{A2:VA}{it:TypeInfo}{z:Value}
  (h:St B w0 N Γ Λ a w) (hob:Obs P Q ⟨ops,N,Γ,lesN Λ,sp,λ i=>List.range i⟩ B w0 0 n) (hn2:ops.size=n+2) (hk:Rg.chk ⟨ops,N,Γ,lesN Λ,sp,λ i=>List.range i⟩=true)
  (ho1:ops[n]?=some ⟨some d,.call ⟨.builtin .append,#[.tmp s,.tmp u],#[S,S]⟩,T1,ps1,af1,none⟩) (ho2:ops[n+1]?=some ⟨some e,.assign (.tmp d),T2,ps2,af2,none⟩)
  (hi1:i1<n) (h1:sp[i1]?=some (.v s (OwnR w0.w.heap.size E m D l))) (hi2:i2<n) (h2:sp[i2]?=some (.v u A2)) (hA2:∀ w u,A2.p B u w→Kept w0 w→(SlA E D' xs).va.p B u w)
  (hS:P.underlying S=some (.slice E)) (hi:P.info? E=some it) (hz:it.zero=some z) (hsz:it.size=m) (hby:it.bytes=bytes) (hzs:z.cells.size=m) (hm0:0<m) (hl:l.length+xs.length≤100000000000) (hb6:bytes≤1000)
  (hD':∀ T∈D',T∈D) (hED:E ∉ D) (hxm:∀ x∈xs,x.n=m) (hde:(d != e)=true) (hd:d<N) (he:e<N)
  (hsrc:src.all (λ k=>match Γ[k]? with | some y => !y.2.deps.contains E&&Rg.outG ⟨ops,N,Γ,lesN Λ,sp,λ i=>List.range i⟩ y.1 | none=>false)=true)
  (hΛ:(kl.filterMap λ k=>Λ[k]?).all (λ l=>l.T != E && !l.A.deps.contains E&&l.s != d&&l.s != e)=true)
  (hQ:∀ a w,St B w0 N ((e,OwnR w0.w.heap.size E m D (l++xs))::src.filterMap (λ k=>Γ[k]?)) (kl.filterMap λ k=>Λ[k]?) a w→Q .normal a w):(Code.region id ops false).wp P Q a w:=by
 have hles0:∀ y∈lesN Λ,y.cr=none∧y.st=none∧(⟨y.s,y.T,y.H,y.A0⟩:Lc)∈Λ:=λ y hy=>by
  obtain ⟨l',hl',rfl⟩:=qm.1 hy
  exact ⟨rfl,rfl,hl'⟩
 refine Rg.linK (R:=⟨ops,N,Γ,lesN Λ,sp,λ i=>List.range i⟩) (m:=2) hn2 G hk h (λ y hy _=>(hles0 y hy).2.2) (λ i hi=>hob.all i zo zo) λ a1 w1 hinv=>?_
 have hcl:∀ deps,Rg.clash ⟨ops,N,Γ,lesN Λ,sp,λ i=>List.range i⟩ (λ k=>decide (k<n)) deps=false:=λ deps=>by
  unfold Rg.clash
  rw [xb]
  intro y hy
  rw [(hles0 y hy).2.1]
  simp
 have hv:=hinv.v i1 _ s _ h1 rfl (qP hi1) (hcl _)
 have hu:=hA2 _ _ (hinv.v i2 _ u _ h2 rfl (qP hi2) (hcl _)) hinv.base
 have hB:B≤w0.w.heap.size:=hinv.lo _ (.inl (qg _))
 obtain ⟨v',w',hr,r1,r2,r3⟩:=ga (T1:=T1) hS hi hz hsz hby hzs hm0 hl hb6 hv hu hD' hED hxm hinv.base.size hB
 have hdsz:d<a1.tmps.size:=by rw [hinv.size]; exact hd
 have hesz:e<(a1.put (some d) v').tmps.size:=by rw [bt,hinv.size]; exact he
 have hne:d≠e:=by simpa using hde
 rw [List.range'_succ,qv]
 refine bu (R:=⟨ops,N,Γ,lesN Λ,sp,λ i=>List.range i⟩) ho1 G (bc (w':=w') (v:=v') (by simp [execOp,resolve,invoke,builtin,hr,Result.andThen]) ?_)
 rw [List.range'_succ,qv]
 refine bu (R:=⟨ops,N,Γ,lesN Λ,sp,λ i=>List.range i⟩) ho2 G (bc (w':=w') (v:=v') ?_ (hQ _ _ ?_))
 ·have:=aG a1 d v' hdsz
  simp [execOp,this]
 ·have hother:∀ t,t≠d→t≠e→((a1.put (some d) v').put (some e) v').eval (.tmp t)=a1.eval (.tmp t):=λ t h3 h4=>by
   rw [ai _ _ _ _ h4,ai _ _ _ _ h3]
  have hsub:∀ l'∈(kl.filterMap λ k=>Λ[k]?),l'∈Λ:=λ l' hl'=>by
   obtain ⟨k,_,hk⟩:=qJ.1 hl'
   exact qa hk
  have hlc:∀ l'∈(kl.filterMap λ k=>Λ[k]?),l'.T≠E∧E ∉ l'.A.deps∧l'.s≠d∧l'.s≠e:=λ l' hl'=>by
   have:=qc.1 hΛ l' hl'
   simp only [qj,bne_iff_ne,qz,qy,qu] at this
   exact ⟨this.1.1.1,this.1.1.2,this.1.2,this.2⟩
  have hcur:∀ l'∈Λ,(⟨l'.s,l'.T,l'.H,none,l'.A,none⟩:Le)∈lesN Λ:=λ l' hl'=>qm.2 ⟨l',hl',rfl⟩
  refine ⟨hinv.lo,hinv.defers.grown r2 r3 rfl,by rw [bt,bt]; exact hinv.size,?_,?_,?_,?_⟩
  ·exact ⟨r2.os.trans hinv.base.os,r2.tape.trans hinv.base.tape,r2.output.trans hinv.base.output,qd hinv.base.size r2.size,λ k hk hf =>
    (r2.block k (qE hk hinv.base.size) (λ e=>by have:=(r3 k e.symm).1; omega)).trans (hinv.base.block k hk hf)⟩
  ·intro y hy
   rcases qo.1 hy with rfl | hy
   ·show (OwnR w0.w.heap.size E m D (l++xs)).p B (((a1.put (some d) v').put (some e) v').eval (.tmp e)) w'
    rw [aG _ _ _ hesz]
    exact r1
   ·obtain ⟨k,hk1,hk2⟩:=qJ.1 hy
    have hs:=qc.1 hsrc k hk1
    simp only [hk2,qj,qz,qy,qu] at hs
    have hout:∀ q,q<ops.size→Rg.dst ⟨ops,N,Γ,lesN Λ,sp,λ i=>List.range i⟩ q≠some y.1:=λ q hq=>by
     have:=qc.1 hs.2 q (by simpa using hq)
     simpa using this
    have g1:y.1≠d:=λ e1=>hout n zo (by unfold Rg.dst; rw [ho1,e1]; rfl)
    have g2:y.1≠e:=λ e1=>hout (n+1) zo (by unfold Rg.dst; rw [ho2,e1]; rfl)
    rw [hother _ g1 g2]
    exact VA.grown (hinv.g y (qa hk2) (λ q hq hdq=>absurd hdq (hout q hq)) (hcl _)) r2 r3 hB hs.1
  ·intro l' hl'
   obtain ⟨g1,g2,g3,g4⟩:=hlc l' hl'
   obtain ⟨g,cs,e1,e2,e3,e4⟩:=hinv.c _ (hcur l' (hsub l' hl')) l'.A rfl
   refine ⟨g,cs,by rw [hother _ g3 g4]; exact e1,e2,?_,As.grown e4 r2 r3 hB g2⟩
   rw [r2.block g (Array.getElem?_eq_some_iff.1 e3).1 (λ e5=>by
    obtain ⟨_,c,fz,e6⟩:=r3 g e5.symm
    rw [e3] at e6
    injection e6 with e6
    injection e6 with _ e6 _
    exact g1 e6)]
   exact e3
  ·intro l1 hl1 l2 hl2 hne'
   obtain ⟨_,_,g3,g4⟩:=hlc l1 hl1
   obtain ⟨_,_,g5,g6⟩:=hlc l2 hl2
   rw [hother _ g3 g4,hother _ g5 g6]
   exact hinv.x _ (hcur l1 (hsub l1 hl1)) _ (hcur l2 (hsub l2 hl2)) hne' G rfl
def CmN (P:Program)(f:FuncId)(T:TypeId)(A0 A1:As)(pre:List Ar)(post:Nat→VA):Prop :=
 (∃ fn, P.funcs[f]? = some fn ∧ (fn.name == "runtime.NumGoroutine") = false ∧ fn.body.isNone = false) ∧
 ∀ (B:Nat) (w:World) (g:Nat) (cs:List Value) (args:List Value),B≤g→w.heap[g]?=some (.cells cs.toArray T (0,0))→A0.p B cs w→All2 (λ A v=>Ar.ok B w g A v) pre args →
  Calls P f args.toArray w λ e w'=>∃ v cs',e=.returned v∧(post w.heap.size).p B v w'∧But g w w'∧w'.heap[g]?=some (.cells cs'.toArray T (0,0))∧A1.p B cs' w'
theorem CmN.introK {f : FuncId} {fn : Func} {c : Code} {T : TypeId} {A0 A1 : As} {H : Hd} {pre : List Ar} {post : Nat → VA} (p : Nat) (hf : P.funcs[f]? = some fn) (hb : fn.body = some c) (hn : (fn.name == "runtime.NumGoroutine") = false) (hsz : pre.length ≤ fn.ntmps)
  (hm:∀ g,(p,EqV (H.f g))∈argΓ (pre.map (Ar.va g)))
  (h:∀ (B g:Nat) (w0:Bs) (a:Act),St B w0 fn.ntmps (argΓ (pre.map (Ar.va g))) [⟨p,T,H,A0⟩] a w0.w→c.wp P (bPost P fn (RQm B w0 g T A1 (post w0.w.heap.size))) a w0.w):CmN P f T A0 A1 pre post:=by
 refine ⟨⟨fn,hf,hn,by rw [hb]; rfl⟩,λ B w g cs args hB hg hp ha=>(bV hf hb (h B g ⟨w,λ k=>k=g,false⟩ _ ?_)).mono λ _ _ ⟨v,cs',he,hv,hk,h1,h2⟩=>⟨v,cs',he,hv,hk,h1,h2⟩⟩
 have hl:=ha.length
 have hgw:=(Array.getElem?_eq_some_iff.1 hg).1
 have ha':All2 (λ (A:VA) v=>A.p B v w) (pre.map (Ar.va g)) args:=by
  clear hl hm h hsz
  induction ha with
  | nil=>exact .nil
  | @cons x y xs ys h1 _ ih =>
   refine .cons ?_ ih
   cases x with
   | v A=>exact h1
   | w H=>exact h1
 have h0:(⟨args.toArray++Array.replicate (fn.ntmps-args.toArray.size) undef,[]⟩:Act).eval (.tmp p)=H.f g :=
  All2.args (N:=fn.ntmps-args.toArray.size) ha' (p,EqV (H.f g)) (hm g)
 refine ⟨λ k hk=>?_,DefOk.nil rfl,?_,Kept.refl _,All2.args ha',λ l hl=>?_,λ l hl m hm hne=>?_⟩
 ·rcases hk with hk | hk
  ·exact qd hB (qd (zD hgw) hk)
  ·have:k=g:=hk
   omega
 ·simp only [zJ,zE,qF]
  omega
 ·simp at hl
  subst hl
  exact ⟨g,cs,h0,.inr rfl,hg,hp⟩
 ·simp at hl hm
  subst hl hm
  exact absurd G hne
section
variable {P:Program} {R:Rg} {Q:Exit→Act→World→Prop} {B i:Nat} {w0:Bs}
theorem wV {d s e c s0 h:Nat}{cr:Option Nat}{A0 A1:As}{A:Nat→VA}{f:FuncId}{ys xs:List Operand}{vs:List Value}{pre:List Ar}{at_:Array TypeId}{ty:TypeId}
  (hs:R.sp[i]?=some (.cal d (A h) e)) (he:R.les[e]?=some ⟨s,T,H,cr,A0,some (i,A1)⟩) (ho:R.ops[i]?=some ⟨some d,.call ⟨.value (.tmp c),ys.toArray,at_⟩,ty,ps,af,none⟩)
  (hc:CmN P f T A0 A1 pre A) (hv:Has R B w0 i (.tmp c) (EqA (.func (.func f) #[] vs.toArray)).va) (hvs:HasL R B w0 i xs (vs.map EqV)) (hx:All2 (ArH R B w0 i s H) pre (ys++xs)) (hS:Has R B w0 i (.tmp s0) (SzV h)) (hm:∀ n,h≤n→Wk (A n) (A h)):R.Ob P Q B w0 i:=by
 unfold Rg.Ob
 simp only [hs,he]
 intro a w av g cs h1 hB h3 h4 _ K hK
 obtain ⟨⟨fn,hf,hn,hb2⟩,hcall⟩:=hc
 have ev:a.eval (.tmp c)=.func (.func f) #[] vs.toArray:=Ac (hv a w av)
 have evs:=rL hvs av
 have hrun:(execOp a.eval ⟨some d,.call ⟨.value (.tmp c),ys.toArray,at_⟩,ty,ps,af,none⟩).run P w=.ok (.enter f ((ys++xs).map a.eval).toArray) w:=by
  simp only [execOp,resolve,ev,Deferred.ofValue,Sem.run_bind,Sem.run_pure,Result.andThen_ok,invoke,be hf hn hb2,zF,evs]
  simp
 refine bu ho G ?_
 unfold Oper.wp
 rw [hrun]
 refine (hcall B w g cs _ hB h3 h4 ?_).mono λ e w' ⟨v,cs',he,hv,hg,h5,h6⟩=>by subst he; exact hK v cs' w' hg h5 h6 (hm _ (hS a w av) _ _ _ hv)
 clear hcall hrun ho hs he hvs evs
 generalize ys++xs=zs at hx
 induction hx with
 | nil=>exact .nil
 | @cons x y _ _ h _ ih =>
  refine .cons ?_ ih
  cases x with
  | v A=>exact h a w av
  | w H' =>
   obtain ⟨rfl,h2⟩:=h
   exact (h2 a w av).trans h1
end
theorem ge_ge {h:Nat}{A:As}:∀ n,h≤n→Wk (GeA n A).va (GeA h A).va:=λ n hn B v w ⟨cs,⟨h1,h2,h3⟩,hv⟩=>⟨cs,⟨h1,h2,λ g hg=>qd hn (h3 g hg)⟩,hv⟩
def LsC (E m:Nat)(D:List TypeId)(l:List As):As where
 n:=1
 ag:=false
 p B cs w:=∃ v,cs=[v]∧(LsN E m D l).p B v w
 deps:=E::D
 len:=by rintro B cs w ⟨v,rfl,_⟩; rfl
 one:=by
  rintro B cs w ⟨v,rfl,_,_,⟨ds,_,h,_⟩,_⟩ c hc
  obtain rfl:=qq.1 hc
  rcases h.2 with ⟨rfl,_⟩ | ⟨g,cap,cur,rfl,_⟩ <;> rfl
 ag1:=λ _=>rfl
 cg:=λ B cs w w' hg ⟨v,e,h⟩=>⟨v,e,(LsN E m D l).cg _ _ _ _ hg h⟩
 wr:=λ B cs w w' g c T fz h1 h2 h3 h4 ⟨v,e,h⟩=>⟨v,e,(LsN E m D l).wr _ _ _ _ _ _ _ _ h1 h2 h3 h4 h⟩
theorem yc {E m:Nat}{l:List As}:Wk (LsC E m D l).va (LsN E m D l):=λ B v w ⟨cs,⟨u,e,h⟩,hv⟩=>by
 subst e
 have hv':v=u:=hv
 subst hv'
 exact h
theorem yb {E m:Nat}{l:List As}:Wk (LsN E m D l) (LsC E m D l).va:=λ B v w h=>⟨[v],⟨v,rfl,h⟩,rfl⟩
theorem Co {E m:Nat}{l:List As}(hl:∀ A∈l,FreeA A A):Free (LsC E m D l).va (LsC E m D l).va:=λ B B' v w hB hp=>yb _ _ _ (rF hl _ _ _ _ hB (yc _ _ _ hp))
theorem rO {x:RF}(h:okX x=true):Cn Tryz.prog 110 [(RFA x).va] (QD 2048 (toQ x)).va:=(oz (c:=2048) zd).wk (.cons (qa_x h (qg _)).va .nil)
theorem rD {x:RF}{n:Nat}(h:okX x=true):WkA (GeA n (QD 2048 (toQ x))) (GeA n (RFN x)):=GC (qd_rfn.trans (dD (qk RFN (wS h).1.symm)))
theorem el_two {h1 h2 h3:Nat}{k:Int}{X Y:As}(h12:h1≤h2)(h32:h3≤h2):WkA (cat [NumA .u8 k,IvA h1 h3 X,GeA h2 Y]) (GeA h1 (cat [NumA .u8 k,X,Y])):=by
 refine ⟨rfl,rfl,λ B cs w ⟨ps,e,hq⟩=>?_⟩
 cases hq with
 | @cons _ c0 _ _ h0 hq=>cases hq with
  | @cons _ c1 _ _ q1 hq=>cases hq with
   | @cons _ c2 _ _ q2 hq =>
    cases hq
    have:([c0,c1,c2]:List (List Value)).flatten=c0++(c1++c2):=by simp
    rw [e,this]
    refine ⟨⟨[c0,c1,c2],this.symm,.cons h0 (.cons q1.1 (.cons q2.1 .nil))⟩,?_,λ g hg=>?_⟩
    ·rw [d6,d6,rR h0,xT,xG]
     refine ⟨q1.2.1,q2.2.1,λ x hx y hy e=>?_⟩
     have:=q1.2.2 x hx
     have:=q2.2.2 y hy
     omega
    ·rw [d6,d6,rR h0,xT,qw] at hg
     rcases hg with hg | hg
     ·exact (q1.2.2 g hg).1
     ·exact qd h12 (q2.2.2 g hg)
theorem St.ivP {B N:Nat}(h:St B w0 N Γ Λ a w){s h1:Nat}{k:Int}{X Z:As}(i:Nat)(hm:Λ[i]?=some ⟨s,T,H,cat [NumA .u8 k,GeA h1 X,Z]⟩)(hX:NewA X):St B w0 N Γ (Λ.set i ⟨s,T,H,cat [NumA .u8 k,IvA h1 w.heap.size X,Z]⟩) a w :=
 h.setL i hm λ cs ⟨ps,e,hq⟩=>by
  cases hq with
  | @cons _ c0 _ _ h0 hq=>cases hq with
   | @cons _ c1 _ _ q1 hq=>exact ⟨_,e,.cons h0 (.cons ⟨q1.1,q1.2.1,λ g hg=>⟨q1.2.2 g hg,(hX _ _ _ q1.1 g hg).2⟩⟩ hq)⟩
theorem pD {gp:RGp}{c:Nat}(h:[gp.lo,gp.hi].all okX=true)(hc:c≤4096):CmN Tryz.prog 184 112 (NumA .u64 (c:Nat)) (NumA .u64 ((endF gp c).2:Nat)) [.v ((GpA gp).va),.w (ptrH)] (λ n=>(GeA n (RFN (endF gp c).1)).va):=by
 refine CmN.introK 1 Tryz.func184 G zk nq (λ g=>zm 1 G) (λ B g w0 a U=>?_)
 have U:=zn [(0,(GpA gp).va),(1,EqV ((ptrH).f g))] [⟨1,112,ptrH,NumA .u64 (c:Nat)⟩] U
 have U:=St.addSz U 9999
 have U:=zn [(0,_),(1,_),(9999,SzV w0.w.heap.size)] [O 1 112 _] U
 refine qb<|zg [η] [⟨2,32,ptrH,some 0,_,none⟩,⟨3,30,ptrH,some 1,_,none⟩] [.alc 1,.alc 2] [.g 1,.g 2] U (zW 0 G (zY G (Str.zero az) o0)) (zz [(1,_),(9999,_)] [O 1 112 _,O 2 32 _,O 3 30 _] λ a w U=>?_)
 refine zt<|qb<|zg [η,η,η] [] [.v 5 _,.v 6 _] [.g 0,.g 1,.o 1] U (zl 1 G b9 (zQ G (ri h) (.o (vq 0 G)) o0)) (zz [(1,_),(9999,_),(6,_)] [O 1 112 _,O 2 32 _,O 3 30 _] λ a w U=>?_)
 refine a7<|ae U (zm 2 G) (λ hb0=>?_) (λ hb0=>?_)
 ·have e:endF gp c=(gp.lo,c):=qC hb0
  refine qb<|zg [η,η,some (3,_)] [] [.adr 7 2 (.some 0) True,.v 8 _,.v 9 _,.sto 2] [.g 0,.g 1] U (zO 1 G bg (zL 0 1 0 G ak (zv G ((np (h:=w0.w.heap.size) (s:=9999) (xs:=[.tmp 8]) (rO (ok_2 h).1) mI sM lJ (.cons (fW _).va .nil) (.o (vq 1 G)) (gq 1 G)).wk (rD (ok_2 h).1).va) (zS 2 G ak o0)))) (zz [(1,_),(9999,_)] [O 1 112 _,O 2 32 _,O 3 30 _] λ a w U=>?_)
  refine a7<|qe<|ao ?_
  have U:=St.cvA (A':=NumA .u64 ((endF gp c).2:Nat)) U 0 rfl (by rw [e]; rfl)
  refine l8 U (zm 0 G) (zm 0 G) ?_
  refine aj ?_ (ap G U (zm 2 G) ak)
  rw [e]; exact aL
 ·refine qh<|zt<|zg [η,η,η] [] [.v 10 _,.v 11 _,.v 12 _,.v 4 _] [.g 0,.g 1,.o 3] U (zl 0 G vu (zv G (wB (vq 0 G) (aD 1 G) (u_bit hc)) (zv G (bF (vq 1 G) (aD 1 G)) (zA 2 G o0)))) (zz [(1,_),(9999,_),(4,_)] [O 1 112 _,O 2 32 _,O 3 30 _] λ a w U=>?_)
  refine zt<|zg [some (2,_),η,η] [] [.v 13 _,.v 14 _,.sto 0] [.g 0,.g 1,.g 2] U (zl 0 G vu (zv G (gM (vq 0 G) (aD 1 G) zd (HQ)) (zS 1 G vu o0))) (zz [(1,_),(9999,_),(4,_)] [O 1 112 _,O 2 32 _,O 3 30 _] λ a w U=>?_)
  refine zt<|qb<|zg [η,η,η] [] [.v 15 _] [.g 0,.g 1,.o 0] U (zM 2 G o0) (zz [(1,_),(9999,_),(15,_)] [O 1 112 _,O 2 32 _,O 3 30 _] λ a w U=>?_)
  refine a7<|ae U (zm 2 G) (λ hb1=>?_) (λ hb1=>?_)
  ·have e:endF gp c=(gp.hi,c/2):=by
    have h1:c%2=1:=by
     have:((c%2:Nat):Int)=1:=by simpa using hb1
     omega
    rw [endF,qA (by rw [hb0]; decide),qC h1]
   refine qb<|zg [η,η,some (3,_)] [] [.adr 16 2 (.some 4) True,.v 17 _,.v 18 _,.sto 2] [.g 0,.g 1] U (zO 1 G bi (zL 0 1 1 G ak (zv G ((np (h:=w0.w.heap.size) (s:=9999) (xs:=[.tmp 17]) (rO (ok_2 h).2) mI sM lJ (.cons (fW _).va .nil) (.o (vq 1 G)) (gq 1 G)).wk (rD (ok_2 h).2).va) (zS 2 G ak o0)))) (zz [(1,_),(9999,_)] [O 1 112 _,O 2 32 _,O 3 30 _] λ a w U=>?_)
   refine a7<|qe<|ao ?_
   have U:=St.cvA (A':=NumA .u64 ((endF gp c).2:Nat)) U 0 rfl (by rw [e]; rfl)
   refine l8 U (zm 0 G) (zm 0 G) ?_
   refine aj ?_ (ap G U (zm 2 G) ak)
   rw [e]; exact aL
  ·have e:endF gp c=(gp.lo,c/2):=by
    have h1:¬ c%2=1:=λ h=>by rw [h] at hb1; exact absurd hb1 zd
    rw [endF,qA (by rw [hb0]; decide),qA h1]
   refine qh<|zt<|zg [η,η,some (3,_)] [] [.adr 19 2 (.some 0) True,.v 20 _,.v 21 _,.sto 2] [.g 0,.g 1] U (zO 1 G bg (zL 0 1 0 G ak (zv G ((np (h:=w0.w.heap.size) (s:=9999) (xs:=[.tmp 20]) (rO (ok_2 h).1) mI sM lJ (.cons (fW _).va .nil) (.o (vq 1 G)) (gq 1 G)).wk (rD (ok_2 h).1).va) (zS 2 G ak o0)))) (zz [(1,_),(9999,_)] [O 1 112 _,O 2 32 _,O 3 30 _] λ a w U=>?_)
   refine a7<|qe ?_
   have U:=St.cvA (A':=NumA .u64 ((endF gp c).2:Nat)) U 0 rfl (by rw [e]; rfl)
   refine l8 U (zm 0 G) (zm 0 G) ?_
   refine aj ?_ (ap G U (zm 2 G) ak)
   rw [e]; exact aL
theorem In_len (xs:List RLo):In (((xs.map LoA).length:Nat):Int)=In ((xs.length:Nat):Int):=by rw [qi]
section
variable {P:Program} {R:Rg} {Q:Exit→Act→World→Prop} {B i:Nat} {w0:Bs}
theorem wv_ex {A A':VA}{op:Op}(e:A=A')(h:Wv P Q R B w0 i op A):Wv P Q R B w0 i op A':=e▸h
end
set_option maxHeartbeats 1000000 in
theorem CN (xs:List RLo){c:Nat}(h4:xs.length≤4096)(hx:xs.all loF=true)(hc:c≤4096):Cn Tryz.prog 116 [(SlA 69 [U32] (xs.map LoA)).va,(NumA .u64 (c:Nat)).va] ((LsC 92 9 [U32] ((cnF xs c).map REN)).va):=by
 obtain ⟨it,z,e1,e2,e3,e4,e5⟩:=AI
 refine Cn.introW Tryz.func116 rfl zk nq (.cons (ir (λ A hA=>by obtain ⟨x,_,rfl⟩:=qm.1 hA; exact eH x)).va (.cons (mt _ _).va .nil)) (Co (cz λ _=>oa)) (λ B w0 a hB0 U=>?_)
 have U:=zn [(0,(SlO 69 [U32] (xs.map LoA) True).va),(1,(NumA .u64 (c:Nat)).va)] [] U
 refine qb<|zg [] [⟨3,112,ptrH,some 0,_,none⟩] [.alc 0,.v 4 _] [.g 0,.o 1] U (zW 1 G (zv G (a9 ba) o0)) (zz [(0,_),(4,_)] [O 3 112 _] λ a w U=>?_)
 refine zt ?_
 obtain ⟨q3,U⟩:=St.nm U 0 rfl
 refine zg [η] [] [.v 10 _,.v 5 _] [.g 0,.g 1,.g 2,.o 1] U (zv G (dr (vs:=[ptr q3]) (.o (gq 0 G))) (zA 0 G o0)) (zz [(3,_),(0,_),(4,_),(5,_)] [O 3 112 _] λ a w U=>?_)
 refine zt<|zg [η] [] [.v 11 _,.v 12 (In (xs.length:Nat)),.v 13 (OwnR w0.w.heap.size 92 9 [U32] []),.v 6 _] [.g 0,.g 1,.g 3,.o 3] U (zM 1 G (zv G (wv_ex (In_len xs) (bh Tryz.underlying22 (bS (aC (vq 0 G))))) (zv G (wy Tryz.underlying38 e1 e2 e3 e4 e5 zd zd (xZ hB0) a8 (vq 1 G) zo) (zA 2 G o0)))) (zz [(3,_),(0,_),(5,_),(6,_)] [O 3 112 _] λ a w U=>?_)
 have U:=St.wkG U 3 rfl FC
 have U:=zn [(3,_),(0,_),(5,_),(6,_)] [O 3 112 _] U
 refine zt<|qb<|zg [η] [] [.v 14 _,.v 15 _,.v 16 _] [.g 0,.g 2,.g 3,.o 0,.o 1,.o 2] U (zM 1 G (zv G (bh Tryz.underlying22 (bS (aC (vq 0 G)))) (zv G (ab a8) o0))) (zz [(3,_),(5,_),(6,_),(14,_),(15,_),(16,_)] [O 3 112 _] λ a w U=>?_)
 refine a7<|ql ?_
 have U:=St.sel U [0,1,2,3,4,5]
 refine wp_loop_ghost (λ n a w=>∃ j:Nat,(n+j=xs.length)∧St B w0 38 [(3,EqV (ptr q3)),(5,(EqA (.func (.func 184) #[] #[ptr q3])).va),(6,OwI w0.w.heap.size 92 9 [U32] ((cnS ([],c) (xs.take j)).1.map REN)),(14,(SlO 69 [U32] (xs.map LoA) True).va),(15,In (xs.length:Nat)),(16,In (j:Nat))] [⟨3,112,ptrH,NumA .u64 ((cnS ([],c) (xs.take j)).2:Nat)⟩] a w) (xs.length) ?_ ?_
 ·rw [qi] at U
  exact ⟨0,by omega,U⟩
 intro n a w hI
 obtain ⟨j,hn,U⟩:=hI
 refine qb<|zg [η] [] [.v 17 _] [.g 0,.g 1,.g 2,.g 3,.g 4,.g 5,.o 0] U (zv G (aK (gq 5 G) (gq 4 G)) o0) (zz [(3,_),(5,_),(6,_),(14,_),(15,_),(16,_),(17,_)] [O 3 112 _] λ a w U=>?_)
 refine zt<|ae U (zm 6 G) (λ hb0=>?_) (λ hb0=>?_)
 ·have hj:j<xs.length:=by have:=qt hb0; omega
  have hlo:loF xs[j]=true:=qc.1 hx _ (qf hj)
  have hcl:(cnS ([],c) (xs.take j)).2≤4096:=qd (Ap _ _) hc
  refine qh<|zt<|ql<|qb<|zg [η] [⟨8,69,ptrH,some 2,_,some (3,_)⟩] [.v 18 _,.v 19 _,.alc 1,.sto 1] [.g 0,.g 1,.g 2,.g 3,.g 4,.g 5] U (zv G (cv dP (dJ λ _=>rfl) (bS (aC (gq 3 G))) (gq 5 G) (cD hj)) (zv G (aq (vq 0 G) fX) (zY G (Str.zero cU) (zS 1 G fX o0)))) (zz [(3,_),(5,_),(6,_),(14,_),(15,_),(16,_)] [O 3 112 _,O 8 69 _] λ a w U=>?_)
  refine zt ?_
  obtain ⟨I,top,hIl,hIS,hIt,U⟩:=St.openI U 2 rfl
  have U:=St.addSz U 9999
  obtain ⟨h1,eh1⟩:∃ h,w.heap.size=h:=⟨_,rfl⟩
  rw [eh1] at U hIt
  have U:=zn [(3,_),(5,_),(6,_),(14,_),(15,_),(16,_),(9999,_)] [O 3 112 _,O 8 69 _] U
  obtain ⟨v6,hv6,U⟩:=St.hide U 2 rfl
  obtain ⟨w1,U,hback⟩:=St.frameA U
  have U:St B w1 38 [(3,_),(5,_),(6,_),(14,_),(15,_),(16,_),(9999,_)] [O 3 112 _,O 8 69 _] a w:=U
  refine zgd [[],[0],[],[],[3],[2,3,4],[0,1,2,3,4,5],[],[0,1,2,3,4,5,6,7]] [some (5,_),none] [⟨9,92,ptrH,some 7,_,some (8,_)⟩] [.adr 20 8 (.some 0) True,.v 21 _,.v 22 _,.adr 23 8 (.some 1) True,.v 24 _,.cal 25 _ 0,.v 26 _,.alc 2,.sto 2] [.g 0,.g 1,.g 2,.g 3,.g 4,.g 5,.g 6] aa U (zO 1 G cM (zL 0 1 0 G dz (zM 1 G (zO 1 G bU (zL 3 1 1 G b9 (oc (wV (h:=h1) (s0:=9999) (ys:=[.tmp 24]) (xs:=[.tmp 3]) (vs:=[ptr q3]) G G G (pD (lo_p hlo) hcl) (vq 2 G) (.o (gq 0 G)) (.cons (vq 4 G) (.cons arw .nil)) (gq 6 G) ge_ge) (zv G (aO (qs:=[(0,_),(1,_)]) cF (.cons ⟨rfl,vq 1 rfl,rfl⟩ (.cons ⟨rfl,(yJ 5 G zk zk),rfl⟩ .nil))) (zY G (Str.zero cF) (zS 6 G er o0))))))))) zk zk zk zk (λ a w U=>?_)
  have U:St B w1 38 [(3,_),(5,_),(6,_),(14,_),(15,_),(16,_),(9999,_)] [O 3 112 _,O 8 69 _,O 9 92 _] a w:=U
  refine zt ?_
  obtain ⟨qh2,U⟩:=St.newSz U 6 rfl
  obtain ⟨h2,eh2⟩:∃ h,w.heap.size=h:=⟨_,rfl⟩
  rw [eh2] at U qh2
  have U:=St.ivP U 2 rfl lB
  rw [eh2] at U
  have U:St B w1 38 [(3,_),(5,_),(6,_),(14,_),(15,_),(16,_),(9999,_)] [O 3 112 _,O 8 69 _,O 9 92 _] a w:=U
  refine zg [some (3,_),η,some (5,_)] [] [.v 27 _,.adr 28 8 (.some 9) True,.v 29 _,.cal 30 _ 0,.adr 31 9 (.some 5) True,.sto 2] [.g 0,.g 1,.g 2,.g 3,.g 4,.g 5,.g 6] U (zM 1 G (zO 1 G bY (zL 1 1 2 G b9 (oc (wV (h:=h2) (s0:=9999) (ys:=[.tmp 29]) (xs:=[.tmp 3]) (vs:=[ptr q3]) G G G (pD (lo_q hlo) (qd (tq _ _) hcl)) (vq 0 G) (.o (gq 0 G)) (.cons (vq 2 G) (.cons arw .nil)) (gq 6 G) ge_ge) (zO 2 G bX (oc (dc 4 G G G G zk (yJ 3 G zk zk) ak (Put.part 2 G G G)) o0)))))) (λ a w U=>?_)
  have U:St B w1 38 [(3,_),(5,_),(6,_),(14,_),(15,_),(16,_),(9999,_)] [O 3 112 _,O 8 69 _,O 9 92 _] a w:=U
  have U:=St.wkL (A':=GeA h1 (REN (cst xs[j] (cnS ([],c) (xs.take j)).2).1)) U 2 rfl (el_two qh2 (qg _))
  obtain ⟨U,hown⟩:=hback U
  have U:=St.shw U 2 rfl (hown hv6 zk)
  have U:=zn [(3,_),(5,_),(6,_),(14,_),(15,_),(16,_),(9999,_)] [O 3 112 _,O 8 69 _,O 9 92 _] U
  refine a7 ?_
  have hIl2:=hIl
  refine tb (sp:=[.v 32 _,.v 33 _,.v 34 _,.v 35 VT,.v 6 VT]) 3 [0,1,3,4,5,6] 0 2 [0] U (zM 2 rfl (zl 2 rfl er (zv rfl (cq (D:=[U32]) (l:=[_]) (xs:=[.tmp 33]) (dV zk) mj zk (n_ok zk) nq nq nq (.o (vq 1 rfl)) rfl rfl) o0))) rfl zk rfl rfl zd rfl zd rfl (λ _ _ h _=>h) Tryz.underlying38 e1 e2 e3 e4 e5 zd (by rw [yD hIl]; simp only [qi,oA,zj,zy,xf]; omega) zd (λ T hT=>hT) zd (λ A hA=>by obtain rfl:=qq.1 hA; rfl) zk nq nq zk zk (zz [(6,_),(3,_),(5,_),(14,_),(15,_),(16,_),(9999,_)] [O 3 112 _] λ a w U=>?_)
  obtain ⟨qh4,U⟩:h1≤w.heap.size∧St B w0 38 _ _ a w:=⟨qd qh2 (U.getG 6 rfl),U⟩
  have U:=St.setG (A':=SzV h1) U 6 rfl (λ h=>qd qh2 h)
  have U:=St.closeI (X:=REN (cst xs[j] (cnS ([],c) (xs.take j)).2).1) rl hIl hIS hIt U 0 6 rfl rfl
  have U:=zn [(6,_),(3,_),(5,_),(14,_),(15,_),(16,_),(9999,_)] [O 3 112 _] U
  refine am ?_
  refine a7<|zg [η] [] [.v 36 _,.v 16 _] [.g 0,.g 1,.g 2,.g 3,.g 4,.g 6,.o 1] U (zv G (aQ (gq 5 G) a8 ((wi64 zo zo).trans (by omega:(_:Int)=((j+1:Nat):Int)))) (zv G (ab (vq 0 G)) o0)) (zz [(6,_),(3,_),(5,_),(14,_),(15,_),(9999,_),(16,_)] [O 3 112 _] λ a w U=>?_)
  refine a7 ?_
  have U:=St.sel U [1,2,0,3,4,6]
  have e:=cn_nx (c:=c) hj
  have U:=St.wkG (A':=OwI w0.w.heap.size 92 9 [U32] ((cnS ([],c) (xs.take (j+1))).1.map REN)) U 2 rfl (bj (by rw [e,zF]; rfl))
  have U:=St.cvA (A':=NumA .u64 ((cnS ([],c) (xs.take (j+1))).2:Nat)) U 0 rfl (by rw [e]; rfl)
  exact ⟨n-1,by omega,j+1,by omega,U⟩
 ·obtain rfl:j=xs.length:=by have:=qr hb0; omega
  rw [qI] at U
  have U:=St.lsN U 2 rfl
  refine qK<|ah<|ah<|ay<|zt<|zg [η] [] [.v 37 _,.v 4 _] [.g 0,.o 1] U (zM 2 G (zA 0 G o0)) (zz [(3,_),(4,_)] [O 3 112 _] λ a w U=>?_)
  refine a7<|qe<|aj ?_ (an G U (zm 1 G))
  exact yb
theorem sn {k:Nat}(h:k≤12):IntKind.i64.wrap ((1:Int)*2^((k:Int).toNat))=((2^k:Nat):Int):=by
 have h1:2^k≤4096:=qd (zb zd h) zd
 have e:(1:Int)*2^((k:Int).toNat)=((2^k:Nat):Int):=by rw [zH,Int.one_mul]; simp
 rw [e]
 generalize 2^k=p at h1
 rw [wi64 zo zo]
theorem sF {k:Nat}(h:k≤12):2^k≤4096:=qd (zb zd h) zd
set_option maxHeartbeats 1000000 in
theorem i7 (xs:List RLo)(h4:xs.length≤4096)(hx:xs.all loF=true)(hm12:manyF xs≤12):ItC Tryz.prog 115 [(22,SlO 69 [U32] (xs.map LoA) True)] (λ k=>[In ((k:Nat):Int),(LsC 92 9 [U32] ((cnF xs k).map REN)).va]) false ((2^manyF xs)) [U32]:=by
 intro gs
 refine ItCg.intro Tryz.func115 G zk nq (λ l B Db J Jx w0 a hgl hoff hIt hG U=>?_)
 have U:=zn [(0,EqV (.func (.yield l) #[] #[])),(1,EqV (ptr (gs.getD 0 0)))] [⟨1,22,ptrH,SlO 69 [U32] (xs.map LoA) True⟩] U
 have hp12:=sF hm12
 refine wpIn_seq ?_
 refine bI (sts:=[none]) (news:=[]) (sp:=[.v 3 _]) [.g 0,.g 1,.o 0] zk (bR λ _ _ h=>h) U (zv G (a9 a8) o0) zk zk zk (zz [(0,_),(1,_),(3,_)] [O 1 22 _] λ a w U=>?_)
 refine a7<|wpIn_seq ?_
 refine wpIn_seq ?_
 refine bI (sts:=[none]) (news:=[]) (sp:=[.v 9 _,.v 10 _,.v 11 _]) [.g 0,.g 1,.g 2,.o 0,.o 1,.o 2] zk (bR λ _ _ h=>h) U (zl 0 G ty_22 (zv G (bh Tryz.underlying22 (bS (aC (E:=69) (vq 0 G)))) (zv G (ab a8) o0))) zk zk zk (zz [(0,_),(1,_),(3,_),(9,_),(10,_),(11,_)] [O 1 22 _] λ a w U=>?_)
 refine a7<|wpIn_block ?_
 have U:=St.sel U [0,1,2,3,4,5]
 refine wpIn_loop_ghost (λ n a w=>∃ j:Nat,(n+j=xs.length)∧St B w0 44 [(0,EqV (.func (.yield l) #[] #[])),(1,EqV (ptr (gs.getD 0 0))),(3,In ((manyF (xs.take j):Nat):Int)),(9,(SlO 69 [U32] (xs.map LoA) True).va),(10,In (xs.length:Nat)),(11,In (j:Nat))] [⟨1,22,ptrH,SlO 69 [U32] (xs.map LoA) True⟩] a w) (xs.length) ?_ ?_
 ·rw [qi] at U
  exact ⟨0,by omega,U⟩
 intro n a w hI
 obtain ⟨j,hn,U⟩:=hI; obtain ⟨n1,hn1⟩:∃ n1,n1=n:=⟨n,rfl⟩
 refine wpIn_seq ?_
 refine bI (sts:=[none]) (news:=[]) (sp:=[.v 12 _]) [.g 0,.g 1,.g 2,.g 3,.g 4,.g 5,.o 0] zk (bR λ _ _ h=>h) U (zv G (aK (gq 5 G) (gq 4 G)) o0) zk zk zk (zz [(0,_),(1,_),(3,_),(9,_),(10,_),(11,_),(12,_)] [O 1 22 _] λ a w U=>?_)
 refine a7<|wpIn_seq ?_
 refine eF U (zm 6 G) (λ hb0=>?_) (λ hb0=>?_)
 ·have hj:j<xs.length:=by have:=qt hb0; omega
  have hlo:loF xs[j]=true:=qc.1 hx _ (qf hj)
  refine wpIn_skip ?_
  refine a7<|wpIn_seq ?_
  refine wpIn_block ?_
  refine wpIn_seq ?_
  refine bI (sts:=[none]) (news:=[⟨5,69,ptrH,some 2,_,some (3,_)⟩]) (sp:=[.v 13 _,.v 14 _,.alc 1,.sto 1]) [.g 0,.g 1,.g 2,.g 3,.g 4,.g 5] zk (bR λ _ _ h=>h) U (zv G (cv dP (dJ λ _=>rfl) (bS (aC (E:=69) (gq 3 G))) (gq 5 G) (cD hj)) (zv G (aq (vq 0 G) fX) (zY G (Str.zero cU) (zS 1 G fX o0)))) zk zk zk (zz [(0,_),(1,_),(3,_),(9,_),(10,_),(11,_)] [O 1 22 _,O 5 69 _] λ a w U=>?_)
  refine a7<|wpIn_seq ?_
  refine bI (sts:=[none,none]) (news:=[]) (sp:=[.adr 15 5 (.some 1) True,.v 16 _,.adr 17 5 (.some 9) True,.v 18 _,.v 19 _,.v 20 _]) [.g 0,.g 1,.g 2,.g 3,.g 4,.g 5,.o 4,.o 5] zk (bR λ _ _ h=>h) U (zO 1 G bU (zL 0 1 1 G b9 (zO 1 G bY (zL 2 1 2 G b9 (zv G (ew (qs:=[(0,_),(1,_)]) tM (.cons ⟨rfl,vq 1 rfl,rfl⟩ (.cons ⟨rfl,vq 3 rfl,rfl⟩ .nil))) (zv G (ab a8) o0)))))) zk zk zk (zz [(0,_),(1,_),(3,_),(9,_),(10,_),(11,_),(19,_),(20,_)] [O 1 22 _,O 5 69 _] λ a w U=>?_)
  refine a7<|wpIn_block ?_
  have U:=St.sel U [0,1,2,3,4,5,6,7]
  have U:=St.selL U [0]
  refine wpIn_loop_ghost (λ n a w=>∃ i:Nat,(n+i=2)∧St B w0 44 [(0,EqV (.func (.yield l) #[] #[])),(1,EqV (ptr (gs.getD 0 0))),(3,In ((manyF (xs.take j)+lsI xs[j] i:Nat):Int)),(9,(SlO 69 [U32] (xs.map LoA) True).va),(10,In (xs.length:Nat)),(11,In (j:Nat)),(19,(cat [GpA xs[j].p,GpA xs[j].q]).va),(20,In (i:Nat))] [⟨1,22,ptrH,SlO 69 [U32] (xs.map LoA) True⟩] a w) (2) ?_ ?_
  ·exact ⟨0,rfl,U⟩
  intro n a w hI
  obtain ⟨i,hn2,U⟩:=hI
  refine wpIn_seq ?_
  refine bI (sts:=[none]) (news:=[]) (sp:=[.v 21 _]) [.g 0,.g 1,.g 2,.g 3,.g 4,.g 5,.g 6,.g 7,.o 0] zk (bR λ _ _ h=>h) U (zv G (aK (gq 7 G) a8) o0) zk zk zk (zz [(0,_),(1,_),(3,_),(9,_),(10,_),(11,_),(19,_),(20,_),(21,_)] [O 1 22 _] λ a w U=>?_)
  refine a7<|wpIn_seq ?_
  refine eF U (zm 8 G) (λ hb1=>?_) (λ hb1=>?_)
  ·have hi:i<2:=by have:=qt hb1; omega
   refine wpIn_skip ?_
   refine a7<|wpIn_seq ?_
   refine wpIn_block ?_
   refine wpIn_seq ?_
   refine bI (sts:=[none]) (news:=[⟨7,32,ptrH,some 1,_,some (2,_)⟩]) (sp:=[.v 22 _,.alc 1,.sto 1]) [.g 0,.g 1,.g 2,.g 3,.g 4,.g 5,.g 6,.g 7] zk (bR λ _ _ h=>h) U (zv G (Dr (gq 6 G) G Tryz.underlying104 b9 (n_ok zk) (gq 7 G) (gs_at hi)) (zY G (Str.zero bL) (zS 0 G b9 o0))) zk zk zk (zz [(0,_),(1,_),(3,_),(9,_),(10,_),(11,_),(19,_),(20,_)] [O 1 22 _,O 7 32 _] λ a w U=>?_)
   refine a7<|wpIn_seq ?_
   refine bI (sts:=[none,none]) (news:=[]) (sp:=[.v 23 _,.v 24 _,.v 25 _]) [.g 0,.g 1,.g 2,.g 3,.g 4,.g 5,.g 6,.g 7,.o 2] zk (bR λ _ _ h=>h) U (zl 1 G b9 (zQ G (ri (nJ (sS hlo))) (.o (vq 0 G)) (zv G (cW (vq 1 G)) o0))) zk zk zk (zz [(0,_),(1,_),(3,_),(9,_),(10,_),(11,_),(19,_),(20,_),(25,_)] [O 1 22 _,O 7 32 _] λ a w U=>?_)
   refine a7<|fB (λ a w =>  St B w0 44 [(0,EqV (.func (.yield l) #[] #[])),(1,EqV (ptr (gs.getD 0 0))),(3,In ((manyF (xs.take j)+lsI xs[j] (i+1):Nat):Int)),(9,(SlO 69 [U32] (xs.map LoA) True).va),(10,In (xs.length:Nat)),(11,In (j:Nat)),(19,(cat [GpA xs[j].p,GpA xs[j].q]).va),(20,In (i:Nat))] [⟨1,22,ptrH,SlO 69 [U32] (xs.map LoA) True⟩,⟨7,32,ptrH,GpA (gAt xs[j] i)⟩] a w) U (zm 8 G) (λ hb2=>?_) (λ hb2=>?_) (λ a w U=>?_)
   ·refine bI (sts:=[none,none]) (news:=[]) (sp:=[.v 26 _,.v 27 _,.v 3 _]) [.g 0,.g 1,.g 3,.g 4,.g 5,.g 6,.g 7,.o 2] zk (bR λ _ _ h=>h) U (zM 2 G (zv G (aQ (vq 0 G) a8 ((wi64 (by have:=dF xs j; have:=mK xs[j] i; omega) (by have:=dF xs j; have:=mK xs[j] i; omega)).trans (by omega:(_:Int)=((manyF (xs.take j)+(lsI xs[j] i+1):Nat):Int)))) (zA 1 G o0))) zk zk zk (zz [(0,_),(1,_),(9,_),(10,_),(11,_),(19,_),(20,_),(3,_)] [O 1 22 _,O 7 32 _] λ a w U=>?_)
    refine a7 ?_
    have U:=St.sel U [0,1,7,2,3,4,5,6]
    have hm:=dF xs j
    have hle:=mK xs[j] i
    rw [lsI_1 hi hb2]
    exact U
   ·refine wpIn_skip ?_
    refine a7 ?_
    have U:=St.sel U [0,1,2,3,4,5,6,7]
    rw [lsI_0 hi hb2]
    exact U
   refine am ?_
   refine a7<|bI (sts:=[none,none]) (news:=[]) (sp:=[.v 28 _,.v 20 _]) [.g 0,.g 1,.g 2,.g 3,.g 4,.g 5,.g 6,.o 1] zk (bR λ _ _ h=>h) U (zv G (aQ (gq 7 G) a8 ((wi64 zo zo).trans (by omega:(_:Int)=((i+1:Nat):Int)))) (zv G (ab (vq 0 G)) o0)) zk zk zk (zz [(0,_),(1,_),(3,_),(9,_),(10,_),(11,_),(19,_),(20,_)] [O 1 22 _,O 7 32 _] λ a w U=>?_)
   refine a7 ?_
   have U:=St.sel U [0,1,2,3,4,5,6,7]
   have U:=St.selL U [0]
   exact ⟨n-1,by omega,i+1,by omega,U⟩
  ·obtain rfl:i=2:=by have:=qr hb1; omega
   refine wpIn_exit ?_
   refine ah<|ah<|ay<|am ?_
   refine a7<|bI (sts:=[none]) (news:=[]) (sp:=[.v 29 _,.v 11 _]) [.g 0,.g 1,.g 2,.g 3,.g 4,.o 1] zk (bR λ _ _ h=>h) U (zv G (aQ (gq 5 G) a8 ((wi64 zo zo).trans (by omega:(_:Int)=((j+1:Nat):Int)))) (zv G (ab (vq 0 G)) o0)) zk zk zk (zz [(0,_),(1,_),(3,_),(9,_),(10,_),(11,_)] [O 1 22 _] λ a w U=>?_)
   refine a7 ?_
   have U:=St.sel U [0,1,2,3,4,5]
   rw [← ro hj] at U
   exact ⟨n1-1,by omega,j+1,by omega,U⟩
 ·obtain rfl:j=xs.length:=by have:=qr hb0; omega
  rw [qI] at U
  refine wpIn_exit ?_
  refine ah<|ah<|ay<|a7<|wpIn_seq ?_
  refine bI (sts:=[none]) (news:=[]) (sp:=[.v 30 _,.v 31 _,.v 32 _]) [.g 0,.g 1,.o 1,.o 2] zk (bR λ _ _ h=>h) U (zM 2 G (zv G (ml a8 (vq 0 G) (⟨by omega,by show ((manyF xs:Nat):Int)≤64; omega⟩) (sn hm12)) (zv G (ab a8) o0))) zk zk zk (zz [(0,_),(1,_),(31,_),(32,_)] [O 1 22 _] λ a w U=>?_)
  refine a7<|wpIn_block ?_
  have U:=St.sel U [0,1,2,3]
  refine wpIn_loop_ghost (λ n a w=>∃ (k:Nat) (w0:Bs),(n+k=2^manyF xs∧ItG B gs [22] J k w0)∧St B w0 44 [(0,EqV (.func (.yield l) #[] #[])),(1,EqV (ptr (gs.getD 0 0))),(31,In ((2^manyF xs:Nat):Int)),(32,In (k:Nat))] [⟨1,22,ptrH,SlO 69 [U32] (xs.map LoA) True⟩] a w) (2^manyF xs) ?_ ?_
  ·exact ⟨0,w0,⟨by omega,hG⟩,U⟩
  intro n a w hI
  obtain ⟨k,w0,⟨hn,hG⟩,U⟩:=hI
  refine wpIn_seq ?_
  refine bI (sts:=[none]) (news:=[]) (sp:=[.v 33 _]) [.g 0,.g 1,.g 2,.g 3,.o 0] zk (bR λ _ _ h=>h) U (zv G (aK (gq 3 G) (gq 2 G)) o0) zk zk zk (zz [(0,_),(1,_),(31,_),(32,_),(33,_)] [O 1 22 _] λ a w U=>?_)
  refine a7<|wpIn_seq ?_
  refine eF U (zm 4 G) (λ hb3=>?_) (λ hb3=>?_)
  ·have hk:k<2^manyF xs:=by have:=qt hb3; omega
   refine wpIn_skip ?_
   refine a7<|wpIn_seq ?_
   refine wpIn_block ?_
   refine wpIn_seq ?_
   refine bI (sts:=[none]) (news:=[]) (sp:=[.v 34 _,.v 8 _]) [.g 0,.g 1,.g 2,.g 3,.o 1] zk (bR λ _ _ h=>h) U (zM 3 G (zA 0 G o0)) zk zk zk (zz [(0,_),(1,_),(31,_),(32,_),(8,_)] [O 1 22 _] λ a w U=>?_)
   refine a7<|wpIn_seq ?_
   refine yN (sp:=[.v 35 _,.v 36 _,.v 37 _,.v 38 _,.v 39 _,.v 40 _,.v 41 VT,.v 42 VT]) 6 [0,1,2,3] [(1,0)] (λ b => !b) U (zM 0 G (zM 4 G (zl 0 G ty_22 (zM 4 G (zv G (aI .u64 zk zk (vq 3 G) (wu64 zo)) (zQ G ((CN xs h4 hx (c:=k) zo).wk (.cons slx (.cons aL .nil))) (.p (vq 2 G) (vq 4 G)) o0)))))) G zk zk G G not_op nq zd (vq 0 G) (.p (vq 1 G) (vq 5 G)) hoff hIt hG hk ⟨rfl,⟨_,rfl⟩,trivial⟩ hgl zk zk zk zk (bR λ _ _ h=>h) nq (λ w0 a w hG U hw0=>?_) (λ w0 a w hw0 hJx U=>?_)
   ·have U:=zn [(42,Bo false),(0,_),(1,_),(31,_),(32,_)] [O 1 22 _] U
    refine a7<|eF U (zm 0 G) (λ hb4=>?_) (λ hb4=>?_)
    ·cases hb4
    ·refine wpIn_skip ?_
     refine am ?_
     refine a7<|bI (sts:=[none]) (news:=[]) (sp:=[.v 43 _,.v 32 _]) [.g 1,.g 2,.g 3,.o 1] zk (bR λ _ _ h=>h) U (zv G (aQ (gq 4 G) a8 ((wi64 zo zo).trans (by omega:(_:Int)=((k+1:Nat):Int)))) (zv G (ab (vq 0 G)) o0)) zk zk zk (zz [(0,_),(1,_),(31,_),(32,_)] [O 1 22 _] λ a w U=>?_)
     refine a7 ?_
     have U:=St.sel U [0,1,2,3]
     exact ⟨n-1,by omega,k+1,w0,⟨by omega,hG⟩,U⟩
   ·have U:=zn [(42,Bo true)] [] U
    refine a7<|eF U (zm 0 G) (λ hb5=>?_) (λ hb5=>?_)
    ·refine wpIn_ret ?_
     refine aT ?_
     refine ao ?_
     refine ao ?_
     refine aT ?_
     exact Ge G U hw0 hIt hJx
    ·cases hb5
  ·obtain rfl:k=2^manyF xs:=by have:=qr hb3; omega
   refine wpIn_exit ?_
   exact ah<|ah<|ay<|cc<|Gf (gs:=gs) (ix:=[(1,0)]) G U (Tc:=[22]) ⟨rfl,⟨_,rfl⟩,trivial⟩ hgl hIt hG
theorem lW (hv:v.oneCell'=true):Cn Tryz.prog 33 [EqV v] (NewIt 115 22 v):=by
 refine Cn.intro Tryz.func33 G zk nq (λ B w0 a U=>?_)
 have U:=zn [(0,EqV v)] [] U
 refine qb<|zg [] [⟨1,22,ptrH,some 0,_,none⟩] [.alc 0,.v 2 _] [.o 1] U (oc (DA G G G (Gp hv (gq 0 G))) (zv G (a9 ba) o0)) (zz [(2,_)] [O 1 22 _] λ a w U=>?_)
 refine zt<|zg [η] [] [.v 3 _,.v 2 _] [.o 1] U (zv G (r_mkIt (lz0 0 G)) (zA 0 G o0)) (zz [(2,_)] [O 1 22 _] λ a w U=>?_)
 refine a7<|qe<|aj ?_ (an G U (zm 0 G))
 exact aL
def GnA (x:RGp):As:=cat [RFN x.lo,RFN x.hi]
theorem Dn (B:Nat)(w:World):(RFN rf0).p B [.bool false,.slice none 0 0,.bool false,.slice none 0 0] w:=⟨[[.bool false,.slice none 0 0],[.bool false,.slice none 0 0]],rfl,.cons ⟨[[.bool false],[.slice none 0 0]],rfl,.cons rfl (.cons ⟨(λ x hx=>by cases hx),.inl ⟨rfl,rfl⟩⟩ .nil)⟩ (.cons ⟨[[.bool false],[.slice none 0 0]],rfl,.cons rfl (.cons ⟨(λ x hx=>by cases hx),.inl ⟨rfl,rfl⟩⟩ .nil)⟩ .nil)⟩
theorem rY:Zero Tryz.prog 32 (GnA gp0):=Zero.of (z:=.agg #[.bool false,.slice none 0 0,.bool false,.slice none 0 0,.bool false,.slice none 0 0,.bool false,.slice none 0 0]) zk (λ B w=>⟨[[.bool false,.slice none 0 0,.bool false,.slice none 0 0],[.bool false,.slice none 0 0,.bool false,.slice none 0 0]],rfl,.cons (Dn B w) (.cons (Dn B w) .nil)⟩)
theorem GE (x:RGp):FreeA (GnA x) (GpA x):=bZ (.cons (o9 _) (.cons (o9 _) .nil))
theorem wkA_rfN {x:RF}:WkA (RFN x) (RFA x):=⟨rfl,rfl,λ B cs w h=>(o9 x).2.2 B B cs w (qg _) h⟩
theorem l6 {k:Nat}{q:Rat}(h:bQ k q):WkA (RFN (rfOf q)) (QA k q):=wkA_rfN.trans (uf h.1 h.2)
def loS (f:Nat→Rat):Nat→Rat
 | 0=>0
 | k+1=>if ((((k:Nat):Int)==0) || decide (cmQ (f k) (loS f k)<0))=true then f k else loS f k
def hiS (f:Nat→Rat):Nat→Rat
 | 0=>0
 | k+1=>if ((((k:Nat):Int)==0) || decide (cmQ (f k) (hiS f k)>0))=true then f k else hiS f k
def gpS (f:Nat→Rat)(k:Nat):RGp:=if k=0 then gp0 else ⟨rfOf (loS f k),rfOf (hiS f k)⟩
theorem lo_b {f:Nat→Rat}{b:Nat}(hb:1≤b)(h:∀ k,bQ b (f k)):∀ k,bQ b (loS f k)
 | 0=>⟨qd nq hb,qd nq hb⟩
 | k+1=>by
  unfold loS
  split
  ·exact h k
  ·exact lo_b hb h k
theorem hi_b {f:Nat→Rat}{b:Nat}(hb:1≤b)(h:∀ k,bQ b (f k)):∀ k,bQ b (hiS f k)
 | 0=>⟨qd nq hb,qd nq hb⟩
 | k+1=>by
  unfold hiS
  split
  ·exact h k
  ·exact hi_b hb h k
theorem k_ne {k:Nat}(h:(((k:Nat):Int)==0)=false):k≠0:=λ e=>by subst e; exact absurd h zd
theorem gp_lo {f:Nat→Rat}{k:Nat}(h:(((k:Nat):Int)==0)=false):(gpS f k).lo=rfOf (loS f k):=by unfold gpS; rw [qA (k_ne h)]
theorem gp_hi {f:Nat→Rat}{k:Nat}(h:(((k:Nat):Int)==0)=false):(gpS f k).hi=rfOf (hiS f k):=by unfold gpS; rw [qA (k_ne h)]
theorem DW {f:Nat→Rat}{k:Nat}:(gpS f (k+1)).lo=rfOf (loS f (k+1)):=rfl
theorem DX {f:Nat→Rat}{k:Nat}:(gpS f (k+1)).hi=rfOf (hiS f (k+1)):=rfl
theorem lo_t {f:Nat→Rat}{k:Nat}(h:((((k:Nat):Int)==0) || decide (cmQ (f k) (loS f k)<0))=true):rfOf (f k)=(gpS f (k+1)).lo:=by rw [DW,loS,qC h]
theorem lo_f {f:Nat→Rat}{k:Nat}(h:((((k:Nat):Int)==0) || decide (cmQ (f k) (loS f k)<0))=false):(gpS f k).lo=(gpS f (k+1)).lo:=by
 have h0:(((k:Nat):Int)==0)=false:=(qN.1 h).1
 rw [DW,gp_lo h0,loS,qA (by rw [h]; decide)]
theorem hi_t {f:Nat→Rat}{k:Nat}(h:((((k:Nat):Int)==0) || decide (cmQ (f k) (hiS f k)>0))=true):rfOf (f k)=(gpS f (k+1)).hi:=by rw [DX,hiS,qC h]
theorem hi_f {f:Nat→Rat}{k:Nat}(h:((((k:Nat):Int)==0) || decide (cmQ (f k) (hiS f k)>0))=false):(gpS f k).hi=(gpS f (k+1)).hi:=by
 have h0:(((k:Nat):Int)==0)=false:=(qN.1 h).1
 rw [DX,gp_hi h0,hiS,qA (by rw [h]; decide)]
theorem cmp_lo {f:Nat→Rat}{k:Nat}(hf:∀ k,bQ 33562627 (f k))(h:(((k:Nat):Int)==0)=false):Cn Tryz.prog 35 [(RFN (rfOf (f k))).va,(RFN (gpS f k).lo).va] (In (cmQ (f k) (loS f k))):=by
 rw [gp_lo h]
 exact (Aq (c:=33562627) (d:=33562627) zd).wk (.cons (l6 (hf k)).va (.cons (l6 (lo_b zd hf k)).va .nil))
theorem cmp_hi {f:Nat→Rat}{k:Nat}(hf:∀ k,bQ 33562627 (f k))(h:(((k:Nat):Int)==0)=false):Cn Tryz.prog 35 [(RFN (rfOf (f k))).va,(RFN (gpS f k).hi).va] (In (cmQ (f k) (hiS f k))):=by
 rw [gp_hi h]
 exact (Aq (c:=33562627) (d:=33562627) zd).wk (.cons (l6 (hf k)).va (.cons (l6 (hi_b zd hf k)).va .nil))
theorem H6 {x:Rat}(h:bQ 33562627 x):Cn Tryz.prog 110 [(RFN (rfOf x)).va] (RFN (rfOf x)).va :=
 ((oz (c:=33562627) zd).wk (.cons (l6 h).va .nil)).wkp qd_rfn.va
theorem cmp_le {x y:Rat}:cmQ x y≤0↔x≤y:=by
 unfold cmQ
 split
 ·rename_i h; exact ⟨λ _=>by grind,λ _=>by decide⟩
 ·split
  ·rename_i h1 h2; exact ⟨λ h=>absurd h zd,λ h=>by grind⟩
  ·exact ⟨λ _=>by grind,λ _=>by decide⟩
theorem y7 {g:RGp}(h:mayG g=true):toQ g.lo≤toQ g.hi:=by
 unfold mayG at h
 rw [qj] at h
 exact cmp_le.1 (qt h.2)
theorem G5 {x:RLo}(h:loF x=true):elF ⟨x.k,x.p.lo,x.q.lo⟩=true∧elF ⟨x.k,x.p.hi,x.q.hi⟩=true∧mayG x.p=true∧mayG x.q=true:=by
 unfold loF at h
 rw [qj,qj,xh] at h
 have h2:=(ch_ok h.2).2
 simp only [xr,xP,xR,qj] at h2
 exact ⟨h2.1,h2.2,h.1.1,h.1.2⟩
theorem vX (q:Rat):(0<q.num.sign↔0<q)∧(0≤q.num.sign↔0≤q)∧(q.num.sign=0↔q=0):=by
 have h0:0≤q.num↔0≤q:=Rat.num_nonneg
 have h1:q.num=0↔q=0:=vi
 have h2:(0:Int)<q.num↔0<q:=by
  constructor
  ·intro h
   have a:=h0.1 zo
   have b:q≠0:=λ e=>by have:=h1.2 e; omega
   grind
  ·intro h
   have a:=h0.2 (by grind)
   have b:q.num≠0:=λ e=>by have:=h1.1 e; grind
   omega
 refine ⟨?_,?_,?_⟩
 ·rw [← h2]
  constructor
  ·intro h
   rcases xH q.num 0 with hh | hh | hh
   ·rw [zZ hh] at h; exact absurd h zd
   ·rw [hh] at h; exact absurd h zd
   ·exact hh
  ·intro h
   rw [xc h]; decide
 ·rw [← h0]
  constructor
  ·intro h
   rcases xH q.num 0 with hh | hh | hh
   ·rw [zZ hh] at h; exact absurd h zd
   ·omega
   ·omega
  ·intro h
   rcases xH q.num 0 with hh | hh | hh
   ·omega
   ·rw [hh]; decide
   ·rw [xc hh]; decide
 ·rw [← h1,Int.sign_eq_zero_iff_zero]
def kOk (k:Int)(p q:Rat):Prop:=(k=1∧0≤p∧q=0)∨(k=2∧q=0)∨(k=3∧0≤p∧0<q)∨k=4∨(k=5∧p=0∧q=0)
theorem GS {k:Int}{p q:Rat}:elK k p.num.sign q.num.sign=true↔kOk k p q:=by
 have hp:=vX p
 have hq:=vX q
 unfold kOk
 rw [← hp.2.1,← hp.2.2,← hq.1,← hq.2.2]
 by_cases h1:k=1
 ·subst h1
  rw [kd1 (by rfl)]
  simp
 ·by_cases h2:k=2
  ·subst h2
   rw [kd2 (by rfl) (by rfl)]
   simp
  ·by_cases h3:k=3
   ·subst h3
    rw [kd3 (by rfl) (by rfl) (by rfl)]
    simp
   ·by_cases h4:k=4
    ·subst h4
     rw [kd4 (by rfl) (by rfl) (by rfl) (by rfl)]
     simp
    ·rw [kd5 (by simpa using h1) (by simpa using h2) (by simpa using h3) (by simpa using h4)]
     simp [h1,h2,h3,h4,and_assoc]
theorem elF_iff {x:RE}:elF x=true↔okX x.p=true∧okX x.q=true∧kOk x.k (toQ x.p) (toQ x.q):=by
 unfold elF
 simp only [xr,xP,xR,qj,GS,and_assoc]
theorem k_mid {k:Int}{p0 p1 q0 q1 p q:Rat}(h0:kOk k p0 q0)(h1:kOk k p1 q1)(hp:p0≤p∧p≤p1)(hq:q0≤q∧q≤q1):kOk k p q:=by
 unfold kOk at *
 rcases h0 with ⟨e,a,b⟩ | ⟨e,a⟩ | ⟨e,a,b⟩ | e | ⟨e,a,b⟩
 ·rcases h1 with ⟨_,c,d⟩ | ⟨e2,_⟩ | ⟨e2,_⟩ | e2 | ⟨e2,_⟩
  ·exact .inl ⟨e,by grind,by grind⟩
  all_goals omega
 ·rcases h1 with ⟨e2,_⟩ | ⟨e2,d⟩ | ⟨e2,_⟩ | e2 | ⟨e2,_⟩
  ·omega
  ·exact .inr (.inl ⟨e,by grind⟩)
  all_goals omega
 ·exact .inr (.inr (.inl ⟨e,by grind,by grind⟩))
 ·exact .inr (.inr (.inr (.inl e)))
 ·rcases h1 with ⟨e2,_⟩ | ⟨e2,_⟩ | ⟨e2,_⟩ | e2 | ⟨e2,c,d⟩
  ·omega
  ·omega
  ·omega
  ·omega
  ·exact .inr (.inr (.inr (.inr ⟨e,by grind,by grind⟩)))
theorem pz {x:RLo}{p q:RF}(h:loF x=true)(hp:okX p=true)(hq:okX q=true)(bp:toQ x.p.lo≤toQ p∧toQ p≤toQ x.p.hi)(bq:toQ x.q.lo≤toQ q∧toQ q≤toQ x.q.hi):elF ⟨x.k,p,q⟩=true:=by
 obtain ⟨h1,h2,_,_⟩:=G5 h
 exact elF_iff.2 ⟨hp,hq,k_mid (elF_iff.1 h1).2.2 (elF_iff.1 h2).2.2 bp bq⟩
theorem E1 {g:RGp}(h:mayG g=true)(c:Nat):okX (endF g c).1=true∧toQ g.lo≤toQ (endF g c).1∧toQ (endF g c).1≤toQ g.hi:=by
 have h2:=ok_2 (nJ h)
 have hl:=y7 h
 unfold endF
 split
 ·exact ⟨h2.1,by grind,hl⟩
 ·split
  ·exact ⟨h2.2,hl,by grind⟩
  ·exact ⟨h2.1,by grind,hl⟩
theorem cst_ok {x:RLo}(h:loF x=true)(c:Nat):elF (cst x c).1=true:=by
 obtain ⟨_,_,hp,hq⟩:=G5 h
 have a:=E1 hp c
 have b:=E1 hq (endF x.p c).2
 exact pz h a.1 b.1 a.2 b.2
theorem E9:∀ (xs:List RLo) (s:List RE × Nat),xs.all loF=true→s.1.all elF=true→(cnS s xs).1.all elF=true
 | [],s,_,h=>h
 | x::xs,s,h,hs=>by
  rw [xr,qj] at h
  exact E9 xs _ h.2 (by rw [j7,hs]; simp [cst_ok h.1])
theorem ip {xs:List RLo}(h:xs.all loF=true)(c:Nat):(cnF xs c).all elF=true:=E9 xs _ h rfl
theorem fb (xs:List RLo)(c:Nat):(cnF xs c).length=xs.length:=by unfold cnF; rw [oA]; simp
theorem oB {xs:List RLo}(h4:xs.length≤4096)(h:xs.all loF=true)(c:Nat):RepM 16781313 (prodQ (cnF xs c)):=by
 have:=iF (ip h c) (cnF xs c).length (qg _)
 rw [qI] at this
 exact gf this (by rw [fb]; omega)
def trQ' (m:MQ):Rat:=m.a+m.d
def pwQ' (m:MQ):Rat := -m.c
theorem tr_b' {m:MQ}(h:RepM 16781313 m):bQ 33562627 (trQ' m):=by
 obtain ⟨a,_,_,d⟩:=wn h
 exact bQ_add a d
theorem pw_b' {m:MQ}(h:RepM 16781313 m):bQ 33562627 (pwQ' m):=by
 obtain ⟨_,_,c,_⟩:=wn h
 unfold pwQ'
 exact ⟨by rw [j4,eU]; exact qd c.1 zd,by rw [j5]; exact qd c.2 zd⟩
theorem Fy {c d:Nat}{x y:Rat}(hc:c+d≤137438953472):Cn Tryz.prog 111 [Qs c x,Qs d y] (RFN (rfOf (x+y))).va:=(Fz hc).wkp qd_rfn.va
theorem vz {c:Nat}{x:Rat}(hc:c≤137438953472):Cn Tryz.prog 112 [Qs c x] (RFN (rfOf (-x))).va:=(vB hc).wkp qd_rfn.va
theorem wh {xs:List RLo}(h4:xs.length≤4096)(hx:xs.all loF=true)(k:Nat):Cn Tryz.prog 34 [(LsC 92 9 [U32] ((cnF xs k).map REN)).va] (QMA 16781313 (prodQ (cnF xs k))).va :=
 (pZ (by rw [fb]; exact h4) (ip hx k)).wk (.cons (bO yc (bO ya (vO (iJ λ x=>wq) (cz (p:=λ A=>∀ T∈A.deps,T∈[U32]) λ x=>iH zk)).va)) .nil)
def trsQ (m:MQ):Rat:=(m.a+m.d)*(m.a+m.d)
theorem as_noT {c:Prop}[Decidable c](h:((if c then (4:Int) else 0) != 0)=false):¬ c:=λ hc=>by rw [qC hc] at h; simp at h
theorem Hp {c:Prop}[Decidable c](h:((if c then (4:Int) else 0) != 0)=true):c:=Decidable.byContradiction λ hc=>by rw [qA hc] at h; simp at h
theorem HJ (v:Value):Up (EqA v).va (EqA v).va:=UpA.va ⟨rfl,rfl,λ _ _ _ _ h=>h⟩
abbrev aF (ask:MQ→Rat)(xs:List RLo):Nat→Rat:=λ k=>ask (prodQ (cnF xs k))
def gapF (ask:MQ→Rat)(xs:List RLo):RGp × Int:=if tchF xs=0 then (if [loS (aF ask xs) (2^manyF xs),hiS (aF ask xs) (2^manyF xs)].any longQ then (gp0,4) else (⟨rfOf (loS (aF ask xs) (2^manyF xs)),rfOf (hiS (aF ask xs) (2^manyF xs))⟩,0)) else (gp0,tchF xs)
theorem fY {xs:List RLo}(h:tchF xs=0):xs.length≤4096∧xs.all loF=true∧manyF xs≤12:=by
 unfold tchF at h
 split at h
 ·exact absurd h zd
 ·split at h
  ·split at h
   ·exact absurd h zd
   ·rename_i h1 h2 h3; exact ⟨by omega,h2,by omega⟩
  ·exact absurd h zd
theorem pow_pos' (m:Nat):2^m≠0:=Nat.ne_of_gt (jD m)
theorem gp_qa {f:Nat→Rat}{m:Nat}(hf:∀ k,bQ 33562627 (f k)):WkA (GpA (gpS f (2^m))) (cat [QA 33562627 (loS f (2^m)),QA 33562627 (hiS f (2^m))]):=by
 have e:gpS f (2^m)=⟨rfOf (loS f (2^m)),rfOf (hiS f (2^m))⟩:=qA (pow_pos' m)
 rw [e]
 exact bz (.cons (uf (lo_b zd hf _).1 (lo_b zd hf _).2) (.cons (uf (hi_b zd hf _).1 (hi_b zd hf _).2) .nil))
theorem gp_a {c d:Nat}{x y:Rat}:WkA (cat [QA c x,QA d y]) (GpA ⟨rfOf x,rfOf y⟩):=bz (.cons qaA (.cons qaA .nil))
abbrev GpR (r:RGp × Int):VA:=Tu [(GpA r.1).va,In r.2]
theorem mX {m:MQ}:Cn Tryz.prog 30 [(QMA 16781313 m).va] ((RFN (rfOf (trQ' m))).va):=by
 refine Cn.intro Tryz.func30 G zk nq (λ B w0 a U=>?_)
 have U:=zn [(0,(QMA 16781313 m).va)] [] U
 refine qb<|zg [] [⟨1,80,ptrH,some 0,_,none⟩,⟨2,30,ptrH,some 1,_,none⟩] [.alc 0,.alc 1] [] U (zW 0 G (zY G (Str.zero az) o0)) (zz [] [O 1 80 _,O 2 30 _] λ a w U=>?_)
 refine zt<|zg [η,some (5,_)] [] [.adr 3 1 (.some 0) True,.v 4 _,.adr 5 1 (.some 12) True,.v 6 _,.v 7 _,.sto 1] [] U (zO 0 G cL (zL 0 0 0 G ak (zO 0 G cJ (zL 2 0 3 G ak (zQ G (Fy zd) (.p (vq 1 G) (vq 3 G)) (zS 4 G ak o0)))))) (zz [] [O 1 80 _,O 2 30 _] λ a w U=>?_)
 refine a7<|qe<|aj ?_ (ap G U (zm 1 G) ak)
 exact aL
theorem B2 {m:MQ}:Cn Tryz.prog 31 [(QMA 16781313 m).va] ((RFN (rfOf (pwQ' m))).va):=by
 refine Cn.intro Tryz.func31 G zk nq (λ B w0 a U=>?_)
 have U:=zn [(0,(QMA 16781313 m).va)] [] U
 refine qb<|zg [] [⟨1,80,ptrH,some 0,_,none⟩,⟨2,30,ptrH,some 1,_,none⟩] [.alc 0,.alc 1] [] U (zW 0 G (zY G (Str.zero az) o0)) (zz [] [O 1 80 _,O 2 30 _] λ a w U=>?_)
 refine zt<|zg [η,some (3,_)] [] [.adr 3 1 (.some 8) True,.v 4 _,.v 5 _,.sto 1] [] U (zO 0 G cB (zL 0 0 2 G ak (zQ G (vz zd) (.o (vq 1 G)) (zS 2 G ak o0)))) (zz [] [O 1 80 _,O 2 30 _] λ a w U=>?_)
 refine a7<|qe<|aj ?_ (ap G U (zm 1 G) ak)
 exact aL
set_option maxHeartbeats 2000000 in
theorem ends_c {fq:FuncId}{ask:MQ→Rat}(xs:List RLo)(h4:xs.length≤4096)(hx:xs.all loF=true)(hm12:manyF xs≤12)(hask:∀ m,Cn Tryz.prog fq [(QMA 16781313 m).va] (RFN (rfOf (ask m))).va)(hfb:∀ k,bQ 33562627 (aF ask xs k)):Cn Tryz.prog 108 [(SlA 69 [U32] (xs.map LoA)).va,(EqA (.func (.func fq) #[] #[])).va] ((GpA (gpS (aF ask xs) (2^manyF xs))).va):=by
 refine Cn.introR Tryz.func108 rfl zk nq (.cons (ir (λ A hA=>by obtain ⟨x,_,rfl⟩:=qm.1 hA; exact eH x)).va (.cons (HJ _) .nil)) (GE _).va (λ B w0 a hB0 hN0 U=>?_)
 have U:=zn [(0,(SlO 69 [U32] (xs.map LoA) True).va),(1,(EqA (.func (.func fq) #[] #[])).va)] [] U
 refine qb<|zg [] [⟨3,74,ptrH,some 0,_,none⟩,⟨4,32,ptrH,some 1,_,none⟩] [.alc 0,.alc 1] [.g 0] U (zW 1 G (zY G rY o0)) (zz [(0,_)] [O 3 74 _,O 4 32 _] λ a w U=>?_)
 refine zt<|zg [η,η] [⟨5,32,ptrH,some 0,_,none⟩] [.alc 2] [.g 0] U (zY G rY o0) (zz [(0,_)] [O 3 74 _,O 4 32 _,O 5 32 _] λ a w U=>?_)
 refine zt<|qb ?_
 have U:=St.cvA (A':=cat [RFN (gpS (aF ask xs) 0).lo,RFN (gpS (aF ask xs) 0).hi]) U 2 rfl rfl
 obtain ⟨q3,U⟩:=St.nm U 0 rfl
 obtain ⟨q4,U⟩:=St.nm U 1 rfl
 obtain ⟨q5,U⟩:=St.nm U 2 rfl
 refine zg [η,η,η] [] [.v 9 _,.v 10 _] [.g 0,.g 1,.g 2,.o 1] U (zM 3 G (zv G (nn [(3,q3),(4,q4),(5,q5)] G (λ v hv=>lW hv) (vq 0 G) (.cons (gq 2 G) (lz0 0 G) (.cons (gq 1 G) (lz0 1 G) (.cons (gq 0 G) (lz0 2 G) .nil)))) o0)) (zz [(5,_),(4,_),(3,_),(10,_)] [O 3 74 _,O 4 32 _,O 5 32 _] λ a w U=>?_)
 obtain ⟨gb,U,hds⟩:=St.itn (ps:=[(3,q3),(4,q4),(5,q5)]) 3 [2,1,0] U rfl ⟨rfl,⟨rfl,⟨rfl,trivial⟩⟩⟩
 have hdis:∀ s∈[3,4,5],∀ g,blk (a.eval (.tmp s))=some g→g ∉ gb:=hds
 refine a7<|ql ?_
 have U:=St.selL U [0,1,2]
 refine nZ (k0:=3) (gb:=gb) (Dd:=[U32]) (Db:=[74,32]) (λ k=>[⟨3,74,ptrH,EqA (.func (.func fq) #[] #[])⟩,⟨4,32,ptrH,GnA gp0⟩,⟨5,32,ptrH,cat [RFN (gpS (aF ask xs) k).lo,RFN (gpS (aF ask xs) k).hi]⟩]) none (λ _=>none) U hB0 hN0 rfl (i7 xs h4 hx hm12 gb) (M:=(2^manyF xs)) (Y:=λ k=>[In ((k:Nat):Int),(LsC 92 9 [U32] ((cnF xs k).map REN)).va]) (λ h=>by cases h) zk [] zk (λ _=>by kernel_rfl) [3,4,5] (λ _=>by kernel_rfl) hdis (λ L hL=>by cases hL) (λ _ L hL=>by cases hL) (λ _=>rfl) zd zk (λ l k a1 Ws hk hBs hct U=>?_) (λ a w U=>?_) (λ L hL=>by cases hL) (λ _ L hL=>by cases hL)
 ·obtain ⟨a0,rfl⟩:∃ x,x=a:=⟨_,rfl⟩
  have U:St B (rndB B [74,32] gb Ws Ws) 41 [(11,_),(12,_),(3,_),(4,_),(5,_)] [⟨3,74,ptrH,EqA (.func (.func fq) #[] #[])⟩,⟨4,32,ptrH,GnA gp0⟩,⟨5,32,ptrH,cat [RFN (gpS (aF ask xs) k).lo,RFN (gpS (aF ask xs) k).hi]⟩] a1 Ws:=U
  refine wpIn_seq ?_
  refine bI (sts:=[none,none,none]) (news:=[]) (sp:=[.v 6 _]) [.g 0,.g 1,.g 2,.g 3,.g 4,.o 0] zk (bR λ _ _ h=>h) U (zv G (a9 (gq 0 G)) o0) zk zk zk (λ a w U=>?_)
  have U:St B (rndB B [74,32] gb Ws Ws) 41 [(11,_),(12,_),(3,_),(4,_),(5,_),(6,_)] [O 3 74 _,O 4 32 _,O 5 32 _] a w:=U
  refine a7<|bI (sts:=[none,none,none]) (news:=[]) (sp:=[.v 7 _]) [.g 0,.g 1,.g 2,.g 3,.g 4,.g 5,.o 0] zk (bR λ _ _ h=>h) U (zv G (a9 (gq 1 G)) o0) zk zk zk (λ a w U=>?_)
  have U:St B (rndB B [74,32] gb Ws Ws) 41 [(11,_),(12,_),(3,_),(4,_),(5,_),(6,_),(7,_)] [O 3 74 _,O 4 32 _,O 5 32 _] a w:=U
  refine a7<|⟨U.base,λ W3 hbg=>?_⟩
  have U:=St.begin U (qg _) hBs hbg
  refine wpIn_block ?_
  refine wpIn_seq ?_
  refine o5 (anc:=[[],[],[1],[0,1,2],[],[0,1,2,3,4]]) (sts:=[none,none,none]) (news:=[⟨8,30,ptrH,some 4,_,some (5,_)⟩]) (sp:=[.v 13 _,.v 14 _,.v 15 _,.v 16 _,.alc 3,.sto 3]) [.g 0,.g 1,.g 2,.g 3,.g 4,.g 5] aa zk (bR λ _ _ h=>h) U (zl 0 G ty_74 (zM 6 G (zQ G (wh h4 hx k) (.o (vq 1 G)) (zv G (Fs (hask (prodQ (cnF xs k))) (vq 0 G) (.o (vq 2 G))) (zY G (Str.zero az) (zS 3 G ak o0)))))) zk zk zk zk (λ a w U=>?_)
  have U:St B (rndB B [74,32] gb Ws W3) 41 [(11,_),(12,_),(3,_),(4,_),(5,_),(6,_)] [O 3 74 _,O 4 32 _,O 5 32 _,O 8 30 _] a w:=U
  refine a7<|wpIn_seq ?_
  refine wpIn_seq ?_
  refine bI (sts:=[none,none,none,none]) (news:=[]) (sp:=[.v 17 _,.v 18 _,.v 19 _,.f 20 _,.adr 21 5 (.some 0) (_=false),.f 22 _,.f 23 _,.f 24 _,.v 25 _]) [.g 0,.g 1,.g 2,.g 3,.g 4,.g 5,.o 8] zk (bR λ _ _ h=>h) U (zM 5 G (zv G (bF (vq 0 G) a8) (zv G (ab (vq 1 G)) (zB 2 G (λ hg=>cC (lz0 3 G) ak) (zC 2 2 G bg (zB 2 G (λ hg=>ax 4 G zk hg (lz0 2 G) (Sub.part 0 G G) ak) (zB 2 G (λ hg=>aX (cmp_lo (f:=(aF ask xs)) hfb hg) (.p (ac (vq 3 G) hg) (ac (vq 5 G) hg))) (zB 2 G (λ hg=>aK (ac (vq 6 G) hg) a8) (zv G (r_or (vq 2 G) (vq 7 G)) o0))))))))) zk zk zk (λ a w U=>?_)
  have U:St B (rndB B [74,32] gb Ws W3) 41 [(11,_),(12,_),(3,_),(4,_),(5,_),(6,_),(25,_)] [O 3 74 _,O 4 32 _,O 5 32 _,O 8 30 _] a w:=U
  refine a7<|fB (λ a w =>  St B (rndB B [74,32] gb Ws W3) 41 [(6,In ((k:Nat):Int)),(3,EqV (a0.eval (.tmp 3))),(4,EqV (a0.eval (.tmp 4))),(5,EqV (a0.eval (.tmp 5)))] [⟨3,74,ptrH,EqA (.func (.func fq) #[] #[])⟩,⟨4,32,ptrH,GnA gp0⟩,⟨5,32,ptrH,cat [RFN (gpS (aF ask xs) (k+1)).lo,RFN (gpS (aF ask xs) k).hi]⟩,⟨8,30,ptrH,RFN (rfOf (aF ask xs k))⟩] a w) U (zm 6 G) (λ hb0=>?_) (λ hb0=>?_) (λ a w U=>?_)
  ·refine bI (sts:=[none,none,some (2,_),none]) (news:=[]) (sp:=[.v 26 _,.adr 27 5 (.some 0) True,.sto 2]) [.g 0,.g 1,.g 2,.g 3,.g 4,.g 5] zk (bR λ _ _ h=>h) U (zl 3 G ak (zO 2 G bg (oc (dc 1 G G G G zk (vq 0 G) ak (Put.part 0 G G G)) o0))) zk zk zk (λ a w U=>?_)
   have U:St B (rndB B [74,32] gb Ws W3) 41 [(11,_),(12,_),(3,_),(4,_),(5,_),(6,_)] [O 3 74 _,O 4 32 _,O 5 32 _,O 8 30 _] a w:=U
   refine a7 ?_
   have U:=St.sel U [5,2,3,4]
   have U:=St.cvA (A':=cat [RFN (gpS (aF ask xs) (k+1)).lo,RFN (gpS (aF ask xs) k).hi]) U 2 rfl (qk (λ z=>cat [RFN z,RFN (gpS (aF ask xs) k).hi]) (lo_t (f:=(aF ask xs)) hb0))
   exact U
  ·refine wpIn_skip ?_
   refine a7 ?_
   have U:=St.sel U [5,2,3,4]
   have U:=St.cvA (A':=cat [RFN (gpS (aF ask xs) (k+1)).lo,RFN (gpS (aF ask xs) k).hi]) U 2 rfl (qk (λ z=>cat [RFN z,RFN (gpS (aF ask xs) k).hi]) (lo_f (f:=(aF ask xs)) hb0))
   exact U
  refine a7<|wpIn_seq ?_
  refine bI (sts:=[none,none,none,none]) (news:=[]) (sp:=[.v 28 _,.v 29 _,.v 30 _,.f 31 _,.adr 32 5 (.some 4) (_=false),.f 33 _,.f 34 _,.f 35 _,.v 36 _]) [.g 1,.g 2,.g 3,.o 8] zk (bR λ _ _ h=>h) U (zM 0 G (zv G (bF (vq 0 G) a8) (zv G (ab (vq 1 G)) (zB 2 G (λ hg=>cC (lz0 3 G) ak) (zC 2 2 G bi (zB 2 G (λ hg=>ax 4 G zk hg (lz0 2 G) (Sub.part 1 G G) ak) (zB 2 G (λ hg=>aX (cmp_hi (f:=(aF ask xs)) hfb hg) (.p (ac (vq 3 G) hg) (ac (vq 5 G) hg))) (zB 2 G (λ hg=>cP (ac (vq 6 G) hg) a8) (zv G (r_or (vq 2 G) (vq 7 G)) o0))))))))) zk zk zk (λ a w U=>?_)
  have U:St B (rndB B [74,32] gb Ws W3) 41 [(3,_),(4,_),(5,_),(36,_)] [O 3 74 _,O 4 32 _,O 5 32 _,O 8 30 _] a w:=U
  refine a7<|fB (λ a w =>  St B (rndB B [74,32] gb Ws W3) 41 [(3,EqV (a0.eval (.tmp 3))),(4,EqV (a0.eval (.tmp 4))),(5,EqV (a0.eval (.tmp 5)))] [⟨3,74,ptrH,EqA (.func (.func fq) #[] #[])⟩,⟨4,32,ptrH,GnA gp0⟩,⟨5,32,ptrH,cat [RFN (gpS (aF ask xs) (k+1)).lo,RFN (gpS (aF ask xs) (k+1)).hi]⟩,⟨8,30,ptrH,RFN (rfOf (aF ask xs k))⟩] a w) U (zm 3 G) (λ hb1=>?_) (λ hb1=>?_) (λ a w U=>?_)
  ·refine bI (sts:=[none,none,some (3,_),none]) (news:=[]) (sp:=[.v 37 _,.v 38 _,.adr 39 5 (.some 4) True,.sto 2]) [.g 0,.g 1,.g 2] zk (bR λ _ _ h=>h) U (zl 3 G ak (zQ G (H6 (hfb k)) (.o (vq 0 G)) (zO 2 G bi (oc (dc 2 G G G G zk (vq 1 G) ak (Put.part 1 G G G)) o0)))) zk zk zk (λ a w U=>?_)
   have U:St B (rndB B [74,32] gb Ws W3) 41 [(3,_),(4,_),(5,_)] [O 3 74 _,O 4 32 _,O 5 32 _,O 8 30 _] a w:=U
   refine a7 ?_
   have U:=St.sel U [0,1,2]
   have U:=St.cvA (A':=cat [RFN (gpS (aF ask xs) (k+1)).lo,RFN (gpS (aF ask xs) (k+1)).hi]) U 2 rfl (qk (λ z=>cat [RFN (gpS (aF ask xs) (k+1)).lo,RFN z]) (hi_t (f:=(aF ask xs)) hb1))
   exact U
  ·refine wpIn_skip ?_
   refine a7 ?_
   have U:=St.sel U [0,1,2]
   have U:=St.cvA (A':=cat [RFN (gpS (aF ask xs) (k+1)).lo,RFN (gpS (aF ask xs) (k+1)).hi]) U 2 rfl (qk (λ z=>cat [RFN (gpS (aF ask xs) (k+1)).lo,RFN z]) (hi_f (f:=(aF ask xs)) hb1))
   exact U
  refine am ?_
  have U:=St.selL U [0,1,2]
  exact ⟨(λ h=>by cases h),nh [0,1,2] U ⟨rfl,⟨rfl,⟨rfl,trivial⟩⟩⟩⟩
 ·have U:=zn [] [O 3 74 _,O 4 32 _,O 5 32 _] U
  refine am ?_
  refine zt<|zg [η,some (1,_),η] [] [.v 40 _,.sto 1] [] U (zl 2 G b9 (zS 0 G b9 o0)) (zz [] [O 3 74 _,O 4 32 _,O 5 32 _] λ a w U=>?_)
  refine a7<|qe<|aj ?_ (ap G U (zm 1 G) b9)
  exact aL
def GpD (x:RGp):As:=DisA (GnA x)
abbrev GpRD (r:RGp × Int):VA:=Tu [(GpD r.1).va,In r.2]
theorem g7:Str Tryz.prog 32 [cat [NilI,NilI],cat [NilI,NilI]] :=
 Str.of (z:=.agg #[.bool false,.slice none 0 0,.bool false,.slice none 0 0,.bool false,.slice none 0 0,.bool false,.slice none 0 0]) zk Tryz.underlying32 zk λ B w=>⟨[[.bool false,.slice none 0 0,.bool false,.slice none 0 0],[.bool false,.slice none 0 0,.bool false,.slice none 0 0]],rfl,.cons ⟨[[.bool false,.slice none 0 0],[.bool false,.slice none 0 0]],rfl,.cons ⟨[[.bool false],[.slice none 0 0]],rfl,.cons rfl (.cons rfl .nil)⟩ (.cons ⟨[[.bool false],[.slice none 0 0]],rfl,.cons rfl (.cons rfl .nil)⟩ .nil)⟩ (.cons ⟨[[.bool false,.slice none 0 0],[.bool false,.slice none 0 0]],rfl,.cons ⟨[[.bool false],[.slice none 0 0]],rfl,.cons rfl (.cons rfl .nil)⟩ (.cons ⟨[[.bool false],[.slice none 0 0]],rfl,.cons rfl (.cons rfl .nil)⟩ .nil)⟩ .nil)⟩
theorem zgp_d:WkA (cat [cat [NilI,NilI],cat [NilI,NilI]]) (GpD gp0):=⟨rfl,rfl,λ B cs w ⟨ps,e,hq⟩=>by
 cases hq with
 | @cons _ c0 _ _ h0 hq=>cases hq with
  | @cons _ c1 _ _ h1 hq =>
   cases hq
   refine ⟨⟨[c0,c1],e,.cons (zf_rfd.2.2 _ _ _ h0).1 (.cons (zf_rfd.2.2 _ _ _ h1).1 .nil)⟩,?_⟩
   rw [e,lA h0,lA h1]
   exact xK⟩
theorem gprd_r {r:RGp × Int}:Wk (GpRD r) (GpR r):=tu2w (dis_wk.trans (show WkA (GnA r.1) (GpA r.1) from bz (.cons wkA_rfN (.cons wkA_rfN .nil)))).va aL
theorem gp_pins {u v:Value}{c d:Nat}{x y:Rat}:WkA (cat [PinA u ((QD c x).and (SepAll [] u)),PinA v ((QD d y).and (SepAll [u] v))]) (GpD ⟨rfOf x,rfOf y⟩) :=
 (tw (l:=[(u,QD c x),(v,QD d y)]) (λ y hy=>by
  simp at hy
  rcases hy with rfl | rfl <;> exact sM)).trans (gA (bz (.cons qd_rfn (.cons qd_rfn .nil))))
theorem gap_c {fq:FuncId}{ask:MQ→Rat}(xs:List RLo)(hask:∀ m,Cn Tryz.prog fq [(QMA 16781313 m).va] (RFN (rfOf (ask m))).va)(hfb0:xs.length≤4096→xs.all loF=true→∀ k,bQ 33562627 (aF ask xs k)):Cn Tryz.prog 29 [(SlA 69 [U32] (xs.map LoA)).va,(EqA (.func (.func fq) #[] #[])).va] (GpRD (gapF ask xs)):=by
 refine Cn.intro Tryz.func29 G zk nq (λ B w0 a U=>?_)
 have U:=zn [(0,(SlA 69 [U32] (xs.map LoA)).va),(1,(EqA (.func (.func fq) #[] #[])).va)] [] U
 refine qb<|zg [] [⟨4,32,ptrH,some 0,_,none⟩] [.alc 0,.v 5 _] [.g 0,.g 1,.o 1] U (zY G (Str.zero g7) (zv G (a9 a8) o0)) (zz [(0,_),(1,_),(5,_)] [O 4 32 _] λ a w U=>?_)
 refine zt<|qb<|zg [η] [] [.v 9 _,.v 10 _,.v 6 _] [.g 0,.g 1,.g 2,.o 2] U (zM 0 G (zQ G (fh xs) (.o (vq 0 G)) (zA 1 G o0))) (zz [(0,_),(1,_),(5,_),(6,_)] [O 4 32 _] λ a w U=>?_)
 refine zt<|zg [η] [] [.v 11 _,.v 12 _] [.g 0,.g 1,.g 2,.g 3,.o 1] U (zM 3 G (zv G (ci (vq 0 G) a8) o0)) (zz [(0,_),(1,_),(5,_),(6,_),(12,_)] [O 4 32 _] λ a w U=>?_)
 refine a7<|ae U (zm 4 G) (λ hb0=>?_) (λ hb0=>?_)
 ·have hc:¬ tchF xs=0:=by simpa using hb0
  refine qb<|zg [some (2,_)] [] [.v 13 _,.v 14 _,.sto 0,.v 5 _] [.g 0,.g 1,.o 3] U (zv G (aO (qs:=[]) g7 .nil) (zM 3 G (zS 0 G b9 (zA 1 G o0)))) (zz [(0,_),(1,_),(5,_)] [O 4 32 _] λ a w U=>?_)
  refine a7<|qe<|ao ?_
  refine aj ?_ (aE (rs:=[.cell 4 32,.tmp 5]) G U (.cell (zm 0 G) b9 (.tmp (zm 2 G) .nil)) zd)
  rw [gapF,qA hc]; exact tu2w zgp_d.va aL
 ·have hc:tchF xs=0:=by simpa using hb0
  have hk:=fY hc
  have hfb:=hfb0 hk.1 hk.2.1
  refine qh<|zt<|zg [η] [⟨7,32,ptrH,some 3,_,some (4,_)⟩] [.v 15 _,.v 16 _,.v 17 _,.alc 1,.sto 1] [.g 2] U (zM 0 G (zM 1 G (zQ G (ends_c xs hk.1 hk.2.1 hk.2.2 hask hfb) (.p (vq 0 G) (vq 1 G)) (zY G (Str.zero g7) (zS 2 G b9 o0))))) (zz [(5,_)] [O 4 32 _,O 7 32 _] λ a w U=>?_)
  have U:=St.wkL (A':=cat [QA 33562627 (loS (aF ask xs) (2^manyF xs)),QA 33562627 (hiS (aF ask xs) (2^manyF xs))]) U 1 rfl (gp_qa hfb)
  refine zt<|qb<|zg [η,η] [] [.adr 18 7 (.some 0) True,.v 19 _,.adr 20 7 (.some 4) True,.v 21 _,.v 22 _,.v 23 _,.v 8 _] [.g 0,.o 6] U (zO 1 G bg (zL 0 1 0 G ak (zO 1 G bi (zL 2 1 1 G ak (zv G (cq (D:=[U32]) (l:=[_,_]) (xs:=[.tmp 19,.tmp 21]) (dV zk) eI zk (n_ok zk) nq nq nq (.p (vq 1 G) (vq 3 G)) G G) (zQ G (tN [loS (aF ask xs) (2^manyF xs),hiS (aF ask xs) (2^manyF xs)] (.cons ⟨_,rfl⟩ (.cons ⟨_,rfl⟩ .nil)) nq) (.o (vq 4 G)) (zA 5 G o0))))))) (zz [(5,_),(8,_)] [O 4 32 _,O 7 32 _] λ a w U=>?_)
  refine zt<|zg [η,η] [] [.v 24 _,.v 25 _] [.g 0,.g 1,.o 1] U (zM 1 G (zv G (ci (vq 0 G) a8) o0)) (zz [(5,_),(8,_),(25,_)] [O 4 32 _,O 7 32 _] λ a w U=>?_)
  refine a7<|ae U (zm 2 G) (λ hb1=>?_) (λ hb1=>?_)
  ·have hl:=Hp hb1
   refine qb<|zg [some (2,_),η] [] [.v 26 _,.v 27 _,.sto 0,.v 5 _] [.o 3] U (zv G (aO (qs:=[]) g7 .nil) (zM 1 G (zS 0 G b9 (zA 1 G o0)))) (zz [(5,_)] [O 4 32 _,O 7 32 _] λ a w U=>?_)
   refine a7<|qe<|ao ?_
   refine aj ?_ (aE (rs:=[.cell 4 32,.tmp 5]) G U (.cell (zm 0 G) b9 (.tmp (zm 0 G) .nil)) zd)
   have e:gapF ask xs=(gp0,4):=by rw [gapF,qC hc,qC hl]
   rw [e]; exact tu2w zgp_d.va (bj (by rw [qC hl]))
  ·have hl:=as_noT hb1
   refine qh<|zt<|go_drawV' [[],[0],[0,1],[],[3],[0,1,2,3,4],[0,1,2,3,4,5],[0,1,2,3,4,5,6],[0,1,2,3,4,5,6,7]] (sts:=[some (7,λ ν=>_),none]) (news:=[]) (sp:=[(λ ν=>.adr 28 7 (.some 0) True),(λ ν=>.v 29 _),(λ ν=>.v 30 (PinA (ν 2) ((QD 33562627 (loS (aF ask xs) (2^manyF xs))).and (SepAll [] (ν 2)))).va),(λ ν=>.adr 31 7 (.some 4) True),(λ ν=>.v 32 _),(λ ν=>.v 33 (PinA (ν 5) ((QD 33562627 (hiS (aF ask xs) (2^manyF xs))).and (SepAll [ν 2] (ν 5)))).va),(λ ν=>.v 34 _),(λ ν=>.sto 0),(λ ν=>.v 5 _)]) [.o 8] aa U ⟨of_u λ ν=>ob_a rfl rfl (dB (lz0 1 rfl) bg),⟨of_u λ ν=>ob_v rfl rfl (ax 0 rfl zk trivial (lz0 1 rfl) (Sub.part 0 rfl rfl) ak),⟨dT (us:=λ ν=>[]) (xs:=[.tmp 29]) rfl rfl (oz zd) mI lJ (.cons upA_qa.va .nil) (λ ν=>(.o (vq 1 rfl))) (λ _ _=>rfl) (λ ν=>cG),⟨of_u λ ν=>ob_a rfl rfl (dB (lz0 1 rfl) bi),⟨of_u λ ν=>ob_v rfl rfl (ax 3 rfl zk trivial (lz0 1 rfl) (Sub.part 1 rfl rfl) ak),⟨dT (us:=λ ν=>[ν 2]) (xs:=[.tmp 32]) rfl rfl (oz zd) mI lJ (.cons upA_qa.va .nil) (λ ν=>(.o (vq 4 rfl))) (λ _ _=>rfl) (λ ν=>(eX (eS mI) (vq 2 rfl) cG)),⟨of_u λ ν=>ob_v rfl rfl (aO (qs:=[(0,_),(1,_)]) g7 (.cons ⟨rfl,vq 2 rfl,rfl⟩ (.cons ⟨rfl,vq 5 rfl,rfl⟩ .nil))),⟨of_u λ ν=>dM rfl rfl rfl (vq 6 rfl) b9 (zV (b:=8) rfl rfl),⟨of_u λ ν=>ob_v rfl rfl (a9 a8),trivial⟩⟩⟩⟩⟩⟩⟩⟩⟩ ⟨(λ ν ν' h=>rfl),⟨(λ ν ν' h=>rfl),⟨(λ ν ν' h=>by first | rfl | simp only [h 2 rfl]),⟨(λ ν ν' h=>rfl),⟨(λ ν ν' h=>rfl),⟨(λ ν ν' h=>by first | rfl | simp only [h 2 rfl,h 5 rfl]),⟨(λ ν ν' h=>by first | rfl | simp only [h 2 rfl,h 5 rfl]),⟨(λ ν ν' h=>by first | rfl | simp only [h 2 rfl,h 5 rfl]),⟨(λ ν ν' h=>by first | rfl | simp only [h 2 rfl,h 5 rfl]),trivial⟩⟩⟩⟩⟩⟩⟩⟩⟩ ⟨(λ ν ν' h=>by first | rfl | simp only [h 2 rfl,h 5 rfl]),⟨trivial,trivial⟩⟩ zk zk (λ ν=>by kernel_rfl) (λ ν=>by kernel_rfl) (λ ν8 a w U=>?_)
   have U:=zn [(5,_)] [O 4 32 _,O 7 32 _] U
   refine a7<|qe<|aj ?_ (aE (rs:=[.cell 4 32,.tmp 5]) G U (.cell (zm 0 G) b9 (.tmp (zm 0 G) .nil)) zd)
   have e:gapF ask xs=(⟨rfOf (loS (aF ask xs) (2^manyF xs)),rfOf (hiS (aF ask xs) (2^manyF xs))⟩,0):=by rw [gapF,qC hc,qA hl]
   rw [e]; exact tu2w gp_pins.va aL
theorem mZ (xs:List RLo):Cn Tryz.prog 7 [(SlA 69 [U32] (xs.map LoA)).va] (GpRD (gapF trQ' xs)):=by
 refine Cn.intro Tryz.func7 G zk nq (λ B w0 a U=>?_)
 have U:=zn [(0,(SlA 69 [U32] (xs.map LoA)).va)] [] U
 refine qb<|zg [] [⟨2,32,ptrH,some 0,_,none⟩] [.alc 0,.v 3 _] [.g 0,.o 1] U (zY G (Str.zero bL) (zv G (a9 a8) o0)) (zz [(0,_),(3,_)] [O 2 32 _] λ a w U=>?_)
 refine zt<|zg [some (4,_)] [] [.v 4 _,.v 5 _,.v 6 _,.v 7 _,.sto 0,.v 3 _] [.o 5] U (zM 0 G (zQ G (gap_c xs (λ _=>mX) (λ h4 hx k=>tr_b' (oB h4 hx k))) (.cons (vq 0 G) (.cons fR .nil)) (zv G (dS (vq 1 G)) (zv G (dR (vq 1 G)) (zS 2 G b9 (zA 3 G o0)))))) (zz [(3,_)] [O 2 32 _] λ a w U=>?_)
 refine a7<|qe<|aj ?_ (aE (rs:=[.cell 2 32,.tmp 3]) G U (.cell (zm 0 G) b9 (.tmp (zm 0 G) .nil)) zd)
 exact aL
theorem B8 (xs:List RLo):Cn Tryz.prog 8 [(SlA 69 [U32] (xs.map LoA)).va] (GpRD (gapF pwQ' xs)):=by
 refine Cn.intro Tryz.func8 G zk nq (λ B w0 a U=>?_)
 have U:=zn [(0,(SlA 69 [U32] (xs.map LoA)).va)] [] U
 refine qb<|zg [] [⟨2,32,ptrH,some 0,_,none⟩] [.alc 0,.v 3 _] [.g 0,.o 1] U (zY G (Str.zero bL) (zv G (a9 a8) o0)) (zz [(0,_),(3,_)] [O 2 32 _] λ a w U=>?_)
 refine zt<|zg [some (4,_)] [] [.v 4 _,.v 5 _,.v 6 _,.v 7 _,.sto 0,.v 3 _] [.o 5] U (zM 0 G (zQ G (gap_c xs (λ _=>B2) (λ h4 hx k=>pw_b' (oB h4 hx k))) (.cons (vq 0 G) (.cons fR .nil)) (zv G (dS (vq 1 G)) (zv G (dR (vq 1 G)) (zS 2 G b9 (zA 3 G o0)))))) (zz [(3,_)] [O 2 32 _] λ a w U=>?_)
 refine a7<|qe<|aj ?_ (aE (rs:=[.cell 2 32,.tmp 3]) G U (.cell (zm 0 G) b9 (.tmp (zm 0 G) .nil)) zd)
 exact aL
theorem St.factL {B N:Nat}{s T:Nat}{A:As}{c:Prop}(h:St B w0 N Γ Λ a w)(i:Nat)(hm:Λ[i]?=some ⟨s,T,H,A.and c⟩):c:=by
 obtain ⟨g,cs,_,_,_,p⟩:=h.locs _ (qa hm)
 exact p.1
def nsF (xs:List RLo)(k:Nat):Bool:=decide (cmQ (trsQ (prodQ (cnF xs k))) (Rat.divInt 4 1)≥0)
def allF (xs:List RLo):Bool:=(List.range (2^manyF xs)).all λ k => !nsF xs k
def allR (xs:List RLo):Bool × Int:=if tchF xs=0 then (allF xs,0) else (false,tchF xs)
theorem al_no {xs:List RLo}{k:Nat}(hk:k<2^manyF xs)(h:nsF xs k=true):allF xs=false:=by
 unfold allF
 exact jT.2 ⟨k,x3.2 hk,by simp [h]⟩
theorem al_yes {xs:List RLo}(h:∀ i,i<2^manyF xs→nsF xs i=false):allF xs=true:=by
 unfold allF
 exact qc.2 λ k hk=>by simp [h k (x3.1 hk)]
theorem Hu {F:Nat→Bool}{j:Nat}(h:∀ i,i<j→F i=false)(h2:F j=false):∀ i,i<j+1→F i=false:=λ i hi=>by
 rcases kA i j with h1 | h1
 ·exact h i h1
 ·have e:i=j:=by omega
  rw [e]; exact h2
theorem AR:Zero Tryz.prog 33 (NumA .i64 0):=Zero.of (z:=.int .i64 0) zk (λ _ _=>rfl)
theorem AS:Zero Tryz.prog 4 (BoA false):=Zero.of (z:=.bool false) zk (λ _ _=>rfl)
theorem uP:Zero Tryz.prog 38 (LsC 92 9 [U32] []):=Zero.of (z:=.slice none 0 0) zk λ B w=>⟨_,rfl,DC _ _ _ rfl⟩
def woS (xs:List RLo):Nat→List RE × Rat
 | 0=>([],0)
 | k+1=>if ((((k:Nat):Int)==0) || decide (cmQ (trsQ (prodQ (cnF xs k))) (woS xs k).2>0))=true then (cnF xs k,trsQ (prodQ (cnF xs k))) else woS xs k
def wrF (xs:List RLo):List RE × Int:=if tchF xs=0 then ((woS xs (2^manyF xs)).1,0) else ([],tchF xs)
theorem Eu {l:List RE}{k:Int}:Free (Tu [(LsC 92 9 [U32] (l.map REN)).va,In k]) (Tu [LsN 92 9 [U32] (l.map REN),In k]):=rE (.cons (λ B B' v w hB h=>rF (cz λ _=>oa) _ _ _ _ hB (yc _ _ _ h)) (.cons (cH _ _).va .nil))
theorem wo_t {xs:List RLo}{k:Nat}(h:((((k:Nat):Int)==0) || decide (cmQ (trsQ (prodQ (cnF xs k))) (woS xs k).2>0))=true):(cnF xs k,trsQ (prodQ (cnF xs k)))=woS xs (k+1):=by rw [woS,qC h]
theorem wo_f {xs:List RLo}{k:Nat}(h:((((k:Nat):Int)==0) || decide (cmQ (trsQ (prodQ (cnF xs k))) (woS xs k).2>0))=false):woS xs k=woS xs (k+1):=by rw [woS,qA (by rw [h]; decide)]
set_option maxHeartbeats 1000000 in
theorem vK (xs:List RLo):Cn Tryz.prog 9 [(SlA 69 [U32] (xs.map LoA)).va] (Tu [Bo (allR xs).1,In (allR xs).2]):=by
 refine Cn.introR Tryz.func9 rfl zk nq (.cons (ir (λ A hA=>by obtain ⟨x,_,rfl⟩:=qm.1 hA; exact eH x)).va .nil) (rE (.cons (dX _).va (.cons (cH _ _).va .nil))) (λ B w0 a hB0 hN0 U=>?_)
 have U:=zn [(0,(SlO 69 [U32] (xs.map LoA) True).va)] [] U
 refine qb<|zg [] [⟨2,4,ptrH,some 0,_,none⟩,⟨3,33,ptrH,some 1,_,none⟩] [.alc 0,.alc 1] [.g 0] U (zY G AS (zY G AR o0)) (zz [(0,_)] [O 2 4 _,O 3 33 _] λ a w U=>?_)
 refine zt<|qb<|zg [η,η] [] [.v 9 _,.v 10 _,.v 4 _] [.g 0,.o 2] U (zM 0 G (zQ G ((fh xs).wk (.cons slx .nil)) (.o (vq 0 G)) (zA 1 G o0))) (zz [(0,_),(4,_)] [O 2 4 _,O 3 33 _] λ a w U=>?_)
 refine zt<|zg [η,η] [] [.v 11 _,.v 12 _] [.g 0,.g 1,.o 1] U (zM 1 G (zv G (ci (vq 0 G) a8) o0)) (zz [(0,_),(4,_),(12,_)] [O 2 4 _,O 3 33 _] λ a w U=>?_)
 refine a7<|ae U (zm 2 G) (λ hb0=>?_) (λ hb0=>?_)
 ·have hc:¬ tchF xs=0:=by simpa using hb0
  refine qb<|zg [some (1,_),some (2,_)] [] [.v 13 _,.sto 0,.sto 1] [.g 0] U (zM 1 G (oc (dM G G G aB ty_4 (zV (b:=1) G G)) (zS 0 G tR o0))) (zz [(0,_)] [O 2 4 _,O 3 33 _] λ a w U=>?_)
  refine a7<|qe<|ao ?_
  refine aj ?_ (aE (rs:=[.cell 2 4,.cell 3 33]) G U (.cell (zm 0 G) ty_4 (.cell (zm 1 G) tR .nil)) zd)
  rw [allR,qA hc]; exact aL
 ·have hc:tchF xs=0:=by simpa using hb0
  have hk4:=fY hc
  refine qh<|zt<|zg [η,η] [⟨5,30,ptrH,some 1,_,some (2,_)⟩] [.v 14 _,.alc 2,.sto 2] [.g 0] U (zQ G (vN zd zd zd zd zd) (.cons a8 (.cons a8 .nil)) (zY G (Str.zero az) (zS 0 G ak o0))) (zz [(0,_)] [O 2 4 _,O 3 33 _,O 5 30 _] λ a w U=>?_)
  refine zt<|qb ?_
  have U:=St.wkL (A':=(NumA .i64 0).and (∀ i,i<(0:Nat)→nsF xs i=false)) U 1 rfl ⟨rfl,rfl,λ _ _ _ h=>⟨λ i hi=>absurd hi (jE _),h⟩⟩
  obtain ⟨q2,U⟩:=St.nm U 0 rfl
  obtain ⟨q3,U⟩:=St.nm U 1 rfl
  obtain ⟨q5,U⟩:=St.nm U 2 rfl
  refine zg [η,η,η] [] [.v 15 _,.v 16 _] [.g 0,.g 1,.g 2,.o 1] U (zM 3 G (zv G (nn [(2,q2),(3,q3),(5,q5)] G (λ v hv=>lW hv) (vq 0 G) (.cons (gq 2 G) (lz0 0 G) (.cons (gq 1 G) (lz0 1 G) (.cons (gq 0 G) (lz0 2 G) .nil)))) o0)) (zz [(5,_),(3,_),(2,_),(16,_)] [O 2 4 _,O 3 33 _,O 5 30 _] λ a w U=>?_)
  obtain ⟨gb,U,hds⟩:=St.itn (ps:=[(2,q2),(3,q3),(5,q5)]) 3 [2,1,0] U rfl ⟨rfl,⟨rfl,⟨rfl,trivial⟩⟩⟩
  have hdis:∀ s∈[2,3,5],∀ g,blk (a.eval (.tmp s))=some g→g ∉ gb:=hds
  refine a7<|ql ?_
  have U:=St.selL U [0,1,2]
  refine nZ (k0:=3) (gb:=gb) (Dd:=[U32]) (Db:=[4,33,30]) (λ k=>[⟨2,4,ptrH,BoA false⟩,⟨3,33,ptrH,(NumA .i64 0).and (∀ i,i<k→nsF xs i=false)⟩,⟨5,30,ptrH,QA 2 (Rat.divInt 4 1)⟩]) (some [⟨2,4,ptrH,(BoA false).and (allF xs=false)⟩,⟨3,33,ptrH,NumA .i64 0⟩,⟨5,30,ptrH,QA 2 (Rat.divInt 4 1)⟩]) (λ _=>none) U hB0 hN0 rfl (i7 xs hk4.1 hk4.2.1 hk4.2.2 gb) (M:=(2^manyF xs)) (Y:=λ k=>[In ((k:Nat):Int),(LsC 92 9 [U32] ((cnF xs k).map REN)).va]) (λ h=>by cases h) zk [] zk (λ _=>by kernel_rfl) [2,3,5] (λ _=>by kernel_rfl) hdis (λ L hL=>by cases hL; kernel_rfl) (λ _ L hL=>by cases hL) (λ _=>rfl) zd zk (λ l k a1 Ws hk hBs hct U=>?_) (λ a w U=>?_) (λ L hL a w U=>?_) (λ _ L hL=>by cases hL)
  ·obtain ⟨a0,rfl⟩:∃ x,x=a:=⟨_,rfl⟩
   have U:St B (rndB B [4,33,30] gb Ws Ws) 28 [(17,_),(18,_),(2,_),(3,_),(5,_)] [⟨2,4,ptrH,BoA false⟩,⟨3,33,ptrH,(NumA .i64 0).and (∀ i,i<k→nsF xs i=false)⟩,⟨5,30,ptrH,QA 2 (Rat.divInt 4 1)⟩] a1 Ws:=U
   refine bI (sts:=[none,none,none]) (news:=[]) (sp:=[.v 7 _]) [.g 0,.g 1,.g 2,.g 3,.g 4,.o 0] zk (bR λ _ _ h=>h) U (zv G (a9 (gq 1 G)) o0) zk zk zk (λ a w U=>?_)
   have U:St B (rndB B [4,33,30] gb Ws Ws) 28 [(17,_),(18,_),(2,_),(3,_),(5,_),(7,_)] [O 2 4 _,O 3 33 _,O 5 30 _] a w:=U
   refine a7<|⟨U.base,λ W3 hbg=>?_⟩
   have hkk:=St.factL U 1 rfl
   have U:=St.begin U (qg _) hBs hbg
   refine wpIn_block ?_
   refine wpIn_seq ?_
   refine bI (sts:=[none,none,none]) (news:=[⟨8,30,ptrH,some 3,_,some (4,_)⟩]) (sp:=[.v 19 _,.v 20 _,.v 21 _,.alc 3,.sto 3]) [.g 0,.g 1,.g 2,.g 3,.g 4] zk (bR λ _ _ h=>h) U (zM 5 G (zQ G (wh hk4.1 hk4.2.1 k) (.o (vq 0 G)) (zQ G mX (.o (vq 1 G)) (zY G (Str.zero az) (zS 2 G ak o0))))) zk zk zk (λ a w U=>?_)
   have U:St B (rndB B [4,33,30] gb Ws W3) 28 [(17,_),(18,_),(2,_),(3,_),(5,_)] [O 2 4 _,O 3 33 _,O 5 30 _,O 8 30 _] a w:=U
   refine a7<|wpIn_seq ?_
   have U:=St.wkL U 3 rfl (l6 (tr_b' (oB hk4.1 hk4.2.1 k)))
   refine o5 (anc:=[[],[],[0,1],[],[0,1,2,3],[0,1,2,3,4]]) (sts:=[none,none,none,none]) (news:=[]) (sp:=[.v 22 _,.v 23 _,.v 24 _,.v 25 _,.v 26 _,.v 27 _]) [.g 0,.g 1,.g 2,.g 3,.g 4,.o 5] aa zk (bR λ _ _ h=>h) U (zl 3 G ak (zl 3 G ak (zQ G (iV zd) (.p (vq 0 G) (vq 1 G)) (zl 2 G ak (zQ G (Aq zd) (.p (vq 2 G) (vq 3 G)) (zv G (eu (vq 4 G) a8) o0)))))) zk zk zk zk (λ a w U=>?_)
   have U:St B (rndB B [4,33,30] gb Ws W3) 28 [(17,_),(18,_),(2,_),(3,_),(5,_),(27,_)] [O 2 4 _,O 3 33 _,O 5 30 _,O 8 30 _] a w:=U
   refine a7<|eF U (zm 5 G) (λ hb1=>?_) (λ hb1=>?_)
   ·refine wpIn_seq ?_
    refine bI (sts:=[some (0,_),some (1,_),none,none]) (news:=[]) (sp:=[.sto 0,.sto 1]) [.g 0,.g 1,.g 2,.g 3,.g 4] zk (bR λ _ _ h=>h) U (oc (dM G G G aB ty_4 (zV (b:=1) G G)) (oc (dM G G G a8 tR (zV (b:=1) G G)) o0)) zk zk zk (λ a w U=>?_)
    have U:St B (rndB B [4,33,30] gb Ws W3) 28 [(17,_),(18,_),(2,_),(3,_),(5,_)] [O 2 4 _,O 3 33 _,O 5 30 _,O 8 30 _] a w:=U
    refine a7<|wpIn_ret ?_
    refine aT ?_
    have U:=St.wkL (A':=(BoA false).and (allF xs=false)) U 0 rfl ⟨rfl,rfl,λ _ _ _ h=>⟨al_no hk hb1,h⟩⟩
    have U:=St.selL U [0,1,2]
    exact ⟨_,rfl,nh [2,3,4] U ⟨rfl,⟨rfl,⟨rfl,trivial⟩⟩⟩⟩
   ·refine wpIn_skip ?_
    refine am ?_
    have U:=St.wkL (A':=(NumA .i64 0).and (∀ i,i<(k+1)→nsF xs i=false)) U 1 rfl ⟨rfl,rfl,λ _ _ _ h=>⟨Hu h.1 hb1,h.2⟩⟩
    have U:=St.selL U [0,1,2]
    exact ⟨(λ h=>by cases h),nh [2,3,4] U ⟨rfl,⟨rfl,⟨rfl,trivial⟩⟩⟩⟩
  ·have U:=zn [] [O 2 4 _,O 3 33 _,O 5 30 _] U
   have hyes:=al_yes (St.factL U 1 rfl)
   refine am ?_
   refine zt<|zg [some (0,_),some (1,_),η] [] [.sto 0,.sto 1] [] U (oc (dM G G G aB ty_4 (zV (b:=1) G G)) (oc (dM G G G a8 tR (zV (b:=1) G G)) o0)) (zz [] [O 2 4 _,O 3 33 _,O 5 30 _] λ a w U=>?_)
   refine a7<|qe<|aj ?_ (aE (rs:=[.cell 2 4,.cell 3 33]) G U (.cell (zm 0 G) ty_4 (.cell (zm 1 G) tR .nil)) zd)
   rw [allR,qC hc,hyes]; exact aL
  ·cases hL
   have U:=zn [] [O 2 4 _,O 3 33 _,O 5 30 _] U
   have hno:=St.factL U 0 rfl
   refine aT ?_
   refine ao ?_
   refine aj ?_ (aE (rs:=[.cell 2 4,.cell 3 33]) G U (.cell (zm 0 G) ty_4 (.cell (zm 1 G) tR .nil)) zd)
   rw [allR,qC hc,hno]; exact tu2w (λ _ _ _ h=>(dx h).2) aL
set_option maxHeartbeats 1000000 in
theorem B7 (xs:List RLo):Cn Tryz.prog 10 [(SlA 69 [U32] (xs.map LoA)).va] (Tu [LsN 92 9 [U32] ((wrF xs).1.map REN),In (wrF xs).2]):=by
 refine Cn.introR Tryz.func10 rfl zk nq (.cons (ir (λ A hA=>by obtain ⟨x,_,rfl⟩:=qm.1 hA; exact eH x)).va .nil) Eu (λ B w0 a hB0 hN0 U=>?_)
 have U:=zn [(0,(SlO 69 [U32] (xs.map LoA) True).va)] [] U
 refine qb<|zh [.v 2 _,.v 3 _] [.g 0,.o 0,.o 1] U (zv G (a9 ba) (zv G (a9 a8) o0)) (zz [(0,_),(2,_),(3,_)] [] λ a w U=>?_)
 refine zt<|qb<|zh [.v 10 _,.v 11 _,.v 4 _] [.g 0,.g 1,.g 2,.o 2] U (zM 0 G (zQ G ((fh xs).wk (.cons slx .nil)) (.o (vq 0 G)) (zA 1 G o0))) (zz [(0,_),(2,_),(3,_),(4,_)] [] λ a w U=>?_)
 refine zt<|zh [.v 12 _,.v 13 _] [.g 0,.g 1,.g 2,.g 3,.o 1] U (zM 3 G (zv G (ci (vq 0 G) a8) o0)) (zz [(0,_),(2,_),(3,_),(4,_),(13,_)] [] λ a w U=>?_)
 refine a7<|ae U (zm 4 G) (λ hb0=>?_) (λ hb0=>?_)
 ·have hc:¬ tchF xs=0:=by simpa using hb0
  refine qb<|zh [.v 14 _,.v 2 _,.v 3 _] [.g 0,.o 1,.o 2] U (zM 3 G (zv G (a9 ba) (zA 0 G o0))) (zz [(0,_),(2,_),(3,_)] [] λ a w U=>?_)
  refine a7<|qe<|ao ?_
  refine aj ?_ (aE (rs:=[.tmp 2,.tmp 3]) G U (.tmp (zm 1 G) (.tmp (zm 2 G) .nil)) zd)
  rw [wrF,qA hc]; exact tu2w (bO DC yb) aL
 ·have hc:tchF xs=0:=by simpa using hb0
  have hk4:=fY hc
  refine qh<|zt<|zg [] [⟨5,38,ptrH,some 0,_,none⟩] [.alc 0] [.g 0,.g 1,.g 2] U (zY G uP o0) (zz [(0,_),(2,_),(3,_)] [O 5 38 _] λ a w U=>?_)
  refine zt<|zg [η] [⟨6,30,ptrH,some 1,_,some (2,_)⟩] [.v 15 _,.alc 1,.sto 1] [.g 0,.g 1,.g 2] U (zQ G iG .nil (zY G (Str.zero az) (zS 0 G ak o0))) (zz [(0,_),(2,_),(3,_)] [O 5 38 _,O 6 30 _] λ a w U=>?_)
  refine zt<|qb ?_
  have U:=St.wkL (A':=QA 67125254 (woS xs 0).2) U 1 rfl (bf zd)
  have U:=St.cvA (A':=LsC 92 9 [U32] ((woS xs 0).1.map REN)) U 0 rfl rfl
  obtain ⟨q5,U⟩:=St.nm U 0 rfl
  obtain ⟨q6,U⟩:=St.nm U 1 rfl
  refine zg [η,η] [] [.v 16 _,.v 17 _] [.g 0,.g 1,.g 3,.g 4,.o 1] U (zM 2 G (zv G (nn [(5,q5),(6,q6)] G (λ v hv=>lW hv) (vq 0 G) (.cons (gq 1 G) (lz0 0 G) (.cons (gq 0 G) (lz0 1 G) .nil))) o0)) (zz [(6,_),(5,_),(2,_),(3,_),(17,_)] [O 5 38 _,O 6 30 _] λ a w U=>?_)
  obtain ⟨gb,U,hds⟩:=St.itn (ps:=[(5,q5),(6,q6)]) 4 [1,0] U rfl ⟨rfl,⟨rfl,trivial⟩⟩
  have hdis:∀ s∈[5,6],∀ g,blk (a.eval (.tmp s))=some g→g ∉ gb:=hds
  refine a7<|ql ?_
  have U:=St.selL U [0,1]
  refine nZ (k0:=4) (gb:=gb) (Dd:=[U32]) (Db:=[38,30]) (λ k=>[⟨5,38,ptrH,LsC 92 9 [U32] ((woS xs k).1.map REN)⟩,⟨6,30,ptrH,QA 67125254 (woS xs k).2⟩]) none (λ _=>none) U hB0 hN0 rfl (i7 xs hk4.1 hk4.2.1 hk4.2.2 gb) (M:=(2^manyF xs)) (Y:=λ k=>[In ((k:Nat):Int),(LsC 92 9 [U32] ((cnF xs k).map REN)).va]) (λ h=>by cases h) zk [] zk (λ _=>by kernel_rfl) [5,6] (λ _=>by kernel_rfl) hdis (λ L hL=>by cases hL) (λ _ L hL=>by cases hL) (λ _=>rfl) zd zk (λ l k a1 Ws hk hBs hct U=>?_) (λ a w U=>?_) (λ L hL=>by cases hL) (λ _ L hL=>by cases hL)
  ·obtain ⟨a0,rfl⟩:∃ x,x=a:=⟨_,rfl⟩
   have U:St B (rndB B [38,30] gb Ws Ws) 37 [(18,_),(19,_),(5,_),(6,_)] [⟨5,38,ptrH,LsC 92 9 [U32] ((woS xs k).1.map REN)⟩,⟨6,30,ptrH,QA 67125254 (woS xs k).2⟩] a1 Ws:=U
   refine wpIn_seq ?_
   refine bI (sts:=[none,none]) (news:=[]) (sp:=[.v 7 _]) [.g 0,.g 1,.g 2,.g 3,.o 0] zk (bR λ _ _ h=>h) U (zv G (a9 (gq 0 G)) o0) zk zk zk (λ a w U=>?_)
   have U:St B (rndB B [38,30] gb Ws Ws) 37 [(18,_),(19,_),(5,_),(6,_),(7,_)] [O 5 38 _,O 6 30 _] a w:=U
   refine a7<|bI (sts:=[none,none]) (news:=[]) (sp:=[.v 8 _]) [.g 0,.g 1,.g 2,.g 3,.g 4,.o 0] zk (bR λ _ _ h=>h) U (zv G (a9 (gq 1 G)) o0) zk zk zk (λ a w U=>?_)
   have U:St B (rndB B [38,30] gb Ws Ws) 37 [(18,_),(19,_),(5,_),(6,_),(7,_),(8,_)] [O 5 38 _,O 6 30 _] a w:=U
   refine a7<|⟨U.base,λ W3 hbg=>?_⟩
   have U:=St.begin U (qg _) hBs hbg
   refine wpIn_block ?_
   refine wpIn_seq ?_
   refine bI (sts:=[none,none]) (news:=[⟨9,30,ptrH,some 3,_,some (4,_)⟩]) (sp:=[.v 20 _,.v 21 _,.v 22 _,.alc 2,.sto 2]) [.g 0,.g 1,.g 2,.g 3,.g 4,.g 5] zk (bR λ _ _ h=>h) U (zM 5 G (zQ G (wh hk4.1 hk4.2.1 k) (.o (vq 0 G)) (zQ G mX (.o (vq 1 G)) (zY G (Str.zero az) (zS 2 G ak o0))))) zk zk zk (λ a w U=>?_)
   have U:St B (rndB B [38,30] gb Ws W3) 37 [(18,_),(19,_),(5,_),(6,_),(7,_),(8,_)] [O 5 38 _,O 6 30 _,O 9 30 _] a w:=U
   refine a7<|wpIn_seq ?_
   have U:=St.wkL U 2 rfl (l6 (tr_b' (oB hk4.1 hk4.2.1 k)))
   refine bI (sts:=[none,none,some (3,_)]) (news:=[]) (sp:=[.v 23 _,.v 24 _,.v 25 _,.sto 2]) [.g 0,.g 1,.g 2,.g 3,.g 4,.g 5] zk (bR λ _ _ h=>h) U (zl 2 G ak (zl 2 G ak (zQ G (iV zd) (.p (vq 0 G) (vq 1 G)) (zS 2 G ak o0)))) zk zk zk (λ a w U=>?_)
   have U:St B (rndB B [38,30] gb Ws W3) 37 [(18,_),(19,_),(5,_),(6,_),(7,_),(8,_)] [O 5 38 _,O 6 30 _,O 9 30 _] a w:=U
   refine a7<|wpIn_seq ?_
   refine bI (sts:=[none,none,none]) (news:=[]) (sp:=[.v 26 _,.v 27 _,.v 28 _,.f 29 _,.f 30 _,.f 31 _,.f 32 _,.v 33 _]) [.g 0,.g 1,.g 2,.g 3,.g 5,.o 7] zk (bR λ _ _ h=>h) U (zM 4 G (zv G (bF (vq 0 G) a8) (zv G (ab (vq 1 G)) (zB 2 G (λ hg=>cC (lz0 2 G) ak) (zB 2 G (λ hg=>cC (lz0 1 G) ak) (zB 2 G (λ hg=>aX (Aq zd) (.p (ac (vq 3 G) hg) (ac (vq 4 G) hg))) (zB 2 G (λ hg=>cP (ac (vq 5 G) hg) a8) (zv G (r_or (vq 2 G) (vq 6 G)) o0)))))))) zk zk zk (λ a w U=>?_)
   have U:St B (rndB B [38,30] gb Ws W3) 37 [(18,_),(19,_),(5,_),(6,_),(8,_),(33,_)] [O 5 38 _,O 6 30 _,O 9 30 _] a w:=U
   refine a7<|fB (λ a w =>  St B (rndB B [38,30] gb Ws W3) 37 [(5,EqV (a0.eval (.tmp 5))),(6,EqV (a0.eval (.tmp 6)))] [⟨5,38,ptrH,LsC 92 9 [U32] ((woS xs (k+1)).1.map REN)⟩,⟨6,30,ptrH,QA 67125254 (woS xs (k+1)).2⟩,⟨9,30,ptrH,QA 67125254 (trsQ (prodQ (cnF xs k)))⟩] a w) U (zm 5 G) (λ hb1=>?_) (λ hb1=>?_) (λ a w U=>?_)
   ·refine o5 (anc:=[[],[],[0],[0,1,2]]) (sts:=[some (2,_),some (3,_),none]) (news:=[]) (sp:=[.v 34 _,.v 35 _,.sto 0,.sto 1]) [.g 0,.g 1,.g 2,.g 3] aa zk (bR λ _ _ h=>h) U (zM 4 G (zl 2 G ak (zS 0 G iu (zS 1 G ak o0)))) zk zk zk zk (λ a w U=>?_)
    have U:St B (rndB B [38,30] gb Ws W3) 37 [(18,_),(19,_),(5,_),(6,_)] [O 5 38 _,O 6 30 _,O 9 30 _] a w:=U
    refine a7 ?_
    have U:=St.sel U [2,3]
    have e:=wo_t hb1
    have e1:LsC 92 9 [U32] ((cnF xs k).map REN)=LsC 92 9 [U32] ((woS xs (k+1)).1.map REN):=by rw [← e]
    have e2:QA 67125254 (trsQ (prodQ (cnF xs k)))=QA 67125254 (woS xs (k+1)).2:=by rw [← e]
    have U:=St.cvA (A':=LsC 92 9 [U32] ((woS xs (k+1)).1.map REN)) U 0 rfl e1
    have U:=St.cvA (A':=QA 67125254 (woS xs (k+1)).2) U 1 rfl e2
    exact U
   ·refine wpIn_skip ?_
    refine a7 ?_
    have U:=St.sel U [2,3]
    rw [wo_f hb1] at U
    exact U
   refine am ?_
   have U:=St.selL U [0,1]
   exact ⟨(λ h=>by cases h),nh [0,1] U ⟨rfl,⟨rfl,trivial⟩⟩⟩
  ·have U:=zn [] [O 5 38 _,O 6 30 _] U
   refine am ?_
   refine zt<|zg [η,η] [] [.v 36 _,.v 2 _,.v 3 _] [.o 1,.o 2] U (zl 0 G iu (zA 0 G (zv G (a9 a8) o0))) (zz [(2,_),(3,_)] [O 5 38 _,O 6 30 _] λ a w U=>?_)
   refine a7<|qe<|aj ?_ (aE (rs:=[.tmp 2,.tmp 3]) G U (.tmp (zm 0 G) (.tmp (zm 1 G) .nil)) zd)
   rw [wrF,qC hc]; exact aL
end Go.Proofs.YtkpifdpdeanjfaaGreatDoor
