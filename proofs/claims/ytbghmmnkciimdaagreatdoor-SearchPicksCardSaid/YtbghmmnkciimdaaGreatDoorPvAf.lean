import Derived.Test.YtbghmmnkciimdaaGreatDoorPvAe
import Derived.ChangeArms
import Derived.Laws.Strings
import Derived.WideShapes
set_option linter.all false
set_option maxRecDepth 100000
namespace Go.Proofs.YtbghmmnkciimdaaGreatDoor
open Go Go.RowKit
variable {w:World}{B:Nat}{a:Act}{v:Value}{T:TypeId}{w0:Bs}{Γ:List (Nat × VA)}{Λ:List Lc}{ps:String}{af:Array Edge}{vr:Value}{H:Hd}{cs:List Value}{w':World}{P:Program}{D:List TypeId}{N:Nat}{i:Nat}{k:Nat}{n:Nat}{j:Nat}{m:Nat}{s:Nat}{b:Nat}{c:Nat}{g:Nat}{d:Nat}{id:Nat}{hi:Nat}{ops:Array Oper}{x:Operand}{y:Operand}{E:TypeId}{S:TypeId}{A:As}{l:List Nat}{fn:Func}{Q:Exit→Act→World→Prop}{xs:List Operand}{gs:List Nat}{W:World}{W':World}{ds:List Value}{q:Int}{A':As}{A0:As}{A1:As}{sp:List Sp}{ty:TypeId}
theorem gX {rest:List Oper}{o:Oper}(hgd:o.guard=none)(s x:Yj)(t:Yh)(ho:o.op=.call { callee:=.builtin .append,args := #[s,x],argTypes := #[t,t] })
  (e:TypeId) (i:TypeInfo) (z:Value) (ht:P.underlying t=some (.slice e)) (hi:P.info? e=some i) (hz:i.zero=some z) (hsize:i.size=1) (hby:i.bytes=8)
  (b:Addr) (hs:a.eval s=.slice (some b) 0 0) (ad:Addr) (m c:Nat) (news:List Value) (hx:a.eval x=.slice (some ad) m c) (hl:news.length=m) (hnews:∀ j u,news[j]?=some u→w.cell? (ad.add j)=some u) (hm:0<m) (hbytes:m*8≤140737488355328)
  (h:wpList P ops Q rest (a.put o.dst (.slice (some ⟨w.heap.size,0,none⟩) m (grownCap w m 0 e))) (w.drew.alloc (.cells (news.toArray++Builtin.zeroCells z.cells (grownCap w m 0 e-m)) e))):wpList P ops Q (o::rest) a w:=by
 refine wpList_plain hgd λ K hK=>?_;have hr:=run_append_grow (P:=P) w t o.type e i z ht hi hz b 0 0 [] (by simp) (λ j v hj=>by simp at hj) ad m c news (by rw [hl,hsize,zP]) hnews zo zo (growslice_fits zo (by rw [hby];omega));simp only [qV,vX] at hr;unfold Oper.wp execOp;simp only [ho,resolve,invoke,builtin,Sem.run_bind,Sem.run_pure,Result.andThen_ok,kY,qS,jL,hs,hx,hr];exact hK _ _ h
theorem uS:∃ i,Tryz.prog.info? 3=some i∧i.zero=some (.int .i64 0)∧i.size=1∧i.bytes=8:=by
 have h:(Tryz.prog.info? 3).map (λ i=>(i.zero,i.size,i.bytes))=some (some (.int .i64 0),1,8):=by kernel_rfl
 cases hi:Tryz.prog.info? 3 with
 | none=>rw [hi] at h;cases h
 | some i =>
  rw [hi] at h;have h2:(i.zero,i.size,i.bytes)=(some (.int .i64 0),1,8):=Option.some.inj h;injection h2 with h3 h4;injection h4 with h5 h6;exact ⟨i,rfl,h3,h5,h6⟩
set_option maxHeartbeats 2000000 in
theorem tF (b off n c:Nat)(zs:Yl)(w:Yi)(hn:n=zs.length)(h0:0<n)(hbig:n*8≤140737488355328)(hc:∀ j (h:j<zs.length),w.cell? ⟨b,off+j,none⟩=some (.int .i64 zs[j])) :
  Calls Tryz.prog 168 #[.slice (some ⟨b,off,none⟩) n c] w λ e w'=>∃ g c ext,e=.returned (.slice (some ⟨g,0,none⟩) n c)∧w.heap.size≤g∧n≤c∧c≤maxLen∧zs.length+ext.length=c∧w'.heap[g]?=some (.cells ((zs.map λ (x:Int)=>Value.int .i64 x)++ext).toArray 3 (0,0))∧Grow w w':=by
 have t22:Tryz.prog.underlying 31=some (.slice 3):=by kernel_rfl
 obtain ⟨i0,hi,hz0,hz1,hz2⟩:=uS;have q22:∀ (w:World) (a:Option Addr) (n c n' c':Nat),(binOp .eql 31 (.slice a n c) (.slice none n' c')).run Tryz.prog w=.ok (.bool a.isNone) w:=λ w a n c n' c'=>Lib.run_eql_slice_nil w _ _ a n c n' c' t22;have u22:∀ w,Sem.run Tryz.prog (underlying 31) w=.ok (TypeDesc.slice 3) w:=run_underlying t22;have A:Aside (∀ j (h:j<zs.length),w.cell? ⟨b,off+j,none⟩=some (.int .i64 zs[j])):=hc;have HN:Aside (n=zs.length):=hn;clear hc hn
 go_enter Tryz.func168,Tryz.ntmps168
 go_wp2_with (at_builtin;refine gX rfl _ _ 31 rfl 3 i0 (.int .i64 0) t22 hi hz0 hz1 hz2 _ rfl ⟨b,off,none⟩ n c (zs.map λ (x:Int)=>Value.int .i64 x) rfl ?qc1 ?qc2 h0 hbig ?_)
 case qc1=>simp;exact HN.out.symm
 case qc2 =>
  intro j u hj;have hjn:j<zs.length:=by
   have:=(List.getElem?_eq_some_iff.1 hj).1;simpa using this
  rw [Addr.add_lit];refine Lib.cell?_alloc_some _ ?_;rw [A.out j hjn];simpa [hjn] using hj
 go_wp2
 go_ret
 refine ⟨_,_,(Builtin.zeroCells (Value.int .i64 0).cells (grownCap (w.alloc (.cells #[] 3)) n 0 3-n)).toList,rfl,by omega,grownCap_ge _ _ _ _,grownCap_le_maxLen _ _ _ _ (by unfold maxLen;omega),?_,?_,?_⟩
 ·have h9:n≤grownCap (w.alloc (.cells #[] 3)) n 0 3:=grownCap_ge _ _ _ _;have h8:∀ q:Nat,(Builtin.zeroCells (Value.int .i64 0).cells q).toList.length=q:=λ q=>by rw [vM,size_zeroCells,show (Value.int .i64 0).cells.size=1 from rfl,zP]
  rw [h8,← HN.out];omega
 ·have e:(w.alloc (.cells #[] 3)).heap.size=w.heap.size+1:=by simp
  rw [← e,← vL,Array.toArray_toList];exact heap_alloc_new _ _
 ·exact ((Grow.alloc w _).trans (Grow.alloc _ _)).trans (Grow.drew _)
theorem pU {B:Nat}{cs:Ym}{w:Yi}:∀ {l:Yl},(cat (l.map InA)).p B cs w→cs=l.map λ (n:Int)=>Value.int .i64 n
 | [],⟨ps,e,h⟩=>by cases h;exact e
 | n::l,⟨ps,e,h⟩=>by
  cases h with
  | @cons _ c _ ps' h1 h2 =>
   have h3:=pU (B:=B) (w:=w) (l:=l) ⟨ps',rfl,h2⟩;have h1':c=[.int .i64 n]:=h1;rw [e,qS,← h3,h1'];rfl
def OwP (q:Nat→Prop)(l:List Int):As where
 n:=1
 ag:=false
 p B cs w:=(OwnC 3 1 [] (l.map InA)).p B cs w∧∀ v∈cs,∀ g,blk v=some g→q g
 deps:=[3]
 len:=λ B cs w h=>(OwnC 3 1 [] (l.map InA)).len B cs w h.1
 one:=λ B cs w h=>(OwnC 3 1 [] (l.map InA)).one B cs w h.1
 ag1:=λ _=>rfl
 cg:=λ B cs w w' hg h=>⟨(OwnC 3 1 [] (l.map InA)).cg B cs w w' hg h.1,h.2⟩
 wr:=λ B cs w w' g c T fz h1 h2 h3 h4 h=>⟨(OwnC 3 1 [] (l.map InA)).wr B cs w w' g c T fz h1 h2 h3 h4 h.1,h.2⟩
theorem ownC_AI {l:Yb}:WkA (OwnC E m D l) (SlA E D l):=⟨rfl,rfl,λ B cs w h=>by
 obtain ⟨cs',h1,h2⟩:=JD B (cL false cs) w ⟨cs,h,rfl⟩;have l1:=(OwnC E m D l).len _ _ _ h;have l2:=(SlA E D l).len _ _ _ h1
 match cs,cs',l1,l2 with
 | [c],[c'],_,_ =>
  have e:c=c':=h2;subst e;exact h1⟩
theorem Q3 {q:Nat→Prop}{l:Yl}:WkA (OwP q l) (SlA 3 [] (l.map InA)):=⟨rfl,rfl,λ B cs w h=>ownC_AI.2.2 _ _ _ h.1⟩
theorem Fe {q q':Nat→Prop}{l:Yl}(h:∀ g,q g→q' g):WkA (OwP q l) (OwP q' l):=⟨rfl,rfl,λ _ _ _ hp=>⟨hp.1,λ v hv g hg=>h g (hp.2 v hv g hg)⟩⟩
theorem int_nD {l:Yl}:(∀ A∈l.map InA,A.n=1)∧∀ A∈l.map InA,∀ T∈A.deps,T∈([]:Yq) :=
 ⟨λ A hA=>by obtain ⟨x,_,rfl⟩:=qq.1 hA;rfl,λ A hA T hT=>by obtain ⟨x,_,rfl⟩:=qq.1 hA;exact hT⟩
theorem Gk (l:Yl)(h0:0<l.length)(hs:l.length≤1000):CnI Tryz.prog 168 [(SlA 3 [] (l.map InA)).va] (λ b=>(OwP (λ g=>b≤g) l).va):=by
 refine ⟨iQ Tryz.func168 zk zk,λ B w args hB ha=>?_⟩;obtain ⟨v,rfl,cs,⟨hD,A,c,ds,rfl,h1,h2,h3,h4⟩,hv⟩:=ha.one;have hv':v=.slice A l.length c:=by rw [hv,← qc (f:=InA)];rfl
 subst hv';obtain ⟨b,o,rfl,_,_,h5⟩:=h4 (by rw [qc];exact h0);have hds:=pU h3;refine (tF b o l.length c l w G h0 zo (λ j hj=>h5 j _ (by rw [hds];simp [hj]))).mono λ e w' ⟨g,c',ext,he,h6,h7,h8,h10,h9,hg⟩=>⟨_,he,⟨[.slice (some ⟨g,0,none⟩) l.length c'],⟨⟨_,rfl,int_nD.1,int_nD.2,_,gy l,by rw [qc,qc,zP],.inr ⟨g,c',_,by rw [qc],qf hB h6,h9,by rw [qc];exact h7,h8,?_,?_⟩⟩,λ u hu g' hg'=>?_⟩,rfl⟩,hg⟩
 ·rw [z8,qu,qc,zP];exact h10
 ·rw [qc,zP];show ((l.map λ (x:Int)=>Value.int .i64 x)++ext).take l.length=_;exact List.take_left' (by rw [qc])
 ·obtain rfl:=qn.1 hu;have:g=g':=by simpa [blk] using hg'
  omega
abbrev SlW (l:List Int):As:=OwnC 3 1 [] (l.map InA)
theorem Ps {l:Yl}:WkA (SlW l) (SlA 3 [] (l.map InA)):=ownC_AI
theorem FI {l:Yl}:FreeA (SlW l) (SlW l):=⟨rfl,rfl,λ B B' cs w hB hp=>by
 obtain ⟨v,rfl,h1,h2,ds,h3,h4,h5⟩:=hp;refine ⟨v,rfl,h1,h2,ds,by rw [pU h3];exact gy l,h4,?_⟩;rcases h5 with h5|⟨g,cap,cur,e1,e2,e3⟩
 ·exact .inl h5
 ·exact .inr ⟨g,cap,cur,e1,qf hB e2,e3⟩⟩
theorem JV:WkA (EqA (.slice none 0 0)) (SlW []):=⟨rfl,rfl,λ B cs w h=>by
 obtain ⟨rfl,_⟩:=h;exact ⟨_,rfl,mJ B _ w rfl⟩⟩
theorem Ev {lo hi:Nat}{Tp Tc:Yq}{q:Nat→Prop}{l:Yl}(hE:Tc.contains 3=false)(hl:offD (Tc++Tp) (cat (l.map InA)).deps=true)(hq:∀ g,q g→¬ (lo≤g∧g<hi)):StVA lo hi Tp Tc (OwP q l):=by
 rintro B cs gs W W' hlo ⟨⟨v,rfl,h1,h2,ds,h3,h4,h5⟩,h6⟩ hs hc hb;refine ⟨⟨v,rfl,h1,h2,ds,cJ hl _ _ _ _ _ hlo h3 hs hc hb,h4,?_⟩,h6⟩;rcases h5 with h5|⟨g,cap,cur,rfl,e2,e3,e4⟩
 ·exact .inl h5
 ·refine .inr ⟨g,cap,cur,rfl,e2,?_,e4⟩;rw [hs.block g (Array.getElem?_eq_some_iff.1 e3).1 (λ hF=>?_)]
  ·exact e3
  ·rcases hF with hF|⟨q1,q2,_⟩
   ·obtain ⟨c2,T,fz2,k1,k2⟩:=hc g hF;rw [e3] at k1;injection k1 with k1;injection k1 with _ k1 _;rw [← k1] at k2;have hE':3 ∉ Tc:=by simpa using hE
    exact hE' k2
   ·exact hq g (h6 _ (qn.2 G) g G) ⟨q1,q2⟩
def WyV (q:Nat→Prop)(k:Nat)(x:WyQ):As:=cat [OwP q x.l,QA k x.pw,QA k x.aw,InA x.c]
theorem LR {q:Nat→Prop}{x:WyQ}:WkA (WyV q k x) (WyA k x):=br (.cons Q3 (.cons (.refl _) (.cons (.refl _) (.cons (.refl _) .nil))))
theorem lX:Str Tryz.prog 98 [EqA (.slice none 0 0),cat [NilI,NilI],NumA .i64 0] :=
 Str.of (z:=.agg #[.slice none 0 0,.bool false,.slice none 0 0,.bool false,.slice none 0 0,.int .i64 0]) zk vY zk λ B w=>⟨[[.slice none 0 0],[.bool false,.slice none 0 0,.bool false,.slice none 0 0],[.int .i64 0]],rfl,.cons ⟨rfl,rfl⟩ (.cons ⟨[[.bool false,.slice none 0 0],[.bool false,.slice none 0 0]],rfl,.cons ⟨[[.bool false],[.slice none 0 0]],rfl,.cons rfl (.cons rfl .nil)⟩ (.cons ⟨[[.bool false],[.slice none 0 0]],rfl,.cons rfl (.cons rfl .nil)⟩ .nil)⟩ (.cons rfl .nil))⟩
structure RCh where
 l:List Int
 pw:RF
 c:Int
def ch0:RCh:=⟨[],rf0,0⟩
def ChD (x:RCh):As:=cat [SlW x.l,RFD x.pw,InA x.c]
abbrev BsD (r:RCh × Int):VA:=Tu [(ChD r.1).va,In r.2]
theorem FN {r:RCh × Int}:Free (BsD r) (BsD r):=pA (.cons (bN (.cons FI (.cons FK (.cons (co _ _) .nil)))).va (.cons (co _ _).va .nil))
theorem zch_d:WkA (cat [EqA (.slice none 0 0),cat [NilI,NilI],NumA .i64 0]) (ChD ch0):=br (.cons JV (.cons zf_rfd (.cons (.refl _) .nil)))
def bsW (f:Nat→WyQ):Nat→WyQ
 | 0=>⟨[],0,0,0⟩
 | k+1=>if ((((k:Nat):Int)==0) || betF (f k) (bsW f k))=true then f k else bsW f k
theorem HU {f:Nat→WyQ}:∀ {k},k≠0→∃ j,j<k∧bsW f k=f j
 | 0,h=>absurd rfl h
 | k+1,_=>by
  unfold bsW;by_cases h:((((k:Nat):Int)==0) || betF (f k) (bsW f k))=true
  ·rw [qC h];exact ⟨k,Nat.lt_succ_self k,rfl⟩
  ·rw [qz h];have hk:k≠0:=λ e=>by subst e;simp at h
   obtain ⟨j,h1,h2⟩:=HU (f:=f) hk;exact ⟨j,kP h1,h2⟩
abbrev BeO (q:Nat→Prop)(b k:Nat)(x:WyQ):As:=cat [optA k (EqA (.slice none 0 0)) (OwP q x.l) ⟨rfl,rfl⟩,optA k (RFA rf0) (QA b x.pw) ⟨rfl,rfl⟩,optA k (RFA rf0) (QA b x.aw) ⟨rfl,rfl⟩,optA k (NumA .i64 0) (InA x.c) ⟨rfl,rfl⟩]
theorem be_0 {q:Nat→Prop}{x:WyQ}:WkA WyZ (BeO q b 0 x):=br (.cons yA (.cons yA (.cons yA (.cons yA .nil))))
theorem be_s {q:Nat→Prop}{x:WyQ}:WkA (WyV q b x) (BeO q b (k+1) x):=br (.cons (yz (xT k)) (.cons (yz (xT k)) (.cons (yz (xT k)) (.cons (yz (xT k)) .nil))))
theorem be_x {q:Nat→Prop}{x:WyQ}(h:k≠0):WkA (BeO q b k x) (WyV q b x):=br (.cons (yy h) (.cons (yy h) (.cons (yy h) (.cons (yy h) .nil))))
theorem be_k {q:Nat→Prop}{x:WyQ}(h:k≠0):WkA (BeO q b k x) (BeO q b (k+1) x):=(be_x h).trans be_s
theorem R6 {q:Nat→Prop}{b k lo hi:Nat}{x:WyQ}(hq:∀ g,q g→¬ (lo≤g∧g<hi)):StVA lo hi [3] [30,31] (BeO q b k x):=ud λ A hA=>by
 simp only [qr,zq,or_false] at hA;rcases hA with rfl|rfl|rfl|rfl
 ·exact uc (cJ zk) (λ _=>Ev zd (uR _) hq)
 ·exact cJ zk
 ·exact cJ zk
 ·exact cJ zk
section
open Rg
variable {P:Program}{Q:Exit→Act→World→Prop}{R:Rg}{B i:Nat}{w0:Bs}
theorem MS {q:Nat→Prop}{l:Yl}{h:(OwP q l).n=(EqA (.slice none 0 0)).n∧(OwP q l).ag=(EqA (.slice none 0 0)).ag}{yt:Yh}(hS:P.underlying S=some (.slice E))(hx:Has R B w0 i x (optA k (EqA (.slice none 0 0)) (OwP q l) h).va)(hl:k≠0→0<l.length):Wv P Q R B w0 i (.binOp .eql S x (.const (.slice none 0 0)) yt) (Bo (((k:Nat):Int)==0)) :=
 bk λ d T ps af gd a w av=>by
  obtain ⟨cs,hp,hv⟩:=hx a w av;have e2:a.eval (.const (.slice none 0 0))=.slice none 0 0:=rfl;rcases hp with ⟨hk,hp⟩|⟨hk,hp,_⟩
  ·obtain ⟨rfl,_⟩:=hp;have e1:a.eval x=.slice none 0 0:=hv;have hq:=Lib.run_eql_slice_nil w S E none 0 0 0 0 hS;have hg:(eqGuard .eql S x (.const (.slice none 0 0)) (.slice none 0 0) (.slice none 0 0)).run P w=.ok () w:=by unfold eqGuard;split <;> rfl
   refine ⟨.bool true,w,?_,Grow.refl w,by subst hk;exact dJ _ _ _⟩;simp only [execOp,e1,e2,Sem.run_bind,hg,hq,Result.andThen_ok,Sem.run_pure]
   rfl
  ·obtain ⟨_,A,c,ds,rfl,_,_,_,h4⟩:=ownC_AI.2.2 _ _ _ hp;obtain ⟨b,o,rfl,_⟩:=h4 (by rw [qc];exact hl hk);have e1:a.eval x=.slice (some ⟨b,o,none⟩) (l.map InA).length c:=hv;have hq:=Lib.run_eql_slice_nil w S E (some ⟨b,o,none⟩) (l.map InA).length c 0 0 hS;have hg:(eqGuard .eql S x (.const (.slice none 0 0)) (.slice (some ⟨b,o,none⟩) (l.map InA).length c) (.slice none 0 0)).run P w=.ok () w:=by unfold eqGuard;split <;> rfl
   refine ⟨.bool false,w,?_,Grow.refl w,?_⟩
   ·simp only [execOp,e1,e2,Sem.run_bind,hg,hq,Result.andThen_ok,Sem.run_pure]
    rfl
   ·rw [show (((k:Nat):Int)==0)=false from by simpa using hk];exact dJ _ _ _
theorem Jk {f':Yn}{pre:Yc}{mk:Nat→VA}{A:VA}{at_:Yr}(hc:CnI P f' pre mk)(hx:HasL R B w0 i xs pre)(hm:∀ b,w0.w.heap.size≤b→Wk (mk b) A):Wv P Q R B w0 i (.call ⟨.value (.func f'),xs.toArray,at_⟩) A:=by
 intro d T' ps af gd a w av K hK;obtain ⟨⟨fn,hf,hn,hb⟩,hcall⟩:=hc;have hrun:(execOp a.eval ⟨some d,.call ⟨.value (.func f'),xs.toArray,at_⟩,T',ps,af,gd⟩).run P w=.ok (.enter f' (xs.map a.eval).toArray) w:=by
  have e1:a.eval (.func f')=.func (.func f') #[] #[]:=rfl;simp only [execOp,resolve,e1,Deferred.ofValue,Sem.run_bind,Sem.run_pure,Result.andThen_ok,invoke,bi hf hn hb];simp
 unfold Oper.wp;rw [hrun];refine (hcall B w _ (Av.bw av) (hx.all av)).mono λ e w' ⟨v,he,h1,hg⟩=>?_;subst he;exact hK v w' hg (hm _ av.base.size _ _ _ h1)
end
theorem all_nil (t:RTk):CnI Tryz.prog 31 [(TkO t).va,EqV (.slice none 0 0)] (λ b=>ItB b 116 (alC t []) alDs (al_D t [])) :=
 ⟨(E4 t []).1,λ B w args hB ha=>(E4 t []).2 B w args hB (by
  obtain ⟨v1,v2,rfl,h1,h2⟩:=All2.two ha;have h2':v2=.slice none 0 0:=h2;subst h2';exact .cons h1 (.cons ⟨_,⟨trivial,(λ A hA=>by cases hA),none,0,[],rfl,qi _,zx _,⟨[],rfl,.nil⟩,λ h=>absurd h zd⟩,rfl⟩ .nil))⟩
abbrev WyW (b:Nat)(x:WyQ):As:=cat [SlW x.l,QA b x.pw,QA b x.aw,InA x.c]
theorem Ic {q:Nat→Prop}{x:WyQ}(hq:∀ g,q g→B≤g)(h:(WyV q b x).p B cs w):(WyW b x).p B cs w:=by
 obtain ⟨ps,rfl,h2⟩:=h;refine ⟨ps,rfl,?_⟩;cases h2 with
 | cons h1 h2=>exact .cons h1.1 h2
def bstN (t:RTk):WyQ:=bsW (λ k=>wayW t (exW t.ps.length [] (t.sp.length-1) 0 k)) (cntW t.ps.length 0 (t.sp.length-1) 0)
def lR (t:RTk):RCh × Int:=if (ckF t != 0)=true then (ch0,ckF t) else if dX (bstN t).pw=true then (ch0,4) else (⟨(bstN t).l,rfOf (bstN t).pw,(bstN t).c⟩,0)
theorem C2 {x:Rat}:[x].any dX=dX x:=by simp
set_option maxHeartbeats 2000000 in
theorem P2 (t:RTk):Cn Tryz.prog 89 [(TkA t).va] (BsD (lR t)):=by
 refine Cn.introR Tryz.func89 G zk nq (.cons (u5 t).va .nil) FN (λ B w0 a hB0 hN0 U=>?_);have U:=zn [(0,(TkO t).va)] [] U;refine qb<|zg [] [zpL 1 30 0 _,zpL 2 98 1 _] [.alc 0,.alc 1,.v 3 _] Ud U (zW 0 G (zY G (Str.zero lX) (zE G ab))) (zz RP Si ?_);refine ztA<|zsA<|zgA UF [] (W6 8 [.v 4 _]) Ui (zl 0 G cp (zQ G ((lY t).wk (.cons tko_A.va .nil)) (.o (vq 0 G)) (zA 1 G o0))) (zz (Wc 3 4) Si ?_);refine ztA<|zgA UF [] (W6 10) UI (zM 1 G (zv G (ca (vq 0 G) ab) o0)) (zz (Wa 3 4 11) Si λ a w U=>?_);refine zJ 2 U G (λ hb0=>?_) (λ hb0=>?_)
 ·refine qb<|zg [η,some (2,_)] [] (W6 12 [.sto 1,.v 3 _]) UJ U (zv G (aT (qs:=[]) lX .nil) (zM 1 G (zS 0 G sG (zA 1 G o0)))) (zz RP Si λ a w U=>?_);refine aa<|qh<|aj ?_;refine al ?_ (aP (rs:=[.cell 2 98,.tmp 3]) G U (.cell (zm 1 G) sG (.tmp (zm 0 G) .nil)) zd);rw [show lR t=(ch0,ckF t) from qC hb0];exact tu2w zch_d.va aG
 ·have hck:ckF t=0:=by simpa using hb0
  obtain ⟨hs2,hs13,hp1,_⟩:=hd_b (ft hck).1;obtain ⟨nn,hnn⟩:∃ nn,t.sp.length=nn+1:=⟨t.sp.length-1,by omega⟩;have hn12:nn≤12:=by omega
  have hcp:0<cntW t.ps.length 0 nn 0:=iP zo _ _;have hbN:bstN t=bsW (λ k=>wayW t (exW t.ps.length [] nn 0 k)) (cntW t.ps.length 0 nn 0):=by unfold bstN;rw [hnn];rfl
  refine qj<|zt<|zg UH [zpL 5 82 0 _] [.alc 2] UL U (zY G (Str.zero eZ) o0) (zz RP Sj λ a w U=>?_);refine zt<|qb ?_;obtain ⟨q2,U⟩:=U.nm 1 rfl;obtain ⟨q5,U⟩:=U.nm 2 rfl;refine zg US [] (W6 14) WX U (zl 0 G cp (zv G (oL [(2,q2),(5,q5)] (all_nil t) (.cons (vq 0 G) (.cons aX .nil)) (.cons (gq 1 G) (lz0 1 G) (.cons (gq 0 G) (lz0 2 G) .nil))) o0)) (zz (Wf 5 2 3 15) Sj λ a w U=>?_);obtain ⟨gb,U,hds⟩:=St.itm (ps:=[(2,q2),(5,q5)]) 3 [1,0] U rfl ⟨rfl,rfl,trivial⟩;have U:=zn (Wf 5 2 3 15) Sj U;refine aa<|qk ?_;have U:=U.selL [1,2];refine iD (k0:=3) (gb:=gb) (Dd:=[30,31,121,122,U32,28,124]) (Db:=[98,82]) (Tp:=[3]) [⟨2,98,ptrH,cat [EqA (.slice none 0 0),cat [NilI,NilI],NumA .i64 0]⟩,⟨5,82,ptrH,WyZ⟩] (λ hi k=>[⟨2,98,ptrH,cat [EqA (.slice none 0 0),cat [NilI,NilI],NumA .i64 0]⟩,⟨5,82,ptrH,BeO (λ g=>hi≤g∧B≤g) (Wk26 nn) k (bsW (λ k=>wayW t (exW t.ps.length [] nn 0 k)) k)⟩]) none (λ _=>none) U hB0 hN0 rfl (tS hck hnn ⟨zx _,λ x hx=>by cases hx⟩ gb) (M:=cntW t.ps.length 0 nn 0) (Y:=λ k=>[(WyX t nn (exW t.ps.length [] nn 0 k)).va]) (λ h=>by cases h) zk [] zk trivial (λ hi k=>by kernel_rfl) (λ lo hi k hk hlo hw=>stVL ⟨cJ zk,R6 (λ g hg h=>by omega),trivial⟩) (λ _=>by kernel_rfl) zk [2,5] (λ _ k=>by kernel_rfl) zk zk hds (λ L hL=>by cases hL) (λ _ L hL=>by cases hL) (λ _=>rfl) zd zk (λ hi Γ a W hhi h=>St.wkL h 1 rfl be_0) hcp (λ l lo hi k a1 Ws hk hlo1 hlo2 hhi hBs hct U=>?_) (λ hi a w U=>?_) (λ L hL=>by cases hL) (λ _ L hL=>by cases hL)
  ·obtain ⟨a0,rfl⟩:∃ x,x=a:=⟨_,rfl⟩;have hlw:0<(wayW t (exW t.ps.length [] nn 0 k)).l.length:=by show 0<(List.map _ _).length;rw [qc,pN];omega
   have U:St B (rndB B [98,82] (gb++List.range' lo (hi-lo)) Ws Ws) 46 [(16,_),(2,_),(5,_)] [⟨2,98,ptrH,cat [EqA (.slice none 0 0),cat [NilI,NilI],NumA .i64 0]⟩,⟨5,82,ptrH,BeO (λ g=>hi≤g∧B≤g) (Wk26 nn) k (bsW (λ k=>wayW t (exW t.ps.length [] nn 0 k)) k)⟩] a1 Ws:=U;refine m8 0 [0,1,2] U G G G zk (ej λ _ _ h=>h) (Str.zero eZ) G gE G zd G zk zk (λ a w U=>?_);have U:St B (rndB B [98,82] (gb++List.range' lo (hi-lo)) Ws Ws) 46 [(16,_),(2,_),(5,_)] [O 2 98 _,O 5 82 _,O 6 82 _] a w:=U;refine aa<|⟨U.base,λ W3 hbg=>?_⟩;have hlw2:(wayW t (exW t.ps.length [] nn 0 k)).l.length≤1000:=by show (List.map _ _).length≤1000;rw [qc,pN];omega
   have hlb:k≠0→0<(bsW (λ k=>wayW t (exW t.ps.length [] nn 0 k)) k).l.length:=λ hk0=>by
    obtain ⟨j,_,hj⟩:=HU (f:=(λ k=>wayW t (exW t.ps.length [] nn 0 k))) hk0;rw [hj];show 0<(List.map _ _).length;rw [qc,pN];omega
   have hW3a:=U.base.size;have hW3b:W3.heap.size=w.heap.size:=by obtain ⟨_,_,_,he⟩:=hbg;rw [he,World.putObj_size]
   have hW3:hi≤W3.heap.size:=by rw [hW3b];exact qf hhi hW3a
   have hB3:B≤W3.heap.size:=by rw [hW3b];exact qf hBs hW3a
   have U:=U.begin (qi _) hBs hbg;refine wpIn_block ?_;refine wpIn_seq ?_;refine eH (sts:=[none,none,none]) (news:=[]) (sp:=[.adr 17 5 (.some 0) True,.v 18 _,.v 19 _,.v 20 _,.f 21 _,.f 22 _,.f 23 _,.v 24 _]) [.g 0,.g 1,.g 2,.o 7] zk (ej λ _ _ h=>h) U (zO 1 G gu (zL 0 1 0 G eJ (zv G (MS qE (vq 1 G) hlb) (zV 2 G (zB 3 G (λ hg=>eL (lz0 2 G) gE) (zB 3 G (λ hg=>eL (lz0 1 G) gE) (zB 3 G (λ hg=>be ((wZ (gM hn12) _ _).wk (.cons aG (.cons ((be_x (k_ne hg)).trans LR).va .nil))) (.p (ae (vq 4 G) hg) (ae (vq 5 G) hg))) (zv G (r_or (vq 3 G) (vq 6 G)) o0)))))))) zk zk zk (λ a w U=>?_);have U:St B (rndB B [98,82] (gb++List.range' lo (hi-lo)) Ws W3) 46 [(16,_),(2,_),(5,_),(24,_)] [O 2 98 _,O 5 82 _,O 6 82 _] a w:=U;refine aa<|ly (λ a w =>  St B (rndB B [98,82] (gb++List.range' lo (hi-lo)) Ws W3) 46 [(2,EqV (a0.eval (.tmp 2))),(5,EqV (a0.eval (.tmp 5)))] [⟨2,98,ptrH,cat [EqA (.slice none 0 0),cat [NilI,NilI],NumA .i64 0]⟩,⟨5,82,ptrH,BeO (λ g=>hi≤g∧B≤g) (Wk26 nn) (k+1) (bsW (λ k=>wayW t (exW t.ps.length [] nn 0 k)) (k+1))⟩,⟨6,82,ptrH,WyX t nn (exW t.ps.length [] nn 0 k)⟩] a w) U (zm 3 G) (λ hb1=>?_) (λ hb1=>?_) (λ a w U=>?_)
   ·refine wpIn_seq ?_;refine eH (sts:=[none,none,some (4,_)]) (news:=[]) (sp:=[.adr 25 6 (.some 0) True,.v 26 _,.v 27 _,.adr 28 6 (.some 0) True,.sto 2]) [.g 0,.g 1,.g 2] zk (ej λ _ _ h=>h) U (zO 2 G gu (zL 0 2 0 G eJ (zv G (Jk (A:=(OwP (λ g=>hi≤g∧B≤g) (wayW t (exW t.ps.length [] nn 0 k)).l).va) (Gk _ hlw hlw2) (.o (vq 1 G)) (λ b hb=>(Fe (λ g hg=>⟨qf hW3 (qf hb hg),qf hB3 (qf hb hg)⟩)).va)) (zO 2 G gu (oc (df 3 G G G G zk (vq 2 G) eJ (Put.part 0 G G G)) o0))))) zk zk zk (λ a w U=>?_);have U:St B (rndB B [98,82] (gb++List.range' lo (hi-lo)) Ws W3) 46 [(16,_),(2,_),(5,_)] [O 2 98 _,O 5 82 _,O 6 82 _] a w:=U;refine aa<|eH (sts:=[none,some (1,_),none]) (news:=[]) (sp:=[.v 29 _,.sto 1]) [.g 0,.g 1,.g 2] zk (ej λ _ _ h=>h) U (zl 2 G gE (zS 0 G gE o0)) zk zk zk (λ a w U=>?_);have U:St B (rndB B [98,82] (gb++List.range' lo (hi-lo)) Ws W3) 46 [(16,_),(2,_),(5,_)] [O 2 98 _,O 5 82 _,O 6 82 _] a w:=U;refine aa ?_;have U:=U.sel [1,2];have U:=U.wkL 2 rfl LR;exact U.wkL 1 G (by rw [show bsW (λ k=>wayW t (exW t.ps.length [] nn 0 k)) (k+1)=wayW t (exW t.ps.length [] nn 0 k) from qC hb1];exact be_s)
   ·refine wpIn_skip ?_;refine aa ?_;have U:=U.sel [1,2];exact U.wkL 1 G (by rw [show bsW (λ k=>wayW t (exW t.ps.length [] nn 0 k)) (k+1)=bsW (λ k=>wayW t (exW t.ps.length [] nn 0 k)) k from qz (λ h=>Bool.noConfusion (xE hb1.symm h))];exact be_k (Kp hb1))
   refine ak ?_;have U:=U.selL [0,1];exact ⟨(λ h=>by cases h),oJ [0,1] U ⟨rfl,⟨rfl,trivial⟩⟩⟩
  ·have U:=zn [] Sk U;obtain ⟨m,hm⟩:∃ m,cntW t.ps.length 0 nn 0=m:=⟨_,rfl⟩;rw [hm] at U hcp;have U:=U.wkL 1 rfl (be_x zo);have U:=U.upL 1 rfl (λ cs h=>Ic (λ g hg=>hg.2) h);refine ak ?_;refine zt<|qb<|zg UH [] (.adr 30 5 (.some 1) True::(Wb 31 [.v 7 _])) UP U (zO 1 G fo (zL 0 1 1 G ax (zv G (bR (D:=[U32]) (l:=[_]) (xs:=[.tmp 31]) (cO zk) du zk (n_ok zk) nq nq nq (.o (vq 1 G)) G G) (zQ G (r5 [(bsW (λ k=>wayW t (exW t.ps.length [] nn 0 k)) m).pw] (.cons ⟨_,rfl⟩ .nil) nq) (.o (vq 2 G)) (zA 3 G o0))))) (zz [(7,_)] Sk ?_);refine ztA<|zgA UF [] (W6 34) Rj (zM 0 G (zv G (ca (vq 0 G) ab) o0)) (zz (Wc 7 35) Sk λ a w U=>?_);refine zJ 1 U G (λ hb2=>?_) (λ hb2=>?_)
   ·rw [r6,C2] at hb2;refine qb<|zg [some (2,_),η] [] (W6 36 [.sto 0,.v 3 _]) UJ U (zv G (aT (qs:=[]) lX .nil) (zM 0 G (zS 0 G sG (zA 1 G o0)))) (zz RP Sk λ a w U=>?_);refine aa<|qh<|aj ?_;refine al ?_ (aP (rs:=[.cell 2 98,.tmp 3]) G U (.cell (zm 0 G) sG (.tmp (zm 0 G) .nil)) zd);have e:lR t=(ch0,4):=by rw [lR,qz (by rw [hb0];decide),qC (by rw [hbN,hm];exact hb2)]
    rw [e];exact tu2w zch_d.va (ba (by rw [C2,hb2];rfl))
   ·rw [r6,C2] at hb2;refine qj<|zt<|zgd [[],[0],[],[2],[2,3],[],[5],(Wm 7),(Wm 8),(Wm 9)] [some (8,_),none] [] (.adr 38 5 (.some 0) True::.v 39 _::.adr 40 5 (.some 1) True::(W6 41 (.adr 43 5 (.some 9) True::(W6 44 [.sto 0,.v 3 _])))) [.o 9] ac U (zO 1 G gu (zL 0 1 0 G eJ (zO 1 G fo (zL 2 1 1 G ax (zQ G (nf (qf (gM hn12) zd)) (.o (vq 3 G)) (zO 1 G iI (zL 5 1 3 G ty_3 (zv G (aT (qs:=[(0,_),(1,_),(2,_)]) lX (.cons ⟨rfl,vq 1 rfl,rfl⟩ (.cons ⟨rfl,vq 4 rfl,rfl⟩ (.cons ⟨rfl,vq 6 rfl,rfl⟩ .nil)))) (zS 7 G sG (zE G ab)))))))))) zk zk zk zk (zz RP Sk λ a w U=>?_);refine aa<|qh<|al ?_ (aP (rs:=[.cell 2 98,.tmp 3]) G U (.cell (zm 0 G) sG (.tmp (zm 0 G) .nil)) zd);have e:lR t=(⟨(bsW (λ k=>wayW t (exW t.ps.length [] nn 0 k)) m).l,rfOf (bsW (λ k=>wayW t (exW t.ps.length [] nn 0 k)) m).pw,(bsW (λ k=>wayW t (exW t.ps.length [] nn 0 k)) m).c⟩,0):=by rw [lR,qz (by rw [hb0];decide),qz (by rw [hbN,hm,hb2];decide),hbN,hm]
    rw [e];exact tu2w (br (.cons (.refl _) (.cons qd_rfd (.cons (.refl _) .nil)))).va aG
deriving instance DecidableEq for RPt
deriving instance DecidableEq for RTk
def PtT (x:RPt):As:=cat [EqA (.string x.nm),RET x.e,InA x.c]
theorem Ih {x:RPt}:WkA (PtT x) (PtA x):=br (.cons (.refl _) (.cons Ig (.cons (.refl _) .nil)))
theorem wv :FreeA (EqA v) (EqA v):=⟨rfl,rfl,λ _ _ _ _ _ h=>h⟩
theorem FM (x:RPt):FreeA (PtT x) (PtT x):=bN (.cons wv (.cons (FL _) (.cons (co _ _) .nil)))
theorem CY:FreeA (REA ⟨0,rf0,rf0⟩) (REA ⟨0,rf0,rf0⟩):=bN (.cons (co _ _) (.cons rZ (.cons rZ .nil)))
theorem CZ:FreeA (PtA ⟨⟨#[]⟩,⟨0,rf0,rf0⟩,7777⟩) (PtA ⟨⟨#[]⟩,⟨0,rf0,rf0⟩,7777⟩):=bN (.cons wv (.cons CY (.cons (co _ _) .nil)))
theorem yT:FreeA (RFA ⟨⟨true,[]⟩,⟨false,[]⟩⟩) (RFA ⟨⟨true,[]⟩,⟨false,[]⟩⟩):=bN (.cons (bN (.cons (ep _) (.cons mc .nil))) (.cons (bN (.cons (ep _) (.cons mc .nil))) .nil))
theorem N3 {x y:RPt}:((decide (x.nm=y.nm)&&decide (x.e=y.e))&&(x.c==y.c))=decide (x=y):=by
 obtain ⟨a,b,c⟩:=x;obtain ⟨d,e,f⟩:=y;by_cases h1:a=d <;> by_cases h2:b=e <;> by_cases h3:c=f <;> simp [h1,h2,h3]
section
open Rg
variable {P:Program}{Q:Exit→Act→World→Prop}{R:Rg}{B i:Nat}{w0:Bs}
theorem DS (p q:ByteArray):(p.toList==q.toList)=decide (p=q):=by
 rw [jr,xv,qI];exact ⟨λ h=>Go.WideShapes.bytes_inj (by rw [← ByteArray.toList_eq,← ByteArray.toList_eq,h]),λ h=>h▸rfl⟩
theorem H9 {xt yt:Yh}{p q:ByteArray}(hx:Has R B w0 i x (EqA (.string p)).va)(hy:Has R B w0 i y (EqA (.string q)).va):Wv P Q R B w0 i (.binOp .eql xt x y yt) (Bo (decide (p=q))) :=
 bk λ _ _ _ _ _ a w av=>by
  have e1:=lM (hx a w av);have e2:=lM (hy a w av);exact ⟨.bool (decide (p=q)),w,(by simp [execOp,e1,e2,eqGuard,binOp,Op.stringOp,DS]),Grow.refl w,dJ _ _ _⟩
end
theorem yg (x:RPt)(hx:bdF x.e.p∧bdF x.e.q):Cn Tryz.prog 98 [(PtA x).va] ((PtT x).va):=by
 refine Cn.intro Tryz.func98 G zk nq (zy [(0,(PtA x).va)] λ B w0 a U=>?_);refine qb<|zg [] [zpL 1 79 0 _,zpL 2 79 1 _] UU [] U (zW 0 G (zY G (Str.zero et) o0)) (zz [] [O 1 79 _,O 2 79 _] λ a w U=>?_);refine zt<|zgd [[],[0],[],[2],[2,3],[],[5],(Wm 7),(Wm 8)] [none,some (8,_)] [] (.adr 3 1 (.some 0) True::.v 4 _::.adr 5 1 (.some 1) True::(W6 6 (.adr 8 1 (.some 10) True::(W6 9 [.sto 1])))) [] ac U (zO 0 G e8 (zL 0 0 0 G ty_9 (zO 0 G dZ (zL 2 0 1 G dq (zQ G (ot _ hx) (.o (vq 3 G)) (zO 0 G dG (zL 5 0 2 G ty_3 (zv G (aT (qs:=[(0,_),(1,_),(2,_)]) et (.cons ⟨rfl,vq 1 rfl,rfl⟩ (.cons ⟨rfl,vq 4 rfl,rfl⟩ (.cons ⟨rfl,vq 6 rfl,rfl⟩ .nil)))) (zS 7 G i7 o0))))))))) zk zk zk zk (zz [] [O 1 79 _,O 2 79 _] λ a w U=>?_);refine aa<|qh<|al ?_ (au G U (zm 1 G) i7);exact aG
theorem yL (x y:RPt)(hx:bdF x.e.p∧bdF x.e.q):Cn Tryz.prog 166 [(PtT x).va,(PtA y).va] (Bo (decide (x=y))):=by
 refine Cn.intro Tryz.func166 G zk nq (zy [(0,(PtT x).va),(1,(PtA y).va)] λ B w0 a U=>?_);refine qb<|zg [] [zpL 2 79 0 _,zpL 3 79 1 _] UC Ud U (zW 0 G (zW 1 G (zE G aE))) (zz U3 [O 2 79 _,O 3 79 _] ?_);refine ztA<|zgA UF [] (.adr 5 2 (.some 0) True::.v 6 _::.adr 7 3 (.some 0) True::(Wb 8 (.adr 11 2 (.some 1) (_=true)::.t 12 _::.adr 13 3 (.some 1) (_=true)::.t 14 _::.t 15 _::(W6 16 [.adr 18 2 (.some 10) (_=true),.t 19 _,.adr 20 3 (.some 10) (_=true),.t 21 _,.t 22 _,.v 23 _,.v 4 _])))) [.o 19] (zO 0 G e8 (zL 0 0 0 G ty_9 (zO 1 G e8 (zL 2 1 0 G ty_9 (zv G (H9 (vq 1 G) (vq 3 G)) (zV 4 G (zC 5 0 G dZ (zB 5 G (λ hg=>aB 6 G zk hg (lz0 0 G) (Sub.part 1 G G) dq) (zC 5 1 G dZ (zB 5 G (λ hg=>aB 8 G zk hg (lz0 1 G) (Sub.part 1 G G) dq) (zB 5 G (λ hg=>be (pp _ _ hx) (.p (ae (vq 7 G) hg) (ae (vq 9 G) hg))) (zv G (bv (vq 5 G) (vq 10 G)) (zV 11 G (zC 12 0 G dG (zB 12 G (λ hg=>aB 13 G zk hg (lz0 0 G) (Sub.part 2 G G) ty_3) (zC 12 1 G dG (zB 12 G (λ hg=>aB 15 G zk hg (lz0 1 G) (Sub.part 2 G G) ty_3) (zB 12 G (λ hg=>bC (ae (vq 14 G) hg) (ae (vq 16 G) hg)) (zv G (bv (vq 12 G) (vq 17 G)) (zA 18 G o0)))))))))))))))))))) (zz U3 [O 2 79 _,O 3 79 _] λ a w U=>?_);refine aa<|qh<|al ?_ (am G U (zm 0 G));exact ba (qp Bo N3)
theorem tR:∃ it z,Tryz.prog.info? 28=some it∧it.zero=some z∧it.size=4∧it.bytes=64∧z.cells.size=4:=by
 have h:((Tryz.prog.info? 28).bind λ it=>it.zero.map λ z=>(it.size,it.bytes,z.cells.size))=some (4,64,4):=by kernel_rfl
 cases hi:Tryz.prog.info? 28 with
 | none=>rw [hi] at h;simp at h
 | some it =>
  rw [hi] at h;cases hz:it.zero with
  | none=>simp [hz] at h
  | some z =>
   simp [hz] at h;exact ⟨it,z,rfl,hz,h.1,h.2.1,h.2.2⟩
abbrev pX (xs:List RF):Prop:=∀ x∈xs,bdF x
theorem sJ (xs:List RF)(hl:xs.length≤10000000)(hx:pX xs):Cn Tryz.prog 21 [(SlA 28 [U32] (xs.map RFA)).va] (TwS 28 4 [U32] (xs.map RFT) (RFA ⟨⟨true,[]⟩,⟨false,[]⟩⟩)):=by
 obtain ⟨it,z,e1,e2,e3,e4,e5⟩:=tR;refine Cn.introW Tryz.func21 G zk nq (.cons (iY (cq eI)).va .nil) (pz (gi (cq pC) yT)) (λ B w0 a hB0 U=>?_);have U:=zn [(0,(SlO 28 [U32] (xs.map RFA) True).va)] [] U;refine qb<|zh UA Rk U (zE G aX) (zz Rl [] ?_);refine ztA<|zhA (W6 5 [.v 7 (In ((xs.length+1:Nat):Int)),.v 8 (OwnR w0.w.heap.size 28 4 [U32] []),.v 3 _]) Uz (zM 0 G (zv G (bg qQ (bz (aC (vq 0 G)))) (zv G (aL (vq 1 G) ab (ya zo)) (zv G (sS qQ e1 e2 e3 e4 e5 zd zd (xB hB0) ab (vq 2 G) zo) (zA 3 G o0))))) (zz UO [] ?_);refine ztA<|zsA<|zhA WR WS (zE G ab) (zz (Wa 0 3 4) [] λ a w U=>?_);refine aa<|qk ?_;have U:=U.sel [0,1,2];refine wp_loop_ghost (λ n a w=>∃ j:Nat,(n+j=xs.length)∧St B w0 31 [(0,(SlO 28 [U32] (xs.map RFA) True).va),(3,OwnR w0.w.heap.size 28 4 [U32] ((xs.take j).map RFT)),(4,In (j:Nat))] [] a w) (xs.length) ?_ ?_
 ·exact ⟨0,by omega,U⟩
 intro n a w hI;obtain ⟨j,hn,U⟩:=hI;refine qb<|qb<|zh (Ww 9) WV U (zM 2 G (zM 0 G (zv G (bg qQ (bz (aC (vq 1 G)))) (zv G (aN (vq 0 G) (vq 2 G)) o0)))) (zz (Wf 0 3 4 12) [] λ a w U=>?_);refine zJ 3 U G (λ hb0=>?_) (λ hb0=>?_)
 ·have hj:j<xs.length:=by simp at hb0;omega
  refine qj<|zt<|qk<|lr (sp:=[.v 15 _,.v 16 _,.v 17 _,.v 18 _,.v 19 _,.v 20 _,.v 21 _,.v 22 VT,.v 3 VT]) 7 [0,2] 0 6 U (zM 1 rfl (zM 0 rfl (zM 2 rfl (zv rfl (bB du (bX λ _=>rfl) (bz (aC (vq 1 rfl))) (vq 2 rfl) (bn hj)) (zv rfl (ao (vq 3 rfl) ax) (zQ rfl (fZ xs[j] (hx _ (qg hj))) (.o (vq 4 rfl)) (zv rfl (bR (D:=[U32]) (l:=[_]) (xs:=[.tmp 20]) (cO zk) du zk (n_ok zk) nq nq nq (.o (vq 5 rfl)) rfl rfl) o0))))))) rfl zk rfl rfl zd rfl zd rfl (λ _ _ h _=>h) qQ e1 e2 e3 e4 e5 zd (by simp only [qc,ze,z7];omega) zd (λ T hT=>hT) zd (λ A hA=>by obtain rfl:=qn.1 hA;rfl) zk nq nq zk zk (zz (Wa 3 0 4) [] λ a w U=>?_);refine ak ?_;refine aa<|zh (W6 13 [.v 4 _]) U1 U (zM 2 G (zv G (aL (vq 0 G) ab (aW zo)) (zA 1 G o0))) (zz (Wa 3 0 4) [] λ a w U=>?_);refine aa ?_;have U:=U.sel [1,0,2];exact ⟨n-1,by omega,j+1,by omega,St.wkG (A':=OwnR w0.w.heap.size 28 4 [U32] ((xs.take (j+1)).map RFT)) U 1 G (ba (qp (OwnR w0.w.heap.size 28 4 [U32]) (Bl hj)))⟩
 ·obtain rfl:j=xs.length:=by simp at hb0;omega
  refine qL<|ai<|ai<|az<|zt ?_;have U:=St.wkG (A':=OwnR w0.w.heap.size 28 4 [U32] (xs.map RFT)) U 1 rfl (ba (by rw [qH]));refine px (sp:=[.v 23 _,.v 24 _,.v 25 _,.v 26 _,.v 27 VT,.v 28 VT,.v 29 VT,.v 30 VT,.v 2 VT]) 4 [] 0 3 U (zM 1 rfl (zv rfl (aT (qs:=[(0,_)]) bu (.cons ⟨rfl,aE,rfl⟩ .nil)) (zv rfl (aT (qs:=[(0,_)]) aS (.cons ⟨rfl,vq 1 rfl,rfl⟩ .nil)) (zv rfl (bR (D:=[U32]) (l:=[RFA ⟨⟨true,[]⟩,⟨false,[]⟩⟩]) (xs:=[.tmp 25]) (cO zk) du zk (n_ok zk) nq nq nq (.o (vq 2 rfl)) rfl rfl) (o0))))) rfl zk rfl rfl rfl rfl rfl 0 rfl (λ B u w h=>by have h2:=AV B u w h;rw [qc] at h2;rw [qc];exact h2) zk zd rfl zd rfl (λ _ _ h _=>h) qQ e1 e2 e3 e4 e5 zd (by rw [qc];omega) zd (λ T hT=>hT) zd zk zd nq nq nq nq nq zk zk (zz Ux [] λ a w U=>?_);refine aa<|qh<|al ?_ (am G U (zm 0 G));exact aG
theorem ti (xs ys:List RF)(hl:ys.length≤10000000)(hx:pX xs):Cn Tryz.prog 86 [TwS 28 4 [U32] (xs.map RFT) (RFA ⟨⟨true,[]⟩,⟨false,[]⟩⟩),(SlA 28 [U32] (ys.map RFA)).va] (Bo (decide (xs=ys))):=by
 refine Cn.intro Tryz.func86 G zk nq (zy [(0,TwS 28 4 [U32] (xs.map RFT) (RFA ⟨⟨true,[]⟩,⟨false,[]⟩⟩)),(1,(SlA 28 [U32] (ys.map RFA)).va)] λ B w0 a U=>?_);obtain ⟨g,c,U⟩:=U.exK 0 rfl;have hcap:=ou (U.vals (0,_) (zm 0 rfl));rw [qc] at hcap;refine qb<|zh WR WS U (zE G aE) (zz WT [] ?_);refine ztA<|zsA<|zhA (Wl 7 [.f 13 _,.f 14 _,.f 15 _,.f 16 _,.f 17 _,.v 18 _]) (W7 [.o 11]) (zM 0 G (zv G (bg qQ (has_wk' (vq 0 G) mp)) (zM 1 G (zv G (bg qQ (vq 2 G)) (zv G (ca (vq 1 G) (vq 3 G)) (zV 4 G (zB 5 G (λ hg=>aq (gq 0 G)) (zB 5 G (λ hg=>BC qQ (ae (vq 6 G) hg)) (zB 5 G (λ hg=>aq (gq 1 G)) (zB 5 G (λ hg=>bg qQ (ae (vq 8 G) hg)) (zB 5 G (λ hg=>l9 (ae (vq 7 G) hg) (ae (vq 9 G) hg)) (zv G (r_or (vq 5 G) (vq 10 G)) o0)))))))))))) (zz (Wf 0 1 4 18) [] λ a w U=>?_);refine zJ 3 U G (λ hb0=>?_) (λ hb0=>?_)
 ·refine qb<|zh WR WS U (zE G aE) (zz WT [] λ a w U=>?_);refine aa<|qh<|aj ?_;refine al ?_ (am G U (zm 2 G));exact ba (qp Bo (te hcap.1 hb0))
 ·have hlen:=tf hb0;refine qj<|zt<|qb<|zh UY WZ U (zE G ab) (zz WW [] λ a w U=>?_);refine aa<|qk ?_;have U:=U.sel [0,1,3];refine wp_loop_ghost (λ n a w=>∃ j:Nat,(n+j=ys.length∧xs.take j=ys.take j)∧St B w0 59 [(0,TwK g c 28 4 [U32] (xs.map RFT) (RFA ⟨⟨true,[]⟩,⟨false,[]⟩⟩)),(1,(SlA 28 [U32] (ys.map RFA)).va),(5,In (j:Nat))] [] a w) (ys.length) ?_ ?_
  ·exact ⟨0,⟨by omega,rfl⟩,U⟩
  intro n a w hI;obtain ⟨j,⟨hn,ht⟩,U⟩:=hI;refine qb<|qb<|zh (Ww 19) WV U (zM 2 G (zM 1 G (zv G (bg qQ (vq 1 G)) (zv G (aN (vq 0 G) (vq 2 G)) o0)))) (zz (Wf 0 1 5 22) [] λ a w U=>?_);refine zJ 3 U G (λ hb1=>?_) (λ hb1=>?_)
  ·have hj2:j<ys.length:=by rw [qc] at hb1;simp at hb1;omega
   have hj:j<xs.length:=by omega
   refine qj<|zt<|qk<|qb<|zgd Sm [] [] (Wn 25) (W7 [.o 9]) ac U (zM 0 G (zM 2 G (zv G (bB du (bX λ _=>rfl) (has_wk' (vq 0 G) mp) (vq 1 G) (bn hj)) (zv G (ao (vq 2 G) ax) (zM 1 G (zM 2 G (zv G (bB du (bX λ _=>rfl) (vq 4 G) (vq 5 G) (bn hj2)) (zv G (ao (vq 6 G) ax) (zQ G (gk xs[j] ys[j] (hx _ (qg hj))) (.p (vq 3 G) (vq 7 G)) (zv G (dc (vq 8 G)) o0)))))))))) zk zk zk zk (zz (Wf 0 1 5 34) [] λ a w U=>?_);refine zJ 3 U G (λ hb2=>?_) (λ hb2=>?_)
   ·refine qb<|zh WR WZ U (zE G aE) (zz U0 [] λ a w U=>?_);refine aa<|qh<|aD ?_;refine aj ?_;refine aj ?_;refine aD ?_;refine aj ?_;refine al ?_ (am G U (zm 3 G));exact ba (qp Bo (oz hj2 hj hb2))
   ·refine qj<|ak ?_;refine aa<|zh (W6 23 [.v 5 _]) U1 U (zM 2 G (zv G (aL (vq 0 G) ab (aW zo)) (zA 1 G o0))) (zz (Wa 0 1 5) [] λ a w U=>?_);refine aa ?_;have U:=U.sel [0,1,2];exact ⟨n-1,by omega,j+1,⟨by omega,oA hj2 hj ht hb2⟩,U⟩
  ·obtain rfl:j=ys.length:=by rw [qc] at hb1;simp at hb1;omega
   refine qL<|ai<|ai<|az<|zt<|zg [] [⟨6,28,ptrH,some 9,_,some (10,_)⟩] (Wo 35 [.alc 0,.sto 0]) [] U (zM 0 G (zM 1 G (zv G (bg qQ (vq 1 G)) (zv G (aL (vq 2 G) ab (ya zo)) (zv G (sR du (vq 0 G) (has_wk' (vq 3 G) (ba (qp (λ k:Nat=>In ((k+1:Nat):Int)) (hlen.symm.trans (qc ..).symm))))) (zM 1 G (zv G (bg qQ (vq 5 G)) (zv G (bB du (gi (cq λ _=>rfl) G) (vq 4 G) (has_wk' (vq 6 G) (ba (qp (λ k:Nat=>In (k:Int)) (qc ..)))) (k:=ys.length) (by rw [List.getElem?_append_right (by rw [qc];omega),qc,hlen,xX];rfl)) (zv G (ao (vq 7 G) ax) (zY G (Str.zero aS) (zS 8 G ax o0))))))))))) (zz [] [O 6 28 _] λ a w U=>?_);refine zt<|zg U6 [] (.adr 44 6 (.some 0) True::.adr 45 6 (.some (0+0)) True::(W6 46 [.adr 48 6 (.some 0) (_=true),.adr 49 6 (.some (0+1)) (_=true),.t 50 _,.t 51 _,.adr 52 6 (.some 2) (_=true),.adr 53 6 (.some (2+1)) (_=true),.t 54 _,.t 55 _,.t 56 _,.t 57 _,.v 58 _,.v 4 _])) [.o 15] U (zO 0 G aZ (oc (ob_a G G (dT 0 G zk trivial (lz0 0 G) aY)) (zv G (aB 1 G zk trivial (lz0 0 G) (Sub.trans (Sub.part 0 G G) (Sub.part 0 G G) G) ty_4) (zV 2 G (zC 3 0 G aZ (oc (yC G G G (vq 3 G) nq (λ hg=>dT 4 G zk hg (lz0 0 G) ar)) (zB 3 G (λ hg=>aB 5 G zk hg (lz0 0 G) (Sub.trans (Sub.part 0 G G) (Sub.part 1 G G) G) bb) (zB 3 G (λ hg=>aK qd (ae (vq 6 G) hg)) (zC 3 0 G aU (oc (yC G G G (vq 3 G) nq (λ hg=>dT 8 G zk hg (lz0 0 G) ar)) (zB 3 G (λ hg=>aB 9 G zk hg (lz0 0 G) (Sub.trans (Sub.part 1 G G) (Sub.part 1 G G) G) bb) (zB 3 G (λ hg=>aK qd (ae (vq 10 G) hg)) (zB 3 G (λ hg=>aL (ae (vq 7 G) hg) (ae (vq 11 G) hg) (G)) (zB 3 G (λ hg=>bC (ae (vq 12 G) hg) ab) (zv G (bv (vq 3 G) (vq 13 G)) (zA 14 G o0)))))))))))))))) (zz U3 [O 6 28 _] λ a w U=>?_);refine aa<|qh<|al ?_ (am G U (zm 0 G));have e:xs=ys:=by rw [qF zo,qH] at ht;exact ht
   refine ba (qp Bo ?_);rw [qG e];rfl
theorem tQ:∃ it z,Tryz.prog.info? 79=some it∧it.zero=some z∧it.size=11∧it.bytes=160∧z.cells.size=11:=by
 have h:((Tryz.prog.info? 79).bind λ it=>it.zero.map λ z=>(it.size,it.bytes,z.cells.size))=some (11,160,11):=by kernel_rfl
 cases hi:Tryz.prog.info? 79 with
 | none=>rw [hi] at h;simp at h
 | some it =>
  rw [hi] at h;cases hz:it.zero with
  | none=>simp [hz] at h
  | some z =>
   simp [hz] at h;exact ⟨it,z,rfl,hz,h.1,h.2.1,h.2.2⟩
abbrev pW (xs:List RPt):Prop:=∀ x∈xs,bdF x.e.p∧bdF x.e.q
theorem sI (xs:List RPt)(hl:xs.length≤10000000)(hx:pW xs):Cn Tryz.prog 22 [(SlA 79 [U32] (xs.map PtA)).va] (TwS 79 11 [U32] (xs.map PtT) (PtA ⟨⟨#[]⟩,⟨0,rf0,rf0⟩,7777⟩)):=by
 obtain ⟨it,z,e1,e2,e3,e4,e5⟩:=tQ;refine Cn.introW Tryz.func22 G zk nq (.cons (iY (cq Az)).va .nil) (pz (gi (cq FM) CZ)) (λ B w0 a hB0 U=>?_);have U:=zn [(0,(SlO 79 [U32] (xs.map PtA) True).va)] [] U;refine qb<|zh UA Rk U (zE G aX) (zz Rl [] ?_);refine ztA<|zhA (W6 5 [.v 7 (In ((xs.length+1:Nat):Int)),.v 8 (OwnR w0.w.heap.size 79 11 [U32] []),.v 3 _]) Uz (zM 0 G (zv G (bg qM (bz (aC (vq 0 G)))) (zv G (aL (vq 1 G) ab (ya zo)) (zv G (sS qM e1 e2 e3 e4 e5 zd zd (xB hB0) ab (vq 2 G) zo) (zA 3 G o0))))) (zz UO [] ?_);refine ztA<|zsA<|zhA WR WS (zE G ab) (zz (Wa 0 3 4) [] λ a w U=>?_);refine aa<|qk ?_;have U:=U.sel [0,1,2];refine wp_loop_ghost (λ n a w=>∃ j:Nat,(n+j=xs.length)∧St B w0 30 [(0,(SlO 79 [U32] (xs.map PtA) True).va),(3,OwnR w0.w.heap.size 79 11 [U32] ((xs.take j).map PtT)),(4,In (j:Nat))] [] a w) (xs.length) ?_ ?_
 ·exact ⟨0,by omega,U⟩
 intro n a w hI;obtain ⟨j,hn,U⟩:=hI;refine qb<|qb<|zh (Ww 9) WV U (zM 2 G (zM 0 G (zv G (bg qM (bz (aC (vq 1 G)))) (zv G (aN (vq 0 G) (vq 2 G)) o0)))) (zz (Wf 0 3 4 12) [] λ a w U=>?_);refine zJ 3 U G (λ hb0=>?_) (λ hb0=>?_)
 ·have hj:j<xs.length:=by simp at hb0;omega
  refine qj<|zt<|qk<|lr (sp:=[.v 15 _,.v 16 _,.v 17 _,.v 18 _,.v 19 _,.v 20 _,.v 21 _,.v 22 VT,.v 3 VT]) 7 [0,2] 0 6 U (zM 1 rfl (zM 0 rfl (zM 2 rfl (zv rfl (bB fD (bX λ _=>rfl) (bz (aC (vq 1 rfl))) (vq 2 rfl) (bn hj)) (zv rfl (ao (vq 3 rfl) i7) (zQ rfl (yg xs[j] (hx _ (qg hj))) (.o (vq 4 rfl)) (zv rfl (bR (D:=[U32]) (l:=[_]) (xs:=[.tmp 20]) (cO zk) fD zk (n_ok zk) nq nq nq (.o (vq 5 rfl)) rfl rfl) o0))))))) rfl zk rfl rfl zd rfl zd rfl (λ _ _ h _=>h) qM e1 e2 e3 e4 e5 zd (by simp only [qc,ze,z7];omega) zd (λ T hT=>hT) zd (λ A hA=>by obtain rfl:=qn.1 hA;rfl) zk nq nq zk zk (zz (Wa 3 0 4) [] λ a w U=>?_);refine ak ?_;refine aa<|zh (W6 13 [.v 4 _]) U1 U (zM 2 G (zv G (aL (vq 0 G) ab (aW zo)) (zA 1 G o0))) (zz (Wa 3 0 4) [] λ a w U=>?_);refine aa ?_;have U:=U.sel [1,0,2];exact ⟨n-1,by omega,j+1,by omega,St.wkG (A':=OwnR w0.w.heap.size 79 11 [U32] ((xs.take (j+1)).map PtT)) U 1 G (ba (qp (OwnR w0.w.heap.size 79 11 [U32]) (Bl hj)))⟩
 ·obtain rfl:j=xs.length:=by simp at hb0;omega
  refine qL<|ai<|ai<|az<|zt ?_;have U:=St.wkG (A':=OwnR w0.w.heap.size 79 11 [U32] (xs.map PtT)) U 1 rfl (ba (by rw [qH]));refine px (sp:=[.v 23 _,.v 24 _,.v 25 _,.v 26 VT,.v 27 VT,.v 28 VT,.v 29 VT,.v 2 VT]) 3 [] 0 2 U (zM 1 rfl (zv rfl (aT (qs:=[(2,_)]) et (.cons ⟨rfl,ab,rfl⟩ .nil)) (zv rfl (bR (D:=[U32]) (l:=[PtA ⟨⟨#[]⟩,⟨0,rf0,rf0⟩,7777⟩]) (xs:=[.tmp 24]) (cO zk) fD zk (n_ok zk) nq nq nq (.o (vq 1 rfl)) rfl rfl) (o0)))) rfl zk rfl rfl rfl rfl rfl 0 rfl (λ B u w h=>by have h2:=AV B u w h;rw [qc] at h2;rw [qc];exact h2) zk zd rfl zd rfl (λ _ _ h _=>h) qM e1 e2 e3 e4 e5 zd (by rw [qc];omega) zd (λ T hT=>hT) zd zk zd nq nq nq nq nq zk zk (zz Ux [] λ a w U=>?_);refine aa<|qh<|al ?_ (am G U (zm 0 G));exact aG
theorem th (xs ys:List RPt)(hl:ys.length≤10000000)(hx:pW xs):Cn Tryz.prog 87 [TwS 79 11 [U32] (xs.map PtT) (PtA ⟨⟨#[]⟩,⟨0,rf0,rf0⟩,7777⟩),(SlA 79 [U32] (ys.map PtA)).va] (Bo (decide (xs=ys))):=by
 refine Cn.intro Tryz.func87 G zk nq (zy [(0,TwS 79 11 [U32] (xs.map PtT) (PtA ⟨⟨#[]⟩,⟨0,rf0,rf0⟩,7777⟩)),(1,(SlA 79 [U32] (ys.map PtA)).va)] λ B w0 a U=>?_);obtain ⟨g,c,U⟩:=U.exK 0 rfl;have hcap:=ou (U.vals (0,_) (zm 0 rfl));rw [qc] at hcap;refine qb<|zh WR WS U (zE G aE) (zz WT [] ?_);refine ztA<|zsA<|zhA (Wl 7 [.f 13 _,.f 14 _,.f 15 _,.f 16 _,.f 17 _,.v 18 _]) (W7 [.o 11]) (zM 0 G (zv G (bg qM (has_wk' (vq 0 G) mp)) (zM 1 G (zv G (bg qM (vq 2 G)) (zv G (ca (vq 1 G) (vq 3 G)) (zV 4 G (zB 5 G (λ hg=>aq (gq 0 G)) (zB 5 G (λ hg=>BC qM (ae (vq 6 G) hg)) (zB 5 G (λ hg=>aq (gq 1 G)) (zB 5 G (λ hg=>bg qM (ae (vq 8 G) hg)) (zB 5 G (λ hg=>l9 (ae (vq 7 G) hg) (ae (vq 9 G) hg)) (zv G (r_or (vq 5 G) (vq 10 G)) o0)))))))))))) (zz (Wf 0 1 4 18) [] λ a w U=>?_);refine zJ 3 U G (λ hb0=>?_) (λ hb0=>?_)
 ·refine qb<|zh WR WS U (zE G aE) (zz WT [] λ a w U=>?_);refine aa<|qh<|aj ?_;refine al ?_ (am G U (zm 2 G));exact ba (qp Bo (te hcap.1 hb0))
 ·have hlen:=tf hb0;refine qj<|zt<|qb<|zh UY WZ U (zE G ab) (zz WW [] λ a w U=>?_);refine aa<|qk ?_;have U:=U.sel [0,1,3];refine wp_loop_ghost (λ n a w=>∃ j:Nat,(n+j=ys.length∧xs.take j=ys.take j)∧St B w0 47 [(0,TwK g c 79 11 [U32] (xs.map PtT) (PtA ⟨⟨#[]⟩,⟨0,rf0,rf0⟩,7777⟩)),(1,(SlA 79 [U32] (ys.map PtA)).va),(5,In (j:Nat))] [] a w) (ys.length) ?_ ?_
  ·exact ⟨0,⟨by omega,rfl⟩,U⟩
  intro n a w hI;obtain ⟨j,⟨hn,ht⟩,U⟩:=hI;refine qb<|qb<|zh (Ww 19) WV U (zM 2 G (zM 1 G (zv G (bg qM (vq 1 G)) (zv G (aN (vq 0 G) (vq 2 G)) o0)))) (zz (Wf 0 1 5 22) [] λ a w U=>?_);refine zJ 3 U G (λ hb1=>?_) (λ hb1=>?_)
  ·have hj2:j<ys.length:=by rw [qc] at hb1;simp at hb1;omega
   have hj:j<xs.length:=by omega
   refine qj<|zt<|qk<|qb<|zgd Sm [] [] (Wn 25) (W7 [.o 9]) ac U (zM 0 G (zM 2 G (zv G (bB fD (bX λ _=>rfl) (has_wk' (vq 0 G) mp) (vq 1 G) (bn hj)) (zv G (ao (vq 2 G) i7) (zM 1 G (zM 2 G (zv G (bB fD (bX λ _=>rfl) (vq 4 G) (vq 5 G) (bn hj2)) (zv G (ao (vq 6 G) i7) (zQ G (yL xs[j] ys[j] (hx _ (qg hj))) (.p (vq 3 G) (vq 7 G)) (zv G (dc (vq 8 G)) o0)))))))))) zk zk zk zk (zz (Wf 0 1 5 34) [] λ a w U=>?_);refine zJ 3 U G (λ hb2=>?_) (λ hb2=>?_)
   ·refine qb<|zh WR WZ U (zE G aE) (zz U0 [] λ a w U=>?_);refine aa<|qh<|aD ?_;refine aj ?_;refine aj ?_;refine aD ?_;refine aj ?_;refine al ?_ (am G U (zm 3 G));exact ba (qp Bo (oz hj2 hj hb2))
   ·refine qj<|ak ?_;refine aa<|zh (W6 23 [.v 5 _]) U1 U (zM 2 G (zv G (aL (vq 0 G) ab (aW zo)) (zA 1 G o0))) (zz (Wa 0 1 5) [] λ a w U=>?_);refine aa ?_;have U:=U.sel [0,1,2];exact ⟨n-1,by omega,j+1,⟨by omega,oA hj2 hj ht hb2⟩,U⟩
  ·obtain rfl:j=ys.length:=by rw [qc] at hb1;simp at hb1;omega
   refine qL<|ai<|ai<|az<|zt<|zg [] [⟨6,79,ptrH,some 9,_,some (10,_)⟩] (Wo 35 [.alc 0,.sto 0]) [] U (zM 0 G (zM 1 G (zv G (bg qM (vq 1 G)) (zv G (aL (vq 2 G) ab (ya zo)) (zv G (sR fD (vq 0 G) (has_wk' (vq 3 G) (ba (qp (λ k:Nat=>In ((k+1:Nat):Int)) (hlen.symm.trans (qc ..).symm))))) (zM 1 G (zv G (bg qM (vq 5 G)) (zv G (bB fD (gi (cq λ _=>rfl) G) (vq 4 G) (has_wk' (vq 6 G) (ba (qp (λ k:Nat=>In (k:Int)) (qc ..)))) (k:=ys.length) (by rw [List.getElem?_append_right (by rw [qc];omega),qc,hlen,xX];rfl)) (zv G (ao (vq 7 G) i7) (zY G (Str.zero et) (zS 8 G i7 o0))))))))))) (zz [] [O 6 79 _] λ a w U=>?_);refine zt<|zg U6 [] (.adr 44 6 (.some 10) True::(W6 45 [.v 4 _])) UJ U (zO 0 G dG (zL 0 0 2 G ty_3 (zv G (bC (vq 1 G) ab) (zA 2 G o0)))) (zz U3 [O 6 79 _] λ a w U=>?_);refine aa<|qh<|al ?_ (am G U (zm 0 G));have e:xs=ys:=by rw [qF zo,qH] at ht;exact ht
   refine ba (qp Bo ?_);rw [qG e];rfl
theorem pY:∃ it z,Tryz.prog.info? 3=some it∧it.zero=some z∧it.size=1∧it.bytes=8∧z.cells.size=1:=by
 have h:((Tryz.prog.info? 3).bind λ it=>it.zero.map λ z=>(it.size,it.bytes,z.cells.size))=some (1,8,1):=by kernel_rfl
 cases hi:Tryz.prog.info? 3 with
 | none=>rw [hi] at h;simp at h
 | some it =>
  rw [hi] at h;cases hz:it.zero with
  | none=>simp [hz] at h
  | some z =>
   simp [hz] at h;exact ⟨it,z,rfl,hz,h.1,h.2.1,h.2.2⟩
abbrev oe (xs:List Int):Prop:=∀ x∈xs,True
theorem ic (xs:Yl)(hl:xs.length≤10000000)(hx:oe xs):Cn Tryz.prog 7 [(SlA 3 [] (xs.map InA)).va] (TwS 3 1 [] (xs.map InA) (InA 7777)):=by
 obtain ⟨it,z,e1,e2,e3,e4,e5⟩:=pY;refine Cn.introW Tryz.func7 G zk nq (.cons (iY (cq λ _=>lD _ _)).va .nil) (pz (gi (cq λ _=>co _ _) (co _ _))) (λ B w0 a hB0 U=>?_);have U:=zn [(0,(SlO 3 [] (xs.map InA) True).va)] [] U;refine qb<|zh UA Rk U (zE G aX) (zz Rl [] ?_);refine ztA<|zhA (W6 5 [.v 7 (In ((xs.length+1:Nat):Int)),.v 8 (OwnR w0.w.heap.size 3 1 [] []),.v 3 _]) Uz (zM 0 G (zv G (bg qE (bz (aC (vq 0 G)))) (zv G (aL (vq 1 G) ab (ya zo)) (zv G (sS qE e1 e2 e3 e4 e5 zd zd (xB hB0) ab (vq 2 G) zo) (zA 3 G o0))))) (zz UO [] ?_);refine ztA<|zsA<|zhA WR WS (zE G ab) (zz (Wa 0 3 4) [] λ a w U=>?_);refine aa<|qk ?_;have U:=U.sel [0,1,2];refine wp_loop_ghost (λ n a w=>∃ j:Nat,(n+j=xs.length)∧St B w0 28 [(0,(SlO 3 [] (xs.map InA) True).va),(3,OwnR w0.w.heap.size 3 1 [] ((xs.take j).map InA)),(4,In (j:Nat))] [] a w) (xs.length) ?_ ?_
 ·exact ⟨0,by omega,U⟩
 intro n a w hI;obtain ⟨j,hn,U⟩:=hI;refine qb<|qb<|zh (Ww 9) WV U (zM 2 G (zM 0 G (zv G (bg qE (bz (aC (vq 1 G)))) (zv G (aN (vq 0 G) (vq 2 G)) o0)))) (zz (Wf 0 3 4 12) [] λ a w U=>?_);refine zJ 3 U G (λ hb0=>?_) (λ hb0=>?_)
 ·have hj:j<xs.length:=by simp at hb0;omega
  refine qj<|zt<|qk<|lr (sp:=[.v 15 _,.v 16 _,.v 17 _,.v 18 _,.v 19 _,.v 20 _,.v 21 VT,.v 3 VT]) 6 [0,2] 0 5 U (zM 1 rfl (zM 0 rfl (zM 2 rfl (zv rfl (bB dr (bX λ _=>rfl) (bz (aC (vq 1 rfl))) (vq 2 rfl) (bn hj)) (zv rfl (ao (vq 3 rfl) ty_3) (zv rfl (bR (D:=[]) (l:=[_]) (xs:=[.tmp 19]) (cO zk) dr zk (n_ok zk) nq nq nq (.o (vq 4 rfl)) rfl rfl) o0)))))) rfl zk rfl rfl zd rfl zd rfl (λ _ _ h _=>h) qE e1 e2 e3 e4 e5 zd (by simp only [qc,ze,z7];omega) zd (λ T hT=>hT) zd (λ A hA=>by obtain rfl:=qn.1 hA;rfl) zk nq nq zk zk (zz (Wa 3 0 4) [] λ a w U=>?_);refine ak ?_;refine aa<|zh (W6 13 [.v 4 _]) U1 U (zM 2 G (zv G (aL (vq 0 G) ab (aW zo)) (zA 1 G o0))) (zz (Wa 3 0 4) [] λ a w U=>?_);refine aa ?_;have U:=U.sel [1,0,2];exact ⟨n-1,by omega,j+1,by omega,St.wkG (A':=OwnR w0.w.heap.size 3 1 [] ((xs.take (j+1)).map InA)) U 1 G (ba (qp (OwnR w0.w.heap.size 3 1 []) (Bl hj)))⟩
 ·obtain rfl:j=xs.length:=by simp at hb0;omega
  refine qL<|ai<|ai<|az<|zt ?_;have U:=St.wkG (A':=OwnR w0.w.heap.size 3 1 [] (xs.map InA)) U 1 rfl (ba (by rw [qH]));refine px (sp:=[.v 22 _,.v 23 _,.v 24 VT,.v 25 VT,.v 26 VT,.v 27 VT,.v 2 VT]) 2 [] 0 1 U (zM 1 rfl (zv rfl (bR (D:=[]) (l:=[InA 7777]) (xs:=[.const (.int .i64 7777)]) (cO zk) dr zk (n_ok zk) nq nq nq (.cons ab .nil) rfl rfl) (o0))) rfl zk rfl rfl rfl rfl rfl 0 rfl (λ B u w h=>by have h2:=AV B u w h;rw [qc] at h2;rw [qc];exact h2) zk zd rfl zd rfl (λ _ _ h _=>h) qE e1 e2 e3 e4 e5 zd (by rw [qc];omega) zd (λ T hT=>hT) zd zk zd nq nq nq nq nq zk zk (zz Ux [] λ a w U=>?_);refine aa<|qh<|al ?_ (am G U (zm 0 G));exact aG
theorem iA (xs ys:Yl)(hl:ys.length≤10000000)(hx:oe xs):Cn Tryz.prog 16 [TwS 3 1 [] (xs.map InA) (InA 7777),(SlA 3 [] (ys.map InA)).va] (Bo (decide (xs=ys))):=by
 refine Cn.intro Tryz.func16 G zk nq (zy [(0,TwS 3 1 [] (xs.map InA) (InA 7777)),(1,(SlA 3 [] (ys.map InA)).va)] λ B w0 a U=>?_);obtain ⟨g,c,U⟩:=U.exK 0 rfl;have hcap:=ou (U.vals (0,_) (zm 0 rfl));rw [qc] at hcap;refine qb<|zh WR WS U (zE G aE) (zz WT [] ?_);refine ztA<|zsA<|zhA (Wl 7 [.f 13 _,.f 14 _,.f 15 _,.f 16 _,.f 17 _,.v 18 _]) (W7 [.o 11]) (zM 0 G (zv G (bg qE (has_wk' (vq 0 G) mp)) (zM 1 G (zv G (bg qE (vq 2 G)) (zv G (ca (vq 1 G) (vq 3 G)) (zV 4 G (zB 5 G (λ hg=>aq (gq 0 G)) (zB 5 G (λ hg=>BC qE (ae (vq 6 G) hg)) (zB 5 G (λ hg=>aq (gq 1 G)) (zB 5 G (λ hg=>bg qE (ae (vq 8 G) hg)) (zB 5 G (λ hg=>l9 (ae (vq 7 G) hg) (ae (vq 9 G) hg)) (zv G (r_or (vq 5 G) (vq 10 G)) o0)))))))))))) (zz (Wf 0 1 4 18) [] λ a w U=>?_);refine zJ 3 U G (λ hb0=>?_) (λ hb0=>?_)
 ·refine qb<|zh WR WS U (zE G aE) (zz WT [] λ a w U=>?_);refine aa<|qh<|aj ?_;refine al ?_ (am G U (zm 2 G));exact ba (qp Bo (te hcap.1 hb0))
 ·have hlen:=tf hb0;refine qj<|zt<|qb<|zh UY WZ U (zE G ab) (zz WW [] λ a w U=>?_);refine aa<|qk ?_;have U:=U.sel [0,1,3];refine wp_loop_ghost (λ n a w=>∃ j:Nat,(n+j=ys.length∧xs.take j=ys.take j)∧St B w0 45 [(0,TwK g c 3 1 [] (xs.map InA) (InA 7777)),(1,(SlA 3 [] (ys.map InA)).va),(5,In (j:Nat))] [] a w) (ys.length) ?_ ?_
  ·exact ⟨0,⟨by omega,rfl⟩,U⟩
  intro n a w hI;obtain ⟨j,⟨hn,ht⟩,U⟩:=hI;refine qb<|qb<|zh (Ww 19) WV U (zM 2 G (zM 1 G (zv G (bg qE (vq 1 G)) (zv G (aN (vq 0 G) (vq 2 G)) o0)))) (zz (Wf 0 1 5 22) [] λ a w U=>?_);refine zJ 3 U G (λ hb1=>?_) (λ hb1=>?_)
  ·have hj2:j<ys.length:=by rw [qc] at hb1;simp at hb1;omega
   have hj:j<xs.length:=by omega
   refine qj<|zt<|qk<|qb<|zgd WY [] [] (Wo 25) (W7 [.o 8]) ac U (zM 0 G (zM 2 G (zv G (bB dr (bX λ _=>rfl) (has_wk' (vq 0 G) mp) (vq 1 G) (bn hj)) (zv G (ao (vq 2 G) ty_3) (zM 1 G (zM 2 G (zv G (bB dr (bX λ _=>rfl) (vq 4 G) (vq 5 G) (bn hj2)) (zv G (ao (vq 6 G) ty_3) (zv G (ca (vq 3 G) (vq 7 G)) o0))))))))) zk zk zk zk (zz (Wf 0 1 5 33) [] λ a w U=>?_);refine zJ 3 U G (λ hb2=>?_) (λ hb2=>?_)
   ·refine qb<|zh WR WZ U (zE G aE) (zz U0 [] λ a w U=>?_);refine aa<|qh<|aD ?_;refine aj ?_;refine aj ?_;refine aD ?_;refine aj ?_;refine al ?_ (am G U (zm 3 G));exact ba (qp Bo (oz hj2 hj hb2))
   ·refine qj<|ak ?_;refine aa<|zh (W6 23 [.v 5 _]) U1 U (zM 2 G (zv G (aL (vq 0 G) ab (aW zo)) (zA 1 G o0))) (zz (Wa 0 1 5) [] λ a w U=>?_);refine aa ?_;have U:=U.sel [0,1,2];exact ⟨n-1,by omega,j+1,⟨by omega,oA hj2 hj ht hb2⟩,U⟩
  ·obtain rfl:j=ys.length:=by rw [qc] at hb1;simp at hb1;omega
   refine qL<|ai<|ai<|az<|zt<|zh (Wo 34 [.v 6 _]) [.o 9] U (zM 0 G (zM 1 G (zv G (bg qE (vq 1 G)) (zv G (aL (vq 2 G) ab (ya zo)) (zv G (sR dr (vq 0 G) (has_wk' (vq 3 G) (ba (qp (λ k:Nat=>In ((k+1:Nat):Int)) (hlen.symm.trans (qc ..).symm))))) (zM 1 G (zv G (bg qE (vq 5 G)) (zv G (bB dr (gi (cq λ _=>rfl) G) (vq 4 G) (has_wk' (vq 6 G) (ba (qp (λ k:Nat=>In (k:Int)) (qc ..)))) (k:=ys.length) (by rw [List.getElem?_append_right (by rw [qc];omega),qc,hlen,xX];rfl)) (zv G (ao (vq 7 G) ty_3) (zA 8 G o0)))))))))) (zz [(6,_)] [] λ a w U=>?_);refine zt<|zh (W6 43 [.v 4 _]) Ud U (zM 0 G (zv G (bC (vq 0 G) ab) (zA 1 G o0))) (zz U3 [] λ a w U=>?_);refine aa<|qh<|al ?_ (am G U (zm 0 G));have e:xs=ys:=by rw [qF zo,qH] at ht;exact ht
   refine ba (qp Bo ?_);rw [qG e];rfl
def TwA (E:TypeId)(m:Nat)(D:List TypeId)(l:List As)(x:As):As where
 n:=1
 ag:=false
 p B cs w:=∃ v,cs=[v]∧(TwS E m D l x).p B v w
 deps:=E::D
 len:=by rintro B cs w ⟨v,rfl,_⟩;rfl
 one:=by
  rintro B cs w ⟨v,rfl,g,c,h1,_⟩ u hu;obtain rfl:=qn.1 hu;rw [h1];rfl
 ag1:=λ _=>rfl
 cg:=λ B cs w w' hg ⟨v,h1,h2⟩=>⟨v,h1,(TwS E m D l x).cg _ _ _ _ hg h2⟩
 wr:=λ B cs w w' g c T fz q1 q2 q3 q4 ⟨v,h1,h2⟩=>⟨v,h1,(TwS E m D l x).wr _ _ _ _ _ _ _ _ q1 q2 q3 q4 h2⟩
theorem Mf {l:Yb}{x:As}:Wk (TwS E m D l x) (TwA E m D l x).va:=λ B v w h=>⟨[v],⟨v,rfl,h⟩,rfl⟩
theorem Mg {l:Yb}{x:As}:Wk (TwA E m D l x).va (TwS E m D l x):=λ B v w ⟨cs,⟨u,h1,h2⟩,h3⟩=>by
 subst h1;have e:v=u:=h3;subst e;exact h2
theorem twA_wkA {l:Yb}{x:As}:WkA (TwA E m D l x) (SlA E D l):=⟨rfl,rfl,λ B cs w ⟨v,h1,h2⟩=>by
 subst h1;obtain ⟨cs',h3,h4⟩:=AC B v w h2;have l2:=(SlA E D l).len _ _ _ h3
 match cs',l2 with
 | [c],_ =>
  have e:v=c:=h4;subst e;exact h3⟩
def TkT (t:RTk):As:=cat [TwA 28 4 [U32] (t.sp.map RFT) (RFA ⟨⟨true,[]⟩,⟨false,[]⟩⟩),TwA 79 11 [U32] (t.ps.map PtT) (PtA ⟨⟨#[]⟩,⟨0,rf0,rf0⟩,7777⟩),RFT t.tg]
theorem tkT_A {t:RTk}:WkA (TkT t) (TkA t):=br (.cons (twA_wkA.trans (AT (iu λ x=>om) (cq (p:=λ A=>∀ T∈A.deps,T∈[U32]) λ x=>fe zk))) (.cons (twA_wkA.trans (AT (iu λ x=>Ih) (cq (p:=λ A=>∀ T∈A.deps,T∈[U32]) λ x=>fe zk))) (.cons om .nil)))
structure bdTk (t:RTk):Prop where
 l1:t.sp.length≤10000000
 l2:t.ps.length≤10000000
 b1:pX t.sp
 b2:pW t.ps
 b3:bdF t.tg
theorem Mm {x y:RTk}:((decide (x.sp=y.sp)&&decide (x.ps=y.ps))&&decide (x.tg=y.tg))=decide (x=y):=by
 obtain ⟨a,b,c⟩:=x;obtain ⟨d,e,f⟩:=y;by_cases h1:a=d <;> by_cases h2:b=e <;> by_cases h3:c=f <;> simp [h1,h2,h3]
theorem yf (t:RTk)(ht:bdTk t):Cn Tryz.prog 6 [(TkA t).va] ((TkT t).va):=by
 refine Cn.intro Tryz.func6 G zk nq (zy [(0,(TkA t).va)] λ B w0 a U=>?_);refine qb<|zg [] [zpL 1 30 0 _,zpL 2 30 1 _] UU [] U (zW 0 G (zY G (Str.zero ii) o0)) (zz [] [O 1 30 _,O 2 30 _] λ a w U=>?_);refine zt<|zgd [[],[0],[0,1],[],[3],(Wm 5),[],[6],(Wm 8),(Wm 9),(Wm 10)] [none,some (10,_)] [] (.adr 3 1 (.some 0) True::(W6 4 (.adr 6 1 (.some 1) True::(W6 7 (.adr 9 1 (.some 2) True::(Wb 10 [.sto 1])))))) [] ac U (zO 0 G cb (zL 0 0 0 G eY (zQ G (sJ t.sp ht.l1 ht.b1) (.o (vq 1 G)) (zO 0 G bM (zL 3 0 1 G ec (zQ G (sI t.ps ht.l2 ht.b2) (.o (vq 4 G)) (zO 0 G eB (zL 6 0 2 G ax (zQ G (fZ _ ht.b3) (.o (vq 7 G)) (zv G (aT (qs:=[(0,TwA 28 4 [U32] (t.sp.map RFT) (RFA ⟨⟨true,[]⟩,⟨false,[]⟩⟩)),(1,TwA 79 11 [U32] (t.ps.map PtT) (PtA ⟨⟨#[]⟩,⟨0,rf0,rf0⟩,7777⟩)),(2,RFT t.tg)]) ii (.cons ⟨rfl,(has_wk' (vq 2 G) Mf),rfl⟩ (.cons ⟨rfl,(has_wk' (vq 5 G) Mf),rfl⟩ (.cons ⟨rfl,vq 8 rfl,rfl⟩ .nil)))) (zS 9 G cp o0))))))))))) zk zk zk zk (zz [] [O 1 30 _,O 2 30 _] λ a w U=>?_);refine aa<|qh<|al ?_ (au G U (zm 1 G) cp);exact aG
theorem yK (x y:RTk)(hx:bdTk x)(hy:bdTk y):Cn Tryz.prog 15 [(TkT x).va,(TkA y).va] (Bo (decide (x=y))):=by
 refine Cn.intro Tryz.func15 G zk nq (zy [(0,(TkT x).va),(1,(TkA y).va)] λ B w0 a U=>?_);refine qb<|zg [] [zpL 2 30 0 _,zpL 3 30 1 _] UC Ud U (zW 0 G (zW 1 G (zE G aE))) (zz U3 [O 2 30 _,O 3 30 _] ?_);refine ztA<|zgA UF [] (.adr 5 2 (.some 0) True::.v 6 _::.adr 7 3 (.some 0) True::(Wb 8 (.adr 11 2 (.some 1) (_=true)::.t 12 _::.adr 13 3 (.some 1) (_=true)::.t 14 _::.t 15 _::(W6 16 [.adr 18 2 (.some 2) (_=true),.t 19 _,.adr 20 3 (.some 2) (_=true),.t 21 _,.t 22 _,.v 23 _,.v 4 _])))) [.o 19] (zO 0 G cb (zL 0 0 0 G eY (zO 1 G cb (zL 2 1 0 G eY (zQ G (ti x.sp y.sp hy.l1 hx.b1) (.p (has_wk' (vq 1 G) Mg) (vq 3 G)) (zV 4 G (zC 5 0 G bM (zB 5 G (λ hg=>aB 6 G zk hg (lz0 0 G) (Sub.part 1 G G) ec) (zC 5 1 G bM (zB 5 G (λ hg=>aB 8 G zk hg (lz0 1 G) (Sub.part 1 G G) ec) (zB 5 G (λ hg=>be (th x.ps y.ps hy.l2 hx.b2) (.p (has_wk' (ae (vq 7 G) hg) Mg) (ae (vq 9 G) hg))) (zv G (bv (vq 5 G) (vq 10 G)) (zV 11 G (zC 12 0 G eB (zB 12 G (λ hg=>aB 13 G zk hg (lz0 0 G) (Sub.part 2 G G) ax) (zC 12 1 G eB (zB 12 G (λ hg=>aB 15 G zk hg (lz0 1 G) (Sub.part 2 G G) ax) (zB 12 G (λ hg=>be (gk _ _ hx.b3) (.p (ae (vq 14 G) hg) (ae (vq 16 G) hg))) (zv G (bv (vq 12 G) (vq 17 G)) (zA 18 G o0)))))))))))))))))))) (zz U3 [O 2 30 _,O 3 30 _] λ a w U=>?_);refine aa<|qh<|al ?_ (am G U (zm 0 G));exact ba (qp Bo Mm)
theorem uH {l:Yb}(h1:∀ A∈l,A.n=m)(h2:∀ A∈l,∀ T∈A.deps,T∈D)(h3:l.length≤1000):Wk (NewR b E l) (OwnR b E m D l):=λ B v w ⟨g,ds,e1,e2,e3,e4⟩=>by
 have hl:ds.length=l.length*m:=by
  rw [(cat l).len _ _ _ e4];have:=uD h1 (qi l.length);unfold offs at this;rw [qH] at this;exact this
 refine ⟨h1,h2,ds,e4,by simp [hl],.inr ⟨g,l.length,ds.toArray,e1,e2,e3,qi _,by unfold maxLen;omega,by simp [hl],by rw [← hl];simp⟩⟩
def bnF (t:RTk)(xs:List Int):List RE × Int:=if (ckF t != 0)=true then ([],ckF t) else if (!whF t xs)=true then ([],1) else (benW t (natL xs),0)
theorem I2 {t:RTk}(h:j<l.length):benW t (l.take (j+1))=benW t (l.take j)++[(t.ps.getD l[j] ⟨⟨#[]⟩,⟨0,rf0,rf0⟩,0⟩).e,spE (t.sp.getD (j+1) rf0)]:=by
 rw [qw h];unfold benW;rw [sv,qu,ze,xl zo];simp
theorem P3 (t:RTk):benW t []=[spE (t.sp.getD 0 rf0)]:=rfl
theorem Ls {t:RTk}(h:ckF t=0)(hj:j<t.sp.length):okX t.sp[j]=true:=by
 have h2:=qe.1 (ft h).2.1 _ (qg hj);unfold spcF at h2;simp only [qy,qN,qm] at h2;by_cases h3:okX t.sp[j]=true
 ·exact h3
 ·have:=h2.1;rw [qz h3] at this;exact absurd this zd
theorem ml (t:RTk)(l:Ya):(benW t l).length=2*l.length+1:=by
 unfold benW;rw [qu,y6];rfl
theorem oF {l:Yl}{m:Ya}(h:l=m.map (λ (k:Nat)=>(k:Int))):SlA 3 [] (l.map InA)=SlA 3 [] (m.map λ (k:Nat)=>InA (k:Int)):=by rw [h,xD];rfl
def pP (x:RE):Int:=IntKind.i64.wrap (dN x.p+dN x.q)
def frsF (n:Int):List RF→Int
 | []=>n
 | x::xs=>if decide (n≤1048576) then frsF (IntKind.i64.wrap (n+dN x)) xs else n
theorem O0 {n:Int}{l:List RF}(h:j<l.length)(h2:n≤1048576):frsF n (l.drop j)=frsF (IntKind.i64.wrap (n+dN l[j])) (l.drop (j+1)):=by
 rw [qK h,frsF,qC (qG h2)]
theorem KU {n:Int}{l:List RF}(h:¬ (j<l.length∧n≤1048576)):frsF n (l.drop j)=n:=by
 by_cases hj:j<l.length
 ·rw [qK hj,frsF,qz (by simpa using λ hh=>h ⟨hj,hh⟩)]
 ·rw [zG zo];rfl
def ptc (n:Int)(x:RPt):Int:=IntKind.i64.wrap (IntKind.i64.wrap (n+(x.nm.size:Nat))+pP x.e)
def ptsF (n:Int):List RPt→Int
 | []=>n
 | x::xs=>if decide (n≤1048576) then ptsF (ptc n x) xs else n
theorem N2 {n:Int}{l:List RPt}(h:j<l.length)(h2:n≤1048576):ptsF n (l.drop j)=ptsF (ptc n l[j]) (l.drop (j+1)):=by
 rw [qK h,ptsF,qC (qG h2)]
theorem Jv {n:Int}{l:List RPt}(h:¬ (j<l.length∧n≤1048576)):ptsF n (l.drop j)=n:=by
 by_cases hj:j<l.length
 ·rw [qK hj,ptsF,qz (by simpa using λ hh=>h ⟨hj,hh⟩)]
 ·rw [zG zo];rfl
def tkcF (t:RTk):Int:=IntKind.i64.wrap (IntKind.i64.wrap (frsF (t.sp.length:Nat) t.sp+ptsF (t.ps.length:Nat) t.ps)+dN t.tg)
theorem G9 (x:RE):Cn Tryz.prog 95 [(REA x).va] (In (pP x)):=by
 refine Cn.intro Tryz.func95 G zk nq (zy [(0,(REA x).va)] λ B w0 a U=>?_);refine qb<|zg [] [zpL 1 76 0 _] Uv Uw U (zW 0 G (zE G ab)) (zz Ux S4 λ a w U=>?_);refine zt<|zgd RT U4 [] (.adr 3 1 (.some 1) True::(W6 4 (.adr 6 1 (.some 5) True::(Wb 7 [.v 2 _])))) [.o 7] ac U (zO 0 G bL (zL 0 0 1 G ax (zQ G (gm _) (.o (vq 1 G)) (zO 0 G bZ (zL 3 0 2 G ax (zQ G (gm _) (.o (vq 4 G)) (zv G (aL (vq 2 G) (vq 5 G) (G)) (zA 6 G o0)))))))) zk zk zk zk (zz Ux S4 λ a w U=>?_);refine aa<|qh<|al ?_ (am G U (zm 0 G));exact aG
theorem CX (xs:List RF):Cn Tryz.prog 18 [(SlA 28 [U32] (xs.map RFA)).va] (In (frsF (xs.length:Nat) xs)):=by
 refine Cn.intro Tryz.func18 G zk nq (zy [(0,(SlA 28 [U32] (xs.map RFA)).va)] λ B w0 a U=>?_);have hl:=eu (U.vals (0,(SlA 28 [U32] (xs.map RFA)).va) (zm 0 rfl));refine qb<|zh UA Rk U (zE G ab) (zz Rl [] ?_);refine ztA<|zhA (W6 5 [.v 3 _]) U1 (zM 0 G (zv G (bg qQ (vq 0 G)) (zA 1 G o0))) (zz (Wa 0 2 3) [] ?_);refine ztA<|zsA<|zhA WR WZ (zE G ab) (zz (Wf 0 2 3 4) [] λ a w U=>?_);refine aa<|qk ?_;have U:=U.sel [0,2,3];refine wp_loop_ghost (λ n a w=>∃ (j:Nat) (m:Int),(n+j=xs.length∧frsF (xs.length:Nat) xs=frsF m (xs.drop j))∧St B w0 25 [(0,(SlA 28 [U32] (xs.map RFA)).va),(3,In m),(4,In (j:Nat))] [] a w) (xs.length) ?_ ?_
 ·exact ⟨0,(xs.length:Nat),⟨by omega,rfl⟩,by rw [qc] at U;exact U⟩
 intro n a w hI;obtain ⟨j,m,⟨hn,hm⟩,U⟩:=hI;refine qb<|qb<|zh (Wd 7 [.t 12 _,.t 13 _,.v 14 _]) (W7 [.o 7]) U (zM 2 G (zM 0 G (zv G (bg qQ (vq 1 G)) (zv G (aN (vq 0 G) (vq 2 G)) (zV 3 G (zB 4 G (λ hg=>aq (gq 1 G)) (zB 4 G (λ hg=>l9 (ae (vq 5 G) hg) ab) (zv G (bv (vq 4 G) (vq 6 G)) o0)))))))) (zz (Wf 0 3 4 14) [] λ a w U=>?_);refine zJ 3 U G (λ hb0=>?_) (λ hb0=>?_)
 ·rw [ql,qI,qI,qc] at hb0;have hj:j<xs.length:=by omega
  have hm0:=hb0.2;refine qj<|zt<|qk<|zh (WG 17 [.v 3 _]) [.g 0,.g 2,.o 7] U (zM 1 G (zM 0 G (zM 2 G (zv G (bB du (bX λ _=>rfl) (vq 1 G) (vq 2 G) (bn hj)) (zv G (ao (vq 3 G) ax) (zQ G (gm _) (.o (vq 4 G)) (zv G (aL (vq 0 G) (vq 5 G) (G)) (zA 6 G o0)))))))) (zz (Wa 0 4 3) [] λ a w U=>?_);refine ak ?_;refine aa<|zh (W6 15 [.v 4 _]) [.g 0,.g 2,.o 2] U (zM 1 G (zv G (aL (vq 0 G) ab (Ec hj hl)) (zA 1 G o0))) (zz (Wa 0 3 4) [] λ a w U=>?_);refine aa ?_;have U:=U.sel [0,1,2];exact ⟨n-1,by omega,j+1,_,⟨by omega,hm.trans (O0 hj hm0)⟩,U⟩
 ·have hnj:¬ (j<xs.length∧m≤1048576):=by rintro ⟨h1,h2⟩;rw [qc,qG (by omega:(j:Int)<(xs.length:Int)),qG h2] at hb0;exact absurd hb0 zd
  refine qL<|ai<|ai<|az<|zt<|zh [.v 24 _,.v 2 _] Uw U (zM 1 G (zA 0 G o0)) (zz Ux [] λ a w U=>?_);refine aa<|qh<|al ?_ (am G U (zm 0 G));exact ba (qp In (hm.trans (KU hnj)).symm)
theorem BM (xs:List RPt):Cn Tryz.prog 19 [(SlA 79 [U32] (xs.map PtA)).va] (In (ptsF (xs.length:Nat) xs)):=by
 refine Cn.intro Tryz.func19 G zk nq (zy [(0,(SlA 79 [U32] (xs.map PtA)).va)] λ B w0 a U=>?_);have hl:=eu (U.vals (0,(SlA 79 [U32] (xs.map PtA)).va) (zm 0 rfl));refine qb<|zh UA Rk U (zE G ab) (zz Rl [] ?_);refine ztA<|zhA (W6 5 [.v 3 _]) U1 (zM 0 G (zv G (bg qM (vq 0 G)) (zA 1 G o0))) (zz (Wa 0 2 3) [] ?_);refine ztA<|zsA<|zhA WR WZ (zE G ab) (zz (Wf 0 2 3 4) [] λ a w U=>?_);refine aa<|qk ?_;have U:=U.sel [0,2,3];refine wp_loop_ghost (λ n a w=>∃ (j:Nat) (m:Int),(n+j=xs.length∧ptsF (xs.length:Nat) xs=ptsF m (xs.drop j))∧St B w0 33 [(0,(SlA 79 [U32] (xs.map PtA)).va),(3,In m),(4,In (j:Nat))] [] a w) (xs.length) ?_ ?_
 ·exact ⟨0,(xs.length:Nat),⟨by omega,rfl⟩,by rw [qc] at U;exact U⟩
 intro n a w hI;obtain ⟨j,m,⟨hn,hm⟩,U⟩:=hI;refine qb<|qb<|zh (Wd 7 [.t 12 _,.t 13 _,.v 14 _]) (W7 [.o 7]) U (zM 2 G (zM 0 G (zv G (bg qM (vq 1 G)) (zv G (aN (vq 0 G) (vq 2 G)) (zV 3 G (zB 4 G (λ hg=>aq (gq 1 G)) (zB 4 G (λ hg=>l9 (ae (vq 5 G) hg) ab) (zv G (bv (vq 4 G) (vq 6 G)) o0)))))))) (zz (Wf 0 3 4 14) [] λ a w U=>?_);refine zJ 3 U G (λ hb0=>?_) (λ hb0=>?_)
 ·rw [ql,qI,qI,qc] at hb0;have hj:j<xs.length:=by omega
  have hm0:=hb0.2;refine qj<|zt<|qk<|zgd [[],[],[],[1,2],[1,2,3],[1,2,3,4],[1,2,3,4,5],(Wm 7),[],[],[8,9],[8,9,10],[8,9,10,11],[8,9,10,11,12],(Wm 14),(Wm 15)] [] [] (WH 17 [.v 3 _]) [.g 0,.g 2,.o 15] ac U (zM 1 G (zM 0 G (zM 2 G (zv G (bB fD (bX λ _=>rfl) (vq 1 G) (vq 2 G) (bn hj)) (zv G (bK (vq 3 G) e8 (Sub.part 0 G G)) (zv G (ao (vq 4 G) ty_9) (zv G (gg zk (has_wk' (vq 5 G) Dl)) (zv G (aL (vq 0 G) (vq 6 G) (G)) (zM 0 G (zM 2 G (zv G (bB fD (bX λ _=>rfl) (vq 8 G) (vq 9 G) (bn hj)) (zv G (bK (vq 10 G) dZ (Sub.part 1 G G)) (zv G (ao (vq 11 G) dq) (zQ G (G9 _) (.o (vq 12 G)) (zv G (aL (vq 7 G) (vq 13 G) (G)) (zA 14 G o0)))))))))))))))) zk zk zk zk (zz (Wa 0 4 3) [] λ a w U=>?_);refine ak ?_;refine aa<|zh (W6 15 [.v 4 _]) [.g 0,.g 2,.o 2] U (zM 1 G (zv G (aL (vq 0 G) ab (Ec hj hl)) (zA 1 G o0))) (zz (Wa 0 3 4) [] λ a w U=>?_);refine aa ?_;have U:=U.sel [0,1,2];exact ⟨n-1,by omega,j+1,_,⟨by omega,hm.trans (N2 hj hm0)⟩,U⟩
 ·have hnj:¬ (j<xs.length∧m≤1048576):=by rintro ⟨h1,h2⟩;rw [qc,qG (by omega:(j:Int)<(xs.length:Int)),qG h2] at hb0;exact absurd hb0 zd
  refine qL<|ai<|ai<|az<|zt<|zh [.v 32 _,.v 2 _] Uw U (zM 1 G (zA 0 G o0)) (zz Ux [] λ a w U=>?_);refine aa<|qh<|al ?_ (am G U (zm 0 G));exact ba (qp In (hm.trans (Jv hnj)).symm)
theorem El (t:RTk):Cn Tryz.prog 5 [(TkA t).va] (In (tkcF t)):=by
 refine Cn.intro Tryz.func5 G zk nq (zy [(0,(TkA t).va)] λ B w0 a U=>?_);refine qb<|zg [] S6 Uv Uw U (zW 0 G (zE G ab)) (zz Ux S7 λ a w U=>?_);refine zt<|zgd [[],[0],[0,1],[],[3],(Wm 5),(Wm 6),[],[7],[0,1,2,3,4,5,7,8],(Wm 10),(Wm 11)] U4 [] (.adr 3 1 (.some 0) True::(W6 4 (.adr 6 1 (.some 1) True::(Wb 7 (.adr 10 1 (.some 2) True::(Wb 11 [.v 2 _])))))) [.o 11] ac U (zO 0 G cb (zL 0 0 0 G eY (zQ G (CX _) (.o (vq 1 G)) (zO 0 G bM (zL 3 0 1 G ec (zQ G (BM _) (.o (vq 4 G)) (zv G (aL (vq 2 G) (vq 5 G) (G)) (zO 0 G eB (zL 7 0 2 G ax (zQ G (gm _) (.o (vq 8 G)) (zv G (aL (vq 6 G) (vq 9 G) (G)) (zA 10 G o0)))))))))))) zk zk zk zk (zz Ux S7 λ a w U=>?_);refine aa<|qh<|al ?_ (am G U (zm 0 G));exact aG
theorem Pp {xs ys:Yl}(hx:j<xs.length)(hy:j<ys.length)(h:xs[j]≠ys[j]):decide (xs=ys)=false:=by
 simp only [qm];rintro rfl;exact h rfl
theorem Po {xs ys:Yl}(hx:j<xs.length)(hy:j<ys.length)(hp:xs.take j=ys.take j)(h:xs[j]=ys[j]):xs.take (j+1)=ys.take (j+1):=by
 rw [qw hx,qw hy,hp,h]
def G2A (x:RF × RF):As:=cat [RFA x.1,RFA x.2]
theorem J9 {x:RF}:WkA (RFN x) (RFA x):=⟨rfl,rfl,λ B cs w h=>(bN (.cons (m9 _) (.cons (m9 _) .nil)):FreeA (RFN x) (RFA x)).2.2 B B cs w (qi _) h⟩
theorem g2d_a {x:RF × RF}:WkA (G2D x) (G2A x):=dis_wk.trans (br (.cons J9 (.cons J9 .nil)))
def ChA (x:RCh):As:=cat [SlA 3 [] (x.l.map InA),RFA x.pw,InA x.c]
theorem chd_a {x:RCh}:WkA (ChD x) (ChA x):=br (.cons Ps (.cons (dis_wk.trans J9) (.cons (.refl _) .nil)))
theorem P1 (t:RTk):Cn Tryz.prog 89 [(TkA t).va] (Tu [(ChA (lR t).1).va,In (lR t).2]):=(P2 t).wkp (tu2w chd_a.va aG)
theorem Mw (t:RTk)(xs:Yl):Cn Tryz.prog 91 [(TkA t).va,(SlA 3 [] (xs.map InA)).va] (Tu [In (rowF t xs).1,(G2A (rowF t xs).2.1).va,In (rowF t xs).2.2]):=(Mx t xs).wkp (tu3w aG g2d_a.va aG)
theorem Mo:Str Tryz.prog 103 [RFA rf0,RFA rf0] :=
 Str.of (z:=.agg #[.bool false,.slice none 0 0,.bool false,.slice none 0 0,.bool false,.slice none 0 0,.bool false,.slice none 0 0]) zk vQ zk λ B w=>⟨[[.bool false,.slice none 0 0,.bool false,.slice none 0 0],[.bool false,.slice none 0 0,.bool false,.slice none 0 0]],rfl,.cons (f9 B w) (.cons (f9 B w) .nil)⟩
theorem IJ:Str Tryz.prog 98 [EqA (.slice none 0 0),RFA rf0,NumA .i64 0] :=
 Str.of (z:=.agg #[.slice none 0 0,.bool false,.slice none 0 0,.bool false,.slice none 0 0,.int .i64 0]) zk vY zk λ B w=>⟨[[.slice none 0 0],[.bool false,.slice none 0 0,.bool false,.slice none 0 0],[.int .i64 0]],rfl,.cons ⟨rfl,rfl⟩ (.cons (f9 B w) (.cons rfl .nil))⟩
theorem Ba (xs ys:Yl):Cn Tryz.prog 94 [(SlA 3 [] (xs.map InA)).va,(SlA 3 [] (ys.map InA)).va] (Bo (decide (xs=ys))):=by
 refine Cn.intro Tryz.func94 G zk nq (zy [(0,(SlA 3 [] (xs.map InA)).va),(1,(SlA 3 [] (ys.map InA)).va)] λ B w0 a U=>?_);have hl:=eu (U.vals (0,(SlA 3 [] (xs.map InA)).va) (zm 0 rfl));refine qb<|zh WR WS U (zE G aE) (zz WT [] ?_);refine ztA<|zsA<|zhA (Wd 6) WU (zM 0 G (zv G (bg qE (vq 0 G)) (zM 1 G (zv G (bg qE (vq 2 G)) (zv G (ca (vq 1 G) (vq 3 G)) o0))))) (zz (Wf 0 1 4 10) [] λ a w U=>?_);refine zJ 3 U G (λ hb0=>?_) (λ hb0=>?_)
 ·have hne:decide (xs=ys)=false:=by
   simp only [qc] at hb0;simp only [qm];rintro rfl;simp at hb0
  refine qb<|zh WR WS U (zE G aE) (zz WT [] λ a w U=>?_);refine aa<|qh<|aj ?_;refine al ?_ (am G U (zm 2 G));exact ba (qp Bo hne.symm)
 ·have hee:xs.length=ys.length:=by
   simp only [qc] at hb0;have:(xs.length:Int)=(ys.length:Int):=by simpa using hb0
   omega
  refine qj<|zt<|qb<|zh UY WZ U (zE G ab) (zz WW [] λ a w U=>?_);refine aa<|qk ?_;have U:=U.sel [0,1,3];refine wp_loop_ghost (λ n a w=>∃ (j:Nat),(n+j=xs.length∧xs.take j=ys.take j)∧St B w0 26 [(0,(SlA 3 [] (xs.map InA)).va),(1,(SlA 3 [] (ys.map InA)).va),(5,In (j:Nat))] [] a w) (xs.length) ?_ ?_
  ·exact ⟨0,⟨by omega,rfl⟩,U⟩
  intro n a w hI;obtain ⟨j,⟨hn,hp⟩,U⟩:=hI;refine qb<|qb<|zh (Ww 11) WV U (zM 2 G (zM 0 G (zv G (bg qE (vq 1 G)) (zv G (aN (vq 0 G) (vq 2 G)) o0)))) (zz (Wf 0 1 5 14) [] λ a w U=>?_);refine zJ 3 U G (λ hb1=>?_) (λ hb1=>?_)
  ·have hj:j<xs.length:=by rw [qc] at hb1;have:=qt hb1;omega
   have hj2:j<ys.length:=by omega
   refine qj<|zt<|qk<|qb<|zgd WY [] [] (Wo 17) (W7 [.o 8]) ac U (zM 0 G (zM 2 G (zv G (bB dr (bX λ _=>rfl) (vq 0 G) (vq 1 G) (bn hj)) (zv G (ao (vq 2 G) ty_3) (zM 1 G (zM 2 G (zv G (bB dr (bX λ _=>rfl) (vq 4 G) (vq 5 G) (bn hj2)) (zv G (ao (vq 6 G) ty_3) (zv G (ca (vq 3 G) (vq 7 G)) o0))))))))) zk zk zk zk (zz (Wf 0 1 5 25) [] λ a w U=>?_);refine zJ 3 U G (λ hb2=>?_) (λ hb2=>?_)
   ·refine qb<|zh WR WZ U (zE G aE) (zz U0 [] λ a w U=>?_);refine aa<|qh<|aD ?_;refine aj ?_;refine aj ?_;refine aD ?_;refine aj ?_;refine al ?_ (am G U (zm 3 G));exact ba (qp Bo (Pp hj hj2 (by simpa using hb2)).symm)
   ·refine qj<|ak ?_;refine aa<|zh (W6 15 [.v 5 _]) U1 U (zM 2 G (zv G (aL (vq 0 G) ab ((wi64 zo zo).trans (by omega:(_:Int)=((j+1:Nat):Int)))) (zA 1 G o0))) (zz (Wa 0 1 5) [] λ a w U=>?_);refine aa ?_;have U:=U.sel [0,1,2];exact ⟨n-1,by omega,j+1,⟨by omega,Po hj hj2 hp (by simpa using hb2)⟩,U⟩
  ·have hj:j=xs.length:=by rw [qc] at hb1;have:=qv hb1;omega
   refine qL<|ai<|ai<|az<|zt<|zh WR U2 U (zE G aE) (zz U3 [] λ a w U=>?_);refine aa<|qh<|al ?_ (am G U (zm 0 G));exact ba (qp Bo (qG (by rw [hj,qH,hee,qH] at hp;exact hp)).symm)
open Go.ChangeShapes Go.WideShapes Go.ChangeAt
section
variable {H:Type}{enc:TypeId × Value→H}{w:World}{base:Nat}{spare:Nat→Bool}{held:Bool}{fuel:Nat}{cs:List Value}{x:DataW H × List MemPlace}
theorem MK (h:DataW.trod enc Tryz.prog w base spare held fuel 3 cs=some x):∃ y,(InA y).p w.heap.size cs w:=by
 obtain ⟨n,hn,_⟩:=DataW.trod_int Tryz.underlying3 h;exact ⟨n,hn⟩
end
theorem EP (t:RTk):Cn Tryz.prog 91 [(TkA t).va,EqV (.slice none 0 0)] (Tu [In (rowF t []).1,(G2A (rowF t []).2.1).va,In (rowF t []).2.2]):=(Mw t []).wk (.cons aG (.cons uF .nil))
theorem Cv:((lR (twoT 1)).2==0&&(rowF (twoT 1) []).2.2==0&&(rowF (twoT 1) []).1==4&&decide ((rowF (twoT 1) []).2.1.1=rfOf (Rat.divInt 0 1))&&decide ((rowF (twoT 1) []).2.1.2=rfOf (Rat.divInt 1 1))&&decide ((lR (twoT 1)).1.l=[0,1])&&(lR (twoT 1)).1.c==8&&decide ((lR (twoT 1)).1.pw=rfOf (Rat.divInt 1 1)))=true:=by kernel_rfl
theorem Cw  : Cn Tryz.prog 17 [] (Bo true):=by
 refine Cn.intro Tryz.func17 G zk nq (zy [] λ B w0 a U=>?_);refine qb<|zh [.v 0 _] U2 U (zE G aE) (zz UM [] ?_);refine ztA<|zgA [] [⟨1,98,ptrH,some 5,_,some (6,_)⟩] (W6 7 (.v 6 _::(W6 9 [.alc 0,.sto 0,.v 2 _]))) [.g 0,.o 7] (zQ G (AB (n:=1) zd zd) (.cons ab .nil) (zQ G (P1 _) (.o (vq 0 G)) (zV 1 G (zv G (nJ (vq 2 G)) (zv G (nI (vq 2 G)) (zY G (Str.zero IJ) (zS 3 G sG (zA 4 G o0)))))))) (zz Rl [O 1 98 _] ?_);refine ztA<|zgA U4 [⟨4,103,ptrH,some 6,_,some (8,_)⟩] (W6 12 (.v 11 _::(Wb 14 [.alc 1,.v 3 _,.sto 1,.v 5 _]))) (We [.o 7,.o 9]) (zQ G (AB (n:=1) zd zd) (.cons ab .nil) (zQ G (EP _) (.cons (vq 0 G) (.cons aX .nil)) (zV 1 G (zv G (nJ (vq 2 G)) (zv G (nI (vq 2 G)) (zv G (PR (vq 2 G)) (zY G (Str.zero Mo) (zA 3 G (zS 4 G ib (zA 5 G o0)))))))))) (zz (Wf 0 2 3 5) [O 1 98 _,O 4 103 _] λ a w U=>?_);refine zt<|lp (anc:=[[],[0],[0,1],[0,1,2],[0,1,2,3],[0,1,2,3,4],[0,1,2,3,4,5],[0,1,2,3,4,5,6],[0,1,2,3,4,5,6,7],[0,1,2,3,4,5,6,7,8],[0,1,2,3,4,5,6,7,8,9],[0,1,2,3,4,5,6,7,8,9,10],[0,1,2,3,4,5,6,7,8,9,10,11],[0,1,2,3,4,5,6,7,8,9,10],[0,1,2,3,4,5,6,7,8,9,10,11,12,13],[0,1,2,3,4,5,6,7,8,9,10,11,12,13,14],[0,1,2,3,4,5,6,7,8,9,10,11,12,13,14,15],[0,1,2,3,4,5,6,7,8,9,10,11,12,13,14,15,16],[0,1,2,3,4,5,6,7,8,9,10,11,12,13,14,15,16,17],[0,1,2,3,4,5,6,7,8,9,10,11,12,13,14,15,16],[0,1,2,3,4,5,6,7,8,9,10,11,12,13,14,15,16,17,18,19],[0,1,2,3,4,5,6,7,8,9,10,11,12,13,14,15,16,17,18,19,20],[0,1,2,3,4,5,6,7,8,9,10,11,12,13,14,15,16,17,18,19,20,21],[0,1,2,3,4,5,6,7,8,9,10,11,12,13,14,15,16,17,18,19,20,21,22],[0,1,2,3,4,5,6,7,8,9,10,11,12,13,14,15,16,17,18,19,20,21,22,23],[0,1,2,3,4,5,6,7,8,9,10,11,12,13,14,15,16,17,18,19,20,21,22],[0,1,2,3,4,5,6,7,8,9,10,11,12,13,14,15,16,17,18,19,20,21,22,23,24,25],[0,1,2,3,4,5,6,7,8,9,10,11,12,13,14,15,16,17,18,19,20,21,22,23,24,25,26],[0,1,2,3,4,5,6,7,8,9,10,11,12,13,14,15,16,17,18,19,20,21,22,23,24,25,26,27],[0,1,2,3,4,5,6,7,8,9,10,11,12,13,14,15,16,17,18,19,20,21,22,23,24,25,26,27,28],[0,1,2,3,4,5,6,7,8,9,10,11,12,13,14,15,16,17,18,19,20,21,22,23,24,25,26,27,28,29],[0,1,2,3,4,5,6,7,8,9,10,11,12,13,14,15,16,17,18,19,20,21,22,23,24,25,26,27,28,29,30],[0,1,2,3,4,5,6,7,8,9,10,11,12,13,14,15,16,17,18,19,20,21,22,23,24,25,26,27,28,29,30,31],[0,1,2,3,4,5,6,7,8,9,10,11,12,13,14,15,16,17,18,19,20,21,22,23,24,25,26,27,28,29,30,31,32],[0,1,2,3,4,5,6,7,8,9,10,11,12,13,14,15,16,17,18,19,20,21,22,23,24,25,26,27,28,29,30,31,32,33],[0,1,2,3,4,5,6,7,8,9,10,11,12,13,14,15,16,17,18,19,20,21,22,23,24,25,26,27,28,29,30,31,32,33,34],[0,1,2,3,4,5,6,7,8,9,10,11,12,13,14,15,16,17,18,19,20,21,22,23,24,25,26,27,28,29,30,31,32,33],[0,1,2,3,4,5,6,7,8,9,10,11,12,13,14,15,16,17,18,19,20,21,22,23,24,25,26,27,28,29,30,31,32,33,34,35,36],[0,1,2,3,4,5,6,7,8,9,10,11,12,13,14,15,16,17,18,19,20,21,22,23,24,25,26,27,28,29,30,31,32,33,34,35,36,37],[0,1,2,3,4,5,6,7,8,9,10,11,12,13,14,15,16,17,18,19,20,21,22,23,24,25,26,27,28,29,30,31,32,33,34,35,36,37,38]]) (sts:=[none,none]) (news:=[]) (sp:=((.v 17 _:Sp)::(.v 18 _)::(.v 19 _)::(.t 20 _)::(.t 21 _)::(.v 22 _)::(.v 23 _)::(.t 24 _)::(.t 25 _)::(.v 26 _)::(.v 27 _)::(.adr 28 4 (.some 0) (_=true))::(.t 29 _)::(.t 30 _)::(.t 31 _)::(.v 32 _)::(.v 33 _)::(.adr 34 4 (.some 4) (_=true))::(.t 35 _)::(.t 36 _)::(.t 37 _)::(.v 38 _)::(.v 39 _)::(.adr 40 1 (.some 0) (_=true))::(.t 41 _)::(.t 42 _)::(.t 43 _)::(.v 44 _)::(.v 45 _)::(.adr 46 1 (.some 5) (_=true))::(.t 47 _)::(.t 48 _)::(.v 49 _)::(.v 50 _)::(.adr 51 1 (.some 1) (_=true))::(.t 52 _)::(.t 53 _)::(.t 54 _)::(.v 55 _)::(.v 0 _)::[])) [.o 39] ac U (zM 1 G (zv G (bC (vq 0 G) ab) (zV 1 G (zB 2 G (λ hg=>aq (gq 3 G)) (zB 2 G (λ hg=>bC (ae (vq 3 G) hg) ab) (zv G (bv (vq 2 G) (vq 4 G)) (zV 5 G (zB 6 G (λ hg=>aq (gq 2 G)) (zB 6 G (λ hg=>bC (ae (vq 7 G) hg) ab) (zv G (bv (vq 6 G) (vq 8 G)) (zV 9 G (zC 10 1 G fU (zB 10 G (λ hg=>aB 11 G zk hg (lz0 1 G) (Sub.part 0 G G) ax) (zB 10 G (λ hg=>be (d6 (n:=0) zd zd) (.cons ab .nil)) (zB 10 G (λ hg=>be (eK _ _) (.p (ae (vq 12 G) hg) (ae (vq 13 G) hg))) (zv G (bv (vq 10 G) (vq 14 G)) (zV 15 G (zC 16 1 G fT (zB 16 G (λ hg=>aB 17 G zk hg (lz0 1 G) (Sub.part 1 G G) ax) (zB 16 G (λ hg=>be (d6 (n:=1) zd zd) (.cons ab .nil)) (zB 16 G (λ hg=>be (eK _ _) (.p (ae (vq 18 G) hg) (ae (vq 19 G) hg))) (zv G (bv (vq 16 G) (vq 20 G)) (zV 21 G (zC 22 0 G FU (zB 22 G (λ hg=>aB 23 G zk hg (lz0 0 G) (Sub.part 0 G G) eJ) (zB 22 G (λ hg=>bR (D:=[]) (l:=[_,_]) (xs:=[.const (.int .i64 (0)),.const (.int .i64 (1))]) (cO zk) dr zk (n_ok zk) nq nq nq (.cons ab (.cons ab .nil)) G G) (zB 22 G (λ hg=>be (Ba _ [0,1]) (.p (ae (vq 24 G) hg) (ae (vq 25 G) hg))) (zv G (bv (vq 22 G) (vq 26 G)) (zV 27 G (zC 28 0 G FR (zB 28 G (λ hg=>aB 29 G zk hg (lz0 0 G) (Sub.part 2 G G) ty_3) (zB 28 G (λ hg=>bC (ae (vq 30 G) hg) ab) (zv G (bv (vq 28 G) (vq 31 G)) (zV 32 G (zC 33 0 G FT (zB 33 G (λ hg=>aB 34 G zk hg (lz0 0 G) (Sub.part 1 G G) ax) (zB 33 G (λ hg=>be (d6 (n:=1) zd zd) (.cons ab .nil)) (zB 33 G (λ hg=>be (eK _ _) (.p (ae (vq 35 G) hg) (ae (vq 36 G) hg))) (zv G (bv (vq 33 G) (vq 37 G)) (zA 38 G o0)))))))))))))))))))))))))))))))))))))))) zk zk zk zk (zz UM [O 1 98 _,O 4 103 _] λ a w U=>?_);refine aa<|qh<|al ?_ (am G U (zm 0 G));exact ba (qp Bo Cv)
open Go.ChangeShapes Go.WideShapes Go.ChangeAt
def wdE (x:RE):Prop:=wdF x.p∧wdF x.q
def wdPt (x:RPt):Prop:=x.nm.size≤140737488355328∧wdE x.e
structure wdTk (t:RTk):Prop where
 s:(∀ x∈t.sp,wdF x)∧t.sp.length≤140737488355328
 p:(∀ x∈t.ps,wdPt x)∧t.ps.length≤140737488355328
 g:wdF t.tg
section
variable {H:Type}{enc:TypeId × Value→H}{w:World}{base:Nat}{spare:Nat→Bool}{held:Bool}{fuel:Nat}{cs:List Value}{x:DataW H × List MemPlace}
theorem PE (h:DataW.trod enc Tryz.prog w base spare held fuel 74 cs=some x):∃ y,(NumA .u8 y).p w.heap.size cs w:=by
 obtain ⟨a,ha,_⟩:=DataW.trod_int Tryz.underlying74 h;exact ⟨a,ha⟩
theorem MM (h:DataW.trod enc Tryz.prog w base spare held fuel 9 cs=some x)(hw:Wt Tryz.prog 9 x.1):∃ y:ByteArray,(EqA (.string y)).p w.heap.size cs w∧y.size≤140737488355328:=by
 obtain ⟨s,hs,hx,_⟩:=DataW.trod_string Tryz.underlying9 h;refine ⟨s,⟨hs,rfl⟩,?_⟩;have:=hw s.data.toList.length (by rw [hx];simp only [DataW.weights,qn]);have e:s.data.toList.length=s.size:=by rw [vM];rfl
 unfold reachBytes at this;omega
theorem PN (h:DataW.trod enc Tryz.prog w base spare held fuel 76 cs=some x)(hw:Wt Tryz.prog 76 x.1):∃ y,(REA y).p w.heap.size cs w∧wdE y:=by
 have hl:cs.length=9:=by
  obtain ⟨_,_,_,_,hl,_,_⟩:=DataW.trod_struct x7 h;exact hl.trans zk
 obtain ⟨n0,y0,h0,w0⟩:=dw x7 h hw 0 rfl;have c0:Tryz.prog.cellsOf 74=1:=by kernel_rfl
 have h0:DataW.trod enc Tryz.prog w base spare held n0 74 ((cs.drop 0).take (Tryz.prog.cellsOf 74))=some y0:=h0;rw [c0] at h0;obtain ⟨a0,q0⟩:=PE h0;obtain ⟨n1,y1,h1,w1⟩:=dw x7 h hw 1 rfl;have c1:Tryz.prog.cellsOf 28=4:=by kernel_rfl
 have h1:DataW.trod enc Tryz.prog w base spare held n1 28 ((cs.drop 1).take (Tryz.prog.cellsOf 28))=some y1:=h1;rw [c1] at h1;obtain ⟨a1,q1,b1⟩:=EW h1 w1;obtain ⟨n2,y2,h2,w2⟩:=dw x7 h hw 2 rfl;have c2:Tryz.prog.cellsOf 28=4:=by kernel_rfl
 have h2:DataW.trod enc Tryz.prog w base spare held n2 28 ((cs.drop 5).take (Tryz.prog.cellsOf 28))=some y2:=h2;rw [c2] at h2;obtain ⟨a2,q2,b2⟩:=EW h2 w2;exact ⟨⟨a0,a1,a2⟩,ni q0 q1 q2 hl,⟨b1,b2⟩⟩
theorem PO (h:DataW.trod enc Tryz.prog w base spare held fuel 79 cs=some x)(hw:Wt Tryz.prog 79 x.1):∃ y,(PtA y).p w.heap.size cs w∧wdPt y:=by
 have hl:cs.length=11:=by
  obtain ⟨_,_,_,_,hl,_,_⟩:=DataW.trod_struct jv h;exact hl.trans zk
 obtain ⟨n0,y0,h0,w0⟩:=dw jv h hw 0 rfl;have c0:Tryz.prog.cellsOf 9=1:=by kernel_rfl
 have h0:DataW.trod enc Tryz.prog w base spare held n0 9 ((cs.drop 0).take (Tryz.prog.cellsOf 9))=some y0:=h0;rw [c0] at h0;obtain ⟨a0,q0,b0⟩:=MM h0 w0;obtain ⟨n1,y1,h1,w1⟩:=dw jv h hw 1 rfl;have c1:Tryz.prog.cellsOf 76=9:=by kernel_rfl
 have h1:DataW.trod enc Tryz.prog w base spare held n1 76 ((cs.drop 1).take (Tryz.prog.cellsOf 76))=some y1:=h1;rw [c1] at h1;obtain ⟨a1,q1,b1⟩:=PN h1 w1;obtain ⟨n2,y2,h2,w2⟩:=dw jv h hw 2 rfl;have c2:Tryz.prog.cellsOf 3=1:=by kernel_rfl
 have h2:DataW.trod enc Tryz.prog w base spare held n2 3 ((cs.drop 10).take (Tryz.prog.cellsOf 3))=some y2:=h2;rw [c2] at h2;obtain ⟨a2,q2⟩:=MK h2;exact ⟨⟨a0,a1,a2⟩,ni q0 q1 q2 hl,⟨b0,b1⟩⟩
theorem PM (h:DataW.trod enc Tryz.prog w base spare held fuel 30 cs=some x)(hw:Wt Tryz.prog 30 x.1):∃ y,(TkA y).p w.heap.size cs w∧wdTk y:=by
 have hl:cs.length=6:=by
  obtain ⟨_,_,_,_,hl,_,_⟩:=DataW.trod_struct ja h;exact hl.trans zk
 obtain ⟨n0,y0,h0,w0⟩:=dw ja h hw 0 rfl;have c0:Tryz.prog.cellsOf 22=1:=by kernel_rfl
 have h0:DataW.trod enc Tryz.prog w base spare held n0 22 ((cs.drop 0).take (Tryz.prog.cellsOf 22))=some y0:=h0;rw [c0] at h0;obtain ⟨a0,q0,b0⟩:=(Jd (A:=RFA) (m:=4) (D:=[U32]) qQ zk zd (jQ zd (show 64=Tryz.prog.bytesOf 28 from by kernel_rfl)) (λ _=>t5 zk) EW) h0 w0;obtain ⟨n1,y1,h1,w1⟩:=dw ja h hw 1 rfl;have c1:Tryz.prog.cellsOf 23=1:=by kernel_rfl
 have h1:DataW.trod enc Tryz.prog w base spare held n1 23 ((cs.drop 1).take (Tryz.prog.cellsOf 23))=some y1:=h1;rw [c1] at h1;obtain ⟨a1,q1,b1⟩:=(Jd (A:=PtA) (m:=11) (D:=[U32]) qM zk zd (jQ zd (show 160=Tryz.prog.bytesOf 79 from by kernel_rfl)) (λ _=>t5 zk) PO) h1 w1;obtain ⟨n2,y2,h2,w2⟩:=dw ja h hw 2 rfl;have c2:Tryz.prog.cellsOf 28=4:=by kernel_rfl
 have h2:DataW.trod enc Tryz.prog w base spare held n2 28 ((cs.drop 2).take (Tryz.prog.cellsOf 28))=some y2:=h2;rw [c2] at h2;obtain ⟨a2,q2,b2⟩:=EW h2 w2;exact ⟨⟨a0,a1,a2⟩,ni q0 q1 q2 hl,⟨b0,b1,b2⟩⟩
theorem MO (h:DataW.trod enc Tryz.prog w base spare held fuel 3 cs=some x)(hw:Wt Tryz.prog 3 x.1):∃ y,(InA y).p w.heap.size cs w∧True:=by
 obtain ⟨y,hy⟩:=MK h;exact ⟨y,hy,trivial⟩
end
theorem G8 {x:RE}(h:wdE x):∃ a b:Nat,pP x=((a+b:Nat):Int)∧(x.p.num.mag.length+x.p.den.mag.length+2≤a∧x.q.num.mag.length+x.q.den.mag.length+2≤b)∧a+b≤9007199254740992:=by
 obtain ⟨h1,h2⟩:=h;obtain ⟨a,ea,la,ma⟩:=iG h1;obtain ⟨b,eb,lb,mb⟩:=iG h2;refine ⟨a,b,?_,⟨by omega,by omega⟩,by omega⟩;unfold pP;rw [ea,eb,wi64 zo zo];omega
theorem HB:∀ (xs:List RF) (n:Nat),(∀ x∈xs,wdF x)→n≤288230376151711744→∃ c:Nat,frsF (n:Int) xs=(c:Int)∧c≤576460752303423488∧(c≤1048576→n≤c∧∀ x∈xs,x.num.mag.length+x.den.mag.length≤c)
 | [],n,_,hn=>⟨n,rfl,by omega,λ _=>⟨qi _,λ x hx=>by cases hx⟩⟩
 | x::xs,n,hw,hn=>by
  obtain ⟨a,e,l,hs⟩:=iG (hw x (by simp));by_cases h:n≤1048576
  ·obtain ⟨c,h1,h2,h3⟩:=HB xs (n+a) (λ y hy=>hw y (by simp [hy])) zo;refine ⟨c,?_,h2,λ hc=>?_⟩
   ·rw [frsF,qC (qG zo),e,wi64 zo zo];exact h1
   ·obtain ⟨h4,h5⟩:=h3 hc;refine ⟨by omega,λ y hy=>?_⟩;rcases qr.1 hy with rfl|hy
    ·omega
    ·exact h5 y hy
  ·refine ⟨n,?_,by omega,λ hc=>absurd hc h⟩;rw [frsF,qz (by intro h2;have:=qt h2;omega)]
theorem Hc:∀ (xs:List RPt) (n:Nat),(∀ x∈xs,wdPt x)→n≤288230376151711744→∃ c:Nat,ptsF (n:Int) xs=(c:Int)∧c≤576460752303423488∧(c≤1048576→n≤c∧∀ x∈xs,x.e.p.num.mag.length+x.e.p.den.mag.length+(x.e.q.num.mag.length+x.e.q.den.mag.length)≤c)
 | [],n,_,hn=>⟨n,rfl,by omega,λ _=>⟨qi _,λ x hx=>by cases hx⟩⟩
 | x::xs,n,hw,hn=>by
  obtain ⟨hz,he⟩:=hw x (by simp);obtain ⟨a,b,e,l,hs⟩:=G8 he;by_cases h:n≤1048576
  ·obtain ⟨c,h1,h2,h3⟩:=Hc xs (n+x.nm.size+(a+b)) (λ y hy=>hw y (by simp [hy])) zo;refine ⟨c,?_,h2,λ hc=>?_⟩
   ·rw [ptsF,qC (qG zo)];unfold ptc;rw [e,wi64 (x:=(n:Int)+((x.nm.size:Nat):Int)) zo zo,wi64 zo zo];exact h1
   ·obtain ⟨h4,h5⟩:=h3 hc;refine ⟨by omega,λ y hy=>?_⟩;rcases qr.1 hy with rfl|hy
    ·omega
    ·exact h5 y hy
  ·refine ⟨n,?_,by omega,λ hc=>absurd hc h⟩;rw [ptsF,qz (by intro h2;have:=qt h2;omega)]
theorem Pi {t:RTk}(h:wdTk t):∃ c:Nat,tkcF t=(c:Int)∧c≤1297036692682702848∧(c≤1048576→bdTk t):=by
 obtain ⟨a,ea,la,ma⟩:=HB t.sp t.sp.length h.s.1 (by have:=h.s.2;omega);obtain ⟨b,eb,lb,mb⟩:=Hc t.ps t.ps.length h.p.1 (by have:=h.p.2;omega);obtain ⟨d,ed,ld,md⟩:=iG h.g;refine ⟨a+b+d,?_,by omega,λ hc=>?_⟩
 ·unfold tkcF;rw [ea,eb,ed,wi64 (x:=(a:Int)+(b:Int)) zo zo,wi64 zo zo];omega
 ·obtain ⟨q1,q2⟩:=ma zo;obtain ⟨q3,q4⟩:=mb zo;refine ⟨by omega,by omega,λ x hx=>?_,λ x hx=>?_,?_⟩
  ·have:=q2 x hx;unfold bdF;omega
  ·have:=q4 x hx;unfold bdF;omega
  ·unfold bdF;omega
theorem OM {t:RTk}(h:wdTk t)(hl:l.length≤2∧∀ n∈l,n≤140737488355328)(hb:bydF 0 (tkcF t::l.map λ (x:Nat)=>(x:Int))=false):bdTk t∧l.sum≤1048576:=by
 obtain ⟨c,e,hc,hk⟩:=Pi h;have hs:l.sum≤2*140737488355328:=by
  obtain ⟨h1,h2⟩:=hl
  match l,h1,h2 with
  | [],_,_=>simp
  | [a],_,h2=>have:=h2 a (by simp);simp;omega
  | [a,b],_,h2=>have:=h2 a (by simp);have:=h2 b (by simp);simp;omega
 have:=R3 (l:=c::l) (by rw [xe];omega) (by rw [e] at hb;exact hb);rw [xe] at this;exact ⟨hk zo,by omega⟩
section
variable {P:Program}{B N:Nat}{w0:Bs}{Γ:List (Nat × VA)}{Λ:List Lc}{a:Act}{w:World}
theorem St.eqw (h:St B w0 N Γ Λ a w){A:VA}(k:Nat)(hm:Γ[k]?=some (s,A)):∃ v,A.p B v w∧St B w0 N (Γ.set k (s,EqV v)) Λ a w :=
 ⟨a.eval (.tmp s),h.vals _ (qa hm),h.lo,h.defers,h.size,h.base,λ x hx=>by
  rcases qA hx with hx|rfl
  ·exact h.vals x hx
  ·exact rfl,h.locs,h.dis⟩
end
section
open Rg
variable {P:Program}{Q:Exit→Act→World→Prop}{R:Rg}{B i:Nat}{w0:Bs}
theorem oM {B0:Nat}{f:Yn}{A A' C:VA}{u v:Yo}{at_:Yr}(hF:NoF w0)(h0:B0≤B)(hc:Cn P f [A,A'] C)(hu:A.p B0 u w0.w)(hv:A'.p B0 v w0.w)(hC:∀ v w,C.p B0 v w→C.p B v w)(hx:Has R B w0 i x (EqV u))(hy:Has R B w0 i y (EqV v)):Wv P Q R B w0 i (.call ⟨.value (.func f),#[x,y],at_⟩) C:=by
 intro d T ps af gd a w av K hK;obtain ⟨⟨fn,hf,hn,hb⟩,hcall⟩:=hc;have hrun:(execOp a.eval ⟨some d,.call ⟨.value (.func f),#[x,y],at_⟩,T,ps,af,gd⟩).run P w=.ok (.enter f ([x,y].map a.eval).toArray) w:=by
  simp only [execOp,resolve,Act.eval,Deferred.ofValue,Sem.run_bind,Sem.run_pure,Result.andThen_ok,invoke,bi hf hn hb];simp
 unfold Oper.wp;rw [hrun];have e1:a.eval x=u:=hx a w av;have e2:a.eval y=v:=hy a w av;refine (hcall B0 w _ (qf h0 (Av.bw av)) (show All2 _ _ [a.eval x,a.eval y] from .cons (by rw [e1];exact A.cg _ _ _ _ (hF.cg av.base) hu) (.cons (by rw [e2];exact A'.cg _ _ _ _ (hF.cg av.base) hv) .nil))).mono λ e w' ⟨v,he,hv,hg⟩=>by subst he;exact hK v w' hg (hC _ _ hv)
end
def EqC (n:Nat)(v:List Value):As where
 n:=n
 ag:=true
 p _ cs _:=cs=v∧cs.length=n∧∀ c∈cs,c.oneCell'=true
 deps:=[]
 len:=λ _ _ _ h=>h.2.1
 one:=λ _ _ _ h=>h.2.2
 ag1:=λ h=>by cases h
 cg:=λ _ _ _ _ _ h=>h
 wr:=λ _ _ _ _ _ _ _ _ _ _ _ _ h=>h
theorem tw :Wk (EqC n cs).va (EqV (cL true cs)):=λ B v w ⟨c,⟨h1,_⟩,h2⟩=>by
 subst h1;exact h2
section
variable {P:Program}{B N:Nat}{w0:Bs}{Γ:List (Nat × VA)}{Λ:List Lc}{a:Act}{w:World}
theorem St.exC (h:St B w0 N Γ Λ a w)(k:Nat)(hm:Λ[k]?=some ⟨s,T,ptrH,A⟩):∃ cs,A.p B cs w∧(ElO T (EqC A.n cs)).p w.heap.size (a.eval (.tmp s)) w:=by
 obtain ⟨g,cs,q1,q2,q3,q4⟩:=h.locs _ (qa hm);exact ⟨cs,q4,g,cs,q1,(Array.getElem?_eq_some_iff.1 q3).1,q3,rfl,A.len _ _ _ q4,A.one _ _ _ q4⟩
theorem KF {c:Code}{b:Bool}(Γ':Yf)(h:St B w0 N Γ Λ a w)(hnd:w0.nd=true)(hΓ:AllG a w Γ')
  (k:∀ (B:Nat) (w1:Bs),w1.nd=true→(∀ g,¬ w1.F g)→B=w1.w.heap.size→w1.w=w→St B w1 N Γ' [] a w→Exit.then (λ a w=>c.wp P (ce P fn (RQ B w1 (Bo b))) a w) (ce P fn (RQ B w1 (Bo b))) .normal a w) :
  Exit.then (λ a w=>c.wp P (ce P fn (RQ B w0 (Bo b))) a w) (ce P fn (RQ B w0 (Bo b))) .normal a w:=by
 have h1:=k w.heap.size ⟨w,λ _=>False,true⟩ rfl (λ _ h=>h) rfl rfl ⟨λ g hg=>hg.resolve_right λ h=>h,DefOk.nil (h.defers.none hnd),h.size,Kept.refl _,hΓ.mem,(λ l hl=>by cases hl),(λ l hl=>by cases hl)⟩;refine wp_mono (c:=c) (show c.wp P _ a w from h1) λ e a' w' hp=>og hp ?_;rintro v w2 ⟨u,hu,hp,hk⟩;exact ⟨u,hu,hp,h.base.grow ⟨hk.os,hk.tape,hk.output,hk.size,λ k hlt=>hk.block k hlt (λ h=>h)⟩⟩
end
theorem De:Xx Tryz.prog 198:=⟨_,Tryz.func198,zk,zk⟩
theorem G3:Xx Tryz.prog 229:=⟨_,Tryz.func229,zk,zk⟩
theorem Dg:Xx Tryz.prog 197:=⟨_,Tryz.func197,zk,zk⟩
theorem A4:Xx Tryz.prog 246:=⟨_,Tryz.func246,zk,zk⟩
theorem G2:Xx Tryz.prog 187:=⟨_,Tryz.func187,zk,zk⟩
theorem tu:Xx Tryz.prog 208:=⟨_,Tryz.func208,zk,zk⟩
theorem sU (p:Int)(hp:lz p≤1000000000):Cn Tryz.prog 208 [Zi p] (Zi (-p)):=by
 refine Cn.intro Tryz.func208 G zk nq (zy [(0,Zi p)] λ B w0 a U=>?_);refine qb<|zg [] UT UU [] U (zW 0 G (zY G (Str.zero bu) o0)) (zz [] UV λ a w U=>?_);refine zt<|zgd UW UX [] (Wb 3 [.sto 1]) [] ac U (zQ G (ER 0 zd zd) (.cons ab .nil) (zl 0 G ap (zQ G (rx 0 p (by simp [lz,bE]) hp) (.p (vq 0 G) (vq 1 G)) (zS 2 G ap o0)))) zk zk zk zk (zz [] UV λ a w U=>?_);refine aa<|qh<|al ?_ (au G U (zm 1 G) ap);exact ba (qp Zi (kQ p))
section
variable {a b:Nat}{p q:Int}(ha:a≤1000000000)
include ha
theorem lf:Cn Tryz.prog 208 [Zs a p] (Zs a (-p)):=zs1 tu λ h=>(sU p zo).wkp (gC (by rw [lK];exact h))
variable (hb:b≤1000000000)
include hb
theorem dV:Cn Tryz.prog 198 [Zs a p,Zs b q] (Zs (a+b) (p*q)):=zs2 De λ h h'=>(Be p q zo zo).wkp (gC (by have:=iy p q;omega))
theorem J3:Cn Tryz.prog 229 [Zs a p,Zs b q] (Zs (max a b+1) (p+q)):=zs2 G3 λ h h'=>(un p q zo zo).wkp (gC (by have:=rL p q;omega))
theorem ES:Cn Tryz.prog 197 [Zs a p,Zs b q] (Zs (max a b+1) (p-q)):=zs2 Dg λ h h'=>(rx p q zo zo).wkp (gC (by have:=Hn p q;omega))
theorem ry (hq:q≠0):Cn Tryz.prog 246 [Zs a p,Zs b q] (Tu [Zs a (p.tdiv q),Zs b (p.tmod q)]):=zs2 A4 λ h h'=>(nU p q hq zo zo).wkp (Ej (.cons (gC (by have:=pg p q;omega)) (.cons (gC (by have:=Ka (p:=p) hq;omega)) .nil)))
end
theorem sL {a:Nat}{p:Int}:Cn Tryz.prog 187 [Zs a p] (In p.sign):=zs1 G2 λ _=>(mB (riOf p)).post (by rw [dL])
theorem J6 {n:Int}(h0 : -9223372036854775808≤n)(h1:n<9223372036854775808):Cn Tryz.prog 200 [In n] (Zs 2 n):=(ER n h0 h1).wkp (gC (t8 zo))
theorem Fs {p q:Int}(h:q≠0)(hq:lz q≤1000000000):lz (p.tmod q)≤1000000000:=qf (Ka h) hq
theorem FF {X Y:Int}(h:Y≠0):Int.gcd Y (X.tmod Y)=Int.gcd X Y:=by
 show Nat.gcd Y.natAbs (X.tmod Y).natAbs=Nat.gcd X.natAbs Y.natAbs;rw [iq,xY X.natAbs,xY,← Nat.gcd_rec]
theorem mH (p q:Int)(hp:lz p≤1000000000)(hq:lz q≤1000000000):Cn Tryz.prog 225 [Zi p,Zi q] (Zi ((Int.gcd p q:Nat):Int)):=by
 refine Cn.intro Tryz.func225 G zk nq (zy [(0,Zi p),(1,Zi q)] λ B w0 a U=>?_);refine qb<|zg [] Ul Um [] U (zW 0 G (zW 1 G (zY G (Str.zero bu) o0))) (zz [] Un λ a w U=>?_);refine zt<|qb<|zgd [[],[0],[],[0,1,2],(Wm 4)] Uo [] (Wd 7) UP ac U (zl 0 G ap (zQ G (sO p hp) (.o (vq 0 G)) (zl 1 G ap (zQ G (sO q hq) (.o (vq 2 G)) (zv G (aN (vq 1 G) (vq 3 G)) o0))))) zk zk zk zk (zz [(11,_)] Un λ a w U=>?_);refine aa<|bP (λ a w=>∃ X Y:Int,(lz X≤1000000000∧lz Y≤1000000000∧Int.gcd X Y=Int.gcd p q)∧St B w0 33 [] [⟨2,26,ptrH,RIA (riOf X)⟩,⟨3,26,ptrH,RIA (riOf Y)⟩,⟨4,26,ptrH,cat [BoA false,MgA []]⟩] a w) U (zm 0 G) (λ hb0=>?_) (λ hb0=>?_) (λ a w U=>?_)
 ·refine zg [some (2,_),some (3,_),η] [] (W6 12 [.sto 0,.sto 1]) [] U (zl 1 G ap (zl 0 G ap (zS 0 G ap (zS 1 G ap o0)))) (zz [] Un λ a w U=>?_);refine aa ?_;have U:=U.sel [];exact ⟨q,p,⟨hq,hp,Int.gcd_comm q p⟩,U⟩
 ·refine qj<|aa ?_;have U:=U.sel [];exact ⟨p,q,⟨hp,hq,rfl⟩,U⟩
 obtain ⟨X,Y,⟨hX,hY,hg⟩,U⟩:=U;refine zt<|qb<|zg US [] (Wb 14) Ud U (zl 1 G ap (zQ G ((mB (riOf Y)).post (by rw [dL])) (.o (vq 0 G)) (zv G (bC (vq 1 G) ab) o0))) (zz [(16,_)] Un λ a w U=>?_);refine zJ 0 U G (λ hb1=>?_) (λ hb1=>?_)
 ·refine qb<|zg [η,η,some (3,_)] [] (Wb 17 [.sto 2]) [] U (zl 0 G ap (zl 1 G ap (zQ G (nV X Y hX hY) (.p (vq 0 G) (vq 1 G)) (zS 2 G ap o0)))) (zz [] Un λ a w U=>?_);refine aa<|qh<|aj ?_;refine al ?_ (au G U (zm 2 G) ap);exact ba (qp (λ n:Nat=>Zi (n:Int)) hg)
 ·have hY0:Y≠0:=λ e=>by rw [e] at hb1;exact absurd hb1 zd
  refine qj<|zt<|zg US [⟨5,26,ptrH,some 6,_,some (8,_)⟩,⟨6,26,ptrH,some 7,_,some (9,_)⟩] (Wb 21 (.v 20 _::(W6 24 [.alc 3,.alc 4,.sto 3,.sto 4]))) [] U (zl 0 G ap (zl 1 G ap (zQ G (nU X Y hY0 hX hY) (.p (vq 0 G) (vq 1 G)) (zV 2 G (zv G (aQ (vq 3 G) G) (zv G (aQ (vq 3 G) G) (zY G (Str.zero bu) (zY G (Str.zero bu) (zS 4 G ap (zS 5 G ap o0)))))))))) (zz [] Rq ?_);refine ztA<|zsA<|zgA [none,none,none,none,none] [] (Wb 26) Ud (zl 1 G ap (zQ G (sO Y hY) (.o (vq 0 G)) (zv G (bC (vq 1 G) ab) o0))) (zz [(28,_)] Rq λ a w U=>?_);refine zJ 0 U G (λ hb2=>?_) (λ hb2=>?_)
  ·have h1:Y.natAbs=1:=Gw (by have:=beq_iff_eq.1 hb2;omega);refine qb<|zg [η,η,some (1,_),η,η] [] [.v 29 _,.sto 2] [] U (zQ G (ER 1 zd zd) (.cons ab .nil) (zS 0 G ap o0)) (zz [] Rq λ a w U=>?_);refine aa<|qh<|aj ?_;refine al ?_ (au G U (zm 2 G) ap);exact ba (qp (λ n:Nat=>Zi (n:Int)) (show 1=Int.gcd p q by rw [← hg];show 1=Nat.gcd X.natAbs Y.natAbs;rw [h1,Nat.gcd_one_right]))
  ·refine qj<|zt<|zg [η,η,some (3,_),η,η] [] (Wb 30 [.sto 2]) [] U (zl 1 G ap (zl 4 G ap (zQ G (nV Y (X.tmod Y) hY (Fs hY0 hY)) (.p (vq 0 G) (vq 1 G)) (zS 2 G ap o0)))) (zz [] Rq λ a w U=>?_);refine aa<|qh<|al ?_ (au G U (zm 2 G) ap);exact ba (qp (λ n:Nat=>Zi (n:Int)) ((FF hY0).trans hg))
theorem tv:Xx Tryz.prog 225:=⟨_,Tryz.func225,zk,zk⟩
theorem yq {a b:Nat}{p q:Int}(ha:a≤1000000000)(hb:b≤1000000000):Cn Tryz.prog 225 [Zs a p,Zs b q] (Zs (max a b) ((Int.gcd p q:Nat):Int)):=zs2 tv λ h h'=>(mH p q zo zo).wkp (gC (by have:=Cj p q;omega))
theorem gh {p q:Int}(hc:c≤1000000000)(hd:d≤1000000000)(hq:q≠0):Cn Tryz.prog 233 [Zs c p,Zs d q] (Qs (max c d) (Rat.divInt p q)):=by
 have hg0:0<Int.gcd p q:=x4 p hq;obtain ⟨hn1,hn2⟩:=ta (p:=p) hq;refine Cn.intro Tryz.func233 G zk nq (zy [(0,Zs c p),(1,Zs d q)] λ B w0 a U=>?_);refine qb<|zg [] Rr Um [] U (zW 0 G (zW 1 G (zY G (Str.zero aS) o0))) (zz [] Rt ?_);refine ztA<|zgA Uo [⟨5,26,ptrH,some 3,_,some (4,_)⟩] (Wb 10 [.alc 3,.sto 3]) [] (zl 0 G ap (zl 1 G ap (zQ G (yq zo zo) (.p (vq 0 G) (vq 1 G)) (zY G (Str.zero bu) (zS 2 G ap o0))))) (zz [] Ru ?_);refine ztA<|zgA Uq [⟨6,26,ptrH,some 6,_,some (8,_)⟩,⟨7,26,ptrH,some 7,_,some (9,_)⟩] (Wb 14 (.v 13 _::(W6 17 [.alc 4,.alc 5,.sto 4,.sto 5]))) [] (zl 0 G ap (zl 3 G ap (zQ G (ry zo zo zo) (.p (vq 0 G) (vq 1 G)) (zV 2 G (zv G (aQ (vq 3 G) G) (zv G (aQ (vq 3 G) G) (zY G (Str.zero bu) (zY G (Str.zero bu) (zS 4 G ap (zS 5 G ap o0)))))))))) (zz [] [O 2 26 _,O 3 26 _,O 4 28 _,O 5 26 _,O 6 26 _,O 7 26 _] ?_);refine ztA<|zgA [none,none,none,none,none,none] [⟨8,26,ptrH,some 6,_,some (8,_)⟩,⟨9,26,ptrH,some 7,_,some (9,_)⟩] (Wb 20 (.v 19 _::(W6 23 [.alc 6,.alc 7,.sto 6,.sto 7]))) [] (zl 1 G ap (zl 3 G ap (zQ G (ry zo zo zo) (.p (vq 0 G) (vq 1 G)) (zV 2 G (zv G (aQ (vq 3 G) G) (zv G (aQ (vq 3 G) G) (zY G (Str.zero bu) (zY G (Str.zero bu) (zS 4 G ap (zS 5 G ap o0)))))))))) (zz [] Sn ?_);refine ztA<|zsA<|zgA [none,none,none,none,none,none,none,none] [] (Wb 25) Ud (zl 6 G ap (zQ G sL (.o (vq 0 G)) (zv G (aN (vq 1 G) ab) o0))) (zz [(27,_)] Sn λ a w U=>?_);refine zJ 0 U G (λ hb0=>?_) (λ hb0=>?_)
 ·refine qb<|zgd UE [none,none,some (5,_),none,none,none,none,none] [] (Wd 28 [.sto 2]) [] ac U (zl 4 G ap (zQ G (lf zo) (.o (vq 0 G)) (zl 6 G ap (zQ G (lf zo) (.o (vq 2 G)) (zv G (aT (qs:=[(0,_),(1,_)]) aS (.cons ⟨rfl,vq 1 rfl,rfl⟩ (.cons ⟨rfl,vq 3 rfl,rfl⟩ .nil))) (zS 4 G ax o0)))))) zk zk zk zk (zz [] Sn λ a w U=>?_);refine aa<|qh<|aj ?_;refine al ?_ (au G U (zm 2 G) ax);rw [qC (B6 hb0)] at hn1 hn2;rw [hn1,hn2];exact (br (.cons (fE (jp _ _)) (.cons (fE (jj _ _)) .nil))).va
 ·refine qj<|zt<|zg [η,η,some (3,_),η,η,η,η,η] [] (Wb 33 [.sto 2]) [] U (zl 4 G ap (zl 6 G ap (zv G (aT (qs:=[(0,_),(1,_)]) aS (.cons ⟨rfl,vq 0 rfl,rfl⟩ (.cons ⟨rfl,vq 1 rfl,rfl⟩ .nil))) (zS 2 G ax o0)))) (zz [] Sn λ a w U=>?_);refine aa<|qh<|al ?_ (au G U (zm 2 G) ax);rw [qz (GZ hb0)] at hn1 hn2;rw [hn1,hn2];exact (br (.cons (fE (jp _ _)) (.cons (fE (jj _ _)) .nil))).va
theorem d5  : Cn Tryz.prog 128 [] (Qs 2 0):=by
 refine Cn.intro Tryz.func128 G zk nq (zy [] λ B w0 a U=>?_);refine qb<|zg [] Rv Uf [] U (zY G (Str.zero aS) o0) (zz [] Rw ?_);refine ztA<|zgA [some (2,_)] [] (W6 1 [.sto 0]) [] (zQ G (J6 zd zd) (.cons ab .nil) (zv G (aT (qs:=[(1,_)]) aS (.cons ⟨rfl,vq 0 rfl,rfl⟩ .nil)) (zS 1 G ax o0))) (zz [] Rw λ a w U=>?_);refine aa<|qh<|al ?_ (au G U (zm 0 G) ax);exact q0_wk.va
theorem BE {p q:Int}(hp : -9223372036854775808≤p)(hp1:p<9223372036854775808)(hq : -9223372036854775808≤q)(hq1:q<9223372036854775808)(h0:q≠0):Cn Tryz.prog 199 [In p,In q] (Qs 2 (Rat.divInt p q)):=by
 refine Cn.intro Tryz.func199 G zk nq (zy [(0,In p),(1,In q)] λ B w0 a U=>?_);refine qb<|zg [] [zpL 4 28 0 _] Uf We U (zY G (Str.zero aS) o0) (zz Ug Rx ?_);refine ztA<|zgA Uc [] (Wd 5 [.sto 0]) [] (zM 0 G (zQ G (J6 hp hp1) (.o (vq 0 G)) (zM 1 G (zQ G (J6 hq hq1) (.o (vq 2 G)) (zQ G (gh zo zo h0) (.p (vq 1 G) (vq 3 G)) (zS 4 G ax o0)))))) (zz [] Rx λ a w U=>?_);refine aa<|qh<|al ?_ (au G U (zm 0 G) ax);exact aG
theorem gO  : Cn Tryz.prog 127 [] (Qs 2 1):=by
 refine Cn.intro Tryz.func127 G zk nq (zy [] λ B w0 a U=>?_);refine qb<|zg [] Rv Uf [] U (zY G (Str.zero aS) o0) (zz [] Rw ?_);refine ztA<|zgA Uj [] [.v 1 _,.sto 0] [] (zQ G (BE zd zd zd zd zd) (.cons ab (.cons ab .nil)) (zS 0 G ax o0)) (zz [] Rw λ a w U=>?_);refine aa<|qh<|al ?_ (au G U (zm 0 G) ax);exact ba (qp (Qs 2) (show Rat.divInt 1 1=1 from G))
theorem oN {x y:Rat}(hc:c+d≤900000000):Cn Tryz.prog 209 [Qs c x,Qs d y] (Qs (c+d+1) (x+y)):=by
 refine Cn.intro Tryz.func209 G zk nq (zy [(0,Qs c x),(1,Qs d y)] λ B w0 a U=>?_);refine qb<|zg [] Ry Um [] U (zW 0 G (zW 1 G (zY G (Str.zero aS) o0))) (zz [] Rz λ a w U=>?_);refine zt<|zgd [[],[0],[],[2],(Wm 4),[],[5],[],[7],(Wm 9),(Wm 10),[],(Wm 12)] Uo [⟨5,26,ptrH,some 11,_,some (12,_)⟩] (.adr 6 2 (.some 0) True::.v 7 _::.adr 8 3 (.some 2) True::(W6 9 (.adr 11 3 (.some 0) True::.v 12 _::.adr 13 2 (.some 2) True::(Wb 14 [.alc 3,.sto 3])))) [] ac U (zO 0 G aZ (zL 0 0 0 G ap (zO 1 G aU (zL 2 1 1 G ap (zQ G (dV zo zo) (.p (vq 1 G) (vq 3 G)) (zO 1 G aZ (zL 5 1 0 G ap (zO 0 G aU (zL 7 0 1 G ap (zQ G (dV zo zo) (.p (vq 6 G) (vq 8 G)) (zQ G (J3 zo zo) (.p (vq 4 G) (vq 9 G)) (zY G (Str.zero bu) (zS 10 G ap o0))))))))))))) zk zk zk zk (zz [] [O 2 28 _,O 3 28 _,O 4 28 _,O 5 26 _] λ a w U=>?_);refine zt<|zgd [[],[],[1],[],[3],[1,2,3,4],(Wm 6),(Wm 7)] [none,none,some (7,_),none] [] (.v 17 _::.adr 18 2 (.some 2) True::.v 19 _::.adr 20 3 (.some 2) True::(Wb 21 [.sto 2])) [] ac U (zl 3 G ap (zO 0 G aU (zL 1 0 1 G ap (zO 1 G aU (zL 3 1 1 G ap (zQ G (dV zo zo) (.p (vq 2 G) (vq 4 G)) (zQ G (gh zo zo (den_nz x y)) (.p (vq 0 G) (vq 5 G)) (zS 6 G ax o0)))))))) zk zk zk zk (zz [] [O 2 28 _,O 3 28 _,O 4 28 _,O 5 26 _] λ a w U=>?_);refine aa<|qh<|al ?_ (au G U (zm 2 G) ax);exact cB (ba (qp (Qs _) (Bz x y))) (cc zo).va
theorem mG {x y:Rat}(hc:c+d≤900000000):Cn Tryz.prog 205 [Qs c x,Qs d y] (Qs (c+d) (x*y)):=by
 refine Cn.intro Tryz.func205 G zk nq (zy [(0,Qs c x),(1,Qs d y)] λ B w0 a U=>?_);refine qb<|zg [] Ry Um [] U (zW 0 G (zW 1 G (zY G (Str.zero aS) o0))) (zz [] Rz λ a w U=>?_);refine zt<|zgd RA RB [] (.adr 5 2 (.some 0) True::.v 6 _::.adr 7 3 (.some 0) True::(W6 8 (.adr 10 2 (.some 2) True::.v 11 _::.adr 12 3 (.some 2) True::(Wb 13 [.sto 2])))) [] ac U (zO 0 G aZ (zL 0 0 0 G ap (zO 1 G aZ (zL 2 1 0 G ap (zQ G (dV zo zo) (.p (vq 1 G) (vq 3 G)) (zO 0 G aU (zL 5 0 1 G ap (zO 1 G aU (zL 7 1 1 G ap (zQ G (dV zo zo) (.p (vq 6 G) (vq 8 G)) (zQ G (gh zo zo (den_nz x y)) (.p (vq 4 G) (vq 9 G)) (zS 10 G ax o0)))))))))))) zk zk zk zk (zz [] Rz λ a w U=>?_);refine aa<|qh<|al ?_ (au G U (zm 2 G) ax);exact cB (ba (qp (Qs _) (sP x y))) (cc zo).va
theorem EZ {x y:Rat}(hc:c+d≤900000000)(h0:y≠0):Cn Tryz.prog 204 [Qs c x,Qs d y] (Qs (c+d) (x/y)):=by
 refine Cn.intro Tryz.func204 G zk nq (zy [(0,Qs c x),(1,Qs d y)] λ B w0 a U=>?_);refine qb<|zg [] Ry Um [] U (zW 0 G (zW 1 G (zY G (Str.zero aS) o0))) (zz [] Rz λ a w U=>?_);refine zt<|zgd RA RB [] (.adr 5 2 (.some 0) True::.v 6 _::.adr 7 3 (.some 2) True::(W6 8 (.adr 10 2 (.some 2) True::.v 11 _::.adr 12 3 (.some 0) True::(Wb 13 [.sto 2])))) [] ac U (zO 0 G aZ (zL 0 0 0 G ap (zO 1 G aU (zL 2 1 1 G ap (zQ G (dV zo zo) (.p (vq 1 G) (vq 3 G)) (zO 0 G aU (zL 5 0 1 G ap (zO 1 G aZ (zL 7 1 0 G ap (zQ G (dV zo zo) (.p (vq 6 G) (vq 8 G)) (zQ G (gh zo zo (C7 x h0)) (.p (vq 4 G) (vq 9 G)) (zS 10 G ax o0)))))))))))) zk zk zk zk (zz [] Rz λ a w U=>?_);refine aa<|qh<|al ?_ (au G U (zm 2 G) ax);exact cB (ba (qp (Qs _) (sQ x y))) (cc zo).va
theorem neg_wk {x:Rat}:WkA (cat [ZA c (-x.num),ZA c (x.den:Int)]) (QA c (-x)):=gZ (by unfold QA;rw [vz,vA])
theorem lg {x:Rat}(hc:c≤900000000):Cn Tryz.prog 131 [Qs c x] (Qs c (-x)):=by
 refine Cn.intro Tryz.func131 G zk nq (zy [(0,Qs c x)] λ B w0 a U=>?_);refine qb<|zg [] RC UU [] U (zW 0 G (zY G (Str.zero aS) o0)) (zz [] RD λ a w U=>?_);refine zt<|zgd [[],[0],[0,1],[],[3],(Wm 5),(Wm 6)] RY [] (.adr 3 1 (.some 0) True::(W6 4 (.adr 6 1 (.some 2) True::(W6 7 [.sto 1])))) [] ac U (zO 0 G aZ (zL 0 0 0 G ap (zQ G (lf zo) (.o (vq 1 G)) (zO 0 G aU (zL 3 0 1 G ap (zv G (aT (qs:=[(0,_),(1,_)]) aS (.cons ⟨rfl,vq 2 rfl,rfl⟩ (.cons ⟨rfl,vq 4 rfl,rfl⟩ .nil))) (zS 5 G ax o0))))))) zk zk zk zk (zz [] RD λ a w U=>?_);refine aa<|qh<|al ?_ (au G U (zm 1 G) ax);exact neg_wk.va
theorem rE {x y:Rat}(hc:c+d≤900000000):Cn Tryz.prog 132 [Qs c x,Qs d y] (Qs (c+d+1) (x-y)):=by
 refine Cn.intro Tryz.func132 G zk nq (zy [(0,Qs c x),(1,Qs d y)] λ B w0 a U=>?_);refine qb<|zg [] Ry Um [] U (zW 0 G (zW 1 G (zY G (Str.zero aS) o0))) (zz [] Rz λ a w U=>?_);refine zt<|zgd [[],[],[1],[0,1,2],(Wm 4)] [none,none,some (4,_)] [] (Ww 5 [.sto 2]) [] ac U (zl 0 G ax (zl 1 G ax (zQ G (lg zo) (.o (vq 1 G)) (zQ G (oN zo) (.p (vq 0 G) (vq 2 G)) (zS 3 G ax o0))))) zk zk zk zk (zz [] Rz λ a w U=>?_);refine aa<|qh<|al ?_ (au G U (zm 2 G) ax);exact ba (qp (Qs _) (show x + -y=x-y by grind))
theorem Oz (x y:Rat):(x.num*(y.den:Int)-y.num*(x.den:Int)).sign=cmQ x y:=by
 rw [← OA,my];unfold sg3;generalize x.num*(y.den:Int)=u;generalize y.num*(x.den:Int)=v;by_cases h1:u<v
 ·rw [qC zo,qC h1]
 ·by_cases h2:v<u
  ·rw [qz zo,qz zo,qz h1,qC h2]
  ·rw [qz zo,qC zo,qz h1,qz h2]
theorem Jq {x y:Rat}(hc:c+d≤900000000):Cn Tryz.prog 126 [Qs c x,Qs d y] (In (cmQ x y)):=by
 refine Cn.intro Tryz.func126 G zk nq (zy [(0,Qs c x),(1,Qs d y)] λ B w0 a U=>?_);refine qb<|zg [] RJ UC Ud U (zW 0 G (zW 1 G (zE G ab))) (zz U3 RK λ a w U=>?_);refine zt<|zgd [[],[0],[],[2],(Wm 4),[],[5],[],[7],(Wm 9),(Wm 10),[],(Wm 12)] UF [⟨5,26,ptrH,some 11,_,some (12,_)⟩] (.adr 6 2 (.some 0) True::.v 7 _::.adr 8 3 (.some 2) True::(W6 9 (.adr 11 3 (.some 0) True::.v 12 _::.adr 13 2 (.some 2) True::(Wb 14 [.alc 2,.sto 2])))) UL ac U (zO 0 G aZ (zL 0 0 0 G ap (zO 1 G aU (zL 2 1 1 G ap (zQ G (dV zo zo) (.p (vq 1 G) (vq 3 G)) (zO 1 G aZ (zL 5 1 0 G ap (zO 0 G aU (zL 7 0 1 G ap (zQ G (dV zo zo) (.p (vq 6 G) (vq 8 G)) (zQ G (ES zo zo) (.p (vq 4 G) (vq 9 G)) (zY G (Str.zero bu) (zS 10 G ap o0))))))))))))) zk zk zk zk (zz U3 [O 2 28 _,O 3 28 _,O 5 26 _] ?_);refine ztA<|zgA Uo [] (W6 17 [.v 4 _]) Ud (zl 2 G ap (zQ G sL (.o (vq 0 G)) (zA 1 G o0))) (zz U3 [O 2 28 _,O 3 28 _,O 5 26 _] λ a w U=>?_);refine aa<|qh<|al ?_ (am G U (zm 0 G));exact ba (qp In (Oz x y))
theorem r2sign_q {x:Rat}:Cn Tryz.prog 110 [Qs c x] (In x.num.sign):=by
 refine Cn.intro Tryz.func110 G zk nq (zy [(0,Qs c x)] λ B w0 a U=>?_);refine qb<|zg [] RL Uv Uw U (zW 0 G (zE G ab)) (zz Ux RN ?_);refine ztA<|zgA U4 [] (.adr 3 1 (.some 0) True::(W6 4 [.v 2 _])) UJ (zO 0 G aZ (zL 0 0 0 G ap (zQ G sL (.o (vq 1 G)) (zA 2 G o0)))) (zz Ux RN λ a w U=>?_);refine aa<|qh<|al ?_ (am G U (zm 0 G));exact aG
theorem PH (h:decide ((1:Int)<((g:Nat):Int))=true):g≠1:=by have:=qt h;omega
theorem PG (h:decide ((1:Int)<((g:Nat):Int))=false)(h0:g≠0):g=1:=by have:=qv h;omega
theorem yr (xn xd:RI):Cn Tryz.prog 186 [(RFA ⟨xn,xd⟩).va] (In (if okF ⟨xn,xd⟩ then 0 else 1)):=by
 refine Cn.intro Tryz.func186 G zk nq (zy [(0,(RFA ⟨xn,xd⟩).va)] λ B w0 a U=>?_);have hok:=oI (U.vals (0,(RFA ⟨xn,xd⟩).va) (zm 0 rfl));refine qb<|zg [] RL Uv Uw U (zW 0 G (zE G ab)) (zz Ux RN ?_);refine ztA<|zsA<|zgA U4 [] (.adr 4 1 (.some 0) True::(Ww 5 (.adr 9 1 (.some 2) (_=false)::.f 10 _::.f 11 _::.f 12 _::(W6 13 [.adr 15 1 (.some 2) (_=false),.f 16 _,.f 17 _,.f 18 _,.v 19 _])))) [.g 0,.o 15] (zO 0 G aZ (zL 0 0 0 G ap (zQ G (uq _) (.o (vq 1 G)) (zv G (ca (vq 2 G) ab) (zV 3 G (zC 4 0 G aU (zB 4 G (λ hg=>aB 5 G zk hg (lz0 0 G) (Sub.part 1 G G) ap) (zB 4 G (λ hg=>be (uq _) (.o (ae (vq 6 G) hg))) (zB 4 G (λ hg=>ca (ae (vq 7 G) hg) ab) (zv G (r_or (vq 4 G) (vq 8 G)) (zV 9 G (zC 10 0 G aU (zB 10 G (λ hg=>aB 11 G zk hg (lz0 0 G) (Sub.part 1 G G) ap) (zB 10 G (λ hg=>be (mB _) (.o (ae (vq 12 G) hg))) (zB 10 G (λ hg=>l9 (ae (vq 13 G) hg) ab) (zv G (r_or (vq 10 G) (vq 14 G)) o0)))))))))))))))) (zz (Wc 2 19) RN λ a w U=>?_);refine zJ 1 U G (λ hb0=>?_) (λ hb0=>?_)
 ·refine qb<|zg U6 [] UA U2 U (zE G ab) (zz Ux RN λ a w U=>?_);refine aa<|qh<|aj ?_;refine al ?_ (am G U (zm 0 G));exact ba (qp In (HR hb0))
 ·rw [qN,qN] at hb0;obtain ⟨p,rfl,hp⟩:=o6 hok.1 (ok1 hb0.1.1);obtain ⟨q,rfl,hq⟩:=o6 hok.2 (ok1 hb0.1.2);have hq0:0<sgI (riOf q):=by have h2:¬ sgI (riOf q)≤0:=qv hb0.2;omega
  have hqn:q≠0:=λ e=>by rw [e,dL] at hq0;exact absurd hq0 zd
  have hgn:Int.gcd p q≠0:=by have:=x4 p hqn;omega
  refine qj<|zt<|zg U6 [⟨3,26,ptrH,some 5,_,some (6,_)⟩] (.adr 20 1 (.some 0) True::.v 21 _::.adr 22 1 (.some 2) True::(W6 23 [.alc 1,.sto 1])) UL U (zO 0 G aZ (zL 0 0 0 G ap (zO 0 G aU (zL 2 0 1 G ap (zQ G (mH p q zo zo) (.p (vq 1 G) (vq 3 G)) (zY G (Str.zero bu) (zS 4 G ap o0))))))) (zz Ux So λ a w U=>?_);refine zt<|qb<|zgd [[],[],[0,1]] UF [] (Wb 25) Ui ac U (zQ G (ER 1 zd zd) (.cons ab .nil) (zl 1 G ap (zQ G (EV _ _) (.p (vq 0 G) (vq 1 G)) o0))) zk zk zk zk (zz (Wc 2 27) So λ a w U=>?_);refine zJ 1 U G (λ hb1=>?_) (λ hb1=>?_)
  ·refine qb<|zg UH [] UA U2 U (zE G ab) (zz Ux So λ a w U=>?_);refine aa<|qh<|aj ?_;refine al ?_ (am G U (zm 0 G));have e1:=PH hb1;exact ba (qp In (by rw [show okF ⟨riOf p,riOf q⟩=false from by unfold okF;rw [bF,bF];simp [show ¬ Nat.gcd p.natAbs q.natAbs=1 from e1]];rfl))
  ·refine qj<|zt<|zg UH [] UA U2 U (zE G ab) (zz Ux So λ a w U=>?_);refine aa<|qh<|al ?_ (am G U (zm 0 G));have e1:=PG hb1 hgn;exact ba (qp In (by rw [show okF ⟨riOf p,riOf q⟩=true from by unfold okF;rw [bF,bF,ok1 hb0.1.1,ok1 hb0.1.2];simp [hq0,show Nat.gcd p.natAbs q.natAbs=1 from e1]];rfl))
theorem A5:Xx Tryz.prog 186:=⟨_,Tryz.func186,zk,zk⟩
theorem BF (x:RF):Cn Tryz.prog 186 [(RFA x).va] (In (if okX x then 0 else 1)) :=
 Cn.know (c:=okL x.num.mag∧okL x.den.mag) A5 (λ B w args ha=>by cases ha with|cons h1 _=>exact oI h1) λ h=>(yr x.num x.den).post (by rw [uC h])
theorem lh (xs:List RF)(hl:xs.length≤1099511627776):Cn Tryz.prog 109 [(SlA 28 [U32] (xs.map RFA)).va] (Bo (xs.all okX)):=by
 refine Cn.introW Tryz.func109 rfl zk nq (.cons (iY (λ A hA=>by obtain ⟨x,_,rfl⟩:=qq.1 hA;exact eI x)).va .nil) (ep _).va (λ B w0 a hB0 U=>?_);have U:=zn [(0,(SlO 28 [U32] (xs.map RFA) True).va)] [] U;refine qb<|zh UA Rk U (zE G aE) (zz Rl [] ?_);refine ztA<|zsA<|zhA [.v 3 _] WS (zE G ab) (zz (Wa 0 2 3) [] λ a w U=>?_);refine aa<|qk ?_;have U:=U.sel [0,2];refine wp_loop_ghost (λ n a w=>∃ j:Nat,(n+j=xs.length∧(xs.take j).all okX=true)∧St B w0 16 [(0,(SlO 28 [U32] (xs.map RFA) True).va),(3,In (j:Nat))] [] a w) (xs.length) ?_ ?_
 ·exact ⟨0,⟨by omega,rfl⟩,U⟩
 intro n a w hI;obtain ⟨j,⟨hn,hno⟩,U⟩:=hI;refine qb<|qb<|zh (Ww 4) (We [.o 3]) U (zM 1 G (zM 0 G (zv G (bg qQ (bz (aC (vq 1 G)))) (zv G (aN (vq 0 G) (vq 2 G)) o0)))) (zz (Wa 0 3 7) [] λ a w U=>?_);refine zJ 2 U G (λ hb0=>?_) (λ hb0=>?_)
 ·have hj:j<xs.length:=by simp at hb0;omega
  refine qj<|zt<|qk<|qb<|zh (Wl 10) (We [.o 5]) U (zM 0 G (zM 1 G (zv G (bB du (bX λ _=>rfl) (bz (aC (vq 0 G))) (vq 1 G) (bn hj)) (zv G (ao (vq 2 G) ax) (zQ G (BF _) (.o (vq 3 G)) (zv G (ca (vq 4 G) ab) o0)))))) (zz (Wa 0 3 15) [] λ a w U=>?_);refine zJ 2 U G (λ hb1=>?_) (λ hb1=>?_)
  ·refine qb<|zh UA WS U (zE G aE) (zz (Wa 0 3 2) [] λ a w U=>?_);refine aa<|qh<|aD ?_;refine aj ?_;refine aj ?_;refine aD ?_;refine aj ?_;refine aJ ?_ (am G U (zm 2 G));rw [← Nk hj hb1]
  ·refine qj<|ak ?_;refine aa<|zh (W6 8 [.v 3 _]) Ui U (zM 1 G (zv G (aL (vq 0 G) ab (aW zo)) (zA 1 G o0))) (zz UO [] λ a w U=>?_);refine aa ?_;have U:=U.sel [0,1];exact ⟨n-1,by omega,j+1,⟨by omega,Hg hj hno hb1⟩,U⟩
 ·obtain rfl:j=xs.length:=by simp at hb0;omega
  refine qL<|ai<|ai<|az<|zt<|zh UA U2 U (zE G aE) (zz Ux [] λ a w U=>?_);refine zN 0 U G G ?_;rw [qH] at hno;rw [hno]
theorem Jo  : Cn Tryz.prog 207 [] ((QMA 2 ⟨1,0,0,1⟩).va):=by
 refine Cn.intro Tryz.func207 G zk nq (zy [] λ B w0 a U=>?_);refine qb<|zg [] [zpL 0 131 0 _] Uf [] U (zY G (Str.zero cZ) o0) (zz [] [O 0 131 _] ?_);refine ztA<|zgA Uc [] (Wd 1 [.sto 0]) [] (zQ G gO .nil (zQ G d5 .nil (zQ G d5 .nil (zQ G gO .nil (zv G (aT (qs:=[(0,_),(1,_),(2,_),(3,_)]) cZ (.cons ⟨rfl,vq 0 rfl,rfl⟩ (.cons ⟨rfl,vq 1 rfl,rfl⟩ (.cons ⟨rfl,vq 2 rfl,rfl⟩ (.cons ⟨rfl,vq 3 rfl,rfl⟩ .nil))))) (zS 4 G cY o0)))))) (zz [] [O 0 131 _] λ a w U=>?_);refine aa<|qh<|al ?_ (au G U (zm 0 G) cY);exact aG
theorem kd6 {k ps qs:Int}(h1:(k==1)=false)(h2:(k==2)=false)(h3:(k==3)=false)(h4:(k==4)=false)(h5:(k==5)=true):elK k ps qs=((ps==0)&&(qs==0)):=by rw [kd5 h1 h2 h3 h4,h5];rfl
theorem kd7 {k ps qs:Int}(h1:(k==1)=false)(h2:(k==2)=false)(h3:(k==3)=false)(h4:(k==4)=false)(h5:(k==5)=false):elK k ps qs=false:=by rw [kd5 h1 h2 h3 h4,h5];rfl
theorem ip {x:Rat}:Cn Tryz.prog 227 [Qs c x] (Bo (x.num.sign==0)):=by
 refine Cn.intro Tryz.func227 G zk nq (zy [(0,Qs c x)] λ B w0 a U=>?_);refine qb<|zg [] RL Uv Uw U (zW 0 G (zE G aE)) (zz Ux RN ?_);refine ztA<|zgA U4 [] (Wb 3 [.v 2 _]) UJ (zl 0 G ax (zQ G r2sign_q (.o (vq 0 G)) (zv G (bC (vq 1 G) ab) (zA 2 G o0)))) (zz Ux RN λ a w U=>?_);refine aa<|qh<|al ?_ (am G U (zm 0 G));exact aG
theorem F6 (x:RE):Cn Tryz.prog 189 [(REA x).va] (Bo (elF x)):=by
 refine Cn.intro Tryz.func189 G zk nq (zy [(0,(REA x).va)] λ B w0 a U=>?_);refine qb<|zg [] [zpL 1 76 0 _] Uv Uw U (zW 0 G (zE G aE)) (zz Ux S4 ?_);refine ztA<|zsA<|zgA U4 [] (.adr 3 1 (.some 1) True::.v 4 _::.adr 5 1 (.some 5) True::(Ww 6)) [.g 0,.o 6] (zO 0 G bL (zL 0 0 1 G ax (zO 0 G bZ (zL 2 0 2 G ax (zv G (bR (D:=[U32]) (l:=[_,_]) (xs:=[.tmp 4,.tmp 6]) (cO zk) du zk (n_ok zk) nq nq nq (.p (vq 1 G) (vq 3 G)) G G) (zQ G (lh [x.p,x.q] nq) (.o (vq 4 G)) (zv G (dc (vq 5 G)) o0))))))) (zz (Wc 2 9) S4 λ a w U=>?_);refine zJ 1 U G (λ hb0=>?_) (λ hb0=>?_)
 ·refine qb<|zg U6 [] UA U2 U (zE G aE) (zz Ux S4 λ a w U=>?_);refine aa<|qh<|aj ?_;refine al ?_ (am G U (zm 0 G));rw [HG hb0];exact aG
 ·obtain ⟨hx,he⟩:=HF hb0;have U:=U.wkL 0 rfl (el_q hx);refine qj<|zt<|qb<|zg U6 [] [.adr 10 1 (.some 0) True,.v 11 _] Rj U (zO 0 G cR (zL 0 0 0 G lO o0)) (zz (Wc 2 11) S4 λ a w U=>?_);refine aa<|qk<|qb<|zg U6 [] [.v 13 _,.v 12 _] UI U (zv G (bC (gq 1 G) ab) (zA 0 G o0)) (zz (Wa 2 11 12) S4 λ a w U=>?_);refine zJ 2 U G (λ hb1=>?_) (λ hb1=>?_)
  ·refine qb<|zg U6 [] (.adr 14 1 (.some 1) True::(Ww 15 [.adr 19 1 (.some 5) (_=true),.t 20 _,.t 21 _,.v 22 _,.v 2 _])) [.o 9] U (zO 0 G bL (zL 0 0 1 G ax (zQ G r2sign_q (.o (vq 1 G)) (zv G (dP (vq 2 G) ab) (zV 3 G (zC 4 0 G bZ (zB 4 G (λ hg=>aB 5 G zk hg (lz0 0 G) (Sub.part 2 G G) ax) (zB 4 G (λ hg=>be ip (.o (ae (vq 6 G) hg))) (zv G (bv (vq 4 G) (vq 7 G)) (zA 8 G o0)))))))))) (zz Ux S4 λ a w U=>?_);refine aa<|qh<|aD ?_;refine aj ?_;refine al ?_ (am G U (zm 0 G));rw [he,kd1 hb1];exact aG
  ·refine qb<|zg U6 [] [.v 24 _,.v 23 _] UI U (zv G (bC (gq 1 G) ab) (zA 0 G o0)) (zz (Wa 2 11 23) S4 λ a w U=>?_);refine zJ 2 U G (λ hb2=>?_) (λ hb2=>?_)
   ·refine qb<|zg U6 [] (.adr 25 1 (.some 5) True::(W6 26 [.v 2 _])) UJ U (zO 0 G bZ (zL 0 0 2 G ax (zQ G ip (.o (vq 1 G)) (zA 2 G o0)))) (zz Ux S4 λ a w U=>?_);refine aa<|qh<|aD ?_;refine aj ?_;refine al ?_ (am G U (zm 0 G));rw [he,kd2 hb1 hb2];exact aG
   ·refine qb<|zg U6 [] [.v 29 _,.v 28 _] UI U (zv G (bC (gq 1 G) ab) (zA 0 G o0)) (zz (Wa 2 11 28) S4 λ a w U=>?_);refine zJ 2 U G (λ hb3=>?_) (λ hb3=>?_)
    ·refine qb<|zg U6 [] (.adr 30 1 (.some 1) True::(Ww 31 [.adr 35 1 (.some 5) (_=true),.t 36 _,.t 37 _,.t 38 _,.v 39 _,.v 2 _])) [.o 10] U (zO 0 G bL (zL 0 0 1 G ax (zQ G r2sign_q (.o (vq 1 G)) (zv G (dP (vq 2 G) ab) (zV 3 G (zC 4 0 G bZ (zB 4 G (λ hg=>aB 5 G zk hg (lz0 0 G) (Sub.part 2 G G) ax) (zB 4 G (λ hg=>be r2sign_q (.o (ae (vq 6 G) hg))) (zB 4 G (λ hg=>cM (ae (vq 7 G) hg) ab) (zv G (bv (vq 4 G) (vq 8 G)) (zA 9 G o0))))))))))) (zz Ux S4 λ a w U=>?_);refine aa<|qh<|aD ?_;refine aj ?_;refine al ?_ (am G U (zm 0 G));rw [he,kd3 hb1 hb2 hb3];exact aG
    ·refine qb<|zg U6 [] [.v 41 _,.v 40 _] UI U (zv G (bC (gq 1 G) ab) (zA 0 G o0)) (zz (Wa 2 11 40) S4 λ a w U=>?_);refine zJ 2 U G (λ hb4=>?_) (λ hb4=>?_)
     ·refine qb<|zg U6 [] UA U2 U (zE G aE) (zz Ux S4 λ a w U=>?_);refine aa<|qh<|aD ?_;refine aj ?_;refine al ?_ (am G U (zm 0 G));rw [he,kd4 hb1 hb2 hb3 hb4];exact aG
     ·refine qb<|zg U6 [] [.v 43 _,.v 42 _] Rj U (zv G (bC (gq 1 G) ab) (zA 0 G o0)) (zz (Wc 2 42) S4 λ a w U=>?_);refine zJ 1 U G (λ hb5=>?_) (λ hb5=>?_)
      ·refine qb<|zg U6 [] (.adr 44 1 (.some 1) True::(Wb 45 [.adr 48 1 (.some 5) (_=true),.t 49 _,.t 50 _,.v 51 _,.v 2 _])) [.o 8] U (zO 0 G bL (zL 0 0 1 G ax (zQ G ip (.o (vq 1 G)) (zV 2 G (zC 3 0 G bZ (zB 3 G (λ hg=>aB 4 G zk hg (lz0 0 G) (Sub.part 2 G G) ax) (zB 3 G (λ hg=>be ip (.o (ae (vq 5 G) hg))) (zv G (bv (vq 3 G) (vq 6 G)) (zA 7 G o0))))))))) (zz Ux S4 λ a w U=>?_);refine aa<|qh<|aD ?_;refine aj ?_;refine al ?_ (am G U (zm 0 G));rw [he,kd6 hb1 hb2 hb3 hb4 hb5];exact aG
      ·refine qj<|ak ?_;refine zt<|zg U6 [] UA U2 U (zE G aE) (zz Ux S4 λ a w U=>?_);refine aa<|qh<|al ?_ (am G U (zm 0 G));rw [he,kd7 hb1 hb2 hb3 hb4 hb5];exact aG
theorem AR {s:ByteArray}(hj:j<s.size):s[j]?=some (s.data.toList.getD j 0):=by
 have h1:j<s.data.toList.length:=by simpa using hj
 rw [getElem?_pos s j hj];simp only [Option.some.injEq,List.getD];rw [List.getElem?_eq_getElem h1];simp [ByteArray.getElem_eq_getElem_data]
theorem OO {s:ByteArray}(hj:j<(byL s).length):(s.data.toList.getD j 0).toNat=(byL s)[j]:=by
 have h1:j<s.data.toList.length:=by simpa [byL] using hj
 simp only [List.getD];rw [List.getElem?_eq_getElem h1];show (s.data.toList[j]).toNat=(s.data.toList.map UInt8.toNat)[j]'hj;exact (we _).symm
theorem OX (b:Nat):(((decide ((b:Int)≥97)&&decide ((b:Int)≤122)) || (decide ((b:Int)≥48)&&decide ((b:Int)≤57))) || ((b:Int)==45))=bOk b:=by
 unfold bOk;rw [jr];simp only [z4,ql,qI,xv,qy,jA,qN,qm,bne_eq_false_iff_eq];omega
theorem BJ (s:ByteArray):Cn Tryz.prog 188 [EqV (.string s)] (Bo (namF s)):=by
 refine Cn.intro Tryz.func188 G zk nq (zy [(0,EqV (.string s))] λ B w0 a U=>?_);refine qb<|zh UA Rk U (zE G aE) (zz Rl [] ?_);refine ztA<|zsA<|zhA (Ww 4 (.f 8 _::.f 9 _::.f 10 _::(W6 11 (.f 13 _::.f 14 _::.f 15 _::(W6 16 [.f 18 _,.f 19 _,.f 20 _,.v 21 _]))))) (We [.o 17]) (zM 0 G (zv G (gg zk (vq 0 G)) (zv G (aN (vq 1 G) ab) (zV 2 G (zB 3 G (λ hg=>aq (gq 0 G)) (zB 3 G (λ hg=>gg zk (ae (vq 4 G) hg)) (zB 3 G (λ hg=>cM (ae (vq 5 G) hg) ab) (zv G (r_or (vq 3 G) (vq 6 G)) (zV 7 G (zB 8 G (λ hg=>aq (gq 0 G)) (zB 8 G (λ hg=>dy zk (ae (vq 9 G) hg) ab (st_0 hg).1) (zB 8 G (λ hg=>aN (ae (vq 10 G) hg) ab) (zv G (r_or (vq 8 G) (vq 11 G)) (zV 12 G (zB 13 G (λ hg=>aq (gq 0 G)) (zB 13 G (λ hg=>dy zk (ae (vq 14 G) hg) ab (st_0 (nm_1 hg)).1) (zB 13 G (λ hg=>cM (ae (vq 15 G) hg) ab) (zv G (r_or (vq 13 G) (vq 16 G)) o0)))))))))))))))))) (zz (Wa 0 2 21) [] λ a w U=>?_);refine zJ 2 U G (λ hb0=>?_) (λ hb0=>?_)
 ·have hd:nmH s=true:=nm_y hb0;refine qb<|zh UA Rk U (zE G aE) (zz Rl [] λ a w U=>?_);refine aa<|qh<|aj ?_;refine al ?_ (am G U (zm 1 G));rw [namF,qC hd];exact aG
 ·have hd:nmH s=false:=nm_y hb0;have hsz:=JU hd;have hbl:=pV s;refine qj<|zt<|qb<|zh [.v 3 _] WS U (zE G ab) (zz (Wa 0 2 3) [] λ a w U=>?_);refine aa<|qk ?_;have U:=U.sel [0,2];refine wp_loop_ghost (λ n a w=>∃ j:Nat,(n+j=(byL s).length∧((byL s).take j).all bOk=true)∧St B w0 57 [(0,EqV (.string s)),(3,In (j:Nat))] [] a w) ((byL s).length) ?_ ?_
  ·exact ⟨0,⟨by omega,rfl⟩,U⟩
  intro n a w hI;obtain ⟨j,⟨hn,hno⟩,U⟩:=hI;refine qb<|qb<|zh (Ww 22) (We [.o 3]) U (zM 1 G (zM 0 G (zv G (gg zk (vq 1 G)) (zv G (aN (vq 0 G) (vq 2 G)) o0)))) (zz (Wa 0 3 25) [] λ a w U=>?_);refine zJ 2 U G (λ hb1=>?_) (λ hb1=>?_)
  ·have hj:j<(byL s).length:=by have:=qt hb1;omega
   have hj2:j<s.size:=by omega
   refine qj<|zt<|qk<|qb<|gl (sts:=[]) (news:=[]) (sp:=((.v 28 _:Sp)::(.v 29 _)::(.v 30 _)::(.v 31 _)::(.v 32 _)::(.t 33 _)::(.t 34 _)::(.t 35 _)::(.t 36 _)::(.v 37 _)::(.v 38 _)::(.f 39 _)::(.f 40 _)::(.f 41 _)::(.f 42 _)::(.f 43 _)::(.v 44 (Wh ((_=false)∧_=true) _))::(.v 45 (Wh ((_=false)∧_=true) _))::(.v 46 (Wh ((_=false)∧_=true) _))::(.v 47 (Wh ((_=false)∧_=true) _))::(.f 48 _)::(.v 49 _)::(.v 50 _)::(.f 51 _)::(.f 52 _)::(.f 53 _)::(.f 54 _)::(.v 55 _)::(.v 56 _)::[])) [.g 0,.g 1,.o 28] U (zM 0 G (zM 1 G (zv G (dy zk (vq 0 G) (vq 1 G) (AR hj2)) (zv G (dP (vq 2 G) ab) (zV 3 G (zB 4 G (λ hg=>aq (gq 0 G)) (zB 4 G (λ hg=>aq (gq 1 G)) (zB 4 G (λ hg=>dy zk (ae (vq 5 G) hg) (ae (vq 6 G) hg) (AR hj2)) (zB 4 G (λ hg=>l9 (ae (vq 7 G) hg) ab) (zv G (bv (vq 4 G) (vq 8 G)) (zV 9 G (zB 10 G (λ hg=>aq (gq 0 G)) (zB 10 G (λ hg=>aq (gq 1 G)) (zB 10 G (λ hg=>dy zk (ae (vq 11 G) hg) (ae (vq 12 G) hg) (AR hj2)) (zB 10 G (λ hg=>dP (ae (vq 13 G) hg) ab) (zB 10 G (λ hg=>aq (ae (vq 14 G) hg)) (oc (bT G G G (vq 15 G) nq (λ hg=>aq (gq 0 G))) (oc (bT G G G (vq 15 G) nq (λ hg=>aq (gq 1 G))) (oc (bT G G G (vq 15 G) nq (λ hg=>dy zk (ae (vq 16 G) hg) (ae (vq 17 G) hg) (AR hj2))) (oc (bT G G G (vq 15 G) nq (λ hg=>l9 (ae (vq 18 G) hg) ab)) (zB 10 G (λ hg=>bv (ae (vq 15 G) hg) (fR (vq 19 G) hg)) (zv G (r_or (vq 10 G) (vq 20 G)) (zV 21 G (zB 22 G (λ hg=>aq (gq 0 G)) (zB 22 G (λ hg=>aq (gq 1 G)) (zB 22 G (λ hg=>dy zk (ae (vq 23 G) hg) (ae (vq 24 G) hg) (AR hj2)) (zB 22 G (λ hg=>bC (ae (vq 25 G) hg) ab) (zv G (r_or (vq 22 G) (vq 26 G)) (zv G (dc (vq 27 G)) o0))))))))))))))))))))))))))))) (zz (Wa 0 3 56) [] λ a w U=>?_);refine zJ 2 U G (λ hb2=>?_) (λ hb2=>?_)
   ·have hq:bOk (byL s)[j]=false:=by rw [← OO hj,← OX];exact (by rw [qy] at hb2;exact hb2)
    refine qb<|zh UA WS U (zE G aE) (zz (Wa 0 3 2) [] λ a w U=>?_);refine aa<|qh<|aD ?_;refine aj ?_;refine aj ?_;refine aD ?_;refine aj ?_;refine al ?_ (am G U (zm 2 G));rw [namF,qz (by rw [hd];decide),nw hj hq];exact aG
   ·have hq:bOk (byL s)[j]=true:=by rw [← OO hj,← OX];exact (by rw [ju] at hb2;exact hb2)
    refine qj<|ak ?_;refine aa<|zh (W6 26 [.v 3 _]) Ui U (zM 1 G (zv G (aL (vq 0 G) ab ((wi64 zo zo).trans (by omega:(_:Int)=((j+1:Nat):Int)))) (zA 1 G o0))) (zz UO [] λ a w U=>?_);refine aa ?_;have U:=U.sel [0,1];exact ⟨n-1,by omega,j+1,⟨by omega,ny hj hno hq⟩,U⟩
  ·obtain rfl:j=(byL s).length:=by have:=qv hb1;omega
   refine qL<|ai<|ai<|az<|zt<|zh UA U2 U (zE G aE) (zz Ux [] λ a w U=>?_);refine aa<|qh<|al ?_ (am G U (zm 0 G));rw [qH] at hno;rw [namF,qz (by rw [hd];decide),hno];exact aG
theorem nX (t:RTk):Cn Tryz.prog 113 [(TkA t).va] (In (sloF t)):=by
 refine Cn.intro Tryz.func113 G zk nq (zy [(0,(TkA t).va)] λ B w0 a U=>?_);refine qb<|zg [] S6 Uv Uw U (zW 0 G (zE G ab)) (zz Ux S7 ?_);refine ztA<|zgA U4 [] (.adr 3 1 (.some 0) True::(Wb 4 [.v 2 _])) UP (zO 0 G cb (zL 0 0 0 G eY (zv G (bg qQ (vq 1 G)) (zv G (cH (vq 2 G) ab (G)) (zA 3 G o0))))) (zz Ux S7 λ a w U=>?_);refine aa<|qh<|al ?_ (am G U (zm 0 G));simp only [qc];exact aG
theorem pt_r (p:RPt):(((namF p.nm&&elF p.e)&&decide (p.c≥0))&&decide (p.c≤1073741824))=ptF p:=by
 have e:(chF [p.e] != 0) = !elF p.e:=by
  unfold chF;rw [qz (by simp)];simp only [xH,xQ,xJ];cases elF p.e <;> rfl
 unfold ptF;rw [e,jr];simp only [qy,qN,ql,ju,qI,qm];constructor
 ·rintro ⟨⟨⟨h1,h2⟩,h3⟩,h4⟩;exact ⟨⟨⟨h1,h2⟩,by omega⟩,by omega⟩
 ·rintro ⟨⟨⟨h1,h2⟩,h3⟩,h4⟩;exact ⟨⟨⟨h1,h2⟩,by omega⟩,by omega⟩
theorem BI (p:RPt):Cn Tryz.prog 111 [(PtA p).va] (Bo (ptF p)):=by
 refine Cn.intro Tryz.func111 G zk nq (zy [(0,(PtA p).va)] λ B w0 a U=>?_);refine qb<|zg [] [zpL 1 79 0 _] Uv Uw U (zW 0 G (zE G aE)) (zz Ux [O 1 79 _] ?_);refine ztA<|zgA U4 [] (.adr 3 1 (.some 0) True::(Wb 4 (.adr 7 1 (.some 1) (_=true)::.t 8 _::.t 9 _::(W6 10 (.adr 12 1 (.some 10) (_=true)::.t 13 _::.t 14 _::(W6 15 [.adr 17 1 (.some 10) (_=true),.t 18 _,.t 19 _,.v 20 _,.v 2 _])))))) [.o 18] (zO 0 G e8 (zL 0 0 0 G ty_9 (zQ G ((BJ _).wk (.cons Dl .nil)) (.o (vq 1 G)) (zV 2 G (zC 3 0 G dZ (zB 3 G (λ hg=>aB 4 G zk hg (lz0 0 G) (Sub.part 1 G G) dq) (zB 3 G (λ hg=>be (F6 _) (.o (ae (vq 5 G) hg))) (zv G (bv (vq 3 G) (vq 6 G)) (zV 7 G (zC 8 0 G dG (zB 8 G (λ hg=>aB 9 G zk hg (lz0 0 G) (Sub.part 2 G G) ty_3) (zB 8 G (λ hg=>dP (ae (vq 10 G) hg) ab) (zv G (bv (vq 8 G) (vq 11 G)) (zV 12 G (zC 13 0 G dG (zB 13 G (λ hg=>aB 14 G zk hg (lz0 0 G) (Sub.part 2 G G) ty_3) (zB 13 G (λ hg=>l9 (ae (vq 15 G) hg) ab) (zv G (bv (vq 13 G) (vq 16 G)) (zA 17 G o0))))))))))))))))))) (zz Ux [O 1 79 _] λ a w U=>?_);refine aa<|qh<|al ?_ (am G U (zm 0 G));exact ba (qp Bo (pt_r p))
theorem PY {q:Int→Bool}{xs:Yl}(hj:j<xs.length)(h:q xs[j]=true):xs.any q=true:=jk.2 ⟨_,qg hj,h⟩
theorem PZ {q:Int→Bool}{xs:Yl}(hj:j<xs.length)(h1:(xs.take j).any q=false)(h2:q xs[j]=false):(xs.take (j+1)).any q=false:=by
 rw [qw hj,kb,h1];simp [h2]
theorem yu (t:RTk)(xs:Yl):Cn Tryz.prog 114 [(TkA t).va,(SlA 3 [] (xs.map InA)).va] (Bo (!xs.any (pkQ t))):=by
 refine Cn.intro Tryz.func114 G zk nq (zy [(0,(TkA t).va),(1,(SlA 3 [] (xs.map InA)).va)] λ B w0 a U=>?_);have hl:=eu (U.vals (1,(SlA 3 [] (xs.map InA)).va) (zm 1 rfl));refine qb<|zg [] S8 S0 RO U (zW 0 G (zE G aE)) (zz (Wc 1 4) S9 ?_);refine ztA<|zsA<|zgA U4 [] UY WS (zE G ab) (zz Sq S9 λ a w U=>?_);refine aa<|qk ?_;have U:=U.sel [0,2];refine wp_loop_ghost (λ n a w=>∃ j:Nat,(n+j=xs.length∧(xs.take j).any (pkQ t)=false)∧St B w0 27 [(1,(SlA 3 [] (xs.map InA)).va),(5,In (j:Nat))] [⟨2,30,ptrH,TkA t⟩] a w) (xs.length) ?_ ?_
 ·exact ⟨0,⟨by omega,rfl⟩,U⟩
 intro n a w hI;obtain ⟨j,⟨hn,hno⟩,U⟩:=hI;refine qb<|qb<|zg U6 [] (Ww 6) (We [.o 3]) U (zM 1 G (zM 0 G (zv G (bg qE (vq 1 G)) (zv G (aN (vq 0 G) (vq 2 G)) o0)))) (zz (Wa 1 5 9) S9 λ a w U=>?_);refine zJ 2 U G (λ hb0=>?_) (λ hb0=>?_)
 ·have hj:j<xs.length:=by rw [qc] at hb0;have:=qt hb0;omega
  refine qj<|zt<|qk<|qb<|zgd [[],[],[0,1],[0,1,2],(Wm 4),(Wm 5),(Wm 6),(Wm 6),(Wm 8),(Wm 9),(Wm 6),[0,1,2,3,4,5,10],[0,1,2,3,4,5,10,11],(Wm 13),(Wm 14)] U4 [] (Wl 12 [.f 18 _,.f 19 _,.f 20 _,.f 21 _,.adr 22 2 (.some 1) (_=false),.f 23 _,.f 24 _,.f 25 _,.v 26 _]) (We [.o 14]) ac U (zM 0 G (zM 1 G (zv G (bB dr (bX λ _=>rfl) (vq 0 G) (vq 1 G) (bn hj)) (zv G (ao (vq 2 G) ty_3) (zv G (aN (vq 3 G) ab) (zV 4 G (zB 5 G (λ hg=>aq (gq 0 G)) (zB 5 G (λ hg=>aq (gq 1 G)) (zB 5 G (λ hg=>bB dr (bX λ _=>rfl) (ae (vq 6 G) hg) (ae (vq 7 G) hg) (bn hj)) (zB 5 G (λ hg=>ao (ae (vq 8 G) hg) ty_3) (zC 5 0 G bM (zB 5 G (λ hg=>aB 10 G zk hg (lz0 0 G) (Sub.part 1 G G) ec) (zB 5 G (λ hg=>bg qM (ae (vq 11 G) hg)) (zB 5 G (λ hg=>dP (ae (vq 9 G) hg) (ae (vq 12 G) hg)) (zv G (r_or (vq 5 G) (vq 13 G)) o0))))))))))))))) zk zk zk zk (zz (Wa 1 5 26) S9 λ a w U=>?_);refine zJ 2 U G (λ hb1=>?_) (λ hb1=>?_)
  ·have hq:pkQ t xs[j]=true:=by unfold pkQ;rw [qc] at hb1;exact hb1
   refine qb<|zg U6 [] WR WS U (zE G aE) (zz (Wa 1 5 4) S9 λ a w U=>?_);refine aa<|qh<|aD ?_;refine aj ?_;refine aj ?_;refine aD ?_;refine aj ?_;refine al ?_ (am G U (zm 2 G));rw [PY hj hq];exact aG
  ·have hq:pkQ t xs[j]=false:=by unfold pkQ;rw [qc] at hb1;exact hb1
   refine qj<|ak ?_;refine aa<|zg U6 [] (W6 10 [.v 5 _]) Ui U (zM 1 G (zv G (aL (vq 0 G) ab ((wi64 zo zo).trans (by omega:(_:Int)=((j+1:Nat):Int)))) (zA 1 G o0))) (zz (Wc 1 5) S9 λ a w U=>?_);refine aa ?_;have U:=U.sel [0,1];exact ⟨n-1,by omega,j+1,⟨by omega,PZ hj hno hq⟩,U⟩
 ·obtain rfl:j=xs.length:=by rw [qc] at hb0;have:=qv hb0;omega
  refine qL<|ai<|ai<|az<|zt<|zg U6 [] WR U2 U (zE G aE) (zz U3 S9 λ a w U=>?_);refine aa<|qh<|al ?_ (am G U (zm 0 G));rw [qH] at hno;rw [hno];exact aG
theorem wh_r (t:RTk)(xs:Yl):((((xs.length:Nat):Int)==sloF t) && !xs.any (pkQ t))=whF t xs:=by
 unfold whF pkF;by_cases h:((xs.length:Nat):Int)=sloF t
 ·rw [h];simp
 ·have e:(((xs.length:Nat):Int)==sloF t)=false:=by simpa using h
  rw [e];rfl
theorem li (t:RTk)(xs:Yl):Cn Tryz.prog 29 [(TkA t).va,(SlA 3 [] (xs.map InA)).va] (Bo (whF t xs)):=by
 refine Cn.intro Tryz.func29 G zk nq (zy [(0,(TkA t).va),(1,(SlA 3 [] (xs.map InA)).va)] λ B w0 a U=>?_);refine qb<|zg [] S8 S0 RO U (zW 0 G (zE G aE)) (zz (Wc 1 4) S9 ?_);refine ztA<|zgA U4 [] (Wl 5 [.t 11 _,.t 12 _,.t 13 _,.v 14 _,.v 4 _]) [.o 10] (zM 0 G (zv G (bg qE (vq 0 G)) (zl 0 G cp (zQ G (nX _) (.o (vq 2 G)) (zv G (bC (vq 1 G) (vq 3 G)) (zV 4 G (zB 5 G (λ hg=>eL (lz0 0 G) cp) (zB 5 G (λ hg=>aq (gq 0 G)) (zB 5 G (λ hg=>be (yu _ _) (.p (ae (vq 6 G) hg) (ae (vq 7 G) hg))) (zv G (bv (vq 5 G) (vq 8 G)) (zA 9 G o0))))))))))) (zz U3 S9 λ a w U=>?_);refine aa<|qh<|al ?_ (am G U (zm 0 G));rw [qc];exact ba (qp Bo (wh_r t xs))
def wyR (p:Nat):Nat→Nat→Nat
 | 0,n=>n
 | k+1,n=>if n*p>65536 then 65537 else wyR p k (n*p)
theorem tY {p:Nat}(hp:0<p):∀ k,wayB p k=decide (p^k>65536)
 | 0=>rfl
 | k+1=>by
  rw [wayB,tY hp k];have h:p^k≤p^(k+1):=zZ hp (jE k);by_cases h1:p^(k+1)>65536
  ·simp [h1]
  ·have h2:¬ p^k>65536:=by omega
   simp [h1,h2]
theorem Ak {p:Nat}(hp:0<p):∀ k n,n≤65536→(wyR p k n>65536↔n*p^k>65536)
 | 0,n,_=>by rw [wyR,j6,zP]
 | k+1,n,h=>by
  rw [wyR,zi,za (p^k) p,← zb];by_cases h1:n*p>65536
  ·rw [qC h1];have:n*p*1≤n*p*p^k:=zU _ (zK hp);constructor
   ·intro _;omega
   ·intro _;omega
  ·rw [qz h1];exact Ak hp k (n*p) zo
theorem GK {p:Nat}(hp:0<p)(k:Nat):decide (((wyR p k 1:Nat):Int)>65536)=wayB p k:=by
 rw [tY hp,jr,qI,qI];have:=Ak hp k 1 zd;rw [jZ] at this;omega
theorem BG (p k:Nat)(hp:p≤64)(hk:k≤12):Cn Tryz.prog 112 [In (p:Nat),In (k:Nat)] (In (wyR p k 1:Nat)):=by
 refine Cn.intro Tryz.func112 G zk nq (zy [(0,In (p:Nat)),(1,In (k:Nat))] λ B w0 a U=>?_);refine qb<|zh WR WS U (zE G ab) (zz WT [] ?_);refine ztA<|zhA UY WZ (zE G ab) (zz WW [] ?_);refine ztA<|zsA<|zhA U5 Ut (zE G ab) (zz UZ [] λ a w U=>?_);refine aa<|qk ?_;have U:=U.sel [0,1,3,4];refine wp_loop_ghost (λ n a w=>∃ j m:Nat,(n+j=k∧m≤65536∧wyR p k 1=wyR p n m)∧St B w0 18 [(0,In (p:Nat)),(1,In (k:Nat)),(5,In (m:Nat)),(6,In (j:Nat))] [] a w) (k) ?_ ?_
 ·exact ⟨0,1,⟨by omega,by decide,rfl⟩,U⟩
 intro n a w hI;obtain ⟨j,m,⟨hn,hm,he⟩,U⟩:=hI;refine qb<|qb<|zh (Wb 7) RZ U (zM 3 G (zM 1 G (zv G (aN (vq 0 G) (vq 1 G)) o0))) (zz (W8 0 1 5 6 9) [] λ a w U=>?_);refine zJ 4 U G (λ hb0=>?_) (λ hb0=>?_)
 ·have hj:j<k:=by have:=qt hb0;omega
  obtain ⟨n1,rfl⟩:∃ n1,n=n1+1:=⟨n-1,by omega⟩;have hmp:m*p≤65536*64:=xU hm hp;refine qj<|zt<|qk<|qb<|zh (Wb 12 [.v 5 _]) (We [.g 3,.o 3]) U (zM 2 G (zM 0 G (zv G (mF (vq 0 G) (vq 1 G) ((wi64 (by push_cast;omega) (by push_cast;omega)).trans (by push_cast;rfl:(_:Int)=((m*p:Nat):Int)))) (zA 2 G o0)))) (zz (Wf 0 1 6 5) [] ?_);refine ztA<|zhA (W6 15) Rh (zM 3 G (zv G (cM (vq 0 G) ab) o0)) (zz (W8 0 1 6 5 16) [] λ a w U=>?_);refine zJ 4 U G (λ hb1=>?_) (λ hb1=>?_)
  ·have hq:m*p>65536:=by have:=qt hb1;omega
   refine qb<|zh WR Ut U (zE G ab) (zz (W8 0 1 6 5 4) [] λ a w U=>?_);refine aa<|qh<|aD ?_;refine aj ?_;refine aj ?_;refine aD ?_;refine aj ?_;refine al ?_ (am G U (zm 4 G));rw [he,wyR,qC hq];exact aG
  ·have hq:¬ m*p>65536:=by have:=qv hb1;omega
   refine qj<|ak ?_;refine aa<|zh (W6 10 [.v 6 _]) Ri U (zM 2 G (zv G (aL (vq 0 G) ab ((wi64 zo zo).trans (by omega:(_:Int)=((j+1:Nat):Int)))) (zA 1 G o0))) (zz (Wf 0 1 5 6) [] λ a w U=>?_);refine aa ?_;have U:=U.sel [0,1,2,3];exact ⟨n1,by omega,j+1,m*p,⟨by omega,by omega,by rw [he,wyR,qz hq]⟩,U⟩
 ·obtain rfl:n=0:=by have:=qv hb0;omega
  refine qL<|ai<|ai<|az<|zt<|zh [.v 17 _,.v 4 _] Uw U (zM 2 G (zA 0 G o0)) (zz U3 [] λ a w U=>?_);refine aa<|qh<|al ?_ (am G U (zm 0 G));rw [he];exact aG
theorem nW (p:RF):Cn Tryz.prog 115 [(RFA p).va] ((REA (spE p)).va):=by
 refine Cn.intro Tryz.func115 G zk nq (zy [(0,(RFA p).va)] λ B w0 a U=>?_);refine qb<|zg [] [zpL 1 28 0 _,zpL 2 76 1 _] UU [] U (zW 0 G (zY G (Str.zero dE) o0)) (zz [] Sr λ a w U=>?_);refine zt<|zgd UW UX [] (Wb 3 [.sto 1]) [] ac U (zl 0 G ax (zQ G d5 .nil (zv G (aT (qs:=[(0,_),(1,_),(2,_)]) dE (.cons ⟨rfl,ab,rfl⟩ (.cons ⟨rfl,vq 0 rfl,rfl⟩ (.cons ⟨rfl,vq 1 rfl,rfl⟩ .nil)))) (zS 2 G dq o0)))) zk zk zk zk (zz [] Sr λ a w U=>?_);refine aa<|qh<|al ?_ (au G U (zm 1 G) dq);exact (br (.cons (.refl _) (.cons (.refl _) (.cons qaA .nil)))).va
theorem hd_r (t:RTk):((((decide ((t.sp.length:Int)<2) || decide ((t.sp.length:Int)>13)) || decide ((t.ps.length:Int)<1)) || decide ((t.ps.length:Int)>64)) || !([t.tg].all okX))=hdF t:=by
 unfold hdF;simp only [xH,xQ,xJ];cases okX t.tg <;> simp
theorem sp_r (x:RF):((!([x].all okX)) || decide ((toQ x).num.sign<0)) = !spcF x:=by
 unfold spcF;simp only [xH,xQ,xJ];cases okX x <;> simp
theorem Jp {x:RF}(h:(!([x].all okX))=false):Cn Tryz.prog 110 [(RFA x).va] (In (toQ x).num.sign):=r2sign_q.wk (.cons (qa_x (by simpa using h) (qi _)).va .nil)
theorem Od {ps:List RPt}(hj:j<ps.length):dupB ((ps.take (j+1)).map RPt.nm)=(dupB ((ps.take j).map RPt.nm) || (ps.take j).any λ p=>decide (ps[j].nm=p.nm)):=by
 rw [qw hj,zw,qS,jL,wG]
 congr 1
 rw [jr];simp only [qB,qI,qq,jk];constructor
 ·rintro ⟨s,⟨p,hp,rfl⟩,h⟩;exact ⟨p,hp,(ByteArray.ext (Array.toList_inj.1 h)).symm⟩
 ·rintro ⟨p,hp,h⟩;exact ⟨p.nm,⟨p,hp,rfl⟩,by rw [h]⟩
theorem Lj {ns:List ByteArray}(h:dupB (ns.take j)=true):dupB ns=true:=by
 unfold dupB at h ⊢;simp only [qy,qm] at h ⊢;exact λ hn=>h (hn.sublist ((List.take_sublist j ns).map _))
theorem Ra {q:RPt→Bool}{xs:List RPt}(hk:k<j)(hj:j<xs.length)(h:q xs[k]=true):(xs.take j).any q=true:=jk.2 ⟨xs[k],List.mem_take_iff_getElem.2 ⟨k,by omega,rfl⟩,h⟩
theorem Rb {q:RPt→Bool}{xs:List RPt}(hj:j<xs.length)(h1:(xs.take j).any q=false)(h2:q xs[j]=false):(xs.take (j+1)).any q=false:=by
 rw [qw hj,kb,h1];simp [h2]
set_option maxHeartbeats 1000000 in
theorem nY (t:RTk):Cn Tryz.prog 28 [(TkA t).va] (In (ckF t)):=by
 refine Cn.intro Tryz.func28 G zk nq (zy [(0,(TkA t).va)] λ B w0 a U=>?_);refine qb<|zg [] S6 Uv Uw U (zW 0 G (zE G ab)) (zz Ux S7 λ a w U=>?_);refine zt<|qb<|gl (sts:=[none]) (news:=[]) (sp:=((.adr 7 1 (.some 0) True:Sp)::(.v 8 _)::(.v 9 _)::(.v 10 _)::(.v 11 _)::(.adr 12 1 (.some 0) (_=false))::(.f 13 _)::(.f 14 _)::(.f 15 _)::(.v 16 _)::(.v 17 _)::(.adr 18 1 (.some 1) (_=false))::(.f 19 _)::(.f 20 _)::(.f 21 _)::(.v 22 _)::(.v 23 _)::(.adr 24 1 (.some 1) (_=false))::(.f 25 _)::(.f 26 _)::(.f 27 _)::(.v 28 _)::(.v 29 _)::(.adr 30 1 (.some 2) (_=false))::(.f 31 _)::(.f 32 _)::(.f 33 _)::(.f 34 _)::(.v 35 _)::[])) [.g 0,.o 28] U (zO 0 G cb (zL 0 0 0 G eY (zv G (bg qQ (vq 1 G)) (zv G (aN (vq 2 G) ab) (zV 3 G (zC 4 0 G cb (zB 4 G (λ hg=>aB 5 G zk hg (lz0 0 G) (Sub.part 0 G G) eY) (zB 4 G (λ hg=>bg qQ (ae (vq 6 G) hg)) (zB 4 G (λ hg=>cM (ae (vq 7 G) hg) ab) (zv G (r_or (vq 4 G) (vq 8 G)) (zV 9 G (zC 10 0 G bM (zB 10 G (λ hg=>aB 11 G zk hg (lz0 0 G) (Sub.part 1 G G) ec) (zB 10 G (λ hg=>bg qM (ae (vq 12 G) hg)) (zB 10 G (λ hg=>aN (ae (vq 13 G) hg) ab) (zv G (r_or (vq 10 G) (vq 14 G)) (zV 15 G (zC 16 0 G bM (zB 16 G (λ hg=>aB 17 G zk hg (lz0 0 G) (Sub.part 1 G G) ec) (zB 16 G (λ hg=>bg qM (ae (vq 18 G) hg)) (zB 16 G (λ hg=>cM (ae (vq 19 G) hg) ab) (zv G (r_or (vq 16 G) (vq 20 G)) (zV 21 G (zC 22 0 G eB (zB 22 G (λ hg=>aB 23 G zk hg (lz0 0 G) (Sub.part 2 G G) ax) (zB 22 G (λ hg=>bR (D:=[U32]) (l:=[_]) (xs:=[.tmp 31]) (cO zk) du zk (n_ok zk) nq nq nq (.o (ae (vq 24 G) hg)) G G) (zB 22 G (λ hg=>be (lh [t.tg] nq) (.o (ae (vq 25 G) hg))) (zB 22 G (λ hg=>dc (ae (vq 26 G) hg)) (zv G (r_or (vq 22 G) (vq 27 G)) o0))))))))))))))))))))))))))))) (zz (Wc 2 35) S7 λ a w U=>?_);refine zJ 1 U G (λ hb0=>?_) (λ hb0=>?_)
 ·have hd:hdF t=true:=by simp only [qc] at hb0;rw [← hd_r];exact hb0
  refine qb<|zg U6 [] UA U2 U (zE G ab) (zz Ux S7 λ a w U=>?_);refine aa<|qh<|aj ?_;refine al ?_ (am G U (zm 0 G));rw [ckF,qC hd];exact aG
 ·have hd:hdF t=false:=by simp only [qc] at hb0;rw [← hd_r];exact hb0
  obtain ⟨hs2,hs13,hp1,hp64,htg⟩:=hd_b hd;refine qj<|zt<|qb<|zg U6 [] [.v 3 _] Rk U (zE G ab) (zz (Wc 2 3) S7 λ a w U=>?_);refine aa<|qk ?_;have U:=U.sel [1];refine wp_loop_ghost (λ n a w=>∃ j:Nat,(n+j=t.sp.length∧(t.sp.take j).all spcF=true)∧St B w0 106 [(3,In (j:Nat))] [⟨1,30,ptrH,TkA t⟩] a w) (t.sp.length) ?_ ?_
  ·exact ⟨0,⟨by omega,rfl⟩,U⟩
  intro n a w hI;obtain ⟨j,⟨hn,hno⟩,U⟩:=hI;refine qb<|qb<|zg U6 [] (.v 36 _::.adr 37 1 (.some 0) True::(Wb 38)) Uz U (zM 0 G (zO 0 G cb (zL 1 0 0 G eY (zv G (bg qQ (vq 2 G)) (zv G (aN (vq 0 G) (vq 3 G)) o0))))) (zz (Wc 3 40) S7 λ a w U=>?_);refine zJ 1 U G (λ hb1=>?_) (λ hb1=>?_)
  ·have hj:j<t.sp.length:=by rw [qc] at hb1;have:=qt hb1;omega
   refine qj<|zt<|qk<|qb<|zg U6 [] (.adr 43 1 (.some 0) True::(W9 44 [.adr 52 1 (.some 0) (_=false),.f 53 _,.f 54 _,.f 55 _,.f 56 _,.f 57 _,.f 58 _,.v 59 _])) [.g 0,.o 16] U (zO 0 G cb (zL 0 0 0 G eY (zM 0 G (zv G (bB du (bX λ _=>rfl) (vq 1 G) (vq 2 G) (bn hj)) (zv G (ao (vq 3 G) ax) (zv G (bR (D:=[U32]) (l:=[_]) (xs:=[.tmp 47]) (cO zk) du zk (n_ok zk) nq nq nq (.o (vq 4 G)) G G) (zQ G (lh [t.sp[j]] nq) (.o (vq 5 G)) (zv G (dc (vq 6 G)) (zV 7 G (zC 8 0 G cb (zB 8 G (λ hg=>aB 9 G zk hg (lz0 0 G) (Sub.part 0 G G) eY) (zB 8 G (λ hg=>aq (gq 0 G)) (zB 8 G (λ hg=>bB du (bX λ _=>rfl) (ae (vq 10 G) hg) (ae (vq 11 G) hg) (bn hj)) (zB 8 G (λ hg=>ao (ae (vq 12 G) hg) ax) (zB 8 G (λ hg=>be (Jp hg) (.o (ae (vq 13 G) hg))) (zB 8 G (λ hg=>aN (ae (vq 14 G) hg) ab) (zv G (r_or (vq 8 G) (vq 15 G)) o0))))))))))))))))) (zz (Wc 3 59) S7 λ a w U=>?_);refine zJ 1 U G (λ hb2=>?_) (λ hb2=>?_)
   ·have hq:spcF t.sp[j]=false:=by have h:=hb2;rw [sp_r] at h;simpa using h
    refine qb<|zg U6 [] UA Rk U (zE G ab) (zz (Wc 3 2) S7 λ a w U=>?_);refine aa<|qh<|aD ?_;refine aj ?_;refine aj ?_;refine aD ?_;refine aj ?_;refine al ?_ (am G U (zm 1 G));rw [OD hd (nw hj hq)];exact aG
   ·have hq:spcF t.sp[j]=true:=by have h:=hb2;rw [sp_r] at h;simpa using h
    refine qj<|ak ?_;refine aa<|zg U6 [] (W6 41 [.v 3 _]) Ud U (zM 0 G (zv G (aL (vq 0 G) ab ((wi64 zo zo).trans (by omega:(_:Int)=((j+1:Nat):Int)))) (zA 1 G o0))) (zz RP S7 λ a w U=>?_);refine aa ?_;have U:=U.sel [0];exact ⟨n-1,by omega,j+1,⟨by omega,ny hj hno hq⟩,U⟩
  ·obtain rfl:j=t.sp.length:=by rw [qc] at hb1;have:=qv hb1;omega
   rw [qH] at hno;have hsp:=hno;refine qL<|ai<|ai<|az<|zt<|qb<|zg U6 [] WR U2 U (zE G ab) (zz U3 S7 λ a w U=>?_);refine aa<|qk ?_;have U:=U.sel [0];refine wp_loop_ghost (λ n a w=>∃ j:Nat,(n+j=t.ps.length∧(t.ps.take j).all ptF=true)∧St B w0 106 [(4,In (j:Nat))] [⟨1,30,ptrH,TkA t⟩] a w) (t.ps.length) ?_ ?_
   ·exact ⟨0,⟨by omega,rfl⟩,U⟩
   intro n a w hI;obtain ⟨j,⟨hn,hno⟩,U⟩:=hI;refine qb<|qb<|zg U6 [] (.v 60 _::.adr 61 1 (.some 1) True::(Wb 62)) Uz U (zM 0 G (zO 0 G bM (zL 1 0 1 G ec (zv G (bg qM (vq 2 G)) (zv G (aN (vq 0 G) (vq 3 G)) o0))))) (zz (Wc 4 64) S7 λ a w U=>?_);refine zJ 1 U G (λ hb3=>?_) (λ hb3=>?_)
   ·have hj:j<t.ps.length:=by rw [qc] at hb3;have:=qt hb3;omega
    refine qj<|zt<|qk<|qb<|zg U6 [] (.adr 67 1 (.some 1) True::(Wl 68)) [.g 0,.o 6] U (zO 0 G bM (zL 0 0 1 G ec (zM 0 G (zv G (bB fD (bX λ _=>rfl) (vq 1 G) (vq 2 G) (bn hj)) (zv G (ao (vq 3 G) i7) (zQ G (BI _) (.o (vq 4 G)) (zv G (dc (vq 5 G)) o0))))))) (zz (Wc 4 73) S7 λ a w U=>?_);refine zJ 1 U G (λ hb4=>?_) (λ hb4=>?_)
    ·have hq:ptF t.ps[j]=false:=by simpa using hb4
     refine qb<|zg U6 [] UA Rk U (zE G ab) (zz (Wc 4 2) S7 λ a w U=>?_);refine aa<|qh<|aD ?_;refine aj ?_;refine aj ?_;refine aD ?_;refine aj ?_;refine al ?_ (am G U (zm 1 G));rw [OE hd hsp (nw hj hq)];exact aG
    ·have hq:ptF t.ps[j]=true:=by simpa using hb4
     refine qj<|ak ?_;refine aa<|zg U6 [] (W6 65 [.v 4 _]) Ud U (zM 0 G (zv G (aL (vq 0 G) ab ((wi64 zo zo).trans (by omega:(_:Int)=((j+1:Nat):Int)))) (zA 1 G o0))) (zz U3 S7 λ a w U=>?_);refine aa ?_;have U:=U.sel [0];exact ⟨n-1,by omega,j+1,⟨by omega,ny hj hno hq⟩,U⟩
   ·obtain rfl:j=t.ps.length:=by rw [qc] at hb3;have:=qv hb3;omega
    rw [qH] at hno;have hps:=hno;refine qL<|ai<|ai<|az<|zt<|qb<|zg U6 [] UY U2 U (zE G ab) (zz [(5,_)] S7 λ a w U=>?_);refine aa<|qk ?_;have U:=U.sel [0];refine wp_loop_ghost (λ n a w=>∃ j:Nat,(n+j=t.ps.length∧dupB ((t.ps.take j).map RPt.nm)=false)∧St B w0 106 [(5,In (j:Nat))] [⟨1,30,ptrH,TkA t⟩] a w) (t.ps.length) ?_ ?_
    ·exact ⟨0,⟨by omega,rfl⟩,U⟩
    intro n a w hI;obtain ⟨j,⟨hn,hno⟩,U⟩:=hI;obtain ⟨N,rfl⟩:∃ N,N=n:=⟨n,rfl⟩;refine qb<|qb<|zg U6 [] (.v 74 _::.adr 75 1 (.some 1) True::(Wb 76)) Uz U (zM 0 G (zO 0 G bM (zL 1 0 1 G ec (zv G (bg qM (vq 2 G)) (zv G (aN (vq 0 G) (vq 3 G)) o0))))) (zz (Wc 5 78) S7 λ a w U=>?_);refine zJ 1 U G (λ hb5=>?_) (λ hb5=>?_)
    ·have hj:j<t.ps.length:=by rw [qc] at hb5;have:=qt hb5;omega
     refine qj<|zt<|qk<|qb<|zg U6 [] U5 Rk U (zE G ab) (zz (Wc 5 6) S7 λ a w U=>?_);refine aa<|qk ?_;have U:=U.sel [0,1];refine wp_loop_ghost (λ n a w=>∃ k:Nat,(n+k=j∧(t.ps.take k).any (λ p=>decide ((t.ps[j]'hj).nm=p.nm))=false)∧St B w0 106 [(5,In (j:Nat)),(6,In (k:Nat))] [⟨1,30,ptrH,TkA t⟩] a w) (j) ?_ ?_
     ·exact ⟨0,⟨by omega,rfl⟩,U⟩
     intro n a w hI;obtain ⟨k,⟨hnk,hna⟩,U⟩:=hI;refine qb<|qb<|zg U6 [] (Wb 81) U1 U (zM 1 G (zM 0 G (zv G (aN (vq 0 G) (vq 1 G)) o0))) (zz (Wa 5 6 83) S7 λ a w U=>?_);refine zJ 2 U G (λ hb6=>?_) (λ hb6=>?_)
     ·have hk:k<j:=by have:=qt hb6;omega
      have hkp:k<t.ps.length:=by omega
      refine qj<|zt<|qk<|qb<|zgd [[],[0],[],[0,1,2],(Wm 4),(Wm 5),[],[6],[],[6,7,8],[6,7,8,9],[6,7,8,9,10],(Wm 12)] U4 [] (.adr 86 1 (.some 1) True::(Wd 87 (.adr 92 1 (.some 1) True::(Wl 93)))) (We [.o 12]) ac U (zO 0 G bM (zL 0 0 1 G ec (zM 0 G (zv G (bB fD (bX λ _=>rfl) (vq 1 G) (vq 2 G) (bn hj)) (zv G (bK (vq 3 G) e8 (Sub.part 0 G G)) (zv G (ao (vq 4 G) ty_9) (zO 0 G bM (zL 6 0 1 G ec (zM 1 G (zv G (bB fD (bX λ _=>rfl) (vq 7 G) (vq 8 G) (bn hkp)) (zv G (bK (vq 9 G) e8 (Sub.part 0 G G)) (zv G (ao (vq 10 G) ty_9) (zv G (H9 (vq 5 G) (vq 11 G)) o0))))))))))))) zk zk zk zk (zz (Wa 5 6 98) S7 λ a w U=>?_);refine zJ 2 U G (λ hb7=>?_) (λ hb7=>?_)
      ·have hdu:dupB (t.ps.map RPt.nm)=true:=Lj (j:=j+1) (by rw [← List.map_take,Od hj,Ra hk hj hb7,Bool.or_true]);refine qb<|zg U6 [] UA WS U (zE G ab) (zz (Wa 5 6 2) S7 λ a w U=>?_);refine aa<|qh<|aD ?_;refine aj ?_;refine aj ?_;refine aD ?_;refine aD ?_;refine aj ?_;refine aj ?_;refine aD ?_;refine aj ?_;refine al ?_ (am G U (zm 2 G));rw [OF hd hsp hps hdu];exact aG
      ·have hq:=hb7;refine qj<|ak ?_;refine aa<|zg U6 [] (W6 84 [.v 6 _]) Ui U (zM 1 G (zv G (aL (vq 0 G) ab ((wi64 zo zo).trans (by omega:(_:Int)=((k+1:Nat):Int)))) (zA 1 G o0))) (zz (Wc 5 6) S7 λ a w U=>?_);refine aa ?_;have U:=U.sel [0,1];exact ⟨n-1,by omega,k+1,⟨by omega,Rb zo hna hq⟩,U⟩
     ·obtain rfl:j=k:=by have:=qv hb6;omega
      refine qL<|ai<|ai<|az<|ak ?_;refine aa<|zg U6 [] (W6 79 [.v 5 _]) Ud U (zM 0 G (zv G (aL (vq 0 G) ab ((wi64 zo zo).trans (by omega:(_:Int)=((j+1:Nat):Int)))) (zA 1 G o0))) (zz [(5,_)] S7 λ a w U=>?_);refine aa ?_;have U:=U.sel [0];exact ⟨N-1,by omega,j+1,⟨by omega,by rw [Od hj,hno,hna];rfl⟩,U⟩
    ·obtain rfl:j=t.ps.length:=by rw [qc] at hb5;have:=qv hb5;omega
     rw [qH] at hno;have hdu:=hno;refine qL<|ai<|ai<|az<|zt<|qb<|zgd [[],[0],[0,1],[],[3],(Wm 5),(Wm 6)] U4 [] (.adr 99 1 (.some 1) True::(Wl 100)) [.o 6] ac U (zO 0 G bM (zL 0 0 1 G ec (zv G (bg qM (vq 1 G)) (zl 0 G cp (zQ G (nX t) (.o (vq 3 G)) (zQ G ((BG t.ps.length (t.sp.length-1) zo zo).wk (.cons (ba (qp (λ z:Nat=>In (z:Int)) (qc _))) (.cons (ba (qp In (IR hs2 hs13))) .nil))) (.p (vq 2 G) (vq 4 G)) (zv G (cM (vq 5 G) ab) o0))))))) zk zk zk zk (zz [(105,_)] S7 λ a w U=>?_);refine zJ 0 U G (λ hb8=>?_) (λ hb8=>?_)
     ·rw [GK zo] at hb8;refine qb<|zg U6 [] UA U2 U (zE G ab) (zz Ux S7 λ a w U=>?_);refine aa<|qh<|aj ?_;refine al ?_ (am G U (zm 0 G));rw [Gl hd hsp hps hdu,qC hb8];exact aG
     ·rw [GK zo] at hb8;refine qj<|zt<|zg U6 [] UA U2 U (zE G ab) (zz Ux S7 λ a w U=>?_);refine aa<|qh<|al ?_ (am G U (zm 0 G));rw [Gl hd hsp hps hdu,qz (by rw [hb8];decide)];exact aG
theorem qm4 {c1 c2 c3 c4 k:Nat}{x y z u:Rat}(h1:c1≤k)(h2:c2≤k)(h3:c3≤k)(h4:c4≤k):WkA (cat [QA c1 x,QA c2 y,QA c3 z,QA c4 u]) (QMA k ⟨x,y,z,u⟩):=br (.cons (cc h1) (.cons (cc h2) (.cons (cc h3) (.cons (cc h4) .nil))))
theorem BK {k k':Nat}{m:MQ}(h:k≤k'):WkA (QMA k m) (QMA k' m):=br (.cons (cc h) (.cons (cc h) (.cons (cc h) (.cons (cc h) .nil))))
theorem QL {x:RE}(h:x.k=1):elM x=⟨1,toQ x.p,0,1⟩:=by unfold elM;rw [h];rfl
theorem QK {x:RE}(h:x.k=2):elM x=⟨1,0,0-toQ x.p,1⟩:=by unfold elM;rw [h];rfl
theorem QJ {x:RE}(h:x.k=3):elM x=⟨1,toQ x.p/toQ x.q,0,1⟩:=by unfold elM;rw [h];rfl
theorem QI {x:RE}(h:x.k=4):elM x=⟨1,0,0-toQ x.p*toQ x.q,1⟩:=by unfold elM;rw [h];rfl
theorem QH {x:RE}(h1:¬ x.k=1)(h2:¬ x.k=2)(h3:¬ x.k=3)(h4:¬ x.k=4):elM x=⟨0-1,0-0,0-0,0-1⟩:=by unfold elM elQ;rw [qz h1,qz h2,qz h3,qz h4]
theorem PX {x:RE}(hk:x.k=1∨x.k=2∨(x.k=3∧toQ x.q≠0)∨x.k=4∨x.k=5)(h:x.k=3):toQ x.q≠0:=by
 rcases hk with e|e|⟨_,e⟩|e|e
 ·omega
 ·omega
 ·exact e
 ·omega
 ·omega
theorem ut {c d e f:Nat}{x y z u:Rat}(hk:c+d+e+f≤900000000):Cn Tryz.prog 201 [Qs c x,Qs d y,Qs e z,Qs f u] (Qs (c+d+(e+f)+1) (x*y+z*u)):=by
 refine Cn.intro Tryz.func201 G zk nq (zy [(0,Qs c x),(1,Qs d y),(2,Qs e z),(3,Qs f u)] λ B w0 a U=>?_);refine qb<|zg [] [zpL 4 28 0 _,zpL 5 28 1 _,zpL 6 28 2 _,zpL 7 28 3 _,zpL 8 28 4 _] [.alc 0,.alc 1,.alc 2,.alc 3,.alc 4] [] U (zW 0 G (zW 1 G (zW 2 G (zW 3 G (zY G (Str.zero aS) o0))))) (zz [] [O 4 28 _,O 5 28 _,O 6 28 _,O 7 28 _,O 8 28 _] λ a w U=>?_);refine zt<|zgd [[],[],[0,1],[],[],(Wm 5),(Wm 6),(Wm 7)] [none,none,none,none,some (7,_)] [] (WG 9 [.sto 4]) [] ac U (zl 0 G ax (zl 1 G ax (zQ G (mG zo) (.p (vq 0 G) (vq 1 G)) (zl 2 G ax (zl 3 G ax (zQ G (mG zo) (.p (vq 3 G) (vq 4 G)) (zQ G (oN zo) (.p (vq 2 G) (vq 5 G)) (zS 6 G ax o0)))))))) zk zk zk zk (zz [] [O 4 28 _,O 5 28 _,O 6 28 _,O 7 28 _,O 8 28 _] λ a w U=>?_);refine aa<|qh<|al ?_ (au G U (zm 4 G) ax);exact aG
theorem F0 {x:Rat}(hc:c≤800000000):Cn Tryz.prog 235 [Qs c x] (Qs (c+2+1) x):=by
 refine Cn.intro Tryz.func235 G zk nq (zy [(0,Qs c x)] λ B w0 a U=>?_);refine qb<|zg [] RC UU [] U (zW 0 G (zY G (Str.zero aS) o0)) (zz [] RD λ a w U=>?_);refine zt<|zgd UW UX [] (Wb 3 [.sto 1]) [] ac U (zl 0 G ax (zQ G d5 .nil (zQ G (oN zo) (.p (vq 0 G) (vq 1 G)) (zS 2 G ax o0)))) zk zk zk zk (zz [] RD λ a w U=>?_);refine aa<|qh<|al ?_ (au G U (zm 1 G) ax);exact ba (qp (Qs _) (Rat.add_zero x))
theorem fI {x:Rat}(hc:c≤800000000):Cn Tryz.prog 236 [Qs c x] (Qs (2+c+1) (0-x)):=by
 refine Cn.intro Tryz.func236 G zk nq (zy [(0,Qs c x)] λ B w0 a U=>?_);refine qb<|zg [] RC UU [] U (zW 0 G (zY G (Str.zero aS) o0)) (zz [] RD λ a w U=>?_);refine zt<|zgd UW UX [] (Wb 3 [.sto 1]) [] ac U (zQ G d5 .nil (zl 0 G ax (zQ G (rE zo) (.p (vq 0 G) (vq 1 G)) (zS 2 G ax o0)))) zk zk zk zk (zz [] RD λ a w U=>?_);refine aa<|qh<|al ?_ (au G U (zm 1 G) ax);exact aG
theorem mI {c d e f:Nat}{x y z u:Rat}:Cn Tryz.prog 234 [Qs c x,Qs d y,Qs e z,Qs f u] ((cat [QA c x,QA d y,QA e z,QA f u]).va):=by
 refine Cn.intro Tryz.func234 G zk nq (zy [(0,Qs c x),(1,Qs d y),(2,Qs e z),(3,Qs f u)] λ B w0 a U=>?_);refine qb<|zg [] [zpL 4 28 0 _,zpL 5 28 1 _,zpL 6 28 2 _,zpL 7 28 3 _,zpL 8 131 4 _] [.alc 0,.alc 1,.alc 2,.alc 3,.alc 4] [] U (zW 0 G (zW 1 G (zW 2 G (zW 3 G (zY G (Str.zero cZ) o0))))) (zz [] [O 4 28 _,O 5 28 _,O 6 28 _,O 7 28 _,O 8 131 _] ?_);refine ztA<|zgA [none,none,none,none,some (5,_)] [] (Wd 9 [.sto 4]) [] (zl 0 G ax (zl 1 G ax (zl 2 G ax (zl 3 G ax (zv G (aT (qs:=[(0,_),(1,_),(2,_),(3,_)]) cZ (.cons ⟨rfl,vq 0 rfl,rfl⟩ (.cons ⟨rfl,vq 1 rfl,rfl⟩ (.cons ⟨rfl,vq 2 rfl,rfl⟩ (.cons ⟨rfl,vq 3 rfl,rfl⟩ .nil))))) (zS 4 G cY o0)))))) (zz [] [O 4 28 _,O 5 28 _,O 6 28 _,O 7 28 _,O 8 131 _] λ a w U=>?_);refine aa<|qh<|al ?_ (au G U (zm 4 G) cY);exact aG
theorem o4 {x:Rat}(hc:c≤800000000):Cn Tryz.prog 202 [Qs c x] ((QMA (c+3) ⟨1,x,0,1⟩).va):=by
 refine Cn.intro Tryz.func202 G zk nq (zy [(0,Qs c x)] λ B w0 a U=>?_);refine qb<|zg [] [zpL 1 28 0 _,zpL 2 131 1 _] UU [] U (zW 0 G (zY G (Str.zero cZ) o0)) (zz [] Ss λ a w U=>?_);refine zt<|zgd [[],[],[0,1],[0,1,2],(Wm 4),(Wm 5),(Wm 6)] RY [] (Wl 3 [.sto 1]) [] ac U (zQ G gO .nil (zl 0 G ax (zQ G (F0 zo) (.o (vq 1 G)) (zQ G d5 .nil (zQ G gO .nil (zQ G mI (.cons (vq 0 G) (.cons (vq 2 G) (.p (vq 3 G) (vq 4 G)))) (zS 5 G cY o0))))))) zk zk zk zk (zz [] Ss λ a w U=>?_);refine aa<|qh<|al ?_ (au G U (zm 1 G) cY);exact (qm4 zo zo zo zo).va
theorem rF {x:Rat}(hc:c≤800000000):Cn Tryz.prog 203 [Qs c x] ((QMA (c+3) ⟨1,0,0-x,1⟩).va):=by
 refine Cn.intro Tryz.func203 G zk nq (zy [(0,Qs c x)] λ B w0 a U=>?_);refine qb<|zg [] [zpL 1 28 0 _,zpL 2 131 1 _] UU [] U (zW 0 G (zY G (Str.zero cZ) o0)) (zz [] Ss λ a w U=>?_);refine zt<|zgd [[],[0],[],[0,1,2],(Wm 4),(Wm 5),(Wm 6)] RY [] (Wl 3 [.sto 1]) [] ac U (zQ G gO .nil (zQ G d5 .nil (zl 0 G ax (zQ G (fI zo) (.o (vq 2 G)) (zQ G gO .nil (zQ G mI (.cons (vq 0 G) (.cons (vq 1 G) (.p (vq 3 G) (vq 4 G)))) (zS 5 G cY o0))))))) zk zk zk zk (zz [] Ss λ a w U=>?_);refine aa<|qh<|al ?_ (au G U (zm 1 G) cY);exact (qm4 zo zo zo zo).va
theorem sX {m:MQ}(hc:c≤800000000):Cn Tryz.prog 206 [(QMA c m).va] ((QMA (c+3) ⟨0-m.a,0-m.b,0-m.c,0-m.d⟩).va):=by
 refine Cn.intro Tryz.func206 G zk nq (zy [(0,(QMA c m).va)] λ B w0 a U=>?_);refine qb<|zg [] [zpL 1 131 0 _,zpL 2 131 1 _] UU [] U (zW 0 G (zY G (Str.zero cZ) o0)) (zz [] [O 1 131 _,O 2 131 _] λ a w U=>?_);refine zt<|zgd [[],[0],[0,1],[],[3],(Wm 5),[],[6],(Wm 8),[],[9],(Wm 11),(Wm 12),(Wm 13)] [none,some (13,_)] [] (.adr 3 1 (.some 0) True::(W6 4 (.adr 6 1 (.some 4) True::(W6 7 (.adr 9 1 (.some 8) True::(W6 10 (.adr 12 1 (.some 12) True::(Wb 13 [.sto 1])))))))) [] ac U (zO 0 G sb (zL 0 0 0 G ax (zQ G (fI zo) (.o (vq 1 G)) (zO 0 G sa (zL 3 0 1 G ax (zQ G (fI zo) (.o (vq 4 G)) (zO 0 G s9 (zL 6 0 2 G ax (zQ G (fI zo) (.o (vq 7 G)) (zO 0 G s7 (zL 9 0 3 G ax (zQ G (fI zo) (.o (vq 10 G)) (zQ G mI (.cons (vq 2 G) (.cons (vq 5 G) (.p (vq 8 G) (vq 11 G)))) (zS 12 G cY o0)))))))))))))) zk zk zk zk (zz [] [O 1 131 _,O 2 131 _] λ a w U=>?_);refine aa<|qh<|al ?_ (au G U (zm 1 G) cY);exact (qm4 zo zo zo zo).va
theorem Jr {x:RE}(h:elF x=true):Cn Tryz.prog 130 [(REA x).va] ((QMA 4099 (elM x)).va):=by
 obtain ⟨hx,hk⟩:=fq h;refine Cn.intro Tryz.func130 G zk nq (zy [(0,(REA x).va)] λ B w0 a U=>?_);refine qb<|zg [] [zpL 1 76 0 _,zpL 2 131 1 _] UU [] U (zW 0 G (zY G (Str.zero cZ) o0)) (zz [] Su λ a w U=>?_);have U:=U.wkL 0 rfl (el_q hx);refine zt<|qb<|zg UH [] [.adr 3 1 (.some 0) True,.v 4 _] Uw U (zO 0 G cR (zL 0 0 0 G lO o0)) (zz U3 Su λ a w U=>?_);refine aa<|qk<|qb<|zg UH [] [.v 6 _,.v 5 _] Rj U (zv G (bC (gq 0 G) ab) (zA 0 G o0)) (zz (Wc 4 5) Su λ a w U=>?_);refine zJ 1 U G (λ hb0=>?_) (λ hb0=>?_)
 ·have hk1:x.k=1:=by simpa using hb0
  refine qb<|zg [η,some (3,_)] [] (.adr 7 1 (.some 1) True::(W6 8 [.sto 1])) [] U (zO 0 G bL (zL 0 0 1 G ax (zQ G (o4 zo) (.o (vq 1 G)) (zS 2 G cY o0)))) (zz [] Su λ a w U=>?_);refine aa<|qh<|aD ?_;refine aj ?_;refine al ?_ (au G U (zm 1 G) cY);rw [QL hk1];exact (BK zd).va
 ·have hk1:¬ x.k=1:=by simpa using hb0
  refine qb<|zg UH [] [.v 11 _,.v 10 _] Rj U (zv G (bC (gq 0 G) ab) (zA 0 G o0)) (zz (Wc 4 10) Su λ a w U=>?_);refine zJ 1 U G (λ hb1=>?_) (λ hb1=>?_)
  ·have hk2:x.k=2:=by simpa using hb1
   refine qb<|zg [η,some (3,_)] [] (.adr 12 1 (.some 1) True::(W6 13 [.sto 1])) [] U (zO 0 G bL (zL 0 0 1 G ax (zQ G (rF zo) (.o (vq 1 G)) (zS 2 G cY o0)))) (zz [] Su λ a w U=>?_);refine aa<|qh<|aD ?_;refine aj ?_;refine al ?_ (au G U (zm 1 G) cY);rw [QK hk2];exact (BK zd).va
  ·have hk2:¬ x.k=2:=by simpa using hb1
   refine qb<|zg UH [] [.v 16 _,.v 15 _] Rj U (zv G (bC (gq 0 G) ab) (zA 0 G o0)) (zz (Wc 4 15) Su λ a w U=>?_);refine zJ 1 U G (λ hb2=>?_) (λ hb2=>?_)
   ·have hk3:x.k=3:=by simpa using hb2
    refine qb<|zg [η,some (6,_)] [] (.adr 17 1 (.some 1) True::.v 18 _::.adr 19 1 (.some 5) True::(Wb 20 [.sto 1])) [] U (zO 0 G bL (zL 0 0 1 G ax (zO 0 G bZ (zL 2 0 2 G ax (zQ G (EZ zo (PX hk hk3)) (.p (vq 1 G) (vq 3 G)) (zQ G (o4 zo) (.o (vq 4 G)) (zS 5 G cY o0))))))) (zz [] Su λ a w U=>?_);refine aa<|qh<|aD ?_;refine aj ?_;refine al ?_ (au G U (zm 1 G) cY);rw [QJ hk3];exact (BK zd).va
   ·have hk3:¬ x.k=3:=by simpa using hb2
    refine qb<|zg UH [] [.v 24 _,.v 23 _] Uw U (zv G (bC (gq 0 G) ab) (zA 0 G o0)) (zz [(23,_)] Su λ a w U=>?_);refine zJ 0 U G (λ hb3=>?_) (λ hb3=>?_)
    ·have hk4:x.k=4:=by simpa using hb3
     refine qb<|zg [η,some (6,_)] [] (.adr 25 1 (.some 1) True::.v 26 _::.adr 27 1 (.some 5) True::(Wb 28 [.sto 1])) [] U (zO 0 G bL (zL 0 0 1 G ax (zO 0 G bZ (zL 2 0 2 G ax (zQ G (mG zo) (.p (vq 1 G) (vq 3 G)) (zQ G (rF zo) (.o (vq 4 G)) (zS 5 G cY o0))))))) (zz [] Su λ a w U=>?_);refine aa<|qh<|aD ?_;refine aj ?_;refine al ?_ (au G U (zm 1 G) cY);rw [QI hk4];exact (BK zd).va
    ·have hk4:¬ x.k=4:=by simpa using hb3
     refine qj<|ak ?_;refine zt<|zg [η,some (2,_)] [] (W6 31 [.sto 1]) [] U (zQ G Jo .nil (zQ G (sX (m:=⟨1,0,0,1⟩) zo) (.o (vq 0 G)) (zS 1 G cY o0))) (zz [] Su λ a w U=>?_);refine aa<|qh<|al ?_ (au G U (zm 1 G) cY);rw [QH hk1 hk2 hk3 hk4];exact (BK zd).va
section
open Rg
variable {P:Program}{Q:Exit→Act→World→Prop}{B N:Nat}{w0:Bs}{Γ:List (Nat × VA)}{Λ:List Lc}{a:Act}{w:World}{ops:Array Oper}{i:Nat}{K:Act→World→Prop}
end
theorem HS {α:Type}{A':α→As}{w:Yi}{B:Nat}{f:Nat}{A:As}:∀ {L:Yb}{f:Nat}{cs:Ym},L[f]?=some A→(∀ c,A.p B c w→∃ x,(A' x).p B c w)→(cat L).p B cs w→∃ x,(cat (L.set f (A' x))).p B cs w
 | [],f,cs,hf,_,_=>by simp at hf
 | A0::L,0,cs,hf,hi,h=>by
  obtain ⟨ps,rfl,h⟩:=h;cases h with
  | cons h1 h2 =>
   simp at hf;subst hf;obtain ⟨x,hx⟩:=hi _ h1;exact ⟨x,_,rfl,.cons hx h2⟩
 | A0::L,f+1,cs,hf,hi,h=>by
  obtain ⟨ps,rfl,h⟩:=h;cases h with
  | @cons _ c0 _ bs h1 h2 =>
   obtain ⟨x,qs,e,hq⟩:=HS (L:=L) (f:=f) (cs:=bs.flatten) (by simpa using hf) hi ⟨bs,rfl,h2⟩;exact ⟨x,c0::qs,by simp [e],.cons h1 hq⟩
theorem wW {w w':Yi}{B:Nat}{A A1:As}:∀ {L:Yb}{f:Nat}{cs:Ym},L[f]?=some A→(∀ c,A.p B c w→A1.p B c w')→(∀ X∈L.eraseIdx f,∀ c,X.p B c w→X.p B c w')→(cat L).p B cs w→(cat (L.set f A1)).p B cs w'
 | [],f,cs,hf,_,_,_=>by simp at hf
 | A0::L,0,cs,hf,hi,ho,h=>by
  obtain ⟨ps,rfl,h⟩:=h;cases h with
  | @cons _ c0 _ bs h1 h2 =>
   simp at hf;subst hf;refine ⟨c0::bs,rfl,.cons (hi _ h1) ?_⟩;clear h1 hi
   induction h2 with
   | nil=>exact .nil
   | cons h _ ih=>exact .cons (ho _ (by simp) _ h) (ih λ X hX=>ho X (by simp at hX ⊢;exact .inr hX))
 | A0::L,f+1,cs,hf,hi,ho,h=>by
  obtain ⟨ps,rfl,h⟩:=h;cases h with
  | @cons _ c0 _ bs h1 h2 =>
   obtain ⟨qs,e,hq⟩:=wW (L:=L) (f:=f) (cs:=bs.flatten) (by simpa using hf) hi (λ X hX=>ho X (by simp;exact .inr hX)) ⟨bs,rfl,h2⟩;exact ⟨c0::qs,by simp [e],.cons (ho A0 (by simp) _ h1) hq⟩
theorem DP {L:Yb}{f:Nat}(hf:L[f]?=some A)(h:(cat L).p B cs w):∃ c,A.p B c w:=by
 obtain ⟨ps,rfl,h⟩:=h
 induction h generalizing f with
 | nil=>simp at hf
 | @cons A0 c0 L bs h1 h2 ih =>
  cases f with
  | zero=>simp at hf;subst hf;exact ⟨_,h1⟩
  | succ f=>exact ih (by simpa using hf)
theorem Ju {x:Yo}(h:Put A k A' A1)(hp:A.p B cs w)(hx:A'.p B [x] w):k<cs.length∧A1.p B (cs.set k x) w:=by
 obtain ⟨h1,h2⟩:=h B cs [x] w hp hx;have l1:=A'.len _ _ _ hx;have hk:k<cs.length:=by simp at l1;omega
 refine ⟨hk,?_⟩;rw [xy,qC hk];simpa [dt] using h2
def OwYG (b:Nat)(E:TypeId)(m:Nat)(D:List TypeId)(l:List As)(v:Value)(ds:List Value):As where
 n:=1
 ag:=false
 p B cs w:=cs=[v]∧v.oneCell'=true∧(∀ A∈l,A.n=m)∧(∀ A∈l,∀ T∈A.deps,T∈D)∧(cat l).p B ds w∧w.ownsRow b E m v l.length ds
 deps:=E::D
 len:=by rintro B cs w ⟨rfl,_⟩;rfl
 one:=by
  rintro B cs w ⟨rfl,h,_⟩ c hc;obtain rfl:=qn.1 hc;exact h
 ag1:=λ _=>rfl
 cg:=by
  rintro B cs w w' hg ⟨rfl,h0,h1,h2,h3,h4,h5⟩;refine ⟨rfl,h0,h1,h2,(cat l).cg _ _ _ _ hg h3,h4,?_⟩;rcases h5 with h5|⟨g,cap,cur,e1,e2,e3,e4⟩
  ·exact .inl h5
  ·exact .inr ⟨g,cap,cur,e1,e2,hg.heap e3,e4⟩
 wr:=by
  rintro B cs w w' g c T fz hgc hT hB hW ⟨rfl,h0,h1,h2,h3,h4,h5⟩;simp only [qr,not_or] at hT;refine ⟨rfl,h0,h1,h2,(cat l).wr _ _ _ _ _ _ _ _ hgc (nj h2 hT.2) hB hW h3,h4,?_⟩;rcases h5 with h5|⟨g0,cap,cur,e1,e2,e3,e4⟩
  ·exact .inl h5
  ·refine .inr ⟨g0,cap,cur,e1,e2,?_,e4⟩;have hne:g0≠g:=by
    rintro rfl;rw [hgc] at e3;injection e3 with e3;injection e3 with _ e3 _;exact hT.1 e3
   rw [hW.block g0 hne];exact e3
def OwXG (b:Nat)(E:TypeId)(m:Nat)(D:List TypeId)(l:List As)(v u:Value):As where
 n:=1
 ag:=false
 p B cs w:=cs=[v]∧v.oneCell'=true∧(OwnR b E m D l).p B u w
 deps:=E::D
 len:=by rintro B cs w ⟨rfl,_⟩;rfl
 one:=by
  rintro B cs w ⟨rfl,h,_⟩ c hc;obtain rfl:=qn.1 hc;exact h
 ag1:=λ _=>rfl
 cg:=λ B cs w w' hg ⟨h1,h2,h3⟩=>⟨h1,h2,(OwnR b E m D l).cg _ _ _ _ hg h3⟩
 wr:=λ B cs w w' g c T fz q1 q2 q3 q4 ⟨h1,h2,h3⟩=>⟨h1,h2,(OwnR b E m D l).wr _ _ _ _ _ _ _ _ q1 q2 q3 q4 h3⟩
theorem oQ {B E m n:Nat}{xs:Ym}(h:w.ownsRow B E m v n xs):v.oneCell'=true∧v.cells = #[v]:=by
 rcases h.2 with ⟨rfl,_⟩|⟨g,cap,cur,rfl,_⟩ <;> exact ⟨rfl,rfl⟩
def OwG (b:Nat)(E:TypeId)(m:Nat)(D:List TypeId)(l:List As):As where
 n:=1
 ag:=false
 p B cs w:=∃ v,cs=[v]∧(OwnR b E m D l).p B v w
 deps:=E::D
 len:=by rintro B cs w ⟨v,rfl,_⟩;rfl
 one:=by
  rintro B cs w ⟨v,rfl,_,_,ds,_,h⟩ c hc;obtain rfl:=qn.1 hc;exact (oQ h).1
 ag1:=λ _=>rfl
 cg:=λ B cs w w' hg ⟨v,h1,h3⟩=>⟨v,h1,(OwnR b E m D l).cg _ _ _ _ hg h3⟩
 wr:=λ B cs w w' g c T fz q1 q2 q3 q4 ⟨v,h1,h3⟩=>⟨v,h1,(OwnR b E m D l).wr _ _ _ _ _ _ _ _ q1 q2 q3 q4 h3⟩
theorem Q4 {l:Yb}{c:Ym}(h:(OwG b E m D l).p B c w):∃ x:Yo × Ym,(OwYG b E m D l x.1 x.2).p B c w:=by
 obtain ⟨v,rfl,h1,h2,ds,h3,h4⟩:=h;exact ⟨(v,ds),rfl,(oQ h4).1,h1,h2,h3,h4⟩
theorem JE {l:Yb}:Wk (OwYG b E m D l v ds).va (EqV v):=λ B u w ⟨cs,⟨h1,_⟩,h2⟩=>by subst h1;exact h2
section
variable {B N:Nat}{w0:Bs}{Γ:List (Nat × VA)}{Λ:List Lc}{a:Act}{w:World}
theorem St.exL {α:Type}(h:St B w0 N Γ Λ a w)(A':α→As)(k:Nat)(hm:Λ[k]?=some ⟨s,T,H,A⟩)(hi:∀ cs,A.p B cs w→∃ x,(A' x).p B cs w):∃ x,St B w0 N Γ (Λ.set k ⟨s,T,H,A' x⟩) a w:=by
 obtain ⟨hk,he⟩:=List.getElem?_eq_some_iff.1 hm;have hin:(⟨s,T,H,A⟩:Lc)∈Λ:=qa hm;obtain ⟨g,cs,h1,h2,h3,h4⟩:=h.locs _ hin;obtain ⟨x,hx⟩:=hi cs h4;have hset:∀ l∈Λ.set k ⟨s,T,H,A' x⟩,l=⟨s,T,H,A' x⟩∨l∈Λ:=λ l hl=>(qA hl).symm;have hd:∀ l∈Λ.set k ⟨s,T,H,A' x⟩,∃ l'∈Λ,l'.s=l.s:=λ l hl=>by
  rcases hset l hl with rfl|hl
  ·exact ⟨_,hin,rfl⟩
  ·exact ⟨l,hl,rfl⟩
 refine ⟨x,h.lo,h.defers,h.size,h.base,h.vals,λ l hl=>?_,λ l hl m hm' hne=>?_⟩
 ·rcases hset l hl with rfl|hl
  ·exact ⟨g,cs,h1,h2,h3,hx⟩
  ·exact h.locs l hl
 ·obtain ⟨l',hl',e1⟩:=hd l hl;obtain ⟨m',hm'',e2⟩:=hd m hm';have:=h.dis l' hl' m' hm'' (by rw [e1,e2];exact hne);rw [e1,e2] at this;exact this
theorem St.wkB (h:St B w0 N Γ Λ a w)(k:Nat)(hm:Λ[k]?=some ⟨s,T,H,A⟩)(hi:∀ cs,A.p B cs w→A'.p B cs w):St B w0 N Γ (Λ.set k ⟨s,T,H,A'⟩) a w:=by
 obtain ⟨_,h⟩:=St.exL h (λ _:Unit=>A') k hm λ cs hp=>⟨(),hi cs hp⟩;exact h
theorem St.nameFG (h:St B w0 N Γ Λ a w){L:Yb}{l:Yb}(k f:Nat)(hm:Λ[k]?=some ⟨s,T,H,cat L⟩)(hf:L[f]?=some (OwG b E m D l)):
  ∃ x:Value × List Value,St B w0 N Γ (Λ.set k ⟨s,T,H,cat (L.set f (OwYG b E m D l x.1 x.2))⟩) a w :=
 St.exL h (λ x:Value × List Value=>cat (L.set f (OwYG b E m D l x.1 x.2))) k hm λ cs hp=>HS (A':=λ x:Value × List Value=>OwYG b E m D l x.1 x.2) (f:=0) hf (λ c hc=>Q4 hc) hp
theorem St.knowFG (h:St B w0 N Γ Λ a w){L:Yb}{l:Yb}(k f:Nat)(hm:Λ[k]?=some ⟨s,T,H,cat L⟩)(hf:L[f]?=some (OwYG b E m D l v ds)):
  w.ownsRow b E m v l.length ds:=by
 obtain ⟨g,cs,_,_,_,hp⟩:=h.locs _ (qa hm);obtain ⟨c,hc⟩:=DP hf hp;exact hc.2.2.2.2.2
end
section
open Rg
variable {P:Program}{Q:Exit→Act→World→Prop}{B N:Nat}{w0:Bs}{Γ:List (Nat × VA)}{Λ:List Lc}{a:Act}{w:World}{ops:Array Oper}{i:Nat}{K:Act→World→Prop}
theorem Fh (hbB:B≤b)(hb0:b≤w0.w.heap.size){d s u sx f:Nat}{S E T1 T:Yh}{L:Yb}{X:As}{m bytes:Nat}{D D':Yq}{l:Yb}{it:TypeInfo}{z:Yo}(src:Ya)(ks ku e:Nat)
  (ho:ops[i]?=some ⟨some d,.call ⟨.builtin .append,#[.tmp s,.tmp u],#[S,S]⟩,T1,ps,af,none⟩) (h:St B w0 N Γ Λ a w)
  (hs:Γ[ks]?=some (s,EqV v)) (hu:Γ[ku]?=some (u,(SlA E D' [X]).va)) (hXn:X.n=m) (hXd:∀ T∈X.deps,T∈D) (hl:Λ[e]?=some ⟨sx,T,H,cat L⟩) (hf:L[f]?=some (OwYG b E m D l v ds)) (hL:(L.eraseIdx f).all (λ X => !X.deps.contains E)=true) (hE:E ∉ D) (hTE:(T != E)=true) (hrm:fC w0 b E)
  (hS:P.underlying S=some (.slice E)) (hi:P.info? E=some it) (hz:it.zero=some z) (hsz1:it.size=m) (hby:it.bytes=bytes) (hzs:z.cells.size=m) (hm0:0<m) (hn:(l.length+1)*bytes≤140737488355328) (hn2:l.length≤1000000000000000)
  (hd:d<N) (hΓ:Γ.all (λ x=>x.1 != d)=true) (hΛd:Λ.all (λ l=>l.s != d)=true)
  (hsrc:src.all (λ k=>match Γ[k]? with|some y => !y.2.deps.contains E|none=>false)=true) (hΛ:Λ.zipIdx.all (λ x=>x.2==e || (x.1.T != E && !x.1.A.deps.contains E))=true)
  (hK:∀ v' w',v'.oneCell'=true→v'.cells = #[v']→St B w0 N ((d,EqV v')::src.filterMap λ k=>Γ[k]?) (Λ.set e ⟨sx,T,H,cat (L.set f (OwXG b E m D (l++[X]) v v'))⟩) (a.put (some d) v') w'→K (a.put (some d) v') w'):wpOp P ops Q i K a w:=by
 have hown:=h.knowFG e f hl hf;refine uB hbB hb0 (n:=l.length) (A1:=λ v'=>cat (L.set f (OwXG b E m D (l++[X]) v v'))) (F:=λ ds'=>X.p B ds' w) src ks ku e ho h hs hu (λ _ h=>h) hXn hl hTE hrm hS hi hz hsz1 hby hzs hm0 hn hn2 hd hΓ hΛd hsrc hΛ (xs:=ds) (λ cs hp=>⟨hown,λ v' w' ds' hF hown' hg hcase=>wW hf (λ c hc=>?_) (λ Y hY c hc=>?_) hp⟩) (λ v' w' U=>?_)
 ·have hro:gF w b E v.ownBlock:=fb hown;obtain ⟨rfl,hv1,q1,q2,q3,q4⟩:=hc;refine ⟨rfl,hv1,λ A hA=>?_,λ A hA=>?_,ds++ds',tJ (As.grown q3 hg hro hbB (nj q2 hE)) (by have:=As.grown hF hg hro hbB (λ hh=>hE (hXd _ hh));exact ⟨[ds'],by simp,.cons this .nil⟩),by simpa using hown'⟩
  ·rcases qo.1 hA with hA|hA
   ·exact q1 A hA
   ·rw [qn.1 hA];exact hXn
  ·rcases qo.1 hA with hA|hA
   ·exact q2 A hA
   ·rw [qn.1 hA];exact hXd
 ·have:=qe.1 hL Y hY;exact As.grown hc hg (fb hown) hbB (by simpa using this)
 ·have hLc:=List.getElem?_eq_some_iff.1 hl;obtain ⟨g,cs,_,_,_,hp⟩:=U.locs ⟨sx,T,H,cat (L.set f (OwXG b E m D (l++[X]) v v'))⟩ (qa (i:=e) (by rw [List.getElem?_set_self hLc.1]));have hfl:=(List.getElem?_eq_some_iff.1 hf).1;obtain ⟨c,hc⟩:=DP (f:=f) (A:=OwXG b E m D (l++[X]) v v') (by rw [List.getElem?_set_self hfl]) hp;obtain ⟨_,_,_,_,_,_,hcc⟩:=hc;exact hK v' w' (oQ hcc).1 (oQ hcc).2 U
end
theorem FQ {L:Yb}{f:Nat}{l:Yb}{v u:Yo}(hf:L[f]?=some (OwXG b E m D l v u))(hk:offs L f=k)(hp:(cat L).p B cs w):k<cs.length∧(cat (L.set f (OwG b E m D l))).p B (cs.set k u) w:=by
 obtain ⟨c,hc⟩:=DP hf hp;exact Ju (A':=OwG b E m D l) (Put.part f hf G hk) hp ⟨u,rfl,hc.2.2⟩
theorem St.bt26 (h:St B w0 N Γ Λ a w):B≤w0.w.heap.size:=h.lo _ (.inl (qi _))
theorem Ea (h:Q .normal a w):wpOps P ops Q [] (a.put none undef) w:=h
theorem JC (hb:B≤b){l:Yb}(h:(OwnR b E m D l).p B v w):(OwnR B E m D l).p B v w:=by
 obtain ⟨h1,h2,ds,h3,h4,h5⟩:=h;refine ⟨h1,h2,ds,h3,h4,?_⟩;rcases h5 with h5|⟨g,cap,cur,e1,e2,e3⟩
 ·exact .inl h5
 ·exact .inr ⟨g,cap,cur,e1,qf hb e2,e3⟩
theorem Q5 (hb:B≤b){u:Ya}{c:Ym}(h:(OwG b 3 1 [] (u.map λ (k:Nat)=>InA k)).p B c w):(SlP (λ g=>b≤g) 3 [] ((u.map λ (k:Nat)=>(k:Int)).map InA)).p B c w:=by
 obtain ⟨v,rfl,h0⟩:=h;obtain ⟨cs',h1,h2⟩:=gI B v w (JC hb h0);have l2:=(SlA 3 [] (u.map λ (k:Nat)=>InA k)).len _ _ _ h1;refine ⟨?_,λ x hx g hg=>?_⟩
 ·rw [xD]
  match cs',l2 with
  | [c],_ =>
   have e:v=c:=h2;subst e;exact h1
 ·obtain rfl:=qn.1 hx;obtain ⟨_,_,ds,_,h5⟩:=h0;rcases h5.2 with ⟨rfl,_⟩|⟨g',cap,cur,rfl,h6,_⟩
  ·cases hg
  ·have e:g'=g:=by injection hg
   subst e;exact h6
theorem oD:Str Tryz.prog 89 [EqA (.slice none 0 0),RFA rf0,NumA .i64 0,RFA rf0] :=
 Str.of (z:=.agg #[.slice none 0 0,.bool false,.slice none 0 0,.bool false,.slice none 0 0,.int .i64 0,.bool false,.slice none 0 0,.bool false,.slice none 0 0]) zk Tryz.underlying89 zk λ B w=>⟨[[.slice none 0 0],[.bool false,.slice none 0 0,.bool false,.slice none 0 0],[.int .i64 0],[.bool false,.slice none 0 0,.bool false,.slice none 0 0]],rfl,.cons ⟨rfl,rfl⟩ (.cons (f9 B w) (.cons rfl (.cons (f9 B w) .nil)))⟩
theorem Ku:∃ i,Tryz.prog.info? 3=some i∧i.zero=some (.int .i64 0)∧i.size=1∧i.bytes=8:=uS
def coQ (m:MQ):YQ:=⟨m.a,m.c⟩
theorem QQ {b:List RE}(hj:j<b.length)(ha:b.all elF=true)(hl:b.length≤25):WkA (QRA k (goQ (elM b[j]) (coQ (ei (b.take j))))) (QRA 102426 (coQ (ei (b.take (j+1))))):=by
 rw [show goQ (elM b[j]) (coQ (ei (b.take j)))=coQ (ei (b.take (j+1))) from by rw [BN hj];rfl];have h:=Bt (io (oO ha (j+1) zo) (by omega:1+4097*(j+1)≤102426));exact br (.cons (F8 h.1) (.cons (F8 h.2.2.1) .nil))
theorem Mp {t:RTk}(h:ckF t=0)(hi:i<t.sp.length):elF (spE t.sp[i])=true:=by
 have h3:=Ls h hi;have h2:=qe.1 (ft h).2.1 _ (qg hi);unfold spcF at h2;simp only [qy,qN,qm] at h2;unfold elF spE;rw [ql];refine ⟨?_,?_⟩
 ·simp only [xH,xQ,xJ,ql];exact ⟨h3,by kernel_rfl⟩
 ·show elK 1 _ _=true;rw [kd1 (by rfl)];rw [ql];refine ⟨qG (show (toQ t.sp[i]).num.sign≥0 from by have:=h2.2;omega),by kernel_rfl⟩
theorem y5 {t:RTk}(h:ckF t=0)(hl:l.length+1=t.sp.length)(hp:∀ x∈l,x<t.ps.length):(benW t l).all elF=true:=by
 rw [qe];intro y hy;have key:∀ i,i<t.sp.length→elF (spE (t.sp.getD i rf0))=true:=λ i hi=>by
  rw [show t.sp.getD i rf0=t.sp[i] from by simp [List.getD,hi]];exact Mp h hi
 unfold benW at hy;rcases qo.1 hy with hy|hy
 ·unfold benP at hy;obtain ⟨i,hi,hy⟩:=jC.1 hy;have hi':i<l.length:=jR.1 hi;simp only [qr,zq,or_false] at hy;rcases hy with rfl|rfl
  ·exact key i zo
  ·refine dn_p h ?_;rw [show l.getD i 0=l[i] from by simp [List.getD,hi']];exact hp _ (qg hi')
 ·obtain rfl:=qn.1 hy;exact key _ zo
theorem Oj {t:RTk}(hc:ckF t=0){u:Ya}(hj:j<u.length)(hl:u.length≤12)(hp:∀ x∈u,x<t.ps.length)(hk:u[j]<t.ps.length):IntKind.i64.wrap (cosW t (u.take j)+t.ps[u[j]].c)=cosW t (u.take (j+1)):=by
 have e:cosW t (u.take (j+1))=cosW t (u.take j)+t.ps[u[j]].c:=by
  rw [qw hj,wP,show t.ps.getD u[j] ⟨⟨#[]⟩,⟨0,rf0,rf0⟩,0⟩=t.ps[u[j]] from by simp [List.getD,hk]]
 obtain ⟨h1,h2⟩:=wQ hc (l:=u.take (j+1)) λ x hx=>hp x (xj hx);have h3:(u.take (j+1)).length≤12:=by rw [ze];omega
 rw [← e];exact wi64 zo zo
abbrev WrI (q:Nat→Prop)(t:RTk)(u:List Nat):As:=cat [SlP q 3 [] ((u.map λ (k:Nat)=>(k:Int)).map InA),QA 110000 (powW t u),InA (cosW t u),QA 110000 (awaW t u)]
abbrev WrQ (x:WyQ):As:=cat [SlA 3 [] (x.l.map InA),QA 110000 x.pw,InA x.c,QA 110000 x.aw]
theorem wrI_q {q:Nat→Prop}{t:RTk}{u:Ya}:WkA (WrI q t u) (WrQ (wayW t u)):=br (.cons Mr (.cons (.refl _) (.cons (.refl _) (.cons (.refl _) .nil))))
theorem R8 {t:RTk}{u:Ya}(h:decide ((powW t u-toQ t.tg).num.sign<0)=true) : -(powW t u-toQ t.tg)=awaW t u:=by unfold awaW;rw [qC (qt h)]
theorem R9 {t:RTk}{u:Ya}(h:decide ((powW t u-toQ t.tg).num.sign<0)=false):powW t u-toQ t.tg=awaW t u:=by unfold awaW;rw [qz (qv h)]
set_option maxHeartbeats 2000000 in
theorem nZ {t:RTk}{u:Ya}(hc:ckF t=0)(hl:u.length+1=t.sp.length)(hp:∀ x∈u,x<t.ps.length):Cn Tryz.prog 30 [(TkA t).va,(SlA 3 [] (u.map λ (k:Nat)=>InA (k:Int))).va] ((SlA 76 [U32] ((benW t u).map REA)).va):=by
 obtain ⟨it,z,e1,e2,e3,e4,e5⟩:=y7;obtain ⟨hs2,hs13,hp1,hp64,htg⟩:=hd_b (ft hc).1;have h00:0<t.sp.length:=by omega
 have hu12:u.length≤12:=by omega
 refine Cn.intro Tryz.func30 G zk nq (zy [(0,(TkA t).va),(1,(SlA 3 [] (u.map λ (k:Nat)=>InA (k:Int))).va)] λ B w0 a U=>?_);refine qb<|zg [] S8 S0 RO U (zW 0 G (zE G aX)) (zz (Wc 1 4) S9 ?_);refine ztA<|zgA U4 [] (.adr 7 2 (.some 0) True::(Wd 8 [.v 5 _])) RV (zO 0 G cb (zL 0 0 0 G eY (zv G (bB du (bX λ _=>rfl) (vq 1 G) (aF 0 G) (bn h00)) (zv G (ao (vq 2 G) ax) (zQ G (nW _) (.o (vq 3 G)) (zv G (ur (l:=[_]) (xs:=[.tmp 11]) mx zk (n_ok zk) nq nq nq (.o (vq 4 G)) G G) (zA 5 G o0))))))) (zz Sq S9 λ a w U=>?_);have U:=U.wkG 2 rfl (uH (m:=9) (D:=[U32]) (λ A hA=>by obtain rfl:=qn.1 hA;rfl) (cO zk) nq);have U:=zn Sq S9 U;refine zt<|qb<|zg U6 [] U5 WZ U (zE G ab) (zz (Wf 1 4 5 6) S9 λ a w U=>?_);refine aa<|qk ?_;have U:=U.sel [0,3,2];refine wp_loop_ghost (λ n a w=>∃ j:Nat,n+j=u.length∧St B w0 39 [(1,(SlA 3 [] (u.map λ (k:Nat)=>InA (k:Int))).va),(6,In (j:Nat)),(5,OwnR w0.w.heap.size 76 9 [U32] ((benW t (u.take j)).map REA))] [⟨2,30,ptrH,TkA t⟩] a w) (u.length) ?_ ?_
 ·exact ⟨0,by omega,by rw [show u.take 0=[] from rfl,P3,show t.sp.getD 0 rf0=t.sp[0] from by simp [List.getD,h00]];exact U⟩
 intro n a w hI;obtain ⟨j,hn,U⟩:=hI;refine qb<|qb<|zg U6 [] (Ww 13) WV U (zM 1 G (zM 0 G (zv G (bg qE (vq 1 G)) (zv G (aN (vq 0 G) (vq 2 G)) o0)))) (zz (Wf 1 6 5 16) S9 λ a w U=>?_);refine zJ 3 U G (λ hb0=>?_) (λ hb0=>?_)
 ·have hj:j<u.length:=by rw [qc] at hb0;have:=qt hb0;omega
  have hkp:u[j]<t.ps.length:=hp _ (qg hj);have hpj:t.ps.getD u[j] ⟨⟨#[]⟩,⟨0,rf0,rf0⟩,0⟩=t.ps[u[j]]:=by simp [List.getD,hkp]
  have hsl:j+1<t.sp.length:=by omega
  have hsj:t.sp.getD (j+1) rf0=t.sp[j+1]:=by simp [List.getD,hsl]
  refine qj<|zt<|qk<|KP (sp:=[.v 19 _,.adr 20 2 (.some 1) True,.v 21 _,.v 22 _,.v 23 _,.v 24 _,.v 25 _,.v 26 _,.v 27 _,.v 28 _,.adr 29 2 (.some 0) True,.v 30 _,.v 31 _,.v 32 _,.v 33 _,.v 34 _,.v 35 _,.v 36 _,.v 37 VT,.v 5 VT]) [[],[],[1],[],[],[3,4],[3,4,5],[1,2,3,4,5,6],[1,2,3,4,5,6,7],[1,2,3,4,5,6,7,8],[],[10],[],[12],[10,11,12,13],[10,11,12,13,14],[10,11,12,13,14,15],[1,2,3,4,5,6,7,8,9,10,11,12,13,14,15,16],[0,1,2,3,4,5,6,7,8,9,10,11,12,13,14,15,16,17],[0,1,2,3,4,5,6,7,8,9,10,11,12,13,14,15,16,17,18]] 18 [0,1] 0 17 ac U (zM 2 rfl (zO 0 rfl bM (zL 1 0 1 rfl ec (zM 0 rfl (zM 1 rfl (zv rfl (bB dr (bX λ _=>rfl) (vq 3 rfl) (vq 4 rfl) (bn hj)) (zv rfl (ao (vq 5 rfl) ty_3) (zv rfl (bB fD (bX λ _=>rfl) (vq 2 rfl) (vq 6 rfl) (bn hkp)) (zv rfl (bK (vq 7 rfl) dZ (Sub.part 1 rfl rfl)) (zv rfl (ao (vq 8 rfl) dq) (zO 0 rfl cb (zL 10 0 0 rfl eY (zM 1 rfl (zv rfl (aL (vq 12 rfl) ab ((wi64 zo zo).trans (by omega:(_:Int)=((j+1:Nat):Int)))) (zv rfl (bB du (bX λ _=>rfl) (vq 11 rfl) (vq 13 rfl) (bn hsl)) (zv rfl (ao (vq 14 rfl) ax) (zQ rfl (nW _) (.o (vq 15 rfl)) (zv rfl (bR (D:=[U32]) (l:=[_,_]) (xs:=[.tmp 28,.tmp 35]) (cO zk) mx zk (n_ok zk) nq nq nq (.p (vq 9 rfl) (vq 16 rfl)) rfl rfl) o0)))))))))))))))))) rfl zk zk zk zk rfl rfl zd rfl zd rfl (λ _ _ h _=>h) zp e1 e2 e3 e4 e5 zd (by simp only [qc,ml,ze,zf,xo];omega) zd (λ T hT=>hT) zd (λ A hA=>by simp only [qr,zq,or_false] at hA;rcases hA with rfl|rfl <;> rfl) zk nq nq zk zk (zz (Wa 5 1 6) S9 λ a w U=>?_);refine ak ?_;refine aa<|zg U6 [] (W6 17 [.v 6 _]) U1 U (zM 2 G (zv G (aL (vq 0 G) ab ((wi64 zo zo).trans (by omega:(_:Int)=((j+1:Nat):Int)))) (zA 1 G o0))) (zz (Wa 5 1 6) S9 λ a w U=>?_);refine aa ?_;have U:=U.sel [1,2,0];exact ⟨n-1,by omega,j+1,by omega,by rw [I2 hj,zw,hpj,hsj];exact U⟩
 ·obtain rfl:j=u.length:=by rw [qc] at hb0;have:=qv hb0;omega
  refine qL<|ai<|ai<|az<|zt<|zg U6 [] [.v 38 _,.v 4 _] [.g 2,.o 1] U (zM 2 G (zA 0 G o0)) (zz (Wc 5 4) S9 λ a w U=>?_);refine aa<|qh<|al ?_ (am G U (zm 1 G));rw [qH];exact gI
theorem BD {m:MQ}{r:YQ}(hk:c+d≤200000000):Cn Tryz.prog 129 [(QMA c m).va,(QRA d r).va] ((QRA (c+d+(c+d)+1) (goQ m r)).va):=by
 refine Cn.intro Tryz.func129 G zk nq (zy [(0,(QMA c m).va),(1,(QRA d r).va)] λ B w0 a U=>?_);refine qb<|zg [] [zpL 2 131 0 _,zpL 3 124 1 _,zpL 4 124 2 _] Um [] U (zW 0 G (zW 1 G (zY G (Str.zero l5) o0))) (zz [] [O 2 131 _,O 3 124 _,O 4 124 _] λ a w U=>?_);refine zt<|zgd [[],[0],[],[2],[],[4],[],[6],(Wm 8),[],[9],[],[11],[],[13],[],[15],(Wm 17),(Wm 18),(Wm 19)] [none,none,some (19,_)] [] (.adr 5 2 (.some 0) True::.v 6 _::.adr 7 3 (.some 0) True::.v 8 _::.adr 9 2 (.some 4) True::.v 10 _::.adr 11 3 (.some 4) True::(W6 12 (.adr 14 2 (.some 8) True::.v 15 _::.adr 16 3 (.some 0) True::.v 17 _::.adr 18 2 (.some 12) True::.v 19 _::.adr 20 3 (.some 4) True::(Wb 21 [.sto 2])))) [] ac U (zO 0 G sb (zL 0 0 0 G ax (zO 1 G cF (zL 2 1 0 G ax (zO 0 G sa (zL 4 0 1 G ax (zO 1 G cA (zL 6 1 1 G ax (zQ G (ut zo) (.cons (vq 1 G) (.cons (vq 3 G) (.p (vq 5 G) (vq 7 G)))) (zO 0 G s9 (zL 9 0 2 G ax (zO 1 G cF (zL 11 1 0 G ax (zO 0 G s7 (zL 13 0 3 G ax (zO 1 G cA (zL 15 1 1 G ax (zQ G (ut zo) (.cons (vq 10 G) (.cons (vq 12 G) (.p (vq 14 G) (vq 16 G)))) (zv G (aT (qs:=[(0,_),(1,_)]) l5 (.cons ⟨rfl,vq 8 rfl,rfl⟩ (.cons ⟨rfl,vq 17 rfl,rfl⟩ .nil))) (zS 18 G ia o0)))))))))))))))))))) zk zk zk zk (zz [] [O 2 131 _,O 3 124 _,O 4 124 _] λ a w U=>?_);refine aa<|qh<|al ?_ (au G U (zm 2 G) ia);exact aG
theorem JW {b B E m:Nat}{c:Ym}(h:(EqA (.slice none 0 0)).p B c w):(OwG b E m D []).p B c w:=by
 obtain ⟨rfl,_⟩:=h;exact ⟨_,rfl,mJ B _ w rfl⟩
theorem Ml {u:Ya}(hj:j<u.length):(u.take (j+1)).map (λ (k:Nat)=>InA k)=((u.take j).map λ (k:Nat)=>InA k)++[InA ((u[j]:Nat):Int)]:=by
 rw [qw hj,zw];rfl
set_option maxHeartbeats 2000000 in
theorem BH {t:RTk}{u:Ya}(hc:ckF t=0)(hl:u.length+1=t.sp.length)(hp:∀ x∈u,x<t.ps.length):CnI Tryz.prog 34 [(TkA t).va,(SlA 3 [] (u.map λ (k:Nat)=>InA (k:Int))).va] (λ b=>(WrI (λ g=>b≤g) t u).va):=by
 obtain ⟨it,i1,i2,i3,i4⟩:=Ku;obtain ⟨hs2,hs13,hp1,hp64,htg⟩:=hd_b (ft hc).1;have h00:0<t.sp.length:=by omega
 have hu12:u.length≤12:=by omega
 have hall:=y5 hc hl hp;have hbl:(benW t u).length≤25:=by rw [ml];omega
 refine CnI.introF Tryz.func34 G zk nq (λ B w0 a hF0 hF U=>?_);have U:=zn [(0,(TkA t).va),(1,(SlA 3 [] (u.map λ (k:Nat)=>InA (k:Int))).va)] [] U;obtain ⟨v1,hv1,U⟩:=U.eqv 1 rfl;refine qb<|zg [] [zpL 2 30 0 _,zpL 4 89 1 _] UU [.g 1] U (zW 0 G (zY G (Str.zero oD) o0)) (zz [(1,_)] [O 2 30 _,O 4 89 _] ?_);refine ztA<|zgA UF [⟨5,124,ptrH,some 3,_,some (4,_)⟩] (Wb 10 [.alc 2,.sto 2]) UL (zQ G gO .nil (zQ G d5 .nil (zv G (aT (qs:=[(0,_),(1,_)]) l5 (.cons ⟨rfl,vq 0 rfl,rfl⟩ (.cons ⟨rfl,vq 1 rfl,rfl⟩ .nil))) (zY G (Str.zero l5) (zS 2 G ia o0))))) (zz [(1,_)] Sv λ a w U=>?_);have U:=St.wkL (A':=QRA 102426 (coQ (ei ((benW t u).take 0)))) U 2 rfl (br (.cons (cc zd) (.cons (cc zd) .nil)));have U:=zn [(1,_)] Sv U;refine zt<|zg US [] (Wb 13 [.v 6 _]) RS U (zl 0 G cp (zM 0 G (zQ G (nZ hc hl hp) (.p (vq 0 G) (aV hF hv1 (vq 1 G))) (zA 2 G o0)))) (zz (Wc 1 6) Sv ?_);refine ztA<|zsA<|zgA Uo [] [.v 7 _] WS (zE G ab) (zz (Wa 1 6 7) Sv λ a w U=>?_);refine aa<|qk ?_;have U:=U.sel [0,1,2];refine wp_loop_ghost (λ n a w=>∃ j:Nat,n+j=(benW t u).length∧St B w0 76 [(1,EqV v1),(6,(SlA 76 [U32] ((benW t u).map REA)).va),(7,In (j:Nat))] [⟨2,30,ptrH,TkA t⟩,⟨4,89,ptrH,cat [EqA (.slice none 0 0),RFA rf0,NumA .i64 0,RFA rf0]⟩,⟨5,124,ptrH,QRA 102426 (coQ (ei ((benW t u).take j)))⟩] a w) ((benW t u).length) ?_ ?_
 ·exact ⟨0,by omega,U⟩
 intro n a w hI;obtain ⟨j,hn,U⟩:=hI;refine qb<|qb<|zg US [] (Ww 16) WV U (zM 2 G (zM 1 G (zv G (bg zp (vq 1 G)) (zv G (aN (vq 0 G) (vq 2 G)) o0)))) (zz (Wf 1 6 7 19) Sv λ a w U=>?_);refine zJ 3 U G (λ hb0=>?_) (λ hb0=>?_)
 ·have hj:j<(benW t u).length:=by rw [qc] at hb0;have:=qt hb0;omega
  refine qj<|zt<|qk<|zgd [[],[],[0,1],[0,1,2],(Wm 4),[],(Wm 6),(Wm 7)] [none,none,some (7,_)] [] (WG 22 [.sto 2]) W7 ac U (zM 1 G (zM 2 G (zv G (bB mx (bX λ _=>rfl) (vq 0 G) (vq 1 G) (bn hj)) (zv G (ao (vq 2 G) dq) (zQ G (Jr (qe.1 hall _ (qg hj))) (.o (vq 3 G)) (zl 2 G ia (zQ G (BD (c:=4099) (d:=102426) (m:=elM (benW t u)[j]) (r:=coQ (ei ((benW t u).take j))) zd) (.p (vq 4 G) (vq 5 G)) (zS 6 G ia o0)))))))) zk zk zk zk (zz (Wa 1 6 7) Sv λ a w U=>?_);have U:=U.wkL 2 rfl (QQ hj hall hbl);have U:=zn (Wa 1 6 7) Sv U;refine ak ?_;refine aa<|zg US [] (W6 20 [.v 7 _]) U1 U (zM 2 G (zv G (aL (vq 0 G) ab ((wi64 zo zo).trans (by omega:(_:Int)=((j+1:Nat):Int)))) (zA 1 G o0))) (zz (Wa 1 6 7) Sv λ a w U=>?_);refine aa ?_;have U:=U.sel [0,1,2];exact ⟨n-1,by omega,j+1,by omega,U⟩
 ·obtain rfl:j=(benW t u).length:=by rw [qc] at hb0;have:=qv hb0;omega
  rw [qH] at U;refine qL<|ai<|ai<|az<|zt<|zg US [⟨8,89,ptrH,some 4,_,some (5,_)⟩] (.adr 29 5 (.some 4) True::(Wb 30 [.alc 3,.sto 3])) UL U (zO 2 G cA (zL 0 2 1 G ax (zQ G (lg zd) (.o (vq 1 G)) (zv G (aT (qs:=[(1,_)]) oD (.cons ⟨rfl,vq 2 rfl,rfl⟩ .nil)) (zY G (Str.zero oD) (zS 3 G sH o0)))))) (zz [(1,_)] [O 2 30 _,O 4 89 _,O 5 124 _,O 8 89 _] λ a w U=>?_);have U:=U.selL [0,1,3];have U:=zn [(1,_)] Sw U;have U:=St.wkB (A':=cat [OwG w0.w.heap.size 3 1 [] ((u.take 0).map λ (k:Nat)=>InA k),QA 102426 (powW t u),InA (cosW t (u.take 0)),RFA rf0]) U 2 rfl (λ cs hp=>wW (f:=0) (A:=EqA (.slice none 0 0)) rfl (λ c h=>JW h) (λ _ _ _ h=>h) hp);have U:=zn [(1,_)] Sw U;refine zt<|qb<|zg US [] [.v 9 _] Rk U (zE G ab) (zz (Wc 1 9) Sw λ a w U=>?_);refine aa<|qk ?_;have U:=U.sel [0,1];refine wp_loop_ghost (λ n a w=>∃ j:Nat,n+j=u.length∧St B w0 76 [(1,EqV v1),(9,In (j:Nat))] [⟨2,30,ptrH,TkA t⟩,⟨4,89,ptrH,cat [EqA (.slice none 0 0),RFA rf0,NumA .i64 0,RFA rf0]⟩,⟨8,89,ptrH,cat [OwG w0.w.heap.size 3 1 [] ((u.take j).map λ (k:Nat)=>InA k),QA 102426 (powW t u),InA (cosW t (u.take j)),RFA rf0]⟩] a w) (u.length) ?_ ?_
  ·exact ⟨0,by omega,U⟩
  intro n a w hI;obtain ⟨j,hn,U⟩:=hI;refine qb<|qb<|zg US [] (Ww 33) (We [.o 3]) U (zM 1 G (zM 0 G (zv G (bg qE (aV hF hv1 (vq 1 G))) (zv G (aN (vq 0 G) (vq 2 G)) o0)))) (zz (Wa 1 9 36) Sw λ a w U=>?_);refine zJ 2 U G (λ hb1=>?_) (λ hb1=>?_)
  ·have hj:j<u.length:=by rw [qc] at hb1;have:=qt hb1;omega
   have hkp:u[j]<t.ps.length:=hp _ (qg hj);have hpj:t.ps.getD u[j] ⟨⟨#[]⟩,⟨0,rf0,rf0⟩,0⟩=t.ps[u[j]]:=by simp [List.getD,hkp]
   have hsl:j+1<t.sp.length:=by omega
   have hsj:t.sp.getD (j+1) rf0=t.sp[j+1]:=by simp [List.getD,hsl]
   refine qj<|zt<|qk<|qb ?_;obtain ⟨⟨v8,d8⟩,U⟩:=U.nameFG 2 0 rfl rfl;have U:=zn (Wa 1 9 36) Sw U;obtain ⟨g8,U⟩:=U.nm 2 rfl;have U:=zn (Wf 8 1 9 36) Sw U;refine iE (sp:=[.adr 39 8 (.some 0) True,.v 40 _,.v 41 _,.v 42 _,.v 43 _,.v 44 _,.v 45 _,.v 46 VT,.v 47 VT,.sto 0]) [[],[0],[],[],[2,3],[2,3,4],[2,3,4,5],[0,1,2,3,4,5,6],[0,1,2,3,4,5,6,7],[0,1,2,3,4,5,6,7,8]] 7 3 0 9 OneC [.g 0,.g 1,.g 2,.o 1,.o 6] ac U (zO 2 G fm (zL 0 2 0 G eJ (zM 1 G (zM 2 G (zv G (bB dr (bX λ _=>rfl) (aV hF hv1 (vq 2 G)) (vq 3 G) (bn hj)) (zv G (ao (vq 4 G) ty_3) (zv G (bR (D:=[]) (l:=[_]) (xs:=[.tmp 44]) (cO zk) dr zk (n_ok zk) nq nq nq (.o (vq 5 G)) G G) o0))))))) G zd zd zk (fx zk) zk zk (zz (W8 8 1 9 40 45) Sw λ a w U=>?_);rw [show List.range' 7 3=[7,8,9] from rfl];have U:=U.wkG 3 rfl JE;have U:=zn (W8 8 1 9 40 45) Sw U;rw [qx];refine Fh U.bt26 (qi _) (f:=0) (m:=1) (X:=InA ((u[j]:Nat):Int)) [0,1,2] 3 4 2 G U G G G (t5 (A:=InA ((u[j]:Nat):Int)) zk) G G zk zd zd (EQ G) qE i1 i2 i3 i4 (by rfl) zd (by rw [qc,ze];omega) (by rw [qc,ze];omega) zd zk zk zk zk (λ v' w o1 o2 U=>?_);rw [qx];refine fK 1 G U fm G zd zk zk (λ a U=>?_);rw [qx];refine gQ (A1:=cat [OwG w0.w.heap.size 3 1 [] ((u.take (j+1)).map λ (k:Nat)=>InA k),QA 102426 (powW t u),InA (cosW t (u.take j)),RFA rf0]) [3,4] 0 1 2 2 rfl U rfl rfl rfl o1 o2 eJ rfl zk zk zk (λ cs hp=>by have h:=FQ (f:=0) rfl rfl hp;rw [Ml hj];exact h) (λ w U=>?_);refine Ea ?_;have U:=zn (Wc 1 9) Sw U;refine aa<|zgd [[],[0],[],[2],[],[],[4,5],[4,5,6],[2,3,4,5,6,7],[2,3,4,5,6,7,8],[2,3,4,5,6,7,8,9],(Wm 11),(Wm 12),(Wm 13)] [none,none,some (13,_)] [] (.adr 48 8 (.some 5) True::.v 49 _::.adr 50 2 (.some 1) True::(Wo 51 [.adr 60 8 (.some 5) True,.sto 2])) We ac U (zO 2 G gp (zL 0 2 2 G ty_3 (zO 0 G bM (zL 2 0 1 G ec (zM 0 G (zM 1 G (zv G (bB dr (bX λ _=>rfl) (aV hF hv1 (vq 4 G)) (vq 5 G) (bn hj)) (zv G (ao (vq 6 G) ty_3) (zv G (bB fD (bX λ _=>rfl) (vq 3 G) (vq 7 G) (bn hkp)) (zv G (bK (vq 8 G) dG (Sub.part 2 G G)) (zv G (ao (vq 9 G) ty_3) (zv G (aL (vq 1 G) (vq 10 G) ((Oj hc hj hu12 hp hkp))) (zO 2 G gp (oc (df 12 G G G G zk (vq 11 G) ty_3 (Put.part 2 G G G)) o0)))))))))))))) zk zk zk zk (zz (Wc 1 9) Sw λ a w U=>?_);refine ak ?_;refine aa<|zg US [] (W6 37 [.v 9 _]) Ui U (zM 1 G (zv G (aL (vq 0 G) ab ((wi64 zo zo).trans (by omega:(_:Int)=((j+1:Nat):Int)))) (zA 1 G o0))) (zz (Wc 1 9) Sw λ a w U=>?_);refine aa ?_;have U:=U.sel [0,1];exact ⟨n-1,by omega,j+1,by omega,U⟩
  ·obtain rfl:j=u.length:=by rw [qc] at hb1;have:=qv hb1;omega
   rw [qH] at U;refine qL<|ai<|ai<|az<|zt ?_;have U:=St.wkB (A':=cat [SlP (λ g=>w0.w.heap.size≤g) 3 [] ((u.map λ (k:Nat)=>(k:Int)).map InA),QA 102426 (powW t u),InA (cosW t u),RFA rf0]) U 2 rfl (λ cs hp=>wW (f:=0) (A:=OwG w0.w.heap.size 3 1 [] (u.map λ (k:Nat)=>InA k)) rfl (λ c h=>Q5 U.bt26 h) (λ _ _ _ h=>h) hp);have U:=zn (Wa 1 9 36) Sw U;refine zg [η,η,some (6,_)] [] (.adr 61 8 (.some 1) True::.v 62 _::.adr 63 2 (.some 2) True::(W6 64 [.adr 66 8 (.some 6) True,.sto 2])) [] U (zO 2 G FV (zL 0 2 1 G ax (zO 0 G eB (zL 2 0 2 G ax (zQ G ((rE (c:=102426) (d:=2048) zd).wk (.cons aG (.cons (qa_x htg (qi _)).va .nil))) (.p (vq 1 G) (vq 3 G)) (zO 2 G gn (oc (df 5 G G G G zk (vq 4 G) ax (Put.part 3 G G G)) o0))))))) (zz [] Sw ?_);refine ztA<|zsA<|zgA Uo [] (.adr 67 8 (.some 6) True::(Wb 68)) UJ (zO 2 G gn (zL 0 2 3 G ax (zQ G r2sign_q (.o (vq 1 G)) (zv G (aN (vq 2 G) ab) o0)))) (zz [(70,_)] Sw λ a w U=>?_);refine zJ 0 U G (λ hb2=>?_) (λ hb2=>?_)
   ·refine zg [η,η,some (4,_)] [] (.adr 71 8 (.some 6) True::(W6 72 [.adr 74 8 (.some 6) True,.sto 2])) [] U (zO 2 G gn (zL 0 2 3 G ax (zQ G (lg zd) (.o (vq 1 G)) (zO 2 G gn (oc (df 3 G G G G zk (vq 2 G) ax (Put.part 3 G G G)) o0))))) (zz [] Sw ?_);refine ztA<|zgA [none,some (1,_),none] [] [.v 75 _,.sto 1] [] (zl 2 G sH (zS 0 G sH o0)) (zz [] Sw λ a w U=>?_);refine aa<|qh<|al ?_ (au G U (zm 1 G) sH);rw [R8 hb2];exact (br (.cons (.refl _) (.cons (cc zd) (.cons (.refl _) (.cons (cc zd) .nil))))).va
   ·refine qj<|zt<|zg [η,some (1,_),η] [] [.v 75 _,.sto 1] [] U (zl 2 G sH (zS 0 G sH o0)) (zz [] Sw λ a w U=>?_);refine aa<|qh<|al ?_ (au G U (zm 1 G) sH);rw [R9 hb2];exact (br (.cons (.refl _) (.cons (cc zd) (.cons (.refl _) (.cons (cc zd) .nil))))).va
theorem uu {t:RTk}{u:Ya}(hc:ckF t=0)(hl:u.length+1=t.sp.length)(hp:∀ x∈u,x<t.ps.length):Cn Tryz.prog 34 [(TkA t).va,(SlA 3 [] (u.map λ (k:Nat)=>InA (k:Int))).va] (WrQ (wayW t u)).va:=(BH hc hl hp).cn λ b=>wrI_q.va
theorem R1 {x y:Int}:decide (x<y)=decide (cmp1 x y<0):=by
 unfold cmp1;by_cases h:x<y
 ·simp [h]
 ·by_cases h2:x>y
  ·simp [h,h2]
  ·simp [h,h2]
theorem QZ {x y:Int}(h:(x != y)=true):cmp1 x y≠0:=by
 have h:x≠y:=by simpa using h
 unfold cmp1;by_cases h1:x<y
 ·simp [h1]
 ·rw [qz h1,qC zo];decide
theorem R2 {x y:Int}(h:(x != y)=false):cmp1 x y=0:=by
 have h:x=y:=by simpa using h
 subst h;unfold cmp1;rw [qz zo,qz zo]
theorem OP {x y:WyQ}(hl:x.l.length=y.l.length)(h:cmpL x.l y.l=cmpL (x.l.drop x.l.length) (y.l.drop x.l.length)):false=decide (cmpL x.l y.l<0):=by
 rw [h,pS,qz zo];rfl
theorem sV (x y:WyQ)(hl:x.l.length=y.l.length)(hx:x.l.length≤1000):Cn Tryz.prog 33 [(WrQ x).va,(WrQ y).va] (Bo (betF x y)):=by
 refine Cn.intro Tryz.func33 G zk nq (zy [(0,(WrQ x).va),(1,(WrQ y).va)] λ B w0 a U=>?_);refine qb<|zg [] [zpL 2 89 0 _,zpL 3 89 1 _] UC Ud U (zW 0 G (zW 1 G (zE G aE))) (zz U3 Sx ?_);refine ztA<|zgA UF [] (.adr 7 2 (.some 6) True::.v 8 _::.adr 9 3 (.some 6) True::(W6 10 [.v 5 _])) [.g 0,.o 5] (zO 0 G gn (zL 0 0 3 G ax (zO 1 G gn (zL 2 1 3 G ax (zQ G (Jq zd) (.p (vq 1 G) (vq 3 G)) (zA 4 G o0)))))) (zz (Wc 4 5) Sx ?_);refine ztA<|zsA<|zgA UF [] (W6 12) UI (zM 1 G (zv G (ca (vq 0 G) ab) o0)) (zz (Wa 4 5 13) Sx λ a w U=>?_);refine zJ 2 U G (λ hb0=>?_) (λ hb0=>?_)
 ·refine qb<|zg UH [] (W6 14 [.v 4 _]) Ud U (zM 1 G (zv G (aN (vq 0 G) ab) (zA 1 G o0))) (zz U3 Sx λ a w U=>?_);refine aa<|qh<|aj ?_;refine al ?_ (am G U (zm 0 G));rw [betF,qC hb0];exact aG
 ·refine qj<|zt<|qb<|zg UH [] (.adr 16 2 (.some 5) True::.v 17 _::.adr 18 3 (.some 5) True::(W6 19)) Uz U (zO 0 G gp (zL 0 0 2 G ty_3 (zO 1 G gp (zL 2 1 2 G ty_3 (zv G (ca (vq 1 G) (vq 3 G)) o0))))) (zz (Wc 4 20) Sx λ a w U=>?_);refine zJ 1 U G (λ hb1=>?_) (λ hb1=>?_)
  ·refine qb<|zg UH [] (.adr 21 2 (.some 5) True::.v 22 _::.adr 23 3 (.some 5) True::(W6 24 [.v 4 _])) [.o 5] U (zO 0 G gp (zL 0 0 2 G ty_3 (zO 1 G gp (zL 2 1 2 G ty_3 (zv G (aN (vq 1 G) (vq 3 G)) (zA 4 G o0)))))) (zz U3 Sx λ a w U=>?_);refine aa<|qh<|aj ?_;refine al ?_ (am G U (zm 0 G));rw [betF,qz (by rw [hb0];decide),qC hb1];exact aG
  ·refine qj<|zt<|qb<|zg UH [] U5 Rk U (zE G ab) (zz (Wc 4 6) Sx λ a w U=>?_);refine aa<|qk ?_;have U:=U.sel [1];refine wp_loop_ghost (λ n a w=>∃ j:Nat,(n+j=x.l.length∧cmpL x.l y.l=cmpL (x.l.drop j) (y.l.drop j))∧St B w0 55 [(6,In (j:Nat))] [⟨2,89,ptrH,WrQ x⟩,⟨3,89,ptrH,WrQ y⟩] a w) (x.l.length) ?_ ?_
   ·exact ⟨0,⟨by omega,rfl⟩,U⟩
   intro n a w hI;obtain ⟨j,⟨hn,hno⟩,U⟩:=hI;refine qb<|qb<|zg UH [] (.v 26 _::.adr 27 2 (.some 0) True::(Wb 28)) Uz U (zM 0 G (zO 0 G fm (zL 1 0 0 G eJ (zv G (bg qE (vq 2 G)) (zv G (aN (vq 0 G) (vq 3 G)) o0))))) (zz (Wc 6 30) Sx λ a w U=>?_);refine zJ 1 U G (λ hb2=>?_) (λ hb2=>?_)
   ·have hj:j<x.l.length:=by rw [qc] at hb2;have:=qt hb2;omega
    have hjy:j<y.l.length:=by omega
    refine qj<|zt<|qk<|qb<|zgd [[],[0],[],[0,1,2],(Wm 4),[],[5],[],[5,6,7],[5,6,7,8],(Wm 10)] UF [] (.adr 33 2 (.some 0) True::(Ww 34 (.adr 38 3 (.some 0) True::(Wd 39)))) [.g 0,.o 10] ac U (zO 0 G fm (zL 0 0 0 G eJ (zM 0 G (zv G (bB dr (bX λ _=>rfl) (vq 1 G) (vq 2 G) (bn hj)) (zv G (ao (vq 3 G) ty_3) (zO 1 G fm (zL 5 1 0 G eJ (zM 0 G (zv G (bB dr (bX λ _=>rfl) (vq 6 G) (vq 7 G) (bn hjy)) (zv G (ao (vq 8 G) ty_3) (zv G (ca (vq 4 G) (vq 9 G)) o0))))))))))) zk zk zk zk (zz (Wc 6 43) Sx λ a w U=>?_);refine zJ 1 U G (λ hb3=>?_) (λ hb3=>?_)
    ·refine qb<|zgd [[],[0],[],[0,1,2],(Wm 4),[],[5],[],[5,6,7],[5,6,7,8],(Wm 10),(Wm 11)] UF [] (.adr 44 2 (.some 0) True::(Ww 45 (.adr 49 3 (.some 0) True::(Wd 50 [.v 4 _])))) [.g 0,.o 11] ac U (zO 0 G fm (zL 0 0 0 G eJ (zM 0 G (zv G (bB dr (bX λ _=>rfl) (vq 1 G) (vq 2 G) (bn hj)) (zv G (ao (vq 3 G) ty_3) (zO 1 G fm (zL 5 1 0 G eJ (zM 0 G (zv G (bB dr (bX λ _=>rfl) (vq 6 G) (vq 7 G) (bn hjy)) (zv G (ao (vq 8 G) ty_3) (zv G (aN (vq 4 G) (vq 9 G)) (zA 10 G o0)))))))))))) zk zk zk zk (zz (Wc 6 4) Sx λ a w U=>?_);refine aa<|qh<|aD ?_;refine aj ?_;refine aj ?_;refine aD ?_;refine aj ?_;refine al ?_ (am G U (zm 1 G));rw [betF,qz (by rw [hb0];decide),qz (by rw [hb1];decide),hno,DG hj hjy (QZ hb3),← R1];exact aG
    ·refine qj<|ak ?_;refine aa<|zg UH [] (W6 31 [.v 6 _]) Ud U (zM 0 G (zv G (aL (vq 0 G) ab ((wi64 zo zo).trans (by omega:(_:Int)=((j+1:Nat):Int)))) (zA 1 G o0))) (zz [(6,_)] Sx λ a w U=>?_);refine aa ?_;have U:=U.sel [0];exact ⟨n-1,by omega,j+1,⟨by omega,hno.trans (DH hj hjy (R2 hb3))⟩,U⟩
   ·obtain rfl:j=x.l.length:=by rw [qc] at hb2;have:=qv hb2;omega
    refine qL<|ai<|ai<|az<|zt<|zg UH [] WR U2 U (zE G aE) (zz U3 Sx λ a w U=>?_);refine aa<|qh<|al ?_ (am G U (zm 0 G));rw [betF,qz (by rw [hb0];decide),qz (by rw [hb1];decide),← OP hl hno];exact aG
theorem yv (t:RTk)(xs:Yl):Cn Tryz.prog 9 [(TkA t).va,(SlA 3 [] (xs.map InA)).va] (Tu [(SlA 76 [U32] ((bnF t xs).1.map REA)).va,In (bnF t xs).2]):=by
 refine Cn.intro Tryz.func9 G zk nq (zy [(0,(TkA t).va),(1,(SlA 3 [] (xs.map InA)).va)] λ B w0 a U=>?_);refine qb<|zg [] S8 (.alc 0::(W6 4)) [.g 1,.o 1,.o 2] U (zW 0 G (zv G (aR aX) (zE G ab))) (zz Sq S9 ?_);refine ztA<|zgA U4 [] (W6 7 [.v 6 _]) UG (zl 0 G cp (zQ G (nY t) (.o (vq 0 G)) (zA 1 G o0))) (zz (Wf 1 4 5 6) S9 ?_);refine ztA<|zsA<|zgA U4 [] (W6 9) Rh (zM 3 G (zv G (ca (vq 0 G) ab) o0)) (zz (W8 1 4 5 6 10) S9 λ a w U=>?_);refine zJ 4 U G (λ hb0=>?_) (λ hb0=>?_)
 ·refine qb<|zg U6 [] (.v 11 _::(W6 4)) [.g 0,.o 1,.o 2] U (zM 3 G (zv G (aR aX) (zA 0 G o0))) (zz Sq S9 λ a w U=>?_);refine aa<|qh<|aj ?_;refine al ?_ (aP (rs:=[.tmp 4,.tmp 5]) G U (.tmp (zm 1 G) (.tmp (zm 2 G) .nil)) zd);rw [show bnF t xs=([],ckF t) from qC hb0];exact tu2w uF aG
 ·have hck:ckF t=0:=by simpa using hb0
  obtain ⟨hs2,hs13,hp1,hp64,htg⟩:=hd_b (ft hck).1;obtain ⟨nn,hnn⟩:∃ nn,t.sp.length=nn+1:=⟨t.sp.length-1,by omega⟩;have hn12:nn≤12:=by omega
  refine qj<|zt<|qb<|zg U6 [] (Ww 12) WV U (zl 0 G cp (zM 0 G (zQ G (li t xs) (.p (vq 0 G) (vq 1 G)) (zv G (dc (vq 2 G)) o0)))) (zz (Wf 1 4 5 15) S9 λ a w U=>?_);refine zJ 3 U G (λ hb1=>?_) (λ hb1=>?_)
  ·refine qb<|zg U6 [] (W6 4) [.g 0,.o 0,.o 1] U (zv G (aR aX) (zE G ab)) (zz Sq S9 λ a w U=>?_);refine aa<|qh<|aj ?_;refine al ?_ (aP (rs:=[.tmp 4,.tmp 5]) G U (.tmp (zm 1 G) (.tmp (zm 2 G) .nil)) zd);have e:bnF t xs=([],1):=by rw [bnF,qz (by rw [hb0];decide),qC hb1]
   rw [e];exact tu2w uF aG
  ·obtain ⟨hxe1,hxl1,hxp1⟩:=mm (by simpa using hb1) hnn hn12;obtain ⟨u1,hu1⟩:∃ l,natL xs=l:=⟨_,rfl⟩;rw [hu1] at hxe1 hxl1 hxp1;refine qj<|zt<|zg U6 [] (Wb 16 (W6 4)) [.o 3,.o 4] U (zl 0 G cp (zM 0 G (zQ G ((nZ hck zo hxp1).wk (.cons aG (.cons (ba (qp As.va (oF hxe1))) .nil))) (.p (vq 0 G) (vq 1 G)) (zA 2 G (zE G ab))))) (zz (Wc 4 5) S9 λ a w U=>?_);refine aa<|qh<|al ?_ (aP (rs:=[.tmp 4,.tmp 5]) G U (.tmp (zm 0 G) (.tmp (zm 1 G) .nil)) zd);have e:bnF t xs=(benW t u1,0):=by rw [bnF,qz (by rw [hb0];decide),qz (by rw [hb1];decide),hu1]
   rw [e];exact tu2w aG aG
theorem M7 (p q:Bool):(!p || !q) = !(p&&q):=by cases p <;> cases q <;> rfl
theorem sB (t:RTk)(u:Ya):(wayW t u).l.length=u.length:=qc _
theorem sW (t:RTk)(xs ys:Yl):Cn Tryz.prog 11 [(TkA t).va,(SlA 3 [] (xs.map InA)).va,(SlA 3 [] (ys.map InA)).va] (Tu [Bo (btF t xs ys).1,In (btF t xs ys).2]):=by
 refine Cn.intro Tryz.func11 G zk nq (zy [(0,(TkA t).va),(1,(SlA 3 [] (xs.map InA)).va),(2,(SlA 3 [] (ys.map InA)).va)] λ B w0 a U=>?_);refine qb<|zg [] [zpL 3 30 0 _] (.alc 0::(W6 6)) [.g 1,.g 2,.o 1,.o 2] U (zW 0 G (zv G (aR aE) (zE G ab))) (zz (Wf 1 2 6 7) Sd ?_);refine ztA<|zgA U4 [] (W6 9 [.v 8 _]) RZ (zl 0 G cp (zQ G (nY t) (.o (vq 0 G)) (zA 1 G o0))) (zz (W8 1 2 6 7 8) Sd ?_);refine ztA<|zsA<|zgA U4 [] (W6 11) U8 (zM 4 G (zv G (ca (vq 0 G) ab) o0)) (zz (Wj 1 2 6 7 8 12) Sd λ a w U=>?_);refine zJ 5 U G (λ hb0=>?_) (λ hb0=>?_)
 ·refine qb<|zg U6 [] (.v 13 _::(W6 6)) (We [.o 1,.o 2]) U (zM 4 G (zv G (aR aE) (zA 0 G o0))) (zz (Wf 1 2 6 7) Sd λ a w U=>?_);refine aa<|qh<|aj ?_;refine al ?_ (aP (rs:=[.tmp 6,.tmp 7]) G U (.tmp (zm 2 G) (.tmp (zm 3 G) .nil)) zd);rw [show btF t xs ys=(false,ckF t) from qC hb0];exact tu2w aG aG
 ·have hck:ckF t=0:=by simpa using hb0
  obtain ⟨hs2,hs13,hp1,hp64,htg⟩:=hd_b (ft hck).1;obtain ⟨nn,hnn⟩:∃ nn,t.sp.length=nn+1:=⟨t.sp.length-1,by omega⟩;have hn12:nn≤12:=by omega
  refine qj<|zt<|qb<|zg U6 [] (Wd 14 [.f 19 _,.f 20 _,.f 21 _,.f 22 _,.v 23 _]) (Wp [.o 9]) U (zl 0 G cp (zM 0 G (zQ G (li t xs) (.p (vq 0 G) (vq 1 G)) (zv G (dc (vq 2 G)) (zV 3 G (zB 4 G (λ hg=>eL (lz0 0 G) cp) (zB 4 G (λ hg=>aq (gq 1 G)) (zB 4 G (λ hg=>be (li t ys) (.p (ae (vq 5 G) hg) (ae (vq 6 G) hg))) (zB 4 G (λ hg=>dc (ae (vq 7 G) hg)) (zv G (r_or (vq 4 G) (vq 8 G)) o0)))))))))) (zz (W8 1 2 6 7 23) Sd λ a w U=>?_);refine zJ 4 U G (λ hb1=>?_) (λ hb1=>?_)
  ·rw [M7] at hb1;have hw:(whF t xs&&whF t ys)=false:=by rw [qy] at hb1;exact hb1
   refine qb<|zg U6 [] (W6 6) Ro U (zv G (aR aE) (zE G ab)) (zz (Wf 1 2 6 7) Sd λ a w U=>?_);refine aa<|qh<|aj ?_;refine al ?_ (aP (rs:=[.tmp 6,.tmp 7]) G U (.tmp (zm 2 G) (.tmp (zm 3 G) .nil)) zd);have e:btF t xs ys=(false,1):=by rw [btF,qz (by rw [hb0];decide),qz (by rw [hw];decide)]
   rw [e];exact tu2w aG aG
  ·rw [M7] at hb1;have hw:(whF t xs&&whF t ys)=true:=by rw [ju] at hb1;exact hb1
   have hw2:=hw;rw [ql] at hw2;obtain ⟨hxe1,hxl1,hxp1⟩:=mm hw2.1 hnn hn12;obtain ⟨u1,hu1⟩:∃ l,natL xs=l:=⟨_,rfl⟩;rw [hu1] at hxe1 hxl1 hxp1;obtain ⟨hxe2,hxl2,hxp2⟩:=mm hw2.2 hnn hn12;obtain ⟨u2,hu2⟩:∃ l,natL ys=l:=⟨_,rfl⟩;rw [hu2] at hxe2 hxl2 hxp2;refine qj<|zt<|zgd [[],[],[0,1],[],[],(Wm 5),(Wm 6),(Wm 7),(Wm 8)] U4 [] (WG 24 (W6 6)) [.o 7,.o 8] ac U (zl 0 G cp (zM 0 G (zQ G ((uu hck zo hxp1).wk (.cons aG (.cons (ba (qp As.va (oF hxe1))) .nil))) (.p (vq 0 G) (vq 1 G)) (zl 0 G cp (zM 1 G (zQ G ((uu hck zo hxp2).wk (.cons aG (.cons (ba (qp As.va (oF hxe2))) .nil))) (.p (vq 3 G) (vq 4 G)) (zQ G ((sV (wayW t u1) (wayW t u2) (by rw [sB,sB];omega) (by rw [sB];omega))) (.p (vq 2 G) (vq 5 G)) (zA 6 G (zE G ab))))))))) zk zk zk zk (zz (Wc 6 7) Sd λ a w U=>?_);refine aa<|qh<|al ?_ (aP (rs:=[.tmp 6,.tmp 7]) G U (.tmp (zm 0 G) (.tmp (zm 1 G) .nil)) zd);have e:btF t xs ys=(betF (wayW t u1) (wayW t u2),0):=by rw [btF,qz (by rw [hb0];decide),qC hw,hu1,hu2]
   rw [e];exact tu2w aG aG
abbrev RED (x:RE):As:=DisA (REN x)
theorem pa {x:RE}:NewA (RED x):=DA mN
theorem w9 {x:RE}:FreeA (RED x) (RED x):=mh pD
theorem EU {u v:Yo}{x:RE}(h:[x.p,x.q].all okX=true):WkA (cat [NumA .u8 x.k,PinA u ((QD 2048 (toQ x.p)).and (cu [] u)),PinA v ((QD 2048 (toQ x.q)).and (cu [u] v))]) (RED x):=by
 simp only [xH,xQ,xJ,ql] at h;have hp:WkA (QD 2048 (toQ x.p)) (RFN x.p):=qd_rfn.trans (gZ (qp RFN (yB h.1).1.symm));have hq:WkA (QD 2048 (toQ x.q)) (RFN x.q):=qd_rfn.trans (gZ (qp RFN (yB h.2).1.symm));exact (wL (λ _ _ _ h=>pT h) (mf (l:=[(u,QD 2048 (toQ x.p)),(v,QD 2048 (toQ x.q))]) (λ y hy=>by
  simp at hy;rcases hy with rfl|rfl <;> exact rI))).trans (gw (br (.cons (.refl _) (.cons hp (.cons hq .nil)))))
section
open Rg
variable {P:Program}{Q:Exit→Act→World→Prop}{B N:Nat}{w0:Bs}{Γ:List (Nat × VA)}{ops:Array Oper}{les:List LeF}{sp:List ((Nat→Value)→Sp)}{anc:Nat→List Nat}{i:Nat}
theorem mL {d f h0 s:Nat}{us:(Yz)→Ym}{pre pre':Yc}{at_:Yr}
  (hs:sp[i]?=some (λ ν=>.v d (PinA (ν i) ((GeA h0 A).and (cu (us ν) (ν i)))).va)) (ho:ops[i]?=some ⟨some d,.call ⟨.value (.func f),xs.toArray,at_⟩,T,ps,af,none⟩)
  (hc:Cn P f pre' A.va) (hnew:NewA A) (hnod:NodA A) (hfree:FreeA A A) (hup:All2 Up pre pre') (hx:∀ ν,HasL (fam ops N Γ les sp anc ν) B w0 i xs pre) (hsz:∀ ν,Has (fam ops N Γ les sp anc ν) B w0 i (.tmp s) (SzV h0)) (hus:∀ ν v,us (nK ν i v)=us ν) (hl:∀ ν,E7 (fam ops N Γ les sp anc ν) B w0 i (us ν)):ObF P Q ops N Γ les sp anc B w0 i:=by
 refine .inr ⟨d,_,hs,λ ν a w av K hK=>?_⟩;obtain ⟨⟨fn,hf,hn,hb⟩,hcall⟩:=hc;have hrun:(execOp a.eval ⟨some d,.call ⟨.value (.func f),xs.toArray,at_⟩,T,ps,af,none⟩).run P w=.ok (.enter f (xs.map a.eval).toArray) w:=by
  simp only [execOp,resolve,Act.eval,Deferred.ofValue,Sem.run_bind,Sem.run_pure,Result.andThen_ok,invoke,bi hf hn hb];simp
 have hbw:=Av.bw av;have hargs:All2 (λ (A:VA) v=>A.p w.heap.size v w) pre' (xs.map a.eval):=by
  have h1:=(hx ν).all av;clear hcall hrun hx hs ho;generalize xs.map a.eval=vs at h1
  induction hup generalizing vs with
  | nil=>cases h1;exact .nil
  | cons hu _ ih =>
   cases h1 with
   | cons h2 h3=>exact .cons (hu _ _ _ hbw h2) (ih _ h3)
 refine bA (R:=fam ops N Γ les sp anc ν) ho G ?_;unfold Oper.wp;rw [hrun];refine (hcall w.heap.size w _ (qi _) hargs).mono λ e w' ⟨v,he,⟨cs,hv,hsh⟩,hg⟩=>?_;subst he;refine hK v w' hg ⟨cs,⟨⟨?_,hfree.2.2 _ _ _ _ hbw hv,hnod _ _ _ hv,λ g hg'=>qf (hsz ν a w av) (hnew _ _ _ hv g hg').1⟩,?_⟩,hsh⟩
 ·rw [hus,oZ];intro u hu g hgu hgv;have h1:=hl ν a w av u hu g hgu;rw [hsh,mn hv] at hgv;have h2:=(hnew _ _ _ hv g hgv).1;omega
 ·rw [oZ];exact hsh.symm
end
theorem Cb {h:Nat}(hA:NewA A):NewA (GeA h A):=λ B cs w hp=>hA B cs w hp.1
theorem JX:WkA NilI (ZN 2 0):=⟨rfl,rfl,λ B cs w h=>by
 have e0:riOf 0=⟨false,[]⟩:=by kernel_rfl
 refine ⟨by have h0:lz 0=0:=zk;omega,?_⟩;rw [e0];obtain ⟨ps,rfl,hp⟩:=h;cases hp with
 | @cons _ c1 _ _ h1 hp=>cases hp with
  | @cons _ c2 _ _ h2 hp =>
   cases hp;exact ⟨[c1,c2],rfl,.cons h1 (.cons ⟨cU,.inl ⟨rfl,h2⟩⟩ .nil)⟩⟩
theorem Fm (h:NilI.p B cs w):cbl cs=[]:=by
 obtain ⟨ps,rfl,hp⟩:=h;cases hp with
 | @cons _ c1 _ _ h1 hp=>cases hp with
  | @cons _ c2 _ _ h2 hp =>
   cases hp;have e1:c1=[.bool false]:=h1;have e2:c2=[.slice none 0 0]:=h2;subst e1;subst e2;rfl
theorem qd_nought:WkA (cat [NilI,ZN 2 1]) (QD 2 0):=⟨rfl,rfl,λ B cs w h=>by
 refine ⟨(br (.cons JX (.cons (WkA.refl _) .nil))).2.2 _ _ _ h,?_⟩;obtain ⟨ps,rfl,hp⟩:=h;cases hp with
 | @cons _ c1 _ _ h1 hp=>cases hp with
  | @cons _ c2 _ _ h2 hp =>
   cases hp;have e:([c1,c2]:List (List Value)).flatten=c1++c2:=by simp
   rw [e,dB,Fm h1];exact Hj _ _ _ h2⟩
theorem C8  : Cn Tryz.prog 106 [] ((QD 2 0).va):=by
 refine Cn.intro Tryz.func106 G zk nq (zy [] λ B w0 a U=>?_);refine qb<|zg [] Rv Uf [] U (zY G (Str.zero rp) o0) (zz [] Rw ?_);refine ztA<|zgA [some (2,_)] [] (W6 1 [.sto 0]) [] (zQ G (Qb zd zd) (.cons ab .nil) (zv G (aT (qs:=[(1,_)]) rp (.cons ⟨rfl,vq 0 rfl,rfl⟩ .nil)) (zS 1 G ax o0))) (zz [] Rw λ a w U=>?_);refine aa<|qh<|al ?_ (au G U (zm 0 G) ax);exact qd_nought.va
theorem oh {α β:Type}{R':α→β→Prop}:∀ {l1 l2:List α}{m:List β},All2 R' (l1++l2) m→∃ m1 m2,m=m1++m2∧All2 R' l1 m1∧All2 R' l2 m2
 | [],l2,m,h=>⟨[],m,rfl,.nil,h⟩
 | x::l1,l2,m,h=>by
  cases (show All2 R' (x::(l1++l2)) m from h) with
  | cons h1 h2 =>
   obtain ⟨m1,m2,e,h3,h4⟩:=oh h2;exact ⟨_::m1,m2,by rw [e];rfl,.cons h1 h3,h4⟩
theorem MA {x:RF}(h:okX x=true):Cn Tryz.prog 27 [(RFA x).va] (QD 2048 (toQ x)).va:=(nf (c:=2048) zd).wk (.cons (qa_x h (qi _)).va .nil)
def OwT (b top E m:Nat)(D:List TypeId)(Xs:List As):VA where
 p B v w:=(∀ A∈Xs,A.n=m)∧(∀ A∈Xs,∀ T∈A.deps,T∈D)∧∃ ds,(cat Xs).p B ds w∧w.ownsRow b E m v Xs.length ds∧(cbl ds).Nodup∧∀ g∈cbl ds,g<top
 deps:=E::D
 cg:=λ B v w w' hg ⟨h1,h2,ds,h3,h4,h5⟩=>⟨h1,h2,ds,(cat Xs).cg _ _ _ _ hg h3,cv h4 λ g c _ h=>hg.heap h,h5⟩
 wr:=by
  rintro B v w w' g c T fz hgc hT hB hW ⟨h1,h2,ds,h3,h4,h5⟩;simp only [qr,not_or] at hT;refine ⟨h1,h2,ds,(cat Xs).wr _ _ _ _ _ _ _ _ hgc (λ hh=>?_) hB hW h3,cv h4 λ g' c' _ h7=>?_,h5⟩
  ·obtain ⟨A,hA,hd⟩:=jC.1 hh;exact hT.2 (h2 A hA T hd)
  ·rw [hW.block g' (λ e=>?_)]
   ·exact h7
   ·subst e;rw [hgc] at h7;injection h7 with h7;injection h7 with _ h7 _;exact hT.1 h7
def XE (X:As)(c:List Value):As where
 n:=X.n
 ag:=X.ag
 p B cs w:=X.p B cs w∧cs=c
 deps:=X.deps
 len:=λ B cs w h=>X.len B cs w h.1
 one:=λ B cs w h=>X.one B cs w h.1
 ag1:=X.ag1
 cg:=λ B cs w w' hg h=>⟨X.cg B cs w w' hg h.1,h.2⟩
 wr:=λ B cs w w' g c T fz h1 h2 h3 h4 h=>⟨X.wr B cs w w' g c T fz h1 h2 h3 h4 h.1,h.2⟩
def xeZ (Xs:List As)(ps:List (List Value)):List As:=List.zipWith XE Xs ps
theorem GH {B:Nat}{w:Yi}:∀ {Xs:Yb}{ps:Yy},All2 (λ (A:As) c=>A.p B c w) Xs ps→All2 (λ (A:As) c=>A.p B c w) (xeZ Xs ps) ps
 | _,_,.nil=>.nil
 | _,_,.cons h1 h2=>.cons ⟨h1,rfl⟩ (GH h2)
theorem Ah {p:As→Prop}:∀ {Xs:Yb}{ps:Yy},(∀ A∈Xs,∀ c,p (XE A c))→∀ A∈xeZ Xs ps,p A
 | [],_,_,A,hA=>by simp [xeZ] at hA
 | _::_,[],_,A,hA=>by simp [xeZ] at hA
 | X::Xs,c::ps,h,A,hA=>by
  rcases qr.1 (show A∈XE X c::xeZ Xs ps from hA) with rfl|hA
  ·exact h X (by simp) c
  ·exact Ah (λ A' h' c'=>h A' (by simp [h']) c') A hA
theorem Ai {Xs:Yb}{ps:Yy}(h:All2 (λ (A:As) c=>A.p B c w) Xs ps):(xeZ Xs ps).length=Xs.length:=by
 induction h with
 | nil=>rfl
 | cons _ _ ih=>show _+1=_+1;rw [← ih];rfl
theorem Aj {B:Nat}{w:Yi}:∀ {Xs:Yb}{ps qs:Yy}{B1:Nat}{w1:Yi},All2 (λ (A:As) c=>A.p B1 c w1) Xs ps→All2 (λ (A:As) c=>A.p B c w) (xeZ Xs ps) qs→qs=ps∧All2 (λ (A:As) c=>A.p B c w) Xs ps
 | [],_,qs,_,_,.nil,h=>by cases h;exact ⟨rfl,.nil⟩
 | X::Xs,c::ps,qs,_,_,.cons h1 h2,h=>by
  cases (show All2 _ (XE X c::xeZ Xs ps) qs from h) with
  | @cons _ d _ qs k1 k2 =>
   obtain ⟨e,k3⟩:=Aj h2 k2;obtain ⟨k4,rfl⟩:=k1;exact ⟨by rw [e],.cons k4 k3⟩
section
open Rg
variable {P:Program}{Q:Exit→Act→World→Prop}{B N:Nat}{w0:Bs}{Γ:List (Nat × VA)}{Λ:List Lc}{a:Act}{w:World}{ops:Array Oper}{i:Nat}{K:Act→World→Prop}
theorem JK {d s u:Nat}{S E T1:Yh}{m bytes:Nat}{D D':Yq}{l xs:Yb}{it:TypeInfo}{z:Yo}(src:Ya)(ks ku:Nat)
  (ho:ops[i]?=some ⟨some d,.call ⟨.builtin .append,#[.tmp s,.tmp u],#[S,S]⟩,T1,ps,af,none⟩) (h:St B w0 N Γ Λ a w) (hs:Γ[ks]?=some (s,OwnR w0.w.heap.size E m D l)) (hu:Γ[ku]?=some (u,(SlA E D' xs).va))
  (hS:P.underlying S=some (.slice E)) (hi:P.info? E=some it) (hz:it.zero=some z) (hsz:it.size=m) (hby:it.bytes=bytes) (hzs:z.cells.size=m) (hm0:0<m) (hl:l.length+xs.length≤100000000000) (hb6:bytes≤1000)
  (hD':∀ T∈D',T∈D) (hED:E ∉ D) (hxm:∀ x∈xs,x.n=m) (hd:d<N) (hΓ:Γ.all (λ x=>x.1 != d)=true) (hΛd:Λ.all (λ l=>l.s != d)=true)
  (hsrc:src.all (λ k=>match Γ[k]? with|some y => !y.2.deps.contains E|none=>false)=true) (hΛ:Λ.all (λ l=>l.T != E && !l.A.deps.contains E)=true)
  (hK:∀ v' w',St B w0 N ((d,OwnR w0.w.heap.size E m D (l++xs))::src.filterMap λ k=>Γ[k]?) Λ (a.put (some d) v') w'→K (a.put (some d) v') w'):wpOp P ops Q i K a w:=by
 have hv:=h.vals _ (qa hs);have hu':=h.vals _ (qa hu);have hB:B≤w0.w.heap.size:=h.lo _ (.inl (qi _));obtain ⟨v',w',hr,r1,r2,r3⟩:=gc (T1:=T1) hS hi hz hsz hby hzs hm0 hl hb6 hv hu' hD' hED hxm h.base.size hB;have hlc:∀ l'∈Λ,l'.T≠E∧E ∉ l'.A.deps:=λ l' hl'=>by
  have:=qe.1 hΛ l' hl';simp only [ql,bne_iff_ne,qy,qB,qm] at this;exact this
 have U:St B w0 N (src.filterMap λ k=>Γ[k]?) Λ a w':=by
  refine ⟨h.lo,h.defers.grown r2 r3 rfl,h.size,⟨r2.os.trans h.base.os,r2.tape.trans h.base.tape,r2.output.trans h.base.output,qf h.base.size r2.size,λ k hk hf=>(r2.block k (qD hk h.base.size) (λ e=>by have:=(r3 k e.symm).1;omega)).trans (h.base.block k hk hf)⟩,λ y hy=>?_,λ l' hl'=>?_,h.dis⟩
  ·obtain ⟨k,hk1,hk2⟩:=qR.1 hy;have hs:=qe.1 hsrc k hk1;simp only [hk2,qy,qB,qm] at hs;exact VA.grown (h.vals y (qa hk2)) r2 r3 hB hs
  ·obtain ⟨g1,g2⟩:=hlc l' hl';obtain ⟨g,cs,e1,e2,e3,e4⟩:=h.locs l' hl';refine ⟨g,cs,e1,e2,?_,As.grown e4 r2 r3 hB g2⟩;rw [r2.block g (Array.getElem?_eq_some_iff.1 e3).1 (λ e5=>by
    obtain ⟨_,c,fz,e6⟩:=r3 g e5.symm;rw [e3] at e6;injection e6 with e6;injection e6 with _ e6 _;exact g1 e6)]
   exact e3
 have hst2:=U.addV (d:=d) (v:=v') (A:=OwnR w0.w.heap.size E m D (l++xs)) hd (qe.2 λ x hx=>by
  obtain ⟨k,hk1,hk2⟩:=qR.1 hx;exact qe.1 hΓ x (qa hk2)) hΛd r1
 unfold wpOp;simp only [ho,Region.wanted,if_true];exact .inl (bf (w':=w') (v:=v') (by simp [execOp,resolve,invoke,builtin,hr,Result.andThen]) (hK v' w' hst2))
end
theorem St.openT (h:St B w0 N Γ Λ a w){s b top E m:Nat}{Xs:Yb}(k:Nat)(hm:Γ[k]?=some (s,OwT b top E m D Xs)):∃ ps,All2 (λ (A:As) c=>A.p B c w) Xs ps∧(cbl ps.flatten).Nodup∧(∀ g∈cbl ps.flatten,g<top)∧St B w0 N (Γ.set k (s,OwnR b E m D (xeZ Xs ps))) Λ a w:=by
 obtain ⟨h1,h2,ds,⟨ps,rfl,hps⟩,h4,h5,h6⟩:=h.getG k hm;exact ⟨ps,hps,h5,h6,h.setG k hm λ _=>⟨Ah λ A hA c=>h1 A hA,Ah λ A hA c=>h2 A hA,ps.flatten,⟨ps,rfl,GH hps⟩,by rw [Ai hps];exact h4⟩⟩
theorem BU {b top E m:Nat}{Xs Ys Zs:Yb}{ps:Yy}{B1:Nat}{w1:Yi}(h0:All2 (λ (A:As) c=>A.p B1 c w1) Xs ps)(h1:(cbl ps.flatten).Nodup)(h2:∀ g∈cbl ps.flatten,g<top)(htop:top≤w.heap.size)
  (hZ:∀ A∈Zs,A.n=m) (hZ2:∀ A∈Zs,∀ T∈A.deps,T∈D) (hX:∀ A∈Xs,A.n=m) (hX2:∀ A∈Xs,∀ T∈A.deps,T∈D) (hl:Ys.length=Zs.length)
  (hy:∀ dx,(cat Ys).p B dx w→(cat Zs).p B dx w∧(cbl dx).Nodup∧∀ g∈cbl dx,top≤g∧g<w.heap.size) (h:(OwnR b E m D (xeZ Xs ps++Ys)).p B v w):(OwT b w.heap.size E m D (Xs++Zs)).p B v w:=by
 obtain ⟨k1,k2,ds,⟨qs,e,hq⟩,h4⟩:=h;have hxl:(xeZ Xs ps).length=Xs.length:=Ai h0;obtain ⟨q1,q2,e2,hq1,hq2⟩:=oh hq;obtain ⟨e3,hp⟩:=Aj h0 hq1;subst e3;obtain ⟨z1,z2,z3⟩:=hy q2.flatten ⟨q2,rfl,hq2⟩;have ed:ds=q1.flatten++q2.flatten:=by rw [e,e2,jm]
 refine ⟨λ A hA=>?_,λ A hA=>?_,ds,?_,?_,?_,λ g hg=>?_⟩
 ·rcases qo.1 hA with hA|hA
  ·exact hX A hA
  ·exact hZ A hA
 ·rcases qo.1 hA with hA|hA
  ·exact hX2 A hA
  ·exact hZ2 A hA
 ·rw [ed];exact tJ ⟨q1,rfl,hp⟩ z1
 ·rw [qu,hxl,hl] at h4;rw [qu];exact h4
 ·rw [ed,dB];refine xC.2 ⟨h1,z2,λ x hx y hy e=>?_⟩;subst e;have:=h2 x hx;have:=(z3 x hy).1;omega
 ·rw [ed,dB] at hg;rcases qo.1 hg with hg|hg
  ·exact qD (h2 g hg) htop
  ·exact (z3 g hg).2
theorem Nb {b top E m:Nat}{Xs Ys:Yb}(hw:All2 WkA Xs Ys)(hD:∀ A∈Ys,∀ T∈A.deps,T∈D)(hb:B≤b)(h:(OwT b top E m D Xs).p B v w):(LsN E m D Ys).p B v w:=by
 obtain ⟨h1,h2,ds,h3,h4,h5,h6⟩:=h;refine Kc hw hD _ _ _ ⟨h1,h2,⟨ds,h3,⟨h4.1,?_⟩,h5,λ _ _=>trivial⟩,λ _ _=>trivial⟩;rcases h4.2 with h|⟨g,cap,cur,e1,e2,e3⟩
 ·exact .inl h
 ·exact .inr ⟨g,cap,cur,e1,qf hb e2,e3⟩
theorem Q1 {h1 E m:Nat}{X:As}(hX:NewA X)(hn:X.n=m)(hd:∀ T∈X.deps,T∈D)(h:(OwnR b E m D [GeA h1 X]).p B v w):(OwT b w.heap.size E m D [X]).p B v w:=by
 obtain ⟨k1,k2,ds,⟨ps,e,hp⟩,h4⟩:=h;cases hp with
 | @cons _ c _ _ h5 hp =>
  cases hp;have e:ds=c:=by rw [e];simp
  subst e;exact ⟨λ A hA=>by obtain rfl:=qn.1 hA;exact hn,λ A hA=>by obtain rfl:=qn.1 hA;exact hd,ds,⟨[ds],by simp,.cons h5.1 .nil⟩,h4,h5.2.1,λ g hg=>(hX _ _ _ h5.1 g hg).2⟩
theorem Ew {u v:Yo}{x:RF}(h:okX x=true):WkA (cat [NumA .u8 1,PinA u ((QD 2048 (toQ x)).and (cu [] u)),PinA v ((QD 2 0).and (cu [u] v))]) (RED (spE x)):=by
 have hp:WkA (QD 2048 (toQ x)) (RFN x):=qd_rfn2.trans (gZ (qp RFN (yB h).1.symm));have hq:WkA (QD 2 0) (RFN (rfOf 0)):=qd_rfn2;exact (wL (λ _ _ _ h=>pT h) (mf (l:=[(u,QD 2048 (toQ x)),(v,QD 2 0)]) (λ y hy=>by
  simp at hy;rcases hy with rfl|rfl <;> exact rI))).trans (gw (br (.cons (.refl _) (.cons hp (.cons hq .nil)))))
theorem ue {x:RF}(hx:okX x=true):Cn Tryz.prog 26 [(RFA x).va] ((RED (spE x)).va):=by
 refine Cn.intro Tryz.func26 G zk nq (zy [(0,(RFA x).va)] λ B w0 a U=>?_);refine qb<|zg [] [zpL 1 28 0 _,zpL 2 76 1 _] UU [] U (zW 0 G (zY G (Str.zero dE) o0)) (zz [] Sr λ a w U=>?_);refine zt ?_;have U:=U.wkL 0 rfl (qa_x hx (qi _));have U:=zn [] Sr U;refine KM (sts:=[none,some (4,λ ν=>_)]) (news:=[]) (sp:=[(λ ν=>.v 3 _),(λ ν=>.v 4 (PinA (ν 1) ((QD 2048 (toQ x)).and (cu [] (ν 1)))).va),(λ ν=>.v 5 (PinA (ν 2) ((QD 2 0).and (cu [ν 1] (ν 2)))).va),(λ ν=>.v 6 _),(λ ν=>.sto 1)]) [] U ⟨of_u λ ν=>ob_v rfl rfl (eL (lz0 0 rfl) ax),⟨lm (us:=λ ν=>[]) (xs:=[.tmp 3]) rfl rfl (nf zd) eM lu (.cons upA_qa.va .nil) (λ ν=>(.o (vq 0 rfl))) (λ _ _=>rfl) (λ ν=>dY),⟨lm (us:=λ ν=>[ν 1]) (xs:=[]) rfl rfl C8 eM lu .nil (λ ν=>.nil) (λ _ _=>rfl) (λ ν=>(eN (gS eM) (vq 1 rfl) dY)),⟨of_u λ ν=>ob_v rfl rfl (aT (qs:=[(0,_),(1,_),(2,_)]) dE (.cons ⟨rfl,ab,rfl⟩ (.cons ⟨rfl,vq 1 rfl,rfl⟩ (.cons ⟨rfl,vq 2 rfl,rfl⟩ .nil)))),⟨of_u λ ν=>lI rfl rfl rfl (vq 3 rfl) dq (xE (b:=9) rfl rfl),trivial⟩⟩⟩⟩⟩ ⟨(λ ν ν' h=>rfl),⟨(λ ν ν' h=>by first|rfl|simp only [h 1 rfl]),⟨(λ ν ν' h=>by first|rfl|simp only [h 1 rfl,h 2 rfl]),⟨(λ ν ν' h=>by first|rfl|simp only [h 1 rfl,h 2 rfl]),⟨(λ ν ν' h=>by first|rfl|simp only [h 1 rfl,h 2 rfl]),trivial⟩⟩⟩⟩⟩ ⟨trivial,⟨(λ ν ν' h=>by first|rfl|simp only [h 1 rfl,h 2 rfl]),trivial⟩⟩ zk (λ ν=>by kernel_rfl) (λ ν=>by kernel_rfl) (λ ν1 a w U=>?_)
 have U:=zn [] Sr U;refine aa<|qh<|al ?_ (au G U (zm 1 G) dq);exact (Ew hx).va
theorem JA {h1 B:Nat}{u1 u2 u3:Yo}{x y:RE}{dx:Ym}(hx:[x.p,x.q].all okX=true)
  (h:(cat [cat [NumA .u8 x.k,PinA u1 ((GeA h1 (QD 2048 (toQ x.p))).and (cu [] u1)),PinA u2 ((GeA h1 (QD 2048 (toQ x.q))).and (cu [u1] u2))],PinA u3 ((GeA h1 (RED y)).and (cu [u1,u2] u3))]).p B dx w):(cat [RED x,RED y]).p B dx w∧(cbl dx).Nodup∧∀ g∈cbl dx,h1≤g∧g<w.heap.size:=by
 obtain ⟨ps,e,hp⟩:=h;cases hp with
 | @cons _ c1 _ _ p1 hp=>cases hp with
  | @cons _ c2 _ _ p2 hp =>
   cases hp;obtain ⟨qs,e1,hq⟩:=p1;cases hq with
   | @cons _ d0 _ _ q0 hq=>cases hq with
    | @cons _ d1 _ _ q1 hq=>cases hq with
     | @cons _ d2 _ _ q2 hq =>
      cases hq;obtain ⟨q1,v1⟩:=q1;obtain ⟨q2,v2⟩:=q2;obtain ⟨r3,v3⟩:=p2;obtain ⟨_,g1,n1,b1⟩:=q1;obtain ⟨s2,g2,n2,b2⟩:=q2;obtain ⟨s3,g3,n3,b3⟩:=r3;have w1:(RED x).p B c1 w:=(EU hx).2.2 _ _ _ ⟨[d0,d1,d2],e1,.cons q0 (.cons ⟨⟨(λ _ h=>by cases h),g1⟩,v1⟩ (.cons ⟨⟨s2,g2⟩,v2⟩ .nil))⟩;have k0:cbl d0=[]:=pT q0;have k1:cbl c1=cbl d1++cbl d2:=by
       rw [e1];simp [dB,k0]
      have m1:vbl u1=cbl d1:=by rw [← v1];exact mn (A:=QD 2048 (toQ x.p)) g1
      have m2:vbl u2=cbl d2:=by rw [← v2];exact mn (A:=QD 2048 (toQ x.q)) g2
      have m3:vbl u3=cbl c2:=by rw [← v3];exact mn (A:=RED y) g3
      have ed:cbl dx=cbl c1++cbl c2:=by
       rw [e];simp [dB]
      refine ⟨⟨[c1,c2],e,.cons w1 (.cons g3 .nil)⟩,?_,λ g hg=>?_⟩
      ·rw [ed];refine xC.2 ⟨w1.2,n3,λ a ha b hb e=>?_⟩;subst e;rw [k1] at ha;rcases qo.1 ha with ha|ha
       ·exact s3 u1 (by simp) a (by rw [m1];exact ha) (by rw [m3];exact hb)
       ·exact s3 u2 (by simp) a (by rw [m2];exact ha) (by rw [m3];exact hb)
      ·rw [ed,k1] at hg;rcases qo.1 hg with hg|hg
       ·rcases qo.1 hg with hg|hg
        ·exact ⟨b1 g hg,(eM _ _ _ g1 g hg).2⟩
        ·exact ⟨b2 g hg,(eM _ _ _ g2 g hg).2⟩
       ·exact ⟨b3 g hg,(pa _ _ _ g3 g hg).2⟩
theorem MF {x y:RE}:∀ A∈[RED x,RED y],A.n=9:=λ A hA=>by
 simp only [qr,zq,or_false] at hA;rcases hA with rfl|rfl <;> rfl
theorem MG {x y:RE}:∀ A∈[RED x,RED y],∀ T∈A.deps,T∈[U32]:=cO zk
set_option maxHeartbeats 2000000 in
theorem y4 (t:RTk)(xs:Yl):Cn Tryz.prog 8 [(TkA t).va,(SlA 3 [] (xs.map InA)).va] (Tu [LsN 76 9 [U32] ((bnF t xs).1.map REN),In (bnF t xs).2]):=by
 obtain ⟨it,z,e1,e2,e3,e4,e5⟩:=y7;refine Cn.intro Tryz.func8 G zk nq (zy [(0,(TkA t).va),(1,(SlA 3 [] (xs.map InA)).va)] λ B w0 a U=>?_);refine qb<|zg [] S8 (.alc 0::(W6 4)) [.g 1,.o 1,.o 2] U (zW 0 G (zv G (aR aX) (zE G ab))) (zz Sq S9 ?_);refine ztA<|zsA<|zgA U4 [] (W6 11 [.v 6 _]) UG (zl 0 G cp (zQ G (lY t) (.o (vq 0 G)) (zA 1 G o0))) (zz (Wf 1 4 5 6) S9 ?_);refine ztA<|zgA U4 [] (W6 13) Rh (zM 3 G (zv G (ca (vq 0 G) ab) o0)) (zz (W8 1 4 5 6 14) S9 λ a w U=>?_);refine zJ 4 U G (λ hb0=>?_) (λ hb0=>?_)
 ·refine qb<|zg U6 [] (.v 15 _::(W6 4)) [.g 0,.o 1,.o 2] U (zM 3 G (zv G (aR aX) (zA 0 G o0))) (zz Sq S9 λ a w U=>?_);refine aa<|qh<|aj ?_;refine al ?_ (aP (rs:=[.tmp 4,.tmp 5]) G U (.tmp (zm 1 G) (.tmp (zm 2 G) .nil)) zd);rw [show bnF t xs=([],ckF t) from qC hb0];exact tu2w Hk aG
 ·have hck:ckF t=0:=by simpa using hb0
  obtain ⟨hs2,hs13,hp1,_⟩:=hd_b (ft hck).1;obtain ⟨nn,hnn⟩:∃ nn,t.sp.length=nn+1:=⟨t.sp.length-1,by omega⟩;have hn12:nn≤12:=by omega
  have h00:0<t.sp.length:=by omega
  have h0:=Ls hck h00;refine qj<|zt<|qb<|zg U6 [] (Ww 16) WV U (zl 0 G cp (zM 0 G (zQ G (sA t xs) (.p (vq 0 G) (vq 1 G)) (zv G (dc (vq 2 G)) o0)))) (zz (Wf 1 4 5 19) S9 λ a w U=>?_);refine zJ 3 U G (λ hb1=>?_) (λ hb1=>?_)
  ·refine qb<|zg U6 [] (W6 4) [.g 0,.o 0,.o 1] U (zv G (aR aX) (zE G ab)) (zz Sq S9 λ a w U=>?_);refine aa<|qh<|aj ?_;refine al ?_ (aP (rs:=[.tmp 4,.tmp 5]) G U (.tmp (zm 1 G) (.tmp (zm 2 G) .nil)) zd);have e:bnF t xs=([],1):=by rw [bnF,qz (by rw [hb0];decide),qC hb1]
   rw [e];exact tu2w Hk aG
  ·obtain ⟨hxe,hxl,hxp⟩:=mm (by simpa using hb1) hnn hn12;obtain ⟨u1,hu1⟩:∃ l,natL xs=l:=⟨_,rfl⟩;rw [hu1] at hxe hxl hxp;refine qj<|zt ?_;have U:=U.wkG 0 rfl (ba (qp As.va (oF hxe)));have U:=U.addSz 9999;obtain ⟨hb,ehb⟩:∃ h,w.heap.size=h:=⟨_,rfl⟩;rw [ehb] at U;have U:=zn (W8 1 4 5 19 9999) S9 U;refine zg U6 [] (.adr 20 2 (.some 0) True::(Wd 21 [.v 7 _])) (W7 [.g 4,.o 6]) U (zO 0 G cb (zL 0 0 0 G eY (zv G (bB du (bX λ _=>rfl) (vq 1 G) (aF 0 G) (bn h00)) (zv G (ao (vq 2 G) ax) (zv G (EY (h:=hb) (s:=9999) (xs:=[.tmp 23]) (ue h0) pa tB w9 (.cons (eI _).va .nil) (.o (vq 3 G)) (gq 4 G)) (zv G (ur (l:=[_]) (xs:=[.tmp 24]) mx zk (n_ok zk) nq nq nq (.o (vq 4 G)) G G) (zA 5 G o0))))))) (zz (W8 1 4 5 9999 7) S9 λ a w U=>?_);have U:=U.wkG 4 rfl (uH (m:=9) (D:=[U32]) (λ A hA=>by obtain rfl:=qn.1 hA;rfl) (cO zk) nq);have U:=St.setG (A':=OwT w0.w.heap.size w.heap.size 76 9 [U32] [RED (spE t.sp[0])]) U 4 rfl (λ h=>Q1 pa rfl (cO (l:=[RED (spE t.sp[0])]) zk _ (by simp)) h);obtain ⟨_,U⟩:=U.newSz 3 rfl;obtain ⟨top0,et0⟩:∃ h,w.heap.size=h:=⟨_,rfl⟩;rw [et0] at U;have U:=zn (W8 1 4 5 9999 7) S9 U;refine zt<|qb<|zg U6 [] (Wb 26) [.g 1,.g 2,.g 3,.g 4,.o 0,.o 1,.o 2] U (zM 0 G (zv G (bg qE (vq 0 G)) (zv G (aq ab) o0))) (zz (Wu 4 5 9999 7 26 27 28) S9 λ a w U=>?_);refine aa<|qk ?_;have U:=U.sel [4,5,6,3,2];refine wp_loop_ghost (λ n a w=>∃ (j top:Nat),n+j=nn∧St B w0 60 [(26,(SlA 3 [] (u1.map λ (k:Nat)=>InA (k:Int))).va),(27,In (nn:Nat)),(28,In (j:Nat)),(7,OwT w0.w.heap.size top 76 9 [U32] ((benW t (u1.take j)).map RED)),(9999,SzV top)] [⟨2,30,ptrH,TkA t⟩] a w) (nn) ?_ ?_
   ·rw [qc,hxl] at U;exact ⟨0,top0,by omega,by rw [show u1.take 0=[] from rfl,P3,show t.sp.getD 0 rf0=t.sp[0] from by simp [List.getD,h00]];exact U⟩
   intro n a w hI;obtain ⟨j,top,hn,U⟩:=hI;refine qb<|zg U6 [] [.v 29 _] U7 U (zv G (aN (gq 2 G) (gq 1 G)) o0) (zz (Wj 26 27 28 7 9999 29) S9 λ a w U=>?_);refine zt<|cd U (zm 5 G) (λ hb2=>?_) (λ hb2=>?_)
   ·have hj:j<u1.length:=by have:=qt hb2;omega
    have hkp:u1[j]<t.ps.length:=hxp _ (qg hj);have hpj:t.ps.getD u1[j] ⟨⟨#[]⟩,⟨0,rf0,rf0⟩,0⟩=t.ps[u1[j]]:=by simp [List.getD,hkp]
    have hpe:elF t.ps[u1[j]].e=true:=by rw [← hpj];exact dn_p hck hkp
    have hpq:=(fq hpe).1;have hpp:=hpq;simp only [xH,xQ,xJ,ql] at hpp;have hsl:j+1<t.sp.length:=by omega
    have hsj:t.sp.getD (j+1) rf0=t.sp[j+1]:=by simp [List.getD,hsl]
    have hsk:=Ls hck hsl;refine qj<|zt<|qk<|qb<|zg U6 [] (Wb 30 (W6 8)) (Wi [.o 3,.o 4]) U (zM 2 G (zv G (bB dr (bX λ _=>rfl) (gq 0 G) (gq 2 G) (bn hj)) (zv G (ao (vq 1 G) ty_3) (zA 0 G (zA 2 G o0))))) (zz (Wu 26 27 28 7 9999 8 9) S9 λ a w U=>?_);refine zt<|bS (sp:=[.adr 33 2 (.some 1) True,.v 34 _,.v 35 _,.v 36 _,.v 37 _,.v 38 _,.skp,.skp]) 6 2 99 6 OneC [.g 0,.g 1,.g 2,.g 3,.g 4,.g 5,.o 5] U (zO 0 G bM (zL 0 0 1 G ec (zM 6 G (zv G (bB fD (bX λ _=>rfl) (vq 1 G) (vq 2 G) (bn hkp)) (zv G (bK (vq 3 G) dZ (Sub.part 1 G G)) (zv G (ao (vq 4 G) dq) o0)))))) G zd zk zk (zz (Wu 26 27 28 7 9999 8 38) S9 λ a w U=>?_);rw [show List.range' 6 2=[6,7] from rfl];refine fJ 6 [0,1,2,3,4,5] G G U (Str.zero dE) G dq G zd zk zk zk (λ a w U=>?_);refine eV ?_;have U:=zn (Wj 26 27 28 7 9999 8) [O 2 30 _,O 10 76 _] U;have U:=U.ofPtr 1 rfl;have U:=zn (Wu 10 26 27 28 7 9999 8) S9 U;refine aa ?_;obtain ⟨ht,U⟩:=U.newSz 5 rfl;obtain ⟨h1,eh1⟩:∃ h,w.heap.size=h:=⟨_,rfl⟩;rw [eh1] at U ht;obtain ⟨ps,hp0,hp1,hp2,U⟩:=U.openT 4 rfl;have U:=zn (Wu 10 26 27 28 7 9999 8) S9 U;refine CU (sp:=[(λ ν=>.v 39 _),(λ ν=>.v 40 _),(λ ν=>.v 41 _),(λ ν=>.v 42 _),(λ ν=>.v 43 _),(λ ν=>.v 44 (PinA (ν 5) ((GeA h1 (QD 2048 (toQ t.ps[u1[j]].e.p))).and (cu [] (ν 5)))).va),(λ ν=>.v 45 _),(λ ν=>.v 46 _),(λ ν=>.v 47 (PinA (ν 8) ((GeA h1 (QD 2048 (toQ t.ps[u1[j]].e.q))).and (cu [ν 5] (ν 8)))).va),(λ ν=>.v 48 _),(λ ν=>.adr 49 2 (.some 0) True),(λ ν=>.v 50 _),(λ ν=>.v 51 _),(λ ν=>.v 52 _),(λ ν=>.v 53 _),(λ ν=>.v 54 _),(λ ν=>.v 55 (PinA (ν 16) ((GeA h1 (RED (spE t.sp[j+1]))).and (cu [ν 5,ν 8] (ν 16)))).va),(λ ν=>.v 56 _),(λ _=>.v 57 VT),(λ _=>.v 7 VT)]) [[],[],[1],[],[3],[3,4],[],[6],[3,4,5,6,7],[1,2,3,4,5,6,7,8],[],[10],[],[12],[10,11,12,13],[10,11,12,13,14],[3,4,5,6,7,8,10,11,12,13,14,15],[1,2,3,4,5,6,7,8,9,10,11,12,13,14,15,16],[0,1,2,3,4,5,6,7,8,9,10,11,12,13,14,15,16,17],[0,1,2,3,4,5,6,7,8,9,10,11,12,13,14,15,16,17,18]] 18 2 99 18 0 OneC [.g 1,.g 2,.g 3,.g 5,.o 0,.o 17] [] ac U ⟨of_u λ ν=>ob_v rfl rfl (aq (gq 4 rfl)),⟨of_u λ ν=>ob_v rfl rfl (bK (gq 0 rfl) cR (Sub.part 0 rfl rfl)),⟨of_u λ ν=>ob_v rfl rfl (ao (vq 1 rfl) lO),⟨of_u λ ν=>ob_v rfl rfl (bK (gq 0 rfl) bL (Sub.part 1 rfl rfl)),⟨of_u λ ν=>ob_v rfl rfl (ao (vq 3 rfl) ax),⟨mL (us:=λ ν=>[]) (xs:=[.tmp 43]) (s:=9999) rfl rfl (MA hpp.1) eM rI lu (.cons (eI _).va .nil) (λ ν=>(.o (vq 4 rfl))) (λ ν=>gq 5 rfl) (λ _ _=>rfl) (λ ν=>dY),⟨of_u λ ν=>ob_v rfl rfl (bK (gq 0 rfl) bZ (Sub.part 2 rfl rfl)),⟨of_u λ ν=>ob_v rfl rfl (ao (vq 6 rfl) ax),⟨mL (us:=λ ν=>[ν 5]) (xs:=[.tmp 46]) (s:=9999) rfl rfl (MA hpp.2) eM rI lu (.cons (eI _).va .nil) (λ ν=>(.o (vq 7 rfl))) (λ ν=>gq 5 rfl) (λ _ _=>rfl) (λ ν=>(eN (gS (Cb eM)) (vq 5 rfl) dY)),⟨of_u λ ν=>ob_v rfl rfl (aT (qs:=[(0,_),(1,_),(2,_)]) dE (.cons ⟨rfl,vq 2 rfl,rfl⟩ (.cons ⟨rfl,vq 5 rfl,rfl⟩ (.cons ⟨rfl,vq 8 rfl,rfl⟩ .nil)))),⟨of_u λ ν=>ob_a rfl rfl (fY (lz0 0 rfl) cb),⟨of_u λ ν=>ob_v rfl rfl (aB 10 rfl zk trivial (lz0 0 rfl) (Sub.part 0 rfl rfl) eY),⟨of_u λ ν=>ob_v rfl rfl (aq (gq 6 rfl)),⟨of_u λ ν=>ob_v rfl rfl (aL (vq 12 rfl) ab ((wi64 zo zo).trans (by omega:(_:Int)=((j+1:Nat):Int)))),⟨of_u λ ν=>ob_v rfl rfl (bB du (bX λ _=>rfl) (vq 11 rfl) (vq 13 rfl) (bn hsl)),⟨of_u λ ν=>ob_v rfl rfl (ao (vq 14 rfl) ax),⟨mL (us:=λ ν=>[ν 5,ν 8]) (xs:=[.tmp 54]) (s:=9999) rfl rfl (ue hsk) pa tB w9 (.cons (eI _).va .nil) (λ ν=>(.o (vq 15 rfl))) (λ ν=>gq 5 rfl) (λ _ _=>rfl) (λ ν=>(eN (gS (Cb eM)) (vq 5 rfl) (eN (gS (Cb eM)) (vq 8 rfl) dY))),⟨of_u λ ν=>ob_v rfl rfl (bR (D:=[U32]) (l:=[_,_]) (xs:=[.tmp 48,.tmp 55]) (cO zk) mx zk (n_ok zk) nq nq nq (.p (vq 9 rfl) (vq 16 rfl)) rfl rfl),trivial⟩⟩⟩⟩⟩⟩⟩⟩⟩⟩⟩⟩⟩⟩⟩⟩⟩⟩ ⟨(λ ν ν' h=>rfl),⟨(λ ν ν' h=>rfl),⟨(λ ν ν' h=>rfl),⟨(λ ν ν' h=>rfl),⟨(λ ν ν' h=>rfl),⟨(λ ν ν' h=>by first|rfl|simp only [h 5 rfl]),⟨(λ ν ν' h=>rfl),⟨(λ ν ν' h=>rfl),⟨(λ ν ν' h=>by first|rfl|simp only [h 5 rfl,h 8 rfl]),⟨(λ ν ν' h=>by first|rfl|simp only [h 5 rfl,h 8 rfl]),⟨(λ ν ν' h=>rfl),⟨(λ ν ν' h=>rfl),⟨(λ ν ν' h=>rfl),⟨(λ ν ν' h=>rfl),⟨(λ ν ν' h=>rfl),⟨(λ ν ν' h=>rfl),⟨(λ ν ν' h=>by first|rfl|simp only [h 5 rfl,h 8 rfl,h 16 rfl]),⟨(λ ν ν' h=>by first|rfl|simp only [h 5 rfl,h 8 rfl,h 16 rfl]),⟨(λ _ _ _=>rfl),⟨(λ _ _ _=>rfl),trivial⟩⟩⟩⟩⟩⟩⟩⟩⟩⟩⟩⟩⟩⟩⟩⟩⟩⟩⟩⟩ rfl zd zd zd zk zk (fx zk) (λ ν=>by kernel_rfl) (λ ν=>by kernel_rfl) (λ ν=>by kernel_rfl) (λ ν a w U=>?_) (λ h=>absurd h zd)
    have U:=zn (Wj 26 27 28 9999 39 56) S9 U;rw [show List.range' 18 2=[18,19] from rfl];rw [qx];refine JK [0,1,2,3] 4 5 rfl U rfl rfl zp e1 e2 e3 e4 e5 zd (by rw [Ai hp0];simp only [qc,ml,ze,zf,xo];omega) zd (λ T hT=>hT) zd (λ A hA=>by simp only [qr,zq,or_false] at hA;rcases hA with rfl|rfl <;> rfl) zd zk zk zk zk (λ v w U=>?_);rw [qx];refine oS 0 G U G zd zk zk (λ a U=>?_);refine eV ?_;have U:=zn (Wj 7 57 26 27 28 9999) S9 U;obtain ⟨hq,U⟩:=U.newSz 5 rfl;have U:=St.setG (A':=OwT w0.w.heap.size w.heap.size 76 9 [U32] ((benW t (u1.take j)).map RED++[RED t.ps[u1[j]].e,RED (spE t.sp[j+1])])) U 0 rfl (λ h=>BU (Ys:=[cat [NumA .u8 t.ps[u1[j]].e.k,PinA (ν 5) ((GeA h1 (QD 2048 (toQ t.ps[u1[j]].e.p))).and (cu [] (ν 5))),PinA (ν 8) ((GeA h1 (QD 2048 (toQ t.ps[u1[j]].e.q))).and (cu [ν 5] (ν 8)))],PinA (ν 16) ((GeA h1 (RED (spE t.sp[j+1]))).and (cu [ν 5,ν 8] (ν 16)))]) hp0 hp1 (λ g hg=>qD (hp2 g hg) ht) hq MF MG (cq λ _=>rfl) (cq (p:=λ A=>∀ T∈A.deps,T∈[U32]) λ _=>fe zk) rfl (λ dx hd=>JA hpq hd) h);obtain ⟨top1,et1⟩:∃ h,w.heap.size=h:=⟨_,rfl⟩;rw [et1] at U;have U:=zn (Wj 7 57 26 27 28 9999) S9 U;refine ak ?_;refine aa<|zg U6 [] [.v 58 _,.v 28 _] [.g 0,.g 2,.g 3,.g 5,.o 1] U (zv G (aL (gq 4 G) ab ((wi64 zo zo).trans (by omega:(_:Int)=((j+1:Nat):Int)))) (zV 0 G o0)) (zz (W8 7 26 27 9999 28) S9 λ a w U=>?_);refine aa ?_;have U:=U.sel [1,2,4,0,3];exact ⟨n-1,by omega,j+1,top1,by omega,by rw [I2 zo,zw,hpj,hsj];exact U⟩
   ·obtain rfl:j=nn:=by have:=qv hb2;omega
    have U:=St.setG (A':=LsN 76 9 [U32] ((benW t u1).map REN)) U 3 rfl (λ h=>by rw [← hxl,qH] at h;exact Nb (iu λ _=>dis_wk) (cq (p:=λ A=>∀ T∈A.deps,T∈[U32]) λ _=>fe zk) (U.lo _ (.inl (qi _))) h);refine qL<|ai<|ai<|az<|zt<|zg U6 [] (.v 59 _::(W6 4)) [.g 3,.g 4,.o 1,.o 2] U (zM 3 G (zA 0 G (zE G ab))) (zz (Wf 7 9999 4 5) S9 λ a w U=>?_);refine aa<|qh<|al ?_ (aP (rs:=[.tmp 4,.tmp 5]) G U (.tmp (zm 2 G) (.tmp (zm 3 G) .nil)) zd);have e:bnF t xs=(benW t u1,0):=by rw [bnF,qz (by rw [hb0];decide),qz (by rw [hb1];decide),hu1]
    rw [e];exact tu2w aG aG
end Go.Proofs.YtbghmmnkciimdaaGreatDoor
