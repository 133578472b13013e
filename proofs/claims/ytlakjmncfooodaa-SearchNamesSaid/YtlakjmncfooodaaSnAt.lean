import Derived.Test.YtlakjmncfooodaaSnAs
import Derived.Deep.Slices
import Derived.ChangeArms
set_option linter.all false
set_option maxRecDepth 100000
namespace Go.Proofs.Ytlakjmncfooodaa
open Go Go.RowKit
variable {w:World}{B:Nat}{a:Act}{v:Value}{T:TypeId}{w0:Bs}{Γ:List (Nat × VA)}{Λ:List Lc}{ps:String}{af:Array Edge}{vr:Value}{H:Hd}{cs:List Value}{w':World}{P:Program}{D:List TypeId}
theorem dO {ops:Array Oper}{rest:List Oper}{o:Oper}{Q:Exit→Act→World→Prop}(hgd:o.guard=none)(s x:Operand)(t:TypeId)(ho:o.op=.call { callee:=.builtin .append,args := #[s,x],argTypes := #[t,t] })
  (e:TypeId) (i:TypeInfo) (z:Value) (ht:P.underlying t=some (.slice e)) (hi:P.info? e=some i) (hz:i.zero=some z) (hsize:i.size=1) (hby:i.bytes=8)
  (b:Addr) (hs:a.eval s=.slice (some b) 0 0) (ad:Addr) (m c:Nat) (news:List Value) (hx:a.eval x=.slice (some ad) m c) (hl:news.length=m) (hnews:∀ j u,news[j]?=some u→w.cell? (ad.add j)=some u) (hm:0<m) (hbytes:m*8≤140737488355328)
  (h:wpList P ops Q rest (a.put o.dst (.slice (some ⟨w.heap.size,0,none⟩) m (grownCap w m 0 e))) (w.drew.alloc (.cells (news.toArray++Builtin.zeroCells z.cells (grownCap w m 0 e-m)) e))):wpList P ops Q (o::rest) a w:=by
 refine wpList_plain hgd λ K hK=>?_
 have hr:=run_append_grow (P:=P) w t o.type e i z ht hi hz b 0 0 [] (by simp) (λ j v hj=>by simp at hj) ad m c news (by rw [hl,hsize,zJ]) hnews zo zo (growslice_fits zo (by rw [hby]; omega))
 simp only [qB,jU] at hr
 unfold Oper.wp execOp
 simp only [ho,resolve,invoke,builtin,Sem.run_bind,Sem.run_pure,Result.andThen_ok,ja,qH,x5,hs,hx,hr]
 exact hK _ _ h
theorem int_info:∃ i,Try.prog.info? 3=some i∧i.zero=some (.int .i64 0)∧i.size=1∧i.bytes=8:=by
 have h:(Try.prog.info? 3).map (λ i=>(i.zero,i.size,i.bytes))=some (some (.int .i64 0),1,8):=by kernel_rfl
 cases hi:Try.prog.info? 3 with
 | none=>rw [hi] at h; cases h
 | some i =>
  rw [hi] at h
  have h2:(i.zero,i.size,i.bytes)=(some (.int .i64 0),1,8):=Option.some.inj h
  injection h2 with h3 h4
  injection h4 with h5 h6
  exact ⟨i,rfl,h3,h5,h6⟩
set_option maxHeartbeats 2000000 in
theorem iX (b off n c:Nat)(zs:List Int)(w:World)(hn:n=zs.length)(h0:0<n)(hbig:n*8≤140737488355328)(hc:∀ j (h:j<zs.length),w.cell? ⟨b,off+j,none⟩=some (.int .i64 zs[j])) :
  Calls Try.prog 17 #[.slice (some ⟨b,off,none⟩) n c] w λ e w'=>∃ g c ext,e=.returned (.slice (some ⟨g,0,none⟩) n c)∧w.heap.size≤g∧n≤c∧c≤maxLen∧w'.heap[g]?=some (.cells ((zs.map λ (x:Int)=>Value.int .i64 x)++ext).toArray 3 (0,0))∧Grow w w':=by
 have t22:Try.prog.underlying 22=some (.slice 3):=by kernel_rfl
 obtain ⟨i0,hi,hz0,hz1,hz2⟩:=int_info
 have q22:∀ (w:World) (a:Option Addr) (n c n' c':Nat),(binOp .eql 22 (.slice a n c) (.slice none n' c')).run Try.prog w=.ok (.bool a.isNone) w:=λ w a n c n' c'=>Lib.run_eql_slice_nil w _ _ a n c n' c' t22
 have u22:∀ w,Sem.run Try.prog (underlying 22) w=.ok (TypeDesc.slice 3) w:=run_underlying t22
 have A:Aside (∀ j (h:j<zs.length),w.cell? ⟨b,off+j,none⟩=some (.int .i64 zs[j])):=hc
 have HN:Aside (n=zs.length):=hn
 clear hc hn
 go_enter Try.func17,Try.ntmps17
 go_wp2_with (at_builtin; refine dO rfl _ _ 22 rfl 3 i0 (.int .i64 0) t22 hi hz0 hz1 hz2 _ rfl ⟨b,off,none⟩ n c (zs.map λ (x:Int)=>Value.int .i64 x) rfl ?qc1 ?qc2 h0 hbig ?_)
 case qc1=>simp; exact HN.out.symm
 case qc2 =>
  intro j u hj
  have hjn:j<zs.length:=by
   have:=(List.getElem?_eq_some_iff.1 hj).1
   simpa using this
  rw [Addr.add_lit]
  refine Lib.cell?_alloc_some _ ?_
  rw [A.out j hjn]
  simpa [hjn] using hj
 go_wp2
 go_ret
 refine ⟨_,_,(Builtin.zeroCells (Value.int .i64 0).cells (grownCap (w.alloc (.cells #[] 3)) n 0 3-n)).toList,rfl,by omega,grownCap_ge _ _ _ _,grownCap_le_maxLen _ _ _ _ (by unfold maxLen; omega),?_,?_⟩
 ·have e:(w.alloc (.cells #[] 3)).heap.size=w.heap.size+1:=by simp
  rw [← e,← jJ,Array.toArray_toList]
  exact heap_alloc_new _ _
 ·exact ((Grow.alloc w _).trans (Grow.alloc _ _)).trans (Grow.drew _)
theorem gM {B:Nat}{cs:List Value}{w:World}:∀ {l:List Int},(cat (l.map InA)).p B cs w→cs=l.map λ (n:Int)=>Value.int .i64 n
 | [],⟨ps,e,h⟩=>by cases h; exact e
 | n::l,⟨ps,e,h⟩=>by
  cases h with
  | @cons _ c _ ps' h1 h2 =>
   have h3:=gM (B:=B) (w:=w) (l:=l) ⟨ps',rfl,h2⟩
   have h1':c=[.int .i64 n]:=h1
   rw [e,qH,← h3,h1']; rfl
theorem cloneI_c (l:List Int)(h0:0<l.length)(hs:l.length≤1000):CnI Try.prog 17 [(SlA 3 [] (l.map InA)).va] (λ b=>(SlP (λ g=>b≤g) 3 [] (l.map InA)).va):=by
 refine ⟨fA Try.func17 zk zk,λ B w args hB ha=>?_⟩
 obtain ⟨v,rfl,cs,⟨hD,A,c,ds,rfl,h1,h2,h3,h4⟩,hv⟩:=ha.one
 have hv':v=.slice A l.length c:=by rw [hv,← qd (f:=InA)]; rfl
 subst hv'
 obtain ⟨b,o,rfl,_,_,h5⟩:=h4 (by rw [qd]; exact h0)
 have hds:=gM h3
 refine (iX b o l.length c l w G h0 zo (λ j hj=>h5 j _ (by rw [hds]; simp [hj]))).mono λ e w' ⟨g,c',ext,he,h6,h7,h8,h9,hg⟩=>⟨_,he,⟨[.slice (some ⟨g,0,none⟩) l.length c'],⟨⟨hD,_,c',_,by rw [qd],by rw [qd]; exact h7,h8,dt l,λ _=>⟨g,0,rfl,(Array.getElem?_eq_some_iff.1 h9).1,.inr ⟨_,_,h9⟩,λ j u hu=>?_⟩⟩,λ u hu g' hg'=>?_⟩,rfl⟩,hg⟩
 ·rw [qB,cell_of_row w' g j _ 3 _ h9]
  have hj:=(List.getElem?_eq_some_iff.1 hu).1
  simp only [List.getElem?_toArray]
  rw [List.getElem?_append_left hj]
  exact hu
 ·obtain rfl:=qr.1 hu
  have:g=g':=by simpa [blk] using hg'
  omega
def SlW (l:List Int):As where
 n:=1
 ag:=false
 p B cs w:=(SlA 3 [] (l.map InA)).p B cs w∧∀ v∈cs,∀ g,blk v=some g→B≤g
 deps:=[3]
 len:=λ B cs w h=>(SlA 3 [] (l.map InA)).len B cs w h.1
 one:=λ B cs w h=>(SlA 3 [] (l.map InA)).one B cs w h.1
 ag1:=λ _=>rfl
 cg:=λ B cs w w' hg h=>⟨(SlA 3 [] (l.map InA)).cg B cs w w' hg h.1,h.2⟩
 wr:=λ B cs w w' g c T fz h1 h2 h3 h4 h=>⟨(SlA 3 [] (l.map InA)).wr B cs w w' g c T fz h1 h2 h3 h4 h.1,h.2⟩
theorem slW_A {l:List Int}:WkA (SlW l) (SlA 3 [] (l.map InA)):=⟨rfl,rfl,λ _ _ _ h=>h.1⟩
theorem free_slW {l:List Int}:FreeA (SlW l) (SlW l):=⟨rfl,rfl,λ B B' cs w hB hp=>by
 obtain ⟨⟨hD,A,c,ds,rfl,h1,h2,h3,h4⟩,h5⟩:=hp
 refine ⟨⟨hD,A,c,ds,rfl,h1,h2,by rw [gM h3]; exact dt l,λ hn=>?_⟩,λ v hv g hg=>qe hB (h5 v hv g hg)⟩
 obtain ⟨b,o,rfl,h6,h7,h8⟩:=h4 hn
 refine ⟨b,o,rfl,h6,?_,h8⟩
 rcases h7 with h7 | h7
 ·have:=h5 _ (qr.2 rfl) b rfl
  omega
 ·exact .inr h7⟩
theorem nil_slW:WkA (EqA (.slice none 0 0)) (SlW []):=⟨rfl,rfl,λ B cs w h=>by
 obtain ⟨rfl,_⟩:=h
 refine ⟨⟨(λ A hA=>by cases hA),none,0,[],rfl,qf _,zi _,⟨[],rfl,.nil⟩,λ h=>absurd h zd⟩,λ v hv g hg=>?_⟩
 obtain rfl:=qr.1 hv
 cases hg⟩
theorem eM:Str Try.prog 29 [EqA (.slice none 0 0),cat [NilI,NilI],NumA .i64 0] :=
 Str.of (z:=.agg #[.slice none 0 0,.bool false,.slice none 0 0,.bool false,.slice none 0 0,.int .i64 0]) zk Try.underlying29 zk λ B w=>⟨[[.slice none 0 0],[.bool false,.slice none 0 0,.bool false,.slice none 0 0],[.int .i64 0]],rfl,.cons ⟨rfl,rfl⟩ (.cons ⟨[[.bool false,.slice none 0 0],[.bool false,.slice none 0 0]],rfl,.cons ⟨[[.bool false],[.slice none 0 0]],rfl,.cons rfl (.cons rfl .nil)⟩ (.cons ⟨[[.bool false],[.slice none 0 0]],rfl,.cons rfl (.cons rfl .nil)⟩ .nil)⟩ (.cons rfl .nil))⟩
structure RCh where
 l:List Int
 pw:RF
 c:Int
def ch0:RCh:=⟨[],rf0,0⟩
def ChD (x:RCh):As:=cat [SlW x.l,RFD x.pw,InA x.c]
abbrev BsD (r:RCh × Int):VA:=Tu [(ChD r.1).va,In r.2]
theorem free_bsd {r:RCh × Int}:Free (BsD r) (BsD r):=iQ (.cons (cn (.cons free_slW (.cons free_rfd (.cons (cT _ _) .nil)))).va (.cons (cT _ _).va .nil))
theorem zch_d:WkA (cat [EqA (.slice none 0 0),cat [NilI,NilI],NumA .i64 0]) (ChD ch0):=bc (.cons nil_slW (.cons zf_rfd (.cons (.refl _) .nil)))
def bsW (f:Nat→WyQ):Nat→WyQ
 | 0=>⟨[],0,0,0⟩
 | k+1=>if ((((k:Nat):Int)==0) || betF (f k) (bsW f k))=true then f k else bsW f k
theorem bsW_at {f:Nat→WyQ}:∀ {k},k≠0→∃ j,j<k∧bsW f k=f j
 | 0,h=>absurd rfl h
 | k+1,_=>by
  unfold bsW
  by_cases h:((((k:Nat):Int)==0) || betF (f k) (bsW f k))=true
  ·rw [qy h]; exact ⟨k,Nat.lt_succ_self k,rfl⟩
  ·rw [qm h]
   have hk:k≠0:=λ e=>by subst e; simp at h
   obtain ⟨j,h1,h2⟩:=bsW_at (f:=f) hk
   exact ⟨j,x4 h1,h2⟩
abbrev BeO (q:Nat→Prop)(b k:Nat)(x:WyQ):As:=cat [optA k (EqA (.slice none 0 0)) (SlP q 3 [] (x.l.map InA)) ⟨rfl,rfl⟩,optA k (RFA rf0) (QA b x.pw) ⟨rfl,rfl⟩,optA k (RFA rf0) (QA b x.aw) ⟨rfl,rfl⟩,optA k (NumA .i64 0) (InA x.c) ⟨rfl,rfl⟩]
theorem be_0 {q:Nat→Prop}{b:Nat}{x:WyQ}:WkA WyZ (BeO q b 0 x):=bc (.cons opt_0 (.cons opt_0 (.cons opt_0 (.cons opt_0 .nil))))
theorem be_s {q:Nat→Prop}{b k:Nat}{x:WyQ}:WkA (WyP q b x) (BeO q b (k+1) x):=bc (.cons (opt_s (zP k)) (.cons (opt_s (zP k)) (.cons (opt_s (zP k)) (.cons (opt_s (zP k)) .nil))))
theorem be_x {q:Nat→Prop}{b k:Nat}{x:WyQ}(h:k≠0):WkA (BeO q b k x) (WyP q b x):=bc (.cons (opt_x h) (.cons (opt_x h) (.cons (opt_x h) (.cons (opt_x h) .nil))))
theorem be_k {q:Nat→Prop}{b k:Nat}{x:WyQ}(h:k≠0):WkA (BeO q b k x) (BeO q b (k+1) x):=(be_x h).trans be_s
theorem be_st {q:Nat→Prop}{b k lo hi:Nat}{x:WyQ}(hq:∀ g,q g→¬ (lo≤g∧g<hi)):StVA lo hi [3] [36,22] (BeO q b k x):=stVA_cat λ A hA=>by
 simp only [ql,zR,or_false] at hA
 rcases hA with rfl | rfl | rfl | rfl
 ·exact kD (bD zk) (λ _=>kC zd (ints_off _) hq)
 ·exact bD zk
 ·exact bD zk
 ·exact bD zk
section
open Rg
variable {P:Program} {Q:Exit→Act→World→Prop} {R:Rg} {B i:Nat} {w0:Bs}
theorem r_nilO {x:Operand}{S E:TypeId}{k:Nat}{q:Nat→Prop}{l:List Int}{h:(SlP q 3 [] (l.map InA)).n=(EqA (.slice none 0 0)).n∧(SlP q 3 [] (l.map InA)).ag=(EqA (.slice none 0 0)).ag}{yt:TypeId}(hS:P.underlying S=some (.slice E))(hx:Has R B w0 i x (optA k (EqA (.slice none 0 0)) (SlP q 3 [] (l.map InA)) h).va)(hl:k≠0→0<l.length):Wv P Q R B w0 i (.binOp .eql S x (.const (.slice none 0 0)) yt) (Bo (((k:Nat):Int)==0)) :=
 aK λ d T ps af gd a w av=>by
  obtain ⟨cs,hp,hv⟩:=hx a w av
  have e2:a.eval (.const (.slice none 0 0))=.slice none 0 0:=rfl
  rcases hp with ⟨hk,hp⟩ | ⟨hk,hp,_⟩
  ·obtain ⟨rfl,_⟩:=hp
   have e1:a.eval x=.slice none 0 0:=hv
   have hq:=Lib.run_eql_slice_nil w S E none 0 0 0 0 hS
   have hg:(eqGuard .eql S x (.const (.slice none 0 0)) (.slice none 0 0) (.slice none 0 0)).run P w=.ok () w:=by unfold eqGuard; split <;> rfl
   refine ⟨.bool true,w,?_,Grow.refl w,by subst hk; exact ci _ _ _⟩
   simp only [execOp,e1,e2,Sem.run_bind,hg,hq,Result.andThen_ok,Sem.run_pure]
   rfl
  ·obtain ⟨_,A,c,ds,rfl,_,_,_,h4⟩:=hp
   obtain ⟨b,o,rfl,_⟩:=h4 (by rw [qd]; exact hl hk)
   have e1:a.eval x=.slice (some ⟨b,o,none⟩) (l.map InA).length c:=hv
   have hq:=Lib.run_eql_slice_nil w S E (some ⟨b,o,none⟩) (l.map InA).length c 0 0 hS
   have hg:(eqGuard .eql S x (.const (.slice none 0 0)) (.slice (some ⟨b,o,none⟩) (l.map InA).length c) (.slice none 0 0)).run P w=.ok () w:=by unfold eqGuard; split <;> rfl
   refine ⟨.bool false,w,?_,Grow.refl w,?_⟩
   ·simp only [execOp,e1,e2,Sem.run_bind,hg,hq,Result.andThen_ok,Sem.run_pure]
    rfl
   ·rw [show (((k:Nat):Int)==0)=false from by simpa using hk]
    exact ci _ _ _
theorem r_callI {f':FuncId}{pre:List VA}{mk:Nat→VA}{A:VA}{xs:List Operand}{at_:Array TypeId}(hc:CnI P f' pre mk)(hx:HasL R B w0 i xs pre)(hm:∀ b,w0.w.heap.size≤b→Wk (mk b) A):Wv P Q R B w0 i (.call ⟨.value (.func f'),xs.toArray,at_⟩) A:=by
 intro d T' ps af gd a w av K hK
 obtain ⟨⟨fn,hf,hn,hb⟩,hcall⟩:=hc
 have hrun:(execOp a.eval ⟨some d,.call ⟨.value (.func f'),xs.toArray,at_⟩,T',ps,af,gd⟩).run P w=.ok (.enter f' (xs.map a.eval).toArray) w:=by
  have e1:a.eval (.func f')=.func (.func f') #[] #[]:=rfl
  simp only [execOp,resolve,e1,Deferred.ofValue,Sem.run_bind,Sem.run_pure,Result.andThen_ok,invoke,aX hf hn hb]
  simp
 unfold Oper.wp
 rw [hrun]
 refine (hcall B w _ (Av.bw av) (hx.all av)).mono λ e w' ⟨v,he,h1,hg⟩=>?_
 subst he
 exact hK v w' hg (hm _ av.base.size _ _ _ h1)
end
theorem all_nil (t:RTk):CnI Try.prog 15 [(TkO t).va,EqV (.slice none 0 0)] (λ b=>ItB b 31 (alC t []) alDs (al_D t [])) :=
 ⟨(all_c t []).1,λ B w args hB ha=>(all_c t []).2 B w args hB (by
  obtain ⟨v1,v2,rfl,h1,h2⟩:=All2.two ha
  have h2':v2=.slice none 0 0:=h2
  subst h2'
  exact .cons h1 (.cons ⟨_,⟨trivial,(λ A hA=>by cases hA),none,0,[],rfl,qf _,zi _,⟨[],rfl,.nil⟩,λ h=>absurd h zd⟩,rfl⟩ .nil))⟩
abbrev WyW (b:Nat)(x:WyQ):As:=cat [SlW x.l,QA b x.pw,QA b x.aw,InA x.c]
theorem wyP_new {q:Nat→Prop}{b B:Nat}{x:WyQ}(hq:∀ g,q g→B≤g)(h:(WyP q b x).p B cs w):(WyW b x).p B cs w:=by
 obtain ⟨ps,rfl,h2⟩:=h
 refine ⟨ps,rfl,?_⟩
 cases h2 with
 | cons h1 h2=>exact .cons ⟨h1.1,λ v hv g hg=>hq g (h1.2 v hv g hg)⟩ h2
def bstN (t:RTk):WyQ:=bsW (λ k=>wayW t (exW t.ps.length [] (t.sp.length-1) 0 k)) (cntW t.ps.length 0 (t.sp.length-1) 0)
def bestF (t:RTk):RCh × Int:=if (ckF t != 0)=true then (ch0,ckF t) else if longQ (bstN t).pw=true then (ch0,4) else (⟨(bstN t).l,rfOf (bstN t).pw,(bstN t).c⟩,0)
theorem one_lg {x:Rat}:[x].any longQ=longQ x:=by simp
set_option maxHeartbeats 2000000 in
theorem best_c (t:RTk):Cn Try.prog 4 [(TkA t).va] (BsD (bestF t)):=by
 refine Cn.introR Try.func4 G zk nq (.cons (cp t).va .nil) free_bsd (λ B w0 a hB0 hN0 U=>?_)
 have U:=zn [(0,(TkO t).va)] [] U
 refine qb<|zg [] [⟨1,36,ptrH,some 0,_,none⟩,⟨2,29,ptrH,some 1,_,none⟩] [.alc 0,.alc 1,.v 3 _] [.o 2] U (zW 0 G (zY G (Str.zero eM) (zv G (a6 a5) o0))) (zz [(3,_)] [O 1 36 _,O 2 29 _] λ a w U=>?_)
 refine zt<|qb<|zg [η,η] [] [.v 8 _,.v 9 _,.v 4 _] [.g 0,.o 2] U (zl 0 G bG (zQ G ((c6 t).wk (.cons tko_A.va .nil)) (.o (vq 0 G)) (zA 1 G o0))) (zz [(3,_),(4,_)] [O 1 36 _,O 2 29 _] λ a w U=>?_)
 refine zt<|zg [η,η] [] [.v 10 _,.v 11 _] [.g 0,.g 1,.o 1] U (zM 1 G (zv G (bM (vq 0 G) a5) o0)) (zz [(3,_),(4,_),(11,_)] [O 1 36 _,O 2 29 _] λ a w U=>?_)
 refine a4<|aa U (zm 2 G) (λ hb0=>?_) (λ hb0=>?_)
 ·refine qb<|zg [η,some (2,_)] [] [.v 12 _,.v 13 _,.sto 1,.v 3 _] [.o 3] U (zv G (aO (qs:=[]) eM .nil) (zM 1 G (zS 0 G g7 (zA 1 G o0)))) (zz [(3,_)] [O 1 36 _,O 2 29 _] λ a w U=>?_)
  refine a4<|qh<|ac ?_
  refine an ?_ (aM (rs:=[.cell 2 29,.tmp 3]) G U (.cell (zm 1 G) g7 (.tmp (zm 0 G) .nil)) zd)
  rw [show bestF t=(ch0,ckF t) from qy hb0]; exact tu2w zch_d.va aC
 ·have hck:ckF t=0:=by simpa using hb0
  obtain ⟨hs2,hs13,hp1,_⟩:=hd_b (eB hck).1
  obtain ⟨nn,hnn⟩:∃ nn,t.sp.length=nn+1:=⟨t.sp.length-1,by omega⟩
  have hn12:nn≤12:=by omega
  have hcp:0<cntW t.ps.length 0 nn 0:=ec zo _ _
  have hbN:bstN t=bsW (λ k=>wayW t (exW t.ps.length [] nn 0 k)) (cntW t.ps.length 0 nn 0):=by unfold bstN; rw [hnn]; rfl
  refine qk<|zt<|zg [η,η] [⟨5,59,ptrH,some 0,_,none⟩] [.alc 2] [.g 0] U (zY G (Str.zero cK) o0) (zz [(3,_)] [O 1 36 _,O 2 29 _,O 5 59 _] λ a w U=>?_)
  refine zt<|qb ?_
  obtain ⟨q2,U⟩:=St.nm U 1 rfl
  obtain ⟨q5,U⟩:=St.nm U 2 rfl
  refine zg [η,η,η] [] [.v 14 _,.v 15 _] [.g 0,.g 1,.g 2,.o 1] U (zl 0 G bG (zv G (gm [(2,q2),(5,q5)] (all_nil t) (.cons (vq 0 G) (.cons be .nil)) (.cons (gq 1 G) (lz0 1 G) (.cons (gq 0 G) (lz0 2 G) .nil))) o0)) (zz [(5,_),(2,_),(3,_),(15,_)] [O 1 36 _,O 2 29 _,O 5 59 _] λ a w U=>?_)
  obtain ⟨gb,U,hds⟩:=St.itm (ps:=[(2,q2),(5,q5)]) 3 [1,0] U rfl ⟨rfl,rfl,trivial⟩
  have U:=zn [(5,_),(2,_),(3,_),(15,_)] [O 1 36 _,O 2 29 _,O 5 59 _] U
  refine a4<|qt ?_
  have U:=St.selL U [1,2]
  refine dV (k0:=3) (gb:=gb) (Dd:=[36,22,79,80,U32,27,82]) (Db:=[29,59]) (Tp:=[3]) [⟨2,29,ptrH,cat [EqA (.slice none 0 0),cat [NilI,NilI],NumA .i64 0]⟩,⟨5,59,ptrH,WyZ⟩] (λ hi k=>[⟨2,29,ptrH,cat [EqA (.slice none 0 0),cat [NilI,NilI],NumA .i64 0]⟩,⟨5,59,ptrH,BeO (λ g=>hi≤g∧B≤g) (Wk26 nn) k (bsW (λ k=>wayW t (exW t.ps.length [] nn 0 k)) k)⟩]) none (λ _=>none) U hB0 hN0 rfl (kn hck hnn ⟨zi _,λ x hx=>by cases hx⟩ gb) (M:=cntW t.ps.length 0 nn 0) (Y:=λ k=>[(WyX t nn (exW t.ps.length [] nn 0 k)).va]) (λ h=>by cases h) zk [] zk trivial (λ hi k=>by kernel_rfl) (λ lo hi k hk hlo hw=>stVL ⟨bD zk,be_st (λ g hg h=>by omega),trivial⟩) (λ _=>by kernel_rfl) zk [2,5] (λ _ k=>by kernel_rfl) zk zk hds (λ L hL=>by cases hL) (λ _ L hL=>by cases hL) (λ _=>rfl) zd zk (λ hi Γ a W hhi h=>St.wkL h 1 rfl be_0) hcp (λ l lo hi k a1 Ws hk hlo1 hlo2 hhi hBs hct U=>?_) (λ hi a w U=>?_) (λ L hL=>by cases hL) (λ _ L hL=>by cases hL)
  ·obtain ⟨a0,rfl⟩:∃ x,x=a:=⟨_,rfl⟩; have hlw:0<(wayW t (exW t.ps.length [] nn 0 k)).l.length:=by show 0<(List.map _ _).length; rw [qd,gJ]; omega
   have U:St B (rndB B [29,59] (gb++List.range' lo (hi-lo)) Ws Ws) 46 [(16,_),(2,_),(5,_)] [⟨2,29,ptrH,cat [EqA (.slice none 0 0),cat [NilI,NilI],NumA .i64 0]⟩,⟨5,59,ptrH,BeO (λ g=>hi≤g∧B≤g) (Wk26 nn) k (bsW (λ k=>wayW t (exW t.ps.length [] nn 0 k)) k)⟩] a1 Ws:=U
   refine eQ 0 [0,1,2] U G G G zk (cv λ _ _ h=>h) (Str.zero cK) G dx G zd G zk zk (λ a w U=>?_)
   have U:St B (rndB B [29,59] (gb++List.range' lo (hi-lo)) Ws Ws) 46 [(16,_),(2,_),(5,_)] [O 2 29 _,O 5 59 _,O 6 59 _] a w:=U
   refine a4<|⟨U.base,λ W3 hbg=>?_⟩
   have hlw2:(wayW t (exW t.ps.length [] nn 0 k)).l.length≤1000:=by show (List.map _ _).length≤1000; rw [qd,gJ]; omega
   have hlb:k≠0→0<(bsW (λ k=>wayW t (exW t.ps.length [] nn 0 k)) k).l.length:=λ hk0=>by
    obtain ⟨j,_,hj⟩:=bsW_at (f:=(λ k=>wayW t (exW t.ps.length [] nn 0 k))) hk0
    rw [hj]; show 0<(List.map _ _).length; rw [qd,gJ]; omega
   have hW3a:=U.base.size
   have hW3b:W3.heap.size=w.heap.size:=by obtain ⟨_,_,_,he⟩:=hbg; rw [he,World.putObj_size]
   have hW3:hi≤W3.heap.size:=by rw [hW3b]; exact qe hhi hW3a
   have hB3:B≤W3.heap.size:=by rw [hW3b]; exact qe hBs hW3a
   have U:=St.begin U (qf _) hBs hbg
   refine wpIn_block ?_
   refine wpIn_seq ?_
   refine cF (sts:=[none,none,none]) (news:=[]) (sp:=[.adr 17 5 (.some 0) True,.v 18 _,.v 19 _,.v 20 _,.f 21 _,.f 22 _,.f 23 _,.v 24 _]) [.g 0,.g 1,.g 2,.o 7] zk (cv λ _ _ h=>h) U (zO 1 G dm (zL 0 1 0 G dD (zv G (r_nilO Try.underlying22 (vq 1 G) hlb) (zv G (a7 (vq 2 G)) (zB 3 G (λ hg=>d0 (lz0 2 G) dx) (zB 3 G (λ hg=>d0 (lz0 1 G) dx) (zB 3 G (λ hg=>aW ((better_c (dC hn12) _ _).wk (.cons aC (.cons ((be_x (k_ne hg)).trans wyP_A).va .nil))) (.p (a9 (vq 4 G) hg) (a9 (vq 5 G) hg))) (zv G (r_or (vq 3 G) (vq 6 G)) o0)))))))) zk zk zk (λ a w U=>?_)
   have U:St B (rndB B [29,59] (gb++List.range' lo (hi-lo)) Ws W3) 46 [(16,_),(2,_),(5,_),(24,_)] [O 2 29 _,O 5 59 _,O 6 59 _] a w:=U
   refine a4<|eC (λ a w =>  St B (rndB B [29,59] (gb++List.range' lo (hi-lo)) Ws W3) 46 [(2,EqV (a0.eval (.tmp 2))),(5,EqV (a0.eval (.tmp 5)))] [⟨2,29,ptrH,cat [EqA (.slice none 0 0),cat [NilI,NilI],NumA .i64 0]⟩,⟨5,59,ptrH,BeO (λ g=>hi≤g∧B≤g) (Wk26 nn) (k+1) (bsW (λ k=>wayW t (exW t.ps.length [] nn 0 k)) (k+1))⟩,⟨6,59,ptrH,WyX t nn (exW t.ps.length [] nn 0 k)⟩] a w) U (zm 3 G) (λ hb1=>?_) (λ hb1=>?_) (λ a w U=>?_)
   ·refine wpIn_seq ?_
    refine cF (sts:=[none,none,some (4,_)]) (news:=[]) (sp:=[.adr 25 6 (.some 0) True,.v 26 _,.v 27 _,.adr 28 6 (.some 0) True,.sto 2]) [.g 0,.g 1,.g 2] zk (cv λ _ _ h=>h) U (zO 2 G dm (zL 0 2 0 G dD (zv G (r_callI (A:=(SlP (λ g=>hi≤g∧B≤g) 3 [] ((wayW t (exW t.ps.length [] nn 0 k)).l.map InA)).va) (cloneI_c _ hlw hlw2) (.o (vq 1 G)) (λ b hb=>(slP_mono (λ g hg=>⟨qe hW3 (qe hb hg),qe hB3 (qe hb hg)⟩)).va)) (zO 2 G dm (oc (bU 3 G G G G zk (vq 2 G) dD (Put.part 0 G G G)) o0))))) zk zk zk (λ a w U=>?_)
    have U:St B (rndB B [29,59] (gb++List.range' lo (hi-lo)) Ws W3) 46 [(16,_),(2,_),(5,_)] [O 2 29 _,O 5 59 _,O 6 59 _] a w:=U
    refine a4<|cF (sts:=[none,some (1,_),none]) (news:=[]) (sp:=[.v 29 _,.sto 1]) [.g 0,.g 1,.g 2] zk (cv λ _ _ h=>h) U (zl 2 G dx (zS 0 G dx o0)) zk zk zk (λ a w U=>?_)
    have U:St B (rndB B [29,59] (gb++List.range' lo (hi-lo)) Ws W3) 46 [(16,_),(2,_),(5,_)] [O 2 29 _,O 5 59 _,O 6 59 _] a w:=U
    refine a4 ?_
    have U:=St.sel U [1,2]
    have U:=St.wkL U 2 rfl wyP_A
    exact St.wkL U 1 G (by rw [show bsW (λ k=>wayW t (exW t.ps.length [] nn 0 k)) (k+1)=wayW t (exW t.ps.length [] nn 0 k) from qy hb1]; exact be_s)
   ·refine wpIn_skip ?_
    refine a4 ?_
    have U:=St.sel U [1,2]
    exact St.wkL U 1 G (by rw [show bsW (λ k=>wayW t (exW t.ps.length [] nn 0 k)) (k+1)=bsW (λ k=>wayW t (exW t.ps.length [] nn 0 k)) k from qm (λ h=>Bool.noConfusion (xA hb1.symm h))]; exact be_k (k_ne2 hb1))
   refine ai ?_
   have U:=St.selL U [0,1]
   exact ⟨(λ h=>by cases h),gj [0,1] U ⟨rfl,⟨rfl,trivial⟩⟩⟩
  ·have U:=zn [] [O 2 29 _,O 5 59 _] U
   obtain ⟨m,hm⟩:∃ m,cntW t.ps.length 0 nn 0=m:=⟨_,rfl⟩
   rw [hm] at U hcp
   have U:=St.wkL U 1 rfl (be_x zo)
   have U:=St.upL U 1 rfl (λ cs h=>wyP_new (λ g hg=>hg.2) h)
   refine ai ?_
   refine zt<|qb<|zg [η,η] [] [.adr 30 5 (.some 1) True,.v 31 _,.v 32 _,.v 33 _,.v 7 _] [.o 4] U (zO 1 G cU (zL 0 1 1 G ar (zv G (aV (D:=[U32]) (l:=[_]) (xs:=[.tmp 31]) (bN zk) dF zk (n_ok zk) nq nq nq (.o (vq 1 G)) G G) (zQ G (gO [(bsW (λ k=>wayW t (exW t.ps.length [] nn 0 k)) m).pw] (.cons ⟨_,rfl⟩ .nil) nq) (.o (vq 2 G)) (zA 3 G o0))))) (zz [(7,_)] [O 2 29 _,O 5 59 _] λ a w U=>?_)
   refine zt<|zg [η,η] [] [.v 34 _,.v 35 _] [.g 0,.o 1] U (zM 0 G (zv G (bM (vq 0 G) a5) o0)) (zz [(7,_),(35,_)] [O 2 29 _,O 5 59 _] λ a w U=>?_)
   refine a4<|aa U (zm 1 G) (λ hb2=>?_) (λ hb2=>?_)
   ·rw [gQ,one_lg] at hb2
    refine qb<|zg [some (2,_),η] [] [.v 36 _,.v 37 _,.sto 0,.v 3 _] [.o 3] U (zv G (aO (qs:=[]) eM .nil) (zM 0 G (zS 0 G g7 (zA 1 G o0)))) (zz [(3,_)] [O 2 29 _,O 5 59 _] λ a w U=>?_)
    refine a4<|qh<|ac ?_
    refine an ?_ (aM (rs:=[.cell 2 29,.tmp 3]) G U (.cell (zm 0 G) g7 (.tmp (zm 0 G) .nil)) zd)
    have e:bestF t=(ch0,4):=by rw [bestF,qm (by rw [hb0]; decide),qy (by rw [hbN,hm]; exact hb2)]
    rw [e]; exact tu2w zch_d.va (cd (by rw [one_lg,hb2]; rfl))
   ·rw [gQ,one_lg] at hb2
    refine qk<|zt<|zgd [[],[0],[],[2],[2,3],[],[5],[0,1,2,3,4,5,6],[0,1,2,3,4,5,6,7],[0,1,2,3,4,5,6,7,8]] [some (8,_),none] [] [.adr 38 5 (.some 0) True,.v 39 _,.adr 40 5 (.some 1) True,.v 41 _,.v 42 _,.adr 43 5 (.some 9) True,.v 44 _,.v 45 _,.sto 0,.v 3 _] [.o 9] a8 U (zO 1 G dm (zL 0 1 0 G dD (zO 1 G cU (zL 2 1 1 G ar (zQ G (iU (qe (dC hn12) zd)) (.o (vq 3 G)) (zO 1 G dX (zL 5 1 3 G ty_3 (zv G (aO (qs:=[(0,_),(1,_),(2,_)]) eM (.cons ⟨rfl,vq 1 rfl,rfl⟩ (.cons ⟨rfl,vq 4 rfl,rfl⟩ (.cons ⟨rfl,vq 6 rfl,rfl⟩ .nil)))) (zS 7 G g7 (zv G (a6 a5) o0)))))))))) zk zk zk zk (zz [(3,_)] [O 2 29 _,O 5 59 _] λ a w U=>?_)
    refine a4<|qh<|an ?_ (aM (rs:=[.cell 2 29,.tmp 3]) G U (.cell (zm 0 G) g7 (.tmp (zm 0 G) .nil)) zd)
    have e:bestF t=(⟨(bsW (λ k=>wayW t (exW t.ps.length [] nn 0 k)) m).l,rfOf (bsW (λ k=>wayW t (exW t.ps.length [] nn 0 k)) m).pw,(bsW (λ k=>wayW t (exW t.ps.length [] nn 0 k)) m).c⟩,0):=by rw [bestF,qm (by rw [hb0]; decide),qm (by rw [hbN,hm,hb2]; decide),hbN,hm]
    rw [e]; exact tu2w (bc (.cons (.refl _) (.cons qd_rfd (.cons (.refl _) .nil)))).va aC
theorem app_elem:∃ it z,Try.prog.info? 50=some it∧it.zero=some z∧it.size=9∧it.bytes=136∧z.cells.size=9:=by
 have h:((Try.prog.info? 50).bind λ it=>it.zero.map λ z=>(it.size,it.bytes,z.cells.size))=some (9,136,9):=by kernel_rfl
 cases hi:Try.prog.info? 50 with
 | none=>rw [hi] at h; simp at h
 | some it =>
  rw [hi] at h
  cases hz:it.zero with
  | none=>simp [hz] at h
  | some z =>
   simp [hz] at h
   exact ⟨it,z,rfl,hz,h.1,h.2.1,h.2.2⟩
theorem newR_own {b:Nat}{E:TypeId}{m:Nat}{l:List As}(h1:∀ A∈l,A.n=m)(h2:∀ A∈l,∀ T∈A.deps,T∈D)(h3:l.length≤1000):Wk (NewR b E l) (OwnR b E m D l):=λ B v w ⟨g,ds,e1,e2,e3,e4⟩=>by
 have hl:ds.length=l.length*m:=by
  rw [(cat l).len _ _ _ e4]
  have:=offs_all h1 (qf l.length)
  unfold offs at this
  rw [qN] at this
  exact this
 refine ⟨h1,h2,ds,e4,by simp [hl],.inr ⟨g,l.length,ds.toArray,e1,e2,e3,qf _,by unfold maxLen; omega,by simp [hl],by rw [← hl]; simp⟩⟩
theorem el_back {x:RE}(h:elF x=true):WkA (cat [NumA .u8 x.k,QA 2048 (toQ x.p),QA 2048 (toQ x.q)]) (REA x):=by
 have h2:=(dq h).1
 simp only [xF,xK,xG,qi] at h2
 exact bc (.cons (.refl _) (.cons (qaA.trans (eX (qu RFA (okX_q h2.1).1.symm))) (.cons (qaA.trans (eX (qu RFA (okX_q h2.2).1.symm))) .nil)))
def bnF (t:RTk)(xs:List Int):List RE × Int:=if (ckF t != 0)=true then ([],ckF t) else if (!whF t xs)=true then ([],1) else (benW t (natL xs),0)
theorem ben_nx {t:RTk}{l:List Nat}{j:Nat}(h:j<l.length):benW t (l.take (j+1))=benW t (l.take j)++[(t.ps.getD l[j] ⟨⟨#[]⟩,⟨0,rf0,rf0⟩,0⟩).e,spE (t.sp.getD (j+1) rf0)]:=by
 rw [qp h]
 unfold benW
 rw [iy,qE,zT,xf zo]
 simp
theorem ben_0 (t:RTk):benW t []=[spE (t.sp.getD 0 rf0)]:=rfl
theorem ck_el {t:RTk}(h:ckF t=0){j:Nat}(hj:j<t.sp.length):okX t.sp[j]=true:=by
 have h2:=qc.1 (eB h).2.1 _ (qg hj)
 unfold spF at h2
 simp only [qq,qJ,qn] at h2
 by_cases h3:okX t.sp[j]=true
 ·exact h3
 ·have:=h2.1
  rw [qm h3] at this
  exact absurd this zd
theorem benW_len (t:RTk)(l:List Nat):(benW t l).length=2*l.length+1:=by
 unfold benW
 rw [qE,benP_len]; rfl
theorem sl_natA {l:List Int}{m:List Nat}(h:l=m.map (λ (k:Nat)=>(k:Int))):SlA 3 [] (l.map InA)=SlA 3 [] (m.map λ (k:Nat)=>InA (k:Int)):=by rw [h,xa]; rfl
theorem rfa_c {x:RF}(h:okX x=true):Cn Try.prog 19 [(RFA x).va] (QA 2048 (toQ x)).va:=(copy_q (c:=2048) zd).wk (.cons (qa_x h (qf _)).va .nil)
set_option maxHeartbeats 2000000 in
theorem bench_c (t:RTk)(xs:List Int):Cn Try.prog 7 [(TkA t).va,(SlA 3 [] (xs.map InA)).va] (Tu [(SlA 50 [U32] ((bnF t xs).1.map REA)).va,In (bnF t xs).2]):=by
 obtain ⟨it,z,e1,e2,e3,e4,e5⟩:=app_elem
 refine Cn.intro Try.func7 G zk nq (λ B w0 a U=>?_)
 have U:=zn [(0,(TkA t).va),(1,(SlA 3 [] (xs.map InA)).va)] [] U
 refine qb<|zg [] [⟨2,36,ptrH,some 0,_,none⟩] [.alc 0,.v 4 _,.v 5 _] [.g 1,.o 1,.o 2] U (zW 0 G (zv G (a6 be) (zv G (a6 a5) o0))) (zz [(1,_),(4,_),(5,_)] [O 2 36 _] λ a w U=>?_)
 refine zt<|qb<|zg [η] [] [.v 11 _,.v 12 _,.v 6 _] [.g 0,.g 1,.g 2,.o 2] U (zl 0 G bG (zQ G (c6 t) (.o (vq 0 G)) (zA 1 G o0))) (zz [(1,_),(4,_),(5,_),(6,_)] [O 2 36 _] λ a w U=>?_)
 refine zt<|zg [η] [] [.v 13 _,.v 14 _] [.g 0,.g 1,.g 2,.g 3,.o 1] U (zM 3 G (zv G (bM (vq 0 G) a5) o0)) (zz [(1,_),(4,_),(5,_),(6,_),(14,_)] [O 2 36 _] λ a w U=>?_)
 refine a4<|aa U (zm 4 G) (λ hb0=>?_) (λ hb0=>?_)
 ·refine qb<|zg [η] [] [.v 15 _,.v 4 _,.v 5 _] [.g 0,.o 1,.o 2] U (zM 3 G (zv G (a6 be) (zA 0 G o0))) (zz [(1,_),(4,_),(5,_)] [O 2 36 _] λ a w U=>?_)
  refine a4<|qh<|ac ?_
  refine an ?_ (aM (rs:=[.tmp 4,.tmp 5]) G U (.tmp (zm 1 G) (.tmp (zm 2 G) .nil)) zd)
  rw [show bnF t xs=([],ckF t) from qy hb0]; exact tu2w nil_sl aC
 ·have hck:ckF t=0:=by simpa using hb0
  obtain ⟨hs2,hs13,hp1,_⟩:=hd_b (eB hck).1
  obtain ⟨nn,hnn⟩:∃ nn,t.sp.length=nn+1:=⟨t.sp.length-1,by omega⟩
  have hn12:nn≤12:=by omega
  have h00:0<t.sp.length:=by omega
  have h0:=ck_el hck h00
  refine qk<|zt<|qb<|zg [η] [] [.v 16 _,.v 17 _,.v 18 _,.v 19 _] [.g 0,.g 1,.g 2,.o 3] U (zl 0 G bG (zM 0 G (zQ G (iC t xs) (.p (vq 0 G) (vq 1 G)) (zv G (fh (vq 2 G)) o0)))) (zz [(1,_),(4,_),(5,_),(19,_)] [O 2 36 _] λ a w U=>?_)
  refine a4<|aa U (zm 3 G) (λ hb1=>?_) (λ hb1=>?_)
  ·refine qb<|zg [η] [] [.v 4 _,.v 5 _] [.g 0,.o 0,.o 1] U (zv G (a6 be) (zv G (a6 a5) o0)) (zz [(1,_),(4,_),(5,_)] [O 2 36 _] λ a w U=>?_)
   refine a4<|qh<|ac ?_
   refine an ?_ (aM (rs:=[.tmp 4,.tmp 5]) G U (.tmp (zm 1 G) (.tmp (zm 2 G) .nil)) zd)
   have e:bnF t xs=([],1):=by rw [bnF,qm (by rw [hb0]; decide),qy hb1]
   rw [e]; exact tu2w nil_sl aC
  ·obtain ⟨hxe,hxl,hxp⟩:=wh_nat (by simpa using hb1) hnn hn12
   obtain ⟨u1,hu1⟩:∃ l,natL xs=l:=⟨_,rfl⟩
   rw [hu1] at hxe hxl hxp
   refine qk<|zt ?_
   have U:=St.wkG U 0 rfl (cd (qu As.va (sl_natA hxe)))
   have U:=zn [(1,_),(4,_),(5,_),(19,_)] [O 2 36 _] U
   refine zg [η] [] [.adr 20 2 (.some 0) True,.v 21 _,.v 22 _,.v 23 _,.v 24 _,.v 25 _,.v 7 _] [.g 0,.g 1,.g 2,.o 6] U (zO 0 G bF (zL 0 0 0 G el (zv G (cy dF (cE λ _=>rfl) (vq 1 G) (aB 0 G) (cb h00)) (zv G (al (vq 2 G) ar) (zQ G (space_c h0) (.o (vq 3 G)) (zv G (gk (l:=[_]) (xs:=[.tmp 24]) sl_40 zk (n_ok zk) nq nq nq (.o (vq 4 G)) G G) (zA 5 G o0))))))) (zz [(1,_),(4,_),(5,_),(7,_)] [O 2 36 _] λ a w U=>?_)
   have U:=St.wkG U 3 rfl (newR_own (m:=9) (D:=[U32]) (λ A hA=>by obtain rfl:=qr.1 hA; rfl) (bN zk) nq)
   have U:=zn [(1,_),(4,_),(5,_),(7,_)] [O 2 36 _] U
   refine zt<|qb<|zg [η] [] [.v 26 _,.v 27 _,.v 28 _] [.g 1,.g 2,.g 3,.o 0,.o 1,.o 2] U (zM 0 G (zv G (bH Try.underlying22 (vq 0 G)) (zv G (a7 a5) o0))) (zz [(4,_),(5,_),(7,_),(26,_),(27,_),(28,_)] [O 2 36 _] λ a w U=>?_)
   refine a4<|qt ?_
   have U:=St.sel U [3,4,5,2]
   refine wp_loop_ghost (λ n a w=>∃ j:Nat,n+j=nn∧St B w0 60 [(26,(SlA 3 [] (u1.map λ (k:Nat)=>InA (k:Int))).va),(27,In (nn:Nat)),(28,In (j:Nat)),(7,OwnR w0.w.heap.size 50 9 [U32] ((benW t (u1.take j)).map REA))] [⟨2,36,ptrH,TkA t⟩] a w) (nn) ?_ ?_
   ·rw [qd,hxl] at U
    exact ⟨0,by omega,by rw [show u1.take 0=[] from rfl,ben_0,show t.sp.getD 0 rf0=t.sp[0] from by simp [List.getD,h00]]; exact U⟩
   intro n a w hI
   obtain ⟨j,hn,U⟩:=hI
   refine qb<|zg [η] [] [.v 29 _] [.g 0,.g 1,.g 2,.g 3,.o 0] U (zv G (aY (gq 2 G) (gq 1 G)) o0) (zz [(26,_),(27,_),(28,_),(7,_),(29,_)] [O 2 36 _] λ a w U=>?_)
   refine zt<|aa U (zm 4 G) (λ hb2=>?_) (λ hb2=>?_)
   ·have hj:j<u1.length:=by have:=qw hb2; omega
    have hkp:u1[j]<t.ps.length:=hxp _ (qg hj)
    have hpj:t.ps.getD u1[j] ⟨⟨#[]⟩,⟨0,rf0,rf0⟩,0⟩=t.ps[u1[j]]:=by simp [List.getD,hkp]
    have hpe:elF t.ps[u1[j]].e=true:=by rw [← hpj]; exact dn_p hck hkp
    have hpp:=(dq hpe).1
    simp only [xF,xK,xG,qi] at hpp
    have hsl:j+1<t.sp.length:=by omega
    have hsj:t.sp.getD (j+1) rf0=t.sp[j+1]:=by simp [List.getD,hsl]
    have h1:=ck_el hck hsl
    refine qk<|zt<|qt<|qb<|zg [η] [] [.v 30 _,.v 31 _,.v 32 _,.v 8 _,.v 9 _] [.g 0,.g 1,.g 2,.g 3,.o 3,.o 4] U (zM 2 G (zv G (cy cD (cE λ _=>rfl) (gq 0 G) (gq 2 G) (cb hj)) (zv G (al (vq 1 G) ty_3) (zA 0 G (zA 2 G o0))))) (zz [(26,_),(27,_),(28,_),(7,_),(8,_),(9,_)] [O 2 36 _] λ a w U=>?_)
    refine zt<|eA (sp:=[.adr 33 2 (.some 1) True,.v 34 _,.v 35 _,.v 36 _,.v 37 _,.v 38 _,.skp,.skp]) 6 2 99 6 OneC [.g 0,.g 1,.g 2,.g 3,.g 4,.o 5] U (zO 0 G bE (zL 0 0 1 G ek (zM 5 G (zv G (cy i6 (cE λ _=>rfl) (vq 1 G) (vq 2 G) (cb hkp)) (zv G (bv (vq 3 G) gG (Sub.part 1 G G)) (zv G (al (vq 4 G) fZ) o0)))))) G zd zk zk (zz [(26,_),(27,_),(28,_),(7,_),(8,_),(38,_)] [O 2 36 _] λ a w U=>?_)
    rw [show List.range' 6 2=[6,7] from rfl]
    refine op_newS 5 [0,1,2,3,4] G G U (Str.zero df) G fZ G zd zk zk zk (λ a w U=>?_)
    refine dc ?_
    have U:=zn [(26,_),(27,_),(28,_),(7,_),(8,_)] [O 2 36 _,O 10 50 _] U
    have U:=St.ofPtr U 1 rfl
    have U:=zn [(10,_),(26,_),(27,_),(28,_),(7,_),(8,_)] [O 2 36 _] U
    refine a4<|go_appM (sp:=[.v 39 _,.v 40 _,.v 41 _,.v 42 _,.v 43 _,.v 44 _,.v 45 _,.v 46 _,.v 47 _,.v 48 _,.adr 49 2 (.some 0) True,.v 50 _,.v 51 _,.v 52 _,.v 53 _,.v 54 _,.v 55 _,.v 56 _,.v 57 VT,.v 7 VT]) [[],[],[1],[],[3],[3,4],[],[6],[3,4,5,6,7],[1,2,3,4,5,6,7,8],[],[10],[],[12],[10,11,12,13],[10,11,12,13,14],[3,4,5,6,7,8,10,11,12,13,14,15],[1,2,3,4,5,6,7,8,9,10,11,12,13,14,15,16],[0,1,2,3,4,5,6,7,8,9,10,11,12,13,14,15,16,17],[0,1,2,3,4,5,6,7,8,9,10,11,12,13,14,15,16,17,18]] 18 [1,2,3] 0 17 a8 U (zM 4 rfl (zv rfl (bv (gq 0 rfl) dn (Sub.part 0 rfl rfl)) (zv rfl (al (vq 1 rfl) ty_48) (zv rfl (bv (gq 0 rfl) cV (Sub.part 1 rfl rfl)) (zv rfl (al (vq 3 rfl) ar) (zQ rfl (rfa_c hpp.1) (.o (vq 4 rfl)) (zv rfl (bv (gq 0 rfl) dY (Sub.part 2 rfl rfl)) (zv rfl (al (vq 6 rfl) ar) (zQ rfl (rfa_c hpp.2) (.o (vq 7 rfl)) (zv rfl ((aO (qs:=[(0,NumA .u8 t.ps[u1[j]].e.k),(1,QA 2048 (toQ t.ps[u1[j]].e.p)),(2,QA 2048 (toQ t.ps[u1[j]].e.q))]) df (.cons ⟨rfl,vq 2 rfl,rfl⟩ (.cons ⟨rfl,vq 5 rfl,rfl⟩ (.cons ⟨rfl,vq 8 rfl,rfl⟩ .nil)))).wk (el_back hpe).va) (zO 0 rfl bF (zL 10 0 0 rfl el (zM 5 rfl (zv rfl (aU (vq 12 rfl) a5 ((wi64 zo zo).trans (by omega:(_:Int)=((j+1:Nat):Int)))) (zv rfl (cy dF (cE λ _=>rfl) (vq 11 rfl) (vq 13 rfl) (cb hsl)) (zv rfl (al (vq 14 rfl) ar) (zQ rfl (space_c h1) (.o (vq 15 rfl)) (zv rfl (aV (D:=[U32]) (l:=[_,_]) (xs:=[.tmp 48,.tmp 55]) (bN zk) sl_40 zk (n_ok zk) nq nq nq (.p (vq 9 rfl) (vq 16 rfl)) rfl rfl) o0)))))))))))))))))) rfl zk zk zk zk rfl rfl zd rfl zd rfl (λ _ _ h _=>h) Try.underlying40 e1 e2 e3 e4 e5 zd (by simp only [qd,benW_len,zT,zU,je]; omega) zd (λ T hT=>hT) zd (λ A hA=>by simp only [ql,zR,or_false] at hA; rcases hA with rfl | rfl <;> rfl) zk nq nq zk zk (zz [(7,_),(26,_),(27,_),(28,_)] [O 2 36 _] λ a w U=>?_)
    refine ai ?_
    refine a4<|zg [η] [] [.v 58 _,.v 28 _] [.g 0,.g 1,.g 2,.o 1] U (zv G (aU (gq 3 G) a5 ((wi64 zo zo).trans (by omega:(_:Int)=((j+1:Nat):Int)))) (zv G (a7 (vq 0 G)) o0)) (zz [(7,_),(26,_),(27,_),(28,_)] [O 2 36 _] λ a w U=>?_)
    refine a4 ?_
    have U:=St.sel U [1,2,3,0]
    exact ⟨n-1,by omega,j+1,by omega,by rw [ben_nx zo,zF,hpj,hsj]; exact U⟩
   ·obtain rfl:j=nn:=by have:=qx hb2; omega
    refine zf<|aj<|aj<|az<|zt<|zg [η] [] [.v 59 _,.v 4 _,.v 5 _] [.g 3,.o 1,.o 2] U (zM 3 G (zA 0 G (zv G (a6 a5) o0))) (zz [(7,_),(4,_),(5,_)] [O 2 36 _] λ a w U=>?_)
    refine a4<|qh<|an ?_ (aM (rs:=[.tmp 4,.tmp 5]) G U (.tmp (zm 1 G) (.tmp (zm 2 G) .nil)) zd)
    have e:bnF t xs=(benW t u1,0):=by rw [bnF,qm (by rw [hb0]; decide),qm (by rw [hb1]; decide),hu1]
    rw [e,← hxl,qN]; exact tu2w own_sl aC
open Go.ChangeShapes Go.WideShapes Go.ChangeAt
section
variable {H:Type} {enc:TypeId × Value→H} {w:World} {base:Nat} {spare:Nat→Bool} {held:Bool} {fuel:Nat} {cs:List Value} {x:DataW H × List MemPlace}
end
open Go.ChangeShapes Go.WideShapes Go.ChangeAt
theorem iK {A:As}(h:(A.deps.all λ T=>D.contains T)=true):∀ T∈A.deps,T∈D:=λ T hT=>by
 have:=qc.1 h T hT
 simpa using this
section
variable {H:Type} {enc:TypeId × Value→H} {w:World} {base:Nat} {spare:Nat→Bool} {held:Bool} {fuel:Nat} {cs:List Value} {x:DataW H × List MemPlace}
end
theorem sn_no {xs ys:List Int}{j:Nat}(hx:j<xs.length)(hy:j<ys.length)(h:xs[j]≠ys[j]):decide (xs=ys)=false:=by
 simp only [qn]
 rintro rfl
 exact h rfl
theorem sn_nx {xs ys:List Int}{j:Nat}(hx:j<xs.length)(hy:j<ys.length)(hp:xs.take j=ys.take j)(h:xs[j]=ys[j]):xs.take (j+1)=ys.take (j+1):=by
 rw [qp hx,qp hy,hp,h]
def G2A (x:RF × RF):As:=cat [RFA x.1,RFA x.2]
theorem rfN_A {x:RF}:WkA (RFN x) (RFA x):=⟨rfl,rfl,λ B cs w h=>(cn (.cons (gF _) (.cons (gF _) .nil)):FreeA (RFN x) (RFA x)).2.2 B B cs w (qf _) h⟩
theorem g2d_a {x:RF × RF}:WkA (G2D x) (G2A x):=dis_wk.trans (bc (.cons rfN_A (.cons rfN_A .nil)))
def ChA (x:RCh):As:=cat [SlA 3 [] (x.l.map InA),RFA x.pw,InA x.c]
theorem chd_a {x:RCh}:WkA (ChD x) (ChA x):=bc (.cons slW_A (.cons (dis_wk.trans rfN_A) (.cons (.refl _) .nil)))
theorem best_p (t:RTk):Cn Try.prog 4 [(TkA t).va] (Tu [(ChA (bestF t).1).va,In (bestF t).2]):=(best_c t).wkp (tu2w chd_a.va aC)
theorem rows_p (t:RTk)(xs:List Int):Cn Try.prog 8 [(TkA t).va,(SlA 3 [] (xs.map InA)).va] (Tu [In (rowF t xs).1,(G2A (rowF t xs).2.1).va,In (rowF t xs).2.2]):=(rows_c t xs).wkp (tu3w aC g2d_a.va aC)
theorem kB:Str Try.prog 44 [RFA rf0,RFA rf0] :=
 Str.of (z:=.agg #[.bool false,.slice none 0 0,.bool false,.slice none 0 0,.bool false,.slice none 0 0,.bool false,.slice none 0 0]) zk Try.underlying44 zk λ B w=>⟨[[.bool false,.slice none 0 0,.bool false,.slice none 0 0],[.bool false,.slice none 0 0,.bool false,.slice none 0 0]],rfl,.cons (et B w) (.cons (et B w) .nil)⟩
theorem iF:Str Try.prog 29 [EqA (.slice none 0 0),RFA rf0,NumA .i64 0] :=
 Str.of (z:=.agg #[.slice none 0 0,.bool false,.slice none 0 0,.bool false,.slice none 0 0,.int .i64 0]) zk Try.underlying29 zk λ B w=>⟨[[.slice none 0 0],[.bool false,.slice none 0 0,.bool false,.slice none 0 0],[.int .i64 0]],rfl,.cons ⟨rfl,rfl⟩ (.cons (et B w) (.cons rfl .nil))⟩
theorem fe (xs ys:List Int):Cn Try.prog 11 [(SlA 3 [] (xs.map InA)).va,(SlA 3 [] (ys.map InA)).va] (Bo (decide (xs=ys))):=by
 refine Cn.intro Try.func11 G zk nq (λ B w0 a U=>?_)
 have U:=zn [(0,(SlA 3 [] (xs.map InA)).va),(1,(SlA 3 [] (ys.map InA)).va)] [] U
 have hl:=gg (U.vals (0,(SlA 3 [] (xs.map InA)).va) (zm 0 rfl))
 refine qb<|zh [.v 4 _] [.g 0,.g 1,.o 0] U (zv G (a6 aE) o0) (zz [(0,_),(1,_),(4,_)] [] λ a w U=>?_)
 refine zt<|qb<|zh [.v 6 _,.v 7 _,.v 8 _,.v 9 _,.v 10 _] [.g 0,.g 1,.g 2,.o 4] U (zM 0 G (zv G (bH Try.underlying22 (vq 0 G)) (zM 1 G (zv G (bH Try.underlying22 (vq 2 G)) (zv G (bM (vq 1 G) (vq 3 G)) o0))))) (zz [(0,_),(1,_),(4,_),(10,_)] [] λ a w U=>?_)
 refine a4<|aa U (zm 3 G) (λ hb0=>?_) (λ hb0=>?_)
 ·have hne:decide (xs=ys)=false:=by
   simp only [qd] at hb0
   simp only [qn]
   rintro rfl
   simp at hb0
  refine qb<|zh [.v 4 _] [.g 0,.g 1,.o 0] U (zv G (a6 aE) o0) (zz [(0,_),(1,_),(4,_)] [] λ a w U=>?_)
  refine a4<|qh<|ac ?_
  refine an ?_ (ae G U (zm 2 G))
  exact cd (qu Bo hne.symm)
 ·have hee:xs.length=ys.length:=by
   simp only [qd] at hb0; have:(xs.length:Int)=(ys.length:Int):=by simpa using hb0
   omega
  refine qk<|zt<|qb<|zh [.v 5 _] [.g 0,.g 1,.g 2,.o 0] U (zv G (a6 a5) o0) (zz [(0,_),(1,_),(4,_),(5,_)] [] λ a w U=>?_)
  refine a4<|qt ?_
  have U:=St.sel U [0,1,3]
  refine wp_loop_ghost (λ n a w=>∃ (j:Nat),(n+j=xs.length∧xs.take j=ys.take j)∧St B w0 26 [(0,(SlA 3 [] (xs.map InA)).va),(1,(SlA 3 [] (ys.map InA)).va),(5,In (j:Nat))] [] a w) (xs.length) ?_ ?_
  ·exact ⟨0,⟨by omega,rfl⟩,U⟩
  intro n a w hI
  obtain ⟨j,⟨hn,hp⟩,U⟩:=hI
  refine qb<|qb<|zh [.v 11 _,.v 12 _,.v 13 _,.v 14 _] [.g 0,.g 1,.g 2,.o 3] U (zM 2 G (zM 0 G (zv G (bH Try.underlying22 (vq 1 G)) (zv G (aY (vq 0 G) (vq 2 G)) o0)))) (zz [(0,_),(1,_),(5,_),(14,_)] [] λ a w U=>?_)
  refine a4<|aa U (zm 3 G) (λ hb1=>?_) (λ hb1=>?_)
  ·have hj:j<xs.length:=by rw [qd] at hb1; have:=qw hb1; omega
   have hj2:j<ys.length:=by omega
   refine qk<|zt<|qt<|qb<|zgd [[],[],[0,1],[0,1,2],[],[],[4,5],[4,5,6],[0,1,2,3,4,5,6,7]] [] [] [.v 17 _,.v 18 _,.v 19 _,.v 20 _,.v 21 _,.v 22 _,.v 23 _,.v 24 _,.v 25 _] [.g 0,.g 1,.g 2,.o 8] a8 U (zM 0 G (zM 2 G (zv G (cy cD (cE λ _=>rfl) (vq 0 G) (vq 1 G) (cb hj)) (zv G (al (vq 2 G) ty_3) (zM 1 G (zM 2 G (zv G (cy cD (cE λ _=>rfl) (vq 4 G) (vq 5 G) (cb hj2)) (zv G (al (vq 6 G) ty_3) (zv G (bM (vq 3 G) (vq 7 G)) o0))))))))) zk zk zk zk (zz [(0,_),(1,_),(5,_),(25,_)] [] λ a w U=>?_)
   refine a4<|aa U (zm 3 G) (λ hb2=>?_) (λ hb2=>?_)
   ·refine qb<|zh [.v 4 _] [.g 0,.g 1,.g 2,.o 0] U (zv G (a6 aE) o0) (zz [(0,_),(1,_),(5,_),(4,_)] [] λ a w U=>?_)
    refine a4<|qh<|aA ?_
    refine ac ?_
    refine ac ?_
    refine aA ?_
    refine ac ?_
    refine an ?_ (ae G U (zm 3 G))
    exact cd (qu Bo (sn_no hj hj2 (by simpa using hb2)).symm)
   ·refine qk<|ai ?_
    refine a4<|zh [.v 15 _,.v 16 _,.v 5 _] [.g 0,.g 1,.o 2] U (zM 2 G (zv G (aU (vq 0 G) a5 ((wi64 zo zo).trans (by omega:(_:Int)=((j+1:Nat):Int)))) (zA 1 G o0))) (zz [(0,_),(1,_),(5,_)] [] λ a w U=>?_)
    refine a4 ?_
    have U:=St.sel U [0,1,2]
    exact ⟨n-1,by omega,j+1,⟨by omega,sn_nx hj hj2 hp (by simpa using hb2)⟩,U⟩
  ·have hj:j=xs.length:=by rw [qd] at hb1; have:=qx hb1; omega
   refine zf<|aj<|aj<|az<|zt<|zh [.v 4 _] [.o 0] U (zv G (a6 aE) o0) (zz [(4,_)] [] λ a w U=>?_)
   refine a4<|qh<|an ?_ (ae G U (zm 0 G))
   exact cd (qu Bo (zw (by rw [hj,qN,hee,qN] at hp; exact hp)).symm)
open Go.ChangeShapes Go.WideShapes Go.ChangeAt
section
variable {H:Type} {enc:TypeId × Value→H} {w:World} {base:Nat} {spare:Nat→Bool} {held:Bool} {fuel:Nat} {cs:List Value} {x:DataW H × List MemPlace}
end
theorem rows_nil (t:RTk):Cn Try.prog 8 [(TkA t).va,EqV (.slice none 0 0)] (Tu [In (rowF t []).1,(G2A (rowF t []).2.1).va,In (rowF t []).2.2]):=(rows_p t []).wk (.cons aC (.cons nil_sl .nil))
theorem lives26_v:((bestF (twoT 1)).2==0&&(rowF (twoT 1) []).2.2==0&&(rowF (twoT 1) []).1==4&&decide ((rowF (twoT 1) []).2.1.1=rfOf (Rat.divInt 0 1))&&decide ((rowF (twoT 1) []).2.1.2=rfOf (Rat.divInt 1 1))&&decide ((bestF (twoT 1)).1.l=[0,1])&&(bestF (twoT 1)).1.c==8&&decide ((bestF (twoT 1)).1.pw=rfOf (Rat.divInt 1 1)))=true:=by kernel_rfl
theorem lives26_c  : Cn Try.prog 14 [] (Bo true):=by
 refine Cn.intro Try.func14 G zk nq (λ B w0 a U=>?_)
 have U:=zn [] [] U
 refine qb<|zh [.v 0 _] [.o 0] U (zv G (a6 aE) o0) (zz [(0,_)] [] λ a w U=>?_)
 refine zt<|zg [] [⟨1,29,ptrH,some 5,_,some (6,_)⟩] [.v 7 _,.v 8 _,.v 6 _,.v 9 _,.v 10 _,.alc 0,.sto 0,.v 2 _] [.g 0,.o 7] U (zQ G (bR (n:=1) zd zd) (.cons a5 .nil) (zQ G (best_p _) (.o (vq 0 G)) (zv G (a7 (vq 1 G)) (zv G (dS (vq 2 G)) (zv G (dR (vq 2 G)) (zY G (Str.zero iF) (zS 3 G g7 (zA 4 G o0)))))))) (zz [(0,_),(2,_)] [O 1 29 _] λ a w U=>?_)
 refine zt<|zg [η] [⟨4,44,ptrH,some 6,_,some (8,_)⟩] [.v 12 _,.v 13 _,.v 11 _,.v 14 _,.v 15 _,.v 16 _,.alc 1,.v 3 _,.sto 1,.v 5 _] [.g 0,.g 1,.o 7,.o 9] U (zQ G (bR (n:=1) zd zd) (.cons a5 .nil) (zQ G (rows_nil _) (.cons (vq 0 G) (.cons be .nil)) (zv G (a7 (vq 1 G)) (zv G (dS (vq 2 G)) (zv G (dR (vq 2 G)) (zv G (r_ex2 (vq 2 G)) (zY G (Str.zero kB) (zA 3 G (zS 4 G eH (zA 5 G o0)))))))))) (zz [(0,_),(2,_),(3,_),(5,_)] [O 1 29 _,O 4 44 _] λ a w U=>?_)
 refine zt<|gC (anc:=[[],[0],[0,1],[0,1,2],[0,1,2,3],[0,1,2,3,4],[0,1,2,3,4,5],[0,1,2,3,4,5,6],[0,1,2,3,4,5,6,7],[0,1,2,3,4,5,6,7,8],[0,1,2,3,4,5,6,7,8,9],[0,1,2,3,4,5,6,7,8,9,10],[0,1,2,3,4,5,6,7,8,9,10,11],[0,1,2,3,4,5,6,7,8,9,10],[0,1,2,3,4,5,6,7,8,9,10,11,12,13],[0,1,2,3,4,5,6,7,8,9,10,11,12,13,14],[0,1,2,3,4,5,6,7,8,9,10,11,12,13,14,15],[0,1,2,3,4,5,6,7,8,9,10,11,12,13,14,15,16],[0,1,2,3,4,5,6,7,8,9,10,11,12,13,14,15,16,17],[0,1,2,3,4,5,6,7,8,9,10,11,12,13,14,15,16],[0,1,2,3,4,5,6,7,8,9,10,11,12,13,14,15,16,17,18,19],[0,1,2,3,4,5,6,7,8,9,10,11,12,13,14,15,16,17,18,19,20],[0,1,2,3,4,5,6,7,8,9,10,11,12,13,14,15,16,17,18,19,20,21],[0,1,2,3,4,5,6,7,8,9,10,11,12,13,14,15,16,17,18,19,20,21,22],[0,1,2,3,4,5,6,7,8,9,10,11,12,13,14,15,16,17,18,19,20,21,22,23],[0,1,2,3,4,5,6,7,8,9,10,11,12,13,14,15,16,17,18,19,20,21,22],[0,1,2,3,4,5,6,7,8,9,10,11,12,13,14,15,16,17,18,19,20,21,22,23,24,25],[0,1,2,3,4,5,6,7,8,9,10,11,12,13,14,15,16,17,18,19,20,21,22,23,24,25,26],[0,1,2,3,4,5,6,7,8,9,10,11,12,13,14,15,16,17,18,19,20,21,22,23,24,25,26,27],[0,1,2,3,4,5,6,7,8,9,10,11,12,13,14,15,16,17,18,19,20,21,22,23,24,25,26,27,28],[0,1,2,3,4,5,6,7,8,9,10,11,12,13,14,15,16,17,18,19,20,21,22,23,24,25,26,27,28,29],[0,1,2,3,4,5,6,7,8,9,10,11,12,13,14,15,16,17,18,19,20,21,22,23,24,25,26,27,28,29,30],[0,1,2,3,4,5,6,7,8,9,10,11,12,13,14,15,16,17,18,19,20,21,22,23,24,25,26,27,28,29,30,31],[0,1,2,3,4,5,6,7,8,9,10,11,12,13,14,15,16,17,18,19,20,21,22,23,24,25,26,27,28,29,30,31,32],[0,1,2,3,4,5,6,7,8,9,10,11,12,13,14,15,16,17,18,19,20,21,22,23,24,25,26,27,28,29,30,31,32,33],[0,1,2,3,4,5,6,7,8,9,10,11,12,13,14,15,16,17,18,19,20,21,22,23,24,25,26,27,28,29,30,31,32,33,34],[0,1,2,3,4,5,6,7,8,9,10,11,12,13,14,15,16,17,18,19,20,21,22,23,24,25,26,27,28,29,30,31,32,33],[0,1,2,3,4,5,6,7,8,9,10,11,12,13,14,15,16,17,18,19,20,21,22,23,24,25,26,27,28,29,30,31,32,33,34,35,36],[0,1,2,3,4,5,6,7,8,9,10,11,12,13,14,15,16,17,18,19,20,21,22,23,24,25,26,27,28,29,30,31,32,33,34,35,36,37],[0,1,2,3,4,5,6,7,8,9,10,11,12,13,14,15,16,17,18,19,20,21,22,23,24,25,26,27,28,29,30,31,32,33,34,35,36,37,38]]) (sts:=[none,none]) (news:=[]) (sp:=((.v 17 _:Sp)::(.v 18 _)::(.v 19 _)::(.t 20 _)::(.t 21 _)::(.v 22 _)::(.v 23 _)::(.t 24 _)::(.t 25 _)::(.v 26 _)::(.v 27 _)::(.adr 28 4 (.some 0) (_=true))::(.t 29 _)::(.t 30 _)::(.t 31 _)::(.v 32 _)::(.v 33 _)::(.adr 34 4 (.some 4) (_=true))::(.t 35 _)::(.t 36 _)::(.t 37 _)::(.v 38 _)::(.v 39 _)::(.adr 40 1 (.some 0) (_=true))::(.t 41 _)::(.t 42 _)::(.t 43 _)::(.v 44 _)::(.v 45 _)::(.adr 46 1 (.some 5) (_=true))::(.t 47 _)::(.t 48 _)::(.v 49 _)::(.v 50 _)::(.adr 51 1 (.some 1) (_=true))::(.t 52 _)::(.t 53 _)::(.t 54 _)::(.v 55 _)::(.v 0 _)::[])) [.o 39] a8 U (zM 1 G (zv G (bd (vq 0 G) a5) (zv G (a7 (vq 1 G)) (zB 2 G (λ hg=>a7 (gq 3 G)) (zB 2 G (λ hg=>bd (a9 (vq 3 G) hg) a5) (zv G (bi (vq 2 G) (vq 4 G)) (zv G (a7 (vq 5 G)) (zB 6 G (λ hg=>a7 (gq 2 G)) (zB 6 G (λ hg=>bd (a9 (vq 7 G) hg) a5) (zv G (bi (vq 6 G) (vq 8 G)) (zv G (a7 (vq 9 G)) (zC 10 1 G dZ (zB 10 G (λ hg=>aD 11 G zk hg (lz0 1 G) (Sub.part 0 G G) ar) (zB 10 G (λ hg=>aW (aR (n:=0) zd zd) (.cons a5 .nil)) (zB 10 G (λ hg=>aW (dg _ _) (.p (a9 (vq 12 G) hg) (a9 (vq 13 G) hg))) (zv G (bi (vq 10 G) (vq 14 G)) (zv G (a7 (vq 15 G)) (zC 16 1 G dp (zB 16 G (λ hg=>aD 17 G zk hg (lz0 1 G) (Sub.part 1 G G) ar) (zB 16 G (λ hg=>aW (aR (n:=1) zd zd) (.cons a5 .nil)) (zB 16 G (λ hg=>aW (dg _ _) (.p (a9 (vq 18 G) hg) (a9 (vq 19 G) hg))) (zv G (bi (vq 16 G) (vq 20 G)) (zv G (a7 (vq 21 G)) (zC 22 0 G gI (zB 22 G (λ hg=>aD 23 G zk hg (lz0 0 G) (Sub.part 0 G G) dD) (zB 22 G (λ hg=>aV (D:=[]) (l:=[_,_]) (xs:=[.const (.int .i64 (0)),.const (.int .i64 (1))]) (bN zk) cD zk (n_ok zk) nq nq nq (.cons a5 (.cons a5 .nil)) G G) (zB 22 G (λ hg=>aW (fe _ [0,1]) (.p (a9 (vq 24 G) hg) (a9 (vq 25 G) hg))) (zv G (bi (vq 22 G) (vq 26 G)) (zv G (a7 (vq 27 G)) (zC 28 0 G fld_29_2 (zB 28 G (λ hg=>aD 29 G zk hg (lz0 0 G) (Sub.part 2 G G) ty_3) (zB 28 G (λ hg=>bd (a9 (vq 30 G) hg) a5) (zv G (bi (vq 28 G) (vq 31 G)) (zv G (a7 (vq 32 G)) (zC 33 0 G fld_29_1 (zB 33 G (λ hg=>aD 34 G zk hg (lz0 0 G) (Sub.part 1 G G) ar) (zB 33 G (λ hg=>aW (aR (n:=1) zd zd) (.cons a5 .nil)) (zB 33 G (λ hg=>aW (dg _ _) (.p (a9 (vq 35 G) hg) (a9 (vq 36 G) hg))) (zv G (bi (vq 33 G) (vq 37 G)) (zA 38 G o0)))))))))))))))))))))))))))))))))))))))) zk zk zk zk (zz [(0,_)] [O 1 29 _,O 4 44 _] λ a w U=>?_)
 refine a4<|qh<|an ?_ (ae G U (zm 0 G))
 exact cd (qu Bo lives26_v)
end Go.Proofs.Ytlakjmncfooodaa
