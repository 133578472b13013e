import Derived.Test.YtlakjmncfooodaaGreatSsAu
import Derived.Deep.Slices
set_option linter.all false
set_option maxRecDepth 100000
namespace Go.Proofs.YtlakjmncfooodaaGreat
open Go Go.RowKit
variable {w:World}{B:Nat}{a:Act}{v:Value}{T:TypeId}{w0:Bs}{Γ:List (Nat × VA)}{Λ:List Lc}{ps:String}{af:Array Edge}{vr:Value}{H:Hd}{cs:List Value}{w':World}{P:Program}{D:List TypeId}
def SlW (l:List Int):As where
 n:=1
 ag:=false
 p B cs w:=(SlA 3 [] (l.map InA)).p B cs w∧∀ v∈cs,∀ g,blk v=some g→B≤g
 deps:=[3]
 len:=λ B cs w h=>(SlA 3 [] (l.map InA)).len B cs w h.1
 one:=λ B cs w h=>(SlA 3 [] (l.map InA)).one B cs w h.1
 ag1:=λ _=>rfl
 cg:=λ B cs w w' hg h=>⟨(SlA 3 [] (l.map InA)).cg B cs w w' hg h.1,h.2⟩
 wr:=λ B cs w w' g c T fz h1 h2 h3 h4 h=>⟨(SlA 3 [] (l.map InA)).wr B cs w w' g c T fz h1 h2 h3 h4 h.1,h.2⟩
theorem slW_A {l:List Int}:WkA (SlW l) (SlA 3 [] (l.map InA)):=⟨rfl,rfl,λ _ _ _ h=>h.1⟩
theorem free_slW {l:List Int}:FreeA (SlW l) (SlW l):=⟨rfl,rfl,λ B B' cs w hB hp=>by
 obtain ⟨⟨hD,A,c,ds,rfl,h1,h2,h3,h4⟩,h5⟩:=hp
 refine ⟨⟨hD,A,c,ds,rfl,h1,h2,by rw [eu h3]; exact cW l,λ hn=>?_⟩,λ v hv g hg=>qg hB (h5 v hv g hg)⟩
 obtain ⟨b,o,rfl,h6,h7,h8⟩:=h4 hn
 refine ⟨b,o,rfl,h6,?_,h8⟩
 rcases h7 with h7 | h7
 ·have:=h5 _ (qD.2 rfl) b rfl
  omega
 ·exact .inr h7⟩
theorem nil_slW:WkA (EqA (.slice none 0 0)) (SlW []):=⟨rfl,rfl,λ B cs w h=>by
 obtain ⟨rfl,_⟩:=h
 refine ⟨⟨(λ A hA=>by cases hA),none,0,[],rfl,qf _,q7 _,⟨[],rfl,.nil⟩,λ h=>absurd h zd⟩,λ v hv g hg=>?_⟩
 obtain rfl:=qD.1 hv
 cases hg⟩
theorem eX:Str Tryz.prog 46 [EqA (.slice none 0 0),cat [NilI,NilI],NumA .i64 0] :=
 Str.of (z:=.agg #[.slice none 0 0,.bool false,.slice none 0 0,.bool false,.slice none 0 0,.int .i64 0]) zk Tryz.underlying46 zk λ B w=>⟨[[.slice none 0 0],[.bool false,.slice none 0 0,.bool false,.slice none 0 0],[.int .i64 0]],rfl,.cons ⟨rfl,rfl⟩ (.cons ⟨[[.bool false,.slice none 0 0],[.bool false,.slice none 0 0]],rfl,.cons ⟨[[.bool false],[.slice none 0 0]],rfl,.cons rfl (.cons rfl .nil)⟩ (.cons ⟨[[.bool false],[.slice none 0 0]],rfl,.cons rfl (.cons rfl .nil)⟩ .nil)⟩ (.cons rfl .nil))⟩
structure RCh where
 l:List Int
 pw:RF
 c:Int
def ch0:RCh:=⟨[],rf0,0⟩
def ChD (x:RCh):As:=cat [SlW x.l,RFD x.pw,InA x.c]
abbrev BsD (r:RCh × Int):VA:=Tu [(ChD r.1).va,In r.2]
theorem free_bsd {r:RCh × Int}:Free (BsD r) (BsD r):=free_tu (.cons (cy (.cons free_slW (.cons free_rfd (.cons (dD _ _) .nil)))).va (.cons (dD _ _).va .nil))
theorem zch_d:WkA (cat [EqA (.slice none 0 0),cat [NilI,NilI],NumA .i64 0]) (ChD ch0):=aS (.cons nil_slW (.cons zf_rfd (.cons (.refl _) .nil)))
def bsW (f:Nat→WyQ):Nat→WyQ
 | 0=>⟨[],0,0,0⟩
 | k+1=>if ((((k:Nat):Int)==0) || betF (f k) (bsW f k))=true then f k else bsW f k
theorem bsW_at {f:Nat→WyQ}:∀ {k},k≠0→∃ j,j<k∧bsW f k=f j
 | 0,h=>absurd rfl h
 | k+1,_=>by
  unfold bsW
  by_cases h:((((k:Nat):Int)==0) || betF (f k) (bsW f k))=true
  ·rw [ql h]; exact ⟨k,Nat.lt_succ_self k,rfl⟩
  ·rw [qj h]
   have hk:k≠0:=λ e=>by subst e; simp at h
   obtain ⟨j,h1,h2⟩:=bsW_at (f:=f) hk
   exact ⟨j,jf h1,h2⟩
abbrev BeO (q:Nat→Prop)(b k:Nat)(x:WyQ):As:=cat [optA k (EqA (.slice none 0 0)) (SlP q 3 [] (x.l.map InA)) ⟨rfl,rfl⟩,optA k (RFA rf0) (QA b x.pw) ⟨rfl,rfl⟩,optA k (RFA rf0) (QA b x.aw) ⟨rfl,rfl⟩,optA k (NumA .i64 0) (InA x.c) ⟨rfl,rfl⟩]
theorem be_0 {q:Nat→Prop}{b:Nat}{x:WyQ}:WkA WyZ (BeO q b 0 x):=aS (.cons opt_0 (.cons opt_0 (.cons opt_0 (.cons opt_0 .nil))))
theorem be_s {q:Nat→Prop}{b k:Nat}{x:WyQ}:WkA (WyP q b x) (BeO q b (k+1) x):=aS (.cons (opt_s (zT k)) (.cons (opt_s (zT k)) (.cons (opt_s (zT k)) (.cons (opt_s (zT k)) .nil))))
theorem be_x {q:Nat→Prop}{b k:Nat}{x:WyQ}(h:k≠0):WkA (BeO q b k x) (WyP q b x):=aS (.cons (opt_x h) (.cons (opt_x h) (.cons (opt_x h) (.cons (opt_x h) .nil))))
theorem be_k {q:Nat→Prop}{b k:Nat}{x:WyQ}(h:k≠0):WkA (BeO q b k x) (BeO q b (k+1) x):=(be_x h).trans be_s
theorem be_st {q:Nat→Prop}{b k lo hi:Nat}{x:WyQ}(hq:∀ g,q g→¬ (lo≤g∧g<hi)):StVA lo hi [3] [30,31] (BeO q b k x):=stVA_cat λ A hA=>by
 simp only [qn,z9,or_false] at hA
 rcases hA with rfl | rfl | rfl | rfl
 ·exact stVA_opt (cK zk) (λ _=>stVA_slP zd (ints_off _) hq)
 ·exact cK zk
 ·exact cK zk
 ·exact cK zk
section
open Rg
variable {P:Program} {Q:Exit→Act→World→Prop} {R:Rg} {B i:Nat} {w0:Bs}
theorem r_nilO {x:Operand}{S E:TypeId}{k:Nat}{q:Nat→Prop}{l:List Int}{h:(SlP q 3 [] (l.map InA)).n=(EqA (.slice none 0 0)).n∧(SlP q 3 [] (l.map InA)).ag=(EqA (.slice none 0 0)).ag}{yt:TypeId}(hS:P.underlying S=some (.slice E))(hx:Has R B w0 i x (optA k (EqA (.slice none 0 0)) (SlP q 3 [] (l.map InA)) h).va)(hl:k≠0→0<l.length):Wv P Q R B w0 i (.binOp .eql S x (.const (.slice none 0 0)) yt) (Bo (((k:Nat):Int)==0)) :=
 aQ λ d T ps af gd a w av=>by
  obtain ⟨cs,hp,hv⟩:=hx a w av
  have e2:a.eval (.const (.slice none 0 0))=.slice none 0 0:=rfl
  rcases hp with ⟨hk,hp⟩ | ⟨hk,hp,_⟩
  ·obtain ⟨rfl,_⟩:=hp
   have e1:a.eval x=.slice none 0 0:=hv
   have hq:=Lib.run_eql_slice_nil w S E none 0 0 0 0 hS
   have hg:(eqGuard .eql S x (.const (.slice none 0 0)) (.slice none 0 0) (.slice none 0 0)).run P w=.ok () w:=by unfold eqGuard; split <;> rfl
   refine ⟨.bool true,w,?_,Grow.refl w,by subst hk; exact co _ _ _⟩
   simp only [execOp,e1,e2,Sem.run_bind,hg,hq,Result.andThen_ok,Sem.run_pure]
   rfl
  ·obtain ⟨_,A,c,ds,rfl,_,_,_,h4⟩:=hp
   obtain ⟨b,o,rfl,_⟩:=h4 (by rw [qc]; exact hl hk)
   have e1:a.eval x=.slice (some ⟨b,o,none⟩) (l.map InA).length c:=hv
   have hq:=Lib.run_eql_slice_nil w S E (some ⟨b,o,none⟩) (l.map InA).length c 0 0 hS
   have hg:(eqGuard .eql S x (.const (.slice none 0 0)) (.slice (some ⟨b,o,none⟩) (l.map InA).length c) (.slice none 0 0)).run P w=.ok () w:=by unfold eqGuard; split <;> rfl
   refine ⟨.bool false,w,?_,Grow.refl w,?_⟩
   ·simp only [execOp,e1,e2,Sem.run_bind,hg,hq,Result.andThen_ok,Sem.run_pure]
    rfl
   ·rw [show (((k:Nat):Int)==0)=false from by simpa using hk]
    exact co _ _ _
theorem r_callI {f':FuncId}{pre:List VA}{mk:Nat→VA}{A:VA}{xs:List Operand}{at_:Array TypeId}(hc:CnI P f' pre mk)(hx:HasL R B w0 i xs pre)(hm:∀ b,w0.w.heap.size≤b→Wk (mk b) A):Wv P Q R B w0 i (.call ⟨.value (.func f'),xs.toArray,at_⟩) A:=by
 intro d T' ps af gd a w av K hK
 obtain ⟨⟨fn,hf,hn,hb⟩,hcall⟩:=hc
 have hrun:(execOp a.eval ⟨some d,.call ⟨.value (.func f'),xs.toArray,at_⟩,T',ps,af,gd⟩).run P w=.ok (.enter f' (xs.map a.eval).toArray) w:=by
  have e1:a.eval (.func f')=.func (.func f') #[] #[]:=rfl
  simp only [execOp,resolve,e1,Deferred.ofValue,Sem.run_bind,Sem.run_pure,Result.andThen_ok,invoke,aZ hf hn hb]
  simp
 unfold Oper.wp
 rw [hrun]
 refine (hcall B w _ (Av.bw av) (hx.all av)).mono λ e w' ⟨v,he,h1,hg⟩=>?_
 subst he
 exact hK v w' hg (hm _ av.base.size _ _ _ h1)
end
theorem all_nil (t:RTk):CnI Tryz.prog 24 [(TkO t).va,EqV (.slice none 0 0)] (λ b=>ItB b 52 (alC t []) alDs (al_D t [])) :=
 ⟨(all_c t []).1,λ B w args hB ha=>(all_c t []).2 B w args hB (by
  obtain ⟨v1,v2,rfl,h1,h2⟩:=All2.two ha
  have h2':v2=.slice none 0 0:=h2
  subst h2'
  exact .cons h1 (.cons ⟨_,⟨trivial,(λ A hA=>by cases hA),none,0,[],rfl,qf _,q7 _,⟨[],rfl,.nil⟩,λ h=>absurd h zd⟩,rfl⟩ .nil))⟩
abbrev WyW (b:Nat)(x:WyQ):As:=cat [SlW x.l,QA b x.pw,QA b x.aw,InA x.c]
theorem wyP_new {q:Nat→Prop}{b B:Nat}{x:WyQ}(hq:∀ g,q g→B≤g)(h:(WyP q b x).p B cs w):(WyW b x).p B cs w:=by
 obtain ⟨ps,rfl,h2⟩:=h
 refine ⟨ps,rfl,?_⟩
 cases h2 with
 | cons h1 h2=>exact .cons ⟨h1.1,λ v hv g hg=>hq g (h1.2 v hv g hg)⟩ h2
def bstN (t:RTk):WyQ:=bsW (λ k=>wayW t (exW t.ps.length [] (t.sp.length-1) 0 k)) (cntW t.ps.length 0 (t.sp.length-1) 0)
def bestF (t:RTk):RCh × Int:=if (ckF t != 0)=true then (ch0,ckF t) else if longQ (bstN t).pw=true then (ch0,4) else (⟨(bstN t).l,rfOf (bstN t).pw,(bstN t).c⟩,0)
theorem one_lg {x:Rat}:[x].any longQ=longQ x:=by simp
set_option maxHeartbeats 2000000 in
theorem best_c (t:RTk):Cn Tryz.prog 14 [(TkA t).va] (BsD (bestF t)):=by
 refine Cn.introR Tryz.func14 G zk nq (.cons (upA_tk t).va .nil) free_bsd (λ B w0 a hB0 hN0 U=>?_)
 have U:=zn [(0,(TkO t).va)] [] U
 refine qa<|zg [] [⟨1,30,ptrH,some 0,_,none⟩,⟨2,46,ptrH,some 1,_,none⟩] [.alc 0,.alc 1,.v 3 _] [.o 2] U (zW 0 G (zY G (Str.zero eX) (zv G (a6 a5) o0))) (zz [(3,_)] [O 1 30 _,O 2 46 _] λ a w U=>?_)
 refine zt<|qa<|zg [η,η] [] [.v 8 _,.v 9 _,.v 4 _] [.g 0,.o 2] U (zl 0 G cS (zQ G ((gG t).wk (.cons tko_A.va .nil)) (.o (vq 0 G)) (zA 1 G o0))) (zz [(3,_),(4,_)] [O 1 30 _,O 2 46 _] λ a w U=>?_)
 refine zt<|zg [η,η] [] [.v 10 _,.v 11 _] [.g 0,.g 1,.o 1] U (zM 1 G (zv G (bz (vq 0 G) a5) o0)) (zz [(3,_),(4,_),(11,_)] [O 1 30 _,O 2 46 _] λ a w U=>?_)
 refine a4<|a9 U (zm 2 G) (λ hb0=>?_) (λ hb0=>?_)
 ·refine qa<|zg [η,some (2,_)] [] [.v 12 _,.v 13 _,.sto 1,.v 3 _] [.o 3] U (zv G (aI (qs:=[]) eX .nil) (zM 1 G (zS 0 G io (zA 1 G o0)))) (zz [(3,_)] [O 1 30 _,O 2 46 _] λ a w U=>?_)
  refine a4<|qe<|ab ?_
  refine aj ?_ (aB (rs:=[.cell 2 46,.tmp 3]) G U (.cell (zm 1 G) io (.tmp (zm 0 G) .nil)) zd)
  rw [show bestF t=(ch0,ckF t) from ql hb0]; exact tu2w zch_d.va ay
 ·have hck:ckF t=0:=by simpa using hb0
  obtain ⟨hs2,hs13,hp1,_⟩:=hd_b (de hck).1
  obtain ⟨nn,hnn⟩:∃ nn,t.sp.length=nn+1:=⟨t.sp.length-1,by omega⟩
  have hn12:nn≤12:=by omega
  have hcp:0<cntW t.ps.length 0 nn 0:=cx zo _ _
  have hbN:bstN t=bsW (λ k=>wayW t (exW t.ps.length [] nn 0 k)) (cntW t.ps.length 0 nn 0):=by unfold bstN; rw [hnn]; rfl
  refine qk<|zt<|zg [η,η] [⟨5,69,ptrH,some 0,_,none⟩] [.alc 2] [.g 0] U (zY G (Str.zero fk) o0) (zz [(3,_)] [O 1 30 _,O 2 46 _,O 5 69 _] λ a w U=>?_)
  refine zt<|qa ?_
  obtain ⟨q2,U⟩:=St.nm U 1 rfl
  obtain ⟨q5,U⟩:=St.nm U 2 rfl
  refine zg [η,η,η] [] [.v 14 _,.v 15 _] [.g 0,.g 1,.g 2,.o 1] U (zl 0 G cS (zv G (r_callM [(2,q2),(5,q5)] (all_nil t) (.cons (vq 0 G) (.cons bi .nil)) (.cons (gq 1 G) (lz0 1 G) (.cons (gq 0 G) (lz0 2 G) .nil))) o0)) (zz [(5,_),(2,_),(3,_),(15,_)] [O 1 30 _,O 2 46 _,O 5 69 _] λ a w U=>?_)
  obtain ⟨gb,U,hds⟩:=St.itm (ps:=[(2,q2),(5,q5)]) 3 [1,0] U rfl ⟨rfl,rfl,trivial⟩
  have U:=zn [(5,_),(2,_),(3,_),(15,_)] [O 1 30 _,O 2 46 _,O 5 69 _] U
  refine a4<|qq ?_
  have U:=St.selL U [1,2]
  refine iJ (k0:=3) (gb:=gb) (Dd:=[30,31,98,99,U32,28,101]) (Db:=[46,69]) (Tp:=[3]) [⟨2,46,ptrH,cat [EqA (.slice none 0 0),cat [NilI,NilI],NumA .i64 0]⟩,⟨5,69,ptrH,WyZ⟩] (λ hi k=>[⟨2,46,ptrH,cat [EqA (.slice none 0 0),cat [NilI,NilI],NumA .i64 0]⟩,⟨5,69,ptrH,BeO (λ g=>hi≤g∧B≤g) (Wk26 nn) k (bsW (λ k=>wayW t (exW t.ps.length [] nn 0 k)) k)⟩]) none (λ _=>none) U hB0 hN0 rfl (all1_it hck hnn ⟨q7 _,λ x hx=>by cases hx⟩ gb) (M:=cntW t.ps.length 0 nn 0) (Y:=λ k=>[(WyX t nn (exW t.ps.length [] nn 0 k)).va]) (λ h=>by cases h) zk [] zk trivial (λ hi k=>by kernel_rfl) (λ lo hi k hk hlo hw=>stVL ⟨cK zk,be_st (λ g hg h=>by omega),trivial⟩) (λ _=>by kernel_rfl) zk [2,5] (λ _ k=>by kernel_rfl) zk zk hds (λ L hL=>by cases hL) (λ _ L hL=>by cases hL) (λ _=>rfl) zd zk (λ hi Γ a W hhi h=>St.wkL h 1 rfl be_0) hcp (λ l lo hi k a1 Ws hk hlo1 hlo2 hhi hBs hct U=>?_) (λ hi a w U=>?_) (λ L hL=>by cases hL) (λ _ L hL=>by cases hL)
  ·obtain ⟨a0,rfl⟩:∃ x,x=a:=⟨_,rfl⟩; have hlw:0<(wayW t (exW t.ps.length [] nn 0 k)).l.length:=by show 0<(List.map _ _).length; rw [qc,eL]; omega
   have U:St B (rndB B [46,69] (gb++List.range' lo (hi-lo)) Ws Ws) 46 [(16,_),(2,_),(5,_)] [⟨2,46,ptrH,cat [EqA (.slice none 0 0),cat [NilI,NilI],NumA .i64 0]⟩,⟨5,69,ptrH,BeO (λ g=>hi≤g∧B≤g) (Wk26 nn) k (bsW (λ k=>wayW t (exW t.ps.length [] nn 0 k)) k)⟩] a1 Ws:=U
   refine go_newF1 0 [0,1,2] U G G G zk (dn λ _ _ h=>h) (Str.zero fk) G il G zd G zk zk (λ a w U=>?_)
   have U:St B (rndB B [46,69] (gb++List.range' lo (hi-lo)) Ws Ws) 46 [(16,_),(2,_),(5,_)] [O 2 46 _,O 5 69 _,O 6 69 _] a w:=U
   refine a4<|⟨U.base,λ W3 hbg=>?_⟩
   have hlw2:(wayW t (exW t.ps.length [] nn 0 k)).l.length≤1000:=by show (List.map _ _).length≤1000; rw [qc,eL]; omega
   have hlb:k≠0→0<(bsW (λ k=>wayW t (exW t.ps.length [] nn 0 k)) k).l.length:=λ hk0=>by
    obtain ⟨j,_,hj⟩:=bsW_at (f:=(λ k=>wayW t (exW t.ps.length [] nn 0 k))) hk0
    rw [hj]; show 0<(List.map _ _).length; rw [qc,eL]; omega
   have hW3a:=U.base.size
   have hW3b:W3.heap.size=w.heap.size:=by obtain ⟨_,_,_,he⟩:=hbg; rw [he,World.putObj_size]
   have hW3:hi≤W3.heap.size:=by rw [hW3b]; exact qg hhi hW3a
   have hB3:B≤W3.heap.size:=by rw [hW3b]; exact qg hBs hW3a
   have U:=St.begin U (qf _) hBs hbg
   refine wpIn_block ?_
   refine wpIn_seq ?_
   refine dr (sts:=[none,none,none]) (news:=[]) (sp:=[.adr 17 5 (.some 0) True,.v 18 _,.v 19 _,.v 20 _,.f 21 _,.f 22 _,.f 23 _,.v 24 _]) [.g 0,.g 1,.g 2,.o 7] zk (dn λ _ _ h=>h) U (zO 1 G dH (zL 0 1 0 G eB (zv G (r_nilO Tryz.underlying31 (vq 1 G) hlb) (zv G (a8 (vq 2 G)) (zB 3 G (λ hg=>dh (lz0 2 G) il) (zB 3 G (λ hg=>dh (lz0 1 G) il) (zB 3 G (λ hg=>aW ((better_c (ez hn12) _ _).wk (.cons ay (.cons ((be_x (k_ne hg)).trans wyP_A).va .nil))) (.p (aa (vq 4 G) hg) (aa (vq 5 G) hg))) (zv G (r_or (vq 3 G) (vq 6 G)) o0)))))))) zk zk zk (λ a w U=>?_)
   have U:St B (rndB B [46,69] (gb++List.range' lo (hi-lo)) Ws W3) 46 [(16,_),(2,_),(5,_),(24,_)] [O 2 46 _,O 5 69 _,O 6 69 _] a w:=U
   refine a4<|eM (λ a w =>  St B (rndB B [46,69] (gb++List.range' lo (hi-lo)) Ws W3) 46 [(2,EqV (a0.eval (.tmp 2))),(5,EqV (a0.eval (.tmp 5)))] [⟨2,46,ptrH,cat [EqA (.slice none 0 0),cat [NilI,NilI],NumA .i64 0]⟩,⟨5,69,ptrH,BeO (λ g=>hi≤g∧B≤g) (Wk26 nn) (k+1) (bsW (λ k=>wayW t (exW t.ps.length [] nn 0 k)) (k+1))⟩,⟨6,69,ptrH,WyX t nn (exW t.ps.length [] nn 0 k)⟩] a w) U (zm 3 G) (λ hb1=>?_) (λ hb1=>?_) (λ a w U=>?_)
   ·refine wpIn_seq ?_
    refine dr (sts:=[none,none,some (4,_)]) (news:=[]) (sp:=[.adr 25 6 (.some 0) True,.v 26 _,.v 27 _,.adr 28 6 (.some 0) True,.sto 2]) [.g 0,.g 1,.g 2] zk (dn λ _ _ h=>h) U (zO 2 G dH (zL 0 2 0 G eB (zv G (r_callI (A:=(SlP (λ g=>hi≤g∧B≤g) 3 [] ((wayW t (exW t.ps.length [] nn 0 k)).l.map InA)).va) (cloneI_c _ hlw hlw2) (.o (vq 1 G)) (λ b hb=>(slP_mono (λ g hg=>⟨qg hW3 (qg hb hg),qg hB3 (qg hb hg)⟩)).va)) (zO 2 G dH (oc (bS 3 G G G G zk (vq 2 G) eB (Put.part 0 G G G)) o0))))) zk zk zk (λ a w U=>?_)
    have U:St B (rndB B [46,69] (gb++List.range' lo (hi-lo)) Ws W3) 46 [(16,_),(2,_),(5,_)] [O 2 46 _,O 5 69 _,O 6 69 _] a w:=U
    refine a4<|dr (sts:=[none,some (1,_),none]) (news:=[]) (sp:=[.v 29 _,.sto 1]) [.g 0,.g 1,.g 2] zk (dn λ _ _ h=>h) U (zl 2 G il (zS 0 G il o0)) zk zk zk (λ a w U=>?_)
    have U:St B (rndB B [46,69] (gb++List.range' lo (hi-lo)) Ws W3) 46 [(16,_),(2,_),(5,_)] [O 2 46 _,O 5 69 _,O 6 69 _] a w:=U
    refine a4 ?_
    have U:=St.sel U [1,2]
    have U:=St.wkL U 2 rfl wyP_A
    exact St.wkL U 1 G (by rw [show bsW (λ k=>wayW t (exW t.ps.length [] nn 0 k)) (k+1)=wayW t (exW t.ps.length [] nn 0 k) from ql hb1]; exact be_s)
   ·refine wpIn_skip ?_
    refine a4 ?_
    have U:=St.sel U [1,2]
    exact St.wkL U 1 G (by rw [show bsW (λ k=>wayW t (exW t.ps.length [] nn 0 k)) (k+1)=bsW (λ k=>wayW t (exW t.ps.length [] nn 0 k)) k from qj (λ h=>Bool.noConfusion (xF hb1.symm h))]; exact be_k (k_ne2 hb1))
   refine al ?_
   have U:=St.selL U [0,1]
   exact ⟨(λ h=>by cases h),rend_of [0,1] U ⟨rfl,⟨rfl,trivial⟩⟩⟩
  ·have U:=zn [] [O 2 46 _,O 5 69 _] U
   obtain ⟨m,hm⟩:∃ m,cntW t.ps.length 0 nn 0=m:=⟨_,rfl⟩
   rw [hm] at U hcp
   have U:=St.wkL U 1 rfl (be_x zo)
   have U:=St.upL U 1 rfl (λ cs h=>wyP_new (λ g hg=>hg.2) h)
   refine al ?_
   refine zt<|qa<|zg [η,η] [] [.adr 30 5 (.some 1) True,.v 31 _,.v 32 _,.v 33 _,.v 7 _] [.o 4] U (zO 1 G db (zL 0 1 1 G ac (zv G (bB (D:=[U32]) (l:=[_]) (xs:=[.tmp 31]) (cU zk) dM zk (n_ok zk) nq nq nq (.o (vq 1 G)) G G) (zQ G (fg [(bsW (λ k=>wayW t (exW t.ps.length [] nn 0 k)) m).pw] (.cons ⟨_,rfl⟩ .nil) nq) (.o (vq 2 G)) (zA 3 G o0))))) (zz [(7,_)] [O 2 46 _,O 5 69 _] λ a w U=>?_)
   refine zt<|zg [η,η] [] [.v 34 _,.v 35 _] [.g 0,.o 1] U (zM 0 G (zv G (bz (vq 0 G) a5) o0)) (zz [(7,_),(35,_)] [O 2 46 _,O 5 69 _] λ a w U=>?_)
   refine a4<|a9 U (zm 1 G) (λ hb2=>?_) (λ hb2=>?_)
   ·rw [i8,one_lg] at hb2
    refine qa<|zg [some (2,_),η] [] [.v 36 _,.v 37 _,.sto 0,.v 3 _] [.o 3] U (zv G (aI (qs:=[]) eX .nil) (zM 0 G (zS 0 G io (zA 1 G o0)))) (zz [(3,_)] [O 2 46 _,O 5 69 _] λ a w U=>?_)
    refine a4<|qe<|ab ?_
    refine aj ?_ (aB (rs:=[.cell 2 46,.tmp 3]) G U (.cell (zm 0 G) io (.tmp (zm 0 G) .nil)) zd)
    have e:bestF t=(ch0,4):=by rw [bestF,qj (by rw [hb0]; decide),ql (by rw [hbN,hm]; exact hb2)]
    rw [e]; exact tu2w zch_d.va (bA (by rw [one_lg,hb2]; rfl))
   ·rw [i8,one_lg] at hb2
    refine qk<|zt<|zgd [[],[0],[],[2],[2,3],[],[5],[0,1,2,3,4,5,6],[0,1,2,3,4,5,6,7],[0,1,2,3,4,5,6,7,8]] [some (8,_),none] [] [.adr 38 5 (.some 0) True,.v 39 _,.adr 40 5 (.some 1) True,.v 41 _,.v 42 _,.adr 43 5 (.some 9) True,.v 44 _,.v 45 _,.sto 0,.v 3 _] [.o 9] a7 U (zO 1 G dH (zL 0 1 0 G eB (zO 1 G db (zL 2 1 1 G ac (zQ G (kF (qg (ez hn12) zd)) (.o (vq 3 G)) (zO 1 G en (zL 5 1 3 G ty_3 (zv G (aI (qs:=[(0,_),(1,_),(2,_)]) eX (.cons ⟨rfl,vq 1 rfl,rfl⟩ (.cons ⟨rfl,vq 4 rfl,rfl⟩ (.cons ⟨rfl,vq 6 rfl,rfl⟩ .nil)))) (zS 7 G io (zv G (a6 a5) o0)))))))))) zk zk zk zk (zz [(3,_)] [O 2 46 _,O 5 69 _] λ a w U=>?_)
    refine a4<|qe<|aj ?_ (aB (rs:=[.cell 2 46,.tmp 3]) G U (.cell (zm 0 G) io (.tmp (zm 0 G) .nil)) zd)
    have e:bestF t=(⟨(bsW (λ k=>wayW t (exW t.ps.length [] nn 0 k)) m).l,rfOf (bsW (λ k=>wayW t (exW t.ps.length [] nn 0 k)) m).pw,(bsW (λ k=>wayW t (exW t.ps.length [] nn 0 k)) m).c⟩,0):=by rw [bestF,qj (by rw [hb0]; decide),qj (by rw [hbN,hm,hb2]; decide),hbN,hm]
    rw [e]; exact tu2w (aS (.cons (.refl _) (.cons qd_rfd (.cons (.refl _) .nil)))).va ay
theorem app_elem:∃ it z,Tryz.prog.info? 54=some it∧it.zero=some z∧it.size=9∧it.bytes=136∧z.cells.size=9:=by
 have h:((Tryz.prog.info? 54).bind λ it=>it.zero.map λ z=>(it.size,it.bytes,z.cells.size))=some (9,136,9):=by kernel_rfl
 cases hi:Tryz.prog.info? 54 with
 | none=>rw [hi] at h; simp at h
 | some it =>
  rw [hi] at h
  cases hz:it.zero with
  | none=>simp [hz] at h
  | some z =>
   simp [hz] at h
   exact ⟨it,z,rfl,hz,h.1,h.2.1,h.2.2⟩
theorem newR_own {b:Nat}{E:TypeId}{m:Nat}{l:List As}(h1:∀ A∈l,A.n=m)(h2:∀ A∈l,∀ T∈A.deps,T∈D)(h3:l.length≤1000):Wk (NewR b E l) (OwnR b E m D l):=λ B v w ⟨g,ds,e1,e2,e3,e4⟩=>by
 have hl:ds.length=l.length*m:=by
  rw [(cat l).len _ _ _ e4]
  have:=gL h1 (qf l.length)
  unfold offs at this
  rw [qO] at this
  exact this
 refine ⟨h1,h2,ds,e4,by simp [hl],.inr ⟨g,l.length,ds.toArray,e1,e2,e3,qf _,by unfold maxLen; omega,by simp [hl],by rw [← hl]; simp⟩⟩
theorem el_back {x:RE}(h:elF x=true):WkA (cat [NumA .u8 x.k,QA 2048 (toQ x.p),QA 2048 (toQ x.q)]) (REA x):=by
 have h2:=(dc h).1
 simp only [xa,xm,xc,qh] at h2
 exact aS (.cons (.refl _) (.cons (qaA.trans (eO (qt RFA (k6 h2.1).1.symm))) (.cons (qaA.trans (eO (qt RFA (k6 h2.2).1.symm))) .nil)))
def bnF (t:RTk)(xs:List Int):List RE × Int:=if (ckF t != 0)=true then ([],ckF t) else if (!whF t xs)=true then ([],1) else (benW t (natL xs),0)
theorem ben_nx {t:RTk}{l:List Nat}{j:Nat}(h:j<l.length):benW t (l.take (j+1))=benW t (l.take j)++[(t.ps.getD l[j] ⟨⟨#[]⟩,⟨0,rf0,rf0⟩,0⟩).e,spE (t.sp.getD (j+1) rf0)]:=by
 rw [qu h]
 unfold benW
 rw [iU,qy,zU,xf zo]
 simp
theorem ben_0 (t:RTk):benW t []=[spE (t.sp.getD 0 rf0)]:=rfl
theorem ck_el {t:RTk}(h:ckF t=0){j:Nat}(hj:j<t.sp.length):okX t.sp[j]=true:=by
 have h2:=qd.1 (de h).2.1 _ (qi hj)
 unfold spF at h2
 simp only [qv,qI,qw] at h2
 by_cases h3:okX t.sp[j]=true
 ·exact h3
 ·have:=h2.1
  rw [qj h3] at this
  exact absurd this zd
theorem benW_len (t:RTk)(l:List Nat):(benW t l).length=2*l.length+1:=by
 unfold benW
 rw [qy,benP_len]; rfl
theorem sl_natA {l:List Int}{m:List Nat}(h:l=m.map (λ (k:Nat)=>(k:Int))):SlA 3 [] (l.map InA)=SlA 3 [] (m.map λ (k:Nat)=>InA (k:Int)):=by rw [h,zH]; rfl
theorem rfa_c {x:RF}(h:okX x=true):Cn Tryz.prog 27 [(RFA x).va] (QA 2048 (toQ x)).va:=(iO (c:=2048) zd).wk (.cons (qa_x h (qf _)).va .nil)
set_option maxHeartbeats 2000000 in
theorem bench_c (t:RTk)(xs:List Int):Cn Tryz.prog 31 [(TkA t).va,(SlA 3 [] (xs.map InA)).va] (Tu [(SlA 54 [U32] ((bnF t xs).1.map REA)).va,In (bnF t xs).2]):=by
 obtain ⟨it,z,e1,e2,e3,e4,e5⟩:=app_elem
 refine Cn.intro Tryz.func31 G zk nq (λ B w0 a U=>?_)
 have U:=zn [(0,(TkA t).va),(1,(SlA 3 [] (xs.map InA)).va)] [] U
 refine qa<|zg [] [⟨2,30,ptrH,some 0,_,none⟩] [.alc 0,.v 4 _,.v 5 _] [.g 1,.o 1,.o 2] U (zW 0 G (zv G (a6 bi) (zv G (a6 a5) o0))) (zz [(1,_),(4,_),(5,_)] [O 2 30 _] λ a w U=>?_)
 refine zt<|qa<|zg [η] [] [.v 11 _,.v 12 _,.v 6 _] [.g 0,.g 1,.g 2,.o 2] U (zl 0 G cS (zQ G (gG t) (.o (vq 0 G)) (zA 1 G o0))) (zz [(1,_),(4,_),(5,_),(6,_)] [O 2 30 _] λ a w U=>?_)
 refine zt<|zg [η] [] [.v 13 _,.v 14 _] [.g 0,.g 1,.g 2,.g 3,.o 1] U (zM 3 G (zv G (bz (vq 0 G) a5) o0)) (zz [(1,_),(4,_),(5,_),(6,_),(14,_)] [O 2 30 _] λ a w U=>?_)
 refine a4<|a9 U (zm 4 G) (λ hb0=>?_) (λ hb0=>?_)
 ·refine qa<|zg [η] [] [.v 15 _,.v 4 _,.v 5 _] [.g 0,.o 1,.o 2] U (zM 3 G (zv G (a6 bi) (zA 0 G o0))) (zz [(1,_),(4,_),(5,_)] [O 2 30 _] λ a w U=>?_)
  refine a4<|qe<|ab ?_
  refine aj ?_ (aB (rs:=[.tmp 4,.tmp 5]) G U (.tmp (zm 1 G) (.tmp (zm 2 G) .nil)) zd)
  rw [show bnF t xs=([],ckF t) from ql hb0]; exact tu2w nil_sl ay
 ·have hck:ckF t=0:=by simpa using hb0
  obtain ⟨hs2,hs13,hp1,_⟩:=hd_b (de hck).1
  obtain ⟨nn,hnn⟩:∃ nn,t.sp.length=nn+1:=⟨t.sp.length-1,by omega⟩
  have hn12:nn≤12:=by omega
  have h00:0<t.sp.length:=by omega
  have h0:=ck_el hck h00
  refine qk<|zt<|qa<|zg [η] [] [.v 16 _,.v 17 _,.v 18 _,.v 19 _] [.g 0,.g 1,.g 2,.o 3] U (zl 0 G cS (zM 0 G (zQ G (whole_c t xs) (.p (vq 0 G) (vq 1 G)) (zv G (fu (vq 2 G)) o0)))) (zz [(1,_),(4,_),(5,_),(19,_)] [O 2 30 _] λ a w U=>?_)
  refine a4<|a9 U (zm 3 G) (λ hb1=>?_) (λ hb1=>?_)
  ·refine qa<|zg [η] [] [.v 4 _,.v 5 _] [.g 0,.o 0,.o 1] U (zv G (a6 bi) (zv G (a6 a5) o0)) (zz [(1,_),(4,_),(5,_)] [O 2 30 _] λ a w U=>?_)
   refine a4<|qe<|ab ?_
   refine aj ?_ (aB (rs:=[.tmp 4,.tmp 5]) G U (.tmp (zm 1 G) (.tmp (zm 2 G) .nil)) zd)
   have e:bnF t xs=([],1):=by rw [bnF,qj (by rw [hb0]; decide),ql hb1]
   rw [e]; exact tu2w nil_sl ay
  ·obtain ⟨hxe,hxl,hxp⟩:=wh_nat (by simpa using hb1) hnn hn12
   obtain ⟨u1,hu1⟩:∃ l,natL xs=l:=⟨_,rfl⟩
   rw [hu1] at hxe hxl hxp
   refine qk<|zt ?_
   have U:=St.wkG U 0 rfl (bA (qt As.va (sl_natA hxe)))
   have U:=zn [(1,_),(4,_),(5,_),(19,_)] [O 2 30 _] U
   refine zg [η] [] [.adr 20 2 (.some 0) True,.v 21 _,.v 22 _,.v 23 _,.v 24 _,.v 25 _,.v 7 _] [.g 0,.g 1,.g 2,.o 6] U (zO 0 G cw (zL 0 0 0 G gy (zv G (cn dM (cE λ _=>rfl) (vq 1 G) (aK 0 G) (bI h00)) (zv G (am (vq 2 G) ac) (zQ G (space_c h0) (.o (vq 3 G)) (zv G (r_sliceN (l:=[_]) (xs:=[.tmp 24]) sl_75 zk (n_ok zk) nq nq nq (.o (vq 4 G)) G G) (zA 5 G o0))))))) (zz [(1,_),(4,_),(5,_),(7,_)] [O 2 30 _] λ a w U=>?_)
   have U:=St.wkG U 3 rfl (newR_own (m:=9) (D:=[U32]) (λ A hA=>by obtain rfl:=qD.1 hA; rfl) (cU zk) nq)
   have U:=zn [(1,_),(4,_),(5,_),(7,_)] [O 2 30 _] U
   refine zt<|qa<|zg [η] [] [.v 26 _,.v 27 _,.v 28 _] [.g 1,.g 2,.g 3,.o 0,.o 1,.o 2] U (zM 0 G (zv G (bn Tryz.underlying31 (vq 0 G)) (zv G (a8 a5) o0))) (zz [(4,_),(5,_),(7,_),(26,_),(27,_),(28,_)] [O 2 30 _] λ a w U=>?_)
   refine a4<|qq ?_
   have U:=St.sel U [3,4,5,2]
   refine wp_loop_ghost (λ n a w=>∃ j:Nat,n+j=nn∧St B w0 60 [(26,(SlA 3 [] (u1.map λ (k:Nat)=>InA (k:Int))).va),(27,In (nn:Nat)),(28,In (j:Nat)),(7,OwnR w0.w.heap.size 54 9 [U32] ((benW t (u1.take j)).map REA))] [⟨2,30,ptrH,TkA t⟩] a w) (nn) ?_ ?_
   ·rw [qc,hxl] at U
    exact ⟨0,by omega,by rw [show u1.take 0=[] from rfl,ben_0,show t.sp.getD 0 rf0=t.sp[0] from by simp [List.getD,h00]]; exact U⟩
   intro n a w hI
   obtain ⟨j,hn,U⟩:=hI
   refine qa<|zg [η] [] [.v 29 _] [.g 0,.g 1,.g 2,.g 3,.o 0] U (zv G (aX (gq 2 G) (gq 1 G)) o0) (zz [(26,_),(27,_),(28,_),(7,_),(29,_)] [O 2 30 _] λ a w U=>?_)
   refine zt<|a9 U (zm 4 G) (λ hb2=>?_) (λ hb2=>?_)
   ·have hj:j<u1.length:=by have:=qo hb2; omega
    have hkp:u1[j]<t.ps.length:=hxp _ (qi hj)
    have hpj:t.ps.getD u1[j] ⟨⟨#[]⟩,⟨0,rf0,rf0⟩,0⟩=t.ps[u1[j]]:=by simp [List.getD,hkp]
    have hpe:elF t.ps[u1[j]].e=true:=by rw [← hpj]; exact dn_p hck hkp
    have hpp:=(dc hpe).1
    simp only [xa,xm,xc,qh] at hpp
    have hsl:j+1<t.sp.length:=by omega
    have hsj:t.sp.getD (j+1) rf0=t.sp[j+1]:=by simp [List.getD,hsl]
    have h1:=ck_el hck hsl
    refine qk<|zt<|qq<|qa<|zg [η] [] [.v 30 _,.v 31 _,.v 32 _,.v 8 _,.v 9 _] [.g 0,.g 1,.g 2,.g 3,.o 3,.o 4] U (zM 2 G (zv G (cn eT (cE λ _=>rfl) (gq 0 G) (gq 2 G) (bI hj)) (zv G (am (vq 1 G) ty_3) (zA 0 G (zA 2 G o0))))) (zz [(26,_),(27,_),(28,_),(7,_),(8,_),(9,_)] [O 2 30 _] λ a w U=>?_)
    refine zt<|gU (sp:=[.adr 33 2 (.some 1) True,.v 34 _,.v 35 _,.v 36 _,.v 37 _,.v 38 _,.skp,.skp]) 6 2 99 6 OneC [.g 0,.g 1,.g 2,.g 3,.g 4,.o 5] U (zO 0 G cd (zL 0 0 1 G fU (zM 5 G (zv G (cn sl_23 (cE λ _=>rfl) (vq 1 G) (vq 2 G) (bI hkp)) (zv G (bj (vq 3 G) f9 (Sub.part 1 G G)) (zv G (am (vq 4 G) eA) o0)))))) G zd zk zk (zz [(26,_),(27,_),(28,_),(7,_),(8,_),(38,_)] [O 2 30 _] λ a w U=>?_)
    rw [show List.range' 6 2=[6,7] from rfl]
    refine op_newS 5 [0,1,2,3,4] G G U (Str.zero cZ) G eA G zd zk zk zk (λ a w U=>?_)
    refine cY ?_
    have U:=zn [(26,_),(27,_),(28,_),(7,_),(8,_)] [O 2 30 _,O 10 54 _] U
    have U:=St.ofPtr U 1 rfl
    have U:=zn [(10,_),(26,_),(27,_),(28,_),(7,_),(8,_)] [O 2 30 _] U
    refine a4<|go_appM (sp:=[.v 39 _,.v 40 _,.v 41 _,.v 42 _,.v 43 _,.v 44 _,.v 45 _,.v 46 _,.v 47 _,.v 48 _,.adr 49 2 (.some 0) True,.v 50 _,.v 51 _,.v 52 _,.v 53 _,.v 54 _,.v 55 _,.v 56 _,.v 57 VT,.v 7 VT]) [[],[],[1],[],[3],[3,4],[],[6],[3,4,5,6,7],[1,2,3,4,5,6,7,8],[],[10],[],[12],[10,11,12,13],[10,11,12,13,14],[3,4,5,6,7,8,10,11,12,13,14,15],[1,2,3,4,5,6,7,8,9,10,11,12,13,14,15,16],[0,1,2,3,4,5,6,7,8,9,10,11,12,13,14,15,16,17],[0,1,2,3,4,5,6,7,8,9,10,11,12,13,14,15,16,17,18]] 18 [1,2,3] 0 17 a7 U (zM 4 rfl (zv rfl (bj (gq 0 rfl) cv (Sub.part 0 rfl rfl)) (zv rfl (am (vq 1 rfl) gx) (zv rfl (bj (gq 0 rfl) bO (Sub.part 1 rfl rfl)) (zv rfl (am (vq 3 rfl) ac) (zQ rfl (rfa_c hpp.1) (.o (vq 4 rfl)) (zv rfl (bj (gq 0 rfl) cO (Sub.part 2 rfl rfl)) (zv rfl (am (vq 6 rfl) ac) (zQ rfl (rfa_c hpp.2) (.o (vq 7 rfl)) (zv rfl ((aI (qs:=[(0,NumA .u8 t.ps[u1[j]].e.k),(1,QA 2048 (toQ t.ps[u1[j]].e.p)),(2,QA 2048 (toQ t.ps[u1[j]].e.q))]) cZ (.cons ⟨rfl,vq 2 rfl,rfl⟩ (.cons ⟨rfl,vq 5 rfl,rfl⟩ (.cons ⟨rfl,vq 8 rfl,rfl⟩ .nil)))).wk (el_back hpe).va) (zO 0 rfl cw (zL 10 0 0 rfl gy (zM 5 rfl (zv rfl (aJ (vq 12 rfl) a5 ((wi64 zo zo).trans (by omega:(_:Int)=((j+1:Nat):Int)))) (zv rfl (cn dM (cE λ _=>rfl) (vq 11 rfl) (vq 13 rfl) (bI hsl)) (zv rfl (am (vq 14 rfl) ac) (zQ rfl (space_c h1) (.o (vq 15 rfl)) (zv rfl (bB (D:=[U32]) (l:=[_,_]) (xs:=[.tmp 48,.tmp 55]) (cU zk) sl_75 zk (n_ok zk) nq nq nq (.p (vq 9 rfl) (vq 16 rfl)) rfl rfl) o0)))))))))))))))))) rfl zk zk zk zk rfl rfl zd rfl zd rfl (λ _ _ h _=>h) Tryz.underlying75 e1 e2 e3 e4 e5 zd (by simp only [qc,benW_len,zU,zV,jn]; omega) zd (λ T hT=>hT) zd (λ A hA=>by simp only [qn,z9,or_false] at hA; rcases hA with rfl | rfl <;> rfl) zk nq nq zk zk (zz [(7,_),(26,_),(27,_),(28,_)] [O 2 30 _] λ a w U=>?_)
    refine al ?_
    refine a4<|zg [η] [] [.v 58 _,.v 28 _] [.g 0,.g 1,.g 2,.o 1] U (zv G (aJ (gq 3 G) a5 ((wi64 zo zo).trans (by omega:(_:Int)=((j+1:Nat):Int)))) (zv G (a8 (vq 0 G)) o0)) (zz [(7,_),(26,_),(27,_),(28,_)] [O 2 30 _] λ a w U=>?_)
    refine a4 ?_
    have U:=St.sel U [1,2,3,0]
    exact ⟨n-1,by omega,j+1,by omega,by rw [ben_nx zo,zx,hpj,hsj]; exact U⟩
   ·obtain rfl:j=nn:=by have:=qx hb2; omega
    refine za<|ak<|ak<|aC<|zt<|zg [η] [] [.v 59 _,.v 4 _,.v 5 _] [.g 3,.o 1,.o 2] U (zM 3 G (zA 0 G (zv G (a6 a5) o0))) (zz [(7,_),(4,_),(5,_)] [O 2 30 _] λ a w U=>?_)
    refine a4<|qe<|aj ?_ (aB (rs:=[.tmp 4,.tmp 5]) G U (.tmp (zm 1 G) (.tmp (zm 2 G) .nil)) zd)
    have e:bnF t xs=(benW t u1,0):=by rw [bnF,qj (by rw [hb0]; decide),qj (by rw [hb1]; decide),hu1]
    rw [e,← hxl,qO]; exact tu2w own_sl ay
open Go.ChangeShapes Go.WideShapes Go.ChangeAt
theorem all2_apx {α β:Type}{R':α→β→Prop}{l1 l2:List α}{m1 m2:List β}(h:All2 R' l1 m1)(h':All2 R' l2 m2):All2 R' (l1++l2) (m1++m2):=by
 induction h with
 | nil=>exact h'
 | cons h1 _ ih=>exact .cons h1 ih
theorem cat_apx {l l':List As}{ds ds':List Value}(h:(cat l).p B ds w)(h':(cat l').p B ds' w):(cat (l++l')).p B (ds++ds') w:=by
 obtain ⟨ps,rfl,h1⟩:=h
 obtain ⟨ps',rfl,h2⟩:=h'
 exact ⟨ps++ps',by simp,all2_apx h1 h2⟩
theorem cat_onex {A:As}{ds:List Value}(h:A.p B ds w):(cat [A]).p B ds w:=⟨[ds],by simp,.cons h .nil⟩
section
variable {H:Type} {enc:TypeId × Value→H} {w:World} {base:Nat} {spare:Nat→Bool} {held:Bool} {fuel:Nat} {cs:List Value} {x:DataW H × List MemPlace}
theorem rd_sl {α:Type}{A:α→As}{t e:TypeId}{m:Nat}(ht:P.underlying t=some (.slice e))(hc:P.cellsOf e=m)(hm0:0<m)(hD:∀ y,∀ T∈(A y).deps,T∈D)
  (rd:∀ {fuel:Nat} {cs:List Value} {x:DataW H × List MemPlace},DataW.trod enc P w base spare held fuel e cs=some x→∃ y,(A y).p w.heap.size cs w)
  (h:DataW.trod enc P w base spare held fuel t cs=some x):∃ l:List α,(SlA e D (l.map A)).p w.heap.size cs w:=by
 rcases Go.Deep.open_slice ht h with ⟨rfl,_⟩ | ⟨a,len,cap,m',n,Df,Pl,rfl,hb,hl,hmx,hm',_,hel⟩
 ·exact ⟨[],λ A hA=>by simp at hA,none,0,[],rfl,qf _,q7 _,⟨[],rfl,.nil⟩,λ h=>absurd h (by simp)⟩
 ·rw [hc] at hel
  have hle:len≤m':=by rw [hm']; split <;> omega
  have key:∀ k,k≤len→∃ (l:List α) (ds:List Value),l.length=k∧ds.length=k*m∧(cat (l.map A)).p w.heap.size ds w∧∀ (j:Nat) v,ds[j]?=some v→w.cell? (a.add j)=some v:=by
   intro k
   induction k with
   | zero=>exact λ _=>⟨[],[],rfl,by simp,⟨[],rfl,.nil⟩,λ j v hv=>by simp at hv⟩
   | succ k ih =>
    intro hk
    obtain ⟨l,ds,h1,h2,h3,h4⟩:=ih zo
    obtain ⟨cs',q1,q2⟩:=hel k zo
    obtain ⟨y,hy⟩:=rd q2
    obtain ⟨_,q3,q4⟩:=World.cells?_some q1
    refine ⟨l++[y],ds++cs',by simp [h1],by rw [qy,h2,q3,xW,jJ],?_,λ j v hv=>?_⟩
    ·rw [zx]
     exact cat_apx h3 (cat_onex hy)
    ·by_cases hj:j<ds.length
     ·rw [List.getElem?_append_left hj] at hv
      exact h4 j v hv
     ·rw [List.getElem?_append_right zo] at hv
      have hlt:j-ds.length<cs'.length:=(List.getElem?_eq_some_iff.1 hv).1
      have:=q4 (j-ds.length) zo
      rw [Go.Deep.add_add,show k*m+(j-ds.length)=j by omega] at this
      rw [this,hv]
  obtain ⟨l,ds,h1,h2,h3,h4⟩:=key len (qf _)
  refine ⟨l,λ A' hA=>?_,some a,cap,ds,by rw [qc,h1],by rw [qc,h1]; exact hl,hmx,h3,λ hpos=>?_⟩
  ·obtain ⟨y,_,rfl⟩:=qp.1 hA
   exact hD y
  ·rw [qc,h1] at hpos
   have hds:0<ds.length:=by rw [h2]; exact xv hpos hm0
   obtain ⟨b,off,spot⟩:=a
   have h0:=h4 0 (ds[0]) (List.getElem?_eq_getElem hds)
   have hspot:spot=none:=by simpa [Addr.add] using World.cell?_spot h0
   subst hspot
   have hblk:b<w.heap.size:=World.block_lt_of_cell? w _ (by rw [Go.WideShapes.add_plain] at h0; exact h0)
   exact ⟨b,off,rfl,hblk,.inl hblk,λ j v hv=>by rw [← Go.WideShapes.add_plain]; exact h4 j v hv⟩
theorem arg_sl {α:Type}{A:α→As}{t e:TypeId}{m:Nat}{r:Reach}{b0:Nat}{d:DataW H}{p:List MemPlace}(ht:P.underlying t=some (.slice e))(hc:P.cellsOf e=m)(hm0:0<m)(hD:∀ y,∀ T∈(A y).deps,T∈D)
  (rd:∀ {fuel:Nat} {cs:List Value} {x:DataW H × List MemPlace},DataW.trod enc P w base spare held fuel e cs=some x→∃ y,(A y).p w.heap.size cs w)
  (hv:Value.okWide P w r b0 t v) (h:DataW.Trod enc P w base spare held t v d p):∃ l:List α,(SlA e D (l.map A)).va.p w.heap.size v w:=by
 obtain ⟨a,len,cap,rfl⟩:=okWide_slice ht hv
 obtain ⟨fuel,hf⟩:=h
 obtain ⟨l,hl⟩:=rd_sl ht hc hm0 hD rd hf
 exact ⟨l,_,hl,rfl⟩
end
open Go.ChangeShapes Go.WideShapes Go.ChangeAt
theorem kr {A:As}(h:(A.deps.all λ T=>D.contains T)=true):∀ T∈A.deps,T∈D:=λ T hT=>by
 have:=qd.1 h T hT
 simpa using this
theorem fP {A0 A1 A2:As}(h0:A0.p B ((cs.drop 0).take A0.n) w)(h1:A1.p B ((cs.drop A0.n).take A1.n) w)(h2:A2.p B ((cs.drop (A0.n+A1.n)).take A2.n) w)(hl:cs.length=A0.n+(A1.n+A2.n)):(cat [A0,A1,A2]).p B cs w :=
 cat_of (by simpa using hl) λ k A hk=>by
  match k,hk with
  | 0,hk=>simp at hk; subst hk; exact h0
  | 1,hk=>simp at hk; subst hk; simpa [offs] using h1
  | 2,hk=>simp at hk; subst hk; simpa [offs] using h2
section
variable {H:Type} {enc:TypeId × Value→H} {w:World} {base:Nat} {spare:Nat→Bool} {held:Bool} {fuel:Nat} {cs:List Value} {x:DataW H × List MemPlace}
theorem rd_re (h:DataW.trod enc Tryz.prog w base spare held fuel 54 cs=some x):∃ y,(REA y).p w.heap.size cs w:=by
 obtain ⟨xs,n,_,_,hl,hlen,hf⟩:=DataW.trod_struct Tryz.underlying54 h
 have hl':cs.length=9:=hl.trans zk
 have c0:Tryz.prog.cellsOf 28=4:=by kernel_rfl
 have c1:Tryz.prog.cellsOf 52=1:=by kernel_rfl
 match xs,hlen with
 | [y0,y1,y2],_ =>
  have h0:DataW.trod enc Tryz.prog w base spare held n 52 ((cs.drop 0).take (Tryz.prog.cellsOf 52))=some y0:=hf 0 _ rfl
  have h1:DataW.trod enc Tryz.prog w base spare held n 28 ((cs.drop 1).take (Tryz.prog.cellsOf 28))=some y1:=hf 1 _ rfl
  have h2:DataW.trod enc Tryz.prog w base spare held n 28 ((cs.drop 5).take (Tryz.prog.cellsOf 28))=some y2:=hf 2 _ rfl
  rw [c1] at h0
  rw [c0] at h1 h2
  obtain ⟨a,ha,_⟩:=DataW.trod_int Tryz.underlying52 h0
  obtain ⟨b,hb⟩:=rd_rf h1
  obtain ⟨c,hc⟩:=rd_rf h2
  exact ⟨⟨a,b,c⟩,fP (A0:=NumA .u8 a) ha hb hc hl'⟩
end
end Go.Proofs.YtlakjmncfooodaaGreat
