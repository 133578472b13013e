import Derived.Test.YtmacliockgbdcaaGreatDoorBfAa
import Derived.Test.YtmacliockgbdcaaGreatDoorBfAc
import Derived.Test.YtmacliockgbdcaaGreatDoorBfAj
import Derived.Test.YtmacliockgbdcaaGreatDoorBfAm
import Derived.Test.YtmacliockgbdcaaGreatDoorBfAn
import Derived.Test.YtmacliockgbdcaaGreatDoorBfAx
import Derived.Test.YtmacliockgbdcaaGreatDoorBfAz
import Derived.Test.YtmacliockgbdcaaGreatDoorBfBb
import Derived.Test.YtmacliockgbdcaaGreatDoorBfBc
import Derived.ArgAppend
import Derived.Laws.AppendOwn
import Derived.Laws.OwnMore
import Derived.Orders
set_option linter.unusedVariables false
set_option linter.unusedSimpArgs false
set_option linter.unusedSectionVars false
set_option maxRecDepth 100000
namespace Go.Proofs.YtmacliockgbdcaaGreatDoor
open Go Go.RowKit
theorem big_e {x:RI}:decide ((x.mag.length:Int)>2048)=bigI x:=by unfold bigI; simp
theorem lq_e {q:Rat}:(bigI (riOf q.num) || bigI (riOf (q.den:Int)))=longQ q:=by simp [longQ]
theorem oY (x:RI):Cn Tryz.prog 191 [(RIA x).va] (Bo (bigI x)):=by
 refine Cn.intro Tryz.func191 G zk nq (fun B w0 a U=>?_)
 have U:=zn [(0,(RIA x).va)] [] U
 refine wp_seq<|zg [] [⟨1,25,ptrH,some 0,_,none⟩] [.alc 0,.v 2 _] [.o 1] U (oc (ay G G G (gq 0 G)) (zv G (a9 aK) o0)) (zz [(2,_)] [O 1 25 _] fun a w U=>?_)
 refine zt<|zg [none] [] [.adr 3 1 (.some 1) True,.v 4 _,.v 5 _,.v 6 _,.v 2 _] [.o 4] U (oc (ob_a G G (ac (lz0 0 G) au)) (zL 0 0 1 G aW (zv G (aI Tryz.underlying23 (vq 1 G)) (zv G (dJ (vq 2 G) a8) (zA 3 G o0))))) (zz [(2,_)] [O 1 25 _] fun a w U=>?_)
 refine a7<|wp_ret<|ar ?_ (am G U (zm 0 G))
 exact bc (congrArg Bo big_e)
theorem wc {L:List As}(qs:List Rat)(hL:All2 IsQ L qs)(hl:qs.length≤1099511627776):Cn Tryz.prog 124 [(SlA 27 [U32] L).va] (Bo (qs.any longQ)):=by
 have hLl:=hL.length
 refine Cn.introW Tryz.func124 G zk nq (.cons (ns (isq_up hL)).va .nil) (eF _).va (fun B w0 a hB0 U=>?_)
 have U:=zn [(0,(SlO 27 [U32] L True).va)] [] U
 refine wp_seq<|zh [.v 2 _] [.g 0,.o 0] U (zv G (a9 aK) o0) (zz [(0,_),(2,_)] [] fun a w U=>?_)
 refine zt<|wp_seq<|zh [.v 3 _] [.g 0,.g 1,.o 0] U (zv G (a9 a8) o0) (zz [(0,_),(2,_),(3,_)] [] fun a w U=>?_)
 refine a7<|wp_block ?_
 have U:=St.sel U [0,2]
 refine wp_loop_ghost (fun n a w=>∃ j:Nat,(n+j=qs.length∧(qs.take j).any longQ=false)∧St B w0 24 [(0,(SlO 27 [U32] L True).va),(3,In (j:Nat))] [] a w) (qs.length) ?_ ?_
 ·exact ⟨0,⟨by omega,rfl⟩,U⟩
 intro n a w hI
 obtain ⟨j,⟨hn,hno⟩,U⟩:=hI
 refine wp_seq<|wp_seq<|zh [.v 4 _,.v 5 _,.v 6 _,.v 7 _] [.g 0,.g 1,.o 3] U (zM 1 G (zM 0 G (zv G (be Tryz.underlying128 (cE (aL (vq 1 G)))) (zv G (aN (vq 0 G) (vq 2 G)) o0)))) (zz [(0,_),(3,_),(7,_)] [] fun a w U=>?_)
 refine a7<|ah U (zm 2 G) (fun hb0=>?_) (fun hb0=>?_)
 ·have hj:j<qs.length:=by rw [hLl] at hb0; simp at hb0; omega
  obtain ⟨kj,hLj⟩:=isq_at hL hj
  refine wp_skip<|zt<|wp_block<|wp_seq<|zh [.v 10 _,.v 11 _,.v 12 _,.v 13 _,.v 14 _,.v 15 _,.v 16 _,.v 17 (Wh (_=false) _),.v 18 (Wh (_=false) _),.v 19 (Wh (_=false) _),.v 20 (Wh (_=false) _),.v 21 (Wh (_=false) _),.v 22 (Wh (_=false) _),.v 23 _] [.g 0,.g 1,.o 13] U (zM 0 G (zM 1 G (zv G (cB fS (isq_n hL) (cE (aL (vq 0 G))) (vq 1 G) hLj) (zv G (aH (vq 2 G) aY (Sub.part 0 G G)) (zv G (aq (vq 3 G) al) (zv G (aa (xs:=[.tmp 14]) ((oY (riOf (qs[j]).num)).wk (.cons zaA.va .nil)) (.cons (vq 4 G) .nil)) (zv G (ae (vq 5 G)) (oc (an G G G (vq 6 G) nq (fun hg=>ae (gq 0 G))) (oc (an G G G (vq 6 G) nq (fun hg=>ae (gq 1 G))) (oc (an G G G (vq 6 G) nq (fun hg=>cB fS (isq_n hL) (cE (aL (ai (vq 7 G) hg))) (ai (vq 8 G) hg) hLj)) (oc (an G G G (vq 6 G) nq (fun hg=>aH (ai (vq 9 G) hg) aT (Sub.part 1 G G))) (oc (an G G G (vq 6 G) nq (fun hg=>aq (ai (vq 10 G) hg) al)) (oc (an G G G (vq 6 G) nq (fun hg=>aa (xs:=[.tmp 21]) ((oY (riOf ((qs[j]).den:Int))).wk (.cons zaA.va .nil)) (.cons (ai (vq 11 G) hg) .nil))) (zv G (r_or (vq 6 G) (vq 12 G)) o0)))))))))))))) (zz [(0,_),(3,_),(23,_)] [] fun a w U=>?_)
  refine a7<|ah U (zm 2 G) (fun hb1=>?_) (fun hb1=>?_)
  ·rw [lq_e] at hb1
   refine wp_seq<|zh [.v 2 _] [.g 0,.g 1,.o 0] U (zv G (a9 aK) o0) (zz [(0,_),(3,_),(2,_)] [] fun a w U=>?_)
   refine a7<|wp_ret<|aV ?_
   refine ap ?_
   refine ap ?_
   refine aV ?_
   refine ap ?_
   refine aB ?_ (am G U (zm 2 G))
   rw [← Bn hj hb1]
  ·rw [lq_e] at hb1
   refine wp_skip<|ao ?_
   refine a7<|zh [.v 8 _,.v 9 _,.v 3 _] [.g 0,.o 2] U (zM 1 G (zv G (aR (vq 0 G) a8 (aX zo)) (zA 1 G o0))) (zz [(0,_),(3,_)] [] fun a w U=>?_)
   refine a7 ?_
   have U:=St.sel U [0,1]
   exact ⟨n-1,by omega,j+1,⟨by omega,lq_no hj hno hb1⟩,U⟩
 ·obtain rfl:j=qs.length:=by rw [hLl] at hb0; simp at hb0; omega
  refine wp_exit<|ak<|ak<|aC<|zt<|zh [.v 2 _] [.o 0] U (zv G (a9 aK) o0) (zz [(2,_)] [] fun a w U=>?_)
  refine a7<|wp_ret<|aB ?_ (am G U (zm 0 G))
  rw [List.take_length] at hno; rw [hno]
theorem qm4 {c1 c2 c3 c4 k:Nat}{x y z u:Rat}(h1:c1≤k)(h2:c2≤k)(h3:c3≤k)(h4:c4≤k):WkA (cat [QA c1 x,QA c2 y,QA c3 z,QA c4 u]) (QMA k ⟨x,y,z,u⟩):=bz (.cons (bT h1) (.cons (bT h2) (.cons (bT h3) (.cons (bT h4) .nil))))
def CW (P:Program)(f:FuncId)(Ts:List TypeId)(pre:Nat→List VA)(post:Nat→VA):Prop :=
 (∃ fn, P.funcs[f]? = some fn ∧ (fn.name == "runtime.NumGoroutine") = false ∧ fn.body.isNone = false) ∧
 ∀ (B b:Nat) (w:World) (args:List Value),B≤b→b≤w.heap.size→All2 (fun (A:VA) v=>A.p B v w) (pre b) args →
  Calls P f args.toArray w fun e w'=>∃ v,e=.returned v∧(post b).p B v w'∧Kept (Wid b w Ts) w'
theorem CW.intro {P : Program} {f : FuncId} {fn : Func} {cd : Code} {Ts : List TypeId} {pre : Nat → List VA} {post : Nat → VA} (hf : P.funcs[f]? = some fn) (hb : fn.body = some cd) (hn : (fn.name == "runtime.NumGoroutine") = false) (hsz : (pre 0).length ≤ fn.ntmps)
  (h:∀ (B b:Nat) (w0:Bs) (a:Act),B≤b→b≤w0.w.heap.size→(∀ E,Ts.contains E=true→RowMay w0 b E)→St B w0 fn.ntmps (argΓ (pre b)) [] a w0.w→cd.wp P (bPost P fn (RQ B w0 (post b))) a w0.w) (hl:∀ b,(pre b).length=(pre 0).length:=by intro b; rfl):CW P f Ts pre post:=by
 refine ⟨⟨fn,hf,hn,by rw [hb]; rfl⟩,fun B b w args hBb hbw ha=>?_⟩
 have hlen:=ha.length
 have:=hl b
 refine (bQ hf hb (h B b (Wid b w Ts) _ hBb hbw (fun E hE w1 g' cc fz hk hB' hcc=>?_) ?_)).mono fun _ w' ⟨v',he,hv,hk⟩=>⟨v',he,hv,hk⟩
 ·by_cases hlt:g'<w.heap.size
  ·by_cases hF:(Wid b w Ts).F g'
   ·exact .inr hF
   ·exact .inr ⟨hB',cc,E,fz,(hk.block g' hlt hF).symm.trans hcc,by simpa using hE⟩
  ·exact .inl (Nat.le_of_not_lt hlt)
 ·refine ⟨fun k hk=>?_,DefOk.nil rfl,?_,Kept.refl _,All2.args ha,(fun l' hl'=>by cases hl'),(fun l' hl'=>by cases hl')⟩
  ·rcases hk with hk | hk
   ·exact Nat.le_trans (Nat.le_trans hBb hbw) hk
   ·exact Nat.le_trans hBb hk.1
  ·simp only [Array.size_append,List.size_toArray,Array.size_replicate]
   omega
def PtrGe (h:Nat):VA where
 p _ x _:=∃ g,x=ptr g∧h≤g
 deps:=[]
 cg:=fun _ _ _ _ _ h=>h
 wr:=fun _ _ _ _ _ _ _ _ _ _ _ _ h=>h
section
open Rg
variable {P:Program} {Q:Exit→Act→World→Prop} {B N:Nat} {w0:Bs} {Γ:List (Nat × VA)} {Λ:List Lc} {a:Act} {w:World} {ops:Array Oper} {i:Nat} {K:Act→World→Prop}
theorem io {d f:Nat}{T1:TypeId}{Ts:List TypeId}{pre:Nat→List VA}{post:Nat→VA}{xs:List Operand}{at_:Array TypeId}{ps:String}{af:Array Edge}(src:List Nat)(ho:ops[i]?=some ⟨some d,.call ⟨.value (.func f),xs.toArray,at_⟩,T1,ps,af,none⟩)(h:St B w0 N Γ Λ a w)
  (hc:CW P f Ts pre post) (hx:All2 (fun (A:VA) v=>A.p B v w) (pre w0.w.heap.size) (xs.map a.eval)) (hd:d<N) (hΓ:Γ.all (fun x=>x.1 != d)=true) (hΛd:Λ.all (fun l=>l.s != d)=true)
  (hsrc:src.all (fun k=>match Γ[k]? with | some y=>Ts.all (fun E => !y.2.deps.contains E) | none=>false)=true) (hΛ:Λ.all (fun x => !Ts.contains x.T&&Ts.all (fun E => !x.A.deps.contains E))=true)
  (hK:∀ a' w',St B w0 N ((d,post w0.w.heap.size)::src.filterMap fun k=>Γ[k]?) Λ a' w'→K a' w'):wpOp P ops Q i K a w:=by
 obtain ⟨⟨fn,hf,hn,hb⟩,hcall⟩:=hc
 have hrun:(execOp a.eval ⟨some d,.call ⟨.value (.func f),xs.toArray,at_⟩,T1,ps,af,none⟩).run P w=.ok (.enter f (xs.map a.eval).toArray) w:=by
  simp only [execOp,resolve,Act.eval,Deferred.ofValue,Sem.run_bind,Sem.run_pure,Result.andThen_ok,invoke,bk hf hn hb]
  simp
 have hdsz:d<a.tmps.size:=by rw [h.size]; exact hd
 have hB0:B≤w0.w.heap.size:=h.lo _ (.inl (Nat.le_refl _))
 unfold wpOp
 simp only [ho,Region.wanted,if_true]
 refine .inl ?_
 unfold Oper.wp
 rw [hrun]
 refine (hcall B w0.w.heap.size w _ hB0 h.base.size hx).mono ?_
 rintro e0 w' ⟨v,rfl,hv,hk0⟩
 refine hK _ _ ?_
 have hk:Kept (Wid B w Ts) w':=⟨hk0.os,hk0.tape,hk0.output,hk0.size,fun k h1 h2=>hk0.block k h1 fun h3=>h2 ⟨Nat.le_trans hB0 h3.1,h3.2⟩⟩
 have hls:∀ l∈Λ,l.s≠d:=fun l hl=>by simpa using List.all_eq_true.1 hΛd l hl
 refine ⟨h.lo,h.defers.keep rfl fun D hD=>(hk.block D (Array.getElem?_eq_some_iff.1 hD).1 (fun ⟨_,c,T2,fz,e5,_⟩=>by rw [hD] at e5; cases e5)).trans hD,by rw [bu]; exact h.size,⟨hk.os.trans h.base.os,hk.tape.trans h.base.tape,hk.output.trans h.base.output,Nat.le_trans h.base.size hk.size,fun k h3 h4=>?_⟩,fun y hy=>?_,fun m hm=>?_,fun m1 hm1 m2 hm2 hne=>?_⟩
 ·exact (hk0.block k (Nat.lt_of_lt_of_le h3 h.base.size) (fun h5=>by have:=h5.1; omega)).trans (h.base.block k h3 h4)
 ·rcases List.mem_cons.1 hy with rfl | hy
  ·show (post _).p B ((a.put (some d) v).eval (.tmp d)) w'
   rw [aM _ _ _ hdsz]
   exact hv
  ·obtain ⟨k,hk1,hk2⟩:=List.mem_filterMap.1 hy
   have hs:=List.all_eq_true.1 hsrc k hk1
   simp only [hk2,List.all_eq_true,Bool.not_eq_true',List.contains_eq_mem,decide_eq_false_iff_not] at hs
   have hyd:y.1≠d:=by simpa using List.all_eq_true.1 hΓ y (List.mem_of_getElem? hk2)
   rw [aj _ _ _ _ hyd]
   exact VA.kept (h.vals y (List.mem_of_getElem? hk2)) hk hs
 ·have hc:=List.all_eq_true.1 hΛ m hm
  simp only [Bool.and_eq_true,Bool.not_eq_true',List.contains_eq_mem,decide_eq_false_iff_not,List.all_eq_true] at hc
  obtain ⟨g',cs2,p1,p2,p3,p4⟩:=h.locs m hm
  refine ⟨g',cs2,by rw [aj _ _ _ _ (hls _ hm)]; exact p1,p2,(hk.block g' (Array.getElem?_eq_some_iff.1 p3).1 (fun ⟨_,c,T2,fz,e5,e6⟩=>?_)).trans p3,As.kept p4 hk hc.2⟩
  rw [p3] at e5
  injection e5 with e5
  injection e5 with _ e5 _
  subst e5
  exact hc.1 e6
 ·rw [aj _ _ _ _ (hls _ hm1),aj _ _ _ _ (hls _ hm2)]
  exact h.dis m1 hm1 m2 hm2 hne
theorem St.turn0 {w':World}{E b:Nat}{row:Option Nat}(src:List Nat)(h:St B w0 N Γ Λ a w)(hBb:B≤b)(hg:w.grownBy w' row)(hr:RowOk w b E row)(hm:∀ g,row=some g→w0.may g)
  (hsrc:src.all (fun k=>match Γ[k]? with | some y => !y.2.deps.contains E | none=>false)=true) (hΛ:∀ l∈Λ,(l.T≠E∨blk (a.eval (.tmp l.s))≠row)∧E ∉ l.A.deps):St B w0 N (src.filterMap fun k=>Γ[k]?) Λ a w':=by
 refine ⟨h.lo,h.defers.grown hg hr rfl,h.size,⟨hg.os.trans h.base.os,hg.tape.trans h.base.tape,hg.output.trans h.base.output,Nat.le_trans h.base.size hg.size,fun k hk hf=>?_⟩,fun y hy=>?_,fun m' hm'=>?_,h.dis⟩
 ·refine (hg.block k (Nat.lt_of_lt_of_le hk h.base.size) (fun e=>?_)).trans (h.base.block k hk hf)
  rcases hm k e.symm with q | q
  ·omega
  ·exact hf q
 ·obtain ⟨k,hk1,hk2⟩:=List.mem_filterMap.1 hy
  have hs:=List.all_eq_true.1 hsrc k hk1
  simp only [hk2,Bool.not_eq_true',List.contains_eq_mem,decide_eq_false_iff_not] at hs
  exact VA.grown (h.vals y (List.mem_of_getElem? hk2)) hg hr hBb hs
 ·obtain ⟨q1,q2⟩:=hΛ m' hm'
  obtain ⟨g,cs,p1,p2,p3,p4⟩:=h.locs m' hm'
  refine ⟨g,cs,p1,p2,(hg.block g (Array.getElem?_eq_some_iff.1 p3).1 (fun e=>?_)).trans p3,As.grown p4 hg hr hBb q2⟩
  rcases q1 with q1 | q1
  ·obtain ⟨_,c,fz,e6⟩:=hr g e.symm
   rw [p3] at e6
   injection e6 with e6
   injection e6 with _ e6 _
   exact q1 e6
  ·exact q1 (by rw [p1,m'.H.ok]; exact e)
theorem gP {d s t b:Nat}{S E T1:TypeId}{ps:String}{af:Array Edge}{Xs:List As}{m bytes:Nat}{D D':List TypeId}{l:List As}{it:TypeInfo}{z:Value}(src:List Nat)(ks ku:Nat)
  (ho:ops[i]?=some ⟨some d,.call ⟨.builtin .append,#[.tmp s,.tmp t],#[S,S]⟩,T1,ps,af,none⟩) (h:St B w0 N Γ Λ a w)
  (hs:Γ[ks]?=some (s,OwnR b E m D l)) (hu:Γ[ku]?=some (t,(SlA E D' Xs).va)) (h0:0<Xs.length) (hBb:B≤b) (hbw:b≤w.heap.size) (hrm:RowMay w0 b E) (hED:D.contains E=false) (hD':D'.all (fun t=>D.contains t)=true) (hXn:∀ X∈Xs,X.n=m)
  (hS:P.underlying S=some (.slice E)) (hi:P.info? E=some it) (hz:it.zero=some z) (hsz1:it.size=m) (hby:it.bytes=bytes) (hzs:z.cells.size=m) (hm0:0<m) (hn:(l.length+Xs.length)*bytes≤140737488355328) (hn2:l.length+Xs.length≤1000000000000000)
  (hd:d<N) (hΓ:Γ.all (fun x=>x.1 != d)=true) (hΛd:Λ.all (fun l=>l.s != d)=true)
  (hsrc:src.all (fun k=>match Γ[k]? with | some y => !y.2.deps.contains E | none=>false)=true) (hΛ:Λ.all (fun x=>x.T != E && !x.A.deps.contains E)=true)
  (hK:∀ a' w',St B w0 N ((d,OwnR b E m D (l++Xs))::src.filterMap fun k=>Γ[k]?) Λ a' w'→K a' w'):wpOp P ops Q i K a w:=by
 obtain ⟨cs1,⟨hXd,Ad,cap,ds,rfl,_,_,h5,h6⟩,hu'⟩:=h.vals _ (List.mem_of_getElem? hu)
 have e2:a.eval (.tmp t)=.slice Ad Xs.length cap:=hu'
 obtain ⟨g1,o1,rfl,_,_,h8⟩:=h6 h0
 obtain ⟨q7,q8,ds0,q9,hown⟩:=h.vals _ (List.mem_of_getElem? hs)
 obtain ⟨v,ev⟩:∃ v,a.eval (.tmp s)=v:=⟨_,rfl⟩
 have hown:w.ownsRow b E m v l.length ds0:=ev▸hown
 have hED':E ∉ D:=by simpa using hED
 have hDD:∀ t∈D',t∈D:=fun t ht=>by simpa using List.all_eq_true.1 hD' t ht
 have hdl:ds.length=Xs.length*m:=by rw [(cat Xs).len _ _ _ h5,fP hXn]
 obtain ⟨v',w',hr,r1,r2,_,_⟩:=run_append_own_at (P:=P) w b S T1 E it z m bytes hS hi hz hsz1 hby hzs hm0 v l.length ds0 hown ⟨g1,o1,none⟩ Xs.length cap ds hdl (fun j u hu=>by rw [jH]; exact h8 j u hu) ((cat Xs).one _ _ _ h5) (by unfold maxLen; omega) hn hbw
 have hro:RowOk w b E v.ownBlock:=dT hown
 have U:=h.turn0 src hBb r2 hro (fun g hg=>by
  obtain ⟨p1,c,fz,p2⟩:=hro g hg
  exact hrm w g c fz h.base p1 p2) hsrc (fun l hl=>by
  have hc:=List.all_eq_true.1 hΛ l hl
  simp only [Bool.and_eq_true,bne_iff_ne,Bool.not_eq_true',List.contains_eq_mem,decide_eq_false_iff_not] at hc
  exact ⟨.inl hc.1,hc.2⟩)
 have hst2:=U.addV (d:=d) (v:=v') (A:=OwnR b E m D (l++Xs)) hd (List.all_eq_true.2 fun x hx=>by
  obtain ⟨k,hk1,hk2⟩:=List.mem_filterMap.1 hx
  exact List.all_eq_true.1 hΓ x (List.mem_of_getElem? hk2)) hΛd ⟨fun A hA=>by
   rcases List.mem_append.1 hA with hA | hA
   ·exact q7 A hA
   ·exact hXn A hA,fun A hA=>by
   rcases List.mem_append.1 hA with hA | hA
   ·exact q8 A hA
   ·exact fun t ht=>hDD t (hXd A hA t ht),ds0++ds,jq (As.grown q9 r2 hro hBb (fc q8 hED')) (As.grown h5 r2 hro hBb (fc (fun A hA t ht=>hDD t (hXd A hA t ht)) hED')),by rw [List.length_append]; exact r1⟩
 unfold wpOp
 simp only [ho,Region.wanted,if_true]
 refine .inl (ba (w':=w') (v:=v') ?_ (hK _ w' hst2))
 simp only [execOp,resolve,invoke,builtin,Sem.run_bind,Sem.run_pure,Result.andThen_ok,List.map_toArray,List.map_cons,List.map_nil,ev,e2,hr]
end
section
variable {P:Program} {R:Rg} {Q:Exit→Act→World→Prop} {B i:Nat} {w0:Bs}
end
theorem mC {X:As}{m:Nat}(h:X.n=m):∀ A∈[X],A.n=m:=fun A hA=>by
 obtain rfl:=List.mem_singleton.1 hA
 exact h
theorem j0 {w0:Bs}{E:TypeId}:RowMay w0 w0.w.heap.size E:=fun _ _ _ _ _ h _=>.inl h
theorem own_le {b b' E m:Nat}{D:List TypeId}{l:List As}(h:b≤b'):Wk (OwnR b' E m D l) (OwnR b E m D l):=fun B v w ⟨h1,h2,ds,h3,h4,h5⟩=>⟨h1,h2,ds,h3,h4,h5.imp id fun ⟨g,cap,cur,e1,e2,e3⟩=>⟨g,cap,cur,e1,Nat.le_trans h e2,e3⟩⟩
theorem kL {P:Program}{R:Rg}{Q:Exit→Act→World→Prop}{B i:Nat}{w0:Bs}{f:Nat}{pre:Nat→List VA}{post:Nat→VA}{xs:List Operand}{at_:Array TypeId}(hc:CW P f [] pre post)(hx:HasL R B w0 i xs (pre w0.w.heap.size)):Wv P Q R B w0 i (.call ⟨.value (.func f),xs.toArray,at_⟩) (post w0.w.heap.size):=by
 intro d T ps af gd a w av K hK
 obtain ⟨⟨fn,hf,hn,hb⟩,hcall⟩:=hc
 have hrun:(execOp a.eval ⟨some d,.call ⟨.value (.func f),xs.toArray,at_⟩,T,ps,af,gd⟩).run P w=.ok (.enter f (xs.map a.eval).toArray) w:=by
  simp only [execOp,resolve,Act.eval,Deferred.ofValue,Sem.run_bind,Sem.run_pure,Result.andThen_ok,invoke,bk hf hn hb]
  simp
 unfold Oper.wp
 rw [hrun]
 refine (hcall B w0.w.heap.size w _ (av.lo _ (.inl (Nat.le_refl _))) av.base.size (hx.all av)).mono ?_
 rintro e w' ⟨v,rfl,hv,hk⟩
 exact hK v w' ⟨hk.os,hk.tape,hk.output,hk.size,fun k hk1=>hk.block k hk1 fun ⟨_,_,_,_,_,h⟩=>by cases h⟩ hv
theorem tp {b E m:Nat}{D:List TypeId}{l:List As}(hm:∀ A∈l,A.n=m)(hD:∀ A∈l,∀ T∈A.deps,T∈D)(hl:l.length≤9000000000000000):Wk (NewR b E l) (OwnR b E m D l):=fun B v w ⟨g,dx,hv,hge,hgh,hcx⟩=>by
 have lnx:dx.length=l.length*m:=by rw [(cat l).len _ _ _ hcx,fP hm]
 exact ⟨hm,hD,dx,hcx,lnx,.inr ⟨g,l.length,dx.toArray,hv,hge,hgh,Nat.le_refl _,by unfold maxLen; omega,by simpa using lnx,by rw [← lnx]; simp⟩⟩
def ER (k:Nat)(e:EQ):As:=cat [NumA .u8 e.1,QA k e.2,QA k 0]
theorem jf {k k':Nat}{e:EQ}(h:k≤k'):WkA (ER k e) (ER k' e):=bz (.cons (WkA.refl _) (.cons (bT h) (.cons (bT h) .nil)))
theorem er_re {k:Nat}{e:EQ}:WkA (ER k e) (REA (reOf e)):=bz (.cons (WkA.refl _) (.cons qaA (.cons qaA .nil)))
theorem yJ {k:Nat}{L:List EQ}{p:As→Prop}(h:∀ e,p (ER k e)):∀ A∈L.map (ER k),p A:=fun A hA=>by
 obtain ⟨e,_,rfl⟩:=List.mem_map.1 hA
 exact h e
theorem Ca {k:Nat}{e:EQ}:∀ T∈(ER k e).deps,T∈[U32]:=dK (l:=[ER k e]) zk _ (by simp)
theorem er_n {k:Nat}{L:List EQ}:∀ A∈L.map (ER k),A.n=9:=yJ fun _=>rfl
theorem er_D {k:Nat}{L:List EQ}:∀ A∈L.map (ER k),∀ T∈A.deps,T∈[U32]:=yJ fun _=>Ca
abbrev SlR (k:Nat)(L:List EQ):VA:=(SlA 67 [U32] (L.map (ER k))).va
theorem vF {k k':Nat}(h:k≤k'){L:List EQ}:Wk (SlR k L) (SlR k' L):=(nx (dr fun _=>jf h) er_D).va
theorem xW {k:Nat}{L:List EQ}:Wk (SlR k L) (SlA 67 [U32] ((L.map reOf).map REA)).va:=by
 rw [List.map_map]
 exact (nx (dr fun _=>er_re) (fun A hA=>by
  obtain ⟨x,_,rfl⟩:=List.mem_map.1 hA
  exact dK (l:=[REA (reOf x)]) zk _ (by simp))).va
abbrev OwE (b k:Nat)(L:List EQ):VA:=OwnR b 67 9 [U32] (L.map (ER k))
theorem sU {b E m:Nat}{D:List TypeId}{l l':List As}(h:All2 WkA l l')(hm:∀ A∈l',A.n=m)(hD:∀ A∈l',∀ T∈A.deps,T∈D):Wk (OwnR b E m D l) (OwnR b E m D l'):=fun B v w ⟨_,_,ds,h6,h7⟩=>⟨hm,hD,ds,(bz h).2.2 _ _ _ h6,by rw [← h.length]; exact h7⟩
theorem p8 {b k k':Nat}(h:k≤k'){L:List EQ}:Wk (OwE b k L) (OwE b k' L):=sU (dr fun _=>jf h) er_n er_D
theorem iX {b k:Nat}{L:List EQ}:Wk (OwE b k L) (SlR k L):=eP
theorem ol {k k' c:Nat}{L:List EQ}{e:EQ}{b:Nat}(h:k≤k')(h':c≤k'):Wk (OwnR b 67 9 [U32] (L.map (ER k)++[ER c e])) (OwE b k' (L++[e])):=sU (by rw [List.map_append]; exact iE (dr fun _=>jf h) (.cons (jf h') .nil)) er_n er_D
def lensR (p:Rat):List EQ:=if p=0 then [] else [(2,p)]
def tailR (m:MQ):List EQ:=lensR ((1-m.a)/m.b)++[(1,m.b)]++lensR ((1-m.d)/m.b)
def partsR (m:MQ):List EQ:=if 0<m.b then tailR m else if m.b<0 then (5,0)::tailR (negM m) else if m.a=1 then lensR (0-m.c) else if m.a=0-1 then (5,0)::lensR m.c else if m.a<0 then (1,1)::tailR (preM m) else (5,0)::(1,1)::tailR (preM (negM m))
theorem wH {p:Rat}(h:(p.num.sign==0)=true):lensR p=[]:=if_pos (by rw [qn] at h; exact of_decide_eq_true h)
theorem wG {p:Rat}(h:(p.num.sign==0)=false):lensR p=[(2,p)]:=if_neg (by rw [qn] at h; exact of_decide_eq_false h)
theorem dE (p:Rat):(lensR p).length≤1:=by unfold lensR; split <;> simp
theorem sS {m:MQ}(h:m.b<0):partsR m=(5,0)::partsR (negM m):=by
 have h1:¬ 0<m.b:=by grind
 have h2:0<(negM m).b:=by show 0<0-m.b; grind
 rw [partsR,if_neg h1,if_pos h,partsR,if_pos h2]
theorem iW {m:MQ}(h0:m.b=0)(h:m.a<0)(h1:m.a≠0-1):partsR m=(1,1)::partsR (preM m):=by
 have q1:¬ 0<m.b:=by grind
 have q2:¬ m.b<0:=by grind
 have q3:¬ m.a=1:=by grind
 have q4:0<(preM m).b:=by show 0<m.b-m.a; grind
 rw [partsR,if_neg q1,if_neg q2,if_neg q3,if_neg h1,if_pos h,partsR,if_pos q4]
theorem qF {m:MQ}(h0:m.b=0)(h:¬ m.a<0)(ha:m.a≠0)(h1:m.a≠1):partsR m=(5,0)::partsR (negM m):=by
 have q1:¬ 0<m.b:=by grind
 have q2:¬ m.b<0:=by grind
 have q3:¬ m.a=0-1:=by grind
 have r0:(negM m).b=0:=by show 0-m.b=0; grind
 have r1:(negM m).a<0:=by show 0-m.a<0; grind
 have r2:(negM m).a≠0-1:=by show 0-m.a≠0-1; grind
 have r3:0<(preM (negM m)).b:=by show 0<0-m.b-(0-m.a); grind
 rw [iW r0 r1 r2,partsR,if_neg q1,if_neg q2,if_neg h1,if_neg q3,if_neg h,partsR,if_pos r3]
theorem il {L:List EQ}{p:Rat}(h:∀ e,L.getLast?=some e→e.1≠2):putQ L 2 p=L++lensR p:=by
 unfold putQ lensR
 by_cases hp:p=0
 ·rw [if_pos ⟨by decide,hp⟩,if_pos hp,List.append_nil]
 ·rw [if_neg (fun hh=>hp hh.2),if_neg hp]
  cases hl:L.getLast? with
  | none=>rfl
  | some e=>show (if e.1=2 then _ else _)=_; rw [if_neg (h e hl)]
theorem rL {L:List EQ}{m:MQ}(hb:m.b≠0)(hL:∀ e,L.getLast?=some e→e.1≠2)(hL1:(∀ e,L.getLast?=some e→e.1≠1)∨(1-m.a)/m.b≠0):tailQ L m=L++tailR m:=by
 have e2:∀ M:List EQ,(∀ e,M.getLast?=some e→e.1≠1)→putQ M 1 m.b=M++[(1,m.b)]:=fun M hM=>by
  unfold putQ
  rw [if_neg (fun hh=>hb hh.2)]
  cases hl:M.getLast? with
  | none=>rfl
  | some e=>show (if e.1=1 then _ else _)=_; rw [if_neg (hM e hl)]
 have e1:putQ (putQ L 2 ((1-m.a)/m.b)) 1 m.b=L++lensR ((1-m.a)/m.b)++[(1,m.b)]:=by
  rw [il hL]
  refine e2 _ fun e he=>?_
  by_cases hq:(1-m.a)/m.b=0
  ·rw [lensR,if_pos hq,List.append_nil] at he
   exact hL1.elim (fun h=>h e he) fun h=>absurd hq h
  ·rw [lensR,if_neg hq,List.getLast?_concat] at he
   injection he with he
   subst he
   exact fun h=>absurd (show (2:Int)=1 from h) zd
 unfold tailQ
 rw [e1,il (fun e he=>by rw [List.getLast?_concat] at he; injection he with he; subst he; exact fun h=>absurd (show (1:Int)=2 from h) zd)]
 unfold tailR
 simp only [List.append_assoc]
theorem sT {m:MQ}(hd:m.a*m.d-m.b*m.c=1):partsQ m=partsR m:=by
 have e0:∀ x:Rat,0-(0-x)=x:=fun x=>by grind
 have n5:∀ k:Int,k≠5→∀ e:EQ,([((5:Int),(0:Rat))]:List EQ).getLast?=some e→e.1≠k:=fun k hk e he=>by
  injection he with he
  subst he
  exact fun h=>hk h.symm
 have n0:∀ k:Int,∀ e:EQ,([]:List EQ).getLast?=some e→e.1≠k:=fun k e he=>by cases he
 have ef:putQ [] 5 0=[(5,0)]:=rfl
 have e1:putQ [] 1 1=[(1,1)]:=by rw [putQ,if_neg (fun hh=>absurd hh.2 zd)]; rfl
 have e51:putQ [(5,0)] 1 1=[(5,0),(1,1)]:=by rw [putQ,if_neg (fun hh=>absurd hh.2 zd)]; rfl
 have hpre:∀ {L:List EQ} {m:MQ},m.b=0→m.a<0→(∀ e,L.getLast?=some e→e.1≠2)→tailQ L (preM m)=L++tailR (preM m):=fun {L m} h0 h1 hL=>by
  have hb:(preM m).b≠0:=by show m.b-m.a≠0; grind
  refine rL hb hL (.inr ?_)
  show (1-m.a)/(m.b-m.a)≠0
  have q1:m.b-m.a≠0:=by grind
  have q2:1-m.a≠0:=by grind
  intro e
  rw [Rat.div_def] at e
  rcases Rat.mul_eq_zero.1 e with e | e
  ·exact q2 e
  ·have:=Rat.mul_inv_cancel _ q1
   rw [e] at this
   grind
 rcases (show m.b<0∨m.b=0∨0<m.b by grind) with hb | hb | hb
 ·have hf:flipQ m=true:=by unfold flipQ; rw [decide_eq_true hb]; rfl
  have q1:(negM m).b≠0:=by show 0-m.b≠0; grind
  have q2:0<(negM m).b:=by show 0<0-m.b; grind
  rw [partsQ,if_pos hf,restQ,if_neg (fun hh=>q1 hh.1),if_neg q1,ef,rL q1 (n5 2 zd) (.inl (n5 1 zd)),partsR,if_neg (by grind),if_pos hb]
  rfl
 ·have n1:¬ 0<m.b:=by grind
  have n2:¬ m.b<0:=by grind
  have ha:m.a≠0:=fun e=>by rw [e,hb] at hd; grind
  rw [partsR,if_neg n1,if_neg n2]
  have hf:flipQ m=(decide (0-m.a=1) || (decide (0<m.a) && !decide (m.a=1))):=by unfold flipQ; rw [decide_eq_false n2,decide_eq_true hb]; rfl
  have nb:(negM m).b=0:=by show 0-m.b=0; grind
  by_cases h1:m.a=1
  ·have hf':flipQ m=false:=by rw [hf,decide_eq_false (show ¬ 0-m.a=1 by grind),decide_eq_true h1]; simp
   rw [if_pos h1,partsQ,hf',if_neg zd,restQ,if_neg (fun hh=>by have:=hh.2; grind),if_pos hb]
   unfold bareQ
   rw [il (n0 2),List.nil_append]
  ·rw [if_neg h1]
   by_cases h2:m.a=0-1
   ·have hf':flipQ m=true:=by rw [hf,decide_eq_true (show 0-m.a=1 by grind)]; rfl
    rw [if_pos h2,partsQ,if_pos hf',restQ,if_neg (fun hh=>by have:0-m.a<0:=hh.2; grind),if_pos nb,ef]
    unfold bareQ
    rw [il (n5 2 zd)]
    show [((5:Int),(0:Rat))]++lensR (0-(0-m.c))=_
    rw [e0]
    rfl
   ·rw [if_neg h2]
    by_cases h3:m.a<0
    ·have hf':flipQ m=false:=by
      rw [hf,decide_eq_false (show ¬ 0-m.a=1 by grind),decide_eq_false (show ¬ 0<m.a by grind)]
      rfl
     rw [if_pos h3,partsQ,hf',if_neg zd,restQ,if_pos ⟨hb,h3⟩,e1,hpre hb h3 (fun e he=>by injection he with he; subst he; exact fun h=>absurd h zd)]
     rfl
    ·have hf':flipQ m=true:=by
      rw [hf,decide_eq_true (show 0<m.a by grind),decide_eq_false h1]
      simp
     have na:(negM m).a<0:=by show 0-m.a<0; grind
     rw [if_neg h3,partsQ,if_pos hf',restQ,if_pos ⟨nb,na⟩,ef,e51,hpre nb na (fun e he=>by injection he with he; subst he; exact fun h=>absurd h zd)]
     rfl
 ·have hf:flipQ m=false:=by
   unfold flipQ
   rw [decide_eq_false (show ¬ m.b<0 by grind),decide_eq_false (show ¬ m.b=0 by grind)]
   rfl
  have q1:m.b≠0:=by grind
  rw [partsQ,hf,if_neg zd,restQ,if_neg (fun hh=>q1 hh.1),if_neg q1,rL q1 (n0 2) (.inl (n0 1)),partsR,if_pos hb,List.nil_append]
theorem ik {c:Nat}{x:Rat}(hc:c≤800000000):Cn Tryz.prog 129 [Qs c x] (Qs (c+2+1) x):=by
 refine Cn.intro Tryz.func129 G zk nq (fun B w0 a U=>?_)
 have U:=zn [(0,Qs c x)] [] U
 refine wp_seq<|zg [] [⟨1,27,ptrH,some 0,_,none⟩,⟨2,27,ptrH,some 1,_,none⟩] [.alc 0,.alc 1] [] U (oc (ay G G G (gq 0 G)) (oc (aJ G G G (Str.zero b4)) o0)) (zz [] [O 1 27 _,O 2 27 _] fun a w U=>?_)
 refine zt<|zgd [[],[],[0,1],[0,1,2]] [none,some (3,_)] [] [.v 3 _,.v 4 _,.v 5 _,.sto 1] [] ab U (zl 0 G ax (zv G (aa (xs:=[]) fo .nil) (zv G (aa (xs:=[.tmp 3,.tmp 4]) (kN zo) (.cons (vq 0 G) (.cons (vq 1 G) .nil))) (oc (aA G G G (vq 2 G) ax (Eq.trans (b:=4) G G)) o0)))) zk zk zk zk (zz [] [O 1 27 _,O 2 27 _] fun a w U=>?_)
 refine a7<|wp_ret<|ar ?_ (az G U (zm 1 G) ax)
 exact bc (congrArg (Qs _) (Rat.add_zero x))
theorem e8 {c:Nat}{x:Rat}(hc:c≤800000000):Cn Tryz.prog 133 [Qs c x] (Qs (2+c+1) (0-x)):=by
 refine Cn.intro Tryz.func133 G zk nq (fun B w0 a U=>?_)
 have U:=zn [(0,Qs c x)] [] U
 refine wp_seq<|zg [] [⟨1,27,ptrH,some 0,_,none⟩,⟨2,27,ptrH,some 1,_,none⟩] [.alc 0,.alc 1] [] U (oc (ay G G G (gq 0 G)) (oc (aJ G G G (Str.zero b4)) o0)) (zz [] [O 1 27 _,O 2 27 _] fun a w U=>?_)
 refine zt<|zgd [[],[],[0,1],[0,1,2]] [none,some (3,_)] [] [.v 3 _,.v 4 _,.v 5 _,.sto 1] [] ab U (zv G (aa (xs:=[]) fo .nil) (zl 0 G ax (zv G (aa (xs:=[.tmp 3,.tmp 4]) (dZ zo) (.cons (vq 0 G) (.cons (vq 1 G) .nil))) (oc (aA G G G (vq 2 G) ax (Eq.trans (b:=4) G G)) o0)))) zk zk zk zk (zz [] [O 1 27 _,O 2 27 _] fun a w U=>?_)
 refine a7<|wp_ret<|ar ?_ (az G U (zm 1 G) ax)
 exact bh
theorem mv {c d e f:Nat}{x y z u:Rat}:Cn Tryz.prog 134 [Qs c x,Qs d y,Qs e z,Qs f u] ((cat [QA c x,QA d y,QA e z,QA f u]).va):=by
 refine Cn.intro Tryz.func134 G zk nq (fun B w0 a U=>?_)
 have U:=zn [(0,Qs c x),(1,Qs d y),(2,Qs e z),(3,Qs f u)] [] U
 refine wp_seq<|zg [] [⟨4,27,ptrH,some 0,_,none⟩,⟨5,27,ptrH,some 1,_,none⟩,⟨6,27,ptrH,some 2,_,none⟩,⟨7,27,ptrH,some 3,_,none⟩,⟨8,29,ptrH,some 4,_,none⟩] [.alc 0,.alc 1,.alc 2,.alc 3,.alc 4] [] U (oc (ay G G G (gq 0 G)) (oc (ay G G G (gq 1 G)) (oc (ay G G G (gq 2 G)) (oc (ay G G G (gq 3 G)) (oc (aJ G G G (Str.zero cM)) o0))))) (zz [] [O 4 27 _,O 5 27 _,O 6 27 _,O 7 27 _,O 8 29 _] fun a w U=>?_)
 refine zt<|zg [none,none,none,none,some (5,_)] [] [.v 9 _,.v 10 _,.v 11 _,.v 12 _,.v 13 _,.sto 4] [] U (zl 0 G ax (zl 1 G ax (zl 2 G ax (zl 3 G ax (zv G (bi (xs:=[(0,.tmp 9),(1,.tmp 10),(2,.tmp 11),(3,.tmp 12)]) (qs:=[(0,_),(1,_),(2,_),(3,_)]) cM (.cons ⟨rfl,(vq 0 G),rfl⟩ (.cons ⟨rfl,(vq 1 G),rfl⟩ (.cons ⟨rfl,(vq 2 G),rfl⟩ (.cons ⟨rfl,(vq 3 G),rfl⟩ .nil))))) (oc (aA G G G (vq 4 G) dg (Eq.trans (b:=16) G G)) o0)))))) (zz [] [O 4 27 _,O 5 27 _,O 6 27 _,O 7 27 _,O 8 29 _] fun a w U=>?_)
 refine a7<|wp_ret<|ar ?_ (az G U (zm 4 G) dg)
 exact bh
theorem iT {c:Nat}{m:MQ}(hc:c≤800000000):Cn Tryz.prog 131 [(QMA c m).va] ((QMA (c+3) (negM m)).va):=by
 refine Cn.intro Tryz.func131 G zk nq (fun B w0 a U=>?_)
 have U:=zn [(0,(QMA c m).va)] [] U
 refine wp_seq<|zg [] [⟨1,29,ptrH,some 0,_,none⟩,⟨2,29,ptrH,some 1,_,none⟩] [.alc 0,.alc 1] [] U (oc (ay G G G (gq 0 G)) (oc (aJ G G G (Str.zero cM)) o0)) (zz [] [O 1 29 _,O 2 29 _] fun a w U=>?_)
 refine zt<|zgd [[],[0],[0,1],[],[3],[0,1,2,3,4],[],[6],[0,1,2,3,4,5,6,7],[],[9],[0,1,2,3,4,5,6,7,8,9,10],[0,1,2,3,4,5,6,7,8,9,10,11],[0,1,2,3,4,5,6,7,8,9,10,11,12]] [none,some (13,_)] [] [.adr 3 1 (.some 0) True,.v 4 _,.v 5 _,.adr 6 1 (.some 4) True,.v 7 _,.v 8 _,.adr 9 1 (.some 8) True,.v 10 _,.v 11 _,.adr 12 1 (.some 12) True,.v 13 _,.v 14 _,.v 15 _,.sto 1] [] ab U (oc (ob_a G G (ac (lz0 0 G) bG)) (zL 0 0 0 G ax (zv G (aa (xs:=[.tmp 4]) (e8 zo) (.cons (vq 1 G) .nil)) (oc (ob_a G G (ac (lz0 0 G) bF)) (zL 3 0 1 G ax (zv G (aa (xs:=[.tmp 7]) (e8 zo) (.cons (vq 4 G) .nil)) (oc (ob_a G G (ac (lz0 0 G) bU)) (zL 6 0 2 G ax (zv G (aa (xs:=[.tmp 10]) (e8 zo) (.cons (vq 7 G) .nil)) (oc (ob_a G G (ac (lz0 0 G) bW)) (zL 9 0 3 G ax (zv G (aa (xs:=[.tmp 13]) (e8 zo) (.cons (vq 10 G) .nil)) (zv G (aa (xs:=[.tmp 5,.tmp 8,.tmp 11,.tmp 14]) mv (.cons (vq 2 G) (.cons (vq 5 G) (.cons (vq 8 G) (.cons (vq 11 G) .nil))))) (oc (aA G G G (vq 12 G) dg (Eq.trans (b:=16) G G)) o0)))))))))))))) zk zk zk zk (zz [] [O 1 29 _,O 2 29 _] fun a w U=>?_)
 refine a7<|wp_ret<|ar ?_ (az G U (zm 1 G) dg)
 exact (qm4 zo zo zo zo).va
theorem cO (e:Int)(x:Rat){c k:Nat}(hc:c≤k)(h2:2≤k):Cn Tryz.prog 116 [(NumA .u8 e).va,Qs c x] ((ER k (e,x)).va):=by
 refine Cn.intro Tryz.func116 G zk nq (fun B w0 a U=>?_)
 have U:=zn [(0,(NumA .u8 e).va),(1,Qs c x)] [] U
 refine wp_seq<|zg [] [⟨3,27,ptrH,some 0,_,none⟩,⟨4,67,ptrH,some 1,_,none⟩] [.alc 0,.alc 1] [.g 0] U (oc (ay G G G (gq 1 G)) (oc (aJ G G G (Str.zero cu)) o0)) (zz [(0,_)] [O 3 27 _,O 4 67 _] fun a w U=>?_)
 refine zt<|zgd [[],[],[],[0,1,2],[0,1,2,3]] [none,some (4,_)] [] [.v 5 _,.v 6 _,.v 7 _,.v 8 _,.sto 1] [] ab U (zM 0 G (zl 0 G ax (zv G (aa (xs:=[]) fo .nil) (zv G (bi (xs:=[(0,.tmp 5),(1,.tmp 6),(2,.tmp 7)]) (qs:=[(0,_),(1,_),(2,_)]) cu (.cons ⟨rfl,(vq 0 G),rfl⟩ (.cons ⟨rfl,(vq 1 G),rfl⟩ (.cons ⟨rfl,(vq 2 G),rfl⟩ .nil)))) (oc (aA G G G (vq 3 G) cb (Eq.trans (b:=9) G G)) o0))))) zk zk zk zk (zz [] [O 3 27 _,O 4 67 _] fun a w U=>?_)
 refine a7<|wp_ret<|ar ?_ (az G U (zm 1 G) cb)
 exact (bz (.cons (WkA.refl _) (.cons (bT hc) (.cons (bT h2) .nil)))).va
theorem xH {L:List EQ}{j:Nat}(hj:j<L.length)(h:[L[j].2,0].any longQ=true):toldL L=([],4):=by
 refine iI (nt (j:=j) (by simpa using hj) ?_)
 rw [List.getElem_map,rH]
 simpa [nV] using h
theorem xI {L:List EQ}{j:Nat}(hj:j<L.length)(h1:(L.take j).any (fun e=>longQ e.2)=false)(h:[L[j].2,0].any longQ=false):(L.take (j+1)).any (fun e=>longQ e.2)=false:=by
 rw [List.take_succ_eq_append_getElem hj,List.any_append,h1]
 simpa [nV] using h
theorem CT {L:List EQ}(h:L.any (fun e=>longQ e.2)=false):toldL L=(L,0):=iJ (zT fun e he=>by
 cases hl:longQ e.2 with
 | false=>rfl
 | true=>rw [List.any_eq_true.2 ⟨e,he,hl⟩] at h; cases h)
theorem er_at {k:Nat}{L:List EQ}{j:Nat}(h:j<L.length):(L.map (ER k))[j]?=some (ER k L[j]):=by
 rw [List.getElem?_map,List.getElem?_eq_getElem h]
 rfl
theorem iV (L:List EQ){k:Nat}:Cn Tryz.prog 40 [SlR k L] (Tu [SlR k (toldL L).1,In (toldL L).2]):=by
 refine Cn.intro Tryz.func40 G zk nq (fun B w0 a U=>?_)
 have U:=zn [(0,SlR k L)] [] U
 have hlen:=fT (U.vals (0,SlR k L) (zm 0 rfl))
 refine wp_seq<|zh [.v 2 _,.v 3 _] [.g 0,.o 0,.o 1] U (zv G (a9 aP) (zv G (a9 a8) o0)) (zz [(0,_),(2,_),(3,_)] [] fun a w U=>?_)
 refine zt<|wp_seq<|zh [.v 4 _] [.g 0,.g 1,.g 2,.o 0] U (zv G (a9 a8) o0) (zz [(0,_),(2,_),(3,_),(4,_)] [] fun a w U=>?_)
 refine a7<|wp_block ?_
 have U:=St.sel U [0,3]
 refine wp_loop_ghost (fun n a w=>∃ j:Nat,(n+j=L.length∧(L.take j).any (fun e=>longQ e.2)=false)∧St B w0 24 [(0,SlR k L),(4,In (j:Nat))] [] a w) (L.length) ?_ ?_
 ·exact ⟨0,⟨by omega,rfl⟩,U⟩
 intro n a w hI
 obtain ⟨j,⟨hn,hno⟩,U⟩:=hI
 refine wp_seq<|wp_seq<|zh [.v 5 _,.v 6 _,.v 7 _,.v 8 _] [.g 0,.g 1,.o 3] U (zM 1 G (zM 0 G (zv G (be Tryz.underlying22 (vq 1 G)) (zv G (aN (vq 0 G) (vq 2 G)) o0)))) (zz [(0,_),(4,_),(8,_)] [] fun a w U=>?_)
 refine a7<|ah U (zm 2 G) (fun hb0=>?_) (fun hb0=>?_)
 ·have hj:j<L.length:=by rw [List.length_map] at hb0; have:=of_decide_eq_true hb0; omega
  refine wp_skip<|zt<|wp_block<|wp_seq<|zgd [[],[],[0,1],[0,1,2],[0,1,2,3],[],[],[5,6],[5,6,7],[5,6,7,8],[0,1,2,3,4,5,6,7,8,9],[0,1,2,3,4,5,6,7,8,9,10]] [] [] [.v 11 _,.v 12 _,.v 13 _,.v 14 _,.v 15 _,.v 16 _,.v 17 _,.v 18 _,.v 19 _,.v 20 _,.v 21 _,.v 22 _] [.g 0,.g 1,.o 11] ab U (zM 0 G (zM 1 G (zv G (cB cC er_n (vq 0 G) (vq 1 G) (er_at hj)) (zv G (aH (vq 2 G) bg (Sub.part 1 G G)) (zv G (aq (vq 3 G) ax) (zM 0 G (zM 1 G (zv G (cB cC er_n (vq 5 G) (vq 6 G) (er_at hj)) (zv G (aH (vq 7 G) bK (Sub.part 2 G G)) (zv G (aq (vq 8 G) ax) (zv G (cz (D:=[U32]) (l:=[_,_]) (xs:=[.tmp 15,.tmp 20]) (dK zk) fS zk (n_ok zk) nq nq nq (.cons (vq 4 G) (.cons (vq 9 G) .nil)) G G) (zv G (aa (xs:=[.tmp 21]) (wc [L[j].2,0] (.cons ⟨_,rfl⟩ (.cons ⟨_,rfl⟩ .nil)) nq) (.cons (vq 10 G) .nil)) o0)))))))))))) zk zk zk zk (zz [(0,_),(4,_),(22,_)] [] fun a w U=>?_)
  refine a7<|ah U (zm 2 G) (fun hb1=>?_) (fun hb1=>?_)
  ·refine wp_seq<|zh [.v 2 _,.v 3 _] [.g 0,.g 1,.o 0,.o 1] U (zv G (a9 aP) (zv G (a9 a8) o0)) (zz [(0,_),(4,_),(2,_),(3,_)] [] fun a w U=>?_)
   refine a7<|wp_ret<|aV ?_
   refine ap ?_
   refine ap ?_
   refine aV ?_
   refine ap ?_
   refine ar ?_ (aS (rs:=[.tmp 2,.tmp 3]) G U (.tmp (zm 2 G) (.tmp (zm 3 G) .nil)) zd)
   rw [xH hj hb1]; exact tu2w pf bh
  ·refine wp_skip<|ao ?_
   refine a7<|zh [.v 9 _,.v 10 _,.v 4 _] [.g 0,.o 2] U (zM 1 G (zv G (aR (vq 0 G) a8 ((wi64 zo zo).trans (by omega:(_:Int)=((j+1:Nat):Int)))) (zA 1 G o0))) (zz [(0,_),(4,_)] [] fun a w U=>?_)
   refine a7 ?_
   have U:=St.sel U [0,1]
   exact ⟨n-1,by omega,j+1,⟨by omega,xI hj hno hb1⟩,U⟩
 ·obtain rfl:j=L.length:=by rw [List.length_map] at hb0; have:=of_decide_eq_false hb0; omega
  refine wp_exit<|ak<|ak<|aC<|zt<|zh [.v 23 _,.v 2 _,.v 3 _] [.o 1,.o 2] U (zM 0 G (zA 0 G (zv G (a9 a8) o0))) (zz [(2,_),(3,_)] [] fun a w U=>?_)
  refine a7<|wp_ret<|ar ?_ (aS (rs:=[.tmp 2,.tmp 3]) G U (.tmp (zm 0 G) (.tmp (zm 1 G) .nil)) zd)
  rw [List.take_length] at hno; rw [CT hno]; exact bh
theorem ij (L:List EQ)(p:Rat){c k:Nat}(hc:c≤k)(h2:2≤k)(hL:L.length≤1000000):CW Tryz.prog 127 [67] (fun b=>[OwE b k L,Qs c p]) (fun b=>OwE b k (L++lensR p)):=by
 obtain ⟨it,z,e1,e2,e3,e4,e5⟩:=iD
 refine CW.intro Tryz.func127 G zk nq (fun B b w0 a hBb hbw hrm U=>?_)
 have U:=zn [(0,OwE b k L),(1,Qs c p)] [] U
 refine wp_seq<|zg [] [⟨3,27,ptrH,some 0,_,none⟩] [.alc 0,.v 4 _] [.g 0,.o 1] U (oc (ay G G G (gq 1 G)) (zv G (a9 aP) o0)) (zz [(0,_),(4,_)] [O 3 27 _] fun a w U=>?_)
 refine zt<|wp_seq<|zg [none] [] [.v 5 _,.v 6 _] [.g 0,.g 1,.o 1] U (zl 0 G ax (zv G (aa (xs:=[.tmp 5]) dC (.cons (vq 0 G) .nil)) o0)) (zz [(0,_),(4,_),(6,_)] [O 3 27 _] fun a w U=>?_)
 refine a7<|ah U (zm 2 G) (fun hb0=>?_) (fun hb0=>?_)
 ·refine wp_seq<|zg [none] [] [.v 7 _,.v 4 _] [.g 0,.o 1] U (zM 0 G (zA 0 G o0)) (zz [(0,_),(4,_)] [O 3 27 _] fun a w U=>?_)
  refine a7<|wp_ret<|ap ?_
  refine ar ?_ (am G U (zm 1 G))
  rw [wH hb0,List.append_nil]; exact bh
 ·refine wp_skip<|zt<|bf (sp:=[.v 8 _,.v 9 _,.v 10 _,.v 11 _,.v 12 VT,.v 4 VT]) 4 2 99 4 OneC [.o 0,.o 3] U (zM 0 G (zl 0 G ax (zv G (aa (xs:=[.const (.int .u8 (2)),.tmp 9]) (cO 2 p hc h2) (.cons a8 (.cons (vq 1 G) .nil))) (zv G (cz (D:=[U32]) (l:=[_]) (xs:=[.tmp 10]) (dK zk) cC zk (n_ok zk) nq nq nq (.cons (vq 2 G) .nil) G G) o0)))) G zd zk zk (zz [(8,_),(11,_)] [O 3 27 _] fun a w U=>?_)
  rw [show List.range' 4 2=[4,5] from rfl]
  rw [wpOps_cons]
  refine gP (Xs:=[ER k (2,p)]) [] 0 1 G U G G (Nat.zero_lt_one) hBb (by have:=U.base.size; omega) (hrm 67 zk) zk zk (mC G) Tryz.underlying22 e1 e2 e3 e4 e5 zd (by rw [List.length_map,List.length_singleton]; omega) (by rw [List.length_map,List.length_singleton]; omega) zd zk zk zk zk (fun a w U=>?_)
  rw [wpOps_cons]
  refine dh 0 G U G zd zk zk (fun a U=>?_)
  refine bI ?_
  have U:=St.sel U [0,1]
  have U:=zn [(4,_),(12,_)] [O 3 27 _] U
  refine a7<|wp_ret<|ar ?_ (am G U (zm 0 G))
  rw [wG hb0]; exact bc (by unfold OwE; rw [List.map_append]; rfl)
end Go.Proofs.YtmacliockgbdcaaGreatDoor
