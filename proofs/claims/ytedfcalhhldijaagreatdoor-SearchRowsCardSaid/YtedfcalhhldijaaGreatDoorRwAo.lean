import Derived.Test.YtedfcalhhldijaaGreatDoorRwAn
import Derived.Maps.Own
import Derived.Maps.OwnSet
import Derived.Maps.Views
import Derived.Carry
import Derived.StringKeys
set_option linter.all false
set_option maxRecDepth 100000
namespace Go.Proofs.YtedfcalhhldijaaGreatDoor
open Go Go.RowKit
variable {w:World}{B:Nat}{a:Act}{v:Value}{T:TypeId}{w0:Bs}{Γ:List (Nat × VA)}{Λ:List Lc}{ps:String}{af:Array Edge}{vr:Value}{H:Hd}{cs:List Value}{w':World}{P:Program}{D:List TypeId}
theorem Fv {Q:Exit→Act→World→Prop}{B N:Nat}{ops:Array Oper}{i:Nat}{K:Act→World→Prop}{p d g k sx:Nat}{ty T T':TypeId}{A0 A A1:As}(src:List Nat)(kp kd ks e:Nat)(ho:ops[i]?=some ⟨none,.store ty (.tmp p) (.tmp d),T',ps,af,none⟩)(h:St B w0 N Γ Λ a w)
  (hp:Γ[kp]?=some (p,EqV (.pointer (some ⟨g,k,none⟩)))) (hd:Γ[kd]?=some (d,A.va)) (hs:Γ[ks]?=some (sx,EqV (H.f g))) (ht:Ty P ty A.n A.ag) (hl:Λ[e]?=some ⟨sx,T,H,A0⟩)
  (hput:Put A0 k A A1) (hsrc:src.all (λ k=>match Γ[k]? with | some y => !y.2.deps.contains T | none=>false)=true) (hΛ:Λ.zipIdx.all (λ x=>x.2==e || (x.1.s != sx && !x.1.A.deps.contains T))=true) (hT:A1.deps.contains T=false)
  (hK:∀ w',St B w0 N (src.filterMap λ k=>Γ[k]?) (Λ.set e ⟨sx,T,H,A1⟩) a w'→K (a.put none undef) w'):wpOp P ops Q i K a w:=by
 have e1:a.eval (.tmp p)=.pointer (some ⟨g,k,none⟩):=h.vals _ (qa hp)
 obtain ⟨cs',hpA,e2⟩:=h.vals _ (qa hd)
 have e2:a.eval (.tmp d)=shape A.ag cs':=e2
 have e0:a.eval (.tmp sx)=H.f g:=h.vals _ (qa hs)
 obtain ⟨g0,cs,q1,q2,q3,q4⟩:=h.locs _ (qa hl)
 have:g0=g:=by
  have:=qm blk (q1.symm.trans e0)
  rw [H.ok,H.ok] at this
  injection this
 subst this
 obtain ⟨hkc,hp1⟩:=hput B cs cs' w q4 hpA
 have lA:=A.len _ _ _ hpA
 have hrun:=bM ht w g0 k T cs.toArray _ cs' (A.cells_shape hpA) lA (by simpa using hkc) (A.one _ _ _ hpA) q3
 have e3:cs.toArray.toList.take k++cs'++cs.toArray.toList.drop (k+A.n)=splice cs k cs':=by simp [splice,lA]
 rw [e3] at hrun
 have hW:=Wr.setRow w g0 (splice cs k cs').toArray
 have hB:B≤g0:=h.lo g0 q2
 have hTn:T ∉ A1.deps:=by simpa using hT
 unfold wpOp
 simp only [ho,Region.wanted,if_true]
 refine .inl (wp_skip' (w':=w.setRow g0 (splice cs k cs').toArray) ?_ (hK _ ⟨h.lo,h.defers.keep rfl λ D hD=>(hW.block D (λ e=>by subst e; rw [q3] at hD; cases hD)).trans hD,h.size,h.base.wr hW q2,λ x hx=>?_,λ m hm=>?_,λ m1 hm1 m2 hm2 hne=>?_⟩))
 ·simp [execOp,e1,e2,Instr.storeAt,Instr.sureAddr,hrun]
 ·obtain ⟨k',hk1,hk2⟩:=qQ.1 hx
  have:=qd.1 hsrc k' hk1
  simp only [hk2,qv,qx,qk] at this
  exact x.2.wr _ _ _ _ _ _ _ _ q3 this hB hW (h.vals x (qa hk2))
 ·obtain ⟨j,hj⟩:=List.getElem?_of_mem hm
  by_cases e5:j=e
  ·subst e5
   have:m=⟨sx,T,H,A1⟩:=by
    rw [List.getElem?_set_self (List.getElem?_eq_some_iff.1 hl).1] at hj
    injection hj with hj
    exact hj.symm
   subst this
   exact ⟨g0,splice cs k cs',q1,q2,setRow_heap w g0 _ _ _ _ q3,A1.wr _ _ _ _ _ _ _ _ q3 hTn hB hW hp1⟩
  ·rw [List.getElem?_set_ne (λ e2=>e5 e2.symm)] at hj
   have hc:=qd.1 hΛ (m,j) (qZ.2 hj)
   simp only [zw,xc,ql,bne_iff_ne,qv,qx,qk] at hc
   have hc':=hc.resolve_left e5
   obtain ⟨g',cs2,p1,p2,p3,p4⟩:=h.locs m (qa hj)
   have hne:g'≠g0:=λ hh=>h.dis m (qa hj) _ (qa hl) hc'.1 (by rw [p1,q1,hh,m.H.ok,Hd.ok])
   exact ⟨g',cs2,p1,p2,(hW.block g' hne).trans p3,m.A.wr _ _ _ _ _ _ _ _ q3 hc'.2 hB hW p4⟩
 ·have hs:∀ m∈Λ.set e ⟨sx,T,H,A1⟩,∃ m0∈Λ,m0.s=m.s:=λ m hm=>by
   rcases qy hm with hm | rfl
   ·exact ⟨m,hm,rfl⟩
   ·exact ⟨_,qa hl,rfl⟩
  obtain ⟨m3,r1,r2⟩:=hs m1 hm1
  obtain ⟨m4,r3,r4⟩:=hs m2 hm2
  rw [← r2,← r4] at hne ⊢
  exact h.dis m3 r1 m4 r3 hne
def lamT (Λ:List Lc)(e:Nat)(A:As):List Lc:=Λ.zipIdx.map λ x=>⟨x.1.s,x.1.T,x.1.H,if x.2=e then A else x.1.A⟩
section
open Rg
variable {P:Program} {Q:Exit→Act→World→Prop} {B N:Nat} {w0:Bs} {Γ:List (Nat × VA)} {Λ:List Lc} {a:Act} {w:World}
theorem Gd {R:Rg}{n:Nat}{Λ':List Lc}(hles:∀ l'∈Λ',∃ y∈R.les,y.s=l'.s∧y.T=l'.T∧y.H=l'.H∧y.cr=none∧Rg.cur (λ k=>decide (k<n)) y=some l'.A)(hinv:R.Inv B w0 (λ k=>decide (k<n)) a w)(src:List Src)
  (hsrc:src.all (λ s=>match s with | .g k=>(match R.Γ[k]? with | some x=>Rg.outG R x.1 && !Rg.clash R (λ k=>decide (k<n)) x.2.deps | none=>false) | .o i=>decide (i<n)&&(match R.sp[i]? with | some y=>(match y.vl with | some z => !Rg.clash R (λ k=>decide (k<n)) z.2.deps | none=>true) | none=>true))=true):St B w0 R.N (src.filterMap (takeS R)) Λ' a w:=by
 refine ⟨hinv.lo,hinv.defers,hinv.size,hinv.base,λ x hx=>?_,λ l' hl'=>?_,λ l1 h1 l2 h2 hne=>?_⟩
 rotate_left
 ·obtain ⟨y,hy,e1,e2,e3,_,e4⟩:=hles l' hl'
  have:=hinv.c _ hy l'.A e4
  rw [e1,e2,e3] at this
  exact this
 ·obtain ⟨y1,hy1,e1,_,_,_,f1⟩:=hles l1 h1
  obtain ⟨y2,hy2,e2,_,_,_,f2⟩:=hles l2 h2
  rw [← e1,← e2] at hne ⊢
  exact hinv.x _ hy1 _ hy2 hne (by rw [f1]; rfl) (by rw [f2]; rfl)
 obtain ⟨s,hs1,hs2⟩:=qQ.1 hx
 have ho:=qd.1 hsrc s hs1
 cases s with
 | g k =>
  simp only [takeS] at hs2
  simp only [hs2,ql,qv] at ho
  refine hinv.g x (qa hs2) (λ q hq hdq=>?_) ho.2
  cases h2:R.ops[q]? with
  | none=>unfold Rg.dst at hdq; rw [h2] at hdq; cases hdq
  | some v =>
   have:=qd.1 ho.1 q (by simpa using (Array.getElem?_eq_some_iff.1 h2).1)
   exact absurd hdq (by simpa using this)
 | o i =>
  simp only [takeS] at hs2
  cases hy:R.sp[i]? with
  | none=>rw [hy] at hs2; cases hs2
  | some y =>
   rw [hy] at hs2
   have hs3:y.vl=some x:=hs2
   simp only [hy,hs3,ql,qv] at ho
   exact hinv.v i y x.1 x.2 hy hs3 ho.1 ho.2
theorem BD {id:Nat}{ops:Array Oper}{sp:List Sp}(anc:List (List Nat))(n m e j:Nat)(A1:As)(src:List Src)(hmx:P.follows .mixedOrders=true)
  (h:St B w0 N Γ Λ a w) (hob:Obs P Q ⟨ops,N,Γ,lesS Λ e j A1,sp,λ i=>anc.getD i []⟩ B w0 0 n) (hsz:ops.size=n+m) (hm:0<m) (hj:j<n) (hanc:Rg.ancOk ⟨ops,N,Γ,lesS Λ e j A1,sp,λ i=>anc.getD i []⟩=true) (hall:∀ i,n≤i→i<n+m→∀ j,j<i→(anc.getD i []).contains j=true) (hk:Rg.chk ⟨ops,N,Γ,lesS Λ e j A1,sp,λ i=>anc.getD i []⟩=true)
  (hsrc:src.all (λ s=>match s with | .g k=>(match Γ[k]? with | some x=>Rg.outG ⟨ops,N,Γ,lesS Λ e j A1,sp,λ i=>anc.getD i []⟩ x.1 && !Rg.clash ⟨ops,N,Γ,lesS Λ e j A1,sp,λ i=>anc.getD i []⟩ (λ k=>decide (k<n)) x.2.deps | none=>false) | .o i=>decide (i<n)&&(match sp[i]? with | some y=>(match y.vl with | some z => !Rg.clash ⟨ops,N,Γ,lesS Λ e j A1,sp,λ i=>anc.getD i []⟩ (λ k=>decide (k<n)) z.2.deps | none=>true) | none=>true))=true)
  (hQ:∀ a' w',St B w0 N (src.filterMap (takeS ⟨ops,N,Γ,lesS Λ e j A1,sp,λ i=>anc.getD i []⟩)) (lamT Λ e A1) a' w'→wpOps P ops Q (List.range' n m) a' w'):(Code.region id ops true).wp P Q a w:=by
 refine Rg.drawK (R:=⟨ops,N,Γ,lesS Λ e j A1,sp,λ i=>anc.getD i []⟩) (m:=m) hsz hm hmx hanc hk h (λ y hy _=>?_) (λ i hi=>hob.all i zo zo) (λ i h1 h2 j hj=>hall i h1 h2 j hj) λ a1 w1 hinv=>?_
 ·exact (ej y hy).2.1
 ·refine hQ a1 w1 (Gd (λ l' hl'=>?_) hinv src hsrc)
  obtain ⟨x,hx,rfl⟩:=qq.1 hl'
  refine ⟨⟨x.1.s,x.1.T,x.1.H,none,x.1.A,if x.2=e then some (j,A1) else none⟩,qq.2 ⟨x,hx,rfl⟩,?_⟩
  by_cases h1:x.2=e
  ·simp only [h1,if_true]
   exact ⟨by trivial,by trivial,by trivial,by trivial,by simp [Rg.cur,Rg.crOk,hj]⟩
  ·simp only [h1,if_false]
   exact ⟨by trivial,by trivial,by trivial,by trivial,by simp [Rg.cur,Rg.crOk]⟩
end
theorem A8 {ops:Array Oper}{Q:Exit→Act→World→Prop}(h:Q .normal a w):wpOps P ops Q [] (a.put none undef) w:=h
set_option maxHeartbeats 1000000 in
theorem uf {x:RE}{b:Nat}{m:MQ}(hx:elF x=true)(hm:RepM b m)(hb:b≤1000000):Cn Tryz.prog 111 [(REA x).va,(CoA b m).va] ((CoA (b+4097) (mulQ (elM x) m)).va):=by
 refine Cn.intro Tryz.func111 G zk nq (λ B w0 a U=>?_)
 have U:=zn [(0,(REA x).va),(1,(CoA b m).va)] [] U
 refine qb<|zg [] [⟨2,98,ptrH,some 0,_,none⟩,⟨3,115,ptrH,some 1,_,none⟩,⟨4,115,ptrH,some 2,_,none⟩] [.alc 0,.alc 1,.alc 2] [] U (zW 0 G (zW 1 G (zY G (Str.zero gw) o0))) (zz [] [O 2 98 _,O 3 115 _,O 4 115 _] λ a w U=>?_)
 have U:=St.wkL U 0 rfl (el_q (g9 hx).1)
 have U:=zn [] [O 2 98 _,O 3 115 _,O 4 115 _] U
 refine zt<|qb<|zg [η,η,η] [] [.adr 5 2 (.some 0) True,.v 6 _] [.o 1] U (zO 0 G dE (zL 0 0 0 G nD o0)) (zz [(6,_)] [O 2 98 _,O 3 115 _,O 4 115 _] λ a w U=>?_)
 refine aa<|qj<|qb<|zg [η,η,η] [] [.v 8 _,.v 7 _] [.g 0,.o 1] U (zv G (bC (gq 0 G) ab) (zA 0 G o0)) (zz [(6,_),(7,_)] [O 2 98 _,O 3 115 _,O 4 115 _] λ a w U=>?_)
 refine aa<|bE (λ a w =>  St B w0 68 [] [⟨2,98,ptrH,QEA 2048 x.k (toQ x.p) (toQ x.q)⟩,⟨3,115,ptrH,CoA (b+4097) (mulQ (elM x) m)⟩,⟨4,115,ptrH,cat [RFA rf0,RFA rf0]⟩] a w) U (zm 1 G) (λ hb0=>?_) (λ hb0=>?_) (λ a w U=>?_)
 ·refine zgd [[],[0],[],[2],[],[4],[2,3,4,5],[0,1,2,3,4,5,6],[0,1,2,3,4,5,6,7],[0,1,2,3,4,5,6,7,8]] [none,some (9,_),none] [] [.adr 9 3 (.some 0) True,.v 10 _,.adr 11 2 (.some 1) True,.v 12 _,.adr 13 3 (.some 4) True,.v 14 _,.v 15 _,.v 16 _,.adr 17 3 (.some 0) True,.sto 1] [] ae U (zO 1 G ca (zL 0 1 0 G ax (zO 0 G bR (zL 2 0 1 G ax (zO 1 G c5 (zL 4 1 1 G ax (zQ G (gv zo) (.p (vq 3 G) (vq 5 G)) (zQ G (vO zo) (.p (vq 1 G) (vq 6 G)) (zO 1 G ca (oc (cJ 8 G G G G zk (vq 7 G) ax (Put.part 0 G G G)) o0)))))))))) zk zk zk zk (zz [] [O 2 98 _,O 3 115 _,O 4 115 _] λ a w U=>?_)
  refine aa ?_
  have U:=St.sel U []
  have e:=HV (x:=x) (by simpa using hb0)
  exact St.wkL U 1 G (pQ (by rw [e]; show _=_*m.a+_*m.c; grind) (by rw [e]; show _=_*m.a+_*m.c; grind) (fm hx hm))
 ·refine qb<|zg [η,η,η] [] [.v 19 _,.v 18 _] [.g 0,.o 1] U (zv G (bC (gq 0 G) ab) (zA 0 G o0)) (zz [(6,_),(18,_)] [O 2 98 _,O 3 115 _,O 4 115 _] λ a w U=>?_)
  refine aa<|bE (λ a w =>  St B w0 68 [] [⟨2,98,ptrH,QEA 2048 x.k (toQ x.p) (toQ x.q)⟩,⟨3,115,ptrH,CoA (b+4097) (mulQ (elM x) m)⟩,⟨4,115,ptrH,cat [RFA rf0,RFA rf0]⟩] a w) U (zm 1 G) (λ hb1=>?_) (λ hb1=>?_) (λ a w U=>?_)
  ·refine zgd [[],[0],[],[2],[],[4],[2,3,4,5],[],[7],[2,3,4,5,6,7,8],[0,1,2,3,4,5,6,7,8,9],[0,1,2,3,4,5,6,7,8,9,10],[0,1,2,3,4,5,6,7,8,9,10,11]] [none,some (12,_),none] [] [.adr 20 3 (.some 0) True,.v 21 _,.adr 22 2 (.some 1) True,.v 23 _,.adr 24 2 (.some 5) True,.v 25 _,.v 26 _,.adr 27 3 (.some 4) True,.v 28 _,.v 29 _,.v 30 _,.adr 31 3 (.some 0) True,.sto 1] [] ae U (zO 1 rfl ca (zL 0 1 0 rfl ax (zO 0 rfl bR (zL 2 0 1 rfl ax (zO 0 rfl c9 (zL 4 0 2 rfl ax (zQ rfl (over_q zo (by rcases (g9 hx).2 with h | h | h | h | h <;> simp_all)) (.p (vq 3 rfl) (vq 5 rfl)) (zO 1 rfl c5 (zL 7 1 1 rfl ax (zQ rfl (gv zo) (.p (vq 6 rfl) (vq 8 rfl)) (zQ rfl (vO zo) (.p (vq 1 rfl) (vq 9 rfl)) (zO 1 rfl ca (oc (cJ 11 rfl rfl rfl rfl zk (vq 10 rfl) ax (Put.part 0 rfl rfl rfl)) o0))))))))))))) zk zk zk zk (zz [] [O 2 98 _,O 3 115 _,O 4 115 _] λ a w U=>?_)
   refine aa ?_
   have U:=St.sel U []
   have e:=thr_3 (x:=x) (by simpa using hb1)
   exact St.wkL U 1 G (pQ (by rw [e]; show _=_*m.a+_*m.c; grind) (by rw [e]; show _=_*m.a+_*m.c; grind) (fm hx hm))
  ·refine qb<|zg [η,η,η] [] [.v 33 _,.v 32 _] [.g 0,.o 1] U (zv G (bC (gq 0 G) ab) (zA 0 G o0)) (zz [(6,_),(32,_)] [O 2 98 _,O 3 115 _,O 4 115 _] λ a w U=>?_)
   refine aa<|bE (λ a w =>  St B w0 68 [] [⟨2,98,ptrH,QEA 2048 x.k (toQ x.p) (toQ x.q)⟩,⟨3,115,ptrH,CoA (b+4097) (mulQ (elM x) m)⟩,⟨4,115,ptrH,cat [RFA rf0,RFA rf0]⟩] a w) U (zm 1 G) (λ hb2=>?_) (λ hb2=>?_) (λ a w U=>?_)
   ·refine zgd [[],[0],[],[2],[],[4],[2,3,4,5],[0,1,2,3,4,5,6],[0,1,2,3,4,5,6,7],[0,1,2,3,4,5,6,7,8]] [none,some (9,_),none] [] [.adr 34 3 (.some 4) True,.v 35 _,.adr 36 2 (.some 1) True,.v 37 _,.adr 38 3 (.some 0) True,.v 39 _,.v 40 _,.v 41 _,.adr 42 3 (.some 4) True,.sto 1] [] ae U (zO 1 G c5 (zL 0 1 1 G ax (zO 0 G bR (zL 2 0 1 G ax (zO 1 G ca (zL 4 1 0 G ax (zQ G (gv zo) (.p (vq 3 G) (vq 5 G)) (zQ G (po zo) (.p (vq 1 G) (vq 6 G)) (zO 1 G c5 (oc (cJ 8 G G G G zk (vq 7 G) ax (Put.part 1 G G G)) o0)))))))))) zk zk zk zk (zz [] [O 2 98 _,O 3 115 _,O 4 115 _] λ a w U=>?_)
    refine aa ?_
    have U:=St.sel U []
    have e:=thr_2 (x:=x) (by simpa using hb2)
    exact St.wkL U 1 G (pQ (by rw [e]; show _=_*m.a+_*m.c; grind) (by rw [e]; show _=_*m.a+_*m.c; grind) (fm hx hm))
   ·refine qb<|zg [η,η,η] [] [.v 44 _,.v 43 _] [.g 0,.o 1] U (zv G (bC (gq 0 G) ab) (zA 0 G o0)) (zz [(6,_),(43,_)] [O 2 98 _,O 3 115 _,O 4 115 _] λ a w U=>?_)
    refine aa<|bE (λ a w =>  St B w0 68 [] [⟨2,98,ptrH,QEA 2048 x.k (toQ x.p) (toQ x.q)⟩,⟨3,115,ptrH,CoA (b+4097) (mulQ (elM x) m)⟩,⟨4,115,ptrH,cat [RFA rf0,RFA rf0]⟩] a w) U (zm 1 G) (λ hb3=>?_) (λ hb3=>?_) (λ a w U=>?_)
    ·refine zgd [[],[0],[],[2],[],[4],[2,3,4,5],[],[7],[2,3,4,5,6,7,8],[0,1,2,3,4,5,6,7,8,9],[0,1,2,3,4,5,6,7,8,9,10],[0,1,2,3,4,5,6,7,8,9,10,11]] [none,some (12,_),none] [] [.adr 45 3 (.some 4) True,.v 46 _,.adr 47 2 (.some 1) True,.v 48 _,.adr 49 2 (.some 5) True,.v 50 _,.v 51 _,.adr 52 3 (.some 0) True,.v 53 _,.v 54 _,.v 55 _,.adr 56 3 (.some 4) True,.sto 1] [] ae U (zO 1 G c5 (zL 0 1 1 G ax (zO 0 G bR (zL 2 0 1 G ax (zO 0 G c9 (zL 4 0 2 G ax (zQ G (gv zo) (.p (vq 3 G) (vq 5 G)) (zO 1 G ca (zL 7 1 0 G ax (zQ G (gv zo) (.p (vq 6 G) (vq 8 G)) (zQ G (po zo) (.p (vq 1 G) (vq 9 G)) (zO 1 G c5 (oc (cJ 11 G G G G zk (vq 10 G) ax (Put.part 1 G G G)) o0))))))))))))) zk zk zk zk (zz [] [O 2 98 _,O 3 115 _,O 4 115 _] λ a w U=>?_)
     refine aa ?_
     have U:=St.sel U []
     have e:=thr_4 (x:=x) (by simpa using hb3)
     exact St.wkL U 1 G (pQ (by rw [e]; show _=_*m.a+_*m.c; grind) (by rw [e]; show _=_*m.a+_*m.c; grind) (fm hx hm))
    ·refine qb<|zg [η,η,η] [] [.v 58 _,.v 57 _] [.o 1] U (zv G (bC (gq 0 G) ab) (zA 0 G o0)) (zz [(57,_)] [O 2 98 _,O 3 115 _,O 4 115 _] λ a w U=>?_)
     refine aa<|bE (λ a w =>  St B w0 68 [] [⟨2,98,ptrH,QEA 2048 x.k (toQ x.p) (toQ x.q)⟩,⟨3,115,ptrH,CoA (b+4097) (mulQ (elM x) m)⟩,⟨4,115,ptrH,cat [RFA rf0,RFA rf0]⟩] a w) U (zm 0 G) (λ hb4=>?_) (λ hb4=>?_) (λ a w U=>?_)
     ·obtain ⟨q3,U⟩:=St.nm U 1 rfl
      refine BD (sp:=[.adr 59 3 (.some 0) True,.v 60 _,.v 61 _,.adr 62 3 (.some 4) True,.v 63 _,.v 64 _,.adr 65 3 (.some 0) True,.sto 1,.skp,.skp]) [[],[0],[0,1],[],[3],[0,1,2,3,4],[0,1,2,3,4],[0,1,2,3,4,5,6],[0,1,2,3,4,5,6,7],[0,1,2,3,4,5,6,7,8]] 8 2 1 7 (cat [QA b (-m.a),QA b m.c]) [.g 0,.o 5] ae U (zO 1 G ca (zL 0 1 0 G ax (zQ G (ig zo) (.o (vq 1 G)) (zO 1 G c5 (zL 3 1 1 G ax (zQ G (ig zo) (.o (vq 4 G)) (zO 1 G ca (oc (cJ 6 G G G G zk (vq 2 G) ax (Put.part 0 G G G)) o0)))))))) G zd zd zk (gM zk) zk zk (zz [(3,_),(64,_)] [O 2 98 _,O 3 115 _,O 4 115 _] λ a w U=>?_)
      rw [show List.range' 8 2=[8,9] from rfl]
      rw [qA]
      refine iU 0 G U c5 G zd zk zk (λ a U=>?_)
      rw [qA]
      refine Fv (A:=QA b (-m.c)) (A1:=cat [QA b (-m.a),QA b (-m.c)]) [] 0 2 1 1 G U G G G ax G (Put.part 1 G G G) zk zk zk (λ w U=>?_)
      refine A8 ?_
      have U:St B w0 68 [] [O 2 98 _,O 3 115 _,O 4 115 _] _ w:=U
      refine aa ?_
      have U:=St.sel U []
      have e:=thr_5 (x:=x) (by simpa using hb4)
      exact St.wkL U 1 G (pQ (by rw [e]; show _=_*m.a+_*m.c; grind) (by rw [e]; show _=_*m.a+_*m.c; grind) (fm hx hm))
     ·refine qh<|aa ?_
      have U:=St.sel U []
      exact absurd (g9 hx).2 (by simp at hb0 hb1 hb2 hb3 hb4; simp [hb0,hb1,hb2,hb3,hb4])
     refine aa ?_
     have U:=St.sel U []
     exact U
    refine aa ?_
    have U:=St.sel U []
    exact U
   refine aa ?_
   have U:=St.sel U []
   exact U
  refine aa ?_
  have U:=St.sel U []
  exact U
 refine ap ?_
 refine zt<|zg [η,η,some (1,_)] [] [.v 67 _,.sto 2] [] U (zl 1 G fF (zS 0 G fF o0)) (zz [] [O 2 98 _,O 3 115 _,O 4 115 _] λ a w U=>?_)
 refine aa<|qg<|ao ?_ (aA G U (zm 2 G) fF)
 exact aL
abbrev ky (s:ByteArray):Lit:=.string s.data.toList
def dupB (ns:List ByteArray):Bool := !decide (ns.map λ s=>s.data.toList).Nodup
def MpI (P:Program)(K E:TypeId)(w:World)(b:Nat)(ns:List ByteArray):Prop :=
 ∃ D:DataW Unit,w.ownsMap P K (plainElem P E) b ns.length D∧Maps.Tidy D∧(∀ s:ByteArray,Maps.has D (ky s)=(ns.map λ s=>s.data.toList).contains s.data.toList)∧decide (Maps.size D<ns.length)=dupB ns
section
variable {P:Program} {K E T:TypeId} {w:World} {b:Nat} {ns:List ByteArray}
theorem mp_new:MpI P K E (w.alloc (.map #[] 0)) w.heap.size [] :=
 ⟨.map [],World.ownsMap_made w P K _,Maps.tidy_empty,λ s=>rfl,rfl⟩
theorem MpI.at_ (h:MpI P K E w b ns):∃ es clock,w.heap[b]?=some (.map es clock):=by
 obtain ⟨D,⟨es,clock,hb,_⟩,_⟩:=h
 exact ⟨es,clock,hb⟩
theorem MpI.kept (h:MpI P K E w b ns)(hk:w'.heap[b]?=w.heap[b]?):MpI P K E w' b ns:=by
 obtain ⟨D,⟨es,clock,hb,F,hs,hD⟩,h2,h3,h4⟩:=h
 exact ⟨D,⟨es,clock,hk.trans hb,F,hs,hD⟩,h2,h3,h4⟩
theorem MpI.len (h:MpI P K E w b ns)(ht:P.underlying T=some (.map K E))(ty:TypeId):∃ n:Nat,(Builtin.len_ #[T] ty #[.map (some b)]).run P w=.ok (.int .i64 n) w∧decide ((n:Int)<(ns.length:Int))=dupB ns:=by
 obtain ⟨D,h1,h2,h3,h4⟩:=h
 exact ⟨_,h1.len ht ty,by rw [← h4,qS]; omega⟩
theorem si (ns:List ByteArray)(s:ByteArray):dupB (ns++[s])=(dupB ns || (ns.map λ s=>s.data.toList).contains s.data.toList):=by
 unfold dupB
 rw [zF,k9]
 by_cases h1:(ns.map λ s=>s.data.toList).Nodup
 ·by_cases h2:s.data.toList∈ns.map λ s=>s.data.toList
  ·have:¬ ((ns.map λ s=>s.data.toList)++[s.data.toList]).Nodup:=λ h=>(jA.1 h).2.2 _ h2 _ (by simp) rfl
   rw [zb this,qx,qC h2]; simp
  ·have:((ns.map λ s=>s.data.toList)++[s.data.toList]).Nodup:=jA.2 ⟨h1,by simp,λ a ha c hc e=>by
    obtain rfl:=qn.1 hc
    exact h2 (e▸ha)⟩
   rw [qC this,qC h1,qx,zb h2]; rfl
 ·have:¬ ((ns.map λ s=>s.data.toList)++[s.data.toList]).Nodup:=λ h=>h1 (jA.1 h).1
  rw [zb this,zb h1]; rfl
theorem MpI.add (h:MpI P K E w b ns)(hK:P.underlying K=some .string)(ht:P.underlying T=some (.map K E))(hE:P.underlying E=some (.int .i64))(hz:(zeroValue E).run P w=.ok (.int .i64 0) w)(hn:ns.length<4096){s:ByteArray}(hs:s.size≤4096) :
  ∃ c:Int,(Instr.lookup T (.map (some b)) (.string s) false).run P w=.ok (.int .i64 c) w∧∃ w',(Instr.mapUpdate T (.map (some b)) (.string s) (.int .i64 (IntKind.i64.wrap (c+1)))).run P w=.ok () w'∧MpI P K E w' b (ns++[s])∧w.grownBy w' (some b):=by
 obtain ⟨D,h1,h2,h3,h4⟩:=h
 have hkey:keyOf P K (.string s)=some (ky s):=WideMaps.keyOf_string_mk hK (by unfold maxLen; omega)
 have hkl:WideAt.IsKeyLit (ky s):=by trivial
 obtain ⟨c,hr,_,_⟩:=h1.lookup_int (Maps.string_keyed hK) ht hE hz hkey
 have hwf:(Lit.int .i64 (IntKind.i64.wrap (c+1))).wf=true:=wf_wrap _ _
 obtain ⟨w',hr',ho,hg⟩:=h1.update (Maps.string_keyed hK) ht (by unfold maxLen; omega) hkey (plainElem_int (H:=Unit) hE hwf)
 refine ⟨c,hr,w',hr',⟨_,by rw [qB]; exact ho,h2.put hkl _,λ s'=>?_,?_⟩,hg⟩
 ·rw [zF,k9]
  by_cases e:s'.data.toList=s.data.toList
  ·rw [show ky s'=ky s from qm Lit.string e,Maps.has_put_same h2.isMap hkl,e]; simp
  ·rw [Maps.has_put_other (λ h=>e (by injection h)),h3]
   simp [qx,e]
 ·rw [si,Maps.size_put h2,h3 s,← h4]
  have hle:=h1.size_le
  rw [qB,zJ]
  by_cases e:(ns.map λ s=>s.data.toList).contains s.data.toList=true
  ·rw [qz e,e,j8]
   exact qC zo
  ·rw [qw e,xk.2 e,kz,qS]
   omega
end
def locV (Λ:List Lc)(a:Act)(k:Nat):Prop:=∃ l∈Λ,blk (a.eval (.tmp l.s))=some k
def defV (w0:Bs)(w:World)(k:Nat):Prop:=w0.may k∧w.heap[k]?=some (.deferred (some []))
theorem St.frameM {B N:Nat}(h:St B w0 N Γ Λ a w):∃ w1:Bs,St B w1 N Γ Λ a w∧∀ {N':Nat} {Γ':List (Nat × VA)} {Λ':List Lc} {a':Act} {w':World},St B w1 N' Γ' Λ' a' w' →
  St B w0 N' Γ' Λ' a' w'∧∀ (k:Nat) (es:Array MapEntry) (clock:Nat),w.heap[k]?=some (.map es clock)→w'.heap[k]?=some (.map es clock):=by
 have hloc:∀ k,locV Λ a k→w0.may k∧∃ l∈Λ,blk (a.eval (.tmp l.s))=some k∧∃ cs,w.heap[k]?=some (.cells cs l.T (0,0)):=λ k ⟨l,hl,hb⟩=>by
  obtain ⟨g,cs,e1,e2,e3,_⟩:=h.locs l hl
  have:g=k:=by rw [e1,l.H.ok] at hb; injection hb
  subst this
  exact ⟨e2,l,hl,hb,_,e3⟩
 have hmay:∀ k,(⟨w,λ k=>locV Λ a k∨defV w0 w k,w0.nd⟩:Bs).may k→w0.may k:=λ k hk=>by
  rcases hk with hk | hk | hk
  ·exact .inl (qe h.base.size hk)
  ·exact (hloc k hk).1
  ·exact hk.1
 refine ⟨⟨w,λ k=>locV Λ a k∨defV w0 w k,w0.nd⟩,⟨?_,⟨λ d hd=>?_,h.defers.nodup,h.defers.none⟩,h.size,Kept.refl _,h.vals,λ l hl=>?_,h.dis⟩,λ {N' Γ' Λ' a' w'} h'=>⟨⟨h.lo,⟨λ d hd=>?_,h'.defers.nodup,h'.defers.none⟩,h'.size,?_,h'.vals,λ l hl=>?_,h'.dis⟩,?_⟩⟩
 ·exact λ g hg=>h.lo g (hmay g hg)
 ·obtain ⟨D,e1,e2,e3⟩:=h.defers.all d hd
  exact ⟨D,e1,.inr (.inr ⟨e2,e3⟩),e3⟩
 ·obtain ⟨g,cs,e1,e2,e3,e4⟩:=h.locs l hl
  exact ⟨g,cs,e1,.inr (.inl ⟨l,hl,by rw [e1]; exact l.H.ok g⟩),e3,e4⟩
 ·obtain ⟨D,e1,e2,e3⟩:=h'.defers.all d hd
  exact ⟨D,e1,hmay D e2,e3⟩
 ·refine ⟨h'.base.os.trans h.base.os,h'.base.tape.trans h.base.tape,h'.base.output.trans h.base.output,qe h.base.size h'.base.size,λ k hk hf=>?_⟩
  refine (h'.base.block k (qE hk h.base.size) (λ hF=>?_)).trans (h.base.block k hk hf)
  rcases hmay k (.inr hF) with h1 | h1
  ·omega
  ·exact hf h1
 ·obtain ⟨g,cs,e1,e2,e3,e4⟩:=h'.locs l hl
  exact ⟨g,cs,e1,hmay g e2,e3,e4⟩
 ·intro k es clock hk
  refine (h'.base.block k (Array.getElem?_eq_some_iff.1 hk).1 λ hF=>?_).trans hk
  rcases hF with hF | hF
  ·obtain ⟨_,_,_,_,cs,hc⟩:=hloc k hF
   rw [hk] at hc
   cases hc
  ·rw [hF.2] at hk
   cases hk
theorem MpI.kept2 {K E:TypeId}{b:Nat}{ns:List ByteArray}(h:MpI P K E w b ns)(hk:∀ (k:Nat) (es:Array MapEntry) (clock:Nat),w.heap[k]?=some (.map es clock)→w'.heap[k]?=some (.map es clock)):MpI P K E w' b ns:=by
 obtain ⟨es,clock,hb⟩:=h.at_
 exact h.kept ((hk b es clock hb).trans hb.symm)
section
variable {P:Program} {Q:Exit→Act→World→Prop} {B N:Nat} {w0:Bs} {Γ:List (Nat × VA)} {Λ:List Lc} {a:Act} {w:World}
theorem St.growM (h:St B w0 N Γ Λ a w)(hg:Grow w w'):St B w0 N Γ Λ a w':=⟨h.lo,h.defers.grow hg rfl,h.size,h.base.grow hg,λ x hx=>x.2.grow _ _ _ _ hg (h.vals x hx),λ l hl=>(h.locs l hl).grow hg,h.dis⟩
theorem St.turnM {b:Nat}{es:Array MapEntry}{clock:Nat}(h:St B w0 N Γ Λ a w)(hb:w.heap[b]?=some (.map es clock))(hge:w0.w.heap.size≤b)(hg:w.grownBy w' (some b)):St B w0 N Γ Λ a w':=by
 have hblk:∀ k,k<w.heap.size→k≠b→w'.heap[k]?=w.heap[k]?:=λ k hk hne=>hg.block k hk (λ e=>hne (by injection e))
 have hc:Cg w w':=⟨hg.size,λ k c T fz hk=>(hblk k (Array.getElem?_eq_some_iff.1 hk).1 (λ e=>by subst e; rw [hb] at hk; cases hk)).trans hk⟩
 refine ⟨h.lo,h.defers.keep rfl λ D hD=>(hblk D (Array.getElem?_eq_some_iff.1 hD).1 (λ e=>by subst e; rw [hb] at hD; cases hD)).trans hD,h.size,⟨hg.os.trans h.base.os,hg.tape.trans h.base.tape,hg.output.trans h.base.output,qe h.base.size hg.size,λ k hk hf=>(hblk k (qE hk h.base.size) zo).trans (h.base.block k hk hf)⟩,
  λ x hx=>x.2.cg _ _ _ _ hc (h.vals x hx),λ l hl=>?_,h.dis⟩
 obtain ⟨g,cs,e1,e2,e3,e4⟩:=h.locs l hl
 exact ⟨g,cs,e1,e2,hc.heap e3,l.A.cg _ _ _ _ hc e4⟩
theorem y4 {id n:Nat}{ops:Array Oper}(hsz:ops.size=n)(h:wpOps P ops Q (List.range' 0 n) a w):(Code.region id ops false).wp P Q a w:=by
 refine wp_region ?_
 rw [List.range_eq_range',hsz]
 exact h
variable {ops:Array Oper} {i:Nat} {K:Act→World→Prop}
theorem Bc {d:Nat}{T KT E T':TypeId}(ho:ops[i]?=some ⟨some d,.makeMap T none,T',ps,af,none⟩)(h:St B w0 N Γ Λ a w)(hd:d<N)(hΓ:Γ.all (λ x=>x.1 != d)=true)(hΛ:Λ.all (λ l=>l.s != d)=true)
  (hK:∀ a' w' b,St B w0 N ((d,EqV (.map (some b)))::Γ) Λ a' w'→MpI P KT E w' b []→w0.w.heap.size≤b→K a' w'):wpOp P ops Q i K a w:=by
 unfold wpOp
 simp only [ho,Region.wanted,if_true]
 refine .inl (aY (w':=w.alloc (.map #[] 0)) (v:=.map (some w.heap.size)) (by simp [execOp,run_makeMap]) (hK _ _ _ ((h.growM (Grow.alloc _ _)).addV hd hΓ hΛ (show (EqV (.map (some w.heap.size))).p _ _ _ from G)) mp_new h.base.size))
theorem Bd {m s u:Nat}{T KT E T1:TypeId}{ps1:String}{af1:Array Edge}{b:Nat}{ns:List ByteArray}{x:ByteArray}(km ks:Nat)
  (h:St B w0 N Γ Λ a w) (hM:MpI P KT E w b ns) (hge:w0.w.heap.size≤b) (hKT:P.underlying KT=some .string) (ht:P.underlying T=some (.map KT E)) (hE:P.underlying E=some (.int .i64)) (hz:∀ w,(zeroValue E).run P w=.ok (.int .i64 0) w) (hn:ns.length<4096) (hs:x.size≤4096)
  (hm:Γ[km]?=some (m,EqV (.map (some b)))) (hx:Γ[ks]?=some (s,EqV (.string x))) (ho:ops[i]?=some ⟨some u,.lookup T (.tmp m) (.tmp s) false,T1,ps1,af1,none⟩) (hu:u<N) (hΓ:Γ.all (λ x=>x.1 != u)=true) (hΛ:Λ.all (λ l=>l.s != u)=true)
  (hK:∀ (c:Int) (a':Act),St B w0 N ((u,In c)::Γ) Λ a' w→(∃ w',(Instr.mapUpdate T (.map (some b)) (.string x) (.int .i64 (IntKind.i64.wrap (c+1)))).run P w=.ok () w'∧MpI P KT E w' b (ns++[x])∧w.grownBy w' (some b))→K a' w):wpOp P ops Q i K a w:=by
 obtain ⟨c,hr,hup⟩:=hM.add hKT ht hE (hz w) hn hs
 have e1:a.eval (.tmp m)=.map (some b):=h.vals _ (qa hm)
 have e2:a.eval (.tmp s)=.string x:=h.vals _ (qa hx)
 exact ia (A:=In c) (v:=.int .i64 c) ho h hu hΓ hΛ (by simp [execOp,e1,e2,hr]) (bN _ _ _ _) λ U=>hK c _ U hup
theorem Fw {m s v:Nat}{T KT E T1:TypeId}{ps1:String}{af1:Array Edge}{b:Nat}{ns:List ByteArray}{x:ByteArray}{c:Int}(km ks kv:Nat)
  (h:St B w0 N Γ Λ a w) (hM:MpI P KT E w b ns) (hge:w0.w.heap.size≤b) (hup:∃ w',(Instr.mapUpdate T (.map (some b)) (.string x) (.int .i64 c)).run P w=.ok () w'∧MpI P KT E w' b (ns++[x])∧w.grownBy w' (some b))
  (hm:Γ[km]?=some (m,EqV (.map (some b)))) (hx:Γ[ks]?=some (s,EqV (.string x))) (hv:Γ[kv]?=some (v,In c)) (ho:ops[i]?=some ⟨none,.mapUpdate T (.tmp m) (.tmp s) (.tmp v),T1,ps1,af1,none⟩)
  (hK:∀ w',St B w0 N Γ Λ a w'→MpI P KT E w' b (ns++[x])→K (a.put none undef) w'):wpOp P ops Q i K a w:=by
 obtain ⟨w',hr,hM',hg⟩:=hup
 obtain ⟨es,clock,hb⟩:=hM.at_
 have e1:a.eval (.tmp m)=.map (some b):=h.vals _ (qa hm)
 have e2:a.eval (.tmp s)=.string x:=h.vals _ (qa hx)
 have e3:a.eval (.tmp v)=.int .i64 c:=bh (h.vals _ (qa hv))
 unfold wpOp
 simp only [ho,Region.wanted,if_true]
 refine .inl ?_
 unfold Oper.wp
 simp [execOp,e1,e2,e3,hr,Result.andThen]
 exact hK w' (h.turnM hb hge hg) hM'
end
theorem slo_A {E:TypeId}{l:List As}:WkA (SlO E D l True) (SlA E D l):=⟨rfl,rfl,λ B cs w ⟨_,hD,A,c,ds,e,h1,h2,h3,h4⟩=>⟨hD,A,c,ds,e,h1,h2,h3,λ hn=>by
 obtain ⟨b,o,e1,e2,e3,e4⟩:=h4 hn
 exact ⟨b,o,e1,e2,.inl e3,e4⟩⟩⟩
theorem HF (v:Value):UpA (EqA v) (EqA v):=⟨rfl,rfl,λ _ _ _ _ h=>h⟩
theorem u5 (x:RPt):UpA (PtA x) (PtA x):=gg (.cons (HF _) (.cons (CT _) (.cons (fD _ _) .nil)))
def TkO (t:RTk):As:=cat [SlO 28 [U32] (t.sp.map RFA) True,SlO 100 [U32] (t.ps.map PtA) True,RFA t.tg]
theorem u3 (t:RTk):UpA (TkA t) (TkO t):=gg (.cons (fC (λ A hA=>by obtain ⟨x,_,rfl⟩:=qq.1 hA; exact fE x)) (.cons (fC (λ A hA=>by obtain ⟨x,_,rfl⟩:=qq.1 hA; exact u5 x)) (.cons (fE _) .nil)))
theorem tko_A {t:RTk}:WkA (TkO t) (TkA t):=bo (.cons slo_A (.cons slo_A (.cons (.refl _) .nil)))
def spcF (x:RF):Bool := !(((if okX x then (0:Int) else 1) != 0) || decide ((toQ x).num.sign<0))
def ptF (p:RPt):Bool := !(((!namF p.nm || (chF [p.e] != 0)) || decide (p.c<0)) || decide (p.c>1073741824))
def hdF (t:RTk):Bool:=(((decide ((t.sp.length:Int)<2) || decide ((t.sp.length:Int)>13)) || decide ((t.ps.length:Int)<1)) || decide ((t.ps.length:Int)>64)) || ((if okX t.tg then (0:Int) else 1) != 0)
def wayB (p:Nat):Nat→Bool
 | 0=>false
 | k+1=>wayB p k || decide (p^(k+1)>65536)
def ckF (t:RTk):Int:=if hdF t then 1 else if !t.sp.all spcF then 1 else if !t.ps.all ptF then 1 else if dupB (t.ps.map RPt.nm) then 10 else if wayB t.ps.length (t.sp.length-1) then 4 else 0
theorem nm_ok {p:RPt}(h:ptF p=true):p.nm.size≤32:=by
 unfold ptF at h
 simp only [qv,qI,jr] at h
 have h1:=h.1.1.1
 unfold namF at h1
 split at h1
 ·cases h1
 ·rename_i h2
  exact FK (by simpa using h2)
theorem sgn_s {x:RF}(h:((if okX x then (0:Int) else 1) != 0)=false):Cn Tryz.prog 99 [(RFA x).va] (In (toQ x).num.sign):=by
 have hx:okX x=true:=by
  by_cases h1:okX x=true
  ·exact h1
  ·rw [qw h1] at h; exact absurd h zd
 exact sign_q.wk (.cons (qa_x hx (qi _)).va .nil)
section
open Rg
variable {P:Program} {Q:Exit→Act→World→Prop} {B N:Nat} {w0:Bs} {Γ:List (Nat × VA)} {Λ:List Lc} {a:Act} {w:World}
theorem BB {ops:Array Oper}{sp:List Sp}(Γd:List (Nat × VA))(m:Nat)(src:List Src)(h:St B w0 N (Γd++Γ) Λ a w)(h0:sp.take Γd.length=Γd.map λ x=>Sp.v x.1 x.2)(hsz:ops.size=Γd.length+m)
  (hob:Obs P Q ⟨ops,N,Γ,les0 Λ,sp,λ i=>List.range i⟩ B w0 Γd.length m) (hk:Rg.chk ⟨ops,N,Γ,les0 Λ,sp,λ i=>List.range i⟩=true) (hsrc:src.all (okS ⟨ops,N,Γ,les0 Λ,sp,λ i=>List.range i⟩)=true)
  (hQ:∀ a w,St B w0 N (src.filterMap (takeS ⟨ops,N,Γ,les0 Λ,sp,λ i=>List.range i⟩)) Λ a w→Q .normal a w):wpOps P ops Q (List.range' Γd.length m) a w:=by
 have hat:∀ i,i<Γd.length→∃ x,x∈Γd∧sp[i]?=some (.v x.1 x.2):=λ i hi=>by
  have e:(sp.take Γd.length)[i]?=sp[i]?:=by rw [List.getElem?_take,qz hi]
  rw [h0,List.getElem?_map] at e
  refine ⟨Γd[i],qf _,?_⟩
  rw [← e,List.getElem?_eq_getElem hi]; rfl
 have hmem:∀ e∈les0 Λ,e.cr=none∧e.st=none∧(⟨e.s,e.T,e.H,e.A0⟩:Lc)∈Λ:=λ e he=>by
  obtain ⟨l,hl,rfl⟩:=qq.1 he
  exact ⟨rfl,rfl,hl⟩
 have hcur:∀ e∈les0 Λ,∀ L:Nat→Bool,Rg.cur L e=some e.A0:=λ e he L=>by
  obtain ⟨h1,h2,_⟩:=hmem e he
  unfold Rg.cur
  rw [h1,h2]
  rfl
 have hi0:Rg.Inv ⟨ops,N,Γ,les0 Λ,sp,λ i=>List.range i⟩ B w0 (λ j=>decide (j<Γd.length)) a w:=by
  refine ⟨h.lo,h.defers,h.size,h.base,λ x hx _ _=>h.vals x (qo.2 (.inr hx)),λ i y d A hs hv hL _=>?_,λ i d b k c hs hL _=>?_,λ e he A hA=>?_,λ e he f hf hne _ _=>?_⟩
  ·obtain ⟨x,hx,hx2⟩:=hat i (qp hL)
   have hs':sp[i]?=some y:=hs
   rw [hx2] at hs'
   injection hs' with hs'
   subst hs'
   simp only [Sp.vl,Option.some.injEq,Prod.mk.injEq] at hv
   obtain ⟨rfl,rfl⟩:=hv
   exact h.vals x (qo.2 (.inl hx))
  ·obtain ⟨x,hx,hx2⟩:=hat i (qp hL)
   have hs':sp[i]?=some (.adr d b k c):=hs
   rw [hx2] at hs'
   cases hs'
  ·rw [hcur e he] at hA
   injection hA with hA
   subst hA
   exact h.locs _ (hmem e he).2.2
  ·exact h.dis _ (hmem e he).2.2 _ (hmem f hf).2.2 hne
 have key:∀ m k,Γd.length≤k→k+m=ops.size→∀ a w,Rg.Inv ⟨ops,N,Γ,les0 Λ,sp,λ i=>List.range i⟩ B w0 (λ j=>decide (j<k)) a w→wpOps P ops Q (List.range' k m) a w:=by
  intro m
  induction m with
  | zero =>
   intro k hk1 hkm a w hi
   have:k=ops.size:=by omega
   subst this
   have:=eJ hk ⟨hi⟩ src hsrc
   rw [show (Rg.mk ops N Γ (les0 Λ) sp (λ i=>List.range i)).les=les0 Λ from rfl,o5] at this
   exact hQ a w this
  | succ m ih =>
   intro k hk1 hkm a w hi
   rw [List.range'_succ,qA]
   refine Rg.step hk (hob.all k zo zo) hi ?_ (by simp) ?_ _ λ a' w' hi'=>ih (k+1) zo zo a' w' (hi'.congr λ j=>?_)
   ·intro i hi j hj
    have hj:(List.range i).contains j=true:=hj
    simp at hi hj ⊢
    omega
   ·intro j hj
    have hj:(List.range k).contains j=true:=hj
    simpa using hj
   ·unfold upd
    by_cases h1:j=k
    ·subst h1; simp
    ·have h2:(j==k)=false:=by simpa using h1
     rw [h2,xB,qS]
     omega
 exact key m Γd.length (qi _) zo a w hi0
variable {ops:Array Oper} {i:Nat} {K:Act→World→Prop}
theorem op_mvS {d u:Nat}{T':TypeId}{A:VA}(ku:Nat)(ho:ops[i]?=some ⟨some d,.move (.tmp u),T',ps,af,none⟩)(h:St B w0 N Γ Λ a w)
  (hu:Γ[ku]?=some (u,A)) (hd:d<N) (hΓ:Γ.all (λ x=>x.1 != d)=true) (hΛ:Λ.all (λ l=>l.s != d)=true)
  (hK:∀ a',St B w0 N ((d,A)::Γ) Λ a' w→K a' w):wpOp P ops Q i K a w :=
 ia (A:=A) (v:=a.eval (.tmp u)) ho h hd hΓ hΛ (by simp [execOp]) (h.vals _ (qa hu)) (hK _)
theorem op_cnS {d:Nat}{k:IntKind}{n:Int}{T':TypeId}(ho:ops[i]?=some ⟨some d,.assign (.const (.int k n)),T',ps,af,none⟩)(h:St B w0 N Γ Λ a w)
  (hd:d<N) (hΓ:Γ.all (λ x=>x.1 != d)=true) (hΛ:Λ.all (λ l=>l.s != d)=true)
  (hK:∀ a',St B w0 N ((d,(NumA k n).va)::Γ) Λ a' w→K a' w):wpOp P ops Q i K a w :=
 ia (A:=(NumA k n).va) (v:=.int k n) ho h hd hΓ hΛ (by simp [execOp,Act.eval]) (bN _ _ _ _) (hK _)
theorem op_adc {d u:Nat}{c n:Int}{xt yt T':TypeId}(ku:Nat)(ho:ops[i]?=some ⟨some d,.binOp .add xt (.tmp u) (.const (.int .i64 n)) yt,T',ps,af,none⟩)(h:St B w0 N Γ Λ a w)
  (hu:Γ[ku]?=some (u,In c)) (hd:d<N) (hΓ:Γ.all (λ x=>x.1 != d)=true) (hΛ:Λ.all (λ l=>l.s != d)=true)
  (hK:∀ a',St B w0 N ((d,In (IntKind.i64.wrap (c+n)))::Γ) Λ a' w→K a' w):wpOp P ops Q i K a w:=by
 have e:a.eval (.tmp u)=.int .i64 c:=bh (h.vals _ (qa hu))
 refine ia (A:=In (IntKind.i64.wrap (c+n))) (v:=.int .i64 (IntKind.i64.wrap (c+n))) ho h hd hΓ hΛ ?_ (bN _ _ _ _) (hK _)
 have e2:a.eval (.const (.int .i64 n))=.int .i64 n:=rfl
 simp only [execOp,e,e2,Sem.run_bind,binOp_add]
 rfl
theorem Fy {d m:Nat}{T KT E T':TypeId}{b:Nat}{ns:List ByteArray}(km:Nat)(ho:ops[i]?=some ⟨some d,.call ⟨.builtin .len,#[.tmp m],#[T]⟩,T',ps,af,none⟩)(h:St B w0 N Γ Λ a w)(hM:MpI P KT E w b ns)(ht:P.underlying T=some (.map KT E))
  (hm:Γ[km]?=some (m,EqV (.map (some b)))) (hd:d<N) (hΓ:Γ.all (λ x=>x.1 != d)=true) (hΛ:Λ.all (λ l=>l.s != d)=true)
  (hK:∀ (n:Nat) a',decide ((n:Int)<(ns.length:Int))=dupB ns→St B w0 N ((d,In (n:Nat))::Γ) Λ a' w→K a' w):wpOp P ops Q i K a w:=by
 obtain ⟨n,hr,hn⟩:=hM.len ht T'
 have e1:a.eval (.tmp m)=.map (some b):=h.vals _ (qa hm)
 exact ia (A:=In (n:Nat)) (v:=.int .i64 n) ho h hd hΓ hΛ (by simp [execOp,resolve,invoke,builtin,e1,hr]) (bN _ _ _ _) (hK n _ hn)
end
theorem dz:Str Tryz.prog 100 [EqA (.string ⟨#[]⟩),cat [NumA .u8 0,RFA rf0,RFA rf0],NumA .i64 0] :=
 Str.of (z:=.agg #[.string ⟨#[]⟩,.int .u8 0,.bool false,.slice none 0 0,.bool false,.slice none 0 0,.bool false,.slice none 0 0,.bool false,.slice none 0 0,.int .i64 0]) zk Tryz.underlying100 zk λ B w=>⟨[[.string ⟨#[]⟩],[.int .u8 0,.bool false,.slice none 0 0,.bool false,.slice none 0 0,.bool false,.slice none 0 0,.bool false,.slice none 0 0],[.int .i64 0]],rfl,.cons ⟨rfl,rfl⟩ (.cons ⟨[[.int .u8 0],[.bool false,.slice none 0 0,.bool false,.slice none 0 0],[.bool false,.slice none 0 0,.bool false,.slice none 0 0]],rfl,.cons rfl (.cons (dX B w) (.cons (dX B w) .nil))⟩ (.cons rfl .nil))⟩
theorem hd_b {t:RTk}(h:hdF t=false):2≤t.sp.length∧t.sp.length≤13∧1≤t.ps.length∧t.ps.length≤64∧okX t.tg=true:=by
 unfold hdF at h
 simp only [qI,qk] at h
 refine ⟨by omega,by omega,by omega,by omega,?_⟩
 by_cases h1:okX t.tg=true
 ·exact h1
 ·have:=h.2
  rw [qw h1] at this
  exact absurd this zd
theorem ck_sp {t:RTk}(h1:hdF t=false)(h2:t.sp.all spcF=false):ckF t=1:=by rw [ckF,qw (by rw [h1]; decide),qz (by rw [h2]; rfl)]
theorem ck_ps {t:RTk}(h1:hdF t=false)(h2:t.sp.all spcF=true)(h3:t.ps.all ptF=false):ckF t=1:=by rw [ckF,qw (by rw [h1]; decide),qw (by rw [h2]; decide),qz (by rw [h3]; rfl)]
theorem ck_du {t:RTk}(h1:hdF t=false)(h2:t.sp.all spcF=true)(h3:t.ps.all ptF=true)(h4:dupB (t.ps.map RPt.nm)=true):ckF t=10:=by rw [ckF,qw (by rw [h1]; decide),qw (by rw [h2]; decide),qw (by rw [h3]; decide),qz h4]
theorem Cs {t:RTk}(h1:hdF t=false)(h2:t.sp.all spcF=true)(h3:t.ps.all ptF=true)(h4:dupB (t.ps.map RPt.nm)=false):ckF t=if wayB t.ps.length (t.sp.length-1) then 4 else 0:=by rw [ckF,qw (by rw [h1]; decide),qw (by rw [h2]; decide),qw (by rw [h3]; decide),qw (by rw [h4]; decide)]
theorem At {t:RTk}(h1:2≤t.sp.length)(h2:t.sp.length≤13):sloF t=((t.sp.length-1:Nat):Int):=by
 unfold sloF
 rw [wi64 zo zo]
 omega
theorem CQ {p:Nat}:∀ {j:Nat},wayB p j=false→p^j≤65536
 | 0,_=>by rw [jG]; decide
 | j+1,h=>by
  rw [wayB,qI,qk] at h
  omega
theorem Ed {p j:Nat}(h:wayB p j=false)(hp:p≤64):IntKind.i64.wrap (((p^j:Nat):Int)*((p:Nat):Int))=((p^(j+1):Nat):Int):=by
 have h1:=CQ h
 have h2:p^j*p≤65536*64:=xC h1 hp
 rw [← xo,wi64 zo zo,qV]
theorem rb {p:Nat}:∀ {n j:Nat},j≤n→wayB p j=true→wayB p n=true
 | 0,j,h,hw=>by
  obtain rfl:j=0:=by omega
  exact hw
 | n+1,j,h,hw=>by
  by_cases e:j=n+1
  ·rw [← e]; exact hw
  ·rw [wayB,rb (n:=n) zo hw]; rfl
theorem dec_n {m:Nat}:decide (((m:Nat):Int)>65536)=decide (m>65536):=by
 rw [qS]; omega
theorem dS {ops:Array Oper}{Q:Exit→Act→World→Prop}(h:Q .normal a w):wpOps P ops Q [] a w:=h
theorem r9 {ops:Array Oper}{Q:Exit→Act→World→Prop}(h:Q .normal a w):wpOps P ops Q [] (a.put none undef) w:=h
set_option maxHeartbeats 2000000 in
theorem rq (t:RTk):Cn Tryz.prog 22 [(TkA t).va] (In (ckF t)):=by
 refine Cn.introW Tryz.func22 G zk nq (.cons (u3 t).va .nil) (ce _ _).va (λ B w0 a hB0 U=>?_)
 have U:=zn [(0,(TkO t).va)] [] U
 refine qb<|zg [] [⟨1,30,ptrH,some 0,_,none⟩] [.alc 0,.v 2 _] [.o 1] U (zW 0 G (zv G (ac ab) o0)) (zz [(2,_)] [O 1 30 _] λ a w U=>?_)
 refine zt<|qb<|gl (sts:=[none]) (news:=[]) (sp:=((.adr 9 1 (.some 0) True:Sp)::(.v 10 _)::(.v 11 _)::(.v 12 _)::(.v 13 _)::(.adr 14 1 (.some 0) (_=false))::(.f 15 _)::(.f 16 _)::(.f 17 _)::(.v 18 _)::(.v 19 _)::(.adr 20 1 (.some 1) (_=false))::(.f 21 _)::(.f 22 _)::(.f 23 _)::(.v 24 _)::(.v 25 _)::(.adr 26 1 (.some 1) (_=false))::(.f 27 _)::(.f 28 _)::(.f 29 _)::(.v 30 _)::(.v 31 _)::(.adr 32 1 (.some 2) (_=false))::(.f 33 _)::(.f 34 _)::(.f 35 _)::(.v 36 _)::[])) [.g 0,.o 27] U (zO 0 G bU (zL 0 0 0 G ew (zv G (bg Tryz.underlying22 (bm (aD (vq 1 G)))) (zv G (aS (vq 2 G) ab) (zv G (ai (vq 3 G)) (zC 4 0 G bU (zB 4 G (λ hg=>aF 5 G zk hg (lz0 0 G) (Sub.part 0 G G) ew) (zB 4 G (λ hg=>bg Tryz.underlying22 (bm (aD (ak (vq 6 G) hg)))) (zB 4 G (λ hg=>ci (ak (vq 7 G) hg) ab) (zv G (r_or (vq 4 G) (vq 8 G)) (zv G (ai (vq 9 G)) (zC 10 0 G bD (zB 10 G (λ hg=>aF 11 G zk hg (lz0 0 G) (Sub.part 1 G G) dn) (zB 10 G (λ hg=>bg Tryz.underlying23 (bm (aD (ak (vq 12 G) hg)))) (zB 10 G (λ hg=>aS (ak (vq 13 G) hg) ab) (zv G (r_or (vq 10 G) (vq 14 G)) (zv G (ai (vq 15 G)) (zC 16 0 G bD (zB 16 G (λ hg=>aF 17 G zk hg (lz0 0 G) (Sub.part 1 G G) dn) (zB 16 G (λ hg=>bg Tryz.underlying23 (bm (aD (ak (vq 18 G) hg)))) (zB 16 G (λ hg=>ci (ak (vq 19 G) hg) ab) (zv G (r_or (vq 16 G) (vq 20 G)) (zv G (ai (vq 21 G)) (zC 22 0 G dH (zB 22 G (λ hg=>aF 23 G zk hg (lz0 0 G) (Sub.part 2 G G) ax) (zB 22 G (λ hg=>be (pU _) (.o (ak (vq 24 G) hg))) (zB 22 G (λ hg=>bX (ak (vq 25 G) hg) ab) (zv G (r_or (vq 22 G) (vq 26 G)) o0)))))))))))))))))))))))))))) (zz [(2,_),(36,_)] [O 1 30 _] λ a w U=>?_)
 refine aa<|aj U (zm 1 G) (λ hb0=>?_) (λ hb0=>?_)
 ·have hd:hdF t=true:=by simp only [qc] at hb0; exact hb0
  refine qb<|zg [η] [] [.v 2 _] [.o 0] U (zv G (ac ab) o0) (zz [(2,_)] [O 1 30 _] λ a w U=>?_)
  refine aa<|qg<|al ?_
  refine ao ?_ (an G U (zm 0 G))
  rw [ckF,qz hd]; exact aL
 ·have hd:hdF t=false:=by simp only [qc] at hb0; exact hb0
  obtain ⟨hs2,hs13,hp1,hp64,htg⟩:=hd_b hd
  refine qh<|zt<|qb<|zg [η] [] [.adr 37 1 (.some 0) True,.v 38 _,.v 39 _,.v 40 _] [.g 0,.o 1,.o 2,.o 3] U (zO 0 G bU (zL 0 0 0 G ew (zv G (bg Tryz.underlying22 (bm (aD (vq 1 G)))) (zv G (ai ab) o0)))) (zz [(2,_),(38,_),(39,_),(40,_)] [O 1 30 _] λ a w U=>?_)
  refine aa<|qj ?_
  have U:=St.sel U [1,2,3]
  refine wp_loop_ghost (λ n a w=>∃ j:Nat,(n+j=t.sp.length∧(t.sp.take j).all spcF=true)∧St B w0 106 [(38,(SlO 28 [U32] (t.sp.map RFA) True).va),(39,In (t.sp.length:Nat)),(40,In (j:Nat))] [⟨1,30,ptrH,TkO t⟩] a w) (t.sp.length) ?_ ?_
  ·exact ⟨0,⟨by omega,rfl⟩,by rw [qc] at U; exact U⟩
  intro n a w hI
  obtain ⟨j,⟨hn,hno⟩,U⟩:=hI
  refine qb<|zg [η] [] [.v 41 _] [.g 0,.g 1,.g 2,.o 0] U (zv G (aS (gq 2 G) (gq 1 G)) o0) (zz [(38,_),(39,_),(40,_),(41,_)] [O 1 30 _] λ a w U=>?_)
  refine zt<|aj U (zm 3 G) (λ hb1=>?_) (λ hb1=>?_)
  ·have hj:j<t.sp.length:=by have:=qp hb1; omega
   refine qh<|zt<|qj<|qb<|zg [η] [⟨4,28,ptrH,some 2,_,some (3,_)⟩] [.v 42 _,.v 43 _,.alc 1,.sto 1] [.g 0,.g 1,.g 2] U (zv G (bH cO (bW λ _=>rfl) (bm (aD (gq 0 G))) (gq 2 G) (bz hj)) (zv G (au (vq 0 G) ax) (zY G (Str.zero aP) (zS 1 G ax o0)))) (zz [(38,_),(39,_),(40,_)] [O 1 30 _,O 4 28 _] λ a w U=>?_)
   refine zt<|zg [η,η] [] [.v 44 _,.v 45 _,.v 46 _,.v 47 _,.f 48 _,.f 49 _,.f 50 _,.v 51 _] [.g 0,.g 1,.g 2,.o 7] U (zl 1 G ax (zQ G (pU _) (.o (vq 0 G)) (zv G (bX (vq 1 G) ab) (zv G (ai (vq 2 G)) (zB 3 G (λ hg=>df (lz0 1 G) ax) (zB 3 G (λ hg=>be (sgn_s hg) (.o (ak (vq 4 G) hg))) (zB 3 G (λ hg=>aS (ak (vq 5 G) hg) ab) (zv G (r_or (vq 3 G) (vq 6 G)) o0)))))))) (zz [(38,_),(39,_),(40,_),(51,_)] [O 1 30 _,O 4 28 _] λ a w U=>?_)
   refine aa<|aj U (zm 3 G) (λ hb2=>?_) (λ hb2=>?_)
   ·refine qb<|zg [η,η] [] [.v 2 _] [.g 0,.g 1,.g 2,.o 0] U (zv G (ac ab) o0) (zz [(38,_),(39,_),(40,_),(2,_)] [O 1 30 _,O 4 28 _] λ a w U=>?_)
    refine aa<|qg<|aE ?_
    refine al ?_
    refine al ?_
    refine aE ?_
    refine al ?_
    refine ao ?_ (an G U (zm 3 G))
    rw [ck_sp hd (lp hj (by unfold spcF; rw [hb2]; rfl))]; exact aL
   ·refine qh<|ap ?_
    refine aa<|zg [η,η] [] [.v 52 _,.v 40 _] [.g 0,.g 1,.o 1] U (zv G (aN (gq 2 G) ab ((wi64 zo zo).trans (by omega:(_:Int)=((j+1:Nat):Int)))) (zv G (ai (vq 0 G)) o0)) (zz [(38,_),(39,_),(40,_)] [O 1 30 _,O 4 28 _] λ a w U=>?_)
    refine aa ?_
    have U:=St.sel U [0,1,2]
    have U:=St.selL U [0]
    exact ⟨n-1,by omega,j+1,⟨by omega,lr hj hno (by unfold spcF; rw [hb2]; rfl)⟩,U⟩
  ·obtain rfl:j=t.sp.length:=by have:=qr hb1; omega
   rw [qF] at hno
   have hsp:=hno
   refine qK<|am<|am<|aB<|zt<|y4 (n:=3) G ?_
   rw [show List.range' 0 3=[0,1,2] from rfl,qA]
   refine Bc (KT:=9) (E:=3) G U zd zk zk (λ a w b U hM hgb=>?_)
   rw [qA]
   refine pi 0 G U G zd zk zk (λ a U=>?_)
   rw [qA]
   refine op_cnS G U zd zk zk (λ a U=>?_)
   refine dS ?_
   have U:=zn [(6,_),(5,_),(53,_),(38,_),(39,_),(40,_),(41,_)] [O 1 30 _] U
   obtain ⟨w1,U,hback⟩:=St.frameM U
   refine zt<|qb<|zg [η] [] [.adr 54 1 (.some 1) True,.v 55 _,.v 56 _,.v 57 _] [.g 0,.g 1,.o 1,.o 2,.o 3] U (zO 0 G bD (zL 0 0 1 G dn (zv G (bg Tryz.underlying23 (bm (aD (vq 1 G)))) (zv G (ai ab) o0)))) (λ a w U=>?_)
   have U:St B w1 106 [(6,_),(5,_),(55,_),(56,_),(57,_)] [O 1 30 _] a w:=U
   obtain ⟨U,hob⟩:=hback U
   have hM:=hM.kept2 hob
   refine aa<|qj ?_
   have U:=St.sel U [1,0,2,3,4]
   refine wp_loop_ghost (λ n a w=>∃ j:Nat,(n+j=t.ps.length∧(t.ps.take j).all ptF=true∧MpI Tryz.prog 9 3 w b ((t.ps.take j).map RPt.nm))∧St B w0 106 [(5,EqV (.map (some b))),(6,In 1),(55,(SlO 100 [U32] (t.ps.map PtA) True).va),(56,In (t.ps.length:Nat)),(57,In (j:Nat))] [⟨1,30,ptrH,TkO t⟩] a w) (t.ps.length) ?_ ?_
   ·exact ⟨0,⟨by omega,rfl,hM⟩,by rw [qc] at U; exact U⟩
   intro n a w hI
   obtain ⟨j,⟨hn,hno,hM⟩,U⟩:=hI
   obtain ⟨w1,U,hback⟩:=St.frameM U
   refine qb<|zg [η] [] [.v 58 _] [.g 0,.g 1,.g 2,.g 3,.g 4,.o 0] U (zv G (aS (gq 4 G) (gq 3 G)) o0) (λ a w U=>?_)
   have U:St B w1 106 [(5,_),(6,_),(55,_),(56,_),(57,_),(58,_)] [O 1 30 _] a w:=U
   refine zt<|aj U (zm 5 G) (λ hb3=>?_) (λ hb3=>?_)
   ·have hj:j<t.ps.length:=by have:=qp hb3; omega
    refine qh<|zt<|qj<|qb<|zg [η] [⟨8,100,ptrH,some 2,_,some (3,_)⟩] [.v 59 _,.v 60 _,.alc 1,.sto 1] [.g 0,.g 1,.g 2,.g 3,.g 4] U (zv G (bH ey (bW λ _=>rfl) (bm (aD (gq 2 G))) (gq 4 G) (bz hj)) (zv G (au (vq 0 G) dy) (zY G (Str.zero dz) (zS 1 G dy o0)))) (λ a w U=>?_)
    have U:St B w1 106 [(5,_),(6,_),(55,_),(56,_),(57,_)] [O 1 30 _,O 8 100 _] a w:=U
    refine zt<|qb<|zg [η,η] [] [.adr 61 8 (.some 0) True,.v 62 _,.v 63 _,.v 64 _,.v 65 _,.adr 66 8 (.some 1) (_=false),.f 67 _,.f 68 _,.f 69 _,.f 70 _,.v 71 _,.v 72 _,.adr 73 8 (.some 10) (_=false),.f 74 _,.f 75 _,.v 76 _,.v 77 _,.adr 78 8 (.some 10) (_=false),.f 79 _,.f 80 _,.v 81 _] [.g 0,.g 1,.g 2,.g 3,.g 4,.o 20] U (zO 1 G cM (zL 0 1 0 G ty_9 (zQ G (FP _) (.o (vq 1 G)) (zv G (dY (vq 2 G)) (zv G (ai (vq 3 G)) (zC 4 1 G da (zB 4 G (λ hg=>aF 5 G zk hg (lz0 1 G) (Sub.part 1 G G) fh) (zB 4 G (λ hg=>bJ (D:=[U32]) (l:=[_]) (xs:=[.tmp 67]) (cT zk) nK zk (n_ok zk) nq nq nq (.o (ak (vq 6 G) hg)) G G) (zB 4 G (λ hg=>be (tM [_]) (.o (ak (vq 7 G) hg))) (zB 4 G (λ hg=>bX (ak (vq 8 G) hg) ab) (zv G (r_or (vq 4 G) (vq 9 G)) (zv G (ai (vq 10 G)) (zC 11 1 G co (zB 11 G (λ hg=>aF 12 G zk hg (lz0 1 G) (Sub.part 2 G G) ty_3) (zB 11 G (λ hg=>aS (ak (vq 13 G) hg) ab) (zv G (r_or (vq 11 G) (vq 14 G)) (zv G (ai (vq 15 G)) (zC 16 1 G co (zB 16 G (λ hg=>aF 17 G zk hg (lz0 1 G) (Sub.part 2 G G) ty_3) (zB 16 G (λ hg=>ci (ak (vq 18 G) hg) ab) (zv G (r_or (vq 16 G) (vq 19 G)) o0))))))))))))))))))))) (λ a w U=>?_)
    have U:St B w1 106 [(5,_),(6,_),(55,_),(56,_),(57,_),(81,_)] [O 1 30 _,O 8 100 _] a w:=U
    refine aa<|aj U (zm 5 G) (λ hb4=>?_) (λ hb4=>?_)
    ·have hpt:ptF t.ps[j]=false:=by unfold ptF; rw [hb4]; rfl
     refine qb<|zg [η,η] [] [.v 2 _] [.g 0,.g 1,.g 2,.g 3,.g 4,.o 0] U (zv G (ac ab) o0) (λ a w U=>?_)
     have U:St B w1 106 [(5,_),(6,_),(55,_),(56,_),(57,_),(2,_)] [O 1 30 _,O 8 100 _] a w:=U
     refine aa<|qg<|al ?_
     refine aE ?_
     refine al ?_
     refine al ?_
     refine aE ?_
     refine al ?_
     obtain ⟨U,_⟩:=hback U
     refine ao ?_ (an G U (zm 5 G))
     rw [ck_ps hd hsp (lp hj hpt)]; exact aL
    ·have hpt:ptF t.ps[j]=true:=by unfold ptF; rw [hb4]; rfl
     refine qh<|aa<|cc (sp:=[.v 82 _,.adr 83 8 (.some 0) True,.v 84 _,.v 85 VT,.v 86 VT,.skp]) 3 3 99 3 OneC [.g 0,.g 1,.g 2,.g 3,.g 4,.o 0,.o 2] U (zM 0 G (zO 1 G cM (zL 1 1 0 G ty_9 o0))) G zd zk zk (λ a w U=>?_)
     have U:St B w1 106 [(5,_),(6,_),(55,_),(56,_),(57,_),(82,_),(84,_)] [O 1 30 _,O 8 100 _] a w:=U
     rw [show List.range' 3 3=[3,4,5] from rfl]
     obtain ⟨U,hob⟩:=hback U
     have hM:=hM.kept2 hob
     have U:=St.wkG U 6 rfl tH
     rw [qA]
     refine Bd (KT:=9) (E:=3) 5 6 U hM hgb zk Tryz.underlying106 zk (λ w=>rfl) (by rw [qc,qY]; omega) (by have:=nm_ok hpt; omega) G G G zd zk zk (λ c a U hup=>?_)
     rw [qA]
     refine op_adc 0 G U G zd zk zk (λ a U=>?_)
     rw [qA]
     refine Fw 7 8 0 U hM hgb hup G G G G (λ w U hM=>?_)
     refine r9 ?_
     have U:St B w0 106 [(86,_),(85,_),(5,_),(6,_),(55,_),(56,_),(57,_),(82,_),(84,_)] [O 1 30 _,O 8 100 _] _ w:=U
     have hM:MpI Tryz.prog 9 3 w b ((t.ps.take (j+1)).map RPt.nm):=by rw [qu hj,zF]; exact hM
     obtain ⟨w1,U,hback⟩:=St.frameM U
     refine ap ?_
     refine aa<|zg [η,η] [] [.v 87 _,.v 57 _] [.g 2,.g 3,.g 4,.g 5,.o 1] U (zv G (aN (gq 6 G) ab ((wi64 zo zo).trans (by omega:(_:Int)=((j+1:Nat):Int)))) (zv G (ai (vq 0 G)) o0)) (λ a w U=>?_)
     have U:St B w1 106 [(5,_),(6,_),(55,_),(56,_),(57,_)] [O 1 30 _,O 8 100 _] a w:=U
     obtain ⟨U,hob⟩:=hback U
     have hM:=hM.kept2 hob
     refine aa ?_
     have U:=St.sel U [0,1,2,3,4]
     have U:=St.selL U [0]
     exact ⟨n-1,by omega,j+1,⟨by omega,lr hj hno hpt,hM⟩,U⟩
   ·obtain rfl:j=t.ps.length:=by have:=qr hb3; omega
    obtain ⟨U,hob⟩:=hback U
    have hM:=hM.kept2 hob
    rw [qF] at hno hM
    have hps:=hno
    refine qK<|am<|am<|aB<|zt<|qb<|y4 (n:=6) G ?_
    rw [show List.range' 0 6=0::1::List.range' 2 4 from rfl,qA]
    refine op_mvS 0 G U G zd zk zk (λ a U=>?_)
    rw [qA]
    refine Fy 0 G U hM Tryz.underlying106 G zd zk zk (λ nm a hnm U=>?_)
    have U:=St.sel U [1,0,2,3,4,5,6,7]
    refine BB (sp:=[.v 88 (EqV (.map (some b))),.v 89 (In (nm:Nat)),.adr 90 1 (.some 1) True,.v 91 _,.v 92 _,.v 93 _]) [(88,(EqV (.map (some b)))),(89,(In (nm:Nat)))] 4 [.g 1,.o 5] U G zk (zO 0 G bD (zL 2 0 1 G dn (zv G (bg Tryz.underlying23 (bm (aD (vq 3 G)))) (zv G (aS (vq 1 G) (vq 4 G)) o0)))) zk zk (zz [(6,_),(93,_)] [O 1 30 _] λ a w U=>?_)
    refine aa<|aj U (zm 1 G) (λ hb5=>?_) (λ hb5=>?_)
    ·have hdu:dupB (t.ps.map RPt.nm)=true:=by rw [← hnm]; simp only [qc] at hb5 ⊢; exact hb5
     refine qb<|zg [η] [] [.v 2 _] [.g 0,.o 0] U (zv G (ac ab) o0) (zz [(6,_),(2,_)] [O 1 30 _] λ a w U=>?_)
     refine aa<|qg<|al ?_
     refine ao ?_ (an G U (zm 1 G))
     rw [ck_du hd hsp hps hdu]; exact aL
    ·have hdu:dupB (t.ps.map RPt.nm)=false:=by rw [← hnm]; simp only [qc] at hb5 ⊢; exact hb5
     refine qh<|zt<|qb<|zg [η] [] [.v 94 _,.v 95 _,.v 96 _] [.g 0,.o 1,.o 2] U (zl 0 G cN (zQ G ((oT t).wk (.cons tko_A.va .nil)) (.o (vq 0 G)) (zv G (ai ab) o0))) (zz [(6,_),(95,_),(96,_)] [O 1 30 _] λ a w U=>?_)
     refine aa<|qj ?_
     have U:=St.sel U [0,1,2]
     refine wp_loop_ghost (λ n a w=>∃ j:Nat,(n+j=t.sp.length-1∧wayB t.ps.length j=false)∧St B w0 106 [(6,In ((t.ps.length^j:Nat):Int)),(95,In ((t.sp.length-1:Nat):Int)),(96,In (j:Nat))] [⟨1,30,ptrH,TkO t⟩] a w) (t.sp.length-1) ?_ ?_
     ·have e:=At hs2 hs13
      rw [e] at U
      exact ⟨0,⟨by omega,rfl⟩,U⟩
     intro n a w hI
     obtain ⟨j,⟨hn,hno⟩,U⟩:=hI
     refine qb<|zg [η] [] [.v 97 _] [.g 0,.g 1,.g 2,.o 0] U (zv G (aS (gq 2 G) (gq 1 G)) o0) (zz [(6,_),(95,_),(96,_),(97,_)] [O 1 30 _] λ a w U=>?_)
     refine zt<|aj U (zm 3 G) (λ hb6=>?_) (λ hb6=>?_)
     ·have hj:j<t.sp.length-1:=by have:=qp hb6; omega
      refine qh<|zt<|qj<|qb<|zg [η] [] [.v 98 _,.adr 99 1 (.some 1) True,.v 100 _,.v 101 _,.v 102 _,.v 6 _] [.g 1,.g 2,.o 5] U (zM 0 G (zO 0 G bD (zL 1 0 1 G dn (zv G (bg Tryz.underlying23 (bm (aD (vq 2 G)))) (zv G (iP (vq 0 G) (vq 3 G) (((qm (λ z:Nat=>IntKind.i64.wrap (((t.ps.length^j:Nat):Int)*(z:Int))) (qc PtA)).trans (Ed hno hp64)))) (zA 4 G o0)))))) (zz [(95,_),(96,_),(6,_)] [O 1 30 _] λ a w U=>?_)
      refine zt<|zg [η] [] [.v 103 _,.v 104 _] [.g 0,.g 1,.g 2,.o 1] U (zM 2 G (zv G (ci (vq 0 G) ab) o0)) (zz [(95,_),(96,_),(6,_),(104,_)] [O 1 30 _] λ a w U=>?_)
      refine aa<|aj U (zm 3 G) (λ hb7=>?_) (λ hb7=>?_)
      ·have hw:wayB t.ps.length (t.sp.length-1)=true:=rb (j:=j+1) zo (by rw [wayB,hno,xB,← dec_n]; exact hb7)
       refine qb<|zg [η] [] [.v 2 _] [.g 0,.g 1,.g 2,.o 0] U (zv G (ac ab) o0) (zz [(95,_),(96,_),(6,_),(2,_)] [O 1 30 _] λ a w U=>?_)
       refine aa<|qg<|aE ?_
       refine al ?_
       refine al ?_
       refine aE ?_
       refine al ?_
       refine ao ?_ (an G U (zm 3 G))
       rw [Cs hd hsp hps hdu,qz hw]; exact aL
      ·have hw:decide (t.ps.length^(j+1)>65536)=false:=by rw [← dec_n]; exact hb7
       refine qh<|ap ?_
       refine aa<|zg [η] [] [.v 105 _,.v 96 _] [.g 0,.g 2,.o 1] U (zv G (aN (gq 1 G) ab ((wi64 zo zo).trans (by omega:(_:Int)=((j+1:Nat):Int)))) (zv G (ai (vq 0 G)) o0)) (zz [(95,_),(6,_),(96,_)] [O 1 30 _] λ a w U=>?_)
       refine aa ?_
       have U:=St.sel U [1,0,2]
       exact ⟨n-1,by omega,j+1,⟨by omega,by rw [wayB,hno,xB]; exact hw⟩,U⟩
     ·obtain rfl:j=t.sp.length-1:=by have:=qr hb6; omega
      refine qK<|am<|am<|aB<|zt<|zg [η] [] [.v 2 _] [.o 0] U (zv G (ac ab) o0) (zz [(2,_)] [O 1 30 _] λ a w U=>?_)
      refine aa<|qg<|ao ?_ (an G U (zm 0 G))
      rw [Cs hd hsp hps hdu,qw (by rw [hno]; decide)]; exact aL
def cntW (p a:Nat):Nat→Nat→Nat
 | 0,_=>1
 | f+1,i=>if i<a then cntW p a f (i+1) else p*cntW p a f (i+1)
def exW (p:Nat)(ah:List Nat):Nat→Nat→Nat→List Nat
 | 0,_,_=>[]
 | f+1,i,r=>if i<ah.length then ah.getD i 0::exW p ah f (i+1) r else (r/cntW p ah.length f (i+1))::exW p ah f (i+1) (r%cntW p ah.length f (i+1))
theorem dk {p a:Nat}(hp:0<p):∀ f i,0<cntW p a f i
 | 0,_=>Nat.one_pos
 | f+1,i=>by
  unfold cntW
  split
  ·exact dk hp f (i+1)
  ·exact jg hp (dk hp f (i+1))
theorem dM (p:Nat)(ah:List Nat):∀ f i r,(exW p ah f i r).length=f
 | 0,_,_=>rfl
 | f+1,i,r=>by
  unfold exW
  split <;> rw [zy,dM]
theorem ot {p:Nat}{ah:List Nat}(hp:0<p)(hah:∀ x∈ah,x<p):∀ f i r,r<cntW p ah.length f i→∀ x∈exW p ah f i r,x<p
 | 0,_,_,_,x,hx=>by cases hx
 | f+1,i,r,hr,x,hx=>by
  unfold exW at hx
  unfold cntW at hr
  by_cases h:i<ah.length
  ·rw [qz h] at hx hr
   rcases qt.1 hx with rfl | hx
   ·rw [List.getD,List.getElem?_eq_getElem h]
    exact hah _ (qf h)
   ·exact ot hp hah f (i+1) r hr x hx
  ·rw [qw h] at hx hr
   rcases qt.1 hx with rfl | hx
   ·exact zD (by rw [qP]; exact hr)
   ·exact ot hp hah f (i+1) _ (qM _ (dk hp f (i+1))) x hx
theorem yr {p:Nat}{ah:List Nat}{f i q r:Nat}(h:¬ i<ah.length)(hr:r<cntW p ah.length f (i+1)):exW p ah (f+1) i (q*cntW p ah.length f (i+1)+r)=q::exW p ah f (i+1) r:=by
 have hc:0<cntW p ah.length f (i+1):=by omega
 rw [exW,qw h]
 have e1:(q*cntW p ah.length f (i+1)+r)/cntW p ah.length f (i+1)=q:=by
  rw [qP,vx hc,xq hr,xF]
 have e2:(q*cntW p ah.length f (i+1)+r)%cntW p ah.length f (i+1)=r:=by
  rw [qP,vw,zi hr]
 rw [e1,e2]
theorem ou {p:Nat}{ah:List Nat}{f i r:Nat}(h:i<ah.length):exW p ah (f+1) i r=ah[i]::exW p ah f (i+1) r:=by
 rw [exW,qz h,List.getD,List.getElem?_eq_getElem h]; rfl
theorem pS {p a f i:Nat}(h:i<a):cntW p a (f+1) i=cntW p a f (i+1):=by rw [cntW,qz h]
theorem pR {p a f i:Nat}(h:¬ i<a):cntW p a (f+1) i=p*cntW p a f (i+1):=by rw [cntW,qw h]
theorem yH {p a:Nat}(hp:0<p):∀ f i,cntW p a f i≤p^f
 | 0,_=>by rw [jG]; exact qi _
 | f+1,i=>by
  have h:=yH (a:=a) hp f (i+1)
  unfold cntW
  rw [qV]
  split
  ·exact qe h (jC _ hp)
  ·rw [qP]; exact qR _ h
def benP (t:RTk)(l:List Nat):List RE:=(List.range l.length).flatMap λ i=>[spE (t.sp.getD i rf0),(t.ps.getD (l.getD i 0) ⟨⟨#[]⟩,⟨0,rf0,rf0⟩,0⟩).e]
def benW (t:RTk)(l:List Nat):List RE:=benP t l++[spE (t.sp.getD l.length rf0)]
def cosW (t:RTk)(l:List Nat):Int:=(l.map λ k=>(t.ps.getD k ⟨⟨#[]⟩,⟨0,rf0,rf0⟩,0⟩).c).sum
def powW (t:RTk)(l:List Nat):Rat := -(prodQ (benW t l)).c
def awaW (t:RTk)(l:List Nat):Rat:=if (powW t l-toQ t.tg).num.sign<0 then -(powW t l-toQ t.tg) else powW t l-toQ t.tg
def wayW (t:RTk)(l:List Nat):WyQ:=⟨l.map λ (k:Nat)=>(k:Int),powW t l,awaW t l,cosW t l⟩
theorem oF (t:RTk)(l:List Nat)(k:Nat):benP t (l++[k])=benP t l++[spE (t.sp.getD l.length rf0),(t.ps.getD k ⟨⟨#[]⟩,⟨0,rf0,rf0⟩,0⟩).e]:=by
 unfold benP
 rw [qB,zJ,List.range_succ,kV]
 have h1:∀ i∈List.range l.length,(λ i=>[spE (t.sp.getD i rf0),(t.ps.getD ((l++[k]).getD i 0) ⟨⟨#[]⟩,⟨0,rf0,rf0⟩,0⟩).e]) i=(λ i=>[spE (t.sp.getD i rf0),(t.ps.getD (l.getD i 0) ⟨⟨#[]⟩,⟨0,rf0,rf0⟩,0⟩).e]) i:=λ i hi=>by
  have hi':i<l.length:=jS.1 hi
  simp [List.getD,List.getElem?_append_left hi']
 rw [vo,kU h1,← vo]
 simp [List.getD]
theorem lQ (xs:List RE)(x:RE):prodQ (xs++[x])=mulQ (elM x) (prodQ xs):=by
 unfold prodQ
 rw [vh]; rfl
theorem t9 (t:RTk)(l:List Nat)(k:Nat):prodQ (benP t (l++[k]))=mulQ (elM (t.ps.getD k ⟨⟨#[]⟩,⟨0,rf0,rf0⟩,0⟩).e) (prodQ (benW t l)):=by
 rw [oF,show benP t l++[spE (t.sp.getD l.length rf0),(t.ps.getD k ⟨⟨#[]⟩,⟨0,rf0,rf0⟩,0⟩).e]=(benW t l)++[(t.ps.getD k ⟨⟨#[]⟩,⟨0,rf0,rf0⟩,0⟩).e] from by unfold benW; simp,lQ]
theorem sv (t:RTk)(l:List Nat)(k:Nat):cosW t (l++[k])=cosW t l+(t.ps.getD k ⟨⟨#[]⟩,⟨0,rf0,rf0⟩,0⟩).c:=by
 unfold cosW
 rw [zF,vz]; simp
theorem cF {n:Int}(h1 : -9223372036854775808≤n)(h2:n<9223372036854775808):Cn Tryz.prog 91 [In n] ((RFA (rfOf (Rat.divInt n 1))).va):=by
 refine Cn.intro Tryz.func91 G zk nq (λ B w0 a U=>?_)
 have U:=zn [(0,In n)] [] U
 refine qb<|zg [] [⟨2,28,ptrH,some 0,_,none⟩] [.alc 0] [.g 0] U (zY G (Str.zero aP) o0) (zz [(0,_)] [O 2 28 _] λ a w U=>?_)
 refine zt<|zg [η] [⟨3,28,ptrH,some 5,_,some (6,_)⟩] [.v 6 _,.v 7 _,.v 5 _,.v 8 _,.v 9 _,.alc 1,.sto 1,.v 4 _] [] U (zM 0 G (zQ G (ofQ_c h1 h2 zd zd zd) (.cons (vq 0 G) (.cons ab .nil)) (zv G (ai (vq 1 G)) (zv G (pd (vq 2 G)) (zv G (pc (vq 2 G)) (zY G (Str.zero aP) (zS 3 G ax (zA 4 G o0)))))))) (zz [] [O 2 28 _,O 3 28 _] λ a w U=>?_)
 refine zt<|zg [some (1,_),η] [] [.v 10 _,.sto 0] [] U (zl 1 G ax (zS 0 G ax o0)) (zz [] [O 2 28 _,O 3 28 _] λ a w U=>?_)
 refine aa<|qg<|ao ?_ (aA G U (zm 0 G) ax)
 exact aL
theorem rS (s:ByteArray){p c:Int}(h1 : -9223372036854775808≤p)(h2:p<9223372036854775808):Cn Tryz.prog 172 [(EqA (.string s)).va,In p,In c] ((PtA ⟨s,⟨2,rfOf (Rat.divInt p 1),rfOf (Rat.divInt 0 1)⟩,c⟩).va):=by
 refine Cn.intro Tryz.func172 G zk nq (λ B w0 a U=>?_)
 have U:=zn [(0,(EqA (.string s)).va),(1,In p),(2,In c)] [] U
 refine qb<|zg [] [⟨6,100,ptrH,some 0,_,none⟩] [.alc 0] [.g 0,.g 1,.g 2] U (zY G (Str.zero dz) o0) (zz [(0,_),(1,_),(2,_)] [O 6 100 _] λ a w U=>?_)
 refine zt<|zg [some (7,_)] [] [.v 7 _,.v 8 _,.v 9 _,.v 10 _,.v 11 _,.v 12 _,.v 13 _,.sto 0] [] U (zM 0 G (zM 1 G (zQ G (cF zo zo) (.o (vq 1 G)) (zQ G (cF zd zd) (.cons ab .nil) (zv G (aU (qs:=[(0,_),(1,_),(2,_)]) eR (.cons ⟨rfl,ab,rfl⟩ (.cons ⟨rfl,vq 2 rfl,rfl⟩ (.cons ⟨rfl,vq 3 rfl,rfl⟩ .nil)))) (zM 2 G (zv G (aU (qs:=[(0,_),(1,_),(2,_)]) dz (.cons ⟨rfl,vq 0 rfl,rfl⟩ (.cons ⟨rfl,vq 4 rfl,rfl⟩ (.cons ⟨rfl,vq 5 rfl,rfl⟩ .nil)))) (zS 6 G dy o0)))))))) (zz [] [O 6 100 _] λ a w U=>?_)
 refine aa<|qg<|ao ?_ (aA G U (zm 0 G) dy)
 exact aL
theorem fH:Str Tryz.prog 30 [EqA (.slice none 0 0),EqA (.slice none 0 0),RFA rf0] :=
 Str.of (z:=.agg #[.slice none 0 0,.slice none 0 0,.bool false,.slice none 0 0,.bool false,.slice none 0 0]) zk Tryz.underlying30 zk λ B w=>⟨[[.slice none 0 0],[.slice none 0 0],[.bool false,.slice none 0 0,.bool false,.slice none 0 0]],rfl,.cons ⟨rfl,rfl⟩ (.cons ⟨rfl,rfl⟩ (.cons (dX B w) .nil))⟩
def frI (n:Int):RF:=rfOf (Rat.divInt n 1)
def lnT (s:ByteArray)(p c:Int):RPt:=⟨s,⟨2,frI p,frI 0⟩,c⟩
def twoT (n:Int):RTk:=⟨[frI 0,frI 1,frI 0],[lnT ⟨#[97]⟩ 1 5,lnT ⟨#[98]⟩ 2 3],frI n⟩
theorem wS {R:Rg}{B i:Nat}{s:ByteArray}:Has R B w0 i (.const (.string s)) (EqA (.string s)).va:=λ _ _ _=>rf rfl
theorem u7 {n:Int}(h1 : -9223372036854775808≤n)(h2:n<9223372036854775808):Cn Tryz.prog 90 [In n] ((TkA (twoT n)).va):=by
 refine Cn.intro Tryz.func90 G zk nq (λ B w0 a U=>?_)
 have U:=zn [(0,In n)] [] U
 refine qb<|zg [] [⟨2,30,ptrH,some 0,_,none⟩] [.alc 0] [.g 0] U (zY G (Str.zero fH) o0) (zz [(0,_)] [O 2 30 _] λ a w U=>?_)
 refine zt<|zg [some (10,_)] [] [.v 3 _,.v 4 _,.v 5 _,.v 6 _,.v 7 _,.v 8 _,.v 9 _,.v 10 _,.v 11 _,.v 12 _,.sto 0] [] U (zQ G (cF (n:=0) zd zd) (.cons ab .nil) (zQ G (cF (n:=1) zd zd) (.cons ab .nil) (zQ G (cF (n:=0) zd zd) (.cons ab .nil) (zv G (bJ (D:=[U32]) (l:=[_,_,_]) (xs:=[.tmp 3,.tmp 4,.tmp 5]) (cT zk) cO zk (n_ok zk) nq nq nq (.cons (vq 0 G) (.p (vq 1 G) (vq 2 G))) G G) (zv G (be (xs:=[.const (.string ⟨#[97]⟩),.const (.int .i64 1),.const (.int .i64 5)]) (rS ⟨#[97]⟩ (p:=1) (c:=5) zd zd) (.cons wS (.cons ab (.cons ab .nil)))) (zv G (be (xs:=[.const (.string ⟨#[98]⟩),.const (.int .i64 2),.const (.int .i64 3)]) (rS ⟨#[98]⟩ (p:=2) (c:=3) zd zd) (.cons wS (.cons ab (.cons ab .nil)))) (zv G (bJ (D:=[U32]) (l:=[_,_]) (xs:=[.tmp 7,.tmp 8]) (cT zk) ey zk (n_ok zk) nq nq nq (.p (vq 4 G) (vq 5 G)) G G) (zM 0 G (zQ G (cF h1 h2) (.o (vq 7 G)) (zv G (aU (qs:=[(0,_),(1,_),(2,_)]) fH (.cons ⟨rfl,vq 3 rfl,rfl⟩ (.cons ⟨rfl,vq 6 rfl,rfl⟩ (.cons ⟨rfl,vq 8 rfl,rfl⟩ .nil)))) (zS 9 G cN o0))))))))))) (zz [] [O 2 30 _] λ a w U=>?_)
 refine aa<|qg<|ao ?_ (aA G U (zm 0 G) cN)
 exact aL
def Nmd (Γ:List (Nat × VA)):List (Nat × Nat)→List Nat→Prop
 | [],[]=>True
 | p::ps,k::ks=>Γ[k]?=some (p.1,EqV (ptr p.2))∧Nmd Γ ps ks
 | _,_=>False
section
variable {P:Program} {R:Rg} {Q:Exit→Act→World→Prop} {B i:Nat} {w0:Bs}
inductive Nmo (R:Rg) (B:Nat) (w0:Bs) (i:Nat):List (Nat × Nat)→Prop
 | nil:Nmo R B w0 i []
 | cons {s g T:Nat} {A:As} {l:List (Nat × Nat)}:Has R B w0 i (.tmp s) (EqV (ptr g))→Loc R i s T A→Nmo R B w0 i l→Nmo R B w0 i ((s,g)::l)
theorem Nmo.lt {l:List (Nat × Nat)}(h:Nmo R B w0 i l)(av:R.Av B w0 i a w):∀ p∈l,p.2<w.heap.size:=by
 induction h with
 | nil=>intro p hp; cases hp
 | cons h1 h2 _ ih =>
  intro p hp
  rcases qt.1 hp with rfl | hp
  ·obtain ⟨g,cs,e1,_,e3,_⟩:=h2.ok av
   have e2:=h1 a w av
   have e2':a.eval (.tmp _)=ptr _:=e2
   rw [e2'] at e1
   have:ptr _=ptr g:=e1
   injection this with this
   injection this with this
   injection this with this
   rw [this]
   exact (Array.getElem?_eq_some_iff.1 e3).1
  ·exact ih p hp
theorem Gj {x:Operand}(h:v.oneCell'=true)(h1:Has R B w0 i x (EqV v)):Has R B w0 i x (EqA v).va:=λ a w av=>by
 have e:a.eval x=v:=h1 a w av
 rw [e]
 exact rf h
end
def prvB (lo hi:Nat)(Tp:List TypeId)(gs:List Nat)(W:World):Bs:=⟨W,λ k=>k∈gs∨(lo≤k∧k<hi∧∃ c T fz,W.heap[k]?=some (.cells c T fz)∧T∈Tp),true⟩
abbrev StpV (lo hi:Nat)(Tp:List TypeId)(gs:List Nat)(W W':World):Prop:=Kept (prvB lo hi Tp gs W) W'
def StV (lo hi:Nat)(Tp Tc:List TypeId)(A:VA):Prop:=∀ (B:Nat) (v:Value) (gs:List Nat) (W W':World),B≤lo→A.p B v W→StpV lo hi Tp gs W W'→CellsT Tc gs W→(∀ g∈gs,B≤g)→A.p B v W'
def StVA (lo hi:Nat)(Tp Tc:List TypeId)(A:As):Prop:=∀ (B:Nat) (cs:List Value) (gs:List Nat) (W W':World),B≤lo→A.p B cs W→StpV lo hi Tp gs W W'→CellsT Tc gs W→(∀ g∈gs,B≤g)→A.p B cs W'
theorem EC {lo hi:Nat}{Tp Tc:List TypeId}{A:VA}(h:offD (Tc++Tp) A.deps=true):StV lo hi Tp Tc A:=λ B v gs W W' hlo hp hs hc hb=>by
 have hD:=eB h
 refine VA.many (gs++(List.range W.heap.size).filter λ k=>match (W.heap[k]?:Option Obj) with | some (Obj.cells _ T _)=>Tp.contains T&&decide (lo≤k) | _=>false) hp hs.os hs.tape hs.output hs.size (λ k c T fz hk hn=>?_) (λ g hg=>?_)
 ·refine hs.block k (Array.getElem?_eq_some_iff.1 hk).1 λ hF=>hn ?_
  rcases hF with hF | ⟨h1,h2,c',T',fz',h3,h4⟩
  ·exact qo.2 (.inl hF)
  ·have h3':W.heap[k]?=_:=h3
   refine qo.2 (.inr (zE.2 ⟨by simpa using (Array.getElem?_eq_some_iff.1 hk).1,?_⟩))
   rw [h3']
   simp only [ql,qx,qH]
   exact ⟨h4,h1⟩
 ·rcases qo.1 hg with hg | hg
  ·obtain ⟨c,T,fz,h1,h2⟩:=hc g hg
   exact ⟨hb g hg,c,T,fz,h1,hD T (qo.2 (.inl h2))⟩
  ·obtain ⟨_,h2⟩:=zE.1 hg
   split at h2
   ·rename_i c T fz h3
    simp only [ql,qx,qH] at h2
    exact ⟨qe hlo h2.2,c,T,fz,h3,hD T (qo.2 (.inr h2.1))⟩
   ·cases h2
theorem dA {lo hi:Nat}{Tp Tc:List TypeId}{A:As}(h:offD (Tc++Tp) A.deps=true):StVA lo hi Tp Tc A:=λ B cs gs W W' hlo hp hs hc hb=>EC (A:=As.vaC A cs) h B undef gs W W' hlo hp hs hc hb
theorem CZ {lo:Nat}{Tp:List TypeId}{gs:List Nat}{W W':World}(h:StpI gs W W'):StpV lo lo Tp gs W W':=⟨h.os,h.tape,h.output,h.size,λ k hk hf=>h.block k hk λ hF=>hf (.inl hF)⟩
def StG (lo0:Nat)(Tp Tc:List TypeId)(gb:List Nat)(A:VA):Prop:=∀ (B:Nat) (v:Value) (lo hi:Nat) (W W':World),B≤lo→lo0≤lo→A.p B v W→StpV lo hi Tp gb W W'→CellsT Tc gb W→(∀ g∈gb,B≤g)→A.p B v W'
def StGL (lo0:Nat)(Tp Tc:List TypeId)(gb:List Nat):List (Nat × VA)→Prop
 | []=>True
 | x::l=>StG lo0 Tp Tc gb x.2∧StGL lo0 Tp Tc gb l
theorem StGL.all {lo0:Nat}{Tp Tc:List TypeId}{gb:List Nat}:∀ {l:List (Nat × VA)},StGL lo0 Tp Tc gb l→∀ x∈l,StG lo0 Tp Tc gb x.2
 | _::_,h,x,hx=>by
  rcases qt.1 hx with rfl | hx
  ·exact h.1
  ·exact StGL.all h.2 x hx
theorem StpV.noncell {lo hi:Nat}{Tp Tc:List TypeId}{gs:List Nat}{W W':World}(h:StpV lo hi Tp gs W W')(hc:CellsT Tc gs W){k:Nat}{o:Obj}(hk:W.heap[k]?=some o)(ho:o.isCells=false):W'.heap[k]?=some o :=
 (h.block k (Array.getElem?_eq_some_iff.1 hk).1 (λ hF=>by
  rcases hF with hF | ⟨_,_,c,T,fz,h1,_⟩
  ·obtain ⟨c,T,fz,h1,_⟩:=hc k hF
   rw [h1] at hk
   injection hk with hk
   subst hk
   cases ho
  ·have h1':W.heap[k]?=_:=h1
   rw [h1'] at hk
   injection hk with hk
   subst hk
   cases ho)).trans hk
theorem St.stpV {B N:Nat}{W W':World}{gs:List Nat}{Tp Tc:List TypeId}{lo hi:Nat}(h:St B w0 N Γ Λ a W)(hB:B=w0.w.heap.size)(hlo:B≤lo)(hs:StpV lo hi Tp gs W W')(hc:CellsT Tc gs W)(hb:∀ g∈gs,B≤g)(hΓ:∀ x∈Γ,x.2.p B (a.eval (.tmp x.1)) W→x.2.p B (a.eval (.tmp x.1)) W')(hΛ:∀ l∈Λ,∀ cs,l.A.p B cs W→l.A.p B cs W')
  (hdis:∀ l∈Λ,∀ g,blk (a.eval (.tmp l.s))=some g→g ∉ gs) (hlt:∀ l∈Λ,∀ g,blk (a.eval (.tmp l.s))=some g→g<lo):St B w0 N Γ Λ a W':=by
 refine ⟨h.lo,h.defers.keep rfl λ Dm hD=>hs.noncell hc hD rfl,h.size,⟨hs.os.trans h.base.os,hs.tape.trans h.base.tape,hs.output.trans h.base.output,qe h.base.size hs.size,λ k hk hf=>(hs.block k (qE hk h.base.size) (λ hF=>by
   rcases hF with hF | ⟨h1,_⟩
   ·have:=hb k hF; omega
   ·omega)).trans (h.base.block k hk hf)⟩,
  λ x hx=>hΓ x hx (h.vals x hx),λ l hl=>?_,h.dis⟩
 obtain ⟨g,cs,e1,e2,e3,e4⟩:=h.locs l hl
 exact ⟨g,cs,e1,e2,(hs.block g (Array.getElem?_eq_some_iff.1 e3).1 (λ hF=>by
  have hbk:blk (a.eval (.tmp l.s))=some g:=by rw [e1]; exact l.H.ok g
  rcases hF with hF | ⟨h1,_⟩
  ·exact hdis l hl g hbk hF
  ·have:=hlt l hl g hbk; omega)).trans e3,hΛ l hl _ e4⟩
structure ItHp (P:Program) (l B:Nat) (Db Tc Tp:List TypeId) (gs:List Nat) (Y:Nat→List VA) (inf:Bool) (M lo:Nat) (J0:World→Prop) (J:Nat→Nat→World→Prop) (Jx:World→Prop):Prop where
 inf':inf=true→∀ hi W,¬ J hi M W
 st0:∀ W W',J0 W→StpI gs W W'→CellsT Tc gs W'→J0 W'
 go:∀ hi W,hi≤W.heap.size→J0 W→J hi 0 W
 st:∀ hi k W W',k<M→J hi k W→StpV lo hi Tp gs W W'→CellsT Tc gs W'→J hi k W'
 stM:∀ hi W W',J hi M W→StpI gs W W'→CellsT Tc gs W'→J hi M W'
 stx:∀ W W',Jx W→StpI gs W W'→CellsT Tc gs W'→Jx W'
 ct0:∀ W,J0 W→CellsT Tc gs W
 ct:∀ hi k W,J hi k W→CellsT Tc gs W
 ctx:∀ W,Jx W→CellsT Tc gs W
 yd:∀ hi k W args,k<M→J hi k W→All2 (λ (A:VA) v=>A.p B v W) (Y k) args→YieldAt Fence.wide 0 P l args.toArray W λ e W'=>(e=.returned (.bool true)∧J hi (k+1) W'∧Stp B Db (gs++List.range' lo (hi-lo)) W W') ∨
  (e=.returned (.bool false)∧Jx W'∧W.heap.size≤W'.heap.size∧∀ D:Nat,W.heap[D]?=some (.deferred (some []))→W'.heap[D]?=some (.deferred (some [])))
def ItPg (P:Program)(f:FuncId)(caps:List (TypeId × As))(gs:List Nat)(Y:Nat→List VA)(inf:Bool)(M:Nat)(Dd Tp:List TypeId):Prop :=
 (∃ fn, P.funcs[f]? = some fn ∧ (fn.name == "runtime.NumGoroutine") = false ∧ fn.body.isNone = false) ∧
 ∀ (l B:Nat) (w:World) (Db:List TypeId) (J0:World→Prop) (J:Nat→Nat→World→Prop) (Jx:World→Prop),B≤w.heap.size→gs.Nodup→CapsOk B w caps gs→offD Db Dd=true→ItHp P l B Db (caps.map zP) Tp gs Y inf M w.heap.size J0 J Jx→J0 w →
  Calls P f (.func (.yield l) #[] #[]::gs.map ptr).toArray w λ e W'=>∃ v,e=.returned v∧((∃ hi,J hi M W')∨Jx W')
section
variable {P:Program} {Q:Exit→Act→World→Prop} {B N:Nat} {w0:Bs} {Γ:List (Nat × VA)} {a:Act} {w:World}
theorem od {gs k0:Nat}{ps:List Nat}{assign body:Code}(Λ0:List Lc)(Λ:Nat→Nat→List Lc)(Λr:Option (List Lc))(Λx:Nat→Option (List Lc)){f:FuncId}{caps:List (TypeId × As)}{gb:List Nat}{Y:Nat→List VA}{inf:Bool}{M:Nat}{Dd Db Tp:List TypeId}
  (h:St B w0 N Γ Λ0 a w) (hB:B=w0.w.heap.size) (hN0:w0.nd=false) (hk0:Γ[k0]?=some (gs,ItV f caps gb)) (hit:ItPg P f caps gb Y inf M Dd Tp) (hM:inf=true→0<M) (hDd:offD Db Dd=true)
  (ks:List Nat) (hΓ:ks.all (λ k=>match Γ[k]? with | some x=>offD Db x.2.deps && !ps.contains x.1 | none=>false)=true) (hΓs:StGL w.heap.size Tp (caps.map zP) gb (ks.filterMap λ k=>Γ[k]?))
  (hΛ:∀ hi k,(Λ hi k).all (λ l => !ps.contains l.s&&Db.contains l.T)=true) (hΛs:∀ lo hi k,k<M→B≤lo→w.heap.size≤lo→∀ l∈Λ hi k,StVA lo hi Tp (caps.map zP) l.A) (hΛM:∀ hi,(Λ hi M).all (λ l=>offD (caps.map zP) l.A.deps)=true) (hΛ0:Λ0.all (λ l=>offD (caps.map zP) l.A.deps)=true) (sl:List Nat) (hsl:∀ hi k,(Λ hi k).all (λ l=>sl.contains l.s)=true) (hsl0:Λ0.all (λ l=>sl.contains l.s)=true) (hsl1:sl.all (λ s=>Λ0.any λ l=>l.s==s)=true) (hdis:∀ s∈sl,∀ g,blk (a.eval (.tmp s))=some g→g ∉ gb)
  (hΛr:∀ L,Λr=some L→L.all (λ l=>offD (caps.map zP) l.A.deps&&sl.contains l.s)=true) (hΛx:∀ id L,Λx id=some L→L.all (λ l=>offD (caps.map zP) l.A.deps&&sl.contains l.s)=true)
  (hps:∀ k,(Y k).length=ps.length) (hnd:ps.Nodup) (hpN:ps.all (λ p=>p<N)=true)
  (hgo:∀ hi Γ a W,hi≤W.heap.size→St B w0 N Γ Λ0 a W→St B w0 N Γ (Λ hi 0) a W) (hM0:0<M)
  (hround:∀ l lo hi k a1 Ws,k<M→B≤lo→w.heap.size≤lo→hi≤Ws.heap.size→B≤Ws.heap.size→CellsT (caps.map zP) gb Ws→St B (rndB B Db (gb++List.range' lo (hi-lo)) Ws Ws) N (ks.filterMap (λ k=>Γ[k]?)++(ps.zip (Y k)++(Λ hi k).map λ l=>(l.s,EqV (a.eval (.tmp l.s))))) (Λ hi k) a1 Ws →
   assign.wpIn (fw (some l)) 0 P (Exit.then (λ a2 W2=>Kept (rndB B Db (gb++List.range' lo (hi-lo)) Ws Ws) W2∧∀ W3,Bg l W2 W3→body.wpIn (fw (some l)) 0 P (rPost B N (rndB B Db (gb++List.range' lo (hi-lo)) Ws W3) a (inf=true→k+1<M) (Λ hi (k+1)) Λr Λx) a2 W3) (λ _ _ _=>False)) a1 Ws)
  (hdone:∀ hi a' W,St B w0 N (ks.filterMap (λ k=>Γ[k]?)) (Λ hi M) a' W→Q .normal a' W) (hret:∀ L,Λr=some L→∀ a' W,St B w0 N (ks.filterMap (λ k=>Γ[k]?)) L a' W→Q .ret a' W) (hexit:∀ id L,Λx id=some L→∀ a' W,St B w0 N (ks.filterMap (λ k=>Γ[k]?)) L a' W→Q (.exit id) a' W) :
  (Code.rangeFunc (.tmp gs) ps.toArray assign body).wp P Q a w:=by
 refine (wpIn_wide (n:=0)).1 (wpIn_rangeFunc ?_)
 intro fn hfn
 obtain ⟨⟨ff,hf,hn,hb⟩,hcall⟩:=hit
 obtain ⟨hev,hgn,hcaps⟩:=h.vals _ (qa hk0)
 have hev':a.eval (.tmp gs)=.func (.func f) #[] (gb.map ptr).toArray:=hev
 obtain ⟨hct,hcb⟩:=dR hcaps
 replace h:=h.sel ks
 obtain ⟨Γ,hΓe⟩:∃ Γ',ks.filterMap (λ k=>Γ[k]?)=Γ':=⟨_,rfl⟩
 rw [hΓe] at h hΓs hround hdone hret hexit
 replace hΓ:∀ x∈Γ,(offD Db x.2.deps && !ps.contains x.1)=true:=λ x hx=>by
  rw [← hΓe] at hx
  obtain ⟨k,hk1,hk2⟩:=qQ.1 hx
  have:=qd.1 hΓ k hk1
  rwa [hk2] at this
 clear hΓe
 obtain ⟨rec,hrec⟩:∃ rec:LoopState→Option Code→Loop,rec=λ st pe=>{ state:=st,pending:=pe,fn,tmps:=a.tmps,params:=ps.toArray,assign,body,defers:=w.heap.size }:=⟨_,rfl⟩
 obtain ⟨W1,hW1⟩:∃ W1,(w.alloc (.deferred (some []))).alloc (.loop (rec .ready none))=W1:=⟨_,rfl⟩
 have hgr:Grow w W1:=by rw [← hW1]; exact (Grow.alloc _ _).trans (Grow.alloc _ _)
 have hL1:W1.heap[w.heap.size+1]?=some (.loop (rec .ready none)):=by
  rw [← hW1]; have:=World.alloc_heap_new (w.alloc (.deferred (some []))) (.loop (rec .ready none)); rwa [World.size_alloc] at this
 have hK1:W1.heap[w.heap.size]?=some (.deferred (some [])):=by
  rw [← hW1]; exact (Below.heap_alloc _ _ _ (by simp)).trans (World.alloc_heap_new w _)
 have hws:w0.w.heap.size≤w.heap.size:=h.base.size
 have h1:St B w0 N Γ Λ0 a W1:=⟨h.lo,h.defers.grow hgr rfl,h.size,h.base.grow hgr,λ x hx=>x.2.grow _ _ _ _ hgr (h.vals x hx),λ l hl=>(h.locs l hl).grow hgr,h.dis⟩
 have hΓ':∀ x∈Γ,True∧offD Db x.2.deps=true∧x.1 ∉ ps:=λ x hx=>by
  have:=hΓ x hx
  simp only [ql,qv,qx,qk] at this
  exact ⟨trivial,this.1,this.2⟩
 have hΓg:=StGL.all hΓs
 have hΛ':∀ hi k,∀ l∈Λ hi k,True∧l.s ∉ ps∧l.T∈Db:=λ hi k l hl=>by
  have:=qd.1 (hΛ hi k) l hl
  simp only [ql,qv,qx,qk,qH] at this
  exact ⟨trivial,this.1,this.2⟩
 have hlo:B≤W1.heap.size:=by have:=hgr.size; omega
 have hlt:∀ s∈sl,∀ g,blk (a.eval (.tmp s))=some g→g<W1.heap.size:=λ s hs g hg=>by
  obtain ⟨l,hl,e⟩:=xQ.1 (qd.1 hsl1 s hs)
  obtain ⟨g',cs,e1,e2,e3,_⟩:=h1.locs l hl
  have e':l.s=s:=by simpa using e
  rw [← e',e1,l.H.ok] at hg
  injection hg with hg
  subst hg
  exact (Array.getElem?_eq_some_iff.1 e3).1
 have stp:∀ {L:List Lc} {W W':World},L.all (λ l=>offD (caps.map zP) l.A.deps&&sl.contains l.s)=true→St B w0 N Γ L a W→CellsT (caps.map zP) gb W→StpI gb W W'→St B w0 N Γ L a W':=λ {L W W'} hL hs hc hk=>by
  have hL':∀ l∈L,offD (caps.map zP) l.A.deps=true∧l.s∈sl:=λ l hl=>by
   have:=qd.1 hL l hl
   simpa using this
  exact St.stpV (lo:=W1.heap.size) (hi:=W1.heap.size) (Tp:=Tp) hs hB hlo (CZ hk) hc hcb (λ x hx hp=>hΓg x hx _ _ _ _ _ _ hlo hgr.size hp (CZ hk) hc hcb) (λ l hl cs hp=>As.stpI hp hk hc hcb (eB (hL' l hl).1)) (λ l hl g hg=>hdis l.s (hL' l hl).2 g hg) λ l hl g hg=>hlt l.s (hL' l hl).2 g hg
 have and2:∀ {L:List Lc},L.all (λ l=>offD (caps.map zP) l.A.deps)=true→L.all (λ l=>sl.contains l.s)=true→L.all (λ l=>offD (caps.map zP) l.A.deps&&sl.contains l.s)=true:=λ {L} h1 h2=>qd.2 λ l hl=>by
  rw [qd.1 h1 l hl,qd.1 h2 l hl]
  rfl
 have stpv:∀ {hi k:Nat} {W W':World},k<M→St B w0 N Γ (Λ hi k) a W→CellsT (caps.map zP) gb W→StpV W1.heap.size hi Tp gb W W'→St B w0 N Γ (Λ hi k) a W':=λ {hi k W W'} hk hs hc hv =>
  St.stpV hs hB hlo hv hc hcb (λ x hx hp=>hΓg x hx _ _ _ _ _ _ hlo hgr.size hp hv hc hcb) (λ l hl cs hp=>hΛs _ hi k hk hlo hgr.size l hl _ _ _ _ _ hlo hp hv hc hcb) (λ l hl g hg=>hdis l.s (by have:=qd.1 (hsl hi k) l hl; simpa using this) g hg) λ l hl g hg=>hlt l.s (by have:=qd.1 (hsl hi k) l hl; simpa using this) g hg
 have back:∀ {L:List Lc} {Ws W3 W:World} {a':Act} (hi k:Nat) (r:Loop) (st:LoopState) (pe:Option Code),St B w0 N Γ (Λ hi k) a Ws→Ws.heap[w.heap.size+1]?=some (.loop (rec .ready none))→Ws.heap[w.heap.size]?=some (.deferred (some [])) →
   (∀ j,j<Ws.heap.size→j≠w.heap.size+1→¬ (rndB B Db (gb++List.range' W1.heap.size (hi-W1.heap.size)) Ws W3).F j→W3.heap[j]?=Ws.heap[j]?)→Ws.heap.size≤W3.heap.size→W3.os=Ws.os∧W3.tape=Ws.tape∧W3.output=Ws.output→W3.heap[w.heap.size+1]?=some (.loop r)→REnd B N (rndB B Db (gb++List.range' W1.heap.size (hi-W1.heap.size)) Ws W3) a L a' W →
   W.heap[w.heap.size+1]?=some (.loop r)∧St B w0 N Γ L a (W.putObj (w.heap.size+1) (.loop (rec st pe)))∧(W.putObj (w.heap.size+1) (.loop (rec st pe))).heap[w.heap.size+1]?=some (.loop (rec st pe)) ∧
    (W.putObj (w.heap.size+1) (.loop (rec st pe))).heap[w.heap.size]?=some (.deferred (some []))∧(st=.ready→pe=none→Stp B Db (gb++List.range' W1.heap.size (hi-W1.heap.size)) Ws (W.putObj (w.heap.size+1) (.loop (rec st pe))))∧(∀ g∈gb,g<Ws.heap.size→g≠w.heap.size+1→(W.putObj (w.heap.size+1) (.loop (rec st pe))).heap[g]?=Ws.heap[g]?)∧Ws.heap.size≤(W.putObj (w.heap.size+1) (.loop (rec st pe))).heap.size∧∀ D:Nat,Ws.heap[D]?=some (.deferred (some []))→(W.putObj (w.heap.size+1) (.loop (rec st pe))).heap[D]?=some (.deferred (some [])):=by
  rintro L Ws W3 W a' hi k r st pe hs hl hd hc0 hsz ho hl3 ⟨Γ3,h3,heq⟩
  have hnF:∀ {j:Nat} {o:Obj},Ws.heap[j]?=some o→o.isCells=false→¬ (rndB B Db (gb++List.range' W1.heap.size (hi-W1.heap.size)) Ws W3).F j:=λ {j o} hj ho hF=>by
   rcases hF.2 with h4 | ⟨_,c,T,fz,h4,_⟩
   ·have:=(Array.getElem?_eq_some_iff.1 hj).1; omega
   ·rw [hj] at h4; injection h4 with h4; subst h4; cases ho
  have hlt1:=(Array.getElem?_eq_some_iff.1 hl).1
  have hWl:W.heap[w.heap.size+1]?=some (.loop r):=(h3.base.block _ (by show _<W3.heap.size; omega) (hnF hl rfl)).trans hl3
  have hlt2:=(Array.getElem?_eq_some_iff.1 hWl).1
  have hnew:=World.putObj_heap_same (w:=W) (o:=.loop (rec st pe)) hlt2
  have hblk:∀ j,j<Ws.heap.size→j≠w.heap.size+1→¬ (rndB B Db (gb++List.range' W1.heap.size (hi-W1.heap.size)) Ws W3).F j→(W.putObj (w.heap.size+1) (.loop (rec st pe))).heap[j]?=Ws.heap[j]?:=λ j hj hne hF =>
   (World.putObj_heap_other hne).trans ((h3.base.block j (by show _<W3.heap.size; omega) hF).trans (hc0 j hj hne hF))
  have hD':(W.putObj (w.heap.size+1) (.loop (rec st pe))).heap[w.heap.size]?=some (.deferred (some [])):=(hblk _ (Array.getElem?_eq_some_iff.1 hd).1 zo (hnF hd rfl)).trans hd
  have hsz3:W3.heap.size≤W.heap.size:=h3.base.size
  have hcg:=wC hWl (.loop (rec st pe))
  have hDk:∀ D:Nat,Ws.heap[D]?=some (.deferred (some []))→(W.putObj (w.heap.size+1) (.loop (rec st pe))).heap[D]?=some (.deferred (some [])):=λ D hDd=>by
   have hne:D≠w.heap.size+1:=λ e=>by rw [e,hl] at hDd; cases hDd
   exact (hblk D (Array.getElem?_eq_some_iff.1 hDd).1 hne (hnF hDd G)).trans hDd
  refine ⟨hWl,⟨h.lo,hs.defers.keep rfl λ D hDd=>?_,hs.size,?_,λ x hx=>?_,λ m hm=>?_,λ m hm m' hm' hne=>?_⟩,hnew,hD',λ e1 e2=>?_,λ g hg hlt hne=>hblk g hlt hne (λ hF=>by rcases hF.2 with h4 | h4; omega; exact h4.1 (qo.2 (.inl hg))),by rw [World.putObj_size]; omega,hDk⟩
  ·exact hDk D hDd
  ·refine ⟨(h3.base.os.trans ho.1).trans hs.base.os,(h3.base.tape.trans ho.2.1).trans hs.base.tape,(h3.base.output.trans ho.2.2).trans hs.base.output,?_,λ j hj hf=>?_⟩
   ·have:=hs.base.size
    rw [World.putObj_size]
    omega
   ·have hjs:j<Ws.heap.size:=qE hj hs.base.size
    exact (hblk j hjs zo (λ hF=>by have:=hF.1; omega)).trans (hs.base.block j hj hf)
  ·
   have hb:=(hΓ' x hx).2.1
   refine VA.many ((List.range Ws.heap.size).filter λ j=>match Ws.heap[j]? with | some (.cells _ T _)=>Db.contains T&&decide (B≤j) | _=>false) (hs.vals x hx) (h3.base.os.trans ho.1) (h3.base.tape.trans ho.2.1) (h3.base.output.trans ho.2.2) (by rw [World.putObj_size]; omega) (λ j c T fz hj hn=>?_) (λ g hg=>?_)
   ·refine hblk j (Array.getElem?_eq_some_iff.1 hj).1 (λ e=>by rw [e,hl] at hj; cases hj) λ hF=>hn (zE.2 ⟨by simpa using (Array.getElem?_eq_some_iff.1 hj).1,?_⟩)
    rcases hF.2 with h4 | ⟨_,c',T',fz',hc,hD''⟩
    ·have:=(Array.getElem?_eq_some_iff.1 hj).1; omega
    ·rw [hj] at hc
     injection hc with hc
     injection hc with _ hc _
     subst hc
     rw [hj]
     simp only [ql,qx,qH]
     exact ⟨hD'',hF.1⟩
   ·obtain ⟨_,h2⟩:=zE.1 hg
    split at h2
    ·rename_i c T fz hc
     simp only [ql,qx,qH] at h2
     exact ⟨h2.2,c,T,fz,hc,eB hb T h2.1⟩
    ·cases h2
  ·obtain ⟨g,cs,e1,e2,e3,e4⟩:=h3.locs m hm
   refine ⟨g,cs,(heq m hm).symm.trans e1,.inl ?_,hcg.heap e3,m.A.cg _ _ _ _ hcg e4⟩
   have:=h3.lo g e2
   omega
  ·rw [← heq m hm,← heq m' hm']
   exact h3.dis m hm m' hm' hne
  ·subst e1 e2
   refine ⟨h3.base.os.trans ho.1,h3.base.tape.trans ho.2.1,h3.base.output.trans ho.2.2,by rw [World.putObj_size]; show Ws.heap.size≤_; omega,λ j hj hF=>?_⟩
   have hj':j<Ws.heap.size:=hj
   by_cases e:j=w.heap.size+1
   ·subst e
    show _=Ws.heap[w.heap.size+1]?
    rw [hnew,hl]
   ·exact hblk j hj' e hF
 refine ⟨w.heap.size+1,[mark w.heap.size],W1,{ target:=.fn (.func f) (gb.map ptr).toArray,args := #[.func (.yield (w.heap.size+1)) #[] #[]] },W1,f,
  #[.func (.yield (w.heap.size+1)) #[] #[]]++(gb.map ptr).toArray,W1,?_,?_,λ _ _=>trivial,?_,(λ hh=>by cases hh),?_⟩
 ·rw [← hW1,hrec]; exact run_enterLoop_outer _ _ _ _ _
 ·simp only [resolve,hev']
  simp [go_sem]
 ·simp [invoke,bk hf hn hb]
 ·refine callsIn_wide.2 ?_
  have hargs:(#[.func (.yield (w.heap.size+1)) #[] #[]]++(gb.map ptr).toArray:Array Value)=(.func (.yield (w.heap.size+1)) #[] #[]::gb.map ptr).toArray:=by simp
  rw [hargs]
  have hcaps1:CapsOk B W1 caps gb:=hcaps.mono λ c g ⟨h3,cs,h4,h5⟩=>⟨h3,cs,hgr.heap h4,c.2.grow _ _ _ _ hgr h5⟩
  have hgl:∀ g∈gb,g≠w.heap.size+1:=λ g hg=>by
   obtain ⟨c,T,fz,h1,_⟩:=hct g hg
   have:=(Array.getElem?_eq_some_iff.1 h1).1
   omega
  refine (hcall (w.heap.size+1) B W1 Db
   (λ W=>(St B w0 N Γ Λ0 a W∧W.heap[w.heap.size+1]?=some (.loop (rec .ready none))∧W.heap[w.heap.size]?=some (.deferred (some [])))∧CellsT (caps.map zP) gb W)
   (λ hi k W=>((St B w0 N Γ (Λ hi k) a W∧W.heap[w.heap.size+1]?=some (.loop (rec .ready none))∧W.heap[w.heap.size]?=some (.deferred (some [])))∧(inf=true→k<M)∧hi≤W.heap.size)∧CellsT (caps.map zP) gb W)
   (λ W=>(∃ c,((c=.ret∧∃ L,Λr=some L∧St B w0 N Γ L a W)∨(∃ id L,c=.exit id∧Λx id=some L∧St B w0 N Γ L a W))∧W.heap[w.heap.size+1]?=some (.loop (rec .done (some c)))∧W.heap[w.heap.size]?=some (.deferred (some [])))∧CellsT (caps.map zP) gb W)
   (by have:=hgr.size; omega) hgn hcaps1 hDd ⟨λ hi2 hi W hJ=>absurd (hJ.1.2.1 hi2) (Nat.lt_irrefl M),?_,?_,?_,?_,?_,λ W hJ=>hJ.2,λ hi k W hJ=>hJ.2,λ W hJ=>hJ.2,?_⟩ ⟨⟨h1,hL1,hK1⟩,(dR hcaps1).1⟩).mono ?_
  ·rintro W W' ⟨⟨hs,hl,hd⟩,hcc⟩ hk hcc'
   exact ⟨⟨stp (and2 hΛ0 hsl0) hs hcc hk,hk.noncell hcc hl rfl,hk.noncell hcc hd rfl⟩,hcc'⟩
  ·rintro hi W hhi ⟨⟨hs,hl,hd⟩,hcc⟩
   exact ⟨⟨⟨hgo hi _ _ _ hhi hs,hl,hd⟩,(λ _=>hM0),hhi⟩,hcc⟩
  ·rintro hi k W W' hkM ⟨⟨⟨hs,hl,hd⟩,hc,hhi⟩,hcc⟩ hk hcc'
   exact ⟨⟨⟨stpv hkM hs hcc hk,hk.noncell hcc hl rfl,hk.noncell hcc hd rfl⟩,hc,qe hhi hk.size⟩,hcc'⟩
  ·rintro hi W W' ⟨⟨⟨hs,hl,hd⟩,hc,hhi⟩,hcc⟩ hk hcc'
   exact ⟨⟨⟨stp (and2 (hΛM hi) (hsl hi M)) hs hcc hk,hk.noncell hcc hl rfl,hk.noncell hcc hd rfl⟩,hc,qe hhi hk.size⟩,hcc'⟩
  ·rintro W W' ⟨⟨c,hc,hl,hd⟩,hcc⟩ hk hcc'
   refine ⟨⟨c,?_,hk.noncell hcc hl rfl,hk.noncell hcc hd rfl⟩,hcc'⟩
   rcases hc with ⟨e,L,hL,hs⟩ | ⟨id,L,e,hL,hs⟩
   ·exact .inl ⟨e,L,hL,stp (hΛr L hL) hs hcc hk⟩
   ·exact .inr ⟨id,L,e,hL,stp (hΛx id L hL) hs hcc hk⟩
  ·rintro hi k W args hkM ⟨⟨⟨hs,hl,hd⟩,hc,hhi⟩,hcc⟩ hargs'
   have hla:args.length=ps.length:=by rw [← hargs'.length,hps k]
   have hy:=run_yield (P:=P) (args:=args.toArray) hl (by rw [hrec]; simpa using hla)
   rw [hrec] at hy
   have hlt':=hlt
   have hlt:w.heap.size+1<W.heap.size:=(Array.getElem?_eq_some_iff.1 hl).1
   have hBW:B≤W.heap.size:=by have:=hs.base.size; omega
   have hzip:(ps.toArray.zip args.toArray).foldl (λ (t:Array Value) (x:Nat × Value)=>t.setIfInBounds x.1 x.2) a.tmps=(ps.zip args).foldl (λ t x=>t.setIfInBounds x.1 x.2) a.tmps:=by
    rw [List.zip_toArray,List.foldl_toArray]
   obtain ⟨z1,z2,z3⟩:=ux (ps.zip args) a.tmps
   have hfst:(ps.zip args).map zP=ps:=by rw [List.map_fst_zip]; omega
   rw [hfst] at z2 z3
   refine ⟨fn,_,assign,body,hy,roundIn_of_wpIn hfn ?_⟩
   have hst1:St B (rndB B Db (gb++List.range' W1.heap.size (hi-W1.heap.size)) W W) N (Γ++(ps.zip (Y k)++(Λ hi k).map λ l=>(l.s,EqV (a.eval (.tmp l.s))))) (Λ hi k) { tmps:=(ps.zip args).foldl (λ t x=>t.setIfInBounds x.1 x.2) a.tmps,defers:=[] } W:=by
    have hold:∀ s,s ∉ ps→({ tmps:=(ps.zip args).foldl (λ t x=>t.setIfInBounds x.1 x.2) a.tmps,defers:=[] }:Act).eval (.tmp s)=a.eval (.tmp s):=λ s hs'=>by
     rw [g7,g7]
     show ((_:Array Value)[s]?).getD undef=_
     rw [z2 s hs']
    refine ⟨λ g hg=>?_,DefOk.nil rfl,by rw [z1]; exact hs.size,Kept.refl _,λ x hx=>?_,λ m hm=>?_,λ m hm m' hm' hne=>?_⟩
    ·rcases hg with hg | hg
     ·exact qe hBW hg
     ·exact hg.1
    ·rcases qo.1 hx with hx | hx
     ·rw [hold _ (hΓ' x hx).2.2]
      exact hs.vals x hx
     ·rcases qo.1 hx with hx | hx
      ·obtain ⟨i,hi⟩:=List.getElem?_of_mem hx
       obtain ⟨p,A,e1,e2,rfl⟩:∃ p A,ps[i]?=some p∧(Y k)[i]?=some A∧x=(p,A):=by
        rw [List.getElem?_zip_eq_some] at hi
        exact ⟨x.1,x.2,hi.1,hi.2,rfl⟩
       obtain ⟨v,hv1,hv2⟩:=hargs'.get e2
       have hm:(p,v)∈ps.zip args:=qa (i:=i) (by rw [List.getElem?_zip_eq_some]; exact ⟨e1,hv1⟩)
       have hpl:p<a.tmps.size:=by
        rw [hs.size]
        have:=qd.1 hpN p (qa e1)
        simpa using this
       show A.p B _ W
       rw [g7]
       show A.p B (((_:Array Value)[p]?).getD undef) W
       rw [z3 hnd (p,v) hm hpl]
       exact hv2
      ·obtain ⟨m,hm,rfl⟩:=qq.1 hx
       exact hold m.s (hΛ' hi k m hm).2.1
    ·obtain ⟨g,cs,e1,e2,e3,e4⟩:=hs.locs m hm
     exact ⟨g,cs,(hold m.s (hΛ' hi k m hm).2.1).trans e1,.inr ⟨h.lo g e2,.inr ⟨(λ hm2=>by
      rcases qo.1 hm2 with hm2 | hm2
      ·exact hdis m.s (by have:=qd.1 (hsl hi k) m hm; simpa using this) g (by rw [e1]; exact m.H.ok g) hm2
      ·have h8:=hlt' m.s (by have:=qd.1 (hsl hi k) m hm; simpa using this) g (by rw [e1]; exact m.H.ok g)
       have h9:=(vf.1 hm2).1
       omega),_,_,_,e3,(hΛ' hi k m hm).2.2⟩⟩,e3,e4⟩
    ·rw [hold m.s (hΛ' hi k m hm).2.1,hold m'.s (hΛ' hi k m' hm').2.1]
     exact hs.dis m hm m' hm' hne
   have hasg:=hround (w.heap.size+1) W1.heap.size hi k _ W hkM hlo hgr.size hhi hBW hcc hst1
   rw [← hzip] at hasg
   refine wpIn_mono hasg ?_
   rintro e a2 W2 hq
   cases e with
   | normal =>
    obtain ⟨hk2,hbody⟩:=hq
    have hnF:∀ {j:Nat} {o:Obj},W.heap[j]?=some o→o.isCells=false→¬ (rndB B Db (gb++List.range' W1.heap.size (hi-W1.heap.size)) W W).F j:=λ {j o} hj ho hF=>by
     rcases hF.2 with h4 | ⟨_,c,T,fz,h4,_⟩
     ·have:=(Array.getElem?_eq_some_iff.1 hj).1; omega
     ·rw [hj] at h4; injection h4 with h4; subst h4; cases ho
    have hl2:W2.heap[w.heap.size+1]?=some (.loop (rec .ready none)):=(hk2.block _ hlt (hnF hl rfl)).trans hl
    have hlt2:=(Array.getElem?_eq_some_iff.1 hl2).1
    refine ⟨_,run_beginRound hl2 (by rw [hrec]),?_⟩
    obtain ⟨W3,hW3⟩:∃ W3,W2.putObj (w.heap.size+1) (.loop { rec .ready none with state:=.busy })=W3:=⟨_,rfl⟩
    rw [hW3]
    have hl3:W3.heap[w.heap.size+1]?=some (.loop { rec .ready none with state:=.busy }):=by rw [← hW3]; exact World.putObj_heap_same hlt2
    have hc0:∀ j,j<W.heap.size→j≠w.heap.size+1→¬ (rndB B Db (gb++List.range' W1.heap.size (hi-W1.heap.size)) W W3).F j→W3.heap[j]?=W.heap[j]?:=λ j hj hne hF=>by rw [← hW3]; exact (World.putObj_heap_other hne).trans (hk2.block j hj hF)
    have hsz3:W.heap.size≤W3.heap.size:=by rw [← hW3,World.putObj_size]; exact hk2.size
    have ho3:W3.os=W.os∧W3.tape=W.tape∧W3.output=W.output:=by rw [← hW3]; exact ⟨hk2.os,hk2.tape,hk2.output⟩
    refine wpIn_mono (hbody W3 ⟨_,_,hl2,hW3.symm⟩) ?_
    rintro e a3 W4 hp
    have fin:∀ {L:List Lc} (jump:Option Code),REnd B N (rndB B Db (gb++List.range' W1.heap.size (hi-W1.heap.size)) W W3) a L a3 W4→∃ W5,(Instr.endRound (w.heap.size+1) jump).run P W4=.ok (.bool jump.isNone) W5∧St B w0 N Γ L a W5∧W5.heap[w.heap.size+1]?=some (.loop (rec (if jump.isNone then .ready else .done) jump))∧W5.heap[w.heap.size]?=some (.deferred (some []))∧(jump=none→Stp B Db (gb++List.range' W1.heap.size (hi-W1.heap.size)) W W5)∧CellsT (caps.map zP) gb W5∧W.heap.size≤W5.heap.size∧(∀ D:Nat,W.heap[D]?=some (.deferred (some []))→W5.heap[D]?=some (.deferred (some []))):=λ {L} jump hr=>by
     obtain ⟨b1,b2,b3,b4,b5,b6,b7,b8⟩:=back hi k _ (if jump.isNone then .ready else .done) jump hs hl hd hc0 hsz3 ho3 hl3 hr
     have hrun:=run_endRound (P:=P) jump b1
     refine ⟨_,?_,b2,b3,b4,(λ e=>b5 (by rw [e]; rfl) e),(λ g hg=>?_),b7,b8⟩
     rotate_left
     ·obtain ⟨c,T,fz,h5,h6⟩:=hcc g hg
      exact ⟨c,T,fz,(b6 g hg (Array.getElem?_eq_some_iff.1 h5).1 (hgl g hg)).trans h5,h6⟩
     rw [hrun,hrec]
    cases e with
    | normal =>
     obtain ⟨hci,hr⟩:=hp
     obtain ⟨W5,f1,f2,f3,f4,f5,f6,f7,_⟩:=fin none hr
     exact ⟨_,_,f1,.inl ⟨rfl,⟨⟨⟨f2,f3,f4⟩,hci,qe hhi f7⟩,f6⟩,f5 rfl⟩⟩
    | ret =>
     obtain ⟨L,hL,hr⟩:=hp
     obtain ⟨W5,f1,f2,f3,f4,_,f6,f7,f8⟩:=fin (some .ret) hr
     exact ⟨_,_,f1,.inr ⟨rfl,⟨⟨.ret,.inl ⟨rfl,L,hL,f2⟩,f3,f4⟩,f6⟩,f7,f8⟩⟩
    | exit id =>
     obtain ⟨L,hL,hr⟩:=hp
     obtain ⟨W5,f1,f2,f3,f4,_,f6,f7,f8⟩:=fin (some (.exit id)) hr
     exact ⟨_,_,f1,.inr ⟨rfl,⟨⟨.exit id,.inr ⟨id,L,rfl,hL,f2⟩,f3,f4⟩,f6⟩,f7,f8⟩⟩
    | goto t=>exact hp.elim
    | panic ch=>exact hp.elim
    | outgrown=>exact hp.elim
   | exit id=>exact hq.elim
   | goto t=>exact hq.elim
   | ret=>exact hq.elim
   | panic ch=>exact hq.elim
   | outgrown=>exact hq.elim
  ·have fin:∀ {L:List Lc} {W:World} {st:LoopState} {pe:Option Code},st≠.busy→St B w0 N Γ L a W→W.heap[w.heap.size+1]?=some (.loop (rec st pe))→W.heap[w.heap.size]?=some (.deferred (some []))→∃ W',(Instr.endLoop (w.heap.size+1)).run P W=.ok pe W'∧St B w0 N Γ L { a with defers:=[mark w.heap.size]++a.defers } W':=λ {L W st pe} U hs hl hd=>by
    have hrun:=run_endLoop (P:=P) hl (by rw [hrec]; exact U)
    have hpe:(rec st pe).pending=pe:=by rw [hrec]
    refine ⟨W.putObj (w.heap.size+1) (.loop { rec st pe with state:=.exhausted }),hrun.trans (qm (λ x=>Result.ok x _) hpe),?_⟩
    have h5:=hs.put (o':=.loop { rec st pe with state:=.exhausted }) hl rfl (by simp) zo
    refine ⟨h5.lo,⟨λ d hd'=>?_,?_,λ hn=>by rw [hN0] at hn; cases hn⟩,h5.size,h5.base,h5.vals,h5.locs,h5.dis⟩
    ·rcases qt.1 hd' with rfl | hd'
     ·exact ⟨_,rfl,.inl hws,(World.putObj_heap_other zo).trans hd⟩
     ·exact h5.defers.all d hd'
    ·refine xx.2 ⟨λ hm=>?_,h5.defers.nodup⟩
     obtain ⟨D,e1,_,e3⟩:=h.defers.all _ hm
     have e1':w.heap.size=D:=by
      have:=qm Deferred.target e1
      simpa using this
     rw [← e1'] at e3
     have:=(Array.getElem?_eq_some_iff.1 e3).1
     omega
   rintro e W ⟨v,rfl,(⟨hi,⟨⟨hs,hl,hd⟩,_⟩,_⟩ | ⟨⟨c,hc,hl,hd⟩,_⟩)⟩
   ·obtain ⟨W',f1,f2⟩:=fin (by simp) hs hl hd
    exact ⟨none,W',f1,hdone _ _ _ f2⟩
   ·rcases hc with ⟨rfl,L,hL,hs⟩ | ⟨id,L,rfl,hL,hs⟩
    ·obtain ⟨W',f1,f2⟩:=fin (by simp) hs hl hd
     exact ⟨some .ret,W',f1,wpIn_ret (hret L hL _ _ f2)⟩
    ·obtain ⟨W',f1,f2⟩:=fin (by simp) hs hl hd
     exact ⟨some (.exit id),W',f1,wpIn_exit (hexit id L hL _ _ f2)⟩
end
end Go.Proofs.YtedfcalhhldijaaGreatDoor
