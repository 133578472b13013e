import Derived.Test.YtmacliockgbdcaaGreatDoorBfAa
import Derived.Test.YtmacliockgbdcaaGreatDoorBfAc
import Derived.Test.YtmacliockgbdcaaGreatDoorBfAu
import Derived.Test.YtmacliockgbdcaaGreatDoorBfAw
import Derived.Test.YtmacliockgbdcaaGreatDoorBfAy
import Derived.Test.YtmacliockgbdcaaGreatDoorBfAz
import Derived.Laws.AppendOwn
import Derived.Orders
set_option linter.unusedVariables false
set_option linter.unusedSimpArgs false
set_option linter.unusedSectionVars false
set_option maxRecDepth 100000
namespace Go.Proofs.YtmacliockgbdcaaGreatDoor
open Go Go.RowKit
theorem u5 {R:Rg}{B i:Nat}{w0:Bs}{x:Operand}{v:Value}{A A':VA}(hX:Wk A A')(hF:NoF w0)(hv:A.p B v w0.w)(h:Has R B w0 i x (EqV v)):Has R B w0 i x A':=has_wk' (bE hF hv h) hX
theorem St.again {B N:Nat}{w0:Bs}{Γ:List (Nat × VA)}{Λ:List Lc}{a:Act}{w:World}(h:St B w0 N Γ Λ a w){s:Nat}{v:Value}{A:VA}(k:Nat)(hm:Γ[k]?=some (s,EqV v))(hF:NoF w0)(hv:A.p B v w0.w):St B w0 N (Γ.set k (s,A)) Λ a w :=
 ⟨h.lo,h.defers,h.size,h.base,fun x hx=>by
  rcases List.mem_or_eq_of_mem_set hx with hx | rfl
  ·exact h.vals x hx
  ·have e:a.eval (.tmp s)=v:=h.vals _ (List.mem_of_getElem? hm)
   show A.p B (a.eval (.tmp s)) w
   rw [e]
   exact A.cg _ _ _ _ (hF.cg h.base) hv,h.locs,h.dis⟩
def tlE (x:RE):Bool:=[x.p.num,x.p.den].any bigI
def tlF (xs:List RE):Int:=if xs.any tlE then 4 else 0
theorem nt {xs:List RE}{j:Nat}(h:j<xs.length)(h2:tlE xs[j]=true):tlF xs=4:=by
 rw [tlF,if_pos (List.any_eq_true.2 ⟨_,List.getElem_mem h,h2⟩)]
theorem tl_no {xs:List RE}{j:Nat}(h:j<xs.length)(h1:(xs.take j).any tlE=false)(h2:tlE xs[j]=false):(xs.take (j+1)).any tlE=false:=by
 rw [List.take_succ_eq_append_getElem h,List.any_append,h1]
 simp [h2]
theorem xR {xs:List RE}(h:xs.any tlE=false):tlF xs=0:=by
 rw [tlF,h]
 rfl
theorem Dl (xs:List RE)(X Y:VA)(hX:Wk X (SlA 67 [U32] (xs.map REA)).va)(h0:tlF xs=0→Wk X Y)(h4:tlF xs=4→Wk (EqV (.slice none 0 0)) Y):Cn Tryz.prog 27 [X] (Tu [Y,In (tlF xs)]):=by
 refine Cn.introF Tryz.func27 G zk nq (fun B w0 a hF U=>?_)
 have U:=zn [(0,X)] [] U
 obtain ⟨v0,hv0,U⟩:=St.eqv U 0 rfl
 have hl:=fT (hX _ _ _ hv0)
 refine wp_seq<|zh [.v 2 _,.v 3 _] [.g 0,.o 0,.o 1] U (zv G (a9 aP) (zv G (a9 a8) o0)) (zz [(0,_),(2,_),(3,_)] [] fun a w U=>?_)
 refine zt<|wp_seq<|zh [.v 6 _,.v 7 _,.v 8 _] [.g 0,.g 1,.g 2,.o 0,.o 1,.o 2] U (zM 0 G (zv G (be Tryz.underlying22 (u5 hX hF hv0 (vq 0 G))) (zv G (ae a8) o0))) (zz [(0,_),(2,_),(3,_),(6,_),(7,_),(8,_)] [] fun a w U=>?_)
 refine a7<|wp_block ?_
 have U:=St.sel U [0,3,4,5]
 refine wp_loop_ghost (fun n a w=>∃ j:Nat,(n+j=xs.length∧(xs.take j).any tlE=false)∧St B w0 22 [(0,EqV v0),(6,EqV v0),(7,In (xs.length:Nat)),(8,In (j:Nat))] [] a w) (xs.length) ?_ ?_
 ·rw [List.length_map] at U
  exact ⟨0,⟨by omega,rfl⟩,U⟩
 intro n a w hI
 obtain ⟨j,⟨hn,hno⟩,U⟩:=hI
 refine wp_seq<|zh [.v 9 _] [.g 0,.g 1,.g 2,.g 3,.o 0] U (zv G (aN (gq 3 G) (gq 2 G)) o0) (zz [(0,_),(6,_),(7,_),(8,_),(9,_)] [] fun a w U=>?_)
 refine zt<|ah U (zm 4 G) (fun hb0=>?_) (fun hb0=>?_)
 ·have hj:j<xs.length:=by simp at hb0; omega
  refine wp_skip<|zt<|wp_block<|wp_seq<|zg [] [⟨5,67,ptrH,some 2,_,some (3,_)⟩] [.v 10 _,.v 11 _,.alc 0,.sto 0] [.g 0,.g 1,.g 2,.g 3] U (zv G (cB cC (fM fun _=>rfl) (u5 hX hF hv0 (gq 1 G)) (gq 3 G) (dD hj)) (zv G (aq (vq 0 G) cb) (oc (aJ G G G (Str.zero cu)) (oc (aA G G G (vq 1 G) cb (Eq.trans (b:=9) G G)) o0)))) (zz [(0,_),(6,_),(7,_),(8,_)] [O 5 67 _] fun a w U=>?_)
  refine zt<|zg [none] [] [.adr 12 5 (.some 1) True,.adr 13 5 (.some (1+0)) True,.v 14 _,.adr 15 5 (.some 1) True,.adr 16 5 (.some (1+2)) True,.v 17 _,.v 18 _,.v 19 _] [.g 0,.g 1,.g 2,.g 3,.o 7] U (oc (ob_a G G (ac (lz0 0 G) bg)) (oc (ob_a G G (dI 0 G zk trivial (lz0 0 G) aY)) (zv G (aD 1 G zk trivial (lz0 0 G) (Sub.trans (Sub.part 1 G G) (Sub.part 0 G G) G) al) (oc (ob_a G G (ac (lz0 0 G) bg)) (oc (ob_a G G (dI 3 G zk trivial (lz0 0 G) aT)) (zv G (aD 4 G zk trivial (lz0 0 G) (Sub.trans (Sub.part 1 G G) (Sub.part 1 G G) G) al) (zv G (cz (D:=[U32]) (l:=[_,_]) (xs:=[.tmp 14,.tmp 17]) (dK zk) xX zk (n_ok zk) nq nq nq (.cons (vq 2 G) (.cons (vq 5 G) .nil)) G G) (zv G (aa (xs:=[.tmp 18]) (Br [xs[j].p.num,xs[j].p.den] nq) (.cons (vq 6 G) .nil)) o0)))))))) (zz [(0,_),(6,_),(7,_),(8,_),(19,_)] [O 5 67 _] fun a w U=>?_)
  refine a7<|ah U (zm 4 G) (fun hb1=>?_) (fun hb1=>?_)
  ·refine wp_seq<|zg [none] [] [.v 2 _,.v 3 _] [.g 0,.g 1,.g 2,.g 3,.o 0,.o 1] U (zv G (a9 aP) (zv G (a9 a8) o0)) (zz [(0,_),(6,_),(7,_),(8,_),(2,_),(3,_)] [O 5 67 _] fun a w U=>?_)
   refine a7<|wp_ret<|aV ?_
   refine ap ?_
   refine ap ?_
   refine aV ?_
   refine ap ?_
   refine ar ?_ (aS (rs:=[.tmp 2,.tmp 3]) G U (.tmp (zm 4 G) (.tmp (zm 5 G) .nil)) zd)
   rw [nt hj hb1]; exact tu2w (h4 (nt hj hb1)) bh
  ·refine wp_skip<|ao ?_
   refine a7<|zg [none] [] [.v 20 _,.v 8 _] [.g 0,.g 1,.g 2,.o 1] U (zv G (aR (gq 3 G) a8 ((wi64 zo zo).trans (by omega:(_:Int)=((j+1:Nat):Int)))) (zv G (ae (vq 0 G)) o0)) (zz [(0,_),(6,_),(7,_),(8,_)] [O 5 67 _] fun a w U=>?_)
   refine a7 ?_
   have U:=St.sel U [0,1,2,3]
   have U:=St.selL U []
   exact ⟨n-1,by omega,j+1,⟨by omega,tl_no hj hno hb1⟩,U⟩
 ·obtain rfl:j=xs.length:=by simp at hb0; omega
  refine wp_exit<|ak<|ak<|aC<|zt<|zh [.v 21 _,.v 2 _,.v 3 _] [.o 1,.o 2] U (zM 0 G (zA 0 G (zv G (a9 a8) o0))) (zz [(2,_),(3,_)] [] fun a w U=>?_)
  refine a7<|wp_ret ?_
  have U:=St.again U 0 rfl hF hv0
  refine ar ?_ (aS (rs:=[.tmp 2,.tmp 3]) G U (.tmp (zm 0 G) (.tmp (zm 1 G) .nil)) zd)
  rw [List.take_length] at hno; rw [xR hno]; exact tu2w (h0 (xR hno)) bh
def lesS2 (Λ:List Lc)(e j e2 j2:Nat)(A:As):List Le:=Λ.zipIdx.map fun x=>⟨x.1.s,x.1.T,x.1.H,none,x.1.A,if x.2=e then some (j,A) else if x.2=e2 then some (j2,A) else none⟩
theorem pk {Λ:List Lc}{e j e2 j2:Nat}{A:As}:∀ y∈lesS2 Λ e j e2 j2 A,y.cr=none∧(⟨y.s,y.T,y.H,y.A0⟩:Lc)∈Λ∧∀ i B,y.st=some (i,B)→i=j∨i=j2:=fun y hy=>by
 obtain ⟨x,hx,rfl⟩:=List.mem_map.1 hy
 refine ⟨rfl,List.mem_of_getElem? (List.mem_zipIdx_iff_getElem?.1 hx),fun i B h=>?_⟩
 simp only at h
 split at h
 ·injection h with h
  injection h with h
  exact .inl h.symm
 ·split at h
  ·injection h with h
   injection h with h
   exact .inr h.symm
  ·cases h
section
open Rg
variable {P:Program} {Q:Exit→Act→World→Prop} {B N:Nat} {w0:Bs} {Γ:List (Nat × VA)} {Λ:List Lc} {a:Act} {w:World}
theorem ud {id:Nat}{ops:Array Oper}{sp:List Sp}(anc:List (List Nat))(n m e j e2 j2:Nat)(A:As)(src:List Src)(hmx:P.follows .mixedOrders=true)
  (h:St B w0 N Γ Λ a w) (hob:Obs P Q ⟨ops,N,Γ,lesS2 Λ e j e2 j2 A,sp,fun i=>anc.getD i []⟩ B w0 0 n) (hsz:ops.size=n+m) (hm:0<m) (hj:n≤j) (hj2:n≤j2) (hanc:Rg.ancOk ⟨ops,N,Γ,lesS2 Λ e j e2 j2 A,sp,fun i=>anc.getD i []⟩=true) (hall:∀ i,n≤i→i<n+m→∀ j,j<i→(anc.getD i []).contains j=true) (hk:Rg.chk ⟨ops,N,Γ,lesS2 Λ e j e2 j2 A,sp,fun i=>anc.getD i []⟩=true)
  (hsrc:src.all (fun s=>match s with | .g k=>(match Γ[k]? with | some x=>Rg.outG ⟨ops,N,Γ,lesS2 Λ e j e2 j2 A,sp,fun i=>anc.getD i []⟩ x.1 | none=>false) | .o i=>decide (i<n))=true)
  (hQ:∀ a' w',St B w0 N (src.filterMap (takeS ⟨ops,N,Γ,lesS2 Λ e j e2 j2 A,sp,fun i=>anc.getD i []⟩)) Λ a' w'→wpOps P ops Q (List.range' n m) a' w'):(Code.region id ops true).wp P Q a w:=by
 refine Rg.drawK (R:=⟨ops,N,Γ,lesS2 Λ e j e2 j2 A,sp,fun i=>anc.getD i []⟩) (m:=m) hsz hm hmx hanc hk h (fun y hy _=>?_) (fun i hi=>hob.all i zo zo) (fun i h1 h2 j hj=>hall i h1 h2 j hj) fun a1 w1 hinv=>?_
 ·exact (pk y hy).2.1
 ·exact hQ a1 w1 (gR (fun l' hl'=>by
   obtain ⟨j',hj'⟩:=List.getElem?_of_mem hl'
   exact ⟨_,List.mem_map.2 ⟨(l',j'),List.mem_zipIdx_iff_getElem?.2 hj',rfl⟩⟩) (fun y hy i B' h1=>by have:=(pk y hy).2.2 i B' h1; omega) hinv src hsrc)
end
def reOf (e:EQ):RE:=⟨e.1,rfOf e.2,rfOf 0⟩
theorem reA_D {xs:List RE}:∀ A∈xs.map REA,∀ T∈A.deps,T∈[U32]:=fun A hA=>by
 obtain ⟨x,_,rfl⟩:=List.mem_map.1 hA
 exact dK (l:=[REA x]) zk _ (by simp)
def toldL (L:List EQ):List EQ × Int:=if tlF (L.map reOf)=0 then (L,0) else ([],4)
theorem zU (xs:List RE):tlF xs=0∨tlF xs=4:=by
 unfold tlF
 split
 ·exact .inr rfl
 ·exact .inl rfl
theorem iJ {L:List EQ}(h:tlF (L.map reOf)=0):toldL L=(L,0):=if_pos h
theorem iI {L:List EQ}(h:tlF (L.map reOf)=4):toldL L=([],4):=if_neg (by rw [h]; decide)
theorem l3 {B:Nat}{w1:Bs}{Ts:List TypeId}(hB:B=w1.w.heap.size):∀ E,Ts.contains E=true→RowMay w1 B E:=fun E _ w g c fz _ h _=>.inl (hB▸h)
theorem zr (x:RM):UpA (RMA x) (RMA x):=i7 (.cons (cY _) (.cons (cY _) (.cons (cY _) (.cons (cY _) .nil))))
def parF (m:RM):List EQ × Int:=if okM m=true then toldL (partsQ (toM m)) else ([],1)
theorem t9 {P:Program}{Q:Exit→Act→World→Prop}{B N:Nat}{w0:Bs}{Γ:List (Nat × VA)}{Λ:List Lc}{a:Act}{w:World}{ops:Array Oper}{i:Nat}{K:Act→World→Prop}{p d g k sx:Nat}{ty T T':TypeId}{H:Hd}{A0 A A1:As}{ps:String}{af:Array Edge}(src:List Nat)(kp kd ks e:Nat)(ho:ops[i]?=some ⟨none,.store ty (.tmp p) (.tmp d),T',ps,af,none⟩)(h:St B w0 N Γ Λ a w)
  (hp:Γ[kp]?=some (p,EqV (.pointer (some ⟨g,k,none⟩)))) (hd:Γ[kd]?=some (d,A.va)) (hs:Γ[ks]?=some (sx,EqV (H.f g))) (ht:Ty P ty A.n A.ag) (hl:Λ[e]?=some ⟨sx,T,H,A0⟩)
  (hput:Put A0 k A A1) (hsrc:src.all (fun k=>match Γ[k]? with | some y => !y.2.deps.contains T | none=>false)=true) (hΛ:Λ.zipIdx.all (fun x=>x.2==e || (x.1.s != sx && !x.1.A.deps.contains T))=true) (hT:A1.deps.contains T=false)
  (hK:∀ w',St B w0 N (src.filterMap fun k=>Γ[k]?) (Λ.set e ⟨sx,T,H,A1⟩) a w'→K (a.put none undef) w'):wpOp P ops Q i K a w:=by
 have e1:a.eval (.tmp p)=.pointer (some ⟨g,k,none⟩):=h.vals _ (List.mem_of_getElem? hp)
 obtain ⟨cs',hpA,e2⟩:=h.vals _ (List.mem_of_getElem? hd)
 have e2:a.eval (.tmp d)=shape A.ag cs':=e2
 have e0:a.eval (.tmp sx)=H.f g:=h.vals _ (List.mem_of_getElem? hs)
 obtain ⟨g0,cs,q1,q2,q3,q4⟩:=h.locs _ (List.mem_of_getElem? hl)
 have:g0=g:=by
  have:=congrArg blk (q1.symm.trans e0)
  rw [H.ok,H.ok] at this
  injection this
 subst this
 obtain ⟨hkc,hp1⟩:=hput B cs cs' w q4 hpA
 have lA:=A.len _ _ _ hpA
 have hrun:=bL ht w g0 k T cs.toArray _ cs' (A.cells_shape hpA) lA (by simpa using hkc) (A.one _ _ _ hpA) q3
 have e3:cs.toArray.toList.take k++cs'++cs.toArray.toList.drop (k+A.n)=splice cs k cs':=by simp [splice,lA]
 rw [e3] at hrun
 have hW:=Wr.setRow w g0 (splice cs k cs').toArray
 have hB:B≤g0:=h.lo g0 q2
 have hTn:T ∉ A1.deps:=by simpa using hT
 unfold wpOp
 simp only [ho,Region.wanted,if_true]
 refine .inl (wp_skip' (w':=w.setRow g0 (splice cs k cs').toArray) ?_ (hK _ ⟨h.lo,h.defers.keep rfl fun D hD=>(hW.block D (fun e=>by subst e; rw [q3] at hD; cases hD)).trans hD,h.size,h.base.wr hW q2,fun x hx=>?_,fun m hm=>?_,fun m1 hm1 m2 hm2 hne=>?_⟩))
 ·simp [execOp,e1,e2,Instr.storeAt,Instr.sureAddr,hrun]
 ·obtain ⟨k',hk1,hk2⟩:=List.mem_filterMap.1 hx
  have:=List.all_eq_true.1 hsrc k' hk1
  simp only [hk2,Bool.not_eq_true',List.contains_eq_mem,decide_eq_false_iff_not] at this
  exact x.2.wr _ _ _ _ _ _ _ _ q3 this hB hW (h.vals x (List.mem_of_getElem? hk2))
 ·obtain ⟨j,hj⟩:=List.getElem?_of_mem hm
  by_cases e5:j=e
  ·subst e5
   have:m=⟨sx,T,H,A1⟩:=by
    rw [List.getElem?_set_self (List.getElem?_eq_some_iff.1 hl).1] at hj
    injection hj with hj
    exact hj.symm
   subst this
   exact ⟨g0,splice cs k cs',q1,q2,setRow_heap w g0 _ _ _ _ q3,A1.wr _ _ _ _ _ _ _ _ q3 hTn hB hW hp1⟩
  ·rw [List.getElem?_set_ne (fun e2=>e5 e2.symm)] at hj
   have hc:=List.all_eq_true.1 hΛ (m,j) (List.mem_zipIdx_iff_getElem?.2 hj)
   simp only [Bool.or_eq_true,beq_iff_eq,Bool.and_eq_true,bne_iff_ne,Bool.not_eq_true',List.contains_eq_mem,decide_eq_false_iff_not] at hc
   have hc':=hc.resolve_left e5
   obtain ⟨g',cs2,p1,p2,p3,p4⟩:=h.locs m (List.mem_of_getElem? hj)
   have hne:g'≠g0:=fun hh=>h.dis m (List.mem_of_getElem? hj) _ (List.mem_of_getElem? hl) hc'.1 (by rw [p1,q1,hh,m.H.ok,Hd.ok])
   exact ⟨g',cs2,p1,p2,(hW.block g' hne).trans p3,m.A.wr _ _ _ _ _ _ _ _ q3 hc'.2 hB hW p4⟩
 ·have hs:∀ m∈Λ.set e ⟨sx,T,H,A1⟩,∃ m0∈Λ,m0.s=m.s:=fun m hm=>by
   rcases List.mem_or_eq_of_mem_set hm with hm | rfl
   ·exact ⟨m,hm,rfl⟩
   ·exact ⟨_,List.mem_of_getElem? hl,rfl⟩
  obtain ⟨m3,r1,r2⟩:=hs m1 hm1
  obtain ⟨m4,r3,r4⟩:=hs m2 hm2
  rw [← r2,← r4] at hne ⊢
  exact h.dis m3 r1 m4 r3 hne
theorem rY {x:Rat}:IntKind.i64.wrap (0-x.num.sign)=(0-x).num.sign:=by
 rw [Int.zero_sub]
 have e:0-x = -x:=by grind
 rw [e,Rat.neg_num,Int.sign_neg]
 refine wi64 ?_ ?_
 ·rcases Int.lt_trichotomy x.num 0 with h | h | h
  ·rw [Int.sign_eq_neg_one_of_neg h]; decide
  ·rw [h]; decide
  ·rw [Int.sign_eq_one_of_pos h]; decide
 ·rcases Int.lt_trichotomy x.num 0 with h | h | h
  ·rw [Int.sign_eq_neg_one_of_neg h]; decide
  ·rw [h]; decide
  ·rw [Int.sign_eq_one_of_pos h]; decide
theorem qn {x:Rat}:(x.num.sign==0)=decide (x=0):=by
 rw [Bool.eq_iff_iff,beq_iff_eq,decide_eq_true_eq,Int.sign_eq_zero_iff_zero,Rat.num_eq_zero]
theorem mf {x:Rat}:decide (x.num.sign<0)=decide (x<0):=by
 rw [decide_eq_decide,Int.sign_neg_iff]
 have:=Rat.num_nonneg (q:=x)
 rw [← Rat.not_le,← Int.not_le,this]
theorem rZ {x:Rat}:decide (x.num.sign>0)=decide (0<x):=by
 rw [decide_eq_decide,gt_iff_lt,Int.sign_pos_iff]
 have h1:=Rat.num_nonneg (q:=x)
 have h2:=Rat.num_eq_zero (q:=x)
 constructor
 ·intro h
  have:0≤x:=h1.1 zo
  have:x≠0:=fun e=>by have:=h2.2 e; omega
  grind
 ·intro h
  have a1:0≤x.num:=h1.2 (by grind)
  have a2:x.num≠0:=fun e=>by have:=h2.1 e; grind
  omega
theorem yH {M:MQ}{z y:Int}{c:Bool}(hz:z=M.b.num.sign)(hy:y=M.a.num.sign)(hc:c=(cmQ (0-M.a) 1==0)):(decide (z<0) || (z==0&&(c || (decide (y>0)&&cmQ M.a 1 != 0))))=flipQ M:=by
 subst hz hy hc
 rw [mf,qn,rZ,uN,cm_ne]
 rfl
theorem w9 {L:List EQ}{M:MQ}(h:(M.b.num.sign==0&&decide (M.a.num.sign<0))=true):restQ L M=tailQ (putQ L 1 1) (preM M)∧(preM M).b≠0:=by
 rw [mf,qn,Bool.and_eq_true,decide_eq_true_eq,decide_eq_true_eq] at h
 refine ⟨by rw [restQ,if_pos h],fun e=>?_⟩
 have e:M.b-M.a=0:=e
 have h1:=h.1
 have h2:=h.2
 grind
theorem Aw {L:List EQ}{M:MQ}(h:(M.b.num.sign==0&&decide (M.a.num.sign<0))=false):restQ L M=(if M.b.num.sign=0 then bareQ L M else tailQ L M)∧(M.b.num.sign≠0→M.b≠0):=by
 rw [mf,qn] at h
 have h':¬ (M.b=0∧M.a<0):=fun hh=>by rw [decide_eq_true hh.1,decide_eq_true hh.2] at h; exact absurd h zd
 refine ⟨?_,fun hn e=>hn (by rw [e]; rfl)⟩
 rw [restQ,if_neg h']
 by_cases hb:M.b=0
 ·rw [if_pos hb,if_pos (by rw [hb]; rfl)]
 ·rw [if_neg hb,if_neg (fun e=>hb (Rat.num_eq_zero.1 (Int.sign_eq_zero_iff_zero.1 e)))]
theorem AY {E:TypeId}{m:Nat}{D:List TypeId}{l l':List As}(h:All2 WkA l l')(hm:∀ A∈l',A.n=m)(hD:∀ A∈l',∀ T∈A.deps,T∈D):WkA (OwnC E m D l) (OwnC E m D l'):=⟨rfl,rfl,fun B cs w ⟨v,e,_,_,ds,h6,h7⟩=>⟨v,e,hm,hD,ds,(bz h).2.2 _ _ _ h6,by rw [← h.length]; exact h7⟩⟩
theorem qmB {k k':Nat}{m:MQ}(h:k≤k'):WkA (QMA k m) (QMA k' m):=bz (.cons (bT h) (.cons (bT h) (.cons (bT h) (.cons (bT h) .nil))))
theorem pre_wk {M:MQ}:WkA (cat [QA 2051 M.a,QA 4103 (M.b-M.a),QA 2051 M.c,QA 4103 (M.d-M.c)]) (QMA 4103 (preM M)):=bz (.cons (bT zd) (.cons (WkA.refl _) (.cons (bT zd) (.cons (WkA.refl _) .nil))))
theorem r_fldN {P:Program}{R:Rg}{Q:Exit→Act→World→Prop}{B i:Nat}{w0:Bs}{x:Operand}{T:TypeId}{f k n g:Nat}(hx:Has R B w0 i x (EqV (ptr g)))(hf:Fld P T f k n):Wv P Q R B w0 i (.fieldAddr T x f) (EqV (.pointer (some ⟨g,k,none⟩))) :=
 bb fun d T ps af gd a w av=>by
  have h:a.eval x=.pointer (some ⟨g,0,none⟩):=hx a w av
  exact ⟨_,w,by simp [execOp,h,d3 hf],Grow.refl w,rfl⟩
theorem rH (e:EQ):tlE (reOf e)=longQ e.2:=by
 show [riOf e.2.num,riOf (e.2.den:Int)].any bigI=longQ e.2
 simp [longQ]
theorem vu {L:List EQ}(h:tlF (L.map reOf)=0):∀ e∈L,longQ e.2=false:=fun e he=>by
 cases hl:longQ e.2 with
 | false=>rfl
 | true =>
  have:(L.map reOf).any tlE=true:=List.any_eq_true.2 ⟨reOf e,List.mem_map.2 ⟨e,he,rfl⟩,by rw [rH]; exact hl⟩
  rw [tlF,if_pos this] at h
  exact absurd h zd
theorem zT {L:List EQ}(h:∀ e∈L,longQ e.2=false):tlF (L.map reOf)=0:=by
 rw [tlF,if_neg]
 rw [List.any_eq_true]
 rintro ⟨x,hx,h2⟩
 obtain ⟨e,he,rfl⟩:=List.mem_map.1 hx
 rw [rH,h e he] at h2
 cases h2
theorem nV:longQ 0=false:=by kernel_rfl
def sE (x:RE):EQ:=if x.k=3 then (1,toQ x.p/toQ x.q) else if x.k=4 then (2,toQ x.p*toQ x.q) else (x.k,toQ x.p)
def simQ (xs:List RE):List EQ:=xs.foldl (fun L x=>putQ L (sE x).1 (sE x).2) []
def simF (xs:List RE):List EQ × Int:=if chF xs=0 then toldL (simQ xs) else ([],chF xs)
theorem xY {xs:List RE}{j:Nat}(h:j<xs.length):simQ (xs.take (j+1))=putQ (simQ (xs.take j)) (sE xs[j]).1 (sE xs[j]).2:=by
 rw [List.take_succ_eq_append_getElem h]
 unfold simQ
 rw [List.foldl_append]
 rfl
theorem gE (xs:List RE):(simQ xs).length≤xs.length:=by
 have key:∀ (xs:List RE) (L:List EQ),(xs.foldl (fun L x=>putQ L (sE x).1 (sE x).2) L).length≤L.length+xs.length:=by
  intro xs
  induction xs with
  | nil=>intro L; simp
  | cons x xs ih =>
   intro L
   have h1:=ih (putQ L (sE x).1 (sE x).2)
   have h2:=gK L (sE x).1 (sE x).2
   simp only [List.foldl_cons,List.length_cons]
   omega
 have:=key xs []
 simpa [simQ] using this
theorem sE_3 {x:RE}(h:(x.k==3)=true):sE x=(1,toQ x.p/toQ x.q):=if_pos (by simpa using h)
theorem sE_4 {x:RE}(h0:(x.k==3)=false)(h:(x.k==4)=true):sE x=(2,toQ x.p*toQ x.q):=by rw [sE,if_neg (by simpa using h0),if_pos (by simpa using h)]
theorem sE_o {x:RE}(h0:(x.k==3)=false)(h:(x.k==4)=false):sE x=(x.k,toQ x.p):=by rw [sE,if_neg (by simpa using h0),if_neg (by simpa using h)]
theorem el_q0 {x:RE}(h:elF x=true)(h3:(x.k==3)=true):toQ x.q≠0:=by
 have h3:x.k=3:=by simpa using h3
 obtain ⟨_,hk⟩:=iz h
 rcases hk with hk | hk | ⟨_,h0⟩ | hk | hk
 ·omega
 ·omega
 ·exact h0
 ·omega
 ·omega
theorem CB.introI {P : Program} {f : FuncId} {fn : Func} {cd : Code} {Tp T E : TypeId} {Ts : List TypeId} {m : Nat} {D : List TypeId} {l : List As} {A1 : As} {pre : List VA} {post : VA} (hf : P.funcs[f]? = some fn) (hb : fn.body = some cd) (hn : (fn.name == "runtime.NumGoroutine") = false) (hsz : pre.length + 1 ≤ fn.ntmps)
  (h:∀ (B c g:Nat) (v:Value) (w0:Bs) (a:Act) (I:List (Nat × Nat)) (top:Nat),I.length=l.length→Srt I top→top≤w0.w.heap.size→(∀ E,Ts.contains E=true→RowMay w0 B E)→St B w0 fn.ntmps (argΓ (pre++[EqV (ptr c)])) [⟨pre.length,Tp,ptrH,BuA T E m D g v v (ivZ I l)⟩] a w0.w→cd.wp P (bPost P fn (RQb B w0 c g Tp T A1 post)) a w0.w):CB P f Tp T Ts (OwIC E m D l) A1 pre post:=by
 refine ⟨⟨fn,hf,hn,by rw [hb]; rfl⟩,fun B w c g cs args hBc hBg hc hg hp ha=>?_⟩
 obtain ⟨I,top,hI,hS,hT,v,rfl,hown⟩:=hp
 have hlc:=(Array.getElem?_eq_some_iff.1 hc).1
 have hl:=ha.length
 have ha':All2 (fun (A:VA) v=>A.p B v w) (pre++[EqV (ptr c)]) (args++[ptr c]):=qf ha rfl
 refine (bQ hf hb (h B c g v ⟨w,fun k=>k=c∨(Wid B w Ts).F k,false⟩ _ I top hI hS hT (fun E hE w1 g' cc fz hk hB' hcc=>?_) ?_)).mono fun _ w' ⟨v',cs',he,hv,hk,h1,h2,h3⟩=>⟨v',cs',he,hv,?_,h2,h3⟩
 ·by_cases hlt:g'<w.heap.size
  ·by_cases hF:g'=c∨(Wid B w Ts).F g'
   ·exact .inr hF
   ·exact .inr (.inr ⟨hB',cc,E,fz,(hk.block g' hlt hF).symm.trans hcc,by simpa using hE⟩)
  ·exact .inl (Nat.le_of_not_lt hlt)
 ·refine ⟨fun k hk=>?_,DefOk.nil rfl,?_,Kept.refl _,All2.args ha',fun l' hl'=>?_,fun l' hl' m' hm' hne=>?_⟩
  ·rcases hk with hk | hk | hk
   ·exact Nat.le_trans hBc (Nat.le_trans (Nat.le_of_lt hlc) hk)
   ·exact hk▸hBc
   ·exact hk.1
  ·simp only [Array.size_append,List.size_toArray,Array.size_replicate,List.length_append,List.length_cons,List.length_nil]
   omega
  ·simp at hl'
   subst hl'
   have h0:=All2.args (N:=fn.ntmps-(args++[ptr c]).toArray.size) ha' (pre.length,EqV (ptr c)) (by
    unfold argΓ
    exact List.mem_map.2 ⟨(EqV (ptr c),pre.length),List.mem_zipIdx_iff_getElem?.2 (by simp),rfl⟩)
   exact ⟨c,[ptr g],h0,.inr (.inl G),hc,rfl,hBg,hg,hown⟩
  ·simp at hl' hm'
   subst hl' hm'
   exact absurd G hne
 ·refine ⟨hk.os,hk.tape,hk.output,hk.size,fun k hk1 hk2=>?_⟩
  by_cases hkc:k=c
  ·subst hkc
   exact h1.trans hc.symm
  ·exact hk.block k hk1 fun hh=>hh.elim hkc hk2
theorem ml {P:Program}{fn:Func}{B N c g pl:Nat}{w0:Bs}{Γ:List (Nat × VA)}{Λ:List Lc}{a:Act}{w:World}{Tp T E:TypeId}{m:Nat}{D:List TypeId}{u:Value}{l:List As}{post:VA}{I:List (Nat × Nat)}{t sg:Nat}(hI:I.length=l.length)(hS:Srt I t)(h:St B w0 N Γ Λ a w)(hm:(pl,EqV (ptr c))∈Γ)(hG:(sg,SzV t)∈Γ)(hl:(⟨pl,Tp,ptrH,BuA T E m D g u u (ivZ I l)⟩:Lc)∈Λ)
  (hb:bPost P fn (RQ B w0 post) .ret a w):bPost P fn (RQb B w0 c g Tp T (OwIC E m D l) post) .ret a w:=by
 refine js h hb fun v w h ⟨v',e1,e2,e3⟩=>?_
 obtain ⟨g',cs,f1,_,f3,f4,f5,f6,f7⟩:=h.locs _ hl
 replace f1:a.eval (.tmp pl)=ptr g':=f1
 have f0:a.eval (.tmp pl)=ptr c:=h.vals _ hm
 have:g'=c:=Rg.Hd.inj (H:=ptrH) (H':=ptrH) (show blk (ptr g')=blk (ptr c) by rw [← f1,← f0])
 subst this f4
 exact ⟨v',[u],e1,e2,e3,f3,f6,I,t,hI,hS,h.vals _ hG,u,rfl,f7⟩
section
open Rg
variable {P:Program} {Q:Exit→Act→World→Prop} {B N:Nat} {w0:Bs} {Γ:List (Nat × VA)} {ops:Array Oper} {les:List LeF} {sp:List ((Nat→Value)→Sp)} {anc:Nat→List Nat} {i:Nat}
theorem my {d f h0 s:Nat}{A:As}{us:(Nat→Value)→List Value}{pre pre':List VA}{xs:List Operand}{at_:Array TypeId}{T:TypeId}{ps:String}{af:Array Edge}
  (hs:sp[i]?=some (fun ν=>.v d (PinA (ν i) ((GeA h0 A).and (SepAll (us ν) (ν i)))).va)) (ho:ops[i]?=some ⟨some d,.call ⟨.value (.func f),xs.toArray,at_⟩,T,ps,af,none⟩)
  (hc:Cn P f pre' A.va) (hnew:NewA A) (hnod:NodA A) (hfree:FreeA A A) (hup:All2 Up pre pre') (hx:∀ ν,HasL (fam ops N Γ les sp anc ν) B w0 i xs pre) (hsz:∀ ν,Has (fam ops N Γ les sp anc ν) B w0 i (.tmp s) (SzV h0)) (hus:∀ ν v,us (nuSet ν i v)=us ν) (hl:∀ ν,LiveR (fam ops N Γ les sp anc ν) B w0 i (us ν)):ObF P Q ops N Γ les sp anc B w0 i:=by
 refine .inr ⟨d,_,hs,fun ν a w av K hK=>?_⟩
 obtain ⟨⟨fn,hf,hn,hb⟩,hcall⟩:=hc
 have hrun:(execOp a.eval ⟨some d,.call ⟨.value (.func f),xs.toArray,at_⟩,T,ps,af,none⟩).run P w=.ok (.enter f (xs.map a.eval).toArray) w:=by
  simp only [execOp,resolve,Act.eval,Deferred.ofValue,Sem.run_bind,Sem.run_pure,Result.andThen_ok,invoke,bk hf hn hb]
  simp
 have hbw:=Av.bw av
 have hargs:All2 (fun (A:VA) v=>A.p w.heap.size v w) pre' (xs.map a.eval):=by
  have h1:=(hx ν).all av
  clear hcall hrun hx hs ho
  generalize xs.map a.eval=vs at h1
  induction hup generalizing vs with
  | nil=>cases h1; exact .nil
  | cons hu _ ih =>
   cases h1 with
   | cons h2 h3=>exact .cons (hu _ _ _ hbw h2) (ih _ h3)
 refine bv (R:=fam ops N Γ les sp anc ν) ho G ?_
 unfold Oper.wp
 rw [hrun]
 refine (hcall w.heap.size w _ (Nat.le_refl _) hargs).mono fun e w' ⟨v,he,⟨cs,hv,hsh⟩,hg⟩=>?_
 subst he
 refine hK v w' hg ⟨cs,⟨⟨?_,hfree.2.2 _ _ _ _ hbw hv,hnod _ _ _ hv,fun g hg'=>Nat.le_trans (hsz ν a w av) (hnew _ _ _ hv g hg').1⟩,?_⟩,hsh⟩
 ·rw [hus,eS]
  intro u hu g hgu hgv
  have h1:=hl ν a w av u hu g hgu
  rw [hsh,jL hv] at hgv
  have h2:=(hnew _ _ _ hv g hgv).1
  omega
 ·rw [eS]
  exact hsh.symm
end
theorem new_ge {h:Nat}{A:As}(hA:NewA A):NewA (GeA h A):=fun B cs w hp=>hA B cs w hp.1
theorem nod_ge {h:Nat}{A:As}:NodA (GeA h A):=fun B cs w hp=>hp.2.1
theorem wv {B:Nat}{cs:List Value}{w:World}(h:NilI.p B cs w):cs=[.bool false,.slice none 0 0]:=by
 obtain ⟨ps,rfl,hq⟩:=h
 cases hq with
 | @cons _ c1 _ _ h1 hq=>cases hq with
  | @cons _ c2 _ _ h2 hq =>
   cases hq
   have h1':c1=[.bool false]:=h1
   have h2':c2=[.slice none 0 0]:=h2
   rw [h1',h2']
   rfl
theorem nilI_rin:WkA NilI (RIN ⟨false,[]⟩):=⟨rfl,rfl,fun B cs w h=>by
 rw [wv h]
 exact ⟨[[.bool false],[.slice none 0 0]],rfl,.cons G (.cons ⟨cU,.inl ⟨rfl,rfl⟩⟩ .nil)⟩⟩
theorem ww:NewA NilI:=fun B cs w h g hg=>by
 rw [wv h] at hg
 cases hg
theorem ui:FreeA NilI NilI:=⟨rfl,rfl,fun B B' cs w _ h=>by
 rw [wv h]
 exact ⟨[[.bool false],[.slice none 0 0]],rfl,.cons G (.cons G .nil)⟩⟩
def QZ0:As:=cat [NilI,ZN 2 1]
theorem yo:NewA QZ0:=dV fun A hA=>by
 simp at hA
 rcases hA with rfl | rfl
 ·exact ww
 ·exact dM
theorem BX:FreeA QZ0 QZ0:=ci (.cons ui (.cons dX .nil))
theorem nod_qz:NodA QZ0:=fun B cs w ⟨ps,e,hp⟩=>by
 cases hp with
 | @cons _ c0 _ _ h0 hp=>cases hp with
  | @cons _ c1 _ _ h1 hp =>
   cases hp
   rw [e,wv h0]
   have:([[.bool false,.slice none 0 0],c1]:List (List Value)).flatten=[.bool false,.slice none 0 0]++c1:=by simp
   rw [this,bV]
   exact yk _ _ _ h1
def EBN (k:Nat)(e:EQ):As:=cat [NumA .u8 e.1,QD k e.2,QZ0]
theorem nO {k:Nat}{e:EQ}:NewA (EBN k e):=dV fun A hA=>by
 simp at hA
 rcases hA with rfl | rfl | rfl
 ·exact nN _ _
 ·exact pg
 ·exact yo
theorem uD {k:Nat}{e:EQ}:WkA (EBN k e) (EB k e):=bz (.cons (WkA.refl _) (.cons (WkA.refl _) (.cons (bz (.cons nilI_rin (.cons (WkA.refl _) .nil))) .nil)))
theorem qz_rfn:WkA QZ0 (RFN (rfOf 0)):=bz (.cons (nilI_rin.trans (jJ (show RIN ⟨false,[]⟩=RIN (riOf 0) from by simp [riOf,bt]))) (.cons and_wk .nil))
theorem Cf {k:Nat}{e:EQ}:WkA (EBN k e) (REN (reOf e)):=bz (.cons (WkA.refl _) (.cons qd_rfn (.cons qz_rfn .nil)))
theorem pM {k k':Nat}{e:EQ}(h:k≤k'):WkA (EBN k e) (EBN k' e):=bz (.cons (WkA.refl _) (.cons (sJ h) (.cons (WkA.refl _) .nil)))
theorem uC {k:Nat}{L:List EQ}{p:As→Prop}(h:∀ e,p (EBN k e)):∀ A∈L.map (EBN k),p A:=fun A hA=>by
 obtain ⟨e,_,rfl⟩:=List.mem_map.1 hA
 exact h e
theorem uF {k:Nat}{e:EQ}:∀ T∈(EBN k e).deps,T∈[U32]:=dK (l:=[EBN k e]) zk _ (by simp)
theorem ivn {k:Nat}{I:List (Nat × Nat)}{L:List EQ}:∀ A∈ivZ I (L.map (EBN k)),A.n=9:=nW fun lo hi A hA=>uC (p:=fun A=>(IvA lo hi A).n=9) (fun _=>rfl) A hA
theorem ivD {k:Nat}{I:List (Nat × Nat)}{L:List EQ}:∀ A∈ivZ I (L.map (EBN k)),∀ T∈A.deps,T∈[U32]:=nW fun lo hi A hA=>uC (p:=fun A=>∀ T∈(IvA lo hi A).deps,T∈[U32]) (fun _=>uF) A hA
theorem yB {k:Nat}{f:EQ→As}(hf:∀ lo hi e,WkA (IvA lo hi (EBN k e)) (f e)):∀ (L:List EQ) (I:List (Nat × Nat)),I.length=L.length→All2 WkA (ivZ I (L.map (EBN k))) (L.map f)
 | [],[],_=>.nil
 | e::L,x::I,h=>.cons (hf x.1 x.2 e) (yB hf L I (by simpa using h))
theorem wN {k k':Nat}(hk:k≤k'):∀ (L:List EQ) (I:List (Nat × Nat)),All2 WkA (ivZ I (L.map (EBN k))) (ivZ I (L.map (EBN k')))
 | _,[]=>.nil
 | [],_::_=>.nil
 | e::L,x::I=>.cons (tV (pM hk)) (wN hk L I)
theorem owv_E {E k:Nat}{v:Value}{I:List (Nat × Nat)}{L:List EQ}(hl:I.length=L.length):Wk (OwVB E 9 [U32] v (ivZ I (L.map (EBN k)))) (SlA E [U32] (L.map (EB k))).va:=fun B x w h=>(nx (yB (fun _ _ _=>iv_wk.trans uD) L I hl) eb_D).va _ _ _ (owv_sl _ _ _ h)
theorem bu_iv {T E g k k':Nat}{v u:Value}{L L':List EQ}{I:List (Nat × Nat)}(h:k≤k')(e:L'=L):WkA (BuA T E 9 [U32] g v u (ivZ I (L.map (EBN k)))) (BuA T E 9 [U32] g v u (ivZ I (L'.map (EBN k')))):=by
 subst e
 exact bu_wk (wN h _ _) ivn ivD
theorem uV {T E g k k' c lo hi:Nat}{v u:Value}{M L':List EQ}{e:EQ}{I:List (Nat × Nat)}(hI:I.length=M.length)(h:k≤k')(h':c≤k')(e0:L'=M++[e]):WkA (BuA T E 9 [U32] g v u (ivZ I (M.map (EBN k))++[IvA lo hi (EBN c e)])) (BuA T E 9 [U32] g v u (ivZ (I++[(lo,hi)]) (L'.map (EBN k')))):=by
 subst e0
 rw [List.map_append,List.map_singleton,← nX (by rw [List.length_map]; exact hI)]
 refine bu_wk (iE (wN h _ _) (.cons (tV (pM h')) .nil)) (fun A hA=>?_) (fun A hA=>?_)
 ·rcases List.mem_append.1 hA with hA | hA
  ·exact ivn A hA
  ·obtain rfl:=List.mem_singleton.1 hA; rfl
 ·rcases List.mem_append.1 hA with hA | hA
  ·exact ivD A hA
  ·obtain rfl:=List.mem_singleton.1 hA; exact uF
theorem BE {k:Nat}{I:List (Nat × Nat)}{M:List EQ}{e:EQ}{lo hi:Nat}(hI:I.length=M.length):ivZ (I++[(lo,hi)]) ((M++[e]).map (EBN k))=ivZ I (M.map (EBN k))++[IvA lo hi (EBN k e)]:=by
 rw [List.map_append,List.map_singleton,← nX (by rw [List.length_map]; exact hI)]
theorem xU {I:List (Nat × Nat)}{t t':Nat}(h:Srt I t)(h':t≤t'):Srt I t':=⟨h.1,fun x hx=>Nat.le_trans (h.2 x hx) h'⟩
theorem vE {I:List (Nat × Nat)}{t n:Nat}(hl:I.length=n+1)(h:Srt I t):∃ I' lo hi,I=I'++[(lo,hi)]∧I'.length=n∧(∀ q,t≤q→Srt I' (min lo q))∧hi≤t:=by
 rcases List.eq_nil_or_concat I with rfl | ⟨I',x,rfl⟩
 ·simp at hl
 ·rw [List.concat_eq_append] at *
  obtain ⟨lo,hi⟩:=x
  obtain ⟨h1,h2⟩:=h
  rw [List.pairwise_append] at h1
  refine ⟨I',lo,hi,rfl,by simpa using hl,fun q hq=>⟨h1.1,fun x hx=>?_⟩,h2 (lo,hi) (by simp)⟩
  have q1:=h1.2.2 x hx (lo,hi) (by simp)
  have q2:=h2 x (by simp [hx])
  have q1:x.2≤lo:=q1
  omega
theorem put_iv {A0 A A1:As}{k lo hi h1:Nat}(hp:Put A0 k A A1)(hh:hi≤h1):Put (IvA lo hi A0) k (GeA h1 A) (GeA (min lo h1) A1):=fun B cs c w ⟨q1,q2,q3⟩ ⟨r1,r2,r3⟩=>by
 obtain ⟨s1,s2⟩:=hp B cs c w q1 r1
 have hsub:(cbl (cs.take k)++cbl (cs.drop (k+c.length))).Sublist (cbl cs):=by
  rw [← bV]
  refine List.Sublist.filterMap _ ?_
  conv=>rhs; rw [← List.take_append_drop k cs]
  refine List.Sublist.append (List.Sublist.refl _) ?_
  rw [← List.drop_drop]
  exact List.drop_sublist _ _
 have hn:=hsub.nodup q2
 rw [List.nodup_append] at hn
 have hm:∀ g,g∈cbl (cs.take k)∨g∈cbl (cs.drop (k+c.length))→lo≤g∧g<hi:=fun g hg=>q3 g (hsub.subset (List.mem_append.2 hg))
 refine ⟨s1,s2,?_,fun g hg=>?_⟩
 ·unfold splice
  rw [bV,bV,List.nodup_append,List.nodup_append]
  refine ⟨⟨hn.1,r2,fun x hx y hy e=>?_⟩,hn.2.1,fun x hx y hy e=>?_⟩
  ·have:=hm x (.inl hx)
   have:=r3 y hy
   omega
  ·rcases List.mem_append.1 hx with hx | hx
   ·exact hn.2.2 x hx y hy e
   ·have:=hm y (.inr hy)
    have:=r3 x hx
    omega
 ·unfold splice at hg
  rw [bV,bV] at hg
  rcases List.mem_append.1 hg with hg | hg
  ·rcases List.mem_append.1 hg with hg | hg
   ·have:=hm g (.inl hg); omega
   ·have:=r3 g hg; omega
  ·have:=hm g (.inr hg); omega
theorem AM {k c:Nat}{e:Int}{p q:Rat}:Put (EBN k (e,p)) 1 (QD c q) (EBN c (e,q)):=Put.part 1 rfl rfl rfl
theorem xl {h c:Nat}{k:Int}{p:Rat}{u v:Value}:WkA (cat [NumA .u8 k,PinA u ((GeA h (QD c p)).and (SepAll [] u)),PinA v ((GeA h QZ0).and (SepAll [u] v))]) (GeA h (EBN c (k,p))):=by
 have hd:WkA (cat [NumA .u8 k,PinA u ((GeA h (QD c p)).and (SepAll [] u)),PinA v ((GeA h QZ0).and (SepAll [u] v))]) (DisA (cat [NumA .u8 k,GeA h (QD c p),GeA h QZ0])) :=
  pR (fun _ _ _ h=>lI h) (gk (l:=[(u,GeA h (QD c p)),(v,GeA h QZ0)]) (fun y hy=>by
   simp at hy
   rcases hy with rfl | rfl <;> exact nod_ge))
 refine ⟨rfl,rfl,fun B cs w hp=>?_⟩
 obtain ⟨⟨ps,e,hq⟩,hn⟩:=hd.2.2 _ _ _ hp
 refine ⟨(bz (.cons (WkA.refl _) (.cons ge_wk (.cons ge_wk .nil)))).2.2 _ _ _ ⟨ps,e,hq⟩,hn,fun g hg=>?_⟩
 cases hq with
 | @cons _ c0 _ _ h0 hq=>cases hq with
  | @cons _ c1 _ _ h1 hq=>cases hq with
   | @cons _ c2 _ _ h2 hq =>
    cases hq
    have:([c0,c1,c2]:List (List Value)).flatten=c0++(c1++c2):=by simp
    rw [e,this,bV,bV,lI h0,List.nil_append,List.mem_append] at hg
    exact hg.elim (h1.2.2 g) (h2.2.2 g)
theorem oM {E h c:Nat}{k:Int}{p:Rat}{u v:Value}:Wk (SlA E [U32] [cat [NumA .u8 k,PinA u ((GeA h (QD c p)).and (SepAll [] u)),PinA v ((GeA h QZ0).and (SepAll [u] v))]]).va (SlA E [U32] [GeA h (EBN c (k,p))]).va:=(nx (.cons xl .nil) (fun A hA=>by obtain rfl:=List.mem_singleton.1 hA; exact uF)).va
theorem St.closeB {B N:Nat}{w0:Bs}{Γ:List (Nat × VA)}{Λ:List Lc}{a:Act}{w:World}{s Tp T E m g h1:Nat}{D:List TypeId}{v:Value}{l:List As}{X:As}{u:Value}(hX:NewA X)(h:St B w0 N Γ Λ a w)(k:Nat)(hm:Λ[k]?=some ⟨s,Tp,ptrH,BuA T E m D g v u (l++[GeA h1 X])⟩):St B w0 N Γ (Λ.set k ⟨s,Tp,ptrH,BuA T E m D g v u (l++[IvA h1 w.heap.size X])⟩) a w :=
 h.setL k hm fun cs ⟨q1,q2,q3,q4⟩=>⟨q1,q2,q3,yf hX q4⟩
theorem tg  : Cn Tryz.prog 33 [] (QZ0.va):=by
 refine Cn.intro Tryz.func33 G zk nq (fun B w0 a U=>?_)
 have U:=zn [] [] U
 refine wp_seq<|zg [] [⟨0,27,ptrH,some 0,_,none⟩] [.alc 0] [] U (oc (aJ G G G (Str.zero lY)) o0) (zz [] [O 0 27 _] fun a w U=>?_)
 refine zt<|zg [some (2,_)] [] [.v 1 _,.v 2 _,.sto 0] [] U (zv G (aa (xs:=[.const (.int .i64 (1))]) (of_zn zd zd) (.cons a8 .nil)) (zv G (bi (xs:=[(1,.tmp 1)]) (qs:=[(1,_)]) lY (.cons ⟨rfl,(vq 0 G),rfl⟩ .nil)) (oc (aA G G G (vq 1 G) ax (Eq.trans (b:=4) G G)) o0))) (zz [] [O 0 27 _] fun a w U=>?_)
 refine a7<|wp_ret<|ar ?_ (az G U (zm 0 G) ax)
 exact bh
theorem fW (L:List EQ)(k:Int)(p:Rat){K c K1:Nat}(hK:K+c≤137438953472)(hK1:K+c+1≤K1)(hL:L.length≤1000000):CB Tryz.prog 101 74 22 [22,67] (OwIC 67 9 [U32] (L.map (EBN K))) (OwIC 67 9 [U32] ((putQ L k p).map (EBN K1))) [(NumA .u8 k).va,Qs c p] (Tu []):=by
 obtain ⟨it,z,e1,e2,e3,e4,e5⟩:=iD
 refine CB.introI Tryz.func101 G zk nq (fun B gc gg v w0 a I top hI0 hS0 hT0 hrm U=>?_)
 have U:=zn [(0,(NumA .u8 k).va),(1,Qs c p),(2,EqV (ptr gc))] [⟨2,74,ptrH,BuA 22 67 9 [U32] gg v v (ivZ I (L.map (EBN K)))⟩] U
 have hIl:I.length=L.length:=by rw [hI0,List.length_map]
 have hS:=xU hS0 hT0
 have U:=St.addSz U 9999
 obtain ⟨h0,eh0⟩:∃ h,w0.w.heap.size=h:=⟨_,rfl⟩
 rw [eh0] at U hS
 have U:=zn [(0,_),(1,_),(2,_),(9999,_)] [O 2 74 _] U
 refine wp_seq<|zg [none] [⟨4,27,ptrH,some 0,_,none⟩] [.alc 1] [.g 0,.g 2,.g 3] U (oc (ay G G G (gq 1 G)) o0) (zz [(0,_),(2,_),(9999,_)] [O 2 74 _,O 4 27 _] fun a w U=>?_)
 refine zt<|wp_seq<|zg [none,none] [] [.v 7 _,.v 8 _,.v 9 _,.v 10 (Wh (_=true) _),.v 11 (Wh (_=true) _),.v 12 (Wh (_=true) _),.v 13 _] [.g 0,.g 1,.g 2,.o 6] U (zM 0 G (zv G (cI (vq 0 G) a8) (zv G (ae (vq 1 G)) (oc (an G G G (vq 2 G) nq (fun hg=>dm (lz0 1 G) ax)) (oc (an G G G (vq 2 G) nq (fun hg=>aa (xs:=[.tmp 10]) jT (.cons (ai (vq 3 G) hg) .nil))) (oc (an G G G (vq 2 G) nq (fun hg=>bD (ai (vq 4 G) hg) a8)) (zv G (bJ (vq 2 G) (vq 5 G)) o0))))))) (zz [(0,_),(2,_),(9999,_),(13,_)] [O 2 74 _,O 4 27 _] fun a w U=>?_)
 refine a7<|ah U (zm 3 G) (fun hb0=>?_) (fun hb0=>?_)
 ·have hput:=oZ (L:=L) hb0
  refine wp_ret<|ap ?_
  have U:=St.wkL U 0 rfl (bu_iv (k:=K) (k':=K1) zo hput)
  have hIf:I.length=((putQ L k p).map (EBN K1)).length:=by rw [hput,List.length_map]; exact hIl
  have hSf:=hS
  refine ml hIf hSf U (zm 1 G) (zm 2 G) (zm 0 G) ?_
  exact aS (rs:=[]) G U .nil zd
 ·have hgo:=yc (L:=L) hb0
  refine wp_skip<|zt<|zg [none,none] [] [.v 14 _,.v 15 _,.v 16 _,.v 17 _,.v 18 _,.v 5 _] [.g 0,.g 1,.g 2,.o 5] U (zv G (nE (lz0 0 G) lS) (zv G (mr (vq 0 G)) (zv G (mo (lz0 0 G) (vq 1 G) dQ) (zv G (be Tryz.underlying22 (has_wk' (vq 2 G) (owv_E hIl))) (zv G (ck (vq 3 G) a8 ((wi64 (by rw [List.length_map]; omega) (by rw [List.length_map]; omega)))) (zA 4 G o0)))))) (zz [(0,_),(2,_),(9999,_),(5,_)] [O 2 74 _,O 4 27 _] fun a w U=>?_)
  refine zt<|wp_seq<|zg [none,none] [] [.v 19 _,.v 20 _,.v 21 _,.v 22 (Wh (_=false) _),.v 23 (Wh (_=false) _),.v 24 (Wh (_=false) _),.v 25 (Wh (_=false) _),.v 26 (Wh (_=false) _),.v 27 (Wh (_=false) _),.v 28 (Wh (_=false) _),.v 29 (Wh (_=false) _),.v 30 (Wh (_=false) _),.v 31 _] [.g 0,.g 1,.g 2,.g 3,.o 12] U (zM 3 G (zv G (aN (vq 0 G) a8) (zv G (ae (vq 1 G)) (oc (an G G G (vq 2 G) nq (fun hg=>nE (lz0 0 G) lS)) (oc (an G G G (vq 2 G) nq (fun hg=>mr (ai (vq 3 G) hg))) (oc (an G G G (vq 2 G) nq (fun hg=>mo (lz0 0 G) (ai (vq 4 G) hg) dQ)) (oc (an G G G (vq 2 G) nq (fun hg=>ae (gq 3 G))) (oc (an G G G (vq 2 G) nq (fun hg=>cB cC eb_n (has_wk' (ai (vq 5 G) hg) (owv_E hIl)) (has_wk' (ai (vq 6 G) hg) (bc (tR hg))) (BC hg))) (oc (an G G G (vq 2 G) nq (fun hg=>aH (ai (vq 7 G) hg) bP (Sub.part 0 G G))) (oc (an G G G (vq 2 G) nq (fun hg=>aq (ai (vq 8 G) hg) er)) (oc (an G G G (vq 2 G) nq (fun hg=>ae (gq 0 G))) (oc (an G G G (vq 2 G) nq (fun hg=>cI (ai (vq 9 G) hg) (ai (vq 10 G) hg))) (zv G (r_or (vq 2 G) (vq 11 G)) o0))))))))))))) (zz [(0,_),(2,_),(9999,_),(5,_),(31,_)] [O 2 74 _,O 4 27 _] fun a w U=>?_)
  refine a7<|ah U (zm 4 G) (fun hb1=>?_) (fun hb1=>?_)
  ·have hput:=sL hgo hb1
   refine wp_seq ?_
   obtain ⟨qh1,U⟩:=St.newSz U 2 rfl
   obtain ⟨h1,eh1⟩:∃ h,w.heap.size=h:=⟨_,rfl⟩
   rw [eh1] at U qh1
   have U:=zn [(0,_),(2,_),(9999,_),(5,_),(31,_)] [O 2 74 _,O 4 27 _] U
   refine uc (sp:=[(fun ν=>.v 32 _),(fun ν=>.v 33 _),(fun ν=>.v 34 _),(fun ν=>.v 35 _),(fun ν=>.v 36 _),(fun ν=>.v 37 _),(fun ν=>.v 38 (PinA (ν 6) ((GeA h1 (QD c p)).and (SepAll [] (ν 6)))).va),(fun ν=>.v 39 (PinA (ν 7) ((GeA h1 QZ0).and (SepAll [ν 6] (ν 7)))).va),(fun ν=>.v 40 _),(fun ν=>.v 41 _),(fun _=>.v 42 VT),(fun _=>.v 43 VT),(fun _=>.sto 0)]) [[],[],[1],[1,2],[],[],[5],[5,6],[4,5,6,7],[4,5,6,7,8],[1,2,3,4,5,6,7,8,9],[0,1,2,3,4,5,6,7,8,9,10],[0,1,2,3,4,5,6,7,8,9,10,11]] 10 3 0 12 0 OneC [.g 0,.g 1,.g 2,.g 3,.o 0,.o 3,.o 9] [.g 0,.g 1,.g 2,.g 3,.o 3,.o 9] ab U ⟨of_u fun ν=>ob_v rfl rfl (nE (lz0 0 rfl) lS),⟨of_u fun ν=>ob_v rfl rfl (nE (lz0 0 rfl) lS),⟨of_u fun ν=>ob_v rfl rfl (mr (vq 1 rfl)),⟨of_u fun ν=>ob_v rfl rfl ((mo (lz0 0 rfl) (vq 2 rfl) dQ).wk AU),⟨of_u fun ν=>ob_v rfl rfl (ae (gq 0 rfl)),⟨of_u fun ν=>ob_v rfl rfl (dm (lz0 1 rfl) ax),⟨my (us:=fun ν=>[]) (xs:=[.tmp 37]) (s:=9999) rfl rfl (Cv zo) pg yn uh (.cons upA_qa.va .nil) (fun ν=>(.cons (vq 5 rfl) .nil)) (fun ν=>gq 2 rfl) (fun _ _=>rfl) (fun ν=>bR),⟨my (us:=fun ν=>[ν 6]) (xs:=[]) (s:=9999) rfl rfl tg yo nod_qz BX .nil (fun ν=>.nil) (fun ν=>gq 2 rfl) (fun _ _=>rfl) (fun ν=>(cj (cJ (new_ge pg)) (vq 6 rfl) bR)),⟨of_u fun ν=>ob_v rfl rfl (bi (xs:=[(0,.tmp 36),(1,.tmp 38),(2,.tmp 39)]) (qs:=[(0,_),(1,_),(2,_)]) cu (.cons ⟨rfl,(vq 4 rfl),rfl⟩ (.cons ⟨rfl,(vq 6 rfl),rfl⟩ (.cons ⟨rfl,(vq 7 rfl),rfl⟩ .nil)))),⟨of_u fun ν=>ob_v rfl rfl (cz (D:=[U32]) (l:=[_]) (xs:=[.tmp 40]) (dK zk) cC zk (n_ok zk) nq nq nq (.cons (vq 8 rfl) .nil) rfl rfl),trivial⟩⟩⟩⟩⟩⟩⟩⟩⟩⟩ ⟨(fun ν ν' h=>rfl),⟨(fun ν ν' h=>rfl),⟨(fun ν ν' h=>rfl),⟨(fun ν ν' h=>rfl),⟨(fun ν ν' h=>rfl),⟨(fun ν ν' h=>rfl),⟨(fun ν ν' h=>by first | rfl | simp only [h 6 rfl]),⟨(fun ν ν' h=>by first | rfl | simp only [h 6 rfl,h 7 rfl]),⟨(fun ν ν' h=>by first | rfl | simp only [h 6 rfl,h 7 rfl]),⟨(fun ν ν' h=>by first | rfl | simp only [h 6 rfl,h 7 rfl]),⟨(fun _ _ _=>rfl),⟨(fun _ _ _=>rfl),⟨(fun _ _ _=>rfl),trivial⟩⟩⟩⟩⟩⟩⟩⟩⟩⟩⟩⟩⟩ rfl zd zd zd zk zk (cp zk) (fun ν=>by kernel_rfl) (fun ν=>by kernel_rfl) (fun ν=>by kernel_rfl) (fun ν a w U=>?_) (fun ν a w U=>?_)
   ·have U:=zn [(0,_),(2,_),(9999,_),(5,_),(32,_),(35,_),(41,_)] [O 2 74 _,O 4 27 _] U
    rw [show List.range' 10 3=[10,11,12] from rfl]
    have U:=St.wkG U 6 rfl oM
    have U:=St.selL U [0]
    rw [wpOps_cons]
    refine tb (X:=GeA h1 (EBN c (k,p))) [0,1,2,3,4] 5 6 0 G U G G G G G zk zk G (hrm 67 zk) Tryz.underlying22 e1 e2 e3 e4 e5 zd (by rw [eY hI0,List.length_map]; omega) (by rw [eY hI0,List.length_map]; omega) zd zk zk zk zk (fun v1 w hv1 hvc U=>?_)
    rw [wpOps_cons]
    refine eQ 5 G U G zd zk zk (fun a U=>?_)
    rw [wpOps_cons]
    refine nL [3,4] 0 1 0 G U G G hv1 hvc dQ G G zk (hrm 22 zk) (fun _ h=>h) zk zk (fun w U=>?_)
    refine ff ?_
    have U:St B w0 75 [(2,_),(9999,_)] [⟨2,74,ptrH,BuA 22 67 9 [U32] gg v1 v1 (ivZ I (L.map (EBN K))++[GeA h1 (EBN c (k,p))])⟩] _ w:=U
    have U:=St.closeB nO U 0 rfl
    obtain ⟨qh2,U⟩:=St.newSz U 1 rfl
    obtain ⟨h2,eh2⟩:∃ h,w.heap.size=h:=⟨_,rfl⟩
    rw [eh2] at U qh2
    refine a7<|wp_ret<|ap ?_
    have U:=St.wkL U 0 rfl (uV (k:=K) (k':=K1) hIl zo zo hput)
    have hIf:(I++[(h1,h2)]).length=((putQ L k p).map (EBN K1)).length:=by rw [hput,List.length_map,List.length_append,List.length_append,hIl]; rfl
    have hSf:=kB hS qh1 qh2
    refine ml hIf hSf U (zm 0 G) (zm 1 G) (zm 0 G) ?_
    exact aS (rs:=[]) G U .nil zd
   ·have U:=zn [(0,_),(2,_),(9999,_),(5,_),(35,_),(41,_)] [O 2 74 _,O 4 27 _] U
    rw [show List.range' (10+1) (3-1)=[11,12] from rfl]
    have U:=St.wkG U 5 rfl oM
    have U:=St.selL U [0]
    rw [wpOps_cons]
    refine tb (X:=GeA h1 (EBN c (k,p))) [0,1,2,3] 4 5 0 G U G G G G G zk zk G (hrm 67 zk) Tryz.underlying22 e1 e2 e3 e4 e5 zd (by rw [eY hI0,List.length_map]; omega) (by rw [eY hI0,List.length_map]; omega) zd zk zk zk zk (fun v1 w hv1 hvc U=>?_)
    rw [wpOps_cons]
    refine op_ldB 0 G U G lS zd zk zk (fun a U=>?_)
    rw [wpOps_cons]
    refine eQ 0 G U G zd zk zk (fun a U=>?_)
    rw [wpOps_cons]
    refine nL [4,5] 0 2 0 G U G G hv1 hvc dQ G G zk (hrm 22 zk) (fun _ h=>h) zk zk (fun w U=>?_)
    refine ff ?_
    have U:St B w0 75 [(2,_),(9999,_)] [⟨2,74,ptrH,BuA 22 67 9 [U32] gg v1 v1 (ivZ I (L.map (EBN K))++[GeA h1 (EBN c (k,p))])⟩] _ w:=U
    have U:=St.closeB nO U 0 rfl
    obtain ⟨qh2,U⟩:=St.newSz U 1 rfl
    obtain ⟨h2,eh2⟩:∃ h,w.heap.size=h:=⟨_,rfl⟩
    rw [eh2] at U qh2
    refine a7<|wp_ret<|ap ?_
    have U:=St.wkL U 0 rfl (uV (k:=K) (k':=K1) hIl zo zo hput)
    have hIf:(I++[(h1,h2)]).length=((putQ L k p).map (EBN K1)).length:=by rw [hput,List.length_map,List.length_append,List.length_append,hIl]; rfl
    have hSf:=kB hS qh1 qh2
    refine ml hIf hSf U (zm 0 G) (zm 1 G) (zm 0 G) ?_
    exact aS (rs:=[]) G U .nil zd
  ·obtain ⟨M,q,rfl⟩:=sK hb1
   obtain ⟨I',lo,hi,rfl,hIM,hSM,hhi⟩:=vE (n:=M.length) (by rw [hIl]; simp) hS
   have U:=St.cvA (A':=BuA 22 67 9 [U32] gg v v (ivZ I' (M.map (EBN K))++[IvA lo hi (EBN K (k,q))])) U 0 rfl (congrArg (BuA 22 67 9 [U32] gg v v) (BE hIM))
   obtain ⟨gr,cap,rfl⟩:=St.dest 0 U rfl (by simp)
   have hIM2:I'.length=(M.map (EBN K)).length:=by rw [List.length_map]; exact hIM
   have hlI:((List.map (EB K) (M++[(k,q)])).length:Int)-1=((ivZ I' (M.map (EBN K))).length:Int):=by rw [eY hIM2]; simp
   have hlN:(ivZ I' (M.map (EBN K))).length<(ivZ I' (M.map (EBN K))++[IvA lo hi (EBN K (k,q))]).length:=by simp
   have hlA:(ivZ I' (M.map (EBN K))++[IvA lo hi (EBN K (k,q))])[(ivZ I' (M.map (EBN K))).length]?=some (IvA lo hi (EBN K (k,q))):=by simp
   refine wp_skip<|zt<|zg [none,none] [] [.v 44 _,.v 45 _,.v 46 _,.v 47 _,.v 48 _,.v 6 _] [.g 0,.g 1,.g 2,.g 3,.o 5] U (zv G (nE (lz0 0 G) lS) (zv G (mr (vq 0 G)) (zv G (mo (lz0 0 G) (vq 1 G) dQ) (zM 3 G (zv G (r_idxV cC zd (vq 2 G) (has_wk' (vq 3 G) (bc (congrArg In hlI))) hlN) (zA 4 G o0)))))) (zz [(0,_),(2,_),(9999,_),(5,_),(6,_)] [O 2 74 _,O 4 27 _] fun a w U=>?_)
   refine zt ?_
   obtain ⟨qh1,U⟩:=St.newSz U 2 rfl
   obtain ⟨h1,eh1⟩:∃ h,w.heap.size=h:=⟨_,rfl⟩
   rw [eh1] at U qh1
   have U:=zn [(0,_),(2,_),(9999,_),(5,_),(6,_)] [O 2 74 _,O 4 27 _] U
   refine cw (sp:=[.v 49 _,.v 50 _,.v 51 _,.v 52 _,.v 53 _,.v 54 _,.v 55 _,.v 56 VT,.v 57 VT,.sto 0]) [[],[],[1],[1,2],[1,2,3],[],[1,2,3,4,5],[0,1,2,3,4,5,6],[0,1,2,3,4,5,6,7],[0,1,2,3,4,5,6,7,8]] 7 3 0 9 OneC [.g 0,.g 1,.g 2,.g 3,.g 4,.o 0,.o 6] ab U (zM 4 G (zv G (ae (has_wk' (u4 (lz0 0 G) hlA (gq 4 G)) (yL (iv_wk.trans uD)))) (zv G (sA (vq 1 G)) (zv G (aH (vq 2 G) bg (Sub.part 1 G G)) (zv G (aq (vq 3 G) ax) (zl 1 G ax (zv G (kM (h:=h1) (s:=9999) (xs:=[.tmp 53,.tmp 54]) (AQ zo) pg yn uh (.cons upA_qa.va (.cons upA_qa.va .nil)) (.cons (has_wk' (vq 4 G) qd_qa.va) (.cons (vq 5 G) .nil)) (gq 2 G)) o0))))))) G zd zd zk (cp zk) zk zk (zz [(0,_),(2,_),(9999,_),(5,_),(6,_),(49,_),(55,_)] [O 2 74 _,O 4 27 _] fun a w U=>?_)
   rw [show List.range' 7 3=[7,8,9] from rfl]
   have U:=St.selL U [0]
   rw [wpOps_cons]
   refine eQ 5 G U G zd zk zk (fun a U=>?_)
   rw [wpOps_cons]
   refine eu 0 G U bg G zd zk zk (fun a U=>?_)
   rw [wpOps_cons]
   refine B2 (l:=ivZ I' (M.map (EBN K))) (X:=IvA lo hi (EBN K (k,q))) (X':=GeA (min lo h1) (EBN (K+c+1) (k,q+p))) (A:=GeA h1 (QD (K+c+1) (q+p))) [2,3,4,5,6] 0 8 0 G U G G ax G (put_iv AM zo) G zk G G zk (hrm 67 zk) zk zk (fun w U=>?_)
   refine ff ?_
   have U:St B w0 75 [(0,_),(2,_),(9999,_),(5,_),(6,_)] [O 2 74 _] _ _:=U
   have U:=St.closeB nO U 0 rfl
   obtain ⟨qh2,U⟩:=St.newSz U 2 rfl
   obtain ⟨h2,eh2⟩:∃ h,w.heap.size=h:=⟨_,rfl⟩
   rw [eh2] at U qh2
   have hlA2:(ivZ I' (M.map (EBN K))++[IvA (min lo h1) h2 (EBN (K+c+1) (k,q+p))])[(ivZ I' (M.map (EBN K))).length]?=some (IvA (min lo h1) h2 (EBN (K+c+1) (k,q+p))):=by simp
   refine zt<|zg [none] [] [.v 58 _,.v 59 _,.v 60 _,.v 61 (Wh (_=false) _),.v 62 (Wh (_=false) _),.v 63 (Wh (_=false) _),.v 64 (Wh (_=false) _),.v 65 (Wh (_=false) _),.v 66 (Wh (_=false) _),.v 67 _] [.g 1,.g 2,.g 3,.o 9] U (zM 0 G (zv G (bD (vq 0 G) a8) (zv G (ae (vq 1 G)) (oc (an G G G (vq 2 G) nq (fun hg=>ae (has_wk' (u4 (lz0 0 G) hlA2 (gq 4 G)) (yL (iv_wk.trans uD))))) (oc (an G G G (vq 2 G) nq (fun hg=>sA (ai (vq 3 G) hg))) (oc (an G G G (vq 2 G) nq (fun hg=>aH (ai (vq 4 G) hg) bg (Sub.part 1 G G))) (oc (an G G G (vq 2 G) nq (fun hg=>aq (ai (vq 5 G) hg) ax)) (oc (an G G G (vq 2 G) nq (fun hg=>aa (xs:=[.tmp 64]) jT (.cons (has_wk' (ai (vq 6 G) hg) qd_qa.va) .nil))) (oc (an G G G (vq 2 G) nq (fun hg=>bD (ai (vq 7 G) hg) a8)) (zv G (r_or (vq 2 G) (vq 8 G)) o0)))))))))) (zz [(2,_),(9999,_),(5,_),(67,_)] [O 2 74 _] fun a w U=>?_)
   refine a7<|ah U (zm 3 G) (fun hb2=>?_) (fun hb2=>?_)
   ·have hput:=sM (M:=M) hgo hb2
    refine cw (sp:=[.v 68 _,.v 69 _,.v 70 _,.v 71 _,.v 72 _,.v 73 _,.v 74 VT,.sto 0]) [[],[],[1],[1,2],[],[1,2,3,4],[0,1,2,3,4,5],[0,1,2,3,4,5,6]] 6 2 0 7 OneC [.g 0,.g 1,.o 0,.o 5] ab U (zv G (nE (lz0 0 G) lS) (zv G (nE (lz0 0 G) lS) (zv G (mr (vq 1 G)) (zv G (mo (lz0 0 G) (vq 2 G) dQ) (zM 2 G (zv G (r_cutV cC (vq 3 G) (has_wk' (vq 4 G) (bc (congrArg In hlI))) hlN) o0)))))) G zd zd zk (cp zk) zk zk (zz [(2,_),(9999,_),(68,_),(73,_)] [O 2 74 _] fun a w U=>?_)
    rw [show List.range' 6 2=[6,7] from rfl]
    rw [wpOps_cons]
    refine eQ 2 G U G zd zk zk (fun a U=>?_)
    rw [wpOps_cons]
    refine nL (l':=ivZ I' (M.map (EBN K))) [1,2] 0 4 0 G U G G G G dQ G G zk (hrm 22 zk) (fun _ h=>t5 h) zk zk (fun w U=>?_)
    refine ff ?_
    have U:St B w0 75 [(2,_),(9999,_)] [O 2 74 _] _ _:=U
    refine cD ?_
    have U:=St.wkL U 0 rfl (bu_iv (k:=K) (k':=K1) zo hput)
    have hIf:I'.length=((putQ (M++[(k,q)]) k p).map (EBN K1)).length:=by rw [hput,List.length_map]; exact hIM
    have hSf:=xU (hSM h1 qh1) (show min lo h1≤h2 by omega)
    refine ml hIf hSf U (zm 0 G) (zm 1 G) (zm 0 G) ?_
    exact aS (rs:=[]) G U .nil zd
   ·have hput:=sN (M:=M) hgo hb2
    refine wp_skip<|cD ?_
    have U:=St.wkL U 0 rfl (uV (k:=K) (k':=K1) hIM zo zo hput)
    have hIf:(I'++[(min lo h1,h2)]).length=((putQ (M++[(k,q)]) k p).map (EBN K1)).length:=by rw [hput,List.length_map,List.length_append,List.length_append,hIM]; rfl
    have hSf:=kB (hSM h1 qh1) (Nat.le_refl _) (show min lo h1≤h2 by omega)
    refine ml hIf hSf U (zm 0 G) (zm 1 G) (zm 0 G) ?_
    exact aS (rs:=[]) G U .nil zd
end Go.Proofs.YtmacliockgbdcaaGreatDoor
