import Derived.Test.YtmacliockgbdcaaGreatDoorBfAa
import Derived.Test.YtmacliockgbdcaaGreatDoorBfAc
import Derived.Test.YtmacliockgbdcaaGreatDoorBfAm
import Derived.Test.YtmacliockgbdcaaGreatDoorBfAo
import Derived.Test.YtmacliockgbdcaaGreatDoorBfAw
import Derived.Test.YtmacliockgbdcaaGreatDoorBfAx
import Derived.Test.YtmacliockgbdcaaGreatDoorBfAy
import Derived.ProofKit
import Derived.OpenShut
import Derived.ChangeOld
import Derived.Below
import Derived.Deep.Slices
import Derived.SizedLaws
import Derived.Laws.AppendOwn
import Derived.Orders
set_option linter.unusedVariables false
set_option linter.unusedSimpArgs false
set_option linter.unusedSectionVars false
set_option maxRecDepth 100000
namespace Go.Proofs.YtmacliockgbdcaaGreatDoor
open Go Go.RowKit
def elCostF (x:RE):Int:=IntKind.i64.wrap (fracCostF x.p+fracCostF x.q)
def elsF (n:Int):List RE→Int
 | []=>n
 | x::xs=>if decide (n≤1048576) then elsF (IntKind.i64.wrap (n+elCostF x)) xs else n
theorem els_go {n:Int}{l:List RE}{j:Nat}(h:j<l.length)(h2:n≤1048576):elsF n (l.drop j)=elsF (IntKind.i64.wrap (n+elCostF l[j])) (l.drop (j+1)):=by
 rw [List.drop_eq_getElem_cons h,elsF,if_pos (decide_eq_true h2)]
theorem Cc {n:Int}{l:List RE}{j:Nat}(h:¬ (j<l.length∧n≤1048576)):elsF n (l.drop j)=n:=by
 by_cases hj:j<l.length
 ·rw [List.drop_eq_getElem_cons hj,elsF,if_neg (by simpa using fun hh=>h ⟨hj,hh⟩)]
 ·rw [List.drop_of_length_le zo]; rfl
theorem xo (x:RE):Cn Tryz.prog 19 [(REA x).va] (In (elCostF x)):=by
 refine Cn.intro Tryz.func19 G zk nq (fun B w0 a U=>?_)
 have U:=zn [(0,(REA x).va)] [] U
 refine wp_seq<|zg [] [⟨1,67,ptrH,some 0,_,none⟩] [.alc 0,.v 2 _] [.o 1] U (oc (ay G G G (gq 0 G)) (zv G (a9 a8) o0)) (zz [(2,_)] [O 1 67 _] fun a w U=>?_)
 refine zt<|zgd [[],[0],[0,1],[],[3],[0,1,2,3,4],[0,1,2,3,4,5],[0,1,2,3,4,5,6]] [none] [] [.adr 3 1 (.some 1) True,.v 4 _,.v 5 _,.adr 6 1 (.some 5) True,.v 7 _,.v 8 _,.v 9 _,.v 2 _] [.o 7] ab U (oc (ob_a G G (ac (lz0 0 G) bg)) (zL 0 0 1 G ax (zv G (aa (xs:=[.tmp 4]) (dv _) (.cons (vq 1 G) .nil)) (oc (ob_a G G (ac (lz0 0 G) bK)) (zL 3 0 2 G ax (zv G (aa (xs:=[.tmp 7]) (dv _) (.cons (vq 4 G) .nil)) (zv G (aR (vq 2 G) (vq 5 G) (G)) (zA 6 G o0)))))))) zk zk zk zk (zz [(2,_)] [O 1 67 _] fun a w U=>?_)
 refine a7<|wp_ret<|ar ?_ (am G U (zm 0 G))
 exact bh
theorem uB (xs:List RE):Cn Tryz.prog 5 [(SlA 67 [U32] (xs.map REA)).va] (In (elsF (xs.length:Nat) xs)):=by
 refine Cn.intro Tryz.func5 G zk nq (fun B w0 a U=>?_)
 have U:=zn [(0,(SlA 67 [U32] (xs.map REA)).va)] [] U
 have hl:=fT (U.vals (0,(SlA 67 [U32] (xs.map REA)).va) (zm 0 rfl))
 refine wp_seq<|zh [.v 2 _] [.g 0,.o 0] U (zv G (a9 a8) o0) (zz [(0,_),(2,_)] [] fun a w U=>?_)
 refine zt<|zh [.v 5 _,.v 6 _,.v 3 _] [.g 0,.g 1,.o 2] U (zM 0 G (zv G (be Tryz.underlying22 (vq 0 G)) (zA 1 G o0))) (zz [(0,_),(2,_),(3,_)] [] fun a w U=>?_)
 refine zt<|wp_seq<|zh [.v 4 _] [.g 0,.g 1,.g 2,.o 0] U (zv G (a9 a8) o0) (zz [(0,_),(2,_),(3,_),(4,_)] [] fun a w U=>?_)
 refine a7<|wp_block ?_
 have U:=St.sel U [0,2,3]
 refine wp_loop_ghost (fun n a w=>∃ (j:Nat) (m:Int),(n+j=xs.length∧elsF (xs.length:Nat) xs=elsF m (xs.drop j))∧St B w0 25 [(0,(SlA 67 [U32] (xs.map REA)).va),(3,In m),(4,In (j:Nat))] [] a w) (xs.length) ?_ ?_
 ·exact ⟨0,(xs.length:Nat),⟨by omega,rfl⟩,by rw [List.length_map] at U; exact U⟩
 intro n a w hI
 obtain ⟨j,m,⟨hn,hm⟩,U⟩:=hI
 refine wp_seq<|wp_seq<|zh [.v 7 _,.v 8 _,.v 9 _,.v 10 _,.v 11 _,.v 12 (Wh (_=true) _),.v 13 (Wh (_=true) _),.v 14 _] [.g 0,.g 1,.g 2,.o 7] U (zM 2 G (zM 0 G (zv G (be Tryz.underlying22 (vq 1 G)) (zv G (aN (vq 0 G) (vq 2 G)) (zv G (ae (vq 3 G)) (oc (an G G G (vq 4 G) nq (fun hg=>ae (gq 1 G))) (oc (an G G G (vq 4 G) nq (fun hg=>qv (ai (vq 5 G) hg) a8)) (zv G (bJ (vq 4 G) (vq 6 G)) o0)))))))) (zz [(0,_),(3,_),(4,_),(14,_)] [] fun a w U=>?_)
 refine a7<|ah U (zm 3 G) (fun hb0=>?_) (fun hb0=>?_)
 ·rw [Bool.and_eq_true,decide_eq_true_eq,decide_eq_true_eq,List.length_map] at hb0
  have hj:j<xs.length:=by omega
  have hm0:=hb0.2
  refine wp_skip<|zt<|wp_block<|zh [.v 17 _,.v 18 _,.v 19 _,.v 20 _,.v 21 _,.v 22 _,.v 23 _,.v 3 _] [.g 0,.g 2,.o 7] U (zM 1 G (zM 0 G (zM 2 G (zv G (cB cC (fM fun _=>rfl) (vq 1 G) (vq 2 G) (dD hj)) (zv G (aq (vq 3 G) cb) (zv G (aa (xs:=[.tmp 21]) (xo _) (.cons (vq 4 G) .nil)) (zv G (aR (vq 0 G) (vq 5 G) (G)) (zA 6 G o0)))))))) (zz [(0,_),(4,_),(3,_)] [] fun a w U=>?_)
  refine ao ?_
  refine a7<|zh [.v 15 _,.v 16 _,.v 4 _] [.g 0,.g 2,.o 2] U (zM 1 G (zv G (aR (vq 0 G) a8 (zq hj hl)) (zA 1 G o0))) (zz [(0,_),(3,_),(4,_)] [] fun a w U=>?_)
  refine a7 ?_
  have U:=St.sel U [0,1,2]
  exact ⟨n-1,by omega,j+1,_,⟨by omega,hm.trans (els_go hj hm0)⟩,U⟩
 ·have hnj:¬ (j<xs.length∧m≤1048576):=by rintro ⟨h1,h2⟩; rw [List.length_map,decide_eq_true (by omega:(j:Int)<(xs.length:Int)),decide_eq_true h2] at hb0; exact absurd hb0 zd
  refine wp_exit<|ak<|ak<|aC<|zt<|zh [.v 24 _,.v 2 _] [.o 1] U (zM 1 G (zA 0 G o0)) (zz [(2,_)] [] fun a w U=>?_)
  refine a7<|wp_ret<|ar ?_ (am G U (zm 0 G))
  exact bc (congrArg In (hm.trans (Cc hnj)).symm)
open Go.ChangeShapes Go.WideShapes Go.ChangeAt
def wdE (x:RE):Prop:=wdF x.p∧wdF x.q
section
variable {H:Type} {enc:TypeId × Value→H} {w:World} {base:Nat} {spare:Nat→Bool} {held:Bool} {fuel:Nat} {cs:List Value} {x:DataW H × List MemPlace}
theorem rd_ek (h:DataW.trod enc Tryz.prog w base spare held fuel 65 cs=some x):∃ y,(NumA .u8 y).p w.heap.size cs w:=by
 obtain ⟨a,ha,_⟩:=DataW.trod_int Tryz.underlying65 h
 exact ⟨a,ha⟩
theorem rb_re (h:DataW.trod enc Tryz.prog w base spare held fuel 67 cs=some x)(hw:Wt Tryz.prog 67 x.1):∃ y,(REA y).p w.heap.size cs w∧wdE y:=by
 have hl:cs.length=9:=by
  obtain ⟨_,_,_,_,hl,_,_⟩:=DataW.trod_struct Tryz.underlying67 h
  exact hl.trans zk
 obtain ⟨n0,y0,h0,w0⟩:=dB Tryz.underlying67 h hw 0 rfl
 have c0:Tryz.prog.cellsOf 65=1:=by kernel_rfl
 have h0:DataW.trod enc Tryz.prog w base spare held n0 65 ((cs.drop 0).take (Tryz.prog.cellsOf 65))=some y0:=h0
 rw [c0] at h0
 obtain ⟨a0,q0⟩:=rd_ek h0
 obtain ⟨n1,y1,h1,w1⟩:=dB Tryz.underlying67 h hw 1 rfl
 have c1:Tryz.prog.cellsOf 27=4:=by kernel_rfl
 have h1:DataW.trod enc Tryz.prog w base spare held n1 27 ((cs.drop 1).take (Tryz.prog.cellsOf 27))=some y1:=h1
 rw [c1] at h1
 obtain ⟨a1,q1,b1⟩:=qq h1 w1
 obtain ⟨n2,y2,h2,w2⟩:=dB Tryz.underlying67 h hw 2 rfl
 have c2:Tryz.prog.cellsOf 27=4:=by kernel_rfl
 have h2:DataW.trod enc Tryz.prog w base spare held n2 27 ((cs.drop 5).take (Tryz.prog.cellsOf 27))=some y2:=h2
 rw [c2] at h2
 obtain ⟨a2,q2,b2⟩:=qq h2 w2
 exact ⟨⟨a0,a1,a2⟩,uS q0 q1 q2 hl,⟨b1,b2⟩⟩
end
theorem Cd {x:RE}(h:wdE x):∃ a b:Nat,elCostF x=((a+b:Nat):Int)∧(x.p.num.mag.length+x.p.den.mag.length+2≤a∧x.q.num.mag.length+x.q.den.mag.length+2≤b)∧a+b≤9007199254740992:=by
 obtain ⟨h1,h2⟩:=h
 obtain ⟨a,ea,la,ma⟩:=ee h1
 obtain ⟨b,eb,lb,mb⟩:=ee h2
 refine ⟨a,b,?_,⟨by omega,by omega⟩,by omega⟩
 unfold elCostF
 rw [ea,eb,wi64 zo zo]
 omega
def shE (c:Nat)(x:RE):Prop:=(x.p.num.mag.length≤c∧x.p.den.mag.length≤c)∧x.q.num.mag.length≤c∧x.q.den.mag.length≤c
theorem yK:∀ (xs:List RE) (n:Nat),(∀ x∈xs,wdE x)→n≤288230376151711744→∃ c:Nat,elsF (n:Int) xs=(c:Int)∧c≤576460752303423488∧(c≤1048576→n+4*xs.length≤c∧∀ x∈xs,shE c x)
 | [],n,_,hn=>⟨n,rfl,by omega,fun _=>⟨Nat.le_refl _,fun x hx=>by cases hx⟩⟩
 | x::xs,n,hw,hn=>by
  obtain ⟨a,b,e,l,hs⟩:=Cd (hw x (by simp))
  by_cases h:n≤1048576
  ·obtain ⟨c,h1,h2,h3⟩:=yK xs (n+(a+b)) (fun y hy=>hw y (by simp [hy])) zo
   refine ⟨c,?_,h2,fun hc=>?_⟩
   ·rw [elsF,if_pos (decide_eq_true zo),e,wi64 zo zo]
    exact h1
   ·obtain ⟨h4,h5⟩:=h3 hc
    refine ⟨by simp only [List.length_cons]; omega,fun y hy=>?_⟩
    rcases List.mem_cons.1 hy with rfl | hy
    ·unfold shE; omega
    ·exact h5 y hy
  ·refine ⟨n,?_,by omega,fun hc=>absurd hc h⟩
   rw [elsF,if_neg (by intro h2; have:=of_decide_eq_true h2; omega)]
theorem els_bd {xs:List RE}{c:Nat}(h:∀ x∈xs,shE c x)(hc:c≤1048576):∀ x∈xs,bdF x.p∧bdF x.q:=fun x hx=>by
 have:=h x hx
 unfold shE at this
 unfold bdF
 omega
theorem xP {E:TypeId}{D:List TypeId}{l:List As}(h:∀ A∈l,UpA A A):Up (SlA E D l).va (SlA E D l).va:=fun B v w hB hp=>slx _ _ _ ((ns h).va B v w hB hp)
theorem zc:WkA (cat ZBk) (BkF [] [] []):=⟨rfl,rfl,fun B cs w ⟨ps,e,hp⟩=>by
 refine ⟨⟨0,.slice none 0 0,[],.slice none 0 0,[],.slice none 0 0,[]⟩,.slice none 0 0,[],⟨rfl,rfl,⟨rfl,fun s hs=>by cases hs⟩,⟨rfl,fun s hs=>by cases hs⟩,⟨rfl,fun s hs=>by cases hs⟩⟩,ps,e,?_⟩
 have hk:∀ {H E m:Nat} {c:List Value},(EqS (.slice none 0 0)).p B c w→(HkA H E m (.slice none 0 0) []).p B c w:=fun {H E m c} h=>⟨h.1,World.ownsRow_nil ..,(fun s hs=>by cases hs),fun i j s t h=>by cases h⟩
 cases hp with
 | cons h1 hp=>cases hp with
  | cons h2 hp=>cases hp with
   | cons h3 hp =>
    refine .cons h1 (.cons ⟨h2.1,World.ownsRow_nil ..,(fun s hs=>by cases hs),fun i j s t h=>by cases h⟩ (.cons (hk h3) ?_))
    iterate 5 (cases hp; rename_i h3 hp; refine .cons h3 ?_)
    cases hp; rename_i h3 hp; refine .cons (hk h3) ?_
    cases hp; rename_i h3 hp; refine .cons (hk h3) ?_
    iterate 7 (cases hp; rename_i h3 hp; refine .cons h3 ?_)
    cases hp
    exact .nil⟩
theorem lnK_e {x:RE}{m:Nat→Value}(h:bdF x.p∧bdF x.q):LnK (ke x m):=eC (qO h.1) (qO h.2)
theorem tO {ms:Nat→Nat→Value}{xs:List RE}(h:∀ x∈xs,bdF x.p∧bdF x.q):LnK (lsK reO ke ms xs xs.length):=by
 have key:∀ i,i≤xs.length→LnK (lsK reO ke ms xs i):=fun i=>by
  induction i with
  | zero=>exact fun _ p hp=>by cases hp
  | succ i ih =>
   intro hi
   rw [mD]
   refine eC (ih zo) (lnK_e (h _ ?_))
   rw [List.getD_eq_getElem?_getD,List.getElem?_eq_getElem zo]
   exact List.getElem_mem _
 exact key _ (Nat.le_refl _)
theorem zQ {E m:Nat}{xs:List RE}{z:As}{Y:VA}:Wk (andV (TwS E m [U32] (xs.map RET) z) Y) (SlA E [U32] (xs.map REA)).va:=br z6 (br Dg (nx (dr fun x=>zj) (cm (p:=fun A=>∀ T∈A.deps,T∈[U32]) fun x=>fX zk)).va)
theorem tD {q:Nat→Prop}{E m:Nat}{xs:List RE}:Wk (LsQ q E m [U32] (xs.map REN)) (SlA E [U32] (xs.map REA)).va:=br tE (nx (dr fun x=>so) (cm (p:=fun A=>∀ T∈A.deps,T∈[U32]) fun x=>fX zk)).va
def OwIC (E m:Nat)(D:List TypeId)(l:List As):As where
 n:=1
 ag:=false
 p B cs w:=∃ (I:List (Nat × Nat)) (top:Nat),I.length=l.length∧Srt I top∧top≤w.heap.size∧(OwnC E m D (ivZ I l)).p B cs w
 deps:=E::D
 len:=fun B cs w ⟨I,_,_,_,_,h⟩=>(OwnC E m D (ivZ I l)).len B cs w h
 one:=fun B cs w ⟨I,_,_,_,_,h⟩=>(OwnC E m D (ivZ I l)).one B cs w h
 ag1:=fun _=>rfl
 cg:=fun B cs w w' hg ⟨I,top,h1,h2,h3,h4⟩=>⟨I,top,h1,h2,Nat.le_trans h3 hg.le,(OwnC E m D (ivZ I l)).cg _ _ _ _ hg h4⟩
 wr:=fun B cs w w' g c T fz q1 q2 q3 q4 ⟨I,top,h1,h2,h3,h4⟩=>⟨I,top,h1,h2,by rw [q4.size]; exact h3,(OwnC E m D (ivZ I l)).wr _ _ _ _ _ _ _ _ q1 q2 q3 q4 h4⟩
section
variable {B N:Nat} {w0:Bs} {Γ:List (Nat × VA)} {Λ:List Lc} {a:Act} {w:World}
end
theorem AZ {E m:Nat}{D:List TypeId}{l:List As}:Wk (OwIC E m D l).va (LsN E m D l):=fun B v w ⟨cs,⟨I,top,h1,h2,_,u,e,h4⟩,hv⟩=>by
 subst e
 have hv':v=u:=hv
 subst hv'
 exact sZ h1 h2 (Nat.le_refl _) h4
theorem ti {q:Nat→Prop}{E m:Nat}{D:List TypeId}:Wk (EqV (.slice none 0 0)) (LsQ q E m D []):=fun B v w h=>by
 have h':v=.slice none 0 0:=h
 subst h'
 exact ⟨fun A hA=>(by cases hA),fun A hA=>(by cases hA),⟨[],⟨[],rfl,.nil⟩,World.ownsRow_nil ..,List.nodup_nil,fun g hg=>(by cases hg)⟩,fun g hg=>by cases hg⟩
section
open Rg
variable {P:Program} {Q:Exit→Act→World→Prop} {R:Rg} {B i:Nat} {w0:Bs}
theorem mu {f h s E m:Nat}{D:List TypeId}{Xs:List As}{C:As}{pre pre':List VA}{xs:List Operand}{at_:Array TypeId}(hc:Cn P f pre' (Tu [LsN E m D Xs,C.va]))(hN:∀ A∈Xs,NewA A)(hF:∀ A∈Xs,FreeA A A)(hfC:FreeA C C)(hup:All2 Up pre pre')(hx:HasL R B w0 i xs pre)(hs:Has R B w0 i (.tmp s) (SzV h)):Wv P Q R B w0 i (.call ⟨.value (.func f),xs.toArray,at_⟩) (Tu [LsG h E m D Xs,C.va]):=by
 intro d T ps af gd a w av K hK
 obtain ⟨⟨fn,hf,hn,hb⟩,hcall⟩:=hc
 have hrun:(execOp a.eval ⟨some d,.call ⟨.value (.func f),xs.toArray,at_⟩,T,ps,af,gd⟩).run P w=.ok (.enter f (xs.map a.eval).toArray) w:=by
  simp only [execOp,resolve,Act.eval,Deferred.ofValue,Sem.run_bind,Sem.run_pure,Result.andThen_ok,invoke,bk hf hn hb]
  simp
 have hsz:h≤w.heap.size:=hs a w av
 unfold Oper.wp
 rw [hrun]
 refine (hcall w.heap.size w _ (Nat.le_refl _) (v4 hup hx av)).mono ?_
 rintro e w' ⟨v,rfl,⟨vs,hv,h2⟩,hg⟩
 cases h2 with
 | @cons _ x _ vs h2 h3=>cases h3 with
  | @cons _ y _ vs h3 h4 =>
   cases h4
   obtain ⟨ds,hq,hsq⟩:=h3
   exact hK v w' hg ⟨[x,y],hv,.cons (Bl hF hN (Av.bw av) hsz h2) (.cons ⟨ds,hfC.2.2 _ _ _ _ (Av.bw av) hq,hsq⟩ .nil)⟩
end
abbrev EQ:=Int × Rat
def putQ (L:List EQ)(k:Int)(p:Rat):List EQ :=
 if k≠5∧p=0 then L else
 match L.getLast? with
 | none=>L++[(k,p)]
 | some e=>if e.1=k then (if k=5∨e.2+p=0 then L.dropLast else L.dropLast++[(k,e.2+p)]) else L++[(k,p)]
theorem gK (L:List EQ)(k:Int)(p:Rat):(putQ L k p).length≤L.length+1:=by
 unfold putQ
 split
 ·omega
 ·split
  ·simp
  ·split
   ·split
    ·simp only [List.length_dropLast]; omega
    ·simp only [List.length_append,List.length_dropLast,List.length_cons,List.length_nil]; omega
   ·simp
def tailQ (L:List EQ)(m:MQ):List EQ:=putQ (putQ (putQ L 2 ((1-m.a)/m.b)) 1 m.b) 2 ((1-m.d)/m.b)
def bareQ (L:List EQ)(m:MQ):List EQ:=putQ L 2 (0-m.c)
def negM (m:MQ):MQ:=⟨0-m.a,0-m.b,0-m.c,0-m.d⟩
def preM (m:MQ):MQ:=⟨m.a,m.b-m.a,m.c,m.d-m.c⟩
def restQ (L:List EQ)(m:MQ):List EQ:=if m.b=0∧m.a<0 then tailQ (putQ L 1 1) (preM m) else if m.b=0 then bareQ L m else tailQ L m
def flipQ (m:MQ):Bool:=decide (m.b<0) || (decide (m.b=0)&&(decide (0-m.a=1) || (decide (0<m.a) && !decide (m.a=1))))
def partsQ (m:MQ):List EQ:=if flipQ m then restQ (putQ [] 5 0) (negM m) else restQ [] m
def BuA (T E:TypeId)(m:Nat)(D:List TypeId)(g:Nat)(v u:Value)(l:List As):As where
 n:=1
 ag:=false
 p B cs w:=cs=[ptr g]∧B≤g∧w.heap[g]?=some (.cells #[v] T (0,0))∧(OwnR B E m D l).p B u w
 deps:=T::E::D
 len:=by rintro B cs w ⟨rfl,_⟩; rfl
 one:=by
  rintro B cs w ⟨rfl,_⟩ c hc
  obtain rfl:=List.mem_singleton.1 hc
  rfl
 ag1:=fun _=>rfl
 cg:=fun B cs w w' hg ⟨h1,h2,h3,h4⟩=>⟨h1,h2,hg.heap h3,(OwnR B E m D l).cg _ _ _ _ hg h4⟩
 wr:=by
  rintro B cs w w' k c T' fz hk hT hB hW ⟨h1,h2,h3,h4⟩
  simp only [List.mem_cons,not_or] at hT
  have n1:g≠k:=by
   rintro rfl
   rw [hk] at h3
   injection h3 with h3
   injection h3 with _ h3 _
   exact hT.1 h3
  exact ⟨h1,h2,(hW.block g n1).trans h3,(OwnR B E m D l).wr _ _ _ _ _ _ _ _ hk (by show T' ∉ E::D; simp only [List.mem_cons,not_or]; exact hT.2) hB hW h4⟩
theorem bu_wk {T E:TypeId}{m:Nat}{D:List TypeId}{g:Nat}{v u:Value}{l l':List As}(h:All2 WkA l l')(hm:∀ A∈l',A.n=m)(hD:∀ A∈l',∀ T∈A.deps,T∈D):WkA (BuA T E m D g v u l) (BuA T E m D g v u l'):=⟨rfl,rfl,fun B cs w ⟨h1,h2,h3,h4,h5,ds,h6,h7⟩=>⟨h1,h2,h3,hm,hD,ds,(bz h).2.2 _ _ _ h6,by rw [← h.length]; exact h7⟩⟩
def OwVB (E:TypeId)(m:Nat)(D:List TypeId)(v:Value)(l:List As):VA where
 p B x w:=x=v∧(OwnR B E m D l).p B v w
 deps:=E::D
 cg:=fun B x w w' hg ⟨h1,h2⟩=>⟨h1,(OwnR B E m D l).cg _ _ _ _ hg h2⟩
 wr:=fun B x w w' g c T fz h1 h2 h3 h4 ⟨h5,h6⟩=>⟨h5,(OwnR B E m D l).wr _ _ _ _ _ _ _ _ h1 h2 h3 h4 h6⟩
theorem owv_sl {E:TypeId}{m:Nat}{D:List TypeId}{v:Value}{l:List As}:Wk (OwVB E m D v l) (SlA E D l).va:=fun B x w ⟨e,h⟩=>eP B x w (e▸h)
theorem AU {E:TypeId}{m:Nat}{D:List TypeId}{v:Value}{l:List As}:Wk (OwVB E m D v l) (EqV v):=fun B x w ⟨e,h⟩=>e
theorem p7 {b B E m:Nat}{D:List TypeId}{v:Value}{l:List As}{w:World}(h:(OwnR b E m D l).p B v w)(hl:0<l.length):∃ gr cap,v=.slice (some ⟨gr,0,none⟩) l.length cap:=by
 obtain ⟨_,_,ds,_,_,h5⟩:=h
 rcases h5 with ⟨_,h5⟩ | ⟨g,cap,cur,e1,_⟩
 ·omega
 ·exact ⟨g,cap,e1⟩
theorem St.dest {B N:Nat}{w0:Bs}{Γ:List (Nat × VA)}{Λ:List Lc}{a:Act}{w:World}{T E:TypeId}{m:Nat}{D:List TypeId}{g sx:Nat}{Tp:TypeId}{v u:Value}{l:List As}(k:Nat)(h:St B w0 N Γ Λ a w)(hl:Λ[k]?=some ⟨sx,Tp,ptrH,BuA T E m D g v u l⟩)(h0:0<l.length):∃ gr cap,u=.slice (some ⟨gr,0,none⟩) l.length cap:=by
 obtain ⟨_,cs,_,_,_,_,_,_,q⟩:=h.locs _ (List.mem_of_getElem? hl)
 exact p7 q h0
section
variable {P:Program} {R:Rg} {Q:Exit→Act→World→Prop} {B i:Nat} {w0:Bs} {T E Tp:TypeId} {m:Nat} {D:List TypeId} {g:Nat} {v u:Value} {l:List As}
theorem nE {b:Nat}{ty:TypeId}(hl:Loc R i b Tp (BuA T E m D g v u l))(ht:Ty P ty 1 false):Wv P Q R B w0 i (.load ty (.tmp b)) (EqV (ptr g)) :=
 (dm hl ht).wk fun B x w ⟨cs,⟨e,_⟩,hv⟩=>by subst e; exact hv
theorem mr {x:Operand}{a:Addr}(hx:Has R B w0 i x (EqV (.pointer (some a)))):Wv P Q R B w0 i (.nilCheck x) (EqV (.pointer (some a))) :=
 bb fun _ _ _ _ _ a' w av=>by
  have e:a'.eval x=.pointer (some a):=hx a' w av
  exact ⟨.pointer (some a),w,by simp [execOp,e],Grow.refl w,rfl⟩
theorem sA {x:Operand}{A:As}(hx:Has R B w0 i x (ElP E A)):Wv P Q R B w0 i (.nilCheck x) (ElP E A) :=
 bb fun _ _ _ _ _ a' w av=>by
  obtain ⟨b,o,cs,e,h⟩:=hx a' w av
  exact ⟨.pointer (some ⟨b,o,none⟩),w,by simp [execOp,e],Grow.refl w,b,o,cs,rfl,h⟩
theorem mo {b:Nat}{x:Operand}{ty:TypeId}(hl:Loc R i b Tp (BuA T E m D g v v l))(hx:Has R B w0 i x (EqV (ptr g)))(ht:Ty P ty 1 false):Wv P Q R B w0 i (.load ty x) (OwVB E m D v l) :=
 bb fun _ _ _ _ _ a w av=>by
  obtain ⟨_,cs,_,_,_,_,_,h3,h4⟩:=hl.ok av
  have e:a.eval x=.pointer (some ⟨g,0,none⟩):=hx a w av
  have:=cy ht w g 0 [v] rfl (fun _=>rfl) (fun j u hu=>by
   rw [Nat.zero_add,cell_of_row w g j #[v] T _ h3]
   simpa using hu)
  exact ⟨v,w,by simp [execOp,e,Instr.loadAt,Instr.sureAddr,this,shape],Grow.refl w,rfl,h4⟩
theorem r_idxV {x y:Operand}{S:TypeId}{k gr n c:Nat}{kd:IntKind}(hS:Sl P S E m)(h0:m≠0)(hx:Has R B w0 i x (OwVB E m D (.slice (some ⟨gr,0,none⟩) n c) l))(hy:Has R B w0 i y (NumA kd k).va)(hk:k<n) :
  Wv P Q R B w0 i (.indexAddr S x y) (EqV (.pointer (some ⟨gr,k*m,none⟩))) :=
 bb fun _ _ _ _ _ a w av=>by
  have hv:a.eval x=.slice (some ⟨gr,0,none⟩) n c:=(hx a w av).1
  have e:=bj (hy a w av)
  obtain ⟨hs1,hs2⟩:=hS
  refine ⟨.pointer (some ⟨gr,k*m,none⟩),w,?_,Grow.refl w,rfl⟩
  cases hi:P.info? E with
  | none=>rw [hi] at hs2; simp at hs2
  | some it =>
   rw [hi] at hs2
   have hsz:it.size=m:=by simpa using hs2
   have hk2:¬ n≤k:=by omega
   simp [execOp,hv,e,Instr.indexAt,asIntOf,run_underlying hs1,hk2,sizeOf,typeInfo,hi,hsz,jH]
theorem u4 {b:Nat}{x:Operand}{k gr n c:Nat}{A:As}(hl:Loc R i b Tp (BuA T E m D g v (.slice (some ⟨gr,0,none⟩) n c) l))(hk:l[k]?=some A)(hx:Has R B w0 i x (EqV (.pointer (some ⟨gr,k*m,none⟩)))):Has R B w0 i x (ElP E A):=fun a w av=>by
 obtain ⟨_,cs,_,_,_,_,_,_,h1,h2,ds,h3,hln,h5⟩:=hl.ok av
 have e:a.eval x=.pointer (some ⟨gr,k*m,none⟩):=hx a w av
 have hlt:k<l.length:=(List.getElem?_eq_some_iff.1 hk).1
 rcases h5 with ⟨h5,_⟩ | ⟨g',cap,cur,e1,e2,e3,e4,e5,e6,e7⟩
 ·cases h5
 ·injection e1 with e1 e1n e1c
  injection e1 with e1
  injection e1 with e1
  subst e1
  obtain ⟨p1,l1⟩:=lJ h3 hk
  have ho:=pa h1 (k:=k) zo
  unfold offs at ho
  rw [ho] at p1 l1
  rw [e]
  refine ⟨gr,k*m,_,rfl,(Array.getElem?_eq_some_iff.1 e3).1,.inr ⟨_,_,e3⟩,p1,fun j u hu=>?_⟩
  rw [List.getElem?_take] at hu
  split at hu
  ·rw [List.getElem?_drop] at hu
   rw [cell_of_row w gr (k*m+j) cur E _ e3]
   rw [← e7,List.getElem?_take] at hu
   split at hu
   ·simpa using hu
   ·cases hu
  ·cases hu
theorem r_cutV {x y:Operand}{S:TypeId}{k gr n c:Nat}{kd:IntKind}(hS:Sl P S E m)(hx:Has R B w0 i x (OwVB E m D (.slice (some ⟨gr,0,none⟩) n c) l))(hy:Has R B w0 i y (NumA kd k).va)(hk:k<n) :
  Wv P Q R B w0 i (.slice S x none (some y) none) (EqV (.slice (some ⟨gr,0,none⟩) k c)) :=
 bb fun _ _ _ _ _ a w av=>by
  obtain ⟨hv,_,_,ds,_,hln,h5⟩:=hx a w av
  have e:=bj (hy a w av)
  obtain ⟨hs1,hs2⟩:=hS
  have hE:P.elem S=E:=by simp [Program.elem,hs1]
  have hs1':P.underlying S=some (.slice (P.elem S)):=by rw [hE]; exact hs1
  have hcn:n≤c:=by
   rcases h5 with ⟨h5,_⟩ | ⟨g',cap,cur,e1,e2,e3,e4,e5,e6,e7⟩
   ·cases h5
   ·injection e1 with e1 e1n e1c
    omega
  have hr:=run_slice_h (P:=P) w S (some ⟨gr,0,none⟩) n c hs1' kd (k:Int) zo zo
  have hsz:(sizeOf (P.elem S)).run P w=.ok m w:=by
   rw [hE]
   cases hi:P.info? E with
   | none=>rw [hi] at hs2; simp at hs2
   | some it=>rw [hi] at hs2; simp [sizeOf,typeInfo,hi]; simpa using hs2
  rw [hsz] at hr
  refine ⟨_,w,?_,Grow.refl w,rfl⟩
  simp only [execOp,hv,e,Option.map_some,Option.map_none,run_sliceAt_slice _ _ _ _ _ _ hs1',Sem.run_bind,Sem.run_pure]
  erw [hr]
  have hc0:¬ c=0:=by omega
  simp [sliced,hc0,jH]
end
def CB (P:Program)(f:FuncId)(Tp T:TypeId)(Ts:List TypeId)(A0 A1:As)(pre:List VA)(post:VA):Prop :=
 (∃ fn, P.funcs[f]? = some fn ∧ (fn.name == "runtime.NumGoroutine") = false ∧ fn.body.isNone = false) ∧
 ∀ (B:Nat) (w:World) (c g:Nat) (cs args:List Value),B≤c→B≤g→w.heap[c]?=some (.cells #[ptr g] Tp (0,0))→w.heap[g]?=some (.cells cs.toArray T (0,0))→A0.p B cs w→All2 (fun (A:VA) v=>A.p B v w) pre args →
  Calls P f (args++[ptr c]).toArray w fun e w'=>∃ v cs',e=.returned v∧post.p B v w'∧Kept (Wid B w Ts) w'∧w'.heap[g]?=some (.cells (List.toArray cs') T (0,0))∧A1.p B cs' w'
def RQb (B:Nat)(w0:Bs)(c g:Nat)(Tp T:TypeId)(A1:As)(post:VA):Ending→World→Prop:=fun e w'=>∃ v cs',e=.returned v∧post.p B v w'∧Kept w0 w'∧w'.heap[c]?=some (.cells #[ptr g] Tp (0,0))∧w'.heap[g]?=some (.cells (List.toArray cs') T (0,0))∧A1.p B cs' w'
theorem qf {α β:Type}{R':α→β→Prop}{l:List α}{m:List β}{x:α}{y:β}(h:All2 R' l m)(hx:R' x y):All2 R' (l++[x]) (m++[y]):=iE h (.cons hx .nil)
theorem CB.intro {P : Program} {f : FuncId} {fn : Func} {cd : Code} {Tp T E : TypeId} {Ts : List TypeId} {m : Nat} {D : List TypeId} {l : List As} {A1 : As} {pre : List VA} {post : VA} (hf : P.funcs[f]? = some fn) (hb : fn.body = some cd) (hn : (fn.name == "runtime.NumGoroutine") = false) (hsz : pre.length + 1 ≤ fn.ntmps)
  (h:∀ (B c g:Nat) (v:Value) (w0:Bs) (a:Act),(∀ E,Ts.contains E=true→RowMay w0 B E)→St B w0 fn.ntmps (argΓ (pre++[EqV (ptr c)])) [⟨pre.length,Tp,ptrH,BuA T E m D g v v l⟩] a w0.w→cd.wp P (bPost P fn (RQb B w0 c g Tp T A1 post)) a w0.w):CB P f Tp T Ts (OwnC E m D l) A1 pre post:=by
 refine ⟨⟨fn,hf,hn,by rw [hb]; rfl⟩,fun B w c g cs args hBc hBg hc hg hp ha=>?_⟩
 obtain ⟨v,rfl,hown⟩:=hp
 have hlc:=(Array.getElem?_eq_some_iff.1 hc).1
 have hl:=ha.length
 have ha':All2 (fun (A:VA) v=>A.p B v w) (pre++[EqV (ptr c)]) (args++[ptr c]):=qf ha rfl
 refine (bQ hf hb (h B c g v ⟨w,fun k=>k=c∨(Wid B w Ts).F k,false⟩ _ (fun E hE w1 g' cc fz hk hB' hcc=>?_) ?_)).mono fun _ w' ⟨v',cs',he,hv,hk,h1,h2,h3⟩=>⟨v',cs',he,hv,?_,h2,h3⟩
 ·by_cases hlt:g'<w.heap.size
  ·by_cases hF:g'=c∨(Wid B w Ts).F g'
   ·exact .inr hF
   ·exact .inr (.inr ⟨hB',cc,E,fz,(hk.block g' hlt hF).symm.trans hcc,by simpa using hE⟩)
  ·exact .inl (Nat.le_of_not_lt hlt)
 ·refine ⟨fun k hk=>?_,DefOk.nil rfl,?_,Kept.refl _,All2.args ha',fun l' hl'=>?_,fun l' hl' m' hm' hne=>?_⟩
  ·rcases hk with hk | hk | hk
   ·exact Nat.le_trans hBc (Nat.le_trans (Nat.le_of_lt hlc) hk)
   ·exact hk▸hBc
   ·exact hk.1
  ·simp only [Array.size_append,List.size_toArray,Array.size_replicate,List.length_append,List.length_cons,List.length_nil]
   omega
  ·simp at hl'
   subst hl'
   have h0:=All2.args (N:=fn.ntmps-(args++[ptr c]).toArray.size) ha' (pre.length,EqV (ptr c)) (by
    unfold argΓ
    exact List.mem_map.2 ⟨(EqV (ptr c),pre.length),List.mem_zipIdx_iff_getElem?.2 (by simp),rfl⟩)
   exact ⟨c,[ptr g],h0,.inr (.inl G),hc,rfl,hBg,hg,hown⟩
  ·simp at hl' hm'
   subst hl' hm'
   exact absurd G hne
 ·refine ⟨hk.os,hk.tape,hk.output,hk.size,fun k hk1 hk2=>?_⟩
  by_cases hkc:k=c
  ·subst hkc
   exact h1.trans hc.symm
  ·exact hk.block k hk1 fun hh=>hh.elim hkc hk2
section
open Rg
variable {P:Program} {Q:Exit→Act→World→Prop} {B N:Nat} {w0:Bs} {Γ:List (Nat × VA)} {Λ:List Lc} {a:Act} {w:World} {ops:Array Oper} {i:Nat} {K:Act→World→Prop} {T E Tp:TypeId} {m:Nat} {D:List TypeId} {g:Nat} {v:Value} {l:List As}
theorem tb {d s t sx:Nat}{S T1:TypeId}{ps:String}{af:Array Edge}{X:As}{bytes:Nat}{D':List TypeId}{it:TypeInfo}{z:Value}(src:List Nat)(ks ku e:Nat)
  (ho:ops[i]?=some ⟨some d,.call ⟨.builtin .append,#[.tmp s,.tmp t],#[S,S]⟩,T1,ps,af,none⟩) (h:St B w0 N Γ Λ a w)
  (hs:Γ[ks]?=some (s,EqV v)) (hu:Γ[ku]?=some (t,(SlA E D' [X]).va)) (hl:Λ[e]?=some ⟨sx,Tp,ptrH,BuA T E m D g v v l⟩) (hTE:(Tp != E)=true) (hT:(T != E)=true) (hED:D.contains E=false) (hD':D'.all (fun t=>D.contains t)=true) (hXn:X.n=m) (hrm:RowMay w0 B E)
  (hS:P.underlying S=some (.slice E)) (hi:P.info? E=some it) (hz:it.zero=some z) (hsz1:it.size=m) (hby:it.bytes=bytes) (hzs:z.cells.size=m) (hm0:0<m) (hn:(l.length+1)*bytes≤140737488355328) (hn2:l.length≤1000000000000000)
  (hd:d<N) (hΓ:Γ.all (fun x=>x.1 != d)=true) (hΛd:Λ.all (fun l=>l.s != d)=true)
  (hsrc:src.all (fun k=>match Γ[k]? with | some y => !y.2.deps.contains E | none=>false)=true) (hΛ:Λ.zipIdx.all (fun x=>x.2==e || (x.1.T != E && !x.1.A.deps.contains E))=true)
  (hK:∀ v' w',v'.oneCell'=true→v'.cells = #[v']→St B w0 N ((d,EqV v')::src.filterMap fun k=>Γ[k]?) (Λ.set e ⟨sx,Tp,ptrH,BuA T E m D g v v' (l++[X])⟩) (a.put (some d) v') w'→K (a.put (some d) v') w'):wpOp P ops Q i K a w:=by
 obtain ⟨g0,cs0,q1,q2,q3,q4,q5,q6,q7,q8,ds,q9,q10⟩:=h.locs _ (List.mem_of_getElem? hl)
 have hED':E ∉ D:=by simpa using hED
 have hDD:∀ t∈D',t∈D:=fun t ht=>by simpa using List.all_eq_true.1 hD' t ht
 obtain ⟨_,⟨hXd,_⟩,_⟩:=h.vals _ (List.mem_of_getElem? hu)
 have hTE':T≠E:=by simpa using hT
 refine fJ (X:=X) (xs:=ds) (n:=l.length) (m:=m) (bytes:=bytes) (A1:=fun v'=>BuA T E m D g v v' (l++[X])) (F:=fun ds'=>X.p B ds' w) src ks ku e ho h hs hu (fun _ hx=>hx) hXn hl hTE hrm hS hi hz hsz1 hby hzs hm0 hn hn2 hd hΓ hΛd hsrc hΛ (fun cs hp=>⟨q10,fun v' w' ds' hF how hgr hor=>?_⟩) (fun v' w' U=>?_)
 ·have hro:=dT q10
  refine ⟨hp.1,hp.2.1,?_,fun A hA=>?_,fun A hA=>?_,ds++ds',?_,by rw [List.length_append]; exact how⟩
  ·refine (hgr.block g (Array.getElem?_eq_some_iff.1 q6).1 (fun e5=>?_)).trans q6
   obtain ⟨_,c',fz',e6⟩:=hro g e5.symm
   rw [q6] at e6
   injection e6 with e6
   injection e6 with _ e6 _
   exact hTE' e6
  ·rcases List.mem_append.1 hA with hA | hA
   ·exact q7 A hA
   ·obtain rfl:=List.mem_singleton.1 hA
    exact hXn
  ·rcases List.mem_append.1 hA with hA | hA
   ·exact q8 A hA
   ·obtain rfl:=List.mem_singleton.1 hA
    exact fun t ht=>hDD t (hXd A (by simp) t ht)
  ·refine jq (As.grown q9 hgr hro (Nat.le_refl B) (fc q8 hED')) ?_
   have:(cat [X]).p B ds' w:=⟨[ds'],by simp,.cons hF .nil⟩
   exact As.grown this hgr hro (Nat.le_refl B) (fc (fun A hA t ht=>hDD t (hXd A hA t ht)) hED')
 ·have hl':e<Λ.length:=(List.getElem?_eq_some_iff.1 hl).1
  obtain ⟨_,_,_,_,_,_,_,_,_,_,ds2,_,_,q11⟩:=U.locs ⟨sx,Tp,ptrH,BuA T E m D g v v' (l++[X])⟩ (List.mem_of_getElem? (i:=e) (by rw [List.getElem?_set_self hl']))
  rcases q11 with ⟨rfl,_⟩ | ⟨g',cap,cur,rfl,_⟩
  ·exact hK _ w' G G U
  ·exact hK _ w' G G U
theorem nL {p d sx:Nat}{ty T':TypeId}{ps:String}{af:Array Edge}{u u':Value}{l':List As}(src:List Nat)(kp kd e:Nat)(ho:ops[i]?=some ⟨none,.store ty (.tmp p) (.tmp d),T',ps,af,none⟩)(h:St B w0 N Γ Λ a w)
  (hp:Γ[kp]?=some (p,EqV (.pointer (some ⟨g,0,none⟩)))) (hd:Γ[kd]?=some (d,EqV u)) (hv1:u.oneCell'=true) (hvc:u.cells = #[u]) (ht:Ty P ty 1 false) (hl:Λ[e]?=some ⟨sx,Tp,ptrH,BuA T E m D g v u' l⟩) (hTp:(Tp != T)=true) (hTD:(E::D).contains T=false) (hrm:RowMay w0 B T)
  (hown:∀ w,(OwnR B E m D l).p B u' w→(OwnR B E m D l').p B u w)
  (hsrc:src.all (fun k=>match Γ[k]? with | some y => !y.2.deps.contains T | none=>false)=true) (hΛ:Λ.zipIdx.all (fun x=>x.2==e || (x.1.T != T && !x.1.A.deps.contains T))=true)
  (hK:∀ w',St B w0 N (src.filterMap fun k=>Γ[k]?) (Λ.set e ⟨sx,Tp,ptrH,BuA T E m D g u u l'⟩) a w'→K (a.put none undef) w'):wpOp P ops Q i K a w:=by
 have hTD':T ∉ E::D:=by simpa using hTD
 refine kR (A1:=BuA T E m D g u u l') src kp kd e ho h hp hd hv1 hvc ht hl hTp hrm hsrc hΛ (fun cs hp=>?_) hK
 obtain ⟨h1,h2,h3,h4⟩:=hp
 refine ⟨h2,#[v],h3,by simp,h1,h2,setRow_heap w g _ _ _ _ h3,(OwnR B E m D l').wr _ _ _ _ _ _ _ _ h3 hTD' h2 (Wr.setRow w g _) (hown w h4)⟩
end
theorem jw {α β:Type}{R':α→β→Prop}:∀ {l:List α} {x:α} {m:List β},All2 R' (l++[x]) m→∃ m0 y,m=m0++[y]∧All2 R' l m0∧R' x y
 | [],x,m,h=>by
  cases h with
  | @cons _ y _ m h1 h2=>cases h2; exact ⟨[],y,rfl,.nil,h1⟩
 | a::l,x,m,h=>by
  cases h with
  | @cons _ b _ m h1 h2 =>
   obtain ⟨m0,y,rfl,h3,h4⟩:=jw h2
   exact ⟨b::m0,y,rfl,.cons h1 h3,h4⟩
theorem gT {l:List As}{X:As}{B:Nat}{ds:List Value}{w:World}(h:(cat (l++[X])).p B ds w):∃ d0 dx,ds=d0++dx∧(cat l).p B d0 w∧X.p B dx w:=by
 obtain ⟨ps,rfl,h⟩:=h
 obtain ⟨m0,y,rfl,h3,h4⟩:=jw h
 exact ⟨m0.flatten,y,by simp,⟨m0,rfl,h3⟩,h4⟩
theorem t5 {b B E m:Nat}{D:List TypeId}{l:List As}{X:As}{w:World}{gr n c:Nat}(h:(OwnR b E m D (l++[X])).p B (.slice (some ⟨gr,0,none⟩) n c) w):(OwnR b E m D l).p B (.slice (some ⟨gr,0,none⟩) l.length c) w:=by
 obtain ⟨h1,h2,ds,h3,hln,h5⟩:=h
 obtain ⟨d0,dx,rfl,h6,h7⟩:=gT h3
 have hm:∀ A∈l,A.n=m:=fun A hA=>h1 A (List.mem_append.2 (.inl hA))
 have e0:d0.length=l.length*m:=by rw [(cat l).len _ _ _ h6,fP hm]
 refine ⟨hm,fun A hA=>h2 A (List.mem_append.2 (.inl hA)),d0,h6,e0,?_⟩
 rcases h5 with ⟨h5,_⟩ | ⟨g',cap,cur,e1,e2,e3,e4,e5,e6,e7⟩
 ·cases h5
 ·injection e1 with e1 e1n e1c
  injection e1 with e1
  injection e1 with e1
  subst e1 e1c
  rw [List.length_append] at e4
  refine .inr ⟨gr,c,cur,rfl,e2,e3,by omega,e5,e6,?_⟩
  have:(cur.toList.take ((l++[X]).length*m)).take (l.length*m)=d0:=by rw [e7,List.take_append_of_le_length zo,List.take_of_length_le zo]
  rw [← this,List.take_take,Nat.min_eq_left (Nat.mul_le_mul_right _ (by simp))]
section
open Rg
variable {P:Program} {Q:Exit→Act→World→Prop} {B N:Nat} {w0:Bs} {Γ:List (Nat × VA)} {Λ:List Lc} {a:Act} {w:World} {ops:Array Oper} {i:Nat} {K:Act→World→Prop} {T E Tp:TypeId} {m:Nat} {D:List TypeId} {g:Nat} {v:Value} {l:List As}
theorem B2 {p d sx gr c o:Nat}{ty T':TypeId}{ps:String}{af:Array Edge}{A X X':As}(src:List Nat)(kp kd e:Nat)(ho:ops[i]?=some ⟨none,.store ty (.tmp p) (.tmp d),T',ps,af,none⟩)(h:St B w0 N Γ Λ a w)
  (hp:Γ[kp]?=some (p,EqV (.pointer (some ⟨gr,l.length*m+o,none⟩)))) (hd:Γ[kd]?=some (d,A.va)) (ht:Ty P ty A.n A.ag) (hl:Λ[e]?=some ⟨sx,Tp,ptrH,BuA T E m D g v (.slice (some ⟨gr,0,none⟩) (l++[X]).length c) (l++[X])⟩)
  (hput:Put X o A X') (hX:X'.n=X.n) (hXD:X'.deps.all (fun t=>D.contains t)=true) (hTp:(Tp != E)=true) (hT:(T != E)=true) (hED:D.contains E=false) (hrm:RowMay w0 B E)
  (hsrc:src.all (fun k=>match Γ[k]? with | some y => !y.2.deps.contains E | none=>false)=true) (hΛ:Λ.zipIdx.all (fun x=>x.2==e || (x.1.T != E && !x.1.A.deps.contains E))=true)
  (hK:∀ w',St B w0 N (src.filterMap fun k=>Γ[k]?) (Λ.set e ⟨sx,Tp,ptrH,BuA T E m D g v (.slice (some ⟨gr,0,none⟩) (l++[X]).length c) (l++[X'])⟩) a w'→K (a.put none undef) w'):wpOp P ops Q i K a w:=by
 have e1:a.eval (.tmp p)=.pointer (some ⟨gr,l.length*m+o,none⟩):=h.vals _ (List.mem_of_getElem? hp)
 obtain ⟨cs',hpA,hv⟩:=h.vals _ (List.mem_of_getElem? hd)
 obtain ⟨g0,cs0,q1,q2,q3,q4,q5,q6,q7,q8,ds,q9,hln,q10⟩:=h.locs _ (List.mem_of_getElem? hl)
 have hED':E ∉ D:=by simpa using hED
 have hTE':T≠E:=by simpa using hT
 rcases q10 with ⟨h5,_⟩ | ⟨g',cap,cur,f1,f2,f3,f4,f5,f6,f7⟩
 ·cases h5
 ·injection f1 with f1 f1n f1c
  injection f1 with f1
  injection f1 with f1
  subst f1 f1c
  obtain ⟨d0,dx,rfl,h6,h7⟩:=gT q9
  have hm0:∀ A∈l,A.n=m:=fun A hA=>q7 A (List.mem_append.2 (.inl hA))
  have hXm:X.n=m:=q7 X (by simp)
  have l0:d0.length=l.length*m:=by rw [(cat l).len _ _ _ h6,fP hm0]
  have lx:dx.length=m:=by rw [X.len _ _ _ h7,hXm]
  obtain ⟨hoA,hX'⟩:=hput B dx cs' w h7 hpA
  have lA:=A.len _ _ _ hpA
  have hll:(l++[X]).length=l.length+1:=by simp
  rw [hll,Nat.succ_mul] at f7
  have hcur:cur.toList=d0++dx++cur.toList.drop (l.length*m+m):=by rw [← f7,List.take_append_drop]
  have hsz:l.length*m+m≤cur.size:=by
   rw [f6,← Nat.succ_mul]
   exact Nat.mul_le_mul_right _ (by rw [hll] at f4; exact f4)
  have hrun:=bL ht w gr (l.length*m+o) E cur _ cs' (A.cells_shape hpA) lA zo (A.one _ _ _ hpA) f3
  have e3:cur.toList.take (l.length*m+o)++cs'++cur.toList.drop (l.length*m+o+A.n)=d0++splice dx o cs'++cur.toList.drop (l.length*m+m):=by
   have t1:cur.toList.take (l.length*m+o)=d0++dx.take o:=by
    rw [hcur,List.append_assoc,List.take_append,List.take_of_length_le zo,List.take_append_of_le_length zo,l0,Nat.add_sub_cancel_left]
   have t2:cur.toList.drop (l.length*m+o+A.n)=dx.drop (o+cs'.length)++cur.toList.drop (l.length*m+m):=by
    conv=>lhs; rw [hcur]
    rw [List.append_assoc,List.drop_append,List.drop_of_length_le zo,List.nil_append,List.drop_append_of_le_length zo,l0,lA]
    congr 2
    omega
   rw [t1,t2]
   simp [splice,List.append_assoc]
  have hnew:=setRow_heap w gr _ (d0++splice dx o cs'++cur.toList.drop (l.length*m+m)).toArray _ _ f3
  have hW:=Wr.setRow w gr (d0++splice dx o cs'++cur.toList.drop (l.length*m+m)).toArray
  have lsp:(splice dx o cs').length=m:=by rw [X'.len _ _ _ hX',hX,hXm]
  unfold wpOp
  simp only [ho,Region.wanted,if_true]
  refine .inl (wp_skip' (w':=w.setRow gr (d0++splice dx o cs'++cur.toList.drop (l.length*m+m)).toArray) ?_ (hK _ (h.turn src e ga (fun g'' e=>?_) hrm hl hTp hsrc hΛ fun cs hp=>?_)))
  ·have hv':a.eval (.tmp d)=shape A.ag cs':=hv
   rw [e3] at hrun
   simp [execOp,e1,hv',Instr.storeAt,Instr.sureAddr,hrun]
  ·injection e with e
   subst e
   exact ⟨f2,_,_,f3⟩
  ·refine ⟨hp.1,hp.2.1,(hW.block g (fun e5=>?_)).trans q6,fun A hA=>?_,fun A hA=>?_,d0++splice dx o cs',?_,?_,.inr ⟨gr,c,_,by rw [hll]; simp,f2,hnew,by rw [hll] at f4; simpa using f4,f5,?_,?_⟩⟩
   ·subst e5
    rw [q6] at f3
    injection f3 with f3
    injection f3 with _ f3 _
    exact hTE' f3
   ·rcases List.mem_append.1 hA with hA | hA
    ·exact hm0 A hA
    ·obtain rfl:=List.mem_singleton.1 hA
     omega
   ·rcases List.mem_append.1 hA with hA | hA
    ·exact q8 A (List.mem_append.2 (.inl hA))
    ·obtain rfl:=List.mem_singleton.1 hA
     exact fun t ht=>by simpa using List.all_eq_true.1 hXD t ht
   ·refine jq ((cat l).wr _ _ _ _ _ _ _ _ f3 (fc (fun A hA=>q8 A (List.mem_append.2 (.inl hA))) hED') f2 hW h6) ?_
    refine ⟨[splice dx o cs'],by simp,.cons (X'.wr _ _ _ _ _ _ _ _ f3 (fun hh=>hED' (by simpa using List.all_eq_true.1 hXD _ hh)) f2 hW hX') .nil⟩
   ·rw [List.length_append,l0,lsp]
    simp [Nat.succ_mul]
   ·have:=congrArg List.length e3
    have hc2:=congrArg List.length hcur
    simp at this hc2
    simp [f6.symm]
    omega
   ·rw [show (d0++splice dx o cs'++cur.toList.drop (l.length*m+m)).toArray.toList=d0++splice dx o cs'++cur.toList.drop (l.length*m+m) from rfl,List.take_append_of_le_length (by simp [l0,lsp,Nat.succ_mul]),List.take_of_length_le (by simp [l0,lsp,Nat.succ_mul])]
end
def FnB (f:FuncId)(Tp g:Nat):VA where
 p B u w:=∃ c,u=.func (.func f) #[] #[ptr c]∧B≤c∧w.heap[c]?=some (.cells #[ptr g] Tp (0,0))
 deps:=[Tp]
 cg:=fun B u w w' hg ⟨c,e,h1,h2⟩=>⟨c,e,h1,hg.heap h2⟩
 wr:=by
  rintro B u w w' k c' T' fz hc hT hB hW ⟨c,e,h1,h2⟩
  refine ⟨c,e,h1,?_⟩
  rw [hW.block c (fun e=>by subst e; rw [hc] at h2; injection h2 with h2; injection h2 with _ h2 _; exact hT (by simp [h2]))]
  exact h2
theorem r_mkB {P:Program}{R:Rg}{Q:Exit→Act→World→Prop}{B i:Nat}{w0:Bs}{f:FuncId}{T g s:Nat}(h1:Loc R i s T (EqA (ptr g))):Wv P Q R B w0 i (.makeFunc (.func f) #[] #[.tmp s]) (FnB f T g) :=
 bb fun _ _ _ _ _ a w av=>by
  obtain ⟨c,cs,e1,m1,h3,h4⟩:=h1.ok av
  obtain rfl:=h4.1
  have e1':a.eval (.tmp s)=ptr c:=e1
  exact ⟨.func (.func f) #[] (#[Operand.tmp s].map a.eval),w,by simp [execOp,Instr.makeFunc],Grow.refl w,c,by simp [e1'],av.lo _ m1,h3⟩
def ArgOk (Γ:List (Nat × VA))(A:VA)(x:Operand):Prop:=(∃ t k:Nat,x=.tmp t∧Γ[k]?=some (t,A))∨∃ kd n,x=.const (.int kd n)∧A=(NumA kd n).va
theorem CP {B N:Nat}{w0:Bs}{Γ:List (Nat × VA)}{Λ:List Lc}{a:Act}{w:World}{pre:List VA}{xs:List Operand}(h:St B w0 N Γ Λ a w)(hx:All2 (ArgOk Γ) pre xs):All2 (fun (A:VA) v=>A.p B v w) pre (xs.map a.eval):=by
 induction hx with
 | nil=>exact .nil
 | cons h1 _ ih =>
  refine .cons ?_ ih
  rcases h1 with ⟨t,k,rfl,h1⟩ | ⟨kd,n,rfl,rfl⟩
  ·exact h.vals _ (List.mem_of_getElem? h1)
  ·exact ca _ _ _ _
section
open Rg
variable {P:Program} {Q:Exit→Act→World→Prop} {B N:Nat} {w0:Bs} {Γ:List (Nat × VA)} {Λ:List Lc} {a:Act} {w:World} {ops:Array Oper} {i:Nat} {K:Act→World→Prop}
theorem dq {d t f sx g:Nat}{Tp T T1:TypeId}{Ts:List TypeId}{A0 A1:As}{pre:List VA}{post:VA}{xs:List Operand}{at_:Array TypeId}{ps:String}{af:Array Edge}(src:List Nat)(kt kg e:Nat)(ho:ops[i]?=some ⟨some d,.call ⟨.value (.tmp t),xs.toArray,at_⟩,T1,ps,af,none⟩)(h:St B w0 N Γ Λ a w)
  (hc:CB P f Tp T Ts A0 A1 pre post) (ht:Γ[kt]?=some (t,FnB f Tp g)) (hg:Γ[kg]?=some (sx,EqV (ptr g))) (hl:Λ[e]?=some ⟨sx,T,ptrH,A0⟩) (hx:All2 (ArgOk Γ) pre xs)
  (hrm:∀ E,Ts.contains E=true→RowMay w0 B E) (hd:d<N) (hΓ:Γ.all (fun x=>x.1 != d)=true) (hΛd:Λ.all (fun l=>l.s != d)=true)
  (hsrc:src.all (fun k=>match Γ[k]? with | some y=>Ts.all (fun E => !y.2.deps.contains E) | none=>false)=true) (hΛ:Λ.zipIdx.all (fun x=>x.2==e || (!Ts.contains x.1.T&&Ts.all (fun E => !x.1.A.deps.contains E)))=true)
  (hK:∀ a' w',St B w0 N ((d,post)::src.filterMap fun k=>Γ[k]?) (Λ.set e ⟨sx,T,ptrH,A1⟩) a' w'→K a' w'):wpOp P ops Q i K a w:=by
 obtain ⟨g1,cs,q1,q2,q3,q4⟩:=h.locs _ (List.mem_of_getElem? hl)
 have q0:a.eval (.tmp sx)=ptr g:=h.vals _ (List.mem_of_getElem? hg)
 have:g1=g:=Rg.Hd.inj (H:=ptrH) (H':=ptrH) (show blk (ptr g1)=blk (ptr g) by rw [← show _=ptr g1 from q1,← q0])
 subst this
 obtain ⟨c,ef,hBc,hcc⟩:=h.vals _ (List.mem_of_getElem? ht)
 have ef:a.eval (.tmp t)=.func (.func f) #[] #[ptr c]:=ef
 have hargs:=CP h hx
 obtain ⟨⟨fn,hf,hn,hb⟩,hcall⟩:=hc
 have hrun:(execOp a.eval ⟨some d,.call ⟨.value (.tmp t),xs.toArray,at_⟩,T1,ps,af,none⟩).run P w=.ok (.enter f (xs.map a.eval++[ptr c]).toArray) w:=by
  simp only [execOp,resolve,ef,Deferred.ofValue,Sem.run_bind,Sem.run_pure,Result.andThen_ok,invoke,bk hf hn hb]
  simp
 have hdsz:d<a.tmps.size:=by rw [h.size]; exact hd
 have hBw:B≤w.heap.size:=Nat.le_trans (h.lo _ (.inl (Nat.le_refl _))) h.base.size
 unfold wpOp
 simp only [ho,Region.wanted,if_true]
 refine .inl ?_
 unfold Oper.wp
 rw [hrun]
 refine (hcall B w c g1 cs _ hBc (h.lo g1 q2) hcc q3 q4 hargs).mono ?_
 rintro e0 w' ⟨v,cs',rfl,hv,hk,h1,h2⟩
 refine hK _ _ ?_
 have hls:∀ l∈Λ,l.s≠d:=fun l hl=>by simpa using List.all_eq_true.1 hΛd l hl
 have hrow:∀ {g:Nat} {c:Array Value} {T':TypeId} {fz:Nat × Nat},w.heap[g]?=some (.cells c T' fz)→T' ∉ Ts→w'.heap[g]?=some (.cells c T' fz):=fun {g c T' fz} hg1 hne =>
  (hk.block g (Array.getElem?_eq_some_iff.1 hg1).1 (fun ⟨_,c',T2,fz',e5,e6⟩=>by
   rw [hg1] at e5
   injection e5 with e5
   injection e5 with _ e5 _
   subst e5
   exact hne e6)).trans hg1
 have hset:∀ m∈Λ.set e ⟨sx,T,ptrH,A1⟩,∃ m0∈Λ,m0.s=m.s:=fun m hm=>by
  rcases List.mem_or_eq_of_mem_set hm with hm | rfl
  ·exact ⟨m,hm,rfl⟩
  ·exact ⟨_,List.mem_of_getElem? hl,rfl⟩
 refine ⟨h.lo,h.defers.keep rfl fun D hD=>(hk.block D (Array.getElem?_eq_some_iff.1 hD).1 (fun ⟨_,c,T2,fz,e5,_⟩=>by rw [hD] at e5; cases e5)).trans hD,by rw [bu]; exact h.size,⟨hk.os.trans h.base.os,hk.tape.trans h.base.tape,hk.output.trans h.base.output,Nat.le_trans h.base.size hk.size,fun k h3 h4=>?_⟩,fun y hy=>?_,fun m hm=>?_,fun m1 hm1 m2 hm2 hne=>?_⟩
 ·refine (hk.block k (Nat.lt_of_lt_of_le h3 h.base.size) (fun ⟨q5,c,T2,fz,q6,q7⟩=>?_)).trans (h.base.block k h3 h4)
  rcases hrm T2 (by simpa using q7) w k c fz h.base q5 q6 with q8 | q8
  ·omega
  ·exact h4 q8
 ·rcases List.mem_cons.1 hy with rfl | hy
  ·show post.p B ((a.put (some d) v).eval (.tmp d)) w'
   rw [aM _ _ _ hdsz]
   exact hv
  ·obtain ⟨k,hk1,hk2⟩:=List.mem_filterMap.1 hy
   have hs:=List.all_eq_true.1 hsrc k hk1
   simp only [hk2,List.all_eq_true,Bool.not_eq_true',List.contains_eq_mem,decide_eq_false_iff_not] at hs
   have hyd:y.1≠d:=by simpa using List.all_eq_true.1 hΓ y (List.mem_of_getElem? hk2)
   rw [aj _ _ _ _ hyd]
   exact VA.kept (h.vals y (List.mem_of_getElem? hk2)) hk hs
 ·obtain ⟨j,hj⟩:=List.getElem?_of_mem hm
  by_cases e1:j=e
  ·subst e1
   have:m=⟨sx,T,ptrH,A1⟩:=by
    rw [List.getElem?_set_self (List.getElem?_eq_some_iff.1 hl).1] at hj
    injection hj with hj
    exact hj.symm
   subst this
   exact ⟨g1,cs',by rw [aj _ _ _ _ (hls _ (List.mem_of_getElem? hl))]; exact q1,q2,h1,h2⟩
  ·rw [List.getElem?_set_ne (fun e2=>e1 e2.symm)] at hj
   have hc:=List.all_eq_true.1 hΛ (m,j) (List.mem_zipIdx_iff_getElem?.2 hj)
   simp only [Bool.or_eq_true,beq_iff_eq,Bool.and_eq_true,Bool.not_eq_true',List.contains_eq_mem,decide_eq_false_iff_not,List.all_eq_true] at hc
   have hc':=hc.resolve_left e1
   obtain ⟨g',cs2,p1,p2,p3,p4⟩:=h.locs m (List.mem_of_getElem? hj)
   exact ⟨g',cs2,by rw [aj _ _ _ _ (hls _ (List.mem_of_getElem? hj))]; exact p1,p2,hrow p3 hc'.1,As.kept p4 hk hc'.2⟩
 ·obtain ⟨m3,r1,r2⟩:=hset m1 hm1
  obtain ⟨m4,r3,r4⟩:=hset m2 hm2
  rw [← r2,← r4] at hne ⊢
  rw [aj _ _ _ _ (hls _ r1),aj _ _ _ _ (hls _ r3)]
  exact h.dis m3 r1 m4 r3 hne
end
section
variable {P:Program} {R:Rg} {Q:Exit→Act→World→Prop} {B i:Nat} {w0:Bs}
inductive Nmo (R:Rg) (B:Nat) (w0:Bs) (i:Nat):List (Nat × Nat)→Prop
 | nil:Nmo R B w0 i []
 | cons {s g T:Nat} {A:As} {l:List (Nat × Nat)}:Has R B w0 i (.tmp s) (EqV (ptr g))→Loc R i s T A→Nmo R B w0 i l→Nmo R B w0 i ((s,g)::l)
theorem Nmo.lt {l:List (Nat × Nat)}(h:Nmo R B w0 i l){a:Act}{w:World}(av:R.Av B w0 i a w):∀ p∈l,p.2<w.heap.size:=by
 induction h with
 | nil=>intro p hp; cases hp
 | cons h1 h2 _ ih =>
  intro p hp
  rcases List.mem_cons.1 hp with rfl | hp
  ·obtain ⟨g,cs,e1,_,e3,_⟩:=h2.ok av
   have e2:=h1 a w av
   have e2':a.eval (.tmp _)=ptr _:=e2
   rw [e2'] at e1
   have:ptr _=ptr g:=e1
   injection this with this
   injection this with this
   injection this with this
   rw [this]
   exact (Array.getElem?_eq_some_iff.1 e3).1
  ·exact ih p hp
theorem BL {x:Operand}{v:Value}(h:v.oneCell'=true)(h1:Has R B w0 i x (EqV v)):Has R B w0 i x (EqA v).va:=fun a w av=>by
 have e:a.eval x=v:=h1 a w av
 rw [e]
 exact D8 h
end
theorem bI {P:Program}{ops:Array Oper}{Q:Exit→Act→World→Prop}{a:Act}{w:World}(h:Q .normal a w):wpOps P ops Q [] a w:=h
theorem ff {P:Program}{ops:Array Oper}{Q:Exit→Act→World→Prop}{a:Act}{w:World}(h:Q .normal a w):wpOps P ops Q [] (a.put none undef) w:=h
theorem op_ldB {P:Program}{Q:Exit→Act→World→Prop}{B N:Nat}{w0:Bs}{Γ:List (Nat × VA)}{Λ:List Lc}{a:Act}{w:World}{ops:Array Oper}{i:Nat}{K:Act→World→Prop}{d b:Nat}{ty T':TypeId}{ps:String}{af:Array Edge}{Tp T E:TypeId}{m g:Nat}{D:List TypeId}{v u:Value}{l:List As}(e:Nat)
  (ho:ops[i]?=some ⟨some d,.load ty (.tmp b),T',ps,af,none⟩) (h:St B w0 N Γ Λ a w) (hl:Λ[e]?=some ⟨b,Tp,ptrH,BuA T E m D g v u l⟩) (ht:Ty P ty 1 false) (hd:d<N) (hΓ:Γ.all (fun x=>x.1 != d)=true) (hΛ:Λ.all (fun l=>l.s != d)=true)
  (hK:∀ a',St B w0 N ((d,EqV (ptr g))::Γ) Λ a' w→K a' w):wpOp P ops Q i K a w:=by
 obtain ⟨c,cs,e1,_,e3,rfl,_⟩:=h.locs _ (List.mem_of_getElem? hl)
 have e1':a.eval (.tmp b)=.pointer (some ⟨c,0,none⟩):=e1
 have hr:=cy ht w c 0 [ptr g] rfl (fun _=>rfl) (fun j u hu=>by
  rw [Nat.zero_add,cell_of_row w c j [ptr g].toArray Tp _ e3]
  simpa using hu)
 exact qG (A:=EqV (ptr g)) (v:=ptr g) ho h hd hΓ hΛ (by simp [execOp,e1',Instr.loadAt,Instr.sureAddr,hr,shape]) G (hK _)
def QN0:As:=cat [RIN ⟨false,[]⟩,ZN 2 1]
def EB (k:Nat)(e:EQ):As:=cat [NumA .u8 e.1,QD k e.2,QN0]
def lastE (L:List EQ):EQ:=L.getLast?.getD (0,0)
theorem eb_n {k:Nat}{L:List EQ}:∀ A∈L.map (EB k),A.n=9:=fun A hA=>by
 obtain ⟨e,_,rfl⟩:=List.mem_map.1 hA
 rfl
theorem eb_D {k:Nat}{L:List EQ}:∀ A∈L.map (EB k),∀ T∈A.deps,T∈[U32]:=fun A hA=>by
 obtain ⟨e,_,rfl⟩:=List.mem_map.1 hA
 exact dK (l:=[EB k e]) zk _ (by simp)
theorem BC {k:Nat}{L:List EQ}(h:decide (((L.map (EB k)).length:Int)-1<0)=false):(L.map (EB k))[L.length-1]?=some (EB k (lastE L)):=by
 have h0:=of_decide_eq_false h
 rw [List.length_map] at h0
 have h1:L.length-1<L.length:=by omega
 rw [List.getElem?_map,lastE,List.getLast?_eq_getElem?,List.getElem?_eq_getElem h1]
 rfl
theorem tR {k:Nat}{L:List EQ}(h:decide (((L.map (EB k)).length:Int)-1<0)=false):In (((L.map (EB k)).length:Int)-1)=In ((L.length-1:Nat):Int):=by
 have h0:=of_decide_eq_false h
 rw [List.length_map] at h0 ⊢
 congr 1
 omega
theorem oZ {L:List EQ}{k:Int}{p:Rat}(h:(k != 5&&p.num.sign==0)=true):putQ L k p=L:=by
 simp only [Bool.and_eq_true,bne_iff_ne,beq_iff_eq] at h
 have:p=0:=by
  have:=Int.sign_eq_zero_iff_zero.1 h.2
  exact Rat.num_eq_zero.1 this
 rw [putQ,if_pos ⟨h.1,this⟩]
theorem yc {L:List EQ}{k:Int}{p:Rat}(h:(k != 5&&p.num.sign==0)=false):¬ (k≠5∧p=0):=fun ⟨h1,h2⟩=>by
 subst h2
 simp [h1] at h
theorem sL {k0:Nat}{L:List EQ}{k:Int}{p:Rat}(h:¬ (k≠5∧p=0))(hb:(decide (((L.map (EB k0)).length:Int)-1<0) || (lastE L).1 != k)=true):putQ L k p=L++[(k,p)]:=by
 rw [putQ,if_neg h]
 rcases List.eq_nil_or_concat L with rfl | ⟨M,e,rfl⟩
 ·rfl
 ·rw [List.concat_eq_append] at hb ⊢
  simp [lastE] at hb
  simp only [List.getLast?_concat]
  rw [if_neg]
  rcases hb with hb | hb
  ·omega
  ·exact hb
theorem sK {k0:Nat}{L:List EQ}{k:Int}(hb:(decide (((L.map (EB k0)).length:Int)-1<0) || (lastE L).1 != k)=false):∃ M q,L=M++[(k,q)]:=by
 rcases List.eq_nil_or_concat L with rfl | ⟨M,e,rfl⟩
 ·simp at hb
 ·rw [List.concat_eq_append] at hb ⊢
  obtain ⟨k',q⟩:=e
  simp [lastE] at hb
  exact ⟨M,q,by rw [hb]⟩
theorem sM {M:List EQ}{k:Int}{p q:Rat}(h:¬ (k≠5∧p=0))(hb:(k==5 || (q+p).num.sign==0)=true):putQ (M++[(k,q)]) k p=M:=by
 rw [putQ,if_neg h]
 simp only [List.getLast?_concat,if_true,List.dropLast_concat]
 rw [if_pos]
 simp only [Bool.or_eq_true,beq_iff_eq] at hb
 exact hb.imp id fun h=>Rat.num_eq_zero.1 (Int.sign_eq_zero_iff_zero.1 h)
theorem sN {M:List EQ}{k:Int}{p q:Rat}(h:¬ (k≠5∧p=0))(hb:(k==5 || (q+p).num.sign==0)=false):putQ (M++[(k,q)]) k p=M++[(k,q+p)]:=by
 rw [putQ,if_neg h]
 simp only [List.getLast?_concat,if_true,List.dropLast_concat]
 rw [if_neg]
 simp only [Bool.or_eq_false_iff,beq_eq_false_iff_ne] at hb
 exact fun hh=>hh.elim hb.1 fun h=>hb.2 (by rw [h]; rfl)
theorem ni (g:Nat):Cn Tryz.prog 24 [EqV (ptr g)] (FnB 101 74 g):=by
 refine Cn.intro Tryz.func24 G zk nq (fun B w0 a U=>?_)
 have U:=zn [(0,EqV (ptr g))] [] U
 refine wp_seq<|zg [] [⟨1,74,ptrH,some 0,_,none⟩] [.alc 0,.v 2 _] [.o 1] U (oc (ay G G G (BL (v:=ptr g) G (gq 0 G))) (zv G (a9 aP) o0)) (zz [(2,_)] [O 1 74 _] fun a w U=>?_)
 refine zt<|zg [none] [] [.v 3 _,.v 2 _] [.o 1] U (zv G (r_mkB (lz0 0 G)) (zA 0 G o0)) (zz [(2,_)] [O 1 74 _] fun a w U=>?_)
 refine a7<|wp_ret<|ar ?_ (am G U (zm 0 G))
 exact bh
end Go.Proofs.YtmacliockgbdcaaGreatDoor
