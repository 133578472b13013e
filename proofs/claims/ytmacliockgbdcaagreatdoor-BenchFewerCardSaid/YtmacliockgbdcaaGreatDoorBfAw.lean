import Derived.Test.YtmacliockgbdcaaGreatDoorBfAa
import Derived.Test.YtmacliockgbdcaaGreatDoorBfAc
import Derived.Test.YtmacliockgbdcaaGreatDoorBfAj
import Derived.Test.YtmacliockgbdcaaGreatDoorBfAl
import Derived.Test.YtmacliockgbdcaaGreatDoorBfAr
import Derived.Test.YtmacliockgbdcaaGreatDoorBfAu
import Derived.Test.YtmacliockgbdcaaGreatDoorBfAv
import Derived.ProofKit
import Derived.OpenShut
import Derived.ChangeOld
import Derived.Below
import Derived.Laws.AppendOwn
import Derived.Laws.OwnMore
import Derived.Orders
import Derived.Deep.Slices
set_option linter.unusedVariables false
set_option linter.unusedSimpArgs false
set_option linter.unusedSectionVars false
set_option maxRecDepth 100000
namespace Go.Proofs.YtmacliockgbdcaaGreatDoor
open Go Go.RowKit
def AllG (a:Act)(w:World):List (Nat × VA)→Prop
 | []=>True
 | x::l=>x.2.p w.heap.size (a.eval (.tmp x.1)) w∧AllG a w l
theorem AllG.mem {a:Act}{w:World}:∀ {l:List (Nat × VA)},AllG a w l→∀ x∈l,x.2.p w.heap.size (a.eval (.tmp x.1)) w
 | y::l,h,x,hx=>by
  rcases List.mem_cons.1 hx with rfl | hx
  ·exact h.1
  ·exact AllG.mem h.2 x hx
section
variable {P:Program} {B N:Nat} {w0:Bs} {Γ:List (Nat × VA)} {Λ:List Lc} {a:Act} {w:World}
theorem St.bw (h:St B w0 N Γ Λ a w):B≤w.heap.size:=Nat.le_trans (h.lo _ (.inl (Nat.le_refl _))) h.base.size
end
section
variable {P:Program} {Q:Exit→Act→World→Prop} {B N:Nat} {w0:Bs} {Γ:List (Nat × VA)} {Λ:List Lc} {a:Act} {w:World} {ops:Array Oper}
theorem wT {id m:Nat}(hsz:ops.size=m+1)(h:wpOp P ops Q 0 (wpOps P ops Q (List.range' 1 m)) a w):(Code.region id ops false).wp P Q a w:=by
 refine wp_region ?_
 rw [List.range_eq_range',hsz,List.range'_succ,wpOps_cons]
 exact h
theorem wS {sp:List Sp}{d0 m:Nat}{A0:VA}(src:List Src)(h:St B w0 N ((d0,A0)::Γ) Λ a w)(h0:sp[0]?=some (.v d0 A0))(hsz:ops.size=m+1)
  (hob:Obs P Q ⟨ops,N,Γ,les0 Λ,sp,fun i=>List.range i⟩ B w0 1 m) (hk:Rg.chk ⟨ops,N,Γ,les0 Λ,sp,fun i=>List.range i⟩=true) (hsrc:src.all (okS ⟨ops,N,Γ,les0 Λ,sp,fun i=>List.range i⟩)=true)
  (hQ:∀ a w,St B w0 N (src.filterMap (takeS ⟨ops,N,Γ,les0 Λ,sp,fun i=>List.range i⟩)) Λ a w→Q .normal a w):wpOps P ops Q (List.range' 1 m) a w:=by
 have e:m=ops.size-1:=by omega
 subst e
 exact BS src h h0 zo hob hk hsrc hQ
end
theorem j1 {B:Nat}{w1:Bs}{Ts:List TypeId}(hB:B=w1.w.heap.size):∀ E,Ts.contains E=true→RowMay w1 B E:=fun E _ w g c fz _ h _=>.inl (hB▸h)
theorem rt (x:RM):UpA (RMA x) (RMA x):=i7 (.cons (cY _) (.cons (cY _) (.cons (cY _) (.cons (cY _) .nil))))
def ZBk:List As:=[NumA .i64 0,EqS (.slice none 0 0),EqS (.slice none 0 0),EqS (.slice none 0 0),EqS (.slice none 0 0),EqS (.slice none 0 0),EqS (.slice none 0 0),EqS (.slice none 0 0),EqS (.slice none 0 0),EqS (.slice none 0 0),EqS (.slice none 0 0),EqS (.slice none 0 0),EqS (.slice none 0 0),EqS (.slice none 0 0),EqS (.slice none 0 0),EqS (.slice none 0 0),EqS (.slice none 0 0)]
theorem vD:Str Tryz.prog 58 ZBk :=
 Str.of (z:=.agg ([Value.int .i64 0]++List.replicate 16 (Value.slice none 0 0)).toArray) zk Tryz.underlying58 zk fun B w=>⟨[Value.int .i64 0]::List.replicate 16 [Value.slice none 0 0],rfl,.cons rfl (.cons ⟨rfl,rfl⟩ (.cons ⟨rfl,rfl⟩ (.cons ⟨rfl,rfl⟩ (.cons ⟨rfl,rfl⟩ (.cons ⟨rfl,rfl⟩ (.cons ⟨rfl,rfl⟩ (.cons ⟨rfl,rfl⟩ (.cons ⟨rfl,rfl⟩ (.cons ⟨rfl,rfl⟩ (.cons ⟨rfl,rfl⟩ (.cons ⟨rfl,rfl⟩ (.cons ⟨rfl,rfl⟩ (.cons ⟨rfl,rfl⟩ (.cons ⟨rfl,rfl⟩ (.cons ⟨rfl,rfl⟩ (.cons ⟨rfl,rfl⟩ .nil))))))))))))))))⟩
section
open Rg
variable {P:Program} {Q:Exit→Act→World→Prop} {R:Rg} {B i:Nat} {w0:Bs}
end
section
variable {P:Program} {R:Rg} {Q:Exit→Act→World→Prop} {B i:Nat} {w0:Bs}
end
def RMN (x:RM):As:=cat [RFN x.a,RFN x.b,RFN x.c,RFN x.d]
theorem tn {x:RF}:NewA (RFN x):=dV fun A hA=>by
 simp at hA
 rcases hA with rfl | rfl <;> exact tm _
theorem pB {x:RF}:FreeA (RFN x) (RFN x):=ci (.cons (fN _) (.cons (fN _) .nil))
theorem sl {x:RF}:WkA (RFN x) (RFA x):=bz (.cons wkA_riN (.cons wkA_riN .nil))
theorem qd_rfn {k:Nat}{q:Rat}:WkA (QD k q) (RFN (rfOf q)):=qd_rfd.trans dis_wk
theorem zR {l:List Nat}:WkA (TwN l) (MgN l):=⟨rfl,rfl,fun B cs w ⟨ok,g,e,h1,h2,h3⟩=>⟨ok,.inr ⟨g,[7777],by rw [e]; simp,by simpa using h2,h1,h3⟩⟩⟩
theorem rit_rin {x:RI}:WkA (RIT x) (RIN x):=bz (.cons (.refl _) (.cons zR .nil))
theorem gG {x:RF}:WkA (RFT x) (RFN x):=bz (.cons rit_rin (.cons rit_rin .nil))
theorem Ao {x:RM}:WkA (RMT x) (RMN x):=bz (.cons gG (.cons gG (.cons gG (.cons gG .nil))))
theorem kbl_app {l m:KL}:kbl (l++m)=kbl l++kbl m:=List.filterMap_append ..
theorem y6 {x:RI}{B:Nat}{cs:List Value}{w:World}(h:(RIN x).p B cs w):okL x.mag:=by
 obtain ⟨ps,rfl,hp⟩:=h
 cases hp with
 | cons h1 hp=>cases hp with
  | cons h2 hp=>exact h2.1
abbrev OkK (l:KL):Prop:=∀ p∈l,okL p.2
theorem ey {l m:KL}(h:OkK l)(k:OkK m):OkK (l++m):=fun p hp=>by
 rcases List.mem_append.1 hp with hp | hp
 ·exact h p hp
 ·exact k p hp
abbrev LnK (l:KL):Prop:=∀ p∈l,p.2.length≤2000000000000
theorem eC {l m:KL}(h:LnK l)(k:LnK m):LnK (l++m):=fun p hp=>by
 rcases List.mem_append.1 hp with hp | hp
 ·exact h p hp
 ·exact k p hp
theorem okK_f {x:RF}{m1 m2:Value}(h1:okL x.num.mag)(h2:okL x.den.mag):OkK (kf x m1 m2):=fun p hp=>by
 simp only [List.mem_cons,List.not_mem_nil,or_false] at hp
 rcases hp with rfl | rfl
 ·exact h1
 ·exact h2
theorem qO {x:RF}{m1 m2:Value}(h:bdF x):LnK (kf x m1 m2):=fun p hp=>by
 simp only [List.mem_cons,List.not_mem_nil,or_false] at hp
 rcases hp with rfl | rfl
 ·exact Nat.le_trans h.1 zd
 ·exact Nat.le_trans h.2 zd
theorem B5 {l:KL}(h:OkK l)(k:LnK l):∀ p∈l,okL p.2∧p.2.length≤2000000000000:=fun p hp=>⟨h p hp,k p hp⟩
theorem du {x:RF}{B:Nat}{cs:List Value}{w:World}(h:(RFN x).p B cs w):∃ m1 m2,(FracP x m1 m2).p B cs w∧cbl cs=kbl (kf x m1 m2)∧OkK (kf x m1 m2):=by
 obtain ⟨ps,rfl,hp⟩:=h
 cases hp with
 | @cons _ c1 _ _ h1 hp=>cases hp with
  | @cons _ c2 _ _ h2 hp =>
   cases hp
   obtain ⟨m1,p1,e1⟩:=mJ h1
   obtain ⟨m2,p2,e2⟩:=mJ h2
   refine ⟨m1,m2,⟨[c1,c2],rfl,.cons p1 (.cons p2 .nil)⟩,?_,okK_f (y6 h1) (y6 h2)⟩
   have:([c1,c2]:List (List Value)).flatten=c1++c2:=by simp
   rw [this,bV,e1,e2]
   exact kbl_app.symm
def nm4 (a b c d:Value):Nat→Value
 | 0=>a
 | 1=>b
 | 2=>c
 | _=>d
def nm8 (a b c d e f g h:Value):Nat→Value
 | 0=>a
 | 1=>b
 | 2=>c
 | 3=>d
 | 4=>e
 | 5=>f
 | 6=>g
 | _=>h
theorem tw {x:RM}{B:Nat}{cs:List Value}{w:World}(h:(RMN x).p B cs w):∃ m:Nat→Value,(MatP x m).p B cs w∧cbl cs=kbl (km x m)∧OkK (km x m):=by
 obtain ⟨ps,rfl,hp⟩:=h
 cases hp with
 | @cons _ c1 _ _ h1 hp=>cases hp with
  | @cons _ c2 _ _ h2 hp=>cases hp with
   | @cons _ c3 _ _ h3 hp=>cases hp with
    | @cons _ c4 _ _ h4 hp =>
     cases hp
     obtain ⟨m1,m2,p1,e1,o1⟩:=du h1
     obtain ⟨m3,m4,p2,e2,o2⟩:=du h2
     obtain ⟨m5,m6,p3,e3,o3⟩:=du h3
     obtain ⟨m7,m8,p4,e4,o4⟩:=du h4
     refine ⟨nm8 m1 m2 m3 m4 m5 m6 m7 m8,⟨[c1,c2,c3,c4],rfl,.cons p1 (.cons p2 (.cons p3 (.cons p4 .nil)))⟩,?_,ey (ey (ey o1 o2) o3) o4⟩
     have:([c1,c2,c3,c4]:List (List Value)).flatten=((c1++c2)++c3)++c4:=by simp
     rw [this,bV,bV,bV,e1,e2,e3,e4]
     show _=kbl (((kf x.a m1 m2++kf x.b m3 m4)++kf x.c m5 m6)++kf x.d m7 m8)
     rw [kbl_app,kbl_app,kbl_app]
theorem B4:OkK []:=fun p h=>by cases h
theorem Bw:LnK []:=fun p h=>by cases h
abbrev bdM (x:RM):Prop:=bdF x.a∧bdF x.b∧bdF x.c∧bdF x.d
theorem lnK_m {x:RM}{m:Nat→Value}(h:bdM x):LnK (km x m):=eC (eC (eC (qO h.1) (qO h.2.1)) (qO h.2.2.1)) (qO h.2.2.2)
theorem bd_of {q:Rat}(h:¬ longQ q=true):bdF (rfOf q):=by
 have h':longQ q=false:=by cases hq:longQ q with
  | true=>exact absurd hq h
  | false=>rfl
 unfold longQ at h'
 simp only [List.any_cons,List.any_nil,Bool.or_false,Bool.or_eq_false_iff] at h'
 have h1:=of_decide_eq_false h'.1
 have h2:=of_decide_eq_false h'.2
 refine ⟨?_,?_⟩
 ·show (riOf q.num).mag.length≤_
  omega
 ·show (riOf (q.den:Int)).mag.length≤_
  omega
def p4 (m:MQ)(j:Nat):Rat:=[m.a,m.b,m.c,m.d].getD j 0
theorem sub_self {A:As}:Sub A 0 A:=fun B cs w h=>by
 have hl:=A.len B cs w h
 refine ⟨?_,by omega⟩
 rw [List.drop_zero,List.take_of_length_le zo]
 exact h
section
variable {P:Program} {R:Rg} {Q:Exit→Act→World→Prop} {B i:Nat} {w0:Bs}
end
def EqA (v:Value):As where
 n:=1
 ag:=false
 p _ cs _:=cs=[v]∧v.oneCell'=true
 deps:=[]
 len:=by rintro B cs w ⟨rfl,_⟩; rfl
 one:=by rintro B cs w ⟨rfl,h⟩ c hc; simp at hc; subst hc; exact h
 ag1:=fun _=>rfl
 cg:=fun _ _ _ _ _ h=>h
 wr:=fun _ _ _ _ _ _ _ _ _ _ _ _ h=>h
theorem D8 {v:Value}(h:v.oneCell'=true){B:Nat}{w:World}:(EqA v).va.p B v w:=⟨[v],⟨rfl,h⟩,rfl⟩
theorem St.nm {B N:Nat}{w0:Bs}{Γ:List (Nat × VA)}{Λ:List Lc}{a:Act}{w:World}(h:St B w0 N Γ Λ a w){s T:Nat}{A:As}(k:Nat)(hm:Λ[k]?=some ⟨s,T,ptrH,A⟩):∃ g,St B w0 N ((s,EqV (ptr g))::Γ) Λ a w:=by
 obtain ⟨g,cs,e,_⟩:=h.locs _ (List.mem_of_getElem? hm)
 refine ⟨g,h.lo,h.defers,h.size,h.base,fun x hx=>?_,h.locs,h.dis⟩
 rcases List.mem_cons.1 hx with rfl | hx
 ·exact e
 ·exact h.vals x hx
section
variable {P:Program} {R:Rg} {Q:Exit→Act→World→Prop} {B i:Nat} {w0:Bs}
end
structure RE where
 k:Int
 p:RF
 q:RF
 deriving DecidableEq
def REA (x:RE):As:=cat [NumA .u8 x.k,RFA x.p,RFA x.q]
def QEA (c:Nat)(k:Int)(p q:Rat):As:=cat [NumA .u8 k,QA c p,QA c q]
theorem cu:Str Tryz.prog 67 [NumA .u8 0,RFA rf0,RFA rf0] :=
 Str.of (z:=.agg #[.int .u8 0,.bool false,.slice none 0 0,.bool false,.slice none 0 0,.bool false,.slice none 0 0,.bool false,.slice none 0 0]) zk Tryz.underlying67 zk fun B w=>⟨[[.int .u8 0],[.bool false,.slice none 0 0,.bool false,.slice none 0 0],[.bool false,.slice none 0 0,.bool false,.slice none 0 0]],rfl,.cons rfl (.cons (nC B w) (.cons (nC B w) .nil))⟩
theorem et {c:Nat}{x:Rat}(hc:c≤137438953472):Cn Tryz.prog 114 [Qs c x] (Qs (2+c+1) (0-x)):=by
 refine Cn.intro Tryz.func114 G zk nq (fun B w0 a U=>?_)
 have U:=zn [(0,Qs c x)] [] U
 refine wp_seq<|zg [] [⟨1,27,ptrH,some 0,_,none⟩,⟨2,27,ptrH,some 1,_,none⟩] [.alc 0,.alc 1] [] U (oc (ay G G G (gq 0 G)) (oc (aJ G G G (Str.zero b4)) o0)) (zz [] [O 1 27 _,O 2 27 _] fun a w U=>?_)
 refine zt<|zgd [[],[],[0,1],[0,1,2]] [none,some (3,_)] [] [.v 3 _,.v 4 _,.v 5 _,.sto 1] [] ab U (zv G (aa (xs:=[]) ip .nil) (zl 0 G ax (zv G (aa (xs:=[.tmp 3,.tmp 4]) (eT zo) (.cons (vq 0 G) (.cons (vq 1 G) .nil))) (oc (aA G G G (vq 2 G) ax (Eq.trans (b:=4) G G)) o0)))) zk zk zk zk (zz [] [O 1 27 _,O 2 27 _] fun a w U=>?_)
 refine a7<|wp_ret<|ar ?_ (az G U (zm 1 G) ax)
 exact bh
theorem mi {c:Nat}{m:MQ}(hc:c≤137438953472):Cn Tryz.prog 34 [(QMA c m).va] ((QMA (2+c+1) ⟨0-m.a,0-m.b,0-m.c,0-m.d⟩).va):=by
 refine Cn.intro Tryz.func34 G zk nq (fun B w0 a U=>?_)
 have U:=zn [(0,(QMA c m).va)] [] U
 refine wp_seq<|zg [] [⟨1,29,ptrH,some 0,_,none⟩,⟨2,29,ptrH,some 1,_,none⟩] [.alc 0,.alc 1] [] U (oc (ay G G G (gq 0 G)) (oc (aJ G G G (Str.zero cM)) o0)) (zz [] [O 1 29 _,O 2 29 _] fun a w U=>?_)
 refine zt<|zgd [[],[0],[0,1],[],[3],[0,1,2,3,4],[],[6],[0,1,2,3,4,5,6,7],[],[9],[0,1,2,3,4,5,6,7,8,9,10],[0,1,2,3,4,5,6,7,8,9,10,11],[0,1,2,3,4,5,6,7,8,9,10,11,12]] [none,some (13,_)] [] [.adr 3 1 (.some 0) True,.v 4 _,.v 5 _,.adr 6 1 (.some 4) True,.v 7 _,.v 8 _,.adr 9 1 (.some 8) True,.v 10 _,.v 11 _,.adr 12 1 (.some 12) True,.v 13 _,.v 14 _,.v 15 _,.sto 1] [] ab U (oc (ob_a G G (ac (lz0 0 G) bG)) (zL 0 0 0 G ax (zv G (aa (xs:=[.tmp 4]) (et zo) (.cons (vq 1 G) .nil)) (oc (ob_a G G (ac (lz0 0 G) bF)) (zL 3 0 1 G ax (zv G (aa (xs:=[.tmp 7]) (et zo) (.cons (vq 4 G) .nil)) (oc (ob_a G G (ac (lz0 0 G) bU)) (zL 6 0 2 G ax (zv G (aa (xs:=[.tmp 10]) (et zo) (.cons (vq 7 G) .nil)) (oc (ob_a G G (ac (lz0 0 G) bW)) (zL 9 0 3 G ax (zv G (aa (xs:=[.tmp 13]) (et zo) (.cons (vq 10 G) .nil)) (zv G (bi (xs:=[(0,.tmp 5),(1,.tmp 8),(2,.tmp 11),(3,.tmp 14)]) (qs:=[(0,_),(1,_),(2,_),(3,_)]) cM (.cons ⟨rfl,(vq 2 G),rfl⟩ (.cons ⟨rfl,(vq 5 G),rfl⟩ (.cons ⟨rfl,(vq 8 G),rfl⟩ (.cons ⟨rfl,(vq 11 G),rfl⟩ .nil))))) (oc (aA G G G (vq 12 G) dg (Eq.trans (b:=16) G G)) o0)))))))))))))) zk zk zk zk (zz [] [O 1 29 _,O 2 29 _] fun a w U=>?_)
 refine a7<|wp_ret<|ar ?_ (az G U (zm 1 G) dg)
 exact bh
def elK (k ps qs:Int):Bool:=if k==1 then decide (ps≥0)&&(qs==0) else if k==2 then (qs==0) else if k==3 then decide (ps≥0)&&decide (qs>0) else if k==4 then true else ((k==5)&&(ps==0))&&(qs==0)
def elF (x:RE):Bool:=[x.p,x.q].all okX&&elK x.k (toQ x.p).num.sign (toQ x.q).num.sign
def chF (xs:List RE):Int:=if xs.length>4096 then 4 else if xs.all elF then 0 else 1
theorem yN {x:RE}(h:(![x.p,x.q].all okX)=true):elF x=false:=by rw [Bool.not_eq_true'] at h; rw [elF,h]; rfl
theorem yM {x:RE}(h:(![x.p,x.q].all okX)=false):[x.p,x.q].all okX=true∧elF x=elK x.k (toQ x.p).num.sign (toQ x.q).num.sign:=by rw [Bool.not_eq_false'] at h; exact ⟨h,by rw [elF,h]; rfl⟩
theorem el_q {x:RE}(h:[x.p,x.q].all okX=true):WkA (REA x) (QEA 2048 x.k (toQ x.p) (toQ x.q)):=by
 simp only [List.all_cons,List.all_nil,Bool.and_true,Bool.and_eq_true] at h
 exact bz (.cons (WkA.refl _) (.cons (qa_x h.1 (Nat.le_refl _)) (.cons (qa_x h.2 (Nat.le_refl _)) .nil)))
theorem jN (x:RE):UpA (REA x) (REA x):=i7 (.cons (oB _ _) (.cons (cY _) (.cons (cY _) .nil)))
theorem kd1 {k ps qs:Int}(h:(k==1)=true):elK k ps qs=(decide (ps≥0)&&(qs==0)):=by rw [elK,h]; rfl
theorem kd2 {k ps qs:Int}(h1:(k==1)=false)(h:(k==2)=true):elK k ps qs=(qs==0):=by rw [elK,h1,h]; rfl
theorem kd3 {k ps qs:Int}(h1:(k==1)=false)(h2:(k==2)=false)(h:(k==3)=true):elK k ps qs=(decide (ps≥0)&&decide (qs>0)):=by rw [elK,h1,h2,h]; rfl
theorem kd4 {k ps qs:Int}(h1:(k==1)=false)(h2:(k==2)=false)(h3:(k==3)=false)(h:(k==4)=true):elK k ps qs=true:=by rw [elK,h1,h2,h3,h]; rfl
theorem kd5 {k ps qs:Int}(h1:(k==1)=false)(h2:(k==2)=false)(h3:(k==3)=false)(h4:(k==4)=false):elK k ps qs=(((k==5)&&(ps==0))&&(qs==0)):=by rw [elK,h1,h2,h3,h4]; rfl
theorem Ce (x:RE):Cn Tryz.prog 100 [(REA x).va] (Bo (elF x)):=by
 refine Cn.intro Tryz.func100 G zk nq (fun B w0 a U=>?_)
 have U:=zn [(0,(REA x).va)] [] U
 refine wp_seq<|zg [] [⟨1,67,ptrH,some 0,_,none⟩] [.alc 0,.v 2 _] [.o 1] U (oc (ay G G G (gq 0 G)) (zv G (a9 aK) o0)) (zz [(2,_)] [O 1 67 _] fun a w U=>?_)
 refine zt<|wp_seq<|zg [none] [] [.adr 5 1 (.some 1) True,.v 6 _,.adr 7 1 (.some 5) True,.v 8 _,.v 9 _,.v 10 _,.v 11 _] [.g 0,.o 6] U (oc (ob_a G G (ac (lz0 0 G) bg)) (zL 0 0 1 G ax (oc (ob_a G G (ac (lz0 0 G) bK)) (zL 2 0 2 G ax (zv G (cz (D:=[U32]) (l:=[_,_]) (xs:=[.tmp 6,.tmp 8]) (dK zk) fS zk (n_ok zk) nq nq nq (.cons (vq 1 G) (.cons (vq 3 G) .nil)) G G) (zv G (aa (xs:=[.tmp 9]) (pY [x.p,x.q] nq) (.cons (vq 4 G) .nil)) (zv G (dS (vq 5 G)) o0))))))) (zz [(2,_),(11,_)] [O 1 67 _] fun a w U=>?_)
 refine a7<|ah U (zm 1 G) (fun hb0=>?_) (fun hb0=>?_)
 ·refine wp_seq<|zg [none] [] [.v 2 _] [.o 0] U (zv G (a9 aK) o0) (zz [(2,_)] [O 1 67 _] fun a w U=>?_)
  refine a7<|wp_ret<|ap ?_
  refine ar ?_ (am G U (zm 0 G))
  rw [yN hb0]; exact bh
 ·obtain ⟨hx,he⟩:=yM hb0
  have U:=St.wkL U 0 rfl (el_q hx)
  refine wp_skip<|zt<|zgd [[],[0],[0,1],[],[3],[0,1,2,3,4],[0,1,2,3,4,5],[0,1,2,3,4,5,6]] [none] [] [.adr 12 1 (.some 1) True,.v 13 _,.v 14 _,.adr 15 1 (.some 5) True,.v 16 _,.v 17 _,.v 3 _,.v 4 _] [.g 0,.o 6,.o 7] ab U (oc (ob_a G G (ac (lz0 0 G) bg)) (zL 0 0 1 G ax (zv G (aa (xs:=[.tmp 13]) jT (.cons (vq 1 G) .nil)) (oc (ob_a G G (ac (lz0 0 G) bK)) (zL 3 0 2 G ax (zv G (aa (xs:=[.tmp 16]) jT (.cons (vq 4 G) .nil)) (zA 2 G (zA 5 G o0)))))))) zk zk zk zk (zz [(2,_),(3,_),(4,_)] [O 1 67 _] fun a w U=>?_)
  refine zt<|wp_seq<|zg [none] [] [.adr 18 1 (.some 0) True,.v 19 _] [.g 0,.g 1,.g 2,.o 1] U (oc (ob_a G G (ac (lz0 0 G) bP)) (zL 0 0 0 G er o0)) (zz [(2,_),(3,_),(4,_),(19,_)] [O 1 67 _] fun a w U=>?_)
  refine a7<|wp_block<|wp_seq<|zg [none] [] [.v 21 _,.v 20 _] [.g 0,.g 1,.g 2,.g 3,.o 1] U (zv G (bD (gq 3 G) a8) (zA 0 G o0)) (zz [(2,_),(3,_),(4,_),(19,_),(20,_)] [O 1 67 _] fun a w U=>?_)
  refine a7<|ah U (zm 4 G) (fun hb1=>?_) (fun hb1=>?_)
  ·refine wp_seq<|zg [none] [] [.v 22 _,.v 23 _,.v 24 _,.v 25 (Wh (_=true) _),.v 26 (Wh (_=true) _),.v 27 _,.v 2 _] [.g 1,.g 2,.o 6] U (zM 1 G (zv G (eK (vq 0 G) a8) (zv G (ae (vq 1 G)) (oc (an G G G (vq 2 G) nq (fun hg=>ae (gq 2 G))) (oc (an G G G (vq 2 G) nq (fun hg=>bD (ai (vq 3 G) hg) a8)) (zv G (bJ (vq 2 G) (vq 4 G)) (zA 5 G o0))))))) (zz [(3,_),(4,_),(2,_)] [O 1 67 _] fun a w U=>?_)
   refine a7<|wp_ret<|aV ?_
   refine ap ?_
   refine ar ?_ (am G U (zm 2 G))
   rw [he,kd1 hb1]; exact bh
  ·refine wp_seq<|zg [none] [] [.v 29 _,.v 28 _] [.g 0,.g 1,.g 2,.g 3,.o 1] U (zv G (bD (gq 3 G) a8) (zA 0 G o0)) (zz [(2,_),(3,_),(4,_),(19,_),(28,_)] [O 1 67 _] fun a w U=>?_)
   refine a7<|ah U (zm 4 G) (fun hb2=>?_) (fun hb2=>?_)
   ·refine wp_seq<|zg [none] [] [.v 30 _,.v 31 _,.v 2 _] [.g 1,.g 2,.o 2] U (zM 2 G (zv G (bD (vq 0 G) a8) (zA 1 G o0))) (zz [(3,_),(4,_),(2,_)] [O 1 67 _] fun a w U=>?_)
    refine a7<|wp_ret<|aV ?_
    refine ap ?_
    refine ar ?_ (am G U (zm 2 G))
    rw [he,kd2 hb1 hb2]; exact bh
   ·refine wp_seq<|zg [none] [] [.v 33 _,.v 32 _] [.g 0,.g 1,.g 2,.g 3,.o 1] U (zv G (bD (gq 3 G) a8) (zA 0 G o0)) (zz [(2,_),(3,_),(4,_),(19,_),(32,_)] [O 1 67 _] fun a w U=>?_)
    refine a7<|ah U (zm 4 G) (fun hb3=>?_) (fun hb3=>?_)
    ·refine wp_seq<|zg [none] [] [.v 34 _,.v 35 _,.v 36 _,.v 37 (Wh (_=true) _),.v 38 (Wh (_=true) _),.v 39 _,.v 2 _] [.g 1,.g 2,.o 6] U (zM 1 G (zv G (eK (vq 0 G) a8) (zv G (ae (vq 1 G)) (oc (an G G G (vq 2 G) nq (fun hg=>ae (gq 2 G))) (oc (an G G G (vq 2 G) nq (fun hg=>dJ (ai (vq 3 G) hg) a8)) (zv G (bJ (vq 2 G) (vq 4 G)) (zA 5 G o0))))))) (zz [(3,_),(4,_),(2,_)] [O 1 67 _] fun a w U=>?_)
     refine a7<|wp_ret<|aV ?_
     refine ap ?_
     refine ar ?_ (am G U (zm 2 G))
     rw [he,kd3 hb1 hb2 hb3]; exact bh
    ·refine wp_seq<|zg [none] [] [.v 41 _,.v 40 _] [.g 0,.g 1,.g 2,.o 1] U (zv G (bD (gq 3 G) a8) (zA 0 G o0)) (zz [(2,_),(3,_),(4,_),(40,_)] [O 1 67 _] fun a w U=>?_)
     refine a7<|ah U (zm 3 G) (fun hb4=>?_) (fun hb4=>?_)
     ·refine wp_seq<|zg [none] [] [.v 2 _] [.g 1,.g 2,.o 0] U (zv G (a9 aK) o0) (zz [(3,_),(4,_),(2,_)] [O 1 67 _] fun a w U=>?_)
      refine a7<|wp_ret<|aV ?_
      refine ap ?_
      refine ar ?_ (am G U (zm 2 G))
      rw [he,kd4 hb1 hb2 hb3 hb4]; exact bh
     ·refine wp_skip<|ao ?_
      refine zt<|zg [none] [] [.adr 42 1 (.some 0) True,.v 43 _,.v 44 _,.v 45 _,.v 46 (Wh (_=true) _),.v 47 (Wh (_=true) _),.v 48 _,.v 49 _,.v 50 (Wh (_=true) _),.v 51 (Wh (_=true) _),.v 52 _,.v 2 _] [.o 11] U (oc (ob_a G G (ac (lz0 0 G) bP)) (zL 0 0 0 G er (zv G (bD (vq 1 G) a8) (zv G (ae (vq 2 G)) (oc (an G G G (vq 3 G) nq (fun hg=>ae (gq 1 G))) (oc (an G G G (vq 3 G) nq (fun hg=>bD (ai (vq 4 G) hg) a8)) (zv G (bJ (vq 3 G) (vq 5 G)) (zv G (ae (vq 6 G)) (oc (an G G G (vq 7 G) nq (fun hg=>ae (gq 2 G))) (oc (an G G G (vq 7 G) nq (fun hg=>bD (ai (vq 8 G) hg) a8)) (zv G (bJ (vq 7 G) (vq 9 G)) (zA 10 G o0)))))))))))) (zz [(2,_)] [O 1 67 _] fun a w U=>?_)
      refine a7<|wp_ret<|ar ?_ (am G U (zm 0 G))
      rw [he,kd5 hb1 hb2 hb3 hb4]; exact bh
theorem z8 {α:Type}{p:α→Bool}{l:List α}{j:Nat}(h:j<l.length)(h2:p l[j]=false):l.all p=false:=List.all_eq_false.2 ⟨_,List.getElem_mem h,by simp [h2]⟩
theorem z9 {α:Type}{p:α→Bool}{l:List α}{j:Nat}(h:j<l.length)(h1:(l.take j).all p=true)(h2:p l[j]=true):(l.take (j+1)).all p=true:=by
 rw [List.take_succ_eq_append_getElem h,List.all_append,h1]
 simp [h2]
theorem slx {E:TypeId}{D:List TypeId}{l:List As}:Wk (SlO E D l True).va (SlA E D l).va:=br D2 fun _ _ _ h=>(dH h).2
theorem ri (xs:List RE):Cn Tryz.prog 23 [(SlA 67 [U32] (xs.map REA)).va] (In (chF xs)):=by
 refine Cn.introW Tryz.func23 rfl zk nq (.cons (ns (fun A hA=>by obtain ⟨x,_,rfl⟩:=List.mem_map.1 hA; exact jN x)).va .nil) (dO _ _).va (fun B w0 a hB0 U=>?_)
 have U:=zn [(0,(SlO 67 [U32] (xs.map REA) True).va)] [] U
 have hl:=A8 (U.vals (0,(SlO 67 [U32] (xs.map REA) True).va) (zm 0 rfl))
 rw [List.length_map] at hl
 refine wp_seq<|zh [.v 2 _] [.g 0,.o 0] U (zv G (a9 a8) o0) (zz [(0,_),(2,_)] [] fun a w U=>?_)
 refine zt<|wp_seq<|zh [.v 5 _,.v 6 _,.v 7 _] [.g 0,.g 1,.o 2] U (zM 0 G (zv G (be Tryz.underlying22 (cE (aL (vq 0 G)))) (zv G (dJ (vq 1 G) a8) o0))) (zz [(0,_),(2,_),(7,_)] [] fun a w U=>?_)
 refine a7<|ah U (zm 2 G) (fun hb0=>?_) (fun hb0=>?_)
 ·have hbig:xs.length>4096:=by rw [List.length_map] at hb0; have:=of_decide_eq_true hb0; omega
  refine wp_seq<|zh [.v 2 _] [.g 0,.o 0] U (zv G (a9 a8) o0) (zz [(0,_),(2,_)] [] fun a w U=>?_)
  refine a7<|wp_ret<|ap ?_
  refine ar ?_ (am G U (zm 1 G))
  rw [chF,if_pos hbig]; exact bh
 ·have hbig:¬ xs.length>4096:=by rw [List.length_map] at hb0; have:=of_decide_eq_false hb0; omega
  refine wp_skip<|zt<|wp_seq<|zh [.v 8 _,.v 9 _,.v 10 _] [.g 1,.o 0,.o 1,.o 2] U (zM 0 G (zv G (be Tryz.underlying22 (cE (aL (vq 0 G)))) (zv G (ae a8) o0))) (zz [(2,_),(8,_),(9,_),(10,_)] [] fun a w U=>?_)
  refine a7<|wp_block ?_
  have U:=St.sel U [1,2,3]
  refine wp_loop_ghost (fun n a w=>∃ j:Nat,(n+j=xs.length∧(xs.take j).all elF=true)∧St B w0 18 [(8,(SlO 67 [U32] (xs.map REA) True).va),(9,In (xs.length:Nat)),(10,In (j:Nat))] [] a w) (xs.length) ?_ ?_
  ·exact ⟨0,⟨by omega,rfl⟩,by rw [List.length_map] at U; exact U⟩
  intro n a w hI
  obtain ⟨j,⟨hn,hno⟩,U⟩:=hI
  refine wp_seq<|zh [.v 11 _] [.g 0,.g 1,.g 2,.o 0] U (zv G (aN (gq 2 G) (gq 1 G)) o0) (zz [(8,_),(9,_),(10,_),(11,_)] [] fun a w U=>?_)
  refine zt<|ah U (zm 3 G) (fun hb1=>?_) (fun hb1=>?_)
  ·have hj:j<xs.length:=by simp at hb1; omega
   refine wp_skip<|zt<|wp_block<|wp_seq<|zg [] [⟨4,67,ptrH,some 2,_,some (3,_)⟩] [.v 12 _,.v 13 _,.alc 0,.sto 0] [.g 0,.g 1,.g 2] U (zv G (cB cC (fM fun _=>rfl) (cE (aL (gq 0 G))) (gq 2 G) (dD hj)) (zv G (aq (vq 0 G) cb) (oc (aJ G G G (Str.zero cu)) (oc (aA G G G (vq 1 G) cb (Eq.trans (b:=9) G G)) o0)))) (zz [(8,_),(9,_),(10,_)] [O 4 67 _] fun a w U=>?_)
   refine zt<|zg [none] [] [.v 14 _,.v 15 _,.v 16 _] [.g 0,.g 1,.g 2,.o 2] U (zl 0 G cb (zv G (aa (xs:=[.tmp 14]) (Ce _) (.cons (vq 0 G) .nil)) (zv G (dS (vq 1 G)) o0))) (zz [(8,_),(9,_),(10,_),(16,_)] [O 4 67 _] fun a w U=>?_)
   refine a7<|ah U (zm 3 G) (fun hb2=>?_) (fun hb2=>?_)
   ·refine wp_seq<|zg [none] [] [.v 2 _] [.g 0,.g 1,.g 2,.o 0] U (zv G (a9 a8) o0) (zz [(8,_),(9,_),(10,_),(2,_)] [O 4 67 _] fun a w U=>?_)
    refine a7<|wp_ret<|aV ?_
    refine ap ?_
    refine ap ?_
    refine aV ?_
    refine ap ?_
    refine ar ?_ (am G U (zm 3 G))
    rw [chF,if_neg hbig,z8 hj (by simpa using hb2)]; exact bh
   ·refine wp_skip<|ao ?_
    refine a7<|zg [none] [] [.v 17 _,.v 10 _] [.g 0,.g 1,.o 1] U (zv G (aR (gq 2 G) a8 ((wi64 zo zo).trans (by omega:(_:Int)=((j+1:Nat):Int)))) (zv G (ae (vq 0 G)) o0)) (zz [(8,_),(9,_),(10,_)] [O 4 67 _] fun a w U=>?_)
    refine a7 ?_
    have U:=St.sel U [0,1,2]
    have U:=St.selL U []
    exact ⟨n-1,by omega,j+1,⟨by omega,z9 hj hno (by simpa using hb2)⟩,U⟩
  ·obtain rfl:j=xs.length:=by simp at hb1; omega
   refine wp_exit<|ak<|ak<|aC<|zt<|zh [.v 2 _] [.o 0] U (zv G (a9 a8) o0) (zz [(2,_)] [] fun a w U=>?_)
   refine a7<|wp_ret<|ar ?_ (am G U (zm 0 G))
   rw [List.take_length] at hno; rw [chF,if_neg hbig,hno]; exact bh
theorem iz {x:RE}(h:elF x=true):[x.p,x.q].all okX=true∧(x.k=1∨x.k=2∨(x.k=3∧toQ x.q≠0)∨x.k=4∨x.k=5):=by
 unfold elF at h
 rw [Bool.and_eq_true] at h
 refine ⟨h.1,?_⟩
 have h2:=h.2
 by_cases h1:x.k=1
 ·exact .inl h1
 ·by_cases h3:x.k=2
  ·exact .inr (.inl h3)
  ·by_cases h4:x.k=3
   ·rw [kd3 (by simpa using h1) (by simpa using h3) (by simpa using h4),Bool.and_eq_true] at h2
    refine .inr (.inr (.inl ⟨h4,fun e=>?_⟩))
    rw [e] at h2
    have:=of_decide_eq_true h2.2
    exact absurd this zd
   ·by_cases h5:x.k=4
    ·exact .inr (.inr (.inr (.inl h5)))
    ·rw [kd5 (by simpa using h1) (by simpa using h3) (by simpa using h4) (by simpa using h5)] at h2
     simp only [Bool.and_eq_true,beq_iff_eq] at h2
     exact .inr (.inr (.inr (.inr h2.1.1)))
theorem CA {xs:List RE}(h:chF xs=0):xs.length≤4096∧xs.all elF=true:=by
 unfold chF at h
 by_cases h1:xs.length>4096
 ·rw [if_pos h1] at h; exact absurd h zd
 ·rw [if_neg h1] at h
  cases h2:xs.all elF with
  | true=>exact ⟨by omega,rfl⟩
  | false=>rw [h2] at h; exact absurd h zd
theorem iD:∃ it z,Tryz.prog.info? 67=some it∧it.zero=some z∧it.size=9∧it.bytes=136∧z.cells.size=9:=by
 have h:((Tryz.prog.info? 67).bind fun it=>it.zero.map fun z=>(it.size,it.bytes,z.cells.size))=some (9,136,9):=by kernel_rfl
 cases hi:Tryz.prog.info? 67 with
 | none=>rw [hi] at h; simp at h
 | some it =>
  rw [hi] at h
  cases hz:it.zero with
  | none=>simp [hz] at h
  | some z =>
   simp [hz] at h
   exact ⟨it,z,rfl,hz,h.1,h.2.1,h.2.2⟩
open Go.ChangeShapes Go.WideShapes Go.ChangeAt
theorem xL {α β:Type}{R':α→β→Prop}{l1 l2:List α}{m1 m2:List β}(h:All2 R' l1 m1)(h':All2 R' l2 m2):All2 R' (l1++l2) (m1++m2):=by
 induction h with
 | nil=>exact h'
 | cons h1 _ ih=>exact .cons h1 ih
theorem CC {l l':List As}{B:Nat}{ds ds':List Value}{w:World}(h:(cat l).p B ds w)(h':(cat l').p B ds' w):(cat (l++l')).p B (ds++ds') w:=by
 obtain ⟨ps,rfl,h1⟩:=h
 obtain ⟨ps',rfl,h2⟩:=h'
 exact ⟨ps++ps',by simp,xL h1 h2⟩
theorem xz {A:As}{B:Nat}{ds:List Value}{w:World}(h:A.p B ds w):(cat [A]).p B ds w:=⟨[ds],by simp,.cons h .nil⟩
section
variable {H:Type} {enc:TypeId × Value→H} {w:World} {base:Nat} {spare:Nat→Bool} {held:Bool} {fuel:Nat} {cs:List Value} {x:DataW H × List MemPlace}
end
open Go.ChangeShapes Go.WideShapes Go.ChangeAt
theorem uS {B:Nat}{cs:List Value}{w:World}{A0 A1 A2:As}(h0:A0.p B ((cs.drop 0).take A0.n) w)(h1:A1.p B ((cs.drop A0.n).take A1.n) w)(h2:A2.p B ((cs.drop (A0.n+A1.n)).take A2.n) w)(hl:cs.length=A0.n+(A1.n+A2.n)):(cat [A0,A1,A2]).p B cs w :=
 qc (by simpa using hl) fun k A hk=>by
  match k,hk with
  | 0,hk=>simp at hk; subst hk; exact h0
  | 1,hk=>simp at hk; subst hk; simpa [offs] using h1
  | 2,hk=>simp at hk; subst hk; simpa [offs] using h2
section
variable {H:Type} {enc:TypeId × Value→H} {w:World} {base:Nat} {spare:Nat→Bool} {held:Bool} {fuel:Nat} {cs:List Value} {x:DataW H × List MemPlace}
end
abbrev VL:=List (Value × Nat)
def FrK (n:Nat)(M:List Slt)(Es:VL):Prop:=M.map (fun s=>(s.v,s.xs.length))=Es∧∀ s∈M,s.u=s.v∧s.ys=s.xs∧s.z=.slice none 0 0∧s.n≤n
def FrL (n:Nat)(L:List Slot)(K:KL):Prop:=L.map (fun s=>(s.v,s.xs))=K∧∀ s∈L,s.u=s.v∧s.ys=s.xs∧s.z=.slice none 0 0∧s.n≤n
def KsP (K:KL)(Rs Es:VL)(X:BkRest)(L:List Slot):Prop:=X.n=K.length+Rs.length+Es.length∧X.N=[]∧FrL X.n L K∧FrK X.n X.R Rs∧FrK X.n X.M Es
def BkF (K:KL)(Rs Es:VL):As:=BqE (KsP K Rs Es)
theorem iy {n m:Nat}{M:List Slt}{Es:VL}(h:FrK n M Es)(hn:n≤m):FrK m M Es:=⟨h.1,fun s hs=>⟨(h.2 s hs).1,(h.2 s hs).2.1,(h.2 s hs).2.2.1,Nat.le_trans (h.2 s hs).2.2.2 hn⟩⟩
theorem pF {n m:Nat}{M:List Slot}{Es:KL}(h:FrL n M Es)(hn:n≤m):FrL m M Es:=⟨h.1,fun s hs=>⟨(h.2 s hs).1,(h.2 s hs).2.1,(h.2 s hs).2.2.1,Nat.le_trans (h.2 s hs).2.2.2 hn⟩⟩
theorem BZ {n m a:Nat}{M:List Slt}{Es:VL}{v:Value}{ds:List Value}(h:FrK n M Es):FrK (n+1) (M++[newK m v a ds (n+1)]) (Es++[(v,a)]):=by
 refine ⟨?_,fun s hs=>?_⟩
 ·rw [List.map_append,h.1]
  show Es++[(v,(chunks m a ds).length)]=_
  rw [ki]
 ·rcases List.mem_append.1 hs with hs | hs
  ·exact (iy h (Nat.le_succ n)).2 s hs
  ·obtain rfl:=List.mem_singleton.1 hs
   exact ⟨rfl,rfl,rfl,Nat.le_refl _⟩
theorem BY {n:Nat}{L:List Slot}{K:KL}{v:Value}{xs:List Nat}(h:FrL n L K):FrL (n+1) (L++[newS v xs (n+1)]) (K++[(v,xs)]):=by
 refine ⟨by rw [List.map_append,h.1]; rfl,fun s hs=>?_⟩
 rcases List.mem_append.1 hs with hs | hs
 ·exact (pF h (Nat.le_succ n)).2 s hs
 ·obtain rfl:=List.mem_singleton.1 hs
  exact ⟨rfl,rfl,rfl,Nat.le_refl _⟩
theorem CK.exT {P : Program} {α : Type} {f : FuncId} {T : TypeId} {Ts : List TypeId} {A0 A1 : As} {A : α → As} {c : α → Prop} {pre : List VA} {post : VA} (hex : ∃ fn, P.funcs[f]? = some fn ∧ (fn.name == "runtime.NumGoroutine") = false ∧ fn.body.isNone = false) (h : ∀ x, c x → CK P f T Ts (A x) A1 pre post) (hp : ∀ B cs w, A0.p B cs w → ∃ x, c x ∧ (A x).p B cs w) : CK P f T Ts A0 A1 pre post :=
 ⟨hex,fun B w g cs args hB hg hp0 ha=>by
  obtain ⟨x,hc,hx⟩:=hp B cs w hp0
  exact (h x hc).2 B w g cs args hB hg hx ha⟩
theorem l8 {α β:Type}{f:α→β}{l:List α}{m:List β}(h:l.map f=m):l.length=m.length:=by rw [← h,List.length_map]
theorem sep_l {n:Nat}{L:List Slot}{K:KL}{v:Value}(h:FrL n L K)(hs:∀ p∈K,∀ g,p.1.ownBlock=some g→v.ownBlock≠some g):∀ t∈L,∀ g,t.has g→v.ownBlock≠some g:=fun t ht g hg=>by
 obtain ⟨e1,_,_,_⟩:=h.2 t ht
 have hv:t.v.ownBlock=some g:=by
  rcases hg with hg | hg
  ·exact hg
  ·rwa [e1] at hg
 exact hs (t.v,t.xs) (by rw [← h.1]; exact List.mem_map.2 ⟨t,ht,rfl⟩) g hv
theorem sep_k {n:Nat}{L:List Slt}{K:VL}{v:Value}(h:FrK n L K)(hs:∀ p∈K,∀ g,p.1.ownBlock=some g→v.ownBlock≠some g):∀ t∈L,∀ g,t.has g→v.ownBlock≠some g:=fun t ht g hg=>by
 obtain ⟨e1,_,_,_⟩:=h.2 t ht
 have hv:t.v.ownBlock=some g:=by
  rcases hg with hg | hg
  ·exact hg
  ·rwa [e1] at hg
 exact hs (t.v,t.xs.length) (by rw [← h.1]; exact List.mem_map.2 ⟨t,ht,rfl⟩) g hv
theorem wL (K:KL)(Rs Es:VL)(v:Value)(xs:List Nat)(hsep:∀ p∈K,∀ g,p.1.ownBlock=some g→v.ownBlock≠some g)(hl:K.length+Rs.length+Es.length≤1000000):CK Tryz.prog 198 58 [58,108] (BkF K Rs Es) (BkF (K++[(v,xs)]) Rs Es) [(PinA v (MgN xs)).va] (Tu []) :=
 CK.exT (c:=fun x:BkRest × Value × List Slot=>KsP K Rs Es x.1 x.2.2) (A:=fun x=>BqA x.1 x.2.1 x.2.2) (tS ⟨0,undef,[],undef,[],undef,[]⟩ undef v xs [] (fun t ht=>by cases ht) zd zd).1
  (fun x hx=>(tS x.1 x.2.1 v xs x.2.2 (sep_l hx.2.2.1 hsep) (by have:=l8 hx.2.2.1.1; omega) (by have:=hx.1; omega)).wk fun B cs w ⟨X,vr,L,hp,h⟩=>by
   obtain ⟨h1,h2,h3,h4,h5⟩:=hp
   obtain ⟨k1,k2,k3,k4,k5⟩:=hx
   refine ⟨X,vr,L,⟨by rw [h1,k1,List.length_append]; simp; omega,h2.trans k2,?_,?_,?_⟩,h⟩
   ·rw [h1,h5]; exact BY k3
   ·rw [h1,h3]; exact iy k4 (Nat.le_succ _)
   ·rw [h1,h4]; exact iy k5 (Nat.le_succ _)) fun B cs w ⟨X,vr,L,hp,h⟩=>⟨(X,vr,L),hp,h⟩
theorem wM (K:KL)(Rs Es:VL)(v:Value)(na:Nat)(hsep:∀ p∈Es,∀ g,p.1.ownBlock=some g→v.ownBlock≠some g)(hl:K.length+Rs.length+Es.length≤1000000):CK Tryz.prog 47 58 [58,105] (BkF K Rs Es) (BkF K Rs (Es++[(v,na)])) [OwV 67 9 v na] (Tu []) :=
 CK.exT (c:=fun x:BkRest × Value × List Slot=>KsP K Rs Es x.1 x.2.2) (A:=fun x=>BqA x.1 x.2.1 x.2.2) (tT ⟨0,undef,[],undef,[],undef,[]⟩ undef v na [] (fun t ht=>by cases ht) zd zd).1
  (fun x hx=>(tT x.1 x.2.1 v na x.2.2 (sep_k hx.2.2.2.2 hsep) (by have:=l8 hx.2.2.2.2.1; omega) (by have:=hx.1; omega)).wk fun B cs w ⟨X,vr,L,hp,h⟩=>by
   obtain ⟨h1,h2,h3,h4,es,_,h5⟩:=hp
   obtain ⟨k1,k2,k3,k4,k5⟩:=hx
   refine ⟨X,vr,L,⟨by rw [h1,k1,List.length_append]; simp; omega,h2.trans k2,?_,?_,?_⟩,h⟩
   ·rw [h1,h4]; exact pF k3 (Nat.le_succ _)
   ·rw [h1,h3]; exact iy k4 (Nat.le_succ _)
   ·rw [h1,h5]; exact BZ k5) fun B cs w ⟨X,vr,L,hp,h⟩=>⟨(X,vr,L),hp,h⟩
theorem new_l {n:Nat}{L:List Slot}{K:KL}{B:Nat}{w:World}{vr:Value}{c:List Value}(h:FrL n L K)(hn:n≤1000000)(hp:(HbA vr L).p B c w)(hok:∀ p∈K,okL p.2∧p.2.length≤2000000000000):∀ s∈L,s.new:=fun s hs=>by
 obtain ⟨e1,e2,e3,e4⟩:=h.2 s hs
 have hm:(s.v,s.xs)∈K:=by rw [← h.1]; exact List.mem_map.2 ⟨s,hs,rfl⟩
 obtain ⟨o1,o2⟩:=hok _ hm
 exact { rv:=(hp.2.2.1 s hs).2.1,ox:=o1,oy:=by rw [e2]; exact o1,z1:=by rw [e3]; rfl,n1:=by omega,lx:=o2,uv:=e1,yx:=e2 }
theorem new_k {H E m n:Nat}{L:List Slt}{K:VL}{B:Nat}{w:World}{vr:Value}{c:List Value}(h:FrK n L K)(hn:n≤1000000)(hp:(HkA H E m vr L).p B c w)(hok:∀ p∈K,p.2≤2000000000):∀ s∈L,s.new:=fun s hs=>by
 obtain ⟨e1,e2,e3,e4⟩:=h.2 s hs
 have hm:(s.v,s.xs.length)∈K:=by rw [← h.1]; exact List.mem_map.2 ⟨s,hs,rfl⟩
 exact { rv:=(hp.2.2.1 s hs).2.1,z1:=by rw [e3]; rfl,n1:=by omega,lx:=hok _ hm,uv:=e1,yx:=e2 }
theorem xG (K:KL)(Rs Es:VL)(hK:∀ p∈K,okL p.2∧p.2.length≤2000000000000)(hR:∀ p∈Rs,False)(hE:∀ p∈Es,p.2≤2000000000)(hl:K.length+Rs.length+Es.length≤1000000):CK Tryz.prog 18 58 [58,108,109,140,142,105,67] (BkF K Rs Es) JkA [] (Bo true) :=
 CK.exT (c:=fun x:BkRest × Value × List Slot=>KsP K Rs Es x.1 x.2.2∧(∀ s∈x.2.2,s.new)∧x.1.R=[]∧(∀ s∈x.1.M,s.new)) (A:=fun x=>BqA x.1 x.2.1 x.2.2)
  (v6 ⟨0,undef,[],undef,[],undef,[]⟩ undef [] (fun s hs=>by cases hs) zd rfl rfl (fun s hs=>by cases hs) zd).1
  (fun x hx=>v6 x.1 x.2.1 x.2.2 hx.2.1 (by have:=l8 hx.1.2.2.1.1; omega) hx.1.2.1 hx.2.2.1 hx.2.2.2 (by have:=l8 hx.1.2.2.2.2.1; omega))
  fun B cs w ⟨X,vr,L,hp,h⟩=>by
   obtain ⟨⟨c1,h1⟩,_,⟨c3,h3⟩,⟨c4,h4⟩⟩:=cG h
   have hn:X.n≤1000000:=by have:=hp.1; omega
   exact ⟨(X,vr,L),⟨hp,new_l hp.2.2.1 hn h1 hK,List.map_eq_nil_iff.1 (hp.2.2.2.1.1.trans (List.eq_nil_iff_forall_not_mem.2 hR)),new_k hp.2.2.2.2 hn h4 hE⟩,h⟩
theorem nd_sep {K:KL}{v:Value}{xs:List Nat}(h:(kbl (K++[(v,xs)])).Nodup):∀ p∈K,∀ g,p.1.ownBlock=some g→v.ownBlock≠some g:=fun p hp g hg hv=>by
 rw [kbl_app] at h
 have h2:=(List.nodup_append.1 h).2.2
 have m1:g∈kbl K:=List.mem_filterMap.2 ⟨p,hp,hg⟩
 have m2:g∈kbl [(v,xs)]:=List.mem_filterMap.2 ⟨(v,xs),by simp,hv⟩
 exact h2 g m1 g m2 rfl
theorem kb {K l:KL}(h:(kbl (K++l)).Nodup):(kbl K).Nodup:=by
 rw [kbl_app] at h
 exact (List.nodup_append.1 h).1
def EleP (x:RE)(m:Nat→Value):As:=cat [NumA .u8 x.k,FracP x.p (m 0) (m 1),FracP x.q (m 2) (m 3)]
abbrev ke (x:RE)(m:Nat→Value):KL:=kf x.p (m 0) (m 1)++kf x.q (m 2) (m 3)
theorem po (x:RI)(m:Value)(K:KL)(Rs Es:VL)(hs:(kbl (K++[(m,x.mag)])).Nodup)(hl:K.length+Rs.length+Es.length≤999999):CK Tryz.prog 137 58 [58,108] (BkF (K) Rs Es) (BkF (K++([(m,x.mag)])) Rs Es) [(IntP x m).va] (Tu []):=by
 refine CK.intro Tryz.func137 G zk nq zk (fun B g w0 a hrm U=>?_)
 have U:=zn [(0,EqV ((ptrH).f g)),(1,(IntP x m).va)] [⟨0,58,ptrH,BkF (K) Rs Es⟩] U
 refine wp_seq<|zg [none] [⟨3,25,ptrH,some 0,_,none⟩] [.alc 1] [.g 0] U (oc (ay G G G (gq 1 G)) o0) (zz [(0,_)] [O 0 58 _,O 3 25 _] fun a w U=>?_)
 refine a7<|bf (sp:=[.v 4 _,.adr 5 3 (.some 1) True,.v 6 _,.v 7 VT]) 3 1 99 3 OneC [.g 0,.o 0,.o 2] U (zM 0 G (oc (ob_a G G (ac (lz0 1 G) au)) (zL 1 1 1 G aW o0))) G zd zk zk (zz [(0,_),(4,_),(6,_)] [O 0 58 _,O 3 25 _] fun a w U=>?_)
 rw [show List.range' 3 1=[3] from rfl]
 rw [wpOps_cons]
 refine cP (A1:=BkF (K++[(m,x.mag)]) Rs Es) (xs:=[.tmp 6]) [0] [2] 0 G U (wL K Rs Es m x.mag (nd_sep hs) zo) G (Eq.trans (b:=ptr g) (U.vals _ (zm 1 G)) (Eq.symm (U.vals _ (zm 0 G)))) (.cons ⟨_,rfl,rfl⟩ .nil) G hrm zd zk zk zk zk (fun a w U=>?_)
 refine bq ?_
 have U:=St.cvA (A':=BkF (K++([(m,x.mag)])) Rs Es) U 0 rfl (congrArg (fun k=>BkF k Rs Es) (by simp [List.append_assoc]))
 have U:=zn [(7,_),(0,_)] [⟨0,58,ptrH,BkF (K++([(m,x.mag)])) Rs Es⟩,O 3 25 _] U
 refine cD<|fG U (zm 1 G) (zm 0 G) ?_
 exact aS (rs:=[]) G U .nil zd
theorem fq (x:RF)(m1 m2:Value)(K:KL)(Rs Es:VL)(hs:(kbl (K++([(m1,x.num.mag)]++[(m2,x.den.mag)]))).Nodup)(hl:K.length+Rs.length+Es.length≤999990):CK Tryz.prog 48 58 [58,108] (BkF (K) Rs Es) (BkF (K++([(m1,x.num.mag)]++[(m2,x.den.mag)])) Rs Es) [(FracP x m1 m2).va] (Tu []):=by
 have g1:(kbl ((K++[(m1,x.num.mag)])++[(m2,x.den.mag)])).Nodup:=by simpa [List.append_assoc] using hs
 have g0:=kb g1
 refine CK.intro Tryz.func48 G zk nq zk (fun B g w0 a hrm U=>?_)
 have U:=zn [(0,EqV ((ptrH).f g)),(1,(FracP x m1 m2).va)] [⟨0,58,ptrH,BkF (K) Rs Es⟩] U
 refine wp_seq<|zg [none] [⟨3,27,ptrH,some 0,_,none⟩] [.alc 1] [.g 0] U (oc (ay G G G (gq 1 G)) o0) (zz [(0,_)] [O 0 58 _,O 3 27 _] fun a w U=>?_)
 refine zt<|bf (sp:=[.v 4 _,.adr 5 3 (.some 0) True,.v 6 _,.v 7 VT]) 3 1 99 3 OneC [.g 0,.o 0,.o 2] U (zM 0 G (oc (ob_a G G (ac (lz0 1 G) aY)) (zL 1 1 0 G al o0))) G zd zk zk (zz [(0,_),(4,_),(6,_)] [O 0 58 _,O 3 27 _] fun a w U=>?_)
 rw [show List.range' 3 1=[3] from rfl]
 rw [wpOps_cons]
 refine cP (A1:=BkF (K++[(m1,x.num.mag)]) Rs Es) (xs:=[.tmp 6]) [0] [2] 0 G U (po x.num m1 K Rs Es g0 (by (try simp only [List.length_append,List.length_cons,List.length_nil]); omega)) G (Eq.trans (b:=ptr g) (U.vals _ (zm 1 G)) (Eq.symm (U.vals _ (zm 0 G)))) (.cons ⟨_,rfl,rfl⟩ .nil) G hrm zd zk zk zk zk (fun a w U=>?_)
 refine bq ?_
 have U:=zn [(7,_),(0,_)] [⟨0,58,ptrH,BkF (K++[(m1,x.num.mag)]) Rs Es⟩,O 3 27 _] U
 refine a7<|bf (sp:=[.v 8 _,.adr 9 3 (.some 2) True,.v 10 _,.v 11 VT]) 3 1 99 3 OneC [.g 1,.o 0,.o 2] U (zM 1 G (oc (ob_a G G (ac (lz0 1 G) aT)) (zL 1 1 1 G al o0))) G zd zk zk (zz [(0,_),(8,_),(10,_)] [O 0 58 _,O 3 27 _] fun a w U=>?_)
 rw [show List.range' 3 1=[3] from rfl]
 rw [wpOps_cons]
 refine cP (A1:=BkF ((K++[(m1,x.num.mag)])++[(m2,x.den.mag)]) Rs Es) (xs:=[.tmp 10]) [0] [2] 0 G U (po x.den m2 (K++[(m1,x.num.mag)]) Rs Es g1 (by (try simp only [List.length_append,List.length_cons,List.length_nil]); omega)) G (Eq.trans (b:=ptr g) (U.vals _ (zm 1 G)) (Eq.symm (U.vals _ (zm 0 G)))) (.cons ⟨_,rfl,rfl⟩ .nil) G hrm zd zk zk zk zk (fun a w U=>?_)
 refine bq ?_
 have U:=St.cvA (A':=BkF (K++([(m1,x.num.mag)]++[(m2,x.den.mag)])) Rs Es) U 0 rfl (congrArg (fun k=>BkF k Rs Es) (by simp [List.append_assoc]))
 have U:=zn [(11,_),(0,_)] [⟨0,58,ptrH,BkF (K++([(m1,x.num.mag)]++[(m2,x.den.mag)])) Rs Es⟩,O 3 27 _] U
 refine cD<|fG U (zm 1 G) (zm 0 G) ?_
 exact aS (rs:=[]) G U .nil zd
theorem wK (x:RM)(m:Nat→Value)(K:KL)(Rs Es:VL)(hs:(kbl (K++km x m)).Nodup)(hl:K.length+Rs.length+Es.length≤999974):CK Tryz.prog 17 58 [58,108] (BkF (K) Rs Es) (BkF (K++(km x m)) Rs Es) [(MatP x m).va] (Tu []):=by
 have g3:(kbl ((((K++(kf x.a (m 0) (m 1)))++(kf x.b (m 2) (m 3)))++(kf x.c (m 4) (m 5)))++(kf x.d (m 6) (m 7)))).Nodup:=by simpa [List.append_assoc] using hs
 have g2:=kb g3
 have g1:=kb g2
 have g0:=kb g1
 refine CK.intro Tryz.func17 G zk nq zk (fun B g w0 a hrm U=>?_)
 have U:=zn [(0,EqV ((ptrH).f g)),(1,(MatP x m).va)] [⟨0,58,ptrH,BkF (K) Rs Es⟩] U
 refine wp_seq<|zg [none] [⟨3,29,ptrH,some 0,_,none⟩] [.alc 1] [.g 0] U (oc (ay G G G (gq 1 G)) o0) (zz [(0,_)] [O 0 58 _,O 3 29 _] fun a w U=>?_)
 refine zt<|bf (sp:=[.v 4 _,.adr 5 3 (.some 0) True,.v 6 _,.v 7 VT]) 3 1 99 3 OneC [.g 0,.o 0,.o 2] U (zM 0 G (oc (ob_a G G (ac (lz0 1 G) bG)) (zL 1 1 0 G ax o0))) G zd zk zk (zz [(0,_),(4,_),(6,_)] [O 0 58 _,O 3 29 _] fun a w U=>?_)
 rw [show List.range' 3 1=[3] from rfl]
 rw [wpOps_cons]
 refine cP (A1:=BkF (K++(kf x.a (m 0) (m 1))) Rs Es) (xs:=[.tmp 6]) [0] [2] 0 G U (fq x.a (m 0) (m 1) K Rs Es g0 (by (try simp only [List.length_append,List.length_cons,List.length_nil]); omega)) G (Eq.trans (b:=ptr g) (U.vals _ (zm 1 G)) (Eq.symm (U.vals _ (zm 0 G)))) (.cons ⟨_,rfl,rfl⟩ .nil) G hrm zd zk zk zk zk (fun a w U=>?_)
 refine bq ?_
 have U:=zn [(7,_),(0,_)] [⟨0,58,ptrH,BkF (K++(kf x.a (m 0) (m 1))) Rs Es⟩,O 3 29 _] U
 refine zt<|bf (sp:=[.v 8 _,.adr 9 3 (.some 4) True,.v 10 _,.v 11 VT]) 3 1 99 3 OneC [.g 1,.o 0,.o 2] U (zM 1 G (oc (ob_a G G (ac (lz0 1 G) bF)) (zL 1 1 1 G ax o0))) G zd zk zk (zz [(0,_),(8,_),(10,_)] [O 0 58 _,O 3 29 _] fun a w U=>?_)
 rw [show List.range' 3 1=[3] from rfl]
 rw [wpOps_cons]
 refine cP (A1:=BkF ((K++(kf x.a (m 0) (m 1)))++(kf x.b (m 2) (m 3))) Rs Es) (xs:=[.tmp 10]) [0] [2] 0 G U (fq x.b (m 2) (m 3) (K++(kf x.a (m 0) (m 1))) Rs Es g1 (by (try simp only [List.length_append,List.length_cons,List.length_nil]); omega)) G (Eq.trans (b:=ptr g) (U.vals _ (zm 1 G)) (Eq.symm (U.vals _ (zm 0 G)))) (.cons ⟨_,rfl,rfl⟩ .nil) G hrm zd zk zk zk zk (fun a w U=>?_)
 refine bq ?_
 have U:=zn [(11,_),(0,_)] [⟨0,58,ptrH,BkF ((K++(kf x.a (m 0) (m 1)))++(kf x.b (m 2) (m 3))) Rs Es⟩,O 3 29 _] U
 refine zt<|bf (sp:=[.v 12 _,.adr 13 3 (.some 8) True,.v 14 _,.v 15 VT]) 3 1 99 3 OneC [.g 1,.o 0,.o 2] U (zM 1 G (oc (ob_a G G (ac (lz0 1 G) bU)) (zL 1 1 2 G ax o0))) G zd zk zk (zz [(0,_),(12,_),(14,_)] [O 0 58 _,O 3 29 _] fun a w U=>?_)
 rw [show List.range' 3 1=[3] from rfl]
 rw [wpOps_cons]
 refine cP (A1:=BkF (((K++(kf x.a (m 0) (m 1)))++(kf x.b (m 2) (m 3)))++(kf x.c (m 4) (m 5))) Rs Es) (xs:=[.tmp 14]) [0] [2] 0 G U (fq x.c (m 4) (m 5) ((K++(kf x.a (m 0) (m 1)))++(kf x.b (m 2) (m 3))) Rs Es g2 (by (try simp only [List.length_append,List.length_cons,List.length_nil]); omega)) G (Eq.trans (b:=ptr g) (U.vals _ (zm 1 G)) (Eq.symm (U.vals _ (zm 0 G)))) (.cons ⟨_,rfl,rfl⟩ .nil) G hrm zd zk zk zk zk (fun a w U=>?_)
 refine bq ?_
 have U:=zn [(15,_),(0,_)] [⟨0,58,ptrH,BkF (((K++(kf x.a (m 0) (m 1)))++(kf x.b (m 2) (m 3)))++(kf x.c (m 4) (m 5))) Rs Es⟩,O 3 29 _] U
 refine a7<|bf (sp:=[.v 16 _,.adr 17 3 (.some 12) True,.v 18 _,.v 19 VT]) 3 1 99 3 OneC [.g 1,.o 0,.o 2] U (zM 1 G (oc (ob_a G G (ac (lz0 1 G) bW)) (zL 1 1 3 G ax o0))) G zd zk zk (zz [(0,_),(16,_),(18,_)] [O 0 58 _,O 3 29 _] fun a w U=>?_)
 rw [show List.range' 3 1=[3] from rfl]
 rw [wpOps_cons]
 refine cP (A1:=BkF ((((K++(kf x.a (m 0) (m 1)))++(kf x.b (m 2) (m 3)))++(kf x.c (m 4) (m 5)))++(kf x.d (m 6) (m 7))) Rs Es) (xs:=[.tmp 18]) [0] [2] 0 G U (fq x.d (m 6) (m 7) (((K++(kf x.a (m 0) (m 1)))++(kf x.b (m 2) (m 3)))++(kf x.c (m 4) (m 5))) Rs Es g3 (by (try simp only [List.length_append,List.length_cons,List.length_nil]); omega)) G (Eq.trans (b:=ptr g) (U.vals _ (zm 1 G)) (Eq.symm (U.vals _ (zm 0 G)))) (.cons ⟨_,rfl,rfl⟩ .nil) G hrm zd zk zk zk zk (fun a w U=>?_)
 refine bq ?_
 have U:=St.cvA (A':=BkF (K++(km x m)) Rs Es) U 0 rfl (congrArg (fun k=>BkF k Rs Es) (by simp [List.append_assoc]))
 have U:=zn [(19,_),(0,_)] [⟨0,58,ptrH,BkF (K++(km x m)) Rs Es⟩,O 3 29 _] U
 refine cD<|fG U (zm 1 G) (zm 0 G) ?_
 exact aS (rs:=[]) G U .nil zd
theorem tU (x:RE)(m:Nat→Value)(K:KL)(Rs Es:VL)(hs:(kbl (K++ke x m)).Nodup)(hl:K.length+Rs.length+Es.length≤999982):CK Tryz.prog 46 58 [58,108] (BkF (K) Rs Es) (BkF (K++(ke x m)) Rs Es) [(EleP x m).va] (Tu []):=by
 have g1:(kbl ((K++(kf x.p (m 0) (m 1)))++(kf x.q (m 2) (m 3)))).Nodup:=by simpa [List.append_assoc] using hs
 have g0:=kb g1
 refine CK.intro Tryz.func46 G zk nq zk (fun B g w0 a hrm U=>?_)
 have U:=zn [(0,EqV ((ptrH).f g)),(1,(EleP x m).va)] [⟨0,58,ptrH,BkF (K) Rs Es⟩] U
 refine wp_seq<|zg [none] [⟨3,67,ptrH,some 0,_,none⟩] [.alc 1] [.g 0] U (oc (ay G G G (gq 1 G)) o0) (zz [(0,_)] [O 0 58 _,O 3 67 _] fun a w U=>?_)
 refine zt<|bf (sp:=[.v 4 _,.adr 5 3 (.some 1) True,.v 6 _,.v 7 VT]) 3 1 99 3 OneC [.g 0,.o 0,.o 2] U (zM 0 G (oc (ob_a G G (ac (lz0 1 G) bg)) (zL 1 1 1 G ax o0))) G zd zk zk (zz [(0,_),(4,_),(6,_)] [O 0 58 _,O 3 67 _] fun a w U=>?_)
 rw [show List.range' 3 1=[3] from rfl]
 rw [wpOps_cons]
 refine cP (A1:=BkF (K++(kf x.p (m 0) (m 1))) Rs Es) (xs:=[.tmp 6]) [0] [2] 0 G U (fq x.p (m 0) (m 1) K Rs Es g0 (by (try simp only [List.length_append,List.length_cons,List.length_nil]); omega)) G (Eq.trans (b:=ptr g) (U.vals _ (zm 1 G)) (Eq.symm (U.vals _ (zm 0 G)))) (.cons ⟨_,rfl,rfl⟩ .nil) G hrm zd zk zk zk zk (fun a w U=>?_)
 refine bq ?_
 have U:=zn [(7,_),(0,_)] [⟨0,58,ptrH,BkF (K++(kf x.p (m 0) (m 1))) Rs Es⟩,O 3 67 _] U
 refine a7<|bf (sp:=[.v 8 _,.adr 9 3 (.some 5) True,.v 10 _,.v 11 VT]) 3 1 99 3 OneC [.g 1,.o 0,.o 2] U (zM 1 G (oc (ob_a G G (ac (lz0 1 G) bK)) (zL 1 1 2 G ax o0))) G zd zk zk (zz [(0,_),(8,_),(10,_)] [O 0 58 _,O 3 67 _] fun a w U=>?_)
 rw [show List.range' 3 1=[3] from rfl]
 rw [wpOps_cons]
 refine cP (A1:=BkF ((K++(kf x.p (m 0) (m 1)))++(kf x.q (m 2) (m 3))) Rs Es) (xs:=[.tmp 10]) [0] [2] 0 G U (fq x.q (m 2) (m 3) (K++(kf x.p (m 0) (m 1))) Rs Es g1 (by (try simp only [List.length_append,List.length_cons,List.length_nil]); omega)) G (Eq.trans (b:=ptr g) (U.vals _ (zm 1 G)) (Eq.symm (U.vals _ (zm 0 G)))) (.cons ⟨_,rfl,rfl⟩ .nil) G hrm zd zk zk zk zk (fun a w U=>?_)
 refine bq ?_
 have U:=St.cvA (A':=BkF (K++(ke x m)) Rs Es) U 0 rfl (congrArg (fun k=>BkF k Rs Es) (by simp [List.append_assoc]))
 have U:=zn [(11,_),(0,_)] [⟨0,58,ptrH,BkF (K++(ke x m)) Rs Es⟩,O 3 67 _] U
 refine cD<|fG U (zm 1 G) (zm 0 G) ?_
 exact aS (rs:=[]) G U .nil zd
end Go.Proofs.YtmacliockgbdcaaGreatDoor
