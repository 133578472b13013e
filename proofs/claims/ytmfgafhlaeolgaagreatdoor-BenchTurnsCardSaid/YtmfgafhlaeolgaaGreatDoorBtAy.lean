import Derived.Test.YtmfgafhlaeolgaaGreatDoorBtAa
import Derived.Test.YtmfgafhlaeolgaaGreatDoorBtAc
import Derived.Test.YtmfgafhlaeolgaaGreatDoorBtAk
import Derived.Test.YtmfgafhlaeolgaaGreatDoorBtAm
import Derived.Test.YtmfgafhlaeolgaaGreatDoorBtAt
import Derived.Test.YtmfgafhlaeolgaaGreatDoorBtAw
import Derived.Test.YtmfgafhlaeolgaaGreatDoorBtAx
import Derived.ProofKit
import Derived.OpenShut
import Derived.ChangeOld
import Derived.Below
import Derived.Laws.AppendOwn
import Derived.Laws.OwnMore
import Derived.Orders
import Derived.Deep.Slices
import Derived.ArgAppend
import Derived.Great.BuildSlice
set_option linter.unusedVariables false
set_option linter.unusedSimpArgs false
set_option linter.unusedSectionVars false
set_option maxRecDepth 100000
namespace Go.Proofs.YtmfgafhlaeolgaaGreatDoor
open Go Go.RowKit
def AllG (a:Act)(w:World):List (Nat × VA)→Prop
 | []=>True
 | x::l=>x.2.p w.heap.size (a.eval (.tmp x.1)) w∧AllG a w l
theorem AllG.mem {a:Act}{w:World}:∀ {l:List (Nat × VA)},AllG a w l→∀ x∈l,x.2.p w.heap.size (a.eval (.tmp x.1)) w
 | y::l,h,x,hx=>by
  rcases List.mem_cons.1 hx with rfl | hx
  ·exact h.1
  ·exact AllG.mem h.2 x hx
section
variable {P:Program} {B N:Nat} {w0:Bs} {Γ:List (Nat × VA)} {Λ:List Lc} {a:Act} {w:World}
theorem St.bw (h:St B w0 N Γ Λ a w):B≤w.heap.size:=Nat.le_trans (h.lo _ (.inl (Nat.le_refl _))) h.base.size
theorem zsd {fn:Func}{R R':Ending→World→Prop}{e:Exit}(h:bPost P fn R e a w)(k:∀ v w',R (.returned v) w'→R' (.returned v) w'):bPost P fn R' e a w:=by
 cases e with
 | normal =>
  obtain ⟨Ds,e,nd,hD,hr⟩:=h
  exact ⟨Ds,e,nd,hD,fun w' hs=>by obtain ⟨v,h1,h2⟩:=hr w' hs; exact ⟨v,h1,k v w' h2⟩⟩
 | ret =>
  obtain ⟨Ds,e,nd,hD,hr⟩:=h
  exact ⟨Ds,e,nd,hD,fun w' hs=>by obtain ⟨v,h1,h2⟩:=hr w' hs; exact ⟨v,h1,k v w' h2⟩⟩
 | _=>exact h.elim
theorem ground {fn:Func}{c:Code}{b:Bool}(Γ':List (Nat × VA))(h:St B w0 N Γ Λ a w)(hnd:w0.nd=true)(hΓ:AllG a w Γ')
  (k:∀ (B:Nat) (w1:Bs) (w:World),w1.nd=true→(∀ g,¬ w1.F g)→B=w1.w.heap.size→St B w1 N Γ' [] a w→Exit.then (fun a w=>c.wp P (bPost P fn (RQ B w1 (Bo b))) a w) (bPost P fn (RQ B w1 (Bo b))) .normal a w) :
  Exit.then (fun a w=>c.wp P (bPost P fn (RQ B w0 (Bo b))) a w) (bPost P fn (RQ B w0 (Bo b))) .normal a w:=by
 have h1:=k w.heap.size ⟨w,fun _=>False,true⟩ w rfl (fun _ h=>h) rfl ⟨fun g hg=>hg.resolve_right fun h=>h,DefOk.nil (h.defers.none hnd),h.size,Kept.refl _,hΓ.mem,(fun l hl=>by cases hl),(fun l hl=>by cases hl)⟩
 refine wp_mono (c:=c) (show c.wp P _ a w from h1) fun e a' w' hp=>zsd hp ?_
 rintro v w2 ⟨u,hu,hp,hk⟩
 exact ⟨u,hu,hp,h.base.grow ⟨hk.os,hk.tape,hk.output,hk.size,fun k hlt=>hk.block k hlt (fun h=>h)⟩⟩
end
section
variable {P:Program} {Q:Exit→Act→World→Prop} {B N:Nat} {w0:Bs} {Γ:List (Nat × VA)} {Λ:List Lc} {a:Act} {w:World} {ops:Array Oper}
theorem zzh {id m:Nat}(hsz:ops.size=m+1)(h:wpOp P ops Q 0 (wpOps P ops Q (List.range' 1 m)) a w):(Code.region id ops false).wp P Q a w:=by
 refine wp_region ?_
 rw [List.range_eq_range',hsz,List.range'_succ,wpOps_cons]
 exact h
theorem zze {sp:List Sp}{d0 m:Nat}{A0:VA}(src:List Src)(h:St B w0 N ((d0,A0)::Γ) Λ a w)(h0:sp[0]?=some (.v d0 A0))(hsz:ops.size=m+1)
  (hob:Obs P Q ⟨ops,N,Γ,les0 Λ,sp,fun i=>List.range i⟩ B w0 1 m) (hk:Rg.chk ⟨ops,N,Γ,les0 Λ,sp,fun i=>List.range i⟩=true) (hsrc:src.all (okS ⟨ops,N,Γ,les0 Λ,sp,fun i=>List.range i⟩)=true)
  (hQ:∀ a w,St B w0 N (src.filterMap (takeS ⟨ops,N,Γ,les0 Λ,sp,fun i=>List.range i⟩)) Λ a w→Q .normal a w):wpOps P ops Q (List.range' 1 m) a w:=by
 have e:m=ops.size-1:=by omega
 subst e
 exact go_rest src h h0 zo hob hk hsrc hQ
end
theorem zkx {B:Nat}{w1:Bs}{Ts:List TypeId}(hB:B=w1.w.heap.size):∀ E,Ts.contains E=true→RowMay w1 B E:=fun E _ w g c fz _ h _=>.inl (hB▸h)
def ZBk:List As:=[NumA .i64 0,EqS (.slice none 0 0),EqS (.slice none 0 0),EqS (.slice none 0 0),EqS (.slice none 0 0),EqS (.slice none 0 0),EqS (.slice none 0 0),EqS (.slice none 0 0),EqS (.slice none 0 0),EqS (.slice none 0 0),EqS (.slice none 0 0),EqS (.slice none 0 0),EqS (.slice none 0 0),EqS (.slice none 0 0),EqS (.slice none 0 0),EqS (.slice none 0 0),EqS (.slice none 0 0)]
theorem zxv:Str Tryz.prog 55 ZBk :=
 Str.of (z:=.agg ([Value.int .i64 0]++List.replicate 16 (Value.slice none 0 0)).toArray) zk Tryz.underlying55 zk fun B w=>⟨[Value.int .i64 0]::List.replicate 16 [Value.slice none 0 0],rfl,.cons rfl (.cons ⟨rfl,rfl⟩ (.cons ⟨rfl,rfl⟩ (.cons ⟨rfl,rfl⟩ (.cons ⟨rfl,rfl⟩ (.cons ⟨rfl,rfl⟩ (.cons ⟨rfl,rfl⟩ (.cons ⟨rfl,rfl⟩ (.cons ⟨rfl,rfl⟩ (.cons ⟨rfl,rfl⟩ (.cons ⟨rfl,rfl⟩ (.cons ⟨rfl,rfl⟩ (.cons ⟨rfl,rfl⟩ (.cons ⟨rfl,rfl⟩ (.cons ⟨rfl,rfl⟩ (.cons ⟨rfl,rfl⟩ (.cons ⟨rfl,rfl⟩ .nil))))))))))))))))⟩
section
open Rg
variable {P:Program} {Q:Exit→Act→World→Prop} {R:Rg} {B i:Nat} {w0:Bs}
end
section
variable {P:Program} {R:Rg} {Q:Exit→Act→World→Prop} {B i:Nat} {w0:Bs}
end
end Go.Proofs.YtmfgafhlaeolgaaGreatDoor
namespace Go.Proofs.YtmfgafhlaeolgaaGreatDoor
open Go Go.RowKit
theorem znw {x:RF}:NewA (RFN x):=zf8 fun A hA=>by
 simp at hA
 rcases hA with rfl | rfl <;> exact znu _
theorem zq6 {x:RF}:FreeA (RFN x) (RFN x):=zcq (.cons (zex _) (.cons (zex _) .nil))
theorem ztw {x:RF}:WkA (RFN x) (RFA x):=zch (.cons wkA_riN (.cons wkA_riN .nil))
theorem qd_rfn {k:Nat}{q:Rat}:WkA (QD k q) (RFN (rfOf q)):=qd_rfd.trans dis_wk
theorem twn_mgn {l:List Nat}:WkA (TwN l) (MgN l):=⟨rfl,rfl,fun B cs w ⟨ok,g,e,h1,h2,h3⟩=>⟨ok,.inr ⟨g,[7777],by rw [e]; simp,by simpa using h2,h1,h3⟩⟩⟩
theorem rit_rin {x:RI}:WkA (RIT x) (RIN x):=zch (.cons (.refl _) (.cons twn_mgn .nil))
theorem ztv {x:RF}:WkA (RFT x) (RFN x):=zch (.cons rit_rin (.cons rit_rin .nil))
theorem kbl_app {l m:KL}:kbl (l++m)=kbl l++kbl m:=List.filterMap_append ..
theorem rin_ok {x:RI}{B:Nat}{cs:List Value}{w:World}(h:(RIN x).p B cs w):okL x.mag:=by
 obtain ⟨ps,rfl,hp⟩:=h
 cases hp with
 | cons h1 hp=>cases hp with
  | cons h2 hp=>exact h2.1
abbrev OkK (l:KL):Prop:=∀ p∈l,okL p.2
theorem zie {l m:KL}(h:OkK l)(k:OkK m):OkK (l++m):=fun p hp=>by
 rcases List.mem_append.1 hp with hp | hp
 ·exact h p hp
 ·exact k p hp
abbrev LnK (l:KL):Prop:=∀ p∈l,p.2.length≤2000000000000
theorem zif {l m:KL}(h:LnK l)(k:LnK m):LnK (l++m):=fun p hp=>by
 rcases List.mem_append.1 hp with hp | hp
 ·exact h p hp
 ·exact k p hp
theorem okK_f {x:RF}{m1 m2:Value}(h1:okL x.num.mag)(h2:okL x.den.mag):OkK (kf x m1 m2):=fun p hp=>by
 simp only [List.mem_cons,List.not_mem_nil,or_false] at hp
 rcases hp with rfl | rfl
 ·exact h1
 ·exact h2
theorem lnK_f {x:RF}{m1 m2:Value}(h:bdF x):LnK (kf x m1 m2):=fun p hp=>by
 simp only [List.mem_cons,List.not_mem_nil,or_false] at hp
 rcases hp with rfl | rfl
 ·exact Nat.le_trans h.1 zd
 ·exact Nat.le_trans h.2 zd
theorem okK_len {l:KL}(h:OkK l)(k:LnK l):∀ p∈l,okL p.2∧p.2.length≤2000000000000:=fun p hp=>⟨h p hp,k p hp⟩
theorem zh7 {x:RF}{B:Nat}{cs:List Value}{w:World}(h:(RFN x).p B cs w):∃ m1 m2,(FracP x m1 m2).p B cs w∧cbl cs=kbl (kf x m1 m2)∧OkK (kf x m1 m2):=by
 obtain ⟨ps,rfl,hp⟩:=h
 cases hp with
 | @cons _ c1 _ _ h1 hp=>cases hp with
  | @cons _ c2 _ _ h2 hp =>
   cases hp
   obtain ⟨m1,p1,e1⟩:=zmk h1
   obtain ⟨m2,p2,e2⟩:=zmk h2
   refine ⟨m1,m2,⟨[c1,c2],rfl,.cons p1 (.cons p2 .nil)⟩,?_,okK_f (rin_ok h1) (rin_ok h2)⟩
   have:([c1,c2]:List (List Value)).flatten=c1++c2:=by simp
   rw [this,ze1,e1,e2]
   exact kbl_app.symm
def nm4 (a b c d:Value):Nat→Value
 | 0=>a
 | 1=>b
 | 2=>c
 | _=>d
theorem zoc {x:RF}{B:Nat}{cs:List Value}{w:World}(h:(RFN x).p B cs w):∃ m:Nat→Value,(FracP x (m 0) (m 1)).p B cs w∧cbl cs=kbl (kf x (m 0) (m 1))∧OkK (kf x (m 0) (m 1)):=by
 obtain ⟨m1,m2,h1,h2,h3⟩:=zh7 h
 exact ⟨nm4 m1 m2 m1 m2,h1,h2,h3⟩
theorem okK_nil:OkK []:=fun p h=>by cases h
theorem lnK_nil:LnK []:=fun p h=>by cases h
theorem bd_rf0:bdF rf0:=⟨Nat.zero_le _,Nat.zero_le _⟩
theorem bd_of {q:Rat}(h:¬ longQ q=true):bdF (rfOf q):=by
 have h':longQ q=false:=by cases hq:longQ q with
  | true=>exact absurd hq h
  | false=>rfl
 unfold longQ at h'
 simp only [List.any_cons,List.any_nil,Bool.or_false,Bool.or_eq_false_iff] at h'
 have h1:=of_decide_eq_false h'.1
 have h2:=of_decide_eq_false h'.2
 refine ⟨?_,?_⟩
 ·show (riOf q.num).mag.length≤_
  omega
 ·show (riOf (q.den:Int)).mag.length≤_
  omega
theorem bd_ans (q:Rat):bdF (ansF q).1:=by
 unfold ansF
 split
 ·exact bd_rf0
 ·rename_i h; exact bd_of h
end Go.Proofs.YtmfgafhlaeolgaaGreatDoor
namespace Go.Proofs.YtmfgafhlaeolgaaGreatDoor
open Go Go.RowKit
def p4 (m:MQ)(j:Nat):Rat:=[m.a,m.b,m.c,m.d].getD j 0
end Go.Proofs.YtmfgafhlaeolgaaGreatDoor
namespace Go.Proofs.YtmfgafhlaeolgaaGreatDoor
open Go Go.RowKit
end Go.Proofs.YtmfgafhlaeolgaaGreatDoor
namespace Go.Proofs.YtmfgafhlaeolgaaGreatDoor
open Go Go.RowKit
theorem sub_self {A:As}:Sub A 0 A:=fun B cs w h=>by
 have hl:=A.len B cs w h
 refine ⟨?_,by omega⟩
 rw [List.drop_zero,List.take_of_length_le zo]
 exact h
end Go.Proofs.YtmfgafhlaeolgaaGreatDoor
namespace Go.Proofs.YtmfgafhlaeolgaaGreatDoor
open Go Go.RowKit
end Go.Proofs.YtmfgafhlaeolgaaGreatDoor
namespace Go.Proofs.YtmfgafhlaeolgaaGreatDoor
open Go Go.RowKit
end Go.Proofs.YtmfgafhlaeolgaaGreatDoor
namespace Go.Proofs.YtmfgafhlaeolgaaGreatDoor
open Go Go.RowKit
section
variable {P:Program} {R:Rg} {Q:Exit→Act→World→Prop} {B i:Nat} {w0:Bs}
end
end Go.Proofs.YtmfgafhlaeolgaaGreatDoor
namespace Go.Proofs.YtmfgafhlaeolgaaGreatDoor
open Go Go.RowKit
end Go.Proofs.YtmfgafhlaeolgaaGreatDoor
namespace Go.Proofs.YtmfgafhlaeolgaaGreatDoor
open Go Go.RowKit
def EqA (v:Value):As where
 n:=1
 ag:=false
 p _ cs _:=cs=[v]∧v.oneCell'=true
 deps:=[]
 len:=by rintro B cs w ⟨rfl,_⟩; rfl
 one:=by rintro B cs w ⟨rfl,h⟩ c hc; simp at hc; subst hc; exact h
 ag1:=fun _=>rfl
 cg:=fun _ _ _ _ _ h=>h
 wr:=fun _ _ _ _ _ _ _ _ _ _ _ _ h=>h
theorem va_eqA {v:Value}(h:v.oneCell'=true){B:Nat}{w:World}:(EqA v).va.p B v w:=⟨[v],⟨rfl,h⟩,rfl⟩
theorem St.nm {B N:Nat}{w0:Bs}{Γ:List (Nat × VA)}{Λ:List Lc}{a:Act}{w:World}(h:St B w0 N Γ Λ a w){s T:Nat}{A:As}(k:Nat)(hm:Λ[k]?=some ⟨s,T,ptrH,A⟩):∃ g,St B w0 N ((s,EqV (ptr g))::Γ) Λ a w:=by
 obtain ⟨g,cs,e,_⟩:=h.locs _ (List.mem_of_getElem? hm)
 refine ⟨g,h.lo,h.defers,h.size,h.base,fun x hx=>?_,h.locs,h.dis⟩
 rcases List.mem_cons.1 hx with rfl | hx
 ·exact e
 ·exact h.vals x hx
section
variable {P:Program} {R:Rg} {Q:Exit→Act→World→Prop} {B i:Nat} {w0:Bs}
end
structure RE where
 k:Int
 p:RF
 q:RF
 deriving DecidableEq
def REA (x:RE):As:=cat [NumA .u8 x.k,RFA x.p,RFA x.q]
def QEA (c:Nat)(k:Int)(p q:Rat):As:=cat [NumA .u8 k,QA c p,QA c q]
abbrev re0:RE:=⟨0,rf0,rf0⟩
theorem zd8:Str Tryz.prog 64 [NumA .u8 0,RFA rf0,RFA rf0] :=
 Str.of (z:=.agg #[.int .u8 0,.bool false,.slice none 0 0,.bool false,.slice none 0 0,.bool false,.slice none 0 0,.bool false,.slice none 0 0]) zk Tryz.underlying64 zk fun B w=>⟨[[.int .u8 0],[.bool false,.slice none 0 0,.bool false,.slice none 0 0],[.bool false,.slice none 0 0,.bool false,.slice none 0 0]],rfl,.cons rfl (.cons (rf0_p B w) (.cons (rf0_p B w) .nil))⟩
end Go.Proofs.YtmfgafhlaeolgaaGreatDoor
namespace Go.Proofs.YtmfgafhlaeolgaaGreatDoor
open Go Go.RowKit
def elK (k ps qs:Int):Bool:=if k==1 then decide (ps≥0)&&(qs==0) else if k==2 then (qs==0) else if k==3 then decide (ps≥0)&&decide (qs>0) else if k==4 then true else ((k==5)&&(ps==0))&&(qs==0)
def elF (x:RE):Bool:=[x.p,x.q].all okX&&elK x.k (toQ x.p).num.sign (toQ x.q).num.sign
def chF (xs:List RE):Int:=if xs.length>4096 then 4 else if xs.all elF then 0 else 1
theorem elF_no {x:RE}(h:(![x.p,x.q].all okX)=true):elF x=false:=by rw [Bool.not_eq_true'] at h; rw [elF,h]; rfl
theorem elF_ok {x:RE}(h:(![x.p,x.q].all okX)=false):[x.p,x.q].all okX=true∧elF x=elK x.k (toQ x.p).num.sign (toQ x.q).num.sign:=by rw [Bool.not_eq_false'] at h; exact ⟨h,by rw [elF,h]; rfl⟩
theorem el_q {x:RE}(h:[x.p,x.q].all okX=true):WkA (REA x) (QEA 2048 x.k (toQ x.p) (toQ x.q)):=by
 simp only [List.all_cons,List.all_nil,Bool.and_true,Bool.and_eq_true] at h
 exact zch (.cons (WkA.refl _) (.cons (qa_x h.1 (Nat.le_refl _)) (.cons (qa_x h.2 (Nat.le_refl _)) .nil)))
theorem zha (x:RE):UpA (REA x) (REA x):=zk4 (.cons (zos _ _) (.cons (zjl _) (.cons (zjl _) .nil)))
theorem kd1 {k ps qs:Int}(h:(k==1)=true):elK k ps qs=(decide (ps≥0)&&(qs==0)):=by rw [elK,h]; rfl
theorem kd2 {k ps qs:Int}(h1:(k==1)=false)(h:(k==2)=true):elK k ps qs=(qs==0):=by rw [elK,h1,h]; rfl
theorem kd3 {k ps qs:Int}(h1:(k==1)=false)(h2:(k==2)=false)(h:(k==3)=true):elK k ps qs=(decide (ps≥0)&&decide (qs>0)):=by rw [elK,h1,h2,h]; rfl
theorem kd4 {k ps qs:Int}(h1:(k==1)=false)(h2:(k==2)=false)(h3:(k==3)=false)(h:(k==4)=true):elK k ps qs=true:=by rw [elK,h1,h2,h3,h]; rfl
theorem kd5 {k ps qs:Int}(h1:(k==1)=false)(h2:(k==2)=false)(h3:(k==3)=false)(h4:(k==4)=false):elK k ps qs=(((k==5)&&(ps==0))&&(qs==0)):=by rw [elK,h1,h2,h3,h4]; rfl
theorem elMay_c (x:RE):Cn Tryz.prog 86 [(REA x).va] (Bo (elF x)):=by
 refine Cn.intro Tryz.func86 rfl zk nq (fun B w0 a O=>?_)
 have O:=zn [(0,(REA x).va)] [] O
 refine wp_seq<|zg [] [⟨1,64,ptrH,some 0,_,none⟩] [.alc 0,.v 2 _] [.o 1] O (oc (zav rfl rfl rfl (gq 0 rfl)) (zv rfl (za2 zat) o0)) (zz [(2,_)] [⟨1,64,ptrH,_⟩] fun a w O=>?_)
 refine zt<|wp_seq<|zg [none] [] [.adr 5 1 (.some 1) True,.v 6 _,.adr 7 1 (.some 5) True,.v 8 _,.v 9 _,.v 10 _,.v 11 _] [.g 0,.o 6] O (oc (ob_a rfl rfl (zae (lz0 0 rfl) zc4)) (zv rfl (za4 0 rfl zk trivial (lz0 0 rfl) (Sub.part 1 rfl rfl) zb5) (oc (ob_a rfl rfl (zae (lz0 0 rfl) zc7)) (zv rfl (za4 2 rfl zk trivial (lz0 0 rfl) (Sub.part 2 rfl rfl) zb5) (zv rfl (zd0 (D:=[U32]) (l:=[_,_]) (xs:=[.tmp 6,.tmp 8]) (zfv zk) zkc zk (n_ok zk) nq nq nq (.cons (vq 1 rfl) (.cons (vq 3 rfl) .nil)) rfl rfl) (zv rfl (za5 (xs:=[.tmp 9]) (checks_c [x.p,x.q] nq) (.cons (vq 4 rfl) .nil)) (zv rfl (zf7 (vq 5 rfl)) o0))))))) (zz [(2,_),(11,_)] [⟨1,64,ptrH,_⟩] fun a w O=>?_)
 refine za0<|za8 O (zm 1 rfl) (fun hb0=>?_) (fun hb0=>?_)
 ·refine wp_seq<|zg [none] [] [.v 2 _] [.o 0] O (zv rfl (za2 zat) o0) (zz [(2,_)] [⟨1,64,ptrH,_⟩] fun a w O=>?_)
  refine za0<|wp_ret<|zaf ?_
  refine zal ?_ (zac rfl O (zm 0 rfl))
  rw [elF_no hb0]; exact zbv
 ·obtain ⟨hx,he⟩:=elF_ok hb0
  have O:=St.wkL O 0 rfl (el_q hx)
  refine wp_skip<|zt<|zgd [[],[0],[0,1],[],[3],[0,1,2,3,4],[0,1,2,3,4,5],[0,1,2,3,4,5,6]] [none] [] [.adr 12 1 (.some 1) True,.v 13 _,.v 14 _,.adr 15 1 (.some 5) True,.v 16 _,.v 17 _,.v 3 _,.v 4 _] [.g 0,.o 6,.o 7] za9 O (oc (ob_a rfl rfl (zae (lz0 0 rfl) zc4)) (zv rfl (za4 0 rfl zk trivial (lz0 0 rfl) (Sub.part 1 rfl rfl) zb5) (zv rfl (za5 (xs:=[.tmp 13]) sign_q (.cons (vq 1 rfl) .nil)) (oc (ob_a rfl rfl (zae (lz0 0 rfl) zc7)) (zv rfl (za4 3 rfl zk trivial (lz0 0 rfl) (Sub.part 2 rfl rfl) zb5) (zv rfl (za5 (xs:=[.tmp 16]) sign_q (.cons (vq 4 rfl) .nil)) (zv rfl (za2 (vq 2 rfl)) (zv rfl (za2 (vq 5 rfl)) o0)))))))) zk zk zk zk (zz [(2,_),(3,_),(4,_)] [⟨1,64,ptrH,_⟩] fun a w O=>?_)
  refine zt<|wp_seq<|zg [none] [] [.adr 18 1 (.some 0) True,.v 19 _] [.g 0,.g 1,.g 2,.o 1] O (oc (ob_a rfl rfl (zae (lz0 0 rfl) zcc)) (zv rfl (za4 0 rfl zk trivial (lz0 0 rfl) (Sub.part 0 rfl rfl) zfu) o0)) (zz [(2,_),(3,_),(4,_),(19,_)] [⟨1,64,ptrH,_⟩] fun a w O=>?_)
  refine za0<|wp_block<|wp_seq<|zg [none] [] [.v 21 _,.v 20 _] [.g 0,.g 1,.g 2,.g 3,.o 1] O (zv rfl (zc3 (gq 3 rfl) za3) (zv rfl (za2 (vq 0 rfl)) o0)) (zz [(2,_),(3,_),(4,_),(19,_),(20,_)] [⟨1,64,ptrH,_⟩] fun a w O=>?_)
  refine za0<|za8 O (zm 4 rfl) (fun hb1=>?_) (fun hb1=>?_)
  ·refine wp_seq<|zg [none] [] [.v 22 _,.v 23 _,.v 24 _,.v 25 (Wh (_=true) _),.v 26 (Wh (_=true) _),.v 27 _,.v 2 _] [.g 1,.g 2,.o 6] O (zv rfl (za1 (gq 1 rfl)) (zv rfl (zeo (vq 0 rfl) za3) (zv rfl (za1 (vq 1 rfl)) (oc (zai rfl rfl rfl (vq 2 rfl) nq (fun hg=>za1 (gq 2 rfl))) (oc (zai rfl rfl rfl (vq 2 rfl) nq (fun hg=>zc3 (zaa (vq 3 rfl) hg) za3)) (zv rfl (zca (vq 2 rfl) (vq 4 rfl)) (zv rfl (za2 (vq 5 rfl)) o0))))))) (zz [(3,_),(4,_),(2,_)] [⟨1,64,ptrH,_⟩] fun a w O=>?_)
   refine za0<|wp_ret<|zb8 ?_
   refine zaf ?_
   refine zal ?_ (zac rfl O (zm 2 rfl))
   rw [he,kd1 hb1]; exact zbv
  ·refine wp_seq<|zg [none] [] [.v 29 _,.v 28 _] [.g 0,.g 1,.g 2,.g 3,.o 1] O (zv rfl (zc3 (gq 3 rfl) za3) (zv rfl (za2 (vq 0 rfl)) o0)) (zz [(2,_),(3,_),(4,_),(19,_),(28,_)] [⟨1,64,ptrH,_⟩] fun a w O=>?_)
   refine za0<|za8 O (zm 4 rfl) (fun hb2=>?_) (fun hb2=>?_)
   ·refine wp_seq<|zg [none] [] [.v 30 _,.v 31 _,.v 2 _] [.g 1,.g 2,.o 2] O (zv rfl (za1 (gq 2 rfl)) (zv rfl (zc3 (vq 0 rfl) za3) (zv rfl (za2 (vq 1 rfl)) o0))) (zz [(3,_),(4,_),(2,_)] [⟨1,64,ptrH,_⟩] fun a w O=>?_)
    refine za0<|wp_ret<|zb8 ?_
    refine zaf ?_
    refine zal ?_ (zac rfl O (zm 2 rfl))
    rw [he,kd2 hb1 hb2]; exact zbv
   ·refine wp_seq<|zg [none] [] [.v 33 _,.v 32 _] [.g 0,.g 1,.g 2,.g 3,.o 1] O (zv rfl (zc3 (gq 3 rfl) za3) (zv rfl (za2 (vq 0 rfl)) o0)) (zz [(2,_),(3,_),(4,_),(19,_),(32,_)] [⟨1,64,ptrH,_⟩] fun a w O=>?_)
    refine za0<|za8 O (zm 4 rfl) (fun hb3=>?_) (fun hb3=>?_)
    ·refine wp_seq<|zg [none] [] [.v 34 _,.v 35 _,.v 36 _,.v 37 (Wh (_=true) _),.v 38 (Wh (_=true) _),.v 39 _,.v 2 _] [.g 1,.g 2,.o 6] O (zv rfl (za1 (gq 1 rfl)) (zv rfl (zeo (vq 0 rfl) za3) (zv rfl (za1 (vq 1 rfl)) (oc (zai rfl rfl rfl (vq 2 rfl) nq (fun hg=>za1 (gq 2 rfl))) (oc (zai rfl rfl rfl (vq 2 rfl) nq (fun hg=>zen (zaa (vq 3 rfl) hg) za3)) (zv rfl (zca (vq 2 rfl) (vq 4 rfl)) (zv rfl (za2 (vq 5 rfl)) o0))))))) (zz [(3,_),(4,_),(2,_)] [⟨1,64,ptrH,_⟩] fun a w O=>?_)
     refine za0<|wp_ret<|zb8 ?_
     refine zaf ?_
     refine zal ?_ (zac rfl O (zm 2 rfl))
     rw [he,kd3 hb1 hb2 hb3]; exact zbv
    ·refine wp_seq<|zg [none] [] [.v 41 _,.v 40 _] [.g 0,.g 1,.g 2,.o 1] O (zv rfl (zc3 (gq 3 rfl) za3) (zv rfl (za2 (vq 0 rfl)) o0)) (zz [(2,_),(3,_),(4,_),(40,_)] [⟨1,64,ptrH,_⟩] fun a w O=>?_)
     refine za0<|za8 O (zm 3 rfl) (fun hb4=>?_) (fun hb4=>?_)
     ·refine wp_seq<|zg [none] [] [.v 2 _] [.g 1,.g 2,.o 0] O (zv rfl (za2 zat) o0) (zz [(3,_),(4,_),(2,_)] [⟨1,64,ptrH,_⟩] fun a w O=>?_)
      refine za0<|wp_ret<|zb8 ?_
      refine zaf ?_
      refine zal ?_ (zac rfl O (zm 2 rfl))
      rw [he,kd4 hb1 hb2 hb3 hb4]; exact zbv
     ·refine wp_skip<|zab ?_
      refine zt<|zg [none] [] [.adr 42 1 (.some 0) True,.v 43 _,.v 44 _,.v 45 _,.v 46 (Wh (_=true) _),.v 47 (Wh (_=true) _),.v 48 _,.v 49 _,.v 50 (Wh (_=true) _),.v 51 (Wh (_=true) _),.v 52 _,.v 2 _] [.o 11] O (oc (ob_a rfl rfl (zae (lz0 0 rfl) zcc)) (zv rfl (za4 0 rfl zk trivial (lz0 0 rfl) (Sub.part 0 rfl rfl) zfu) (zv rfl (zc3 (vq 1 rfl) za3) (zv rfl (za1 (vq 2 rfl)) (oc (zai rfl rfl rfl (vq 3 rfl) nq (fun hg=>za1 (gq 1 rfl))) (oc (zai rfl rfl rfl (vq 3 rfl) nq (fun hg=>zc3 (zaa (vq 4 rfl) hg) za3)) (zv rfl (zca (vq 3 rfl) (vq 5 rfl)) (zv rfl (za1 (vq 6 rfl)) (oc (zai rfl rfl rfl (vq 7 rfl) nq (fun hg=>za1 (gq 2 rfl))) (oc (zai rfl rfl rfl (vq 7 rfl) nq (fun hg=>zc3 (zaa (vq 8 rfl) hg) za3)) (zv rfl (zca (vq 7 rfl) (vq 9 rfl)) (zv rfl (za2 (vq 10 rfl)) o0)))))))))))) (zz [(2,_)] [⟨1,64,ptrH,_⟩] fun a w O=>?_)
      refine za0<|wp_ret<|zal ?_ (zac rfl O (zm 0 rfl))
      rw [he,kd5 hb1 hb2 hb3 hb4]; exact zbv
theorem all_so {α:Type}{p:α→Bool}{l:List α}{j:Nat}(h:j<l.length)(h2:p l[j]=false):l.all p=false:=List.all_eq_false.2 ⟨_,List.getElem_mem h,by simp [h2]⟩
theorem all_nx {α:Type}{p:α→Bool}{l:List α}{j:Nat}(h:j<l.length)(h1:(l.take j).all p=true)(h2:p l[j]=true):(l.take (j+1)).all p=true:=by
 rw [List.take_succ_eq_append_getElem h,List.all_append,h1]
 simp [h2]
theorem slx {E:TypeId}{D:List TypeId}{l:List As}:Wk (SlO E D l True).va (SlA E D l).va:=zcx wk_old fun _ _ _ h=>(ze2 h).2
theorem zk6 (xs:List RE):Cn Tryz.prog 19 [(SlA 64 [U32] (xs.map REA)).va] (In (chF xs)):=by
 refine Cn.introW Tryz.func19 rfl zk nq (.cons (zlv (fun A hA=>by obtain ⟨x,_,rfl⟩:=List.mem_map.1 hA; exact zha x)).va .nil) (ze6 _ _).va (fun B w0 a hB0 O=>?_)
 have O:=zn [(0,(SlO 64 [U32] (xs.map REA) True).va)] [] O
 have hl:=zt6 (O.vals (0,(SlO 64 [U32] (xs.map REA) True).va) (zm 0 rfl))
 rw [List.length_map] at hl
 refine wp_seq<|zh [.v 2 _] [.g 0,.o 0] O (zv rfl (za2 za3) o0) (zz [(0,_),(2,_)] [] fun a w O=>?_)
 refine zt<|wp_seq<|zh [.v 5 _,.v 6 _,.v 7 _] [.g 0,.g 1,.o 2] O (zv rfl (za1 (gq 0 rfl)) (zv rfl (zbf Tryz.underlying22 (zcm (zar (vq 0 rfl)))) (zv rfl (zen (vq 1 rfl) za3) o0))) (zz [(0,_),(2,_),(7,_)] [] fun a w O=>?_)
 refine za0<|za8 O (zm 2 rfl) (fun hb0=>?_) (fun hb0=>?_)
 ·have hbig:xs.length>4096:=by rw [List.length_map] at hb0; have:=of_decide_eq_true hb0; omega
  refine wp_seq<|zh [.v 2 _] [.g 0,.o 0] O (zv rfl (za2 za3) o0) (zz [(0,_),(2,_)] [] fun a w O=>?_)
  refine za0<|wp_ret<|zaf ?_
  refine zal ?_ (zac rfl O (zm 1 rfl))
  rw [chF,if_pos hbig]; exact zbv
 ·have hbig:¬ xs.length>4096:=by rw [List.length_map] at hb0; have:=of_decide_eq_false hb0; omega
  refine wp_skip<|zt<|wp_seq<|zh [.v 8 _,.v 9 _,.v 10 _] [.g 1,.o 0,.o 1,.o 2] O (zv rfl (za1 (gq 0 rfl)) (zv rfl (zbf Tryz.underlying22 (zcm (zar (vq 0 rfl)))) (zv rfl (za1 za3) o0))) (zz [(2,_),(8,_),(9,_),(10,_)] [] fun a w O=>?_)
  refine za0<|wp_block ?_
  have O:=St.sel O [1,2,3]
  refine wp_loop_ghost (fun n a w=>∃ j:Nat,(n+j=xs.length∧(xs.take j).all elF=true)∧St B w0 18 [(8,(SlO 64 [U32] (xs.map REA) True).va),(9,In (xs.length:Nat)),(10,In (j:Nat))] [] a w) (xs.length) ?_ ?_
  ·exact ⟨0,⟨by omega,rfl⟩,by rw [List.length_map] at O; exact O⟩
  intro n a w hI
  obtain ⟨j,⟨hn,hno⟩,O⟩:=hI
  refine wp_seq<|zh [.v 11 _] [.g 0,.g 1,.g 2,.o 0] O (zv rfl (zaz (gq 2 rfl) (gq 1 rfl)) o0) (zz [(8,_),(9,_),(10,_),(11,_)] [] fun a w O=>?_)
  refine zt<|za8 O (zm 3 rfl) (fun hb1=>?_) (fun hb1=>?_)
  ·have hj:j<xs.length:=by simp at hb1; omega
   refine wp_skip<|zt<|wp_block<|wp_seq<|zg [] [⟨4,64,ptrH,some 2,_,some (3,_)⟩] [.v 12 _,.v 13 _,.alc 0,.sto 0] [.g 0,.g 1,.g 2] O (zv rfl (zcv ze3 (zf3 fun _=>rfl) (zcm (zar (gq 0 rfl))) (gq 2 rfl) (zdt hj)) (zv rfl (zad (vq 0 rfl) zd5) (oc (zb0 rfl rfl rfl (Str.zero zd8)) (oc (zan rfl rfl rfl (vq 1 rfl) zd5 (Eq.trans (b:=9) rfl rfl)) o0)))) (zz [(8,_),(9,_),(10,_)] [⟨4,64,ptrH,_⟩] fun a w O=>?_)
   refine zt<|zg [none] [] [.v 14 _,.v 15 _,.v 16 _] [.g 0,.g 1,.g 2,.o 2] O (zv rfl (zay (lz0 0 rfl) zd5) (zv rfl (za5 (xs:=[.tmp 14]) (elMay_c _) (.cons (vq 0 rfl) .nil)) (zv rfl (zf7 (vq 1 rfl)) o0))) (zz [(8,_),(9,_),(10,_),(16,_)] [⟨4,64,ptrH,_⟩] fun a w O=>?_)
   refine za0<|za8 O (zm 3 rfl) (fun hb2=>?_) (fun hb2=>?_)
   ·refine wp_seq<|zg [none] [] [.v 2 _] [.g 0,.g 1,.g 2,.o 0] O (zv rfl (za2 za3) o0) (zz [(8,_),(9,_),(10,_),(2,_)] [⟨4,64,ptrH,_⟩] fun a w O=>?_)
    refine za0<|wp_ret<|zb8 ?_
    refine zaf ?_
    refine zaf ?_
    refine zb8 ?_
    refine zaf ?_
    refine zal ?_ (zac rfl O (zm 3 rfl))
    rw [chF,if_neg hbig,all_so hj (by simpa using hb2)]; exact zbv
   ·refine wp_skip<|zab ?_
    refine za0<|zg [none] [] [.v 17 _,.v 10 _] [.g 0,.g 1,.o 1] O (zv rfl (zb2 (gq 2 rfl) za3 ((wi64 zo zo).trans (by omega:(_:Int)=((j+1:Nat):Int)))) (zv rfl (za1 (vq 0 rfl)) o0)) (zz [(8,_),(9,_),(10,_)] [⟨4,64,ptrH,_⟩] fun a w O=>?_)
    refine za0 ?_
    have O:=St.sel O [0,1,2]
    have O:=St.selL O []
    exact ⟨n-1,by omega,j+1,⟨by omega,all_nx hj hno (by simpa using hb2)⟩,O⟩
  ·obtain rfl:j=xs.length:=by simp at hb1; omega
   refine wp_exit<|za7<|za7<|zam<|zt<|zh [.v 2 _] [.o 0] O (zv rfl (za2 za3) o0) (zz [(2,_)] [] fun a w O=>?_)
   refine za0<|wp_ret<|zal ?_ (zac rfl O (zm 0 rfl))
   rw [List.take_length] at hno; rw [chF,if_neg hbig,hno]; exact zbv
end Go.Proofs.YtmfgafhlaeolgaaGreatDoor
namespace Go.Proofs.YtmfgafhlaeolgaaGreatDoor
open Go Go.RowKit
theorem zqw:∃ it z,Tryz.prog.info? 64=some it∧it.zero=some z∧it.size=9∧it.bytes=136∧z.cells.size=9:=by
 have h:((Tryz.prog.info? 64).bind fun it=>it.zero.map fun z=>(it.size,it.bytes,z.cells.size))=some (9,136,9):=by kernel_rfl
 cases hi:Tryz.prog.info? 64 with
 | none=>rw [hi] at h; simp at h
 | some it =>
  rw [hi] at h
  cases hz:it.zero with
  | none=>simp [hz] at h
  | some z =>
   simp [hz] at h
   exact ⟨it,z,rfl,hz,h.1,h.2.1,h.2.2⟩
end Go.Proofs.YtmfgafhlaeolgaaGreatDoor
namespace Go.Proofs.YtmfgafhlaeolgaaGreatDoor
open Go Go.RowKit
open Go.ChangeShapes Go.WideShapes Go.ChangeAt
theorem all2_apx {α β:Type}{R':α→β→Prop}{l1 l2:List α}{m1 m2:List β}(h:All2 R' l1 m1)(h':All2 R' l2 m2):All2 R' (l1++l2) (m1++m2):=by
 induction h with
 | nil=>exact h'
 | cons h1 _ ih=>exact .cons h1 ih
theorem cat_apx {l l':List As}{B:Nat}{ds ds':List Value}{w:World}(h:(cat l).p B ds w)(h':(cat l').p B ds' w):(cat (l++l')).p B (ds++ds') w:=by
 obtain ⟨ps,rfl,h1⟩:=h
 obtain ⟨ps',rfl,h2⟩:=h'
 exact ⟨ps++ps',by simp,all2_apx h1 h2⟩
theorem cat_onex {A:As}{B:Nat}{ds:List Value}{w:World}(h:A.p B ds w):(cat [A]).p B ds w:=⟨[ds],by simp,.cons h .nil⟩
section
variable {H:Type} {enc:TypeId × Value→H} {w:World} {base:Nat} {spare:Nat→Bool} {held:Bool} {fuel:Nat} {cs:List Value} {x:DataW H × List MemPlace}
end
end Go.Proofs.YtmfgafhlaeolgaaGreatDoor
namespace Go.Proofs.YtmfgafhlaeolgaaGreatDoor
open Go Go.RowKit
open Go.ChangeShapes Go.WideShapes Go.ChangeAt
theorem zwz {B:Nat}{cs:List Value}{w:World}{A0 A1 A2:As}(h0:A0.p B ((cs.drop 0).take A0.n) w)(h1:A1.p B ((cs.drop A0.n).take A1.n) w)(h2:A2.p B ((cs.drop (A0.n+A1.n)).take A2.n) w)(hl:cs.length=A0.n+(A1.n+A2.n)):(cat [A0,A1,A2]).p B cs w :=
 zx1 (by simpa using hl) fun k A hk=>by
  match k,hk with
  | 0,hk=>simp at hk; subst hk; exact h0
  | 1,hk=>simp at hk; subst hk; simpa [offs] using h1
  | 2,hk=>simp at hk; subst hk; simpa [offs] using h2
section
variable {H:Type} {enc:TypeId × Value→H} {w:World} {base:Nat} {spare:Nat→Bool} {held:Bool} {fuel:Nat} {cs:List Value} {x:DataW H × List MemPlace}
end
end Go.Proofs.YtmfgafhlaeolgaaGreatDoor
namespace Go.Proofs.YtmfgafhlaeolgaaGreatDoor
open Go Go.RowKit
abbrev VL:=List (Value × Nat)
def FrK (n:Nat)(M:List Slt)(Es:VL):Prop:=M.map (fun s=>(s.v,s.xs.length))=Es∧∀ s∈M,s.u=s.v∧s.ys=s.xs∧s.z=.slice none 0 0∧s.n≤n
def FrL (n:Nat)(L:List Slot)(K:KL):Prop:=L.map (fun s=>(s.v,s.xs))=K∧∀ s∈L,s.u=s.v∧s.ys=s.xs∧s.z=.slice none 0 0∧s.n≤n
def KsP (K:KL)(Rs Es:VL)(X:BkRest)(L:List Slot):Prop:=X.n=K.length+Rs.length+Es.length∧X.N=[]∧FrL X.n L K∧FrK X.n X.R Rs∧FrK X.n X.M Es
def BkF (K:KL)(Rs Es:VL):As:=BqE (KsP K Rs Es)
theorem zht {n m:Nat}{M:List Slt}{Es:VL}(h:FrK n M Es)(hn:n≤m):FrK m M Es:=⟨h.1,fun s hs=>⟨(h.2 s hs).1,(h.2 s hs).2.1,(h.2 s hs).2.2.1,Nat.le_trans (h.2 s hs).2.2.2 hn⟩⟩
theorem zqa {n m:Nat}{M:List Slot}{Es:KL}(h:FrL n M Es)(hn:n≤m):FrL m M Es:=⟨h.1,fun s hs=>⟨(h.2 s hs).1,(h.2 s hs).2.1,(h.2 s hs).2.2.1,Nat.le_trans (h.2 s hs).2.2.2 hn⟩⟩
theorem frK_add {n m a:Nat}{M:List Slt}{Es:VL}{v:Value}{ds:List Value}(h:FrK n M Es):FrK (n+1) (M++[newK m v a ds (n+1)]) (Es++[(v,a)]):=by
 refine ⟨?_,fun s hs=>?_⟩
 ·rw [List.map_append,h.1]
  show Es++[(v,(chunks m a ds).length)]=_
  rw [zk3]
 ·rcases List.mem_append.1 hs with hs | hs
  ·exact (zht h (Nat.le_succ n)).2 s hs
  ·obtain rfl:=List.mem_singleton.1 hs
   exact ⟨rfl,rfl,rfl,Nat.le_refl _⟩
theorem frL_add {n:Nat}{L:List Slot}{K:KL}{v:Value}{xs:List Nat}(h:FrL n L K):FrL (n+1) (L++[newS v xs (n+1)]) (K++[(v,xs)]):=by
 refine ⟨by rw [List.map_append,h.1]; rfl,fun s hs=>?_⟩
 rcases List.mem_append.1 hs with hs | hs
 ·exact (zqa h (Nat.le_succ n)).2 s hs
 ·obtain rfl:=List.mem_singleton.1 hs
  exact ⟨rfl,rfl,rfl,Nat.le_refl _⟩
theorem CK.exT {P : Program} {α : Type} {f : FuncId} {T : TypeId} {Ts : List TypeId} {A0 A1 : As} {A : α → As} {c : α → Prop} {pre : List VA} {post : VA} (hex : ∃ fn, P.funcs[f]? = some fn ∧ (fn.name == "runtime.NumGoroutine") = false ∧ fn.body.isNone = false) (h : ∀ x, c x → CK P f T Ts (A x) A1 pre post) (hp : ∀ B cs w, A0.p B cs w → ∃ x, c x ∧ (A x).p B cs w) : CK P f T Ts A0 A1 pre post :=
 ⟨hex,fun B w g cs args hB hg hp0 ha=>by
  obtain ⟨x,hc,hx⟩:=hp B cs w hp0
  exact (h x hc).2 B w g cs args hB hg hx ha⟩
theorem zl1 {α β:Type}{f:α→β}{l:List α}{m:List β}(h:l.map f=m):l.length=m.length:=by rw [← h,List.length_map]
theorem sep_l {n:Nat}{L:List Slot}{K:KL}{v:Value}(h:FrL n L K)(hs:∀ p∈K,∀ g,p.1.ownBlock=some g→v.ownBlock≠some g):∀ t∈L,∀ g,t.has g→v.ownBlock≠some g:=fun t ht g hg=>by
 obtain ⟨e1,_,_,_⟩:=h.2 t ht
 have hv:t.v.ownBlock=some g:=by
  rcases hg with hg | hg
  ·exact hg
  ·rwa [e1] at hg
 exact hs (t.v,t.xs) (by rw [← h.1]; exact List.mem_map.2 ⟨t,ht,rfl⟩) g hv
theorem sep_k {n:Nat}{L:List Slt}{K:VL}{v:Value}(h:FrK n L K)(hs:∀ p∈K,∀ g,p.1.ownBlock=some g→v.ownBlock≠some g):∀ t∈L,∀ g,t.has g→v.ownBlock≠some g:=fun t ht g hg=>by
 obtain ⟨e1,_,_,_⟩:=h.2 t ht
 have hv:t.v.ownBlock=some g:=by
  rcases hg with hg | hg
  ·exact hg
  ·rwa [e1] at hg
 exact hs (t.v,t.xs.length) (by rw [← h.1]; exact List.mem_map.2 ⟨t,ht,rfl⟩) g hv
theorem zz8 (K:KL)(Rs Es:VL)(v:Value)(xs:List Nat)(hsep:∀ p∈K,∀ g,p.1.ownBlock=some g→v.ownBlock≠some g)(hl:K.length+Rs.length+Es.length≤1000000):CK Tryz.prog 102 55 [55,93] (BkF K Rs Es) (BkF (K++[(v,xs)]) Rs Es) [(PinA v (MgN xs)).va] (Tu []) :=
 CK.exT (c:=fun x:BkRest × Value × List Slot=>KsP K Rs Es x.1 x.2.2) (A:=fun x=>BqA x.1 x.2.1 x.2.2) (zvm ⟨0,undef,[],undef,[],undef,[]⟩ undef v xs [] (fun t ht=>by cases ht) zd zd).1
  (fun x hx=>(zvm x.1 x.2.1 v xs x.2.2 (sep_l hx.2.2.1 hsep) (by have:=zl1 hx.2.2.1.1; omega) (by have:=hx.1; omega)).wk fun B cs w ⟨X,vr,L,hp,h⟩=>by
   obtain ⟨h1,h2,h3,h4,h5⟩:=hp
   obtain ⟨k1,k2,k3,k4,k5⟩:=hx
   refine ⟨X,vr,L,⟨by rw [h1,k1,List.length_append]; simp; omega,h2.trans k2,?_,?_,?_⟩,h⟩
   ·rw [h1,h5]; exact frL_add k3
   ·rw [h1,h3]; exact zht k4 (Nat.le_succ _)
   ·rw [h1,h4]; exact zht k5 (Nat.le_succ _)) fun B cs w ⟨X,vr,L,hp,h⟩=>⟨(X,vr,L),hp,h⟩
theorem zz9 (K:KL)(Rs Es:VL)(v:Value)(na:Nat)(hsep:∀ p∈Es,∀ g,p.1.ownBlock=some g→v.ownBlock≠some g)(hl:K.length+Rs.length+Es.length≤1000000):CK Tryz.prog 34 55 [55,90] (BkF K Rs Es) (BkF K Rs (Es++[(v,na)])) [OwV 64 9 v na] (Tu []) :=
 CK.exT (c:=fun x:BkRest × Value × List Slot=>KsP K Rs Es x.1 x.2.2) (A:=fun x=>BqA x.1 x.2.1 x.2.2) (zvn ⟨0,undef,[],undef,[],undef,[]⟩ undef v na [] (fun t ht=>by cases ht) zd zd).1
  (fun x hx=>(zvn x.1 x.2.1 v na x.2.2 (sep_k hx.2.2.2.2 hsep) (by have:=zl1 hx.2.2.2.2.1; omega) (by have:=hx.1; omega)).wk fun B cs w ⟨X,vr,L,hp,h⟩=>by
   obtain ⟨h1,h2,h3,h4,es,_,h5⟩:=hp
   obtain ⟨k1,k2,k3,k4,k5⟩:=hx
   refine ⟨X,vr,L,⟨by rw [h1,k1,List.length_append]; simp; omega,h2.trans k2,?_,?_,?_⟩,h⟩
   ·rw [h1,h4]; exact zqa k3 (Nat.le_succ _)
   ·rw [h1,h3]; exact zht k4 (Nat.le_succ _)
   ·rw [h1,h5]; exact frK_add k5) fun B cs w ⟨X,vr,L,hp,h⟩=>⟨(X,vr,L),hp,h⟩
theorem new_l {n:Nat}{L:List Slot}{K:KL}{B:Nat}{w:World}{vr:Value}{c:List Value}(h:FrL n L K)(hn:n≤1000000)(hp:(HbA vr L).p B c w)(hok:∀ p∈K,okL p.2∧p.2.length≤2000000000000):∀ s∈L,s.new:=fun s hs=>by
 obtain ⟨e1,e2,e3,e4⟩:=h.2 s hs
 have hm:(s.v,s.xs)∈K:=by rw [← h.1]; exact List.mem_map.2 ⟨s,hs,rfl⟩
 obtain ⟨o1,o2⟩:=hok _ hm
 exact { rv:=(hp.2.2.1 s hs).2.1,ox:=o1,oy:=by rw [e2]; exact o1,z1:=by rw [e3]; rfl,n1:=by omega,lx:=o2,uv:=e1,yx:=e2 }
theorem new_k {H E m n:Nat}{L:List Slt}{K:VL}{B:Nat}{w:World}{vr:Value}{c:List Value}(h:FrK n L K)(hn:n≤1000000)(hp:(HkA H E m vr L).p B c w)(hok:∀ p∈K,p.2≤2000000000):∀ s∈L,s.new:=fun s hs=>by
 obtain ⟨e1,e2,e3,e4⟩:=h.2 s hs
 have hm:(s.v,s.xs.length)∈K:=by rw [← h.1]; exact List.mem_map.2 ⟨s,hs,rfl⟩
 exact { rv:=(hp.2.2.1 s hs).2.1,z1:=by rw [e3]; rfl,n1:=by omega,lx:=hok _ hm,uv:=e1,yx:=e2 }
theorem apartF_c (K:KL)(Rs Es:VL)(hK:∀ p∈K,okL p.2∧p.2.length≤2000000000000)(hR:∀ p∈Rs,False)(hE:∀ p∈Es,p.2≤2000000000)(hl:K.length+Rs.length+Es.length≤1000000):CK Tryz.prog 16 55 [55,93,88,123,125,90,64] (BkF K Rs Es) JkA [] (Bo true) :=
 CK.exT (c:=fun x:BkRest × Value × List Slot=>KsP K Rs Es x.1 x.2.2∧(∀ s∈x.2.2,s.new)∧x.1.R=[]∧(∀ s∈x.1.M,s.new)) (A:=fun x=>BqA x.1 x.2.1 x.2.2)
  (zx8 ⟨0,undef,[],undef,[],undef,[]⟩ undef [] (fun s hs=>by cases hs) zd rfl rfl (fun s hs=>by cases hs) zd).1
  (fun x hx=>zx8 x.1 x.2.1 x.2.2 hx.2.1 (by have:=zl1 hx.1.2.2.1.1; omega) hx.1.2.1 hx.2.2.1 hx.2.2.2 (by have:=zl1 hx.1.2.2.2.2.1; omega))
  fun B cs w ⟨X,vr,L,hp,h⟩=>by
   obtain ⟨⟨c1,h1⟩,_,⟨c3,h3⟩,⟨c4,h4⟩⟩:=zcy h
   have hn:X.n≤1000000:=by have:=hp.1; omega
   exact ⟨(X,vr,L),⟨hp,new_l hp.2.2.1 hn h1 hK,List.map_eq_nil_iff.1 (hp.2.2.2.1.1.trans (List.eq_nil_iff_forall_not_mem.2 hR)),new_k hp.2.2.2.2 hn h4 hE⟩,h⟩
theorem nd_sep {K:KL}{v:Value}{xs:List Nat}(h:(kbl (K++[(v,xs)])).Nodup):∀ p∈K,∀ g,p.1.ownBlock=some g→v.ownBlock≠some g:=fun p hp g hg hv=>by
 rw [kbl_app] at h
 have h2:=(List.nodup_append.1 h).2.2
 have m1:g∈kbl K:=List.mem_filterMap.2 ⟨p,hp,hg⟩
 have m2:g∈kbl [(v,xs)]:=List.mem_filterMap.2 ⟨(v,xs),by simp,hv⟩
 exact h2 g m1 g m2 rfl
theorem zuz {K l:KL}(h:(kbl (K++l)).Nodup):(kbl K).Nodup:=by
 rw [kbl_app] at h
 exact (List.nodup_append.1 h).1
def EleP (x:RE)(m:Nat→Value):As:=cat [NumA .u8 x.k,FracP x.p (m 0) (m 1),FracP x.q (m 2) (m 3)]
abbrev ke (x:RE)(m:Nat→Value):KL:=kf x.p (m 0) (m 1)++kf x.q (m 2) (m 3)
theorem zpr (x:RI)(m:Value)(K:KL)(Rs Es:VL)(hs:(kbl (K++[(m,x.mag)])).Nodup)(hl:K.length+Rs.length+Es.length≤999999):CK Tryz.prog 35 55 [55,93] (BkF (K) Rs Es) (BkF (K++([(m,x.mag)])) Rs Es) [(IntP x m).va] (Tu []):=by
 refine CK.intro Tryz.func35 rfl zk nq zk (fun B g w0 a hrm O=>?_)
 have O:=zn [(0,EqV ((ptrH).f g)),(1,(IntP x m).va)] [⟨0,55,ptrH,BkF (K) Rs Es⟩] O
 refine wp_seq<|zg [none] [⟨3,31,ptrH,some 0,_,none⟩] [.alc 1] [.g 0] O (oc (zav rfl rfl rfl (gq 1 rfl)) o0) (zz [(0,_)] [⟨0,55,ptrH,_⟩,⟨3,31,ptrH,_⟩] fun a w O=>?_)
 refine za0<|zc2 (sp:=[.v 4 _,.adr 5 3 (.some 1) True,.v 6 _,.v 7 VT]) 3 1 99 3 OneC [.g 0,.o 0,.o 2] O (zv rfl (za1 (gq 0 rfl)) (oc (ob_a rfl rfl (zae (lz0 1 rfl) zaj)) (zv rfl (za4 1 rfl zk trivial (lz0 1 rfl) (Sub.part 1 rfl rfl) zb7) o0))) rfl zd zk zk (zz [(0,_),(4,_),(6,_)] [⟨0,55,ptrH,_⟩,⟨3,31,ptrH,_⟩] fun a w O=>?_)
 rw [show List.range' 3 1=[3] from rfl]
 rw [wpOps_cons]
 refine zdy (A1:=BkF (K++[(m,x.mag)]) Rs Es) (xs:=[.tmp 6]) [0] [2] 0 rfl O (zz8 K Rs Es m x.mag (nd_sep hs) zo) rfl (Eq.trans (b:=ptr g) (O.vals _ (zm 1 rfl)) (Eq.symm (O.vals _ (zm 0 rfl)))) (.cons ⟨_,rfl,rfl⟩ .nil) rfl hrm zd zk zk zk zk (fun a w O=>?_)
 refine zby ?_
 have O:=St.cvA (A':=BkF (K++([(m,x.mag)])) Rs Es) O 0 rfl (congrArg (fun k=>BkF k Rs Es) (by simp [List.append_assoc]))
 have O:=zn [(7,_),(0,_)] [⟨0,55,ptrH,BkF (K++([(m,x.mag)])) Rs Es⟩,⟨3,31,ptrH,_⟩] O
 refine zdb<|zgb O (zm 1 rfl) (zm 0 rfl) ?_
 exact zb9 (rs:=[]) rfl O .nil zd
theorem zl3 (x:RF)(m1 m2:Value)(K:KL)(Rs Es:VL)(hs:(kbl (K++([(m1,x.num.mag)]++[(m2,x.den.mag)]))).Nodup)(hl:K.length+Rs.length+Es.length≤999990):CK Tryz.prog 15 55 [55,93] (BkF (K) Rs Es) (BkF (K++([(m1,x.num.mag)]++[(m2,x.den.mag)])) Rs Es) [(FracP x m1 m2).va] (Tu []):=by
 have g1:(kbl ((K++[(m1,x.num.mag)])++[(m2,x.den.mag)])).Nodup:=by simpa [List.append_assoc] using hs
 have g0:=zuz g1
 refine CK.intro Tryz.func15 rfl zk nq zk (fun B g w0 a hrm O=>?_)
 have O:=zn [(0,EqV ((ptrH).f g)),(1,(FracP x m1 m2).va)] [⟨0,55,ptrH,BkF (K) Rs Es⟩] O
 refine wp_seq<|zg [none] [⟨3,33,ptrH,some 0,_,none⟩] [.alc 1] [.g 0] O (oc (zav rfl rfl rfl (gq 1 rfl)) o0) (zz [(0,_)] [⟨0,55,ptrH,_⟩,⟨3,33,ptrH,_⟩] fun a w O=>?_)
 refine zt<|zc2 (sp:=[.v 4 _,.adr 5 3 (.some 0) True,.v 6 _,.v 7 VT]) 3 1 99 3 OneC [.g 0,.o 0,.o 2] O (zv rfl (za1 (gq 0 rfl)) (oc (ob_a rfl rfl (zae (lz0 1 rfl) zbx)) (zv rfl (za4 1 rfl zk trivial (lz0 1 rfl) (Sub.part 0 rfl rfl) zah) o0))) rfl zd zk zk (zz [(0,_),(4,_),(6,_)] [⟨0,55,ptrH,_⟩,⟨3,33,ptrH,_⟩] fun a w O=>?_)
 rw [show List.range' 3 1=[3] from rfl]
 rw [wpOps_cons]
 refine zdy (A1:=BkF (K++[(m1,x.num.mag)]) Rs Es) (xs:=[.tmp 6]) [0] [2] 0 rfl O (zpr x.num m1 K Rs Es g0 (by (try simp only [List.length_append,List.length_cons,List.length_nil]); omega)) rfl (Eq.trans (b:=ptr g) (O.vals _ (zm 1 rfl)) (Eq.symm (O.vals _ (zm 0 rfl)))) (.cons ⟨_,rfl,rfl⟩ .nil) rfl hrm zd zk zk zk zk (fun a w O=>?_)
 refine zby ?_
 have O:=zn [(7,_),(0,_)] [⟨0,55,ptrH,BkF (K++[(m1,x.num.mag)]) Rs Es⟩,⟨3,33,ptrH,_⟩] O
 refine za0<|zc2 (sp:=[.v 8 _,.adr 9 3 (.some 2) True,.v 10 _,.v 11 VT]) 3 1 99 3 OneC [.g 1,.o 0,.o 2] O (zv rfl (za1 (gq 1 rfl)) (oc (ob_a rfl rfl (zae (lz0 1 rfl) zbq)) (zv rfl (za4 1 rfl zk trivial (lz0 1 rfl) (Sub.part 1 rfl rfl) zah) o0))) rfl zd zk zk (zz [(0,_),(8,_),(10,_)] [⟨0,55,ptrH,_⟩,⟨3,33,ptrH,_⟩] fun a w O=>?_)
 rw [show List.range' 3 1=[3] from rfl]
 rw [wpOps_cons]
 refine zdy (A1:=BkF ((K++[(m1,x.num.mag)])++[(m2,x.den.mag)]) Rs Es) (xs:=[.tmp 10]) [0] [2] 0 rfl O (zpr x.den m2 (K++[(m1,x.num.mag)]) Rs Es g1 (by (try simp only [List.length_append,List.length_cons,List.length_nil]); omega)) rfl (Eq.trans (b:=ptr g) (O.vals _ (zm 1 rfl)) (Eq.symm (O.vals _ (zm 0 rfl)))) (.cons ⟨_,rfl,rfl⟩ .nil) rfl hrm zd zk zk zk zk (fun a w O=>?_)
 refine zby ?_
 have O:=St.cvA (A':=BkF (K++([(m1,x.num.mag)]++[(m2,x.den.mag)])) Rs Es) O 0 rfl (congrArg (fun k=>BkF k Rs Es) (by simp [List.append_assoc]))
 have O:=zn [(11,_),(0,_)] [⟨0,55,ptrH,BkF (K++([(m1,x.num.mag)]++[(m2,x.den.mag)])) Rs Es⟩,⟨3,33,ptrH,_⟩] O
 refine zdb<|zgb O (zm 1 rfl) (zm 0 rfl) ?_
 exact zb9 (rs:=[]) rfl O .nil zd
theorem zvo (x:RE)(m:Nat→Value)(K:KL)(Rs Es:VL)(hs:(kbl (K++ke x m)).Nodup)(hl:K.length+Rs.length+Es.length≤999982):CK Tryz.prog 33 55 [55,93] (BkF (K) Rs Es) (BkF (K++(ke x m)) Rs Es) [(EleP x m).va] (Tu []):=by
 have g1:(kbl ((K++(kf x.p (m 0) (m 1)))++(kf x.q (m 2) (m 3)))).Nodup:=by simpa [List.append_assoc] using hs
 have g0:=zuz g1
 refine CK.intro Tryz.func33 rfl zk nq zk (fun B g w0 a hrm O=>?_)
 have O:=zn [(0,EqV ((ptrH).f g)),(1,(EleP x m).va)] [⟨0,55,ptrH,BkF (K) Rs Es⟩] O
 refine wp_seq<|zg [none] [⟨3,64,ptrH,some 0,_,none⟩] [.alc 1] [.g 0] O (oc (zav rfl rfl rfl (gq 1 rfl)) o0) (zz [(0,_)] [⟨0,55,ptrH,_⟩,⟨3,64,ptrH,_⟩] fun a w O=>?_)
 refine zt<|zc2 (sp:=[.v 4 _,.adr 5 3 (.some 1) True,.v 6 _,.v 7 VT]) 3 1 99 3 OneC [.g 0,.o 0,.o 2] O (zv rfl (za1 (gq 0 rfl)) (oc (ob_a rfl rfl (zae (lz0 1 rfl) zc4)) (zv rfl (za4 1 rfl zk trivial (lz0 1 rfl) (Sub.part 1 rfl rfl) zb5) o0))) rfl zd zk zk (zz [(0,_),(4,_),(6,_)] [⟨0,55,ptrH,_⟩,⟨3,64,ptrH,_⟩] fun a w O=>?_)
 rw [show List.range' 3 1=[3] from rfl]
 rw [wpOps_cons]
 refine zdy (A1:=BkF (K++(kf x.p (m 0) (m 1))) Rs Es) (xs:=[.tmp 6]) [0] [2] 0 rfl O (zl3 x.p (m 0) (m 1) K Rs Es g0 (by (try simp only [List.length_append,List.length_cons,List.length_nil]); omega)) rfl (Eq.trans (b:=ptr g) (O.vals _ (zm 1 rfl)) (Eq.symm (O.vals _ (zm 0 rfl)))) (.cons ⟨_,rfl,rfl⟩ .nil) rfl hrm zd zk zk zk zk (fun a w O=>?_)
 refine zby ?_
 have O:=zn [(7,_),(0,_)] [⟨0,55,ptrH,BkF (K++(kf x.p (m 0) (m 1))) Rs Es⟩,⟨3,64,ptrH,_⟩] O
 refine za0<|zc2 (sp:=[.v 8 _,.adr 9 3 (.some 5) True,.v 10 _,.v 11 VT]) 3 1 99 3 OneC [.g 1,.o 0,.o 2] O (zv rfl (za1 (gq 1 rfl)) (oc (ob_a rfl rfl (zae (lz0 1 rfl) zc7)) (zv rfl (za4 1 rfl zk trivial (lz0 1 rfl) (Sub.part 2 rfl rfl) zb5) o0))) rfl zd zk zk (zz [(0,_),(8,_),(10,_)] [⟨0,55,ptrH,_⟩,⟨3,64,ptrH,_⟩] fun a w O=>?_)
 rw [show List.range' 3 1=[3] from rfl]
 rw [wpOps_cons]
 refine zdy (A1:=BkF ((K++(kf x.p (m 0) (m 1)))++(kf x.q (m 2) (m 3))) Rs Es) (xs:=[.tmp 10]) [0] [2] 0 rfl O (zl3 x.q (m 2) (m 3) (K++(kf x.p (m 0) (m 1))) Rs Es g1 (by (try simp only [List.length_append,List.length_cons,List.length_nil]); omega)) rfl (Eq.trans (b:=ptr g) (O.vals _ (zm 1 rfl)) (Eq.symm (O.vals _ (zm 0 rfl)))) (.cons ⟨_,rfl,rfl⟩ .nil) rfl hrm zd zk zk zk zk (fun a w O=>?_)
 refine zby ?_
 have O:=St.cvA (A':=BkF (K++(ke x m)) Rs Es) O 0 rfl (congrArg (fun k=>BkF k Rs Es) (by simp [List.append_assoc]))
 have O:=zn [(11,_),(0,_)] [⟨0,55,ptrH,BkF (K++(ke x m)) Rs Es⟩,⟨3,64,ptrH,_⟩] O
 refine zdb<|zgb O (zm 1 rfl) (zm 0 rfl) ?_
 exact zb9 (rs:=[]) rfl O .nil zd
end Go.Proofs.YtmfgafhlaeolgaaGreatDoor
namespace Go.Proofs.YtmfgafhlaeolgaaGreatDoor
open Go Go.RowKit
def SzV (h:Nat):VA where
 p _ _ w:=h≤w.heap.size
 deps:=[]
 cg:=fun _ _ _ _ hg hh=>Nat.le_trans hh hg.le
 wr:=fun _ _ _ _ _ _ _ _ _ _ _ hW hh=>by rw [hW.size]; exact hh
def GeA (h:Nat)(A:As):As where
 n:=A.n
 ag:=A.ag
 p B cs w:=A.p B cs w∧(cbl cs).Nodup∧∀ g∈cbl cs,h≤g
 deps:=A.deps
 len:=fun B cs w hp=>A.len B cs w hp.1
 one:=fun B cs w hp=>A.one B cs w hp.1
 ag1:=A.ag1
 cg:=fun B cs w w' hg hp=>⟨A.cg B cs w w' hg hp.1,hp.2⟩
 wr:=fun B cs w w' g c T fz h1 h2 h3 h4 hp=>⟨A.wr B cs w w' g c T fz h1 h2 h3 h4 hp.1,hp.2⟩
def IvA (lo hi:Nat)(A:As):As where
 n:=A.n
 ag:=A.ag
 p B cs w:=A.p B cs w∧(cbl cs).Nodup∧∀ g∈cbl cs,lo≤g∧g<hi
 deps:=A.deps
 len:=fun B cs w hp=>A.len B cs w hp.1
 one:=fun B cs w hp=>A.one B cs w hp.1
 ag1:=A.ag1
 cg:=fun B cs w w' hg hp=>⟨A.cg B cs w w' hg hp.1,hp.2⟩
 wr:=fun B cs w w' g c T fz h1 h2 h3 h4 hp=>⟨A.wr B cs w w' g c T fz h1 h2 h3 h4 hp.1,hp.2⟩
theorem iv_wk {lo hi:Nat}{A:As}:WkA (IvA lo hi A) A:=⟨rfl,rfl,fun _ _ _ hp=>hp.1⟩
section
variable {B N:Nat} {w0:Bs} {Γ:List (Nat × VA)} {Λ:List Lc} {a:Act} {w:World}
theorem St.setG (h:St B w0 N Γ Λ a w){s:Nat}{A A':VA}(k:Nat)(hm:Γ[k]?=some (s,A))(hp:A.p B (a.eval (.tmp s)) w→A'.p B (a.eval (.tmp s)) w):St B w0 N (Γ.set k (s,A')) Λ a w :=
 ⟨h.lo,h.defers,h.size,h.base,fun x hx=>by
  rcases List.mem_or_eq_of_mem_set hx with hx | rfl
  ·exact h.vals x hx
  ·exact hp (h.vals _ (List.mem_of_getElem? hm)),h.locs,h.dis⟩
theorem St.getG (h:St B w0 N Γ Λ a w){s:Nat}{A:VA}(k:Nat)(hm:Γ[k]?=some (s,A)):A.p B (a.eval (.tmp s)) w:=h.vals _ (List.mem_of_getElem? hm)
theorem St.addSz (h:St B w0 N Γ Λ a w)(s:Nat):St B w0 N (Γ++[(s,SzV w.heap.size)]) Λ a w :=
 ⟨h.lo,h.defers,h.size,h.base,fun x hx=>by
  rcases List.mem_append.1 hx with hx | hx
  ·exact h.vals x hx
  ·obtain rfl:=List.mem_singleton.1 hx
   exact Nat.le_refl _,h.locs,h.dis⟩
theorem St.newSz (h:St B w0 N Γ Λ a w){s h0:Nat}(k:Nat)(hm:Γ[k]?=some (s,SzV h0)):h0≤w.heap.size∧St B w0 N (Γ.set k (s,SzV w.heap.size)) Λ a w:=⟨h.getG k hm,h.setG k hm fun _=>Nat.le_refl _⟩
theorem St.setL (h:St B w0 N Γ Λ a w){s:Nat}{T:TypeId}{H:Hd}{A A':As}(k:Nat)(hm:Λ[k]?=some ⟨s,T,H,A⟩)(hp:∀ cs,A.p B cs w→A'.p B cs w):St B w0 N Γ (Λ.set k ⟨s,T,H,A'⟩) a w:=by
 obtain ⟨g,cs,q1,q2,q3,q4⟩:=h.locs _ (List.mem_of_getElem? hm)
 have hs:∀ m∈Λ.set k ⟨s,T,H,A'⟩,∃ m0∈Λ,m0.s=m.s:=fun m hm'=>by
  rcases List.mem_or_eq_of_mem_set hm' with hm' | rfl
  ·exact ⟨m,hm',rfl⟩
  ·exact ⟨_,List.mem_of_getElem? hm,rfl⟩
 refine ⟨h.lo,h.defers,h.size,h.base,h.vals,fun l hl=>?_,fun m1 hm1 m2 hm2 hne=>?_⟩
 ·rcases List.mem_or_eq_of_mem_set hl with hl | rfl
  ·exact h.locs l hl
  ·exact ⟨g,cs,q1,q2,q3,hp cs q4⟩
 ·obtain ⟨m3,r1,r2⟩:=hs m1 hm1
  obtain ⟨m4,r3,r4⟩:=hs m2 hm2
  rw [← r2,← r4] at hne ⊢
  exact h.dis m3 r1 m4 r3 hne
theorem St.nameL {M:Type}{s lo:Nat}{T:TypeId}{H:Hd}{A0 A:As}{AP:M→As}{kl:M→KL}(hw:WkA A0 A)(hnew:NewA A)(hs:∀ {B:Nat} {cs:List Value} {w:World},A.p B cs w→∃ m,(AP m).p B cs w∧cbl cs=kbl (kl m)∧OkK (kl m))(h:St B w0 N Γ Λ a w)(k:Nat)(hm:Λ[k]?=some ⟨s,T,H,GeA lo A0⟩) :
  ∃ m,(kbl (kl m)).Nodup∧(∀ g∈kbl (kl m),lo≤g∧g<w.heap.size)∧OkK (kl m)∧St B w0 N Γ (Λ.set k ⟨s,T,H,AP m⟩) a w:=by
 obtain ⟨g,cs,q1,q2,q3,hp,hn,hl⟩:=h.locs _ (List.mem_of_getElem? hm)
 have hA:=hw.2.2 _ _ _ hp
 obtain ⟨m,p1,e,ok⟩:=hs hA
 refine ⟨m,by rw [← e]; exact hn,fun g hg=>?_,ok,?_⟩
 ·rw [← e] at hg
  exact ⟨hl g hg,(hnew _ _ _ hA g hg).2⟩
 ·have hss:∀ m'∈Λ.set k ⟨s,T,H,AP m⟩,∃ m0∈Λ,m0.s=m'.s:=fun m' hm'=>by
   rcases List.mem_or_eq_of_mem_set hm' with hm' | rfl
   ·exact ⟨m',hm',rfl⟩
   ·exact ⟨_,List.mem_of_getElem? hm,rfl⟩
  refine ⟨h.lo,h.defers,h.size,h.base,h.vals,fun l hl=>?_,fun m1 hm1 m2 hm2 hne=>?_⟩
  ·rcases List.mem_or_eq_of_mem_set hl with hl | rfl
   ·exact h.locs l hl
   ·exact ⟨g,cs,q1,q2,q3,p1⟩
  ·obtain ⟨m3,r1,r2⟩:=hss m1 hm1
   obtain ⟨m4,r3,r4⟩:=hss m2 hm2
   rw [← r2,← r4] at hne ⊢
   exact h.dis m3 r1 m4 r3 hne
end
section
open Rg
variable {P:Program} {Q:Exit→Act→World→Prop} {R:Rg} {B i:Nat} {w0:Bs}
theorem zoq {pre pre':List VA}{xs:List Operand}{a:Act}{w:World}(hup:All2 Up pre pre')(hx:HasL R B w0 i xs pre)(av:R.Av B w0 i a w):All2 (fun (A:VA) v=>A.p w.heap.size v w) pre' (xs.map a.eval):=by
 have hbw:=Av.bw av
 have h1:=hx.all av
 clear hx
 generalize xs.map a.eval=vs at h1
 induction hup generalizing vs with
 | nil=>cases h1; exact .nil
 | cons hu _ ih =>
  cases h1 with
  | cons h2 h3=>exact .cons (hu _ _ _ hbw h2) (ih _ h3)
theorem zp9 {f h s:Nat}{A:As}{pre pre':List VA}{xs:List Operand}{at_:Array TypeId}(hc:Cn P f pre' A.va)(hnew:NewA A)(hnod:NodA A)(hfree:FreeA A A)(hup:All2 Up pre pre')(hx:HasL R B w0 i xs pre)(hs:Has R B w0 i (.tmp s) (SzV h)):Wv P Q R B w0 i (.call ⟨.value (.func f),xs.toArray,at_⟩) (GeA h A).va:=by
 intro d T ps af gd a w av K hK
 obtain ⟨⟨fn,hf,hn,hb⟩,hcall⟩:=hc
 have hrun:(execOp a.eval ⟨some d,.call ⟨.value (.func f),xs.toArray,at_⟩,T,ps,af,gd⟩).run P w=.ok (.enter f (xs.map a.eval).toArray) w:=by
  simp only [execOp,resolve,Act.eval,Deferred.ofValue,Sem.run_bind,Sem.run_pure,Result.andThen_ok,invoke,zbj hf hn hb]
  simp
 have hsz:h≤w.heap.size:=hs a w av
 unfold Oper.wp
 rw [hrun]
 refine (hcall w.heap.size w _ (Nat.le_refl _) (zoq hup hx av)).mono ?_
 rintro e w' ⟨v,rfl,⟨cs,hv,hsh⟩,hg⟩
 exact hK v w' hg ⟨cs,⟨hfree.2.2 _ _ _ _ (Av.bw av) hv,hnod _ _ _ hv,fun g hg'=>Nat.le_trans hsz (hnew _ _ _ hv g hg').1⟩,hsh⟩
theorem zua {f h s:Nat}{A C:As}{pre pre':List VA}{xs:List Operand}{at_:Array TypeId}(hc:Cn P f pre' (Tu [A.va,C.va]))(hnew:NewA A)(hnod:NodA A)(hfree:FreeA A A)(hfC:FreeA C C)(hup:All2 Up pre pre')(hx:HasL R B w0 i xs pre)(hs:Has R B w0 i (.tmp s) (SzV h)):Wv P Q R B w0 i (.call ⟨.value (.func f),xs.toArray,at_⟩) (Tu [(GeA h A).va,C.va]):=by
 intro d T ps af gd a w av K hK
 obtain ⟨⟨fn,hf,hn,hb⟩,hcall⟩:=hc
 have hrun:(execOp a.eval ⟨some d,.call ⟨.value (.func f),xs.toArray,at_⟩,T,ps,af,gd⟩).run P w=.ok (.enter f (xs.map a.eval).toArray) w:=by
  simp only [execOp,resolve,Act.eval,Deferred.ofValue,Sem.run_bind,Sem.run_pure,Result.andThen_ok,invoke,zbj hf hn hb]
  simp
 have hsz:h≤w.heap.size:=hs a w av
 unfold Oper.wp
 rw [hrun]
 refine (hcall w.heap.size w _ (Nat.le_refl _) (zoq hup hx av)).mono ?_
 rintro e w' ⟨v,rfl,⟨vs,hv,h2⟩,hg⟩
 cases h2 with
 | @cons _ x _ vs h2 h3=>cases h3 with
  | @cons _ y _ vs h3 h4 =>
   cases h4
   obtain ⟨cs,hp,hsh⟩:=h2
   obtain ⟨ds,hq,hsq⟩:=h3
   exact hK v w' hg ⟨[x,y],hv,.cons ⟨cs,⟨hfree.2.2 _ _ _ _ (Av.bw av) hp,hnod _ _ _ hp,fun g hg'=>Nat.le_trans hsz (hnew _ _ _ hp g hg').1⟩,hsh⟩ (.cons ⟨ds,hfC.2.2 _ _ _ _ (Av.bw av) hq,hsq⟩ .nil)⟩
end
structure IvK (k:KL) (I:List (Nat × Nat)):Prop where
 nd:(kbl k).Nodup
 iv:∀ g∈kbl k,∃ x∈I,x.1≤g∧g<x.2
theorem ivk_nil:IvK [] []:=⟨List.nodup_nil,fun g hg=>by cases hg⟩
theorem zo2 {k l:KL}{I:List (Nat × Nat)}{lo hi:Nat}(h:IvK k I)(nl:(kbl l).Nodup)(hl:∀ g∈kbl l,lo≤g∧g<hi)(hI:∀ x∈I,x.2≤lo∨hi≤x.1):IvK (k++l) (I++[(lo,hi)]):=by
 refine ⟨?_,fun g hg=>?_⟩
 ·rw [kbl_app]
  refine List.nodup_append.2 ⟨h.nd,nl,fun x hx y hy e=>?_⟩
  subst e
  obtain ⟨z,hz,q1,q2⟩:=h.iv x hx
  have q3:=hl x hy
  rcases hI z hz with q | q <;> omega
 ·rw [kbl_app] at hg
  rcases List.mem_append.1 hg with hg | hg
  ·obtain ⟨x,hx,q⟩:=h.iv g hg
   exact ⟨x,by simp [hx],q⟩
  ·exact ⟨(lo,hi),by simp,hl g hg⟩
theorem zo3 {lo hi:Nat}:∀ x∈([]:List (Nat × Nat)),x.2≤lo∨hi≤x.1:=fun x hx=>by cases hx
theorem zo4 {I:List (Nat × Nat)}{lo hi l2 h2:Nat}(h:∀ x∈I,x.2≤lo∨hi≤x.1)(k:h2≤lo∨hi≤l2):∀ x∈I++[(l2,h2)],x.2≤lo∨hi≤x.1:=fun x hx=>by
 rcases List.mem_append.1 hx with hx | hx
 ·exact h x hx
 ·obtain rfl:=List.mem_singleton.1 hx
  exact k
end Go.Proofs.YtmfgafhlaeolgaaGreatDoor
namespace Go.Proofs.YtmfgafhlaeolgaaGreatDoor
open Go Go.RowKit
theorem zn5 {l:List As}{m B:Nat}{ds:List Value}{w:World}(hm:∀ A∈l,A.n=m)(h:(cat l).p B ds w):∀ k,(cat (l.take k)).p B (ds.take (k*m)) w∧(cat (l.drop k)).p B (ds.drop (k*m)) w:=by
 obtain ⟨ps,rfl,h⟩:=h
 induction h with
 | nil=>intro k; simp only [List.take_nil,List.drop_nil,List.flatten_nil]; exact ⟨⟨[],rfl,.nil⟩,⟨[],rfl,.nil⟩⟩
 | @cons A c ls bs h1 h2 ih =>
  intro k
  cases k with
  | zero =>
   simp only [List.take_zero,Nat.zero_mul,List.drop_zero]
   exact ⟨⟨[],rfl,.nil⟩,⟨c::bs,rfl,.cons h1 h2⟩⟩
  | succ k =>
   obtain ⟨i1,i2⟩:=ih (fun A' hA=>hm A' (List.mem_cons_of_mem _ hA)) k
   have hl:c.length=m:=(A.len _ _ _ h1).trans (hm A (by simp))
   have e1:(c::bs).flatten.take ((k+1)*m)=c++bs.flatten.take (k*m):=by
    rw [List.flatten_cons,List.take_append,List.take_of_length_le (by rw [hl,Nat.add_mul]; omega),hl]
    congr 2
    rw [Nat.add_mul]
    omega
   have e2:(c::bs).flatten.drop ((k+1)*m)=bs.flatten.drop (k*m):=by
    rw [List.flatten_cons,List.drop_append,List.drop_of_length_le (by rw [hl,Nat.add_mul]; omega),List.nil_append,hl]
    congr 1
    rw [Nat.add_mul]
    omega
   rw [e1,e2,List.take_succ_cons,List.drop_succ_cons]
   refine ⟨?_,i2⟩
   obtain ⟨qs,e,hq⟩:=i1
   exact ⟨c::qs,by rw [List.flatten_cons,← e],.cons h1 hq⟩
section
variable {P:Program} {R:Rg} {Q:Exit→Act→World→Prop} {B i:Nat} {w0:Bs}
end
end Go.Proofs.YtmfgafhlaeolgaaGreatDoor
