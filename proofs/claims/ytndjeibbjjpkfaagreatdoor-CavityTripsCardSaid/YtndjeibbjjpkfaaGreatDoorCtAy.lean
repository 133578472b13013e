import Derived.Test.YtndjeibbjjpkfaaGreatDoorCtAa
import Derived.Test.YtndjeibbjjpkfaaGreatDoorCtAc
import Derived.Test.YtndjeibbjjpkfaaGreatDoorCtAn
import Derived.Test.YtndjeibbjjpkfaaGreatDoorCtAt
import Derived.Test.YtndjeibbjjpkfaaGreatDoorCtAw
import Derived.Test.YtndjeibbjjpkfaaGreatDoorCtAx
import Derived.ProofKit
import Derived.OpenShut
import Derived.ChangeOld
import Derived.Below
set_option linter.unusedVariables false
set_option linter.unusedSimpArgs false
set_option linter.unusedSectionVars false
set_option maxRecDepth 100000
namespace Go.Proofs.YtndjeibbjjpkfaaGreatDoor
open Go Go.RowKit
def AllG (a:Act)(w:World):List (Nat × VA)→Prop
 | []=>True
 | x::l=>x.2.p w.heap.size (a.eval (.tmp x.1)) w∧AllG a w l
theorem AllG.mem {a:Act}{w:World}:∀ {l:List (Nat × VA)},AllG a w l→∀ x∈l,x.2.p w.heap.size (a.eval (.tmp x.1)) w
 | y::l,h,x,hx=>by
  rcases List.mem_cons.1 hx with rfl | hx
  ·exact h.1
  ·exact AllG.mem h.2 x hx
section
variable {P:Program} {B N:Nat} {w0:Bs} {Γ:List (Nat × VA)} {Λ:List Lc} {a:Act} {w:World}
theorem St.bw (h:St B w0 N Γ Λ a w):B≤w.heap.size:=Nat.le_trans (h.lo _ (.inl (Nat.le_refl _))) h.base.size
end
section
variable {P:Program} {Q:Exit→Act→World→Prop} {B N:Nat} {w0:Bs} {Γ:List (Nat × VA)} {Λ:List Lc} {a:Act} {w:World} {ops:Array Oper}
theorem go_first {id m:Nat}(hsz:ops.size=m+1)(h:wpOp P ops Q 0 (wpOps P ops Q (List.range' 1 m)) a w):(Code.region id ops false).wp P Q a w:=by
 refine wp_region ?_
 rw [List.range_eq_range',hsz,List.range'_succ,wpOps_cons]
 exact h
theorem go_restM {sp:List Sp}{d0 m:Nat}{A0:VA}(src:List Src)(h:St B w0 N ((d0,A0)::Γ) Λ a w)(h0:sp[0]?=some (.val d0 A0))(hsz:ops.size=m+1)
  (hob:Obs P Q ⟨ops,N,Γ,les0 Λ,sp,fun i=>List.range i⟩ B w0 1 m) (hk:Rg.chk ⟨ops,N,Γ,les0 Λ,sp,fun i=>List.range i⟩=true) (hsrc:src.all (okS ⟨ops,N,Γ,les0 Λ,sp,fun i=>List.range i⟩)=true)
  (hQ:∀ a w,St B w0 N (src.filterMap (takeS ⟨ops,N,Γ,les0 Λ,sp,fun i=>List.range i⟩)) Λ a w→Q .normal a w):wpOps P ops Q (List.range' 1 m) a w:=by
 have e:m=ops.size-1:=by omega
 subst e
 exact go_rest src h h0 zo hob hk hsrc hQ
end
theorem zjo {B:Nat}{w1:Bs}{Ts:List TypeId}(hB:B=w1.w.heap.size):∀ E,Ts.contains E=true→RowMay w1 B E:=fun E _ w g c fz _ h _=>.inl (hB▸h)
def ZBk:List As:=[NumA .i64 0,EqS (.slice none 0 0),EqS (.slice none 0 0),EqS (.slice none 0 0),EqS (.slice none 0 0),EqS (.slice none 0 0),EqS (.slice none 0 0),EqS (.slice none 0 0),EqS (.slice none 0 0),EqS (.slice none 0 0),EqS (.slice none 0 0),EqS (.slice none 0 0),EqS (.slice none 0 0),EqS (.slice none 0 0),EqS (.slice none 0 0),EqS (.slice none 0 0),EqS (.slice none 0 0)]
theorem zz4:Str Tryz.prog 55 ZBk :=
 Str.of (z:=.agg ([Value.int .i64 0]++List.replicate 16 (Value.slice none 0 0)).toArray) zk Tryz.underlying55 zk fun B w=>⟨[Value.int .i64 0]::List.replicate 16 [Value.slice none 0 0],rfl,.cons rfl (.cons ⟨rfl,rfl⟩ (.cons ⟨rfl,rfl⟩ (.cons ⟨rfl,rfl⟩ (.cons ⟨rfl,rfl⟩ (.cons ⟨rfl,rfl⟩ (.cons ⟨rfl,rfl⟩ (.cons ⟨rfl,rfl⟩ (.cons ⟨rfl,rfl⟩ (.cons ⟨rfl,rfl⟩ (.cons ⟨rfl,rfl⟩ (.cons ⟨rfl,rfl⟩ (.cons ⟨rfl,rfl⟩ (.cons ⟨rfl,rfl⟩ (.cons ⟨rfl,rfl⟩ (.cons ⟨rfl,rfl⟩ (.cons ⟨rfl,rfl⟩ .nil))))))))))))))))⟩
section
open Rg
variable {P:Program} {Q:Exit→Act→World→Prop} {R:Rg} {B i:Nat} {w0:Bs}
end
section
variable {P:Program} {R:Rg} {Q:Exit→Act→World→Prop} {B i:Nat} {w0:Bs}
end
end Go.Proofs.YtndjeibbjjpkfaaGreatDoor
namespace Go.Proofs.YtndjeibbjjpkfaaGreatDoor
open Go Go.RowKit
def RMN (x:RM):As:=cat [RFN x.a,RFN x.b,RFN x.c,RFN x.d]
def RMD (x:RM):As:=DisA (RMN x)
theorem zm4 {x:RF}:NewA (RFN x):=zf1 fun A hA=>by
 simp at hA
 rcases hA with rfl | rfl <;> exact zwf _
theorem zpp {x:RM}:NewA (RMD x):=zn5 (zf1 fun A hA=>by
 simp at hA
 rcases hA with rfl | rfl | rfl | rfl <;> exact zm4)
theorem zg5 {x:RF}:FreeA (RFN x) (RFN x):=zch (.cons (zgs _) (.cons (zgs _) .nil))
theorem zmr {x:RM}:FreeA (RMD x) (RMD x):=zj4 (zch (.cons zg5 (.cons zg5 (.cons zg5 (.cons zg5 .nil)))))
theorem zr6 {k:Nat}{q:Rat}:WkA (QD k q) (RFN (rfOf q)):=qd_rfd.trans dis_wk
theorem twn_mgn {l:List Nat}:WkA (TwN l) (MgN l):=⟨rfl,rfl,fun B cs w ⟨ok,g,e,h1,h2,h3⟩=>⟨ok,.inr ⟨g,[7777],by rw [e]; simp,by simpa using h2,h1,h3⟩⟩⟩
theorem rit_rin {x:RI}:WkA (RIT x) (RIN x):=zc8 (.cons (.refl _) (.cons twn_mgn .nil))
theorem zvj {x:RF}:WkA (RFT x) (RFN x):=zc8 (.cons rit_rin (.cons rit_rin .nil))
theorem kbl_app {l m:KL}:kbl (l++m)=kbl l++kbl m:=List.filterMap_append ..
theorem rin_ok {x:RI}{B:Nat}{cs:List Value}{w:World}(h:(RIN x).p B cs w):okL x.mag:=by
 obtain ⟨ps,rfl,hp⟩:=h
 cases hp with
 | cons h1 hp=>cases hp with
  | cons h2 hp=>exact h2.1
abbrev OkK (l:KL):Prop:=∀ p∈l,okL p.2
theorem zf0 {l m:KL}(h:OkK l)(k:OkK m):OkK (l++m):=fun p hp=>by
 rcases List.mem_append.1 hp with hp | hp
 ·exact h p hp
 ·exact k p hp
abbrev LnK (l:KL):Prop:=∀ p∈l,p.2.length≤2000000000000
theorem zf5 {l m:KL}(h:LnK l)(k:LnK m):LnK (l++m):=fun p hp=>by
 rcases List.mem_append.1 hp with hp | hp
 ·exact h p hp
 ·exact k p hp
theorem okK_f {x:RF}{m1 m2:Value}(h1:okL x.num.mag)(h2:okL x.den.mag):OkK (kf x m1 m2):=fun p hp=>by
 simp only [List.mem_cons,List.not_mem_nil,or_false] at hp
 rcases hp with rfl | rfl
 ·exact h1
 ·exact h2
theorem ztk {x:RF}{m1 m2:Value}(h:bdF x):LnK (kf x m1 m2):=fun p hp=>by
 simp only [List.mem_cons,List.not_mem_nil,or_false] at hp
 rcases hp with rfl | rfl
 ·exact Nat.le_trans h.1 zd
 ·exact Nat.le_trans h.2 zd
theorem okK_len {l:KL}(h:OkK l)(k:LnK l):∀ p∈l,okL p.2∧p.2.length≤2000000000000:=fun p hp=>⟨h p hp,k p hp⟩
theorem ze5 {x:RF}{B:Nat}{cs:List Value}{w:World}(h:(RFN x).p B cs w):∃ m1 m2,(FracP x m1 m2).p B cs w∧cbl cs=kbl (kf x m1 m2)∧OkK (kf x m1 m2):=by
 obtain ⟨ps,rfl,hp⟩:=h
 cases hp with
 | @cons _ c1 _ _ h1 hp=>cases hp with
  | @cons _ c2 _ _ h2 hp =>
   cases hp
   obtain ⟨m1,p1,e1⟩:=zoa h1
   obtain ⟨m2,p2,e2⟩:=zoa h2
   refine ⟨m1,m2,⟨[c1,c2],rfl,.cons p1 (.cons p2 .nil)⟩,?_,okK_f (rin_ok h1) (rin_ok h2)⟩
   have:([c1,c2]:List (List Value)).flatten=c1++c2:=by simp
   rw [this,zdg,e1,e2]
   exact kbl_app.symm
def nm4 (a b c d:Value):Nat→Value
 | 0=>a
 | 1=>b
 | 2=>c
 | _=>d
def nm8 (a b c d e f g h:Value):Nat→Value
 | 0=>a
 | 1=>b
 | 2=>c
 | 3=>d
 | 4=>e
 | 5=>f
 | 6=>g
 | _=>h
theorem zjp {x:RM}{B:Nat}{cs:List Value}{w:World}(h:(RMN x).p B cs w):∃ m:Nat→Value,(MatP x m).p B cs w∧cbl cs=kbl (km x m)∧OkK (km x m):=by
 obtain ⟨ps,rfl,hp⟩:=h
 cases hp with
 | @cons _ c1 _ _ h1 hp=>cases hp with
  | @cons _ c2 _ _ h2 hp=>cases hp with
   | @cons _ c3 _ _ h3 hp=>cases hp with
    | @cons _ c4 _ _ h4 hp =>
     cases hp
     obtain ⟨m1,m2,p1,e1,o1⟩:=ze5 h1
     obtain ⟨m3,m4,p2,e2,o2⟩:=ze5 h2
     obtain ⟨m5,m6,p3,e3,o3⟩:=ze5 h3
     obtain ⟨m7,m8,p4,e4,o4⟩:=ze5 h4
     refine ⟨nm8 m1 m2 m3 m4 m5 m6 m7 m8,⟨[c1,c2,c3,c4],rfl,.cons p1 (.cons p2 (.cons p3 (.cons p4 .nil)))⟩,?_,zf0 (zf0 (zf0 o1 o2) o3) o4⟩
     have:([c1,c2,c3,c4]:List (List Value)).flatten=((c1++c2)++c3)++c4:=by simp
     rw [this,zdg,zdg,zdg,e1,e2,e3,e4]
     show _=kbl (((kf x.a m1 m2++kf x.b m3 m4)++kf x.c m5 m6)++kf x.d m7 m8)
     rw [kbl_app,kbl_app,kbl_app]
theorem okK_nil:OkK []:=fun p h=>by cases h
theorem lnK_nil:LnK []:=fun p h=>by cases h
abbrev bdM (x:RM):Prop:=bdF x.a∧bdF x.b∧bdF x.c∧bdF x.d
theorem lnK_m {x:RM}{m:Nat→Value}(h:bdM x):LnK (km x m):=zf5 (zf5 (zf5 (ztk h.1) (ztk h.2.1)) (ztk h.2.2.1)) (ztk h.2.2.2)
theorem zic:bdF rf0:=⟨Nat.zero_le _,Nat.zero_le _⟩
theorem bd_of {q:Rat}(h:¬ longQ q=true):bdF (rfOf q):=by
 have h':longQ q=false:=by cases hq:longQ q with
  | true=>exact absurd hq h
  | false=>rfl
 unfold longQ at h'
 simp only [List.any_cons,List.any_nil,Bool.or_false,Bool.or_eq_false_iff] at h'
 have h1:=of_decide_eq_false h'.1
 have h2:=of_decide_eq_false h'.2
 refine ⟨?_,?_⟩
 ·show (riOf q.num).mag.length≤_
  omega
 ·show (riOf (q.den:Int)).mag.length≤_
  omega
theorem bd_as (m:MQ):bdM (asM 0 m).1:=by
 unfold asM
 split
 ·split
  ·exact ⟨zic,zic,zic,zic⟩
  ·rename_i h; exact ⟨bd_of fun e=>h (by simp [e]),bd_of fun e=>h (by simp [e]),bd_of fun e=>h (by simp [e]),bd_of fun e=>h (by simp [e])⟩
 ·rename_i h; exact absurd rfl h
end Go.Proofs.YtndjeibbjjpkfaaGreatDoor
namespace Go.Proofs.YtndjeibbjjpkfaaGreatDoor
open Go Go.RowKit
def p4 (m:MQ)(j:Nat):Rat:=[m.a,m.b,m.c,m.d].getD j 0
def mulQ (m q:MQ):MQ:=⟨m.a*q.a+m.b*q.c,m.a*q.b+m.b*q.d,m.c*q.a+m.d*q.c,m.c*q.b+m.d*q.d⟩
end Go.Proofs.YtndjeibbjjpkfaaGreatDoor
namespace Go.Proofs.YtndjeibbjjpkfaaGreatDoor
open Go Go.RowKit
end Go.Proofs.YtndjeibbjjpkfaaGreatDoor
namespace Go.Proofs.YtndjeibbjjpkfaaGreatDoor
open Go Go.RowKit
theorem Cm.introK {P : Program} {f : FuncId} {fn : Func} {c : Code} {T : TypeId} {A0 A1 : As} {H : Hd} {pre : List Ar} {post : VA} (p : Nat) (hf : P.funcs[f]? = some fn) (hb : fn.body = some c) (hn : (fn.name == "runtime.NumGoroutine") = false) (hsz : pre.length ≤ fn.ntmps)
  (hm:∀ g,(p,EqV (H.f g))∈argΓ (pre.map (Ar.va g)))
  (h:∀ (B g:Nat) (w0:Bs) (a:Act),St B w0 fn.ntmps (argΓ (pre.map (Ar.va g))) [⟨p,T,H,A0⟩] a w0.w→c.wp P (bPost P fn (RQm B w0 g T A1 post)) a w0.w):Cm P f T A0 A1 pre post:=by
 refine ⟨⟨fn,hf,hn,by rw [hb]; rfl⟩,fun B w g cs args hB hg hp ha=>(zco hf hb (h B g ⟨w,fun k=>k=g,false⟩ _ ?_)).mono fun _ _ ⟨v,cs',he,hv,hk,h1,h2⟩=>⟨v,cs',he,hv,hk,h1,h2⟩⟩
 have hl:=ha.length
 have hgw:=(Array.getElem?_eq_some_iff.1 hg).1
 have ha':All2 (fun (A:VA) v=>A.p B v w) (pre.map (Ar.va g)) args:=by
  clear hl hm h hsz
  induction ha with
  | nil=>exact .nil
  | @cons x y xs ys h1 _ ih =>
   refine .cons ?_ ih
   cases x with
   | v A=>exact h1
   | w H=>exact h1
 have h0:(⟨args.toArray++Array.replicate (fn.ntmps-args.toArray.size) undef,[]⟩:Act).eval (.tmp p)=H.f g :=
  All2.args (N:=fn.ntmps-args.toArray.size) ha' (p,EqV (H.f g)) (hm g)
 refine ⟨fun k hk=>?_,DefOk.nil rfl,?_,Kept.refl _,All2.args ha',fun l hl=>?_,fun l hl m hm hne=>?_⟩
 ·rcases hk with hk | hk
  ·exact Nat.le_trans hB (Nat.le_trans (Nat.le_of_lt hgw) hk)
  ·have:k=g:=hk
   omega
 ·simp only [Array.size_append,List.size_toArray,Array.size_replicate]
  omega
 ·simp at hl
  subst hl
  exact ⟨g,cs,h0,.inr rfl,hg,hp⟩
 ·simp at hl hm
  subst hl hm
  exact absurd rfl hne
theorem zr0 {P:Program}{fn:Func}{B N g p:Nat}{w0:Bs}{Γ:List (Nat × VA)}{Λ:List Lc}{a:Act}{w:World}{T:TypeId}{H:Hd}{A1:As}{post:VA}(h:St B w0 N Γ Λ a w)(hm:(p,EqV (H.f g))∈Γ)(hl:(⟨p,T,H,A1⟩:Lc)∈Λ)
  (hb:bPost P fn (RQ B w0 post) .ret a w):bPost P fn (RQm B w0 g T A1 post) .ret a w:=by
 refine zk8 h hb fun v w h ⟨v',e1,e2,e3⟩=>?_
 obtain ⟨g',cs,f1,_,f3,f4⟩:=h.locs _ hl
 replace f1:a.eval (.tmp p)=H.f g':=f1
 have f0:a.eval (.tmp p)=H.f g:=h.vals _ hm
 have:g'=g:=Rg.Hd.inj (H:=H) (H':=H) (by rw [← f1,← f0])
 subst this
 exact ⟨v',cs,e1,e2,e3,f3,f4⟩
theorem sub_self {A:As}:Sub A 0 A:=fun B cs w h=>by
 have hl:=A.len B cs w h
 refine ⟨?_,by omega⟩
 rw [List.drop_zero,List.take_of_length_le zo]
 exact h
end Go.Proofs.YtndjeibbjjpkfaaGreatDoor
namespace Go.Proofs.YtndjeibbjjpkfaaGreatDoor
open Go Go.RowKit
def bQ (k:Nat)(r:Rat):Prop:=lz r.num≤k∧lz (r.den:Int)≤k
theorem bQ_mul {c d:Nat}{x y:Rat}(hx:bQ c x)(hy:bQ d y):bQ (c+d) (x*y):=by
 obtain ⟨x1,x2⟩:=hx
 obtain ⟨y1,y2⟩:=hy
 rw [← zpe]
 obtain ⟨h1,h2⟩:=zgq (p:=x.num*y.num) (q:=(x.den:Int)*(y.den:Int)) (den_nz x y)
 have h4:=zh5 x.num y.num
 have h6:=zh5 x.den y.den
 exact ⟨by omega,by omega⟩
end Go.Proofs.YtndjeibbjjpkfaaGreatDoor
namespace Go.Proofs.YtndjeibbjjpkfaaGreatDoor
open Go Go.RowKit
theorem nd_eq (x:Rat):x=(x.num:Rat)/((x.den:Int):Rat):=by rw [← Rat.divInt_eq_div]; exact (Rat.num_divInt_den x).symm
theorem den_ne (x:Rat):((x.den:Int):Rat)≠0:=by
 have:=x.den_nz
 intro h
 exact this (by exact_mod_cast h)
end Go.Proofs.YtndjeibbjjpkfaaGreatDoor
namespace Go.Proofs.YtndjeibbjjpkfaaGreatDoor
open Go Go.RowKit
section
variable {P:Program} {R:Rg} {Q:Exit→Act→World→Prop} {B i:Nat} {w0:Bs}
end
end Go.Proofs.YtndjeibbjjpkfaaGreatDoor
namespace Go.Proofs.YtndjeibbjjpkfaaGreatDoor
open Go Go.RowKit
end Go.Proofs.YtndjeibbjjpkfaaGreatDoor
namespace Go.Proofs.YtndjeibbjjpkfaaGreatDoor
open Go Go.RowKit
theorem zgz {c d e f:Nat}{x y z u:Rat}(hk:c+d+e+f≤137438953472):Cn Tryz.prog 149 [Qs c x,Qs d y,Qs e z,Qs f u] (Qs (c+d+(e+f)+1) (x*y+z*u)):=by
 refine Cn.intro Tryz.func149 rfl zk nq (fun B w0 a O=>?_)
 have O:=zn [(0,Qs c x),(1,Qs d y),(2,Qs e z),(3,Qs f u)] [] O
 refine wp_seq<|zg [] [⟨4,30,ptrH,some 0,_,none⟩,⟨5,30,ptrH,some 1,_,none⟩,⟨6,30,ptrH,some 2,_,none⟩,⟨7,30,ptrH,some 3,_,none⟩,⟨8,30,ptrH,some 4,_,none⟩] [.alc 0,.alc 1,.alc 2,.alc 3,.alc 4] [] O (oc (zan rfl rfl rfl (gq 0 rfl)) (oc (zan rfl rfl rfl (gq 1 rfl)) (oc (zan rfl rfl rfl (gq 2 rfl)) (oc (zan rfl rfl rfl (gq 3 rfl)) (oc (zaq rfl rfl rfl (Str.zero zb3)) o0))))) (zz [] [⟨4,30,ptrH,_⟩,⟨5,30,ptrH,_⟩,⟨6,30,ptrH,_⟩,⟨7,30,ptrH,_⟩,⟨8,30,ptrH,_⟩] fun a w O=>?_)
 refine zt<|zgd [[],[],[0,1],[],[],[0,1,2,3,4],[0,1,2,3,4,5],[0,1,2,3,4,5,6]] [none,none,none,none,some (7,_)] [] [.val 9 _,.val 10 _,.val 11 _,.val 12 _,.val 13 _,.val 14 _,.val 15 _,.sto 4] [] za6 O (zv rfl (zam (lz0 0 rfl) zad) (zv rfl (zam (lz0 1 rfl) zad) (zv rfl (za5 (xs:=[.tmp 9,.tmp 10]) (zgl zo) (.cons (vq 0 rfl) (.cons (vq 1 rfl) .nil))) (zv rfl (zam (lz0 2 rfl) zad) (zv rfl (zam (lz0 3 rfl) zad) (zv rfl (za5 (xs:=[.tmp 12,.tmp 13]) (zgl zo) (.cons (vq 3 rfl) (.cons (vq 4 rfl) .nil))) (zv rfl (za5 (xs:=[.tmp 11,.tmp 14]) (zr9 zo) (.cons (vq 2 rfl) (.cons (vq 5 rfl) .nil))) (oc (zac rfl rfl rfl (vq 6 rfl) zad (Eq.trans (b:=4) rfl rfl)) o0)))))))) zk zk zk zk (zz [] [⟨4,30,ptrH,_⟩,⟨5,30,ptrH,_⟩,⟨6,30,ptrH,_⟩,⟨7,30,ptrH,_⟩,⟨8,30,ptrH,_⟩] fun a w O=>?_)
 refine za0<|wp_ret<|zae ?_ (zak rfl O (zm 4 rfl) zad)
 exact zbi
theorem zhm {c d:Nat}{m q:MQ}(hk:c+d≤68719476736):Cn Tryz.prog 85 [(QMA c m).va,(QMA d q).va] ((QMA (c+d+(c+d)+1) (mulQ m q)).va):=by
 refine Cn.intro Tryz.func85 rfl zk nq (fun B w0 a O=>?_)
 have O:=zn [(0,(QMA c m).va),(1,(QMA d q).va)] [] O
 refine wp_seq<|zg [] [⟨2,32,ptrH,some 0,_,none⟩,⟨3,32,ptrH,some 1,_,none⟩,⟨4,32,ptrH,some 2,_,none⟩] [.alc 0,.alc 1,.alc 2] [] O (oc (zan rfl rfl rfl (gq 0 rfl)) (oc (zan rfl rfl rfl (gq 1 rfl)) (oc (zaq rfl rfl rfl (Str.zero zar)) o0))) (zz [] [⟨2,32,ptrH,_⟩,⟨3,32,ptrH,_⟩,⟨4,32,ptrH,_⟩] fun a w O=>?_)
 refine zt<|zfp (anc:=[[],[0],[],[2],[],[4],[],[6],[0,1,2,3,4,5,6,7],[],[9],[],[11],[],[13],[],[15],[0,1,2,3,4,5,6,7,8,9,10,11,12,13,14,15,16],[],[18],[],[20],[],[22],[],[24],[0,1,2,3,4,5,6,7,8,9,10,11,12,13,14,15,16,17,18,19,20,21,22,23,24,25],[],[27],[],[29],[],[31],[],[33],[0,1,2,3,4,5,6,7,8,9,10,11,12,13,14,15,16,17,18,19,20,21,22,23,24,25,26,27,28,29,30,31,32,33,34],[0,1,2,3,4,5,6,7,8,9,10,11,12,13,14,15,16,17,18,19,20,21,22,23,24,25,26,27,28,29,30,31,32,33,34,35],[0,1,2,3,4,5,6,7,8,9,10,11,12,13,14,15,16,17,18,19,20,21,22,23,24,25,26,27,28,29,30,31,32,33,34,35,36]]) (sts:=[none,none,some (37,_)]) (news:=[]) (sp:=((.adr 5 2 (.some 0) True:Sp)::(.val 6 _)::(.adr 7 3 (.some 0) True)::(.val 8 _)::(.adr 9 2 (.some 4) True)::(.val 10 _)::(.adr 11 3 (.some 8) True)::(.val 12 _)::(.val 13 _)::(.adr 14 2 (.some 0) True)::(.val 15 _)::(.adr 16 3 (.some 4) True)::(.val 17 _)::(.adr 18 2 (.some 4) True)::(.val 19 _)::(.adr 20 3 (.some 12) True)::(.val 21 _)::(.val 22 _)::(.adr 23 2 (.some 8) True)::(.val 24 _)::(.adr 25 3 (.some 0) True)::(.val 26 _)::(.adr 27 2 (.some 12) True)::(.val 28 _)::(.adr 29 3 (.some 8) True)::(.val 30 _)::(.val 31 _)::(.adr 32 2 (.some 8) True)::(.val 33 _)::(.adr 34 3 (.some 4) True)::(.val 35 _)::(.adr 36 2 (.some 12) True)::(.val 37 _)::(.adr 38 3 (.some 12) True)::(.val 39 _)::(.val 40 _)::(.val 41 _)::(.sto 2)::[])) [] za6 O (oc (ob_a rfl rfl (za7 (lz0 0 rfl) zc2)) (zv rfl (za4 0 rfl zk trivial (lz0 0 rfl) (Sub.part 0 rfl rfl) zad) (oc (ob_a rfl rfl (za7 (lz0 1 rfl) zc2)) (zv rfl (za4 2 rfl zk trivial (lz0 1 rfl) (Sub.part 0 rfl rfl) zad) (oc (ob_a rfl rfl (za7 (lz0 0 rfl) zc1)) (zv rfl (za4 4 rfl zk trivial (lz0 0 rfl) (Sub.part 1 rfl rfl) zad) (oc (ob_a rfl rfl (za7 (lz0 1 rfl) zbw)) (zv rfl (za4 6 rfl zk trivial (lz0 1 rfl) (Sub.part 2 rfl rfl) zad) (zv rfl (za5 (xs:=[.tmp 6,.tmp 8,.tmp 10,.tmp 12]) (zgz zo) (.cons (vq 1 rfl) (.cons (vq 3 rfl) (.cons (vq 5 rfl) (.cons (vq 7 rfl) .nil))))) (oc (ob_a rfl rfl (za7 (lz0 0 rfl) zc2)) (zv rfl (za4 9 rfl zk trivial (lz0 0 rfl) (Sub.part 0 rfl rfl) zad) (oc (ob_a rfl rfl (za7 (lz0 1 rfl) zc1)) (zv rfl (za4 11 rfl zk trivial (lz0 1 rfl) (Sub.part 1 rfl rfl) zad) (oc (ob_a rfl rfl (za7 (lz0 0 rfl) zc1)) (zv rfl (za4 13 rfl zk trivial (lz0 0 rfl) (Sub.part 1 rfl rfl) zad) (oc (ob_a rfl rfl (za7 (lz0 1 rfl) zc0)) (zv rfl (za4 15 rfl zk trivial (lz0 1 rfl) (Sub.part 3 rfl rfl) zad) (zv rfl (za5 (xs:=[.tmp 15,.tmp 17,.tmp 19,.tmp 21]) (zgz zo) (.cons (vq 10 rfl) (.cons (vq 12 rfl) (.cons (vq 14 rfl) (.cons (vq 16 rfl) .nil))))) (oc (ob_a rfl rfl (za7 (lz0 0 rfl) zbw)) (zv rfl (za4 18 rfl zk trivial (lz0 0 rfl) (Sub.part 2 rfl rfl) zad) (oc (ob_a rfl rfl (za7 (lz0 1 rfl) zc2)) (zv rfl (za4 20 rfl zk trivial (lz0 1 rfl) (Sub.part 0 rfl rfl) zad) (oc (ob_a rfl rfl (za7 (lz0 0 rfl) zc0)) (zv rfl (za4 22 rfl zk trivial (lz0 0 rfl) (Sub.part 3 rfl rfl) zad) (oc (ob_a rfl rfl (za7 (lz0 1 rfl) zbw)) (zv rfl (za4 24 rfl zk trivial (lz0 1 rfl) (Sub.part 2 rfl rfl) zad) (zv rfl (za5 (xs:=[.tmp 24,.tmp 26,.tmp 28,.tmp 30]) (zgz zo) (.cons (vq 19 rfl) (.cons (vq 21 rfl) (.cons (vq 23 rfl) (.cons (vq 25 rfl) .nil))))) (oc (ob_a rfl rfl (za7 (lz0 0 rfl) zbw)) (zv rfl (za4 27 rfl zk trivial (lz0 0 rfl) (Sub.part 2 rfl rfl) zad) (oc (ob_a rfl rfl (za7 (lz0 1 rfl) zc1)) (zv rfl (za4 29 rfl zk trivial (lz0 1 rfl) (Sub.part 1 rfl rfl) zad) (oc (ob_a rfl rfl (za7 (lz0 0 rfl) zc0)) (zv rfl (za4 31 rfl zk trivial (lz0 0 rfl) (Sub.part 3 rfl rfl) zad) (oc (ob_a rfl rfl (za7 (lz0 1 rfl) zc0)) (zv rfl (za4 33 rfl zk trivial (lz0 1 rfl) (Sub.part 3 rfl rfl) zad) (zv rfl (za5 (xs:=[.tmp 33,.tmp 35,.tmp 37,.tmp 39]) (zgz zo) (.cons (vq 28 rfl) (.cons (vq 30 rfl) (.cons (vq 32 rfl) (.cons (vq 34 rfl) .nil))))) (zv rfl (zb8 (xs:=[(0,.tmp 13),(1,.tmp 22),(2,.tmp 31),(3,.tmp 40)]) (qs:=[(0,_),(1,_),(2,_),(3,_)]) zar (.cons ⟨rfl,(vq 8 rfl),rfl⟩ (.cons ⟨rfl,(vq 17 rfl),rfl⟩ (.cons ⟨rfl,(vq 26 rfl),rfl⟩ (.cons ⟨rfl,(vq 35 rfl),rfl⟩ .nil))))) (oc (zac rfl rfl rfl (vq 36 rfl) zb2 (Eq.trans (b:=16) rfl rfl)) o0)))))))))))))))))))))))))))))))))))))) zk zk zk zk (zz [] [⟨2,32,ptrH,_⟩,⟨3,32,ptrH,_⟩,⟨4,32,ptrH,_⟩] fun a w O=>?_)
 refine za0<|wp_ret<|zae ?_ (zak rfl O (zm 2 rfl) zb2)
 exact zbi
theorem zg1  : Cn Tryz.prog 84 [] ((QMA 2 ⟨1,0,0,1⟩).va):=by
 refine Cn.intro Tryz.func84 rfl zk nq (fun B w0 a O=>?_)
 have O:=zn [] [] O
 refine wp_seq<|zg [] [⟨0,32,ptrH,some 0,_,none⟩] [.alc 0] [] O (oc (zaq rfl rfl rfl (Str.zero zar)) o0) (zz [] [⟨0,32,ptrH,_⟩] fun a w O=>?_)
 refine zt<|zg [some (5,_)] [] [.val 1 _,.val 2 _,.val 3 _,.val 4 _,.val 5 _,.sto 0] [] O (zv rfl (za5 (xs:=[]) zw8 .nil) (zv rfl (za5 (xs:=[]) zm2 .nil) (zv rfl (za5 (xs:=[]) zm2 .nil) (zv rfl (za5 (xs:=[]) zw8 .nil) (zv rfl (zb8 (xs:=[(0,.tmp 1),(1,.tmp 2),(2,.tmp 3),(3,.tmp 4)]) (qs:=[(0,_),(1,_),(2,_),(3,_)]) zar (.cons ⟨rfl,(vq 0 rfl),rfl⟩ (.cons ⟨rfl,(vq 1 rfl),rfl⟩ (.cons ⟨rfl,(vq 2 rfl),rfl⟩ (.cons ⟨rfl,(vq 3 rfl),rfl⟩ .nil))))) (oc (zac rfl rfl rfl (vq 4 rfl) zb2 (Eq.trans (b:=16) rfl rfl)) o0)))))) (zz [] [⟨0,32,ptrH,_⟩] fun a w O=>?_)
 refine za0<|wp_ret<|zae ?_ (zak rfl O (zm 0 rfl) zb2)
 exact zbi
def oneQ (m:MQ)(s:Int):Bool:=(((m.b.num.sign==0)&&(m.c.num.sign==0))&&(cmQ m.a (Rat.divInt s 1)==0))&&(cmQ m.d m.a==0)
def trsQ (m:MQ):Rat:=(m.a+m.d)*(m.a+m.d)
def kiQ (m:MQ):Int:=if cmQ (trsQ m) (Rat.divInt 4 1)<0 then 1 else if oneQ m 1 then 2 else if oneQ m (-1) then 2 else if cmQ (trsQ m) (Rat.divInt 4 1)==0 then 3 else 4
def kiF (m:RM):Int × Int:=if okM m then (kiQ (toM m),0) else (0,1)
abbrev KiR (r:Int × Int):VA:=Tu [(NumA .u8 r.1).va,In r.2]
theorem ki_1 {m:MQ}(h:decide (cmQ (trsQ m) (Rat.divInt 4 1)<0)=true):kiQ m=1:=if_pos (of_decide_eq_true h)
theorem ki_2 {m:MQ}(h:decide (cmQ (trsQ m) (Rat.divInt 4 1)<0)=false)(h1:oneQ m 1=true):kiQ m=2:=by rw [kiQ,if_neg (of_decide_eq_false h),if_pos h1]
theorem ki_2n {m:MQ}(h:decide (cmQ (trsQ m) (Rat.divInt 4 1)<0)=false)(h1:oneQ m 1=false)(h2:oneQ m (-1)=true):kiQ m=2:=by rw [kiQ,if_neg (of_decide_eq_false h),if_neg (by rw [h1]; decide),if_pos h2]
theorem ki_3 {m:MQ}(h:decide (cmQ (trsQ m) (Rat.divInt 4 1)<0)=false)(h1:oneQ m 1=false)(h2:oneQ m (-1)=false)(h3:(cmQ (trsQ m) (Rat.divInt 4 1)==0)=true):kiQ m=3:=by rw [kiQ,if_neg (of_decide_eq_false h),if_neg (by rw [h1]; decide),if_neg (by rw [h2]; decide),if_pos h3]
theorem ki_4 {m:MQ}(h:decide (cmQ (trsQ m) (Rat.divInt 4 1)<0)=false)(h1:oneQ m 1=false)(h2:oneQ m (-1)=false)(h3:(cmQ (trsQ m) (Rat.divInt 4 1)==0)=false):kiQ m=4:=by rw [kiQ,if_neg (of_decide_eq_false h),if_neg (by rw [h1]; decide),if_neg (by rw [h2]; decide),if_neg (by rw [h3]; decide)]
theorem zsm {m:MQ}{s:Int}(hs : -9223372036854775808≤s)(hs1:s<9223372036854775808):Cn Tryz.prog 141 [(QMA 2048 m).va,In s] (Bo (oneQ m s)):=by
 refine Cn.intro Tryz.func141 rfl zk nq (fun B w0 a O=>?_)
 have O:=zn [(0,(QMA 2048 m).va),(1,In s)] [] O
 refine wp_seq<|zg [] [⟨2,32,ptrH,some 0,_,none⟩] [.alc 0,.val 4 _] [.g 1,.o 1] O (oc (zan rfl rfl rfl (gq 0 rfl)) (zv rfl (za1 zau) o0)) (zz [(1,_),(4,_)] [⟨2,32,ptrH,_⟩] fun a w O=>?_)
 refine zt<|zfp (anc:=[[],[0],[0,1],[0,1,2],[0,1,2,3],[0,1,2,3,4],[0,1,2,3,4,5],[0,1,2,3,4,5,6],[0,1,2,3,4,5,6,7],[0,1,2,3,4,5,6,7,8],[0,1,2,3,4,5,6,7,8,9],[0,1,2,3,4,5,6,7,8,9,10],[0,1,2,3,4,5,6,7,8,9,10,11],[0,1,2,3,4,5,6,7,8,9,10],[0,1,2,3,4,5,6,7,8,9,10,13],[0,1,2,3,4,5,6,7,8,9,10,11,12,13,14],[0,1,2,3,4,5,6,7,8,9,10,11,12,13,14,15],[0,1,2,3,4,5,6,7,8,9,10,11,12,13,14,15,16],[0,1,2,3,4,5,6,7,8,9,10,11,12,13,14,15,16,17],[0,1,2,3,4,5,6,7,8,9,10,11,12,13,14,15,16,17,18],[0,1,2,3,4,5,6,7,8,9,10,11,12,13,14,15,16,17,18,19],[0,1,2,3,4,5,6,7,8,9,10,11,12,13,14,15,16,17,18],[0,1,2,3,4,5,6,7,8,9,10,11,12,13,14,15,16,17,18,21],[0,1,2,3,4,5,6,7,8,9,10,11,12,13,14,15,16,17,18,19,20,21,22],[0,1,2,3,4,5,6,7,8,9,10,11,12,13,14,15,16,17,18,19,20,21,22,23],[0,1,2,3,4,5,6,7,8,9,10,11,12,13,14,15,16,17,18,19,20,21,22,23,24],[0,1,2,3,4,5,6,7,8,9,10,11,12,13,14,15,16,17,18,19,20,21,22,23,24,25]]) (sts:=[none]) (news:=[]) (sp:=((.adr 5 2 (.some 4) True:Sp)::(.val 6 _)::(.val 7 _)::(.val 8 _)::(.val 9 _)::(.adr 10 2 (.some 8) (_=true))::(.val 11 (Wh (_=true) _))::(.val 12 (Wh (_=true) _))::(.val 13 (Wh (_=true) _))::(.val 14 _)::(.val 15 _)::(.adr 16 2 (.some 0) (_=true))::(.val 17 (Wh (_=true) _))::(.val 18 (Wh (_=true) _))::(.val 19 (Wh (_=true) _))::(.val 20 (Wh (_=true) _))::(.val 21 (Wh (_=true) _))::(.val 22 _)::(.val 23 _)::(.adr 24 2 (.some 12) (_=true))::(.val 25 (Wh (_=true) _))::(.adr 26 2 (.some 0) (_=true))::(.val 27 (Wh (_=true) _))::(.val 28 (Wh (_=true) _))::(.val 29 (Wh (_=true) _))::(.val 30 _)::(.val 4 _)::[])) [.o 26] za6 O (oc (ob_a rfl rfl (za7 (lz0 0 rfl) zc1)) (zv rfl (za4 0 rfl zk trivial (lz0 0 rfl) (Sub.part 1 rfl rfl) zad) (zv rfl (za5 (xs:=[.tmp 6]) sign_q (.cons (vq 1 rfl) .nil)) (zv rfl (zc5 (vq 2 rfl) za3) (zv rfl (za2 (vq 3 rfl)) (oc (zce rfl rfl rfl (vq 4 rfl) nq (fun hg=>za7 (lz0 0 rfl) zbw)) (oc (zai rfl rfl rfl (vq 4 rfl) nq (fun hg=>za4 5 rfl zk hg (lz0 0 rfl) (Sub.part 2 rfl rfl) zad)) (oc (zai rfl rfl rfl (vq 4 rfl) nq (fun hg=>za5 (xs:=[.tmp 11]) sign_q (.cons (zaa (vq 6 rfl) hg) .nil))) (oc (zai rfl rfl rfl (vq 4 rfl) nq (fun hg=>zc5 (zaa (vq 7 rfl) hg) za3)) (zv rfl (zc9 (vq 4 rfl) (vq 8 rfl)) (zv rfl (za2 (vq 9 rfl)) (oc (zce rfl rfl rfl (vq 10 rfl) nq (fun hg=>za7 (lz0 0 rfl) zc2)) (oc (zai rfl rfl rfl (vq 10 rfl) nq (fun hg=>za4 11 rfl zk hg (lz0 0 rfl) (Sub.part 0 rfl rfl) zad)) (oc (zai rfl rfl rfl (vq 10 rfl) nq (fun hg=>za2 (gq 0 rfl))) (oc (zai rfl rfl rfl (vq 10 rfl) nq (fun hg=>za5 (xs:=[.tmp 18,.const (.int .i64 (1))]) (zp8 hs hs1 zd zd zd) (.cons (zaa (vq 13 rfl) hg) (.cons za3 .nil)))) (oc (zai rfl rfl rfl (vq 10 rfl) nq (fun hg=>za5 (xs:=[.tmp 17,.tmp 19]) (cmp_q zo) (.cons (zaa (vq 12 rfl) hg) (.cons (zaa (vq 14 rfl) hg) .nil)))) (oc (zai rfl rfl rfl (vq 10 rfl) nq (fun hg=>zc5 (zaa (vq 15 rfl) hg) za3)) (zv rfl (zc9 (vq 10 rfl) (vq 16 rfl)) (zv rfl (za2 (vq 17 rfl)) (oc (zce rfl rfl rfl (vq 18 rfl) nq (fun hg=>za7 (lz0 0 rfl) zc0)) (oc (zai rfl rfl rfl (vq 18 rfl) nq (fun hg=>za4 19 rfl zk hg (lz0 0 rfl) (Sub.part 3 rfl rfl) zad)) (oc (zce rfl rfl rfl (vq 18 rfl) nq (fun hg=>za7 (lz0 0 rfl) zc2)) (oc (zai rfl rfl rfl (vq 18 rfl) nq (fun hg=>za4 21 rfl zk hg (lz0 0 rfl) (Sub.part 0 rfl rfl) zad)) (oc (zai rfl rfl rfl (vq 18 rfl) nq (fun hg=>za5 (xs:=[.tmp 25,.tmp 27]) (cmp_q zo) (.cons (zaa (vq 20 rfl) hg) (.cons (zaa (vq 22 rfl) hg) .nil)))) (oc (zai rfl rfl rfl (vq 18 rfl) nq (fun hg=>zc5 (zaa (vq 23 rfl) hg) za3)) (zv rfl (zc9 (vq 18 rfl) (vq 24 rfl)) (zv rfl (za1 (vq 25 rfl)) o0))))))))))))))))))))))))))) zk zk zk zk (zz [(4,_)] [⟨2,32,ptrH,_⟩] fun a w O=>?_)
 refine za0<|wp_ret<|zae ?_ (zag rfl O (zm 0 rfl))
 exact zbi
theorem zww (m:RM):Cn Tryz.prog 80 [(RMA m).va] (KiR (kiF m)):=by
 refine Cn.intro Tryz.func80 rfl zk nq (fun B w0 a O=>?_)
 have O:=zn [(0,(RMA m).va)] [] O
 refine wp_seq<|zg [] [⟨1,32,ptrH,some 0,_,none⟩] [.alc 0,.val 2 _,.val 3 _] [.o 1,.o 2] O (oc (zan rfl rfl rfl (gq 0 rfl)) (zv rfl (za1 za3) (zv rfl (za1 za3) o0))) (zz [(2,_),(3,_)] [⟨1,32,ptrH,_⟩] fun a w O=>?_)
 refine zt<|wp_seq<|zg [none] [] [.val 7 _,.val 8 _,.val 9 _] [.g 0,.g 1,.o 2] O (zv rfl (zam (lz0 0 rfl) zb2) (zv rfl (za5 (xs:=[.tmp 7]) (zzq m) (.cons (vq 0 rfl) .nil)) (zv rfl (zep (vq 1 rfl)) o0))) (zz [(2,_),(3,_),(9,_)] [⟨1,32,ptrH,_⟩] fun a w O=>?_)
 refine za0<|za9 O (zm 2 rfl) (fun hb0=>?_) (fun hb0=>?_)
 ·rw [Bool.not_eq_true'] at hb0
  refine wp_seq<|zg [none] [] [.val 2 _,.val 3 _] [.o 0,.o 1] O (zv rfl (za1 za3) (zv rfl (za1 za3) o0)) (zz [(2,_),(3,_)] [⟨1,32,ptrH,_⟩] fun a w O=>?_)
  refine za0<|wp_ret<|zah ?_
  refine zae ?_ (zb1 (rs:=[.tmp 2,.tmp 3]) rfl O (.tmp (zm 0 rfl) (.tmp (zm 1 rfl) .nil)) zd)
  rw [kiF,if_neg (by rw [hb0]; decide)]; exact zbi
 ·rw [Bool.not_eq_false'] at hb0
  have O:=St.wkL O 0 rfl (qm_x (okM_q hb0).1)
  have ek:kiF m=(kiQ (toM m),0):=by rw [kiF,if_pos hb0]
  refine wp_skip<|zt<|zg [none] [⟨4,30,ptrH,some 5,_,some (6,_)⟩] [.adr 10 1 (.some 0) True,.val 11 _,.adr 12 1 (.some 12) True,.val 13 _,.val 14 _,.alc 1,.sto 1] [.g 0,.g 1] O (oc (ob_a rfl rfl (za7 (lz0 0 rfl) zc2)) (zv rfl (za4 0 rfl zk trivial (lz0 0 rfl) (Sub.part 0 rfl rfl) zad) (oc (ob_a rfl rfl (za7 (lz0 0 rfl) zc0)) (zv rfl (za4 2 rfl zk trivial (lz0 0 rfl) (Sub.part 3 rfl rfl) zad) (zv rfl (za5 (xs:=[.tmp 11,.tmp 13]) (zr9 zo) (.cons (vq 1 rfl) (.cons (vq 3 rfl) .nil))) (oc (zaq rfl rfl rfl (Str.zero zb3)) (oc (zac rfl rfl rfl (vq 4 rfl) zad (Eq.trans (b:=4) rfl rfl)) o0))))))) (zz [(2,_),(3,_)] [⟨1,32,ptrH,_⟩,⟨4,30,ptrH,_⟩] fun a w O=>?_)
  refine zt<|zg [none,none] [⟨5,30,ptrH,some 3,_,some (4,_)⟩] [.val 15 _,.val 16 _,.val 17 _,.alc 2,.sto 2] [.g 0,.g 1] O (zv rfl (zam (lz0 1 rfl) zad) (zv rfl (zam (lz0 1 rfl) zad) (zv rfl (za5 (xs:=[.tmp 15,.tmp 16]) (zgl zo) (.cons (vq 0 rfl) (.cons (vq 1 rfl) .nil))) (oc (zaq rfl rfl rfl (Str.zero zb3)) (oc (zac rfl rfl rfl (vq 2 rfl) zad (Eq.trans (b:=4) rfl rfl)) o0))))) (zz [(2,_),(3,_)] [⟨1,32,ptrH,_⟩,⟨4,30,ptrH,_⟩,⟨5,30,ptrH,_⟩] fun a w O=>?_)
  refine zt<|wp_seq<|zgd [[],[],[0,1],[0,1,2]] [none,none,none] [] [.val 18 _,.val 19 _,.val 20 _,.val 6 _] [.g 0,.g 1,.o 3] za6 O (zv rfl (zam (lz0 2 rfl) zad) (zv rfl (za5 (xs:=[.const (.int .i64 (4)),.const (.int .i64 (1))]) (zp8 zd zd zd zd zd) (.cons za3 (.cons za3 .nil))) (zv rfl (za5 (xs:=[.tmp 18,.tmp 19]) (cmp_q zo) (.cons (vq 0 rfl) (.cons (vq 1 rfl) .nil))) (zv rfl (za1 (vq 2 rfl)) o0)))) zk zk zk zk (zz [(2,_),(3,_),(6,_)] [⟨1,32,ptrH,_⟩,⟨4,30,ptrH,_⟩,⟨5,30,ptrH,_⟩] fun a w O=>?_)
  refine za0<|wp_block<|wp_seq<|wp_block<|wp_seq<|wp_block<|wp_block<|wp_seq<|wp_block<|wp_seq<|wp_seq<|wp_seq<|zg [none,none,none] [] [.val 22 _,.val 23 _,.val 21 _] [.g 0,.g 1,.g 2,.o 2] O (zv rfl (za2 (gq 2 rfl)) (zv rfl (zb6 (vq 0 rfl) za3) (zv rfl (za1 (vq 1 rfl)) o0))) (zz [(2,_),(3,_),(6,_),(21,_)] [⟨1,32,ptrH,_⟩,⟨4,30,ptrH,_⟩,⟨5,30,ptrH,_⟩] fun a w O=>?_)
  refine za0<|za9 O (zm 3 rfl) (fun hb1=>?_) (fun hb1=>?_)
  ·refine wp_exit<|za8<|za8<|zat<|zt<|wp_seq<|zg [none,none,none] [] [.val 2 _,.val 3 _] [.o 0,.o 1] O (zv rfl (za1 za3) (zv rfl (za1 za3) o0)) (zz [(2,_),(3,_)] [⟨1,32,ptrH,_⟩,⟨4,30,ptrH,_⟩,⟨5,30,ptrH,_⟩] fun a w O=>?_)
   refine za0<|wp_ret<|zah ?_
   refine zb7 ?_
   refine zb7 ?_
   refine zah ?_
   refine zb7 ?_
   refine zah ?_
   refine zb7 ?_
   refine zah ?_
   refine zae ?_ (zb1 (rs:=[.tmp 2,.tmp 3]) rfl O (.tmp (zm 0 rfl) (.tmp (zm 1 rfl) .nil)) zd)
   rw [ek,ki_1 (m:=toM m) hb1]; exact zbi
  ·refine wp_skip<|zt<|wp_seq<|zg [none,none,none] [] [.val 25 _,.val 26 _,.val 24 _] [.g 0,.g 1,.g 2,.o 2] O (zv rfl (zam (lz0 0 rfl) zb2) (zv rfl (za5 (xs:=[.tmp 25,.const (.int .i64 (1))]) (zsm (m:=⟨_,_,_,_⟩) zd zd) (.cons (vq 0 rfl) (.cons za3 .nil))) (zv rfl (za1 (vq 1 rfl)) o0))) (zz [(2,_),(3,_),(6,_),(24,_)] [⟨1,32,ptrH,_⟩,⟨4,30,ptrH,_⟩,⟨5,30,ptrH,_⟩] fun a w O=>?_)
   refine za0<|za9 O (zm 3 rfl) (fun hb2=>?_) (fun hb2=>?_)
   ·refine wp_exit<|za8<|za8<|blk_exit' zd ?_
    refine za8<|zat<|zal ?_
    refine zt<|wp_seq<|zg [none,none,none] [] [.val 2 _,.val 3 _] [.o 0,.o 1] O (zv rfl (za1 za3) (zv rfl (za1 za3) o0)) (zz [(2,_),(3,_)] [⟨1,32,ptrH,_⟩,⟨4,30,ptrH,_⟩,⟨5,30,ptrH,_⟩] fun a w O=>?_)
    refine za0<|wp_ret<|zah ?_
    refine zb7 ?_
    refine zah ?_
    refine zb7 ?_
    refine zah ?_
    refine zae ?_ (zb1 (rs:=[.tmp 2,.tmp 3]) rfl O (.tmp (zm 0 rfl) (.tmp (zm 1 rfl) .nil)) zd)
    rw [ek,ki_2 (m:=toM m) hb1 hb2]; exact zbi
   ·refine wp_skip<|zt<|wp_seq<|zg [none,none,none] [] [.val 28 _,.val 29 _,.val 27 _] [.g 0,.g 1,.g 2,.o 2] O (zv rfl (zam (lz0 0 rfl) zb2) (zv rfl (za5 (xs:=[.tmp 28,.const (.int .i64 (-1))]) (zsm (m:=⟨_,_,_,_⟩) zd zd) (.cons (vq 0 rfl) (.cons za3 .nil))) (zv rfl (za1 (vq 1 rfl)) o0))) (zz [(2,_),(3,_),(6,_),(27,_)] [⟨1,32,ptrH,_⟩,⟨4,30,ptrH,_⟩,⟨5,30,ptrH,_⟩] fun a w O=>?_)
    refine za0<|za9 O (zm 3 rfl) (fun hb3=>?_) (fun hb3=>?_)
    ·refine wp_exit<|za8<|za8<|blk_exit' zd ?_
     refine za8<|blk_exit' zd ?_
     refine zat<|zt<|wp_seq<|zg [none,none,none] [] [.val 2 _,.val 3 _] [.o 0,.o 1] O (zv rfl (za1 za3) (zv rfl (za1 za3) o0)) (zz [(2,_),(3,_)] [⟨1,32,ptrH,_⟩,⟨4,30,ptrH,_⟩,⟨5,30,ptrH,_⟩] fun a w O=>?_)
     refine za0<|wp_ret<|zah ?_
     refine zb7 ?_
     refine zah ?_
     refine zb7 ?_
     refine zah ?_
     refine zae ?_ (zb1 (rs:=[.tmp 2,.tmp 3]) rfl O (.tmp (zm 0 rfl) (.tmp (zm 1 rfl) .nil)) zd)
     rw [ek,ki_2n (m:=toM m) hb1 hb2 hb3]; exact zbi
    ·refine wp_skip<|zt<|zg [none,none,none] [] [.val 31 _,.val 32 _,.val 30 _] [.g 0,.g 1,.o 2] O (zv rfl (za2 (gq 2 rfl)) (zv rfl (zc5 (vq 0 rfl) za3) (zv rfl (za1 (vq 1 rfl)) o0))) (zz [(2,_),(3,_),(30,_)] [⟨1,32,ptrH,_⟩,⟨4,30,ptrH,_⟩,⟨5,30,ptrH,_⟩] fun a w O=>?_)
     refine za0<|za9 O (zm 2 rfl) (fun hb4=>?_) (fun hb4=>?_)
     ·refine wp_exit<|za8<|blk_exit' zd ?_
      refine za8<|blk_exit' zd ?_
      refine blk_exit' zd ?_
      refine za8<|zat<|zt<|wp_seq<|zg [none,none,none] [] [.val 2 _,.val 3 _] [.o 0,.o 1] O (zv rfl (za1 za3) (zv rfl (za1 za3) o0)) (zz [(2,_),(3,_)] [⟨1,32,ptrH,_⟩,⟨4,30,ptrH,_⟩,⟨5,30,ptrH,_⟩] fun a w O=>?_)
      refine za0<|wp_ret<|zah ?_
      refine zb7 ?_
      refine zah ?_
      refine zae ?_ (zb1 (rs:=[.tmp 2,.tmp 3]) rfl O (.tmp (zm 0 rfl) (.tmp (zm 1 rfl) .nil)) zd)
      rw [ek,ki_3 (m:=toM m) hb1 hb2 hb3 hb4]; exact zbi
     ·refine wp_skip<|za0<|wp_exit<|blk_exit' zd ?_
      refine za8<|blk_exit' zd ?_
      refine blk_exit' zd ?_
      refine za8<|blk_exit' zd ?_
      refine za8<|zat<|zt<|zg [none,none,none] [] [.val 2 _,.val 3 _] [.o 0,.o 1] O (zv rfl (za1 za3) (zv rfl (za1 za3) o0)) (zz [(2,_),(3,_)] [⟨1,32,ptrH,_⟩,⟨4,30,ptrH,_⟩,⟨5,30,ptrH,_⟩] fun a w O=>?_)
      refine za0<|wp_ret<|zae ?_ (zb1 (rs:=[.tmp 2,.tmp 3]) rfl O (.tmp (zm 0 rfl) (.tmp (zm 1 rfl) .nil)) zd)
      rw [ek,ki_4 (m:=toM m) hb1 hb2 hb3 hb4]; exact zbi
def mayP (p q l:RF):Bool:=[p,q,l].all okX&&decide ((toQ l).num.sign≥0)
def halfQ (p l:Rat):MQ:=⟨1 + -(p+p)*l,l,-(p+p),1⟩
def twoF (p q l:RF):RM × Int:=if mayP p q l then asM 0 (mulQ (halfQ (toQ q) (toQ l)) (halfQ (toQ p) (toQ l))) else (rm0,1)
theorem sgn_l {p q l:RF}(h:[p,q,l].all okX=true):Cn Tryz.prog 146 [(RFA l).va] (In (toQ l).num.sign):=by
 simp only [List.all_cons,List.all_nil,Bool.and_true,Bool.and_eq_true] at h
 exact sign_q.wk (.cons (qa_x h.2.2 (Nat.le_refl 2048)).va .nil)
theorem mayP_q {p q l:RF}(h:mayP p q l=true):WkA (RFA p) (QA 2048 (toQ p))∧WkA (RFA q) (QA 2048 (toQ q))∧WkA (RFA l) (QA 2048 (toQ l)):=by
 unfold mayP at h
 simp only [List.all_cons,List.all_nil,Bool.and_true,Bool.and_eq_true] at h
 exact ⟨qa_x h.1.1 (Nat.le_refl _),qa_x h.1.2.1 (Nat.le_refl _),qa_x h.1.2.2 (Nat.le_refl _)⟩
theorem as_no {c:Prop}[Decidable c](h:((if c then (4:Int) else 0) != 0)=false):¬ c:=fun hc=>by rw [if_pos hc] at h; simp at h
theorem zyh {c:Prop}[Decidable c](h:((if c then (4:Int) else 0) != 0)=true):c:=Decidable.byContradiction fun hc=>by rw [if_neg hc] at h; simp at h
theorem cavMay_c (p q l:RF):Cn Tryz.prog 134 [(RFA p).va,(RFA q).va,(RFA l).va] (Bo (mayP p q l)):=by
 refine Cn.intro Tryz.func134 rfl zk nq (fun B w0 a O=>?_)
 have O:=zn [(0,(RFA p).va),(1,(RFA q).va),(2,(RFA l).va)] [] O
 refine wp_seq<|zg [] [⟨3,30,ptrH,some 0,_,none⟩,⟨4,30,ptrH,some 1,_,none⟩,⟨5,30,ptrH,some 2,_,none⟩] [.alc 0,.alc 1,.alc 2,.val 6 _] [.o 3] O (oc (zan rfl rfl rfl (gq 0 rfl)) (oc (zan rfl rfl rfl (gq 1 rfl)) (oc (zan rfl rfl rfl (gq 2 rfl)) (zv rfl (za1 zau) o0)))) (zz [(6,_)] [⟨3,30,ptrH,_⟩,⟨4,30,ptrH,_⟩,⟨5,30,ptrH,_⟩] fun a w O=>?_)
 refine zt<|zg [none,none,none] [] [.val 7 _,.val 8 _,.val 9 _,.val 10 _,.val 11 _,.val 12 _,.val 13 (Wh (_=true) _),.val 14 (Wh (_=true) _),.val 15 (Wh (_=true) _),.val 16 _,.val 6 _] [.o 10] O (zv rfl (zam (lz0 0 rfl) zad) (zv rfl (zam (lz0 1 rfl) zad) (zv rfl (zam (lz0 2 rfl) zad) (zv rfl (zcy (D:=[U32]) (l:=[_,_,_]) (xs:=[.tmp 7,.tmp 8,.tmp 9]) (zff zk) zeo zk (n_ok zk) nq nq nq (.cons (vq 0 rfl) (.cons (vq 1 rfl) (.cons (vq 2 rfl) .nil))) rfl rfl) (zv rfl (za5 (xs:=[.tmp 10]) (zn8 [p,q,l] nq) (.cons (vq 3 rfl) .nil)) (zv rfl (za2 (vq 4 rfl)) (oc (zai rfl rfl rfl (vq 5 rfl) nq (fun hg=>zam (lz0 2 rfl) zad)) (oc (zai rfl rfl rfl (vq 5 rfl) nq (fun hg=>za5 (xs:=[.tmp 13]) (sgn_l hg) (.cons (zaa (vq 6 rfl) hg) .nil))) (oc (zai rfl rfl rfl (vq 5 rfl) nq (fun hg=>zey (zaa (vq 7 rfl) hg) za3)) (zv rfl (zc9 (vq 5 rfl) (vq 8 rfl)) (zv rfl (za1 (vq 9 rfl)) o0))))))))))) (zz [(6,_)] [⟨3,30,ptrH,_⟩,⟨4,30,ptrH,_⟩,⟨5,30,ptrH,_⟩] fun a w O=>?_)
 refine za0<|wp_ret<|zae ?_ (zag rfl O (zm 0 rfl))
 exact zbi
theorem zk6 {L:List As}(qs:List Rat)(hL:All2 IsQ L qs)(hl:qs.length≤1099511627776):Cn Tryz.prog 89 [(SlA 30 [U32] L).va] (In (if qs.any longQ then 4 else 0)):=by
 refine Cn.intro Tryz.func89 rfl zk nq (fun B w0 a O=>?_)
 have O:=zn [(0,(SlA 30 [U32] L).va)] [] O
 refine wp_seq<|zh [.val 2 _] [.g 0,.o 0] O (zv rfl (za1 za3) o0) (zz [(0,_),(2,_)] [] fun a w O=>?_)
 refine zt<|zh [.val 3 _,.val 4 _,.val 2 _] [.o 2] O (zv rfl (za2 (gq 0 rfl)) (zv rfl (za5 (xs:=[.tmp 3]) (zsq qs hL hl) (.cons (vq 0 rfl) .nil)) (zv rfl (za1 (vq 1 rfl)) o0))) (zz [(2,_)] [] fun a w O=>?_)
 refine za0<|wp_ret<|zae ?_ (zag rfl O (zm 0 rfl))
 exact zbi
theorem zqb {c:Nat}{m:MQ}(hc:c≤549755813888):Cn Tryz.prog 20 [(QMA c m).va] (MR (asM 0 m)):=by
 refine Cn.intro Tryz.func20 rfl zk nq (fun B w0 a O=>?_)
 have O:=zn [(0,(QMA c m).va)] [] O
 refine wp_seq<|zg [] [⟨1,32,ptrH,some 0,_,none⟩,⟨2,32,ptrH,some 1,_,none⟩] [.alc 0,.alc 1,.val 3 _] [.o 2] O (oc (zan rfl rfl rfl (gq 0 rfl)) (oc (zaq rfl rfl rfl (Str.zero zar)) (zv rfl (za1 za3) o0))) (zz [(3,_)] [⟨1,32,ptrH,_⟩,⟨2,32,ptrH,_⟩] fun a w O=>?_)
 refine zt<|wp_seq<|zg [none,none] [] [.adr 5 1 (.some 0) True,.val 6 _,.adr 7 1 (.some 4) True,.val 8 _,.adr 9 1 (.some 8) True,.val 10 _,.adr 11 1 (.some 12) True,.val 12 _,.val 13 _,.val 14 _,.val 4 _] [.g 0,.o 10] O (oc (ob_a rfl rfl (za7 (lz0 0 rfl) zc2)) (zv rfl (za4 0 rfl zk trivial (lz0 0 rfl) (Sub.part 0 rfl rfl) zad) (oc (ob_a rfl rfl (za7 (lz0 0 rfl) zc1)) (zv rfl (za4 2 rfl zk trivial (lz0 0 rfl) (Sub.part 1 rfl rfl) zad) (oc (ob_a rfl rfl (za7 (lz0 0 rfl) zbw)) (zv rfl (za4 4 rfl zk trivial (lz0 0 rfl) (Sub.part 2 rfl rfl) zad) (oc (ob_a rfl rfl (za7 (lz0 0 rfl) zc0)) (zv rfl (za4 6 rfl zk trivial (lz0 0 rfl) (Sub.part 3 rfl rfl) zad) (zv rfl (zcy (D:=[U32]) (l:=[_,_,_,_]) (xs:=[.tmp 6,.tmp 8,.tmp 10,.tmp 12]) (zff zk) zeo zk (n_ok zk) nq nq nq (.cons (vq 1 rfl) (.cons (vq 3 rfl) (.cons (vq 5 rfl) (.cons (vq 7 rfl) .nil)))) rfl rfl) (zv rfl (za5 (xs:=[.tmp 13]) (zk6 [m.a,m.b,m.c,m.d] (.cons ⟨_,rfl⟩ (.cons ⟨_,rfl⟩ (.cons ⟨_,rfl⟩ (.cons ⟨_,rfl⟩ .nil)))) nq) (.cons (vq 8 rfl) .nil)) (zv rfl (za1 (vq 9 rfl)) o0))))))))))) (zz [(3,_),(4,_)] [⟨1,32,ptrH,_⟩,⟨2,32,ptrH,_⟩] fun a w O=>?_)
 refine zt<|zg [none,none] [] [.val 15 _,.val 16 _] [.g 0,.g 1,.o 1] O (zv rfl (za2 (gq 1 rfl)) (zv rfl (zd9 (vq 0 rfl) za3) o0)) (zz [(3,_),(4,_),(16,_)] [⟨1,32,ptrH,_⟩,⟨2,32,ptrH,_⟩] fun a w O=>?_)
 refine za0<|za9 O (zm 2 rfl) (fun hb0=>?_) (fun hb0=>?_)
 ·have hl:=zyh hb0
  refine wp_seq<|zg [none,some (2,_)] [] [.val 17 _,.val 18 _,.sto 1,.val 3 _] [.o 3] O (zv rfl (zb8 (xs:=[]) (qs:=[]) zar .nil) (zv rfl (za2 (gq 1 rfl)) (oc (zac rfl rfl rfl (vq 0 rfl) zb2 (Eq.trans (b:=16) rfl rfl)) (zv rfl (za1 (vq 1 rfl)) o0)))) (zz [(3,_)] [⟨1,32,ptrH,_⟩,⟨2,32,ptrH,_⟩] fun a w O=>?_)
  refine za0<|wp_ret<|zah ?_
  refine zae ?_ (zb1 (rs:=[.cell 2 32,.tmp 3]) rfl O (.cell (zm 1 rfl) zb2 (.tmp (zm 0 rfl) .nil)) zd)
  have e:asM 0 m=(rm0,4):=by rw [asM,if_pos rfl,if_pos hl]
  rw [e]; exact tu2w zbi (zbt (by rw [if_pos hl]))
 ·have hl:=as_no hb0
  refine wp_skip<|zt<|zgd [[],[0],[0,1],[],[3],[0,1,2,3,4],[],[6],[0,1,2,3,4,5,6,7],[],[9],[0,1,2,3,4,5,6,7,8,9,10],[0,1,2,3,4,5,6,7,8,9,10,11],[0,1,2,3,4,5,6,7,8,9,10,11,12],[0,1,2,3,4,5,6,7,8,9,10,11,12,13]] [none,some (13,_)] [] [.adr 19 1 (.some 0) True,.val 20 _,.val 21 _,.adr 22 1 (.some 4) True,.val 23 _,.val 24 _,.adr 25 1 (.some 8) True,.val 26 _,.val 27 _,.adr 28 1 (.some 12) True,.val 29 _,.val 30 _,.val 31 _,.sto 1,.val 3 _] [.o 14] za6 O (oc (ob_a rfl rfl (za7 (lz0 0 rfl) zc2)) (zv rfl (za4 0 rfl zk trivial (lz0 0 rfl) (Sub.part 0 rfl rfl) zad) (zv rfl (za5 (xs:=[.tmp 20]) (zl9 zo) (.cons (vq 1 rfl) .nil)) (oc (ob_a rfl rfl (za7 (lz0 0 rfl) zc1)) (zv rfl (za4 3 rfl zk trivial (lz0 0 rfl) (Sub.part 1 rfl rfl) zad) (zv rfl (za5 (xs:=[.tmp 23]) (zl9 zo) (.cons (vq 4 rfl) .nil)) (oc (ob_a rfl rfl (za7 (lz0 0 rfl) zbw)) (zv rfl (za4 6 rfl zk trivial (lz0 0 rfl) (Sub.part 2 rfl rfl) zad) (zv rfl (za5 (xs:=[.tmp 26]) (zl9 zo) (.cons (vq 7 rfl) .nil)) (oc (ob_a rfl rfl (za7 (lz0 0 rfl) zc0)) (zv rfl (za4 9 rfl zk trivial (lz0 0 rfl) (Sub.part 3 rfl rfl) zad) (zv rfl (za5 (xs:=[.tmp 29]) (zl9 zo) (.cons (vq 10 rfl) .nil)) (zv rfl (zb8 (xs:=[(0,.tmp 21),(1,.tmp 24),(2,.tmp 27),(3,.tmp 30)]) (qs:=[(0,_),(1,_),(2,_),(3,_)]) zar (.cons ⟨rfl,(vq 2 rfl),rfl⟩ (.cons ⟨rfl,(vq 5 rfl),rfl⟩ (.cons ⟨rfl,(vq 8 rfl),rfl⟩ (.cons ⟨rfl,(vq 11 rfl),rfl⟩ .nil))))) (oc (zac rfl rfl rfl (vq 12 rfl) zb2 (Eq.trans (b:=16) rfl rfl)) (zv rfl (za1 za3) o0))))))))))))))) zk zk zk zk (zz [(3,_)] [⟨1,32,ptrH,_⟩,⟨2,32,ptrH,_⟩] fun a w O=>?_)
  refine za0<|wp_ret<|zae ?_ (zb1 (rs:=[.cell 2 32,.tmp 3]) rfl O (.cell (zm 1 rfl) zb2 (.tmp (zm 0 rfl) .nil)) zd)
  have e:asM 0 m=(rmOf m,0):=by rw [asM,if_pos rfl,if_neg hl]
  rw [e]; exact tu2w qmA.va zbi
theorem zor {p l:Rat}:Cn Tryz.prog 135 [Qs 2048 p,Qs 2048 l] ((QMA 6148 (halfQ p l)).va):=by
 refine Cn.intro Tryz.func135 rfl zk nq (fun B w0 a O=>?_)
 have O:=zn [(0,Qs 2048 p),(1,Qs 2048 l)] [] O
 refine wp_seq<|zg [] [⟨2,30,ptrH,some 0,_,none⟩,⟨3,30,ptrH,some 1,_,none⟩,⟨4,32,ptrH,some 2,_,none⟩] [.alc 0,.alc 1,.alc 2] [] O (oc (zan rfl rfl rfl (gq 0 rfl)) (oc (zan rfl rfl rfl (gq 1 rfl)) (oc (zaq rfl rfl rfl (Str.zero zar)) o0))) (zz [] [⟨2,30,ptrH,_⟩,⟨3,30,ptrH,_⟩,⟨4,32,ptrH,_⟩] fun a w O=>?_)
 refine zt<|zg [none,none,none] [⟨5,30,ptrH,some 4,_,some (5,_)⟩] [.val 6 _,.val 7 _,.val 8 _,.val 9 _,.alc 3,.sto 3] [] O (zv rfl (zam (lz0 0 rfl) zad) (zv rfl (zam (lz0 0 rfl) zad) (zv rfl (za5 (xs:=[.tmp 6,.tmp 7]) (zr9 zo) (.cons (vq 0 rfl) (.cons (vq 1 rfl) .nil))) (zv rfl (za5 (xs:=[.tmp 8]) (zyw zo) (.cons (vq 2 rfl) .nil)) (oc (zaq rfl rfl rfl (Str.zero zb3)) (oc (zac rfl rfl rfl (vq 3 rfl) zad (Eq.trans (b:=4) rfl rfl)) o0)))))) (zz [] [⟨2,30,ptrH,_⟩,⟨3,30,ptrH,_⟩,⟨4,32,ptrH,_⟩,⟨5,30,ptrH,_⟩] fun a w O=>?_)
 refine zt<|zgd [[],[],[],[0,1,2],[0,1,2,3],[],[],[0,1,2,3,4],[0,1,2,3,4,5,6,7],[0,1,2,3,4,5,6,7,8]] [none,none,some (9,_),none] [] [.val 10 _,.val 11 _,.val 12 _,.val 13 _,.val 14 _,.val 15 _,.val 16 _,.val 17 _,.val 18 _,.sto 2] [] za6 O (zv rfl (za5 (xs:=[]) zw8 .nil) (zv rfl (zam (lz0 3 rfl) zad) (zv rfl (zam (lz0 1 rfl) zad) (zv rfl (za5 (xs:=[.tmp 11,.tmp 12]) (zgl zo) (.cons (vq 1 rfl) (.cons (vq 2 rfl) .nil))) (zv rfl (za5 (xs:=[.tmp 10,.tmp 13]) (zr9 zo) (.cons (vq 0 rfl) (.cons (vq 3 rfl) .nil))) (zv rfl (zam (lz0 1 rfl) zad) (zv rfl (zam (lz0 3 rfl) zad) (zv rfl (za5 (xs:=[]) zw8 .nil) (zv rfl (zb8 (xs:=[(0,.tmp 14),(1,.tmp 15),(2,.tmp 16),(3,.tmp 17)]) (qs:=[(0,_),(1,_),(2,_),(3,_)]) zar (.cons ⟨rfl,(vq 4 rfl),rfl⟩ (.cons ⟨rfl,(vq 5 rfl),rfl⟩ (.cons ⟨rfl,(vq 6 rfl),rfl⟩ (.cons ⟨rfl,(vq 7 rfl),rfl⟩ .nil))))) (oc (zac rfl rfl rfl (vq 8 rfl) zb2 (Eq.trans (b:=16) rfl rfl)) o0)))))))))) zk zk zk zk (zz [] [⟨2,30,ptrH,_⟩,⟨3,30,ptrH,_⟩,⟨4,32,ptrH,_⟩,⟨5,30,ptrH,_⟩] fun a w O=>?_)
 refine za0<|wp_ret<|zae ?_ (zak rfl O (zm 2 rfl) zb2)
 exact (zc8 (.cons (zbg zd) (.cons (zbg zd) (.cons (zbg zd) (.cons (zbg zd) .nil))))).va
theorem two_c (p q l:RF):Cn Tryz.prog 79 [(RFA p).va,(RFA q).va,(RFA l).va] (MR (twoF p q l)):=by
 refine Cn.intro Tryz.func79 rfl zk nq (fun B w0 a O=>?_)
 have O:=zn [(0,(RFA p).va),(1,(RFA q).va),(2,(RFA l).va)] [] O
 refine wp_seq<|zg [] [⟨3,30,ptrH,some 0,_,none⟩,⟨4,30,ptrH,some 1,_,none⟩,⟨5,30,ptrH,some 2,_,none⟩,⟨6,32,ptrH,some 3,_,none⟩] [.alc 0,.alc 1,.alc 2,.alc 3,.val 7 _] [.o 4] O (oc (zan rfl rfl rfl (gq 0 rfl)) (oc (zan rfl rfl rfl (gq 1 rfl)) (oc (zan rfl rfl rfl (gq 2 rfl)) (oc (zaq rfl rfl rfl (Str.zero zar)) (zv rfl (za1 za3) o0))))) (zz [(7,_)] [⟨3,30,ptrH,_⟩,⟨4,30,ptrH,_⟩,⟨5,30,ptrH,_⟩,⟨6,32,ptrH,_⟩] fun a w O=>?_)
 refine zt<|wp_seq<|zg [none,none,none,none] [] [.val 8 _,.val 9 _,.val 10 _,.val 11 _,.val 12 _] [.g 0,.o 4] O (zv rfl (zam (lz0 0 rfl) zad) (zv rfl (zam (lz0 1 rfl) zad) (zv rfl (zam (lz0 2 rfl) zad) (zv rfl (za5 (xs:=[.tmp 8,.tmp 9,.tmp 10]) (cavMay_c p q l) (.cons (vq 0 rfl) (.cons (vq 1 rfl) (.cons (vq 2 rfl) .nil)))) (zv rfl (zep (vq 3 rfl)) o0))))) (zz [(7,_),(12,_)] [⟨3,30,ptrH,_⟩,⟨4,30,ptrH,_⟩,⟨5,30,ptrH,_⟩,⟨6,32,ptrH,_⟩] fun a w O=>?_)
 refine za0<|za9 O (zm 1 rfl) (fun hb0=>?_) (fun hb0=>?_)
 ·rw [Bool.not_eq_true'] at hb0
  refine wp_seq<|zg [none,none,none,some (1,_)] [] [.val 13 _,.sto 3,.val 7 _] [.o 2] O (zv rfl (zb8 (xs:=[]) (qs:=[]) zar .nil) (oc (zac rfl rfl rfl (vq 0 rfl) zb2 (Eq.trans (b:=16) rfl rfl)) (zv rfl (za1 za3) o0))) (zz [(7,_)] [⟨3,30,ptrH,_⟩,⟨4,30,ptrH,_⟩,⟨5,30,ptrH,_⟩,⟨6,32,ptrH,_⟩] fun a w O=>?_)
  refine za0<|wp_ret<|zah ?_
  refine zae ?_ (zb1 (rs:=[.cell 6 32,.tmp 7]) rfl O (.cell (zm 3 rfl) zb2 (.tmp (zm 0 rfl) .nil)) zd)
  rw [twoF,if_neg (by rw [hb0]; decide)]; exact zbi
 ·rw [Bool.not_eq_false'] at hb0
  obtain ⟨h1,h2,h3⟩:=mayP_q hb0
  have O:=St.wkL O 0 rfl h1
  have O:=St.wkL O 1 rfl h2
  have O:=St.wkL O 2 rfl h3
  refine wp_skip<|zt<|zgd [[],[],[0,1],[],[],[0,1,2,3,4],[0,1,2,3,4,5],[0,1,2,3,4,5,6],[0,1,2,3,4,5,6,7],[0,1,2,3,4,5,6,7],[0,1,2,3,4,5,6,7,8,9],[0,1,2,3,4,5,6,7,8,9,10]] [none,none,none,some (10,_)] [] [.val 14 _,.val 15 _,.val 16 _,.val 17 _,.val 18 _,.val 19 _,.val 20 _,.val 21 _,.val 22 _,.val 23 _,.sto 3,.val 7 _] [.o 11] za6 O (zv rfl (zam (lz0 1 rfl) zad) (zv rfl (zam (lz0 2 rfl) zad) (zv rfl (za5 (xs:=[.tmp 14,.tmp 15]) zor (.cons (vq 0 rfl) (.cons (vq 1 rfl) .nil))) (zv rfl (zam (lz0 0 rfl) zad) (zv rfl (zam (lz0 2 rfl) zad) (zv rfl (za5 (xs:=[.tmp 17,.tmp 18]) zor (.cons (vq 3 rfl) (.cons (vq 4 rfl) .nil))) (zv rfl (za5 (xs:=[.tmp 16,.tmp 19]) (zhm (m:=⟨_,_,_,_⟩) (q:=⟨_,_,_,_⟩) zo) (.cons (vq 2 rfl) (.cons (vq 5 rfl) .nil))) (zv rfl (za5 (xs:=[.tmp 20]) (zqb (m:=⟨_,_,_,_⟩) zd) (.cons (vq 6 rfl) .nil)) (zv rfl (zfe (vq 7 rfl)) (zv rfl (zfd (vq 7 rfl)) (oc (zac rfl rfl rfl (vq 8 rfl) zb2 (Eq.trans (b:=16) rfl rfl)) (zv rfl (za1 (vq 9 rfl)) o0)))))))))))) zk zk zk zk (zz [(7,_)] [⟨3,30,ptrH,_⟩,⟨4,30,ptrH,_⟩,⟨5,30,ptrH,_⟩,⟨6,32,ptrH,_⟩] fun a w O=>?_)
  refine za0<|wp_ret<|zae ?_ (zb1 (rs:=[.cell 6 32,.tmp 7]) rfl O (.cell (zm 3 rfl) zb2 (.tmp (zm 0 rfl) .nil)) zd)
  rw [twoF,if_pos hb0]; exact zbi
end Go.Proofs.YtndjeibbjjpkfaaGreatDoor
