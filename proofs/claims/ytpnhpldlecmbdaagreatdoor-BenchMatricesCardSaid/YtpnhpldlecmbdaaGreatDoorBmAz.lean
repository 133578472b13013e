import Derived.Test.YtpnhpldlecmbdaaGreatDoorBmAa
import Derived.Test.YtpnhpldlecmbdaaGreatDoorBmAc
import Derived.Test.YtpnhpldlecmbdaaGreatDoorBmAo
import Derived.Test.YtpnhpldlecmbdaaGreatDoorBmAu
import Derived.Test.YtpnhpldlecmbdaaGreatDoorBmAx
import Derived.Test.YtpnhpldlecmbdaaGreatDoorBmAy
import Derived.ProofKit
import Derived.OpenShut
import Derived.ChangeOld
import Derived.Below
set_option linter.unusedVariables false
set_option linter.unusedSimpArgs false
set_option linter.unusedSectionVars false
set_option maxRecDepth 100000
namespace Go.Proofs.YtpnhpldlecmbdaaGreatDoor
open Go Go.RowKit
def AllG (a:Act)(w:World):List (Nat × VA)→Prop
 | []=>True
 | x::l=>x.2.p w.heap.size (a.eval (.tmp x.1)) w∧AllG a w l
theorem AllG.mem {a:Act}{w:World}:∀ {l:List (Nat × VA)},AllG a w l→∀ x∈l,x.2.p w.heap.size (a.eval (.tmp x.1)) w
 | y::l,h,x,hx=>by
  rcases List.mem_cons.1 hx with rfl | hx
  ·exact h.1
  ·exact AllG.mem h.2 x hx
section
variable {P:Program} {B N:Nat} {w0:Bs} {Γ:List (Nat × VA)} {Λ:List Lc} {a:Act} {w:World}
theorem St.bw (h:St B w0 N Γ Λ a w):B≤w.heap.size:=Nat.le_trans (h.lo _ (.inl (Nat.le_refl _))) h.base.size
end
section
variable {P:Program} {Q:Exit→Act→World→Prop} {B N:Nat} {w0:Bs} {Γ:List (Nat × VA)} {Λ:List Lc} {a:Act} {w:World} {ops:Array Oper}
theorem go_first {id m:Nat}(hsz:ops.size=m+1)(h:wpOp P ops Q 0 (wpOps P ops Q (List.range' 1 m)) a w):(Code.region id ops false).wp P Q a w:=by
 refine wp_region ?_
 rw [List.range_eq_range',hsz,List.range'_succ,wpOps_cons]
 exact h
theorem go_restM {sp:List Sp}{d0 m:Nat}{A0:VA}(src:List Src)(h:St B w0 N ((d0,A0)::Γ) Λ a w)(h0:sp[0]?=some (.v d0 A0))(hsz:ops.size=m+1)
  (hob:Obs P Q ⟨ops,N,Γ,les0 Λ,sp,fun i=>List.range i⟩ B w0 1 m) (hk:Rg.chk ⟨ops,N,Γ,les0 Λ,sp,fun i=>List.range i⟩=true) (hsrc:src.all (okS ⟨ops,N,Γ,les0 Λ,sp,fun i=>List.range i⟩)=true)
  (hQ:∀ a w,St B w0 N (src.filterMap (takeS ⟨ops,N,Γ,les0 Λ,sp,fun i=>List.range i⟩)) Λ a w→Q .normal a w):wpOps P ops Q (List.range' 1 m) a w:=by
 have e:m=ops.size-1:=by omega
 subst e
 exact go_rest src h h0 zo hob hk hsrc hQ
end
theorem zjx {B:Nat}{w1:Bs}{Ts:List TypeId}(hB:B=w1.w.heap.size):∀ E,Ts.contains E=true→RowMay w1 B E:=fun E _ w g c fz _ h _=>.inl (hB▸h)
def ZBk:List As:=[NumA .i64 0,EqS (.slice none 0 0),EqS (.slice none 0 0),EqS (.slice none 0 0),EqS (.slice none 0 0),EqS (.slice none 0 0),EqS (.slice none 0 0),EqS (.slice none 0 0),EqS (.slice none 0 0),EqS (.slice none 0 0),EqS (.slice none 0 0),EqS (.slice none 0 0),EqS (.slice none 0 0),EqS (.slice none 0 0),EqS (.slice none 0 0),EqS (.slice none 0 0),EqS (.slice none 0 0)]
theorem zzr:Str Tryz.prog 63 ZBk :=
 Str.of (z:=.agg ([Value.int .i64 0]++List.replicate 16 (Value.slice none 0 0)).toArray) zk Tryz.underlying63 zk fun B w=>⟨[Value.int .i64 0]::List.replicate 16 [Value.slice none 0 0],rfl,.cons rfl (.cons ⟨rfl,rfl⟩ (.cons ⟨rfl,rfl⟩ (.cons ⟨rfl,rfl⟩ (.cons ⟨rfl,rfl⟩ (.cons ⟨rfl,rfl⟩ (.cons ⟨rfl,rfl⟩ (.cons ⟨rfl,rfl⟩ (.cons ⟨rfl,rfl⟩ (.cons ⟨rfl,rfl⟩ (.cons ⟨rfl,rfl⟩ (.cons ⟨rfl,rfl⟩ (.cons ⟨rfl,rfl⟩ (.cons ⟨rfl,rfl⟩ (.cons ⟨rfl,rfl⟩ (.cons ⟨rfl,rfl⟩ (.cons ⟨rfl,rfl⟩ .nil))))))))))))))))⟩
section
open Rg
variable {P:Program} {Q:Exit→Act→World→Prop} {R:Rg} {B i:Nat} {w0:Bs}
end
section
variable {P:Program} {R:Rg} {Q:Exit→Act→World→Prop} {B i:Nat} {w0:Bs}
end
end Go.Proofs.YtpnhpldlecmbdaaGreatDoor
namespace Go.Proofs.YtpnhpldlecmbdaaGreatDoor
open Go Go.RowKit
def RMN (x:RM):As:=cat [RFN x.a,RFN x.b,RFN x.c,RFN x.d]
def RMD (x:RM):As:=DisA (RMN x)
theorem zmg {x:RF}:NewA (RFN x):=zfc fun A hA=>by
 simp at hA
 rcases hA with rfl | rfl <;> exact zx5 _
theorem zx4 {x:RM}:NewA (RMD x):=znd (zfc fun A hA=>by
 simp at hA
 rcases hA with rfl | rfl | rfl | rfl <;> exact zmg)
theorem zge {x:RF}:FreeA (RFN x) (RFN x):=zd5 (.cons (zh2 _) (.cons (zh2 _) .nil))
theorem zsf {x:RM}:FreeA (RMD x) (RMD x):=zjg (zd5 (.cons zge (.cons zge (.cons zge (.cons zge .nil)))))
theorem zrh {k:Nat}{q:Rat}:WkA (QD k q) (RFN (rfOf q)):=qd_rfd.trans dis_wk
theorem twn_mgn {l:List Nat}:WkA (TwN l) (MgN l):=⟨rfl,rfl,fun B cs w ⟨ok,g,e,h1,h2,h3⟩=>⟨ok,.inr ⟨g,[7777],by rw [e]; simp,by simpa using h2,h1,h3⟩⟩⟩
theorem rit_rin {x:RI}:WkA (RIT x) (RIN x):=zby (.cons (.refl _) (.cons twn_mgn .nil))
theorem zw5 {x:RF}:WkA (RFT x) (RFN x):=zby (.cons rit_rin (.cons rit_rin .nil))
theorem kbl_app {l m:KL}:kbl (l++m)=kbl l++kbl m:=List.filterMap_append ..
theorem rin_ok {x:RI}{B:Nat}{cs:List Value}{w:World}(h:(RIN x).p B cs w):okL x.mag:=by
 obtain ⟨ps,rfl,hp⟩:=h
 cases hp with
 | cons h1 hp=>cases hp with
  | cons h2 hp=>exact h2.1
abbrev OkK (l:KL):Prop:=∀ p∈l,okL p.2
theorem zfb {l m:KL}(h:OkK l)(k:OkK m):OkK (l++m):=fun p hp=>by
 rcases List.mem_append.1 hp with hp | hp
 ·exact h p hp
 ·exact k p hp
abbrev LnK (l:KL):Prop:=∀ p∈l,p.2.length≤2000000000000
theorem zfg {l m:KL}(h:LnK l)(k:LnK m):LnK (l++m):=fun p hp=>by
 rcases List.mem_append.1 hp with hp | hp
 ·exact h p hp
 ·exact k p hp
theorem okK_f {x:RF}{m1 m2:Value}(h1:okL x.num.mag)(h2:okL x.den.mag):OkK (kf x m1 m2):=fun p hp=>by
 simp only [List.mem_cons,List.not_mem_nil,or_false] at hp
 rcases hp with rfl | rfl
 ·exact h1
 ·exact h2
theorem zu1 {x:RF}{m1 m2:Value}(h:bdF x):LnK (kf x m1 m2):=fun p hp=>by
 simp only [List.mem_cons,List.not_mem_nil,or_false] at hp
 rcases hp with rfl | rfl
 ·exact Nat.le_trans h.1 zd
 ·exact Nat.le_trans h.2 zd
theorem okK_len {l:KL}(h:OkK l)(k:LnK l):∀ p∈l,okL p.2∧p.2.length≤2000000000000:=fun p hp=>⟨h p hp,k p hp⟩
theorem zed {x:RF}{B:Nat}{cs:List Value}{w:World}(h:(RFN x).p B cs w):∃ m1 m2,(FracP x m1 m2).p B cs w∧cbl cs=kbl (kf x m1 m2)∧OkK (kf x m1 m2):=by
 obtain ⟨ps,rfl,hp⟩:=h
 cases hp with
 | @cons _ c1 _ _ h1 hp=>cases hp with
  | @cons _ c2 _ _ h2 hp =>
   cases hp
   obtain ⟨m1,p1,e1⟩:=zop h1
   obtain ⟨m2,p2,e2⟩:=zop h2
   refine ⟨m1,m2,⟨[c1,c2],rfl,.cons p1 (.cons p2 .nil)⟩,?_,okK_f (rin_ok h1) (rin_ok h2)⟩
   have:([c1,c2]:List (List Value)).flatten=c1++c2:=by simp
   rw [this,zdc,e1,e2]
   exact kbl_app.symm
def nm4 (a b c d:Value):Nat→Value
 | 0=>a
 | 1=>b
 | 2=>c
 | _=>d
def nm8 (a b c d e f g h:Value):Nat→Value
 | 0=>a
 | 1=>b
 | 2=>c
 | 3=>d
 | 4=>e
 | 5=>f
 | 6=>g
 | _=>h
theorem zoh {x:RM}{B:Nat}{cs:List Value}{w:World}(h:(RMN x).p B cs w):∃ m:Nat→Value,(MatP x m).p B cs w∧cbl cs=kbl (km x m)∧OkK (km x m):=by
 obtain ⟨ps,rfl,hp⟩:=h
 cases hp with
 | @cons _ c1 _ _ h1 hp=>cases hp with
  | @cons _ c2 _ _ h2 hp=>cases hp with
   | @cons _ c3 _ _ h3 hp=>cases hp with
    | @cons _ c4 _ _ h4 hp =>
     cases hp
     obtain ⟨m1,m2,p1,e1,o1⟩:=zed h1
     obtain ⟨m3,m4,p2,e2,o2⟩:=zed h2
     obtain ⟨m5,m6,p3,e3,o3⟩:=zed h3
     obtain ⟨m7,m8,p4,e4,o4⟩:=zed h4
     refine ⟨nm8 m1 m2 m3 m4 m5 m6 m7 m8,⟨[c1,c2,c3,c4],rfl,.cons p1 (.cons p2 (.cons p3 (.cons p4 .nil)))⟩,?_,zfb (zfb (zfb o1 o2) o3) o4⟩
     have:([c1,c2,c3,c4]:List (List Value)).flatten=((c1++c2)++c3)++c4:=by simp
     rw [this,zdc,zdc,zdc,e1,e2,e3,e4]
     show _=kbl (((kf x.a m1 m2++kf x.b m3 m4)++kf x.c m5 m6)++kf x.d m7 m8)
     rw [kbl_app,kbl_app,kbl_app]
theorem okK_nil:OkK []:=fun p h=>by cases h
theorem lnK_nil:LnK []:=fun p h=>by cases h
abbrev bdM (x:RM):Prop:=bdF x.a∧bdF x.b∧bdF x.c∧bdF x.d
theorem lnK_m {x:RM}{m:Nat→Value}(h:bdM x):LnK (km x m):=zfg (zfg (zfg (zu1 h.1) (zu1 h.2.1)) (zu1 h.2.2.1)) (zu1 h.2.2.2)
theorem zfo:bdF rf0:=⟨Nat.zero_le _,Nat.zero_le _⟩
theorem bd_of {q:Rat}(h:¬ longQ q=true):bdF (rfOf q):=by
 have h':longQ q=false:=by cases hq:longQ q with
  | true=>exact absurd hq h
  | false=>rfl
 unfold longQ at h'
 simp only [List.any_cons,List.any_nil,Bool.or_false,Bool.or_eq_false_iff] at h'
 have h1:=of_decide_eq_false h'.1
 have h2:=of_decide_eq_false h'.2
 refine ⟨?_,?_⟩
 ·show (riOf q.num).mag.length≤_
  omega
 ·show (riOf (q.den:Int)).mag.length≤_
  omega
theorem bd_as (m:MQ):bdM (asM 0 m).1:=by
 unfold asM
 split
 ·split
  ·exact ⟨zfo,zfo,zfo,zfo⟩
  ·rename_i h; exact ⟨bd_of fun e=>h (by simp [e]),bd_of fun e=>h (by simp [e]),bd_of fun e=>h (by simp [e]),bd_of fun e=>h (by simp [e])⟩
 ·rename_i h; exact absurd rfl h
end Go.Proofs.YtpnhpldlecmbdaaGreatDoor
namespace Go.Proofs.YtpnhpldlecmbdaaGreatDoor
open Go Go.RowKit
def p4 (m:MQ)(j:Nat):Rat:=[m.a,m.b,m.c,m.d].getD j 0
def mulQ (m q:MQ):MQ:=⟨m.a*q.a+m.b*q.c,m.a*q.b+m.b*q.d,m.c*q.a+m.d*q.c,m.c*q.b+m.d*q.d⟩
end Go.Proofs.YtpnhpldlecmbdaaGreatDoor
namespace Go.Proofs.YtpnhpldlecmbdaaGreatDoor
open Go Go.RowKit
end Go.Proofs.YtpnhpldlecmbdaaGreatDoor
namespace Go.Proofs.YtpnhpldlecmbdaaGreatDoor
open Go Go.RowKit
theorem Cm.introK {P : Program} {f : FuncId} {fn : Func} {c : Code} {T : TypeId} {A0 A1 : As} {H : Hd} {pre : List Ar} {post : VA} (p : Nat) (hf : P.funcs[f]? = some fn) (hb : fn.body = some c) (hn : (fn.name == "runtime.NumGoroutine") = false) (hsz : pre.length ≤ fn.ntmps)
  (hm:∀ g,(p,EqV (H.f g))∈argΓ (pre.map (Ar.va g)))
  (h:∀ (B g:Nat) (w0:Bs) (a:Act),St B w0 fn.ntmps (argΓ (pre.map (Ar.va g))) [⟨p,T,H,A0⟩] a w0.w→c.wp P (bPost P fn (RQm B w0 g T A1 post)) a w0.w):Cm P f T A0 A1 pre post:=by
 refine ⟨⟨fn,hf,hn,by rw [hb]; rfl⟩,fun B w g cs args hB hg hp ha=>(zcv hf hb (h B g ⟨w,fun k=>k=g,false⟩ _ ?_)).mono fun _ _ ⟨v,cs',he,hv,hk,h1,h2⟩=>⟨v,cs',he,hv,hk,h1,h2⟩⟩
 have hl:=ha.length
 have hgw:=(Array.getElem?_eq_some_iff.1 hg).1
 have ha':All2 (fun (A:VA) v=>A.p B v w) (pre.map (Ar.va g)) args:=by
  clear hl hm h hsz
  induction ha with
  | nil=>exact .nil
  | @cons x y xs ys h1 _ ih =>
   refine .cons ?_ ih
   cases x with
   | v A=>exact h1
   | w H=>exact h1
 have h0:(⟨args.toArray++Array.replicate (fn.ntmps-args.toArray.size) undef,[]⟩:Act).eval (.tmp p)=H.f g :=
  All2.args (N:=fn.ntmps-args.toArray.size) ha' (p,EqV (H.f g)) (hm g)
 refine ⟨fun k hk=>?_,DefOk.nil rfl,?_,Kept.refl _,All2.args ha',fun l hl=>?_,fun l hl m hm hne=>?_⟩
 ·rcases hk with hk | hk
  ·exact Nat.le_trans hB (Nat.le_trans (Nat.le_of_lt hgw) hk)
  ·have:k=g:=hk
   omega
 ·simp only [Array.size_append,List.size_toArray,Array.size_replicate]
  omega
 ·simp at hl
  subst hl
  exact ⟨g,cs,h0,.inr rfl,hg,hp⟩
 ·simp at hl hm
  subst hl hm
  exact absurd rfl hne
theorem zii {P:Program}{fn:Func}{B N g p:Nat}{w0:Bs}{Γ:List (Nat × VA)}{Λ:List Lc}{a:Act}{w:World}{T:TypeId}{H:Hd}{A1:As}{post:VA}(h:St B w0 N Γ Λ a w)(hm:(p,EqV (H.f g))∈Γ)(hl:(⟨p,T,H,A1⟩:Lc)∈Λ)
  (hb:bPost P fn (RQ B w0 post) .ret a w):bPost P fn (RQm B w0 g T A1 post) .ret a w:=by
 refine zkh h hb fun v w h ⟨v',e1,e2,e3⟩=>?_
 obtain ⟨g',cs,f1,_,f3,f4⟩:=h.locs _ hl
 replace f1:a.eval (.tmp p)=H.f g':=f1
 have f0:a.eval (.tmp p)=H.f g:=h.vals _ hm
 have:g'=g:=Rg.Hd.inj (H:=H) (H':=H) (by rw [← f1,← f0])
 subst this
 exact ⟨v',cs,e1,e2,e3,f3,f4⟩
theorem sub_self {A:As}:Sub A 0 A:=fun B cs w h=>by
 have hl:=A.len B cs w h
 refine ⟨?_,by omega⟩
 rw [List.drop_zero,List.take_of_length_le zo]
 exact h
end Go.Proofs.YtpnhpldlecmbdaaGreatDoor
namespace Go.Proofs.YtpnhpldlecmbdaaGreatDoor
open Go Go.RowKit
def bQ (k:Nat)(r:Rat):Prop:=lz r.num≤k∧lz (r.den:Int)≤k
theorem bQ_mul {c d:Nat}{x y:Rat}(hx:bQ c x)(hy:bQ d y):bQ (c+d) (x*y):=by
 obtain ⟨x1,x2⟩:=hx
 obtain ⟨y1,y2⟩:=hy
 rw [← zpr]
 obtain ⟨h1,h2⟩:=zi6 (p:=x.num*y.num) (q:=(x.den:Int)*(y.den:Int)) (den_nz x y)
 have h4:=zgq x.num y.num
 have h6:=zgq x.den y.den
 exact ⟨by omega,by omega⟩
end Go.Proofs.YtpnhpldlecmbdaaGreatDoor
namespace Go.Proofs.YtpnhpldlecmbdaaGreatDoor
open Go Go.RowKit
theorem nd_eq (x:Rat):x=(x.num:Rat)/((x.den:Int):Rat):=by rw [← Rat.divInt_eq_div]; exact (Rat.num_divInt_den x).symm
theorem den_ne (x:Rat):((x.den:Int):Rat)≠0:=by
 have:=x.den_nz
 intro h
 exact this (by exact_mod_cast h)
end Go.Proofs.YtpnhpldlecmbdaaGreatDoor
namespace Go.Proofs.YtpnhpldlecmbdaaGreatDoor
open Go Go.RowKit
section
variable {P:Program} {R:Rg} {Q:Exit→Act→World→Prop} {B i:Nat} {w0:Bs}
end
end Go.Proofs.YtpnhpldlecmbdaaGreatDoor
namespace Go.Proofs.YtpnhpldlecmbdaaGreatDoor
open Go Go.RowKit
end Go.Proofs.YtpnhpldlecmbdaaGreatDoor
namespace Go.Proofs.YtpnhpldlecmbdaaGreatDoor
open Go Go.RowKit
theorem zh9  : Cn Tryz.prog 87 [] ((QMA 2 ⟨1,0,0,1⟩).va):=by
 refine Cn.intro Tryz.func87 rfl zk nq (fun B w0 a O=>?_)
 have O:=zn [] [] O
 refine wp_seq<|zg [] [⟨0,37,ptrH,some 0,_,none⟩] [.alc 0] [] O (oc (zam rfl rfl rfl (Str.zero zar)) o0) (zz [] [⟨0,37,ptrH,_⟩] fun a w O=>?_)
 refine zt<|zg [some (5,_)] [] [.v 1 _,.v 2 _,.v 3 _,.v 4 _,.v 5 _,.sto 0] [] O (zv rfl (za5 (xs:=[]) one_q .nil) (zv rfl (za5 (xs:=[]) zj2 .nil) (zv rfl (za5 (xs:=[]) zj2 .nil) (zv rfl (za5 (xs:=[]) one_q .nil) (zv rfl (zbf (xs:=[(0,.tmp 1),(1,.tmp 2),(2,.tmp 3),(3,.tmp 4)]) (qs:=[(0,_),(1,_),(2,_),(3,_)]) zar (.cons ⟨rfl,(vq 0 rfl),rfl⟩ (.cons ⟨rfl,(vq 1 rfl),rfl⟩ (.cons ⟨rfl,(vq 2 rfl),rfl⟩ (.cons ⟨rfl,(vq 3 rfl),rfl⟩ .nil))))) (oc (zaa rfl rfl rfl (vq 4 rfl) zb1 (Eq.trans (b:=16) rfl rfl)) o0)))))) (zz [] [⟨0,37,ptrH,_⟩] fun a w O=>?_)
 refine za0<|wp_ret<|zag ?_ (zaf rfl O (zm 0 rfl) zb1)
 exact zbh
end Go.Proofs.YtpnhpldlecmbdaaGreatDoor
namespace Go.Proofs.YtpnhpldlecmbdaaGreatDoor
open Go Go.RowKit
def EqA (v:Value):As where
 n:=1
 ag:=false
 p _ cs _:=cs=[v]∧v.oneCell'=true
 deps:=[]
 len:=by rintro B cs w ⟨rfl,_⟩; rfl
 one:=by rintro B cs w ⟨rfl,h⟩ c hc; simp at hc; subst hc; exact h
 ag1:=fun _=>rfl
 cg:=fun _ _ _ _ _ h=>h
 wr:=fun _ _ _ _ _ _ _ _ _ _ _ _ h=>h
theorem va_eqA {v:Value}(h:v.oneCell'=true){B:Nat}{w:World}:(EqA v).va.p B v w:=⟨[v],⟨rfl,h⟩,rfl⟩
theorem eqA_va {v u:Value}{B:Nat}{w:World}(h:(EqA v).va.p B u w):u=v:=by
 obtain ⟨cs,⟨rfl,_⟩,h2⟩:=h
 exact h2
theorem St.nm {B N:Nat}{w0:Bs}{Γ:List (Nat × VA)}{Λ:List Lc}{a:Act}{w:World}(h:St B w0 N Γ Λ a w){s T:Nat}{A:As}(k:Nat)(hm:Λ[k]?=some ⟨s,T,ptrH,A⟩):∃ g,St B w0 N ((s,EqV (ptr g))::Γ) Λ a w:=by
 obtain ⟨g,cs,e,_⟩:=h.locs _ (List.mem_of_getElem? hm)
 refine ⟨g,h.lo,h.defers,h.size,h.base,fun x hx=>?_,h.locs,h.dis⟩
 rcases List.mem_cons.1 hx with rfl | hx
 ·exact e
 ·exact h.vals x hx
section
variable {P:Program} {R:Rg} {Q:Exit→Act→World→Prop} {B i:Nat} {w0:Bs}
theorem zyg {xs:List Operand}{vs:List Value}(hx:HasL R B w0 i xs (vs.map EqV)){a:Act}{w:World}(av:R.Av B w0 i a w):xs.map a.eval=vs:=by
 induction vs generalizing xs with
 | nil=>cases hx; rfl
 | cons v vs ih =>
  cases hx with
  | cons h1 h2 =>
   rw [List.map_cons,ih h2]
   have:_=v:=h1 a w av
   rw [this]
theorem zcf {f:FuncId}{xs:List Operand}{vs:List Value}(hx:HasL R B w0 i xs (vs.map EqV)):Wv P Q R B w0 i (.makeFunc (.func f) #[] xs.toArray) (EqA (.func (.func f) #[] vs.toArray)).va :=
 zbs fun _ _ _ _ _ a w av=>by
  have e:=zyg hx av
  refine ⟨.func (.func f) #[] vs.toArray,w,?_,Grow.refl w,va_eqA rfl⟩
  simp [execOp,Instr.makeFunc,e]
theorem zeu {f:FuncId}:Has R B w0 i (.func f) (EqA (.func (.func f) #[] #[])).va:=fun _ _ _=>va_eqA rfl
theorem zer {d s e c:Nat}{T:TypeId}{H:Hd}{cr:Option Nat}{A0 A1:As}{A:VA}{f:FuncId}{xs:List Operand}{vs:List Value}{pre:List Ar}{at_:Array TypeId}{ty:TypeId}{ps:String}{af:Array Edge}
  (hs:R.sp[i]?=some (.cal d A e)) (he:R.les[e]?=some ⟨s,T,H,cr,A0,some (i,A1)⟩) (ho:R.ops[i]?=some ⟨some d,.call ⟨.value (.tmp c),#[],at_⟩,ty,ps,af,none⟩)
  (hc:Cm P f T A0 A1 pre A) (hv:Has R B w0 i (.tmp c) (EqA (.func (.func f) #[] vs.toArray)).va) (hvs:HasL R B w0 i xs (vs.map EqV)) (hx:All2 (ArH R B w0 i s H) pre xs):R.Ob P Q B w0 i:=by
 unfold Rg.Ob
 simp only [hs,he]
 intro a w av g cs h1 hB h3 h4 _ K hK
 obtain ⟨⟨fn,hf,hn,hb2⟩,hcall⟩:=hc
 have ev:a.eval (.tmp c)=.func (.func f) #[] vs.toArray:=eqA_va (hv a w av)
 have evs:=zyg hvs av
 have hrun:(execOp a.eval ⟨some d,.call ⟨.value (.tmp c),#[],at_⟩,ty,ps,af,none⟩).run P w=.ok (.enter f (xs.map a.eval).toArray) w:=by
  simp only [execOp,resolve,ev,Deferred.ofValue,Sem.run_bind,Sem.run_pure,Result.andThen_ok,invoke,zbx hf hn hb2,evs]
  simp
 refine zc1 ho rfl ?_
 unfold Oper.wp
 rw [hrun]
 refine (hcall B w g cs _ hB h3 h4 ?_).mono fun e w' ⟨v,cs',he,hv,hg,h5,h6⟩=>by subst he; exact hK v cs' w' hg h5 h6 hv
 clear hcall hrun ho hs he hvs evs
 induction hx with
 | nil=>exact .nil
 | @cons x y _ _ h _ ih =>
  refine .cons ?_ ih
  cases x with
  | v A=>exact h a w av
  | w H' =>
   obtain ⟨rfl,h2⟩:=h
   exact (h2 a w av).trans h1
end
structure RE where
 k:Int
 p:RF
 q:RF
 deriving DecidableEq
def REA (x:RE):As:=cat [NumA .u8 x.k,RFA x.p,RFA x.q]
def QEA (c:Nat)(k:Int)(p q:Rat):As:=cat [NumA .u8 k,QA c p,QA c q]
abbrev NfA:As:=EqA .nilFunc
theorem zf8:Str Tryz.prog 30 [NumA .u8 0,RFA rf0,RFA rf0] :=
 Str.of (z:=.agg #[.int .u8 0,.bool false,.slice none 0 0,.bool false,.slice none 0 0,.bool false,.slice none 0 0,.bool false,.slice none 0 0]) zk Tryz.underlying30 zk fun B w=>⟨[[.int .u8 0],[.bool false,.slice none 0 0,.bool false,.slice none 0 0],[.bool false,.slice none 0 0,.bool false,.slice none 0 0]],rfl,.cons rfl (.cons (zpp B w) (.cons (zpp B w) .nil))⟩
theorem zcw:Arr Tryz.prog 88 [NfA,NfA,NfA,NfA,NfA,NfA]:=by
 have hz:((Tryz.prog.info? 88).bind (·.zero))=some (.agg #[.nilFunc,.nilFunc,.nilFunc,.nilFunc,.nilFunc,.nilFunc]):=by kernel_rfl
 obtain ⟨it,e1,e2⟩:=Option.bind_eq_some_iff.1 hz
 have h:(Tryz.prog.info? 1).map (·.size)=some 1:=by kernel_rfl
 obtain ⟨ie,h1,h2⟩:∃ ie,Tryz.prog.info? 1=some ie∧ie.size=1:=by
  cases hi:Tryz.prog.info? 1 with
  | none=>rw [hi] at h; simp at h
  | some ie=>rw [hi] at h; exact ⟨ie,rfl,by simpa using h⟩
 refine ⟨it,_,6,1,ie,e1,e2,Tryz.underlying88,h1,?_,fun B w=>⟨[[.nilFunc],[.nilFunc],[.nilFunc],[.nilFunc],[.nilFunc],[.nilFunc]],rfl,(.cons ⟨rfl,rfl⟩ (.cons ⟨rfl,rfl⟩ (.cons ⟨rfl,rfl⟩ (.cons ⟨rfl,rfl⟩ (.cons ⟨rfl,rfl⟩ (.cons ⟨rfl,rfl⟩ .nil))))))⟩⟩
 rw [h2]
 intro f hf
 match f,hf with
 | 0,_=>rfl
 | 1,_=>rfl
 | 2,_=>rfl
 | 3,_=>rfl
 | 4,_=>rfl
 | 5,_=>rfl
theorem zdw {c:Nat}{x:Rat}(hc:c≤137438953472):Cn Tryz.prog 96 [Qs c x] (Qs (2+c+1) (0-x)):=by
 refine Cn.intro Tryz.func96 rfl zk nq (fun B w0 a O=>?_)
 have O:=zn [(0,Qs c x)] [] O
 refine wp_seq<|zg [] [⟨1,28,ptrH,some 0,_,none⟩,⟨2,28,ptrH,some 1,_,none⟩] [.alc 0,.alc 1] [] O (oc (zal rfl rfl rfl (gq 0 rfl)) (oc (zam rfl rfl rfl (Str.zero zb7)) o0)) (zz [] [⟨1,28,ptrH,_⟩,⟨2,28,ptrH,_⟩] fun a w O=>?_)
 refine zt<|zgd [[],[],[0,1],[0,1,2]] [none,some (3,_)] [] [.v 3 _,.v 4 _,.v 5 _,.sto 1] [] za6 O (zv rfl (za5 (xs:=[]) zj2 .nil) (zv rfl (zaq (lz0 0 rfl) zap) (zv rfl (za5 (xs:=[.tmp 3,.tmp 4]) (minus_q zo) (.cons (vq 0 rfl) (.cons (vq 1 rfl) .nil))) (oc (zaa rfl rfl rfl (vq 2 rfl) zap (Eq.trans (b:=4) rfl rfl)) o0)))) zk zk zk zk (zz [] [⟨1,28,ptrH,_⟩,⟨2,28,ptrH,_⟩] fun a w O=>?_)
 refine za0<|wp_ret<|zag ?_ (zaf rfl O (zm 1 rfl) zap)
 exact zbh
theorem zny {c:Nat}{m:MQ}(hc:c≤137438953472):Cn Tryz.prog 102 [(QMA c m).va] ((QMA (2+c+1) ⟨0-m.a,0-m.b,0-m.c,0-m.d⟩).va):=by
 refine Cn.intro Tryz.func102 rfl zk nq (fun B w0 a O=>?_)
 have O:=zn [(0,(QMA c m).va)] [] O
 refine wp_seq<|zg [] [⟨1,37,ptrH,some 0,_,none⟩,⟨2,37,ptrH,some 1,_,none⟩] [.alc 0,.alc 1] [] O (oc (zal rfl rfl rfl (gq 0 rfl)) (oc (zam rfl rfl rfl (Str.zero zar)) o0)) (zz [] [⟨1,37,ptrH,_⟩,⟨2,37,ptrH,_⟩] fun a w O=>?_)
 refine zt<|zgd [[],[0],[0,1],[],[3],[0,1,2,3,4],[],[6],[0,1,2,3,4,5,6,7],[],[9],[0,1,2,3,4,5,6,7,8,9,10],[0,1,2,3,4,5,6,7,8,9,10,11],[0,1,2,3,4,5,6,7,8,9,10,11,12]] [none,some (13,_)] [] [.adr 3 1 (.some 0) True,.v 4 _,.v 5 _,.adr 6 1 (.some 4) True,.v 7 _,.v 8 _,.adr 9 1 (.some 8) True,.v 10 _,.v 11 _,.adr 12 1 (.some 12) True,.v 13 _,.v 14 _,.v 15 _,.sto 1] [] za6 O (oc (ob_a rfl rfl (za7 (lz0 0 rfl) zcp)) (zv rfl (za4 0 rfl zk trivial (lz0 0 rfl) (Sub.part 0 rfl rfl) zap) (zv rfl (za5 (xs:=[.tmp 4]) (zdw zo) (.cons (vq 1 rfl) .nil)) (oc (ob_a rfl rfl (za7 (lz0 0 rfl) zcc)) (zv rfl (za4 3 rfl zk trivial (lz0 0 rfl) (Sub.part 1 rfl rfl) zap) (zv rfl (za5 (xs:=[.tmp 7]) (zdw zo) (.cons (vq 4 rfl) .nil)) (oc (ob_a rfl rfl (za7 (lz0 0 rfl) zcb)) (zv rfl (za4 6 rfl zk trivial (lz0 0 rfl) (Sub.part 2 rfl rfl) zap) (zv rfl (za5 (xs:=[.tmp 10]) (zdw zo) (.cons (vq 7 rfl) .nil)) (oc (ob_a rfl rfl (za7 (lz0 0 rfl) zco)) (zv rfl (za4 9 rfl zk trivial (lz0 0 rfl) (Sub.part 3 rfl rfl) zap) (zv rfl (za5 (xs:=[.tmp 13]) (zdw zo) (.cons (vq 10 rfl) .nil)) (zv rfl (zbf (xs:=[(0,.tmp 5),(1,.tmp 8),(2,.tmp 11),(3,.tmp 14)]) (qs:=[(0,_),(1,_),(2,_),(3,_)]) zar (.cons ⟨rfl,(vq 2 rfl),rfl⟩ (.cons ⟨rfl,(vq 5 rfl),rfl⟩ (.cons ⟨rfl,(vq 8 rfl),rfl⟩ (.cons ⟨rfl,(vq 11 rfl),rfl⟩ .nil))))) (oc (zaa rfl rfl rfl (vq 12 rfl) zb1 (Eq.trans (b:=16) rfl rfl)) o0)))))))))))))) zk zk zk zk (zz [] [⟨1,37,ptrH,_⟩,⟨2,37,ptrH,_⟩] fun a w O=>?_)
 refine za0<|wp_ret<|zag ?_ (zaf rfl O (zm 1 rfl) zb1)
 exact zbh
theorem rowOf2_c {p q:Rat}{kd:Int}  : Cm Tryz.prog 93 37 (QMA 2 ⟨1,0,0,1⟩) (cat [QA 2 1,QA 2048 p,QA 2 0,QA 2 1]) [.v ((ElP 30 (QEA 2048 kd p q))),.w (ptrH)] (Tu []):=by
 refine Cm.introK 1 Tryz.func93 rfl zk nq (fun g=>zm 1 rfl) (fun B g w0 a O=>?_)
 have O:=zn [(0,(ElP 30 (QEA 2048 kd p q))),(1,EqV ((ptrH).f g))] [⟨1,37,ptrH,QMA 2 ⟨1,0,0,1⟩⟩] O
 refine zg [some (4,_)] [] [.v 2 _,.v 3 _,.v 4 _,.adr 5 1 (.some 4) True,.sto 0] [.g 1] O (zv rfl (zat (gq 0 rfl) zc5 (Sub.part 1 rfl rfl)) (zv rfl (zae (vq 0 rfl) zap) (zv rfl (za5 (xs:=[.tmp 3]) (copy_q zo) (.cons (vq 1 rfl) .nil)) (oc (ob_a rfl rfl (za7 (lz0 0 rfl) zcc)) (oc (zfw 3 rfl rfl rfl rfl zk (vq 2 rfl) zap (Put.part 1 rfl rfl rfl)) o0))))) (zz [(1,_)] [⟨1,37,ptrH,_⟩] fun a w O=>?_)
 refine zch<|zii O (zm 0 rfl) (zm 0 rfl) ?_
 refine zag ?_ (zb2 (rs:=[]) rfl O .nil zd)
 exact zbh
theorem rowOf3_c {p q:Rat}{kd:Int}  : Cm Tryz.prog 95 37 (QMA 2 ⟨1,0,0,1⟩) (cat [QA 2 1,QA 2 0,QA 2051 (0-p),QA 2 1]) [.v ((ElP 30 (QEA 2048 kd p q))),.w (ptrH)] (Tu []):=by
 refine Cm.introK 1 Tryz.func95 rfl zk nq (fun g=>zm 1 rfl) (fun B g w0 a O=>?_)
 have O:=zn [(0,(ElP 30 (QEA 2048 kd p q))),(1,EqV ((ptrH).f g))] [⟨1,37,ptrH,QMA 2 ⟨1,0,0,1⟩⟩] O
 refine zg [some (4,_)] [] [.v 2 _,.v 3 _,.v 4 _,.adr 5 1 (.some 8) True,.sto 0] [.g 1] O (zv rfl (zat (gq 0 rfl) zc5 (Sub.part 1 rfl rfl)) (zv rfl (zae (vq 0 rfl) zap) (zv rfl (za5 (xs:=[.tmp 3]) (zdw zo) (.cons (vq 1 rfl) .nil)) (oc (ob_a rfl rfl (za7 (lz0 0 rfl) zcb)) (oc (zfw 3 rfl rfl rfl rfl zk (vq 2 rfl) zap (Put.part 2 rfl rfl rfl)) o0))))) (zz [(1,_)] [⟨1,37,ptrH,_⟩] fun a w O=>?_)
 refine zch<|zii O (zm 0 rfl) (zm 0 rfl) ?_
 refine zag ?_ (zb2 (rs:=[]) rfl O .nil zd)
 exact zbh
theorem rowOf4_c {p q:Rat}{kd:Int}(h0:q≠0):Cm Tryz.prog 97 37 (QMA 2 ⟨1,0,0,1⟩) (cat [QA 2 1,QA 4096 (p/q),QA 2 0,QA 2 1]) [.v ((ElP 30 (QEA 2048 kd p q))),.w (ptrH)] (Tu []):=by
 refine Cm.introK 1 Tryz.func97 rfl zk nq (fun g=>zm 1 rfl) (fun B g w0 a O=>?_)
 have O:=zn [(0,(ElP 30 (QEA 2048 kd p q))),(1,EqV ((ptrH).f g))] [⟨1,37,ptrH,QMA 2 ⟨1,0,0,1⟩⟩] O
 refine zg [some (6,_)] [] [.v 2 _,.v 3 _,.v 4 _,.v 5 _,.v 6 _,.adr 7 1 (.some 4) True,.sto 0] [.g 1] O (zv rfl (zat (gq 0 rfl) zc5 (Sub.part 1 rfl rfl)) (zv rfl (zae (vq 0 rfl) zap) (zv rfl (zat (gq 0 rfl) zci (Sub.part 2 rfl rfl)) (zv rfl (zae (vq 2 rfl) zap) (zv rfl (za5 (xs:=[.tmp 3,.tmp 5]) (over_q zd h0) (.cons (vq 1 rfl) (.cons (vq 3 rfl) .nil))) (oc (ob_a rfl rfl (za7 (lz0 0 rfl) zcc)) (oc (zfw 5 rfl rfl rfl rfl zk (vq 4 rfl) zap (Put.part 1 rfl rfl rfl)) o0))))))) (zz [(1,_)] [⟨1,37,ptrH,_⟩] fun a w O=>?_)
 refine zch<|zii O (zm 0 rfl) (zm 0 rfl) ?_
 refine zag ?_ (zb2 (rs:=[]) rfl O .nil zd)
 exact zbh
theorem rowOf5_c {p q:Rat}{kd:Int}  : Cm Tryz.prog 99 37 (QMA 2 ⟨1,0,0,1⟩) (cat [QA 2 1,QA 2 0,QA 4099 (0-p*q),QA 2 1]) [.v ((ElP 30 (QEA 2048 kd p q))),.w (ptrH)] (Tu []):=by
 refine Cm.introK 1 Tryz.func99 rfl zk nq (fun g=>zm 1 rfl) (fun B g w0 a O=>?_)
 have O:=zn [(0,(ElP 30 (QEA 2048 kd p q))),(1,EqV ((ptrH).f g))] [⟨1,37,ptrH,QMA 2 ⟨1,0,0,1⟩⟩] O
 refine zg [some (7,_)] [] [.v 2 _,.v 3 _,.v 4 _,.v 5 _,.v 6 _,.v 7 _,.adr 8 1 (.some 8) True,.sto 0] [.g 1] O (zv rfl (zat (gq 0 rfl) zc5 (Sub.part 1 rfl rfl)) (zv rfl (zae (vq 0 rfl) zap) (zv rfl (zat (gq 0 rfl) zci (Sub.part 2 rfl rfl)) (zv rfl (zae (vq 2 rfl) zap) (zv rfl (za5 (xs:=[.tmp 3,.tmp 5]) (zls zo) (.cons (vq 1 rfl) (.cons (vq 3 rfl) .nil))) (zv rfl (za5 (xs:=[.tmp 6]) (zdw zo) (.cons (vq 4 rfl) .nil)) (oc (ob_a rfl rfl (za7 (lz0 0 rfl) zcb)) (oc (zfw 6 rfl rfl rfl rfl zk (vq 5 rfl) zap (Put.part 2 rfl rfl rfl)) o0)))))))) (zz [(1,_)] [⟨1,37,ptrH,_⟩] fun a w O=>?_)
 refine zch<|zii O (zm 0 rfl) (zm 0 rfl) ?_
 refine zag ?_ (zb2 (rs:=[]) rfl O .nil zd)
 exact zbh
theorem rowOf6_c  : Cm Tryz.prog 101 37 (QMA 2 ⟨1,0,0,1⟩) (QMA 5 ⟨0-1,0-0,0-0,0-1⟩) [.w (ptrH),] (Tu []):=by
 refine Cm.intro Tryz.func101 rfl zk nq (fun B g w0 a O=>?_)
 have O:=zn [(0,EqV ((ptrH).f g)),] [⟨0,37,ptrH,QMA 2 ⟨1,0,0,1⟩⟩] O
 refine zg [some (2,_)] [] [.v 1 _,.v 2 _,.sto 0] [.g 0] O (zv rfl (zaq (lz0 0 rfl) zb1) (zv rfl (za5 (xs:=[.tmp 1]) (zny (m:=⟨_,_,_,_⟩) zo) (.cons (vq 0 rfl) .nil)) (oc (zaa rfl rfl rfl (vq 1 rfl) zb1 (Eq.trans (b:=16) rfl rfl)) o0))) (zz [(0,_)] [⟨0,37,ptrH,_⟩] fun a w O=>?_)
 refine zch<|zfu O (zm 0 rfl) (zm 0 rfl) ?_
 refine zag ?_ (zb2 (rs:=[]) rfl O .nil zd)
 exact zbh
theorem rowOfK1 {p q:Rat}  : Cn Tryz.prog 27 [(QEA 2048 ((1:Nat):Int) p q).va] ((QMA 4099 ⟨1,p,0,1⟩).va):=by
 refine Cn.intro Tryz.func27 rfl zk nq (fun B w0 a O=>?_)
 have O:=zn [(0,(QEA 2048 ((1:Nat):Int) p q).va)] [] O
 refine wp_seq<|zg [] [⟨1,30,ptrH,some 0,_,none⟩,⟨2,37,ptrH,some 1,_,none⟩] [.alc 0,.alc 1] [] O (oc (zal rfl rfl rfl (gq 0 rfl)) (oc (zam rfl rfl rfl (Str.zero zar)) o0)) (zz [] [⟨1,30,ptrH,_⟩,⟨2,37,ptrH,_⟩] fun a w O=>?_)
 refine zt<|zg [none,none] [⟨3,37,ptrH,some 1,_,some (2,_)⟩] [.v 5 _,.alc 2,.sto 2] [] O (zv rfl (za5 (xs:=[]) zh9 .nil) (oc (zam rfl rfl rfl (Str.zero zar)) (oc (zaa rfl rfl rfl (vq 0 rfl) zb1 (Eq.trans (b:=16) rfl rfl)) o0))) (zz [] [⟨1,30,ptrH,_⟩,⟨2,37,ptrH,_⟩,⟨3,37,ptrH,_⟩] fun a w O=>?_)
 refine zt ?_
 obtain ⟨q1,O⟩:=St.nm O 0 rfl
 obtain ⟨q3,O⟩:=St.nm O 2 rfl
 refine zg [none,none,none] [⟨4,88,ptrH,some 6,_,some (7,_)⟩] [.v 6 _,.v 7 _,.v 8 _,.v 9 _,.v 10 _,.v 11 _,.alc 3,.sto 3] [.g 0,.g 1] O (zv rfl (zcf (xs:=[.tmp 1,.tmp 3]) (vs:=[ptr q1,ptr q3]) (.cons (gq 1 rfl) (.cons (gq 0 rfl) .nil))) (zv rfl (zcf (xs:=[.tmp 1,.tmp 3]) (vs:=[ptr q1,ptr q3]) (.cons (gq 1 rfl) (.cons (gq 0 rfl) .nil))) (zv rfl (zcf (xs:=[.tmp 1,.tmp 3]) (vs:=[ptr q1,ptr q3]) (.cons (gq 1 rfl) (.cons (gq 0 rfl) .nil))) (zv rfl (zcf (xs:=[.tmp 1,.tmp 3]) (vs:=[ptr q1,ptr q3]) (.cons (gq 1 rfl) (.cons (gq 0 rfl) .nil))) (zv rfl (zcf (xs:=[.tmp 3]) (vs:=[ptr q3]) (.cons (gq 0 rfl) .nil)) (zv rfl (ze1 (xs:=[(0,.func 92),(1,.tmp 6),(2,.tmp 7),(3,.tmp 8),(4,.tmp 9),(5,.tmp 10)]) (qs:=[(0,_),(1,_),(2,_),(3,_),(4,_),(5,_)]) zcw (.cons ⟨rfl,zeu,rfl⟩ (.cons ⟨rfl,(vq 0 rfl),rfl⟩ (.cons ⟨rfl,(vq 1 rfl),rfl⟩ (.cons ⟨rfl,(vq 2 rfl),rfl⟩ (.cons ⟨rfl,(vq 3 rfl),rfl⟩ (.cons ⟨rfl,(vq 4 rfl),rfl⟩ .nil))))))) (oc (zam rfl rfl rfl (Arr.zero zcw)) (oc (zaa rfl rfl rfl (vq 5 rfl) zkn (Eq.trans (b:=6) rfl rfl)) o0)))))))) (zz [(3,_),(1,_)] [⟨1,30,ptrH,_⟩,⟨2,37,ptrH,_⟩,⟨3,37,ptrH,_⟩,⟨4,88,ptrH,_⟩] fun a w O=>?_)
 refine zt<|zg [none,none,some (4,_),none] [] [.adr 12 1 (.some 0) True,.v 13 _,.v 14 _,.v 15 _,.cal 16 _ 2] [.g 0,.g 1] O (oc (ob_a rfl rfl (za7 (lz0 0 rfl) zcj)) (zv rfl (za4 0 rfl zk trivial (lz0 0 rfl) (Sub.part 0 rfl rfl) zf6) (zv rfl (zgo (m:=1) (lz0 3 rfl) Tryz.underlying88 zk (n_ok zk) (vq 1 rfl) rfl) (zv rfl (zae (vq 2 rfl) ty_1) (oc (zer (xs:=[.tmp 1,.tmp 3]) (vs:=[ptr q1,ptr q3]) rfl rfl rfl rowOf2_c (vq 3 rfl) (.cons (gq 1 rfl) (.cons (gq 0 rfl) .nil)) (.cons (zb9 (lz0 0 rfl)) (.cons arw .nil))) o0))))) (zz [(3,_),(1,_)] [⟨1,30,ptrH,_⟩,⟨2,37,ptrH,_⟩,⟨3,37,ptrH,_⟩,⟨4,88,ptrH,_⟩] fun a w O=>?_)
 refine zt<|zg [none,some (1,_),none,none] [] [.v 17 _,.sto 1] [.g 0,.g 1] O (zv rfl (zaq (lz0 2 rfl) zb1) (oc (zaa rfl rfl rfl (vq 0 rfl) zb1 (Eq.trans (b:=16) rfl rfl)) o0)) (zz [(3,_),(1,_)] [⟨1,30,ptrH,_⟩,⟨2,37,ptrH,_⟩,⟨3,37,ptrH,_⟩,⟨4,88,ptrH,_⟩] fun a w O=>?_)
 refine za0<|wp_ret<|zag ?_ (zaf rfl O (zm 1 rfl) zb1)
 exact (zby (.cons (zbw zd) (.cons (zbw zd) (.cons (zbw zd) (.cons (zbw zd) .nil))))).va
theorem rowOfK2 {p q:Rat}  : Cn Tryz.prog 27 [(QEA 2048 ((2:Nat):Int) p q).va] ((QMA 4099 ⟨1,0,0-p,1⟩).va):=by
 refine Cn.intro Tryz.func27 rfl zk nq (fun B w0 a O=>?_)
 have O:=zn [(0,(QEA 2048 ((2:Nat):Int) p q).va)] [] O
 refine wp_seq<|zg [] [⟨1,30,ptrH,some 0,_,none⟩,⟨2,37,ptrH,some 1,_,none⟩] [.alc 0,.alc 1] [] O (oc (zal rfl rfl rfl (gq 0 rfl)) (oc (zam rfl rfl rfl (Str.zero zar)) o0)) (zz [] [⟨1,30,ptrH,_⟩,⟨2,37,ptrH,_⟩] fun a w O=>?_)
 refine zt<|zg [none,none] [⟨3,37,ptrH,some 1,_,some (2,_)⟩] [.v 5 _,.alc 2,.sto 2] [] O (zv rfl (za5 (xs:=[]) zh9 .nil) (oc (zam rfl rfl rfl (Str.zero zar)) (oc (zaa rfl rfl rfl (vq 0 rfl) zb1 (Eq.trans (b:=16) rfl rfl)) o0))) (zz [] [⟨1,30,ptrH,_⟩,⟨2,37,ptrH,_⟩,⟨3,37,ptrH,_⟩] fun a w O=>?_)
 refine zt ?_
 obtain ⟨q1,O⟩:=St.nm O 0 rfl
 obtain ⟨q3,O⟩:=St.nm O 2 rfl
 refine zg [none,none,none] [⟨4,88,ptrH,some 6,_,some (7,_)⟩] [.v 6 _,.v 7 _,.v 8 _,.v 9 _,.v 10 _,.v 11 _,.alc 3,.sto 3] [.g 0,.g 1] O (zv rfl (zcf (xs:=[.tmp 1,.tmp 3]) (vs:=[ptr q1,ptr q3]) (.cons (gq 1 rfl) (.cons (gq 0 rfl) .nil))) (zv rfl (zcf (xs:=[.tmp 1,.tmp 3]) (vs:=[ptr q1,ptr q3]) (.cons (gq 1 rfl) (.cons (gq 0 rfl) .nil))) (zv rfl (zcf (xs:=[.tmp 1,.tmp 3]) (vs:=[ptr q1,ptr q3]) (.cons (gq 1 rfl) (.cons (gq 0 rfl) .nil))) (zv rfl (zcf (xs:=[.tmp 1,.tmp 3]) (vs:=[ptr q1,ptr q3]) (.cons (gq 1 rfl) (.cons (gq 0 rfl) .nil))) (zv rfl (zcf (xs:=[.tmp 3]) (vs:=[ptr q3]) (.cons (gq 0 rfl) .nil)) (zv rfl (ze1 (xs:=[(0,.func 92),(1,.tmp 6),(2,.tmp 7),(3,.tmp 8),(4,.tmp 9),(5,.tmp 10)]) (qs:=[(0,_),(1,_),(2,_),(3,_),(4,_),(5,_)]) zcw (.cons ⟨rfl,zeu,rfl⟩ (.cons ⟨rfl,(vq 0 rfl),rfl⟩ (.cons ⟨rfl,(vq 1 rfl),rfl⟩ (.cons ⟨rfl,(vq 2 rfl),rfl⟩ (.cons ⟨rfl,(vq 3 rfl),rfl⟩ (.cons ⟨rfl,(vq 4 rfl),rfl⟩ .nil))))))) (oc (zam rfl rfl rfl (Arr.zero zcw)) (oc (zaa rfl rfl rfl (vq 5 rfl) zkn (Eq.trans (b:=6) rfl rfl)) o0)))))))) (zz [(3,_),(1,_)] [⟨1,30,ptrH,_⟩,⟨2,37,ptrH,_⟩,⟨3,37,ptrH,_⟩,⟨4,88,ptrH,_⟩] fun a w O=>?_)
 refine zt<|zg [none,none,some (4,_),none] [] [.adr 12 1 (.some 0) True,.v 13 _,.v 14 _,.v 15 _,.cal 16 _ 2] [.g 0,.g 1] O (oc (ob_a rfl rfl (za7 (lz0 0 rfl) zcj)) (zv rfl (za4 0 rfl zk trivial (lz0 0 rfl) (Sub.part 0 rfl rfl) zf6) (zv rfl (zgo (m:=1) (lz0 3 rfl) Tryz.underlying88 zk (n_ok zk) (vq 1 rfl) rfl) (zv rfl (zae (vq 2 rfl) ty_1) (oc (zer (xs:=[.tmp 1,.tmp 3]) (vs:=[ptr q1,ptr q3]) rfl rfl rfl rowOf3_c (vq 3 rfl) (.cons (gq 1 rfl) (.cons (gq 0 rfl) .nil)) (.cons (zb9 (lz0 0 rfl)) (.cons arw .nil))) o0))))) (zz [(3,_),(1,_)] [⟨1,30,ptrH,_⟩,⟨2,37,ptrH,_⟩,⟨3,37,ptrH,_⟩,⟨4,88,ptrH,_⟩] fun a w O=>?_)
 refine zt<|zg [none,some (1,_),none,none] [] [.v 17 _,.sto 1] [.g 0,.g 1] O (zv rfl (zaq (lz0 2 rfl) zb1) (oc (zaa rfl rfl rfl (vq 0 rfl) zb1 (Eq.trans (b:=16) rfl rfl)) o0)) (zz [(3,_),(1,_)] [⟨1,30,ptrH,_⟩,⟨2,37,ptrH,_⟩,⟨3,37,ptrH,_⟩,⟨4,88,ptrH,_⟩] fun a w O=>?_)
 refine za0<|wp_ret<|zag ?_ (zaf rfl O (zm 1 rfl) zb1)
 exact (zby (.cons (zbw zd) (.cons (zbw zd) (.cons (zbw zd) (.cons (zbw zd) .nil))))).va
theorem rowOfK3 {p q:Rat}(h0:q≠0):Cn Tryz.prog 27 [(QEA 2048 ((3:Nat):Int) p q).va] ((QMA 4099 ⟨1,p/q,0,1⟩).va):=by
 refine Cn.intro Tryz.func27 rfl zk nq (fun B w0 a O=>?_)
 have O:=zn [(0,(QEA 2048 ((3:Nat):Int) p q).va)] [] O
 refine wp_seq<|zg [] [⟨1,30,ptrH,some 0,_,none⟩,⟨2,37,ptrH,some 1,_,none⟩] [.alc 0,.alc 1] [] O (oc (zal rfl rfl rfl (gq 0 rfl)) (oc (zam rfl rfl rfl (Str.zero zar)) o0)) (zz [] [⟨1,30,ptrH,_⟩,⟨2,37,ptrH,_⟩] fun a w O=>?_)
 refine zt<|zg [none,none] [⟨3,37,ptrH,some 1,_,some (2,_)⟩] [.v 5 _,.alc 2,.sto 2] [] O (zv rfl (za5 (xs:=[]) zh9 .nil) (oc (zam rfl rfl rfl (Str.zero zar)) (oc (zaa rfl rfl rfl (vq 0 rfl) zb1 (Eq.trans (b:=16) rfl rfl)) o0))) (zz [] [⟨1,30,ptrH,_⟩,⟨2,37,ptrH,_⟩,⟨3,37,ptrH,_⟩] fun a w O=>?_)
 refine zt ?_
 obtain ⟨q1,O⟩:=St.nm O 0 rfl
 obtain ⟨q3,O⟩:=St.nm O 2 rfl
 refine zg [none,none,none] [⟨4,88,ptrH,some 6,_,some (7,_)⟩] [.v 6 _,.v 7 _,.v 8 _,.v 9 _,.v 10 _,.v 11 _,.alc 3,.sto 3] [.g 0,.g 1] O (zv rfl (zcf (xs:=[.tmp 1,.tmp 3]) (vs:=[ptr q1,ptr q3]) (.cons (gq 1 rfl) (.cons (gq 0 rfl) .nil))) (zv rfl (zcf (xs:=[.tmp 1,.tmp 3]) (vs:=[ptr q1,ptr q3]) (.cons (gq 1 rfl) (.cons (gq 0 rfl) .nil))) (zv rfl (zcf (xs:=[.tmp 1,.tmp 3]) (vs:=[ptr q1,ptr q3]) (.cons (gq 1 rfl) (.cons (gq 0 rfl) .nil))) (zv rfl (zcf (xs:=[.tmp 1,.tmp 3]) (vs:=[ptr q1,ptr q3]) (.cons (gq 1 rfl) (.cons (gq 0 rfl) .nil))) (zv rfl (zcf (xs:=[.tmp 3]) (vs:=[ptr q3]) (.cons (gq 0 rfl) .nil)) (zv rfl (ze1 (xs:=[(0,.func 92),(1,.tmp 6),(2,.tmp 7),(3,.tmp 8),(4,.tmp 9),(5,.tmp 10)]) (qs:=[(0,_),(1,_),(2,_),(3,_),(4,_),(5,_)]) zcw (.cons ⟨rfl,zeu,rfl⟩ (.cons ⟨rfl,(vq 0 rfl),rfl⟩ (.cons ⟨rfl,(vq 1 rfl),rfl⟩ (.cons ⟨rfl,(vq 2 rfl),rfl⟩ (.cons ⟨rfl,(vq 3 rfl),rfl⟩ (.cons ⟨rfl,(vq 4 rfl),rfl⟩ .nil))))))) (oc (zam rfl rfl rfl (Arr.zero zcw)) (oc (zaa rfl rfl rfl (vq 5 rfl) zkn (Eq.trans (b:=6) rfl rfl)) o0)))))))) (zz [(3,_),(1,_)] [⟨1,30,ptrH,_⟩,⟨2,37,ptrH,_⟩,⟨3,37,ptrH,_⟩,⟨4,88,ptrH,_⟩] fun a w O=>?_)
 refine zt<|zg [none,none,some (4,_),none] [] [.adr 12 1 (.some 0) True,.v 13 _,.v 14 _,.v 15 _,.cal 16 _ 2] [.g 0,.g 1] O (oc (ob_a rfl rfl (za7 (lz0 0 rfl) zcj)) (zv rfl (za4 0 rfl zk trivial (lz0 0 rfl) (Sub.part 0 rfl rfl) zf6) (zv rfl (zgo (m:=1) (lz0 3 rfl) Tryz.underlying88 zk (n_ok zk) (vq 1 rfl) rfl) (zv rfl (zae (vq 2 rfl) ty_1) (oc (zer (xs:=[.tmp 1,.tmp 3]) (vs:=[ptr q1,ptr q3]) rfl rfl rfl (rowOf4_c h0) (vq 3 rfl) (.cons (gq 1 rfl) (.cons (gq 0 rfl) .nil)) (.cons (zb9 (lz0 0 rfl)) (.cons arw .nil))) o0))))) (zz [(3,_),(1,_)] [⟨1,30,ptrH,_⟩,⟨2,37,ptrH,_⟩,⟨3,37,ptrH,_⟩,⟨4,88,ptrH,_⟩] fun a w O=>?_)
 refine zt<|zg [none,some (1,_),none,none] [] [.v 17 _,.sto 1] [.g 0,.g 1] O (zv rfl (zaq (lz0 2 rfl) zb1) (oc (zaa rfl rfl rfl (vq 0 rfl) zb1 (Eq.trans (b:=16) rfl rfl)) o0)) (zz [(3,_),(1,_)] [⟨1,30,ptrH,_⟩,⟨2,37,ptrH,_⟩,⟨3,37,ptrH,_⟩,⟨4,88,ptrH,_⟩] fun a w O=>?_)
 refine za0<|wp_ret<|zag ?_ (zaf rfl O (zm 1 rfl) zb1)
 exact (zby (.cons (zbw zd) (.cons (zbw zd) (.cons (zbw zd) (.cons (zbw zd) .nil))))).va
theorem rowOfK4 {p q:Rat}  : Cn Tryz.prog 27 [(QEA 2048 ((4:Nat):Int) p q).va] ((QMA 4099 ⟨1,0,0-p*q,1⟩).va):=by
 refine Cn.intro Tryz.func27 rfl zk nq (fun B w0 a O=>?_)
 have O:=zn [(0,(QEA 2048 ((4:Nat):Int) p q).va)] [] O
 refine wp_seq<|zg [] [⟨1,30,ptrH,some 0,_,none⟩,⟨2,37,ptrH,some 1,_,none⟩] [.alc 0,.alc 1] [] O (oc (zal rfl rfl rfl (gq 0 rfl)) (oc (zam rfl rfl rfl (Str.zero zar)) o0)) (zz [] [⟨1,30,ptrH,_⟩,⟨2,37,ptrH,_⟩] fun a w O=>?_)
 refine zt<|zg [none,none] [⟨3,37,ptrH,some 1,_,some (2,_)⟩] [.v 5 _,.alc 2,.sto 2] [] O (zv rfl (za5 (xs:=[]) zh9 .nil) (oc (zam rfl rfl rfl (Str.zero zar)) (oc (zaa rfl rfl rfl (vq 0 rfl) zb1 (Eq.trans (b:=16) rfl rfl)) o0))) (zz [] [⟨1,30,ptrH,_⟩,⟨2,37,ptrH,_⟩,⟨3,37,ptrH,_⟩] fun a w O=>?_)
 refine zt ?_
 obtain ⟨q1,O⟩:=St.nm O 0 rfl
 obtain ⟨q3,O⟩:=St.nm O 2 rfl
 refine zg [none,none,none] [⟨4,88,ptrH,some 6,_,some (7,_)⟩] [.v 6 _,.v 7 _,.v 8 _,.v 9 _,.v 10 _,.v 11 _,.alc 3,.sto 3] [.g 0,.g 1] O (zv rfl (zcf (xs:=[.tmp 1,.tmp 3]) (vs:=[ptr q1,ptr q3]) (.cons (gq 1 rfl) (.cons (gq 0 rfl) .nil))) (zv rfl (zcf (xs:=[.tmp 1,.tmp 3]) (vs:=[ptr q1,ptr q3]) (.cons (gq 1 rfl) (.cons (gq 0 rfl) .nil))) (zv rfl (zcf (xs:=[.tmp 1,.tmp 3]) (vs:=[ptr q1,ptr q3]) (.cons (gq 1 rfl) (.cons (gq 0 rfl) .nil))) (zv rfl (zcf (xs:=[.tmp 1,.tmp 3]) (vs:=[ptr q1,ptr q3]) (.cons (gq 1 rfl) (.cons (gq 0 rfl) .nil))) (zv rfl (zcf (xs:=[.tmp 3]) (vs:=[ptr q3]) (.cons (gq 0 rfl) .nil)) (zv rfl (ze1 (xs:=[(0,.func 92),(1,.tmp 6),(2,.tmp 7),(3,.tmp 8),(4,.tmp 9),(5,.tmp 10)]) (qs:=[(0,_),(1,_),(2,_),(3,_),(4,_),(5,_)]) zcw (.cons ⟨rfl,zeu,rfl⟩ (.cons ⟨rfl,(vq 0 rfl),rfl⟩ (.cons ⟨rfl,(vq 1 rfl),rfl⟩ (.cons ⟨rfl,(vq 2 rfl),rfl⟩ (.cons ⟨rfl,(vq 3 rfl),rfl⟩ (.cons ⟨rfl,(vq 4 rfl),rfl⟩ .nil))))))) (oc (zam rfl rfl rfl (Arr.zero zcw)) (oc (zaa rfl rfl rfl (vq 5 rfl) zkn (Eq.trans (b:=6) rfl rfl)) o0)))))))) (zz [(3,_),(1,_)] [⟨1,30,ptrH,_⟩,⟨2,37,ptrH,_⟩,⟨3,37,ptrH,_⟩,⟨4,88,ptrH,_⟩] fun a w O=>?_)
 refine zt<|zg [none,none,some (4,_),none] [] [.adr 12 1 (.some 0) True,.v 13 _,.v 14 _,.v 15 _,.cal 16 _ 2] [.g 0,.g 1] O (oc (ob_a rfl rfl (za7 (lz0 0 rfl) zcj)) (zv rfl (za4 0 rfl zk trivial (lz0 0 rfl) (Sub.part 0 rfl rfl) zf6) (zv rfl (zgo (m:=1) (lz0 3 rfl) Tryz.underlying88 zk (n_ok zk) (vq 1 rfl) rfl) (zv rfl (zae (vq 2 rfl) ty_1) (oc (zer (xs:=[.tmp 1,.tmp 3]) (vs:=[ptr q1,ptr q3]) rfl rfl rfl rowOf5_c (vq 3 rfl) (.cons (gq 1 rfl) (.cons (gq 0 rfl) .nil)) (.cons (zb9 (lz0 0 rfl)) (.cons arw .nil))) o0))))) (zz [(3,_),(1,_)] [⟨1,30,ptrH,_⟩,⟨2,37,ptrH,_⟩,⟨3,37,ptrH,_⟩,⟨4,88,ptrH,_⟩] fun a w O=>?_)
 refine zt<|zg [none,some (1,_),none,none] [] [.v 17 _,.sto 1] [.g 0,.g 1] O (zv rfl (zaq (lz0 2 rfl) zb1) (oc (zaa rfl rfl rfl (vq 0 rfl) zb1 (Eq.trans (b:=16) rfl rfl)) o0)) (zz [(3,_),(1,_)] [⟨1,30,ptrH,_⟩,⟨2,37,ptrH,_⟩,⟨3,37,ptrH,_⟩,⟨4,88,ptrH,_⟩] fun a w O=>?_)
 refine za0<|wp_ret<|zag ?_ (zaf rfl O (zm 1 rfl) zb1)
 exact (zby (.cons (zbw zd) (.cons (zbw zd) (.cons (zbw zd) (.cons (zbw zd) .nil))))).va
theorem rowOfK5 {p q:Rat}  : Cn Tryz.prog 27 [(QEA 2048 ((5:Nat):Int) p q).va] ((QMA 4099 ⟨0-1,0-0,0-0,0-1⟩).va):=by
 refine Cn.intro Tryz.func27 rfl zk nq (fun B w0 a O=>?_)
 have O:=zn [(0,(QEA 2048 ((5:Nat):Int) p q).va)] [] O
 refine wp_seq<|zg [] [⟨1,30,ptrH,some 0,_,none⟩,⟨2,37,ptrH,some 1,_,none⟩] [.alc 0,.alc 1] [] O (oc (zal rfl rfl rfl (gq 0 rfl)) (oc (zam rfl rfl rfl (Str.zero zar)) o0)) (zz [] [⟨1,30,ptrH,_⟩,⟨2,37,ptrH,_⟩] fun a w O=>?_)
 refine zt<|zg [none,none] [⟨3,37,ptrH,some 1,_,some (2,_)⟩] [.v 5 _,.alc 2,.sto 2] [] O (zv rfl (za5 (xs:=[]) zh9 .nil) (oc (zam rfl rfl rfl (Str.zero zar)) (oc (zaa rfl rfl rfl (vq 0 rfl) zb1 (Eq.trans (b:=16) rfl rfl)) o0))) (zz [] [⟨1,30,ptrH,_⟩,⟨2,37,ptrH,_⟩,⟨3,37,ptrH,_⟩] fun a w O=>?_)
 refine zt ?_
 obtain ⟨q1,O⟩:=St.nm O 0 rfl
 obtain ⟨q3,O⟩:=St.nm O 2 rfl
 refine zg [none,none,none] [⟨4,88,ptrH,some 6,_,some (7,_)⟩] [.v 6 _,.v 7 _,.v 8 _,.v 9 _,.v 10 _,.v 11 _,.alc 3,.sto 3] [.g 0,.g 1] O (zv rfl (zcf (xs:=[.tmp 1,.tmp 3]) (vs:=[ptr q1,ptr q3]) (.cons (gq 1 rfl) (.cons (gq 0 rfl) .nil))) (zv rfl (zcf (xs:=[.tmp 1,.tmp 3]) (vs:=[ptr q1,ptr q3]) (.cons (gq 1 rfl) (.cons (gq 0 rfl) .nil))) (zv rfl (zcf (xs:=[.tmp 1,.tmp 3]) (vs:=[ptr q1,ptr q3]) (.cons (gq 1 rfl) (.cons (gq 0 rfl) .nil))) (zv rfl (zcf (xs:=[.tmp 1,.tmp 3]) (vs:=[ptr q1,ptr q3]) (.cons (gq 1 rfl) (.cons (gq 0 rfl) .nil))) (zv rfl (zcf (xs:=[.tmp 3]) (vs:=[ptr q3]) (.cons (gq 0 rfl) .nil)) (zv rfl (ze1 (xs:=[(0,.func 92),(1,.tmp 6),(2,.tmp 7),(3,.tmp 8),(4,.tmp 9),(5,.tmp 10)]) (qs:=[(0,_),(1,_),(2,_),(3,_),(4,_),(5,_)]) zcw (.cons ⟨rfl,zeu,rfl⟩ (.cons ⟨rfl,(vq 0 rfl),rfl⟩ (.cons ⟨rfl,(vq 1 rfl),rfl⟩ (.cons ⟨rfl,(vq 2 rfl),rfl⟩ (.cons ⟨rfl,(vq 3 rfl),rfl⟩ (.cons ⟨rfl,(vq 4 rfl),rfl⟩ .nil))))))) (oc (zam rfl rfl rfl (Arr.zero zcw)) (oc (zaa rfl rfl rfl (vq 5 rfl) zkn (Eq.trans (b:=6) rfl rfl)) o0)))))))) (zz [(3,_),(1,_)] [⟨1,30,ptrH,_⟩,⟨2,37,ptrH,_⟩,⟨3,37,ptrH,_⟩,⟨4,88,ptrH,_⟩] fun a w O=>?_)
 refine zt<|zg [none,none,some (4,_),none] [] [.adr 12 1 (.some 0) True,.v 13 _,.v 14 _,.v 15 _,.cal 16 _ 2] [.g 0,.g 1] O (oc (ob_a rfl rfl (za7 (lz0 0 rfl) zcj)) (zv rfl (za4 0 rfl zk trivial (lz0 0 rfl) (Sub.part 0 rfl rfl) zf6) (zv rfl (zgo (m:=1) (lz0 3 rfl) Tryz.underlying88 zk (n_ok zk) (vq 1 rfl) rfl) (zv rfl (zae (vq 2 rfl) ty_1) (oc (zer (xs:=[.tmp 3]) (vs:=[ptr q3]) rfl rfl rfl rowOf6_c (vq 3 rfl) (.cons (gq 0 rfl) .nil) (.cons arw .nil)) o0))))) (zz [(3,_),(1,_)] [⟨1,30,ptrH,_⟩,⟨2,37,ptrH,_⟩,⟨3,37,ptrH,_⟩,⟨4,88,ptrH,_⟩] fun a w O=>?_)
 refine zt<|zg [none,some (1,_),none,none] [] [.v 17 _,.sto 1] [.g 0,.g 1] O (zv rfl (zaq (lz0 2 rfl) zb1) (oc (zaa rfl rfl rfl (vq 0 rfl) zb1 (Eq.trans (b:=16) rfl rfl)) o0)) (zz [(3,_),(1,_)] [⟨1,30,ptrH,_⟩,⟨2,37,ptrH,_⟩,⟨3,37,ptrH,_⟩,⟨4,88,ptrH,_⟩] fun a w O=>?_)
 refine za0<|wp_ret<|zag ?_ (zaf rfl O (zm 1 rfl) zb1)
 exact (zby (.cons (zbw zd) (.cons (zbw zd) (.cons (zbw zd) (.cons (zbw zd) .nil))))).va
end Go.Proofs.YtpnhpldlecmbdaaGreatDoor
