import Derived.Test.YthdbhckhignfcaaGreatDoorBxAa
import Derived.Test.YthdbhckhignfcaaGreatDoorBxAc
import Derived.Test.YthdbhckhignfcaaGreatDoorBxAn
import Derived.Test.YthdbhckhignfcaaGreatDoorBxAu
import Derived.Test.YthdbhckhignfcaaGreatDoorBxAy
import Derived.Test.YthdbhckhignfcaaGreatDoorBxAz
import Derived.ProofKit
import Derived.OpenShut
import Derived.ChangeOld
import Derived.Below
set_option linter.unusedVariables false
set_option linter.unusedSimpArgs false
set_option linter.unusedSectionVars false
set_option maxRecDepth 100000
namespace Go.Proofs.YthdbhckhignfcaaGreatDoor
open Go Go.RowKit
def AllG (a:Act)(w:World):List (Nat × VA)→Prop
 | []=>True
 | x::l=>x.2.p w.heap.size (a.eval (.tmp x.1)) w∧AllG a w l
theorem AllG.mem {a:Act}{w:World}:∀ {l:List (Nat × VA)},AllG a w l→∀ x∈l,x.2.p w.heap.size (a.eval (.tmp x.1)) w
 | y::l,h,x,hx=>by
  rcases List.mem_cons.1 hx with rfl | hx
  ·exact h.1
  ·exact AllG.mem h.2 x hx
section
variable {P:Program} {B N:Nat} {w0:Bs} {Γ:List (Nat × VA)} {Λ:List Lc} {a:Act} {w:World}
theorem St.bw (h:St B w0 N Γ Λ a w):B≤w.heap.size:=Nat.le_trans (h.lo _ (.inl (Nat.le_refl _))) h.base.size
end
section
variable {P:Program} {Q:Exit→Act→World→Prop} {B N:Nat} {w0:Bs} {Γ:List (Nat × VA)} {Λ:List Lc} {a:Act} {w:World} {ops:Array Oper}
theorem go_first {id m:Nat}(hsz:ops.size=m+1)(h:wpOp P ops Q 0 (wpOps P ops Q (List.range' 1 m)) a w):(Code.region id ops false).wp P Q a w:=by
 refine wp_region ?_
 rw [List.range_eq_range',hsz,List.range'_succ,wpOps_cons]
 exact h
theorem go_restM {sp:List Sp}{d0 m:Nat}{A0:VA}(src:List Src)(h:St B w0 N ((d0,A0)::Γ) Λ a w)(h0:sp[0]?=some (.v d0 A0))(hsz:ops.size=m+1)
  (hob:Obs P Q ⟨ops,N,Γ,les0 Λ,sp,fun i=>List.range i⟩ B w0 1 m) (hk:Rg.chk ⟨ops,N,Γ,les0 Λ,sp,fun i=>List.range i⟩=true) (hsrc:src.all (okS ⟨ops,N,Γ,les0 Λ,sp,fun i=>List.range i⟩)=true)
  (hQ:∀ a w,St B w0 N (src.filterMap (takeS ⟨ops,N,Γ,les0 Λ,sp,fun i=>List.range i⟩)) Λ a w→Q .normal a w):wpOps P ops Q (List.range' 1 m) a w:=by
 have e:m=ops.size-1:=by omega
 subst e
 exact go_rest src h h0 zo hob hk hsrc hQ
end
theorem zn1 {B:Nat}{w1:Bs}{Ts:List TypeId}(hB:B=w1.w.heap.size):∀ E,Ts.contains E=true→RowMay w1 B E:=fun E _ w g c fz _ h _=>.inl (hB▸h)
theorem zuz (x:RR):UpA (RRA x) (RRA x):=zi3 (.cons (zgr _) (.cons (zgr _) .nil))
def ZBk:List As:=[NumA .i64 0,EqS (.slice none 0 0),EqS (.slice none 0 0),EqS (.slice none 0 0),EqS (.slice none 0 0),EqS (.slice none 0 0),EqS (.slice none 0 0),EqS (.slice none 0 0),EqS (.slice none 0 0),EqS (.slice none 0 0),EqS (.slice none 0 0),EqS (.slice none 0 0),EqS (.slice none 0 0),EqS (.slice none 0 0),EqS (.slice none 0 0),EqS (.slice none 0 0),EqS (.slice none 0 0)]
theorem str_book:Str Tryz.prog 59 ZBk :=
 Str.of (z:=.agg ([Value.int .i64 0]++List.replicate 16 (Value.slice none 0 0)).toArray) zk Tryz.underlying59 zk fun B w=>⟨[Value.int .i64 0]::List.replicate 16 [Value.slice none 0 0],rfl,.cons rfl (.cons ⟨rfl,rfl⟩ (.cons ⟨rfl,rfl⟩ (.cons ⟨rfl,rfl⟩ (.cons ⟨rfl,rfl⟩ (.cons ⟨rfl,rfl⟩ (.cons ⟨rfl,rfl⟩ (.cons ⟨rfl,rfl⟩ (.cons ⟨rfl,rfl⟩ (.cons ⟨rfl,rfl⟩ (.cons ⟨rfl,rfl⟩ (.cons ⟨rfl,rfl⟩ (.cons ⟨rfl,rfl⟩ (.cons ⟨rfl,rfl⟩ (.cons ⟨rfl,rfl⟩ (.cons ⟨rfl,rfl⟩ (.cons ⟨rfl,rfl⟩ .nil))))))))))))))))⟩
section
open Rg
variable {P:Program} {Q:Exit→Act→World→Prop} {R:Rg} {B i:Nat} {w0:Bs}
end
section
variable {P:Program} {R:Rg} {Q:Exit→Act→World→Prop} {B i:Nat} {w0:Bs}
end
end Go.Proofs.YthdbhckhignfcaaGreatDoor
namespace Go.Proofs.YthdbhckhignfcaaGreatDoor
open Go Go.RowKit
def RRN (x:RR):As:=cat [RFN x.y,RFN x.u]
def RRD (x:RR):As:=DisA (RRN x)
theorem zq2 {x:RF}:NewA (RFN x):=zep fun A hA=>by
 simp at hA
 rcases hA with rfl | rfl <;> exact zx2 _
theorem zjo {x:RF}:FreeA (RFN x) (RFN x):=zcj (.cons (zh6 _) (.cons (zh6 _) .nil))
theorem zw3 {x:RF}:WkA (RFN x) (RFA x):=zc1 (.cons wkA_riN (.cons wkA_riN .nil))
theorem qd_rfn {k:Nat}{q:Rat}:WkA (QD k q) (RFN (rfOf q)):=qd_rfd.trans dis_wk
theorem twn_mgn {l:List Nat}:WkA (TwN l) (MgN l):=⟨rfl,rfl,fun B cs w ⟨ok,g,e,h1,h2,h3⟩=>⟨ok,.inr ⟨g,[7777],by rw [e]; simp,by simpa using h2,h1,h3⟩⟩⟩
theorem rit_rin {x:RI}:WkA (RIT x) (RIN x):=zc1 (.cons (.refl _) (.cons twn_mgn .nil))
theorem zmc {x:RF}:WkA (RFT x) (RFN x):=zc1 (.cons rit_rin (.cons rit_rin .nil))
theorem rrt_rrn {x:RR}:WkA (RRT x) (RRN x):=zc1 (.cons zmc (.cons zmc .nil))
theorem kbl_app {l m:KL}:kbl (l++m)=kbl l++kbl m:=List.filterMap_append ..
theorem rin_ok {x:RI}{B:Nat}{cs:List Value}{w:World}(h:(RIN x).p B cs w):okL x.mag:=by
 obtain ⟨ps,rfl,hp⟩:=h
 cases hp with
 | cons h1 hp=>cases hp with
  | cons h2 hp=>exact h2.1
abbrev OkK (l:KL):Prop:=∀ p∈l,okL p.2
theorem zil {l m:KL}(h:OkK l)(k:OkK m):OkK (l++m):=fun p hp=>by
 rcases List.mem_append.1 hp with hp | hp
 ·exact h p hp
 ·exact k p hp
abbrev LnK (l:KL):Prop:=∀ p∈l,p.2.length≤2000000000000
theorem zh3 {l m:KL}(h:LnK l)(k:LnK m):LnK (l++m):=fun p hp=>by
 rcases List.mem_append.1 hp with hp | hp
 ·exact h p hp
 ·exact k p hp
theorem okK_f {x:RF}{m1 m2:Value}(h1:okL x.num.mag)(h2:okL x.den.mag):OkK (kf x m1 m2):=fun p hp=>by
 simp only [List.mem_cons,List.not_mem_nil,or_false] at hp
 rcases hp with rfl | rfl
 ·exact h1
 ·exact h2
theorem lnK_f {x:RF}{m1 m2:Value}(h:bdF x):LnK (kf x m1 m2):=fun p hp=>by
 simp only [List.mem_cons,List.not_mem_nil,or_false] at hp
 rcases hp with rfl | rfl
 ·exact Nat.le_trans h.1 zd
 ·exact Nat.le_trans h.2 zd
theorem okK_len {l:KL}(h:OkK l)(k:LnK l):∀ p∈l,okL p.2∧p.2.length≤2000000000000:=fun p hp=>⟨h p hp,k p hp⟩
theorem zgi {x:RF}{B:Nat}{cs:List Value}{w:World}(h:(RFN x).p B cs w):∃ m1 m2,(FracP x m1 m2).p B cs w∧cbl cs=kbl (kf x m1 m2)∧OkK (kf x m1 m2):=by
 obtain ⟨ps,rfl,hp⟩:=h
 cases hp with
 | @cons _ c1 _ _ h1 hp=>cases hp with
  | @cons _ c2 _ _ h2 hp =>
   cases hp
   obtain ⟨m1,p1,e1⟩:=zox h1
   obtain ⟨m2,p2,e2⟩:=zox h2
   refine ⟨m1,m2,⟨[c1,c2],rfl,.cons p1 (.cons p2 .nil)⟩,?_,okK_f (rin_ok h1) (rin_ok h2)⟩
   have:([c1,c2]:List (List Value)).flatten=c1++c2:=by simp
   rw [this,zec,e1,e2]
   exact kbl_app.symm
def nm4 (a b c d:Value):Nat→Value
 | 0=>a
 | 1=>b
 | 2=>c
 | _=>d
theorem zoj {x:RR}{B:Nat}{cs:List Value}{w:World}(h:(RRN x).p B cs w):∃ m:Nat→Value,(RayP x m).p B cs w∧cbl cs=kbl (kr x m)∧OkK (kr x m):=by
 obtain ⟨ps,rfl,hp⟩:=h
 cases hp with
 | @cons _ c1 _ _ h1 hp=>cases hp with
  | @cons _ c2 _ _ h2 hp =>
   cases hp
   obtain ⟨m1,m2,p1,e1,o1⟩:=zgi h1
   obtain ⟨m3,m4,p2,e2,o2⟩:=zgi h2
   refine ⟨nm4 m1 m2 m3 m4,⟨[c1,c2],rfl,.cons p1 (.cons p2 .nil)⟩,?_,zil o1 o2⟩
   have:([c1,c2]:List (List Value)).flatten=c1++c2:=by simp
   rw [this,zec,e1,e2]
   exact kbl_app.symm
theorem okK_nil:OkK []:=fun p h=>by cases h
theorem lnK_nil:LnK []:=fun p h=>by cases h
abbrev bdR (x:RR):Prop:=bdF x.y∧bdF x.u
theorem lnK_r {x:RR}{m:Nat→Value}(h:bdR x):LnK (kr x m):=zh3 (lnK_f h.1) (lnK_f h.2)
theorem bd_of {q:Rat}(h:¬ longQ q=true):bdF (rfOf q):=by
 have h':longQ q=false:=by cases hq:longQ q with
  | true=>exact absurd hq h
  | false=>rfl
 unfold longQ at h'
 simp only [List.any_cons,List.any_nil,Bool.or_false,Bool.or_eq_false_iff] at h'
 have h1:=of_decide_eq_false h'.1
 have h2:=of_decide_eq_false h'.2
 refine ⟨?_,?_⟩
 ·show (riOf q.num).mag.length≤_
  omega
 ·show (riOf (q.den:Int)).mag.length≤_
  omega
end Go.Proofs.YthdbhckhignfcaaGreatDoor
namespace Go.Proofs.YthdbhckhignfcaaGreatDoor
open Go Go.RowKit
def p4 (m:MQ)(j:Nat):Rat:=[m.a,m.b,m.c,m.d].getD j 0
def mulQ (m q:MQ):MQ:=⟨m.a*q.a+m.b*q.c,m.a*q.b+m.b*q.d,m.c*q.a+m.d*q.c,m.c*q.b+m.d*q.d⟩
end Go.Proofs.YthdbhckhignfcaaGreatDoor
namespace Go.Proofs.YthdbhckhignfcaaGreatDoor
open Go Go.RowKit
end Go.Proofs.YthdbhckhignfcaaGreatDoor
namespace Go.Proofs.YthdbhckhignfcaaGreatDoor
open Go Go.RowKit
theorem Cm.introK {P : Program} {f : FuncId} {fn : Func} {c : Code} {T : TypeId} {A0 A1 : As} {H : Hd} {pre : List Ar} {post : VA} (p : Nat) (hf : P.funcs[f]? = some fn) (hb : fn.body = some c) (hn : (fn.name == "runtime.NumGoroutine") = false) (hsz : pre.length ≤ fn.ntmps)
  (hm:∀ g,(p,EqV (H.f g))∈argΓ (pre.map (Ar.va g)))
  (h:∀ (B g:Nat) (w0:Bs) (a:Act),St B w0 fn.ntmps (argΓ (pre.map (Ar.va g))) [⟨p,T,H,A0⟩] a w0.w→c.wp P (bPost P fn (RQm B w0 g T A1 post)) a w0.w):Cm P f T A0 A1 pre post:=by
 refine ⟨⟨fn,hf,hn,by rw [hb]; rfl⟩,fun B w g cs args hB hg hp ha=>(zco hf hb (h B g ⟨w,fun k=>k=g,false⟩ _ ?_)).mono fun _ _ ⟨v,cs',he,hv,hk,h1,h2⟩=>⟨v,cs',he,hv,hk,h1,h2⟩⟩
 have hl:=ha.length
 have hgw:=(Array.getElem?_eq_some_iff.1 hg).1
 have ha':All2 (fun (A:VA) v=>A.p B v w) (pre.map (Ar.va g)) args:=by
  clear hl hm h hsz
  induction ha with
  | nil=>exact .nil
  | @cons x y xs ys h1 _ ih =>
   refine .cons ?_ ih
   cases x with
   | v A=>exact h1
   | w H=>exact h1
 have h0:(⟨args.toArray++Array.replicate (fn.ntmps-args.toArray.size) undef,[]⟩:Act).eval (.tmp p)=H.f g :=
  All2.args (N:=fn.ntmps-args.toArray.size) ha' (p,EqV (H.f g)) (hm g)
 refine ⟨fun k hk=>?_,DefOk.nil rfl,?_,Kept.refl _,All2.args ha',fun l hl=>?_,fun l hl m hm hne=>?_⟩
 ·rcases hk with hk | hk
  ·exact Nat.le_trans hB (Nat.le_trans (Nat.le_of_lt hgw) hk)
  ·have:k=g:=hk
   omega
 ·simp only [Array.size_append,List.size_toArray,Array.size_replicate]
  omega
 ·simp at hl
  subst hl
  exact ⟨g,cs,h0,.inr rfl,hg,hp⟩
 ·simp at hl hm
  subst hl hm
  exact absurd rfl hne
theorem zrg {P:Program}{fn:Func}{B N g p:Nat}{w0:Bs}{Γ:List (Nat × VA)}{Λ:List Lc}{a:Act}{w:World}{T:TypeId}{H:Hd}{A1:As}{post:VA}(h:St B w0 N Γ Λ a w)(hm:(p,EqV (H.f g))∈Γ)(hl:(⟨p,T,H,A1⟩:Lc)∈Λ)
  (hb:bPost P fn (RQ B w0 post) .ret a w):bPost P fn (RQm B w0 g T A1 post) .ret a w:=by
 refine zkw h hb fun v w h ⟨v',e1,e2,e3⟩=>?_
 obtain ⟨g',cs,f1,_,f3,f4⟩:=h.locs _ hl
 replace f1:a.eval (.tmp p)=H.f g':=f1
 have f0:a.eval (.tmp p)=H.f g:=h.vals _ hm
 have:g'=g:=Rg.Hd.inj (H:=H) (H':=H) (by rw [← f1,← f0])
 subst this
 exact ⟨v',cs,e1,e2,e3,f3,f4⟩
theorem sub_self {A:As}:Sub A 0 A:=fun B cs w h=>by
 have hl:=A.len B cs w h
 refine ⟨?_,by omega⟩
 rw [List.drop_zero,List.take_of_length_le zo]
 exact h
end Go.Proofs.YthdbhckhignfcaaGreatDoor
namespace Go.Proofs.YthdbhckhignfcaaGreatDoor
open Go Go.RowKit
def bQ (k:Nat)(r:Rat):Prop:=lz r.num≤k∧lz (r.den:Int)≤k
theorem bQ_add {c d:Nat}{x y:Rat}(hx:bQ c x)(hy:bQ d y):bQ (c+d+1) (x+y):=by
 obtain ⟨x1,x2⟩:=hx
 obtain ⟨y1,y2⟩:=hy
 rw [← zpv]
 obtain ⟨h1,h2⟩:=zh1 (p:=x.num*(y.den:Int)+y.num*(x.den:Int)) (q:=(x.den:Int)*(y.den:Int)) (den_nz x y)
 have h3:=zlx (x.num*(y.den:Int)) (y.num*(x.den:Int))
 have h4:=zew x.num y.den
 have h5:=zew y.num x.den
 have h6:=zew x.den y.den
 exact ⟨by omega,by omega⟩
theorem zph {c d:Nat}{x y:Rat}(hx:bQ c x)(hy:bQ d y):bQ (c+d) (x*y):=by
 obtain ⟨x1,x2⟩:=hx
 obtain ⟨y1,y2⟩:=hy
 rw [← zpt]
 obtain ⟨h1,h2⟩:=zh1 (p:=x.num*y.num) (q:=(x.den:Int)*(y.den:Int)) (den_nz x y)
 have h4:=zew x.num y.num
 have h6:=zew x.den y.den
 exact ⟨by omega,by omega⟩
end Go.Proofs.YthdbhckhignfcaaGreatDoor
namespace Go.Proofs.YthdbhckhignfcaaGreatDoor
open Go Go.RowKit
theorem nd_eq (x:Rat):x=(x.num:Rat)/((x.den:Int):Rat):=by rw [← Rat.divInt_eq_div]; exact (Rat.num_divInt_den x).symm
theorem den_ne (x:Rat):((x.den:Int):Rat)≠0:=by
 have:=x.den_nz
 intro h
 exact this (by exact_mod_cast h)
end Go.Proofs.YthdbhckhignfcaaGreatDoor
namespace Go.Proofs.YthdbhckhignfcaaGreatDoor
open Go Go.RowKit
section
variable {P:Program} {R:Rg} {Q:Exit→Act→World→Prop} {B i:Nat} {w0:Bs}
end
end Go.Proofs.YthdbhckhignfcaaGreatDoor
namespace Go.Proofs.YthdbhckhignfcaaGreatDoor
open Go Go.RowKit
theorem go_go (N M:MQ)(R:YQ):goQ N (goQ M R)=goQ (mulQ N M) R:=by
 unfold goQ mulQ
 simp only [YQ.mk.injEq]
 exact ⟨by grind,by grind⟩
end Go.Proofs.YthdbhckhignfcaaGreatDoor
namespace Go.Proofs.YthdbhckhignfcaaGreatDoor
open Go Go.RowKit
theorem zhf  : Cn Tryz.prog 93 [] ((QMA 2 ⟨1,0,0,1⟩).va):=by
 refine Cn.intro Tryz.func93 rfl zk nq (fun B w0 a O=>?_)
 have O:=zn [] [] O
 refine wp_seq<|zg [] [⟨0,78,ptrH,some 0,_,none⟩] [.alc 0] [] O (oc (zas rfl rfl rfl (Str.zero zbj)) o0) (zz [] [⟨0,78,ptrH,_⟩] fun a w O=>?_)
 refine zt<|zg [some (5,_)] [] [.v 1 _,.v 2 _,.v 3 _,.v 4 _,.v 5 _,.sto 0] [] O (zv rfl (za5 (xs:=[]) one_q .nil) (zv rfl (za5 (xs:=[]) zmv .nil) (zv rfl (za5 (xs:=[]) zmv .nil) (zv rfl (za5 (xs:=[]) one_q .nil) (zv rfl (zbg (xs:=[(0,.tmp 1),(1,.tmp 2),(2,.tmp 3),(3,.tmp 4)]) (qs:=[(0,_),(1,_),(2,_),(3,_)]) zbj (.cons ⟨rfl,(vq 0 rfl),rfl⟩ (.cons ⟨rfl,(vq 1 rfl),rfl⟩ (.cons ⟨rfl,(vq 2 rfl),rfl⟩ (.cons ⟨rfl,(vq 3 rfl),rfl⟩ .nil))))) (oc (zak rfl rfl rfl (vq 4 rfl) zcb (Eq.trans (b:=16) rfl rfl)) o0)))))) (zz [] [⟨0,78,ptrH,_⟩] fun a w O=>?_)
 refine za0<|wp_ret<|zai ?_ (zaj rfl O (zm 0 rfl) zcb)
 exact zbn
end Go.Proofs.YthdbhckhignfcaaGreatDoor
namespace Go.Proofs.YthdbhckhignfcaaGreatDoor
open Go Go.RowKit
def EqA (v:Value):As where
 n:=1
 ag:=false
 p _ cs _:=cs=[v]∧v.oneCell'=true
 deps:=[]
 len:=by rintro B cs w ⟨rfl,_⟩; rfl
 one:=by rintro B cs w ⟨rfl,h⟩ c hc; simp at hc; subst hc; exact h
 ag1:=fun _=>rfl
 cg:=fun _ _ _ _ _ h=>h
 wr:=fun _ _ _ _ _ _ _ _ _ _ _ _ h=>h
theorem va_eqA {v:Value}(h:v.oneCell'=true){B:Nat}{w:World}:(EqA v).va.p B v w:=⟨[v],⟨rfl,h⟩,rfl⟩
theorem eqA_va {v u:Value}{B:Nat}{w:World}(h:(EqA v).va.p B u w):u=v:=by
 obtain ⟨cs,⟨rfl,_⟩,h2⟩:=h
 exact h2
theorem St.nm {B N:Nat}{w0:Bs}{Γ:List (Nat × VA)}{Λ:List Lc}{a:Act}{w:World}(h:St B w0 N Γ Λ a w){s T:Nat}{A:As}(k:Nat)(hm:Λ[k]?=some ⟨s,T,ptrH,A⟩):∃ g,St B w0 N ((s,EqV (ptr g))::Γ) Λ a w:=by
 obtain ⟨g,cs,e,_⟩:=h.locs _ (List.mem_of_getElem? hm)
 refine ⟨g,h.lo,h.defers,h.size,h.base,fun x hx=>?_,h.locs,h.dis⟩
 rcases List.mem_cons.1 hx with rfl | hx
 ·exact e
 ·exact h.vals x hx
section
variable {P:Program} {R:Rg} {Q:Exit→Act→World→Prop} {B i:Nat} {w0:Bs}
theorem zyw {xs:List Operand}{vs:List Value}(hx:HasL R B w0 i xs (vs.map EqV)){a:Act}{w:World}(av:R.Av B w0 i a w):xs.map a.eval=vs:=by
 induction vs generalizing xs with
 | nil=>cases hx; rfl
 | cons v vs ih =>
  cases hx with
  | cons h1 h2 =>
   rw [List.map_cons,ih h2]
   have:_=v:=h1 a w av
   rw [this]
theorem zdx {f:FuncId}{xs:List Operand}{vs:List Value}(hx:HasL R B w0 i xs (vs.map EqV)):Wv P Q R B w0 i (.makeFunc (.func f) #[] xs.toArray) (EqA (.func (.func f) #[] vs.toArray)).va :=
 zbr fun _ _ _ _ _ a w av=>by
  have e:=zyw hx av
  refine ⟨.func (.func f) #[] vs.toArray,w,?_,Grow.refl w,va_eqA rfl⟩
  simp [execOp,Instr.makeFunc,e]
theorem zke {f:FuncId}:Has R B w0 i (.func f) (EqA (.func (.func f) #[] #[])).va:=fun _ _ _=>va_eqA rfl
theorem zka {d s e c:Nat}{T:TypeId}{H:Hd}{cr:Option Nat}{A0 A1:As}{A:VA}{f:FuncId}{xs:List Operand}{vs:List Value}{pre:List Ar}{at_:Array TypeId}{ty:TypeId}{ps:String}{af:Array Edge}
  (hs:R.sp[i]?=some (.cal d A e)) (he:R.les[e]?=some ⟨s,T,H,cr,A0,some (i,A1)⟩) (ho:R.ops[i]?=some ⟨some d,.call ⟨.value (.tmp c),#[],at_⟩,ty,ps,af,none⟩)
  (hc:Cm P f T A0 A1 pre A) (hv:Has R B w0 i (.tmp c) (EqA (.func (.func f) #[] vs.toArray)).va) (hvs:HasL R B w0 i xs (vs.map EqV)) (hx:All2 (ArH R B w0 i s H) pre xs):R.Ob P Q B w0 i:=by
 unfold Rg.Ob
 simp only [hs,he]
 intro a w av g cs h1 hB h3 h4 _ K hK
 obtain ⟨⟨fn,hf,hn,hb2⟩,hcall⟩:=hc
 have ev:a.eval (.tmp c)=.func (.func f) #[] vs.toArray:=eqA_va (hv a w av)
 have evs:=zyw hvs av
 have hrun:(execOp a.eval ⟨some d,.call ⟨.value (.tmp c),#[],at_⟩,ty,ps,af,none⟩).run P w=.ok (.enter f (xs.map a.eval).toArray) w:=by
  simp only [execOp,resolve,ev,Deferred.ofValue,Sem.run_bind,Sem.run_pure,Result.andThen_ok,invoke,zbz hf hn hb2,evs]
  simp
 refine zbw ho rfl ?_
 unfold Oper.wp
 rw [hrun]
 refine (hcall B w g cs _ hB h3 h4 ?_).mono fun e w' ⟨v,cs',he,hv,hg,h5,h6⟩=>by subst he; exact hK v cs' w' hg h5 h6 hv
 clear hcall hrun ho hs he hvs evs
 induction hx with
 | nil=>exact .nil
 | @cons x y _ _ h _ ih =>
  refine .cons ?_ ih
  cases x with
  | v A=>exact h a w av
  | w H' =>
   obtain ⟨rfl,h2⟩:=h
   exact (h2 a w av).trans h1
end
structure RE where
 k:Int
 p:RF
 q:RF
 deriving DecidableEq
def REA (x:RE):As:=cat [NumA .u8 x.k,RFA x.p,RFA x.q]
def QEA (c:Nat)(k:Int)(p q:Rat):As:=cat [NumA .u8 k,QA c p,QA c q]
abbrev NfA:As:=EqA .nilFunc
theorem zgb:Str Tryz.prog 69 [NumA .u8 0,RFA rf0,RFA rf0] :=
 Str.of (z:=.agg #[.int .u8 0,.bool false,.slice none 0 0,.bool false,.slice none 0 0,.bool false,.slice none 0 0,.bool false,.slice none 0 0]) zk Tryz.underlying69 zk fun B w=>⟨[[.int .u8 0],[.bool false,.slice none 0 0,.bool false,.slice none 0 0],[.bool false,.slice none 0 0,.bool false,.slice none 0 0]],rfl,.cons rfl (.cons (zme B w) (.cons (zme B w) .nil))⟩
theorem zet:Arr Tryz.prog 95 [NfA,NfA,NfA,NfA,NfA,NfA]:=by
 have hz:((Tryz.prog.info? 95).bind (·.zero))=some (.agg #[.nilFunc,.nilFunc,.nilFunc,.nilFunc,.nilFunc,.nilFunc]):=by kernel_rfl
 obtain ⟨it,e1,e2⟩:=Option.bind_eq_some_iff.1 hz
 have h:(Tryz.prog.info? 1).map (·.size)=some 1:=by kernel_rfl
 obtain ⟨ie,h1,h2⟩:∃ ie,Tryz.prog.info? 1=some ie∧ie.size=1:=by
  cases hi:Tryz.prog.info? 1 with
  | none=>rw [hi] at h; simp at h
  | some ie=>rw [hi] at h; exact ⟨ie,rfl,by simpa using h⟩
 refine ⟨it,_,6,1,ie,e1,e2,Tryz.underlying95,h1,?_,fun B w=>⟨[[.nilFunc],[.nilFunc],[.nilFunc],[.nilFunc],[.nilFunc],[.nilFunc]],rfl,(.cons ⟨rfl,rfl⟩ (.cons ⟨rfl,rfl⟩ (.cons ⟨rfl,rfl⟩ (.cons ⟨rfl,rfl⟩ (.cons ⟨rfl,rfl⟩ (.cons ⟨rfl,rfl⟩ .nil))))))⟩⟩
 rw [h2]
 intro f hf
 match f,hf with
 | 0,_=>rfl
 | 1,_=>rfl
 | 2,_=>rfl
 | 3,_=>rfl
 | 4,_=>rfl
 | 5,_=>rfl
theorem zdk {c:Nat}{x:Rat}(hc:c≤137438953472):Cn Tryz.prog 98 [Qs c x] (Qs (2+c+1) (0-x)):=by
 refine Cn.intro Tryz.func98 rfl zk nq (fun B w0 a O=>?_)
 have O:=zn [(0,Qs c x)] [] O
 refine wp_seq<|zg [] [⟨1,27,ptrH,some 0,_,none⟩,⟨2,27,ptrH,some 1,_,none⟩] [.alc 0,.alc 1] [] O (oc (zam rfl rfl rfl (gq 0 rfl)) (oc (zas rfl rfl rfl (Str.zero zbe)) o0)) (zz [] [⟨1,27,ptrH,_⟩,⟨2,27,ptrH,_⟩] fun a w O=>?_)
 refine zt<|zgd [[],[],[0,1],[0,1,2]] [none,some (3,_)] [] [.v 3 _,.v 4 _,.v 5 _,.sto 1] [] za6 O (zv rfl (za5 (xs:=[]) zmv .nil) (zv rfl (zaq (lz0 0 rfl) zar) (zv rfl (za5 (xs:=[.tmp 3,.tmp 4]) (minus_q zo) (.cons (vq 0 rfl) (.cons (vq 1 rfl) .nil))) (oc (zak rfl rfl rfl (vq 2 rfl) zar (Eq.trans (b:=4) rfl rfl)) o0)))) zk zk zk zk (zz [] [⟨1,27,ptrH,_⟩,⟨2,27,ptrH,_⟩] fun a w O=>?_)
 refine za0<|wp_ret<|zai ?_ (zaj rfl O (zm 1 rfl) zar)
 exact zbn
theorem zog {c:Nat}{m:MQ}(hc:c≤137438953472):Cn Tryz.prog 104 [(QMA c m).va] ((QMA (2+c+1) ⟨0-m.a,0-m.b,0-m.c,0-m.d⟩).va):=by
 refine Cn.intro Tryz.func104 rfl zk nq (fun B w0 a O=>?_)
 have O:=zn [(0,(QMA c m).va)] [] O
 refine wp_seq<|zg [] [⟨1,78,ptrH,some 0,_,none⟩,⟨2,78,ptrH,some 1,_,none⟩] [.alc 0,.alc 1] [] O (oc (zam rfl rfl rfl (gq 0 rfl)) (oc (zas rfl rfl rfl (Str.zero zbj)) o0)) (zz [] [⟨1,78,ptrH,_⟩,⟨2,78,ptrH,_⟩] fun a w O=>?_)
 refine zt<|zgd [[],[0],[0,1],[],[3],[0,1,2,3,4],[],[6],[0,1,2,3,4,5,6,7],[],[9],[0,1,2,3,4,5,6,7,8,9,10],[0,1,2,3,4,5,6,7,8,9,10,11],[0,1,2,3,4,5,6,7,8,9,10,11,12]] [none,some (13,_)] [] [.adr 3 1 (.some 0) True,.v 4 _,.v 5 _,.adr 6 1 (.some 4) True,.v 7 _,.v 8 _,.adr 9 1 (.some 8) True,.v 10 _,.v 11 _,.adr 12 1 (.some 12) True,.v 13 _,.v 14 _,.v 15 _,.sto 1] [] za6 O (oc (ob_a rfl rfl (za9 (lz0 0 rfl) zjq)) (zv rfl (za4 0 rfl zk trivial (lz0 0 rfl) (Sub.part 0 rfl rfl) zar) (zv rfl (za5 (xs:=[.tmp 4]) (zdk zo) (.cons (vq 1 rfl) .nil)) (oc (ob_a rfl rfl (za9 (lz0 0 rfl) zgl)) (zv rfl (za4 3 rfl zk trivial (lz0 0 rfl) (Sub.part 1 rfl rfl) zar) (zv rfl (za5 (xs:=[.tmp 7]) (zdk zo) (.cons (vq 4 rfl) .nil)) (oc (ob_a rfl rfl (za9 (lz0 0 rfl) zgk)) (zv rfl (za4 6 rfl zk trivial (lz0 0 rfl) (Sub.part 2 rfl rfl) zar) (zv rfl (za5 (xs:=[.tmp 10]) (zdk zo) (.cons (vq 7 rfl) .nil)) (oc (ob_a rfl rfl (za9 (lz0 0 rfl) zjp)) (zv rfl (za4 9 rfl zk trivial (lz0 0 rfl) (Sub.part 3 rfl rfl) zar) (zv rfl (za5 (xs:=[.tmp 13]) (zdk zo) (.cons (vq 10 rfl) .nil)) (zv rfl (zbg (xs:=[(0,.tmp 5),(1,.tmp 8),(2,.tmp 11),(3,.tmp 14)]) (qs:=[(0,_),(1,_),(2,_),(3,_)]) zbj (.cons ⟨rfl,(vq 2 rfl),rfl⟩ (.cons ⟨rfl,(vq 5 rfl),rfl⟩ (.cons ⟨rfl,(vq 8 rfl),rfl⟩ (.cons ⟨rfl,(vq 11 rfl),rfl⟩ .nil))))) (oc (zak rfl rfl rfl (vq 12 rfl) zcb (Eq.trans (b:=16) rfl rfl)) o0)))))))))))))) zk zk zk zk (zz [] [⟨1,78,ptrH,_⟩,⟨2,78,ptrH,_⟩] fun a w O=>?_)
 refine za0<|wp_ret<|zai ?_ (zaj rfl O (zm 1 rfl) zcb)
 exact zbn
theorem rowOf2_c {p q:Rat}{kd:Int}  : Cm Tryz.prog 95 78 (QMA 2 ⟨1,0,0,1⟩) (cat [QA 2 1,QA 2048 p,QA 2 0,QA 2 1]) [.v ((ElP 69 (QEA 2048 kd p q))),.w (ptrH)] (Tu []):=by
 refine Cm.introK 1 Tryz.func95 rfl zk nq (fun g=>zm 1 rfl) (fun B g w0 a O=>?_)
 have O:=zn [(0,(ElP 69 (QEA 2048 kd p q))),(1,EqV ((ptrH).f g))] [⟨1,78,ptrH,QMA 2 ⟨1,0,0,1⟩⟩] O
 refine zg [some (4,_)] [] [.v 2 _,.v 3 _,.v 4 _,.adr 5 1 (.some 4) True,.sto 0] [.g 1] O (zv rfl (zay (gq 0 rfl) zc8 (Sub.part 1 rfl rfl)) (zv rfl (zad (vq 0 rfl) zar) (zv rfl (za5 (xs:=[.tmp 3]) (copy_q zo) (.cons (vq 1 rfl) .nil)) (oc (ob_a rfl rfl (za9 (lz0 0 rfl) zgl)) (oc (zms 3 rfl rfl rfl rfl zk (vq 2 rfl) zar (Put.part 1 rfl rfl rfl)) o0))))) (zz [(1,_)] [⟨1,78,ptrH,_⟩] fun a w O=>?_)
 refine zc9<|zrg O (zm 0 rfl) (zm 0 rfl) ?_
 refine zai ?_ (zb6 (rs:=[]) rfl O .nil zd)
 exact zbn
theorem rowOf3_c {p q:Rat}{kd:Int}  : Cm Tryz.prog 97 78 (QMA 2 ⟨1,0,0,1⟩) (cat [QA 2 1,QA 2 0,QA 2051 (0-p),QA 2 1]) [.v ((ElP 69 (QEA 2048 kd p q))),.w (ptrH)] (Tu []):=by
 refine Cm.introK 1 Tryz.func97 rfl zk nq (fun g=>zm 1 rfl) (fun B g w0 a O=>?_)
 have O:=zn [(0,(ElP 69 (QEA 2048 kd p q))),(1,EqV ((ptrH).f g))] [⟨1,78,ptrH,QMA 2 ⟨1,0,0,1⟩⟩] O
 refine zg [some (4,_)] [] [.v 2 _,.v 3 _,.v 4 _,.adr 5 1 (.some 8) True,.sto 0] [.g 1] O (zv rfl (zay (gq 0 rfl) zc8 (Sub.part 1 rfl rfl)) (zv rfl (zad (vq 0 rfl) zar) (zv rfl (za5 (xs:=[.tmp 3]) (zdk zo) (.cons (vq 1 rfl) .nil)) (oc (ob_a rfl rfl (za9 (lz0 0 rfl) zgk)) (oc (zms 3 rfl rfl rfl rfl zk (vq 2 rfl) zar (Put.part 2 rfl rfl rfl)) o0))))) (zz [(1,_)] [⟨1,78,ptrH,_⟩] fun a w O=>?_)
 refine zc9<|zrg O (zm 0 rfl) (zm 0 rfl) ?_
 refine zai ?_ (zb6 (rs:=[]) rfl O .nil zd)
 exact zbn
theorem rowOf4_c {p q:Rat}{kd:Int}(h0:q≠0):Cm Tryz.prog 99 78 (QMA 2 ⟨1,0,0,1⟩) (cat [QA 2 1,QA 4096 (p/q),QA 2 0,QA 2 1]) [.v ((ElP 69 (QEA 2048 kd p q))),.w (ptrH)] (Tu []):=by
 refine Cm.introK 1 Tryz.func99 rfl zk nq (fun g=>zm 1 rfl) (fun B g w0 a O=>?_)
 have O:=zn [(0,(ElP 69 (QEA 2048 kd p q))),(1,EqV ((ptrH).f g))] [⟨1,78,ptrH,QMA 2 ⟨1,0,0,1⟩⟩] O
 refine zg [some (6,_)] [] [.v 2 _,.v 3 _,.v 4 _,.v 5 _,.v 6 _,.adr 7 1 (.some 4) True,.sto 0] [.g 1] O (zv rfl (zay (gq 0 rfl) zc8 (Sub.part 1 rfl rfl)) (zv rfl (zad (vq 0 rfl) zar) (zv rfl (zay (gq 0 rfl) zcf (Sub.part 2 rfl rfl)) (zv rfl (zad (vq 2 rfl) zar) (zv rfl (za5 (xs:=[.tmp 3,.tmp 5]) (over_q zd h0) (.cons (vq 1 rfl) (.cons (vq 3 rfl) .nil))) (oc (ob_a rfl rfl (za9 (lz0 0 rfl) zgl)) (oc (zms 5 rfl rfl rfl rfl zk (vq 4 rfl) zar (Put.part 1 rfl rfl rfl)) o0))))))) (zz [(1,_)] [⟨1,78,ptrH,_⟩] fun a w O=>?_)
 refine zc9<|zrg O (zm 0 rfl) (zm 0 rfl) ?_
 refine zai ?_ (zb6 (rs:=[]) rfl O .nil zd)
 exact zbn
theorem rowOf5_c {p q:Rat}{kd:Int}  : Cm Tryz.prog 101 78 (QMA 2 ⟨1,0,0,1⟩) (cat [QA 2 1,QA 2 0,QA 4099 (0-p*q),QA 2 1]) [.v ((ElP 69 (QEA 2048 kd p q))),.w (ptrH)] (Tu []):=by
 refine Cm.introK 1 Tryz.func101 rfl zk nq (fun g=>zm 1 rfl) (fun B g w0 a O=>?_)
 have O:=zn [(0,(ElP 69 (QEA 2048 kd p q))),(1,EqV ((ptrH).f g))] [⟨1,78,ptrH,QMA 2 ⟨1,0,0,1⟩⟩] O
 refine zg [some (7,_)] [] [.v 2 _,.v 3 _,.v 4 _,.v 5 _,.v 6 _,.v 7 _,.adr 8 1 (.some 8) True,.sto 0] [.g 1] O (zv rfl (zay (gq 0 rfl) zc8 (Sub.part 1 rfl rfl)) (zv rfl (zad (vq 0 rfl) zar) (zv rfl (zay (gq 0 rfl) zcf (Sub.part 2 rfl rfl)) (zv rfl (zad (vq 2 rfl) zar) (zv rfl (za5 (xs:=[.tmp 3,.tmp 5]) (zpm zo) (.cons (vq 1 rfl) (.cons (vq 3 rfl) .nil))) (zv rfl (za5 (xs:=[.tmp 6]) (zdk zo) (.cons (vq 4 rfl) .nil)) (oc (ob_a rfl rfl (za9 (lz0 0 rfl) zgk)) (oc (zms 6 rfl rfl rfl rfl zk (vq 5 rfl) zar (Put.part 2 rfl rfl rfl)) o0)))))))) (zz [(1,_)] [⟨1,78,ptrH,_⟩] fun a w O=>?_)
 refine zc9<|zrg O (zm 0 rfl) (zm 0 rfl) ?_
 refine zai ?_ (zb6 (rs:=[]) rfl O .nil zd)
 exact zbn
theorem rowOf6_c  : Cm Tryz.prog 103 78 (QMA 2 ⟨1,0,0,1⟩) (QMA 5 ⟨0-1,0-0,0-0,0-1⟩) [.w (ptrH),] (Tu []):=by
 refine Cm.intro Tryz.func103 rfl zk nq (fun B g w0 a O=>?_)
 have O:=zn [(0,EqV ((ptrH).f g)),] [⟨0,78,ptrH,QMA 2 ⟨1,0,0,1⟩⟩] O
 refine zg [some (2,_)] [] [.v 1 _,.v 2 _,.sto 0] [.g 0] O (zv rfl (zaq (lz0 0 rfl) zcb) (zv rfl (za5 (xs:=[.tmp 1]) (zog (m:=⟨_,_,_,_⟩) zo) (.cons (vq 0 rfl) .nil)) (oc (zak rfl rfl rfl (vq 1 rfl) zcb (Eq.trans (b:=16) rfl rfl)) o0))) (zz [(0,_)] [⟨0,78,ptrH,_⟩] fun a w O=>?_)
 refine zc9<|zen O (zm 0 rfl) (zm 0 rfl) ?_
 refine zai ?_ (zb6 (rs:=[]) rfl O .nil zd)
 exact zbn
theorem rowOfK1 {p q:Rat}  : Cn Tryz.prog 25 [(QEA 2048 ((1:Nat):Int) p q).va] ((QMA 4099 ⟨1,p,0,1⟩).va):=by
 refine Cn.intro Tryz.func25 rfl zk nq (fun B w0 a O=>?_)
 have O:=zn [(0,(QEA 2048 ((1:Nat):Int) p q).va)] [] O
 refine wp_seq<|zg [] [⟨1,69,ptrH,some 0,_,none⟩,⟨2,78,ptrH,some 1,_,none⟩] [.alc 0,.alc 1] [] O (oc (zam rfl rfl rfl (gq 0 rfl)) (oc (zas rfl rfl rfl (Str.zero zbj)) o0)) (zz [] [⟨1,69,ptrH,_⟩,⟨2,78,ptrH,_⟩] fun a w O=>?_)
 refine zt<|zg [none,none] [⟨3,78,ptrH,some 1,_,some (2,_)⟩] [.v 5 _,.alc 2,.sto 2] [] O (zv rfl (za5 (xs:=[]) zhf .nil) (oc (zas rfl rfl rfl (Str.zero zbj)) (oc (zak rfl rfl rfl (vq 0 rfl) zcb (Eq.trans (b:=16) rfl rfl)) o0))) (zz [] [⟨1,69,ptrH,_⟩,⟨2,78,ptrH,_⟩,⟨3,78,ptrH,_⟩] fun a w O=>?_)
 refine zt ?_
 obtain ⟨q1,O⟩:=St.nm O 0 rfl
 obtain ⟨q3,O⟩:=St.nm O 2 rfl
 refine zg [none,none,none] [⟨4,95,ptrH,some 6,_,some (7,_)⟩] [.v 6 _,.v 7 _,.v 8 _,.v 9 _,.v 10 _,.v 11 _,.alc 3,.sto 3] [.g 0,.g 1] O (zv rfl (zdx (xs:=[.tmp 1,.tmp 3]) (vs:=[ptr q1,ptr q3]) (.cons (gq 1 rfl) (.cons (gq 0 rfl) .nil))) (zv rfl (zdx (xs:=[.tmp 1,.tmp 3]) (vs:=[ptr q1,ptr q3]) (.cons (gq 1 rfl) (.cons (gq 0 rfl) .nil))) (zv rfl (zdx (xs:=[.tmp 1,.tmp 3]) (vs:=[ptr q1,ptr q3]) (.cons (gq 1 rfl) (.cons (gq 0 rfl) .nil))) (zv rfl (zdx (xs:=[.tmp 1,.tmp 3]) (vs:=[ptr q1,ptr q3]) (.cons (gq 1 rfl) (.cons (gq 0 rfl) .nil))) (zv rfl (zdx (xs:=[.tmp 3]) (vs:=[ptr q3]) (.cons (gq 0 rfl) .nil)) (zv rfl (zhh (xs:=[(0,.func 94),(1,.tmp 6),(2,.tmp 7),(3,.tmp 8),(4,.tmp 9),(5,.tmp 10)]) (qs:=[(0,_),(1,_),(2,_),(3,_),(4,_),(5,_)]) zet (.cons ⟨rfl,zke,rfl⟩ (.cons ⟨rfl,(vq 0 rfl),rfl⟩ (.cons ⟨rfl,(vq 1 rfl),rfl⟩ (.cons ⟨rfl,(vq 2 rfl),rfl⟩ (.cons ⟨rfl,(vq 3 rfl),rfl⟩ (.cons ⟨rfl,(vq 4 rfl),rfl⟩ .nil))))))) (oc (zas rfl rfl rfl (Arr.zero zet)) (oc (zak rfl rfl rfl (vq 5 rfl) zv0 (Eq.trans (b:=6) rfl rfl)) o0)))))))) (zz [(3,_),(1,_)] [⟨1,69,ptrH,_⟩,⟨2,78,ptrH,_⟩,⟨3,78,ptrH,_⟩,⟨4,95,ptrH,_⟩] fun a w O=>?_)
 refine zt<|zg [none,none,some (4,_),none] [] [.adr 12 1 (.some 0) True,.v 13 _,.v 14 _,.v 15 _,.cal 16 _ 2] [.g 0,.g 1] O (oc (ob_a rfl rfl (za9 (lz0 0 rfl) zcy)) (zv rfl (za4 0 rfl zk trivial (lz0 0 rfl) (Sub.part 0 rfl rfl) zha) (zv rfl (zol (m:=1) (lz0 3 rfl) Tryz.underlying95 zk (n_ok zk) (vq 1 rfl) rfl) (zv rfl (zad (vq 2 rfl) ty_1) (oc (zka (xs:=[.tmp 1,.tmp 3]) (vs:=[ptr q1,ptr q3]) rfl rfl rfl rowOf2_c (vq 3 rfl) (.cons (gq 1 rfl) (.cons (gq 0 rfl) .nil)) (.cons (zbd (lz0 0 rfl)) (.cons arw .nil))) o0))))) (zz [(3,_),(1,_)] [⟨1,69,ptrH,_⟩,⟨2,78,ptrH,_⟩,⟨3,78,ptrH,_⟩,⟨4,95,ptrH,_⟩] fun a w O=>?_)
 refine zt<|zg [none,some (1,_),none,none] [] [.v 17 _,.sto 1] [.g 0,.g 1] O (zv rfl (zaq (lz0 2 rfl) zcb) (oc (zak rfl rfl rfl (vq 0 rfl) zcb (Eq.trans (b:=16) rfl rfl)) o0)) (zz [(3,_),(1,_)] [⟨1,69,ptrH,_⟩,⟨2,78,ptrH,_⟩,⟨3,78,ptrH,_⟩,⟨4,95,ptrH,_⟩] fun a w O=>?_)
 refine za0<|wp_ret<|zai ?_ (zaj rfl O (zm 1 rfl) zcb)
 exact (zc1 (.cons (zbp zd) (.cons (zbp zd) (.cons (zbp zd) (.cons (zbp zd) .nil))))).va
theorem rowOfK2 {p q:Rat}  : Cn Tryz.prog 25 [(QEA 2048 ((2:Nat):Int) p q).va] ((QMA 4099 ⟨1,0,0-p,1⟩).va):=by
 refine Cn.intro Tryz.func25 rfl zk nq (fun B w0 a O=>?_)
 have O:=zn [(0,(QEA 2048 ((2:Nat):Int) p q).va)] [] O
 refine wp_seq<|zg [] [⟨1,69,ptrH,some 0,_,none⟩,⟨2,78,ptrH,some 1,_,none⟩] [.alc 0,.alc 1] [] O (oc (zam rfl rfl rfl (gq 0 rfl)) (oc (zas rfl rfl rfl (Str.zero zbj)) o0)) (zz [] [⟨1,69,ptrH,_⟩,⟨2,78,ptrH,_⟩] fun a w O=>?_)
 refine zt<|zg [none,none] [⟨3,78,ptrH,some 1,_,some (2,_)⟩] [.v 5 _,.alc 2,.sto 2] [] O (zv rfl (za5 (xs:=[]) zhf .nil) (oc (zas rfl rfl rfl (Str.zero zbj)) (oc (zak rfl rfl rfl (vq 0 rfl) zcb (Eq.trans (b:=16) rfl rfl)) o0))) (zz [] [⟨1,69,ptrH,_⟩,⟨2,78,ptrH,_⟩,⟨3,78,ptrH,_⟩] fun a w O=>?_)
 refine zt ?_
 obtain ⟨q1,O⟩:=St.nm O 0 rfl
 obtain ⟨q3,O⟩:=St.nm O 2 rfl
 refine zg [none,none,none] [⟨4,95,ptrH,some 6,_,some (7,_)⟩] [.v 6 _,.v 7 _,.v 8 _,.v 9 _,.v 10 _,.v 11 _,.alc 3,.sto 3] [.g 0,.g 1] O (zv rfl (zdx (xs:=[.tmp 1,.tmp 3]) (vs:=[ptr q1,ptr q3]) (.cons (gq 1 rfl) (.cons (gq 0 rfl) .nil))) (zv rfl (zdx (xs:=[.tmp 1,.tmp 3]) (vs:=[ptr q1,ptr q3]) (.cons (gq 1 rfl) (.cons (gq 0 rfl) .nil))) (zv rfl (zdx (xs:=[.tmp 1,.tmp 3]) (vs:=[ptr q1,ptr q3]) (.cons (gq 1 rfl) (.cons (gq 0 rfl) .nil))) (zv rfl (zdx (xs:=[.tmp 1,.tmp 3]) (vs:=[ptr q1,ptr q3]) (.cons (gq 1 rfl) (.cons (gq 0 rfl) .nil))) (zv rfl (zdx (xs:=[.tmp 3]) (vs:=[ptr q3]) (.cons (gq 0 rfl) .nil)) (zv rfl (zhh (xs:=[(0,.func 94),(1,.tmp 6),(2,.tmp 7),(3,.tmp 8),(4,.tmp 9),(5,.tmp 10)]) (qs:=[(0,_),(1,_),(2,_),(3,_),(4,_),(5,_)]) zet (.cons ⟨rfl,zke,rfl⟩ (.cons ⟨rfl,(vq 0 rfl),rfl⟩ (.cons ⟨rfl,(vq 1 rfl),rfl⟩ (.cons ⟨rfl,(vq 2 rfl),rfl⟩ (.cons ⟨rfl,(vq 3 rfl),rfl⟩ (.cons ⟨rfl,(vq 4 rfl),rfl⟩ .nil))))))) (oc (zas rfl rfl rfl (Arr.zero zet)) (oc (zak rfl rfl rfl (vq 5 rfl) zv0 (Eq.trans (b:=6) rfl rfl)) o0)))))))) (zz [(3,_),(1,_)] [⟨1,69,ptrH,_⟩,⟨2,78,ptrH,_⟩,⟨3,78,ptrH,_⟩,⟨4,95,ptrH,_⟩] fun a w O=>?_)
 refine zt<|zg [none,none,some (4,_),none] [] [.adr 12 1 (.some 0) True,.v 13 _,.v 14 _,.v 15 _,.cal 16 _ 2] [.g 0,.g 1] O (oc (ob_a rfl rfl (za9 (lz0 0 rfl) zcy)) (zv rfl (za4 0 rfl zk trivial (lz0 0 rfl) (Sub.part 0 rfl rfl) zha) (zv rfl (zol (m:=1) (lz0 3 rfl) Tryz.underlying95 zk (n_ok zk) (vq 1 rfl) rfl) (zv rfl (zad (vq 2 rfl) ty_1) (oc (zka (xs:=[.tmp 1,.tmp 3]) (vs:=[ptr q1,ptr q3]) rfl rfl rfl rowOf3_c (vq 3 rfl) (.cons (gq 1 rfl) (.cons (gq 0 rfl) .nil)) (.cons (zbd (lz0 0 rfl)) (.cons arw .nil))) o0))))) (zz [(3,_),(1,_)] [⟨1,69,ptrH,_⟩,⟨2,78,ptrH,_⟩,⟨3,78,ptrH,_⟩,⟨4,95,ptrH,_⟩] fun a w O=>?_)
 refine zt<|zg [none,some (1,_),none,none] [] [.v 17 _,.sto 1] [.g 0,.g 1] O (zv rfl (zaq (lz0 2 rfl) zcb) (oc (zak rfl rfl rfl (vq 0 rfl) zcb (Eq.trans (b:=16) rfl rfl)) o0)) (zz [(3,_),(1,_)] [⟨1,69,ptrH,_⟩,⟨2,78,ptrH,_⟩,⟨3,78,ptrH,_⟩,⟨4,95,ptrH,_⟩] fun a w O=>?_)
 refine za0<|wp_ret<|zai ?_ (zaj rfl O (zm 1 rfl) zcb)
 exact (zc1 (.cons (zbp zd) (.cons (zbp zd) (.cons (zbp zd) (.cons (zbp zd) .nil))))).va
theorem rowOfK3 {p q:Rat}(h0:q≠0):Cn Tryz.prog 25 [(QEA 2048 ((3:Nat):Int) p q).va] ((QMA 4099 ⟨1,p/q,0,1⟩).va):=by
 refine Cn.intro Tryz.func25 rfl zk nq (fun B w0 a O=>?_)
 have O:=zn [(0,(QEA 2048 ((3:Nat):Int) p q).va)] [] O
 refine wp_seq<|zg [] [⟨1,69,ptrH,some 0,_,none⟩,⟨2,78,ptrH,some 1,_,none⟩] [.alc 0,.alc 1] [] O (oc (zam rfl rfl rfl (gq 0 rfl)) (oc (zas rfl rfl rfl (Str.zero zbj)) o0)) (zz [] [⟨1,69,ptrH,_⟩,⟨2,78,ptrH,_⟩] fun a w O=>?_)
 refine zt<|zg [none,none] [⟨3,78,ptrH,some 1,_,some (2,_)⟩] [.v 5 _,.alc 2,.sto 2] [] O (zv rfl (za5 (xs:=[]) zhf .nil) (oc (zas rfl rfl rfl (Str.zero zbj)) (oc (zak rfl rfl rfl (vq 0 rfl) zcb (Eq.trans (b:=16) rfl rfl)) o0))) (zz [] [⟨1,69,ptrH,_⟩,⟨2,78,ptrH,_⟩,⟨3,78,ptrH,_⟩] fun a w O=>?_)
 refine zt ?_
 obtain ⟨q1,O⟩:=St.nm O 0 rfl
 obtain ⟨q3,O⟩:=St.nm O 2 rfl
 refine zg [none,none,none] [⟨4,95,ptrH,some 6,_,some (7,_)⟩] [.v 6 _,.v 7 _,.v 8 _,.v 9 _,.v 10 _,.v 11 _,.alc 3,.sto 3] [.g 0,.g 1] O (zv rfl (zdx (xs:=[.tmp 1,.tmp 3]) (vs:=[ptr q1,ptr q3]) (.cons (gq 1 rfl) (.cons (gq 0 rfl) .nil))) (zv rfl (zdx (xs:=[.tmp 1,.tmp 3]) (vs:=[ptr q1,ptr q3]) (.cons (gq 1 rfl) (.cons (gq 0 rfl) .nil))) (zv rfl (zdx (xs:=[.tmp 1,.tmp 3]) (vs:=[ptr q1,ptr q3]) (.cons (gq 1 rfl) (.cons (gq 0 rfl) .nil))) (zv rfl (zdx (xs:=[.tmp 1,.tmp 3]) (vs:=[ptr q1,ptr q3]) (.cons (gq 1 rfl) (.cons (gq 0 rfl) .nil))) (zv rfl (zdx (xs:=[.tmp 3]) (vs:=[ptr q3]) (.cons (gq 0 rfl) .nil)) (zv rfl (zhh (xs:=[(0,.func 94),(1,.tmp 6),(2,.tmp 7),(3,.tmp 8),(4,.tmp 9),(5,.tmp 10)]) (qs:=[(0,_),(1,_),(2,_),(3,_),(4,_),(5,_)]) zet (.cons ⟨rfl,zke,rfl⟩ (.cons ⟨rfl,(vq 0 rfl),rfl⟩ (.cons ⟨rfl,(vq 1 rfl),rfl⟩ (.cons ⟨rfl,(vq 2 rfl),rfl⟩ (.cons ⟨rfl,(vq 3 rfl),rfl⟩ (.cons ⟨rfl,(vq 4 rfl),rfl⟩ .nil))))))) (oc (zas rfl rfl rfl (Arr.zero zet)) (oc (zak rfl rfl rfl (vq 5 rfl) zv0 (Eq.trans (b:=6) rfl rfl)) o0)))))))) (zz [(3,_),(1,_)] [⟨1,69,ptrH,_⟩,⟨2,78,ptrH,_⟩,⟨3,78,ptrH,_⟩,⟨4,95,ptrH,_⟩] fun a w O=>?_)
 refine zt<|zg [none,none,some (4,_),none] [] [.adr 12 1 (.some 0) True,.v 13 _,.v 14 _,.v 15 _,.cal 16 _ 2] [.g 0,.g 1] O (oc (ob_a rfl rfl (za9 (lz0 0 rfl) zcy)) (zv rfl (za4 0 rfl zk trivial (lz0 0 rfl) (Sub.part 0 rfl rfl) zha) (zv rfl (zol (m:=1) (lz0 3 rfl) Tryz.underlying95 zk (n_ok zk) (vq 1 rfl) rfl) (zv rfl (zad (vq 2 rfl) ty_1) (oc (zka (xs:=[.tmp 1,.tmp 3]) (vs:=[ptr q1,ptr q3]) rfl rfl rfl (rowOf4_c h0) (vq 3 rfl) (.cons (gq 1 rfl) (.cons (gq 0 rfl) .nil)) (.cons (zbd (lz0 0 rfl)) (.cons arw .nil))) o0))))) (zz [(3,_),(1,_)] [⟨1,69,ptrH,_⟩,⟨2,78,ptrH,_⟩,⟨3,78,ptrH,_⟩,⟨4,95,ptrH,_⟩] fun a w O=>?_)
 refine zt<|zg [none,some (1,_),none,none] [] [.v 17 _,.sto 1] [.g 0,.g 1] O (zv rfl (zaq (lz0 2 rfl) zcb) (oc (zak rfl rfl rfl (vq 0 rfl) zcb (Eq.trans (b:=16) rfl rfl)) o0)) (zz [(3,_),(1,_)] [⟨1,69,ptrH,_⟩,⟨2,78,ptrH,_⟩,⟨3,78,ptrH,_⟩,⟨4,95,ptrH,_⟩] fun a w O=>?_)
 refine za0<|wp_ret<|zai ?_ (zaj rfl O (zm 1 rfl) zcb)
 exact (zc1 (.cons (zbp zd) (.cons (zbp zd) (.cons (zbp zd) (.cons (zbp zd) .nil))))).va
theorem rowOfK4 {p q:Rat}  : Cn Tryz.prog 25 [(QEA 2048 ((4:Nat):Int) p q).va] ((QMA 4099 ⟨1,0,0-p*q,1⟩).va):=by
 refine Cn.intro Tryz.func25 rfl zk nq (fun B w0 a O=>?_)
 have O:=zn [(0,(QEA 2048 ((4:Nat):Int) p q).va)] [] O
 refine wp_seq<|zg [] [⟨1,69,ptrH,some 0,_,none⟩,⟨2,78,ptrH,some 1,_,none⟩] [.alc 0,.alc 1] [] O (oc (zam rfl rfl rfl (gq 0 rfl)) (oc (zas rfl rfl rfl (Str.zero zbj)) o0)) (zz [] [⟨1,69,ptrH,_⟩,⟨2,78,ptrH,_⟩] fun a w O=>?_)
 refine zt<|zg [none,none] [⟨3,78,ptrH,some 1,_,some (2,_)⟩] [.v 5 _,.alc 2,.sto 2] [] O (zv rfl (za5 (xs:=[]) zhf .nil) (oc (zas rfl rfl rfl (Str.zero zbj)) (oc (zak rfl rfl rfl (vq 0 rfl) zcb (Eq.trans (b:=16) rfl rfl)) o0))) (zz [] [⟨1,69,ptrH,_⟩,⟨2,78,ptrH,_⟩,⟨3,78,ptrH,_⟩] fun a w O=>?_)
 refine zt ?_
 obtain ⟨q1,O⟩:=St.nm O 0 rfl
 obtain ⟨q3,O⟩:=St.nm O 2 rfl
 refine zg [none,none,none] [⟨4,95,ptrH,some 6,_,some (7,_)⟩] [.v 6 _,.v 7 _,.v 8 _,.v 9 _,.v 10 _,.v 11 _,.alc 3,.sto 3] [.g 0,.g 1] O (zv rfl (zdx (xs:=[.tmp 1,.tmp 3]) (vs:=[ptr q1,ptr q3]) (.cons (gq 1 rfl) (.cons (gq 0 rfl) .nil))) (zv rfl (zdx (xs:=[.tmp 1,.tmp 3]) (vs:=[ptr q1,ptr q3]) (.cons (gq 1 rfl) (.cons (gq 0 rfl) .nil))) (zv rfl (zdx (xs:=[.tmp 1,.tmp 3]) (vs:=[ptr q1,ptr q3]) (.cons (gq 1 rfl) (.cons (gq 0 rfl) .nil))) (zv rfl (zdx (xs:=[.tmp 1,.tmp 3]) (vs:=[ptr q1,ptr q3]) (.cons (gq 1 rfl) (.cons (gq 0 rfl) .nil))) (zv rfl (zdx (xs:=[.tmp 3]) (vs:=[ptr q3]) (.cons (gq 0 rfl) .nil)) (zv rfl (zhh (xs:=[(0,.func 94),(1,.tmp 6),(2,.tmp 7),(3,.tmp 8),(4,.tmp 9),(5,.tmp 10)]) (qs:=[(0,_),(1,_),(2,_),(3,_),(4,_),(5,_)]) zet (.cons ⟨rfl,zke,rfl⟩ (.cons ⟨rfl,(vq 0 rfl),rfl⟩ (.cons ⟨rfl,(vq 1 rfl),rfl⟩ (.cons ⟨rfl,(vq 2 rfl),rfl⟩ (.cons ⟨rfl,(vq 3 rfl),rfl⟩ (.cons ⟨rfl,(vq 4 rfl),rfl⟩ .nil))))))) (oc (zas rfl rfl rfl (Arr.zero zet)) (oc (zak rfl rfl rfl (vq 5 rfl) zv0 (Eq.trans (b:=6) rfl rfl)) o0)))))))) (zz [(3,_),(1,_)] [⟨1,69,ptrH,_⟩,⟨2,78,ptrH,_⟩,⟨3,78,ptrH,_⟩,⟨4,95,ptrH,_⟩] fun a w O=>?_)
 refine zt<|zg [none,none,some (4,_),none] [] [.adr 12 1 (.some 0) True,.v 13 _,.v 14 _,.v 15 _,.cal 16 _ 2] [.g 0,.g 1] O (oc (ob_a rfl rfl (za9 (lz0 0 rfl) zcy)) (zv rfl (za4 0 rfl zk trivial (lz0 0 rfl) (Sub.part 0 rfl rfl) zha) (zv rfl (zol (m:=1) (lz0 3 rfl) Tryz.underlying95 zk (n_ok zk) (vq 1 rfl) rfl) (zv rfl (zad (vq 2 rfl) ty_1) (oc (zka (xs:=[.tmp 1,.tmp 3]) (vs:=[ptr q1,ptr q3]) rfl rfl rfl rowOf5_c (vq 3 rfl) (.cons (gq 1 rfl) (.cons (gq 0 rfl) .nil)) (.cons (zbd (lz0 0 rfl)) (.cons arw .nil))) o0))))) (zz [(3,_),(1,_)] [⟨1,69,ptrH,_⟩,⟨2,78,ptrH,_⟩,⟨3,78,ptrH,_⟩,⟨4,95,ptrH,_⟩] fun a w O=>?_)
 refine zt<|zg [none,some (1,_),none,none] [] [.v 17 _,.sto 1] [.g 0,.g 1] O (zv rfl (zaq (lz0 2 rfl) zcb) (oc (zak rfl rfl rfl (vq 0 rfl) zcb (Eq.trans (b:=16) rfl rfl)) o0)) (zz [(3,_),(1,_)] [⟨1,69,ptrH,_⟩,⟨2,78,ptrH,_⟩,⟨3,78,ptrH,_⟩,⟨4,95,ptrH,_⟩] fun a w O=>?_)
 refine za0<|wp_ret<|zai ?_ (zaj rfl O (zm 1 rfl) zcb)
 exact (zc1 (.cons (zbp zd) (.cons (zbp zd) (.cons (zbp zd) (.cons (zbp zd) .nil))))).va
theorem rowOfK5 {p q:Rat}  : Cn Tryz.prog 25 [(QEA 2048 ((5:Nat):Int) p q).va] ((QMA 4099 ⟨0-1,0-0,0-0,0-1⟩).va):=by
 refine Cn.intro Tryz.func25 rfl zk nq (fun B w0 a O=>?_)
 have O:=zn [(0,(QEA 2048 ((5:Nat):Int) p q).va)] [] O
 refine wp_seq<|zg [] [⟨1,69,ptrH,some 0,_,none⟩,⟨2,78,ptrH,some 1,_,none⟩] [.alc 0,.alc 1] [] O (oc (zam rfl rfl rfl (gq 0 rfl)) (oc (zas rfl rfl rfl (Str.zero zbj)) o0)) (zz [] [⟨1,69,ptrH,_⟩,⟨2,78,ptrH,_⟩] fun a w O=>?_)
 refine zt<|zg [none,none] [⟨3,78,ptrH,some 1,_,some (2,_)⟩] [.v 5 _,.alc 2,.sto 2] [] O (zv rfl (za5 (xs:=[]) zhf .nil) (oc (zas rfl rfl rfl (Str.zero zbj)) (oc (zak rfl rfl rfl (vq 0 rfl) zcb (Eq.trans (b:=16) rfl rfl)) o0))) (zz [] [⟨1,69,ptrH,_⟩,⟨2,78,ptrH,_⟩,⟨3,78,ptrH,_⟩] fun a w O=>?_)
 refine zt ?_
 obtain ⟨q1,O⟩:=St.nm O 0 rfl
 obtain ⟨q3,O⟩:=St.nm O 2 rfl
 refine zg [none,none,none] [⟨4,95,ptrH,some 6,_,some (7,_)⟩] [.v 6 _,.v 7 _,.v 8 _,.v 9 _,.v 10 _,.v 11 _,.alc 3,.sto 3] [.g 0,.g 1] O (zv rfl (zdx (xs:=[.tmp 1,.tmp 3]) (vs:=[ptr q1,ptr q3]) (.cons (gq 1 rfl) (.cons (gq 0 rfl) .nil))) (zv rfl (zdx (xs:=[.tmp 1,.tmp 3]) (vs:=[ptr q1,ptr q3]) (.cons (gq 1 rfl) (.cons (gq 0 rfl) .nil))) (zv rfl (zdx (xs:=[.tmp 1,.tmp 3]) (vs:=[ptr q1,ptr q3]) (.cons (gq 1 rfl) (.cons (gq 0 rfl) .nil))) (zv rfl (zdx (xs:=[.tmp 1,.tmp 3]) (vs:=[ptr q1,ptr q3]) (.cons (gq 1 rfl) (.cons (gq 0 rfl) .nil))) (zv rfl (zdx (xs:=[.tmp 3]) (vs:=[ptr q3]) (.cons (gq 0 rfl) .nil)) (zv rfl (zhh (xs:=[(0,.func 94),(1,.tmp 6),(2,.tmp 7),(3,.tmp 8),(4,.tmp 9),(5,.tmp 10)]) (qs:=[(0,_),(1,_),(2,_),(3,_),(4,_),(5,_)]) zet (.cons ⟨rfl,zke,rfl⟩ (.cons ⟨rfl,(vq 0 rfl),rfl⟩ (.cons ⟨rfl,(vq 1 rfl),rfl⟩ (.cons ⟨rfl,(vq 2 rfl),rfl⟩ (.cons ⟨rfl,(vq 3 rfl),rfl⟩ (.cons ⟨rfl,(vq 4 rfl),rfl⟩ .nil))))))) (oc (zas rfl rfl rfl (Arr.zero zet)) (oc (zak rfl rfl rfl (vq 5 rfl) zv0 (Eq.trans (b:=6) rfl rfl)) o0)))))))) (zz [(3,_),(1,_)] [⟨1,69,ptrH,_⟩,⟨2,78,ptrH,_⟩,⟨3,78,ptrH,_⟩,⟨4,95,ptrH,_⟩] fun a w O=>?_)
 refine zt<|zg [none,none,some (4,_),none] [] [.adr 12 1 (.some 0) True,.v 13 _,.v 14 _,.v 15 _,.cal 16 _ 2] [.g 0,.g 1] O (oc (ob_a rfl rfl (za9 (lz0 0 rfl) zcy)) (zv rfl (za4 0 rfl zk trivial (lz0 0 rfl) (Sub.part 0 rfl rfl) zha) (zv rfl (zol (m:=1) (lz0 3 rfl) Tryz.underlying95 zk (n_ok zk) (vq 1 rfl) rfl) (zv rfl (zad (vq 2 rfl) ty_1) (oc (zka (xs:=[.tmp 3]) (vs:=[ptr q3]) rfl rfl rfl rowOf6_c (vq 3 rfl) (.cons (gq 0 rfl) .nil) (.cons arw .nil)) o0))))) (zz [(3,_),(1,_)] [⟨1,69,ptrH,_⟩,⟨2,78,ptrH,_⟩,⟨3,78,ptrH,_⟩,⟨4,95,ptrH,_⟩] fun a w O=>?_)
 refine zt<|zg [none,some (1,_),none,none] [] [.v 17 _,.sto 1] [.g 0,.g 1] O (zv rfl (zaq (lz0 2 rfl) zcb) (oc (zak rfl rfl rfl (vq 0 rfl) zcb (Eq.trans (b:=16) rfl rfl)) o0)) (zz [(3,_),(1,_)] [⟨1,69,ptrH,_⟩,⟨2,78,ptrH,_⟩,⟨3,78,ptrH,_⟩,⟨4,95,ptrH,_⟩] fun a w O=>?_)
 refine za0<|wp_ret<|zai ?_ (zaj rfl O (zm 1 rfl) zcb)
 exact (zc1 (.cons (zbp zd) (.cons (zbp zd) (.cons (zbp zd) (.cons (zbp zd) .nil))))).va
end Go.Proofs.YthdbhckhignfcaaGreatDoor
