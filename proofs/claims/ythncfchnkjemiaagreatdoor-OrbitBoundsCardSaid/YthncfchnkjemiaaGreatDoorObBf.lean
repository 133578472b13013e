import Derived.Test.YthncfchnkjemiaaGreatDoorObAa
import Derived.Test.YthncfchnkjemiaaGreatDoorObAc
import Derived.Test.YthncfchnkjemiaaGreatDoorObBc
import Derived.Test.YthncfchnkjemiaaGreatDoorObBe
set_option linter.unusedVariables false
set_option linter.unusedSimpArgs false
set_option linter.unusedSectionVars false
set_option maxRecDepth 100000
namespace Go.Proofs.YthncfchnkjemiaaGreatDoor
open Go Go.RowKit
theorem q_pos {x:Rat}:x.num.sign>0↔0<x:=by
 refine ⟨fun h=>?_,fun h=>?_⟩
 ·have h1:0<x.num:=by
   apply Decidable.byContradiction
   intro hn
   have:x.num.sign≤0:=by
    rcases Int.lt_or_eq_of_le (Int.not_lt.1 hn) with h2 | h2
    ·rw [Int.sign_eq_neg_one_of_neg h2]; decide
    ·rw [h2]; decide
   omega
  exact Rat.lt_iff_le_and_ne.2 ⟨Rat.num_nonneg.1 (Int.le_of_lt h1),fun e=>by rw [← e] at h1; exact absurd h1 zd⟩
 ·have h0:0≤x.num:=Rat.num_nonneg.2 (Rat.lt_iff_le_and_ne.1 h).1
  have hne:x.num≠0:=fun e=>(Rat.lt_iff_le_and_ne.1 h).2 (Rat.num_eq_zero.1 e).symm
  rw [Int.sign_eq_one_of_pos zo]; decide
theorem q_neg {x:Rat}:x.num.sign<0↔x<0:=by
 have:=q_pos (x := -x)
 rw [Rat.neg_num,Int.sign_neg] at this
 exact ⟨fun h=>by have:=this.1 zo; grind,fun h=>by have:=this.2 (by grind); omega⟩
theorem q_zero {x:Rat}:(x.num.sign == 0)=true↔x=0:=by
 rw [beq_iff_eq,Int.sign_eq_zero_iff_zero,Rat.num_eq_zero]
theorem c_gt {x y:Rat}:cmQ x y>0↔y<x:=by
 unfold cmQ
 split
 ·rename_i h; exact ⟨fun h'=>by simp at h',fun h'=>by grind⟩
 ·split
  ·rename_i h2; exact ⟨fun _=>h2,fun _=>by decide⟩
  ·rename_i h1 h2; exact ⟨fun h'=>by simp at h',fun h'=>absurd h' h2⟩
theorem c_lt {x y:Rat}:cmQ x y<0↔x<y:=by
 unfold cmQ
 split
 ·rename_i h; exact ⟨fun _=>h,fun _=>by decide⟩
 ·rename_i h
  split
  ·exact ⟨fun h'=>by simp at h',fun h'=>absurd h' h⟩
  ·exact ⟨fun h'=>by simp at h',fun h'=>absurd h' h⟩
theorem sh_pos {t:Rat}:0<4 - t*t ↔ -2<t∧t<2:=by
 constructor
 ·intro h
  refine ⟨?_,?_⟩
  ·apply Decidable.byContradiction
   intro hn
   have:=Rat.mul_nonneg (show 0 ≤ -2 - t by grind) (show 0≤2 - t by grind)
   grind
  ·apply Decidable.byContradiction
   intro hn
   have:=Rat.mul_nonneg (show 0≤t - 2 by grind) (show 0≤t+2 by grind)
   grind
 ·rintro ⟨h1,h2⟩
  have:=Rat.mul_pos (show 0<2 - t by grind) (show 0<t+2 by grind)
  grind
def kc1 (m:MQ):Bool:=decide (cmQ (m.a+m.d) (Rat.divInt 2 1)<0) && decide (cmQ (m.a+m.d) (Rat.divInt (-2) 1)>0)
def kc2 (m:MQ):Bool:=decide (cmQ (m.a+m.d) (Rat.divInt 2 1)>0) || decide (cmQ (m.a+m.d) (Rat.divInt (-2) 1)<0)
def kc3 (m:MQ):Bool:=((m.b.num.sign == 0) && (m.c.num.sign == 0)) && (cmQ m.a m.d == 0)
def k13 (m:MQ):Int:=if kc1 m=true then 1 else if kc2 m=true then 4 else if kc3 m=true then 2 else 3
theorem k13_1 {m:MQ} (h:kc1 m=true):k13 m=1:=by rw [k13,if_pos h]
theorem k13_4 {m:MQ} (h:kc1 m=false) (h2:kc2 m=true):k13 m=4:=by rw [k13,if_neg (by rw [h]; decide),if_pos h2]
theorem k13_2 {m:MQ} (h:kc1 m=false) (h2:kc2 m=false) (h3:kc3 m=true):k13 m=2:=by rw [k13,if_neg (by rw [h]; decide),if_neg (by rw [h2]; decide),if_pos h3]
theorem k13_3 {m:MQ} (h:kc1 m=false) (h2:kc2 m=false) (h3:kc3 m=false):k13 m=3:=by rw [k13,if_neg (by rw [h]; decide),if_neg (by rw [h2]; decide),if_neg (by rw [h3]; decide)]
theorem e2:Rat.divInt 2 1=2:=rfl
theorem em2:Rat.divInt (-2) 1 = -2:=rfl
theorem kc1_sh {m:MQ}:kc1 m=true↔0<shQ' m:=by
 unfold kc1 shQ'
 rw [sh_pos,Bool.and_eq_true,decide_eq_true_eq,decide_eq_true_eq,c_lt,c_gt,e2,em2]
 exact ⟨fun h=>⟨h.2,h.1⟩,fun h=>⟨h.2,h.1⟩⟩
theorem kc2_sh {m:MQ}:kc2 m=true↔shQ' m<0:=by
 unfold kc2 shQ'
 rw [Bool.or_eq_true,decide_eq_true_eq,decide_eq_true_eq,c_lt,c_gt,e2,em2]
 generalize m.a+m.d=t
 constructor
 ·rintro (h | h)
  ·have:=Rat.mul_pos (show 0<t - 2 by grind) (show 0<t+2 by grind)
   grind
  ·have:=Rat.mul_pos (show 0 < -2 - t by grind) (show 0<2 - t by grind)
   grind
 ·intro h
  apply Decidable.byContradiction
  intro hn
  have h1:¬ 2<t:=fun h=>hn (.inl h)
  have h2:¬ t < -2:=fun h=>hn (.inr h)
  have:=Rat.mul_nonneg (show 0≤2 - t by grind) (show 0≤t+2 by grind)
  grind
theorem kc_0 {m:MQ} (h:kc1 m=false) (h2:kc2 m=false):shQ' m=0:=by
 have a:¬ 0<shQ' m:=fun e=>by rw [kc1_sh.2 e] at h; cases h
 have b:¬ shQ' m<0:=fun e=>by rw [kc2_sh.2 e] at h2; cases h2
 grind
theorem kc3_fo {m:MQ} (h:kc3 m=true) (r:YQ):foQ m r=0:=by
 unfold kc3 at h
 rw [Bool.and_eq_true,Bool.and_eq_true,q_zero,q_zero,cm_eq,decide_eq_true_eq] at h
 obtain ⟨⟨h1,h2⟩,h3⟩:=h
 unfold foQ goQ
 rw [h1,h2,h3]
 grind
theorem st13_a {m:MQ} {r:YQ} (h:(k13 m == 1 || k13 m == 2)=true):staQ m r=true:=by
 refine st_1 ?_
 cases h1:kc1 m with
 | true=>rw [Bool.or_eq_true,decide_eq_true_eq,q_pos]; exact .inl (kc1_sh.1 h1)
 | false=>cases h2:kc2 m with
  | true=>rw [k13_4 h1 h2] at h; cases h
  | false=>cases h3:kc3 m with
   | false=>rw [k13_3 h1 h2 h3] at h; cases h
   | true =>
    rw [Bool.or_eq_true,Bool.and_eq_true,q_zero,q_zero]
    exact .inr ⟨kc3_fo h3 r,kc_0 h1 h2⟩
theorem k_not {m:MQ} (h:(k13 m == 1 || k13 m == 2)=false):kc1 m=false:=by
 cases h1:kc1 m with
 | true=>rw [k13_1 h1] at h; cases h
 | false=>rfl
theorem st13_b {m:MQ} {r:YQ} (h:(k13 m == 1 || k13 m == 2)=false) (h2:(k13 m == 3)=true):staQ m r=((foQ m r).num.sign == 0):=by
 have h1:=k_not h
 have h3:kc2 m=false:=by
  cases h3:kc2 m with
  | true=>rw [k13_4 h1 h3] at h2; cases h2
  | false=>rfl
 have e:=kc_0 h1 h3
 cases hf:((foQ m r).num.sign == 0) with
 | true=>exact st_1 (by rw [hf,Bool.or_eq_true,Bool.and_eq_true,q_zero]; exact .inr ⟨rfl,e⟩)
 | false=>exact st_2 (by rw [hf,e]; rfl) (by rw [e]; rfl)
theorem k_4 {m:MQ} (h:(k13 m == 1 || k13 m == 2)=false) (h2:(k13 m == 3)=false):shQ' m<0:=by
 have h1:=k_not h
 cases h3:kc2 m with
 | true=>exact kc2_sh.1 h3
 | false=>cases h4:kc3 m with
  | true=>rw [k13_2 h1 h3 h4] at h; cases h
  | false=>rw [k13_3 h1 h3 h4] at h2; cases h2
theorem st_c0 {m:MQ} {r:YQ} (hs:shQ' m<0):(decide ((shQ' m).num.sign>0) || (((foQ m r).num.sign == 0) && ((shQ' m).num.sign == 0)))=false:=by
 rw [Bool.or_eq_false_iff,decide_eq_false_iff_not,q_pos,Bool.and_eq_false_iff]
 refine ⟨by grind,.inr ?_⟩
 cases h:((shQ' m).num.sign == 0) with
 | false=>rfl
 | true=>rw [q_zero] at h; grind
theorem st_z {m:MQ} (hs:shQ' m<0):((shQ' m).num.sign == 0)=false:=by
 cases h:((shQ' m).num.sign == 0) with
 | false=>rfl
 | true=>rw [q_zero] at h; grind
theorem st13_c {m:MQ} {r:YQ} (hs:shQ' m<0) (h:((foQ m r).num.sign != 0)=true):staQ m r=false:=st_2 (st_c0 hs) (by rw [h,Bool.or_true])
theorem ab_nn (x:Rat):0≤abQ x:=by
 unfold abQ
 split
 ·rename_i h; rw [q_neg] at h; grind
 ·rename_i h; rw [q_neg] at h; grind
theorem ab_sq (x:Rat):abQ x*abQ x=x*x:=by
 unfold abQ
 split <;> grind
theorem sq_mono {a b:Rat} (ha:0≤a) (hb:0≤b):b<a↔b*b<a*a:=by
 constructor
 ·intro h
  have:=Rat.mul_pos (show 0<a - b by grind) (show 0<a+b by grind)
  grind
 ·intro h
  apply Decidable.byContradiction
  intro hn
  have:=Rat.mul_nonneg (show 0≤b - a by grind) (show 0≤a+b by grind)
  grind
theorem cm_ab (x y:Rat):decide (cmQ (abQ x) (abQ y)≤0)=decide (cmQ (x*x) (y*y)≤0):=by
 refine decide_eq_decide.2 ?_
 rw [← ab_sq x,← ab_sq y]
 have h:=sq_mono (ab_nn x) (ab_nn y)
 have a1:=c_gt (x:=abQ x) (y:=abQ y)
 have a2:=c_gt (x:=abQ x*abQ x) (y:=abQ y*abQ y)
 constructor
 ·intro h1
  apply Decidable.byContradiction
  intro hn
  have:=a1.2 (h.2 (a2.1 zo))
  omega
 ·intro h1
  apply Decidable.byContradiction
  intro hn
  have:=a2.2 (h.1 (a1.1 zo))
  omega
theorem st13_d {m:MQ} {r:YQ} (hs:shQ' m<0) (h:((foQ m r).num.sign != 0)=false):(decide (cmQ (abQ (goQ m r).y) (abQ r.y)≤0) && decide (cmQ (abQ (goQ m r).u) (abQ r.u)≤0))=staQ m r:=by
 rw [st_3 (st_c0 hs) (by rw [h,st_z hs]; rfl),cm_ab,cm_ab]
theorem fo13 (m:MQ) (r:YQ):(m.c*(r.y*r.y)+(m.d - m.a)*(r.y*r.u)) - m.b*(r.u*r.u)=foQ m r:=by
 unfold foQ goQ
 grind
theorem bo13_n {m:MQ} {r:YQ} (h:(k13 m != 1)=true):boQ m r=r.y*r.y:=by
 have:kc1 m=false:=by
  cases h1:kc1 m with
  | true=>rw [k13_1 h1] at h; cases h
  | false=>rfl
 rw [boQ,if_pos]
 have h2:¬ 0<shQ' m:=fun e=>by rw [kc1_sh.2 e] at this; cases this
 apply Decidable.byContradiction
 intro hn
 exact h2 (q_pos.1 zo)
theorem bo13_y {m:MQ} (h:(k13 m != 1)=false):shQ' m≠0∧¬ (shQ' m).num.sign≤0:=by
 have h1:kc1 m=true:=by
  cases h1:kc1 m with
  | true=>rfl
  | false=>cases h2:kc2 m with
   | true=>rw [k13_4 h1 h2] at h; cases h
   | false=>cases h3:kc3 m with
    | true=>rw [k13_2 h1 h2 h3] at h; cases h
    | false=>rw [k13_3 h1 h2 h3] at h; cases h
 have hp:=kc1_sh.1 h1
 exact ⟨by grind,fun hn=>by have:=q_pos.2 hp; omega⟩
theorem str_walk3:Str Tryz.prog 295 [RIA ⟨false,[]⟩,RIA ⟨false,[]⟩,RIA ⟨false,[]⟩,RIA ⟨false,[]⟩,RIA ⟨false,[]⟩,RIA ⟨false,[]⟩,RIA ⟨false,[]⟩,RIA ⟨false,[]⟩] :=
 Str.of (z:=.agg #[.bool false,.slice none 0 0,.bool false,.slice none 0 0,.bool false,.slice none 0 0,.bool false,.slice none 0 0,.bool false,.slice none 0 0,.bool false,.slice none 0 0,.bool false,.slice none 0 0,.bool false,.slice none 0 0]) zk Tryz.underlying295 zk fun B w=>⟨[[.bool false,.slice none 0 0],[.bool false,.slice none 0 0],[.bool false,.slice none 0 0],[.bool false,.slice none 0 0],[.bool false,.slice none 0 0],[.bool false,.slice none 0 0],[.bool false,.slice none 0 0],[.bool false,.slice none 0 0]],rfl,(.cons (ri0_p B w) (.cons (ri0_p B w) (.cons (ri0_p B w) (.cons (ri0_p B w) (.cons (ri0_p B w) (.cons (ri0_p B w) (.cons (ri0_p B w) (.cons (ri0_p B w) .nil))))))))⟩
abbrev J4:=Int × Int × Int × Int
def wk3A (k j:Nat) (p:Int × Int) (d:Int) (m:J4) (q:Int):As:=cat [ZA k p.1,ZA k p.2,ZA k d,ZA j m.1,ZA j m.2.1,ZA j m.2.2.1,ZA j m.2.2.2,ZA j q]
theorem wk3_mono {k k' j:Nat} {p:Int × Int} {d:Int} {m:J4} {q:Int} (h:k≤k'):WkA (wk3A k j p d m q) (wk3A k' j p d m q):=cat_wk (.cons (za_mono h) (.cons (za_mono h) (.cons (za_mono h) (.cons (.refl _) (.cons (.refl _) (.cons (.refl _) (.cons (.refl _) (.cons (.refl _) .nil))))))))
def lq3 (xs:List Rat):Nat→Int
 | 0=>1
 | j+1=>lq3 xs j*Int.tdiv ((xs.getD j 0).den:Int) ((Int.gcd (lq3 xs j) ((xs.getD j 0).den:Int):Nat):Int)
theorem at_d3 {α:Type} {f:α→As} {xs:List α} {j:Nat} {d:α} (h:j<xs.length):(xs.map f)[j]?=some (f (xs.getD j d)):=by
 rw [List.getElem?_map,List.getElem?_eq_getElem h,List.getD_eq_getElem?_getD,List.getElem?_eq_getElem h]; rfl
theorem gcd_nz3 (q:Int) (x:Rat):((Int.gcd q (x.den:Int):Nat):Int)≠0:=by
 have h:=x.den_nz
 intro e
 have e2:Int.gcd q (x.den:Int)=0:=by omega
 have:=Int.gcd_eq_zero_iff.1 e2
 omega
theorem den_nz3 (x:Rat):(x.den:Int)≠0:=by have h:=x.den_nz; omega
theorem lc3_e {xs:List Rat} {j:Nat} (h:j<xs.length):ZA (2+2048*j+2048) (lq3 xs j*Int.tdiv ((xs.getD j 0).den:Int) ((Int.gcd (lq3 xs j) ((xs.getD j 0).den:Int):Nat):Int))=ZA (2+2048*(j+1)) (lq3 xs (j+1)):=by
 rw [lq3,show 2+2048*j+2048=2+2048*(j+1) by omega]
def ov3 (q:Int) (x:Rat):Int:=x.num*Int.tdiv q (x.den:Int)
def mq3 (m:MQ):Int:=lq3 [m.a,m.b,m.c,m.d] 4
def rq3 (r:YQ):Int:=lq3 [r.y,r.u] 2
def mI3 (m:MQ):J4:=(ov3 (mq3 m) m.a,ov3 (mq3 m) m.b,ov3 (mq3 m) m.c,ov3 (mq3 m) m.d)
def rI3 (r:YQ):Int × Int:=(ov3 (rq3 r) r.y,ov3 (rq3 r) r.u)
def st3 (m:J4) (p:Int × Int):Int × Int:=(m.1*p.1+m.2.1*p.2,m.2.2.1*p.1+m.2.2.2*p.2)
def wl3 (m:MQ) (r:YQ):Nat→Int × Int
 | 0=>rI3 r
 | k+1=>st3 (mI3 m) (wl3 m r k)
def wd3 (m:MQ) (r:YQ):Nat→Int
 | 0=>rq3 r
 | k+1=>wd3 m r k*mq3 m
theorem lq3_step {q d:Int} (hd:0<d):∃ c,0<c∧Int.tdiv d ((Int.gcd q d:Nat):Int)=c∧d∣q*c:=by
 obtain ⟨c,hc⟩:((Int.gcd q d:Nat):Int)∣d:=Int.gcd_dvd_right ..
 obtain ⟨e,he⟩:((Int.gcd q d:Nat):Int)∣q:=Int.gcd_dvd_left ..
 have hg0:(0:Int)≤((Int.gcd q d:Nat):Int):=Int.natCast_nonneg _
 generalize ((Int.gcd q d:Nat):Int)=g at *
 have hg:g≠0:=by
  rintro rfl
  omega
 refine ⟨c,?_,Int.tdiv_eq_of_eq_mul_right hg hc,⟨e,?_⟩⟩
 ·rcases Int.lt_or_le 0 c with h | h
  ·exact h
  ·have h2:g*c≤g*0:=Int.mul_le_mul_of_nonneg_left h hg0
   rw [← hc,Int.mul_zero] at h2
   omega
 ·subst hc he
  grind
theorem lq3_pos (xs:List Rat):∀ j,0<lq3 xs j
 | 0=>by show (0:Int)<1; decide
 | j+1=>by
  obtain ⟨c,h1,h2,_⟩:=lq3_step (q:=lq3 xs j) (d:=((xs.getD j 0).den:Int)) (by have:=(xs.getD j 0).den_nz; omega)
  show 0<lq3 xs j*Int.tdiv ((xs.getD j 0).den:Int) ((Int.gcd (lq3 xs j) ((xs.getD j 0).den:Int):Nat):Int)
  rw [h2]
  exact Int.mul_pos (lq3_pos xs j) h1
theorem lq3_dvd (xs:List Rat):∀ j i,i<j→((xs.getD i 0).den:Int)∣lq3 xs j
 | 0,_,h=>absurd h (Nat.not_lt_zero _)
 | j+1,i,h=>by
  obtain ⟨c,_,h2,h3⟩:=lq3_step (q:=lq3 xs j) (d:=((xs.getD j 0).den:Int)) (by have:=(xs.getD j 0).den_nz; omega)
  show _∣lq3 xs j*Int.tdiv ((xs.getD j 0).den:Int) ((Int.gcd (lq3 xs j) ((xs.getD j 0).den:Int):Nat):Int)
  rw [h2]
  by_cases e:i=j
  ·subst e; exact h3
  ·exact Int.dvd_trans (lq3_dvd xs j i zo) (Int.dvd_mul_right _ _)
theorem den3 (x:Rat):x*((x.den:Int):Rat)=(x.num:Rat):=by
 have h1:x=(x.num:Rat) / ((x.den:Int):Rat):=by rw [← Rat.divInt_eq_div]; exact (Rat.num_divInt_den x).symm
 have hd:((x.den:Int):Rat)≠0:=fun e=>den_nz3 x (Rat.intCast_inj.1 e)
 generalize ((x.den:Int):Rat)=d at *
 generalize (x.num:Rat)=n at *
 grind
theorem ov3_q {Q:Int} {x:Rat} (h:(x.den:Int)∣Q):((ov3 Q x:Int):Rat)=(Q:Rat)*x:=by
 obtain ⟨c,hc⟩:=h
 have hd:(x.den:Int)≠0:=den_nz3 x
 unfold ov3
 rw [Int.tdiv_eq_of_eq_mul_right hd hc,hc,Rat.intCast_mul,Rat.intCast_mul,← den3 x]
 grind
theorem tie3 (m:MQ) (r:YQ):0<wd3 m r 1∧(((wl3 m r 1).1:Int):Rat)=((wd3 m r 1:Int):Rat)*(goQ m r).y∧(((wl3 m r 1).2:Int):Rat)=((wd3 m r 1:Int):Rat)*(goQ m r).u:=by
 have h1:(((rI3 r).1:Int):Rat)=((rq3 r:Int):Rat)*r.y:=ov3_q (lq3_dvd [r.y,r.u] 2 0 zd)
 have h2:(((rI3 r).2:Int):Rat)=((rq3 r:Int):Rat)*r.u:=ov3_q (lq3_dvd [r.y,r.u] 2 1 zd)
 have ha:(((mI3 m).1:Int):Rat)=((mq3 m:Int):Rat)*m.a:=ov3_q (lq3_dvd [m.a,m.b,m.c,m.d] 4 0 zd)
 have hb:(((mI3 m).2.1:Int):Rat)=((mq3 m:Int):Rat)*m.b:=ov3_q (lq3_dvd [m.a,m.b,m.c,m.d] 4 1 zd)
 have hc:(((mI3 m).2.2.1:Int):Rat)=((mq3 m:Int):Rat)*m.c:=ov3_q (lq3_dvd [m.a,m.b,m.c,m.d] 4 2 zd)
 have hd:(((mI3 m).2.2.2:Int):Rat)=((mq3 m:Int):Rat)*m.d:=ov3_q (lq3_dvd [m.a,m.b,m.c,m.d] 4 3 zd)
 refine ⟨Int.mul_pos (lq3_pos [r.y,r.u] 2) (lq3_pos _ 4),?_,?_⟩
 ·show (((mI3 m).1*(rI3 r).1+(mI3 m).2.1*(rI3 r).2:Int):Rat)=((rq3 r*mq3 m:Int):Rat)*(m.a*r.y+m.b*r.u)
  rw [Rat.intCast_add,Rat.intCast_mul,Rat.intCast_mul,Rat.intCast_mul,h1,h2,ha,hb]
  grind
 ·show (((mI3 m).2.2.1*(rI3 r).1+(mI3 m).2.2.2*(rI3 r).2:Int):Rat)=((rq3 r*mq3 m:Int):Rat)*(m.c*r.y+m.d*r.u)
  rw [Rat.intCast_add,Rat.intCast_mul,Rat.intCast_mul,Rat.intCast_mul,h1,h2,hc,hd]
  grind
theorem ray3 (m:MQ) (r:YQ):(⟨Rat.divInt (wl3 m r 1).1 (wd3 m r 1),Rat.divInt (wl3 m r 1).2 (wd3 m r 1)⟩:YQ)=goQ m r:=by
 obtain ⟨h0,h1,h2⟩:=tie3 m r
 have hd:((wd3 m r 1:Int):Rat)≠0:=fun e=>by
  have:wd3 m r 1=0:=Rat.intCast_inj.1 e
  omega
 have e:goQ m r=⟨(goQ m r).y,(goQ m r).u⟩:=rfl
 rw [e,Rat.divInt_eq_div,Rat.divInt_eq_div,h1,h2]
 generalize (goQ m r).y=y
 generalize (goQ m r).u=u
 generalize ((wd3 m r 1:Int):Rat)=d at *
 simp only [YQ.mk.injEq]
 exact ⟨by grind,by grind⟩
theorem r13common_z (xs:List Rat) (hl:xs.length≤4):Cn Tryz.prog 357 [(SlA 24 [U32] (xs.map fun x:Rat=>ZA 2048 (x.den:Int))).va] (Zs 8194 (lq3 xs xs.length)):=by
 refine Cn.introF Tryz.func357 rfl zk nq (fun B w0 a hF hst=>?_)
 have hst:St B w0 32 [(0,(SlA 24 [U32] (xs.map fun x:Rat=>ZA 2048 (x.den:Int))).va)] [] a w0.w:=hst
 obtain ⟨v0,hv0,hst⟩:=St.eqv hst 0 rfl
 refine wp_seq ?_
 refine gl (sts:=[]) (news:=[⟨2,24,ptrH,some 0,_,none⟩]) (sp:=[.alc 0]) [.g 0] hst (oc (ob_alc rfl rfl rfl (Str.zero str_int)) o0) (fun a w hst=>?_)
 have hst:St B w0 32 [(0,_)] [⟨2,24,ptrH,_⟩] a w:=hst
 refine zt ?_
 refine gl (sts:=[none]) (news:=[⟨3,24,ptrH,some 1,_,some (2,_)⟩]) (sp:=[.val 7 _,.alc 1,.sto 1]) [.g 0] hst (zv rfl rfl (r_call (xs:=[.const (.int .i64 (1))]) (rof_z zd zd) (.cons has_num .nil)) (oc (ob_alc rfl rfl rfl (Str.zero str_int)) (oc (ob_sto rfl rfl rfl (vq 0 rfl) ty_24 (Eq.trans (b:=2) rfl rfl)) o0))) (fun a w hst=>?_)
 have hst:St B w0 32 [(0,_)] [⟨2,24,ptrH,_⟩,⟨3,24,ptrH,_⟩] a w:=hst
 refine zt ?_
 refine wp_seq ?_
 refine gl (sts:=[none,none]) (news:=[]) (sp:=[.val 4 _]) [.g 0,.o 0] hst (zv rfl rfl (r_assign has_num) o0) (fun a w hst=>?_)
 have hst:St B w0 32 [(0,_),(4,_)] [⟨2,24,ptrH,_⟩,⟨3,24,ptrH,_⟩] a w:=hst
 refine thn_normal ?_
 refine wp_block ?_
 have hst:=St.sel hst [0,1]
 refine wp_loop_ghost (fun n a w=>∃ j:Nat,(n+j=xs.length)∧St B w0 32 [(0,EqV v0),(4,In (j:Nat))] [⟨2,24,ptrH,cat [BoA false,MgA []]⟩,⟨3,24,ptrH,ZA (2+2048*j) (lq3 xs j)⟩] a w) (xs.length) ?_ ?_
 ·exact ⟨0,by omega,hst⟩
 intro n a w hI
 obtain ⟨j,hn,hst⟩:=hI
 refine wp_seq ?_
 refine wp_seq ?_
 refine gl (sts:=[none,none]) (news:=[]) (sp:=[.val 8 _,.val 9 _,.val 10 _,.val 11 _]) [.g 0,.g 1,.o 3] hst (zv rfl rfl (r_move (gq 1 rfl)) (zv rfl rfl (r_move (gq 0 rfl)) (zv rfl rfl (r_len Tryz.underlying306 (has_again hF hv0 (vq 1 rfl))) (zv rfl rfl (r_lss (vq 0 rfl) (vq 2 rfl)) o0)))) (fun a w hst=>?_)
 have hst:St B w0 32 [(0,_),(4,_),(11,_)] [⟨2,24,ptrH,_⟩,⟨3,24,ptrH,_⟩] a w:=hst
 refine thn_normal ?_
 refine cond_of hst (zm 2 rfl) (fun hb0=>?_) (fun hb0=>?_)
 ·have hj:j<xs.length:=by rw [List.length_map] at hb0; simp at hb0; omega
  refine wp_skip ?_
  refine zt ?_
  refine wp_block ?_
  refine wp_seq ?_
  refine go_draw (anc:=[[],[],[0,1],[0,1,2],[],[],[],[5,6],[5,6,7],[4,5,6,7,8],[0,1,2,3,4,5,6,7,8,9],[0,1,2,3,4,5,6,7,8,9,10],[0,1,2,3,4,5,6,7,8,9,10,11],[0,1,2,3,4,5,6,7,8,9,10,11],[],[],[0,1,2,3,4,5,6,7,8,9,10,11,12,14,15],[0,1,2,3,4,5,6,7,8,9,10,11,12,13,14,15,16]]) (sts:=[none,none]) (news:=[⟨5,24,ptrH,some 14,_,some (16,_)⟩,⟨6,24,ptrH,some 15,_,some (17,_)⟩]) (sp:=[.val 15 _,.val 16 _,.val 17 _,.val 18 _,.val 19 _,.val 20 _,.val 21 _,.val 22 _,.val 23 _,.val 24 _,.val 25 _,.val 14 _,.val 26 _,.val 27 _,.alc 2,.alc 3,.sto 2,.sto 3]) [.g 0,.g 1] follows_mixed hst (zv rfl rfl (r_move (gq 0 rfl)) (zv rfl rfl (r_move (gq 1 rfl)) (zv rfl rfl (r_idx sl_306 (map_n fun _=>rfl) (has_again hF hv0 (vq 0 rfl)) (vq 1 rfl) (at_d3 (d:=0) hj)) (zv rfl rfl (r_loade (vq 2 rfl) ty_24) (zv rfl rfl (r_load (lz0 1 rfl) ty_24) (zv rfl rfl (r_move (gq 0 rfl)) (zv rfl rfl (r_move (gq 1 rfl)) (zv rfl rfl (r_idx sl_306 (map_n fun _=>rfl) (has_again hF hv0 (vq 5 rfl)) (vq 6 rfl) (at_d3 (d:=0) hj)) (zv rfl rfl (r_loade (vq 7 rfl) ty_24) (zv rfl rfl (r_call (xs:=[.tmp 19,.tmp 23]) (rcommon_z zo zo) (.cons (vq 4 rfl) (.cons (vq 8 rfl) .nil))) (zv rfl rfl (r_call (xs:=[.tmp 18,.tmp 24]) (rdivide_z zo zo (gcd_nz3 _ _)) (.cons (vq 3 rfl) (.cons (vq 9 rfl) .nil))) (zv rfl rfl (r_move (vq 10 rfl)) (zv rfl rfl (r_ex0 (vq 11 rfl)) (zv rfl rfl (r_ex1 (vq 11 rfl)) (oc (ob_alc rfl rfl rfl (Str.zero str_int)) (oc (ob_alc rfl rfl rfl (Str.zero str_int)) (oc (ob_sto rfl rfl rfl (vq 12 rfl) ty_24 (Eq.trans (b:=2) rfl rfl)) (oc (ob_sto rfl rfl rfl (vq 13 rfl) ty_24 (Eq.trans (b:=2) rfl rfl)) o0)))))))))))))))))) zk zk zk zk (fun a w hst=>?_)
  have hst:St B w0 32 [(0,_),(4,_)] [⟨2,24,ptrH,_⟩,⟨3,24,ptrH,_⟩,⟨5,24,ptrH,_⟩,⟨6,24,ptrH,_⟩] a w:=hst
  refine thn_normal ?_
  refine gl (sts:=[none,some (3,_),none,none]) (news:=[]) (sp:=[.val 28 _,.val 29 _,.val 30 _,.sto 1]) [.g 0,.g 1] hst (zv rfl rfl (r_load (lz0 1 rfl) ty_24) (zv rfl rfl (r_load (lz0 2 rfl) ty_24) (zv rfl rfl (r_call (xs:=[.tmp 28,.tmp 29]) (rtimes_z zo zo) (.cons (vq 0 rfl) (.cons (vq 1 rfl) .nil))) (oc (ob_sto rfl rfl rfl (vq 2 rfl) ty_24 (Eq.trans (b:=2) rfl rfl)) o0)))) (fun a w hst=>?_)
  have hst:St B w0 32 [(0,_),(4,_)] [⟨2,24,ptrH,_⟩,⟨3,24,ptrH,_⟩,⟨5,24,ptrH,_⟩,⟨6,24,ptrH,_⟩] a w:=hst
  refine blk_normal ?_
  refine thn_normal ?_
  refine gl (sts:=[none,none,none,none]) (news:=[]) (sp:=[.val 12 _,.val 13 _,.val 4 _]) [.g 0,.o 2] hst (zv rfl rfl (r_move (gq 1 rfl)) (zv rfl rfl (r_add (vq 0 rfl) has_num ((wi64 zo zo).trans (by omega:(_:Int)=((j+1:Nat):Int)))) (zv rfl rfl (r_assign (vq 1 rfl)) o0))) (fun a w hst=>?_)
  have hst:St B w0 32 [(0,_),(4,_)] [⟨2,24,ptrH,_⟩,⟨3,24,ptrH,_⟩,⟨5,24,ptrH,_⟩,⟨6,24,ptrH,_⟩] a w:=hst
  refine thn_normal ?_
  have hst:=St.sel hst [0,1]
  have hst:=St.selL hst [0,1]
  exact ⟨n - 1,by omega,j+1,by omega,St.cvA hst 1 rfl (lc3_e hj)⟩
 ·obtain rfl:j=xs.length:=by rw [List.length_map] at hb0; simp at hb0; omega
  refine wp_exit ?_
  refine thn_exit ?_
  refine thn_exit ?_
  refine blk_exit ?_
  refine zt ?_
  refine gl (sts:=[some (1,_),none]) (news:=[]) (sp:=[.val 31 _,.sto 0]) [] hst (zv rfl rfl (r_load (lz0 1 rfl) ty_24) (oc (ob_sto rfl rfl rfl (vq 0 rfl) ty_24 (Eq.trans (b:=2) rfl rfl)) o0)) (fun a w hst=>?_)
  have hst:St B w0 32 [] [⟨2,24,ptrH,_⟩,⟨3,24,ptrH,_⟩] a w:=hst
  refine thn_normal ?_
  refine wp_ret ?_
  refine ret_wk ?_ (ret_cell rfl hst (zm 0 rfl) ty_24)
  exact (za_mono zo).va
theorem r13over_z {c d:Nat} {x:Rat} {q:Int} (hc:c≤400000000) (hd:d≤400000000):Cn Tryz.prog 358 [Qs c x,Zs d q] (Zs (c+d) (ov3 q x)):=by
 refine Cn.intro Tryz.func358 rfl zk nq (fun B w0 a hst=>?_)
 have hst:St B w0 18 [(0,Qs c x),(1,Zs d q)] [] a w0.w:=hst
 refine wp_seq ?_
 refine gl (sts:=[]) (news:=[⟨2,26,ptrH,some 0,_,none⟩,⟨3,24,ptrH,some 1,_,none⟩,⟨4,24,ptrH,some 2,_,none⟩]) (sp:=[.alc 0,.alc 1,.alc 2]) [] hst (oc (ob_box rfl rfl rfl (gq 0 rfl)) (oc (ob_box rfl rfl rfl (gq 1 rfl)) (oc (ob_alc rfl rfl rfl (Str.zero str_int)) o0))) (fun a w hst=>?_)
 have hst:St B w0 18 [] [⟨2,26,ptrH,_⟩,⟨3,24,ptrH,_⟩,⟨4,24,ptrH,_⟩] a w:=hst
 refine zt ?_
 refine gl (sts:=[none,none,none]) (news:=[⟨5,24,ptrH,some 7,_,some (9,_)⟩,⟨6,24,ptrH,some 8,_,some (10,_)⟩]) (sp:=[.val 8 _,.adr 9 2 (.some 2) True,.val 10 _,.val 11 _,.val 7 _,.val 12 _,.val 13 _,.alc 3,.alc 4,.sto 3,.sto 4]) [] hst (zv rfl rfl (r_load (lz0 1 rfl) ty_24) (oc (ob_a rfl rfl (a_fld (lz0 0 rfl) fld_26_1)) (zv rfl rfl (r_loadf 1 rfl zk trivial (lz0 0 rfl) (Sub.part 1 rfl rfl) ty_24) (zv rfl rfl (r_call (xs:=[.tmp 8,.tmp 10]) (rdivide_z zo zo (den_nz3 _)) (.cons (vq 0 rfl) (.cons (vq 2 rfl) .nil))) (zv rfl rfl (r_move (vq 3 rfl)) (zv rfl rfl (r_ex0 (vq 4 rfl)) (zv rfl rfl (r_ex1 (vq 4 rfl)) (oc (ob_alc rfl rfl rfl (Str.zero str_int)) (oc (ob_alc rfl rfl rfl (Str.zero str_int)) (oc (ob_sto rfl rfl rfl (vq 5 rfl) ty_24 (Eq.trans (b:=2) rfl rfl)) (oc (ob_sto rfl rfl rfl (vq 6 rfl) ty_24 (Eq.trans (b:=2) rfl rfl)) o0))))))))))) (fun a w hst=>?_)
 have hst:St B w0 18 [] [⟨2,26,ptrH,_⟩,⟨3,24,ptrH,_⟩,⟨4,24,ptrH,_⟩,⟨5,24,ptrH,_⟩,⟨6,24,ptrH,_⟩] a w:=hst
 refine zt ?_
 refine gl (sts:=[none,none,some (4,_),none,none]) (news:=[]) (sp:=[.adr 14 2 (.some 0) True,.val 15 _,.val 16 _,.val 17 _,.sto 2]) [] hst (oc (ob_a rfl rfl (a_fld (lz0 0 rfl) fld_26_0)) (zv rfl rfl (r_loadf 0 rfl zk trivial (lz0 0 rfl) (Sub.part 0 rfl rfl) ty_24) (zv rfl rfl (r_load (lz0 3 rfl) ty_24) (zv rfl rfl (r_call (xs:=[.tmp 15,.tmp 16]) (rtimes_z zo zo) (.cons (vq 1 rfl) (.cons (vq 2 rfl) .nil))) (oc (ob_sto rfl rfl rfl (vq 3 rfl) ty_24 (Eq.trans (b:=2) rfl rfl)) o0))))) (fun a w hst=>?_)
 have hst:St B w0 18 [] [⟨2,26,ptrH,_⟩,⟨3,24,ptrH,_⟩,⟨4,24,ptrH,_⟩,⟨5,24,ptrH,_⟩,⟨6,24,ptrH,_⟩] a w:=hst
 refine thn_normal ?_
 refine wp_ret ?_
 refine ret_wk ?_ (ret_cell rfl hst (zm 2 rfl) ty_24)
 exact wk_id
set_option maxHeartbeats 1000000 in
theorem r13begin_c (m:MQ) (r:YQ):Cn Tryz.prog 324 [(QMA 2048 m).va,(QRA 2048 r).va] ((wk3A 10242 10242 (rI3 r) (rq3 r) (mI3 m) (mq3 m)).va):=by
 refine Cn.intro Tryz.func324 rfl zk nq (fun B w0 a hst=>?_)
 have hst:St B w0 56 [(0,(QMA 2048 m).va),(1,(QRA 2048 r).va)] [] a w0.w:=hst
 refine wp_seq ?_
 refine gl (sts:=[]) (news:=[⟨2,28,ptrH,some 0,_,none⟩,⟨3,30,ptrH,some 1,_,none⟩,⟨4,295,ptrH,some 2,_,none⟩]) (sp:=[.alc 0,.alc 1,.alc 2]) [] hst (oc (ob_box rfl rfl rfl (gq 0 rfl)) (oc (ob_box rfl rfl rfl (gq 1 rfl)) (oc (ob_alc rfl rfl rfl (Str.zero str_walk3)) o0))) (fun a w hst=>?_)
 have hst:St B w0 56 [] [⟨2,28,ptrH,_⟩,⟨3,30,ptrH,_⟩,⟨4,295,ptrH,_⟩] a w:=hst
 refine zt ?_
 refine gl (sts:=[none,none,none]) (news:=[⟨5,24,ptrH,some 14,_,some (15,_)⟩]) (sp:=[.adr 7 2 (.some 0) True,.adr 8 2 (.some (0+2)) True,.val 9 _,.adr 10 2 (.some 4) True,.adr 11 2 (.some (4+2)) True,.val 12 _,.adr 13 2 (.some 8) True,.adr 14 2 (.some (8+2)) True,.val 15 _,.adr 16 2 (.some 12) True,.adr 17 2 (.some (12+2)) True,.val 18 _,.val 19 _,.val 20 _,.alc 3,.sto 3]) [] hst (oc (ob_a rfl rfl (a_fld (lz0 0 rfl) fld_28_0)) (oc (ob_a rfl rfl (a_fld2 0 rfl zk trivial (lz0 0 rfl) fld_26_1)) (zv rfl rfl (r_loadf 1 rfl zk trivial (lz0 0 rfl) (Sub.trans (Sub.part 0 rfl rfl) (Sub.part 1 rfl rfl) rfl) ty_24) (oc (ob_a rfl rfl (a_fld (lz0 0 rfl) fld_28_1)) (oc (ob_a rfl rfl (a_fld2 3 rfl zk trivial (lz0 0 rfl) fld_26_1)) (zv rfl rfl (r_loadf 4 rfl zk trivial (lz0 0 rfl) (Sub.trans (Sub.part 1 rfl rfl) (Sub.part 1 rfl rfl) rfl) ty_24) (oc (ob_a rfl rfl (a_fld (lz0 0 rfl) fld_28_2)) (oc (ob_a rfl rfl (a_fld2 6 rfl zk trivial (lz0 0 rfl) fld_26_1)) (zv rfl rfl (r_loadf 7 rfl zk trivial (lz0 0 rfl) (Sub.trans (Sub.part 2 rfl rfl) (Sub.part 1 rfl rfl) rfl) ty_24) (oc (ob_a rfl rfl (a_fld (lz0 0 rfl) fld_28_3)) (oc (ob_a rfl rfl (a_fld2 9 rfl zk trivial (lz0 0 rfl) fld_26_1)) (zv rfl rfl (r_loadf 10 rfl zk trivial (lz0 0 rfl) (Sub.trans (Sub.part 3 rfl rfl) (Sub.part 1 rfl rfl) rfl) ty_24) (zv rfl rfl (r_slice (D:=[U32]) (l:=[_,_,_,_]) (xs:=[.tmp 9,.tmp 12,.tmp 15,.tmp 18]) (nd_ok zk) sl_306 zk (n_ok zk) nq nq nq (.cons (vq 2 rfl) (.cons (vq 5 rfl) (.cons (vq 8 rfl) (.cons (vq 11 rfl) .nil)))) rfl rfl) (zv rfl rfl (r_call (xs:=[.tmp 19]) (r13common_z [m.a,m.b,m.c,m.d] nq) (.cons (vq 12 rfl) .nil)) (oc (ob_alc rfl rfl rfl (Str.zero str_int)) (oc (ob_sto rfl rfl rfl (vq 13 rfl) ty_24 (Eq.trans (b:=2) rfl rfl)) o0)))))))))))))))) (fun a w hst=>?_)
 have hst:St B w0 56 [] [⟨2,28,ptrH,_⟩,⟨3,30,ptrH,_⟩,⟨4,295,ptrH,_⟩,⟨5,24,ptrH,_⟩] a w:=hst
 refine zt ?_
 refine gl (sts:=[none,none,none,none]) (news:=[⟨6,24,ptrH,some 8,_,some (9,_)⟩]) (sp:=[.adr 21 3 (.some 0) True,.adr 22 3 (.some (0+2)) True,.val 23 _,.adr 24 3 (.some 4) True,.adr 25 3 (.some (4+2)) True,.val 26 _,.val 27 _,.val 28 _,.alc 4,.sto 4]) [] hst (oc (ob_a rfl rfl (a_fld (lz0 1 rfl) fld_30_0)) (oc (ob_a rfl rfl (a_fld2 0 rfl zk trivial (lz0 1 rfl) fld_26_1)) (zv rfl rfl (r_loadf 1 rfl zk trivial (lz0 1 rfl) (Sub.trans (Sub.part 0 rfl rfl) (Sub.part 1 rfl rfl) rfl) ty_24) (oc (ob_a rfl rfl (a_fld (lz0 1 rfl) fld_30_1)) (oc (ob_a rfl rfl (a_fld2 3 rfl zk trivial (lz0 1 rfl) fld_26_1)) (zv rfl rfl (r_loadf 4 rfl zk trivial (lz0 1 rfl) (Sub.trans (Sub.part 1 rfl rfl) (Sub.part 1 rfl rfl) rfl) ty_24) (zv rfl rfl (r_slice (D:=[U32]) (l:=[_,_]) (xs:=[.tmp 23,.tmp 26]) (nd_ok zk) sl_306 zk (n_ok zk) nq nq nq (.cons (vq 2 rfl) (.cons (vq 5 rfl) .nil)) rfl rfl) (zv rfl rfl (r_call (xs:=[.tmp 27]) (r13common_z [r.y,r.u] nq) (.cons (vq 6 rfl) .nil)) (oc (ob_alc rfl rfl rfl (Str.zero str_int)) (oc (ob_sto rfl rfl rfl (vq 7 rfl) ty_24 (Eq.trans (b:=2) rfl rfl)) o0)))))))))) (fun a w hst=>?_)
 have hst:St B w0 56 [] [⟨2,28,ptrH,_⟩,⟨3,30,ptrH,_⟩,⟨4,295,ptrH,_⟩,⟨5,24,ptrH,_⟩,⟨6,24,ptrH,_⟩] a w:=hst
 refine zt ?_
 refine go_draw (anc:=[[],[0],[],[0,1,2],[],[4],[],[0,1,2,3,4,5,6],[],[],[9],[],[0,1,2,3,4,5,6,7,9,10,11],[],[13],[],[0,1,2,3,4,5,6,7,9,10,11,12,13,14,15],[],[17],[],[0,1,2,3,4,5,6,7,9,10,11,12,13,14,15,16,17,18,19],[],[21],[],[0,1,2,3,4,5,6,7,9,10,11,12,13,14,15,16,17,18,19,20,21,22,23],[],[0,1,2,3,4,5,6,7,8,9,10,11,12,13,14,15,16,17,18,19,20,21,22,23,24,25],[0,1,2,3,4,5,6,7,8,9,10,11,12,13,14,15,16,17,18,19,20,21,22,23,24,25,26]]) (sts:=[none,none,some (27,_),none,none]) (news:=[]) (sp:=((.adr 29 3 (.some 0) True:Sp)::(.val 30 _)::(.val 31 _)::(.val 32 _)::(.adr 33 3 (.some 4) True)::(.val 34 _)::(.val 35 _)::(.val 36 _)::(.val 37 _)::(.adr 38 2 (.some 0) True)::(.val 39 _)::(.val 40 _)::(.val 41 _)::(.adr 42 2 (.some 4) True)::(.val 43 _)::(.val 44 _)::(.val 45 _)::(.adr 46 2 (.some 8) True)::(.val 47 _)::(.val 48 _)::(.val 49 _)::(.adr 50 2 (.some 12) True)::(.val 51 _)::(.val 52 _)::(.val 53 _)::(.val 54 _)::(.val 55 _)::(.sto 2)::[])) [] follows_mixed hst (oc (ob_a rfl rfl (a_fld (lz0 1 rfl) fld_30_0)) (zv rfl rfl (r_loadf 0 rfl zk trivial (lz0 1 rfl) (Sub.part 0 rfl rfl) ty_26) (zv rfl rfl (r_load (lz0 4 rfl) ty_24) (zv rfl rfl (r_call (xs:=[.tmp 30,.tmp 31]) (r13over_z zd zd) (.cons (vq 1 rfl) (.cons (vq 2 rfl) .nil))) (oc (ob_a rfl rfl (a_fld (lz0 1 rfl) fld_30_1)) (zv rfl rfl (r_loadf 4 rfl zk trivial (lz0 1 rfl) (Sub.part 1 rfl rfl) ty_26) (zv rfl rfl (r_load (lz0 4 rfl) ty_24) (zv rfl rfl (r_call (xs:=[.tmp 34,.tmp 35]) (r13over_z zd zd) (.cons (vq 5 rfl) (.cons (vq 6 rfl) .nil))) (zv rfl rfl (r_load (lz0 4 rfl) ty_24) (oc (ob_a rfl rfl (a_fld (lz0 0 rfl) fld_28_0)) (zv rfl rfl (r_loadf 9 rfl zk trivial (lz0 0 rfl) (Sub.part 0 rfl rfl) ty_26) (zv rfl rfl (r_load (lz0 3 rfl) ty_24) (zv rfl rfl (r_call (xs:=[.tmp 39,.tmp 40]) (r13over_z zd zd) (.cons (vq 10 rfl) (.cons (vq 11 rfl) .nil))) (oc (ob_a rfl rfl (a_fld (lz0 0 rfl) fld_28_1)) (zv rfl rfl (r_loadf 13 rfl zk trivial (lz0 0 rfl) (Sub.part 1 rfl rfl) ty_26) (zv rfl rfl (r_load (lz0 3 rfl) ty_24) (zv rfl rfl (r_call (xs:=[.tmp 43,.tmp 44]) (r13over_z zd zd) (.cons (vq 14 rfl) (.cons (vq 15 rfl) .nil))) (oc (ob_a rfl rfl (a_fld (lz0 0 rfl) fld_28_2)) (zv rfl rfl (r_loadf 17 rfl zk trivial (lz0 0 rfl) (Sub.part 2 rfl rfl) ty_26) (zv rfl rfl (r_load (lz0 3 rfl) ty_24) (zv rfl rfl (r_call (xs:=[.tmp 47,.tmp 48]) (r13over_z zd zd) (.cons (vq 18 rfl) (.cons (vq 19 rfl) .nil))) (oc (ob_a rfl rfl (a_fld (lz0 0 rfl) fld_28_3)) (zv rfl rfl (r_loadf 21 rfl zk trivial (lz0 0 rfl) (Sub.part 3 rfl rfl) ty_26) (zv rfl rfl (r_load (lz0 3 rfl) ty_24) (zv rfl rfl (r_call (xs:=[.tmp 51,.tmp 52]) (r13over_z zd zd) (.cons (vq 22 rfl) (.cons (vq 23 rfl) .nil))) (zv rfl rfl (r_load (lz0 3 rfl) ty_24) (zv rfl rfl (r_build (xs:=[(0,.tmp 32),(1,.tmp 36),(2,.tmp 37),(3,.tmp 41),(4,.tmp 45),(5,.tmp 49),(6,.tmp 53),(7,.tmp 54)]) (qs:=[(0,_),(1,_),(2,_),(3,_),(4,_),(5,_),(6,_),(7,_)]) str_walk3 (.cons ⟨rfl,(vq 3 rfl),rfl⟩ (.cons ⟨rfl,(vq 7 rfl),rfl⟩ (.cons ⟨rfl,(vq 8 rfl),rfl⟩ (.cons ⟨rfl,(vq 12 rfl),rfl⟩ (.cons ⟨rfl,(vq 16 rfl),rfl⟩ (.cons ⟨rfl,(vq 20 rfl),rfl⟩ (.cons ⟨rfl,(vq 24 rfl),rfl⟩ (.cons ⟨rfl,(vq 25 rfl),rfl⟩ .nil))))))))) (oc (ob_sto rfl rfl rfl (vq 26 rfl) ty_295 (Eq.trans (b:=16) rfl rfl)) o0)))))))))))))))))))))))))))) zk zk zk zk (fun a w hst=>?_)
 have hst:St B w0 56 [] [⟨2,28,ptrH,_⟩,⟨3,30,ptrH,_⟩,⟨4,295,ptrH,_⟩,⟨5,24,ptrH,_⟩,⟨6,24,ptrH,_⟩] a w:=hst
 refine thn_normal ?_
 refine wp_ret ?_
 refine ret_wk ?_ (ret_cell rfl hst (zm 2 rfl) ty_295)
 exact (cat_wk (.cons (za_mono zo) (.cons (za_mono zo) (.cons (za_mono zo) (.cons (za_mono zo) (.cons (za_mono zo) (.cons (za_mono zo) (.cons (za_mono zo) (.cons (za_mono zo) .nil))))))))).va
theorem r13next_c {k j:Nat} {p:Int × Int} {d:Int} {m:J4} {q:Int} (hk:k≤400000000) (hj:j≤400000000):Cn Tryz.prog 325 [(wk3A k j p d m q).va] ((wk3A (k+j+1) j (st3 m p) (d*q) m q).va):=by
 refine Cn.intro Tryz.func325 rfl zk nq (fun B w0 a hst=>?_)
 have hst:St B w0 36 [(0,(wk3A k j p d m q).va)] [] a w0.w:=hst
 refine wp_seq ?_
 refine gl (sts:=[]) (news:=[⟨1,295,ptrH,some 0,_,none⟩,⟨2,295,ptrH,some 1,_,none⟩]) (sp:=[.alc 0,.alc 1]) [] hst (oc (ob_box rfl rfl rfl (gq 0 rfl)) (oc (ob_alc rfl rfl rfl (Str.zero str_walk3)) o0)) (fun a w hst=>?_)
 have hst:St B w0 36 [] [⟨1,295,ptrH,_⟩,⟨2,295,ptrH,_⟩] a w:=hst
 refine zt ?_
 refine gl (sts:=[none,none]) (news:=[⟨3,295,ptrH,some 1,_,some (2,_)⟩]) (sp:=[.val 4 _,.alc 2,.sto 2]) [] hst (zv rfl rfl (r_load (lz0 0 rfl) ty_295) (oc (ob_alc rfl rfl rfl (Str.zero str_walk3)) (oc (ob_sto rfl rfl rfl (vq 0 rfl) ty_295 (Eq.trans (b:=16) rfl rfl)) o0))) (fun a w hst=>?_)
 have hst:St B w0 36 [] [⟨1,295,ptrH,_⟩,⟨2,295,ptrH,_⟩,⟨3,295,ptrH,_⟩] a w:=hst
 refine zt ?_
 refine go_draw (anc:=[[],[0],[],[2],[0,1,2,3],[],[5],[],[7],[0,1,2,3,4,5,6,7,8],[0,1,2,3,4,5,6,7,8,9],[0,1,2,3,4,5,6,7,8,9,10],[0,1,2,3,4,5,6,7,8,9,10,11]]) (sts:=[none,none,some (12,_)]) (news:=[]) (sp:=[.adr 5 1 (.some 6) True,.val 6 _,.adr 7 1 (.some 0) True,.val 8 _,.val 9 _,.adr 10 1 (.some 8) True,.val 11 _,.adr 12 1 (.some 2) True,.val 13 _,.val 14 _,.val 15 _,.adr 16 3 (.some 0) True,.sto 2]) [] follows_mixed hst (oc (ob_a rfl rfl (a_fld (lz0 0 rfl) fld_295_3)) (zv rfl rfl (r_loadf 0 rfl zk trivial (lz0 0 rfl) (Sub.part 3 rfl rfl) ty_24) (oc (ob_a rfl rfl (a_fld (lz0 0 rfl) fld_295_0)) (zv rfl rfl (r_loadf 2 rfl zk trivial (lz0 0 rfl) (Sub.part 0 rfl rfl) ty_24) (zv rfl rfl (r_call (xs:=[.tmp 6,.tmp 8]) (rtimes_z zo zo) (.cons (vq 1 rfl) (.cons (vq 3 rfl) .nil))) (oc (ob_a rfl rfl (a_fld (lz0 0 rfl) fld_295_4)) (zv rfl rfl (r_loadf 5 rfl zk trivial (lz0 0 rfl) (Sub.part 4 rfl rfl) ty_24) (oc (ob_a rfl rfl (a_fld (lz0 0 rfl) fld_295_1)) (zv rfl rfl (r_loadf 7 rfl zk trivial (lz0 0 rfl) (Sub.part 1 rfl rfl) ty_24) (zv rfl rfl (r_call (xs:=[.tmp 11,.tmp 13]) (rtimes_z zo zo) (.cons (vq 6 rfl) (.cons (vq 8 rfl) .nil))) (zv rfl rfl (r_call (xs:=[.tmp 9,.tmp 14]) (rplus_z zo zo) (.cons (vq 4 rfl) (.cons (vq 9 rfl) .nil))) (oc (ob_a rfl rfl (a_fld (lz0 2 rfl) fld_295_0)) (oc (ob_stof 11 rfl rfl rfl rfl zk (vq 10 rfl) ty_24 (Put.part 0 rfl rfl rfl)) o0))))))))))))) zk zk zk zk (fun a w hst=>?_)
 have hst:St B w0 36 [] [⟨1,295,ptrH,_⟩,⟨2,295,ptrH,_⟩,⟨3,295,ptrH,_⟩] a w:=hst
 refine zt ?_
 refine go_draw (anc:=[[],[0],[],[2],[0,1,2,3],[],[5],[],[7],[0,1,2,3,4,5,6,7,8],[0,1,2,3,4,5,6,7,8,9],[0,1,2,3,4,5,6,7,8,9,10],[0,1,2,3,4,5,6,7,8,9,10,11]]) (sts:=[none,none,some (12,_)]) (news:=[]) (sp:=[.adr 17 1 (.some 10) True,.val 18 _,.adr 19 1 (.some 0) True,.val 20 _,.val 21 _,.adr 22 1 (.some 12) True,.val 23 _,.adr 24 1 (.some 2) True,.val 25 _,.val 26 _,.val 27 _,.adr 28 3 (.some 2) True,.sto 2]) [] follows_mixed hst (oc (ob_a rfl rfl (a_fld (lz0 0 rfl) fld_295_5)) (zv rfl rfl (r_loadf 0 rfl zk trivial (lz0 0 rfl) (Sub.part 5 rfl rfl) ty_24) (oc (ob_a rfl rfl (a_fld (lz0 0 rfl) fld_295_0)) (zv rfl rfl (r_loadf 2 rfl zk trivial (lz0 0 rfl) (Sub.part 0 rfl rfl) ty_24) (zv rfl rfl (r_call (xs:=[.tmp 18,.tmp 20]) (rtimes_z zo zo) (.cons (vq 1 rfl) (.cons (vq 3 rfl) .nil))) (oc (ob_a rfl rfl (a_fld (lz0 0 rfl) fld_295_6)) (zv rfl rfl (r_loadf 5 rfl zk trivial (lz0 0 rfl) (Sub.part 6 rfl rfl) ty_24) (oc (ob_a rfl rfl (a_fld (lz0 0 rfl) fld_295_1)) (zv rfl rfl (r_loadf 7 rfl zk trivial (lz0 0 rfl) (Sub.part 1 rfl rfl) ty_24) (zv rfl rfl (r_call (xs:=[.tmp 23,.tmp 25]) (rtimes_z zo zo) (.cons (vq 6 rfl) (.cons (vq 8 rfl) .nil))) (zv rfl rfl (r_call (xs:=[.tmp 21,.tmp 26]) (rplus_z zo zo) (.cons (vq 4 rfl) (.cons (vq 9 rfl) .nil))) (oc (ob_a rfl rfl (a_fld (lz0 2 rfl) fld_295_1)) (oc (ob_stof 11 rfl rfl rfl rfl zk (vq 10 rfl) ty_24 (Put.part 1 rfl rfl rfl)) o0))))))))))))) zk zk zk zk (fun a w hst=>?_)
 have hst:St B w0 36 [] [⟨1,295,ptrH,_⟩,⟨2,295,ptrH,_⟩,⟨3,295,ptrH,_⟩] a w:=hst
 refine zt ?_
 refine gl (sts:=[none,none,some (6,_)]) (news:=[]) (sp:=[.adr 29 1 (.some 4) True,.val 30 _,.adr 31 1 (.some 14) True,.val 32 _,.val 33 _,.adr 34 3 (.some 4) True,.sto 2]) [] hst (oc (ob_a rfl rfl (a_fld (lz0 0 rfl) fld_295_2)) (zv rfl rfl (r_loadf 0 rfl zk trivial (lz0 0 rfl) (Sub.part 2 rfl rfl) ty_24) (oc (ob_a rfl rfl (a_fld (lz0 0 rfl) fld_295_7)) (zv rfl rfl (r_loadf 2 rfl zk trivial (lz0 0 rfl) (Sub.part 7 rfl rfl) ty_24) (zv rfl rfl (r_call (xs:=[.tmp 30,.tmp 32]) (rtimes_z zo zo) (.cons (vq 1 rfl) (.cons (vq 3 rfl) .nil))) (oc (ob_a rfl rfl (a_fld (lz0 2 rfl) fld_295_2)) (oc (ob_stof 5 rfl rfl rfl rfl zk (vq 4 rfl) ty_24 (Put.part 2 rfl rfl rfl)) o0))))))) (fun a w hst=>?_)
 have hst:St B w0 36 [] [⟨1,295,ptrH,_⟩,⟨2,295,ptrH,_⟩,⟨3,295,ptrH,_⟩] a w:=hst
 refine zt ?_
 refine gl (sts:=[none,some (1,_),none]) (news:=[]) (sp:=[.val 35 _,.sto 1]) [] hst (zv rfl rfl (r_load (lz0 2 rfl) ty_295) (oc (ob_sto rfl rfl rfl (vq 0 rfl) ty_295 (Eq.trans (b:=16) rfl rfl)) o0)) (fun a w hst=>?_)
 have hst:St B w0 36 [] [⟨1,295,ptrH,_⟩,⟨2,295,ptrH,_⟩,⟨3,295,ptrH,_⟩] a w:=hst
 refine thn_normal ?_
 refine wp_ret ?_
 refine ret_wk ?_ (ret_cell rfl hst (zm 1 rfl) ty_295)
 exact (cat_wk (.cons (za_mono zo) (.cons (za_mono zo) (.cons (za_mono zo) (.cons (za_mono zo) (.cons (za_mono zo) (.cons (za_mono zo) (.cons (za_mono zo) (.cons (za_mono zo) .nil))))))))).va
theorem r13ray_q {k j:Nat} {p:Int × Int} {d:Int} {m:J4} {q:Int} (hk:k≤400000000) (hd:d≠0):Cn Tryz.prog 326 [(wk3A k j p d m q).va] ((QRA k ⟨Rat.divInt p.1 d,Rat.divInt p.2 d⟩).va):=by
 refine Cn.intro Tryz.func326 rfl zk nq (fun B w0 a hst=>?_)
 have hst:St B w0 14 [(0,(wk3A k j p d m q).va)] [] a w0.w:=hst
 refine wp_seq ?_
 refine gl (sts:=[]) (news:=[⟨1,295,ptrH,some 0,_,none⟩,⟨2,30,ptrH,some 1,_,none⟩]) (sp:=[.alc 0,.alc 1]) [] hst (oc (ob_box rfl rfl rfl (gq 0 rfl)) (oc (ob_alc rfl rfl rfl (Str.zero str_ray)) o0)) (fun a w hst=>?_)
 have hst:St B w0 14 [] [⟨1,295,ptrH,_⟩,⟨2,30,ptrH,_⟩] a w:=hst
 refine zt ?_
 refine go_draw (anc:=[[],[0],[],[2],[0,1,2,3],[],[5],[],[7],[0,1,2,3,4,5,6,7,8],[0,1,2,3,4,5,6,7,8,9],[0,1,2,3,4,5,6,7,8,9,10]]) (sts:=[none,some (11,_)]) (news:=[]) (sp:=[.adr 3 1 (.some 0) True,.val 4 _,.adr 5 1 (.some 4) True,.val 6 _,.val 7 _,.adr 8 1 (.some 2) True,.val 9 _,.adr 10 1 (.some 4) True,.val 11 _,.val 12 _,.val 13 _,.sto 1]) [] follows_mixed hst (oc (ob_a rfl rfl (a_fld (lz0 0 rfl) fld_295_0)) (zv rfl rfl (r_loadf 0 rfl zk trivial (lz0 0 rfl) (Sub.part 0 rfl rfl) ty_24) (oc (ob_a rfl rfl (a_fld (lz0 0 rfl) fld_295_2)) (zv rfl rfl (r_loadf 2 rfl zk trivial (lz0 0 rfl) (Sub.part 2 rfl rfl) ty_24) (zv rfl rfl (r_call (xs:=[.tmp 4,.tmp 6]) (r2lowest_q zo zo hd) (.cons (vq 1 rfl) (.cons (vq 3 rfl) .nil))) (oc (ob_a rfl rfl (a_fld (lz0 0 rfl) fld_295_1)) (zv rfl rfl (r_loadf 5 rfl zk trivial (lz0 0 rfl) (Sub.part 1 rfl rfl) ty_24) (oc (ob_a rfl rfl (a_fld (lz0 0 rfl) fld_295_2)) (zv rfl rfl (r_loadf 7 rfl zk trivial (lz0 0 rfl) (Sub.part 2 rfl rfl) ty_24) (zv rfl rfl (r_call (xs:=[.tmp 9,.tmp 11]) (r2lowest_q zo zo hd) (.cons (vq 6 rfl) (.cons (vq 8 rfl) .nil))) (zv rfl rfl (r_build (xs:=[(0,.tmp 7),(1,.tmp 12)]) (qs:=[(0,_),(1,_)]) str_ray (.cons ⟨rfl,(vq 4 rfl),rfl⟩ (.cons ⟨rfl,(vq 9 rfl),rfl⟩ .nil))) (oc (ob_sto rfl rfl rfl (vq 10 rfl) ty_30 (Eq.trans (b:=8) rfl rfl)) o0)))))))))))) zk zk zk zk (fun a w hst=>?_)
 have hst:St B w0 14 [] [⟨1,295,ptrH,_⟩,⟨2,30,ptrH,_⟩] a w:=hst
 refine thn_normal ?_
 refine wp_ret ?_
 refine ret_wk ?_ (ret_cell rfl hst (zm 1 rfl) ty_30)
 exact (cat_wk (.cons (qa_mono zo) (.cons (qa_mono zo) .nil))).va
theorem r13gone1_q (m:MQ) (r:YQ):Cn Tryz.prog 247 [(QMA 2048 m).va,(QRA 2048 r).va,In 1] ((QRA 30728 (goQ m r)).va):=by
 have hd3:wd3 m r 1≠0:=by have:=(tie3 m r).1; omega
 refine Cn.intro Tryz.func247 rfl zk nq (fun B w0 a hst=>?_)
 have hst:St B w0 21 [(0,(QMA 2048 m).va),(1,(QRA 2048 r).va),(2,In 1)] [] a w0.w:=hst
 refine wp_seq ?_
 refine gl (sts:=[]) (news:=[⟨3,28,ptrH,some 0,_,none⟩,⟨4,30,ptrH,some 1,_,none⟩,⟨6,30,ptrH,some 2,_,none⟩]) (sp:=[.alc 0,.alc 1,.alc 2]) [.g 2] hst (oc (ob_box rfl rfl rfl (gq 0 rfl)) (oc (ob_box rfl rfl rfl (gq 1 rfl)) (oc (ob_alc rfl rfl rfl (Str.zero str_ray)) o0))) (fun a w hst=>?_)
 have hst:St B w0 21 [(2,_)] [⟨3,28,ptrH,_⟩,⟨4,30,ptrH,_⟩,⟨6,30,ptrH,_⟩] a w:=hst
 refine zt ?_
 refine gl (sts:=[none,none,none]) (news:=[⟨7,295,ptrH,some 3,_,some (4,_)⟩]) (sp:=[.val 9 _,.val 10 _,.val 11 _,.alc 3,.sto 3]) [.g 0] hst (zv rfl rfl (r_load (lz0 0 rfl) ty_28) (zv rfl rfl (r_load (lz0 1 rfl) ty_30) (zv rfl rfl (r_call (xs:=[.tmp 9,.tmp 10]) (r13begin_c m r) (.cons (vq 0 rfl) (.cons (vq 1 rfl) .nil))) (oc (ob_alc rfl rfl rfl (Str.zero str_walk3)) (oc (ob_sto rfl rfl rfl (vq 2 rfl) ty_295 (Eq.trans (b:=16) rfl rfl)) o0))))) (fun a w hst=>?_)
 have hst:St B w0 21 [(2,_)] [⟨3,28,ptrH,_⟩,⟨4,30,ptrH,_⟩,⟨6,30,ptrH,_⟩,⟨7,295,ptrH,_⟩] a w:=hst
 refine zt ?_
 refine wp_seq ?_
 refine gl (sts:=[none,none,none,none]) (news:=[]) (sp:=[.val 8 _]) [.g 0,.o 0] hst (zv rfl rfl (r_assign has_num) o0) (fun a w hst=>?_)
 have hst:St B w0 21 [(2,_),(8,_)] [⟨3,28,ptrH,_⟩,⟨4,30,ptrH,_⟩,⟨6,30,ptrH,_⟩,⟨7,295,ptrH,_⟩] a w:=hst
 refine thn_normal ?_
 refine wp_block ?_
 have hst:=St.sel hst [0,1]
 refine wp_loop_ghost (fun n a w=>∃ j:Nat,(n+j=1)∧St B w0 21 [(2,In 1),(8,In (j:Nat))] [⟨3,28,ptrH,QMA 2048 m⟩,⟨4,30,ptrH,QRA 2048 r⟩,⟨6,30,ptrH,RRA rr0⟩,⟨7,295,ptrH,wk3A (10242+20485*j) 10242 (wl3 m r j) (wd3 m r j) (mI3 m) (mq3 m)⟩] a w) (1) ?_ ?_
 ·exact ⟨0,by omega,hst⟩
 intro n a w hI
 obtain ⟨j,hn,hst⟩:=hI
 refine wp_seq ?_
 refine wp_seq ?_
 refine gl (sts:=[none,none,none,none]) (news:=[]) (sp:=[.val 12 _,.val 13 _,.val 14 _]) [.g 0,.g 1,.o 2] hst (zv rfl rfl (r_move (gq 1 rfl)) (zv rfl rfl (r_move (gq 0 rfl)) (zv rfl rfl (r_lss (vq 0 rfl) (vq 1 rfl)) o0))) (fun a w hst=>?_)
 have hst:St B w0 21 [(2,_),(8,_),(14,_)] [⟨3,28,ptrH,_⟩,⟨4,30,ptrH,_⟩,⟨6,30,ptrH,_⟩,⟨7,295,ptrH,_⟩] a w:=hst
 refine thn_normal ?_
 refine cond_of hst (zm 2 rfl) (fun hb0=>?_) (fun hb0=>?_)
 ·have hj:j=0:=by have:=of_decide_eq_true hb0; omega
  refine wp_skip ?_
  refine zt ?_
  refine wp_block ?_
  refine gl (sts:=[none,none,none,some (2,_)]) (news:=[]) (sp:=[.val 17 _,.val 18 _,.sto 3]) [.g 0,.g 1] hst (zv rfl rfl (r_load (lz0 3 rfl) ty_295) (zv rfl rfl (r_call (xs:=[.tmp 17]) (r13next_c zo zd) (.cons (vq 0 rfl) .nil)) (oc (ob_sto rfl rfl rfl (vq 1 rfl) ty_295 (Eq.trans (b:=16) rfl rfl)) o0))) (fun a w hst=>?_)
  have hst:St B w0 21 [(2,_),(8,_)] [⟨3,28,ptrH,_⟩,⟨4,30,ptrH,_⟩,⟨6,30,ptrH,_⟩,⟨7,295,ptrH,_⟩] a w:=hst
  refine blk_normal ?_
  refine thn_normal ?_
  refine gl (sts:=[none,none,none,none]) (news:=[]) (sp:=[.val 15 _,.val 16 _,.val 8 _]) [.g 0,.o 2] hst (zv rfl rfl (r_move (gq 1 rfl)) (zv rfl rfl (r_add (vq 0 rfl) has_num ((wi64 zo zo).trans (by omega:(_:Int)=((j+1:Nat):Int)))) (zv rfl rfl (r_assign (vq 1 rfl)) o0))) (fun a w hst=>?_)
  have hst:St B w0 21 [(2,_),(8,_)] [⟨3,28,ptrH,_⟩,⟨4,30,ptrH,_⟩,⟨6,30,ptrH,_⟩,⟨7,295,ptrH,_⟩] a w:=hst
  refine thn_normal ?_
  have hst:=St.sel hst [0,1]
  exact ⟨n - 1,by omega,j+1,by omega,St.wkL hst 3 rfl (wk3_mono zo)⟩
 ·obtain rfl:j=1:=by have:=of_decide_eq_false hb0; omega
  refine wp_exit ?_
  refine thn_exit ?_
  refine thn_exit ?_
  refine blk_exit ?_
  refine zt ?_
  refine gl (sts:=[none,none,some (2,_),none]) (news:=[]) (sp:=[.val 19 _,.val 20 _,.sto 2]) [] hst (zv rfl rfl (r_load (lz0 3 rfl) ty_295) (zv rfl rfl (r_call (xs:=[.tmp 19]) (r13ray_q zo hd3) (.cons (vq 0 rfl) .nil)) (oc (ob_sto rfl rfl rfl (vq 1 rfl) ty_30 (Eq.trans (b:=8) rfl rfl)) o0))) (fun a w hst=>?_)
  have hst:St B w0 21 [] [⟨3,28,ptrH,_⟩,⟨4,30,ptrH,_⟩,⟨6,30,ptrH,_⟩,⟨7,295,ptrH,_⟩] a w:=hst
  refine thn_normal ?_
  refine wp_ret ?_
  refine ret_wk ?_ (ret_cell rfl hst (zm 2 rfl) ty_30)
  rw [← ray3]; exact (cat_wk (.cons (qa_mono zd) (.cons (qa_mono zd) .nil))).va
theorem r13fine_c (m:RM) (r:RR):Cn Tryz.prog 95 [(RMA m).va,(RRA r).va] (Bo (fiO m r)):=by
 refine Cn.intro Tryz.func95 rfl zk nq (fun B w0 a hst=>?_)
 have hst:St B w0 12 [(0,(RMA m).va),(1,(RRA r).va)] [] a w0.w:=hst
 refine wp_seq ?_
 refine gl (sts:=[]) (news:=[⟨2,28,ptrH,some 0,_,none⟩,⟨3,30,ptrH,some 1,_,none⟩]) (sp:=[.alc 0,.alc 1,.val 4 _]) [.o 2] hst (oc (ob_box rfl rfl rfl (gq 0 rfl)) (oc (ob_box rfl rfl rfl (gq 1 rfl)) (zv rfl rfl (r_assign has_bo) o0))) (fun a w hst=>?_)
 have hst:St B w0 12 [(4,_)] [⟨2,28,ptrH,_⟩,⟨3,30,ptrH,_⟩] a w:=hst
 refine zt ?_
 refine gl (sts:=[none,none]) (news:=[]) (sp:=[.val 5 _,.val 6 _,.val 7 _,.val 8 _,.val 9 (Wh (_=true) _),.val 10 (Wh (_=true) _),.val 11 _,.val 4 _]) [.o 7] hst (zv rfl rfl (r_load (lz0 0 rfl) ty_28) (zv rfl rfl (r_call (xs:=[.tmp 5]) (r9check_c m) (.cons (vq 0 rfl) .nil)) (zv rfl rfl (r_eql (vq 1 rfl) has_num) (zv rfl rfl (r_move (vq 2 rfl)) (oc (ob_gd rfl rfl rfl (vq 3 rfl) nq (fun hg=>r_load (lz0 1 rfl) ty_30)) (oc (ob_gd rfl rfl rfl (vq 3 rfl) nq (fun hg=>r_call (xs:=[.tmp 9]) (r9mayRay_c r) (.cons (has_wh (vq 4 rfl) hg) .nil))) (zv rfl rfl (r_and (vq 3 rfl) (vq 5 rfl)) (zv rfl rfl (r_assign (vq 6 rfl)) o0)))))))) (fun a w hst=>?_)
 have hst:St B w0 12 [(4,_)] [⟨2,28,ptrH,_⟩,⟨3,30,ptrH,_⟩] a w:=hst
 refine thn_normal ?_
 refine wp_ret ?_
 refine ret_wk ?_ (ret_tmp rfl hst (zm 0 rfl))
 refine wk_eq (congrArg Bo ?_); unfold fiO; cases okM m <;> simp
theorem r13kind_q {m:MQ}:Cn Tryz.prog 99 [(QMA 2048 m).va] (In (k13 m)):=by
 refine Cn.intro Tryz.func99 rfl zk nq (fun B w0 a hst=>?_)
 have hst:St B w0 52 [(0,(QMA 2048 m).va)] [] a w0.w:=hst
 refine wp_seq ?_
 refine gl (sts:=[]) (news:=[⟨1,28,ptrH,some 0,_,none⟩]) (sp:=[.alc 0,.val 2 _]) [.o 1] hst (oc (ob_box rfl rfl rfl (gq 0 rfl)) (zv rfl rfl (r_assign has_num) o0)) (fun a w hst=>?_)
 have hst:St B w0 52 [(2,_)] [⟨1,28,ptrH,_⟩] a w:=hst
 refine zt ?_
 refine gl (sts:=[none]) (news:=[⟨3,26,ptrH,some 5,_,some (6,_)⟩]) (sp:=[.adr 7 1 (.some 0) True,.val 8 _,.adr 9 1 (.some 12) True,.val 10 _,.val 11 _,.alc 1,.sto 1]) [.g 0] hst (oc (ob_a rfl rfl (a_fld (lz0 0 rfl) fld_28_0)) (zv rfl rfl (r_loadf 0 rfl zk trivial (lz0 0 rfl) (Sub.part 0 rfl rfl) ty_26) (oc (ob_a rfl rfl (a_fld (lz0 0 rfl) fld_28_3)) (zv rfl rfl (r_loadf 2 rfl zk trivial (lz0 0 rfl) (Sub.part 3 rfl rfl) ty_26) (zv rfl rfl (r_call (xs:=[.tmp 8,.tmp 10]) (r2plus_q zo) (.cons (vq 1 rfl) (.cons (vq 3 rfl) .nil))) (oc (ob_alc rfl rfl rfl (Str.zero str_frac)) (oc (ob_sto rfl rfl rfl (vq 4 rfl) ty_26 (Eq.trans (b:=4) rfl rfl)) o0))))))) (fun a w hst=>?_)
 have hst:St B w0 52 [(2,_)] [⟨1,28,ptrH,_⟩,⟨3,26,ptrH,_⟩] a w:=hst
 refine zt ?_
 refine gl (sts:=[none,none]) (news:=[⟨4,26,ptrH,some 1,_,some (2,_)⟩]) (sp:=[.val 12 _,.alc 2,.sto 2]) [.g 0] hst (zv rfl rfl (r_call (xs:=[.const (.int .i64 (2)),.const (.int .i64 (1))]) (r2small_q zd zd zd zd zd) (.cons has_num (.cons has_num .nil))) (oc (ob_alc rfl rfl rfl (Str.zero str_frac)) (oc (ob_sto rfl rfl rfl (vq 0 rfl) ty_26 (Eq.trans (b:=4) rfl rfl)) o0))) (fun a w hst=>?_)
 have hst:St B w0 52 [(2,_)] [⟨1,28,ptrH,_⟩,⟨3,26,ptrH,_⟩,⟨4,26,ptrH,_⟩] a w:=hst
 refine zt ?_
 refine gl (sts:=[none,none,none]) (news:=[]) (sp:=[.val 13 _,.val 14 _,.val 15 _,.val 5 _]) [.g 0,.o 3] hst (zv rfl rfl (r_load (lz0 1 rfl) ty_26) (zv rfl rfl (r_load (lz0 2 rfl) ty_26) (zv rfl rfl (r_call (xs:=[.tmp 13,.tmp 14]) (r2cmp_q zo) (.cons (vq 0 rfl) (.cons (vq 1 rfl) .nil))) (zv rfl rfl (r_assign (vq 2 rfl)) o0)))) (fun a w hst=>?_)
 have hst:St B w0 52 [(2,_),(5,_)] [⟨1,28,ptrH,_⟩,⟨3,26,ptrH,_⟩,⟨4,26,ptrH,_⟩] a w:=hst
 refine zt ?_
 refine go_draw (anc:=[[],[],[0,1],[0,1,2]]) (sts:=[none,none,none]) (news:=[]) (sp:=[.val 16 _,.val 17 _,.val 18 _,.val 6 _]) [.g 0,.g 1,.o 3] follows_mixed hst (zv rfl rfl (r_load (lz0 1 rfl) ty_26) (zv rfl rfl (r_call (xs:=[.const (.int .i64 (-2)),.const (.int .i64 (1))]) (r2small_q zd zd zd zd zd) (.cons has_num (.cons has_num .nil))) (zv rfl rfl (r_call (xs:=[.tmp 16,.tmp 17]) (r2cmp_q zo) (.cons (vq 0 rfl) (.cons (vq 1 rfl) .nil))) (zv rfl rfl (r_assign (vq 2 rfl)) o0)))) zk zk zk zk (fun a w hst=>?_)
 have hst:St B w0 52 [(2,_),(5,_),(6,_)] [⟨1,28,ptrH,_⟩,⟨3,26,ptrH,_⟩,⟨4,26,ptrH,_⟩] a w:=hst
 refine zt ?_
 refine wp_block ?_
 refine wp_seq ?_
 refine gl (sts:=[none,none,none]) (news:=[]) (sp:=[.val 20 _,.val 21 _,.val 22 _,.val 23 (Wh (_=true) _),.val 24 (Wh (_=true) _),.val 25 _,.val 19 _]) [.g 0,.g 1,.g 2,.o 6] hst (zv rfl rfl (r_move (gq 1 rfl)) (zv rfl rfl (r_lss (vq 0 rfl) has_num) (zv rfl rfl (r_move (vq 1 rfl)) (oc (ob_gd rfl rfl rfl (vq 2 rfl) nq (fun hg=>r_move (gq 2 rfl))) (oc (ob_gd rfl rfl rfl (vq 2 rfl) nq (fun hg=>r_gtr (has_wh (vq 3 rfl) hg) has_num)) (zv rfl rfl (r_and (vq 2 rfl) (vq 4 rfl)) (zv rfl rfl (r_assign (vq 5 rfl)) o0))))))) (fun a w hst=>?_)
 have hst:St B w0 52 [(2,_),(5,_),(6,_),(19,_)] [⟨1,28,ptrH,_⟩,⟨3,26,ptrH,_⟩,⟨4,26,ptrH,_⟩] a w:=hst
 refine thn_normal ?_
 refine cond_of hst (zm 3 rfl) (fun hb0=>?_) (fun hb0=>?_)
 ·refine wp_seq ?_
  refine gl (sts:=[none,none,none]) (news:=[]) (sp:=[.val 2 _]) [.o 0] hst (zv rfl rfl (r_assign has_num) o0) (fun a w hst=>?_)
  have hst:St B w0 52 [(2,_)] [⟨1,28,ptrH,_⟩,⟨3,26,ptrH,_⟩,⟨4,26,ptrH,_⟩] a w:=hst
  refine thn_normal ?_
  refine wp_ret ?_
  refine blk_ret ?_
  refine thn_ret ?_
  refine ret_wk ?_ (ret_tmp rfl hst (zm 0 rfl))
  rw [k13_1 (m:=m) hb0]; exact wk_id
 ·refine wp_seq ?_
  refine gl (sts:=[none,none,none]) (news:=[]) (sp:=[.val 27 _,.val 28 _,.val 29 _,.val 30 (Wh (_=false) _),.val 31 (Wh (_=false) _),.val 32 _,.val 26 _]) [.g 0,.o 6] hst (zv rfl rfl (r_move (gq 1 rfl)) (zv rfl rfl (r_gtr (vq 0 rfl) has_num) (zv rfl rfl (r_move (vq 1 rfl)) (oc (ob_gd rfl rfl rfl (vq 2 rfl) nq (fun hg=>r_move (gq 2 rfl))) (oc (ob_gd rfl rfl rfl (vq 2 rfl) nq (fun hg=>r_lss (has_wh (vq 3 rfl) hg) has_num)) (zv rfl rfl (r_or (vq 2 rfl) (vq 4 rfl)) (zv rfl rfl (r_assign (vq 5 rfl)) o0))))))) (fun a w hst=>?_)
  have hst:St B w0 52 [(2,_),(26,_)] [⟨1,28,ptrH,_⟩,⟨3,26,ptrH,_⟩,⟨4,26,ptrH,_⟩] a w:=hst
  refine thn_normal ?_
  refine cond_of hst (zm 1 rfl) (fun hb1=>?_) (fun hb1=>?_)
  ·refine wp_seq ?_
   refine gl (sts:=[none,none,none]) (news:=[]) (sp:=[.val 2 _]) [.o 0] hst (zv rfl rfl (r_assign has_num) o0) (fun a w hst=>?_)
   have hst:St B w0 52 [(2,_)] [⟨1,28,ptrH,_⟩,⟨3,26,ptrH,_⟩,⟨4,26,ptrH,_⟩] a w:=hst
   refine thn_normal ?_
   refine wp_ret ?_
   refine blk_ret ?_
   refine thn_ret ?_
   refine ret_wk ?_ (ret_tmp rfl hst (zm 0 rfl))
   rw [k13_4 (m:=m) hb0 hb1]; exact wk_id
  ·refine wp_seq ?_
   refine gl (sts:=[none,none,none]) (news:=[]) (sp:=[.adr 34 1 (.some 4) True,.val 35 _,.val 36 _,.val 37 _,.val 38 _,.adr 39 1 (.some 8) (_=true),.val 40 (Wh (_=true) _),.val 41 (Wh (_=true) _),.val 42 (Wh (_=true) _),.val 43 _,.val 44 _,.adr 45 1 (.some 0) (_=true),.val 46 (Wh (_=true) _),.adr 47 1 (.some 12) (_=true),.val 48 (Wh (_=true) _),.val 49 (Wh (_=true) _),.val 50 (Wh (_=true) _),.val 51 _,.val 33 _]) [.g 0,.o 18] hst (oc (ob_a rfl rfl (a_fld (lz0 0 rfl) fld_28_1)) (zv rfl rfl (r_loadf 0 rfl zk trivial (lz0 0 rfl) (Sub.part 1 rfl rfl) ty_26) (zv rfl rfl (r_call (xs:=[.tmp 35]) r2sign_q (.cons (vq 1 rfl) .nil)) (zv rfl rfl (r_eql (vq 2 rfl) has_num) (zv rfl rfl (r_move (vq 3 rfl)) (oc (ob_ag rfl rfl rfl (vq 4 rfl) nq (fun hg=>a_fld (lz0 0 rfl) fld_28_2)) (oc (ob_gd rfl rfl rfl (vq 4 rfl) nq (fun hg=>r_loadf 5 rfl zk hg (lz0 0 rfl) (Sub.part 2 rfl rfl) ty_26)) (oc (ob_gd rfl rfl rfl (vq 4 rfl) nq (fun hg=>r_call (xs:=[.tmp 40]) r2sign_q (.cons (has_wh (vq 6 rfl) hg) .nil))) (oc (ob_gd rfl rfl rfl (vq 4 rfl) nq (fun hg=>r_eql (has_wh (vq 7 rfl) hg) has_num)) (zv rfl rfl (r_and (vq 4 rfl) (vq 8 rfl)) (zv rfl rfl (r_move (vq 9 rfl)) (oc (ob_ag rfl rfl rfl (vq 10 rfl) nq (fun hg=>a_fld (lz0 0 rfl) fld_28_0)) (oc (ob_gd rfl rfl rfl (vq 10 rfl) nq (fun hg=>r_loadf 11 rfl zk hg (lz0 0 rfl) (Sub.part 0 rfl rfl) ty_26)) (oc (ob_ag rfl rfl rfl (vq 10 rfl) nq (fun hg=>a_fld (lz0 0 rfl) fld_28_3)) (oc (ob_gd rfl rfl rfl (vq 10 rfl) nq (fun hg=>r_loadf 13 rfl zk hg (lz0 0 rfl) (Sub.part 3 rfl rfl) ty_26)) (oc (ob_gd rfl rfl rfl (vq 10 rfl) nq (fun hg=>r_call (xs:=[.tmp 46,.tmp 48]) (r2cmp_q zo) (.cons (has_wh (vq 12 rfl) hg) (.cons (has_wh (vq 14 rfl) hg) .nil)))) (oc (ob_gd rfl rfl rfl (vq 10 rfl) nq (fun hg=>r_eql (has_wh (vq 15 rfl) hg) has_num)) (zv rfl rfl (r_and (vq 10 rfl) (vq 16 rfl)) (zv rfl rfl (r_assign (vq 17 rfl)) o0))))))))))))))))))) (fun a w hst=>?_)
   have hst:St B w0 52 [(2,_),(33,_)] [⟨1,28,ptrH,_⟩,⟨3,26,ptrH,_⟩,⟨4,26,ptrH,_⟩] a w:=hst
   refine thn_normal ?_
   refine cond_of hst (zm 1 rfl) (fun hb2=>?_) (fun hb2=>?_)
   ·refine wp_seq ?_
    refine gl (sts:=[none,none,none]) (news:=[]) (sp:=[.val 2 _]) [.o 0] hst (zv rfl rfl (r_assign has_num) o0) (fun a w hst=>?_)
    have hst:St B w0 52 [(2,_)] [⟨1,28,ptrH,_⟩,⟨3,26,ptrH,_⟩,⟨4,26,ptrH,_⟩] a w:=hst
    refine thn_normal ?_
    refine wp_ret ?_
    refine blk_ret ?_
    refine thn_ret ?_
    refine ret_wk ?_ (ret_tmp rfl hst (zm 0 rfl))
    rw [k13_2 (m:=m) hb0 hb1 hb2]; exact wk_id
   ·refine wp_skip ?_
    refine blk_normal ?_
    refine zt ?_
    refine gl (sts:=[none,none,none]) (news:=[]) (sp:=[.val 2 _]) [.o 0] hst (zv rfl rfl (r_assign has_num) o0) (fun a w hst=>?_)
    have hst:St B w0 52 [(2,_)] [⟨1,28,ptrH,_⟩,⟨3,26,ptrH,_⟩,⟨4,26,ptrH,_⟩] a w:=hst
    refine thn_normal ?_
    refine wp_ret ?_
    refine ret_wk ?_ (ret_tmp rfl hst (zm 0 rfl))
    rw [k13_3 (m:=m) hb0 hb1 hb2]; exact wk_id
theorem r13form_q {m:MQ} {r:YQ}:Cn Tryz.prog 97 [(QMA 2048 m).va,(QRA 2048 r).va] (Qs 20484 (foQ m r)):=by
 refine Cn.intro Tryz.func97 rfl zk nq (fun B w0 a hst=>?_)
 have hst:St B w0 40 [(0,(QMA 2048 m).va),(1,(QRA 2048 r).va)] [] a w0.w:=hst
 refine wp_seq ?_
 refine gl (sts:=[]) (news:=[⟨2,28,ptrH,some 0,_,none⟩,⟨3,30,ptrH,some 1,_,none⟩,⟨4,26,ptrH,some 2,_,none⟩]) (sp:=[.alc 0,.alc 1,.alc 2]) [] hst (oc (ob_box rfl rfl rfl (gq 0 rfl)) (oc (ob_box rfl rfl rfl (gq 1 rfl)) (oc (ob_alc rfl rfl rfl (Str.zero str_frac)) o0))) (fun a w hst=>?_)
 have hst:St B w0 40 [] [⟨2,28,ptrH,_⟩,⟨3,30,ptrH,_⟩,⟨4,26,ptrH,_⟩] a w:=hst
 refine zt ?_
 refine go_draw (anc:=[[],[0],[],[2],[],[4],[2,3,4,5],[0,1,2,3,4,5,6],[],[0,1,2,3,4,5,6,7,8]]) (sts:=[none,none,none]) (news:=[⟨5,26,ptrH,some 8,_,some (9,_)⟩]) (sp:=[.adr 8 2 (.some 8) True,.val 9 _,.adr 10 3 (.some 0) True,.val 11 _,.adr 12 3 (.some 0) True,.val 13 _,.val 14 _,.val 15 _,.alc 3,.sto 3]) [] follows_mixed hst (oc (ob_a rfl rfl (a_fld (lz0 0 rfl) fld_28_2)) (zv rfl rfl (r_loadf 0 rfl zk trivial (lz0 0 rfl) (Sub.part 2 rfl rfl) ty_26) (oc (ob_a rfl rfl (a_fld (lz0 1 rfl) fld_30_0)) (zv rfl rfl (r_loadf 2 rfl zk trivial (lz0 1 rfl) (Sub.part 0 rfl rfl) ty_26) (oc (ob_a rfl rfl (a_fld (lz0 1 rfl) fld_30_0)) (zv rfl rfl (r_loadf 4 rfl zk trivial (lz0 1 rfl) (Sub.part 0 rfl rfl) ty_26) (zv rfl rfl (r_call (xs:=[.tmp 11,.tmp 13]) (r2times_q zo) (.cons (vq 3 rfl) (.cons (vq 5 rfl) .nil))) (zv rfl rfl (r_call (xs:=[.tmp 9,.tmp 14]) (r2times_q zo) (.cons (vq 1 rfl) (.cons (vq 6 rfl) .nil))) (oc (ob_alc rfl rfl rfl (Str.zero str_frac)) (oc (ob_sto rfl rfl rfl (vq 7 rfl) ty_26 (Eq.trans (b:=4) rfl rfl)) o0)))))))))) zk zk zk zk (fun a w hst=>?_)
 have hst:St B w0 40 [] [⟨2,28,ptrH,_⟩,⟨3,30,ptrH,_⟩,⟨4,26,ptrH,_⟩,⟨5,26,ptrH,_⟩] a w:=hst
 refine zt ?_
 refine go_draw (anc:=[[],[0],[],[2],[0,1,2,3],[],[5],[],[7],[0,1,2,3,4,5,6,7,8],[0,1,2,3,4,5,6,7,8,9],[],[0,1,2,3,4,5,6,7,8,9,10,11]]) (sts:=[none,none,none,none]) (news:=[⟨6,26,ptrH,some 11,_,some (12,_)⟩]) (sp:=[.adr 16 2 (.some 12) True,.val 17 _,.adr 18 2 (.some 0) True,.val 19 _,.val 20 _,.adr 21 3 (.some 0) True,.val 22 _,.adr 23 3 (.some 4) True,.val 24 _,.val 25 _,.val 26 _,.alc 4,.sto 4]) [] follows_mixed hst (oc (ob_a rfl rfl (a_fld (lz0 0 rfl) fld_28_3)) (zv rfl rfl (r_loadf 0 rfl zk trivial (lz0 0 rfl) (Sub.part 3 rfl rfl) ty_26) (oc (ob_a rfl rfl (a_fld (lz0 0 rfl) fld_28_0)) (zv rfl rfl (r_loadf 2 rfl zk trivial (lz0 0 rfl) (Sub.part 0 rfl rfl) ty_26) (zv rfl rfl (r_call (xs:=[.tmp 17,.tmp 19]) (r2minus_q zo) (.cons (vq 1 rfl) (.cons (vq 3 rfl) .nil))) (oc (ob_a rfl rfl (a_fld (lz0 1 rfl) fld_30_0)) (zv rfl rfl (r_loadf 5 rfl zk trivial (lz0 1 rfl) (Sub.part 0 rfl rfl) ty_26) (oc (ob_a rfl rfl (a_fld (lz0 1 rfl) fld_30_1)) (zv rfl rfl (r_loadf 7 rfl zk trivial (lz0 1 rfl) (Sub.part 1 rfl rfl) ty_26) (zv rfl rfl (r_call (xs:=[.tmp 22,.tmp 24]) (r2times_q zo) (.cons (vq 6 rfl) (.cons (vq 8 rfl) .nil))) (zv rfl rfl (r_call (xs:=[.tmp 20,.tmp 25]) (r2times_q zo) (.cons (vq 4 rfl) (.cons (vq 9 rfl) .nil))) (oc (ob_alc rfl rfl rfl (Str.zero str_frac)) (oc (ob_sto rfl rfl rfl (vq 10 rfl) ty_26 (Eq.trans (b:=4) rfl rfl)) o0))))))))))))) zk zk zk zk (fun a w hst=>?_)
 have hst:St B w0 40 [] [⟨2,28,ptrH,_⟩,⟨3,30,ptrH,_⟩,⟨4,26,ptrH,_⟩,⟨5,26,ptrH,_⟩,⟨6,26,ptrH,_⟩] a w:=hst
 refine zt ?_
 refine go_draw (anc:=[[],[0],[],[2],[],[4],[2,3,4,5],[0,1,2,3,4,5,6],[],[0,1,2,3,4,5,6,7,8]]) (sts:=[none,none,none,none,none]) (news:=[⟨7,26,ptrH,some 8,_,some (9,_)⟩]) (sp:=[.adr 27 2 (.some 4) True,.val 28 _,.adr 29 3 (.some 4) True,.val 30 _,.adr 31 3 (.some 4) True,.val 32 _,.val 33 _,.val 34 _,.alc 5,.sto 5]) [] follows_mixed hst (oc (ob_a rfl rfl (a_fld (lz0 0 rfl) fld_28_1)) (zv rfl rfl (r_loadf 0 rfl zk trivial (lz0 0 rfl) (Sub.part 1 rfl rfl) ty_26) (oc (ob_a rfl rfl (a_fld (lz0 1 rfl) fld_30_1)) (zv rfl rfl (r_loadf 2 rfl zk trivial (lz0 1 rfl) (Sub.part 1 rfl rfl) ty_26) (oc (ob_a rfl rfl (a_fld (lz0 1 rfl) fld_30_1)) (zv rfl rfl (r_loadf 4 rfl zk trivial (lz0 1 rfl) (Sub.part 1 rfl rfl) ty_26) (zv rfl rfl (r_call (xs:=[.tmp 30,.tmp 32]) (r2times_q zo) (.cons (vq 3 rfl) (.cons (vq 5 rfl) .nil))) (zv rfl rfl (r_call (xs:=[.tmp 28,.tmp 33]) (r2times_q zo) (.cons (vq 1 rfl) (.cons (vq 6 rfl) .nil))) (oc (ob_alc rfl rfl rfl (Str.zero str_frac)) (oc (ob_sto rfl rfl rfl (vq 7 rfl) ty_26 (Eq.trans (b:=4) rfl rfl)) o0)))))))))) zk zk zk zk (fun a w hst=>?_)
 have hst:St B w0 40 [] [⟨2,28,ptrH,_⟩,⟨3,30,ptrH,_⟩,⟨4,26,ptrH,_⟩,⟨5,26,ptrH,_⟩,⟨6,26,ptrH,_⟩,⟨7,26,ptrH,_⟩] a w:=hst
 refine zt ?_
 refine go_draw (anc:=[[],[],[0,1],[],[0,1,2,3],[0,1,2,3,4]]) (sts:=[none,none,some (5,_),none,none,none]) (news:=[]) (sp:=[.val 35 _,.val 36 _,.val 37 _,.val 38 _,.val 39 _,.sto 2]) [] follows_mixed hst (zv rfl rfl (r_load (lz0 3 rfl) ty_26) (zv rfl rfl (r_load (lz0 4 rfl) ty_26) (zv rfl rfl (r_call (xs:=[.tmp 35,.tmp 36]) (r2plus_q zo) (.cons (vq 0 rfl) (.cons (vq 1 rfl) .nil))) (zv rfl rfl (r_load (lz0 5 rfl) ty_26) (zv rfl rfl (r_call (xs:=[.tmp 37,.tmp 38]) (r2minus_q zo) (.cons (vq 2 rfl) (.cons (vq 3 rfl) .nil))) (oc (ob_sto rfl rfl rfl (vq 4 rfl) ty_26 (Eq.trans (b:=4) rfl rfl)) o0)))))) zk zk zk zk (fun a w hst=>?_)
 have hst:St B w0 40 [] [⟨2,28,ptrH,_⟩,⟨3,30,ptrH,_⟩,⟨4,26,ptrH,_⟩,⟨5,26,ptrH,_⟩,⟨6,26,ptrH,_⟩,⟨7,26,ptrH,_⟩] a w:=hst
 refine thn_normal ?_
 refine wp_ret ?_
 refine ret_wk ?_ (ret_cell rfl hst (zm 2 rfl) ty_26)
 rw [← fo13]; exact (qa_mono zd).va
theorem r13told_q {c:Nat} (q:Rat):Cn Tryz.prog 96 [Qs c q] (FrR (toO q)):=by
 refine Cn.intro Tryz.func96 rfl zk nq (fun B w0 a hst=>?_)
 have hst:St B w0 9 [(0,Qs c q)] [] a w0.w:=hst
 refine wp_seq ?_
 refine gl (sts:=[]) (news:=[⟨1,26,ptrH,some 0,_,none⟩,⟨2,26,ptrH,some 1,_,none⟩]) (sp:=[.alc 0,.alc 1,.val 3 _]) [.o 2] hst (oc (ob_box rfl rfl rfl (gq 0 rfl)) (oc (ob_alc rfl rfl rfl (Str.zero str_frac)) (zv rfl rfl (r_assign has_num) o0))) (fun a w hst=>?_)
 have hst:St B w0 9 [(3,_)] [⟨1,26,ptrH,_⟩,⟨2,26,ptrH,_⟩] a w:=hst
 refine zt ?_
 refine wp_seq ?_
 refine gl (sts:=[none,none]) (news:=[]) (sp:=[.val 4 _,.val 5 _,.val 6 _]) [.g 0,.o 2] hst (zv rfl rfl (r_load (lz0 0 rfl) ty_26) (zv rfl rfl (r_slice (D:=[U32]) (l:=[_]) (xs:=[.tmp 4]) (nd_ok zk) sl_142 zk (n_ok zk) nq nq nq (.cons (vq 0 rfl) .nil) rfl rfl) (zv rfl rfl (r_call (xs:=[.tmp 5]) (r2long_q [q] (.cons ⟨_,rfl⟩ .nil) nq) (.cons (vq 1 rfl) .nil)) o0))) (fun a w hst=>?_)
 have hst:St B w0 9 [(3,_),(6,_)] [⟨1,26,ptrH,_⟩,⟨2,26,ptrH,_⟩] a w:=hst
 refine thn_normal ?_
 refine cond_of hst (zm 1 rfl) (fun hb0=>?_) (fun hb0=>?_)
 ·refine wp_seq ?_
  refine gl (sts:=[none,some (1,_)]) (news:=[]) (sp:=[.val 7 _,.sto 1,.val 3 _]) [.o 2] hst (zv rfl rfl (r_build (xs:=[]) (qs:=[]) str_frac .nil) (oc (ob_sto rfl rfl rfl (vq 0 rfl) ty_26 (Eq.trans (b:=4) rfl rfl)) (zv rfl rfl (r_assign has_num) o0))) (fun a w hst=>?_)
  have hst:St B w0 9 [(3,_)] [⟨1,26,ptrH,_⟩,⟨2,26,ptrH,_⟩] a w:=hst
  refine thn_normal ?_
  refine wp_ret ?_
  refine thn_ret ?_
  refine ret_wk ?_ (ret_many (rs:=[.cell 2 26,.tmp 3]) rfl hst (.cell (zm 1 rfl) ty_26 (.tmp (zm 0 rfl) .nil)) zd)
  rw [to_lo hb0]; exact wk_id
 ·refine wp_skip ?_
  refine zt ?_
  refine gl (sts:=[none,some (1,_)]) (news:=[]) (sp:=[.val 8 _,.sto 1,.val 3 _]) [.o 2] hst (zv rfl rfl (r_load (lz0 0 rfl) ty_26) (oc (ob_sto rfl rfl rfl (vq 0 rfl) ty_26 (Eq.trans (b:=4) rfl rfl)) (zv rfl rfl (r_assign has_num) o0))) (fun a w hst=>?_)
  have hst:St B w0 9 [(3,_)] [⟨1,26,ptrH,_⟩,⟨2,26,ptrH,_⟩] a w:=hst
  refine thn_normal ?_
  refine wp_ret ?_
  refine ret_wk ?_ (ret_many (rs:=[.cell 2 26,.tmp 3]) rfl hst (.cell (zm 1 rfl) ty_26 (.tmp (zm 0 rfl) .nil)) zd)
  rw [to_ok hb0]; exact tu2w qaA.va wk_id
theorem r13size_q {c:Nat} {x:Rat} (hc:c≤900000000):Cn Tryz.prog 249 [Qs c x] (Qs c (abQ x)):=by
 refine Cn.intro Tryz.func249 rfl zk nq (fun B w0 a hst=>?_)
 have hst:St B w0 9 [(0,Qs c x)] [] a w0.w:=hst
 refine wp_seq ?_
 refine gl (sts:=[]) (news:=[⟨1,26,ptrH,some 0,_,none⟩,⟨2,26,ptrH,some 1,_,none⟩]) (sp:=[.alc 0,.alc 1]) [] hst (oc (ob_box rfl rfl rfl (gq 0 rfl)) (oc (ob_alc rfl rfl rfl (Str.zero str_frac)) o0)) (fun a w hst=>?_)
 have hst:St B w0 9 [] [⟨1,26,ptrH,_⟩,⟨2,26,ptrH,_⟩] a w:=hst
 refine zt ?_
 refine wp_seq ?_
 refine gl (sts:=[none,none]) (news:=[]) (sp:=[.val 3 _,.val 4 _,.val 5 _]) [.o 2] hst (zv rfl rfl (r_load (lz0 0 rfl) ty_26) (zv rfl rfl (r_call (xs:=[.tmp 3]) r2sign_q (.cons (vq 0 rfl) .nil)) (zv rfl rfl (r_lss (vq 1 rfl) has_num) o0))) (fun a w hst=>?_)
 have hst:St B w0 9 [(5,_)] [⟨1,26,ptrH,_⟩,⟨2,26,ptrH,_⟩] a w:=hst
 refine thn_normal ?_
 refine cond_of hst (zm 0 rfl) (fun hb0=>?_) (fun hb0=>?_)
 ·refine wp_seq ?_
  refine gl (sts:=[none,some (2,_)]) (news:=[]) (sp:=[.val 6 _,.val 7 _,.sto 1]) [] hst (zv rfl rfl (r_load (lz0 0 rfl) ty_26) (zv rfl rfl (r_call (xs:=[.tmp 6]) (r2turned_q zo) (.cons (vq 0 rfl) .nil)) (oc (ob_sto rfl rfl rfl (vq 1 rfl) ty_26 (Eq.trans (b:=4) rfl rfl)) o0))) (fun a w hst=>?_)
  have hst:St B w0 9 [] [⟨1,26,ptrH,_⟩,⟨2,26,ptrH,_⟩] a w:=hst
  refine thn_normal ?_
  refine wp_ret ?_
  refine thn_ret ?_
  refine ret_wk ?_ (ret_cell rfl hst (zm 1 rfl) ty_26)
  rw [abQ,if_pos (of_decide_eq_true hb0)]; exact wk_id
 ·refine wp_skip ?_
  refine zt ?_
  refine gl (sts:=[none,some (1,_)]) (news:=[]) (sp:=[.val 8 _,.sto 1]) [] hst (zv rfl rfl (r_load (lz0 0 rfl) ty_26) (oc (ob_sto rfl rfl rfl (vq 0 rfl) ty_26 (Eq.trans (b:=4) rfl rfl)) o0)) (fun a w hst=>?_)
  have hst:St B w0 9 [] [⟨1,26,ptrH,_⟩,⟨2,26,ptrH,_⟩] a w:=hst
  refine thn_normal ?_
  refine wp_ret ?_
  refine ret_wk ?_ (ret_cell rfl hst (zm 1 rfl) ty_26)
  rw [abQ,if_neg (of_decide_eq_false hb0)]; exact wk_id
theorem bo13_z {m:MQ} (h:(k13 m != 1)=false):Rat.divInt 4 1 - (m.a+m.d)*(m.a+m.d)≠0:=by
 rw [show Rat.divInt 4 1=4 from rfl]
 exact (bo13_y h).1
theorem r13stays_q {m:MQ} {r:YQ}:Cn Tryz.prog 98 [(QMA 2048 m).va,(QRA 2048 r).va] (Bo (staQ m r)):=by
 refine Cn.intro Tryz.func98 rfl zk nq (fun B w0 a hst=>?_)
 have hst:St B w0 44 [(0,(QMA 2048 m).va),(1,(QRA 2048 r).va)] [] a w0.w:=hst
 refine wp_seq ?_
 refine gl (sts:=[]) (news:=[⟨2,28,ptrH,some 0,_,none⟩,⟨3,30,ptrH,some 1,_,none⟩]) (sp:=[.alc 0,.alc 1,.val 4 _]) [.o 2] hst (oc (ob_box rfl rfl rfl (gq 0 rfl)) (oc (ob_box rfl rfl rfl (gq 1 rfl)) (zv rfl rfl (r_assign has_bo) o0))) (fun a w hst=>?_)
 have hst:St B w0 44 [(4,_)] [⟨2,28,ptrH,_⟩,⟨3,30,ptrH,_⟩] a w:=hst
 refine zt ?_
 refine wp_seq ?_
 refine gl (sts:=[none,none]) (news:=[]) (sp:=[.val 6 _,.val 7 _]) [.g 0,.o 1] hst (zv rfl rfl (r_load (lz0 0 rfl) ty_28) (zv rfl rfl (r_call (xs:=[.tmp 6]) r13kind_q (.cons (vq 0 rfl) .nil)) o0)) (fun a w hst=>?_)
 have hst:St B w0 44 [(4,_),(7,_)] [⟨2,28,ptrH,_⟩,⟨3,30,ptrH,_⟩] a w:=hst
 refine thn_normal ?_
 refine wp_block ?_
 refine wp_seq ?_
 refine wp_seq ?_
 refine gl (sts:=[none,none]) (news:=[]) (sp:=[.val 9 _,.val 8 _]) [.g 0,.g 1,.o 1] hst (zv rfl rfl (r_eql (gq 1 rfl) has_num) (zv rfl rfl (r_assign (vq 0 rfl)) o0)) (fun a w hst=>?_)
 have hst:St B w0 44 [(4,_),(7,_),(8,_)] [⟨2,28,ptrH,_⟩,⟨3,30,ptrH,_⟩] a w:=hst
 refine thn_normal ?_
 refine cond_of hst (zm 2 rfl) (fun hb0=>?_) (fun hb0=>?_)
 ·refine wp_skip ?_
  refine thn_normal ?_
  refine cond_of hst (zm 2 rfl) (fun hb1=>?_) (fun hb1=>?_)
  ·refine wp_seq ?_
   refine gl (sts:=[none,none]) (news:=[]) (sp:=[.val 4 _]) [.o 0] hst (zv rfl rfl (r_assign has_bo) o0) (fun a w hst=>?_)
   have hst:St B w0 44 [(4,_)] [⟨2,28,ptrH,_⟩,⟨3,30,ptrH,_⟩] a w:=hst
   refine thn_normal ?_
   refine wp_ret ?_
   refine blk_ret ?_
   refine thn_ret ?_
   refine ret_wk ?_ (ret_tmp rfl hst (zm 0 rfl))
   rw [st13_a (m:=m) (r:=r) (by rw [hb0]; rfl)]; exact wk_id
  ·exact absurd (hb0.symm.trans hb1) zd
 ·refine gl (sts:=[none,none]) (news:=[]) (sp:=[.val 10 _,.val 8 _]) [.g 0,.g 1,.o 1] hst (zv rfl rfl (r_eql (gq 1 rfl) has_num) (zv rfl rfl (r_assign (vq 0 rfl)) o0)) (fun a w hst=>?_)
  have hst:St B w0 44 [(4,_),(7,_),(8,_)] [⟨2,28,ptrH,_⟩,⟨3,30,ptrH,_⟩] a w:=hst
  refine thn_normal ?_
  refine cond_of hst (zm 2 rfl) (fun hb2=>?_) (fun hb2=>?_)
  ·refine wp_seq ?_
   refine gl (sts:=[none,none]) (news:=[]) (sp:=[.val 4 _]) [.o 0] hst (zv rfl rfl (r_assign has_bo) o0) (fun a w hst=>?_)
   have hst:St B w0 44 [(4,_)] [⟨2,28,ptrH,_⟩,⟨3,30,ptrH,_⟩] a w:=hst
   refine thn_normal ?_
   refine wp_ret ?_
   refine blk_ret ?_
   refine thn_ret ?_
   refine ret_wk ?_ (ret_tmp rfl hst (zm 0 rfl))
   rw [st13_a (m:=m) (r:=r) (by rw [hb2,Bool.or_true])]; exact wk_id
  ·have hor:(k13 m == 1 || k13 m == 2)=false:=by rw [hb0,hb2]; rfl
   refine wp_seq ?_
   refine gl (sts:=[none,none]) (news:=[]) (sp:=[.val 12 _,.val 11 _]) [.g 0,.o 1] hst (zv rfl rfl (r_eql (gq 1 rfl) has_num) (zv rfl rfl (r_assign (vq 0 rfl)) o0)) (fun a w hst=>?_)
   have hst:St B w0 44 [(4,_),(11,_)] [⟨2,28,ptrH,_⟩,⟨3,30,ptrH,_⟩] a w:=hst
   refine thn_normal ?_
   refine cond_of hst (zm 1 rfl) (fun hb3=>?_) (fun hb3=>?_)
   ·refine wp_seq ?_
    refine gl (sts:=[none,none]) (news:=[]) (sp:=[.val 13 _,.val 14 _,.val 15 _,.val 16 _,.val 17 _,.val 4 _]) [.o 5] hst (zv rfl rfl (r_load (lz0 0 rfl) ty_28) (zv rfl rfl (r_load (lz0 1 rfl) ty_30) (zv rfl rfl (r_call (xs:=[.tmp 13,.tmp 14]) r13form_q (.cons (vq 0 rfl) (.cons (vq 1 rfl) .nil))) (zv rfl rfl (r_call (xs:=[.tmp 15]) r2sign_q (.cons (vq 2 rfl) .nil)) (zv rfl rfl (r_eql (vq 3 rfl) has_num) (zv rfl rfl (r_assign (vq 4 rfl)) o0)))))) (fun a w hst=>?_)
    have hst:St B w0 44 [(4,_)] [⟨2,28,ptrH,_⟩,⟨3,30,ptrH,_⟩] a w:=hst
    refine thn_normal ?_
    refine wp_ret ?_
    refine blk_ret ?_
    refine thn_ret ?_
    refine ret_wk ?_ (ret_tmp rfl hst (zm 0 rfl))
    rw [st13_b (r:=r) hor hb3]; exact wk_id
   ·have hs4:=k_4 hor hb3
    refine wp_skip ?_
    refine blk_normal ?_
    refine zt ?_
    refine wp_seq ?_
    refine gl (sts:=[none,none]) (news:=[]) (sp:=[.val 18 _,.val 19 _,.val 20 _,.val 21 _,.val 22 _]) [.g 0,.o 4] hst (zv rfl rfl (r_load (lz0 0 rfl) ty_28) (zv rfl rfl (r_load (lz0 1 rfl) ty_30) (zv rfl rfl (r_call (xs:=[.tmp 18,.tmp 19]) r13form_q (.cons (vq 0 rfl) (.cons (vq 1 rfl) .nil))) (zv rfl rfl (r_call (xs:=[.tmp 20]) r2sign_q (.cons (vq 2 rfl) .nil)) (zv rfl rfl (r_neq (vq 3 rfl) has_num) o0))))) (fun a w hst=>?_)
    have hst:St B w0 44 [(4,_),(22,_)] [⟨2,28,ptrH,_⟩,⟨3,30,ptrH,_⟩] a w:=hst
    refine thn_normal ?_
    refine cond_of hst (zm 1 rfl) (fun hb4=>?_) (fun hb4=>?_)
    ·refine wp_seq ?_
     refine gl (sts:=[none,none]) (news:=[]) (sp:=[.val 4 _]) [.o 0] hst (zv rfl rfl (r_assign has_bo) o0) (fun a w hst=>?_)
     have hst:St B w0 44 [(4,_)] [⟨2,28,ptrH,_⟩,⟨3,30,ptrH,_⟩] a w:=hst
     refine thn_normal ?_
     refine wp_ret ?_
     refine thn_ret ?_
     refine ret_wk ?_ (ret_tmp rfl hst (zm 0 rfl))
     rw [st13_c hs4 hb4]; exact wk_id
    ·refine wp_skip ?_
     refine zt ?_
     refine gl (sts:=[none,none]) (news:=[⟨5,30,ptrH,some 3,_,some (4,_)⟩]) (sp:=[.val 23 _,.val 24 _,.val 25 _,.alc 2,.sto 2]) [.g 0] hst (zv rfl rfl (r_load (lz0 0 rfl) ty_28) (zv rfl rfl (r_load (lz0 1 rfl) ty_30) (zv rfl rfl (r_call (xs:=[.tmp 23,.tmp 24,.const (.int .i64 (1))]) (r13gone1_q m r) (.cons (vq 0 rfl) (.cons (vq 1 rfl) (.cons has_num .nil)))) (oc (ob_alc rfl rfl rfl (Str.zero str_ray)) (oc (ob_sto rfl rfl rfl (vq 2 rfl) ty_30 (Eq.trans (b:=8) rfl rfl)) o0))))) (fun a w hst=>?_)
     have hst:St B w0 44 [(4,_)] [⟨2,28,ptrH,_⟩,⟨3,30,ptrH,_⟩,⟨5,30,ptrH,_⟩] a w:=hst
     refine zt ?_
     refine go_draw (anc:=[[],[0],[0,1],[],[3],[0,1,2,3,4],[0,1,2,3,4,5],[0,1,2,3,4,5,6],[0,1,2,3,4,5,6,7],[0,1,2,3,4,5,6,7,8],[0,1,2,3,4,5,6,7,8,9],[0,1,2,3,4,5,6,7,8,9,10],[0,1,2,3,4,5,6,7,8],[0,1,2,3,4,5,6,7,8,12],[0,1,2,3,4,5,6,7,8,9,10,11,12,13],[0,1,2,3,4,5,6,7,8,9,10,11,12,13,14],[0,1,2,3,4,5,6,7,8,9,10,11,12,13,14,15],[0,1,2,3,4,5,6,7,8,9,10,11,12,13,14,15,16],[0,1,2,3,4,5,6,7,8,9,10,11,12,13,14,15,16,17]]) (sts:=[none,none,none]) (news:=[]) (sp:=[.adr 26 5 (.some 0) True,.val 27 _,.val 28 _,.adr 29 3 (.some 0) True,.val 30 _,.val 31 _,.val 32 _,.val 33 _,.val 34 _,.adr 35 5 (.some 4) (_=true),.val 36 (Wh (_=true) _),.val 37 (Wh (_=true) _),.adr 38 3 (.some 4) (_=true),.val 39 (Wh (_=true) _),.val 40 (Wh (_=true) _),.val 41 (Wh (_=true) _),.val 42 (Wh (_=true) _),.val 43 _,.val 4 _]) [.o 18] follows_mixed hst (oc (ob_a rfl rfl (a_fld (lz0 2 rfl) fld_30_0)) (zv rfl rfl (r_loadf 0 rfl zk trivial (lz0 2 rfl) (Sub.part 0 rfl rfl) ty_26) (zv rfl rfl (r_call (xs:=[.tmp 27]) (r13size_q zd) (.cons (vq 1 rfl) .nil)) (oc (ob_a rfl rfl (a_fld (lz0 1 rfl) fld_30_0)) (zv rfl rfl (r_loadf 3 rfl zk trivial (lz0 1 rfl) (Sub.part 0 rfl rfl) ty_26) (zv rfl rfl (r_call (xs:=[.tmp 30]) (r13size_q zd) (.cons (vq 4 rfl) .nil)) (zv rfl rfl (r_call (xs:=[.tmp 28,.tmp 31]) (r2cmp_q zo) (.cons (vq 2 rfl) (.cons (vq 5 rfl) .nil))) (zv rfl rfl (r_leq (vq 6 rfl) has_num) (zv rfl rfl (r_move (vq 7 rfl)) (oc (ob_ag rfl rfl rfl (vq 8 rfl) nq (fun hg=>a_fld (lz0 2 rfl) fld_30_1)) (oc (ob_gd rfl rfl rfl (vq 8 rfl) nq (fun hg=>r_loadf 9 rfl zk hg (lz0 2 rfl) (Sub.part 1 rfl rfl) ty_26)) (oc (ob_gd rfl rfl rfl (vq 8 rfl) nq (fun hg=>r_call (xs:=[.tmp 36]) (r13size_q zd) (.cons (has_wh (vq 10 rfl) hg) .nil))) (oc (ob_ag rfl rfl rfl (vq 8 rfl) nq (fun hg=>a_fld (lz0 1 rfl) fld_30_1)) (oc (ob_gd rfl rfl rfl (vq 8 rfl) nq (fun hg=>r_loadf 12 rfl zk hg (lz0 1 rfl) (Sub.part 1 rfl rfl) ty_26)) (oc (ob_gd rfl rfl rfl (vq 8 rfl) nq (fun hg=>r_call (xs:=[.tmp 39]) (r13size_q zd) (.cons (has_wh (vq 13 rfl) hg) .nil))) (oc (ob_gd rfl rfl rfl (vq 8 rfl) nq (fun hg=>r_call (xs:=[.tmp 37,.tmp 40]) (r2cmp_q zo) (.cons (has_wh (vq 11 rfl) hg) (.cons (has_wh (vq 14 rfl) hg) .nil)))) (oc (ob_gd rfl rfl rfl (vq 8 rfl) nq (fun hg=>r_leq (has_wh (vq 15 rfl) hg) has_num)) (zv rfl rfl (r_and (vq 8 rfl) (vq 16 rfl)) (zv rfl rfl (r_assign (vq 17 rfl)) o0))))))))))))))))))) zk zk zk zk (fun a w hst=>?_)
     have hst:St B w0 44 [(4,_)] [⟨2,28,ptrH,_⟩,⟨3,30,ptrH,_⟩,⟨5,30,ptrH,_⟩] a w:=hst
     refine thn_normal ?_
     refine wp_ret ?_
     refine ret_wk ?_ (ret_tmp rfl hst (zm 0 rfl))
     rw [← st13_d hs4 hb4]; exact wk_id
theorem r13Form_c (m:RM) (r:RR):Cn Tryz.prog 17 [(RMA m).va,(RRA r).va] (FrR (foO m r)):=by
 refine Cn.intro Tryz.func17 rfl zk nq (fun B w0 a hst=>?_)
 have hst:St B w0 17 [(0,(RMA m).va),(1,(RRA r).va)] [] a w0.w:=hst
 refine wp_seq ?_
 refine gl (sts:=[]) (news:=[⟨2,28,ptrH,some 0,_,none⟩,⟨3,30,ptrH,some 1,_,none⟩,⟨4,26,ptrH,some 2,_,none⟩]) (sp:=[.alc 0,.alc 1,.alc 2,.val 5 _]) [.o 3] hst (oc (ob_box rfl rfl rfl (gq 0 rfl)) (oc (ob_box rfl rfl rfl (gq 1 rfl)) (oc (ob_alc rfl rfl rfl (Str.zero str_frac)) (zv rfl rfl (r_assign has_num) o0)))) (fun a w hst=>?_)
 have hst:St B w0 17 [(5,_)] [⟨2,28,ptrH,_⟩,⟨3,30,ptrH,_⟩,⟨4,26,ptrH,_⟩] a w:=hst
 refine zt ?_
 refine wp_seq ?_
 refine gl (sts:=[none,none,none]) (news:=[]) (sp:=[.val 6 _,.val 7 _,.val 8 _,.val 9 _]) [.g 0,.o 3] hst (zv rfl rfl (r_load (lz0 0 rfl) ty_28) (zv rfl rfl (r_load (lz0 1 rfl) ty_30) (zv rfl rfl (r_call (xs:=[.tmp 6,.tmp 7]) (r13fine_c m r) (.cons (vq 0 rfl) (.cons (vq 1 rfl) .nil))) (zv rfl rfl (r_not (vq 2 rfl)) o0)))) (fun a w hst=>?_)
 have hst:St B w0 17 [(5,_),(9,_)] [⟨2,28,ptrH,_⟩,⟨3,30,ptrH,_⟩,⟨4,26,ptrH,_⟩] a w:=hst
 refine thn_normal ?_
 refine cond_of hst (zm 1 rfl) (fun hb0=>?_) (fun hb0=>?_)
 ·refine wp_seq ?_
  refine gl (sts:=[none,none,some (1,_)]) (news:=[]) (sp:=[.val 10 _,.sto 2,.val 5 _]) [.o 2] hst (zv rfl rfl (r_build (xs:=[]) (qs:=[]) str_frac .nil) (oc (ob_sto rfl rfl rfl (vq 0 rfl) ty_26 (Eq.trans (b:=4) rfl rfl)) (zv rfl rfl (r_assign has_num) o0))) (fun a w hst=>?_)
  have hst:St B w0 17 [(5,_)] [⟨2,28,ptrH,_⟩,⟨3,30,ptrH,_⟩,⟨4,26,ptrH,_⟩] a w:=hst
  refine thn_normal ?_
  refine wp_ret ?_
  refine thn_ret ?_
  refine ret_wk ?_ (ret_many (rs:=[.cell 4 26,.tmp 5]) rfl hst (.cell (zm 2 rfl) ty_26 (.tmp (zm 0 rfl) .nil)) zd)
  rw [foO,if_neg (fiO_no hb0)]; exact wk_id
 ·have hok:=fiO_ok hb0
  have hy:=fiO_yes hb0
  have hst:=St.wkL hst 0 rfl (qm_x (okM_q hok.1).1)
  have hst:=St.wkL hst 1 rfl (qr_x hok.2)
  refine wp_skip ?_
  refine zt ?_
  refine gl (sts:=[none,none,some (6,_)]) (news:=[]) (sp:=[.val 11 _,.val 12 _,.val 13 _,.val 14 _,.val 15 _,.val 16 _,.sto 2,.val 5 _]) [.o 7] hst (zv rfl rfl (r_load (lz0 0 rfl) ty_28) (zv rfl rfl (r_load (lz0 1 rfl) ty_30) (zv rfl rfl (r_call (xs:=[.tmp 11,.tmp 12]) r13form_q (.cons (vq 0 rfl) (.cons (vq 1 rfl) .nil))) (zv rfl rfl (r_call (xs:=[.tmp 13]) (r13told_q _) (.cons (vq 2 rfl) .nil)) (zv rfl rfl (r_ex0 (vq 3 rfl)) (zv rfl rfl (r_ex1 (vq 3 rfl)) (oc (ob_sto rfl rfl rfl (vq 4 rfl) ty_26 (Eq.trans (b:=4) rfl rfl)) (zv rfl rfl (r_assign (vq 5 rfl)) o0)))))))) (fun a w hst=>?_)
  have hst:St B w0 17 [(5,_)] [⟨2,28,ptrH,_⟩,⟨3,30,ptrH,_⟩,⟨4,26,ptrH,_⟩] a w:=hst
  refine thn_normal ?_
  refine wp_ret ?_
  refine ret_wk ?_ (ret_many (rs:=[.cell 4 26,.tmp 5]) rfl hst (.cell (zm 2 rfl) ty_26 (.tmp (zm 0 rfl) .nil)) zd)
  rw [foO,if_pos hy]; exact wk_id
theorem r13Stays_c (m:RM) (r:RR):Cn Tryz.prog 18 [(RMA m).va,(RRA r).va] (Tu [Bo (stO m r).1,In (stO m r).2]):=by
 refine Cn.intro Tryz.func18 rfl zk nq (fun B w0 a hst=>?_)
 have hst:St B w0 13 [(0,(RMA m).va),(1,(RRA r).va)] [] a w0.w:=hst
 refine wp_seq ?_
 refine gl (sts:=[]) (news:=[⟨2,28,ptrH,some 0,_,none⟩,⟨3,30,ptrH,some 1,_,none⟩]) (sp:=[.alc 0,.alc 1,.val 4 _,.val 5 _]) [.o 2,.o 3] hst (oc (ob_box rfl rfl rfl (gq 0 rfl)) (oc (ob_box rfl rfl rfl (gq 1 rfl)) (zv rfl rfl (r_assign has_bo) (zv rfl rfl (r_assign has_num) o0)))) (fun a w hst=>?_)
 have hst:St B w0 13 [(4,_),(5,_)] [⟨2,28,ptrH,_⟩,⟨3,30,ptrH,_⟩] a w:=hst
 refine zt ?_
 refine wp_seq ?_
 refine gl (sts:=[none,none]) (news:=[]) (sp:=[.val 6 _,.val 7 _,.val 8 _,.val 9 _]) [.g 0,.g 1,.o 3] hst (zv rfl rfl (r_load (lz0 0 rfl) ty_28) (zv rfl rfl (r_load (lz0 1 rfl) ty_30) (zv rfl rfl (r_call (xs:=[.tmp 6,.tmp 7]) (r13fine_c m r) (.cons (vq 0 rfl) (.cons (vq 1 rfl) .nil))) (zv rfl rfl (r_not (vq 2 rfl)) o0)))) (fun a w hst=>?_)
 have hst:St B w0 13 [(4,_),(5,_),(9,_)] [⟨2,28,ptrH,_⟩,⟨3,30,ptrH,_⟩] a w:=hst
 refine thn_normal ?_
 refine cond_of hst (zm 2 rfl) (fun hb0=>?_) (fun hb0=>?_)
 ·refine wp_seq ?_
  refine gl (sts:=[none,none]) (news:=[]) (sp:=[.val 4 _,.val 5 _]) [.o 0,.o 1] hst (zv rfl rfl (r_assign has_bo) (zv rfl rfl (r_assign has_num) o0)) (fun a w hst=>?_)
  have hst:St B w0 13 [(4,_),(5,_)] [⟨2,28,ptrH,_⟩,⟨3,30,ptrH,_⟩] a w:=hst
  refine thn_normal ?_
  refine wp_ret ?_
  refine thn_ret ?_
  refine ret_wk ?_ (ret_many (rs:=[.tmp 4,.tmp 5]) rfl hst (.tmp (zm 0 rfl) (.tmp (zm 1 rfl) .nil)) zd)
  rw [stO,if_neg (fiO_no hb0)]; exact wk_id
 ·have hok:=fiO_ok hb0
  have hy:=fiO_yes hb0
  have hst:=St.wkL hst 0 rfl (qm_x (okM_q hok.1).1)
  have hst:=St.wkL hst 1 rfl (qr_x hok.2)
  refine wp_skip ?_
  refine zt ?_
  refine gl (sts:=[none,none]) (news:=[]) (sp:=[.val 10 _,.val 11 _,.val 12 _,.val 4 _,.val 5 _]) [.o 3,.o 4] hst (zv rfl rfl (r_load (lz0 0 rfl) ty_28) (zv rfl rfl (r_load (lz0 1 rfl) ty_30) (zv rfl rfl (r_call (xs:=[.tmp 10,.tmp 11]) r13stays_q (.cons (vq 0 rfl) (.cons (vq 1 rfl) .nil))) (zv rfl rfl (r_assign (vq 2 rfl)) (zv rfl rfl (r_assign has_num) o0))))) (fun a w hst=>?_)
  have hst:St B w0 13 [(4,_),(5,_)] [⟨2,28,ptrH,_⟩,⟨3,30,ptrH,_⟩] a w:=hst
  refine thn_normal ?_
  refine wp_ret ?_
  refine ret_wk ?_ (ret_many (rs:=[.tmp 4,.tmp 5]) rfl hst (.tmp (zm 0 rfl) (.tmp (zm 1 rfl) .nil)) zd)
  rw [stO,if_pos hy]; exact wk_id
theorem r13Bound_c (m:RM) (r:RR):Cn Tryz.prog 19 [(RMA m).va,(RRA r).va] (FrR (boO m r)):=by
 refine Cn.intro Tryz.func19 rfl zk nq (fun B w0 a hst=>?_)
 have hst:St B w0 52 [(0,(RMA m).va),(1,(RRA r).va)] [] a w0.w:=hst
 refine wp_seq ?_
 refine gl (sts:=[]) (news:=[⟨2,28,ptrH,some 0,_,none⟩,⟨3,30,ptrH,some 1,_,none⟩,⟨4,26,ptrH,some 2,_,none⟩]) (sp:=[.alc 0,.alc 1,.alc 2,.val 5 _]) [.o 3] hst (oc (ob_box rfl rfl rfl (gq 0 rfl)) (oc (ob_box rfl rfl rfl (gq 1 rfl)) (oc (ob_alc rfl rfl rfl (Str.zero str_frac)) (zv rfl rfl (r_assign has_num) o0)))) (fun a w hst=>?_)
 have hst:St B w0 52 [(5,_)] [⟨2,28,ptrH,_⟩,⟨3,30,ptrH,_⟩,⟨4,26,ptrH,_⟩] a w:=hst
 refine zt ?_
 refine wp_seq ?_
 refine gl (sts:=[none,none,none]) (news:=[]) (sp:=[.val 8 _,.val 9 _,.val 10 _,.val 11 _]) [.g 0,.o 3] hst (zv rfl rfl (r_load (lz0 0 rfl) ty_28) (zv rfl rfl (r_load (lz0 1 rfl) ty_30) (zv rfl rfl (r_call (xs:=[.tmp 8,.tmp 9]) (r13fine_c m r) (.cons (vq 0 rfl) (.cons (vq 1 rfl) .nil))) (zv rfl rfl (r_not (vq 2 rfl)) o0)))) (fun a w hst=>?_)
 have hst:St B w0 52 [(5,_),(11,_)] [⟨2,28,ptrH,_⟩,⟨3,30,ptrH,_⟩,⟨4,26,ptrH,_⟩] a w:=hst
 refine thn_normal ?_
 refine cond_of hst (zm 1 rfl) (fun hb0=>?_) (fun hb0=>?_)
 ·refine wp_seq ?_
  refine gl (sts:=[none,none,some (1,_)]) (news:=[]) (sp:=[.val 12 _,.sto 2,.val 5 _]) [.o 2] hst (zv rfl rfl (r_build (xs:=[]) (qs:=[]) str_frac .nil) (oc (ob_sto rfl rfl rfl (vq 0 rfl) ty_26 (Eq.trans (b:=4) rfl rfl)) (zv rfl rfl (r_assign has_num) o0))) (fun a w hst=>?_)
  have hst:St B w0 52 [(5,_)] [⟨2,28,ptrH,_⟩,⟨3,30,ptrH,_⟩,⟨4,26,ptrH,_⟩] a w:=hst
  refine thn_normal ?_
  refine wp_ret ?_
  refine thn_ret ?_
  refine ret_wk ?_ (ret_many (rs:=[.cell 4 26,.tmp 5]) rfl hst (.cell (zm 2 rfl) ty_26 (.tmp (zm 0 rfl) .nil)) zd)
  rw [boO,if_neg (fiO_no hb0)]; exact wk_id
 ·have hok:=fiO_ok hb0
  have hy:=fiO_yes hb0
  have hst:=St.wkL hst 0 rfl (qm_x (okM_q hok.1).1)
  have hst:=St.wkL hst 1 rfl (qr_x hok.2)
  refine wp_skip ?_
  refine zt ?_
  refine wp_seq ?_
  refine gl (sts:=[none,none,none]) (news:=[]) (sp:=[.val 13 _,.val 14 _,.val 15 _,.val 16 _]) [.g 0,.o 3] hst (zv rfl rfl (r_load (lz0 0 rfl) ty_28) (zv rfl rfl (r_load (lz0 1 rfl) ty_30) (zv rfl rfl (r_call (xs:=[.tmp 13,.tmp 14]) r13stays_q (.cons (vq 0 rfl) (.cons (vq 1 rfl) .nil))) (zv rfl rfl (r_not (vq 2 rfl)) o0)))) (fun a w hst=>?_)
  have hst:St B w0 52 [(5,_),(16,_)] [⟨2,28,ptrH,_⟩,⟨3,30,ptrH,_⟩,⟨4,26,ptrH,_⟩] a w:=hst
  refine thn_normal ?_
  refine cond_of hst (zm 1 rfl) (fun hb1=>?_) (fun hb1=>?_)
  ·have hs:¬ staQ (toM m) (toY r)=true:=by simpa using hb1
   refine wp_seq ?_
   refine gl (sts:=[none,none,some (1,_)]) (news:=[]) (sp:=[.val 17 _,.sto 2,.val 5 _]) [.o 2] hst (zv rfl rfl (r_build (xs:=[]) (qs:=[]) str_frac .nil) (oc (ob_sto rfl rfl rfl (vq 0 rfl) ty_26 (Eq.trans (b:=4) rfl rfl)) (zv rfl rfl (r_assign has_num) o0))) (fun a w hst=>?_)
   have hst:St B w0 52 [(5,_)] [⟨2,28,ptrH,_⟩,⟨3,30,ptrH,_⟩,⟨4,26,ptrH,_⟩] a w:=hst
   refine thn_normal ?_
   refine wp_ret ?_
   refine thn_ret ?_
   refine ret_wk ?_ (ret_many (rs:=[.cell 4 26,.tmp 5]) rfl hst (.cell (zm 2 rfl) ty_26 (.tmp (zm 0 rfl) .nil)) zd)
   rw [boO,if_pos hy,if_neg hs]; exact wk_id
  ·have hs:staQ (toM m) (toY r)=true:=by simpa using hb1
   refine wp_skip ?_
   refine zt ?_
   refine wp_seq ?_
   refine gl (sts:=[none,none,none]) (news:=[]) (sp:=[.val 18 _,.val 19 _,.val 20 _]) [.g 0,.o 2] hst (zv rfl rfl (r_load (lz0 0 rfl) ty_28) (zv rfl rfl (r_call (xs:=[.tmp 18]) r13kind_q (.cons (vq 0 rfl) .nil)) (zv rfl rfl (r_neq (vq 1 rfl) has_num) o0))) (fun a w hst=>?_)
   have hst:St B w0 52 [(5,_),(20,_)] [⟨2,28,ptrH,_⟩,⟨3,30,ptrH,_⟩,⟨4,26,ptrH,_⟩] a w:=hst
   refine thn_normal ?_
   refine cond_of hst (zm 1 rfl) (fun hb2=>?_) (fun hb2=>?_)
   ·refine wp_seq ?_
    refine gl (sts:=[none,none,some (8,_)]) (news:=[]) (sp:=[.adr 21 3 (.some 0) True,.val 22 _,.adr 23 3 (.some 0) True,.val 24 _,.val 25 _,.val 26 _,.val 27 _,.val 28 _,.sto 2,.val 5 _]) [.o 9] hst (oc (ob_a rfl rfl (a_fld (lz0 1 rfl) fld_30_0)) (zv rfl rfl (r_loadf 0 rfl zk trivial (lz0 1 rfl) (Sub.part 0 rfl rfl) ty_26) (oc (ob_a rfl rfl (a_fld (lz0 1 rfl) fld_30_0)) (zv rfl rfl (r_loadf 2 rfl zk trivial (lz0 1 rfl) (Sub.part 0 rfl rfl) ty_26) (zv rfl rfl (r_call (xs:=[.tmp 22,.tmp 24]) (r2times_q zo) (.cons (vq 1 rfl) (.cons (vq 3 rfl) .nil))) (zv rfl rfl (r_call (xs:=[.tmp 25]) (r13told_q _) (.cons (vq 4 rfl) .nil)) (zv rfl rfl (r_ex0 (vq 5 rfl)) (zv rfl rfl (r_ex1 (vq 5 rfl)) (oc (ob_sto rfl rfl rfl (vq 6 rfl) ty_26 (Eq.trans (b:=4) rfl rfl)) (zv rfl rfl (r_assign (vq 7 rfl)) o0)))))))))) (fun a w hst=>?_)
    have hst:St B w0 52 [(5,_)] [⟨2,28,ptrH,_⟩,⟨3,30,ptrH,_⟩,⟨4,26,ptrH,_⟩] a w:=hst
    refine thn_normal ?_
    refine wp_ret ?_
    refine thn_ret ?_
    refine ret_wk ?_ (ret_many (rs:=[.cell 4 26,.tmp 5]) rfl hst (.cell (zm 2 rfl) ty_26 (.tmp (zm 0 rfl) .nil)) zd)
    rw [boO,if_pos hy,if_pos hs,bo13_n hb2]; exact wk_id
   ·refine wp_skip ?_
    refine zt ?_
    refine gl (sts:=[none,none,none]) (news:=[⟨6,26,ptrH,some 5,_,some (6,_)⟩]) (sp:=[.adr 29 2 (.some 0) True,.val 30 _,.adr 31 2 (.some 12) True,.val 32 _,.val 33 _,.alc 3,.sto 3]) [.g 0] hst (oc (ob_a rfl rfl (a_fld (lz0 0 rfl) fld_28_0)) (zv rfl rfl (r_loadf 0 rfl zk trivial (lz0 0 rfl) (Sub.part 0 rfl rfl) ty_26) (oc (ob_a rfl rfl (a_fld (lz0 0 rfl) fld_28_3)) (zv rfl rfl (r_loadf 2 rfl zk trivial (lz0 0 rfl) (Sub.part 3 rfl rfl) ty_26) (zv rfl rfl (r_call (xs:=[.tmp 30,.tmp 32]) (r2plus_q zo) (.cons (vq 1 rfl) (.cons (vq 3 rfl) .nil))) (oc (ob_alc rfl rfl rfl (Str.zero str_frac)) (oc (ob_sto rfl rfl rfl (vq 4 rfl) ty_26 (Eq.trans (b:=4) rfl rfl)) o0))))))) (fun a w hst=>?_)
    have hst:St B w0 52 [(5,_)] [⟨2,28,ptrH,_⟩,⟨3,30,ptrH,_⟩,⟨4,26,ptrH,_⟩,⟨6,26,ptrH,_⟩] a w:=hst
    refine zt ?_
    refine go_draw (anc:=[[],[],[1],[],[],[0,3,4],[0,1,2,3,4,5],[0,1,2,3,4,5,6],[],[0,1,2,3,4,5,6,7,8]]) (sts:=[none,none,none,none]) (news:=[⟨7,26,ptrH,some 8,_,some (9,_)⟩]) (sp:=[.val 34 _,.adr 35 2 (.some 4) True,.val 36 _,.val 37 _,.val 38 _,.val 39 _,.val 40 _,.val 41 _,.alc 4,.sto 4]) [.g 0] follows_mixed hst (zv rfl rfl (r_call (xs:=[.const (.int .i64 (-4)),.const (.int .i64 (1))]) (r2small_q zd zd zd zd zd) (.cons has_num (.cons has_num .nil))) (oc (ob_a rfl rfl (a_fld (lz0 0 rfl) fld_28_1)) (zv rfl rfl (r_loadf 1 rfl zk trivial (lz0 0 rfl) (Sub.part 1 rfl rfl) ty_26) (zv rfl rfl (r_load (lz0 0 rfl) ty_28) (zv rfl rfl (r_load (lz0 1 rfl) ty_30) (zv rfl rfl (r_call (xs:=[.tmp 37,.tmp 38]) r13form_q (.cons (vq 3 rfl) (.cons (vq 4 rfl) .nil))) (zv rfl rfl (r_call (xs:=[.tmp 36,.tmp 39]) (r2times_q zo) (.cons (vq 2 rfl) (.cons (vq 5 rfl) .nil))) (zv rfl rfl (r_call (xs:=[.tmp 34,.tmp 40]) (r2times_q zo) (.cons (vq 0 rfl) (.cons (vq 6 rfl) .nil))) (oc (ob_alc rfl rfl rfl (Str.zero str_frac)) (oc (ob_sto rfl rfl rfl (vq 7 rfl) ty_26 (Eq.trans (b:=4) rfl rfl)) o0)))))))))) zk zk zk zk (fun a w hst=>?_)
    have hst:St B w0 52 [(5,_)] [⟨2,28,ptrH,_⟩,⟨3,30,ptrH,_⟩,⟨4,26,ptrH,_⟩,⟨6,26,ptrH,_⟩,⟨7,26,ptrH,_⟩] a w:=hst
    refine zt ?_
    refine go_draw (anc:=[[],[],[],[],[1,2,3],[1,2,3,4],[0,1,2,3,4,5],[0,1,2,3,4,5,6],[0,1,2,3,4,5,6,7],[0,1,2,3,4,5,6,7],[0,1,2,3,4,5,6,7,8,9],[0,1,2,3,4,5,6,7,8,9,10]]) (sts:=[none,none,some (10,_),none,none]) (news:=[]) (sp:=[.val 42 _,.val 43 _,.val 44 _,.val 45 _,.val 46 _,.val 47 _,.val 48 _,.val 49 _,.val 50 _,.val 51 _,.sto 2,.val 5 _]) [.o 11] follows_mixed hst (zv rfl rfl (r_load (lz0 4 rfl) ty_26) (zv rfl rfl (r_call (xs:=[.const (.int .i64 (4)),.const (.int .i64 (1))]) (r2small_q zd zd zd zd zd) (.cons has_num (.cons has_num .nil))) (zv rfl rfl (r_load (lz0 3 rfl) ty_26) (zv rfl rfl (r_load (lz0 3 rfl) ty_26) (zv rfl rfl (r_call (xs:=[.tmp 44,.tmp 45]) (r2times_q zo) (.cons (vq 2 rfl) (.cons (vq 3 rfl) .nil))) (zv rfl rfl (r_call (xs:=[.tmp 43,.tmp 46]) (r2minus_q zo) (.cons (vq 1 rfl) (.cons (vq 4 rfl) .nil))) (zv rfl rfl (r_call (xs:=[.tmp 42,.tmp 47]) (r2over_q zd (bo13_z hb2)) (.cons (vq 0 rfl) (.cons (vq 5 rfl) .nil))) (zv rfl rfl (r_call (xs:=[.tmp 48]) (r13told_q _) (.cons (vq 6 rfl) .nil)) (zv rfl rfl (r_ex0 (vq 7 rfl)) (zv rfl rfl (r_ex1 (vq 7 rfl)) (oc (ob_sto rfl rfl rfl (vq 8 rfl) ty_26 (Eq.trans (b:=4) rfl rfl)) (zv rfl rfl (r_assign (vq 9 rfl)) o0)))))))))))) zk zk zk zk (fun a w hst=>?_)
    have hst:St B w0 52 [(5,_)] [⟨2,28,ptrH,_⟩,⟨3,30,ptrH,_⟩,⟨4,26,ptrH,_⟩,⟨6,26,ptrH,_⟩,⟨7,26,ptrH,_⟩] a w:=hst
    refine thn_normal ?_
    refine wp_ret ?_
    refine ret_wk ?_ (ret_many (rs:=[.cell 4 26,.tmp 5]) rfl hst (.cell (zm 2 rfl) ty_26 (.tmp (zm 0 rfl) .nil)) zd)
    rw [boO,if_pos hy,if_pos hs,boQ,if_neg (bo13_y hb2).2]; exact wk_eq (congrArg (fun z=>FrR (toO z)) (by rw [show Rat.divInt 4 1=4 from rfl]; rfl))
end Go.Proofs.YthncfchnkjemiaaGreatDoor
