import Derived.Test.YtlakjmncfooodaaSnAf
set_option linter.all false
set_option maxRecDepth 100000
namespace Go.Proofs.Ytlakjmncfooodaa
theorem kn_top {Y DD Bm dl d2 top wl u2 u1 u0:Nat}(hY:Y=wl+Bm*(u2+4294967296*(u1+4294967296*u0)))(hD:DD=dl+Bm*(d2+4294967296*top))(hdl:dl<Bm)(hd2:d2<4294967296)(h:Y<DD*4294967296):u0≤top:=by
 rcases Nat.lt_or_ge top u0 with hlt | hge
 ·exfalso
  have h1:Bm*(4294967296*(4294967296*(top+1)))≤Bm*(u2+4294967296*(u1+4294967296*u0)):=qY _ zo
  have h2:DD+1≤Bm*(4294967296*(top+1)):=by
   have:Bm*(d2+4294967296*top)+Bm≤Bm*(4294967296*(top+1)):=by
    rw [← jx]; exact qY _ zo
   omega
  have h3:Bm*(4294967296*(4294967296*(top+1)))=4294967296*(Bm*(4294967296*(top+1))):=by
   rw [← qC,qK Bm,qC]
  omega
 ·exact hge
theorem kn_lo {Y DD Bm dl d2 top wl u2 head:Nat}(hY:Y=wl+Bm*(u2+4294967296*head))(hD:DD=dl+Bm*(d2+4294967296*top))(hwl:wl<Bm):Y/DD*(top*4294967296+d2)≤head*4294967296+u2:=by
 have h1:Y/DD*DD≤Y:=xx _ _
 generalize Y/DD=q at *
 have h2:Bm*(q*(d2+4294967296*top))≤q*DD:=by
  rw [hD,zj q dl,← qC q Bm,qK q Bm,qC]; omega
 have h3:Bm*(q*(d2+4294967296*top))<Bm*(u2+4294967296*head+1):=by
  rw [jx]; omega
 have h4:=Nat.lt_of_mul_lt_mul_left h3
 rw [show top*4294967296+d2=d2+4294967296*top by omega]
 omega
theorem kn_hi {Y DD Bm dl d2 top wl u2 head g:Nat}(hY:Y=wl+Bm*(u2+4294967296*head))(hD:DD=dl+Bm*(d2+4294967296*top))(hdl:dl<Bm)(ht:0<top)(hg:g<4294967296)(h:g*(top*4294967296+d2)≤head*4294967296+u2):g*DD≤Y+DD:=by
 have h1:Bm*(g*(d2+4294967296*top))≤Bm*(u2+4294967296*head):=qY _ (by rw [show d2+4294967296*top=top*4294967296+d2 by omega]; omega)
 have h2:g*DD≤g*Bm+Bm*(g*(d2+4294967296*top)):=by
  rw [hD,zj g dl,← qC g Bm,qK g Bm,qC]
  have:g*dl≤Bm*g:=by rw [qK]; exact qU _ zo
  omega
 have h3:g*Bm≤Bm*(d2+4294967296*top):=by
  rw [qK]; exact qY _ zo
 omega
theorem kn_pm {Y DD g:Nat}(h0:0<DD)(h1:Y/DD≤g)(h2:g*DD≤Y+DD):g=Y/DD∨g=Y/DD+1:=by
 have h3:Y<(Y/DD+1)*DD:=by rw [qK]; exact jG Y h0
 have h4:g*DD<(Y/DD+2)*DD:=by rw [show Y/DD+2=(Y/DD+1)+1 from rfl,xH (Y/DD+1)]; omega
 have:=jh h4
 omega
def lsB (W D:List Nat)(q:Nat):Nat→Nat
 | 0=>0
 | k+1=>(lsB W D q k+q*D.getD k 0)/4294967296+if W.getD k 0<(lsB W D q k+q*D.getD k 0)%4294967296 then 1 else 0
def lsO (W D:List Nat)(q:Nat):Nat→List Nat
 | 0=>[]
 | k+1=>lsO W D q k++[(W.getD k 0+4294967296-(lsB W D q k+q*D.getD k 0)%4294967296)%4294967296]
theorem cO (W D:List Nat)(q k:Nat):(lsO W D q k).length=k:=by
 induction k with
 | zero=>rfl
 | succ k ih=>simp [lsO,ih]
theorem lsO_ok (W D:List Nat)(q k:Nat):okL (lsO W D q k):=by
 induction k with
 | zero=>exact bT
 | succ k ih=>exact okL_append.2 ⟨ih,okL_cons.2 ⟨qO _ zo,bT⟩⟩
theorem fq {l:List Nat}(h:okL l)(k:Nat):l.getD k 0<4294967296:=by
 by_cases hk:k<l.length
 ·simp only [List.getD_eq_getElem?_getD,List.getElem?_eq_getElem hk,zN]; exact h _ (qg hk)
 ·simp [List.getD_eq_getElem?_getD,List.getElem?_eq_none (by omega:l.length≤k)]
theorem lsB_le {W D:List Nat}{q:Nat}(hD:okL D)(k:Nat):lsB W D q k≤q:=by
 induction k with
 | zero=>exact zi _
 | succ k ih =>
  unfold lsB
  have h1:=fq hD k
  generalize D.getD k 0=v at *
  generalize lsB W D q k=b at *
  generalize W.getD k 0=u at *
  have h2:q*v≤q*4294967295:=qY _ zo
  generalize q*v=p at *
  split <;> omega
theorem ls_val {W D:List Nat}{q k:Nat}(hW:okL W)(hkW:k≤W.length)(hkD:k≤D.length):val (lsO W D q k)+q*val (D.take k)=val (W.take k)+4294967296^k*lsB W D q k:=by
 induction k with
 | zero=>simp [lsO,lsB]
 | succ k ih =>
  have ih:=ih zo zo
  have h1:=fq hW k
  rw [lsO,fY,cO,aH (by omega:k<D.length),aH (by omega:k<W.length),lsB,zj,qR]
  have e1:D[k]'zo=D.getD k 0:=by simp [List.getD_eq_getElem?_getD,List.getElem?_eq_getElem (by omega:k<D.length)]
  have e2:W[k]'zo=W.getD k 0:=by simp [List.getD_eq_getElem?_getD,List.getElem?_eq_getElem (by omega:k<W.length)]
  rw [e1,e2]
  generalize hv:D.getD k 0=v at *
  generalize lsB W D q k=b at *
  generalize W.getD k 0=u at *
  have e3:q*(4294967296^k*v)=4294967296^k*(q*v):=by rw [← qC,qK q,qC]
  rw [e3]
  generalize q*v=p at *
  generalize 4294967296^k=E at *
  have e4:E*((u+4294967296-(b+p)%4294967296)%4294967296)+E*p+E*b=E*u+E*4294967296*((b+p)/4294967296+if u<(b+p)%4294967296 then 1 else 0):=by
   rw [← zj,← zj,qC,← zj]
   congr 1
   split <;> omega
  omega
theorem ls_end {W D:List Nat}{q m:Nat}(hW:okL W)(hD:okL D)(hm:D.length=m)(hlW:W.length=m+1)(hq:q<4294967296) :
  decide (W.getD m 0<lsB W D q m)=decide (val W<q*val D) ∧
  lsO W D q m++[(W.getD m 0+4294967296-lsB W D q m)%4294967296]=digs (m+1) (val W+(if val W<q*val D then 4294967296^(m+1) else 0)-q*val D):=by
 have h1:=ls_val (q:=q) hW (by omega:m≤W.length) (by omega:m≤D.length)
 have h2:=lsB_le (W:=W) (q:=q) hD m
 have h3:=fq hW m
 have h4:val W=val (W.take m)+4294967296^m*W.getD m 0:=by
  have:=aH (l:=W) (i:=m) zo
  rw [qA zo] at this
  rw [this]
  simp [List.getD_eq_getElem?_getD,List.getElem?_eq_getElem (by omega:m<W.length)]
 have h5:D.take m=D:=qA zo
 rw [h5] at h1
 have ho:okL (lsO W D q m++[(W.getD m 0+4294967296-lsB W D q m)%4294967296]):=okL_append.2 ⟨lsO_ok _ _ _ _,okL_cons.2 ⟨qO _ zo,bT⟩⟩
 have hv:=fY (lsO W D q m) ((W.getD m 0+4294967296-lsB W D q m)%4294967296)
 have hlt:=gX ho
 simp only [qE,cO,zU,je,qB] at hlt hv
 have hlen:(lsO W D q m++[(W.getD m 0+4294967296-lsB W D q m)%4294967296]).length=m+1:=by simp [cO]
 generalize lsO W D q m=o at *
 generalize lsB W D q m=b at *
 generalize W.getD m 0=u at *
 generalize hS:q*val D=S at *
 rw [qR] at *
 have key:val (o++[(u+4294967296-b)%4294967296])+S=val W+if u<b then 4294967296^m*4294967296 else 0:=by
  rw [hv,h4]
  have:4294967296^m*((u+4294967296-b)%4294967296)+4294967296^m*b=4294967296^m*u+if u<b then 4294967296^m*4294967296 else 0:=by
   rw [← zj]
   split
   ·rw [← zj]; congr 1; omega
   ·rw [xJ]; congr 1; omega
  omega
 have hc:(u<b)↔(val W<S):=by
  constructor
  ·intro h; rw [qy h] at key; omega
  ·intro h; apply Decidable.byContradiction; intro hn; rw [qm hn] at key; omega
 refine ⟨by rw [qF]; exact hc,fv ho hlen ?_⟩
 by_cases h:u<b
 ·rw [qy h] at key; rw [qy (hc.1 h)]; omega
 ·rw [qm h] at key; rw [qm (λ hh=>h (hc.2 hh))]; omega
def spl (l:List Nat)(o:Nat)(c:List Nat):List Nat:=l.take o++c++l.drop (o+c.length)
theorem iG (l:List Nat)(o:Nat):spl l o []=l:=by simp [spl]
theorem ep {l:List Nat}{o:Nat}{c:List Nat}(h:o+c.length≤l.length):(spl l o c).length=l.length:=by simp [spl]; omega
theorem f9 {l:List Nat}{o k x:Nat}{c:List Nat}(hk:c.length=k)(h:o+k<l.length):(spl l o c).set (o+k) x=spl l o (c++[x]):=by
 subst hk
 unfold spl
 rw [qM,xo _ _ (by simp; omega),zT,xf zo,ju,xo _ _ (qf _),xZ,
  qP h,List.set_cons_zero]
 simp [qM,jp]
theorem fa {l:List Nat}{o j:Nat}{c:List Nat}(h:o+c.length≤j)(hj:j<l.length):(spl l o c)[j]?=some (l.getD j 0):=by
 unfold spl
 rw [List.getElem?_append_right (by simp; omega),List.getElem?_drop]
 simp only [qE,zT]
 rw [xf zo,show o+c.length+(j-(o+c.length))=j by omega,List.getElem?_eq_getElem hj]
 simp [List.getD_eq_getElem?_getD,List.getElem?_eq_getElem hj]
theorem spl_spl {l:List Nat}{o:Nat}{c c':List Nat}(h:c.length=c'.length)(ho:o+c.length≤l.length):spl (spl l o c) o c'=spl l o c':=by
 unfold spl
 rw [← h,zE (by simp; omega),zE (by simp; omega),jj,Nat.min_self,zV (by simp; omega),q6 (by simp; omega)]
 simp
theorem spl_win {l:List Nat}{o:Nat}{c:List Nat}(h:o+c.length≤l.length):((spl l o c).drop o).take c.length=c:=by
 unfold spl
 rw [qM,zV (by simp; omega),q6 (by simp; omega),xO,zE (qf _),qN]
theorem eJ {l:List Nat}{o n k:Nat}(h:k<n):((l.drop o).take n).getD k 0=l.getD (o+k) 0:=by
 simp [List.getD_eq_getElem?_getD,List.getElem?_take_of_lt h]
theorem getD_some {l:List Nat}{k:Nat}(h:k<l.length):l[k]?=some (l.getD k 0):=by
 simp [List.getD_eq_getElem?_getD,List.getElem?_eq_getElem h]
theorem hN {l:List Nat}{m k:Nat}(h:k<m):(l.take m).getD k 0=l.getD k 0:=by
 simp [List.getD_eq_getElem?_getD,List.getElem?_take_of_lt h]
theorem gu {l:List Nat}(h:okL l)(n:Nat):okL (l.take n):=λ x hx=>h x (z7 hx)
theorem okL_drop {l:List Nat}(h:okL l)(n:Nat):okL (l.drop n):=λ x hx=>h x (List.mem_of_mem_drop hx)
theorem eU (a b m:Nat):digs (a+b) m=digs a m++digs b (m/4294967296^a):=by
 induction a generalizing m with
 | zero=>simp [digs]
 | succ a ih=>rw [show a+1+b=a+b+1 by omega,digs,digs,ih,qL,qR,qK (4294967296^a)]; rfl
theorem fx {a n m:Nat}(h:a≤n):(digs n m).take a=digs a m:=by
 obtain ⟨b,rfl⟩:∃ b,n=a+b:=⟨n-a,by omega⟩
 rw [eU,zE (by rw [ab]; omega),qA (by rw [ab]; omega)]
theorem iq {a n m:Nat}(h:a≤n):(digs n m).drop a=digs (n-a) (m/4294967296^a):=by
 obtain ⟨b,rfl⟩:∃ b,n=a+b:=⟨n-a,by omega⟩
 rw [eU,zV (by rw [ab]; omega),q6 (by rw [ab]; omega),show a+b-a=b by omega]; rfl
theorem fy {n m k:Nat}(h:k<n):(digs n m).getD k 0=m/4294967296^k%4294967296:=by
 induction n generalizing m k with
 | zero=>omega
 | succ n ih =>
  cases k with
  | zero=>simp [digs]
  | succ k=>rw [digs,List.getD_cons_succ,ih zo,qL,qR,qK (4294967296^k)]
theorem digs_spl {n V i k Y:Nat}(hi:i+k≤n)(hV:V<4294967296^(i+k))(hY:Y<4294967296^k):spl (digs n V) i (digs k Y)=digs n (V%4294967296^i+4294967296^i*Y):=by
 obtain ⟨r,rfl⟩:∃ r,n=i+k+r:=⟨n-(i+k),by omega⟩
 have hp:0<4294967296^i:=qX zo
 unfold spl
 rw [ab,fx zo,iq zo,eU (i+k),eU i]
 have e1:(V%4294967296^i+4294967296^i*Y)/4294967296^i=Y:=by
  rw [jD _ _ hp,z9 (qO _ hp),qB]
 have e2:(V%4294967296^i+4294967296^i*Y)/4294967296^(i+k)=V/4294967296^(i+k):=by
  rw [zq,← qL,e1,z9 hY,← zq,z9 hV]
 rw [e1,e2,show i+k+r-(i+k)=r by omega]
 congr 2
 exact dr (by rw [jm,Nat.mod_mod])
def bl (n:Nat):Nat:=if n=0 then 0 else n.log2+1
theorem bl_succ {n:Nat}(h:n≠0):bl n=bl (n/2)+1:=by
 unfold bl
 rw [qm h,Nat.log2_def]
 by_cases h2:2≤n
 ·rw [qy h2,qm zo]
 ·rw [qm h2,qy zo]
theorem bl_div (n k:Nat)(h:2^k≤n):bl n=bl (n/2^k)+k:=by
 induction k with
 | zero=>simp
 | succ k ih =>
  rw [qR] at h
  have hp:0<2^k:=qX zo
  rw [ih zo,qR,← qL,bl_succ (n:=n/2^k)]
  ·omega
  ·have:0<n/2^k:=Nat.div_pos zo hp
   omega
theorem bl_lt (n:Nat):n<2^bl n:=by
 unfold bl
 split
 ·omega
 ·exact Nat.lt_log2_self
theorem bl_le {n:Nat}(h:n≠0):2^(bl n-1)≤n:=by
 unfold bl
 rw [qm h,xg]
 exact Nat.log2_self_le h
theorem cY {n k:Nat}(h:n<2^k):bl n≤k:=by
 by_cases h0:n=0
 ·subst h0; simp [bl]
 ·have h1:=bl_le h0
  apply Decidable.byContradiction
  intro hc
  have:2^k≤2^(bl n-1):=zD zo zo
  omega
theorem bl_pos {n:Nat}(h:n≠0):0<bl n:=by unfold bl; rw [qm h]; omega
theorem bl_norm {n:Nat}(h:n≠0)(h2:n<4294967296):2147483648≤n*2^(32-bl n)∧n*2^(32-bl n)<4294967296∧32-bl n<32:=by
 have h1:=bl_le h
 have h3:=bl_lt n
 have h4:=bl_pos h
 have h5:bl n≤32:=cY (k:=32) zo
 refine ⟨?_,?_,by omega⟩
 ·have:2^(bl n-1)*2^(32-bl n)≤n*2^(32-bl n):=qU _ h1
  rw [← zq,show bl n-1+(32-bl n)=31 by omega] at this
  omega
 ·have:n*2^(32-bl n)<2^bl n*2^(32-bl n):=z5 h3 (qX zo)
  rw [← zq,show bl n+(32-bl n)=32 by omega] at this
  omega
theorem dv_Y (X DD i:Nat)(h:0<DD):X%(DD*4294967296^(i+1))/4294967296^i<DD*4294967296:=by
 apply zb
 have h1:X%(DD*4294967296^(i+1))<DD*4294967296^(i+1):=qO _ (xC h (qX zo))
 rw [qR,← qC,xX,qK] at h1
 rw [qR,← qC,xX,qK (DD*4294967296)]
 exact h1
theorem dv_q (X DD i:Nat):X%(DD*4294967296^(i+1))/4294967296^i/DD=X/(DD*4294967296^i)%4294967296:=by
 rw [qL,qK _ DD,qR,← qC,Nat.mod_mul_right_div_self]
theorem dv_r (X DD i:Nat):X%(DD*4294967296^(i+1))%4294967296^i+4294967296^i*(X%(DD*4294967296^(i+1))/4294967296^i%DD)=X%(DD*4294967296^i):=by
 rw [← Nat.mod_mul,qK _ DD,qR,← qC,Nat.mod_mul_right_mod]
theorem dec2 {D k:Nat}(h:D<4294967296^(k+2)):D=D%4294967296^k+4294967296^k*(D/4294967296^k%4294967296+4294967296*(D/4294967296^(k+1)%4294967296)):=by
 have h1:D/4294967296^(k+1)<4294967296:=zb h
 rw [qS h1,qR,← qL,xe,xe]
theorem dec3 {Y k:Nat}(h:Y<4294967296^(k+3)):Y=Y%4294967296^k+4294967296^k*(Y/4294967296^k%4294967296+4294967296*(Y/4294967296^(k+1)%4294967296+4294967296*(Y/4294967296^(k+2)%4294967296))):=by
 have h1:Y/4294967296^(k+2)<4294967296:=zb h
 rw [qS h1,qR _ (k+1),← qL Y (4294967296^(k+1)),xe (Y/4294967296^(k+1)),qR _ k,← qL,xe,xe]
structure Dv (n k i V DD:Nat):Prop where
 hn:i+(k+3)≤n
 d1:4294967296^(k+1)*2147483648≤DD
 d2:DD<4294967296^(k+2)
 y:V/4294967296^i<DD*4294967296
section
variable {n k i V DD:Nat} (h:Dv n k i V DD)
include h
theorem Dv.pos:0<DD:=qD (xC (qX zo) zo) h.d1
theorem Dv.y3:V/4294967296^i<4294967296^(k+3):=by
 have h1:=h.y
 have h2:=qU 4294967296 (xI h.d2)
 have h3:4294967296^(k+3)=4294967296^(k+2)*4294967296:=qR _ (k+2)
 rw [h3]
 exact qD h1 h2
theorem Dv.v3:V<4294967296^(i+(k+3)):=by
 have h1:=h.y3
 rw [jy (qX zo),qK,← zq] at h1
 exact h1
theorem Dv.u (j:Nat)(hj:j<k+3):(digs n V).getD (i+j) 0=V/4294967296^i/4294967296^j%4294967296:=by
 rw [fy (by have:=h.hn; omega),zq,qL]
theorem Dv.win:((digs n V).drop i).take (k+3)=digs (k+3) (V/4294967296^i):=by
 rw [iq (by have:=h.hn; omega),fx (by have:=h.hn; omega)]
theorem Dv.winv:val (((digs n V).drop i).take (k+3))=V/4294967296^i:=by rw [h.win,cz,qS h.y3]
theorem Dv.dd:val ((digs (k+3) DD).take (k+2))=DD:=by rw [fx zo,cz,qS h.d2]
theorem Dv.top:2147483648≤DD/4294967296^(k+1)%4294967296:=by
 have h1:DD/4294967296^(k+1)<4294967296:=zb h.d2
 rw [qS h1]
 rw [xP (qX zo),qK]
 exact h.d1
end
structure Gs (k Y DD g r:Nat):Prop where
 eq:g*(DD/4294967296^(k+1)%4294967296)+r=Y/4294967296^(k+2)%4294967296*4294967296+Y/4294967296^(k+1)%4294967296
 ge:Y/DD≤g
 r:r<4294967296
theorem Gs.next {k Y DD g r:Nat}(hg:Gs k Y DD g r)(hlt:Y/DD<g)(hr:r+DD/4294967296^(k+1)%4294967296<4294967296):Gs k Y DD (g-1) (r+DD/4294967296^(k+1)%4294967296):=by
 refine ⟨?_,Nat.le_sub_one_of_lt hlt,hr⟩
 have h1:=hg.eq
 obtain ⟨g',rfl⟩:∃ g',g=g'+1:=⟨g-1,(jL (qT (zi _) hlt)).symm⟩
 rw [xg]
 rw [xH] at h1
 omega
section
variable {n k i V DD:Nat} (h:Dv n k i V DD)
include h
theorem Dv.lo:V/4294967296^i/DD*(DD/4294967296^(k+1)%4294967296*4294967296+DD/4294967296^k%4294967296) ≤
  (V/4294967296^i/4294967296^(k+2)%4294967296*4294967296+V/4294967296^i/4294967296^(k+1)%4294967296)*4294967296+V/4294967296^i/4294967296^k%4294967296:=by
 have e1:=dec3 h.y3
 have e2:=dec2 h.d2
 refine kn_lo (wl:=V/4294967296^i%4294967296^k) (dl:=DD%4294967296^k) (Bm:=4294967296^k) ?_ e2 (qO _ (qX zo))
 refine e1.trans ?_
 congr 3
 omega
theorem Dv.u0:V/4294967296^i/4294967296^(k+2)%4294967296≤DD/4294967296^(k+1)%4294967296 :=
 kn_top (dec3 h.y3) (dec2 h.d2) (qO _ (qX zo)) (qO _ zo) h.y
theorem Dv.gs0 {head top:Nat}(hh:head=V/4294967296^i/4294967296^(k+2)%4294967296*4294967296+V/4294967296^i/4294967296^(k+1)%4294967296)(ht:top=DD/4294967296^(k+1)%4294967296) :
  Gs k (V/4294967296^i) DD (head/top) (head%top):=by
 have htop:=h.top
 have hlo:=h.lo
 have e:=Nat.div_add_mod' head top
 have h3:head%top<top:=qO _ zo
 subst hh ht
 refine ⟨e,?_,by omega⟩
 rw [xP zo]
 generalize V/4294967296^i/DD=q at *
 generalize DD/4294967296^(k+1)%4294967296=t at *
 rw [zj,← qC] at hlo
 have:V/4294967296^i/4294967296^k%4294967296<4294967296:=qO _ zo
 generalize q*t=p at *
 omega
variable {g r:Nat} (hg:Gs k (V/4294967296^i) DD g r)
include hg
theorem Dv.gmax:g≤4294967297:=by
 have h1:=hg.eq
 have h2:=h.u0
 have h3:=h.top
 have h4:V/4294967296^i/4294967296^(k+1)%4294967296<4294967296:=qO _ zo
 generalize DD/4294967296^(k+1)%4294967296=t at *
 apply Decidable.byContradiction
 intro hc
 have:4294967298*t≤g*t:=qU _ zo
 omega
theorem Dv.down (hb:4294967296≤g∨r*4294967296+V/4294967296^i/4294967296^k%4294967296<g*(DD/4294967296^k%4294967296)):V/4294967296^i/DD<g:=by
 rcases hb with hb | hb
 ·have:V/4294967296^i/DD<4294967296:=zb h.y
  omega
 ·have hlo:=h.lo
  have h1:=hg.eq
  generalize V/4294967296^i/DD=q at *
  generalize DD/4294967296^(k+1)%4294967296=t at *
  generalize DD/4294967296^k%4294967296=d at *
  have:q*(t*4294967296+d)<g*(t*4294967296+d):=by
   rw [zj g,← qC]
   generalize g*t=p at *
   generalize g*d=s at *
   omega
  exact jh this
theorem Dv.end1 (hb:g<4294967296)(hr:g*(DD/4294967296^k%4294967296)≤r*4294967296+V/4294967296^i/4294967296^k%4294967296):g=V/4294967296^i/DD∨g=V/4294967296^i/DD+1:=by
 refine kn_pm h.pos hg.ge ?_
 have h1:=hg.eq
 refine kn_hi (wl:=V/4294967296^i%4294967296^k) (dl:=DD%4294967296^k) (Bm:=4294967296^k) (head:=V/4294967296^i/4294967296^(k+2)%4294967296*4294967296+V/4294967296^i/4294967296^(k+1)%4294967296) (u2:=V/4294967296^i/4294967296^k%4294967296) ?_ (dec2 h.d2) (qO _ (qX zo)) (by have:=h.top; omega) hb ?_
 ·refine (dec3 h.y3).trans ?_
  congr 3
  omega
 ·rw [zj,← qC]
  generalize g*(DD/4294967296^(k+1)%4294967296)=p at *
  omega
theorem Dv.end2 (hlt:V/4294967296^i/DD<g)(hr:4294967296≤r+DD/4294967296^(k+1)%4294967296):g-1<4294967296∧(g-1=V/4294967296^i/DD∨g-1=V/4294967296^i/DD+1):=by
 have h1:=hg.eq
 have h2:=h.u0
 have h3:=h.top
 have h4:V/4294967296^i/4294967296^(k+1)%4294967296<4294967296:=qO _ zo
 obtain ⟨g',rfl⟩:∃ g',g=g'+1:=⟨g-1,(jL (qT (zi _) hlt)).symm⟩
 rw [xg]
 have hd:DD/4294967296^k%4294967296<4294967296:=qO _ zo
 have hg':g'<4294967296:=by
  apply Decidable.byContradiction
  intro hc
  generalize DD/4294967296^(k+1)%4294967296=t at *
  have:4294967296*t≤g'*t:=qU _ zo
  rw [xH] at h1
  omega
 refine ⟨hg',kn_pm h.pos (Nat.le_of_lt_succ hlt) ?_⟩
 refine kn_hi (wl:=V/4294967296^i%4294967296^k) (dl:=DD%4294967296^k) (Bm:=4294967296^k) (head:=V/4294967296^i/4294967296^(k+2)%4294967296*4294967296+V/4294967296^i/4294967296^(k+1)%4294967296) (u2:=V/4294967296^i/4294967296^k%4294967296) ?_ (dec2 h.d2) (qO _ (qX zo)) zo hg' ?_
 ·refine (dec3 h.y3).trans ?_
  congr 3
  omega
 ·rw [zj,← qC]
  rw [xH] at h1
  have:g'*(DD/4294967296^k%4294967296)≤4294967295*4294967295:=xj zo zo
  generalize g'*(DD/4294967296^(k+1)%4294967296)=p at *
  omega
end
def dvL (n X DD i:Nat):List Nat:=digs n (X%(DD*4294967296^i))
def dvQ (lq X DD i:Nat):List Nat:=List.replicate i 0++digs (lq-i) (X/(DD*4294967296^i))
theorem dvQ_len {lq X DD i:Nat}(h:i≤lq):(dvQ lq X DD i).length=lq:=by simp [dvQ,ab]; omega
theorem dvQ_step {lq X DD i:Nat}(h:i<lq):(dvQ lq X DD (i+1)).set i (X/(DD*4294967296^i)%4294967296)=dvQ lq X DD i:=by
 unfold dvQ
 rw [jE,qM,xo _ _ (by simp),xq,xZ,show lq-i=(lq-(i+1))+1 by omega,digs,qL,qC,← qR]
 rfl
theorem dvQ_top {lq X DD:Nat}:dvQ lq X DD lq=List.replicate lq 0:=by simp [dvQ,digs]
theorem dvL_top {n lq X DD:Nat}(h:X<DD*4294967296^lq):dvL n X DD lq=digs n X:=by rw [dvL,qS h]
theorem mod_sub (Y D:Nat):Y%D=Y-Y/D*D:=by
 have:=xe Y D
 rw [qK (Y/D)]
 omega
theorem lt_ds {Y D:Nat}(h:0<D):Y<(Y/D+1)*D:=by rw [qK]; exact jG Y h
theorem dv_mk {n k i X DD:Nat}(hn:i+(k+3)≤n)(d1:4294967296^(k+1)*2147483648≤DD)(d2:DD<4294967296^(k+2)):Dv n k i (X%(DD*4294967296^(i+1))) DD :=
 ⟨hn,d1,d2,dv_Y X DD i (qD (xC (qX zo) zo) d1)⟩
section
variable {n k i X DD:Nat} (h:Dv n k i (X%(DD*4294967296^(i+1))) DD)
include h
theorem Dv.fin1 {Z:Nat}(hZ:digs (k+3) Z=digs (k+3) (X%(DD*4294967296^(i+1))/4294967296^i%DD)):spl (dvL n X DD (i+1)) i (digs (k+3) Z)=dvL n X DD i:=by
 rw [hZ,dvL,dvL,digs_spl h.hn h.v3 (zx (qO _ h.pos) (zx h.d2 (Nat.pow_lt_pow_right zo zo))),dv_r]
omit h in
theorem Dv.no:¬ (X%(DD*4294967296^(i+1))/4294967296^i<X%(DD*4294967296^(i+1))/4294967296^i/DD*DD):=by
 have:=xx (X%(DD*4294967296^(i+1))/4294967296^i) DD
 omega
theorem Dv.yes:X%(DD*4294967296^(i+1))/4294967296^i<(X%(DD*4294967296^(i+1))/4294967296^i/DD+1)*DD:=by
 exact lt_ds h.pos
theorem Dv.ls {g:Nat}:(val (((dvL n X DD (i+1)).drop i).take (k+3))<g*val ((digs (k+3) DD).take (k+2)))↔X%(DD*4294967296^(i+1))/4294967296^i<g*DD:=by
 rw [dvL,h.winv,h.dd]
theorem Dv.end_no {g:Nat}(hg:g=X%(DD*4294967296^(i+1))/4294967296^i/DD) :
  spl (dvL n X DD (i+1)) i (digs (k+3) (val (((dvL n X DD (i+1)).drop i).take (k+3))+(if val (((dvL n X DD (i+1)).drop i).take (k+3))<g*val ((digs (k+3) DD).take (k+2)) then 4294967296^(k+3) else 0)-g*val ((digs (k+3) DD).take (k+2))))=dvL n X DD i:=by
 apply h.fin1
 rw [qm (by rw [h.ls,hg]; exact Dv.no),h.dd]
 rw [dvL,h.winv,hg]
 rw [mod_sub _ DD]
 simp only [xJ]
theorem Dv.end_yes {g:Nat}(hg:g=X%(DD*4294967296^(i+1))/4294967296^i/DD+1){M W:List Nat}
  (hM:M=spl (dvL n X DD (i+1)) i (digs (k+3) (val (((dvL n X DD (i+1)).drop i).take (k+3))+(if val (((dvL n X DD (i+1)).drop i).take (k+3))<g*val ((digs (k+3) DD).take (k+2)) then 4294967296^(k+3) else 0)-g*val ((digs (k+3) DD).take (k+2)))))
  (hW:W=(M.drop i).take (k+3)):M.length=n∧W.length=k+3∧okL W ∧
  spl M i (digs (k+2) (sumTo W ((digs (k+3) DD).take (k+2)) (k+2))++[(W.getD (k+2) 0+sumTo W ((digs (k+3) DD).take (k+2)) (k+2)/4294967296^(k+2))%4294967296])=dvL n X DD i:=by
 have hlen:(dvL n X DD (i+1)).length=n:=ab _ _
 have hMl:M.length=n:=by rw [hM,ep (by rw [ab,hlen]; exact h.hn),hlen]
 have hWl:W.length=k+3:=by rw [hW]; have:=h.hn; simp; omega
 have hy:=h.yes
 have hWd:W=digs (k+3) (X%(DD*4294967296^(i+1))/4294967296^i+4294967296^(k+3)-g*DD):=by
  have:=spl_win (l:=dvL n X DD (i+1)) (o:=i) (c:=digs (k+3) (val (((dvL n X DD (i+1)).drop i).take (k+3))+(if val (((dvL n X DD (i+1)).drop i).take (k+3))<g*val ((digs (k+3) DD).take (k+2)) then 4294967296^(k+3) else 0)-g*val ((digs (k+3) DD).take (k+2)))) (by rw [ab,hlen]; exact h.hn)
  rw [← hM,ab,← hW] at this
  rw [this,qy (by rw [h.ls,hg]; exact hy),h.dd]
  rw [dvL,h.winv]
 have hok:okL W:=by rw [hWd]; exact bx _ _
 refine ⟨hMl,hWl,hok,?_⟩
 have hDl:((digs (k+3) DD).take (k+2)).length=k+2:=by simp [ab]
 have e1:sumTo W ((digs (k+3) DD).take (k+2)) (k+2)+4294967296^(k+2)*W.getD (k+2) 0=val W+DD:=by
  unfold sumTo
  rw [qA (l:=(digs (k+3) DD).take (k+2)) zo,h.dd]
  have:=aH (l:=W) (i:=k+2) zo
  rw [qA zo] at this
  rw [this,show W.getD (k+2) 0=W[k+2]'zo from by simp [List.getD_eq_getElem?_getD,List.getElem?_eq_getElem (by omega:k+2<W.length)]]
  omega
 have e2:digs (k+2) (sumTo W ((digs (k+3) DD).take (k+2)) (k+2))++[(W.getD (k+2) 0+sumTo W ((digs (k+3) DD).take (k+2)) (k+2)/4294967296^(k+2))%4294967296]=digs (k+3) (val W+DD):=by
  rw [← e1,d7,xk (W.getD (k+2) 0)]
 have hlt:X%(DD*4294967296^(i+1))/4294967296^i/DD*DD≤X%(DD*4294967296^(i+1))/4294967296^i:=xx _ _
 have hd:=h.d2
 have hp:4294967296^(k+2)≤4294967296^(k+3):=zD zo zo
 rw [e2,hM,spl_spl (by simp [ab]) (by rw [ab,hlen]; exact h.hn)]
 apply h.fin1
 rw [hWd,cz]
 apply dr
 rw [hg,xH] at *
 have hm:X%(DD*4294967296^(i+1))/4294967296^i%DD=X%(DD*4294967296^(i+1))/4294967296^i-X%(DD*4294967296^(i+1))/4294967296^i/DD*DD:=mod_sub _ _
 rw [hm]
 have hz:=h.y3
 generalize X%(DD*4294967296^(i+1))/4294967296^i/DD*DD=p at *
 generalize X%(DD*4294967296^(i+1))/4294967296^i=Y at *
 generalize 4294967296^(k+3)=E at *
 rw [qS (show Y+E-(p+DD)<E by omega),show Y+E-(p+DD)+DD=(Y-p)+E by omega,jV]
end
theorem sh_limb {R s j:Nat}(hs:s<32):(R/4294967296^(j+1)%4294967296*4294967296+R/4294967296^j%4294967296)/2^s%4294967296=R/2^s/4294967296^j%4294967296:=by
 rw [qL R (2^s),qK (2^s),← qL,qR,← qL]
 generalize R/4294967296^j=T
 have e1:T=(T/4294967296%4294967296*4294967296+T%4294967296)+2^s*(4294967296*(2^(32-s)*(T/4294967296/4294967296))):=by
  have:2^s*(4294967296*(2^(32-s)*(T/4294967296/4294967296)))=4294967296*(4294967296*(T/4294967296/4294967296)):=by
   rw [Nat.mul_left_comm (2^s),← qC (2^s),← zq,show s+(32-s)=32 by omega]
  rw [this]
  omega
 have e2:T/2^s=(T/4294967296%4294967296*4294967296+T%4294967296)/2^s+4294967296*(2^(32-s)*(T/4294967296/4294967296)):=by
  have h1:=qu (· / 2^s) e1
  rw [jD _ _ (qX zo)] at h1
  exact h1
 rw [e2,jm]
def dvF (n R s j:Nat):List Nat:=spl (digs n R) 0 (digs j (R/2^s))
theorem dvF_zero (n R s:Nat):dvF n R s 0=digs n R:=iG _ _
theorem dvF_len {n R s j:Nat}(h:j≤n):(dvF n R s j).length=n:=by rw [dvF,ep (by rw [ab,ab]; omega),ab]
theorem dvF_get {n R s j i:Nat}(h:j≤i)(hi:i<n):(dvF n R s j)[i]?=some (R/4294967296^i%4294967296):=by
 rw [dvF,fa (by rw [ab]; omega) (by rw [ab]; omega),fy hi]
theorem dvF_step {n R s j:Nat}(hs:s<32)(h:j<n):(dvF n R s j).set j ((R/4294967296^(j+1)%4294967296*4294967296+R/4294967296^j%4294967296)/2^s%4294967296)=dvF n R s (j+1):=by
 rw [sh_limb hs,dvF,dvF,eb]
 have:=f9 (l:=digs n R) (o:=0) (k:=j) (x:=R/2^s/4294967296^j%4294967296) (ab j (R/2^s)) (by rw [ab]; omega)
 rw [qB] at this
 exact this
theorem dvF_end {n R s m:Nat}:dvF n R s m=digs m (R/2^s)++(digs n R).drop m:=by
 rw [dvF,spl,ab]
 simp
theorem dv_norm {d:List Nat}{k:Nat}(hd:okL d)(hl:d.length=k+2)(h0:d.getD (k+1) 0≠0) :
  4294967296^(k+1)*2147483648≤val d*2^(32-bl (d.getD (k+1) 0))∧val d*2^(32-bl (d.getD (k+1) 0))<4294967296^(k+2):=by
 have h1:=aH (l:=d) (i:=k+1) zo
 rw [qA zo] at h1
 have h2:d[k+1]'zo=d.getD (k+1) 0:=by simp [List.getD_eq_getElem?_getD,List.getElem?_eq_getElem (by omega:k+1<d.length)]
 rw [h2] at h1
 have h3:=bK hd (k+1)
 have h4:=bl_norm h0 (fq hd (k+1))
 have h5:=bl_lt (d.getD (k+1) 0)
 have h6:=cY (k:=32) (fq hd (k+1))
 generalize d.getD (k+1) 0=t at *
 generalize val (d.take (k+1))=v at *
 constructor
 ·refine qe (qY _ h4.1) ?_
  rw [← qC]
  exact qU _ zo
 ·have e:val d<4294967296^(k+1)*2^bl t:=by
   rw [h1]
   have:4294967296^(k+1)*(t+1)≤4294967296^(k+1)*2^bl t:=qY _ h5
   rw [jx] at this
   omega
  have h7:=z5 e (show 0<2^(32-bl t) from qX zo)
  rw [qC,← zq,show bl t+(32-bl t)=32 by omega] at h7
  exact h7
theorem dv_start {a:List Nat}{DD k s la:Nat}(ha:okL a)(hla:a.length=la)(hk:k+2≤la)(hs:s<32)(d1:4294967296^(k+1)*2147483648≤DD):val a*2^s<DD*4294967296^(la+1-(k+2)):=by
 have h1:=gX ha
 rw [hla] at h1
 have h2:2^s≤2^31:=zD zo zo
 have h3:val a*2^s≤val a*2147483648:=qY _ h2
 have h4:val a*2147483648<4294967296^la*2147483648:=z5 h1 zo
 have h5:4294967296^(k+1)*2147483648*4294967296^(la+1-(k+2))≤DD*4294967296^(la+1-(k+2)):=qU _ d1
 rw [xX,← zq,show k+1+(la+1-(k+2))=la by omega] at h5
 omega
theorem digs_at {n m j:Nat}(h:j<n):(digs n m)[0+j]?=some (m/4294967296^j%4294967296):=by
 rw [qB,getD_some (by rw [ab]; omega),fy h]
theorem Dv.at_ {n k i X DD:Nat}(h:Dv n k i (X%(DD*4294967296^(i+1))) DD)(j:Nat)(hj:j<k+3):(dvL n X DD (i+1))[i+j]?=some (X%(DD*4294967296^(i+1))/4294967296^i/4294967296^j%4294967296):=by
 have:=h.hn
 rw [dvL,getD_some (by rw [ab]; omega),h.u j hj]
theorem Dv.yes_ex {n k i X DD:Nat}(h:Dv n k i (X%(DD*4294967296^(i+1))) DD){g:Nat}(hg:g=X%(DD*4294967296^(i+1))/4294967296^i/DD+1) :
  ∃ M,spl (dvL n X DD (i+1)) i (digs (k+3) (val (((dvL n X DD (i+1)).drop i).take (k+3))+(if val (((dvL n X DD (i+1)).drop i).take (k+3))<g*val ((digs (k+3) DD).take (k+2)) then 4294967296^(k+3) else 0)-g*val ((digs (k+3) DD).take (k+2))))=M ∧
   M.length=n∧((M.drop i).take (k+3)).length=k+3∧okL ((M.drop i).take (k+3)) ∧
   spl M i (digs (k+2) (sumTo ((M.drop i).take (k+3)) ((digs (k+3) DD).take (k+2)) (k+2))++[(((M.drop i).take (k+3)).getD (k+2) 0+sumTo ((M.drop i).take (k+3)) ((digs (k+3) DD).take (k+2)) (k+2)/4294967296^(k+2))%4294967296])=dvL n X DD i :=
 ⟨_,rfl,h.end_yes hg rfl rfl⟩
theorem dvQ_end {lq X DD:Nat}:dvQ lq X DD 0=digs lq (X/DD):=by simp [dvQ]
theorem ab_step {W D:List Nat}{j:Nat}(hW:j<W.length):digs j (sumTo W D j)++[(W.getD j 0+D.getD j 0+sumTo W D j/4294967296^j)%4294967296]=digs (j+1) (sumTo W D (j+1)):=by
 rw [de hW,d7,show W[j]=W.getD j 0 from by simp [List.getD_eq_getElem?_getD,List.getElem?_eq_getElem hW],xk (sumTo W D j/_)]
theorem ab_carry {W D:List Nat}{j:Nat}(hW:j<W.length):(W.getD j 0+D.getD j 0+sumTo W D j/4294967296^j)/4294967296=sumTo W D (j+1)/4294967296^(j+1):=by
 rw [de hW,carry_step',show W[j]=W.getD j 0 from by simp [List.getD_eq_getElem?_getD,List.getElem?_eq_getElem hW],xk (sumTo W D j/_)]
theorem win_ok {i k n:Nat}(h:i+(k+2)+1≤n):i≤i+(k+2)+1∧i+(k+2)+1≤n∧i<n∧0+i=i∧i+(k+2)+1-i=k+3∧n-i=n-i:=⟨by omega,h,by omega,by omega,by omega,rfl⟩
theorem mul64_lt {x y:Nat}(hx:x<4294967296)(hy:y<4294967296):x*y<18446744073709551616:=by
 have:x*y≤4294967295*4294967295:=xj zo zo
 omega
theorem or_yes {n m p q:Nat}(h:(decide ((n:Int)≥((m:Nat):Int)) || decide (((p:Nat):Int)>((q:Nat):Int)))=true):m≤n∨q<p:=by
 rcases zy _ _▸h with h | h
 ·exact .inl (x6.1 (qw h))
 ·exact .inr (Int.ofNat_lt.1 (qw h))
theorem or_no {n m p q:Nat}(h:(decide ((n:Int)≥((m:Nat):Int)) || decide (((p:Nat):Int)>((q:Nat):Int)))=false):n<m∧p≤q:=by
 rw [qJ] at h
 exact ⟨x8 λ hh=>qx h.1 (x6.2 hh),Nat.le_of_not_lt λ hh=>qx h.2 (Int.ofNat_lt.2 hh)⟩
theorem ge_yes {n m:Nat}(h:decide ((n:Int)≥((m:Nat):Int))=true):m≤n:=x6.1 (qw h)
theorem ge_no {n m:Nat}(h:decide ((n:Int)≥((m:Nat):Int))=false):n<m:=x8 λ hh=>qx h (x6.2 hh)
end Go.Proofs.Ytlakjmncfooodaa
namespace Go.Proofs.Ytlakjmncfooodaa
open Go Go.RowKit
variable {w:World}{B:Nat}{a:Act}{v:Value}{T:TypeId}{w0:Bs}{Γ:List (Nat × VA)}{Λ:List Lc}{ps:String}{af:Array Edge}{vr:Value}{H:Hd}{cs:List Value}{w':World}{P:Program}{D:List TypeId}
theorem wsub64 {u x:Nat}(h:x<18446744073709551616)(hu:u<18446744073709551616):IntKind.u64.wrap ((u:Int)-(x:Int))=(((u+18446744073709551616-x)%18446744073709551616:Nat):Int):=by
 simp [IntKind.wrap,IntKind.bits,IntKind.signed]; omega
theorem wsubl {u x:Nat}(hu:u<4294967296)(hx:x<4294967296):IntKind.u32.wrap (((u+18446744073709551616-x)%18446744073709551616:Nat):Int)=(((u+4294967296-x)%4294967296:Nat):Int):=by
 rw [wlow]; congr 1; omega
theorem wsubs {u x:Nat}(hu:u<4294967296)(hx:x<4294967296):(((u+18446744073709551616-x)%18446744073709551616:Nat):Int)/2^((63:Int).toNat)=((if u<x then 1 else 0:Nat):Int):=by
 refine (nshr (k:=63)).trans ?_
 congr 1
 split <;> omega
theorem sgn1 {u x:Nat}:(((if u<x then 1 else 0:Nat):Int)==((1:Nat):Int))=decide (u<x):=by
 split <;> simp [*]
theorem less_c (L Dx:List Nat)(o m c0 c1 q:Nat)(hL:okL L)(hDx:okL Dx)(hm:m≤Dx.length)(hlo:o+m+1≤L.length)(hms:m≤1099511627776)(hq:q<4294967296):Cm2 Try.prog 82 94 (winH o (m+1) c0) (slH m c1) (Nums .u32 L) (Nums .u32 (spl L o (digs (m+1) (val ((L.drop o).take (m+1))+(if val ((L.drop o).take (m+1))<q*val (Dx.take m) then 4294967296^(m+1) else 0)-q*val (Dx.take m))))) .u32 (Dx) [(NumA .u64 (q:Nat)).va] (Bo (decide (val ((L.drop o).take (m+1))<q*val (Dx.take m)))):=by
 refine Cm2.intro Try.func82 G zk nq (λ B g0 g1 w0 a U=>?_)
 have U:=zn [(0,EqV ((winH o (m+1) c0).f g0)),(1,EqV ((slH m c1).f g1)),(2,(NumA .u64 (q:Nat)).va)] [⟨0,94,winH o (m+1) c0,Nums .u32 L⟩,⟨1,94,slH m c1,Nums .u32 (Dx)⟩] U
 have hW:okL ((L.drop o).take (m+1)):=gu (okL_drop hL _) _
 have hD:okL (Dx.take m):=gu hDx _
 have hWl:(((L.drop o).take (m+1))).length=m+1:=by simp; omega
 have hDl:((Dx.take m)).length=m:=by simp; omega
 refine qb<|zg [η,η] [] [.v 6 _] [.g 0,.g 1,.g 2,.o 0] U (zv G (a6 aE) o0) (zz [(0,_),(1,_),(2,_),(6,_)] [⟨0,94,winH o (m+1) c0,_⟩,⟨1,94,slH m c1,_⟩] λ a w U=>?_)
 refine zt<|zg [η,η] [] [.v 7 _] [.g 0,.g 1,.g 2,.g 3,.o 0] U (zv G (a6 (aB 0 G)) o0) (zz [(0,_),(1,_),(2,_),(6,_),(7,_)] [⟨0,94,winH o (m+1) c0,_⟩,⟨1,94,slH m c1,_⟩] λ a w U=>?_)
 refine zt<|qb<|zg [η,η] [] [.v 12 _,.v 13 _,.v 14 _] [.g 0,.g 1,.g 2,.g 3,.g 4,.o 0,.o 1,.o 2] U (zM 1 G (zv G (ca Try.underlying23 (vq 0 G)) (zv G (a7 a5) o0))) (zz [(0,_),(1,_),(2,_),(6,_),(7,_),(12,_),(13,_),(14,_)] [⟨0,94,winH o (m+1) c0,_⟩,⟨1,94,slH m c1,_⟩] λ a w U=>?_)
 refine a4<|qt ?_
 have U:=St.sel U [0,1,2,4,5,6,7]
 refine wp_loop_ghost (λ n a w=>∃ k:Nat,n+k=m∧St B w0 62 [(0,EqV ((winH o (m+1) c0).f g0)),(1,EqV ((slH m c1).f g1)),(2,(NumA .u64 (q:Nat)).va),(7,(NumA .u64 (lsB ((L.drop o).take (m+1)) (Dx.take m) q k:Nat)).va),(12,EqV ((slH m c1).f g1)),(13,In (m:Nat)),(14,In (k:Nat))] [⟨0,94,winH o (m+1) c0,Nums .u32 (spl L o (lsO ((L.drop o).take (m+1)) (Dx.take m) q k))⟩,⟨1,94,slH m c1,Nums .u32 Dx⟩] a w) (m) ?_ ?_
 ·exact ⟨0,by omega,by rw [show lsO ((L.drop o).take (m+1)) (Dx.take m) q 0=[] from rfl,iG]; exact U⟩
 intro n a w hI
 obtain ⟨k,hn,U⟩:=hI
 refine qb<|zg [η,η] [] [.v 15 _] [.g 0,.g 1,.g 2,.g 3,.g 4,.g 5,.g 6,.o 0] U (zv G (aY (gq 6 G) (gq 5 G)) o0) (zz [(0,_),(1,_),(2,_),(7,_),(12,_),(13,_),(14,_),(15,_)] [⟨0,94,winH o (m+1) c0,_⟩,⟨1,94,slH m c1,_⟩] λ a w U=>?_)
 refine zt<|aa U (zm 7 G) (λ hb0=>?_) (λ hb0=>?_)
 ·have hk:k<m:=by simp at hb0; omega
  have hdk:=fq hD k
  have hwk:=fq hW k
  have hbk:=lsB_le (W:=((L.drop o).take (m+1))) (q:=q) hD k
  have hdx:Dx[0+k]?=some (((Dx.take m)).getD k 0):=by rw [hN hk,qB]; exact getD_some zo
  have hwx:(spl L o (lsO ((L.drop o).take (m+1)) (Dx.take m) q k))[o+k]?=some ((((L.drop o).take (m+1))).getD k 0):=by rw [eJ zo,fa (by rw [cO]; omega) zo]
  have hpk:q*((Dx.take m)).getD k 0≤q*4294967295:=qY _ zo
  refine qk<|zt<|qt<|qb<|zg [η,η] [] [.v 16 _,.v 17 _,.v 18 _,.v 8 _,.v 9 _] [.g 0,.g 1,.g 2,.g 3,.g 4,.g 5,.g 6,.o 3,.o 4] U (zM 6 G (zv G (bO aN (gq 4 G) (gq 6 G) zo) (zv G (bZ (vq 1 G) (lz0 1 G) (gq 1 G) (nums_at' hdx) aT) (zA 0 G (zA 2 G o0))))) (zz [(0,_),(1,_),(2,_),(7,_),(12,_),(13,_),(14,_),(8,_),(9,_)] [⟨0,94,winH o (m+1) c0,_⟩,⟨1,94,slH m c1,_⟩] λ a w U=>?_)
  refine zt<|zg [η,η] [] [.v 19 _,.v 20 _,.v 21 _,.v 22 _,.v 23 _,.v 24 _,.v 7 _] [.g 0,.g 1,.g 2,.g 4,.g 5,.g 6,.g 7,.o 6] U (zM 3 G (zM 2 G (zM 8 G (zv G (au .u64 zk zk (vq 2 G) (wu64 zo)) (zv G (r_mul (vq 1 G) (vq 3 G) (wmul64 zo)) (zv G (aU (vq 0 G) (vq 4 G) (wadd64 zo)) (zA 5 G o0))))))) (zz [(0,_),(1,_),(2,_),(12,_),(13,_),(14,_),(8,_),(7,_)] [⟨0,94,winH o (m+1) c0,_⟩,⟨1,94,slH m c1,_⟩] λ a w U=>?_)
  refine zt<|zg [η,η] [] [.v 25 _,.v 26 _,.v 27 _,.v 28 _,.v 29 _,.v 30 _,.v 31 _,.v 32 _,.v 33 _,.v 10 _] [.g 0,.g 1,.g 2,.g 3,.g 4,.g 5,.g 6,.g 7,.o 9] U (zM 0 G (zM 6 G (zv G (bO aN (vq 0 G) (vq 1 G) zo) (zv G (bZ (vq 2 G) (lz0 0 G) (gq 0 G) (nums_at' hwx) aT) (zv G (au .u64 zk zk (vq 3 G) (wu64 zo)) (zM 7 G (zv G (au .u32 zk zk (vq 5 G) (wlow)) (zv G (au .u64 zk zk (vq 6 G) (wu64 zo)) (zv G (cu (vq 4 G) (vq 7 G) (wsub64 zo zo)) (zA 8 G o0)))))))))) (zz [(0,_),(1,_),(2,_),(12,_),(13,_),(14,_),(8,_),(7,_),(10,_)] [⟨0,94,winH o (m+1) c0,_⟩,⟨1,94,slH m c1,_⟩] λ a w U=>?_)
  refine zt<|zg [some (5,_),η] [] [.v 34 _,.v 35 _,.v 36 _,.v 37 _,.v 38 _,.sto 0] [.g 0,.g 1,.g 2,.g 3,.g 4,.g 5,.g 7,.g 8] U (zM 0 G (zM 6 G (zM 8 G (zv G (au .u32 zk zk (vq 2 G) (wsubl hwk zo)) (zv G (bO aN (vq 0 G) (vq 1 G) zo) (oc (dI G G G (vq 4 G) (gq 0 G) (vq 3 G) aT (ba (by rw [ep (by rw [cO]; omega)]; omega))) o0)))))) (zz [(0,_),(1,_),(2,_),(12,_),(13,_),(14,_),(7,_),(10,_)] [⟨0,94,winH o (m+1) c0,_⟩,⟨1,94,slH m c1,_⟩] λ a w U=>?_)
  refine a4<|zg [η,η] [] [.v 39 _,.v 40 _,.v 41 _,.v 42 _,.v 43 _,.v 7 _] [.g 0,.g 1,.g 2,.g 3,.g 4,.g 5,.o 5] U (zM 6 G (zv G (eI (vq 0 G) (aB 32 G) zd (nshr)) (zM 7 G (zv G (eI (vq 2 G) (aB 63 G) zd (wsubs hwk zo)) (zv G (aU (vq 1 G) (vq 3 G) (wadd64 (by split <;> omega))) (zA 4 G o0)))))) (zz [(0,_),(1,_),(2,_),(12,_),(13,_),(14,_),(7,_)] [⟨0,94,winH o (m+1) c0,_⟩,⟨1,94,slH m c1,_⟩] λ a w U=>?_)
  refine ai ?_
  refine a4<|zg [η,η] [] [.v 44 _,.v 14 _] [.g 0,.g 1,.g 2,.g 3,.g 4,.g 6,.o 1] U (zv G (aU (gq 5 G) a5 (bo zo)) (zv G (a7 (vq 0 G)) o0)) (zz [(0,_),(1,_),(2,_),(12,_),(13,_),(7,_),(14,_)] [⟨0,94,winH o (m+1) c0,_⟩,⟨1,94,slH m c1,_⟩] λ a w U=>?_)
  refine a4 ?_
  have U:=St.sel U [0,1,2,5,3,4,6]
  rw [f9 (cO _ _ _ _) zo] at U
  exact ⟨n-1,by omega,k+1,by omega,U⟩
 ·obtain rfl:m=k:=by simp at hb0; omega
  have hbk:=lsB_le (W:=((L.drop o).take (m+1))) (q:=q) hD m
  have hwk:=fq hW m
  have hwx:(spl L o (lsO ((L.drop o).take (m+1)) (Dx.take m) q m))[o+m]?=some ((((L.drop o).take (m+1))).getD m 0):=by rw [eJ zo,fa (by rw [cO]; omega) zo]
  refine zf<|aj<|aj<|az<|zt<|zg [η,η] [] [.v 45 _,.v 46 _,.v 47 _,.v 48 _,.v 49 _,.v 50 _,.v 51 _,.v 52 _,.v 11 _] [.g 0,.g 1,.o 8] U (zM 0 G (zM 1 G (zv G (ca Try.underlying23 (vq 1 G)) (zv G (bO aN (vq 0 G) (vq 2 G) zo) (zv G (bZ (vq 3 G) (lz0 0 G) (gq 0 G) (nums_at' hwx) aT) (zv G (au .u64 zk zk (vq 4 G) (wu64 zo)) (zM 3 G (zv G (cu (vq 5 G) (vq 6 G) (wsub64 zo zo)) (zA 7 G o0))))))))) (zz [(0,_),(1,_),(11,_)] [⟨0,94,winH o (m+1) c0,_⟩,⟨1,94,slH m c1,_⟩] λ a w U=>?_)
  refine zt<|zg [some (6,_),η] [] [.v 53 _,.v 54 _,.v 55 _,.v 56 _,.v 57 _,.v 58 _,.sto 0] [.g 0,.g 1,.g 2] U (zM 0 G (zM 1 G (zv G (ca Try.underlying23 (vq 1 G)) (zM 2 G (zv G (au .u32 zk zk (vq 3 G) (wsubl hwk zo)) (zv G (bO aN (vq 0 G) (vq 2 G) zo) (oc (dI G G G (vq 5 G) (gq 0 G) (vq 4 G) aT (ba (by rw [ep (by rw [cO]; omega)]; omega))) o0))))))) (zz [(0,_),(1,_),(11,_)] [⟨0,94,winH o (m+1) c0,_⟩,⟨1,94,slH m c1,_⟩] λ a w U=>?_)
  refine zt<|zg [η,η] [] [.v 59 _,.v 60 _,.v 61 _,.v 6 _] [.g 0,.g 1,.o 3] U (zM 2 G (zv G (eI (vq 0 G) (aB 63 G) zd (wsubs hwk zo)) (zv G (bd (vq 1 G) (aB 1 G)) (zA 2 G o0)))) (zz [(0,_),(1,_),(6,_)] [⟨0,94,winH o (m+1) c0,_⟩,⟨1,94,slH m c1,_⟩] λ a w U=>?_)
  refine a4<|qh ?_
  rw [f9 (cO _ _ _ _) zo,(ls_end hW hD hDl hWl hq).2] at U
  refine ret_m2 U (zm 0 G) (zm 1 G) (zm 0 G) (zm 1 G) ?_
  refine ao ?_ (ae G U (zm 2 G))
  rw [sgn1,(ls_end hW hD hDl hWl hq).1]
end Go.Proofs.Ytlakjmncfooodaa
namespace Go.Proofs.Ytlakjmncfooodaa
open Go Go.RowKit
variable {w:World}{B:Nat}{a:Act}{v:Value}{T:TypeId}{w0:Bs}{Γ:List (Nat × VA)}{Λ:List Lc}{ps:String}{af:Array Edge}{vr:Value}{H:Hd}{cs:List Value}{w':World}{P:Program}{D:List TypeId}
def tab8:ByteArray:=⟨(([0,1,2,2,3,3,3,3,4,4,4,4,4,4,4,4,5,5,5,5,5,5,5,5,5,5,5,5,5,5,5,5,6,6,6,6,6,6,6,6,6,6,6,6,6,6,6,6,6,6,6,6,6,6,6,6,6,6,6,6,6,6,6,6,7,7,7,7,7,7,7,7,7,7,7,7,7,7,7,7,7,7,7,7,7,7,7,7,7,7,7,7,7,7,7,7,7,7,7,7,7,7,7,7,7,7,7,7,7,7,7,7,7,7,7,7,7,7,7,7,7,7,7,7,7,7,7,7]:List UInt8)++[8,8,8,8,8,8,8,8,8,8,8,8,8,8,8,8,8,8,8,8,8,8,8,8,8,8,8,8,8,8,8,8,8,8,8,8,8,8,8,8,8,8,8,8,8,8,8,8,8,8,8,8,8,8,8,8,8,8,8,8,8,8,8,8,8,8,8,8,8,8,8,8,8,8,8,8,8,8,8,8,8,8,8,8,8,8,8,8,8,8,8,8,8,8,8,8,8,8,8,8,8,8,8,8,8,8,8,8,8,8,8,8,8,8,8,8,8,8,8,8,8,8,8,8,8,8,8,8]).toArray⟩
theorem tab8_all:(List.range 256).all (λ n=>tab8[n]? == some (UInt8.ofNat (bl n)))=true:=by kernel_rfl
theorem ga {n:Nat}(h:n<256):tab8[n]?=some (UInt8.ofNat (bl n)):=by
 have:=qc.1 tab8_all n (by simpa using h)
 simpa using this
theorem cj {n:Nat}(h:n<256):(UInt8.ofNat (bl n)).toNat=bl n:=by
 have:=cY (k:=8) h
 simp
 omega
theorem wu8 {x:Nat}(h:x<256):IntKind.u8.wrap (x:Int)=(x:Int):=by simp [IntKind.wrap,IntKind.bits,IntKind.signed]; omega
theorem len32_c (x:Nat)(hx:x<4294967296):Cn Try.prog 83 [(NumA .u32 (x:Nat)).va] (In (bl x:Nat)):=by
 refine Cn.intro Try.func83 G zk nq (λ B w0 a U=>?_)
 have U:=zn [(0,(NumA .u32 (x:Nat)).va)] [] U
 refine qb<|zh [.v 2 _] [.g 0,.o 0] U (zv G (a6 a5) o0) (zz [(0,_),(2,_)] [] λ a w U=>?_)
 refine zt<|qb<|zh [.v 3 _,.v 4 _] [.g 0,.g 1,.o 1] U (zM 0 G (zv G (dH (vq 0 G) (aB 65536 G)) o0)) (zz [(0,_),(2,_),(4,_)] [] λ a w U=>?_)
 refine a4<|aa U (zm 2 G) (λ hb0=>?_) (λ hb0=>?_)
 ·have h1:65536≤x:=by simp at hb0; omega
  have e1:=bl_div x 16 h1
  refine qb<|zh [.v 5 _,.v 6 _,.v 0 _] [.g 1,.o 2] U (zM 0 G (zv G (eI (vq 0 G) (aB 16 G) zd (nshr)) (zA 1 G o0))) (zz [(2,_),(0,_)] [] λ a w U=>?_)
  refine a4<|zh [.v 2 _] [.g 1,.o 0] U (zv G (a6 a5) o0) (zz [(0,_),(2,_)] [] λ a w U=>?_)
  refine zt<|qb<|zh [.v 7 _,.v 8 _] [.g 0,.g 1,.o 1] U (zM 0 G (zv G (dH (vq 0 G) (aB 256 G)) o0)) (zz [(0,_),(2,_),(8,_)] [] λ a w U=>?_)
  refine a4<|aa U (zm 2 G) (λ hb1=>?_) (λ hb1=>?_)
  ·have h2:256≤x/2^16:=by simp at hb1; omega
   have e2:=bl_div (x/2^16) 8 h2
   refine qb<|zh [.v 9 _,.v 10 _,.v 0 _] [.g 1,.o 2] U (zM 0 G (zv G (eI (vq 0 G) (aB 8 G) zd (nshr)) (zA 1 G o0))) (zz [(2,_),(0,_)] [] λ a w U=>?_)
   refine a4<|zh [.v 11 _,.v 12 _,.v 2 _] [.g 1,.o 2] U (zM 0 G (zv G (aU (vq 0 G) a5 (wi64 zo zo)) (zA 1 G o0))) (zz [(0,_),(2,_)] [] λ a w U=>?_)
   refine zt<|zh [.v 13 _,.v 14 _,.v 15 _,.v 16 _,.v 17 _,.v 18 _,.v 2 _] [.o 6] U (zM 1 G (zM 0 G (zv G (au .u8 zk zk (vq 1 G) (wu8 zo)) (zv G (eu zk be (vq 2 G) (ga zo)) (zv G (au .i64 zk zk (vq 3 G) (wi64 zo (by rw [cj zo]; have:=cY (k:=8) (n:=x/2^16/2^8) zo; omega))) (zv G (aU (vq 0 G) (vq 4 G) (wi64 (by rw [cj zo]; omega) (by rw [cj zo]; have:=cY (k:=8) (n:=x/2^16/2^8) zo; omega))) (zA 5 G o0))))))) (zz [(2,_)] [] λ a w U=>?_)
   refine a4<|qh<|ao ?_ (ae G U (zm 0 G))
   rw [e1,e2,cj zo]; congr 2; omega
  ·have h2:x/2^16<256:=by simp at hb1; omega
   refine qk<|zt<|zh [.v 13 _,.v 14 _,.v 15 _,.v 16 _,.v 17 _,.v 18 _,.v 2 _] [.o 6] U (zM 1 G (zM 0 G (zv G (au .u8 zk zk (vq 1 G) (wu8 h2)) (zv G (eu zk be (vq 2 G) (ga h2)) (zv G (au .i64 zk zk (vq 3 G) (wi64 zo (by rw [cj h2]; have:=cY (k:=8) h2; omega))) (zv G (aU (vq 0 G) (vq 4 G) (wi64 (by rw [cj h2]; omega) (by rw [cj h2]; have:=cY (k:=8) h2; omega))) (zA 5 G o0))))))) (zz [(2,_)] [] λ a w U=>?_)
   refine a4<|qh<|ao ?_ (ae G U (zm 0 G))
   rw [e1,cj h2]; congr 2; omega
 ·have h1:x<65536:=by simp at hb0; omega
  refine qk<|zt<|qb<|zh [.v 7 _,.v 8 _] [.g 0,.g 1,.o 1] U (zM 0 G (zv G (dH (vq 0 G) (aB 256 G)) o0)) (zz [(0,_),(2,_),(8,_)] [] λ a w U=>?_)
  refine a4<|aa U (zm 2 G) (λ hb2=>?_) (λ hb2=>?_)
  ·have h2:256≤x:=by simp at hb2; omega
   have e2:=bl_div x 8 h2
   refine qb<|zh [.v 9 _,.v 10 _,.v 0 _] [.g 1,.o 2] U (zM 0 G (zv G (eI (vq 0 G) (aB 8 G) zd (nshr)) (zA 1 G o0))) (zz [(2,_),(0,_)] [] λ a w U=>?_)
   refine a4<|zh [.v 11 _,.v 12 _,.v 2 _] [.g 1,.o 2] U (zM 0 G (zv G (aU (vq 0 G) a5 (wi64 zo zo)) (zA 1 G o0))) (zz [(0,_),(2,_)] [] λ a w U=>?_)
   refine zt<|zh [.v 13 _,.v 14 _,.v 15 _,.v 16 _,.v 17 _,.v 18 _,.v 2 _] [.o 6] U (zM 1 G (zM 0 G (zv G (au .u8 zk zk (vq 1 G) (wu8 zo)) (zv G (eu zk be (vq 2 G) (ga zo)) (zv G (au .i64 zk zk (vq 3 G) (wi64 zo (by rw [cj zo]; have:=cY (k:=8) (n:=x/2^8) zo; omega))) (zv G (aU (vq 0 G) (vq 4 G) (wi64 (by rw [cj zo]; omega) (by rw [cj zo]; have:=cY (k:=8) (n:=x/2^8) zo; omega))) (zA 5 G o0))))))) (zz [(2,_)] [] λ a w U=>?_)
   refine a4<|qh<|ao ?_ (ae G U (zm 0 G))
   rw [e2,cj zo]; congr 2; omega
  ·have h2:x<256:=by simp at hb2; omega
   refine qk<|zt<|zh [.v 13 _,.v 14 _,.v 15 _,.v 16 _,.v 17 _,.v 18 _,.v 2 _] [.o 6] U (zM 1 G (zM 0 G (zv G (au .u8 zk zk (vq 1 G) (wu8 h2)) (zv G (eu zk be (vq 2 G) (ga h2)) (zv G (au .i64 zk zk (vq 3 G) (wi64 zo (by rw [cj h2]; have:=cY (k:=8) h2; omega))) (zv G (aU (vq 0 G) (vq 4 G) (wi64 (by rw [cj h2]; omega) (by rw [cj h2]; have:=cY (k:=8) h2; omega))) (zA 5 G o0))))))) (zz [(2,_)] [] λ a w U=>?_)
   refine a4<|qh<|ao ?_ (ae G U (zm 0 G))
   rw [cj h2]; congr 2; omega
theorem lz32_c (x:Nat)(hx:x<4294967296):Cn Try.prog 80 [(NumA .u32 (x:Nat)).va] (In (32-bl x:Nat)):=by
 refine Cn.intro Try.func80 G zk nq (λ B w0 a U=>?_)
 have U:=zn [(0,(NumA .u32 (x:Nat)).va)] [] U
 have hb:=cY (k:=32) hx
 refine qb<|zh [.v 2 _] [.g 0,.o 0] U (zv G (a6 a5) o0) (zz [(0,_),(2,_)] [] λ a w U=>?_)
 refine zt<|zh [.v 3 _,.v 4 _,.v 5 _,.v 2 _] [.o 3] U (zM 0 G (zQ G (len32_c x hx) (.o (vq 0 G)) (zv G (cu a5 (vq 1 G) ((wi64 zo zo).trans (show (32:Int)-(bl x:Nat)=((32-bl x:Nat):Int) by omega))) (zA 2 G o0)))) (zz [(2,_)] [] λ a w U=>?_)
 exact a4<|qh<|ae G U (zm 0 G)
end Go.Proofs.Ytlakjmncfooodaa
