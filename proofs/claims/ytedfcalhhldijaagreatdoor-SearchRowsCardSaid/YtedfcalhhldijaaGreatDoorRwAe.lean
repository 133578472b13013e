import Derived.Test.YtedfcalhhldijaaGreatDoorRwAd
set_option linter.all false
set_option maxRecDepth 100000
namespace Go.Proofs.YtedfcalhhldijaaGreatDoor
open Go Go.RowKit
variable {w:World}{B:Nat}{a:Act}{v:Value}{T:TypeId}{w0:Bs}{Γ:List (Nat × VA)}{Λ:List Lc}{ps:String}{af:Array Edge}{vr:Value}{H:Hd}{cs:List Value}{w':World}{P:Program}{D:List TypeId}
theorem wshl {u s:Nat}:IntKind.u32.wrap ((u:Int)*2^((s:Int).toNat))=((u*2^s%4294967296:Nat):Int):=by
 rw [zX,show (u:Int)*2^s=((u*2^s:Nat):Int) from by simp]; exact wu32'
theorem D2 {u s:Nat}(hu:u<4294967296)(hs:s<32):u*2^s<18446744073709551616:=by
 have h1:2^s≤2^31:=zx zd zo
 have h2:u*2^s≤4294967295*2^31:=xC zo h1
 omega
theorem wshl64 {u s:Nat}(hu:u<4294967296)(hs:s<32):IntKind.u64.wrap ((u:Int)*2^((s:Int).toNat))=((u*2^s:Nat):Int):=by
 rw [zX,show (u:Int)*2^s=((u*2^s:Nat):Int) from by simp]; exact wu64 (D2 hu hs)
theorem tX {u s:Nat}(hs:s<32):u*2^s%4294967296=2^s*(u%2^(32-s)):=by
 rw [show (4294967296:Nat)=2^s*2^(32-s) from by rw [← zR,show s+(32-s)=32 from by omega],qP u,Nat.mul_mod_mul_left]
theorem up_or {u s c:Nat}(hs:s<32)(hc:c<2^s):u*2^s%4294967296 ||| c=(c+u*2^s)%4294967296:=by
 rw [tX hs,← Nat.two_pow_add_eq_or_of_lt hc]
 have h1:u%2^(32-s)<2^(32-s):=qM _ (zq zd)
 have h2:2^s*(u%2^(32-s)+1)≤2^s*2^(32-s):=zr _ h1
 rw [← zR,show s+(32-s)=32 from by omega,zT,zK] at h2
 have h3:=tX (u:=u) hs
 have h4:=xw (u*2^s) 4294967296
 omega
theorem HG {u s c:Nat}(hs:s<32)(hc:c<2^s):u*2^s/4294967296=(c+u*2^s)/4294967296:=by
 have h1:u%2^(32-s)<2^(32-s):=qM _ (zq zd)
 have h2:2^s*(u%2^(32-s)+1)≤2^s*2^(32-s):=zr _ h1
 rw [← zR,show s+(32-s)=32 from by omega,zT,zK] at h2
 have h3:=tX (u:=u) hs
 have h4:=xw (u*2^s) 4294967296
 omega
def upSt (l:List Nat)(s i:Nat):List Nat:=digs i (val (l.take i)*2^s)++List.replicate (l.length+1-i) 0
theorem rh {l:List Nat}{s i:Nat}(h:i≤l.length):(upSt l s i).length=l.length+1:=by simp [upSt,az]; omega
theorem tY (l:List Nat)(s:Nat):upSt l s 0=List.replicate (l.length+1) 0:=by simp [upSt,digs]
theorem CS {l:List Nat}{s i:Nat}(h:i<l.length):val (l.take (i+1))*2^s=val (l.take i)*2^s+4294967296^i*(l[i]*2^s):=by rw [bx h,xL,qU]
theorem HH {l:List Nat}(hl:okL l)(s i:Nat):val (l.take i)*2^s/4294967296^i<2^s:=by
 apply zD
 exact xK (cu hl i) (zq zd)
theorem tZ {l:List Nat}{s i:Nat}(h:i<l.length):(upSt l s i).set i ((val (l.take i)*2^s/4294967296^i+l[i]*2^s)%4294967296)=upSt l s (i+1):=by
 unfold upSt
 rw [dW _ _ _ _ (az _ _),iO _ _ zo,CS h,dw]
 simp only [za,xu]
 congr 3
theorem Ab {l:List Nat}{s i:Nat}(h:i<l.length):(val (l.take i)*2^s/4294967296^i+l[i]*2^s)/4294967296=val (l.take (i+1))*2^s/4294967296^(i+1):=by rw [CS h,carry_step']
theorem Ac {l:List Nat}(hl:okL l){s:Nat}(hs:s<32):(upSt l s l.length).set l.length (val (l.take l.length)*2^s/4294967296^l.length)=digs (l.length+1) (val l*2^s):=by
 have h:=HH hl s l.length
 have h1:2^s≤2^31:=zx zd zo
 unfold upSt
 rw [dW _ _ _ _ (az _ _),iO _ _ zo,ga,qF] at *
 rw [zi zo]
 simp
theorem up_c (l:List Nat)(s:Nat)(hls:l.length≤1099511627776)(hs:s<32):Cr Tryz.prog 252 134 (slH (l.length+1) (l.length+1)) (Nums .u32 (digs (l.length+1) (val l*2^s))) [(MgA l).va,(NumA .u64 (s:Nat)).va]:=by
 refine Cr.introW Tryz.func252 G zk nq (.cons (iB _).va (.cons (fD _ _).va .nil)) (λ _ _ _ _ h=>h) (λ B w0 a hB0 U=>?_)
 have U:=zn [(0,(MgO l).va),(1,(NumA .u64 (s:Nat)).va)] [] U
 have hl:=(U.magO 0 rfl).1
 refine qb<|zh [.v 4 _] [.g 0,.g 1,.o 0] U (zv G (ac bc) o0) (zz [(0,_),(1,_),(4,_)] [] λ a w U=>?_)
 refine zt<|cU (sts:=[]) (news:=[⟨12,134,slH _ _,some 3,_,none⟩]) (sp:=[.v 9 _,.v 10 _,.v 11 _,.alc 0,.adr 5 12 .none True]) [.g 0,.g 1,.g 2] [(5,12)] [⟨5,134,slH _ _,_⟩] U (zM 0 G (zv G (aI Tryz.underlying24 (aD (vq 0 G))) (zv G (aN (vq 1 G) ab (ba zo)) (oc (dK G G G eD (vq 2 G) (vq 2 G) zo) (oc (ob_a G G lw) o0))))) zk zk zk ⟨⟨4,rfl⟩,trivial⟩ G zk (zz [(0,_),(1,_),(4,_)] [⟨5,134,slH _ _,_⟩] λ a w U=>?_)
 refine zt<|zg [η] [] [.v 6 _] [.g 0,.g 1,.g 2,.o 0] U (zv G (ac (aG 0 G)) o0) (zz [(0,_),(1,_),(4,_),(6,_)] [⟨5,134,slH _ _,_⟩] λ a w U=>?_)
 refine zt<|qb<|zg [η] [] [.v 13 _,.v 14 _,.v 15 _] [.g 0,.g 1,.g 2,.g 3,.o 0,.o 1,.o 2] U (zM 0 G (zv G (aI Tryz.underlying24 (aD (vq 0 G))) (zv G (ai ab) o0))) (zz [(0,_),(1,_),(4,_),(6,_),(13,_),(14,_),(15,_)] [⟨5,134,slH _ _,_⟩] λ a w U=>?_)
 refine aa<|qj ?_
 have U:=St.sel U [0,1,3,4,5,6]
 refine wp_loop_ghost (λ n a w=>∃ i:Nat,n+i=l.length∧St B w0 41 [(0,(MgO l).va),(1,(NumA .u64 (s:Nat)).va),(6,(NumA .u32 (val (l.take i)*2^s/4294967296^i:Nat)).va),(13,(MgO l).va),(14,In (l.length:Nat)),(15,In (i:Nat))] [⟨5,134,slH (l.length+1) (l.length+1),Nums .u32 (upSt l s i)⟩] a w) (l.length) ?_ ?_
 ·exact ⟨0,by omega,by rw [tY,show val (l.take 0)*2^s/4294967296^0=0 from by simp]; exact U⟩
 intro n a w hI
 obtain ⟨i,hn,U⟩:=hI; have hc:=HH hl s i; have h31:2^s≤2^31:=zx zd zo
 refine qb<|zg [η] [] [.v 16 _] [.g 0,.g 1,.g 2,.g 3,.g 4,.g 5,.o 0] U (zv G (aS (gq 5 G) (gq 4 G)) o0) (zz [(0,_),(1,_),(6,_),(13,_),(14,_),(15,_),(16,_)] [⟨5,134,slH _ _,_⟩] λ a w U=>?_)
 refine zt<|aj U (zm 6 G) (λ hb0=>?_) (λ hb0=>?_)
 ·have hi:i<l.length:=by simp at hb0; omega
  refine qh<|zt<|qj<|qb<|zg [η] [] [.v 17 _,.v 18 _,.v 19 _,.v 7 _,.v 8 _] [.g 0,.g 1,.g 2,.g 3,.g 4,.g 5,.o 3,.o 4] U (zM 5 G (zv G (bG b9 (aD (gq 3 G)) (gq 5 G) zo) (zv G (au (vq 1 G) aO) (zA 0 G (zA 2 G o0))))) (zz [(0,_),(1,_),(6,_),(13,_),(14,_),(15,_),(7,_),(8,_)] [⟨5,134,slH _ _,_⟩] λ a w U=>?_)
  refine zt<|zg [some (8,_)] [] [.adr 20 5 .none True,.v 21 _,.v 22 _,.v 23 _,.v 24 _,.v 25 _,.v 26 _,.adr 27 5 (.some _) True,.sto 0] [.g 0,.g 1,.g 2,.g 3,.g 4,.g 5,.g 7] U (oc (ob_a G G cb) (zM 6 G (zM 7 G (zM 1 G (zv G (sV (vq 2 G) (vq 3 G) (⟨by omega,by show (s:Int)≤32; omega⟩) (wshl)) (zM 2 G (zv G (sX (vq 4 G) (vq 5 G) ((bor32 (qM _ zd) zo).trans (qm _ (up_or hs hc)))) (oc (ob_a G G (dm 0 G zk (lz0 0 G) b9 (vq 1 G) zo)) (oc (c7 7 G G G G zk (λ _=>bK _ _ _ _) (vq 6 G) aO (br (by rw [rh zo]; omega))) o0))))))))) (zz [(0,_),(1,_),(6,_),(13,_),(14,_),(15,_),(8,_)] [⟨5,134,slH _ _,_⟩] λ a w U=>?_)
  refine aa<|zg [η] [] [.v 28 _,.v 29 _,.v 30 _,.v 31 _,.v 32 _,.v 33 _,.v 6 _] [.g 0,.g 1,.g 3,.g 4,.g 5,.o 6] U (zM 6 G (zv G (aK .u64 zk zk (vq 0 G) (wu64 (ze (hl _ (qf _)) zd))) (zM 1 G (zv G (sV (vq 1 G) (vq 2 G) (⟨by omega,by show (s:Int)≤64; omega⟩) (wshl64 (hl _ (qf _)) hs)) (zv G (i7 (vq 3 G) (aG 32 G) zd (nshr)) (zv G (aK .u32 zk zk (vq 4 G) ((wu32 (zD (D2 (hl _ (qf _)) hs))).trans (qm _ (HG hs hc)))) (zA 5 G o0))))))) (zz [(0,_),(1,_),(13,_),(14,_),(15,_),(6,_)] [⟨5,134,slH _ _,_⟩] λ a w U=>?_)
  refine ap ?_
  refine aa<|zg [η] [] [.v 34 _,.v 15 _] [.g 0,.g 1,.g 2,.g 3,.g 5,.o 1] U (zv G (aN (gq 4 G) ab (ba zo)) (zv G (ai (vq 0 G)) o0)) (zz [(0,_),(1,_),(13,_),(14,_),(6,_),(15,_)] [⟨5,134,slH _ _,_⟩] λ a w U=>?_)
  refine aa ?_
  have U:=St.sel U [0,1,4,2,3,5]
  rw [tZ hi,Ab hi] at U; exact ⟨n-1,by omega,i+1,by omega,U⟩
 ·obtain rfl:i=l.length:=by simp at hb0; omega
  refine qK<|am<|am<|aB<|zt<|zg [some (5,_)] [] [.adr 35 5 .none True,.v 36 _,.v 37 _,.v 38 _,.adr 39 5 (.some _) True,.sto 0] [] U (oc (ob_a G G cb) (zM 0 G (zv G (aI Tryz.underlying24 (aD (vq 1 G))) (zM 2 G (oc (ob_a G G (dm 0 G zk (lz0 0 G) b9 (vq 2 G) zo)) (oc (c7 4 G G G G zk (λ _=>bK _ _ _ _) (vq 3 G) aO (br (by rw [rh zo]; omega))) o0)))))) (zz [] [⟨5,134,slH _ _,_⟩] λ a w U=>?_)
  refine zt<|cU (sts:=[none]) (news:=[]) (sp:=[.adr 40 5 .none True,.adr 4 5 .none True]) [] [(4,5)] [⟨4,134,slH _ _,_⟩] U (oc (ob_a G G cb) (oc (ob_a G G (A5 0 G zk)) o0)) zk zk zk ⟨⟨1,rfl⟩,trivial⟩ G zk (zz [] [⟨4,134,slH _ _,_⟩] λ a w U=>?_)
  refine aa<|qg ?_
  rw [Ac hl hs] at U
  exact AU G U hB0 (zm 0 G)
theorem kn_top {Y DD Bm dl d2 top wl u2 u1 u0:Nat}(hY:Y=wl+Bm*(u2+4294967296*(u1+4294967296*u0)))(hD:DD=dl+Bm*(d2+4294967296*top))(hdl:dl<Bm)(hd2:d2<4294967296)(h:Y<DD*4294967296):u0≤top:=by
 rcases Nat.lt_or_ge top u0 with hlt | hge
 ·exfalso
  have h1:Bm*(4294967296*(4294967296*(top+1)))≤Bm*(u2+4294967296*(u1+4294967296*u0)):=zr _ zo
  have h2:DD+1≤Bm*(4294967296*(top+1)):=by
   have:Bm*(d2+4294967296*top)+Bm≤Bm*(4294967296*(top+1)):=by
    rw [← kF]; exact zr _ zo
   omega
  have h3:Bm*(4294967296*(4294967296*(top+1)))=4294967296*(Bm*(4294967296*(top+1))):=by
   rw [← qU,qP Bm,qU]
  omega
 ·exact hge
theorem kn_lo {Y DD Bm dl d2 top wl u2 head:Nat}(hY:Y=wl+Bm*(u2+4294967296*head))(hD:DD=dl+Bm*(d2+4294967296*top))(hwl:wl<Bm):Y/DD*(top*4294967296+d2)≤head*4294967296+u2:=by
 have h1:Y/DD*DD≤Y:=ji _ _
 generalize Y/DD=q at *
 have h2:Bm*(q*(d2+4294967296*top))≤q*DD:=by
  rw [hD,zT q dl,← qU q Bm,qP q Bm,qU]; omega
 have h3:Bm*(q*(d2+4294967296*top))<Bm*(u2+4294967296*head+1):=by
  rw [kF]; omega
 have h4:=Nat.lt_of_mul_lt_mul_left h3
 rw [show top*4294967296+d2=d2+4294967296*top by omega]
 omega
theorem kn_hi {Y DD Bm dl d2 top wl u2 head g:Nat}(hY:Y=wl+Bm*(u2+4294967296*head))(hD:DD=dl+Bm*(d2+4294967296*top))(hdl:dl<Bm)(ht:0<top)(hg:g<4294967296)(h:g*(top*4294967296+d2)≤head*4294967296+u2):g*DD≤Y+DD:=by
 have h1:Bm*(g*(d2+4294967296*top))≤Bm*(u2+4294967296*head):=zr _ (by rw [show d2+4294967296*top=top*4294967296+d2 by omega]; omega)
 have h2:g*DD≤g*Bm+Bm*(g*(d2+4294967296*top)):=by
  rw [hD,zT g dl,← qU g Bm,qP g Bm,qU]
  have:g*dl≤Bm*g:=by rw [qP]; exact qR _ zo
  omega
 have h3:g*Bm≤Bm*(d2+4294967296*top):=by
  rw [qP]; exact zr _ zo
 omega
theorem kn_pm {Y DD g:Nat}(h0:0<DD)(h1:Y/DD≤g)(h2:g*DD≤Y+DD):g=Y/DD∨g=Y/DD+1:=by
 have h3:Y<(Y/DD+1)*DD:=by rw [qP]; exact kQ Y h0
 have h4:g*DD<(Y/DD+2)*DD:=by rw [show Y/DD+2=(Y/DD+1)+1 from rfl,x4 (Y/DD+1)]; omega
 have:=kg h4
 omega
def lsB (W D:List Nat)(q:Nat):Nat→Nat
 | 0=>0
 | k+1=>(lsB W D q k+q*D.getD k 0)/4294967296+if W.getD k 0<(lsB W D q k+q*D.getD k 0)%4294967296 then 1 else 0
def lsO (W D:List Nat)(q:Nat):Nat→List Nat
 | 0=>[]
 | k+1=>lsO W D q k++[(W.getD k 0+4294967296-(lsB W D q k+q*D.getD k 0)%4294967296)%4294967296]
theorem ei (W D:List Nat)(q k:Nat):(lsO W D q k).length=k:=by
 induction k with
 | zero=>rfl
 | succ k ih=>simp [lsO,ih]
theorem lsO_ok (W D:List Nat)(q k:Nat):okL (lsO W D q k):=by
 induction k with
 | zero=>exact cI
 | succ k ih=>exact okL_append.2 ⟨ih,okL_cons.2 ⟨qM _ zo,cI⟩⟩
theorem iZ {l:List Nat}(h:okL l)(k:Nat):l.getD k 0<4294967296:=by
 by_cases hk:k<l.length
 ·simp only [List.getD_eq_getElem?_getD,List.getElem?_eq_getElem hk,xf]; exact h _ (qf hk)
 ·simp [List.getD_eq_getElem?_getD,List.getElem?_eq_none (by omega:l.length≤k)]
theorem wz {W D:List Nat}{q:Nat}(hD:okL D)(k:Nat):lsB W D q k≤q:=by
 induction k with
 | zero=>exact zc _
 | succ k ih =>
  unfold lsB
  have h1:=iZ hD k
  generalize D.getD k 0=v at *
  generalize lsB W D q k=b at *
  generalize W.getD k 0=u at *
  have h2:q*v≤q*4294967295:=zr _ zo
  generalize q*v=p at *
  split <;> omega
theorem ls_val {W D:List Nat}{q k:Nat}(hW:okL W)(hkW:k≤W.length)(hkD:k≤D.length):val (lsO W D q k)+q*val (D.take k)=val (W.take k)+4294967296^k*lsB W D q k:=by
 induction k with
 | zero=>simp [lsO,lsB]
 | succ k ih =>
  have ih:=ih zo zo
  have h1:=iZ hW k
  rw [lsO,ic,ei,bx (by omega:k<D.length),bx (by omega:k<W.length),lsB,zT,qV]
  have e1:D[k]'zo=D.getD k 0:=by simp [List.getD_eq_getElem?_getD,List.getElem?_eq_getElem (by omega:k<D.length)]
  have e2:W[k]'zo=W.getD k 0:=by simp [List.getD_eq_getElem?_getD,List.getElem?_eq_getElem (by omega:k<W.length)]
  rw [e1,e2]
  generalize hv:D.getD k 0=v at *
  generalize lsB W D q k=b at *
  generalize W.getD k 0=u at *
  have e3:q*(4294967296^k*v)=4294967296^k*(q*v):=by rw [← qU,qP q,qU]
  rw [e3]
  generalize q*v=p at *
  generalize 4294967296^k=E at *
  have e4:E*((u+4294967296-(b+p)%4294967296)%4294967296)+E*p+E*b=E*u+E*4294967296*((b+p)/4294967296+if u<(b+p)%4294967296 then 1 else 0):=by
   rw [← zT,← zT,qU,← zT]
   congr 1
   split <;> omega
  omega
theorem DB {W D:List Nat}{q m:Nat}(hW:okL W)(hD:okL D)(hm:D.length=m)(hlW:W.length=m+1)(hq:q<4294967296) :
  decide (W.getD m 0<lsB W D q m)=decide (val W<q*val D) ∧
  lsO W D q m++[(W.getD m 0+4294967296-lsB W D q m)%4294967296]=digs (m+1) (val W+(if val W<q*val D then 4294967296^(m+1) else 0)-q*val D):=by
 have h1:=ls_val (q:=q) hW (by omega:m≤W.length) (by omega:m≤D.length)
 have h2:=wz (W:=W) (q:=q) hD m
 have h3:=iZ hW m
 have h4:val W=val (W.take m)+4294967296^m*W.getD m 0:=by
  have:=bx (l:=W) (i:=m) zo
  rw [qD zo] at this
  rw [this]
  simp [List.getD_eq_getElem?_getD,List.getElem?_eq_getElem (by omega:m<W.length)]
 have h5:D.take m=D:=qD zo
 rw [h5] at h1
 have ho:okL (lsO W D q m++[(W.getD m 0+4294967296-lsB W D q m)%4294967296]):=okL_append.2 ⟨lsO_ok _ _ _ _,okL_cons.2 ⟨qM _ zo,cI⟩⟩
 have hv:=ic (lsO W D q m) ((W.getD m 0+4294967296-lsB W D q m)%4294967296)
 have hlt:=eu ho
 simp only [qB,ei,zy,xy,qO] at hlt hv
 have hlen:(lsO W D q m++[(W.getD m 0+4294967296-lsB W D q m)%4294967296]).length=m+1:=by simp [ei]
 generalize lsO W D q m=o at *
 generalize lsB W D q m=b at *
 generalize W.getD m 0=u at *
 generalize hS:q*val D=S at *
 rw [qV] at *
 have key:val (o++[(u+4294967296-b)%4294967296])+S=val W+if u<b then 4294967296^m*4294967296 else 0:=by
  rw [hv,h4]
  have:4294967296^m*((u+4294967296-b)%4294967296)+4294967296^m*b=4294967296^m*u+if u<b then 4294967296^m*4294967296 else 0:=by
   rw [← zT]
   split
   ·rw [← zT]; congr 1; omega
   ·rw [xF]; congr 1; omega
  omega
 have hc:(u<b)↔(val W<S):=by
  constructor
  ·intro h; rw [qz h] at key; omega
  ·intro h; apply Decidable.byContradiction; intro hn; rw [qw hn] at key; omega
 refine ⟨by rw [qS]; exact hc,lf ho hlen ?_⟩
 by_cases h:u<b
 ·rw [qz h] at key; rw [qz (hc.1 h)]; omega
 ·rw [qw h] at key; rw [qw (λ hh=>h (hc.2 hh))]; omega
def spl (l:List Nat)(o:Nat)(c:List Nat):List Nat:=l.take o++c++l.drop (o+c.length)
theorem oS (l:List Nat)(o:Nat):spl l o []=l:=by simp [spl]
theorem gx {l:List Nat}{o:Nat}{c:List Nat}(h:o+c.length≤l.length):(spl l o c).length=l.length:=by simp [spl]; omega
theorem iH {l:List Nat}{o k x:Nat}{c:List Nat}(hk:c.length=k)(h:o+k<l.length):(spl l o c).set (o+k) x=spl l o (c++[x]):=by
 subst hk
 unfold spl
 rw [za,xJ _ _ (by simp; omega),qY,xl zo,jD,xJ _ _ (qi _),xD,
  qG h,k7]
 simp [za,xR]
theorem iI {l:List Nat}{o j:Nat}{c:List Nat}(h:o+c.length≤j)(hj:j<l.length):(spl l o c)[j]?=some (l.getD j 0):=by
 unfold spl
 rw [List.getElem?_append_right (by simp; omega),List.getElem?_drop]
 simp only [qB,qY]
 rw [xl zo,show o+c.length+(j-(o+c.length))=j by omega,List.getElem?_eq_getElem hj]
 simp [List.getD_eq_getElem?_getD,List.getElem?_eq_getElem hj]
theorem EF {l:List Nat}{o:Nat}{c c':List Nat}(h:c.length=c'.length)(ho:o+c.length≤l.length):spl (spl l o c) o c'=spl l o c':=by
 unfold spl
 rw [← h,z7 (by simp; omega),z7 (by simp; omega),jR,Nat.min_self,jh (by simp; omega),q9 (by simp; omega)]
 simp
theorem ED {l:List Nat}{o:Nat}{c:List Nat}(h:o+c.length≤l.length):((spl l o c).drop o).take c.length=c:=by
 unfold spl
 rw [za,jh (by simp; omega),q9 (by simp; omega),xb,z7 (qi _),qF]
theorem ib {l:List Nat}{o n k:Nat}(h:k<n):((l.drop o).take n).getD k 0=l.getD (o+k) 0:=by
 simp [List.getD_eq_getElem?_getD,List.getElem?_take_of_lt h]
theorem getD_some {l:List Nat}{k:Nat}(h:k<l.length):l[k]?=some (l.getD k 0):=by
 simp [List.getD_eq_getElem?_getD,List.getElem?_eq_getElem h]
theorem nG {l:List Nat}{m k:Nat}(h:k<m):(l.take m).getD k 0=l.getD k 0:=by
 simp [List.getD_eq_getElem?_getD,List.getElem?_take_of_lt h]
theorem mB {l:List Nat}(h:okL l)(n:Nat):okL (l.take n):=λ x hx=>h x (xj hx)
theorem Bh {l:List Nat}(h:okL l)(n:Nat):okL (l.drop n):=λ x hx=>h x (kN hx)
theorem iy (a b m:Nat):digs (a+b) m=digs a m++digs b (m/4294967296^a):=by
 induction a generalizing m with
 | zero=>simp [digs]
 | succ a ih=>rw [show a+1+b=a+b+1 by omega,digs,digs,ih,zf,qV,qP (4294967296^a)]; rfl
theorem lg {a n m:Nat}(h:a≤n):(digs n m).take a=digs a m:=by
 obtain ⟨b,rfl⟩:∃ b,n=a+b:=⟨n-a,by omega⟩
 rw [iy,z7 (by rw [az]; omega),qD (by rw [az]; omega)]
theorem ow {a n m:Nat}(h:a≤n):(digs n m).drop a=digs (n-a) (m/4294967296^a):=by
 obtain ⟨b,rfl⟩:∃ b,n=a+b:=⟨n-a,by omega⟩
 rw [iy,jh (by rw [az]; omega),q9 (by rw [az]; omega),show a+b-a=b by omega]; rfl
theorem lh {n m k:Nat}(h:k<n):(digs n m).getD k 0=m/4294967296^k%4294967296:=by
 induction n generalizing m k with
 | zero=>omega
 | succ n ih =>
  cases k with
  | zero=>simp [digs]
  | succ k=>rw [digs,List.getD_cons_succ,ih zo,zf,qV,qP (4294967296^k)]
theorem Cl {n V i k Y:Nat}(hi:i+k≤n)(hV:V<4294967296^(i+k))(hY:Y<4294967296^k):spl (digs n V) i (digs k Y)=digs n (V%4294967296^i+4294967296^i*Y):=by
 obtain ⟨r,rfl⟩:∃ r,n=i+k+r:=⟨n-(i+k),by omega⟩
 have hp:0<4294967296^i:=zq zo
 unfold spl
 rw [az,lg zo,ow zo,iy (i+k),iy i]
 have e1:(V%4294967296^i+4294967296^i*Y)/4294967296^i=Y:=by
  rw [jP _ _ hp,xq (qM _ hp),qO]
 have e2:(V%4294967296^i+4294967296^i*Y)/4294967296^(i+k)=V/4294967296^(i+k):=by
  rw [zR,← zf,e1,xq hY,← zR,xq hV]
 rw [e1,e2,show i+k+r-(i+k)=r by omega]
 congr 2
 exact fb (by rw [jv,Nat.mod_mod])
def bl (n:Nat):Nat:=if n=0 then 0 else n.log2+1
theorem Hc {n:Nat}(h:n≠0):bl n=bl (n/2)+1:=by
 unfold bl
 rw [qw h,Nat.log2_def]
 by_cases h2:2≤n
 ·rw [qz h2,qw zo]
 ·rw [qw h2,qz zo]
theorem yW (n k:Nat)(h:2^k≤n):bl n=bl (n/2^k)+k:=by
 induction k with
 | zero=>simp
 | succ k ih =>
  rw [qV] at h
  have hp:0<2^k:=zq zo
  rw [ih zo,qV,← zf,Hc (n:=n/2^k)]
  ·omega
  ·have:0<n/2^k:=Nat.div_pos zo hp
   omega
theorem bl_lt (n:Nat):n<2^bl n:=by
 unfold bl
 split
 ·omega
 ·exact Nat.lt_log2_self
theorem bl_le {n:Nat}(h:n≠0):2^(bl n-1)≤n:=by
 unfold bl
 rw [qw h,xX]
 exact Nat.log2_self_le h
theorem er {n k:Nat}(h:n<2^k):bl n≤k:=by
 by_cases h0:n=0
 ·subst h0; simp [bl]
 ·have h1:=bl_le h0
  apply Decidable.byContradiction
  intro hc
  have:2^k≤2^(bl n-1):=zx zo zo
  omega
theorem bl_pos {n:Nat}(h:n≠0):0<bl n:=by unfold bl; rw [qw h]; omega
theorem yV {n:Nat}(h:n≠0)(h2:n<4294967296):2147483648≤n*2^(32-bl n)∧n*2^(32-bl n)<4294967296∧32-bl n<32:=by
 have h1:=bl_le h
 have h3:=bl_lt n
 have h4:=bl_pos h
 have h5:bl n≤32:=er (k:=32) zo
 refine ⟨?_,?_,by omega⟩
 ·have:2^(bl n-1)*2^(32-bl n)≤n*2^(32-bl n):=qR _ h1
  rw [← zR,show bl n-1+(32-bl n)=31 by omega] at this
  omega
 ·have:n*2^(32-bl n)<2^bl n*2^(32-bl n):=xK h3 (zq zo)
  rw [← zR,show bl n+(32-bl n)=32 by omega] at this
  omega
theorem dv_Y (X DD i:Nat)(h:0<DD):X%(DD*4294967296^(i+1))/4294967296^i<DD*4294967296:=by
 apply zD
 have h1:X%(DD*4294967296^(i+1))<DD*4294967296^(i+1):=qM _ (jg h (zq zo))
 rw [qV,← qU,jm,qP] at h1
 rw [qV,← qU,jm,qP (DD*4294967296)]
 exact h1
theorem dv_q (X DD i:Nat):X%(DD*4294967296^(i+1))/4294967296^i/DD=X/(DD*4294967296^i)%4294967296:=by
 rw [zf,qP _ DD,qV,← qU,Nat.mod_mul_right_div_self]
theorem dv_r (X DD i:Nat):X%(DD*4294967296^(i+1))%4294967296^i+4294967296^i*(X%(DD*4294967296^(i+1))/4294967296^i%DD)=X%(DD*4294967296^i):=by
 rw [← Nat.mod_mul,qP _ DD,qV,← qU,Nat.mod_mul_right_mod]
theorem dec2 {D k:Nat}(h:D<4294967296^(k+2)):D=D%4294967296^k+4294967296^k*(D/4294967296^k%4294967296+4294967296*(D/4294967296^(k+1)%4294967296)):=by
 have h1:D/4294967296^(k+1)<4294967296:=zD h
 rw [zi h1,qV,← zf,xU,xU]
theorem dec3 {Y k:Nat}(h:Y<4294967296^(k+3)):Y=Y%4294967296^k+4294967296^k*(Y/4294967296^k%4294967296+4294967296*(Y/4294967296^(k+1)%4294967296+4294967296*(Y/4294967296^(k+2)%4294967296))):=by
 have h1:Y/4294967296^(k+2)<4294967296:=zD h
 rw [zi h1,qV _ (k+1),← zf Y (4294967296^(k+1)),xU (Y/4294967296^(k+1)),qV _ k,← zf,xU,xU]
structure Dv (n k i V DD:Nat):Prop where
 hn:i+(k+3)≤n
 d1:4294967296^(k+1)*2147483648≤DD
 d2:DD<4294967296^(k+2)
 y:V/4294967296^i<DD*4294967296
section
variable {n k i V DD:Nat} (h:Dv n k i V DD)
include h
theorem Dv.pos:0<DD:=qE (jg (zq zo) zo) h.d1
theorem Dv.y3:V/4294967296^i<4294967296^(k+3):=by
 have h1:=h.y
 have h2:=qR 4294967296 (zU h.d2)
 have h3:4294967296^(k+3)=4294967296^(k+2)*4294967296:=qV _ (k+2)
 rw [h3]
 exact qE h1 h2
theorem Dv.v3:V<4294967296^(i+(k+3)):=by
 have h1:=h.y3
 rw [jN (zq zo),qP,← zR] at h1
 exact h1
theorem Dv.u (j:Nat)(hj:j<k+3):(digs n V).getD (i+j) 0=V/4294967296^i/4294967296^j%4294967296:=by
 rw [lh (by have:=h.hn; omega),zR,zf]
theorem Dv.win:((digs n V).drop i).take (k+3)=digs (k+3) (V/4294967296^i):=by
 rw [ow (by have:=h.hn; omega),lg (by have:=h.hn; omega)]
theorem Dv.winv:val (((digs n V).drop i).take (k+3))=V/4294967296^i:=by rw [h.win,dh,zi h.y3]
theorem Dv.dd:val ((digs (k+3) DD).take (k+2))=DD:=by rw [lg zo,dh,zi h.d2]
theorem Dv.top:2147483648≤DD/4294967296^(k+1)%4294967296:=by
 have h1:DD/4294967296^(k+1)<4294967296:=zD h.d2
 rw [zi h1]
 rw [jM (zq zo),qP]
 exact h.d1
end
structure Gs (k Y DD g r:Nat):Prop where
 eq:g*(DD/4294967296^(k+1)%4294967296)+r=Y/4294967296^(k+2)%4294967296*4294967296+Y/4294967296^(k+1)%4294967296
 ge:Y/DD≤g
 r:r<4294967296
theorem Gs.next {k Y DD g r:Nat}(hg:Gs k Y DD g r)(hlt:Y/DD<g)(hr:r+DD/4294967296^(k+1)%4294967296<4294967296):Gs k Y DD (g-1) (r+DD/4294967296^(k+1)%4294967296):=by
 refine ⟨?_,Nat.le_sub_one_of_lt hlt,hr⟩
 have h1:=hg.eq
 obtain ⟨g',rfl⟩:∃ g',g=g'+1:=⟨g-1,(jl (qT (zc _) hlt)).symm⟩
 rw [xX]
 rw [x4] at h1
 omega
section
variable {n k i V DD:Nat} (h:Dv n k i V DD)
include h
theorem Dv.lo:V/4294967296^i/DD*(DD/4294967296^(k+1)%4294967296*4294967296+DD/4294967296^k%4294967296) ≤
  (V/4294967296^i/4294967296^(k+2)%4294967296*4294967296+V/4294967296^i/4294967296^(k+1)%4294967296)*4294967296+V/4294967296^i/4294967296^k%4294967296:=by
 have e1:=dec3 h.y3
 have e2:=dec2 h.d2
 refine kn_lo (wl:=V/4294967296^i%4294967296^k) (dl:=DD%4294967296^k) (Bm:=4294967296^k) ?_ e2 (qM _ (zq zo))
 refine e1.trans ?_
 congr 3
 omega
theorem Dv.u0:V/4294967296^i/4294967296^(k+2)%4294967296≤DD/4294967296^(k+1)%4294967296 :=
 kn_top (dec3 h.y3) (dec2 h.d2) (qM _ (zq zo)) (qM _ zo) h.y
theorem Dv.gs0 {head top:Nat}(hh:head=V/4294967296^i/4294967296^(k+2)%4294967296*4294967296+V/4294967296^i/4294967296^(k+1)%4294967296)(ht:top=DD/4294967296^(k+1)%4294967296) :
  Gs k (V/4294967296^i) DD (head/top) (head%top):=by
 have htop:=h.top
 have hlo:=h.lo
 have e:=Nat.div_add_mod' head top
 have h3:head%top<top:=qM _ zo
 subst hh ht
 refine ⟨e,?_,by omega⟩
 rw [jM zo]
 generalize V/4294967296^i/DD=q at *
 generalize DD/4294967296^(k+1)%4294967296=t at *
 rw [zT,← qU] at hlo
 have:V/4294967296^i/4294967296^k%4294967296<4294967296:=qM _ zo
 generalize q*t=p at *
 omega
variable {g r:Nat} (hg:Gs k (V/4294967296^i) DD g r)
include hg
theorem Dv.gmax:g≤4294967297:=by
 have h1:=hg.eq
 have h2:=h.u0
 have h3:=h.top
 have h4:V/4294967296^i/4294967296^(k+1)%4294967296<4294967296:=qM _ zo
 generalize DD/4294967296^(k+1)%4294967296=t at *
 apply Decidable.byContradiction
 intro hc
 have:4294967298*t≤g*t:=qR _ zo
 omega
theorem Dv.down (hb:4294967296≤g∨r*4294967296+V/4294967296^i/4294967296^k%4294967296<g*(DD/4294967296^k%4294967296)):V/4294967296^i/DD<g:=by
 rcases hb with hb | hb
 ·have:V/4294967296^i/DD<4294967296:=zD h.y
  omega
 ·have hlo:=h.lo
  have h1:=hg.eq
  generalize V/4294967296^i/DD=q at *
  generalize DD/4294967296^(k+1)%4294967296=t at *
  generalize DD/4294967296^k%4294967296=d at *
  have:q*(t*4294967296+d)<g*(t*4294967296+d):=by
   rw [zT g,← qU]
   generalize g*t=p at *
   generalize g*d=s at *
   omega
  exact kg this
theorem Dv.end1 (hb:g<4294967296)(hr:g*(DD/4294967296^k%4294967296)≤r*4294967296+V/4294967296^i/4294967296^k%4294967296):g=V/4294967296^i/DD∨g=V/4294967296^i/DD+1:=by
 refine kn_pm h.pos hg.ge ?_
 have h1:=hg.eq
 refine kn_hi (wl:=V/4294967296^i%4294967296^k) (dl:=DD%4294967296^k) (Bm:=4294967296^k) (head:=V/4294967296^i/4294967296^(k+2)%4294967296*4294967296+V/4294967296^i/4294967296^(k+1)%4294967296) (u2:=V/4294967296^i/4294967296^k%4294967296) ?_ (dec2 h.d2) (qM _ (zq zo)) (by have:=h.top; omega) hb ?_
 ·refine (dec3 h.y3).trans ?_
  congr 3
  omega
 ·rw [zT,← qU]
  generalize g*(DD/4294967296^(k+1)%4294967296)=p at *
  omega
theorem Dv.end2 (hlt:V/4294967296^i/DD<g)(hr:4294967296≤r+DD/4294967296^(k+1)%4294967296):g-1<4294967296∧(g-1=V/4294967296^i/DD∨g-1=V/4294967296^i/DD+1):=by
 have h1:=hg.eq
 have h2:=h.u0
 have h3:=h.top
 have h4:V/4294967296^i/4294967296^(k+1)%4294967296<4294967296:=qM _ zo
 obtain ⟨g',rfl⟩:∃ g',g=g'+1:=⟨g-1,(jl (qT (zc _) hlt)).symm⟩
 rw [xX]
 have hd:DD/4294967296^k%4294967296<4294967296:=qM _ zo
 have hg':g'<4294967296:=by
  apply Decidable.byContradiction
  intro hc
  generalize DD/4294967296^(k+1)%4294967296=t at *
  have:4294967296*t≤g'*t:=qR _ zo
  rw [x4] at h1
  omega
 refine ⟨hg',kn_pm h.pos (Nat.le_of_lt_succ hlt) ?_⟩
 refine kn_hi (wl:=V/4294967296^i%4294967296^k) (dl:=DD%4294967296^k) (Bm:=4294967296^k) (head:=V/4294967296^i/4294967296^(k+2)%4294967296*4294967296+V/4294967296^i/4294967296^(k+1)%4294967296) (u2:=V/4294967296^i/4294967296^k%4294967296) ?_ (dec2 h.d2) (qM _ (zq zo)) zo hg' ?_
 ·refine (dec3 h.y3).trans ?_
  congr 3
  omega
 ·rw [zT,← qU]
  rw [x4] at h1
  have:g'*(DD/4294967296^k%4294967296)≤4294967295*4294967295:=xC zo zo
  generalize g'*(DD/4294967296^(k+1)%4294967296)=p at *
  omega
end
def dvL (n X DD i:Nat):List Nat:=digs n (X%(DD*4294967296^i))
def dvQ (lq X DD i:Nat):List Nat:=List.replicate i 0++digs (lq-i) (X/(DD*4294967296^i))
theorem yv {lq X DD i:Nat}(h:i≤lq):(dvQ lq X DD i).length=lq:=by simp [dvQ,az]; omega
theorem sh {lq X DD i:Nat}(h:i<lq):(dvQ lq X DD (i+1)).set i (X/(DD*4294967296^i)%4294967296)=dvQ lq X DD i:=by
 unfold dvQ
 rw [xM,za,xJ _ _ (by simp),qW,xD,show lq-i=(lq-(i+1))+1 by omega,digs,zf,qU,← qV]
 rfl
theorem GH {lq X DD:Nat}:dvQ lq X DD lq=List.replicate lq 0:=by simp [dvQ,digs]
theorem GJ {n lq X DD:Nat}(h:X<DD*4294967296^lq):dvL n X DD lq=digs n X:=by rw [dvL,zi h]
theorem wt (Y D:Nat):Y%D=Y-Y/D*D:=by
 have:=xU Y D
 rw [qP (Y/D)]
 omega
theorem lt_ds {Y D:Nat}(h:0<D):Y<(Y/D+1)*D:=by rw [qP]; exact kQ Y h
theorem dv_mk {n k i X DD:Nat}(hn:i+(k+3)≤n)(d1:4294967296^(k+1)*2147483648≤DD)(d2:DD<4294967296^(k+2)):Dv n k i (X%(DD*4294967296^(i+1))) DD :=
 ⟨hn,d1,d2,dv_Y X DD i (qE (jg (zq zo) zo) d1)⟩
section
variable {n k i X DD:Nat} (h:Dv n k i (X%(DD*4294967296^(i+1))) DD)
include h
theorem Dv.fin1 {Z:Nat}(hZ:digs (k+3) Z=digs (k+3) (X%(DD*4294967296^(i+1))/4294967296^i%DD)):spl (dvL n X DD (i+1)) i (digs (k+3) Z)=dvL n X DD i:=by
 rw [hZ,dvL,dvL,Cl h.hn h.v3 (ze (qM _ h.pos) (ze h.d2 (Nat.pow_lt_pow_right zo zo))),dv_r]
omit h in
theorem Dv.no:¬ (X%(DD*4294967296^(i+1))/4294967296^i<X%(DD*4294967296^(i+1))/4294967296^i/DD*DD):=by
 have:=ji (X%(DD*4294967296^(i+1))/4294967296^i) DD
 omega
theorem Dv.yes:X%(DD*4294967296^(i+1))/4294967296^i<(X%(DD*4294967296^(i+1))/4294967296^i/DD+1)*DD:=by
 exact lt_ds h.pos
theorem Dv.ls {g:Nat}:(val (((dvL n X DD (i+1)).drop i).take (k+3))<g*val ((digs (k+3) DD).take (k+2)))↔X%(DD*4294967296^(i+1))/4294967296^i<g*DD:=by
 rw [dvL,h.winv,h.dd]
theorem Dv.end_no {g:Nat}(hg:g=X%(DD*4294967296^(i+1))/4294967296^i/DD) :
  spl (dvL n X DD (i+1)) i (digs (k+3) (val (((dvL n X DD (i+1)).drop i).take (k+3))+(if val (((dvL n X DD (i+1)).drop i).take (k+3))<g*val ((digs (k+3) DD).take (k+2)) then 4294967296^(k+3) else 0)-g*val ((digs (k+3) DD).take (k+2))))=dvL n X DD i:=by
 apply h.fin1
 rw [qw (by rw [h.ls,hg]; exact Dv.no),h.dd]
 rw [dvL,h.winv,hg]
 rw [wt _ DD]
 simp only [xF]
theorem Dv.end_yes {g:Nat}(hg:g=X%(DD*4294967296^(i+1))/4294967296^i/DD+1){M W:List Nat}
  (hM:M=spl (dvL n X DD (i+1)) i (digs (k+3) (val (((dvL n X DD (i+1)).drop i).take (k+3))+(if val (((dvL n X DD (i+1)).drop i).take (k+3))<g*val ((digs (k+3) DD).take (k+2)) then 4294967296^(k+3) else 0)-g*val ((digs (k+3) DD).take (k+2)))))
  (hW:W=(M.drop i).take (k+3)):M.length=n∧W.length=k+3∧okL W ∧
  spl M i (digs (k+2) (sumTo W ((digs (k+3) DD).take (k+2)) (k+2))++[(W.getD (k+2) 0+sumTo W ((digs (k+3) DD).take (k+2)) (k+2)/4294967296^(k+2))%4294967296])=dvL n X DD i:=by
 have hlen:(dvL n X DD (i+1)).length=n:=az _ _
 have hMl:M.length=n:=by rw [hM,gx (by rw [az,hlen]; exact h.hn),hlen]
 have hWl:W.length=k+3:=by rw [hW]; have:=h.hn; simp; omega
 have hy:=h.yes
 have hWd:W=digs (k+3) (X%(DD*4294967296^(i+1))/4294967296^i+4294967296^(k+3)-g*DD):=by
  have:=ED (l:=dvL n X DD (i+1)) (o:=i) (c:=digs (k+3) (val (((dvL n X DD (i+1)).drop i).take (k+3))+(if val (((dvL n X DD (i+1)).drop i).take (k+3))<g*val ((digs (k+3) DD).take (k+2)) then 4294967296^(k+3) else 0)-g*val ((digs (k+3) DD).take (k+2)))) (by rw [az,hlen]; exact h.hn)
  rw [← hM,az,← hW] at this
  rw [this,qz (by rw [h.ls,hg]; exact hy),h.dd]
  rw [dvL,h.winv]
 have hok:okL W:=by rw [hWd]; exact bI _ _
 refine ⟨hMl,hWl,hok,?_⟩
 have hDl:((digs (k+3) DD).take (k+2)).length=k+2:=by simp [az]
 have e1:sumTo W ((digs (k+3) DD).take (k+2)) (k+2)+4294967296^(k+2)*W.getD (k+2) 0=val W+DD:=by
  unfold sumTo
  rw [qD (l:=(digs (k+3) DD).take (k+2)) zo,h.dd]
  have:=bx (l:=W) (i:=k+2) zo
  rw [qD zo] at this
  rw [this,show W.getD (k+2) 0=W[k+2]'zo from by simp [List.getD_eq_getElem?_getD,List.getElem?_eq_getElem (by omega:k+2<W.length)]]
  omega
 have e2:digs (k+2) (sumTo W ((digs (k+3) DD).take (k+2)) (k+2))++[(W.getD (k+2) 0+sumTo W ((digs (k+3) DD).take (k+2)) (k+2)/4294967296^(k+2))%4294967296]=digs (k+3) (val W+DD):=by
  rw [← e1,dw,xa (W.getD (k+2) 0)]
 have hlt:X%(DD*4294967296^(i+1))/4294967296^i/DD*DD≤X%(DD*4294967296^(i+1))/4294967296^i:=ji _ _
 have hd:=h.d2
 have hp:4294967296^(k+2)≤4294967296^(k+3):=zx zo zo
 rw [e2,hM,EF (by simp [az]) (by rw [az,hlen]; exact h.hn)]
 apply h.fin1
 rw [hWd,dh]
 apply fb
 rw [hg,x4] at *
 have hm:X%(DD*4294967296^(i+1))/4294967296^i%DD=X%(DD*4294967296^(i+1))/4294967296^i-X%(DD*4294967296^(i+1))/4294967296^i/DD*DD:=wt _ _
 rw [hm]
 have hz:=h.y3
 generalize X%(DD*4294967296^(i+1))/4294967296^i/DD*DD=p at *
 generalize X%(DD*4294967296^(i+1))/4294967296^i=Y at *
 generalize 4294967296^(k+3)=E at *
 rw [zi (show Y+E-(p+DD)<E by omega),show Y+E-(p+DD)+DD=(Y-p)+E by omega,ve]
end
theorem EQ {R s j:Nat}(hs:s<32):(R/4294967296^(j+1)%4294967296*4294967296+R/4294967296^j%4294967296)/2^s%4294967296=R/2^s/4294967296^j%4294967296:=by
 rw [zf R (2^s),qP (2^s),← zf,qV,← zf]
 generalize R/4294967296^j=T
 have e1:T=(T/4294967296%4294967296*4294967296+T%4294967296)+2^s*(4294967296*(2^(32-s)*(T/4294967296/4294967296))):=by
  have:2^s*(4294967296*(2^(32-s)*(T/4294967296/4294967296)))=4294967296*(4294967296*(T/4294967296/4294967296)):=by
   rw [vd (2^s),← qU (2^s),← zR,show s+(32-s)=32 by omega]
  rw [this]
  omega
 have e2:T/2^s=(T/4294967296%4294967296*4294967296+T%4294967296)/2^s+4294967296*(2^(32-s)*(T/4294967296/4294967296)):=by
  have h1:=qm (· / 2^s) e1
  rw [jP _ _ (zq zo)] at h1
  exact h1
 rw [e2,jv]
def dvF (n R s j:Nat):List Nat:=spl (digs n R) 0 (digs j (R/2^s))
theorem Ce (n R s:Nat):dvF n R s 0=digs n R:=oS _ _
theorem GK {n R s j:Nat}(h:j≤n):(dvF n R s j).length=n:=by rw [dvF,gx (by rw [az,az]; omega),az]
theorem yw {n R s j i:Nat}(h:j≤i)(hi:i<n):(dvF n R s j)[i]?=some (R/4294967296^i%4294967296):=by
 rw [dvF,iI (by rw [az]; omega) (by rw [az]; omega),lh hi]
theorem Cf {n R s j:Nat}(hs:s<32)(h:j<n):(dvF n R s j).set j ((R/4294967296^(j+1)%4294967296*4294967296+R/4294967296^j%4294967296)/2^s%4294967296)=dvF n R s (j+1):=by
 rw [EQ hs,dvF,dvF,ga]
 have:=iH (l:=digs n R) (o:=0) (k:=j) (x:=R/2^s/4294967296^j%4294967296) (az j (R/2^s)) (by rw [az]; omega)
 rw [qO] at this
 exact this
theorem GL {n R s m:Nat}:dvF n R s m=digs m (R/2^s)++(digs n R).drop m:=by
 rw [dvF,spl,az]
 simp
theorem GG {d:List Nat}{k:Nat}(hd:okL d)(hl:d.length=k+2)(h0:d.getD (k+1) 0≠0) :
  4294967296^(k+1)*2147483648≤val d*2^(32-bl (d.getD (k+1) 0))∧val d*2^(32-bl (d.getD (k+1) 0))<4294967296^(k+2):=by
 have h1:=bx (l:=d) (i:=k+1) zo
 rw [qD zo] at h1
 have h2:d[k+1]'zo=d.getD (k+1) 0:=by simp [List.getD_eq_getElem?_getD,List.getElem?_eq_getElem (by omega:k+1<d.length)]
 rw [h2] at h1
 have h3:=cu hd (k+1)
 have h4:=yV h0 (iZ hd (k+1))
 have h5:=bl_lt (d.getD (k+1) 0)
 have h6:=er (k:=32) (iZ hd (k+1))
 generalize d.getD (k+1) 0=t at *
 generalize val (d.take (k+1))=v at *
 constructor
 ·refine qe (zr _ h4.1) ?_
  rw [← qU]
  exact qR _ zo
 ·have e:val d<4294967296^(k+1)*2^bl t:=by
   rw [h1]
   have:4294967296^(k+1)*(t+1)≤4294967296^(k+1)*2^bl t:=zr _ h5
   rw [kF] at this
   omega
  have h7:=xK e (show 0<2^(32-bl t) from zq zo)
  rw [qU,← zR,show bl t+(32-bl t)=32 by omega] at h7
  exact h7
theorem Cd {a:List Nat}{DD k s la:Nat}(ha:okL a)(hla:a.length=la)(hk:k+2≤la)(hs:s<32)(d1:4294967296^(k+1)*2147483648≤DD):val a*2^s<DD*4294967296^(la+1-(k+2)):=by
 have h1:=eu ha
 rw [hla] at h1
 have h2:2^s≤2^31:=zx zo zo
 have h3:val a*2^s≤val a*2147483648:=zr _ h2
 have h4:val a*2147483648<4294967296^la*2147483648:=xK h1 zo
 have h5:4294967296^(k+1)*2147483648*4294967296^(la+1-(k+2))≤DD*4294967296^(la+1-(k+2)):=qR _ d1
 rw [jm,← zR,show k+1+(la+1-(k+2))=la by omega] at h5
 omega
theorem yF {n m j:Nat}(h:j<n):(digs n m)[0+j]?=some (m/4294967296^j%4294967296):=by
 rw [qO,getD_some (by rw [az]; omega),lh h]
theorem Dv.at_ {n k i X DD:Nat}(h:Dv n k i (X%(DD*4294967296^(i+1))) DD)(j:Nat)(hj:j<k+3):(dvL n X DD (i+1))[i+j]?=some (X%(DD*4294967296^(i+1))/4294967296^i/4294967296^j%4294967296):=by
 have:=h.hn
 rw [dvL,getD_some (by rw [az]; omega),h.u j hj]
theorem Dv.yes_ex {n k i X DD:Nat}(h:Dv n k i (X%(DD*4294967296^(i+1))) DD){g:Nat}(hg:g=X%(DD*4294967296^(i+1))/4294967296^i/DD+1) :
  ∃ M,spl (dvL n X DD (i+1)) i (digs (k+3) (val (((dvL n X DD (i+1)).drop i).take (k+3))+(if val (((dvL n X DD (i+1)).drop i).take (k+3))<g*val ((digs (k+3) DD).take (k+2)) then 4294967296^(k+3) else 0)-g*val ((digs (k+3) DD).take (k+2))))=M ∧
   M.length=n∧((M.drop i).take (k+3)).length=k+3∧okL ((M.drop i).take (k+3)) ∧
   spl M i (digs (k+2) (sumTo ((M.drop i).take (k+3)) ((digs (k+3) DD).take (k+2)) (k+2))++[(((M.drop i).take (k+3)).getD (k+2) 0+sumTo ((M.drop i).take (k+3)) ((digs (k+3) DD).take (k+2)) (k+2)/4294967296^(k+2))%4294967296])=dvL n X DD i :=
 ⟨_,rfl,h.end_yes hg rfl rfl⟩
theorem GI {lq X DD:Nat}:dvQ lq X DD 0=digs lq (X/DD):=by simp [dvQ]
theorem Ht {W D:List Nat}{j:Nat}(hW:j<W.length):digs j (sumTo W D j)++[(W.getD j 0+D.getD j 0+sumTo W D j/4294967296^j)%4294967296]=digs (j+1) (sumTo W D (j+1)):=by
 rw [eP hW,dw,show W[j]=W.getD j 0 from by simp [List.getD_eq_getElem?_getD,List.getElem?_eq_getElem hW],xa (sumTo W D j/_)]
theorem CO {W D:List Nat}{j:Nat}(hW:j<W.length):(W.getD j 0+D.getD j 0+sumTo W D j/4294967296^j)/4294967296=sumTo W D (j+1)/4294967296^(j+1):=by
 rw [eP hW,carry_step',show W[j]=W.getD j 0 from by simp [List.getD_eq_getElem?_getD,List.getElem?_eq_getElem hW],xa (sumTo W D j/_)]
theorem HB {i k n:Nat}(h:i+(k+2)+1≤n):i≤i+(k+2)+1∧i+(k+2)+1≤n∧i<n∧0+i=i∧i+(k+2)+1-i=k+3∧n-i=n-i:=⟨by omega,h,by omega,by omega,by omega,rfl⟩
theorem Bn {x y:Nat}(hx:x<4294967296)(hy:y<4294967296):x*y<18446744073709551616:=by
 have:x*y≤4294967295*4294967295:=xC zo zo
 omega
theorem or_yes {n m p q:Nat}(h:(decide ((n:Int)≥((m:Nat):Int)) || decide (((p:Nat):Int)>((q:Nat):Int)))=true):m≤n∨q<p:=by
 rcases zw _ _▸h with h | h
 ·exact .inl (j5.1 (qp h))
 ·exact .inr (j4.1 (qp h))
theorem or_no {n m p q:Nat}(h:(decide ((n:Int)≥((m:Nat):Int)) || decide (((p:Nat):Int)>((q:Nat):Int)))=false):n<m∧p≤q:=by
 rw [qI] at h
 exact ⟨xO λ hh=>qr h.1 (j5.2 hh),kb λ hh=>qr h.2 (j4.2 hh)⟩
theorem ge_yes {n m:Nat}(h:decide ((n:Int)≥((m:Nat):Int))=true):m≤n:=j5.1 (qp h)
theorem ge_no {n m:Nat}(h:decide ((n:Int)≥((m:Nat):Int))=false):n<m:=xO λ hh=>qr h (j5.2 hh)
theorem wsub64 {u x:Nat}(h:x<18446744073709551616)(hu:u<18446744073709551616):IntKind.u64.wrap ((u:Int)-(x:Int))=(((u+18446744073709551616-x)%18446744073709551616:Nat):Int):=by
 simp [IntKind.wrap,IntKind.bits,IntKind.signed]; omega
theorem wsubl {u x:Nat}(hu:u<4294967296)(hx:x<4294967296):IntKind.u32.wrap (((u+18446744073709551616-x)%18446744073709551616:Nat):Int)=(((u+4294967296-x)%4294967296:Nat):Int):=by
 rw [wlow]; congr 1; omega
theorem wsubs {u x:Nat}(hu:u<4294967296)(hx:x<4294967296):(((u+18446744073709551616-x)%18446744073709551616:Nat):Int)/2^((63:Int).toNat)=((if u<x then 1 else 0:Nat):Int):=by
 refine (nshr (k:=63)).trans ?_
 congr 1
 split <;> omega
theorem sgn1 {u x:Nat}:(((if u<x then 1 else 0:Nat):Int)==((1:Nat):Int))=decide (u<x):=by
 split <;> simp [*]
theorem less_c (L Dx:List Nat)(o m c0 c1 q:Nat)(hL:okL L)(hDx:okL Dx)(hm:m≤Dx.length)(hlo:o+m+1≤L.length)(hms:m≤1099511627776)(hq:q<4294967296):Cm2 Tryz.prog 253 134 (winH o (m+1) c0) (slH m c1) (Nums .u32 L) (Nums .u32 (spl L o (digs (m+1) (val ((L.drop o).take (m+1))+(if val ((L.drop o).take (m+1))<q*val (Dx.take m) then 4294967296^(m+1) else 0)-q*val (Dx.take m))))) .u32 (Dx) [(NumA .u64 (q:Nat)).va] (Bo (decide (val ((L.drop o).take (m+1))<q*val (Dx.take m)))):=by
 refine Cm2.intro Tryz.func253 G zk nq (λ B g0 g1 w0 a U=>?_)
 have U:=zn [(0,EqV ((winH o (m+1) c0).f g0)),(1,EqV ((slH m c1).f g1)),(2,(NumA .u64 (q:Nat)).va)] [⟨0,134,winH o (m+1) c0,Nums .u32 L⟩,⟨1,134,slH m c1,Nums .u32 (Dx)⟩] U
 have hW:okL ((L.drop o).take (m+1)):=mB (Bh hL _) _
 have hD:okL (Dx.take m):=mB hDx _
 have hWl:(((L.drop o).take (m+1))).length=m+1:=by simp; omega
 have hDl:((Dx.take m)).length=m:=by simp; omega
 refine qb<|zg [η,η] [] [.v 6 _] [.g 0,.g 1,.g 2,.o 0] U (zv G (ac aJ) o0) (zz [(0,_),(1,_),(2,_),(6,_)] [⟨0,134,winH o (m+1) c0,_⟩,⟨1,134,slH m c1,_⟩] λ a w U=>?_)
 refine zt<|zg [η,η] [] [.v 7 _] [.g 0,.g 1,.g 2,.g 3,.o 0] U (zv G (ac (aG 0 G)) o0) (zz [(0,_),(1,_),(2,_),(6,_),(7,_)] [⟨0,134,winH o (m+1) c0,_⟩,⟨1,134,slH m c1,_⟩] λ a w U=>?_)
 refine zt<|qb<|zg [η,η] [] [.v 12 _,.v 13 _,.v 14 _] [.g 0,.g 1,.g 2,.g 3,.g 4,.o 0,.o 1,.o 2] U (zM 1 G (zv G (d7 Tryz.underlying24 (vq 0 G)) (zv G (ai ab) o0))) (zz [(0,_),(1,_),(2,_),(6,_),(7,_),(12,_),(13,_),(14,_)] [⟨0,134,winH o (m+1) c0,_⟩,⟨1,134,slH m c1,_⟩] λ a w U=>?_)
 refine aa<|qj ?_
 have U:=St.sel U [0,1,2,4,5,6,7]
 refine wp_loop_ghost (λ n a w=>∃ k:Nat,n+k=m∧St B w0 62 [(0,EqV ((winH o (m+1) c0).f g0)),(1,EqV ((slH m c1).f g1)),(2,(NumA .u64 (q:Nat)).va),(7,(NumA .u64 (lsB ((L.drop o).take (m+1)) (Dx.take m) q k:Nat)).va),(12,EqV ((slH m c1).f g1)),(13,In (m:Nat)),(14,In (k:Nat))] [⟨0,134,winH o (m+1) c0,Nums .u32 (spl L o (lsO ((L.drop o).take (m+1)) (Dx.take m) q k))⟩,⟨1,134,slH m c1,Nums .u32 Dx⟩] a w) (m) ?_ ?_
 ·exact ⟨0,by omega,by rw [show lsO ((L.drop o).take (m+1)) (Dx.take m) q 0=[] from rfl,oS]; exact U⟩
 intro n a w hI
 obtain ⟨k,hn,U⟩:=hI
 refine qb<|zg [η,η] [] [.v 15 _] [.g 0,.g 1,.g 2,.g 3,.g 4,.g 5,.g 6,.o 0] U (zv G (aS (gq 6 G) (gq 5 G)) o0) (zz [(0,_),(1,_),(2,_),(7,_),(12,_),(13,_),(14,_),(15,_)] [⟨0,134,winH o (m+1) c0,_⟩,⟨1,134,slH m c1,_⟩] λ a w U=>?_)
 refine zt<|aj U (zm 7 G) (λ hb0=>?_) (λ hb0=>?_)
 ·have hk:k<m:=by simp at hb0; omega
  have hdk:=iZ hD k
  have hwk:=iZ hW k
  have hbk:=wz (W:=((L.drop o).take (m+1))) (q:=q) hD k
  have hdx:Dx[0+k]?=some (((Dx.take m)).getD k 0):=by rw [nG hk,qO]; exact getD_some zo
  have hwx:(spl L o (lsO ((L.drop o).take (m+1)) (Dx.take m) q k))[o+k]?=some ((((L.drop o).take (m+1))).getD k 0):=by rw [ib zo,iI (by rw [ei]; omega) zo]
  have hpk:q*((Dx.take m)).getD k 0≤q*4294967295:=zr _ zo
  refine qh<|zt<|qj<|qb<|zg [η,η] [] [.v 16 _,.v 17 _,.v 18 _,.v 8 _,.v 9 _] [.g 0,.g 1,.g 2,.g 3,.g 4,.g 5,.g 6,.o 3,.o 4] U (zM 6 G (zv G (cD b9 (gq 4 G) (gq 6 G) zo) (zv G (cm (vq 1 G) (lz0 1 G) (gq 1 G) (nums_at' hdx) aO) (zA 0 G (zA 2 G o0))))) (zz [(0,_),(1,_),(2,_),(7,_),(12,_),(13,_),(14,_),(8,_),(9,_)] [⟨0,134,winH o (m+1) c0,_⟩,⟨1,134,slH m c1,_⟩] λ a w U=>?_)
  refine zt<|zg [η,η] [] [.v 19 _,.v 20 _,.v 21 _,.v 22 _,.v 23 _,.v 24 _,.v 7 _] [.g 0,.g 1,.g 2,.g 4,.g 5,.g 6,.g 7,.o 6] U (zM 3 G (zM 2 G (zM 8 G (zv G (aK .u64 zk zk (vq 2 G) (wu64 zo)) (zv G (iP (vq 1 G) (vq 3 G) (wmul64 zo)) (zv G (aN (vq 0 G) (vq 4 G) (wadd64 zo)) (zA 5 G o0))))))) (zz [(0,_),(1,_),(2,_),(12,_),(13,_),(14,_),(8,_),(7,_)] [⟨0,134,winH o (m+1) c0,_⟩,⟨1,134,slH m c1,_⟩] λ a w U=>?_)
  refine zt<|zg [η,η] [] [.v 25 _,.v 26 _,.v 27 _,.v 28 _,.v 29 _,.v 30 _,.v 31 _,.v 32 _,.v 33 _,.v 10 _] [.g 0,.g 1,.g 2,.g 3,.g 4,.g 5,.g 6,.g 7,.o 9] U (zM 0 G (zM 6 G (zv G (cD b9 (vq 0 G) (vq 1 G) zo) (zv G (cm (vq 2 G) (lz0 0 G) (gq 0 G) (nums_at' hwx) aO) (zv G (aK .u64 zk zk (vq 3 G) (wu64 zo)) (zM 7 G (zv G (aK .u32 zk zk (vq 5 G) (wlow)) (zv G (aK .u64 zk zk (vq 6 G) (wu64 zo)) (zv G (c6 (vq 4 G) (vq 7 G) (wsub64 zo zo)) (zA 8 G o0)))))))))) (zz [(0,_),(1,_),(2,_),(12,_),(13,_),(14,_),(8,_),(7,_),(10,_)] [⟨0,134,winH o (m+1) c0,_⟩,⟨1,134,slH m c1,_⟩] λ a w U=>?_)
  refine zt<|zg [some (5,_),η] [] [.v 34 _,.v 35 _,.v 36 _,.v 37 _,.v 38 _,.sto 0] [.g 0,.g 1,.g 2,.g 3,.g 4,.g 5,.g 7,.g 8] U (zM 0 G (zM 6 G (zM 8 G (zv G (aK .u32 zk zk (vq 2 G) (wsubl hwk zo)) (zv G (cD b9 (vq 0 G) (vq 1 G) zo) (oc (fp G G G (vq 4 G) (gq 0 G) (vq 3 G) aO (br (by rw [gx (by rw [ei]; omega)]; omega))) o0)))))) (zz [(0,_),(1,_),(2,_),(12,_),(13,_),(14,_),(7,_),(10,_)] [⟨0,134,winH o (m+1) c0,_⟩,⟨1,134,slH m c1,_⟩] λ a w U=>?_)
  refine aa<|zg [η,η] [] [.v 39 _,.v 40 _,.v 41 _,.v 42 _,.v 43 _,.v 7 _] [.g 0,.g 1,.g 2,.g 3,.g 4,.g 5,.o 5] U (zM 6 G (zv G (i7 (vq 0 G) (aG 32 G) zd (nshr)) (zM 7 G (zv G (i7 (vq 2 G) (aG 63 G) zd (wsubs hwk zo)) (zv G (aN (vq 1 G) (vq 3 G) (wadd64 (by split <;> omega))) (zA 4 G o0)))))) (zz [(0,_),(1,_),(2,_),(12,_),(13,_),(14,_),(7,_)] [⟨0,134,winH o (m+1) c0,_⟩,⟨1,134,slH m c1,_⟩] λ a w U=>?_)
  refine ap ?_
  refine aa<|zg [η,η] [] [.v 44 _,.v 14 _] [.g 0,.g 1,.g 2,.g 3,.g 4,.g 6,.o 1] U (zv G (aN (gq 5 G) ab (ba zo)) (zv G (ai (vq 0 G)) o0)) (zz [(0,_),(1,_),(2,_),(12,_),(13,_),(7,_),(14,_)] [⟨0,134,winH o (m+1) c0,_⟩,⟨1,134,slH m c1,_⟩] λ a w U=>?_)
  refine aa ?_
  have U:=St.sel U [0,1,2,5,3,4,6]
  rw [iH (ei _ _ _ _) zo] at U
  exact ⟨n-1,by omega,k+1,by omega,U⟩
 ·obtain rfl:m=k:=by simp at hb0; omega
  have hbk:=wz (W:=((L.drop o).take (m+1))) (q:=q) hD m
  have hwk:=iZ hW m
  have hwx:(spl L o (lsO ((L.drop o).take (m+1)) (Dx.take m) q m))[o+m]?=some ((((L.drop o).take (m+1))).getD m 0):=by rw [ib zo,iI (by rw [ei]; omega) zo]
  refine qK<|am<|am<|aB<|zt<|zg [η,η] [] [.v 45 _,.v 46 _,.v 47 _,.v 48 _,.v 49 _,.v 50 _,.v 51 _,.v 52 _,.v 11 _] [.g 0,.g 1,.o 8] U (zM 0 G (zM 1 G (zv G (d7 Tryz.underlying24 (vq 1 G)) (zv G (cD b9 (vq 0 G) (vq 2 G) zo) (zv G (cm (vq 3 G) (lz0 0 G) (gq 0 G) (nums_at' hwx) aO) (zv G (aK .u64 zk zk (vq 4 G) (wu64 zo)) (zM 3 G (zv G (c6 (vq 5 G) (vq 6 G) (wsub64 zo zo)) (zA 7 G o0))))))))) (zz [(0,_),(1,_),(11,_)] [⟨0,134,winH o (m+1) c0,_⟩,⟨1,134,slH m c1,_⟩] λ a w U=>?_)
  refine zt<|zg [some (6,_),η] [] [.v 53 _,.v 54 _,.v 55 _,.v 56 _,.v 57 _,.v 58 _,.sto 0] [.g 0,.g 1,.g 2] U (zM 0 G (zM 1 G (zv G (d7 Tryz.underlying24 (vq 1 G)) (zM 2 G (zv G (aK .u32 zk zk (vq 3 G) (wsubl hwk zo)) (zv G (cD b9 (vq 0 G) (vq 2 G) zo) (oc (fp G G G (vq 5 G) (gq 0 G) (vq 4 G) aO (br (by rw [gx (by rw [ei]; omega)]; omega))) o0))))))) (zz [(0,_),(1,_),(11,_)] [⟨0,134,winH o (m+1) c0,_⟩,⟨1,134,slH m c1,_⟩] λ a w U=>?_)
  refine zt<|zg [η,η] [] [.v 59 _,.v 60 _,.v 61 _,.v 6 _] [.g 0,.g 1,.o 3] U (zM 2 G (zv G (i7 (vq 0 G) (aG 63 G) zd (wsubs hwk zo)) (zv G (bC (vq 1 G) (aG 1 G)) (zA 2 G o0)))) (zz [(0,_),(1,_),(6,_)] [⟨0,134,winH o (m+1) c0,_⟩,⟨1,134,slH m c1,_⟩] λ a w U=>?_)
  refine aa<|qg ?_
  rw [iH (ei _ _ _ _) zo,(DB hW hD hDl hWl hq).2] at U
  refine I9 U (zm 0 G) (zm 1 G) (zm 0 G) (zm 1 G) ?_
  refine aC ?_ (an G U (zm 2 G))
  rw [sgn1,(DB hW hD hDl hWl hq).1]
def tab8:ByteArray:=⟨(([0,1,2,2,3,3,3,3,4,4,4,4,4,4,4,4,5,5,5,5,5,5,5,5,5,5,5,5,5,5,5,5,6,6,6,6,6,6,6,6,6,6,6,6,6,6,6,6,6,6,6,6,6,6,6,6,6,6,6,6,6,6,6,6,7,7,7,7,7,7,7,7,7,7,7,7,7,7,7,7,7,7,7,7,7,7,7,7,7,7,7,7,7,7,7,7,7,7,7,7,7,7,7,7,7,7,7,7,7,7,7,7,7,7,7,7,7,7,7,7,7,7,7,7,7,7,7,7]:List UInt8)++[8,8,8,8,8,8,8,8,8,8,8,8,8,8,8,8,8,8,8,8,8,8,8,8,8,8,8,8,8,8,8,8,8,8,8,8,8,8,8,8,8,8,8,8,8,8,8,8,8,8,8,8,8,8,8,8,8,8,8,8,8,8,8,8,8,8,8,8,8,8,8,8,8,8,8,8,8,8,8,8,8,8,8,8,8,8,8,8,8,8,8,8,8,8,8,8,8,8,8,8,8,8,8,8,8,8,8,8,8,8,8,8,8,8,8,8,8,8,8,8,8,8,8,8,8,8,8,8]).toArray⟩
theorem Al:(List.range 256).all (λ n=>tab8[n]? == some (UInt8.ofNat (bl n)))=true:=by kernel_rfl
theorem mi {n:Nat}(h:n<256):tab8[n]?=some (UInt8.ofNat (bl n)):=by
 have:=qd.1 Al n (by simpa using h)
 simpa using this
theorem de {n:Nat}(h:n<256):(UInt8.ofNat (bl n)).toNat=bl n:=by
 have:=er (k:=8) h
 simp
 omega
theorem wu8 {x:Nat}(h:x<256):IntKind.u8.wrap (x:Int)=(x:Int):=by simp [IntKind.wrap,IntKind.bits,IntKind.signed]; omega
theorem G8 (x:Nat)(hx:x<4294967296):Cn Tryz.prog 259 [(NumA .u32 (x:Nat)).va] (In (bl x:Nat)):=by
 refine Cn.intro Tryz.func259 G zk nq (λ B w0 a U=>?_)
 have U:=zn [(0,(NumA .u32 (x:Nat)).va)] [] U
 refine qb<|zh [.v 2 _] [.g 0,.o 0] U (zv G (ac ab) o0) (zz [(0,_),(2,_)] [] λ a w U=>?_)
 refine zt<|qb<|zh [.v 3 _,.v 4 _] [.g 0,.g 1,.o 1] U (zM 0 G (zv G (d9 (vq 0 G) (aG 65536 G)) o0)) (zz [(0,_),(2,_),(4,_)] [] λ a w U=>?_)
 refine aa<|aj U (zm 2 G) (λ hb0=>?_) (λ hb0=>?_)
 ·have h1:65536≤x:=by simp at hb0; omega
  have e1:=yW x 16 h1
  refine qb<|zh [.v 5 _,.v 6 _,.v 0 _] [.g 1,.o 2] U (zM 0 G (zv G (i7 (vq 0 G) (aG 16 G) zd (nshr)) (zA 1 G o0))) (zz [(2,_),(0,_)] [] λ a w U=>?_)
  refine aa<|zh [.v 2 _] [.g 1,.o 0] U (zv G (ac ab) o0) (zz [(0,_),(2,_)] [] λ a w U=>?_)
  refine zt<|qb<|zh [.v 7 _,.v 8 _] [.g 0,.g 1,.o 1] U (zM 0 G (zv G (d9 (vq 0 G) (aG 256 G)) o0)) (zz [(0,_),(2,_),(8,_)] [] λ a w U=>?_)
  refine aa<|aj U (zm 2 G) (λ hb1=>?_) (λ hb1=>?_)
  ·have h2:256≤x/2^16:=by simp at hb1; omega
   have e2:=yW (x/2^16) 8 h2
   refine qb<|zh [.v 9 _,.v 10 _,.v 0 _] [.g 1,.o 2] U (zM 0 G (zv G (i7 (vq 0 G) (aG 8 G) zd (nshr)) (zA 1 G o0))) (zz [(2,_),(0,_)] [] λ a w U=>?_)
   refine aa<|zh [.v 11 _,.v 12 _,.v 2 _] [.g 1,.o 2] U (zM 0 G (zv G (aN (vq 0 G) ab (wi64 zo zo)) (zA 1 G o0))) (zz [(0,_),(2,_)] [] λ a w U=>?_)
   refine zt<|zh [.v 13 _,.v 14 _,.v 15 _,.v 16 _,.v 17 _,.v 18 _,.v 2 _] [.o 6] U (zM 1 G (zM 0 G (zv G (aK .u8 zk zk (vq 1 G) (wu8 zo)) (zv G (cS zk bc (vq 2 G) (mi zo)) (zv G (aK .i64 zk zk (vq 3 G) (wi64 zo (by rw [de zo]; have:=er (k:=8) (n:=x/2^16/2^8) zo; omega))) (zv G (aN (vq 0 G) (vq 4 G) (wi64 (by rw [de zo]; omega) (by rw [de zo]; have:=er (k:=8) (n:=x/2^16/2^8) zo; omega))) (zA 5 G o0))))))) (zz [(2,_)] [] λ a w U=>?_)
   refine aa<|qg<|aC ?_ (an G U (zm 0 G))
   rw [e1,e2,de zo]; congr 2; omega
  ·have h2:x/2^16<256:=by simp at hb1; omega
   refine qh<|zt<|zh [.v 13 _,.v 14 _,.v 15 _,.v 16 _,.v 17 _,.v 18 _,.v 2 _] [.o 6] U (zM 1 G (zM 0 G (zv G (aK .u8 zk zk (vq 1 G) (wu8 h2)) (zv G (cS zk bc (vq 2 G) (mi h2)) (zv G (aK .i64 zk zk (vq 3 G) (wi64 zo (by rw [de h2]; have:=er (k:=8) h2; omega))) (zv G (aN (vq 0 G) (vq 4 G) (wi64 (by rw [de h2]; omega) (by rw [de h2]; have:=er (k:=8) h2; omega))) (zA 5 G o0))))))) (zz [(2,_)] [] λ a w U=>?_)
   refine aa<|qg<|aC ?_ (an G U (zm 0 G))
   rw [e1,de h2]; congr 2; omega
 ·have h1:x<65536:=by simp at hb0; omega
  refine qh<|zt<|qb<|zh [.v 7 _,.v 8 _] [.g 0,.g 1,.o 1] U (zM 0 G (zv G (d9 (vq 0 G) (aG 256 G)) o0)) (zz [(0,_),(2,_),(8,_)] [] λ a w U=>?_)
  refine aa<|aj U (zm 2 G) (λ hb2=>?_) (λ hb2=>?_)
  ·have h2:256≤x:=by simp at hb2; omega
   have e2:=yW x 8 h2
   refine qb<|zh [.v 9 _,.v 10 _,.v 0 _] [.g 1,.o 2] U (zM 0 G (zv G (i7 (vq 0 G) (aG 8 G) zd (nshr)) (zA 1 G o0))) (zz [(2,_),(0,_)] [] λ a w U=>?_)
   refine aa<|zh [.v 11 _,.v 12 _,.v 2 _] [.g 1,.o 2] U (zM 0 G (zv G (aN (vq 0 G) ab (wi64 zo zo)) (zA 1 G o0))) (zz [(0,_),(2,_)] [] λ a w U=>?_)
   refine zt<|zh [.v 13 _,.v 14 _,.v 15 _,.v 16 _,.v 17 _,.v 18 _,.v 2 _] [.o 6] U (zM 1 G (zM 0 G (zv G (aK .u8 zk zk (vq 1 G) (wu8 zo)) (zv G (cS zk bc (vq 2 G) (mi zo)) (zv G (aK .i64 zk zk (vq 3 G) (wi64 zo (by rw [de zo]; have:=er (k:=8) (n:=x/2^8) zo; omega))) (zv G (aN (vq 0 G) (vq 4 G) (wi64 (by rw [de zo]; omega) (by rw [de zo]; have:=er (k:=8) (n:=x/2^8) zo; omega))) (zA 5 G o0))))))) (zz [(2,_)] [] λ a w U=>?_)
   refine aa<|qg<|aC ?_ (an G U (zm 0 G))
   rw [e2,de zo]; congr 2; omega
  ·have h2:x<256:=by simp at hb2; omega
   refine qh<|zt<|zh [.v 13 _,.v 14 _,.v 15 _,.v 16 _,.v 17 _,.v 18 _,.v 2 _] [.o 6] U (zM 1 G (zM 0 G (zv G (aK .u8 zk zk (vq 1 G) (wu8 h2)) (zv G (cS zk bc (vq 2 G) (mi h2)) (zv G (aK .i64 zk zk (vq 3 G) (wi64 zo (by rw [de h2]; have:=er (k:=8) h2; omega))) (zv G (aN (vq 0 G) (vq 4 G) (wi64 (by rw [de h2]; omega) (by rw [de h2]; have:=er (k:=8) h2; omega))) (zA 5 G o0))))))) (zz [(2,_)] [] λ a w U=>?_)
   refine aa<|qg<|aC ?_ (an G U (zm 0 G))
   rw [de h2]; congr 2; omega
theorem lz32_c (x:Nat)(hx:x<4294967296):Cn Tryz.prog 251 [(NumA .u32 (x:Nat)).va] (In (32-bl x:Nat)):=by
 refine Cn.intro Tryz.func251 G zk nq (λ B w0 a U=>?_)
 have U:=zn [(0,(NumA .u32 (x:Nat)).va)] [] U
 have hb:=er (k:=32) hx
 refine qb<|zh [.v 2 _] [.g 0,.o 0] U (zv G (ac ab) o0) (zz [(0,_),(2,_)] [] λ a w U=>?_)
 refine zt<|zh [.v 3 _,.v 4 _,.v 5 _,.v 2 _] [.o 3] U (zM 0 G (zQ G (G8 x hx) (.o (vq 0 G)) (zv G (c6 ab (vq 1 G) ((wi64 zo zo).trans (show (32:Int)-(bl x:Nat)=((32-bl x:Nat):Int) by omega))) (zA 2 G o0)))) (zz [(2,_)] [] λ a w U=>?_)
 exact aa<|qg<|an G U (zm 0 G)
theorem HC {k:Nat}(h:k<4611686018427387904):IntKind.i64.wrap (((k+2:Nat):Int)-2)=((k:Nat):Int):=by rw [wi64 zo zo]; omega
theorem wu64pred {x:Nat}(h:0<x)(h2:x<18446744073709551616):IntKind.u64.wrap ((x:Int)-((1:Nat):Int))=((x-1:Nat):Int):=by simp [IntKind.wrap,IntKind.bits,IntKind.signed]; omega
theorem bbl {x:Nat}:x%4294967296<4294967296:=qM _ zd
theorem bbl64 {x:Nat}:x%4294967296<18446744073709551616:=ze bbl zd
theorem Cj (x y:List Nat)(k:Nat)(hyl:y.length=k+2)(h0:y.getD (k+1) 0≠0)(hxy:k+2≤x.length)(hxs:x.length≤1099511627776):Cn Tryz.prog 242 [(MgA x).va,(MgA y).va] (Tu [(MgN (digs (x.length+1-(k+2)) (val x/val y))).va,(MgN (digs (k+2) (val x%val y))).va]):=by
 refine Cn.introW Tryz.func242 G zk nq (.cons (iB _).va (.cons (iB _).va .nil)) (ua (.cons (dD _).va (.cons (dD _).va .nil))) (λ B w0 a hB0 U=>?_)
 have U:=zn [(0,(MgO x).va),(1,(MgO y).va)] [] U
 have hx:=(U.magO 0 rfl).1
 have hy:=(U.magO 1 rfl).1
 have hys:y.length≤1099511627776:=by omega
 have hpy:y.length-1<y.length:=by omega
 obtain ⟨s,hs⟩:∃ s,s=32-bl (y.getD (k+1) 0):=⟨_,rfl⟩
 have hsy:32-bl (y[y.length-1]'hpy)=s:=by
  rw [hs,show y.getD (k+1) 0=y[y.length-1]'hpy from by simp [List.getD_eq_getElem?_getD,hyl]]
 obtain ⟨X,hX⟩:∃ X,X=val x*2^s:=⟨_,rfl⟩
 obtain ⟨DD,hDD⟩:∃ DD,DD=val y*2^s:=⟨_,rfl⟩
 obtain ⟨d1,d2⟩:=GG hy hyl h0
 have hs32:s<32:=hs▸(yV h0 (iZ hy (k+1))).2.2
 rw [← hs,← hDD] at d1 d2
 have hX0:X<DD*4294967296^(x.length+1-(k+2)):=hX▸Cd hx rfl hxy hs32 d1
 have hDp:0<DD:=qE (jg (zq zd) zd) d1
 have htop:2147483648≤DD/4294967296^(k+1)%4294967296:=by
  have h1:DD/4294967296^(k+1)<4294967296:=zD d2
  rw [zi h1,jM (zq zd),qP]
  exact d1
 have htop2:DD/4294967296^(k+1)%4294967296<4294967296:=bbl
 obtain ⟨R,hR⟩:∃ R,R=X%(DD*4294967296^0):=⟨_,rfl⟩
 have hp2:0<2^s:=zq zd
 have hend4:dvQ (x.length+1-(k+2)) X DD 0=digs (x.length+1-(k+2)) (val x/val y):=by
  rw [GI,hX,hDD,Nat.mul_div_mul_right _ _ hp2]
 have hend5:R/2^s=val x%val y:=by
  rw [hR,jG,zK,hX,hDD,Nat.mul_mod_mul_right,Nat.mul_div_cancel _ hp2]
 have hR0:R/4294967296^(k+2)%4294967296=0:=by
  have:R<4294967296^(k+2):=by rw [hR,jG,zK]; exact ze (qM _ hDp) d2
  rw [xq this]
 refine qb<|zh [.v 4 _,.v 5 _] [.g 0,.g 1,.o 0,.o 1] U (zv G (ac bc) (zv G (ac bc) o0)) (zz [(0,_),(1,_),(4,_),(5,_)] [] λ a w U=>?_)
 refine aa<|wp_scope_straight ?_
 refine qb<|zh [.v 20 _,.v 21 _,.v 22 _,.v 23 _,.v 24 _,.v 25 _,.v 26 _,.v 27 _,.v 6 _] [.g 0,.g 1,.g 2,.g 3,.o 8] U (zM 1 G (zM 1 G (zv G (aI Tryz.underlying24 (aD (vq 1 G))) (zv G (c6 (vq 2 G) ab (Ec zo zo)) (zv G (bG b9 (aD (vq 0 G)) (vq 3 G) zo) (zv G (au (vq 4 G) aO) (zQ G (lz32_c _ (hy _ (qf _))) (.o (vq 5 G)) (zv G (aK .u64 zk zk (vq 6 G) ((show IntKind.u64.wrap _=((s:Nat):Int) from by rw [hsy]; exact wu64 zo))) (zA 7 G o0))))))))) (zz [(0,_),(1,_),(4,_),(5,_),(6,_)] [] λ a w U=>?_)
 refine zt<|BH (sts:=[]) (news:=[⟨30,134,slH (x.length+1) (x.length+1),some 2,_,none⟩,⟨33,134,slH (y.length+1) (y.length+1),some 5,_,none⟩]) (sp:=[.v 28 _,.v 29 _,.alc 0,.v 31 _,.v 32 _,.alc 1,.v 34 _,.v 35 _,.adr 36 33 (.fn (cutV y.length)) True,.adr 7 30 .none True,.adr 1 33 (.fn (cutV y.length)) True]) [[],[],[0,1],[],[],[0,1,2,3,4],[],[6],[0,1,2,3,4,5,6,7],[0,1,2,3,4,5],[0,1,2,3,4,5,6,7,8,9]] [.g 4] [⟨7,134,slH (x.length+1) (x.length+1),_⟩,⟨1,134,slH y.length (y.length+1),_⟩] ae U (zM 0 G (zM 4 G (oc (wd (xs:=[.tmp 28,.tmp 29]) G G G (up_c x s hxs hs32) (.p (aD (vq 0 G)) (vq 1 G))) (zM 1 G (zM 4 G (oc (wd (xs:=[.tmp 31,.tmp 32]) G G G (up_c y s hys hs32) (.p (aD (vq 3 G)) (vq 4 G))) (zM 1 G (zv G (aI Tryz.underlying24 (aD (vq 6 G))) (oc (ob_a G G (a_cut b9 (lz0 1 G) (vq 7 G) zo zo)) (oc (ob_a G G lw) (oc (ob_a G G (a_asgK 8 G zk)) o0))))))))))) zk zk zk zk (.cons ⟨rfl,rfl,.inr ⟨9,.none,rfl,λ _=>rfl⟩⟩ (.cons ⟨rfl,rfl,.inr ⟨10,.fn (cutV y.length),rfl,λ _=>rfl⟩⟩ .nil)) (zz [(6,(NumA .u64 (s:Nat)).va)] [⟨7,134,slH (x.length+1) (x.length+1),Nums .u32 (digs (x.length+1) (val x*2^s))⟩,⟨1,134,slH y.length (y.length+1),Nums .u32 (digs (y.length+1) (val y*2^s))⟩] λ a w U=>?_)
 rw [← hX,← hDD,hyl] at U
 obtain ⟨g0,_,U⟩:=St.expose U 0 rfl
 obtain ⟨g1,_,U⟩:=St.expose U 1 rfl
 have U:=zn [(1,EqV ((slH (k+2) (k+3)).f g1)),(7,EqV ((slH (x.length+1) (x.length+1)).f g0)),(6,(NumA .u64 (s:Nat)).va)] [⟨7,134,slH (x.length+1) (x.length+1),Nums .u32 (digs (x.length+1) X)⟩,⟨1,134,slH (k+2) (k+3),Nums .u32 (digs (k+3) DD)⟩] U
 refine zt<|cU (sts:=[none,none]) (news:=[⟨43,134,slH _ _,some 6,_,none⟩]) (sp:=[.v 37 _,.v 38 _,.v 39 _,.v 40 _,.v 41 _,.v 42 _,.alc 2,.adr 8 43 .none True]) [.g 0,.g 1,.g 2,.o 0] [(8,43)] [⟨7,134,slH (x.length+1) (x.length+1),_⟩,⟨1,134,slH (k+2) (k+3),_⟩,⟨8,134,slH _ _,_⟩] U (zM 1 G (zv G (d7 Tryz.underlying24 (vq 0 G)) (zM 0 G (zv G (d7 Tryz.underlying24 (vq 2 G)) (zv G (c6 (vq 1 G) (vq 3 G) (wi64 zo zo)) (zv G (r_maxk ab (vq 4 G) (show max (0:Int) _=((x.length+1-(k+2):Nat):Int) from by omega)) (oc (dK G G G eD (vq 5 G) (vq 5 G) zo) (oc (ob_a G G lw) o0)))))))) zk zk zk ⟨⟨7,rfl⟩,trivial⟩ G zk (zz [(1,_),(7,_),(6,_),(37,_)] [⟨7,134,slH (x.length+1) (x.length+1),_⟩,⟨1,134,slH (k+2) (k+3),_⟩,⟨8,134,slH _ _,_⟩] λ a w U=>?_)
 obtain ⟨g2,_,U⟩:=St.expose U 2 rfl
 have U:=St.swap (g:=g0) (s':=37) (H':=slH (x.length+1) (x.length+1)) U 0 rfl (zm 2 rfl) (zm 4 rfl) rfl
 refine zt<|zg [η,η,η] [] [.v 44 _,.v 45 _,.v 46 _,.v 47 _,.v 48 _,.v 49 _,.v 50 _,.v 9 _] [.g 0,.g 1,.g 2,.g 3,.g 4,.o 7] U (zM 1 G (zM 1 G (zv G (d7 Tryz.underlying24 (vq 1 G)) (zv G (c6 (vq 2 G) ab (tT (n:=k+1) zo)) (zv G (cD b9 (vq 0 G) (vq 3 G) zo) (zv G (cm (vq 4 G) (lz0 1 G) (gq 1 G) (nums_at' (yF zo)) aO) (zv G (aK .u64 zk zk (vq 5 G) (wu64 bbl64)) (zA 6 G o0)))))))) (zz [(8,_),(1,_),(7,_),(6,_),(37,_),(9,_)] [⟨37,134,slH (x.length+1) (x.length+1),_⟩,⟨1,134,slH (k+2) (k+3),_⟩,⟨8,134,slH _ _,_⟩] λ a w U=>?_)
 refine zt<|wp_label<|zt<|qb<|zg [η,η,η] [] [.v 51 _,.v 52 _,.v 53 _,.v 10 _] [.g 0,.g 1,.g 2,.g 3,.g 4,.g 5,.o 3] U (zM 0 G (zv G (d7 Tryz.underlying24 (vq 0 G)) (zv G (c6 (vq 1 G) ab (wi64 zo zo)) (zA 2 G o0)))) (zz [(8,_),(1,_),(7,_),(6,_),(37,_),(9,_),(10,_)] [⟨37,134,slH (x.length+1) (x.length+1),_⟩,⟨1,134,slH (k+2) (k+3),_⟩,⟨8,134,slH _ _,_⟩] λ a w U=>?_)
 refine aa<|qj ?_
 have U:=St.sel U [3,2,4,1,0,5,6]
 refine wp_loop_ghost (λ n a w=>n≤(x.length+1-(k+2))∧St B w0 200 [(6,(NumA .u64 (s:Nat)).va),(7,EqV ((slH (x.length+1) (x.length+1)).f g0)),(37,EqV ((slH (x.length+1) (x.length+1)).f g0)),(1,EqV ((slH (k+2) (k+3)).f g1)),(8,EqV ((slH (x.length+1-(k+2)) (x.length+1-(k+2))).f g2)),(9,(NumA .u64 (DD/4294967296^(k+1)%4294967296:Nat)).va),(10,In ((n:Int)-1))] [⟨37,134,slH (x.length+1) (x.length+1),Nums .u32 (dvL (x.length+1) X DD n)⟩,⟨1,134,slH (k+2) (k+3),Nums .u32 (digs (k+3) DD)⟩,⟨8,134,slH (x.length+1-(k+2)) (x.length+1-(k+2)),Nums .u32 (dvQ (x.length+1-(k+2)) X DD n)⟩] a w) ((x.length+1-(k+2))) ?_ ?_
 ·exact ⟨qi _,by rw [GJ hX0,GH]; exact U⟩
 intro n a w hI
 obtain ⟨hn,U⟩:=hI
 refine qb<|qb<|zg [η,η,η] [] [.v 54 _,.v 55 _] [.g 0,.g 1,.g 2,.g 3,.g 4,.g 5,.g 6,.o 1] U (zM 6 G (zv G (d9 (vq 0 G) ab) o0)) (zz [(6,_),(7,_),(37,_),(1,_),(8,_),(9,_),(10,_),(55,_)] [⟨37,134,slH (x.length+1) (x.length+1),_⟩,⟨1,134,slH (k+2) (k+3),_⟩,⟨8,134,slH _ _,_⟩] λ a w U=>?_)
 refine aa<|aj U (zm 7 G) (λ hb0=>?_) (λ hb0=>?_)
 ·obtain ⟨i,rfl⟩:∃ i,n=i+1:=⟨n-1,by simp at hb0; omega⟩
  rw [show ((i+1:Nat):Int)-1=(i:Int) from by omega] at U
  have hv:Dv (x.length+1) k i (X%(DD*4294967296^(i+1))) DD:=dv_mk zo d1 d2
  have hu:=hv.at_
  have hgs0:=hv.gs0 rfl rfl
  have hgmax:=λ {g r:Nat}=>hv.gmax (g:=g) (r:=r)
  have hdown:=λ {g r:Nat}=>hv.down (g:=g) (r:=r)
  have hend1:=λ {g r:Nat}=>hv.end1 (g:=g) (r:=r)
  have hend2:=λ {g r:Nat}=>hv.end2 (g:=g) (r:=r)
  have hdq:=dv_q X DD i
  have hyes:=hv.yes
  have hls:=λ {g:Nat}=>hv.ls (g:=g)
  have hno:=λ {g:Nat}=>hv.end_no (g:=g)
  have hye:=λ {g:Nat}=>hv.yes_ex (g:=g)
  obtain ⟨Y,hY⟩:∃ Y,X%(DD*4294967296^(i+1))/4294967296^i=Y:=⟨_,rfl⟩
  simp only [hY] at hu hgs0 hgmax hdown hend1 hend2 hdq hyes hls hno hye
  have hhd:Y/4294967296^(k+2)%4294967296*4294967296+Y/4294967296^(k+1)%4294967296<18446744073709551616:=by
   have h1:Y/4294967296^(k+2)%4294967296<4294967296:=bbl
   have h2:Y/4294967296^(k+1)%4294967296<4294967296:=bbl
   omega
  refine qh<|zt<|qj<|qb<|zg [η,η,η] [] [.v 58 _,.v 59 _,.v 60 _,.v 61 _,.v 62 _,.v 63 _,.v 64 _,.v 65 _,.v 11 _] [.g 0,.g 1,.g 2,.g 3,.g 4,.g 5,.g 6,.o 8] U (zM 1 G (zM 6 G (zM 6 G (zM 3 G (zv G (d7 Tryz.underlying24 (vq 3 G)) (zv G (aN (vq 2 G) (vq 4 G) (fB zo)) (zv G (aN (vq 5 G) ab (ba zo)) (zv G (r_winE b9 (vq 0 G) (vq 1 G) (vq 6 G) (HB zo)) (zA 7 G o0))))))))) (zz [(6,_),(7,_),(37,_),(1,_),(8,_),(9,_),(10,_),(11,_)] [⟨37,134,slH (x.length+1) (x.length+1),_⟩,⟨1,134,slH (k+2) (k+3),_⟩,⟨8,134,slH _ _,_⟩] λ a w U=>?_)
  have U:=St.swap (g:=g0) (s':=11) (H':=winH i (k+3) (x.length+1-i)) U 0 rfl (zm 2 rfl) (zm 7 rfl) rfl
  refine zt<|zgd [[],[],[1],[0,1,2],[0,1,2,3],[0,1,2,3,4],[0,1,2,3,4,5],[],[],[8],[8,9],[7,8,9,10],[7,8,9,10,11],[7,8,9,10,11,12],[0,1,2,3,4,5,6,7,8,9,10,11,12,13],[0,1,2,3,4,5,6,7,8,9,10,11,12,13,14]] [none,none,none] [] [.v 66 _,.v 67 _,.v 68 _,.v 69 _,.v 70 _,.v 71 _,.v 72 _,.v 73 _,.v 74 _,.v 75 _,.v 76 _,.v 77 _,.v 78 _,.v 79 _,.v 80 _,.v 12 _] [.g 0,.g 1,.g 2,.g 3,.g 4,.g 5,.g 6,.g 7,.o 15] ae U (zM 7 G (zM 3 G (zv G (d7 Tryz.underlying24 (vq 1 G)) (zv G (cD b9 (vq 0 G) (vq 2 G) zo) (zv G (cm (vq 3 G) (lz0 0 G) (gq 7 G) (nums_at' (hu (k+2) zo)) aO) (zv G (aK .u64 zk zk (vq 4 G) (wu64 bbl64)) (zv G (sV (vq 5 G) (aG 32 G) zd (wshl32 bbl)) (zM 7 G (zM 3 G (zv G (d7 Tryz.underlying24 (vq 8 G)) (zv G (c6 (vq 9 G) ab (tT (n:=k+1) zo)) (zv G (cD b9 (vq 7 G) (vq 10 G) zo) (zv G (cm (vq 11 G) (lz0 0 G) (gq 7 G) (nums_at' (hu (k+1) zo)) aO) (zv G (aK .u64 zk zk (vq 12 G) (wu64 bbl64)) (zv G (sX (vq 6 G) (vq 13 G) (or64 bbl bbl)) (zA 14 G o0)))))))))))))))) zk zk zk zk (zz [(6,_),(7,_),(37,_),(1,_),(8,_),(9,_),(10,_),(11,_),(12,_)] [⟨11,134,winH i (k+3) (x.length+1-i),_⟩,⟨1,134,slH (k+2) (k+3),_⟩,⟨8,134,slH _ _,_⟩] λ a w U=>?_)
  refine zt<|zgd [[],[],[0,1],[],[],[3,4],[0,1,2],[0,1,2,3,4,5,6]] [none,none,none] [] [.v 81 _,.v 82 _,.v 83 _,.v 84 _,.v 85 _,.v 86 _,.v 13 _,.v 14 _] [.g 0,.g 1,.g 2,.g 3,.g 4,.g 5,.g 6,.g 7,.o 6,.o 7] ae U (zM 8 G (zM 5 G (zv G (lC (vq 0 G) (vq 1 G) zo (nquo (qT (jK _ _) hhd))) (zM 8 G (zM 5 G (zv G (nO (vq 3 G) (vq 4 G) zo (nrem)) (zA 2 G (zA 5 G o0)))))))) zk zk zk zk (zz [(6,_),(7,_),(37,_),(1,_),(8,_),(9,_),(10,_),(11,_),(13,_),(14,_)] [⟨11,134,winH i (k+3) (x.length+1-i),_⟩,⟨1,134,slH (k+2) (k+3),_⟩,⟨8,134,slH _ _,_⟩] λ a w U=>?_)
  refine zt<|tL (λ a w=>∃ q:Nat,(q<4294967296∧(q=Y/DD∨q=Y/DD+1))∧St B w0 200 [(6,(NumA .u64 (s:Nat)).va),(7,EqV ((slH (x.length+1) (x.length+1)).f g0)),(37,EqV ((slH (x.length+1) (x.length+1)).f g0)),(1,EqV ((slH (k+2) (k+3)).f g1)),(8,EqV ((slH (x.length+1-(k+2)) (x.length+1-(k+2))).f g2)),(9,(NumA .u64 (DD/4294967296^(k+1)%4294967296:Nat)).va),(10,In (i:Nat)),(11,EqV ((winH i (k+3) (x.length+1-i)).f g0)),(13,(NumA .u64 (q:Nat)).va)] [⟨11,134,winH i (k+3) (x.length+1-i),Nums .u32 (dvL (x.length+1) X DD (i+1))⟩,⟨1,134,slH (k+2) (k+3),Nums .u32 (digs (k+3) DD)⟩,⟨8,134,slH (x.length+1-(k+2)) (x.length+1-(k+2)),Nums .u32 (dvQ (x.length+1-(k+2)) X DD (i+1))⟩] a w) ?_ (λ a w U=>?_)
  ·have U:=St.sel U [0,1,2,3,4,5,6,7,8,9]
   refine wp_loop_ghost (λ n a w=>∃ r:Nat,Gs k Y DD n r∧St B w0 200 [(6,(NumA .u64 (s:Nat)).va),(7,EqV ((slH (x.length+1) (x.length+1)).f g0)),(37,EqV ((slH (x.length+1) (x.length+1)).f g0)),(1,EqV ((slH (k+2) (k+3)).f g1)),(8,EqV ((slH (x.length+1-(k+2)) (x.length+1-(k+2))).f g2)),(9,(NumA .u64 (DD/4294967296^(k+1)%4294967296:Nat)).va),(10,In (i:Nat)),(11,EqV ((winH i (k+3) (x.length+1-i)).f g0)),(13,(NumA .u64 (n:Nat)).va),(14,(NumA .u64 (r:Nat)).va)] [⟨11,134,winH i (k+3) (x.length+1-i),Nums .u32 (dvL (x.length+1) X DD (i+1))⟩,⟨1,134,slH (k+2) (k+3),Nums .u32 (digs (k+3) DD)⟩,⟨8,134,slH (x.length+1-(k+2)) (x.length+1-(k+2)),Nums .u32 (dvQ (x.length+1-(k+2)) X DD (i+1))⟩] a w) ((Y/4294967296^(k+2)%4294967296*4294967296+Y/4294967296^(k+1)%4294967296)/(DD/4294967296^(k+1)%4294967296)) ?_ ?_
   ·exact ⟨_,hgs0,U⟩
   intro n a w hI
   obtain ⟨r,hgs,U⟩:=hI
   have hgm:=hgmax hgs
   have hr:=hgs.r
   refine qb<|qb<|iY (anc:=[[],[0],[0,1],[0,1,2],[0,1,2],[0,1,2],[0,1,2,5],[0,1,2,5,6],[0,1,2,4,5,6,7],[0,1,2,4,5,6,7,8],[0,1,2,4,5,6,7,8,9],[0,1,2,3,4,5,6,7,8,9,10],[0,1,2],[0,1,2,12],[0,1,2],[0,1,2],[0,1,2,15],[0,1,2,15,16],[0,1,2,14,15,16,17],[0,1,2,14,15,16,17,18],[0,1,2,14,15,16,17,18,19],[0,1,2,12,13,14,15,16,17,18,19,20],[0,1,2,3,4,5,6,7,8,9,10,11,12,13,14,15,16,17,18,19,20,21],[0,1,2,3,4,5,6,7,8,9,10,11,12,13,14,15,16,17,18,19,20,21,22]]) (sts:=[none,none,none]) (news:=[]) (sp:=((.v 87 _:Sp)::(.v 88 _)::(.v 89 _)::(.f 90 _)::(.f 91 _)::(.f 92 _)::(.f 93 _)::(.f 94 _)::(.f 95 _)::(.f 96 _)::(.f 97 _)::(.f 98 _)::(.f 99 _)::(.f 100 _)::(.f 101 _)::(.f 102 _)::(.f 103 _)::(.f 104 _)::(.f 105 _)::(.f 106 _)::(.f 107 _)::(.f 108 _)::(.f 109 _)::(.v 110 _)::[])) [.g 0,.g 1,.g 2,.g 3,.g 4,.g 5,.g 6,.g 7,.g 8,.g 9,.o 23] ae U (zM 8 G (zv G (d9 (vq 0 G) (aG 4294967296 G)) (zv G (ai (vq 1 G)) (zB 2 G (λ hg=>ai (gq 8 G)) (zB 2 G (λ hg=>ai (gq 3 G)) (zB 2 G (λ hg=>ai (gq 3 G)) (zB 2 G (λ hg=>d7 Tryz.underlying24 (ak (vq 5 G) hg)) (zB 2 G (λ hg=>c6 (ak (vq 6 G) hg) ab (HC zo)) (zB 2 G (λ hg=>cD b9 (ak (vq 4 G) hg) (ak (vq 7 G) hg) zo) (zB 2 G (λ hg=>cm (ak (vq 8 G) hg) (lz0 1 G) (gq 3 G) (nums_at' (yF zo)) aO) (zB 2 G (λ hg=>aK .u64 zk zk (ak (vq 9 G) hg) (wu64 bbl64)) (zB 2 G (λ hg=>iP (ak (vq 3 G) hg) (ak (vq 10 G) hg) (wmul64 (Bn (ge_no hg) bbl))) (zB 2 G (λ hg=>ai (gq 9 G)) (zB 2 G (λ hg=>sV (ak (vq 12 G) hg) (aG 32 G) zd (wshl32 hr)) (zB 2 G (λ hg=>ai (gq 7 G)) (zB 2 G (λ hg=>ai (gq 3 G)) (zB 2 G (λ hg=>d7 Tryz.underlying24 (ak (vq 15 G) hg)) (zB 2 G (λ hg=>c6 (ak (vq 16 G) hg) ab (HC zo)) (zB 2 G (λ hg=>cD b9 (ak (vq 14 G) hg) (ak (vq 17 G) hg) zo) (zB 2 G (λ hg=>cm (ak (vq 18 G) hg) (lz0 0 G) (gq 7 G) (nums_at' (hu k zo)) aO) (zB 2 G (λ hg=>aK .u64 zk zk (ak (vq 19 G) hg) (wu64 bbl64)) (zB 2 G (λ hg=>sX (ak (vq 13 G) hg) (ak (vq 20 G) hg) (or64 hr bbl)) (zB 2 G (λ hg=>ci (ak (vq 11 G) hg) (ak (vq 21 G) hg)) (zv G (r_or (vq 2 G) (vq 22 G)) o0)))))))))))))))))))))))) zk zk zk zk (zz [(6,_),(7,_),(37,_),(1,_),(8,_),(9,_),(10,_),(11,_),(13,_),(14,_),(110,_)] [⟨11,134,winH i (k+3) (x.length+1-i),_⟩,⟨1,134,slH (k+2) (k+3),_⟩,⟨8,134,slH _ _,_⟩] λ a w U=>?_)
   refine aa<|aj U (zm 10 G) (λ hb1=>?_) (λ hb1=>?_)
   ·have hlt:=hdown hgs (or_yes hb1)
    have hn0:0<n:=qT (zc _) hlt
    refine qh<|aa<|qj<|qb<|zg [η,η,η] [] [.v 111 _,.v 112 _,.v 13 _] [.g 0,.g 1,.g 2,.g 3,.g 4,.g 5,.g 6,.g 7,.g 9,.o 2] U (zM 8 G (zv G (c6 (vq 0 G) (aG 1 G) (wu64pred hn0 zo)) (zA 1 G o0))) (zz [(6,_),(7,_),(37,_),(1,_),(8,_),(9,_),(10,_),(11,_),(14,_),(13,_)] [⟨11,134,winH i (k+3) (x.length+1-i),_⟩,⟨1,134,slH (k+2) (k+3),_⟩,⟨8,134,slH _ _,_⟩] λ a w U=>?_)
    refine zt<|zg [η,η,η] [] [.v 113 _,.v 114 _,.v 115 _,.v 14 _] [.g 0,.g 1,.g 2,.g 3,.g 4,.g 5,.g 6,.g 7,.g 9,.o 3] U (zM 8 G (zM 5 G (zv G (aN (vq 0 G) (vq 1 G) (wadd64 zo)) (zA 2 G o0)))) (zz [(6,_),(7,_),(37,_),(1,_),(8,_),(9,_),(10,_),(11,_),(13,_),(14,_)] [⟨11,134,winH i (k+3) (x.length+1-i),_⟩,⟨1,134,slH (k+2) (k+3),_⟩,⟨8,134,slH _ _,_⟩] λ a w U=>?_)
    refine zt<|zg [η,η,η] [] [.v 116 _,.v 117 _] [.g 0,.g 1,.g 2,.g 3,.g 4,.g 5,.g 6,.g 7,.g 8,.g 9,.o 1] U (zM 9 G (zv G (d9 (vq 0 G) (aG 4294967296 G)) o0)) (zz [(6,_),(7,_),(37,_),(1,_),(8,_),(9,_),(10,_),(11,_),(13,_),(14,_),(117,_)] [⟨11,134,winH i (k+3) (x.length+1-i),_⟩,⟨1,134,slH (k+2) (k+3),_⟩,⟨8,134,slH _ _,_⟩] λ a w U=>?_)
    refine aa<|aj U (zm 10 G) (λ hb2=>?_) (λ hb2=>?_)
    ·refine qK<|blk_exit' zd ?_
     refine am<|aB<|aa ?_
     have U:=St.sel U [0,1,2,3,4,5,6,7,8]
     exact ⟨_,hend2 hgs hlt (ge_yes hb2),U⟩
    ·refine qh<|ap ?_
     refine aa ?_
     have U:=St.sel U [0,1,2,3,4,5,6,7,8,9]
     exact ⟨n-1,by omega,_,hgs.next hlt (ge_no hb2),U⟩
   ·obtain ⟨hq,hle⟩:=or_no hb1
    refine qK<|am<|am<|aB<|aa ?_
    have U:=St.sel U [0,1,2,3,4,5,6,7,8]
    exact ⟨_,⟨hq,hend1 hgs hq hle⟩,U⟩
  obtain ⟨q,⟨hq,hqq⟩,U⟩:=U
  refine zt<|qb<|zg [some (3,_),η,η] [] [.v 118 _,.v 119 _,.v 120 _,.cal 121 _ 0,.v 122 _] [.g 0,.g 1,.g 2,.g 3,.g 4,.g 5,.g 6,.g 7,.g 8,.o 4] U (zM 7 G (zM 3 G (zM 8 G (oc (FD (xs:=[.tmp 120]) G G G (less_c (dvL (x.length+1) X DD (i+1)) (digs (k+3) DD) i (k+2) (x.length+1-i) (k+3) q (bI _ _) (bI _ _) (by rw [az]; omega) (by rw [show (dvL (x.length+1) X DD (i+1)).length=x.length+1 from az _ _]; omega) zo hq) (arwE (vq 0 G) (gq 7 G)) (lz0 1 G) (Nat.ne_of_beq_eq_false G) (arwE (vq 1 G) (gq 3 G)) (.o (vq 2 G))) (zv G (dY (Gk 3 G zk zk)) o0))))) (zz [(6,_),(7,_),(37,_),(1,_),(8,_),(9,_),(10,_),(11,_),(13,_),(122,_)] [⟨11,134,winH i (k+3) (x.length+1-i),_⟩,⟨1,134,slH (k+2) (k+3),_⟩,⟨8,134,slH _ _,_⟩] λ a w U=>?_)
  refine aa<|aj U (zm 9 G) (λ hb3=>?_) (λ hb3=>?_)
  ·have hqd:q=Y/DD:=by
    rcases hqq with hqq | hqq
    ·exact hqq
    ·exfalso
     have:¬ _:=λ hh=>by rw [qC (hls.2 hh)] at hb3; exact Bool.noConfusion hb3
     exact this (hqq▸hyes)
   have U:=St.cvA U 0 rfl (qm (Nums .u32) (hno hqd))
   refine qb<|zg [η,η,some (5,_)] [] [.v 123 _,.v 124 _,.v 125 _,.v 126 _,.v 127 _,.sto 2] [.g 0,.g 1,.g 2,.g 3,.g 4,.g 5,.g 6,.g 7,.g 8] U (zM 4 G (zM 6 G (zM 8 G (zv G (aK .u32 zk zk (vq 2 G) (wu32 hq)) (zv G (cD b9 (vq 0 G) (vq 1 G) zo) (oc (fp G G G (vq 4 G) (gq 4 G) (vq 3 G) aO (br (by rw [yv zo]; omega))) o0)))))) (zz [(6,_),(7,_),(37,_),(1,_),(8,_),(9,_),(10,_),(11,_),(13,_)] [⟨11,134,winH i (k+3) (x.length+1-i),_⟩,⟨1,134,slH (k+2) (k+3),_⟩,⟨8,134,slH _ _,_⟩] λ a w U=>?_)
   refine aa<|qK<|am<|aB<|aa<|zg [η,η,η] [] [.v 56 _,.v 57 _,.v 10 _] [.g 0,.g 1,.g 2,.g 3,.g 4,.g 5,.g 7,.o 2] U (zM 6 G (zv G (c6 (vq 0 G) ab (wi64 zo zo)) (zA 1 G o0))) (zz [(6,_),(7,_),(37,_),(1,_),(8,_),(9,_),(11,_),(10,_)] [⟨11,134,winH i (k+3) (x.length+1-i),_⟩,⟨1,134,slH (k+2) (k+3),_⟩,⟨8,134,slH _ _,_⟩] λ a w U=>?_)
   have U:=St.swap (g:=g0) (s':=37) (H':=slH (x.length+1) (x.length+1)) U 0 rfl (zm 6 rfl) (zm 2 rfl) rfl
   refine aa ?_
   have U:=St.sel U [0,1,2,3,4,5,7]
   have U:=St.cvA (A':=Nums .u32 (dvQ (x.length+1-(k+2)) X DD i)) U 2 rfl (qm (Nums .u32) (by rw [qO,hqd,hdq]; exact sh zo))
   exact ⟨i,by omega,by omega,U⟩
  ·have hqd:q=Y/DD+1:=by
    rcases hqq with hqq | hqq
    ·exfalso
     have h1:¬ (Y<q*DD):=by rw [hqq]; have:=ji Y DD; omega
     rw [zb (λ hh=>h1 (hls.1 hh))] at hb3
     exact Bool.noConfusion hb3
    ·exact hqq
   obtain ⟨M,hM,hMl,hWl,hWok,hMe⟩:=hye hqd
   have U:=St.cvA U 0 rfl (qm (Nums .u32) hM)
   have hDok:okL ((digs (k+3) DD).take (k+2)):=mB (bI _ _) _
   refine qh<|zt<|zg [η,η,some (6,_)] [] [.v 128 _,.v 129 _,.v 130 _,.v 131 _,.v 132 _,.v 133 _,.sto 2] [.g 0,.g 1,.g 2,.g 3,.g 4,.g 5,.g 6,.g 7] U (zM 4 G (zM 6 G (zM 8 G (zv G (c6 (vq 2 G) (aG 1 G) (wu64pred zo zo)) (zv G (aK .u32 zk zk (vq 3 G) (wu32 zo)) (zv G (cD b9 (vq 0 G) (vq 1 G) zo) (oc (fp G G G (vq 5 G) (gq 4 G) (vq 4 G) aO (br (by rw [yv zo]; omega))) o0))))))) (zz [(6,_),(7,_),(37,_),(1,_),(8,_),(9,_),(10,_),(11,_)] [⟨11,134,winH i (k+3) (x.length+1-i),_⟩,⟨1,134,slH (k+2) (k+3),_⟩,⟨8,134,slH _ _,_⟩] λ a w U=>?_)
   refine zt<|zg [η,η,η] [] [.v 15 _] [.g 0,.g 1,.g 2,.g 3,.g 4,.g 5,.g 6,.g 7,.o 0] U (zv G (ac (aG 0 G)) o0) (zz [(6,_),(7,_),(37,_),(1,_),(8,_),(9,_),(10,_),(11,_),(15,_)] [⟨11,134,winH i (k+3) (x.length+1-i),_⟩,⟨1,134,slH (k+2) (k+3),_⟩,⟨8,134,slH _ _,_⟩] λ a w U=>?_)
   refine zt<|qb<|zg [η,η,η] [] [.v 134 _,.v 135 _,.v 136 _] [.g 0,.g 1,.g 2,.g 3,.g 4,.g 5,.g 6,.g 7,.g 8,.o 0,.o 1,.o 2] U (zM 3 G (zv G (d7 Tryz.underlying24 (vq 0 G)) (zv G (ai ab) o0))) (zz [(6,_),(7,_),(37,_),(1,_),(8,_),(9,_),(10,_),(11,_),(15,_),(134,_),(135,_),(136,_)] [⟨11,134,winH i (k+3) (x.length+1-i),_⟩,⟨1,134,slH (k+2) (k+3),_⟩,⟨8,134,slH _ _,_⟩] λ a w U=>?_)
   refine aa<|qj ?_
   have U:=St.sel U [0,1,2,3,4,5,6,7,9,10,11,8]
   refine wp_loop_ghost (λ n a w=>∃ j:Nat,n+j=k+2∧St B w0 200 [(6,(NumA .u64 (s:Nat)).va),(7,EqV ((slH (x.length+1) (x.length+1)).f g0)),(37,EqV ((slH (x.length+1) (x.length+1)).f g0)),(1,EqV ((slH (k+2) (k+3)).f g1)),(8,EqV ((slH (x.length+1-(k+2)) (x.length+1-(k+2))).f g2)),(9,(NumA .u64 (DD/4294967296^(k+1)%4294967296:Nat)).va),(10,In (i:Nat)),(11,EqV ((winH i (k+3) (x.length+1-i)).f g0)),(134,EqV ((slH (k+2) (k+3)).f g1)),(135,In ((k+2):Nat)),(136,In (j:Nat)),(15,(NumA .u32 (sumTo ((M.drop i).take (k+3)) ((digs (k+3) DD).take (k+2)) j/4294967296^j:Nat)).va)] [⟨11,134,winH i (k+3) (x.length+1-i),Nums .u32 (spl M i (digs j (sumTo ((M.drop i).take (k+3)) ((digs (k+3) DD).take (k+2)) j)))⟩,⟨1,134,slH (k+2) (k+3),Nums .u32 (digs (k+3) DD)⟩,⟨8,134,slH (x.length+1-(k+2)) (x.length+1-(k+2)),Nums .u32 ((dvQ (x.length+1-(k+2)) X DD (i+1)).set (0+i) (q-1))⟩] a w) (k+2) ?_ ?_
   ·exact ⟨0,by omega,by rw [show ∀ m,digs 0 m=[] from λ _=>rfl,oS,eO,show (0:Nat)/4294967296^0=0 from rfl]; exact U⟩
   intro n a w hI
   obtain ⟨j,hn,U⟩:=hI
   refine qb<|zg [η,η,η] [] [.v 137 _] [.g 0,.g 1,.g 2,.g 3,.g 4,.g 5,.g 6,.g 7,.g 8,.g 9,.g 10,.g 11,.o 0] U (zv G (aS (gq 10 G) (gq 9 G)) o0) (zz [(6,_),(7,_),(37,_),(1,_),(8,_),(9,_),(10,_),(11,_),(134,_),(135,_),(136,_),(15,_),(137,_)] [⟨11,134,winH i (k+3) (x.length+1-i),_⟩,⟨1,134,slH (k+2) (k+3),_⟩,⟨8,134,slH _ _,_⟩] λ a w U=>?_)
   refine zt<|aj U (zm 12 G) (λ hb4=>?_) (λ hb4=>?_)
   ·have hj:j<k+2:=by simp at hb4; omega
    have hwx:(spl M i (digs j (sumTo ((M.drop i).take (k+3)) ((digs (k+3) DD).take (k+2)) j)))[i+j]?=some ((((M.drop i).take (k+3))).getD j 0):=by rw [ib zo,iI (by rw [az]; omega) zo]
    have hdx:(digs (k+3) DD)[0+j]?=some ((((digs (k+3) DD).take (k+2))).getD j 0):=by rw [nG hj,qO]; exact getD_some (by rw [az]; omega)
    have hcy:sumTo ((M.drop i).take (k+3)) ((digs (k+3) DD).take (k+2)) j/4294967296^j<4294967296:=qT (en hWok hDok _) zd
    have hsl:(spl M i (digs j (sumTo ((M.drop i).take (k+3)) ((digs (k+3) DD).take (k+2)) j))).length=x.length+1:=by rw [gx (by rw [az]; omega),hMl]
    refine qh<|zt<|qj<|qb<|zg [η,η,η] [] [.v 138 _,.v 139 _,.v 140 _,.v 16 _,.v 17 _] [.g 0,.g 1,.g 2,.g 3,.g 4,.g 5,.g 6,.g 7,.g 8,.g 9,.g 10,.g 11,.o 3,.o 4] U (zM 10 G (zv G (cD b9 (gq 8 G) (gq 10 G) zo) (zv G (cm (vq 1 G) (lz0 1 G) (gq 3 G) (nums_at' hdx) aO) (zA 0 G (zA 2 G o0))))) (zz [(6,_),(7,_),(37,_),(1,_),(8,_),(9,_),(10,_),(11,_),(134,_),(135,_),(136,_),(15,_),(16,_),(17,_)] [⟨11,134,winH i (k+3) (x.length+1-i),_⟩,⟨1,134,slH (k+2) (k+3),_⟩,⟨8,134,slH _ _,_⟩] λ a w U=>?_)
    refine aa<|zg [some (13,_),η,η] [] [.v 142 _,.v 143 _,.v 144 _,.v 145 _,.v 146 _,.v 147 _,.v 148 _,.v 149 _,.v 150 _,.v 141 _,.v 151 _,.v 152 _,.v 153 _,.sto 0,.v 15 _] [.g 0,.g 1,.g 2,.g 3,.g 4,.g 5,.g 6,.g 7,.g 8,.g 9,.g 10,.o 14] U (zM 7 G (zM 12 G (zM 7 G (zM 12 G (zv G (cD b9 (vq 2 G) (vq 3 G) zo) (zv G (cm (vq 4 G) (lz0 0 G) (gq 7 G) (nums_at' hwx) aO) (zM 13 G (zM 11 G (zQ G (lu (iZ hWok _) (iZ hDok _) hcy) (.cons (vq 5 G) (.p (vq 6 G) (vq 7 G))) (zv G (ai (vq 8 G)) (zv G (aQ (vq 9 G) G) (zv G (aQ (vq 9 G) G) (zv G (cD b9 (vq 0 G) (vq 1 G) zo) (oc (fp G G G (vq 12 G) (gq 7 G) (vq 10 G) aO (br zo)) (zA 11 G o0))))))))))))))) (zz [(6,_),(7,_),(37,_),(1,_),(8,_),(9,_),(10,_),(11,_),(134,_),(135,_),(136,_),(15,_)] [⟨11,134,winH i (k+3) (x.length+1-i),_⟩,⟨1,134,slH (k+2) (k+3),_⟩,⟨8,134,slH _ _,_⟩] λ a w U=>?_)
    refine ap ?_
    refine aa<|zg [η,η,η] [] [.v 154 _,.v 136 _] [.g 0,.g 1,.g 2,.g 3,.g 4,.g 5,.g 6,.g 7,.g 8,.g 9,.g 11,.o 1] U (zv G (aN (gq 10 G) ab (ba zo)) (zv G (ai (vq 0 G)) o0)) (zz [(6,_),(7,_),(37,_),(1,_),(8,_),(9,_),(10,_),(11,_),(134,_),(135,_),(15,_),(136,_)] [⟨11,134,winH i (k+3) (x.length+1-i),_⟩,⟨1,134,slH (k+2) (k+3),_⟩,⟨8,134,slH _ _,_⟩] λ a w U=>?_)
    refine aa ?_
    have U:=St.sel U [0,1,2,3,4,5,6,7,8,9,11,10]
    rw [iH (az _ _) zo,Ht zo,CO zo] at U
    exact ⟨n-1,by omega,j+1,by omega,U⟩
   ·obtain rfl:j=k+2:=by simp at hb4; omega
    have hwx:(spl M i (digs (k+2) (sumTo ((M.drop i).take (k+3)) ((digs (k+3) DD).take (k+2)) (k+2))))[i+(k+2)]?=some ((((M.drop i).take (k+3))).getD (k+2) 0):=by rw [ib zo,iI (by rw [az]; omega) zo]
    have hsl:(spl M i (digs (k+2) (sumTo ((M.drop i).take (k+3)) ((digs (k+3) DD).take (k+2)) (k+2)))).length=x.length+1:=by rw [gx (by rw [az]; omega),hMl]
    refine qK<|am<|am<|aB<|aa<|zg [some (8,_),η,η] [] [.v 155 _,.v 156 _,.v 157 _,.v 158 _,.v 159 _,.v 160 _,.v 161 _,.v 162 _,.sto 0] [.g 0,.g 1,.g 2,.g 3,.g 4,.g 5,.g 6,.g 7] U (zM 7 G (zM 3 G (zv G (d7 Tryz.underlying24 (vq 1 G)) (zv G (cD b9 (vq 0 G) (vq 2 G) zo) (zv G (cm (vq 3 G) (lz0 0 G) (gq 7 G) (nums_at' hwx) aO) (zM 11 G (zv G (aN (vq 4 G) (vq 5 G) (wu32')) (zv G (cD b9 (vq 0 G) (vq 2 G) zo) (oc (fp G G G (vq 7 G) (gq 7 G) (vq 6 G) aO (br zo)) o0))))))))) (zz [(6,_),(7,_),(37,_),(1,_),(8,_),(9,_),(10,_),(11,_)] [⟨11,134,winH i (k+3) (x.length+1-i),_⟩,⟨1,134,slH (k+2) (k+3),_⟩,⟨8,134,slH _ _,_⟩] λ a w U=>?_)
    refine ap ?_
    refine aa<|zg [η,η,η] [] [.v 56 _,.v 57 _,.v 10 _] [.g 0,.g 1,.g 2,.g 3,.g 4,.g 5,.g 7,.o 2] U (zM 6 G (zv G (c6 (vq 0 G) ab (wi64 zo zo)) (zA 1 G o0))) (zz [(6,_),(7,_),(37,_),(1,_),(8,_),(9,_),(11,_),(10,_)] [⟨11,134,winH i (k+3) (x.length+1-i),_⟩,⟨1,134,slH (k+2) (k+3),_⟩,⟨8,134,slH _ _,_⟩] λ a w U=>?_)
    have U:=St.swap (g:=g0) (s':=37) (H':=slH (x.length+1) (x.length+1)) U 0 rfl (zm 6 rfl) (zm 2 rfl) rfl
    refine aa ?_
    have U:=St.sel U [0,1,2,3,4,5,7]
    have U:=St.cvA (A':=Nums .u32 (dvL (x.length+1) X DD i)) U 0 rfl (qm (Nums .u32) (by rw [iH (az _ _) zo]; exact hMe))
    have U:=St.cvA (A':=Nums .u32 (dvQ (x.length+1-(k+2)) X DD i)) U 2 rfl (qm (Nums .u32) (by rw [qO,hqd,xX,hdq]; exact sh zo))
    exact ⟨i,by omega,by omega,U⟩
 ·obtain rfl:n=0:=by simp at hb0; omega
  refine qK<|am<|am<|aB<|zt<|zg [η,η,η] [] [.v 163 _,.v 164 _,.v 165 _,.v 166 _,.v 7 _] [.g 0,.g 2,.g 3,.g 4,.o 4] U (zM 1 G (zM 3 G (zv G (d7 Tryz.underlying24 (vq 1 G)) (zv G (uT b9 (vq 0 G) (vq 2 G) zo) (zA 3 G o0))))) (zz [(6,_),(37,_),(1,_),(8,_),(7,_)] [⟨37,134,slH (x.length+1) (x.length+1),_⟩,⟨1,134,slH (k+2) (k+3),_⟩,⟨8,134,slH _ _,_⟩] λ a w U=>?_)
  refine zt<|qb<|zg [η,η,η] [] [.v 167 _,.v 168 _,.v 169 _] [.g 0,.g 1,.g 2,.g 3,.g 4,.o 1,.o 2] U (zM 4 G (zv G (d7 Tryz.underlying24 (vq 0 G)) (zv G (ai ab) o0))) (zz [(6,_),(37,_),(1,_),(8,_),(7,_),(168,_),(169,_)] [⟨37,134,slH (x.length+1) (x.length+1),_⟩,⟨1,134,slH (k+2) (k+3),_⟩,⟨8,134,slH _ _,_⟩] λ a w U=>?_)
  refine aa<|qj ?_
  have U:=St.sel U [0,4,1,3,5,6]
  refine wp_loop_ghost (λ n a w=>∃ j:Nat,n+j=k+2∧St B w0 200 [(6,(NumA .u64 (s:Nat)).va),(7,EqV ((slH (k+2) (x.length+1)).f g0)),(37,EqV ((slH (x.length+1) (x.length+1)).f g0)),(8,EqV ((slH (x.length+1-(k+2)) (x.length+1-(k+2))).f g2)),(168,In ((k+2):Nat)),(169,In (j:Nat))] [⟨37,134,slH (x.length+1) (x.length+1),Nums .u32 (dvF (x.length+1) R s j)⟩,⟨1,134,slH (k+2) (k+3),Nums .u32 (digs (k+3) DD)⟩,⟨8,134,slH (x.length+1-(k+2)) (x.length+1-(k+2)),Nums .u32 (dvQ (x.length+1-(k+2)) X DD 0)⟩] a w) (k+2) ?_ ?_
  ·exact ⟨0,by omega,by rw [Ce,hR]; exact U⟩
  intro n a w hI
  obtain ⟨j,hn,U⟩:=hI
  refine qb<|zg [η,η,η] [] [.v 170 _] [.g 0,.g 1,.g 2,.g 3,.g 4,.g 5,.o 0] U (zv G (aS (gq 5 G) (gq 4 G)) o0) (zz [(6,_),(7,_),(37,_),(8,_),(168,_),(169,_),(170,_)] [⟨37,134,slH (x.length+1) (x.length+1),_⟩,⟨1,134,slH (k+2) (k+3),_⟩,⟨8,134,slH _ _,_⟩] λ a w U=>?_)
  refine zt<|aj U (zm 6 G) (λ hb5=>?_) (λ hb5=>?_)
  ·have hj:j<k+2:=by simp at hb5; omega
   have hf0:(dvF (x.length+1) R s j)[0+j]?=some (R/4294967296^j%4294967296):=by rw [qO]; exact yw (qi _) zo
   refine qh<|zt<|qj<|qb<|zg [η,η,η] [] [.v 171 _,.v 18 _] [.g 0,.g 1,.g 2,.g 3,.g 4,.g 5,.o 1] U (zM 5 G (zA 0 G o0)) (zz [(6,_),(7,_),(37,_),(8,_),(168,_),(169,_),(18,_)] [⟨37,134,slH (x.length+1) (x.length+1),_⟩,⟨1,134,slH (k+2) (k+3),_⟩,⟨8,134,slH _ _,_⟩] λ a w U=>?_)
   refine zt<|zg [η,η,η] [] [.v 19 _] [.g 0,.g 1,.g 2,.g 3,.g 4,.g 5,.g 6,.o 0] U (zv G (ac (aG 0 G)) o0) (zz [(6,_),(7,_),(37,_),(8,_),(168,_),(169,_),(18,_),(19,_)] [⟨37,134,slH (x.length+1) (x.length+1),_⟩,⟨1,134,slH (k+2) (k+3),_⟩,⟨8,134,slH _ _,_⟩] λ a w U=>?_)
   refine zt<|qb<|zg [η,η,η] [] [.v 172 _,.v 173 _,.v 174 _,.v 175 _,.v 176 _] [.g 0,.g 1,.g 2,.g 3,.g 4,.g 5,.g 6,.g 7,.o 4] U (zM 6 G (zv G (aN (vq 0 G) ab (ba zo)) (zM 1 G (zv G (d7 Tryz.underlying24 (vq 2 G)) (zv G (aS (vq 1 G) (vq 3 G)) o0))))) (zz [(6,_),(7,_),(37,_),(8,_),(168,_),(169,_),(18,_),(19,_),(176,_)] [⟨37,134,slH (x.length+1) (x.length+1),_⟩,⟨1,134,slH (k+2) (k+3),_⟩,⟨8,134,slH _ _,_⟩] λ a w U=>?_)
   refine aa<|bE (λ a w =>  St B w0 200 [(6,(NumA .u64 (s:Nat)).va),(7,EqV ((slH (k+2) (x.length+1)).f g0)),(37,EqV ((slH (x.length+1) (x.length+1)).f g0)),(8,EqV ((slH (x.length+1-(k+2)) (x.length+1-(k+2))).f g2)),(168,In ((k+2):Nat)),(169,In (j:Nat)),(18,In (j:Nat)),(19,(NumA .u32 (R/4294967296^(j+1)%4294967296:Nat)).va)] [⟨37,134,slH (x.length+1) (x.length+1),Nums .u32 (dvF (x.length+1) R s j)⟩,⟨1,134,slH (k+2) (k+3),Nums .u32 (digs (k+3) DD)⟩,⟨8,134,slH (x.length+1-(k+2)) (x.length+1-(k+2)),Nums .u32 (dvQ (x.length+1-(k+2)) X DD 0)⟩] a w) U (zm 8 G) (λ hb6=>?_) (λ hb6=>?_) (λ a w U=>?_)
   ·have hj1:j+1<k+2:=by simp at hb6; omega
    have hf1:(dvF (x.length+1) R s j)[0+(j+1)]?=some (R/4294967296^(j+1)%4294967296):=by rw [qO]; exact yw zo zo
    refine zg [η,η,η] [] [.v 177 _,.v 178 _,.v 179 _,.v 180 _,.v 181 _,.v 19 _] [.g 0,.g 1,.g 2,.g 3,.g 4,.g 5,.g 6,.o 5] U (zM 1 G (zM 6 G (zv G (aN (vq 1 G) ab (ba zo)) (zv G (cD b9 (vq 0 G) (vq 2 G) zo) (zv G (cm (vq 3 G) (lz0 0 G) (gq 2 G) (nums_at' hf1) aO) (zA 4 G o0)))))) (zz [(6,_),(7,_),(37,_),(8,_),(168,_),(169,_),(18,_),(19,_)] [⟨37,134,slH (x.length+1) (x.length+1),_⟩,⟨1,134,slH (k+2) (k+3),_⟩,⟨8,134,slH _ _,_⟩] λ a w U=>?_)
    refine aa ?_
    have U:=St.sel U [0,1,2,3,4,5,6,7]
    exact U
   ·have hj1:j+1=k+2:=by simp at hb6; omega
    refine qh<|aa ?_
    have U:=St.sel U [0,1,2,3,4,5,6,7]
    rw [hj1,hR0]; exact U
   refine aa<|zg [some (15,_),η,η] [] [.v 182 _,.v 183 _,.v 184 _,.v 185 _,.v 186 _,.v 187 _,.v 188 _,.v 189 _,.v 190 _,.v 191 _,.v 192 _,.v 193 _,.v 194 _,.v 195 _,.v 196 _,.sto 0] [.g 0,.g 1,.g 2,.g 3,.g 4,.g 5] U (zM 1 G (zM 6 G (zM 7 G (zv G (aK .u64 zk zk (vq 2 G) (wu64 bbl64)) (zv G (sV (vq 3 G) (aG 32 G) zd (wshl32 bbl)) (zM 1 G (zM 6 G (zv G (cD b9 (vq 5 G) (vq 6 G) zo) (zv G (cm (vq 7 G) (lz0 0 G) (gq 2 G) (nums_at' hf0) aO) (zv G (aK .u64 zk zk (vq 8 G) (wu64 bbl64)) (zv G (sX (vq 4 G) (vq 9 G) (or64 bbl bbl)) (zM 0 G (zv G (i7 (vq 10 G) (vq 11 G) (⟨by omega,by show (s:Int)≤64; omega⟩) (nshr)) (zv G (aK .u32 zk zk (vq 12 G) (wlow)) (zv G (cD b9 (vq 0 G) (vq 1 G) zo) (oc (fp G G G (vq 14 G) (gq 2 G) (vq 13 G) aO (br (by rw [GK zo]; omega))) o0)))))))))))))))) (zz [(6,_),(7,_),(37,_),(8,_),(168,_),(169,_)] [⟨37,134,slH (x.length+1) (x.length+1),_⟩,⟨1,134,slH (k+2) (k+3),_⟩,⟨8,134,slH _ _,_⟩] λ a w U=>?_)
   refine ap ?_
   refine aa<|zg [η,η,η] [] [.v 197 _,.v 169 _] [.g 0,.g 1,.g 2,.g 3,.g 4,.o 1] U (zv G (aN (gq 5 G) ab (ba zo)) (zv G (ai (vq 0 G)) o0)) (zz [(6,_),(7,_),(37,_),(8,_),(168,_),(169,_)] [⟨37,134,slH (x.length+1) (x.length+1),_⟩,⟨1,134,slH (k+2) (k+3),_⟩,⟨8,134,slH _ _,_⟩] λ a w U=>?_)
   refine aa ?_
   have U:=St.sel U [0,1,2,3,4,5]
   rw [qO,Cf hs32 zo] at U
   exact ⟨n-1,by omega,j+1,by omega,U⟩
  ·obtain rfl:j=k+2:=by simp at hb5; omega
   refine qK<|am<|am<|aB<|zt<|zg [η,η,η] [] [.v 198 _,.v 199 _,.v 4 _,.v 5 _] [.g 1,.g 2,.g 3,.o 2,.o 3] U (zM 3 G (zM 1 G (zA 0 G (zA 1 G o0)))) (zz [(7,_),(37,_),(8,_),(4,_),(5,_)] [⟨37,134,slH (x.length+1) (x.length+1),_⟩,⟨1,134,slH (k+2) (k+3),_⟩,⟨8,134,slH _ _,_⟩] λ a w U=>?_)
   have U:=St.asN (t:=4) U (digs (x.length+1-(k+2)) (val x/val y)) [] 2 rfl (zm 2 rfl) (zm 3 rfl) (by rw [hend4,zj]) (az _ _).symm (by unfold maxLen; omega) (bI _ _) (by simp only [qB,xy,az] <;> omega)
   have U:=St.asN (t:=5) U (digs (k+2) (val x%val y)) ((digs (x.length+1) R).drop (k+2)) 0 rfl (zm 2 rfl) (zm 5 rfl) (by rw [GL,hend5]) (az _ _).symm (by unfold maxLen; omega) (bI _ _) (by simp only [qB,je,az] <;> omega)
   refine aa<|qg<|iK ?_
   exact bf (rs:=[.tmp 4,.tmp 5]) G U (.tmp (zm 1 G) (.tmp (zm 0 G) .nil)) zd
end Go.Proofs.YtedfcalhhldijaaGreatDoor
