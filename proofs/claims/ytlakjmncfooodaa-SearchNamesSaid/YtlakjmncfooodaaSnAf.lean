import Derived.Test.YtlakjmncfooodaaSnAe
set_option linter.all false
set_option maxRecDepth 100000
namespace Go.Proofs.Ytlakjmncfooodaa
open Go Go.RowKit
variable {w:World}{B:Nat}{a:Act}{v:Value}{T:TypeId}{w0:Bs}{Γ:List (Nat × VA)}{Λ:List Lc}{ps:String}{af:Array Edge}{vr:Value}{H:Hd}{cs:List Value}{w':World}{P:Program}{D:List TypeId}
theorem iD:∀ {l:List Nat} {j x:Nat} (h:j<l.length),val (l.set j x)+4294967296^j*l[j]=val l+4294967296^j*x
 | [],j,x,h=>by simp at h
 | y::ys,0,x,_=>by simp [val]; omega
 | y::ys,j+1,x,h=>by
  have:=iD (l:=ys) (j:=j) (x:=x) (by simpa using h)
  simp only [List.set_cons_succ,val,List.getElem_cons_succ,qR]
  have e:∀ z,4294967296^j*4294967296*z=4294967296*(4294967296^j*z):=λ z=>by rw [qK (4294967296^j),qC]
  rw [e,e]
  omega
theorem okL_set {l:List Nat}(h:okL l)(j:Nat){x:Nat}(hx:x<4294967296):okL (l.set j x):=λ y hy=>by
 rcases qI hy with h1 | h1
 ·exact h y h1
 ·subst h1; exact hx
structure MulO (a b L:List Nat) (i:Nat):Prop where
 len:L.length=a.length+b.length
 ok:okL L
 vl:val L=val (a.take i)*val b
 zero:∀ j,i+b.length≤j→L.getD j 0=0
structure MulI (a b L:List Nat) (i u k c:Nat):Prop where
 len:L.length=a.length+b.length
 ok:okL L
 cl:c<4294967296
 vl:val L+c*4294967296^(i+k)=val (a.take i)*val b+4294967296^i*(u*val (b.take k))
 zero:∀ j,i+b.length≤j→L.getD j 0=0
theorem MulO.start (a b:List Nat):MulO a b (List.replicate (a.length+b.length) 0) 0:=⟨by simp,λ x hx=>by rw [(jO.1 hx).2]; decide,by simp [val_zeros],λ j _=>by rw [List.getD_eq_getElem?_getD,List.getElem?_replicate]; split <;> rfl⟩
theorem MulO.row {a b L:List Nat}{i:Nat}(h:MulO a b L i)(u:Nat):MulI a b L i u 0 0:=⟨h.len,h.ok,by decide,by rw [h.vl]; simp,h.zero⟩
theorem mul_lt {u v c l:Nat}(hu:u<4294967296)(hv:v<4294967296)(hc:c<4294967296)(hl:l<4294967296):c+(u*v+l)<18446744073709551616:=by
 have:u*v≤4294967295*4294967295:=xj zo zo
 omega
theorem mul_alg {V V' W Z p q r u x y c t B d m:Nat}(hp:p=q*r)(ht:t=c+(u*x+y))(hd:B*d+m=t)(h2:V'+p*y=V+p*m)(h3:V+c*p=W+q*(u*Z)):V'+d*(p*B)=W+q*(u*(Z+r*x)):=by
 grind
theorem MulI.step {a b L:List Nat}{i u k c:Nat}(h:MulI a b L i u k c)(hb:okL b)(hu:u<4294967296)(hk:k<b.length)(hj:i+k<L.length) :
  MulI a b (L.set (i+k) ((c+(u*b[k]+L[i+k]))%4294967296)) i u (k+1) ((c+(u*b[k]+L[i+k]))/4294967296):=by
 have h1:=mul_lt hu (hb _ (qg hk)) h.cl (h.ok _ (qg hj))
 refine ⟨by rw [xv,h.len],okL_set h.ok _ (qO _ zd),zb h1,?_,λ j hj'=>?_⟩
 ·have h2:=iD (x:=(c+(u*b[k]+L[i+k]))%4294967296) hj
  have h3:=h.vl
  rw [aH hk,show i+(k+1)=(i+k)+1 from rfl,qR]
  exact mul_alg (zq _ _ _) G (xN _ _) h2 h3
 ·have:=h.zero j hj'
  rw [List.getD_eq_getElem?_getD,List.getElem?_set_ne zo,← List.getD_eq_getElem?_getD]
  exact this
theorem MulI.done {a b L:List Nat}{i u c:Nat}(h:MulI a b L i u b.length c)(hi:i<a.length)(hu:a[i]=u):MulO a b (L.set (i+b.length) c) (i+1):=by
 have hj:i+b.length<L.length:=by rw [h.len]; omega
 have h1:=iD (x:=c) hj
 have h2:=h.vl
 have h3:L[i+b.length]=0:=by have:=h.zero _ (qf _); rwa [cS hj] at this
 rw [h3,Nat.mul_zero,xJ] at h1
 rw [qA (qf _)] at h2
 refine ⟨by rw [xv,h.len],okL_set h.ok _ h.cl,?_,λ j hj'=>?_⟩
 ·rw [h1,qK _ c,h2,aH hi,hu,xh,qC]
 ·rw [List.getD_eq_getElem?_getD,List.getElem?_set_ne zo,← List.getD_eq_getElem?_getD]
  exact h.zero j zo
theorem MulO.fin {a b L:List Nat}(h:MulO a b L a.length):L=digs (a.length+b.length) (val a*val b):=fv h.ok h.len (by rw [h.vl,qN])
theorem times_c (x y:RI)(hxs:x.mag.length≤1099511627776)(hys:y.mag.length≤1099511627776):Cn Try.prog 47 [(RIA x).va,(RIA y).va] ((RIN (rsig (x.neg != y.neg) (digs (x.mag.length+y.mag.length) (val x.mag*val y.mag)))).va):=by
 refine Cn.introW Try.func47 G zk nq (.cons (up_ri _).va (.cons (up_ri _).va .nil)) (cG _).va (λ B w0 a hB0 U=>?_)
 have U:=zn [(0,(RIO x).va),(1,(RIO y).va)] [] U
 refine qb<|zg [] [⟨2,25,ptrH,some 0,_,none⟩,⟨3,25,ptrH,some 1,_,none⟩,⟨4,25,ptrH,some 2,_,none⟩] [.alc 0,.alc 1,.alc 2] [] U (zW 0 G (zW 1 G (zY G (Str.zero gc) o0))) (zz [] [O 2 25 _,O 3 25 _,O 4 25 _] λ a w U=>?_)
 refine zt<|zgd [[],[0],[],[2],[0,1],[0,1,2,3,4]] [none,none,none] [] [.adr 13 2 (.some 1) True,.v 14 _,.adr 15 3 (.some 1) True,.v 16 _,.v 5 _,.v 6 _] [.o 4,.o 5] a8 U (zO 0 G aq (zL 0 0 1 G bm (zO 1 G aq (zL 2 1 1 G bm (zA 1 G (zA 3 G o0)))))) zk zk zk zk (zz [(5,_),(6,_)] [O 2 25 _,O 3 25 _,O 4 25 _] λ a w U=>?_)
 refine zt<|cR (sts:=[none,none,none]) (news:=[⟨22,94,slH _ _,some 5,_,none⟩]) (sp:=[.v 17 _,.v 18 _,.v 19 _,.v 20 _,.v 21 _,.alc 3,.adr 7 22 .none True]) [.g 0,.g 1] [(7,22)] [O 2 25 _,O 3 25 _,O 4 25 _,⟨7,94,slH _ _,_⟩] U (zM 0 G (zv G (aG Try.underlying23 (ap (vq 0 G))) (zM 1 G (zv G (aG Try.underlying23 (ap (vq 2 G))) (zv G (aU (vq 1 G) (vq 3 G) (gU zo)) (oc (ez G G G fQ (vq 4 G) (vq 4 G) zo) (oc (ob_a G G ko) o0))))))) zk zk zk ⟨⟨6,rfl⟩,trivial⟩ G zk (zz [(5,_),(6,_)] [O 2 25 _,O 3 25 _,O 4 25 _,⟨7,94,slH _ _,_⟩] λ a w U=>?_)
 refine zt<|qb<|zg [η,η,η,η] [] [.v 23 _,.v 24 _,.v 25 _] [.g 1,.o 0,.o 1,.o 2] U (zM 0 G (zv G (aG Try.underlying23 (ap (vq 0 G))) (zv G (a7 a5) o0))) (zz [(6,_),(23,_),(24,_),(25,_)] [O 2 25 _,O 3 25 _,O 4 25 _,⟨7,94,slH _ _,_⟩] λ a w U=>?_)
 refine a4<|qt ?_
 have U:=St.sel U [0,1,2,3]
 refine wp_loop_ghost (λ n a w=>∃ (i:Nat) (L:List Nat),n+i=x.mag.length∧MulO x.mag y.mag L i∧St B w0 78 [(6,(MgO y.mag).va),(23,(MgO x.mag).va),(24,In (x.mag.length:Nat)),(25,In (i:Nat))] [⟨2,25,ptrH,RIO x⟩,⟨3,25,ptrH,RIO y⟩,⟨4,25,ptrH,cat [BoA false,MgO []]⟩,⟨7,94,slH (x.mag.length+y.mag.length) (x.mag.length+y.mag.length),Nums .u32 L⟩] a w) (x.mag.length) ?_ ?_
 ·exact ⟨0,_,by omega,MulO.start _ _,U⟩
 intro n a w hI
 obtain ⟨i,L,hn,hO,U⟩:=hI; obtain ⟨n1,hn1⟩:∃ n1,n1=n:=⟨n,rfl⟩; have hb:=(U.magO 0 rfl).1; have ha:=(U.magO 1 rfl).1; have hlen:=hO.len
 refine qb<|zg [η,η,η,η] [] [.v 26 _] [.g 0,.g 1,.g 2,.g 3,.o 0] U (zv G (aY (gq 3 G) (gq 2 G)) o0) (zz [(6,_),(23,_),(24,_),(25,_),(26,_)] [O 2 25 _,O 3 25 _,O 4 25 _,⟨7,94,slH _ _,_⟩] λ a w U=>?_)
 refine zt<|aa U (zm 4 G) (λ hb0=>?_) (λ hb0=>?_)
 ·have hi:i<x.mag.length:=by simp at hb0; omega
  refine qk<|zt<|qt<|qb<|zg [η,η,η,η] [] [.v 27 _,.v 28 _,.v 29 _,.v 8 _,.v 9 _] [.g 0,.g 1,.g 2,.g 3,.o 3,.o 4] U (zM 3 G (zv G (bI aN (ap (gq 1 G)) (gq 3 G) zo) (zv G (al (vq 1 G) aT) (zA 0 G (zA 2 G o0))))) (zz [(6,_),(23,_),(24,_),(25,_),(8,_),(9,_)] [O 2 25 _,O 3 25 _,O 4 25 _,⟨7,94,slH _ _,_⟩] λ a w U=>?_)
  refine zt<|zg [η,η,η,η] [] [.v 10 _] [.g 0,.g 1,.g 2,.g 3,.g 4,.g 5,.o 0] U (zv G (a6 (aB 0 G)) o0) (zz [(6,_),(23,_),(24,_),(25,_),(8,_),(9,_),(10,_)] [O 2 25 _,O 3 25 _,O 4 25 _,⟨7,94,slH _ _,_⟩] λ a w U=>?_)
  refine zt<|qb<|zg [η,η,η,η] [] [.v 30 _,.v 31 _,.v 32 _] [.g 0,.g 1,.g 2,.g 3,.g 4,.g 5,.g 6,.o 0,.o 1,.o 2] U (zM 0 G (zv G (aG Try.underlying23 (ap (vq 0 G))) (zv G (a7 a5) o0))) (zz [(6,_),(23,_),(24,_),(25,_),(8,_),(9,_),(10,_),(30,_),(31,_),(32,_)] [O 2 25 _,O 3 25 _,O 4 25 _,⟨7,94,slH _ _,_⟩] λ a w U=>?_)
  refine a4<|qt ?_
  have U:=St.sel U [0,1,2,3,4,5,6,7,8,9]
  refine wp_loop_ghost (λ n a w=>∃ (k c:Nat) (L:List Nat),n+k=y.mag.length∧MulI x.mag y.mag L i x.mag[i] k c∧St B w0 78 [(6,(MgO y.mag).va),(23,(MgO x.mag).va),(24,In (x.mag.length:Nat)),(25,In (i:Nat)),(8,In (i:Nat)),(9,(NumA .u32 (x.mag[i]:Nat)).va),(10,(NumA .u64 (c:Nat)).va),(30,(MgO y.mag).va),(31,In (y.mag.length:Nat)),(32,In (k:Nat))] [⟨2,25,ptrH,RIO x⟩,⟨3,25,ptrH,RIO y⟩,⟨4,25,ptrH,cat [BoA false,MgO []]⟩,⟨7,94,slH (x.mag.length+y.mag.length) (x.mag.length+y.mag.length),Nums .u32 L⟩] a w) (y.mag.length) ?_ ?_
  ·exact ⟨0,0,L,by omega,hO.row _,U⟩
  intro n a w hI
  clear hlen hO; obtain ⟨k,c,L,hn2,hI,U⟩:=hI; have hlen:=hI.len; have hc:=hI.cl
  refine qb<|zg [η,η,η,η] [] [.v 33 _] [.g 0,.g 1,.g 2,.g 3,.g 4,.g 5,.g 6,.g 7,.g 8,.g 9,.o 0] U (zv G (aY (gq 9 G) (gq 8 G)) o0) (zz [(6,_),(23,_),(24,_),(25,_),(8,_),(9,_),(10,_),(30,_),(31,_),(32,_),(33,_)] [O 2 25 _,O 3 25 _,O 4 25 _,⟨7,94,slH _ _,_⟩] λ a w U=>?_)
  refine zt<|aa U (zm 10 G) (λ hb1=>?_) (λ hb1=>?_)
  ·have hk:k<y.mag.length:=by simp at hb1; omega
   refine qk<|zt<|qt<|qb<|zg [η,η,η,η] [] [.v 34 _,.v 35 _,.v 36 _,.v 11 _,.v 12 _] [.g 0,.g 1,.g 2,.g 3,.g 4,.g 5,.g 6,.g 7,.g 8,.g 9,.o 3,.o 4] U (zM 9 G (zv G (bI aN (ap (gq 7 G)) (gq 9 G) zo) (zv G (al (vq 1 G) aT) (zA 0 G (zA 2 G o0))))) (zz [(6,_),(23,_),(24,_),(25,_),(8,_),(9,_),(10,_),(30,_),(31,_),(32,_),(11,_),(12,_)] [O 2 25 _,O 3 25 _,O 4 25 _,⟨7,94,slH _ _,_⟩] λ a w U=>?_)
   refine zt<|zg [η,η,η,η] [] [.v 37 _,.v 38 _,.v 39 _,.v 40 _,.v 41 _,.v 42 _,.adr 43 7 .none True,.v 44 _,.v 45 _,.v 46 _,.adr 47 7 (.some _) True,.v 48 _,.v 49 _,.v 50 _,.v 51 _,.v 10 _] [.g 0,.g 1,.g 2,.g 3,.g 4,.g 5,.g 7,.g 8,.g 9,.g 10,.o 15] U (zM 6 G (zM 5 G (zv G (au .u64 zk zk (vq 1 G) (wu64 (zx (ha _ (qg _)) zd))) (zM 11 G (zv G (au .u64 zk zk (vq 3 G) (wu64 (zx (hb _ (qg _)) zd))) (zv G (r_mul (vq 2 G) (vq 4 G) (wmul64 (qT (qe (Nat.le_add_right _ _) (kc _ _)) (mul_lt (ha _ (qg _)) (hb _ (qg _)) (show 0<4294967296 by decide) (show 0<4294967296 by decide))))) (oc (ob_a G G cx) (zM 4 G (zM 10 G (zv G (aU (vq 7 G) (vq 8 G) (gU zo)) (oc (ob_a G G (dM 6 G zk (lz0 3 G) aN (vq 9 G) zo)) (zv G (r_loadx 10 G zk (lz0 3 G) (λ _=>bL _ _ _ _) (iI zo) aT) (zv G (au .u64 zk zk (vq 11 G) (wu64 (zx (hI.ok _ (qg _)) zd))) (zv G (aU (vq 5 G) (vq 12 G) (wadd64 (qT (kc _ _) (mul_lt (ha _ (qg _)) (hb _ (qg _)) hc (hI.ok _ (qg _)))))) (zv G (aU (vq 0 G) (vq 13 G) (wadd64 (mul_lt (ha _ (qg _)) (hb _ (qg _)) hc (hI.ok _ (qg _))))) (zA 14 G o0)))))))))))))))) (zz [(6,_),(23,_),(24,_),(25,_),(8,_),(9,_),(30,_),(31,_),(32,_),(11,_),(10,_)] [O 2 25 _,O 3 25 _,O 4 25 _,⟨7,94,slH _ _,_⟩] λ a w U=>?_)
   refine zt<|zg [η,η,η,some (7,_)] [] [.adr 52 7 .none True,.v 53 _,.v 54 _,.v 55 _,.v 56 _,.v 57 _,.adr 58 7 (.some _) True,.sto 3] [.g 0,.g 1,.g 2,.g 3,.g 4,.g 5,.g 6,.g 7,.g 8,.g 10] U (oc (ob_a G G cx) (zM 4 G (zM 9 G (zv G (aU (vq 1 G) (vq 2 G) (gU zo)) (zM 10 G (zv G (au .u32 zk zk (vq 4 G) (wu32')) (oc (ob_a G G (dM 0 G zk (lz0 3 G) aN (vq 3 G) zo)) (oc (c4 6 G G G G zk (λ _=>bL _ _ _ _) (vq 5 G) aT (ba zo)) o0)))))))) (zz [(6,_),(23,_),(24,_),(25,_),(8,_),(9,_),(30,_),(31,_),(32,_),(10,_)] [O 2 25 _,O 3 25 _,O 4 25 _,⟨7,94,slH _ _,_⟩] λ a w U=>?_)
   refine a4<|zg [η,η,η,η] [] [.v 59 _,.v 60 _,.v 10 _] [.g 0,.g 1,.g 2,.g 3,.g 4,.g 5,.g 6,.g 7,.g 8,.o 2] U (zM 9 G (zv G (eI (vq 0 G) (aB 32 G) zd (nshr)) (zA 1 G o0))) (zz [(6,_),(23,_),(24,_),(25,_),(8,_),(9,_),(30,_),(31,_),(32,_),(10,_)] [O 2 25 _,O 3 25 _,O 4 25 _,⟨7,94,slH _ _,_⟩] λ a w U=>?_)
   refine ai ?_
   refine a4<|zg [η,η,η,η] [] [.v 61 _,.v 32 _] [.g 0,.g 1,.g 2,.g 3,.g 4,.g 5,.g 6,.g 7,.g 9,.o 1] U (zv G (aU (gq 8 G) a5 (bo zo)) (zv G (a7 (vq 0 G)) o0)) (zz [(6,_),(23,_),(24,_),(25,_),(8,_),(9,_),(30,_),(31,_),(10,_),(32,_)] [O 2 25 _,O 3 25 _,O 4 25 _,⟨7,94,slH _ _,_⟩] λ a w U=>?_)
   refine a4 ?_
   have U:=St.sel U [0,1,2,3,4,5,8,6,7,9]
   exact ⟨n-1,by omega,k+1,_,_,by omega,hI.step hb (ha _ (qg _)) hk zo,U⟩
  ·obtain rfl:k=y.mag.length:=by simp at hb1; omega
   refine zf<|aj<|aj<|az<|a4<|zg [η,η,η,some (8,_)] [] [.adr 62 7 .none True,.v 63 _,.v 64 _,.v 65 _,.v 66 _,.v 67 _,.v 68 _,.adr 69 7 (.some _) True,.sto 3] [.g 0,.g 1,.g 2,.g 3] U (oc (ob_a G G cx) (zM 4 G (zM 0 G (zv G (aG Try.underlying23 (ap (vq 2 G))) (zv G (aU (vq 1 G) (vq 3 G) (gU zo)) (zM 6 G (zv G (au .u32 zk zk (vq 5 G) (wu32 hc)) (oc (ob_a G G (dM 0 G zk (lz0 3 G) aN (vq 4 G) zo)) (oc (c4 7 G G G G zk (λ _=>bL _ _ _ _) (vq 6 G) aT (ba zo)) o0))))))))) (zz [(6,_),(23,_),(24,_),(25,_)] [O 2 25 _,O 3 25 _,O 4 25 _,⟨7,94,slH _ _,_⟩] λ a w U=>?_)
   refine ai ?_
   refine a4<|zg [η,η,η,η] [] [.v 70 _,.v 25 _] [.g 0,.g 1,.g 2,.o 1] U (zv G (aU (gq 3 G) a5 (bo zo)) (zv G (a7 (vq 0 G)) o0)) (zz [(6,_),(23,_),(24,_),(25,_)] [O 2 25 _,O 3 25 _,O 4 25 _,⟨7,94,slH _ _,_⟩] λ a w U=>?_)
   refine a4 ?_
   have U:=St.sel U [0,1,2,3]
   exact ⟨n1-1,by omega,i+1,_,by omega,hI.done hi rfl,U⟩
 ·obtain rfl:i=x.mag.length:=by simp at hb0; omega
  refine zf<|aj<|aj<|az<|zt<|zg [η,η,some (7,_),η] [] [.adr 71 2 (.some 0) True,.v 72 _,.adr 73 3 (.some 0) True,.v 74 _,.v 75 _,.adr 76 7 .none True,.v 77 _,.sto 2] [] U (zO 0 G aJ (zL 0 0 0 G ty_4 (zO 1 G aJ (zL 2 1 0 G ty_4 (zv G (r_neqb zk (vq 1 G) (vq 3 G)) (oc (ob_a G G cx) (zQ G (c9 _ _) (.p (vq 4 G) (has_rowN 5 G zk (lz0 3 G) ⟨hO.len.symm,qf _,by unfold maxLen; omega,hO.ok⟩ hO.len.symm)) (zS 6 G am o0)))))))) (zz [] [O 2 25 _,O 3 25 _,O 4 25 _,⟨7,94,slH _ _,_⟩] λ a w U=>?_)
  refine a4<|qh<|ao ?_ (ax G U (zm 2 G) am)
  rw [hO.fin]; rfl
def sgI (x:RI):Int:=if x.mag.length=0 then 0 else if x.neg then -1 else 1
def cmpI (x y:RI):Int:=if sgI x≠sgI y then (if sgI x<sgI y then -1 else 1) else max (-1) (min 1 (if x.neg then -(sizeL x.mag y.mag) else sizeL x.mag y.mag))
def okRI (x:RI):Bool := !((decide ((x.mag.length:Int)>2048) || (decide ((x.mag.length:Int)>0)&&(((x.mag.getD (x.mag.length-1) 0:Nat):Int)==((0:Nat):Int)))) || (((x.mag.length:Int)==0)&&x.neg))
theorem check_e0 {x:RI}(h:((decide ((x.mag.length:Int)>2048) || (decide ((x.mag.length:Int)>0)&&(((x.mag.getD (x.mag.length-1) 0:Nat):Int)==((0:Nat):Int)))) || (((x.mag.length:Int)==0)&&x.neg))=true):(1:Int)=(if okRI x then 0 else 1):=by unfold okRI; rw [h]; rfl
theorem check_e1 {x:RI}(h:((decide ((x.mag.length:Int)>2048) || (decide ((x.mag.length:Int)>0)&&(((x.mag.getD (x.mag.length-1) 0:Nat):Int)==((0:Nat):Int)))) || (((x.mag.length:Int)==0)&&x.neg))=false):(0:Int)=(if okRI x then 0 else 1):=by unfold okRI; rw [h]; rfl
theorem bY {neg:Bool}{l:List Nat}{z:Int}(ok:okL l)(hv:val l=z.natAbs)(hn:z≠0→neg=decide (z<0)):rsig neg l=riOf z:=by
 unfold rsig riOf
 rw [dy ok,hv]
 by_cases h:z=0
 ·subst h; simp [bb]
 ·have h1:limbs z.natAbs≠[]:=by rw [cc zo]; simp
  have h2:(limbs z.natAbs).isEmpty=false:=by cases hh:limbs z.natAbs <;> simp_all
  rw [h2,hn h]; simp
theorem ok_ri (z:Int):okL (riOf z).mag:=(bu _).1
theorem bk (z:Int):val (riOf z).mag=z.natAbs:=aS _
theorem sizeL_bd {l m:List Nat}(hl:l.length≤1099511627776)(hm:m.length≤1099511627776) : -1099511627777≤sizeL l m∧sizeL l m≤1099511627777:=by
 unfold sizeL; split
 ·omega
 ·split
  ·omega
  ·split <;> omega
theorem sign_e0 {x:RI}(h:((x.mag.length:Int)==0)=true):(0:Int)=sgI x:=by simp at h; simp [sgI,h]
theorem sign_e1 {x:RI}(h:((x.mag.length:Int)==0)=false)(h2:x.neg=true):(-1:Int)=sgI x:=by simp at h; simp [sgI,h,h2]
theorem sign_e2 {x:RI}(h:((x.mag.length:Int)==0)=false)(h2:x.neg=false):(1:Int)=sgI x:=by simp at h; simp [sgI,h,h2]
theorem cmp_e0 {x y:RI}(h:(sgI x != sgI y)=true)(h2:decide (sgI x<sgI y)=true):(-1:Int)=cmpI x y:=by simp at h h2; simp [cmpI,h,h2]
theorem cmp_e1 {x y:RI}(h:(sgI x != sgI y)=true)(h2:decide (sgI x<sgI y)=false):(1:Int)=cmpI x y:=by simp at h h2; simp [cmpI,h]; omega
theorem cmp_e2 {x y:RI}(h:(sgI x != sgI y)=false):max (-1) (min 1 (if x.neg then -(sizeL x.mag y.mag) else sizeL x.mag y.mag))=cmpI x y:=by simp at h; simp [cmpI,h]
theorem sign_c (x:RI):Cn Try.prog 50 [(RIA x).va] (In (sgI x)):=by
 refine Cn.intro Try.func50 G zk nq (λ B w0 a U=>?_)
 have U:=zn [(0,(RIA x).va)] [] U
 refine qb<|zg [] [⟨1,25,ptrH,some 0,_,none⟩] [.alc 0,.v 2 _] [.o 1] U (zW 0 G (zv G (a6 a5) o0)) (zz [(2,_)] [O 1 25 _] λ a w U=>?_)
 refine zt<|qt<|qb<|zg [η] [] [.adr 4 1 (.some 1) True,.v 5 _,.v 6 _,.v 7 _,.v 3 _] [.g 0,.o 4] U (zO 0 G aq (zL 0 0 1 G bm (zv G (aG Try.underlying23 (vq 1 G)) (zv G (bd (vq 2 G) a5) (zA 3 G o0))))) (zz [(2,_),(3,_)] [O 1 25 _] λ a w U=>?_)
 refine a4<|aa U (zm 1 G) (λ hb0=>?_) (λ hb0=>?_)
 ·refine qb<|zg [η] [] [.v 2 _] [.o 0] U (zv G (a6 a5) o0) (zz [(2,_)] [O 1 25 _] λ a w U=>?_)
  refine a4<|qh<|aA ?_
  refine ac ?_
  refine ao ?_ (ae G U (zm 0 G))
  exact nu (sign_e0 hb0)
 ·refine qb<|zg [η] [] [.adr 9 1 (.some 0) True,.v 10 _,.v 8 _] [.g 0,.o 2] U (zO 0 G aJ (zL 0 0 0 G ty_4 (zA 1 G o0))) (zz [(2,_),(8,_)] [O 1 25 _] λ a w U=>?_)
  refine a4<|aa U (zm 1 G) (λ hb1=>?_) (λ hb1=>?_)
  ·refine qb<|zg [η] [] [.v 2 _] [.o 0] U (zv G (a6 a5) o0) (zz [(2,_)] [O 1 25 _] λ a w U=>?_)
   refine a4<|qh<|aA ?_
   refine ac ?_
   refine ao ?_ (ae G U (zm 0 G))
   exact nu (sign_e1 hb0 hb1)
  ·refine qk<|ai ?_
   refine zt<|zg [η] [] [.v 2 _] [.o 0] U (zv G (a6 a5) o0) (zz [(2,_)] [O 1 25 _] λ a w U=>?_)
   refine a4<|qh<|ao ?_ (ae G U (zm 0 G))
   exact nu (sign_e2 hb0 hb1)
theorem cmpI_c (x y:RI)(hxs:x.mag.length≤1099511627776)(hys:y.mag.length≤1099511627776):Cn Try.prog 46 [(RIA x).va,(RIA y).va] (In (cmpI x y)):=by
 refine Cn.intro Try.func46 G zk nq (λ B w0 a U=>?_)
 have U:=zn [(0,(RIA x).va),(1,(RIA y).va)] [] U
 have hbd:=sizeL_bd hxs hys
 refine qb<|zg [] [⟨2,25,ptrH,some 0,_,none⟩,⟨3,25,ptrH,some 1,_,none⟩] [.alc 0,.alc 1,.v 4 _] [.o 2] U (zW 0 G (zW 1 G (zv G (a6 a5) o0))) (zz [(4,_)] [O 2 25 _,O 3 25 _] λ a w U=>?_)
 refine zt<|qb<|zgd [[],[0],[],[0,1,2],[0,1,2,3],[0,1,2,3,4]] [none,none] [] [.v 8 _,.v 9 _,.v 10 _,.v 11 _,.v 5 _,.v 6 _] [.g 0,.o 4,.o 5] a8 U (zl 0 G am (zQ G (sign_c _) (.o (vq 0 G)) (zl 1 G am (zQ G (sign_c _) (.o (vq 2 G)) (zA 1 G (zA 3 G o0)))))) zk zk zk zk (zz [(4,_),(5,_),(6,_)] [O 2 25 _,O 3 25 _] λ a w U=>?_)
 refine zt<|zg [η,η] [] [.v 12 _,.v 13 _,.v 14 _] [.g 0,.g 1,.g 2,.o 2] U (zM 1 G (zM 2 G (zv G (bM (vq 0 G) (vq 1 G)) o0))) (zz [(4,_),(5,_),(6,_),(14,_)] [O 2 25 _,O 3 25 _] λ a w U=>?_)
 refine a4<|aa U (zm 3 G) (λ hb0=>?_) (λ hb0=>?_)
 ·refine qb<|qb<|zg [η,η] [] [.v 15 _,.v 16 _,.v 17 _] [.g 0,.o 2] U (zM 1 G (zM 2 G (zv G (aY (vq 0 G) (vq 1 G)) o0))) (zz [(4,_),(17,_)] [O 2 25 _,O 3 25 _] λ a w U=>?_)
  refine a4<|aa U (zm 1 G) (λ hb1=>?_) (λ hb1=>?_)
  ·refine qb<|zg [η,η] [] [.v 4 _] [.o 0] U (zv G (a6 a5) o0) (zz [(4,_)] [O 2 25 _,O 3 25 _] λ a w U=>?_)
   refine a4<|qh<|ac ?_
   refine ac ?_
   refine ao ?_ (ae G U (zm 0 G))
   exact nu (cmp_e0 hb0 hb1)
  ·refine qk<|zt<|zg [η,η] [] [.v 4 _] [.o 0] U (zv G (a6 a5) o0) (zz [(4,_)] [O 2 25 _,O 3 25 _] λ a w U=>?_)
   refine a4<|qh<|ac ?_
   refine ao ?_ (ae G U (zm 0 G))
   exact nu (cmp_e1 hb0 hb1)
 ·refine qk<|zt<|zg [η,η] [] [.adr 18 2 (.some 1) True,.v 19 _,.adr 20 3 (.some 1) True,.v 21 _,.v 22 _,.v 7 _] [.g 0,.o 5] U (zO 0 G aq (zL 0 0 1 G bm (zO 1 G aq (zL 2 1 1 G bm (zQ G (size_c _ _) (.p (vq 1 G) (vq 3 G)) (zA 4 G o0)))))) (zz [(4,_),(7,_)] [O 2 25 _,O 3 25 _] λ a w U=>?_)
  refine zt<|qb<|zg [η,η] [] [.adr 23 2 (.some 0) True,.v 24 _] [.g 0,.g 1,.o 1] U (zO 0 G aJ (zL 0 0 0 G ty_4 o0)) (zz [(4,_),(7,_),(24,_)] [O 2 25 _,O 3 25 _] λ a w U=>?_)
  refine a4<|bC (λ a w =>  St B w0 30 [(7,In (if x.neg then -(sizeL x.mag y.mag) else sizeL x.mag y.mag))] [⟨2,25,ptrH,RIA x⟩,⟨3,25,ptrH,RIA y⟩] a w) U (zm 2 G) (λ hb2=>?_) (λ hb2=>?_) (λ a w U=>?_)
  ·refine zg [η,η] [] [.v 25 _,.v 26 _,.v 7 _] [.g 0,.o 2] U (zM 1 G (zv G (r_neg (vq 0 G) ((wi64 zo zo).trans (Int.zero_sub _))) (zA 1 G o0))) (zz [(4,_),(7,_)] [O 2 25 _,O 3 25 _] λ a w U=>?_)
   refine a4 ?_
   have U:=St.sel U [1]
   rw [qy hb2]; exact U
  ·refine qk<|a4 ?_
   have U:=St.sel U [1]
   rw [qm (by rw [hb2]; decide)]; exact U
  refine zt<|zg [η,η] [] [.v 27 _,.v 28 _,.v 29 _,.v 4 _] [.o 3] U (zM 0 G (zv G (r_min a5 (vq 0 G)) (zv G (r_max a5 (vq 1 G)) (zA 2 G o0)))) (zz [(4,_)] [O 2 25 _,O 3 25 _] λ a w U=>?_)
  refine a4<|qh<|ao ?_ (ae G U (zm 0 G))
  exact nu (cmp_e2 hb0)
theorem iZ (x:RI):Cn Try.prog 49 [(RIA x).va] (In (if okRI x then 0 else 1)):=by
 refine Cn.intro Try.func49 G zk nq (λ B w0 a U=>?_)
 have U:=zn [(0,(RIA x).va)] [] U
 have hk:=(gi (U.vals _ (zm 0 rfl))).2
 refine qb<|zg [] [⟨1,25,ptrH,some 0,_,none⟩] [.alc 0,.v 2 _] [.o 1] U (zW 0 G (zv G (a6 a5) o0)) (zz [(2,_)] [O 1 25 _] λ a w U=>?_)
 refine zt<|qb<|gl (sts:=[none]) (news:=[]) (sp:=((.adr 3 1 (.some 1) True:Sp)::(.v 4 _)::(.v 5 _)::(.v 6 _)::(.v 7 _)::(.adr 8 1 (.some 1) (_=false))::(.f 9 _)::(.f 10 _)::(.f 11 _)::(.f 12 _)::(.adr 13 1 (.some 1) ((_=false)∧_=true))::(.v 14 (Wh ((_=false)∧_=true) _))::(.adr 15 1 (.some 1) ((_=false)∧_=true))::(.v 16 (Wh ((_=false)∧_=true) _))::(.v 17 (Wh ((_=false)∧_=true) _))::(.v 18 (Wh ((_=false)∧_=true) _))::(.v 19 (Wh ((_=false)∧_=true) _))::(.v 20 (Wh ((_=false)∧_=true) _))::(.v 21 (Wh ((_=false)∧_=true) _))::(.f 22 _)::(.v 23 _)::(.v 24 _)::(.adr 25 1 (.some 1) (_=false))::(.f 26 _)::(.f 27 _)::(.f 28 _)::(.f 29 _)::(.adr 30 1 (.some 0) ((_=false)∧_=true))::(.v 31 (Wh ((_=false)∧_=true) _))::(.f 32 _)::(.v 33 _)::[])) [.g 0,.o 30] U (zO 0 G aq (zL 0 0 1 G bm (zv G (aG Try.underlying23 (vq 1 G)) (zv G (cZ (vq 2 G) a5) (zv G (a7 (vq 3 G)) (zC 4 0 G aq (zB 4 G (λ hg=>aD 5 G zk hg (lz0 0 G) (Sub.part 1 G G) bm) (zB 4 G (λ hg=>aG Try.underlying23 (a9 (vq 6 G) hg)) (zB 4 G (λ hg=>cZ (a9 (vq 7 G) hg) a5) (zB 4 G (λ hg=>a7 (a9 (vq 8 G) hg)) (oc (ob_ag2 G G G (vq 9 G) nq (λ hg=>gR (lz0 0 G) aq)) (oc (dA G G G (vq 9 G) nq (λ hg=>aD 10 G zk hg (lz0 0 G) (Sub.part 1 G G) bm)) (oc (ob_ag2 G G G (vq 9 G) nq (λ hg=>gR (lz0 0 G) aq)) (oc (dA G G G (vq 9 G) nq (λ hg=>aD 12 G zk hg (lz0 0 G) (Sub.part 1 G G) bm)) (oc (dA G G G (vq 9 G) nq (λ hg=>aG Try.underlying23 (a9 (vq 13 G) hg))) (oc (dA G G G (vq 9 G) nq (λ hg=>cu (a9 (vq 14 G) hg) a5 (wi_pm (by have h:=hg.2; simp at h; omega) hk))) (oc (dA G G G (vq 9 G) nq (λ hg=>r_idxmd aN (a9 (vq 11 G) hg) (a9 (vq 15 G) hg) (by have h:=hg.2; simp at h; omega))) (oc (dA G G G (vq 9 G) nq (λ hg=>al (a9 (vq 16 G) hg) aT)) (oc (dA G G G (vq 9 G) nq (λ hg=>bd (a9 (vq 17 G) hg) (aB 0 G))) (zB 4 G (λ hg=>bi (a9 (vq 9 G) hg) (iO (vq 18 G) hg)) (zv G (r_or (vq 4 G) (vq 19 G)) (zv G (a7 (vq 20 G)) (zC 21 0 G aq (zB 21 G (λ hg=>aD 22 G zk hg (lz0 0 G) (Sub.part 1 G G) bm) (zB 21 G (λ hg=>aG Try.underlying23 (a9 (vq 23 G) hg)) (zB 21 G (λ hg=>bd (a9 (vq 24 G) hg) a5) (zB 21 G (λ hg=>a7 (a9 (vq 25 G) hg)) (oc (ob_ag2 G G G (vq 26 G) nq (λ hg=>gR (lz0 0 G) aJ)) (oc (dA G G G (vq 26 G) nq (λ hg=>aD 27 G zk hg (lz0 0 G) (Sub.part 0 G G) ty_4)) (zB 21 G (λ hg=>bi (a9 (vq 26 G) hg) (iO (vq 28 G) hg)) (zv G (r_or (vq 21 G) (vq 29 G)) o0))))))))))))))))))))))))))))))) (zz [(2,_),(33,_)] [O 1 25 _] λ a w U=>?_)
 refine a4<|aa U (zm 1 G) (λ hb0=>?_) (λ hb0=>?_)
 ·refine qb<|zg [η] [] [.v 2 _] [.o 0] U (zv G (a6 a5) o0) (zz [(2,_)] [O 1 25 _] λ a w U=>?_)
  refine a4<|qh<|ac ?_
  refine ao ?_ (ae G U (zm 0 G))
  exact nu (check_e0 hb0)
 ·refine qk<|zt<|zg [η] [] [.v 2 _] [.o 0] U (zv G (a6 a5) o0) (zz [(2,_)] [O 1 25 _] λ a w U=>?_)
  refine a4<|qh<|ao ?_ (ae G U (zm 0 G))
  exact nu (check_e1 hb0)
theorem of_e0 {n:Int}(h0 : -9223372036854775808≤n)(h:decide (n<0)=true):IntKind.u64.wrap (0-IntKind.u64.wrap n)=(n.natAbs:Nat):=by
 simp at h; simp [IntKind.wrap,IntKind.bits,IntKind.signed]; omega
theorem of_e1 {n:Int}(h1:n<9223372036854775808)(h:decide (n<0)=false):IntKind.u64.wrap n=(n.natAbs:Nat):=by
 simp at h; simp [IntKind.wrap,IntKind.bits,IntKind.signed]; omega
theorem of_ok {n:Int}(h0 : -9223372036854775808≤n)(h1:n<9223372036854775808):okL [n.natAbs%4294967296,n.natAbs/4294967296]:=by
 intro x hx
 simp at hx
 rcases hx with rfl | rfl <;> omega
theorem of_e2 {n:Int}(h0 : -9223372036854775808≤n)(h1:n<9223372036854775808):(RIA (rsig (decide (n<0)) [n.natAbs%4294967296,n.natAbs/4294967296])).va=Zi n:=by
 rw [bY (of_ok h0 h1) (z:=n) (by simp [val]; omega) (λ _=>rfl)]
theorem of_c (n:Int)(h0 : -9223372036854775808≤n)(h1:n<9223372036854775808):Cn Try.prog 42 [In n] (Zi n):=by
 refine Cn.intro Try.func42 G zk nq (λ B w0 a U=>?_)
 have U:=zn [(0,In n)] [] U
 refine qb<|zg [] [⟨2,25,ptrH,some 0,_,none⟩] [.alc 0] [.g 0] U (zY G (Str.zero bS) o0) (zz [(0,_)] [O 2 25 _] λ a w U=>?_)
 refine zt<|zg [η] [] [.v 4 _,.v 5 _,.v 3 _] [.g 0,.o 2] U (zM 0 G (zv G (au .u64 zk zk (vq 0 G) (G)) (zA 1 G o0))) (zz [(0,_),(3,_)] [O 2 25 _] λ a w U=>?_)
 refine zt<|qb<|zg [η] [] [.v 6 _,.v 7 _] [.g 0,.g 1,.o 1] U (zM 0 G (zv G (aY (vq 0 G) a5) o0)) (zz [(0,_),(3,_),(7,_)] [O 2 25 _] λ a w U=>?_)
 refine a4<|bC (λ a w =>  St B w0 19 [(0,In n),(3,(NumA .u64 (n.natAbs:Nat)).va)] [⟨2,25,ptrH,cat [BoA false,MgA []]⟩] a w) U (zm 2 G) (λ hb0=>?_) (λ hb0=>?_) (λ a w U=>?_)
 ·refine zg [η] [] [.v 8 _,.v 9 _,.v 3 _] [.g 0,.o 2] U (zM 1 G (zv G (r_neg (vq 0 G) (G)) (zA 1 G o0))) (zz [(0,_),(3,_)] [O 2 25 _] λ a w U=>?_)
  refine a4 ?_
  have U:=St.sel U [0,1]
  rw [of_e0 h0 hb0] at U; exact U
 ·refine qk<|a4 ?_
  have U:=St.sel U [0,1]
  rw [of_e1 h1 hb0] at U; exact U
 refine zt<|zg [some (9,_)] [] [.v 10 _,.v 11 _,.v 12 _,.v 13 _,.v 14 _,.v 15 _,.v 16 _,.v 17 _,.v 18 _,.sto 0] [] U (zM 0 G (zv G (aY (vq 0 G) a5) (zM 1 G (zv G (au .u32 zk zk (vq 2 G) (wu32')) (zM 1 G (zv G (eI (vq 4 G) (aB 32 G) zd (nshr)) (zv G (au .u32 zk zk (vq 5 G) (wu32 (by show n.natAbs/4294967296<_; omega))) (zv G (r_slicem (l:=[_,_]) (xs:=[.tmp 13,.tmp 16]) aN zk nq nq (of_ok h0 h1) (.p (vq 3 G) (vq 6 G)) G G) (zQ G (dQ _ _) (.p (vq 1 G) (vq 7 G)) (zS 8 G am o0)))))))))) (zz [] [O 2 25 _] λ a w U=>?_)
 refine a4<|qh<|ao ?_ (ax G U (zm 0 G) am)
 exact of_e2 h0 h1
theorem cP {m n:Nat}(h:m≤n):(limbs m).length≤(limbs n).length:=eF (qT h (bV (qf _)))
theorem cq {m n:Nat}:(0≤sizeL (limbs m) (limbs n)↔n≤m)∧(0<sizeL (limbs m) (limbs n)↔n<m):=by
 unfold sizeL
 rw [aS,aS]
 by_cases h:(limbs m).length=(limbs n).length
 ·rw [qm zo]
  split
  ·omega
  ·split <;> omega
 ·rw [qy zo]
  by_cases h2:m≤n
  ·have:=cP h2
   have:m≠n:=λ e=>h (by rw [e])
   omega
  ·have:=cP (xI (x8 h2))
   omega
theorem val_sum {a b:Nat}:val (digs (max (limbs a).length (limbs b).length+1) (a+b))=a+b:=by
 rw [cz,qS]
 have h1:=bV (n:=a) (k:=max (limbs a).length (limbs b).length) (jd _ _)
 have h2:=bV (n:=b) (k:=max (limbs a).length (limbs b).length) (x9 _ _)
 rw [qR]
 omega
theorem plus_e0 {a b:Int}(h:((riOf a).neg==(riOf b).neg)=true):(RIA (rsig (riOf a).neg (digs (max (riOf a).mag.length (riOf b).mag.length+1) (val (riOf a).mag+val (riOf b).mag)))).va=Zi (a+b):=by
 have h':decide (a<0)=decide (b<0):=by simpa [riOf] using h
 rw [bk,bk,bY (bx _ _) (z:=a+b) (by show val (digs (max (limbs a.natAbs).length (limbs b.natAbs).length+1) _)=_; rw [val_sum]; simp only [qF] at h'; omega) (λ hz=>by show decide (a<0)=_; simp only [qF] at h' ⊢; omega)]
theorem plus_e1 {a b:Int}(h:((riOf a).neg==(riOf b).neg)=false)(h2:b.natAbs≤a.natAbs):(RIA (rsig (riOf a).neg (limbs (val (riOf a).mag-val (riOf b).mag)))).va=Zi (a+b):=by
 have h':¬ decide (a<0)=decide (b<0):=by simpa [riOf] using h
 rw [bk,bk,bY (bu _).1 (z:=a+b) (by rw [aS]; simp only [qF] at h'; omega) (λ hz=>by show decide (a<0)=_; simp only [qF] at h' ⊢; omega)]
theorem plus_e2 {a b:Int}(h:((riOf a).neg==(riOf b).neg)=false)(h2:a.natAbs≤b.natAbs):(RIA (rsig (riOf b).neg (limbs (val (riOf b).mag-val (riOf a).mag)))).va=Zi (a+b):=by
 have h':¬ decide (a<0)=decide (b<0):=by simpa [riOf] using h
 rw [bk,bk,bY (bu _).1 (z:=a+b) (by rw [aS]; simp only [qF] at h'; omega) (λ hz=>by show decide (b<0)=_; simp only [qF] at h' ⊢; omega)]
theorem ey {a b:Int}(h:decide (sizeL (riOf a).mag (riOf b).mag≥0)=true):b.natAbs≤a.natAbs:=(cq (m:=a.natAbs) (n:=b.natAbs)).1.1 (by simpa [riOf] using h)
theorem ex {a b:Int}(h:decide (sizeL (riOf a).mag (riOf b).mag≥0)=false):a.natAbs≤b.natAbs:=by
 have:=(cq (m:=a.natAbs) (n:=b.natAbs)).1
 have h':¬ 0≤sizeL (limbs a.natAbs) (limbs b.natAbs):=by simpa [riOf] using h
 omega
theorem minus_e {b:Int}:(cat (setAll [BoA false,MgA []] [(0,BoA (!(riOf b).neg&&decide (((riOf b).mag.length:Int)>0))),(1,MgA (riOf b).mag)])).va=Zi (-b):=by
 have e:(!(riOf b).neg&&decide (((riOf b).mag.length:Int)>0))=(riOf (-b)).neg:=by
  by_cases h:b=0
  ·subst h; simp [riOf,bb]
  ·have:0<(limbs b.natAbs).length:=by rw [cc zo]; simp
   simp [riOf,this]
   by_cases h2:b<0 <;> simp [h2] <;> omega
 rw [e]
 have e2:(riOf b).mag=(riOf (-b)).mag:=by simp [riOf]
 rw [e2]
 rfl
theorem fR (b:Int):lz (-b)=lz b:=by simp [lz]
theorem plus_c (p q:Int)(hp:lz p≤1099511627776)(hq:lz q≤1099511627776):Cn Try.prog 43 [Zi p,Zi q] (Zi (p+q)):=by
 refine Cn.intro Try.func43 G zk nq (λ B w0 a U=>?_)
 have U:=zn [(0,Zi p),(1,Zi q)] [] U
 refine qb<|zg [] [⟨2,25,ptrH,some 0,_,none⟩,⟨3,25,ptrH,some 1,_,none⟩,⟨4,25,ptrH,some 2,_,none⟩] [.alc 0,.alc 1,.alc 2] [] U (zW 0 G (zW 1 G (zY G (Str.zero bS) o0))) (zz [] [O 2 25 _,O 3 25 _,O 4 25 _] λ a w U=>?_)
 refine zt<|qb<|zg [η,η,η] [] [.adr 5 2 (.some 0) True,.v 6 _,.adr 7 3 (.some 0) True,.v 8 _,.v 9 _] [.o 4] U (zO 0 G aJ (zL 0 0 0 G ty_4 (zO 1 G aJ (zL 2 1 0 G ty_4 (zv G (r_eqlb zk (vq 1 G) (vq 3 G)) o0))))) (zz [(9,_)] [O 2 25 _,O 3 25 _,O 4 25 _] λ a w U=>?_)
 refine a4<|aa U (zm 0 G) (λ hb0=>?_) (λ hb0=>?_)
 ·refine qb<|zgd [[],[0],[],[2],[],[4],[2,3,4,5],[0,1,2,3,4,5,6],[0,1,2,3,4,5,6,7]] [none,none,some (8,_)] [] [.adr 10 2 (.some 0) True,.v 11 _,.adr 12 2 (.some 1) True,.v 13 _,.adr 14 3 (.some 1) True,.v 15 _,.v 16 _,.v 17 _,.sto 2] [] a8 U (zO 0 G aJ (zL 0 0 0 G ty_4 (zO 0 G aq (zL 2 0 1 G bm (zO 1 G aq (zL 4 1 1 G bm (zQ G ((add_c _ _ hp hq).free (dW _).va) (.p (vq 3 G) (vq 5 G)) (zQ G (dQ _ _) (.p (vq 1 G) (vq 6 G)) (zS 7 G am o0))))))))) zk zk zk zk (zz [] [O 2 25 _,O 3 25 _,O 4 25 _] λ a w U=>?_)
  refine a4<|qh<|ac ?_
  refine ao ?_ (ax G U (zm 2 G) am)
  exact plus_e0 hb0
 ·refine qk<|zt<|qb<|zg [η,η,η] [] [.adr 18 2 (.some 1) True,.v 19 _,.adr 20 3 (.some 1) True,.v 21 _,.v 22 _,.v 23 _] [.o 5] U (zO 0 G aq (zL 0 0 1 G bm (zO 1 G aq (zL 2 1 1 G bm (zQ G (size_c _ _) (.p (vq 1 G) (vq 3 G)) (zv G (dH (vq 4 G) a5) o0)))))) (zz [(23,_)] [O 2 25 _,O 3 25 _,O 4 25 _] λ a w U=>?_)
  refine a4<|aa U (zm 0 G) (λ hb1=>?_) (λ hb1=>?_)
  ·refine qb<|zgd [[],[0],[],[2],[],[4],[2,3,4,5],[0,1,2,3,4,5,6],[0,1,2,3,4,5,6,7]] [none,none,some (8,_)] [] [.adr 24 2 (.some 0) True,.v 25 _,.adr 26 2 (.some 1) True,.v 27 _,.adr 28 3 (.some 1) True,.v 29 _,.v 30 _,.v 31 _,.sto 2] [] a8 U (zO 0 G aJ (zL 0 0 0 G ty_4 (zO 0 G aq (zL 2 0 1 G bm (zO 1 G aq (zL 4 1 1 G bm (zQ G ((sub_c _ _ hp (cP (ey hb1)) (by show val (limbs _)≤val (limbs _); rw [aS,aS]; exact ey hb1)).free (dW _).va) (.p (vq 3 G) (vq 5 G)) (zQ G (dQ _ _) (.p (vq 1 G) (vq 6 G)) (zS 7 G am o0))))))))) zk zk zk zk (zz [] [O 2 25 _,O 3 25 _,O 4 25 _] λ a w U=>?_)
   refine a4<|qh<|ac ?_
   refine ao ?_ (ax G U (zm 2 G) am)
   exact plus_e1 hb0 (ey hb1)
  ·refine qk<|zt<|zgd [[],[0],[],[2],[],[4],[2,3,4,5],[0,1,2,3,4,5,6],[0,1,2,3,4,5,6,7]] [none,none,some (8,_)] [] [.adr 32 3 (.some 0) True,.v 33 _,.adr 34 3 (.some 1) True,.v 35 _,.adr 36 2 (.some 1) True,.v 37 _,.v 38 _,.v 39 _,.sto 2] [] a8 U (zO 1 G aJ (zL 0 1 0 G ty_4 (zO 1 G aq (zL 2 1 1 G bm (zO 0 G aq (zL 4 0 1 G bm (zQ G ((sub_c _ _ hq (cP (ex hb1)) (by show val (limbs _)≤val (limbs _); rw [aS,aS]; exact ex hb1)).free (dW _).va) (.p (vq 3 G) (vq 5 G)) (zQ G (dQ _ _) (.p (vq 1 G) (vq 6 G)) (zS 7 G am o0))))))))) zk zk zk zk (zz [] [O 2 25 _,O 3 25 _,O 4 25 _] λ a w U=>?_)
   refine a4<|qh<|ao ?_ (ax G U (zm 2 G) am)
   exact plus_e2 hb0 (ex hb1)
theorem minus_c (p q:Int)(hp:lz p≤1099511627776)(hq:lz q≤1099511627776):Cn Try.prog 55 [Zi p,Zi q] (Zi (p-q)):=by
 refine Cn.intro Try.func55 G zk nq (λ B w0 a U=>?_)
 have U:=zn [(0,Zi p),(1,Zi q)] [] U
 refine qb<|zg [] [⟨2,25,ptrH,some 0,_,none⟩,⟨3,25,ptrH,some 1,_,none⟩,⟨4,25,ptrH,some 2,_,none⟩] [.alc 0,.alc 1,.alc 2] [] U (zW 0 G (zW 1 G (zY G (Str.zero bS) o0))) (zz [] [O 2 25 _,O 3 25 _,O 4 25 _] λ a w U=>?_)
 refine zt<|zg [η,η,some (14,_)] [] [.v 5 _,.adr 6 3 (.some 0) True,.v 7 _,.v 8 _,.v 9 _,.adr 10 3 (.some 1) (_=true),.t 11 _,.t 12 _,.t 13 _,.v 14 _,.adr 15 3 (.some 1) True,.v 16 _,.v 17 _,.v 18 _,.sto 2] [] U (zl 0 G am (zO 1 G aJ (zL 1 1 0 G ty_4 (zv G (fh (vq 2 G)) (zv G (a7 (vq 3 G)) (zC 4 1 G aq (zB 4 G (λ hg=>aD 5 G zk hg (lz0 1 G) (Sub.part 1 G G) bm) (zB 4 G (λ hg=>aG Try.underlying23 (a9 (vq 6 G) hg)) (zB 4 G (λ hg=>cZ (a9 (vq 7 G) hg) a5) (zv G (bi (vq 4 G) (vq 8 G)) (zO 1 G aq (zL 10 1 1 G bm (zv G (aO (qs:=[(0,_),(1,_)]) bS (.cons ⟨rfl,vq 9 rfl,rfl⟩ (.cons ⟨rfl,vq 11 rfl,rfl⟩ .nil))) (zQ G ((plus_c p (-q) hp (by rw [fR]; exact hq)).pre (qu (λ A=>[Zi p,A]) minus_e)) (.p (vq 0 G) (vq 12 G)) (zS 13 G am o0))))))))))))))) (zz [] [O 2 25 _,O 3 25 _,O 4 25 _] λ a w U=>?_)
 refine a4<|qh<|ao ?_ (ax G U (zm 2 G) am)
 exact qu Zi Int.sub_eq_add_neg.symm
theorem turnedZ_c (p:Int)(hp:lz p≤1099511627776):Cn Try.prog 54 [Zi p] (Zi (-p)):=by
 refine Cn.intro Try.func54 G zk nq (λ B w0 a U=>?_)
 have U:=zn [(0,Zi p)] [] U
 refine qb<|zg [] [⟨1,25,ptrH,some 0,_,none⟩,⟨2,25,ptrH,some 1,_,none⟩] [.alc 0,.alc 1] [] U (zW 0 G (zY G (Str.zero bS) o0)) (zz [] [O 1 25 _,O 2 25 _] λ a w U=>?_)
 refine zt<|zgd [[],[],[0,1],[0,1,2]] [none,some (3,_)] [] [.v 3 _,.v 4 _,.v 5 _,.sto 1] [] a8 U (zQ G (of_c 0 zd zd) (.cons a5 .nil) (zl 0 G am (zQ G (minus_c 0 p (by simp [lz,bb]) hp) (.p (vq 0 G) (vq 1 G)) (zS 2 G am o0)))) zk zk zk zk (zz [] [O 1 25 _,O 2 25 _] λ a w U=>?_)
 refine a4<|qh<|ao ?_ (ax G U (zm 1 G) am)
 exact qu Zi (Int.zero_sub p)
def shSt (l ext:List Nat)(d i:Nat):List Nat:=l.take i++digs (l.length-i) (val (l.drop i)/d)++ext
theorem shSt_top (l ext:List Nat)(d:Nat):shSt l ext d l.length=l++ext:=by simp [shSt,digs]
theorem shSt_end (l ext:List Nat)(d:Nat):shSt l ext d 0=digs l.length (val l/d)++ext:=by simp [shSt]
theorem shSt_len {l ext:List Nat}{d i:Nat}(h:i≤l.length):(shSt l ext d i).length=l.length+ext.length:=by simp [shSt,ab]; omega
theorem shSt_get {l ext:List Nat}{d i:Nat}(h:i<l.length)(h2:i<(shSt l ext d (i+1)).length):(shSt l ext d (i+1))[i]=l[i]:=by
 simp only [shSt,qM]
 rw [List.getElem_append_left (by simp; omega),List.getElem_take]
theorem sh_eq (V x d:Nat):x+4294967296*V=d*(4294967296*(V/d))+(V%d*4294967296+x):=by
 have h:=xN V d
 have e:4294967296*V=4294967296*(d*(V/d)+V%d):=by rw [h]
 rw [zj,← qC,qK 4294967296 d,qC] at e
 omega
theorem sh_div {V x d:Nat}(hd:0<d):(x+4294967296*V)/d=4294967296*(V/d)+(V%d*4294967296+x)/d:=by rw [sh_eq,kb hd]
theorem sh_mod {V x d:Nat}:(x+4294967296*V)%d=(V%d*4294967296+x)%d:=by rw [sh_eq,ka]
theorem drop_val {l:List Nat}{i:Nat}(h:i<l.length):val (l.drop i)=l[i]+4294967296*val (l.drop (i+1)):=by rw [qP h]; rfl
theorem digs_cons (n q V:Nat)(hq:q<4294967296):digs (n+1) (4294967296*V+q)=q::digs n V:=by
 show (4294967296*V+q)%4294967296::digs n ((4294967296*V+q)/4294967296)=_
 rw [show (4294967296*V+q)%4294967296=q from by omega,show (4294967296*V+q)/4294967296=V from by omega]
theorem shSt_step {l ext:List Nat}{d i:Nat}(h:i<l.length)(hl:okL l)(hd:0<d):(shSt l ext d (i+1)).set i ((val (l.drop (i+1))%d*4294967296+l[i])/d)=shSt l ext d i:=by
 have hq:=iS (h:=val (l.drop (i+1))%d) (l:=l[i]) (d:=d) (qO _ hd) (hl _ (qg h))
 unfold shSt
 rw [drop_val h,sh_div hd,show l.length-i=(l.length-(i+1))+1 from by omega,digs_cons _ _ _ hq,qp h,qM,qM,qM,er _ _ _ _ (by simp; omega)]
 simp
theorem short_c (l ext:List Nat)(c d:Nat)(hl:okL l)(hls:l.length≤1099511627776)(hd0:0<d)(hd:d<4294967296):Cm Try.prog 76 94 (Nums .u32 (l++ext)) (Nums .u32 (digs l.length (val l/d)++ext)) [.w (slH l.length c),.v ((NumA .u32 (d:Nat)).va)] ((NumA .u32 (val l%d:Nat)).va):=by
 refine Cm.intro Try.func76 G zk nq (λ B g w0 a U=>?_)
 have U:=zn [(0,EqV ((slH l.length c).f g)),(1,(NumA .u32 (d:Nat)).va)] [⟨0,94,slH l.length c,Nums .u32 (l++ext)⟩] U
 refine qb<|zg [η] [] [.v 4 _] [.g 0,.g 1,.o 0] U (zv G (a6 (aB 0 G)) o0) (zz [(0,_),(1,_),(4,_)] [⟨0,94,slH _ _,_⟩] λ a w U=>?_)
 refine zt<|zg [η] [] [.v 5 _] [.g 0,.g 1,.g 2,.o 0] U (zv G (a6 (aB 0 G)) o0) (zz [(0,_),(1,_),(4,_),(5,_)] [⟨0,94,slH _ _,_⟩] λ a w U=>?_)
 refine zt<|qb<|zg [η] [] [.adr 7 0 .none True,.v 8 _,.v 9 _,.v 6 _] [.g 0,.g 1,.g 2,.g 3,.o 3] U (oc (ob_a G G cx) (zv G (r_lenx 0 G zk (lz0 0 G) Try.underlying23) (zv G (cu (vq 1 G) a5 (wi64 zo zo)) (zA 2 G o0)))) (zz [(0,_),(1,_),(4,_),(5,_),(6,_)] [⟨0,94,slH _ _,_⟩] λ a w U=>?_)
 refine a4<|qt ?_
 have U:=St.sel U [0,1,3,4]
 refine wp_loop_ghost (λ n a w=>n≤l.length∧St B w0 28 [(0,EqV ((slH l.length c).f g)),(1,(NumA .u32 (d:Nat)).va),(5,(NumA .u32 (val (l.drop n)%d:Nat)).va),(6,In ((n:Int)-1))] [⟨0,94,slH l.length c,Nums .u32 (shSt l ext d n)⟩] a w) (l.length) ?_ ?_
 ·exact ⟨qf _,by rw [shSt_top,xr,show val []%d=0 from by simp [val]]; exact U⟩
 intro n a w hI
 obtain ⟨hn,U⟩:=hI; have hlen:=shSt_len (ext:=ext) (d:=d) hn
 refine qb<|qb<|zg [η] [] [.v 10 _,.v 11 _] [.g 0,.g 1,.g 2,.g 3,.o 1] U (zM 3 G (zv G (dH (vq 0 G) a5) o0)) (zz [(0,_),(1,_),(5,_),(6,_),(11,_)] [⟨0,94,slH _ _,_⟩] λ a w U=>?_)
 refine a4<|aa U (zm 4 G) (λ hb0=>?_) (λ hb0=>?_)
 ·obtain ⟨j,rfl⟩:∃ j,n=j+1:=⟨n-1,by simp at hb0; omega⟩; rw [show ((j+1:Nat):Int)-1=(j:Int) from by omega] at U
  refine qk<|zt<|qt<|zg [some (13,_)] [] [.adr 15 0 .none True,.v 16 _,.v 17 _,.adr 18 0 .none True,.v 19 _,.adr 20 0 (.some _) True,.v 21 _,.v 22 _,.v 23 _,.v 14 _,.v 24 _,.v 25 _,.adr 26 0 (.some _) True,.sto 0,.v 5 _] [.g 0,.g 1,.g 3,.o 14] U (oc (ob_a G G cx) (zM 3 G (zM 2 G (oc (ob_a G G cx) (zM 3 G (oc (ob_a G G (dM 3 G zk (lz0 0 G) aN (vq 4 G) zo)) (zv G (r_loadx 5 G zk (lz0 0 G) (λ _=>bL _ _ _ _) (iI zo) aT) (zM 1 G (zQ G (div32_c (qO _ hd0) (by rw [shSt_get zo zo]; exact hl _ (qg _)) hd) (.cons (vq 2 G) (.p (vq 6 G) (vq 7 G))) (zv G (a7 (vq 8 G)) (zv G (ay (vq 9 G) G) (zv G (ay (vq 9 G) G) (oc (ob_a G G (dM 0 G zk (lz0 0 G) aN (vq 1 G) zo)) (oc (c4 12 G G G G zk (λ _=>bL _ _ _ _) (vq 10 G) aT (ba zo)) (zA 11 G o0))))))))))))))) (zz [(0,_),(1,_),(6,_),(5,_)] [⟨0,94,slH _ _,_⟩] λ a w U=>?_)
  refine ai ?_
  refine a4<|zg [η] [] [.v 12 _,.v 13 _,.v 6 _] [.g 0,.g 1,.g 3,.o 2] U (zM 2 G (zv G (cu (vq 0 G) a5 (wi64 zo zo)) (zA 1 G o0))) (zz [(0,_),(1,_),(5,_),(6,_)] [⟨0,94,slH _ _,_⟩] λ a w U=>?_)
  refine a4 ?_
  have U:=St.sel U [0,1,2,3]
  rw [shSt_get zo zo,shSt_step zo hl hd0,← sh_mod,← drop_val zo] at U; exact ⟨j,by omega,by omega,U⟩
 ·obtain rfl:n=0:=(by simp at hb0; omega); rw [shSt_end] at U
  refine zf<|aj<|aj<|az<|zt<|zg [η] [] [.v 27 _,.v 4 _] [.g 0,.o 1] U (zM 2 G (zA 0 G o0)) (zz [(0,_),(4,_)] [⟨0,94,slH _ _,_⟩] λ a w U=>?_)
  refine a4<|qh<|ret_m U (zm 0 G) (zm 0 G) ?_
  exact ae G U (zm 1 G)
theorem wshl {u s:Nat}:IntKind.u32.wrap ((u:Int)*2^((s:Int).toNat))=((u*2^s%4294967296:Nat):Int):=by
 rw [z6,show (u:Int)*2^s=((u*2^s:Nat):Int) from by simp]; exact wu32'
theorem shl_lt {u s:Nat}(hu:u<4294967296)(hs:s<32):u*2^s<18446744073709551616:=by
 have h1:2^s≤2^31:=zD zd zo
 have h2:u*2^s≤4294967295*2^31:=xj zo h1
 omega
theorem wshl64 {u s:Nat}(hu:u<4294967296)(hs:s<32):IntKind.u64.wrap ((u:Int)*2^((s:Int).toNat))=((u*2^s:Nat):Int):=by
 rw [z6,show (u:Int)*2^s=((u*2^s:Nat):Int) from by simp]; exact wu64 (shl_lt hu hs)
theorem up_mod {u s:Nat}(hs:s<32):u*2^s%4294967296=2^s*(u%2^(32-s)):=by
 rw [show (4294967296:Nat)=2^s*2^(32-s) from by rw [← zq,show s+(32-s)=32 from by omega],qK u,Nat.mul_mod_mul_left]
theorem up_or {u s c:Nat}(hs:s<32)(hc:c<2^s):u*2^s%4294967296 ||| c=(c+u*2^s)%4294967296:=by
 rw [up_mod hs,← Nat.two_pow_add_eq_or_of_lt hc]
 have h1:u%2^(32-s)<2^(32-s):=qO _ (qX zd)
 have h2:2^s*(u%2^(32-s)+1)≤2^s*2^(32-s):=qY _ h1
 rw [← zq,show s+(32-s)=32 from by omega,zj,zJ] at h2
 have h3:=up_mod (u:=u) hs
 have h4:=xN (u*2^s) 4294967296
 omega
theorem up_div {u s c:Nat}(hs:s<32)(hc:c<2^s):u*2^s/4294967296=(c+u*2^s)/4294967296:=by
 have h1:u%2^(32-s)<2^(32-s):=qO _ (qX zd)
 have h2:2^s*(u%2^(32-s)+1)≤2^s*2^(32-s):=qY _ h1
 rw [← zq,show s+(32-s)=32 from by omega,zj,zJ] at h2
 have h3:=up_mod (u:=u) hs
 have h4:=xN (u*2^s) 4294967296
 omega
def upSt (l:List Nat)(s i:Nat):List Nat:=digs i (val (l.take i)*2^s)++List.replicate (l.length+1-i) 0
theorem kw {l:List Nat}{s i:Nat}(h:i≤l.length):(upSt l s i).length=l.length+1:=by simp [upSt,ab]; omega
theorem upSt_zero (l:List Nat)(s:Nat):upSt l s 0=List.replicate (l.length+1) 0:=by simp [upSt,digs]
theorem up_val {l:List Nat}{s i:Nat}(h:i<l.length):val (l.take (i+1))*2^s=val (l.take i)*2^s+4294967296^i*(l[i]*2^s):=by rw [aH h,xh,qC]
theorem up_cl {l:List Nat}(hl:okL l)(s i:Nat):val (l.take i)*2^s/4294967296^i<2^s:=by
 apply zb
 exact z5 (bK hl i) (qX zd)
theorem upSt_step {l:List Nat}{s i:Nat}(h:i<l.length):(upSt l s i).set i ((val (l.take i)*2^s/4294967296^i+l[i]*2^s)%4294967296)=upSt l s (i+1):=by
 unfold upSt
 rw [er _ _ _ _ (ab _ _),fg _ _ zo,up_val h,d7]
 simp only [qM,z4]
 congr 3
theorem up_carry {l:List Nat}{s i:Nat}(h:i<l.length):(val (l.take i)*2^s/4294967296^i+l[i]*2^s)/4294967296=val (l.take (i+1))*2^s/4294967296^(i+1):=by rw [up_val h,carry_step']
theorem upSt_end {l:List Nat}(hl:okL l){s:Nat}(hs:s<32):(upSt l s l.length).set l.length (val (l.take l.length)*2^s/4294967296^l.length)=digs (l.length+1) (val l*2^s):=by
 have h:=up_cl hl s l.length
 have h1:2^s≤2^31:=zD zd zo
 unfold upSt
 rw [er _ _ _ _ (ab _ _),fg _ _ zo,eb,qN] at *
 rw [qS zo]
 simp
theorem up_c (l:List Nat)(s:Nat)(hls:l.length≤1099511627776)(hs:s<32):Cr Try.prog 81 94 (slH (l.length+1) (l.length+1)) (Nums .u32 (digs (l.length+1) (val l*2^s))) [(MgA l).va,(NumA .u64 (s:Nat)).va]:=by
 refine Cr.introW Try.func81 G zk nq (.cons (hC _).va (.cons (fL _ _).va .nil)) (λ _ _ _ _ h=>h) (λ B w0 a hB0 U=>?_)
 have U:=zn [(0,(MgO l).va),(1,(NumA .u64 (s:Nat)).va)] [] U
 have hl:=(U.magO 0 rfl).1
 refine qb<|zh [.v 4 _] [.g 0,.g 1,.o 0] U (zv G (a6 be) o0) (zz [(0,_),(1,_),(4,_)] [] λ a w U=>?_)
 refine zt<|cR (sts:=[]) (news:=[⟨12,94,slH _ _,some 3,_,none⟩]) (sp:=[.v 9 _,.v 10 _,.v 11 _,.alc 0,.adr 5 12 .none True]) [.g 0,.g 1,.g 2] [(5,12)] [⟨5,94,slH _ _,_⟩] U (zM 0 G (zv G (aG Try.underlying23 (ap (vq 0 G))) (zv G (aU (vq 1 G) a5 (bo zo)) (oc (ez G G G fQ (vq 2 G) (vq 2 G) zo) (oc (ob_a G G ko) o0))))) zk zk zk ⟨⟨4,rfl⟩,trivial⟩ G zk (zz [(0,_),(1,_),(4,_)] [⟨5,94,slH _ _,_⟩] λ a w U=>?_)
 refine zt<|zg [η] [] [.v 6 _] [.g 0,.g 1,.g 2,.o 0] U (zv G (a6 (aB 0 G)) o0) (zz [(0,_),(1,_),(4,_),(6,_)] [⟨5,94,slH _ _,_⟩] λ a w U=>?_)
 refine zt<|qb<|zg [η] [] [.v 13 _,.v 14 _,.v 15 _] [.g 0,.g 1,.g 2,.g 3,.o 0,.o 1,.o 2] U (zM 0 G (zv G (aG Try.underlying23 (ap (vq 0 G))) (zv G (a7 a5) o0))) (zz [(0,_),(1,_),(4,_),(6,_),(13,_),(14,_),(15,_)] [⟨5,94,slH _ _,_⟩] λ a w U=>?_)
 refine a4<|qt ?_
 have U:=St.sel U [0,1,3,4,5,6]
 refine wp_loop_ghost (λ n a w=>∃ i:Nat,n+i=l.length∧St B w0 41 [(0,(MgO l).va),(1,(NumA .u64 (s:Nat)).va),(6,(NumA .u32 (val (l.take i)*2^s/4294967296^i:Nat)).va),(13,(MgO l).va),(14,In (l.length:Nat)),(15,In (i:Nat))] [⟨5,94,slH (l.length+1) (l.length+1),Nums .u32 (upSt l s i)⟩] a w) (l.length) ?_ ?_
 ·exact ⟨0,by omega,by rw [upSt_zero,show val (l.take 0)*2^s/4294967296^0=0 from by simp]; exact U⟩
 intro n a w hI
 obtain ⟨i,hn,U⟩:=hI; have hc:=up_cl hl s i; have h31:2^s≤2^31:=zD zd zo
 refine qb<|zg [η] [] [.v 16 _] [.g 0,.g 1,.g 2,.g 3,.g 4,.g 5,.o 0] U (zv G (aY (gq 5 G) (gq 4 G)) o0) (zz [(0,_),(1,_),(6,_),(13,_),(14,_),(15,_),(16,_)] [⟨5,94,slH _ _,_⟩] λ a w U=>?_)
 refine zt<|aa U (zm 6 G) (λ hb0=>?_) (λ hb0=>?_)
 ·have hi:i<l.length:=by simp at hb0; omega
  refine qk<|zt<|qt<|qb<|zg [η] [] [.v 17 _,.v 18 _,.v 19 _,.v 7 _,.v 8 _] [.g 0,.g 1,.g 2,.g 3,.g 4,.g 5,.o 3,.o 4] U (zM 5 G (zv G (bI aN (ap (gq 3 G)) (gq 5 G) zo) (zv G (al (vq 1 G) aT) (zA 0 G (zA 2 G o0))))) (zz [(0,_),(1,_),(6,_),(13,_),(14,_),(15,_),(7,_),(8,_)] [⟨5,94,slH _ _,_⟩] λ a w U=>?_)
  refine zt<|zg [some (8,_)] [] [.adr 20 5 .none True,.v 21 _,.v 22 _,.v 23 _,.v 24 _,.v 25 _,.v 26 _,.adr 27 5 (.some _) True,.sto 0] [.g 0,.g 1,.g 2,.g 3,.g 4,.g 5,.g 7] U (oc (ob_a G G cx) (zM 6 G (zM 7 G (zM 1 G (zv G (r_shl (vq 2 G) (vq 3 G) (⟨by omega,by show (s:Int)≤32; omega⟩) (wshl)) (zM 2 G (zv G (r_bor (vq 4 G) (vq 5 G) ((bor32 (qO _ zd) zo).trans (qu _ (up_or hs hc)))) (oc (ob_a G G (dM 0 G zk (lz0 0 G) aN (vq 1 G) zo)) (oc (c4 7 G G G G zk (λ _=>bL _ _ _ _) (vq 6 G) aT (ba (by rw [kw zo]; omega))) o0))))))))) (zz [(0,_),(1,_),(6,_),(13,_),(14,_),(15,_),(8,_)] [⟨5,94,slH _ _,_⟩] λ a w U=>?_)
  refine a4<|zg [η] [] [.v 28 _,.v 29 _,.v 30 _,.v 31 _,.v 32 _,.v 33 _,.v 6 _] [.g 0,.g 1,.g 3,.g 4,.g 5,.o 6] U (zM 6 G (zv G (au .u64 zk zk (vq 0 G) (wu64 (zx (hl _ (qg _)) zd))) (zM 1 G (zv G (r_shl (vq 1 G) (vq 2 G) (⟨by omega,by show (s:Int)≤64; omega⟩) (wshl64 (hl _ (qg _)) hs)) (zv G (eI (vq 3 G) (aB 32 G) zd (nshr)) (zv G (au .u32 zk zk (vq 4 G) ((wu32 (zb (shl_lt (hl _ (qg _)) hs))).trans (qu _ (up_div hs hc)))) (zA 5 G o0))))))) (zz [(0,_),(1,_),(13,_),(14,_),(15,_),(6,_)] [⟨5,94,slH _ _,_⟩] λ a w U=>?_)
  refine ai ?_
  refine a4<|zg [η] [] [.v 34 _,.v 15 _] [.g 0,.g 1,.g 2,.g 3,.g 5,.o 1] U (zv G (aU (gq 4 G) a5 (bo zo)) (zv G (a7 (vq 0 G)) o0)) (zz [(0,_),(1,_),(13,_),(14,_),(6,_),(15,_)] [⟨5,94,slH _ _,_⟩] λ a w U=>?_)
  refine a4 ?_
  have U:=St.sel U [0,1,4,2,3,5]
  rw [upSt_step hi,up_carry hi] at U; exact ⟨n-1,by omega,i+1,by omega,U⟩
 ·obtain rfl:i=l.length:=by simp at hb0; omega
  refine zf<|aj<|aj<|az<|zt<|zg [some (5,_)] [] [.adr 35 5 .none True,.v 36 _,.v 37 _,.v 38 _,.adr 39 5 (.some _) True,.sto 0] [] U (oc (ob_a G G cx) (zM 0 G (zv G (aG Try.underlying23 (ap (vq 1 G))) (zM 2 G (oc (ob_a G G (dM 0 G zk (lz0 0 G) aN (vq 2 G) zo)) (oc (c4 4 G G G G zk (λ _=>bL _ _ _ _) (vq 3 G) aT (ba (by rw [kw zo]; omega))) o0)))))) (zz [] [⟨5,94,slH _ _,_⟩] λ a w U=>?_)
  refine zt<|cR (sts:=[none]) (news:=[]) (sp:=[.adr 40 5 .none True,.adr 4 5 .none True]) [] [(4,5)] [⟨4,94,slH _ _,_⟩] U (oc (ob_a G G cx) (oc (ob_a G G (a_asg2 0 G zk)) o0)) zk zk zk ⟨⟨1,rfl⟩,trivial⟩ G zk (zz [] [⟨4,94,slH _ _,_⟩] λ a w U=>?_)
  refine a4<|qh ?_
  rw [upSt_end hl hs] at U
  exact ret_rowr G U hB0 (zm 0 G)
end Go.Proofs.Ytlakjmncfooodaa
