import Derived.Test.YtmacliockgbdcaaGreatDoorBfAa
import Derived.Test.YtmacliockgbdcaaGreatDoorBfAc
import Derived.Test.YtmacliockgbdcaaGreatDoorBfAe
set_option linter.unusedVariables false
set_option linter.unusedSimpArgs false
set_option linter.unusedSectionVars false
set_option maxRecDepth 100000
namespace Go.Proofs.YtmacliockgbdcaaGreatDoor
open Go Go.RowKit
theorem np:∀ {l:List Nat} {j x:Nat} (h:j<l.length),val (l.set j x)+4294967296^j*l[j]=val l+4294967296^j*x
 | [],j,x,h=>by simp at h
 | y::ys,0,x,_=>by simp [val]; omega
 | y::ys,j+1,x,h=>by
  have:=np (l:=ys) (j:=j) (x:=x) (by simpa using h)
  simp only [List.set_cons_succ,val,List.getElem_cons_succ,Nat.pow_succ]
  have e:∀ z,4294967296^j*4294967296*z=4294967296*(4294967296^j*z):=fun z=>by rw [Nat.mul_comm (4294967296^j),Nat.mul_assoc]
  rw [e,e]
  omega
theorem td {l:List Nat}(h:okL l)(j:Nat){x:Nat}(hx:x<4294967296):okL (l.set j x):=fun y hy=>by
 rcases List.mem_or_eq_of_mem_set hy with h1 | h1
 ·exact h y h1
 ·subst h1; exact hx
structure MulO (a b L:List Nat) (i:Nat):Prop where
 len:L.length=a.length+b.length
 ok:okL L
 vl:val L=val (a.take i)*val b
 zero:∀ j,i+b.length≤j→L.getD j 0=0
structure MulI (a b L:List Nat) (i u k c:Nat):Prop where
 len:L.length=a.length+b.length
 ok:okL L
 cl:c<4294967296
 vl:val L+c*4294967296^(i+k)=val (a.take i)*val b+4294967296^i*(u*val (b.take k))
 zero:∀ j,i+b.length≤j→L.getD j 0=0
theorem MulO.start (a b:List Nat):MulO a b (List.replicate (a.length+b.length) 0) 0:=⟨by simp,fun x hx=>by rw [(List.mem_replicate.1 hx).2]; decide,by simp [lO],fun j _=>by rw [List.getD_eq_getElem?_getD,List.getElem?_replicate]; split <;> rfl⟩
theorem MulO.row {a b L:List Nat}{i:Nat}(h:MulO a b L i)(u:Nat):MulI a b L i u 0 0:=⟨h.len,h.ok,by decide,by rw [h.vl]; simp,h.zero⟩
theorem gZ {u v c l:Nat}(hu:u<4294967296)(hv:v<4294967296)(hc:c<4294967296)(hl:l<4294967296):c+(u*v+l)<18446744073709551616:=by
 have:u*v≤4294967295*4294967295:=Nat.mul_le_mul zo zo
 omega
theorem Be {V V' W Z p q r u x y c t B d m:Nat}(hp:p=q*r)(ht:t=c+(u*x+y))(hd:B*d+m=t)(h2:V'+p*y=V+p*m)(h3:V+c*p=W+q*(u*Z)):V'+d*(p*B)=W+q*(u*(Z+r*x)):=by
 grind
theorem MulI.step {a b L:List Nat}{i u k c:Nat}(h:MulI a b L i u k c)(hb:okL b)(hu:u<4294967296)(hk:k<b.length)(hj:i+k<L.length) :
  MulI a b (L.set (i+k) ((c+(u*b[k]+L[i+k]))%4294967296)) i u (k+1) ((c+(u*b[k]+L[i+k]))/4294967296):=by
 have h1:=gZ hu (hb _ (List.getElem_mem hk)) h.cl (h.ok _ (List.getElem_mem hj))
 refine ⟨by rw [List.length_set,h.len],td h.ok _ (Nat.mod_lt _ zd),Nat.div_lt_of_lt_mul h1,?_,fun j hj'=>?_⟩
 ·have h2:=np (x:=(c+(u*b[k]+L[i+k]))%4294967296) hj
  have h3:=h.vl
  rw [bA hk,show i+(k+1)=(i+k)+1 from rfl,Nat.pow_succ]
  exact Be (Nat.pow_add _ _ _) G (Nat.div_add_mod _ _) h2 h3
 ·have:=h.zero j hj'
  rw [List.getD_eq_getElem?_getD,List.getElem?_set_ne zo,← List.getD_eq_getElem?_getD]
  exact this
theorem MulI.done {a b L:List Nat}{i u c:Nat}(h:MulI a b L i u b.length c)(hi:i<a.length)(hu:a[i]=u):MulO a b (L.set (i+b.length) c) (i+1):=by
 have hj:i+b.length<L.length:=by rw [h.len]; omega
 have h1:=np (x:=c) hj
 have h2:=h.vl
 have h3:L[i+b.length]=0:=by have:=h.zero _ (Nat.le_refl _); rwa [cK hj] at this
 rw [h3,Nat.mul_zero,Nat.add_zero] at h1
 rw [List.take_of_length_le (Nat.le_refl _)] at h2
 refine ⟨by rw [List.length_set,h.len],td h.ok _ h.cl,?_,fun j hj'=>?_⟩
 ·rw [h1,Nat.mul_comm _ c,h2,bA hi,hu,Nat.add_mul,Nat.mul_assoc]
 ·rw [List.getD_eq_getElem?_getD,List.getElem?_set_ne zo,← List.getD_eq_getElem?_getD]
  exact h.zero j zo
theorem MulO.fin {a b L:List Nat}(h:MulO a b L a.length):L=digs (a.length+b.length) (val a*val b):=jk h.ok h.len (by rw [h.vl,List.take_length])
theorem rI (x y:RI)(hxs:x.mag.length≤1099511627776)(hys:y.mag.length≤1099511627776):Cn Tryz.prog 105 [(RIA x).va,(RIA y).va] ((RIN (rsig (x.neg != y.neg) (digs (x.mag.length+y.mag.length) (val x.mag*val y.mag)))).va):=by
 refine Cn.introW Tryz.func105 G zk nq (.cons (qj _).va (.cons (qj _).va .nil)) (fN _).va (fun B w0 a hB0 U=>?_)
 have U:=zn [(0,(RIO x).va),(1,(RIO y).va)] [] U
 refine wp_seq<|zg [] [⟨2,25,ptrH,some 0,_,none⟩,⟨3,25,ptrH,some 1,_,none⟩,⟨4,25,ptrH,some 2,_,none⟩] [.alc 0,.alc 1,.alc 2] [] U (oc (ay G G G (gq 0 G)) (oc (ay G G G (gq 1 G)) (oc (aJ G G G (Str.zero fj)) o0))) (zz [] [O 2 25 _,O 3 25 _,O 4 25 _] fun a w U=>?_)
 refine zt<|zgd [[],[0],[],[2],[0,1],[0,1,2,3,4]] [none,none,none] [] [.adr 13 2 (.some 1) True,.v 14 _,.adr 15 3 (.some 1) True,.v 16 _,.v 5 _,.v 6 _] [.o 4,.o 5] ab U (oc (ob_a G G (ac (lz0 0 G) au)) (zL 0 0 1 G aW (oc (ob_a G G (ac (lz0 1 G) au)) (zL 2 1 1 G aW (zA 1 G (zA 3 G o0)))))) zk zk zk zk (zz [(5,_),(6,_)] [O 2 25 _,O 3 25 _,O 4 25 _] fun a w U=>?_)
 refine zt<|d7 (sts:=[none,none,none]) (news:=[⟨22,109,slH _ _,some 5,_,none⟩]) (sp:=[.v 17 _,.v 18 _,.v 19 _,.v 20 _,.v 21 _,.alc 3,.adr 7 22 .none True]) [.g 0,.g 1] [(7,22)] [O 2 25 _,O 3 25 _,O 4 25 _,⟨7,109,slH _ _,_⟩] U (zM 0 G (zv G (aI Tryz.underlying23 (aL (vq 0 G))) (zM 1 G (zv G (aI Tryz.underlying23 (aL (vq 2 G))) (zv G (aR (vq 1 G) (vq 3 G) (fQ zo)) (oc (dU G G G eI (vq 4 G) (vq 4 G) zo) (oc (ob_a G G jy) o0))))))) zk zk zk ⟨⟨6,rfl⟩,trivial⟩ G zk (zz [(5,_),(6,_)] [O 2 25 _,O 3 25 _,O 4 25 _,⟨7,109,slH _ _,_⟩] fun a w U=>?_)
 refine zt<|wp_seq<|zg [none,none,none,none] [] [.v 23 _,.v 24 _,.v 25 _] [.g 1,.o 0,.o 1,.o 2] U (zM 0 G (zv G (aI Tryz.underlying23 (aL (vq 0 G))) (zv G (ae a8) o0))) (zz [(6,_),(23,_),(24,_),(25,_)] [O 2 25 _,O 3 25 _,O 4 25 _,⟨7,109,slH _ _,_⟩] fun a w U=>?_)
 refine a7<|wp_block ?_
 have U:=St.sel U [0,1,2,3]
 refine wp_loop_ghost (fun n a w=>∃ (i:Nat) (L:List Nat),n+i=x.mag.length∧MulO x.mag y.mag L i∧St B w0 78 [(6,(MgO y.mag).va),(23,(MgO x.mag).va),(24,In (x.mag.length:Nat)),(25,In (i:Nat))] [⟨2,25,ptrH,RIO x⟩,⟨3,25,ptrH,RIO y⟩,⟨4,25,ptrH,cat [BoA false,MgO []]⟩,⟨7,109,slH (x.mag.length+y.mag.length) (x.mag.length+y.mag.length),Nums .u32 L⟩] a w) (x.mag.length) ?_ ?_
 ·exact ⟨0,_,by omega,MulO.start _ _,U⟩
 intro n a w hI
 obtain ⟨i,L,hn,hO,U⟩:=hI; obtain ⟨n1,hn1⟩:∃ n1,n1=n:=⟨n,rfl⟩; have hb:=(U.magO 0 rfl).1; have ha:=(U.magO 1 rfl).1; have hlen:=hO.len
 refine wp_seq<|zg [none,none,none,none] [] [.v 26 _] [.g 0,.g 1,.g 2,.g 3,.o 0] U (zv G (aN (gq 3 G) (gq 2 G)) o0) (zz [(6,_),(23,_),(24,_),(25,_),(26,_)] [O 2 25 _,O 3 25 _,O 4 25 _,⟨7,109,slH _ _,_⟩] fun a w U=>?_)
 refine zt<|ah U (zm 4 G) (fun hb0=>?_) (fun hb0=>?_)
 ·have hi:i<x.mag.length:=by simp at hb0; omega
  refine wp_skip<|zt<|wp_block<|wp_seq<|zg [none,none,none,none] [] [.v 27 _,.v 28 _,.v 29 _,.v 8 _,.v 9 _] [.g 0,.g 1,.g 2,.g 3,.o 3,.o 4] U (zM 3 G (zv G (bH aZ (aL (gq 1 G)) (gq 3 G) zo) (zv G (aq (vq 1 G) aO) (zA 0 G (zA 2 G o0))))) (zz [(6,_),(23,_),(24,_),(25,_),(8,_),(9,_)] [O 2 25 _,O 3 25 _,O 4 25 _,⟨7,109,slH _ _,_⟩] fun a w U=>?_)
  refine zt<|zg [none,none,none,none] [] [.v 10 _] [.g 0,.g 1,.g 2,.g 3,.g 4,.g 5,.o 0] U (zv G (a9 (aF 0 G)) o0) (zz [(6,_),(23,_),(24,_),(25,_),(8,_),(9,_),(10,_)] [O 2 25 _,O 3 25 _,O 4 25 _,⟨7,109,slH _ _,_⟩] fun a w U=>?_)
  refine zt<|wp_seq<|zg [none,none,none,none] [] [.v 30 _,.v 31 _,.v 32 _] [.g 0,.g 1,.g 2,.g 3,.g 4,.g 5,.g 6,.o 0,.o 1,.o 2] U (zM 0 G (zv G (aI Tryz.underlying23 (aL (vq 0 G))) (zv G (ae a8) o0))) (zz [(6,_),(23,_),(24,_),(25,_),(8,_),(9,_),(10,_),(30,_),(31,_),(32,_)] [O 2 25 _,O 3 25 _,O 4 25 _,⟨7,109,slH _ _,_⟩] fun a w U=>?_)
  refine a7<|wp_block ?_
  have U:=St.sel U [0,1,2,3,4,5,6,7,8,9]
  refine wp_loop_ghost (fun n a w=>∃ (k c:Nat) (L:List Nat),n+k=y.mag.length∧MulI x.mag y.mag L i x.mag[i] k c∧St B w0 78 [(6,(MgO y.mag).va),(23,(MgO x.mag).va),(24,In (x.mag.length:Nat)),(25,In (i:Nat)),(8,In (i:Nat)),(9,(NumA .u32 (x.mag[i]:Nat)).va),(10,(NumA .u64 (c:Nat)).va),(30,(MgO y.mag).va),(31,In (y.mag.length:Nat)),(32,In (k:Nat))] [⟨2,25,ptrH,RIO x⟩,⟨3,25,ptrH,RIO y⟩,⟨4,25,ptrH,cat [BoA false,MgO []]⟩,⟨7,109,slH (x.mag.length+y.mag.length) (x.mag.length+y.mag.length),Nums .u32 L⟩] a w) (y.mag.length) ?_ ?_
  ·exact ⟨0,0,L,by omega,hO.row _,U⟩
  intro n a w hI
  clear hlen hO; obtain ⟨k,c,L,hn2,hI,U⟩:=hI; have hlen:=hI.len; have hc:=hI.cl
  refine wp_seq<|zg [none,none,none,none] [] [.v 33 _] [.g 0,.g 1,.g 2,.g 3,.g 4,.g 5,.g 6,.g 7,.g 8,.g 9,.o 0] U (zv G (aN (gq 9 G) (gq 8 G)) o0) (zz [(6,_),(23,_),(24,_),(25,_),(8,_),(9,_),(10,_),(30,_),(31,_),(32,_),(33,_)] [O 2 25 _,O 3 25 _,O 4 25 _,⟨7,109,slH _ _,_⟩] fun a w U=>?_)
  refine zt<|ah U (zm 10 G) (fun hb1=>?_) (fun hb1=>?_)
  ·have hk:k<y.mag.length:=by simp at hb1; omega
   refine wp_skip<|zt<|wp_block<|wp_seq<|zg [none,none,none,none] [] [.v 34 _,.v 35 _,.v 36 _,.v 11 _,.v 12 _] [.g 0,.g 1,.g 2,.g 3,.g 4,.g 5,.g 6,.g 7,.g 8,.g 9,.o 3,.o 4] U (zM 9 G (zv G (bH aZ (aL (gq 7 G)) (gq 9 G) zo) (zv G (aq (vq 1 G) aO) (zA 0 G (zA 2 G o0))))) (zz [(6,_),(23,_),(24,_),(25,_),(8,_),(9,_),(10,_),(30,_),(31,_),(32,_),(11,_),(12,_)] [O 2 25 _,O 3 25 _,O 4 25 _,⟨7,109,slH _ _,_⟩] fun a w U=>?_)
   refine zt<|zg [none,none,none,none] [] [.v 37 _,.v 38 _,.v 39 _,.v 40 _,.v 41 _,.v 42 _,.adr 43 7 .none True,.v 44 _,.v 45 _,.v 46 _,.adr 47 7 (.some _) True,.v 48 _,.v 49 _,.v 50 _,.v 51 _,.v 10 _] [.g 0,.g 1,.g 2,.g 3,.g 4,.g 5,.g 7,.g 8,.g 9,.g 10,.o 15] U (zM 6 G (zM 5 G (zv G (aE .u64 zk zk (vq 1 G) (wu64 (Nat.lt_trans (ha _ (List.getElem_mem _)) zd))) (zM 11 G (zv G (aE .u64 zk zk (vq 3 G) (wu64 (Nat.lt_trans (hb _ (List.getElem_mem _)) zd))) (zv G (kG (vq 2 G) (vq 4 G) (wmul64 (Nat.lt_of_le_of_lt (Nat.le_trans (Nat.le_add_right _ _) (Nat.le_add_left _ _)) (gZ (ha _ (List.getElem_mem _)) (hb _ (List.getElem_mem _)) (show 0<4294967296 by decide) (show 0<4294967296 by decide))))) (oc (ob_a G G cL) (zM 4 G (zM 10 G (zv G (aR (vq 7 G) (vq 8 G) (fQ zo)) (oc (ob_a G G (em 6 G zk (lz0 3 G) aZ (vq 9 G) zo)) (zv G (nF 10 G zk (lz0 3 G) (fun _=>bX _ _ _ _) (kV zo) aO) (zv G (aE .u64 zk zk (vq 11 G) (wu64 (Nat.lt_trans (hI.ok _ (List.getElem_mem _)) zd))) (zv G (aR (vq 5 G) (vq 12 G) (wadd64 (Nat.lt_of_le_of_lt (Nat.le_add_left _ _) (gZ (ha _ (List.getElem_mem _)) (hb _ (List.getElem_mem _)) hc (hI.ok _ (List.getElem_mem _)))))) (zv G (aR (vq 0 G) (vq 13 G) (wadd64 (gZ (ha _ (List.getElem_mem _)) (hb _ (List.getElem_mem _)) hc (hI.ok _ (List.getElem_mem _))))) (zA 14 G o0)))))))))))))))) (zz [(6,_),(23,_),(24,_),(25,_),(8,_),(9,_),(30,_),(31,_),(32,_),(11,_),(10,_)] [O 2 25 _,O 3 25 _,O 4 25 _,⟨7,109,slH _ _,_⟩] fun a w U=>?_)
   refine zt<|zg [none,none,none,some (7,_)] [] [.adr 52 7 .none True,.v 53 _,.v 54 _,.v 55 _,.v 56 _,.v 57 _,.adr 58 7 (.some _) True,.sto 3] [.g 0,.g 1,.g 2,.g 3,.g 4,.g 5,.g 6,.g 7,.g 8,.g 10] U (oc (ob_a G G cL) (zM 4 G (zM 9 G (zv G (aR (vq 1 G) (vq 2 G) (fQ zo)) (zM 10 G (zv G (aE .u32 zk zk (vq 4 G) (wu32')) (oc (ob_a G G (em 0 G zk (lz0 3 G) aZ (vq 3 G) zo)) (oc (cA 6 G G G G zk (fun _=>bX _ _ _ _) (vq 5 G) aO (bC zo)) o0)))))))) (zz [(6,_),(23,_),(24,_),(25,_),(8,_),(9,_),(30,_),(31,_),(32,_),(10,_)] [O 2 25 _,O 3 25 _,O 4 25 _,⟨7,109,slH _ _,_⟩] fun a w U=>?_)
   refine a7<|zg [none,none,none,none] [] [.v 59 _,.v 60 _,.v 10 _] [.g 0,.g 1,.g 2,.g 3,.g 4,.g 5,.g 6,.g 7,.g 8,.o 2] U (zM 9 G (zv G (gH (vq 0 G) (aF 32 G) zd (nshr)) (zA 1 G o0))) (zz [(6,_),(23,_),(24,_),(25,_),(8,_),(9,_),(30,_),(31,_),(32,_),(10,_)] [O 2 25 _,O 3 25 _,O 4 25 _,⟨7,109,slH _ _,_⟩] fun a w U=>?_)
   refine ao ?_
   refine a7<|zg [none,none,none,none] [] [.v 61 _,.v 32 _] [.g 0,.g 1,.g 2,.g 3,.g 4,.g 5,.g 6,.g 7,.g 9,.o 1] U (zv G (aR (gq 8 G) a8 (aX zo)) (zv G (ae (vq 0 G)) o0)) (zz [(6,_),(23,_),(24,_),(25,_),(8,_),(9,_),(30,_),(31,_),(10,_),(32,_)] [O 2 25 _,O 3 25 _,O 4 25 _,⟨7,109,slH _ _,_⟩] fun a w U=>?_)
   refine a7 ?_
   have U:=St.sel U [0,1,2,3,4,5,8,6,7,9]
   exact ⟨n-1,by omega,k+1,_,_,by omega,hI.step hb (ha _ (List.getElem_mem _)) hk zo,U⟩
  ·obtain rfl:k=y.mag.length:=by simp at hb1; omega
   refine wp_exit<|ak<|ak<|aC<|a7<|zg [none,none,none,some (8,_)] [] [.adr 62 7 .none True,.v 63 _,.v 64 _,.v 65 _,.v 66 _,.v 67 _,.v 68 _,.adr 69 7 (.some _) True,.sto 3] [.g 0,.g 1,.g 2,.g 3] U (oc (ob_a G G cL) (zM 4 G (zM 0 G (zv G (aI Tryz.underlying23 (aL (vq 2 G))) (zv G (aR (vq 1 G) (vq 3 G) (fQ zo)) (zM 6 G (zv G (aE .u32 zk zk (vq 5 G) (wu32 hc)) (oc (ob_a G G (em 0 G zk (lz0 3 G) aZ (vq 4 G) zo)) (oc (cA 7 G G G G zk (fun _=>bX _ _ _ _) (vq 6 G) aO (bC zo)) o0))))))))) (zz [(6,_),(23,_),(24,_),(25,_)] [O 2 25 _,O 3 25 _,O 4 25 _,⟨7,109,slH _ _,_⟩] fun a w U=>?_)
   refine ao ?_
   refine a7<|zg [none,none,none,none] [] [.v 70 _,.v 25 _] [.g 0,.g 1,.g 2,.o 1] U (zv G (aR (gq 3 G) a8 (aX zo)) (zv G (ae (vq 0 G)) o0)) (zz [(6,_),(23,_),(24,_),(25,_)] [O 2 25 _,O 3 25 _,O 4 25 _,⟨7,109,slH _ _,_⟩] fun a w U=>?_)
   refine a7 ?_
   have U:=St.sel U [0,1,2,3]
   exact ⟨n1-1,by omega,i+1,_,by omega,hI.done hi rfl,U⟩
 ·obtain rfl:i=x.mag.length:=by simp at hb0; omega
  refine wp_exit<|ak<|ak<|aC<|zt<|zg [none,none,some (7,_),none] [] [.adr 71 2 (.some 0) True,.v 72 _,.adr 73 3 (.some 0) True,.v 74 _,.v 75 _,.adr 76 7 .none True,.v 77 _,.sto 2] [] U (oc (ob_a G G (ac (lz0 0 G) aU)) (zL 0 0 0 G ty_4 (oc (ob_a G G (ac (lz0 1 G) aU)) (zL 2 1 0 G ty_4 (zv G (jY zk (vq 1 G) (vq 3 G)) (oc (ob_a G G cL) (zv G (aa (xs:=[.tmp 75,.tmp 76]) (cS _ _) (.cons (vq 4 G) (.cons (g8 5 G zk (lz0 3 G) ⟨hO.len.symm,Nat.le_refl _,by unfold maxLen; omega,hO.ok⟩ hO.len.symm) .nil))) (oc (aA G G G (vq 6 G) al (Eq.trans (b:=2) G G)) o0)))))))) (zz [] [O 2 25 _,O 3 25 _,O 4 25 _,⟨7,109,slH _ _,_⟩] fun a w U=>?_)
  refine a7<|wp_ret<|aB ?_ (az G U (zm 2 G) al)
  rw [hO.fin]; rfl
def sgI (x:RI):Int:=if x.mag.length=0 then 0 else if x.neg then -1 else 1
def cmpI (x y:RI):Int:=if sgI x≠sgI y then (if sgI x<sgI y then -1 else 1) else max (-1) (min 1 (if x.neg then -(sizeL x.mag y.mag) else sizeL x.mag y.mag))
def okRI (x:RI):Bool := !((decide ((x.mag.length:Int)>2048) || (decide ((x.mag.length:Int)>0)&&(((x.mag.getD (x.mag.length-1) 0:Nat):Int)==((0:Nat):Int)))) || (((x.mag.length:Int)==0)&&x.neg))
theorem qa {x:RI}(h:((decide ((x.mag.length:Int)>2048) || (decide ((x.mag.length:Int)>0)&&(((x.mag.getD (x.mag.length-1) 0:Nat):Int)==((0:Nat):Int)))) || (((x.mag.length:Int)==0)&&x.neg))=true):(1:Int)=(if okRI x then 0 else 1):=by unfold okRI; rw [h]; rfl
theorem pZ {x:RI}(h:((decide ((x.mag.length:Int)>2048) || (decide ((x.mag.length:Int)>0)&&(((x.mag.getD (x.mag.length-1) 0:Nat):Int)==((0:Nat):Int)))) || (((x.mag.length:Int)==0)&&x.neg))=false):(0:Int)=(if okRI x then 0 else 1):=by unfold okRI; rw [h]; rfl
theorem bS {neg:Bool}{l:List Nat}{z:Int}(ok:okL l)(hv:val l=z.natAbs)(hn:z≠0→neg=decide (z<0)):rsig neg l=riOf z:=by
 unfold rsig riOf
 rw [d9 ok,hv]
 by_cases h:z=0
 ·subst h; simp [bt]
 ·have h1:limbs z.natAbs≠[]:=by rw [cW zo]; simp
  have h2:(limbs z.natAbs).isEmpty=false:=by cases hh:limbs z.natAbs <;> simp_all
  rw [h2,hn h]; simp
theorem kS (z:Int):okL (riOf z).mag:=(bo _).1
theorem bx (z:Int):val (riOf z).mag=z.natAbs:=aG _
theorem vI {l m:List Nat}(hl:l.length≤1099511627776)(hm:m.length≤1099511627776) : -1099511627777≤sizeL l m∧sizeL l m≤1099511627777:=by
 unfold sizeL; split
 ·omega
 ·split
  ·omega
  ·split <;> omega
theorem rV {x:RI}(h:((x.mag.length:Int)==0)=true):(0:Int)=sgI x:=by simp at h; simp [sgI,h]
theorem rU {x:RI}(h:((x.mag.length:Int)==0)=false)(h2:x.neg=true):(-1:Int)=sgI x:=by simp at h; simp [sgI,h,h2]
theorem rT {x:RI}(h:((x.mag.length:Int)==0)=false)(h2:x.neg=false):(1:Int)=sgI x:=by simp at h; simp [sgI,h,h2]
theorem cmp_e0 {x y:RI}(h:(sgI x != sgI y)=true)(h2:decide (sgI x<sgI y)=true):(-1:Int)=cmpI x y:=by simp at h h2; simp [cmpI,h,h2]
theorem cmp_e1 {x y:RI}(h:(sgI x != sgI y)=true)(h2:decide (sgI x<sgI y)=false):(1:Int)=cmpI x y:=by simp at h h2; simp [cmpI,h]; omega
theorem cmp_e2 {x y:RI}(h:(sgI x != sgI y)=false):max (-1) (min 1 (if x.neg then -(sizeL x.mag y.mag) else sizeL x.mag y.mag))=cmpI x y:=by simp at h; simp [cmpI,h]
theorem oO (x:RI):Cn Tryz.prog 110 [(RIA x).va] (In (sgI x)):=by
 refine Cn.intro Tryz.func110 G zk nq (fun B w0 a U=>?_)
 have U:=zn [(0,(RIA x).va)] [] U
 refine wp_seq<|zg [] [⟨1,25,ptrH,some 0,_,none⟩] [.alc 0,.v 2 _] [.o 1] U (oc (ay G G G (gq 0 G)) (zv G (a9 a8) o0)) (zz [(2,_)] [O 1 25 _] fun a w U=>?_)
 refine zt<|wp_block<|wp_seq<|zg [none] [] [.adr 4 1 (.some 1) True,.v 5 _,.v 6 _,.v 7 _,.v 3 _] [.g 0,.o 4] U (oc (ob_a G G (ac (lz0 0 G) au)) (zL 0 0 1 G aW (zv G (aI Tryz.underlying23 (vq 1 G)) (zv G (bD (vq 2 G) a8) (zA 3 G o0))))) (zz [(2,_),(3,_)] [O 1 25 _] fun a w U=>?_)
 refine a7<|ah U (zm 1 G) (fun hb0=>?_) (fun hb0=>?_)
 ·refine wp_seq<|zg [none] [] [.v 2 _] [.o 0] U (zv G (a9 a8) o0) (zz [(2,_)] [O 1 25 _] fun a w U=>?_)
  refine a7<|wp_ret<|aV ?_
  refine ap ?_
  refine aB ?_ (am G U (zm 0 G))
  exact nu (rV hb0)
 ·refine wp_seq<|zg [none] [] [.adr 9 1 (.some 0) True,.v 10 _,.v 8 _] [.g 0,.o 2] U (oc (ob_a G G (ac (lz0 0 G) aU)) (zL 0 0 0 G ty_4 (zA 1 G o0))) (zz [(2,_),(8,_)] [O 1 25 _] fun a w U=>?_)
  refine a7<|ah U (zm 1 G) (fun hb1=>?_) (fun hb1=>?_)
  ·refine wp_seq<|zg [none] [] [.v 2 _] [.o 0] U (zv G (a9 a8) o0) (zz [(2,_)] [O 1 25 _] fun a w U=>?_)
   refine a7<|wp_ret<|aV ?_
   refine ap ?_
   refine aB ?_ (am G U (zm 0 G))
   exact nu (rU hb0 hb1)
  ·refine wp_skip<|ao ?_
   refine zt<|zg [none] [] [.v 2 _] [.o 0] U (zv G (a9 a8) o0) (zz [(2,_)] [O 1 25 _] fun a w U=>?_)
   refine a7<|wp_ret<|aB ?_ (am G U (zm 0 G))
   exact nu (rT hb0 hb1)
theorem yT (x y:RI)(hxs:x.mag.length≤1099511627776)(hys:y.mag.length≤1099511627776):Cn Tryz.prog 111 [(RIA x).va,(RIA y).va] (In (cmpI x y)):=by
 refine Cn.intro Tryz.func111 G zk nq (fun B w0 a U=>?_)
 have U:=zn [(0,(RIA x).va),(1,(RIA y).va)] [] U
 have hbd:=vI hxs hys
 refine wp_seq<|zg [] [⟨2,25,ptrH,some 0,_,none⟩,⟨3,25,ptrH,some 1,_,none⟩] [.alc 0,.alc 1,.v 4 _] [.o 2] U (oc (ay G G G (gq 0 G)) (oc (ay G G G (gq 1 G)) (zv G (a9 a8) o0))) (zz [(4,_)] [O 2 25 _,O 3 25 _] fun a w U=>?_)
 refine zt<|wp_seq<|zgd [[],[0],[],[0,1,2],[0,1,2,3],[0,1,2,3,4]] [none,none] [] [.v 8 _,.v 9 _,.v 10 _,.v 11 _,.v 5 _,.v 6 _] [.g 0,.o 4,.o 5] ab U (zl 0 G al (zv G (aa (xs:=[.tmp 8]) (oO _) (.cons (vq 0 G) .nil)) (zl 1 G al (zv G (aa (xs:=[.tmp 10]) (oO _) (.cons (vq 2 G) .nil)) (zA 1 G (zA 3 G o0)))))) zk zk zk zk (zz [(4,_),(5,_),(6,_)] [O 2 25 _,O 3 25 _] fun a w U=>?_)
 refine zt<|zg [none,none] [] [.v 12 _,.v 13 _,.v 14 _] [.g 0,.g 1,.g 2,.o 2] U (zM 1 G (zM 2 G (zv G (cI (vq 0 G) (vq 1 G)) o0))) (zz [(4,_),(5,_),(6,_),(14,_)] [O 2 25 _,O 3 25 _] fun a w U=>?_)
 refine a7<|ah U (zm 3 G) (fun hb0=>?_) (fun hb0=>?_)
 ·refine wp_seq<|wp_seq<|zg [none,none] [] [.v 15 _,.v 16 _,.v 17 _] [.g 0,.o 2] U (zM 1 G (zM 2 G (zv G (aN (vq 0 G) (vq 1 G)) o0))) (zz [(4,_),(17,_)] [O 2 25 _,O 3 25 _] fun a w U=>?_)
  refine a7<|ah U (zm 1 G) (fun hb1=>?_) (fun hb1=>?_)
  ·refine wp_seq<|zg [none,none] [] [.v 4 _] [.o 0] U (zv G (a9 a8) o0) (zz [(4,_)] [O 2 25 _,O 3 25 _] fun a w U=>?_)
   refine a7<|wp_ret<|ap ?_
   refine ap ?_
   refine aB ?_ (am G U (zm 0 G))
   exact nu (cmp_e0 hb0 hb1)
  ·refine wp_skip<|zt<|zg [none,none] [] [.v 4 _] [.o 0] U (zv G (a9 a8) o0) (zz [(4,_)] [O 2 25 _,O 3 25 _] fun a w U=>?_)
   refine a7<|wp_ret<|ap ?_
   refine aB ?_ (am G U (zm 0 G))
   exact nu (cmp_e1 hb0 hb1)
 ·refine wp_skip<|zt<|zg [none,none] [] [.adr 18 2 (.some 1) True,.v 19 _,.adr 20 3 (.some 1) True,.v 21 _,.v 22 _,.v 7 _] [.g 0,.o 5] U (oc (ob_a G G (ac (lz0 0 G) au)) (zL 0 0 1 G aW (oc (ob_a G G (ac (lz0 1 G) au)) (zL 2 1 1 G aW (zv G (aa (xs:=[.tmp 19,.tmp 21]) (oN _ _) (.cons (vq 1 G) (.cons (vq 3 G) .nil))) (zA 4 G o0)))))) (zz [(4,_),(7,_)] [O 2 25 _,O 3 25 _] fun a w U=>?_)
  refine zt<|wp_seq<|zg [none,none] [] [.adr 23 2 (.some 0) True,.v 24 _] [.g 0,.g 1,.o 1] U (oc (ob_a G G (ac (lz0 0 G) aU)) (zL 0 0 0 G ty_4 o0)) (zz [(4,_),(7,_),(24,_)] [O 2 25 _,O 3 25 _] fun a w U=>?_)
  refine a7<|bO (fun a w =>  St B w0 30 [(7,In (if x.neg then -(sizeL x.mag y.mag) else sizeL x.mag y.mag))] [⟨2,25,ptrH,RIA x⟩,⟨3,25,ptrH,RIA y⟩] a w) U (zm 2 G) (fun hb2=>?_) (fun hb2=>?_) (fun a w U=>?_)
  ·refine zg [none,none] [] [.v 25 _,.v 26 _,.v 7 _] [.g 0,.o 2] U (zM 1 G (zv G (qu (vq 0 G) ((wi64 zo zo).trans (Int.zero_sub _))) (zA 1 G o0))) (zz [(4,_),(7,_)] [O 2 25 _,O 3 25 _] fun a w U=>?_)
   refine a7 ?_
   have U:=St.sel U [1]
   rw [if_pos hb2]; exact U
  ·refine wp_skip<|a7 ?_
   have U:=St.sel U [1]
   rw [if_neg (by rw [hb2]; decide)]; exact U
  refine zt<|zg [none,none] [] [.v 27 _,.v 28 _,.v 29 _,.v 4 _] [.o 3] U (zM 0 G (zv G (AC a8 (vq 0 G)) (zv G (r_max a8 (vq 1 G)) (zA 2 G o0)))) (zz [(4,_)] [O 2 25 _,O 3 25 _] fun a w U=>?_)
  refine a7<|wp_ret<|aB ?_ (am G U (zm 0 G))
  exact nu (cmp_e2 hb0)
theorem uQ (x:RI):Cn Tryz.prog 210 [(RIA x).va] (In (if okRI x then 0 else 1)):=by
 refine Cn.intro Tryz.func210 G zk nq (fun B w0 a U=>?_)
 have U:=zn [(0,(RIA x).va)] [] U
 have hk:=(gF (U.vals _ (zm 0 rfl))).2
 refine wp_seq<|zg [] [⟨1,25,ptrH,some 0,_,none⟩] [.alc 0,.v 2 _] [.o 1] U (oc (ay G G G (gq 0 G)) (zv G (a9 a8) o0)) (zz [(2,_)] [O 1 25 _] fun a w U=>?_)
 refine zt<|wp_seq<|gl (sts:=[none]) (news:=[]) (sp:=((.adr 3 1 (.some 1) True:Sp)::(.v 4 _)::(.v 5 _)::(.v 6 _)::(.v 7 _)::(.adr 8 1 (.some 1) (_=false))::(.v 9 (Wh (_=false) _))::(.v 10 (Wh (_=false) _))::(.v 11 (Wh (_=false) _))::(.v 12 (Wh (_=false) _))::(.adr 13 1 (.some 1) ((_=false)∧_=true))::(.v 14 (Wh ((_=false)∧_=true) _))::(.adr 15 1 (.some 1) ((_=false)∧_=true))::(.v 16 (Wh ((_=false)∧_=true) _))::(.v 17 (Wh ((_=false)∧_=true) _))::(.v 18 (Wh ((_=false)∧_=true) _))::(.v 19 (Wh ((_=false)∧_=true) _))::(.v 20 (Wh ((_=false)∧_=true) _))::(.v 21 (Wh ((_=false)∧_=true) _))::(.v 22 (Wh (_=false) _))::(.v 23 _)::(.v 24 _)::(.adr 25 1 (.some 1) (_=false))::(.v 26 (Wh (_=false) _))::(.v 27 (Wh (_=false) _))::(.v 28 (Wh (_=false) _))::(.v 29 (Wh (_=false) _))::(.adr 30 1 (.some 0) ((_=false)∧_=true))::(.v 31 (Wh ((_=false)∧_=true) _))::(.v 32 (Wh (_=false) _))::(.v 33 _)::[])) [.g 0,.o 30] U (oc (ob_a G G (ac (lz0 0 G) au)) (zL 0 0 1 G aW (zv G (aI Tryz.underlying23 (vq 1 G)) (zv G (dJ (vq 2 G) a8) (zv G (ae (vq 3 G)) (oc (bM G G G (vq 4 G) nq (fun hg=>ac (lz0 0 G) au)) (oc (an G G G (vq 4 G) nq (fun hg=>aD 5 G zk hg (lz0 0 G) (Sub.part 1 G G) aW)) (oc (an G G G (vq 4 G) nq (fun hg=>aI Tryz.underlying23 (ai (vq 6 G) hg))) (oc (an G G G (vq 4 G) nq (fun hg=>dJ (ai (vq 7 G) hg) a8)) (oc (an G G G (vq 4 G) nq (fun hg=>ae (ai (vq 8 G) hg))) (oc (eR G G G (vq 9 G) nq (fun hg=>ac (lz0 0 G) au)) (oc (bB G G G (vq 9 G) nq (fun hg=>aD 10 G zk hg (lz0 0 G) (Sub.part 1 G G) aW)) (oc (eR G G G (vq 9 G) nq (fun hg=>ac (lz0 0 G) au)) (oc (bB G G G (vq 9 G) nq (fun hg=>aD 12 G zk hg (lz0 0 G) (Sub.part 1 G G) aW)) (oc (bB G G G (vq 9 G) nq (fun hg=>aI Tryz.underlying23 (ai (vq 13 G) hg))) (oc (bB G G G (vq 9 G) nq (fun hg=>ck (ai (vq 14 G) hg) a8 (zp (by have h:=hg.2; simp at h; omega) hk))) (oc (bB G G G (vq 9 G) nq (fun hg=>kI aZ (ai (vq 11 G) hg) (ai (vq 15 G) hg) (by have h:=hg.2; simp at h; omega))) (oc (bB G G G (vq 9 G) nq (fun hg=>aq (ai (vq 16 G) hg) aO)) (oc (bB G G G (vq 9 G) nq (fun hg=>bD (ai (vq 17 G) hg) (aF 0 G))) (oc (an G G G (vq 4 G) nq (fun hg=>bJ (ai (vq 9 G) hg) (eD (vq 18 G) hg))) (zv G (r_or (vq 4 G) (vq 19 G)) (zv G (ae (vq 20 G)) (oc (bM G G G (vq 21 G) nq (fun hg=>ac (lz0 0 G) au)) (oc (an G G G (vq 21 G) nq (fun hg=>aD 22 G zk hg (lz0 0 G) (Sub.part 1 G G) aW)) (oc (an G G G (vq 21 G) nq (fun hg=>aI Tryz.underlying23 (ai (vq 23 G) hg))) (oc (an G G G (vq 21 G) nq (fun hg=>bD (ai (vq 24 G) hg) a8)) (oc (an G G G (vq 21 G) nq (fun hg=>ae (ai (vq 25 G) hg))) (oc (eR G G G (vq 26 G) nq (fun hg=>ac (lz0 0 G) aU)) (oc (bB G G G (vq 26 G) nq (fun hg=>aD 27 G zk hg (lz0 0 G) (Sub.part 0 G G) ty_4)) (oc (an G G G (vq 21 G) nq (fun hg=>bJ (ai (vq 26 G) hg) (eD (vq 28 G) hg))) (zv G (r_or (vq 21 G) (vq 29 G)) o0))))))))))))))))))))))))))))))) (zz [(2,_),(33,_)] [O 1 25 _] fun a w U=>?_)
 refine a7<|ah U (zm 1 G) (fun hb0=>?_) (fun hb0=>?_)
 ·refine wp_seq<|zg [none] [] [.v 2 _] [.o 0] U (zv G (a9 a8) o0) (zz [(2,_)] [O 1 25 _] fun a w U=>?_)
  refine a7<|wp_ret<|ap ?_
  refine aB ?_ (am G U (zm 0 G))
  exact nu (qa hb0)
 ·refine wp_skip<|zt<|zg [none] [] [.v 2 _] [.o 0] U (zv G (a9 a8) o0) (zz [(2,_)] [O 1 25 _] fun a w U=>?_)
  refine a7<|wp_ret<|aB ?_ (am G U (zm 0 G))
  exact nu (pZ hb0)
theorem B7 {n:Int}(h0 : -9223372036854775808≤n)(h:decide (n<0)=true):IntKind.u64.wrap (0-IntKind.u64.wrap n)=(n.natAbs:Nat):=by
 simp at h; simp [IntKind.wrap,IntKind.bits,IntKind.signed]; omega
theorem B6 {n:Int}(h1:n<9223372036854775808)(h:decide (n<0)=false):IntKind.u64.wrap n=(n.natAbs:Nat):=by
 simp at h; simp [IntKind.wrap,IntKind.bits,IntKind.signed]; omega
theorem te {n:Int}(h0 : -9223372036854775808≤n)(h1:n<9223372036854775808):okL [n.natAbs%4294967296,n.natAbs/4294967296]:=by
 intro x hx
 simp at hx
 rcases hx with rfl | rfl <;> omega
theorem of_e2 {n:Int}(h0 : -9223372036854775808≤n)(h1:n<9223372036854775808):(RIA (rsig (decide (n<0)) [n.natAbs%4294967296,n.natAbs/4294967296])).va=Zi n:=by
 rw [bS (te h0 h1) (z:=n) (by simp [val]; omega) (fun _=>rfl)]
theorem of_c (n:Int)(h0 : -9223372036854775808≤n)(h1:n<9223372036854775808):Cn Tryz.prog 113 [In n] (Zi n):=by
 refine Cn.intro Tryz.func113 G zk nq (fun B w0 a U=>?_)
 have U:=zn [(0,In n)] [] U
 refine wp_seq<|zg [] [⟨2,25,ptrH,some 0,_,none⟩] [.alc 0] [.g 0] U (oc (aJ G G G (Str.zero bm)) o0) (zz [(0,_)] [O 2 25 _] fun a w U=>?_)
 refine zt<|zg [none] [] [.v 4 _,.v 5 _,.v 3 _] [.g 0,.o 2] U (zM 0 G (zv G (aE .u64 zk zk (vq 0 G) (G)) (zA 1 G o0))) (zz [(0,_),(3,_)] [O 2 25 _] fun a w U=>?_)
 refine zt<|wp_seq<|zg [none] [] [.v 6 _,.v 7 _] [.g 0,.g 1,.o 1] U (zM 0 G (zv G (aN (vq 0 G) a8) o0)) (zz [(0,_),(3,_),(7,_)] [O 2 25 _] fun a w U=>?_)
 refine a7<|bO (fun a w =>  St B w0 19 [(0,In n),(3,(NumA .u64 (n.natAbs:Nat)).va)] [⟨2,25,ptrH,cat [BoA false,MgA []]⟩] a w) U (zm 2 G) (fun hb0=>?_) (fun hb0=>?_) (fun a w U=>?_)
 ·refine zg [none] [] [.v 8 _,.v 9 _,.v 3 _] [.g 0,.o 2] U (zM 1 G (zv G (qu (vq 0 G) (G)) (zA 1 G o0))) (zz [(0,_),(3,_)] [O 2 25 _] fun a w U=>?_)
  refine a7 ?_
  have U:=St.sel U [0,1]
  rw [B7 h0 hb0] at U; exact U
 ·refine wp_skip<|a7 ?_
  have U:=St.sel U [0,1]
  rw [B6 h1 hb0] at U; exact U
 refine zt<|zg [some (9,_)] [] [.v 10 _,.v 11 _,.v 12 _,.v 13 _,.v 14 _,.v 15 _,.v 16 _,.v 17 _,.v 18 _,.sto 0] [] U (zM 0 G (zv G (aN (vq 0 G) a8) (zM 1 G (zv G (aE .u32 zk zk (vq 2 G) (wu32')) (zM 1 G (zv G (gH (vq 4 G) (aF 32 G) zd (nshr)) (zv G (aE .u32 zk zk (vq 5 G) (wu32 (by show n.natAbs/4294967296<_; omega))) (zv G (da (l:=[_,_]) (xs:=[.tmp 13,.tmp 16]) aZ zk nq nq (te h0 h1) (.cons (vq 3 G) (.cons (vq 6 G) .nil)) G G) (zv G (aa (xs:=[.tmp 11,.tmp 17]) (fV _ _) (.cons (vq 1 G) (.cons (vq 7 G) .nil))) (oc (aA G G G (vq 8 G) al (Eq.trans (b:=2) G G)) o0)))))))))) (zz [] [O 2 25 _] fun a w U=>?_)
 refine a7<|wp_ret<|aB ?_ (az G U (zm 0 G) al)
 exact of_e2 h0 h1
theorem cf {m n:Nat}(h:m≤n):(limbs m).length≤(limbs n).length:=dN (Nat.lt_of_le_of_lt h (bZ (Nat.le_refl _)))
theorem dA {m n:Nat}:(0≤sizeL (limbs m) (limbs n)↔n≤m)∧(0<sizeL (limbs m) (limbs n)↔n<m):=by
 unfold sizeL
 rw [aG,aG]
 by_cases h:(limbs m).length=(limbs n).length
 ·rw [if_neg zo]
  split
  ·omega
  ·split <;> omega
 ·rw [if_pos zo]
  by_cases h2:m≤n
  ·have:=cf h2
   have:m≠n:=fun e=>h (by rw [e])
   omega
  ·have:=cf (Nat.le_of_lt (Nat.lt_of_not_le h2))
   omega
theorem ro {a b:Nat}:val (digs (max (limbs a).length (limbs b).length+1) (a+b))=a+b:=by
 rw [dn,Nat.mod_eq_of_lt]
 have h1:=bZ (n:=a) (k:=max (limbs a).length (limbs b).length) (Nat.le_max_left _ _)
 have h2:=bZ (n:=b) (k:=max (limbs a).length (limbs b).length) (Nat.le_max_right _ _)
 rw [Nat.pow_succ]
 omega
theorem AO {a b:Int}(h:((riOf a).neg==(riOf b).neg)=true):(RIA (rsig (riOf a).neg (digs (max (riOf a).mag.length (riOf b).mag.length+1) (val (riOf a).mag+val (riOf b).mag)))).va=Zi (a+b):=by
 have h':decide (a<0)=decide (b<0):=by simpa [riOf] using h
 rw [bx,bx,bS (bN _ _) (z:=a+b) (by show val (digs (max (limbs a.natAbs).length (limbs b.natAbs).length+1) _)=_; rw [ro]; simp only [decide_eq_decide] at h'; omega) (fun hz=>by show decide (a<0)=_; simp only [decide_eq_decide] at h' ⊢; omega)]
theorem sP {a b:Int}(h:((riOf a).neg==(riOf b).neg)=false)(h2:b.natAbs≤a.natAbs):(RIA (rsig (riOf a).neg (limbs (val (riOf a).mag-val (riOf b).mag)))).va=Zi (a+b):=by
 have h':¬ decide (a<0)=decide (b<0):=by simpa [riOf] using h
 rw [bx,bx,bS (bo _).1 (z:=a+b) (by rw [aG]; simp only [decide_eq_decide] at h'; omega) (fun hz=>by show decide (a<0)=_; simp only [decide_eq_decide] at h' ⊢; omega)]
theorem sO {a b:Int}(h:((riOf a).neg==(riOf b).neg)=false)(h2:a.natAbs≤b.natAbs):(RIA (rsig (riOf b).neg (limbs (val (riOf b).mag-val (riOf a).mag)))).va=Zi (a+b):=by
 have h':¬ decide (a<0)=decide (b<0):=by simpa [riOf] using h
 rw [bx,bx,bS (bo _).1 (z:=a+b) (by rw [aG]; simp only [decide_eq_decide] at h'; omega) (fun hz=>by show decide (b<0)=_; simp only [decide_eq_decide] at h' ⊢; omega)]
theorem gM {a b:Int}(h:decide (sizeL (riOf a).mag (riOf b).mag≥0)=true):b.natAbs≤a.natAbs:=(dA (m:=a.natAbs) (n:=b.natAbs)).1.1 (by simpa [riOf] using h)
theorem gL {a b:Int}(h:decide (sizeL (riOf a).mag (riOf b).mag≥0)=false):a.natAbs≤b.natAbs:=by
 have:=(dA (m:=a.natAbs) (n:=b.natAbs)).1
 have h':¬ 0≤sizeL (limbs a.natAbs) (limbs b.natAbs):=by simpa [riOf] using h
 omega
theorem tr {b:Int}:(cat (setAll [BoA false,MgA []] [(0,BoA (!(riOf b).neg&&decide (((riOf b).mag.length:Int)>0))),(1,MgA (riOf b).mag)])).va=Zi (-b):=by
 have e:(!(riOf b).neg&&decide (((riOf b).mag.length:Int)>0))=(riOf (-b)).neg:=by
  by_cases h:b=0
  ·subst h; simp [riOf,bt]
  ·have:0<(limbs b.natAbs).length:=by rw [cW zo]; simp
   simp [riOf,this]
   by_cases h2:b<0 <;> simp [h2] <;> omega
 rw [e]
 have e2:(riOf b).mag=(riOf (-b)).mag:=by simp [riOf]
 rw [e2]
 rfl
theorem j3 (b:Int):lz (-b)=lz b:=by simp [lz]
theorem plus_c (p q:Int)(hp:lz p≤1099511627776)(hq:lz q≤1099511627776):Cn Tryz.prog 171 [Zi p,Zi q] (Zi (p+q)):=by
 refine Cn.intro Tryz.func171 G zk nq (fun B w0 a U=>?_)
 have U:=zn [(0,Zi p),(1,Zi q)] [] U
 refine wp_seq<|zg [] [⟨2,25,ptrH,some 0,_,none⟩,⟨3,25,ptrH,some 1,_,none⟩,⟨4,25,ptrH,some 2,_,none⟩] [.alc 0,.alc 1,.alc 2] [] U (oc (ay G G G (gq 0 G)) (oc (ay G G G (gq 1 G)) (oc (aJ G G G (Str.zero bm)) o0))) (zz [] [O 2 25 _,O 3 25 _,O 4 25 _] fun a w U=>?_)
 refine zt<|wp_seq<|zg [none,none,none] [] [.adr 5 2 (.some 0) True,.v 6 _,.adr 7 3 (.some 0) True,.v 8 _,.v 9 _] [.o 4] U (oc (ob_a G G (ac (lz0 0 G) aU)) (zL 0 0 0 G ty_4 (oc (ob_a G G (ac (lz0 1 G) aU)) (zL 2 1 0 G ty_4 (zv G (sB zk (vq 1 G) (vq 3 G)) o0))))) (zz [(9,_)] [O 2 25 _,O 3 25 _,O 4 25 _] fun a w U=>?_)
 refine a7<|ah U (zm 0 G) (fun hb0=>?_) (fun hb0=>?_)
 ·refine wp_seq<|zgd [[],[0],[],[2],[],[4],[2,3,4,5],[0,1,2,3,4,5,6],[0,1,2,3,4,5,6,7]] [none,none,some (8,_)] [] [.adr 10 2 (.some 0) True,.v 11 _,.adr 12 2 (.some 1) True,.v 13 _,.adr 14 3 (.some 1) True,.v 15 _,.v 16 _,.v 17 _,.sto 2] [] ab U (oc (ob_a G G (ac (lz0 0 G) aU)) (zL 0 0 0 G ty_4 (oc (ob_a G G (ac (lz0 0 G) au)) (zL 2 0 1 G aW (oc (ob_a G G (ac (lz0 1 G) au)) (zL 4 1 1 G aW (zv G (aa (xs:=[.tmp 13,.tmp 15]) ((add_c _ _ hp hq).free (gb _).va) (.cons (vq 3 G) (.cons (vq 5 G) .nil))) (zv G (aa (xs:=[.tmp 11,.tmp 16]) (fV _ _) (.cons (vq 1 G) (.cons (vq 6 G) .nil))) (oc (aA G G G (vq 7 G) al (Eq.trans (b:=2) G G)) o0))))))))) zk zk zk zk (zz [] [O 2 25 _,O 3 25 _,O 4 25 _] fun a w U=>?_)
  refine a7<|wp_ret<|ap ?_
  refine aB ?_ (az G U (zm 2 G) al)
  exact AO hb0
 ·refine wp_skip<|zt<|wp_seq<|zg [none,none,none] [] [.adr 18 2 (.some 1) True,.v 19 _,.adr 20 3 (.some 1) True,.v 21 _,.v 22 _,.v 23 _] [.o 5] U (oc (ob_a G G (ac (lz0 0 G) au)) (zL 0 0 1 G aW (oc (ob_a G G (ac (lz0 1 G) au)) (zL 2 1 1 G aW (zv G (aa (xs:=[.tmp 19,.tmp 21]) (oN _ _) (.cons (vq 1 G) (.cons (vq 3 G) .nil))) (zv G (eK (vq 4 G) a8) o0)))))) (zz [(23,_)] [O 2 25 _,O 3 25 _,O 4 25 _] fun a w U=>?_)
  refine a7<|ah U (zm 0 G) (fun hb1=>?_) (fun hb1=>?_)
  ·refine wp_seq<|zgd [[],[0],[],[2],[],[4],[2,3,4,5],[0,1,2,3,4,5,6],[0,1,2,3,4,5,6,7]] [none,none,some (8,_)] [] [.adr 24 2 (.some 0) True,.v 25 _,.adr 26 2 (.some 1) True,.v 27 _,.adr 28 3 (.some 1) True,.v 29 _,.v 30 _,.v 31 _,.sto 2] [] ab U (oc (ob_a G G (ac (lz0 0 G) aU)) (zL 0 0 0 G ty_4 (oc (ob_a G G (ac (lz0 0 G) au)) (zL 2 0 1 G aW (oc (ob_a G G (ac (lz0 1 G) au)) (zL 4 1 1 G aW (zv G (aa (xs:=[.tmp 27,.tmp 29]) ((vB _ _ hp (cf (gM hb1)) (by show val (limbs _)≤val (limbs _); rw [aG,aG]; exact gM hb1)).free (gb _).va) (.cons (vq 3 G) (.cons (vq 5 G) .nil))) (zv G (aa (xs:=[.tmp 25,.tmp 30]) (fV _ _) (.cons (vq 1 G) (.cons (vq 6 G) .nil))) (oc (aA G G G (vq 7 G) al (Eq.trans (b:=2) G G)) o0))))))))) zk zk zk zk (zz [] [O 2 25 _,O 3 25 _,O 4 25 _] fun a w U=>?_)
   refine a7<|wp_ret<|ap ?_
   refine aB ?_ (az G U (zm 2 G) al)
   exact sP hb0 (gM hb1)
  ·refine wp_skip<|zt<|zgd [[],[0],[],[2],[],[4],[2,3,4,5],[0,1,2,3,4,5,6],[0,1,2,3,4,5,6,7]] [none,none,some (8,_)] [] [.adr 32 3 (.some 0) True,.v 33 _,.adr 34 3 (.some 1) True,.v 35 _,.adr 36 2 (.some 1) True,.v 37 _,.v 38 _,.v 39 _,.sto 2] [] ab U (oc (ob_a G G (ac (lz0 1 G) aU)) (zL 0 1 0 G ty_4 (oc (ob_a G G (ac (lz0 1 G) au)) (zL 2 1 1 G aW (oc (ob_a G G (ac (lz0 0 G) au)) (zL 4 0 1 G aW (zv G (aa (xs:=[.tmp 35,.tmp 37]) ((vB _ _ hq (cf (gL hb1)) (by show val (limbs _)≤val (limbs _); rw [aG,aG]; exact gL hb1)).free (gb _).va) (.cons (vq 3 G) (.cons (vq 5 G) .nil))) (zv G (aa (xs:=[.tmp 33,.tmp 38]) (fV _ _) (.cons (vq 1 G) (.cons (vq 6 G) .nil))) (oc (aA G G G (vq 7 G) al (Eq.trans (b:=2) G G)) o0))))))))) zk zk zk zk (zz [] [O 2 25 _,O 3 25 _,O 4 25 _] fun a w U=>?_)
   refine a7<|wp_ret<|aB ?_ (az G U (zm 2 G) al)
   exact sO hb0 (gL hb1)
theorem tt (p q:Int)(hp:lz p≤1099511627776)(hq:lz q≤1099511627776):Cn Tryz.prog 112 [Zi p,Zi q] (Zi (p-q)):=by
 refine Cn.intro Tryz.func112 G zk nq (fun B w0 a U=>?_)
 have U:=zn [(0,Zi p),(1,Zi q)] [] U
 refine wp_seq<|zg [] [⟨2,25,ptrH,some 0,_,none⟩,⟨3,25,ptrH,some 1,_,none⟩,⟨4,25,ptrH,some 2,_,none⟩] [.alc 0,.alc 1,.alc 2] [] U (oc (ay G G G (gq 0 G)) (oc (ay G G G (gq 1 G)) (oc (aJ G G G (Str.zero bm)) o0))) (zz [] [O 2 25 _,O 3 25 _,O 4 25 _] fun a w U=>?_)
 refine zt<|zg [none,none,some (14,_)] [] [.v 5 _,.adr 6 3 (.some 0) True,.v 7 _,.v 8 _,.v 9 _,.adr 10 3 (.some 1) (_=true),.v 11 (Wh (_=true) _),.v 12 (Wh (_=true) _),.v 13 (Wh (_=true) _),.v 14 _,.adr 15 3 (.some 1) True,.v 16 _,.v 17 _,.v 18 _,.sto 2] [] U (zl 0 G al (oc (ob_a G G (ac (lz0 1 G) aU)) (zL 1 1 0 G ty_4 (zv G (dS (vq 2 G)) (zv G (ae (vq 3 G)) (oc (bM G G G (vq 4 G) nq (fun hg=>ac (lz0 1 G) au)) (oc (an G G G (vq 4 G) nq (fun hg=>aD 5 G zk hg (lz0 1 G) (Sub.part 1 G G) aW)) (oc (an G G G (vq 4 G) nq (fun hg=>aI Tryz.underlying23 (ai (vq 6 G) hg))) (oc (an G G G (vq 4 G) nq (fun hg=>dJ (ai (vq 7 G) hg) a8)) (zv G (bJ (vq 4 G) (vq 8 G)) (oc (ob_a G G (ac (lz0 1 G) au)) (zL 10 1 1 G aW (zv G (bi (xs:=[(0,.tmp 14),(1,.tmp 16)]) (qs:=[(0,_),(1,_)]) bm (.cons ⟨rfl,(vq 9 G),rfl⟩ (.cons ⟨rfl,(vq 11 G),rfl⟩ .nil))) (zv G (aa (xs:=[.tmp 5,.tmp 17]) ((plus_c p (-q) hp (by rw [j3]; exact hq)).pre (congrArg (fun A=>[Zi p,A]) tr)) (.cons (vq 0 G) (.cons (vq 12 G) .nil))) (oc (aA G G G (vq 13 G) al (Eq.trans (b:=2) G G)) o0))))))))))))))) (zz [] [O 2 25 _,O 3 25 _,O 4 25 _] fun a w U=>?_)
 refine a7<|wp_ret<|aB ?_ (az G U (zm 2 G) al)
 exact congrArg Zi Int.sub_eq_add_neg.symm
theorem rz (p:Int)(hp:lz p≤1099511627776):Cn Tryz.prog 174 [Zi p] (Zi (-p)):=by
 refine Cn.intro Tryz.func174 G zk nq (fun B w0 a U=>?_)
 have U:=zn [(0,Zi p)] [] U
 refine wp_seq<|zg [] [⟨1,25,ptrH,some 0,_,none⟩,⟨2,25,ptrH,some 1,_,none⟩] [.alc 0,.alc 1] [] U (oc (ay G G G (gq 0 G)) (oc (aJ G G G (Str.zero bm)) o0)) (zz [] [O 1 25 _,O 2 25 _] fun a w U=>?_)
 refine zt<|zgd [[],[],[0,1],[0,1,2]] [none,some (3,_)] [] [.v 3 _,.v 4 _,.v 5 _,.sto 1] [] ab U (zv G (aa (xs:=[.const (.int .i64 (0))]) (of_c 0 zd zd) (.cons a8 .nil)) (zl 0 G al (zv G (aa (xs:=[.tmp 3,.tmp 4]) (tt 0 p (by simp [lz,bt]) hp) (.cons (vq 0 G) (.cons (vq 1 G) .nil))) (oc (aA G G G (vq 2 G) al (Eq.trans (b:=2) G G)) o0)))) zk zk zk zk (zz [] [O 1 25 _,O 2 25 _] fun a w U=>?_)
 refine a7<|wp_ret<|aB ?_ (az G U (zm 1 G) al)
 exact congrArg Zi (Int.zero_sub p)
def shSt (l ext:List Nat)(d i:Nat):List Nat:=l.take i++digs (l.length-i) (val (l.drop i)/d)++ext
theorem vK (l ext:List Nat)(d:Nat):shSt l ext d l.length=l++ext:=by simp [shSt,digs]
theorem vM (l ext:List Nat)(d:Nat):shSt l ext d 0=digs l.length (val l/d)++ext:=by simp [shSt]
theorem vL {l ext:List Nat}{d i:Nat}(h:i≤l.length):(shSt l ext d i).length=l.length+ext.length:=by simp [shSt,aw]; omega
theorem oP {l ext:List Nat}{d i:Nat}(h:i<l.length)(h2:i<(shSt l ext d (i+1)).length):(shSt l ext d (i+1))[i]=l[i]:=by
 simp only [shSt,List.append_assoc]
 rw [List.getElem_append_left (by simp; omega),List.getElem_take]
theorem Dq (V x d:Nat):x+4294967296*V=d*(4294967296*(V/d))+(V%d*4294967296+x):=by
 have h:=Nat.div_add_mod V d
 have e:4294967296*V=4294967296*(d*(V/d)+V%d):=by rw [h]
 rw [Nat.mul_add,← Nat.mul_assoc,Nat.mul_comm 4294967296 d,Nat.mul_assoc] at e
 omega
theorem Dr {V x d:Nat}(hd:0<d):(x+4294967296*V)/d=4294967296*(V/d)+(V%d*4294967296+x)/d:=by rw [Dq,Nat.mul_add_div hd]
theorem Dp {V x d:Nat}:(x+4294967296*V)%d=(V%d*4294967296+x)%d:=by rw [Dq,Nat.mul_add_mod]
theorem pO {l:List Nat}{i:Nat}(h:i<l.length):val (l.drop i)=l[i]+4294967296*val (l.drop (i+1)):=by rw [List.drop_eq_getElem_cons h]; rfl
theorem mW (n q V:Nat)(hq:q<4294967296):digs (n+1) (4294967296*V+q)=q::digs n V:=by
 show (4294967296*V+q)%4294967296::digs n ((4294967296*V+q)/4294967296)=_
 rw [show (4294967296*V+q)%4294967296=q from by omega,show (4294967296*V+q)/4294967296=V from by omega]
theorem rW {l ext:List Nat}{d i:Nat}(h:i<l.length)(hl:okL l)(hd:0<d):(shSt l ext d (i+1)).set i ((val (l.drop (i+1))%d*4294967296+l[i])/d)=shSt l ext d i:=by
 have hq:=om (h:=val (l.drop (i+1))%d) (l:=l[i]) (d:=d) (Nat.mod_lt _ hd) (hl _ (List.getElem_mem h))
 unfold shSt
 rw [pO h,Dr hd,show l.length-i=(l.length-(i+1))+1 from by omega,mW _ _ _ hq,List.take_succ_eq_append_getElem h,List.append_assoc,List.append_assoc,List.append_assoc,eO _ _ _ _ (by simp; omega)]
 simp
theorem Ah (l ext:List Nat)(c d:Nat)(hl:okL l)(hls:l.length≤1099511627776)(hd0:0<d)(hd:d<4294967296):Cm Tryz.prog 206 109 (Nums .u32 (l++ext)) (Nums .u32 (digs l.length (val l/d)++ext)) [.w (slH l.length c),.v ((NumA .u32 (d:Nat)).va)] ((NumA .u32 (val l%d:Nat)).va):=by
 refine Cm.intro Tryz.func206 G zk nq (fun B g w0 a U=>?_)
 have U:=zn [(0,EqV ((slH l.length c).f g)),(1,(NumA .u32 (d:Nat)).va)] [⟨0,109,slH l.length c,Nums .u32 (l++ext)⟩] U
 refine wp_seq<|zg [none] [] [.v 4 _] [.g 0,.g 1,.o 0] U (zv G (a9 (aF 0 G)) o0) (zz [(0,_),(1,_),(4,_)] [⟨0,109,slH _ _,_⟩] fun a w U=>?_)
 refine zt<|zg [none] [] [.v 5 _] [.g 0,.g 1,.g 2,.o 0] U (zv G (a9 (aF 0 G)) o0) (zz [(0,_),(1,_),(4,_),(5,_)] [⟨0,109,slH _ _,_⟩] fun a w U=>?_)
 refine zt<|wp_seq<|zg [none] [] [.adr 7 0 .none True,.v 8 _,.v 9 _,.v 6 _] [.g 0,.g 1,.g 2,.g 3,.o 3] U (oc (ob_a G G cL) (zv G (r_lenx 0 G zk (lz0 0 G) Tryz.underlying23) (zv G (ck (vq 1 G) a8 (wi64 zo zo)) (zA 2 G o0)))) (zz [(0,_),(1,_),(4,_),(5,_),(6,_)] [⟨0,109,slH _ _,_⟩] fun a w U=>?_)
 refine a7<|wp_block ?_
 have U:=St.sel U [0,1,3,4]
 refine wp_loop_ghost (fun n a w=>n≤l.length∧St B w0 28 [(0,EqV ((slH l.length c).f g)),(1,(NumA .u32 (d:Nat)).va),(5,(NumA .u32 (val (l.drop n)%d:Nat)).va),(6,In ((n:Int)-1))] [⟨0,109,slH l.length c,Nums .u32 (shSt l ext d n)⟩] a w) (l.length) ?_ ?_
 ·exact ⟨Nat.le_refl _,by rw [vK,List.drop_length,show val []%d=0 from by simp [val]]; exact U⟩
 intro n a w hI
 obtain ⟨hn,U⟩:=hI; have hlen:=vL (ext:=ext) (d:=d) hn
 refine wp_seq<|wp_seq<|zg [none] [] [.v 10 _,.v 11 _] [.g 0,.g 1,.g 2,.g 3,.o 1] U (zM 3 G (zv G (eK (vq 0 G) a8) o0)) (zz [(0,_),(1,_),(5,_),(6,_),(11,_)] [⟨0,109,slH _ _,_⟩] fun a w U=>?_)
 refine a7<|ah U (zm 4 G) (fun hb0=>?_) (fun hb0=>?_)
 ·obtain ⟨j,rfl⟩:∃ j,n=j+1:=⟨n-1,by simp at hb0; omega⟩; rw [show ((j+1:Nat):Int)-1=(j:Int) from by omega] at U
  refine wp_skip<|zt<|wp_block<|zg [some (13,_)] [] [.adr 15 0 .none True,.v 16 _,.v 17 _,.adr 18 0 .none True,.v 19 _,.adr 20 0 (.some _) True,.v 21 _,.v 22 _,.v 23 _,.v 14 _,.v 24 _,.v 25 _,.adr 26 0 (.some _) True,.sto 0,.v 5 _] [.g 0,.g 1,.g 3,.o 14] U (oc (ob_a G G cL) (zM 3 G (zM 2 G (oc (ob_a G G cL) (zM 3 G (oc (ob_a G G (em 3 G zk (lz0 0 G) aZ (vq 4 G) zo)) (zv G (nF 5 G zk (lz0 0 G) (fun _=>bX _ _ _ _) (kV zo) aO) (zM 1 G (zv G (aa (xs:=[.tmp 17,.tmp 21,.tmp 22]) (Ct (Nat.mod_lt _ hd0) (by rw [oP zo zo]; exact hl _ (List.getElem_mem _)) hd) (.cons (vq 2 G) (.cons (vq 6 G) (.cons (vq 7 G) .nil)))) (zv G (ae (vq 8 G)) (zv G (aQ (vq 9 G) G) (zv G (aQ (vq 9 G) G) (oc (ob_a G G (em 0 G zk (lz0 0 G) aZ (vq 1 G) zo)) (oc (cA 12 G G G G zk (fun _=>bX _ _ _ _) (vq 10 G) aO (bC zo)) (zA 11 G o0))))))))))))))) (zz [(0,_),(1,_),(6,_),(5,_)] [⟨0,109,slH _ _,_⟩] fun a w U=>?_)
  refine ao ?_
  refine a7<|zg [none] [] [.v 12 _,.v 13 _,.v 6 _] [.g 0,.g 1,.g 3,.o 2] U (zM 2 G (zv G (ck (vq 0 G) a8 (wi64 zo zo)) (zA 1 G o0))) (zz [(0,_),(1,_),(5,_),(6,_)] [⟨0,109,slH _ _,_⟩] fun a w U=>?_)
  refine a7 ?_
  have U:=St.sel U [0,1,2,3]
  rw [oP zo zo,rW zo hl hd0,← Dp,← pO zo] at U; exact ⟨j,by omega,by omega,U⟩
 ·obtain rfl:n=0:=(by simp at hb0; omega); rw [vM] at U
  refine wp_exit<|ak<|ak<|aC<|zt<|zg [none] [] [.v 27 _,.v 4 _] [.g 0,.o 1] U (zM 2 G (zA 0 G o0)) (zz [(0,_),(4,_)] [⟨0,109,slH _ _,_⟩] fun a w U=>?_)
  refine a7<|wp_ret<|fG U (zm 0 G) (zm 0 G) ?_
  exact am G U (zm 1 G)
theorem wshl {u s:Nat}:IntKind.u32.wrap ((u:Int)*2^((s:Int).toNat))=((u*2^s%4294967296:Nat):Int):=by
 rw [Int.toNat_natCast,show (u:Int)*2^s=((u*2^s:Nat):Int) from by simp]; exact wu32'
theorem xZ {u s:Nat}(hu:u<4294967296)(hs:s<32):u*2^s<18446744073709551616:=by
 have h1:2^s≤2^31:=Nat.pow_le_pow_right zd zo
 have h2:u*2^s≤4294967295*2^31:=Nat.mul_le_mul zo h1
 omega
theorem wshl64 {u s:Nat}(hu:u<4294967296)(hs:s<32):IntKind.u64.wrap ((u:Int)*2^((s:Int).toNat))=((u*2^s:Nat):Int):=by
 rw [Int.toNat_natCast,show (u:Int)*2^s=((u*2^s:Nat):Int) from by simp]; exact wu64 (xZ hu hs)
theorem rp {u s:Nat}(hs:s<32):u*2^s%4294967296=2^s*(u%2^(32-s)):=by
 rw [show (4294967296:Nat)=2^s*2^(32-s) from by rw [← Nat.pow_add,show s+(32-s)=32 from by omega],Nat.mul_comm u,Nat.mul_mod_mul_left]
theorem up_or {u s c:Nat}(hs:s<32)(hc:c<2^s):u*2^s%4294967296 ||| c=(c+u*2^s)%4294967296:=by
 rw [rp hs,← Nat.two_pow_add_eq_or_of_lt hc]
 have h1:u%2^(32-s)<2^(32-s):=Nat.mod_lt _ (Nat.pow_pos zd)
 have h2:2^s*(u%2^(32-s)+1)≤2^s*2^(32-s):=Nat.mul_le_mul_left _ h1
 rw [← Nat.pow_add,show s+(32-s)=32 from by omega,Nat.mul_add,Nat.mul_one] at h2
 have h3:=rp (u:=u) hs
 have h4:=Nat.div_add_mod (u*2^s) 4294967296
 omega
theorem D9 {u s c:Nat}(hs:s<32)(hc:c<2^s):u*2^s/4294967296=(c+u*2^s)/4294967296:=by
 have h1:u%2^(32-s)<2^(32-s):=Nat.mod_lt _ (Nat.pow_pos zd)
 have h2:2^s*(u%2^(32-s)+1)≤2^s*2^(32-s):=Nat.mul_le_mul_left _ h1
 rw [← Nat.pow_add,show s+(32-s)=32 from by omega,Nat.mul_add,Nat.mul_one] at h2
 have h3:=rp (u:=u) hs
 have h4:=Nat.div_add_mod (u*2^s) 4294967296
 omega
def upSt (l:List Nat)(s i:Nat):List Nat:=digs i (val (l.take i)*2^s)++List.replicate (l.length+1-i) 0
theorem oC {l:List Nat}{s i:Nat}(h:i≤l.length):(upSt l s i).length=l.length+1:=by simp [upSt,aw]; omega
theorem rq (l:List Nat)(s:Nat):upSt l s 0=List.replicate (l.length+1) 0:=by simp [upSt,digs]
theorem xO {l:List Nat}{s i:Nat}(h:i<l.length):val (l.take (i+1))*2^s=val (l.take i)*2^s+4294967296^i*(l[i]*2^s):=by rw [bA h,Nat.add_mul,Nat.mul_assoc]
theorem Da {l:List Nat}(hl:okL l)(s i:Nat):val (l.take i)*2^s/4294967296^i<2^s:=by
 apply Nat.div_lt_of_lt_mul
 exact Nat.mul_lt_mul_of_pos_right (cH hl i) (Nat.pow_pos zd)
theorem rr {l:List Nat}{s i:Nat}(h:i<l.length):(upSt l s i).set i ((val (l.take i)*2^s/4294967296^i+l[i]*2^s)%4294967296)=upSt l s (i+1):=by
 unfold upSt
 rw [eO _ _ _ _ (aw _ _),iQ _ _ zo,xO h,dG]
 simp only [List.append_assoc,List.singleton_append]
 congr 3
theorem vi {l:List Nat}{s i:Nat}(h:i<l.length):(val (l.take i)*2^s/4294967296^i+l[i]*2^s)/4294967296=val (l.take (i+1))*2^s/4294967296^(i+1):=by rw [xO h,carry_step']
theorem vj {l:List Nat}(hl:okL l){s:Nat}(hs:s<32):(upSt l s l.length).set l.length (val (l.take l.length)*2^s/4294967296^l.length)=digs (l.length+1) (val l*2^s):=by
 have h:=Da hl s l.length
 have h1:2^s≤2^31:=Nat.pow_le_pow_right zd zo
 unfold upSt
 rw [eO _ _ _ _ (aw _ _),iQ _ _ zo,gm,List.take_length] at *
 rw [Nat.mod_eq_of_lt zo]
 simp
theorem up_c (l:List Nat)(s:Nat)(hls:l.length≤1099511627776)(hs:s<32):Cr Tryz.prog 223 109 (slH (l.length+1) (l.length+1)) (Nums .u32 (digs (l.length+1) (val l*2^s))) [(MgA l).va,(NumA .u64 (s:Nat)).va]:=by
 refine Cr.introW Tryz.func223 G zk nq (.cons (iF _).va (.cons (oB _ _).va .nil)) (fun _ _ _ _ h=>h) (fun B w0 a hB0 U=>?_)
 have U:=zn [(0,(MgO l).va),(1,(NumA .u64 (s:Nat)).va)] [] U
 have hl:=(U.magO 0 rfl).1
 refine wp_seq<|zh [.v 4 _] [.g 0,.g 1,.o 0] U (zv G (a9 aP) o0) (zz [(0,_),(1,_),(4,_)] [] fun a w U=>?_)
 refine zt<|d7 (sts:=[]) (news:=[⟨12,109,slH _ _,some 3,_,none⟩]) (sp:=[.v 9 _,.v 10 _,.v 11 _,.alc 0,.adr 5 12 .none True]) [.g 0,.g 1,.g 2] [(5,12)] [⟨5,109,slH _ _,_⟩] U (zM 0 G (zv G (aI Tryz.underlying23 (aL (vq 0 G))) (zv G (aR (vq 1 G) a8 (aX zo)) (oc (dU G G G eI (vq 2 G) (vq 2 G) zo) (oc (ob_a G G jy) o0))))) zk zk zk ⟨⟨4,rfl⟩,trivial⟩ G zk (zz [(0,_),(1,_),(4,_)] [⟨5,109,slH _ _,_⟩] fun a w U=>?_)
 refine zt<|zg [none] [] [.v 6 _] [.g 0,.g 1,.g 2,.o 0] U (zv G (a9 (aF 0 G)) o0) (zz [(0,_),(1,_),(4,_),(6,_)] [⟨5,109,slH _ _,_⟩] fun a w U=>?_)
 refine zt<|wp_seq<|zg [none] [] [.v 13 _,.v 14 _,.v 15 _] [.g 0,.g 1,.g 2,.g 3,.o 0,.o 1,.o 2] U (zM 0 G (zv G (aI Tryz.underlying23 (aL (vq 0 G))) (zv G (ae a8) o0))) (zz [(0,_),(1,_),(4,_),(6,_),(13,_),(14,_),(15,_)] [⟨5,109,slH _ _,_⟩] fun a w U=>?_)
 refine a7<|wp_block ?_
 have U:=St.sel U [0,1,3,4,5,6]
 refine wp_loop_ghost (fun n a w=>∃ i:Nat,n+i=l.length∧St B w0 41 [(0,(MgO l).va),(1,(NumA .u64 (s:Nat)).va),(6,(NumA .u32 (val (l.take i)*2^s/4294967296^i:Nat)).va),(13,(MgO l).va),(14,In (l.length:Nat)),(15,In (i:Nat))] [⟨5,109,slH (l.length+1) (l.length+1),Nums .u32 (upSt l s i)⟩] a w) (l.length) ?_ ?_
 ·exact ⟨0,by omega,by rw [rq,show val (l.take 0)*2^s/4294967296^0=0 from by simp]; exact U⟩
 intro n a w hI
 obtain ⟨i,hn,U⟩:=hI; have hc:=Da hl s i; have h31:2^s≤2^31:=Nat.pow_le_pow_right zd zo
 refine wp_seq<|zg [none] [] [.v 16 _] [.g 0,.g 1,.g 2,.g 3,.g 4,.g 5,.o 0] U (zv G (aN (gq 5 G) (gq 4 G)) o0) (zz [(0,_),(1,_),(6,_),(13,_),(14,_),(15,_),(16,_)] [⟨5,109,slH _ _,_⟩] fun a w U=>?_)
 refine zt<|ah U (zm 6 G) (fun hb0=>?_) (fun hb0=>?_)
 ·have hi:i<l.length:=by simp at hb0; omega
  refine wp_skip<|zt<|wp_block<|wp_seq<|zg [none] [] [.v 17 _,.v 18 _,.v 19 _,.v 7 _,.v 8 _] [.g 0,.g 1,.g 2,.g 3,.g 4,.g 5,.o 3,.o 4] U (zM 5 G (zv G (bH aZ (aL (gq 3 G)) (gq 5 G) zo) (zv G (aq (vq 1 G) aO) (zA 0 G (zA 2 G o0))))) (zz [(0,_),(1,_),(6,_),(13,_),(14,_),(15,_),(7,_),(8,_)] [⟨5,109,slH _ _,_⟩] fun a w U=>?_)
  refine zt<|zg [some (8,_)] [] [.adr 20 5 .none True,.v 21 _,.v 22 _,.v 23 _,.v 24 _,.v 25 _,.v 26 _,.adr 27 5 (.some _) True,.sto 0] [.g 0,.g 1,.g 2,.g 3,.g 4,.g 5,.g 7] U (oc (ob_a G G cL) (zM 6 G (zM 7 G (zM 1 G (zv G (qr (vq 2 G) (vq 3 G) (⟨by omega,by show (s:Int)≤32; omega⟩) (wshl)) (zM 2 G (zv G (qw (vq 4 G) (vq 5 G) ((bor32 (Nat.mod_lt _ zd) zo).trans (congrArg _ (up_or hs hc)))) (oc (ob_a G G (em 0 G zk (lz0 0 G) aZ (vq 1 G) zo)) (oc (cA 7 G G G G zk (fun _=>bX _ _ _ _) (vq 6 G) aO (bC (by rw [oC zo]; omega))) o0))))))))) (zz [(0,_),(1,_),(6,_),(13,_),(14,_),(15,_),(8,_)] [⟨5,109,slH _ _,_⟩] fun a w U=>?_)
  refine a7<|zg [none] [] [.v 28 _,.v 29 _,.v 30 _,.v 31 _,.v 32 _,.v 33 _,.v 6 _] [.g 0,.g 1,.g 3,.g 4,.g 5,.o 6] U (zM 6 G (zv G (aE .u64 zk zk (vq 0 G) (wu64 (Nat.lt_trans (hl _ (List.getElem_mem _)) zd))) (zM 1 G (zv G (qr (vq 1 G) (vq 2 G) (⟨by omega,by show (s:Int)≤64; omega⟩) (wshl64 (hl _ (List.getElem_mem _)) hs)) (zv G (gH (vq 3 G) (aF 32 G) zd (nshr)) (zv G (aE .u32 zk zk (vq 4 G) ((wu32 (Nat.div_lt_of_lt_mul (xZ (hl _ (List.getElem_mem _)) hs))).trans (congrArg _ (D9 hs hc)))) (zA 5 G o0))))))) (zz [(0,_),(1,_),(13,_),(14,_),(15,_),(6,_)] [⟨5,109,slH _ _,_⟩] fun a w U=>?_)
  refine ao ?_
  refine a7<|zg [none] [] [.v 34 _,.v 15 _] [.g 0,.g 1,.g 2,.g 3,.g 5,.o 1] U (zv G (aR (gq 4 G) a8 (aX zo)) (zv G (ae (vq 0 G)) o0)) (zz [(0,_),(1,_),(13,_),(14,_),(6,_),(15,_)] [⟨5,109,slH _ _,_⟩] fun a w U=>?_)
  refine a7 ?_
  have U:=St.sel U [0,1,4,2,3,5]
  rw [rr hi,vi hi] at U; exact ⟨n-1,by omega,i+1,by omega,U⟩
 ·obtain rfl:i=l.length:=by simp at hb0; omega
  refine wp_exit<|ak<|ak<|aC<|zt<|zg [some (5,_)] [] [.adr 35 5 .none True,.v 36 _,.v 37 _,.v 38 _,.adr 39 5 (.some _) True,.sto 0] [] U (oc (ob_a G G cL) (zM 0 G (zv G (aI Tryz.underlying23 (aL (vq 1 G))) (zM 2 G (oc (ob_a G G (em 0 G zk (lz0 0 G) aZ (vq 2 G) zo)) (oc (cA 4 G G G G zk (fun _=>bX _ _ _ _) (vq 3 G) aO (bC (by rw [oC zo]; omega))) o0)))))) (zz [] [⟨5,109,slH _ _,_⟩] fun a w U=>?_)
  refine zt<|d7 (sts:=[none]) (news:=[]) (sp:=[.adr 40 5 .none True,.adr 4 5 .none True]) [] [(4,5)] [⟨4,109,slH _ _,_⟩] U (oc (ob_a G G cL) (oc (ob_a G G (vf 0 G zk)) o0)) zk zk zk ⟨⟨1,rfl⟩,trivial⟩ G zk (zz [] [⟨4,109,slH _ _,_⟩] fun a w U=>?_)
  refine a7<|wp_ret ?_
  rw [vj hl hs] at U
  exact w8 G U hB0 (zm 0 G)
end Go.Proofs.YtmacliockgbdcaaGreatDoor
