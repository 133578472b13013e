import Derived.Test.YtbghmmnkciimdaaGreatDoorPzAb
import Derived.ProofKit
import Derived.OpenShut
import Derived.ChangeOld
import Derived.Below
import Derived.Laws.AppendOwn
import Derived.Laws.OwnMore
import Derived.Deep.DeepAppendRoom
set_option linter.all false
set_option maxRecDepth 100000
set_option autoImplicit true
namespace Go.Proofs.YtbghmmnkciimdaaGreatDoor
open Go Go.RowKit
variable {w:World}{B:Nat}{a:Act}{v:Value}{T:TypeId}{w0:Bs}{Γ:List (Nat × VA)}{Λ:List Lc}{ps:String}{af:Array Edge}{vr:Value}{H:Hd}{cs:List Value}{w':World}{P:Program}{D:List TypeId}
theorem m6 (p q:Int):(p.tdiv q).natAbs=p.natAbs/q.natAbs:=Int.natAbs_tdiv p q
theorem iq (p q:Int):(p.tmod q).natAbs=p.natAbs%q.natAbs:=Int.natAbs_tmod p q
theorem wK {p q:Int}(h:p.tdiv q≠0):(decide (p<0) != decide (q<0))=decide (p.tdiv q<0):=by
 have hp:p≠0:=λ e=>h (by rw [e,Int.zero_tdiv]);have hq:q≠0:=λ e=>h (by rw [e,Int.tdiv_zero]);have e:∀ {x y:Int},0<x→0<y→0≤x.tdiv y:=λ hx hy=>Int.tdiv_nonneg zo zo;by_cases h2:p<0 <;> by_cases h3:q<0
 ·have:0≤(-p).tdiv (-q):=e zo zo;rw [Int.neg_tdiv,Int.tdiv_neg,Int.neg_neg] at this;simp [h2,h3];omega
 ·have:0≤(-p).tdiv q:=e zo zo;rw [Int.neg_tdiv] at this;simp [h2,h3];omega
 ·have:0≤p.tdiv (-q):=e zo zo;rw [Int.tdiv_neg] at this;simp [h2,h3];omega
 ·have:0≤p.tdiv q:=e zo zo;simp [h2,h3];omega
theorem pf {p q:Int}(h:p.tmod q≠0):decide (p<0)=decide (p.tmod q<0):=by
 by_cases h2:p<0
 ·have:0≤(-p).tmod q:=wu _ zo;rw [Int.neg_tmod] at this;simp [h2];omega
 ·have:0≤p.tmod q:=wu _ zo;simp [h2];omega
theorem rr {p q:Int}(h:p.natAbs<q.natAbs):p.tdiv q=0∧p.tmod q=p:=by
 have h1:(p.tdiv q).natAbs=0:=by rw [m6,xL h]
 have h2:p.tdiv q=0:=by omega
 have h3:=Int.tdiv_mul_add_tmod p q;exact ⟨h2,by rw [h2] at h3;simpa using h3⟩
theorem Dz {a b n m:Nat}(ha:a<4294967296^n)(hb:4294967296^(m-1)≤b)(hm:0<m)(hmn:m≤n):a/b<4294967296^(n+1-m):=by
 have hp:0<4294967296^(m-1):=zP zd;rw [kh zo];have:4294967296^(n+1-m)*4294967296^(m-1)≤4294967296^(n+1-m)*b:=zU _ hb;rw [← xg,show n+1-m+(m-1)=n by omega] at this;omega
theorem HH {p q:Int}(h:p.natAbs/q.natAbs<4294967296^n):rsig ((riOf p).neg != (riOf q).neg) (digs n (val (riOf p).mag/val (riOf q).mag))=riOf (p.tdiv q):=by
 rw [bF,bF];exact cj (bY _ _) (by rw [dU,zK h,m6]) wK
theorem Oc {p q:Int}(h:p.natAbs%q.natAbs<4294967296^n):rsig (riOf p).neg (digs n (val (riOf p).mag%val (riOf q).mag))=riOf (p.tmod q):=by
 rw [bF,bF];exact cj (bY _ _) (by rw [dU,zK h,iq]) pf
theorem N6 (p:Int):rsig (riOf p).neg (riOf p).mag=riOf p:=cj (oU p) (bF p) λ _=>rfl
theorem IT {p q:Int}(h:decide (cM (riOf p).mag (riOf q).mag<0)=true):p.natAbs<q.natAbs:=by
 have:=(ee (m:=p.natAbs) (n:=q.natAbs)).1;have h':cM (aA p.natAbs) (aA q.natAbs)<0:=qu h;omega
theorem Ex {p q:Int}(h:decide (cM (riOf p).mag (riOf q).mag<0)=false):q.natAbs≤p.natAbs:=by
 have:=(ee (m:=p.natAbs) (n:=q.natAbs)).1;have h':¬ cM (aA p.natAbs) (aA q.natAbs)<0:=qw h;omega
theorem one_limb' {v:Nat}(hv:val l=v)(ok:okL l)(h:l.length=1):l[0]'zo=v∧v<4294967296:=by
 match l,h with
 | [x],_=>exact ⟨by simpa using hv,by have:=ok x (by simp);simp at hv;omega⟩
theorem ey {q:Int}(h:(riOf q).mag.length=1):(riOf q).mag[0]'zo=q.natAbs∧q.natAbs<4294967296:=one_limb' (bF q) (oU q) h
theorem fy :(riOf p).mag.length=lz p:=rfl
theorem Mg (h:(riOf q).mag.length=k+2):(riOf q).mag.getD (k+1) 0≠0:=by
 have h1:=(bm q.natAbs).2;have h2:(aA q.natAbs).length=k+2:=h;intro hh;apply h1;rw [List.getLast?_eq_getElem?,h2,show k+2-1=k+1 from rfl];have:(aA q.natAbs).getD (k+1) 0=0:=hh;rw [List.getD_eq_getElem?_getD,List.getElem?_eq_getElem zo] at this;rw [List.getElem?_eq_getElem zo];simpa using this
theorem iw (h:q≠0):0<lz q:=by unfold lz;rw [dh zo];simp
theorem fO {p q:Int}(h:p.natAbs≤q.natAbs):lz p≤lz q:=cE h
theorem Hm {q:Int}(h:q≠0):4294967296^(lz q-1)≤q.natAbs:=by
 have:=(bm q.natAbs).lt_val (by rw [dh zo];simp);rw [aI] at this;exact this
theorem fh (q:Int):q.natAbs<4294967296^lz q:=cz (qj _)
theorem zi_zeroN:(cat (lE [BoA false,MgN []] [])).va=(RIN (riOf 0)).va:=by
 rw [show riOf 0=⟨false,[]⟩ from by simp [riOf,bE]]
 rfl
theorem Ll {p q:Int}(hq:q≠0)(hge:q.natAbs≤p.natAbs)(h:(riOf q).mag.length=1):rsig ((riOf p).neg != (riOf q).neg) (digs (riOf p).mag.length (val (riOf p).mag/(riOf q).mag[0]'zo))=riOf (p.tdiv q):=by
 rw [show (riOf q).mag[0]'zo=val (riOf q).mag from by rw [(ey h).1,bF]];have:=Dz (fh p) (Hm hq) (iw hq) (fO hge);rw [show lz q=1 from h] at this;exact HH this
theorem EM {p q:Int}(h:(riOf q).mag.length=1)(hq:q≠0):rsig (riOf p).neg [val (riOf p).mag%(riOf q).mag[0]'zo]=riOf (p.tmod q):=by
 have h1:=ey h;rw [h1.1,bF];have:p.natAbs%q.natAbs<4294967296:=zF (qX _ zo) h1.2;exact cj (okL_cons.2 ⟨this,cU⟩) (by rw [iq];simp) pf
theorem sh (p q:Int)(hq:q≠0)(hp:lz p≤1099511627776):Cn Tryz.prog 218 [Zi p,Zi q] (Tu [(RIN (riOf (p.tdiv q))).va,(RIN (riOf (p.tmod q))).va]):=by
 refine Cn.introW Tryz.func218 G zk nq (.cons (ye _).va (.cons (ye _).va .nil)) (AF (.cons (dA _).va (.cons (dA _).va .nil))) (λ B w0 a hB0 U=>?_);have U:=zn [(0,(RIO (riOf p)).va),(1,(RIO (riOf q)).va)] [] U;refine qb<|zg [] [zpL 2 26 0 _,zpL 3 26 1 _,zpL 4 26 2 _,zpL 5 26 3 _] [.alc 0,.alc 1,.alc 2,.alc 3] [] U (zW 0 G (zW 1 G (zY G (Str.zero ga) (zY G (Str.zero ga) o0)))) (zz [] Rj λ a w U=>?_);refine zt<|ql<|qb<|zg Us [] (.adr 11 2 (.some 1) True::.v 12 _::.adr 13 3 (.some 1) True::(Wb 14 [.v 10 _])) [.o 6] U (zO 0 G ar (zL 0 0 1 G bb (zO 1 G ar (zL 2 1 1 G bb (zQ G ((ug _ _).wk (.cons lC (.cons lC .nil))) (.p (vq 1 G) (vq 3 G)) (zv G (aN (vq 4 G) ab) (zA 5 G o0))))))) (zz [(10,_)] Rj λ a w U=>?_);refine zJ 0 U G (λ hb0=>?_) (λ hb0=>?_)
 ·have hlt:=IT hb0;refine qb<|zg [η,η,some (6,_),some (7,_)] [] (.v 17 _::.adr 18 2 (.some 0) True::.v 19 _::.adr 20 2 (.some 1) True::(W6 21 [.sto 2,.sto 3])) [] U (zv G (aT (qs:=[]) (cI famN) .nil) (zO 0 G aY (zL 1 0 0 G ty_4 (zO 0 G ar (zL 3 0 1 G bb (zQ G ((JA _ _ hp).wk (.cons aG (.cons lC .nil))) (.p (vq 2 G) (vq 4 G)) (zS 0 G ap (zS 5 G ap o0)))))))) (zz [] Rj λ a w U=>?_);refine aa<|qi<|aD ?_;refine aj ?_;refine aJ ?_ (aP (rs:=[.cell 4 26,.cell 5 26]) G U (.cell (zm 2 G) ap (.cell (zm 3 G) ap .nil)) zd);exact tu2 ((qq (λ z=>(RIN (riOf z)).va) (rr hlt).1).trans zi_zeroN.symm).symm (qq (λ x=>(RIN x).va) ((N6 p).trans (qq riOf (rr hlt).2.symm)))
 ·have hge:=Ex hb0;have hp0:0<(riOf p).mag.length:=qE (iw hq) (fO hge);refine qb<|zg Us [] (.adr 24 3 (.some 1) True::(Wb 25 [.v 23 _])) UP U (zO 1 G ar (zL 0 1 1 G bb (zv G (aK qe (aC (vq 1 G))) (zv G (bC (vq 2 G) ab) (zA 3 G o0))))) (zz [(23,_)] Rj λ a w U=>?_);refine zJ 0 U G (λ hb1=>?_) (λ hb1=>?_)
  ·have h1:(riOf q).mag.length=1:=by simp at hb1;omega
   refine qb<|zg Us [] (.adr 28 2 (.some 1) True::(W6 29 [.v 6 _])) UJ U (zO 0 G ar (zL 0 0 1 G bb (zQ G ((DK _ hp).wk (.cons lC .nil)) (.o (vq 1 G)) (zA 2 G o0)))) (zz [(6,_)] Rj λ a w U=>?_);obtain ⟨c,ext,hc1,hc2,hok,hcx,U⟩:=St.own U hB0 0 rfl hp0 rfl;have U:=St.sel U [];refine zt<|zg [some (5,_),η,η,η,η] [] (.adr 31 6 .none True::.adr 32 3 (.some 1) True::(Wb 33 [.cal 36 _ 0,.v 7 _])) [.o 6] U (oc (ob_a G G cW) (zO 2 G ar (zL 1 2 1 G bb (zv G (bO bc (aC (vq 2 G)) (aF 0 G) zo) (zv G (ao (vq 3 G) aO) (oc (Nj (xs:=[.tmp 31,.tmp 35]) G G G (IY _ ext c _ (oU p) hp (by rw [(ey h1).1];omega) (by rw [(ey h1).1];exact (ey h1).2)) (.cons (arw2 0 G zk) (.o (vq 4 G)))) (zv G (aR (KA 5 G zk zk)) o0))))))) (zz [(7,_)] [⟨6,138,slH (riOf p).mag.length c,_⟩,O 2 26 _,O 3 26 _,O 4 26 _,O 5 26 _] λ a w U=>?_);refine zt<|zgd [[],[0],[],[2],(Wm 4),[],(Wm 6),[],[7],[],[9],(Wm 11),(Wm 12),(Wm 13)] [none,none,none,some (12,_),some (13,_)] [] (.adr 37 2 (.some 0) True::.v 38 _::.adr 39 3 (.some 0) True::(W6 40 (.adr 42 6 .none True::.v 43 _::.adr 44 2 (.some 0) True::(Ww 45 [.sto 3,.sto 4])))) [] ac U (zO 1 G aY (zL 0 1 0 G ty_4 (zO 2 G aY (zL 2 2 0 G ty_4 (zv G (mE zk (vq 1 G) (vq 3 G)) (oc (ob_a G G cW) (zQ G (db _ _) (.p (vq 4 G) (Fu 5 G zk (lz0 0 G) ⟨(ay _ _).symm,hc1,hc2,bY _ _⟩ (by rw [hcx,qv,qv,ay]))) (zO 1 G aY (zL 7 1 0 G ty_4 (zM 0 G (zv G (rA (l:=[_]) (xs:=[.tmp 46]) bc zk nq nq (okL_cons.2 ⟨zF (qX _ (by rw [(ey h1).1];omega)) (by rw [(ey h1).1];exact (ey h1).2),cU⟩) (.o (vq 9 G)) G G) (zQ G (db _ _) (.p (vq 8 G) (vq 10 G)) (zS 6 G ap (zS 11 G ap o0)))))))))))))) zk zk zk zk (zz [] [⟨6,138,slH (riOf p).mag.length c,_⟩,O 2 26 _,O 3 26 _,O 4 26 _,O 5 26 _] λ a w U=>?_);refine aa<|qi<|aD ?_;refine aj ?_;refine aJ ?_ (aP (rs:=[.cell 4 26,.cell 5 26]) G U (.cell (zm 3 G) ap (.cell (zm 4 G) ap .nil)) zd);exact tu2 (qq (λ x=>(RIN x).va) (Ll hq hge h1)) (qq (λ x=>(RIN x).va) (EM h1 hq))
  ·have h1:(riOf q).mag.length≠1:=by simp at hb1;omega
   have hql:=iw hq;rw [← fy] at hql;obtain ⟨k,hk⟩:∃ k,(riOf q).mag.length=k+2:=⟨(riOf q).mag.length-2,by omega⟩;have hkp:k+2≤(riOf p).mag.length:=by rw [← hk];exact fO hge
   refine qk<|ak ?_;refine zt<|zg Us [] (.adr 50 2 (.some 1) True::.v 51 _::.adr 52 3 (.some 1) True::(W6 53 (.v 49 _::(W6 55 (W6 8))))) [.o 8,.o 9] U (zO 0 G ar (zL 0 0 1 G bb (zO 1 G ar (zL 2 1 1 G bb (zQ G ((Gd _ _ k hk (Mg hk) hkp hp).wk (.cons lC (.cons lC .nil))) (.p (vq 1 G) (vq 3 G)) (zV 4 G (zv G (aQ (vq 5 G) G) (zv G (aQ (vq 5 G) G) (zA 6 G (zA 7 G o0)))))))))) (zz (Wc 8 9) Rj λ a w U=>?_);refine zt<|zgd [[],[0],[],[2],(Wm 4),[],(Wm 6),[],[7],[],(Wm 10),(Wm 11),(Wm 12)] [none,none,some (11,_),some (12,_)] [] (.adr 57 2 (.some 0) True::.v 58 _::.adr 59 3 (.some 0) True::(Ww 60 (.adr 64 2 (.some 0) True::(Wb 65 [.sto 2,.sto 3])))) [] ac U (zO 0 G aY (zL 0 0 0 G ty_4 (zO 1 G aY (zL 2 1 0 G ty_4 (zv G (mE zk (vq 1 G) (vq 3 G)) (zM 0 G (zQ G (db _ _) (.p (vq 4 G) (vq 5 G)) (zO 0 G aY (zL 7 0 0 G ty_4 (zM 1 G (zQ G (db _ _) (.p (vq 8 G) (vq 9 G)) (zS 6 G ap (zS 10 G ap o0))))))))))))) zk zk zk zk (zz [] Rj λ a w U=>?_);refine aa<|qi<|aJ ?_ (aP (rs:=[.cell 4 26,.cell 5 26]) G U (.cell (zm 2 G) ap (.cell (zm 3 G) ap .nil)) zd);exact tu2 (qq (λ x=>(RIN x).va) (HH (hk▸Dz (fh p) (Hm hq) (iw hq) (fO hge)))) (qq (λ x=>(RIN x).va) (Oc (zF (qX _ zo) (hk▸fh q))))
theorem BZ (p:Int):rsig false (riOf p).mag=riOf ((p.natAbs:Nat):Int):=cj (oU p) (by rw [bF];omega) λ _=>by simp
theorem Ho (p:Int):lz ((p.natAbs:Nat):Int)=lz p:=by simp [lz]
theorem ND {n:Nat}(h:decide (((riOf (n:Int)).mag.length:Int)>0)=true):0<n:=by
 rcases vT n with rfl|hp
 ·simp [riOf,bE] at h
 ·exact hp
theorem Qk {n:Nat}(h:decide (((riOf (n:Int)).mag.length:Int)>0)=false):n=0:=by
 rcases vT n with rfl|hp
 ·rfl
 ·have:=iw (q:=(n:Int)) zo;have h':¬ (((riOf (n:Int)).mag.length:Int)>0):=qw h;rw [fy] at h';omega
theorem K7 {x n:Nat}(h:lz (n:Int)≤1099511627776)(hn:0<n):lz ((x%n:Nat):Int)≤1099511627776:=qg (fO (by have:=qX x hn;omega)) h
theorem FF (h:Nat.gcd x n=p):Nat.gcd n (x%n)=p:=by rw [← h,xZ n,xZ x,Nat.gcd_rec n x]
theorem wS (p q:Int)(hp:lz p≤1099511627776)(hq:lz q≤1099511627776):Cn Tryz.prog 178 [Zi p,Zi q] ((RIN (riOf ((Int.gcd p q:Nat):Int))).va):=by
 refine Cn.intro Tryz.func178 G zk nq (zy [(0,Zi p),(1,Zi q)] λ B w0 a U=>?_);refine qb<|zg [] Ul Um [] U (zW 0 G (zW 1 G (zY G (Str.zero bu) o0))) (zz [] Un λ a w U=>?_);refine zt<|zgd [[],[0],[0,1],[],[3],(Wm 5),[],[],(Wm 8),(Wm 9)] Uo [⟨5,26,ptrH,some 6,_,some (8,_)⟩,⟨6,26,ptrH,some 7,_,some (9,_)⟩] (.adr 9 2 (.some 1) True::(W6 10 (.adr 12 3 (.some 1) True::(W6 13 [.alc 3,.alc 4,.sto 3,.sto 4])))) [] ac U (zO 0 G ar (zL 0 0 1 G bb (zQ G (JA _ _ hp) (.cons aE (.o (vq 1 G))) (zO 1 G ar (zL 3 1 1 G bb (zQ G (JA _ _ hq) (.cons aE (.o (vq 4 G))) (zY G (Str.zero bu) (zY G (Str.zero bu) (zS 2 G ap (zS 5 G ap o0)))))))))) zk zk zk zk (zz [] Rk λ a w U=>?_);refine zt<|ql ?_;have U:=St.sel U [];have U:=St.selL U [2,3,4];refine wp_loop_ghost (λ n a w=>∃ x:Nat,(Nat.gcd x n=Int.gcd p q∧lz (x:Int)≤1099511627776∧lz (n:Int)≤1099511627776)∧St B w0 28 [] [⟨4,26,ptrH,cat [BoA false,MgA []]⟩,⟨5,26,ptrH,RIN (riOf ((x:Nat):Int))⟩,⟨6,26,ptrH,RIN (riOf ((n:Nat):Int))⟩] a w) (q.natAbs) ?_ ?_
 ·exact ⟨p.natAbs,⟨rfl,by rw [Ho];exact hp,by rw [Ho];exact hq⟩,by rw [show rsig false (aA p.natAbs)=_ from BZ p,show rsig false (aA q.natAbs)=_ from BZ q] at U;exact U⟩
 intro n a w hI;obtain ⟨x,⟨hg,hx,hn⟩,U⟩:=hI;refine qb<|qb<|zg US [] (.adr 15 6 (.some 1) True::(Wb 16)) UJ U (zO 2 G ar (zL 0 2 1 G bb (zv G (aK qe (tl (vq 1 G))) (zv G (cL (vq 2 G) ab) o0)))) (zz [(18,_)] [O 4 26 _,O 5 26 _,O 6 26 _] λ a w U=>?_);refine zJ 0 U G (λ hb0=>?_) (λ hb0=>?_)
 ·have h0:=ND hb0;refine qk<|aa<|ql<|qb<|zg US [⟨7,26,ptrH,some 6,_,some (8,_)⟩,⟨8,26,ptrH,some 7,_,some (9,_)⟩] (Wb 20 (.v 19 _::(W6 23 [.alc 3,.alc 4,.sto 3,.sto 4]))) [] U (zl 1 G ap (zl 2 G ap (zQ G ((sh _ _ zo hx).wk (.cons lB (.cons lB .nil))) (.p (vq 0 G) (vq 1 G)) (zV 2 G (zv G (aQ (vq 3 G) G) (zv G (aQ (vq 3 G) G) (zY G (Str.zero bu) (zY G (Str.zero bu) (zS 4 G ap (zS 5 G ap o0)))))))))) (zz [] [O 4 26 _,O 5 26 _,O 6 26 _,O 7 26 _,O 8 26 _] λ a w U=>?_);refine aa<|zgd [[],[],[0],[0,1,2]] [none,some (2,_),some (3,_),none,none] [] (W6 25 [.sto 1,.sto 2]) [] ac U (zl 2 G ap (zl 4 G ap (zS 0 G ap (zS 1 G ap o0)))) zk zk zk zk (zz [] [O 4 26 _,O 5 26 _,O 6 26 _,O 7 26 _,O 8 26 _] λ a w U=>?_);refine ak ?_;refine aa ?_;have U:=St.sel U [];have U:=St.selL U [0,1,2];exact ⟨x%n,qX _ h0,n,⟨FF hg,hn,K7 hn h0⟩,U⟩
 ·obtain rfl:=Qk hb0;refine qM<|ai<|ai<|az<|zt<|zg [some (1,_),η,η] [] [.v 27 _,.sto 0] [] U (zl 1 G ap (zS 0 G ap o0)) (zz [] [O 4 26 _,O 5 26 _,O 6 26 _] λ a w U=>?_);refine aa<|qi<|aJ ?_ (au G U (zm 0 G) ap);exact qq (λ z:Nat=>(RIN (riOf (z:Int))).va) ((Nat.gcd_zero_right x).symm.trans hg)
theorem Kf (x:RI):Cn Tryz.prog 254 [(RIA x).va] (Bo (decide ((x.mag.length:Int)>2048))):=by
 refine Cn.intro Tryz.func254 G zk nq (zy [(0,(RIA x).va)] λ B w0 a U=>?_);refine qb<|zg [] Uu Uv Uw U (zW 0 G (zE G aE)) (zz Ux Uy ?_);refine ztA<|zgA U4 [] (.adr 3 1 (.some 1) True::(Wb 4 [.v 2 _])) UP (zO 0 G ar (zL 0 0 1 G bb (zv G (aK qe (vq 1 G)) (zv G (cL (vq 2 G) ab) (zA 3 G o0))))) (zz Ux Uy λ a w U=>?_);exact aa<|qi<|am G U (zm 0 G)
def bigI (x:RI):Bool:=decide ((x.mag.length:Int)>2048)
theorem Kg (x:RI):Cn Tryz.prog 254 [(RIA x).va] (Bo (bigI x)):=Kf x
theorem Gv {l:List RI}(h:j<l.length)(h2:bigI l[j]=true):l.any bigI=true:=jl.2 ⟨_,qh h,h2⟩
theorem ID {l:List RI}(h:j<l.length)(h1:(l.take j).any bigI=false)(h2:bigI l[j]=false):(l.take (j+1)).any bigI=false:=by
 rw [qx h,kc,h1];simp [h2]
def IxV (b:Bool):VA where
 p _ v _:=∃ n:Int,v=.int .i64 n∧b=decide (n≥0)
 deps:=[]
 cg:=λ _ _ _ _ _ h=>h
 wr:=λ _ _ _ _ _ _ _ _ _ _ _ _ h=>h
theorem NI (h:b=decide (n≥0)):Wk (In n) (IxV b):=λ _ _ _ hv=>⟨n,bj hv,h⟩
theorem r_ix {Q:Yd}{xt yt:Yh}(hx:Has R B w0 i x (IxV b)):Wv P Q R B w0 i (.binOp .geq xt x (.const (.int .i64 0)) yt) (Bo b) :=
 bk λ _ _ _ _ _ a w av=>by
  obtain ⟨n,e1,rfl⟩:=hx a w av;refine ⟨.bool (decide (n≥0)),w,?_,Grow.refl w,dJ _ _ _⟩;have hg:(eqGuard .geq xt x (.const (.int .i64 0)) (.int .i64 n) (.int .i64 0)).run P w=.ok () w:=by unfold eqGuard;split <;> rfl
  have e2:a.eval (.const (.int .i64 0))=.int .i64 0:=rfl;have hr:(binOp .geq xt (.int .i64 n) (.int .i64 0)).run P w=.ok (.bool (decide (n≥0))) w:=by rw [binOp_geq];rfl
  simp only [execOp,e1,e2,Sem.run_bind,hg,hr,Result.andThen_ok,Sem.run_pure]
theorem Kt (l:List RI)(hl:l.length≤1099511627776):Cn Tryz.prog 264 [(SlA 26 [U32] (l.map RIA)).va,FnV Tryz.prog [] (λ x:RI=>[(RIA x).va]) (λ x=>Bo (bigI x))] (IxV (l.any bigI)):=by
 refine Cn.intro Tryz.func264 G zk nq (zy [(0,(SlA 26 [U32] (l.map RIA)).va),(1,FnV Tryz.prog [] (λ x:RI=>[(RIA x).va]) (λ x=>Bo (bigI x)))] λ B w0 a U=>?_);refine qb<|zh WR WS U (zE G ab) (zz WT [] ?_);refine ztA<|zsA<|zhA (Wb 6) (W7 [.o 1,.o 2]) (zM 0 G (zv G (bg Tryz.underlying271 (vq 0 G)) (zv G (aq ab) o0))) (zz (W8 0 1 4 7 8) [] λ a w U=>?_);refine aa<|ql ?_;have U:=St.sel U [0,1,3,4];refine wp_loop_ghost (λ n a w=>∃ j:Nat,(n+j=l.length∧(l.take j).any bigI=false)∧St B w0 19 [(0,(SlA 26 [U32] (l.map RIA)).va),(1,FnV Tryz.prog [] (λ x:RI=>[(RIA x).va]) (λ x=>Bo (bigI x))),(7,In (l.length:Nat)),(8,In (j:Nat))] [] a w) (l.length) ?_ ?_
 ·exact ⟨0,⟨by omega,rfl⟩,by rw [qd] at U;exact U⟩
 intro n a w hI;obtain ⟨j,⟨hn,hno⟩,U⟩:=hI;refine qb<|zh [.v 9 _] Ut U (zv G (aN (gq 3 G) (gq 2 G)) o0) (zz (W8 0 1 7 8 9) [] λ a w U=>?_);refine zt<|cd U (zm 4 G) (λ hb0=>?_) (λ hb0=>?_)
 ·have hj:j<l.length:=by simp at hb0;omega
  refine qk<|zt<|ql<|qb<|zh [.v 10 _,.v 5 _] Ra U (zM 3 G (zA 0 G o0)) (zz (W8 0 1 7 8 5) [] ?_);refine ztA<|zhA (Wl 11) (Wi [.o 5]) (zM 1 G (zM 0 G (zM 4 G (zv G (bB AX (bX λ _=>rfl) (vq 1 G) (vq 2 G) (bn hj)) (zv G (ao (vq 3 G) ap) (zv G (Ji _ (vq 0 G) (.o (vq 4 G))) o0)))))) (zz (Wj 0 1 7 8 5 16) [] λ a w U=>?_);refine zJ 5 U G (λ hb1=>?_) (λ hb1=>?_)
  ·refine qb<|zh [.v 17 _,.v 4 _] Ra U (zM 4 G (zA 0 G o0)) (zz (W8 0 1 7 8 4) [] λ a w U=>?_);refine aa<|qi<|aD ?_;refine aj ?_;refine aj ?_;refine aD ?_;refine aj ?_;refine al ?_ (am G U (zm 4 G));exact NI (by rw [Gv hj hb1];simp)
  ·refine qk<|ak ?_;refine aa<|zh [.v 18 _,.v 8 _] WX U (zv G (aL (gq 3 G) ab (aW zo)) (zV 0 G o0)) (zz (Wf 0 1 7 8) [] λ a w U=>?_);refine aa ?_;have U:=St.sel U [0,1,2,3];exact ⟨n-1,by omega,j+1,⟨by omega,ID hj hno hb1⟩,U⟩
 ·obtain rfl:j=l.length:=by simp at hb0;omega
  refine qM<|ai<|ai<|az<|zt<|zh WR U2 U (zE G ab) (zz U3 [] λ a w U=>?_);refine aa<|qi<|al ?_ (am G U (zm 0 G));exact NI (by rw [qI] at hno;rw [hno];rfl)
theorem A8 (l:List RI)(hl:l.length≤1099511627776):Cn Tryz.prog 253 [(SlA 26 [U32] (l.map RIA)).va,FnV Tryz.prog [] (λ x:RI=>[(RIA x).va]) (λ x=>Bo (bigI x))] (Bo (l.any bigI)):=by
 refine Cn.intro Tryz.func253 G zk nq (zy [(0,(SlA 26 [U32] (l.map RIA)).va),(1,FnV Tryz.prog [] (λ x:RI=>[(RIA x).va]) (λ x=>Bo (bigI x)))] λ B w0 a U=>?_);refine qb<|zh WR WS U (zE G aE) (zz WT [] ?_);refine ztA<|zhA (Ww 5 [.v 4 _]) UP (zM 0 G (zM 1 G (zQ G (Kt _ hl) (.p (vq 0 G) (vq 1 G)) (zv G (r_ix (vq 2 G)) (zA 3 G o0))))) (zz U3 [] λ a w U=>?_);exact aa<|qi<|am G U (zm 0 G)
theorem Cv (l:List RI)(hl:l.length≤1099511627776):Cn Tryz.prog 239 [(SlA 26 [U32] (l.map RIA)).va] (Bo (l.any bigI)):=by
 refine Cn.intro Tryz.func239 G zk nq (zy [(0,(SlA 26 [U32] (l.map RIA)).va)] λ B w0 a U=>?_);refine qb<|zh UA Rd U (zE G aE) (zz Re [] ?_);refine ztA<|zhA (W6 3 [.v 2 _]) Ud (zM 0 G (zQ G (A8 _ hl) (.p (vq 0 G) (Fw Kg)) (zA 1 G o0))) (zz Ux [] λ a w U=>?_);exact aa<|qi<|am G U (zm 0 G)
theorem t8 {z:Int}(h:z.natAbs<4294967296^k):lz z≤k:=ez h
theorem iy (p q:Int):lz (p*q)≤lz p+lz q:=by
 apply t8;rw [jT,xg];exact kW (fh p) (fh q)
theorem rL (p q:Int):lz (p+q)≤max (lz p) (lz q)+1:=by
 apply t8;have h1:p.natAbs<4294967296^max (lz p) (lz q):=qE (fh p) (zZ zd (jq _ _));have h2:q.natAbs<4294967296^max (lz p) (lz q):=qE (fh q) (zZ zd (jk _ _));have h3:=Int.natAbs_add_le p q;rw [zj];omega
theorem Hl (p q:Int):lz (p-q)≤max (lz p) (lz q)+1:=by have:=rL p (-q);rw [lK] at this;exact this
theorem pg (p q:Int):lz (p.tdiv q)≤lz p:=fO (by rw [m6];exact kb _ _)
theorem K8 {p q:Int}(h:q≠0):lz (p.tmod q)≤lz q:=fO (by rw [iq];exact xc (qX _ zo))
theorem Ck (p q:Int):lz ((Int.gcd p q:Nat):Int)≤max (lz p) (lz q):=by
 by_cases h:p=0
 ·subst h;have:lz ((Int.gcd 0 q:Nat):Int)=lz q:=by simp [lz]
  omega
 ·have:lz ((Int.gcd p q:Nat):Int)≤lz p:=fO (by
   have:Int.gcd p q≤p.natAbs:=Nat.le_of_dvd zo (jC _ _);omega)
  omega
def ZA (k:Nat)(z:Int):As:=(RIA (riOf z)).and (lz z≤k)
abbrev Zs (k:Nat)(z:Int):VA:=(ZA k z).va
theorem wk_z :Wk (Zs k z) (Zi z):=λ _ _ _ h=>(eD h).2
theorem I5 {k B:Nat}(h:(Zs k z).p B v w):lz z≤k:=(eD h).1
theorem gC (h:lz z≤k):Wk (Zi z) (Zs k z):=λ _ _ _ hp=>GK h hp
section
variable {P:Program}{f:FuncId}{post:VA}{a b:Nat}{p q:Int}
theorem zs1 (hex : ∃ fn, P.funcs[f]? = some fn∧(fn.name == "runtime.NumGoroutine")=false∧fn.body.isNone=false) (h : lz p ≤ a→Cn P f [Zi p] post) : Cn P f [Zs a p] post :=
 Cn.know (c:=lz p≤a) hex (λ B w args ha=>by cases ha with|cons h1 _=>exact I5 h1) λ hc=>(h hc).wk (.cons wk_z .nil)
theorem zs2 (hex : ∃ fn, P.funcs[f]? = some fn∧(fn.name == "runtime.NumGoroutine")=false∧fn.body.isNone=false) (h : lz p ≤ a→lz q ≤ b→Cn P f [Zi p, Zi q] post) : Cn P f [Zs a p, Zs b q] post :=
 Cn.know (c:=lz p≤a∧lz q≤b) hex (λ B w args ha=>by cases ha with|cons h1 ha=>cases ha with|cons h2 _=>exact ⟨I5 h1,I5 h2⟩) λ hc=>(h hc.1 hc.2).wk (.cons wk_z (.cons wk_z .nil))
end
theorem cB (h:Wk A A')(h':Wk A' A''):Wk A A'':=λ B v w hp=>h' B v w (h B v w hp)
theorem ba (h:A=A'):Wk A A':=h▸aG
theorem P6 (h:All2 Wk l l'):∀ {vs:Yl},All2 (λ (A:VA) v=>A.p B v w) l vs→All2 (λ (A:VA) v=>A.p B v w) l' vs:=by
 induction h with
 | nil=>intro vs hp;cases hp;exact .nil
 | cons h1 _ ih=>intro vs hp;cases hp with|cons h2 h3=>exact .cons (h1 _ _ _ h2) (ih h3)
theorem Ek (h:All2 Wk l l'):Wk (Tu l) (Tu l'):=λ _ _ _ ⟨vs,hv,hp⟩=>⟨vs,hv,P6 h hp⟩
def sg3 (p q:Int):Int:=if p<q then -1 else if q<p then 1 else 0
theorem dL (p:Int):sgI (riOf p)=p.sign:=by
 unfold sgI;by_cases h:p=0
 ·subst h;simp [riOf,bE]
 ·have:=iw h;rw [fy,qA zo];by_cases h2:p<0
  ·simp [riOf,h2,xO h2]
  ·have:0<p:=by omega
   simp [riOf,h2,x3 this]
theorem Ey (m n:Nat):(cM (aA m) (aA n)<0↔m<n)∧(cM (aA m) (aA n)=0↔m=n)∧(0<cM (aA m) (aA n)↔n<m):=by
 have:=(ee (m:=m) (n:=n));omega
theorem HL (p q:Int):cmpI (riOf p) (riOf q)=sg3 p q:=by
 unfold cmpI;rw [dL,dL];have h:=Ey p.natAbs q.natAbs;have e1:(riOf p).mag=aA p.natAbs:=rfl;have e2:(riOf q).mag=aA q.natAbs:=rfl;rw [e1,e2];generalize cM (aA p.natAbs) (aA q.natAbs)=s at *;have hp:p.sign=if p<0 then -1 else if p=0 then 0 else 1:=by
  rcases kU p 0 with h|h|h
  ·rw [qD h,xO h]
  ·subst h;rfl
  ·rw [qA zo,qA zo,x3 h]
 have hq:q.sign=if q<0 then -1 else if q=0 then 0 else 1:=by
  rcases kU q 0 with h|h|h
  ·rw [qD h,xO h]
  ·subst h;rfl
  ·rw [qA zo,qA zo,x3 h]
 have hn:(riOf p).neg=decide (p<0):=rfl;rw [hp,hq,hn];unfold sg3;by_cases h1:p<0
 ·by_cases h2:q<0
  ·simp only [h1,h2,if_true,decide_true];rw [qA zo];split <;> (try split) <;> omega
  ·rw [qD h1,qA h2,qD (by split <;> omega),qD (by split <;> omega),qD zo]
 ·by_cases h2:q<0
  ·rw [qA h1,qD h2,qD (by split <;> omega),qA (by split <;> omega),qA zo,qD zo]
  ·simp only [h1,h2,if_false,decide_false];by_cases h3:p=0 <;> by_cases h4:q=0 <;> simp only [h3,h4,if_true,if_false]
   ·rw [qA zo];simp;omega
   ·rw [qD zo,qD zo,qD zo]
   ·rw [qD zo,qA zo,qA zo,qD zo]
   ·rw [qA zo];simp only [Bool.false_eq_true,if_false];split <;> (try split) <;> omega
theorem En (p q:Int):rsig ((riOf p).neg != (riOf q).neg) (digs ((riOf p).mag.length+(riOf q).mag.length) (val (riOf p).mag*val (riOf q).mag))=riOf (p*q):=by
 rw [bF,bF];refine cj (bY _ _) ?_ λ hz=>?_
 ·rw [dU,zK,jT];rw [fy,fy,xg];exact kW (fh p) (fh q)
 ·have hp:p≠0:=λ e=>hz (by rw [e,Int.zero_mul]);have hq:q≠0:=λ e=>hz (by rw [e,vv]);show (decide (p<0) != decide (q<0))=decide (p*q<0);by_cases h1:p<0 <;> by_cases h2:q<0
  ·have:=vd h1 h2;simp [h1,h2];omega
  ·have:=jY h1 (by omega:0<q);simp [h1,h2];omega
  ·have:=jX (by omega:0<p) h2;simp [h1,h2];omega
  ·have:=vG (by omega:0<p) (by omega:0<q);simp [h1,h2];omega
theorem G3 : ∃ fn, Tryz.prog.funcs[191]? = some fn∧(fn.name == "runtime.NumGoroutine")=false∧fn.body.isNone=false := ⟨_, Tryz.func191, by kernel_rfl, by kernel_rfl⟩
theorem Dj : ∃ fn, Tryz.prog.funcs[108]? = some fn∧(fn.name == "runtime.NumGoroutine")=false∧fn.body.isNone=false := ⟨_, Tryz.func108, by kernel_rfl, by kernel_rfl⟩
theorem G4 : ∃ fn, Tryz.prog.funcs[193]? = some fn∧(fn.name == "runtime.NumGoroutine")=false∧fn.body.isNone=false := ⟨_, Tryz.func193, by kernel_rfl, by kernel_rfl⟩
theorem O3 : ∃ fn, Tryz.prog.funcs[177]? = some fn∧(fn.name == "runtime.NumGoroutine")=false∧fn.body.isNone=false := ⟨_, Tryz.func177, by kernel_rfl, by kernel_rfl⟩
theorem L5 : ∃ fn, Tryz.prog.funcs[176]? = some fn∧(fn.name == "runtime.NumGoroutine")=false∧fn.body.isNone=false := ⟨_, Tryz.func176, by kernel_rfl, by kernel_rfl⟩
theorem Dk : ∃ fn, Tryz.prog.funcs[218]? = some fn∧(fn.name == "runtime.NumGoroutine")=false∧fn.body.isNone=false := ⟨_, Tryz.func218, by kernel_rfl, by kernel_rfl⟩
theorem Dl : ∃ fn, Tryz.prog.funcs[178]? = some fn∧(fn.name == "runtime.NumGoroutine")=false∧fn.body.isNone=false := ⟨_, Tryz.func178, by kernel_rfl, by kernel_rfl⟩
theorem De : ∃ fn, Tryz.prog.funcs[192]? = some fn∧(fn.name == "runtime.NumGoroutine")=false∧fn.body.isNone=false := ⟨_, Tryz.func192, by kernel_rfl, by kernel_rfl⟩
section
variable {a b:Nat}{p q:Int}(ha:a≤1099511627776)
include ha
theorem ou:Cn Tryz.prog 192 [Zs a p] (Zs a (-p)):=zs1 De λ h=>(AE p zo).wkp (gC (by rw [lK];exact h))
variable (hb:b≤1099511627776)
include hb
theorem dO:Cn Tryz.prog 191 [Zs a p,Zs b q] (Zs (a+b) (p*q)):=zs2 G3 λ h h'=>(IC (riOf p) (riOf q) (by rw [fy];omega) (by rw [fy];omega)).wkp (cB (cB lB (ba (qq (λ x=>(RIA x).va) (En p q)))) (gC (by have:=iy p q;omega)))
theorem uy:Cn Tryz.prog 108 [Zs a p,Zs b q] (Zs (max a b+1) (p+q)):=zs2 Dj λ h h'=>(Hb p q zo zo).wkp (gC (by have:=rL p q;omega))
theorem K2:Cn Tryz.prog 193 [Zs a p,Zs b q] (Zs (max a b+1) (p-q)):=zs2 G4 λ h h'=>(Cf p q zo zo).wkp (gC (by have:=Hl p q;omega))
theorem Om:Cn Tryz.prog 177 [Zs a p,Zs b q] (In (sg3 p q)):=zs2 O3 λ h h'=>(HM (riOf p) (riOf q) (by rw [fy];omega) (by rw [fy];omega)).post (by rw [HL])
theorem Gh:Cn Tryz.prog 178 [Zs a p,Zs b q] (Zs (max a b) ((Int.gcd p q:Nat):Int)):=zs2 Dl λ h h'=>(wS p q zo zo).wkp (cB lB (gC (by have:=Ck p q;omega)))
omit hb in
theorem wL (hq:q≠0):Cn Tryz.prog 218 [Zs a p,Zs b q] (Tu [Zs a (p.tdiv q),Zs b (p.tmod q)]):=zs2 Dk λ h h'=>(sh p q hq zo).wkp (Ek (.cons (cB lB (gC (by have:=pg p q;omega))) (.cons (cB lB (gC (by have:=K8 (p:=p) hq;omega))) .nil)))
end
theorem B2 {a:Nat}{p:Int}:Cn Tryz.prog 176 [Zs a p] (In p.sign):=zs1 L5 λ _=>(uh (riOf p)).post (by rw [dL])
theorem of_z (h0 : -9223372036854775808≤n)(h1:n<9223372036854775808):Cn Tryz.prog 107 [In n] (Zs 2 n):=(of_c n h0 h1).wkp (gC (t8 zo))
def QA (k:Nat)(r:Rat):As:=cat [ZA k r.num,ZA k (r.den:Int)]
abbrev Qs (k:Nat)(r:Rat):VA:=(QA k r).va
def WkA (A A':As):Prop:=A'.n=A.n∧A'.ag=A.ag∧∀ B cs w,A.p B cs w→A'.p B cs w
theorem WkA.va (h:WkA A A'):Wk A.va A'.va:=λ B v w ⟨cs,hp,hv⟩=>⟨cs,h.2.2 B cs w hp,by rw [h.2.1];exact hv⟩
theorem WkA.refl (A:As):WkA A A:=⟨rfl,rfl,λ _ _ _ h=>h⟩
theorem WkA.trans (h:WkA A A')(h':WkA A' A''):WkA A A'':=⟨h'.1.trans h.1,h'.2.1.trans h.2.1,λ B cs w hp=>h'.2.2 B cs w (h.2.2 B cs w hp)⟩
theorem gX (h:A=A'):WkA A A':=h▸WkA.refl A
theorem br (h:All2 WkA l l'):WkA (cat l) (cat l'):=by
 have key:∀ {l l':List As},All2 WkA l l'→(cat l').n=(cat l).n∧∀ B ps w,All2 (λ (A:As) c=>A.p B c w) l ps→All2 (λ (A:As) c=>A.p B c w) l' ps:=by
  intro l l' h
  induction h with
  | nil=>exact ⟨rfl,λ B ps w h=>by cases h;exact .nil⟩
  | cons h1 _ ih =>
   refine ⟨?_,λ B ps w h=>?_⟩
   ·have:=ih.1;simp only [cat,qT,xf] at this ⊢;rw [h1.1,this]
   ·cases h with
    | cons h2 h3=>exact .cons (h1.2.2 _ _ _ h2) (ih.2 _ _ _ h3)
 exact ⟨(key h).1,rfl,λ B cs w ⟨ps,e1,e2⟩=>⟨ps,e1,(key h).2 B ps w e2⟩⟩
theorem zaA :WkA (ZA k z) (RIA (riOf z)):=⟨rfl,rfl,λ _ _ _ h=>h.2⟩
theorem I9 (h:lz z≤k):WkA (RIA (riOf z)) (ZA k z):=⟨rfl,rfl,λ _ _ _ hp=>⟨h,hp⟩⟩
theorem fE (h:k≤k'):WkA (ZA k z) (ZA k' z):=⟨rfl,rfl,λ _ _ _ hp=>⟨qg hp.1 h,hp.2⟩⟩
theorem qaA :WkA (QA k r) (RFA (rfOf r)):=br (.cons zaA (.cons zaA .nil))
theorem F7 {r:Rat}(h:lz r.num≤k)(h':lz (r.den:Int)≤k):WkA (RFA (rfOf r)) (QA k r):=br (.cons (I9 h) (.cons (I9 h') .nil))
theorem cc (h:k≤k'):WkA (QA k r) (QA k' r):=br (.cons (fE h) (.cons (fE h) .nil))
theorem St.wkL {B N:Nat}(h:St B w0 N Γ Λ a w)(k:Nat)(hm:Λ[k]?=some ⟨s,T,H,A⟩)(e:WkA A A'):St B w0 N Γ (Λ.set k ⟨s,T,H,A'⟩) a w:=by
 obtain ⟨hk,he⟩:=List.getElem?_eq_some_iff.1 hm;have hset:∀ l∈Λ.set k ⟨s,T,H,A'⟩,l=⟨s,T,H,A'⟩∨l∈Λ:=λ l hl=>(qB hl).symm;have hin:(⟨s,T,H,A⟩:Lc)∈Λ:=qa hm;have hd:∀ l∈Λ.set k ⟨s,T,H,A'⟩,∃ l'∈Λ,l'.s=l.s:=λ l hl=>by
  rcases hset l hl with rfl|hl
  ·exact ⟨_,hin,rfl⟩
  ·exact ⟨l,hl,rfl⟩
 refine ⟨h.lo,h.defers,h.size,h.base,h.vals,λ l hl=>?_,λ l hl m hm' hne=>?_⟩
 ·rcases hset l hl with rfl|hl
  ·obtain ⟨g,cs,h1,h2,h3,h4⟩:=h.locs _ hin;exact ⟨g,cs,h1,h2,h3,e.2.2 _ _ _ h4⟩
  ·exact h.locs l hl
 ·obtain ⟨l',hl',e1⟩:=hd l hl;obtain ⟨m',hm'',e2⟩:=hd m hm';have:=h.dis l' hl' m' hm'' (by rw [e1,e2];exact hne);rw [e1,e2] at this;exact this
theorem CX {n:Nat}(h:(sg3 ((n:Nat):Int) 1 != 0)=false):n=1:=by
 unfold sg3 at h;simp at h;split at h
 ·simp at h
 ·split at h
  ·simp at h
  ·omega
theorem GO {n:Nat}{x:Int}(h:(sg3 ((n:Nat):Int) 1 != 0)=false):x=x.tdiv ((n:Nat):Int):=by rw [CX h,Int.natCast_one,Int.tdiv_one]
theorem B7 {z:Int}(h:decide (z.sign<0)=true):z<0:=wi.1 (qu h)
theorem GX {z:Int}(h:decide (z.sign<0)=false):¬ z<0:=λ hh=>qw h (wi.2 hh)
theorem ta {p q:Int}(hq:q≠0):(if q.tdiv (Int.gcd p q:Nat)<0 then -(p.tdiv (Int.gcd p q:Nat)) else p.tdiv (Int.gcd p q:Nat))=(Rat.divInt p q).num ∧
  (if q.tdiv (Int.gcd p q:Nat)<0 then -(q.tdiv (Int.gcd p q:Nat)) else q.tdiv (Int.gcd p q:Nat))=((Rat.divInt p q).den:Int):=by
 have hg:0<Int.gcd p q:=x5 p hq;have d1:((Int.gcd p q:Nat):Int)∣p:=Int.gcd_dvd_left ..;have d2:((Int.gcd p q:Nat):Int)∣q:=Int.gcd_dvd_right ..;rw [Rat.num_divInt,Rat.den_divInt,qA hq,Int.gcd_comm q p];generalize Int.gcd p q=g at *;obtain ⟨x,rfl⟩:=d1;obtain ⟨y,rfl⟩:=d2;have hg':(g:Int)≠0:=by omega
 rw [vi _ hg',vi _ hg'];have hy:y≠0:=λ e=>hq (by rw [e,vv]);have e2:((g:Int)*y).natAbs/g=y.natAbs:=by rw [jT];exact Nat.mul_div_cancel_left _ hg
 rw [e2];by_cases h:y<0
 ·have h1:(g:Int)*y<0:=jX zo h;rw [xO h1,qD h,qD h];refine ⟨?_,by omega⟩;rw [show (-1:Int)*(g*x)=g*(-x) by rw [Int.mul_neg];omega,vj _ hg']
 ·have h1:0<(g:Int)*y:=vG zo zo;rw [x3 h1,qA h,qA h,Int.one_mul,vj _ hg'];exact ⟨rfl,by omega⟩
theorem gU (hq:q≠0):lz (Rat.divInt p q).num≤lz p∧lz ((Rat.divInt p q).den:Int)≤lz q:=by
 obtain ⟨h1,h2⟩:=ta (p:=p) hq;rw [← h1,← h2];have a1:=pg p (Int.gcd p q:Nat);have a2:=pg q (Int.gcd p q:Nat);constructor <;> split <;> first | (rw [lK];assumption) | assumption
theorem gj (hc:c≤1099511627776)(hd:d≤1099511627776)(hq:q≠0):Cn Tryz.prog 190 [Zs c p,Zs d q] (Qs (max c d) (Rat.divInt p q)):=by
 have hg0:0<Int.gcd p q:=x5 p hq;obtain ⟨hn1,hn2⟩:=ta (p:=p) hq;refine Cn.intro Tryz.func190 G zk nq (zy [(0,Zs c p),(1,Zs d q)] λ B w0 a U=>?_);refine qb<|zg [] Rl Um [] U (zW 0 G (zW 1 G (zY G (Str.zero aS) o0))) (zz [] Rm ?_);refine ztA<|zsA<|zgA Uo [⟨5,26,ptrH,some 3,_,some (4,_)⟩] (Wb 6 [.alc 3,.sto 3]) [] (zl 0 G ap (zl 1 G ap (zQ G (Gh zo zo) (.p (vq 0 G) (vq 1 G)) (zY G (Str.zero bu) (zS 2 G ap o0))))) (zz [] Rn λ a w U=>?_);refine zt<|zgd UW Uq [] (Ww 9) UJ ac U (zl 3 G ap (zQ G (of_z zd zd) (.cons ab .nil) (zQ G (Om zo zo) (.p (vq 0 G) (vq 1 G)) (zv G (ca (vq 2 G) ab) o0)))) zk zk zk zk (zz [(12,_)] Rn λ a w U=>?_);refine aa<|bP (λ a w =>  St B w0 35 [] [⟨2,26,ptrH,ZA c (p.tdiv ((Int.gcd p q:Nat):Int))⟩,⟨3,26,ptrH,ZA d (q.tdiv ((Int.gcd p q:Nat):Int))⟩,⟨4,28,ptrH,RFA ⟨⟨false,[]⟩,⟨false,[]⟩⟩⟩,⟨5,26,ptrH,ZA (max c d) ((Int.gcd p q:Nat):Int)⟩] a w) U (zm 0 G) (λ hb0=>?_) (λ hb0=>?_) (λ a w U=>?_)
 ·refine qb<|zg [some (6,_),η,η,η] [] (Wb 14 (.v 13 _::(W6 17 [.sto 0]))) [] U (zl 0 G ap (zl 3 G ap (zQ G (wL zo zo) (.p (vq 0 G) (vq 1 G)) (zV 2 G (zv G (aQ (vq 3 G) G) (zv G (aQ (vq 3 G) G) (zS 4 G ap o0))))))) (zz [] Rn ?_);refine znA<|zgA [none,some (6,_),none,none] [] (Wb 20 (.v 19 _::(W6 23 [.sto 1]))) [] (zl 1 G ap (zl 3 G ap (zQ G (wL zo zo) (.p (vq 0 G) (vq 1 G)) (zV 2 G (zv G (aQ (vq 3 G) G) (zv G (aQ (vq 3 G) G) (zS 4 G ap o0))))))) (zz [] Rn λ a w U=>?_);refine aa ?_;have U:=St.sel U [];exact U
 ·refine qk<|aa ?_;have U:=St.sel U [];have U:=St.cvA (A':=ZA c (p.tdiv ((Int.gcd p q:Nat):Int))) U 0 rfl (qq (ZA c) (GO hb0));have U:=St.cvA (A':=ZA d (q.tdiv ((Int.gcd p q:Nat):Int))) U 1 rfl (qq (ZA d) (GO hb0));exact U
 refine zt<|qb<|zg Us [] (Wb 25) Ud U (zl 1 G ap (zQ G B2 (.o (vq 0 G)) (zv G (aN (vq 1 G) ab) o0))) (zz [(27,_)] Rn λ a w U=>?_);refine aa<|bP (λ a w =>  St B w0 35 [] [⟨2,26,ptrH,ZA c (Rat.divInt p q).num⟩,⟨3,26,ptrH,ZA d ((Rat.divInt p q).den:Int)⟩,⟨4,28,ptrH,RFA ⟨⟨false,[]⟩,⟨false,[]⟩⟩⟩,⟨5,26,ptrH,ZA (max c d) ((Int.gcd p q:Nat):Int)⟩] a w) U (zm 0 G) (λ hb1=>?_) (λ hb1=>?_) (λ a w U=>?_)
 ·refine zgd UE [some (4,_),some (5,_),none,none] [] (Ww 28 [.sto 0,.sto 1]) [] ac U (zl 0 G ap (zQ G (ou zo) (.o (vq 0 G)) (zl 1 G ap (zQ G (ou zo) (.o (vq 2 G)) (zS 1 G ap (zS 3 G ap o0)))))) zk zk zk zk (zz [] Rn λ a w U=>?_);refine aa ?_;have U:=St.sel U [];rw [qD (B7 hb1)] at hn1 hn2;rw [hn1,hn2] at U;exact U
 ·refine qk<|aa ?_;have U:=St.sel U [];rw [qA (GX hb1)] at hn1 hn2;rw [hn1,hn2] at U;exact U
 refine zt<|zg [η,η,some (3,_),η] [] (Wb 32 [.sto 2]) [] U (zl 0 G ap (zl 1 G ap (zv G (aT (qs:=[(0,_),(1,_)]) aS (.cons ⟨rfl,vq 0 rfl,rfl⟩ (.cons ⟨rfl,vq 1 rfl,rfl⟩ .nil))) (zS 2 G ax o0)))) (zz [] Rn λ a w U=>?_);refine aa<|qi<|al ?_ (au G U (zm 2 G) ax);exact (br (.cons (fE (jq _ _)) (.cons (fE (jk _ _)) .nil))).va
theorem BA (x y:Rat):Rat.divInt (x.num*(y.den:Int)+y.num*(x.den:Int)) ((x.den:Int)*(y.den:Int))=x+y:=by
 rw [Rat.add_def',← kV,xG]
theorem Jd (x y:Rat):Rat.divInt (x.num*(y.den:Int)-y.num*(x.den:Int)) ((x.den:Int)*(y.den:Int))=x-y:=by
 rw [Rat.sub_def',← kV,xG]
theorem sP (x y:Rat):Rat.divInt (x.num*y.num) ((x.den:Int)*(y.den:Int))=x*y:=by
 rw [Rat.mul_def',← kV,xG]
theorem sQ (x y:Rat):Rat.divInt (x.num*(y.den:Int)) ((x.den:Int)*y.num)=x/y:=by
 rw [Rat.div_def,Rat.inv_def,← Rat.divInt_mul_divInt,kw]
theorem den_nz (x y:Rat):(x.den:Int)*(y.den:Int)≠0:=k9 (by have:=x.den_pos;omega) (by have:=y.den_pos;omega)
theorem C8 (x:Rat){y:Rat}(h:y≠0):(x.den:Int)*y.num≠0:=k9 (by have:=x.den_pos;omega) (λ e=>h (Rat.num_eq_zero.1 e))
def cmQ (x y:Rat):Int:=if x<y then -1 else if y<x then 1 else 0
theorem Ow (x y:Rat):sg3 (x.num*(y.den:Int)) (y.num*(x.den:Int))=cmQ x y:=by
 unfold sg3 cmQ;simp only [Rat.lt_iff]
theorem Oi (x:Rat):cat [RIA (riOf (x.num+0)),RIA (riOf ((x.den:Int)+0))]=RFA (rfOf x):=by rw [jN,jN];rfl
theorem q0_wk :WkA (cat [RIA ⟨false,[]⟩,ZA k 1]) (QA k 0):=br (.cons ((gX (show RIA ⟨false,[]⟩=RIA (riOf 0) from by simp [riOf,bE])).trans (I9 (by simp [lz,bE]))) (.cons (WkA.refl _) .nil))
theorem Fj  : Cn Tryz.prog 106 [] (Qs 2 0):=by
 refine Cn.intro Tryz.func106 G zk nq (zy [] λ B w0 a U=>?_);refine qb<|zg [] Ro Uf [] U (zY G (Str.zero aS) o0) (zz [] Rp ?_);refine ztA<|zgA [some (2,_)] [] (W6 1 [.sto 0]) [] (zQ G (of_z zd zd) (.cons ab .nil) (zv G (aT (qs:=[(1,_)]) aS (.cons ⟨rfl,vq 0 rfl,rfl⟩ .nil)) (zS 1 G ax o0))) (zz [] Rp λ a w U=>?_);refine aa<|qi<|al ?_ (au G U (zm 0 G) ax);exact q0_wk.va
theorem IP (hp : -9223372036854775808≤p)(hp1:p<9223372036854775808)(hq : -9223372036854775808≤q)(hq1:q<9223372036854775808)(h0:q≠0):Cn Tryz.prog 195 [In p,In q] (Qs 2 (Rat.divInt p q)):=by
 refine Cn.intro Tryz.func195 G zk nq (zy [(0,In p),(1,In q)] λ B w0 a U=>?_);refine qb<|zg [] [zpL 4 28 0 _] Uf We U (zY G (Str.zero aS) o0) (zz Ug Rq ?_);refine ztA<|zgA Uc [] (Wd 5 [.sto 0]) [] (zM 0 G (zQ G (of_z hp hp1) (.o (vq 0 G)) (zM 1 G (zQ G (of_z hq hq1) (.o (vq 2 G)) (zQ G (gj zo zo h0) (.p (vq 1 G) (vq 3 G)) (zS 4 G ax o0)))))) (zz [] Rq λ a w U=>?_);refine aa<|qi<|al ?_ (au G U (zm 0 G) ax);exact aG
theorem Q0  : Cn Tryz.prog 123 [] (Qs 2 1):=by
 refine Cn.intro Tryz.func123 G zk nq (zy [] λ B w0 a U=>?_);refine qb<|zg [] Ro Uf [] U (zY G (Str.zero aS) o0) (zz [] Rp ?_);refine ztA<|zgA Uj [] [.v 1 _,.sto 0] [] (zQ G (IP zd zd zd zd zd) (.cons ab (.cons ab .nil)) (zS 0 G ax o0)) (zz [] Rp λ a w U=>?_);refine aa<|qi<|al ?_ (au G U (zm 0 G) ax);exact ba (qq (Qs 2) (show Rat.divInt 1 1=1 from G))
theorem BQ (hc:c+d≤549755813888):Cn Tryz.prog 118 [Qs c x,Qs d y] (Qs (c+d+1) (x+y)):=by
 refine Cn.intro Tryz.func118 G zk nq (zy [(0,Qs c x),(1,Qs d y)] λ B w0 a U=>?_);refine qb<|zg [] Rr Um [] U (zW 0 G (zW 1 G (zY G (Str.zero aS) o0))) (zz [] Rt λ a w U=>?_);refine zt<|zgd [[],[0],[],[2],(Wm 4),[],[5],[],[7],(Wm 9),(Wm 10),[],[11],[],[13],(Wm 15),(Wm 16),(Wm 17)] [none,none,some (17,_)] [] (.adr 5 2 (.some 0) True::.v 6 _::.adr 7 3 (.some 2) True::(W6 8 (.adr 10 3 (.some 0) True::.v 11 _::.adr 12 2 (.some 2) True::(Wb 13 (.adr 16 2 (.some 2) True::.v 17 _::.adr 18 3 (.some 2) True::(Wb 19 [.sto 2])))))) [] ac U (zO 0 G aZ (zL 0 0 0 G ap (zO 1 G aU (zL 2 1 1 G ap (zQ G (dO zo zo) (.p (vq 1 G) (vq 3 G)) (zO 1 G aZ (zL 5 1 0 G ap (zO 0 G aU (zL 7 0 1 G ap (zQ G (dO zo zo) (.p (vq 6 G) (vq 8 G)) (zQ G (uy zo zo) (.p (vq 4 G) (vq 9 G)) (zO 0 G aU (zL 11 0 1 G ap (zO 1 G aU (zL 13 1 1 G ap (zQ G (dO zo zo) (.p (vq 12 G) (vq 14 G)) (zQ G (gj zo zo (den_nz x y)) (.p (vq 10 G) (vq 15 G)) (zS 16 G ax o0)))))))))))))))))) zk zk zk zk (zz [] Rt λ a w U=>?_);refine aa<|qi<|al ?_ (au G U (zm 2 G) ax);exact cB (ba (qq (Qs _) (BA x y))) (cc zo).va
theorem t6 (hc:c+d≤549755813888):Cn Tryz.prog 121 [Qs c x,Qs d y] (Qs (c+d+1) (x-y)):=by
 refine Cn.intro Tryz.func121 G zk nq (zy [(0,Qs c x),(1,Qs d y)] λ B w0 a U=>?_);refine qb<|zg [] Rr Um [] U (zW 0 G (zW 1 G (zY G (Str.zero aS) o0))) (zz [] Rt λ a w U=>?_);refine zt<|zgd [[],[0],[],[2],(Wm 4),[],[5],[],[7],(Wm 9),(Wm 10),[],[11],[],[13],(Wm 15),(Wm 16),(Wm 17)] [none,none,some (17,_)] [] (.adr 5 2 (.some 0) True::.v 6 _::.adr 7 3 (.some 2) True::(W6 8 (.adr 10 3 (.some 0) True::.v 11 _::.adr 12 2 (.some 2) True::(Wb 13 (.adr 16 2 (.some 2) True::.v 17 _::.adr 18 3 (.some 2) True::(Wb 19 [.sto 2])))))) [] ac U (zO 0 G aZ (zL 0 0 0 G ap (zO 1 G aU (zL 2 1 1 G ap (zQ G (dO zo zo) (.p (vq 1 G) (vq 3 G)) (zO 1 G aZ (zL 5 1 0 G ap (zO 0 G aU (zL 7 0 1 G ap (zQ G (dO zo zo) (.p (vq 6 G) (vq 8 G)) (zQ G (K2 zo zo) (.p (vq 4 G) (vq 9 G)) (zO 0 G aU (zL 11 0 1 G ap (zO 1 G aU (zL 13 1 1 G ap (zQ G (dO zo zo) (.p (vq 12 G) (vq 14 G)) (zQ G (gj zo zo (den_nz x y)) (.p (vq 10 G) (vq 15 G)) (zS 16 G ax o0)))))))))))))))))) zk zk zk zk (zz [] Rt λ a w U=>?_);refine aa<|qi<|al ?_ (au G U (zm 2 G) ax);exact cB (ba (qq (Qs _) (Jd x y))) (cc zo).va
theorem l4 (hc:c+d≤549755813888):Cn Tryz.prog 119 [Qs c x,Qs d y] (Qs (c+d) (x*y)):=by
 refine Cn.intro Tryz.func119 G zk nq (zy [(0,Qs c x),(1,Qs d y)] λ B w0 a U=>?_);refine qb<|zg [] Rr Um [] U (zW 0 G (zW 1 G (zY G (Str.zero aS) o0))) (zz [] Rt λ a w U=>?_);refine zt<|zgd Ru Rv [] (.adr 5 2 (.some 0) True::.v 6 _::.adr 7 3 (.some 0) True::(W6 8 (.adr 10 2 (.some 2) True::.v 11 _::.adr 12 3 (.some 2) True::(Wb 13 [.sto 2])))) [] ac U (zO 0 G aZ (zL 0 0 0 G ap (zO 1 G aZ (zL 2 1 0 G ap (zQ G (dO zo zo) (.p (vq 1 G) (vq 3 G)) (zO 0 G aU (zL 5 0 1 G ap (zO 1 G aU (zL 7 1 1 G ap (zQ G (dO zo zo) (.p (vq 6 G) (vq 8 G)) (zQ G (gj zo zo (den_nz x y)) (.p (vq 4 G) (vq 9 G)) (zS 10 G ax o0)))))))))))) zk zk zk zk (zz [] Rt λ a w U=>?_);refine aa<|qi<|al ?_ (au G U (zm 2 G) ax);exact cB (ba (qq (Qs _) (sP x y))) (cc zo).va
theorem N8 (hc:c+d≤549755813888)(h0:y≠0):Cn Tryz.prog 194 [Qs c x,Qs d y] (Qs (c+d) (x/y)):=by
 refine Cn.intro Tryz.func194 G zk nq (zy [(0,Qs c x),(1,Qs d y)] λ B w0 a U=>?_);refine qb<|zg [] Rr Um [] U (zW 0 G (zW 1 G (zY G (Str.zero aS) o0))) (zz [] Rt λ a w U=>?_);refine zt<|zgd Ru Rv [] (.adr 5 2 (.some 0) True::.v 6 _::.adr 7 3 (.some 2) True::(W6 8 (.adr 10 2 (.some 2) True::.v 11 _::.adr 12 3 (.some 0) True::(Wb 13 [.sto 2])))) [] ac U (zO 0 G aZ (zL 0 0 0 G ap (zO 1 G aU (zL 2 1 1 G ap (zQ G (dO zo zo) (.p (vq 1 G) (vq 3 G)) (zO 0 G aU (zL 5 0 1 G ap (zO 1 G aZ (zL 7 1 0 G ap (zQ G (dO zo zo) (.p (vq 6 G) (vq 8 G)) (zQ G (gj zo zo (C8 x h0)) (.p (vq 4 G) (vq 9 G)) (zS 10 G ax o0)))))))))))) zk zk zk zk (zz [] Rt λ a w U=>?_);refine aa<|qi<|al ?_ (au G U (zm 2 G) ax);exact cB (ba (qq (Qs _) (sQ x y))) (cc zo).va
theorem Ej (hc:c≤549755813888):Cn Tryz.prog 120 [Qs c x] ((RFA (rfOf (-x))).va):=by
 refine Cn.intro Tryz.func120 G zk nq (zy [(0,Qs c x)] λ B w0 a U=>?_);refine qb<|zg [] Rw UU [] U (zW 0 G (zY G (Str.zero aS) o0)) (zz [] Rx λ a w U=>?_);refine zt<|zgd [[],[0],[0,1],[],[3],[0,1,2],(Wm 6),(Wm 7),(Wm 8)] [none,some (8,_)] [] (.adr 3 1 (.some 0) True::(W6 4 (.adr 6 1 (.some 2) True::(Ww 7 [.sto 1])))) [] ac U (zO 0 G aZ (zL 0 0 0 G ap (zQ G (ou zo) (.o (vq 1 G)) (zO 0 G aU (zL 3 0 1 G ap (zQ G (of_z zd zd) (.cons ab .nil) (zQ G (uy zo zo) (.p (vq 4 G) (vq 5 G)) (zv G (aT (qs:=[(0,_),(1,_)]) aS (.cons ⟨rfl,vq 2 rfl,rfl⟩ (.cons ⟨rfl,vq 6 rfl,rfl⟩ .nil))) (zS 7 G ax o0))))))))) zk zk zk zk (zz [] Rx λ a w U=>?_);refine aa<|qi<|al ?_ (au G U (zm 1 G) ax);exact ((br (.cons zaA (.cons zaA .nil))).trans (gX (qq (λ z=>cat [RIA (riOf (-x.num)),RIA (riOf z)]) (jN _)))).va
theorem Og (hc:c≤549755813888):Cn Tryz.prog 27 [Qs c x] ((RFA (rfOf x)).va):=by
 refine Cn.intro Tryz.func27 G zk nq (zy [(0,Qs c x)] λ B w0 a U=>?_);refine qb<|zg [] Rw UU [] U (zW 0 G (zY G (Str.zero aS) o0)) (zz [] Rx ?_);refine ztA<|zgA UF [⟨3,26,ptrH,some 1,_,some (2,_)⟩] [.v 4 _,.alc 2,.sto 2] [] (zQ G (of_z zd zd) (.cons ab .nil) (zY G (Str.zero bu) (zS 0 G ap o0))) (zz [] Ry λ a w U=>?_);refine zt<|zgd [[],[0],[],[0,1,2],[],[4],[],(Wm 7),(Wm 8),(Wm 9)] [none,some (9,_),none] [] (.adr 5 1 (.some 0) True::(Wb 6 (.adr 9 1 (.some 2) True::(Ww 10 [.sto 1])))) [] ac U (zO 0 G aZ (zL 0 0 0 G ap (zl 2 G ap (zQ G (uy zo zo) (.p (vq 1 G) (vq 2 G)) (zO 0 G aU (zL 4 0 1 G ap (zl 2 G ap (zQ G (uy zo zo) (.p (vq 5 G) (vq 6 G)) (zv G (aT (qs:=[(0,_),(1,_)]) aS (.cons ⟨rfl,vq 3 rfl,rfl⟩ (.cons ⟨rfl,vq 7 rfl,rfl⟩ .nil))) (zS 8 G ax o0)))))))))) zk zk zk zk (zz [] Ry λ a w U=>?_);refine aa<|qi<|al ?_ (au G U (zm 1 G) ax);exact ((br (.cons zaA (.cons zaA .nil))).trans (gX (Oi x))).va
theorem Lo (hc:c+d≤549755813888):Cn Tryz.prog 124 [Qs c x,Qs d y] (In (cmQ x y)):=by
 refine Cn.intro Tryz.func124 G zk nq (zy [(0,Qs c x),(1,Qs d y)] λ B w0 a U=>?_);refine qb<|zg [] Rz UC Ud U (zW 0 G (zW 1 G (zE G ab))) (zz U3 RA λ a w U=>?_);refine zt<|zgd Ru UF [] (.adr 5 2 (.some 0) True::.v 6 _::.adr 7 3 (.some 2) True::(W6 8 (.adr 10 3 (.some 0) True::.v 11 _::.adr 12 2 (.some 2) True::(Wb 13 [.v 4 _])))) [.o 11] ac U (zO 0 G aZ (zL 0 0 0 G ap (zO 1 G aU (zL 2 1 1 G ap (zQ G (dO zo zo) (.p (vq 1 G) (vq 3 G)) (zO 1 G aZ (zL 5 1 0 G ap (zO 0 G aU (zL 7 0 1 G ap (zQ G (dO zo zo) (.p (vq 6 G) (vq 8 G)) (zQ G (Om zo zo) (.p (vq 4 G) (vq 9 G)) (zA 10 G o0)))))))))))) zk zk zk zk (zz U3 RA λ a w U=>?_);refine aa<|qi<|al ?_ (am G U (zm 0 G));exact ba (qq In (Ow x y))
theorem sign_q {x:Rat}:Cn Tryz.prog 101 [Qs c x] (In x.num.sign):=by
 refine Cn.intro Tryz.func101 G zk nq (zy [(0,Qs c x)] λ B w0 a U=>?_);refine qb<|zg [] RB Uv Uw U (zW 0 G (zE G ab)) (zz Ux RC ?_);refine ztA<|zgA U4 [] (.adr 3 1 (.some 0) True::(W6 4 [.v 2 _])) UJ (zO 0 G aZ (zL 0 0 0 G ap (zQ G B2 (.o (vq 1 G)) (zA 2 G o0)))) (zz Ux RC λ a w U=>?_);refine aa<|qi<|al ?_ (am G U (zm 0 G));exact aG
theorem A7 : ∃ fn, Tryz.prog.funcs[120]? = some fn∧(fn.name == "runtime.NumGoroutine")=false∧fn.body.isNone=false := ⟨_, Tryz.func120, by kernel_rfl, by kernel_rfl⟩
theorem wC : ∃ fn, Tryz.prog.funcs[27]? = some fn∧(fn.name == "runtime.NumGoroutine")=false∧fn.body.isNone=false := ⟨_, Tryz.func27, by kernel_rfl, by kernel_rfl⟩
theorem Jr {k B:Nat}{r:Rat}(h:(Qs k r).p B v w):lz r.num≤k∧lz (r.den:Int)≤k:=by
 obtain ⟨cs,⟨ps,_,hp⟩,_⟩:=h;cases hp with
 | cons h1 hp=>cases hp with|cons h2 _=>exact ⟨h1.1,h2.1⟩
theorem lU (hc:c≤549755813888):Cn Tryz.prog 120 [Qs c x] (Qs c (-x)) :=
 Cn.know (c:=lz x.num≤c∧lz (x.den:Int)≤c) A7 (λ B w args ha=>by cases ha with|cons h1 _=>exact Jr h1) λ h=>(Ej hc).wkp (F7 (by rw [vA,lK];exact h.1) (by rw [vB];exact h.2)).va
theorem Oh (hc:c≤549755813888):Cn Tryz.prog 27 [Qs c x] (Qs c x) :=
 Cn.know (c:=lz x.num≤c∧lz (x.den:Int)≤c) wC (λ B w args ha=>by cases ha with|cons h1 _=>exact Jr h1) λ h=>(Og hc).wkp (F7 h.1 h.2).va
theorem Ma (l:Ya):UpA (MgA l) (MgA l):=⟨rfl,rfl,λ B cs w hB hp=>by
 obtain ⟨ok,h0,A,c,ds,rfl,h1,h2,h3,h4⟩:=hp;refine ⟨ok,h0,A,c,ds,rfl,h1,h2,?_,λ hn=>?_⟩
 ·exact cat_nums.2 (cat_nums.1 h3)
 ·obtain ⟨b,o,e1,e2,e3,e4⟩:=h4 hn;exact ⟨b,o,e1,e2,.inl e2,e4⟩⟩
theorem Im {c:Prop}(h:UpA A A):UpA (A.and c) (A.and c):=⟨rfl,rfl,λ B cs w hB hp=>⟨hp.1,h.2.2 B cs w hB hp.2⟩⟩
theorem Az (x:RI):UpA (RIA x) (RIA x):=iS (.cons (M9 _) (.cons (Ma _) .nil))
theorem eI (x:RF):UpA (RFA x) (RFA x):=iS (.cons (Az _) (.cons (Az _) .nil))
theorem upA_za :UpA (ZA k z) (ZA k z):=Im (Az _)
theorem upA_qa :UpA (QA k r) (QA k r):=iS (.cons upA_za (.cons upA_za .nil))
theorem LH (h:∀ A∈l,UpA A A):All2 UpA l l:=by
 induction l with
 | nil=>exact .nil
 | cons A l ih=>exact .cons (h A (by simp)) (ih λ A' hA=>h A' (by simp [hA]))
theorem iY {E:Yh}(h:∀ A∈l,UpA A A):UpA (SlA E D l) (SlO E D l True):=⟨rfl,rfl,λ B cs w hB hp=>by
 obtain ⟨hD,A,c,ds,rfl,h1,h2,h3,h4⟩:=hp;refine ⟨trivial,hD,A,c,ds,rfl,h1,h2,(iS (LH h)).2.2 B ds w hB h3,λ hn=>?_⟩;obtain ⟨b,o,e1,e2,e3,e4⟩:=h4 hn;exact ⟨b,o,e1,e2,e2,e4⟩⟩
theorem IR {E:Yh}{p:Prop}(h:(SlO E D l p).va.p B v w):l.length≤9223372036854775807:=by
 obtain ⟨cs,⟨_,_,A,c,ds,_,h1,h2,_⟩,_⟩:=h;unfold maxLen at h2;omega
def dX (q:Rat):Bool:=[riOf q.num].any bigI || [riOf (q.den:Int)].any bigI
theorem longQ_false {q:Rat}:dX q=false↔lz q.num≤2048∧lz (q.den:Int)≤2048:=by
 simp [dX,bigI,fy];omega
def IsQ (A:As)(q:Rat):Prop:=∃ k,A=QA k q
theorem AU {E:Yh}(h:All2 WkA l l')(hD:∀ A∈l',∀ T∈A.deps,T∈D):WkA (SlA E D l) (SlA E D l'):=⟨rfl,rfl,λ B cs w ⟨_,A,c,ds,e,h1,h2,h3,h4⟩=>by
 have hl:=h.length;exact ⟨hD,A,c,ds,by rw [← hl];exact e,by rw [← hl];exact h1,h2,(br h).2.2 B ds w h3,λ hn=>h4 (by rw [hl];exact hn)⟩⟩
theorem NK {L:Yb}{qs:List Rat}(h:All2 IsQ L qs){j:Nat}(hj:j<qs.length):∃ k,L[j]?=some (QA k qs[j]):=by
 have hl:=h.length;obtain ⟨q,h1,k,h2⟩:=h.get (List.getElem?_eq_getElem (show j<L.length by omega));rw [List.getElem?_eq_getElem hj] at h1;injection h1 with h1;exact ⟨k,by rw [List.getElem?_eq_getElem zo,h2,h1]⟩
theorem NJ {L:Yb}{qs:List Rat}(h:All2 IsQ L qs):∀ A∈L,UpA A A:=λ A hA=>by
 obtain ⟨j,hj⟩:=List.getElem?_of_mem hA;obtain ⟨q,_,k,rfl⟩:=h.get hj;exact upA_qa
theorem Qm {L:Yb}{qs:List Rat}(h:All2 IsQ L qs):∀ A∈L,A.n=4:=λ A hA=>by
 obtain ⟨j,hj⟩:=List.getElem?_of_mem hA;obtain ⟨q,_,k,rfl⟩:=h.get hj
 rfl
theorem Kc {l:List Rat}(h:j<l.length)(h2:dX l[j]=true):true=l.any dX:=(jl.2 ⟨_,qh h,h2⟩).symm
theorem Qi {l:List Rat}(h:j<l.length)(h1:(l.take j).any dX=false)(h2:dX l[j]=false):(l.take (j+1)).any dX=false:=by
 rw [qx h,kc,h1];simp [h2]
theorem Ny {L:Yb}(qs:List Rat)(hL:All2 IsQ L qs)(hl:qs.length≤1099511627776):Cn Tryz.prog 215 [(SlA 28 [U32] L).va] (Bo (qs.any dX)):=by
 have hLl:=hL.length;refine Cn.introW Tryz.func215 G zk nq (.cons (iY (NJ hL)).va .nil) (ep _).va (λ B w0 a hB0 U=>?_);have U:=zn [(0,(SlO 28 [U32] L True).va)] [] U;refine qb<|zh UA Rd U (zE G aE) (zz Re [] ?_);refine ztA<|zsA<|zhA (Wb 5) Ur (zM 0 G (zv G (bg qR (bz (aC (vq 0 G)))) (zv G (aq ab) o0))) (zz (Wf 2 5 6 7) [] λ a w U=>?_);refine aa<|ql ?_;have U:=St.sel U [1,2,3];refine wp_loop_ghost (λ n a w=>∃ j:Nat,(n+j=qs.length∧(qs.take j).any dX=false)∧St B w0 22 [(5,(SlO 28 [U32] L True).va),(6,In (qs.length:Nat)),(7,In (j:Nat))] [] a w) (qs.length) ?_ ?_
 ·exact ⟨0,⟨by omega,rfl⟩,by rw [hLl] at U;exact U⟩
 intro n a w hI;obtain ⟨j,⟨hn,hno⟩,U⟩:=hI;refine qb<|zh [.v 8 _] WZ U (zv G (aN (gq 2 G) (gq 1 G)) o0) (zz (Wf 5 6 7 8) [] λ a w U=>?_);refine zt<|cd U (zm 3 G) (λ hb0=>?_) (λ hb0=>?_)
 ·have hj:j<qs.length:=by simp at hb0;omega
  obtain ⟨kj,hLj⟩:=NK hL hj;refine qk<|zt<|ql<|qb<|zg [] [⟨4,28,ptrH,some 2,_,some (3,_)⟩] (W6 9 [.alc 0,.sto 0]) W7 U (zv G (bB du (Qm hL) (bz (aC (gq 0 G))) (gq 2 G) hLj) (zv G (ao (vq 0 G) ax) (zY G (Str.zero aS) (zS 1 G ax o0)))) (zz (Wa 5 6 7) Rq ?_);refine ztA<|zgA U4 [] (.adr 11 4 (.some 0) True::(Ww 12 [.adr 16 4 (.some 2) (_=false),.f 17 _,.f 18 _,.f 19 _,.v 20 _])) (W7 [.o 9]) (zO 0 G aZ (zL 0 0 0 G ap (zv G (bR (D:=[U32]) (l:=[_]) (xs:=[.tmp 12]) (cO zk) AX zk (n_ok zk) nq nq nq (.o (vq 1 G)) G G) (zQ G ((Cv [riOf (qs[j]).num] nq).wk (.cons (AU (.cons zaA .nil) (cO zk)).va .nil)) (.o (vq 2 G)) (zV 3 G (zC 4 0 G aU (zB 4 G (λ hg=>aB 5 G zk hg (lz0 0 G) (Sub.part 1 G G) ap) (zB 4 G (λ hg=>bR (D:=[U32]) (l:=[_]) (xs:=[.tmp 17]) (cO zk) AX zk (n_ok zk) nq nq nq (.o (ae (vq 6 G) hg)) G G) (zB 4 G (λ hg=>be ((Cv [riOf ((qs[j]).den:Int)] nq).wk (.cons (AU (.cons zaA .nil) (cO zk)).va .nil)) (.o (ae (vq 7 G) hg))) (zv G (r_or (vq 4 G) (vq 8 G)) o0)))))))))) (zz (Wf 5 6 7 20) Rq λ a w U=>?_);refine zJ 3 U G (λ hb1=>?_) (λ hb1=>?_)
  ·refine qb<|zg U6 [] UA WZ U (zE G aE) (zz (Wf 5 6 7 2) Rq λ a w U=>?_);refine aa<|qi<|aD ?_;refine aj ?_;refine aj ?_;refine aD ?_;refine aj ?_;refine aJ ?_ (am G U (zm 3 G));rw [← Kc hj hb1]
  ·refine qk<|ak ?_;refine aa<|zg U6 [] [.v 21 _,.v 7 _] UI U (zv G (aL (gq 2 G) ab (aW zo)) (zV 0 G o0)) (zz (Wa 5 6 7) Rq λ a w U=>?_);refine aa ?_;have U:=St.sel U [0,1,2];have U:=St.selL U [];exact ⟨n-1,by omega,j+1,⟨by omega,Qi hj hno hb1⟩,U⟩
 ·obtain rfl:j=qs.length:=by simp at hb0;omega
  refine qM<|ai<|ai<|az<|zt<|zh UA U2 U (zE G aE) (zz Ux [] λ a w U=>?_);refine zN 0 U G G ?_;rw [qI] at hno;rw [hno]
theorem r5 (qs:List Rat)(hL:All2 IsQ L qs)(hl:qs.length≤1099511627776):Cn Tryz.prog 169 [(SlA 28 [U32] L).va] (In (if qs.any dX then 4 else 0)):=by
 refine Cn.intro Tryz.func169 G zk nq (zy [(0,(SlA 28 [U32] L).va)] λ B w0 a U=>?_);refine qb<|zh UA Rd U (zE G ab) (zz Re [] ?_);refine ztA<|zsA<|zhA (W6 3) RD (zM 0 G (zQ G (Ny qs hL hl) (.o (vq 0 G)) o0)) (zz (Wc 2 4) [] λ a w U=>?_);refine zJ 1 U G (λ hb0=>?_) (λ hb0=>?_)
 ·refine qb<|zh UA U2 U (zE G ab) (zz Ux [] λ a w U=>?_);refine aa<|qi<|aj ?_;refine aJ ?_ (am G U (zm 0 G));rw [hb0];rfl
 ·refine qk<|zt<|zh UA U2 U (zE G ab) (zz Ux [] λ a w U=>?_);refine zN 0 U G G ?_;rw [hb0];rfl
def okF (x:RF):Bool:=okRI x.num&&okRI x.den&&decide (0<sgI x.den)&&decide (Nat.gcd (val x.num.mag) (val x.den.mag)=1)
theorem o5 {x:RI}(ok:okL x.mag)(h:okRI x=true):∃ z,x=riOf z∧lz z≤2048:=by
 obtain ⟨neg,l⟩:=x;simp only [okRI,qz,qO,jB,qn,beq_eq_false_iff_ne,ne_eq] at h ok;obtain ⟨⟨h1,h2⟩,h3⟩:=h;have hc:Canon l:=by
  refine ⟨ok,λ e=>?_⟩;rcases List.eq_nil_or_concat l with rfl|⟨m,y,rfl⟩
  ·simp at e
  ·simp at e;subst e;rcases h2 with h2|h2
   ·simp at h2
   ·exact h2 (by simp)
 have e:aA (val l)=l:=rO hc;cases neg with
 | false=>exact ⟨(val l:Nat),by simp [riOf,e],by show (aA _).length≤2048;rw [kA,e];omega⟩
 | true =>
  have hl:l≠[]:=λ e=>by subst e;simp at h3
  have hv:0<val l:=hc.val_pos hl;exact ⟨-(val l:Nat),by simp [riOf,e];omega,by show (aA _).length≤2048;rw [Int.natAbs_neg,kA,e];omega⟩
theorem JJ :okRI (riOf z)=decide (lz z≤2048):=by
 unfold okRI;by_cases h0:z=0
 ·subst h0;simp [riOf,bE,lz]
 ·have h1:=iw h0;have h2:=(bm z.natAbs).2;have e:(riOf z).mag=aA z.natAbs:=rfl;have e2:(aA z.natAbs).length=lz z:=rfl;have h3:(aA z.natAbs).getD (lz z-1) 0≠0:=λ hh=>by
   apply h2;rw [List.getLast?_eq_getElem?,e2,List.getElem?_eq_getElem zo];rw [List.getD_eq_getElem?_getD,List.getElem?_eq_getElem zo] at hh;simpa using hh
  rw [e,e2];by_cases h4:lz z≤2048
  ·have h5:¬ ((lz z:Int)>2048):=by omega
   have h6:¬ ((lz z:Int)=0):=by omega
   have h7:¬ (((aA z.natAbs).getD (lz z-1) 0:Nat):Int)=((0:Nat):Int):=by omega
   simp only [h4,h5,decide_true,decide_false,beq_eq_false_iff_ne.2 h7,beq_eq_false_iff_ne.2 h6,Bool.and_false,Bool.false_and,Bool.or_self,jU]
  ·have h5:((lz z:Int)>2048):=by omega
   simp only [h4,h5,decide_true,decide_false,Bool.true_or,vk]
theorem Q4 {x:RF}(ok:okL x.num.mag∧okL x.den.mag)(h:okF x=true):∃ r:Rat,x=rfOf r∧lz r.num≤2048∧lz (r.den:Int)≤2048:=by
 obtain ⟨xn,xd⟩:=x;simp only [okF,qm,qJ] at h ok;obtain ⟨⟨⟨h1,h2⟩,h3⟩,h4⟩:=h;obtain ⟨p,rfl,hp⟩:=o5 ok.1 h1;obtain ⟨q,rfl,hq⟩:=o5 ok.2 h2;rw [dL] at h3;have hq0:0<q:=Int.sign_pos_iff.1 h3;rw [bF,bF] at h4;refine ⟨⟨p,q.natAbs,by omega,h4⟩,?_,hp,?_⟩
 ·show RF.mk _ _=RF.mk (riOf p) (riOf (q.natAbs:Nat));rw [show ((q.natAbs:Nat):Int)=q by omega]
 ·show lz ((q.natAbs:Nat):Int)≤2048;rw [show ((q.natAbs:Nat):Int)=q by omega];exact hq
theorem ok1 (h:(((if b then (0:Int) else 1) != 0))=false):b=true:=by cases b <;> simp at h ⊢
theorem HP {x:RF}(h:((((if okRI x.num then (0:Int) else 1) != 0) || ((if okRI x.den then (0:Int) else 1) != 0)) || decide (sgI x.den≤0))=true):(1:Int)=if okF x then 0 else 1:=by
 have:okF x=false:=by
  unfold okF;cases h1:okRI x.num <;> cases h2:okRI x.den <;> simp [h1,h2] at h ⊢;omega
 rw [this];rfl
theorem Ms {p q:Int}(h:(sg3 ((Int.gcd p q:Nat):Int) 1 != 0)=true):Int.gcd p q≠1:=λ e=>by rw [e] at h;simp [sg3] at h
theorem oH (h:(RFA x).va.p B v w):okL x.num.mag∧okL x.den.mag:=by
 obtain ⟨cs,⟨ps,_,hp⟩,_⟩:=h;cases hp with
 | cons h1 hp=>cases hp with|cons h2 _=>exact ⟨(l7 ⟨_,h1,rfl⟩).1,(l7 ⟨_,h2,rfl⟩).1⟩
theorem QL (hp:lz p≤1099511627776)(hq:lz q≤1099511627776):Cn Tryz.prog 177 [Zi p,Zi q] (In (sg3 p q)):=(HM (riOf p) (riOf q) (by rw [fy];omega) (by rw [fy];omega)).post (by rw [HL])
theorem Ns:lz 1≤1099511627776:=qg (t8 (k:=1) zd) zd
theorem Gl (xn xd:RI):Cn Tryz.prog 100 [(RFA ⟨xn,xd⟩).va] (In (if okF ⟨xn,xd⟩ then 0 else 1)):=by
 refine Cn.intro Tryz.func100 G zk nq (zy [(0,(RFA ⟨xn,xd⟩).va)] λ B w0 a U=>?_);have hok:=oH (U.vals (0,(RFA ⟨xn,xd⟩).va) (zm 0 rfl));refine qb<|zg [] RB Uv Uw U (zW 0 G (zE G ab)) (zz Ux RC ?_);refine ztA<|zsA<|zgA U4 [] (.adr 3 1 (.some 0) True::(Ww 4 (.adr 8 1 (.some 2) (_=false)::.f 9 _::.f 10 _::.f 11 _::(W6 12 [.adr 14 1 (.some 2) (_=false),.f 15 _,.f 16 _,.f 17 _,.v 18 _])))) [.g 0,.o 15] (zO 0 G aZ (zL 0 0 0 G ap (zQ G (tI _) (.o (vq 1 G)) (zv G (ca (vq 2 G) ab) (zV 3 G (zC 4 0 G aU (zB 4 G (λ hg=>aB 5 G zk hg (lz0 0 G) (Sub.part 1 G G) ap) (zB 4 G (λ hg=>be (tI _) (.o (ae (vq 6 G) hg))) (zB 4 G (λ hg=>ca (ae (vq 7 G) hg) ab) (zv G (r_or (vq 4 G) (vq 8 G)) (zV 9 G (zC 10 0 G aU (zB 10 G (λ hg=>aB 11 G zk hg (lz0 0 G) (Sub.part 1 G G) ap) (zB 10 G (λ hg=>be (uh _) (.o (ae (vq 12 G) hg))) (zB 10 G (λ hg=>l9 (ae (vq 13 G) hg) ab) (zv G (r_or (vq 10 G) (vq 14 G)) o0)))))))))))))))) (zz (Wc 2 18) RC λ a w U=>?_);refine zJ 1 U G (λ hb0=>?_) (λ hb0=>?_)
 ·refine qb<|zg U6 [] UA U2 U (zE G ab) (zz Ux RC λ a w U=>?_);refine aa<|qi<|aj ?_;refine aJ ?_ (am G U (zm 0 G));exact qq In (HP hb0)
 ·rw [qO,qO] at hb0;obtain ⟨p,rfl,hp⟩:=o5 hok.1 (ok1 hb0.1.1);obtain ⟨q,rfl,hq⟩:=o5 hok.2 (ok1 hb0.1.2);have hq0:0<sgI (riOf q):=by have h2:¬ sgI (riOf q)≤0:=qw hb0.2;omega
  have hpq:=Ck p q;refine qk<|zt<|qb<|zg U6 [] (.adr 19 1 (.some 0) True::.v 20 _::.adr 21 1 (.some 2) True::(Wd 22)) [.g 0,.o 7] U (zO 0 G aZ (zL 0 0 0 G ap (zO 0 G aU (zL 2 0 1 G ap (zQ G ((wS p q zo zo).wkp lB) (.p (vq 1 G) (vq 3 G)) (zQ G (of_c 1 zd zd) (.cons ab .nil) (zQ G (QL zo Ns) (.p (vq 4 G) (vq 5 G)) (zv G (ca (vq 6 G) ab) o0)))))))) (zz (Wc 2 26) RC λ a w U=>?_);refine zJ 1 U G (λ hb1=>?_) (λ hb1=>?_)
  ·refine qb<|zg U6 [] UA U2 U (zE G ab) (zz Ux RC λ a w U=>?_);refine aa<|qi<|aj ?_;refine aJ ?_ (am G U (zm 0 G));have e1:=Ms hb1;exact qq In (by rw [show okF ⟨riOf p,riOf q⟩=false from by unfold okF;rw [bF,bF];simp [show ¬ Nat.gcd p.natAbs q.natAbs=1 from e1]];rfl)
  ·refine qk<|zt<|zg U6 [] UA U2 U (zE G ab) (zz Ux RC λ a w U=>?_);refine zN 0 U G G ?_;have e1:=CX hb1;exact qq In (by rw [show okF ⟨riOf p,riOf q⟩=true from by unfold okF;rw [bF,bF,ok1 hb0.1.1,ok1 hb0.1.2];simp [hq0,show Nat.gcd p.natAbs q.natAbs=1 from e1]];rfl)
def okLb (l:List Nat):Bool:=l.all λ x=>decide (x<4294967296)
theorem okLb_iff :okLb l=true↔okL l:=by simp [okLb,okL]
def okX (x:RF):Bool:=okLb x.num.mag&&okLb x.den.mag&&okF x
def zI (x:RI):Int:=if x.neg then -(val x.mag:Nat) else (val x.mag:Nat)
def toQ (x:RF):Rat:=Rat.divInt (zI x.num) (zI x.den)
theorem LO (z:Int):zI (riOf z)=z:=by
 unfold zI;rw [bF];by_cases h:z<0 <;> simp [riOf,h] <;> omega
theorem Mh (r:Rat):toQ (rfOf r)=r:=by
 show Rat.divInt (zI (riOf r.num)) (zI (riOf (r.den:Int)))=r;rw [LO,LO];exact kw r
theorem uD {x:RF}(h:okL x.num.mag∧okL x.den.mag):okX x=okF x:=by rw [okX,okLb_iff.2 h.1,okLb_iff.2 h.2];rfl
theorem yC (h:okX x=true):x=rfOf (toQ x)∧lz (toQ x).num≤2048∧lz ((toQ x).den:Int)≤2048:=by
 simp only [okX,qm] at h;obtain ⟨r,rfl,h1⟩:=Q4 ⟨okLb_iff.1 h.1.1,okLb_iff.1 h.1.2⟩ h.2;rw [Mh];exact ⟨rfl,h1⟩
abbrev rf0:RF:=⟨⟨false,[]⟩,⟨false,[]⟩⟩
theorem G2 : ∃ fn, Tryz.prog.funcs[100]? = some fn∧(fn.name == "runtime.NumGoroutine")=false∧fn.body.isNone=false := ⟨_, Tryz.func100, by kernel_rfl, by kernel_rfl⟩
theorem tH (x:RF):Cn Tryz.prog 100 [(RFA x).va] (In (if okX x then 0 else 1)) :=
 Cn.know (c:=okL x.num.mag∧okL x.den.mag) G2 (λ B w args ha=>by cases ha with|cons h1 _=>exact oH h1) λ h=>(Gl x.num x.den).post (by rw [uD h])
theorem Ng {l:List RF}(h:j<l.length)(h2:((if okX l[j] then (0:Int) else 1) != 0)=true):false=l.all okX:=by
 have h3:okX l[j]=false:=by cases hh:okX l[j] <;> simp [hh] at h2 ⊢
 exact (wa.2 ⟨_,qh h,by simp [h3]⟩).symm
theorem He {l:List RF}(h:j<l.length)(h1:(l.take j).all okX=true)(h2:((if okX l[j] then (0:Int) else 1) != 0)=false):(l.take (j+1)).all okX=true:=by
 rw [qx h,wt,h1];simp [ok1 h2]
theorem Gk (xs:List RF)(hl:xs.length≤1099511627776):Cn Tryz.prog 219 [(SlA 28 [U32] (xs.map RFA)).va] (Bo (xs.all okX)):=by
 refine Cn.introW Tryz.func219 rfl zk nq (.cons (iY (λ A hA=>by obtain ⟨x,_,rfl⟩:=qr.1 hA;exact eI x)).va .nil) (ep _).va (λ B w0 a hB0 U=>?_);have U:=zn [(0,(SlO 28 [U32] (xs.map RFA) True).va)] [] U;refine qb<|zh UA Rd U (zE G aE) (zz Re [] ?_);refine ztA<|zsA<|zhA (Wb 5) Ur (zM 0 G (zv G (bg qR (bz (aC (vq 0 G)))) (zv G (aq ab) o0))) (zz (Wf 2 5 6 7) [] λ a w U=>?_);refine aa<|ql ?_;have U:=St.sel U [1,2,3];refine wp_loop_ghost (λ n a w=>∃ j:Nat,(n+j=xs.length∧(xs.take j).all okX=true)∧St B w0 15 [(5,(SlO 28 [U32] (xs.map RFA) True).va),(6,In (xs.length:Nat)),(7,In (j:Nat))] [] a w) (xs.length) ?_ ?_
 ·exact ⟨0,⟨by omega,rfl⟩,by rw [qd] at U;exact U⟩
 intro n a w hI;obtain ⟨j,⟨hn,hno⟩,U⟩:=hI;refine qb<|zh [.v 8 _] WZ U (zv G (aN (gq 2 G) (gq 1 G)) o0) (zz (Wf 5 6 7 8) [] λ a w U=>?_);refine zt<|cd U (zm 3 G) (λ hb0=>?_) (λ hb0=>?_)
 ·have hj:j<xs.length:=by simp at hb0;omega
  refine qk<|zt<|ql<|qb<|zg [] [⟨4,28,ptrH,some 2,_,some (3,_)⟩] (W6 9 [.alc 0,.sto 0]) W7 U (zv G (bB du (bX λ _=>rfl) (bz (aC (gq 0 G))) (gq 2 G) (bn hj)) (zv G (ao (vq 0 G) ax) (zY G (Str.zero aS) (zS 1 G ax o0)))) (zz (Wa 5 6 7) Rq ?_);refine ztA<|zgA U4 [] (Wb 11) UG (zl 0 G ax (zQ G (tH _) (.o (vq 0 G)) (zv G (ca (vq 1 G) ab) o0))) (zz (Wf 5 6 7 13) Rq λ a w U=>?_);refine zJ 3 U G (λ hb1=>?_) (λ hb1=>?_)
  ·refine qb<|zg U6 [] UA WZ U (zE G aE) (zz (Wf 5 6 7 2) Rq λ a w U=>?_);refine aa<|qi<|aD ?_;refine aj ?_;refine aj ?_;refine aD ?_;refine aj ?_;refine aJ ?_ (am G U (zm 3 G));rw [← Ng hj hb1]
  ·refine qk<|ak ?_;refine aa<|zg U6 [] [.v 14 _,.v 7 _] UI U (zv G (aL (gq 2 G) ab (aW zo)) (zV 0 G o0)) (zz (Wa 5 6 7) Rq λ a w U=>?_);refine aa ?_;have U:=St.sel U [0,1,2];have U:=St.selL U [];exact ⟨n-1,by omega,j+1,⟨by omega,He hj hno hb1⟩,U⟩
 ·obtain rfl:j=xs.length:=by simp at hb0;omega
  refine qM<|ai<|ai<|az<|zt<|zh UA U2 U (zE G aE) (zz Ux [] λ a w U=>?_);refine zN 0 U G G ?_;rw [qI] at hno;rw [hno]
def ansF (q:Rat):RF × Int:=if dX q then (rf0,4) else (rfOf q,0)
abbrev FrR (r:RF × Int):VA:=Tu [(RFA r.1).va,In r.2]
theorem Pu :Wk (Qs k r) (RFA (rfOf r)).va:=qaA.va
theorem tu2w {a b c d:VA}(h:Wk a c)(h':Wk b d):Wk (Tu [a,b]) (Tu [c,d]):=Ek (.cons h (.cons h' .nil))
theorem oT :[q].any dX=dX q:=by simp
theorem ne0 :((if b then (4:Int) else 0) != 0)=b:=by cases b <;> rfl
theorem has_wk' (h:Has R B w0 i x A)(hw:Wk A A'):Has R B w0 i x A':=λ a w av=>hw _ _ _ (h a w av)
theorem Af (hc:c≤549755813888):Cn Tryz.prog 240 [Qs c x] (FrR (ansF x)):=by
 refine Cn.intro Tryz.func240 G zk nq (zy [(0,Qs c x)] λ B w0 a U=>?_);refine qb<|zg [] Rw [.alc 0,.alc 1,.v 3 _] Ud U (zW 0 G (zY G (Str.zero aS) (zE G ab))) (zz RH Rx ?_);refine ztA<|zsA<|zgA UF [] (Wb 5 [.v 4 _]) RJ (zl 0 G ax (zv G (bR (D:=[U32]) (l:=[_]) (xs:=[.tmp 5]) (cO zk) du zk (n_ok zk) nq nq nq (.o (vq 0 G)) G G) (zQ G ((r5 [x] (.cons ⟨_,rfl⟩ .nil) nq)) (.o (vq 1 G)) (zA 2 G o0)))) (zz (Wc 3 4) Rx ?_);refine ztA<|zgA UF [] (W6 8) UI (zM 1 G (zv G (ca (vq 0 G) ab) o0)) (zz (Wa 3 4 9) Rx λ a w U=>?_);refine zJ 2 U G (λ hb0=>?_) (λ hb0=>?_)
 ·rw [oT,ne0] at hb0;refine qb<|zg [η,some (2,_)] [] (W6 10 [.sto 1,.v 3 _]) UJ U (zv G (aT (qs:=[]) aS .nil) (zM 1 G (zS 0 G ax (zA 1 G o0)))) (zz RH Rx λ a w U=>?_);refine aa<|qi<|aj ?_;refine al ?_ (aP (rs:=[.cell 2 28,.tmp 3]) G U (.cell (zm 1 G) ax (.tmp (zm 0 G) .nil)) zd);rw [ansF,qD hb0];exact tu2w aG (ba (by rw [oT,hb0];rfl))
 ·rw [oT,ne0] at hb0;refine qk<|zt<|zg [η,some (2,_)] [] (W6 12 [.sto 1,.v 3 _]) UJ U (zl 0 G ax (zQ G (Oh zo) (.o (vq 0 G)) (zS 1 G ax (zE G ab)))) (zz RH Rx λ a w U=>?_);refine aa<|qi<|al ?_ (aP (rs:=[.cell 2 28,.tmp 3]) G U (.cell (zm 1 G) ax (.tmp (zm 0 G) .nil)) zd);rw [ansF,qA (by rw [hb0];decide)];exact tu2w Pu aG
theorem Di : ∃ fn, Tryz.prog.funcs[175]? = some fn∧(fn.name == "runtime.NumGoroutine")=false∧fn.body.isNone=false := ⟨_, Tryz.func175, by kernel_rfl, by kernel_rfl⟩
theorem DL (hc:c≤2048):Cn Tryz.prog 175 [Zs c p] (In 0):=zs1 Di λ h=>(tI (riOf p)).post (by rw [JJ,qH (by omega:lz p≤2048)];rfl)
theorem Hn (h0 : -9223372036854775808≤p)(h1:p<9223372036854775808):lz p≤2:=t8 zo
theorem LG {q:Rat}(h:lz q.num≤2048∧lz (q.den:Int)≤2048):ansF q=(rfOf q,0):=by rw [ansF,longQ_false.2 h];rfl
theorem GA (hq:q≠0)(hp:lz p≤2)(h2:lz q≤2):ansF (Rat.divInt p q)=(rfOf (Rat.divInt p q),0):=by
 have:=gU (p:=p) hq;exact LG zo
theorem Nr (hq:q≠0):Cn Tryz.prog 216 [Zs 2 p,Zs 2 q] (FrR (ansF (Rat.divInt p q))):=by
 refine Cn.intro Tryz.func216 G zk nq (zy [(0,Zs 2 p),(1,Zs 2 q)] λ B w0 a U=>?_);refine qb<|zg [] Rl [.alc 0,.alc 1,.alc 2,.v 5 _] UJ U (zW 0 G (zW 1 G (zY G (Str.zero aS) (zE G ab)))) (zz [(5,_)] Rm ?_);refine ztA<|zsA<|zgA Uo [] (Ww 6 [.f 10 _,.f 11 _,.f 12 _,.v 13 _]) [.g 0,.o 7] (zl 0 G ap (zQ G (DL zd) (.o (vq 0 G)) (zv G (ca (vq 1 G) ab) (zV 2 G (zB 3 G (λ hg=>eL (lz0 1 G) ap) (zB 3 G (λ hg=>be (DL zd) (.o (ae (vq 4 G) hg))) (zB 3 G (λ hg=>ca (ae (vq 5 G) hg) ab) (zv G (r_or (vq 3 G) (vq 6 G)) o0)))))))) (zz (Wc 5 13) Rm λ a w U=>?_);refine zJ 1 U G (λ hb0=>?_) (λ hb0=>?_)
 ·exact absurd hb0 zd
 ·refine qk<|zt<|qb<|zg US [] (Wb 15) Ui U (zl 1 G ap (zQ G B2 (.o (vq 0 G)) (zv G (bC (vq 1 G) ab) o0))) (zz (Wc 5 17) Rm λ a w U=>?_);refine zJ 1 U G (λ hb1=>?_) (λ hb1=>?_)
  ·exact absurd hb1 (by simpa using hq)
  ·refine qk<|zt<|zg [η,η,some (6,_)] [] (Wl 19 [.sto 2,.v 5 _]) [.o 7] U (zl 0 G ap (zl 1 G ap (zQ G (gj zd zd hq) (.p (vq 0 G) (vq 1 G)) (zQ G (Af zd) (.o (vq 2 G)) (zv G (nI (vq 3 G)) (zv G (nH (vq 3 G)) (zS 4 G ax (zA 5 G o0)))))))) (zz [(5,_)] Rm λ a w U=>?_);refine aa<|qi<|al ?_ (aP (rs:=[.cell 4 28,.tmp 5]) G U (.cell (zm 2 G) ax (.tmp (zm 0 G) .nil)) zd);exact aG
theorem Q6 (hp : -9223372036854775808≤p)(hp1:p<9223372036854775808)(hq0 : -9223372036854775808≤q)(hq1:q<9223372036854775808)(hq:q≠0):Cn Tryz.prog 172 [In p,In q] (FrR (rfOf (Rat.divInt p q),0)):=by
 refine Cn.intro Tryz.func172 G zk nq (zy [(0,In p),(1,In q)] λ B w0 a U=>?_);refine qb<|zg [] [zpL 4 28 0 _] [.alc 0,.v 5 _] UI U (zY G (Str.zero aS) (zE G ab)) (zz (Wa 0 1 5) Rq ?_);refine ztA<|zgA [some (7,_)] [] (WG 6 [.sto 0,.v 5 _]) [.o 8] (zM 0 G (zQ G (of_z hp hp1) (.o (vq 0 G)) (zM 1 G (zQ G (of_z hq0 hq1) (.o (vq 2 G)) (zQ G (Nr hq) (.p (vq 1 G) (vq 3 G)) (zv G (nI (vq 4 G)) (zv G (nH (vq 4 G)) (zS 5 G ax (zA 6 G o0))))))))) (zz [(5,_)] Rq λ a w U=>?_);refine aa<|qi<|al ?_ (aP (rs:=[.cell 4 28,.tmp 5]) G U (.cell (zm 0 G) ax (.tmp (zm 0 G) .nil)) zd);rw [← GA hq (Hn hp hp1) (Hn hq0 hq1)];exact aG
structure RG where
 re:RF
 im:RF
 deriving DecidableEq
structure RM where
 a:RF
 b:RF
 c:RF
 d:RF
 deriving DecidableEq
structure RR where
 y:RF
 u:RF
 deriving DecidableEq
structure GQ where
 re:Rat
 im:Rat
 deriving DecidableEq
structure MQ where
 a:Rat
 b:Rat
 c:Rat
 d:Rat
 deriving DecidableEq
structure YQ where
 y:Rat
 u:Rat
 deriving DecidableEq
def QMA (k:Nat)(x:MQ):As:=cat [QA k x.a,QA k x.b,QA k x.c,QA k x.d]
def QRA (k:Nat)(x:YQ):As:=cat [QA k x.y,QA k x.u]
theorem qa_x (h:okX x=true)(hk:2048≤k):WkA (RFA x) (QA k (toQ x)):=by
 obtain ⟨h1,h2,h3⟩:=yC h;exact (gX (qq RFA h1)).trans (F7 (qg h2 hk) (qg h3 hk))
theorem cZ:Str Tryz.prog 131 [RFA rf0,RFA rf0,RFA rf0,RFA rf0] :=
 Str.of (z:=.agg #[.bool false,.slice none 0 0,.bool false,.slice none 0 0,.bool false,.slice none 0 0,.bool false,.slice none 0 0,.bool false,.slice none 0 0,.bool false,.slice none 0 0,.bool false,.slice none 0 0,.bool false,.slice none 0 0]) zk Tryz.underlying131 zk λ B w=>⟨[[.bool false,.slice none 0 0,.bool false,.slice none 0 0],[.bool false,.slice none 0 0,.bool false,.slice none 0 0],[.bool false,.slice none 0 0,.bool false,.slice none 0 0],[.bool false,.slice none 0 0,.bool false,.slice none 0 0]],rfl,(.cons (f9 B w) (.cons (f9 B w) (.cons (f9 B w) (.cons (f9 B w) .nil))))⟩
theorem l5:Str Tryz.prog 124 [RFA rf0,RFA rf0] :=
 Str.of (z:=.agg #[.bool false,.slice none 0 0,.bool false,.slice none 0 0,.bool false,.slice none 0 0,.bool false,.slice none 0 0]) zk Tryz.underlying124 zk λ B w=>⟨[[.bool false,.slice none 0 0,.bool false,.slice none 0 0],[.bool false,.slice none 0 0,.bool false,.slice none 0 0]],rfl,(.cons (f9 B w) (.cons (f9 B w) .nil))⟩
theorem tu3w {a b c d e f:VA}(h:Wk a d)(h':Wk b e)(h'':Wk c f):Wk (Tu [a,b,c]) (Tu [d,e,f]):=Ek (.cons h (.cons h' (.cons h'' .nil)))
def fk (x:RI):Int:=IntKind.i64.wrap (1+(x.mag.length:Int))
def iH (x:RF):Int:=IntKind.i64.wrap (fk x.num+fk x.den)
def m7 (x y:RI):Int:=IntKind.i64.wrap (IntKind.i64.wrap ((IntKind.i64.wrap (min (x.mag.length:Int) 1048576*min (y.mag.length:Int) 1048576)).tdiv 16)*1024)
def dN (x:RF):Int:=IntKind.i64.wrap (iH x+m7 x.num x.den)
def bydF (n:Int):List Int→Bool
 | []=>false
 | x::xs=>if decide (IntKind.i64.wrap (n+x)>1048576) then true else bydF (IntKind.i64.wrap (n+x)) xs
theorem Lw {l:Yk}(h:j<l.length)(h2:decide (IntKind.i64.wrap (n+l[j])>1048576)=true):true=bydF n (l.drop j):=by
 rw [qL h,bydF,h2];rfl
theorem OJ {l:Yk}(h:j<l.length)(h2:decide (IntKind.i64.wrap (n+l[j])>1048576)=false):bydF n (l.drop j)=bydF (IntKind.i64.wrap (n+l[j])) (l.drop (j+1)):=by
 rw [qL h,bydF,h2];rfl
theorem Ed {j m:Nat}(h:j<m)(hm:m≤9223372036854775807):IntKind.i64.wrap ((j:Int)+1)=((j+1:Nat):Int):=by rw [wi64 zo zo];rfl
theorem IS {E:Yh}(h:(SlA E D l).va.p B v w):l.length≤9223372036854775807:=by
 obtain ⟨cs,⟨_,A,c,ds,_,h1,h2,_⟩,_⟩:=h;unfold maxLen at h2;omega
theorem eu {E:Yh}{α:Type}{f:α→As}{l:List α}(h:(SlA E D (l.map f)).va.p B v w):l.length≤9223372036854775807:=by
 have:=IS h;rwa [qd] at this
theorem rU (x:RI):Cn Tryz.prog 173 [(RIA x).va] (In (fk x)):=by
 refine Cn.intro Tryz.func173 G zk nq (zy [(0,(RIA x).va)] λ B w0 a U=>?_);refine qb<|zg [] Uu Uv Uw U (zW 0 G (zE G ab)) (zz Ux Uy ?_);refine ztA<|zgA U4 [] (.adr 3 1 (.some 1) True::(Wb 4 [.v 2 _])) UP (zO 0 G ar (zL 0 0 1 G bb (zv G (aK qe (vq 1 G)) (zv G (aL ab (vq 2 G) (G)) (zA 3 G o0))))) (zz Ux Uy λ a w U=>?_);refine aa<|qi<|al ?_ (am G U (zm 0 G));exact aG
theorem yV (x:RF):Cn Tryz.prog 96 [(RFA x).va] (In (iH x)):=by
 refine Cn.intro Tryz.func96 G zk nq (zy [(0,(RFA x).va)] λ B w0 a U=>?_);refine qb<|zg [] RB Uv Uw U (zW 0 G (zE G ab)) (zz Ux RC λ a w U=>?_);refine zt<|zgd RK U4 [] (.adr 3 1 (.some 0) True::(W6 4 (.adr 6 1 (.some 2) True::(Wb 7 [.v 2 _])))) [.o 7] ac U (zO 0 G aZ (zL 0 0 0 G ap (zQ G (rU _) (.o (vq 1 G)) (zO 0 G aU (zL 3 0 1 G ap (zQ G (rU _) (.o (vq 4 G)) (zv G (aL (vq 2 G) (vq 5 G) (G)) (zA 6 G o0)))))))) zk zk zk zk (zz Ux RC λ a w U=>?_);refine aa<|qi<|al ?_ (am G U (zm 0 G));exact aG
theorem Cp (x y:RI):Cn Tryz.prog 97 [(RIA x).va,(RIA y).va] (In (m7 x y)):=by
 refine Cn.intro Tryz.func97 G zk nq (zy [(0,(RIA x).va),(1,(RIA y).va)] λ B w0 a U=>?_);refine qb<|zg [] UB UC Ud U (zW 0 G (zW 1 G (zE G ab))) (zz U3 UD ?_);refine ztA<|zgA UF [] (.adr 5 2 (.some 1) True::(Wb 6 (.adr 9 3 (.some 1) True::(Wl 10 [.v 4 _])))) [.o 11] (zO 0 G ar (zL 0 0 1 G bb (zv G (aK qe (vq 1 G)) (zv G (Jf (vq 2 G) ab) (zO 1 G ar (zL 4 1 1 G bb (zv G (aK qe (vq 5 G)) (zv G (Jf (vq 6 G) ab) (zv G (mF (vq 3 G) (vq 7 G) (G)) (zv G (nG (vq 8 G) ab zd (G)) (zv G (mF (vq 9 G) ab (G)) (zA 10 G o0)))))))))))) (zz U3 UD λ a w U=>?_);refine aa<|qi<|al ?_ (am G U (zm 0 G));exact aG
theorem gm (x:RF):Cn Tryz.prog 20 [(RFA x).va] (In (dN x)):=by
 refine Cn.intro Tryz.func20 G zk nq (zy [(0,(RFA x).va)] λ B w0 a U=>?_);refine qb<|zg [] RB Uv Uw U (zW 0 G (zE G ab)) (zz Ux RC λ a w U=>?_);refine zt<|zgd [[],[0],[],[2],[],[4],(Wm 6),(Wm 7),(Wm 8)] U4 [] (W6 3 (.adr 5 1 (.some 0) True::.v 6 _::.adr 7 1 (.some 2) True::(Wb 8 [.v 2 _]))) [.o 8] ac U (zl 0 G ax (zQ G (yV _) (.o (vq 0 G)) (zO 0 G aZ (zL 2 0 0 G ap (zO 0 G aU (zL 4 0 1 G ap (zQ G (Cp _ _) (.p (vq 3 G) (vq 5 G)) (zv G (aL (vq 1 G) (vq 6 G) (G)) (zA 7 G o0))))))))) zk zk zk zk (zz Ux RC λ a w U=>?_);refine aa<|qi<|al ?_ (am G U (zm 0 G));exact aG
theorem Gw (l:Yk):Cn Tryz.prog 4 [(SlA 3 [] (l.map (NumA .i64))).va] (Bo (bydF 0 l)):=by
 refine Cn.intro Tryz.func4 G zk nq (zy [(0,(SlA 3 [] (l.map (NumA .i64))).va)] λ B w0 a U=>?_);have hl:=eu (U.vals (0,(SlA 3 [] (l.map (NumA .i64))).va) (zm 0 rfl));refine qb<|zh UA Rd U (zE G aE) (zz Re [] ?_);refine ztA<|zhA [.v 3 _] WS (zE G ab) (zz (Wa 0 2 3) [] ?_);refine ztA<|zsA<|zhA WR WZ (zE G ab) (zz (Wf 0 2 3 4) [] λ a w U=>?_);refine aa<|ql ?_;have U:=St.sel U [0,2,3];refine wp_loop_ghost (λ n a w=>∃ (j:Nat) (m:Int),(n+j=l.length∧bydF 0 l=bydF m (l.drop j))∧St B w0 19 [(0,(SlA 3 [] (l.map (NumA .i64))).va),(3,In m),(4,In (j:Nat))] [] a w) (l.length) ?_ ?_
 ·exact ⟨0,0,⟨by omega,rfl⟩,U⟩
 intro n a w hI;obtain ⟨j,m,⟨hn,hm⟩,U⟩:=hI;refine qb<|qb<|zh (Ww 5) WV U (zM 2 G (zM 0 G (zv G (bg qF (vq 1 G)) (zv G (aN (vq 0 G) (vq 2 G)) o0)))) (zz (Wf 0 3 4 8) [] λ a w U=>?_);refine zJ 3 U G (λ hb0=>?_) (λ hb0=>?_)
 ·have hj:j<l.length:=by rw [qd] at hb0;simp at hb0;omega
  refine qk<|zt<|ql<|qb<|zh (Wl 11 [.v 3 _]) [.g 0,.g 2,.o 6] U (zM 1 G (zM 0 G (zM 2 G (zv G (bB dr (bX λ _=>rfl) (vq 1 G) (vq 2 G) (bn hj)) (zv G (ao (vq 3 G) ty_3) (zv G (aL (vq 0 G) (vq 4 G) (G)) (zA 5 G o0))))))) (zz (Wa 0 4 3) [] ?_);refine ztA<|zhA (W6 17) WX (zM 2 G (zv G (cL (vq 0 G) ab) o0)) (zz (Wf 0 4 3 18) [] λ a w U=>?_);refine zJ 3 U G (λ hb1=>?_) (λ hb1=>?_)
  ·refine qb<|zh UA WZ U (zE G aE) (zz (Wf 0 4 3 2) [] λ a w U=>?_);refine aa<|qi<|aD ?_;refine aj ?_;refine aj ?_;refine aD ?_;refine aj ?_;refine al ?_ (am G U (zm 3 G));exact ba (qq Bo ((Lw hj hb1).trans hm.symm))
  ·refine qk<|ak ?_;refine aa<|zh (W6 9 [.v 4 _]) [.g 0,.g 2,.o 2] U (zM 1 G (zv G (aL (vq 0 G) ab (Ed hj hl)) (zA 1 G o0))) (zz (Wa 0 3 4) [] λ a w U=>?_);refine aa ?_;have U:=St.sel U [0,1,2];exact ⟨n-1,by omega,j+1,_,⟨by omega,hm.trans (OJ hj hb1)⟩,U⟩
 ·obtain rfl:j=l.length:=by rw [qd] at hb0;simp at hb0;omega
  refine qM<|ai<|ai<|az<|zt<|zh UA U2 U (zE G aE) (zz Ux [] λ a w U=>?_);refine aa<|qi<|al ?_ (am G U (zm 0 G));exact ba (qq Bo (by rw [hm,zH (qj _)];rfl))
theorem EF {a b:RI}(hn:a.neg=b.neg)(h:a.mag=b.mag):true=decide (a=b):=by
 cases a;cases b;simp_all
theorem EI {a b:RI}(h:((a.neg != b.neg) || (((a.mag.length:Nat):Int) != ((b.mag.length:Nat):Int)))=true):false=decide (a=b):=by
 symm;apply zT;rintro rfl;simp at h
theorem EG {a b:RI}(h:((a.neg != b.neg) || (((a.mag.length:Nat):Int) != ((b.mag.length:Nat):Int)))=false):a.neg=b.neg∧a.mag.length=b.mag.length:=by
 simp only [qO,bne_eq_false_iff_eq] at h;exact ⟨h.1,by omega⟩
theorem EH {a b:RI}{j:Nat}(h1:j<a.mag.length)(h2:j<b.mag.length)(h:(((a.mag[j]:Nat):Int) != ((b.mag[j]:Nat):Int))=true):false=decide (a=b):=by
 symm;apply zT;rintro rfl;simp at h
theorem IE {l m:Ya}{j:Nat}(h1:j<l.length)(h2:j<m.length)(h:l.take j=m.take j)(h3:(((l[j]:Nat):Int) != ((m[j]:Nat):Int))=false):l.take (j+1)=m.take (j+1):=by
 rw [qx h1,qx h2,h];simp only [bne_eq_false_iff_eq] at h3;rw [show l[j]=m[j] by omega]
theorem Mw {a b:RF}:(decide (a.num=b.num)&&decide (a.den=b.den))=decide (a=b):=by
 cases a;cases b;rw [js];simp
theorem mA (x y:RI):Cn Tryz.prog 171 [(RIA x).va,(RIA y).va] (Bo (decide (x=y))):=by
 refine Cn.intro Tryz.func171 G zk nq (zy [(0,(RIA x).va),(1,(RIA y).va)] λ B w0 a U=>?_);have hxk:=l7 (U.vals (0,(RIA x).va) (zm 0 rfl));refine qb<|zg [] UB UC Ud U (zW 0 G (zW 1 G (zE G aE))) (zz U3 UD ?_);refine ztA<|zsA<|zgA UF [] (.adr 6 2 (.some 0) True::.v 7 _::.adr 8 3 (.some 0) True::(Wb 9 [.adr 12 2 (.some 1) (_=false),.f 13 _,.f 14 _,.adr 15 3 (.some 1) (_=false),.f 16 _,.f 17 _,.f 18 _,.v 19 _])) [.g 0,.o 13] (zO 0 G aY (zL 0 0 0 G ty_4 (zO 1 G aY (zL 2 1 0 G ty_4 (zv G (mE zk (vq 1 G) (vq 3 G)) (zV 4 G (zC 5 0 G ar (zB 5 G (λ hg=>aB 6 G zk hg (lz0 0 G) (Sub.part 1 G G) bb) (zB 5 G (λ hg=>aK qe (ae (vq 7 G) hg)) (zC 5 1 G ar (zB 5 G (λ hg=>aB 9 G zk hg (lz0 1 G) (Sub.part 1 G G) bb) (zB 5 G (λ hg=>aK qe (ae (vq 10 G) hg)) (zB 5 G (λ hg=>ca (ae (vq 8 G) hg) (ae (vq 11 G) hg)) (zv G (r_or (vq 5 G) (vq 12 G)) o0)))))))))))))) (zz (Wc 4 19) UD λ a w U=>?_);refine zJ 1 U G (λ hb0=>?_) (λ hb0=>?_)
 ·refine qb<|zg UH [] WR U2 U (zE G aE) (zz U3 UD λ a w U=>?_);refine aa<|qi<|aj ?_;refine al ?_ (am G U (zm 0 G));exact ba (qq Bo (EI hb0))
 ·obtain ⟨hn1,hl⟩:=EG hb0;refine qk<|zt<|qb<|zg UH [] UY Rd U (zE G ab) (zz (Wc 4 5) UD λ a w U=>?_);refine aa<|ql ?_;have U:=St.sel U [1];refine wp_loop_ghost (λ n a w=>∃ j:Nat,(n+j=x.mag.length∧x.mag.take j=y.mag.take j)∧St B w0 38 [(5,In (j:Nat))] [⟨2,26,ptrH,RIA x⟩,⟨3,26,ptrH,RIA y⟩] a w) (x.mag.length) ?_ ?_
  ·exact ⟨0,⟨by omega,rfl⟩,U⟩
  intro n a w hI;obtain ⟨j,⟨hn,ht⟩,U⟩:=hI;refine qb<|qb<|zg UH [] (.v 20 _::.adr 21 2 (.some 1) True::(Wb 22)) Uz U (zM 0 G (zO 0 G ar (zL 1 0 1 G bb (zv G (aK qe (vq 2 G)) (zv G (aN (vq 0 G) (vq 3 G)) o0))))) (zz (Wc 5 24) UD λ a w U=>?_);refine zJ 1 U G (λ hb1=>?_) (λ hb1=>?_)
  ·have hj:j<x.mag.length:=by simp at hb1;omega
   refine qk<|zt<|ql<|qb<|zgd [[],[0],[],[0,1,2],(Wm 4),[],[5],[],[5,6,7],[5,6,7,8],(Wm 10)] UF [] (.adr 27 2 (.some 1) True::(Ww 28 (.adr 32 3 (.some 1) True::(Wd 33)))) [.g 0,.o 10] ac U (zO 0 G ar (zL 0 0 1 G bb (zM 0 G (zv G (bO bc (vq 1 G) (vq 2 G) zo) (zv G (ao (vq 3 G) aO) (zO 1 G ar (zL 5 1 1 G bb (zM 0 G (zv G (bO bc (vq 6 G) (vq 7 G) zo) (zv G (ao (vq 8 G) aO) (zv G (ca (vq 4 G) (vq 9 G)) o0))))))))))) zk zk zk zk (zz (Wc 5 37) UD λ a w U=>?_);refine zJ 1 U G (λ hb2=>?_) (λ hb2=>?_)
   ·refine qb<|zg UH [] WR Rd U (zE G aE) (zz (Wc 5 4) UD λ a w U=>?_);refine aa<|qi<|aD ?_;refine aj ?_;refine aj ?_;refine aD ?_;refine aj ?_;refine al ?_ (am G U (zm 1 G));exact ba (qq Bo (EH hj zo hb2))
   ·refine qk<|ak ?_;refine aa<|zg UH [] (W6 25 [.v 5 _]) Ud U (zM 0 G (zv G (aL (vq 0 G) ab (Ed hj hxk.2)) (zA 1 G o0))) (zz [(5,_)] UD λ a w U=>?_);refine aa ?_;have U:=St.sel U [0];exact ⟨n-1,by omega,j+1,⟨by omega,IE hj zo ht hb2⟩,U⟩
  ·obtain rfl:j=x.mag.length:=by simp at hb1;omega
   refine qM<|ai<|ai<|az<|zt<|zg UH [] WR U2 U (zE G aE) (zz U3 UD λ a w U=>?_);refine aa<|qi<|al ?_ (am G U (zm 0 G));exact ba (qq Bo (EF hn1 (by rw [qG (qj _),qG zo] at ht;exact ht)))
theorem eK (x y:RF):Cn Tryz.prog 92 [(RFA x).va,(RFA y).va] (Bo (decide (x=y))):=by
 refine Cn.intro Tryz.func92 G zk nq (zy [(0,(RFA x).va),(1,(RFA y).va)] λ B w0 a U=>?_);refine qb<|zg [] Rz UC Ud U (zW 0 G (zW 1 G (zE G aE))) (zz U3 RA ?_);refine ztA<|zgA UF [] (.adr 5 2 (.some 0) True::.v 6 _::.adr 7 3 (.some 0) True::(Wb 8 [.adr 11 2 (.some 2) (_=true),.t 12 _,.adr 13 3 (.some 2) (_=true),.t 14 _,.t 15 _,.v 16 _,.v 4 _])) [.o 12] (zO 0 G aZ (zL 0 0 0 G ap (zO 1 G aZ (zL 2 1 0 G ap (zQ G (mA _ _) (.p (vq 1 G) (vq 3 G)) (zV 4 G (zC 5 0 G aU (zB 5 G (λ hg=>aB 6 G zk hg (lz0 0 G) (Sub.part 1 G G) ap) (zC 5 1 G aU (zB 5 G (λ hg=>aB 8 G zk hg (lz0 1 G) (Sub.part 1 G G) ap) (zB 5 G (λ hg=>be (mA _ _) (.p (ae (vq 7 G) hg) (ae (vq 9 G) hg))) (zv G (bv (vq 5 G) (vq 10 G)) (zA 11 G o0))))))))))))) (zz U3 RA λ a w U=>?_);refine aa<|qi<|al ?_ (am G U (zm 0 G));exact ba (qq Bo Mw)
open Go.ChangeShapes Go.WideShapes Go.ChangeAt
theorem DP {B:Nat}{w:Yi}:∀ {l:Yb}{cs:Yl},cs.length=(l.map (·.n)).sum→(∀ (k:Nat) (A:As),l[k]?=some A→A.p B ((cs.drop (offs l k)).take A.n) w)→(cat l).p B cs w
 | [],cs,hl,_=>by
  have:cs=[]:=vo.1 (by simpa using hl);subst this;exact ⟨[],rfl,.nil⟩
 | A::l,cs,hl,h=>by
  simp only [qT,xf] at hl;have h0:=h 0 A rfl;simp only [offs,kl,jM,List.sum_nil,xl] at h0;obtain ⟨ps,e,hps⟩:=DP (l:=l) (cs:=cs.drop A.n) (B:=B) (w:=w) (by simp;omega) λ k A' hk=>by
   have:=h (k+1) A' (by simpa using hk);simp only [offs,vJ,qT,xf] at this;rw [List.drop_drop];exact this
  exact ⟨cs.take A.n::ps,by rw [za,← e,xP],.cons h0 hps⟩
section
variable {H:Type}{enc:TypeId × Value→H}{w:World}{base:Nat}{spare:Nat→Bool}{held:Bool}{fuel:Nat}{cs:List Value}{x:DataW H × List MemPlace}
theorem Py (h:DataW.trod enc Tryz.prog w base spare held fuel 24 cs=some x):∃ l,(MgA l).p w.heap.size cs w:=by
 rcases open_ints qe vO zk h with ⟨hcs,_⟩|⟨a,len,cap,zs,rfl,_,hl,hm,hz,_,hcell,hwz⟩
 ·subst hcs;exact ⟨[],fN _ _⟩
 ·have hzl:len≤zs.length:=by rw [hz];split <;> omega
  have hnn:∀ n∈zs,0≤n∧n<4294967296:=λ n hn=>by
   have:=hwz n hn;simp [Lit.wf,IntKind.min,IntKind.max,IntKind.signed,IntKind.bits] at this;omega
  have hlen:((zs.take len).map Int.toNat).length=len:=by simp;omega
  refine ⟨(zs.take len).map Int.toNat,?_⟩;have hM:Mag w.heap.size w (some a) cap ((zs.take len).map Int.toNat):=by
   refine ⟨λ y hy=>?_,by omega,hm,λ hn=>?_⟩
   ·obtain ⟨n,hn,rfl⟩:=qr.1 hy;have:=hnn n (xk hn);omega
   ·obtain ⟨b,off,rfl,hc⟩:=ints_at hcell zo;have hb:b<w.heap.size:=World.block_lt_of_cell? w _ (hc 0 zo);refine ⟨b,off,rfl,hb,.inl hb,λ j hj=>?_⟩;rw [hc j zo];have hjz:j<zs.length:=by omega
    have:=hnn _ (qh hjz)
    congr 2
    simp only [we,v6];rw [Int.toNat_of_nonneg this.1];simp [List.getD_eq_getElem?_getD,List.getElem?_eq_getElem hjz]
  obtain ⟨ds,hp,hv⟩:=eG hM hlen.symm;have hd:=(MgA ((zs.take len).map Int.toNat)).len _ _ _ hp
  match ds,hd with
  | [d],_ =>
   have:d=.slice (some a) len cap:=hv.symm;subst this;exact hp
theorem DM {A0 A1:As}(h0:A0.p B ((cs.drop 0).take A0.n) w)(h1:A1.p B ((cs.drop A0.n).take A1.n) w)(hl:cs.length=A0.n+A1.n):(cat [A0,A1]).p B cs w :=
 DP (by simpa using hl) λ k A hk=>by
  match k,hk with
  | 0,hk=>simp at hk;subst hk;exact h0
  | 1,hk=>simp at hk;subst hk;simpa [offs] using h1
theorem PA (h:DataW.trod enc Tryz.prog w base spare held fuel 4 cs=some x):∃ b,(BoA b).p w.heap.size cs w:=by
 obtain ⟨b,hb,_⟩:=DataW.trod_bool wb h;exact ⟨b,hb⟩
end
structure OkG (p:GQ):Prop where
 re:dX p.re=false
 im:dX p.im=false
 pos:0<p.im
theorem div_pos {x y:Rat}(h:0<x)(h':0<y):0<x/y:=Rat.mul_pos h (Rat.inv_pos.2 h')
theorem Q1 (h:okX x=true):∃ r,x=rfOf r∧dX r=false:=by
 obtain ⟨e,h1⟩:=yC h;exact ⟨_,e,longQ_false.2 h1⟩
def cbl (cs:List Value):List Nat:=cs.filterMap blk
def vbl (v:Value):List Nat:=cbl v.cells.toList
def Sep (u v:Value):Prop:=∀ g∈vbl u,g ∉ vbl v
def cu (us:List Value)(v:Value):Prop:=∀ u∈us,Sep u v
theorem mn {A:As}(h:A.p B cs w):vbl (cN A.ag cs)=cbl cs:=by
 show cbl (cN A.ag cs).cells.toList=_;rw [A.cells_shape h]
def PinA (v:Value)(A:As):As where
 n:=A.n
 ag:=A.ag
 p B cs w:=A.p B cs w∧cN A.ag cs=v
 deps:=A.deps
 len:=λ B cs w h=>A.len B cs w h.1
 one:=λ B cs w h=>A.one B cs w h.1
 ag1:=A.ag1
 cg:=λ B cs w w' hg h=>⟨A.cg B cs w w' hg h.1,h.2⟩
 wr:=λ B cs w w' g c T fz h1 h2 h3 h4 h=>⟨A.wr B cs w w' g c T fz h1 h2 h3 h4 h.1,h.2⟩
theorem I4 {A:As}{c:Prop}:WkA (A.and c) A:=⟨rfl,rfl,λ _ _ _ h=>h.2⟩
def NewA (A:As):Prop:=∀ B cs w,A.p B cs w→∀ g∈cbl cs,B≤g∧g<w.heap.size
def NodA (A:As):Prop:=∀ B cs w,A.p B cs w→(cbl cs).Nodup
def DisA (A:As):As where
 n:=A.n
 ag:=A.ag
 p B cs w:=A.p B cs w∧(cbl cs).Nodup
 deps:=A.deps
 len:=λ B cs w h=>A.len B cs w h.1
 one:=λ B cs w h=>A.one B cs w h.1
 ag1:=A.ag1
 cg:=λ B cs w w' hg h=>⟨A.cg B cs w w' hg h.1,h.2⟩
 wr:=λ B cs w w' g c T fz h1 h2 h3 h4 h=>⟨A.wr B cs w w' g c T fz h1 h2 h3 h4 h.1,h.2⟩
theorem dis_wk :WkA (DisA A) A:=⟨rfl,rfl,λ _ _ _ h=>h.1⟩
theorem tB :NodA (DisA A):=λ _ _ _ h=>h.2
theorem DB (h:NewA A):NewA (DisA A):=λ B cs w hp=>h B cs w hp.1
theorem mh (h:FreeA A A):FreeA (DisA A) (DisA A):=⟨rfl,rfl,λ B B' cs w hB hp=>⟨h.2.2 B B' cs w hB hp.1,hp.2⟩⟩
theorem dB {a b:Yl}:cbl (a++b)=cbl a++cbl b:=vx ..
theorem pb {B:Nat}{w:Yi}:∀ {l:Yb}{ps:Yx},(∀ A∈l,NewA A)→All2 (λ (A:As) c=>A.p B c w) l ps→∀ g∈cbl ps.flatten,B≤g∧g<w.heap.size
 | [],_,_,h,g,hg=>by cases h;cases hg
 | A::l,_,hn,h,g,hg=>by
  cases h with
  | cons h1 h2 =>
   rw [za,dB,qp] at hg;rcases hg with hg|hg
   ·exact hn A (by simp) _ _ _ h1 g hg
   ·exact pb (λ A' hA=>hn A' (by simp [hA])) h2 g hg
theorem pc (h:∀ A∈l,NewA A):NewA (cat l):=λ B cs w ⟨ps,e,hp⟩=>by
 subst e;exact pb h hp
def pins:List Value→List (Value × As)→List As
 | _,[]=>[]
 | us,(v,A)::l=>PinA v (A.and (cu us v))::pins (us++[v]) l
theorem BT:∀ {l:List (Yn × As)}{us:Yl}{B:Nat}{w:Yi}{ps:Yx},(∀ x∈l,NodA x.2)→All2 (λ (A:As) c=>A.p B c w) (pins us l) ps →
  All2 (λ (A:As) c=>A.p B c w) (l.map (·.2)) ps∧(cbl ps.flatten).Nodup∧∀ u∈us,∀ g∈vbl u,g ∉ cbl ps.flatten
 | [],us,B,w,ps,_,h=>by
  cases h;exact ⟨.nil,jg,λ _ _ _ _ h=>by cases h⟩
 | (v,A)::l,us,B,w,ps,hn,h=>by
  cases h with
  | @cons _ c _ cs h1 h2 =>
   obtain ⟨q1,q2,q3⟩:=BT (λ x hx=>hn x (by simp [hx])) h2;obtain ⟨⟨hsep,hA⟩,hv⟩:=h1;have hvb:vbl v=cbl c:=by
    have hv':cN A.ag c=v:=hv;rw [← hv'];exact mn hA
   refine ⟨.cons hA q1,?_,λ u hu g hg hm=>?_⟩
   ·rw [za,dB];refine xD.2 ⟨hn (v,A) (by simp) _ _ _ hA,q2,λ x hx y hy e=>?_⟩;subst e;exact q3 v (by simp) x (by rw [hvb];exact hx) hy
   ·rw [za,dB,qp] at hm;rcases hm with hm|hm
    ·exact hsep u hu g hg (by rw [hvb];exact hm)
    ·exact q3 u (by simp [hu]) g hg hm
theorem mf (hn:∀ x∈l,NodA x.2):WkA (cat (pins [] l)) (DisA (cat (l.map (·.2)))):=by
 have hlen:∀ (us:List Value) (l:List (Value × As)),((pins us l).map (·.n)).sum=((l.map (·.2)).map (·.n)).sum:=by
  intro us l
  induction l generalizing us with
  | nil=>rfl
  | cons x l ih=>obtain ⟨v,A⟩:=x;simp only [pins,qT,xf,ih];rfl
 refine ⟨(hlen [] l).symm,rfl,λ B cs w ⟨ps,e,hp⟩=>?_⟩;obtain ⟨q1,q2,_⟩:=BT hn hp;subst e;exact ⟨⟨ps,rfl,q1⟩,q2⟩
namespace Rg
structure LeF where
 s:Nat
 T:TypeId
 H:Hd
 cr:Option Nat
 A0:As
 st:Option (Nat × ((Nat→Value)→As))
def LeF.on (ν:Nat→Value)(e:LeF):Le:=⟨e.s,e.T,e.H,e.cr,e.A0,match e.st with|none=>none|some (j,f)=>some (j,f ν)⟩
abbrev fam (ops:Array Oper)(N:Nat)(Γ:List (Nat × VA))(les:List LeF)(sp:List ((Nat→Value)→Sp))(anc:Nat→List Nat)(ν:Nat→Value):Rg:=⟨ops,N,Γ,les.map (LeF.on ν),sp.map (λ f=>f ν),anc⟩
def Dep {α:Type}(S:Nat→Bool)(f:(Nat→Value)→α):Prop:=∀ ν ν',(∀ k,S k=true→ν k=ν' k)→f ν=f ν'
def bef (anc:Nat→List Nat)(i k:Nat):Bool:=k==i || (anc i).contains k
def nJ (ν:Nat→Value)(i:Nat)(v:Value):Nat→Value:=λ k=>if k=i then v else ν k
theorem oZ {ν:Yy}:nJ ν i v i=v:=qD rfl
theorem Q9 {ν:Yy}(h:k≠i):nJ ν i v k=ν k:=qA h
section
variable {ops:Array Oper}{N:Nat}{Γ:List (Nat × VA)}{les:List LeF}{sp:List ((Nat→Value)→Sp)}{anc:Nat→List Nat}{ν ν':Nat→Value}{B:Nat}{w0:Bs}{L:Nat→Bool}{a:Act}{w:World}{P:Program}{Q:Exit→Act→World→Prop}{i:Nat}
theorem sn {deps:Yp}:clash (fam ops N Γ les sp anc ν) L deps=clash (fam ops N Γ les sp anc ν') L deps:=by
 unfold clash;show (les.map (LeF.on ν)).any _=(les.map (LeF.on ν')).any _;rw [List.any_map,List.any_map]
 congr 1
 funext e;obtain ⟨s,T,H,cr,A0,st⟩:=e;cases st with
 | none=>rfl
 | some x=>rfl
theorem tC (hdL:∀ e∈les,∀ j f,e.st=some (j,f)→Dep (bef anc j) f)(hc:cG (fam ops N Γ les sp anc ν) L)(hn:∀ k,L k=true→ν k=ν' k)(he:e∈les):cur L (e.on ν)=cur L (e.on ν'):=by
 obtain ⟨s,T,H,cr,A0,st⟩:=e;cases st with
 | none=>rfl
 | some x =>
  obtain ⟨j,f⟩:=x;show (if crOk L cr=true then some (if L j=true then f ν else A0) else none)=(if crOk L cr=true then some (if L j=true then f ν' else A0) else none)
  cases hj:L j with
  | false=>rfl
  | true =>
   have:f ν=f ν':=hdL _ he j f rfl ν ν' λ k hk=>hn k (by
    simp only [bef,z4,xw] at hk;rcases hk with rfl|hk
    ·exact hj
    ·exact hc j hj k hk)
   rw [this]
theorem GV (hdS:∀ i f,sp[i]?=some f→Dep (bef anc i) f)(hc:cG (fam ops N Γ les sp anc ν) L)(hn:∀ k,L k=true→ν k=ν' k)(hj:L j=true):(sp.map λ f=>f ν')[j]?=(sp.map λ f=>f ν)[j]?:=by
 rw [List.getElem?_map,List.getElem?_map];cases hs:sp[j]? with
 | none=>rfl
 | some f =>
  have:f ν=f ν':=hdS j f hs ν ν' λ k hk=>hn k (by
   simp only [bef,z4,xw] at hk;rcases hk with rfl|hk
   ·exact hj
   ·exact hc j hj k hk)
  show some (f ν')=some (f ν);rw [this]
theorem Inv.nu (hdS:∀ i f,sp[i]?=some f→Dep (bef anc i) f)(hdL:∀ e∈les,∀ j f,e.st=some (j,f)→Dep (bef anc j) f)(hc:cG (fam ops N Γ les sp anc ν) L)(hn:∀ k,L k=true→ν k=ν' k)(h:(fam ops N Γ les sp anc ν).Inv B w0 L a w):(fam ops N Γ les sp anc ν').Inv B w0 L a w:=by
 refine ⟨h.lo,h.defers,h.size,h.base,λ x hx h1 h2=>h.g x hx h1 (by rw [sn (ν':=ν')];exact h2),λ i y d A hs hv hL h2=>?_,λ i d b k c hs hL hc'=>?_,λ e he A hA=>?_,λ e he f hf hne h1 h2=>?_⟩
 ·exact h.v i y d A (by rw [← hs];exact (GV hdS hc hn hL).symm) hv hL (by rw [sn (ν':=ν')];exact h2)
 ·exact h.d i d b k c (by rw [← hs];exact (GV hdS hc hn hL).symm) hL hc'
 ·obtain ⟨e0,he0,rfl⟩:=qr.1 he;exact h.c (e0.on ν) (qr.2 ⟨e0,he0,rfl⟩) A (by rw [tC hdL hc hn he0];exact hA)
 ·obtain ⟨e0,he0,rfl⟩:=qr.1 he;obtain ⟨f0,hf0,rfl⟩:=qr.1 hf;exact h.x (e0.on ν) (qr.2 ⟨e0,he0,rfl⟩) (f0.on ν) (qr.2 ⟨f0,hf0,rfl⟩) hne (by rw [tC hdL hc hn he0];exact h1) (by rw [tC hdL hc hn hf0];exact h2)
def ObF (P:Program)(Q:Exit→Act→World→Prop)(ops:Array Oper)(N:Nat)(Γ:List (Nat × VA))(les:List LeF)(sp:List ((Nat→Value)→Sp))(anc:Nat→List Nat)(B:Nat)(w0:Bs)(i:Nat):Prop :=
 (∀ ν,(fam ops N Γ les sp anc ν).Ob P Q B w0 i)∨∃ (d:Nat) (A:(Nat→Value)→VA),sp[i]?=some (λ ν=>.v d (A ν))∧∀ ν a w,(fam ops N Γ les sp anc ν).Av B w0 i a w→∀ K:Act→World→Prop,(∀ v w',Grow w w'→(A (nJ ν i v)).p B v w'→K (a.put (some d) v) w')→wpOp P ops Q i K a w
theorem IJ (hk:∀ ν,chk (fam ops N Γ les sp anc ν)=true)(hdS:∀ i f,sp[i]?=some f→Dep (bef anc i) f)(hdL:∀ e∈les,∀ j f,e.st=some (j,f)→Dep (bef anc j) f)(hob:ObF P Q ops N Γ les sp anc B w0 i)(h:(fam ops N Γ les sp anc ν).Inv B w0 L a w)(hc:cG (fam ops N Γ les sp anc ν) L)(hL:L i=false)(ha:∀ j,(anc i).contains j=true→L j=true)(K:Ye)
  (hK:∀ ν' a' w',(fam ops N Γ les sp anc ν').Inv B w0 (upd L i) a' w'→K a' w'):wpOp P ops Q i K a w:=by
 rcases hob with hob|⟨d,A,hs,hob⟩
 ·exact step (hk ν) (hob ν) h hc hL ha K λ a' w' hi=>hK ν a' w' hi
 ·refine hob ν a w (h.av hc hL ha) K λ v w' hg hA=>hK (nJ ν i v) _ _ ?_;have hi':=h.nu (ν':=nJ ν i v) hdS hdL hc λ k hk=>(Q9 (λ e=>by rw [e,hL] at hk;cases hk)).symm;have hs':(fam ops N Γ les sp anc (nJ ν i v)).sp[i]?=some (.v d (A (nJ ν i v))):=by
   show (sp.map _)[i]?=_;rw [List.getElem?_map,hs];rfl
  have hop:=(fW (hk (nJ ν i v)) (chk_lt (hk _) hs')).1;simp only [hs',qm,xw,qJ] at hop;exact hi'.put (hk _) hc hL hs' hop.1 hop.2 ⟨(λ e he=>by cases he),rfl⟩ hg
   (λ d' A' he=>by simp only [Sp.vl,Option.some.injEq,Prod.mk.injEq] at he;obtain ⟨rfl,rfl⟩:=he;exact ⟨rfl,hA⟩) (λ d' b k c he=>by cases he)
theorem linV {id:Nat}(hanc:anc=λ i=>List.range i)(hk:∀ ν,chk (fam ops N Γ les sp anc ν)=true)(hdS:∀ i f,sp[i]?=some f→Dep (bef anc i) f)(hdL:∀ e∈les,∀ j f,e.st=some (j,f)→Dep (bef anc j) f)(ν0:Yy)(h:St B w0 N Γ Λ a w)(hles:∀ e∈(fam ops N Γ les sp anc ν0).les,e.cr=none→(⟨e.s,e.T,e.H,e.A0⟩:Lc)∈Λ)
  (hob:∀ i,i<ops.size→ObF P Q ops N Γ les sp anc B w0 i) (hQ:∀ ν a' w',Fin (fam ops N Γ les sp anc ν) B w0 a' w'→Q .normal a' w'):(Code.region id ops false).wp P Q a w:=by
 refine wp_region ?_;have key:∀ m k,k+m=ops.size→∀ ν a w,(fam ops N Γ les sp anc ν).Inv B w0 (λ j=>decide (j<k)) a w→wpOps P ops Q (List.range' k m) a w:=by
  intro m
  induction m with
  | zero =>
   intro k hkm ν a w hi;have:k=ops.size:=by omega
   subst this;exact hQ ν a w ⟨hi⟩
  | succ m ih =>
   intro k hkm ν a w hi;rw [List.range'_succ,qy];refine IJ hk hdS hdL (hob k zo) hi ?_ (by simp) ?_ _ λ ν' a' w' hi'=>ih (k+1) zo ν' a' w' (hi'.congr λ j=>?_)
   ·intro i hi j hj;have hj:(anc i).contains j=true:=hj;rw [hanc] at hj;simp at hi hj ⊢;omega
   ·intro j hj;rw [hanc] at hj;simpa using hj
   ·unfold upd;by_cases h1:j=k
    ·subst h1;simp
    ·have h2:(j==k)=false:=by simpa using h1
     rw [h2,xJ,qW];omega
 rw [List.range_eq_range'];exact key _ 0 zo ν0 a w ((start (R:=fam ops N Γ les sp anc ν0) h hles).congr λ j=>by simp)
theorem drawV {id:Nat}(hm:P.follows .mixedOrders=true)(hanc:ancOk (fam ops N Γ les sp anc (λ _=>undef))=true)(hk:∀ ν,chk (fam ops N Γ les sp anc ν)=true)(hdS:∀ i f,sp[i]?=some f→Dep (bef anc i) f)(hdL:∀ e∈les,∀ j f,e.st=some (j,f)→Dep (bef anc j) f)(ν0:Yy)(h:St B w0 N Γ Λ a w)(hles:∀ e∈(fam ops N Γ les sp anc ν0).les,e.cr=none→(⟨e.s,e.T,e.H,e.A0⟩:Lc)∈Λ)
  (hob:∀ i,i<ops.size→ObF P Q ops N Γ les sp anc B w0 i) (hQ:∀ ν a' w',Fin (fam ops N Γ les sp anc ν) B w0 a' w'→Q .normal a' w'):(Code.region id ops true).wp P Q a w:=by
 refine wp_region_any hm ?_;have ho:∀ i,i<ops.size→∃ o,ops[i]?=some o∧(∀ j,(anc i).contains j=true→∃ e∈o.after,Region.binds .any e=true∧(e.on=j∨(anc e.on).contains j=true)) ∧
   ∀ e∈o.after,Region.binds .any e=true→e.on<i:=by
  intro i hi;have:=qf.1 hanc i (by simpa using hi);cases hoi:ops[i]? with
  | none=>rw [hoi] at this;cases this
  | some o =>
   rw [hoi] at this;simp only [qm] at this;refine ⟨o,rfl,λ j hj=>?_,λ e he hb=>?_⟩
   ·have hh:=qf.1 this.1 j (by simpa using hj);obtain ⟨e,he,h1⟩:=jV.1 hh;simp only [qm,z4,xw] at h1;exact ⟨e,he,h1.1,h1.2⟩
   ·have hh:=z6.1 this.2 e he;simpa [hb] using hh
 have hrd:∀ (listed:Array Bool) i,i∈Region.ready .any ops listed→i<ops.size∧listed.getD i true=false∧∀ o,ops[i]?=some o→∀ e∈o.after,Region.binds .any e=true→listed.getD e.on false=true:=by
  intro listed i hi;unfold Region.ready at hi;obtain ⟨h1,h2⟩:=z5.1 hi;simp only [qm,qz] at h2;refine ⟨by simpa using h1,h2.1,λ o hoi e he hb=>?_⟩;have h3:=h2.2;rw [hoi] at h3;simp only [qU,xy] at h3;have:=z6.1 h3 e he;simpa [hb] using this
 have key:∀ fuel (listed:Array Bool) ν a w,listed.size=ops.size→(List.range ops.size).countP (λ i => !listed.getD i false)≤fuel→cG (fam ops N Γ les sp anc (λ _=>undef)) (λ i=>listed.getD i false) →
   (fam ops N Γ les sp anc ν).Inv B w0 (λ i=>listed.getD i false) a w→wpAny P .any ops Q fuel listed a w:=by
  intro fuel;have hend:∀ (listed:Array Bool) ν a w,listed.size=ops.size→Region.ready .any ops listed=[]→(fam ops N Γ les sp anc ν).Inv B w0 (λ i=>listed.getD i false) a w→Q .normal a w:=by
   intro listed ν a w hsz hr hi;refine hQ ν a w ⟨hi.congr λ k=>?_⟩;by_cases hkn:k<ops.size
   ·have:∀ k,k<ops.size→listed.getD k false=true:=by
     intro k
     induction k using Nat.strongRecOn with
     | _ k ih =>
      intro hkn;cases hl:listed.getD k false with
      | true=>rfl
      | false =>
       exfalso;obtain ⟨o,ho1,_,ho3⟩:=ho k hkn;have:k∈Region.ready .any ops listed:=by
        unfold Region.ready;refine z5.2 ⟨by simpa using hkn,?_⟩;have h0:listed.getD k true=false:=by
         simp only [Array.getD,hsz,hkn,dite_true] at hl ⊢;exact hl
        rw [h0,ho1];simp only [jU,kt,qU,xy];refine z6.2 λ e he=>?_;cases hb:Region.binds .any e with
        | false=>rfl
        | true=>simpa using ih e.on (ho3 e he hb) (zF (ho3 e he hb) hkn)
       rw [hr] at this;cases this
    simp [hkn,this k hkn]
   ·have:listed.getD k false=false:=by simp [Array.getD,hsz,hkn]
    simp [hkn,this]
  induction fuel with
  | zero =>
   intro listed ν a w hsz hcnt hcl hi;have hr:Region.ready .any ops listed=[]:=by
    cases hrr:Region.ready .any ops listed with
    | nil=>rfl
    | cons i rest =>
     exfalso;obtain ⟨h1,h2,_⟩:=hrd listed i (by rw [hrr];simp);have:0<(List.range ops.size).countP (λ i => !listed.getD i false):=by
      refine jJ.2 ⟨i,by simpa using h1,?_⟩;simp only [Array.getD,hsz,h1,dite_true] at h2 ⊢;simpa using h2
     omega
   exact ⟨hr,hend listed ν a w hsz hr hi⟩
  | succ fuel ih =>
   intro listed ν a w hsz hcnt hcl hi;refine ⟨λ hr=>hend listed ν a w hsz hr hi,λ i hir=>?_⟩;obtain ⟨h1,h2,h3⟩:=hrd listed i hir;obtain ⟨o,ho1,ho2,_⟩:=ho i h1;have hLi:listed.getD i false=false:=by
    simp only [Array.getD,hsz,h1,dite_true] at h2 ⊢;exact h2
   have hanci:∀ j,(anc i).contains j=true→listed.getD j false=true:=by
    intro j hj;obtain ⟨e,he,hb,hj'⟩:=ho2 j hj;have hl:=h3 o ho1 e he hb;rcases hj' with rfl|hj'
    ·exact hl
    ·exact hcl e.on hl j hj'
   have hup:∀ k,(listed.setIfInBounds i true).getD k false=upd (λ i=>listed.getD i false) i k:=by
    intro k;unfold upd;by_cases hki:k=i
    ·subst hki;simp [hsz,h1]
    ·simp [hki,Array.getElem?_setIfInBounds_ne (λ e=>hki e.symm)]
   refine IJ hk hdS hdL (hob i h1) hi hcl hLi hanci _ λ ν' a' w' hi'=>ih _ ν' _ _ (by simpa using hsz) ?_ ?_ (hi'.congr hup)
   ·have:(List.range ops.size).countP (λ k => !(listed.setIfInBounds i true).getD k false)<(List.range ops.size).countP (λ k => !listed.getD k false):=by
     refine eR (x:=i) (λ x hx=>?_) (by simpa using h1) (by rw [hLi];rfl) (by rw [hup,ci];rfl);have hx':upd (λ i=>listed.getD i false) i x=false:=by
      rw [← hup];simpa only [qz] using hx
     rw [(dK hx').2]
     rfl
    omega
   ·intro k hk' j hj;have hk2:upd (λ i=>listed.getD i false) i k=true:=by rw [← hup];exact hk'
    show (listed.setIfInBounds i true).getD j false=true;rw [hup];rcases rG hk2 with rfl|h4
    ·exact cX _ (hanci j hj)
    ·exact cX _ (hcl k h4 j hj)
 refine key _ _ ν0 a _ (by simp) ?_ ?_ ?_
 ·refine qg (jA) (by simp)
 ·intro i hi;exfalso;simp only [Array.getD,qP] at hi;split at hi <;> simp at hi
 ·have hs:=start (R:=fam ops N Γ les sp anc ν0) h hles;have hd:(fam ops N Γ les sp anc ν0).Inv B w0 (λ _=>false) a w.drew:=⟨hs.lo,hs.defers.grow (Grow.drew w) rfl,hs.size,hs.base.drew,λ x hx h1 h2=>x.2.grow _ _ _ _ (Grow.drew w) (hs.g x hx h1 h2),(λ i y d A _ _ hf=>by cases hf),(λ i d b k c _ hf=>by cases hf),
   λ e he A hA=>(hs.c e he A hA).grow (Grow.drew w),hs.x⟩
  refine Inv.congr hd λ k=>?_;simp only [Array.getD,qP];split <;> simp
end
def DepS (anc:Nat→List Nat):Nat→List ((Nat→Value)→Sp)→Prop
 | _,[]=>True
 | k,f::l=>Dep (bef anc k) f∧DepS anc (k+1) l
theorem DepS.at {anc:Nat→Ya}:∀ {l:List ((Yy)→Sp)}{k:Nat},DepS anc k l→∀ i f,l[i]?=some f→Dep (bef anc (k+i)) f
 | g::l,k,h,0,f,hf=>by
  simp at hf;subst hf;exact h.1
 | g::l,k,h,i+1,f,hf=>by
  have:=DepS.at h.2 i f (by simpa using hf);rwa [show k+1+i=k+(i+1) by omega] at this
def DepL (anc:Nat→List Nat):List LeF→Prop
 | []=>True
 | e::l=>(match e.st with|none=>True|some (j,f)=>Dep (bef anc j) f)∧DepL anc l
theorem DepL.mem {anc:Nat→Ya}:∀ {l:List LeF},DepL anc l→∀ e∈l,∀ j f,e.st=some (j,f)→Dep (bef anc j) f
 | g::l,h,e,he,j,f,hf=>by
  rcases qt.1 he with rfl|he
  ·have h1:=h.1;rw [hf] at h1;exact h1
  ·exact DepL.mem h.2 e he j f hf
end Rg
open Rg in
def lesF (Λ:List Lc)(sts:List (Option (Nat × ((Nat→Value)→As))))(news:List LeF):List LeF:=(Λ.zip sts).map (λ x=>⟨x.1.s,x.1.T,x.1.H,none,x.1.A,x.2⟩)++news
open Rg in
def ObsF (P:Program)(Q:Exit→Act→World→Prop)(ops:Array Oper)(N:Nat)(Γ:List (Nat × VA))(les:List LeF)(sp:List ((Nat→Value)→Sp))(anc:Nat→List Nat)(B:Nat)(w0:Bs):Nat→Nat→Prop
 | _,0=>True
 | k,m+1=>ObF P Q ops N Γ les sp anc B w0 k∧ObsF P Q ops N Γ les sp anc B w0 (k+1) m
open Rg in
theorem ObsF.all {Q:Yd}{ops:Yg}{N:Nat}{les:List LeF}{sp:List ((Yy)→Sp)}{anc:Nat→Ya}{k m:Nat}(h:ObsF P Q ops N Γ les sp anc B w0 k m):∀ j,k≤j→j<k+m→ObF P Q ops N Γ les sp anc B w0 j:=by
 induction m generalizing k with
 | zero=>intro j h1 h2;omega
 | succ m ih =>
  intro j h1 h2;by_cases hj:j=k
  ·subst hj;exact h.1
  ·exact ih h.2 j zo zo
section
open Rg
variable {P:Program}{Q:Exit→Act→World→Prop}{B N:Nat}{w0:Bs}{Γ:List (Nat × VA)}{Λ:List Lc}{a:Act}{w:World}
theorem Cy {sts:List (Option (Nat × ((Yy)→As)))}{news:List LeF}{ν:Yy}(hn:news.all (λ e=>e.cr.isSome)=true):∀ e∈(lesF Λ sts news).map (LeF.on ν),e.cr=none→(⟨e.s,e.T,e.H,e.A0⟩:Lc)∈Λ:=by
 intro e he hcr;obtain ⟨e0,he0,rfl⟩:=qr.1 he;unfold lesF at he0;rcases qp.1 he0 with he|he
 ·obtain ⟨x,hx,rfl⟩:=qr.1 he;exact (List.of_mem_zip hx).1
 ·have:=qf.1 hn e0 he;have h2:e0.cr=none:=hcr;rw [h2] at this;cases this
theorem KJ {id:Nat}{ops:Yg}{sts:List (Option (Nat × ((Yy)→As)))}{news:List LeF}{sp:List ((Yy)→Sp)}(src:List Src)(h:St B w0 N Γ Λ a w)
  (hob:ObsF P Q ops N Γ (lesF Λ sts news) sp (λ i=>List.range i) B w0 0 ops.size) (hdS:DepS (λ i=>List.range i) 0 sp) (hdL:DepL (λ i=>List.range i) (lesF Λ sts news))
  (hn:news.all (λ e=>e.cr.isSome)=true) (hk:∀ ν,Rg.chk (fam ops N Γ (lesF Λ sts news) sp (λ i=>List.range i) ν)=true) (hsrc:∀ ν,src.all (okS (fam ops N Γ (lesF Λ sts news) sp (λ i=>List.range i) ν))=true)
  (hQ:∀ ν a w,St B w0 N (src.filterMap (cC (fam ops N Γ (lesF Λ sts news) sp (λ i=>List.range i) ν))) (((lesF Λ sts news).map (LeF.on ν)).map λ e=>⟨e.s,e.T,e.H,Rg.last e⟩) a w→Q .normal a w):(Code.region id ops false).wp P Q a w :=
 Rg.linV rfl hk (λ i f hf=>by have:=hdS.at i f hf;rwa [qV] at this) hdL.mem (λ _=>undef) h (Cy hn) (λ i hi=>hob.all i zo zo) λ ν a' w' hf=>hQ ν a' w' (fp (hk ν) hf src (hsrc ν))
theorem go_drawV' {id:Nat}{ops:Yg}{sts:List (Option (Nat × ((Yy)→As)))}{news:List LeF}{sp:List ((Yy)→Sp)}(anc:List (Ya))(src:List Src)(hm:P.follows .mixedOrders=true)(h:St B w0 N Γ Λ a w)
  (hob:ObsF P Q ops N Γ (lesF Λ sts news) sp (λ i=>anc.getD i []) B w0 0 ops.size) (hdS:DepS (λ i=>anc.getD i []) 0 sp) (hdL:DepL (λ i=>anc.getD i []) (lesF Λ sts news))
  (hn:news.all (λ e=>e.cr.isSome)=true) (hanc:Rg.ancOk (fam ops N Γ (lesF Λ sts news) sp (λ i=>anc.getD i []) (λ _=>undef))=true) (hk:∀ ν,Rg.chk (fam ops N Γ (lesF Λ sts news) sp (λ i=>anc.getD i []) ν)=true) (hsrc:∀ ν,src.all (okS (fam ops N Γ (lesF Λ sts news) sp (λ i=>anc.getD i []) ν))=true)
  (hQ:∀ ν a w,St B w0 N (src.filterMap (cC (fam ops N Γ (lesF Λ sts news) sp (λ i=>anc.getD i []) ν))) (((lesF Λ sts news).map (LeF.on ν)).map λ e=>⟨e.s,e.T,e.H,Rg.last e⟩) a w→Q .normal a w):(Code.region id ops true).wp P Q a w :=
 Rg.drawV hm hanc hk (λ i f hf=>by have:=hdS.at i f hf;rwa [qV] at this) hdL.mem (λ _=>undef) h (Cy hn) (λ i hi=>hob.all i zo zo) λ ν a' w' hf=>hQ ν a' w' (fp (hk ν) hf src (hsrc ν))
variable {ops:Array Oper}{les:List LeF}{sp:List ((Nat→Value)→Sp)}{anc:Nat→List Nat}{i:Nat}
theorem of_u (h:∀ ν,(fam ops N Γ les sp anc ν).Ob P Q B w0 i):ObF P Q ops N Γ les sp anc B w0 i:=.inl h
def E8 (R:Rg)(B:Nat)(w0:Bs)(i:Nat)(us:List Value):Prop:=∀ a w,R.Av B w0 i a w→∀ u∈us,∀ g∈vbl u,g<w.heap.size
theorem dY :E8 R B w0 i []:=λ _ _ _ _ h=>by cases h
theorem eN {R:Rg}{u:Yn}{us:Yl}{x:Yj}{A:As}(hA:NewA A)(hx:Has R B w0 i x (PinA u A).va)(h:E8 R B w0 i us):E8 R B w0 i (u::us):=λ a w av v hv=>by
 rcases qt.1 hv with rfl|hv
 ·obtain ⟨cs,⟨h1,h2⟩,_⟩:=hx a w av;intro g hg;rw [← h2,mn h1] at hg;exact (hA _ _ _ h1 g hg).2
 ·exact h a w av v hv
theorem gR {c:Prop}(h:NewA A):NewA (A.and c):=λ B cs w hp=>h B cs w hp.2
theorem JR {c:Prop}(h:NodA A):NodA (A.and c):=λ B cs w hp=>h B cs w hp.2
theorem lm {d f:Nat}{A:As}{us:(Yy)→Yl}{pre pre':Yc}{xs:Yr}{at_:Yq}
  (hs:sp[i]?=some (λ ν=>.v d (PinA (ν i) (A.and (cu (us ν) (ν i)))).va)) (ho:ops[i]?=some ⟨some d,.call ⟨.value (.func f),xs.toArray,at_⟩,T,ps,af,none⟩)
  (hc:Cn P f pre' A.va) (hnew:NewA A) (hfree:FreeA A A) (hup:All2 Up pre pre') (hx:∀ ν,HasL (fam ops N Γ les sp anc ν) B w0 i xs pre) (hus:∀ ν v,us (nJ ν i v)=us ν) (hl:∀ ν,E8 (fam ops N Γ les sp anc ν) B w0 i (us ν)):ObF P Q ops N Γ les sp anc B w0 i:=by
 refine .inr ⟨d,_,hs,λ ν a w av K hK=>?_⟩;obtain ⟨⟨fn,hf,hn,hb⟩,hcall⟩:=hc;have hrun:(execOp a.eval ⟨some d,.call ⟨.value (.func f),xs.toArray,at_⟩,T,ps,af,none⟩).run P w=.ok (.enter f (xs.map a.eval).toArray) w:=by
  simp only [execOp,resolve,Act.eval,Deferred.ofValue,Sem.run_bind,Sem.run_pure,Result.andThen_ok,invoke,bi hf hn hb];simp
 have hbw:=Av.bw av;have hargs:All2 (λ (A:VA) v=>A.p w.heap.size v w) pre' (xs.map a.eval):=by
  have h1:=(hx ν).all av;clear hcall hrun hx hs ho;generalize xs.map a.eval=vs at h1
  induction hup generalizing vs with
  | nil=>cases h1;exact .nil
  | cons hu _ ih =>
   cases h1 with
   | cons h2 h3=>exact .cons (hu _ _ _ hbw h2) (ih _ h3)
 refine bA (R:=fam ops N Γ les sp anc ν) ho G ?_;unfold Oper.wp;rw [hrun];refine (hcall w.heap.size w _ (qj _) hargs).mono λ e w' ⟨v,he,⟨cs,hv,hsh⟩,hg⟩=>?_;subst he;refine hK v w' hg ⟨cs,⟨⟨?_,hfree.2.2 _ _ _ _ hbw hv⟩,?_⟩,hsh⟩
 ·rw [hus,oZ];intro u hu g hgu hgv;have h1:=hl ν a w av u hu g hgu;rw [hsh,mn hv] at hgv;have h2:=(hnew _ _ _ hv g hgv).1;omega
 ·rw [oZ];exact hsh.symm
end
theorem Nl (l:Ya):NewA (MgN l):=λ B cs w ⟨_,h⟩=>by
 rcases h with ⟨_,rfl⟩|⟨g,ext,rfl,_,h2,h3⟩
 ·intro g hg;cases hg
 ·intro g' hg;have:g'=g:=by simpa [cbl,blk] using hg
  subst this;exact ⟨h2,(Array.getElem?_eq_some_iff.1 h3).1⟩
theorem Nm (b:Bool):NewA (BoA b):=λ B cs w h=>by
 have h':cs=[.bool b]:=h;subst h';intro g hg;cases hg
theorem JW (k:Yo)(n:Int):NewA (NumA k n):=λ B cs w h=>by
 have h':cs=[.int k n]:=h;subst h';intro g hg;cases hg
theorem Ca (x:RI):NewA (RIN x):=pc (λ A hA=>by
 simp at hA;rcases hA with rfl|rfl
 ·exact Nm _
 ·exact Nl _)
theorem JQ (x:RI):NodA (RIN x):=λ B cs w ⟨ps,e,h⟩=>by
 subst e;cases h with
 | @cons _ c1 _ _ h1 h=>cases h with
  | @cons _ c2 _ _ h2 h =>
   cases h;have e1:c1=[.bool x.neg]:=h1;have l2:=(MgN x.mag).len _ _ _ h2;subst e1
   match c2,l2 with
   | [v],_ =>
    show (List.filterMap blk [.bool x.neg,v]).Nodup;have:List.filterMap blk [.bool x.neg,v]=List.filterMap blk [v]:=rfl;rw [this];cases hb:blk v with
    | none=>simp [hb]
    | some g=>simp [hb]
def ZN (k:Nat)(z:Int):As:=(RIN (riOf z)).and (lz z≤k)
theorem uH :NewA (ZN k z):=gR (Ca _)
theorem Hh :NodA (ZN k z):=JR (JQ _)
theorem FN {c:Prop}(h:FreeA A A):FreeA (A.and c) (A.and c):=⟨rfl,rfl,λ B B' cs w hB hp=>⟨hp.1,h.2.2 B B' cs w hB hp.2⟩⟩
theorem py :FreeA (ZN k z) (ZN k z):=FN (dA _)
theorem An :WkA (RIN x) (RIA x):=⟨rfl,rfl,λ B cs w h=>(m9 x).2.2 B B cs w (qj _) h⟩
theorem Ah (h:k≤k'):WkA (ZN k z) (ZN k' z):=⟨rfl,rfl,λ _ _ _ hp=>⟨qg hp.1 h,hp.2⟩⟩
theorem LN (h:lz z≤k):Wk (RIN (riOf z)).va (ZN k z).va:=λ _ _ _ ⟨cs,hp,hv⟩=>⟨cs,⟨h,hp⟩,hv⟩
theorem Fc {a b:Int}(h:((riOf a).neg==(riOf b).neg)=true):(RIN (rsig (riOf a).neg (digs (max (riOf a).mag.length (riOf b).mag.length+1) (val (riOf a).mag+val (riOf b).mag)))).va=(RIN (riOf (a+b))).va:=by
 have h':decide (a<0)=decide (b<0):=by simpa [riOf] using h
 rw [bF,bF,cj (bY _ _) (z:=a+b) (by show val (digs (max (aA a.natAbs).length (aA b.natAbs).length+1) _)=_;rw [Aq];simp only [qW] at h';omega) (λ hz=>by show decide (a<0)=_;simp only [qW] at h' ⊢;omega)]
theorem Fb {a b:Int}(h:((riOf a).neg==(riOf b).neg)=false)(h2:b.natAbs≤a.natAbs):(RIN (rsig (riOf a).neg (aA (val (riOf a).mag-val (riOf b).mag)))).va=(RIN (riOf (a+b))).va:=by
 have h':¬ decide (a<0)=decide (b<0):=by simpa [riOf] using h
 rw [bF,bF,cj (bm _).1 (z:=a+b) (by rw [aI];simp only [qW] at h';omega) (λ hz=>by show decide (a<0)=_;simp only [qW] at h' ⊢;omega)]
theorem Fa {a b:Int}(h:((riOf a).neg==(riOf b).neg)=false)(h2:a.natAbs≤b.natAbs):(RIN (rsig (riOf b).neg (aA (val (riOf b).mag-val (riOf a).mag)))).va=(RIN (riOf (a+b))).va:=by
 have h':¬ decide (a<0)=decide (b<0):=by simpa [riOf] using h
 rw [bF,bF,cj (bm _).1 (z:=a+b) (by rw [aI];simp only [qW] at h';omega) (λ hz=>by show decide (b<0)=_;simp only [qW] at h' ⊢;omega)]
theorem Jw (p q:Int)(hp:lz p≤1099511627776)(hq:lz q≤1099511627776):Cn Tryz.prog 108 [Zi p,Zi q] ((RIN (riOf (p+q))).va):=by
 refine Cn.intro Tryz.func108 G zk nq (zy [(0,Zi p),(1,Zi q)] λ B w0 a U=>?_);refine qb<|zg [] Ul Um [] U (zW 0 G (zW 1 G (zY G (Str.zero bu) o0))) (zz [] Un ?_);refine ztA<|zsA<|zgA Uo [] (.adr 5 2 (.some 0) True::.v 6 _::.adr 7 3 (.some 0) True::(W6 8)) UP (zO 0 G aY (zL 0 0 0 G ty_4 (zO 1 G aY (zL 2 1 0 G ty_4 (zv G (BC zk (vq 1 G) (vq 3 G)) o0))))) (zz [(9,_)] Un λ a w U=>?_);refine zJ 0 U G (λ hb0=>?_) (λ hb0=>?_)
 ·refine qb<|zgd UQ UR [] (.adr 10 2 (.some 0) True::.v 11 _::.adr 12 2 (.some 1) True::.v 13 _::.adr 14 3 (.some 1) True::(Wb 15 [.sto 2])) [] ac U (zO 0 G aY (zL 0 0 0 G ty_4 (zO 0 G ar (zL 2 0 1 G bb (zO 1 G ar (zL 4 1 1 G bb (zQ G (P7 _ _ hp hq) (.p (vq 3 G) (vq 5 G)) (zQ G (db _ _) (.p (vq 1 G) (vq 6 G)) (zS 7 G ap o0))))))))) zk zk zk zk (zz [] Un λ a w U=>?_);refine aa<|qi<|aj ?_;refine aJ ?_ (au G U (zm 2 G) ap);exact Fc hb0
 ·refine qk<|zt<|qb<|zg US [] (.adr 18 2 (.some 1) True::.v 19 _::.adr 20 3 (.some 1) True::(Wb 21)) [.o 5] U (zO 0 G ar (zL 0 0 1 G bb (zO 1 G ar (zL 2 1 1 G bb (zQ G (ug _ _) (.p (vq 1 G) (vq 3 G)) (zv G (dP (vq 4 G) ab) o0)))))) (zz [(23,_)] Un λ a w U=>?_);refine zJ 0 U G (λ hb1=>?_) (λ hb1=>?_)
  ·refine qb<|zgd UQ UR [] (.adr 24 2 (.some 0) True::.v 25 _::.adr 26 2 (.some 1) True::.v 27 _::.adr 28 3 (.some 1) True::(Wb 29 [.sto 2])) [] ac U (zO 0 G aY (zL 0 0 0 G ty_4 (zO 0 G ar (zL 2 0 1 G bb (zO 1 G ar (zL 4 1 1 G bb (zQ G (Ep _ _ hp (cE (lk hb1)) (by show val (aA _)≤val (aA _);rw [aI,aI];exact lk hb1)) (.p (vq 3 G) (vq 5 G)) (zQ G (db _ _) (.p (vq 1 G) (vq 6 G)) (zS 7 G ap o0))))))))) zk zk zk zk (zz [] Un λ a w U=>?_);refine aa<|qi<|aj ?_;refine aJ ?_ (au G U (zm 2 G) ap);exact Fb hb0 (lk hb1)
  ·refine qk<|zt<|zgd UQ UR [] (.adr 32 3 (.some 0) True::.v 33 _::.adr 34 3 (.some 1) True::.v 35 _::.adr 36 2 (.some 1) True::(Wb 37 [.sto 2])) [] ac U (zO 1 G aY (zL 0 1 0 G ty_4 (zO 1 G ar (zL 2 1 1 G bb (zO 0 G ar (zL 4 0 1 G bb (zQ G (Ep _ _ hq (cE (lj hb1)) (by show val (aA _)≤val (aA _);rw [aI,aI];exact lj hb1)) (.p (vq 3 G) (vq 5 G)) (zQ G (db _ _) (.p (vq 1 G) (vq 6 G)) (zS 7 G ap o0))))))))) zk zk zk zk (zz [] Un λ a w U=>?_);refine aa<|qi<|aJ ?_ (au G U (zm 2 G) ap);exact Fa hb0 (lj hb1)
theorem Ni {n:Int}(h0 : -9223372036854775808≤n)(h1:n<9223372036854775808):(RIN (rsig (decide (n<0)) [n.natAbs%4294967296,n.natAbs/4294967296])).va=(RIN (riOf n)).va:=by
 rw [cj (C5 h0 h1) (z:=n) (by simp [val];omega) (λ _=>rfl)]
theorem Q7 (n:Int)(h0 : -9223372036854775808≤n)(h1:n<9223372036854775808):Cn Tryz.prog 107 [In n] ((RIN (riOf n)).va):=by
 refine Cn.intro Tryz.func107 G zk nq (zy [(0,In n)] λ B w0 a U=>?_);refine qb<|zg [] UK Uf UL U (zY G (Str.zero (cI famN)) o0) (zz UM UN ?_);refine ztA<|zgA U4 [] (W6 4 [.v 3 _]) Ui (zM 0 G (zv G (aH .u64 zk zk (vq 0 G) (G)) (zA 1 G o0))) (zz UO UN ?_);refine ztA<|zsA<|zgA U4 [] (W6 6) UI (zM 0 G (zv G (aN (vq 0 G) ab) o0)) (zz (Wa 0 3 7) UN λ a w U=>?_);refine aa<|bP (λ a w =>  St B w0 19 [(0,In n),(3,(NumA .u64 (n.natAbs:Nat)).va)] [⟨2,26,ptrH,cat [BoA false,MgN []]⟩] a w) U (zm 2 G) (λ hb0=>?_) (λ hb0=>?_) (λ a w U=>?_)
 ·refine zg U6 [] (W6 8 [.v 3 _]) Ui U (zM 1 G (zv G (EX (vq 0 G) (G)) (zA 1 G o0))) (zz UO UN λ a w U=>?_);refine aa ?_;have U:=St.sel U [0,1];rw [JN h0 hb0] at U;exact U
 ·refine qk<|aa ?_;have U:=St.sel U [0,1];rw [JM h1 hb0] at U;exact U
 refine zt<|zg [some (9,_)] [] (Wo 10 [.sto 0]) [] U (zM 0 G (zv G (aN (vq 0 G) ab) (zM 1 G (zv G (aH .u32 zk zk (vq 2 G) (wu32')) (zM 1 G (zv G (l8 (vq 4 G) (aF 32 G) zd (nshr)) (zv G (aH .u32 zk zk (vq 5 G) (wu32 (by show n.natAbs/4294967296<_;omega))) (zv G (rA (l:=[_,_]) (xs:=[.tmp 13,.tmp 16]) bc zk nq nq (C5 h0 h1) (.p (vq 3 G) (vq 6 G)) G G) (zQ G (db _ _) (.p (vq 1 G) (vq 7 G)) (zS 8 G ap o0)))))))))) (zz [] UN λ a w U=>?_);refine aa<|qi<|aJ ?_ (au G U (zm 0 G) ap);exact Ni h0 h1
section
variable {a b:Nat}{p q:Int}(ha:a≤549755813888)
include ha
variable (hb:b≤549755813888)
include hb
theorem BP:Cn Tryz.prog 108 [Zs a p,Zs b q] (ZN (max a b+1) (p+q)).va:=zs2 Dj λ h h'=>(Jw p q zo zo).wkp (LN (by have:=rL p q;omega))
end
theorem Q5 (h0 : -9223372036854775808≤n)(h1:n<9223372036854775808):Cn Tryz.prog 107 [In n] (ZN 2 n).va:=(Q7 n h0 h1).wkp (LN (t8 zo))
def QD (k:Nat)(q:Rat):As:=DisA (cat [ZN k q.num,ZN k (q.den:Int)])
theorem eM :NewA (QD k q):=DB (pc λ A hA=>by
 simp at hA;rcases hA with rfl|rfl <;> exact uH)
theorem rI :NodA (QD k q):=tB
theorem lu :FreeA (QD k q) (QD k q):=mh (bN (.cons py (.cons py .nil)))
theorem gw (h:WkA A A'):WkA (DisA A) (DisA A'):=⟨h.1,h.2.1,λ B cs w hp=>⟨h.2.2 B cs w hp.1,hp.2⟩⟩
theorem Js {u v:Yn}{q:Rat}(hc:c≤k)(hd:d≤k):WkA (cat [PinA u ((ZN c q.num).and (cu [] u)),PinA v ((ZN d (q.den:Int)).and (cu [u] v))]) (QD k q) :=
 (mf (l:=[(u,ZN c q.num),(v,ZN d (q.den:Int))]) (λ x hx=>by
  simp at hx;rcases hx with rfl|rfl <;> exact Hh)).trans (gw (br (.cons (Ah hc) (.cons (Ah hd) .nil))))
theorem PP {q:Rat}(h1:lz q.num≤c)(h2:lz (q.den:Int)≤c):WkA (QD k q) (QD c q):=gw (br (.cons ⟨rfl,rfl,λ _ _ _ hp=>⟨h1,hp.2⟩⟩ (.cons ⟨rfl,rfl,λ _ _ _ hp=>⟨h2,hp.2⟩⟩ .nil)))
theorem PQ {u v:Yn}{x:Rat}(hc:c≤k)(hd:d≤k):WkA (cat [PinA u ((ZN c (x.num+0)).and (cu [] u)),PinA v ((ZN d ((x.den:Int)+0)).and (cu [u] v))]) (QD k x):=by
 rw [jN,jN];exact Js hc hd
theorem Ln {c:Nat}{x:Rat}(hc:c≤137438953472):Cn Tryz.prog 27 [Qs c x] ((QD (max c 2+1) x).va):=by
 refine Cn.intro Tryz.func27 G zk nq (zy [(0,Qs c x)] λ B w0 a U=>?_);refine qb<|zg [] Rw UU [] U (zW 0 G (zY G (Str.zero aS) o0)) (zz [] Rx ?_);refine ztA<|zgA UF [⟨3,26,ptrH,some 1,_,some (2,_)⟩] [.v 4 _,.alc 2,.sto 2] [] (zQ G (of_z zd zd) (.cons ab .nil) (zY G (Str.zero bu) (zS 0 G ap o0))) (zz [] Ry λ a w U=>?_);refine zt<|go_drawV' [[],[0],[],[0,1,2],[],[4],[],[0,1,2,3,4,5,6],[0,1,2,3,4,5,6,7],[0,1,2,3,4,5,6,7,8]] (sts:=[none,some (9,λ ν=>_),none]) (news:=[]) (sp:=[(λ ν=>.adr 5 1 (.some 0) True),(λ ν=>.v 6 _),(λ ν=>.v 7 _),(λ ν=>.v 8 (PinA (ν 3) ((ZN (max c 2+1) (x.num+0)).and (cu [] (ν 3)))).va),(λ ν=>.adr 9 1 (.some 2) True),(λ ν=>.v 10 _),(λ ν=>.v 11 _),(λ ν=>.v 12 (PinA (ν 7) ((ZN (max c 2+1) ((x.den:Int)+0)).and (cu [ν 3] (ν 7)))).va),(λ ν=>.v 13 _),(λ ν=>.sto 1)]) [] ac U ⟨of_u λ ν=>ob_a rfl rfl (fY (lz0 0 rfl) aZ),⟨of_u λ ν=>ob_v rfl rfl (aB 0 rfl zk trivial (lz0 0 rfl) (Sub.part 0 rfl rfl) ap),⟨of_u λ ν=>ob_v rfl rfl (eL (lz0 2 rfl) ap),⟨lm (us:=λ ν=>[]) (xs:=[.tmp 6,.tmp 7]) rfl rfl (BP zo zo) uH py (.cons upA_za.va (.cons upA_za.va .nil)) (λ ν=>(.p (vq 1 rfl) (vq 2 rfl))) (λ _ _=>rfl) (λ ν=>dY),⟨of_u λ ν=>ob_a rfl rfl (fY (lz0 0 rfl) aU),⟨of_u λ ν=>ob_v rfl rfl (aB 4 rfl zk trivial (lz0 0 rfl) (Sub.part 1 rfl rfl) ap),⟨of_u λ ν=>ob_v rfl rfl (eL (lz0 2 rfl) ap),⟨lm (us:=λ ν=>[ν 3]) (xs:=[.tmp 10,.tmp 11]) rfl rfl (BP zo zo) uH py (.cons upA_za.va (.cons upA_za.va .nil)) (λ ν=>(.p (vq 5 rfl) (vq 6 rfl))) (λ _ _=>rfl) (λ ν=>(eN (gR uH) (vq 3 rfl) dY)),⟨of_u λ ν=>ob_v rfl rfl (aT (qs:=[(0,_),(1,_)]) aS (.cons ⟨rfl,vq 3 rfl,rfl⟩ (.cons ⟨rfl,vq 7 rfl,rfl⟩ .nil))),⟨of_u λ ν=>lI rfl rfl rfl (vq 8 rfl) ax (xF (b:=4) rfl rfl),trivial⟩⟩⟩⟩⟩⟩⟩⟩⟩⟩ ⟨(λ ν ν' h=>rfl),⟨(λ ν ν' h=>rfl),⟨(λ ν ν' h=>rfl),⟨(λ ν ν' h=>by first|rfl|simp only [h 3 rfl]),⟨(λ ν ν' h=>rfl),⟨(λ ν ν' h=>rfl),⟨(λ ν ν' h=>rfl),⟨(λ ν ν' h=>by first|rfl|simp only [h 3 rfl,h 7 rfl]),⟨(λ ν ν' h=>by first|rfl|simp only [h 3 rfl,h 7 rfl]),⟨(λ ν ν' h=>by first|rfl|simp only [h 3 rfl,h 7 rfl]),trivial⟩⟩⟩⟩⟩⟩⟩⟩⟩⟩ ⟨trivial,⟨(λ ν ν' h=>by first|rfl|simp only [h 3 rfl,h 7 rfl]),⟨trivial,trivial⟩⟩⟩ zk zk (λ ν=>by kernel_rfl) (λ ν=>by kernel_rfl) (λ ν2 a w U=>?_)
 have U:=zn [] Ry U;refine aa<|qi<|al ?_ (au G U (zm 1 G) ax);exact (PQ zo zo).va
theorem nc (hc:c≤137438953472):Cn Tryz.prog 27 [Qs c x] (QD c x).va :=
 Cn.know (c:=lz x.num≤c∧lz (x.den:Int)≤c) wC (λ B w args ha=>by cases ha with|cons h1 _=>exact Jr h1) λ h=>(Ln hc).wkp (PP h.1 h.2).va
section
variable {P:Program}{R:Rg}{Q:Exit→Act→World→Prop}{B i:Nat}{w0:Bs}
theorem ux :offP (ptrH.f g) (.some 0)=ptrH.f g:=by simp [ptrH,ptr,offP,add0]
theorem gK (hl:Loc R i b T' A):Ad P Q R B w0 i (.move (.tmp b)) b (.some 0):=by
 intro d ty ps af gd a w av K hK;obtain ⟨g,cs,h1,_⟩:=hl.ok av;rw [h1,ux] at hK;exact bf (w':=w) (v:=a.eval (.tmp b)) G (by rw [h1];exact hK)
theorem gJ (j:Nat)(hj:R.sp[j]?=some (.adr t b (.some 0) True))(hji:(R.anc i).contains j=true)(hl:Loc R i b T' A):Ad P Q R B w0 i (.nilCheck (.tmp t)) b (.some 0):=by
 intro d ty ps af gd a w av K hK;obtain ⟨g,cs,h1,_⟩:=hl.ok av;have h2:=av.d j t b (.some 0) True hji hj trivial;rw [h1,ux] at h2 hK;have h2':a.eval (.tmp t)=.pointer (some ⟨g,0,none⟩):=h2;exact bf (w':=w) (v:=.pointer (some ⟨g,0,none⟩)) (by simp [execOp,h2']) hK
theorem dg {fn:Func}{RQ':Ending→Yi→Prop}(h:ce P fn RQ' .ret a w):ce P fn RQ' .normal a w:=h
theorem uG {E:Yh}:Wk (EqV (.slice none 0 0)) (SlA E D []).va:=λ _ v _ h=>by
 have e:v=.slice none 0 0:=h;subst e;exact ⟨[.slice none 0 0],⟨(λ A hA=>by cases hA),none,0,[],rfl,qj _,zr _,⟨[],rfl,.nil⟩,λ h=>by cases h⟩,rfl⟩
def Arr (P:Program)(T:TypeId)(Z:List As):Prop :=
 ∃ it z n E ie,P.info? T=some it∧it.zero=some z∧P.underlying T=some (.array n E)∧P.info? E=some ie∧(∀ f,f<Z.length→some (f*ie.size,ie.size)=(dW Z)[f]?)∧∀ B w,(cat Z).p B z.cells.toList w
theorem Arr.zero (h:Arr P T Z):Zero P T (cat Z):=by
 obtain ⟨it,z,_,_,_,h1,h2,_,_,_,h3⟩:=h;exact ⟨it,z,h1,h2,h3⟩
end
def goQ (m:MQ)(r:YQ):YQ:=⟨m.a*r.y+m.b*r.u,m.c*r.y+m.d*r.u⟩
section
variable {P:Program}{R:Rg}{Q:Exit→Act→World→Prop}{B:Nat}{w0:Bs}{a:Act}{w:World}
open Rg in
theorem Rg.draw2 {id:Nat}{n:Nat}(hsz2:R.ops.size=n+2)(hm:P.follows .mixedOrders=true)(hanc:ancOk R=true)(hk:R.chk=true)(h:St B w0 R.N R.Γ Λ a w)(hles:∀ e∈R.les,e.cr=none→(⟨e.s,e.T,e.H,e.A0⟩:Lc)∈Λ)
  (hob:∀ i,i<n→R.Ob P Q B w0 i) (ha1:∀ j,j<n→(R.anc n).contains j=true) (ha2:(R.anc (n+1)).contains n=true)
  (hQ:∀ a w,R.Inv B w0 (λ k=>decide (k<n)) a w→∀ K:Act→World→Prop,(∀ a' w',(∀ K':Act→World→Prop,(∀ a'' w'',Q .normal a'' w''→K' a'' w'')→wpOp P R.ops Q (n+1) K' a' w')→K a' w')→wpOp P R.ops Q n K a w) :
  (Code.region id R.ops true).wp P Q a w:=by
 refine wp_region_any hm ?_;have ho:∀ i,i<R.ops.size→∃ o,R.ops[i]?=some o∧(∀ j,(R.anc i).contains j=true→∃ e∈o.after,Region.binds .any e=true∧(e.on=j∨(R.anc e.on).contains j=true)) ∧
   ∀ e∈o.after,Region.binds .any e=true→e.on<i:=by
  intro i hi;have:=qf.1 hanc i (by simpa using hi);cases hoi:R.ops[i]? with
  | none=>rw [hoi] at this;cases this
  | some o =>
   rw [hoi] at this;simp only [qm] at this;refine ⟨o,rfl,λ j hj=>?_,λ e he hb=>?_⟩
   ·have hh:=qf.1 this.1 j (by simpa using hj);obtain ⟨e,he,h1⟩:=jV.1 hh;simp only [qm,z4,xw] at h1;exact ⟨e,he,h1.1,h1.2⟩
   ·have hh:=z6.1 this.2 e he;simpa [hb] using hh
 have hrd:∀ (listed:Array Bool) i,i∈Region.ready .any R.ops listed→i<R.ops.size∧listed.getD i true=false∧∀ o,R.ops[i]?=some o→∀ e∈o.after,Region.binds .any e=true→listed.getD e.on false=true:=by
  intro listed i hi;unfold Region.ready at hi;obtain ⟨h1,h2⟩:=z5.1 hi;simp only [qm,qz] at h2;refine ⟨by simpa using h1,h2.1,λ o hoi e he hb=>?_⟩;have h3:=h2.2;rw [hoi] at h3;simp only [qU,xy] at h3;have:=z6.1 h3 e he;simpa [hb] using this
 have hfull:∀ (listed:Array Bool),listed.size=R.ops.size→Region.ready .any R.ops listed=[]→∀ k,k<R.ops.size→listed.getD k false=true:=by
  intro listed hsz hr k
  induction k using Nat.strongRecOn with
  | _ k ih =>
   intro hkn;cases hl:listed.getD k false with
   | true=>rfl
   | false =>
    exfalso;obtain ⟨o,ho1,_,ho3⟩:=ho k hkn;have:k∈Region.ready .any R.ops listed:=by
     unfold Region.ready;refine z5.2 ⟨by simpa using hkn,?_⟩;have h0:listed.getD k true=false:=by
      simp only [Array.getD,hsz,hkn,dite_true] at hl ⊢;exact hl
     rw [h0,ho1];simp only [jU,kt,qU,xy];refine z6.2 λ e he=>?_;cases hb:Region.binds .any e with
     | false=>rfl
     | true=>simpa using ih e.on (ho3 e he hb) (zF (ho3 e he hb) hkn)
    rw [hr] at this;cases this
 have hset:∀ (listed:Array Bool) (i k:Nat),listed.size=R.ops.size→i<R.ops.size→(listed.setIfInBounds i true).getD k false=upd (λ i=>listed.getD i false) i k:=by
  intro listed i k hsz hi;unfold upd;by_cases hki:k=i
  ·subst hki;simp [hsz,hi]
  ·simp [hki,Array.getElem?_setIfInBounds_ne (λ e=>hki e.symm)]
 have hpos:∀ (listed:Array Bool) (i:Nat),i<R.ops.size→listed.getD i false=false→0<(List.range R.ops.size).countP (λ k => !listed.getD k false):=λ listed i hi hl =>
  jJ.2 ⟨i,by simpa using hi,by simp only [hl];rfl⟩
 have hlt:∀ (listed:Array Bool) (i:Nat),listed.size=R.ops.size→i<R.ops.size→listed.getD i false=false→(List.range R.ops.size).countP (λ k => !(listed.setIfInBounds i true).getD k false)<(List.range R.ops.size).countP (λ k => !listed.getD k false):=by
  intro listed i hsz hi hLi;refine eR (x:=i) (λ x hx=>?_) (by simpa using hi) (by rw [hLi];rfl) (by rw [hset listed i i hsz hi,ci];rfl);have hx':upd (λ i=>listed.getD i false) i x=false:=by
   rw [← hset listed i x hsz hi];simpa only [qz] using hx
  rw [(dK hx').2]
  rfl
 have key:∀ fuel (listed:Array Bool) a w,listed.size=R.ops.size→(List.range R.ops.size).countP (λ i => !listed.getD i false)≤fuel→cG R (λ i=>listed.getD i false) →
   listed.getD n false=false→listed.getD (n+1) false=false→R.Inv B w0 (λ i=>listed.getD i false) a w→wpAny P .any R.ops Q fuel listed a w:=by
  intro fuel
  induction fuel with
  | zero =>
   intro listed a w hsz hcnt hcl hn0 hn1 hi;have:=hpos listed n zo hn0;omega
  | succ fuel ih =>
   intro listed a w hsz hcnt hcl hn0 hn1 hi;refine ⟨λ hr=>absurd (hfull listed hsz hr n zo) (by rw [hn0];decide),λ i hir=>?_⟩;obtain ⟨h1,h2,h3⟩:=hrd listed i hir;obtain ⟨o,ho1,ho2,_⟩:=ho i h1;have hLi:listed.getD i false=false:=by
    simp only [Array.getD,hsz,h1,dite_true] at h2 ⊢;exact h2
   have hanci:∀ j,(R.anc i).contains j=true→listed.getD j false=true:=by
    intro j hj;obtain ⟨e,he,hb,hj'⟩:=ho2 j hj;have hl:=h3 o ho1 e he hb;rcases hj' with rfl|hj'
    ·exact hl
    ·exact hcl e.on hl j hj'
   have hup:=λ k=>hset listed i k hsz h1;by_cases hin:i<n
   ·refine step hk (hob i hin) hi hcl hLi hanci _ λ a' w' hi'=>ih _ _ _ (by simpa using hsz) (by have:=hlt listed i hsz h1 hLi;omega) ?_ ?_ ?_ (hi'.congr hup)
    ·intro k hk' j hj;have hk2:upd (λ i=>listed.getD i false) i k=true:=by rw [← hup];exact hk'
     show (listed.setIfInBounds i true).getD j false=true;rw [hup];rcases rG hk2 with rfl|h4
     ·exact cX _ (hanci j hj)
     ·exact cX _ (hcl k h4 j hj)
    ·rw [hup,d9 _ zo];exact hn0
    ·rw [hup,d9 _ zo];exact hn1
   ·rcases (show i=n∨i=n+1 by omega) with rfl|rfl
    ·have hinv:R.Inv B w0 (λ k=>decide (k<i)) a w:=by
      refine hi.congr λ k=>?_;by_cases hki:k<i
      ·rw [qH hki];exact (hanci k (ha1 k hki)).symm
      ·rw [zT hki];by_cases hk2:k<R.ops.size
       ·rcases (show k=i∨k=i+1 by omega) with rfl|rfl
        ·exact hn0.symm
        ·exact hn1.symm
       ·have:listed.getD k false=false:=by simp [Array.getD,hsz,hk2]
        exact this.symm
     refine hQ a w hinv _ λ a' w' H=>?_;have hsz':(listed.setIfInBounds i true).size=R.ops.size:=by simpa using hsz
     have hc':=hlt listed i hsz h1 hLi;have hn1':(listed.setIfInBounds i true).getD (i+1) false=false:=by rw [hup,d9 _ zo];exact hn1
     have hp':=hpos _ (i+1) zo hn1';cases fuel with
     | zero=>omega
     | succ f =>
      refine ⟨λ hr=>absurd (hfull _ hsz' hr (i+1) zo) (by rw [hn1'];decide),λ i' hir'=>?_⟩;obtain ⟨g1,g2,_⟩:=hrd _ i' hir';have hi':i'=i+1:=by
       by_cases hlo:i'≤i
       ·exfalso;have:(listed.setIfInBounds i true).getD i' false=true:=by
         rw [hup];by_cases he:i'=i
         ·subst he;exact ci _ _
         ·exact cX _ (hanci i' (ha1 i' zo))
        simp only [Array.getD,hsz',g1,dite_true] at this g2;rw [this] at g2;cases g2
       ·omega
      subst hi';refine H _ λ a'' w'' hq=>?_;have hnone:Region.ready .any R.ops ((listed.setIfInBounds i true).setIfInBounds (i+1) true)=[]:=by
       cases hrr:Region.ready .any R.ops ((listed.setIfInBounds i true).setIfInBounds (i+1) true) with
       | nil=>rfl
       | cons q rest =>
        exfalso;obtain ⟨q1,q2,_⟩:=hrd _ q (by rw [hrr];simp);have hsz'':((listed.setIfInBounds i true).setIfInBounds (i+1) true).size=R.ops.size:=by simpa using hsz
        have:((listed.setIfInBounds i true).setIfInBounds (i+1) true).getD q false=true:=by
         rw [hset _ (i+1) q hsz' zo];by_cases he:q=i+1
         ·subst he;exact ci _ _
         ·refine cX _ ?_;show (listed.setIfInBounds i true).getD q false=true;rw [hup];by_cases he2:q=i
          ·subst he2;exact ci _ _
          ·exact cX _ (hanci q (ha1 q zo))
        simp only [Array.getD,hsz'',q1,dite_true] at this q2;rw [this] at q2;cases q2
      cases f with
      | zero=>exact ⟨hnone,hq⟩
      | succ f=>exact ⟨λ _=>hq,λ j hj=>by rw [hnone] at hj;cases hj⟩
    ·have:=hanci n ha2;rw [hn0] at this;cases this
 refine key _ _ a _ (by simp) ?_ ?_ ?_ ?_ ?_
 ·refine qg (jA) (by simp)
 ·intro i hi;exfalso;simp only [Array.getD,qP] at hi;split at hi <;> simp at hi
 ·simp only [Array.getD,qP];split <;> simp
 ·simp only [Array.getD,qP];split <;> simp
 ·have hs:=start h hles;have hd:R.Inv B w0 (λ _=>false) a w.drew:=⟨hs.lo,hs.defers.grow (Grow.drew w) rfl,hs.size,hs.base.drew,λ x hx h1 h2=>x.2.grow _ _ _ _ (Grow.drew w) (hs.g x hx h1 h2),(λ i y d A _ _ hf=>by cases hf),(λ i d b k c _ hf=>by cases hf),
   λ e he A hA=>(hs.c e he A hA).grow (Grow.drew w),hs.x⟩
  refine Inv.congr hd λ k=>?_;simp only [Array.getD,qP];split <;> simp
end
def cutW (w w':World):World:={ w' with heap:=w'.heap.extract 0 w.heap.size }
theorem HK (hs:w.heap.size≤w'.heap.size)(hk:k<w.heap.size):(cutW w w').heap[k]?=w'.heap[k]?:=by
 show (w'.heap.extract 0 w.heap.size)[k]?=_;rw [Array.getElem?_extract];simp;omega
theorem mj (hs:w.heap.size≤w'.heap.size):(cutW w w').heap.size=w.heap.size:=by
 show (w'.heap.extract 0 w.heap.size).size=_;simp;omega
theorem HJ (h:w.grownBy w' (some g)):Wr g w (cutW w w') :=
 ⟨h.os,h.tape,h.output,mj h.size,λ k hk=>by
  by_cases hlt:k<w.heap.size
  ·rw [HK h.size hlt];exact h.block k hlt (λ e=>hk (by injection e))
  ·rw [Array.getElem?_eq_none (by rw [mj h.size];omega),Array.getElem?_eq_none zo]⟩
theorem wP {row:Yt}(h:w.grownBy w' row):Grow (cutW w w') w' :=
 ⟨rfl,rfl,rfl,by rw [mj h.size];exact h.size,λ k hk=>by
  rw [mj h.size] at hk;rw [HK h.size hk]⟩
theorem rH (h:w.grownBy w' none):Grow w w':=⟨h.os,h.tape,h.output,h.size,λ k hk=>h.block k hk (by simp)⟩
def gF (w:World)(b:Nat)(E:TypeId)(row:Option Nat):Prop:=∀ g,row=some g→b≤g∧∃ c fz,w.heap[g]?=some (.cells c E fz)
theorem DefOk.grown {a a':Act}{b:Nat}{E:Yh}{row:Yt}(h:DefOk w0 a w)(hg:w.grownBy w' row)(hr:gF w b E row)(e:a'.defers=a.defers):DefOk w0 a' w' :=
 h.keep e λ D hD=>(hg.block D (Array.getElem?_eq_some_iff.1 hD).1 (λ e=>by
  obtain ⟨_,c,fz,hc⟩:=hr D e.symm;rw [hc] at hD;cases hD)).trans hD
theorem VA.grown {A:VA}{B b:Nat}{E:Yh}{row:Yt}(hp:A.p B v w)(hg:w.grownBy w' row)(hr:gF w b E row)(hb:B≤b)(hE:E ∉ A.deps):A.p B v w':=by
 cases row with
 | none=>exact A.grow _ _ _ _ (rH hg) hp
 | some g =>
  obtain ⟨h1,c,fz,h2⟩:=hr g rfl;exact A.grow _ _ _ _ (wP hg) (A.wr _ _ _ _ _ _ _ _ h2 hE (qg hb h1) (HJ hg) hp)
theorem As.grown {A:As}{B b:Nat}{E:Yh}{row:Yt}(hp:A.p B cs w)(hg:w.grownBy w' row)(hr:gF w b E row)(hb:B≤b)(hE:E ∉ A.deps):A.p B cs w':=by
 cases row with
 | none=>exact A.grow _ _ _ _ (rH hg) hp
 | some g =>
  obtain ⟨h1,c,fz,h2⟩:=hr g rfl;exact A.grow _ _ _ _ (wP hg) (A.wr _ _ _ _ _ _ _ _ h2 hE (qg hb h1) (HJ hg) hp)
def OwnR (b:Nat)(E:TypeId)(m:Nat)(D:List TypeId)(l:List As):VA where
 p B v w:=(∀ A∈l,A.n=m)∧(∀ A∈l,∀ T∈A.deps,T∈D)∧∃ ds,(cat l).p B ds w∧w.ownsRow b E m v l.length ds
 deps:=E::D
 cg:=by
  rintro B v w w' hg ⟨h1,h2,ds,h3,h4,h5⟩;refine ⟨h1,h2,ds,(cat l).cg _ _ _ _ hg h3,h4,?_⟩;rcases h5 with h5|⟨g,cap,cur,e1,e2,e3,e4⟩
  ·exact .inl h5
  ·exact .inr ⟨g,cap,cur,e1,e2,hg.heap e3,e4⟩
 wr:=by
  rintro B v w w' g c T fz hgc hT hB hW ⟨h1,h2,ds,h3,h4,h5⟩;simp only [qt,not_or] at hT;refine ⟨h1,h2,ds,(cat l).wr _ _ _ _ _ _ _ _ hgc (ni h2 hT.2) hB hW h3,h4,?_⟩;rcases h5 with h5|⟨g0,cap,cur,e1,e2,e3,e4⟩
  ·exact .inl h5
  ·refine .inr ⟨g0,cap,cur,e1,e2,?_,e4⟩;have hne:g0≠g:=by
    rintro rfl;rw [hgc] at e3;injection e3 with e3;injection e3 with _ e3 _;exact hT.1 e3
   rw [hW.block g0 hne];exact e3
theorem oQ {E:Yh}:Wk (EqV (.slice none 0 0)) (OwnR b E m D []):=λ _ v w h=>by
 have e:v=.slice none 0 0:=h;subst e;exact ⟨(λ A hA=>by cases hA),(λ A hA=>by cases hA),[],⟨[],rfl,.nil⟩,World.ownsRow_nil w b E m⟩
theorem ip {E:Yh}:Wk (OwnR b E m D l) (SlA E D l).va:=λ B v w ⟨_,h2,ds,h3,h4,h5⟩=>by
 rcases h5 with ⟨rfl,h5⟩|⟨g,cap,cur,rfl,e2,e3,e4,e5,e6,e7⟩
 ·refine ⟨[.slice none 0 0],⟨h2,none,0,ds,by rw [h5],by omega,zr _,h3,λ h=>by omega⟩,rfl⟩
 ·refine ⟨[.slice (some ⟨g,0,none⟩) l.length cap],⟨h2,_,cap,ds,rfl,e4,e5,h3,λ _=>⟨g,0,rfl,(Array.getElem?_eq_some_iff.1 e3).1,.inr ⟨_,_,e3⟩,λ j u hu=>?_⟩⟩,rfl⟩;rw [cell_of_row w g (0+j) cur E _ e3,qV];rw [← e7,List.getElem?_take] at hu;split at hu
  ·simpa using hu
  ·cases hu
theorem fb {b:Nat}{E:Yh}{m:Nat}{n:Nat}{ds:Yl}(h:w.ownsRow b E m v n ds):gF w b E v.ownBlock:=by
 intro g hg;obtain ⟨_,⟨rfl,_⟩|⟨g',cap,cur,rfl,e2,e3,_⟩⟩:=h
 ·cases hg
 ·have:g'=g:=by injection hg
  subst this;exact ⟨e2,_,_,e3⟩
theorem GD {α β:Type}{R':α→β→Prop}{l1 l2:List α}{m1 m2:List β}(h:All2 R' l1 m1)(h':All2 R' l2 m2):All2 R' (l1++l2) (m1++m2):=by
 induction h with
 | nil=>exact h'
 | cons h1 _ ih=>exact .cons h1 ih
theorem tJ {l l':Yb}{ds ds':Yl}(h:(cat l).p B ds w)(h':(cat l').p B ds' w):(cat (l++l')).p B (ds++ds') w:=by
 obtain ⟨ps,rfl,h1⟩:=h;obtain ⟨ps',rfl,h2⟩:=h';exact ⟨ps++ps',by simp,GD h1 h2⟩
def VT:VA:=⟨λ _ _ _=>True,[],λ _ _ _ _ _ _=>trivial,λ _ _ _ _ _ _ _ _ _ _ _ _ _=>trivial⟩
theorem St.wkG {B N:Nat}(h:St B w0 N Γ Λ a w)(k:Nat)(hm:Γ[k]?=some (s,A))(hw:Wk A A'):St B w0 N (Γ.set k (s,A')) Λ a w :=
 ⟨h.lo,h.defers,h.size,h.base,λ x hx=>by
  rcases qB hx with hx|rfl
  ·exact h.vals x hx
  ·exact hw _ _ _ (h.vals _ (qa hm)),h.locs,h.dis⟩
def lesN (Λ:List Lc):List Le:=Λ.map λ l=>⟨l.s,l.T,l.H,none,l.A,none⟩
section
variable {P:Program}{Q:Exit→Act→World→Prop}{B N:Nat}{w0:Bs}{Γ:List (Nat × VA)}{Λ:List Lc}{a:Act}{w:World}
end
theorem lF (base:Nat)(t ty e:Yh)(i:TypeInfo)(size:Nat)(ht:P.underlying t=some (.slice e))(hi:P.info? e=some i)
  (v:Value) (n c:Nat) (xs:List Value) (hown:w.ownsRow base e size v n xs):(Builtin.append_ #[t,t] ty #[v,.slice none 0 c]).run P w=.ok v w:=by
 rcases hown.2 with ⟨rfl,rfl⟩|⟨g,cap,cur,rfl,_,_,hnc,_⟩
 ·simp [Builtin.append_,run_underlying ht,sizeOf,typeInfo,hi,Builtin.lenOf,Builtin.firstCells]
 ·simp [Builtin.append_,run_underlying ht,sizeOf,typeInfo,hi,Builtin.lenOf,Builtin.firstCells,hnc,storeCells]
theorem Ls (hm:∀ A∈l,A.n=m):(cat l).n=l.length*m:=by
 induction l with
 | nil=>simp [cat]
 | cons A l ih =>
  have:=ih λ A' h=>hm A' (zx _ h);simp only [cat,qT,xf,zi] at this ⊢;rw [this,hm A (by simp),xX,j0,xq]
theorem gc {S E T1:Yh}{m bytes b B:Nat}{D D':Yp}{l xs:Yb}{v u:Yn}{it:TypeInfo}{z:Yn}
  (hS:P.underlying S=some (.slice E)) (hi:P.info? E=some it) (hz:it.zero=some z) (hsz:it.size=m) (hby:it.bytes=bytes) (hzs:z.cells.size=m) (hm0:0<m) (hl:l.length+xs.length≤100000000000) (hb6:bytes≤1000)
  (hv:(OwnR b E m D l).p B v w) (hu:(SlA E D' xs).va.p B u w) (hD':∀ T∈D',T∈D) (hED:E ∉ D) (hxm:∀ x∈xs,x.n=m) (hbw:b≤w.heap.size) (hB:B≤b) :
  ∃ v' w',(Builtin.append_ #[S,S] T1 #[v,u]).run P w=.ok v' w'∧(OwnR b E m D (l++xs)).p B v' w'∧w.grownBy w' v.ownBlock∧gF w b E v.ownBlock:=by
 obtain ⟨h1,h2,ds,h3,h4⟩:=hv;obtain ⟨cs,⟨hD,Ad,c,ds1,rfl,_,_,h5,h6⟩,hu'⟩:=hu;have hu2:u=.slice Ad xs.length c:=hu';subst hu2;have hl1:ds1.length=xs.length*m:=by rw [(cat xs).len _ _ _ h5,Ls hxm]
 have hro:=fb h4;have hmx:l.length+xs.length≤maxLen:=by unfold maxLen;omega
 have hbt:(l.length+xs.length)*bytes≤140737488355328:=qg (xV hl hb6) zd;have fin:∀ v' w',w'.ownsRow b E m v' (l.length+xs.length) (ds++ds1)→w.grownBy w' v.ownBlock→(OwnR b E m D (l++xs)).p B v' w':=λ v' w' r1 r2=>by
  refine ⟨λ A hA=>?_,λ A hA=>?_,ds++ds1,tJ (As.grown h3 r2 hro hB (ni h2 hED)) (As.grown h5 r2 hro hB (ni (λ A hA T hT=>hD' T (hD A hA T hT)) hED)),by rw [qv];exact r1⟩
  ·rcases qp.1 hA with hA|hA
   ·exact h1 A hA
   ·exact hxm A hA
  ·rcases qp.1 hA with hA|hA
   ·exact h2 A hA
   ·exact λ T hT=>hD' T (hD A hA T hT)
 have some_case:∀ a:Addr,Ad=some a→(∀ (j:Nat) u,ds1[j]?=some u→w.cell? (a.add j)=some u)→∃ v' w',(Builtin.append_ #[S,S] T1 #[v,.slice Ad xs.length c]).run P w=.ok v' w'∧(OwnR b E m D (l++xs)).p B v' w'∧w.grownBy w' v.ownBlock∧gF w b E v.ownBlock:=λ a ha hc=>by
  subst ha;obtain ⟨v',w',hr,r1,r2,_⟩:=run_append_own (P:=P) w b S T1 E it z m bytes hS hi hz hsz hby hzs hm0 v l.length ds h4 a xs.length c ds1 hl1 hc ((cat xs).one _ _ _ h5) hmx hbt hbw;exact ⟨v',w',hr,fin v' w' r1 r2,r2,hro⟩
 by_cases hx:0<xs.length
 ·obtain ⟨g1,o1,rfl,_,_,h8⟩:=h6 hx;exact some_case _ rfl λ j u hj=>by rw [Ag];exact h8 j u hj
 ·have h0:xs.length=0:=by omega
  have hds0:ds1=[]:=vo.1 (by rw [hl1,h0,jK]);cases Ad with
  | some a=>exact some_case a rfl λ j u hj=>by rw [hds0] at hj;simp at hj
  | none =>
   rw [h0];refine ⟨v,w,lF b S T1 E it m hS hi v l.length c ds h4,fin v w ?_ ⟨rfl,rfl,rfl,qj _,λ _ _ _=>rfl⟩,⟨rfl,rfl,rfl,qj _,λ _ _ _=>rfl⟩,hro⟩;rw [h0,hds0,zX];exact h4
section
variable {P:Program}{R:Rg}{Q:Exit→Act→World→Prop}{B:Nat}{w0:Bs}{a:Act}{w:World}
open Rg in
theorem Rg.linK {id:Nat}{n m:Nat}(hsz:R.ops.size=n+m)(hanc:R.anc=λ i=>List.range i)(hk:R.chk=true)(h:St B w0 R.N R.Γ Λ a w)(hles:∀ e∈R.les,e.cr=none→(⟨e.s,e.T,e.H,e.A0⟩:Lc)∈Λ)
  (hob:∀ i,i<n→R.Ob P Q B w0 i) (hQ:∀ a w,R.Inv B w0 (λ k=>decide (k<n)) a w→wpOps P R.ops Q (List.range' n m) a w):(Code.region id R.ops false).wp P Q a w:=by
 refine wp_region ?_;have key:∀ q k,k+q=n→∀ a w,R.Inv B w0 (λ j=>decide (j<k)) a w→wpOps P R.ops Q (List.range' k (q+m)) a w:=by
  intro q
  induction q with
  | zero =>
   intro k hkm a w hi;have:k=n:=by omega
   subst this;rw [qV];exact hQ a w hi
  | succ q ih =>
   intro k hkm a w hi;rw [show q+1+m=(q+m)+1 by omega,List.range'_succ,qy];refine step hk (hob k zo) hi ?_ (by simp) ?_ _ λ a' w' hi'=>ih (k+1) zo a' w' (hi'.congr λ j=>?_)
   ·intro i hi j hj;rw [hanc] at hj;simp at hi hj ⊢;omega
   ·intro j hj;rw [hanc] at hj;simpa using hj
   ·unfold upd;by_cases h1:j=k
    ·subst h1;simp
    ·have h2:(j==k)=false:=by simpa using h1
     rw [h2,xJ,qW];omega
 rw [List.range_eq_range',hsz];exact key n 0 zo a w ((start h hles).congr λ j=>by simp)
end
open Rg in
theorem lr {Q:Yd}{B N:Nat}{id:Nat}{ops:Yg}{sp:Yu}(n:Nat)(src:Ya)(i1 i2:Nat){S E T1 T2:Yh}{s u d e m bytes:Nat}{ps1 ps2:Yv}{af1 af2:Yw}{D D':Yp}{l xs:Yb}{A2:VA}{it:TypeInfo}{z:Yn}
  (h:St B w0 N Γ Λ a w) (hob:Obs P Q ⟨ops,N,Γ,lesN Λ,sp,λ i=>List.range i⟩ B w0 0 n) (hn2:ops.size=n+2) (hk:Rg.chk ⟨ops,N,Γ,lesN Λ,sp,λ i=>List.range i⟩=true)
  (ho1:ops[n]?=some ⟨some d,.call ⟨.builtin .append,#[.tmp s,.tmp u],#[S,S]⟩,T1,ps1,af1,none⟩) (ho2:ops[n+1]?=some ⟨some e,.assign (.tmp d),T2,ps2,af2,none⟩)
  (hi1:i1<n) (h1:sp[i1]?=some (.v s (OwnR w0.w.heap.size E m D l))) (hi2:i2<n) (h2:sp[i2]?=some (.v u A2)) (hA2:∀ w u,A2.p B u w→Kept w0 w→(SlA E D' xs).va.p B u w)
  (hS:P.underlying S=some (.slice E)) (hi:P.info? E=some it) (hz:it.zero=some z) (hsz:it.size=m) (hby:it.bytes=bytes) (hzs:z.cells.size=m) (hm0:0<m) (hl:l.length+xs.length≤100000000000) (hb6:bytes≤1000)
  (hD':∀ T∈D',T∈D) (hED:E ∉ D) (hxm:∀ x∈xs,x.n=m) (hde:(d != e)=true) (hd:d<N) (he:e<N)
  (hsrc:src.all (λ k=>match Γ[k]? with|some y => !y.2.deps.contains E&&Rg.outG ⟨ops,N,Γ,lesN Λ,sp,λ i=>List.range i⟩ y.1|none=>false)=true)
  (hΛ:Λ.all (λ l=>l.T != E && !l.A.deps.contains E&&l.s != d&&l.s != e)=true)
  (hQ:∀ a w,St B w0 N ((e,OwnR w0.w.heap.size E m D (l++xs))::src.filterMap (λ k=>Γ[k]?)) Λ a w→Q .normal a w):(Code.region id ops false).wp P Q a w:=by
 have hles0:∀ y∈lesN Λ,y.cr=none∧y.st=none∧(⟨y.s,y.T,y.H,y.A0⟩:Lc)∈Λ:=λ y hy=>by
  obtain ⟨l',hl',rfl⟩:=qr.1 hy;exact ⟨rfl,rfl,hl'⟩
 refine Rg.linK (R:=⟨ops,N,Γ,lesN Λ,sp,λ i=>List.range i⟩) (m:=2) hn2 G hk h (λ y hy _=>(hles0 y hy).2.2) (λ i hi=>hob.all i zo zo) λ a1 w1 hinv=>?_;have hcl:∀ deps,Rg.clash ⟨ops,N,Γ,lesN Λ,sp,λ i=>List.range i⟩ (λ k=>decide (k<n)) deps=false:=λ deps=>by
  unfold Rg.clash;rw [xv];intro y hy;rw [(hles0 y hy).2.1];simp
 have hv:=hinv.v i1 _ s _ h1 rfl (qH hi1) (hcl _);have hu:=hA2 _ _ (hinv.v i2 _ u _ h2 rfl (qH hi2) (hcl _)) hinv.base;have hB:B≤w0.w.heap.size:=hinv.lo _ (.inl (qj _));obtain ⟨v',w',hr,r1,r2,r3⟩:=gc (T1:=T1) hS hi hz hsz hby hzs hm0 hl hb6 hv hu hD' hED hxm hinv.base.size hB;have hdsz:d<a1.tmps.size:=by rw [hinv.size];exact hd
 have hesz:e<(a1.put (some d) v').tmps.size:=by rw [size_put,hinv.size];exact he
 have hne:d≠e:=by simpa using hde
 rw [List.range'_succ,qy];refine bA (R:=⟨ops,N,Γ,lesN Λ,sp,λ i=>List.range i⟩) ho1 G (bf (w':=w') (v:=v') (by simp [execOp,resolve,invoke,builtin,hr,Result.andThen]) ?_);rw [List.range'_succ,qy];refine bA (R:=⟨ops,N,Γ,lesN Λ,sp,λ i=>List.range i⟩) ho2 G (bf (w':=w') (v:=v') ?_ (hQ _ _ ?_))
 ·have:=aM a1 d v' hdsz;simp [execOp,this]
 ·have hother:∀ t,t≠d→t≠e→((a1.put (some d) v').put (some e) v').eval (.tmp t)=a1.eval (.tmp t):=λ t h3 h4=>by
   rw [an _ _ _ _ h4,an _ _ _ _ h3]
  have hlc:∀ l'∈Λ,l'.T≠E∧E ∉ l'.A.deps∧l'.s≠d∧l'.s≠e:=λ l' hl'=>by
   have:=qf.1 hΛ l' hl';simp only [qm,bne_iff_ne,qz,qC,qn] at this;exact ⟨this.1.1.1,this.1.1.2,this.1.2,this.2⟩
  have hcur:∀ l'∈Λ,(⟨l'.s,l'.T,l'.H,none,l'.A,none⟩:Le)∈lesN Λ:=λ l' hl'=>qr.2 ⟨l',hl',rfl⟩;refine ⟨hinv.lo,hinv.defers.grown r2 r3 rfl,by rw [size_put,size_put];exact hinv.size,?_,?_,?_,?_⟩
  ·exact ⟨r2.os.trans hinv.base.os,r2.tape.trans hinv.base.tape,r2.output.trans hinv.base.output,qg hinv.base.size r2.size,λ k hk hf =>
    (r2.block k (qE hk hinv.base.size) (λ e=>by have:=(r3 k e.symm).1;omega)).trans (hinv.base.block k hk hf)⟩
  ·intro y hy;rcases qt.1 hy with rfl|hy
   ·show (OwnR w0.w.heap.size E m D (l++xs)).p B (((a1.put (some d) v').put (some e) v').eval (.tmp e)) w';rw [aM _ _ _ hesz];exact r1
   ·obtain ⟨k,hk1,hk2⟩:=qS.1 hy;have hs:=qf.1 hsrc k hk1;simp only [hk2,qm,qz,qC,qn] at hs;have hout:∀ q,q<ops.size→Rg.dst ⟨ops,N,Γ,lesN Λ,sp,λ i=>List.range i⟩ q≠some y.1:=λ q hq=>by
     have:=qf.1 hs.2 q (by simpa using hq);simpa using this
    have g1:y.1≠d:=λ e1=>hout n zo (by unfold Rg.dst;rw [ho1,e1];rfl);have g2:y.1≠e:=λ e1=>hout (n+1) zo (by unfold Rg.dst;rw [ho2,e1];rfl);rw [hother _ g1 g2];exact VA.grown (hinv.g y (qa hk2) (λ q hq hdq=>absurd hdq (hout q hq)) (hcl _)) r2 r3 hB hs.1
  ·intro l' hl';obtain ⟨g1,g2,g3,g4⟩:=hlc l' hl';obtain ⟨g,cs,e1,e2,e3,e4⟩:=hinv.c _ (hcur l' hl') l'.A rfl;refine ⟨g,cs,by rw [hother _ g3 g4];exact e1,e2,?_,As.grown e4 r2 r3 hB g2⟩;rw [r2.block g (Array.getElem?_eq_some_iff.1 e3).1 (λ e5=>by
    obtain ⟨_,c,fz,e6⟩:=r3 g e5.symm;rw [e3] at e6;injection e6 with e6;injection e6 with _ e6 _;exact g1 e6)]
   exact e3
  ·intro l1 hl1 l2 hl2 hne';obtain ⟨_,_,g3,g4⟩:=hlc l1 hl1;obtain ⟨_,_,g5,g6⟩:=hlc l2 hl2;rw [hother _ g3 g4,hother _ g5 g6];exact hinv.x _ (hcur l1 hl1) _ (hcur l2 hl2) hne' G rfl
section
variable {P:Program}{Q:Exit→Act→World→Prop}{B N:Nat}{w0:Bs}{Γ:List (Nat × VA)}{Λ:List Lc}{a:Act}{w:World}
open Rg in
theorem KN {id:Nat}{ops:Yg}{sp:Yu}(anc:List (Ya))(n:Nat)(src:Ya)(i1 i2:Nat){S E T1 T2:Yh}{s u d e m bytes:Nat}{ps1 ps2:Yv}{af1 af2:Yw}{D D':Yp}{l xs:Yb}{A2:VA}{it:TypeInfo}{z:Yn}
  (hm:P.follows .mixedOrders=true) (h:St B w0 N Γ Λ a w)
  (hob:Obs P Q ⟨ops,N,Γ,lesN Λ,sp,λ i=>anc.getD i []⟩ B w0 0 n) (hn2:ops.size=n+2)
  (hanc:Rg.ancOk ⟨ops,N,Γ,lesN Λ,sp,λ i=>anc.getD i []⟩=true) (hk:Rg.chk ⟨ops,N,Γ,lesN Λ,sp,λ i=>anc.getD i []⟩=true)
  (ha1:(List.range n).all (λ j=>(anc.getD n []).contains j)=true) (ha2:(anc.getD (n+1) []).contains n=true)
  (ho1:ops[n]?=some ⟨some d,.call ⟨.builtin .append,#[.tmp s,.tmp u],#[S,S]⟩,T1,ps1,af1,none⟩) (ho2:ops[n+1]?=some ⟨some e,.assign (.tmp d),T2,ps2,af2,none⟩)
  (hi1:i1<n) (h1:sp[i1]?=some (.v s (OwnR w0.w.heap.size E m D l))) (hi2:i2<n) (h2:sp[i2]?=some (.v u A2)) (hA2:∀ w u,A2.p B u w→Kept w0 w→(SlA E D' xs).va.p B u w)
  (hS:P.underlying S=some (.slice E)) (hi:P.info? E=some it) (hz:it.zero=some z) (hsz:it.size=m) (hby:it.bytes=bytes) (hzs:z.cells.size=m) (hm0:0<m) (hl:l.length+xs.length≤100000000000) (hb6:bytes≤1000)
  (hD':∀ T∈D',T∈D) (hED:E ∉ D) (hxm:∀ x∈xs,x.n=m) (hde:(d != e)=true) (hd:d<N) (he:e<N)
  (hsrc:src.all (λ k=>match Γ[k]? with|some y => !y.2.deps.contains E&&Rg.outG ⟨ops,N,Γ,lesN Λ,sp,λ i=>anc.getD i []⟩ y.1|none=>false)=true)
  (hΛ:Λ.all (λ l=>l.T != E && !l.A.deps.contains E&&l.s != d&&l.s != e)=true)
  (hQ:∀ a w,St B w0 N ((e,OwnR w0.w.heap.size E m D (l++xs))::src.filterMap (λ k=>Γ[k]?)) Λ a w→Q .normal a w):(Code.region id ops true).wp P Q a w:=by
 have hles0:∀ y∈lesN Λ,y.cr=none∧y.st=none∧(⟨y.s,y.T,y.H,y.A0⟩:Lc)∈Λ:=λ y hy=>by
  obtain ⟨l',hl',rfl⟩:=qr.1 hy;exact ⟨rfl,rfl,hl'⟩
 refine Rg.draw2 (R:=⟨ops,N,Γ,lesN Λ,sp,λ i=>anc.getD i []⟩) hn2 hm hanc hk h (λ y hy _=>(hles0 y hy).2.2) (λ i hi=>hob.all i zo zo) (λ j hj=>qf.1 ha1 j (by simpa using hj)) ha2 λ a1 w1 hinv K hK=>?_;have hcl:∀ deps,Rg.clash ⟨ops,N,Γ,lesN Λ,sp,λ i=>anc.getD i []⟩ (λ k=>decide (k<n)) deps=false:=λ deps=>by
  unfold Rg.clash;rw [xv];intro y hy;rw [(hles0 y hy).2.1];simp
 have hv:=hinv.v i1 _ s _ h1 rfl (qH hi1) (hcl _);have hu:=hA2 _ _ (hinv.v i2 _ u _ h2 rfl (qH hi2) (hcl _)) hinv.base;have hB:B≤w0.w.heap.size:=hinv.lo _ (.inl (qj _));obtain ⟨v',w',hr,r1,r2,r3⟩:=gc (T1:=T1) hS hi hz hsz hby hzs hm0 hl hb6 hv hu hD' hED hxm hinv.base.size hB;have hdsz:d<a1.tmps.size:=by rw [hinv.size];exact hd
 have hesz:e<(a1.put (some d) v').tmps.size:=by rw [size_put,hinv.size];exact he
 have hne:d≠e:=by simpa using hde
 refine bA (R:=⟨ops,N,Γ,lesN Λ,sp,λ i=>anc.getD i []⟩) ho1 G (bf (w':=w') (v:=v') (by simp [execOp,resolve,invoke,builtin,hr,Result.andThen]) (hK _ _ λ K' hK'=>?_));refine bA (R:=⟨ops,N,Γ,lesN Λ,sp,λ i=>anc.getD i []⟩) ho2 G (bf (w':=w') (v:=v') ?_ (hK' _ _ (hQ _ _ ?_)))
 ·have:=aM a1 d v' hdsz;simp [execOp,this]
 ·have hother:∀ t,t≠d→t≠e→((a1.put (some d) v').put (some e) v').eval (.tmp t)=a1.eval (.tmp t):=λ t h3 h4=>by
   rw [an _ _ _ _ h4,an _ _ _ _ h3]
  have hlc:∀ l'∈Λ,l'.T≠E∧E ∉ l'.A.deps∧l'.s≠d∧l'.s≠e:=λ l' hl'=>by
   have:=qf.1 hΛ l' hl';simp only [qm,bne_iff_ne,qz,qC,qn] at this;exact ⟨this.1.1.1,this.1.1.2,this.1.2,this.2⟩
  have hcur:∀ l'∈Λ,(⟨l'.s,l'.T,l'.H,none,l'.A,none⟩:Le)∈lesN Λ:=λ l' hl'=>qr.2 ⟨l',hl',rfl⟩;refine ⟨hinv.lo,hinv.defers.grown r2 r3 rfl,by rw [size_put,size_put];exact hinv.size,?_,?_,?_,?_⟩
  ·exact ⟨r2.os.trans hinv.base.os,r2.tape.trans hinv.base.tape,r2.output.trans hinv.base.output,qg hinv.base.size r2.size,λ k hk hf =>
    (r2.block k (qE hk hinv.base.size) (λ e=>by have:=(r3 k e.symm).1;omega)).trans (hinv.base.block k hk hf)⟩
  ·intro y hy;rcases qt.1 hy with rfl|hy
   ·show (OwnR w0.w.heap.size E m D (l++xs)).p B (((a1.put (some d) v').put (some e) v').eval (.tmp e)) w';rw [aM _ _ _ hesz];exact r1
   ·obtain ⟨k,hk1,hk2⟩:=qS.1 hy;have hs:=qf.1 hsrc k hk1;simp only [hk2,qm,qz,qC,qn] at hs;have hout:∀ q,q<ops.size→Rg.dst ⟨ops,N,Γ,lesN Λ,sp,λ i=>anc.getD i []⟩ q≠some y.1:=λ q hq=>by
     have:=qf.1 hs.2 q (by simpa using hq);simpa using this
    have g1:y.1≠d:=λ e1=>hout n zo (by unfold Rg.dst;rw [ho1,e1];rfl);have g2:y.1≠e:=λ e1=>hout (n+1) zo (by unfold Rg.dst;rw [ho2,e1];rfl);rw [hother _ g1 g2];exact VA.grown (hinv.g y (qa hk2) (λ q hq hdq=>absurd hdq (hout q hq)) (hcl _)) r2 r3 hB hs.1
  ·intro l' hl';obtain ⟨g1,g2,g3,g4⟩:=hlc l' hl';obtain ⟨g,cs,e1,e2,e3,e4⟩:=hinv.c _ (hcur l' hl') l'.A rfl;refine ⟨g,cs,by rw [hother _ g3 g4];exact e1,e2,?_,As.grown e4 r2 r3 hB g2⟩;rw [r2.block g (Array.getElem?_eq_some_iff.1 e3).1 (λ e5=>by
    obtain ⟨_,c,fz,e6⟩:=r3 g e5.symm;rw [e3] at e6;injection e6 with e6;injection e6 with _ e6 _;exact g1 e6)]
   exact e3
  ·intro l1 hl1 l2 hl2 hne';obtain ⟨_,_,g3,g4⟩:=hlc l1 hl1;obtain ⟨_,_,g5,g6⟩:=hlc l2 hl2;rw [hother _ g3 g4,hother _ g5 g6];exact hinv.x _ (hcur l1 hl1) _ (hcur l2 hl2) hne' G rfl
end
def OwnB (b:Nat)(E:TypeId)(m:Nat)(D:List TypeId)(l:List As):VA where
 p B v w:=b≤w.heap.size∧B≤b∧(OwnR b E m D l).p B v w
 deps:=E::D
 cg:=λ B v w w' hg ⟨h1,h2,h3⟩=>⟨qg h1 hg.size,h2,(OwnR b E m D l).cg B v w w' hg h3⟩
 wr:=λ B v w w' g c T fz hgc hT hB hW ⟨h1,h2,h3⟩=>⟨by rw [hW.size];exact h1,h2,(OwnR b E m D l).wr B v w w' g c T fz hgc hT hB hW h3⟩
def LM (b:Nat):VA where
 p _ v _:=∃ g,blk v=some g∧g<b
 deps:=[]
 cg:=λ _ _ _ _ _ h=>h
 wr:=λ _ _ _ _ _ _ _ _ _ _ _ _ h=>h
open Rg in
theorem KO {Q:Yd}{B N:Nat}{id:Nat}{ops:Yg}{sp:Yu}(n:Nat)(src:Ya)(i1 i2 k3:Nat){S E T1 T2:Yh}{s u d e m bytes b s3:Nat}{ps1 ps2:Yv}{af1 af2:Yw}{D D':Yp}{l xs:Yb}{A2:VA}{it:TypeInfo}{z:Yn}
  (h:St B w0 N Γ Λ a w) (hob:Obs P Q ⟨ops,N,Γ,lesN Λ,sp,λ i=>List.range i⟩ B w0 0 n) (hn2:ops.size=n+2) (hk:Rg.chk ⟨ops,N,Γ,lesN Λ,sp,λ i=>List.range i⟩=true)
  (ho1:ops[n]?=some ⟨some d,.call ⟨.builtin .append,#[.tmp s,.tmp u],#[S,S]⟩,T1,ps1,af1,none⟩) (ho2:ops[n+1]?=some ⟨some e,.assign (.tmp d),T2,ps2,af2,none⟩)
  (hi1:i1<n) (h1:sp[i1]?=some (.v s (OwnB b E m D l))) (hi2:i2<n) (h2:sp[i2]?=some (.v u A2)) (h3:Γ[k3]?=some (s3,LM b)) (ho3:Rg.outG ⟨ops,N,Γ,lesN Λ,sp,λ i=>List.range i⟩ s3=true) (hwb:w0.w.heap.size≤b) (hA2:∀ w u,A2.p B u w→Kept w0 w→(SlA E D' xs).va.p B u w)
  (hS:P.underlying S=some (.slice E)) (hi:P.info? E=some it) (hz:it.zero=some z) (hsz:it.size=m) (hby:it.bytes=bytes) (hzs:z.cells.size=m) (hm0:0<m) (hl:l.length+xs.length≤100000000000) (hb6:bytes≤1000)
  (hD':∀ T∈D',T∈D) (hED:E ∉ D) (hxm:∀ x∈xs,x.n=m) (hde:(d != e)=true) (hd:d<N) (he:e<N)
  (hsrc:src.all (λ k=>match Γ[k]? with|some y => !y.2.deps.contains E&&Rg.outG ⟨ops,N,Γ,lesN Λ,sp,λ i=>List.range i⟩ y.1|none=>false)=true)
  (hΛ:Λ.all (λ l=>(l.T != E || l.s==s3) && !l.A.deps.contains E&&l.s != d&&l.s != e)=true)
  (hQ:∀ a w,St B w0 N ((e,OwnB b E m D (l++xs))::src.filterMap (λ k=>Γ[k]?)) Λ a w→Q .normal a w):(Code.region id ops false).wp P Q a w:=by
 have hles0:∀ y∈lesN Λ,y.cr=none∧y.st=none∧(⟨y.s,y.T,y.H,y.A0⟩:Lc)∈Λ:=λ y hy=>by
  obtain ⟨l',hl',rfl⟩:=qr.1 hy;exact ⟨rfl,rfl,hl'⟩
 refine Rg.linK (R:=⟨ops,N,Γ,lesN Λ,sp,λ i=>List.range i⟩) (m:=2) hn2 G hk h (λ y hy _=>(hles0 y hy).2.2) (λ i hi=>hob.all i zo zo) λ a1 w1 hinv=>?_;have hcl:∀ deps,Rg.clash ⟨ops,N,Γ,lesN Λ,sp,λ i=>List.range i⟩ (λ k=>decide (k<n)) deps=false:=λ deps=>by
  unfold Rg.clash;rw [xv];intro y hy;rw [(hles0 y hy).2.1];simp
 obtain ⟨hbw,hB,hv⟩:=hinv.v i1 _ s _ h1 rfl (qH hi1) (hcl _);have hout:∀ t,Rg.outG ⟨ops,N,Γ,lesN Λ,sp,λ i=>List.range i⟩ t=true→∀ q,q<ops.size→Rg.dst ⟨ops,N,Γ,lesN Λ,sp,λ i=>List.range i⟩ q≠some t:=λ t ht q hq=>by
  have:=qf.1 ht q (by simpa using hq);simpa using this
 obtain ⟨g3,hg3,hlt3⟩:=hinv.g _ (qa h3) (λ q hq hdq=>absurd hdq (hout _ ho3 q hq)) (hcl _);have hu:=hA2 _ _ (hinv.v i2 _ u _ h2 rfl (qH hi2) (hcl _)) hinv.base;obtain ⟨v',w',hr,r1,r2,r3⟩:=gc (T1:=T1) hS hi hz hsz hby hzs hm0 hl hb6 hv hu hD' hED hxm hbw hB;have hdsz:d<a1.tmps.size:=by rw [hinv.size];exact hd
 have hesz:e<(a1.put (some d) v').tmps.size:=by rw [size_put,hinv.size];exact he
 have hne:d≠e:=by simpa using hde
 rw [List.range'_succ,qy];refine bA (R:=⟨ops,N,Γ,lesN Λ,sp,λ i=>List.range i⟩) ho1 G (bf (w':=w') (v:=v') (by simp [execOp,resolve,invoke,builtin,hr,Result.andThen]) ?_);rw [List.range'_succ,qy];refine bA (R:=⟨ops,N,Γ,lesN Λ,sp,λ i=>List.range i⟩) ho2 G (bf (w':=w') (v:=v') ?_ (hQ _ _ ?_))
 ·have:=aM a1 d v' hdsz;simp [execOp,this]
 ·have hother:∀ t,t≠d→t≠e→((a1.put (some d) v').put (some e) v').eval (.tmp t)=a1.eval (.tmp t):=λ t h3 h4=>by
   rw [an _ _ _ _ h4,an _ _ _ _ h3]
  have hlc:∀ l'∈Λ,(l'.T≠E∨l'.s=s3)∧E ∉ l'.A.deps∧l'.s≠d∧l'.s≠e:=λ l' hl'=>by
   have:=qf.1 hΛ l' hl';simp only [qm,z4,xw,bne_iff_ne,qz,qC,qn] at this;exact ⟨this.1.1.1,this.1.1.2,this.1.2,this.2⟩
  have hcur:∀ l'∈Λ,(⟨l'.s,l'.T,l'.H,none,l'.A,none⟩:Le)∈lesN Λ:=λ l' hl'=>qr.2 ⟨l',hl',rfl⟩;refine ⟨hinv.lo,hinv.defers.grown r2 r3 rfl,by rw [size_put,size_put];exact hinv.size,?_,?_,?_,?_⟩
  ·exact ⟨r2.os.trans hinv.base.os,r2.tape.trans hinv.base.tape,r2.output.trans hinv.base.output,qg hinv.base.size r2.size,λ k hk hf =>
    (r2.block k (qE hk hinv.base.size) (λ e=>by have:=(r3 k e.symm).1;omega)).trans (hinv.base.block k hk hf)⟩
  ·intro y hy;rcases qt.1 hy with rfl|hy
   ·show (OwnB b E m D (l++xs)).p B (((a1.put (some d) v').put (some e) v').eval (.tmp e)) w';rw [aM _ _ _ hesz];exact ⟨qg hbw r2.size,hB,r1⟩
   ·obtain ⟨k,hk1,hk2⟩:=qS.1 hy;have hs:=qf.1 hsrc k hk1;simp only [hk2,qm,qz,qC,qn] at hs;have hout:=hout y.1 hs.2;have g1:y.1≠d:=λ e1=>hout n zo (by unfold Rg.dst;rw [ho1,e1];rfl);have g2:y.1≠e:=λ e1=>hout (n+1) zo (by unfold Rg.dst;rw [ho2,e1];rfl);rw [hother _ g1 g2];exact VA.grown (hinv.g y (qa hk2) (λ q hq hdq=>absurd hdq (hout q hq)) (hcl _)) r2 r3 hB hs.1
  ·intro l' hl';obtain ⟨g1,g2,g3,g4⟩:=hlc l' hl';obtain ⟨g,cs,e1,e2,e3,e4⟩:=hinv.c _ (hcur l' hl') l'.A rfl;refine ⟨g,cs,by rw [hother _ g3 g4];exact e1,e2,?_,As.grown e4 r2 r3 hB g2⟩;rw [r2.block g (Array.getElem?_eq_some_iff.1 e3).1 (λ e5=>by
    obtain ⟨h8,c,fz,e6⟩:=r3 g e5.symm;rcases g1 with g1|g1
    ·rw [e3] at e6;injection e6 with e6;injection e6 with _ e6 _;exact g1 e6
    ·rw [← g1,e1,l'.H.ok] at hg3;injection hg3 with hg3;omega)]
   exact e3
  ·intro l1 hl1 l2 hl2 hne';obtain ⟨_,_,g3,g4⟩:=hlc l1 hl1;obtain ⟨_,_,g5,g6⟩:=hlc l2 hl2;rw [hother _ g3 g4,hother _ g5 g6];exact hinv.x _ (hcur l1 hl1) _ (hcur l2 hl2) hne' G rfl
theorem Cn.introF {f : Ym}{fn : Func}{c : Code}{pre : Yc}{post : VA} (hf : P.funcs[f]? = some fn) (hb : fn.body=some c) (hn : (fn.name == "runtime.NumGoroutine")=false) (hsz : pre.length ≤ fn.ntmps)
  (h:∀ (B:Nat) (w0:Bs) (a:Act),NoF w0→St B w0 fn.ntmps (argΓ pre) [] a w0.w→c.wp P (ce P fn (RQ B w0 post)) a w0.w):Cn P f pre post:=by
 refine ⟨⟨fn,hf,hn,by rw [hb];rfl⟩,λ B w args hB ha=>(cm hf hb (h B ⟨w,λ _=>False,false⟩ _ (λ _ h=>h.elim) ?_)).mono λ _ _ ⟨v,he,hv,hk⟩=>⟨v,he,hv,hk.grow0⟩⟩;have hl:=ha.length;refine ⟨λ g hg=>qg hB (hg.resolve_right λ h=>h),DefOk.nil rfl,?_,Kept.refl _,All2.args ha,(λ l hl=>by cases hl),(λ l hl=>by cases hl)⟩;simp only [xj,z9,qP];omega
theorem aV {B i:Nat}{A:VA}(hF:NoF w0)(hv:A.p B v w0.w)(h:Has R B w0 i x (EqV v)):Has R B w0 i x A:=λ a w av=>by
 have e:a.eval x=v:=h a w av;rw [e];exact A.cg _ _ _ _ (hF.cg av.base) hv
theorem St.eqv {B N:Nat}(h:St B w0 N Γ Λ a w0.w)(k:Nat)(hm:Γ[k]?=some (s,A)):∃ v,A.p B v w0.w∧St B w0 N (Γ.set k (s,EqV v)) Λ a w0.w :=
 ⟨a.eval (.tmp s),h.vals _ (qa hm),h.lo,h.defers,h.size,h.base,λ x hx=>by
  rcases qB hx with hx|rfl
  ·exact h.vals x hx
  ·exact rfl,h.locs,h.dis⟩
theorem FO (h:All2 Free l l'){B B':Nat}(hB:B'≤B):∀ {vs:Yl},All2 (λ (A:VA) x=>A.p B x w) l vs→All2 (λ (A:VA) x=>A.p B' x w) l' vs:=by
 induction h with
 | nil=>intro vs hv;cases hv;exact .nil
 | cons h _ ih=>intro vs hv;cases hv with|cons h1 h2=>exact .cons (h _ _ _ _ hB h1) (ih h2)
theorem pA (h:All2 Free l l'):Free (Tu l) (Tu l'):=λ _ _ _ _ hB ⟨vs,e,hv⟩=>⟨vs,e,FO h hB hv⟩
def CnI (P:Program)(f:FuncId)(pre:List VA)(mk:Nat→VA):Prop :=
 (∃ fn, P.funcs[f]? = some fn∧(fn.name == "runtime.NumGoroutine")=false∧fn.body.isNone=false) ∧
 ∀ (B:Nat) (w:World) (args:List Value),B≤w.heap.size→All2 (λ A v=>A.p B v w) pre args →
  Calls P f args.toArray w λ e w'=>∃ v,e=.returned v∧(mk w.heap.size).p B v w'∧Grow w w'
theorem CnI.introF {f : Ym}{fn : Func}{c : Code}{pre : Yc}{mk : Nat→VA} (hf : P.funcs[f]? = some fn) (hb : fn.body=some c) (hn : (fn.name == "runtime.NumGoroutine")=false) (hsz : pre.length ≤ fn.ntmps)
  (h:∀ (B:Nat) (w0:Bs) (a:Act),(∀ g,¬ w0.F g)→NoF w0→St B w0 fn.ntmps (argΓ pre) [] a w0.w→c.wp P (ce P fn (RQ B w0 (mk w0.w.heap.size))) a w0.w):CnI P f pre mk:=by
 refine ⟨⟨fn,hf,hn,by rw [hb];rfl⟩,λ B w args hB ha=>(cm hf hb (h B ⟨w,λ _=>False,false⟩ _ (λ _ h=>h) (λ _ h=>h.elim) ?_)).mono λ _ _ ⟨v,he,hv,hk⟩=>⟨v,he,hv,hk.grow0⟩⟩;have hl:=ha.length;refine ⟨λ g hg=>qg hB (hg.resolve_right λ h=>h),DefOk.nil rfl,?_,Kept.refl _,All2.args ha,(λ l hl=>by cases hl),(λ l hl=>by cases hl)⟩;simp only [xj,z9,qP];omega
theorem ej {Q:Yd}(h:∀ a w,Q .outgrown a w→False):¬ LetsOut Q:=λ⟨a,w,h'⟩=>h a w h'
def fw (o:Option Nat):Fence:={ fn:=λ _=>True,depth:=none,alive:=false,round:=o }
theorem Gq {o:Yt}{n:Nat}{f:Ym}{args:Array Yn}{R:Ending→Yi→Prop}(h:Calls P f args w R):CallsIn (fw o) n P f args w R:=by
 have h':CallsIn Fence.wide n P f args w R:=callsIn_wide.2 h;cases o with
 | none=>exact h'
 | some l=>exact CallsIn.inRound l h'
theorem fw_steps :StepsIn (Machine.fenced P (fw o)) P m m'↔Steps P m m':=by
 cases o with
 | none=>exact stepsIn_wide
 | some l=>exact stepsIn_wide
theorem J3 {o:Yt}{n:Nat}{row:Yv}{args:Array Yn}{R:Yn→Yi→Prop}(h:Rows P row args w R):RowsIn (fw o) n P row args w R:=λ c cs _=>by
 obtain ⟨v,w',h1,h2⟩:=h c cs;exact ⟨v,w',h1,fw_steps.2 h2⟩
def fM (ops:Array Oper):Bool:=ops.all λ x=>match x.op with | .defer _=>false|_=>true
theorem yE {ops:Yg}(h:fM ops=true){i:Nat}{x:Oper}(hx:ops[i]?=some x):∀ c,x.op≠.defer c:=λ c e=>by
 have:=z6.1 h x (vz hx);rw [e] at this;cases this
theorem gV {o:Yt}{ops:Yg}{Q:Yd}{i:Nat}{K:Ye}(hnd:fM ops=true)(hQ0:¬ LetsOut Q)(h:wpOp P ops Q i K a w):wpOpIn (fw o) 0 P ops Q i K a w:=by
 unfold wpOp at h;unfold wpOpIn;cases ho:ops[i]? with
 | none=>rw [ho] at h;exact h
 | some x =>
  rw [ho] at h;simp only at h ⊢;by_cases hw:Region.wanted x (yielded ops a.tmps)=true
  ·rw [qD hw] at h ⊢;rcases h with h|⟨_,h⟩
   ·refine ⟨λ _ _=>trivial,?_⟩;rw [Oper.semAt_eq _ _ _ (yE hnd ho)];unfold Oper.wp at h;generalize (execOp a.eval x).run P w=r at *;cases r with
    | ok nx w' =>
     cases nx with
     | value v=>exact h
     | skip=>exact h
     | defer d=>exact h
     | enter f args=>exact ⟨λ hh=>(by cases hh),Gq h⟩
     | row r args=>exact ⟨λ hh=>(by cases hh),J3 h⟩
     | _=>exact absurd h (λ h=>h)
    | halt e w'=>cases e <;> exact h
   ·exact absurd h hQ0
  ·rw [qA hw] at h ⊢;exact ⟨λ _ _=>trivial,h⟩
section
variable {P:Program}{R:Rg}{Q:Exit→Act→World→Prop}{B:Nat}{w0:Bs}{a:Act}{w:World}{o:Option Nat}
open Rg in
theorem Rg.linF {id:Nat}(hnd:fM R.ops=true)(hQ0:¬ LetsOut Q)(hanc:R.anc=λ i=>List.range i)(hk:R.chk=true)(h:St B w0 R.N R.Γ Λ a w)(hles:∀ e∈R.les,e.cr=none→(⟨e.s,e.T,e.H,e.A0⟩:Lc)∈Λ)
  (hob:∀ i,i<R.ops.size→R.Ob P Q B w0 i) (hQ:∀ a' w',Fin R B w0 a' w'→Q .normal a' w'):(Code.region id R.ops false).wpIn (fw o) 0 P Q a w:=by
 refine wpIn_region ?_;have key:∀ m k,k+m=R.ops.size→∀ a w,R.Inv B w0 (λ j=>decide (j<k)) a w→wpOpsIn (fw o) 0 P R.ops Q (List.range' k m) a w:=by
  intro m
  induction m with
  | zero =>
   intro k hkm a w hi;have:k=R.ops.size:=by omega
   subst this;exact hQ a w ⟨hi⟩
  | succ m ih =>
   intro k hkm a w hi;rw [List.range'_succ,wpOpsIn_cons];refine gV hnd hQ0 (step hk (hob k zo) hi ?_ (by simp) ?_ _ λ a' w' hi'=>ih (k+1) zo a' w' (hi'.congr λ j=>?_))
   ·intro i hi j hj;rw [hanc] at hj;simp at hi hj ⊢;omega
   ·intro j hj;rw [hanc] at hj;simpa using hj
   ·unfold upd;by_cases h1:j=k
    ·subst h1;simp
    ·have h2:(j==k)=false:=by simpa using h1
     rw [h2,xJ,qW];omega
 rw [List.range_eq_range'];exact key _ 0 zo a w ((start h hles).congr λ j=>by simp)
end
section
variable {P:Program}{R:Rg}{Q:Exit→Act→World→Prop}{B:Nat}{w0:Bs}{a:Act}{w:World}{o:Option Nat}
open Rg in
theorem Rg.drawK {id:Nat}{n m:Nat}(hsz2:R.ops.size=n+m)(hm0:0<m)(hm:P.follows .mixedOrders=true)(hanc:ancOk R=true)(hk:R.chk=true)(h:St B w0 R.N R.Γ Λ a w)(hles:∀ e∈R.les,e.cr=none→(⟨e.s,e.T,e.H,e.A0⟩:Lc)∈Λ)
  (hob:∀ i,i<n→R.Ob P Q B w0 i) (ha1:∀ i,n≤i→i<n+m→∀ j,j<i→(R.anc i).contains j=true)
  (hQ:∀ a w,R.Inv B w0 (λ k=>decide (k<n)) a w→wpOps P R.ops Q (List.range' n m) a w) :
  (Code.region id R.ops true).wp P Q a w:=by
 refine wp_region_any hm ?_;have ho:∀ i,i<R.ops.size→∃ o:Oper,R.ops[i]?=some o∧(∀ j,(R.anc i).contains j=true→∃ e∈o.after,Region.binds .any e=true∧(e.on=j∨(R.anc e.on).contains j=true)) ∧
   ∀ e∈o.after,Region.binds .any e=true→e.on<i:=by
  intro i hi;have:=qf.1 hanc i (by simpa using hi);cases hoi:R.ops[i]? with
  | none=>rw [hoi] at this;cases this
  | some o =>
   rw [hoi] at this;simp only [qm] at this;refine ⟨o,rfl,λ j hj=>?_,λ e he hb=>?_⟩
   ·have hh:=qf.1 this.1 j (by simpa using hj);obtain ⟨e,he,h1⟩:=jV.1 hh;simp only [qm,z4,xw] at h1;exact ⟨e,he,h1.1,h1.2⟩
   ·have hh:=z6.1 this.2 e he;simpa [hb] using hh
 have hrd:∀ (listed:Array Bool) i,i∈Region.ready .any R.ops listed→i<R.ops.size∧listed.getD i true=false∧∀ o,R.ops[i]?=some o→∀ e∈o.after,Region.binds .any e=true→listed.getD e.on false=true:=by
  intro listed i hi;unfold Region.ready at hi;obtain ⟨h1,h2⟩:=z5.1 hi;simp only [qm,qz] at h2;refine ⟨by simpa using h1,h2.1,λ o hoi e he hb=>?_⟩;have h3:=h2.2;rw [hoi] at h3;simp only [qU,xy] at h3;have:=z6.1 h3 e he;simpa [hb] using this
 have hset:∀ (listed:Array Bool) (i k:Nat),listed.size=R.ops.size→i<R.ops.size→(listed.setIfInBounds i true).getD k false=upd (λ i=>listed.getD i false) i k:=by
  intro listed i k hsz hi;unfold upd;by_cases hki:k=i
  ·subst hki;simp [hsz,hi]
  ·simp [hki,Array.getElem?_setIfInBounds_ne (λ e=>hki e.symm)]
 have hpos:∀ (listed:Array Bool) (i:Nat),i<R.ops.size→listed.getD i false=false→0<(List.range R.ops.size).countP (λ k => !listed.getD k false):=λ listed i hi hl =>
  jJ.2 ⟨i,by simpa using hi,by simp only [hl];rfl⟩
 have hlt:∀ (listed:Array Bool) (i:Nat),listed.size=R.ops.size→i<R.ops.size→listed.getD i false=false→(List.range R.ops.size).countP (λ k => !(listed.setIfInBounds i true).getD k false)<(List.range R.ops.size).countP (λ k => !listed.getD k false):=by
  intro listed i hsz hi hLi;refine eR (x:=i) (λ x hx=>?_) (by simpa using hi) (by rw [hLi];rfl) (by rw [hset listed i i hsz hi,ci];rfl);have hx':upd (λ i=>listed.getD i false) i x=false:=by
   rw [← hset listed i x hsz hi];simpa only [qz] using hx
  rw [(dK hx').2]
  rfl
 have hfull:∀ (listed:Array Bool),listed.size=R.ops.size→Region.ready .any R.ops listed=[]→∀ k,k<R.ops.size→listed.getD k false=true:=by
  intro listed hsz hr k
  induction k using Nat.strongRecOn with
  | _ k ih =>
   intro hkn;cases hl:listed.getD k false with
   | true=>rfl
   | false =>
    exfalso;obtain ⟨x,ho1,_,ho3⟩:=ho k hkn;have:k∈Region.ready .any R.ops listed:=by
     unfold Region.ready;refine z5.2 ⟨by simpa using hkn,?_⟩;have h0:listed.getD k true=false:=by
      simp only [Array.getD,hsz,hkn,dite_true] at hl ⊢;exact hl
     rw [h0,ho1];simp only [jU,kt,qU,xy];refine z6.2 λ e he=>?_;cases hb:Region.binds .any e with
     | false=>rfl
     | true=>simpa using ih e.on (ho3 e he hb) (zF (ho3 e he hb) hkn)
    rw [hr] at this;cases this
 have hancL:∀ (listed:Array Bool) i,cG R (λ i=>listed.getD i false)→i∈Region.ready .any R.ops listed→∀ j,(R.anc i).contains j=true→listed.getD j false=true:=by
  intro listed i hcl hir j hj;obtain ⟨h1,h2,h3⟩:=hrd listed i hir;obtain ⟨x,ho1,ho2,_⟩:=ho i h1;obtain ⟨e,he,hb,hj'⟩:=ho2 j hj;have hl:=h3 x ho1 e he hb;rcases hj' with rfl|hj'
  ·exact hl
  ·exact hcl e.on hl j hj'
 have hclN:∀ (listed:Array Bool) i,listed.size=R.ops.size→cG R (λ i=>listed.getD i false)→i∈Region.ready .any R.ops listed→cG R (λ k=>(listed.setIfInBounds i true).getD k false):=by
  intro listed i hsz hcl hir k hk' j hj;obtain ⟨h1,_,_⟩:=hrd listed i hir;have hk2:upd (λ i=>listed.getD i false) i k=true:=by rw [← hset listed i k hsz h1];exact hk'
  show (listed.setIfInBounds i true).getD j false=true;rw [hset listed i j hsz h1];rcases rG hk2 with rfl|h4
  ·exact cX _ (hancL listed k hcl hir j hj)
  ·exact cX _ (hcl k h4 j hj)
 have tail:∀ q k,k+q=n+m→n≤k→∀ fuel (listed:Array Bool) a w,listed.size=R.ops.size→(List.range R.ops.size).countP (λ i => !listed.getD i false)≤fuel→cG R (λ i=>listed.getD i false) →
   (∀ j,j<k→listed.getD j false=true)→(∀ j,k≤j→j<n+m→listed.getD j false=false)→wpOps P R.ops Q (List.range' k q) a w→wpAny P .any R.ops Q fuel listed a w:=by
  intro q
  induction q with
  | zero =>
   intro k hkq hnk fuel listed a w hsz hcnt hcl hall _ hwp;have hr:Region.ready .any R.ops listed=[]:=by
    cases hrr:Region.ready .any R.ops listed with
    | nil=>rfl
    | cons i rest =>
     obtain ⟨h1,h2,_⟩:=hrd listed i (by rw [hrr];simp);have:=hall i zo;simp only [Array.getD,hsz,h1,dite_true] at h2 this;rw [h2] at this;cases this
   cases fuel with
   | zero=>exact ⟨hr,hwp⟩
   | succ fuel=>exact ⟨λ _=>hwp,λ i hir=>by rw [hr] at hir;cases hir⟩
  | succ q ih =>
   intro k hkq hnk fuel listed a w hsz hcnt hcl hall hnone hwp;have hLk:listed.getD k false=false:=hnone k (qj _) zo;have hp:=hpos listed k zo hLk;cases fuel with
   | zero=>omega
   | succ fuel =>
    refine ⟨λ hr=>absurd (hfull listed hsz hr k zo) (by rw [hLk];decide),λ i hir=>?_⟩;obtain ⟨h1,h2,h3⟩:=hrd listed i hir;have hik:i=k:=by
     by_cases e:i=k
     ·exact e
     ·exfalso;by_cases hlt':i<k
      ·have:=hall i hlt';simp only [Array.getD,hsz,h1,dite_true] at h2 this;rw [h2] at this;cases this
      ·have:=hancL listed i hcl hir k (ha1 i zo zo k zo);rw [hLk] at this;cases this
    subst hik;rw [List.range'_succ,qy] at hwp;refine wpOp_mono (λ a' w' hr=>ih (i+1) zo zo fuel _ a' w' (by simpa using hsz) ?_ (hclN listed i hsz hcl hir) (λ j hj=>?_) (λ j hj hj2=>?_) hr) hwp
    ·have:=hlt listed i hsz h1 hLk;omega
    ·rw [hset listed i j hsz h1];by_cases e:j=i
     ·rw [e];exact ci _ _
     ·exact cX _ (hall j zo)
    ·rw [hset listed i j hsz h1,d9 _ zo];exact hnone j zo hj2
 have key:∀ fuel (listed:Array Bool) a w,listed.size=R.ops.size→(List.range R.ops.size).countP (λ i => !listed.getD i false)≤fuel→cG R (λ i=>listed.getD i false) →
   (∀ j,n≤j→j<n+m→listed.getD j false=false)→R.Inv B w0 (λ i=>listed.getD i false) a w→wpAny P .any R.ops Q fuel listed a w:=by
  intro fuel
  induction fuel with
  | zero =>
   intro listed a w hsz hcnt hcl hn0 hi;have:=hpos listed n zo (hn0 n (qj _) zo);omega
  | succ fuel ih =>
   intro listed a w hsz hcnt hcl hn0 hi;have hn00:=hn0 n (qj _) zo;by_cases hdone:∀ j,j<n→listed.getD j false=true
   ·refine tail m n G (qj _) (fuel+1) listed a w hsz hcnt hcl hdone hn0 (hQ a w (hi.congr λ k=>?_));by_cases hkn:k<n
    ·rw [hdone k hkn];simp [hkn]
    ·by_cases hkm:k<n+m
     ·rw [hn0 k zo hkm];simp [hkn]
     ·have:listed.getD k false=false:=by simp [Array.getD,hsz,hsz2,hkm]
      rw [this];simp [hkn]
   ·refine ⟨λ hr=>absurd (hfull listed hsz hr n zo) (by rw [hn00];decide),λ i hir=>?_⟩;obtain ⟨h1,h2,h3⟩:=hrd listed i hir;have hin:i<n:=by
     by_cases e:i<n
     ·exact e
     ·exact absurd (λ j hj=>hancL listed i hcl hir j (ha1 i zo zo j zo)) hdone
    have hLi:listed.getD i false=false:=by
     simp only [Array.getD,hsz,h1,dite_true] at h2 ⊢;exact h2
    refine step hk (hob i hin) hi hcl hLi (hancL listed i hcl hir) _ λ a' w' hi'=>ih _ _ _ (by simpa using hsz) ?_ (hclN listed i hsz hcl hir) ?_ (hi'.congr λ k=>hset listed i k hsz h1)
    ·have:=hlt listed i hsz h1 hLi;omega
    ·intro j hj hj2;rw [hset listed i j hsz h1,d9 _ zo];exact hn0 j hj hj2
 refine key _ _ a _ (by simp) ?_ ?_ ?_ ?_
 ·refine qg (jA) (by simp)
 ·intro i hi;exfalso;simp only [Array.getD,qP] at hi;split at hi <;> simp at hi
 ·intro j hj hj2;simp only [Array.getD,qP];split <;> simp
 ·have hs:=start h hles;have hd:R.Inv B w0 (λ _=>false) a w.drew:=⟨hs.lo,hs.defers.grow (Grow.drew w) rfl,hs.size,hs.base.drew,λ x hx h1 h2=>x.2.grow _ _ _ _ (Grow.drew w) (hs.g x hx h1 h2),(λ i y d A _ _ hf=>by cases hf),(λ i d b k c _ hf=>by cases hf),
   λ e he A hA=>(hs.c e he A hA).grow (Grow.drew w),hs.x⟩
  refine Inv.congr hd λ k=>?_;simp only [Array.getD,qP];split <;> simp
open Rg in
theorem Rg.linKF {id:Nat}{n m:Nat}(hnd:fM R.ops=true)(hQ0:¬ LetsOut Q)(hsz:R.ops.size=n+m)(hanc:R.anc=λ i=>List.range i)(hk:R.chk=true)(h:St B w0 R.N R.Γ Λ a w)(hles:∀ e∈R.les,e.cr=none→(⟨e.s,e.T,e.H,e.A0⟩:Lc)∈Λ)
  (hob:∀ i,i<n→R.Ob P Q B w0 i) (hQ:∀ a w,R.Inv B w0 (λ k=>decide (k<n)) a w→wpOpsIn (fw o) 0 P R.ops Q (List.range' n m) a w):(Code.region id R.ops false).wpIn (fw o) 0 P Q a w:=by
 refine wpIn_region ?_;have key:∀ q k,k+q=n→∀ a w,R.Inv B w0 (λ j=>decide (j<k)) a w→wpOpsIn (fw o) 0 P R.ops Q (List.range' k (q+m)) a w:=by
  intro q
  induction q with
  | zero =>
   intro k hkm a w hi;have:k=n:=by omega
   subst this;rw [qV];exact hQ a w hi
  | succ q ih =>
   intro k hkm a w hi;rw [show q+1+m=(q+m)+1 by omega,List.range'_succ,wpOpsIn_cons];refine gV hnd hQ0 (step hk (hob k zo) hi ?_ (by simp) ?_ _ λ a' w' hi'=>ih (k+1) zo a' w' (hi'.congr λ j=>?_))
   ·intro i hi j hj;rw [hanc] at hj;simp at hi hj ⊢;omega
   ·intro j hj;rw [hanc] at hj;simpa using hj
   ·unfold upd;by_cases h1:j=k
    ·subst h1;simp
    ·have h2:(j==k)=false:=by simpa using h1
     rw [h2,xJ,qW];omega
 rw [List.range_eq_range',hsz];exact key n 0 zo a w ((start h hles).congr λ j=>by simp)
end
section
variable {P:Program}{Q:Exit→Act→World→Prop}{B N:Nat}{w0:Bs}{Γ:List (Nat × VA)}{Λ:List Lc}{a:Act}{w:World}
theorem eH {o:Yt}{id:Nat}{ops:Yg}{sts:List (Option (Nat × As))}{news:List Le}{sp:Yu}(src:List Src)(hnd:fM ops=true)(hQ0:¬ LetsOut Q)(h:St B w0 N Γ Λ a w)
  (hob:Obs P Q ⟨ops,N,Γ,bD Λ sts news,sp,λ i=>List.range i⟩ B w0 0 ops.size)
  (hn:news.all (λ e=>e.cr.isSome)=true) (hk:Rg.chk ⟨ops,N,Γ,bD Λ sts news,sp,λ i=>List.range i⟩=true) (hsrc:src.all (okS ⟨ops,N,Γ,bD Λ sts news,sp,λ i=>List.range i⟩)=true)
  (hQ:∀ a w,St B w0 N (src.filterMap (cC ⟨ops,N,Γ,bD Λ sts news,sp,λ i=>List.range i⟩)) ((bD Λ sts news).map λ e=>⟨e.s,e.T,e.H,Rg.last e⟩) a w→Q .normal a w):(Code.region id ops false).wpIn (fw o) 0 P Q a w :=
 Rg.linF (R:=⟨ops,N,Γ,bD Λ sts news,sp,λ i=>List.range i⟩) hnd hQ0 rfl hk h (iz hn) (λ i hi=>hob.all i zo (by simpa using hi)) λ a' w' hf=>hQ a' w' (fp hk hf src hsrc)
theorem Gg {x y:Code}(h:St B w0 N Γ Λ a w)(hm:(t,Bo b)∈Γ)(ht:b=true→x.wpIn (fw o) 0 P Q a w)(hf:b=false→y.wpIn (fw o) 0 P Q a w):(Code.cond (.tmp t) x y).wpIn (fw o) 0 P Q a w :=
 wpIn_cond_split (dS (h.vals _ hm)) ht hf
theorem ly {o:Yt}{t:Nat}{b:Bool}{x y:Code}(J:Ye)(h:St B w0 N Γ Λ a w)(hm:(t,Bo b)∈Γ)
  (ht:b=true→x.wpIn (fw o) 0 P (Exit.then J Q) a w) (hf:b=false→y.wpIn (fw o) 0 P (Exit.then J Q) a w) (hk:∀ a w,J a w→Q .normal a w):(Code.cond (.tmp t) x y).wpIn (fw o) 0 P Q a w:=by
 have hJ:∀ {z:Code},z.wpIn (fw o) 0 P (Exit.then J Q) a w→z.wpIn (fw o) 0 P Q a w:=λ hz=>wpIn_mono hz λ e a' w' hq=>by
  cases e with
  | normal=>exact hk a' w' hq
  | _=>exact hq
 exact Gg h hm (λ hb=>hJ (ht hb)) (λ hb=>hJ (hf hb))
end
theorem Cn.introR {f : Ym}{fn : Func}{c : Code}{pre pre' : Yc}{post post0 : VA} (hf : P.funcs[f]? = some fn) (hb : fn.body=some c) (hn : (fn.name == "runtime.NumGoroutine")=false) (hsz : pre.length ≤ fn.ntmps)
  (hup:All2 Up pre pre') (hfree:Free post0 post)
  (h:∀ (B:Nat) (w0:Bs) (a:Act),B=w0.w.heap.size→w0.nd=false→St B w0 fn.ntmps (argΓ pre') [] a w0.w→c.wp P (ce P fn (RQ B w0 post0)) a w0.w):Cn P f pre post:=by
 refine ⟨⟨fn,hf,hn,by rw [hb];rfl⟩,λ B w args hB ha=>(cm hf hb (h w.heap.size ⟨w,λ _=>False,false⟩ _ G G ?_)).mono λ _ _ ⟨v,he,hv,hk⟩=>⟨v,he,hfree _ _ _ _ hB hv,hk.grow0⟩⟩;have hl:=ha.length;have hl2:=hup.length;have ha':All2 (λ (A:VA) v=>A.p w.heap.size v w) pre' args:=E4 hup B w hB ha;refine ⟨λ g hg=>hg.resolve_right λ h=>h,DefOk.nil rfl,?_,Kept.refl _,All2.args ha',(λ l hl=>by cases hl),(λ l hl=>by cases hl)⟩;simp only [xj,z9,qP];omega
theorem VA.many {A:VA}{B:Nat}{v:Yn}{w':Yi}:∀ (gs:Ya) {w:Yi},A.p B v w→w'.os=w.os→w'.tape=w.tape→w'.output=w.output→w.heap.size≤w'.heap.size→(∀ k c T fz,w.heap[k]?=some (.cells c T fz)→k ∉ gs→w'.heap[k]?=w.heap[k]?)→(∀ g∈gs,B≤g∧∃ c T fz,w.heap[g]?=some (.cells c T fz)∧T ∉ A.deps)→A.p B v w'
 | [],w,hp,h1,h2,h3,h4,h5,_=>A.cg _ _ _ _ ⟨h4,λ g c T fz hg=>(h5 g c T fz hg (by simp)).trans hg⟩ hp
 | g::gs,w,hp,h1,h2,h3,h4,h5,h6=>by
  by_cases hg:g∈gs
  ·exact VA.many gs hp h1 h2 h3 h4 (λ k c T fz hk hn=>h5 k c T fz hk (by simp only [qt,not_or];exact ⟨λ e=>hn (by rw [e];exact hg),hn⟩)) (λ g' hg'=>h6 g' (zx _ hg'))
  ·obtain ⟨hB,c,T,fz,hc,hT⟩:=h6 g xx;have hlt:g<w.heap.size:=(Array.getElem?_eq_some_iff.1 hc).1;have hx:w'.heap[g]?=some (w'.heap[g]'zo):=Array.getElem?_eq_getElem _;generalize w'.heap[g]'zo=x at hx;have hwr:Wr g w { w with heap:=w.heap.setIfInBounds g x }:=⟨rfl,rfl,rfl,by simp,λ k hk=>by
    show (w.heap.setIfInBounds g x)[k]?=_;rw [Array.getElem?_setIfInBounds_ne (λ e=>hk e.symm)]⟩
   have hsz:(w.heap.setIfInBounds g x).size=w.heap.size:=by simp
   refine VA.many gs (w:={ w with heap:=w.heap.setIfInBounds g x }) (A.wr _ _ _ _ _ _ _ _ hc hT hB hwr hp) h1 h2 h3 (by rw [hsz];exact h4) (λ k c' T' fz' hk hn=>?_) (λ g' hg'=>?_)
   ·show _=(w.heap.setIfInBounds g x)[k]?
    replace hk:(w.heap.setIfInBounds g x)[k]?=some (.cells c' T' fz'):=hk
    by_cases e:k=g
    ·subst e;rw [Array.getElem?_setIfInBounds_self_of_lt hlt];exact hx
    ·rw [Array.getElem?_setIfInBounds_ne (λ e'=>e e'.symm)] at hk ⊢;exact h5 k c' T' fz' hk (by simp only [qt,not_or];exact ⟨e,hn⟩)
   ·obtain ⟨hB',c',T',fz',hc',hT'⟩:=h6 g' (zx _ hg');refine ⟨hB',c',T',fz',?_,hT'⟩;show (w.heap.setIfInBounds g x)[g']?=_;rw [Array.getElem?_setIfInBounds_ne (show g≠g' from λ e=>hg (by rw [e];exact hg'))];exact hc'
def rndB (b:Nat)(D:List TypeId)(gs:List Nat)(Ws W:World):Bs:=⟨W,λ k=>b≤k∧(Ws.heap.size≤k∨(k ∉ gs∧∃ c T fz,Ws.heap[k]?=some (.cells c T fz)∧T∈D)),false⟩
abbrev Stp (b:Nat)(D:List TypeId)(gs:List Nat)(W W':World):Prop:=Kept (rndB b D gs W W) W'
theorem Stp.noncell {b:Nat}{gs:Ya}{W W':Yi}(h:Stp b D gs W W'){k:Nat}{o:Obj}(hk:W.heap[k]?=some o)(ho:o.isCells=false):W'.heap[k]?=some o :=
 (h.block k (Array.getElem?_eq_some_iff.1 hk).1 (λ hF=>by
  rcases hF.2 with h1|⟨_,c,T,fz,hc,_⟩
  ·have:=(Array.getElem?_eq_some_iff.1 hk).1;omega
  ·have hc':W.heap[k]?=_:=hc;rw [hc'] at hk;injection hk with hk;subst hk;cases ho)).trans hk
theorem Stp.held {b:Nat}{gs:Ya}{W W':Yi}(h:Stp b D gs W W'){k:Nat}{o:Obj}(hk:W.heap[k]?=some o)(hg:k∈gs):W'.heap[k]?=some o :=
 (h.block k (Array.getElem?_eq_some_iff.1 hk).1 (λ hF=>by
  rcases hF.2 with h1|⟨h1,_⟩
  ·have:=(Array.getElem?_eq_some_iff.1 hk).1;omega
  ·exact h1 hg)).trans hk
theorem VA.stp {A:VA}{B b:Nat}{W W':Yi}{gs:Ya}(hp:A.p B v W)(h:Stp b D gs W W')(hb:B≤b)(hD:∀ T∈D,T ∉ A.deps):A.p B v W':=by
 refine VA.many ((List.range W.heap.size).filter λ k=>match W.heap[k]? with|some (.cells _ T _)=>D.contains T&&decide (b≤k) | _=>false) hp h.os h.tape h.output h.size (λ k c T fz hk hn=>?_) (λ g hg=>?_)
 ·refine h.block k (Array.getElem?_eq_some_iff.1 hk).1 λ hF=>hn (z5.2 ⟨by simpa using (Array.getElem?_eq_some_iff.1 hk).1,?_⟩);rcases hF.2 with h1|⟨_,c',T',fz',hc,hD'⟩
  ·have:=(Array.getElem?_eq_some_iff.1 hk).1;omega
  ·have hc':W.heap[k]?=_:=hc;rw [hc'] at hk;injection hk with hk;injection hk with _ hk _;subst hk;rw [hc'];simp only [qm,qC,qJ];exact ⟨hD',hF.1⟩
 ·obtain ⟨_,h2⟩:=z5.1 hg;split at h2
  ·rename_i c T fz hc;simp only [qm,qC,qJ] at h2;exact ⟨qg hb h2.2,c,T,fz,hc,hD T h2.1⟩
  ·cases h2
def As.vaC (A:As)(cs:List Value):VA where
 p B _ w:=A.p B cs w
 deps:=A.deps
 cg:=λ B _ w w' h hp=>A.cg B cs w w' h hp
 wr:=λ B _ w w' g c T fz h1 h2 h3 h4 hp=>A.wr B cs w w' g c T fz h1 h2 h3 h4 hp
theorem As.stp {A:As}{B b:Nat}{cs:Yl}{D:Yp}{gs:Ya}{W W':Yi}(hp:A.p B cs W)(h:Stp b D gs W W')(hb:B≤b)(hD:∀ T∈D,T ∉ A.deps):A.p B cs W':=VA.stp (A:=As.vaC A cs) (v:=undef) hp h hb hD
def offD (D:List TypeId)(deps:List TypeId):Bool:=deps.all λ T => !D.contains T
theorem fL {D deps:Yp}(h:offD D deps=true):∀ T∈D,T ∉ deps:=λ T hT hd=>by
 have:=qf.1 h T hd;simp only [qz,qC,qn] at this;exact this hT
def CellsT (Tc:List TypeId)(gs:List Nat)(W:World):Prop:=∀ g∈gs,∃ c T fz,W.heap[g]?=some (.cells c T fz)∧T∈Tc
abbrev StpI (gs:List Nat)(W W':World):Prop:=Kept ⟨W,λ k=>k∈gs,true⟩ W'
theorem VA.stpI {A:VA}{gs:Ya}{Tc:Yp}{W W':Yi}(hp:A.p B v W)(h:StpI gs W W')(hc:CellsT Tc gs W)(hb:∀ g∈gs,B≤g)(hD:∀ T∈Tc,T ∉ A.deps):A.p B v W' :=
 VA.many gs hp h.os h.tape h.output h.size (λ k c T fz hk hn=>h.block k (Array.getElem?_eq_some_iff.1 hk).1 hn) λ g hg=>by
  obtain ⟨c,T,fz,h1,h2⟩:=hc g hg;exact ⟨hb g hg,c,T,fz,h1,hD T h2⟩
theorem As.stpI {A:As}{B:Nat}{cs:Yl}{gs:Ya}{Tc:Yp}{W W':Yi}(hp:A.p B cs W)(h:StpI gs W W')(hc:CellsT Tc gs W)(hb:∀ g∈gs,B≤g)(hD:∀ T∈Tc,T ∉ A.deps):A.p B cs W':=VA.stpI (A:=As.vaC A cs) (v:=undef) hp h hc hb hD
theorem StpI.noncell {gs:Ya}{Tc:Yp}{W W':Yi}(h:StpI gs W W')(hc:CellsT Tc gs W){k:Nat}{o:Obj}(hk:W.heap[k]?=some o)(ho:o.isCells=false):W'.heap[k]?=some o :=
 (h.block k (Array.getElem?_eq_some_iff.1 hk).1 (λ hF=>by
  obtain ⟨c,T,fz,h1,_⟩:=hc k hF;rw [h1] at hk;injection hk with hk;subst hk;cases ho)).trans hk
theorem St.stpI {B N:Nat}{w0:Bs}{Γ:Yf}{Λ:List Lc}{a:Act}{W W':Yi}{gs:Ya}{Tc:Yp}(h:St B w0 N Γ Λ a W)(hB:B=w0.w.heap.size)(hs:StpI gs W W')(hc:CellsT Tc gs W)(hb:∀ g∈gs,B≤g)(hΓ:Γ.all (λ x=>offD Tc x.2.deps)=true)(hΛ:Λ.all (λ l=>offD Tc l.A.deps)=true)
  (hdis:∀ l∈Λ,∀ g,blk (a.eval (.tmp l.s))=some g→g ∉ gs):St B w0 N Γ Λ a W':=by
 refine ⟨h.lo,h.defers.keep rfl λ Dm hD=>hs.noncell hc hD rfl,h.size,⟨hs.os.trans h.base.os,hs.tape.trans h.base.tape,hs.output.trans h.base.output,qg h.base.size hs.size,λ k hk hf=>(hs.block k (qE hk h.base.size) (λ hF=>by have:=hb k hF;omega)).trans (h.base.block k hk hf)⟩,
  λ x hx=>VA.stpI (h.vals x hx) hs hc hb (fL (qf.1 hΓ x hx)),λ l hl=>?_,h.dis⟩
 obtain ⟨g,cs,e1,e2,e3,e4⟩:=h.locs l hl;exact ⟨g,cs,e1,e2,(hs.block g (Array.getElem?_eq_some_iff.1 e3).1 (hdis l hl g (by rw [e1];exact l.H.ok g))).trans e3,As.stpI e4 hs hc hb (fL (qf.1 hΛ l hl))⟩
theorem St.put {B N:Nat}(h:St B w0 N Γ Λ a W)(hr:W.heap[r]?=some o)(ho:o.isCells=false)(hd:o≠.deferred (some []))(hge:w0.w.heap.size≤r):St B w0 N Γ Λ a (W.putObj r o'):=by
 have hc:Cg W (W.putObj r o'):=⟨by simp,λ g c T fz hg=>(World.putObj_heap_other (λ e=>by subst e;rw [hg] at hr;injection hr with hr;subst hr;cases ho)).trans hg⟩;refine ⟨h.lo,h.defers.keep rfl λ Dm hD=>(World.putObj_heap_other (λ e=>by subst e;rw [hD] at hr;injection hr with hr;exact hd hr.symm)).trans hD,h.size,⟨h.base.os,h.base.tape,h.base.output,by simpa using h.base.size,λ k hk hf=>(World.putObj_heap_other zo).trans (h.base.block k hk hf)⟩,
  λ x hx=>x.2.cg _ _ _ _ hc (h.vals x hx),λ l hl=>?_,h.dis⟩
 obtain ⟨g,cs,e1,e2,e3,e4⟩:=h.locs l hl;exact ⟨g,cs,e1,e2,hc.heap e3,l.A.cg _ _ _ _ hc e4⟩
def oj (B:Nat)(w:World)(caps:List (TypeId × As))(gs:List Nat):Prop:=All2 (λ (c:TypeId × As) (g:Nat)=>B≤g∧∃ cs,w.heap[g]?=some (.cells (List.toArray cs) c.1 (0,0))∧c.2.p B cs w) caps gs
structure ItH (P:Program) (l B:Nat) (Db Tc:List TypeId) (gs:List Nat) (Y:Nat→List VA) (inf:Bool) (M:Nat) (J:Nat→World→Prop) (Jx:World→Prop):Prop where
 inf':inf=true→∀ W,¬ J M W
 st:∀ k W W',J k W→StpI gs W W'→CellsT Tc gs W'→J k W'
 stx:∀ W W',Jx W→StpI gs W W'→CellsT Tc gs W'→Jx W'
 ct:∀ k W,J k W→CellsT Tc gs W
 ctx:∀ W,Jx W→CellsT Tc gs W
 yd:∀ k W args,k<M→J k W→All2 (λ (A:VA) v=>A.p B v W) (Y k) args→YieldAt Fence.wide 0 P l args.toArray W λ e W'=>(e=.returned (.bool true)∧J (k+1) W'∧Stp B Db gs W W') ∨
  (e=.returned (.bool false)∧Jx W'∧W.heap.size≤W'.heap.size∧∀ D:Nat,W.heap[D]?=some (.deferred (some []))→W'.heap[D]?=some (.deferred (some [])))
def ItCg (P:Program)(f:FuncId)(caps:List (TypeId × As))(gs:List Nat)(Y:Nat→List VA)(inf:Bool)(M:Nat)(Dd:List TypeId):Prop :=
 (∃ fn, P.funcs[f]? = some fn∧(fn.name == "runtime.NumGoroutine")=false∧fn.body.isNone=false) ∧
 ∀ (l B:Nat) (w:World) (Db:List TypeId) (J:Nat→World→Prop) (Jx:World→Prop),B≤w.heap.size→gs.Nodup→oj B w caps gs→offD Db Dd=true→ItH P l B Db (caps.map xe) gs Y inf M J Jx→J 0 w →
  Calls P f (.func (.yield l) #[] #[]::gs.map ptr).toArray w λ e W'=>∃ v,e=.returned v∧(J M W'∨Jx W')
theorem eT {caps:List (Yh × As)}{gs:Ya}(h:oj B w caps gs):CellsT (caps.map xe) gs w∧∀ g∈gs,B≤g:=by
 induction h with
 | nil=>exact ⟨(λ _ h=>by cases h),(λ _ h=>by cases h)⟩
 | @cons c g cs gs hh _ ih =>
  obtain ⟨hB,ds,h1,_⟩:=hh;refine ⟨λ g' hg=>?_,λ g' hg=>?_⟩
  ·rcases qt.1 hg with rfl|hg
   ·exact ⟨_,_,_,h1,by simp⟩
   ·obtain ⟨c',T,fz,h2,h3⟩:=ih.1 g' hg;exact ⟨c',T,fz,h2,by simp only [qT,qt];exact .inr h3⟩
  ·rcases qt.1 hg with rfl|hg
   ·exact hB
   ·exact ih.2 g' hg
def ItV (f:FuncId)(caps:List (TypeId × As))(gs:List Nat):VA where
 p B v w:=v=.func (.func f) #[] (gs.map ptr).toArray∧gs.Nodup∧oj B w caps gs
 deps:=caps.map xe++caps.flatMap (·.2.deps)
 cg:=by
  rintro B v w w' hg ⟨e,h1,h2⟩;exact ⟨e,h1,h2.mono λ c g ⟨h3,cs,h4,h5⟩=>⟨h3,cs,hg.heap h4,c.2.cg _ _ _ _ hg h5⟩⟩
 wr:=by
  rintro B v w w' g c T fz h1 hT h3 h4 ⟨e,hn,h⟩;refine ⟨e,hn,?_⟩;clear e hn
  induction h with
  | nil=>exact .nil
  | @cons x y xs ys hh _ ih =>
   simp only [qT,xi,qp,qt,not_or] at hT;obtain ⟨hB,cs,h5,h6⟩:=hh;refine .cons ⟨hB,cs,?_,x.2.wr _ _ _ _ _ _ _ _ h1 hT.2.1 h3 h4 h6⟩ (ih ?_)
   ·rw [h4.block y (λ e=>by subst e;rw [h1] at h5;injection h5 with h5;injection h5 with _ h5 _;exact hT.1.1 h5)];exact h5
   ·simp only [qp,not_or];exact ⟨hT.1.2,hT.2.2⟩
def REnd (B N:Nat)(w1:Bs)(a:Act)(Λ:List Lc)(a':Act)(W:World):Prop:=∃ Γ,St B w1 N Γ Λ a' W∧∀ l∈Λ,a'.eval (.tmp l.s)=a.eval (.tmp l.s)
def PN (B N:Nat)(w1:Bs)(a:Act)(c:Prop)(Λn:List Lc)(Λr:Option (List Lc))(Λx:Nat→Option (List Lc)):Exit→Act→World→Prop
 | .normal,a',W=>c∧REnd B N w1 a Λn a' W
 | .ret,a',W=>∃ Λ,Λr=some Λ∧REnd B N w1 a Λ a' W
 | .exit id,a',W=>∃ Λ,Λx id=some Λ∧REnd B N w1 a Λ a' W
 | _,_,_=>False
def Bg (l:Nat)(W W':World):Prop:=∃ r r':Loop,W.heap[l]?=some (.loop r)∧W'=W.putObj l (.loop r')
theorem Cq {W:Yi}(hr:W.heap[l]?=some (.loop r))(o:Obj):Cg W (W.putObj l o):=⟨by simp,λ g c T fz hg=>(World.putObj_heap_other (λ e=>by subst e;rw [hg] at hr;cases hr)).trans hg⟩
theorem St.begin {B N:Nat}{gs:Ya}{Ws W0:Yi}{W W':Yi}{l:Nat}(h:St B (rndB B D gs Ws W0) N Γ Λ a W)(hs:Ws.heap.size≤W0.heap.size)(hlo:B≤Ws.heap.size)(hb:Bg l W W'):St B (rndB B D gs Ws W') N Γ Λ a W':=by
 obtain ⟨r,r',hr,rfl⟩:=hb;have hc:=Cq hr (.loop r');have hmay:∀ g,(rndB B D gs Ws W0).may g→(rndB B D gs Ws (W.putObj l (.loop r'))).may g:=λ g hg=>by
  rcases hg with hg|hg
  ·have hg':W0.heap.size≤g:=hg;exact .inr ⟨by omega,.inl zo⟩
  ·exact .inr hg
 refine ⟨λ g hg=>?_,⟨λ d hd=>?_,h.defers.nodup,λ hn=>by cases hn⟩,h.size,Kept.refl _,λ x hx=>x.2.cg _ _ _ _ hc (h.vals x hx),λ m hm=>?_,h.dis⟩
 ·rcases hg with hg|hg
  ·have h1:W0.heap.size≤W.heap.size:=h.base.size;have h2:(W.putObj l (.loop r')).heap.size≤g:=hg;simp only [World.putObj_size] at h2;omega
  ·exact hg.1
 ·obtain ⟨Dm,e1,e2,e3⟩:=h.defers.all d hd;exact ⟨Dm,e1,hmay Dm e2,(World.putObj_heap_other (λ e=>by subst e;rw [hr] at e3;cases e3)).trans e3⟩
 ·obtain ⟨g,cs,e1,e2,e3,e4⟩:=h.locs m hm;exact ⟨g,cs,e1,hmay g e2,hc.heap e3,m.A.cg _ _ _ _ hc e4⟩
theorem B9:∀ (l:List (Nat × Yn)) (t:Array Yn),(l.foldl (λ t x=>t.setIfInBounds x.1 x.2) t).size=t.size∧(∀ s,s ∉ l.map xe→(l.foldl (λ t x=>t.setIfInBounds x.1 x.2) t)[s]?=t[s]?)∧((l.map xe).Nodup→∀ x∈l,x.1<t.size→(l.foldl (λ t x=>t.setIfInBounds x.1 x.2) t)[x.1]?=some x.2)
 | [],t=>⟨rfl,λ _ _=>rfl,λ _ _ h=>by cases h⟩
 | y::l,t=>by
  obtain ⟨h1,h2,h3⟩:=B9 l (t.setIfInBounds y.1 y.2);simp only [List.foldl_cons];refine ⟨by rw [h1];simp,λ s hs=>?_,λ nd x hx hlt=>?_⟩
  ·simp only [qT,qt,not_or] at hs;rw [h2 s hs.2,Array.getElem?_setIfInBounds_ne (λ e=>hs.1 e.symm)]
  ·simp only [qT,jr] at nd;rcases qt.1 hx with rfl|hx
   ·rw [h2 _ nd.1,Array.getElem?_setIfInBounds_self_of_lt hlt]
   ·exact h3 nd.2 x hx (by simpa using hlt)
theorem iN (a:Act)(s:Nat):a.eval (.tmp s)=(a.tmps[s]?).getD undef:=by simp [Act.eval]
section
variable {P:Program}{Q:Exit→Act→World→Prop}{B N:Nat}{w0:Bs}{Γ:List (Nat × VA)}{a:Act}{w:World}
end
theorem fx {anc:List (Ya)}(h:(List.range m).all (λ q=>(List.range (n+q)).all λ j=>(anc.getD (n+q) []).contains j)=true):∀ i,n≤i→i<n+m→∀ j,j<i→(anc.getD i []).contains j=true:=λ i h1 h2 j hj=>by
 have:=qf.1 (qf.1 h (i-n) (by simp;omega)) j (by simp;omega);rwa [show n+(i-n)=i by omega] at this
theorem tM {f:Ym}{fn:Func}{c:Code}{args:Array Yn}{R:Ending→Yi→Prop}(hf:P.funcs[f]?=some fn)(hb:fn.body=some c)
  (h:c.wpIn (fw none) 0 P (ce P fn R) { tmps:=args++Array.replicate (fn.ntmps-args.size) undef,defers:=[] } w):Calls P f args w R :=
 cm hf hb (wpIn_wide.1 h)
def itB (gs:List Nat)(w:World):Bs:=⟨w,λ k=>k∈gs,true⟩
def OC (caps:List (TypeId × As)):List Lc:=caps.zipIdx.map λ x=>⟨x.2+1,x.1.1,ptrH,x.1.2⟩
def QS (gs:List Nat)(n:Nat):List (Nat × VA):=(List.range n).map λ i=>(i+1,EqV (ptr (gs.getD i 0)))
structure ItG (B:Nat) (gs:List Nat) (Tc:List TypeId) (J:Nat→World→Prop) (k:Nat) (w0:Bs):Prop where
 eq:w0=itB gs w0.w
 j:J k w0.w
 ge:∀ g∈gs,B≤g
theorem uF {α:Type}:∀ {l:List α},l.Nodup→∀ {i j:Nat}{x:α},l[i]?=some x→l[j]?=some x→i=j
 | [],_,_,_,_,h,_=>by cases h
 | y::l,nd,i,j,x,hi,hj=>by
  obtain ⟨n1,n2⟩:=jr.1 nd;cases i with
  | zero=>cases j with
   | zero=>rfl
   | succ j =>
    have e1:y=x:=by simpa using hi
    have e2:l[j]?=some x:=by simpa using hj
    exact absurd (qa e2) (by rw [← e1];exact n1)
  | succ i=>cases j with
   | zero =>
    have e1:y=x:=by simpa using hj
    have e2:l[i]?=some x:=by simpa using hi
    exact absurd (qa e2) (by rw [← e1];exact n1)
   | succ j=>rw [uF n2 (i:=i) (j:=j) (x:=x) (by simpa using hi) (by simpa using hj)]
theorem ItCg.intro {gs : Ya}{f : Ym}{fn : Func}{c : Code}{caps : List (Yh × As)}{Y : Nat→Yc}{inf : Bool}{M : Nat}{Dd : Yp} (hf : P.funcs[f]? = some fn) (hb : fn.body=some c) (hn : (fn.name == "runtime.NumGoroutine")=false) (hsz : caps.length + 1 ≤ fn.ntmps)
  (h:∀ (l B:Nat) (Db:List TypeId) (J:Nat→World→Prop) (Jx:World→Prop) (w0:Bs) (a:Act),gs.length=caps.length→offD Db Dd=true→ItH P l B Db (caps.map xe) gs Y inf M J Jx→ItG B gs (caps.map xe) J 0 w0 →
   St B w0 fn.ntmps ((0,EqV (.func (.yield l) #[] #[]))::QS gs caps.length) (OC caps) a w0.w→c.wpIn (fw none) 0 P (ce P fn (λ e W'=>∃ v,e=.returned v∧(J M W'∨Jx W'))) a w0.w):ItCg P f caps gs Y inf M Dd:=by
 refine ⟨⟨fn,hf,hn,by rw [hb];rfl⟩,λ l B w Db J Jx hB hgn hcaps hoff hI hJ=>tM hf hb (h l B Db J Jx (itB gs w) _ hcaps.length.symm hoff hI ⟨rfl,hJ,(eT hcaps).2⟩ ?_)⟩;have hlen:=hcaps.length;have hev:∀ i (hi:i<gs.length),({ tmps:=(Value.func (.yield l) #[] #[]::gs.map ptr).toArray++Array.replicate (fn.ntmps-(Value.func (.yield l) #[] #[]::gs.map ptr).toArray.size) undef,defers:=[] }:Act).eval (.tmp (i+1))=ptr (gs.getD i 0):=λ i hi=>by
  rw [iN];have h1:(((Value.func (.yield l) #[] #[]::gs.map ptr).toArray++Array.replicate (fn.ntmps-(Value.func (.yield l) #[] #[]::gs.map ptr).toArray.size) undef:Array Value)[i+1]?)=some (ptr (gs.getD i 0)):=by
   rw [Array.getElem?_append_left (by simp;omega)];simp [List.getD,hi]
  show ((_:Array Value)[i+1]?).getD undef=_;rw [h1]
  rfl
 have hat:∀ {i:Nat}{c:TypeId × As},caps[i]?=some c→∃ g,gs[i]?=some g∧g∈gs∧B≤g∧∃ cs,w.heap[g]?=some (.cells (List.toArray cs) c.1 (0,0))∧c.2.p B cs w:=λ {i c} hc=>by
  obtain ⟨g,h1,h2⟩:=hcaps.get hc;exact ⟨g,h1,qa h1,h2⟩
 have hΛ:∀ m∈OC caps,∃ i c g,caps[i]?=some c∧gs[i]?=some g∧m=⟨i+1,c.1,ptrH,c.2⟩:=λ m hm=>by
  obtain ⟨x,hx,rfl⟩:=qr.1 hm;have hx':=zp.1 hx;obtain ⟨g,h1,_⟩:=hat hx';exact ⟨x.2,x.1,g,hx',h1,rfl⟩
 have hev':∀ {i g:Nat},gs[i]?=some g→({ tmps:=(Value.func (.yield l) #[] #[]::gs.map ptr).toArray++Array.replicate (fn.ntmps-(Value.func (.yield l) #[] #[]::gs.map ptr).toArray.size) undef,defers:=[] }:Act).eval (.tmp (i+1))=ptr g:=λ {i g} hg=>by
  rw [hev i (List.getElem?_eq_some_iff.1 hg).1];simp [List.getD,hg]
 refine ⟨λ g hg=>?_,DefOk.nil rfl,?_,Kept.refl _,λ x hx=>?_,λ m hm=>?_,λ m hm m' hm' hne=>?_⟩
 ·rcases hg with hg|hg
  ·exact qg hB hg
  ·exact (eT hcaps).2 g hg
 ·simp only [xj,z9,qP,zi,qd];omega
 ·rcases qt.1 hx with rfl|hx
  ·show _=_;rw [iN];show ((_:Array Value)[0]?).getD undef=_;rw [Array.getElem?_append_left (by simp)];simp
  ·obtain ⟨i,hi,rfl⟩:=qr.1 hx;exact hev i (by rw [← hlen];simpa using hi)
 ·obtain ⟨i,c,g,h1,h2,rfl⟩:=hΛ m hm;obtain ⟨g',h3,h4,_,cs,h5,h6⟩:=hat h1;rw [h2] at h3;injection h3 with h3;subst h3;exact ⟨g,cs,hev' h2,.inr h4,h5,h6⟩
 ·obtain ⟨i,c,g,h1,h2,rfl⟩:=hΛ m hm;obtain ⟨j,c',g',h3,h4,rfl⟩:=hΛ m' hm';show blk (Act.eval _ (.tmp (i+1)))≠blk (Act.eval _ (.tmp (j+1)));rw [hev' h2,hev' h4];intro e;have e':g=g':=by injection e
  subst e';exact hne (by rw [uF hgn h2 h4])
section
open Rg
variable {P:Program}{Q:Exit→Act→World→Prop}{B N:Nat}{w0:Bs}{Γ:List (Nat × VA)}{Λ:List Lc}{a:Act}{w:World}
theorem Hg {T T':Yh}:∀ (a:Act) (w:Yi) (b:Bool),a.eval (.tmp d)=.bool b→(execOp a.eval ⟨some e,.unOp .not T (.tmp d),T',ps,af,none⟩).run P w=.ok (.value (.bool (!b))) w:=λ a w b h=>by
 simp [execOp,h]
 rfl
theorem P2 {T':Yh}:∀ (a:Act) (w:Yi) (b:Bool),a.eval (.tmp d)=.bool b→(execOp a.eval ⟨some e,.assign (.tmp d),T',ps,af,none⟩).run P w=.ok (.value (.bool b)) w:=λ a w b h=>by
 simp [execOp,h]
end
def OneC:As where
 n:=1
 ag:=false
 p _ cs _:=∃ v,cs=[v]∧v.oneCell'=true
 deps:=[]
 len:=by rintro B cs w ⟨v,rfl,_⟩;rfl
 one:=by
  rintro B cs w ⟨v,rfl,h⟩ c hc;obtain rfl:=qo.1 hc;exact h
 ag1:=λ _=>rfl
 cg:=λ _ _ _ _ _ h=>h
 wr:=λ _ _ _ _ _ _ _ _ _ _ _ _ h=>h
def fC (w0:Bs)(B:Nat)(E:TypeId):Prop:=∀ (w:World) (g:Nat) (c:Array Value) (fz:Nat × Nat),Kept w0 w→B≤g→w.heap[g]?=some (.cells c E fz)→w0.may g
theorem EQ {E:Yh}(h:B=w0.w.heap.size):fC w0 B E:=λ _ g _ _ _ hg _=>.inl zo
section
open Rg
variable {P:Program}{Q:Exit→Act→World→Prop}{B N:Nat}{w0:Bs}{Γ:List (Nat × VA)}{Λ:List Lc}{a:Act}{w:World}
def lesS (Λ:List Lc)(e j:Nat)(A:As):List Le:=Λ.zipIdx.map λ x=>⟨x.1.s,x.1.T,x.1.H,none,x.1.A,if x.2=e then some (j,A) else none⟩
theorem ek :∀ y∈lesS Λ e j A,y.cr=none∧(⟨y.s,y.T,y.H,y.A0⟩:Lc)∈Λ∧∀ i B,y.st=some (i,B)→i=j:=λ y hy=>by
 obtain ⟨x,hx,rfl⟩:=qr.1 hy;refine ⟨rfl,qa (zp.1 hx),λ i B h=>?_⟩;simp only at h;split at h
 ·injection h with h;injection h with h _;exact h.symm
 ·cases h
end
def EqIx (Γ:List (Nat × VA))(a:Act):List Lc→List Nat→Prop
 | [],[]=>True
 | l::ls,i::ix=>Γ[i]?=some (l.s,EqV (a.eval (.tmp l.s)))∧EqIx Γ a ls ix
 | _,_=>False
theorem oI {B N:Nat}{a a':Act}(ix:Ya)(h:St B w1 N Γ Λ a' W)(he:EqIx Γ a Λ ix):REnd B N w1 a Λ a' W:=by
 refine ⟨Γ,h,?_⟩;have key:∀ (L:List Lc) (ix:List Nat),EqIx Γ a L ix→∀ l∈L,a'.eval (.tmp l.s)=a.eval (.tmp l.s):=by
  intro L
  induction L with
  | nil=>intro _ _ l hl;cases hl
  | cons m L ih =>
   intro ix hx l hl;cases ix with
   | nil=>exact hx.elim
   | cons i ix =>
    obtain ⟨h1,h2⟩:=hx;rcases qt.1 hl with rfl|hl
    ·exact h.vals _ (qa h1)
    ·exact ih ix h2 l hl
 exact key Λ ix he
section
open Rg
variable {P:Program}{Q:Exit→Act→World→Prop}{B N:Nat}{w0:Bs}{Γ:List (Nat × VA)}{Λ:List Lc}{a:Act}{w:World}
theorem Na {ops:Yg}{o:Yt}{i d x:Nat}{T ty T1 T2:Yh}{A0 A:As}{ps1 ps2:Yv}{af1 af2:Yw}{rest:Ya}(kx:Nat)(src:Ya)
  (ho1:ops[i]?=some ⟨some d,.alloc T,T1,ps1,af1,none⟩) (ho2:ops[i+1]?=some ⟨none,.store ty (.tmp d) (.tmp x),T2,ps2,af2,none⟩) (hnd:fM ops=true) (hQ0:¬ LetsOut Q)
  (h:St B w0 N Γ Λ a w) (hz:Zero P T A0) (hx:Γ[kx]?=some (x,A.va)) (ht:Ty P ty A.n A.ag) (hn:A0.n=A.n) (hd:d<N) (hdx:(d != x)=true)
  (hsrc:src.all (λ k=>match Γ[k]? with|some y=>y.1 != d|none=>false)=true) (hΛ:Λ.all (λ l=>l.s != d)=true)
  (hK:∀ a' w',St B w0 N (src.filterMap λ k=>Γ[k]?) (Λ++[⟨d,T,ptrH,A⟩]) a' w'→wpOpsIn (fw o) 0 P ops Q rest a' w'):wpOpsIn (fw o) 0 P ops Q (i::(i+1)::rest) a w:=by
 obtain ⟨it,z,z1,z2,z3⟩:=hz;obtain ⟨cs,hp,hv⟩:=h.vals _ (qa hx);have hv':a.eval (.tmp x)=cN A.ag cs:=hv;have l1:=A.len _ _ _ hp;have l0:=A0.len _ _ _ (z3 B w);have hds:d<a.tmps.size:=by rw [h.size];exact hd
 have hdx':x≠d:=λ e=>by subst e;simp at hdx
 have hΛ':∀ l∈Λ,l.s≠d:=λ l hl=>by
  have:=qf.1 hΛ l hl;simpa using this
 obtain ⟨W1,hW1⟩:∃ W1,w.alloc (.cells z.cells T)=W1:=⟨_,rfl⟩;have hg1:Grow w W1:=by rw [← hW1];exact Grow.alloc _ _
 have hnew:W1.heap[w.heap.size]?=some (.cells z.cells T (0,0)):=by rw [← hW1];exact heap_alloc_new w _
 rw [wpOpsIn_cons];refine gV hnd hQ0 (bA (R:=⟨ops,N,Γ,[],[],λ _=>[]⟩) ho1 G (bf (w':=W1) (v:=ptr w.heap.size) ?_ ?_))
 ·rw [← hW1];simp [execOp,Instr.alloc,zeroValue,typeInfo,z1,z2,newVar,newRow,ptr]
 obtain ⟨a1,ha1⟩:∃ a1,a.put (some d) (ptr w.heap.size)=a1:=⟨_,rfl⟩;have ed:a1.eval (.tmp d)=ptr w.heap.size:=by rw [← ha1];exact aM _ _ _ hds
 have eo:∀ t,t≠d→a1.eval (.tmp t)=a.eval (.tmp t):=λ t ht=>by rw [← ha1];exact an _ _ _ _ ht
 have ef:a1.defers=a.defers:=by rw [← ha1];rfl
 have es:a1.tmps.size=N:=by rw [← ha1,size_put];exact h.size
 rw [ha1];have l2:z.cells.size=A0.n:=by simpa using l0
 have hrun:=bW ht W1 w.heap.size 0 T z.cells _ cs (A.cells_shape hp) l1 zo (A.one _ _ _ hp) hnew;rw [zH (by simp;omega)] at hrun;simp only [kl,jH,zX] at hrun;have hW:=Wr.setRow W1 w.heap.size cs.toArray;have hcell:(W1.setRow w.heap.size cs.toArray).heap[w.heap.size]?=some (.cells cs.toArray T (0,0)):=setRow_heap W1 _ _ _ _ _ hnew;have hgr:Grow w (W1.setRow w.heap.size cs.toArray):=Kept.grow0 ((hg1.kept).wr hW (.inl (qj _)));rw [wpOpsIn_cons];refine gV hnd hQ0 ?_;have U:wpOpsIn (fw o) 0 P ops Q rest a1 (W1.setRow w.heap.size cs.toArray):=by
  refine hK _ _ ⟨h.lo,?_,es,h.base.grow hgr,λ y hy=>?_,λ m hm=>?_,λ m hm m' hm' hne=>?_⟩
  ·exact h.defers.grow hgr ef
  ·obtain ⟨k,hk1,hk2⟩:=qS.1 hy;have:=qf.1 hsrc k hk1;rw [hk2] at this;rw [eo _ (by simpa using this)];exact y.2.grow _ _ _ _ hgr (h.vals y (qa hk2))
  ·rcases qp.1 hm with hm|hm
   ·obtain ⟨g,c,q1,q2,q3,q4⟩:=h.locs m hm;exact ⟨g,c,by rw [eo _ (hΛ' m hm)];exact q1,q2,hgr.heap q3,m.A.grow _ _ _ _ hgr q4⟩
   ·obtain rfl:=qo.1 hm;exact ⟨w.heap.size,cs,ed,.inl h.base.size,hcell,A.grow _ _ _ _ hgr hp⟩
  ·have hnm:∀ m∈Λ,∃ g,blk (a1.eval (.tmp m.s))=some g∧g<w.heap.size:=λ m hm=>by
    obtain ⟨g,c,q1,q2,q3,q4⟩:=h.locs m hm;exact ⟨g,by rw [eo _ (hΛ' m hm),q1];exact m.H.ok g,(Array.getElem?_eq_some_iff.1 q3).1⟩
   have hd0:blk (a1.eval (.tmp d))=some w.heap.size:=by rw [ed];rfl
   rcases qp.1 hm with hm|hm <;> rcases qp.1 hm' with hm' | hm'
   ·rw [eo _ (hΛ' m hm),eo _ (hΛ' m' hm')];exact h.dis m hm m' hm' hne
   ·obtain rfl:=qo.1 hm';obtain ⟨g,q1,q2⟩:=hnm m hm;rw [q1,hd0];intro e;injection e with e;omega
   ·obtain rfl:=qo.1 hm;obtain ⟨g,q1,q2⟩:=hnm m' hm';rw [q1,hd0];intro e;injection e with e;omega
   ·obtain rfl:=qo.1 hm;obtain rfl:=qo.1 hm';exact absurd G hne
 unfold wpOp;rw [ho2];have hwant:Region.wanted (⟨none,.store ty (.tmp d) (.tmp x),T2,ps2,af2,none⟩:Oper) (yielded ops a1.tmps)=true:=rfl;simp only [hwant,if_true];refine .inl (wp_skip' (w':=W1.setRow w.heap.size cs.toArray) ?_ U);have e2:a1.eval (.tmp x)=cN A.ag cs:=by rw [eo _ hdx'];exact hv'
 have e1:a1.eval (.tmp d)=.pointer (some ⟨w.heap.size,0,none⟩):=ed;simp [execOp,e1,e2,Instr.storeAt,Instr.sureAddr,hrun]
theorem m8 {id:Nat}{ops:Yg}{o:Yt}{d x:Nat}{T ty T1 T2:Yh}{A0 A:As}{ps1 ps2:Yv}{af1 af2:Yw}(kx:Nat)(src:Ya)(h:St B w0 N Γ Λ a w)(hsz:ops.size=2)
  (ho1:ops[0]?=some ⟨some d,.alloc T,T1,ps1,af1,none⟩) (ho2:ops[0+1]?=some ⟨none,.store ty (.tmp d) (.tmp x),T2,ps2,af2,none⟩) (hnd:fM ops=true) (hQ0:¬ LetsOut Q)
  (hz:Zero P T A0) (hx:Γ[kx]?=some (x,A.va)) (ht:Ty P ty A.n A.ag) (hn:A0.n=A.n) (hd:d<N) (hdx:(d != x)=true)
  (hsrc:src.all (λ k=>match Γ[k]? with|some y=>y.1 != d|none=>false)=true) (hΛ:Λ.all (λ l=>l.s != d)=true)
  (hQ:∀ a' w',St B w0 N (src.filterMap λ k=>Γ[k]?) (Λ++[⟨d,T,ptrH,A⟩]) a' w'→Q .normal a' w'):(Code.region id ops false).wpIn (fw o) 0 P Q a w:=by
 refine wpIn_region ?_;rw [hsz];exact Na kx src ho1 ho2 hnd hQ0 h hz hx ht hn hd hdx hsrc hΛ λ a' w' U=>hQ _ _ U
end
section
open Rg
variable {P:Program}{Q:Exit→Act→World→Prop}{B N:Nat}{w0:Bs}{Γ:List (Nat × VA)}{Λ:List Lc}{a:Act}{w:World}
theorem ln {R:Rg}{n:Nat}(hles:∀ l'∈Λ,∃ st,(⟨l'.s,l'.T,l'.H,none,l'.A,st⟩:Le)∈R.les)(hles2:∀ y∈R.les,∀ i A,y.st=some (i,A)→n≤i)(hinv:R.Inv B w0 (λ k=>decide (k<n)) a w)(src:List Src)
  (hsrc:src.all (λ s=>match s with | .g k=>(match R.Γ[k]? with|some x=>Rg.outG R x.1|none=>false) | .o i=>decide (i<n))=true):St B w0 R.N (src.filterMap (cC R)) Λ a w:=by
 have hcl:∀ deps,Rg.clash R (λ k=>decide (k<n)) deps=false:=λ deps=>by
  unfold Rg.clash;rw [xv];intro y hy;cases U:y.st with
  | none=>simp
  | some x =>
   obtain ⟨i,B'⟩:=x;have:=hles2 y hy i B' U;have hno:¬ i<n:=by omega
   simp [hno]
 have hcur:∀ y∈R.les,y.cr=none→Rg.cur (λ k=>decide (k<n)) y=some y.A0:=λ y hy h0=>by
  unfold Rg.cur;rw [h0];simp only [Rg.crOk,if_true];cases U:y.st with
  | none=>rfl
  | some x =>
   obtain ⟨i,B'⟩:=x;have:=hles2 y hy i B' U;have hno:¬ i<n:=by omega
   simp [hno]
 refine ⟨hinv.lo,hinv.defers,hinv.size,hinv.base,λ x hx=>?_,λ l' hl'=>?_,λ l1 h1 l2 h2 hne=>?_⟩
 rotate_left
 ·obtain ⟨st,hy⟩:=hles l' hl';exact hinv.c _ hy l'.A (hcur _ hy G)
 ·obtain ⟨s1,hy1⟩:=hles l1 h1;obtain ⟨s2,hy2⟩:=hles l2 h2;exact hinv.x _ hy1 _ hy2 hne (by rw [hcur _ hy1 rfl];rfl) (by rw [hcur _ hy2 rfl];rfl)
 obtain ⟨s,hs1,hs2⟩:=qS.1 hx;have ho:=qf.1 hsrc s hs1;cases s with
 | g k =>
  simp only [cC] at hs2;simp only [hs2] at ho;refine hinv.g x (qa hs2) (λ q hq hdq=>?_) (hcl _);cases h2:R.ops[q]? with
  | none=>unfold Rg.dst at hdq;rw [h2] at hdq;cases hdq
  | some v =>
   have:=qf.1 ho q (by simpa using (Array.getElem?_eq_some_iff.1 h2).1);exact absurd hdq (by simpa using this)
 | o i =>
  simp only [cC] at hs2;cases hy:R.sp[i]? with
  | none=>rw [hy] at hs2;cases hs2
  | some y =>
   rw [hy] at hs2;exact hinv.v i y x.1 x.2 hy hs2 ho (hcl _)
theorem EK (w:Yi)(base:Nat)(t ty e:Yh)(i:TypeInfo)(z:Yn)(size bytes:Nat)(ht:P.underlying t=some (.slice e))(hi:P.info? e=some i)(hz:i.zero=some z)
  (hsize:i.size=size) (hby:i.bytes=bytes) (hzs:z.cells.size=size) (hsz:0<size) (v:Value) (n:Nat) (xs:List Value) (hown:w.ownsRow base e size v n xs)
  (a:Addr) (c:Nat) (news:List Value) (hl:news.length=1*size) (hnews:∀ j u,news[j]?=some u→w.cell? (a.add j)=some u) (h1:∀ u∈news,u.oneCell'=true)
  (h63:n+1≤maxLen) (hbytes:(n+1)*bytes≤140737488355328) (hbase:base≤w.heap.size) :
  ∃ v' w',(Builtin.append_ #[t,t] ty #[v,.slice (some a) 1 c]).run P w=.ok v' w'∧w'.ownsRow base e size v' (n+1) (xs++news)∧w.grownBy w' v.ownBlock∧(v'.ownBlock=v.ownBlock∨(v'.ownBlock=some w.heap.size∧w.grownBy w' none)):=by
 obtain ⟨v',w',hr,r1,r2,_,r3⟩:=run_append_own_at (P:=P) w base t ty e i z size bytes ht hi hz hsize hby hzs hsz v n xs hown a 1 c news hl hnews h1 h63 hbytes hbase;refine ⟨v',w',hr,r1,r2,?_⟩;rcases r3 with r3|r3
 ·exact .inl r3
 ·have hcases:=hown.2;rcases hcases with ⟨rfl,_⟩|⟨g,cap,cur,rfl,hbg,hg,hnc,hcm,hcs,htake⟩
  ·exact .inr ⟨r3,r2⟩
  ·by_cases hroom:n+1≤cap
   ·obtain ⟨w2,hr2,_⟩:=run_append_own_spare (P:=P) w base t ty e i size ht hi hsize g n cap xs hown a 1 c news hl hnews h1 hroom;rw [hr2] at hr;injection hr with hr;subst hr;exact .inl rfl
   ·subst hsize;have holds:∀ j u,xs[j]?=some u→w.cell? ((⟨g,0,none⟩:Addr).add j)=some u:=hown.cells (g:=g) rfl;have hr2:=run_append_grow (P:=P) w t ty e i z ht hi hz ⟨g,0,none⟩ n cap xs hown.1 holds a 1 c news hl hnews zo (by unfold maxLen at h63;omega) (growslice_fits zo (by rw [hby];exact hbytes));rw [hr2] at hr;injection hr with hr hr';subst hr';exact .inr ⟨r3,rfl,rfl,rfl,by simp,λ k hk _=>by first|exact Go.heap_alloc_old w.drew _ k hk|exact heap_alloc_old w.drew _ hk⟩
theorem iE {id:Nat}{ops:Yg}{sp:Yu}(anc:List (Ya))(n m e j:Nat)(A:As)(src:List Src)(hmx:P.follows .mixedOrders=true)
  (h:St B w0 N Γ Λ a w) (hob:Obs P Q ⟨ops,N,Γ,lesS Λ e j A,sp,λ i=>anc.getD i []⟩ B w0 0 n) (hsz:ops.size=n+m) (hm:0<m) (hj:n≤j) (hanc:Rg.ancOk ⟨ops,N,Γ,lesS Λ e j A,sp,λ i=>anc.getD i []⟩=true) (hall:∀ i,n≤i→i<n+m→∀ j,j<i→(anc.getD i []).contains j=true) (hk:Rg.chk ⟨ops,N,Γ,lesS Λ e j A,sp,λ i=>anc.getD i []⟩=true)
  (hsrc:src.all (λ s=>match s with | .g k=>(match Γ[k]? with|some x=>Rg.outG ⟨ops,N,Γ,lesS Λ e j A,sp,λ i=>anc.getD i []⟩ x.1|none=>false) | .o i=>decide (i<n))=true)
  (hQ:∀ a' w',St B w0 N (src.filterMap (cC ⟨ops,N,Γ,lesS Λ e j A,sp,λ i=>anc.getD i []⟩)) Λ a' w'→wpOps P ops Q (List.range' n m) a' w'):(Code.region id ops true).wp P Q a w:=by
 refine Rg.drawK (R:=⟨ops,N,Γ,lesS Λ e j A,sp,λ i=>anc.getD i []⟩) (m:=m) hsz hm hmx hanc hk h (λ y hy _=>?_) (λ i hi=>hob.all i zo zo) (λ i h1 h2 j hj=>hall i h1 h2 j hj) λ a1 w1 hinv=>?_
 ·exact (ek y hy).2.1
 ·exact hQ a1 w1 (ln (λ l' hl'=>by
   obtain ⟨j',hj'⟩:=List.getElem?_of_mem hl';exact ⟨_,qr.2 ⟨(l',j'),zp.2 hj',rfl⟩⟩) (λ y hy i B' h1=>by have:=(ek y hy).2.2 i B' h1;omega) hinv src hsrc)
theorem bS {id:Nat}{ops:Yg}{sp:Yu}(n m e j:Nat)(A:As)(src:List Src)
  (h:St B w0 N Γ Λ a w) (hob:Obs P Q ⟨ops,N,Γ,lesS Λ e j A,sp,λ i=>List.range i⟩ B w0 0 n) (hsz:ops.size=n+m) (hj:n≤j) (hk:Rg.chk ⟨ops,N,Γ,lesS Λ e j A,sp,λ i=>List.range i⟩=true)
  (hsrc:src.all (λ s=>match s with | .g k=>(match Γ[k]? with|some x=>Rg.outG ⟨ops,N,Γ,lesS Λ e j A,sp,λ i=>List.range i⟩ x.1|none=>false) | .o i=>decide (i<n))=true)
  (hQ:∀ a' w',St B w0 N (src.filterMap (cC ⟨ops,N,Γ,lesS Λ e j A,sp,λ i=>List.range i⟩)) Λ a' w'→wpOps P ops Q (List.range' n m) a' w'):(Code.region id ops false).wp P Q a w:=by
 refine Rg.linK (R:=⟨ops,N,Γ,lesS Λ e j A,sp,λ i=>List.range i⟩) (m:=m) hsz G hk h (λ y hy _=>?_) (λ i hi=>hob.all i zo zo) λ a1 w1 hinv=>?_
 ·exact (ek y hy).2.1
 ·exact hQ a1 w1 (ln (λ l' hl'=>by
   obtain ⟨j',hj'⟩:=List.getElem?_of_mem hl';exact ⟨_,qr.2 ⟨(l',j'),zp.2 hj',rfl⟩⟩) (λ y hy i B' h1=>by have:=(ek y hy).2.2 i B' h1;omega) hinv src hsrc)
theorem St.addV {A:VA}(h:St B w0 N Γ Λ a w)(hd:d<N)(hΓ:Γ.all (λ x=>x.1 != d)=true)(hΛ:Λ.all (λ l=>l.s != d)=true)(hA:A.p B v w):St B w0 N ((d,A)::Γ) Λ (a.put (some d) v) w:=by
 have hdsz:d<a.tmps.size:=by rw [h.size];exact hd
 have hl:∀ l∈Λ,l.s≠d:=λ l hl=>by simpa using qf.1 hΛ l hl
 refine ⟨h.lo,h.defers.keep G λ _ hD=>hD,by rw [size_put];exact h.size,h.base,λ x hx=>?_,λ l hl'=>?_,λ l1 h1 l2 h2 hne=>?_⟩
 ·rcases qt.1 hx with rfl|hx
  ·show A.p B ((a.put (some d) v).eval (.tmp d)) w;rw [aM _ _ _ hdsz];exact hA
  ·have:x.1≠d:=by simpa using qf.1 hΓ x hx
   rw [an _ _ _ _ this];exact h.vals x hx
 ·exact (h.locs l hl').eval (an _ _ _ _ (hl l hl'))
 ·rw [an _ _ _ _ (hl l1 h1),an _ _ _ _ (hl l2 h2)];exact h.dis l1 h1 l2 h2 hne
variable {ops:Array Oper}{i:Nat}{K:Act→World→Prop}
theorem lQ {d:Nat}{op:Op}{T':Yh}{A:VA}(ho:ops[i]?=some ⟨some d,op,T',ps,af,none⟩)(h:St B w0 N Γ Λ a w)(hd:d<N)(hΓ:Γ.all (λ x=>x.1 != d)=true)(hΛ:Λ.all (λ l=>l.s != d)=true)
  (hr:(execOp a.eval ⟨some d,op,T',ps,af,none⟩).run P w=.ok (.value v) w) (hA:A.p B v w) (hK:St B w0 N ((d,A)::Γ) Λ (a.put (some d) v) w→K (a.put (some d) v) w):wpOp P ops Q i K a w:=by
 unfold wpOp;simp only [ho,Region.wanted,if_true];exact .inl (bf hr (hK (h.addV hd hΓ hΛ hA)))
theorem mJ {d u y:Nat}{S E:Yh}{T':Yh}{g n c k m:Nat}{kd:Yo}(ku ky:Nat)(ho:ops[i]?=some ⟨some d,.indexAddr S (.tmp u) (.tmp y),T',ps,af,none⟩)(h:St B w0 N Γ Λ a w)(hS:Sl P S E m)(hm:m≠0)
  (hu:Γ[ku]?=some (u,EqV (.slice (some ⟨g,0,none⟩) n c))) (hy:Γ[ky]?=some (y,(NumA kd k).va)) (hk:k<n) (hd:d<N) (hΓ:Γ.all (λ x=>x.1 != d)=true) (hΛ:Λ.all (λ l=>l.s != d)=true)
  (hK:∀ a',St B w0 N ((d,EqV (.pointer (some ⟨g,k*m,none⟩)))::Γ) Λ a' w→K a' w):wpOp P ops Q i K a w:=by
 have h3:a.eval (.tmp u)=.slice (some ⟨g,0,none⟩) n c:=h.vals _ (qa hu);have e:=bj (h.vals _ (qa hy));obtain ⟨hs1,hs2⟩:=hS;refine lQ (A:=EqV (.pointer (some ⟨g,k*m,none⟩))) ho h hd hΓ hΛ ?_ G (hK _);cases hi:P.info? E with
 | none=>rw [hi] at hs2;simp at hs2
 | some it =>
  rw [hi] at hs2;have hsz:it.size=m:=by simpa using hs2
  by_cases h0:k=0
  ·subst h0;simp [execOp,h3,e,Instr.indexAt,asIntOf,run_underlying hs1,hk,sizeOf,typeInfo,hi,Addr.add]
  ·have:k*m≠0:=Nat.mul_ne_zero h0 hm;simp [execOp,h3,e,Instr.indexAt,asIntOf,run_underlying hs1,hk,sizeOf,typeInfo,hi,hsz,Addr.add,h0,hm]
   try exact this
theorem oR {d u:Nat}{T':Yh}{g o:Nat}(ku:Nat)(ho:ops[i]?=some ⟨some d,.nilCheck (.tmp u),T',ps,af,none⟩)(h:St B w0 N Γ Λ a w)
  (hu:Γ[ku]?=some (u,EqV (.pointer (some ⟨g,o,none⟩)))) (hd:d<N) (hΓ:Γ.all (λ x=>x.1 != d)=true) (hΛ:Λ.all (λ l=>l.s != d)=true)
  (hK:∀ a',St B w0 N ((d,EqV (.pointer (some ⟨g,o,none⟩)))::Γ) Λ a' w→K a' w):wpOp P ops Q i K a w:=by
 have h3:a.eval (.tmp u)=.pointer (some ⟨g,o,none⟩):=h.vals _ (qa hu);exact lQ (A:=EqV (.pointer (some ⟨g,o,none⟩))) ho h hd hΓ hΛ (by simp [execOp,h3]) G (hK _)
theorem fK {d u f k n:Nat}{T T':Yh}{g o:Nat}(ku:Nat)(ho:ops[i]?=some ⟨some d,.fieldAddr T (.tmp u) f,T',ps,af,none⟩)(h:St B w0 N Γ Λ a w)(hf:Fld P T f k n)
  (hu:Γ[ku]?=some (u,EqV (.pointer (some ⟨g,o,none⟩)))) (hd:d<N) (hΓ:Γ.all (λ x=>x.1 != d)=true) (hΛ:Λ.all (λ l=>l.s != d)=true)
  (hK:∀ a',St B w0 N ((d,EqV (.pointer (some ⟨g,o+k,none⟩)))::Γ) Λ a' w→K a' w):wpOp P ops Q i K a w:=by
 have h3:a.eval (.tmp u)=.pointer (some ⟨g,o,none⟩):=h.vals _ (qa hu);exact lQ (A:=EqV (.pointer (some ⟨g,o+k,none⟩))) ho h hd hΓ hΛ (by simp [execOp,h3,eh hf]) G (hK _)
theorem oS {d u:Nat}{T':Yh}{A:VA}(ku:Nat)(ho:ops[i]?=some ⟨some d,.assign (.tmp u),T',ps,af,none⟩)(h:St B w0 N Γ Λ a w)
  (hu:Γ[ku]?=some (u,A)) (hd:d<N) (hΓ:Γ.all (λ x=>x.1 != d)=true) (hΛ:Λ.all (λ l=>l.s != d)=true)
  (hK:∀ a',St B w0 N ((d,A)::Γ) Λ a' w→K a' w):wpOp P ops Q i K a w :=
 lQ (A:=A) (v:=a.eval (.tmp u)) ho h hd hΓ hΛ (by simp [execOp]) (h.vals _ (qa hu)) (hK _)
theorem St.turnB {b:Nat}(hbB:B≤b){E sx:Nat}{A0 A1:As}{row:Yt}(src:Ya)(e:Nat)(h:St B w0 N Γ Λ a w)(hg:w.grownBy w' row)(hr:gF w b E row)(hrm:fC w0 b E)(hl:Λ[e]?=some ⟨sx,T,H,A0⟩)(hTE:(T != E)=true)
  (hsrc:src.all (λ k=>match Γ[k]? with|some y => !y.2.deps.contains E|none=>false)=true) (hΛ:Λ.zipIdx.all (λ x=>x.2==e || (x.1.T != E && !x.1.A.deps.contains E))=true)
  (htr:∀ cs,A0.p B cs w→A1.p B cs w'):St B w0 N (src.filterMap λ k=>Γ[k]?) (Λ.set e ⟨sx,T,H,A1⟩) a w':=by
 have hrow:∀ {g:Nat}{c:Array Value}{T':TypeId}{fz:Nat × Nat},w.heap[g]?=some (.cells c T' fz)→T'≠E→w'.heap[g]?=some (.cells c T' fz):=λ {g c T' fz} hg1 hne =>
  (hg.block g (Array.getElem?_eq_some_iff.1 hg1).1 (λ e5=>by
   obtain ⟨_,c',fz',e6⟩:=hr g e5.symm;rw [hg1] at e6;injection e6 with e6;injection e6 with _ e6 _;exact hne e6)).trans hg1
 refine ⟨h.lo,h.defers.grown hg hr rfl,h.size,⟨hg.os.trans h.base.os,hg.tape.trans h.base.tape,hg.output.trans h.base.output,qg h.base.size hg.size,λ k hk hf=>?_⟩,λ y hy=>?_,λ m' hm'=>?_,λ m1 hm1 m2 hm2 hne=>?_⟩
 ·refine (hg.block k (qE hk h.base.size) (λ e=>?_)).trans (h.base.block k hk hf);obtain ⟨q1,c,fz,q2⟩:=hr k e.symm;rcases hrm w k c fz h.base q1 q2 with q3|q3
  ·omega
  ·exact hf q3
 ·obtain ⟨k,hk1,hk2⟩:=qS.1 hy;have hs:=qf.1 hsrc k hk1;simp only [hk2,qz,qC,qn] at hs;exact VA.grown (h.vals y (qa hk2)) hg hr hbB hs
 ·obtain ⟨j,hj⟩:=List.getElem?_of_mem hm';by_cases e1:j=e
  ·subst e1;have:m'=⟨sx,T,H,A1⟩:=by
    rw [List.getElem?_set_self (List.getElem?_eq_some_iff.1 hl).1] at hj;injection hj with hj;exact hj.symm
   subst this;obtain ⟨g,cs,q1,q2,q3,q4⟩:=h.locs _ (qa hl);exact ⟨g,cs,q1,q2,hrow q3 (by simpa using hTE),htr cs q4⟩
  ·rw [List.getElem?_set_ne (λ e2=>e1 e2.symm)] at hj;have hc:=qf.1 hΛ (m',j) (zp.2 hj);simp only [z4,xw,qm,bne_iff_ne,qz,qC,qn] at hc;have hc':=hc.resolve_left e1;obtain ⟨g,cs,q1,q2,q3,q4⟩:=h.locs m' (qa hj);exact ⟨g,cs,q1,q2,hrow q3 hc'.1,As.grown q4 hg hr hbB hc'.2⟩
 ·have hs:∀ m∈Λ.set e ⟨sx,T,H,A1⟩,∃ m0∈Λ,m0.s=m.s:=λ m hm=>by
   rcases qB hm with hm|rfl
   ·exact ⟨m,hm,rfl⟩
   ·exact ⟨_,qa hl,rfl⟩
  obtain ⟨m3,q1,q2⟩:=hs m1 hm1;obtain ⟨m4,q3,q4⟩:=hs m2 hm2;rw [← q2,← q4] at hne ⊢;exact h.dis m3 q1 m4 q3 hne
theorem St.turn {E sx:Nat}{A0 A1:As}{row:Yt}(src:Ya)(e:Nat)(h:St B w0 N Γ Λ a w)(hg:w.grownBy w' row)(hr:gF w B E row)(hrm:fC w0 B E)(hl:Λ[e]?=some ⟨sx,T,H,A0⟩)(hTE:(T != E)=true)
  (hsrc:src.all (λ k=>match Γ[k]? with|some y => !y.2.deps.contains E|none=>false)=true) (hΛ:Λ.zipIdx.all (λ x=>x.2==e || (x.1.T != E && !x.1.A.deps.contains E))=true)
  (htr:∀ cs,A0.p B cs w→A1.p B cs w'):St B w0 N (src.filterMap λ k=>Γ[k]?) (Λ.set e ⟨sx,T,H,A1⟩) a w':=St.turnB (qj B) src e h hg hr hrm hl hTE hsrc hΛ htr
theorem rW {cs:Array Yn}:w.grownBy (w.setRow g cs) (some g):=⟨rfl,rfl,rfl,by simp,λ k _ hk=>setRow_other w g k cs (λ e=>hk (by rw [e]))⟩
theorem sY {p d g k sx:Nat}{E ty T T':Yh}{A0 A1:As}(src:Ya)(kp kd e:Nat)(ho:ops[i]?=some ⟨none,.store ty (.tmp p) (.tmp d),T',ps,af,none⟩)(h:St B w0 N Γ Λ a w)
  (hp:Γ[kp]?=some (p,EqV (.pointer (some ⟨g,k,none⟩)))) (hd:Γ[kd]?=some (d,EqV v)) (hv1:v.oneCell'=true) (hvc:v.cells = #[v]) (ht:Ty P ty 1 false) (hl:Λ[e]?=some ⟨sx,T,H,A0⟩) (hTE:(T != E)=true) (hrm:fC w0 B E)
  (hsrc:src.all (λ k=>match Γ[k]? with|some y => !y.2.deps.contains E|none=>false)=true) (hΛ:Λ.zipIdx.all (λ x=>x.2==e || (x.1.T != E && !x.1.A.deps.contains E))=true)
  (htr:∀ cs,A0.p B cs w→B≤g∧∃ c:Array Value,w.heap[g]?=some (.cells c E (0,0))∧k<c.size∧A1.p B cs (w.setRow g (c.setIfInBounds k v)))
  (hK:∀ w',St B w0 N (src.filterMap λ k=>Γ[k]?) (Λ.set e ⟨sx,T,H,A1⟩) a w'→K (a.put none undef) w'):wpOp P ops Q i K a w:=by
 have e1:a.eval (.tmp p)=.pointer (some ⟨g,k,none⟩):=h.vals _ (qa hp);have e2:a.eval (.tmp d)=v:=h.vals _ (qa hd);obtain ⟨g0,cs0,q1,q2,q3,q4⟩:=h.locs _ (qa hl);obtain ⟨hB,c,hc,hkc,_⟩:=htr cs0 q4;have hrun:=bW ht w g k E c v [v] hvc rfl zo (by simpa using hv1) hc;have e3:(c.toList.take k++[v]++c.toList.drop (k+1)).toArray=c.setIfInBounds k v:=by
  apply Array.ext';rw [ji,xz,qD (by simpa using hkc)];simp
 rw [e3] at hrun;unfold wpOp;simp only [ho,Region.wanted,if_true];refine .inl (wp_skip' (w':=w.setRow g (c.setIfInBounds k v)) ?_ (hK _ (h.turn src e rW (λ g' e=>?_) hrm hl hTE hsrc hΛ λ cs hp=>?_)))
 ·simp [execOp,e1,e2,Instr.storeAt,Instr.sureAddr,hrun]
 ·injection e with e;subst e;exact ⟨hB,_,_,hc⟩
 ·obtain ⟨_,c',hc',_,h5⟩:=htr cs hp;rw [hc] at hc';injection hc' with hc';injection hc' with hc';subst hc';exact h5
theorem uC {b:Nat}(hbB:B≤b)(hb0:b≤w0.w.heap.size){d s u sx:Nat}{S E T1 T:Yh}{A0:As}{X:As}{xs:Yl}{n m bytes:Nat}{D':Yp}{it:TypeInfo}{z:Yn}(A1:Yn→As)(F:Yl→Prop)(src:Ya)(ks ku e:Nat)
  (ho:ops[i]?=some ⟨some d,.call ⟨.builtin .append,#[.tmp s,.tmp u],#[S,S]⟩,T1,ps,af,none⟩) (h:St B w0 N Γ Λ a w)
  (hs:Γ[ks]?=some (s,EqV v)) (hu:Γ[ku]?=some (u,(SlA E D' [X]).va)) (hX:∀ ds,X.p B ds w→F ds) (hXn:X.n=m) (hl:Λ[e]?=some ⟨sx,T,H,A0⟩) (hTE:(T != E)=true) (hrm:fC w0 b E)
  (hS:P.underlying S=some (.slice E)) (hi:P.info? E=some it) (hz:it.zero=some z) (hsz1:it.size=m) (hby:it.bytes=bytes) (hzs:z.cells.size=m) (hm0:0<m) (hn:(n+1)*bytes≤140737488355328) (hn2:n≤1000000000000000)
  (hd:d<N) (hΓ:Γ.all (λ x=>x.1 != d)=true) (hΛd:Λ.all (λ l=>l.s != d)=true)
  (hsrc:src.all (λ k=>match Γ[k]? with|some y => !y.2.deps.contains E|none=>false)=true) (hΛ:Λ.zipIdx.all (λ x=>x.2==e || (x.1.T != E && !x.1.A.deps.contains E))=true)
  (htr:∀ cs,A0.p B cs w→w.ownsRow b E m v n xs∧∀ v' w' ds,F ds→w'.ownsRow b E m v' (n+1) (xs++ds)→w.grownBy w' v.ownBlock→(v'.ownBlock=v.ownBlock∨(v'.ownBlock=some w.heap.size∧w.grownBy w' none))→(A1 v').p B cs w')
  (hK:∀ v' w',St B w0 N ((d,EqV v')::src.filterMap λ k=>Γ[k]?) (Λ.set e ⟨sx,T,H,A1 v'⟩) (a.put (some d) v') w'→K (a.put (some d) v') w'):wpOp P ops Q i K a w:=by
 have e1:a.eval (.tmp s)=v:=h.vals _ (qa hs);obtain ⟨cs1,⟨_,Ad,cap,ds,rfl,_,_,h5,h6⟩,hu'⟩:=h.vals _ (qa hu);have e2:a.eval (.tmp u)=.slice Ad 1 cap:=hu';obtain ⟨g1,o1,rfl,_,_,h8⟩:=h6 (by simp);obtain ⟨g0,cs0,q1,q2,q3,q4⟩:=h.locs _ (qa hl);obtain ⟨hown,hnext⟩:=htr cs0 q4;obtain ⟨ps1,e3,hps⟩:=h5;have hx1:X.p B ds w:=by
  cases hps with
  | cons h1 h2 =>
   cases h2;rw [e3];simpa using h1
 have hdl:ds.length=1*m:=by rw [X.len _ _ _ hx1,hXn,j0]
 have hBw:b≤w.heap.size:=qg hb0 h.base.size;obtain ⟨v',w',hr,r1,r2,r3⟩:=EK (P:=P) w b S T1 E it z m bytes hS hi hz hsz1 hby hzs hm0 v n xs hown ⟨g1,o1,none⟩ cap ds hdl (λ j u hu=>by rw [Ag];exact h8 j u hu) (X.one _ _ _ hx1) (by unfold maxLen;omega) hn hBw;have hro:gF w b E v.ownBlock:=fb hown;have U:=(St.turnB (A1:=A1 v') hbB src e h r2 hro hrm hl hTE hsrc hΛ λ cs hp=>(htr cs hp).2 v' w' ds (hX ds hx1) r1 r2 r3);have hst2:=U.addV (d:=d) (v:=v') (A:=EqV v') hd (qf.2 λ x hx=>by
  obtain ⟨k,hk1,hk2⟩:=qS.1 hx;exact qf.1 hΓ x (qa hk2)) (qf.2 λ l hl'=>by
  rcases qB hl' with hl' | rfl
  ·exact qf.1 hΛd l hl'
  ·exact qf.1 hΛd (⟨sx,T,H,A0⟩:Lc) (qa hl)) rfl
 unfold wpOp;simp only [ho,Region.wanted,if_true];refine .inl (bf (w':=w') (v:=v') ?_ (hK v' w' hst2));simp only [execOp,resolve,invoke,builtin,Sem.run_bind,Sem.run_pure,Result.andThen_ok,kZ,qT,jM,e1,e2,hr]
theorem ll {d s u sx:Nat}{S E T1 T:Yh}{A0:As}{X:As}{xs:Yl}{n m bytes:Nat}{D':Yp}{it:TypeInfo}{z:Yn}(A1:Yn→As)(F:Yl→Prop)(src:Ya)(ks ku e:Nat)
  (ho:ops[i]?=some ⟨some d,.call ⟨.builtin .append,#[.tmp s,.tmp u],#[S,S]⟩,T1,ps,af,none⟩) (h:St B w0 N Γ Λ a w)
  (hs:Γ[ks]?=some (s,EqV v)) (hu:Γ[ku]?=some (u,(SlA E D' [X]).va)) (hX:∀ ds,X.p B ds w→F ds) (hXn:X.n=m) (hl:Λ[e]?=some ⟨sx,T,H,A0⟩) (hTE:(T != E)=true) (hrm:fC w0 B E)
  (hS:P.underlying S=some (.slice E)) (hi:P.info? E=some it) (hz:it.zero=some z) (hsz1:it.size=m) (hby:it.bytes=bytes) (hzs:z.cells.size=m) (hm0:0<m) (hn:(n+1)*bytes≤140737488355328) (hn2:n≤1000000000000000)
  (hd:d<N) (hΓ:Γ.all (λ x=>x.1 != d)=true) (hΛd:Λ.all (λ l=>l.s != d)=true)
  (hsrc:src.all (λ k=>match Γ[k]? with|some y => !y.2.deps.contains E|none=>false)=true) (hΛ:Λ.zipIdx.all (λ x=>x.2==e || (x.1.T != E && !x.1.A.deps.contains E))=true)
  (htr:∀ cs,A0.p B cs w→w.ownsRow B E m v n xs∧∀ v' w' ds,F ds→w'.ownsRow B E m v' (n+1) (xs++ds)→w.grownBy w' v.ownBlock→(v'.ownBlock=v.ownBlock∨(v'.ownBlock=some w.heap.size∧w.grownBy w' none))→(A1 v').p B cs w')
  (hK:∀ v' w',St B w0 N ((d,EqV v')::src.filterMap λ k=>Γ[k]?) (Λ.set e ⟨sx,T,H,A1 v'⟩) (a.put (some d) v') w'→K (a.put (some d) v') w'):wpOp P ops Q i K a w:=uC (qj B) (h.lo _ (.inl (qj _))) A1 F src ks ku e ho h hs hu hX hXn hl hTE hrm hS hi hz hsz1 hby hzs hm0 hn hn2 hd hΓ hΛd hsrc hΛ htr hK
theorem gO {p d g k sx:Nat}{ty T T':Yh}{A0 A1:As}(src:Ya)(kp kd ks e:Nat)(ho:ops[i]?=some ⟨none,.store ty (.tmp p) (.tmp d),T',ps,af,none⟩)(h:St B w0 N Γ Λ a w)
  (hp:Γ[kp]?=some (p,EqV (.pointer (some ⟨g,k,none⟩)))) (hd:Γ[kd]?=some (d,EqV v)) (hs:Γ[ks]?=some (sx,EqV (H.f g))) (hv1:v.oneCell'=true) (hvc:v.cells = #[v]) (ht:Ty P ty 1 false) (hl:Λ[e]?=some ⟨sx,T,H,A0⟩)
  (hsrc:src.all (λ k=>match Γ[k]? with|some y => !y.2.deps.contains T|none=>false)=true) (hΛ:Λ.zipIdx.all (λ x=>x.2==e || (x.1.s != sx && !x.1.A.deps.contains T))=true) (hT:A1.deps.contains T=false)
  (htr:∀ cs,A0.p B cs w→k<cs.length∧A1.p B (cs.set k v) w)
  (hK:∀ w',St B w0 N (src.filterMap λ k=>Γ[k]?) (Λ.set e ⟨sx,T,H,A1⟩) a w'→K (a.put none undef) w'):wpOp P ops Q i K a w:=by
 have e1:a.eval (.tmp p)=.pointer (some ⟨g,k,none⟩):=h.vals _ (qa hp);have e2:a.eval (.tmp d)=v:=h.vals _ (qa hd);have e0:a.eval (.tmp sx)=H.f g:=h.vals _ (qa hs);obtain ⟨g0,cs,q1,q2,q3,q4⟩:=h.locs _ (qa hl);have:g0=g:=by
  have:=qq blk (q1.symm.trans e0);rw [H.ok,H.ok] at this;injection this
 subst this;obtain ⟨hkc,hp1⟩:=htr cs q4;have hrun:=bW ht w g0 k T cs.toArray v [v] hvc rfl (by simp;omega) (by simpa using hv1) q3;have e3:(cs.take k++[v]++cs.drop (k+1))=cs.set k v:=by
  rw [xz,qD hkc];simp
 simp only [e3] at hrun;have hW:=Wr.setRow w g0 (cs.set k v).toArray;have hB:B≤g0:=h.lo g0 q2;have hTn:T ∉ A1.deps:=by simpa using hT
 unfold wpOp;simp only [ho,Region.wanted,if_true];refine .inl (wp_skip' (w':=w.setRow g0 (cs.set k v).toArray) ?_ (hK _ ⟨h.lo,h.defers.keep rfl λ D hD=>(hW.block D (λ e=>by subst e;rw [q3] at hD;cases hD)).trans hD,h.size,h.base.wr hW q2,λ x hx=>?_,λ m hm=>?_,λ m1 hm1 m2 hm2 hne=>?_⟩))
 ·simp [execOp,e1,e2,Instr.storeAt,Instr.sureAddr,hrun]
 ·obtain ⟨k',hk1,hk2⟩:=qS.1 hx;have:=qf.1 hsrc k' hk1;simp only [hk2,qz,qC,qn] at this;exact x.2.wr _ _ _ _ _ _ _ _ q3 this hB hW (h.vals x (qa hk2))
 ·obtain ⟨j,hj⟩:=List.getElem?_of_mem hm;by_cases e5:j=e
  ·subst e5;have:m=⟨sx,T,H,A1⟩:=by
    rw [List.getElem?_set_self (List.getElem?_eq_some_iff.1 hl).1] at hj;injection hj with hj;exact hj.symm
   subst this;exact ⟨g0,cs.set k v,q1,q2,setRow_heap w g0 _ _ _ _ q3,A1.wr _ _ _ _ _ _ _ _ q3 hTn hB hW hp1⟩
  ·rw [List.getElem?_set_ne (λ e2=>e5 e2.symm)] at hj;have hc:=qf.1 hΛ (m,j) (zp.2 hj);simp only [z4,xw,qm,bne_iff_ne,qz,qC,qn] at hc;have hc':=hc.resolve_left e5;obtain ⟨g',cs2,p1,p2,p3,p4⟩:=h.locs m (qa hj);have hne:g'≠g0:=λ hh=>h.dis m (qa hj) _ (qa hl) hc'.1 (by rw [p1,q1,hh,m.H.ok,Hd.ok]);exact ⟨g',cs2,p1,p2,(hW.block g' hne).trans p3,m.A.wr _ _ _ _ _ _ _ _ q3 hc'.2 hB hW p4⟩
 ·have hs:∀ m∈Λ.set e ⟨sx,T,H,A1⟩,∃ m0∈Λ,m0.s=m.s:=λ m hm=>by
   rcases qB hm with hm|rfl
   ·exact ⟨m,hm,rfl⟩
   ·exact ⟨_,qa hl,rfl⟩
  obtain ⟨m3,r1,r2⟩:=hs m1 hm1;obtain ⟨m4,r3,r4⟩:=hs m2 hm2;rw [← r2,← r4] at hne ⊢;exact h.dis m3 r1 m4 r3 hne
end
section
open Rg
variable {P:Program}{Q:Exit→Act→World→Prop}{B N:Nat}{w0:Bs}{Γ:List (Nat × VA)}{Λ:List Lc}{a:Act}{w:World}
theorem fJ {ops:Yg}{i d x:Nat}{T ty T1 T2:Yh}{A0 A:As}{ps1 ps2:Yv}{af1 af2:Yw}{rest:Ya}(kx:Nat)(src:Ya)
  (ho1:ops[i]?=some ⟨some d,.alloc T,T1,ps1,af1,none⟩) (ho2:ops[i+1]?=some ⟨none,.store ty (.tmp d) (.tmp x),T2,ps2,af2,none⟩)
  (h:St B w0 N Γ Λ a w) (hz:Zero P T A0) (hx:Γ[kx]?=some (x,A.va)) (ht:Ty P ty A.n A.ag) (hn:A0.n=A.n) (hd:d<N) (hdx:(d != x)=true)
  (hsrc:src.all (λ k=>match Γ[k]? with|some y=>y.1 != d|none=>false)=true) (hΛ:Λ.all (λ l=>l.s != d)=true)
  (hK:∀ a' w',St B w0 N (src.filterMap λ k=>Γ[k]?) (Λ++[⟨d,T,ptrH,A⟩]) a' w'→wpOps P ops Q rest a' w'):wpOps P ops Q (i::(i+1)::rest) a w:=by
 obtain ⟨it,z,z1,z2,z3⟩:=hz;obtain ⟨cs,hp,hv⟩:=h.vals _ (qa hx);have hv':a.eval (.tmp x)=cN A.ag cs:=hv;have l1:=A.len _ _ _ hp;have l0:=A0.len _ _ _ (z3 B w);have hds:d<a.tmps.size:=by rw [h.size];exact hd
 have hdx':x≠d:=λ e=>by subst e;simp at hdx
 have hΛ':∀ l∈Λ,l.s≠d:=λ l hl=>by
  have:=qf.1 hΛ l hl;simpa using this
 obtain ⟨W1,hW1⟩:∃ W1,w.alloc (.cells z.cells T)=W1:=⟨_,rfl⟩;have hg1:Grow w W1:=by rw [← hW1];exact Grow.alloc _ _
 have hnew:W1.heap[w.heap.size]?=some (.cells z.cells T (0,0)):=by rw [← hW1];exact heap_alloc_new w _
 rw [qy];refine (bA (R:=⟨ops,N,Γ,[],[],λ _=>[]⟩) ho1 G (bf (w':=W1) (v:=ptr w.heap.size) ?_ ?_))
 ·rw [← hW1];simp [execOp,Instr.alloc,zeroValue,typeInfo,z1,z2,newVar,newRow,ptr]
 obtain ⟨a1,ha1⟩:∃ a1,a.put (some d) (ptr w.heap.size)=a1:=⟨_,rfl⟩;have ed:a1.eval (.tmp d)=ptr w.heap.size:=by rw [← ha1];exact aM _ _ _ hds
 have eo:∀ t,t≠d→a1.eval (.tmp t)=a.eval (.tmp t):=λ t ht=>by rw [← ha1];exact an _ _ _ _ ht
 have ef:a1.defers=a.defers:=by rw [← ha1];rfl
 have es:a1.tmps.size=N:=by rw [← ha1,size_put];exact h.size
 rw [ha1];have l2:z.cells.size=A0.n:=by simpa using l0
 have hrun:=bW ht W1 w.heap.size 0 T z.cells _ cs (A.cells_shape hp) l1 zo (A.one _ _ _ hp) hnew;rw [zH (by simp;omega)] at hrun;simp only [kl,jH,zX] at hrun;have hW:=Wr.setRow W1 w.heap.size cs.toArray;have hcell:(W1.setRow w.heap.size cs.toArray).heap[w.heap.size]?=some (.cells cs.toArray T (0,0)):=setRow_heap W1 _ _ _ _ _ hnew;have hgr:Grow w (W1.setRow w.heap.size cs.toArray):=Kept.grow0 ((hg1.kept).wr hW (.inl (qj _)));rw [qy];have U:wpOps P ops Q rest a1 (W1.setRow w.heap.size cs.toArray):=by
  refine hK _ _ ⟨h.lo,?_,es,h.base.grow hgr,λ y hy=>?_,λ m hm=>?_,λ m hm m' hm' hne=>?_⟩
  ·exact h.defers.grow hgr ef
  ·obtain ⟨k,hk1,hk2⟩:=qS.1 hy;have:=qf.1 hsrc k hk1;rw [hk2] at this;rw [eo _ (by simpa using this)];exact y.2.grow _ _ _ _ hgr (h.vals y (qa hk2))
  ·rcases qp.1 hm with hm|hm
   ·obtain ⟨g,c,q1,q2,q3,q4⟩:=h.locs m hm;exact ⟨g,c,by rw [eo _ (hΛ' m hm)];exact q1,q2,hgr.heap q3,m.A.grow _ _ _ _ hgr q4⟩
   ·obtain rfl:=qo.1 hm;exact ⟨w.heap.size,cs,ed,.inl h.base.size,hcell,A.grow _ _ _ _ hgr hp⟩
  ·have hnm:∀ m∈Λ,∃ g,blk (a1.eval (.tmp m.s))=some g∧g<w.heap.size:=λ m hm=>by
    obtain ⟨g,c,q1,q2,q3,q4⟩:=h.locs m hm;exact ⟨g,by rw [eo _ (hΛ' m hm),q1];exact m.H.ok g,(Array.getElem?_eq_some_iff.1 q3).1⟩
   have hd0:blk (a1.eval (.tmp d))=some w.heap.size:=by rw [ed];rfl
   rcases qp.1 hm with hm|hm <;> rcases qp.1 hm' with hm' | hm'
   ·rw [eo _ (hΛ' m hm),eo _ (hΛ' m' hm')];exact h.dis m hm m' hm' hne
   ·obtain rfl:=qo.1 hm';obtain ⟨g,q1,q2⟩:=hnm m hm;rw [q1,hd0];intro e;injection e with e;omega
   ·obtain rfl:=qo.1 hm;obtain ⟨g,q1,q2⟩:=hnm m' hm';rw [q1,hd0];intro e;injection e with e;omega
   ·obtain rfl:=qo.1 hm;obtain rfl:=qo.1 hm';exact absurd G hne
 unfold wpOp;rw [ho2];have hwant:Region.wanted (⟨none,.store ty (.tmp d) (.tmp x),T2,ps2,af2,none⟩:Oper) (yielded ops a1.tmps)=true:=rfl;simp only [hwant,if_true];refine .inl (wp_skip' (w':=W1.setRow w.heap.size cs.toArray) ?_ U);have e2:a1.eval (.tmp x)=cN A.ag cs:=by rw [eo _ hdx'];exact hv'
 have e1:a1.eval (.tmp d)=.pointer (some ⟨w.heap.size,0,none⟩):=ed;simp [execOp,e1,e2,Instr.storeAt,Instr.sureAddr,hrun]
end
def TyIn (w:World)(k:Nat)(Ts:List TypeId):Prop:=∃ c T fz,w.heap[k]?=some (.cells c T fz)∧T∈Ts
abbrev Wid (B:Nat)(w:World)(Ts:List TypeId):Bs:=⟨w,λ k=>B≤k∧TyIn w k Ts,false⟩
open Classical in
theorem uM {p:Yi→Prop}{Ts:Yp}(hcg:∀ w w',Grow w w'→p w→p w')(hwr:∀ w w' g c T fz,w.heap[g]?=some (.cells c T fz)→T∈Ts→B≤g→Wr g w w'→p w→p w')
  {w w':World} (hk:Kept (Wid B w Ts) w') (hp:p w):p w':=by
 let W:Nat→World:=λ m=>{ w with heap:=w.heap.mapIdx λ k o=>if k<m∧(Wid B w Ts).F k then (w'.heap[k]?).getD o else o }
 have hW:∀ m k,(W m).heap[k]?=if k<m∧(Wid B w Ts).F k∧k<w.heap.size then w'.heap[k]? else w.heap[k]?:=λ m k=>by
  show (w.heap.mapIdx _)[k]?=_;rw [Array.getElem?_mapIdx];by_cases hlt:k<w.heap.size
  ·rw [Array.getElem?_eq_getElem hlt];have hlt':k<w'.heap.size:=qE hlt hk.size;rw [Array.getElem?_eq_getElem hlt'];by_cases hc:k<m∧(Wid B w Ts).F k
   ·rw [qD ⟨hc.1,hc.2,hlt⟩,qU,qD hc]
    rfl
   ·rw [qA (λ h=>hc ⟨h.1,h.2.1⟩),qU,qA hc]
  ·have h0:w.heap[k]?=none:=Array.getElem?_eq_none zo;rw [qA (λ h=>hlt h.2.2),h0]
   rfl
 have hs:∀ m,(W m).heap.size=w.heap.size:=λ m=>by simp [W]
 have key:∀ m,p (W m):=λ m=>by
  induction m with
  | zero=>exact hcg w (W 0) ⟨rfl,rfl,rfl,by rw [hs];exact qj _,λ k hk=>by rw [hW,qA (λ h=>by omega)]⟩ hp
  | succ m ih =>
   by_cases hF:(Wid B w Ts).F m
   ·obtain ⟨hB,c,T,fz,hc,hT⟩:=hF;refine hwr (W m) (W (m+1)) m c T fz ?_ hT hB ⟨rfl,rfl,rfl,by rw [hs,hs],λ k hk=>?_⟩ ih
    ·rw [hW,qA (λ h=>by omega)];exact hc
    ·rw [hW,hW];by_cases h1:k<m
     ·simp [h1,kQ h1]
     ·have:¬ k<m+1:=by omega
      simp [h1,this]
   ·refine hcg (W m) (W (m+1)) ⟨rfl,rfl,rfl,by rw [hs,hs];exact qj _,λ k hk=>?_⟩ ih;rw [hW,hW];by_cases h1:k<m
    ·simp [h1,kQ h1]
    ·by_cases h2:k=m
     ·subst h2;rw [qA (λ h=>hF h.2.1),qA (λ h=>by omega)]
     ·have:¬ k<m+1:=by omega
      simp [h1,this]
 refine hcg (W w.heap.size) w' ⟨hk.os,hk.tape,hk.output,by rw [hs];exact hk.size,λ k hlt=>?_⟩ (key _);rw [hs] at hlt;rw [hW];by_cases hF:(Wid B w Ts).F k
 ·rw [qD ⟨hlt,hF,hlt⟩]
 ·rw [qA (λ h=>hF h.2.1)];exact hk.block k hlt hF
theorem VA.kept {A:VA}{Ts:Yp}(hp:A.p B v w)(hk:Kept (Wid B w Ts) w')(hd:∀ T∈Ts,T ∉ A.deps):A.p B v w' :=
 uM (p:=λ w=>A.p B v w) (λ w w' hg h=>A.grow _ _ _ _ hg h) (λ w w' g c T fz hc hT hB hW h=>A.wr _ _ _ _ _ _ _ _ hc (hd T hT) hB hW h) hk hp
theorem As.kept {A:As}{Ts:Yp}(hp:A.p B cs w)(hk:Kept (Wid B w Ts) w')(hd:∀ T∈Ts,T ∉ A.deps):A.p B cs w' :=
 uM (p:=λ w=>A.p B cs w) (λ w w' hg h=>A.grow _ _ _ _ hg h) (λ w w' g c T fz hc hT hB hW h=>A.wr _ _ _ _ _ _ _ _ hc (hd T hT) hB hW h) hk hp
def CK (P:Program)(f:FuncId)(T:TypeId)(Ts:List TypeId)(A0 A1:As)(pre:List VA)(post:VA):Prop :=
 (∃ fn, P.funcs[f]? = some fn∧(fn.name == "runtime.NumGoroutine")=false∧fn.body.isNone=false) ∧
 ∀ (B:Nat) (w:World) (g:Nat) (cs:List Value) (args:List Value),B≤g→w.heap[g]?=some (.cells cs.toArray T (0,0))→A0.p B cs w→All2 (λ (A:VA) v=>A.p B v w) pre args →
  Calls P f (ptr g::args).toArray w λ e w'=>∃ v cs',e=.returned v∧post.p B v w'∧Kept (Wid B w Ts) w'∧w'.heap[g]?=some (.cells (List.toArray cs') T (0,0))∧A1.p B cs' w'
theorem K6 {Ts:Yp}{E:Yh}(hE:E∈Ts):fC (Wid B w Ts) B E:=λ w1 g c fz hk hB hc=>by
 by_cases hF:(Wid B w Ts).F g
 ·exact .inr hF
 ·by_cases hlt:g<w.heap.size
  ·exact .inr ⟨hB,c,E,fz,(hk.block g hlt hF).symm.trans hc,hE⟩
  ·exact .inl (kX hlt)
theorem CK.intro {f : Ym}{fn : Func}{c : Code}{T : Yh}{Ts : Yp}{A0 A1 : As}{pre : Yc}{post : VA} (hf : P.funcs[f]? = some fn) (hb : fn.body=some c) (hn : (fn.name == "runtime.NumGoroutine")=false) (hsz : pre.length + 1 ≤ fn.ntmps) (hT : Ts.contains T=true)
  (h:∀ (B g:Nat) (w0:Bs) (a:Act),(∀ E,Ts.contains E=true→fC w0 B E)→St B w0 fn.ntmps (argΓ (EqV (ptrH.f g)::pre)) [⟨0,T,ptrH,A0⟩] a w0.w→c.wp P (ce P fn (RQm B w0 g T A1 post)) a w0.w):CK P f T Ts A0 A1 pre post:=by
 refine ⟨⟨fn,hf,hn,by rw [hb];rfl⟩,λ B w g cs args hB hg hp ha=>(cm hf hb (h B g (Wid B w Ts) _ (λ E hE=>K6 (by simpa using hE)) ?_)).mono λ _ _ ⟨v,cs',he,hv,hk,h1,h2⟩=>⟨v,cs',he,hv,hk,h1,h2⟩⟩;have hl:=ha.length;have hgw:=(Array.getElem?_eq_some_iff.1 hg).1;have ha':All2 (λ (A:VA) v=>A.p B v w) (EqV (ptrH.f g)::pre) (ptr g::args):=.cons rfl ha;have h0:(⟨(ptr g::args).toArray++Array.replicate (fn.ntmps-(ptr g::args).toArray.size) undef,[]⟩:Act).eval (.tmp 0)=ptrH.f g:=by
  have:=All2.args (N:=fn.ntmps-(ptr g::args).toArray.size) ha' (0,EqV (ptrH.f g)) (by simp [argΓ]);exact this
 refine ⟨λ k hk=>?_,DefOk.nil rfl,?_,Kept.refl _,All2.args ha',λ l hl=>?_,λ l hl m hm hne=>?_⟩
 ·rcases hk with hk|hk
  ·exact qg hB (qg (xc hgw) hk)
  ·exact hk.1
 ·simp only [xj,z9,qP,zi];omega
 ·simp at hl;subst hl;exact ⟨g,cs,h0,.inr ⟨hB,_,_,_,hg,by simpa using hT⟩,hg,hp⟩
 ·simp at hl hm;subst hl hm;exact absurd G hne
theorem CK.ex {f : Ym}{T : Yh}{Ts : Yp}{A0 A1 : As}{A : Yn→As}{c : Yn→Prop}{pre : Yc}{post : VA} (hex : ∃ fn, P.funcs[f]? = some fn∧(fn.name == "runtime.NumGoroutine")=false∧fn.body.isNone=false) (h : ∀ x, c x→CK P f T Ts (A x) A1 pre post) (hp : ∀ B cs w, A0.p B cs w→∃ x, c x∧(A x).p B cs w) : CK P f T Ts A0 A1 pre post :=
 ⟨hex,λ B w g cs args hB hg hp0 ha=>by
  obtain ⟨x,hc,hx⟩:=hp B cs w hp0;exact (h x hc).2 B w g cs args hB hg hx ha⟩
theorem CK.wk {f:Ym}{Ts:Yp}{A0 A1 A1':As}{pre:Yc}{post:VA}(h:CK P f T Ts A0 A1 pre post)(hp:∀ B cs w,A1.p B cs w→A1'.p B cs w):CK P f T Ts A0 A1' pre post :=
 ⟨h.1,λ B w g cs args hB hg hp0 ha=>(h.2 B w g cs args hB hg hp0 ha).mono λ _ _ ⟨v,cs',he,hv,hk,h1,h2⟩=>⟨v,cs',he,hv,hk,h1,hp _ _ _ h2⟩⟩
theorem CK.wkT {f:Ym}{Ts Ts':Yp}{A0 A1:As}{pre:Yc}{post:VA}(h:CK P f T Ts A0 A1 pre post)(hT:∀ E∈Ts,E∈Ts'):CK P f T Ts' A0 A1 pre post :=
 ⟨h.1,λ B w g cs args hB hg hp0 ha=>(h.2 B w g cs args hB hg hp0 ha).mono λ _ _ ⟨v,cs',he,hv,hk,h1,h2⟩=>⟨v,cs',he,hv,⟨hk.os,hk.tape,hk.output,hk.size,λ k h1 h2=>hk.block k h1 λ⟨q1,c,T,fz,q2,q3⟩=>h2 ⟨q1,c,T,fz,q2,hT T q3⟩⟩,h1,h2⟩⟩
section
open Rg
variable {P:Program}{Q:Exit→Act→World→Prop}{B N:Nat}{w0:Bs}{Γ:List (Nat × VA)}{Λ:List Lc}{a:Act}{w:World}{ops:Array Oper}{i:Nat}{K:Act→World→Prop}
theorem LE {pre:Yc}{ks:Ya}{xs:Yr}(h:St B w0 N Γ Λ a w)(hx:All2 (λ (A:VA) (kx:Nat × Yj)=>∃ t,kx.2=.tmp t∧Γ[kx.1]?=some (t,A)) pre (ks.zip xs))(hl:ks.length=xs.length):All2 (λ (A:VA) v=>A.p B v w) pre (xs.map a.eval):=by
 induction pre generalizing ks xs with
 | nil =>
  cases hk:ks.zip xs with
  | nil =>
   have:xs=[]:=by
    cases xs with
    | nil=>rfl
    | cons x xs=>cases ks with
     | nil=>cases hl
     | cons k ks=>cases hk
   subst this;exact .nil
  | cons y ys=>rw [hk] at hx;cases hx
 | cons A pre ih =>
  cases ks with
  | nil=>cases hx
  | cons k ks=>cases xs with
   | nil=>cases hx
   | cons x xs =>
    cases hx with
    | cons h1 h2 =>
     obtain ⟨t,e,h3⟩:=h1;have e:x=.tmp t:=e;subst e;exact .cons (h.vals _ (qa h3)) (ih h2 (by simpa using hl))
theorem ew {d p f sx:Nat}{T T1:Yh}{Ts:Yp}{A0 A1:As}{pre:Yc}{post:VA}{xs:Yr}{at_:Yq}(src ks:Ya)(e:Nat)(ho:ops[i]?=some ⟨some d,.call ⟨.value (.func f),(.tmp p::xs).toArray,at_⟩,T1,ps,af,none⟩)(h:St B w0 N Γ Λ a w)
  (hc:CK P f T Ts A0 A1 pre post) (hl:Λ[e]?=some ⟨sx,T,ptrH,A0⟩) (hp:a.eval (.tmp p)=a.eval (.tmp sx)) (hx:All2 (λ (A:VA) (kx:Nat × Operand)=>∃ t,kx.2=.tmp t∧Γ[kx.1]?=some (t,A)) pre (ks.zip xs)) (hkl:ks.length=xs.length)
  (hrm:∀ E,Ts.contains E=true→fC w0 B E) (hd:d<N) (hΓ:Γ.all (λ x=>x.1 != d)=true) (hΛd:Λ.all (λ l=>l.s != d)=true)
  (hsrc:src.all (λ k=>match Γ[k]? with|some y=>Ts.all (λ E => !y.2.deps.contains E) | none=>false)=true) (hΛ:Λ.zipIdx.all (λ x=>x.2==e || (!Ts.contains x.1.T&&Ts.all (λ E => !x.1.A.deps.contains E)))=true)
  (hK:∀ a' w',St B w0 N ((d,post)::src.filterMap λ k=>Γ[k]?) (Λ.set e ⟨sx,T,ptrH,A1⟩) a' w'→K a' w'):wpOp P ops Q i K a w:=by
 obtain ⟨g,cs,q1,q2,q3,q4⟩:=h.locs _ (qa hl);have e1:a.eval (.tmp p)=ptr g:=hp.trans q1;have hargs:=LE h hx hkl;obtain ⟨⟨fn,hf,hn,hb⟩,hcall⟩:=hc;have hrun:(execOp a.eval ⟨some d,.call ⟨.value (.func f),(.tmp p::xs).toArray,at_⟩,T1,ps,af,none⟩).run P w=.ok (.enter f (ptr g::xs.map a.eval).toArray) w:=by
  simp only [execOp,resolve,Act.eval,Deferred.ofValue,Sem.run_bind,Sem.run_pure,Result.andThen_ok,invoke,bi hf hn hb];have e1':a.eval (.tmp p)=ptr g:=e1;simp [Act.eval] at e1' ⊢;exact e1'
 have hdsz:d<a.tmps.size:=by rw [h.size];exact hd
 have hBw:B≤w.heap.size:=qg (h.lo _ (.inl (qj _))) h.base.size;unfold wpOp;simp only [ho,Region.wanted,if_true];refine .inl ?_;unfold Oper.wp;rw [hrun];refine (hcall B w g cs _ (h.lo g q2) q3 q4 hargs).mono ?_;rintro e0 w' ⟨v,cs',rfl,hv,hk,h1,h2⟩;refine hK _ _ ?_;have hls:∀ l∈Λ,l.s≠d:=λ l hl=>by simpa using qf.1 hΛd l hl
 have hrow:∀ {g:Nat}{c:Array Value}{T':TypeId}{fz:Nat × Nat},w.heap[g]?=some (.cells c T' fz)→T' ∉ Ts→w'.heap[g]?=some (.cells c T' fz):=λ {g c T' fz} hg1 hne =>
  (hk.block g (Array.getElem?_eq_some_iff.1 hg1).1 (λ⟨_,c',T2,fz',e5,e6⟩=>by
   rw [hg1] at e5;injection e5 with e5;injection e5 with _ e5 _;subst e5;exact hne e6)).trans hg1
 have hset:∀ m∈Λ.set e ⟨sx,T,ptrH,A1⟩,∃ m0∈Λ,m0.s=m.s:=λ m hm=>by
  rcases qB hm with hm|rfl
  ·exact ⟨m,hm,rfl⟩
  ·exact ⟨_,qa hl,rfl⟩
 refine ⟨h.lo,h.defers.keep rfl λ D hD=>(hk.block D (Array.getElem?_eq_some_iff.1 hD).1 (λ⟨_,c,T2,fz,e5,_⟩=>by rw [hD] at e5;cases e5)).trans hD,by rw [size_put];exact h.size,⟨hk.os.trans h.base.os,hk.tape.trans h.base.tape,hk.output.trans h.base.output,qg h.base.size hk.size,λ k h3 h4=>?_⟩,λ y hy=>?_,λ m hm=>?_,λ m1 hm1 m2 hm2 hne=>?_⟩
 ·refine (hk.block k (qE h3 h.base.size) (λ⟨q5,c,T2,fz,q6,q7⟩=>?_)).trans (h.base.block k h3 h4);rcases hrm T2 (by simpa using q7) w k c fz h.base q5 q6 with q8|q8
  ·omega
  ·exact h4 q8
 ·rcases qt.1 hy with rfl|hy
  ·show post.p B ((a.put (some d) v).eval (.tmp d)) w';rw [aM _ _ _ hdsz];exact hv
  ·obtain ⟨k,hk1,hk2⟩:=qS.1 hy;have hs:=qf.1 hsrc k hk1;simp only [hk2,qf,qz,qC,qn] at hs;have hyd:y.1≠d:=by simpa using qf.1 hΓ y (qa hk2)
   rw [an _ _ _ _ hyd];exact VA.kept (h.vals y (qa hk2)) hk hs
 ·obtain ⟨j,hj⟩:=List.getElem?_of_mem hm;by_cases e1:j=e
  ·subst e1;have:m=⟨sx,T,ptrH,A1⟩:=by
    rw [List.getElem?_set_self (List.getElem?_eq_some_iff.1 hl).1] at hj;injection hj with hj;exact hj.symm
   subst this;exact ⟨g,cs',by rw [an _ _ _ _ (hls _ (qa hl))];exact q1,q2,h1,h2⟩
  ·rw [List.getElem?_set_ne (λ e2=>e1 e2.symm)] at hj;have hc:=qf.1 hΛ (m,j) (zp.2 hj);simp only [z4,xw,qm,qz,qC,qn,qf] at hc;have hc':=hc.resolve_left e1;obtain ⟨g',cs2,p1,p2,p3,p4⟩:=h.locs m (qa hj);exact ⟨g',cs2,by rw [an _ _ _ _ (hls _ (qa hj))];exact p1,p2,hrow p3 hc'.1,As.kept p4 hk hc'.2⟩
 ·obtain ⟨m3,r1,r2⟩:=hset m1 hm1;obtain ⟨m4,r3,r4⟩:=hset m2 hm2;rw [← r2,← r4] at hne ⊢;rw [an _ _ _ _ (hls _ r1),an _ _ _ _ (hls _ r3)];exact h.dis m3 r1 m4 r3 hne
end
end Go.Proofs.YtbghmmnkciimdaaGreatDoor
