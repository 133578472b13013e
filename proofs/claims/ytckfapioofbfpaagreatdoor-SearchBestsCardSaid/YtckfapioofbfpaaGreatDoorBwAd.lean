import Derived.Test.YtckfapioofbfpaaGreatDoorBwAc
import Derived.Deep.Slices
import Derived.ArgAppend
set_option linter.all false
set_option maxRecDepth 100000
namespace Go.Proofs.YtckfapioofbfpaaGreatDoor
open Go Go.RowKit
variable {w:World}{B:Nat}{a:Act}{v:Value}{T:TypeId}{w0:Bs}{Γ:List (Nat × VA)}{Λ:List Lc}{ps:String}{af:Array Edge}{vr:Value}{H:Hd}{cs:List Value}{w':World}{P:Program}{D:List TypeId}
abbrev mkN (n:Nat):Nat:=100000+n
def EqS (v:Value):As where
 n:=1
 ag:=false
 p _ cs _:=cs=[v]∧v.oneCell'=true
 deps:=[]
 len:=by rintro B cs w ⟨rfl,_⟩;rfl
 one:=by rintro B cs w ⟨rfl,h⟩ c hc;simp at hc;subst hc;exact h
 ag1:=λ _=>rfl
 cg:=λ _ _ _ _ _ h=>h
 wr:=λ _ _ _ _ _ _ _ _ _ _ _ _ h=>h
theorem mz {v u:Yo}(h:(EqS v).va.p B u w):u=v:=by
 obtain ⟨cs,⟨rfl,_⟩,h2⟩:=h;exact h2
theorem pc:Wk (EqS v).va (EqV v):=λ _ _ _ h=>mz h
def Slot.view (s:Slot):As:=cat [EqS s.v,EqS s.z,NumA .i64 (s.n:Nat)]
structure Slot.wf (s:Slot):Prop where
 rv:RowV s.v s.xs.length
 ox:okL s.xs
 oy:okL s.ys
 z1:s.z.oneCell'=true
 n1:s.n≤1000000
 lx:s.xs.length≤2000000000000
theorem RowV.one {n:Nat}(h:RowV v n):v.oneCell'=true:=by
 rcases h with ⟨rfl,_⟩|⟨g,cap,rfl,_⟩ <;> rfl
theorem uD {B:Nat}{w:Yi}:∀ {L:List Slot},(∀ s∈L,s.wf)→(cat (L.map Slot.view)).p B (L.flatMap Slot.cells) w
 | [],_=>⟨[],rfl,.nil⟩
 | s::L,h=>by
  obtain ⟨ps,e,hp⟩:=uD (B:=B) (w:=w) (L:=L) λ t ht=>h t (by simp [ht]);refine ⟨s.cells::ps,by rw [xh,e];rfl,.cons ?_ hp⟩;exact ⟨[[s.v],[s.z],[.int .i64 s.n]],rfl,.cons ⟨rfl,(h s (by simp)).rv.one⟩ (.cons ⟨rfl,(h s (by simp)).z1⟩ (.cons G .nil))⟩
theorem MU {L:List Slot}(h:∀ s∈L,s.wf):Wk (HbA vr L).va (SlA 138 [] (L.map Slot.view)).va:=λ B v w ⟨cs,⟨e,h2,_⟩,hv⟩=>by
 subst e;have hv':v=vr:=hv;subst hv';refine l7 (b:=B) (m:=3) B v w ⟨λ A hA=>?_,λ A hA T hT=>?_,L.flatMap Slot.cells,uD h,?_⟩
 ·obtain ⟨s,_,rfl⟩:=qp.1 hA;rfl
 ·obtain ⟨s,_,rfl⟩:=qp.1 hA;cases (show T∈([]:List TypeId) from hT)
 ·rw [qd];exact h2
theorem Ac {xs:Ya}(h:Rdy B w v xs)(ok:okL xs):(MgA xs).va.p B v w:=by
 rcases h.1 with ⟨rfl,e⟩|⟨g,cap,rfl,h1,h2⟩
 ·exact eu ⟨ok,by omega,zf _,λ h=>by omega⟩ e.symm
 ·obtain ⟨_,c,h3,h4⟩:=h.2 g rfl;refine eu (Mag.own h3 ok h1 h2 λ j hj=>?_) rfl;have h5:=qt (λ l=>l[j]?) h4;simp only [List.getElem?_take,hj,if_true,List.getElem?_map,List.getElem?_eq_getElem hj,qT] at h5;rw [← Array.getElem?_toList];exact h5
theorem AM {ys:Ya}(h:w.ownsRow B U32 1 v ys.length (ys.map lv)):Rdy B w v ys:=by
 rcases h.2 with ⟨rfl,e⟩|⟨g,cap,cur,rfl,h1,h2,h3,h4,h5,h6⟩
 ·exact ⟨.inl ⟨rfl,e⟩,λ g hg=>by cases hg⟩
 ·refine ⟨.inr ⟨g,cap,rfl,h3,h4⟩,λ g' hg=>?_⟩;have:g=g':=by simpa [Value.ownBlock] using hg
  subst this;rw [zH] at h6;exact ⟨h1,cur,h2,h6⟩
section
open Rg
variable {P:Program}{Q:Exit→Act→World→Prop}{R:Rg}{B i:Nat}{w0:Bs}
end
theorem yc {n:Nat}(h:n≤1000000):IntKind.i64.wrap (100000+(n:Int))=((mkN n:Nat):Int):=by
 rw [wi64 zo zo];simp
theorem sZ {n:Nat}(h:n≤1000000):IntKind.u32.wrap ((mkN n:Nat):Int)=((mkN n:Nat):Int):=wu32 (by unfold mkN;omega)
theorem Gu (n0:Nat)(hn:n0≤1000000):Cn Tryz.prog 140 [In (n0:Nat)] ((NumA .u32 (mkN n0:Nat)).va):=by
 refine Cn.intro Tryz.func140 G zk nq (zy [(0,In (n0:Nat))] λ B w0 a U=>?_);refine qb<|zh Ux UZ U (zv G (bc (aE 0 G)) o0) (zz R1 [] ?_);refine ztA<|zhA (Wb 3 [.v 2 _]) UG (zM 0 G (zv G (aL ab (vq 0 G) (yc hn)) (zv G (aI .u32 zk zk (vq 1 G) (sZ hn)) (zA 2 G o0)))) (zz Uu [] λ a w U=>?_);exact aa<|qi<|ak G U (zm 0 G)
theorem tQ (x0 n0:Nat)(hn:n0≤1000000):Cn Tryz.prog 156 [(NumA .u32 (x0:Nat)).va,In (n0:Nat)] (Bo (((x0:Nat):Int)==((mkN n0:Nat):Int))):=by
 refine Cn.intro Tryz.func156 G zk nq (zy [(0,(NumA .u32 (x0:Nat)).va),(1,In (n0:Nat))] λ B w0 a U=>?_);refine qb<|zh WP WQ U (zE G aJ) (zz WR [] ?_);refine ztA<|zhA (Wd 5 [.v 4 _]) [.o 5] (zM 0 G (zM 1 G (zv G (aL ab (vq 1 G) (yc hn)) (zv G (aI .u32 zk zk (vq 2 G) (sZ hn)) (zv G (bF (vq 0 G) (vq 3 G)) (zA 4 G o0)))))) (zz U0 [] λ a w U=>?_);exact aa<|qi<|ak G U (zm 0 G)
theorem lw:Str Tryz.prog 138 [EqS (.slice none 0 0),EqS (.slice none 0 0),NumA .i64 0] :=
 Str.of (z:=.agg #[.slice none 0 0,.slice none 0 0,.int .i64 0]) zk Tryz.underlying138 zk λ B w=>⟨[[.slice none 0 0],[.slice none 0 0],[.int .i64 0]],rfl,.cons ⟨rfl,rfl⟩ (.cons ⟨rfl,rfl⟩ (.cons rfl .nil))⟩
def Slot.fil (s:Slot)(k:Nat):Slot:={ s with xs:=List.replicate k (mkN s.n)++s.xs.drop k,ys:=List.replicate k (mkN s.n)++s.xs.drop k }
theorem iW {s:Slot}{k:Nat}(h:k≤s.xs.length):(s.fil k).xs.length=s.xs.length:=by
 show (List.replicate k (mkN s.n)++s.xs.drop k).length=_;rw [qx,qR,xM];omega
theorem N8 {s:Slot}(h:s.ys=s.xs):s.fil 0=s:=by
 obtain ⟨v,xs,u,ys,z,n⟩:=s;have h:ys=xs:=h;subst h
 rfl
theorem K5 {s:Slot}{k:Nat}(h:k<s.xs.length):(s.fil k).xs.set k (mkN s.n)=(s.fil (k+1)).xs:=by
 show (List.replicate k (mkN s.n)++s.xs.drop k).set k (mkN s.n)=List.replicate (k+1) (mkN s.n)++s.xs.drop (k+1);rw [xY _ _ (by simp),qR,jb,qG h,vV,x6,qY]
 rfl
structure Slot.new (s:Slot):Prop extends s.wf where
 uv:s.u=s.v
 yx:s.ys=s.xs
theorem Jb {n k:Nat}(h:n≤1000000):okL (List.replicate k (mkN n)):=λ x hx=>by
 rw [(xN.1 hx).2];unfold mkN;omega
theorem C5 {s:Slot}{k:Nat}(h:s.wf):okL (s.fil k).xs:=λ x hx=>by
 rcases qn.1 hx with hx|hx
 ·exact Jb h.n1 x hx
 ·exact h.ox x (vE hx)
theorem C4 {s:Slot}{k:Nat}(h:s.wf)(hk:k≤s.xs.length):(s.fil k).wf:=⟨by rw [iW hk];exact h.rv,C5 h,C5 h,h.z1,h.n1,by rw [iW hk];exact h.lx⟩
def fl (L:List Slot)(i k:Nat):List Slot:=L.mapIdx λ j s=>if j<i then s.fil s.xs.length else if j=i then s.fil k else s
theorem BZ {L:List Slot}{i k:Nat}:(fl L i k).length=L.length:=by unfold fl;simp
theorem EZ {L:List Slot}{i k:Nat}{s:Slot}(h:L[i]?=some s):(fl L i k)[i]?=some (s.fil k):=by
 unfold fl;rw [List.getElem?_mapIdx,h];simp
theorem K2 {L:List Slot}{i k:Nat}{s:Slot}(h:L[i]?=some s)(hk:k<s.xs.length):(fl L i k).set i { s.fil k with xs:=(s.fil k).xs.set k (mkN s.n),ys:=(s.fil k).xs.set k (mkN s.n) }=fl L i (k+1):=by
 apply jX;intro j;by_cases e:j=i
 ·subst e;rw [List.getElem?_set_self (by rw [BZ];exact (List.getElem?_eq_some_iff.1 h).1),EZ h,K5 hk]
  rfl
 ·rw [List.getElem?_set_ne (λ e2=>e e2.symm)];unfold fl;rw [List.getElem?_mapIdx,List.getElem?_mapIdx];simp [e]
theorem K3 {L:List Slot}{i:Nat}{s:Slot}(h:L[i]?=some s)(hn:∀ s∈L,s.new):fl L i s.xs.length=fl L (i+1) 0:=by
 apply jX;intro j;unfold fl;rw [List.getElem?_mapIdx,List.getElem?_mapIdx];cases hj:L[j]? with
 | none=>rfl
 | some t =>
  simp only [qT];by_cases e:j=i
  ·subst e;rw [h] at hj;injection hj with hj;subst hj;simp
  ·by_cases e1:j<i
   ·rw [qC e1,qC zo]
   ·rw [qy e1,qy e,qy zo];by_cases e2:j=i+1
    ·rw [qC e2,N8 (hn t (qa hj)).yx]
    ·rw [qy e2]
theorem K1 {L:List Slot}(hn:∀ s∈L,s.new):fl L 0 0=L:=by
 apply jX;intro j;unfold fl;rw [List.getElem?_mapIdx];cases hj:L[j]? with
 | none=>rfl
 | some t =>
  simp only [qT,kZ,if_false];by_cases e:j=0
  ·rw [qC e,N8 (hn t (qa hj)).yx]
  ·rw [qy e]
theorem N6 {L:List Slot}{k:Nat}:fl L L.length k=L.map λ s=>s.fil s.xs.length:=by
 apply jX;intro j;unfold fl;rw [List.getElem?_mapIdx,List.getElem?_map];cases hj:L[j]? with
 | none=>rfl
 | some t =>
  have:=(List.getElem?_eq_some_iff.1 hj).1;simp only [qT];rw [qC this]
theorem Pt {L:List Slot}{i k:Nat}(hn:∀ s∈L,s.new)(hk:∀ s,L[i]?=some s→k≤s.xs.length):∀ s∈fl L i k,s.wf:=λ s hs=>by
 obtain ⟨j,hj⟩:=List.getElem?_of_mem hs;unfold fl at hj;rw [List.getElem?_mapIdx] at hj;cases ht:L[j]? with
 | none=>rw [ht] at hj;cases hj
 | some t =>
  rw [ht] at hj;have hw:=(hn t (qa ht)).towf;simp only [qT,Option.some.injEq] at hj;split at hj
  ·subst hj;exact C4 hw (qh _)
  ·split at hj
   ·rename_i e;subst e;subst hj;exact C4 hw (hk t ht)
   ·subst hj;exact hw
theorem rG {L:List Slot}{i:Nat}{s:Slot}(h:L[i]?=some s):(L.map Slot.view)[i]?=some s.view:=by rw [List.getElem?_map,h];rfl
theorem yf {L:List Slot}:∀ A∈L.map Slot.view,A.n=3:=λ A hA=>by
 obtain ⟨s,_,rfl⟩:=qp.1 hA;rfl
theorem RowV.row {n k:Nat}(h:RowV v n)(hk:k<n):∃ g cap,v=.slice (some ⟨g,0,none⟩) n cap:=by
 rcases h with ⟨_,e⟩|⟨g,cap,h,_⟩
 ·omega
 ·exact ⟨g,cap,h⟩
theorem bU {ops:Yg}{Q:Yd}(h:Q .normal a w):wpOps P ops Q [] a w:=h
theorem dm {ops:Yg}{Q:Yd}(h:Q .normal a w):wpOps P ops Q [] (a.put none undef) w:=h
theorem Hn {k:Yp}{n:Int}:Wk (NumA k n).va (EqV (.int k n)):=λ _ _ _ h=>bg h
theorem FG:∃ it z,Tryz.prog.info? 139=some it∧it.zero=some z∧it.size=1∧it.bytes=4∧z.cells.size=1:=by
 have h:((Tryz.prog.info? 139).bind λ it=>it.zero.map λ z=>(it.size,it.bytes,z.cells.size))=some (1,4,1):=by kernel_rfl
 cases hi:Tryz.prog.info? 139 with
 | none=>rw [hi] at h;simp at h
 | some it =>
  rw [hi] at h;cases hz:it.zero with
  | none=>simp [hz] at h
  | some z =>
   simp [hz] at h;exact ⟨it,z,rfl,hz,h.1,h.2.1,h.2.2⟩
def Slot.ext (s:Slot)(u:Value)(k:Nat):Slot:={ s with u:=u,ys:=List.replicate (s.xs.length+k) (mkN s.n) }
structure Slot.full (s:Slot):Prop extends s.wf where
 uv:s.u=s.v
 yx:s.ys=s.xs
 xm:s.xs=List.replicate s.xs.length (mkN s.n)
theorem Pw {s:Slot}(h:s.full):s.ext s.v 0=s:=by
 have h1:=h.uv;have h2:=h.yx;have h3:=h.xm;obtain ⟨v,xs,u,ys,z,n⟩:=s;simp only at h1 h2 h3;subst h1 h2;show Slot.mk u ys u (List.replicate (ys.length+0) (mkN n)) z n=_;rw [xU,← h3]
structure Grew (s t:Slot):Prop where
 v:t.v=s.v
 xs:t.xs=s.xs
 n:t.n=s.n
 z:t.z=t.u
 ys:t.ys=List.replicate (s.xs.length+70) (mkN s.n)
def Gr (L M:List Slot)(i:Nat):Prop:=M.length=L.length∧∀ (j:Nat) s,L[j]?=some s→∃ t,M[j]?=some t∧(j<i→Grew s t)∧(i≤j→t=s)
theorem gr_0 {L:List Slot}:Gr L L 0:=⟨rfl,λ j s h=>⟨s,h,λ h=>absurd h (kZ _),λ _=>rfl⟩⟩
theorem Pq {L M:List Slot}{i:Nat}{s:Slot}(h:Gr L M i)(hs:L[i]?=some s):M[i]?=some s:=by
 obtain ⟨t,h1,_,h2⟩:=h.2 i s hs;rw [h1,h2 (qh _)]
theorem JO {L M:List Slot}{i:Nat}{s:Slot}{u:Yo}(h:Gr L M i)(hs:L[i]?=some s):Gr L (M.set i { s.ext u 70 with z:=u }) (i+1):=by
 refine ⟨by rw [qZ];exact h.1,λ j s' hj=>?_⟩;by_cases e:j=i
 ·subst e;rw [hs] at hj;injection hj with hj;subst hj;refine ⟨_,List.getElem?_set_self (by rw [h.1];exact (List.getElem?_eq_some_iff.1 hs).1),λ _=>⟨rfl,rfl,rfl,rfl,rfl⟩,λ h=>by omega⟩
 ·obtain ⟨t,h1,h2,h3⟩:=h.2 j s' hj;exact ⟨t,by rw [List.getElem?_set_ne (λ e2=>e e2.symm)];exact h1,λ h=>h2 zo,λ h=>h3 zo⟩
theorem MY {L M:List Slot}{i:Nat}(h:Gr L M i){t:Slot}(ht:t∈M):∃ s∈L,Grew s t∨t=s:=by
 obtain ⟨j,hj⟩:=List.getElem?_of_mem ht;have hlt:=(List.getElem?_eq_some_iff.1 hj).1;rw [h.1] at hlt;obtain ⟨t',h1,h2,h3⟩:=h.2 j _ (List.getElem?_eq_getElem hlt);rw [hj] at h1;injection h1 with h1;subst h1;refine ⟨_,qg hlt,?_⟩;by_cases e:j<i
 ·exact .inl (h2 e)
 ·exact .inr (h3 zo)
def One1 (M:List Slot):Prop:=∀ s∈M,s.v.oneCell'=true∧s.z.oneCell'=true
theorem rx {B:Nat}{w:Yi}:∀ {L:List Slot},One1 L→(cat (L.map Slot.view)).p B (L.flatMap Slot.cells) w
 | [],_=>⟨[],rfl,.nil⟩
 | s::L,h=>by
  obtain ⟨ps,e,hp⟩:=rx (B:=B) (w:=w) (L:=L) λ t ht=>h t (by simp [ht]);refine ⟨s.cells::ps,by rw [xh,e];rfl,.cons ?_ hp⟩;exact ⟨[[s.v],[s.z],[.int .i64 s.n]],rfl,.cons ⟨rfl,(h s (by simp)).1⟩ (.cons ⟨rfl,(h s (by simp)).2⟩ (.cons G .nil))⟩
theorem tU {L:List Slot}(h:One1 L):Wk (HbA vr L).va (SlA 138 [] (L.map Slot.view)).va:=λ B v w ⟨cs,⟨e,h2,_⟩,hv⟩=>by
 subst e;have hv':v=vr:=hv;subst hv';refine l7 (b:=B) (m:=3) B v w ⟨λ A hA=>?_,λ A hA T hT=>?_,L.flatMap Slot.cells,rx h,?_⟩
 ·obtain ⟨s,_,rfl⟩:=qp.1 hA;rfl
 ·obtain ⟨s,_,rfl⟩:=qp.1 hA;cases (show T∈([]:List TypeId) from hT)
 ·rw [qd];exact h2
theorem JG {L:List Slot}:Wk (HbA vr L).va (EqV vr):=λ B v w ⟨cs,⟨e,_⟩,hv⟩=>by
 subst e;exact hv
theorem cV {E m n B:Nat}{xs:Ym}(h:w.ownsRow B E m v n xs):v.oneCell'=true∧RowV v n:=by
 rcases h.2 with ⟨rfl,e⟩|⟨g,cap,cur,rfl,_,_,h3,h4,_⟩
 ·exact ⟨rfl,.inl ⟨rfl,e⟩⟩
 ·exact ⟨rfl,.inr ⟨g,cap,rfl,h3,h4⟩⟩
theorem gr_z {L M:List Slot}{i:Nat}(h:Gr L M i)(hf:∀ s∈L,s.full):∀ t∈M,t.z.oneCell'=true∨t.z=t.u:=λ t ht=>by
 obtain ⟨s,hs,h1|h1⟩:=MY h ht
 ·exact .inr h1.z
 ·subst h1;exact .inl (hf t hs).z1
theorem RowV.cell {n:Nat}(h:RowV v n):v.cells = #[v]:=by
 rcases h with ⟨rfl,_⟩|⟨g,cap,rfl,_⟩ <;> rfl
theorem okm {n:Nat}(h:n≤1000000):okL [mkN n]:=λ y hy=>by
 have:y=mkN n:=by simpa using hy
 subst this;unfold mkN;omega
theorem L0 {l:Ya}:Wk (MgA l).va (SlA U32 [] (l.map λ (x:Nat)=>NumA .u32 (x:Int))).va:=λ _ _ _ h=>(en h).2
theorem yR {M:List Slot}{i:Nat}{x y:Slot}:(M.set i x).set i y=M.set i y:=by simp
theorem DC {M:List Slot}{i:Nat}{x:Slot}(h:M[i]?=some x):M.set i x=M:=by
 obtain ⟨h1,h2⟩:=List.getElem?_eq_some_iff.1 h;subst h2;simp
structure Slot.done (t:Slot):Prop where
 zu:t.z=t.u
 xm:t.xs=List.replicate t.xs.length (mkN t.n)
 ym:t.ys=List.replicate (t.xs.length+70) (mkN t.n)
 n1:t.n≤1000000
 lx:t.xs.length≤2000000000000
theorem JP {L M:List Slot}(h:Gr L M L.length)(hf:∀ s∈L,s.full):∀ t∈M,t.done:=λ t ht=>by
 obtain ⟨j,hj⟩:=List.getElem?_of_mem ht;have hlt:=(List.getElem?_eq_some_iff.1 hj).1;rw [h.1] at hlt;obtain ⟨t',h1,h2,_⟩:=h.2 j _ (List.getElem?_eq_getElem hlt);rw [hj] at h1;injection h1 with h1;subst h1;have hG:=h2 hlt;have hs:=hf _ (qg hlt);refine ⟨hG.z,?_,?_,?_,?_⟩
 ·rw [hG.xs,hG.n];exact hs.xm
 ·rw [hG.xs,hG.n];exact hG.ys
 ·rw [hG.n];exact hs.n1
 ·rw [hG.xs];exact hs.lx
theorem oQ {t:Slot}(h:t.done):t.ys.length=t.xs.length+70:=by rw [h.ym,qR]
theorem Co {t:Slot}(h:t.done):okL t.xs:=h.xm▸Jb h.n1
theorem Cl {t:Slot}(h:t.done):okL t.ys:=h.ym▸Jb h.n1
theorem Kk {t:Slot}(h:t.done){k:Nat}(hk:k<t.xs.length):t.xs[k]=mkN t.n:=by
 have h1:=h.xm;have h2:t.xs[k]?=(List.replicate t.xs.length (mkN t.n))[k]?:=qt (λ l=>l[k]?) h1;rw [List.getElem?_eq_getElem hk,List.getElem?_replicate,qC hk] at h2;injection h2
theorem Kj {t:Slot}(h:t.done){k:Nat}(hk:k<t.ys.length):t.ys[k]=mkN t.n:=by
 have h2:t.ys[k]?=(List.replicate (t.xs.length+70) (mkN t.n))[k]?:=qt (λ l=>l[k]?) h.ym;rw [List.getElem?_eq_getElem hk,List.getElem?_replicate,qC (by rw [← oQ h];exact hk)] at h2;injection h2
theorem Jj {t:Slot}(h:t.done){k:Nat}(hk:k<t.ys.length):((!(((t.ys[k]:Nat):Int)==((mkN t.n:Nat):Int))) || (decide ((k:Int)<(t.xs.length:Int))&&(!(((t.xs.getD k 0:Nat):Int)==((mkN t.n:Nat):Int)))))=false:=by
 rw [Kj h hk,beq_self_eq_true,vj,xQ];by_cases h2:k<t.xs.length
 ·rw [List.getD_eq_getElem?_getD,List.getElem?_eq_getElem h2,xy,Kk h h2,beq_self_eq_true,vj,Bool.and_false]
 ·rw [zK zo,Bool.false_and]
section
open Rg
variable {P:Program}{Q:Exit→Act→World→Prop}{B N:Nat}{w0:Bs}{Γ:List (Nat × VA)}{Λ:List Lc}{a:Act}{w:World}
def lesA (Λ:List Lc)(d n:Nat):List Le:=(Λ.map λ l=>⟨l.s,l.T,l.H,none,l.A,none⟩)++[⟨d,999999,ptrH,some n,OneC,some (n+1,OneC)⟩]
theorem tZ {id:Nat}{ops:Yg}{sp:Yu}(n m d:Nat)(src:List Src)
  (h:St B w0 N Γ Λ a w) (hob:Obs P Q ⟨ops,N,Γ,lesA Λ d n,sp,λ i=>List.range i⟩ B w0 0 n) (hsz:ops.size=n+m) (hk:Rg.chk ⟨ops,N,Γ,lesA Λ d n,sp,λ i=>List.range i⟩=true)
  (hsrc:src.all (λ s=>match s with | .g k=>(match Γ[k]? with|some x=>Rg.outG ⟨ops,N,Γ,lesA Λ d n,sp,λ i=>List.range i⟩ x.1|none=>false) | .o i=>decide (i<n))=true)
  (hQ:∀ a' w',St B w0 N (src.filterMap (cA ⟨ops,N,Γ,lesA Λ d n,sp,λ i=>List.range i⟩)) Λ a' w'→wpOps P ops Q (List.range' n m) a' w'):(Code.region id ops false).wp P Q a w:=by
 refine Rg.linK (R:=⟨ops,N,Γ,lesA Λ d n,sp,λ i=>List.range i⟩) (m:=m) hsz G hk h (λ y hy hcr=>?_) (λ i hi=>hob.all i zo zo) λ a1 w1 hinv=>?_
 ·rcases qn.1 hy with hy|hy
  ·obtain ⟨l,hl,rfl⟩:=qp.1 hy;exact hl
  ·obtain rfl:=ql.1 hy;cases hcr
 ·exact hQ a1 w1 (mp (λ l' hl'=>⟨none,qn.2 (.inl (qp.2 ⟨l',hl',rfl⟩))⟩) (λ y hy i A' h1=>by
   rcases qn.1 hy with hy|hy
   ·obtain ⟨l,hl,rfl⟩:=qp.1 hy;cases h1
   ·obtain rfl:=ql.1 hy;injection h1 with h1;injection h1 with h1 _;omega) hinv src hsrc)
end
section
open Rg
variable {P:Program}{Q:Exit→Act→World→Prop}{R:Rg}{B i:Nat}{w0:Bs}
theorem m9 {x:Yj}{E:Yh}{A:As}(hx:Has R B w0 i x (ElP E A)):Wv P Q R B w0 i (.nilCheck x) (ElP E A) :=
 bj λ d T ps af gd a w av=>by
  have h:=hx a w av;obtain ⟨b,o,cs,hv,_⟩:=h;exact ⟨a.eval x,w,by simp [execOp,hv],Grow.refl w,hx a w av⟩
end
theorem L3 {n:Nat}(h:n≤2000000000000):IntKind.i64.wrap ((n:Int)+70)=((n+70:Nat):Int):=by rw [wi64 zo zo];rfl
theorem bo:Wk (EqS (.slice none 0 0)).va (SlA 0 [] []).va:=cz pc B9
section
open Rg
variable {R:Rg}{B i:Nat}{w0:Bs}
end
theorem Oa {f : Yn}{fn : Func}{E : VA}{r0 r1 rest y : Code}{i t : Nat} (hf : P.funcs[f]? = some fn) (hb : fn.body = some (.seq r0 (.block i (.loop (.seq (.seq r1 (.cond (.tmp t) y (.exit i))) rest))))) (hn : (fn.name == "runtime.NumGoroutine") = false) (hsz : [E].length ≤ fn.ntmps) (hr : fn.results = #[])
  (h0:∀ (B:Nat) (w0:Bs) (a:Act) (w:World) (Q:Exit→Act→World→Prop),St B w0 fn.ntmps [(0,E)] [] a w→(∀ a w,St B w0 fn.ntmps [(0,E),(2,In 0)] [] a w→Q .normal a w)→r0.wp P Q a w)
  (h1:∀ (B:Nat) (w0:Bs) (a:Act) (w:World) (Q:Exit→Act→World→Prop),St B w0 fn.ntmps [(0,E),(2,In 0)] [] a w→(∀ a w,St B w0 fn.ntmps [(t,Bo false)] [] a w→Q .normal a w)→r1.wp P Q a w):Cn P f [E] (Tu []):=by
 refine Cn.intro hf hb hn hsz (λ B w0 a U=>?_);refine qb (h0 B w0 a _ _ U λ a w U=>?_);refine aa<|qk<|wp_loop_ghost (λ n a w=>St B w0 fn.ntmps [(0,E),(2,In 0)] [] a w) 0 U ?_;intro n a w U;refine qb<|qb (h1 B w0 a w _ U λ a w U=>?_);refine zJ 0 U G (λ hb0=>?_) (λ hb0=>?_)
 ·exact absurd hb0 zd
 exact qP<|ai<|ai<|az<|cY<|aX (rs:=[]) hr U .nil zd
theorem Q7 {f : Yn}{fn : Func}{E : VA}{r0 r1 r2 r3 rest y : Code}{i t : Nat} (hf : P.funcs[f]? = some fn) (hb : fn.body = some (.seq r0 (.seq (.seq r3 (.block i (.loop (.seq (.seq r1 (.cond (.tmp t) y (.exit i))) rest)))) (.seq r2 .ret)))) (hn : (fn.name == "runtime.NumGoroutine") = false) (hsz : [E].length ≤ fn.ntmps) (hr : fn.results = #[.tmp 2])
  (h0:∀ (B:Nat) (w0:Bs) (a:Act) (w:World) (Q:Exit→Act→World→Prop),St B w0 fn.ntmps [(0,E)] [] a w→(∀ a w,St B w0 fn.ntmps [(0,E)] [] a w→Q .normal a w)→r0.wp P Q a w)
  (h3:∀ (B:Nat) (w0:Bs) (a:Act) (w:World) (Q:Exit→Act→World→Prop),St B w0 fn.ntmps [(0,E)] [] a w→(∀ a w,St B w0 fn.ntmps [(0,E),(3,In 0)] [] a w→Q .normal a w)→r3.wp P Q a w)
  (h1:∀ (B:Nat) (w0:Bs) (a:Act) (w:World) (Q:Exit→Act→World→Prop),St B w0 fn.ntmps [(0,E),(3,In 0)] [] a w→(∀ a w,St B w0 fn.ntmps [(0,E),(t,Bo false)] [] a w→Q .normal a w)→r1.wp P Q a w)
  (h2:∀ (B:Nat) (w0:Bs) (a:Act) (w:World) (Q:Exit→Act→World→Prop),St B w0 fn.ntmps [(0,E),(t,Bo false)] [] a w→(∀ a w,St B w0 fn.ntmps [(2,Bo true)] [] a w→Q .normal a w)→r2.wp P Q a w):Cn P f [E] (Bo true):=by
 refine Cn.intro hf hb hn hsz (λ B w0 a U=>?_);refine qb (h0 B w0 a _ _ U λ a w U=>?_);refine zt<|qb (h3 B w0 a w _ U λ a w U=>?_);refine aa<|qk<|wp_loop_ghost (λ n a w=>St B w0 fn.ntmps [(0,E),(3,In 0)] [] a w) 0 U ?_;intro n a w U;refine qb<|qb (h1 B w0 a w _ U λ a w U=>?_);refine zJ 1 U G (λ hb0=>?_) (λ hb0=>?_)
 ·exact absurd hb0 zd
 refine qP<|ai<|ai<|az<|aa<|qb (h2 B w0 a w _ U λ a w U=>?_);exact aa<|qi<|ak hr U (zm 0 G)
theorem da {f : Yn}{fn : Func}{A0 A1 : As}{e : Yh}{k o i i0 i1 : Nat}{SH EE X1 X2 : Yh}{T0 : Yh}{p0 : Yv}{a0 : Yw}{T1 : Yh}{p1 : Yv}{a1 : Yw}{T2 : Yh}{p2 : Yv}{a2 : Yw}{T3 : Yh}{p3 : Yv}{a3 : Yw}{T4 : Yh}{p4 : Yv}{a4 : Yw}{T5 : Yh}{p5 : Yv}{a5 : Yw}{T6 : Yh}{p6 : Yv}{a6 : Yw}{T7 : Yh}{p7 : Yv}{a7 : Yw}{rest y : Code} (hf : P.funcs[f]? = some fn) (hb : fn.body = some (.seq (.region i0 #[⟨some 2, .assign (.const (.int .i64 0)), T0, p0, a0, none⟩] false) (.block i (.loop (.seq (.seq (.region i1 #[⟨some 5, .move (.tmp 2), T1, p1, a1, none⟩, ⟨some 6, .move (.tmp 0), T2, p2, a2, none⟩, ⟨some 7, .nilCheck (.tmp 6), T3, p3, a3, none⟩, ⟨some 8, .fieldAddr 59 (.tmp 7) k, T4, p4, a4, none⟩, ⟨some 9, .load SH (.tmp 8), T5, p5, a5, none⟩, ⟨some 10, .call ⟨.builtin .len, #[.tmp 9], #[SH]⟩, T6, p6, a6, none⟩, ⟨some 11, .binOp .lss X1 (.tmp 5) (.tmp 10) X2, T7, p7, a7, none⟩] false) (.cond (.tmp 11) y (.exit i))) rest))))) (hn : (fn.name == "runtime.NumGoroutine") = false) (hN : fn.ntmps = 35) (hr : fn.results = #[]) (hfl : Fld P 59 k o A1.n) (hS : Sub A0 o A1) (hty : Ty P SH A1.n A1.ag) (hU : P.underlying SH = some (.slice EE)) (hA : Wk A1.va (SlA e [] []).va) : Cn P f [ElP 59 A0] (Tu []) := by
 refine Oa hf hb hn (by rw [hN];exact ju G) hr ?_ ?_ <;> rw [hN]
 ·exact (λ B w0 a w Q U k=>zh Ux UZ U (zE G ab) k)
 ·exact (λ B w0 a w Q U k=>zh (WG 5) [.o 6] U (zM 1 G (zM 0 G (zv G (m9 (vq 1 G)) (zv G (bP (vq 2 G) hfl hS) (zv G (ap (vq 3 G) hty) (zv G (bn hU (has_wk' (vq 4 G) hA)) (zv G (aO (vq 0 G) (vq 5 G)) o0))))))) k)
theorem d9 {f : Yn}{fn : Func}{A0 A1 : As}{e : Yh}{k o i i0 i1 : Nat}{SH EE X1 X2 : Yh}{T0 : Yh}{p0 : Yv}{a0 : Yw}{T1 : Yh}{p1 : Yv}{a1 : Yw}{T2 : Yh}{p2 : Yv}{a2 : Yw}{T3 : Yh}{p3 : Yv}{a3 : Yw}{T4 : Yh}{p4 : Yv}{a4 : Yw}{T5 : Yh}{p5 : Yv}{a5 : Yw}{T6 : Yh}{p6 : Yv}{a6 : Yw}{T7 : Yh}{p7 : Yv}{a7 : Yw}{rest y : Code} (hf : P.funcs[f]? = some fn) (hb : fn.body = some (.seq (.region i0 #[⟨some 2, .assign (.const (.int .i64 0)), T0, p0, a0, none⟩] false) (.block i (.loop (.seq (.seq (.region i1 #[⟨some 6, .move (.tmp 2), T1, p1, a1, none⟩, ⟨some 7, .move (.tmp 0), T2, p2, a2, none⟩, ⟨some 8, .nilCheck (.tmp 7), T3, p3, a3, none⟩, ⟨some 9, .fieldAddr 59 (.tmp 8) k, T4, p4, a4, none⟩, ⟨some 10, .load SH (.tmp 9), T5, p5, a5, none⟩, ⟨some 11, .call ⟨.builtin .len, #[.tmp 10], #[SH]⟩, T6, p6, a6, none⟩, ⟨some 12, .binOp .lss X1 (.tmp 6) (.tmp 11) X2, T7, p7, a7, none⟩] false) (.cond (.tmp 12) y (.exit i))) rest))))) (hn : (fn.name == "runtime.NumGoroutine") = false) (hN : fn.ntmps = 42) (hr : fn.results = #[]) (hfl : Fld P 59 k o A1.n) (hS : Sub A0 o A1) (hty : Ty P SH A1.n A1.ag) (hU : P.underlying SH = some (.slice EE)) (hA : Wk A1.va (SlA e [] []).va) : Cn P f [ElP 59 A0] (Tu []) := by
 refine Oa hf hb hn (by rw [hN];exact ju G) hr ?_ ?_ <;> rw [hN]
 ·exact (λ B w0 a w Q U k=>zh Ux UZ U (zE G ab) k)
 ·exact (λ B w0 a w Q U k=>zh (WG 6) [.o 6] U (zM 1 G (zM 0 G (zv G (m9 (vq 1 G)) (zv G (bP (vq 2 G) hfl hS) (zv G (ap (vq 3 G) hty) (zv G (bn hU (has_wk' (vq 4 G) hA)) (zv G (aO (vq 0 G) (vq 5 G)) o0))))))) k)
theorem d7 {f : Yn}{fn : Func}{A0 A1 : As}{e : Yh}{k o i i0 i1 i8 i9 : Nat}{SH EE X1 X2 : Yh}{T0 : Yh}{p0 : Yv}{a0 : Yw}{T1 : Yh}{p1 : Yv}{a1 : Yw}{T2 : Yh}{p2 : Yv}{a2 : Yw}{T3 : Yh}{p3 : Yv}{a3 : Yw}{T4 : Yh}{p4 : Yv}{a4 : Yw}{T5 : Yh}{p5 : Yv}{a5 : Yw}{T6 : Yh}{p6 : Yv}{a6 : Yw}{T7 : Yh}{p7 : Yv}{a7 : Yw}{T8 : Yh}{p8 : Yv}{a8 : Yw}{T9 : Yh}{p9 : Yv}{a9 : Yw}{rest y : Code} (hf : P.funcs[f]? = some fn) (hb : fn.body = some (.seq (.region i0 #[⟨some 2, .assign (.const (.bool false)), T0, p0, a0, none⟩] false) (.seq (.seq (.region i8 #[⟨some 3, .assign (.const (.int .i64 0)), T8, p8, a8, none⟩] false) (.block i (.loop (.seq (.seq (.region i1 #[⟨some 6, .move (.tmp 3), T1, p1, a1, none⟩, ⟨some 7, .move (.tmp 0), T2, p2, a2, none⟩, ⟨some 8, .nilCheck (.tmp 7), T3, p3, a3, none⟩, ⟨some 9, .fieldAddr 59 (.tmp 8) k, T4, p4, a4, none⟩, ⟨some 10, .load SH (.tmp 9), T5, p5, a5, none⟩, ⟨some 11, .call ⟨.builtin .len, #[.tmp 10], #[SH]⟩, T6, p6, a6, none⟩, ⟨some 12, .binOp .lss X1 (.tmp 6) (.tmp 11) X2, T7, p7, a7, none⟩] false) (.cond (.tmp 12) y (.exit i))) rest)))) (.seq (.region i9 #[⟨some 2, .assign (.const (.bool true)), T9, p9, a9, none⟩] false) .ret)))) (hn : (fn.name == "runtime.NumGoroutine") = false) (hN : fn.ntmps = 64) (hr : fn.results = #[.tmp 2]) (hfl : Fld P 59 k o A1.n) (hS : Sub A0 o A1) (hty : Ty P SH A1.n A1.ag) (hU : P.underlying SH = some (.slice EE)) (hA : Wk A1.va (SlA e [] []).va) : Cn P f [ElP 59 A0] (Bo true) := by
 refine Q7 hf hb hn (by rw [hN];exact ju G) hr ?_ ?_ ?_ ?_ <;> rw [hN]
 ·exact (λ B w0 a w Q U k=>zh Ux UH U (zE G aJ) k)
 ·exact (λ B w0 a w Q U k=>zh Rr UZ U (zE G ab) k)
 ·exact (λ B w0 a w Q U k=>zh (WG 6) [.g 0,.o 6] U (zM 1 G (zM 0 G (zv G (m9 (vq 1 G)) (zv G (bP (vq 2 G) hfl hS) (zv G (ap (vq 3 G) hty) (zv G (bn hU (has_wk' (vq 4 G) hA)) (zv G (aO (vq 0 G) (vq 5 G)) o0))))))) k)
 ·exact (λ B w0 a w Q U k=>zh Ux WZ U (zE G aJ) k)
abbrev filL (L:List Slot):List Slot:=L.map λ s=>s.fil s.xs.length
theorem F0 {s:Slot}(h:s.new):(s.fil s.xs.length).full:=by
 have e:(s.fil s.xs.length).xs=List.replicate s.xs.length (mkN s.n):=by
  show List.replicate s.xs.length (mkN s.n)++s.xs.drop s.xs.length=_;rw [xz,zr]
 exact ⟨C4 h.towf (qh _),h.uv,rfl,by rw [e,qR];rfl⟩
theorem rj {L:List Slot}(h:∀ s∈L,s.new):∀ s∈filL L,s.full:=λ s hs=>by
 obtain ⟨t,ht,rfl⟩:=qp.1 hs;exact F0 (h t ht)
section
open Rg
variable {P:Program}{Q:Exit→Act→World→Prop}{B N:Nat}{w0:Bs}{Γ:List (Nat × VA)}{Λ:List Lc}{a:Act}{w:World}
theorem JB {R:Rg}{n:Nat}{L:Nat→Bool}(hL:∀ i,n≤i→L i=false)(hles:∀ l'∈Λ,∃ st,(⟨l'.s,l'.T,l'.H,none,l'.A,st⟩:Le)∈R.les)(hles2:∀ y∈R.les,∀ i A,y.st=some (i,A)→n≤i)(hinv:R.Inv B w0 L a w)(src:List Src)
  (hsrc:src.all (λ s=>match s with | .g k=>(match R.Γ[k]? with|some x=>Rg.outG R x.1|none=>false) | .o i=>L i)=true):St B w0 R.N (src.filterMap (cA R)) Λ a w:=by
 have hcl:∀ deps,Rg.clash R L deps=false:=λ deps=>by
  unfold Rg.clash;rw [xF];intro y hy;cases U:y.st with
  | none=>simp
  | some x =>
   obtain ⟨i,B'⟩:=x;have:=hles2 y hy i B' U;have hno:=hL i zo;simp [hno]
 have hcur:∀ y∈R.les,y.cr=none→Rg.cur L y=some y.A0:=λ y hy h0=>by
  unfold Rg.cur;rw [h0];simp only [Rg.crOk,if_true];cases U:y.st with
  | none=>rfl
  | some x =>
   obtain ⟨i,B'⟩:=x;have:=hles2 y hy i B' U;have hno:=hL i zo;simp [hno]
 refine ⟨hinv.lo,hinv.defers,hinv.size,hinv.base,λ x hx=>?_,λ l' hl'=>?_,λ l1 h1 l2 h2 hne=>?_⟩
 rotate_left
 ·obtain ⟨st,hy⟩:=hles l' hl';exact hinv.c _ hy l'.A (hcur _ hy G)
 ·obtain ⟨s1,hy1⟩:=hles l1 h1;obtain ⟨s2,hy2⟩:=hles l2 h2;exact hinv.x _ hy1 _ hy2 hne (by rw [hcur _ hy1 rfl];rfl) (by rw [hcur _ hy2 rfl];rfl)
 obtain ⟨s,hs1,hs2⟩:=qH.1 hx;have ho:=qe.1 hsrc s hs1;cases s with
 | g k =>
  simp only [cA] at hs2;simp only [hs2] at ho;refine hinv.g x (qa hs2) (λ q hq hdq=>?_) (hcl _);cases h2:R.ops[q]? with
  | none=>unfold Rg.dst at hdq;rw [h2] at hdq;cases hdq
  | some v =>
   have:=qe.1 ho q (by simpa using (Array.getElem?_eq_some_iff.1 h2).1);exact absurd hdq (by simpa using this)
 | o i =>
  simp only [cA] at hs2;cases hy:R.sp[i]? with
  | none=>rw [hy] at hs2;cases hs2
  | some y =>
   rw [hy] at hs2;exact hinv.v i y x.1 x.2 hy hs2 ho (hcl _)
end
section
variable {P:Program}{R:Rg}{Q:Exit→Act→World→Prop}{B:Nat}{w0:Bs}{a:Act}{w:World}
open Rg in
theorem Rg.drawJ {id:Nat}{n m:Nat}(z:Nat)(hz:z<n)(hsz2:R.ops.size=n+m)(hm0:0<m)(hm:P.follows .mixedOrders=true)(hanc:ancOk R=true)(J:(Nat→Bool)→Act→Yi→Prop)(hJc:∀ {L L':Nat→Bool}{a:Act}{w:Yi},J L a w→(∀ k,L' k=L k)→J L' a w)(hJ0:J (λ _=>false) a w.drew)
  (hJs:∀ i,i<n→∀ (L:Nat→Bool) (a:Act) (w:World),J L a w→cw R L→L i=false→(∀ j,(R.anc i).contains j=true→L j=true)→∀ K:Act→World→Prop,(∀ a' w',J (upd L i) a' w'→K a' w')→wpOp P R.ops Q i K a w) (ha0:∀ j,j<n→j≠z→(R.anc n).contains j=true) (ha1:∀ i,n<i→i<n+m→∀ j,j<i→(R.anc i).contains j=true)
  (hQ:∀ a w,J (λ k=>decide (k<n)) a w→wpOps P R.ops Q (List.range' n m) a w) (hQz:(R.anc n).contains z=false→∀ a w,J (λ k=>decide (k<n)&&k != z) a w→wpOps P R.ops Q (n::z::List.range' (n+1) (m-1)) a w) :
  (Code.region id R.ops true).wp P Q a w:=by
 refine wp_region_any hm ?_;have ho:∀ i,i<R.ops.size→∃ o:Oper,R.ops[i]?=some o∧(∀ j,(R.anc i).contains j=true→∃ e∈o.after,Region.binds .any e=true∧(e.on=j∨(R.anc e.on).contains j=true)) ∧
   ∀ e∈o.after,Region.binds .any e=true→e.on<i:=by
  intro i hi;have:=qe.1 hanc i (by simpa using hi);cases hoi:R.ops[i]? with
  | none=>rw [hoi] at this;cases this
  | some o =>
   rw [hoi] at this;simp only [qo] at this;refine ⟨o,rfl,λ j hj=>?_,λ e he hb=>?_⟩
   ·have hh:=qe.1 this.1 j (by simpa using hj);obtain ⟨e,he,h1⟩:=jO.1 hh;simp only [qo,zU,xr] at h1;exact ⟨e,he,h1.1,h1.2⟩
   ·have hh:=z6.1 this.2 e he;simpa [hb] using hh
 have hrd:∀ (listed:Array Bool) i,i∈Region.ready .any R.ops listed→i<R.ops.size∧listed.getD i true=false∧∀ o,R.ops[i]?=some o→∀ e∈o.after,Region.binds .any e=true→listed.getD e.on false=true:=by
  intro listed i hi;unfold Region.ready at hi;obtain ⟨h1,h2⟩:=z5.1 hi;simp only [qo,qz] at h2;refine ⟨by simpa using h1,h2.1,λ o hoi e he hb=>?_⟩;have h3:=h2.2;rw [hoi] at h3;simp only [qT,xy] at h3;have:=z6.1 h3 e he;simpa [hb] using this
 have hset:∀ (listed:Array Bool) (i k:Nat),listed.size=R.ops.size→i<R.ops.size→(listed.setIfInBounds i true).getD k false=upd (λ i=>listed.getD i false) i k:=by
  intro listed i k hsz hi;unfold upd;by_cases hki:k=i
  ·subst hki;simp [hsz,hi]
  ·simp [hki,Array.getElem?_setIfInBounds_ne (λ e=>hki e.symm)]
 have hpos:∀ (listed:Array Bool) (i:Nat),i<R.ops.size→listed.getD i false=false→0<(List.range R.ops.size).countP (λ k => !listed.getD k false):=λ listed i hi hl =>
  jE.2 ⟨i,by simpa using hi,by simp only [hl];rfl⟩
 have hlt:∀ (listed:Array Bool) (i:Nat),listed.size=R.ops.size→i<R.ops.size→listed.getD i false=false→(List.range R.ops.size).countP (λ k => !(listed.setIfInBounds i true).getD k false)<(List.range R.ops.size).countP (λ k => !listed.getD k false):=by
  intro listed i hsz hi hLi;refine eB (x:=i) (λ x hx=>?_) (by simpa using hi) (by rw [hLi];rfl) (by rw [hset listed i i hsz hi,c5];rfl);have hx':upd (λ i=>listed.getD i false) i x=false:=by
   rw [← hset listed i x hsz hi];simpa only [qz] using hx
  rw [(dx hx').2]
  rfl
 have hfull:∀ (listed:Array Bool),listed.size=R.ops.size→Region.ready .any R.ops listed=[]→∀ k,k<R.ops.size→listed.getD k false=true:=by
  intro listed hsz hr k
  induction k using Nat.strongRecOn with
  | _ k ih =>
   intro hkn;cases hl:listed.getD k false with
   | true=>rfl
   | false =>
    exfalso;obtain ⟨x,ho1,_,ho3⟩:=ho k hkn;have:k∈Region.ready .any R.ops listed:=by
     unfold Region.ready;refine z5.2 ⟨by simpa using hkn,?_⟩;have h0:listed.getD k true=false:=by
      simp only [Array.getD,hsz,hkn,dite_true] at hl ⊢;exact hl
     rw [h0,ho1];simp only [jL,kw,qT,xy];refine z6.2 λ e he=>?_;cases hb:Region.binds .any e with
     | false=>rfl
     | true=>simpa using ih e.on (ho3 e he hb) (zw (ho3 e he hb) hkn)
    rw [hr] at this;cases this
 have hancL:∀ (listed:Array Bool) i,cw R (λ i=>listed.getD i false)→i∈Region.ready .any R.ops listed→∀ j,(R.anc i).contains j=true→listed.getD j false=true:=by
  intro listed i hcl hir j hj;obtain ⟨h1,h2,h3⟩:=hrd listed i hir;obtain ⟨x,ho1,ho2,_⟩:=ho i h1;obtain ⟨e,he,hb,hj'⟩:=ho2 j hj;have hl:=h3 x ho1 e he hb;rcases hj' with rfl|hj'
  ·exact hl
  ·exact hcl e.on hl j hj'
 have hclN:∀ (listed:Array Bool) i,listed.size=R.ops.size→cw R (λ i=>listed.getD i false)→i∈Region.ready .any R.ops listed→cw R (λ k=>(listed.setIfInBounds i true).getD k false):=by
  intro listed i hsz hcl hir k hk' j hj;obtain ⟨h1,_,_⟩:=hrd listed i hir;have hk2:upd (λ i=>listed.getD i false) i k=true:=by rw [← hset listed i k hsz h1];exact hk'
  show (listed.setIfInBounds i true).getD j false=true;rw [hset listed i j hsz h1];rcases pI hk2 with rfl|h4
  ·exact cL _ (hancL listed k hcl hir j hj)
  ·exact cL _ (hcl k h4 j hj)
 have tail:∀ q k,k+q=n+m→n≤k→∀ fuel (listed:Array Bool) a w,listed.size=R.ops.size→(List.range R.ops.size).countP (λ i => !listed.getD i false)≤fuel→cw R (λ i=>listed.getD i false) →
   (∀ j,j<k→listed.getD j false=true)→(∀ j,k≤j→j<n+m→listed.getD j false=false)→wpOps P R.ops Q (List.range' k q) a w→wpAny P .any R.ops Q fuel listed a w:=by
  intro q
  induction q with
  | zero =>
   intro k hkq hnk fuel listed a w hsz hcnt hcl hall _ hwp;have hr:Region.ready .any R.ops listed=[]:=by
    cases hrr:Region.ready .any R.ops listed with
    | nil=>rfl
    | cons i rest =>
     obtain ⟨h1,h2,_⟩:=hrd listed i (by rw [hrr];simp);have:=hall i zo;simp only [Array.getD,hsz,h1,dite_true] at h2 this;rw [h2] at this;cases this
   cases fuel with
   | zero=>exact ⟨hr,hwp⟩
   | succ fuel=>exact ⟨λ _=>hwp,λ i hir=>by rw [hr] at hir;cases hir⟩
  | succ q ih =>
   intro k hkq hnk fuel listed a w hsz hcnt hcl hall hnone hwp;have hLk:listed.getD k false=false:=hnone k (qh _) zo;have hp:=hpos listed k zo hLk;cases fuel with
   | zero=>omega
   | succ fuel =>
    refine ⟨λ hr=>absurd (hfull listed hsz hr k zo) (by rw [hLk];decide),λ i hir=>?_⟩;obtain ⟨h1,h2,h3⟩:=hrd listed i hir;have hik:i=k:=by
     by_cases e:i=k
     ·exact e
     ·exfalso;by_cases hlt':i<k
      ·have:=hall i hlt';simp only [Array.getD,hsz,h1,dite_true] at h2 this;rw [h2] at this;cases this
      ·have:=hancL listed i hcl hir k (ha1 i zo zo k zo);rw [hLk] at this;cases this
    subst hik;rw [List.range'_succ,qv] at hwp;refine wpOp_mono (λ a' w' hr=>ih (i+1) zo zo fuel _ a' w' (by simpa using hsz) ?_ (hclN listed i hsz hcl hir) (λ j hj=>?_) (λ j hj hj2=>?_) hr) hwp
    ·have:=hlt listed i hsz h1 hLk;omega
    ·rw [hset listed i j hsz h1];by_cases e:j=i
     ·rw [e];exact c5 _ _
     ·exact cL _ (hall j zo)
    ·rw [hset listed i j hsz h1,cT _ zo];exact hnone j zo hj2
 have tailz:∀ fuel (listed:Array Bool) a w,listed.size=R.ops.size→(List.range R.ops.size).countP (λ i => !listed.getD i false)≤fuel→cw R (λ i=>listed.getD i false) →
   (∀ j,j<n→j≠z→listed.getD j false=true)→listed.getD z false=false→listed.getD n false=true→(∀ j,n+1≤j→j<n+m→listed.getD j false=false)→wpOps P R.ops Q (z::List.range' (n+1) (m-1)) a w→wpAny P .any R.ops Q fuel listed a w:=by
  intro fuel listed a w hsz hcnt hcl hall hzf hnt hnone hwp;have hp:=hpos listed z zo hzf;cases fuel with
  | zero=>omega
  | succ fuel =>
   refine ⟨λ hr=>absurd (hfull listed hsz hr z zo) (by rw [hzf];decide),λ i hir=>?_⟩;obtain ⟨h1,h2,h3⟩:=hrd listed i hir;have hLi:listed.getD i false=false:=by
    simp only [Array.getD,hsz,h1,dite_true] at h2 ⊢;exact h2
   have hiz:i=z:=by
    by_cases e:i=z
    ·exact e
    ·exfalso;by_cases hlt':i<n
     ·rw [hall i hlt' e] at hLi;cases hLi
     ·by_cases e2:i=n
      ·rw [e2,hnt] at hLi;cases hLi
      ·have:=hancL listed i hcl hir z (ha1 i zo zo z zo);rw [hzf] at this;cases this
   subst hiz;rw [qv] at hwp;refine wpOp_mono (λ a' w' hr=>tail (m-1) (n+1) zo zo fuel _ a' w' (by simpa using hsz) ?_ (hclN listed i hsz hcl hir) (λ j hj=>?_) (λ j hj hj2=>?_) hr) hwp
   ·have:=hlt listed i hsz h1 hLi;omega
   ·rw [hset listed i j hsz h1];by_cases e:j=i
    ·rw [e];exact c5 _ _
    ·by_cases e2:j=n
     ·rw [e2];exact cL _ hnt
     ·exact cL _ (hall j zo e)
   ·rw [hset listed i j hsz h1,cT _ zo];exact hnone j zo hj2
 have key:∀ fuel (listed:Array Bool) a w,listed.size=R.ops.size→(List.range R.ops.size).countP (λ i => !listed.getD i false)≤fuel→cw R (λ i=>listed.getD i false) →
   (∀ j,n≤j→j<n+m→listed.getD j false=false)→J (λ i=>listed.getD i false) a w→wpAny P .any R.ops Q fuel listed a w:=by
  intro fuel
  induction fuel with
  | zero =>
   intro listed a w hsz hcnt hcl hn0 hi;have:=hpos listed n zo (hn0 n (qh _) zo);omega
  | succ fuel ih =>
   intro listed a w hsz hcnt hcl hn0 hi;have hn00:=hn0 n (qh _) zo;by_cases hdone:∀ j,j<n→listed.getD j false=true
   ·refine tail m n G (qh _) (fuel+1) listed a w hsz hcnt hcl hdone hn0 (hQ a w (hJc hi λ k=>?_));by_cases hkn:k<n
    ·rw [hdone k hkn];simp [hkn]
    ·by_cases hkm:k<n+m
     ·rw [hn0 k zo hkm];simp [hkn]
     ·have:listed.getD k false=false:=by simp [Array.getD,hsz,hsz2,hkm]
      rw [this];simp [hkn]
   ·refine ⟨λ hr=>absurd (hfull listed hsz hr n zo) (by rw [hn00];decide),λ i hir=>?_⟩;obtain ⟨h1,h2,h3⟩:=hrd listed i hir;have hLi:listed.getD i false=false:=by
     simp only [Array.getD,hsz,h1,dite_true] at h2 ⊢;exact h2
    by_cases hin:i<n
    ·refine hJs i hin _ _ _ hi hcl hLi (hancL listed i hcl hir) _ λ a' w' hi'=>ih _ _ _ (by simpa using hsz) ?_ (hclN listed i hsz hcl hir) ?_ (hJc hi' λ k=>hset listed i k hsz h1)
     ·have:=hlt listed i hsz h1 hLi;omega
     ·intro j hj hj2;rw [hset listed i j hsz h1,cT _ zo];exact hn0 j hj hj2
    ·by_cases hgt:n<i
     ·exact absurd (λ j hj=>hancL listed i hcl hir j (ha1 i hgt zo j zo)) hdone
     ·have hin':i=n:=by omega
      have hjs:∀ j,j<n→j≠z→listed.getD j false=true:=λ j hj hne=>hancL listed i hcl hir j (by rw [hin'];exact ha0 j hj hne);have hzf:listed.getD z false=false:=by
       cases hh:listed.getD z false with
       | false=>rfl
       | true=>exact absurd (λ j hj=>if e:j=z then e▸hh else hjs j hj e) hdone
      have hnc:(R.anc n).contains z=false:=by
       cases hh:(R.anc n).contains z with
       | false=>rfl
       | true=>exact absurd (hancL listed i hcl hir z (by rw [hin'];exact hh)) (by rw [hzf];decide)
      have hwp:=hQz hnc a w (hJc hi λ k=>by
       by_cases hkn:k<n
       ·by_cases hkz:k=z
        ·subst hkz;rw [hzf];simp
        ·rw [hjs k hkn hkz];simp [hkn,hkz]
       ·by_cases hkm:k<n+m
        ·rw [hn0 k zo hkm];simp [hkn]
        ·have:listed.getD k false=false:=by simp [Array.getD,hsz,hsz2,hkm]
         rw [this];simp [hkn])
      rw [qv] at hwp;rw [hin'];rw [hin'] at hir hLi h1;refine wpOp_mono (λ a' w' hr=>tailz fuel _ a' w' (by simpa using hsz) ?_ (hclN listed n hsz hcl hir) (λ j hj hne=>?_) ?_ ?_ (λ j hj hj2=>?_) hr) hwp
      ·have:=hlt listed n hsz h1 hLi;omega
      ·rw [hset listed n j hsz h1];exact cL _ (hjs j hj hne)
      ·rw [hset listed n z hsz h1,cT _ zo];exact hzf
      ·rw [hset listed n n hsz h1];exact c5 _ _
      ·rw [hset listed n j hsz h1,cT _ zo];exact hn0 j zo hj2
 refine key _ _ a _ (by simp) ?_ ?_ ?_ ?_
 ·refine qf (jv) (by simp)
 ·intro i hi;exfalso;simp only [Array.getD,qO] at hi;split at hi <;> simp at hi
 ·intro j hj hj2;simp only [Array.getD,qO];split <;> simp
 ·refine hJc hJ0 λ k=>?_;simp only [Array.getD,qO];split <;> simp
open Rg in
theorem Rg.drawZ {id:Nat}{n m:Nat}(z:Nat)(hz:z<n)(hsz2:R.ops.size=n+m)(hm0:0<m)(hm:P.follows .mixedOrders=true)(hanc:ancOk R=true)(hk:R.chk=true)(h:St B w0 R.N R.Γ Λ a w)(hles:∀ e∈R.les,e.cr=none→(⟨e.s,e.T,e.H,e.A0⟩:Lc)∈Λ)
  (hob:∀ i,i<n→R.Ob P Q B w0 i) (ha0:∀ j,j<n→j≠z→(R.anc n).contains j=true) (ha1:∀ i,n<i→i<n+m→∀ j,j<i→(R.anc i).contains j=true)
  (hQ:∀ a w,R.Inv B w0 (λ k=>decide (k<n)) a w→wpOps P R.ops Q (List.range' n m) a w) (hQz:∀ a w,R.Inv B w0 (λ k=>decide (k<n)&&k != z) a w→wpOps P R.ops Q (n::z::List.range' (n+1) (m-1)) a w) :
  (Code.region id R.ops true).wp P Q a w:=by
 have hs:=start h hles;have hd:R.Inv B w0 (λ _=>false) a w.drew:=⟨hs.lo,hs.defers.grow (Grow.drew w) rfl,hs.size,hs.base.drew,λ x hx h1 h2=>x.2.grow _ _ _ _ (Grow.drew w) (hs.g x hx h1 h2),(λ i y d A _ _ hf=>by cases hf),(λ i d b k c _ hf=>by cases hf),
  λ e he A hA=>(hs.c e he A hA).grow (Grow.drew w),hs.x⟩
 exact Rg.drawJ z hz hsz2 hm0 hm hanc (λ L a w=>R.Inv B w0 L a w) (λ h hk'=>h.congr hk') hd (λ i hi L a w hJ hcl hL ha K hK=>step hk (hob i hi) hJ hcl hL ha K hK) ha0 ha1 hQ (λ _=>hQz)
end
section
open Rg
variable {P:Program}{Q:Exit→Act→World→Prop}{B N:Nat}{w0:Bs}{Γ:List (Nat × VA)}{Λ:List Lc}{a:Act}{w:World}
theorem tY {id:Nat}{ops:Yg}{sp:Yu}(anc:List (Ya))(n m e j z:Nat)(A:As)(src srcz:List Src)(hmx:P.follows .mixedOrders=true)
  (h:St B w0 N Γ Λ a w) (hob:Obs P Q ⟨ops,N,Γ,lesS Λ e j A,sp,λ i=>anc.getD i []⟩ B w0 0 n) (hsz:ops.size=n+m) (hm:0<m) (hj:n≤j) (hz:z<n) (hanc:Rg.ancOk ⟨ops,N,Γ,lesS Λ e j A,sp,λ i=>anc.getD i []⟩=true)
  (ha0:(List.range n).all (λ j=>j==z || (anc.getD n []).contains j)=true) (hall:∀ i,n+1≤i→i<n+1+(m-1)→∀ j,j<i→(anc.getD i []).contains j=true) (hk:Rg.chk ⟨ops,N,Γ,lesS Λ e j A,sp,λ i=>anc.getD i []⟩=true)
  (hsrc:src.all (λ s=>match s with | .g k=>(match Γ[k]? with|some x=>Rg.outG ⟨ops,N,Γ,lesS Λ e j A,sp,λ i=>anc.getD i []⟩ x.1|none=>false) | .o i=>decide (i<n))=true)
  (hsrcz:srcz.all (λ s=>match s with | .g k=>(match Γ[k]? with|some x=>Rg.outG ⟨ops,N,Γ,lesS Λ e j A,sp,λ i=>anc.getD i []⟩ x.1|none=>false) | .o i=>decide (i<n)&&i != z)=true)
  (hQ:∀ a' w',St B w0 N (src.filterMap (cA ⟨ops,N,Γ,lesS Λ e j A,sp,λ i=>anc.getD i []⟩)) Λ a' w'→wpOps P ops Q (List.range' n m) a' w')
  (hQz:∀ a' w',St B w0 N (srcz.filterMap (cA ⟨ops,N,Γ,lesS Λ e j A,sp,λ i=>anc.getD i []⟩)) Λ a' w'→wpOps P ops Q (n::z::List.range' (n+1) (m-1)) a' w'):(Code.region id ops true).wp P Q a w:=by
 have hl1:∀ l'∈Λ,∃ st,(⟨l'.s,l'.T,l'.H,none,l'.A,st⟩:Le)∈lesS Λ e j A:=λ l' hl'=>by
  obtain ⟨j',hj'⟩:=List.getElem?_of_mem hl';exact ⟨_,qp.2 ⟨(l',j'),zj.2 hj',rfl⟩⟩
 have hl2:∀ y∈lesS Λ e j A,∀ i A',y.st=some (i,A')→n≤i:=λ y hy i B' h1=>by have:=(eO y hy).2.2 i B' h1;omega
 refine Rg.drawZ (R:=⟨ops,N,Γ,lesS Λ e j A,sp,λ i=>anc.getD i []⟩) (m:=m) z hz hsz hm hmx hanc hk h (λ y hy _=>(eO y hy).2.1) (λ i hi=>hob.all i zo zo) (λ j hj hne=>?_) (λ i h1 h2 j hj=>hall i zo zo j hj) (λ a1 w1 hinv=>?_) λ a1 w1 hinv=>?_
 ·have:=qe.1 ha0 j (by simpa using hj);simpa [hne] using this
 ·exact hQ a1 w1 (mp hl1 hl2 hinv src hsrc)
 ·exact hQz a1 w1 (JB (n:=n) (λ i hi=>by simp [show ¬ i<n by omega]) hl1 hl2 hinv srcz hsrcz)
theorem AV {ops:Yg}{i:Nat}{K:Ye}{d u:Nat}{T':Yh}{A:VA}(ku:Nat)(ho:ops[i]?=some ⟨some d,.move (.tmp u),T',ps,af,none⟩)(h:St B w0 N Γ Λ a w)
  (hu:Γ[ku]?=some (u,A)) (hd:d<N) (hΓ:Γ.all (λ x=>x.1 != d)=true) (hΛ:Λ.all (λ l=>l.s != d)=true)
  (hK:∀ a',St B w0 N ((d,A)::Γ) Λ a' w→K a' w):wpOp P ops Q i K a w :=
 lm (A:=A) (v:=a.eval (.tmp u)) ho h hd hΓ hΛ (by simp [execOp]) (h.vals _ (qa hu)) (hK _)
end
theorem FH:∃ it z,Tryz.prog.info? 138=some it∧it.zero=some z∧it.size=3∧it.bytes=56∧z.cells.size=3:=by
 have h:((Tryz.prog.info? 138).bind λ it=>it.zero.map λ z=>(it.size,it.bytes,z.cells.size))=some (3,56,3):=by kernel_rfl
 cases hi:Tryz.prog.info? 138 with
 | none=>rw [hi] at h;simp at h
 | some it =>
  rw [hi] at h;cases hz:it.zero with
  | none=>simp [hz] at h
  | some z =>
   simp [hz] at h;exact ⟨it,z,rfl,hz,h.1,h.2.1,h.2.2⟩
def newS (v:Value)(xs:List Nat)(n:Nat):Slot:=⟨v,xs,v,xs,.slice none 0 0,n⟩
theorem Gt {xs:Ya}(h:(MgN xs).va.p B v w):w.ownsRow B U32 1 v xs.length (xs.map lv):=by
 obtain ⟨cs,⟨h0,⟨rfl,rfl⟩|⟨g,ext,rfl,e1,e2,e3⟩⟩,hv⟩:=h
 ·have hv':v=.slice none 0 0:=hv;subst hv';exact ⟨rfl,.inl ⟨rfl,rfl⟩⟩
 ·have hv':v=.slice (some ⟨g,0,none⟩) xs.length (xs++ext).length:=hv;subst hv';refine ⟨by simp,.inr ⟨g,(xs++ext).length,_,rfl,e2,e3,by simp,e1,by simp,?_⟩⟩;rw [zH];show (List.map _ (xs++ext)).take xs.length=_;rw [zT,xu (by simp),qD (by simp)]
  rfl
theorem BL {n B:Nat}{xs:Ya}{ds:Ym}(h:(cat [EqS v,EqS (.slice none 0 0),NumA .i64 (n:Nat)]).p B ds w):ds=(newS v xs n).cells:=by
 obtain ⟨ps,rfl,hp⟩:=h;cases hp with
 | cons h1 hp=>cases hp with
  | cons h2 hp=>cases hp with
   | cons h3 hp =>
    cases hp;have h3':=h3;obtain ⟨rfl,_⟩:=h1;obtain ⟨rfl,_⟩:=h2;have:_=[Value.int .i64 (n:Nat)]:=h3';subst this
    rfl
theorem M5 {xs:Ya}:Wk (PinA v (MgN xs)).va (EqS v).va:=λ B u w ⟨cs,⟨h1,h2⟩,h3⟩=>by
 have h4:u=v:=h3.trans h2;subst h4;have hl:=(MgN xs).len _ _ _ h1;have h5:=(MgN xs).one _ _ _ h1
 match cs,hl with
 | [x],_ =>
  have h6:u=x:=h3;subst h6;exact ⟨[u],⟨rfl,h5 u (by simp)⟩,rfl⟩
theorem AK {v u:Yo}{xs:Ya}(h:(PinA v (MgN xs)).va.p B u w):(MgN xs).va.p B v w:=by
 obtain ⟨cs,⟨h1,h2⟩,_⟩:=h;exact ⟨cs,h1,h2.symm⟩
section
open Rg
variable {P:Program}{Q:Exit→Act→World→Prop}{R:Rg}{B i:Nat}{w0:Bs}
theorem l5 {x:Yj}{g o:Nat}(hx:Has R B w0 i x (EqV (.pointer (some ⟨g,o,none⟩)))):Wv P Q R B w0 i (.nilCheck x) (EqV (.pointer (some ⟨g,o,none⟩))) :=
 bj λ d T ps af gd a w av=>by
  have h:a.eval x=.pointer (some ⟨g,o,none⟩):=hx a w av;exact ⟨_,w,by simp [execOp,h],Grow.refl w,rfl⟩
theorem l6 {x:Yj}{f k n g o:Nat}(hx:Has R B w0 i x (EqV (.pointer (some ⟨g,o,none⟩))))(hf:Fld P T f k n):Wv P Q R B w0 i (.fieldAddr T x f) (EqV (.pointer (some ⟨g,o+k,none⟩))) :=
 bj λ d T ps af gd a w av=>by
  have h:a.eval x=.pointer (some ⟨g,o,none⟩):=hx a w av;exact ⟨_,w,by simp [execOp,h,dP hf],Grow.refl w,rfl⟩
end
theorem yW (A:Option Addr)(c:Nat)(w:Yi):Calls Tryz.prog 245 #[.slice A 0 c] w λ e w'=>e=.returned (.slice A 0 c)∧w=w':=by
 go_enter Tryz.func245,Tryz.ntmps245
 go_wp2
 go_loop [0] (λ v=>v=.slice A 0 c) (λ _=>0)
 case atStart=>rfl
 case round =>
  subst hrel
  go_wp2
  go_ret
  exact ⟨rfl,rfl⟩
theorem uR (b o c:Nat)(l:Ya)(w:Yi)(hc:∀ j (h:j<l.length),w.cell? ⟨b,o+j,none⟩=some (.int .u32 (l[j]:Nat)))(hm:l.length≤9223372036854775807)(hnc:l.length≤c) :
  Calls Tryz.prog 245 #[.slice (some ⟨b,o,none⟩) l.length c] w λ e w'=>e=.returned (.slice (some ⟨b,o,none⟩) (bt l).length c)∧w=w':=by
 obtain ⟨n,hn⟩:∃ n,n=l.length:=⟨_,rfl⟩;rw [← hn] at hm hnc ⊢;have HN:Hid (n=l.length):=hn;clear hn
 go_enter Tryz.func245,Tryz.ntmps245
 go_wp2
 go_loop [0] (λ v=>∃ k:Nat,k≤n∧v=.slice (some ⟨b,o,none⟩) k c∧bt (l.take k)=bt l) (λ v=>lenOf v)
 case atStart=>exact ⟨n,qh _,rfl,by rw [qD (xK HN.out.symm)]⟩
 case round =>
  obtain ⟨k,hk,rfl,ht⟩:=hrel;have HT:Hid (bt (l.take k)=bt l):=ht;clear ht;cases k with
  | zero =>
   go_wp2
   go_ret
   exact ⟨by rw [← HT.out];simp [bt],rfl⟩
  | succ k =>
   have hkl:k<l.length:=by rw [← HN.out];omega
   obtain ⟨x,hx⟩:∃ x,x=l[k]:=⟨_,rfl⟩;have hcell:=hc k hkl;rw [← hx] at hcell;clear hc;have HX:Hid (x=l[k]):=hx;clear hx;by_cases hz:x=0
   ·subst hz
    go_wp2
    go_round
    case rel=>exact ⟨k,by omega,rfl,by rw [← HT.out,nc hkl HX.out.symm]⟩
    case measure=>simp [lenOf]
   ·have hz':((x:Int)==0)=false:=by simp;omega
    go_wp2
    go_ret
    refine ⟨?_,rfl⟩;rw [← HT.out,nb hkl (by rw [← HX.out];exact hz),qX,xc zo]
    rfl
theorem ep {M:Ya→As}(hM:Fam M)(l:Ya):Cn Tryz.prog 245 [(M l).va] (M (bt l)).va:=by
 refine ⟨iw Tryz.func245 zk zk,λ B w args hB ha=>?_⟩;obtain ⟨v,rfl,hv⟩:=ha.one;obtain ⟨A,c,rfl,hm,htk⟩:=hM.op _ _ _ _ hv;have hsh:∀ A',A'=A→(M (bt l)).va.p B (.slice A' (bt l).length c) w:=by
  rintro _ rfl;have:=htk (bt l).length;rwa [← iI] at this
 by_cases h0:l.length=0
 ·have hl:l=[]:=z9 h0;subst hl;refine (yW A c w).mono λ e w' ⟨he,hw⟩=>?_;subst hw;exact ⟨_,he,hsh A rfl,Grow.refl w⟩
 ·obtain ⟨b,o,rfl,h1,h2,h3⟩:=hm.at_ zo;refine (uR b o c l w h3 (by have:=hm.le;have:=hm.max;unfold maxLen at this;omega) hm.le).mono λ e w' ⟨he,hw⟩=>?_;subst hw;exact ⟨_,he,hsh _ rfl,Grow.refl w⟩
theorem cd (neg:Bool)(l:Ya):Cn Tryz.prog 227 [Bo neg,(MgA l).va] ((RIA (rsig neg l)).va):=by
 refine Cn.intro Tryz.func227 G zk nq (zy [(0,Bo neg),(1,(MgA l).va)] λ B w0 a U=>?_);refine qb<|zg [] Ua Ub We U (zY G (Str.zero (cB famA)) o0) (zz Uc Ud ?_);refine ztA<|zgA U1 [] (W6 5 [.v 1 _]) Ue (zM 1 G (zQ G (ep famA _) (.o (vq 0 G)) (zA 1 G o0))) (zz Uc Ud ?_);refine ztA<|zsA<|zgA U1 [] (Wb 7) WY (zM 1 G (zv G (aH qc (vq 0 G)) (zv G (bF (vq 1 G) ab) o0))) (zz (Wa 0 1 9) Ud λ a w U=>?_);refine zJ 2 U G (λ hb0=>?_) (λ hb0=>?_)
 ·refine qb<|zg Uf [] Ug We U (zv G (aS (qs:=[]) (cB famA) .nil) (zS 0 G ao o0)) (zz Uc Ud λ a w U=>?_);refine aa<|qi<|aj ?_;refine aG ?_ (ax G U (zm 0 G) ao);exact fh (M:=MgA) hb0
 ·refine qj<|zt<|zg Uh [] (Wb 11 [.sto 0]) [] U (zM 0 G (zM 1 G (zv G (aS (qs:=[(0,_),(1,_)]) (cB famA) (.cons ⟨rfl,vq 0 rfl,rfl⟩ (.cons ⟨rfl,vq 1 rfl,rfl⟩ .nil))) (zS 2 G ao o0)))) (zz [] Ud λ a w U=>?_);refine aa<|qi<|aG ?_ (ax G U (zm 0 G) ao);exact gO (M:=MgA) hb0
theorem uS (neg:Bool)(l:Ya):Cn Tryz.prog 227 [Bo neg,(MgN l).va] ((RIN (rsig neg l)).va):=by
 refine Cn.intro Tryz.func227 G zk nq (zy [(0,Bo neg),(1,(MgN l).va)] λ B w0 a U=>?_);refine qb<|zg [] Ua Ub We U (zY G (Str.zero (cB famN)) o0) (zz Uc Ud ?_);refine ztA<|zgA U1 [] (W6 5 [.v 1 _]) Ue (zM 1 G (zQ G (ep famN _) (.o (vq 0 G)) (zA 1 G o0))) (zz Uc Ud ?_);refine ztA<|zsA<|zgA U1 [] (Wb 7) WY (zM 1 G (zv G (aH qc (sh (vq 0 G))) (zv G (bF (vq 1 G) ab) o0))) (zz (Wa 0 1 9) Ud λ a w U=>?_);refine zJ 2 U G (λ hb0=>?_) (λ hb0=>?_)
 ·refine qb<|zg Uf [] Ug We U (zv G (aS (qs:=[]) (cB famN) .nil) (zS 0 G ao o0)) (zz Uc Ud λ a w U=>?_);refine aa<|qi<|aj ?_;refine aG ?_ (ax G U (zm 0 G) ao);exact fh (M:=MgN) hb0
 ·refine qj<|zt<|zg Uh [] (Wb 11 [.sto 0]) [] U (zM 0 G (zM 1 G (zv G (aS (qs:=[(0,_),(1,_)]) (cB famN) (.cons ⟨rfl,vq 0 rfl,rfl⟩ (.cons ⟨rfl,vq 1 rfl,rfl⟩ .nil))) (zS 2 G ao o0)))) (zz [] Ud λ a w U=>?_);refine aa<|qi<|aG ?_ (ax G U (zm 0 G) ao);exact gO (M:=MgN) hb0
def cmL (l m:List Nat):Int:=if l.length≠m.length then (if l.length<m.length then -1 else 1) else if val l<val m then -1 else if val m<val l then 1 else 0
theorem PM {l m:Ya}(h:((l.length:Int) != (m.length:Int))=true)(h2:decide ((l.length:Int)<(m.length:Int))=true):(-1:Int)=cmL l m:=by
 have h':l.length≠m.length:=by simp at h;omega
 unfold cmL;rw [qC h',qC (by simp at h2;omega)]
theorem PL {l m:Ya}(h:((l.length:Int) != (m.length:Int))=true)(h2:decide ((l.length:Int)<(m.length:Int))=false):(1:Int)=cmL l m:=by
 have h':l.length≠m.length:=by simp at h;omega
 unfold cmL;rw [qC h',qy (by simp at h2;omega)]
theorem PK {l m:Ya}{j:Nat}(ha:okL l)(hl:l.length=m.length)(hj:j<l.length)(hd:l.drop (j+1)=m.drop (j+1))(h:decide (((l[j]:Nat):Int)<((m[j]'zo:Nat):Int))=true):(-1:Int)=cmL l m:=by
 have:=tc (a:=l) (b:=m) ha hj zo hd (by simpa using h);unfold cmL;rw [qy zo,qC this]
theorem PJ {l m:Ya}{j:Nat}(hb:okL m)(hl:l.length=m.length)(hj:j<l.length)(hd:l.drop (j+1)=m.drop (j+1))(h:decide (((l[j]:Nat):Int)>((m[j]'zo:Nat):Int))=true):(1:Int)=cmL l m:=by
 have:=tc (a:=m) (b:=l) hb zo hj hd.symm (by simpa using h);unfold cmL;rw [qy zo,qy zo,qC this]
theorem PI {l m:Ya}(hd:l.drop 0=m.drop 0):(0:Int)=cmL l m:=by
 have:l=m:=by simpa using hd
 subst this;simp [cmL]
theorem px (l m:Ya):Cn Tryz.prog 247 [(MgA l).va,(MgA m).va] (In (cmL l m)):=by
 refine Cn.intro Tryz.func247 G zk nq (zy [(0,(MgA l).va),(1,(MgA m).va)] λ B w0 a U=>?_);obtain ⟨ha,hla⟩:=U.mag 0 rfl;obtain ⟨hb,hlb⟩:=U.mag 1 rfl;refine qb<|zh WP WQ U (zE G ab) (zz WR [] ?_);refine ztA<|zsA<|zhA (Wd 6) WS (zM 0 G (zv G (aH qc (vq 0 G)) (zM 1 G (zv G (aH qc (vq 2 G)) (zv G (c9 (vq 1 G) (vq 3 G)) o0))))) (zz (Wf 0 1 4 10) [] λ a w U=>?_);refine zJ 3 U G (λ hb0=>?_) (λ hb0=>?_)
 ·refine qb<|qb<|zh (Wd 11) WS U (zM 0 G (zv G (aH qc (vq 0 G)) (zM 1 G (zv G (aH qc (vq 2 G)) (zv G (aO (vq 1 G) (vq 3 G)) o0))))) (zz (Wf 0 1 4 15) [] λ a w U=>?_);refine zJ 3 U G (λ hb1=>?_) (λ hb1=>?_)
  ·refine qb<|zh WP WQ U (zE G ab) (zz WR [] λ a w U=>?_);refine aa<|qi<|aj ?_;refine aj ?_;refine aG ?_ (ak G U (zm 2 G));exact nu (PM hb0 hb1)
  ·refine qj<|zt<|zh WP WQ U (zE G ab) (zz WR [] λ a w U=>?_);refine aa<|qi<|aj ?_;refine aG ?_ (ak G U (zm 2 G));exact nu (PL hb0 hb1)
 ·have hl:l.length=m.length:=by simp at hb0;omega
  refine qj<|zt<|qb<|zh (Wb 16 [.v 5 _]) WT U (zM 0 G (zv G (aH qc (vq 0 G)) (zv G (ce (vq 1 G) ab (wi64 zo zo)) (zA 2 G o0)))) (zz WU [] λ a w U=>?_);refine aa<|qk ?_;have U:=St.sel U [0,1,3];refine wp_loop_ghost (λ n a w=>n≤l.length∧l.drop n=m.drop n∧St B w0 41 [(0,(MgA l).va),(1,(MgA m).va),(5,In ((n:Int)-1))] [] a w) (l.length) ?_ ?_
  ·exact ⟨qh _,by rw [xz,hl,xz],U⟩
  intro n a w hI;obtain ⟨hi,hd,U⟩:=hI;refine qb<|qb<|zh (W6 19) WV U (zM 2 G (zv G (dD (vq 0 G) ab) o0)) (zz (Wf 0 1 5 20) [] λ a w U=>?_);refine zJ 3 U G (λ hb2=>?_) (λ hb2=>?_)
  ·obtain ⟨j,rfl⟩:∃ j,n=j+1:=⟨n-1,by simp at hb2;omega⟩;rw [show ((j+1:Nat):Int)-1=(j:Int) from by omega] at U;refine qj<|zt<|qk<|qb<|qb<|zgd WW [] [] (Wo 23) (W7 [.o 8]) ac U (zM 0 G (zM 2 G (zv G (bL aZ (vq 0 G) (vq 1 G) zo) (zv G (ap (vq 2 G) aN) (zM 1 G (zM 2 G (zv G (bL aZ (vq 4 G) (vq 5 G) zo) (zv G (ap (vq 6 G) aN) (zv G (aO (vq 3 G) (vq 7 G)) o0))))))))) zk zk zk zk (zz (Wf 0 1 5 31) [] λ a w U=>?_);refine zJ 3 U G (λ hb3=>?_) (λ hb3=>?_)
   ·refine qb<|zh WP WX U (zE G ab) (zz (Wf 0 1 5 4) [] λ a w U=>?_);refine aa<|qi<|aj ?_;refine aD ?_;refine aj ?_;refine aj ?_;refine aD ?_;refine aj ?_;refine aG ?_ (ak G U (zm 3 G));exact nu (PK ha hl zo hd hb3)
   ·refine qj<|zt<|zgd WW [] [] (Wo 32) (W7 [.o 8]) ac U (zM 0 G (zM 2 G (zv G (bL aZ (vq 0 G) (vq 1 G) zo) (zv G (ap (vq 2 G) aN) (zM 1 G (zM 2 G (zv G (bL aZ (vq 4 G) (vq 5 G) zo) (zv G (ap (vq 6 G) aN) (zv G (cD (vq 3 G) (vq 7 G)) o0))))))))) zk zk zk zk (zz (Wf 0 1 5 40) [] λ a w U=>?_);refine zJ 3 U G (λ hb4=>?_) (λ hb4=>?_)
    ·refine qb<|zh WP WX U (zE G ab) (zz (Wf 0 1 5 4) [] λ a w U=>?_);refine aa<|qi<|aD ?_;refine aj ?_;refine aj ?_;refine aD ?_;refine aj ?_;refine aG ?_ (ak G U (zm 3 G));exact nu (PJ hb hl zo hd hb4)
    ·refine qj<|al ?_;refine aa<|zh (W6 21 [.v 5 _]) WY U (zM 2 G (zv G (ce (vq 0 G) ab (wi64 zo zo)) (zA 1 G o0))) (zz (Wa 0 1 5) [] λ a w U=>?_);refine aa ?_;have U:=St.sel U [0,1,2];exact ⟨j,by omega,by omega,li zo zo hd (by simp at hb3 hb4;omega),U⟩
  ·obtain rfl:n=0:=by simp at hb2;omega
   refine qP<|ai<|ai<|az<|zt<|zh WP WZ U (zE G ab) (zz U0 [] λ a w U=>?_);refine zN 0 U G G ?_;exact nu (PI hd)
theorem tt (x:RI):Cn Tryz.prog 208 [(RIA x).va] (In (if okRI x then 0 else 1)):=by
 refine Cn.intro Tryz.func208 G zk nq (zy [(0,(RIA x).va)] λ B w0 a U=>?_);have hk:=(iN (U.vals _ (zm 0 rfl))).2;refine qb<|zg [] Ur Us Ut U (zW 0 G (zE G ab)) (zz Uu Uv λ a w U=>?_);refine zt<|qb<|gl (sts:=[none]) (news:=[]) (sp:=((.adr 3 1 (.some 1) True:Sp)::(.v 4 _)::(.v 5 _)::(.v 6 _)::(.v 7 _)::(.adr 8 1 (.some 1) (_=false))::(.f 9 _)::(.f 10 _)::(.f 11 _)::(.f 12 _)::(.adr 13 1 (.some 1) ((_=false)∧_=true))::(.v 14 (Wh ((_=false)∧_=true) _))::(.adr 15 1 (.some 1) ((_=false)∧_=true))::(.v 16 (Wh ((_=false)∧_=true) _))::(.v 17 (Wh ((_=false)∧_=true) _))::(.v 18 (Wh ((_=false)∧_=true) _))::(.v 19 (Wh ((_=false)∧_=true) _))::(.v 20 (Wh ((_=false)∧_=true) _))::(.v 21 (Wh ((_=false)∧_=true) _))::(.f 22 _)::(.v 23 _)::(.v 24 _)::(.adr 25 1 (.some 1) (_=false))::(.f 26 _)::(.f 27 _)::(.f 28 _)::(.f 29 _)::(.adr 30 1 (.some 0) ((_=false)∧_=true))::(.v 31 (Wh ((_=false)∧_=true) _))::(.f 32 _)::(.v 33 _)::[])) [.g 0,.o 30] U (zO 0 G aq (zL 0 0 1 G aW (zv G (aH qc (vq 1 G)) (zv G (cD (vq 2 G) ab) (zV 3 G (zC 4 0 G aq (zB 4 G (λ hg=>aC 5 G zk hg (lz0 0 G) (Sub.part 1 G G) aW) (zB 4 G (λ hg=>aH qc (ae (vq 6 G) hg)) (zB 4 G (λ hg=>cD (ae (vq 7 G) hg) ab) (zB 4 G (λ hg=>aA (ae (vq 8 G) hg)) (oc (gp G G G (vq 9 G) nq (λ hg=>gi (lz0 0 G) aq)) (oc (bO G G G (vq 9 G) nq (λ hg=>aC 10 G zk hg (lz0 0 G) (Sub.part 1 G G) aW)) (oc (gp G G G (vq 9 G) nq (λ hg=>gi (lz0 0 G) aq)) (oc (bO G G G (vq 9 G) nq (λ hg=>aC 12 G zk hg (lz0 0 G) (Sub.part 1 G G) aW)) (oc (bO G G G (vq 9 G) nq (λ hg=>aH qc (ae (vq 13 G) hg))) (oc (bO G G G (vq 9 G) nq (λ hg=>ce (ae (vq 14 G) hg) ab (Ht (by have h:=hg.2;simp at h;omega) hk))) (oc (bO G G G (vq 9 G) nq (λ hg=>nV aZ (ae (vq 11 G) hg) (ae (vq 15 G) hg) (by have h:=hg.2;simp at h;omega))) (oc (bO G G G (vq 9 G) nq (λ hg=>ap (ae (vq 16 G) hg) aN)) (oc (bO G G G (vq 9 G) nq (λ hg=>bF (ae (vq 17 G) hg) (aE 0 G))) (zB 4 G (λ hg=>bE (ae (vq 9 G) hg) (fx (vq 18 G) hg)) (zv G (r_or (vq 4 G) (vq 19 G)) (zV 20 G (zC 21 0 G aq (zB 21 G (λ hg=>aC 22 G zk hg (lz0 0 G) (Sub.part 1 G G) aW) (zB 21 G (λ hg=>aH qc (ae (vq 23 G) hg)) (zB 21 G (λ hg=>bF (ae (vq 24 G) hg) ab) (zB 21 G (λ hg=>aA (ae (vq 25 G) hg)) (oc (gp G G G (vq 26 G) nq (λ hg=>gi (lz0 0 G) aT)) (oc (bO G G G (vq 26 G) nq (λ hg=>aC 27 G zk hg (lz0 0 G) (Sub.part 0 G G) ty_4)) (zB 21 G (λ hg=>bE (ae (vq 26 G) hg) (fx (vq 28 G) hg)) (zv G (r_or (vq 21 G) (vq 29 G)) o0))))))))))))))))))))))))))))))) (zz (Wc 2 33) Uv λ a w U=>?_);refine zJ 1 U G (λ hb0=>?_) (λ hb0=>?_)
 ·refine qb<|zg U3 [] Ux WZ U (zE G ab) (zz Uu Uv λ a w U=>?_);refine aa<|qi<|aj ?_;refine aG ?_ (ak G U (zm 0 G));exact nu (uB hb0)
 ·refine qj<|zt<|zg U3 [] Ux WZ U (zE G ab) (zz Uu Uv λ a w U=>?_);refine zN 0 U G G ?_;exact nu (uA hb0)
theorem m7 (x:RI):Cn Tryz.prog 135 [(RIA x).va] (In (sgI x)):=by
 refine Cn.intro Tryz.func135 G zk nq (zy [(0,(RIA x).va)] λ B w0 a U=>?_);refine qb<|zg [] Ur Us Ut U (zW 0 G (zE G ab)) (zz Uu Uv ?_);refine ztA<|zsA<|zgA U1 [] (.adr 3 1 (.some 1) True::(Wb 4)) Ro (zO 0 G aq (zL 0 0 1 G aW (zv G (aH qc (vq 1 G)) (zv G (bF (vq 2 G) ab) o0)))) (zz (Wc 2 6) Uv λ a w U=>?_);refine zJ 1 U G (λ hb0=>?_) (λ hb0=>?_)
 ·refine qb<|zg U3 [] Ux WZ U (zE G ab) (zz Uu Uv λ a w U=>?_);refine aa<|qi<|aj ?_;refine aG ?_ (ak G U (zm 0 G));exact nu (yO hb0)
 ·refine qj<|zt<|qb<|zg U3 [] [.adr 7 1 (.some 0) True,.v 8 _] UY U (zO 0 G aT (zL 0 0 0 G ty_4 o0)) (zz (Wc 2 8) Uv λ a w U=>?_);refine zJ 1 U G (λ hb1=>?_) (λ hb1=>?_)
  ·refine qb<|zg U3 [] Ux WZ U (zE G ab) (zz Uu Uv λ a w U=>?_);refine aa<|qi<|aj ?_;refine aG ?_ (ak G U (zm 0 G));exact nu (yN hb0 hb1)
  ·refine qj<|zt<|zg U3 [] Ux WZ U (zE G ab) (zz Uu Uv λ a w U=>?_);refine zN 0 U G G ?_;exact nu (yM hb0 hb1)
theorem fE {m n:Nat}:cmL (ay m) (ay n)=if m<n then -1 else if n<m then 1 else 0:=by
 unfold cmL;rw [aF,aF];by_cases h:(ay m).length=(ay n).length
 ·rw [qy zo]
 ·rw [qC h];by_cases h2:m≤n
  ·have:=cp h2;have:m≠n:=λ e=>h (by rw [e]);rw [qC zo,qC zo]
  ·have:=cp (xa (jc h2));rw [qy zo,qy zo,qC zo]
theorem lY (p:Int):p.sign=if p<0 then -1 else if p=0 then 0 else 1:=by
 rcases kT p 0 with h|h|h
 ·rw [qC h,xO h]
 ·subst h;rfl
 ·rw [qy zo,qy zo,xV h]
theorem ON {p q:Int}(h:(sgI (riOf p) != sgI (riOf q))=true)(h2:decide (sgI (riOf p)<sgI (riOf q))=true):(-1:Int)=sg3 p q:=by
 rw [qK,dz,dz,lY,lY] at h2;unfold sg3;rw [qC];split at h2 <;> split at h2 <;> (try split at h2) <;> (try split at h2) <;> omega
theorem OM {p q:Int}(h:(sgI (riOf p) != sgI (riOf q))=true)(h2:decide (sgI (riOf p)<sgI (riOf q))=false):(1:Int)=sg3 p q:=by
 rw [qm,dz,dz,lY,lY] at h2;have h3:sgI (riOf p)≠sgI (riOf q):=by simpa using h
 rw [dz,dz,lY,lY] at h3;unfold sg3;rw [qy,qC] <;> (split at h2 <;> split at h2 <;> (try split at h2) <;> (try split at h2) <;> (try split at h3) <;> (try split at h3) <;> (try split at h3) <;> omega)
theorem LJ {p q:Int}(h:(sgI (riOf p) != sgI (riOf q))=false):(p<0↔q<0)∧(p=0↔q=0):=by
 have h3:sgI (riOf p)=sgI (riOf q):=by simpa using h
 rw [dz,dz,lY,lY] at h3;split at h3 <;> split at h3 <;> (try split at h3) <;> (try split at h3) <;> omega
theorem OL {p q:Int}(h:(sgI (riOf p) != sgI (riOf q))=false)(h2:decide (sgI (riOf p)<0)=true) : -(cmL (riOf p).mag (riOf q).mag)=sg3 p q:=by
 have h1:=LJ h;rw [qK,dz,lY] at h2;have hp:p<0:=by split at h2 <;> (try split at h2) <;> omega
 show -(cmL (ay p.natAbs) (ay q.natAbs))=_;rw [fE];unfold sg3;split <;> split <;> (try split) <;> omega
theorem OK {p q:Int}(h:(sgI (riOf p) != sgI (riOf q))=false)(h2:decide (sgI (riOf p)<0)=false):cmL (riOf p).mag (riOf q).mag=sg3 p q:=by
 have h1:=LJ h;rw [qm,dz,lY] at h2;have hp:¬ p<0:=by intro hp;rw [qC hp] at h2;omega
 show cmL (ay p.natAbs) (ay q.natAbs)=_;rw [fE];unfold sg3;split <;> split <;> (try split) <;> omega
theorem NA (l m:Ya) : -1≤cmL l m∧cmL l m≤1:=by
 unfold cmL;split <;> split <;> (try split) <;> omega
theorem Li {p:Int}:(RIA (rsig (!(riOf p).neg) (riOf p).mag)).va=Zi (-p):=by
 rw [cb (o7 p) (z := -p) (by rw [bB];omega) (λ hz=>by show (!decide (p<0))=_;by_cases h:p<0 <;> simp [h] <;> omega)]
theorem size_e {p:Int}:(RIA (rsig false (riOf p).mag)).va=Zi ((p.natAbs:Nat):Int):=by
 rw [cb (o7 p) (z:=((p.natAbs:Nat):Int)) (by rw [bB];omega) (λ hz=>by simp)]
theorem Ii (p q:Int):Cn Tryz.prog 240 [Zi p,Zi q] (In (sg3 p q)):=by
 refine Cn.intro Tryz.func240 G zk nq (zy [(0,Zi p),(1,Zi q)] λ B w0 a U=>?_);have hbd:=NA (riOf p).mag (riOf q).mag;refine qb<|zg [] Uy Uz U9 U (zW 0 G (zW 1 G (zE G ab))) (zz U0 UA ?_);refine ztA<|zgA UC [] (W6 8 [.v 5 _]) Ue (zl 0 G ao (zQ G (m7 (riOf p)) (.o (vq 0 G)) (zA 1 G o0))) (zz (Wc 4 5) UA ?_);refine ztA<|zgA UC [] (W6 10 [.v 6 _]) WY (zl 1 G ao (zQ G (m7 (riOf q)) (.o (vq 0 G)) (zA 1 G o0))) (zz (Wa 4 5 6) UA ?_);refine ztA<|zsA<|zgA UC [] (Wb 12) UD (zM 1 G (zM 2 G (zv G (c9 (vq 0 G) (vq 1 G)) o0))) (zz (Wf 4 5 6 14) UA λ a w U=>?_);refine zJ 3 U G (λ hb0=>?_) (λ hb0=>?_)
 ·refine qb<|qb<|zg UE [] (Wb 15) WY U (zM 1 G (zM 2 G (zv G (aO (vq 0 G) (vq 1 G)) o0))) (zz (Wa 4 5 17) UA λ a w U=>?_);refine zJ 2 U G (λ hb1=>?_) (λ hb1=>?_)
  ·refine qb<|zg UE [] WP [.g 1,.o 0] U (zE G ab) (zz (Wc 5 4) UA λ a w U=>?_);refine aa<|qi<|aj ?_;refine aj ?_;refine aG ?_ (ak G U (zm 1 G));exact nu (ON hb0 hb1)
  ·refine qj<|zt<|zg UE [] WP [.g 1,.o 0] U (zE G ab) (zz (Wc 5 4) UA λ a w U=>?_);refine aa<|qi<|aj ?_;refine aG ?_ (ak G U (zm 1 G));exact nu (OM hb0 hb1)
 ·refine qj<|zt<|zg UE [] (.adr 18 2 (.some 1) True::.v 19 _::.adr 20 3 (.some 1) True::(W6 21 [.v 7 _])) (We [.o 5]) U (zO 0 G aq (zL 0 0 1 G aW (zO 1 G aq (zL 2 1 1 G aW (zQ G (px _ _) (.p (vq 1 G) (vq 3 G)) (zA 4 G o0)))))) (zz (Wa 4 5 7) UA ?_);refine ztA<|zsA<|zgA UC [] (W6 23) [.g 0,.g 2,.o 1] (zM 1 G (zv G (aO (vq 0 G) ab) o0)) (zz (Wa 4 7 24) UA λ a w U=>?_);refine zJ 2 U G (λ hb2=>?_) (λ hb2=>?_)
  ·refine qb<|zg UE [] (W6 25 [.v 4 _]) R3 U (zM 1 G (zv G (Il (vq 0 G) ((wi64 zo zo).trans (kQ _))) (zA 1 G o0))) (zz (Wc 7 4) UA λ a w U=>?_);refine aa<|qi<|aj ?_;refine aG ?_ (ak G U (zm 1 G));exact nu (OL hb0 hb2)
  ·refine qj<|zt<|zg UE [] [.v 27 _,.v 4 _] Ut U (zM 1 G (zA 0 G o0)) (zz U0 UA λ a w U=>?_);refine zN 0 U G G ?_;exact nu (OK hb0 hb2)
theorem KG {p q:Int}:decide (sg3 p q<0)=decide (p<q):=by
 unfold sg3;split
 ·rename_i h;rw [qE h];rfl
 ·rename_i h;rw [zK h];split <;> rfl
theorem DS (p q:Int):Cn Tryz.prog 210 [Zi p,Zi q] (Bo (decide (p<q))):=by
 refine Cn.intro Tryz.func210 G zk nq (zy [(0,Zi p),(1,Zi q)] λ B w0 a U=>?_);refine qb<|zg [] Uy Uz U9 U (zW 0 G (zW 1 G (zE G aJ))) (zz U0 UA ?_);refine ztA<|zgA UC [] (Ww 5 [.v 4 _]) UL (zl 0 G ao (zl 1 G ao (zQ G (Ii p q) (.p (vq 0 G) (vq 1 G)) (zv G (aO (vq 2 G) ab) (zA 3 G o0))))) (zz U0 UA λ a w U=>?_);refine zN 0 U G G ?_;exact qt Bo KG
theorem DP (n:Int)(h0 : -9223372036854775808≤n)(h1:n<9223372036854775808):Cn Tryz.prog 192 [In n] (Zi n):=by
 refine Cn.intro Tryz.func192 G zk nq (zy [(0,In n)] λ B w0 a U=>?_);refine qb<|zg [] [zpL 2 26 0 _] Ub UH U (zY G (Str.zero br) o0) (zz UI UJ ?_);refine ztA<|zgA U1 [] (W6 4 [.v 3 _]) Ue (zM 0 G (zv G (aI .u64 zk zk (vq 0 G) (G)) (zA 1 G o0))) (zz UK UJ ?_);refine ztA<|zsA<|zgA U1 [] (W6 6) UF (zM 0 G (zv G (aO (vq 0 G) ab) o0)) (zz (Wa 0 3 7) UJ λ a w U=>?_);refine aa<|bN (λ a w =>  St B w0 20 [(0,In n),(3,(NumA .u64 (n.natAbs:Nat)).va)] [⟨2,26,ptrH,cat [BoA false,MgA []]⟩] a w) U (zm 2 G) (λ hb0=>?_) (λ hb0=>?_) (λ a w U=>?_)
 ·refine zg U3 [] (W6 8 [.v 3 _]) Ue U (zM 1 G (zv G (ce (aE 0 G) (vq 0 G) (G)) (zA 1 G o0))) (zz UK UJ λ a w U=>?_);refine aa ?_;have U:=St.sel U [0,1];rw [show IntKind.u64.wrap (((0:Nat):Int)-IntKind.u64.wrap n)=_ from Mk h0 hb0] at U;exact U
 ·refine qj<|aa ?_;have U:=St.sel U [0,1];rw [Mj h1 hb0] at U;exact U
 refine zt<|zg [some (10,_)] [] (Wn 10 [.sto 0]) [] U (zM 0 G (zv G (aO (vq 0 G) ab) (zM 1 G (zv G (py (vq 2 G) (aE 4294967296 G) zd (nrem)) (zv G (aI .u32 zk zk (vq 3 G) (wu32 (qU _ zd))) (zM 1 G (zv G (mS (vq 5 G) (aE 4294967296 G) zd (nquo zo)) (zv G (aI .u32 zk zk (vq 6 G) (wu32 zo)) (zv G (dq (l:=[_,_]) (xs:=[.tmp 14,.tmp 17]) aZ zk nq nq (IT h0 h1) (.p (vq 4 G) (vq 7 G)) G G) (zQ G (cd _ _) (.p (vq 1 G) (vq 8 G)) (zS 9 G ao o0))))))))))) (zz [] UJ λ a w U=>?_);refine aa<|qi<|aG ?_ (ax G U (zm 0 G) ao);exact Mi h0 h1
theorem yV (p:Int):Cn Tryz.prog 232 [Zi p] (Zi (-p)):=by
 refine Cn.intro Tryz.func232 G zk nq (zy [(0,Zi p)] λ B w0 a U=>?_);refine qb<|zg [] UP UQ [] U (zW 0 G (zY G (Str.zero br) o0)) (zz [] UR ?_);refine ztA<|zgA Ru [] (.adr 3 1 (.some 0) True::(W6 4 (.adr 6 1 (.some 1) True::(W6 7 [.sto 1])))) [] (zO 0 G aT (zL 0 0 0 G ty_4 (zv G (er (vq 1 G)) (zO 0 G aq (zL 3 0 1 G aW (zQ G (cd _ _) (.p (vq 2 G) (vq 4 G)) (zS 5 G ao o0))))))) (zz [] UR λ a w U=>?_);refine aa<|qi<|aG ?_ (ax G U (zm 1 G) ao);exact Li
abbrev NL (l:List Nat):List As:=l.map λ (x:Nat)=>NumA .u32 (x:Int)
theorem mJ:∃ it z,Tryz.prog.info? 139=some it∧it.zero=some z∧it.size=1∧it.bytes=4∧z.cells.size=1:=by
 have h:((Tryz.prog.info? 139).bind λ it=>it.zero.map λ z=>(it.size,it.bytes,z.cells.size))=some (1,4,1):=by kernel_rfl
 cases hi:Tryz.prog.info? 139 with
 | none=>rw [hi] at h;simp at h
 | some it =>
  rw [hi] at h;cases hz:it.zero with
  | none=>simp [hz] at h
  | some z =>
   simp [hz] at h;exact ⟨it,z,rfl,hz,h.1,h.2.1,h.2.2⟩
theorem AO {b:Nat}{l:Ya}(ok:okL l):Wk (OwnR b U32 1 [] (NL l)) (MgA l).va:=λ B v w h=>FU ok (l7 B v w h)
theorem eK {x:Nat}(h:x<4294967296):okL [x]:=λ y hy=>by simp at hy;omega
theorem FZ {l m:Ya}{i:Nat}:bD l m (i+1)=bD l m i+4294967296^i*(l.getD i 0+m.getD i 0):=by
 unfold bD;rw [eF,eF,xf];omega
def addN (l m:List Nat):Nat:=if val l+val m<4294967296^max l.length m.length then max l.length m.length else max l.length m.length+1
theorem nO {l m:Ya}{i:Nat}(h:max l.length m.length≤i):bD l m i=val l+val m:=by
 unfold bD;rw [qD zo,qD zo]
theorem G0 {l m:Ya}(hl:okL l)(hm:okL m):val l+val m<4294967296^(max l.length m.length+1):=by
 have h1:=qF (fb hl) (zX (by decide:0<4294967296) (ji l.length m.length));have h2:=qF (fb hm) (zX (by decide:0<4294967296) (jd l.length m.length));rw [ze];omega
structure AddI (l m:List Nat) (i:Nat):Prop where
 le:i≤max l.length m.length+1
 top:i=max l.length m.length+1→4294967296^max l.length m.length≤val l+val m
theorem AddI.more {l m:Ya}{i:Nat}(h:AddI l m i)(hl:okL l)(hm:okL m)(hb:((decide ((i:Int)<(l.length:Int)) || decide ((i:Int)<(m.length:Int))) || decide (((bD l m i/4294967296^i:Nat):Int)>((0:Nat):Int)))=true):i≤max l.length m.length∧AddI l m (i+1):=by
 have h0:=h.le;simp only [zU,qK] at hb;have h1:i≠max l.length m.length+1:=by
  intro e;have h3:=G0 hl hm;have h4:bD l m i/4294967296^i=0:=by
   rw [nO zo,e];exact xL h3
  rw [h4] at hb;omega
 refine ⟨by omega,by omega,λ e=>?_⟩;have e':i=max l.length m.length:=by omega
 have h3:0<bD l m i/4294967296^i:=by
  rcases hb with (hb|hb) | hb
  ·omega
  ·omega
  ·omega
 rw [nO zo,e'] at h3;exact (Nat.div_pos_iff.1 h3).2
theorem AddI.fin {l m:Ya}{i:Nat}(h:AddI l m i)(hl:okL l)(hm:okL m)(hb:((decide ((i:Int)<(l.length:Int)) || decide ((i:Int)<(m.length:Int))) || decide (((bD l m i/4294967296^i:Nat):Int)>((0:Nat):Int)))=false):digs i (bD l m i)=digs (addN l m) (val l+val m):=by
 simp only [qN,qm] at hb;have h0:=h.le;have h1:max l.length m.length≤i:=by omega
 rw [nO h1];rw [nO h1] at hb
 congr 1
 unfold addN;by_cases e:i=max l.length m.length+1
 ·have:=h.top e;rw [qy zo,e]
 ·have e':i=max l.length m.length:=by omega
  rw [qC,e'];rw [← e'];have hp:0<4294967296^i:=zG zd;refine (Nat.div_eq_zero_iff_lt hp).1 ?_;generalize (val l+val m)/4294967296^i=z at *;omega
theorem KN {l m:Ya}{i:Nat}:NL (digs i (bD l m i))++NL [(bD l m i/4294967296^i+l.getD i 0+m.getD i 0)%4294967296]=NL (digs (i+1) (bD l m (i+1))):=by
 unfold NL;rw [FZ,dU,zT,je]
theorem KO {l m:Ya}{i:Nat}:(bD l m i/4294967296^i+l.getD i 0+m.getD i 0)/4294967296=bD l m (i+1)/4294967296^(i+1):=by
 rw [FZ,carry_step',je]
theorem LN (l m:Ya)(hls:l.length≤10000000000)(hms:m.length≤10000000000):Cn Tryz.prog 246 [(MgA l).va,(MgA m).va] ((MgA (digs (addN l m) (val l+val m))).va):=by
 obtain ⟨it,z,e1,e2,e3,e4,e5⟩:=mJ;refine Cn.introF Tryz.func246 G zk nq (λ B w0 a hF U=>?_);have U:=zn [(0,(MgA l).va),(1,(MgA m).va)] [] U;obtain ⟨v0,hv0,U⟩:=St.eqv U 0 rfl;obtain ⟨v1,hv1,U⟩:=St.eqv U 1 rfl;have hl:=(en hv0).1;have hm:=(en hv1).1;refine qb<|zh WP WQ U (zE G b9) (zz WR [] ?_);refine ztA<|zhA UU WX (zE G b9) (zz WU [] ?_);refine ztA<|zhA U2 Uq (zv G (bc (aE 0 G)) o0) (zz UV [] ?_);refine ztA<|zsA<|zhA [.v 7 _] U4 (zE G ab) (zz (Wj 0 1 4 5 6 7) [] λ a w U=>?_);refine aa<|qk ?_;have U:=St.sel U [0,1,3,4,5];refine wp_loop_ghost (λ n a w=>∃ i:Nat,(n+i=max l.length m.length+1∧AddI l m i)∧St B w0 57 [(0,EqV v0),(1,EqV v1),(5,OwnR w0.w.heap.size U32 1 [] (NL (digs i (bD l m i)))),(6,(NumA .u64 ((bD l m i/4294967296^i:Nat):Int)).va),(7,In (i:Nat))] [] a w) (max l.length m.length+1) ?_ ?_
 ·exact ⟨0,⟨rfl,⟨by omega,λ h=>by omega⟩⟩,St.wkG (A':=(NumA .u64 ((bD l m 0/4294967296^0:Nat):Int)).va) (St.wkG U 2 rfl mj) 3 rfl (bf (qt (λ x:Nat=>(NumA .u64 (x:Int)).va) (by simp [fK]:0=bD l m 0/4294967296^0)))⟩
 intro n a w hI;obtain ⟨i,⟨hn,hI⟩,U⟩:=hI;have hc:=eV hl hm i;refine qb<|qb<|zh (Wd 9 (.f 14 _::.f 15 _::.f 16 _::.f 17 _::(W6 18 [.f 20 _,.f 21 _,.v 22 _]))) (Wi [.o 13]) U (zM 4 G (zM 0 G (zv G (aH qc (bk hF hv0 (vq 1 G))) (zv G (aO (vq 0 G) (vq 2 G)) (zV 3 G (zB 4 G (λ hg=>aA (gq 4 G)) (zB 4 G (λ hg=>aA (gq 1 G)) (zB 4 G (λ hg=>aH qc (bk hF hv1 (ae (vq 6 G) hg))) (zB 4 G (λ hg=>aO (ae (vq 5 G) hg) (ae (vq 7 G) hg)) (zv G (r_or (vq 4 G) (vq 8 G)) (zV 9 G (zB 10 G (λ hg=>aA (gq 3 G)) (zB 10 G (λ hg=>cD (ae (vq 11 G) hg) (aE 0 G)) (zv G (r_or (vq 10 G) (vq 12 G)) o0)))))))))))))) (zz (Wj 0 1 5 6 7 22) [] λ a w U=>?_);refine zJ 5 U G (λ hb0=>?_) (λ hb0=>?_)
 ·obtain ⟨hi,hI2⟩:=hI.more hl hm hb0;have hg1:=fA hl i;have hg2:=fA hm i;refine qj<|zt<|qk<|qb<|zh [.v 25 _,.v 8 _] (Wi [.o 1]) U (zM 3 G (zA 0 G o0)) (zz (Wj 0 1 5 6 7 8) [] ?_);refine ztA<|zsA<|zhA (Ww 26) (Wq [.o 3]) (zM 4 G (zM 0 G (zv G (aH qc (bk hF hv0 (vq 1 G))) (zv G (aO (vq 0 G) (vq 2 G)) o0)))) (zz (Wu 0 1 5 6 7 8 29) [] λ a w U=>?_);refine aa<|bN (λ a w =>  St B w0 57 [(0,EqV v0),(1,EqV v1),(5,OwnR w0.w.heap.size U32 1 [] (NL (digs i (bD l m i)))),(7,In (i:Nat)),(8,(NumA .u64 ((bD l m i/4294967296^i+l.getD i 0:Nat):Int)).va)] [] a w) U (zm 6 G) (λ hb1=>?_) (λ hb1=>?_) (λ a w U=>?_)
  ·refine zh (WG 30 [.v 8 _]) (Wi [.o 7]) U (zM 5 G (zM 0 G (zM 4 G (zv G (bL aZ (bk hF hv0 (vq 1 G)) (vq 2 G) (by simp at hb1;omega)) (zv G (ap (vq 3 G) aN) (zv G (aI .u64 zk zk (vq 4 G) (wu64 (zw (hl _ (qg _)) zd))) (zv G (aL (vq 0 G) (vq 5 G) (dE (by have:=hl _ (qg (by simp at hb1;omega:i<l.length));omega))) (zA 6 G o0)))))))) (zz (Wj 0 1 5 6 7 8) [] λ a w U=>?_);refine aa ?_;have U:=St.sel U [0,1,2,4,5];rw [cK (by simp at hb1;omega)];exact U
  ·refine qj<|aa ?_;have U:=St.sel U [0,1,2,4,5];rw [dS (by simp at hb1;omega)];exact U
  refine zt<|qb<|zh (Ww 37) (Wi [.o 3]) U (zM 3 G (zM 1 G (zv G (aH qc (bk hF hv1 (vq 1 G))) (zv G (aO (vq 0 G) (vq 2 G)) o0)))) (zz (Wj 0 1 5 7 8 40) [] λ a w U=>?_);refine aa<|bN (λ a w =>  St B w0 57 [(0,EqV v0),(1,EqV v1),(5,OwnR w0.w.heap.size U32 1 [] (NL (digs i (bD l m i)))),(7,In (i:Nat)),(8,(NumA .u64 ((bD l m i/4294967296^i+l.getD i 0+m.getD i 0:Nat):Int)).va)] [] a w) U (zm 5 G) (λ hb2=>?_) (λ hb2=>?_) (λ a w U=>?_)
  ·refine zh (WG 41 [.v 8 _]) (Wp [.o 7]) U (zM 4 G (zM 1 G (zM 3 G (zv G (bL aZ (bk hF hv1 (vq 1 G)) (vq 2 G) (by simp at hb2;omega)) (zv G (ap (vq 3 G) aN) (zv G (aI .u64 zk zk (vq 4 G) (wu64 (zw (hm _ (qg _)) zd))) (zv G (aL (vq 0 G) (vq 5 G) (dE (by have:=hm _ (qg (by simp at hb2;omega:i<m.length));omega))) (zA 6 G o0)))))))) (zz (W8 0 1 5 7 8) [] λ a w U=>?_);refine aa ?_;have U:=St.sel U [0,1,2,3,4];rw [cK (by simp at hb2;omega) (l:=m)];exact U
  ·refine qj<|aa ?_;have U:=St.sel U [0,1,2,3,4];rw [dS (by simp at hb2;omega) (l:=m)];exact U
  refine zt<|mq (sp:=[.v 48 _,.v 49 _,.v 50 _,.v 51 _,.v 52 _,.v 53 VT,.v 5 VT]) 5 [0,1,3,4] 0 4 U (zM 2 rfl (zM 4 rfl (zv rfl (py (vq 1 rfl) (aE 4294967296 rfl) zd (nrem)) (zv rfl (aI .u32 zk zk (vq 2 rfl) (wu32 (qU _ zd))) (zv rfl (dq (l:=[_]) (xs:=[.tmp 51]) aZ zk nq nq ((eK (qU _ zd))) (.o (vq 3 rfl)) rfl rfl) o0))))) rfl zk rfl rfl zd rfl zd rfl (λ _ _ h _=>(en h).2) qc e1 e2 e3 e4 e5 zd (by simp only [qd,ar,z8];omega) zd (λ T hT=>hT) zd (λ A hA=>by obtain ⟨_,_,rfl⟩:=qp.1 hA;rfl) zk nq nq zk zk (zz (W8 5 0 1 7 8) [] ?_);refine znA<|zhA (W6 54 [.v 6 _]) Rv (zM 4 G (zv G (mS (vq 0 G) (aE 4294967296 G) zd (nquo zo)) (zA 1 G o0))) (zz (W8 5 0 1 7 6) [] λ a w U=>?_);refine al ?_;refine aa<|zh (W6 23 [.v 7 _]) (W7 [.g 4,.o 2]) U (zM 3 G (zv G (aL (vq 0 G) ab (aU zo)) (zA 1 G o0))) (zz (W8 5 0 1 6 7) [] λ a w U=>?_);refine aa ?_;have U:=St.sel U [1,2,0,3,4];exact ⟨n-1,by omega,i+1,⟨by omega,hI2⟩,St.wkG (A':=(NumA .u64 ((bD l m (i+1)/4294967296^(i+1):Nat):Int)).va) (St.wkG (A':=OwnR w0.w.heap.size U32 1 [] (NL (digs (i+1) (bD l m (i+1))))) U 2 G (bf (qt (OwnR w0.w.heap.size U32 1 []) KN))) 3 G (bf (qt (λ x:Nat=>(NumA .u64 (x:Int)).va) KO))⟩
 ·refine qP<|ai<|ai<|az<|zt<|zh [.v 56 _,.v 4 _] Ut U (zM 2 G (zA 0 G o0)) (zz U0 [] λ a w U=>?_);refine aa<|qi<|am ?_ (ak G U (zm 0 G));rw [hI.fin hl hm hb0];exact AO (bV _ _)
def MgB (b:Nat)(l:List Nat):As where
 n:=1
 ag:=false
 p B cs w:=(MgA l).p B cs w∧∀ c∈cs,∀ g,blk c=some g→b≤g
 deps:=(MgA l).deps
 len:=λ B cs w h=>(MgA l).len B cs w h.1
 one:=λ B cs w h=>(MgA l).one B cs w h.1
 ag1:=λ _=>rfl
 cg:=λ B cs w w' hg h=>⟨(MgA l).cg B cs w w' hg h.1,h.2⟩
 wr:=λ B cs w w' g c T fz h1 h2 h3 h4 h=>⟨(MgA l).wr B cs w w' g c T fz h1 h2 h3 h4 h.1,h.2⟩
theorem pL {b:Nat}{l:Ya}:Wk (MgB b l).va (MgA l).va:=λ _ _ _ ⟨cs,h,hv⟩=>⟨cs,h.1,hv⟩
theorem pK {b B:Nat}{l:Ya}(h:(MgB b l).va.p B v w):∀ g,blk v=some g→b≤g:=by
 obtain ⟨cs,⟨h1,h2⟩,hv⟩:=h;have hn:=(MgA l).len _ _ _ h1
 match cs,hn with
 | [c],_ =>
  have e:v=c:=hv;subst e;exact h2 _ (by simp)
theorem Bf {b B:Nat}{l:Ya}(h:(MgA l).va.p B v w)(hb:∀ g,blk v=some g→b≤g):(MgB b l).va.p B v w:=by
 obtain ⟨cs,h1,hv⟩:=h;have hn:=(MgA l).len _ _ _ h1
 match cs,hn with
 | [c],_ =>
  have e:v=c:=hv;subst e;exact ⟨[v],⟨h1,λ c hc=>by simp at hc;subst hc;exact hb⟩,rfl⟩
theorem famB (b:Nat):Fam (MgB b):=⟨λ _=>rfl,λ _=>rfl,λ l B v w h=>by
 obtain ⟨A,c,hv,hm,hk⟩:=famA.op l B v w (pL _ _ _ h);refine ⟨A,c,hv,hm,λ k=>Bf (hk k) λ g hg=>pK h g ?_⟩;rw [hv];cases A with
 | none=>cases hg
 | some ad=>exact hg,λ B w=>⟨ft B w,λ c hc g hg=>by simp at hc;subst hc;cases hg⟩⟩
theorem AN {b:Nat}{l:Ya}(ok:okL l):Wk (OwnR b U32 1 [] (NL l)) (MgB b l).va:=λ B v w h=>Bf (AO ok B v w h) λ g hg=>by
 obtain ⟨_,_,ds,_,_,h5⟩:=h;rcases h5 with ⟨h5,_⟩|⟨g',cap,cur,e1,e2,_⟩
 ·have e:v=.slice none 0 0:=h5;rw [e] at hg;cases hg
 ·rw [e1] at hg;injection hg with hg;rw [← hg];exact e2
theorem wsub' {x y:Nat}(h:y≤x)(hx:x<18446744073709551616):IntKind.u64.wrap ((x:Int)-(y:Int))=((x-y:Nat):Int):=by
 have e:((x:Int)-(y:Int))=((x-y:Nat):Int):=by omega
 rw [e,wu64 zo]
theorem HO {l m:Ya}{i:Nat}(h:i<l.length)(hl:okL l)(hm:okL m):NL (digs i (dif l m i))++NL [(if l[i]<1-dif l m i/4294967296^i+m.getD i 0 then l[i]+4294967296 else l[i])-(1-dif l m i/4294967296^i+m.getD i 0)]=NL (digs (i+1) (dif l m (i+1))):=by
 have h1:=fA hm i;have h2:=ut (m:=m) hl i;have h3:=hl _ (qg h);unfold NL;rw [oR h hm,dU,zT]
 congr 3
 generalize dif l m i/4294967296^i=q at *;generalize m.getD i 0=y at *;generalize l[i]=x at *;split <;> omega
theorem HQ {l m:Ya}{i:Nat}(h:i<l.length)(hl:okL l)(hm:okL m):(if l[i]<1-dif l m i/4294967296^i+m.getD i 0 then 1 else 0)=1-dif l m (i+1)/4294967296^(i+1):=by
 rw [xg];exact lS h hl hm rfl
theorem HP {l m:Ya}(hl:okL l)(h:m.length≤l.length)(hv:val m≤val l):bt (digs l.length (dif l m l.length))=ay (val l-val m):=by
 have:=pp hl h hv;unfold lj at this;rw [jb,ki,zr] at this;exact this
theorem A4 (l m:Ya)(hls:l.length≤10000000000)(hml:m.length≤l.length)(hv:val m≤val l):CnI Tryz.prog 248 [(MgA l).va,(MgA m).va] (λ b=>(MgB b (ay (val l-val m))).va):=by
 obtain ⟨it,z,e1,e2,e3,e4,e5⟩:=mJ;refine CnI.introF Tryz.func248 G zk nq (λ B w0 a hF0 hF U=>?_);have U:=zn [(0,(MgA l).va),(1,(MgA m).va)] [] U;obtain ⟨v0,hv0,U⟩:=St.eqv U 0 rfl;obtain ⟨v1,hv1,U⟩:=St.eqv U 1 rfl;have hl:=(en hv0).1;have hm:=(en hv1).1;refine qb<|zh WP WQ U (zE G b9) (zz WR [] ?_);refine ztA<|zhA UU WX (zE G b9) (zz WU [] ?_);refine ztA<|zhA U2 Uq (zv G (bc (aE 0 G)) o0) (zz UV [] ?_);refine ztA<|zsA<|zhA [.v 7 _] U4 (zE G ab) (zz (Wj 0 1 4 5 6 7) [] λ a w U=>?_);refine aa<|qk ?_;have U:=St.sel U [0,1,3,4,5];refine wp_loop_ghost (λ n a w=>∃ i:Nat,(n+i=l.length)∧St B w0 47 [(0,EqV v0),(1,EqV v1),(5,OwnR w0.w.heap.size U32 1 [] (NL (digs i (dif l m i)))),(6,(NumA .u64 ((1-dif l m i/4294967296^i:Nat):Int)).va),(7,In (i:Nat))] [] a w) (l.length) ?_ ?_
 ·exact ⟨0,by omega,St.wkG (A':=(NumA .u64 ((1-dif l m 0/4294967296^0:Nat):Int)).va) (St.wkG U 2 G mj) 3 G (bf (qt (λ x:Nat=>(NumA .u64 (x:Int)).va) (ur l m).symm))⟩
 intro n a w hI;obtain ⟨i,hn,U⟩:=hI;have hc:=ut (m:=m) hl i;have hc1:1-dif l m i/4294967296^i≤1:=vR _ _;have hg2:=fA hm i;refine qb<|qb<|zh (Ww 10) (Wi [.o 3]) U (zM 4 G (zM 0 G (zv G (aH qc (bk hF hv0 (vq 1 G))) (zv G (aO (vq 0 G) (vq 2 G)) o0)))) (zz (Wj 0 1 5 6 7 13) [] λ a w U=>?_);refine zJ 5 U G (λ hb0=>?_) (λ hb0=>?_)
 ·have hi:i<l.length:=by simp at hb0;omega
  have hx:=hl _ (qg hi);refine qj<|zt<|qk<|qb<|zh [.v 16 _,.v 8 _] (Wi [.o 1]) U (zM 3 G (zA 0 G o0)) (zz (Wj 0 1 5 6 7 8) [] ?_);refine ztA<|zsA<|zhA (Ww 17) (Wq [.o 3]) (zM 4 G (zM 1 G (zv G (aH qc (bk hF hv1 (vq 1 G))) (zv G (aO (vq 0 G) (vq 2 G)) o0)))) (zz (Wu 0 1 5 6 7 8 20) [] λ a w U=>?_);refine aa<|bN (λ a w =>  St B w0 47 [(0,EqV v0),(1,EqV v1),(5,OwnR w0.w.heap.size U32 1 [] (NL (digs i (dif l m i)))),(7,In (i:Nat)),(8,(NumA .u64 ((1-dif l m i/4294967296^i+m.getD i 0:Nat):Int)).va)] [] a w) U (zm 6 G) (λ hb1=>?_) (λ hb1=>?_) (λ a w U=>?_)
  ·refine zh (WG 21 [.v 8 _]) (Wi [.o 7]) U (zM 5 G (zM 1 G (zM 4 G (zv G (bL aZ (bk hF hv1 (vq 1 G)) (vq 2 G) (by simp at hb1;omega)) (zv G (ap (vq 3 G) aN) (zv G (aI .u64 zk zk (vq 4 G) (wu64 (zw (hm _ (qg _)) zd))) (zv G (aL (vq 0 G) (vq 5 G) (dE (by have:=hm _ (qg (by simp at hb1;omega:i<m.length));omega))) (zA 6 G o0)))))))) (zz (Wj 0 1 5 6 7 8) [] λ a w U=>?_);refine aa ?_;have U:=St.sel U [0,1,2,4,5];rw [cK (by simp at hb1;omega) (l:=m)];exact U
  ·refine qj<|aa ?_;have U:=St.sel U [0,1,2,4,5];rw [dS (by simp at hb1;omega) (l:=m)];exact U
  refine zt<|zh (Wd 28 [.v 9 _]) (Wi [.o 5]) U (zM 0 G (zM 3 G (zv G (bL aZ (bk hF hv0 (vq 0 G)) (vq 1 G) hi) (zv G (ap (vq 2 G) aN) (zv G (aI .u64 zk zk (vq 3 G) (wu64 (zw (hl _ (qg _)) zd))) (zA 4 G o0)))))) (zz (Wj 0 1 5 7 8 9) [] ?_);refine ztA<|zhA U2 (Wq [.o 0]) (zv G (bc (aE 0 G)) o0) (zz (Wu 0 1 5 7 8 9 6) [] ?_);refine ztA<|zsA<|zhA (Wb 33) (Wx [.o 2]) (zM 5 G (zM 4 G (zv G (aO (vq 0 G) (vq 1 G)) o0))) (zz (Wy 0 1 5 7 8 9 6 35) [] λ a w U=>?_);refine aa<|bN (λ a w =>  St B w0 47 [(0,EqV v0),(1,EqV v1),(5,OwnR w0.w.heap.size U32 1 [] (NL (digs i (dif l m i)))),(6,(NumA .u64 (((if l[i]<1-dif l m i/4294967296^i+m.getD i 0 then 1 else 0):Nat):Int)).va),(7,In (i:Nat)),(8,(NumA .u64 ((1-dif l m i/4294967296^i+m.getD i 0:Nat):Int)).va),(9,(NumA .u64 (((if l[i]<1-dif l m i/4294967296^i+m.getD i 0 then l[i]+4294967296 else l[i]):Nat):Int)).va)] [] a w) U (zm 7 G) (λ hb2=>?_) (λ hb2=>?_) (λ a w U=>?_)
  ·refine qb<|zh (W6 36 [.v 9 _]) (Wi [.g 6,.o 2]) U (zM 5 G (zv G (aL (vq 0 G) (aE 4294967296 G) (dE zo)) (zA 1 G o0))) (zz (Wu 0 1 5 7 8 6 9) [] ?_);refine znA<|zhA U2 (Wi [.g 6,.o 0]) (zv G (bc (aE 1 G)) o0) (zz (Wu 0 1 5 7 8 9 6) [] λ a w U=>?_);refine aa ?_;have U:=St.sel U [0,1,2,6,3,4,5];have hlt:l[i]<1-dif l m i/4294967296^i+m.getD i 0:=kR.1 (qu hb2);rw [qC hlt,qC hlt];exact U
  ·refine qj<|aa ?_;have U:=St.sel U [0,1,2,6,3,4,5];have hlt:¬ l[i]<1-dif l m i/4294967296^i+m.getD i 0:=λ h=>qw hb2 (kR.2 h);rw [qy hlt,qy hlt];exact U
  refine aa<|mq (sp:=[.v 38 _,.v 39 _,.v 40 _,.v 41 _,.v 42 _,.v 43 _,.v 44 VT,.v 5 VT]) 6 [0,1,3,4] 0 5 U (zM 2 rfl (zM 6 rfl (zM 5 rfl (zv rfl (ce (vq 1 rfl) (vq 2 rfl) (wsub' (by split <;> omega) (by split <;> omega))) (zv rfl (aI .u32 zk zk (vq 3 rfl) (wu32 (by split <;> omega))) (zv rfl (dq (l:=[_]) (xs:=[.tmp 42]) aZ zk nq nq ((eK (by split <;> omega))) (.o (vq 4 rfl)) rfl rfl) o0)))))) rfl zk rfl rfl zd rfl zd rfl (λ _ _ h _=>(en h).2) qc e1 e2 e3 e4 e5 zd (by simp only [qd,ar,z8];omega) zd (λ T hT=>hT) zd (λ A hA=>by obtain ⟨_,_,rfl⟩:=qp.1 hA;rfl) zk nq nq zk zk (zz (W8 5 0 1 6 7) [] λ a w U=>?_);refine al ?_;refine aa<|zh (W6 14 [.v 7 _]) Rv U (zM 4 G (zv G (aL (vq 0 G) ab (aU zo)) (zA 1 G o0))) (zz (W8 5 0 1 6 7) [] λ a w U=>?_);refine aa ?_;have U:=St.sel U [1,2,0,3,4];exact ⟨n-1,by omega,i+1,by omega,St.wkG (A':=(NumA .u64 ((1-dif l m (i+1)/4294967296^(i+1):Nat):Int)).va) (St.wkG (A':=OwnR w0.w.heap.size U32 1 [] (NL (digs (i+1) (dif l m (i+1))))) U 2 G (bf (qt (OwnR w0.w.heap.size U32 1 []) (HO hi hl hm)))) 3 G (bf (qt (λ x:Nat=>(NumA .u64 (x:Int)).va) (HQ hi hl hm)))⟩
 ·obtain rfl:i=l.length:=by simp at hb0;omega
  have U:=St.wkG (A':=(MgB w0.w.heap.size (digs l.length (dif l m l.length))).va) U 2 rfl (AN (bV _ _));refine qP<|ai<|ai<|az<|zt<|zh (W6 45 [.v 4 _]) U9 U (zM 2 G (zQ G (ep (famB w0.w.heap.size) _) (.o (vq 0 G)) (zA 1 G o0))) (zz U0 [] λ a w U=>?_);refine aa<|qi<|am ?_ (ak G U (zm 0 G));rw [HP hl hml hv];exact aM
theorem CnI.cn {f:Yn}{pre:Yc}{mk:Nat→VA}{A:VA}(h:CnI P f pre mk)(hw:∀ b,Wk (mk b) A):Cn P f pre A:=⟨h.1,λ B w args hB ha=>(h.2 B w args hB ha).mono λ e w' ⟨v,he,hv,hg⟩=>⟨v,he,hw _ _ _ _ hv,hg⟩⟩
theorem yZ (l m:Ya)(hls:l.length≤10000000000)(hml:m.length≤l.length)(hv:val m≤val l):Cn Tryz.prog 248 [(MgA l).va,(MgA m).va] (MgA (ay (val l-val m))).va:=(A4 l m hls hml hv).cn λ _=>pL
theorem MulI.step' {a b L:Ya}{i u k c:Nat}(h:MulI a b L i u k c)(hb:okL b)(hu:u<4294967296)(hk:k<b.length)(hj:i+k<L.length) :
  MulI a b (L.set (i+k) ((u*b[k]+L[i+k]+c)%4294967296)) i u (k+1) ((u*b[k]+L[i+k]+c)/4294967296):=by
 have:=h.step hb hu hk hj;rw [xg c] at this;exact this
theorem J9 {a b L:Ya}(ha:okL a)(hb:okL b)(h:MulO a b L a.length):bt L=ay (val a*val b):=by
 rw [h.fin,iJ];rw [xe];exact kV (fb ha) (fb hb)
theorem A6 (l m:Ya)(hls:l.length≤1099511627776)(hms:m.length≤1099511627776):Cn Tryz.prog 233 [(MgA l).va,(MgA m).va] ((MgN (ay (val l*val m))).va):=by
 refine Cn.introW Tryz.func233 G zk nq (.cons (lP _).va (.cons (lP _).va .nil)) (ee _).va (λ B w0 a hB0 U=>?_);have U:=zn [(0,(MgO l).va),(1,(MgO m).va)] [] U;have ha:=(U.magO 0 rfl).1;have hb:=(U.magO 1 rfl).1;refine qb<|zh WP WQ U (zE G b9) (zz WR [] λ a w U=>?_);refine zt<|di (sts:=[]) (news:=[⟨15,139,slH _ _,some 5,_,none⟩]) (sp:=[.v 10 _,.v 11 _,.v 12 _,.v 13 _,.v 14 _,.alc 0,.adr 5 15 .none True]) [.g 0,.g 1,.g 2] [(5,15)] [zpH 5 139 _] U (zM 0 G (zv G (aH qc (aB (vq 0 G))) (zM 1 G (zv G (aH qc (aB (vq 2 G))) (zv G (aL (vq 1 G) (vq 3 G) (gG zo)) (oc (et G G G fp (vq 4 G) (vq 4 G) zo) (oc (ob_a G G mO) o0))))))) zk zk zk ⟨⟨6,rfl⟩,trivial⟩ G zk (zz WR [zpH 5 139 _] ?_);refine ztA<|zsA<|zgA U1 [] U2 WX (zE G ab) (zz (Wf 0 1 4 6) [zpH 5 139 _] λ a w U=>?_);refine aa<|qk ?_;have U:=St.sel U [0,1,3];refine wp_loop_ghost (λ n a w=>∃ (i:Nat) (L:List Nat),n+i=l.length∧MulO l m L i∧St B w0 69 [(0,(MgO l).va),(1,(MgO m).va),(6,In (i:Nat))] [⟨5,139,slH (l.length+m.length) (l.length+m.length),Nums .u32 L⟩] a w) (l.length) ?_ ?_
 ·exact ⟨0,_,by omega,MulO.start _ _,U⟩
 intro n a w hI;obtain ⟨i,L,hn,hO,U⟩:=hI;obtain ⟨n1,hn1⟩:∃ n1,n1=n:=⟨n,rfl⟩;have hlen:=hO.len;refine qb<|qb<|zg U3 [] (Ww 16) WT U (zM 2 G (zM 0 G (zv G (aH qc (aB (vq 1 G))) (zv G (aO (vq 0 G) (vq 2 G)) o0)))) (zz (Wf 0 1 6 19) [zpH 5 139 _] λ a w U=>?_);refine zJ 3 U G (λ hb0=>?_) (λ hb0=>?_)
 ·have hi:i<l.length:=by simp at hb0;omega
  refine qj<|zt<|qk<|qb<|zg U3 [] [.v 7 _] WX U (zv G (bc (aE 0 G)) o0) (zz (Wf 0 1 6 7) [zpH 5 139 _] ?_);refine ztA<|zsA<|zgA U1 [] [.v 8 _] Uq (zE G ab) (zz (W8 0 1 6 7 8) [zpH 5 139 _] λ a w U=>?_);refine aa<|qk ?_;have U:=St.sel U [0,1,2,3,4];refine wp_loop_ghost (λ n a w=>∃ (k c:Nat) (L:List Nat),n+k=m.length∧MulI l m L i l[i] k c∧St B w0 69 [(0,(MgO l).va),(1,(MgO m).va),(6,In (i:Nat)),(7,(NumA .u64 ((c:Nat):Int)).va),(8,In (k:Nat))] [⟨5,139,slH (l.length+m.length) (l.length+m.length),Nums .u32 L⟩] a w) (m.length) ?_ ?_
  ·exact ⟨0,0,L,by omega,hO.row _,U⟩
  intro n a w hI;clear hlen hO;obtain ⟨k,c,L,hn2,hI,U⟩:=hI;have hlen:=hI.len;have hc:=hI.cl;refine qb<|qb<|zg U3 [] (Ww 22) (Wi [.o 3]) U (zM 4 G (zM 1 G (zv G (aH qc (aB (vq 1 G))) (zv G (aO (vq 0 G) (vq 2 G)) o0)))) (zz (Wj 0 1 6 7 8 25) [zpH 5 139 _] λ a w U=>?_);refine zJ 5 U G (λ hb1=>?_) (λ hb1=>?_)
  ·have hk:k<m.length:=by simp at hb1;omega
   refine qj<|zt<|qk<|qb<|zgd [[],[],[0,1],[0,1,2],(Wm 4),[],[],[5,6],[5,6,7],[5,6,7,8],(Wm 10),[],[],[],[12,13],[11,12,13,14],[11,12,13,14,15],[11,12,13,14,15,16],(Wm 18),[],(Wm 20),(Wm 21)] U1 [] (WM 28 (.adr 39 5 .none True::(Wb 40 (.adr 43 5 (.some _) True::(Wd 44 [.v 9 _]))))) (Wi [.o 21]) ac U (zM 0 G (zM 2 G (zv G (bL aZ (aB (vq 0 G)) (vq 1 G) zo) (zv G (ap (vq 2 G) aN) (zv G (aI .u64 zk zk (vq 3 G) (wu64 (zw (ha _ (qg _)) zd))) (zM 1 G (zM 4 G (zv G (bL aZ (aB (vq 5 G)) (vq 6 G) zo) (zv G (ap (vq 7 G) aN) (zv G (aI .u64 zk zk (vq 8 G) (wu64 (zw (hb _ (qg _)) zd))) (zv G (mc (vq 4 G) (vq 9 G) (pa (za (qf (wg _ _) (j7 _ _)) (l8 (ha _ (qg _)) (hb _ (qg _)) (show 0<4294967296 by decide) (show 0<4294967296 by decide))))) (oc (ob_a G G cy) (zM 2 G (zM 4 G (zv G (aL (vq 12 G) (vq 13 G) (gG zo)) (oc (ob_a G G (dM 11 G zk (lz0 0 G) aZ (vq 14 G) zo)) (zv G (me 15 G zk (lz0 0 G) (λ _=>bX _ _ _ _) (iU zo) aN) (zv G (aI .u64 zk zk (vq 16 G) (wu64 (zw (hI.ok _ (qg _)) zd))) (zv G (aL (vq 10 G) (vq 17 G) (dE (za (j7 _ _) (l8 (ha _ (qg _)) (hb _ (qg _)) hc (hI.ok _ (qg _)))))) (zM 3 G (zv G (aL (vq 18 G) (vq 19 G) (dE (by rw [xg];exact l8 (ha _ (qg _)) (hb _ (qg _)) hc (hI.ok _ (qg _))))) (zA 20 G o0)))))))))))))))))))))) zk zk zk zk (zz (Wj 0 1 6 7 8 9) [zpH 5 139 _] ?_);refine ztA<|zgA [some (8,_)] [] (.adr 49 5 .none True::(Wl 50 [.adr 56 5 (.some _) True,.sto 0])) Wq (oc (ob_a G G cy) (zM 2 G (zM 4 G (zv G (aL (vq 1 G) (vq 2 G) (gG zo)) (zM 5 G (zv G (py (vq 4 G) (aE 4294967296 G) zd (nrem)) (zv G (aI .u32 zk zk (vq 5 G) (wu32 (qU _ zd))) (oc (ob_a G G (dM 0 G zk (lz0 0 G) aZ (vq 3 G) zo)) (oc (co 7 G G G G zk (λ _=>bX _ _ _ _) (vq 6 G) aN (bx zo)) o0))))))))) (zz (Wj 0 1 6 7 8 9) [zpH 5 139 _] ?_);refine znA<|zgA U1 [] (W6 57 [.v 7 _]) (W7 [.g 4,.o 2]) (zM 5 G (zv G (mS (vq 0 G) (aE 4294967296 G) zd (nquo (za (j8 _ _) (by rw [xg];exact l8 (ha _ (qg _)) (hb _ (qg _)) hc (hI.ok _ (qg _)))))) (zA 1 G o0))) (zz (W8 0 1 6 8 7) [zpH 5 139 _] λ a w U=>?_);refine al ?_;refine aa<|zg U3 [] (W6 26 [.v 8 _]) (W7 [.g 4,.o 2]) U (zM 3 G (zv G (aL (vq 0 G) ab (aU zo)) (zA 1 G o0))) (zz (W8 0 1 6 7 8) [zpH 5 139 _] λ a w U=>?_);refine aa ?_;have U:=St.sel U [0,1,2,3,4];exact ⟨n-1,by omega,k+1,_,_,by omega,hI.step' hb (ha _ (qg _)) hk zo,U⟩
  ·obtain rfl:k=m.length:=by simp at hb1;omega
   refine qP<|ai<|ai<|az<|aa<|zg [some (8,_)] [] (.adr 59 5 .none True::(Wl 60 [.adr 66 5 (.some _) True,.sto 0])) W7 U (oc (ob_a G G cy) (zM 2 G (zM 1 G (zv G (aH qc (aB (vq 2 G))) (zv G (aL (vq 1 G) (vq 3 G) (gG zo)) (zM 3 G (zv G (aI .u32 zk zk (vq 5 G) (wu32 hc)) (oc (ob_a G G (dM 0 G zk (lz0 0 G) aZ (vq 4 G) zo)) (oc (co 7 G G G G zk (λ _=>bX _ _ _ _) (vq 6 G) aN (bx zo)) o0))))))))) (zz (Wa 0 1 6) [zpH 5 139 _] λ a w U=>?_);refine al ?_;refine aa<|zg U3 [] (W6 20 [.v 6 _]) WY U (zM 2 G (zv G (aL (vq 0 G) ab (aU zo)) (zA 1 G o0))) (zz (Wa 0 1 6) [zpH 5 139 _] λ a w U=>?_);refine aa ?_;have U:=St.sel U [0,1,2];exact ⟨n1-1,by omega,i+1,_,by omega,hI.done hi rfl,U⟩
 ·obtain rfl:i=l.length:=by simp at hb0;omega
  refine qP<|ai<|ai<|az<|zt<|zg U3 [] [.adr 67 5 .none True,.v 68 _,.v 4 _] U9 U (oc (ob_a G G cy) (zQ G (ep famN _) (.o (i6 0 G zk (lz0 0 G) ⟨hO.len.symm,qh _,by unfold maxLen;omega,hO.ok⟩ hO.len.symm)) (zA 1 G o0))) (zz U0 [zpH 5 139 _] λ a w U=>?_);refine aa<|qi<|am ?_ (ak G U (zm 0 G));rw [J9 ha hb hO];exact aM
theorem lu (x:Nat):(bt [x]).length≤1∧val (bt [x])=x:=⟨yB [x],by rw [pg];simp [val]⟩
theorem tn (l:Ya)(x:Nat)(hls:l.length≤1099511627776)(hx:x<4294967296):Cn Tryz.prog 260 [(MgA l).va,(NumA .u32 (x:Nat)).va] ((MgA (ay (val l*x))).va):=by
 refine Cn.intro Tryz.func260 G zk nq (zy [(0,(MgA l).va),(1,(NumA .u32 (x:Nat)).va)] λ B w0 a U=>?_);refine qb<|zh WP WQ U (zE G b9) (zz WR [] ?_);refine ztA<|zhA (Wd 5 [.v 4 _]) [.o 5] (zM 0 G (zM 1 G (zv G (dq (l:=[_]) (xs:=[.tmp 6]) aZ zk nq nq ((eK hx)) (.o (vq 1 G)) G G) (zQ G (ep famA _) (.o (vq 2 G)) (zQ G (A6 l (bt [x]) hls (qf (lu x).1 zd)) (.p (vq 0 G) (vq 3 G)) (zA 4 G o0)))))) (zz U0 [] λ a w U=>?_);refine aa<|qi<|am ?_ (ak G U (zm 0 G));rw [(lu x).2];exact pb
def rsSt (l:List Nat)(d n:Nat):List Nat:=List.replicate n 0++digs (l.length-n) (val (l.drop n)/d)
theorem fQ {l:Ya}{d n:Nat}(h:n≤l.length):(rsSt l d n).length=l.length:=by simp [rsSt,ar];omega
theorem ng (l:Ya)(d:Nat):rsSt l d l.length=List.replicate l.length 0:=by simp [rsSt,digs]
theorem A5 {l:Ya}{d n:Nat}:okL (rsSt l d n):=okL_append.2 ⟨λ x hx=>by rw [(xN.1 hx).2];decide,bV _ _⟩
theorem eG {l:Ya}{j:Nat}(h:j<l.length):val (l.drop j)=l[j]+4294967296*val (l.drop (j+1)):=by
 rw [qG h];rfl
theorem G8 {x V d:Nat}(hd:0<d):(x+4294967296*V)/d=4294967296*(V/d)+(V%d*4294967296+x)/d∧(x+4294967296*V)%d=(V%d*4294967296+x)%d:=by
 have e:x+4294967296*V=(V%d*4294967296+x)+d*(4294967296*(V/d)):=by
  have:=xP V d;have e2:d*(4294967296*(V/d))=4294967296*(d*(V/d)):=by rw [v5]
  generalize d*(V/d)=p at *;omega
 rw [e,kb _ _ hd,jP];exact ⟨by omega,rfl⟩
theorem DL {x V d:Nat}(hd:0<d)(hx:x<4294967296):(V%d*4294967296+x)/d<4294967296:=by
 have h1:=qU V hd;rw [ka hd];have h2:(V%d+1)*4294967296≤d*4294967296:=qI _ h1;omega
theorem rQ {l:Ya}{d j:Nat}(hl:okL l)(hd:0<d)(hj:j<l.length):(rsSt l d (j+1)).set j ((val (l.drop (j+1))%d*4294967296+l[j])/d)=rsSt l d j:=by
 unfold rsSt;have e:l.length-j=(l.length-(j+1))+1:=by omega
 rw [eG hj,(G8 hd).1,e,xg (4294967296*_),xg _ (4294967296*_),rp _ _ _ (DL hd (hl _ (qg hj)))];rw [x6,qY,eH _ _ _ _ (by simp)]
 rfl
theorem rR {l:Ya}{d j:Nat}(hd:0<d)(hj:j<l.length):(val (l.drop (j+1))%d*4294967296+l[j])%d=val (l.drop j)%d:=by
 rw [eG hj,(G8 hd).2]
theorem G7 {l:Ya}{d:Nat}(hl:okL l):bt (rsSt l d 0)=ay (val l/d):=by
 unfold rsSt;rw [ki,xw,jq,xl,iJ];exact za (j8 _ _) (fb hl)
theorem tp (l:Ya)(d:Nat)(hls:l.length≤1099511627776)(hd:0<d)(hd2:d<4294967296):Cn Tryz.prog 259 [(MgA l).va,(NumA .u32 (d:Nat)).va] (Tu [(MgN (ay (val l/d))).va,(NumA .u32 (val l%d:Nat)).va]):=by
 refine Cn.introW Tryz.func259 G zk nq (.cons (lP _).va (.cons (mX _ _).va .nil)) (sm (.cons (ee _).va (.cons (cq _ _).va .nil))) (λ B w0 a hB0 U=>?_);have U:=zn [(0,(MgO l).va),(1,(NumA .u32 (d:Nat)).va)] [] U;have hl:=(U.magO 0 rfl).1;refine qb<|zh (W6 4) (We [.o 0,.o 1]) U (zv G (bc b9) (zv G (bc (aE 0 G)) o0)) (zz WU [] λ a w U=>?_);refine zt<|di (sts:=[]) (news:=[⟨12,139,slH _ _,some 2,_,none⟩]) (sp:=[.v 10 _,.v 11 _,.alc 0,.adr 6 12 .none True]) [.g 0,.g 1,.g 2,.g 3] [(6,12)] [zpH 6 139 _] U (zM 0 G (zv G (aH qc (aB (vq 0 G))) (oc (et G G G fp (vq 1 G) (vq 1 G) zo) (oc (ob_a G G mO) o0)))) zk zk zk ⟨⟨3,rfl⟩,trivial⟩ G zk (zz WU [zpH 6 139 _] ?_);refine ztA<|zgA U1 [] [.v 7 _] Uq (zv G (bc (aE 0 G)) o0) (zz (W8 0 1 4 5 7) [zpH 6 139 _] ?_);refine ztA<|zsA<|zgA U1 [] (Wb 13 [.v 8 _]) (Wi [.o 3]) (zM 0 G (zv G (aH qc (aB (vq 0 G))) (zv G (ce (vq 1 G) ab (wi64 zo zo)) (zA 2 G o0)))) (zz (Wj 0 1 4 5 7 8) [zpH 6 139 _] λ a w U=>?_);refine aa<|qk ?_;have U:=St.sel U [0,1,4,5];refine wp_loop_ghost (λ n a w=>n≤l.length∧St B w0 44 [(0,(MgO l).va),(1,(NumA .u32 (d:Nat)).va),(7,(NumA .u64 ((val (l.drop n)%d:Nat):Int)).va),(8,In ((n:Int)-1))] [⟨6,139,slH l.length l.length,Nums .u32 (rsSt l d n)⟩] a w) (l.length) ?_ ?_
 ·exact ⟨qh _,by rw [ng,show val (l.drop l.length)%d=0 from by simp];exact U⟩
 intro n a w hI;obtain ⟨hn,U⟩:=hI;have hmd:=qU (val (l.drop n)) hd;refine qb<|qb<|zg U3 [] (W6 16) UW U (zM 3 G (zv G (dD (vq 0 G) ab) o0)) (zz (W8 0 1 7 8 17) [zpH 6 139 _] λ a w U=>?_);refine zJ 4 U G (λ hb0=>?_) (λ hb0=>?_)
 ·obtain ⟨j,rfl⟩:∃ j,n=j+1:=⟨n-1,by simp at hb0;omega⟩;rw [show ((j+1:Nat):Int)-1=(j:Int) from by omega] at U;have hj:j<l.length:=by omega
  have hx:=hl _ (qg hj);refine qj<|zt<|qk<|qb<|zg U3 [] (W9 20 [.v 9 _]) (Wp [.o 8]) U (zM 2 G (zv G (mc (vq 0 G) (aE 4294967296 G) (pa zo)) (zM 0 G (zM 3 G (zv G (bL aZ (aB (vq 2 G)) (vq 3 G) hj) (zv G (ap (vq 4 G) aN) (zv G (aI .u64 zk zk (vq 5 G) (wu64 zo)) (zv G (aL (vq 1 G) (vq 6 G) (dE zo)) (zA 7 G o0))))))))) (zz (W8 0 1 7 8 9) [zpH 6 139 _] ?_);refine ztA<|zgA [some (8,_)] [] (.adr 28 6 .none True::(Wl 29 [.adr 35 6 (.some _) True,.sto 0])) Wi (oc (ob_a G G cy) (zM 3 G (zM 4 G (zM 1 G (zv G (aI .u64 zk zk (vq 3 G) (wu64 zo)) (zv G (mS (vq 2 G) (vq 4 G) zo (nquo (zw (DL hd hx) zd))) (zv G (aI .u32 zk zk (vq 5 G) (wu32 (DL hd hx))) (oc (ob_a G G (dM 0 G zk (lz0 0 G) aZ (vq 1 G) hj)) (oc (co 7 G G G G zk (λ _=>bX _ _ _ _) (vq 6 G) aN (bx (by rw [fQ zo];omega))) o0))))))))) (zz (W8 0 1 7 8 9) [zpH 6 139 _] ?_);refine znA<|zgA U1 [] (Ww 36 [.v 7 _]) (We [.g 3,.o 4]) (zM 4 G (zM 1 G (zv G (aI .u64 zk zk (vq 1 G) (wu64 zo)) (zv G (py (vq 0 G) (vq 2 G) zo (nrem)) (zA 3 G o0))))) (zz (Wf 0 1 8 7) [zpH 6 139 _] λ a w U=>?_);refine al ?_;refine aa<|zg U3 [] (W6 18 [.v 8 _]) UX U (zM 2 G (zv G (ce (vq 0 G) ab (wi64 zo zo)) (zA 1 G o0))) (zz (Wf 0 1 7 8) [zpH 6 139 _] λ a w U=>?_);refine aa ?_;have U:=St.sel U [0,1,2,3];rw [rQ hl hd hj,rR hd hj] at U;exact ⟨j,by omega,by omega,U⟩
 ·obtain rfl:n=0:=by simp at hb0;omega
  refine qP<|ai<|ai<|az<|zt<|zg U3 [] (.adr 40 6 .none True::(Wb 41 (W6 4))) [.o 4,.o 5] U (oc (ob_a G G cy) (zQ G (ep famN _) (.o (i6 0 G zk (lz0 0 G) ⟨by rw [fQ (zf _)],qh _,by unfold maxLen;omega,A5⟩ (by rw [fQ (zf _)]))) (zM 2 G (zv G (aI .u32 zk zk (vq 2 G) (wu32 zo)) (zA 1 G (zA 3 G o0)))))) (zz (Wc 4 5) [zpH 6 139 _] λ a w U=>?_);refine aa<|qi<|am ?_ (aX (rs:=[.tmp 4,.tmp 5]) G U (.tmp (zm 0 G) (.tmp (zm 1 G) .nil)) zd);rw [G7 hl,xl];exact aM
theorem If (l:Ya)(hls:l.length≤1099511627776):Cn Tryz.prog 254 [(MgA l).va] ((MgA (ay (val l/2))).va):=by
 refine Cn.intro Tryz.func254 G zk nq (zy [(0,(MgA l).va)] λ B w0 a U=>?_);refine qb<|zh Ux UZ U (zE G b9) (zz R1 [] ?_);refine ztA<|zhA (W6 6 (.v 5 _::(W6 8 (W6 3)))) [.g 1,.o 5] (zM 0 G (zQ G (tp l 2 hls zd zd) (.p (vq 0 G) (aE 2 G)) (zV 1 G (zv G (aP (vq 2 G) G) (zv G (aP (vq 2 G) G) (zA 3 G (zA 4 G o0))))))) (zz (Wc 2 3) [] ?_);refine ztA<|zhA [.v 10 _,.v 2 _] Ut (zM 1 G (zA 0 G o0)) (zz Uu [] λ a w U=>?_);refine aa<|qi<|am ?_ (ak G U (zm 0 G));exact pb
theorem Nc {l:Ya}(h:0<l.length):val l%2=l[0]%2:=by
 have:=eG h;rw [xl] at this;omega
theorem Ih (l:Ya)(h:0<l.length):Cn Tryz.prog 253 [(MgA l).va] (Bo (((val l%2:Nat):Int)==((0:Nat):Int))):=by
 refine Cn.intro Tryz.func253 G zk nq (zy [(0,(MgA l).va)] λ B w0 a U=>?_);refine qb<|zh Ux UZ U (zE G aJ) (zz R1 [] ?_);refine ztA<|zhA (Wd 3 [.v 2 _]) [.o 5] (zM 0 G (zv G (bL aZ (vq 0 G) (aE 0 G) h) (zv G (ap (vq 1 G) aN) (zv G (py (vq 2 G) (aE 2 G) zd (nrem)) (zv G (bF (vq 3 G) (aE 0 G)) (zA 4 G o0)))))) (zz Uu [] λ a w U=>?_);refine aa<|qi<|am ?_ (ak G U (zm 0 G));rw [Nc h];exact aM
theorem cm_le0 {X Y:Nat}:cmL (ay X) (ay Y)≤0↔X≤Y:=by
 rw [fE];split
 ·omega
 ·split <;> omega
theorem Pu {R D q:Nat}(h1:D*q≤R)(h2:R<D*(q+1)):q=R/D:=by
 rw [qW] at h1 h2;exact (Nat.div_eq_of_lt_le h1 h2).symm
theorem LA {R D:Nat}(hD:0<D)(hR:R<D*4294967296)(hl:(ay D).length≤1099511627776):Cn Tryz.prog 261 [(MgA (ay R)).va,(MgA (ay D)).va] ((NumA .u32 (R/D:Nat)).va):=by
 refine Cn.intro Tryz.func261 G zk nq (zy [(0,(MgA (ay R)).va),(1,(MgA (ay D)).va)] λ B w0 a U=>?_);refine qb<|zh WP WQ U (zv G (bc (aE 0 G)) o0) (zz WR [] ?_);refine ztA<|zhA UU WX (zv G (bc (aE 0 G)) o0) (zz WU [] ?_);refine ztA<|zhA U2 Uq (zv G (bc (aE 4294967295 G)) o0) (zz UV [] λ a w U=>?_);refine zt<|qk ?_;have U:=St.sel U [0,1,3,4];refine wp_loop_ghost (λ n a w=>∃ lo hi:Nat,(lo≤hi∧hi≤4294967295∧D*lo≤R∧R<D*(hi+1)∧n=hi-lo)∧St B w0 28 [(0,(MgA (ay R)).va),(1,(MgA (ay D)).va),(5,(NumA .u64 ((lo:Nat):Int)).va),(6,(NumA .u64 ((hi:Nat):Int)).va)] [] a w) (4294967295) ?_ ?_
 ·exact ⟨0,4294967295,⟨by decide,by decide,by omega,hR,rfl⟩,U⟩
 intro n a w hI;obtain ⟨lo,hi,⟨i1,i2,i3,i4,i5⟩,U⟩:=hI;refine qb<|qb<|zh (Wb 8) Rv U (zM 2 G (zM 3 G (zv G (aO (vq 0 G) (vq 1 G)) o0))) (zz (W8 0 1 5 6 10) [] λ a w U=>?_);refine zJ 4 U G (λ hb0=>?_) (λ hb0=>?_)
 ·have hlt:lo<hi:=by simp at hb0;omega
  refine qj<|aa<|qk<|qb<|zh (Wd 11 [.v 7 _]) (Wp [.o 5]) U (zM 2 G (zM 3 G (zv G (aL (vq 0 G) (vq 1 G) (dE zo)) (zv G (aL (vq 2 G) (aE 1 G) (dE zo)) (zv G (mS (vq 3 G) (aE 2 G) zd (nquo zo)) (zA 4 G o0)))))) (zz (W8 0 1 5 6 7) [] ?_);refine ztA<|zhA (WG 16) (Wi [.o 6]) (zM 1 G (zM 4 G (zv G (aI .u32 zk zk (vq 1 G) (wu32 zo)) (zQ G (tn (ay D) ((lo+hi+1)/2) hl zo) (.p (vq 0 G) (vq 2 G)) (zM 0 G (zQ G (px _ _) (.p (vq 3 G) (vq 4 G)) (zv G (ll (vq 5 G) ab) o0))))))) (zz (Wj 0 1 5 6 7 22) [] λ a w U=>?_);refine zJ 5 U G (λ hb1=>?_) (λ hb1=>?_)
  ·have hq:D*((lo+hi+1)/2)≤R:=by have:=cm_le0.1 (qu hb1);rwa [aF] at this
   refine zh [.v 23 _,.v 5 _] (We [.g 3,.o 1]) U (zM 4 G (zA 0 G o0)) (zz (Wf 0 1 6 5) [] λ a w U=>?_);refine al ?_;refine aa ?_;have U:=St.sel U [0,1,3,2];exact ⟨hi-(lo+hi+1)/2,by omega,(lo+hi+1)/2,hi,⟨by omega,i2,hq,i4,rfl⟩,U⟩
  ·have hq:R<D*((lo+hi+1)/2):=by have h9:=jc λ h=>qw hb1 (cm_le0.2 h);rwa [aF] at h9
   refine zh (W6 24 [.v 6 _]) UD U (zM 4 G (zv G (ce (vq 0 G) (aE 1 G) (wsub' zo zo)) (zA 1 G o0))) (zz (Wf 0 1 5 6) [] λ a w U=>?_);refine al ?_;refine aa ?_;have U:=St.sel U [0,1,2,3];exact ⟨(lo+hi+1)/2-1-lo,by omega,lo,(lo+hi+1)/2-1,⟨by omega,by omega,i3,by rw [jG zo];exact hq,rfl⟩,U⟩
 ·obtain rfl:lo=hi:=by simp at hb0;omega
  refine qP<|ai<|ai<|az<|zt<|zh (W6 26 [.v 4 _]) U9 U (zM 2 G (zv G (aI .u32 zk zk (vq 0 G) (wu32 zo)) (zA 1 G o0))) (zz U0 [] λ a w U=>?_);refine aa<|qi<|am ?_ (ak G U (zm 0 G));rw [← Pu i3 i4];exact aM
def RowX (b c:Nat)(l r:List Nat):VA where
 p B v w:=∃ g,v=.slice (some ⟨g,0,none⟩) l.length c∧b≤g∧B≤g∧c=(l++r).length∧c≤maxLen∧w.heap[g]?=some (.cells ((l++r).map λ (x:Nat)=>Value.int .u32 x).toArray U32 (0,0))
 deps:=[U32]
 cg:=by
  rintro B v w w' hg ⟨g,h1,h2,h3,h4,h5,h6⟩;exact ⟨g,h1,h2,h3,h4,h5,hg.heap h6⟩
 wr:=by
  rintro B v w w' g c T fz hg hT hB hW ⟨g',h1,h2,h3,h4,h5,h6⟩;refine ⟨g',h1,h2,h3,h4,h5,?_⟩;rw [hW.block g' λ hh=>?_]
  ·exact h6
  ·subst hh;rw [hg] at h6;simp only [Option.some.injEq,Obj.cells.injEq] at h6;exact hT (by simp [h6.2.1])
theorem Ic {b c B:Nat}{l r:Ya}(h:(RowX b c l r).p B v w):gj w b U32 v.ownBlock:=by
 obtain ⟨g,rfl,h2,_,_,_,h6⟩:=h;intro g' e;have e':g=g':=by injection e
 subst e';exact ⟨h2,_,_,h6⟩
theorem wG {g:Nat}(cs:Array Yo):w.grownBy (w.setRow g cs) (some g):=by
 have h:=Wr.setRow w g cs;exact ⟨h.os,h.tape,h.output,by rw [h.size];exact qh _,λ k _ hk=>h.block k λ e=>hk (by rw [e])⟩
theorem tl {S T1:Yh}{b c B:Nat}{l r xs:Ya}{v u:Yo}{it:TypeInfo}(hS:P.underlying S=some (.slice U32))(hi:P.info? U32=some it)(hsz:it.size=1)(hroom:xs.length≤r.length)
  (hv:(RowX b c l r).p B v w) (hu:(MgA xs).va.p B u w) :
  ∃ v' w',(Builtin.append_ #[S,S] T1 #[v,u]).run P w=.ok v' w'∧(RowX b c (l++xs) (r.drop xs.length)).p B v' w'∧w.grownBy w' v.ownBlock∧gj w b U32 v.ownBlock∧blk v'=blk v:=by
 have hro:=Ic hv;obtain ⟨g,rfl,h2,hBg,h4,h5,h6⟩:=hv;obtain ⟨A,c',rfl,hm⟩:=gB hu;have hlen:l.length+xs.length≤c:=by rw [h4,qx];omega
 have fin:(RowX b c (l++xs) (r.drop xs.length)).p B (.slice (some ⟨g,0,none⟩) (l.length+xs.length) c) (w.setRow g (((l++xs)++r.drop xs.length).map λ (x:Nat)=>Value.int .u32 x).toArray) :=
  ⟨g,by rw [qx],h2,hBg,by rw [h4];simp only [qx,xM];omega,h5,setRow_heap w g _ _ _ _ h6⟩
 cases A with
 | none =>
  have hx:xs=[]:=by
   apply z9;apply Decidable.byContradiction;intro hn;obtain ⟨_,_,e,_⟩:=hm.at_ zo;cases e
  subst hx;have hown:w.ownsRow b U32 1 (.slice (some ⟨g,0,none⟩) l.length c) l.length (l.map λ (x:Nat)=>Value.int .u32 x):=⟨by simp,.inr ⟨g,c,_,rfl,h2,h6,by omega,h5,by simp [h4],by simp⟩⟩;refine ⟨_,w,l4 b S T1 U32 it 1 hS hi _ _ c' _ hown,⟨g,by simp,h2,hBg,by simpa using h4,h5,by simpa using h6⟩,⟨rfl,rfl,rfl,qh _,λ _ _ _=>rfl⟩,hro,rfl⟩
 | some ad =>
  have hnew:∀ j u,(xs.map λ (x:Nat)=>Value.int .u32 x)[j]?=some u→w.cell? (ad.add j)=some u:=λ j u hj=>by
   have hjx:j<xs.length:=by have:=(List.getElem?_eq_some_iff.1 hj).1;simpa using this
   obtain ⟨b',o,e,_,_,h8⟩:=hm.at_ zo;injection e with e;subst e;rw [sU,h8 j hjx];simpa [hjx] using hj
  have hr:=run_append_room (P:=P) w S T1 U32 it hS hi g l.length c _ h6 ad xs.length c' (xs.map λ (x:Nat)=>Value.int .u32 x) (by simp [hsz]) hnew (λ u hu=>by obtain ⟨_,_,rfl⟩:=qp.1 hu;rfl) hlen (by rw [hsz];simp;omega);refine ⟨_,_,hr,?_,wG _,hro,rfl⟩;have e:(((l++r).map λ (x:Nat)=>Value.int .u32 x).toArray.toList.take (l.length*it.size)++(xs.map λ (x:Nat)=>Value.int .u32 x)++((l++r).map λ (x:Nat)=>Value.int .u32 x).toArray.toList.drop (l.length*it.size+(xs.map λ (x:Nat)=>Value.int .u32 x).length))=((l++xs)++r.drop xs.length).map λ (x:Nat)=>Value.int .u32 x:=by
   rw [hsz];simp [wj,List.map_drop]
  rw [e];exact fin
section
variable {P:Program}{R:Rg}{Q:Exit→Act→World→Prop}{B i:Nat}{w0:Bs}
theorem Io {S:Yh}{n:Nat}{x y:Yj}(hM:rE P S U32 .u32)(hB:B≤w0.w.heap.size)(hx:Has R B w0 i x (In 0))(hy:Has R B w0 i y (In n))(hn:n≤17592186044416):Wv P Q R B w0 i (.makeSlice S x y) (RowX w0.w.heap.size n [] (List.replicate n 0)) :=
 bj λ d T ps af gd a w av=>by
  obtain ⟨h1,h2,h3,h4,h5⟩:=hM;obtain ⟨it,hi,hz⟩:=vk.1 h2;have hsz:it.size=1:=by rw [hi] at h3;simpa using h3
  have hby:=h5 it hi;have hm:=run_make (P:=P) w S U32 it (.int .u32 0) h1 hi hz .i64 .i64 0 n zo zo (by
   have:it.bytes*n≤8*n:=qI _ hby;have h6:((it.bytes*n:Nat):Int)≤281474976710656:=by omega
   rwa [xJ] at h6) zo
  have e1:=bg (hx a w av);have e2:=bg (hy a w av);have hcells:madeCells (Value.int .u32 0).cells (n*it.size)=((List.replicate n 0).map λ (x:Nat)=>Value.int .u32 x).toArray:=by
   rw [hsz,zH];apply jN;intro j;simp only [madeCells,Value.cells,jJ];by_cases hj:j<n
   ·simp [hj,vD]
   ·simp [hj]
  simp only [xi] at hm;rw [hcells] at hm;refine ⟨.slice (some ⟨w.heap.size,0,none⟩) 0 n,w.alloc (.cells ((List.replicate n 0).map λ (x:Nat)=>Value.int .u32 x).toArray U32),?_,Grow.alloc _ _,⟨w.heap.size,rfl,av.base.size,qf hB av.base.size,by simp,by unfold maxLen;omega,by simpa using heap_alloc_new w _⟩⟩;simp [execOp,e1,e2,hm]
end
open Rg in
theorem JR {Q:Yd}{B N:Nat}{id:Nat}{ops:Yg}{sp:Yu}(n:Nat)(src:Ya)(i1 i2:Nat){S T1 T2:Yh}{s u d e c0:Nat}{ps1 ps2:Yv}{af1 af2:Yw}{l r xs:Ya}{A2:VA}{it:TypeInfo}
  (h:St B w0 N Γ Λ a w) (hob:Obs P Q ⟨ops,N,Γ,lesN Λ,sp,λ i=>List.range i⟩ B w0 0 n) (hn2:ops.size=n+2) (hk:Rg.chk ⟨ops,N,Γ,lesN Λ,sp,λ i=>List.range i⟩=true)
  (ho1:ops[n]?=some ⟨some d,.call ⟨.builtin .append,#[.tmp s,.tmp u],#[S,S]⟩,T1,ps1,af1,none⟩) (ho2:ops[n+1]?=some ⟨some e,.assign (.tmp d),T2,ps2,af2,none⟩)
  (hi1:i1<n) (h1:sp[i1]?=some (.v s (RowX w0.w.heap.size c0 l r))) (hi2:i2<n) (h2:sp[i2]?=some (.v u A2)) (hA2:∀ w u,A2.p B u w→Kept w0 w→(MgA xs).va.p B u w)
  (hS:P.underlying S=some (.slice U32)) (hi:P.info? U32=some it) (hsz:it.size=1) (hroom:xs.length≤r.length) (hde:(d != e)=true) (hd:d<N) (he:e<N)
  (hsrc:src.all (λ k=>match Γ[k]? with|some y => !y.2.deps.contains U32&&Rg.outG ⟨ops,N,Γ,lesN Λ,sp,λ i=>List.range i⟩ y.1|none=>false)=true)
  (hΛ:Λ.all (λ l=>l.T != U32 && !l.A.deps.contains U32&&l.s != d&&l.s != e)=true)
  (hQ:∀ a w,St B w0 N ((e,RowX w0.w.heap.size c0 (l++xs) (r.drop xs.length))::src.filterMap (λ k=>Γ[k]?)) Λ a w→Q .normal a w):(Code.region id ops false).wp P Q a w:=by
 have hles0:∀ y∈lesN Λ,y.cr=none∧y.st=none∧(⟨y.s,y.T,y.H,y.A0⟩:Lc)∈Λ:=λ y hy=>by
  obtain ⟨l',hl',rfl⟩:=qp.1 hy;exact ⟨rfl,rfl,hl'⟩
 refine Rg.linK (R:=⟨ops,N,Γ,lesN Λ,sp,λ i=>List.range i⟩) (m:=2) hn2 G hk h (λ y hy _=>(hles0 y hy).2.2) (λ i hi=>hob.all i zo zo) λ a1 w1 hinv=>?_;have hcl:∀ deps,Rg.clash ⟨ops,N,Γ,lesN Λ,sp,λ i=>List.range i⟩ (λ k=>decide (k<n)) deps=false:=λ deps=>by
  unfold Rg.clash;rw [xF];intro y hy;rw [(hles0 y hy).2.1];simp
 have hv:=hinv.v i1 _ s _ h1 rfl (qE hi1) (hcl _);have hu:=hA2 _ _ (hinv.v i2 _ u _ h2 rfl (qE hi2) (hcl _)) hinv.base;have hB:B≤w0.w.heap.size:=hinv.lo _ (.inl (qh _));obtain ⟨v',w',hr,r1,r2,r3,_⟩:=tl (T1:=T1) hS hi hsz hroom hv hu;have hdsz:d<a1.tmps.size:=by rw [hinv.size];exact hd
 have hesz:e<(a1.put (some d) v').tmps.size:=by rw [size_put,hinv.size];exact he
 have hne:d≠e:=by simpa using hde
 rw [List.range'_succ,qv];refine bA (R:=⟨ops,N,Γ,lesN Λ,sp,λ i=>List.range i⟩) ho1 G (aY (w':=w') (v:=v') (by simp [execOp,resolve,invoke,builtin,hr,Result.andThen]) ?_);rw [List.range'_succ,qv];refine bA (R:=⟨ops,N,Γ,lesN Λ,sp,λ i=>List.range i⟩) ho2 G (aY (w':=w') (v:=v') ?_ (hQ _ _ ?_))
 ·have:=aK a1 d v' hdsz;simp [execOp,this]
 ·have hother:∀ t,t≠d→t≠e→((a1.put (some d) v').put (some e) v').eval (.tmp t)=a1.eval (.tmp t):=λ t h3 h4=>by
   rw [an _ _ _ _ h4,an _ _ _ _ h3]
  have hlc:∀ l'∈Λ,l'.T≠U32∧U32 ∉ l'.A.deps∧l'.s≠d∧l'.s≠e:=λ l' hl'=>by
   have:=qe.1 hΛ l' hl';simp only [qo,bne_iff_ne,qz,qB,qm] at this;exact ⟨this.1.1.1,this.1.1.2,this.1.2,this.2⟩
  have hcur:∀ l'∈Λ,(⟨l'.s,l'.T,l'.H,none,l'.A,none⟩:Le)∈lesN Λ:=λ l' hl'=>qp.2 ⟨l',hl',rfl⟩;refine ⟨hinv.lo,hinv.defers.grown r2 r3 rfl,by rw [size_put,size_put];exact hinv.size,?_,?_,?_,?_⟩
  ·exact ⟨r2.os.trans hinv.base.os,r2.tape.trans hinv.base.tape,r2.output.trans hinv.base.output,qf hinv.base.size r2.size,λ k hk hf =>
    (r2.block k (qF hk hinv.base.size) (λ e=>by have:=(r3 k e.symm).1;omega)).trans (hinv.base.block k hk hf)⟩
  ·intro y hy;rcases qr.1 hy with rfl|hy
   ·show (RowX w0.w.heap.size c0 (l++xs) (r.drop xs.length)).p B (((a1.put (some d) v').put (some e) v').eval (.tmp e)) w';rw [aK _ _ _ hesz];exact r1
   ·obtain ⟨k,hk1,hk2⟩:=qH.1 hy;have hs:=qe.1 hsrc k hk1;simp only [hk2,qo,qz,qB,qm] at hs;have hout:∀ q,q<ops.size→Rg.dst ⟨ops,N,Γ,lesN Λ,sp,λ i=>List.range i⟩ q≠some y.1:=λ q hq=>by
     have:=qe.1 hs.2 q (by simpa using hq);simpa using this
    have g1:y.1≠d:=λ e1=>hout n zo (by unfold Rg.dst;rw [ho1,e1];rfl);have g2:y.1≠e:=λ e1=>hout (n+1) zo (by unfold Rg.dst;rw [ho2,e1];rfl);rw [hother _ g1 g2];exact VA.grown (hinv.g y (qa hk2) (λ q hq hdq=>absurd hdq (hout q hq)) (hcl _)) r2 r3 hB hs.1
  ·intro l' hl';obtain ⟨g1,g2,g3,g4⟩:=hlc l' hl';obtain ⟨g,cs,e1,e2,e3,e4⟩:=hinv.c _ (hcur l' hl') l'.A rfl;refine ⟨g,cs,by rw [hother _ g3 g4];exact e1,e2,?_,As.grown e4 r2 r3 hB g2⟩;rw [r2.block g (Array.getElem?_eq_some_iff.1 e3).1 (λ e5=>by
    obtain ⟨_,c,fz,e6⟩:=r3 g e5.symm;rw [e3] at e6;injection e6 with e6;injection e6 with _ e6 _;exact g1 e6)]
   exact e3
  ·intro l1 hl1 l2 hl2 hne';obtain ⟨_,_,g3,g4⟩:=hlc l1 hl1;obtain ⟨_,_,g5,g6⟩:=hlc l2 hl2;rw [hother _ g3 g4,hother _ g5 g6];exact hinv.x _ (hcur l1 hl1) _ (hcur l2 hl2) hne' G rfl
def TwN (l:List Nat):As where
 n:=1
 ag:=false
 p B cs w:=okL l∧∃ g,cs=[.slice (some ⟨g,0,none⟩) l.length (l.length+1)]∧B≤g∧l.length+1≤maxLen∧w.heap[g]?=some (.cells ((l++[7777]).map λ (x:Nat)=>Value.int .u32 x).toArray U32 (0,0))
 deps:=[U32]
 len:=by rintro B cs w ⟨_,g,rfl,_⟩;rfl
 one:=by rintro B cs w ⟨_,g,rfl,_⟩ x hx;simp at hx;subst hx;rfl
 ag1:=λ _=>rfl
 cg:=by
  rintro B cs w w' hg ⟨h0,g,rfl,h1,h2,h3⟩;exact ⟨h0,g,rfl,h1,h2,hg.heap h3⟩
 wr:=by
  rintro B cs w w' g c T fz hg hT hB hW ⟨h0,g',rfl,h1,h2,h3⟩;refine ⟨h0,g',rfl,h1,h2,?_⟩;rw [hW.block g' λ hh=>?_]
  ·exact h3
  ·subst hh;rw [hg] at h3;simp only [Option.some.injEq,Obj.cells.injEq] at h3;exact hT (by simp [h3.2.1])
theorem ta {l:Ya}{B g:Nat}(ok:okL l)(h2:l.length+1≤maxLen)(h3:w.heap[g]?=some (.cells ((l++[7777]).map λ (x:Nat)=>Value.int .u32 x).toArray U32 (0,0))):Mag B w (some ⟨g,0,none⟩) (l.length+1) (l++[7777]) :=
 Mag.own h3 (okL_append.2 ⟨ok,eK zd⟩) (by simp) h2 (λ j hj=>by rw [List.getElem?_toArray,List.getElem?_map,List.getElem?_eq_getElem hj];rfl)
theorem D7 {l:Ya}:Wk (TwN l).va (MgA l).va:=λ B v w ⟨cs,⟨ok,g,e,h1,h2,h3⟩,hv⟩=>by
 subst e;have e2:v=.slice (some ⟨g,0,none⟩) l.length (l.length+1):=hv;subst e2;have:=eu ((ta (B:=B) ok h2 h3).take l.length) (n:=l.length) (by simp);rwa [ke] at this
theorem EM (l:Ya):FreeA (TwN l) (TwN l):=⟨rfl,rfl,λ B B' cs w hB h=>by
 obtain ⟨ok,g,e,h1,h2,h3⟩:=h;exact ⟨ok,g,e,qf hB h1,h2,h3⟩⟩
def RIT (x:RI):As:=cat [BoA x.neg,TwN x.mag]
theorem oC (x:RI):FreeA (RIT x) (RIT x):=bI (.cons (dT _) (.cons (EM _) .nil))
def SlK (v:Value)(h:v.oneCell'=true):As where
 n:=1
 ag:=false
 p _ cs _:=cs=[v]
 deps:=[]
 len:=by rintro B cs w rfl;rfl
 one:=by rintro B cs w rfl c hc;simp at hc;subst hc;exact h
 ag1:=λ _=>rfl
 cg:=λ _ _ _ _ _ h=>h
 wr:=λ _ _ _ _ _ _ _ _ _ _ _ _ h=>h
theorem K9 {h:v.oneCell'=true}:Wk (EqV v) (SlK v h).va:=λ _ u _ e=>⟨[v],rfl,e⟩
theorem St.toRow {B N:Nat}(h:St B w0 N Γ Λ a w){s c:Nat}{l r:Ya}(k:Nat)(hm:Γ[k]?=some (s,RowX w0.w.heap.size c l r))(hΛ:Λ.all (λ m=>m.T != U32)=true):
  ∃ g,B≤g∧c=(l++r).length∧c≤maxLen∧St B w0 N (Γ.set k (s,EqV (.slice (some ⟨g,0,none⟩) l.length c))) (Λ++[⟨s,U32,slH l.length c,Nums .u32 (l++r)⟩]) a w:=by
 obtain ⟨g,hv,h2,h3,h4,h5,h6⟩:=h.vals _ (qa hm);have hd:∀ m∈Λ,blk (a.eval (.tmp m.s))≠some g:=by
  intro m hm2 hh;obtain ⟨g',cs,e1,_,e3,_⟩:=h.locs m hm2;rw [e1,m.H.ok] at hh;injection hh with hh;subst hh;rw [e3] at h6;simp only [Option.some.injEq,Obj.cells.injEq] at h6;have:=qe.1 hΛ m hm2;simp [h6.2.1] at this
 have hv':a.eval (.tmp s)=.slice (some ⟨g,0,none⟩) l.length c:=hv;have hg:blk (a.eval (.tmp s))=some g:=by rw [hv'];rfl
 refine ⟨g,h3,h4,h5,h.lo,h.defers,h.size,h.base,λ x hx=>?_,λ x hx=>?_,λ x hx y hy hne=>?_⟩
 ·rcases qq hx with hx|rfl
  ·exact h.vals x hx
  ·exact hv'
 ·rcases qn.1 hx with hx|hx
  ·exact h.locs x hx
  ·obtain rfl:=ql.1 hx;exact ⟨g,_,hv',.inl h2,h6,rfl⟩
 ·rcases qn.1 hx with hx|hx <;> rcases qn.1 hy with hy|hy
  ·exact h.dis x hx y hy hne
  ·obtain rfl:=ql.1 hy;rw [hg];exact hd x hx
  ·obtain rfl:=ql.1 hx;rw [hg];exact λ e=>hd y hy e.symm
  ·obtain rfl:=ql.1 hx;obtain rfl:=ql.1 hy;exact absurd G hne
section
variable {P:Program}{R:Rg}{Q:Exit→Act→World→Prop}{B i:Nat}{w0:Bs}
theorem IV {d s e g c:Nat}{cr:Yt}{l r xs:Ya}{x y:Yj}{S ty:Yh}{it:TypeInfo}
  (hs:R.sp[i]?=some (.cal d (EqV (.slice (some ⟨g,0,none⟩) (l.length+xs.length) c)) e)) (he:R.les[e]?=some ⟨s,U32,slH l.length c,cr,Nums .u32 (l++r),some (i,Nums .u32 (l++xs++r.drop xs.length))⟩) (ho:R.ops[i]?=some ⟨some d,.call ⟨.builtin .append,#[x,y],#[S,S]⟩,ty,ps,af,none⟩)
  (hS:P.underlying S=some (.slice U32)) (hi:P.info? U32=some it) (hsz:it.size=1) (hroom:xs.length≤r.length) (hc:c=(l++r).length) (hmx:c≤maxLen) (hx:Has R B w0 i x (EqV (.slice (some ⟨g,0,none⟩) l.length c))) (hsl:Has R B w0 i (.tmp s) (EqV (.slice (some ⟨g,0,none⟩) l.length c))) (hy:Has R B w0 i y (MgA xs).va):R.Ob P Q B w0 i:=by
 unfold Rg.Ob;simp only [hs,he];intro a w av g' cs h1 hB h3 h4 _ K hK;have e1:a.eval x=_:=hx a w av;have e2:a.eval (.tmp s)=.slice (some ⟨g,0,none⟩) l.length c:=hsl a w av;have eg:g=g':=by
  rw [h1] at e2;have:some g'=some g:=qt blk e2;injection this with this;exact this.symm
 subst eg;have h4':cs=(l++r).map λ (x:Nat)=>Value.int .u32 x:=h4;obtain ⟨v',w',hr,hX,hgr,_,hbk⟩:=tl (P:=P) (S:=S) (T1:=ty) (b:=g) (c:=c) (B:=B) (l:=l) (r:=r) (xs:=xs) (w:=w) hS hi hsz hroom ⟨g,rfl,qh _,hB,hc,hmx,by rw [← h4'];exact h3⟩ (hy a w av);obtain ⟨g2,q1,_,_,q4,q5,q6⟩:=hX;refine bA ho G (aY (w':=w') (v:=v') (by simp [execOp,resolve,invoke,builtin,e1,hr,Result.andThen]) ?_);have eg2:g2=g:=by
  rw [q1] at hbk;injection hbk
 subst eg2;exact hK v' _ w' ⟨hgr.os,hgr.tape,hgr.output,hgr.size,λ k hk hf=>hgr.block k hk λ e=>hf (by injection e)⟩ q6 G (by rw [q1,qx];rfl)
end
theorem oneK {g n c:Nat}:(Value.slice (some ⟨g,0,none⟩) n c).oneCell'=true:=rfl
theorem St.twin {B N:Nat}(h:St B w0 N Γ Λ a w){s s2 T2 g c:Nat}{H2:Hd}{b:Bool}{l:Ya}(k e2 e3:Nat)(hm:Γ[k]?=some (s,EqV (.slice (some ⟨g,0,none⟩) l.length c)))(he2:Λ[e2]?=some ⟨s2,T2,H2,cat [BoA b,SlK (.slice (some ⟨g,0,none⟩) l.length c) oneK]⟩)
  (he3:Λ[e3]?=some ⟨s,U32,slH l.length c,Nums .u32 (l++[7777])⟩) (ok:okL l) (hc:c=l.length+1) (hcm:c≤maxLen) (hB:B≤g):St B w0 N Γ (Λ.set e2 ⟨s2,T2,H2,RIT ⟨b,l⟩⟩) a w:=by
 obtain ⟨g3,cs3,f1,_,f3,f4⟩:=h.locs _ (qa he3);have f4':cs3=(l++[7777]).map λ (x:Nat)=>Value.int .u32 x:=f4;have f5:a.eval (.tmp s)=.slice (some ⟨g,0,none⟩) l.length c:=h.vals _ (qa hm);have eg:g=g3:=by
  rw [f5] at f1;have:some g=some g3:=qt blk f1;injection this
 subst eg;rw [f4'] at f3;have hset:∀ m∈Λ.set e2 ⟨s2,T2,H2,RIT ⟨b,l⟩⟩,m=⟨s2,T2,H2,RIT ⟨b,l⟩⟩∨m∈Λ:=λ m hm=>(qq hm).symm;have hin:=qa he2;refine ⟨h.lo,h.defers,h.size,h.base,h.vals,λ m hm'=>?_,λ m hm1 m' hm2 hne=>?_⟩
 ·rcases hset m hm' with rfl|hm'
  ·obtain ⟨g2,cs,e1,e2',e3',e4⟩:=h.locs _ hin;refine ⟨g2,cs,e1,e2',e3',?_⟩;obtain ⟨ps,q1,q2⟩:=e4;cases q2 with
   | cons q3 q2=>cases q2 with
    | cons q4 q2 =>
     refine ⟨_,q1,.cons q3 (.cons ?_ q2)⟩;exact ⟨ok,g,by rw [← hc];exact q4,hB,by rw [← hc];exact hcm,f3⟩
  ·exact h.locs m hm'
 ·have key:∀ m∈Λ.set e2 ⟨s2,T2,H2,RIT ⟨b,l⟩⟩,∃ m'∈Λ,m'.s=m.s:=λ m hm=>by
   rcases hset m hm with rfl|hm
   ·exact ⟨_,hin,rfl⟩
   ·exact ⟨m,hm,rfl⟩
  obtain ⟨p,p1,p2⟩:=key m hm1;obtain ⟨p',p3,p4⟩:=key m' hm2;rw [← p2,← p4];exact h.dis p p1 p' p3 (by rw [p2,p4];exact hne)
theorem Fm (n:Nat):(List.replicate (n+1) 0).drop n=[0]:=by rw [vK,j0];rfl
theorem pl (x:RI)(hx:x.mag.length≤1000000000000):Cn Tryz.prog 104 [(RIA x).va] ((RIT x).va):=by
 obtain ⟨it,z,e1,e2,e3,e4,e5⟩:=mJ;refine Cn.introW Tryz.func104 G zk nq (.cons (uM _).va .nil) (oC _).va (λ B w0 a hB0 U=>?_);have U:=zn [(0,(RIO x).va)] [] U;have hok:okL x.mag:=(iN (KZ _ _ _ (U.vals _ (zm 0 rfl)))).1;refine qb<|zg [] UP UQ [] U (zW 0 G (zY G (Str.zero fM) o0)) (zz [] UR ?_);refine ztA<|zgA UC [] (.adr 4 1 (.some 1) True::(W6 5 [.v 7 (In ((x.mag.length+1:Nat):Int)),.v 8 _,.v 3 _])) [.o 5] (zO 0 G aq (zL 0 0 1 G aW (zv G (aH qc (aB (vq 1 G))) (zv G (aL (vq 2 G) ab (aU zo)) (zv G (Io fp (xK hB0) ab (vq 3 G) zo) (zA 4 G o0)))))) (zz Rn UR λ a w U=>?_);refine zt<|JR (sp:=[.v 9 _,.adr 10 1 (.some 1) True,.v 11 _,.v 12 VT,.v 3 VT]) 3 [] 0 2 U (zM 0 G (zO 0 G aq (zL 1 0 1 G aW o0))) G zk G G zd G zd G (xs:=x.mag) (λ w u h k=>iZ _ _ _ h) qc e1 e3 (by simp) zk nq nq zk zk (λ a w U=>?_);have U:=St.wkG (A':=RowX w0.w.heap.size (x.mag.length+1) x.mag [0]) U 0 rfl (bf (by rw [Fm];rfl));have U:=zn Rn UR U;refine zt ?_;obtain ⟨g,hBg,hce,hcm,U⟩:=St.toRow U 0 rfl rfl;refine zgd [[],[0],[],[],[2,3],[],[5],[5,6],[2,3,4,5,6,7],(Wm 9),(Wm 10)] [none,some (10,_),some (4,_)] [] (.adr 13 1 (.some 0) True::(Wb 14 (.cal 17 (EqV (.slice (some ⟨g,0,none⟩) (x.mag.length+[7777].length) (x.mag.length+1))) 2::.adr 18 1 (.some 1) True::(W6 19 [.v 21 (EqV (.slice (some ⟨g,0,none⟩) x.mag.length (x.mag.length+1))),.v 22 _,.sto 1])))) UH ac U (zO 0 G aT (zL 0 0 0 G ty_4 (zM 0 G (zv G (dq (l:=[_]) (xs:=[.const (.int .u32 (7777))]) aZ zk nq nq (eK zd) (.o (aE 7777 G)) G G) (oc (IV (l:=x.mag) (r:=[0]) (xs:=[7777]) G G G qc e1 e3 zd hce hcm (vq 2 G) (gq 0 G) (vq 3 G)) (zO 0 G aq (zL 5 0 1 G aW (zv G (aH qc (aB (vq 6 G))) (zv G (Ai aZ (JJ 4 G zk zk) (vq 7 G) ⟨by omega,by omega⟩) (zv G (aS (qs:=[(0,_),(1,SlK (.slice (some ⟨g,0,none⟩) x.mag.length (x.mag.length+1)) oneK)]) fM (.cons ⟨rfl,vq 1 rfl,rfl⟩ (.cons ⟨rfl,has_wk' (vq 8 G) (K9 (h:=oneK)),rfl⟩ .nil))) (zS 9 G ao o0))))))))))) zk zk zk zk (zz Rn [O 1 26 _,O 2 26 _,zpH 3 139 _] λ a w U=>?_);have U:=St.wkL (A:=Nums .u32 (x.mag++[7777]++[])) (A':=Nums .u32 (x.mag++[7777])) U 2 rfl (fa (by rw [zr]));have U:=St.twin U 0 1 2 rfl rfl rfl hok (by simp at hce;omega) hcm hBg;refine aa<|qi<|am ?_ (ax G U (zm 1 G) ao);exact aM
def RFT (x:RF):As:=cat [RIT x.num,RIT x.den]
theorem Ho {l:Ya}:WkA (TwN l) (MgA l):=⟨rfl,rfl,λ B cs w h=>by
 obtain ⟨cs',h1,h2⟩:=D7 B (cE false cs) w ⟨cs,h,rfl⟩;have l1:=(TwN l).len _ _ _ h;have l2:=(MgA l).len _ _ _ h1
 match cs,cs',l1,l2 with
 | [c],[c'],_,_ =>
  have e:c=c':=h2;subst e;exact h1⟩
theorem wkA_rit {x:RI}:WkA (RIT x) (RIA x):=bi (.cons (.refl _) (.cons Ho .nil))
theorem nI {x:RF}:WkA (RFT x) (RFA x):=bi (.cons wkA_rit (.cons wkA_rit .nil))
section
variable {P:Program}{R:Rg}{Q:Exit→Act→World→Prop}{B i:Nat}{w0:Bs}
theorem FX {l:Ya}(h:(TwN l).va.p B v w):okL l∧∃ g,v=.slice (some ⟨g,0,none⟩) l.length (l.length+1)∧l.length+1≤maxLen∧w.heap[g]?=some (.cells ((l++[7777]).map λ (x:Nat)=>Value.int .u32 x).toArray U32 (0,0)):=by
 obtain ⟨cs,⟨ok,g,e,h1,h2,h3⟩,hv⟩:=h;subst e;exact ⟨ok,g,hv,h2,h3⟩
theorem LV {x:Yj}{S E':Yh}{l:Ya}(hS:P.underlying S=some (.slice E'))(hx:Has R B w0 i x (TwN l).va):Wv P Q R B w0 i (.call ⟨.builtin .cap,#[x],#[S]⟩) (In ((l.length+1:Nat):Int)) :=
 bj λ d T ps af gd a w av=>by
  obtain ⟨_,g,hv,_,_⟩:=FX (hx a w av);refine ⟨.int .i64 ((l.length+1:Nat):Int),w,?_,Grow.refl w,bS _ _ _ _⟩;simp [execOp,resolve,invoke,builtin,hv,Builtin.cap_,run_underlying hS,goInt]
theorem Ik {x z:Yj}{S:Yh}{l:Ya}(hS:Sl P S U32 1)(hx:Has R B w0 i x (TwN l).va)(hz:Has R B w0 i z (In ((l.length+1:Nat):Int))):Wv P Q R B w0 i (.slice S x none (some z) none) (MgA (l++[7777])).va :=
 bj λ d T ps af gd a w av=>by
  obtain ⟨hs1,hs2⟩:=hS;obtain ⟨ok,g,e1,hm,hh⟩:=FX (hx a w av);have e3:=bg (hz a w av);have hE:P.elem S=U32:=by simp [Program.elem,hs1]
  have hs1':P.underlying S=some (.slice (P.elem S)):=by rw [hE];exact hs1
  have hsz:∀ w,(sizeOf U32).run P w=.ok 1 w:=λ w=>by
   cases hi:P.info? U32 with
   | none=>rw [hi] at hs2;simp at hs2
   | some it=>rw [hi] at hs2;simp [sizeOf,typeInfo,hi];simpa using hs2
  refine ⟨.slice (some ⟨g,0,none⟩) (l.length+1) (l.length+1),w,?_,Grow.refl w,eu (ta ok hm hh) (by simp)⟩;have hr:=run_slice_h (P:=P) w S (some ⟨g,0,none⟩) l.length (l.length+1) hs1' .i64 ((l.length+1:Nat):Int) zo zo;rw [hE,hsz] at hr;have hne:¬ l.length+1=0:=by omega
  simp only [Result.andThen_ok,sliced,xi,hne,if_false,zH,qT,jq] at hr;simp only [execOp,e1,e3,qT,run_sliceAt_slice _ _ _ _ _ _ hs1',Sem.run_bind,Sem.run_pure]
  erw [hr]
  simp [Addr.add]
end
set_option maxHeartbeats 1000000 in
theorem pS (x y:RI)(hx:x.mag.length≤1000000000000):Cn Tryz.prog 173 [(RIT x).va,(RIA y).va] (Bo (decide (x=y))):=by
 refine Cn.intro Tryz.func173 G zk nq (zy [(0,(RIT x).va),(1,(RIA y).va)] λ B w0 a U=>?_);refine qb<|zg [] Uy Uz U9 U (zW 0 G (zW 1 G (zE G aJ))) (zz U0 UA λ a w U=>?_);refine zt<|iV (anc:=[[],[],[0,1],[0,1,2],[0,1,2,3],[0,1,2,3,4],[0,1,2,3,4,5],[0,1,2,3],[0,1,2,3,7],[0,1,2,3,7,8],[0,1,2,3,4,5,6,7,8,9],[0,1,2,3,4,5,6,7,8,9,10],[0,1,2,3,4,5,6,7,8,9,10,11],[0,1,2,3,4,5,6,7,8,9,10,11,12],[0,1,2,3,4,5,6,7,8,9,10,11,12,13],[0,1,2,3,4,5,6,7,8,9,10,11,12],[0,1,2,3,4,5,6,7,8,9,10,11,12,15],[0,1,2,3,4,5,6,7,8,9,10,11,12,15,16],[0,1,2,3,4,5,6,7,8,9,10,11,12,15,16,17],[0,1,2,3,4,5,6,7,8,9,10,11,12,13,14,15,16,17,18],[0,1,2,3,4,5,6,7,8,9,10,11,12],[0,1,2,3,4,5,6,7,8,9,10,11,12,20],[0,1,2,3,4,5,6,7,8,9,10,11,12,20,21],[0,1,2,3,4,5,6,7,8,9,10,11,12,13,14,15,16,17,18,19,20,21,22],[0,1,2,3,4,5,6,7,8,9,10,11,12,13,14,15,16,17,18,19,20,21,22,23],[0,1,2,3,4,5,6,7,8,9,10,11,12,13,14,15,16,17,18,19,20,21,22,23,24],[0,1,2,3,4,5,6,7,8,9,10,11,12,13,14,15,16,17,18,19,20,21,22,23,24,25],[0,1,2,3,4,5,6,7,8,9,10,11,12,13,14,15,16,17,18,19,20,21,22,23,24,25,26]]) (sts:=[none,none]) (news:=[]) (sp:=((.v 5 _:Sp)::(.v 6 _)::(.v 7 _)::(.v 8 _)::(.adr 9 2 (.some 1) (_=true))::(.t 10 _)::(.t 11 _)::(.adr 12 2 (.some 1) (_=true))::(.t 13 _)::(.t 14 _)::(.t 15 _)::(.v 16 _)::(.v 17 _)::(.adr 18 2 (.some 1) (_=true))::(.t 19 _)::(.adr 20 2 (.some 1) (_=true))::(.t 21 _)::(.t 22 _)::(.t 23 _)::(.t 24 _)::(.adr 25 2 (.some 1) (_=true))::(.t 26 _)::(.t 27 _)::(.t 28 _)::(.t 29 _)::(.t 30 _)::(.v 31 _)::(.v 4 _)::[])) [.o 27] ac U (zl 0 G ao (zl 1 G ao (zQ G ((m5 x y).wk (.cons wkA_rit.va (.cons aM .nil))) (.p (vq 0 G) (vq 1 G)) (zV 2 G (zC 3 0 G aq (zB 3 G (λ hg=>aC 4 G zk hg (lz0 0 G) (Sub.part 1 G G) aW) (zB 3 G (λ hg=>LV qc (ae (vq 5 G) hg)) (zC 3 0 G aq (zB 3 G (λ hg=>aC 7 G zk hg (lz0 0 G) (Sub.part 1 G G) aW) (zB 3 G (λ hg=>aH qc (has_wk' (ae (vq 8 G) hg) D7)) (zB 3 G (λ hg=>cD (ae (vq 6 G) hg) (ae (vq 9 G) hg)) (zv G (bE (vq 3 G) (vq 10 G)) (zV 11 G (zC 12 0 G aq (zB 12 G (λ hg=>aC 13 G zk hg (lz0 0 G) (Sub.part 1 G G) aW) (zC 12 0 G aq (zB 12 G (λ hg=>aC 15 G zk hg (lz0 0 G) (Sub.part 1 G G) aW) (zB 12 G (λ hg=>aH qc (has_wk' (ae (vq 16 G) hg) D7)) (zB 12 G (λ hg=>aL (ae (vq 17 G) hg) ab (aU zo)) (zB 12 G (λ hg=>Ik aZ (ae (vq 14 G) hg) (ae (vq 18 G) hg)) (zC 12 0 G aq (zB 12 G (λ hg=>aC 20 G zk hg (lz0 0 G) (Sub.part 1 G G) aW) (zB 12 G (λ hg=>aH qc (has_wk' (ae (vq 21 G) hg) D7)) (zB 12 G (λ hg=>nV aZ (ae (vq 19 G) hg) (ae (vq 22 G) hg) (by simp)) (zB 12 G (λ hg=>ap (ae (vq 23 G) hg) aN) (zB 12 G (λ hg=>bF (ae (vq 24 G) hg) (aE 7777 G)) (zv G (bE (vq 12 G) (vq 25 G)) (zA 26 G o0)))))))))))))))))))))))))))) zk zk zk zk (zz U0 UA λ a w U=>?_);refine aa<|qi<|am ?_ (ak G U (zm 0 G));refine bf (qt Bo ?_);simp;omega
def bdF (x:RF):Prop:=x.num.mag.length≤1000000000000∧x.den.mag.length≤1000000000000
theorem fJ (x:RF)(hx:bdF x):Cn Tryz.prog 21 [(RFA x).va] ((RFT x).va):=by
 refine Cn.intro Tryz.func21 G zk nq (zy [(0,(RFA x).va)] λ B w0 a U=>?_);refine qb<|zg [] Rf UQ [] U (zW 0 G (zY G (Str.zero aQ) o0)) (zz [] Rh λ a w U=>?_);refine zt<|zgd Rq [none,some (7,_)] [] (.adr 3 1 (.some 0) True::(W6 4 (.adr 6 1 (.some 2) True::(Wb 7 [.sto 1])))) [] ac U (zO 0 G aV (zL 0 0 0 G ao (zQ G (pl _ hx.1) (.o (vq 1 G)) (zO 0 G aR (zL 3 0 1 G ao (zQ G (pl _ hx.2) (.o (vq 4 G)) (zv G (aS (qs:=[(0,_),(1,_)]) aQ (.cons ⟨rfl,vq 2 rfl,rfl⟩ (.cons ⟨rfl,vq 5 rfl,rfl⟩ .nil))) (zS 6 G au o0)))))))) zk zk zk zk (zz [] Rh λ a w U=>?_);refine aa<|qi<|am ?_ (ax G U (zm 1 G) au);exact aM
theorem fU (x y:RF)(hx:bdF x):Cn Tryz.prog 96 [(RFT x).va,(RFA y).va] (Bo (decide (x=y))):=by
 refine Cn.intro Tryz.func96 G zk nq (zy [(0,(RFT x).va),(1,(RFA y).va)] λ B w0 a U=>?_);refine qb<|zg [] Rj Uz U9 U (zW 0 G (zW 1 G (zE G aJ))) (zz U0 Rk ?_);refine ztA<|zgA UC [] (.adr 5 2 (.some 0) True::.v 6 _::.adr 7 3 (.some 0) True::(Wb 8 [.adr 11 2 (.some 2) (_=true),.t 12 _,.adr 13 3 (.some 2) (_=true),.t 14 _,.t 15 _,.v 16 _,.v 4 _])) [.o 12] (zO 0 G aV (zL 0 0 0 G ao (zO 1 G aV (zL 2 1 0 G ao (zQ G (pS _ _ hx.1) (.p (vq 1 G) (vq 3 G)) (zV 4 G (zC 5 0 G aR (zB 5 G (λ hg=>aC 6 G zk hg (lz0 0 G) (Sub.part 1 G G) ao) (zC 5 1 G aR (zB 5 G (λ hg=>aC 8 G zk hg (lz0 1 G) (Sub.part 1 G G) ao) (zB 5 G (λ hg=>ba (pS _ _ hx.2) (.p (ae (vq 7 G) hg) (ae (vq 9 G) hg))) (zv G (bE (vq 5 G) (vq 10 G)) (zA 11 G o0))))))))))))) (zz U0 Rk λ a w U=>?_);refine aa<|qi<|am ?_ (ak G U (zm 0 G));exact bf (qt Bo LB)
abbrev KL:=List (Value × List Nat)
def SepL:List Slot→KL→Prop
 | _,[]=>True
 | L,p::l=>(∀ t∈L,∀ g,t.has g→p.1.ownBlock≠some g)∧SepL (L++[newS p.1 p.2 (L.length+1)]) l
def kbl (l:KL):List Nat:=l.filterMap λ p=>p.1.ownBlock
def JkA:As where
 n:=17
 ag:=true
 p _ cs _:=cs.length=17∧∀ c∈cs,c.oneCell'=true
 deps:=[]
 len:=λ _ _ _ h=>h.1
 one:=λ _ _ _ h=>h.2
 ag1:=λ h=>by cases h
 cg:=λ _ _ _ _ _ h=>h
 wr:=λ _ _ _ _ _ _ _ _ _ _ _ _ h=>h
def IntP (x:RI)(m:Value):As:=cat [BoA x.neg,PinA m (MgN x.mag)]
def y9 (x:RF)(m1 m2:Value):As:=cat [IntP x.num m1,IntP x.den m2]
abbrev kf (x:RF)(m1 m2:Value):KL:=[(m1,x.num.mag),(m2,x.den.mag)]
abbrev km (x:RM)(m:Nat→Value):KL:=kf x.a (m 0) (m 1)++kf x.b (m 2) (m 3)++kf x.c (m 4) (m 5)++kf x.d (m 6) (m 7)
def NilM:As where
 n:=1
 ag:=false
 p _ cs _:=cs=[.slice none 0 0]
 deps:=[]
 len:=by rintro B cs w rfl;rfl
 one:=by rintro B cs w rfl x hx;simp at hx;subst hx;rfl
 ag1:=λ _=>rfl
 cg:=λ _ _ _ _ _ h=>h
 wr:=λ _ _ _ _ _ _ _ _ _ _ _ _ h=>h
def NilI:As:=cat [BoA false,NilM]
def RFN (x:RF):As:=cat [RIN x.num,RIN x.den]
def RFD (x:RF):As:=DisA (RFN x)
theorem EP {x:RF}:FreeA (RFD x) (RFD x):=ir (bI (.cons (dk _) (.cons (dk _) .nil)))
theorem qd_rfd {k:Nat}{q:Rat}:WkA (QD k q) (RFD (rfOf q)):=lM (bi (.cons Hg (.cons Hg .nil)))
theorem mo (h:(cat [NilI,NilI]).p B cs w):cs=[.bool false,.slice none 0 0,.bool false,.slice none 0 0]:=by
 obtain ⟨ps,rfl,hp⟩:=h;have hI:∀ c,NilI.p B c w→c=[.bool false,.slice none 0 0]:=λ c ⟨qs,e,hq⟩=>by
  cases hq with
  | @cons _ c1 _ _ h1 hq=>cases hq with
   | @cons _ c2 _ _ h2 hq =>
    cases hq;have h1':c1=[.bool false]:=h1;have h2':c2=[.slice none 0 0]:=h2;rw [e,h1',h2']
    rfl
 cases hp with
 | cons h1 hp=>cases hp with
  | cons h2 hp =>
   cases hp;rw [hI _ h1,hI _ h2]
   rfl
theorem zf_rfd:WkA (cat [NilI,NilI]) (RFD rf0):=⟨rfl,rfl,λ B cs w h=>by
 have hi:(RIN ⟨false,[]⟩).p B [.bool false,.slice none 0 0] w:=⟨[[.bool false],[.slice none 0 0]],rfl,.cons rfl (.cons ⟨cW,.inl ⟨rfl,rfl⟩⟩ .nil)⟩;rw [mo h];exact ⟨⟨[[.bool false,.slice none 0 0],[.bool false,.slice none 0 0]],rfl,.cons hi (.cons hi .nil)⟩,jr⟩⟩
section
open Rg
variable {P:Program}{Q:Exit→Act→World→Prop}{B N:Nat}{w0:Bs}{Γ:List (Nat × VA)}{ops:Array Oper}{les:List LeF}{sp:List ((Nat→Value)→Sp)}{anc:Nat→List Nat}{i:Nat}
end
theorem KC {m:Yo}{xs:Ya}(h:(MgN xs).p B [m] w):blk m=m.ownBlock:=by
 rcases h.2 with ⟨_,e⟩|⟨g,ext,e,_⟩
 ·injection e with e;subst e
  rfl
 ·injection e with e;subst e
  rfl
theorem pU {x:RI}(h:(RIN x).p B cs w):∃ m,(IntP x m).p B cs w∧cbl cs=kbl [(m,x.mag)]:=by
 obtain ⟨ps,rfl,hp⟩:=h;cases hp with
 | @cons _ c1 _ _ h1 hp=>cases hp with
  | @cons _ c2 _ _ h2 hp =>
   cases hp;have h1':c1=[.bool x.neg]:=h1;subst h1';have l2:=(MgN x.mag).len _ _ _ h2
   match c2,l2 with
   | [m],_ =>
    refine ⟨m,⟨[[.bool x.neg],[m]],rfl,.cons G (.cons ⟨h2,rfl⟩ .nil)⟩,?_⟩;have e:=KC h2;show List.filterMap blk [.bool x.neg,m]=List.filterMap (λ p=>p.1.ownBlock) [(m,x.mag)];have:List.filterMap blk [.bool x.neg,m]=List.filterMap blk [m]:=rfl;rw [this];simp [jD,e]
section
open Rg
variable {P:Program}{Q:Exit→Act→World→Prop}{B N:Nat}{w0:Bs}{Γ:List (Nat × VA)}{ops:Array Oper}{les:List LeF}{sp:List ((Nat→Value)→Sp)}{anc:Nat→List Nat}{i:Nat}
end
section
open Rg
variable {P:Program}{Q:Exit→Act→World→Prop}{B N:Nat}{w0:Bs}{Γ:List (Nat × VA)}{Λ:List Lc}{a:Act}{w:World}
def les0 (Λ:List Lc):List Le:=Λ.map λ l=>⟨l.s,l.T,l.H,none,l.A,none⟩
theorem pR:(les0 Λ).map (λ e=>(⟨e.s,e.T,e.H,Rg.last e⟩:Lc))=Λ:=by
 unfold les0;rw [xq];have:(λ e:Le=>(⟨e.s,e.T,e.H,Rg.last e⟩:Lc))∘(λ l:Lc=>(⟨l.s,l.T,l.H,none,l.A,none⟩:Le))=id:=by
  funext l
  rfl
 rw [this,List.map_id]
theorem JQ {ops:Yg}{sp:Yu}{d0:Nat}{A0:VA}(src:List Src)(h:St B w0 N ((d0,A0)::Γ) Λ a w)(h0:sp[0]?=some (.v d0 A0))(hsz:0<ops.size)
  (hob:Obs P Q ⟨ops,N,Γ,les0 Λ,sp,λ i=>List.range i⟩ B w0 1 (ops.size-1)) (hk:Rg.chk ⟨ops,N,Γ,les0 Λ,sp,λ i=>List.range i⟩=true) (hsrc:src.all (okS ⟨ops,N,Γ,les0 Λ,sp,λ i=>List.range i⟩)=true)
  (hQ:∀ a w,St B w0 N (src.filterMap (cA ⟨ops,N,Γ,les0 Λ,sp,λ i=>List.range i⟩)) Λ a w→Q .normal a w):wpOps P ops Q (List.range' 1 (ops.size-1)) a w:=by
 have hmem:∀ e∈les0 Λ,e.cr=none∧e.st=none∧(⟨e.s,e.T,e.H,e.A0⟩:Lc)∈Λ:=λ e he=>by
  obtain ⟨l,hl,rfl⟩:=qp.1 he;exact ⟨rfl,rfl,hl⟩
 have hcur:∀ e∈les0 Λ,∀ L:Nat→Bool,Rg.cur L e=some e.A0:=λ e he L=>by
  obtain ⟨h1,h2,_⟩:=hmem e he;unfold Rg.cur;rw [h1,h2]
  rfl
 have hi0:Rg.Inv ⟨ops,N,Γ,les0 Λ,sp,λ i=>List.range i⟩ B w0 (λ j=>decide (j<1)) a w:=by
  refine ⟨h.lo,h.defers,h.size,h.base,λ x hx _ _=>h.vals x (zi _ hx),λ i y d A hs hv hL _=>?_,λ i d b k c hs hL _=>?_,λ e he A hA=>?_,λ e he f hf hne _ _=>?_⟩
  ·have hL':i<1:=qu hL;have:i=0:=by omega
   subst this;have hs':sp[0]?=some y:=hs;rw [h0] at hs';injection hs' with hs';subst hs';simp only [Sp.vl,Option.some.injEq,Prod.mk.injEq] at hv;obtain ⟨rfl,rfl⟩:=hv;exact h.vals (d0,A0) (xx ..)
  ·have hL':i<1:=qu hL;have:i=0:=by omega
   subst this;have hs':sp[0]?=some (.adr d b k c):=hs;rw [h0] at hs';cases hs'
  ·rw [hcur e he] at hA;injection hA with hA;subst hA;exact h.locs _ (hmem e he).2.2
  ·exact h.dis _ (hmem e he).2.2 _ (hmem f hf).2.2 hne
 have key:∀ m k,1≤k→k+m=ops.size→∀ a w,Rg.Inv ⟨ops,N,Γ,les0 Λ,sp,λ i=>List.range i⟩ B w0 (λ j=>decide (j<k)) a w→wpOps P ops Q (List.range' k m) a w:=by
  intro m
  induction m with
  | zero =>
   intro k hk1 hkm a w hi;have:k=ops.size:=by omega
   subst this;have:=fD hk ⟨hi⟩ src hsrc;rw [show (Rg.mk ops N Γ (les0 Λ) sp (λ i=>List.range i)).les=les0 Λ from rfl,pR] at this;exact hQ a w this
  | succ m ih =>
   intro k hk1 hkm a w hi;rw [List.range'_succ,qv];refine Rg.step hk (hob.all k zo zo) hi ?_ (by simp) ?_ _ λ a' w' hi'=>ih (k+1) zo zo a' w' (hi'.congr λ j=>?_)
   ·intro i hi j hj;have hj:(List.range i).contains j=true:=hj;simp at hi hj ⊢;omega
   ·intro j hj;have hj:(List.range k).contains j=true:=hj;simpa using hj
   ·unfold upd;by_cases h1:j=k
    ·subst h1;simp
    ·have h2:(j==k)=false:=by simpa using h1
     rw [h2,xQ,q9];omega
 exact key (ops.size-1) 1 (qh _) zo a w hi0
end
theorem Cn.introD {f : Yn}{fn : Func}{c : Code}{pre : Yc}{post : VA} (hf : P.funcs[f]? = some fn) (hb : fn.body=some c) (hn : (fn.name == "runtime.NumGoroutine")=false) (hsz : pre.length ≤ fn.ntmps)
  (h:∀ (B:Nat) (w0:Bs) (a:Act),(∀ g,¬ w0.F g)→w0.nd=true→NoF w0→St B w0 fn.ntmps (argΓ pre) [] a w0.w→c.wp P (bZ P fn (RQ B w0 post)) a w0.w):Cn P f pre post:=by
 refine ⟨⟨fn,hf,hn,by rw [hb];rfl⟩,λ B w args hB ha=>(c8 hf hb (h B ⟨w,λ _=>False,true⟩ _ (λ _ h=>h) G (λ _ h=>h.elim) ?_)).mono λ _ _ ⟨v,he,hv,hk⟩=>⟨v,he,hv,⟨hk.os,hk.tape,hk.output,hk.size,λ k hlt=>hk.block k hlt λ h=>h⟩⟩⟩;have hl:=ha.length;refine ⟨λ g hg=>qf hB (hg.resolve_right λ h=>h),DefOk.nil rfl,?_,Kept.refl _,All2.args ha,(λ l hl=>by cases hl),(λ l hl=>by cases hl)⟩;simp only [xj,z7,qO];omega
def now (w:World)(go:Nat):Bs:=⟨w,λ g=>g=go,true⟩
theorem Kept.trans1 {go:Nat}(h:Kept w0 w)(hgo:w0.may go)(h2:Kept (now w go) w'):Kept w0 w' :=
 ⟨h2.os.trans h.os,h2.tape.trans h.tape,h2.output.trans h.output,qf h.size h2.size,λ k hk hf=>(h2.block k (qF hk h.size) λ e=>by
  have e':k=go:=e;subst e';rcases hgo with h1|h1
  ·omega
  ·exact hf h1).trans (h.block k hk hf)⟩
theorem St.rebase {B N:Nat}(h:St B w0 N Γ Λ a w)(hnd:w0.nd=true){go:Nat}(hgo:w0.may go)(hΛ:∀ l∈Λ,blk (a.eval (.tmp l.s))=some go):St B (now w go) N Γ Λ a w :=
 ⟨λ g hg=>by
  rcases hg with h1|h1
  ·exact qf (h.lo w0.w.heap.size (.inl (qh _))) (qf h.base.size h1)
  ·have e:g=go:=h1;rw [e];exact h.lo _ hgo,DefOk.nil (h.defers.none hnd),h.size,Kept.refl _,h.vals,λ l hl=>by
  obtain ⟨g,cs,e1,e2,e3,e4⟩:=h.locs l hl;have:=hΛ l hl;rw [e1,l.H.ok] at this;injection this with this;exact ⟨g,cs,e1,.inr this,e3,e4⟩,h.dis⟩
theorem St.back {B N:Nat}{go:Nat}(h:St B (now w go) N Γ Λ a w')(hlo:∀ g,w0.may g→B≤g)(hk:Kept w0 w)(hgo:w0.may go):St B w0 N Γ Λ a w' :=
 ⟨hlo,DefOk.nil (h.defers.none rfl),h.size,hk.trans1 hgo h.base,h.vals,λ l hl=>by
  obtain ⟨g,cs,e1,e2,e3,e4⟩:=h.locs l hl;refine ⟨g,cs,e1,?_,e3,e4⟩;rcases e2 with e2|e2
  ·exact .inl (qf hk.size e2)
  ·have e:g=go:=e2;rw [e];exact hgo,h.dis⟩
theorem i7 {R:Rg}{B i:Nat}{x:Yj}{A:VA}(hA:∀ w,Kept w0 w→A.p B v w)(h:Has R B w0 i x (EqV v)):Has R B w0 i x A:=λ a w av=>by
 rw [h a w av];exact hA _ av.base
theorem Eo {A:Option Addr}{c:Nat}{l:Ya}(h:Mag B w A c l)(hs:w.heap.size≤w'.heap.size)(hk:∀ b,A.map (·.block)=some b→b<w.heap.size→w'.heap[b]?=w.heap[b]?):Mag B w' A c l :=
 ⟨h.ok,h.le,h.max,λ hl=>by
  obtain ⟨b,o,rfl,h1,h2,h3⟩:=h.at_ hl;have e:=hk b rfl h1;refine ⟨b,o,rfl,qF h1 hs,?_,λ j hj=>?_⟩
  ·rcases h2 with h2|⟨c',fz,h2⟩
   ·exact .inl h2
   ·exact .inr ⟨c',fz,e.trans h2⟩
  ·rw [← h3 j hj];unfold World.cell?;rw [e]⟩
theorem Be {l:Ya}{go:Nat}(h:(MgA l).va.p B v w)(hne:blk v≠some go)(hk:Kept (now w go) w'):(MgA l).va.p B v w':=by
 obtain ⟨A,c,rfl,hm⟩:=gB h;refine eu (Eo hm hk.size λ b hb hlt=>hk.block b hlt λ e=>?_) rfl;have e':b=go:=e;subst e';cases A with
 | none=>cases hb
 | some ad=>exact hne hb
structure Rst (B:Nat) (w0:Bs) (a:Act) (w:World) (s8:Nat) (v:Value) (l:List Nat) (go:Nat):Prop where
 mg:(MgA l).va.p B v w
 ne:blk v≠some go
 at8:blk (a.eval (.tmp s8))=some go
 may:w0.may go
 lt:go<w.heap.size
theorem St.eqF {B N:Nat}(h:St B w0 N Γ Λ a w){s:Nat}{A:VA}(k:Nat)(hm:Γ[k]?=some (s,EqV v))(hA:A.p B v w):St B w0 N (Γ.set k (s,A)) Λ a w :=
 ⟨h.lo,h.defers,h.size,h.base,λ x hx=>by
  rcases qq hx with hx|rfl
  ·exact h.vals x hx
  ·have e:a.eval (.tmp s)=v:=h.vals _ (qa hm);show A.p B (a.eval (.tmp s)) w;rw [e];exact hA,h.locs,h.dis⟩
theorem St.toE {B N:Nat}(h:St B w0 N Γ Λ a w){s:Nat}{A:VA}(k:Nat)(hm:Γ[k]?=some (s,A)):∃ v,A.p B v w∧St B w0 N (Γ.set k (s,EqV v)) Λ a w :=
 ⟨a.eval (.tmp s),h.vals _ (qa hm),h.lo,h.defers,h.size,h.base,λ x hx=>by
  rcases qq hx with hx|rfl
  ·exact h.vals x hx
  ·exact rfl,h.locs,h.dis⟩
open Rg in
theorem St.putV {B N:Nat}{w w2:Yi}(h:St B w0 N Γ Λ a w){c:Nat}{M:VA}(hc:c<N)(hg:Grow w w2)(hp:M.p B v w2)(hΓ:∀ y∈Γ,y.1≠c)(hΛ:∀ l∈Λ,l.s≠c):St B w0 N ((c,M)::Γ) Λ (a.put (some c) v) w2:=by
 have hs:c<a.tmps.size:=by rw [h.size];exact hc
 refine ⟨h.lo,h.defers.grow hg rfl,by rw [size_put];exact h.size,h.base.grow hg,λ y hy=>?_,λ l hl=>?_,λ l hl m hm hne=>?_⟩
 ·rcases qr.1 hy with rfl|hy
  ·show M.p B ((a.put (some c) v).eval (.tmp c)) w2;rw [aK _ _ _ hs];exact hp
  ·rw [an _ _ _ _ (hΓ y hy)];exact VA.grow y.2 _ _ _ _ hg (h.vals y hy)
 ·obtain ⟨g,cs,e1,e2,e3,e4⟩:=LcOk.grow (h.locs l hl) hg;exact ⟨g,cs,by rw [an _ _ _ _ (hΛ l hl)];exact e1,e2,e3,e4⟩
 ·rw [an _ _ _ _ (hΛ l hl),an _ _ _ _ (hΛ m hm)];exact h.dis l hl m hm hne
theorem yU {w : Yi}{a : Act}{f : Yn}{fn : Func}{d : Nat}{T : Yh}{ps : Yv}{af : Yw}{gd : Option (Nat × Bool)}{at_ : Yr}{xs : Ys} (hf : P.funcs[f]? = some fn) (hn : (fn.name == "runtime.NumGoroutine")=false) (hb : fn.body.isNone=false) :
  (execOp a.eval ⟨some d,.call ⟨.value (.func f),xs.toArray,at_⟩,T,ps,af,gd⟩).run P w=.ok (.enter f (xs.map a.eval).toArray) w:=by
 simp only [execOp,resolve,Act.eval,Deferred.ofValue,Sem.run_bind,Sem.run_pure,Result.andThen_ok,invoke,bb hf hn hb];simp
open Rg in
open Rg in
theorem JS {Q:Yd}{B N:Nat}{id:Nat}{ops:Yg}{sp:Yu}(n:Nat)(src:Ya)(i1 i2 k3:Nat){S E T1 T2 T3:Yh}{f:Yn}{M1 M2:VA}{at_:Yr}{s u d c e m bytes b s3:Nat}{ps1 ps2 ps3:Yv}{af1 af2 af3:Yw}{D D':Yq}{l xs:Yb}{A2:VA}{it:TypeInfo}{z:Yo}
  (h:St B w0 N Γ Λ a w) (hob:Obs P Q ⟨ops,N,Γ,lesN Λ,sp,λ i=>List.range i⟩ B w0 0 n) (hn2:ops.size=n+3) (hk:Rg.chk ⟨ops,N,Γ,lesN Λ,sp,λ i=>List.range i⟩=true)
  (ho1:ops[n]?=some ⟨some d,.call ⟨.builtin .append,#[.tmp s,.tmp u],#[S,S]⟩,T1,ps1,af1,none⟩) (ho2:ops[n+1]?=some ⟨some c,.call ⟨.value (.func f),#[.tmp d],at_⟩,T2,ps2,af2,none⟩) (ho9:ops[n+2]?=some ⟨some e,.assign (.tmp c),T3,ps3,af3,none⟩) (hcn:Cn P f [M1] M2) (hM:Wk (OwnB b E m D (l++xs)) M1)
  (hi1:i1<n) (h1:sp[i1]?=some (.v s (OwnB b E m D l))) (hi2:i2<n) (h2:sp[i2]?=some (.v u A2)) (h3:Γ[k3]?=some (s3,KQ b)) (ho3:Rg.outG ⟨ops,N,Γ,lesN Λ,sp,λ i=>List.range i⟩ s3=true) (hwb:w0.w.heap.size≤b) (hA2:∀ w u,A2.p B u w→Kept w0 w→(SlA E D' xs).va.p B u w)
  (hS:P.underlying S=some (.slice E)) (hi:P.info? E=some it) (hz:it.zero=some z) (hsz:it.size=m) (hby:it.bytes=bytes) (hzs:z.cells.size=m) (hm0:0<m) (hl:l.length+xs.length≤100000000000) (hb6:bytes≤1000)
  (hD':∀ T∈D',T∈D) (hED:E ∉ D) (hxm:∀ x∈xs,x.n=m) (hde:((d != c)&&(d != e)&&(c != e))=true) (hd:d<N) (hcN:c<N) (he:e<N)
  (hsrc:src.all (λ k=>match Γ[k]? with|some y => !y.2.deps.contains E&&Rg.outG ⟨ops,N,Γ,lesN Λ,sp,λ i=>List.range i⟩ y.1|none=>false)=true)
  (hΛ:Λ.all (λ l=>(l.T != E || l.s==s3) && !l.A.deps.contains E&&l.s != d&&l.s != c&&l.s != e)=true)
  (hQ:∀ a w,St B w0 N ((e,M2)::src.filterMap (λ k=>Γ[k]?)) Λ a w→Q .normal a w):(Code.region id ops false).wp P Q a w:=by
 have hles0:∀ y∈lesN Λ,y.cr=none∧y.st=none∧(⟨y.s,y.T,y.H,y.A0⟩:Lc)∈Λ:=λ y hy=>by
  obtain ⟨l',hl',rfl⟩:=qp.1 hy;exact ⟨rfl,rfl,hl'⟩
 refine Rg.linK (R:=⟨ops,N,Γ,lesN Λ,sp,λ i=>List.range i⟩) (m:=3) hn2 G hk h (λ y hy _=>(hles0 y hy).2.2) (λ i hi=>hob.all i zo zo) λ a1 w1 hinv=>?_;have hcl:∀ deps,Rg.clash ⟨ops,N,Γ,lesN Λ,sp,λ i=>List.range i⟩ (λ k=>decide (k<n)) deps=false:=λ deps=>by
  unfold Rg.clash;rw [xF];intro y hy;rw [(hles0 y hy).2.1];simp
 obtain ⟨hbw,hB,hv⟩:=hinv.v i1 _ s _ h1 rfl (qE hi1) (hcl _);have hout:∀ t,Rg.outG ⟨ops,N,Γ,lesN Λ,sp,λ i=>List.range i⟩ t=true→∀ q,q<ops.size→Rg.dst ⟨ops,N,Γ,lesN Λ,sp,λ i=>List.range i⟩ q≠some t:=λ t ht q hq=>by
  have:=qe.1 ht q (by simpa using hq);simpa using this
 obtain ⟨g3,hg3,hlt3⟩:=hinv.g _ (qa h3) (λ q hq hdq=>absurd hdq (hout _ ho3 q hq)) (hcl _);have hu:=hA2 _ _ (hinv.v i2 _ u _ h2 rfl (qE hi2) (hcl _)) hinv.base;obtain ⟨v',w',hr,r1,r2,r3⟩:=gR (T1:=T1) hS hi hz hsz hby hzs hm0 hl hb6 hv hu hD' hED hxm hbw hB;have hdsz:d<a1.tmps.size:=by rw [hinv.size];exact hd
 simp only [qo,bne_iff_ne] at hde;obtain ⟨⟨hdc,hde⟩,hce⟩:=hde;have hlc:∀ l'∈Λ,(l'.T≠E∨l'.s=s3)∧E ∉ l'.A.deps∧l'.s≠d∧l'.s≠c∧l'.s≠e:=λ l' hl'=>by
  have:=qe.1 hΛ l' hl';simp only [qo,zU,xr,bne_iff_ne,qz,qB,qm] at this;exact ⟨this.1.1.1.1,this.1.1.1.2,this.1.1.2,this.1.2,this.2⟩
 have hcur:∀ l'∈Λ,(⟨l'.s,l'.T,l'.H,none,l'.A,none⟩:Le)∈lesN Λ:=λ l' hl'=>qp.2 ⟨l',hl',rfl⟩;have hsr:∀ y∈src.filterMap (λ k=>Γ[k]?),E ∉ y.2.deps∧y.1≠d∧y.1≠c∧y.1≠e∧y.2.p B (a1.eval (.tmp y.1)) w1:=λ y hy=>by
  obtain ⟨k,hk1,hk2⟩:=qH.1 hy;have hs:=qe.1 hsrc k hk1;simp only [hk2,qo,qz,qB,qm] at hs;have ho:=hout y.1 hs.2;exact ⟨hs.1,λ e1=>ho n zo (by unfold Rg.dst;rw [ho1,e1];rfl),λ e1=>ho (n+1) zo (by unfold Rg.dst;rw [ho2,e1];rfl),λ e1=>ho (n+2) zo (by unfold Rg.dst;rw [ho9,e1];rfl),hinv.g y (qa hk2) (λ q hq hdq=>absurd hdq (ho q hq)) (hcl _)⟩
 have U:St B w0 N ((d,OwnB b E m D (l++xs))::src.filterMap (λ k=>Γ[k]?)) Λ (a1.put (some d) v') w':=by
  refine ⟨hinv.lo,hinv.defers.grown r2 r3 rfl,by rw [size_put];exact hinv.size,?_,?_,?_,?_⟩
  ·exact ⟨r2.os.trans hinv.base.os,r2.tape.trans hinv.base.tape,r2.output.trans hinv.base.output,qf hinv.base.size r2.size,λ k hk hf =>
    (r2.block k (qF hk hinv.base.size) (λ e=>by have:=(r3 k e.symm).1;omega)).trans (hinv.base.block k hk hf)⟩
  ·intro y hy;rcases qr.1 hy with rfl|hy
   ·show (OwnB b E m D (l++xs)).p B ((a1.put (some d) v').eval (.tmp d)) w';rw [aK _ _ _ hdsz];exact ⟨qf hbw r2.size,hB,r1⟩
   ·obtain ⟨q1,q2,_,_,q5⟩:=hsr y hy;rw [an _ _ _ _ q2];exact VA.grown q5 r2 r3 hB q1
  ·intro l' hl';obtain ⟨g1,g2,g3,_⟩:=hlc l' hl';obtain ⟨g,cs,e1,e2,e3,e4⟩:=hinv.c _ (hcur l' hl') l'.A rfl;refine ⟨g,cs,by rw [an _ _ _ _ g3];exact e1,e2,?_,As.grown e4 r2 r3 hB g2⟩;rw [r2.block g (Array.getElem?_eq_some_iff.1 e3).1 (λ e5=>by
    obtain ⟨h8,c,fz,e6⟩:=r3 g e5.symm;rcases g1 with g1|g1
    ·rw [e3] at e6;injection e6 with e6;injection e6 with _ e6 _;exact g1 e6
    ·rw [← g1,e1,l'.H.ok] at hg3;injection hg3 with hg3;omega)]
   exact e3
  ·intro l1 hl1 l2 hl2 hne';obtain ⟨_,_,g3,_⟩:=hlc l1 hl1;obtain ⟨_,_,g5,_⟩:=hlc l2 hl2;rw [an _ _ _ _ g3,an _ _ _ _ g5];exact hinv.x _ (hcur l1 hl1) _ (hcur l2 hl2) hne' G rfl
 rw [List.range'_succ,qv];refine bA (R:=⟨ops,N,Γ,lesN Λ,sp,λ i=>List.range i⟩) ho1 G (aY (w':=w') (v:=v') (by simp [execOp,resolve,invoke,builtin,hr,Result.andThen]) ?_);rw [List.range'_succ,qv];refine bA (R:=⟨ops,N,Γ,lesN Λ,sp,λ i=>List.range i⟩) ho2 G ?_;obtain ⟨⟨fn,hf,hn,hb⟩,hcall⟩:=hcn;have hrun:=yU (P:=P) (w:=w') (a:=a1.put (some d) v') (d:=c) (T:=T2) (ps:=ps2) (af:=af2) (gd:=none) (at_:=at_) (xs:=[.tmp d]) hf hn hb
 unfold Oper.wp;rw [show (#[Operand.tmp d]:Array Operand)=[Operand.tmp d].toArray from rfl,hrun];have hm1:M1.p B ((a1.put (some d) v').eval (.tmp d)) w':=hM _ _ _ (U.vals _ (xx ..));have hBw:B≤w'.heap.size:=qf (qf hB hbw) r2.size;refine (hcall B w' [(a1.put (some d) v').eval (.tmp d)] hBw (.cons hm1 .nil)).mono λ ex w2 ⟨v2,he2,hp2,hg2⟩=>?_;subst he2;have hst2:=St.putV U (v:=v2) (M:=M2) hcN hg2 hp2 (λ y hy=>by
  rcases qr.1 hy with rfl|hy
  ·exact hdc
  ·exact (hsr y hy).2.2.1) (λ l' hl'=>(hlc l' hl').2.2.2.1)
 have hst3:=St.putV hst2 (c:=e) (v:=v2) (M:=M2) he (Grow.refl w2) hp2 (λ y hy=>by
  rcases qr.1 hy with rfl|hy
  ·exact hce
  ·rcases qr.1 hy with rfl|hy
   ·exact hde
   ·exact (hsr y hy).2.2.2.1) (λ l' hl'=>(hlc l' hl').2.2.2.2)
 show wpOps P ops Q ((n+1+1)::List.range' (n+1+1+1) 0) ((a1.put (some d) v').put (some c) v2) w2;rw [qv];have hcsz:c<(a1.put (some d) v').tmps.size:=by rw [size_put,hinv.size];exact hcN
 refine bA (R:=⟨ops,N,Γ,lesN Λ,sp,λ i=>List.range i⟩) ho9 G (aY (w':=w2) (v:=v2) ?_ (hQ _ _ ?_))
 ·have:=aK (a1.put (some d) v') c v2 hcsz;simp [execOp,this]
 ·exact ⟨hst3.lo,hst3.defers,hst3.size,hst3.base,λ y hy=>hst3.vals y (by
   rcases qr.1 hy with rfl|hy
   ·exact xx ..
   ·exact zi _ (zi _ (zi _ hy))),hst3.locs,hst3.dis⟩
section
variable {P:Program}{R:Rg}{Q:Exit→Act→World→Prop}{B i:Nat}{w0:Bs}
theorem Is {A:VA}{f:Yn}{xs:Ys}{As:Yc}{mk:Nat→VA}{at_:Yr}(hc:CnI P f As mk)(hw:∀ n,w0.w.heap.size≤n→Wk (mk n) A)(hx:HasL R B w0 i xs As):Wv P Q R B w0 i (.call ⟨.value (.func f),xs.toArray,at_⟩) A:=by
 intro d T ps af gd a w av K hK;obtain ⟨⟨fn,hf,hn,hb⟩,hcall⟩:=hc;have hrun:(execOp a.eval ⟨some d,.call ⟨.value (.func f),xs.toArray,at_⟩,T,ps,af,gd⟩).run P w=.ok (.enter f (xs.map a.eval).toArray) w:=by
  simp only [execOp,resolve,Act.eval,Deferred.ofValue,Sem.run_bind,Sem.run_pure,Result.andThen_ok,invoke,bb hf hn hb];simp
 unfold Oper.wp;rw [hrun];exact (hcall B w _ (Av.bw av) (hx.all av)).mono λ e w' ⟨v,he,hv,hg⟩=>by subst he;exact hK v w' hg (hw _ av.base.size _ _ _ hv)
end
theorem Em {b b':Nat}{l:Ya}(h:b≤b'):Wk (MgB b' l).va (MgB b l).va:=λ _ _ _ hp=>Bf (pL _ _ _ hp) λ g hg=>qf h (pK hp g hg)
theorem E9 {b:Nat}{l:Ya}(ok:okL l):Wk (OwnB b U32 1 [] (NL l)) (MgB b l).va:=λ B v w h=>AN ok B v w h.2.2
theorem pQ {D:Nat}(h:(ay D).length=1):(ay D)[0]'zo=D:=by
 have h1:=eG (l:=ay D) (j:=0) zo;rw [xl,aF,zq zo] at h1;simp at h1;exact h1.symm
theorem yz {x:Nat}(h:x<4294967296):bt [x]=ay x:=by
 rw [dn (eK h)];simp [val]
theorem yA {x R:Nat}(h:x<4294967296):bt (x::ay R)=ay (R*4294967296+x):=by
 rw [dn (λ y hy=>by
  rcases qr.1 hy with rfl|hy
  ·exact h
  ·exact (bh _).1 y hy)]
 show ay (x+4294967296*val (ay R))=_;rw [aF]
 congr 1
 omega
theorem cm_lt0 {X Y:Nat}:cmL (ay X) (ay Y)<0↔X<Y:=by
 rw [fE];split
 ·omega
 ·split <;> omega
theorem I9 {l:Ya}{d j:Nat}(hl:okL l)(hd:0<d)(hj:j<l.length)(h:val (l.drop (j+1))%d*4294967296+l[j]<d):rsSt l d (j+1)=rsSt l d j:=by
 rw [← rQ hl hd hj,xL h];unfold rsSt;rw [x6,qY,eH _ _ _ _ (by simp)]
 rfl
theorem St.rowV {B N:Nat}(h:St B w0 N Γ Λ a w){s T:Nat}{A:As}(e:Nat)(he:Λ[e]?=some ⟨s,T,H,A⟩):∃ v g,blk v=some g∧w0.may g∧g<w.heap.size∧St B w0 N ((s,EqV v)::Γ) Λ a w:=by
 obtain ⟨g,cs,e1,e2,e3,e4⟩:=h.locs _ (qa he);exact ⟨a.eval (.tmp s),g,by rw [e1];exact H.ok g,e2,(Array.getElem?_eq_some_iff.1 e3).1,h.lo,h.defers,h.size,h.base,λ x hx=>by
  rcases qr.1 hx with rfl|hx
  ·exact rfl
  ·exact h.vals x hx,h.locs,h.dis⟩
theorem St.ownT {B N:Nat}(h:St B w0 N Γ Λ a w){s s3 go:Nat}{v8:Yo}{E:Yh}{m:Nat}(k k8:Nat)(hm:Γ[k]?=some (s,EqV (.slice none 0 0)))(h8:Γ[k8]?=some (s3,EqV v8))(hv:blk v8=some go)(hlt:go<w0.w.heap.size):
  ∃ b,w0.w.heap.size≤b∧go<b∧St B w0 N (Γ.set k (s,OwnB b E m D [])++[(s3,KQ b)]) Λ a w:=by
 refine ⟨w.heap.size,h.base.size,qF hlt h.base.size,h.lo,h.defers,h.size,h.base,λ x hx=>?_,h.locs,h.dis⟩;rcases qn.1 hx with hx|hx
 ·rcases qq hx with hx|rfl
  ·exact h.vals x hx
  ·exact ⟨qh _,qf (h.lo _ (.inl (qh _))) h.base.size,mj _ _ _ (h.vals _ (qa hm))⟩
 ·obtain rfl:=ql.1 hx;have e:a.eval (.tmp s3)=v8:=h.vals _ (qa h8);exact ⟨go,by show blk (a.eval (.tmp s3))=_;rw [e];exact hv,qF hlt h.base.size⟩
structure Rs (B:Nat) (w0:Bs) (w:World) (v:Value) (l:List Nat) (go:Nat):Prop where
 mg:(MgA l).va.p B v w
 ne:blk v≠some go
 may:w0.may go
 lt:go<w.heap.size
theorem GT {x V D:Nat}(hD:0<D)(hx:x<4294967296):V%D*4294967296+x<D*4294967296:=by
 have h1:=qU V hD;have h2:(V%D+1)*4294967296≤D*4294967296:=qI _ h1;omega
theorem ML {D x:Nat}(h:x<D*4294967296):(ay x).length≤(ay D).length+1:=by
 have h1:=ci (n:=D) (qh _);refine ec (qF h ?_);rw [ze];exact qI _ (xa h1)
theorem sub_mod' {a b:Nat}:a-b*(a/b)=a%b:=by
 have:=xP a b;omega
set_option maxHeartbeats 1000000 in
theorem Ag {D:Nat}(l:Ya)(hD:0<D)(hls:l.length≤1000000000)(hds:(ay D).length≤1000000000):Cn Tryz.prog 256 [(MgA l).va,(MgA (ay D)).va] (Tu [(MgA (ay (val l/D))).va,(MgA (ay (val l%D))).va]):=by
 obtain ⟨it,z,e1,e2,e3,e4,e5⟩:=mJ;refine Cn.introD Tryz.func256 G zk nq (λ B w0 a hF0 hnd hF U=>?_);have U:=zn [(0,(MgA l).va),(1,(MgA (ay D)).va)] [] U;obtain ⟨v0,hv0,U⟩:=St.eqv U 0 rfl;obtain ⟨v1,hv1,U⟩:=St.eqv U 1 rfl;have hl:=(en hv0).1;have hokD:=(en hv1).1;refine qb<|zh (W6 4) (We [.o 0,.o 1]) U (zv G (bc b9) (zE G b9)) (zz WU [] ?_);refine ztA<|zsA<|zhA (Wb 13) Rv (zM 1 G (zv G (aH qc (bk hF hv1 (vq 0 G))) (zv G (bF (vq 1 G) ab) o0))) (zz (W8 0 1 4 5 15) [] λ a w U=>?_);refine zJ 4 U G (λ hb0=>?_) (λ hb0=>?_)
 ·have hlen:(ay D).length=1:=by simp at hb0;omega
  have hd0:=pQ hlen;refine qb<|zh (Wd 17 (.v 16 _::(W6 22 (W6 6)))) (Wp [.o 8,.o 9]) U (zM 0 G (zM 1 G (zv G (bL aZ (bk hF hv1 (vq 1 G)) (aE 0 G) zo) (zv G (ap (vq 2 G) aN) (zQ G (tp l ((ay D)[0]'zo) zo (by rw [hd0];exact hD) (hokD _ (qg _))) (.p (bk hF hv0 (vq 0 G)) (vq 3 G)) (zV 4 G (zv G (aP (vq 5 G) G) (zv G (aP (vq 5 G) G) (zA 6 G (zA 7 G o0)))))))))) (zz (Wj 0 1 4 5 6 7) [] ?_);refine ztA<|zhA (Ww 24 (W6 4)) (We [.o 4,.o 5]) (zM 4 G (zM 5 G (zv G (dq (l:=[_]) (xs:=[.tmp 25]) aZ zk nq nq ((eK (zw (qU _ (by rw [hd0];exact hD)) (hokD _ (qg _))))) (.o (vq 1 G)) G G) (zQ G (ep famA _) (.o (vq 2 G)) (zA 0 G (zA 3 G o0)))))) (zz WU [] λ a w U=>?_);refine aa<|qi<|aj ?_;refine am ?_ (aX (rs:=[.tmp 4,.tmp 5]) G U (.tmp (zm 2 G) (.tmp (zm 3 G) .nil)) zd);rw [hd0];exact tu2w pb (bf (qt (λ l=>(MgA l).va) (yz (zw (qU _ hD) (by rw [← hd0];exact hokD _ (qg _))))))
 ·refine qj<|zt<|di (sts:=[]) (news:=[⟨30,139,slH _ _,some 2,_,none⟩]) (sp:=[.v 28 _,.v 29 _,.alc 0,.adr 8 30 .none True]) [.g 0,.g 1,.g 2,.g 3] [(8,30)] [zpH 8 139 _] U (zM 0 G (zv G (aH qc (bk hF hv0 (vq 0 G))) (oc (et G G G fp (vq 1 G) (vq 1 G) zo) (oc (ob_a G G mO) o0)))) zk zk zk ⟨⟨3,rfl⟩,trivial⟩ G zk (zz WU [zpH 8 139 _] ?_);refine ztA<|zgA U1 [] [.v 9 _] Uq (zE G b9) (zz (W8 0 1 4 5 9) [zpH 8 139 _] ?_);refine ztA<|zsA<|zgA U1 [] (Wb 31 [.v 10 _]) (Wi [.o 3]) (zM 0 G (zv G (aH qc (bk hF hv0 (vq 0 G))) (zv G (ce (vq 1 G) ab (wi64 zo zo)) (zA 2 G o0)))) (zz (Wj 0 1 4 5 9 10) [zpH 8 139 _] λ a w U=>?_);obtain ⟨v8,go,hv8,hm8,hl8,U⟩:=St.rowV U 0 rfl;refine aa<|qk ?_;have U:=St.sel U [1,2,0,5,6];refine wp_loop_ghost (λ n a w=>∃ (v9 v8:Value) (go:Nat),(n≤l.length∧Rs B w0 w v9 (ay (val (l.drop n)%D)) go∧blk v8=some go)∧St B w0 68 [(0,EqV v0),(1,EqV v1),(8,EqV v8),(9,EqV v9),(10,In ((n:Int)-1))] [⟨8,139,slH l.length l.length,Nums .u32 (rsSt l D n)⟩] a w) (l.length) ?_ ?_
  ·exact ⟨_,v8,go,⟨qh _,⟨by rw [show ay (val (l.drop l.length)%D)=[] from by simp [bz]];exact ⟨_,ft B _,rfl⟩,(by intro e;cases e),hm8,hl8⟩,hv8⟩,by rw [ng];exact U⟩
  intro n a w hI;clear hv8 hm8 hl8;obtain ⟨v9,v8,go,⟨hn,hR,hv8⟩,U⟩:=hI;have hk0:∀ w',Kept (now w go) w'→(MgA l).va.p B v0 w':=λ w' hk=>(MgA l).va.cg _ _ _ _ (hF.cg (U.base.trans1 hR.may hk)) hv0;have hk1:∀ w',Kept (now w go) w'→(MgA (ay D)).va.p B v1 w':=λ w' hk=>(MgA (ay D)).va.cg _ _ _ _ (hF.cg (U.base.trans1 hR.may hk)) hv1;have hk9:∀ w',Kept (now w go) w'→(MgA (ay (val (l.drop n)%D))).va.p B v9 w':=λ w' hk=>Be hR.mg hR.ne hk;have hback:∀ {Γ:List (Nat × VA)}{Λ:List Lc}{a:Act}{w':World},St B (now w go) 68 Γ Λ a w'→St B w0 68 Γ Λ a w':=λ h=>h.back U.lo U.base hR.may;have hlt1:go<(now w go).w.heap.size:=hR.lt;have U:=U.rebase hnd hR.may (λ m hm=>by
   obtain rfl:=ql.1 hm;have e:a.eval (.tmp 8)=v8:=U.vals _ (zm 2 rfl);show blk (a.eval (.tmp 8))=_;rw [e];exact hv8)
  have hnd1:(now w go).nd=true:=rfl;have hmay1:(now w go).may go:=.inr rfl;generalize now w go=W1 at U hk0 hk1 hk9 hback hlt1 hnd1 hmay1;refine qb<|qb<|zg U3 [] (W6 34) (Wi [.o 1]) U (zM 4 G (zv G (dD (vq 0 G) ab) o0)) (λ a w U=>?_);have U:St B W1 68 [(0,_),(1,_),(8,_),(9,_),(10,_),(35,_)] [zpH 8 139 _] a w:=U;refine zJ 5 U G (λ hb1=>?_) (λ hb1=>?_)
  ·obtain ⟨j,rfl⟩:∃ j,n=j+1:=⟨n-1,by simp at hb1;omega⟩;rw [show ((j+1:Nat):Int)-1=(j:Int) from by omega] at U;have hj:j<l.length:=by omega
   have hx:=hl _ (qg hj);have hmd:=qU (val (l.drop (j+1))) hD;refine qj<|zt<|qk<|qb<|zg U3 [] [.v 11 _] U4 U (zE G b9) (λ a w U=>?_);have U:St B W1 68 [(0,_),(1,_),(8,_),(9,_),(10,_),(11,_)] [zpH 8 139 _] a w:=U;refine zt ?_;obtain ⟨b,hwb,hgb,U⟩:=St.ownT (E:=U32) (m:=1) (D:=[]) U 5 2 rfl rfl hv8 hlt1;refine JU (sp:=[.v 38 _,.v 39 _,.v 40 _,.v 41 _,.v 42 _,.v 43 _,.v 44 VT,.v 11 VT]) 6 [0,1,2,3,4,6] 0 5 6 U (zM 5 rfl (zM 0 rfl (zM 4 rfl (zv rfl (bL aZ (i7 hk0 (vq 1 rfl)) (vq 2 rfl) hj) (zv rfl (ap (vq 3 rfl) aN) (zv rfl (dq (l:=[_]) (xs:=[.tmp 42]) aZ zk nq nq ((eK hx)) (.o (vq 4 rfl)) rfl rfl) o0)))))) rfl zk rfl rfl zd rfl zd rfl rfl zk hwb (λ _ _ h _=>(en h).2) qc e1 e2 e3 e4 e5 zd (by simp) zd (λ T hT=>hT) zd (λ A hA=>by obtain ⟨_,_,rfl⟩:=qp.1 hA;rfl) zk nq nq zk zk (λ a w U=>?_);have U:St B W1 68 [(11,_),(0,_),(1,_),(8,_),(9,_),(10,_),(8,_)] [zpH 8 139 _] a w:=U;refine zt<|JS (sp:=[.v 45 _,.v 46 _,.v 47 VT,.v 48 VT,.v 9 VT]) 2 [1,2,3,5] 0 1 6 (M1:=(MgB b (l[j]::ay (val (l.drop (j+1))%D))).va) (M2:=(MgB b (bt (l[j]::ay (val (l.drop (j+1))%D)))).va) U (zM 0 rfl (zM 4 rfl o0)) rfl zk rfl rfl rfl (ep (famB b) _) (E9 (l:=l[j]::ay (val (l.drop (j+1))%D)) (okL_cons.2 ⟨hx,(bh _).1⟩)) zd rfl zd rfl rfl zk hwb (D':=[]) (xs:=NL (ay (val (l.drop (j+1))%D))) (λ w u e k=>by have e':u=v9:=e;rw [e'];exact (en (hk9 w k)).2) qc e1 e2 e3 e4 e5 zd (by simp only [qx,qd,xp,z8];have:=cp (xa hmd);omega) zd (λ T hT=>hT) zd (λ A hA=>by obtain ⟨_,_,rfl⟩:=qp.1 hA;rfl) zk nq nq nq zk zk (λ a w U=>?_);have U:St B W1 68 [(9,_),(0,_),(1,_),(8,_),(10,_)] [zpH 8 139 _] a w:=U;have U:=St.wkG (A':=(MgB b (ay ((val (l.drop (j+1))%D)*4294967296+l[j]))).va) U 0 rfl (bf (qt (λ l=>(MgB b l).va) (yA hx)));refine zt<|qb<|zg U3 [] (Ww 49) (Wi [.o 3]) U (zM 0 G (zM 2 G (zQ G ((px (ay (val (l.drop (j+1))%D*4294967296+l[j])) (ay D)).wk (.cons pL (.cons aM .nil))) (.p (vq 0 G) (i7 hk1 (vq 1 G))) (zv G (aO (vq 2 G) ab) o0)))) (λ a w U=>?_);have U:St B W1 68 [(9,_),(0,_),(1,_),(8,_),(10,_),(52,_)] [zpH 8 139 _] a w:=U;refine zJ 5 U G (λ hb2=>?_) (λ hb2=>?_)
   ·have hq:(val (l.drop (j+1))%D*4294967296+l[j])<D:=cm_lt0.1 (qu hb2);refine qP<|ai<|az<|aa<|zg U3 [] (W6 36 [.v 10 _]) Rv U (zM 4 G (zv G (ce (vq 0 G) ab (wi64 zo zo)) (zA 1 G o0))) (λ a w U=>?_);have U:St B W1 68 [(9,_),(0,_),(1,_),(8,_),(10,_)] [zpH 8 139 _] a w:=U;refine aa ?_;have U:=St.sel U [1,2,3,0,4];obtain ⟨v9c,h9c,U⟩:=St.toE U 3 rfl;have hne:blk v9c≠some go:=λ e=>by have:=pK h9c go e;omega
    have hsz:=U.base.size;exact ⟨j,by omega,v9c,v8,go,⟨by omega,⟨by rw [← rR hD hj,zD hq];exact pL _ _ _ h9c,hne,hR.may,by omega⟩,hv8⟩,by have U:=hback U;rw [I9 hl hD hj hq] at U;exact U⟩
   ·have hq:¬ (val (l.drop (j+1))%D*4294967296+l[j])<D:=λ h=>qw hb2 (cm_lt0.2 h);have hsub:(val (l.drop (j+1))%D*4294967296+l[j])-D*((val (l.drop (j+1))%D*4294967296+l[j])/D)=val (ay (val (l.drop (j+1))%D*4294967296+l[j]))-val (ay (val (ay D)*((val (l.drop (j+1))%D*4294967296+l[j])/D))):=by rw [aF,aF,aF]
    have hle:D*((val (l.drop (j+1))%D*4294967296+l[j])/D)≤(val (l.drop (j+1))%D*4294967296+l[j]):=Nat.mul_div_le _ _;have hsl:(ay (val (ay D)*((val (l.drop (j+1))%D*4294967296+l[j])/D))).length≤(ay (val (l.drop (j+1))%D*4294967296+l[j])).length:=by rw [aF];exact cp hle
    have hsv:val (ay (val (ay D)*((val (l.drop (j+1))%D*4294967296+l[j])/D)))≤val (ay (val (l.drop (j+1))%D*4294967296+l[j])):=by rw [aF,aF,aF];exact hle
    have hlen2:(ay (val (l.drop (j+1))%D*4294967296+l[j])).length≤1000000001:=qf (ML (GT hD hx)) zo;refine qj<|zt<|zg U3 [] (Wb 53 [.v 12 _]) (Wi [.o 3]) U (zM 0 G (zM 2 G (zQ G ((LA (R:=(val (l.drop (j+1))%D*4294967296+l[j])) (D:=D) hD (GT hD hx) zo).wk (.cons pL (.cons aM .nil))) (.p (vq 0 G) (i7 hk1 (vq 1 G))) (zA 2 G o0)))) (λ a w U=>?_);have U:St B W1 68 [(9,_),(0,_),(1,_),(8,_),(10,_),(12,_)] [zpH 8 139 _] a w:=U;refine zt ?_;obtain ⟨v9b,h9b,U⟩:=St.toE U 0 rfl;have hk0:∀ w',Kept (now w go) w'→(MgA l).va.p B v0 w':=λ w' hk=>hk0 w' (U.base.trans1 hmay1 hk);have hk1:∀ w',Kept (now w go) w'→(MgA (ay D)).va.p B v1 w':=λ w' hk=>hk1 w' (U.base.trans1 hmay1 hk);have hk9:∀ w',Kept (now w go) w'→(MgA (ay (val (l.drop (j+1))%D*4294967296+l[j]))).va.p B v9b w':=λ w' hk=>Be (pL _ _ _ h9b) (λ e=>by have:=pK h9b go e;omega) hk;have hback:∀ {Γ:List (Nat × VA)}{Λ:List Lc}{a:Act}{w':World},St B (now w go) 68 Γ Λ a w'→St B w0 68 Γ Λ a w':=λ h=>hback (h.back U.lo U.base hmay1);have hlt1:go<(now w go).w.heap.size:=qF hlt1 U.base.size;have U:=U.rebase hnd1 hmay1 (λ m hm=>by
     obtain rfl:=ql.1 hm;have e:a.eval (.tmp 8)=v8:=U.vals _ (zm 3 rfl);show blk (a.eval (.tmp 8))=_;rw [e];exact hv8)
    have hnd1:(now w go).nd=true:=rfl;have hmay1:(now w go).may go:=.inr rfl;generalize now w go=W2 at U hk0 hk1 hk9 hback hlt1 hnd1 hmay1;refine zg [some (4,_)] [] (.adr 56 8 .none True::(W6 57 [.adr 59 8 (.some _) True,.sto 0])) Wq U (oc (ob_a G G cy) (zM 4 G (zM 5 G (oc (ob_a G G (dM 0 G zk (lz0 0 G) aZ (vq 1 G) hj)) (oc (co 3 G G G G zk (λ _=>bX _ _ _ _) (vq 2 G) aN (bx (by rw [fQ zo];omega))) o0))))) (λ a w U=>?_);have U:St B W2 68 [(9,_),(0,_),(1,_),(8,_),(10,_),(12,_)] [zpH 8 139 _] a w:=U;refine aa<|zg U3 [] (Wd 60 [.v 9 _]) [.g 1,.g 2,.g 3,.g 4,.o 5] U (zM 0 G (zM 2 G (zM 5 G (zQ G (tn (ay D) ((val (l.drop (j+1))%D*4294967296+l[j])/D) zo (DL hD hx)) (.p (i7 hk1 (vq 1 G)) (vq 2 G)) (zv G (Is (A4 (ay (val (l.drop (j+1))%D*4294967296+l[j])) (ay (val (ay D)*((val (l.drop (j+1))%D*4294967296+l[j])/D))) zo hsl hsv) (λ n hn=>Em hn) (.p (i7 hk9 (vq 0 G)) (vq 3 G))) (zA 4 G o0)))))) (λ a w U=>?_);have U:St B W2 68 [(0,_),(1,_),(8,_),(10,_),(9,_)] [zpH 8 139 _] a w:=U;refine al ?_;refine aa<|zg U3 [] (W6 36 [.v 10 _]) (W7 [.g 4,.o 2]) U (zM 3 G (zv G (ce (vq 0 G) ab (wi64 zo zo)) (zA 1 G o0))) (λ a w U=>?_);have U:St B W2 68 [(0,_),(1,_),(8,_),(9,_),(10,_)] [zpH 8 139 _] a w:=U;refine aa ?_;have U:=St.sel U [0,1,2,3,4];obtain ⟨v9c,h9c,U⟩:=St.toE U 3 rfl;have hne:blk v9c≠some go:=λ e=>by have:=pK h9c go e;omega
    have hsz:=U.base.size;exact ⟨j,by omega,v9c,v8,go,⟨by omega,⟨by rw [← rR hD hj,← sub_mod',hsub];exact pL _ _ _ h9c,hne,hR.may,by omega⟩,hv8⟩,by have U:=hback U;rw [rQ hl hD hj] at U;exact U⟩
  ·obtain rfl:n=0:=by simp at hb1;omega
   have h9:=hk9 _ U.base;have U:=hback U;have U:=St.eqF U 3 rfl h9;refine qP<|ai<|ai<|az<|zt<|zg U3 [] (.adr 65 8 .none True::(W6 66 (W6 4))) [.g 2,.o 3,.o 4] U (oc (ob_a G G cy) (zQ G (ep famN _) (.o (i6 0 G zk (lz0 0 G) ⟨by rw [fQ (zf _)],qh _,by unfold maxLen;omega,A5⟩ (by rw [fQ (zf _)]))) (zM 3 G (zA 1 G (zA 2 G o0))))) (zz (Wa 8 4 5) [zpH 8 139 _] λ a w U=>?_);refine aa<|qi<|am ?_ (aX (rs:=[.tmp 4,.tmp 5]) G U (.tmp (zm 1 G) (.tmp (zm 2 G) .nil)) zd);rw [G7 hl,xl];exact tu2w pb aM
theorem D4 {l m:Ya}(hl:okL l)(hm:okL m):val (digs (addN l m) (val l+val m))=val l+val m:=by
 rw [dH,zD];unfold addN;split
 ·assumption
 ·exact G0 hl hm
theorem DM {a b:Int}(h:((riOf a).neg==(riOf b).neg)=true):(RIA (rsig (riOf a).neg (digs (addN (riOf a).mag (riOf b).mag) (val (riOf a).mag+val (riOf b).mag)))).va=Zi (a+b):=by
 have h':decide (a<0)=decide (b<0):=by simpa [riOf] using h
 rw [cb (bV _ _) (z:=a+b) (by rw [D4 (o7 a) (o7 b),bB,bB];simp only [q9] at h';omega) (λ hz=>by show decide (a<0)=_;simp only [q9] at h' ⊢;omega)]
theorem cm_ge0 {X Y:Nat}:cmL (ay X) (ay Y)≥0↔Y≤X:=by
 rw [fE];split
 ·omega
 ·split <;> omega
theorem nT {a b:Int}(h:decide (cmL (riOf a).mag (riOf b).mag≥0)=true):b.natAbs≤a.natAbs:=cm_ge0.1 (qu h)
theorem nS {a b:Int}(h:decide (cmL (riOf a).mag (riOf b).mag≥0)=false):a.natAbs≤b.natAbs:=xa (jc λ h2=>qw h (cm_ge0.2 h2))
theorem Ek {p q:Int}(h:p*q≠0):(decide (p<0) != decide (q<0))=decide (p*q<0):=by
 have hp:p≠0:=λ e=>h (by rw [e,Int.zero_mul]);have hq:q≠0:=λ e=>h (by rw [e,vv]);rcases Int.lt_or_le p 0 with h1|h1 <;> rcases Int.lt_or_le q 0 with h2|h2
 ·have:=vb h1 h2;rw [qE h1,qE h2,zK zo];rfl
 ·have:=jR h1 (show 0<q by omega);rw [qE h1,zK (show ¬ q<0 by omega),qE this];rfl
 ·have:=jQ (show 0<p by omega) h2;rw [zK (show ¬ p<0 by omega),qE h2,qE this];rfl
 ·have:=vG (show 0<p by omega) (show 0<q by omega);rw [zK (show ¬ p<0 by omega),zK (show ¬ q<0 by omega),zK zo];rfl
theorem DJ {p q:Int}:(RIA (rsig ((riOf p).neg != (riOf q).neg) (ay (val (riOf p).mag*val (riOf q).mag)))).va=Zi (p*q):=qt (λ x=>(RIA x).va) (cb (bh _).1 (z:=p*q) (by rw [aF,bB,bB,jK]) Ek)
theorem LI {p q:Int}:(RIA (rsig ((riOf p).neg != (riOf q).neg) (ay (val (riOf p).mag/q.natAbs)))).va=Zi (p.tdiv q):=qt (λ x=>(RIA x).va) (cb (bh _).1 (z:=p.tdiv q) (by rw [aF,bB,lD]) un)
theorem LH {p q:Int}:(RIA (rsig (riOf p).neg (ay (val (riOf p).mag%q.natAbs)))).va=Zi (p.tmod q):=qt (λ x=>(RIA x).va) (cb (bh _).1 (z:=p.tmod q) (by rw [aF,bB,gV]) oh)
theorem tq (p q:Int)(hp:lz p≤1000000000)(hq:lz q≤1000000000):Cn Tryz.prog 231 [Zi p,Zi q] (Zi (p+q)):=by
 refine Cn.intro Tryz.func231 G zk nq (zy [(0,Zi p),(1,Zi q)] λ B w0 a U=>?_);refine qb<|zg [] Ui Uj [] U (zW 0 G (zW 1 G (zY G (Str.zero br) o0))) (zz [] Uk ?_);refine ztA<|zsA<|zgA Ul [] (.adr 5 2 (.some 0) True::.v 6 _::.adr 7 3 (.some 0) True::(W6 8)) UL (zO 0 G aT (zL 0 0 0 G ty_4 (zO 1 G aT (zL 2 1 0 G ty_4 (zv G (Am zk (vq 1 G) (vq 3 G)) o0))))) (zz [(9,_)] Uk λ a w U=>?_);refine zJ 0 U G (λ hb0=>?_) (λ hb0=>?_)
 ·refine qb<|zgd UM UN [] (.adr 10 2 (.some 0) True::.v 11 _::.adr 12 2 (.some 1) True::.v 13 _::.adr 14 3 (.some 1) True::(Wb 15 [.sto 2])) [] ac U (zO 0 G aT (zL 0 0 0 G ty_4 (zO 0 G aq (zL 2 0 1 G aW (zO 1 G aq (zL 4 1 1 G aW (zQ G (LN _ _ (qf hp zd) (qf hq zd)) (.p (vq 3 G) (vq 5 G)) (zQ G (cd _ _) (.p (vq 1 G) (vq 6 G)) (zS 7 G ao o0))))))))) zk zk zk zk (zz [] Uk λ a w U=>?_);refine aa<|qi<|aj ?_;refine am ?_ (ax G U (zm 2 G) ao);exact bf (DM hb0)
 ·refine qj<|zt<|qb<|zg UO [] (.adr 18 2 (.some 1) True::.v 19 _::.adr 20 3 (.some 1) True::(Wb 21)) [.o 5] U (zO 0 G aq (zL 0 0 1 G aW (zO 1 G aq (zL 2 1 1 G aW (zQ G (px _ _) (.p (vq 1 G) (vq 3 G)) (zv G (dD (vq 4 G) ab) o0)))))) (zz [(23,_)] Uk λ a w U=>?_);refine zJ 0 U G (λ hb1=>?_) (λ hb1=>?_)
  ·refine qb<|zgd UM UN [] (.adr 24 2 (.some 0) True::.v 25 _::.adr 26 2 (.some 1) True::.v 27 _::.adr 28 3 (.some 1) True::(Wb 29 [.sto 2])) [] ac U (zO 0 G aT (zL 0 0 0 G ty_4 (zO 0 G aq (zL 2 0 1 G aW (zO 1 G aq (zL 4 1 1 G aW (zQ G (yZ _ _ (qf hp zd) (cp (nT hb1)) (by show val (ay _)≤val (ay _);rw [aF,aF];exact nT hb1)) (.p (vq 3 G) (vq 5 G)) (zQ G (cd _ _) (.p (vq 1 G) (vq 6 G)) (zS 7 G ao o0))))))))) zk zk zk zk (zz [] Uk λ a w U=>?_);refine aa<|qi<|aj ?_;refine am ?_ (ax G U (zm 2 G) ao);exact bf (AI hb0 (nT hb1))
  ·refine qj<|zt<|zgd UM UN [] (.adr 32 3 (.some 0) True::.v 33 _::.adr 34 3 (.some 1) True::.v 35 _::.adr 36 2 (.some 1) True::(Wb 37 [.sto 2])) [] ac U (zO 1 G aT (zL 0 1 0 G ty_4 (zO 1 G aq (zL 2 1 1 G aW (zO 0 G aq (zL 4 0 1 G aW (zQ G (yZ _ _ (qf hq zd) (cp (nS hb1)) (by show val (ay _)≤val (ay _);rw [aF,aF];exact nS hb1)) (.p (vq 3 G) (vq 5 G)) (zQ G (cd _ _) (.p (vq 1 G) (vq 6 G)) (zS 7 G ao o0))))))))) zk zk zk zk (zz [] Uk λ a w U=>?_);refine aa<|qi<|am ?_ (ax G U (zm 2 G) ao);exact bf (AH hb0 (nS hb1))
theorem pu (p q:Int)(hp:lz p≤1000000000)(hq:lz q≤1000000000):Cn Tryz.prog 203 [Zi p,Zi q] (Zi (p-q)):=by
 refine Cn.intro Tryz.func203 G zk nq (zy [(0,Zi p),(1,Zi q)] λ B w0 a U=>?_);refine qb<|zg [] Ui Uj [] U (zW 0 G (zW 1 G (zY G (Str.zero br) o0))) (zz [] Uk λ a w U=>?_);refine zt<|zgd [[],[],[1],[0,1,2],(Wm 4)] [none,none,some (4,_)] [] (Ww 5 [.sto 2]) [] ac U (zl 0 G ao (zl 1 G ao (zQ G (yV q) (.o (vq 1 G)) (zQ G (tq p (-q) hp (by rw [lf];exact hq)) (.p (vq 0 G) (vq 2 G)) (zS 3 G ao o0))))) zk zk zk zk (zz [] Uk λ a w U=>?_);refine aa<|qi<|am ?_ (ax G U (zm 2 G) ao);exact bf (qt Zi Int.sub_eq_add_neg.symm)
theorem yX (p q:Int)(hp:lz p≤1000000000)(hq:lz q≤1000000000):Cn Tryz.prog 204 [Zi p,Zi q] (Zi (p*q)):=by
 refine Cn.intro Tryz.func204 G zk nq (zy [(0,Zi p),(1,Zi q)] λ B w0 a U=>?_);refine qb<|zg [] Ui Uj [] U (zW 0 G (zW 1 G (zY G (Str.zero br) o0))) (zz [] Uk λ a w U=>?_);refine zt<|zgd [[],[0],[],[2],(Wm 4),[],[5],[],[7],[5,6,7,8],(Wm 10),(Wm 11)] Re [] (.adr 5 2 (.some 0) True::.v 6 _::.adr 7 3 (.some 0) True::(W6 8 (.adr 10 2 (.some 1) True::.v 11 _::.adr 12 3 (.some 1) True::(Wb 13 [.sto 2])))) [] ac U (zO 0 G aT (zL 0 0 0 G ty_4 (zO 1 G aT (zL 2 1 0 G ty_4 (zv G (nj zk (vq 1 G) (vq 3 G)) (zO 0 G aq (zL 5 0 1 G aW (zO 1 G aq (zL 7 1 1 G aW (zQ G ((A6 _ _ (qf hp zd) (qf hq zd)).wkp pb) (.p (vq 6 G) (vq 8 G)) (zQ G (cd _ _) (.p (vq 4 G) (vq 9 G)) (zS 10 G ao o0)))))))))))) zk zk zk zk (zz [] Uk λ a w U=>?_);refine aa<|qi<|am ?_ (ax G U (zm 2 G) ao);exact bf DJ
theorem nh (p q:Int)(hq0:q≠0)(hp:lz p≤1000000000)(hq:lz q≤1000000000):Cn Tryz.prog 239 [Zi p,Zi q] (Tu [Zi (p.tdiv q),Zi (p.tmod q)]):=by
 refine Cn.intro Tryz.func239 G zk nq (zy [(0,Zi p),(1,Zi q)] λ B w0 a U=>?_);refine qb<|zg [] [zpL 2 26 0 _,zpL 3 26 1 _,zpL 4 26 2 _,zpL 5 26 3 _] [.alc 0,.alc 1,.alc 2,.alc 3] [] U (zW 0 G (zW 1 G (zY G (Str.zero br) (zY G (Str.zero br) o0)))) (zz [] R4 ?_);refine ztA<|zgA Um [] (.adr 9 2 (.some 1) True::.v 10 _::.adr 11 3 (.some 1) True::(W6 12 (.v 8 _::(W6 14 (W6 6))))) [.o 8,.o 9] (zO 0 G aq (zL 0 0 1 G aW (zO 1 G aq (zL 2 1 1 G aW (zQ G (Ag (D:=q.natAbs) (riOf p).mag zo hp hq) (.p (vq 1 G) (vq 3 G)) (zV 4 G (zv G (aP (vq 5 G) G) (zv G (aP (vq 5 G) G) (zA 6 G (zA 7 G o0)))))))))) (zz (Wc 6 7) R4 λ a w U=>?_);refine zt<|zgd [[],[0],[],[2],(Wm 4),[],(Wm 6),[],[7],[],(Wm 10),(Wm 11),(Wm 12)] [none,none,some (11,_),some (12,_)] [] (.adr 16 2 (.some 0) True::.v 17 _::.adr 18 3 (.some 0) True::(Ww 19 (.adr 23 2 (.some 0) True::(Wb 24 [.sto 2,.sto 3])))) [] ac U (zO 0 G aT (zL 0 0 0 G ty_4 (zO 1 G aT (zL 2 1 0 G ty_4 (zv G (nj zk (vq 1 G) (vq 3 G)) (zM 0 G (zQ G (cd _ _) (.p (vq 4 G) (vq 5 G)) (zO 0 G aT (zL 7 0 0 G ty_4 (zM 1 G (zQ G (cd _ _) (.p (vq 8 G) (vq 9 G)) (zS 6 G ao (zS 10 G ao o0))))))))))))) zk zk zk zk (zz [] R4 λ a w U=>?_);refine aa<|qi<|am ?_ (aX (rs:=[.cell 4 26,.cell 5 26]) G U (.cell (zm 2 G) ao (.cell (zm 3 G) ao .nil)) zd);exact tu2w (bf LI) (bf LH)
def bln:Nat→Nat
 | 0=>0
 | n+1=>bln ((n+1)/2)+1
decreasing_by omega
theorem OV {t:Nat}(h:t<4294967296):IntKind.u32.wrap ((t:Int).tdiv ((2:Nat):Int))=((t/2:Nat):Int):=by
 rw [x7 zo,← j3,wu32 zo]
theorem sP {n:Nat}(h:0<n):bln n=bln (n/2)+1:=by
 cases n with
 | zero=>omega
 | succ n=>rw [bln]
theorem Ha:∀ (k n:Nat),n<2^k→bln n≤k
 | k,0,_=>by rw [bln];omega
 | 0,n+1,h=>by simp at h
 | k+1,n+1,h=>by
  rw [bln];have:=Ha k ((n+1)/2) (by rw [ze] at h;omega);omega
def bitF (p:Int):Nat:=if lz p=0 then 0 else 32*(lz p-1)+bln ((ay p.natAbs).getD (lz p-1) 0)
theorem Lj {p:Int}(h:lz p≠0):0<(ay p.natAbs).getD (lz p-1) 0:=by
 apply Decidable.byContradiction;intro hn;have hlt:lz p-1<(ay p.natAbs).length:=by show lz p-1<lz p;omega
 rw [cK hlt] at hn;have e:ay p.natAbs=(ay p.natAbs).take (lz p-1)++[0]:=by
  have h2:=qA hlt;rw [qD (by show lz p≤lz p-1+1;omega)] at h2;rw [show (ay p.natAbs)[lz p-1]=0 by omega] at h2;exact h2
 have hv:=aF p.natAbs;rw [e,lp,vt,xU] at hv;have h3:=fb (l:=(ay p.natAbs).take (lz p-1)) (λ x hx=>(bh _).1 x (xk hx));rw [hv] at h3;have h4:=ec h3;rw [qX] at h4;have h5:lz p=(ay p.natAbs).length:=rfl;omega
theorem FB {p:Int}(h:bitF p=1):p.natAbs=1:=by
 unfold bitF at h;split at h
 ·omega
 ·rename_i h0;have h1:=Lj h0;rw [sP h1] at h;have h2:lz p=1:=by omega
  have h3:bln ((ay p.natAbs).getD (lz p-1) 0/2)=0:=by omega
  have h4:(ay p.natAbs).getD (lz p-1) 0=1:=by
   apply Decidable.byContradiction;intro hn;have:=sP (n:=(ay p.natAbs).getD (lz p-1) 0/2) zo;omega
  have h5:=pQ (D:=p.natAbs) h2;have h6:(ay p.natAbs).getD 0 0=1:=by rw [h2] at h4;exact h4
  rw [cK (by show 0<lz p;omega)] at h6;omega
theorem rS (p:Int)(hp:lz p≤1000000000):Cn Tryz.prog 237 [Zi p] (In (bitF p:Nat)):=by
 have hrl:(riOf p).mag.length=lz p:=rfl;refine Cn.intro Tryz.func237 G zk nq (zy [(0,Zi p)] λ B w0 a U=>?_);refine qb<|zg [] Ur Us Ut U (zW 0 G (zE G ab)) (zz Uu Uv ?_);refine ztA<|zsA<|zgA U1 [] (.adr 5 1 (.some 1) True::(Wb 6)) Ro (zO 0 G aq (zL 0 0 1 G aW (zv G (aH qc (vq 1 G)) (zv G (bF (vq 2 G) ab) o0)))) (zz (Wc 2 8) Uv λ a w U=>?_);refine zJ 1 U G (λ hb0=>?_) (λ hb0=>?_)
 ·have h0:lz p=0:=by simp at hb0;rw [← hrl,hb0];rfl
  refine qb<|zg U3 [] Ux WZ U (zE G ab) (zz Uu Uv λ a w U=>?_);refine aa<|qi<|aj ?_;refine am ?_ (ak G U (zm 0 G));rw [show bitF p=0 by rw [bitF,qC h0]];exact aM
 ·have h0:lz p≠0:=by intro e;rw [← hrl] at e;simp [z9 e] at hb0
  have hlt:lz p-1<(ay p.natAbs).length:=by show lz p-1<lz p;omega
  have htop:(ay p.natAbs).getD (lz p-1) 0<4294967296:=fA (bh _).1 _;have hbt:32*(lz p-1)+bln ((ay p.natAbs).getD (lz p-1) 0)=bitF p:=by rw [bitF,qy h0]
  have hb32:=Ha 32 _ htop;refine qj<|zt<|zg U3 [] (.adr 9 1 (.some 1) True::(Ww 10 [.v 3 _])) [.g 0,.o 5] U (zO 0 G aq (zL 0 0 1 G aW (zv G (aH qc (vq 1 G)) (zv G (ce (vq 2 G) ab ((wi64 zo zo).trans (by omega:(_:Int)=((lz p-1:Nat):Int)))) (zv G (mc ab (vq 3 G) ((wi64 zo zo).trans (by omega:(_:Int)=((32*(lz p-1):Nat):Int)))) (zA 4 G o0)))))) (zz (Wc 2 3) Uv ?_);refine ztA<|zsA<|zgA U1 [] (.adr 14 1 (.some 1) True::.v 15 _::.adr 16 1 (.some 1) True::(Wd 17 [.v 4 _])) (We [.o 8]) (zO 0 G aq (zL 0 0 1 G aW (zO 0 G aq (zL 2 0 1 G aW (zv G (aH qc (vq 3 G)) (zv G (ce (vq 4 G) ab ((wi64 zo zo).trans (by omega:(_:Int)=((lz p-1:Nat):Int)))) (zv G (bL aZ (vq 1 G) (vq 5 G) hlt) (zv G (ap (vq 6 G) aN) (zA 7 G o0))))))))) (zz (Wa 2 3 4) Uv λ a w U=>?_);refine aa<|qk ?_;have U:=St.sel U [1,2];refine wp_loop_ghost (λ n a w=>∃ s t:Nat,(t<4294967296∧n=t∧s+bln t=bitF p)∧St B w0 29 [(3,In (s:Nat)),(4,(NumA .u32 (t:Nat)).va)] [⟨1,26,ptrH,RIA (riOf p)⟩] a w) ((ay p.natAbs).getD (lz p-1) 0) ?_ ?_
  ·rw [← cK hlt] at U;exact ⟨_,_,⟨htop,rfl,hbt⟩,U⟩
  intro n a w hI;obtain ⟨s,t,⟨ht,hnt,hs⟩,U⟩:=hI;refine qb<|qb<|zg U3 [] (W6 22) UF U (zM 1 G (zv G (cD (vq 0 G) (aE 0 G)) o0)) (zz (Wa 3 4 23) Uv λ a w U=>?_);refine zJ 2 U G (λ hb1=>?_) (λ hb1=>?_)
  ·have hb1:0<t:=by simp at hb1;omega
   refine qj<|zt<|qk<|zg U3 [] (W6 26 [.v 3 _]) R3 U (zM 0 G (zv G (aL (vq 0 G) ab (aU zo)) (zA 1 G o0))) (zz (Wc 4 3) Uv λ a w U=>?_);refine al ?_;refine aa<|zg U3 [] (W6 24 [.v 4 _]) R3 U (zM 0 G (zv G (mS (vq 0 G) (aE 2 G) zd (OV ht)) (zA 1 G o0))) (zz (Wc 3 4) Uv λ a w U=>?_);refine aa ?_;have U:=St.sel U [0,1];exact ⟨t/2,by omega,s+1,t/2,⟨by omega,rfl,by rw [sP hb1] at hs;omega⟩,U⟩
  ·have ht0:t=0:=by simp at hb1;omega
   refine qP<|ai<|ai<|az<|zt<|zg U3 [] [.v 28 _,.v 2 _] Ut U (zM 0 G (zA 0 G o0)) (zz Uu Uv λ a w U=>?_);refine aa<|qi<|am ?_ (ak G U (zm 0 G));rw [show bitF p=s by rw [← hs,ht0,bln];rfl];exact aM
theorem yY (l:Ya)(x:Nat)(hls:l.length≤1099511627776)(hx:x<4294967296):Cn Tryz.prog 260 [(MgA l).va,(NumA .u32 (x:Nat)).va] ((MgN (ay (val l*x))).va):=by
 refine Cn.intro Tryz.func260 G zk nq (zy [(0,(MgA l).va),(1,(NumA .u32 (x:Nat)).va)] λ B w0 a U=>?_);refine qb<|zh WP WQ U (zE G b9) (zz WR [] ?_);refine ztA<|zhA (Wd 5 [.v 4 _]) [.o 5] (zM 0 G (zM 1 G (zv G (dq (l:=[_]) (xs:=[.tmp 6]) aZ zk nq nq ((eK hx)) (.o (vq 1 G)) G G) (zQ G (ep famA _) (.o (vq 2 G)) (zQ G (A6 l (bt [x]) hls (qf (lu x).1 zd)) (.p (vq 0 G) (vq 3 G)) (zA 4 G o0)))))) (zz U0 [] λ a w U=>?_);refine aa<|qi<|am ?_ (ak G U (zm 0 G));rw [(lu x).2];exact aM
theorem ry {B:Nat}{w:Yi}:∀ (l:Ya),(cat (NL l)).p B (l.map λ (x:Nat)=>Value.int .u32 x) w
 | []=>⟨[],rfl,.nil⟩
 | x::l=>by
  obtain ⟨ps,e,hp⟩:=ry (B:=B) (w:=w) l;exact ⟨[.int .u32 x]::ps,by show _::_=_;rw [zZ,← e];rfl,.cons G hp⟩
theorem St.rowO {B N:Nat}(h:St B w0 N Γ Λ a w)(hB:B=w0.w.heap.size){s:Nat}{l:Ya}{n:Nat}(hn:n=l.length)(hl:l.length≤maxLen)(e:Nat)(he:Λ[e]?=some ⟨s,U32,slH n n,Nums .u32 l⟩):
  St B w0 N ((s,OwnR w0.w.heap.size U32 1 [] (NL l))::Γ) (Λ.eraseIdx e) a w:=by
 subst hn;obtain ⟨g,cs,e1,e2,e3,e4⟩:=h.locs _ (qa he);have e4':cs=l.map λ (x:Nat)=>Value.int .u32 x:=e4;refine ⟨h.lo,h.defers,h.size,h.base,λ x hx=>?_,λ m hm=>h.locs m (xG hm),λ m hm m' hm' hne=>h.dis m (xG hm) m' (xG hm') hne⟩;rcases qr.1 hx with rfl|hx
 ·have q1:∀ A∈NL l,A.n=1:=λ A hA=>by
   obtain ⟨_,_,rfl⟩:=qp.1 hA;rfl
  have q2:∀ A∈NL l,∀ T∈A.deps,T∈([]:List TypeId):=oa;have q3:(cat (NL l)).p B cs w:=by rw [e4'];exact ry l
  have q4:a.eval (.tmp s)=.slice (some ⟨g,0,none⟩) l.length l.length:=by rw [e1];rfl
  exact ⟨q1,q2,cs,q3,by rw [e4'];simp,.inr ⟨g,l.length,cs.toArray,by rw [qd];exact q4,by rw [← hB];exact h.lo g e2,e3,by simp,hl,by rw [e4'];simp,by rw [e4'];simp [qD]⟩⟩
 ·exact h.vals x hx
theorem qi64 {x:Nat}(h:x<4611686018427387904):IntKind.i64.wrap ((x:Int).tdiv 32)=((x/32:Nat):Int):=by
 rw [show (32:Int)=((32:Nat):Int) from rfl,x7 zo,← j3,wi64 zo zo]
theorem KY {i:Nat}(h:i<31):IntKind.u32.wrap (((2:Nat):Int)*((2^i:Nat):Int))=((2^(i+1):Nat):Int):=by
 have h1:2^(i+1)≤2^31:=zX zd zo;rw [← xJ,qW,← ze,wu32 (za h1 zd)]
theorem LZ (k:Nat):4294967296^k=2^(32*k):=by rw [Nat.pow_mul]
theorem E4 {i:Nat}(h:i<32):2^i<4294967296:=za (zX zd (show i≤31 by omega)) zd
theorem PF {p:Int}{t:Nat}:(RIN (rsig (riOf p).neg (ay (val (List.replicate (t/32) 0++(riOf p).mag)*2^(t%32))))).va=(RIN (riOf (p*((2^t:Nat):Int)))).va:=by
 have hpos:(0:Int)<((2^t:Nat):Int):=by exact_mod_cast zG (by decide:0<2)
 refine qt (λ x=>(RIN x).va) (cb (bh _).1 (z:=p*((2^t:Nat):Int)) ?_ λ hz=>?_)
 ·rw [aF,iF,pf,qR,bB,qV,jK,kA,LZ,jH,← xe,xP,qW]
 ·show decide (p<0)=_;rw [q9];exact ⟨λ h=>jR h hpos,λ h=>by
   apply Decidable.byContradiction;intro hn;have:=Int.mul_nonneg (show 0≤p by omega) (Int.le_of_lt hpos);omega⟩
theorem Af (p:Int)(t:Nat)(hp0:p≠0)(hp:lz p≤1000000000)(ht:t≤64000000000):Cn Tryz.prog 255 [Zi p,In (t:Nat)] ((RIN (riOf (p*((2^t:Nat):Int)))).va):=by
 obtain ⟨it,z,e1,e2,e3,e4,e5⟩:=mJ;refine Cn.introW Tryz.func255 G zk nq (.cons (uM _).va (.cons (mX _ _).va .nil)) (dk _).va (λ B w0 a hB0 U=>?_);have U:=zn [(0,(RIO (riOf p)).va),(1,In (t:Nat))] [] U;refine qb<|zg [] [zpL 2 26 0 _,zpL 4 26 1 _] UQ [.g 1] U (zW 0 G (zY G (Str.zero fM) o0)) (zz [(1,_)] Rw ?_);refine ztA<|zsA<|zgA UC [] (.adr 8 2 (.some 1) True::(Wb 9)) Ro (zO 0 G aq (zL 0 0 1 G aW (zv G (aH qc (aB (vq 1 G))) (zv G (bF (vq 2 G) ab) o0)))) (zz (Wc 1 11) Rw λ a w U=>?_);refine zJ 1 U G (λ hb0=>?_) (λ hb0=>?_)
 ·have h0:(riOf p).mag=[]:=by simpa using hb0
  exact absurd (gW hp0) (by show ¬ 0<(riOf p).mag.length;rw [h0];decide)
 ·refine qj<|zt<|di (sts:=[none,none]) (news:=[⟨15,139,slH _ _,some 2,_,none⟩]) (sp:=[.v 13 _,.v 14 _,.alc 2,.adr 5 15 .none True]) [.g 0] [(5,15)] [O 2 26 _,O 4 26 _,zpH 5 139 _] U (zM 0 G (zv G (mS (vq 0 G) ab zd (qi64 zo)) (oc (et G G G fp (vq 1 G) (vq 1 G) zo) (oc (ob_a G G mO) o0)))) zk zk zk ⟨⟨3,rfl⟩,trivial⟩ G zk (zz [(1,_)] [O 2 26 _,O 4 26 _,zpH 5 139 _] λ a w U=>?_);refine zt ?_;have U:=St.rowO U hB0 (l:=List.replicate (t/32) 0) (by simp) (by simp;unfold maxLen;omega) 2 rfl;have U:=zn (Wc 5 1) Rw U;refine mq (sp:=[.v 16 _,.adr 17 2 (.some 1) True,.v 18 _,.v 19 VT,.v 5 VT]) 3 [1] 0 2 U (zM 0 rfl (zO 0 rfl aq (zL 1 0 1 rfl aW o0))) rfl zk rfl rfl zd rfl zd rfl (λ w u h k=>by have h2:=SlO.use h;exact (en h2).2) qc e1 e2 e3 e4 e5 zd (by simp only [qd,qR];have:(riOf p).mag.length=lz p:=rfl;omega) zd (λ T hT=>hT) zd (λ A hA=>by obtain ⟨_,_,rfl⟩:=qp.1 hA;rfl) zk nq nq zk zk (zz (Wc 5 1) Rw ?_);refine ztA<|zgA UC [] U2 WQ (zv G (bc (aE 1 G)) o0) (zz (Wa 5 1 6) Rw ?_);refine ztA<|zsA<|zgA UC [] [.v 7 _] WX (zE G ab) (zz (Wf 5 1 6 7) Rw λ a w U=>?_);refine aa<|qk ?_;have U:=St.sel U [1,0,2,3];refine wp_loop_ghost (λ n a w=>∃ i:Nat,(n+i=t%32)∧St B w0 34 [(1,In (t:Nat)),(5,OwnR w0.w.heap.size U32 1 [] (NL (List.replicate (t/32) 0)++NL (riOf p).mag)),(6,(NumA .u32 (2^i:Nat)).va),(7,In (i:Nat))] [⟨2,26,ptrH,RIO (riOf p)⟩,⟨4,26,ptrH,cat [BoA false,MgO []]⟩] a w) (t%32) ?_ ?_
  ·exact ⟨0,by omega,U⟩
  intro n a w hI;obtain ⟨i,hn,U⟩:=hI;have hm32:=qU t (by decide:0<32);refine qb<|qb<|zg UE [] (Ww 20) (Wp [.o 3]) U (zM 3 G (zM 0 G (zv G (py (vq 1 G) ab zd (nrem (y:=32))) (zv G (aO (vq 0 G) (vq 2 G)) o0)))) (zz (W8 1 5 6 7 23) Rw λ a w U=>?_);refine zJ 4 U G (λ hb1=>?_) (λ hb1=>?_)
  ·have hi:i<t%32:=by have:=qu hb1;omega
   refine qj<|zt<|qk<|zg UE [] (W6 26 [.v 6 _]) UX U (zM 2 G (zv G (mc (aE 2 G) (vq 0 G) (KY zo)) (zA 1 G o0))) (zz (Wf 1 5 7 6) Rw λ a w U=>?_);refine al ?_;refine aa<|zg UE [] (W6 24 [.v 7 _]) UX U (zM 2 G (zv G (aL (vq 0 G) ab (aU zo)) (zA 1 G o0))) (zz (Wf 1 5 6 7) Rw λ a w U=>?_);refine aa ?_;have U:=St.sel U [0,1,2,3];exact ⟨n-1,by omega,i+1,by omega,U⟩
  ·obtain rfl:i=t%32:=by have:=qw hb1;omega
   have U:=St.wkG (A':=(MgA (List.replicate (t/32) 0++(riOf p).mag)).va) U 1 rfl (by unfold NL;rw [← zT];exact AO (okL_append.2 ⟨λ x hx=>by rw [(xN.1 hx).2];decide,o7 p⟩));refine qP<|ai<|ai<|az<|zt<|zgd [[],[0],[],[],[2,3],(Wm 5),(Wm 6)] Ru [] (.adr 28 2 (.some 0) True::(Wd 29 [.sto 1])) [] ac U (zO 0 G aT (zL 0 0 0 G ty_4 (zM 1 G (zM 2 G (zQ G (yY _ (2^(t%32)) (by simp only [qx,qR];have:(riOf p).mag.length=lz p:=rfl;omega) (E4 (qU _ zd))) (.p (vq 2 G) (vq 3 G)) (zQ G (uS _ _) (.p (vq 1 G) (vq 4 G)) (zS 5 G ao o0))))))) zk zk zk zk (zz [] Rw λ a w U=>?_);refine aa<|qi<|am ?_ (ax G U (zm 1 G) ao);exact bf PF
theorem lB (X:Nat)(h:(ay X).length≤1099511627776):Cn Tryz.prog 254 [(MgA (ay X)).va] (MgA (ay (X/2))).va:=by
 have:=If (ay X) h;rwa [aF] at this
theorem lg {X:Nat}(h:0<X):0<(ay X).length:=by rw [d3 zo];simp
theorem lC (X:Nat)(h:0<X):Cn Tryz.prog 253 [(MgA (ay X)).va] (Bo (((X%2:Nat):Int)==((0:Nat):Int))):=by
 have:=Ih (ay X) (lg h);rwa [aF] at this
theorem A3 (X Y:Nat)(h:Y≤X)(hl:(ay X).length≤10000000000):Cn Tryz.prog 248 [(MgA (ay X)).va,(MgA (ay Y)).va] (MgA (ay (X-Y))).va:=by
 have:=yZ (ay X) (ay Y) hl (cp h) (by rw [aF,aF];exact h);rwa [aF,aF] at this
theorem ui {X:Nat}(h:(((X%2:Nat):Int)==((0:Nat):Int))=true):X%2=0:=by
 have:=beq_iff_eq.1 h;omega
theorem Fg {X:Nat}(h:(((X%2:Nat):Int)==((0:Nat):Int))=false):X%2=1:=by
 have h2:¬ ((X%2:Nat):Int)=((0:Nat):Int):=λ e=>by rw [e] at h;simp at h
 omega
theorem Nd {X Y:Nat}(h:((((X%2:Nat):Int)==((0:Nat):Int))&&(((Y%2:Nat):Int)==((0:Nat):Int)))=true):X%2=0∧Y%2=0:=by
 rw [qo] at h;exact ⟨ui h.1,ui h.2⟩
theorem Nf {X Y:Nat}(h:((((X%2:Nat):Int)==((0:Nat):Int))&&(((Y%2:Nat):Int)==((0:Nat):Int)))=false):X%2=1∨Y%2=1:=by
 rw [jw] at h;rcases h with h|h
 ·exact .inl (Fg h)
 ·exact .inr (Fg h)
theorem u5 {X Y g:Nat}(h:Nat.gcd X Y=g)(hg:g%2=1)(hX:X%2=0):Nat.gcd (X/2) Y=g:=by
 have e:X=2*(X/2):=by omega
 apply Nat.dvd_antisymm
 ·rw [← h];exact Nat.dvd_gcd (vd (jx _ _) ⟨2,by omega⟩) (jW _ _)
 ·refine Nat.dvd_gcd ?_ (h▸jW _ _);have h1:g∣2*(X/2):=by rw [← e];exact h▸jx _ _
  refine Nat.Coprime.dvd_of_dvd_mul_left ?_ h1;show Nat.gcd g 2=1;have h2:Nat.gcd g 2∣2:=jW _ _;have h3:Nat.gcd g 2∣g:=jx _ _;have h4:=Nat.le_of_dvd zd h2;rcases Nat.lt_or_ge (Nat.gcd g 2) 2 with h5|h5
  ·have:Nat.gcd g 2≠0:=by intro e0;have:=Nat.gcd_eq_zero_iff.1 e0;omega
   omega
  ·have h6:Nat.gcd g 2=2:=by omega
   rw [h6] at h3;obtain ⟨c,hc⟩:=h3;omega
theorem JV {X Y:Nat}(h:X%2=1∨Y%2=1):Nat.gcd X Y%2=1:=by
 apply Decidable.byContradiction;intro hn;have h2:2∣Nat.gcd X Y:=Nat.dvd_of_mod_eq_zero zo;have h3:=vd h2 (jx X Y);have h4:=vd h2 (jW X Y);omega
theorem u4 {X Y g:Nat}(h:Nat.gcd X Y=g)(hle:Y≤X):Nat.gcd (X-Y) Y=g:=by
 rw [← h,xT,xT X Y];have:=Nat.gcd_add_self_right (m:=Y) (n:=X-Y);rw [jG hle] at this;exact this.symm
theorem uN {X t k:Nat}(hX:0<X)(h:X*2^t<4294967296^k):t≤32*k:=by
 rw [LZ] at h;have h1:2^t≤X*2^t:=Nat.le_mul_of_pos_left _ hX;exact xa ((Nat.pow_lt_pow_iff_right (by decide:1<2)).1 (za h1 h))
structure Tw (P Q X Y t:Nat):Prop where
 x:0<X
 y:0<Y
 p:P=X*2^t
 q:Q=Y*2^t
theorem Tw.next {P Q X Y t:Nat}(h:Tw P Q X Y t)(hX:X%2=0)(hY:Y%2=0):Tw P Q (X/2) (Y/2) (t+1) :=
 ⟨by have:=h.x;omega,by have:=h.y;omega,by rw [h.p,ze,qW (2^t),← zb];congr 1;omega,by rw [h.q,ze,qW (2^t),← zb];congr 1;omega⟩
theorem Tw.xle {P Q X Y t:Nat}(h:Tw P Q X Y t):X≤P∧Y≤Q:=by
 have h1:0<2^t:=zG zd;rw [h.p,h.q];exact ⟨jZ _ h1,jZ _ h1⟩
theorem Tw.tle {P Q X Y t:Nat}(h:Tw P Q X Y t)(hl:(ay P).length≤1000000000):t≤32000000000:=by
 have h1:=ci (n:=P) (qh _);rw [h.p] at h1;have h2:=uN h.x h1;rw [← h.p] at h2;omega
theorem lenM {X M:Nat}(h:X≤M)(hM:(ay M).length≤1000000000):(ay X).length≤1000000000:=qf (cp h) hM
theorem Jq {X:Nat}(h:decide (((ay X).length:Int)>0)=true):0<X:=by
 apply Decidable.byContradiction;intro hn;obtain rfl:X=0:=by omega
 rw [bz] at h;exact absurd h zd
theorem Jr {X:Nat}(h:decide (((ay X).length:Int)>0)=false):X=0:=by
 apply Decidable.byContradiction;intro hn;have:=lg (X:=X) zo;exact absurd (qw h) zo
theorem Oy {Y:Nat}:(RIA (rsig false (ay Y))).va=Zi ((Y:Nat):Int):=by
 rw [cb (bh _).1 (z:=((Y:Nat):Int)) (by rw [aF];omega) (λ hz=>by simp)]
theorem mag0 {p:Int}(h:(((riOf p).mag.length:Int)==0)=true):p=0:=by
 apply Decidable.byContradiction;intro hn;have h1:=gW hn;have h2:(riOf p).mag.length=lz p:=rfl;simp at h;rw [h] at h2;simp at h2;omega
theorem mag1 {p:Int}(h:(((riOf p).mag.length:Int)==0)=false):0<p.natAbs:=by
 apply Decidable.byContradiction;intro hn;obtain rfl:p=0:=by omega
 exact absurd h (by rw [show (riOf (0:Int)).mag=[] from bz];decide)
set_option maxHeartbeats 1000000 in
theorem ni (p q:Int)(hp:lz p≤1000000000)(hq:lz q≤1000000000):Cn Tryz.prog 238 [Zi p,Zi q] (Zi ((Int.gcd p q:Nat):Int)):=by
 refine Cn.intro Tryz.func238 G zk nq (zy [(0,Zi p),(1,Zi q)] λ B w0 a U=>?_);refine qb<|zg [] Ui Uj [] U (zW 0 G (zW 1 G (zY G (Str.zero br) o0))) (zz [] Uk ?_);refine ztA<|zgA Ul [] [.adr 9 2 (.some 1) True,.v 10 _,.v 5 _] U9 (zO 0 G aq (zL 0 0 1 G aW (zA 1 G o0))) (zz [(5,_)] Uk ?_);refine ztA<|zgA Ul [] [.adr 11 3 (.some 1) True,.v 12 _,.v 6 _] Ue (zO 1 G aq (zL 0 1 1 G aW (zA 1 G o0))) (zz (Wc 5 6) Uk ?_);refine ztA<|zsA<|zgA Ul [] (Wb 13) WY (zM 0 G (zv G (aH qc (vq 0 G)) (zv G (bF (vq 1 G) ab) o0))) (zz (Wa 5 6 15) Uk λ a w U=>?_);refine zJ 2 U G (λ hb0=>?_) (λ hb0=>?_)
 ·obtain rfl:=mag0 hb0;refine qb<|zg [η,η,some (2,_)] [] (W6 16 [.sto 2]) We U (zM 1 G (zQ G (cd _ _) (.cons aJ (.o (vq 0 G))) (zS 1 G ao o0))) (zz (Wc 5 6) Uk λ a w U=>?_);refine aa<|qi<|aj ?_;refine am ?_ (ax G U (zm 2 G) ao);exact bf (size_e.trans (by rw [show Int.gcd 0 q=q.natAbs from Int.gcd_zero_left ..]))
 ·have hp0:=mag1 hb0;refine qj<|zt<|qb<|zg UO [] (Wb 18) WY U (zM 1 G (zv G (aH qc (vq 0 G)) (zv G (bF (vq 1 G) ab) o0))) (zz (Wa 5 6 20) Uk λ a w U=>?_);refine zJ 2 U G (λ hb1=>?_) (λ hb1=>?_)
  ·obtain rfl:=mag0 hb1;refine qb<|zg [η,η,some (2,_)] [] (W6 21 [.sto 2]) We U (zM 0 G (zQ G (cd _ _) (.cons aJ (.o (vq 0 G))) (zS 1 G ao o0))) (zz (Wc 5 6) Uk λ a w U=>?_);refine aa<|qi<|aj ?_;refine am ?_ (ax G U (zm 2 G) ao);exact bf (size_e.trans (by rw [show Int.gcd p 0=p.natAbs from Int.gcd_zero_right ..]))
  ·have hq0:=mag1 hb1;obtain ⟨M,hM0⟩:∃ M,M=max p.natAbs q.natAbs:=⟨_,rfl⟩;have hPM:p.natAbs≤M:=by omega
   have hQM:q.natAbs≤M:=by omega
   have hM:(ay M).length≤1000000000:=by
    rcases Nat.le_total p.natAbs q.natAbs with h|h
    ·rw [show M=q.natAbs by omega];exact hq
    ·rw [show M=p.natAbs by omega];exact hp
   refine qj<|zt<|zg UO [] [.v 7 _] WQ U (zE G ab) (zz (Wa 5 6 7) Uk λ a w U=>?_);refine zt<|qk ?_;have U:=St.sel U [0,1,2];refine wp_loop_ghost (λ n a w=>∃ X Y t:Nat,(Tw p.natAbs q.natAbs X Y t∧n=X)∧St B w0 60 [(5,(MgA (ay X)).va),(6,(MgA (ay Y)).va),(7,In (t:Nat))] [⟨2,26,ptrH,RIA (riOf p)⟩,⟨3,26,ptrH,RIA (riOf q)⟩,⟨4,26,ptrH,cat [BoA false,MgA []]⟩] a w) (p.natAbs) ?_ ?_
   ·exact ⟨p.natAbs,q.natAbs,0,⟨⟨hp0,hq0,(zH _).symm,(zH _).symm⟩,rfl⟩,U⟩
   intro n a w hI;obtain ⟨X,Y,t,⟨hT,hnX⟩,U⟩:=hI;have htl:=hT.tle hp;have hTx:=hT.x;refine qb<|qb<|zg UO [] (Wb 23 [.t 26 _,.t 27 _,.v 28 _]) (W7 [.o 5]) U (zM 0 G (zQ G (lC X hT.x) (.o (vq 0 G)) (zV 1 G (zB 2 G (λ hg=>aA (gq 1 G)) (zB 2 G (λ hg=>ba (lC Y hT.y) (.o (ae (vq 3 G) hg))) (zv G (bE (vq 2 G) (vq 4 G)) o0)))))) (zz (Wf 5 6 7 28) Uk λ a w U=>?_);refine zJ 3 U G (λ hb2=>?_) (λ hb2=>?_)
   ·have hev:=Nd hb2;refine qj<|aa<|qk<|qb<|zg UO [] (W6 29 [.v 5 _]) WO U (zM 0 G (zQ G (lB X (qf (lenM (qf hT.xle.1 hPM) hM) zd)) (.o (vq 0 G)) (zA 1 G o0))) (zz (Wa 6 7 5) Uk ?_);refine ztA<|zgA Ul [] (W6 31 [.v 6 _]) WO (zM 0 G (zQ G (lB Y (qf (lenM (qf hT.xle.2 hQM) hM) zd)) (.o (vq 0 G)) (zA 1 G o0))) (zz (Wa 7 5 6) Uk ?_);refine znA<|zgA Ul [] (W6 33 [.v 7 _]) WO (zM 0 G (zv G (aL (vq 0 G) ab (aU zo)) (zA 1 G o0))) (zz (Wa 5 6 7) Uk λ a w U=>?_);refine al ?_;refine aa ?_;have U:=St.sel U [0,1,2];exact ⟨X/2,by omega,X/2,Y/2,t+1,⟨hT.next hev.1 hev.2,rfl⟩,U⟩
   ·have hgo0:=JV (Nf hb2);obtain ⟨g,hgd⟩:∃ g,Nat.gcd X Y=g:=⟨_,rfl⟩;have hgo:g%2=1:=by rw [← hgd];exact hgo0
    have hgp:Int.gcd p q=g*2^t:=by show Nat.gcd p.natAbs q.natAbs=_;rw [hT.p,hT.q,Nat.gcd_mul_right,hgd]
    refine qP<|ai<|ai<|az<|zt<|qk ?_;have U:=St.sel U [0,1,2];refine wp_loop_ghost (λ n a w=>∃ X Y:Nat,(0<Y∧X≤M∧Y≤M∧Nat.gcd X Y=g∧n=X+Y)∧St B w0 60 [(5,(MgA (ay X)).va),(6,(MgA (ay Y)).va),(7,In (t:Nat))] [⟨2,26,ptrH,RIA (riOf p)⟩,⟨3,26,ptrH,RIA (riOf q)⟩,⟨4,26,ptrH,cat [BoA false,MgA []]⟩] a w) (X+Y) ?_ ?_
    ·exact ⟨X,Y,⟨hT.y,qf hT.xle.1 hPM,qf hT.xle.2 hQM,hgd,rfl⟩,U⟩
    intro n a w hI;clear hgd;obtain ⟨X,Y,⟨hY0,hXM,hYM,hg1,hn1⟩,U⟩:=hI;obtain ⟨n1,hn2⟩:∃ n1,n1=n:=⟨n,rfl⟩;refine qb<|qb<|zg UO [] (Wb 35) UD U (zM 0 G (zv G (aH qc (vq 0 G)) (zv G (cD (vq 1 G) ab) o0))) (zz (Wf 5 6 7 37) Uk λ a w U=>?_);refine zJ 3 U G (λ hb3=>?_) (λ hb3=>?_)
    ·have hX0:=Jq hb3;refine qj<|aa<|qk<|qb<|qk ?_;have U:=St.sel U [0,1,2];refine wp_loop_ghost (λ n a w=>∃ X2:Nat,(0<X2∧X2≤X∧Nat.gcd X2 Y=g∧n=X2)∧St B w0 60 [(5,(MgA (ay X2)).va),(6,(MgA (ay Y)).va),(7,In (t:Nat))] [⟨2,26,ptrH,RIA (riOf p)⟩,⟨3,26,ptrH,RIA (riOf q)⟩,⟨4,26,ptrH,cat [BoA false,MgA []]⟩] a w) (X) ?_ ?_
     ·exact ⟨X,⟨hX0,qh _,hg1,rfl⟩,U⟩
     intro n a w hI;obtain ⟨X2,⟨hX3,hX4,hg2,hn3⟩,U⟩:=hI;have hXM2:=qf hX4 hXM;refine qb<|qb<|zg UO [] (W6 38) WV U (zM 0 G (zQ G (lC X2 hX3) (.o (vq 0 G)) o0)) (zz (Wf 5 6 7 39) Uk λ a w U=>?_);refine zJ 3 U G (λ hb4=>?_) (λ hb4=>?_)
     ·have hev:=ui hb4;refine qj<|aa<|qk<|zg UO [] (W6 40 [.v 5 _]) WO U (zM 0 G (zQ G (lB X2 (qf (lenM hXM2 hM) zd)) (.o (vq 0 G)) (zA 1 G o0))) (zz (Wa 6 7 5) Uk λ a w U=>?_);refine al ?_;refine aa ?_;have U:=St.sel U [2,0,1];exact ⟨X2/2,by omega,X2/2,⟨by omega,by omega,u5 hg2 hgo hev,rfl⟩,U⟩
     ·have hoX:=Fg hb4;refine qP<|ai<|ai<|az<|zt<|qk ?_;have U:=St.sel U [0,1,2];refine wp_loop_ghost (λ n a w=>∃ Y2:Nat,(0<Y2∧Y2≤Y∧Nat.gcd X2 Y2=g∧n=Y2)∧St B w0 60 [(5,(MgA (ay X2)).va),(6,(MgA (ay Y2)).va),(7,In (t:Nat))] [⟨2,26,ptrH,RIA (riOf p)⟩,⟨3,26,ptrH,RIA (riOf q)⟩,⟨4,26,ptrH,cat [BoA false,MgA []]⟩] a w) (Y) ?_ ?_
      ·exact ⟨Y,⟨hY0,qh _,hg2,rfl⟩,U⟩
      intro n a w hI;obtain ⟨Y2,⟨hY3,hY4,hg3,hn4⟩,U⟩:=hI;have hYM2:=qf hY4 hYM;refine qb<|qb<|zg UO [] (W6 42) WV U (zM 1 G (zQ G (lC Y2 hY3) (.o (vq 0 G)) o0)) (zz (Wf 5 6 7 43) Uk λ a w U=>?_);refine zJ 3 U G (λ hb5=>?_) (λ hb5=>?_)
      ·have hev:=ui hb5;refine qj<|aa<|qk<|zg UO [] (W6 44 [.v 6 _]) [.g 0,.g 2,.o 2] U (zM 1 G (zQ G (lB Y2 (qf (lenM hYM2 hM) zd)) (.o (vq 0 G)) (zA 1 G o0))) (zz (Wa 5 7 6) Uk λ a w U=>?_);refine al ?_;refine aa ?_;have U:=St.sel U [0,2,1];exact ⟨Y2/2,by omega,Y2/2,⟨by omega,by omega,by rw [xT];exact u5 (by rw [xT];exact hg3) hgo hev,rfl⟩,U⟩
      ·have hoY:=Fg hb5;refine qP<|ai<|ai<|az<|zt<|qb<|zg UO [] (Ww 46) WT U (zM 0 G (zM 1 G (zQ G (px _ _) (.p (vq 0 G) (vq 1 G)) (zv G (aO (vq 2 G) ab) o0)))) (zz (Wf 5 6 7 49) Uk λ a w U=>?_);refine zJ 3 U G (λ hb6=>?_) (λ hb6=>?_)
       ·have hcm:X2<Y2:=cm_lt0.1 (qu hb6);refine qb<|zg UO [] [.v 50 _,.v 8 _] WV U (zM 0 G (zA 0 G o0)) (zz (Wf 5 6 7 8) Uk ?_);refine ztA<|zgA Ul [] [.v 51 _,.v 5 _] [.g 1,.g 2,.g 3,.o 1] (zM 1 G (zA 0 G o0)) (zz (Wf 6 7 8 5) Uk ?_);refine znA<|zgA Ul [] [.v 52 _,.v 6 _] [.g 1,.g 3,.o 1] (zM 2 G (zA 0 G o0)) (zz (Wa 7 5 6) Uk ?_);refine znA<|zgA Ul [] (Wb 53 [.v 5 _]) [.g 0,.g 2,.o 3] (zM 1 G (zM 2 G (zQ G (A3 Y2 X2 (xa hcm) (qf (lenM hYM2 hM) zd)) (.p (vq 0 G) (vq 1 G)) (zA 2 G o0)))) (zz (Wa 7 6 5) Uk λ a w U=>?_);refine al ?_;refine aa ?_;have U:=St.sel U [2,1,0];exact ⟨Y2-X2+X2,by omega,Y2-X2,X2,⟨hX3,by omega,hXM2,u4 (by rw [xT];exact hg3) (xa hcm),rfl⟩,U⟩
       ·have hcm:Y2≤X2:=kW λ h=>qw hb6 (cm_lt0.2 h);refine qj<|aa<|zg UO [] (Wb 53 [.v 5 _]) [.g 1,.g 2,.o 3] U (zM 0 G (zM 1 G (zQ G (A3 X2 Y2 hcm (qf (lenM hXM2 hM) zd)) (.p (vq 0 G) (vq 1 G)) (zA 2 G o0)))) (zz (Wa 6 7 5) Uk λ a w U=>?_);refine al ?_;refine aa ?_;have U:=St.sel U [2,0,1];exact ⟨X2-Y2+Y2,by omega,X2-Y2,Y2,⟨hY3,by omega,hYM2,u4 hg3 hcm,rfl⟩,U⟩
    ·obtain rfl:=Jr hb3;rw [Nat.gcd_zero_left] at hg1;refine qP<|ai<|ai<|az<|zt<|zg [η,η,some (4,_)] [] (Ww 56 [.sto 2]) [] U (zM 1 G (zQ G ((cd false (ay Y)).post Oy) (.cons aJ (.o (vq 0 G))) (zM 2 G (zQ G ((Af ((Y:Nat):Int) t zo (lenM hYM hM) zo).wkp iY) (.p (vq 1 G) (vq 2 G)) (zS 3 G ao o0))))) (zz [] Uk λ a w U=>?_);refine aa<|qi<|am ?_ (ax G U (zm 2 G) ao);exact bf (qt Zi (by rw [hgp,← hg1];push_cast;rfl))
def ElO (T:TypeId)(A:As):VA where
 p B v w:=∃ b cs,v=ptr b∧b<B∧w.heap[b]?=some (.cells (List.toArray cs) T (0,0))∧A.p B cs w
 deps:=A.deps
 cg:=λ B v w w' hg ⟨b,cs,h1,h2,h3,h4⟩=>⟨b,cs,h1,h2,hg.heap h3,A.cg _ _ _ _ hg h4⟩
 wr:=λ B v w w' g c T' fz q1 q2 q3 q4 ⟨b,cs,h1,h2,h3,h4⟩=>⟨b,cs,h1,h2,by rw [q4.block b zo];exact h3,A.wr _ _ _ _ _ _ _ _ q1 q2 q3 q4 h4⟩
theorem sy {A:As}:Wk (ElO T A) (ElP T A):=λ B v w ⟨b,cs,h1,h2,h3,h4⟩ =>
 ⟨b,0,cs,h1,(Array.getElem?_eq_some_iff.1 h3).1,.inl h2,h4,λ j u hu=>by
  have:=iy (k:=0) h3 cs.length j u (by rw [xl,qJ];exact hu);exact this⟩
def AllG (a:Act)(w:World):List (Nat × VA)→Prop
 | []=>True
 | x::l=>x.2.p w.heap.size (a.eval (.tmp x.1)) w∧AllG a w l
theorem AllG.mem {a:Act}{w:Yi}:∀ {l:Yf},AllG a w l→∀ x∈l,x.2.p w.heap.size (a.eval (.tmp x.1)) w
 | y::l,h,x,hx=>by
  rcases qr.1 hx with rfl|hx
  ·exact h.1
  ·exact AllG.mem h.2 x hx
section
variable {P:Program}{B N:Nat}{w0:Bs}{Γ:List (Nat × VA)}{Λ:List Lc}{a:Act}{w:World}
theorem St.bw (h:St B w0 N Γ Λ a w):B≤w.heap.size:=qf (h.lo _ (.inl (qh _))) h.base.size
theorem nF {fn:Func}{R R':Ending→Yi→Prop}{e:Exit}(h:bZ P fn R e a w)(k:∀ v w',R (.returned v) w'→R' (.returned v) w'):bZ P fn R' e a w:=by
 cases e with
 | normal =>
  obtain ⟨Ds,e,nd,hD,hr⟩:=h;exact ⟨Ds,e,nd,hD,λ w' hs=>by obtain ⟨v,h1,h2⟩:=hr w' hs;exact ⟨v,h1,k v w' h2⟩⟩
 | ret =>
  obtain ⟨Ds,e,nd,hD,hr⟩:=h;exact ⟨Ds,e,nd,hD,λ w' hs=>by obtain ⟨v,h1,h2⟩:=hr w' hs;exact ⟨v,h1,k v w' h2⟩⟩
 | _=>exact h.elim
theorem Q9 {fn:Func}{c:Code}{b:Bool}(Γ':Yf)(h:St B w0 N Γ Λ a w)(hnd:w0.nd=true)(hΓ:AllG a w Γ')
  (k:∀ (B:Nat) (w1:Bs) (w:World),w1.nd=true→(∀ g,¬ w1.F g)→B=w1.w.heap.size→St B w1 N Γ' [] a w→Exit.then (λ a w=>c.wp P (bZ P fn (RQ B w1 (Bo b))) a w) (bZ P fn (RQ B w1 (Bo b))) .normal a w) :
  Exit.then (λ a w=>c.wp P (bZ P fn (RQ B w0 (Bo b))) a w) (bZ P fn (RQ B w0 (Bo b))) .normal a w:=by
 have h1:=k w.heap.size ⟨w,λ _=>False,true⟩ w rfl (λ _ h=>h) rfl ⟨λ g hg=>hg.resolve_right λ h=>h,DefOk.nil (h.defers.none hnd),h.size,Kept.refl _,hΓ.mem,(λ l hl=>by cases hl),(λ l hl=>by cases hl)⟩;refine wp_mono (c:=c) (show c.wp P _ a w from h1) λ e a' w' hp=>nF hp ?_;rintro v w2 ⟨u,hu,hp,hk⟩;exact ⟨u,hu,hp,h.base.grow ⟨hk.os,hk.tape,hk.output,hk.size,λ k hlt=>hk.block k hlt (λ h=>h)⟩⟩
end
section
variable {P:Program}{Q:Exit→Act→World→Prop}{B N:Nat}{w0:Bs}{Γ:List (Nat × VA)}{Λ:List Lc}{a:Act}{w:World}{ops:Array Oper}
theorem EI {id m:Nat}(hsz:ops.size=m+1)(h:wpOp P ops Q 0 (wpOps P ops Q (List.range' 1 m)) a w):(Code.region id ops false).wp P Q a w:=by
 refine wp_region ?_;rw [List.range_eq_range',hsz,List.range'_succ,qv];exact h
theorem ED {sp:Yu}{d0 m:Nat}{A0:VA}(src:List Src)(h:St B w0 N ((d0,A0)::Γ) Λ a w)(h0:sp[0]?=some (.v d0 A0))(hsz:ops.size=m+1)
  (hob:Obs P Q ⟨ops,N,Γ,les0 Λ,sp,λ i=>List.range i⟩ B w0 1 m) (hk:Rg.chk ⟨ops,N,Γ,les0 Λ,sp,λ i=>List.range i⟩=true) (hsrc:src.all (okS ⟨ops,N,Γ,les0 Λ,sp,λ i=>List.range i⟩)=true)
  (hQ:∀ a w,St B w0 N (src.filterMap (cA ⟨ops,N,Γ,les0 Λ,sp,λ i=>List.range i⟩)) Λ a w→Q .normal a w):wpOps P ops Q (List.range' 1 m) a w:=by
 have e:m=ops.size-1:=by omega
 subst e;exact JQ src h h0 zo hob hk hsrc hQ
end
theorem s9 {w1:Bs}{Ts:Yq}(hB:B=w1.w.heap.size):∀ E,Ts.contains E=true→eZ w1 B E:=λ E _ w g c fz _ h _=>.inl (hB▸h)
def ZBk:List As:=[NumA .i64 0,EqS (.slice none 0 0),EqS (.slice none 0 0),EqS (.slice none 0 0),EqS (.slice none 0 0),EqS (.slice none 0 0),EqS (.slice none 0 0),EqS (.slice none 0 0),EqS (.slice none 0 0),EqS (.slice none 0 0),EqS (.slice none 0 0),EqS (.slice none 0 0),EqS (.slice none 0 0),EqS (.slice none 0 0),EqS (.slice none 0 0),EqS (.slice none 0 0),EqS (.slice none 0 0)]
theorem Dl:Str Tryz.prog 59 ZBk :=
 Str.of (z:=.agg ([Value.int .i64 0]++List.replicate 16 (Value.slice none 0 0)).toArray) zk Tryz.underlying59 zk λ B w=>⟨[Value.int .i64 0]::List.replicate 16 [Value.slice none 0 0],rfl,.cons rfl (.cons ⟨rfl,rfl⟩ (.cons ⟨rfl,rfl⟩ (.cons ⟨rfl,rfl⟩ (.cons ⟨rfl,rfl⟩ (.cons ⟨rfl,rfl⟩ (.cons ⟨rfl,rfl⟩ (.cons ⟨rfl,rfl⟩ (.cons ⟨rfl,rfl⟩ (.cons ⟨rfl,rfl⟩ (.cons ⟨rfl,rfl⟩ (.cons ⟨rfl,rfl⟩ (.cons ⟨rfl,rfl⟩ (.cons ⟨rfl,rfl⟩ (.cons ⟨rfl,rfl⟩ (.cons ⟨rfl,rfl⟩ (.cons ⟨rfl,rfl⟩ .nil))))))))))))))))⟩
section
open Rg
variable {P:Program}{Q:Exit→Act→World→Prop}{R:Rg}{B i:Nat}{w0:Bs}
end
section
variable {P:Program}{R:Rg}{Q:Exit→Act→World→Prop}{B i:Nat}{w0:Bs}
end
theorem J5 {x:RF}:NewA (RFN x):=oe λ A hA=>by
 simp at hA;rcases hA with rfl|rfl <;> exact Ba _
theorem EO {x:RF}:FreeA (RFN x) (RFN x):=bI (.cons (dk _) (.cons (dk _) .nil))
theorem kbl_app {l m:KL}:kbl (l++m)=kbl l++kbl m:=vz ..
theorem Ga {x:RI}(h:(RIN x).p B cs w):okL x.mag:=by
 obtain ⟨ps,rfl,hp⟩:=h;cases hp with
 | cons h1 hp=>cases hp with
  | cons h2 hp=>exact h2.1
abbrev OkK (l:KL):Prop:=∀ p∈l,okL p.2
theorem AY {l m:KL}(h:OkK l)(k:OkK m):OkK (l++m):=λ p hp=>by
 rcases qn.1 hp with hp|hp
 ·exact h p hp
 ·exact k p hp
abbrev LnK (l:KL):Prop:=∀ p∈l,p.2.length≤2000000000000
theorem Bt {l m:KL}(h:LnK l)(k:LnK m):LnK (l++m):=λ p hp=>by
 rcases qn.1 hp with hp|hp
 ·exact h p hp
 ·exact k p hp
theorem P5 {x:RF}{m1 m2:Yo}(h1:okL x.num.mag)(h2:okL x.den.mag):OkK (kf x m1 m2):=λ p hp=>by
 simp only [qr,zF,or_false] at hp;rcases hp with rfl|rfl
 ·exact h1
 ·exact h2
theorem MI {x:RF}{m1 m2:Yo}(h:bdF x):LnK (kf x m1 m2):=λ p hp=>by
 simp only [qr,zF,or_false] at hp;rcases hp with rfl|rfl
 ·exact qf h.1 zd
 ·exact qf h.2 zd
theorem IS {l:KL}(h:OkK l)(k:LnK l):∀ p∈l,okL p.2∧p.2.length≤2000000000000:=λ p hp=>⟨h p hp,k p hp⟩
theorem nB {x:RF}(h:(RFN x).p B cs w):∃ m1 m2,(y9 x m1 m2).p B cs w∧cbl cs=kbl (kf x m1 m2)∧OkK (kf x m1 m2):=by
 obtain ⟨ps,rfl,hp⟩:=h;cases hp with
 | @cons _ c1 _ _ h1 hp=>cases hp with
  | @cons _ c2 _ _ h2 hp =>
   cases hp;obtain ⟨m1,p1,e1⟩:=pU h1;obtain ⟨m2,p2,e2⟩:=pU h2;refine ⟨m1,m2,⟨[c1,c2],rfl,.cons p1 (.cons p2 .nil)⟩,?_,P5 (Ga h1) (Ga h2)⟩;have:([c1,c2]:List (List Value)).flatten=c1++c2:=by simp
   rw [this,fG,e1,e2];exact kbl_app.symm
def nm4 (a b c d:Value):Nat→Value
 | 0=>a
 | 1=>b
 | 2=>c
 | _=>d
theorem IR:OkK []:=λ p h=>by cases h
theorem Jo:LnK []:=λ p h=>by cases h
theorem Hc:bdF rf0:=⟨zf _,zf _⟩
theorem Q0 {q:Rat}(h:¬ cZ q=true):bdF (rfOf q):=by
 have h':cZ q=false:=by cases hq:cZ q with
  | true=>exact absurd hq h
  | false=>rfl
 unfold cZ at h';simp only [List.any_cons,List.any_nil,Bool.or_false,qN] at h';have h1:=qw h'.1;have h2:=qw h'.2;refine ⟨?_,?_⟩
 ·show (riOf q.num).mag.length≤_;omega
 ·show (riOf (q.den:Int)).mag.length≤_;omega
def p4 (m:MQ)(j:Nat):Rat:=[m.a,m.b,m.c,m.d].getD j 0
def mulQ (m q:MQ):MQ:=⟨m.a*q.a+m.b*q.c,m.a*q.b+m.b*q.d,m.c*q.a+m.d*q.c,m.c*q.b+m.d*q.d⟩
theorem sub_self {A:As}:Sub A 0 A:=λ B cs w h=>by
 have hl:=A.len B cs w h;refine ⟨?_,by omega⟩;rw [xl,qD zo];exact h
def bQ (k:Nat)(r:Rat):Prop:=lz r.num≤k∧lz (r.den:Int)≤k
theorem O5 {c d:Nat}{x y:Rat}(hx:bQ c x)(hy:bQ d y):bQ (c+d) (x*y):=by
 obtain ⟨x1,x2⟩:=hx;obtain ⟨y1,y2⟩:=hy;rw [← rT];obtain ⟨h1,h2⟩:=gC (p:=x.num*y.num) (q:=(x.den:Int)*(y.den:Int)) (den_nz x y);have h4:=gX x.num y.num;have h6:=gX x.den y.den;exact ⟨by omega,by omega⟩
theorem Ph (x:Rat):x=(x.num:Rat)/((x.den:Int):Rat):=by rw [← jp];exact (kz x).symm
theorem Nk (x:Rat):((x.den:Int):Rat)≠0:=by
 have:=x.den_nz;intro h;exact this (by exact_mod_cast h)
section
variable {P:Program}{R:Rg}{Q:Exit→Act→World→Prop}{B i:Nat}{w0:Bs}
end
def EqA (v:Value):As where
 n:=1
 ag:=false
 p _ cs _:=cs=[v]∧v.oneCell'=true
 deps:=[]
 len:=by rintro B cs w ⟨rfl,_⟩;rfl
 one:=by rintro B cs w ⟨rfl,h⟩ c hc;simp at hc;subst hc;exact h
 ag1:=λ _=>rfl
 cg:=λ _ _ _ _ _ h=>h
 wr:=λ _ _ _ _ _ _ _ _ _ _ _ _ h=>h
theorem t7 (h:v.oneCell'=true):(EqA v).va.p B v w:=⟨[v],⟨rfl,h⟩,rfl⟩
theorem lh {v u:Yo}(h:(EqA v).va.p B u w):u=v:=by
 obtain ⟨cs,⟨rfl,_⟩,h2⟩:=h;exact h2
theorem St.nm {B N:Nat}(h:St B w0 N Γ Λ a w){s T:Nat}{A:As}(k:Nat)(hm:Λ[k]?=some ⟨s,T,ptrH,A⟩):∃ g,St B w0 N ((s,EqV (ptr g))::Γ) Λ a w:=by
 obtain ⟨g,cs,e,_⟩:=h.locs _ (qa hm);refine ⟨g,h.lo,h.defers,h.size,h.base,λ x hx=>?_,h.locs,h.dis⟩;rcases qr.1 hx with rfl|hx
 ·exact e
 ·exact h.vals x hx
section
variable {P:Program}{R:Rg}{Q:Exit→Act→World→Prop}{B i:Nat}{w0:Bs}
theorem Ka {xs:Ys}{vs:Ym}(hx:HasL R B w0 i xs (vs.map EqV))(av:R.Av B w0 i a w):xs.map a.eval=vs:=by
 induction vs generalizing xs with
 | nil=>cases hx;rfl
 | cons v vs ih =>
  cases hx with
  | cons h1 h2 =>
   rw [qS,ih h2];have:_=v:=h1 a w av;rw [this]
theorem LQ {f:Yn}{xs:Ys}{vs:Ym}(hx:HasL R B w0 i xs (vs.map EqV)):Wv P Q R B w0 i (.makeFunc (.func f) #[] xs.toArray) (EqA (.func (.func f) #[] vs.toArray)).va :=
 bj λ _ _ _ _ _ a w av=>by
  have e:=Ka hx av;refine ⟨.func (.func f) #[] vs.toArray,w,?_,Grow.refl w,t7 rfl⟩;simp [execOp,Instr.makeFunc,e]
end
structure RE where
 k:Int
 p:RF
 q:RF
 deriving DecidableEq
def REA (x:RE):As:=cat [NumA .u8 x.k,RFA x.p,RFA x.q]
def QEA (c:Nat)(k:Int)(p q:Rat):As:=cat [NumA .u8 k,QA c p,QA c q]
theorem fN:Str Tryz.prog 91 [NumA .u8 0,RFA rf0,RFA rf0] :=
 Str.of (z:=.agg #[.int .u8 0,.bool false,.slice none 0 0,.bool false,.slice none 0 0,.bool false,.slice none 0 0,.bool false,.slice none 0 0]) zk jo zk λ B w=>⟨[[.int .u8 0],[.bool false,.slice none 0 0,.bool false,.slice none 0 0],[.bool false,.slice none 0 0,.bool false,.slice none 0 0]],rfl,.cons rfl (.cons (eI B w) (.cons (eI B w) .nil))⟩
def elK (k ps qs:Int):Bool:=if k==1 then decide (ps≥0)&&(qs==0) else if k==2 then (qs==0) else if k==3 then decide (ps≥0)&&decide (qs>0) else if k==4 then true else ((k==5)&&(ps==0))&&(qs==0)
def elF (x:RE):Bool:=[x.p,x.q].all okX&&elK x.k (toQ x.p).num.sign (toQ x.q).num.sign
def elQ (k:Int)(p q:Rat):MQ:=if k=1 then ⟨1,p,0,1⟩ else if k=2 then ⟨1,0,0-p,1⟩ else if k=3 then ⟨1,p/q,0,1⟩ else if k=4 then ⟨1,0,0-p*q,1⟩ else ⟨0-1,0-0,0-0,0-1⟩
def elM (x:RE):MQ:=elQ x.k (toQ x.p) (toQ x.q)
def dQ (xs:List RE):MQ:=xs.foldl (λ m x=>mulQ (elM x) m) ⟨1,0,0,1⟩
def chF (xs:List RE):Int:=if xs.length>4096 then 4 else if xs.all elF then 0 else 1
theorem GO {x:RE}(h:(![x.p,x.q].all okX)=true):elF x=false:=by rw [qz] at h;rw [elF,h];rfl
theorem GN {x:RE}(h:(![x.p,x.q].all okX)=false):[x.p,x.q].all okX=true∧elF x=elK x.k (toQ x.p).num.sign (toQ x.q).num.sign:=by rw [jM] at h;exact ⟨h,by rw [elF,h];rfl⟩
theorem el_q {x:RE}(h:[x.p,x.q].all okX=true):WkA (REA x) (QEA 2048 x.k (toQ x.p) (toQ x.q)):=by
 simp only [jf,jt,jg,qo] at h;exact bi (.cons (WkA.refl _) (.cons (qa_x h.1 (qh _)) (.cons (qa_x h.2 (qh _)) .nil)))
theorem FW (x:RE):UpA (REA x) (REA x):=iz (.cons (mX _ _) (.cons (gH _) (.cons (gH _) .nil)))
theorem kd1 {k ps qs:Int}(h:(k==1)=true):elK k ps qs=(decide (ps≥0)&&(qs==0)):=by rw [elK,h];rfl
theorem kd2 {k ps qs:Int}(h1:(k==1)=false)(h:(k==2)=true):elK k ps qs=(qs==0):=by rw [elK,h1,h];rfl
theorem kd3 {k ps qs:Int}(h1:(k==1)=false)(h2:(k==2)=false)(h:(k==3)=true):elK k ps qs=(decide (ps≥0)&&decide (qs>0)):=by rw [elK,h1,h2,h];rfl
theorem kd4 {k ps qs:Int}(h1:(k==1)=false)(h2:(k==2)=false)(h3:(k==3)=false)(h:(k==4)=true):elK k ps qs=true:=by rw [elK,h1,h2,h3,h];rfl
theorem kd5 {k ps qs:Int}(h1:(k==1)=false)(h2:(k==2)=false)(h3:(k==3)=false)(h4:(k==4)=false):elK k ps qs=(((k==5)&&(ps==0))&&(qs==0)):=by rw [elK,h1,h2,h3,h4];rfl
theorem Kb (x:RE):Cn Tryz.prog 133 [(REA x).va] (Bo (elF x)):=by
 refine Cn.intro Tryz.func133 G zk nq (zy [(0,(REA x).va)] λ B w0 a U=>?_);refine qb<|zg [] [zpL 1 91 0 _] Us Ut U (zW 0 G (zE G aJ)) (zz Uu Rx ?_);refine ztA<|zsA<|zgA U1 [] (.adr 5 1 (.some 1) True::.v 6 _::.adr 7 1 (.some 5) True::(Ww 8)) [.g 0,.o 6] (zO 0 G c6 (zL 0 0 1 G au (zO 0 G cu (zL 2 0 2 G au (zv G (bW (D:=[U32]) (l:=[_,_]) (xs:=[.tmp 6,.tmp 8]) (dh zk) db zk (n_ok zk) nq nq nq (.p (vq 1 G) (vq 3 G)) G G) (zQ G (Fv [x.p,x.q] nq) (.o (vq 4 G)) (zv G (er (vq 5 G)) o0))))))) (zz (Wc 2 11) Rx λ a w U=>?_);refine zJ 1 U G (λ hb0=>?_) (λ hb0=>?_)
 ·refine qb<|zg U3 [] Ux WZ U (zE G aJ) (zz Uu Rx λ a w U=>?_);refine aa<|qi<|aj ?_;refine am ?_ (ak G U (zm 0 G));rw [GO hb0];exact aM
 ·obtain ⟨hx,he⟩:=GN hb0;have U:=St.wkL U 0 rfl (el_q hx);refine qj<|zt<|zgd Rq U1 [] (.adr 12 1 (.some 1) True::(W6 13 (.adr 15 1 (.some 5) True::(W6 16 (W6 3))))) [.g 0,.o 6,.o 7] ac U (zO 0 G c6 (zL 0 0 1 G au (zQ G sign_q (.o (vq 1 G)) (zO 0 G cu (zL 3 0 2 G au (zQ G sign_q (.o (vq 4 G)) (zA 2 G (zA 5 G o0)))))))) zk zk zk zk (zz (Wa 2 3 4) Rx ?_);refine ztA<|zsA<|zgA U1 [] [.adr 18 1 (.some 0) True,.v 19 _] WV (zO 0 G ei (zL 0 0 0 G pi o0)) (zz (Wf 2 3 4 19) Rx λ a w U=>?_);refine aa<|qk<|qb<|zg U3 [] [.v 21 _,.v 20 _] UW U (zv G (bF (gq 3 G) ab) (zA 0 G o0)) (zz (W8 2 3 4 19 20) Rx λ a w U=>?_);refine zJ 4 U G (λ hb1=>?_) (λ hb1=>?_)
  ·refine qb<|zg U3 [] (Wb 22 [.t 25 _,.t 26 _,.v 27 _,.v 2 _]) [.g 1,.g 2,.o 6] U (zM 1 G (zv G (dD (vq 0 G) ab) (zV 1 G (zB 2 G (λ hg=>aA (gq 2 G)) (zB 2 G (λ hg=>bF (ae (vq 3 G) hg) ab) (zv G (bE (vq 2 G) (vq 4 G)) (zA 5 G o0))))))) (zz (Wa 3 4 2) Rx λ a w U=>?_);refine aa<|qi<|aD ?_;refine aj ?_;refine am ?_ (ak G U (zm 2 G));rw [he,kd1 hb1];exact aM
  ·refine qb<|zg U3 [] [.v 29 _,.v 28 _] UW U (zv G (bF (gq 3 G) ab) (zA 0 G o0)) (zz (W8 2 3 4 19 28) Rx λ a w U=>?_);refine zJ 4 U G (λ hb2=>?_) (λ hb2=>?_)
   ·refine qb<|zg U3 [] (W6 30 [.v 2 _]) WO U (zM 2 G (zv G (bF (vq 0 G) ab) (zA 1 G o0))) (zz (Wa 3 4 2) Rx λ a w U=>?_);refine aa<|qi<|aD ?_;refine aj ?_;refine am ?_ (ak G U (zm 2 G));rw [he,kd2 hb1 hb2];exact aM
   ·refine qb<|zg U3 [] [.v 33 _,.v 32 _] UW U (zv G (bF (gq 3 G) ab) (zA 0 G o0)) (zz (W8 2 3 4 19 32) Rx λ a w U=>?_);refine zJ 4 U G (λ hb3=>?_) (λ hb3=>?_)
    ·refine qb<|zg U3 [] (Wb 34 [.t 37 _,.t 38 _,.v 39 _,.v 2 _]) [.g 1,.g 2,.o 6] U (zM 1 G (zv G (dD (vq 0 G) ab) (zV 1 G (zB 2 G (λ hg=>aA (gq 2 G)) (zB 2 G (λ hg=>cD (ae (vq 3 G) hg) ab) (zv G (bE (vq 2 G) (vq 4 G)) (zA 5 G o0))))))) (zz (Wa 3 4 2) Rx λ a w U=>?_);refine aa<|qi<|aD ?_;refine aj ?_;refine am ?_ (ak G U (zm 2 G));rw [he,kd3 hb1 hb2 hb3];exact aM
    ·refine qb<|zg U3 [] [.v 41 _,.v 40 _] WV U (zv G (bF (gq 3 G) ab) (zA 0 G o0)) (zz (Wf 2 3 4 40) Rx λ a w U=>?_);refine zJ 3 U G (λ hb4=>?_) (λ hb4=>?_)
     ·refine qb<|zg U3 [] Ux [.g 1,.g 2,.o 0] U (zE G aJ) (zz (Wa 3 4 2) Rx λ a w U=>?_);refine aa<|qi<|aD ?_;refine aj ?_;refine am ?_ (ak G U (zm 2 G));rw [he,kd4 hb1 hb2 hb3 hb4];exact aM
     ·refine qj<|al ?_;refine zt<|zg U3 [] (.adr 42 1 (.some 0) True::(Wb 43 (.t 46 _::.t 47 _::(W6 48 [.t 50 _,.t 51 _,.v 52 _,.v 2 _])))) [.o 11] U (zO 0 G ei (zL 0 0 0 G pi (zv G (bF (vq 1 G) ab) (zV 2 G (zB 3 G (λ hg=>aA (gq 1 G)) (zB 3 G (λ hg=>bF (ae (vq 4 G) hg) ab) (zv G (bE (vq 3 G) (vq 5 G)) (zV 6 G (zB 7 G (λ hg=>aA (gq 2 G)) (zB 7 G (λ hg=>bF (ae (vq 8 G) hg) ab) (zv G (bE (vq 7 G) (vq 9 G)) (zA 10 G o0)))))))))))) (zz Uu Rx λ a w U=>?_);refine aa<|qi<|am ?_ (ak G U (zm 0 G));rw [he,kd5 hb1 hb2 hb3 hb4];exact aM
theorem mK {α:Type}{p:α→Bool}{l:List α}{j:Nat}(h:j<l.length)(h2:p l[j]=false):l.all p=false:=wc.2 ⟨_,qg h,by simp [h2]⟩
theorem mL {α:Type}{p:α→Bool}{l:List α}{j:Nat}(h:j<l.length)(h1:(l.take j).all p=true)(h2:p l[j]=true):(l.take (j+1)).all p=true:=by
 rw [qA h,wv,h1];simp [h2]
theorem y7 (xs:List RE):Cn Tryz.prog 37 [(SlA 91 [U32] (xs.map REA)).va] (In (chF xs)):=by
 refine Cn.introW Tryz.func37 rfl zk nq (.cons (iG (λ A hA=>by obtain ⟨x,_,rfl⟩:=qp.1 hA;exact FW x)).va .nil) (cq _ _).va (λ B w0 a hB0 U=>?_);have U:=zn [(0,(SlO 91 [U32] (xs.map REA) True).va)] [] U;have hl:=I0 (U.vals (0,(SlO 91 [U32] (xs.map REA) True).va) (zm 0 rfl));rw [qd] at hl;refine qb<|zh Ux UZ U (zE G ab) (zz R1 [] ?_);refine ztA<|zsA<|zhA (Wb 5) WY (zM 0 G (zv G (bn jS (bu (aB (vq 0 G)))) (zv G (cD (vq 1 G) ab) o0))) (zz (Wa 0 2 7) [] λ a w U=>?_);refine zJ 2 U G (λ hb0=>?_) (λ hb0=>?_)
 ·have hbig:xs.length>4096:=by rw [qd] at hb0;have:=qu hb0;omega
  refine qb<|zh Ux UZ U (zE G ab) (zz R1 [] λ a w U=>?_);refine aa<|qi<|aj ?_;refine am ?_ (ak G U (zm 1 G));rw [chF,qC hbig];exact aM
 ·have hbig:¬ xs.length>4096:=by rw [qd] at hb0;have:=qw hb0;omega
  refine qj<|zt<|qb<|zh (Wb 8) Un U (zM 0 G (zv G (bn jS (bu (aB (vq 0 G)))) (zv G (aA ab) o0))) (zz (Wf 2 8 9 10) [] λ a w U=>?_);refine aa<|qk ?_;have U:=St.sel U [1,2,3];refine wp_loop_ghost (λ n a w=>∃ j:Nat,(n+j=xs.length∧(xs.take j).all elF=true)∧St B w0 18 [(8,(SlO 91 [U32] (xs.map REA) True).va),(9,In (xs.length:Nat)),(10,In (j:Nat))] [] a w) (xs.length) ?_ ?_
  ·exact ⟨0,⟨by omega,rfl⟩,by rw [qd] at U;exact U⟩
  intro n a w hI;obtain ⟨j,⟨hn,hno⟩,U⟩:=hI;refine qb<|zh [.v 11 _] WX U (zv G (aO (gq 2 G) (gq 1 G)) o0) (zz (Wf 8 9 10 11) [] λ a w U=>?_);refine zt<|c7 U (zm 3 G) (λ hb1=>?_) (λ hb1=>?_)
  ·have hj:j<xs.length:=by simp at hb1;omega
   refine qj<|zt<|qk<|qb<|zg [] [⟨4,91,ptrH,some 2,_,some (3,_)⟩] (W6 12 [.alc 0,.sto 0]) W7 U (zv G (bM yH (cc λ _=>rfl) (bu (aB (gq 0 G))) (gq 2 G) (bG hj)) (zv G (ap (vq 0 G) gf) (zY G (Str.zero fN) (zS 1 G gf o0)))) (zz (Wa 8 9 10) [O 4 91 _] ?_);refine ztA<|zgA U1 [] (Wb 14) UD (zl 0 G gf (zQ G (Kb _) (.o (vq 0 G)) (zv G (er (vq 1 G)) o0))) (zz (Wf 8 9 10 16) [O 4 91 _] λ a w U=>?_);refine zJ 3 U G (λ hb2=>?_) (λ hb2=>?_)
   ·refine qb<|zg U3 [] Ux WX U (zE G ab) (zz (Wf 8 9 10 2) [O 4 91 _] λ a w U=>?_);refine aa<|qi<|aD ?_;refine aj ?_;refine aj ?_;refine aD ?_;refine aj ?_;refine am ?_ (ak G U (zm 3 G));rw [chF,qy hbig,mK hj (by simpa using hb2)];exact aM
   ·refine qj<|al ?_;refine aa<|zg U3 [] [.v 17 _,.v 10 _] UF U (zv G (aL (gq 2 G) ab ((wi64 zo zo).trans (by omega:(_:Int)=((j+1:Nat):Int)))) (zV 0 G o0)) (zz (Wa 8 9 10) [O 4 91 _] λ a w U=>?_);refine aa ?_;have U:=St.sel U [0,1,2];have U:=St.selL U [];exact ⟨n-1,by omega,j+1,⟨by omega,mL hj hno (by simpa using hb2)⟩,U⟩
  ·obtain rfl:j=xs.length:=by simp at hb1;omega
   refine qP<|ai<|ai<|az<|zt<|zh Ux WZ U (zE G ab) (zz Uu [] λ a w U=>?_);refine aa<|qi<|am ?_ (ak G U (zm 0 G));rw [qJ] at hno;rw [chF,qy hbig,hno];exact aM
def RepM (b:Nat)(m:MQ):Prop:=∃ n1 n2 n3 n4 D:Int,D≠0∧m.a=(n1:Rat)/(D:Rat)∧m.b=(n2:Rat)/(D:Rat)∧m.c=(n3:Rat)/(D:Rat)∧m.d=(n4:Rat)/(D:Rat)∧lz n1≤b∧lz n2≤b∧lz n3≤b∧lz n4≤b∧lz D≤b
theorem A9 {b:Nat}{m:MQ}(h:RepM b m):bQ b m.a∧bQ b m.b∧bQ b m.c∧bQ b m.d:=by
 obtain ⟨n1,n2,n3,n4,D,hD,e1,e2,e3,e4,h1,h2,h3,h4,h5⟩:=h;rw [e1,e2,e3,e4,← jp,← jp,← jp,← jp];obtain ⟨a1,a2⟩:=gC (p:=n1) hD;obtain ⟨b1,b2⟩:=gC (p:=n2) hD;obtain ⟨c1,c2⟩:=gC (p:=n3) hD;obtain ⟨d1,d2⟩:=gC (p:=n4) hD;exact ⟨⟨by omega,by omega⟩,⟨by omega,by omega⟩,⟨by omega,by omega⟩,⟨by omega,by omega⟩⟩
theorem og {a b c d D E:Rat}(hD:D≠0)(hE:E≠0):a/D*(c/E)+b/D*(d/E)=(a*c+b*d)/(D*E):=by grind
theorem tK {c d:Nat}{a b x y:Int}(ha:lz a≤c)(hb:lz b≤c)(hx:lz x≤d)(hy:lz y≤d):lz (a*x+b*y)≤c+d+1:=by
 have h1:=pM (a*x) (b*y);have h2:=gX a x;have h3:=gX b y;omega
theorem A8 {c d:Nat}{m q:MQ}(hm:RepM c m)(hq:RepM d q):RepM (c+d+1) (mulQ m q):=by
 obtain ⟨n1,n2,n3,n4,D,hD,e1,e2,e3,e4,h1,h2,h3,h4,h5⟩:=hm;obtain ⟨k1,k2,k3,k4,E,hE,f1,f2,f3,f4,g1,g2,g3,g4,g5⟩:=hq;have hDr:(D:Rat)≠0:=λ e=>hD (by exact_mod_cast e);have hEr:(E:Rat)≠0:=λ e=>hE (by exact_mod_cast e);refine ⟨n1*k1+n2*k3,n1*k2+n2*k4,n3*k1+n4*k3,n3*k2+n4*k4,D*E,k7 hD hE,?_,?_,?_,?_,tK h1 h2 g1 g3,tK h1 h2 g2 g4,tK h3 h4 g1 g3,tK h3 h4 g2 g4,?_⟩
 ·simp only [mulQ,e1,e2,f1,f3,j6,j5];exact og hDr hEr
 ·simp only [mulQ,e1,e2,f2,f4,j6,j5];exact og hDr hEr
 ·simp only [mulQ,e3,e4,f1,f3,j6,j5];exact og hDr hEr
 ·simp only [mulQ,e3,e4,f2,f4,j6,j5];exact og hDr hEr
 ·have:=gX D E;omega
theorem tr {b:Nat}{m:MQ}(n1 n2 n3 n4 D:Int)(hD:D≠0)(e1:m.a*(D:Rat)=(n1:Rat))(e2:m.b*(D:Rat)=(n2:Rat))(e3:m.c*(D:Rat)=(n3:Rat))(e4:m.d*(D:Rat)=(n4:Rat))(h1:lz n1≤b)(h2:lz n2≤b)(h3:lz n3≤b)(h4:lz n4≤b)(h5:lz D≤b):RepM b m:=by
 have hDr:(D:Rat)≠0:=λ e=>hD (by exact_mod_cast e);have key:∀ {x:Rat}{n:Int},x*(D:Rat)=(n:Rat)→x=(n:Rat)/(D:Rat):=λ h=>by rw [← h];exact (Rat.mul_div_cancel hDr).symm
 exact ⟨n1,n2,n3,n4,D,hD,key e1,key e2,key e3,key e4,h1,h2,h3,h4,h5⟩
theorem Cw (x:Rat):x*((x.den:Int):Rat)=(x.num:Rat):=by
 have:=Ph x;have hd:=Nk x;generalize ((x.den:Int):Rat)=d at *;generalize (x.num:Rat)=n at *
 grind
theorem lz_0:lz 0=0:=by kernel_rfl
theorem ol:lz 1≤1:=ju zk
theorem LF {k:Nat}{x:Rat}(h:bQ k x):RepM k ⟨1,x,0,1⟩:=tr (x.den:Int) x.num 0 (x.den:Int) (x.den:Int) (by have:=x.den_pos;omega) (jU _) (Cw x) (vp _) (jU _) h.2 h.1 (by rw [lz_0];omega) h.2 h.2
theorem LE {k:Nat}{x:Rat}(h:bQ k x):RepM k ⟨1,0,x,1⟩:=tr (x.den:Int) 0 x.num (x.den:Int) (x.den:Int) (by have:=x.den_pos;omega) (jU _) (vp _) (Cw x) (jU _) h.2 (by rw [lz_0];omega) h.1 h.2 h.2
theorem OD:RepM 1 ⟨1,0,0,1⟩:=tr 1 0 0 1 1 zd (by grind) (by grind) (by grind) (by grind) ol (by rw [lz_0];omega) (by rw [lz_0];omega) ol ol
theorem OC:RepM 1 ⟨0-1,0-0,0-0,0-1⟩:=tr (-1) 0 0 (-1) 1 zd (by grind) (by grind) (by grind) (by grind) nq (by rw [lz_0];omega) (by rw [lz_0];omega) nq ol
theorem gS {b c:Nat}{m:MQ}(h:RepM b m)(hc:b≤c):RepM c m:=by
 obtain ⟨n1,n2,n3,n4,D,hD,e1,e2,e3,e4,h1,h2,h3,h4,h5⟩:=h;exact ⟨n1,n2,n3,n4,D,hD,e1,e2,e3,e4,by omega,by omega,by omega,by omega,by omega⟩
theorem Hf {k:Nat}{x:Rat}(h:bQ k x):bQ k (0-x):=by
 have e:0-x = -x:=by grind
 rw [e];exact ⟨by rw [vB,lf];exact h.1,by rw [vC];exact h.2⟩
theorem O6 {c d:Nat}{x y:Rat}(hx:bQ c x)(hy:bQ d y)(h0:y≠0):bQ (c+d) (x/y):=by
 rw [← rU];obtain ⟨h1,h2⟩:=gC (p:=x.num*(y.den:Int)) (B6 x h0);have h3:=gX x.num (y.den:Int);have h4:=gX (x.den:Int) y.num;obtain ⟨x1,x2⟩:=hx;obtain ⟨y1,y2⟩:=hy;exact ⟨by omega,by omega⟩
theorem Gn {x:RF}(h:okX x=true):bQ 2048 (toQ x):=(Mh h).2
theorem iq {x:RE}(h:elF x=true):[x.p,x.q].all okX=true∧(x.k=1∨x.k=2∨(x.k=3∧toQ x.q≠0)∨x.k=4∨x.k=5):=by
 unfold elF at h;rw [qo] at h;refine ⟨h.1,?_⟩;have h2:=h.2;by_cases h1:x.k=1
 ·exact .inl h1
 ·by_cases h3:x.k=2
  ·exact .inr (.inl h3)
  ·by_cases h4:x.k=3
   ·rw [kd3 (by simpa using h1) (by simpa using h3) (by simpa using h4),qo] at h2;refine .inr (.inr (.inl ⟨h4,λ e=>?_⟩));rw [e] at h2;have:=qu h2.2;exact absurd this zd
   ·by_cases h5:x.k=4
    ·exact .inr (.inr (.inr (.inl h5)))
    ·rw [kd5 (by simpa using h1) (by simpa using h3) (by simpa using h4) (by simpa using h5)] at h2;simp only [qo,xr] at h2;exact .inr (.inr (.inr (.inr h2.1.1)))
theorem GM {x:RE}(h:elF x=true):RepM 4096 (elM x):=by
 obtain ⟨hx,hk⟩:=iq h;simp only [jf,jt,jg,qo] at hx;have bp:=Gn hx.1;have bq:=Gn hx.2;unfold elM;rcases hk with hk|hk|⟨hk,h0⟩|hk|hk <;> rw [hk]
 ·exact gS (LF bp) zd
 ·exact gS (LE (Hf bp)) zd
 ·exact LF (O6 bp bq h0)
 ·exact LE (Hf (O5 bp bq))
 ·exact gS OC zd
theorem AE {xs:List RE}{j:Nat}(h:j<xs.length):dQ (xs.take (j+1))=mulQ (elM xs[j]) (dQ (xs.take j)):=by
 rw [qA h];unfold dQ;rw [wb]
 rfl
theorem nX {xs:List RE}(h:xs.all elF=true):∀ j,j≤xs.length→RepM (1+4097*j) (dQ (xs.take j))
 | 0,_=>OD
 | j+1,hj=>by
  rw [AE zo];exact gS (A8 (GM (qe.1 h _ (qg zo))) (nX h j zo)) zo
theorem E2 {k k':Nat}{x:Rat}(h:bQ k' x):WkA (QA k x) (QA k' x):=qaA.trans (E1 h.1 h.2)
theorem PO {xs:List RE}(h:chF xs=0):xs.length≤4096∧xs.all elF=true:=by
 unfold chF at h;by_cases h1:xs.length>4096
 ·rw [qC h1] at h;exact absurd h zd
 ·rw [qy h1] at h;cases h2:xs.all elF with
  | true=>exact ⟨by omega,rfl⟩
  | false=>rw [h2] at h;exact absurd h zd
theorem FI:∃ it z,Tryz.prog.info? 91=some it∧it.zero=some z∧it.size=9∧it.bytes=136∧z.cells.size=9:=by
 have h:((Tryz.prog.info? 91).bind λ it=>it.zero.map λ z=>(it.size,it.bytes,z.cells.size))=some (9,136,9):=by kernel_rfl
 cases hi:Tryz.prog.info? 91 with
 | none=>rw [hi] at h;simp at h
 | some it =>
  rw [hi] at h;cases hz:it.zero with
  | none=>simp [hz] at h
  | some z =>
   simp [hz] at h;exact ⟨it,z,rfl,hz,h.1,h.2.1,h.2.2⟩
open Go.ChangeShapes Go.WideShapes Go.ChangeAt
theorem FN {α β:Type}{R':α→β→Prop}{l1 l2:List α}{m1 m2:List β}(h:All2 R' l1 m1)(h':All2 R' l2 m2):All2 R' (l1++l2) (m1++m2):=by
 induction h with
 | nil=>exact h'
 | cons h1 _ ih=>exact .cons h1 ih
theorem Kt {l l':Yb}{ds ds':Ym}(h:(cat l).p B ds w)(h':(cat l').p B ds' w):(cat (l++l')).p B (ds++ds') w:=by
 obtain ⟨ps,rfl,h1⟩:=h;obtain ⟨ps',rfl,h2⟩:=h';exact ⟨ps++ps',by simp,FN h1 h2⟩
theorem Fy {A:As}{ds:Ym}(h:A.p B ds w):(cat [A]).p B ds w:=⟨[ds],by simp,.cons h .nil⟩
section
variable {H:Type}{enc:TypeId × Value→H}{w:World}{base:Nat}{spare:Nat→Bool}{held:Bool}{fuel:Nat}{cs:List Value}{x:DataW H × List MemPlace}
end
open Go.ChangeShapes Go.WideShapes Go.ChangeAt
theorem s0 {A:As}(h:(A.deps.all λ T=>D.contains T)=true):∀ T∈A.deps,T∈D:=λ T hT=>by
 have:=qe.1 h T hT;simpa using this
theorem mF {A0 A1 A2:As}(h0:A0.p B ((cs.drop 0).take A0.n) w)(h1:A1.p B ((cs.drop A0.n).take A1.n) w)(h2:A2.p B ((cs.drop (A0.n+A1.n)).take A2.n) w)(hl:cs.length=A0.n+(A1.n+A2.n)):(cat [A0,A1,A2]).p B cs w :=
 CH (by simpa using hl) λ k A hk=>by
  match k,hk with
  | 0,hk=>simp at hk;subst hk;exact h0
  | 1,hk=>simp at hk;subst hk;simpa [offs] using h1
  | 2,hk=>simp at hk;subst hk;simpa [offs] using h2
section
variable {H:Type}{enc:TypeId × Value→H}{w:World}{base:Nat}{spare:Nat→Bool}{held:Bool}{fuel:Nat}{cs:List Value}{x:DataW H × List MemPlace}
end
def NewR (b:Nat)(E:TypeId)(l:List As):VA where
 p B v w:=∃ g ds,v=.slice (some ⟨g,0,none⟩) l.length l.length∧b≤g∧w.heap[g]?=some (.cells (List.toArray ds) E (0,0))∧(cat l).p B ds w
 deps:=E::(cat l).deps
 cg:=by
  rintro B v w w' hg ⟨g,ds,e,h1,h2,h3⟩;exact ⟨g,ds,e,h1,hg.heap h2,(cat l).cg _ _ _ _ hg h3⟩
 wr:=by
  rintro B v w w' g c T fz hgc hT hB hW ⟨g0,ds,e,h1,h2,h3⟩;simp only [qr,not_or] at hT;have n1:g0≠g:=by
   rintro rfl;rw [hgc] at h2;injection h2 with h2;injection h2 with _ h2 _;exact hT.1 h2
  exact ⟨g0,ds,e,h1,by rw [hW.block g0 n1];exact h2,(cat l).wr _ _ _ _ _ _ _ _ hgc hT.2 hB hW h3⟩
def NewB (E:TypeId)(l:List As):VA where
 p B v w:=(NewR B E l).p B v w
 deps:=E::(cat l).deps
 cg:=λ B v w w'=>(NewR B E l).cg B v w w'
 wr:=λ B v w w' g c T fz=>(NewR B E l).wr B v w w' g c T fz
theorem St.toLoc {B N:Nat}(h:St B w0 N Γ Λ a w){s:Nat}{E:Yh}{l:Yb}(k:Nat)(hm:Γ[k]?=some (s,NewR w0.w.heap.size E l))(hT:Λ.all (λ l'=>l'.T != E)=true):
  St B w0 N (Γ.eraseIdx k) (Λ++[⟨s,E,slH l.length l.length,cat l⟩]) a w:=by
 obtain ⟨g,ds,e,h1,h2,h3⟩:=h.vals _ (qa hm);have hblk:blk (a.eval (.tmp s))=some g:=by
  have e':a.eval (.tmp s)=.slice (some ⟨g,0,none⟩) l.length l.length:=e;rw [e'];rfl
 have hdiff:∀ l'∈Λ,blk (a.eval (.tmp l'.s))≠some g:=λ l' hl' hb=>by
  obtain ⟨g',cs,f1,f2,f3,f4⟩:=h.locs l' hl';have:g'=g:=by rw [f1,l'.H.ok] at hb;injection hb
  subst this;rw [h2] at f3;injection f3 with f3;injection f3 with _ f3 _;have:=qe.1 hT l' hl';simp only [bne_iff_ne] at this;exact this f3.symm
 refine ⟨h.lo,h.defers,h.size,h.base,λ x hx=>h.vals x (xG hx),λ l' hl'=>?_,λ l' hl' m' hm' hne=>?_⟩
 ·rcases qn.1 hl' with hl' | hl'
  ·exact h.locs l' hl'
  ·obtain rfl:=ql.1 hl';exact ⟨g,ds,e,.inl h1,h2,h3⟩
 ·rcases qn.1 hl' with hl' | hl' <;> rcases qn.1 hm' with hm' | hm'
  ·exact h.dis l' hl' m' hm' hne
  ·obtain rfl:=ql.1 hm';show blk (a.eval (.tmp l'.s))≠blk (a.eval (.tmp s));rw [hblk];exact hdiff l' hl'
  ·obtain rfl:=ql.1 hl';show blk (a.eval (.tmp s))≠blk (a.eval (.tmp m'.s));rw [hblk];exact λ e=>hdiff m' hm' e.symm
  ·obtain rfl:=ql.1 hl';obtain rfl:=ql.1 hm';exact absurd G hne
theorem CF {l:Yb}{m B:Nat}{ds:Ym}(hm:∀ A∈l,A.n=m)(h:(cat l).p B ds w):∀ k,(cat (l.take k)).p B (ds.take (k*m)) w∧(cat (l.drop k)).p B (ds.drop (k*m)) w:=by
 obtain ⟨ps,rfl,h⟩:=h
 induction h with
 | nil=>intro k;simp only [vg,List.drop_nil,List.flatten_nil];exact ⟨⟨[],rfl,.nil⟩,⟨[],rfl,.nil⟩⟩
 | @cons A c ls bs h1 h2 ih =>
  intro k;cases k with
  | zero =>
   simp only [kc,x9,xl];exact ⟨⟨[],rfl,.nil⟩,⟨c::bs,rfl,.cons h1 h2⟩⟩
  | succ k =>
   obtain ⟨i1,i2⟩:=ih (λ A' hA=>hm A' (zi _ hA)) k;have hl:c.length=m:=(A.len _ _ _ h1).trans (hm A (by simp));have e1:(c::bs).flatten.take ((k+1)*m)=c++bs.flatten.take (k*m):=by
    rw [zZ,kX,qD (by rw [hl,xS];omega),hl]
    congr 2
    rw [xS];omega
   have e2:(c::bs).flatten.drop ((k+1)*m)=bs.flatten.drop (k*m):=by
    rw [zZ,wj,zq (by rw [hl,xS];omega),xw,hl]
    congr 1
    rw [xS];omega
   rw [e1,e2,kh,List.drop_succ_cons];refine ⟨?_,i2⟩;obtain ⟨qs,e,hq⟩:=i1;exact ⟨c::qs,by rw [zZ,← e],.cons h1 hq⟩
section
variable {P:Program}{R:Rg}{Q:Exit→Act→World→Prop}{B i:Nat}{w0:Bs}
theorem DU {S E:Yh}{l:Yb}{m:Nat}{xs:Ys}(hS:Sl P S E m)(hz:((P.info? E).bind (·.zero)).isSome=true)(hm:∀ A∈l,A.n=m)(hm0:0<m)(hl0:0<l.length)(hsmall:l.length*m≤16777216)
  (hx:All2 (λ (A:As) x=>Has R B w0 i x A.va) l xs) {ps':Array (Nat × Operand)} (hps:ps'.toList=(xs.zipIdx 0).map λ x=>(x.2,x.1)) {n:Nat} (hn:n=l.length):Wv P Q R B w0 i (.buildSlice S n ps') (NewR w0.w.heap.size E l) :=
 bj λ d T ps af gd a w av=>by
  subst hn;obtain ⟨hs1,hs2⟩:=hS;cases hi:P.info? E with
  | none=>rw [hi] at hs2;simp at hs2
  | some it =>
   rw [hi] at hs2 hz;have hsz:it.size=m:=by simpa using hs2
   obtain ⟨z,hzz⟩:=vc.1 hz;simp only [we] at hzz;have hvs:All2 (λ (A:As) v=>A.va.p B v w) l (xs.map a.eval):=by
    clear hps hm hl0 hsmall
    induction hx with
    | nil=>exact .nil
    | cons h _ ih=>exact .cons (h a w av) ih
   have hlen:=hvs.length;have hvn:∀ v∈xs.map a.eval,v.cells.size=m:=by
    intro v hv;obtain ⟨k,hk⟩:=List.getElem?_of_mem hv;have hkl:k<l.length:=by rw [hlen];exact (List.getElem?_eq_some_iff.1 hk).1
    obtain ⟨v',hv',cs,hp,he⟩:=hvs.get (List.getElem?_eq_getElem hkl);rw [hk] at hv';injection hv' with hv';subst hv';rw [he,As.cells_shape _ hp];have:=As.len _ _ _ _ hp;simp [this];exact hm _ (by simp)
   have hf:=Great.fill_whole hm0 (xs.map a.eval) ((Array.range (l.length*m)).map (z.cells[· % z.cells.size]!)) hvn (by simp [hlen]);have hrun:=run_buildSlice (P:=P) w S E l.length (ps'.map λ x=>(x.1,a.eval x.2)) ((xs.map a.eval).flatMap λ v=>v.cells.toList).toArray it z hs1 hi hzz (by rw [hsz];omega) (by rw [hsz];exact Nat.ne_of_gt (jz hl0 hm0)) (by
    rw [hsz,← hf]
    congr 1
    rw [wn,hps];simp [wt,xq,Function.comp_def])
   refine ⟨.slice (some ⟨w.heap.size,0,none⟩) l.length l.length,w.alloc (.cells ((xs.map a.eval).flatMap λ v=>v.cells.toList).toArray E),?_,Grow.alloc _ _,w.heap.size,_,rfl,av.base.size,heap_alloc_new w _,(cat l).grow _ _ _ _ (Grow.alloc _ _) (nC hvs)⟩;simp [execOp,hrun]
end
def TwK (g c:Nat)(E:TypeId)(m:Nat)(D:List TypeId)(l:List As)(x:As):VA where
 p B v w:=v=.slice (some ⟨g,0,none⟩) l.length c∧B≤g∧(OwnR 0 E m D (l++[x])).p B (.slice (some ⟨g,0,none⟩) (l.length+1) c) w
 deps:=E::D
 cg:=λ B v w w' hg h=>⟨h.1,h.2.1,(OwnR 0 E m D (l++[x])).cg _ _ _ _ hg h.2.2⟩
 wr:=λ B v w w' g c T fz h1 h2 h3 h4 h=>⟨h.1,h.2.1,(OwnR 0 E m D (l++[x])).wr _ _ _ _ _ _ _ _ h1 h2 h3 h4 h.2.2⟩
def TwS (E:TypeId)(m:Nat)(D:List TypeId)(l:List As)(x:As):VA where
 p B v w:=∃ g c,(TwK g c E m D l x).p B v w
 deps:=E::D
 cg:=λ B v w w' hg ⟨g,c,h⟩=>⟨g,c,(TwK g c E m D l x).cg _ _ _ _ hg h⟩
 wr:=λ B v w w' g c T fz h1 h2 h3 h4 ⟨g',c',h⟩=>⟨g',c',(TwK g' c' E m D l x).wr _ _ _ _ _ _ _ _ h1 h2 h3 h4 h⟩
theorem ES {l:Yb}{B B':Nat}(hB:B'≤B)(hl:∀ A∈l,FreeA A A){ds:Ym}(h:(cat l).p B ds w):(cat l).p B' ds w:=by
 obtain ⟨ps,rfl,h⟩:=h;refine ⟨ps,rfl,?_⟩
 induction h with
 | nil=>exact .nil
 | cons h _ ih=>exact .cons ((hl _ (by simp)).2.2 _ _ _ _ hB h) (ih λ A hA=>hl A (by simp [hA]))
theorem u7 {E:Yh}{m:Nat}{l:Yb}{x:As}(hl:∀ A∈l++[x],FreeA A A):Free (TwS E m D l x) (TwS E m D l x):=λ B B' v w hB ⟨g,c,h1,h2,h3,h4,ds,h5,h6⟩=>⟨g,c,h1,qf hB h2,h3,h4,ds,ES hB hl h5,h6⟩
theorem St.exK {B N:Nat}(h:St B w0 N Γ Λ a w){s:Nat}{E:Yh}{m:Nat}{l:Yb}{x:As}(k:Nat)(hm:Γ[k]?=some (s,TwS E m D l x)):∃ g c,St B w0 N (Γ.set k (s,TwK g c E m D l x)) Λ a w:=by
 obtain ⟨g,c,hv⟩:=h.vals _ (qa hm);exact ⟨g,c,h.lo,h.defers,h.size,h.base,λ y hy=>by
  rcases qq hy with hy|rfl
  ·exact h.vals y hy
  ·exact hv,h.locs,h.dis⟩
theorem rM {g c:Nat}{E:Yh}{m:Nat}{l:Yb}{x:As}(h:(TwK g c E m D l x).p B v w):l.length+1≤c∧c≤maxLen:=by
 obtain ⟨_,_,_,_,ds,_,_,h6⟩:=h;rcases h6 with ⟨h6,_⟩|⟨g',cap,cur,e1,e2,e3,e4,e5,e6,e7⟩
 ·cases h6
 ·injection e1 with _ _ e1;rw [qx] at e4;exact ⟨by rw [e1];exact e4,by rw [e1];exact e5⟩
theorem OZ {b:Nat}{E:Yh}{m:Nat}{l:Yb}(h:(OwnR b E m D l).p B v w):(SlA E D l).va.p B v w:=l7 _ _ _ h
theorem pm {g c:Nat}{E:Yh}{m:Nat}{l:Yb}{x:As}:Wk (TwK g c E m D l x) (SlA E D l).va:=λ B v w h=>by
 obtain ⟨h1,h2,h3,h4,ds,h5,h6,h7⟩:=h;rcases h7 with ⟨h7,_⟩|⟨g',cap,cur,e1,e2,e3,e4,e5,e6,e7⟩
 ·cases h7
 ·injection e1 with eg _ e1;injection eg with eg;injection eg with eg;subst eg e1 h1;have hs:=(CF h3 h5 l.length).1;rw [ke] at hs;refine ⟨[.slice (some ⟨g,0,none⟩) l.length c],⟨λ A hA=>h4 A (by simp [hA]),_,c,ds.take (l.length*m),rfl,by rw [qx] at e4;exact xa e4,e5,hs,λ _=>⟨g,0,rfl,(Array.getElem?_eq_some_iff.1 e3).1,.inr ⟨_,_,e3⟩,λ j u hu=>?_⟩⟩,rfl⟩;rw [cell_of_row w g (0+j) cur E _ e3,qV];rw [List.getElem?_take] at hu;split at hu
  ·rw [← e7,List.getElem?_take] at hu;split at hu
   ·simpa using hu
   ·cases hu
  ·cases hu
theorem Lf {E:Yh}{m:Nat}{l:Yb}{x:As}:Wk (TwS E m D l x) (SlA E D l).va:=λ B v w ⟨g,c,h⟩=>pm _ _ _ h
section
variable {P:Program}{R:Rg}{Q:Exit→Act→World→Prop}{B i:Nat}{w0:Bs}
theorem Gg {x:Yj}{S E E':Yh}{g c m:Nat}{l:Yb}{z:As}(hS:P.underlying S=some (.slice E'))(hx:Has R B w0 i x (TwK g c E m D l z)):Wv P Q R B w0 i (.call ⟨.builtin .cap,#[x],#[S]⟩) (In (c:Int)) :=
 bj λ d T ps af gd a w av=>by
  have hv:=(hx a w av).1;refine ⟨.int .i64 (c:Int),w,?_,Grow.refl w,bS _ _ _ _⟩;simp [execOp,resolve,invoke,builtin,hv,Builtin.cap_,run_underlying hS,goInt]
theorem Ak {x y:Yj}{S E:Yh}{g c m:Nat}{l:Yb}{z:As}(hS:Sl P S E m)(hx:Has R B w0 i x (TwK g c E m D l z))(hy:Has R B w0 i y (In ((l.length+1:Nat):Int))):Wv P Q R B w0 i (.slice S x none (some y) none) (SlA E D (l++[z])).va :=
 bj λ d T ps af gd a w av=>by
  have hk:=hx a w av;have hc:=rM hk;obtain ⟨hs1,hs2⟩:=hS;have e1:=hk.1;have e3:=bg (hy a w av);have hE:P.elem S=E:=by simp [Program.elem,hs1]
  have hs1':P.underlying S=some (.slice (P.elem S)):=by rw [hE];exact hs1
  have hsz:∀ w,(sizeOf E).run P w=.ok m w:=λ w=>by
   cases hi:P.info? E with
   | none=>rw [hi] at hs2;simp at hs2
   | some it=>rw [hi] at hs2;simp [sizeOf,typeInfo,hi];simpa using hs2
  refine ⟨.slice (some ⟨g,0,none⟩) (l.length+1) c,w,?_,Grow.refl w,OZ hk.2.2⟩;have hr:=run_slice_h (P:=P) w S (some ⟨g,0,none⟩) l.length c hs1' .i64 ((l.length+1:Nat):Int) zo zo;rw [hE,hsz] at hr;have hne:¬ c=0:=by omega
  simp only [Result.andThen_ok,sliced,xi,hne,if_false,x9,qT,jq] at hr;simp only [execOp,e1,e3,qT,run_sliceAt_slice _ _ _ _ _ _ hs1',Sem.run_bind,Sem.run_pure]
  erw [hr]
  simp [Addr.add]
theorem Al {S E:Yh}{m bytes n:Nat}{x y:Yj}{it:TypeInfo}{z:Yo}(hS:P.underlying S=some (.slice E))(hi:P.info? E=some it)(hz:it.zero=some z)(hsz:it.size=m)(hby:it.bytes=bytes)(hzs:z.cells.size=m)(hm0:0<m)(hb6:bytes≤1000)(hB:B≤w0.w.heap.size)(hx:Has R B w0 i x (In 0))(hy:Has R B w0 i y (In n))(hn:n≤17592186044):Wv P Q R B w0 i (.makeSlice S x y) (OwnR w0.w.heap.size E m D []) :=
 bj λ d T ps af gd a w av=>by
  have hbn:bytes*n≤1000*n:=qI _ hb6;have hm:=run_make (P:=P) w S E it z hS hi hz .i64 .i64 0 n zo zo (by
   have h6:((it.bytes*n:Nat):Int)≤281474976710656:=by rw [hby];omega
   rwa [xJ] at h6) zo
  have e1:=bg (hx a w av);have e2:=bg (hy a w av);refine ⟨.slice (some ⟨w.heap.size,0,none⟩) 0 n,w.alloc (.cells (madeCells z.cells (n*it.size)) E),?_,Grow.alloc _ _,(λ A hA=>by cases hA),(λ A hA=>by cases hA),[],⟨[],rfl,.nil⟩,by simp,.inr ⟨w.heap.size,n,madeCells z.cells (n*it.size),rfl,av.base.size,by simpa using heap_alloc_new w _,zf _,by unfold maxLen;omega,?_,by simp⟩⟩
  ·simp only [xi] at hm;simp [execOp,e1,e2,hm]
  ·rw [hsz];simp [madeCells]
end
open Rg in
theorem u3 {Q:Yd}{B N:Nat}{id:Nat}{ops:Yg}{sp:Yu}(n:Nat)(src:Ya)(i1 i2:Nat){S E T1 T2 T3 T4 T5:Yh}{s u d e f c0 c1 c2 m bytes:Nat}{ps1 ps2 ps3 ps4 ps5:Yv}{af1 af2 af3 af4 af5:Yw}{D D':Yq}{l:Yb}{x:As}{A2 X:VA}{it:TypeInfo}{z:Yo}
  (h:St B w0 N Γ Λ a w) (hob:Obs P Q ⟨ops,N,Γ,lesN Λ,sp,λ i=>List.range i⟩ B w0 0 n) (hn2:ops.size=n+5) (hk:Rg.chk ⟨ops,N,Γ,lesN Λ,sp,λ i=>List.range i⟩=true)
  (ho1:ops[n]?=some ⟨some d,.call ⟨.builtin .append,#[.tmp s,.tmp u],#[S,S]⟩,T1,ps1,af1,none⟩) (ho2:ops[n+1]?=some ⟨some c1,.move (.tmp c0),T2,ps2,af2,none⟩)
  (ho3:ops[n+2]?=some ⟨some c2,.call ⟨.builtin .len,#[.tmp c1],#[S]⟩,T3,ps3,af3,none⟩) (ho4:ops[n+3]?=some ⟨some f,.slice S (.tmp d) none (some (.tmp c2)) none,T4,ps4,af4,none⟩) (ho5:ops[n+4]?=some ⟨some e,.assign (.tmp f),T5,ps5,af5,none⟩)
  (kx:Nat) (hkx:Γ[kx]?=some (c0,X)) (hX:∀ B u w,X.p B u w→∃ A c,u=.slice A l.length c) (hXo:Rg.outG ⟨ops,N,Γ,lesN Λ,sp,λ i=>List.range i⟩ c0=true)
  (hi1:i1<n) (h1:sp[i1]?=some (.v s (OwnR w0.w.heap.size E m D l))) (hi2:i2<n) (h2:sp[i2]?=some (.v u A2)) (hA2:∀ w u,A2.p B u w→Kept w0 w→(SlA E D' [x]).va.p B u w)
  (hS:P.underlying S=some (.slice E)) (hi:P.info? E=some it) (hz:it.zero=some z) (hsz:it.size=m) (hby:it.bytes=bytes) (hzs:z.cells.size=m) (hm0:0<m) (hl:l.length+1≤100000000000) (hb6:bytes≤1000)
  (hD':∀ T∈D',T∈D) (hED:E ∉ D) (hxm:x.n=m) (hnd:decide ([d,c1,c2,f,e,c0].Nodup)=true) (hd:d<N) (he:e<N) (hc1:c1<N) (hc2:c2<N) (hf:f<N)
  (hsrc:src.all (λ k=>match Γ[k]? with|some y => !y.2.deps.contains E&&Rg.outG ⟨ops,N,Γ,lesN Λ,sp,λ i=>List.range i⟩ y.1|none=>false)=true)
  (hΛ:Λ.all (λ l=>l.T != E && !l.A.deps.contains E&&l.s != d&&l.s != e&&l.s != c1&&l.s != c2&&l.s != f)=true)
  (hQ:∀ a w,St B w0 N ((e,TwS E m D l x)::src.filterMap (λ k=>Γ[k]?)) Λ a w→Q .normal a w):(Code.region id ops false).wp P Q a w:=by
 have hles0:∀ y∈lesN Λ,y.cr=none∧y.st=none∧(⟨y.s,y.T,y.H,y.A0⟩:Lc)∈Λ:=λ y hy=>by
  obtain ⟨l',hl',rfl⟩:=qp.1 hy;exact ⟨rfl,rfl,hl'⟩
 refine Rg.linK (R:=⟨ops,N,Γ,lesN Λ,sp,λ i=>List.range i⟩) (m:=5) hn2 G hk h (λ y hy _=>(hles0 y hy).2.2) (λ i hi=>hob.all i zo zo) λ a1 w1 hinv=>?_;have hcl:∀ deps,Rg.clash ⟨ops,N,Γ,lesN Λ,sp,λ i=>List.range i⟩ (λ k=>decide (k<n)) deps=false:=λ deps=>by
  unfold Rg.clash;rw [xF];intro y hy;rw [(hles0 y hy).2.1];simp
 have hv:=hinv.v i1 _ s _ h1 rfl (qE hi1) (hcl _);have hu:=hA2 _ _ (hinv.v i2 _ u _ h2 rfl (qE hi2) (hcl _)) hinv.base;have hB:B≤w0.w.heap.size:=hinv.lo _ (.inl (qh _));obtain ⟨v',w',hr,r1,r2,r3⟩:=gR (xs:=[x]) (T1:=T1) hS hi hz hsz hby hzs hm0 (by simpa using hl) hb6 hv hu hD' hED (λ y hy=>by simp at hy;subst hy;exact hxm) hinv.base.size hB;have hnd':=qu hnd;simp only [jj,qr,zF,or_false,not_or,jr,and_true,not_false_iff] at hnd';obtain ⟨⟨n1,n2,n3,n4,n5⟩,⟨n6,n7,n8,n9⟩,⟨n10,n11,n12⟩,⟨n13,n14⟩,n15⟩:=hnd';have hgc:∀ q,q<ops.size→Rg.dst ⟨ops,N,Γ,lesN Λ,sp,λ i=>List.range i⟩ q≠some c0:=λ q hq=>by
  have:=qe.1 hXo q (by simpa using hq);simpa using this
 obtain ⟨Ax,cx,ex⟩:=hX _ _ _ (hinv.g (c0,X) (qa hkx) (λ q hq hdq=>absurd hdq (hgc q hq)) (hcl _));obtain ⟨q1,q2,ds,q3,q4,q5⟩:=r1;rcases q5 with ⟨_,q5⟩|⟨g,cap,cur,e1,e2,e3,e4,e5,e6,e7⟩
 ·simp at q5
 rw [qx,z8] at e1 e4;subst e1;have hsza:a1.tmps.size=N:=hinv.size;obtain ⟨a2,ha2⟩:∃ a2,a2=a1.put (some d) (.slice (some ⟨g,0,none⟩) (l.length+1) cap):=⟨_,rfl⟩;obtain ⟨a3,ha3⟩:∃ a3,a3=a2.put (some c1) (.slice Ax l.length cx):=⟨_,rfl⟩;obtain ⟨a4,ha4⟩:∃ a4,a4=a3.put (some c2) (.int .i64 (l.length:Int)):=⟨_,rfl⟩;obtain ⟨a5,ha5⟩:∃ a5,a5=a4.put (some f) (.slice (some ⟨g,0,none⟩) l.length cap):=⟨_,rfl⟩;obtain ⟨a6,ha6⟩:∃ a6,a6=a5.put (some e) (.slice (some ⟨g,0,none⟩) l.length cap):=⟨_,rfl⟩;have s2:a2.tmps.size=N:=by rw [ha2,size_put];exact hsza
 have s3:a3.tmps.size=N:=by rw [ha3,size_put];exact s2
 have s4:a4.tmps.size=N:=by rw [ha4,size_put];exact s3
 have s5:a5.tmps.size=N:=by rw [ha5,size_put];exact s4
 have s6:a6.tmps.size=N:=by rw [ha6,size_put];exact s5
 have hE:P.elem S=E:=by simp [Program.elem,hS]
 have hs1':P.underlying S=some (.slice (P.elem S)):=by rw [hE];exact hS
 have hszo:∀ w,(sizeOf E).run P w=.ok m w:=λ w=>by simp [sizeOf,typeInfo,hi,hsz]
 rw [List.range'_succ,qv];refine bA (R:=⟨ops,N,Γ,lesN Λ,sp,λ i=>List.range i⟩) ho1 G (aY (w':=w') (v:=.slice (some ⟨g,0,none⟩) (l.length+1) cap) (by simp [execOp,resolve,invoke,builtin,hr,Result.andThen]) ?_);show wpOps P ops Q _ (a1.put (some d) _) w';rw [← ha2];rw [List.range'_succ,qv];refine bA (R:=⟨ops,N,Γ,lesN Λ,sp,λ i=>List.range i⟩) ho2 G (aY (w':=w') (v:=.slice Ax l.length cx) (by
  have:a2.eval (.tmp c0)=.slice Ax l.length cx:=by rw [ha2,an _ _ _ _ (λ h=>n5 h.symm)];exact ex
  simp [execOp,this]) ?_)
 show wpOps P ops Q _ (a2.put (some c1) _) w';rw [← ha3];rw [List.range'_succ,qv];refine bA (R:=⟨ops,N,Γ,lesN Λ,sp,λ i=>List.range i⟩) ho3 G (aY (w':=w') (v:=.int .i64 (l.length:Int)) (by
  have:a3.eval (.tmp c1)=.slice Ax l.length cx:=by rw [ha3];exact aK _ _ _ (by rw [s2];exact hc1)
  simp [execOp,resolve,invoke,builtin,this,Builtin.len_,run_underlying hS,goInt]) ?_)
 show wpOps P ops Q _ (a3.put (some c2) _) w';rw [← ha4];have d4:a4.eval (.tmp d)=.slice (some ⟨g,0,none⟩) (l.length+1) cap:=by rw [ha4,an _ _ _ _ n2,ha3,an _ _ _ _ n1,ha2];exact aK _ _ _ (by rw [hsza];exact hd)
 have c4:a4.eval (.tmp c2)=.int .i64 (l.length:Int):=by rw [ha4];exact aK _ _ _ (by rw [s3];exact hc2)
 rw [List.range'_succ,qv];refine bA (R:=⟨ops,N,Γ,lesN Λ,sp,λ i=>List.range i⟩) ho4 G (aY (w':=w') (v:=.slice (some ⟨g,0,none⟩) l.length cap) (by
  have hr2:=run_slice_h (P:=P) w' S (some ⟨g,0,none⟩) (l.length+1) cap hs1' .i64 (l.length:Int) zo zo;rw [hE,hszo] at hr2;have hne:¬ cap=0:=by omega
  simp only [Result.andThen_ok,sliced,xi,hne,if_false,x9,qT,jq] at hr2;simp only [execOp,d4,c4,qT,run_sliceAt_slice _ _ _ _ _ _ hs1',Sem.run_bind,Sem.run_pure]
  erw [hr2]
  simp [Addr.add]) ?_)
 show wpOps P ops Q _ (a4.put (some f) _) w';rw [← ha5];rw [List.range'_succ,qv];refine bA (R:=⟨ops,N,Γ,lesN Λ,sp,λ i=>List.range i⟩) ho5 G (aY (w':=w') (v:=.slice (some ⟨g,0,none⟩) l.length cap) ?_ ?_)
 ·have:a5.eval (.tmp f)=.slice (some ⟨g,0,none⟩) l.length cap:=by rw [ha5];exact aK _ _ _ (by rw [s4];exact hf)
  simp [execOp,this]
 show wpOps P ops Q _ (a5.put (some e) _) w';rw [← ha6];refine hQ _ _ ?_;have hother:∀ t,t≠d→t≠c1→t≠c2→t≠f→t≠e→a6.eval (.tmp t)=a1.eval (.tmp t):=λ t h1 h2 h3 h4 h5=>by
  rw [ha6,an _ _ _ _ h5,ha5,an _ _ _ _ h4,ha4,an _ _ _ _ h3,ha3,an _ _ _ _ h2,ha2,an _ _ _ _ h1]
 have hdf:a6.defers=a1.defers:=by rw [ha6,ha5,ha4,ha3,ha2];rfl
 have hlc:∀ l'∈Λ,l'.T≠E∧E ∉ l'.A.deps∧a6.eval (.tmp l'.s)=a1.eval (.tmp l'.s):=λ l' hl'=>by
  have:=qe.1 hΛ l' hl';simp only [qo,bne_iff_ne,qz,qB,qm] at this;exact ⟨this.1.1.1.1.1.1,this.1.1.1.1.1.2,hother _ this.1.1.1.1.2 this.1.1.2 this.1.2 this.2 this.1.1.1.2⟩
 have hcur:∀ l'∈Λ,(⟨l'.s,l'.T,l'.H,none,l'.A,none⟩:Le)∈lesN Λ:=λ l' hl'=>qp.2 ⟨l',hl',rfl⟩;refine ⟨hinv.lo,hinv.defers.grown r2 r3 hdf,s6,?_,?_,?_,?_⟩
 ·exact ⟨r2.os.trans hinv.base.os,r2.tape.trans hinv.base.tape,r2.output.trans hinv.base.output,qf hinv.base.size r2.size,λ k hk hf =>
   (r2.block k (qF hk hinv.base.size) (λ e=>by have:=(r3 k e.symm).1;omega)).trans (hinv.base.block k hk hf)⟩
 ·intro y hy;rcases qr.1 hy with rfl|hy
  ·show (TwS E m D l x).p B (a6.eval (.tmp e)) w';rw [ha6,aK _ _ _ (by rw [s5];exact he)];exact ⟨g,cap,rfl,qf hB e2,q1,q2,ds,q3,q4,.inr ⟨g,cap,cur,by rw [qx];rfl,zf _,e3,by rw [qx];exact e4,e5,e6,e7⟩⟩
  ·obtain ⟨k,hk1,hk2⟩:=qH.1 hy;have hs:=qe.1 hsrc k hk1;simp only [hk2,qo,qz,qB,qm] at hs;have hout:∀ q,q<ops.size→Rg.dst ⟨ops,N,Γ,lesN Λ,sp,λ i=>List.range i⟩ q≠some y.1:=λ q hq=>by
    have:=qe.1 hs.2 q (by simpa using hq);simpa using this
   rw [hother _ (λ e1=>hout n zo (by unfold Rg.dst;rw [ho1,e1];rfl)) (λ e1=>hout (n+1) zo (by unfold Rg.dst;rw [ho2,e1];rfl)) (λ e1=>hout (n+2) zo (by unfold Rg.dst;rw [ho3,e1];rfl)) (λ e1=>hout (n+3) zo (by unfold Rg.dst;rw [ho4,e1];rfl)) (λ e1=>hout (n+4) zo (by unfold Rg.dst;rw [ho5,e1];rfl))];exact VA.grown (hinv.g y (qa hk2) (λ q hq hdq=>absurd hdq (hout q hq)) (hcl _)) r2 r3 hB hs.1
 ·intro l' hl';obtain ⟨g1,g2,g3⟩:=hlc l' hl';obtain ⟨g,cs,e1,e2,e3,e4⟩:=hinv.c _ (hcur l' hl') l'.A rfl;refine ⟨g,cs,by rw [g3];exact e1,e2,?_,As.grown e4 r2 r3 hB g2⟩;rw [r2.block g (Array.getElem?_eq_some_iff.1 e3).1 (λ e5=>by
   obtain ⟨_,c,fz,e6⟩:=r3 g e5.symm;rw [e3] at e6;injection e6 with e6;injection e6 with _ e6 _;exact g1 e6)]
  exact e3
 ·intro l1 hl1 l2 hl2 hne';rw [(hlc l1 hl1).2.2,(hlc l2 hl2).2.2];exact hinv.x _ (hcur l1 hl1) _ (hcur l2 hl2) hne' G rfl
theorem G9 {α:Type}{f:α→As}{xs:List α}{j:Nat}(h:j<xs.length):(xs.take j).map f++[f xs[j]]=(xs.take (j+1)).map f:=by
 rw [qA h,zT]
 rfl
theorem oD (x:RF):FreeA (RFT x) (RFT x):=bI (.cons (oC _) (.cons (oC _) .nil))
theorem lE {p:As→Prop}{l:Yb}{z:As}(h1:∀ A∈l,p A)(h2:p z):∀ A∈l++[z],p A:=λ A hA=>by
 rcases qn.1 hA with hA|hA
 ·exact h1 A hA
 ·obtain rfl:=ql.1 hA;exact h2
theorem fq {α:Type}{p:As→Prop}{f:α→As}{xs:List α}(h:∀ x,p (f x)):∀ A∈xs.map f,p A:=λ A hA=>by
 obtain ⟨x,_,rfl⟩:=qp.1 hA;exact h x
theorem oi {α:Type}{f k:α→As}(h:∀ x,WkA (f x) (k x)):∀ {xs:List α},All2 WkA (xs.map f) (xs.map k)
 | []=>.nil
 | x::xs=>.cons (h x) (oi h)
theorem lI:FreeA (MgA []) (MgA []):=⟨rfl,rfl,λ B B' cs w hB ⟨ok,hD,A,c,ds,h0,h1,h2,⟨ps,h3,h4⟩,h5⟩=>⟨ok,hD,A,c,ds,h0,h1,h2,by cases h4;exact ⟨[],h3,.nil⟩,λ h=>absurd h zd⟩⟩
theorem D2 {α β:Type}{f:α→β}{xs:List α}(h:xs.length<4611686018427387903):IntKind.i64.wrap (((xs.map f).length:Int)+1)=((xs.length+1:Nat):Int):=by rw [qd];exact aU zo
theorem G4 {E:Yh}{l:Yb}{p:Prop}:∀ B u w,(SlO E D l p).va.p B u w→∃ A c,u=.slice A l.length c:=λ B u w ⟨cs,⟨_,_,A,c,ds,h0,_⟩,hv⟩=>by
 subst h0;exact ⟨A,c,hv⟩
theorem Bx {α β:Type}{f:α→As}{k:β→As}{xs:List α}{ys:List β}{c:Nat}(h:(((((xs.map f).length:Nat):Int) != (((ys.map k).length:Nat):Int)) || decide ((c:Int)≤(((ys.map k).length:Nat):Int)))=false):xs.length=ys.length:=by
 simp only [qN,qd,bne_eq_false_iff_eq] at h;have:=h.1;omega
theorem Bw {α:Type}[DecidableEq α]{f k:α→As}{xs ys:List α}{c:Nat}(hc:xs.length+1≤c)(h:(((((xs.map f).length:Nat):Int) != (((ys.map k).length:Nat):Int)) || decide ((c:Int)≤(((ys.map k).length:Nat):Int)))=true):false=decide (xs=ys):=by
 symm;apply zK;rintro rfl;simp at h;omega
theorem te {α:Type}[DecidableEq α]{xs ys:List α}{j:Nat}(h2:j<ys.length)(h1:j<xs.length)(ht:xs.take j=ys.take j)(h:(!decide (xs[j]=ys[j]))=false):xs.take (j+1)=ys.take (j+1):=by
 rw [qA h1,qA h2,ht];simp at h;rw [h]
theorem td {α:Type}[DecidableEq α]{xs ys:List α}{j:Nat}(h2:j<ys.length)(h1:j<xs.length)(h:(!decide (xs[j]=ys[j]))=true):false=decide (xs=ys):=by
 symm;apply zK;rintro rfl;simp at h
end Go.Proofs.YtckfapioofbfpaaGreatDoor
