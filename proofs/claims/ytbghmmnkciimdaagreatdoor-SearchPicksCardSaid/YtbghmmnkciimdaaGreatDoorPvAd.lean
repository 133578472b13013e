import Derived.Test.YtbghmmnkciimdaaGreatDoorPvAc
import Derived.Deep.Slices
set_option linter.all false
set_option maxRecDepth 100000
namespace Go.Proofs.YtbghmmnkciimdaaGreatDoor
open Go Go.RowKit
variable {w:World}{B:Nat}{a:Act}{v:Value}{T:TypeId}{w0:Bs}{Γ:List (Nat × VA)}{Λ:List Lc}{ps:String}{af:Array Edge}{vr:Value}{H:Hd}{cs:List Value}{w':World}{P:Program}{D:List TypeId}{N:Nat}{i:Nat}{k:Nat}{n:Nat}{j:Nat}{m:Nat}{s:Nat}{b:Nat}{c:Nat}{g:Nat}{d:Nat}{id:Nat}{hi:Nat}{ops:Array Oper}{x:Operand}{y:Operand}{E:TypeId}{S:TypeId}{A:As}{l:List Nat}{fn:Func}{Q:Exit→Act→World→Prop}{xs:List Operand}{gs:List Nat}{W:World}{W':World}{ds:List Value}{q:Int}{A':As}{A0:As}{A1:As}{sp:List Sp}{ty:TypeId}
structure BkRest where
 n:Nat
 vn:Value
 N:List Slt
 vy:Value
 R:List Slt
 ve:Value
 M:List Slt
abbrev nuA (X:BkRest):As:=HkA 141 3 1 X.vn X.N
abbrev ryA (X:BkRest):As:=HkA 168 124 8 X.vy X.R
abbrev elA (X:BkRest):As:=HkA 135 76 9 X.ve X.M
def BqA (X:BkRest)(vr:Value)(L:List Slot):As:=cat [NumA .i64 (X.n:Nat),HbA vr L,nuA X,EqS (.slice none 0 0),EqS (.slice none 0 0),EqS (.slice none 0 0),EqS (.slice none 0 0),EqS (.slice none 0 0),ryA X,elA X,EqS (.slice none 0 0),EqS (.slice none 0 0),EqS (.slice none 0 0),EqS (.slice none 0 0),EqS (.slice none 0 0),EqS (.slice none 0 0),EqS (.slice none 0 0)]
theorem su {X X':BkRest}{vr vr':Yo}{L L':List Slot}(h:(BqA X vr L).p B cs w)(hn:X'.n=X.n)(f1:∀ c,(HbA vr L).p B c w→(HbA vr' L').p B c w')(f2:∀ c,(nuA X).p B c w→(nuA X').p B c w')(f3:∀ c,(ryA X).p B c w→(ryA X').p B c w')(f4:∀ c,(elA X).p B c w→(elA X').p B c w'):(BqA X' vr' L').p B cs w':=by
 obtain ⟨ps,e,hp⟩:=h;refine ⟨ps,e,?_⟩;cases hp with
 | cons h1 hp=>cases hp with
  | cons h2 hp=>cases hp with
   | cons h3 hp =>
    refine .cons (by rw [hn];exact h1) (.cons (f1 _ h2) (.cons (f2 _ h3) ?_))
    iterate 5 (cases hp;rename_i h3 hp;refine .cons h3 ?_)
    cases hp;rename_i h3 hp;refine .cons (f3 _ h3) ?_;cases hp;rename_i h3 hp;refine .cons (f4 _ h3) ?_
    iterate 7 (cases hp;rename_i h3 hp;refine .cons h3 ?_)
    cases hp;exact .nil
theorem cS {X:BkRest}{L:List Slot}(h:(BqA X vr L).p B cs w):(∃ c,(HbA vr L).p B c w)∧(∃ c,(nuA X).p B c w)∧(∃ c,(ryA X).p B c w)∧(∃ c,(elA X).p B c w):=by
 obtain ⟨ps,e,hp⟩:=h;cases hp with
 | cons h1 hp=>cases hp with
  | cons h2 hp=>cases hp with
   | cons h3 hp =>
    iterate 5 (cases hp;rename_i _ hp)
    cases hp;rename_i h4 hp;cases hp;rename_i h5 hp;exact ⟨⟨_,h2⟩,⟨_,h3⟩,⟨_,h4⟩,⟨_,h5⟩⟩
theorem As.kwr {B g T:Nat}{c c':Array Yo}(h:A.p B cs w)(hgc:w.heap[g]?=some (.cells c T (0,0)))(hT:T ∉ A.deps)(hB:B≤g):A.p B cs (w.setRow g c'):=A.wr _ _ _ _ _ _ _ _ hgc hT hB (Wr.setRow w g c') h
theorem I0 {X:BkRest}{L L':List Slot}{B g T:Nat}{c c':Array Yo}(h:(BqA X vr L).p B cs w)(hgc:w.heap[g]?=some (.cells c T (0,0)))(hT:T ∉ [141,3,168,124,135,76])(hB:B≤g)(f1:∀ c0,(HbA vr L).p B c0 w→(HbA vr L').p B c0 (w.setRow g c')):(BqA X vr L').p B cs (w.setRow g c'):=by
 simp only [qr,zq,or_false,not_or] at hT;have k:∀ {H E m:Nat}{v:Value}{M:List Slt},T≠H→T≠E→∀ c0,(HkA H E m v M).p B c0 w→(HkA H E m v M).p B c0 (w.setRow g c'):=λ {H E m v M} h1 h2 c0 hp=>As.kwr hp hgc (show T ∉ [H,E] by simp [h1,h2]) hB;exact su h G f1 (k hT.1 hT.2.1) (k hT.2.2.1 hT.2.2.2.1) (k hT.2.2.2.2.1 hT.2.2.2.2.2)
theorem OS {X:BkRest}{L L':List Slot}{B T:Nat}{row:Yu}(h:(BqA X vr L).p B cs w)(hg:w.grownBy w' row)(hr:gF w B T row)(hT:T ∉ [141,3,168,124,135,76])(f1:∀ c0,(HbA vr L).p B c0 w→(HbA vr L').p B c0 w'):(BqA X vr L').p B cs w':=by
 simp only [qr,zq,or_false,not_or] at hT;have k:∀ {H E m:Nat}{v:Value}{M:List Slt},T≠H→T≠E→∀ c0,(HkA H E m v M).p B c0 w→(HkA H E m v M).p B c0 w':=λ {H E m v M} h1 h2 c0 hp=>As.grown hp hg hr (qi _) (show T ∉ [H,E] by simp [h1,h2]);exact su h G f1 (k hT.1 hT.2.1) (k hT.2.2.1 hT.2.2.2.1) (k hT.2.2.2.2.1 hT.2.2.2.2.2)
section
open Rg
variable {P:Program}{Q:Exit→Act→World→Prop}{R:Rg}{B i:Nat}{w0:Bs}
theorem KA {X:BkRest}{L:List Slot}{s:Slot}{q:Nat}(hx:Has R B w0 i x (EqS s.v).va)(hl:LocH R i q 60 ptrH (BqA X vr L))(hs:s∈L)(ok:okL s.xs):Has R B w0 i x (MgA s.xs).va:=λ a w av=>by
 obtain ⟨g,cs,_,_,_,h⟩:=hl.ok av;obtain ⟨c,h⟩:=(cS h).1;rw [mY (hx a w av)];exact Bv (h.2.2.1 s hs).2 ok
theorem pq {X:BkRest}{L:List Slot}{s:Slot}(hx:Has R B w0 i x (EqS s.v).va)(hl:Has R B w0 i y (ElP T (BqA X vr L)))(hs:s∈L)(ok:okL s.xs):Has R B w0 i x (MgA s.xs).va:=λ a w av=>by
 obtain ⟨b,o,cs,_,_,_,h,_⟩:=hl a w av;obtain ⟨c,h⟩:=(cS h).1;rw [mY (hx a w av)];exact Bv (h.2.2.1 s hs).2 ok
theorem pt {X:BkRest}{L:List Slot}{s:Slot}(hx:Has R B w0 i x (EqS s.z).va)(hz:s.z=s.u)(hl:Has R B w0 i y (ElP T (BqA X vr L)))(hs:s∈L)(ok:okL s.ys):Has R B w0 i x (MgA s.ys).va:=λ a w av=>by
 obtain ⟨b,o,cs,_,_,_,h,_⟩:=hl a w av;obtain ⟨c,h⟩:=(cS h).1;rw [mY (hx a w av),hz];exact Bv (BV (h.2.2.1 s hs).1) ok
end
theorem LB {X:BkRest}{L:List Slot}{B i k g cap:Nat}{s:Slot}(hn:∀ s∈L,s.new)(hi:L[i]?=some s)(hk:k<s.xs.length)(hv:s.v=.slice (some ⟨g,0,none⟩) s.xs.length cap)(h:(BqA X vr (fl L i k)).p B cs w):
  B≤g∧∃ c:Array Value,w.heap[g]?=some (Obj.cells c U32 (0,0))∧k*1<c.size∧(BqA X vr (fl L i (k+1))).p B cs (w.setRow g (c.setIfInBounds (k*1) (.int .u32 (mkN s.n:Nat)))):=by
 obtain ⟨c0,h0⟩:=(cS h).1;have hs:=hn s (qa hi);have key:∀ c1,(HbA vr (fl L i k)).p B c1 w→B≤g∧∃ c:Array Value,w.heap[g]?=some (Obj.cells c U32 (0,0))∧k<c.size∧(HbA vr (fl L i (k+1))).p B c1 (w.setRow g (c.setIfInBounds k (lv (mkN s.n)))):=λ c1 h1=>by
  have:=Kx (m:=mkN s.n) (k:=k) (g:=g) (cap:=cap) h1 (FX hi) hs.uv rfl (by rw [lw (xb hk)];exact hv) (by rw [lw (xb hk)];exact hk);rwa [L0 hi hk] at this
 obtain ⟨h2,c,h3,h4,h5⟩:=key c0 h0;rw [zP];refine ⟨h2,c,h3,h4,I0 h h3 zd h2 (λ c1 h6=>?_)⟩;obtain ⟨_,c',h7,_,h8⟩:=key c1 h6;rw [h3] at h7;injection h7 with h7;injection h7 with h7;subst h7;exact h8
theorem tN {X:BkRest}{M:List Slot}(h:St B w0 N Γ Λ a w)(k:Nat)(hm:Λ[k]?=some ⟨s,T,H,BqA X vr M⟩):RowV vr M.length∧∀ t∈M,RowV t.u t.ys.length∧RowV t.v t.xs.length:=by
 obtain ⟨g,cs,_,_,_,hp⟩:=h.locs _ (qa hm);obtain ⟨c,h1,h2,h3,_⟩:=(cS hp).1;exact ⟨(de h2).2,λ t ht=>⟨(de (h3 t ht).1).2,(h3 t ht).2.1⟩⟩
theorem OR {X:BkRest}{M:List Slot}(h:St B w0 N Γ Λ a w)(k:Nat)(hm:Λ[k]?=some ⟨s,T,H,BqA X vr M⟩)(hz:∀ t∈M,t.z.oneCell'=true∨t.z=t.u):One1 M:=λ t ht=>by
 obtain ⟨h1,h2⟩:=(tN h k hm).2 t ht;refine ⟨h2.one,?_⟩;rcases hz t ht with e|e
 ·exact e
 ·rw [e];exact h1.one
theorem OT {X:BkRest}{vr v':Yo}{M:List Slot}{s:Slot}{u:Yo}(hf:s.full)(hi:M[i]?=some (s.ext u k))(h:(BqA X vr M).p B cs w):
  w.ownsRow B U32 1 u (s.xs.length+k) ((List.replicate (s.xs.length+k) (mkN s.n)).map lv)∧∀ v' w' ds,ds=[lv (mkN s.n)]→w'.ownsRow B U32 1 v' (s.xs.length+k+1) ((List.replicate (s.xs.length+k) (mkN s.n)).map lv++ds)→w.grownBy w' u.ownBlock→(v'.ownBlock=u.ownBlock∨(v'.ownBlock=some w.heap.size∧w.grownBy w' none))→(BqA X vr (M.set i (s.ext v' (k+1)))).p B cs w':=by
 have hlen:(List.replicate (s.xs.length+k) (mkN s.n)).length=s.xs.length+k:=zc;obtain ⟨c0,h0⟩:=(cS h).1;have hown0:w.ownsRow B U32 1 u (s.xs.length+k) ((List.replicate (s.xs.length+k) (mkN s.n)).map lv):=by
  have:=(h0.2.2.1 _ (qa hi)).1;have e:(s.ext u k).ys.length=s.xs.length+k:=hlen;rw [e] at this;exact this
 refine ⟨hown0,λ v' w' ds hds hown hg hb=>?_⟩;subst hds;refine OS h hg (fb hown0) zd (λ c hc=>?_);have:=NU (v':=v') (m:=mkN s.n) hc hi (by show World.ownsRow w' B U32 1 v' ((List.replicate (s.xs.length+k) (mkN s.n)).length+1) _;rw [hlen];exact hown) hg hb λ _=>by
  show s.xs <+: List.replicate (s.xs.length+k) (mkN s.n);rw [hf.xm,zc];exact ⟨List.replicate k (mkN s.n),List.replicate_append_replicate⟩
 have e:({ s.ext u k with u:=v',ys:=(s.ext u k).ys++[mkN s.n] }:Slot)=s.ext v' (k+1):=by
  show Slot.mk s.v s.xs v' (List.replicate (s.xs.length+k) (mkN s.n)++[mkN s.n]) s.z s.n=Slot.mk s.v s.xs v' (List.replicate (s.xs.length+(k+1)) (mkN s.n)) s.z s.n;rw [← je,jn]
 rw [e] at this;exact this
theorem OQ {X:BkRest}{vr z:Yo}{M:List Slot}{B i g cap:Nat}{s:Slot}(hi:M[i]?=some s)(hvr:vr=.slice (some ⟨g,0,none⟩) M.length cap)(h:(BqA X vr M).p B cs w):
  B≤g∧∃ c:Array Value,w.heap[g]?=some (Obj.cells c 137 (0,0))∧i*3+1<c.size∧(BqA X vr (M.set i { s with z:=z })).p B cs (w.setRow g (c.setIfInBounds (i*3+1) z)):=by
 obtain ⟨c0,h0⟩:=(cS h).1;obtain ⟨h2,c,h3,h4,h5⟩:=HA z h0 hi hvr;refine ⟨h2,c,h3,h4,I0 h h3 zd h2 (λ c1 h6=>?_)⟩;obtain ⟨_,c',h7,_,h8⟩:=HA z h6 hi hvr;rw [h3] at h7;injection h7 with h7;injection h7 with h7;subst h7;exact h8
def GqA (X:BkRest)(vr:Value)(L:List Slot):As where
 n:=17
 ag:=true
 p B cs w:=∃ M,Gr L M L.length∧(BqA X vr M).p B cs w
 deps:=[137,U32,141,3,168,124,135,76]
 len:=λ B cs w ⟨M,_,h⟩=>(BqA X vr M).len B cs w h
 one:=λ B cs w ⟨M,_,h⟩=>(BqA X vr M).one B cs w h
 ag1:=λ h=>by cases h
 cg:=λ B cs w w' hg ⟨M,h1,h⟩=>⟨M,h1,(BqA X vr M).cg B cs w w' hg h⟩
 wr:=λ B cs w w' g c T fz h1 h2 h3 h4 ⟨M,h5,h⟩=>⟨M,h5,(BqA X vr M).wr B cs w w' g c T fz h1 h2 h3 h4 h⟩
theorem Qz {X:BkRest}{L M:List Slot}(h:Gr L M L.length):WkA (BqA X vr M) (GqA X vr L):=⟨rfl,rfl,λ B cs w hp=>⟨M,h,hp⟩⟩
theorem Qy {X:BkRest}{L:List Slot}(h:St B w0 N Γ Λ a w)(k:Nat)(hm:Λ[k]?=some ⟨s,T,H,GqA X vr L⟩):∃ M,Gr L M L.length∧St B w0 N Γ (Λ.set k ⟨s,T,H,BqA X vr M⟩) a w:=by
 obtain ⟨g,cs,q1,q2,q3,M,hG,q4⟩:=h.locs _ (qa hm);obtain ⟨hk,he⟩:=List.getElem?_eq_some_iff.1 hm;have hs:∀ m∈Λ.set k ⟨s,T,H,BqA X vr M⟩,∃ m0∈Λ,m0.s=m.s:=λ m hm'=>by
  rcases qA hm' with hm' | rfl
  ·exact ⟨m,hm',rfl⟩
  ·exact ⟨_,qa hm,rfl⟩
 refine ⟨M,hG,h.lo,h.defers,h.size,h.base,h.vals,λ l hl=>?_,λ m1 hm1 m2 hm2 hne=>?_⟩
 ·rcases qA hl with hl|rfl
  ·exact h.locs l hl
  ·exact ⟨g,cs,q1,q2,q3,q4⟩
 ·obtain ⟨m3,r1,r2⟩:=hs m1 hm1;obtain ⟨m4,r3,r4⟩:=hs m2 hm2;rw [← r2,← r4] at hne ⊢;exact h.dis m3 r1 m4 r3 hne
theorem LA {X:BkRest}{M:List Slot}(h:St B w0 N Γ Λ a w)(k:Nat)(hm:Γ[k]?=some (s,ElP T (BqA X vr M)))(hz:∀ t∈M,t.z=t.u):One1 M:=λ t ht=>by
 obtain ⟨b,o,cs,_,_,_,hp,_⟩:=h.vals _ (qa hm);obtain ⟨c,h1,h2,h3,_⟩:=(cS hp).1;refine ⟨(h3 t ht).2.1.one,?_⟩;rw [hz t ht];exact (de (h3 t ht).1).1
theorem L3 (X:BkRest)(vr:Yo)(L:List Slot)(hnew:∀ s∈L,s.new)(hl:L.length≤1000000):CK Tryz.prog 38 60 [60,137,138] (BqA X vr L) (BqA X vr (L.map λ s=>s.fil s.xs.length)) [] (Tu []):=by
 have h0:=KZ hnew;refine CK.intro Tryz.func38 G zk nq zk (λ B g w0 a hrm U=>?_);have U:=zn [(0,EqV ((ptrH).f g)),] [⟨0,60,ptrH,BqA X vr L⟩] U;rw [← h0] at U;refine qb<|zg U6 [] UA Rk U (zE G ab) (zz Rl RU λ a w U=>?_);refine aa<|qk ?_;have U:=U.sel [0,1];refine wp_loop_ghost (λ n a w=>∃ i:Nat,n+i=L.length∧St B w0 35 [(0,EqV (ptrH.f g)),(2,In (i:Nat))] [⟨0,60,ptrH,BqA X vr (fl L i 0)⟩] a w) (L.length) ?_ ?_
 ·exact ⟨0,by omega,U⟩
 intro n a w hI;obtain ⟨i,hn,U⟩:=hI;have hwL:=QB (i:=i) (k:=0) hnew (λ _ _=>zx _);refine qb<|qb<|zg U6 [] (.v 5 _::.adr 6 0 (.some 0) True::.adr 7 0 (.some 0) True::.adr 8 0 (.some (0+1)) True::(Wb 9)) RV U (zM 1 G (oc (ob_a G G (gL (lz0 0 G))) (oc (ob_a G G (gK 1 G zk (lz0 0 G))) (oc (ob_a G G (dT 2 G zk trivial (lz0 0 G) dI)) (zL 3 0 1 G nD (zv G (bg xA (has_wk' (vq 4 G) (NS hwL))) (zv G (aN (vq 0 G) (vq 5 G)) o0))))))) (zz (Wa 0 2 11) RU λ a w U=>?_);refine zJ 2 U G (λ hb0=>?_) (λ hb0=>?_)
 ·have hi:i<L.length:=by simpa [D1] using hb0
  obtain ⟨s,hs⟩:∃ s,L[i]?=some s:=⟨_,List.getElem?_eq_getElem hi⟩;have hwf:=hnew s (qa hs);refine qj<|zt<|qk<|qb<|bS (sp:=[.adr 14 0 (.some 0) True,.adr 15 0 (.some 0) True,.adr 16 0 (.some (0+1)) True,.v 17 _,.v 18 _,.v 19 _,.v 20 _,.v 3 VT,.sto 0]) 7 2 0 8 OneC [.g 0,.g 1,.o 6] U (oc (ob_a G G (gL (lz0 0 G))) (oc (ob_a G G (gK 0 G zk (lz0 0 G))) (oc (ob_a G G (dT 1 G zk trivial (lz0 0 G) dI)) (zL 2 0 1 G nD (zM 1 G (zv G (bB (m:=3) ⟨xA,by kernel_rfl⟩ Ao (has_wk' (vq 3 G) (NS hwL)) (vq 4 G) (sC (FX hs))) (zv G (ao (vq 5 G) nO) o0))))))) G zd zk zk (zz (Wa 0 2 20) RU λ a w U=>?_);rw [show List.range' 7 2=[7,8] from rfl];refine fJ (A:=s.view) 2 [0,1] G G U (Str.zero lW) G nO G zd G zk zk (λ a w U=>?_);refine bU ?_;have U:=zn Rl RW U;refine zt<|zg UH [] WR WS U (zE G ab) (zz Rm RW λ a w U=>?_);refine aa<|qk ?_;have U:=U.sel [0,1,2];refine wp_loop_ghost (λ n a w=>∃ k:Nat,n+k=s.xs.length∧St B w0 35 [(0,EqV (ptrH.f g)),(2,In (i:Nat)),(4,In (k:Nat))] [⟨0,60,ptrH,BqA X vr (fl L i k)⟩,⟨3,137,ptrH,s.view⟩] a w) (s.xs.length) ?_ ?_
  ·exact ⟨0,by omega,U⟩
  intro n a w hI;obtain ⟨k,hn2,U⟩:=hI;refine qb<|qb<|zg UH [] (.v 21 _::.adr 22 3 (.some 0) True::(Wb 23)) WU U (zM 2 G (zO 1 G eO (zL 1 1 0 G bb (zv G (aK qd (KA (s:=s.fil k) (vq 2 G) (lz0 0 G) (qa (FX hs)) (D7 hwf.towf))) (zv G (aN (vq 0 G) (vq 3 G)) o0))))) (zz (Wf 0 2 4 25) RW λ a w U=>?_);refine zJ 3 U G (λ hb1=>?_) (λ hb1=>?_)
  ·have hk:k<s.xs.length:=by simpa [lw (show k≤s.xs.length by omega)] using hb1
   refine qj<|zt<|qk<|iE (sp:=[.adr 28 3 (.some 0) True,.v 29 _,.v 30 _,.adr 31 3 (.some 2) True,.v 32 _,.v 33 _,.v 34 VT,.sto 0]) [[],[0],[],[],[3],[3,4],[0,1,2,3,4,5],[0,1,2,3,4,5,6]] 6 2 0 7 OneC [.g 0,.g 1,.g 2,.o 1,.o 2,.o 5] ac U (zO 1 G eO (zL 0 1 0 G bb (zM 2 G (zO 1 G iJ (zL 3 1 2 G ty_3 (zQ G (Hm _ hwf.n1) (.o (vq 4 G)) o0)))))) G zd zd zk (fx zk) zk zk (zz (Wj 0 2 4 29 30 33) RW λ a w U=>?_);rw [show List.range' 6 2=[6,7] from rfl];obtain ⟨g1,cap1,hv1⟩:=hwf.rv.row hk;have U:=U.wkG 3 rfl (show Wk (EqS s.v).va (EqV (.slice (some ⟨g1,0,none⟩) s.xs.length cap1)) from hv1▸rf);have U:=U.wkG 5 rfl Ie;rw [qx];refine mK (m:=1) (k:=k) 3 4 G U ⟨qd,by kernel_rfl⟩ zd G G hk zd zk zk (λ a U=>?_);rw [qx];refine sY (A1:=BqA X vr (fl L i (k+1))) [1,2,3] 0 6 0 G U G G G G aO G zd (hrm _ zk) zk zk (λ cs hp=>LB hnew hs hk hv1 hp) (λ w U=>?_);refine dC ?_;have U:=zn Rm [⟨0,60,ptrH,BqA X vr (fl L i (k+1))⟩,O 3 137 _] U;refine ak ?_;refine aa<|zg UH [] (W6 26 [.v 4 _]) U1 U (zM 2 G (zv G (aL (vq 0 G) ab (aW (by have:=hwf.lx;omega))) (zA 1 G o0))) (zz Rm RW λ a w U=>?_);refine aa ?_;have U:=U.sel [0,1,2];exact ⟨n-1,by omega,k+1,by omega,U⟩
  ·have hk:k=s.xs.length:=by simp [lw (show k≤s.xs.length by omega)] at hb1;omega
   subst hk;refine qL<|ai<|ai<|az<|ak ?_;refine aa<|zg UH [] (W6 12 [.v 2 _]) Ui U (zM 1 G (zv G (aL (vq 0 G) ab (aW (by have:=hwf.lx;omega))) (zA 1 G o0))) (zz Rl RW λ a w U=>?_);refine aa ?_;have U:=U.sel [0,1];have U:=U.selL [0];exact ⟨L.length-(i+1),by omega,i+1,by omega,(L1 hs hnew)▸U⟩
 ·have hi:i=L.length:=by simp [D1] at hb0;omega
  subst hi;rw [O2] at U;refine qL<|ai<|ai<|az<|dg<|il U (zm 0 G) (zm 0 G) ?_;exact aP (rs:=[]) G U .nil zd
theorem KE (X:BkRest)(vr:Yo)(L:List Slot)(hfull:∀ s∈L,s.full)(hl:L.length≤1000000):CK Tryz.prog 54 60 [60,137,138] (BqA X vr L) (GqA X vr L) [] (Tu []):=by
 obtain ⟨it0,z0,hi0,hz0,hs0,hb0',hc0⟩:=Gz;refine CK.intro Tryz.func54 G zk nq zk (λ B g w0 a hrm U=>?_);have U:=zn [(0,EqV ((ptrH).f g)),] [⟨0,60,ptrH,BqA X vr L⟩] U;refine qb<|zg U6 [] UA Rk U (zE G ab) (zz Rl RU λ a w U=>?_);refine aa<|qk ?_;have U:=U.sel [0,1];refine wp_loop_ghost (λ n a w=>∃ (i:Nat) (M:List Slot),(n+i=L.length∧Gr L M i)∧St B w0 42 [(0,EqV (ptrH.f g)),(2,In (i:Nat))] [⟨0,60,ptrH,BqA X vr M⟩] a w) (L.length) ?_ ?_
 ·exact ⟨0,L,⟨by omega,gr_0⟩,U⟩
 intro n a w hI;obtain ⟨i,M,⟨hn,hG⟩,U⟩:=hI;have h1M:=OR U 0 rfl (gr_z hG hfull);refine qb<|qb<|zg U6 [] (.v 6 _::.adr 7 0 (.some 0) True::.adr 8 0 (.some 0) True::.adr 9 0 (.some (0+1)) True::(Wb 10)) RV U (zM 1 G (oc (ob_a G G (gL (lz0 0 G))) (oc (ob_a G G (gK 1 G zk (lz0 0 G))) (oc (ob_a G G (dT 2 G zk trivial (lz0 0 G) dI)) (zL 3 0 1 G nD (zv G (bg xA (has_wk' (vq 4 G) (uU h1M))) (zv G (aN (vq 0 G) (vq 5 G)) o0))))))) (zz (Wa 0 2 12) RU λ a w U=>?_);refine zJ 2 U G (λ hb0=>?_) (λ hb0=>?_)
 ·have hi:i<L.length:=by have:=hG.1;simpa [this] using hb0
  obtain ⟨s,hs⟩:∃ s,L[i]?=some s:=⟨_,List.getElem?_eq_getElem hi⟩;have hf:=hfull s (qa hs);have hn1:=hf.n1;have hMi:=Qx hG hs;have hMlt:i<M.length:=by rw [hG.1];exact hi
  refine qj<|zt<|qk<|qb<|bS (sp:=[.adr 15 0 (.some 0) True,.adr 16 0 (.some 0) True,.adr 17 0 (.some (0+1)) True,.v 18 _,.v 19 _,.v 20 _,.v 21 _,.v 3 VT,.sto 0]) 7 2 0 8 OneC [.g 0,.g 1,.o 6] U (oc (ob_a G G (gL (lz0 0 G))) (oc (ob_a G G (gK 0 G zk (lz0 0 G))) (oc (ob_a G G (dT 1 G zk trivial (lz0 0 G) dI)) (zL 2 0 1 G nD (zM 1 G (zv G (bB (m:=3) ⟨xA,by kernel_rfl⟩ Ao (has_wk' (vq 3 G) (uU h1M)) (vq 4 G) (sC hMi)) (zv G (ao (vq 5 G) nO) o0))))))) G zd zk zk (zz (Wa 0 2 21) RU λ a w U=>?_);rw [show List.range' 7 2=[7,8] from rfl];refine fJ (A:=s.view) 2 [0,1] G G U (Str.zero lW) G nO G zd G zk zk (λ a w U=>?_);refine bU ?_;have U:=zn Rl RW U;refine zt<|zg UH [] [.adr 22 3 (.some 0) True,.v 23 _,.v 4 _] U1 U (zO 1 G eO (zL 0 1 0 G bb (zA 1 G o0))) (zz Rm RW ?_);refine ztA<|zsA<|zgA UF [] UY WZ (zE G ab) (zz (Wf 0 2 4 5) RW λ a w U=>?_);refine aa<|qk ?_;have U:=U.sel [0,1,2,3];refine wp_loop_ghost (λ n a w=>∃ (k:Nat) (u:Value),n+k=70∧St B w0 42 [(0,EqV (ptrH.f g)),(2,In (i:Nat)),(4,EqV u),(5,In (k:Nat))] [⟨0,60,ptrH,BqA X vr (M.set i (s.ext u k))⟩,⟨3,137,ptrH,s.view⟩] a w) (70) ?_ ?_
  ·have U:=St.cvA (A':=BqA X vr (M.set i (s.ext s.v 0))) U 0 rfl (show BqA X vr M=_ by rw [QF hf,ED hMi]);have U:=U.wkG 2 rfl rf;exact ⟨0,s.v,by omega,U⟩
  intro n a w hI;obtain ⟨k,u,hn2,U⟩:=hI;refine qb<|qb<|zg UH [] (W6 24) Rh U (zM 3 G (zv G (aN (vq 0 G) ab) o0)) (zz (W8 0 2 4 5 25) RW λ a w U=>?_);refine zJ 4 U G (λ hb1=>?_) (λ hb1=>?_)
  ·have hk:k<70:=by have:=hb1;simp at this;omega
   refine qj<|zt<|qk<|bS (sp:=[.v 28 _,.adr 29 3 (.some 2) True,.v 30 _,.v 31 _,.v 32 _,.v 33 VT,.v 4 VT]) 5 2 99 9 OneC [.g 0,.g 1,.g 3,.o 0,.o 4] U (zM 2 G (zO 1 G iJ (zL 1 1 2 G ty_3 (zQ G (Hm _ hn1) (.o (vq 2 G)) (zv G (dF (l:=[_]) (xs:=[.tmp 31]) bc zk nq nq (okm hn1) (.o (vq 3 G)) G G) o0))))) G zd zk zk (zz (W8 0 2 5 28 32) RW λ a w U=>?_);rw [show List.range' 5 2=[5,6] from rfl];have U:=U.wkG 4 rfl M0;rw [qx];refine ll (A1:=λ v'=>BqA X vr (M.set i (s.ext v' (k+1)))) (X:=NumA .u32 (mkN s.n:Nat)) (F:=λ ds=>ds=[lv (mkN s.n)]) [0,1,2] 3 4 0 rfl U rfl rfl (λ ds h=>h) rfl rfl rfl (hrm _ zk) qd hi0 hz0 hs0 hb0' hc0 kZ (n:=s.xs.length+k) (by have:=hf.lx;omega) (by have:=hf.lx;omega) zd zk zk zk zk (λ cs hp=>by have h:=OT (v':=undef) hf (by rw [List.getElem?_set_self hMlt]) hp;simp only [B7] at h;exact h) (λ v' w U=>?_);rw [qx];refine oS 0 G U G zd zk zk (λ a U=>?_);refine bU ?_;have U:=zn (W8 4 33 0 2 5) [⟨0,60,ptrH,BqA X vr (M.set i (s.ext v' (k+1)))⟩,O 3 137 _] U;refine ak ?_;refine aa<|zg UH [] (W6 26 [.v 5 _]) [.g 0,.g 2,.g 3,.o 2] U (zM 4 G (zv G (aL (vq 0 G) ab (aW zo)) (zA 1 G o0))) (zz (Wf 4 0 2 5) RW λ a w U=>?_);refine aa ?_;have U:=U.sel [1,2,0,3];exact ⟨n-1,by omega,k+1,v',by omega,U⟩
  ·have hk:k=70:=by simp at hb1;omega
   subst hk;have hu:=((tN U 0 rfl).2 _ (List.mem_set hMlt _)).1;have hu1:=hu.one;have hu2:u.cells = #[u]:=hu.cell;refine qL<|ai<|ai<|az<|aa<|bS (sp:=[.adr 34 0 (.some 0) True,.adr 35 0 (.some 0) True,.adr 36 0 (.some (0+1)) True,.v 37 _,.v 38 _,.v 39 _,.v 40 VT,.v 41 VT,.sto 0]) 6 3 0 8 OneC [.g 0,.g 1,.o 3,.o 4,.o 5] U (oc (ob_a G G (gL (lz0 0 G))) (oc (ob_a G G (gK 0 G zk (lz0 0 G))) (oc (ob_a G G (dT 1 G zk trivial (lz0 0 G) dI)) (zL 2 0 1 G nD (zM 1 G (zM 2 G o0)))))) G zd zk zk (zz (W8 0 2 37 38 39) RW λ a w U=>?_);rw [show List.range' 6 3=[6,7,8] from rfl];have U:=U.selL [0];have U:=U.wkG 2 rfl Kz;have hvr:=(tN U 0 rfl).1;obtain ⟨g1,cap1,hv1⟩:=hvr.row (show i<_ by rw [qX,hG.1];exact hi);have U:=U.cvG 2 rfl (qp EqV hv1);rw [qx];refine mK (m:=3) (k:=i) 2 3 G U ⟨xA,by kernel_rfl⟩ zd G G (by rw [qX,hG.1];exact hi) zd zk zk (λ a U=>?_);rw [qx];refine fK 0 G U iK G zd zk zk (λ a U=>?_);rw [qx];refine sY (A1:=BqA X vr ((M.set i (s.ext u 70)).set i { s.ext u 70 with z:=u })) [2,3] 0 6 0 G U G G hu1 hu2 bb G zd (hrm _ zk) zk zk (λ cs hp=>OQ (by rw [List.getElem?_set_self hMlt]) hv1 hp) (λ w U=>?_);refine dC ?_;have U:=zn Rl RU U;refine ak ?_;refine aa<|zg U6 [] (W6 13 [.v 2 _]) Ui U (zM 1 G (zv G (aL (vq 0 G) ab (aW zo)) (zA 1 G o0))) (zz Rl RU λ a w U=>?_);refine aa ?_;have U:=U.sel [0,1];exact ⟨L.length-(i+1),by omega,i+1,_,⟨by omega,KI hG hs⟩,(B7 (M:=M) (i:=i))▸U⟩
 ·have hi:i=L.length:=by have:=hG.1;simp [this] at hb0;omega
  subst hi;have U:=St.wkL (A':=GqA X vr L) U 0 rfl (Qz hG);refine qL<|ai<|ai<|az<|dg<|il U (zm 0 G) (zm 0 G) ?_;exact aP (rs:=[]) G U .nil zd
theorem Kg (X:BkRest)(vr:Yo)(M:List Slot)(hdone:∀ t∈M,t.done)(hl:M.length≤1000000):Cn Tryz.prog 70 [ElP 60 (BqA X vr M)] (Bo true):=by
 refine Cn.intro Tryz.func70 G zk nq (zy [(0,ElP 60 (BqA X vr M))] λ B w0 a U=>?_);have h1M:=LA U 0 rfl (λ t ht=>(hdone t ht).zu);refine qb<|zh UA Rk U (zE G aE) (zz Rl [] ?_);refine ztA<|zsA<|zhA [.v 3 _] WS (zE G ab) (zz (Wa 0 2 3) [] λ a w U=>?_);refine aa<|qk ?_;have U:=U.sel [0,2];refine wp_loop_ghost (λ n a w=>∃ (i:Nat),n+i=M.length∧St B w0 64 [(0,ElP 60 (BqA X vr M)),(3,In (i:Nat))] [] a w) (M.length) ?_ ?_
 ·exact ⟨0,by omega,U⟩
 intro n a w hI;obtain ⟨i,hn,U⟩:=hI;refine qb<|qb<|zh (WG 6) RV U (zM 1 G (zM 0 G (zv G (mD (vq 1 G)) (zv G (bK (vq 2 G) dI (Sub.part 1 G G)) (zv G (ao (vq 3 G) nD) (zv G (bg xA (has_wk' (vq 4 G) (uU h1M))) (zv G (aN (vq 0 G) (vq 5 G)) o0))))))) (zz (Wa 0 3 12) [] λ a w U=>?_);refine zJ 2 U G (λ hb0=>?_) (λ hb0=>?_)
 ·have hi:i<M.length:=by have:=hb0;simp at this;omega
  obtain ⟨t,ht⟩:∃ t,M[i]?=some t:=⟨_,List.getElem?_eq_getElem hi⟩;have hmem:=qa ht;have hd:=hdone t hmem;refine qj<|zt<|qk<|qb<|uX (sp:=[.v 15 _,.v 16 _,.v 17 _,.v 18 _,.v 19 _,.v 20 _,.v 21 _,.alc 0,.sto 0]) 7 2 4 [.g 0,.g 1,.o 6] U (zM 0 G (zv G (mD (vq 0 G)) (zv G (bK (vq 1 G) dI (Sub.part 1 G G)) (zv G (ao (vq 2 G) nD) (zM 1 G (zv G (bB (m:=3) ⟨xA,by kernel_rfl⟩ Ao (has_wk' (vq 3 G) (uU h1M)) (vq 4 G) (sC ht)) (zv G (ao (vq 5 G) nO) o0))))))) G zk zk (zz (Wa 0 3 21) [] λ a w U=>?_);rw [show List.range' 7 2=[7,8] from rfl];refine fJ (A:=t.view) 2 [0,1] G G U (Str.zero lW) G nO G zd G zk zk (λ a w U=>?_);refine bU ?_;have U:=zn UO RX U;refine zt<|qb<|zg U6 [] (.adr 22 4 (.some 1) True::(W6 23 (.adr 25 4 (.some 0) True::(Ww 26)))) (We [.o 7]) U (zO 0 G iK (zL 0 0 1 G bb (zv G (aK qd (pt (vq 1 G) hd.zu (gq 0 G) hmem (Dq hd))) (zO 0 G eO (zL 3 0 0 G bb (zv G (aK qd (pq (vq 4 G) (gq 0 G) hmem (Dr hd))) (zv G (aL (vq 5 G) ab (M4 hd.lx)) (zv G (ca (vq 2 G) (vq 6 G)) o0)))))))) (zz (Wa 0 3 29) RX λ a w U=>?_);refine zJ 2 U G (λ hb1=>?_) (λ hb1=>?_)
  ·exact absurd hb1 (by rw [pQ hd];simp)
  ·refine qj<|zt<|zg U6 [] UY WS U (zE G ab) (zz (Wa 0 3 5) RX λ a w U=>?_);refine aa<|qk ?_;have U:=U.sel [0,1,2];refine wp_loop_ghost (λ n a w=>∃ (k:Nat),n+k=t.ys.length∧St B w0 64 [(0,ElP 60 (BqA X vr M)),(3,In (i:Nat)),(5,In (k:Nat))] [⟨4,137,ptrH,t.view⟩] a w) (t.ys.length) ?_ ?_
   ·exact ⟨0,by omega,U⟩
   intro n a w hI;obtain ⟨k,hn2,U⟩:=hI;refine qb<|qb<|zg U6 [] (.v 30 _::.adr 31 4 (.some 1) True::(Wb 32)) WU U (zM 2 G (zO 0 G iK (zL 1 0 1 G bb (zv G (aK qd (pt (vq 2 G) hd.zu (gq 0 G) hmem (Dq hd))) (zv G (aN (vq 0 G) (vq 3 G)) o0))))) (zz (Wf 0 3 5 34) RX λ a w U=>?_);refine zJ 3 U G (λ hb2=>?_) (λ hb2=>?_)
   ·have hk:k<t.ys.length:=by have:=hb2;simp at this;omega
    refine qj<|zt<|qk<|qb<|lp (anc:=[[],[0],[],[0,1,2],[0,1,2,3],[],[5],[0,1,2,3,4,5,6],[0,1,2,3,4,5,6,7],[0,1,2,3,4,5,6,7,8],[0,1,2,3,4,5,6,7,8,9],[0,1,2,3,4,5,6,7,8,9],[0,1,2,3,4,5,6,7,8,9,11],[0,1,2,3,4,5,6,7,8,9,11,12],[0,1,2,3,4,5,6,7,8,9,10,11,12,13],[0,1,2,3,4,5,6,7,8,9,10,11,12,13,14],[0,1,2,3,4,5,6,7,8,9,10,11,12,13,14,15],[0,1,2,3,4,5,6,7,8,9,10,11,12,13,14,15,16],[0,1,2,3,4,5,6,7,8,9,10,11,12,13,14,15],[0,1,2,3,4,5,6,7,8,9,10,11,12,13,14,15,16,17,18],[0,1,2,3,4,5,6,7,8,9,10,11,12,13,14,15,16,17,18,19],[0,1,2,3,4,5,6,7,8,9,10,11,12,13,14,15],[0,1,2,3,4,5,6,7,8,9,10,11,12,13,14,15,21],[0,1,2,3,4,5,6,7,8,9,10,11,12,13,14,15,16,17,18,19,20,21,22],[0,1,2,3,4,5,6,7,8,9,10,11,12,13,14,15,16,17,18,19,20,21,22,23],[0,1,2,3,4,5,6,7,8,9,10,11,12,13,14,15,16,17,18,19,20,21,22,23,24],[0,1,2,3,4,5,6,7,8,9,10,11,12,13,14,15,16,17,18,19,20,21,22,23,24,25]]) (sts:=[none]) (news:=[]) (sp:=((.adr 37 4 (.some 1) True:Sp)::(.v 38 _)::(.v 39 _)::(.v 40 _)::(.v 41 _)::(.adr 42 4 (.some 2) True)::(.v 43 _)::(.v 44 _)::(.v 45 _)::(.v 46 _)::(.f 47 _)::(.adr 48 4 (.some 0) (_=false))::(.f 49 _)::(.f 50 _)::(.f 51 _)::(.f 52 _)::(.adr 53 4 (.some 0) ((_=false)∧_=true))::(.v 54 (Wh ((_=false)∧_=true) _))::(.v 55 (Wh ((_=false)∧_=true) _))::(.v 56 (Wh ((_=false)∧_=true) _))::(.v 57 (Wh ((_=false)∧_=true) _))::(.adr 58 4 (.some 2) ((_=false)∧_=true))::(.v 59 (Wh ((_=false)∧_=true) _))::(.v 60 (Wh ((_=false)∧_=true) _))::(.v 61 (Wh ((_=false)∧_=true) _))::(.f 62 _)::(.v 63 _)::[])) [.g 0,.g 1,.g 2,.o 26] ac U (zO 0 G iK (zL 0 0 1 G bb (zM 2 G (zv G (bO ⟨qd,by kernel_rfl⟩ (pt (vq 1 G) hd.zu (gq 0 G) hmem (Dq hd)) (vq 2 G) hk) (zv G (ao (vq 3 G) aO) (zO 0 G iJ (zL 5 0 2 G ty_3 (zQ G (uQ _ _ hd.n1) (.p (vq 4 G) (vq 6 G)) (zv G (dc (vq 7 G)) (zV 8 G (zB 9 G (λ hg=>aq (gq 2 G)) (zC 9 0 G eO (zB 9 G (λ hg=>aB 11 G zk hg (lz0 0 G) (Sub.part 0 G G) bb) (zB 9 G (λ hg=>aK qd (pq (ae (vq 12 G) hg) (gq 0 G) hmem (Dr hd))) (zB 9 G (λ hg=>aN (ae (vq 10 G) hg) (ae (vq 13 G) hg)) (zB 9 G (λ hg=>aq (ae (vq 14 G) hg)) (oc (gJ G G G (vq 15 G) nq (λ hg=>fY (lz0 0 G) eO)) (oc (bT G G G (vq 15 G) nq (λ hg=>aB 16 G zk hg (lz0 0 G) (Sub.part 0 G G) bb)) (oc (bT G G G (vq 15 G) nq (λ hg=>aq (gq 2 G))) (oc (bT G G G (vq 15 G) nq (λ hg=>oK ⟨qd,by kernel_rfl⟩ (pq (ae (vq 17 G) hg) (gq 0 G) hmem (Dr hd)) (ae (vq 18 G) hg) (by have:=hg;simp at this;omega))) (oc (bT G G G (vq 15 G) nq (λ hg=>ao (ae (vq 19 G) hg) aO)) (oc (gJ G G G (vq 15 G) nq (λ hg=>fY (lz0 0 G) iJ)) (oc (bT G G G (vq 15 G) nq (λ hg=>aB 21 G zk hg (lz0 0 G) (Sub.part 2 G G) ty_3)) (oc (bT G G G (vq 15 G) nq (λ hg=>be (uQ _ _ hd.n1) (.p (ae (vq 20 G) hg) (ae (vq 22 G) hg)))) (oc (bT G G G (vq 15 G) nq (λ hg=>dc (ae (vq 23 G) hg))) (zB 9 G (λ hg=>bv (ae (vq 15 G) hg) (fR (vq 24 G) hg)) (zv G (r_or (vq 9 G) (vq 25 G)) o0))))))))))))))))))))))))))) zk zk zk zk (zz (Wf 0 3 5 63) RX λ a w U=>?_);refine zJ 3 U G (λ hb3=>?_) (λ hb3=>?_)
    ·exact absurd (hb3.symm.trans (Kf hd hk)) zd
    ·refine qj<|ak ?_;refine aa<|zg U6 [] (W6 35 [.v 5 _]) U1 U (zM 2 G (zv G (aL (vq 0 G) ab (aW (by have:=hd.lx;have:=pQ hd;omega))) (zA 1 G o0))) (zz (Wa 0 3 5) RX λ a w U=>?_);refine aa ?_;have U:=U.sel [0,1,2];exact ⟨n-1,by omega,k+1,by omega,U⟩
   ·have hk:k=t.ys.length:=by have:=hb2;simp at this;omega
    refine qL<|ai<|ai<|az<|ak ?_;refine aa<|zg U6 [] (W6 13 [.v 3 _]) Ui U (zM 1 G (zv G (aL (vq 0 G) ab (aW zo)) (zA 1 G o0))) (zz UO RX λ a w U=>?_);refine aa ?_;have U:=U.sel [0,1];have U:=U.selL [];exact ⟨M.length-(i+1),by omega,i+1,by omega,U⟩
 ·have hi:i=M.length:=by have:=hb0;simp at this;omega
  refine qL<|ai<|ai<|az<|zt<|zh UA Rk U (zE G aE) (zz Rl [] λ a w U=>?_);exact aa<|qh<|am G U (zm 1 G)
theorem Bd (A:Option Addr)(c:Nat)(w:Yi):Calls Tryz.prog 251 #[.slice A 0 c] w λ e w'=>e=.returned (.slice A 0 c)∧w=w':=by
 go_enter Tryz.func251,Tryz.ntmps251
 go_wp2
 go_loop [0] (λ v=>v=.slice A 0 c) (λ _=>0)
 case atStart=>rfl
 case round =>
  subst hrel
  go_wp2
  go_ret
  exact ⟨rfl,rfl⟩
theorem yj (b o c:Nat)(l:Ya)(w:Yi)(hc:∀ j (h:j<l.length),w.cell? ⟨b,o+j,none⟩=some (.int .u32 (l[j]:Nat)))(hm:l.length≤9223372036854775807)(hnc:l.length≤c) :
  Calls Tryz.prog 251 #[.slice (some ⟨b,o,none⟩) l.length c] w λ e w'=>e=.returned (.slice (some ⟨b,o,none⟩) (bx l).length c)∧w=w':=by
 obtain ⟨n,hn⟩:∃ n,n=l.length:=⟨_,rfl⟩;rw [← hn] at hm hnc ⊢;have HN:Hid (n=l.length):=hn;clear hn
 go_enter Tryz.func251,Tryz.ntmps251
 go_wp2
 go_loop [0] (λ v=>∃ k:Nat,k≤n∧v=.slice (some ⟨b,o,none⟩) k c∧bx (l.take k)=bx l) (λ v=>lenOf v)
 case atStart=>exact ⟨n,qi _,rfl,by rw [qF (xB HN.out.symm)]⟩
 case round =>
  obtain ⟨k,hk,rfl,ht⟩:=hrel;have HT:Hid (bx (l.take k)=bx l):=ht;clear ht;cases k with
  | zero =>
   go_wp2
   go_ret
   exact ⟨by rw [← HT.out];simp [bx],rfl⟩
  | succ k =>
   have hkl:k<l.length:=by rw [← HN.out];omega
   obtain ⟨x,hx⟩:∃ x,x=l[k]:=⟨_,rfl⟩;have hcell:=hc k hkl;rw [← hx] at hcell;clear hc;have HX:Hid (x=l[k]):=hx;clear hx;by_cases hz:x=0
   ·subst hz
    go_wp2
    go_round
    case rel=>exact ⟨k,by omega,rfl,by rw [← HT.out,nR hkl HX.out.symm]⟩
    case measure=>simp [lenOf]
   ·have hz':((x:Int)==0)=false:=by simp;omega
    go_wp2
    go_ret
    refine ⟨?_,rfl⟩;rw [← HT.out,nQ hkl (by rw [← HX.out];exact hz),ze,xl zo]
    rfl
theorem eE {M:Ya→As}(hM:Fam M)(l:Ya):Cn Tryz.prog 251 [(M l).va] (M (bx l)).va:=by
 refine ⟨iQ Tryz.func251 zk zk,λ B w args hB ha=>?_⟩;obtain ⟨v,rfl,hv⟩:=ha.one;obtain ⟨A,c,rfl,hm,htk⟩:=hM.op _ _ _ _ hv;have hsh:∀ A',A'=A→(M (bx l)).va.p B (.slice A' (bx l).length c) w:=by
  rintro _ rfl;have:=htk (bx l).length;rwa [← iZ] at this
 by_cases h0:l.length=0
 ·have hl:l=[]:=xr h0;subst hl;refine (Bd A c w).mono λ e w' ⟨he,hw⟩=>?_;subst hw;exact ⟨_,he,hsh A rfl,Grow.refl w⟩
 ·obtain ⟨b,o,rfl,h1,h2,h3⟩:=hm.at_ zo;refine (yj b o c l w h3 (by have:=hm.le;have:=hm.max;unfold maxLen at this;omega) hm.le).mono λ e w' ⟨he,hw⟩=>?_;subst hw;exact ⟨_,he,hsh _ rfl,Grow.refl w⟩
theorem cy (neg:Bool)(l:Ya):Cn Tryz.prog 231 [Bo neg,(MgA l).va] ((RIA (rsig neg l)).va):=by
 refine Cn.intro Tryz.func231 G zk nq (zy [(0,Bo neg),(1,(MgA l).va)] λ B w0 a U=>?_);refine qb<|zg [] Ue Uf We U (zY G (Str.zero (cI famA)) o0) (zz Ug Uh ?_);refine ztA<|zgA U4 [] (W6 5 [.v 1 _]) Ui (zM 1 G (zQ G (eE famA _) (.o (vq 0 G)) (zA 1 G o0))) (zz Ug Uh ?_);refine ztA<|zsA<|zgA U4 [] (Wb 7) U1 (zM 1 G (zv G (aK qd (vq 0 G)) (zv G (bC (vq 1 G) ab) o0))) (zz (Wa 0 1 9) Uh λ a w U=>?_);refine zJ 2 U G (λ hb0=>?_) (λ hb0=>?_)
 ·refine qb<|zg Uj [] Uk We U (zv G (aT (qs:=[]) (cI famA) .nil) (zS 0 G ap o0)) (zz Ug Uh λ a w U=>?_);refine aa<|qh<|aj ?_;refine aJ ?_ (au G U (zm 0 G) ap);exact fG (M:=MgA) hb0
 ·refine qj<|zt<|zg [some (3,_)] [] (Wb 11 [.sto 0]) [] U (zM 0 G (zM 1 G (zv G (aT (qs:=[(0,_),(1,_)]) (cI famA) (.cons ⟨rfl,vq 0 rfl,rfl⟩ (.cons ⟨rfl,vq 1 rfl,rfl⟩ .nil))) (zS 2 G ap o0)))) (zz [] Uh λ a w U=>?_);refine aa<|qh<|aJ ?_ (au G U (zm 0 G) ap);exact ij (M:=MgA) hb0
theorem yk (neg:Bool)(l:Ya):Cn Tryz.prog 231 [Bo neg,(MgN l).va] ((RIN (rsig neg l)).va):=by
 refine Cn.intro Tryz.func231 G zk nq (zy [(0,Bo neg),(1,(MgN l).va)] λ B w0 a U=>?_);refine qb<|zg [] Ue Uf We U (zY G (Str.zero (cI famN)) o0) (zz Ug Uh ?_);refine ztA<|zgA U4 [] (W6 5 [.v 1 _]) Ui (zM 1 G (zQ G (eE famN _) (.o (vq 0 G)) (zA 1 G o0))) (zz Ug Uh ?_);refine ztA<|zsA<|zgA U4 [] (Wb 7) U1 (zM 1 G (zv G (aK qd (tl (vq 0 G))) (zv G (bC (vq 1 G) ab) o0))) (zz (Wa 0 1 9) Uh λ a w U=>?_);refine zJ 2 U G (λ hb0=>?_) (λ hb0=>?_)
 ·refine qb<|zg Uj [] Uk We U (zv G (aT (qs:=[]) (cI famN) .nil) (zS 0 G ap o0)) (zz Ug Uh λ a w U=>?_);refine aa<|qh<|aj ?_;refine aJ ?_ (au G U (zm 0 G) ap);exact fG (M:=MgN) hb0
 ·refine qj<|zt<|zg [some (3,_)] [] (Wb 11 [.sto 0]) [] U (zM 0 G (zM 1 G (zv G (aT (qs:=[(0,_),(1,_)]) (cI famN) (.cons ⟨rfl,vq 0 rfl,rfl⟩ (.cons ⟨rfl,vq 1 rfl,rfl⟩ .nil))) (zS 2 G ap o0)))) (zz [] Uh λ a w U=>?_);refine aa<|qh<|aJ ?_ (au G U (zm 0 G) ap);exact ij (M:=MgN) hb0
def cmL (l m:List Nat):Int:=if l.length≠m.length then (if l.length<m.length then -1 else 1) else if val l<val m then -1 else if val m<val l then 1 else 0
theorem QW {l m:Ya}(h:((l.length:Int) != (m.length:Int))=true)(h2:decide ((l.length:Int)<(m.length:Int))=true):(-1:Int)=cmL l m:=by
 have h':l.length≠m.length:=by simp at h;omega
 unfold cmL;rw [qC h',qC (by simp at h2;omega)]
theorem QV {l m:Ya}(h:((l.length:Int) != (m.length:Int))=true)(h2:decide ((l.length:Int)<(m.length:Int))=false):(1:Int)=cmL l m:=by
 have h':l.length≠m.length:=by simp at h;omega
 unfold cmL;rw [qC h',qz (by simp at h2;omega)]
theorem QU {l m:Ya}(ha:okL l)(hl:l.length=m.length)(hj:j<l.length)(hd:l.drop (j+1)=m.drop (j+1))(h:decide (((l[j]:Nat):Int)<((m[j]'zo:Nat):Int))=true):(-1:Int)=cmL l m:=by
 have:=ua (a:=l) (b:=m) ha hj zo hd (by simpa using h);unfold cmL;rw [qz zo,qC this]
theorem QT {l m:Ya}(hb:okL m)(hl:l.length=m.length)(hj:j<l.length)(hd:l.drop (j+1)=m.drop (j+1))(h:decide (((l[j]:Nat):Int)>((m[j]'zo:Nat):Int))=true):(1:Int)=cmL l m:=by
 have:=ua (a:=m) (b:=l) hb zo hj hd.symm (by simpa using h);unfold cmL;rw [qz zo,qz zo,qC this]
theorem QS {l m:Ya}(hd:l.drop 0=m.drop 0):(0:Int)=cmL l m:=by
 have:l=m:=by simpa using hd
 subst this;simp [cmL]
theorem rz (l m:Ya):Cn Tryz.prog 249 [(MgA l).va,(MgA m).va] (In (cmL l m)):=by
 refine Cn.intro Tryz.func249 G zk nq (zy [(0,(MgA l).va),(1,(MgA m).va)] λ B w0 a U=>?_);obtain ⟨ha,hla⟩:=U.mag 0 rfl;obtain ⟨hb,hlb⟩:=U.mag 1 rfl;refine qb<|zh WR WS U (zE G ab) (zz WT [] ?_);refine ztA<|zsA<|zhA (Wd 6) WU (zM 0 G (zv G (aK qd (vq 0 G)) (zM 1 G (zv G (aK qd (vq 2 G)) (zv G (ca (vq 1 G) (vq 3 G)) o0))))) (zz (Wf 0 1 4 10) [] λ a w U=>?_);refine zJ 3 U G (λ hb0=>?_) (λ hb0=>?_)
 ·refine qb<|qb<|zh (Wd 11) WU U (zM 0 G (zv G (aK qd (vq 0 G)) (zM 1 G (zv G (aK qd (vq 2 G)) (zv G (aN (vq 1 G) (vq 3 G)) o0))))) (zz (Wf 0 1 4 15) [] λ a w U=>?_);refine zJ 3 U G (λ hb1=>?_) (λ hb1=>?_)
  ·refine qb<|zh WR WS U (zE G ab) (zz WT [] λ a w U=>?_);refine aa<|qh<|aj ?_;refine aj ?_;refine aJ ?_ (am G U (zm 2 G));exact nu (QW hb0 hb1)
  ·refine qj<|zt<|zh WR WS U (zE G ab) (zz WT [] λ a w U=>?_);refine aa<|qh<|aj ?_;refine aJ ?_ (am G U (zm 2 G));exact nu (QV hb0 hb1)
 ·have hl:l.length=m.length:=by simp at hb0;omega
  refine qj<|zt<|qb<|zh (Wb 16 [.v 5 _]) WV U (zM 0 G (zv G (aK qd (vq 0 G)) (zv G (cH (vq 1 G) ab (wi64 zo zo)) (zA 2 G o0)))) (zz WW [] λ a w U=>?_);refine aa<|qk ?_;have U:=U.sel [0,1,3];refine wp_loop_ghost (λ n a w=>n≤l.length∧l.drop n=m.drop n∧St B w0 41 [(0,(MgA l).va),(1,(MgA m).va),(5,In ((n:Int)-1))] [] a w) (l.length) ?_ ?_
  ·exact ⟨qi _,by rw [xL,hl,xL],U⟩
  intro n a w hI;obtain ⟨hi,hd,U⟩:=hI;refine qb<|qb<|zh (W6 19) WX U (zM 2 G (zv G (dP (vq 0 G) ab) o0)) (zz (Wf 0 1 5 20) [] λ a w U=>?_);refine zJ 3 U G (λ hb2=>?_) (λ hb2=>?_)
  ·obtain ⟨j,rfl⟩:∃ j,n=j+1:=⟨n-1,by simp at hb2;omega⟩;rw [show ((j+1:Nat):Int)-1=(j:Int) from by omega] at U;refine qj<|zt<|qk<|qb<|qb<|zgd WY [] [] (Wo 23) (W7 [.o 8]) ac U (zM 0 G (zM 2 G (zv G (bO bc (vq 0 G) (vq 1 G) zo) (zv G (ao (vq 2 G) aO) (zM 1 G (zM 2 G (zv G (bO bc (vq 4 G) (vq 5 G) zo) (zv G (ao (vq 6 G) aO) (zv G (aN (vq 3 G) (vq 7 G)) o0))))))))) zk zk zk zk (zz (Wf 0 1 5 31) [] λ a w U=>?_);refine zJ 3 U G (λ hb3=>?_) (λ hb3=>?_)
   ·refine qb<|zh WR WZ U (zE G ab) (zz U0 [] λ a w U=>?_);refine aa<|qh<|aj ?_;refine aD ?_;refine aj ?_;refine aj ?_;refine aD ?_;refine aj ?_;refine aJ ?_ (am G U (zm 3 G));exact nu (QU ha hl zo hd hb3)
   ·refine qj<|zt<|zgd WY [] [] (Wo 32) (W7 [.o 8]) ac U (zM 0 G (zM 2 G (zv G (bO bc (vq 0 G) (vq 1 G) zo) (zv G (ao (vq 2 G) aO) (zM 1 G (zM 2 G (zv G (bO bc (vq 4 G) (vq 5 G) zo) (zv G (ao (vq 6 G) aO) (zv G (cM (vq 3 G) (vq 7 G)) o0))))))))) zk zk zk zk (zz (Wf 0 1 5 40) [] λ a w U=>?_);refine zJ 3 U G (λ hb4=>?_) (λ hb4=>?_)
    ·refine qb<|zh WR WZ U (zE G ab) (zz U0 [] λ a w U=>?_);refine aa<|qh<|aD ?_;refine aj ?_;refine aj ?_;refine aD ?_;refine aj ?_;refine aJ ?_ (am G U (zm 3 G));exact nu (QT hb hl zo hd hb4)
    ·refine qj<|ak ?_;refine aa<|zh (W6 21 [.v 5 _]) U1 U (zM 2 G (zv G (cH (vq 0 G) ab (wi64 zo zo)) (zA 1 G o0))) (zz (Wa 0 1 5) [] λ a w U=>?_);refine aa ?_;have U:=U.sel [0,1,2];exact ⟨j,by omega,by omega,lN zo zo hd (by simp at hb3 hb4;omega),U⟩
  ·obtain rfl:n=0:=by simp at hb2;omega
   refine qL<|ai<|ai<|az<|zt<|zh WR U2 U (zE G ab) (zz U3 [] λ a w U=>?_);refine zN 0 U G G ?_;exact nu (QS hd)
theorem uq (x:RI):Cn Tryz.prog 224 [(RIA x).va] (In (if okRI x then 0 else 1)):=by
 refine Cn.intro Tryz.func224 G zk nq (zy [(0,(RIA x).va)] λ B w0 a U=>?_);have hk:=(l7 (U.vals _ (zm 0 rfl))).2;refine qb<|zg [] Uu Uv Uw U (zW 0 G (zE G ab)) (zz Ux Uy λ a w U=>?_);refine zt<|qb<|gl (sts:=[none]) (news:=[]) (sp:=((.adr 3 1 (.some 1) True:Sp)::(.v 4 _)::(.v 5 _)::(.v 6 _)::(.v 7 _)::(.adr 8 1 (.some 1) (_=false))::(.f 9 _)::(.f 10 _)::(.f 11 _)::(.f 12 _)::(.adr 13 1 (.some 1) ((_=false)∧_=true))::(.v 14 (Wh ((_=false)∧_=true) _))::(.adr 15 1 (.some 1) ((_=false)∧_=true))::(.v 16 (Wh ((_=false)∧_=true) _))::(.v 17 (Wh ((_=false)∧_=true) _))::(.v 18 (Wh ((_=false)∧_=true) _))::(.v 19 (Wh ((_=false)∧_=true) _))::(.v 20 (Wh ((_=false)∧_=true) _))::(.v 21 (Wh ((_=false)∧_=true) _))::(.f 22 _)::(.v 23 _)::(.v 24 _)::(.adr 25 1 (.some 1) (_=false))::(.f 26 _)::(.f 27 _)::(.f 28 _)::(.f 29 _)::(.adr 30 1 (.some 0) ((_=false)∧_=true))::(.v 31 (Wh ((_=false)∧_=true) _))::(.f 32 _)::(.v 33 _)::[])) [.g 0,.o 30] U (zO 0 G ar (zL 0 0 1 G bb (zv G (aK qd (vq 1 G)) (zv G (cM (vq 2 G) ab) (zV 3 G (zC 4 0 G ar (zB 4 G (λ hg=>aB 5 G zk hg (lz0 0 G) (Sub.part 1 G G) bb) (zB 4 G (λ hg=>aK qd (ae (vq 6 G) hg)) (zB 4 G (λ hg=>cM (ae (vq 7 G) hg) ab) (zB 4 G (λ hg=>aq (ae (vq 8 G) hg)) (oc (gJ G G G (vq 9 G) nq (λ hg=>fY (lz0 0 G) ar)) (oc (bT G G G (vq 9 G) nq (λ hg=>aB 10 G zk hg (lz0 0 G) (Sub.part 1 G G) bb)) (oc (gJ G G G (vq 9 G) nq (λ hg=>fY (lz0 0 G) ar)) (oc (bT G G G (vq 9 G) nq (λ hg=>aB 12 G zk hg (lz0 0 G) (Sub.part 1 G G) bb)) (oc (bT G G G (vq 9 G) nq (λ hg=>aK qd (ae (vq 13 G) hg))) (oc (bT G G G (vq 9 G) nq (λ hg=>cH (ae (vq 14 G) hg) ab (Ij (by have h:=hg.2;simp at h;omega) hk))) (oc (bT G G G (vq 9 G) nq (λ hg=>oK bc (ae (vq 11 G) hg) (ae (vq 15 G) hg) (by have h:=hg.2;simp at h;omega))) (oc (bT G G G (vq 9 G) nq (λ hg=>ao (ae (vq 16 G) hg) aO)) (oc (bT G G G (vq 9 G) nq (λ hg=>bC (ae (vq 17 G) hg) (aF 0 G))) (zB 4 G (λ hg=>bv (ae (vq 9 G) hg) (fR (vq 18 G) hg)) (zv G (r_or (vq 4 G) (vq 19 G)) (zV 20 G (zC 21 0 G ar (zB 21 G (λ hg=>aB 22 G zk hg (lz0 0 G) (Sub.part 1 G G) bb) (zB 21 G (λ hg=>aK qd (ae (vq 23 G) hg)) (zB 21 G (λ hg=>bC (ae (vq 24 G) hg) ab) (zB 21 G (λ hg=>aq (ae (vq 25 G) hg)) (oc (gJ G G G (vq 26 G) nq (λ hg=>fY (lz0 0 G) aY)) (oc (bT G G G (vq 26 G) nq (λ hg=>aB 27 G zk hg (lz0 0 G) (Sub.part 0 G G) ty_4)) (zB 21 G (λ hg=>bv (ae (vq 26 G) hg) (fR (vq 28 G) hg)) (zv G (r_or (vq 21 G) (vq 29 G)) o0))))))))))))))))))))))))))))))) (zz (Wc 2 33) Uy λ a w U=>?_);refine zJ 1 U G (λ hb0=>?_) (λ hb0=>?_)
 ·refine qb<|zg U6 [] UA U2 U (zE G ab) (zz Ux Uy λ a w U=>?_);refine aa<|qh<|aj ?_;refine aJ ?_ (am G U (zm 0 G));exact nu (wU hb0)
 ·refine qj<|zt<|zg U6 [] UA U2 U (zE G ab) (zz Ux Uy λ a w U=>?_);refine zN 0 U G G ?_;exact nu (wT hb0)
theorem mB (x:RI):Cn Tryz.prog 187 [(RIA x).va] (In (sgI x)):=by
 refine Cn.intro Tryz.func187 G zk nq (zy [(0,(RIA x).va)] λ B w0 a U=>?_);refine qb<|zg [] Uu Uv Uw U (zW 0 G (zE G ab)) (zz Ux Uy ?_);refine ztA<|zsA<|zgA U4 [] (.adr 3 1 (.some 1) True::(Wb 4)) RS (zO 0 G ar (zL 0 0 1 G bb (zv G (aK qd (vq 1 G)) (zv G (bC (vq 2 G) ab) o0)))) (zz (Wc 2 6) Uy λ a w U=>?_);refine zJ 1 U G (λ hb0=>?_) (λ hb0=>?_)
 ·refine qb<|zg U6 [] UA U2 U (zE G ab) (zz Ux Uy λ a w U=>?_);refine aa<|qh<|aj ?_;refine aJ ?_ (am G U (zm 0 G));exact nu (B4 hb0)
 ·refine qj<|zt<|qb<|zg U6 [] [.adr 7 1 (.some 0) True,.v 8 _] Rj U (zO 0 G aY (zL 0 0 0 G ty_4 o0)) (zz (Wc 2 8) Uy λ a w U=>?_);refine zJ 1 U G (λ hb1=>?_) (λ hb1=>?_)
  ·refine qb<|zg U6 [] UA U2 U (zE G ab) (zz Ux Uy λ a w U=>?_);refine aa<|qh<|aj ?_;refine aJ ?_ (am G U (zm 0 G));exact nu (B3 hb0 hb1)
  ·refine qj<|zt<|zg U6 [] UA U2 U (zE G ab) (zz Ux Uy λ a w U=>?_);refine zN 0 U G G ?_;exact nu (B2 hb0 hb1)
theorem fV :cmL (aA m) (aA n)=if m<n then -1 else if n<m then 1 else 0:=by
 unfold cmL;rw [aI,aI];by_cases h:(aA m).length=(aA n).length
 ·rw [qz zo]
 ·rw [qC h];by_cases h2:m≤n
  ·have:=cE h2;have:m≠n:=λ e=>h (by rw [e]);rw [qC zo,qC zo]
  ·have:=cE (xb (ji h2));rw [qz zo,qz zo,qC zo]
theorem my (p:Int):p.sign=if p<0 then -1 else if p=0 then 0 else 1:=by
 rcases kT p 0 with h|h|h
 ·rw [qC h,xN h]
 ·subst h;rfl
 ·rw [qz zo,qz zo,xZ h]
theorem PL {p q:Int}(h:(sgI (riOf p) != sgI (riOf q))=true)(h2:decide (sgI (riOf p)<sgI (riOf q))=true):(-1:Int)=sg3 p q:=by
 rw [qI,dL,dL,my,my] at h2;unfold sg3;rw [qC];split at h2 <;> split at h2 <;> (try split at h2) <;> (try split at h2) <;> omega
theorem PK {p q:Int}(h:(sgI (riOf p) != sgI (riOf q))=true)(h2:decide (sgI (riOf p)<sgI (riOf q))=false):(1:Int)=sg3 p q:=by
 rw [qm,dL,dL,my,my] at h2;have h3:sgI (riOf p)≠sgI (riOf q):=by simpa using h
 rw [dL,dL,my,my] at h3;unfold sg3;rw [qz,qC] <;> (split at h2 <;> split at h2 <;> (try split at h2) <;> (try split at h2) <;> (try split at h3) <;> (try split at h3) <;> (try split at h3) <;> omega)
theorem ML {p q:Int}(h:(sgI (riOf p) != sgI (riOf q))=false):(p<0↔q<0)∧(p=0↔q=0):=by
 have h3:sgI (riOf p)=sgI (riOf q):=by simpa using h
 rw [dL,dL,my,my] at h3;split at h3 <;> split at h3 <;> (try split at h3) <;> (try split at h3) <;> omega
theorem PJ {p q:Int}(h:(sgI (riOf p) != sgI (riOf q))=false)(h2:decide (sgI (riOf p)<0)=true) : -(cmL (riOf p).mag (riOf q).mag)=sg3 p q:=by
 have h1:=ML h;rw [qI,dL,my] at h2;have hp:p<0:=by split at h2 <;> (try split at h2) <;> omega
 show -(cmL (aA p.natAbs) (aA q.natAbs))=_;rw [fV];unfold sg3;split <;> split <;> (try split) <;> omega
theorem PI {p q:Int}(h:(sgI (riOf p) != sgI (riOf q))=false)(h2:decide (sgI (riOf p)<0)=false):cmL (riOf p).mag (riOf q).mag=sg3 p q:=by
 have h1:=ML h;rw [qm,dL,my] at h2;have hp:¬ p<0:=by intro hp;rw [qC hp] at h2;omega
 show cmL (aA p.natAbs) (aA q.natAbs)=_;rw [fV];unfold sg3;split <;> split <;> (try split) <;> omega
theorem OB (l m:Ya) : -1≤cmL l m∧cmL l m≤1:=by
 unfold cmL;split <;> split <;> (try split) <;> omega
theorem Mh {p:Int}:(RIA (rsig (!(riOf p).neg) (riOf p).mag)).va=Zi (-p):=by
 rw [cj (oU p) (z := -p) (by rw [bF];omega) (λ hz=>by show (!decide (p<0))=_;by_cases h:p<0 <;> simp [h] <;> omega)]
theorem size_e {p:Int}:(RIA (rsig false (riOf p).mag)).va=Zi ((p.natAbs:Nat):Int):=by
 rw [cj (oU p) (z:=((p.natAbs:Nat):Int)) (by rw [bF];omega) (λ hz=>by simp)]
theorem Jc (p q:Int):Cn Tryz.prog 247 [Zi p,Zi q] (In (sg3 p q)):=by
 refine Cn.intro Tryz.func247 G zk nq (zy [(0,Zi p),(1,Zi q)] λ B w0 a U=>?_);have hbd:=OB (riOf p).mag (riOf q).mag;refine qb<|zg [] UB UC Ud U (zW 0 G (zW 1 G (zE G ab))) (zz U3 UD ?_);refine ztA<|zgA UF [] (W6 8 [.v 5 _]) Ui (zl 0 G ap (zQ G (mB (riOf p)) (.o (vq 0 G)) (zA 1 G o0))) (zz (Wc 4 5) UD ?_);refine ztA<|zgA UF [] (W6 10 [.v 6 _]) U1 (zl 1 G ap (zQ G (mB (riOf q)) (.o (vq 0 G)) (zA 1 G o0))) (zz (Wa 4 5 6) UD ?_);refine ztA<|zsA<|zgA UF [] (Wb 12) UG (zM 1 G (zM 2 G (zv G (ca (vq 0 G) (vq 1 G)) o0))) (zz (Wf 4 5 6 14) UD λ a w U=>?_);refine zJ 3 U G (λ hb0=>?_) (λ hb0=>?_)
 ·refine qb<|qb<|zg UH [] (Wb 15) U1 U (zM 1 G (zM 2 G (zv G (aN (vq 0 G) (vq 1 G)) o0))) (zz (Wa 4 5 17) UD λ a w U=>?_);refine zJ 2 U G (λ hb1=>?_) (λ hb1=>?_)
  ·refine qb<|zg UH [] WR [.g 1,.o 0] U (zE G ab) (zz (Wc 5 4) UD λ a w U=>?_);refine aa<|qh<|aj ?_;refine aj ?_;refine aJ ?_ (am G U (zm 1 G));exact nu (PL hb0 hb1)
  ·refine qj<|zt<|zg UH [] WR [.g 1,.o 0] U (zE G ab) (zz (Wc 5 4) UD λ a w U=>?_);refine aa<|qh<|aj ?_;refine aJ ?_ (am G U (zm 1 G));exact nu (PK hb0 hb1)
 ·refine qj<|zt<|zg UH [] (.adr 18 2 (.some 1) True::.v 19 _::.adr 20 3 (.some 1) True::(W6 21 [.v 7 _])) (We [.o 5]) U (zO 0 G ar (zL 0 0 1 G bb (zO 1 G ar (zL 2 1 1 G bb (zQ G (rz _ _) (.p (vq 1 G) (vq 3 G)) (zA 4 G o0)))))) (zz (Wa 4 5 7) UD ?_);refine ztA<|zsA<|zgA UF [] (W6 23) [.g 0,.g 2,.o 1] (zM 1 G (zv G (aN (vq 0 G) ab) o0)) (zz (Wa 4 7 24) UD λ a w U=>?_);refine zJ 2 U G (λ hb2=>?_) (λ hb2=>?_)
  ·refine qb<|zg UH [] (W6 25 [.v 4 _]) Rn U (zM 1 G (zv G (EX (vq 0 G) ((wi64 zo zo).trans (kQ _))) (zA 1 G o0))) (zz (Wc 7 4) UD λ a w U=>?_);refine aa<|qh<|aj ?_;refine aJ ?_ (am G U (zm 1 G));exact nu (PJ hb0 hb2)
  ·refine qj<|zt<|zg UH [] [.v 27 _,.v 4 _] Uw U (zM 1 G (zA 0 G o0)) (zz U3 UD λ a w U=>?_);refine zN 0 U G G ?_;exact nu (PI hb0 hb2)
theorem LF {p q:Int}:decide (sg3 p q<0)=decide (p<q):=by
 unfold sg3;split
 ·rename_i h;rw [qG h];rfl
 ·rename_i h;rw [zT h];split <;> rfl
theorem EV (p q:Int):Cn Tryz.prog 226 [Zi p,Zi q] (Bo (decide (p<q))):=by
 refine Cn.intro Tryz.func226 G zk nq (zy [(0,Zi p),(1,Zi q)] λ B w0 a U=>?_);refine qb<|zg [] UB UC Ud U (zW 0 G (zW 1 G (zE G aE))) (zz U3 UD ?_);refine ztA<|zgA UF [] (Ww 5 [.v 4 _]) UP (zl 0 G ap (zl 1 G ap (zQ G (Jc p q) (.p (vq 0 G) (vq 1 G)) (zv G (aN (vq 2 G) ab) (zA 3 G o0))))) (zz U3 UD λ a w U=>?_);refine zN 0 U G G ?_;exact qp Bo LF
theorem ER (n:Int)(h0 : -9223372036854775808≤n)(h1:n<9223372036854775808):Cn Tryz.prog 200 [In n] (Zi n):=by
 refine Cn.intro Tryz.func200 G zk nq (zy [(0,In n)] λ B w0 a U=>?_);refine qb<|zg [] UK Uf UL U (zY G (Str.zero bu) o0) (zz UM UN ?_);refine ztA<|zgA U4 [] (W6 4 [.v 3 _]) Ui (zM 0 G (zv G (aH .u64 zk zk (vq 0 G) (G)) (zA 1 G o0))) (zz UO UN ?_);refine ztA<|zsA<|zgA U4 [] (W6 6) UI (zM 0 G (zv G (aN (vq 0 G) ab) o0)) (zz (Wa 0 3 7) UN λ a w U=>?_);refine aa<|bP (λ a w =>  St B w0 20 [(0,In n),(3,(NumA .u64 (n.natAbs:Nat)).va)] [⟨2,26,ptrH,cat [BoA false,MgA []]⟩] a w) U (zm 2 G) (λ hb0=>?_) (λ hb0=>?_) (λ a w U=>?_)
 ·refine zg U6 [] (W6 8 [.v 3 _]) Ui U (zM 1 G (zv G (cH (aF 0 G) (vq 0 G) (G)) (zA 1 G o0))) (zz UO UN λ a w U=>?_);refine aa ?_;have U:=U.sel [0,1];rw [show IntKind.u64.wrap (((0:Nat):Int)-IntKind.u64.wrap n)=_ from JP h0 hb0] at U;exact U
 ·refine qj<|aa ?_;have U:=U.sel [0,1];rw [JO h1 hb0] at U;exact U
 refine zt<|zg [some (10,_)] [] (Wn 10 [.sto 0]) [] U (zM 0 G (zv G (aN (vq 0 G) ab) (zM 1 G (zv G (nG (vq 2 G) (aF 4294967296 G) zd (nrem)) (zv G (aH .u32 zk zk (vq 3 G) (wu32 (qW _ zd))) (zM 1 G (zv G (nH (vq 5 G) (aF 4294967296 G) zd (nquo zo)) (zv G (aH .u32 zk zk (vq 6 G) (wu32 zo)) (zv G (dF (l:=[_,_]) (xs:=[.tmp 14,.tmp 17]) bc zk nq nq (C4 h0 h1) (.p (vq 4 G) (vq 7 G)) G G) (zQ G (cy _ _) (.p (vq 1 G) (vq 8 G)) (zS 9 G ap o0))))))))))) (zz [] UN λ a w U=>?_);refine aa<|qh<|aJ ?_ (au G U (zm 0 G) ap);exact Nl h0 h1
theorem Bc (p:Int):Cn Tryz.prog 230 [Zi p] (Zi (-p)):=by
 refine Cn.intro Tryz.func230 G zk nq (zy [(0,Zi p)] λ B w0 a U=>?_);refine qb<|zg [] UT UU [] U (zW 0 G (zY G (Str.zero bu) o0)) (zz [] UV ?_);refine ztA<|zgA RY [] (.adr 3 1 (.some 0) True::(W6 4 (.adr 6 1 (.some 1) True::(W6 7 [.sto 1])))) [] (zO 0 G aY (zL 0 0 0 G ty_4 (zv G (dc (vq 1 G)) (zO 0 G ar (zL 3 0 1 G bb (zQ G (cy _ _) (.p (vq 2 G) (vq 4 G)) (zS 5 G ap o0))))))) (zz [] UV λ a w U=>?_);refine aa<|qh<|aJ ?_ (au G U (zm 1 G) ap);exact Mh
abbrev NL (l:List Nat):List As:=l.map λ (x:Nat)=>NumA .u32 (x:Int)
theorem nr:∃ it z,Tryz.prog.info? 138=some it∧it.zero=some z∧it.size=1∧it.bytes=4∧z.cells.size=1:=by
 have h:((Tryz.prog.info? 138).bind λ it=>it.zero.map λ z=>(it.size,it.bytes,z.cells.size))=some (1,4,1):=by kernel_rfl
 cases hi:Tryz.prog.info? 138 with
 | none=>rw [hi] at h;simp at h
 | some it =>
  rw [hi] at h;cases hz:it.zero with
  | none=>simp [hz] at h
  | some z =>
   simp [hz] at h;exact ⟨it,z,rfl,hz,h.1,h.2.1,h.2.2⟩
theorem BX (ok:okL l):Wk (OwnR b U32 1 [] (NL l)) (MgA l).va:=λ B v w h=>GM ok (gI B v w h)
theorem fc {x:Nat}(h:x<4294967296):okL [x]:=λ y hy=>by simp at hy;omega
theorem GS {l m:Ya}:bH l m (i+1)=bH l m i+4294967296^i*(l.getD i 0+m.getD i 0):=by
 unfold bH;rw [eW,eW,xg];omega
def addN (l m:List Nat):Nat:=if val l+val m<4294967296^max l.length m.length then max l.length m.length else max l.length m.length+1
theorem oC {l m:Ya}(h:max l.length m.length≤i):bH l m i=val l+val m:=by
 unfold bH;rw [qF zo,qF zo]
theorem GT {l m:Ya}(hl:okL l)(hm:okL m):val l+val m<4294967296^(max l.length m.length+1):=by
 have h1:=qD (fF hl) (zZ (by decide:0<4294967296) (jp l.length m.length));have h2:=qD (fF hm) (zZ (by decide:0<4294967296) (jj l.length m.length));rw [zi];omega
structure AddI (l m:List Nat) (i:Nat):Prop where
 le:i≤max l.length m.length+1
 top:i=max l.length m.length+1→4294967296^max l.length m.length≤val l+val m
theorem AddI.more {l m:Ya}(h:AddI l m i)(hl:okL l)(hm:okL m)(hb:((decide ((i:Int)<(l.length:Int)) || decide ((i:Int)<(m.length:Int))) || decide (((bH l m i/4294967296^i:Nat):Int)>((0:Nat):Int)))=true):i≤max l.length m.length∧AddI l m (i+1):=by
 have h0:=h.le;simp only [z4,qI] at hb;have h1:i≠max l.length m.length+1:=by
  intro e;have h3:=GT hl hm;have h4:bH l m i/4294967296^i=0:=by
   rw [oC zo,e];exact xK h3
  rw [h4] at hb;omega
 refine ⟨by omega,by omega,λ e=>?_⟩;have e':i=max l.length m.length:=by omega
 have h3:0<bH l m i/4294967296^i:=by
  rcases hb with (hb|hb) | hb
  ·omega
  ·omega
  ·omega
 rw [oC zo,e'] at h3;exact (Nat.div_pos_iff.1 h3).2
theorem AddI.fin {l m:Ya}(h:AddI l m i)(hl:okL l)(hm:okL m)(hb:((decide ((i:Int)<(l.length:Int)) || decide ((i:Int)<(m.length:Int))) || decide (((bH l m i/4294967296^i:Nat):Int)>((0:Nat):Int)))=false):digs i (bH l m i)=digs (addN l m) (val l+val m):=by
 simp only [qN,qm] at hb;have h0:=h.le;have h1:max l.length m.length≤i:=by omega
 rw [oC h1];rw [oC h1] at hb
 congr 1
 unfold addN;by_cases e:i=max l.length m.length+1
 ·have:=h.top e;rw [qz zo,e]
 ·have e':i=max l.length m.length:=by omega
  rw [qC,e'];rw [← e'];have hp:0<4294967296^i:=zK zd;refine (Nat.div_eq_zero_iff_lt hp).1 ?_;generalize (val l+val m)/4294967296^i=z at *;omega
theorem LL {l m:Ya}:NL (digs i (bH l m i))++NL [(bH l m i/4294967296^i+l.getD i 0+m.getD i 0)%4294967296]=NL (digs (i+1) (bH l m (i+1))):=by
 unfold NL;rw [GS,er,zw,jn]
theorem LM {l m:Ya}:(bH l m i/4294967296^i+l.getD i 0+m.getD i 0)/4294967296=bH l m (i+1)/4294967296^(i+1):=by
 rw [GS,carry_step',jn]
theorem MP (l m:Ya)(hls:l.length≤10000000000)(hms:m.length≤10000000000):Cn Tryz.prog 248 [(MgA l).va,(MgA m).va] ((MgA (digs (addN l m) (val l+val m))).va):=by
 obtain ⟨it,z,e1,e2,e3,e4,e5⟩:=nr;refine Cn.introF Tryz.func248 G zk nq (λ B w0 a hF U=>?_);have U:=zn [(0,(MgA l).va),(1,(MgA m).va)] [] U;obtain ⟨v0,hv0,U⟩:=U.eqv 0 rfl;obtain ⟨v1,hv1,U⟩:=U.eqv 1 rfl;have hl:=(eD hv0).1;have hm:=(eD hv1).1;refine qb<|zh WR WS U (zE G aX) (zz WT [] ?_);refine ztA<|zhA UY WZ (zE G aX) (zz WW [] ?_);refine ztA<|zhA U5 Ut (zv G (aR (aF 0 G)) o0) (zz UZ [] ?_);refine ztA<|zsA<|zhA [.v 7 _] U7 (zE G ab) (zz (Wj 0 1 4 5 6 7) [] λ a w U=>?_);refine aa<|qk ?_;have U:=U.sel [0,1,3,4,5];refine wp_loop_ghost (λ n a w=>∃ i:Nat,(n+i=max l.length m.length+1∧AddI l m i)∧St B w0 57 [(0,EqV v0),(1,EqV v1),(5,OwnR w0.w.heap.size U32 1 [] (NL (digs i (bH l m i)))),(6,(NumA .u64 ((bH l m i/4294967296^i:Nat):Int)).va),(7,In (i:Nat))] [] a w) (max l.length m.length+1) ?_ ?_
 ·exact ⟨0,⟨rfl,⟨by omega,λ h=>by omega⟩⟩,St.wkG (A':=(NumA .u64 ((bH l m 0/4294967296^0:Nat):Int)).va) (U.wkG 2 rfl mJ) 3 rfl (ba (qp (λ x:Nat=>(NumA .u64 (x:Int)).va) (by simp [g7]:0=bH l m 0/4294967296^0)))⟩
 intro n a w hI;obtain ⟨i,⟨hn,hI⟩,U⟩:=hI;have hc:=fv hl hm i;refine qb<|qb<|zh (Wd 9 (.f 14 _::.f 15 _::.f 16 _::.f 17 _::(W6 18 [.f 20 _,.f 21 _,.v 22 _]))) (Wi [.o 13]) U (zM 4 G (zM 0 G (zv G (aK qd (aV hF hv0 (vq 1 G))) (zv G (aN (vq 0 G) (vq 2 G)) (zV 3 G (zB 4 G (λ hg=>aq (gq 4 G)) (zB 4 G (λ hg=>aq (gq 1 G)) (zB 4 G (λ hg=>aK qd (aV hF hv1 (ae (vq 6 G) hg))) (zB 4 G (λ hg=>aN (ae (vq 5 G) hg) (ae (vq 7 G) hg)) (zv G (r_or (vq 4 G) (vq 8 G)) (zV 9 G (zB 10 G (λ hg=>aq (gq 3 G)) (zB 10 G (λ hg=>cM (ae (vq 11 G) hg) (aF 0 G)) (zv G (r_or (vq 10 G) (vq 12 G)) o0)))))))))))))) (zz (Wj 0 1 5 6 7 22) [] λ a w U=>?_);refine zJ 5 U G (λ hb0=>?_) (λ hb0=>?_)
 ·obtain ⟨hi,hI2⟩:=hI.more hl hm hb0;have hg1:=fS hl i;have hg2:=fS hm i;refine qj<|zt<|qk<|qb<|zh [.v 25 _,.v 8 _] U8 U (zM 3 G (zA 0 G o0)) (zz (Wj 0 1 5 6 7 8) [] ?_);refine ztA<|zsA<|zhA (Ww 26) (Wq [.o 3]) (zM 4 G (zM 0 G (zv G (aK qd (aV hF hv0 (vq 1 G))) (zv G (aN (vq 0 G) (vq 2 G)) o0)))) (zz (Wu 0 1 5 6 7 8 29) [] λ a w U=>?_);refine aa<|bP (λ a w =>  St B w0 57 [(0,EqV v0),(1,EqV v1),(5,OwnR w0.w.heap.size U32 1 [] (NL (digs i (bH l m i)))),(7,In (i:Nat)),(8,(NumA .u64 ((bH l m i/4294967296^i+l.getD i 0:Nat):Int)).va)] [] a w) U (zm 6 G) (λ hb1=>?_) (λ hb1=>?_) (λ a w U=>?_)
  ·refine zh (WG 30 [.v 8 _]) (Wi [.o 7]) U (zM 5 G (zM 0 G (zM 4 G (zv G (bO bc (aV hF hv0 (vq 1 G)) (vq 2 G) (by simp at hb1;omega)) (zv G (ao (vq 3 G) aO) (zv G (aH .u64 zk zk (vq 4 G) (wu64 (zD (hl _ (qg _)) zd))) (zv G (aL (vq 0 G) (vq 5 G) (dQ (by have:=hl _ (qg (by simp at hb1;omega:i<l.length));omega))) (zA 6 G o0)))))))) (zz (Wj 0 1 5 6 7 8) [] λ a w U=>?_);refine aa ?_;have U:=U.sel [0,1,2,4,5];rw [cV (by simp at hb1;omega)];exact U
  ·refine qj<|aa ?_;have U:=U.sel [0,1,2,4,5];rw [en (by simp at hb1;omega)];exact U
  refine zt<|qb<|zh (Ww 37) (Wi [.o 3]) U (zM 3 G (zM 1 G (zv G (aK qd (aV hF hv1 (vq 1 G))) (zv G (aN (vq 0 G) (vq 2 G)) o0)))) (zz (Wj 0 1 5 7 8 40) [] λ a w U=>?_);refine aa<|bP (λ a w =>  St B w0 57 [(0,EqV v0),(1,EqV v1),(5,OwnR w0.w.heap.size U32 1 [] (NL (digs i (bH l m i)))),(7,In (i:Nat)),(8,(NumA .u64 ((bH l m i/4294967296^i+l.getD i 0+m.getD i 0:Nat):Int)).va)] [] a w) U (zm 5 G) (λ hb2=>?_) (λ hb2=>?_) (λ a w U=>?_)
  ·refine zh (WG 41 [.v 8 _]) (Wp [.o 7]) U (zM 4 G (zM 1 G (zM 3 G (zv G (bO bc (aV hF hv1 (vq 1 G)) (vq 2 G) (by simp at hb2;omega)) (zv G (ao (vq 3 G) aO) (zv G (aH .u64 zk zk (vq 4 G) (wu64 (zD (hm _ (qg _)) zd))) (zv G (aL (vq 0 G) (vq 5 G) (dQ (by have:=hm _ (qg (by simp at hb2;omega:i<m.length));omega))) (zA 6 G o0)))))))) (zz (W8 0 1 5 7 8) [] λ a w U=>?_);refine aa ?_;have U:=U.sel [0,1,2,3,4];rw [cV (by simp at hb2;omega) (l:=m)];exact U
  ·refine qj<|aa ?_;have U:=U.sel [0,1,2,3,4];rw [en (by simp at hb2;omega) (l:=m)];exact U
  refine zt<|lr (sp:=[.v 48 _,.v 49 _,.v 50 _,.v 51 _,.v 52 _,.v 53 VT,.v 5 VT]) 5 [0,1,3,4] 0 4 U (zM 2 rfl (zM 4 rfl (zv rfl (nG (vq 1 rfl) (aF 4294967296 rfl) zd (nrem)) (zv rfl (aH .u32 zk zk (vq 2 rfl) (wu32 (qW _ zd))) (zv rfl (dF (l:=[_]) (xs:=[.tmp 51]) bc zk nq nq ((fc (qW _ zd))) (.o (vq 3 rfl)) rfl rfl) o0))))) rfl zk rfl rfl zd rfl zd rfl (λ _ _ h _=>(eD h).2) qd e1 e2 e3 e4 e5 zd (by simp only [qc,ay,z7];omega) zd (λ T hT=>hT) zd (λ A hA=>by obtain ⟨_,_,rfl⟩:=qq.1 hA;rfl) zk nq nq zk zk (zz (W8 5 0 1 7 8) [] ?_);refine znA<|zhA (W6 54 [.v 6 _]) RZ (zM 4 G (zv G (nH (vq 0 G) (aF 4294967296 G) zd (nquo zo)) (zA 1 G o0))) (zz (W8 5 0 1 7 6) [] λ a w U=>?_);refine ak ?_;refine aa<|zh (W6 23 [.v 7 _]) (W7 [.g 4,.o 2]) U (zM 3 G (zv G (aL (vq 0 G) ab (aW zo)) (zA 1 G o0))) (zz (W8 5 0 1 6 7) [] λ a w U=>?_);refine aa ?_;have U:=U.sel [1,2,0,3,4];exact ⟨n-1,by omega,i+1,⟨by omega,hI2⟩,St.wkG (A':=(NumA .u64 ((bH l m (i+1)/4294967296^(i+1):Nat):Int)).va) (St.wkG (A':=OwnR w0.w.heap.size U32 1 [] (NL (digs (i+1) (bH l m (i+1))))) U 2 G (ba (qp (OwnR w0.w.heap.size U32 1 []) LL))) 3 G (ba (qp (λ x:Nat=>(NumA .u64 (x:Int)).va) LM))⟩
 ·refine qL<|ai<|ai<|az<|zt<|zh [.v 56 _,.v 4 _] Uw U (zM 2 G (zA 0 G o0)) (zz U3 [] λ a w U=>?_);refine aa<|qh<|al ?_ (am G U (zm 0 G));rw [hI.fin hl hm hb0];exact BX (bY _ _)
def MgB (b:Nat)(l:List Nat):As where
 n:=1
 ag:=false
 p B cs w:=(MgA l).p B cs w∧∀ c∈cs,∀ g,blk c=some g→b≤g
 deps:=(MgA l).deps
 len:=λ B cs w h=>(MgA l).len B cs w h.1
 one:=λ B cs w h=>(MgA l).one B cs w h.1
 ag1:=λ _=>rfl
 cg:=λ B cs w w' hg h=>⟨(MgA l).cg B cs w w' hg h.1,h.2⟩
 wr:=λ B cs w w' g c T fz h1 h2 h3 h4 h=>⟨(MgA l).wr B cs w w' g c T fz h1 h2 h3 h4 h.1,h.2⟩
theorem rK :Wk (MgB b l).va (MgA l).va:=λ _ _ _ ⟨cs,h,hv⟩=>⟨cs,h.1,hv⟩
theorem rJ (h:(MgB b l).va.p B v w):∀ g,blk v=some g→b≤g:=by
 obtain ⟨cs,⟨h1,h2⟩,hv⟩:=h;have hn:=(MgA l).len _ _ _ h1
 match cs,hn with
 | [c],_ =>
  have e:v=c:=hv;subst e;exact h2 _ (by simp)
theorem Ch (h:(MgA l).va.p B v w)(hb:∀ g,blk v=some g→b≤g):(MgB b l).va.p B v w:=by
 obtain ⟨cs,h1,hv⟩:=h;have hn:=(MgA l).len _ _ _ h1
 match cs,hn with
 | [c],_ =>
  have e:v=c:=hv;subst e;exact ⟨[v],⟨h1,λ c hc=>by simp at hc;subst hc;exact hb⟩,rfl⟩
theorem famB (b:Nat):Fam (MgB b):=⟨λ _=>rfl,λ _=>rfl,λ l B v w h=>by
 obtain ⟨A,c,hv,hm,hk⟩:=famA.op l B v w (rK _ _ _ h);refine ⟨A,c,hv,hm,λ k=>Ch (hk k) λ g hg=>rJ h g ?_⟩;rw [hv];cases A with
 | none=>cases hg
 | some ad=>exact hg,λ B w=>⟨fN B w,λ c hc g hg=>by simp at hc;subst hc;cases hg⟩⟩
theorem BW (ok:okL l):Wk (OwnR b U32 1 [] (NL l)) (MgB b l).va:=λ B v w h=>Ch (BX ok B v w h) λ g hg=>by
 obtain ⟨_,_,ds,_,_,h5⟩:=h;rcases h5 with ⟨h5,_⟩|⟨g',cap,cur,e1,e2,_⟩
 ·have e:v=.slice none 0 0:=h5;rw [e] at hg;cases hg
 ·rw [e1] at hg;injection hg with hg;rw [← hg];exact e2
theorem wsub' {x y:Nat}(h:y≤x)(hx:x<18446744073709551616):IntKind.u64.wrap ((x:Int)-(y:Int))=((x-y:Nat):Int):=by
 have e:((x:Int)-(y:Int))=((x-y:Nat):Int):=by omega
 rw [e,wu64 zo]
theorem IG {l m:Ya}(h:i<l.length)(hl:okL l)(hm:okL m):NL (digs i (dif l m i))++NL [(if l[i]<1-dif l m i/4294967296^i+m.getD i 0 then l[i]+4294967296 else l[i])-(1-dif l m i/4294967296^i+m.getD i 0)]=NL (digs (i+1) (dif l m (i+1))):=by
 have h1:=fS hm i;have h2:=wN (m:=m) hl i;have h3:=hl _ (qg h);unfold NL;rw [pR h hm,er,zw]
 congr 3
 generalize dif l m i/4294967296^i=q at *;generalize m.getD i 0=y at *;generalize l[i]=x at *;split <;> omega
theorem II {l m:Ya}(h:i<l.length)(hl:okL l)(hm:okL m):(if l[i]<1-dif l m i/4294967296^i+m.getD i 0 then 1 else 0)=1-dif l m (i+1)/4294967296^(i+1):=by
 rw [xp];exact mr h hl hm rfl
theorem IH {l m:Ya}(hl:okL l)(h:m.length≤l.length)(hv:val m≤val l):bx (digs l.length (dif l m l.length))=aA (val l-val m):=by
 have:=ro hl h hv;unfold lP at this;rw [xX,ko,zX] at this;exact this
theorem Bj (l m:Ya)(hls:l.length≤10000000000)(hml:m.length≤l.length)(hv:val m≤val l):CnI Tryz.prog 250 [(MgA l).va,(MgA m).va] (λ b=>(MgB b (aA (val l-val m))).va):=by
 obtain ⟨it,z,e1,e2,e3,e4,e5⟩:=nr;refine CnI.introF Tryz.func250 G zk nq (λ B w0 a hF0 hF U=>?_);have U:=zn [(0,(MgA l).va),(1,(MgA m).va)] [] U;obtain ⟨v0,hv0,U⟩:=U.eqv 0 rfl;obtain ⟨v1,hv1,U⟩:=U.eqv 1 rfl;have hl:=(eD hv0).1;have hm:=(eD hv1).1;refine qb<|zh WR WS U (zE G aX) (zz WT [] ?_);refine ztA<|zhA UY WZ (zE G aX) (zz WW [] ?_);refine ztA<|zhA U5 Ut (zv G (aR (aF 0 G)) o0) (zz UZ [] ?_);refine ztA<|zsA<|zhA [.v 7 _] U7 (zE G ab) (zz (Wj 0 1 4 5 6 7) [] λ a w U=>?_);refine aa<|qk ?_;have U:=U.sel [0,1,3,4,5];refine wp_loop_ghost (λ n a w=>∃ i:Nat,(n+i=l.length)∧St B w0 47 [(0,EqV v0),(1,EqV v1),(5,OwnR w0.w.heap.size U32 1 [] (NL (digs i (dif l m i)))),(6,(NumA .u64 ((1-dif l m i/4294967296^i:Nat):Int)).va),(7,In (i:Nat))] [] a w) (l.length) ?_ ?_
 ·exact ⟨0,by omega,St.wkG (A':=(NumA .u64 ((1-dif l m 0/4294967296^0:Nat):Int)).va) (U.wkG 2 G mJ) 3 G (ba (qp (λ x:Nat=>(NumA .u64 (x:Int)).va) (wM l m).symm))⟩
 intro n a w hI;obtain ⟨i,hn,U⟩:=hI;have hc:=wN (m:=m) hl i;have hc1:1-dif l m i/4294967296^i≤1:=vS _ _;have hg2:=fS hm i;refine qb<|qb<|zh (Ww 10) (Wi [.o 3]) U (zM 4 G (zM 0 G (zv G (aK qd (aV hF hv0 (vq 1 G))) (zv G (aN (vq 0 G) (vq 2 G)) o0)))) (zz (Wj 0 1 5 6 7 13) [] λ a w U=>?_);refine zJ 5 U G (λ hb0=>?_) (λ hb0=>?_)
 ·have hi:i<l.length:=by simp at hb0;omega
  have hx:=hl _ (qg hi);refine qj<|zt<|qk<|qb<|zh [.v 16 _,.v 8 _] U8 U (zM 3 G (zA 0 G o0)) (zz (Wj 0 1 5 6 7 8) [] ?_);refine ztA<|zsA<|zhA (Ww 17) (Wq [.o 3]) (zM 4 G (zM 1 G (zv G (aK qd (aV hF hv1 (vq 1 G))) (zv G (aN (vq 0 G) (vq 2 G)) o0)))) (zz (Wu 0 1 5 6 7 8 20) [] λ a w U=>?_);refine aa<|bP (λ a w =>  St B w0 47 [(0,EqV v0),(1,EqV v1),(5,OwnR w0.w.heap.size U32 1 [] (NL (digs i (dif l m i)))),(7,In (i:Nat)),(8,(NumA .u64 ((1-dif l m i/4294967296^i+m.getD i 0:Nat):Int)).va)] [] a w) U (zm 6 G) (λ hb1=>?_) (λ hb1=>?_) (λ a w U=>?_)
  ·refine zh (WG 21 [.v 8 _]) (Wi [.o 7]) U (zM 5 G (zM 1 G (zM 4 G (zv G (bO bc (aV hF hv1 (vq 1 G)) (vq 2 G) (by simp at hb1;omega)) (zv G (ao (vq 3 G) aO) (zv G (aH .u64 zk zk (vq 4 G) (wu64 (zD (hm _ (qg _)) zd))) (zv G (aL (vq 0 G) (vq 5 G) (dQ (by have:=hm _ (qg (by simp at hb1;omega:i<m.length));omega))) (zA 6 G o0)))))))) (zz (Wj 0 1 5 6 7 8) [] λ a w U=>?_);refine aa ?_;have U:=U.sel [0,1,2,4,5];rw [cV (by simp at hb1;omega) (l:=m)];exact U
  ·refine qj<|aa ?_;have U:=U.sel [0,1,2,4,5];rw [en (by simp at hb1;omega) (l:=m)];exact U
  refine zt<|zh (Wd 28 [.v 9 _]) (Wi [.o 5]) U (zM 0 G (zM 3 G (zv G (bO bc (aV hF hv0 (vq 0 G)) (vq 1 G) hi) (zv G (ao (vq 2 G) aO) (zv G (aH .u64 zk zk (vq 3 G) (wu64 (zD (hl _ (qg _)) zd))) (zA 4 G o0)))))) (zz (Wj 0 1 5 7 8 9) [] ?_);refine ztA<|zhA U5 (Wq [.o 0]) (zv G (aR (aF 0 G)) o0) (zz (Wu 0 1 5 7 8 9 6) [] ?_);refine ztA<|zsA<|zhA (Wb 33) (Wx [.o 2]) (zM 5 G (zM 4 G (zv G (aN (vq 0 G) (vq 1 G)) o0))) (zz (Wy 0 1 5 7 8 9 6 35) [] λ a w U=>?_);refine aa<|bP (λ a w =>  St B w0 47 [(0,EqV v0),(1,EqV v1),(5,OwnR w0.w.heap.size U32 1 [] (NL (digs i (dif l m i)))),(6,(NumA .u64 (((if l[i]<1-dif l m i/4294967296^i+m.getD i 0 then 1 else 0):Nat):Int)).va),(7,In (i:Nat)),(8,(NumA .u64 ((1-dif l m i/4294967296^i+m.getD i 0:Nat):Int)).va),(9,(NumA .u64 (((if l[i]<1-dif l m i/4294967296^i+m.getD i 0 then l[i]+4294967296 else l[i]):Nat):Int)).va)] [] a w) U (zm 7 G) (λ hb2=>?_) (λ hb2=>?_) (λ a w U=>?_)
  ·refine qb<|zh (W6 36 [.v 9 _]) (Wi [.g 6,.o 2]) U (zM 5 G (zv G (aL (vq 0 G) (aF 4294967296 G) (dQ zo)) (zA 1 G o0))) (zz (Wu 0 1 5 7 8 6 9) [] ?_);refine znA<|zhA U5 (Wi [.g 6,.o 0]) (zv G (aR (aF 1 G)) o0) (zz (Wu 0 1 5 7 8 9 6) [] λ a w U=>?_);refine aa ?_;have U:=U.sel [0,1,2,6,3,4,5];have hlt:l[i]<1-dif l m i/4294967296^i+m.getD i 0:=kR.1 (qt hb2);rw [qC hlt,qC hlt];exact U
  ·refine qj<|aa ?_;have U:=U.sel [0,1,2,6,3,4,5];have hlt:¬ l[i]<1-dif l m i/4294967296^i+m.getD i 0:=λ h=>qv hb2 (kR.2 h);rw [qz hlt,qz hlt];exact U
  refine aa<|lr (sp:=[.v 38 _,.v 39 _,.v 40 _,.v 41 _,.v 42 _,.v 43 _,.v 44 VT,.v 5 VT]) 6 [0,1,3,4] 0 5 U (zM 2 rfl (zM 6 rfl (zM 5 rfl (zv rfl (cH (vq 1 rfl) (vq 2 rfl) (wsub' (by split <;> omega) (by split <;> omega))) (zv rfl (aH .u32 zk zk (vq 3 rfl) (wu32 (by split <;> omega))) (zv rfl (dF (l:=[_]) (xs:=[.tmp 42]) bc zk nq nq ((fc (by split <;> omega))) (.o (vq 4 rfl)) rfl rfl) o0)))))) rfl zk rfl rfl zd rfl zd rfl (λ _ _ h _=>(eD h).2) qd e1 e2 e3 e4 e5 zd (by simp only [qc,ay,z7];omega) zd (λ T hT=>hT) zd (λ A hA=>by obtain ⟨_,_,rfl⟩:=qq.1 hA;rfl) zk nq nq zk zk (zz (W8 5 0 1 6 7) [] λ a w U=>?_);refine ak ?_;refine aa<|zh (W6 14 [.v 7 _]) RZ U (zM 4 G (zv G (aL (vq 0 G) ab (aW zo)) (zA 1 G o0))) (zz (W8 5 0 1 6 7) [] λ a w U=>?_);refine aa ?_;have U:=U.sel [1,2,0,3,4];exact ⟨n-1,by omega,i+1,by omega,St.wkG (A':=(NumA .u64 ((1-dif l m (i+1)/4294967296^(i+1):Nat):Int)).va) (St.wkG (A':=OwnR w0.w.heap.size U32 1 [] (NL (digs (i+1) (dif l m (i+1))))) U 2 G (ba (qp (OwnR w0.w.heap.size U32 1 []) (IG hi hl hm)))) 3 G (ba (qp (λ x:Nat=>(NumA .u64 (x:Int)).va) (II hi hl hm)))⟩
 ·obtain rfl:i=l.length:=by simp at hb0;omega
  have U:=St.wkG (A':=(MgB w0.w.heap.size (digs l.length (dif l m l.length))).va) U 2 rfl (BW (bY _ _));refine qL<|ai<|ai<|az<|zt<|zh (W6 45 [.v 4 _]) Ud U (zM 2 G (zQ G (eE (famB w0.w.heap.size) _) (.o (vq 0 G)) (zA 1 G o0))) (zz U3 [] λ a w U=>?_);refine aa<|qh<|al ?_ (am G U (zm 0 G));rw [IH hl hml hv];exact aG
theorem CnI.cn {f:Yn}{pre:Yc}{mk:Nat→VA}{A:VA}(h:CnI P f pre mk)(hw:∀ b,Wk (mk b) A):Cn P f pre A:=⟨h.1,λ B w args hB ha=>(h.2 B w args hB ha).mono λ e w' ⟨v,he,hv,hg⟩=>⟨v,he,hw _ _ _ _ hv,hg⟩⟩
theorem Bh (l m:Ya)(hls:l.length≤10000000000)(hml:m.length≤l.length)(hv:val m≤val l):Cn Tryz.prog 250 [(MgA l).va,(MgA m).va] (MgA (aA (val l-val m))).va:=(Bj l m hls hml hv).cn λ _=>rK
theorem MulI.step' {a b L:Ya}{i u k c:Nat}(h:MulI a b L i u k c)(hb:okL b)(hu:u<4294967296)(hk:k<b.length)(hj:i+k<L.length) :
  MulI a b (L.set (i+k) ((u*b[k]+L[i+k]+c)%4294967296)) i u (k+1) ((u*b[k]+L[i+k]+c)/4294967296):=by
 have:=h.step hb hu hk hj;rw [xp c] at this;exact this
theorem K1 {a b L:Ya}(ha:okL a)(hb:okL b)(h:MulO a b L a.length):bx L=aA (val a*val b):=by
 rw [h.fin,l3];rw [xf];exact kV (fF ha) (fF hb)
theorem Bn (l m:Ya)(hls:l.length≤1099511627776)(hms:m.length≤1099511627776):Cn Tryz.prog 232 [(MgA l).va,(MgA m).va] ((MgN (aA (val l*val m))).va):=by
 refine Cn.introW Tryz.func232 G zk nq (.cons (mo _).va (.cons (mo _).va .nil)) (eA _).va (λ B w0 a hB0 U=>?_);have U:=zn [(0,(MgO l).va),(1,(MgO m).va)] [] U;have ha:=(U.magO 0 rfl).1;have hb:=(U.magO 1 rfl).1;refine qb<|zh WR WS U (zE G aX) (zz WT [] λ a w U=>?_);refine zt<|dz (sts:=[]) (news:=[⟨15,138,slH _ _,some 5,_,none⟩]) (sp:=[.v 10 _,.v 11 _,.v 12 _,.v 13 _,.v 14 _,.alc 0,.adr 5 15 .none True]) [.g 0,.g 1,.g 2] [(5,15)] [zpH 5 138 _] U (zM 0 G (zv G (aK qd (aC (vq 0 G))) (zM 1 G (zv G (aK qd (aC (vq 2 G))) (zv G (aL (vq 1 G) (vq 3 G) (i6 zo)) (oc (eF G G G fA (vq 4 G) (vq 4 G) zo) (oc (ob_a G G nB) o0))))))) zk zk zk ⟨⟨6,rfl⟩,trivial⟩ G zk (zz WT [zpH 5 138 _] ?_);refine ztA<|zsA<|zgA U4 [] U5 WZ (zE G ab) (zz (Wf 0 1 4 6) [zpH 5 138 _] λ a w U=>?_);refine aa<|qk ?_;have U:=U.sel [0,1,3];refine wp_loop_ghost (λ n a w=>∃ (i:Nat) (L:List Nat),n+i=l.length∧MulO l m L i∧St B w0 69 [(0,(MgO l).va),(1,(MgO m).va),(6,In (i:Nat))] [⟨5,138,slH (l.length+m.length) (l.length+m.length),Nums .u32 L⟩] a w) (l.length) ?_ ?_
 ·exact ⟨0,_,by omega,MulO.start _ _,U⟩
 intro n a w hI;obtain ⟨i,L,hn,hO,U⟩:=hI;obtain ⟨n1,hn1⟩:∃ n1,n1=n:=⟨n,rfl⟩;have hlen:=hO.len;refine qb<|qb<|zg U6 [] (Ww 16) WV U (zM 2 G (zM 0 G (zv G (aK qd (aC (vq 1 G))) (zv G (aN (vq 0 G) (vq 2 G)) o0)))) (zz (Wf 0 1 6 19) [zpH 5 138 _] λ a w U=>?_);refine zJ 3 U G (λ hb0=>?_) (λ hb0=>?_)
 ·have hi:i<l.length:=by simp at hb0;omega
  refine qj<|zt<|qk<|qb<|zg U6 [] [.v 7 _] WZ U (zv G (aR (aF 0 G)) o0) (zz (Wf 0 1 6 7) [zpH 5 138 _] ?_);refine ztA<|zsA<|zgA U4 [] [.v 8 _] Ut (zE G ab) (zz (W8 0 1 6 7 8) [zpH 5 138 _] λ a w U=>?_);refine aa<|qk ?_;have U:=U.sel [0,1,2,3,4];refine wp_loop_ghost (λ n a w=>∃ (k c:Nat) (L:List Nat),n+k=m.length∧MulI l m L i l[i] k c∧St B w0 69 [(0,(MgO l).va),(1,(MgO m).va),(6,In (i:Nat)),(7,(NumA .u64 ((c:Nat):Int)).va),(8,In (k:Nat))] [⟨5,138,slH (l.length+m.length) (l.length+m.length),Nums .u32 L⟩] a w) (m.length) ?_ ?_
  ·exact ⟨0,0,L,by omega,hO.row _,U⟩
  intro n a w hI;clear hlen hO;obtain ⟨k,c,L,hn2,hI,U⟩:=hI;have hlen:=hI.len;have hc:=hI.cl;refine qb<|qb<|zg U6 [] (Ww 22) (Wi [.o 3]) U (zM 4 G (zM 1 G (zv G (aK qd (aC (vq 1 G))) (zv G (aN (vq 0 G) (vq 2 G)) o0)))) (zz (Wj 0 1 6 7 8 25) [zpH 5 138 _] λ a w U=>?_);refine zJ 5 U G (λ hb1=>?_) (λ hb1=>?_)
  ·have hk:k<m.length:=by simp at hb1;omega
   refine qj<|zt<|qk<|qb<|zgd [[],[],[0,1],[0,1,2],(Wm 4),[],[],[5,6],[5,6,7],[5,6,7,8],(Wm 10),[],[],[],[12,13],[11,12,13,14],[11,12,13,14,15],[11,12,13,14,15,16],(Wm 18),[],(Wm 20),(Wm 21)] U4 [] (WM 28 (.adr 39 5 .none True::(Wb 40 (.adr 43 5 (.some _) True::(Wd 44 [.v 9 _]))))) (Wi [.o 21]) ac U (zM 0 G (zM 2 G (zv G (bO bc (aC (vq 0 G)) (vq 1 G) zo) (zv G (ao (vq 2 G) aO) (zv G (aH .u64 zk zk (vq 3 G) (wu64 (zD (ha _ (qg _)) zd))) (zM 1 G (zM 4 G (zv G (bO bc (aC (vq 5 G)) (vq 6 G) zo) (zv G (ao (vq 7 G) aO) (zv G (aH .u64 zk zk (vq 8 G) (wu64 (zD (hb _ (qg _)) zd))) (zv G (mF (vq 4 G) (vq 9 G) (rb (qY (qf (wd _ _) (j9 _ _)) (lJ (ha _ (qg _)) (hb _ (qg _)) (show 0<4294967296 by decide) (show 0<4294967296 by decide))))) (oc (ob_a G G cW) (zM 2 G (zM 4 G (zv G (aL (vq 12 G) (vq 13 G) (i6 zo)) (oc (ob_a G G (eU 11 G zk (lz0 0 G) bc (vq 14 G) zo)) (zv G (sT 15 G zk (lz0 0 G) (λ _=>cw _ _ _ _) (oY zo) aO) (zv G (aH .u64 zk zk (vq 16 G) (wu64 (zD (hI.ok _ (qg _)) zd))) (zv G (aL (vq 10 G) (vq 17 G) (dQ (qY (j9 _ _) (lJ (ha _ (qg _)) (hb _ (qg _)) hc (hI.ok _ (qg _)))))) (zM 3 G (zv G (aL (vq 18 G) (vq 19 G) (dQ (by rw [xp];exact lJ (ha _ (qg _)) (hb _ (qg _)) hc (hI.ok _ (qg _))))) (zA 20 G o0)))))))))))))))))))))) zk zk zk zk (zz (Wj 0 1 6 7 8 9) [zpH 5 138 _] ?_);refine ztA<|zgA [some (8,_)] [] (.adr 49 5 .none True::(Wl 50 [.adr 56 5 (.some _) True,.sto 0])) Wq (oc (ob_a G G cW) (zM 2 G (zM 4 G (zv G (aL (vq 1 G) (vq 2 G) (i6 zo)) (zM 5 G (zv G (nG (vq 4 G) (aF 4294967296 G) zd (nrem)) (zv G (aH .u32 zk zk (vq 5 G) (wu32 (qW _ zd))) (oc (ob_a G G (eU 0 G zk (lz0 0 G) bc (vq 3 G) zo)) (oc (cK 7 G G G G zk (λ _=>cw _ _ _ _) (vq 6 G) aO (bJ zo)) o0))))))))) (zz (Wj 0 1 6 7 8 9) [zpH 5 138 _] ?_);refine znA<|zgA U4 [] (W6 57 [.v 7 _]) (W7 [.g 4,.o 2]) (zM 5 G (zv G (nH (vq 0 G) (aF 4294967296 G) zd (nquo (qY (ka _ _) (by rw [xp];exact lJ (ha _ (qg _)) (hb _ (qg _)) hc (hI.ok _ (qg _)))))) (zA 1 G o0))) (zz (W8 0 1 6 8 7) [zpH 5 138 _] λ a w U=>?_);refine ak ?_;refine aa<|zg U6 [] (W6 26 [.v 8 _]) (W7 [.g 4,.o 2]) U (zM 3 G (zv G (aL (vq 0 G) ab (aW zo)) (zA 1 G o0))) (zz (W8 0 1 6 7 8) [zpH 5 138 _] λ a w U=>?_);refine aa ?_;have U:=U.sel [0,1,2,3,4];exact ⟨n-1,by omega,k+1,_,_,by omega,hI.step' hb (ha _ (qg _)) hk zo,U⟩
  ·obtain rfl:k=m.length:=by simp at hb1;omega
   refine qL<|ai<|ai<|az<|aa<|zg [some (8,_)] [] (.adr 59 5 .none True::(Wl 60 [.adr 66 5 (.some _) True,.sto 0])) W7 U (oc (ob_a G G cW) (zM 2 G (zM 1 G (zv G (aK qd (aC (vq 2 G))) (zv G (aL (vq 1 G) (vq 3 G) (i6 zo)) (zM 3 G (zv G (aH .u32 zk zk (vq 5 G) (wu32 hc)) (oc (ob_a G G (eU 0 G zk (lz0 0 G) bc (vq 4 G) zo)) (oc (cK 7 G G G G zk (λ _=>cw _ _ _ _) (vq 6 G) aO (bJ zo)) o0))))))))) (zz (Wa 0 1 6) [zpH 5 138 _] λ a w U=>?_);refine ak ?_;refine aa<|zg U6 [] (W6 20 [.v 6 _]) U1 U (zM 2 G (zv G (aL (vq 0 G) ab (aW zo)) (zA 1 G o0))) (zz (Wa 0 1 6) [zpH 5 138 _] λ a w U=>?_);refine aa ?_;have U:=U.sel [0,1,2];exact ⟨n1-1,by omega,i+1,_,by omega,hI.done hi rfl,U⟩
 ·obtain rfl:i=l.length:=by simp at hb0;omega
  refine qL<|ai<|ai<|az<|zt<|zg U6 [] [.adr 67 5 .none True,.v 68 _,.v 4 _] Ud U (oc (ob_a G G cW) (zQ G (eE famN _) (.o (iB 0 G zk (lz0 0 G) ⟨hO.len.symm,qi _,by unfold maxLen;omega,hO.ok⟩ hO.len.symm)) (zA 1 G o0))) (zz U3 [zpH 5 138 _] λ a w U=>?_);refine aa<|qh<|al ?_ (am G U (zm 0 G));rw [K1 ha hb hO];exact aG
theorem lV (x:Nat):(bx [x]).length≤1∧val (bx [x])=x:=⟨AI [x],by rw [ri];simp [val]⟩
theorem ul (l:Ya)(x:Nat)(hls:l.length≤1099511627776)(hx:x<4294967296):Cn Tryz.prog 267 [(MgA l).va,(NumA .u32 (x:Nat)).va] ((MgA (aA (val l*x))).va):=by
 refine Cn.intro Tryz.func267 G zk nq (zy [(0,(MgA l).va),(1,(NumA .u32 (x:Nat)).va)] λ B w0 a U=>?_);refine qb<|zh WR WS U (zE G aX) (zz WT [] ?_);refine ztA<|zhA (Wd 5 [.v 4 _]) [.o 5] (zM 0 G (zM 1 G (zv G (dF (l:=[_]) (xs:=[.tmp 6]) bc zk nq nq ((fc hx)) (.o (vq 1 G)) G G) (zQ G (eE famA _) (.o (vq 2 G)) (zQ G (Bn l (bx [x]) hls (qf (lV x).1 zd)) (.p (vq 0 G) (vq 3 G)) (zA 4 G o0)))))) (zz U3 [] λ a w U=>?_);refine aa<|qh<|al ?_ (am G U (zm 0 G));rw [(lV x).2];exact rc
def rsSt (l:List Nat)(d n:Nat):List Nat:=List.replicate n 0++digs (l.length-n) (val (l.drop n)/d)
theorem gf (h:n≤l.length):(rsSt l d n).length=l.length:=by simp [rsSt,ay];omega
theorem nT (l:Ya)(d:Nat):rsSt l d l.length=List.replicate l.length 0:=by simp [rsSt,digs]
theorem Bk :okL (rsSt l d n):=okL_append.2 ⟨λ x hx=>by rw [(xM.1 hx).2];decide,bY _ _⟩
theorem eX (h:j<l.length):val (l.drop j)=l[j]+4294967296*val (l.drop (j+1)):=by
 rw [qK h];rfl
theorem H4 {x V d:Nat}(hd:0<d):(x+4294967296*V)/d=4294967296*(V/d)+(V%d*4294967296+x)/d∧(x+4294967296*V)%d=(V%d*4294967296+x)%d:=by
 have e:x+4294967296*V=(V%d*4294967296+x)+d*(4294967296*(V/d)):=by
  have:=x3 V d;have e2:d*(4294967296*(V/d))=4294967296*(d*(V/d)):=by rw [vZ]
  generalize d*(V/d)=p at *;omega
 rw [e,kh _ _ hd,jV];exact ⟨by omega,rfl⟩
theorem EN {x V d:Nat}(hd:0<d)(hx:x<4294967296):(V%d*4294967296+x)/d<4294967296:=by
 have h1:=qW V hd;rw [kg hd];have h2:(V%d+1)*4294967296≤d*4294967296:=qJ _ h1;omega
theorem sM (hl:okL l)(hd:0<d)(hj:j<l.length):(rsSt l d (j+1)).set j ((val (l.drop (j+1))%d*4294967296+l[j])/d)=rsSt l d j:=by
 unfold rsSt;have e:l.length-j=(l.length-(j+1))+1:=by omega
 rw [eX hj,(H4 hd).1,e,xp (4294967296*_),xp _ (4294967296*_),sj _ _ _ (EN hd (hl _ (qg hj)))];rw [je,qP,fH _ _ _ _ (by simp)]
 rfl
theorem sN (hd:0<d)(hj:j<l.length):(val (l.drop (j+1))%d*4294967296+l[j])%d=val (l.drop j)%d:=by
 rw [eX hj,(H4 hd).2]
theorem H3 (hl:okL l):bx (rsSt l d 0)=aA (val l/d):=by
 unfold rsSt;rw [ko,jG,jK,xk,l3];exact qY (ka _ _) (fF hl)
theorem um (l:Ya)(d:Nat)(hls:l.length≤1099511627776)(hd:0<d)(hd2:d<4294967296):Cn Tryz.prog 266 [(MgA l).va,(NumA .u32 (d:Nat)).va] (Tu [(MgN (aA (val l/d))).va,(NumA .u32 (val l%d:Nat)).va]):=by
 refine Cn.introW Tryz.func266 G zk nq (.cons (mo _).va (.cons (lD _ _).va .nil)) (pA (.cons (eA _).va (.cons (co _ _).va .nil))) (λ B w0 a hB0 U=>?_);have U:=zn [(0,(MgO l).va),(1,(NumA .u32 (d:Nat)).va)] [] U;have hl:=(U.magO 0 rfl).1;refine qb<|zh (W6 4) Ro U (zv G (aR aX) (zv G (aR (aF 0 G)) o0)) (zz WW [] λ a w U=>?_);refine zt<|dz (sts:=[]) (news:=[⟨12,138,slH _ _,some 2,_,none⟩]) (sp:=[.v 10 _,.v 11 _,.alc 0,.adr 6 12 .none True]) [.g 0,.g 1,.g 2,.g 3] [(6,12)] [zpH 6 138 _] U (zM 0 G (zv G (aK qd (aC (vq 0 G))) (oc (eF G G G fA (vq 1 G) (vq 1 G) zo) (oc (ob_a G G nB) o0)))) zk zk zk ⟨⟨3,rfl⟩,trivial⟩ G zk (zz WW [zpH 6 138 _] ?_);refine ztA<|zgA U4 [] [.v 7 _] Ut (zv G (aR (aF 0 G)) o0) (zz (W8 0 1 4 5 7) [zpH 6 138 _] ?_);refine ztA<|zsA<|zgA U4 [] (Wb 13 [.v 8 _]) (Wi [.o 3]) (zM 0 G (zv G (aK qd (aC (vq 0 G))) (zv G (cH (vq 1 G) ab (wi64 zo zo)) (zA 2 G o0)))) (zz (Wj 0 1 4 5 7 8) [zpH 6 138 _] λ a w U=>?_);refine aa<|qk ?_;have U:=U.sel [0,1,4,5];refine wp_loop_ghost (λ n a w=>n≤l.length∧St B w0 44 [(0,(MgO l).va),(1,(NumA .u32 (d:Nat)).va),(7,(NumA .u64 ((val (l.drop n)%d:Nat):Int)).va),(8,In ((n:Int)-1))] [⟨6,138,slH l.length l.length,Nums .u32 (rsSt l d n)⟩] a w) (l.length) ?_ ?_
 ·exact ⟨qi _,by rw [nT,show val (l.drop l.length)%d=0 from by simp];exact U⟩
 intro n a w hI;obtain ⟨hn,U⟩:=hI;have hmd:=qW (val (l.drop n)) hd;refine qb<|qb<|zg U6 [] (W6 16) Rh U (zM 3 G (zv G (dP (vq 0 G) ab) o0)) (zz (W8 0 1 7 8 17) [zpH 6 138 _] λ a w U=>?_);refine zJ 4 U G (λ hb0=>?_) (λ hb0=>?_)
 ·obtain ⟨j,rfl⟩:∃ j,n=j+1:=⟨n-1,by simp at hb0;omega⟩;rw [show ((j+1:Nat):Int)-1=(j:Int) from by omega] at U;have hj:j<l.length:=by omega
  have hx:=hl _ (qg hj);refine qj<|zt<|qk<|qb<|zg U6 [] (W9 20 [.v 9 _]) (Wp [.o 8]) U (zM 2 G (zv G (mF (vq 0 G) (aF 4294967296 G) (rb zo)) (zM 0 G (zM 3 G (zv G (bO bc (aC (vq 2 G)) (vq 3 G) hj) (zv G (ao (vq 4 G) aO) (zv G (aH .u64 zk zk (vq 5 G) (wu64 zo)) (zv G (aL (vq 1 G) (vq 6 G) (dQ zo)) (zA 7 G o0))))))))) (zz (W8 0 1 7 8 9) [zpH 6 138 _] ?_);refine ztA<|zgA [some (8,_)] [] (.adr 28 6 .none True::(Wl 29 [.adr 35 6 (.some _) True,.sto 0])) Wi (oc (ob_a G G cW) (zM 3 G (zM 4 G (zM 1 G (zv G (aH .u64 zk zk (vq 3 G) (wu64 zo)) (zv G (nH (vq 2 G) (vq 4 G) zo (nquo (zD (EN hd hx) zd))) (zv G (aH .u32 zk zk (vq 5 G) (wu32 (EN hd hx))) (oc (ob_a G G (eU 0 G zk (lz0 0 G) bc (vq 1 G) hj)) (oc (cK 7 G G G G zk (λ _=>cw _ _ _ _) (vq 6 G) aO (bJ (by rw [gf zo];omega))) o0))))))))) (zz (W8 0 1 7 8 9) [zpH 6 138 _] ?_);refine znA<|zgA U4 [] (Ww 36 [.v 7 _]) (We [.g 3,.o 4]) (zM 4 G (zM 1 G (zv G (aH .u64 zk zk (vq 1 G) (wu64 zo)) (zv G (nG (vq 0 G) (vq 2 G) zo (nrem)) (zA 3 G o0))))) (zz (Wf 0 1 8 7) [zpH 6 138 _] λ a w U=>?_);refine ak ?_;refine aa<|zg U6 [] (W6 18 [.v 8 _]) Ri U (zM 2 G (zv G (cH (vq 0 G) ab (wi64 zo zo)) (zA 1 G o0))) (zz (Wf 0 1 7 8) [zpH 6 138 _] λ a w U=>?_);refine aa ?_;have U:=U.sel [0,1,2,3];rw [sM hl hd hj,sN hd hj] at U;exact ⟨j,by omega,by omega,U⟩
 ·obtain rfl:n=0:=by simp at hb0;omega
  refine qL<|ai<|ai<|az<|zt<|zg U6 [] (.adr 40 6 .none True::(Wb 41 (W6 4))) [.o 4,.o 5] U (oc (ob_a G G cW) (zQ G (eE famN _) (.o (iB 0 G zk (lz0 0 G) ⟨by rw [gf (zx _)],qi _,by unfold maxLen;omega,Bk⟩ (by rw [gf (zx _)]))) (zM 2 G (zv G (aH .u32 zk zk (vq 2 G) (wu32 zo)) (zA 1 G (zA 3 G o0)))))) (zz (Wc 4 5) [zpH 6 138 _] λ a w U=>?_);refine aa<|qh<|al ?_ (aP (rs:=[.tmp 4,.tmp 5]) G U (.tmp (zm 0 G) (.tmp (zm 1 G) .nil)) zd);rw [H3 hl,xk];exact aG
theorem J8 (l:Ya)(hls:l.length≤1099511627776):Cn Tryz.prog 260 [(MgA l).va] ((MgA (aA (val l/2))).va):=by
 refine Cn.intro Tryz.func260 G zk nq (zy [(0,(MgA l).va)] λ B w0 a U=>?_);refine qb<|zh UA Rk U (zE G aX) (zz Rl [] ?_);refine ztA<|zhA (W6 6 (.v 5 _::(W6 8 (W6 3)))) [.g 1,.o 5] (zM 0 G (zQ G (um l 2 hls zd zd) (.p (vq 0 G) (aF 2 G)) (zV 1 G (zv G (aQ (vq 2 G) G) (zv G (aQ (vq 2 G) G) (zA 3 G (zA 4 G o0))))))) (zz (Wc 2 3) [] ?_);refine ztA<|zhA [.v 10 _,.v 2 _] Uw (zM 1 G (zA 0 G o0)) (zz Ux [] λ a w U=>?_);refine aa<|qh<|al ?_ (am G U (zm 0 G));exact rc
theorem O9 (h:0<l.length):val l%2=l[0]%2:=by
 have:=eX h;rw [xk] at this;omega
theorem Ja (l:Ya)(h:0<l.length):Cn Tryz.prog 259 [(MgA l).va] (Bo (((val l%2:Nat):Int)==((0:Nat):Int))):=by
 refine Cn.intro Tryz.func259 G zk nq (zy [(0,(MgA l).va)] λ B w0 a U=>?_);refine qb<|zh UA Rk U (zE G aE) (zz Rl [] ?_);refine ztA<|zhA (Wd 3 [.v 2 _]) [.o 5] (zM 0 G (zv G (bO bc (vq 0 G) (aF 0 G) h) (zv G (ao (vq 1 G) aO) (zv G (nG (vq 2 G) (aF 2 G) zd (nrem)) (zv G (bC (vq 3 G) (aF 0 G)) (zA 4 G o0)))))) (zz Ux [] λ a w U=>?_);refine aa<|qh<|al ?_ (am G U (zm 0 G));rw [O9 h];exact aG
theorem cm_le0 {X Y:Nat}:cmL (aA X) (aA Y)≤0↔X≤Y:=by
 rw [fV];split
 ·omega
 ·split <;> omega
theorem QC {R D q:Nat}(h1:D*q≤R)(h2:R<D*(q+1)):q=R/D:=by
 rw [za] at h1 h2;exact (Nat.div_eq_of_lt_le h1 h2).symm
theorem My {R D:Nat}(hD:0<D)(hR:R<D*4294967296)(hl:(aA D).length≤1099511627776):Cn Tryz.prog 268 [(MgA (aA R)).va,(MgA (aA D)).va] ((NumA .u32 (R/D:Nat)).va):=by
 refine Cn.intro Tryz.func268 G zk nq (zy [(0,(MgA (aA R)).va),(1,(MgA (aA D)).va)] λ B w0 a U=>?_);refine qb<|zh WR WS U (zv G (aR (aF 0 G)) o0) (zz WT [] ?_);refine ztA<|zhA UY WZ (zv G (aR (aF 0 G)) o0) (zz WW [] ?_);refine ztA<|zhA U5 Ut (zv G (aR (aF 4294967295 G)) o0) (zz UZ [] λ a w U=>?_);refine zt<|qk ?_;have U:=U.sel [0,1,3,4];refine wp_loop_ghost (λ n a w=>∃ lo hi:Nat,(lo≤hi∧hi≤4294967295∧D*lo≤R∧R<D*(hi+1)∧n=hi-lo)∧St B w0 28 [(0,(MgA (aA R)).va),(1,(MgA (aA D)).va),(5,(NumA .u64 ((lo:Nat):Int)).va),(6,(NumA .u64 ((hi:Nat):Int)).va)] [] a w) (4294967295) ?_ ?_
 ·exact ⟨0,4294967295,⟨by decide,by decide,by omega,hR,rfl⟩,U⟩
 intro n a w hI;obtain ⟨lo,hi,⟨i1,i2,i3,i4,i5⟩,U⟩:=hI;refine qb<|qb<|zh (Wb 8) RZ U (zM 2 G (zM 3 G (zv G (aN (vq 0 G) (vq 1 G)) o0))) (zz (W8 0 1 5 6 10) [] λ a w U=>?_);refine zJ 4 U G (λ hb0=>?_) (λ hb0=>?_)
 ·have hlt:lo<hi:=by simp at hb0;omega
  refine qj<|aa<|qk<|qb<|zh (Wd 11 [.v 7 _]) (Wp [.o 5]) U (zM 2 G (zM 3 G (zv G (aL (vq 0 G) (vq 1 G) (dQ zo)) (zv G (aL (vq 2 G) (aF 1 G) (dQ zo)) (zv G (nH (vq 3 G) (aF 2 G) zd (nquo zo)) (zA 4 G o0)))))) (zz (W8 0 1 5 6 7) [] ?_);refine ztA<|zhA (WG 16) (Wi [.o 6]) (zM 1 G (zM 4 G (zv G (aH .u32 zk zk (vq 1 G) (wu32 zo)) (zQ G (ul (aA D) ((lo+hi+1)/2) hl zo) (.p (vq 0 G) (vq 2 G)) (zM 0 G (zQ G (rz _ _) (.p (vq 3 G) (vq 4 G)) (zv G (l9 (vq 5 G) ab) o0))))))) (zz (Wj 0 1 5 6 7 22) [] λ a w U=>?_);refine zJ 5 U G (λ hb1=>?_) (λ hb1=>?_)
  ·have hq:D*((lo+hi+1)/2)≤R:=by have:=cm_le0.1 (qt hb1);rwa [aI] at this
   refine zh [.v 23 _,.v 5 _] (We [.g 3,.o 1]) U (zM 4 G (zA 0 G o0)) (zz (Wf 0 1 6 5) [] λ a w U=>?_);refine ak ?_;refine aa ?_;have U:=U.sel [0,1,3,2];exact ⟨hi-(lo+hi+1)/2,by omega,(lo+hi+1)/2,hi,⟨by omega,i2,hq,i4,rfl⟩,U⟩
  ·have hq:R<D*((lo+hi+1)/2):=by have h9:=ji λ h=>qv hb1 (cm_le0.2 h);rwa [aI] at h9
   refine zh (W6 24 [.v 6 _]) UG U (zM 4 G (zv G (cH (vq 0 G) (aF 1 G) (wsub' zo zo)) (zA 1 G o0))) (zz (Wf 0 1 5 6) [] λ a w U=>?_);refine ak ?_;refine aa ?_;have U:=U.sel [0,1,2,3];exact ⟨(lo+hi+1)/2-1-lo,by omega,lo,(lo+hi+1)/2-1,⟨by omega,by omega,i3,by rw [jO zo];exact hq,rfl⟩,U⟩
 ·obtain rfl:lo=hi:=by simp at hb0;omega
  refine qL<|ai<|ai<|az<|zt<|zh (W6 26 [.v 4 _]) Ud U (zM 2 G (zv G (aH .u32 zk zk (vq 0 G) (wu32 zo)) (zA 1 G o0))) (zz U3 [] λ a w U=>?_);refine aa<|qh<|al ?_ (am G U (zm 0 G));rw [← QC i3 i4];exact aG
def RowX (b c:Nat)(l r:List Nat):VA where
 p B v w:=∃ g,v=.slice (some ⟨g,0,none⟩) l.length c∧b≤g∧B≤g∧c=(l++r).length∧c≤maxLen∧w.heap[g]?=some (.cells ((l++r).map λ (x:Nat)=>Value.int .u32 x).toArray U32 (0,0))
 deps:=[U32]
 cg:=by
  rintro B v w w' hg ⟨g,h1,h2,h3,h4,h5,h6⟩;exact ⟨g,h1,h2,h3,h4,h5,hg.heap h6⟩
 wr:=by
  rintro B v w w' g c T fz hg hT hB hW ⟨g',h1,h2,h3,h4,h5,h6⟩;refine ⟨g',h1,h2,h3,h4,h5,?_⟩;rw [hW.block g' λ hh=>?_]
  ·exact h6
  ·subst hh;rw [hg] at h6;simp only [Option.some.injEq,Obj.cells.injEq] at h6;exact hT (by simp [h6.2.1])
theorem J5 {l r:Ya}(h:(RowX b c l r).p B v w):gF w b U32 v.ownBlock:=by
 obtain ⟨g,rfl,h2,_,_,_,h6⟩:=h;intro g' e;have e':g=g':=by injection e
 subst e';exact ⟨h2,_,_,h6⟩
theorem yM (cs:Array Yo):w.grownBy (w.setRow g cs) (some g):=by
 have h:=Wr.setRow w g cs;exact ⟨h.os,h.tape,h.output,by rw [h.size];exact qi _,λ k _ hk=>h.block k λ e=>hk (by rw [e])⟩
theorem uj {S T1:Yh}{l r xs:Ya}{v u:Yo}{it:TypeInfo}(hS:P.underlying S=some (.slice U32))(hi:P.info? U32=some it)(hsz:it.size=1)(hroom:xs.length≤r.length)
  (hv:(RowX b c l r).p B v w) (hu:(MgA xs).va.p B u w) :
  ∃ v' w',(Builtin.append_ #[S,S] T1 #[v,u]).run P w=.ok v' w'∧(RowX b c (l++xs) (r.drop xs.length)).p B v' w'∧w.grownBy w' v.ownBlock∧gF w b U32 v.ownBlock∧blk v'=blk v:=by
 have hro:=J5 hv;obtain ⟨g,rfl,h2,hBg,h4,h5,h6⟩:=hv;obtain ⟨A,c',rfl,hm⟩:=gU hu;have hlen:l.length+xs.length≤c:=by rw [h4,qu];omega
 have fin:(RowX b c (l++xs) (r.drop xs.length)).p B (.slice (some ⟨g,0,none⟩) (l.length+xs.length) c) (w.setRow g (((l++xs)++r.drop xs.length).map λ (x:Nat)=>Value.int .u32 x).toArray) :=
  ⟨g,by rw [qu],h2,hBg,by rw [h4];simp only [qu,xV];omega,h5,setRow_heap w g _ _ _ _ h6⟩
 cases A with
 | none =>
  have hx:xs=[]:=by
   apply xr;apply Decidable.byContradiction;intro hn;obtain ⟨_,_,e,_⟩:=hm.at_ zo;cases e
  subst hx;have hown:w.ownsRow b U32 1 (.slice (some ⟨g,0,none⟩) l.length c) l.length (l.map λ (x:Nat)=>Value.int .u32 x):=⟨by simp,.inr ⟨g,c,_,rfl,h2,h6,by omega,h5,by simp [h4],by simp⟩⟩;refine ⟨_,w,lF b S T1 U32 it 1 hS hi _ _ c' _ hown,⟨g,by simp,h2,hBg,by simpa using h4,h5,by simpa using h6⟩,⟨rfl,rfl,rfl,qi _,λ _ _ _=>rfl⟩,hro,rfl⟩
 | some ad =>
  have hnew:∀ j u,(xs.map λ (x:Nat)=>Value.int .u32 x)[j]?=some u→w.cell? (ad.add j)=some u:=λ j u hj=>by
   have hjx:j<xs.length:=by have:=(List.getElem?_eq_some_iff.1 hj).1;simpa using this
   obtain ⟨b',o,e,_,_,h8⟩:=hm.at_ zo;injection e with e;subst e;rw [Af,h8 j hjx];simpa [hjx] using hj
  have hr:=run_append_room (P:=P) w S T1 U32 it hS hi g l.length c _ h6 ad xs.length c' (xs.map λ (x:Nat)=>Value.int .u32 x) (by simp [hsz]) hnew (λ u hu=>by obtain ⟨_,_,rfl⟩:=qq.1 hu;rfl) hlen (by rw [hsz];simp;omega);refine ⟨_,_,hr,?_,yM _,hro,rfl⟩;have e:(((l++r).map λ (x:Nat)=>Value.int .u32 x).toArray.toList.take (l.length*it.size)++(xs.map λ (x:Nat)=>Value.int .u32 x)++((l++r).map λ (x:Nat)=>Value.int .u32 x).toArray.toList.drop (l.length*it.size+(xs.map λ (x:Nat)=>Value.int .u32 x).length))=((l++xs)++r.drop xs.length).map λ (x:Nat)=>Value.int .u32 x:=by
   rw [hsz];simp [wh,List.map_drop]
  rw [e];exact fin
section
variable {P:Program}{R:Rg}{Q:Exit→Act→World→Prop}{B i:Nat}{w0:Bs}
theorem Ji (hM:oj P S U32 .u32)(hB:B≤w0.w.heap.size)(hx:Has R B w0 i x (In 0))(hy:Has R B w0 i y (In n))(hn:n≤17592186044416):Wv P Q R B w0 i (.makeSlice S x y) (RowX w0.w.heap.size n [] (List.replicate n 0)) :=
 bk λ d T ps af gd a w av=>by
  obtain ⟨h1,h2,h3,h4,h5⟩:=hM;obtain ⟨it,hi,hz⟩:=j2.1 h2;have hsz:it.size=1:=by rw [hi] at h3;simpa using h3
  have hby:=h5 it hi;have hm:=run_make (P:=P) w S U32 it (.int .u32 0) h1 hi hz .i64 .i64 0 n zo zo (by
   have:it.bytes*n≤8*n:=qJ _ hby;have h6:((it.bytes*n:Nat):Int)≤281474976710656:=by omega
   rwa [xF] at h6) zo
  have e1:=bj (hx a w av);have e2:=bj (hy a w av);have hcells:madeCells (Value.int .u32 0).cells (n*it.size)=((List.replicate n 0).map λ (x:Nat)=>Value.int .u32 x).toArray:=by
   rw [hsz,zP];apply kA;intro j;simp only [madeCells,Value.cells,kw];by_cases hj:j<n
   ·simp [hj,vB]
   ·simp [hj]
  simp only [z9] at hm;rw [hcells] at hm;refine ⟨.slice (some ⟨w.heap.size,0,none⟩) 0 n,w.alloc (.cells ((List.replicate n 0).map λ (x:Nat)=>Value.int .u32 x).toArray U32),?_,Grow.alloc _ _,⟨w.heap.size,rfl,av.base.size,qf hB av.base.size,by simp,by unfold maxLen;omega,by simpa using heap_alloc_new w _⟩⟩;simp [execOp,e1,e2,hm]
end
open Rg in
theorem KN (n:Nat)(src:Ya)(i1 i2:Nat){S T1 T2:Yh}{s u d e c0:Nat}{ps1 ps2:Yw}{af1 af2:Yx}{l r xs:Ya}{A2:VA}{it:TypeInfo}
  (h:St B w0 N Γ Λ a w) (hob:Obs P Q ⟨ops,N,Γ,lesN Λ,sp,λ i=>List.range i⟩ B w0 0 n) (hn2:ops.size=n+2) (hk:Rg.chk ⟨ops,N,Γ,lesN Λ,sp,λ i=>List.range i⟩=true)
  (ho1:ops[n]?=some ⟨some d,.call ⟨.builtin .append,#[.tmp s,.tmp u],#[S,S]⟩,T1,ps1,af1,none⟩) (ho2:ops[n+1]?=some ⟨some e,.assign (.tmp d),T2,ps2,af2,none⟩)
  (hi1:i1<n) (h1:sp[i1]?=some (.v s (RowX w0.w.heap.size c0 l r))) (hi2:i2<n) (h2:sp[i2]?=some (.v u A2)) (hA2:∀ w u,A2.p B u w→Kept w0 w→(MgA xs).va.p B u w)
  (hS:P.underlying S=some (.slice U32)) (hi:P.info? U32=some it) (hsz:it.size=1) (hroom:xs.length≤r.length) (hde:(d != e)=true) (hd:d<N) (he:e<N)
  (hsrc:src.all (λ k=>match Γ[k]? with|some y => !y.2.deps.contains U32&&Rg.outG ⟨ops,N,Γ,lesN Λ,sp,λ i=>List.range i⟩ y.1|none=>false)=true)
  (hΛ:Λ.all (λ l=>l.T != U32 && !l.A.deps.contains U32&&l.s != d&&l.s != e)=true)
  (hQ:∀ a w,St B w0 N ((e,RowX w0.w.heap.size c0 (l++xs) (r.drop xs.length))::src.filterMap (λ k=>Γ[k]?)) Λ a w→Q .normal a w):(Code.region id ops false).wp P Q a w:=by
 have hles0:∀ y∈lesN Λ,y.cr=none∧y.st=none∧(⟨y.s,y.T,y.H,y.A0⟩:Lc)∈Λ:=λ y hy=>by
  obtain ⟨l',hl',rfl⟩:=qq.1 hy;exact ⟨rfl,rfl,hl'⟩
 refine Rg.linK (R:=⟨ops,N,Γ,lesN Λ,sp,λ i=>List.range i⟩) (m:=2) hn2 G hk h (λ y hy _=>(hles0 y hy).2.2) (λ i hi=>hob.all i zo zo) λ a1 w1 hinv=>?_;have hcl:∀ deps,Rg.clash ⟨ops,N,Γ,lesN Λ,sp,λ i=>List.range i⟩ (λ k=>decide (k<n)) deps=false:=λ deps=>by
  unfold Rg.clash;rw [xu];intro y hy;rw [(hles0 y hy).2.1];simp
 have hv:=hinv.v i1 _ s _ h1 rfl (qG hi1) (hcl _);have hu:=hA2 _ _ (hinv.v i2 _ u _ h2 rfl (qG hi2) (hcl _)) hinv.base;have hB:B≤w0.w.heap.size:=hinv.lo _ (.inl (qi _));obtain ⟨v',w',hr,r1,r2,r3,_⟩:=uj (T1:=T1) hS hi hsz hroom hv hu;have hdsz:d<a1.tmps.size:=by rw [hinv.size];exact hd
 have hesz:e<(a1.put (some d) v').tmps.size:=by rw [size_put,hinv.size];exact he
 have hne:d≠e:=by simpa using hde
 rw [List.range'_succ,qx];refine bA (R:=⟨ops,N,Γ,lesN Λ,sp,λ i=>List.range i⟩) ho1 G (bf (w':=w') (v:=v') (by simp [execOp,resolve,invoke,builtin,hr,Result.andThen]) ?_);rw [List.range'_succ,qx];refine bA (R:=⟨ops,N,Γ,lesN Λ,sp,λ i=>List.range i⟩) ho2 G (bf (w':=w') (v:=v') ?_ (hQ _ _ ?_))
 ·have:=aM a1 d v' hdsz;simp [execOp,this]
 ·have hother:∀ t,t≠d→t≠e→((a1.put (some d) v').put (some e) v').eval (.tmp t)=a1.eval (.tmp t):=λ t h3 h4=>by
   rw [an _ _ _ _ h4,an _ _ _ _ h3]
  have hlc:∀ l'∈Λ,l'.T≠U32∧U32 ∉ l'.A.deps∧l'.s≠d∧l'.s≠e:=λ l' hl'=>by
   have:=qe.1 hΛ l' hl';simp only [ql,bne_iff_ne,qy,qB,qm] at this;exact ⟨this.1.1.1,this.1.1.2,this.1.2,this.2⟩
  have hcur:∀ l'∈Λ,(⟨l'.s,l'.T,l'.H,none,l'.A,none⟩:Le)∈lesN Λ:=λ l' hl'=>qq.2 ⟨l',hl',rfl⟩;refine ⟨hinv.lo,hinv.defers.grown r2 r3 rfl,by rw [size_put,size_put];exact hinv.size,?_,?_,?_,?_⟩
  ·exact ⟨r2.os.trans hinv.base.os,r2.tape.trans hinv.base.tape,r2.output.trans hinv.base.output,qf hinv.base.size r2.size,λ k hk hf =>
    (r2.block k (qD hk hinv.base.size) (λ e=>by have:=(r3 k e.symm).1;omega)).trans (hinv.base.block k hk hf)⟩
  ·intro y hy;rcases qr.1 hy with rfl|hy
   ·show (RowX w0.w.heap.size c0 (l++xs) (r.drop xs.length)).p B (((a1.put (some d) v').put (some e) v').eval (.tmp e)) w';rw [aM _ _ _ hesz];exact r1
   ·obtain ⟨k,hk1,hk2⟩:=qR.1 hy;have hs:=qe.1 hsrc k hk1;simp only [hk2,ql,qy,qB,qm] at hs;have hout:∀ q,q<ops.size→Rg.dst ⟨ops,N,Γ,lesN Λ,sp,λ i=>List.range i⟩ q≠some y.1:=λ q hq=>by
     have:=qe.1 hs.2 q (by simpa using hq);simpa using this
    have g1:y.1≠d:=λ e1=>hout n zo (by unfold Rg.dst;rw [ho1,e1];rfl);have g2:y.1≠e:=λ e1=>hout (n+1) zo (by unfold Rg.dst;rw [ho2,e1];rfl);rw [hother _ g1 g2];exact VA.grown (hinv.g y (qa hk2) (λ q hq hdq=>absurd hdq (hout q hq)) (hcl _)) r2 r3 hB hs.1
  ·intro l' hl';obtain ⟨g1,g2,g3,g4⟩:=hlc l' hl';obtain ⟨g,cs,e1,e2,e3,e4⟩:=hinv.c _ (hcur l' hl') l'.A rfl;refine ⟨g,cs,by rw [hother _ g3 g4];exact e1,e2,?_,As.grown e4 r2 r3 hB g2⟩;rw [r2.block g (Array.getElem?_eq_some_iff.1 e3).1 (λ e5=>by
    obtain ⟨_,c,fz,e6⟩:=r3 g e5.symm;rw [e3] at e6;injection e6 with e6;injection e6 with _ e6 _;exact g1 e6)]
   exact e3
  ·intro l1 hl1 l2 hl2 hne';obtain ⟨_,_,g3,g4⟩:=hlc l1 hl1;obtain ⟨_,_,g5,g6⟩:=hlc l2 hl2;rw [hother _ g3 g4,hother _ g5 g6];exact hinv.x _ (hcur l1 hl1) _ (hcur l2 hl2) hne' G rfl
def TwN (l:List Nat):As where
 n:=1
 ag:=false
 p B cs w:=okL l∧∃ g,cs=[.slice (some ⟨g,0,none⟩) l.length (l.length+1)]∧B≤g∧l.length+1≤maxLen∧w.heap[g]?=some (.cells ((l++[7777]).map λ (x:Nat)=>Value.int .u32 x).toArray U32 (0,0))
 deps:=[U32]
 len:=by rintro B cs w ⟨_,g,rfl,_⟩;rfl
 one:=by rintro B cs w ⟨_,g,rfl,_⟩ x hx;simp at hx;subst hx;rfl
 ag1:=λ _=>rfl
 cg:=by
  rintro B cs w w' hg ⟨h0,g,rfl,h1,h2,h3⟩;exact ⟨h0,g,rfl,h1,h2,hg.heap h3⟩
 wr:=by
  rintro B cs w w' g c T fz hg hT hB hW ⟨h0,g',rfl,h1,h2,h3⟩;refine ⟨h0,g',rfl,h1,h2,?_⟩;rw [hW.block g' λ hh=>?_]
  ·exact h3
  ·subst hh;rw [hg] at h3;simp only [Option.some.injEq,Obj.cells.injEq] at h3;exact hT (by simp [h3.2.1])
theorem u7 (ok:okL l)(h2:l.length+1≤maxLen)(h3:w.heap[g]?=some (.cells ((l++[7777]).map λ (x:Nat)=>Value.int .u32 x).toArray U32 (0,0))):Mag B w (some ⟨g,0,none⟩) (l.length+1) (l++[7777]) :=
 Mag.own h3 (okL_append.2 ⟨ok,fc zd⟩) (by simp) h2 (λ j hj=>by rw [List.getElem?_toArray,List.getElem?_map,List.getElem?_eq_getElem hj];rfl)
theorem Eh :Wk (TwN l).va (MgA l).va:=λ B v w ⟨cs,⟨ok,g,e,h1,h2,h3⟩,hv⟩=>by
 subst e;have e2:v=.slice (some ⟨g,0,none⟩) l.length (l.length+1):=hv;subst e2;have:=eG ((u7 (B:=B) ok h2 h3).take l.length) (n:=l.length) (by simp);rwa [kl] at this
theorem FH (l:Ya):FreeA (TwN l) (TwN l):=⟨rfl,rfl,λ B B' cs w hB h=>by
 obtain ⟨ok,g,e,h1,h2,h3⟩:=h;exact ⟨ok,g,e,qf hB h1,h2,h3⟩⟩
def RIT (x:RI):As:=cat [BoA x.neg,TwN x.mag]
theorem pB (x:RI):FreeA (RIT x) (RIT x):=bN (.cons (ep _) (.cons (FH _) .nil))
def SlK (v:Value)(h:v.oneCell'=true):As where
 n:=1
 ag:=false
 p _ cs _:=cs=[v]
 deps:=[]
 len:=by rintro B cs w rfl;rfl
 one:=by rintro B cs w rfl c hc;simp at hc;subst hc;exact h
 ag1:=λ _=>rfl
 cg:=λ _ _ _ _ _ h=>h
 wr:=λ _ _ _ _ _ _ _ _ _ _ _ _ h=>h
theorem L8 {h:v.oneCell'=true}:Wk (EqV v) (SlK v h).va:=λ _ u _ e=>⟨[v],rfl,e⟩
theorem St.toRow (h:St B w0 N Γ Λ a w){l r:Ya}(k:Nat)(hm:Γ[k]?=some (s,RowX w0.w.heap.size c l r))(hΛ:Λ.all (λ m=>m.T != U32)=true):
  ∃ g,B≤g∧c=(l++r).length∧c≤maxLen∧St B w0 N (Γ.set k (s,EqV (.slice (some ⟨g,0,none⟩) l.length c))) (Λ++[⟨s,U32,slH l.length c,Nums .u32 (l++r)⟩]) a w:=by
 obtain ⟨g,hv,h2,h3,h4,h5,h6⟩:=h.vals _ (qa hm);have hd:∀ m∈Λ,blk (a.eval (.tmp m.s))≠some g:=by
  intro m hm2 hh;obtain ⟨g',cs,e1,_,e3,_⟩:=h.locs m hm2;rw [e1,m.H.ok] at hh;injection hh with hh;subst hh;rw [e3] at h6;simp only [Option.some.injEq,Obj.cells.injEq] at h6;have:=qe.1 hΛ m hm2;simp [h6.2.1] at this
 have hv':a.eval (.tmp s)=.slice (some ⟨g,0,none⟩) l.length c:=hv;have hg:blk (a.eval (.tmp s))=some g:=by rw [hv'];rfl
 refine ⟨g,h3,h4,h5,h.lo,h.defers,h.size,h.base,λ x hx=>?_,λ x hx=>?_,λ x hx y hy hne=>?_⟩
 ·rcases qA hx with hx|rfl
  ·exact h.vals x hx
  ·exact hv'
 ·rcases qo.1 hx with hx|hx
  ·exact h.locs x hx
  ·obtain rfl:=qn.1 hx;exact ⟨g,_,hv',.inl h2,h6,rfl⟩
 ·rcases qo.1 hx with hx|hx <;> rcases qo.1 hy with hy|hy
  ·exact h.dis x hx y hy hne
  ·obtain rfl:=qn.1 hy;rw [hg];exact hd x hx
  ·obtain rfl:=qn.1 hx;rw [hg];exact λ e=>hd y hy e.symm
  ·obtain rfl:=qn.1 hx;obtain rfl:=qn.1 hy;exact absurd G hne
section
variable {P:Program}{R:Rg}{Q:Exit→Act→World→Prop}{B i:Nat}{w0:Bs}
theorem JR {d s e g c:Nat}{cr:Yu}{l r xs:Ya}{it:TypeInfo}
  (hs:R.sp[i]?=some (.cal d (EqV (.slice (some ⟨g,0,none⟩) (l.length+xs.length) c)) e)) (he:R.les[e]?=some ⟨s,U32,slH l.length c,cr,Nums .u32 (l++r),some (i,Nums .u32 (l++xs++r.drop xs.length))⟩) (ho:R.ops[i]?=some ⟨some d,.call ⟨.builtin .append,#[x,y],#[S,S]⟩,ty,ps,af,none⟩)
  (hS:P.underlying S=some (.slice U32)) (hi:P.info? U32=some it) (hsz:it.size=1) (hroom:xs.length≤r.length) (hc:c=(l++r).length) (hmx:c≤maxLen) (hx:Has R B w0 i x (EqV (.slice (some ⟨g,0,none⟩) l.length c))) (hsl:Has R B w0 i (.tmp s) (EqV (.slice (some ⟨g,0,none⟩) l.length c))) (hy:Has R B w0 i y (MgA xs).va):R.Ob P Q B w0 i:=by
 unfold Rg.Ob;simp only [hs,he];intro a w av g' cs h1 hB h3 h4 _ K hK;have e1:a.eval x=_:=hx a w av;have e2:a.eval (.tmp s)=.slice (some ⟨g,0,none⟩) l.length c:=hsl a w av;have eg:g=g':=by
  rw [h1] at e2;have:some g'=some g:=qp blk e2;injection this with this;exact this.symm
 subst eg;have h4':cs=(l++r).map λ (x:Nat)=>Value.int .u32 x:=h4;obtain ⟨v',w',hr,hX,hgr,_,hbk⟩:=uj (P:=P) (S:=S) (T1:=ty) (b:=g) (c:=c) (B:=B) (l:=l) (r:=r) (xs:=xs) (w:=w) hS hi hsz hroom ⟨g,rfl,qi _,hB,hc,hmx,by rw [← h4'];exact h3⟩ (hy a w av);obtain ⟨g2,q1,_,_,q4,q5,q6⟩:=hX;refine bA ho G (bf (w':=w') (v:=v') (by simp [execOp,resolve,invoke,builtin,e1,hr,Result.andThen]) ?_);have eg2:g2=g:=by
  rw [q1] at hbk;injection hbk
 subst eg2;exact hK v' _ w' ⟨hgr.os,hgr.tape,hgr.output,hgr.size,λ k hk hf=>hgr.block k hk λ e=>hf (by injection e)⟩ q6 G (by rw [q1,qu];rfl)
end
theorem oneK :(Value.slice (some ⟨g,0,none⟩) n c).oneCell'=true:=rfl
theorem St.twin (h:St B w0 N Γ Λ a w){s s2 T2 g c:Nat}{H2:Hd}{b:Bool}(k e2 e3:Nat)(hm:Γ[k]?=some (s,EqV (.slice (some ⟨g,0,none⟩) l.length c)))(he2:Λ[e2]?=some ⟨s2,T2,H2,cat [BoA b,SlK (.slice (some ⟨g,0,none⟩) l.length c) oneK]⟩)
  (he3:Λ[e3]?=some ⟨s,U32,slH l.length c,Nums .u32 (l++[7777])⟩) (ok:okL l) (hc:c=l.length+1) (hcm:c≤maxLen) (hB:B≤g):St B w0 N Γ (Λ.set e2 ⟨s2,T2,H2,RIT ⟨b,l⟩⟩) a w:=by
 obtain ⟨g3,cs3,f1,_,f3,f4⟩:=h.locs _ (qa he3);have f4':cs3=(l++[7777]).map λ (x:Nat)=>Value.int .u32 x:=f4;have f5:a.eval (.tmp s)=.slice (some ⟨g,0,none⟩) l.length c:=h.vals _ (qa hm);have eg:g=g3:=by
  rw [f5] at f1;have:some g=some g3:=qp blk f1;injection this
 subst eg;rw [f4'] at f3;have hset:∀ m∈Λ.set e2 ⟨s2,T2,H2,RIT ⟨b,l⟩⟩,m=⟨s2,T2,H2,RIT ⟨b,l⟩⟩∨m∈Λ:=λ m hm=>(qA hm).symm;have hin:=qa he2;refine ⟨h.lo,h.defers,h.size,h.base,h.vals,λ m hm'=>?_,λ m hm1 m' hm2 hne=>?_⟩
 ·rcases hset m hm' with rfl|hm'
  ·obtain ⟨g2,cs,e1,e2',e3',e4⟩:=h.locs _ hin;refine ⟨g2,cs,e1,e2',e3',?_⟩;obtain ⟨ps,q1,q2⟩:=e4;cases q2 with
   | cons q3 q2=>cases q2 with
    | cons q4 q2 =>
     refine ⟨_,q1,.cons q3 (.cons ?_ q2)⟩;exact ⟨ok,g,by rw [← hc];exact q4,hB,by rw [← hc];exact hcm,f3⟩
  ·exact h.locs m hm'
 ·have key:∀ m∈Λ.set e2 ⟨s2,T2,H2,RIT ⟨b,l⟩⟩,∃ m'∈Λ,m'.s=m.s:=λ m hm=>by
   rcases hset m hm with rfl|hm
   ·exact ⟨_,hin,rfl⟩
   ·exact ⟨m,hm,rfl⟩
  obtain ⟨p,p1,p2⟩:=key m hm1;obtain ⟨p',p3,p4⟩:=key m' hm2;rw [← p2,← p4];exact h.dis p p1 p' p3 (by rw [p2,p4];exact hne)
theorem Gd (n:Nat):(List.replicate (n+1) 0).drop n=[0]:=by rw [List.drop_replicate,j4];rfl
theorem rk (x:RI)(hx:x.mag.length≤1000000000000):Cn Tryz.prog 99 [(RIA x).va] ((RIT x).va):=by
 obtain ⟨it,z,e1,e2,e3,e4,e5⟩:=nr;refine Cn.introW Tryz.func99 G zk nq (.cons (yc _).va .nil) (pB _).va (λ B w0 a hB0 U=>?_);have U:=zn [(0,(RIO x).va)] [] U;have hok:okL x.mag:=(l7 (LZ _ _ _ (U.vals _ (zm 0 rfl)))).1;refine qb<|zg [] UT UU [] U (zW 0 G (zY G (Str.zero ga) o0)) (zz [] UV ?_);refine ztA<|zgA UF [] (.adr 4 1 (.some 1) True::(W6 5 [.v 7 (In ((x.mag.length+1:Nat):Int)),.v 8 _,.v 3 _])) [.o 5] (zO 0 G ar (zL 0 0 1 G bb (zv G (aK qd (aC (vq 1 G))) (zv G (aL (vq 2 G) ab (aW zo)) (zv G (Ji fA (xB hB0) ab (vq 3 G) zo) (zA 4 G o0)))))) (zz RP UV λ a w U=>?_);refine zt<|KN (sp:=[.v 9 _,.adr 10 1 (.some 1) True,.v 11 _,.v 12 VT,.v 3 VT]) 3 [] 0 2 U (zM 0 G (zO 0 G ar (zL 1 0 1 G bb o0))) G zk G G zd G zd G (xs:=x.mag) (λ w u h k=>lC _ _ _ h) qd e1 e3 (by simp) zk nq nq zk zk (λ a w U=>?_);have U:=St.wkG (A':=RowX w0.w.heap.size (x.mag.length+1) x.mag [0]) U 0 rfl (ba (by rw [Gd];rfl));have U:=zn RP UV U;refine zt ?_;obtain ⟨g,hBg,hce,hcm,U⟩:=U.toRow 0 rfl rfl;refine zgd [[],[0],[],[],[2,3],[],[5],[5,6],[2,3,4,5,6,7],(Wm 9),(Wm 10)] [none,some (10,_),some (4,_)] [] (.adr 13 1 (.some 0) True::(Wb 14 (.cal 17 (EqV (.slice (some ⟨g,0,none⟩) (x.mag.length+[7777].length) (x.mag.length+1))) 2::.adr 18 1 (.some 1) True::(W6 19 [.v 21 (EqV (.slice (some ⟨g,0,none⟩) x.mag.length (x.mag.length+1))),.v 22 _,.sto 1])))) UL ac U (zO 0 G aY (zL 0 0 0 G ty_4 (zM 0 G (zv G (dF (l:=[_]) (xs:=[.const (.int .u32 (7777))]) bc zk nq nq (fc zd) (.o (aF 7777 G)) G G) (oc (JR (l:=x.mag) (r:=[0]) (xs:=[7777]) G G G qd e1 e3 zd hce hcm (vq 2 G) (gq 0 G) (vq 3 G)) (zO 0 G ar (zL 5 0 1 G bb (zv G (aK qd (aC (vq 6 G))) (zv G (BA bc (KC 4 G zk zk) (vq 7 G) ⟨by omega,by omega⟩) (zv G (aT (qs:=[(0,_),(1,SlK (.slice (some ⟨g,0,none⟩) x.mag.length (x.mag.length+1)) oneK)]) ga (.cons ⟨rfl,vq 1 rfl,rfl⟩ (.cons ⟨rfl,has_wk' (vq 8 G) (L8 (h:=oneK)),rfl⟩ .nil))) (zS 9 G ap o0))))))))))) zk zk zk zk (zz RP [O 1 26 _,O 2 26 _,zpH 3 138 _] λ a w U=>?_);have U:=St.wkL (A:=Nums .u32 (x.mag++[7777]++[])) (A':=Nums .u32 (x.mag++[7777])) U 2 rfl (gZ (by rw [zX]));have U:=U.twin 0 1 2 rfl rfl rfl hok (by simp at hce;omega) hcm hBg;refine aa<|qh<|al ?_ (au G U (zm 1 G) ap);exact aG
def RFT (x:RF):As:=cat [RIT x.num,RIT x.den]
theorem If :WkA (TwN l) (MgA l):=⟨rfl,rfl,λ B cs w h=>by
 obtain ⟨cs',h1,h2⟩:=Eh B (cL false cs) w ⟨cs,h,rfl⟩;have l1:=(TwN l).len _ _ _ h;have l2:=(MgA l).len _ _ _ h1
 match cs,cs',l1,l2 with
 | [c],[c'],_,_ =>
  have e:c=c':=h2;subst e;exact h1⟩
theorem wkA_rit {x:RI}:WkA (RIT x) (RIA x):=br (.cons (.refl _) (.cons If .nil))
theorem om {x:RF}:WkA (RFT x) (RFA x):=br (.cons wkA_rit (.cons wkA_rit .nil))
section
variable {P:Program}{R:Rg}{Q:Exit→Act→World→Prop}{B i:Nat}{w0:Bs}
theorem GP (h:(TwN l).va.p B v w):okL l∧∃ g,v=.slice (some ⟨g,0,none⟩) l.length (l.length+1)∧l.length+1≤maxLen∧w.heap[g]?=some (.cells ((l++[7777]).map λ (x:Nat)=>Value.int .u32 x).toArray U32 (0,0)):=by
 obtain ⟨cs,⟨ok,g,e,h1,h2,h3⟩,hv⟩:=h;subst e;exact ⟨ok,g,hv,h2,h3⟩
theorem N0 {S E':Yh}(hS:P.underlying S=some (.slice E'))(hx:Has R B w0 i x (TwN l).va):Wv P Q R B w0 i (.call ⟨.builtin .cap,#[x],#[S]⟩) (In ((l.length+1:Nat):Int)) :=
 bk λ d T ps af gd a w av=>by
  obtain ⟨_,g,hv,_,_⟩:=GP (hx a w av);refine ⟨.int .i64 ((l.length+1:Nat):Int),w,?_,Grow.refl w,bV _ _ _ _⟩;simp [execOp,resolve,invoke,builtin,hv,Builtin.cap_,run_underlying hS,goInt]
theorem Jf {x z:Yj}(hS:Sl P S U32 1)(hx:Has R B w0 i x (TwN l).va)(hz:Has R B w0 i z (In ((l.length+1:Nat):Int))):Wv P Q R B w0 i (.slice S x none (some z) none) (MgA (l++[7777])).va :=
 bk λ d T ps af gd a w av=>by
  obtain ⟨hs1,hs2⟩:=hS;obtain ⟨ok,g,e1,hm,hh⟩:=GP (hx a w av);have e3:=bj (hz a w av);have hE:P.elem S=U32:=by simp [Program.elem,hs1]
  have hs1':P.underlying S=some (.slice (P.elem S)):=by rw [hE];exact hs1
  have hsz:∀ w,(sizeOf U32).run P w=.ok 1 w:=λ w=>by
   cases hi:P.info? U32 with
   | none=>rw [hi] at hs2;simp at hs2
   | some it=>rw [hi] at hs2;simp [sizeOf,typeInfo,hi];simpa using hs2
  refine ⟨.slice (some ⟨g,0,none⟩) (l.length+1) (l.length+1),w,?_,Grow.refl w,eG (u7 ok hm hh) (by simp)⟩;have hr:=run_slice_h (P:=P) w S (some ⟨g,0,none⟩) l.length (l.length+1) hs1' .i64 ((l.length+1:Nat):Int) zo zo;rw [hE,hsz] at hr;have hne:¬ l.length+1=0:=by omega
  simp only [Result.andThen_ok,sliced,z9,hne,if_false,zP,qT,jK] at hr;simp only [execOp,e1,e3,qT,run_sliceAt_slice _ _ _ _ _ _ hs1',Sem.run_bind,Sem.run_pure]
  erw [hr]
  simp [Addr.add]
end
set_option maxHeartbeats 1000000 in
theorem rR (x y:RI)(hx:x.mag.length≤1000000000000):Cn Tryz.prog 167 [(RIT x).va,(RIA y).va] (Bo (decide (x=y))):=by
 refine Cn.intro Tryz.func167 G zk nq (zy [(0,(RIT x).va),(1,(RIA y).va)] λ B w0 a U=>?_);refine qb<|zg [] UB UC Ud U (zW 0 G (zW 1 G (zE G aE))) (zz U3 UD λ a w U=>?_);refine zt<|lp (anc:=[[],[],[0,1],[0,1,2],[0,1,2,3],[0,1,2,3,4],[0,1,2,3,4,5],[0,1,2,3],[0,1,2,3,7],[0,1,2,3,7,8],[0,1,2,3,4,5,6,7,8,9],[0,1,2,3,4,5,6,7,8,9,10],[0,1,2,3,4,5,6,7,8,9,10,11],[0,1,2,3,4,5,6,7,8,9,10,11,12],[0,1,2,3,4,5,6,7,8,9,10,11,12,13],[0,1,2,3,4,5,6,7,8,9,10,11,12],[0,1,2,3,4,5,6,7,8,9,10,11,12,15],[0,1,2,3,4,5,6,7,8,9,10,11,12,15,16],[0,1,2,3,4,5,6,7,8,9,10,11,12,15,16,17],[0,1,2,3,4,5,6,7,8,9,10,11,12,13,14,15,16,17,18],[0,1,2,3,4,5,6,7,8,9,10,11,12],[0,1,2,3,4,5,6,7,8,9,10,11,12,20],[0,1,2,3,4,5,6,7,8,9,10,11,12,20,21],[0,1,2,3,4,5,6,7,8,9,10,11,12,13,14,15,16,17,18,19,20,21,22],[0,1,2,3,4,5,6,7,8,9,10,11,12,13,14,15,16,17,18,19,20,21,22,23],[0,1,2,3,4,5,6,7,8,9,10,11,12,13,14,15,16,17,18,19,20,21,22,23,24],[0,1,2,3,4,5,6,7,8,9,10,11,12,13,14,15,16,17,18,19,20,21,22,23,24,25],[0,1,2,3,4,5,6,7,8,9,10,11,12,13,14,15,16,17,18,19,20,21,22,23,24,25,26]]) (sts:=[none,none]) (news:=[]) (sp:=((.v 5 _:Sp)::(.v 6 _)::(.v 7 _)::(.v 8 _)::(.adr 9 2 (.some 1) (_=true))::(.t 10 _)::(.t 11 _)::(.adr 12 2 (.some 1) (_=true))::(.t 13 _)::(.t 14 _)::(.t 15 _)::(.v 16 _)::(.v 17 _)::(.adr 18 2 (.some 1) (_=true))::(.t 19 _)::(.adr 20 2 (.some 1) (_=true))::(.t 21 _)::(.t 22 _)::(.t 23 _)::(.t 24 _)::(.adr 25 2 (.some 1) (_=true))::(.t 26 _)::(.t 27 _)::(.t 28 _)::(.t 29 _)::(.t 30 _)::(.v 31 _)::(.v 4 _)::[])) [.o 27] ac U (zl 0 G ap (zl 1 G ap (zQ G ((mA x y).wk (.cons wkA_rit.va (.cons aG .nil))) (.p (vq 0 G) (vq 1 G)) (zV 2 G (zC 3 0 G ar (zB 3 G (λ hg=>aB 4 G zk hg (lz0 0 G) (Sub.part 1 G G) bb) (zB 3 G (λ hg=>N0 qd (ae (vq 5 G) hg)) (zC 3 0 G ar (zB 3 G (λ hg=>aB 7 G zk hg (lz0 0 G) (Sub.part 1 G G) bb) (zB 3 G (λ hg=>aK qd (has_wk' (ae (vq 8 G) hg) Eh)) (zB 3 G (λ hg=>cM (ae (vq 6 G) hg) (ae (vq 9 G) hg)) (zv G (bv (vq 3 G) (vq 10 G)) (zV 11 G (zC 12 0 G ar (zB 12 G (λ hg=>aB 13 G zk hg (lz0 0 G) (Sub.part 1 G G) bb) (zC 12 0 G ar (zB 12 G (λ hg=>aB 15 G zk hg (lz0 0 G) (Sub.part 1 G G) bb) (zB 12 G (λ hg=>aK qd (has_wk' (ae (vq 16 G) hg) Eh)) (zB 12 G (λ hg=>aL (ae (vq 17 G) hg) ab (aW zo)) (zB 12 G (λ hg=>Jf bc (ae (vq 14 G) hg) (ae (vq 18 G) hg)) (zC 12 0 G ar (zB 12 G (λ hg=>aB 20 G zk hg (lz0 0 G) (Sub.part 1 G G) bb) (zB 12 G (λ hg=>aK qd (has_wk' (ae (vq 21 G) hg) Eh)) (zB 12 G (λ hg=>oK bc (ae (vq 19 G) hg) (ae (vq 22 G) hg) (by simp)) (zB 12 G (λ hg=>ao (ae (vq 23 G) hg) aO) (zB 12 G (λ hg=>bC (ae (vq 24 G) hg) (aF 7777 G)) (zv G (bv (vq 12 G) (vq 25 G)) (zA 26 G o0)))))))))))))))))))))))))))) zk zk zk zk (zz U3 UD λ a w U=>?_);refine aa<|qh<|al ?_ (am G U (zm 0 G));refine ba (qp Bo ?_);simp;omega
def bdF (x:RF):Prop:=x.num.mag.length≤1000000000000∧x.den.mag.length≤1000000000000
theorem fZ (x:RF)(hx:bdF x):Cn Tryz.prog 23 [(RFA x).va] ((RFT x).va):=by
 refine Cn.intro Tryz.func23 G zk nq (zy [(0,(RFA x).va)] λ B w0 a U=>?_);refine qb<|zg [] RC UU [] U (zW 0 G (zY G (Str.zero aS) o0)) (zz [] RD λ a w U=>?_);refine zt<|zgd RT [none,some (7,_)] [] (.adr 3 1 (.some 0) True::(W6 4 (.adr 6 1 (.some 2) True::(Wb 7 [.sto 1])))) [] ac U (zO 0 G aZ (zL 0 0 0 G ap (zQ G (rk _ hx.1) (.o (vq 1 G)) (zO 0 G aU (zL 3 0 1 G ap (zQ G (rk _ hx.2) (.o (vq 4 G)) (zv G (aT (qs:=[(0,_),(1,_)]) aS (.cons ⟨rfl,vq 2 rfl,rfl⟩ (.cons ⟨rfl,vq 5 rfl,rfl⟩ .nil))) (zS 6 G ax o0)))))))) zk zk zk zk (zz [] RD λ a w U=>?_);refine aa<|qh<|al ?_ (au G U (zm 1 G) ax);exact aG
theorem gk (x y:RF)(hx:bdF x):Cn Tryz.prog 88 [(RFT x).va,(RFA y).va] (Bo (decide (x=y))):=by
 refine Cn.intro Tryz.func88 G zk nq (zy [(0,(RFT x).va),(1,(RFA y).va)] λ B w0 a U=>?_);refine qb<|zg [] RJ UC Ud U (zW 0 G (zW 1 G (zE G aE))) (zz U3 RK ?_);refine ztA<|zgA UF [] (.adr 5 2 (.some 0) True::.v 6 _::.adr 7 3 (.some 0) True::(Wb 8 [.adr 11 2 (.some 2) (_=true),.t 12 _,.adr 13 3 (.some 2) (_=true),.t 14 _,.t 15 _,.v 16 _,.v 4 _])) [.o 12] (zO 0 G aZ (zL 0 0 0 G ap (zO 1 G aZ (zL 2 1 0 G ap (zQ G (rR _ _ hx.1) (.p (vq 1 G) (vq 3 G)) (zV 4 G (zC 5 0 G aU (zB 5 G (λ hg=>aB 6 G zk hg (lz0 0 G) (Sub.part 1 G G) ap) (zC 5 1 G aU (zB 5 G (λ hg=>aB 8 G zk hg (lz0 1 G) (Sub.part 1 G G) ap) (zB 5 G (λ hg=>be (rR _ _ hx.2) (.p (ae (vq 7 G) hg) (ae (vq 9 G) hg))) (zv G (bv (vq 5 G) (vq 10 G)) (zA 11 G o0))))))))))))) (zz U3 RK λ a w U=>?_);refine aa<|qh<|al ?_ (am G U (zm 0 G));exact ba (qp Bo Mz)
def LenS (k:Nat):As where
 n:=1
 ag:=false
 p _ cs _:=∃ g c,cs=[.slice (some ⟨g,0,none⟩) k c]
 deps:=[]
 len:=by rintro B cs w ⟨g,c,rfl⟩;rfl
 one:=by rintro B cs w ⟨g,c,rfl⟩ x hx;simp at hx;subst hx;rfl
 ag1:=λ _=>rfl
 cg:=λ _ _ _ _ _ h=>h
 wr:=λ _ _ _ _ _ _ _ _ _ _ _ _ h=>h
def IntZ:As:=cat [BoA false,EqS (.slice none 0 0)]
def IntM (n:Nat):As:=cat [BoA false,LenS (1+n%40)]
def FrZ:As:=cat [IntZ,IntZ]
def FrM (n:Nat):As:=cat [IntM n,IntZ]
def MkE (n:Nat):As:=cat [NumA .u8 99,FrM n,FrZ]
def anyA (A:As):Prop:=∀ B B' w w' cs,A.p B cs w→A.p B' cs w'
theorem nv {l:Yb}(h:∀ A∈l,anyA A):anyA (cat l):=by
 rintro B B' w w' cs ⟨ps,e,hp⟩;refine ⟨ps,e,?_⟩;clear e
 induction hp with
 | nil=>exact .nil
 | cons h1 _ ih=>exact .cons (h _ (by simp) _ _ _ _ _ h1) (ih λ A hA=>h A (by simp [hA]))
theorem iT (h:anyA A)(h':anyA A'):∀ X∈[A,A'],anyA X:=λ X hX=>by
 rcases qr.1 hX with rfl|hX
 ·exact h
 ·obtain rfl:=qn.1 hX;exact h'
theorem E2:anyA IntZ:=nv (iT (λ _ _ _ _ _ h=>h) (λ _ _ _ _ _ h=>h))
theorem P7 (n:Nat):anyA (IntM n):=nv (iT (λ _ _ _ _ _ h=>h) (λ _ _ _ _ _ h=>h))
theorem P8:anyA FrZ:=nv (iT E2 E2)
theorem P9 (n:Nat):anyA (FrM n):=nv (iT (P7 n) E2)
theorem mkp_e:MkP MkE 9:=⟨λ _=>rfl,λ _=>rfl,λ n=>nv (λ X hX=>by
 rcases qr.1 hX with rfl|hX
 ·exact λ _ _ _ _ _ h=>h
 ·exact iT (P9 n) P8 X hX)⟩
section
variable {P:Program}{R:Rg}{Q:Exit→Act→World→Prop}{B i:Nat}{w0:Bs}
theorem Jh (hM:oj P S U32 .u32)(hx:Has R B w0 i x (In n))(hy:Has R B w0 i y (In n))(hn:n≤17592186044416):Wv P Q R B w0 i (.makeSlice S x y) (LenS n).va :=
 bk λ d T ps af gd a w av=>by
  obtain ⟨h1,h2,h3,h4,h5⟩:=hM;obtain ⟨it,hi,hz⟩:=j2.1 h2;have hby:=h5 it hi;have hm:=run_make (P:=P) w S U32 it (.int .u32 0) h1 hi hz .i64 .i64 n n zo zo (by
   have:it.bytes*n≤8*n:=qJ _ hby;have h6:((it.bytes*n:Nat):Int)≤281474976710656:=by omega
   rwa [xF] at h6) zo
  have e1:=bj (hx a w av);have e2:=bj (hy a w av);refine ⟨.slice (some ⟨w.heap.size,0,none⟩) n n,w.alloc (.cells (madeCells (Value.int .u32 0).cells (n*it.size)) U32),?_,Grow.alloc _ _,⟨[.slice (some ⟨w.heap.size,0,none⟩) n n],⟨_,_,rfl⟩,rfl⟩⟩;simp only [z9] at hm;simp [execOp,e1,e2,hm]
theorem MY {S E':Yh}(hS:P.underlying S=some (.slice E'))(hx:Has R B w0 i x (LenS k).va):Wv P Q R B w0 i (.call ⟨.builtin .len,#[x],#[S]⟩) (In k) :=
 bk λ d T ps af gd a w av=>by
  obtain ⟨cs,⟨g,c,rfl⟩,hv⟩:=hx a w av;have hv':a.eval x=.slice (some ⟨g,0,none⟩) k c:=hv;refine ⟨.int .i64 (k:Int),w,?_,Grow.refl w,bV _ _ _ _⟩;simp [execOp,resolve,invoke,builtin,hv',Builtin.len_,run_underlying hS,goInt]
theorem rC {S E':Yh}(hS:P.underlying S=some (.slice E'))(hv:RowV v n)(hx:Has R B w0 i x (EqS v).va):Wv P Q R B w0 i (.call ⟨.builtin .len,#[x],#[S]⟩) (In n) :=
 bk λ d T ps af gd a w av=>by
  have e:=mY (hx a w av);rcases hv with ⟨rfl,rfl⟩|⟨g,cap,rfl,_⟩
  ·refine ⟨.int .i64 0,w,?_,Grow.refl w,bV _ _ _ _⟩;simp [execOp,resolve,invoke,builtin,e,Builtin.len_,run_underlying hS,goInt]
  ·refine ⟨.int .i64 (n:Int),w,?_,Grow.refl w,bV _ _ _ _⟩;simp [execOp,resolve,invoke,builtin,e,Builtin.len_,run_underlying hS,goInt]
end
theorem ub:Str Tryz.prog 26 [BoA false,EqS (.slice none 0 0)] :=
 Str.of (z:=.agg #[.bool false,.slice none 0 0]) zk xP zk λ B w=>⟨[[.bool false],[.slice none 0 0]],rfl,.cons rfl (.cons ⟨rfl,rfl⟩ .nil)⟩
theorem iz_p (B:Nat)(w:Yi):IntZ.p B [.bool false,.slice none 0 0] w:=⟨[[.bool false],[.slice none 0 0]],rfl,.cons rfl (.cons ⟨rfl,rfl⟩ .nil)⟩
theorem fz_p (B:Nat)(w:Yi):FrZ.p B [.bool false,.slice none 0 0,.bool false,.slice none 0 0] w:=⟨[[.bool false,.slice none 0 0],[.bool false,.slice none 0 0]],rfl,.cons (iz_p B w) (.cons (iz_p B w) .nil)⟩
theorem yi:Str Tryz.prog 28 [IntZ,IntZ] :=
 Str.of (z:=.agg #[.bool false,.slice none 0 0,.bool false,.slice none 0 0]) zk jb zk λ B w=>fz_p B w
theorem rq:Str Tryz.prog 76 [NumA .u8 0,FrZ,FrZ] :=
 Str.of (z:=.agg #[.int .u8 0,.bool false,.slice none 0 0,.bool false,.slice none 0 0,.bool false,.slice none 0 0,.bool false,.slice none 0 0]) zk x7 zk λ B w=>⟨[[.int .u8 0],[.bool false,.slice none 0 0,.bool false,.slice none 0 0],[.bool false,.slice none 0 0,.bool false,.slice none 0 0]],rfl,.cons rfl (.cons (fz_p B w) (.cons (fz_p B w) .nil))⟩
theorem tm40 :((n:Nat):Int).tmod 40=((n%40:Nat):Int):=by rw [vb zo];omega
theorem w40 :IntKind.i64.wrap (1+((n%40:Nat):Int))=((1+n%40:Nat):Int):=by rw [wi64 zo zo];omega
theorem Ci (n0:Nat):Cn Tryz.prog 212 [In (n0:Nat)] ((IntM n0).va):=by
 refine Cn.intro Tryz.func212 G zk nq (zy [(0,In (n0:Nat))] λ B w0 a U=>?_);refine qb<|zg [] UK Uf UL U (zY G (Str.zero ub) o0) (zz UM UN ?_);refine ztA<|zgA Uc [] (Wd 3 [.sto 0]) [] (zM 0 G (zv G (nG (vq 0 G) ab zd tm40) (zv G (aL ab (vq 1 G) (w40)) (zv G (Jh fA (vq 2 G) (vq 2 G) zo) (zv G (aT (qs:=[(1,_)]) ub (.cons ⟨rfl,vq 3 rfl,rfl⟩ .nil)) (zS 4 G ap o0)))))) (zz [] UN λ a w U=>?_);refine aa<|qh<|al ?_ (au G U (zm 0 G) ap);exact aG
theorem Ks (n0:Nat):Cn Tryz.prog 213 [(IntM n0).va,In (n0:Nat)] (Bo true):=by
 refine Cn.intro Tryz.func213 G zk nq (zy [(0,(IntM n0).va),(1,In (n0:Nat))] λ B w0 a U=>?_);refine qb<|zg [] UK S0 RO U (zW 0 G (zE G aE)) (zz (Wc 1 4) UN ?_);refine ztA<|zgA U4 [] (.adr 5 2 (.some 1) True::(WG 6 [.adr 13 2 (.some 0) (_=true),.t 14 _,.t 15 _,.v 16 _,.v 4 _])) [.o 12] (zO 0 G ar (zL 0 0 1 G bb (zv G (MY qd (vq 1 G)) (zM 0 G (zv G (nG (vq 3 G) ab zd tm40) (zv G (aL ab (vq 4 G) (w40)) (zv G (bC (vq 2 G) (vq 5 G)) (zV 6 G (zC 7 0 G aY (zB 7 G (λ hg=>aB 8 G zk hg (lz0 0 G) (Sub.part 0 G G) ty_4) (zB 7 G (λ hg=>dc (ae (vq 9 G) hg)) (zv G (bv (vq 7 G) (vq 10 G)) (zA 11 G o0))))))))))))) (zz U3 UN λ a w U=>?_);refine aa<|qh<|al ?_ (am G U (zm 0 G));refine ba (qp Bo ?_);simp
theorem ir (n0:Nat):Cn Tryz.prog 142 [In (n0:Nat)] ((MkE n0).va):=by
 refine Cn.intro Tryz.func142 G zk nq (zy [(0,In (n0:Nat))] λ B w0 a U=>?_);refine qb<|zg [] [zpL 2 76 0 _] Uf UL U (zY G (Str.zero rq) o0) (zz UM [O 2 76 _] ?_);refine ztA<|zgA [some (4,_)] [] (Ww 3 [.sto 0]) [] (zM 0 G (zQ G (Ci _) (.o (vq 0 G)) (zv G (aT (qs:=[(0,_)]) yi (.cons ⟨rfl,vq 1 rfl,rfl⟩ .nil)) (zv G (aT (qs:=[(0,_),(1,_)]) rq (.cons ⟨rfl,ab,rfl⟩ (.cons ⟨rfl,vq 2 rfl,rfl⟩ .nil))) (zS 3 G dq o0))))) (zz [] [O 2 76 _] λ a w U=>?_);refine aa<|qh<|al ?_ (au G U (zm 0 G) dq);exact aG
theorem mP (n0:Nat):Cn Tryz.prog 158 [(MkE n0).va,In (n0:Nat)] (Bo true):=by
 refine Cn.intro Tryz.func158 G zk nq (zy [(0,(MkE n0).va),(1,In (n0:Nat))] λ B w0 a U=>?_);refine qb<|zg [] [zpL 2 76 0 _] S0 RO U (zW 0 G (zE G aE)) (zz (Wc 1 4) [O 2 76 _] ?_);refine ztA<|zgA U4 [] (.adr 5 2 (.some 0) True::(Wb 6 (.adr 9 2 (.some 1) (_=true)::.adr 10 2 (.some (1+0)) (_=true)::.t 11 _::.t 12 _::.t 13 _::(W6 14 [.adr 16 2 (.some 5) (_=true),.adr 17 2 (.some (5+0)) (_=true),.adr 18 2 (.some (5+1)) (_=true),.t 19 _,.t 20 _,.t 21 _,.v 22 _,.v 4 _])))) [.o 18] (zO 0 G cR (zL 0 0 0 G lO (zv G (bC (vq 1 G) ab) (zV 2 G (zC 3 0 G bL (oc (yC G G G (vq 3 G) nq (λ hg=>dT 4 G zk hg (lz0 0 G) aZ)) (zB 3 G (λ hg=>aB 5 G zk hg (lz0 0 G) (Sub.trans (Sub.part 1 G G) (Sub.part 0 G G) G) ap) (zB 3 G (λ hg=>aq (gq 0 G)) (zB 3 G (λ hg=>be (Ks _) (.p (ae (vq 6 G) hg) (ae (vq 7 G) hg))) (zv G (bv (vq 3 G) (vq 8 G)) (zV 9 G (zC 10 0 G bZ (oc (yC G G G (vq 10 G) nq (λ hg=>dT 11 G zk hg (lz0 0 G) aZ)) (oc (yC G G G (vq 10 G) nq (λ hg=>dT 12 G zk hg (lz0 0 G) ar)) (zB 10 G (λ hg=>aB 13 G zk hg (lz0 0 G) (Sub.trans (Sub.part 2 G G) (Sub.trans (Sub.part 0 G G) (Sub.part 1 G G) G) G) bb) (zB 10 G (λ hg=>bg qd (has_wk' (ae (vq 14 G) hg) bt)) (zB 10 G (λ hg=>bC (ae (vq 15 G) hg) ab) (zv G (bv (vq 10 G) (vq 16 G)) (zA 17 G o0))))))))))))))))))) (zz U3 [O 2 76 _] λ a w U=>?_);refine aa<|qh<|al ?_ (am G U (zm 0 G));refine ba (qp Bo ?_);simp
structure Slt.new (s:Slt):Prop where
 rv:RowV s.v s.xs.length
 z1:s.z.oneCell'=true
 n1:s.n≤1000000
 lx:s.xs.length≤2000000000
 uv:s.u=s.v
 yx:s.ys=s.xs
structure Fik (A:Nat→As) (s t:Slt) (c:Nat→Prop):Prop where
 v:t.v=s.v
 u:t.u=s.v
 yx:t.ys=t.xs
 z:t.z=s.z
 n:t.n=s.n
 l:t.xs.length=s.xs.length
 m:∀ q x,t.xs[q]?=some x→c q→isMk A s.n x
def FiK (A:Nat→As)(L M:List Slt)(i k:Nat):Prop:=M.length=L.length∧∀ (j:Nat) s,L[j]?=some s→∃ t,M[j]?=some t∧Fik A s t (λ q=>j<i∨(j=i∧q<k))
theorem QE {A:Nat→As}{L:List Slt}(h:∀ s∈L,s.new):FiK A L L 0 0:=⟨rfl,λ j s hs=>⟨s,hs,rfl,(h s (qa hs)).uv,(h s (qa hs)).yx,rfl,rfl,rfl,λ q x _ hc=>by omega⟩⟩
theorem HC {A:Nat→As}{L M:List Slt}{s:Slt}(h:FiK A L M i k)(hs:L[j]?=some s):∃ t,M[j]?=some t∧Fik A s t (λ q=>j<i∨(j=i∧q<k)):=h.2 j s hs
theorem G0 {A:Nat→As}{L M:List Slt}{s t:Slt}(h:FiK A L M i k)(hs:L[i]?=some s)(ht:M[i]?=some t)(hd:isMk A s.n ds):FiK A L (M.set i { t with xs:=t.xs.set k ds,ys:=t.xs.set k ds }) i (k+1):=by
 have hlt:=(List.getElem?_eq_some_iff.1 ht).1;refine ⟨by rw [qX];exact h.1,λ j s' hj=>?_⟩;obtain ⟨t',h1,h2⟩:=h.2 j s' hj;by_cases e:j=i
 ·subst e;rw [hs] at hj;injection hj with hj;subst hj;rw [ht] at h1;injection h1 with h1;subst h1;refine ⟨_,List.getElem?_set_self hlt,h2.v,h2.u,rfl,h2.z,h2.n,by rw [qX];exact h2.l,λ q x hq hc=>?_⟩;by_cases e2:q=k
  ·subst e2;have hq':(t.xs.set q ds)[q]?=some x:=hq;rw [List.getElem?_set] at hq';simp only [if_true] at hq';split at hq'
   ·injection hq' with hq';subst hq';exact hd
   ·cases hq'
  ·have hq':(t.xs.set k ds)[q]?=some x:=hq;rw [List.getElem?_set_ne (λ e3=>e2 e3.symm)] at hq';exact h2.m q x hq' zo
 ·refine ⟨t',by rw [List.getElem?_set_ne (λ e2=>e e2.symm)];exact h1,h2.v,h2.u,h2.yx,h2.z,h2.n,h2.l,λ q x hq hc=>h2.m q x hq ?_⟩;rcases hc with hc|⟨hc,_⟩
  ·exact .inl hc
  ·exact absurd hc e
theorem G1 {A:Nat→As}{L M:List Slt}{s:Slt}(h:FiK A L M i s.xs.length)(hs:L[i]?=some s):FiK A L M (i+1) 0:=by
 refine ⟨h.1,λ j s' hj=>?_⟩;obtain ⟨t,h1,h2⟩:=h.2 j s' hj;refine ⟨t,h1,h2.v,h2.u,h2.yx,h2.z,h2.n,h2.l,λ q x hq hc=>h2.m q x hq ?_⟩;rcases hc with hc|⟨_,hc⟩
 ·by_cases e:j=i
  ·subst e;rw [hs] at hj;injection hj with hj;subst hj;have:=(List.getElem?_eq_some_iff.1 hq).1;exact .inr ⟨rfl,by rw [← h2.l];exact this⟩
  ·exact .inl zo
 ·omega
structure Slt.full (A:Nat→As) (s:Slt):Prop extends s.new where
 xm:∀ x∈s.xs,isMk A s.n x
theorem D8 {A:Nat→As}{s t:Slt}{c:Nat→Prop}(h:Fik A s t c)(hs:s.new):t.new:=⟨by rw [h.v,h.l];exact hs.rv,by rw [h.z];exact hs.z1,by rw [h.n];exact hs.n1,by rw [h.l];exact hs.lx,by rw [h.u,h.v],h.yx⟩
theorem D9 {A:Nat→As}{L M:List Slt}(h:FiK A L M i k){t:Slt}(ht:t∈M):∃ j s,L[j]?=some s∧Fik A s t (λ q=>j<i∨(j=i∧q<k)):=by
 obtain ⟨j,hj⟩:=List.getElem?_of_mem ht;have hlt:=(List.getElem?_eq_some_iff.1 hj).1;rw [h.1] at hlt;obtain ⟨t',h1,h2⟩:=h.2 j _ (List.getElem?_eq_getElem hlt);rw [hj] at h1;injection h1 with h1;subst h1;exact ⟨j,_,List.getElem?_eq_getElem hlt,h2⟩
theorem L5 {A:Nat→As}{L M:List Slt}(h:FiK A L M i k)(hn:∀ s∈L,s.new):OneK M:=λ t ht=>by
 obtain ⟨j,s,hs,hf⟩:=D9 h ht;have:=D8 hf (hn s (qa hs));exact ⟨this.rv.one,this.z1⟩
def r7 (A:Nat→As)(L M:List Slt):Prop:=M.length=L.length∧∀ t∈M,t.full A
theorem L6 {A:Nat→As}{L M:List Slt}(h:FiK A L M i 0)(hi:L.length≤i)(hn:∀ s∈L,s.new):r7 A L M:=⟨h.1,λ t ht=>by
 obtain ⟨j,s,hs,hf⟩:=D9 h ht;refine ⟨D8 hf (hn s (qa hs)),λ x hx=>?_⟩;obtain ⟨q,hq⟩:=List.getElem?_of_mem hx;rw [hf.n];exact hf.m q x hq (.inl (by have:=(List.getElem?_eq_some_iff.1 hs).1;omega))⟩
structure GrewK (A:Nat→As) (s t:Slt):Prop where
 v:t.v=s.v
 xs:t.xs=s.xs
 n:t.n=s.n
 z:t.z=t.u
 yl:t.ys.length=s.xs.length+70
 ym:∀ y∈t.ys,isMk A s.n y
def GrK (A:Nat→As)(L M:List Slt)(i:Nat):Prop:=M.length=L.length∧∀ (j:Nat) s,L[j]?=some s→∃ t,M[j]?=some t∧(j<i→GrewK A s t)∧(i≤j→t=s)
theorem Qw {A:Nat→As}{L:List Slt}:GrK A L L 0:=⟨rfl,λ j s h=>⟨s,h,λ h=>absurd h (k6 _),λ _=>rfl⟩⟩
theorem NV {A:Nat→As}{L M:List Slt}{s:Slt}(h:GrK A L M i)(hs:L[i]?=some s):M[i]?=some s:=by
 obtain ⟨t,h1,_,h2⟩:=h.2 i s hs;rw [h1,h2 (qi _)]
def Slt.ext (s:Slt)(u:Value)(ys:List (List Value)):Slt:={ s with u:=u,ys:=ys }
theorem Fy {A:Nat→As}{L M:List Slt}{s:Slt}{u:Yo}{ys:Yy}(h:GrK A L M i)(hs:L[i]?=some s)(hl:ys.length=s.xs.length+70)(hy:∀ y∈ys,isMk A s.n y):GrK A L (M.set i { s.ext u ys with z:=u }) (i+1):=by
 refine ⟨by rw [qX];exact h.1,λ j s' hj=>?_⟩;by_cases e:j=i
 ·subst e;rw [hs] at hj;injection hj with hj;subst hj;refine ⟨_,List.getElem?_set_self (by rw [h.1];exact (List.getElem?_eq_some_iff.1 hs).1),λ _=>⟨rfl,rfl,rfl,rfl,hl,hy⟩,λ h=>by omega⟩
 ·obtain ⟨t,h1,h2,h3⟩:=h.2 j s' hj;exact ⟨t,by rw [List.getElem?_set_ne (λ e2=>e e2.symm)];exact h1,λ h=>h2 zo,λ h=>h3 zo⟩
theorem KG {A:Nat→As}{L M:List Slt}(h:GrK A L M i){t:Slt}(ht:t∈M):∃ s∈L,GrewK A s t∨t=s:=by
 obtain ⟨j,hj⟩:=List.getElem?_of_mem ht;have hlt:=(List.getElem?_eq_some_iff.1 hj).1;rw [h.1] at hlt;obtain ⟨t',h1,h2,h3⟩:=h.2 j _ (List.getElem?_eq_getElem hlt);rw [hj] at h1;injection h1 with h1;subst h1;refine ⟨_,qg hlt,?_⟩;by_cases e:j<i
 ·exact .inl (h2 e)
 ·exact .inr (h3 zo)
structure Slt.done (A:Nat→As) (t:Slt):Prop where
 rv:RowV t.v t.xs.length
 zu:t.z=t.u
 xm:∀ x∈t.xs,isMk A t.n x
 ym:∀ y∈t.ys,isMk A t.n y
 yl:t.ys.length=t.xs.length+70
 n1:t.n≤1000000
 lx:t.xs.length≤2000000000
def r8 (A:Nat→As)(L M:List Slt):Prop:=M.length=L.length∧∀ t∈M,t.done A
theorem KH {A:Nat→As}{L M:List Slt}(h:GrK A L M i)(hi:L.length≤i)(hf:∀ s∈L,s.full A):r8 A L M:=⟨h.1,λ t ht=>by
 obtain ⟨j,hj⟩:=List.getElem?_of_mem ht;have hlt:=(List.getElem?_eq_some_iff.1 hj).1;rw [h.1] at hlt;obtain ⟨t',h1,h2,_⟩:=h.2 j _ (List.getElem?_eq_getElem hlt);rw [hj] at h1;injection h1 with h1;subst h1;have hG:=h2 zo;have hs:=hf _ (qg hlt);exact ⟨by rw [hG.v,hG.xs];exact hs.rv,hG.z,by rw [hG.xs,hG.n];exact hs.xm,by rw [hG.n];exact hG.ym,by rw [hG.xs];exact hG.yl,by rw [hG.n];exact hs.n1,by rw [hG.xs];exact hs.lx⟩⟩
theorem ui {M:List Slt}{x y:Slt}:(M.set i x).set i y=M.set i y:=by simp
theorem B9 {M:List Slt}{x:Slt}(h:M[i]?=some x):M.set i x=M:=by
 obtain ⟨h1,h2⟩:=List.getElem?_eq_some_iff.1 h;subst h2;simp
theorem O6 {s:Slt}(h:s.new):s.ext s.v s.xs=s:=by
 have h1:=h.uv;have h2:=h.yx;obtain ⟨v,xs,u,ys,z,n⟩:=s;simp only at h1 h2;subst h1 h2
 rfl
theorem Nt {A:Nat→As}{ys:Yy}(h:∀ y∈ys,isMk A n y)(hd:isMk A n ds):∀ y∈ys++[ds],isMk A n y:=λ y hy=>by
 rcases qo.1 hy with hy|hy
 ·exact h y hy
 ·obtain rfl:=qn.1 hy;exact hd
theorem Bu (h:k<n):(List.replicate n A)[k]?=some A:=by rw [List.getElem?_replicate,qC h]
theorem H6 (h:A.n=m):∀ X∈List.replicate n A,X.n=m:=λ X hX=>by rw [(xM.1 hX).2];exact h
def ExtP (A:Nat→As)(s:Slt)(k:Nat)(ys:List (List Value)):Prop:=ys.length=s.xs.length+k∧s.xs <+: ys∧∀ y∈ys,isMk A s.n y
theorem O5 {A:Nat→As}{s:Slt}(h:s.full A):ExtP A s 0 s.xs:=⟨rfl,List.prefix_refl _,h.xm⟩
theorem FZ {A:Nat→As}{s t:Slt}{c:Nat→Prop}(h:Fik A s t c):t.view=s.view:=by
 unfold Slt.view;rw [h.v,h.z,h.n]
theorem Ed {A:Nat→As}{M:List Slt}{s t:Slt}{c:Nat→Prop}(ht:M[i]?=some t)(h:Fik A s t c):(M.map Slt.view)[i]?=some s.view:=by rw [oo ht,FZ h]
theorem da:Str Tryz.prog 135 [EqS (.slice none 0 0),EqS (.slice none 0 0),NumA .i64 0] :=
 Str.of (z:=.agg #[.slice none 0 0,.slice none 0 0,.int .i64 0]) zk Tryz.underlying135 zk λ B w=>⟨[[.slice none 0 0],[.slice none 0 0],[.int .i64 0]],rfl,.cons ⟨rfl,rfl⟩ (.cons ⟨rfl,rfl⟩ (.cons rfl .nil))⟩
theorem pZ:∃ it z,Tryz.prog.info? 76=some it∧it.zero=some z∧it.size=9∧it.bytes=136∧z.cells.size=9:=by
 have h:((Tryz.prog.info? 76).bind λ it=>it.zero.map λ z=>(it.size,it.bytes,z.cells.size))=some (9,136,9):=by kernel_rfl
 cases hi:Tryz.prog.info? 76 with
 | none=>rw [hi] at h;simp at h
 | some it =>
  rw [hi] at h;cases hz:it.zero with
  | none=>simp [hz] at h
  | some z =>
   simp [hz] at h;exact ⟨it,z,rfl,hz,h.1,h.2.1,h.2.2⟩
theorem r9 {X:BkRest}{L:List Slot}{M M':List Slt}{B g T:Nat}{c c':Array Yo}(h:(BqA { X with M:=M } vr L).p B cs w)(hgc:w.heap[g]?=some (.cells c T (0,0)))(hT:T=135∨T=76)(hB:B≤g)(f:∀ c0,(HkA 135 76 9 X.ve M).p B c0 w→(HkA 135 76 9 X.ve M').p B c0 (w.setRow g c')):(BqA { X with M:=M' } vr L).p B cs (w.setRow g c'):=by
 rcases hT with rfl|rfl
 ·exact su h G (λ c0 hp=>As.kwr hp hgc (show 135 ∉ [137,U32] by decide) hB) (λ c0 hp=>As.kwr hp hgc (show 135 ∉ [141,3] by decide) hB) (λ c0 hp=>As.kwr hp hgc (show 135 ∉ [168,124] by decide) hB) f
 ·exact su h G (λ c0 hp=>As.kwr hp hgc (show 76 ∉ [137,U32] by decide) hB) (λ c0 hp=>As.kwr hp hgc (show 76 ∉ [141,3] by decide) hB) (λ c0 hp=>As.kwr hp hgc (show 76 ∉ [168,124] by decide) hB) f
theorem CT {X:BkRest}{L:List Slot}{M M':List Slt}{row:Yu}(h:(BqA { X with M:=M } vr L).p B cs w)(hg:w.grownBy w' row)(hr:gF w B 76 row)(f:∀ c0,(HkA 135 76 9 X.ve M).p B c0 w→(HkA 135 76 9 X.ve M').p B c0 w'):(BqA { X with M:=M' } vr L).p B cs w' :=
 su h rfl (λ c0 hp=>As.grown hp hg hr (qi _) (show 76 ∉ [137,U32] by decide)) (λ c0 hp=>As.grown hp hg hr (qi _) (show 76 ∉ [141,3] by decide)) (λ c0 hp=>As.grown hp hg hr (qi _) (show 76 ∉ [168,124] by decide)) f
theorem em {X:BkRest}{L:List Slot}{M:List Slt}(h:(BqA { X with M:=M } vr L).p B cs w):∃ c,(HkA 135 76 9 X.ve M).p B c w:=(cS h).2.2.2
theorem Da {X:BkRest}{L:List Slot}{M:List Slt}{B i k g cap:Nat}{t:Slt}(hi:M[i]?=some t)(hu:t.u=t.v)(hy:t.ys=t.xs)(hv:t.v=.slice (some ⟨g,0,none⟩) t.xs.length cap)(hk:k<t.xs.length)(hd:ds.length=9)(h:(BqA { X with M:=M } vr L).p B cs w):
  B≤g∧∃ c:Array Value,w.heap[g]?=some (Obj.cells c 76 (0,0))∧k*9+9≤c.size∧(BqA { X with M:=M.set i { t with xs:=t.xs.set k ds,ys:=t.xs.set k ds } } vr L).p B cs (w.setRow g (c.toList.take (k*9)++ds++c.toList.drop (k*9+9)).toArray):=by
 obtain ⟨c0,h0⟩:=em h;obtain ⟨h2,c,h3,h4,h5⟩:=CL zd h0 hi hu hy hv hk hd;refine ⟨h2,c,h3,h4,r9 h h3 (.inr G) h2 λ c1 h6=>?_⟩;obtain ⟨_,c',h7,_,h8⟩:=CL zd h6 hi hu hy hv hk hd;rw [h3] at h7;injection h7 with h7;injection h7 with h7;subst h7;exact h8
def cQ (X:BkRest)(vr:Value)(L:List Slot)(p:List Slt→Prop):As where
 n:=17
 ag:=true
 p B cs w:=∃ M,p M∧(BqA { X with M:=M } vr L).p B cs w
 deps:=(BqA X vr L).deps
 len:=λ B cs w ⟨M,_,h⟩=>(BqA { X with M:=M } vr L).len B cs w h
 one:=λ B cs w ⟨M,_,h⟩=>(BqA { X with M:=M } vr L).one B cs w h
 ag1:=λ h=>by cases h
 cg:=λ B cs w w' hg ⟨M,h1,h⟩=>⟨M,h1,(BqA { X with M:=M } vr L).cg B cs w w' hg h⟩
 wr:=λ B cs w w' g c T fz h1 h2 h3 h4 ⟨M,h5,h⟩=>⟨M,h5,(BqA { X with M:=M } vr L).wr B cs w w' g c T fz h1 h2 h3 h4 h⟩
theorem sf {X:BkRest}{L:List Slot}{M:List Slt}{p:List Slt→Prop}(hp:p M):WkA (BqA { X with M:=M } vr L) (cQ X vr L p):=⟨rfl,rfl,λ B cs w h=>⟨M,hp,h⟩⟩
theorem mu {X:BkRest}{L:List Slot}{p:List Slt→Prop}(h:St B w0 N Γ Λ a w)(k:Nat)(hm:Λ[k]?=some ⟨s,T,H,cQ X vr L p⟩):∃ M,p M∧St B w0 N Γ (Λ.set k ⟨s,T,H,BqA { X with M:=M } vr L⟩) a w:=by
 obtain ⟨g,cs,q1,q2,q3,M,hG,q4⟩:=h.locs _ (qa hm);have hs:∀ m∈Λ.set k ⟨s,T,H,BqA { X with M:=M } vr L⟩,∃ m0∈Λ,m0.s=m.s:=λ m hm'=>by
  rcases qA hm' with hm' | rfl
  ·exact ⟨m,hm',rfl⟩
  ·exact ⟨_,qa hm,rfl⟩
 refine ⟨M,hG,h.lo,h.defers,h.size,h.base,h.vals,λ l hl=>?_,λ m1 hm1 m2 hm2 hne=>?_⟩
 ·rcases qA hl with hl|rfl
  ·exact h.locs l hl
  ·exact ⟨g,cs,q1,q2,q3,q4⟩
 ·obtain ⟨m3,r1,r2⟩:=hs m1 hm1;obtain ⟨m4,r3,r4⟩:=hs m2 hm2;rw [← r2,← r4] at hne ⊢;exact h.dis m3 r1 m4 r3 hne
theorem E1 {X:BkRest}{L:List Slot}{M:List Slt}{s:Slt}{u:Yo}{ys:Yy}(hMi:M[i]?=some s)(hE:ExtP MkE s k ys)(h:(BqA { X with M:=M.set i (s.ext u ys) } vr L).p B cs w):
  w.ownsRow B 76 9 u (s.xs.length+k) ys.flatten∧∀ v' w' ds,isMk MkE s.n ds→w'.ownsRow B 76 9 v' (s.xs.length+k+1) (ys.flatten++ds)→w.grownBy w' u.ownBlock→(v'.ownBlock=u.ownBlock∨(v'.ownBlock=some w.heap.size∧w.grownBy w' none))→(cQ X vr L λ M'=>∃ ys',M'=M.set i (s.ext v' ys')∧ExtP MkE s (k+1) ys').p B cs w':=by
 have hlt:=(List.getElem?_eq_some_iff.1 hMi).1;have hi:(M.set i (s.ext u ys))[i]?=some (s.ext u ys):=List.getElem?_set_self hlt;obtain ⟨hl,hp,hm⟩:=hE;obtain ⟨c0,h0⟩:=em h;have hown0:w.ownsRow B 76 9 u (s.xs.length+k) ys.flatten:=by
  have:=(h0.2.2.1 _ (qa hi)).1;rw [show (s.ext u ys).ys.length=s.xs.length+k from hl] at this;exact this
 refine ⟨hown0,λ v' w' ds hds hown hg hb=>⟨M.set i (s.ext v' (ys++[ds])),⟨ys++[ds],rfl,by rw [qu,hl];rfl,hp.trans (List.prefix_append _ _),Nt hm hds⟩,CT h hg (fb hown0) λ c hc=>?_⟩⟩;have:=NR (v':=v') (ds:=ds) zd hc hi (by rw [show (s.ext u ys).ys.length=s.xs.length+k from hl];exact hown) hg hb (λ _=>hp) (λ y hy=>mkp_e.len (hm y hy));rw [ui] at this;exact this
theorem BL {X:BkRest}{vr z:Yo}{L:List Slot}{M:List Slt}{B i g cap:Nat}{s:Slt}(hi:M[i]?=some s)(hvr:X.ve=.slice (some ⟨g,0,none⟩) M.length cap)(h:(BqA { X with M:=M } vr L).p B cs w):
  B≤g∧∃ c:Array Value,w.heap[g]?=some (Obj.cells c 135 (0,0))∧i*3+1<c.size∧(BqA { X with M:=M.set i { s with z:=z } } vr L).p B cs (w.setRow g (c.setIfInBounds (i*3+1) z)):=by
 obtain ⟨c0,h0⟩:=em h;obtain ⟨h2,c,h3,h4,h5⟩:=Hy zd z h0 hi hvr;refine ⟨h2,c,h3,h4,r9 h h3 (.inl G) h2 λ c1 h6=>?_⟩;obtain ⟨_,c',h7,_,h8⟩:=Hy zd z h6 hi hvr;rw [h3] at h7;injection h7 with h7;injection h7 with h7;subst h7;exact h8
theorem mO {X:BkRest}{L:List Slot}{M:List Slt}(h:St B w0 N Γ Λ a w)(k:Nat)(hm:Λ[k]?=some ⟨s,T,H,BqA { X with M:=M } vr L⟩):RowV X.ve M.length∧∀ t∈M,RowV t.u t.ys.length∧RowV t.v t.xs.length:=by
 obtain ⟨g,cs,_,_,_,hp⟩:=h.locs _ (qa hm);obtain ⟨c,h1,h2,h3,_⟩:=em hp;exact ⟨(de h2).2,λ t ht=>⟨(de (h3 t ht).1).2,(h3 t ht).2.1⟩⟩
theorem Cy {X:BkRest}{L:List Slot}(h:St B w0 N Γ Λ a w)(k:Nat)(hm:Γ[k]?=some (s,ElP T (BqA X vr L))):∀ t∈X.M,RowV t.u t.ys.length∧RowV t.v t.xs.length:=by
 obtain ⟨b,o,cs,_,_,_,hp,_⟩:=h.vals _ (qa hm);obtain ⟨c,h1,h2,h3,_⟩:=em (M:=X.M) hp;exact λ t ht=>⟨(de (h3 t ht).1).2,(h3 t ht).2.1⟩
section
open Rg
variable {P:Program}{Q:Exit→Act→World→Prop}{R:Rg}{B i:Nat}{w0:Bs}
theorem AL {X:BkRest}{L:List Slot}{t:Slt}(hx:Has R B w0 i x (EqS t.v).va)(hl:Has R B w0 i y (ElP T (BqA X vr L)))(ht:t∈X.M)(hd:t.done MkE):Has R B w0 i x (SlA 76 [] (List.replicate t.xs.length (MkE t.n))).va:=λ a w av=>by
 obtain ⟨b,o,cs,_,_,_,h,_⟩:=hl a w av;obtain ⟨c,h⟩:=em (M:=X.M) h;rw [mY (hx a w av)];exact Bw mkp_e (h.2.2.1 t ht).2 hd.xm
theorem AQ {X:BkRest}{L:List Slot}{t:Slt}(hx:Has R B w0 i x (EqS t.z).va)(hl:Has R B w0 i y (ElP T (BqA X vr L)))(ht:t∈X.M)(hd:t.done MkE):Has R B w0 i x (SlA 76 [] (List.replicate t.ys.length (MkE t.n))).va:=λ a w av=>by
 obtain ⟨b,o,cs,_,_,_,h,_⟩:=hl a w av;obtain ⟨c,h⟩:=em (M:=X.M) h;rw [mY (hx a w av),hd.zu];exact Bw mkp_e (uz (λ y hy=>mkp_e.len (hd.ym y hy)) (h.2.2.1 t ht).1) hd.ym
end
theorem pL (X:BkRest)(vr:Yo)(L:List Slot)(hnew:∀ s∈X.M,s.new)(hl:X.M.length≤1000000):CK Tryz.prog 46 60 [60,135,76] (BqA X vr L) (cQ X vr L (r7 MkE X.M)) [] (Tu []):=by
 refine CK.intro Tryz.func46 G zk nq zk (λ B g w0 a hrm U=>?_);have U:=zn [(0,EqV ((ptrH).f g)),] [⟨0,60,ptrH,BqA X vr L⟩] U;refine qb<|zg U6 [] UA Rk U (zE G ab) (zz Rl RU λ a w U=>?_);refine aa<|qk ?_;have U:=U.sel [0,1];refine wp_loop_ghost (λ n a w=>∃ (i:Nat) (M:List Slt),(n+i=X.M.length∧FiK MkE X.M M i 0)∧St B w0 35 [(0,EqV (ptrH.f g)),(2,In (i:Nat))] [⟨0,60,ptrH,BqA { X with M:=M } vr L⟩] a w) (X.M.length) ?_ ?_
 ·exact ⟨0,X.M,⟨by omega,QE hnew⟩,U⟩
 intro n a w hI;obtain ⟨i,M,⟨hn,hF⟩,U⟩:=hI;have h1M:=L5 hF hnew;refine qb<|qb<|zg U6 [] (.v 5 _::.adr 6 0 (.some 0) True::.adr 7 0 (.some 0) True::.adr 8 0 (.some (0+9)) True::(Wb 9)) RV U (zM 1 G (oc (ob_a G G (gL (lz0 0 G))) (oc (ob_a G G (gK 1 G zk (lz0 0 G))) (oc (ob_a G G (dT 2 G zk trivial (lz0 0 G) dH)) (zL 3 0 9 G nC (zv G (bg xz (has_wk' (vq 4 G) (tk h1M))) (zv G (aN (vq 0 G) (vq 5 G)) o0))))))) (zz (Wa 0 2 11) RU λ a w U=>?_);refine zJ 2 U G (λ hb0=>?_) (λ hb0=>?_)
 ·have hi:i<X.M.length:=by have:=hF.1;simpa [this] using hb0
  obtain ⟨s,hs⟩:∃ s,X.M[i]?=some s:=⟨_,List.getElem?_eq_getElem hi⟩;have hwf:=hnew s (qa hs);obtain ⟨t,ht,hf⟩:=HC hF hs;have hvi:=Ed ht hf;refine qj<|zt<|qk<|qb<|bS (sp:=[.adr 14 0 (.some 0) True,.adr 15 0 (.some 0) True,.adr 16 0 (.some (0+9)) True,.v 17 _,.v 18 _,.v 19 _,.v 20 _,.v 3 VT,.sto 0]) 7 2 0 8 OneC [.g 0,.g 1,.o 6] U (oc (ob_a G G (gL (lz0 0 G))) (oc (ob_a G G (gK 0 G zk (lz0 0 G))) (oc (ob_a G G (dT 1 G zk trivial (lz0 0 G) dH)) (zL 2 0 9 G nC (zM 1 G (zv G (bB (m:=3) ⟨xz,by kernel_rfl⟩ sD (has_wk' (vq 3 G) (tk h1M)) (vq 4 G) hvi) (zv G (ao (vq 5 G) nP) o0))))))) G zd zk zk (zz (Wa 0 2 20) RU λ a w U=>?_);rw [show List.range' 7 2=[7,8] from rfl];refine fJ (A:=s.view) 2 [0,1] G G U (Str.zero da) G nP G zd G zk zk (λ a w U=>?_);refine bU ?_;have U:=zn Rl S1 U;refine zt<|zg UH [] WR WS U (zE G ab) (zz Rm S1 λ a w U=>?_);refine aa<|qk ?_;have U:=U.sel [0,1,2];refine wp_loop_ghost (λ n a w=>∃ (k:Nat) (M:List Slt),(n+k=s.xs.length∧FiK MkE X.M M i k)∧St B w0 35 [(0,EqV (ptrH.f g)),(2,In (i:Nat)),(4,In (k:Nat))] [⟨0,60,ptrH,BqA { X with M:=M } vr L⟩,⟨3,135,ptrH,s.view⟩] a w) (s.xs.length) ?_ ?_
  ·exact ⟨0,M,⟨by omega,hF⟩,U⟩
  intro n a w hI;obtain ⟨k,M,⟨hn2,hF⟩,U⟩:=hI;obtain ⟨t,ht,hf⟩:=HC hF hs;refine qb<|qb<|zg UH [] (.v 21 _::.adr 22 3 (.some 0) True::(Wb 23)) WU U (zM 2 G (zO 1 G eP (zL 1 1 0 G nE (zv G (rC zp hwf.rv (vq 2 G)) (zv G (aN (vq 0 G) (vq 3 G)) o0))))) (zz (Wf 0 2 4 25) S1 λ a w U=>?_);refine zJ 3 U G (λ hb1=>?_) (λ hb1=>?_)
  ·have hk:k<s.xs.length:=by simpa using hb1
   refine qj<|zt<|qk<|iE (sp:=[.adr 28 3 (.some 0) True,.v 29 _,.v 30 _,.adr 31 3 (.some 2) True,.v 32 _,.v 33 _,.v 34 VT,.sto 0]) [[],[0],[],[],[3],[3,4],[0,1,2,3,4,5],[0,1,2,3,4,5,6]] 6 2 0 7 OneC [.g 0,.g 1,.g 2,.o 1,.o 2,.o 5] ac U (zO 1 G eP (zL 0 1 0 G nE (zM 2 G (zO 1 G iL (zL 3 1 2 G ty_3 (zQ G (ir _) (.o (vq 4 G)) o0)))))) G zd zd zk (fx zk) zk zk (zz (Wj 0 2 4 29 30 33) S1 λ a w U=>?_);rw [show List.range' 6 2=[6,7] from rfl];obtain ⟨g1,cap1,hv1⟩:=hwf.rv.row hk;have U:=U.wkG 3 rfl (show Wk (EqS s.v).va (EqV (.slice (some ⟨g1,0,none⟩) s.xs.length cap1)) from hv1▸rf);obtain ⟨vm,ds,hmk,hvc,hone,U⟩:=U.pinV 5 rfl;have hds:=mkp_e.len ⟨_,_,hmk⟩;rw [qx];refine mK (m:=9) (k:=k) 3 4 G U ⟨zp,by kernel_rfl⟩ zd G G hk zd zk zk (λ a U=>?_);rw [qx];refine JF (A1:=BqA { X with M:=M.set i { t with xs:=t.xs.set k ds,ys:=t.xs.set k ds } } vr L) [1,2,3] 0 6 0 G U G G hone hvc hds dq G zd (hrm _ zk) zk zk (λ cs hp=>Da ht (hf.u.trans hf.v.symm) hf.yx (by rw [hf.v,hf.l];exact hv1) (by rw [hf.l];exact hk) hds hp) (λ w U=>?_);refine dC ?_;have U:=zn Rm [⟨0,60,ptrH,BqA { X with M:=M.set i { t with xs:=t.xs.set k ds,ys:=t.xs.set k ds } } vr L⟩,O 3 135 _] U;refine ak ?_;refine aa<|zg UH [] (W6 26 [.v 4 _]) U1 U (zM 2 G (zv G (aL (vq 0 G) ab (aW (by have:=hwf.lx;omega))) (zA 1 G o0))) (zz Rm S1 λ a w U=>?_);refine aa ?_;have U:=U.sel [0,1,2];exact ⟨n-1,by omega,k+1,_,⟨by omega,G0 hF hs ht ⟨_,_,hmk⟩⟩,U⟩
  ·have hk:k=s.xs.length:=by simp at hb1;omega
   subst hk;refine qL<|ai<|ai<|az<|ak ?_;refine aa<|zg UH [] (W6 12 [.v 2 _]) Ui U (zM 1 G (zv G (aL (vq 0 G) ab (aW (by have:=hwf.lx;omega))) (zA 1 G o0))) (zz Rl S1 λ a w U=>?_);refine aa ?_;have U:=U.sel [0,1];have U:=U.selL [0];exact ⟨X.M.length-(i+1),by omega,i+1,M,⟨by omega,G1 hF hs⟩,U⟩
 ·have hi:X.M.length≤i:=by have:=hF.1;simp [this] at hb0;omega
  have U:=St.wkL (A':=cQ X vr L (r7 MkE X.M)) U 0 rfl (sf (L6 hF hi hnew));refine qL<|ai<|ai<|az<|dg<|il U (zm 0 G) (zm 0 G) ?_;exact aP (rs:=[]) G U .nil zd
theorem pu (X:BkRest)(vr:Yo)(L:List Slot)(hfull:∀ s∈X.M,s.full MkE)(hl:X.M.length≤1000000):CK Tryz.prog 62 60 [60,135,76] (BqA X vr L) (cQ X vr L (r8 MkE X.M)) [] (Tu []):=by
 obtain ⟨it0,z0,hi0,hz0,hs0,hb0',hc0⟩:=pZ;refine CK.intro Tryz.func62 G zk nq zk (λ B g w0 a hrm U=>?_);have U:=zn [(0,EqV ((ptrH).f g)),] [⟨0,60,ptrH,BqA X vr L⟩] U;refine qb<|zg U6 [] UA Rk U (zE G ab) (zz Rl RU λ a w U=>?_);refine aa<|qk ?_;have U:=U.sel [0,1];refine wp_loop_ghost (λ n a w=>∃ (i:Nat) (M:List Slt),(n+i=X.M.length∧GrK MkE X.M M i)∧St B w0 42 [(0,EqV (ptrH.f g)),(2,In (i:Nat))] [⟨0,60,ptrH,BqA { X with M:=M } vr L⟩] a w) (X.M.length) ?_ ?_
 ·exact ⟨0,X.M,⟨by omega,Qw⟩,U⟩
 intro n a w hI;obtain ⟨i,M,⟨hn,hG⟩,U⟩:=hI;have h1M:OneK M:=λ t ht=>by
  obtain ⟨ru,rv⟩:=(mO U 0 rfl).2 t ht;obtain ⟨s,hs,h1|h1⟩:=KG hG ht
  ·exact ⟨rv.one,by rw [h1.z];exact ru.one⟩
  ·subst h1;exact ⟨rv.one,(hfull t hs).z1⟩
 refine qb<|qb<|zg U6 [] (.v 6 _::.adr 7 0 (.some 0) True::.adr 8 0 (.some 0) True::.adr 9 0 (.some (0+9)) True::(Wb 10)) RV U (zM 1 G (oc (ob_a G G (gL (lz0 0 G))) (oc (ob_a G G (gK 1 G zk (lz0 0 G))) (oc (ob_a G G (dT 2 G zk trivial (lz0 0 G) dH)) (zL 3 0 9 G nC (zv G (bg xz (has_wk' (vq 4 G) (tk h1M))) (zv G (aN (vq 0 G) (vq 5 G)) o0))))))) (zz (Wa 0 2 12) RU λ a w U=>?_);refine zJ 2 U G (λ hb0=>?_) (λ hb0=>?_)
 ·have hi:i<X.M.length:=by have:=hG.1;simpa [this] using hb0
  obtain ⟨s,hs⟩:∃ s,X.M[i]?=some s:=⟨_,List.getElem?_eq_getElem hi⟩;have hf:=hfull s (qa hs);have hMi:=NV hG hs;have hvi:=oo hMi;have hMlt:i<M.length:=by rw [hG.1];exact hi
  refine qj<|zt<|qk<|qb<|bS (sp:=[.adr 15 0 (.some 0) True,.adr 16 0 (.some 0) True,.adr 17 0 (.some (0+9)) True,.v 18 _,.v 19 _,.v 20 _,.v 21 _,.v 3 VT,.sto 0]) 7 2 0 8 OneC [.g 0,.g 1,.o 6] U (oc (ob_a G G (gL (lz0 0 G))) (oc (ob_a G G (gK 0 G zk (lz0 0 G))) (oc (ob_a G G (dT 1 G zk trivial (lz0 0 G) dH)) (zL 2 0 9 G nC (zM 1 G (zv G (bB (m:=3) ⟨xz,by kernel_rfl⟩ sD (has_wk' (vq 3 G) (tk h1M)) (vq 4 G) hvi) (zv G (ao (vq 5 G) nP) o0))))))) G zd zk zk (zz (Wa 0 2 21) RU λ a w U=>?_);rw [show List.range' 7 2=[7,8] from rfl];refine fJ (A:=s.view) 2 [0,1] G G U (Str.zero da) G nP G zd G zk zk (λ a w U=>?_);refine bU ?_;have U:=zn Rl S1 U;refine zt<|zg UH [] [.adr 22 3 (.some 0) True,.v 23 _,.v 4 _] U1 U (zO 1 G eP (zL 0 1 0 G nE (zA 1 G o0))) (zz Rm S1 ?_);refine ztA<|zsA<|zgA UF [] UY WZ (zE G ab) (zz (Wf 0 2 4 5) S1 λ a w U=>?_);refine aa<|qk ?_;have U:=U.sel [0,1,2,3];refine wp_loop_ghost (λ n a w=>∃ (k:Nat) (u:Value) (ys:List (List Value)),(n+k=70∧ExtP MkE s k ys)∧St B w0 42 [(0,EqV (ptrH.f g)),(2,In (i:Nat)),(4,EqV u),(5,In (k:Nat))] [⟨0,60,ptrH,BqA { X with M:=M.set i (s.ext u ys) } vr L⟩,⟨3,135,ptrH,s.view⟩] a w) (70) ?_ ?_
  ·have U:=St.cvA (A':=BqA { X with M:=M.set i (s.ext s.v s.xs) } vr L) U 0 rfl (show BqA { X with M:=M } vr L=_ by rw [O6 hf.tonew,B9 hMi]);have U:=U.wkG 2 rfl rf;exact ⟨0,s.v,s.xs,⟨by omega,O5 hf⟩,U⟩
  intro n a w hI;obtain ⟨k,u,ys,⟨hn2,hE⟩,U⟩:=hI;refine qb<|qb<|zg UH [] (W6 24) Rh U (zM 3 G (zv G (aN (vq 0 G) ab) o0)) (zz (W8 0 2 4 5 25) S1 λ a w U=>?_);refine zJ 4 U G (λ hb1=>?_) (λ hb1=>?_)
  ·have hk:k<70:=by have:=hb1;simp at this;omega
   refine qj<|zt<|qk<|bS (sp:=[.v 28 _,.adr 29 3 (.some 2) True,.v 30 _,.v 31 _,.v 32 _,.v 33 VT,.v 4 VT]) 5 2 99 9 OneC [.g 0,.g 1,.g 3,.o 0,.o 4] U (zM 2 G (zO 1 G iL (zL 1 1 2 G ty_3 (zQ G (ir _) (.o (vq 2 G)) (zv G (bR (D:=[]) (l:=[MkE s.n]) (xs:=[.tmp 31]) (cO zk) mx zk (n_ok zk) nq nq nq (.o (vq 3 G)) G G) o0))))) G zd zk zk (zz (W8 0 2 5 28 32) S1 λ a w U=>?_);rw [show List.range' 5 2=[5,6] from rfl];rw [qx];refine ll (m:=9) (A1:=λ v'=>cQ X vr L (λ M'=>∃ ys',M'=M.set i (s.ext v' ys')∧ExtP MkE s (k+1) ys')) (X:=MkE s.n) (F:=isMk MkE s.n) [0,1,2] 3 4 0 G U G G (λ ds h=>⟨_,_,h⟩) G G G (hrm _ zk) zp hi0 hz0 hs0 hb0' hc0 zd (n:=s.xs.length+k) (by have:=hf.lx;omega) (by have:=hf.lx;omega) zd zk zk zk zk (λ cs hp=>E1 hMi hE hp) (λ v' w U=>?_);rw [qx];refine oS 0 G U G zd zk zk (λ a U=>?_);refine bU ?_;obtain ⟨M',⟨ys2,hM',hE2⟩,U⟩:=mu U 0 rfl;subst hM';have U:=zn (W8 4 33 0 2 5) [⟨0,60,ptrH,BqA { X with M:=M.set i (s.ext v' ys2) } vr L⟩,O 3 135 _] U;refine ak ?_;refine aa<|zg UH [] (W6 26 [.v 5 _]) [.g 0,.g 2,.g 3,.o 2] U (zM 4 G (zv G (aL (vq 0 G) ab (aW zo)) (zA 1 G o0))) (zz (Wf 4 0 2 5) S1 λ a w U=>?_);refine aa ?_;have U:=U.sel [1,2,0,3];exact ⟨n-1,by omega,k+1,v',ys2,⟨by omega,hE2⟩,U⟩
  ·have hk:k=70:=by simp at hb1;omega
   subst hk;have hu:=((mO U 0 rfl).2 _ (List.mem_set hMlt _)).1;have hu1:=hu.one;have hu2:u.cells = #[u]:=hu.cell;refine qL<|ai<|ai<|az<|aa<|bS (sp:=[.adr 34 0 (.some 0) True,.adr 35 0 (.some 0) True,.adr 36 0 (.some (0+9)) True,.v 37 _,.v 38 _,.v 39 _,.v 40 VT,.v 41 VT,.sto 0]) 6 3 0 8 OneC [.g 0,.g 1,.o 3,.o 4,.o 5] U (oc (ob_a G G (gL (lz0 0 G))) (oc (ob_a G G (gK 0 G zk (lz0 0 G))) (oc (ob_a G G (dT 1 G zk trivial (lz0 0 G) dH)) (zL 2 0 9 G nC (zM 1 G (zM 2 G o0)))))) G zd zk zk (zz (W8 0 2 37 38 39) S1 λ a w U=>?_);rw [show List.range' 6 3=[6,7,8] from rfl];have U:=U.selL [0];have U:=U.wkG 2 rfl Kw;have hvr:=(mO U 0 rfl).1;obtain ⟨g1,cap1,hv1⟩:=hvr.row (show i<_ by rw [qX,hG.1];exact hi);have U:=U.cvG 2 rfl (qp EqV hv1);rw [qx];refine mK (m:=3) (k:=i) 2 3 G U ⟨xz,by kernel_rfl⟩ zd G G (by rw [qX,hG.1];exact hi) zd zk zk (λ a U=>?_);rw [qx];refine fK 0 G U iM G zd zk zk (λ a U=>?_);rw [qx];refine sY (A1:=BqA { X with M:=(M.set i (s.ext u ys)).set i { s.ext u ys with z:=u } } vr L) [2,3] 0 6 0 G U G G hu1 hu2 nE G zd (hrm _ zk) zk zk (λ cs hp=>BL (by rw [List.getElem?_set_self hMlt]) hv1 hp) (λ w U=>?_);refine dC ?_;have U:=zn Rl RU U;refine ak ?_;refine aa<|zg U6 [] (W6 13 [.v 2 _]) Ui U (zM 1 G (zv G (aL (vq 0 G) ab (aW zo)) (zA 1 G o0))) (zz Rl RU λ a w U=>?_);refine aa ?_;have U:=U.sel [0,1];exact ⟨X.M.length-(i+1),by omega,i+1,_,⟨by omega,Fy hG hs hE.1 hE.2.2⟩,(ui (M:=M) (i:=i))▸U⟩
 ·have hi:X.M.length≤i:=by have:=hG.1;simp [this] at hb0;omega
  have U:=St.wkL (A':=cQ X vr L (r8 MkE X.M)) U 0 rfl (sf (KH hG hi hfull));refine qL<|ai<|ai<|az<|dg<|il U (zm 0 G) (zm 0 G) ?_;exact aP (rs:=[]) G U .nil zd
theorem pj (X:BkRest)(vr:Yo)(L:List Slot)(hdone:∀ t∈X.M,t.done MkE)(hl:X.M.length≤1000000):Cn Tryz.prog 78 [ElP 60 (BqA X vr L)] (Bo true):=by
 refine Cn.intro Tryz.func78 G zk nq (zy [(0,ElP 60 (BqA X vr L))] λ B w0 a U=>?_);have hkp:=Cy U 0 rfl;have h1M:OneK X.M:=λ t ht=>⟨(hkp t ht).2.one,by rw [(hdone t ht).zu];exact (hkp t ht).1.one⟩;refine qb<|zh UA Rk U (zE G aE) (zz Rl [] ?_);refine ztA<|zsA<|zhA [.v 3 _] WS (zE G ab) (zz (Wa 0 2 3) [] λ a w U=>?_);refine aa<|qk ?_;have U:=U.sel [0,2];refine wp_loop_ghost (λ n a w=>∃ (i:Nat),n+i=X.M.length∧St B w0 64 [(0,ElP 60 (BqA X vr L)),(3,In (i:Nat))] [] a w) (X.M.length) ?_ ?_
 ·exact ⟨0,by omega,U⟩
 intro n a w hI;obtain ⟨i,hn,U⟩:=hI;refine qb<|qb<|zh (WG 6) RV U (zM 1 G (zM 0 G (zv G (mD (vq 1 G)) (zv G (bK (vq 2 G) dH (Sub.part 9 G G)) (zv G (ao (vq 3 G) nC) (zv G (bg xz (has_wk' (vq 4 G) (tk h1M))) (zv G (aN (vq 0 G) (vq 5 G)) o0))))))) (zz (Wa 0 3 12) [] λ a w U=>?_);refine zJ 2 U G (λ hb0=>?_) (λ hb0=>?_)
 ·have hi:i<X.M.length:=by have:=hb0;simp at this;omega
  obtain ⟨t,ht⟩:∃ t,X.M[i]?=some t:=⟨_,List.getElem?_eq_getElem hi⟩;have hmem:=qa ht;have hd:=hdone t hmem;have hzr:RowV t.z t.ys.length:=by rw [hd.zu];exact (hkp t hmem).1
  refine qj<|zt<|qk<|qb<|uX (sp:=[.v 15 _,.v 16 _,.v 17 _,.v 18 _,.v 19 _,.v 20 _,.v 21 _,.alc 0,.sto 0]) 7 2 4 [.g 0,.g 1,.o 6] U (zM 0 G (zv G (mD (vq 0 G)) (zv G (bK (vq 1 G) dH (Sub.part 9 G G)) (zv G (ao (vq 2 G) nC) (zM 1 G (zv G (bB (m:=3) ⟨xz,by kernel_rfl⟩ sD (has_wk' (vq 3 G) (tk h1M)) (vq 4 G) (oo ht)) (zv G (ao (vq 5 G) nP) o0))))))) G zk zk (zz (Wa 0 3 21) [] λ a w U=>?_);rw [show List.range' 7 2=[7,8] from rfl];refine fJ (A:=t.view) 2 [0,1] G G U (Str.zero da) G nP G zd G zk zk (λ a w U=>?_);refine bU ?_;have U:=zn UO S2 U;refine zt<|qb<|zg U6 [] (.adr 22 4 (.some 1) True::(W6 23 (.adr 25 4 (.some 0) True::(Ww 26)))) (We [.o 7]) U (zO 0 G iM (zL 0 0 1 G nE (zv G (rC zp hzr (vq 1 G)) (zO 0 G eP (zL 3 0 0 G nE (zv G (rC zp hd.rv (vq 4 G)) (zv G (aL (vq 5 G) ab (M4 (by have:=hd.lx;omega))) (zv G (ca (vq 2 G) (vq 6 G)) o0)))))))) (zz (Wa 0 3 29) S2 λ a w U=>?_);refine zJ 2 U G (λ hb1=>?_) (λ hb1=>?_)
  ·exact absurd hb1 (by rw [hd.yl];simp)
  ·refine qj<|zt<|zg U6 [] UY WS U (zE G ab) (zz (Wa 0 3 5) S2 λ a w U=>?_);refine aa<|qk ?_;have U:=U.sel [0,1,2];refine wp_loop_ghost (λ n a w=>∃ (k:Nat),n+k=t.ys.length∧St B w0 64 [(0,ElP 60 (BqA X vr L)),(3,In (i:Nat)),(5,In (k:Nat))] [⟨4,135,ptrH,t.view⟩] a w) (t.ys.length) ?_ ?_
   ·exact ⟨0,by omega,U⟩
   intro n a w hI;obtain ⟨k,hn2,U⟩:=hI;refine qb<|qb<|zg U6 [] (.v 30 _::.adr 31 4 (.some 1) True::(Wb 32)) WU U (zM 2 G (zO 0 G iM (zL 1 0 1 G nE (zv G (rC zp hzr (vq 2 G)) (zv G (aN (vq 0 G) (vq 3 G)) o0))))) (zz (Wf 0 3 5 34) S2 λ a w U=>?_);refine zJ 3 U G (λ hb2=>?_) (λ hb2=>?_)
   ·have hk:k<t.ys.length:=by have:=hb2;simp at this;omega
    refine qj<|zt<|qk<|qb<|lp (anc:=[[],[0],[],[0,1,2],[0,1,2,3],[],[5],[0,1,2,3,4,5,6],[0,1,2,3,4,5,6,7],[0,1,2,3,4,5,6,7,8],[0,1,2,3,4,5,6,7,8,9],[0,1,2,3,4,5,6,7,8,9],[0,1,2,3,4,5,6,7,8,9,11],[0,1,2,3,4,5,6,7,8,9,11,12],[0,1,2,3,4,5,6,7,8,9,10,11,12,13],[0,1,2,3,4,5,6,7,8,9,10,11,12,13,14],[0,1,2,3,4,5,6,7,8,9,10,11,12,13,14,15],[0,1,2,3,4,5,6,7,8,9,10,11,12,13,14,15,16],[0,1,2,3,4,5,6,7,8,9,10,11,12,13,14,15],[0,1,2,3,4,5,6,7,8,9,10,11,12,13,14,15,16,17,18],[0,1,2,3,4,5,6,7,8,9,10,11,12,13,14,15,16,17,18,19],[0,1,2,3,4,5,6,7,8,9,10,11,12,13,14,15],[0,1,2,3,4,5,6,7,8,9,10,11,12,13,14,15,21],[0,1,2,3,4,5,6,7,8,9,10,11,12,13,14,15,16,17,18,19,20,21,22],[0,1,2,3,4,5,6,7,8,9,10,11,12,13,14,15,16,17,18,19,20,21,22,23],[0,1,2,3,4,5,6,7,8,9,10,11,12,13,14,15,16,17,18,19,20,21,22,23,24],[0,1,2,3,4,5,6,7,8,9,10,11,12,13,14,15,16,17,18,19,20,21,22,23,24,25]]) (sts:=[none]) (news:=[]) (sp:=((.adr 37 4 (.some 1) True:Sp)::(.v 38 _)::(.v 39 _)::(.v 40 _)::(.v 41 _)::(.adr 42 4 (.some 2) True)::(.v 43 _)::(.v 44 _)::(.v 45 _)::(.v 46 _)::(.f 47 _)::(.adr 48 4 (.some 0) (_=false))::(.f 49 _)::(.f 50 _)::(.f 51 _)::(.f 52 _)::(.adr 53 4 (.some 0) ((_=false)∧_=true))::(.v 54 (Wh ((_=false)∧_=true) _))::(.v 55 (Wh ((_=false)∧_=true) _))::(.v 56 (Wh ((_=false)∧_=true) _))::(.v 57 (Wh ((_=false)∧_=true) _))::(.adr 58 4 (.some 2) ((_=false)∧_=true))::(.v 59 (Wh ((_=false)∧_=true) _))::(.v 60 (Wh ((_=false)∧_=true) _))::(.v 61 (Wh ((_=false)∧_=true) _))::(.f 62 _)::(.v 63 _)::[])) [.g 0,.g 1,.g 2,.o 26] ac U (zO 0 G iM (zL 0 0 1 G nE (zM 2 G (zv G (bB (m:=9) ⟨zp,by kernel_rfl⟩ (H6 G) (AQ (vq 1 G) (gq 0 G) hmem hd) (vq 2 G) (Bu hk)) (zv G (ao (vq 3 G) dq) (zO 0 G iL (zL 5 0 2 G ty_3 (zQ G (mP _) (.p (vq 4 G) (vq 6 G)) (zv G (dc (vq 7 G)) (zV 8 G (zB 9 G (λ hg=>aq (gq 2 G)) (zC 9 0 G eP (zB 9 G (λ hg=>aB 11 G zk hg (lz0 0 G) (Sub.part 0 G G) nE) (zB 9 G (λ hg=>rC zp hd.rv (ae (vq 12 G) hg)) (zB 9 G (λ hg=>aN (ae (vq 10 G) hg) (ae (vq 13 G) hg)) (zB 9 G (λ hg=>aq (ae (vq 14 G) hg)) (oc (gJ G G G (vq 15 G) nq (λ hg=>fY (lz0 0 G) eP)) (oc (bT G G G (vq 15 G) nq (λ hg=>aB 16 G zk hg (lz0 0 G) (Sub.part 0 G G) nE)) (oc (bT G G G (vq 15 G) nq (λ hg=>aq (gq 2 G))) (oc (bT G G G (vq 15 G) nq (λ hg=>bB (m:=9) ⟨zp,by kernel_rfl⟩ (H6 G) (AL (ae (vq 17 G) hg) (gq 0 G) hmem hd) (ae (vq 18 G) hg) (Bu (by have:=hg;simp at this;omega)))) (oc (bT G G G (vq 15 G) nq (λ hg=>ao (ae (vq 19 G) hg) dq)) (oc (gJ G G G (vq 15 G) nq (λ hg=>fY (lz0 0 G) iL)) (oc (bT G G G (vq 15 G) nq (λ hg=>aB 21 G zk hg (lz0 0 G) (Sub.part 2 G G) ty_3)) (oc (bT G G G (vq 15 G) nq (λ hg=>be (mP _) (.p (ae (vq 20 G) hg) (ae (vq 22 G) hg)))) (oc (bT G G G (vq 15 G) nq (λ hg=>dc (ae (vq 23 G) hg))) (zB 9 G (λ hg=>bv (ae (vq 15 G) hg) (fR (vq 24 G) hg)) (zv G (r_or (vq 9 G) (vq 25 G)) o0))))))))))))))))))))))))))) zk zk zk zk (zz (Wf 0 3 5 63) S2 λ a w U=>?_);refine zJ 3 U G (λ hb3=>?_) (λ hb3=>?_)
    ·exact absurd hb3 (by simp)
    ·refine qj<|ak ?_;refine aa<|zg U6 [] (W6 35 [.v 5 _]) U1 U (zM 2 G (zv G (aL (vq 0 G) ab (aW (by have:=hd.lx;have:=hd.yl;omega))) (zA 1 G o0))) (zz (Wa 0 3 5) S2 λ a w U=>?_);refine aa ?_;have U:=U.sel [0,1,2];exact ⟨n-1,by omega,k+1,by omega,U⟩
   ·have hk:k=t.ys.length:=by have:=hb2;simp at this;omega
    refine qL<|ai<|ai<|az<|ak ?_;refine aa<|zg U6 [] (W6 13 [.v 3 _]) Ui U (zM 1 G (zv G (aL (vq 0 G) ab (aW zo)) (zA 1 G o0))) (zz UO S2 λ a w U=>?_);refine aa ?_;have U:=U.sel [0,1];have U:=U.selL [];exact ⟨X.M.length-(i+1),by omega,i+1,by omega,U⟩
 ·have hi:i=X.M.length:=by have:=hb0;simp at this;omega
  refine qL<|ai<|ai<|az<|zt<|zh UA Rk U (zE G aE) (zz Rl [] λ a w U=>?_);exact aa<|qh<|am G U (zm 1 G)
section
open Rg
variable {P:Program}{Q:Exit→Act→World→Prop}{R:Rg}{B i:Nat}{w0:Bs}
end
abbrev KL:=List (Value × List Nat)
def SepL:List Slot→KL→Prop
 | _,[]=>True
 | L,p::l=>(∀ t∈L,∀ g,t.has g→p.1.ownBlock≠some g)∧SepL (L++[newS p.1 p.2 (L.length+1)]) l
def kbl (l:KL):List Nat:=l.filterMap λ p=>p.1.ownBlock
def JkA:As where
 n:=17
 ag:=true
 p _ cs _:=cs.length=17∧∀ c∈cs,c.oneCell'=true
 deps:=[]
 len:=λ _ _ _ h=>h.1
 one:=λ _ _ _ h=>h.2
 ag1:=λ h=>by cases h
 cg:=λ _ _ _ _ _ h=>h
 wr:=λ _ _ _ _ _ _ _ _ _ _ _ _ h=>h
def IntP (x:RI)(m:Value):As:=cat [BoA x.neg,PinA m (MgN x.mag)]
def E8 (x:RF)(m1 m2:Value):As:=cat [IntP x.num m1,IntP x.den m2]
abbrev kf (x:RF)(m1 m2:Value):KL:=[(m1,x.num.mag),(m2,x.den.mag)]
abbrev km (x:RM)(m:Nat→Value):KL:=kf x.a (m 0) (m 1)++kf x.b (m 2) (m 3)++kf x.c (m 4) (m 5)++kf x.d (m 6) (m 7)
theorem o8 {H E m:Nat}{L:List Slt}(h:L=[]):Wk (HkA H E m v L).va (SlA H [] []).va:=by
 subst h;exact tk (L:=[]) (λ s hs=>by cases hs)
abbrev FqT (f:FuncId):Prop:=∀ (X:BkRest) (vr:Value) (L:List Slot),Cn Tryz.prog f [ElP 60 (BqA X vr L)] (Tu [])
abbrev FqB (f:FuncId):Prop:=∀ (X:BkRest) (vr:Value) (L:List Slot),Cn Tryz.prog f [ElP 60 (BqA X vr L)] (Bo true)
theorem R4 {X:BkRest}{L:List Slot}:WkA (BqA X vr L) JkA:=⟨rfl,rfl,λ B cs w h=>⟨(BqA X vr L).len _ _ _ h,(BqA X vr L).one _ _ _ h⟩⟩
theorem sd (X:BkRest)(vr:Yo)(L:List Slot)(hN:X.N=[]):Cn Tryz.prog 39 [ElP 60 (BqA X vr L)] (Tu []):=dp Tryz.func39 rfl zk rfl rfl pK (Sub.part 2 rfl rfl) IC kO (o8 hN)
theorem rX (X:BkRest)(vr:Yo)(L:List Slot)(hN:X.N=[]):Cn Tryz.prog 55 [ElP 60 (BqA X vr L)] (Tu []):=dn Tryz.func55 rfl zk rfl rfl pK (Sub.part 2 rfl rfl) IC kO (o8 hN)
theorem rN (X:BkRest)(vr:Yo)(L:List Slot)(hN:X.N=[]):Cn Tryz.prog 71 [ElP 60 (BqA X vr L)] (Bo true):=dm Tryz.func71 rfl zk rfl rfl pK (Sub.part 2 rfl rfl) IC kO (o8 hN)
theorem tt:FqT 40:=λ _ _ _=>dp Tryz.func40 rfl zk rfl rfl pJ (Sub.part 3 rfl rfl) IB kN bt
theorem tp:FqT 56:=λ _ _ _=>dn Tryz.func56 rfl zk rfl rfl pJ (Sub.part 3 rfl rfl) IB kN bt
theorem td:FqB 72:=λ _ _ _=>dm Tryz.func72 rfl zk rfl rfl pJ (Sub.part 3 rfl rfl) IB kN bt
theorem pM:FqT 41:=λ _ _ _=>dp Tryz.func41 rfl zk rfl rfl pI (Sub.part 4 rfl rfl) IA kM bt
theorem pv:FqT 57:=λ _ _ _=>dn Tryz.func57 rfl zk rfl rfl pI (Sub.part 4 rfl rfl) IA kM bt
theorem pl:FqB 73:=λ _ _ _=>dm Tryz.func73 rfl zk rfl rfl pI (Sub.part 4 rfl rfl) IA kM bt
theorem yV:FqT 42:=λ _ _ _=>dp Tryz.func42 rfl zk rfl rfl pH (Sub.part 5 rfl rfl) Iz kL bt
theorem yN:FqT 58:=λ _ _ _=>dn Tryz.func58 rfl zk rfl rfl pH (Sub.part 5 rfl rfl) Iz kL bt
theorem yE:FqB 74:=λ _ _ _=>dm Tryz.func74 rfl zk rfl rfl pH (Sub.part 5 rfl rfl) Iz kL bt
theorem yY:FqT 43:=λ _ _ _=>dp Tryz.func43 rfl zk rfl rfl pG (Sub.part 6 rfl rfl) Iy kK bt
theorem yQ:FqT 59:=λ _ _ _=>dn Tryz.func59 rfl zk rfl rfl pG (Sub.part 6 rfl rfl) Iy kK bt
theorem yH:FqB 75:=λ _ _ _=>dm Tryz.func75 rfl zk rfl rfl pG (Sub.part 6 rfl rfl) Iy kK bt
theorem tr:FqT 44:=λ _ _ _=>dp Tryz.func44 rfl zk rfl rfl pF (Sub.part 7 rfl rfl) Ix kJ bt
theorem tn:FqT 60:=λ _ _ _=>dn Tryz.func60 rfl zk rfl rfl pF (Sub.part 7 rfl rfl) Ix kJ bt
theorem tc:FqB 76:=λ _ _ _=>dm Tryz.func76 rfl zk rfl rfl pF (Sub.part 7 rfl rfl) Ix kJ bt
theorem D3 (X:BkRest)(vr:Yo)(L:List Slot)(hR:X.R=[]):Cn Tryz.prog 45 [ElP 60 (BqA X vr L)] (Tu []):=dp Tryz.func45 rfl zk rfl rfl pE (Sub.part 8 rfl rfl) Iw kI (o8 hR)
theorem CQ (X:BkRest)(vr:Yo)(L:List Slot)(hR:X.R=[]):Cn Tryz.prog 61 [ElP 60 (BqA X vr L)] (Tu []):=dn Tryz.func61 rfl zk rfl rfl pE (Sub.part 8 rfl rfl) Iw kI (o8 hR)
theorem Cq (X:BkRest)(vr:Yo)(L:List Slot)(hR:X.R=[]):Cn Tryz.prog 77 [ElP 60 (BqA X vr L)] (Bo true):=dm Tryz.func77 rfl zk rfl rfl pE (Sub.part 8 rfl rfl) Iw kI (o8 hR)
theorem A3:FqT 47:=λ _ _ _=>dp Tryz.func47 rfl zk rfl rfl mX (Sub.part 10 rfl rfl) Iv kH bt
theorem yS:FqT 63:=λ _ _ _=>dn Tryz.func63 rfl zk rfl rfl mX (Sub.part 10 rfl rfl) Iv kH bt
theorem yJ:FqB 79:=λ _ _ _=>dm Tryz.func79 rfl zk rfl rfl mX (Sub.part 10 rfl rfl) Iv kH bt
theorem yZ:FqT 48:=λ _ _ _=>dp Tryz.func48 rfl zk rfl rfl mW (Sub.part 11 rfl rfl) Iu kG bt
theorem yR:FqT 64:=λ _ _ _=>dn Tryz.func64 rfl zk rfl rfl mW (Sub.part 11 rfl rfl) Iu kG bt
theorem yI:FqB 80:=λ _ _ _=>dm Tryz.func80 rfl zk rfl rfl mW (Sub.part 11 rfl rfl) Iu kG bt
theorem yW:FqT 49:=λ _ _ _=>dp Tryz.func49 rfl zk rfl rfl mV (Sub.part 12 rfl rfl) It kF bt
theorem yO:FqT 65:=λ _ _ _=>dn Tryz.func65 rfl zk rfl rfl mV (Sub.part 12 rfl rfl) It kF bt
theorem yF:FqB 81:=λ _ _ _=>dm Tryz.func81 rfl zk rfl rfl mV (Sub.part 12 rfl rfl) It kF bt
theorem D4:FqT 50:=λ _ _ _=>dp Tryz.func50 rfl zk rfl rfl mU (Sub.part 13 rfl rfl) Is kE bt
theorem CR:FqT 66:=λ _ _ _=>dn Tryz.func66 rfl zk rfl rfl mU (Sub.part 13 rfl rfl) Is kE bt
theorem Cs:FqB 82:=λ _ _ _=>dm Tryz.func82 rfl zk rfl rfl mU (Sub.part 13 rfl rfl) Is kE bt
theorem yX:FqT 51:=λ _ _ _=>dp Tryz.func51 rfl zk rfl rfl mT (Sub.part 14 rfl rfl) Ir kD bt
theorem yP:FqT 67:=λ _ _ _=>dn Tryz.func67 rfl zk rfl rfl mT (Sub.part 14 rfl rfl) Ir kD bt
theorem yG:FqB 83:=λ _ _ _=>dm Tryz.func83 rfl zk rfl rfl mT (Sub.part 14 rfl rfl) Ir kD bt
theorem D5:FqT 52:=λ _ _ _=>dp Tryz.func52 rfl zk rfl rfl mS (Sub.part 15 rfl rfl) Iq kC bt
theorem CS:FqT 68:=λ _ _ _=>dn Tryz.func68 rfl zk rfl rfl mS (Sub.part 15 rfl rfl) Iq kC bt
theorem Ct:FqB 84:=λ _ _ _=>dm Tryz.func84 rfl zk rfl rfl mS (Sub.part 15 rfl rfl) Iq kC bt
theorem tq:FqT 53:=λ _ _ _=>dp Tryz.func53 rfl zk rfl rfl mR (Sub.part 16 rfl rfl) Ip kB bt
theorem tm:FqT 69:=λ _ _ _=>dn Tryz.func69 rfl zk rfl rfl mR (Sub.part 16 rfl rfl) Ip kB bt
theorem tb:FqB 85:=λ _ _ _=>dm Tryz.func85 rfl zk rfl rfl mR (Sub.part 16 rfl rfl) Ip kB bt
set_option maxHeartbeats 1000000 in
theorem E0 (X:BkRest)(vr:Yo)(L:List Slot)(hnew:∀ s∈L,s.new)(hl:L.length≤1000000)(hN:X.N=[])(hR:X.R=[])(hnM:∀ s∈X.M,s.new)(hlM:X.M.length≤1000000):CK Tryz.prog 14 60 [60,137,138,168,124,135,76] (BqA X vr L) (JkA) [] (Bo true):=by
 refine CK.intro Tryz.func14 G zk nq zk (λ B g w0 a hrm U=>?_);have U:=zn [(0,EqV ((ptrH).f g)),] [⟨0,60,ptrH,BqA X vr L⟩] U;refine qb<|zg U6 [] UA Rk U (zE G aE) (zz Rl RU λ a w U=>?_);refine zt<|bS (sp:=[.v 3 _,.v 4 VT]) 1 1 99 1 OneC [.g 0,.g 1,.o 0] U (zM 0 G o0) G zd zk zk (zz (Wa 0 2 3) RU λ a w U=>?_);rw [show List.range' 1 1=[1] from rfl];rw [qx];refine ew (A1:=BqA X vr (filL L)) [0,1] [] 0 G U (CK.wkT (L3 X vr L hnew hl) zd) G (xE (b:=ptr g) (U.vals _ (zm 2 G)) (jN (U.vals _ (zm 0 G)))) .nil G hrm zd zk zk zk zk (λ a w U=>?_);refine bU ?_;have U:=zn (Wa 4 0 2) [⟨0,60,ptrH,BqA X vr (filL L)⟩] U;refine zt<|zg U6 [] (W6 5) [.g 1,.g 2] U (zv G (aq (bh (lz0 0 G))) (zQ G (sd (X) vr (filL L) hN) (.o (vq 0 G)) o0)) (zz Rl RU ?_);refine ztA<|zgA U4 [] (W6 7) We (zv G (aq (bh (lz0 0 G))) (zQ G (tt (X) vr (filL L)) (.o (vq 0 G)) o0)) (zz Rl RU ?_);refine ztA<|zgA U4 [] (W6 9) We (zv G (aq (bh (lz0 0 G))) (zQ G (pM (X) vr (filL L)) (.o (vq 0 G)) o0)) (zz Rl RU ?_);refine ztA<|zgA U4 [] (W6 11) We (zv G (aq (bh (lz0 0 G))) (zQ G (yV (X) vr (filL L)) (.o (vq 0 G)) o0)) (zz Rl RU ?_);refine ztA<|zgA U4 [] (W6 13) We (zv G (aq (bh (lz0 0 G))) (zQ G (yY (X) vr (filL L)) (.o (vq 0 G)) o0)) (zz Rl RU ?_);refine ztA<|zgA U4 [] (W6 15) We (zv G (aq (bh (lz0 0 G))) (zQ G (tr (X) vr (filL L)) (.o (vq 0 G)) o0)) (zz Rl RU ?_);refine ztA<|zgA U4 [] (W6 17) We (zv G (aq (bh (lz0 0 G))) (zQ G (D3 (X) vr (filL L) hR) (.o (vq 0 G)) o0)) (zz Rl RU λ a w U=>?_);refine zt<|bS (sp:=[.v 19 _,.v 20 VT]) 1 1 99 1 OneC [.g 0,.g 1,.o 0] U (zM 0 G o0) G zd zk zk (zz (Wa 0 2 19) RU λ a w U=>?_);rw [show List.range' 1 1=[1] from rfl];rw [qx];refine ew (A1:=cQ X vr (filL L) (r7 MkE X.M)) [0,1] [] 0 G U (CK.wkT (pL X vr (filL L) hnM hlM) zd) G (xE (b:=ptr g) (U.vals _ (zm 2 G)) (jN (U.vals _ (zm 0 G)))) .nil G hrm zd zk zk zk zk (λ a w U=>?_);refine bU ?_;obtain ⟨M1,hM1,U⟩:=mu U 0 rfl;have U:=zn (Wa 20 0 2) [⟨0,60,ptrH,BqA { X with M:=M1 } vr (filL L)⟩] U;refine zt<|zg U6 [] (W6 21) [.g 1,.g 2] U (zv G (aq (bh (lz0 0 G))) (zQ G (A3 ({ X with M:=M1 }) vr (filL L)) (.o (vq 0 G)) o0)) (zz Rl RU ?_);refine ztA<|zgA U4 [] (W6 23) We (zv G (aq (bh (lz0 0 G))) (zQ G (yZ ({ X with M:=M1 }) vr (filL L)) (.o (vq 0 G)) o0)) (zz Rl RU ?_);refine ztA<|zgA U4 [] (W6 25) We (zv G (aq (bh (lz0 0 G))) (zQ G (yW ({ X with M:=M1 }) vr (filL L)) (.o (vq 0 G)) o0)) (zz Rl RU ?_);refine ztA<|zgA U4 [] (W6 27) We (zv G (aq (bh (lz0 0 G))) (zQ G (D4 ({ X with M:=M1 }) vr (filL L)) (.o (vq 0 G)) o0)) (zz Rl RU ?_);refine ztA<|zgA U4 [] (W6 29) We (zv G (aq (bh (lz0 0 G))) (zQ G (yX ({ X with M:=M1 }) vr (filL L)) (.o (vq 0 G)) o0)) (zz Rl RU ?_);refine ztA<|zgA U4 [] (W6 31) We (zv G (aq (bh (lz0 0 G))) (zQ G (D5 ({ X with M:=M1 }) vr (filL L)) (.o (vq 0 G)) o0)) (zz Rl RU ?_);refine ztA<|zgA U4 [] (W6 33) We (zv G (aq (bh (lz0 0 G))) (zQ G (tq ({ X with M:=M1 }) vr (filL L)) (.o (vq 0 G)) o0)) (zz Rl RU λ a w U=>?_);refine zt<|bS (sp:=[.v 35 _,.v 36 VT]) 1 1 99 1 OneC [.g 0,.g 1,.o 0] U (zM 0 G o0) G zd zk zk (zz (Wa 0 2 35) RU λ a w U=>?_);rw [show List.range' 1 1=[1] from rfl];rw [qx];refine ew (A1:=GqA { X with M:=M1 } vr (filL L)) [0,1] [] 0 G U (CK.wkT (KE { X with M:=M1 } vr (filL L) (se hnew) (by rw [qc];exact hl)) zd) G (xE (b:=ptr g) (U.vals _ (zm 2 G)) (jN (U.vals _ (zm 0 G)))) .nil G hrm zd zk zk zk zk (λ a w U=>?_);refine bU ?_;obtain ⟨L2,hG,U⟩:=Qy U 0 rfl;have hdone:=KJ hG (se hnew);have hlM2:L2.length≤1000000:=by rw [hG.1,qc];exact hl
 have U:=zn (Wa 36 0 2) [⟨0,60,ptrH,BqA { X with M:=M1 } vr L2⟩] U;refine zt<|zg U6 [] (W6 37) [.g 1,.g 2] U (zv G (aq (bh (lz0 0 G))) (zQ G (rX ({ X with M:=M1 }) vr L2 hN) (.o (vq 0 G)) o0)) (zz Rl RU ?_);refine ztA<|zgA U4 [] (W6 39) We (zv G (aq (bh (lz0 0 G))) (zQ G (tp ({ X with M:=M1 }) vr L2) (.o (vq 0 G)) o0)) (zz Rl RU ?_);refine ztA<|zgA U4 [] (W6 41) We (zv G (aq (bh (lz0 0 G))) (zQ G (pv ({ X with M:=M1 }) vr L2) (.o (vq 0 G)) o0)) (zz Rl RU ?_);refine ztA<|zgA U4 [] (W6 43) We (zv G (aq (bh (lz0 0 G))) (zQ G (yN ({ X with M:=M1 }) vr L2) (.o (vq 0 G)) o0)) (zz Rl RU ?_);refine ztA<|zgA U4 [] (W6 45) We (zv G (aq (bh (lz0 0 G))) (zQ G (yQ ({ X with M:=M1 }) vr L2) (.o (vq 0 G)) o0)) (zz Rl RU ?_);refine ztA<|zgA U4 [] (W6 47) We (zv G (aq (bh (lz0 0 G))) (zQ G (tn ({ X with M:=M1 }) vr L2) (.o (vq 0 G)) o0)) (zz Rl RU ?_);refine ztA<|zgA U4 [] (W6 49) We (zv G (aq (bh (lz0 0 G))) (zQ G (CQ ({ X with M:=M1 }) vr L2 hR) (.o (vq 0 G)) o0)) (zz Rl RU λ a w U=>?_);refine zt<|bS (sp:=[.v 51 _,.v 52 VT]) 1 1 99 1 OneC [.g 0,.g 1,.o 0] U (zM 0 G o0) G zd zk zk (zz (Wa 0 2 51) RU λ a w U=>?_);rw [show List.range' 1 1=[1] from rfl];rw [qx];refine ew (A1:=cQ { X with M:=M1 } vr L2 (r8 MkE M1)) [0,1] [] 0 G U (CK.wkT (pu { X with M:=M1 } vr L2 hM1.2 (by show M1.length≤_;rw [hM1.1];exact hlM)) zd) G (xE (b:=ptr g) (U.vals _ (zm 2 G)) (jN (U.vals _ (zm 0 G)))) .nil G hrm zd zk zk zk zk (λ a w U=>?_);refine bU ?_;obtain ⟨M2,hM2,U⟩:=mu U 0 rfl;have U:=zn (Wa 52 0 2) [⟨0,60,ptrH,BqA { X with M:=M2 } vr L2⟩] U;refine zt<|zg U6 [] (W6 53) [.g 1,.g 2] U (zv G (aq (bh (lz0 0 G))) (zQ G (yS ({ X with M:=M2 }) vr L2) (.o (vq 0 G)) o0)) (zz Rl RU ?_);refine ztA<|zgA U4 [] (W6 55) We (zv G (aq (bh (lz0 0 G))) (zQ G (yR ({ X with M:=M2 }) vr L2) (.o (vq 0 G)) o0)) (zz Rl RU ?_);refine ztA<|zgA U4 [] (W6 57) We (zv G (aq (bh (lz0 0 G))) (zQ G (yO ({ X with M:=M2 }) vr L2) (.o (vq 0 G)) o0)) (zz Rl RU ?_);refine ztA<|zgA U4 [] (W6 59) We (zv G (aq (bh (lz0 0 G))) (zQ G (CR ({ X with M:=M2 }) vr L2) (.o (vq 0 G)) o0)) (zz Rl RU ?_);refine ztA<|zgA U4 [] (W6 61) We (zv G (aq (bh (lz0 0 G))) (zQ G (yP ({ X with M:=M2 }) vr L2) (.o (vq 0 G)) o0)) (zz Rl RU ?_);refine ztA<|zgA U4 [] (W6 63) We (zv G (aq (bh (lz0 0 G))) (zQ G (CS ({ X with M:=M2 }) vr L2) (.o (vq 0 G)) o0)) (zz Rl RU ?_);refine ztA<|zgA U4 [] (W6 65) We (zv G (aq (bh (lz0 0 G))) (zQ G (tm ({ X with M:=M2 }) vr L2) (.o (vq 0 G)) o0)) (zz Rl RU λ a w U=>?_);refine zt<|gl (sts:=[none]) (news:=[]) (sp:=((.v 67 _:Sp)::(.v 68 _)::(.v 69 _)::(.t 70 _)::(.t 71 _)::(.v 72 _)::(.v 73 _)::(.t 74 _)::(.t 75 _)::(.v 76 _)::(.v 77 _)::(.t 78 _)::(.t 79 _)::(.v 80 _)::(.v 81 _)::(.t 82 _)::(.t 83 _)::(.v 84 _)::(.v 85 _)::(.t 86 _)::(.t 87 _)::(.v 88 _)::(.v 89 _)::(.t 90 _)::(.t 91 _)::(.v 92 _)::(.v 93 _)::(.t 94 _)::(.t 95 _)::(.v 96 _)::(.v 97 _)::(.t 98 _)::(.t 99 _)::(.v 100 _)::(.v 101 _)::(.t 102 _)::(.t 103 _)::(.v 104 _)::(.v 105 _)::(.t 106 _)::(.t 107 _)::(.v 108 _)::(.v 109 _)::(.t 110 _)::(.t 111 _)::(.v 112 _)::(.v 113 _)::(.t 114 _)::(.t 115 _)::(.v 116 _)::(.v 117 _)::(.t 118 _)::(.t 119 _)::(.v 120 _)::(.v 121 _)::(.t 122 _)::(.t 123 _)::(.v 124 _)::(.v 125 _)::(.t 126 _)::(.t 127 _)::(.v 128 _)::(.v 2 _)::[])) [.g 0,.o 62] U (zv G (aq (bh (lz0 0 G))) (zQ G (Kg ({ X with M:=M2 }) vr L2 hdone hlM2) (.o (vq 0 G)) (zV 1 G (zB 2 G (λ hg=>aq (bh (lz0 0 G))) (zB 2 G (λ hg=>be (rN ({ X with M:=M2 }) vr L2 hN) (.o (ae (vq 3 G) hg))) (zv G (bv (vq 2 G) (vq 4 G)) (zV 5 G (zB 6 G (λ hg=>aq (bh (lz0 0 G))) (zB 6 G (λ hg=>be (td ({ X with M:=M2 }) vr L2) (.o (ae (vq 7 G) hg))) (zv G (bv (vq 6 G) (vq 8 G)) (zV 9 G (zB 10 G (λ hg=>aq (bh (lz0 0 G))) (zB 10 G (λ hg=>be (pl ({ X with M:=M2 }) vr L2) (.o (ae (vq 11 G) hg))) (zv G (bv (vq 10 G) (vq 12 G)) (zV 13 G (zB 14 G (λ hg=>aq (bh (lz0 0 G))) (zB 14 G (λ hg=>be (yE ({ X with M:=M2 }) vr L2) (.o (ae (vq 15 G) hg))) (zv G (bv (vq 14 G) (vq 16 G)) (zV 17 G (zB 18 G (λ hg=>aq (bh (lz0 0 G))) (zB 18 G (λ hg=>be (yH ({ X with M:=M2 }) vr L2) (.o (ae (vq 19 G) hg))) (zv G (bv (vq 18 G) (vq 20 G)) (zV 21 G (zB 22 G (λ hg=>aq (bh (lz0 0 G))) (zB 22 G (λ hg=>be (tc ({ X with M:=M2 }) vr L2) (.o (ae (vq 23 G) hg))) (zv G (bv (vq 22 G) (vq 24 G)) (zV 25 G (zB 26 G (λ hg=>aq (bh (lz0 0 G))) (zB 26 G (λ hg=>be (Cq ({ X with M:=M2 }) vr L2 hR) (.o (ae (vq 27 G) hg))) (zv G (bv (vq 26 G) (vq 28 G)) (zV 29 G (zB 30 G (λ hg=>aq (bh (lz0 0 G))) (zB 30 G (λ hg=>be (pj ({ X with M:=M2 }) vr L2 hM2.2 (by show M2.length≤_;rw [hM2.1,hM1.1];exact hlM)) (.o (ae (vq 31 G) hg))) (zv G (bv (vq 30 G) (vq 32 G)) (zV 33 G (zB 34 G (λ hg=>aq (bh (lz0 0 G))) (zB 34 G (λ hg=>be (yJ ({ X with M:=M2 }) vr L2) (.o (ae (vq 35 G) hg))) (zv G (bv (vq 34 G) (vq 36 G)) (zV 37 G (zB 38 G (λ hg=>aq (bh (lz0 0 G))) (zB 38 G (λ hg=>be (yI ({ X with M:=M2 }) vr L2) (.o (ae (vq 39 G) hg))) (zv G (bv (vq 38 G) (vq 40 G)) (zV 41 G (zB 42 G (λ hg=>aq (bh (lz0 0 G))) (zB 42 G (λ hg=>be (yF ({ X with M:=M2 }) vr L2) (.o (ae (vq 43 G) hg))) (zv G (bv (vq 42 G) (vq 44 G)) (zV 45 G (zB 46 G (λ hg=>aq (bh (lz0 0 G))) (zB 46 G (λ hg=>be (Cs ({ X with M:=M2 }) vr L2) (.o (ae (vq 47 G) hg))) (zv G (bv (vq 46 G) (vq 48 G)) (zV 49 G (zB 50 G (λ hg=>aq (bh (lz0 0 G))) (zB 50 G (λ hg=>be (yG ({ X with M:=M2 }) vr L2) (.o (ae (vq 51 G) hg))) (zv G (bv (vq 50 G) (vq 52 G)) (zV 53 G (zB 54 G (λ hg=>aq (bh (lz0 0 G))) (zB 54 G (λ hg=>be (Ct ({ X with M:=M2 }) vr L2) (.o (ae (vq 55 G) hg))) (zv G (bv (vq 54 G) (vq 56 G)) (zV 57 G (zB 58 G (λ hg=>aq (bh (lz0 0 G))) (zB 58 G (λ hg=>be (tb ({ X with M:=M2 }) vr L2) (.o (ae (vq 59 G) hg))) (zv G (bv (vq 58 G) (vq 60 G)) (zA 61 G o0))))))))))))))))))))))))))))))))))))))))))))))))))))))))))))))) (zz Rl RU λ a w U=>?_);have U:=St.wkL (A':=JkA) U 0 rfl R4;refine aa<|qh<|il U (zm 0 G) (zm 0 G) ?_;exact am G U (zm 1 G)
def BqG (n:Nat)(la nu ra el:As):As:=cat [NumA .i64 (n:Nat),la,nu,EqS (.slice none 0 0),EqS (.slice none 0 0),EqS (.slice none 0 0),EqS (.slice none 0 0),EqS (.slice none 0 0),ra,el,EqS (.slice none 0 0),EqS (.slice none 0 0),EqS (.slice none 0 0),EqS (.slice none 0 0),EqS (.slice none 0 0),EqS (.slice none 0 0),EqS (.slice none 0 0)]
theorem DU {la nu ra el:As}(h:(BqG n la nu ra el).p B cs w):0+0<cs.length∧(BqG m la nu ra el).p B (cs.set (0+0) (.int .i64 (m:Nat))) w:=by
 obtain ⟨ps,e,hp⟩:=h;cases hp with
 | @cons _ c _ ps h1 hp =>
  have h1':c=[.int .i64 (n:Nat)]:=h1;subst h1' e;exact ⟨by simp,[.int .i64 (m:Nat)]::ps,by simp,.cons G hp⟩
theorem DV {la nu ra el la' nu' ra' el':As}(h:(BqG n la nu ra el).p B cs w)(f1:∀ c,la.p B c w→la'.p B c w')(f2:∀ c,nu.p B c w→nu'.p B c w')(f3:∀ c,ra.p B c w→ra'.p B c w')(f4:∀ c,el.p B c w→el'.p B c w'):(BqG n la' nu' ra' el').p B cs w':=by
 obtain ⟨ps,e,hp⟩:=h;refine ⟨ps,e,?_⟩;cases hp with
 | cons h1 hp=>cases hp with
  | cons h2 hp=>cases hp with
   | cons h3 hp =>
    refine .cons h1 (.cons (f1 _ h2) (.cons (f2 _ h3) ?_))
    iterate 5 (cases hp;rename_i h3 hp;refine .cons h3 ?_)
    cases hp;rename_i h3 hp;refine .cons (f3 _ h3) ?_;cases hp;rename_i h3 hp;refine .cons (f4 _ h3) ?_
    iterate 7 (cases hp;rename_i h3 hp;refine .cons h3 ?_)
    cases hp;exact .nil
def HxG (c:Value)(A:As)(v:Value):As where
 n:=1
 ag:=false
 p B cs w:=cs=[c]∧c.oneCell'=true∧A.p B [v] w∧v.oneCell'=true
 deps:=A.deps
 len:=by rintro B cs w ⟨rfl,_⟩;rfl
 one:=by rintro B cs w ⟨rfl,h,_⟩ x hx;simp at hx;subst hx;exact h
 ag1:=λ _=>rfl
 cg:=λ B cs w w' hg ⟨h1,h2,h3,h4⟩=>⟨h1,h2,A.cg _ _ _ _ hg h3,h4⟩
 wr:=λ B cs w w' g c T fz h1 h2 h3 h4 ⟨h5,h6,h7,h8⟩=>⟨h5,h6,A.wr _ _ _ _ _ _ _ _ h1 h2 h3 h4 h7,h8⟩
theorem HZ {c v:Yo}{A nu ra el:As}(h:(BqG n (HxG c A v) nu ra el).p B cs w):0+1<cs.length∧(BqG n A nu ra el).p B (cs.set (0+1) v) w:=by
 obtain ⟨ps,e,hp⟩:=h;cases hp with
 | @cons _ c1 _ ps h1 hp=>cases hp with
  | @cons _ c2 _ ps h2 hp =>
   have h1':c1=[.int .i64 (n:Nat)]:=h1;obtain ⟨h3,h4,h5,_⟩:=h2;subst h1' h3 e;refine ⟨by simp,[.int .i64 (n:Nat)]::[v]::ps,by simp,.cons G (.cons h5 hp)⟩
theorem sZ (hA:A.n=1){c:Ym}(h:A.p B c w):∃ x,c=[x]:=List.length_eq_one_iff.1 (by rw [A.len _ _ _ h,hA])
theorem HY {c v:Yo}{la nu ra A:As}(n1:la.n=1)(n2:nu.n=1)(n3:ra.n=1)(h:(BqG n la nu ra (HxG c A v)).p B cs w):0+9<cs.length∧(BqG n la nu ra A).p B (cs.set (0+9) v) w:=by
 obtain ⟨ps,e,hp⟩:=h;cases hp with
 | @cons _ c0 _ ps h0 hp=>cases hp with
  | @cons _ c1 _ ps h1 hp=>cases hp with
   | @cons _ c2 _ ps h2 hp=>cases hp with
    | @cons _ c3 _ ps h3 hp=>cases hp with
     | @cons _ c4 _ ps h4 hp=>cases hp with
      | @cons _ c5 _ ps h5 hp=>cases hp with
       | @cons _ c6 _ ps h6 hp=>cases hp with
        | @cons _ c7 _ ps h7 hp=>cases hp with
         | @cons _ c8 _ ps h8 hp=>cases hp with
          | @cons _ c9 _ ps h9 hp =>
           obtain ⟨x1,rfl⟩:=sZ n1 h1;obtain ⟨x2,rfl⟩:=sZ n2 h2;obtain ⟨x8,rfl⟩:=sZ n3 h8;have h0':c0=[.int .i64 (n:Nat)]:=h0;obtain ⟨rfl,_⟩:=h3;obtain ⟨rfl,_⟩:=h4;obtain ⟨rfl,_⟩:=h5;obtain ⟨rfl,_⟩:=h6;obtain ⟨rfl,_⟩:=h7;obtain ⟨rfl,q4,q5,q6⟩:=h9;subst h0' e;refine ⟨by simp,[.int .i64 (n:Nat)]::[x1]::[x2]::[.slice none 0 0]::[.slice none 0 0]::[.slice none 0 0]::[.slice none 0 0]::[.slice none 0 0]::[x8]::[v]::ps,by simp,?_⟩;exact .cons G (.cons h1 (.cons h2 (.cons ⟨rfl,rfl⟩ (.cons ⟨rfl,rfl⟩ (.cons ⟨rfl,rfl⟩ (.cons ⟨rfl,rfl⟩ (.cons ⟨rfl,rfl⟩ (.cons h8 (.cons q5 hp)))))))))
theorem NT {L:List Slot}{B T:Nat}{row:Yu}(hg:w.grownBy w' row)(hr:gF w B T row)(hT:T≠137∧T≠U32):∀ c,(HbA vr L).p B c w→(HbA vr L).p B c w':=λ c hp=>As.grown hp hg hr (qi _) (show T ∉ [137,U32] by simp [hT.1,hT.2])
theorem rV {H E m:Nat}{L:List Slt}{B T:Nat}{row:Yu}(hg:w.grownBy w' row)(hr:gF w B T row)(hT:T≠H∧T≠E):∀ c,(HkA H E m vr L).p B c w→(HkA H E m vr L).p B c w':=λ c hp=>As.grown hp hg hr (qi _) (show T ∉ [H,E] by simp [hT.1,hT.2])
theorem uV {L:List Slot}{xs:Ya}{c:Ym}(h:(HbA vr L).p B c w)(hm:(MgN xs).va.p B v w)(hsep:∀ t∈L,∀ g,t.has g→v.ownBlock≠some g):
  w.ownsRow B 137 3 vr L.length (L.flatMap Slot.cells)∧∀ v' w',w'.ownsRow B 137 3 v' (L.length+1) (L.flatMap Slot.cells++(newS v xs n).cells)→w.grownBy w' vr.ownBlock→(HxG vr (HbA v' (L++[newS v xs n])) v').p B c w':=by
 obtain ⟨q1,q2,q3,q4⟩:=h;refine ⟨q2,λ v' w' hown hg=>?_⟩;have hkeep:∀ (g:Nat) (c:Array Value),w.heap[g]?=some (Obj.cells c U32 (0,0))→w'.heap[g]?=some (Obj.cells c U32 (0,0)):=λ g c h8=>by
  refine (hg.block g (Array.getElem?_eq_some_iff.1 h8).1 (λ e9=>?_)).trans h8;rcases q2.2 with ⟨e1,_⟩|⟨g',cap,cur,e1,_,e3,_⟩
  ·rw [e1] at e9;cases e9
  ·rw [e1] at e9;have:g=g':=by simpa [Value.ownBlock] using e9
   subst this;rw [h8] at e3;injection e3 with e3;injection e3 with _ e3 _;revert e3;decide
 have hown1:=Nu hm;refine ⟨q1,(de q2).1,⟨rfl,?_,λ t ht=>?_,λ i j s t hi hj hne g hs ht=>?_⟩,(de hown).1⟩
 ·rw [qu,kq];simpa using hown
 ·rcases qo.1 ht with ht|ht
  ·exact (q3 t ht).keep λ g c _ h8=>hkeep g c h8
  ·obtain rfl:=qn.1 ht;have h9:w'.ownsRow B U32 1 v xs.length (xs.map lv):=cv hown1 λ g c _ h8=>hkeep g c h8;exact ⟨h9,BV h9⟩
 ·have hb1:∀ g,(newS v xs n).has g→v.ownBlock=some g:=λ g h=>by
   rcases h with h|h <;> exact h
  have hget:∀ (i:Nat) s,(L++[newS v xs n])[i]?=some s→(L[i]?=some s∧i<L.length)∨(i=L.length∧s=newS v xs n):=λ i s hi=>by
   by_cases h5:i<L.length
   ·rw [List.getElem?_append_left h5] at hi;exact .inl ⟨hi,h5⟩
   ·rw [List.getElem?_append_right zo] at hi;have h6:=(List.getElem?_eq_some_iff.1 hi).1;simp at h6;have h7:i=L.length:=by omega
    subst h7;simp at hi;exact .inr ⟨rfl,hi.symm⟩
  rcases hget i s hi with ⟨h5,h5'⟩|⟨h5,rfl⟩ <;> rcases hget j t hj with ⟨h6,h6'⟩|⟨h6,rfl⟩
  ·exact q4 i j s t h5 h6 hne g hs ht
  ·exact hsep s (qa h5) g hs (hb1 g ht)
  ·exact hsep t (qa h6) g ht (hb1 g hs)
  ·omega
def eC (m n:Nat)(ds:List Value):List (List Value):=(List.range n).map λ k=>(ds.drop (k*m)).take m
theorem ob :(eC m n ds).length=n:=by unfold eC;simp
theorem tG (h:ds.length=n*m):∀ x∈eC m n ds,x.length=m:=λ x hx=>by
 obtain ⟨k,hk,rfl⟩:=qq.1 hx;have hk':=jR.1 hk;have:k*m+m≤n*m:=by rw [← xG];exact qJ m hk'
 rw [ze,xV];omega
theorem ng {m:Nat}:∀ {n:Nat}{ds:Ym},ds.length=n*m→(eC m n ds).flatten=ds
 | 0,ds,h=>by
  have:ds=[]:=xr (by simpa using h);subst this
  rfl
 | n+1,ds,h=>by
  have h1:eC m (n+1) ds=ds.take m::eC m n (ds.drop m):=by
   unfold eC;rw [List.range_succ_eq_map,qS,xD,jJ,xk]
   congr 1
   apply jl;intro k _;show (ds.drop ((k+1)*m)).take m=((ds.drop m).drop (k*m)).take m;rw [List.drop_drop,xG,xp m]
  rw [h1,qZ,ng (by rw [xV,h,xG];omega),xO]
def newK (m:Nat)(v:Value)(a:Nat)(ds:List Value)(n:Nat):Slt:=⟨v,eC m a ds,v,eC m a ds,.slice none 0 0,n⟩
def OwV (E m:Nat)(v:Value)(n:Nat):VA where
 p B u w:=u=v∧∃ ds,w.ownsRow B E m v n ds
 deps:=[E]
 cg:=λ B u w w' hg ⟨h,ds,h2⟩=>⟨h,ds,cv h2 λ g c _ h=>hg.heap h⟩
 wr:=by
  rintro B u w w' g c T fz hgc hT hB hW ⟨h,ds,h2⟩;simp only [qr,zq,or_false] at hT;refine ⟨h,ds,cv h2 λ g' c' _ h3=>?_⟩;rw [hW.block g' (λ e=>?_)]
  ·exact h3
  ·subst e;rw [hgc] at h3;injection h3 with h3;injection h3 with _ h3 _;exact hT h3
theorem N8 {E m n:Nat}:Wk (OwV E m v n) (EqS v).va:=λ B u w ⟨h,ds,h2⟩=>⟨[v],⟨rfl,(de h2).1⟩,h⟩
theorem uT {H E m a n B:Nat}{L:List Slt}{c ds:Ym}(hHE:H≠E)(h:(HkA H E m vr L).p B c w)(hm:w.ownsRow B E m v a ds)(hsep:∀ t∈L,∀ g,t.has g→v.ownBlock≠some g):
  w.ownsRow B H 3 vr L.length (L.flatMap Slt.cells)∧∀ v' w',w'.ownsRow B H 3 v' (L.length+1) (L.flatMap Slt.cells++(newK m v a ds n).cells)→w.grownBy w' vr.ownBlock→(HxG vr (HkA H E m v' (L++[newK m v a ds n])) v').p B c w':=by
 obtain ⟨q1,q2,q3,q4⟩:=h;refine ⟨q2,λ v' w' hown hg=>?_⟩;have hkeep:∀ (g:Nat) (c:Array Value),w.heap[g]?=some (Obj.cells c E (0,0))→w'.heap[g]?=some (Obj.cells c E (0,0)):=λ g c h8=>by
  refine (hg.block g (Array.getElem?_eq_some_iff.1 h8).1 (λ e9=>?_)).trans h8;rcases q2.2 with ⟨e1,_⟩|⟨g',cap,cur,e1,_,e3,_⟩
  ·rw [e1] at e9;cases e9
  ·rw [e1] at e9;have:g=g':=by simpa [Value.ownBlock] using e9
   subst this;rw [h8] at e3;injection e3 with e3;injection e3 with _ e3 _;exact hHE e3.symm
 have hcl:(eC m a ds).length=a:=ob;have hfl:(eC m a ds).flatten=ds:=ng hm.1;refine ⟨q1,(de q2).1,⟨rfl,?_,λ t ht=>?_,λ i j s t hi hj hne g hs ht=>?_⟩,(de hown).1⟩
 ·rw [qu,kq];simpa using hown
 ·rcases qo.1 ht with ht|ht
  ·exact (q3 t ht).keep λ g c _ h8=>hkeep g c h8
  ·obtain rfl:=qn.1 ht;have h9:w'.ownsRow B E m v (eC m a ds).length (eC m a ds).flatten:=by
    rw [hcl,hfl];exact cv hm λ g c _ h8=>hkeep g c h8
   exact ⟨h9,uz (tG hm.1) h9⟩
 ·have hb1:∀ g,(newK m v a ds n).has g→v.ownBlock=some g:=λ g h=>by
   rcases h with h|h <;> exact h
  have hget:∀ (i:Nat) s,(L++[newK m v a ds n])[i]?=some s→(L[i]?=some s∧i<L.length)∨(i=L.length∧s=newK m v a ds n):=λ i s hi=>by
   by_cases h5:i<L.length
   ·rw [List.getElem?_append_left h5] at hi;exact .inl ⟨hi,h5⟩
   ·rw [List.getElem?_append_right zo] at hi;have h6:=(List.getElem?_eq_some_iff.1 hi).1;simp at h6;have h7:i=L.length:=by omega
    subst h7;simp at hi;exact .inr ⟨rfl,hi.symm⟩
  rcases hget i s hi with ⟨h5,h5'⟩|⟨h5,rfl⟩ <;> rcases hget j t hj with ⟨h6,h6'⟩|⟨h6,rfl⟩
  ·exact q4 i j s t h5 h6 hne g hs ht
  ·exact hsep s (qa h5) g hs (hb1 g ht)
  ·exact hsep t (qa h6) g ht (hb1 g hs)
  ·omega
theorem Hw {m a:Nat}{es ds:Ym}(h:(cat [EqS v,EqS (.slice none 0 0),NumA .i64 (n:Nat)]).p B ds w):ds=(newK m v a es n).cells:=by
 obtain ⟨ps,rfl,hp⟩:=h;cases hp with
 | cons h1 hp=>cases hp with
  | cons h2 hp=>cases hp with
   | cons h3 hp =>
    cases hp;have h3':=h3;obtain ⟨rfl,_⟩:=h1;obtain ⟨rfl,_⟩:=h2;have:_=[Value.int .i64 (n:Nat)]:=h3';subst this
    rfl
theorem HW {c v:Yo}{A nu ra el:As}(h:St B w0 N Γ Λ a w)(k:Nat)(hm:Λ[k]?=some ⟨s,T,H,BqG n (HxG c A v) nu ra el⟩):v.oneCell'=true∧v.cells = #[v]:=by
 obtain ⟨g,cs,_,_,_,hp⟩:=h.locs _ (qa hm);obtain ⟨ps,e,hp⟩:=hp;cases hp with
 | cons h1 hp=>cases hp with
  | cons h2 hp=>exact ⟨h2.2.2.2,nh h2.2.2.2⟩
theorem HV {c v:Yo}{A la nu ra:As}(h:St B w0 N Γ Λ a w)(k:Nat)(hm:Λ[k]?=some ⟨s,T,H,BqG n la nu ra (HxG c A v)⟩):v.oneCell'=true∧v.cells = #[v]:=by
 obtain ⟨g,cs,_,_,_,hp⟩:=h.locs _ (qa hm);obtain ⟨ps,e,hp⟩:=hp
 iterate 9 (cases hp;rename_i _ hp)
 cases hp;rename_i h2 hp;exact ⟨h2.2.2.2,nh h2.2.2.2⟩
theorem nt:∃ it z,Tryz.prog.info? 135=some it∧it.zero=some z∧it.size=3∧it.bytes=56∧z.cells.size=3:=by
 have h:((Tryz.prog.info? 135).bind λ it=>it.zero.map λ z=>(it.size,it.bytes,z.cells.size))=some (3,56,3):=by kernel_rfl
 cases hi:Tryz.prog.info? 135 with
 | none=>rw [hi] at h;simp at h
 | some it =>
  rw [hi] at h;cases hz:it.zero with
  | none=>simp [hz] at h
  | some z =>
   simp [hz] at h;exact ⟨it,z,rfl,hz,h.1,h.2.1,h.2.2⟩
def BqE (p:BkRest→List Slot→Prop):As where
 n:=17
 ag:=true
 p B cs w:=∃ X vr L,p X L∧(BqA X vr L).p B cs w
 deps:=[137,U32,141,3,168,124,135,76]
 len:=λ B cs w ⟨X,vr,L,_,h⟩=>(BqA X vr L).len B cs w h
 one:=λ B cs w ⟨X,vr,L,_,h⟩=>(BqA X vr L).one B cs w h
 ag1:=λ h=>by cases h
 cg:=λ B cs w w' hg ⟨X,vr,L,h1,h⟩=>⟨X,vr,L,h1,(BqA X vr L).cg B cs w w' hg h⟩
 wr:=λ B cs w w' g c T fz h1 h2 h3 h4 ⟨X,vr,L,h5,h⟩=>⟨X,vr,L,h5,(BqA X vr L).wr B cs w w' g c T fz h1 h2 h3 h4 h⟩
theorem wY {X:BkRest}{L:List Slot}{p:BkRest→List Slot→Prop}(h:p X L):WkA (BqA X vr L) (BqE p):=⟨rfl,rfl,λ B cs w hp=>⟨X,vr,L,h,hp⟩⟩
theorem uM {X:BkRest}{L:List Slot}{xs:Ya}(h:(BqG n (HbA vr L) (nuA X) (ryA X) (elA X)).p B cs w)(hm:(MgN xs).va.p B v w)(hsep:∀ t∈L,∀ g,t.has g→v.ownBlock≠some g):
  w.ownsRow B 137 3 vr L.length (L.flatMap Slot.cells)∧∀ v' w' ds,ds=(newS v xs n).cells→w'.ownsRow B 137 3 v' (L.length+1) (L.flatMap Slot.cells++ds)→w.grownBy w' vr.ownBlock→(v'.ownBlock=vr.ownBlock∨(v'.ownBlock=some w.heap.size∧w.grownBy w' none))→(BqG n (HxG vr (HbA v' (L++[newS v xs n])) v') (nuA X) (ryA X) (elA X)).p B cs w':=by
 obtain ⟨⟨c0,h0⟩,_⟩:=cS (X:={ X with n:=n }) h;have hown:=(uV (n:=n) h0 hm hsep).1;refine ⟨hown,λ v' w' ds hds hown' hg hb=>?_⟩;subst hds;have hr:=fb hown;exact DV h (λ c hc=>(uV (n:=n) hc hm hsep).2 v' w' hown' hg) (rV hg hr zd) (rV hg hr zd) (rV hg hr zd)
theorem uP {X:BkRest}{n a:Nat}{L:List Slot}{es:Ym}(h:(BqG n (HbA vr L) (nuA X) (ryA X) (elA X)).p B cs w)(hm:w.ownsRow B 76 9 v a es)(hsep:∀ t∈X.M,∀ g,t.has g→v.ownBlock≠some g):
  w.ownsRow B 135 3 X.ve X.M.length (X.M.flatMap Slt.cells)∧∀ v' w' ds,ds=(newK 9 v a es n).cells→w'.ownsRow B 135 3 v' (X.M.length+1) (X.M.flatMap Slt.cells++ds)→w.grownBy w' X.ve.ownBlock→(v'.ownBlock=X.ve.ownBlock∨(v'.ownBlock=some w.heap.size∧w.grownBy w' none))→(BqG n (HbA vr L) (nuA X) (ryA X) (HxG X.ve (HkA 135 76 9 v' (X.M++[newK 9 v a es n])) v')).p B cs w':=by
 obtain ⟨_,_,_,⟨c0,h0⟩⟩:=cS (X:={ X with n:=n }) h;have hown:=(uT (n:=n) zd h0 hm hsep).1;refine ⟨hown,λ v' w' ds hds hown' hg hb=>?_⟩;subst hds;have hr:=fb hown;exact DV h (NT hg hr zd) (rV hg hr zd) (rV hg hr zd) (λ c hc=>(uT (n:=n) zd hc hm hsep).2 v' w' hown' hg)
theorem Cz (X:BkRest)(vr v:Yo)(xs:Ya)(L:List Slot)(hsep:∀ t∈L,∀ g,t.has g→v.ownBlock≠some g)(hl:L.length≤1000000)(hn:X.n≤10000000):CK Tryz.prog 237 60 [60,137] (BqA X vr L) (BqE (λ X2 L2=>X2.n=X.n+1∧X2.N=X.N∧X2.R=X.R∧X2.M=X.M∧L2=L++[newS v xs (X.n+1)])) [(PinA v (MgN xs)).va] (Tu []):=by
 obtain ⟨it0,z0,hi0,hz0,hs0,hb0',hc0⟩:=GA;refine CK.intro Tryz.func237 G zk nq zk (λ B g w0 a hrm U=>?_);have U:=zn [(0,EqV ((ptrH).f g)),(1,(PinA v (MgN xs)).va)] [⟨0,60,ptrH,BqA X vr L⟩] U;have U:St B w0 26 _ [⟨0,60,ptrH,BqG X.n (HbA vr L) (nuA X) (ryA X) (elA X)⟩] a w0.w:=U;refine qb<|bS (sp:=[.v 4 _,.v 5 _,.v 6 _,.v 7 _,.v 8 _,.v 9 _,.v 10 _,.sto 0]) 7 1 0 7 OneC [.g 0,.g 1,.o 4,.o 6] U (zM 0 G (zv G (lG (vq 0 G)) (zv G (lH (vq 1 G) gv) (zv G (cD (vq 2 G) (lz0 0 G) (gq 0 G) (Sub.part 0 G G) ty_3) (zv G (aL (vq 3 G) ab (aW zo)) (zv G (lG (vq 0 G)) (zv G (lH (vq 5 G) gv) o0))))))) G zd zk zk (zz (Wf 0 1 8 10) RU λ a w U=>?_);rw [show List.range' 7 1=[7] from rfl];have U:=U.wkG 2 rfl Ie;rw [qx];refine gQ (A1:=BqG (X.n+1) (HbA vr L) (nuA X) (ryA X) (elA X)) [0,1] 3 2 0 0 G U G G G G G ty_3 G zk zk G (λ cs hp=>DU hp) (λ w U=>?_);refine dC ?_;have U:=zn Ug [⟨0,60,ptrH,BqG (X.n+1) (HbA vr L) (nuA X) (ryA X) (elA X)⟩] U;refine aa<|uW (sp:=[.v 11 _,.v 12 _,.v 13 _,.v 14 _,.v 15 _,.v 16 _,.v 17 _,.v 18 _,.v 19 _,.v 20 _,.v 21 _,.v 22 _,.v 23 VT,.v 24 VT,.v 25 VT,.sto 0]) [[],[],[1],[1,2],[1,2,3],[],[],[6],[6,7],[6,7,8],[5,6,7,8,9],[5,6,7,8,9,10],[1,2,3,4,5,6,7,8,9,10,11],[0,1,2,3,4,5,6,7,8,9,10,11,12],[0,1,2,3,4,5,6,7,8,9,10,11,12,13],[0,1,2,3,4,5,6,7,8,9,10,11,12,13,14]] 12 4 0 15 0 OneC [.g 0,.g 1,.o 0,.o 4,.o 11] [.g 0,.g 1,.o 4,.o 11] ac U (zM 0 G (zM 0 G (zv G (lG (vq 1 G)) (zv G (lH (vq 2 G) dI) (zv G (cD (vq 3 G) (lz0 0 G) (gq 0 G) (Sub.part 1 G G) nD) (zv G (aq (has_wk' (gq 1 G) N7)) (zM 0 G (zv G (lG (vq 6 G)) (zv G (lH (vq 7 G) gv) (zv G (cD (vq 8 G) (lz0 0 G) (gq 0 G) (Sub.part 0 G G) ty_3) (zv G (aT (qs:=[(0,_),(2,_)]) lW (.cons ⟨rfl,vq 5 rfl,rfl⟩ (.cons ⟨rfl,vq 9 rfl,rfl⟩ .nil))) (zv G (bR (D:=[U32]) (l:=[_]) (xs:=[.tmp 21]) (cO zk) Pr zk (n_ok zk) nq nq nq (.o (vq 10 G)) G G) o0)))))))))))) G zd zd zd zk zk (fx zk) zk zk zk (λ a w U=>?_) (λ a w U=>?_)
 ·have U:=zn (W8 0 1 11 15 22) RU U;rw [show List.range' 12 4=[12,13,14,15] from rfl];have U:=U.wkG 3 rfl Kz;have hm:=U.vals _ (zm 1 rfl);rw [qx];refine ll (m:=3) (X:=cat [EqS v,EqS (.slice none 0 0),NumA .i64 ((X.n+1:Nat):Int)]) (A1:=λ v'=>BqG (X.n+1) (HxG vr (HbA v' (L++[newS v xs (X.n+1)])) v') (nuA X) (ryA X) (elA X)) (F:=λ ds=>ds=(newS v xs (X.n+1)).cells) [0,2] 3 4 0 G U G G (λ ds h=>CM h) G G G (hrm _ zk) xA hi0 hz0 hs0 hb0' hc0 zd (n:=L.length) zo zo zd zk zk zk zk (λ cs hp=>uM hp (Hf hm) hsep) (λ v' w' U=>?_);rw [qx];refine oR 2 G U G zd zk zk (λ a U=>?_);rw [qx];refine fK 0 G U dI G zd zk zk (λ a U=>?_);rw [qx];have hv1:=(HW U 0 rfl);refine gQ (A1:=BqG (X.n+1) (HbA v' (L++[newS v xs (X.n+1)])) (nuA X) (ryA X) (elA X)) [3] 0 2 3 0 G U G G G hv1.1 hv1.2 nD G zk zk G (λ cs hp=>HZ hp) (λ w U=>?_);refine dC ?_;have U:=St.wkL (A':=BqE (λ X2 L2=>X2.n=X.n+1∧X2.N=X.N∧X2.R=X.R∧X2.M=X.M∧L2=L++[newS v xs (X.n+1)])) U 0 rfl (wY (X:={ X with n:=X.n+1 }) (vr:=v') (L:=L++[newS v xs (X.n+1)]) ⟨rfl,rfl,rfl,rfl,rfl⟩);have U:=zn UM RU U;refine dg<|il U (zm 0 G) (zm 0 G) ?_;exact aP (rs:=[]) G U .nil zd
 ·have U:=zn (Wf 0 1 15 22) RU U;rw [show List.range' (12+1) (4-1)=[13,14,15] from rfl];have U:=U.wkG 2 rfl Kz;have hm:=U.vals _ (zm 1 rfl);rw [qx];refine ll (m:=3) (X:=cat [EqS v,EqS (.slice none 0 0),NumA .i64 ((X.n+1:Nat):Int)]) (A1:=λ v'=>BqG (X.n+1) (HxG vr (HbA v' (L++[newS v xs (X.n+1)])) v') (nuA X) (ryA X) (elA X)) (F:=λ ds=>ds=(newS v xs (X.n+1)).cells) [0] 2 3 0 G U G G (λ ds h=>CM h) G G G (hrm _ zk) xA hi0 hz0 hs0 hb0' hc0 zd (n:=L.length) zo zo zd zk zk zk zk (λ cs hp=>uM hp (Hf hm) hsep) (λ v' w' U=>?_);rw [qx];refine C0 1 G U G zd zk zk (λ a U=>?_);rw [qx];refine oR 0 G U G zd zk zk (λ a U=>?_);rw [qx];refine fK 0 G U dI G zd zk zk (λ a U=>?_);rw [qx];have hv1:=(HW U 0 rfl);refine gQ (A1:=BqG (X.n+1) (HbA v' (L++[newS v xs (X.n+1)])) (nuA X) (ryA X) (elA X)) [4] 0 3 4 0 G U G G G hv1.1 hv1.2 nD G zk zk G (λ cs hp=>HZ hp) (λ w U=>?_);refine dC ?_;have U:=St.wkL (A':=BqE (λ X2 L2=>X2.n=X.n+1∧X2.N=X.N∧X2.R=X.R∧X2.M=X.M∧L2=L++[newS v xs (X.n+1)])) U 0 rfl (wY (X:={ X with n:=X.n+1 }) (vr:=v') (L:=L++[newS v xs (X.n+1)]) ⟨rfl,rfl,rfl,rfl,rfl⟩);have U:=zn UM RU U;refine dg<|il U (zm 0 G) (zm 0 G) ?_;exact aP (rs:=[]) G U .nil zd
theorem CA (X:BkRest)(vr v:Yo)(na:Nat)(L:List Slot)(hsep:∀ t∈X.M,∀ g,t.has g→v.ownBlock≠some g)(hl:X.M.length≤1000000)(hn:X.n≤10000000):CK Tryz.prog 37 60 [60,135] (BqA X vr L) (BqE (λ X2 L2=>X2.n=X.n+1∧X2.N=X.N∧X2.R=X.R∧L2=L∧∃ es,es.length=na*9∧X2.M=X.M++[newK 9 v na es (X.n+1)])) [OwV 76 9 v na] (Tu []):=by
 obtain ⟨it0,z0,hi0,hz0,hs0,hb0',hc0⟩:=nt;refine CK.intro Tryz.func37 G zk nq zk (λ B g w0 a hrm U=>?_);have U:=zn [(0,EqV ((ptrH).f g)),(1,OwV 76 9 v na)] [⟨0,60,ptrH,BqA X vr L⟩] U;have U:St B w0 26 _ [⟨0,60,ptrH,BqG X.n (HbA vr L) (nuA X) (ryA X) (elA X)⟩] a w0.w:=U;refine qb<|bS (sp:=[.v 4 _,.v 5 _,.v 6 _,.v 7 _,.v 8 _,.v 9 _,.v 10 _,.sto 0]) 7 1 0 7 OneC [.g 0,.g 1,.o 4,.o 6] U (zM 0 G (zv G (lG (vq 0 G)) (zv G (lH (vq 1 G) gv) (zv G (cD (vq 2 G) (lz0 0 G) (gq 0 G) (Sub.part 0 G G) ty_3) (zv G (aL (vq 3 G) ab (aW zo)) (zv G (lG (vq 0 G)) (zv G (lH (vq 5 G) gv) o0))))))) G zd zk zk (zz (Wf 0 1 8 10) RU λ a w U=>?_);rw [show List.range' 7 1=[7] from rfl];have U:=U.wkG 2 rfl Ie;rw [qx];refine gQ (A1:=BqG (X.n+1) (HbA vr L) (nuA X) (ryA X) (elA X)) [0,1] 3 2 0 0 G U G G G G G ty_3 G zk zk G (λ cs hp=>DU hp) (λ w U=>?_);refine dC ?_;have U:=zn Ug [⟨0,60,ptrH,BqG (X.n+1) (HbA vr L) (nuA X) (ryA X) (elA X)⟩] U;refine aa<|uW (sp:=[.v 11 _,.v 12 _,.v 13 _,.v 14 _,.v 15 _,.v 16 _,.v 17 _,.v 18 _,.v 19 _,.v 20 _,.v 21 _,.v 22 _,.v 23 VT,.v 24 VT,.v 25 VT,.sto 0]) [[],[],[1],[1,2],[1,2,3],[],[],[6],[6,7],[6,7,8],[5,6,7,8,9],[5,6,7,8,9,10],[1,2,3,4,5,6,7,8,9,10,11],[0,1,2,3,4,5,6,7,8,9,10,11,12],[0,1,2,3,4,5,6,7,8,9,10,11,12,13],[0,1,2,3,4,5,6,7,8,9,10,11,12,13,14]] 12 4 0 15 0 OneC [.g 0,.g 1,.o 0,.o 4,.o 11] [.g 0,.g 1,.o 4,.o 11] ac U (zM 0 G (zM 0 G (zv G (lG (vq 1 G)) (zv G (lH (vq 2 G) dH) (zv G (cD (vq 3 G) (lz0 0 G) (gq 0 G) (Sub.part 9 G G) nC) (zv G (aq (has_wk' (gq 1 G) N8)) (zM 0 G (zv G (lG (vq 6 G)) (zv G (lH (vq 7 G) gv) (zv G (cD (vq 8 G) (lz0 0 G) (gq 0 G) (Sub.part 0 G G) ty_3) (zv G (aT (qs:=[(0,_),(2,_)]) da (.cons ⟨rfl,vq 5 rfl,rfl⟩ (.cons ⟨rfl,vq 9 rfl,rfl⟩ .nil))) (zv G (bR (D:=[U32]) (l:=[_]) (xs:=[.tmp 21]) (cO zk) Pq zk (n_ok zk) nq nq nq (.o (vq 10 G)) G G) o0)))))))))))) G zd zd zd zk zk (fx zk) zk zk zk (λ a w U=>?_) (λ a w U=>?_)
 ·have U:=zn (W8 0 1 11 15 22) RU U;rw [show List.range' 12 4=[12,13,14,15] from rfl];have U:=U.wkG 3 rfl Kw;have hm:=U.vals _ (zm 1 rfl);obtain ⟨-,es,hm⟩:=hm;rw [qx];refine ll (m:=3) (X:=cat [EqS v,EqS (.slice none 0 0),NumA .i64 ((X.n+1:Nat):Int)]) (A1:=λ v'=>BqG (X.n+1) (HbA vr L) (nuA X) (ryA X) (HxG X.ve (HkA 135 76 9 v' (X.M++[newK 9 v na es (X.n+1)])) v')) (F:=λ ds=>ds=(newK 9 v na es (X.n+1)).cells) [0,2] 3 4 0 G U G G (λ ds h=>Hw h) G G G (hrm _ zk) xz hi0 hz0 hs0 hb0' hc0 zd (n:=X.M.length) zo zo zd zk zk zk zk (λ cs hp=>uP hp hm hsep) (λ v' w' U=>?_);rw [qx];refine oR 2 G U G zd zk zk (λ a U=>?_);rw [qx];refine fK 0 G U dH G zd zk zk (λ a U=>?_);rw [qx];have hv1:=(HV U 0 rfl);refine gQ (A1:=BqG (X.n+1) (HbA vr L) (nuA X) (ryA X) (HkA 135 76 9 v' (X.M++[newK 9 v na es (X.n+1)]))) [3] 0 2 3 0 G U G G G hv1.1 hv1.2 nC G zk zk G (λ cs hp=>HY G G G hp) (λ w U=>?_);refine dC ?_;have U:=St.wkL (A':=BqE (λ X2 L2=>X2.n=X.n+1∧X2.N=X.N∧X2.R=X.R∧L2=L∧∃ es,es.length=na*9∧X2.M=X.M++[newK 9 v na es (X.n+1)])) U 0 rfl (wY (X:={ X with n:=X.n+1,ve:=v',M:=X.M++[newK 9 v na es (X.n+1)] }) (vr:=vr) (L:=L) ⟨rfl,rfl,rfl,rfl,es,hm.1,rfl⟩);have U:=zn UM RU U;refine dg<|il U (zm 0 G) (zm 0 G) ?_;exact aP (rs:=[]) G U .nil zd
 ·have U:=zn (Wf 0 1 15 22) RU U;rw [show List.range' (12+1) (4-1)=[13,14,15] from rfl];have U:=U.wkG 2 rfl Kw;have hm:=U.vals _ (zm 1 rfl);obtain ⟨-,es,hm⟩:=hm;rw [qx];refine ll (m:=3) (X:=cat [EqS v,EqS (.slice none 0 0),NumA .i64 ((X.n+1:Nat):Int)]) (A1:=λ v'=>BqG (X.n+1) (HbA vr L) (nuA X) (ryA X) (HxG X.ve (HkA 135 76 9 v' (X.M++[newK 9 v na es (X.n+1)])) v')) (F:=λ ds=>ds=(newK 9 v na es (X.n+1)).cells) [0] 2 3 0 G U G G (λ ds h=>Hw h) G G G (hrm _ zk) xz hi0 hz0 hs0 hb0' hc0 zd (n:=X.M.length) zo zo zd zk zk zk zk (λ cs hp=>uP hp hm hsep) (λ v' w' U=>?_);rw [qx];refine C0 1 G U G zd zk zk (λ a U=>?_);rw [qx];refine oR 0 G U G zd zk zk (λ a U=>?_);rw [qx];refine fK 0 G U dH G zd zk zk (λ a U=>?_);rw [qx];have hv1:=(HV U 0 rfl);refine gQ (A1:=BqG (X.n+1) (HbA vr L) (nuA X) (ryA X) (HkA 135 76 9 v' (X.M++[newK 9 v na es (X.n+1)]))) [4] 0 3 4 0 G U G G G hv1.1 hv1.2 nC G zk zk G (λ cs hp=>HY G G G hp) (λ w U=>?_);refine dC ?_;have U:=St.wkL (A':=BqE (λ X2 L2=>X2.n=X.n+1∧X2.N=X.N∧X2.R=X.R∧L2=L∧∃ es,es.length=na*9∧X2.M=X.M++[newK 9 v na es (X.n+1)])) U 0 rfl (wY (X:={ X with n:=X.n+1,ve:=v',M:=X.M++[newK 9 v na es (X.n+1)] }) (vr:=vr) (L:=L) ⟨rfl,rfl,rfl,rfl,es,hm.1,rfl⟩);have U:=zn UM RU U;refine dg<|il U (zm 0 G) (zm 0 G) ?_;exact aP (rs:=[]) G U .nil zd
def NilM:As where
 n:=1
 ag:=false
 p _ cs _:=cs=[.slice none 0 0]
 deps:=[]
 len:=by rintro B cs w rfl;rfl
 one:=by rintro B cs w rfl x hx;simp at hx;subst hx;rfl
 ag1:=λ _=>rfl
 cg:=λ _ _ _ _ _ h=>h
 wr:=λ _ _ _ _ _ _ _ _ _ _ _ _ h=>h
def NilI:As:=cat [BoA false,NilM]
def RFN (x:RF):As:=cat [RIN x.num,RIN x.den]
def RFD (x:RF):As:=DisA (RFN x)
theorem FK {x:RF}:FreeA (RFD x) (RFD x):=mh (bN (.cons (dA _) (.cons (dA _) .nil)))
theorem qd_rfd {q:Rat}:WkA (QD k q) (RFD (rfOf q)):=gw (br (.cons I6 (.cons I6 .nil)))
theorem rp:Str Tryz.prog 28 [NilI,NilI] :=
 Str.of (z:=.agg #[.bool false,.slice none 0 0,.bool false,.slice none 0 0]) zk jb zk λ B w=>⟨[[.bool false,.slice none 0 0],[.bool false,.slice none 0 0]],rfl,.cons ⟨[[.bool false],[.slice none 0 0]],rfl,.cons rfl (.cons rfl .nil)⟩ (.cons ⟨[[.bool false],[.slice none 0 0]],rfl,.cons rfl (.cons rfl .nil)⟩ .nil)⟩
theorem mM (h:(cat [NilI,NilI]).p B cs w):cs=[.bool false,.slice none 0 0,.bool false,.slice none 0 0]:=by
 obtain ⟨ps,rfl,hp⟩:=h;have hI:∀ c,NilI.p B c w→c=[.bool false,.slice none 0 0]:=λ c ⟨qs,e,hq⟩=>by
  cases hq with
  | @cons _ c1 _ _ h1 hq=>cases hq with
   | @cons _ c2 _ _ h2 hq =>
    cases hq;have h1':c1=[.bool false]:=h1;have h2':c2=[.slice none 0 0]:=h2;rw [e,h1',h2']
    rfl
 cases hp with
 | cons h1 hp=>cases hp with
  | cons h2 hp =>
   cases hp;rw [hI _ h1,hI _ h2]
   rfl
theorem zf_rfd:WkA (cat [NilI,NilI]) (RFD rf0):=⟨rfl,rfl,λ B cs w h=>by
 have hi:(RIN ⟨false,[]⟩).p B [.bool false,.slice none 0 0] w:=⟨[[.bool false],[.slice none 0 0]],rfl,.cons rfl (.cons ⟨cU,.inl ⟨rfl,rfl⟩⟩ .nil)⟩;rw [mM h];exact ⟨⟨[[.bool false,.slice none 0 0],[.bool false,.slice none 0 0]],rfl,.cons hi (.cons hi .nil)⟩,jf⟩⟩
section
open Rg
variable {P:Program}{Q:Exit→Act→World→Prop}{B N:Nat}{w0:Bs}{Γ:List (Nat × VA)}{ops:Array Oper}{les:List LeF}{sp:List ((Nat→Value)→Sp)}{anc:Nat→List Nat}{i:Nat}
end
theorem LD {m:Yo}{xs:Ya}(h:(MgN xs).p B [m] w):blk m=m.ownBlock:=by
 rcases h.2 with ⟨_,e⟩|⟨g,ext,e,_⟩
 ·injection e with e;subst e
  rfl
 ·injection e with e;subst e
  rfl
theorem rT {x:RI}(h:(RIN x).p B cs w):∃ m,(IntP x m).p B cs w∧cbl cs=kbl [(m,x.mag)]:=by
 obtain ⟨ps,rfl,hp⟩:=h;cases hp with
 | @cons _ c1 _ _ h1 hp=>cases hp with
  | @cons _ c2 _ _ h2 hp =>
   cases hp;have h1':c1=[.bool x.neg]:=h1;subst h1';have l2:=(MgN x.mag).len _ _ _ h2
   match c2,l2 with
   | [m],_ =>
    refine ⟨m,⟨[[.bool x.neg],[m]],rfl,.cons G (.cons ⟨h2,rfl⟩ .nil)⟩,?_⟩;have e:=LD h2;show List.filterMap blk [.bool x.neg,m]=List.filterMap (λ p=>p.1.ownBlock) [(m,x.mag)];have:List.filterMap blk [.bool x.neg,m]=List.filterMap blk [m]:=rfl;rw [this];simp [List.filterMap_cons,e]
section
open Rg
variable {P:Program}{Q:Exit→Act→World→Prop}{B N:Nat}{w0:Bs}{Γ:List (Nat × VA)}{ops:Array Oper}{les:List LeF}{sp:List ((Nat→Value)→Sp)}{anc:Nat→List Nat}{i:Nat}
end
section
open Rg
variable {P:Program}{Q:Exit→Act→World→Prop}{B N:Nat}{w0:Bs}{Γ:List (Nat × VA)}{Λ:List Lc}{a:Act}{w:World}
def les0 (Λ:List Lc):List Le:=Λ.map λ l=>⟨l.s,l.T,l.H,none,l.A,none⟩
theorem rQ:(les0 Λ).map (λ e=>(⟨e.s,e.T,e.H,Rg.last e⟩:Lc))=Λ:=by
 unfold les0;rw [xD];have:(λ e:Le=>(⟨e.s,e.T,e.H,Rg.last e⟩:Lc))∘(λ l:Lc=>(⟨l.s,l.T,l.H,none,l.A,none⟩:Le))=id:=by
  funext l
  rfl
 rw [this,vE]
theorem KK {d0:Nat}{A0:VA}(src:List Src)(h:St B w0 N ((d0,A0)::Γ) Λ a w)(h0:sp[0]?=some (.v d0 A0))(hsz:0<ops.size)
  (hob:Obs P Q ⟨ops,N,Γ,les0 Λ,sp,λ i=>List.range i⟩ B w0 1 (ops.size-1)) (hk:Rg.chk ⟨ops,N,Γ,les0 Λ,sp,λ i=>List.range i⟩=true) (hsrc:src.all (okS ⟨ops,N,Γ,les0 Λ,sp,λ i=>List.range i⟩)=true)
  (hQ:∀ a w,St B w0 N (src.filterMap (cC ⟨ops,N,Γ,les0 Λ,sp,λ i=>List.range i⟩)) Λ a w→Q .normal a w):wpOps P ops Q (List.range' 1 (ops.size-1)) a w:=by
 have hmem:∀ e∈les0 Λ,e.cr=none∧e.st=none∧(⟨e.s,e.T,e.H,e.A0⟩:Lc)∈Λ:=λ e he=>by
  obtain ⟨l,hl,rfl⟩:=qq.1 he;exact ⟨rfl,rfl,hl⟩
 have hcur:∀ e∈les0 Λ,∀ L:Nat→Bool,Rg.cur L e=some e.A0:=λ e he L=>by
  obtain ⟨h1,h2,_⟩:=hmem e he;unfold Rg.cur;rw [h1,h2]
  rfl
 have hi0:Rg.Inv ⟨ops,N,Γ,les0 Λ,sp,λ i=>List.range i⟩ B w0 (λ j=>decide (j<1)) a w:=by
  refine ⟨h.lo,h.defers,h.size,h.base,λ x hx _ _=>h.vals x (zr _ hx),λ i y d A hs hv hL _=>?_,λ i d b k c hs hL _=>?_,λ e he A hA=>?_,λ e he f hf hne _ _=>?_⟩
  ·have hL':i<1:=qt hL;have:i=0:=by omega
   subst this;have hs':sp[0]?=some y:=hs;rw [h0] at hs';injection hs' with hs';subst hs';simp only [Sp.vl,Option.some.injEq,Prod.mk.injEq] at hv;obtain ⟨rfl,rfl⟩:=hv;exact h.vals (d0,A0) (xw ..)
  ·have hL':i<1:=qt hL;have:i=0:=by omega
   subst this;have hs':sp[0]?=some (.adr d b k c):=hs;rw [h0] at hs';cases hs'
  ·rw [hcur e he] at hA;injection hA with hA;subst hA;exact h.locs _ (hmem e he).2.2
  ·exact h.dis _ (hmem e he).2.2 _ (hmem f hf).2.2 hne
 have key:∀ m k,1≤k→k+m=ops.size→∀ a w,Rg.Inv ⟨ops,N,Γ,les0 Λ,sp,λ i=>List.range i⟩ B w0 (λ j=>decide (j<k)) a w→wpOps P ops Q (List.range' k m) a w:=by
  intro m
  induction m with
  | zero =>
   intro k hk1 hkm a w hi;have:k=ops.size:=by omega
   subst this;have:=fp hk ⟨hi⟩ src hsrc;rw [show (Rg.mk ops N Γ (les0 Λ) sp (λ i=>List.range i)).les=les0 Λ from rfl,rQ] at this;exact hQ a w this
  | succ m ih =>
   intro k hk1 hkm a w hi;rw [List.range'_succ,qx];refine Rg.step hk (hob.all k zo zo) hi ?_ (by simp) ?_ _ λ a' w' hi'=>ih (k+1) zo zo a' w' (hi'.congr λ j=>?_)
   ·intro i hi j hj;have hj:(List.range i).contains j=true:=hj;simp at hi hj ⊢;omega
   ·intro j hj;have hj:(List.range k).contains j=true:=hj;simpa using hj
   ·unfold upd;by_cases h1:j=k
    ·subst h1;simp
    ·have h2:(j==k)=false:=by simpa using h1
     rw [h2,xI,qU];omega
 exact key (ops.size-1) 1 (qi _) zo a w hi0
end
theorem Cn.introD {f:Yn}{c:Code}{pre:Yc}{post:VA}(hf:P.funcs[f]?=some fn)(hb:fn.body=some c)(hn:(fn.name== "runtime.NumGoroutine")=false)(hsz:pre.length≤fn.ntmps)
  (h:∀ (B:Nat) (w0:Bs) (a:Act),(∀ g,¬ w0.F g)→w0.nd=true→NoF w0→St B w0 fn.ntmps (argΓ pre) [] a w0.w→c.wp P (ce P fn (RQ B w0 post)) a w0.w):Cn P f pre post:=by
 refine ⟨⟨fn,hf,hn,by rw [hb];rfl⟩,λ B w args hB ha=>(cm hf hb (h B ⟨w,λ _=>False,true⟩ _ (λ _ h=>h) G (λ _ h=>h.elim) ?_)).mono λ _ _ ⟨v,he,hv,hk⟩=>⟨v,he,hv,⟨hk.os,hk.tape,hk.output,hk.size,λ k hlt=>hk.block k hlt λ h=>h⟩⟩⟩;have hl:=ha.length;refine ⟨λ g hg=>qf hB (hg.resolve_right λ h=>h),DefOk.nil rfl,?_,Kept.refl _,All2.args ha,(λ l hl=>by cases hl),(λ l hl=>by cases hl)⟩;simp only [xi,z8,qO];omega
def now (w:World)(go:Nat):Bs:=⟨w,λ g=>g=go,true⟩
theorem Kept.trans1 {go:Nat}(h:Kept w0 w)(hgo:w0.may go)(h2:Kept (now w go) w'):Kept w0 w' :=
 ⟨h2.os.trans h.os,h2.tape.trans h.tape,h2.output.trans h.output,qf h.size h2.size,λ k hk hf=>(h2.block k (qD hk h.size) λ e=>by
  have e':k=go:=e;subst e';rcases hgo with h1|h1
  ·omega
  ·exact hf h1).trans (h.block k hk hf)⟩
theorem St.rebase (h:St B w0 N Γ Λ a w)(hnd:w0.nd=true){go:Nat}(hgo:w0.may go)(hΛ:∀ l∈Λ,blk (a.eval (.tmp l.s))=some go):St B (now w go) N Γ Λ a w :=
 ⟨λ g hg=>by
  rcases hg with h1|h1
  ·exact qf (h.lo w0.w.heap.size (.inl (qi _))) (qf h.base.size h1)
  ·have e:g=go:=h1;rw [e];exact h.lo _ hgo,DefOk.nil (h.defers.none hnd),h.size,Kept.refl _,h.vals,λ l hl=>by
  obtain ⟨g,cs,e1,e2,e3,e4⟩:=h.locs l hl;have:=hΛ l hl;rw [e1,l.H.ok] at this;injection this with this;exact ⟨g,cs,e1,.inr this,e3,e4⟩,h.dis⟩
theorem St.back {go:Nat}(h:St B (now w go) N Γ Λ a w')(hlo:∀ g,w0.may g→B≤g)(hk:Kept w0 w)(hgo:w0.may go):St B w0 N Γ Λ a w' :=
 ⟨hlo,DefOk.nil (h.defers.none rfl),h.size,hk.trans1 hgo h.base,h.vals,λ l hl=>by
  obtain ⟨g,cs,e1,e2,e3,e4⟩:=h.locs l hl;refine ⟨g,cs,e1,?_,e3,e4⟩;rcases e2 with e2|e2
  ·exact .inl (qf hk.size e2)
  ·have e:g=go:=e2;rw [e];exact hgo,h.dis⟩
theorem iC {R:Rg}{A:VA}(hA:∀ w,Kept w0 w→A.p B v w)(h:Has R B w0 i x (EqV v)):Has R B w0 i x A:=λ a w av=>by
 rw [h a w av];exact hA _ av.base
theorem Fr {A:Option Addr}(h:Mag B w A c l)(hs:w.heap.size≤w'.heap.size)(hk:∀ b,A.map (·.block)=some b→b<w.heap.size→w'.heap[b]?=w.heap[b]?):Mag B w' A c l :=
 ⟨h.ok,h.le,h.max,λ hl=>by
  obtain ⟨b,o,rfl,h1,h2,h3⟩:=h.at_ hl;have e:=hk b rfl h1;refine ⟨b,o,rfl,qD h1 hs,?_,λ j hj=>?_⟩
  ·rcases h2 with h2|⟨c',fz,h2⟩
   ·exact .inl h2
   ·exact .inr ⟨c',fz,e.trans h2⟩
  ·rw [← h3 j hj];unfold World.cell?;rw [e]⟩
theorem Cf {go:Nat}(h:(MgA l).va.p B v w)(hne:blk v≠some go)(hk:Kept (now w go) w'):(MgA l).va.p B v w':=by
 obtain ⟨A,c,rfl,hm⟩:=gU h;refine eG (Fr hm hk.size λ b hb hlt=>hk.block b hlt λ e=>?_) rfl;have e':b=go:=e;subst e';cases A with
 | none=>cases hb
 | some ad=>exact hne hb
structure Rst (B:Nat) (w0:Bs) (a:Act) (w:World) (s8:Nat) (v:Value) (l:List Nat) (go:Nat):Prop where
 mg:(MgA l).va.p B v w
 ne:blk v≠some go
 at8:blk (a.eval (.tmp s8))=some go
 may:w0.may go
 lt:go<w.heap.size
theorem St.eqF (h:St B w0 N Γ Λ a w){A:VA}(k:Nat)(hm:Γ[k]?=some (s,EqV v))(hA:A.p B v w):St B w0 N (Γ.set k (s,A)) Λ a w :=
 ⟨h.lo,h.defers,h.size,h.base,λ x hx=>by
  rcases qA hx with hx|rfl
  ·exact h.vals x hx
  ·have e:a.eval (.tmp s)=v:=h.vals _ (qa hm);show A.p B (a.eval (.tmp s)) w;rw [e];exact hA,h.locs,h.dis⟩
theorem St.toE (h:St B w0 N Γ Λ a w){A:VA}(k:Nat)(hm:Γ[k]?=some (s,A)):∃ v,A.p B v w∧St B w0 N (Γ.set k (s,EqV v)) Λ a w :=
 ⟨a.eval (.tmp s),h.vals _ (qa hm),h.lo,h.defers,h.size,h.base,λ x hx=>by
  rcases qA hx with hx|rfl
  ·exact h.vals x hx
  ·exact rfl,h.locs,h.dis⟩
open Rg in
theorem St.putV {w w2:Yi}(h:St B w0 N Γ Λ a w){M:VA}(hc:c<N)(hg:Grow w w2)(hp:M.p B v w2)(hΓ:∀ y∈Γ,y.1≠c)(hΛ:∀ l∈Λ,l.s≠c):St B w0 N ((c,M)::Γ) Λ (a.put (some c) v) w2:=by
 have hs:c<a.tmps.size:=by rw [h.size];exact hc
 refine ⟨h.lo,h.defers.grow hg rfl,by rw [size_put];exact h.size,h.base.grow hg,λ y hy=>?_,λ l hl=>?_,λ l hl m hm hne=>?_⟩
 ·rcases qr.1 hy with rfl|hy
  ·show M.p B ((a.put (some c) v).eval (.tmp c)) w2;rw [aM _ _ _ hs];exact hp
  ·rw [an _ _ _ _ (hΓ y hy)];exact VA.grow y.2 _ _ _ _ hg (h.vals y hy)
 ·obtain ⟨g,cs,e1,e2,e3,e4⟩:=LcOk.grow (h.locs l hl) hg;exact ⟨g,cs,by rw [an _ _ _ _ (hΛ l hl)];exact e1,e2,e3,e4⟩
 ·rw [an _ _ _ _ (hΛ l hl),an _ _ _ _ (hΛ m hm)];exact h.dis l hl m hm hne
theorem Bb {f:Yn}{gd:Option (Nat × Bool)}{at_:Yr}(hf:P.funcs[f]?=some fn)(hn:(fn.name== "runtime.NumGoroutine")=false)(hb:fn.body.isNone=false):
  (execOp a.eval ⟨some d,.call ⟨.value (.func f),xs.toArray,at_⟩,T,ps,af,gd⟩).run P w=.ok (.enter f (xs.map a.eval).toArray) w:=by
 simp only [execOp,resolve,Act.eval,Deferred.ofValue,Sem.run_bind,Sem.run_pure,Result.andThen_ok,invoke,bi hf hn hb];simp
open Rg in
open Rg in
theorem KO (n:Nat)(src:Ya)(i1 i2 k3:Nat){S E T1 T2 T3:Yh}{f:Yn}{M1 M2:VA}{at_:Yr}{s u d c e m bytes b s3:Nat}{ps1 ps2 ps3:Yw}{af1 af2 af3:Yx}{D D':Yq}{l xs:Yb}{A2:VA}{it:TypeInfo}{z:Yo}
  (h:St B w0 N Γ Λ a w) (hob:Obs P Q ⟨ops,N,Γ,lesN Λ,sp,λ i=>List.range i⟩ B w0 0 n) (hn2:ops.size=n+3) (hk:Rg.chk ⟨ops,N,Γ,lesN Λ,sp,λ i=>List.range i⟩=true)
  (ho1:ops[n]?=some ⟨some d,.call ⟨.builtin .append,#[.tmp s,.tmp u],#[S,S]⟩,T1,ps1,af1,none⟩) (ho2:ops[n+1]?=some ⟨some c,.call ⟨.value (.func f),#[.tmp d],at_⟩,T2,ps2,af2,none⟩) (ho9:ops[n+2]?=some ⟨some e,.assign (.tmp c),T3,ps3,af3,none⟩) (hcn:Cn P f [M1] M2) (hM:Wk (OwnB b E m D (l++xs)) M1)
  (hi1:i1<n) (h1:sp[i1]?=some (.v s (OwnB b E m D l))) (hi2:i2<n) (h2:sp[i2]?=some (.v u A2)) (h3:Γ[k3]?=some (s3,LO b)) (ho3:Rg.outG ⟨ops,N,Γ,lesN Λ,sp,λ i=>List.range i⟩ s3=true) (hwb:w0.w.heap.size≤b) (hA2:∀ w u,A2.p B u w→Kept w0 w→(SlA E D' xs).va.p B u w)
  (hS:P.underlying S=some (.slice E)) (hi:P.info? E=some it) (hz:it.zero=some z) (hsz:it.size=m) (hby:it.bytes=bytes) (hzs:z.cells.size=m) (hm0:0<m) (hl:l.length+xs.length≤100000000000) (hb6:bytes≤1000)
  (hD':∀ T∈D',T∈D) (hED:E ∉ D) (hxm:∀ x∈xs,x.n=m) (hde:((d != c)&&(d != e)&&(c != e))=true) (hd:d<N) (hcN:c<N) (he:e<N)
  (hsrc:src.all (λ k=>match Γ[k]? with|some y => !y.2.deps.contains E&&Rg.outG ⟨ops,N,Γ,lesN Λ,sp,λ i=>List.range i⟩ y.1|none=>false)=true)
  (hΛ:Λ.all (λ l=>(l.T != E || l.s==s3) && !l.A.deps.contains E&&l.s != d&&l.s != c&&l.s != e)=true)
  (hQ:∀ a w,St B w0 N ((e,M2)::src.filterMap (λ k=>Γ[k]?)) Λ a w→Q .normal a w):(Code.region id ops false).wp P Q a w:=by
 have hles0:∀ y∈lesN Λ,y.cr=none∧y.st=none∧(⟨y.s,y.T,y.H,y.A0⟩:Lc)∈Λ:=λ y hy=>by
  obtain ⟨l',hl',rfl⟩:=qq.1 hy;exact ⟨rfl,rfl,hl'⟩
 refine Rg.linK (R:=⟨ops,N,Γ,lesN Λ,sp,λ i=>List.range i⟩) (m:=3) hn2 G hk h (λ y hy _=>(hles0 y hy).2.2) (λ i hi=>hob.all i zo zo) λ a1 w1 hinv=>?_;have hcl:∀ deps,Rg.clash ⟨ops,N,Γ,lesN Λ,sp,λ i=>List.range i⟩ (λ k=>decide (k<n)) deps=false:=λ deps=>by
  unfold Rg.clash;rw [xu];intro y hy;rw [(hles0 y hy).2.1];simp
 obtain ⟨hbw,hB,hv⟩:=hinv.v i1 _ s _ h1 rfl (qG hi1) (hcl _);have hout:∀ t,Rg.outG ⟨ops,N,Γ,lesN Λ,sp,λ i=>List.range i⟩ t=true→∀ q,q<ops.size→Rg.dst ⟨ops,N,Γ,lesN Λ,sp,λ i=>List.range i⟩ q≠some t:=λ t ht q hq=>by
  have:=qe.1 ht q (by simpa using hq);simpa using this
 obtain ⟨g3,hg3,hlt3⟩:=hinv.g _ (qa h3) (λ q hq hdq=>absurd hdq (hout _ ho3 q hq)) (hcl _);have hu:=hA2 _ _ (hinv.v i2 _ u _ h2 rfl (qG hi2) (hcl _)) hinv.base;obtain ⟨v',w',hr,r1,r2,r3⟩:=gc (T1:=T1) hS hi hz hsz hby hzs hm0 hl hb6 hv hu hD' hED hxm hbw hB;have hdsz:d<a1.tmps.size:=by rw [hinv.size];exact hd
 simp only [ql,bne_iff_ne] at hde;obtain ⟨⟨hdc,hde⟩,hce⟩:=hde;have hlc:∀ l'∈Λ,(l'.T≠E∨l'.s=s3)∧E ∉ l'.A.deps∧l'.s≠d∧l'.s≠c∧l'.s≠e:=λ l' hl'=>by
  have:=qe.1 hΛ l' hl';simp only [ql,z4,xv,bne_iff_ne,qy,qB,qm] at this;exact ⟨this.1.1.1.1,this.1.1.1.2,this.1.1.2,this.1.2,this.2⟩
 have hcur:∀ l'∈Λ,(⟨l'.s,l'.T,l'.H,none,l'.A,none⟩:Le)∈lesN Λ:=λ l' hl'=>qq.2 ⟨l',hl',rfl⟩;have hsr:∀ y∈src.filterMap (λ k=>Γ[k]?),E ∉ y.2.deps∧y.1≠d∧y.1≠c∧y.1≠e∧y.2.p B (a1.eval (.tmp y.1)) w1:=λ y hy=>by
  obtain ⟨k,hk1,hk2⟩:=qR.1 hy;have hs:=qe.1 hsrc k hk1;simp only [hk2,ql,qy,qB,qm] at hs;have ho:=hout y.1 hs.2;exact ⟨hs.1,λ e1=>ho n zo (by unfold Rg.dst;rw [ho1,e1];rfl),λ e1=>ho (n+1) zo (by unfold Rg.dst;rw [ho2,e1];rfl),λ e1=>ho (n+2) zo (by unfold Rg.dst;rw [ho9,e1];rfl),hinv.g y (qa hk2) (λ q hq hdq=>absurd hdq (ho q hq)) (hcl _)⟩
 have U:St B w0 N ((d,OwnB b E m D (l++xs))::src.filterMap (λ k=>Γ[k]?)) Λ (a1.put (some d) v') w':=by
  refine ⟨hinv.lo,hinv.defers.grown r2 r3 rfl,by rw [size_put];exact hinv.size,?_,?_,?_,?_⟩
  ·exact ⟨r2.os.trans hinv.base.os,r2.tape.trans hinv.base.tape,r2.output.trans hinv.base.output,qf hinv.base.size r2.size,λ k hk hf =>
    (r2.block k (qD hk hinv.base.size) (λ e=>by have:=(r3 k e.symm).1;omega)).trans (hinv.base.block k hk hf)⟩
  ·intro y hy;rcases qr.1 hy with rfl|hy
   ·show (OwnB b E m D (l++xs)).p B ((a1.put (some d) v').eval (.tmp d)) w';rw [aM _ _ _ hdsz];exact ⟨qf hbw r2.size,hB,r1⟩
   ·obtain ⟨q1,q2,_,_,q5⟩:=hsr y hy;rw [an _ _ _ _ q2];exact VA.grown q5 r2 r3 hB q1
  ·intro l' hl';obtain ⟨g1,g2,g3,_⟩:=hlc l' hl';obtain ⟨g,cs,e1,e2,e3,e4⟩:=hinv.c _ (hcur l' hl') l'.A rfl;refine ⟨g,cs,by rw [an _ _ _ _ g3];exact e1,e2,?_,As.grown e4 r2 r3 hB g2⟩;rw [r2.block g (Array.getElem?_eq_some_iff.1 e3).1 (λ e5=>by
    obtain ⟨h8,c,fz,e6⟩:=r3 g e5.symm;rcases g1 with g1|g1
    ·rw [e3] at e6;injection e6 with e6;injection e6 with _ e6 _;exact g1 e6
    ·rw [← g1,e1,l'.H.ok] at hg3;injection hg3 with hg3;omega)]
   exact e3
  ·intro l1 hl1 l2 hl2 hne';obtain ⟨_,_,g3,_⟩:=hlc l1 hl1;obtain ⟨_,_,g5,_⟩:=hlc l2 hl2;rw [an _ _ _ _ g3,an _ _ _ _ g5];exact hinv.x _ (hcur l1 hl1) _ (hcur l2 hl2) hne' G rfl
 rw [List.range'_succ,qx];refine bA (R:=⟨ops,N,Γ,lesN Λ,sp,λ i=>List.range i⟩) ho1 G (bf (w':=w') (v:=v') (by simp [execOp,resolve,invoke,builtin,hr,Result.andThen]) ?_);rw [List.range'_succ,qx];refine bA (R:=⟨ops,N,Γ,lesN Λ,sp,λ i=>List.range i⟩) ho2 G ?_;obtain ⟨⟨fn,hf,hn,hb⟩,hcall⟩:=hcn;have hrun:=Bb (P:=P) (w:=w') (a:=a1.put (some d) v') (d:=c) (T:=T2) (ps:=ps2) (af:=af2) (gd:=none) (at_:=at_) (xs:=[.tmp d]) hf hn hb
 unfold Oper.wp;rw [show (#[Operand.tmp d]:Array Operand)=[Operand.tmp d].toArray from rfl,hrun];have hm1:M1.p B ((a1.put (some d) v').eval (.tmp d)) w':=hM _ _ _ (U.vals _ (xw ..));have hBw:B≤w'.heap.size:=qf (qf hB hbw) r2.size;refine (hcall B w' [(a1.put (some d) v').eval (.tmp d)] hBw (.cons hm1 .nil)).mono λ ex w2 ⟨v2,he2,hp2,hg2⟩=>?_;subst he2;have hst2:=U.putV (v:=v2) (M:=M2) hcN hg2 hp2 (λ y hy=>by
  rcases qr.1 hy with rfl|hy
  ·exact hdc
  ·exact (hsr y hy).2.2.1) (λ l' hl'=>(hlc l' hl').2.2.2.1)
 have hst3:=St.putV hst2 (c:=e) (v:=v2) (M:=M2) he (Grow.refl w2) hp2 (λ y hy=>by
  rcases qr.1 hy with rfl|hy
  ·exact hce
  ·rcases qr.1 hy with rfl|hy
   ·exact hde
   ·exact (hsr y hy).2.2.2.1) (λ l' hl'=>(hlc l' hl').2.2.2.2)
 show wpOps P ops Q ((n+1+1)::List.range' (n+1+1+1) 0) ((a1.put (some d) v').put (some c) v2) w2;rw [qx];have hcsz:c<(a1.put (some d) v').tmps.size:=by rw [size_put,hinv.size];exact hcN
 refine bA (R:=⟨ops,N,Γ,lesN Λ,sp,λ i=>List.range i⟩) ho9 G (bf (w':=w2) (v:=v2) ?_ (hQ _ _ ?_))
 ·have:=aM (a1.put (some d) v') c v2 hcsz;simp [execOp,this]
 ·exact ⟨hst3.lo,hst3.defers,hst3.size,hst3.base,λ y hy=>hst3.vals y (by
   rcases qr.1 hy with rfl|hy
   ·exact xw ..
   ·exact zr _ (zr _ (zr _ hy))),hst3.locs,hst3.dis⟩
section
variable {P:Program}{R:Rg}{Q:Exit→Act→World→Prop}{B i:Nat}{w0:Bs}
theorem Jm {A:VA}{f:Yn}{As:Yc}{mk:Nat→VA}{at_:Yr}(hc:CnI P f As mk)(hw:∀ n,w0.w.heap.size≤n→Wk (mk n) A)(hx:HasL R B w0 i xs As):Wv P Q R B w0 i (.call ⟨.value (.func f),xs.toArray,at_⟩) A:=by
 intro d T ps af gd a w av K hK;obtain ⟨⟨fn,hf,hn,hb⟩,hcall⟩:=hc;have hrun:(execOp a.eval ⟨some d,.call ⟨.value (.func f),xs.toArray,at_⟩,T,ps,af,gd⟩).run P w=.ok (.enter f (xs.map a.eval).toArray) w:=by
  simp only [execOp,resolve,Act.eval,Deferred.ofValue,Sem.run_bind,Sem.run_pure,Result.andThen_ok,invoke,bi hf hn hb];simp
 unfold Oper.wp;rw [hrun];exact (hcall B w _ (Av.bw av) (hx.all av)).mono λ e w' ⟨v,he,hv,hg⟩=>by subst he;exact hK v w' hg (hw _ av.base.size _ _ _ hv)
end
theorem Fp {b b':Nat}(h:b≤b'):Wk (MgB b' l).va (MgB b l).va:=λ _ _ _ hp=>Ch (rK _ _ _ hp) λ g hg=>qf h (rJ hp g hg)
theorem Fd (ok:okL l):Wk (OwnB b U32 1 [] (NL l)) (MgB b l).va:=λ B v w h=>BW ok B v w h.2.2
theorem rP {D:Nat}(h:(aA D).length=1):(aA D)[0]'zo=D:=by
 have h1:=eX (l:=aA D) (j:=0) zo;rw [xk,aI,zG zo] at h1;simp at h1;exact h1.symm
theorem AG {x:Nat}(h:x<4294967296):bx [x]=aA x:=by
 rw [dD (fc h)];simp [val]
theorem AH {x R:Nat}(h:x<4294967296):bx (x::aA R)=aA (R*4294967296+x):=by
 rw [dD (λ y hy=>by
  rcases qr.1 hy with rfl|hy
  ·exact h
  ·exact (bm _).1 y hy)]
 show aA (x+4294967296*val (aA R))=_;rw [aI]
 congr 1
 omega
theorem cm_lt0 {X Y:Nat}:cmL (aA X) (aA Y)<0↔X<Y:=by
 rw [fV];split
 ·omega
 ·split <;> omega
theorem J2 (hl:okL l)(hd:0<d)(hj:j<l.length)(h:val (l.drop (j+1))%d*4294967296+l[j]<d):rsSt l d (j+1)=rsSt l d j:=by
 rw [← sM hl hd hj,xK h];unfold rsSt;rw [je,qP,fH _ _ _ _ (by simp)]
 rfl
theorem St.rowV (h:St B w0 N Γ Λ a w){s T:Nat}(e:Nat)(he:Λ[e]?=some ⟨s,T,H,A⟩):∃ v g,blk v=some g∧w0.may g∧g<w.heap.size∧St B w0 N ((s,EqV v)::Γ) Λ a w:=by
 obtain ⟨g,cs,e1,e2,e3,e4⟩:=h.locs _ (qa he);exact ⟨a.eval (.tmp s),g,by rw [e1];exact H.ok g,e2,(Array.getElem?_eq_some_iff.1 e3).1,h.lo,h.defers,h.size,h.base,λ x hx=>by
  rcases qr.1 hx with rfl|hx
  ·exact rfl
  ·exact h.vals x hx,h.locs,h.dis⟩
theorem St.ownT (h:St B w0 N Γ Λ a w){s s3 go:Nat}{v8:Yo}(k k8:Nat)(hm:Γ[k]?=some (s,EqV (.slice none 0 0)))(h8:Γ[k8]?=some (s3,EqV v8))(hv:blk v8=some go)(hlt:go<w0.w.heap.size):
  ∃ b,w0.w.heap.size≤b∧go<b∧St B w0 N (Γ.set k (s,OwnB b E m D [])++[(s3,LO b)]) Λ a w:=by
 refine ⟨w.heap.size,h.base.size,qD hlt h.base.size,h.lo,h.defers,h.size,h.base,λ x hx=>?_,h.locs,h.dis⟩;rcases qo.1 hx with hx|hx
 ·rcases qA hx with hx|rfl
  ·exact h.vals x hx
  ·exact ⟨qi _,qf (h.lo _ (.inl (qi _))) h.base.size,mJ _ _ _ (h.vals _ (qa hm))⟩
 ·obtain rfl:=qn.1 hx;have e:a.eval (.tmp s3)=v8:=h.vals _ (qa h8);exact ⟨go,by show blk (a.eval (.tmp s3))=_;rw [e];exact hv,qD hlt h.base.size⟩
structure Rs (B:Nat) (w0:Bs) (w:World) (v:Value) (l:List Nat) (go:Nat):Prop where
 mg:(MgA l).va.p B v w
 ne:blk v≠some go
 may:w0.may go
 lt:go<w.heap.size
theorem HK {x V D:Nat}(hD:0<D)(hx:x<4294967296):V%D*4294967296+x<D*4294967296:=by
 have h1:=qW V hD;have h2:(V%D+1)*4294967296≤D*4294967296:=qJ _ h1;omega
theorem NH {D x:Nat}(h:x<D*4294967296):(aA x).length≤(aA D).length+1:=by
 have h1:=cz (n:=D) (qi _);refine ez (qD h ?_);rw [zi];exact qJ _ (xb h1)
theorem sub_mod' {a b:Nat}:a-b*(a/b)=a%b:=by
 have:=x3 a b;omega
set_option maxHeartbeats 1000000 in
theorem By {D:Nat}(l:Ya)(hD:0<D)(hls:l.length≤1000000000)(hds:(aA D).length≤1000000000):Cn Tryz.prog 262 [(MgA l).va,(MgA (aA D)).va] (Tu [(MgA (aA (val l/D))).va,(MgA (aA (val l%D))).va]):=by
 obtain ⟨it,z,e1,e2,e3,e4,e5⟩:=nr;refine Cn.introD Tryz.func262 G zk nq (λ B w0 a hF0 hnd hF U=>?_);have U:=zn [(0,(MgA l).va),(1,(MgA (aA D)).va)] [] U;obtain ⟨v0,hv0,U⟩:=U.eqv 0 rfl;obtain ⟨v1,hv1,U⟩:=U.eqv 1 rfl;have hl:=(eD hv0).1;have hokD:=(eD hv1).1;refine qb<|zh (W6 4) Ro U (zv G (aR aX) (zE G aX)) (zz WW [] ?_);refine ztA<|zsA<|zhA (Wb 13) RZ (zM 1 G (zv G (aK qd (aV hF hv1 (vq 0 G))) (zv G (bC (vq 1 G) ab) o0))) (zz (W8 0 1 4 5 15) [] λ a w U=>?_);refine zJ 4 U G (λ hb0=>?_) (λ hb0=>?_)
 ·have hlen:(aA D).length=1:=by simp at hb0;omega
  have hd0:=rP hlen;refine qb<|zh (Wd 17 (.v 16 _::(W6 22 (W6 6)))) (Wp [.o 8,.o 9]) U (zM 0 G (zM 1 G (zv G (bO bc (aV hF hv1 (vq 1 G)) (aF 0 G) zo) (zv G (ao (vq 2 G) aO) (zQ G (um l ((aA D)[0]'zo) zo (by rw [hd0];exact hD) (hokD _ (qg _))) (.p (aV hF hv0 (vq 0 G)) (vq 3 G)) (zV 4 G (zv G (aQ (vq 5 G) G) (zv G (aQ (vq 5 G) G) (zA 6 G (zA 7 G o0)))))))))) (zz (Wj 0 1 4 5 6 7) [] ?_);refine ztA<|zhA (Ww 24 (W6 4)) (We [.o 4,.o 5]) (zM 4 G (zM 5 G (zv G (dF (l:=[_]) (xs:=[.tmp 25]) bc zk nq nq ((fc (zD (qW _ (by rw [hd0];exact hD)) (hokD _ (qg _))))) (.o (vq 1 G)) G G) (zQ G (eE famA _) (.o (vq 2 G)) (zA 0 G (zA 3 G o0)))))) (zz WW [] λ a w U=>?_);refine aa<|qh<|aj ?_;refine al ?_ (aP (rs:=[.tmp 4,.tmp 5]) G U (.tmp (zm 2 G) (.tmp (zm 3 G) .nil)) zd);rw [hd0];exact tu2w rc (ba (qp (λ l=>(MgA l).va) (AG (zD (qW _ hD) (by rw [← hd0];exact hokD _ (qg _))))))
 ·refine qj<|zt<|dz (sts:=[]) (news:=[⟨30,138,slH _ _,some 2,_,none⟩]) (sp:=[.v 28 _,.v 29 _,.alc 0,.adr 8 30 .none True]) [.g 0,.g 1,.g 2,.g 3] [(8,30)] [zpH 8 138 _] U (zM 0 G (zv G (aK qd (aV hF hv0 (vq 0 G))) (oc (eF G G G fA (vq 1 G) (vq 1 G) zo) (oc (ob_a G G nB) o0)))) zk zk zk ⟨⟨3,rfl⟩,trivial⟩ G zk (zz WW [zpH 8 138 _] ?_);refine ztA<|zgA U4 [] [.v 9 _] Ut (zE G aX) (zz (W8 0 1 4 5 9) [zpH 8 138 _] ?_);refine ztA<|zsA<|zgA U4 [] (Wb 31 [.v 10 _]) (Wi [.o 3]) (zM 0 G (zv G (aK qd (aV hF hv0 (vq 0 G))) (zv G (cH (vq 1 G) ab (wi64 zo zo)) (zA 2 G o0)))) (zz (Wj 0 1 4 5 9 10) [zpH 8 138 _] λ a w U=>?_);obtain ⟨v8,go,hv8,hm8,hl8,U⟩:=U.rowV 0 rfl;refine aa<|qk ?_;have U:=U.sel [1,2,0,5,6];refine wp_loop_ghost (λ n a w=>∃ (v9 v8:Value) (go:Nat),(n≤l.length∧Rs B w0 w v9 (aA (val (l.drop n)%D)) go∧blk v8=some go)∧St B w0 68 [(0,EqV v0),(1,EqV v1),(8,EqV v8),(9,EqV v9),(10,In ((n:Int)-1))] [⟨8,138,slH l.length l.length,Nums .u32 (rsSt l D n)⟩] a w) (l.length) ?_ ?_
  ·exact ⟨_,v8,go,⟨qi _,⟨by rw [show aA (val (l.drop l.length)%D)=[] from by simp [bE]];exact ⟨_,fN B _,rfl⟩,(by intro e;cases e),hm8,hl8⟩,hv8⟩,by rw [nT];exact U⟩
  intro n a w hI;clear hv8 hm8 hl8;obtain ⟨v9,v8,go,⟨hn,hR,hv8⟩,U⟩:=hI;have hk0:∀ w',Kept (now w go) w'→(MgA l).va.p B v0 w':=λ w' hk=>(MgA l).va.cg _ _ _ _ (hF.cg (U.base.trans1 hR.may hk)) hv0;have hk1:∀ w',Kept (now w go) w'→(MgA (aA D)).va.p B v1 w':=λ w' hk=>(MgA (aA D)).va.cg _ _ _ _ (hF.cg (U.base.trans1 hR.may hk)) hv1;have hk9:∀ w',Kept (now w go) w'→(MgA (aA (val (l.drop n)%D))).va.p B v9 w':=λ w' hk=>Cf hR.mg hR.ne hk;have hback:∀ {Γ:List (Nat × VA)}{Λ:List Lc}{a:Act}{w':World},St B (now w go) 68 Γ Λ a w'→St B w0 68 Γ Λ a w':=λ h=>h.back U.lo U.base hR.may;have hlt1:go<(now w go).w.heap.size:=hR.lt;have U:=U.rebase hnd hR.may (λ m hm=>by
   obtain rfl:=qn.1 hm;have e:a.eval (.tmp 8)=v8:=U.vals _ (zm 2 rfl);show blk (a.eval (.tmp 8))=_;rw [e];exact hv8)
  have hnd1:(now w go).nd=true:=rfl;have hmay1:(now w go).may go:=.inr rfl;generalize now w go=W1 at U hk0 hk1 hk9 hback hlt1 hnd1 hmay1;refine qb<|qb<|zg U6 [] (W6 34) U8 U (zM 4 G (zv G (dP (vq 0 G) ab) o0)) (λ a w U=>?_);have U:St B W1 68 [(0,_),(1,_),(8,_),(9,_),(10,_),(35,_)] [zpH 8 138 _] a w:=U;refine zJ 5 U G (λ hb1=>?_) (λ hb1=>?_)
  ·obtain ⟨j,rfl⟩:∃ j,n=j+1:=⟨n-1,by simp at hb1;omega⟩;rw [show ((j+1:Nat):Int)-1=(j:Int) from by omega] at U;have hj:j<l.length:=by omega
   have hx:=hl _ (qg hj);have hmd:=qW (val (l.drop (j+1))) hD;refine qj<|zt<|qk<|qb<|zg U6 [] [.v 11 _] U7 U (zE G aX) (λ a w U=>?_);have U:St B W1 68 [(0,_),(1,_),(8,_),(9,_),(10,_),(11,_)] [zpH 8 138 _] a w:=U;refine zt ?_;obtain ⟨b,hwb,hgb,U⟩:=St.ownT (E:=U32) (m:=1) (D:=[]) U 5 2 rfl rfl hv8 hlt1;refine KQ (sp:=[.v 38 _,.v 39 _,.v 40 _,.v 41 _,.v 42 _,.v 43 _,.v 44 VT,.v 11 VT]) 6 [0,1,2,3,4,6] 0 5 6 U (zM 5 rfl (zM 0 rfl (zM 4 rfl (zv rfl (bO bc (iC hk0 (vq 1 rfl)) (vq 2 rfl) hj) (zv rfl (ao (vq 3 rfl) aO) (zv rfl (dF (l:=[_]) (xs:=[.tmp 42]) bc zk nq nq ((fc hx)) (.o (vq 4 rfl)) rfl rfl) o0)))))) rfl zk rfl rfl zd rfl zd rfl rfl zk hwb (λ _ _ h _=>(eD h).2) qd e1 e2 e3 e4 e5 zd (by simp) zd (λ T hT=>hT) zd (λ A hA=>by obtain ⟨_,_,rfl⟩:=qq.1 hA;rfl) zk nq nq zk zk (λ a w U=>?_);have U:St B W1 68 [(11,_),(0,_),(1,_),(8,_),(9,_),(10,_),(8,_)] [zpH 8 138 _] a w:=U;refine zt<|KO (sp:=[.v 45 _,.v 46 _,.v 47 VT,.v 48 VT,.v 9 VT]) 2 [1,2,3,5] 0 1 6 (M1:=(MgB b (l[j]::aA (val (l.drop (j+1))%D))).va) (M2:=(MgB b (bx (l[j]::aA (val (l.drop (j+1))%D)))).va) U (zM 0 rfl (zM 4 rfl o0)) rfl zk rfl rfl rfl (eE (famB b) _) (Fd (l:=l[j]::aA (val (l.drop (j+1))%D)) (okL_cons.2 ⟨hx,(bm _).1⟩)) zd rfl zd rfl rfl zk hwb (D':=[]) (xs:=NL (aA (val (l.drop (j+1))%D))) (λ w u e k=>by have e':u=v9:=e;rw [e'];exact (eD (hk9 w k)).2) qd e1 e2 e3 e4 e5 zd (by simp only [qu,qc,xo,z7];have:=cE (xb hmd);omega) zd (λ T hT=>hT) zd (λ A hA=>by obtain ⟨_,_,rfl⟩:=qq.1 hA;rfl) zk nq nq nq zk zk (λ a w U=>?_);have U:St B W1 68 [(9,_),(0,_),(1,_),(8,_),(10,_)] [zpH 8 138 _] a w:=U;have U:=St.wkG (A':=(MgB b (aA ((val (l.drop (j+1))%D)*4294967296+l[j]))).va) U 0 rfl (ba (qp (λ l=>(MgB b l).va) (AH hx)));refine zt<|qb<|zg U6 [] (Ww 49) (Wi [.o 3]) U (zM 0 G (zM 2 G (zQ G ((rz (aA (val (l.drop (j+1))%D*4294967296+l[j])) (aA D)).wk (.cons rK (.cons aG .nil))) (.p (vq 0 G) (iC hk1 (vq 1 G))) (zv G (aN (vq 2 G) ab) o0)))) (λ a w U=>?_);have U:St B W1 68 [(9,_),(0,_),(1,_),(8,_),(10,_),(52,_)] [zpH 8 138 _] a w:=U;refine zJ 5 U G (λ hb2=>?_) (λ hb2=>?_)
   ·have hq:(val (l.drop (j+1))%D*4294967296+l[j])<D:=cm_lt0.1 (qt hb2);refine qL<|ai<|az<|aa<|zg U6 [] (W6 36 [.v 10 _]) RZ U (zM 4 G (zv G (cH (vq 0 G) ab (wi64 zo zo)) (zA 1 G o0))) (λ a w U=>?_);have U:St B W1 68 [(9,_),(0,_),(1,_),(8,_),(10,_)] [zpH 8 138 _] a w:=U;refine aa ?_;have U:=U.sel [1,2,3,0,4];obtain ⟨v9c,h9c,U⟩:=U.toE 3 rfl;have hne:blk v9c≠some go:=λ e=>by have:=rJ h9c go e;omega
    have hsz:=U.base.size;exact ⟨j,by omega,v9c,v8,go,⟨by omega,⟨by rw [← sN hD hj,zH hq];exact rK _ _ _ h9c,hne,hR.may,by omega⟩,hv8⟩,by have U:=hback U;rw [J2 hl hD hj hq] at U;exact U⟩
   ·have hq:¬ (val (l.drop (j+1))%D*4294967296+l[j])<D:=λ h=>qv hb2 (cm_lt0.2 h);have hsub:(val (l.drop (j+1))%D*4294967296+l[j])-D*((val (l.drop (j+1))%D*4294967296+l[j])/D)=val (aA (val (l.drop (j+1))%D*4294967296+l[j]))-val (aA (val (aA D)*((val (l.drop (j+1))%D*4294967296+l[j])/D))):=by rw [aI,aI,aI]
    have hle:D*((val (l.drop (j+1))%D*4294967296+l[j])/D)≤(val (l.drop (j+1))%D*4294967296+l[j]):=Nat.mul_div_le _ _;have hsl:(aA (val (aA D)*((val (l.drop (j+1))%D*4294967296+l[j])/D))).length≤(aA (val (l.drop (j+1))%D*4294967296+l[j])).length:=by rw [aI];exact cE hle
    have hsv:val (aA (val (aA D)*((val (l.drop (j+1))%D*4294967296+l[j])/D)))≤val (aA (val (l.drop (j+1))%D*4294967296+l[j])):=by rw [aI,aI,aI];exact hle
    have hlen2:(aA (val (l.drop (j+1))%D*4294967296+l[j])).length≤1000000001:=qf (NH (HK hD hx)) zo;refine qj<|zt<|zg U6 [] (Wb 53 [.v 12 _]) (Wi [.o 3]) U (zM 0 G (zM 2 G (zQ G ((My (R:=(val (l.drop (j+1))%D*4294967296+l[j])) (D:=D) hD (HK hD hx) zo).wk (.cons rK (.cons aG .nil))) (.p (vq 0 G) (iC hk1 (vq 1 G))) (zA 2 G o0)))) (λ a w U=>?_);have U:St B W1 68 [(9,_),(0,_),(1,_),(8,_),(10,_),(12,_)] [zpH 8 138 _] a w:=U;refine zt ?_;obtain ⟨v9b,h9b,U⟩:=U.toE 0 rfl;have hk0:∀ w',Kept (now w go) w'→(MgA l).va.p B v0 w':=λ w' hk=>hk0 w' (U.base.trans1 hmay1 hk);have hk1:∀ w',Kept (now w go) w'→(MgA (aA D)).va.p B v1 w':=λ w' hk=>hk1 w' (U.base.trans1 hmay1 hk);have hk9:∀ w',Kept (now w go) w'→(MgA (aA (val (l.drop (j+1))%D*4294967296+l[j]))).va.p B v9b w':=λ w' hk=>Cf (rK _ _ _ h9b) (λ e=>by have:=rJ h9b go e;omega) hk;have hback:∀ {Γ:List (Nat × VA)}{Λ:List Lc}{a:Act}{w':World},St B (now w go) 68 Γ Λ a w'→St B w0 68 Γ Λ a w':=λ h=>hback (h.back U.lo U.base hmay1);have hlt1:go<(now w go).w.heap.size:=qD hlt1 U.base.size;have U:=U.rebase hnd1 hmay1 (λ m hm=>by
     obtain rfl:=qn.1 hm;have e:a.eval (.tmp 8)=v8:=U.vals _ (zm 3 rfl);show blk (a.eval (.tmp 8))=_;rw [e];exact hv8)
    have hnd1:(now w go).nd=true:=rfl;have hmay1:(now w go).may go:=.inr rfl;generalize now w go=W2 at U hk0 hk1 hk9 hback hlt1 hnd1 hmay1;refine zg [some (4,_)] [] (.adr 56 8 .none True::(W6 57 [.adr 59 8 (.some _) True,.sto 0])) Wq U (oc (ob_a G G cW) (zM 4 G (zM 5 G (oc (ob_a G G (eU 0 G zk (lz0 0 G) bc (vq 1 G) hj)) (oc (cK 3 G G G G zk (λ _=>cw _ _ _ _) (vq 2 G) aO (bJ (by rw [gf zo];omega))) o0))))) (λ a w U=>?_);have U:St B W2 68 [(9,_),(0,_),(1,_),(8,_),(10,_),(12,_)] [zpH 8 138 _] a w:=U;refine aa<|zg U6 [] (Wd 60 [.v 9 _]) [.g 1,.g 2,.g 3,.g 4,.o 5] U (zM 0 G (zM 2 G (zM 5 G (zQ G (ul (aA D) ((val (l.drop (j+1))%D*4294967296+l[j])/D) zo (EN hD hx)) (.p (iC hk1 (vq 1 G)) (vq 2 G)) (zv G (Jm (Bj (aA (val (l.drop (j+1))%D*4294967296+l[j])) (aA (val (aA D)*((val (l.drop (j+1))%D*4294967296+l[j])/D))) zo hsl hsv) (λ n hn=>Fp hn) (.p (iC hk9 (vq 0 G)) (vq 3 G))) (zA 4 G o0)))))) (λ a w U=>?_);have U:St B W2 68 [(0,_),(1,_),(8,_),(10,_),(9,_)] [zpH 8 138 _] a w:=U;refine ak ?_;refine aa<|zg U6 [] (W6 36 [.v 10 _]) (W7 [.g 4,.o 2]) U (zM 3 G (zv G (cH (vq 0 G) ab (wi64 zo zo)) (zA 1 G o0))) (λ a w U=>?_);have U:St B W2 68 [(0,_),(1,_),(8,_),(9,_),(10,_)] [zpH 8 138 _] a w:=U;refine aa ?_;have U:=U.sel [0,1,2,3,4];obtain ⟨v9c,h9c,U⟩:=U.toE 3 rfl;have hne:blk v9c≠some go:=λ e=>by have:=rJ h9c go e;omega
    have hsz:=U.base.size;exact ⟨j,by omega,v9c,v8,go,⟨by omega,⟨by rw [← sN hD hj,← sub_mod',hsub];exact rK _ _ _ h9c,hne,hR.may,by omega⟩,hv8⟩,by have U:=hback U;rw [sM hl hD hj] at U;exact U⟩
  ·obtain rfl:n=0:=by simp at hb1;omega
   have h9:=hk9 _ U.base;have U:=hback U;have U:=U.eqF 3 rfl h9;refine qL<|ai<|ai<|az<|zt<|zg U6 [] (.adr 65 8 .none True::(W6 66 (W6 4))) [.g 2,.o 3,.o 4] U (oc (ob_a G G cW) (zQ G (eE famN _) (.o (iB 0 G zk (lz0 0 G) ⟨by rw [gf (zx _)],qi _,by unfold maxLen;omega,Bk⟩ (by rw [gf (zx _)]))) (zM 3 G (zA 1 G (zA 2 G o0))))) (zz (Wa 8 4 5) [zpH 8 138 _] λ a w U=>?_);refine aa<|qh<|al ?_ (aP (rs:=[.tmp 4,.tmp 5]) G U (.tmp (zm 1 G) (.tmp (zm 2 G) .nil)) zd);rw [H3 hl,xk];exact tu2w rc aG
theorem Ee {l m:Ya}(hl:okL l)(hm:okL m):val (digs (addN l m) (val l+val m))=val l+val m:=by
 rw [dU,zH];unfold addN;split
 ·assumption
 ·exact GT hl hm
theorem EO {a b:Int}(h:((riOf a).neg==(riOf b).neg)=true):(RIA (rsig (riOf a).neg (digs (addN (riOf a).mag (riOf b).mag) (val (riOf a).mag+val (riOf b).mag)))).va=Zi (a+b):=by
 have h':decide (a<0)=decide (b<0):=by simpa [riOf] using h
 rw [cj (bY _ _) (z:=a+b) (by rw [Ee (oU a) (oU b),bF,bF];simp only [qU] at h';omega) (λ hz=>by show decide (a<0)=_;simp only [qU] at h' ⊢;omega)]
theorem cm_ge0 {X Y:Nat}:cmL (aA X) (aA Y)≥0↔Y≤X:=by
 rw [fV];split
 ·omega
 ·split <;> omega
theorem oH {a b:Int}(h:decide (cmL (riOf a).mag (riOf b).mag≥0)=true):b.natAbs≤a.natAbs:=cm_ge0.1 (qt h)
theorem oG {a b:Int}(h:decide (cmL (riOf a).mag (riOf b).mag≥0)=false):a.natAbs≤b.natAbs:=xb (ji λ h2=>qv h (cm_ge0.2 h2))
theorem Fn {p q:Int}(h:p*q≠0):(decide (p<0) != decide (q<0))=decide (p*q<0):=by
 have hp:p≠0:=λ e=>h (by rw [e,Int.zero_mul]);have hq:q≠0:=λ e=>h (by rw [e,vu]);rcases Int.lt_or_le p 0 with h1|h1 <;> rcases Int.lt_or_le q 0 with h2|h2
 ·have:=vc h1 h2;rw [qG h1,qG h2,zT zo];rfl
 ·have:=jX h1 (show 0<q by omega);rw [qG h1,zT (show ¬ q<0 by omega),qG this];rfl
 ·have:=jW (show 0<p by omega) h2;rw [zT (show ¬ p<0 by omega),qG h2,qG this];rfl
 ·have:=vF (show 0<p by omega) (show 0<q by omega);rw [zT (show ¬ p<0 by omega),zT (show ¬ q<0 by omega),zT zo];rfl
theorem EL {p q:Int}:(RIA (rsig ((riOf p).neg != (riOf q).neg) (aA (val (riOf p).mag*val (riOf q).mag)))).va=Zi (p*q):=qp (λ x=>(RIA x).va) (cj (bm _).1 (z:=p*q) (by rw [aI,bF,bF,jS]) Fn)
theorem MJ {p q:Int}:(RIA (rsig ((riOf p).neg != (riOf q).neg) (aA (val (riOf p).mag/q.natAbs)))).va=Zi (p.tdiv q):=qp (λ x=>(RIA x).va) (cj (bm _).1 (z:=p.tdiv q) (by rw [aI,bF,m6]) wJ)
theorem MI {p q:Int}:(RIA (rsig (riOf p).neg (aA (val (riOf p).mag%q.natAbs)))).va=Zi (p.tmod q):=qp (λ x=>(RIA x).va) (cj (bm _).1 (z:=p.tmod q) (by rw [aI,bF,iq]) pf)
theorem un (p q:Int)(hp:lz p≤1000000000)(hq:lz q≤1000000000):Cn Tryz.prog 229 [Zi p,Zi q] (Zi (p+q)):=by
 refine Cn.intro Tryz.func229 G zk nq (zy [(0,Zi p),(1,Zi q)] λ B w0 a U=>?_);refine qb<|zg [] Ul Um [] U (zW 0 G (zW 1 G (zY G (Str.zero bu) o0))) (zz [] Un ?_);refine ztA<|zsA<|zgA Uo [] (.adr 5 2 (.some 0) True::.v 6 _::.adr 7 3 (.some 0) True::(W6 8)) UP (zO 0 G aY (zL 0 0 0 G ty_4 (zO 1 G aY (zL 2 1 0 G ty_4 (zv G (BB zk (vq 1 G) (vq 3 G)) o0))))) (zz [(9,_)] Un λ a w U=>?_);refine zJ 0 U G (λ hb0=>?_) (λ hb0=>?_)
 ·refine qb<|zgd UQ UR [] (.adr 10 2 (.some 0) True::.v 11 _::.adr 12 2 (.some 1) True::.v 13 _::.adr 14 3 (.some 1) True::(Wb 15 [.sto 2])) [] ac U (zO 0 G aY (zL 0 0 0 G ty_4 (zO 0 G ar (zL 2 0 1 G bb (zO 1 G ar (zL 4 1 1 G bb (zQ G (MP _ _ (qf hp zd) (qf hq zd)) (.p (vq 3 G) (vq 5 G)) (zQ G (cy _ _) (.p (vq 1 G) (vq 6 G)) (zS 7 G ap o0))))))))) zk zk zk zk (zz [] Un λ a w U=>?_);refine aa<|qh<|aj ?_;refine al ?_ (au G U (zm 2 G) ap);exact ba (EO hb0)
 ·refine qj<|zt<|qb<|zg US [] (.adr 18 2 (.some 1) True::.v 19 _::.adr 20 3 (.some 1) True::(Wb 21)) [.o 5] U (zO 0 G ar (zL 0 0 1 G bb (zO 1 G ar (zL 2 1 1 G bb (zQ G (rz _ _) (.p (vq 1 G) (vq 3 G)) (zv G (dP (vq 4 G) ab) o0)))))) (zz [(23,_)] Un λ a w U=>?_);refine zJ 0 U G (λ hb1=>?_) (λ hb1=>?_)
  ·refine qb<|zgd UQ UR [] (.adr 24 2 (.some 0) True::.v 25 _::.adr 26 2 (.some 1) True::.v 27 _::.adr 28 3 (.some 1) True::(Wb 29 [.sto 2])) [] ac U (zO 0 G aY (zL 0 0 0 G ty_4 (zO 0 G ar (zL 2 0 1 G bb (zO 1 G ar (zL 4 1 1 G bb (zQ G (Bh _ _ (qf hp zd) (cE (oH hb1)) (by show val (aA _)≤val (aA _);rw [aI,aI];exact oH hb1)) (.p (vq 3 G) (vq 5 G)) (zQ G (cy _ _) (.p (vq 1 G) (vq 6 G)) (zS 7 G ap o0))))))))) zk zk zk zk (zz [] Un λ a w U=>?_);refine aa<|qh<|aj ?_;refine al ?_ (au G U (zm 2 G) ap);exact ba (BR hb0 (oH hb1))
  ·refine qj<|zt<|zgd UQ UR [] (.adr 32 3 (.some 0) True::.v 33 _::.adr 34 3 (.some 1) True::.v 35 _::.adr 36 2 (.some 1) True::(Wb 37 [.sto 2])) [] ac U (zO 1 G aY (zL 0 1 0 G ty_4 (zO 1 G ar (zL 2 1 1 G bb (zO 0 G ar (zL 4 0 1 G bb (zQ G (Bh _ _ (qf hq zd) (cE (oG hb1)) (by show val (aA _)≤val (aA _);rw [aI,aI];exact oG hb1)) (.p (vq 3 G) (vq 5 G)) (zQ G (cy _ _) (.p (vq 1 G) (vq 6 G)) (zS 7 G ap o0))))))))) zk zk zk zk (zz [] Un λ a w U=>?_);refine aa<|qh<|al ?_ (au G U (zm 2 G) ap);exact ba (BQ hb0 (oG hb1))
theorem rx (p q:Int)(hp:lz p≤1000000000)(hq:lz q≤1000000000):Cn Tryz.prog 197 [Zi p,Zi q] (Zi (p-q)):=by
 refine Cn.intro Tryz.func197 G zk nq (zy [(0,Zi p),(1,Zi q)] λ B w0 a U=>?_);refine qb<|zg [] Ul Um [] U (zW 0 G (zW 1 G (zY G (Str.zero bu) o0))) (zz [] Un λ a w U=>?_);refine zt<|zgd [[],[],[1],[0,1,2],(Wm 4)] [none,none,some (4,_)] [] (Ww 5 [.sto 2]) [] ac U (zl 0 G ap (zl 1 G ap (zQ G (Bc q) (.o (vq 1 G)) (zQ G (un p (-q) hp (by rw [lK];exact hq)) (.p (vq 0 G) (vq 2 G)) (zS 3 G ap o0))))) zk zk zk zk (zz [] Un λ a w U=>?_);refine aa<|qh<|al ?_ (au G U (zm 2 G) ap);exact ba (qp Zi Int.sub_eq_add_neg.symm)
theorem Be (p q:Int)(hp:lz p≤1000000000)(hq:lz q≤1000000000):Cn Tryz.prog 198 [Zi p,Zi q] (Zi (p*q)):=by
 refine Cn.intro Tryz.func198 G zk nq (zy [(0,Zi p),(1,Zi q)] λ B w0 a U=>?_);refine qb<|zg [] Ul Um [] U (zW 0 G (zW 1 G (zY G (Str.zero bu) o0))) (zz [] Un λ a w U=>?_);refine zt<|zgd [[],[0],[],[2],(Wm 4),[],[5],[],[7],[5,6,7,8],(Wm 10),(Wm 11)] RB [] (.adr 5 2 (.some 0) True::.v 6 _::.adr 7 3 (.some 0) True::(W6 8 (.adr 10 2 (.some 1) True::.v 11 _::.adr 12 3 (.some 1) True::(Wb 13 [.sto 2])))) [] ac U (zO 0 G aY (zL 0 0 0 G ty_4 (zO 1 G aY (zL 2 1 0 G ty_4 (zv G (mE zk (vq 1 G) (vq 3 G)) (zO 0 G ar (zL 5 0 1 G bb (zO 1 G ar (zL 7 1 1 G bb (zQ G ((Bn _ _ (qf hp zd) (qf hq zd)).wkp rc) (.p (vq 6 G) (vq 8 G)) (zQ G (cy _ _) (.p (vq 4 G) (vq 9 G)) (zS 10 G ap o0)))))))))))) zk zk zk zk (zz [] Un λ a w U=>?_);refine aa<|qh<|al ?_ (au G U (zm 2 G) ap);exact ba EL
theorem nU (p q:Int)(hq0:q≠0)(hp:lz p≤1000000000)(hq:lz q≤1000000000):Cn Tryz.prog 246 [Zi p,Zi q] (Tu [Zi (p.tdiv q),Zi (p.tmod q)]):=by
 refine Cn.intro Tryz.func246 G zk nq (zy [(0,Zi p),(1,Zi q)] λ B w0 a U=>?_);refine qb<|zg [] [zpL 2 26 0 _,zpL 3 26 1 _,zpL 4 26 2 _,zpL 5 26 3 _] [.alc 0,.alc 1,.alc 2,.alc 3] [] U (zW 0 G (zW 1 G (zY G (Str.zero bu) (zY G (Str.zero bu) o0)))) (zz [] Rp ?_);refine ztA<|zgA Uq [] (.adr 9 2 (.some 1) True::.v 10 _::.adr 11 3 (.some 1) True::(W6 12 (.v 8 _::(W6 14 (W6 6))))) [.o 8,.o 9] (zO 0 G ar (zL 0 0 1 G bb (zO 1 G ar (zL 2 1 1 G bb (zQ G (By (D:=q.natAbs) (riOf p).mag zo hp hq) (.p (vq 1 G) (vq 3 G)) (zV 4 G (zv G (aQ (vq 5 G) G) (zv G (aQ (vq 5 G) G) (zA 6 G (zA 7 G o0)))))))))) (zz (Wc 6 7) Rp λ a w U=>?_);refine zt<|zgd [[],[0],[],[2],(Wm 4),[],(Wm 6),[],[7],[],(Wm 10),(Wm 11),(Wm 12)] [none,none,some (11,_),some (12,_)] [] (.adr 16 2 (.some 0) True::.v 17 _::.adr 18 3 (.some 0) True::(Ww 19 (.adr 23 2 (.some 0) True::(Wb 24 [.sto 2,.sto 3])))) [] ac U (zO 0 G aY (zL 0 0 0 G ty_4 (zO 1 G aY (zL 2 1 0 G ty_4 (zv G (mE zk (vq 1 G) (vq 3 G)) (zM 0 G (zQ G (cy _ _) (.p (vq 4 G) (vq 5 G)) (zO 0 G aY (zL 7 0 0 G ty_4 (zM 1 G (zQ G (cy _ _) (.p (vq 8 G) (vq 9 G)) (zS 6 G ap (zS 10 G ap o0))))))))))))) zk zk zk zk (zz [] Rp λ a w U=>?_);refine aa<|qh<|al ?_ (aP (rs:=[.cell 4 26,.cell 5 26]) G U (.cell (zm 2 G) ap (.cell (zm 3 G) ap .nil)) zd);exact tu2w (ba MJ) (ba MI)
def bln:Nat→Nat
 | 0=>0
 | n+1=>bln ((n+1)/2)+1
decreasing_by omega
theorem PU {t:Nat}(h:t<4294967296):IntKind.u32.wrap ((t:Int).tdiv ((2:Nat):Int))=((t/2:Nat):Int):=by
 rw [jg zo,← j5,wu32 zo]
theorem tO (h:0<n):bln n=bln (n/2)+1:=by
 cases n with
 | zero=>omega
 | succ n=>rw [bln]
theorem I1:∀ (k n:Nat),n<2^k→bln n≤k
 | k,0,_=>by rw [bln];omega
 | 0,n+1,h=>by simp at h
 | k+1,n+1,h=>by
  rw [bln];have:=I1 k ((n+1)/2) (by rw [zi] at h;omega);omega
def bitF (p:Int):Nat:=if lz p=0 then 0 else 32*(lz p-1)+bln ((aA p.natAbs).getD (lz p-1) 0)
theorem Mi {p:Int}(h:lz p≠0):0<(aA p.natAbs).getD (lz p-1) 0:=by
 apply Decidable.byContradiction;intro hn;have hlt:lz p-1<(aA p.natAbs).length:=by show lz p-1<lz p;omega
 rw [cV hlt] at hn;have e:aA p.natAbs=(aA p.natAbs).take (lz p-1)++[0]:=by
  have h2:=qw hlt;rw [qF (by show lz p≤lz p-1+1;omega)] at h2;rw [show (aA p.natAbs)[lz p-1]=0 by omega] at h2;exact h2
 have hv:=aI p.natAbs;rw [e,lT,vp,jx] at hv;have h3:=fF (l:=(aA p.natAbs).take (lz p-1)) (λ x hx=>(bm _).1 x (xj hx));rw [hv] at h3;have h4:=ez h3;rw [ze] at h4;have h5:lz p=(aA p.natAbs).length:=rfl;omega
theorem Gw {p:Int}(h:bitF p=1):p.natAbs=1:=by
 unfold bitF at h;split at h
 ·omega
 ·rename_i h0;have h1:=Mi h0;rw [tO h1] at h;have h2:lz p=1:=by omega
  have h3:bln ((aA p.natAbs).getD (lz p-1) 0/2)=0:=by omega
  have h4:(aA p.natAbs).getD (lz p-1) 0=1:=by
   apply Decidable.byContradiction;intro hn;have:=tO (n:=(aA p.natAbs).getD (lz p-1) 0/2) zo;omega
  have h5:=rP (D:=p.natAbs) h2;have h6:(aA p.natAbs).getD 0 0=1:=by rw [h2] at h4;exact h4
  rw [cV (by show 0<lz p;omega)] at h6;omega
theorem sO (p:Int)(hp:lz p≤1000000000):Cn Tryz.prog 244 [Zi p] (In (bitF p:Nat)):=by
 have hrl:(riOf p).mag.length=lz p:=rfl;refine Cn.intro Tryz.func244 G zk nq (zy [(0,Zi p)] λ B w0 a U=>?_);refine qb<|zg [] Uu Uv Uw U (zW 0 G (zE G ab)) (zz Ux Uy ?_);refine ztA<|zsA<|zgA U4 [] (.adr 5 1 (.some 1) True::(Wb 6)) RS (zO 0 G ar (zL 0 0 1 G bb (zv G (aK qd (vq 1 G)) (zv G (bC (vq 2 G) ab) o0)))) (zz (Wc 2 8) Uy λ a w U=>?_);refine zJ 1 U G (λ hb0=>?_) (λ hb0=>?_)
 ·have h0:lz p=0:=by simp at hb0;rw [← hrl,hb0];rfl
  refine qb<|zg U6 [] UA U2 U (zE G ab) (zz Ux Uy λ a w U=>?_);refine aa<|qh<|aj ?_;refine al ?_ (am G U (zm 0 G));rw [show bitF p=0 by rw [bitF,qC h0]];exact aG
 ·have h0:lz p≠0:=by intro e;rw [← hrl] at e;simp [xr e] at hb0
  have hlt:lz p-1<(aA p.natAbs).length:=by show lz p-1<lz p;omega
  have htop:(aA p.natAbs).getD (lz p-1) 0<4294967296:=fS (bm _).1 _;have hbt:32*(lz p-1)+bln ((aA p.natAbs).getD (lz p-1) 0)=bitF p:=by rw [bitF,qz h0]
  have hb32:=I1 32 _ htop;refine qj<|zt<|zg U6 [] (.adr 9 1 (.some 1) True::(Ww 10 [.v 3 _])) [.g 0,.o 5] U (zO 0 G ar (zL 0 0 1 G bb (zv G (aK qd (vq 1 G)) (zv G (cH (vq 2 G) ab ((wi64 zo zo).trans (by omega:(_:Int)=((lz p-1:Nat):Int)))) (zv G (mF ab (vq 3 G) ((wi64 zo zo).trans (by omega:(_:Int)=((32*(lz p-1):Nat):Int)))) (zA 4 G o0)))))) (zz (Wc 2 3) Uy ?_);refine ztA<|zsA<|zgA U4 [] (.adr 14 1 (.some 1) True::.v 15 _::.adr 16 1 (.some 1) True::(Wd 17 [.v 4 _])) (We [.o 8]) (zO 0 G ar (zL 0 0 1 G bb (zO 0 G ar (zL 2 0 1 G bb (zv G (aK qd (vq 3 G)) (zv G (cH (vq 4 G) ab ((wi64 zo zo).trans (by omega:(_:Int)=((lz p-1:Nat):Int)))) (zv G (bO bc (vq 1 G) (vq 5 G) hlt) (zv G (ao (vq 6 G) aO) (zA 7 G o0))))))))) (zz (Wa 2 3 4) Uy λ a w U=>?_);refine aa<|qk ?_;have U:=U.sel [1,2];refine wp_loop_ghost (λ n a w=>∃ s t:Nat,(t<4294967296∧n=t∧s+bln t=bitF p)∧St B w0 29 [(3,In (s:Nat)),(4,(NumA .u32 (t:Nat)).va)] [⟨1,26,ptrH,RIA (riOf p)⟩] a w) ((aA p.natAbs).getD (lz p-1) 0) ?_ ?_
  ·rw [← cV hlt] at U;exact ⟨_,_,⟨htop,rfl,hbt⟩,U⟩
  intro n a w hI;obtain ⟨s,t,⟨ht,hnt,hs⟩,U⟩:=hI;refine qb<|qb<|zg U6 [] (W6 22) UI U (zM 1 G (zv G (cM (vq 0 G) (aF 0 G)) o0)) (zz (Wa 3 4 23) Uy λ a w U=>?_);refine zJ 2 U G (λ hb1=>?_) (λ hb1=>?_)
  ·have hb1:0<t:=by simp at hb1;omega
   refine qj<|zt<|qk<|zg U6 [] (W6 26 [.v 3 _]) Rn U (zM 0 G (zv G (aL (vq 0 G) ab (aW zo)) (zA 1 G o0))) (zz (Wc 4 3) Uy λ a w U=>?_);refine ak ?_;refine aa<|zg U6 [] (W6 24 [.v 4 _]) Rn U (zM 0 G (zv G (nH (vq 0 G) (aF 2 G) zd (PU ht)) (zA 1 G o0))) (zz (Wc 3 4) Uy λ a w U=>?_);refine aa ?_;have U:=U.sel [0,1];exact ⟨t/2,by omega,s+1,t/2,⟨by omega,rfl,by rw [tO hb1] at hs;omega⟩,U⟩
  ·have ht0:t=0:=by simp at hb1;omega
   refine qL<|ai<|ai<|az<|zt<|zg U6 [] [.v 28 _,.v 2 _] Uw U (zM 0 G (zA 0 G o0)) (zz Ux Uy λ a w U=>?_);refine aa<|qh<|al ?_ (am G U (zm 0 G));rw [show bitF p=s by rw [← hs,ht0,bln];rfl];exact aG
theorem Bf (l:Ya)(x:Nat)(hls:l.length≤1099511627776)(hx:x<4294967296):Cn Tryz.prog 267 [(MgA l).va,(NumA .u32 (x:Nat)).va] ((MgN (aA (val l*x))).va):=by
 refine Cn.intro Tryz.func267 G zk nq (zy [(0,(MgA l).va),(1,(NumA .u32 (x:Nat)).va)] λ B w0 a U=>?_);refine qb<|zh WR WS U (zE G aX) (zz WT [] ?_);refine ztA<|zhA (Wd 5 [.v 4 _]) [.o 5] (zM 0 G (zM 1 G (zv G (dF (l:=[_]) (xs:=[.tmp 6]) bc zk nq nq ((fc hx)) (.o (vq 1 G)) G G) (zQ G (eE famA _) (.o (vq 2 G)) (zQ G (Bn l (bx [x]) hls (qf (lV x).1 zd)) (.p (vq 0 G) (vq 3 G)) (zA 4 G o0)))))) (zz U3 [] λ a w U=>?_);refine aa<|qh<|al ?_ (am G U (zm 0 G));rw [(lV x).2];exact aG
theorem sr {B:Nat}{w:Yi}:∀ (l:Ya),(cat (NL l)).p B (l.map λ (x:Nat)=>Value.int .u32 x) w
 | []=>⟨[],rfl,.nil⟩
 | x::l=>by
  obtain ⟨ps,e,hp⟩:=sr (B:=B) (w:=w) l;exact ⟨[.int .u32 x]::ps,by show _::_=_;rw [qZ,← e];rfl,.cons G hp⟩
theorem St.rowO (h:St B w0 N Γ Λ a w)(hB:B=w0.w.heap.size)(hn:n=l.length)(hl:l.length≤maxLen)(e:Nat)(he:Λ[e]?=some ⟨s,U32,slH n n,Nums .u32 l⟩):
  St B w0 N ((s,OwnR w0.w.heap.size U32 1 [] (NL l))::Γ) (Λ.eraseIdx e) a w:=by
 subst hn;obtain ⟨g,cs,e1,e2,e3,e4⟩:=h.locs _ (qa he);have e4':cs=l.map λ (x:Nat)=>Value.int .u32 x:=e4;refine ⟨h.lo,h.defers,h.size,h.base,λ x hx=>?_,λ m hm=>h.locs m (xS hm),λ m hm m' hm' hne=>h.dis m (xS hm) m' (xS hm') hne⟩;rcases qr.1 hx with rfl|hx
 ·have q1:∀ A∈NL l,A.n=1:=λ A hA=>by
   obtain ⟨_,_,rfl⟩:=qq.1 hA;rfl
  have q2:∀ A∈NL l,∀ T∈A.deps,T∈([]:List TypeId):=oX;have q3:(cat (NL l)).p B cs w:=by rw [e4'];exact sr l
  have q4:a.eval (.tmp s)=.slice (some ⟨g,0,none⟩) l.length l.length:=by rw [e1];rfl
  exact ⟨q1,q2,cs,q3,by rw [e4'];simp,.inr ⟨g,l.length,cs.toArray,by rw [qc];exact q4,by rw [← hB];exact h.lo g e2,e3,by simp,hl,by rw [e4'];simp,by rw [e4'];simp [qF]⟩⟩
 ·exact h.vals x hx
theorem qi64 {x:Nat}(h:x<4611686018427387904):IntKind.i64.wrap ((x:Int).tdiv 32)=((x/32:Nat):Int):=by
 rw [show (32:Int)=((32:Nat):Int) from rfl,jg zo,← j5,wi64 zo zo]
theorem LY (h:i<31):IntKind.u32.wrap (((2:Nat):Int)*((2^i:Nat):Int))=((2^(i+1):Nat):Int):=by
 have h1:2^(i+1)≤2^31:=zZ zd zo;rw [← xF,za,← zi,wu32 (qY h1 zd)]
theorem N4 (k:Nat):4294967296^k=2^(32*k):=by rw [Nat.pow_mul]
theorem F9 (h:i<32):2^i<4294967296:=qY (zZ zd (show i≤31 by omega)) zd
theorem QP {p:Int}{t:Nat}:(RIN (rsig (riOf p).neg (aA (val (List.replicate (t/32) 0++(riOf p).mag)*2^(t%32))))).va=(RIN (riOf (p*((2^t:Nat):Int)))).va:=by
 have hpos:(0:Int)<((2^t:Nat):Int):=by exact_mod_cast zK (by decide:0<2)
 refine qp (λ x=>(RIN x).va) (cj (bm _).1 (z:=p*((2^t:Nat):Int)) ?_ λ hz=>?_)
 ·rw [aI,iX,rh,zc,bF,qV,jS,kz,N4,jP,← xf,x3,za]
 ·show decide (p<0)=_;rw [qU];exact ⟨λ h=>jX h hpos,λ h=>by
   apply Decidable.byContradiction;intro hn;have:=Int.mul_nonneg (show 0≤p by omega) (Int.le_of_lt hpos);omega⟩
theorem Bx (p:Int)(t:Nat)(hp0:p≠0)(hp:lz p≤1000000000)(ht:t≤64000000000):Cn Tryz.prog 261 [Zi p,In (t:Nat)] ((RIN (riOf (p*((2^t:Nat):Int)))).va):=by
 obtain ⟨it,z,e1,e2,e3,e4,e5⟩:=nr;refine Cn.introW Tryz.func261 G zk nq (.cons (yc _).va (.cons (lD _ _).va .nil)) (dA _).va (λ B w0 a hB0 U=>?_);have U:=zn [(0,(RIO (riOf p)).va),(1,In (t:Nat))] [] U;refine qb<|zg [] [zpL 2 26 0 _,zpL 4 26 1 _] UU [.g 1] U (zW 0 G (zY G (Str.zero ga) o0)) (zz [(1,_)] S3 ?_);refine ztA<|zsA<|zgA UF [] (.adr 8 2 (.some 1) True::(Wb 9)) RS (zO 0 G ar (zL 0 0 1 G bb (zv G (aK qd (aC (vq 1 G))) (zv G (bC (vq 2 G) ab) o0)))) (zz (Wc 1 11) S3 λ a w U=>?_);refine zJ 1 U G (λ hb0=>?_) (λ hb0=>?_)
 ·have h0:(riOf p).mag=[]:=by simpa using hb0
  exact absurd (iw hp0) (by show ¬ 0<(riOf p).mag.length;rw [h0];decide)
 ·refine qj<|zt<|dz (sts:=[none,none]) (news:=[⟨15,138,slH _ _,some 2,_,none⟩]) (sp:=[.v 13 _,.v 14 _,.alc 2,.adr 5 15 .none True]) [.g 0] [(5,15)] [O 2 26 _,O 4 26 _,zpH 5 138 _] U (zM 0 G (zv G (nH (vq 0 G) ab zd (qi64 zo)) (oc (eF G G G fA (vq 1 G) (vq 1 G) zo) (oc (ob_a G G nB) o0)))) zk zk zk ⟨⟨3,rfl⟩,trivial⟩ G zk (zz [(1,_)] [O 2 26 _,O 4 26 _,zpH 5 138 _] λ a w U=>?_);refine zt ?_;have U:=U.rowO hB0 (l:=List.replicate (t/32) 0) (by simp) (by simp;unfold maxLen;omega) 2 rfl;have U:=zn (Wc 5 1) S3 U;refine lr (sp:=[.v 16 _,.adr 17 2 (.some 1) True,.v 18 _,.v 19 VT,.v 5 VT]) 3 [1] 0 2 U (zM 0 rfl (zO 0 rfl ar (zL 1 0 1 rfl bb o0))) rfl zk rfl rfl zd rfl zd rfl (λ w u h k=>by have h2:=SlO.use h;exact (eD h2).2) qd e1 e2 e3 e4 e5 zd (by simp only [qc,zc];have:(riOf p).mag.length=lz p:=rfl;omega) zd (λ T hT=>hT) zd (λ A hA=>by obtain ⟨_,_,rfl⟩:=qq.1 hA;rfl) zk nq nq zk zk (zz (Wc 5 1) S3 ?_);refine ztA<|zgA UF [] U5 WS (zv G (aR (aF 1 G)) o0) (zz (Wa 5 1 6) S3 ?_);refine ztA<|zsA<|zgA UF [] [.v 7 _] WZ (zE G ab) (zz (Wf 5 1 6 7) S3 λ a w U=>?_);refine aa<|qk ?_;have U:=U.sel [1,0,2,3];refine wp_loop_ghost (λ n a w=>∃ i:Nat,(n+i=t%32)∧St B w0 34 [(1,In (t:Nat)),(5,OwnR w0.w.heap.size U32 1 [] (NL (List.replicate (t/32) 0)++NL (riOf p).mag)),(6,(NumA .u32 (2^i:Nat)).va),(7,In (i:Nat))] [⟨2,26,ptrH,RIO (riOf p)⟩,⟨4,26,ptrH,cat [BoA false,MgO []]⟩] a w) (t%32) ?_ ?_
  ·exact ⟨0,by omega,U⟩
  intro n a w hI;obtain ⟨i,hn,U⟩:=hI;have hm32:=qW t (by decide:0<32);refine qb<|qb<|zg UH [] (Ww 20) (Wp [.o 3]) U (zM 3 G (zM 0 G (zv G (nG (vq 1 G) ab zd (nrem (y:=32))) (zv G (aN (vq 0 G) (vq 2 G)) o0)))) (zz (W8 1 5 6 7 23) S3 λ a w U=>?_);refine zJ 4 U G (λ hb1=>?_) (λ hb1=>?_)
  ·have hi:i<t%32:=by have:=qt hb1;omega
   refine qj<|zt<|qk<|zg UH [] (W6 26 [.v 6 _]) Ri U (zM 2 G (zv G (mF (aF 2 G) (vq 0 G) (LY zo)) (zA 1 G o0))) (zz (Wf 1 5 7 6) S3 λ a w U=>?_);refine ak ?_;refine aa<|zg UH [] (W6 24 [.v 7 _]) Ri U (zM 2 G (zv G (aL (vq 0 G) ab (aW zo)) (zA 1 G o0))) (zz (Wf 1 5 6 7) S3 λ a w U=>?_);refine aa ?_;have U:=U.sel [0,1,2,3];exact ⟨n-1,by omega,i+1,by omega,U⟩
  ·obtain rfl:i=t%32:=by have:=qv hb1;omega
   have U:=St.wkG (A':=(MgA (List.replicate (t/32) 0++(riOf p).mag)).va) U 1 rfl (by unfold NL;rw [← zw];exact BX (okL_append.2 ⟨λ x hx=>by rw [(xM.1 hx).2];decide,oU p⟩));refine qL<|ai<|ai<|az<|zt<|zgd [[],[0],[],[],[2,3],(Wm 5),(Wm 6)] RY [] (.adr 28 2 (.some 0) True::(Wd 29 [.sto 1])) [] ac U (zO 0 G aY (zL 0 0 0 G ty_4 (zM 1 G (zM 2 G (zQ G (Bf _ (2^(t%32)) (by simp only [qu,zc];have:(riOf p).mag.length=lz p:=rfl;omega) (F9 (qW _ zd))) (.p (vq 2 G) (vq 3 G)) (zQ G (yk _ _) (.p (vq 1 G) (vq 4 G)) (zS 5 G ap o0))))))) zk zk zk zk (zz [] S3 λ a w U=>?_);refine aa<|qh<|al ?_ (au G U (zm 1 G) ap);exact ba QP
theorem lZ (X:Nat)(h:(aA X).length≤1099511627776):Cn Tryz.prog 260 [(MgA (aA X)).va] (MgA (aA (X/2))).va:=by
 have:=J8 (aA X) h;rwa [aI] at this
theorem lL {X:Nat}(h:0<X):0<(aA X).length:=by rw [dh zo];simp
theorem m5 (X:Nat)(h:0<X):Cn Tryz.prog 259 [(MgA (aA X)).va] (Bo (((X%2:Nat):Int)==((0:Nat):Int))):=by
 have:=Ja (aA X) (lL h);rwa [aI] at this
theorem Bi (X Y:Nat)(h:Y≤X)(hl:(aA X).length≤10000000000):Cn Tryz.prog 250 [(MgA (aA X)).va,(MgA (aA Y)).va] (MgA (aA (X-Y))).va:=by
 have:=Bh (aA X) (aA Y) hl (cE h) (by rw [aI,aI];exact h);rwa [aI,aI] at this
theorem wC {X:Nat}(h:(((X%2:Nat):Int)==((0:Nat):Int))=true):X%2=0:=by
 have:=beq_iff_eq.1 h;omega
theorem G7 {X:Nat}(h:(((X%2:Nat):Int)==((0:Nat):Int))=false):X%2=1:=by
 have h2:¬ ((X%2:Nat):Int)=((0:Nat):Int):=λ e=>by rw [e] at h;simp at h
 omega
theorem Oa {X Y:Nat}(h:((((X%2:Nat):Int)==((0:Nat):Int))&&(((Y%2:Nat):Int)==((0:Nat):Int)))=true):X%2=0∧Y%2=0:=by
 rw [ql] at h;exact ⟨wC h.1,wC h.2⟩
theorem Oc {X Y:Nat}(h:((((X%2:Nat):Int)==((0:Nat):Int))&&(((Y%2:Nat):Int)==((0:Nat):Int)))=false):X%2=1∨Y%2=1:=by
 rw [jA] at h;rcases h with h|h
 ·exact .inl (G7 h)
 ·exact .inr (G7 h)
theorem uZ {X Y g:Nat}(h:Nat.gcd X Y=g)(hg:g%2=1)(hX:X%2=0):Nat.gcd (X/2) Y=g:=by
 have e:X=2*(X/2):=by omega
 apply Nat.dvd_antisymm
 ·rw [← h];exact Nat.dvd_gcd (vf (jB _ _) ⟨2,by omega⟩) (j0 _ _)
 ·refine Nat.dvd_gcd ?_ (h▸j0 _ _);have h1:g∣2*(X/2):=by rw [← e];exact h▸jB _ _
  refine Nat.Coprime.dvd_of_dvd_mul_left ?_ h1;show Nat.gcd g 2=1;have h2:Nat.gcd g 2∣2:=j0 _ _;have h3:Nat.gcd g 2∣g:=jB _ _;have h4:=Nat.le_of_dvd zd h2;rcases Nat.lt_or_ge (Nat.gcd g 2) 2 with h5|h5
  ·have:Nat.gcd g 2≠0:=by intro e0;have:=Nat.gcd_eq_zero_iff.1 e0;omega
   omega
  ·have h6:Nat.gcd g 2=2:=by omega
   rw [h6] at h3;obtain ⟨c,hc⟩:=h3;omega
theorem KR {X Y:Nat}(h:X%2=1∨Y%2=1):Nat.gcd X Y%2=1:=by
 apply Decidable.byContradiction;intro hn;have h2:2∣Nat.gcd X Y:=Nat.dvd_of_mod_eq_zero zo;have h3:=vf h2 (jB X Y);have h4:=vf h2 (j0 X Y);omega
theorem uY {X Y g:Nat}(h:Nat.gcd X Y=g)(hle:Y≤X):Nat.gcd (X-Y) Y=g:=by
 rw [← h,xY,xY X Y];have:=Nat.gcd_add_self_right (m:=Y) (n:=X-Y);rw [jO hle] at this;exact this.symm
theorem ye {X t k:Nat}(hX:0<X)(h:X*2^t<4294967296^k):t≤32*k:=by
 rw [N4] at h;have h1:2^t≤X*2^t:=Nat.le_mul_of_pos_left _ hX;exact xb ((Nat.pow_lt_pow_iff_right (by decide:1<2)).1 (qY h1 h))
structure Tw (P Q X Y t:Nat):Prop where
 x:0<X
 y:0<Y
 p:P=X*2^t
 q:Q=Y*2^t
theorem Tw.next {P Q X Y t:Nat}(h:Tw P Q X Y t)(hX:X%2=0)(hY:Y%2=0):Tw P Q (X/2) (Y/2) (t+1) :=
 ⟨by have:=h.x;omega,by have:=h.y;omega,by rw [h.p,zi,za (2^t),← zb];congr 1;omega,by rw [h.q,zi,za (2^t),← zb];congr 1;omega⟩
theorem Tw.xle {P Q X Y t:Nat}(h:Tw P Q X Y t):X≤P∧Y≤Q:=by
 have h1:0<2^t:=zK zd;rw [h.p,h.q];exact ⟨j3 _ h1,j3 _ h1⟩
theorem Tw.tle {P Q X Y t:Nat}(h:Tw P Q X Y t)(hl:(aA P).length≤1000000000):t≤32000000000:=by
 have h1:=cz (n:=P) (qi _);rw [h.p] at h1;have h2:=ye h.x h1;rw [← h.p] at h2;omega
theorem lenM {X M:Nat}(h:X≤M)(hM:(aA M).length≤1000000000):(aA X).length≤1000000000:=qf (cE h) hM
theorem Kl {X:Nat}(h:decide (((aA X).length:Int)>0)=true):0<X:=by
 apply Decidable.byContradiction;intro hn;obtain rfl:X=0:=by omega
 rw [bE] at h;exact absurd h zd
theorem Km {X:Nat}(h:decide (((aA X).length:Int)>0)=false):X=0:=by
 apply Decidable.byContradiction;intro hn;have:=lL (X:=X) zo;exact absurd (qv h) zo
theorem Pu {Y:Nat}:(RIA (rsig false (aA Y))).va=Zi ((Y:Nat):Int):=by
 rw [cj (bm _).1 (z:=((Y:Nat):Int)) (by rw [aI];omega) (λ hz=>by simp)]
theorem mag0 {p:Int}(h:(((riOf p).mag.length:Int)==0)=true):p=0:=by
 apply Decidable.byContradiction;intro hn;have h1:=iw hn;have h2:(riOf p).mag.length=lz p:=rfl;simp at h;rw [h] at h2;simp at h2;omega
theorem mag1 {p:Int}(h:(((riOf p).mag.length:Int)==0)=false):0<p.natAbs:=by
 apply Decidable.byContradiction;intro hn;obtain rfl:p=0:=by omega
 exact absurd h (by rw [show (riOf (0:Int)).mag=[] from bE];decide)
set_option maxHeartbeats 1000000 in
theorem nV (p q:Int)(hp:lz p≤1000000000)(hq:lz q≤1000000000):Cn Tryz.prog 245 [Zi p,Zi q] (Zi ((Int.gcd p q:Nat):Int)):=by
 refine Cn.intro Tryz.func245 G zk nq (zy [(0,Zi p),(1,Zi q)] λ B w0 a U=>?_);refine qb<|zg [] Ul Um [] U (zW 0 G (zW 1 G (zY G (Str.zero bu) o0))) (zz [] Un ?_);refine ztA<|zgA Uo [] [.adr 9 2 (.some 1) True,.v 10 _,.v 5 _] Ud (zO 0 G ar (zL 0 0 1 G bb (zA 1 G o0))) (zz [(5,_)] Un ?_);refine ztA<|zgA Uo [] [.adr 11 3 (.some 1) True,.v 12 _,.v 6 _] Ui (zO 1 G ar (zL 0 1 1 G bb (zA 1 G o0))) (zz (Wc 5 6) Un ?_);refine ztA<|zsA<|zgA Uo [] (Wb 13) U1 (zM 0 G (zv G (aK qd (vq 0 G)) (zv G (bC (vq 1 G) ab) o0))) (zz (Wa 5 6 15) Un λ a w U=>?_);refine zJ 2 U G (λ hb0=>?_) (λ hb0=>?_)
 ·obtain rfl:=mag0 hb0;refine qb<|zg [η,η,some (2,_)] [] (W6 16 [.sto 2]) We U (zM 1 G (zQ G (cy _ _) (.cons aE (.o (vq 0 G))) (zS 1 G ap o0))) (zz (Wc 5 6) Un λ a w U=>?_);refine aa<|qh<|aj ?_;refine al ?_ (au G U (zm 2 G) ap);exact ba (size_e.trans (by rw [show Int.gcd 0 q=q.natAbs from Int.gcd_zero_left ..]))
 ·have hp0:=mag1 hb0;refine qj<|zt<|qb<|zg US [] (Wb 18) U1 U (zM 1 G (zv G (aK qd (vq 0 G)) (zv G (bC (vq 1 G) ab) o0))) (zz (Wa 5 6 20) Un λ a w U=>?_);refine zJ 2 U G (λ hb1=>?_) (λ hb1=>?_)
  ·obtain rfl:=mag0 hb1;refine qb<|zg [η,η,some (2,_)] [] (W6 21 [.sto 2]) We U (zM 0 G (zQ G (cy _ _) (.cons aE (.o (vq 0 G))) (zS 1 G ap o0))) (zz (Wc 5 6) Un λ a w U=>?_);refine aa<|qh<|aj ?_;refine al ?_ (au G U (zm 2 G) ap);exact ba (size_e.trans (by rw [show Int.gcd p 0=p.natAbs from Int.gcd_zero_right ..]))
  ·have hq0:=mag1 hb1;obtain ⟨M,hM0⟩:∃ M,M=max p.natAbs q.natAbs:=⟨_,rfl⟩;have hPM:p.natAbs≤M:=by omega
   have hQM:q.natAbs≤M:=by omega
   have hM:(aA M).length≤1000000000:=by
    rcases Nat.le_total p.natAbs q.natAbs with h|h
    ·rw [show M=q.natAbs by omega];exact hq
    ·rw [show M=p.natAbs by omega];exact hp
   refine qj<|zt<|zg US [] [.v 7 _] WS U (zE G ab) (zz (Wa 5 6 7) Un λ a w U=>?_);refine zt<|qk ?_;have U:=U.sel [0,1,2];refine wp_loop_ghost (λ n a w=>∃ X Y t:Nat,(Tw p.natAbs q.natAbs X Y t∧n=X)∧St B w0 60 [(5,(MgA (aA X)).va),(6,(MgA (aA Y)).va),(7,In (t:Nat))] [⟨2,26,ptrH,RIA (riOf p)⟩,⟨3,26,ptrH,RIA (riOf q)⟩,⟨4,26,ptrH,cat [BoA false,MgA []]⟩] a w) (p.natAbs) ?_ ?_
   ·exact ⟨p.natAbs,q.natAbs,0,⟨⟨hp0,hq0,(zP _).symm,(zP _).symm⟩,rfl⟩,U⟩
   intro n a w hI;obtain ⟨X,Y,t,⟨hT,hnX⟩,U⟩:=hI;have htl:=hT.tle hp;have hTx:=hT.x;refine qb<|qb<|zg US [] (Wb 23 [.t 26 _,.t 27 _,.v 28 _]) (W7 [.o 5]) U (zM 0 G (zQ G (m5 X hT.x) (.o (vq 0 G)) (zV 1 G (zB 2 G (λ hg=>aq (gq 1 G)) (zB 2 G (λ hg=>be (m5 Y hT.y) (.o (ae (vq 3 G) hg))) (zv G (bv (vq 2 G) (vq 4 G)) o0)))))) (zz (Wf 5 6 7 28) Un λ a w U=>?_);refine zJ 3 U G (λ hb2=>?_) (λ hb2=>?_)
   ·have hev:=Oa hb2;refine qj<|aa<|qk<|qb<|zg US [] (W6 29 [.v 5 _]) WQ U (zM 0 G (zQ G (lZ X (qf (lenM (qf hT.xle.1 hPM) hM) zd)) (.o (vq 0 G)) (zA 1 G o0))) (zz (Wa 6 7 5) Un ?_);refine ztA<|zgA Uo [] (W6 31 [.v 6 _]) WQ (zM 0 G (zQ G (lZ Y (qf (lenM (qf hT.xle.2 hQM) hM) zd)) (.o (vq 0 G)) (zA 1 G o0))) (zz (Wa 7 5 6) Un ?_);refine znA<|zgA Uo [] (W6 33 [.v 7 _]) WQ (zM 0 G (zv G (aL (vq 0 G) ab (aW zo)) (zA 1 G o0))) (zz (Wa 5 6 7) Un λ a w U=>?_);refine ak ?_;refine aa ?_;have U:=U.sel [0,1,2];exact ⟨X/2,by omega,X/2,Y/2,t+1,⟨hT.next hev.1 hev.2,rfl⟩,U⟩
   ·have hgo0:=KR (Oc hb2);obtain ⟨g,hgd⟩:∃ g,Nat.gcd X Y=g:=⟨_,rfl⟩;have hgo:g%2=1:=by rw [← hgd];exact hgo0
    have hgp:Int.gcd p q=g*2^t:=by show Nat.gcd p.natAbs q.natAbs=_;rw [hT.p,hT.q,Nat.gcd_mul_right,hgd]
    refine qL<|ai<|ai<|az<|zt<|qk ?_;have U:=U.sel [0,1,2];refine wp_loop_ghost (λ n a w=>∃ X Y:Nat,(0<Y∧X≤M∧Y≤M∧Nat.gcd X Y=g∧n=X+Y)∧St B w0 60 [(5,(MgA (aA X)).va),(6,(MgA (aA Y)).va),(7,In (t:Nat))] [⟨2,26,ptrH,RIA (riOf p)⟩,⟨3,26,ptrH,RIA (riOf q)⟩,⟨4,26,ptrH,cat [BoA false,MgA []]⟩] a w) (X+Y) ?_ ?_
    ·exact ⟨X,Y,⟨hT.y,qf hT.xle.1 hPM,qf hT.xle.2 hQM,hgd,rfl⟩,U⟩
    intro n a w hI;clear hgd;obtain ⟨X,Y,⟨hY0,hXM,hYM,hg1,hn1⟩,U⟩:=hI;obtain ⟨n1,hn2⟩:∃ n1,n1=n:=⟨n,rfl⟩;refine qb<|qb<|zg US [] (Wb 35) UG U (zM 0 G (zv G (aK qd (vq 0 G)) (zv G (cM (vq 1 G) ab) o0))) (zz (Wf 5 6 7 37) Un λ a w U=>?_);refine zJ 3 U G (λ hb3=>?_) (λ hb3=>?_)
    ·have hX0:=Kl hb3;refine qj<|aa<|qk<|qb<|qk ?_;have U:=U.sel [0,1,2];refine wp_loop_ghost (λ n a w=>∃ X2:Nat,(0<X2∧X2≤X∧Nat.gcd X2 Y=g∧n=X2)∧St B w0 60 [(5,(MgA (aA X2)).va),(6,(MgA (aA Y)).va),(7,In (t:Nat))] [⟨2,26,ptrH,RIA (riOf p)⟩,⟨3,26,ptrH,RIA (riOf q)⟩,⟨4,26,ptrH,cat [BoA false,MgA []]⟩] a w) (X) ?_ ?_
     ·exact ⟨X,⟨hX0,qi _,hg1,rfl⟩,U⟩
     intro n a w hI;obtain ⟨X2,⟨hX3,hX4,hg2,hn3⟩,U⟩:=hI;have hXM2:=qf hX4 hXM;refine qb<|qb<|zg US [] (W6 38) WX U (zM 0 G (zQ G (m5 X2 hX3) (.o (vq 0 G)) o0)) (zz (Wf 5 6 7 39) Un λ a w U=>?_);refine zJ 3 U G (λ hb4=>?_) (λ hb4=>?_)
     ·have hev:=wC hb4;refine qj<|aa<|qk<|zg US [] (W6 40 [.v 5 _]) WQ U (zM 0 G (zQ G (lZ X2 (qf (lenM hXM2 hM) zd)) (.o (vq 0 G)) (zA 1 G o0))) (zz (Wa 6 7 5) Un λ a w U=>?_);refine ak ?_;refine aa ?_;have U:=U.sel [2,0,1];exact ⟨X2/2,by omega,X2/2,⟨by omega,by omega,uZ hg2 hgo hev,rfl⟩,U⟩
     ·have hoX:=G7 hb4;refine qL<|ai<|ai<|az<|zt<|qk ?_;have U:=U.sel [0,1,2];refine wp_loop_ghost (λ n a w=>∃ Y2:Nat,(0<Y2∧Y2≤Y∧Nat.gcd X2 Y2=g∧n=Y2)∧St B w0 60 [(5,(MgA (aA X2)).va),(6,(MgA (aA Y2)).va),(7,In (t:Nat))] [⟨2,26,ptrH,RIA (riOf p)⟩,⟨3,26,ptrH,RIA (riOf q)⟩,⟨4,26,ptrH,cat [BoA false,MgA []]⟩] a w) (Y) ?_ ?_
      ·exact ⟨Y,⟨hY0,qi _,hg2,rfl⟩,U⟩
      intro n a w hI;obtain ⟨Y2,⟨hY3,hY4,hg3,hn4⟩,U⟩:=hI;have hYM2:=qf hY4 hYM;refine qb<|qb<|zg US [] (W6 42) WX U (zM 1 G (zQ G (m5 Y2 hY3) (.o (vq 0 G)) o0)) (zz (Wf 5 6 7 43) Un λ a w U=>?_);refine zJ 3 U G (λ hb5=>?_) (λ hb5=>?_)
      ·have hev:=wC hb5;refine qj<|aa<|qk<|zg US [] (W6 44 [.v 6 _]) [.g 0,.g 2,.o 2] U (zM 1 G (zQ G (lZ Y2 (qf (lenM hYM2 hM) zd)) (.o (vq 0 G)) (zA 1 G o0))) (zz (Wa 5 7 6) Un λ a w U=>?_);refine ak ?_;refine aa ?_;have U:=U.sel [0,2,1];exact ⟨Y2/2,by omega,Y2/2,⟨by omega,by omega,by rw [xY];exact uZ (by rw [xY];exact hg3) hgo hev,rfl⟩,U⟩
      ·have hoY:=G7 hb5;refine qL<|ai<|ai<|az<|zt<|qb<|zg US [] (Ww 46) WV U (zM 0 G (zM 1 G (zQ G (rz _ _) (.p (vq 0 G) (vq 1 G)) (zv G (aN (vq 2 G) ab) o0)))) (zz (Wf 5 6 7 49) Un λ a w U=>?_);refine zJ 3 U G (λ hb6=>?_) (λ hb6=>?_)
       ·have hcm:X2<Y2:=cm_lt0.1 (qt hb6);refine qb<|zg US [] [.v 50 _,.v 8 _] WX U (zM 0 G (zA 0 G o0)) (zz (Wf 5 6 7 8) Un ?_);refine ztA<|zgA Uo [] [.v 51 _,.v 5 _] [.g 1,.g 2,.g 3,.o 1] (zM 1 G (zA 0 G o0)) (zz (Wf 6 7 8 5) Un ?_);refine znA<|zgA Uo [] [.v 52 _,.v 6 _] [.g 1,.g 3,.o 1] (zM 2 G (zA 0 G o0)) (zz (Wa 7 5 6) Un ?_);refine znA<|zgA Uo [] (Wb 53 [.v 5 _]) [.g 0,.g 2,.o 3] (zM 1 G (zM 2 G (zQ G (Bi Y2 X2 (xb hcm) (qf (lenM hYM2 hM) zd)) (.p (vq 0 G) (vq 1 G)) (zA 2 G o0)))) (zz (Wa 7 6 5) Un λ a w U=>?_);refine ak ?_;refine aa ?_;have U:=U.sel [2,1,0];exact ⟨Y2-X2+X2,by omega,Y2-X2,X2,⟨hX3,by omega,hXM2,uY (by rw [xY];exact hg3) (xb hcm),rfl⟩,U⟩
       ·have hcm:Y2≤X2:=kW λ h=>qv hb6 (cm_lt0.2 h);refine qj<|aa<|zg US [] (Wb 53 [.v 5 _]) [.g 1,.g 2,.o 3] U (zM 0 G (zM 1 G (zQ G (Bi X2 Y2 hcm (qf (lenM hXM2 hM) zd)) (.p (vq 0 G) (vq 1 G)) (zA 2 G o0)))) (zz (Wa 6 7 5) Un λ a w U=>?_);refine ak ?_;refine aa ?_;have U:=U.sel [2,0,1];exact ⟨X2-Y2+Y2,by omega,X2-Y2,Y2,⟨hY3,by omega,hYM2,uY hg3 hcm,rfl⟩,U⟩
    ·obtain rfl:=Km hb3;rw [Nat.gcd_zero_left] at hg1;refine qL<|ai<|ai<|az<|zt<|zg [η,η,some (4,_)] [] (Ww 56 [.sto 2]) [] U (zM 1 G (zQ G ((cy false (aA Y)).post Pu) (.cons aE (.o (vq 0 G))) (zM 2 G (zQ G ((Bx ((Y:Nat):Int) t zo (lenM hYM hM) zo).wkp lB) (.p (vq 1 G) (vq 2 G)) (zS 3 G ap o0))))) (zz [] Un λ a w U=>?_);refine aa<|qh<|al ?_ (au G U (zm 2 G) ap);exact ba (qp Zi (by rw [hgp,← hg1];push_cast;rfl))
def ElO (T:TypeId)(A:As):VA where
 p B v w:=∃ b cs,v=ptr b∧b<B∧w.heap[b]?=some (.cells (List.toArray cs) T (0,0))∧A.p B cs w
 deps:=A.deps
 cg:=λ B v w w' hg ⟨b,cs,h1,h2,h3,h4⟩=>⟨b,cs,h1,h2,hg.heap h3,A.cg _ _ _ _ hg h4⟩
 wr:=λ B v w w' g c T' fz q1 q2 q3 q4 ⟨b,cs,h1,h2,h3,h4⟩=>⟨b,cs,h1,h2,by rw [q4.block b zo];exact h3,A.wr _ _ _ _ _ _ _ _ q1 q2 q3 q4 h4⟩
theorem tz :Wk (ElO T A) (ElP T A):=λ B v w ⟨b,cs,h1,h2,h3,h4⟩ =>
 ⟨b,0,cs,h1,(Array.getElem?_eq_some_iff.1 h3).1,.inl h2,h4,λ j u hu=>by
  have:=iR (k:=0) h3 cs.length j u (by rw [xk,qH];exact hu);exact this⟩
def AllG (a:Act)(w:World):List (Nat × VA)→Prop
 | []=>True
 | x::l=>x.2.p w.heap.size (a.eval (.tmp x.1)) w∧AllG a w l
theorem AllG.mem {a:Act}{w:Yi}:∀ {l:Yf},AllG a w l→∀ x∈l,x.2.p w.heap.size (a.eval (.tmp x.1)) w
 | y::l,h,x,hx=>by
  rcases qr.1 hx with rfl|hx
  ·exact h.1
  ·exact AllG.mem h.2 x hx
section
variable {P:Program}{B N:Nat}{w0:Bs}{Γ:List (Nat × VA)}{Λ:List Lc}{a:Act}{w:World}
theorem St.bw (h:St B w0 N Γ Λ a w):B≤w.heap.size:=qf (h.lo _ (.inl (qi _))) h.base.size
theorem og {R R':Ending→Yi→Prop}{e:Exit}(h:ce P fn R e a w)(k:∀ v w',R (.returned v) w'→R' (.returned v) w'):ce P fn R' e a w:=by
 cases e with
 | normal =>
  obtain ⟨Ds,e,nd,hD,hr⟩:=h;exact ⟨Ds,e,nd,hD,λ w' hs=>by obtain ⟨v,h1,h2⟩:=hr w' hs;exact ⟨v,h1,k v w' h2⟩⟩
 | ret =>
  obtain ⟨Ds,e,nd,hD,hr⟩:=h;exact ⟨Ds,e,nd,hD,λ w' hs=>by obtain ⟨v,h1,h2⟩:=hr w' hs;exact ⟨v,h1,k v w' h2⟩⟩
 | _=>exact h.elim
theorem Rf {c:Code}{b:Bool}(Γ':Yf)(h:St B w0 N Γ Λ a w)(hnd:w0.nd=true)(hΓ:AllG a w Γ')
  (k:∀ (B:Nat) (w1:Bs) (w:World),w1.nd=true→(∀ g,¬ w1.F g)→B=w1.w.heap.size→St B w1 N Γ' [] a w→Exit.then (λ a w=>c.wp P (ce P fn (RQ B w1 (Bo b))) a w) (ce P fn (RQ B w1 (Bo b))) .normal a w) :
  Exit.then (λ a w=>c.wp P (ce P fn (RQ B w0 (Bo b))) a w) (ce P fn (RQ B w0 (Bo b))) .normal a w:=by
 have h1:=k w.heap.size ⟨w,λ _=>False,true⟩ w rfl (λ _ h=>h) rfl ⟨λ g hg=>hg.resolve_right λ h=>h,DefOk.nil (h.defers.none hnd),h.size,Kept.refl _,hΓ.mem,(λ l hl=>by cases hl),(λ l hl=>by cases hl)⟩;refine wp_mono (c:=c) (show c.wp P _ a w from h1) λ e a' w' hp=>og hp ?_;rintro v w2 ⟨u,hu,hp,hk⟩;exact ⟨u,hu,hp,h.base.grow ⟨hk.os,hk.tape,hk.output,hk.size,λ k hlt=>hk.block k hlt (λ h=>h)⟩⟩
end
section
variable {P:Program}{Q:Exit→Act→World→Prop}{B N:Nat}{w0:Bs}{Γ:List (Nat × VA)}{Λ:List Lc}{a:Act}{w:World}{ops:Array Oper}
theorem FD (hsz:ops.size=m+1)(h:wpOp P ops Q 0 (wpOps P ops Q (List.range' 1 m)) a w):(Code.region id ops false).wp P Q a w:=by
 refine wp_region ?_;rw [List.range_eq_range',hsz,List.range'_succ,qx];exact h
theorem Fz {d0 m:Nat}{A0:VA}(src:List Src)(h:St B w0 N ((d0,A0)::Γ) Λ a w)(h0:sp[0]?=some (.v d0 A0))(hsz:ops.size=m+1)
  (hob:Obs P Q ⟨ops,N,Γ,les0 Λ,sp,λ i=>List.range i⟩ B w0 1 m) (hk:Rg.chk ⟨ops,N,Γ,les0 Λ,sp,λ i=>List.range i⟩=true) (hsrc:src.all (okS ⟨ops,N,Γ,les0 Λ,sp,λ i=>List.range i⟩)=true)
  (hQ:∀ a w,St B w0 N (src.filterMap (cC ⟨ops,N,Γ,les0 Λ,sp,λ i=>List.range i⟩)) Λ a w→Q .normal a w):wpOps P ops Q (List.range' 1 m) a w:=by
 have e:m=ops.size-1:=by omega
 subst e;exact KK src h h0 zo hob hk hsrc hQ
end
theorem t7 {w1:Bs}{Ts:Yq}(hB:B=w1.w.heap.size):∀ E,Ts.contains E=true→fC w1 B E:=λ E _ w g c fz _ h _=>.inl (hB▸h)
def ZBk:List As:=[NumA .i64 0,EqS (.slice none 0 0),EqS (.slice none 0 0),EqS (.slice none 0 0),EqS (.slice none 0 0),EqS (.slice none 0 0),EqS (.slice none 0 0),EqS (.slice none 0 0),EqS (.slice none 0 0),EqS (.slice none 0 0),EqS (.slice none 0 0),EqS (.slice none 0 0),EqS (.slice none 0 0),EqS (.slice none 0 0),EqS (.slice none 0 0),EqS (.slice none 0 0),EqS (.slice none 0 0)]
theorem Er:Str Tryz.prog 60 ZBk :=
 Str.of (z:=.agg ([Value.int .i64 0]++List.replicate 16 (Value.slice none 0 0)).toArray) zk Tryz.underlying60 zk λ B w=>⟨[Value.int .i64 0]::List.replicate 16 [Value.slice none 0 0],rfl,.cons rfl (.cons ⟨rfl,rfl⟩ (.cons ⟨rfl,rfl⟩ (.cons ⟨rfl,rfl⟩ (.cons ⟨rfl,rfl⟩ (.cons ⟨rfl,rfl⟩ (.cons ⟨rfl,rfl⟩ (.cons ⟨rfl,rfl⟩ (.cons ⟨rfl,rfl⟩ (.cons ⟨rfl,rfl⟩ (.cons ⟨rfl,rfl⟩ (.cons ⟨rfl,rfl⟩ (.cons ⟨rfl,rfl⟩ (.cons ⟨rfl,rfl⟩ (.cons ⟨rfl,rfl⟩ (.cons ⟨rfl,rfl⟩ (.cons ⟨rfl,rfl⟩ .nil))))))))))))))))⟩
section
open Rg
variable {P:Program}{Q:Exit→Act→World→Prop}{R:Rg}{B i:Nat}{w0:Bs}
end
section
variable {P:Program}{R:Rg}{Q:Exit→Act→World→Prop}{B i:Nat}{w0:Bs}
end
theorem Ca {x:RF}:NewA (RFN x):=pc λ A hA=>by
 simp at hA;rcases hA with rfl|rfl <;> exact C9 _
theorem w8 {x:RF}:FreeA (RFN x) (RFN x):=bN (.cons (dA _) (.cons (dA _) .nil))
theorem Bp {x:RF}:WkA (RFN x) (RFA x):=br (.cons Am (.cons Am .nil))
theorem qd_rfn {q:Rat}:WkA (QD k q) (RFN (rfOf q)):=qd_rfd.trans dis_wk
theorem kbl_app {l m:KL}:kbl (l++m)=kbl l++kbl m:=vw ..
theorem H5 {x:RI}(h:(RIN x).p B cs w):okL x.mag:=by
 obtain ⟨ps,rfl,hp⟩:=h;cases hp with
 | cons h1 hp=>cases hp with
  | cons h2 hp=>exact h2.1
abbrev OkK (l:KL):Prop:=∀ p∈l,okL p.2
theorem oW {l m:KL}(h:OkK l)(k:OkK m):OkK (l++m):=λ p hp=>by
 rcases qo.1 hp with hp|hp
 ·exact h p hp
 ·exact k p hp
abbrev LnK (l:KL):Prop:=∀ p∈l,p.2.length≤2000000000000
theorem pm {l m:KL}(h:LnK l)(k:LnK m):LnK (l++m):=λ p hp=>by
 rcases qo.1 hp with hp|hp
 ·exact h p hp
 ·exact k p hp
theorem Q9 {x:RF}{m1 m2:Yo}(h1:okL x.num.mag)(h2:okL x.den.mag):OkK (kf x m1 m2):=λ p hp=>by
 simp only [qr,zq,or_false] at hp;rcases hp with rfl|rfl
 ·exact h1
 ·exact h2
theorem ND {x:RF}{m1 m2:Yo}(h:bdF x):LnK (kf x m1 m2):=λ p hp=>by
 simp only [qr,zq,or_false] at hp;rcases hp with rfl|rfl
 ·exact qf h.1 zd
 ·exact qf h.2 zd
theorem JN {l:KL}(h:OkK l)(k:LnK l):∀ p∈l,okL p.2∧p.2.length≤2000000000000:=λ p hp=>⟨h p hp,k p hp⟩
theorem o9 {x:RF}(h:(RFN x).p B cs w):∃ m1 m2,(E8 x m1 m2).p B cs w∧cbl cs=kbl (kf x m1 m2)∧OkK (kf x m1 m2):=by
 obtain ⟨ps,rfl,hp⟩:=h;cases hp with
 | @cons _ c1 _ _ h1 hp=>cases hp with
  | @cons _ c2 _ _ h2 hp =>
   cases hp;obtain ⟨m1,p1,e1⟩:=rT h1;obtain ⟨m2,p2,e2⟩:=rT h2;refine ⟨m1,m2,⟨[c1,c2],rfl,.cons p1 (.cons p2 .nil)⟩,?_,Q9 (H5 h1) (H5 h2)⟩;have:([c1,c2]:List (List Value)).flatten=c1++c2:=by simp
   rw [this,dB,e1,e2];exact kbl_app.symm
def nm4 (a b c d:Value):Nat→Value
 | 0=>a
 | 1=>b
 | 2=>c
 | _=>d
theorem JM:OkK []:=λ p h=>by cases h
theorem Kk:LnK []:=λ p h=>by cases h
theorem R7 {q:Rat}(h:¬ dX q=true):bdF (rfOf q):=by
 have h':dX q=false:=by cases hq:dX q with
  | true=>exact absurd hq h
  | false=>rfl
 unfold dX at h';simp only [List.any_cons,List.any_nil,Bool.or_false,qN] at h';have h1:=qv h'.1;have h2:=qv h'.2;refine ⟨?_,?_⟩
 ·show (riOf q.num).mag.length≤_;omega
 ·show (riOf (q.den:Int)).mag.length≤_;omega
def p4 (m:MQ)(j:Nat):Rat:=[m.a,m.b,m.c,m.d].getD j 0
def mulQ (m q:MQ):MQ:=⟨m.a*q.a+m.b*q.c,m.a*q.b+m.b*q.d,m.c*q.a+m.d*q.c,m.c*q.b+m.d*q.d⟩
theorem sub_self :Sub A 0 A:=λ B cs w h=>by
 have hl:=A.len B cs w h;refine ⟨?_,by omega⟩;rw [xk,qF zo];exact h
def bQ (k:Nat)(r:Rat):Prop:=lz r.num≤k∧lz (r.den:Int)≤k
theorem P4 {x y:Rat}(hx:bQ c x)(hy:bQ d y):bQ (c+d) (x*y):=by
 obtain ⟨x1,x2⟩:=hx;obtain ⟨y1,y2⟩:=hy;rw [← sP];obtain ⟨h1,h2⟩:=gV (p:=x.num*y.num) (q:=(x.den:Int)*(y.den:Int)) (den_nz x y);have h4:=iy x.num y.num;have h6:=iy x.den y.den;exact ⟨by omega,by omega⟩
theorem Qj (x:Rat):x=(x.num:Rat)/((x.den:Int):Rat):=by rw [← jw];exact (kt x).symm
theorem Oh (x:Rat):((x.den:Int):Rat)≠0:=by
 have:=x.den_nz;intro h;exact this (by exact_mod_cast h)
section
variable {P:Program}{R:Rg}{Q:Exit→Act→World→Prop}{B i:Nat}{w0:Bs}
end
def EqA (v:Value):As where
 n:=1
 ag:=false
 p _ cs _:=cs=[v]∧v.oneCell'=true
 deps:=[]
 len:=by rintro B cs w ⟨rfl,_⟩;rfl
 one:=by rintro B cs w ⟨rfl,h⟩ c hc;simp at hc;subst hc;exact h
 ag1:=λ _=>rfl
 cg:=λ _ _ _ _ _ h=>h
 wr:=λ _ _ _ _ _ _ _ _ _ _ _ _ h=>h
theorem tZ (h:v.oneCell'=true):(EqA v).va.p B v w:=⟨[v],⟨rfl,h⟩,rfl⟩
theorem lM {v u:Yo}(h:(EqA v).va.p B u w):u=v:=by
 obtain ⟨cs,⟨rfl,_⟩,h2⟩:=h;exact h2
theorem St.nm (h:St B w0 N Γ Λ a w){s T:Nat}(k:Nat)(hm:Λ[k]?=some ⟨s,T,ptrH,A⟩):∃ g,St B w0 N ((s,EqV (ptr g))::Γ) Λ a w:=by
 obtain ⟨g,cs,e,_⟩:=h.locs _ (qa hm);refine ⟨g,h.lo,h.defers,h.size,h.base,λ x hx=>?_,h.locs,h.dis⟩;rcases qr.1 hx with rfl|hx
 ·exact e
 ·exact h.vals x hx
section
variable {P:Program}{R:Rg}{Q:Exit→Act→World→Prop}{B i:Nat}{w0:Bs}
theorem L9 {vs:Ym}(hx:HasL R B w0 i xs (vs.map EqV))(av:R.Av B w0 i a w):xs.map a.eval=vs:=by
 induction vs generalizing xs with
 | nil=>cases hx;rfl
 | cons v vs ih =>
  cases hx with
  | cons h1 h2 =>
   rw [qS,ih h2];have:_=v:=h1 a w av;rw [this]
theorem MT {f:Yn}{vs:Ym}(hx:HasL R B w0 i xs (vs.map EqV)):Wv P Q R B w0 i (.makeFunc (.func f) #[] xs.toArray) (EqA (.func (.func f) #[] vs.toArray)).va :=
 bk λ _ _ _ _ _ a w av=>by
  have e:=L9 hx av;refine ⟨.func (.func f) #[] vs.toArray,w,?_,Grow.refl w,tZ rfl⟩;simp [execOp,Instr.makeFunc,e]
end
structure RE where
 k:Int
 p:RF
 q:RF
 deriving DecidableEq
def REA (x:RE):As:=cat [NumA .u8 x.k,RFA x.p,RFA x.q]
def QEA (c:Nat)(k:Int)(p q:Rat):As:=cat [NumA .u8 k,QA c p,QA c q]
theorem dE:Str Tryz.prog 76 [NumA .u8 0,RFA rf0,RFA rf0] :=
 Str.of (z:=.agg #[.int .u8 0,.bool false,.slice none 0 0,.bool false,.slice none 0 0,.bool false,.slice none 0 0,.bool false,.slice none 0 0]) zk x7 zk λ B w=>⟨[[.int .u8 0],[.bool false,.slice none 0 0,.bool false,.slice none 0 0],[.bool false,.slice none 0 0,.bool false,.slice none 0 0]],rfl,.cons rfl (.cons (f9 B w) (.cons (f9 B w) .nil))⟩
def elK (k ps qs:Int):Bool:=if k==1 then decide (ps≥0)&&(qs==0) else if k==2 then (qs==0) else if k==3 then decide (ps≥0)&&decide (qs>0) else if k==4 then true else ((k==5)&&(ps==0))&&(qs==0)
def elF (x:RE):Bool:=[x.p,x.q].all okX&&elK x.k (toQ x.p).num.sign (toQ x.q).num.sign
def elQ (k:Int)(p q:Rat):MQ:=if k=1 then ⟨1,p,0,1⟩ else if k=2 then ⟨1,0,0-p,1⟩ else if k=3 then ⟨1,p/q,0,1⟩ else if k=4 then ⟨1,0,0-p*q,1⟩ else ⟨0-1,0-0,0-0,0-1⟩
def elM (x:RE):MQ:=elQ x.k (toQ x.p) (toQ x.q)
def ei (xs:List RE):MQ:=xs.foldl (λ m x=>mulQ (elM x) m) ⟨1,0,0,1⟩
def chF (xs:List RE):Int:=if xs.length>4096 then 4 else if xs.all elF then 0 else 1
theorem HG {x:RE}(h:(![x.p,x.q].all okX)=true):elF x=false:=by rw [qy] at h;rw [elF,h];rfl
theorem HF {x:RE}(h:(![x.p,x.q].all okX)=false):[x.p,x.q].all okX=true∧elF x=elK x.k (toQ x.p).num.sign (toQ x.q).num.sign:=by rw [ju] at h;exact ⟨h,by rw [elF,h];rfl⟩
theorem el_q {x:RE}(h:[x.p,x.q].all okX=true):WkA (REA x) (QEA 2048 x.k (toQ x.p) (toQ x.q)):=by
 simp only [xH,xQ,xJ,ql] at h;exact br (.cons (WkA.refl _) (.cons (qa_x h.1 (qi _)) (.cons (qa_x h.2 (qi _)) .nil)))
theorem GO (x:RE):UpA (REA x) (REA x):=iS (.cons (lD _ _) (.cons (eI _) (.cons (eI _) .nil)))
theorem kd1 {k ps qs:Int}(h:(k==1)=true):elK k ps qs=(decide (ps≥0)&&(qs==0)):=by rw [elK,h];rfl
theorem kd2 {k ps qs:Int}(h1:(k==1)=false)(h:(k==2)=true):elK k ps qs=(qs==0):=by rw [elK,h1,h];rfl
theorem kd3 {k ps qs:Int}(h1:(k==1)=false)(h2:(k==2)=false)(h:(k==3)=true):elK k ps qs=(decide (ps≥0)&&decide (qs>0)):=by rw [elK,h1,h2,h];rfl
theorem kd4 {k ps qs:Int}(h1:(k==1)=false)(h2:(k==2)=false)(h3:(k==3)=false)(h:(k==4)=true):elK k ps qs=true:=by rw [elK,h1,h2,h3,h];rfl
theorem kd5 {k ps qs:Int}(h1:(k==1)=false)(h2:(k==2)=false)(h3:(k==3)=false)(h4:(k==4)=false):elK k ps qs=(((k==5)&&(ps==0))&&(qs==0)):=by rw [elK,h1,h2,h3,h4];rfl
theorem La (x:RE):Cn Tryz.prog 179 [(REA x).va] (Bo (elF x)):=by
 refine Cn.intro Tryz.func179 G zk nq (zy [(0,(REA x).va)] λ B w0 a U=>?_);refine qb<|zg [] [zpL 1 76 0 _] Uv Uw U (zW 0 G (zE G aE)) (zz Ux S4 ?_);refine ztA<|zsA<|zgA U4 [] (.adr 5 1 (.some 1) True::.v 6 _::.adr 7 1 (.some 5) True::(Ww 8)) [.g 0,.o 6] (zO 0 G bL (zL 0 0 1 G ax (zO 0 G bZ (zL 2 0 2 G ax (zv G (bR (D:=[U32]) (l:=[_,_]) (xs:=[.tmp 6,.tmp 8]) (cO zk) du zk (n_ok zk) nq nq nq (.p (vq 1 G) (vq 3 G)) G G) (zQ G (Gm [x.p,x.q] nq) (.o (vq 4 G)) (zv G (dc (vq 5 G)) o0))))))) (zz (Wc 2 11) S4 λ a w U=>?_);refine zJ 1 U G (λ hb0=>?_) (λ hb0=>?_)
 ·refine qb<|zg U6 [] UA U2 U (zE G aE) (zz Ux S4 λ a w U=>?_);refine aa<|qh<|aj ?_;refine al ?_ (am G U (zm 0 G));rw [HG hb0];exact aG
 ·obtain ⟨hx,he⟩:=HF hb0;have U:=U.wkL 0 rfl (el_q hx);refine qj<|zt<|zgd RT U4 [] (.adr 12 1 (.some 1) True::(W6 13 (.adr 15 1 (.some 5) True::(W6 16 (W6 3))))) [.g 0,.o 6,.o 7] ac U (zO 0 G bL (zL 0 0 1 G ax (zQ G sign_q (.o (vq 1 G)) (zO 0 G bZ (zL 3 0 2 G ax (zQ G sign_q (.o (vq 4 G)) (zA 2 G (zA 5 G o0)))))))) zk zk zk zk (zz (Wa 2 3 4) S4 ?_);refine ztA<|zsA<|zgA U4 [] [.adr 18 1 (.some 0) True,.v 19 _] WX (zO 0 G cR (zL 0 0 0 G lO o0)) (zz (Wf 2 3 4 19) S4 λ a w U=>?_);refine aa<|qk<|qb<|zg U6 [] [.v 21 _,.v 20 _] Rh U (zv G (bC (gq 3 G) ab) (zA 0 G o0)) (zz (W8 2 3 4 19 20) S4 λ a w U=>?_);refine zJ 4 U G (λ hb1=>?_) (λ hb1=>?_)
  ·refine qb<|zg U6 [] (Wb 22 [.t 25 _,.t 26 _,.v 27 _,.v 2 _]) [.g 1,.g 2,.o 6] U (zM 1 G (zv G (dP (vq 0 G) ab) (zV 1 G (zB 2 G (λ hg=>aq (gq 2 G)) (zB 2 G (λ hg=>bC (ae (vq 3 G) hg) ab) (zv G (bv (vq 2 G) (vq 4 G)) (zA 5 G o0))))))) (zz (Wa 3 4 2) S4 λ a w U=>?_);refine aa<|qh<|aD ?_;refine aj ?_;refine al ?_ (am G U (zm 2 G));rw [he,kd1 hb1];exact aG
  ·refine qb<|zg U6 [] [.v 29 _,.v 28 _] Rh U (zv G (bC (gq 3 G) ab) (zA 0 G o0)) (zz (W8 2 3 4 19 28) S4 λ a w U=>?_);refine zJ 4 U G (λ hb2=>?_) (λ hb2=>?_)
   ·refine qb<|zg U6 [] (W6 30 [.v 2 _]) WQ U (zM 2 G (zv G (bC (vq 0 G) ab) (zA 1 G o0))) (zz (Wa 3 4 2) S4 λ a w U=>?_);refine aa<|qh<|aD ?_;refine aj ?_;refine al ?_ (am G U (zm 2 G));rw [he,kd2 hb1 hb2];exact aG
   ·refine qb<|zg U6 [] [.v 33 _,.v 32 _] Rh U (zv G (bC (gq 3 G) ab) (zA 0 G o0)) (zz (W8 2 3 4 19 32) S4 λ a w U=>?_);refine zJ 4 U G (λ hb3=>?_) (λ hb3=>?_)
    ·refine qb<|zg U6 [] (Wb 34 [.t 37 _,.t 38 _,.v 39 _,.v 2 _]) [.g 1,.g 2,.o 6] U (zM 1 G (zv G (dP (vq 0 G) ab) (zV 1 G (zB 2 G (λ hg=>aq (gq 2 G)) (zB 2 G (λ hg=>cM (ae (vq 3 G) hg) ab) (zv G (bv (vq 2 G) (vq 4 G)) (zA 5 G o0))))))) (zz (Wa 3 4 2) S4 λ a w U=>?_);refine aa<|qh<|aD ?_;refine aj ?_;refine al ?_ (am G U (zm 2 G));rw [he,kd3 hb1 hb2 hb3];exact aG
    ·refine qb<|zg U6 [] [.v 41 _,.v 40 _] WX U (zv G (bC (gq 3 G) ab) (zA 0 G o0)) (zz (Wf 2 3 4 40) S4 λ a w U=>?_);refine zJ 3 U G (λ hb4=>?_) (λ hb4=>?_)
     ·refine qb<|zg U6 [] UA [.g 1,.g 2,.o 0] U (zE G aE) (zz (Wa 3 4 2) S4 λ a w U=>?_);refine aa<|qh<|aD ?_;refine aj ?_;refine al ?_ (am G U (zm 2 G));rw [he,kd4 hb1 hb2 hb3 hb4];exact aG
     ·refine qj<|ak ?_;refine zt<|zg U6 [] (.adr 42 1 (.some 0) True::(Wb 43 (.t 46 _::.t 47 _::(W6 48 [.t 50 _,.t 51 _,.v 52 _,.v 2 _])))) [.o 11] U (zO 0 G cR (zL 0 0 0 G lO (zv G (bC (vq 1 G) ab) (zV 2 G (zB 3 G (λ hg=>aq (gq 1 G)) (zB 3 G (λ hg=>bC (ae (vq 4 G) hg) ab) (zv G (bv (vq 3 G) (vq 5 G)) (zV 6 G (zB 7 G (λ hg=>aq (gq 2 G)) (zB 7 G (λ hg=>bC (ae (vq 8 G) hg) ab) (zv G (bv (vq 7 G) (vq 9 G)) (zA 10 G o0)))))))))))) (zz Ux S4 λ a w U=>?_);refine aa<|qh<|al ?_ (am G U (zm 0 G));rw [he,kd5 hb1 hb2 hb3 hb4];exact aG
theorem nw {α:Type}{p:α→Bool}{l:List α}(h:j<l.length)(h2:p l[j]=false):l.all p=false:=wa.2 ⟨_,qg h,by simp [h2]⟩
theorem ny {α:Type}{p:α→Bool}{l:List α}(h:j<l.length)(h1:(l.take j).all p=true)(h2:p l[j]=true):(l.take (j+1)).all p=true:=by
 rw [qw h,wt,h1];simp [h2]
theorem Ac (xs:List RE):Cn Tryz.prog 103 [(SlA 76 [U32] (xs.map REA)).va] (In (chF xs)):=by
 refine Cn.introW Tryz.func103 rfl zk nq (.cons (iY (λ A hA=>by obtain ⟨x,_,rfl⟩:=qq.1 hA;exact GO x)).va .nil) (co _ _).va (λ B w0 a hB0 U=>?_);have U:=zn [(0,(SlO 76 [U32] (xs.map REA) True).va)] [] U;have hl:=IS (U.vals (0,(SlO 76 [U32] (xs.map REA) True).va) (zm 0 rfl));rw [qc] at hl;refine qb<|zh UA Rk U (zE G ab) (zz Rl [] ?_);refine ztA<|zsA<|zhA (Wb 5) U1 (zM 0 G (zv G (bg zp (bz (aC (vq 0 G)))) (zv G (cM (vq 1 G) ab) o0))) (zz (Wa 0 2 7) [] λ a w U=>?_);refine zJ 2 U G (λ hb0=>?_) (λ hb0=>?_)
 ·have hbig:xs.length>4096:=by rw [qc] at hb0;have:=qt hb0;omega
  refine qb<|zh UA Rk U (zE G ab) (zz Rl [] λ a w U=>?_);refine aa<|qh<|aj ?_;refine al ?_ (am G U (zm 1 G));rw [chF,qC hbig];exact aG
 ·have hbig:¬ xs.length>4096:=by rw [qc] at hb0;have:=qv hb0;omega
  refine qj<|zt<|qb<|zh (Wb 8) Ur U (zM 0 G (zv G (bg zp (bz (aC (vq 0 G)))) (zv G (aq ab) o0))) (zz (Wf 2 8 9 10) [] λ a w U=>?_);refine aa<|qk ?_;have U:=U.sel [1,2,3];refine wp_loop_ghost (λ n a w=>∃ j:Nat,(n+j=xs.length∧(xs.take j).all elF=true)∧St B w0 18 [(8,(SlO 76 [U32] (xs.map REA) True).va),(9,In (xs.length:Nat)),(10,In (j:Nat))] [] a w) (xs.length) ?_ ?_
  ·exact ⟨0,⟨by omega,rfl⟩,by rw [qc] at U;exact U⟩
  intro n a w hI;obtain ⟨j,⟨hn,hno⟩,U⟩:=hI;refine qb<|zh [.v 11 _] WZ U (zv G (aN (gq 2 G) (gq 1 G)) o0) (zz (Wf 8 9 10 11) [] λ a w U=>?_);refine zt<|cd U (zm 3 G) (λ hb1=>?_) (λ hb1=>?_)
  ·have hj:j<xs.length:=by simp at hb1;omega
   refine qj<|zt<|qk<|qb<|zg [] [⟨4,76,ptrH,some 2,_,some (3,_)⟩] (W6 12 [.alc 0,.sto 0]) W7 U (zv G (bB mx (bX λ _=>rfl) (bz (aC (gq 0 G))) (gq 2 G) (bn hj)) (zv G (ao (vq 0 G) dq) (zY G (Str.zero dE) (zS 1 G dq o0)))) (zz (Wa 8 9 10) [O 4 76 _] ?_);refine ztA<|zgA U4 [] (Wb 14) UG (zl 0 G dq (zQ G (La _) (.o (vq 0 G)) (zv G (dc (vq 1 G)) o0))) (zz (Wf 8 9 10 16) [O 4 76 _] λ a w U=>?_);refine zJ 3 U G (λ hb2=>?_) (λ hb2=>?_)
   ·refine qb<|zg U6 [] UA WZ U (zE G ab) (zz (Wf 8 9 10 2) [O 4 76 _] λ a w U=>?_);refine aa<|qh<|aD ?_;refine aj ?_;refine aj ?_;refine aD ?_;refine aj ?_;refine al ?_ (am G U (zm 3 G));rw [chF,qz hbig,nw hj (by simpa using hb2)];exact aG
   ·refine qj<|ak ?_;refine aa<|zg U6 [] [.v 17 _,.v 10 _] UI U (zv G (aL (gq 2 G) ab ((wi64 zo zo).trans (by omega:(_:Int)=((j+1:Nat):Int)))) (zV 0 G o0)) (zz (Wa 8 9 10) [O 4 76 _] λ a w U=>?_);refine aa ?_;have U:=U.sel [0,1,2];have U:=U.selL [];exact ⟨n-1,by omega,j+1,⟨by omega,ny hj hno (by simpa using hb2)⟩,U⟩
  ·obtain rfl:j=xs.length:=by simp at hb1;omega
   refine qL<|ai<|ai<|az<|zt<|zh UA U2 U (zE G ab) (zz Ux [] λ a w U=>?_);refine aa<|qh<|al ?_ (am G U (zm 0 G));rw [qH] at hno;rw [chF,qz hbig,hno];exact aG
def RepM (b:Nat)(m:MQ):Prop:=∃ n1 n2 n3 n4 D:Int,D≠0∧m.a=(n1:Rat)/(D:Rat)∧m.b=(n2:Rat)/(D:Rat)∧m.c=(n3:Rat)/(D:Rat)∧m.d=(n4:Rat)/(D:Rat)∧lz n1≤b∧lz n2≤b∧lz n3≤b∧lz n4≤b∧lz D≤b
theorem Bt {m:MQ}(h:RepM b m):bQ b m.a∧bQ b m.b∧bQ b m.c∧bQ b m.d:=by
 obtain ⟨n1,n2,n3,n4,D,hD,e1,e2,e3,e4,h1,h2,h3,h4,h5⟩:=h;rw [e1,e2,e3,e4,← jw,← jw,← jw,← jw];obtain ⟨a1,a2⟩:=gV (p:=n1) hD;obtain ⟨b1,b2⟩:=gV (p:=n2) hD;obtain ⟨c1,c2⟩:=gV (p:=n3) hD;obtain ⟨d1,d2⟩:=gV (p:=n4) hD;exact ⟨⟨by omega,by omega⟩,⟨by omega,by omega⟩,⟨by omega,by omega⟩,⟨by omega,by omega⟩⟩
theorem pd {a b c d D E:Rat}(hD:D≠0)(hE:E≠0):a/D*(c/E)+b/D*(d/E)=(a*c+b*d)/(D*E):=by grind
theorem uI {a b x y:Int}(ha:lz a≤c)(hb:lz b≤c)(hx:lz x≤d)(hy:lz y≤d):lz (a*x+b*y)≤c+d+1:=by
 have h1:=rL (a*x) (b*y);have h2:=iy a x;have h3:=iy b y;omega
theorem Br {m q:MQ}(hm:RepM c m)(hq:RepM d q):RepM (c+d+1) (mulQ m q):=by
 obtain ⟨n1,n2,n3,n4,D,hD,e1,e2,e3,e4,h1,h2,h3,h4,h5⟩:=hm;obtain ⟨k1,k2,k3,k4,E,hE,f1,f2,f3,f4,g1,g2,g3,g4,g5⟩:=hq;have hDr:(D:Rat)≠0:=λ e=>hD (by exact_mod_cast e);have hEr:(E:Rat)≠0:=λ e=>hE (by exact_mod_cast e);refine ⟨n1*k1+n2*k3,n1*k2+n2*k4,n3*k1+n4*k3,n3*k2+n4*k4,D*E,k7 hD hE,?_,?_,?_,?_,uI h1 h2 g1 g3,uI h1 h2 g2 g4,uI h3 h4 g1 g3,uI h3 h4 g2 g4,?_⟩
 ·simp only [mulQ,e1,e2,f1,f3,j8,j7];exact pd hDr hEr
 ·simp only [mulQ,e1,e2,f2,f4,j8,j7];exact pd hDr hEr
 ·simp only [mulQ,e3,e4,f1,f3,j8,j7];exact pd hDr hEr
 ·simp only [mulQ,e3,e4,f2,f4,j8,j7];exact pd hDr hEr
 ·have:=iy D E;omega
theorem uo {m:MQ}(n1 n2 n3 n4 D:Int)(hD:D≠0)(e1:m.a*(D:Rat)=(n1:Rat))(e2:m.b*(D:Rat)=(n2:Rat))(e3:m.c*(D:Rat)=(n3:Rat))(e4:m.d*(D:Rat)=(n4:Rat))(h1:lz n1≤b)(h2:lz n2≤b)(h3:lz n3≤b)(h4:lz n4≤b)(h5:lz D≤b):RepM b m:=by
 have hDr:(D:Rat)≠0:=λ e=>hD (by exact_mod_cast e);have key:∀ {x:Rat}{n:Int},x*(D:Rat)=(n:Rat)→x=(n:Rat)/(D:Rat):=λ h=>by rw [← h];exact (Rat.mul_div_cancel hDr).symm
 exact ⟨n1,n2,n3,n4,D,hD,key e1,key e2,key e3,key e4,h1,h2,h3,h4,h5⟩
theorem DC (x:Rat):x*((x.den:Int):Rat)=(x.num:Rat):=by
 have:=Qj x;have hd:=Oh x;generalize ((x.den:Int):Rat)=d at *;generalize (x.num:Rat)=n at *
 grind
theorem lz_0:lz 0=0:=by kernel_rfl
theorem ph:lz 1≤1:=jy zk
theorem ME {x:Rat}(h:bQ k x):RepM k ⟨1,x,0,1⟩:=uo (x.den:Int) x.num 0 (x.den:Int) (x.den:Int) (by have:=x.den_pos;omega) (jY _) (DC x) (vo _) (jY _) h.2 h.1 (by rw [lz_0];omega) h.2 h.2
theorem MD {x:Rat}(h:bQ k x):RepM k ⟨1,0,x,1⟩:=uo (x.den:Int) 0 x.num (x.den:Int) (x.den:Int) (by have:=x.den_pos;omega) (jY _) (vo _) (DC x) (jY _) h.2 (by rw [lz_0];omega) h.1 h.2 h.2
theorem PB:RepM 1 ⟨1,0,0,1⟩:=uo 1 0 0 1 1 zd (by grind) (by grind) (by grind) (by grind) ph (by rw [lz_0];omega) (by rw [lz_0];omega) ph ph
theorem PA:RepM 1 ⟨0-1,0-0,0-0,0-1⟩:=uo (-1) 0 0 (-1) 1 zd (by grind) (by grind) (by grind) (by grind) nq (by rw [lz_0];omega) (by rw [lz_0];omega) nq ph
theorem io {m:MQ}(h:RepM b m)(hc:b≤c):RepM c m:=by
 obtain ⟨n1,n2,n3,n4,D,hD,e1,e2,e3,e4,h1,h2,h3,h4,h5⟩:=h;exact ⟨n1,n2,n3,n4,D,hD,e1,e2,e3,e4,by omega,by omega,by omega,by omega,by omega⟩
theorem I5 {x:Rat}(h:bQ k x):bQ k (0-x):=by
 have e:0-x = -x:=by grind
 rw [e];exact ⟨by rw [vz,lK];exact h.1,by rw [vA];exact h.2⟩
theorem P5 {x y:Rat}(hx:bQ c x)(hy:bQ d y)(h0:y≠0):bQ (c+d) (x/y):=by
 rw [← sQ];obtain ⟨h1,h2⟩:=gV (p:=x.num*(y.den:Int)) (C7 x h0);have h3:=iy x.num (y.den:Int);have h4:=iy (x.den:Int) y.num;obtain ⟨x1,x2⟩:=hx;obtain ⟨y1,y2⟩:=hy;exact ⟨by omega,by omega⟩
theorem Hh {x:RF}(h:okX x=true):bQ 2048 (toQ x):=(yB h).2
theorem fq {x:RE}(h:elF x=true):[x.p,x.q].all okX=true∧(x.k=1∨x.k=2∨(x.k=3∧toQ x.q≠0)∨x.k=4∨x.k=5):=by
 unfold elF at h;rw [ql] at h;refine ⟨h.1,?_⟩;have h2:=h.2;by_cases h1:x.k=1
 ·exact .inl h1
 ·by_cases h3:x.k=2
  ·exact .inr (.inl h3)
  ·by_cases h4:x.k=3
   ·rw [kd3 (by simpa using h1) (by simpa using h3) (by simpa using h4),ql] at h2;refine .inr (.inr (.inl ⟨h4,λ e=>?_⟩));rw [e] at h2;have:=qt h2.2;exact absurd this zd
   ·by_cases h5:x.k=4
    ·exact .inr (.inr (.inr (.inl h5)))
    ·rw [kd5 (by simpa using h1) (by simpa using h3) (by simpa using h4) (by simpa using h5)] at h2;simp only [ql,xv] at h2;exact .inr (.inr (.inr (.inr h2.1.1)))
theorem HE {x:RE}(h:elF x=true):RepM 4096 (elM x):=by
 obtain ⟨hx,hk⟩:=fq h;simp only [xH,xQ,xJ,ql] at hx;have bp:=Hh hx.1;have bq:=Hh hx.2;unfold elM;rcases hk with hk|hk|⟨hk,h0⟩|hk|hk <;> rw [hk]
 ·exact io (ME bp) zd
 ·exact io (MD (I5 bp)) zd
 ·exact ME (P5 bp bq h0)
 ·exact MD (I5 (P4 bp bq))
 ·exact io PA zd
theorem BN {xs:List RE}(h:j<xs.length):ei (xs.take (j+1))=mulQ (elM xs[j]) (ei (xs.take j)):=by
 rw [qw h];unfold ei;rw [v7]
 rfl
theorem oO {xs:List RE}(h:xs.all elF=true):∀ j,j≤xs.length→RepM (1+4097*j) (ei (xs.take j))
 | 0,_=>PB
 | j+1,hj=>by
  rw [BN zo];exact io (Br (HE (qe.1 h _ (qg zo))) (oO h j zo)) zo
theorem F8 {k k':Nat}{x:Rat}(h:bQ k' x):WkA (QA k x) (QA k' x):=qaA.trans (F7 h.1 h.2)
theorem QX {xs:List RE}(h:chF xs=0):xs.length≤4096∧xs.all elF=true:=by
 unfold chF at h;by_cases h1:xs.length>4096
 ·rw [qC h1] at h;exact absurd h zd
 ·rw [qz h1] at h;cases h2:xs.all elF with
  | true=>exact ⟨by omega,rfl⟩
  | false=>rw [h2] at h;exact absurd h zd
theorem y7:∃ it z,Tryz.prog.info? 76=some it∧it.zero=some z∧it.size=9∧it.bytes=136∧z.cells.size=9:=by
 have h:((Tryz.prog.info? 76).bind λ it=>it.zero.map λ z=>(it.size,it.bytes,z.cells.size))=some (9,136,9):=by kernel_rfl
 cases hi:Tryz.prog.info? 76 with
 | none=>rw [hi] at h;simp at h
 | some it =>
  rw [hi] at h;cases hz:it.zero with
  | none=>simp [hz] at h
  | some z =>
   simp [hz] at h;exact ⟨it,z,rfl,hz,h.1,h.2.1,h.2.2⟩
open Go.ChangeShapes Go.WideShapes Go.ChangeAt
theorem GE {α β:Type}{R':α→β→Prop}{l1 l2:List α}{m1 m2:List β}(h:All2 R' l1 m1)(h':All2 R' l2 m2):All2 R' (l1++l2) (m1++m2):=by
 induction h with
 | nil=>exact h'
 | cons h1 _ ih=>exact .cons h1 ih
theorem Lv {l l':Yb}{ds ds':Ym}(h:(cat l).p B ds w)(h':(cat l').p B ds' w):(cat (l++l')).p B (ds++ds') w:=by
 obtain ⟨ps,rfl,h1⟩:=h;obtain ⟨ps',rfl,h2⟩:=h';exact ⟨ps++ps',by simp,GE h1 h2⟩
theorem Gq (h:A.p B ds w):(cat [A]).p B ds w:=⟨[ds],by simp,.cons h .nil⟩
section
variable {H:Type}{enc:TypeId × Value→H}{w:World}{base:Nat}{spare:Nat→Bool}{held:Bool}{fuel:Nat}{cs:List Value}{x:DataW H × List MemPlace}
end
open Go.ChangeShapes Go.WideShapes Go.ChangeAt
theorem t5 (h:(A.deps.all λ T=>D.contains T)=true):∀ T∈A.deps,T∈D:=λ T hT=>by
 have:=qe.1 h T hT;simpa using this
theorem ni {A0 A1 A2:As}(h0:A0.p B ((cs.drop 0).take A0.n) w)(h1:A1.p B ((cs.drop A0.n).take A1.n) w)(h2:A2.p B ((cs.drop (A0.n+A1.n)).take A2.n) w)(hl:cs.length=A0.n+(A1.n+A2.n)):(cat [A0,A1,A2]).p B cs w :=
 DO (by simpa using hl) λ k A hk=>by
  match k,hk with
  | 0,hk=>simp at hk;subst hk;exact h0
  | 1,hk=>simp at hk;subst hk;simpa [offs] using h1
  | 2,hk=>simp at hk;subst hk;simpa [offs] using h2
section
variable {H:Type}{enc:TypeId × Value→H}{w:World}{base:Nat}{spare:Nat→Bool}{held:Bool}{fuel:Nat}{cs:List Value}{x:DataW H × List MemPlace}
end
end Go.Proofs.YtbghmmnkciimdaaGreatDoor
