import Derived.Test.YtmacliockgbdcaaGreatDoorBfAa
import Derived.Test.YtmacliockgbdcaaGreatDoorBfAc
import Derived.Test.YtmacliockgbdcaaGreatDoorBfAo
set_option linter.unusedVariables false
set_option linter.unusedSimpArgs false
set_option linter.unusedSectionVars false
set_option maxRecDepth 100000
namespace Go.Proofs.YtmacliockgbdcaaGreatDoor
open Go Go.RowKit
structure BkRest where
 n:Nat
 vn:Value
 N:List Slt
 vy:Value
 R:List Slt
 ve:Value
 M:List Slt
abbrev nuA (X:BkRest):As:=HkA 112 3 1 X.vn X.N
abbrev ryA (X:BkRest):As:=HkA 140 142 8 X.vy X.R
abbrev elA (X:BkRest):As:=HkA 105 67 9 X.ve X.M
def BqA (X:BkRest)(vr:Value)(L:List Slot):As:=cat [NumA .i64 (X.n:Nat),HbA vr L,nuA X,EqS (.slice none 0 0),EqS (.slice none 0 0),EqS (.slice none 0 0),EqS (.slice none 0 0),EqS (.slice none 0 0),ryA X,elA X,EqS (.slice none 0 0),EqS (.slice none 0 0),EqS (.slice none 0 0),EqS (.slice none 0 0),EqS (.slice none 0 0),EqS (.slice none 0 0),EqS (.slice none 0 0)]
theorem nj {X X':BkRest}{vr vr':Value}{L L':List Slot}{B:Nat}{cs:List Value}{w w':World}(h:(BqA X vr L).p B cs w)(hn:X'.n=X.n)(f1:∀ c,(HbA vr L).p B c w→(HbA vr' L').p B c w')(f2:∀ c,(nuA X).p B c w→(nuA X').p B c w')(f3:∀ c,(ryA X).p B c w→(ryA X').p B c w')(f4:∀ c,(elA X).p B c w→(elA X').p B c w'):(BqA X' vr' L').p B cs w':=by
 obtain ⟨ps,e,hp⟩:=h
 refine ⟨ps,e,?_⟩
 cases hp with
 | cons h1 hp=>cases hp with
  | cons h2 hp=>cases hp with
   | cons h3 hp =>
    refine .cons (by rw [hn]; exact h1) (.cons (f1 _ h2) (.cons (f2 _ h3) ?_))
    iterate 5 (cases hp; rename_i h3 hp; refine .cons h3 ?_)
    cases hp; rename_i h3 hp; refine .cons (f3 _ h3) ?_
    cases hp; rename_i h3 hp; refine .cons (f4 _ h3) ?_
    iterate 7 (cases hp; rename_i h3 hp; refine .cons h3 ?_)
    cases hp
    exact .nil
theorem cG {X:BkRest}{vr:Value}{L:List Slot}{B:Nat}{cs:List Value}{w:World}(h:(BqA X vr L).p B cs w):(∃ c,(HbA vr L).p B c w)∧(∃ c,(nuA X).p B c w)∧(∃ c,(ryA X).p B c w)∧(∃ c,(elA X).p B c w):=by
 obtain ⟨ps,e,hp⟩:=h
 cases hp with
 | cons h1 hp=>cases hp with
  | cons h2 hp=>cases hp with
   | cons h3 hp =>
    iterate 5 (cases hp; rename_i _ hp)
    cases hp; rename_i h4 hp
    cases hp; rename_i h5 hp
    exact ⟨⟨_,h2⟩,⟨_,h3⟩,⟨_,h4⟩,⟨_,h5⟩⟩
theorem As.kwr {A:As}{B g T:Nat}{c c':Array Value}{cs:List Value}{w:World}(h:A.p B cs w)(hgc:w.heap[g]?=some (.cells c T (0,0)))(hT:T ∉ A.deps)(hB:B≤g):A.p B cs (w.setRow g c'):=A.wr _ _ _ _ _ _ _ _ hgc hT hB (Wr.setRow w g c') h
theorem z4 {X:BkRest}{vr:Value}{L L':List Slot}{B g T:Nat}{c c':Array Value}{cs:List Value}{w:World}(h:(BqA X vr L).p B cs w)(hgc:w.heap[g]?=some (.cells c T (0,0)))(hT:T ∉ [112,3,140,142,105,67])(hB:B≤g)(f1:∀ c0,(HbA vr L).p B c0 w→(HbA vr L').p B c0 (w.setRow g c')):(BqA X vr L').p B cs (w.setRow g c'):=by
 simp only [List.mem_cons,List.not_mem_nil,or_false,not_or] at hT
 have k:∀ {H E m:Nat} {v:Value} {M:List Slt},T≠H→T≠E→∀ c0,(HkA H E m v M).p B c0 w→(HkA H E m v M).p B c0 (w.setRow g c'):=fun {H E m v M} h1 h2 c0 hp=>As.kwr hp hgc (show T ∉ [H,E] by simp [h1,h2]) hB
 exact nj h G f1 (k hT.1 hT.2.1) (k hT.2.2.1 hT.2.2.2.1) (k hT.2.2.2.2.1 hT.2.2.2.2.2)
theorem bq_grL {X:BkRest}{vr:Value}{L L':List Slot}{B T:Nat}{row:Option Nat}{cs:List Value}{w w':World}(h:(BqA X vr L).p B cs w)(hg:w.grownBy w' row)(hr:RowOk w B T row)(hT:T ∉ [112,3,140,142,105,67])(f1:∀ c0,(HbA vr L).p B c0 w→(HbA vr L').p B c0 w'):(BqA X vr L').p B cs w':=by
 simp only [List.mem_cons,List.not_mem_nil,or_false,not_or] at hT
 have k:∀ {H E m:Nat} {v:Value} {M:List Slt},T≠H→T≠E→∀ c0,(HkA H E m v M).p B c0 w→(HkA H E m v M).p B c0 w':=fun {H E m v M} h1 h2 c0 hp=>As.grown hp hg hr (Nat.le_refl _) (show T ∉ [H,E] by simp [h1,h2])
 exact nj h G f1 (k hT.1 hT.2.1) (k hT.2.2.1 hT.2.2.2.1) (k hT.2.2.2.2.1 hT.2.2.2.2.2)
section
open Rg
variable {P:Program} {Q:Exit→Act→World→Prop} {R:Rg} {B i:Nat} {w0:Bs}
theorem BK {X:BkRest}{x:Operand}{vr:Value}{L:List Slot}{s:Slot}{q:Nat}(hx:Has R B w0 i x (EqS s.v).va)(hl:LocH R i q 58 ptrH (BqA X vr L))(hs:s∈L)(ok:okL s.xs):Has R B w0 i x (MgA s.xs).va:=fun a w av=>by
 obtain ⟨g,cs,_,_,_,h⟩:=hl.ok av
 obtain ⟨c,h⟩:=(cG h).1
 rw [jg (hx a w av)]
 exact sq (h.2.2.1 s hs).2 ok
theorem lh {X:BkRest}{x y:Operand}{vr:Value}{L:List Slot}{s:Slot}{T:TypeId}(hx:Has R B w0 i x (EqS s.v).va)(hl:Has R B w0 i y (ElP T (BqA X vr L)))(hs:s∈L)(ok:okL s.xs):Has R B w0 i x (MgA s.xs).va:=fun a w av=>by
 obtain ⟨b,o,cs,_,_,_,h,_⟩:=hl a w av
 obtain ⟨c,h⟩:=(cG h).1
 rw [jg (hx a w av)]
 exact sq (h.2.2.1 s hs).2 ok
theorem li {X:BkRest}{x y:Operand}{vr:Value}{L:List Slot}{s:Slot}{T:TypeId}(hx:Has R B w0 i x (EqS s.z).va)(hz:s.z=s.u)(hl:Has R B w0 i y (ElP T (BqA X vr L)))(hs:s∈L)(ok:okL s.ys):Has R B w0 i x (MgA s.ys).va:=fun a w av=>by
 obtain ⟨b,o,cs,_,_,_,h,_⟩:=hl a w av
 obtain ⟨c,h⟩:=(cG h).1
 rw [jg (hx a w av),hz]
 exact sq (sW (h.2.2.1 s hs).1) ok
end
theorem CJ {X:BkRest}{vr:Value}{L:List Slot}{B i k g cap:Nat}{s:Slot}{cs:List Value}{w:World}(hn:∀ s∈L,s.new)(hi:L[i]?=some s)(hk:k<s.xs.length)(hv:s.v=.slice (some ⟨g,0,none⟩) s.xs.length cap)(h:(BqA X vr (fl L i k)).p B cs w) :
  B≤g∧∃ c:Array Value,w.heap[g]?=some (Obj.cells c U32 (0,0))∧k*1<c.size∧(BqA X vr (fl L i (k+1))).p B cs (w.setRow g (c.setIfInBounds (k*1) (.int .u32 (mkN s.n:Nat)))):=by
 obtain ⟨c0,h0⟩:=(cG h).1
 have hs:=hn s (List.mem_of_getElem? hi)
 have key:∀ c1,(HbA vr (fl L i k)).p B c1 w→B≤g∧∃ c:Array Value,w.heap[g]?=some (Obj.cells c U32 (0,0))∧k<c.size∧(HbA vr (fl L i (k+1))).p B c1 (w.setRow g (c.setIfInBounds k (lv (mkN s.n)))):=fun c1 h1=>by
  have:=BI (m:=mkN s.n) (k:=k) (g:=g) (cap:=cap) h1 (x9 hi) hs.uv rfl (by rw [gS (Nat.le_of_lt hk)]; exact hv) (by rw [gS (Nat.le_of_lt hk)]; exact hk)
  rwa [C1 hi hk] at this
 obtain ⟨h2,c,h3,h4,h5⟩:=key c0 h0
 rw [Nat.mul_one]
 refine ⟨h2,c,h3,h4,z4 h h3 zd h2 (fun c1 h6=>?_)⟩
 obtain ⟨_,c',h7,_,h8⟩:=key c1 h6
 rw [h3] at h7
 injection h7 with h7
 injection h7 with h7
 subst h7
 exact h8
theorem ov {X:BkRest}{vr:Value}{M:List Slot}{B N:Nat}{w0:Bs}{Γ:List (Nat × VA)}{Λ:List Lc}{a:Act}{w:World}{s:Nat}{T:TypeId}{H:Hd}(h:St B w0 N Γ Λ a w)(k:Nat)(hm:Λ[k]?=some ⟨s,T,H,BqA X vr M⟩):RowV vr M.length∧∀ t∈M,RowV t.u t.ys.length∧RowV t.v t.xs.length:=by
 obtain ⟨g,cs,_,_,_,hp⟩:=h.locs _ (List.mem_of_getElem? hm)
 obtain ⟨c,h1,h2,h3,_⟩:=(cG hp).1
 exact ⟨(cT h2).2,fun t ht=>⟨(cT (h3 t ht).1).2,(h3 t ht).2.1⟩⟩
theorem bq_one {X:BkRest}{vr:Value}{M:List Slot}{B N:Nat}{w0:Bs}{Γ:List (Nat × VA)}{Λ:List Lc}{a:Act}{w:World}{s:Nat}{T:TypeId}{H:Hd}(h:St B w0 N Γ Λ a w)(k:Nat)(hm:Λ[k]?=some ⟨s,T,H,BqA X vr M⟩)(hz:∀ t∈M,t.z.oneCell'=true∨t.z=t.u):One1 M:=fun t ht=>by
 obtain ⟨h1,h2⟩:=(ov h k hm).2 t ht
 refine ⟨h2.one,?_⟩
 rcases hz t ht with e | e
 ·exact e
 ·rw [e]; exact h1.one
theorem bq_app {X:BkRest}{vr v':Value}{M:List Slot}{B i k:Nat}{s:Slot}{u:Value}{cs:List Value}{w:World}(hf:s.full)(hi:M[i]?=some (s.ext u k))(h:(BqA X vr M).p B cs w) :
  w.ownsRow B U32 1 u (s.xs.length+k) ((List.replicate (s.xs.length+k) (mkN s.n)).map lv)∧∀ v' w' ds,ds=[lv (mkN s.n)]→w'.ownsRow B U32 1 v' (s.xs.length+k+1) ((List.replicate (s.xs.length+k) (mkN s.n)).map lv++ds)→w.grownBy w' u.ownBlock→(v'.ownBlock=u.ownBlock∨(v'.ownBlock=some w.heap.size∧w.grownBy w' none))→(BqA X vr (M.set i (s.ext v' (k+1)))).p B cs w':=by
 have hlen:(List.replicate (s.xs.length+k) (mkN s.n)).length=s.xs.length+k:=List.length_replicate
 obtain ⟨c0,h0⟩:=(cG h).1
 have hown0:w.ownsRow B U32 1 u (s.xs.length+k) ((List.replicate (s.xs.length+k) (mkN s.n)).map lv):=by
  have:=(h0.2.2.1 _ (List.mem_of_getElem? hi)).1
  have e:(s.ext u k).ys.length=s.xs.length+k:=hlen
  rw [e] at this
  exact this
 refine ⟨hown0,fun v' w' ds hds hown hg hb=>?_⟩
 subst hds
 refine bq_grL h hg (dT hown0) zd (fun c hc=>?_)
 have:=hb_app (v':=v') (m:=mkN s.n) hc hi (by show World.ownsRow w' B U32 1 v' ((List.replicate (s.xs.length+k) (mkN s.n)).length+1) _; rw [hlen]; exact hown) hg hb fun _=>by
  show s.xs <+: List.replicate (s.xs.length+k) (mkN s.n)
  rw [hf.xm,List.length_replicate]
  exact ⟨List.replicate k (mkN s.n),List.replicate_append_replicate⟩
 have e:({ s.ext u k with u:=v',ys:=(s.ext u k).ys++[mkN s.n] }:Slot)=s.ext v' (k+1):=by
  show Slot.mk s.v s.xs v' (List.replicate (s.xs.length+k) (mkN s.n)++[mkN s.n]) s.z s.n=Slot.mk s.v s.xs v' (List.replicate (s.xs.length+(k+1)) (mkN s.n)) s.z s.n
  rw [← List.replicate_succ',Nat.add_assoc]
 rw [e] at this
 exact this
theorem bq_put {X:BkRest}{vr z:Value}{M:List Slot}{B i g cap:Nat}{s:Slot}{cs:List Value}{w:World}(hi:M[i]?=some s)(hvr:vr=.slice (some ⟨g,0,none⟩) M.length cap)(h:(BqA X vr M).p B cs w) :
  B≤g∧∃ c:Array Value,w.heap[g]?=some (Obj.cells c 108 (0,0))∧i*3+1<c.size∧(BqA X vr (M.set i { s with z:=z })).p B cs (w.setRow g (c.setIfInBounds (i*3+1) z)):=by
 obtain ⟨c0,h0⟩:=(cG h).1
 obtain ⟨h2,c,h3,h4,h5⟩:=yG z h0 hi hvr
 refine ⟨h2,c,h3,h4,z4 h h3 zd h2 (fun c1 h6=>?_)⟩
 obtain ⟨_,c',h7,_,h8⟩:=yG z h6 hi hvr
 rw [h3] at h7
 injection h7 with h7
 injection h7 with h7
 subst h7
 exact h8
def GqA (X:BkRest)(vr:Value)(L:List Slot):As where
 n:=17
 ag:=true
 p B cs w:=∃ M,Gr L M L.length∧(BqA X vr M).p B cs w
 deps:=[108,U32,112,3,140,142,105,67]
 len:=fun B cs w ⟨M,_,h⟩=>(BqA X vr M).len B cs w h
 one:=fun B cs w ⟨M,_,h⟩=>(BqA X vr M).one B cs w h
 ag1:=fun h=>by cases h
 cg:=fun B cs w w' hg ⟨M,h1,h⟩=>⟨M,h1,(BqA X vr M).cg B cs w w' hg h⟩
 wr:=fun B cs w w' g c T fz h1 h2 h3 h4 ⟨M,h5,h⟩=>⟨M,h5,(BqA X vr M).wr B cs w w' g c T fz h1 h2 h3 h4 h⟩
theorem gq_of {X:BkRest}{vr:Value}{L M:List Slot}(h:Gr L M L.length):WkA (BqA X vr M) (GqA X vr L):=⟨rfl,rfl,fun B cs w hp=>⟨M,h,hp⟩⟩
theorem gq_st {X:BkRest}{vr:Value}{L:List Slot}{B N:Nat}{w0:Bs}{Γ:List (Nat × VA)}{Λ:List Lc}{a:Act}{w:World}{s:Nat}{T:TypeId}{H:Hd}(h:St B w0 N Γ Λ a w)(k:Nat)(hm:Λ[k]?=some ⟨s,T,H,GqA X vr L⟩):∃ M,Gr L M L.length∧St B w0 N Γ (Λ.set k ⟨s,T,H,BqA X vr M⟩) a w:=by
 obtain ⟨g,cs,q1,q2,q3,M,hG,q4⟩:=h.locs _ (List.mem_of_getElem? hm)
 obtain ⟨hk,he⟩:=List.getElem?_eq_some_iff.1 hm
 have hs:∀ m∈Λ.set k ⟨s,T,H,BqA X vr M⟩,∃ m0∈Λ,m0.s=m.s:=fun m hm'=>by
  rcases List.mem_or_eq_of_mem_set hm' with hm' | rfl
  ·exact ⟨m,hm',rfl⟩
  ·exact ⟨_,List.mem_of_getElem? hm,rfl⟩
 refine ⟨M,hG,h.lo,h.defers,h.size,h.base,h.vals,fun l hl=>?_,fun m1 hm1 m2 hm2 hne=>?_⟩
 ·rcases List.mem_or_eq_of_mem_set hl with hl | rfl
  ·exact h.locs l hl
  ·exact ⟨g,cs,q1,q2,q3,q4⟩
 ·obtain ⟨m3,r1,r2⟩:=hs m1 hm1
  obtain ⟨m4,r3,r4⟩:=hs m2 hm2
  rw [← r2,← r4] at hne ⊢
  exact h.dis m3 r1 m4 r3 hne
theorem CI {X:BkRest}{vr:Value}{M:List Slot}{B N:Nat}{w0:Bs}{Γ:List (Nat × VA)}{Λ:List Lc}{a:Act}{w:World}{s:Nat}{T:TypeId}(h:St B w0 N Γ Λ a w)(k:Nat)(hm:Γ[k]?=some (s,ElP T (BqA X vr M)))(hz:∀ t∈M,t.z=t.u):One1 M:=fun t ht=>by
 obtain ⟨b,o,cs,_,_,_,hp,_⟩:=h.vals _ (List.mem_of_getElem? hm)
 obtain ⟨c,h1,h2,h3,_⟩:=(cG hp).1
 refine ⟨(h3 t ht).2.1.one,?_⟩
 rw [hz t ht]
 exact (cT (h3 t ht).1).1
theorem C3 (X:BkRest)(vr:Value)(L:List Slot)(hnew:∀ s∈L,s.new)(hl:L.length≤1000000):CK Tryz.prog 49 58 [58,108,109] (BqA X vr L) (BqA X vr (L.map fun s=>s.fil s.xs.length)) [] (Tu []):=by
 have h0:=C0 hnew
 refine CK.intro Tryz.func49 G zk nq zk (fun B g w0 a hrm U=>?_)
 have U:=zn [(0,EqV ((ptrH).f g)),] [⟨0,58,ptrH,BqA X vr L⟩] U
 rw [← h0] at U
 refine wp_seq<|zg [none] [] [.v 2 _] [.g 0,.o 0] U (zv G (a9 a8) o0) (zz [(0,_),(2,_)] [O 0 58 _] fun a w U=>?_)
 refine a7<|wp_block ?_
 have U:=St.sel U [0,1]
 refine wp_loop_ghost (fun n a w=>∃ i:Nat,n+i=L.length∧St B w0 35 [(0,EqV (ptrH.f g)),(2,In (i:Nat))] [⟨0,58,ptrH,BqA X vr (fl L i 0)⟩] a w) (L.length) ?_ ?_
 ·exact ⟨0,by omega,U⟩
 intro n a w hI
 obtain ⟨i,hn,U⟩:=hI
 have hwL:=fl_wf (i:=i) (k:=0) hnew (fun _ _=>Nat.zero_le _)
 refine wp_seq<|wp_seq<|zg [none] [] [.v 5 _,.adr 6 0 (.some 0) True,.adr 7 0 (.some 0) True,.adr 8 0 (.some (0+1)) True,.v 9 _,.v 10 _,.v 11 _] [.g 0,.g 1,.o 6] U (zM 1 G (oc (ob_a G G (fE (lz0 0 G))) (oc (ob_a G G (fD 1 G zk (lz0 0 G))) (oc (ob_a G G (dI 2 G zk trivial (lz0 0 G) dc)) (zL 3 0 1 G jA (zv G (be Tryz.underlying41 (has_wk' (vq 4 G) (hb_sl hwL))) (zv G (aN (vq 0 G) (vq 5 G)) o0))))))) (zz [(0,_),(2,_),(11,_)] [O 0 58 _] fun a w U=>?_)
 refine a7<|ah U (zm 2 G) (fun hb0=>?_) (fun hb0=>?_)
 ·have hi:i<L.length:=by simpa [ul] using hb0
  obtain ⟨s,hs⟩:∃ s,L[i]?=some s:=⟨_,List.getElem?_eq_getElem hi⟩
  have hwf:=hnew s (List.mem_of_getElem? hs)
  refine wp_skip<|zt<|wp_block<|wp_seq<|bf (sp:=[.adr 14 0 (.some 0) True,.adr 15 0 (.some 0) True,.adr 16 0 (.some (0+1)) True,.v 17 _,.v 18 _,.v 19 _,.v 20 _,.v 3 VT,.sto 0]) 7 2 0 8 OneC [.g 0,.g 1,.o 6] U (oc (ob_a G G (fE (lz0 0 G))) (oc (ob_a G G (fD 0 G zk (lz0 0 G))) (oc (ob_a G G (dI 1 G zk trivial (lz0 0 G) dc)) (zL 2 0 1 G jA (zM 1 G (zv G (cB (m:=3) ⟨Tryz.underlying41,by kernel_rfl⟩ rm (has_wk' (vq 3 G) (hb_sl hwL)) (vq 4 G) (nk (x9 hs))) (zv G (aq (vq 5 G) jO) o0))))))) G zd zk zk (zz [(0,_),(2,_),(20,_)] [O 0 58 _] fun a w U=>?_)
  rw [show List.range' 7 2=[7,8] from rfl]
  refine fI (A:=s.view) 2 [0,1] G G U (Str.zero ib) G jO G zd G zk zk (fun a w U=>?_)
  refine bq ?_
  have U:=zn [(0,_),(2,_)] [O 0 58 _,O 3 108 _] U
  refine zt<|zg [none,none] [] [.v 4 _] [.g 0,.g 1,.o 0] U (zv G (a9 a8) o0) (zz [(0,_),(2,_),(4,_)] [O 0 58 _,O 3 108 _] fun a w U=>?_)
  refine a7<|wp_block ?_
  have U:=St.sel U [0,1,2]
  refine wp_loop_ghost (fun n a w=>∃ k:Nat,n+k=s.xs.length∧St B w0 35 [(0,EqV (ptrH.f g)),(2,In (i:Nat)),(4,In (k:Nat))] [⟨0,58,ptrH,BqA X vr (fl L i k)⟩,⟨3,108,ptrH,s.view⟩] a w) (s.xs.length) ?_ ?_
  ·exact ⟨0,by omega,U⟩
  intro n a w hI
  obtain ⟨k,hn2,U⟩:=hI
  refine wp_seq<|wp_seq<|zg [none,none] [] [.v 21 _,.adr 22 3 (.some 0) True,.v 23 _,.v 24 _,.v 25 _] [.g 0,.g 1,.g 2,.o 4] U (zM 2 G (oc (ob_a G G (ac (lz0 1 G) eh)) (zL 1 1 0 G aW (zv G (aI Tryz.underlying23 (BK (s:=s.fil k) (vq 2 G) (lz0 0 G) (List.mem_of_getElem? (x9 hs)) (ut hwf.towf))) (zv G (aN (vq 0 G) (vq 3 G)) o0))))) (zz [(0,_),(2,_),(4,_),(25,_)] [O 0 58 _,O 3 108 _] fun a w U=>?_)
  refine a7<|ah U (zm 3 G) (fun hb1=>?_) (fun hb1=>?_)
  ·have hk:k<s.xs.length:=by simpa [gS (show k≤s.xs.length by omega)] using hb1
   refine wp_skip<|zt<|wp_block<|cw (sp:=[.adr 28 3 (.some 0) True,.v 29 _,.v 30 _,.adr 31 3 (.some 2) True,.v 32 _,.v 33 _,.v 34 VT,.sto 0]) [[],[0],[],[],[3],[3,4],[0,1,2,3,4,5],[0,1,2,3,4,5,6]] 6 2 0 7 OneC [.g 0,.g 1,.g 2,.o 1,.o 2,.o 5] ab U (oc (ob_a G G (ac (lz0 1 G) eh)) (zL 0 1 0 G aW (zM 2 G (oc (ob_a G G (ac (lz0 1 G) gf)) (zL 3 1 2 G ty_3 (zv G (aa (xs:=[.tmp 32]) (yr _ hwf.n1) (.cons (vq 4 G) .nil)) o0)))))) G zd zd zk (cp zk) zk zk (zz [(0,_),(2,_),(4,_),(29,_),(30,_),(33,_)] [O 0 58 _,O 3 108 _] fun a w U=>?_)
   rw [show List.range' 6 2=[6,7] from rfl]
   obtain ⟨g1,cap1,hv1⟩:=hwf.rv.row hk
   have U:=St.wkG U 3 rfl (show Wk (EqS s.v).va (EqV (.slice (some ⟨g1,0,none⟩) s.xs.length cap1)) from hv1▸lM)
   have U:=St.wkG U 5 rfl zf
   rw [wpOps_cons]
   refine iY (m:=1) (k:=k) 3 4 G U ⟨Tryz.underlying23,by kernel_rfl⟩ zd G G hk zd zk zk (fun a U=>?_)
   rw [wpOps_cons]
   refine kR (A1:=BqA X vr (fl L i (k+1))) [1,2,3] 0 6 0 G U G G G G aO G zd (hrm _ zk) zk zk (fun cs hp=>CJ hnew hs hk hv1 hp) (fun w U=>?_)
   refine d8 ?_
   have U:=zn [(0,_),(2,_),(4,_)] [⟨0,58,ptrH,BqA X vr (fl L i (k+1))⟩,O 3 108 _] U
   refine ao ?_
   refine a7<|zg [none,none] [] [.v 26 _,.v 27 _,.v 4 _] [.g 0,.g 1,.o 2] U (zM 2 G (zv G (aR (vq 0 G) a8 (aX (by have:=hwf.lx; omega))) (zA 1 G o0))) (zz [(0,_),(2,_),(4,_)] [O 0 58 _,O 3 108 _] fun a w U=>?_)
   refine a7 ?_
   have U:=St.sel U [0,1,2]
   exact ⟨n-1,by omega,k+1,by omega,U⟩
  ·have hk:k=s.xs.length:=by simp [gS (show k≤s.xs.length by omega)] at hb1; omega
   subst hk
   refine wp_exit<|ak<|ak<|aC<|ao ?_
   refine a7<|zg [none,none] [] [.v 12 _,.v 13 _,.v 2 _] [.g 0,.o 2] U (zM 1 G (zv G (aR (vq 0 G) a8 (aX (by have:=hwf.lx; omega))) (zA 1 G o0))) (zz [(0,_),(2,_)] [O 0 58 _,O 3 108 _] fun a w U=>?_)
   refine a7 ?_
   have U:=St.sel U [0,1]
   have U:=St.selL U [0]
   exact ⟨L.length-(i+1),by omega,i+1,by omega,(C2 hs hnew)▸U⟩
 ·have hi:i=L.length:=by simp [ul] at hb0; omega
  subst hi
  rw [fl_end] at U
  refine wp_exit<|ak<|ak<|aC<|cD<|fG U (zm 0 G) (zm 0 G) ?_
  exact aS (rs:=[]) G U .nil zd
theorem BN (X:BkRest)(vr:Value)(L:List Slot)(hfull:∀ s∈L,s.full)(hl:L.length≤1000000):CK Tryz.prog 65 58 [58,108,109] (BqA X vr L) (GqA X vr L) [] (Tu []):=by
 obtain ⟨it0,z0,hi0,hz0,hs0,hb0',hc0⟩:=xE
 refine CK.intro Tryz.func65 G zk nq zk (fun B g w0 a hrm U=>?_)
 have U:=zn [(0,EqV ((ptrH).f g)),] [⟨0,58,ptrH,BqA X vr L⟩] U
 refine wp_seq<|zg [none] [] [.v 2 _] [.g 0,.o 0] U (zv G (a9 a8) o0) (zz [(0,_),(2,_)] [O 0 58 _] fun a w U=>?_)
 refine a7<|wp_block ?_
 have U:=St.sel U [0,1]
 refine wp_loop_ghost (fun n a w=>∃ (i:Nat) (M:List Slot),(n+i=L.length∧Gr L M i)∧St B w0 42 [(0,EqV (ptrH.f g)),(2,In (i:Nat))] [⟨0,58,ptrH,BqA X vr M⟩] a w) (L.length) ?_ ?_
 ·exact ⟨0,L,⟨by omega,gr_0⟩,U⟩
 intro n a w hI
 obtain ⟨i,M,⟨hn,hG⟩,U⟩:=hI
 have h1M:=bq_one U 0 rfl (gr_z hG hfull)
 refine wp_seq<|wp_seq<|zg [none] [] [.v 6 _,.adr 7 0 (.some 0) True,.adr 8 0 (.some 0) True,.adr 9 0 (.some (0+1)) True,.v 10 _,.v 11 _,.v 12 _] [.g 0,.g 1,.o 6] U (zM 1 G (oc (ob_a G G (fE (lz0 0 G))) (oc (ob_a G G (fD 1 G zk (lz0 0 G))) (oc (ob_a G G (dI 2 G zk trivial (lz0 0 G) dc)) (zL 3 0 1 G jA (zv G (be Tryz.underlying41 (has_wk' (vq 4 G) (pu h1M))) (zv G (aN (vq 0 G) (vq 5 G)) o0))))))) (zz [(0,_),(2,_),(12,_)] [O 0 58 _] fun a w U=>?_)
 refine a7<|ah U (zm 2 G) (fun hb0=>?_) (fun hb0=>?_)
 ·have hi:i<L.length:=by have:=hG.1; simpa [this] using hb0
  obtain ⟨s,hs⟩:∃ s,L[i]?=some s:=⟨_,List.getElem?_eq_getElem hi⟩
  have hf:=hfull s (List.mem_of_getElem? hs)
  have hn1:=hf.n1
  have hMi:=gr_at hG hs
  have hMlt:i<M.length:=by rw [hG.1]; exact hi
  refine wp_skip<|zt<|wp_block<|wp_seq<|bf (sp:=[.adr 15 0 (.some 0) True,.adr 16 0 (.some 0) True,.adr 17 0 (.some (0+1)) True,.v 18 _,.v 19 _,.v 20 _,.v 21 _,.v 3 VT,.sto 0]) 7 2 0 8 OneC [.g 0,.g 1,.o 6] U (oc (ob_a G G (fE (lz0 0 G))) (oc (ob_a G G (fD 0 G zk (lz0 0 G))) (oc (ob_a G G (dI 1 G zk trivial (lz0 0 G) dc)) (zL 2 0 1 G jA (zM 1 G (zv G (cB (m:=3) ⟨Tryz.underlying41,by kernel_rfl⟩ rm (has_wk' (vq 3 G) (pu h1M)) (vq 4 G) (nk hMi)) (zv G (aq (vq 5 G) jO) o0))))))) G zd zk zk (zz [(0,_),(2,_),(21,_)] [O 0 58 _] fun a w U=>?_)
  rw [show List.range' 7 2=[7,8] from rfl]
  refine fI (A:=s.view) 2 [0,1] G G U (Str.zero ib) G jO G zd G zk zk (fun a w U=>?_)
  refine bq ?_
  have U:=zn [(0,_),(2,_)] [O 0 58 _,O 3 108 _] U
  refine zt<|zg [none,none] [] [.adr 22 3 (.some 0) True,.v 23 _,.v 4 _] [.g 0,.g 1,.o 2] U (oc (ob_a G G (ac (lz0 1 G) eh)) (zL 0 1 0 G aW (zA 1 G o0))) (zz [(0,_),(2,_),(4,_)] [O 0 58 _,O 3 108 _] fun a w U=>?_)
  refine zt<|wp_seq<|zg [none,none] [] [.v 5 _] [.g 0,.g 1,.g 2,.o 0] U (zv G (a9 a8) o0) (zz [(0,_),(2,_),(4,_),(5,_)] [O 0 58 _,O 3 108 _] fun a w U=>?_)
  refine a7<|wp_block ?_
  have U:=St.sel U [0,1,2,3]
  refine wp_loop_ghost (fun n a w=>∃ (k:Nat) (u:Value),n+k=70∧St B w0 42 [(0,EqV (ptrH.f g)),(2,In (i:Nat)),(4,EqV u),(5,In (k:Nat))] [⟨0,58,ptrH,BqA X vr (M.set i (s.ext u k))⟩,⟨3,108,ptrH,s.view⟩] a w) (70) ?_ ?_
  ·have U:=St.cvA (A':=BqA X vr (M.set i (s.ext s.v 0))) U 0 rfl (show BqA X vr M=_ by rw [ext_0 hf,vO hMi]); have U:=St.wkG U 2 rfl lM; exact ⟨0,s.v,by omega,U⟩
  intro n a w hI
  obtain ⟨k,u,hn2,U⟩:=hI
  refine wp_seq<|wp_seq<|zg [none,none] [] [.v 24 _,.v 25 _] [.g 0,.g 1,.g 2,.g 3,.o 1] U (zM 3 G (zv G (aN (vq 0 G) a8) o0)) (zz [(0,_),(2,_),(4,_),(5,_),(25,_)] [O 0 58 _,O 3 108 _] fun a w U=>?_)
  refine a7<|ah U (zm 4 G) (fun hb1=>?_) (fun hb1=>?_)
  ·have hk:k<70:=by have:=hb1; simp at this; omega
   refine wp_skip<|zt<|wp_block<|bf (sp:=[.v 28 _,.adr 29 3 (.some 2) True,.v 30 _,.v 31 _,.v 32 _,.v 33 VT,.v 4 VT]) 5 2 99 9 OneC [.g 0,.g 1,.g 3,.o 0,.o 4] U (zM 2 G (oc (ob_a G G (ac (lz0 1 G) gf)) (zL 1 1 2 G ty_3 (zv G (aa (xs:=[.tmp 30]) (yr _ hn1) (.cons (vq 2 G) .nil)) (zv G (da (l:=[_]) (xs:=[.tmp 31]) aZ zk nq nq (okm hn1) (.cons (vq 3 G) .nil) G G) o0))))) G zd zk zk (zz [(0,_),(2,_),(5,_),(28,_),(32,_)] [O 0 58 _,O 3 108 _] fun a w U=>?_)
   rw [show List.range' 5 2=[5,6] from rfl]
   have U:=St.wkG U 4 rfl D3
   rw [wpOps_cons]
   refine fJ (A1:=fun v'=>BqA X vr (M.set i (s.ext v' (k+1)))) (X:=NumA .u32 (mkN s.n:Nat)) (F:=fun ds=>ds=[lv (mkN s.n)]) [0,1,2] 3 4 0 rfl U rfl rfl (fun ds h=>h) rfl rfl rfl (hrm _ zk) Tryz.underlying23 hi0 hz0 hs0 hb0' hc0 Nat.one_pos (n:=s.xs.length+k) (by have:=hf.lx; omega) (by have:=hf.lx; omega) zd zk zk zk zk (fun cs hp=>by have h:=bq_app (v':=undef) hf (by rw [List.getElem?_set_self hMlt]) hp; simp only [s0] at h; exact h) (fun v' w U=>?_)
   rw [wpOps_cons]
   refine dh 0 G U G zd zk zk (fun a U=>?_)
   refine bq ?_
   have U:=zn [(4,_),(33,_),(0,_),(2,_),(5,_)] [⟨0,58,ptrH,BqA X vr (M.set i (s.ext v' (k+1)))⟩,O 3 108 _] U
   refine ao ?_
   refine a7<|zg [none,none] [] [.v 26 _,.v 27 _,.v 5 _] [.g 0,.g 2,.g 3,.o 2] U (zM 4 G (zv G (aR (vq 0 G) a8 (aX zo)) (zA 1 G o0))) (zz [(4,_),(0,_),(2,_),(5,_)] [O 0 58 _,O 3 108 _] fun a w U=>?_)
   refine a7 ?_
   have U:=St.sel U [1,2,0,3]
   exact ⟨n-1,by omega,k+1,v',by omega,U⟩
  ·have hk:k=70:=by simp at hb1; omega
   subst hk
   have hu:=((ov U 0 rfl).2 _ (List.mem_set hMlt _)).1
   have hu1:=hu.one
   have hu2:u.cells = #[u]:=hu.cell
   refine wp_exit<|ak<|ak<|aC<|a7<|bf (sp:=[.adr 34 0 (.some 0) True,.adr 35 0 (.some 0) True,.adr 36 0 (.some (0+1)) True,.v 37 _,.v 38 _,.v 39 _,.v 40 VT,.v 41 VT,.sto 0]) 6 3 0 8 OneC [.g 0,.g 1,.o 3,.o 4,.o 5] U (oc (ob_a G G (fE (lz0 0 G))) (oc (ob_a G G (fD 0 G zk (lz0 0 G))) (oc (ob_a G G (dI 1 G zk trivial (lz0 0 G) dc)) (zL 2 0 1 G jA (zM 1 G (zM 2 G o0)))))) G zd zk zk (zz [(0,_),(2,_),(37,_),(38,_),(39,_)] [O 0 58 _,O 3 108 _] fun a w U=>?_)
   rw [show List.range' 6 3=[6,7,8] from rfl]
   have U:=St.selL U [0]
   have U:=St.wkG U 2 rfl BJ
   have hvr:=(ov U 0 rfl).1
   obtain ⟨g1,cap1,hv1⟩:=hvr.row (show i<_ by rw [List.length_set,hG.1]; exact hi)
   have U:=St.cvG U 2 rfl (congrArg EqV hv1)
   rw [wpOps_cons]
   refine iY (m:=3) (k:=i) 2 3 G U ⟨Tryz.underlying41,by kernel_rfl⟩ zd G G (by rw [List.length_set,hG.1]; exact hi) zd zk zk (fun a U=>?_)
   rw [wpOps_cons]
   refine eu 0 G U gh G zd zk zk (fun a U=>?_)
   rw [wpOps_cons]
   refine kR (A1:=BqA X vr ((M.set i (s.ext u 70)).set i { s.ext u 70 with z:=u })) [2,3] 0 6 0 G U G G hu1 hu2 aW G zd (hrm _ zk) zk zk (fun cs hp=>bq_put (by rw [List.getElem?_set_self hMlt]) hv1 hp) (fun w U=>?_)
   refine d8 ?_
   have U:=zn [(0,_),(2,_)] [O 0 58 _] U
   refine ao ?_
   refine a7<|zg [none] [] [.v 13 _,.v 14 _,.v 2 _] [.g 0,.o 2] U (zM 1 G (zv G (aR (vq 0 G) a8 (aX zo)) (zA 1 G o0))) (zz [(0,_),(2,_)] [O 0 58 _] fun a w U=>?_)
   refine a7 ?_
   have U:=St.sel U [0,1]
   exact ⟨L.length-(i+1),by omega,i+1,_,⟨by omega,BQ hG hs⟩,(s0 (M:=M) (i:=i))▸U⟩
 ·have hi:i=L.length:=by have:=hG.1; simp [this] at hb0; omega
  subst hi
  have U:=St.wkL (A':=GqA X vr L) U 0 rfl (gq_of hG)
  refine wp_exit<|ak<|ak<|aC<|cD<|fG U (zm 0 G) (zm 0 G) ?_
  exact aS (rs:=[]) G U .nil zd
theorem Bq (X:BkRest)(vr:Value)(M:List Slot)(hdone:∀ t∈M,t.done)(hl:M.length≤1000000):Cn Tryz.prog 81 [ElP 58 (BqA X vr M)] (Bo true):=by
 refine Cn.intro Tryz.func81 G zk nq (fun B w0 a U=>?_)
 have U:=zn [(0,ElP 58 (BqA X vr M))] [] U
 have h1M:=CI U 0 rfl (fun t ht=>(hdone t ht).zu)
 refine wp_seq<|zh [.v 2 _] [.g 0,.o 0] U (zv G (a9 aK) o0) (zz [(0,_),(2,_)] [] fun a w U=>?_)
 refine zt<|wp_seq<|zh [.v 3 _] [.g 0,.g 1,.o 0] U (zv G (a9 a8) o0) (zz [(0,_),(2,_),(3,_)] [] fun a w U=>?_)
 refine a7<|wp_block ?_
 have U:=St.sel U [0,2]
 refine wp_loop_ghost (fun n a w=>∃ (i:Nat),n+i=M.length∧St B w0 64 [(0,ElP 58 (BqA X vr M)),(3,In (i:Nat))] [] a w) (M.length) ?_ ?_
 ·exact ⟨0,by omega,U⟩
 intro n a w hI
 obtain ⟨i,hn,U⟩:=hI
 refine wp_seq<|wp_seq<|zh [.v 6 _,.v 7 _,.v 8 _,.v 9 _,.v 10 _,.v 11 _,.v 12 _] [.g 0,.g 1,.o 6] U (zM 1 G (zM 0 G (zv G (bp (vq 1 G)) (zv G (aH (vq 2 G) dc (Sub.part 1 G G)) (zv G (aq (vq 3 G) jA) (zv G (be Tryz.underlying41 (has_wk' (vq 4 G) (pu h1M))) (zv G (aN (vq 0 G) (vq 5 G)) o0))))))) (zz [(0,_),(3,_),(12,_)] [] fun a w U=>?_)
 refine a7<|ah U (zm 2 G) (fun hb0=>?_) (fun hb0=>?_)
 ·have hi:i<M.length:=by have:=hb0; simp at this; omega
  obtain ⟨t,ht⟩:∃ t,M[i]?=some t:=⟨_,List.getElem?_eq_getElem hi⟩
  have hmem:=List.mem_of_getElem? ht
  have hd:=hdone t hmem
  refine wp_skip<|zt<|wp_block<|wp_seq<|iw (sp:=[.v 15 _,.v 16 _,.v 17 _,.v 18 _,.v 19 _,.v 20 _,.v 21 _,.alc 0,.sto 0]) 7 2 4 [.g 0,.g 1,.o 6] U (zM 0 G (zv G (bp (vq 0 G)) (zv G (aH (vq 1 G) dc (Sub.part 1 G G)) (zv G (aq (vq 2 G) jA) (zM 1 G (zv G (cB (m:=3) ⟨Tryz.underlying41,by kernel_rfl⟩ rm (has_wk' (vq 3 G) (pu h1M)) (vq 4 G) (nk ht)) (zv G (aq (vq 5 G) jO) o0))))))) G zk zk (zz [(0,_),(3,_),(21,_)] [] fun a w U=>?_)
  rw [show List.range' 7 2=[7,8] from rfl]
  refine fI (A:=t.view) 2 [0,1] G G U (Str.zero ib) G jO G zd G zk zk (fun a w U=>?_)
  refine bq ?_
  have U:=zn [(0,_),(3,_)] [O 4 108 _] U
  refine zt<|wp_seq<|zg [none] [] [.adr 22 4 (.some 1) True,.v 23 _,.v 24 _,.adr 25 4 (.some 0) True,.v 26 _,.v 27 _,.v 28 _,.v 29 _] [.g 0,.g 1,.o 7] U (oc (ob_a G G (ac (lz0 0 G) gh)) (zL 0 0 1 G aW (zv G (aI Tryz.underlying23 (li (vq 1 G) hd.zu (gq 0 G) hmem (uI hd))) (oc (ob_a G G (ac (lz0 0 G) eh)) (zL 3 0 0 G aW (zv G (aI Tryz.underlying23 (lh (vq 4 G) (gq 0 G) hmem (uJ hd))) (zv G (aR (vq 5 G) a8 (D4 hd.lx)) (zv G (cI (vq 2 G) (vq 6 G)) o0)))))))) (zz [(0,_),(3,_),(29,_)] [O 4 108 _] fun a w U=>?_)
  refine a7<|ah U (zm 2 G) (fun hb1=>?_) (fun hb1=>?_)
  ·exact absurd hb1 (by rw [lE hd]; simp)
  ·refine wp_skip<|zt<|zg [none] [] [.v 5 _] [.g 0,.g 1,.o 0] U (zv G (a9 a8) o0) (zz [(0,_),(3,_),(5,_)] [O 4 108 _] fun a w U=>?_)
   refine a7<|wp_block ?_
   have U:=St.sel U [0,1,2]
   refine wp_loop_ghost (fun n a w=>∃ (k:Nat),n+k=t.ys.length∧St B w0 64 [(0,ElP 58 (BqA X vr M)),(3,In (i:Nat)),(5,In (k:Nat))] [⟨4,108,ptrH,t.view⟩] a w) (t.ys.length) ?_ ?_
   ·exact ⟨0,by omega,U⟩
   intro n a w hI
   obtain ⟨k,hn2,U⟩:=hI
   refine wp_seq<|wp_seq<|zg [none] [] [.v 30 _,.adr 31 4 (.some 1) True,.v 32 _,.v 33 _,.v 34 _] [.g 0,.g 1,.g 2,.o 4] U (zM 2 G (oc (ob_a G G (ac (lz0 0 G) gh)) (zL 1 0 1 G aW (zv G (aI Tryz.underlying23 (li (vq 2 G) hd.zu (gq 0 G) hmem (uI hd))) (zv G (aN (vq 0 G) (vq 3 G)) o0))))) (zz [(0,_),(3,_),(5,_),(34,_)] [O 4 108 _] fun a w U=>?_)
   refine a7<|ah U (zm 3 G) (fun hb2=>?_) (fun hb2=>?_)
   ·have hk:k<t.ys.length:=by have:=hb2; simp at this; omega
    refine wp_skip<|zt<|wp_block<|wp_seq<|j6 (anc:=[[],[0],[],[0,1,2],[0,1,2,3],[],[5],[0,1,2,3,4,5,6],[0,1,2,3,4,5,6,7],[0,1,2,3,4,5,6,7,8],[0,1,2,3,4,5,6,7,8,9],[0,1,2,3,4,5,6,7,8,9],[0,1,2,3,4,5,6,7,8,9,11],[0,1,2,3,4,5,6,7,8,9,11,12],[0,1,2,3,4,5,6,7,8,9,10,11,12,13],[0,1,2,3,4,5,6,7,8,9,10,11,12,13,14],[0,1,2,3,4,5,6,7,8,9,10,11,12,13,14,15],[0,1,2,3,4,5,6,7,8,9,10,11,12,13,14,15,16],[0,1,2,3,4,5,6,7,8,9,10,11,12,13,14,15],[0,1,2,3,4,5,6,7,8,9,10,11,12,13,14,15,16,17,18],[0,1,2,3,4,5,6,7,8,9,10,11,12,13,14,15,16,17,18,19],[0,1,2,3,4,5,6,7,8,9,10,11,12,13,14,15],[0,1,2,3,4,5,6,7,8,9,10,11,12,13,14,15,21],[0,1,2,3,4,5,6,7,8,9,10,11,12,13,14,15,16,17,18,19,20,21,22],[0,1,2,3,4,5,6,7,8,9,10,11,12,13,14,15,16,17,18,19,20,21,22,23],[0,1,2,3,4,5,6,7,8,9,10,11,12,13,14,15,16,17,18,19,20,21,22,23,24],[0,1,2,3,4,5,6,7,8,9,10,11,12,13,14,15,16,17,18,19,20,21,22,23,24,25]]) (sts:=[none]) (news:=[]) (sp:=((.adr 37 4 (.some 1) True:Sp)::(.v 38 _)::(.v 39 _)::(.v 40 _)::(.v 41 _)::(.adr 42 4 (.some 2) True)::(.v 43 _)::(.v 44 _)::(.v 45 _)::(.v 46 _)::(.v 47 (Wh (_=false) _))::(.adr 48 4 (.some 0) (_=false))::(.v 49 (Wh (_=false) _))::(.v 50 (Wh (_=false) _))::(.v 51 (Wh (_=false) _))::(.v 52 (Wh (_=false) _))::(.adr 53 4 (.some 0) ((_=false)∧_=true))::(.v 54 (Wh ((_=false)∧_=true) _))::(.v 55 (Wh ((_=false)∧_=true) _))::(.v 56 (Wh ((_=false)∧_=true) _))::(.v 57 (Wh ((_=false)∧_=true) _))::(.adr 58 4 (.some 2) ((_=false)∧_=true))::(.v 59 (Wh ((_=false)∧_=true) _))::(.v 60 (Wh ((_=false)∧_=true) _))::(.v 61 (Wh ((_=false)∧_=true) _))::(.v 62 (Wh (_=false) _))::(.v 63 _)::[])) [.g 0,.g 1,.g 2,.o 26] ab U (oc (ob_a G G (ac (lz0 0 G) gh)) (zL 0 0 1 G aW (zM 2 G (zv G (bH ⟨Tryz.underlying23,by kernel_rfl⟩ (li (vq 1 G) hd.zu (gq 0 G) hmem (uI hd)) (vq 2 G) hk) (zv G (aq (vq 3 G) aO) (oc (ob_a G G (ac (lz0 0 G) gf)) (zL 5 0 2 G ty_3 (zv G (aa (xs:=[.tmp 41,.tmp 43]) (pq _ _ hd.n1) (.cons (vq 4 G) (.cons (vq 6 G) .nil))) (zv G (dS (vq 7 G)) (zv G (ae (vq 8 G)) (oc (an G G G (vq 9 G) nq (fun hg=>ae (gq 2 G))) (oc (bM G G G (vq 9 G) nq (fun hg=>ac (lz0 0 G) eh)) (oc (an G G G (vq 9 G) nq (fun hg=>aD 11 G zk hg (lz0 0 G) (Sub.part 0 G G) aW)) (oc (an G G G (vq 9 G) nq (fun hg=>aI Tryz.underlying23 (lh (ai (vq 12 G) hg) (gq 0 G) hmem (uJ hd)))) (oc (an G G G (vq 9 G) nq (fun hg=>aN (ai (vq 10 G) hg) (ai (vq 13 G) hg))) (oc (an G G G (vq 9 G) nq (fun hg=>ae (ai (vq 14 G) hg))) (oc (eR G G G (vq 15 G) nq (fun hg=>ac (lz0 0 G) eh)) (oc (bB G G G (vq 15 G) nq (fun hg=>aD 16 G zk hg (lz0 0 G) (Sub.part 0 G G) aW)) (oc (bB G G G (vq 15 G) nq (fun hg=>ae (gq 2 G))) (oc (bB G G G (vq 15 G) nq (fun hg=>kI ⟨Tryz.underlying23,by kernel_rfl⟩ (lh (ai (vq 17 G) hg) (gq 0 G) hmem (uJ hd)) (ai (vq 18 G) hg) (by have:=hg; simp at this; omega))) (oc (bB G G G (vq 15 G) nq (fun hg=>aq (ai (vq 19 G) hg) aO)) (oc (eR G G G (vq 15 G) nq (fun hg=>ac (lz0 0 G) gf)) (oc (bB G G G (vq 15 G) nq (fun hg=>aD 21 G zk hg (lz0 0 G) (Sub.part 2 G G) ty_3)) (oc (bB G G G (vq 15 G) nq (fun hg=>aa (xs:=[.tmp 57,.tmp 59]) (pq _ _ hd.n1) (.cons (ai (vq 20 G) hg) (.cons (ai (vq 22 G) hg) .nil)))) (oc (bB G G G (vq 15 G) nq (fun hg=>dS (ai (vq 23 G) hg))) (oc (an G G G (vq 9 G) nq (fun hg=>bJ (ai (vq 15 G) hg) (eD (vq 24 G) hg))) (zv G (r_or (vq 9 G) (vq 25 G)) o0))))))))))))))))))))))))))) zk zk zk zk (zz [(0,_),(3,_),(5,_),(63,_)] [O 4 108 _] fun a w U=>?_)
    refine a7<|ah U (zm 3 G) (fun hb3=>?_) (fun hb3=>?_)
    ·exact absurd (hb3.symm.trans (Bp hd hk)) zd
    ·refine wp_skip<|ao ?_
     refine a7<|zg [none] [] [.v 35 _,.v 36 _,.v 5 _] [.g 0,.g 1,.o 2] U (zM 2 G (zv G (aR (vq 0 G) a8 (aX (by have:=hd.lx; have:=lE hd; omega))) (zA 1 G o0))) (zz [(0,_),(3,_),(5,_)] [O 4 108 _] fun a w U=>?_)
     refine a7 ?_
     have U:=St.sel U [0,1,2]
     exact ⟨n-1,by omega,k+1,by omega,U⟩
   ·have hk:k=t.ys.length:=by have:=hb2; simp at this; omega
    refine wp_exit<|ak<|ak<|aC<|ao ?_
    refine a7<|zg [none] [] [.v 13 _,.v 14 _,.v 3 _] [.g 0,.o 2] U (zM 1 G (zv G (aR (vq 0 G) a8 (aX zo)) (zA 1 G o0))) (zz [(0,_),(3,_)] [O 4 108 _] fun a w U=>?_)
    refine a7 ?_
    have U:=St.sel U [0,1]
    have U:=St.selL U []
    exact ⟨M.length-(i+1),by omega,i+1,by omega,U⟩
 ·have hi:i=M.length:=by have:=hb0; simp at this; omega
  refine wp_exit<|ak<|ak<|aC<|zt<|zh [.v 2 _] [.g 0,.o 0] U (zv G (a9 aK) o0) (zz [(0,_),(2,_)] [] fun a w U=>?_)
  exact a7<|wp_ret<|am G U (zm 1 G)
end Go.Proofs.YtmacliockgbdcaaGreatDoor
