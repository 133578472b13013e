import Derived.Test.YtmacliockgbdcaaGreatDoorBfAa
import Derived.Test.YtmacliockgbdcaaGreatDoorBfAc
import Derived.Test.YtmacliockgbdcaaGreatDoorBfAl
import Derived.Test.YtmacliockgbdcaaGreatDoorBfAo
import Derived.Test.YtmacliockgbdcaaGreatDoorBfAr
set_option linter.unusedVariables false
set_option linter.unusedSimpArgs false
set_option linter.unusedSectionVars false
set_option maxRecDepth 100000
namespace Go.Proofs.YtmacliockgbdcaaGreatDoor
open Go Go.RowKit
def ExtP (A:Nat→As)(s:Slt)(k:Nat)(ys:List (List Value)):Prop:=ys.length=s.xs.length+k∧s.xs <+: ys∧∀ y∈ys,isMk A s.n y
theorem extP_0 {A:Nat→As}{s:Slt}(h:s.full A):ExtP A s 0 s.xs:=⟨rfl,List.prefix_refl _,h.xm⟩
theorem xb {A:Nat→As}{s t:Slt}{c:Nat→Prop}(h:Fik A s t c):t.view=s.view:=by
 unfold Slt.view
 rw [h.v,h.z,h.n]
theorem vg {A:Nat→As}{M:List Slt}{i:Nat}{s t:Slt}{c:Nat→Prop}(ht:M[i]?=some t)(h:Fik A s t c):(M.map Slt.view)[i]?=some s.view:=by rw [kv ht,xb h]
theorem cR:Str Tryz.prog 105 [EqS (.slice none 0 0),EqS (.slice none 0 0),NumA .i64 0] :=
 Str.of (z:=.agg #[.slice none 0 0,.slice none 0 0,.int .i64 0]) zk Tryz.underlying105 zk fun B w=>⟨[[.slice none 0 0],[.slice none 0 0],[.int .i64 0]],rfl,.cons ⟨rfl,rfl⟩ (.cons ⟨rfl,rfl⟩ (.cons rfl .nil))⟩
theorem lK:∃ it z,Tryz.prog.info? 67=some it∧it.zero=some z∧it.size=9∧it.bytes=136∧z.cells.size=9:=by
 have h:((Tryz.prog.info? 67).bind fun it=>it.zero.map fun z=>(it.size,it.bytes,z.cells.size))=some (9,136,9):=by kernel_rfl
 cases hi:Tryz.prog.info? 67 with
 | none=>rw [hi] at h; simp at h
 | some it =>
  rw [hi] at h
  cases hz:it.zero with
  | none=>simp [hz] at h
  | some z =>
   simp [hz] at h
   exact ⟨it,z,rfl,hz,h.1,h.2.1,h.2.2⟩
theorem wrElement {X:BkRest}{vr:Value}{L:List Slot}{M M':List Slt}{B g T:Nat}{c c':Array Value}{cs:List Value}{w:World}(h:(BqA { X with M:=M } vr L).p B cs w)(hgc:w.heap[g]?=some (.cells c T (0,0)))(hT:T=105∨T=67)(hB:B≤g)(f:∀ c0,(HkA 105 67 9 X.ve M).p B c0 w→(HkA 105 67 9 X.ve M').p B c0 (w.setRow g c')):(BqA { X with M:=M' } vr L).p B cs (w.setRow g c'):=by
 rcases hT with rfl | rfl
 ·exact nj h G (fun c0 hp=>As.kwr hp hgc (show 105 ∉ [108,U32] by decide) hB) (fun c0 hp=>As.kwr hp hgc (show 105 ∉ [112,3] by decide) hB) (fun c0 hp=>As.kwr hp hgc (show 105 ∉ [140,142] by decide) hB) f
 ·exact nj h G (fun c0 hp=>As.kwr hp hgc (show 67 ∉ [108,U32] by decide) hB) (fun c0 hp=>As.kwr hp hgc (show 67 ∉ [112,3] by decide) hB) (fun c0 hp=>As.kwr hp hgc (show 67 ∉ [140,142] by decide) hB) f
theorem grElement {X:BkRest}{vr:Value}{L:List Slot}{M M':List Slt}{B:Nat}{row:Option Nat}{cs:List Value}{w w':World}(h:(BqA { X with M:=M } vr L).p B cs w)(hg:w.grownBy w' row)(hr:RowOk w B 67 row)(f:∀ c0,(HkA 105 67 9 X.ve M).p B c0 w→(HkA 105 67 9 X.ve M').p B c0 w'):(BqA { X with M:=M' } vr L).p B cs w' :=
 nj h rfl (fun c0 hp=>As.grown hp hg hr (Nat.le_refl _) (show 67 ∉ [108,U32] by decide)) (fun c0 hp=>As.grown hp hg hr (Nat.le_refl _) (show 67 ∉ [112,3] by decide)) (fun c0 hp=>As.grown hp hg hr (Nat.le_refl _) (show 67 ∉ [140,142] by decide)) f
theorem hkElement {X:BkRest}{vr:Value}{L:List Slot}{M:List Slt}{B:Nat}{cs:List Value}{w:World}(h:(BqA { X with M:=M } vr L).p B cs w):∃ c,(HkA 105 67 9 X.ve M).p B c w:=(cG h).2.2.2
theorem fiElement {X:BkRest}{vr:Value}{L:List Slot}{M:List Slt}{B i k g cap:Nat}{t:Slt}{cs ds:List Value}{w:World}(hi:M[i]?=some t)(hu:t.u=t.v)(hy:t.ys=t.xs)(hv:t.v=.slice (some ⟨g,0,none⟩) t.xs.length cap)(hk:k<t.xs.length)(hd:ds.length=9)(h:(BqA { X with M:=M } vr L).p B cs w) :
  B≤g∧∃ c:Array Value,w.heap[g]?=some (Obj.cells c 67 (0,0))∧k*9+9≤c.size∧(BqA { X with M:=M.set i { t with xs:=t.xs.set k ds,ys:=t.xs.set k ds } } vr L).p B cs (w.setRow g (c.toList.take (k*9)++ds++c.toList.drop (k*9+9)).toArray):=by
 obtain ⟨c0,h0⟩:=hkElement h
 obtain ⟨h2,c,h3,h4,h5⟩:=tY zd h0 hi hu hy hv hk hd
 refine ⟨h2,c,h3,h4,wrElement h h3 (.inr G) h2 fun c1 h6=>?_⟩
 obtain ⟨_,c',h7,_,h8⟩:=tY zd h6 hi hu hy hv hk hd
 rw [h3] at h7
 injection h7 with h7
 injection h7 with h7
 subst h7
 exact h8
def ExElement (X:BkRest)(vr:Value)(L:List Slot)(p:List Slt→Prop):As where
 n:=17
 ag:=true
 p B cs w:=∃ M,p M∧(BqA { X with M:=M } vr L).p B cs w
 deps:=(BqA X vr L).deps
 len:=fun B cs w ⟨M,_,h⟩=>(BqA { X with M:=M } vr L).len B cs w h
 one:=fun B cs w ⟨M,_,h⟩=>(BqA { X with M:=M } vr L).one B cs w h
 ag1:=fun h=>by cases h
 cg:=fun B cs w w' hg ⟨M,h1,h⟩=>⟨M,h1,(BqA { X with M:=M } vr L).cg B cs w w' hg h⟩
 wr:=fun B cs w w' g c T fz h1 h2 h3 h4 ⟨M,h5,h⟩=>⟨M,h5,(BqA { X with M:=M } vr L).wr B cs w w' g c T fz h1 h2 h3 h4 h⟩
theorem exElement {X:BkRest}{vr:Value}{L:List Slot}{M:List Slt}{p:List Slt→Prop}(hp:p M):WkA (BqA { X with M:=M } vr L) (ExElement X vr L p):=⟨rfl,rfl,fun B cs w h=>⟨M,hp,h⟩⟩
theorem stElement {X:BkRest}{vr:Value}{L:List Slot}{p:List Slt→Prop}{B N:Nat}{w0:Bs}{Γ:List (Nat × VA)}{Λ:List Lc}{a:Act}{w:World}{s:Nat}{T:TypeId}{H:Hd}(h:St B w0 N Γ Λ a w)(k:Nat)(hm:Λ[k]?=some ⟨s,T,H,ExElement X vr L p⟩):∃ M,p M∧St B w0 N Γ (Λ.set k ⟨s,T,H,BqA { X with M:=M } vr L⟩) a w:=by
 obtain ⟨g,cs,q1,q2,q3,M,hG,q4⟩:=h.locs _ (List.mem_of_getElem? hm)
 have hs:∀ m∈Λ.set k ⟨s,T,H,BqA { X with M:=M } vr L⟩,∃ m0∈Λ,m0.s=m.s:=fun m hm'=>by
  rcases List.mem_or_eq_of_mem_set hm' with hm' | rfl
  ·exact ⟨m,hm',rfl⟩
  ·exact ⟨_,List.mem_of_getElem? hm,rfl⟩
 refine ⟨M,hG,h.lo,h.defers,h.size,h.base,h.vals,fun l hl=>?_,fun m1 hm1 m2 hm2 hne=>?_⟩
 ·rcases List.mem_or_eq_of_mem_set hl with hl | rfl
  ·exact h.locs l hl
  ·exact ⟨g,cs,q1,q2,q3,q4⟩
 ·obtain ⟨m3,r1,r2⟩:=hs m1 hm1
  obtain ⟨m4,r3,r4⟩:=hs m2 hm2
  rw [← r2,← r4] at hne ⊢
  exact h.dis m3 r1 m4 r3 hne
theorem apElement {X:BkRest}{vr:Value}{L:List Slot}{M:List Slt}{B i k:Nat}{s:Slt}{u:Value}{ys:List (List Value)}{cs:List Value}{w:World}(hMi:M[i]?=some s)(hE:ExtP MkE s k ys)(h:(BqA { X with M:=M.set i (s.ext u ys) } vr L).p B cs w) :
  w.ownsRow B 67 9 u (s.xs.length+k) ys.flatten∧∀ v' w' ds,isMk MkE s.n ds→w'.ownsRow B 67 9 v' (s.xs.length+k+1) (ys.flatten++ds)→w.grownBy w' u.ownBlock→(v'.ownBlock=u.ownBlock∨(v'.ownBlock=some w.heap.size∧w.grownBy w' none))→(ExElement X vr L fun M'=>∃ ys',M'=M.set i (s.ext v' ys')∧ExtP MkE s (k+1) ys').p B cs w':=by
 have hlt:=(List.getElem?_eq_some_iff.1 hMi).1
 have hi:(M.set i (s.ext u ys))[i]?=some (s.ext u ys):=List.getElem?_set_self hlt
 obtain ⟨hl,hp,hm⟩:=hE
 obtain ⟨c0,h0⟩:=hkElement h
 have hown0:w.ownsRow B 67 9 u (s.xs.length+k) ys.flatten:=by
  have:=(h0.2.2.1 _ (List.mem_of_getElem? hi)).1
  rw [show (s.ext u ys).ys.length=s.xs.length+k from hl] at this
  exact this
 refine ⟨hown0,fun v' w' ds hds hown hg hb=>⟨M.set i (s.ext v' (ys++[ds])),⟨ys++[ds],rfl,by rw [List.length_append,hl]; rfl,hp.trans (List.prefix_append _ _),mk_mem hm hds⟩,grElement h hg (dT hown0) fun c hc=>?_⟩⟩
 have:=hk_app (v':=v') (ds:=ds) zd hc hi (by rw [show (s.ext u ys).ys.length=s.xs.length+k from hl]; exact hown) hg hb (fun _=>hp) (fun y hy=>mkp_e.len (hm y hy))
 rw [oQ] at this
 exact this
theorem puElement {X:BkRest}{vr z:Value}{L:List Slot}{M:List Slt}{B i g cap:Nat}{s:Slt}{cs:List Value}{w:World}(hi:M[i]?=some s)(hvr:X.ve=.slice (some ⟨g,0,none⟩) M.length cap)(h:(BqA { X with M:=M } vr L).p B cs w) :
  B≤g∧∃ c:Array Value,w.heap[g]?=some (Obj.cells c 105 (0,0))∧i*3+1<c.size∧(BqA { X with M:=M.set i { s with z:=z } } vr L).p B cs (w.setRow g (c.setIfInBounds (i*3+1) z)):=by
 obtain ⟨c0,h0⟩:=hkElement h
 obtain ⟨h2,c,h3,h4,h5⟩:=yE zd z h0 hi hvr
 refine ⟨h2,c,h3,h4,wrElement h h3 (.inl G) h2 fun c1 h6=>?_⟩
 obtain ⟨_,c',h7,_,h8⟩:=yE zd z h6 hi hvr
 rw [h3] at h7
 injection h7 with h7
 injection h7 with h7
 subst h7
 exact h8
theorem knElement {X:BkRest}{vr:Value}{L:List Slot}{M:List Slt}{B N:Nat}{w0:Bs}{Γ:List (Nat × VA)}{Λ:List Lc}{a:Act}{w:World}{s:Nat}{T:TypeId}{H:Hd}(h:St B w0 N Γ Λ a w)(k:Nat)(hm:Λ[k]?=some ⟨s,T,H,BqA { X with M:=M } vr L⟩):RowV X.ve M.length∧∀ t∈M,RowV t.u t.ys.length∧RowV t.v t.xs.length:=by
 obtain ⟨g,cs,_,_,_,hp⟩:=h.locs _ (List.mem_of_getElem? hm)
 obtain ⟨c,h1,h2,h3,_⟩:=hkElement hp
 exact ⟨(cT h2).2,fun t ht=>⟨(cT (h3 t ht).1).2,(h3 t ht).2.1⟩⟩
theorem kpElement {X:BkRest}{vr:Value}{L:List Slot}{B N:Nat}{w0:Bs}{Γ:List (Nat × VA)}{Λ:List Lc}{a:Act}{w:World}{s:Nat}{T:TypeId}(h:St B w0 N Γ Λ a w)(k:Nat)(hm:Γ[k]?=some (s,ElP T (BqA X vr L))):∀ t∈X.M,RowV t.u t.ys.length∧RowV t.v t.xs.length:=by
 obtain ⟨b,o,cs,_,_,_,hp,_⟩:=h.vals _ (List.mem_of_getElem? hm)
 obtain ⟨c,h1,h2,h3,_⟩:=hkElement (M:=X.M) hp
 exact fun t ht=>⟨(cT (h3 t ht).1).2,(h3 t ht).2.1⟩
section
open Rg
variable {P:Program} {Q:Exit→Act→World→Prop} {R:Rg} {B i:Nat} {w0:Bs}
theorem svElement {X:BkRest}{x y:Operand}{vr:Value}{L:List Slot}{t:Slt}{T:TypeId}(hx:Has R B w0 i x (EqS t.v).va)(hl:Has R B w0 i y (ElP T (BqA X vr L)))(ht:t∈X.M)(hd:t.done MkE):Has R B w0 i x (SlA 67 [] (List.replicate t.xs.length (MkE t.n))).va:=fun a w av=>by
 obtain ⟨b,o,cs,_,_,_,h,_⟩:=hl a w av
 obtain ⟨c,h⟩:=hkElement (M:=X.M) h
 rw [jg (hx a w av)]
 exact sr mkp_e (h.2.2.1 t ht).2 hd.xm
theorem suElement {X:BkRest}{x y:Operand}{vr:Value}{L:List Slot}{t:Slt}{T:TypeId}(hx:Has R B w0 i x (EqS t.z).va)(hl:Has R B w0 i y (ElP T (BqA X vr L)))(ht:t∈X.M)(hd:t.done MkE):Has R B w0 i x (SlA 67 [] (List.replicate t.ys.length (MkE t.n))).va:=fun a w av=>by
 obtain ⟨b,o,cs,_,_,_,h,_⟩:=hl a w av
 obtain ⟨c,h⟩:=hkElement (M:=X.M) h
 rw [jg (hx a w av),hd.zu]
 exact sr mkp_e (p6 (fun y hy=>mkp_e.len (hd.ym y hy)) (h.2.2.1 t ht).1) hd.ym
end
theorem lB (X:BkRest)(vr:Value)(L:List Slot)(hnew:∀ s∈X.M,s.new)(hl:X.M.length≤1000000):CK Tryz.prog 57 58 [58,105,67] (BqA X vr L) (ExElement X vr L (allFull MkE X.M)) [] (Tu []):=by
 refine CK.intro Tryz.func57 G zk nq zk (fun B g w0 a hrm U=>?_)
 have U:=zn [(0,EqV ((ptrH).f g)),] [⟨0,58,ptrH,BqA X vr L⟩] U
 refine wp_seq<|zg [none] [] [.v 2 _] [.g 0,.o 0] U (zv G (a9 a8) o0) (zz [(0,_),(2,_)] [O 0 58 _] fun a w U=>?_)
 refine a7<|wp_block ?_
 have U:=St.sel U [0,1]
 refine wp_loop_ghost (fun n a w=>∃ (i:Nat) (M:List Slt),(n+i=X.M.length∧FiK MkE X.M M i 0)∧St B w0 35 [(0,EqV (ptrH.f g)),(2,In (i:Nat))] [⟨0,58,ptrH,BqA { X with M:=M } vr L⟩] a w) (X.M.length) ?_ ?_
 ·exact ⟨0,X.M,⟨by omega,fik_0 hnew⟩,U⟩
 intro n a w hI
 obtain ⟨i,M,⟨hn,hF⟩,U⟩:=hI
 have h1M:=C5 hF hnew
 refine wp_seq<|wp_seq<|zg [none] [] [.v 5 _,.adr 6 0 (.some 0) True,.adr 7 0 (.some 0) True,.adr 8 0 (.some (0+9)) True,.v 9 _,.v 10 _,.v 11 _] [.g 0,.g 1,.o 6] U (zM 1 G (oc (ob_a G G (fE (lz0 0 G))) (oc (ob_a G G (fD 1 G zk (lz0 0 G))) (oc (ob_a G G (dI 2 G zk trivial (lz0 0 G) db)) (zL 3 0 9 G jz (zv G (be Tryz.underlying49 (has_wk' (vq 4 G) (nY h1M))) (zv G (aN (vq 0 G) (vq 5 G)) o0))))))) (zz [(0,_),(2,_),(11,_)] [O 0 58 _] fun a w U=>?_)
 refine a7<|ah U (zm 2 G) (fun hb0=>?_) (fun hb0=>?_)
 ·have hi:i<X.M.length:=by have:=hF.1; simpa [this] using hb0
  obtain ⟨s,hs⟩:∃ s,X.M[i]?=some s:=⟨_,List.getElem?_eq_getElem hi⟩
  have hwf:=hnew s (List.mem_of_getElem? hs)
  obtain ⟨t,ht,hf⟩:=yI hF hs
  have hvi:=vg ht hf
  refine wp_skip<|zt<|wp_block<|wp_seq<|bf (sp:=[.adr 14 0 (.some 0) True,.adr 15 0 (.some 0) True,.adr 16 0 (.some (0+9)) True,.v 17 _,.v 18 _,.v 19 _,.v 20 _,.v 3 VT,.sto 0]) 7 2 0 8 OneC [.g 0,.g 1,.o 6] U (oc (ob_a G G (fE (lz0 0 G))) (oc (ob_a G G (fD 0 G zk (lz0 0 G))) (oc (ob_a G G (dI 1 G zk trivial (lz0 0 G) db)) (zL 2 0 9 G jz (zM 1 G (zv G (cB (m:=3) ⟨Tryz.underlying49,by kernel_rfl⟩ nn (has_wk' (vq 3 G) (nY h1M)) (vq 4 G) hvi) (zv G (aq (vq 5 G) jP) o0))))))) G zd zk zk (zz [(0,_),(2,_),(20,_)] [O 0 58 _] fun a w U=>?_)
  rw [show List.range' 7 2=[7,8] from rfl]
  refine fI (A:=s.view) 2 [0,1] G G U (Str.zero cR) G jP G zd G zk zk (fun a w U=>?_)
  refine bq ?_
  have U:=zn [(0,_),(2,_)] [O 0 58 _,O 3 105 _] U
  refine zt<|zg [none,none] [] [.v 4 _] [.g 0,.g 1,.o 0] U (zv G (a9 a8) o0) (zz [(0,_),(2,_),(4,_)] [O 0 58 _,O 3 105 _] fun a w U=>?_)
  refine a7<|wp_block ?_
  have U:=St.sel U [0,1,2]
  refine wp_loop_ghost (fun n a w=>∃ (k:Nat) (M:List Slt),(n+k=s.xs.length∧FiK MkE X.M M i k)∧St B w0 35 [(0,EqV (ptrH.f g)),(2,In (i:Nat)),(4,In (k:Nat))] [⟨0,58,ptrH,BqA { X with M:=M } vr L⟩,⟨3,105,ptrH,s.view⟩] a w) (s.xs.length) ?_ ?_
  ·exact ⟨0,M,⟨by omega,hF⟩,U⟩
  intro n a w hI
  obtain ⟨k,M,⟨hn2,hF⟩,U⟩:=hI
  obtain ⟨t,ht,hf⟩:=yI hF hs
  refine wp_seq<|wp_seq<|zg [none,none] [] [.v 21 _,.adr 22 3 (.some 0) True,.v 23 _,.v 24 _,.v 25 _] [.g 0,.g 1,.g 2,.o 4] U (zM 2 G (oc (ob_a G G (ac (lz0 1 G) ei)) (zL 1 1 0 G dQ (zv G (mt Tryz.underlying22 hwf.rv (vq 2 G)) (zv G (aN (vq 0 G) (vq 3 G)) o0))))) (zz [(0,_),(2,_),(4,_),(25,_)] [O 0 58 _,O 3 105 _] fun a w U=>?_)
  refine a7<|ah U (zm 3 G) (fun hb1=>?_) (fun hb1=>?_)
  ·have hk:k<s.xs.length:=by simpa using hb1
   refine wp_skip<|zt<|wp_block<|cw (sp:=[.adr 28 3 (.some 0) True,.v 29 _,.v 30 _,.adr 31 3 (.some 2) True,.v 32 _,.v 33 _,.v 34 VT,.sto 0]) [[],[0],[],[],[3],[3,4],[0,1,2,3,4,5],[0,1,2,3,4,5,6]] 6 2 0 7 OneC [.g 0,.g 1,.g 2,.o 1,.o 2,.o 5] ab U (oc (ob_a G G (ac (lz0 1 G) ei)) (zL 0 1 0 G dQ (zM 2 G (oc (ob_a G G (ac (lz0 1 G) gi)) (zL 3 1 2 G ty_3 (zv G (aa (xs:=[.tmp 32]) (fZ _) (.cons (vq 4 G) .nil)) o0)))))) G zd zd zk (cp zk) zk zk (zz [(0,_),(2,_),(4,_),(29,_),(30,_),(33,_)] [O 0 58 _,O 3 105 _] fun a w U=>?_)
   rw [show List.range' 6 2=[6,7] from rfl]
   obtain ⟨g1,cap1,hv1⟩:=hwf.rv.row hk
   have U:=St.wkG U 3 rfl (show Wk (EqS s.v).va (EqV (.slice (some ⟨g1,0,none⟩) s.xs.length cap1)) from hv1▸lM)
   obtain ⟨vm,ds,hmk,hvc,hone,U⟩:=St.pinV U 5 rfl
   have hds:=mkp_e.len ⟨_,_,hmk⟩
   rw [wpOps_cons]
   refine iY (m:=9) (k:=k) 3 4 G U ⟨Tryz.underlying22,by kernel_rfl⟩ zd G G hk zd zk zk (fun a U=>?_)
   rw [wpOps_cons]
   refine B0 (A1:=BqA { X with M:=M.set i { t with xs:=t.xs.set k ds,ys:=t.xs.set k ds } } vr L) [1,2,3] 0 6 0 G U G G hone hvc hds cb G zd (hrm _ zk) zk zk (fun cs hp=>fiElement ht (hf.u.trans hf.v.symm) hf.yx (by rw [hf.v,hf.l]; exact hv1) (by rw [hf.l]; exact hk) hds hp) (fun w U=>?_)
   refine d8 ?_
   have U:=zn [(0,_),(2,_),(4,_)] [⟨0,58,ptrH,BqA { X with M:=M.set i { t with xs:=t.xs.set k ds,ys:=t.xs.set k ds } } vr L⟩,O 3 105 _] U
   refine ao ?_
   refine a7<|zg [none,none] [] [.v 26 _,.v 27 _,.v 4 _] [.g 0,.g 1,.o 2] U (zM 2 G (zv G (aR (vq 0 G) a8 (aX (by have:=hwf.lx; omega))) (zA 1 G o0))) (zz [(0,_),(2,_),(4,_)] [O 0 58 _,O 3 105 _] fun a w U=>?_)
   refine a7 ?_
   have U:=St.sel U [0,1,2]
   exact ⟨n-1,by omega,k+1,_,⟨by omega,xc hF hs ht ⟨_,_,hmk⟩⟩,U⟩
  ·have hk:k=s.xs.length:=by simp at hb1; omega
   subst hk
   refine wp_exit<|ak<|ak<|aC<|ao ?_
   refine a7<|zg [none,none] [] [.v 12 _,.v 13 _,.v 2 _] [.g 0,.o 2] U (zM 1 G (zv G (aR (vq 0 G) a8 (aX (by have:=hwf.lx; omega))) (zA 1 G o0))) (zz [(0,_),(2,_)] [O 0 58 _,O 3 105 _] fun a w U=>?_)
   refine a7 ?_
   have U:=St.sel U [0,1]
   have U:=St.selL U [0]
   exact ⟨X.M.length-(i+1),by omega,i+1,M,⟨by omega,xe hF hs⟩,U⟩
 ·have hi:X.M.length≤i:=by have:=hF.1; simp [this] at hb0; omega
  have U:=St.wkL (A':=ExElement X vr L (allFull MkE X.M)) U 0 rfl (exElement (C6 hF hi hnew))
  refine wp_exit<|ak<|ak<|aC<|cD<|fG U (zm 0 G) (zm 0 G) ?_
  exact aS (rs:=[]) G U .nil zd
theorem lj (X:BkRest)(vr:Value)(L:List Slot)(hfull:∀ s∈X.M,s.full MkE)(hl:X.M.length≤1000000):CK Tryz.prog 73 58 [58,105,67] (BqA X vr L) (ExElement X vr L (allDone MkE X.M)) [] (Tu []):=by
 obtain ⟨it0,z0,hi0,hz0,hs0,hb0',hc0⟩:=lK
 refine CK.intro Tryz.func73 G zk nq zk (fun B g w0 a hrm U=>?_)
 have U:=zn [(0,EqV ((ptrH).f g)),] [⟨0,58,ptrH,BqA X vr L⟩] U
 refine wp_seq<|zg [none] [] [.v 2 _] [.g 0,.o 0] U (zv G (a9 a8) o0) (zz [(0,_),(2,_)] [O 0 58 _] fun a w U=>?_)
 refine a7<|wp_block ?_
 have U:=St.sel U [0,1]
 refine wp_loop_ghost (fun n a w=>∃ (i:Nat) (M:List Slt),(n+i=X.M.length∧GrK MkE X.M M i)∧St B w0 42 [(0,EqV (ptrH.f g)),(2,In (i:Nat))] [⟨0,58,ptrH,BqA { X with M:=M } vr L⟩] a w) (X.M.length) ?_ ?_
 ·exact ⟨0,X.M,⟨by omega,grk_0⟩,U⟩
 intro n a w hI
 obtain ⟨i,M,⟨hn,hG⟩,U⟩:=hI
 have h1M:OneK M:=fun t ht=>by
  obtain ⟨ru,rv⟩:=(knElement U 0 rfl).2 t ht
  obtain ⟨s,hs,h1 | h1⟩:=BO hG ht
  ·exact ⟨rv.one,by rw [h1.z]; exact ru.one⟩
  ·subst h1; exact ⟨rv.one,(hfull t hs).z1⟩
 refine wp_seq<|wp_seq<|zg [none] [] [.v 6 _,.adr 7 0 (.some 0) True,.adr 8 0 (.some 0) True,.adr 9 0 (.some (0+9)) True,.v 10 _,.v 11 _,.v 12 _] [.g 0,.g 1,.o 6] U (zM 1 G (oc (ob_a G G (fE (lz0 0 G))) (oc (ob_a G G (fD 1 G zk (lz0 0 G))) (oc (ob_a G G (dI 2 G zk trivial (lz0 0 G) db)) (zL 3 0 9 G jz (zv G (be Tryz.underlying49 (has_wk' (vq 4 G) (nY h1M))) (zv G (aN (vq 0 G) (vq 5 G)) o0))))))) (zz [(0,_),(2,_),(12,_)] [O 0 58 _] fun a w U=>?_)
 refine a7<|ah U (zm 2 G) (fun hb0=>?_) (fun hb0=>?_)
 ·have hi:i<X.M.length:=by have:=hG.1; simpa [this] using hb0
  obtain ⟨s,hs⟩:∃ s,X.M[i]?=some s:=⟨_,List.getElem?_eq_getElem hi⟩
  have hf:=hfull s (List.mem_of_getElem? hs)
  have hMi:=grk_at hG hs
  have hvi:=kv hMi
  have hMlt:i<M.length:=by rw [hG.1]; exact hi
  refine wp_skip<|zt<|wp_block<|wp_seq<|bf (sp:=[.adr 15 0 (.some 0) True,.adr 16 0 (.some 0) True,.adr 17 0 (.some (0+9)) True,.v 18 _,.v 19 _,.v 20 _,.v 21 _,.v 3 VT,.sto 0]) 7 2 0 8 OneC [.g 0,.g 1,.o 6] U (oc (ob_a G G (fE (lz0 0 G))) (oc (ob_a G G (fD 0 G zk (lz0 0 G))) (oc (ob_a G G (dI 1 G zk trivial (lz0 0 G) db)) (zL 2 0 9 G jz (zM 1 G (zv G (cB (m:=3) ⟨Tryz.underlying49,by kernel_rfl⟩ nn (has_wk' (vq 3 G) (nY h1M)) (vq 4 G) hvi) (zv G (aq (vq 5 G) jP) o0))))))) G zd zk zk (zz [(0,_),(2,_),(21,_)] [O 0 58 _] fun a w U=>?_)
  rw [show List.range' 7 2=[7,8] from rfl]
  refine fI (A:=s.view) 2 [0,1] G G U (Str.zero cR) G jP G zd G zk zk (fun a w U=>?_)
  refine bq ?_
  have U:=zn [(0,_),(2,_)] [O 0 58 _,O 3 105 _] U
  refine zt<|zg [none,none] [] [.adr 22 3 (.some 0) True,.v 23 _,.v 4 _] [.g 0,.g 1,.o 2] U (oc (ob_a G G (ac (lz0 1 G) ei)) (zL 0 1 0 G dQ (zA 1 G o0))) (zz [(0,_),(2,_),(4,_)] [O 0 58 _,O 3 105 _] fun a w U=>?_)
  refine zt<|wp_seq<|zg [none,none] [] [.v 5 _] [.g 0,.g 1,.g 2,.o 0] U (zv G (a9 a8) o0) (zz [(0,_),(2,_),(4,_),(5,_)] [O 0 58 _,O 3 105 _] fun a w U=>?_)
  refine a7<|wp_block ?_
  have U:=St.sel U [0,1,2,3]
  refine wp_loop_ghost (fun n a w=>∃ (k:Nat) (u:Value) (ys:List (List Value)),(n+k=70∧ExtP MkE s k ys)∧St B w0 42 [(0,EqV (ptrH.f g)),(2,In (i:Nat)),(4,EqV u),(5,In (k:Nat))] [⟨0,58,ptrH,BqA { X with M:=M.set i (s.ext u ys) } vr L⟩,⟨3,105,ptrH,s.view⟩] a w) (70) ?_ ?_
  ·have U:=St.cvA (A':=BqA { X with M:=M.set i (s.ext s.v s.xs) } vr L) U 0 rfl (show BqA { X with M:=M } vr L=_ by rw [extK_0 hf.tonew,s9 hMi]); have U:=St.wkG U 2 rfl lM; exact ⟨0,s.v,s.xs,⟨by omega,extP_0 hf⟩,U⟩
  intro n a w hI
  obtain ⟨k,u,ys,⟨hn2,hE⟩,U⟩:=hI
  refine wp_seq<|wp_seq<|zg [none,none] [] [.v 24 _,.v 25 _] [.g 0,.g 1,.g 2,.g 3,.o 1] U (zM 3 G (zv G (aN (vq 0 G) a8) o0)) (zz [(0,_),(2,_),(4,_),(5,_),(25,_)] [O 0 58 _,O 3 105 _] fun a w U=>?_)
  refine a7<|ah U (zm 4 G) (fun hb1=>?_) (fun hb1=>?_)
  ·have hk:k<70:=by have:=hb1; simp at this; omega
   refine wp_skip<|zt<|wp_block<|bf (sp:=[.v 28 _,.adr 29 3 (.some 2) True,.v 30 _,.v 31 _,.v 32 _,.v 33 VT,.v 4 VT]) 5 2 99 9 OneC [.g 0,.g 1,.g 3,.o 0,.o 4] U (zM 2 G (oc (ob_a G G (ac (lz0 1 G) gi)) (zL 1 1 2 G ty_3 (zv G (aa (xs:=[.tmp 30]) (fZ _) (.cons (vq 2 G) .nil)) (zv G (cz (D:=[]) (l:=[MkE s.n]) (xs:=[.tmp 31]) (dK zk) cC zk (n_ok zk) nq nq nq (.cons (vq 3 G) .nil) G G) o0))))) G zd zk zk (zz [(0,_),(2,_),(5,_),(28,_),(32,_)] [O 0 58 _,O 3 105 _] fun a w U=>?_)
   rw [show List.range' 5 2=[5,6] from rfl]
   rw [wpOps_cons]
   refine fJ (m:=9) (A1:=fun v'=>ExElement X vr L (fun M'=>∃ ys',M'=M.set i (s.ext v' ys')∧ExtP MkE s (k+1) ys')) (X:=MkE s.n) (F:=isMk MkE s.n) [0,1,2] 3 4 0 G U G G (fun ds h=>⟨_,_,h⟩) G G G (hrm _ zk) Tryz.underlying22 hi0 hz0 hs0 hb0' hc0 zd (n:=s.xs.length+k) (by have:=hf.lx; omega) (by have:=hf.lx; omega) zd zk zk zk zk (fun cs hp=>apElement hMi hE hp) (fun v' w U=>?_)
   rw [wpOps_cons]
   refine dh 0 G U G zd zk zk (fun a U=>?_)
   refine bq ?_
   obtain ⟨M',⟨ys2,hM',hE2⟩,U⟩:=stElement U 0 rfl
   subst hM'
   have U:=zn [(4,_),(33,_),(0,_),(2,_),(5,_)] [⟨0,58,ptrH,BqA { X with M:=M.set i (s.ext v' ys2) } vr L⟩,O 3 105 _] U
   refine ao ?_
   refine a7<|zg [none,none] [] [.v 26 _,.v 27 _,.v 5 _] [.g 0,.g 2,.g 3,.o 2] U (zM 4 G (zv G (aR (vq 0 G) a8 (aX zo)) (zA 1 G o0))) (zz [(4,_),(0,_),(2,_),(5,_)] [O 0 58 _,O 3 105 _] fun a w U=>?_)
   refine a7 ?_
   have U:=St.sel U [1,2,0,3]
   exact ⟨n-1,by omega,k+1,v',ys2,⟨by omega,hE2⟩,U⟩
  ·have hk:k=70:=by simp at hb1; omega
   subst hk
   have hu:=((knElement U 0 rfl).2 _ (List.mem_set hMlt _)).1
   have hu1:=hu.one
   have hu2:u.cells = #[u]:=hu.cell
   refine wp_exit<|ak<|ak<|aC<|a7<|bf (sp:=[.adr 34 0 (.some 0) True,.adr 35 0 (.some 0) True,.adr 36 0 (.some (0+9)) True,.v 37 _,.v 38 _,.v 39 _,.v 40 VT,.v 41 VT,.sto 0]) 6 3 0 8 OneC [.g 0,.g 1,.o 3,.o 4,.o 5] U (oc (ob_a G G (fE (lz0 0 G))) (oc (ob_a G G (fD 0 G zk (lz0 0 G))) (oc (ob_a G G (dI 1 G zk trivial (lz0 0 G) db)) (zL 2 0 9 G jz (zM 1 G (zM 2 G o0)))))) G zd zk zk (zz [(0,_),(2,_),(37,_),(38,_),(39,_)] [O 0 58 _,O 3 105 _] fun a w U=>?_)
   rw [show List.range' 6 3=[6,7,8] from rfl]
   have U:=St.selL U [0]
   have U:=St.wkG U 2 rfl BH
   have hvr:=(knElement U 0 rfl).1
   obtain ⟨g1,cap1,hv1⟩:=hvr.row (show i<_ by rw [List.length_set,hG.1]; exact hi)
   have U:=St.cvG U 2 rfl (congrArg EqV hv1)
   rw [wpOps_cons]
   refine iY (m:=3) (k:=i) 2 3 G U ⟨Tryz.underlying49,by kernel_rfl⟩ zd G G (by rw [List.length_set,hG.1]; exact hi) zd zk zk (fun a U=>?_)
   rw [wpOps_cons]
   refine eu 0 G U gj G zd zk zk (fun a U=>?_)
   rw [wpOps_cons]
   refine kR (A1:=BqA { X with M:=(M.set i (s.ext u ys)).set i { s.ext u ys with z:=u } } vr L) [2,3] 0 6 0 G U G G hu1 hu2 dQ G zd (hrm _ zk) zk zk (fun cs hp=>puElement (by rw [List.getElem?_set_self hMlt]) hv1 hp) (fun w U=>?_)
   refine d8 ?_
   have U:=zn [(0,_),(2,_)] [O 0 58 _] U
   refine ao ?_
   refine a7<|zg [none] [] [.v 13 _,.v 14 _,.v 2 _] [.g 0,.o 2] U (zM 1 G (zv G (aR (vq 0 G) a8 (aX zo)) (zA 1 G o0))) (zz [(0,_),(2,_)] [O 0 58 _] fun a w U=>?_)
   refine a7 ?_
   have U:=St.sel U [0,1]
   exact ⟨X.M.length-(i+1),by omega,i+1,_,⟨by omega,wR hG hs hE.1 hE.2.2⟩,(oQ (M:=M) (i:=i))▸U⟩
 ·have hi:X.M.length≤i:=by have:=hG.1; simp [this] at hb0; omega
  have U:=St.wkL (A':=ExElement X vr L (allDone MkE X.M)) U 0 rfl (exElement (BP hG hi hfull))
  refine wp_exit<|ak<|ak<|aC<|cD<|fG U (zm 0 G) (zm 0 G) ?_
  exact aS (rs:=[]) G U .nil zd
theorem l5 (X:BkRest)(vr:Value)(L:List Slot)(hdone:∀ t∈X.M,t.done MkE)(hl:X.M.length≤1000000):Cn Tryz.prog 89 [ElP 58 (BqA X vr L)] (Bo true):=by
 refine Cn.intro Tryz.func89 G zk nq (fun B w0 a U=>?_)
 have U:=zn [(0,ElP 58 (BqA X vr L))] [] U
 have hkp:=kpElement U 0 rfl
 have h1M:OneK X.M:=fun t ht=>⟨(hkp t ht).2.one,by rw [(hdone t ht).zu]; exact (hkp t ht).1.one⟩
 refine wp_seq<|zh [.v 2 _] [.g 0,.o 0] U (zv G (a9 aK) o0) (zz [(0,_),(2,_)] [] fun a w U=>?_)
 refine zt<|wp_seq<|zh [.v 3 _] [.g 0,.g 1,.o 0] U (zv G (a9 a8) o0) (zz [(0,_),(2,_),(3,_)] [] fun a w U=>?_)
 refine a7<|wp_block ?_
 have U:=St.sel U [0,2]
 refine wp_loop_ghost (fun n a w=>∃ (i:Nat),n+i=X.M.length∧St B w0 64 [(0,ElP 58 (BqA X vr L)),(3,In (i:Nat))] [] a w) (X.M.length) ?_ ?_
 ·exact ⟨0,by omega,U⟩
 intro n a w hI
 obtain ⟨i,hn,U⟩:=hI
 refine wp_seq<|wp_seq<|zh [.v 6 _,.v 7 _,.v 8 _,.v 9 _,.v 10 _,.v 11 _,.v 12 _] [.g 0,.g 1,.o 6] U (zM 1 G (zM 0 G (zv G (bp (vq 1 G)) (zv G (aH (vq 2 G) db (Sub.part 9 G G)) (zv G (aq (vq 3 G) jz) (zv G (be Tryz.underlying49 (has_wk' (vq 4 G) (nY h1M))) (zv G (aN (vq 0 G) (vq 5 G)) o0))))))) (zz [(0,_),(3,_),(12,_)] [] fun a w U=>?_)
 refine a7<|ah U (zm 2 G) (fun hb0=>?_) (fun hb0=>?_)
 ·have hi:i<X.M.length:=by have:=hb0; simp at this; omega
  obtain ⟨t,ht⟩:∃ t,X.M[i]?=some t:=⟨_,List.getElem?_eq_getElem hi⟩
  have hmem:=List.mem_of_getElem? ht
  have hd:=hdone t hmem
  have hzr:RowV t.z t.ys.length:=by rw [hd.zu]; exact (hkp t hmem).1
  refine wp_skip<|zt<|wp_block<|wp_seq<|iw (sp:=[.v 15 _,.v 16 _,.v 17 _,.v 18 _,.v 19 _,.v 20 _,.v 21 _,.alc 0,.sto 0]) 7 2 4 [.g 0,.g 1,.o 6] U (zM 0 G (zv G (bp (vq 0 G)) (zv G (aH (vq 1 G) db (Sub.part 9 G G)) (zv G (aq (vq 2 G) jz) (zM 1 G (zv G (cB (m:=3) ⟨Tryz.underlying49,by kernel_rfl⟩ nn (has_wk' (vq 3 G) (nY h1M)) (vq 4 G) (kv ht)) (zv G (aq (vq 5 G) jP) o0))))))) G zk zk (zz [(0,_),(3,_),(21,_)] [] fun a w U=>?_)
  rw [show List.range' 7 2=[7,8] from rfl]
  refine fI (A:=t.view) 2 [0,1] G G U (Str.zero cR) G jP G zd G zk zk (fun a w U=>?_)
  refine bq ?_
  have U:=zn [(0,_),(3,_)] [O 4 105 _] U
  refine zt<|wp_seq<|zg [none] [] [.adr 22 4 (.some 1) True,.v 23 _,.v 24 _,.adr 25 4 (.some 0) True,.v 26 _,.v 27 _,.v 28 _,.v 29 _] [.g 0,.g 1,.o 7] U (oc (ob_a G G (ac (lz0 0 G) gj)) (zL 0 0 1 G dQ (zv G (mt Tryz.underlying22 hzr (vq 1 G)) (oc (ob_a G G (ac (lz0 0 G) ei)) (zL 3 0 0 G dQ (zv G (mt Tryz.underlying22 hd.rv (vq 4 G)) (zv G (aR (vq 5 G) a8 (D4 (by have:=hd.lx; omega))) (zv G (cI (vq 2 G) (vq 6 G)) o0)))))))) (zz [(0,_),(3,_),(29,_)] [O 4 105 _] fun a w U=>?_)
  refine a7<|ah U (zm 2 G) (fun hb1=>?_) (fun hb1=>?_)
  ·exact absurd hb1 (by rw [hd.yl]; simp)
  ·refine wp_skip<|zt<|zg [none] [] [.v 5 _] [.g 0,.g 1,.o 0] U (zv G (a9 a8) o0) (zz [(0,_),(3,_),(5,_)] [O 4 105 _] fun a w U=>?_)
   refine a7<|wp_block ?_
   have U:=St.sel U [0,1,2]
   refine wp_loop_ghost (fun n a w=>∃ (k:Nat),n+k=t.ys.length∧St B w0 64 [(0,ElP 58 (BqA X vr L)),(3,In (i:Nat)),(5,In (k:Nat))] [⟨4,105,ptrH,t.view⟩] a w) (t.ys.length) ?_ ?_
   ·exact ⟨0,by omega,U⟩
   intro n a w hI
   obtain ⟨k,hn2,U⟩:=hI
   refine wp_seq<|wp_seq<|zg [none] [] [.v 30 _,.adr 31 4 (.some 1) True,.v 32 _,.v 33 _,.v 34 _] [.g 0,.g 1,.g 2,.o 4] U (zM 2 G (oc (ob_a G G (ac (lz0 0 G) gj)) (zL 1 0 1 G dQ (zv G (mt Tryz.underlying22 hzr (vq 2 G)) (zv G (aN (vq 0 G) (vq 3 G)) o0))))) (zz [(0,_),(3,_),(5,_),(34,_)] [O 4 105 _] fun a w U=>?_)
   refine a7<|ah U (zm 3 G) (fun hb2=>?_) (fun hb2=>?_)
   ·have hk:k<t.ys.length:=by have:=hb2; simp at this; omega
    refine wp_skip<|zt<|wp_block<|wp_seq<|j6 (anc:=[[],[0],[],[0,1,2],[0,1,2,3],[],[5],[0,1,2,3,4,5,6],[0,1,2,3,4,5,6,7],[0,1,2,3,4,5,6,7,8],[0,1,2,3,4,5,6,7,8,9],[0,1,2,3,4,5,6,7,8,9],[0,1,2,3,4,5,6,7,8,9,11],[0,1,2,3,4,5,6,7,8,9,11,12],[0,1,2,3,4,5,6,7,8,9,10,11,12,13],[0,1,2,3,4,5,6,7,8,9,10,11,12,13,14],[0,1,2,3,4,5,6,7,8,9,10,11,12,13,14,15],[0,1,2,3,4,5,6,7,8,9,10,11,12,13,14,15,16],[0,1,2,3,4,5,6,7,8,9,10,11,12,13,14,15],[0,1,2,3,4,5,6,7,8,9,10,11,12,13,14,15,16,17,18],[0,1,2,3,4,5,6,7,8,9,10,11,12,13,14,15,16,17,18,19],[0,1,2,3,4,5,6,7,8,9,10,11,12,13,14,15],[0,1,2,3,4,5,6,7,8,9,10,11,12,13,14,15,21],[0,1,2,3,4,5,6,7,8,9,10,11,12,13,14,15,16,17,18,19,20,21,22],[0,1,2,3,4,5,6,7,8,9,10,11,12,13,14,15,16,17,18,19,20,21,22,23],[0,1,2,3,4,5,6,7,8,9,10,11,12,13,14,15,16,17,18,19,20,21,22,23,24],[0,1,2,3,4,5,6,7,8,9,10,11,12,13,14,15,16,17,18,19,20,21,22,23,24,25]]) (sts:=[none]) (news:=[]) (sp:=((.adr 37 4 (.some 1) True:Sp)::(.v 38 _)::(.v 39 _)::(.v 40 _)::(.v 41 _)::(.adr 42 4 (.some 2) True)::(.v 43 _)::(.v 44 _)::(.v 45 _)::(.v 46 _)::(.v 47 (Wh (_=false) _))::(.adr 48 4 (.some 0) (_=false))::(.v 49 (Wh (_=false) _))::(.v 50 (Wh (_=false) _))::(.v 51 (Wh (_=false) _))::(.v 52 (Wh (_=false) _))::(.adr 53 4 (.some 0) ((_=false)∧_=true))::(.v 54 (Wh ((_=false)∧_=true) _))::(.v 55 (Wh ((_=false)∧_=true) _))::(.v 56 (Wh ((_=false)∧_=true) _))::(.v 57 (Wh ((_=false)∧_=true) _))::(.adr 58 4 (.some 2) ((_=false)∧_=true))::(.v 59 (Wh ((_=false)∧_=true) _))::(.v 60 (Wh ((_=false)∧_=true) _))::(.v 61 (Wh ((_=false)∧_=true) _))::(.v 62 (Wh (_=false) _))::(.v 63 _)::[])) [.g 0,.g 1,.g 2,.o 26] ab U (oc (ob_a G G (ac (lz0 0 G) gj)) (zL 0 0 1 G dQ (zM 2 G (zv G (cB (m:=9) ⟨Tryz.underlying22,by kernel_rfl⟩ (y7 G) (suElement (vq 1 G) (gq 0 G) hmem hd) (vq 2 G) (sn hk)) (zv G (aq (vq 3 G) cb) (oc (ob_a G G (ac (lz0 0 G) gi)) (zL 5 0 2 G ty_3 (zv G (aa (xs:=[.tmp 41,.tmp 43]) (j5 _) (.cons (vq 4 G) (.cons (vq 6 G) .nil))) (zv G (dS (vq 7 G)) (zv G (ae (vq 8 G)) (oc (an G G G (vq 9 G) nq (fun hg=>ae (gq 2 G))) (oc (bM G G G (vq 9 G) nq (fun hg=>ac (lz0 0 G) ei)) (oc (an G G G (vq 9 G) nq (fun hg=>aD 11 G zk hg (lz0 0 G) (Sub.part 0 G G) dQ)) (oc (an G G G (vq 9 G) nq (fun hg=>mt Tryz.underlying22 hd.rv (ai (vq 12 G) hg))) (oc (an G G G (vq 9 G) nq (fun hg=>aN (ai (vq 10 G) hg) (ai (vq 13 G) hg))) (oc (an G G G (vq 9 G) nq (fun hg=>ae (ai (vq 14 G) hg))) (oc (eR G G G (vq 15 G) nq (fun hg=>ac (lz0 0 G) ei)) (oc (bB G G G (vq 15 G) nq (fun hg=>aD 16 G zk hg (lz0 0 G) (Sub.part 0 G G) dQ)) (oc (bB G G G (vq 15 G) nq (fun hg=>ae (gq 2 G))) (oc (bB G G G (vq 15 G) nq (fun hg=>cB (m:=9) ⟨Tryz.underlying22,by kernel_rfl⟩ (y7 G) (svElement (ai (vq 17 G) hg) (gq 0 G) hmem hd) (ai (vq 18 G) hg) (sn (by have:=hg; simp at this; omega)))) (oc (bB G G G (vq 15 G) nq (fun hg=>aq (ai (vq 19 G) hg) cb)) (oc (eR G G G (vq 15 G) nq (fun hg=>ac (lz0 0 G) gi)) (oc (bB G G G (vq 15 G) nq (fun hg=>aD 21 G zk hg (lz0 0 G) (Sub.part 2 G G) ty_3)) (oc (bB G G G (vq 15 G) nq (fun hg=>aa (xs:=[.tmp 57,.tmp 59]) (j5 _) (.cons (ai (vq 20 G) hg) (.cons (ai (vq 22 G) hg) .nil)))) (oc (bB G G G (vq 15 G) nq (fun hg=>dS (ai (vq 23 G) hg))) (oc (an G G G (vq 9 G) nq (fun hg=>bJ (ai (vq 15 G) hg) (eD (vq 24 G) hg))) (zv G (r_or (vq 9 G) (vq 25 G)) o0))))))))))))))))))))))))))) zk zk zk zk (zz [(0,_),(3,_),(5,_),(63,_)] [O 4 105 _] fun a w U=>?_)
    refine a7<|ah U (zm 3 G) (fun hb3=>?_) (fun hb3=>?_)
    ·exact absurd hb3 (by simp)
    ·refine wp_skip<|ao ?_
     refine a7<|zg [none] [] [.v 35 _,.v 36 _,.v 5 _] [.g 0,.g 1,.o 2] U (zM 2 G (zv G (aR (vq 0 G) a8 (aX (by have:=hd.lx; have:=hd.yl; omega))) (zA 1 G o0))) (zz [(0,_),(3,_),(5,_)] [O 4 105 _] fun a w U=>?_)
     refine a7 ?_
     have U:=St.sel U [0,1,2]
     exact ⟨n-1,by omega,k+1,by omega,U⟩
   ·have hk:k=t.ys.length:=by have:=hb2; simp at this; omega
    refine wp_exit<|ak<|ak<|aC<|ao ?_
    refine a7<|zg [none] [] [.v 13 _,.v 14 _,.v 3 _] [.g 0,.o 2] U (zM 1 G (zv G (aR (vq 0 G) a8 (aX zo)) (zA 1 G o0))) (zz [(0,_),(3,_)] [O 4 105 _] fun a w U=>?_)
    refine a7 ?_
    have U:=St.sel U [0,1]
    have U:=St.selL U []
    exact ⟨X.M.length-(i+1),by omega,i+1,by omega,U⟩
 ·have hi:i=X.M.length:=by have:=hb0; simp at this; omega
  refine wp_exit<|ak<|ak<|aC<|zt<|zh [.v 2 _] [.g 0,.o 0] U (zv G (a9 aK) o0) (zz [(0,_),(2,_)] [] fun a w U=>?_)
  exact a7<|wp_ret<|am G U (zm 1 G)
section
open Rg
variable {P:Program} {Q:Exit→Act→World→Prop} {R:Rg} {B i:Nat} {w0:Bs}
end
abbrev KL:=List (Value × List Nat)
def SepL:List Slot→KL→Prop
 | _,[]=>True
 | L,p::l=>(∀ t∈L,∀ g,t.has g→p.1.ownBlock≠some g)∧SepL (L++[newS p.1 p.2 (L.length+1)]) l
def kbl (l:KL):List Nat:=l.filterMap fun p=>p.1.ownBlock
def JkA:As where
 n:=17
 ag:=true
 p _ cs _:=cs.length=17∧∀ c∈cs,c.oneCell'=true
 deps:=[]
 len:=fun _ _ _ h=>h.1
 one:=fun _ _ _ h=>h.2
 ag1:=fun h=>by cases h
 cg:=fun _ _ _ _ _ h=>h
 wr:=fun _ _ _ _ _ _ _ _ _ _ _ _ h=>h
def IntP (x:RI)(m:Value):As:=cat [BoA x.neg,PinA m (MgN x.mag)]
def FracP (x:RF)(m1 m2:Value):As:=cat [IntP x.num m1,IntP x.den m2]
abbrev kf (x:RF)(m1 m2:Value):KL:=[(m1,x.num.mag),(m2,x.den.mag)]
abbrev kg (x:RG)(m:Nat→Value):KL:=kf x.re (m 0) (m 1)++kf x.im (m 2) (m 3)
def MatP (x:RM)(m:Nat→Value):As:=cat [FracP x.a (m 0) (m 1),FracP x.b (m 2) (m 3),FracP x.c (m 4) (m 5),FracP x.d (m 6) (m 7)]
abbrev km (x:RM)(m:Nat→Value):KL:=kf x.a (m 0) (m 1)++kf x.b (m 2) (m 3)++kf x.c (m 4) (m 5)++kf x.d (m 6) (m 7)
end Go.Proofs.YtmacliockgbdcaaGreatDoor
