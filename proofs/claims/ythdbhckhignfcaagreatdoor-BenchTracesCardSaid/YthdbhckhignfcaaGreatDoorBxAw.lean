import Derived.Test.YthdbhckhignfcaaGreatDoorBxAa
import Derived.Test.YthdbhckhignfcaaGreatDoorBxAc
import Derived.Test.YthdbhckhignfcaaGreatDoorBxAv
set_option linter.unusedVariables false
set_option linter.unusedSimpArgs false
set_option linter.unusedSectionVars false
set_option maxRecDepth 100000
namespace Go.Proofs.YthdbhckhignfcaaGreatDoor
open Go Go.RowKit
def ExtP (A:Nat→As)(s:Slt)(k:Nat)(ys:List (List Value)):Prop:=ys.length=s.xs.length+k∧s.xs <+: ys∧∀ y∈ys,isMk A s.n y
theorem extP_0 {A:Nat→As}{s:Slt}(h:s.full A):ExtP A s 0 s.xs:=⟨rfl,List.prefix_refl _,h.xm⟩
theorem fik_view {A:Nat→As}{s t:Slt}{c:Nat→Prop}(h:Fik A s t c):t.view=s.view:=by
 unfold Slt.view
 rw [h.v,h.z,h.n]
theorem zqw {A:Nat→As}{M:List Slt}{i:Nat}{s t:Slt}{c:Nat→Prop}(ht:M[i]?=some t)(h:Fik A s t c):(M.map Slt.view)[i]?=some s.view:=by rw [zh9 ht,fik_view h]
theorem zdh:Str Tryz.prog 100 [EqS (.slice none 0 0),EqS (.slice none 0 0),NumA .i64 0] :=
 Str.of (z:=.agg #[.slice none 0 0,.slice none 0 0,.int .i64 0]) zk Tryz.underlying100 zk fun B w=>⟨[[.slice none 0 0],[.slice none 0 0],[.int .i64 0]],rfl,.cons ⟨rfl,rfl⟩ (.cons ⟨rfl,rfl⟩ (.cons rfl .nil))⟩
theorem zny:∃ it z,Tryz.prog.info? 69=some it∧it.zero=some z∧it.size=9∧it.bytes=136∧z.cells.size=9:=by
 have h:((Tryz.prog.info? 69).bind fun it=>it.zero.map fun z=>(it.size,it.bytes,z.cells.size))=some (9,136,9):=by kernel_rfl
 cases hi:Tryz.prog.info? 69 with
 | none=>rw [hi] at h; simp at h
 | some it =>
  rw [hi] at h
  cases hz:it.zero with
  | none=>simp [hz] at h
  | some z =>
   simp [hz] at h
   exact ⟨it,z,rfl,hz,h.1,h.2.1,h.2.2⟩
theorem wrElement {X:BkRest}{vr:Value}{L:List Slot}{M M':List Slt}{B g T:Nat}{c c':Array Value}{cs:List Value}{w:World}(h:(BqA { X with M:=M } vr L).p B cs w)(hgc:w.heap[g]?=some (.cells c T (0,0)))(hT:T=100∨T=69)(hB:B≤g)(f:∀ c0,(HkA 100 69 9 X.ve M).p B c0 w→(HkA 100 69 9 X.ve M').p B c0 (w.setRow g c')):(BqA { X with M:=M' } vr L).p B cs (w.setRow g c'):=by
 rcases hT with rfl | rfl
 ·exact zj6 h rfl (fun c0 hp=>As.kwr hp hgc (show 100 ∉ [105,U32] by decide) hB) (fun c0 hp=>As.kwr hp hgc (show 100 ∉ [109,3] by decide) hB) (fun c0 hp=>As.kwr hp hgc (show 100 ∉ [103,29] by decide) hB) f
 ·exact zj6 h rfl (fun c0 hp=>As.kwr hp hgc (show 69 ∉ [105,U32] by decide) hB) (fun c0 hp=>As.kwr hp hgc (show 69 ∉ [109,3] by decide) hB) (fun c0 hp=>As.kwr hp hgc (show 69 ∉ [103,29] by decide) hB) f
theorem grElement {X:BkRest}{vr:Value}{L:List Slot}{M M':List Slt}{B:Nat}{row:Option Nat}{cs:List Value}{w w':World}(h:(BqA { X with M:=M } vr L).p B cs w)(hg:w.grownBy w' row)(hr:RowOk w B 69 row)(f:∀ c0,(HkA 100 69 9 X.ve M).p B c0 w→(HkA 100 69 9 X.ve M').p B c0 w'):(BqA { X with M:=M' } vr L).p B cs w' :=
 zj6 h rfl (fun c0 hp=>As.grown hp hg hr (Nat.le_refl _) (show 69 ∉ [105,U32] by decide)) (fun c0 hp=>As.grown hp hg hr (Nat.le_refl _) (show 69 ∉ [109,3] by decide)) (fun c0 hp=>As.grown hp hg hr (Nat.le_refl _) (show 69 ∉ [103,29] by decide)) f
theorem hkElement {X:BkRest}{vr:Value}{L:List Slot}{M:List Slt}{B:Nat}{cs:List Value}{w:World}(h:(BqA { X with M:=M } vr L).p B cs w):∃ c,(HkA 100 69 9 X.ve M).p B c w:=(zcz h).2.2.2
theorem fiElement {X:BkRest}{vr:Value}{L:List Slot}{M:List Slt}{B i k g cap:Nat}{t:Slt}{cs ds:List Value}{w:World}(hi:M[i]?=some t)(hu:t.u=t.v)(hy:t.ys=t.xs)(hv:t.v=.slice (some ⟨g,0,none⟩) t.xs.length cap)(hk:k<t.xs.length)(hd:ds.length=9)(h:(BqA { X with M:=M } vr L).p B cs w) :
  B≤g∧∃ c:Array Value,w.heap[g]?=some (Obj.cells c 69 (0,0))∧k*9+9≤c.size∧(BqA { X with M:=M.set i { t with xs:=t.xs.set k ds,ys:=t.xs.set k ds } } vr L).p B cs (w.setRow g (c.toList.take (k*9)++ds++c.toList.drop (k*9+9)).toArray):=by
 obtain ⟨c0,h0⟩:=hkElement h
 obtain ⟨h2,c,h3,h4,h5⟩:=zna zd h0 hi hu hy hv hk hd
 refine ⟨h2,c,h3,h4,wrElement h h3 (.inr rfl) h2 fun c1 h6=>?_⟩
 obtain ⟨_,c',h7,_,h8⟩:=zna zd h6 hi hu hy hv hk hd
 rw [h3] at h7
 injection h7 with h7
 injection h7 with h7
 subst h7
 exact h8
def ExElement (X:BkRest)(vr:Value)(L:List Slot)(p:List Slt→Prop):As where
 n:=17
 ag:=true
 p B cs w:=∃ M,p M∧(BqA { X with M:=M } vr L).p B cs w
 deps:=(BqA X vr L).deps
 len:=fun B cs w ⟨M,_,h⟩=>(BqA { X with M:=M } vr L).len B cs w h
 one:=fun B cs w ⟨M,_,h⟩=>(BqA { X with M:=M } vr L).one B cs w h
 ag1:=fun h=>by cases h
 cg:=fun B cs w w' hg ⟨M,h1,h⟩=>⟨M,h1,(BqA { X with M:=M } vr L).cg B cs w w' hg h⟩
 wr:=fun B cs w w' g c T fz h1 h2 h3 h4 ⟨M,h5,h⟩=>⟨M,h5,(BqA { X with M:=M } vr L).wr B cs w w' g c T fz h1 h2 h3 h4 h⟩
theorem exElement {X:BkRest}{vr:Value}{L:List Slot}{M:List Slt}{p:List Slt→Prop}(hp:p M):WkA (BqA { X with M:=M } vr L) (ExElement X vr L p):=⟨rfl,rfl,fun B cs w h=>⟨M,hp,h⟩⟩
theorem stElement {X:BkRest}{vr:Value}{L:List Slot}{p:List Slt→Prop}{B N:Nat}{w0:Bs}{Γ:List (Nat × VA)}{Λ:List Lc}{a:Act}{w:World}{s:Nat}{T:TypeId}{H:Hd}(h:St B w0 N Γ Λ a w)(k:Nat)(hm:Λ[k]?=some ⟨s,T,H,ExElement X vr L p⟩):∃ M,p M∧St B w0 N Γ (Λ.set k ⟨s,T,H,BqA { X with M:=M } vr L⟩) a w:=by
 obtain ⟨g,cs,q1,q2,q3,M,hG,q4⟩:=h.locs _ (List.mem_of_getElem? hm)
 have hs:∀ m∈Λ.set k ⟨s,T,H,BqA { X with M:=M } vr L⟩,∃ m0∈Λ,m0.s=m.s:=fun m hm'=>by
  rcases List.mem_or_eq_of_mem_set hm' with hm' | rfl
  ·exact ⟨m,hm',rfl⟩
  ·exact ⟨_,List.mem_of_getElem? hm,rfl⟩
 refine ⟨M,hG,h.lo,h.defers,h.size,h.base,h.vals,fun l hl=>?_,fun m1 hm1 m2 hm2 hne=>?_⟩
 ·rcases List.mem_or_eq_of_mem_set hl with hl | rfl
  ·exact h.locs l hl
  ·exact ⟨g,cs,q1,q2,q3,q4⟩
 ·obtain ⟨m3,r1,r2⟩:=hs m1 hm1
  obtain ⟨m4,r3,r4⟩:=hs m2 hm2
  rw [← r2,← r4] at hne ⊢
  exact h.dis m3 r1 m4 r3 hne
theorem apElement {X:BkRest}{vr:Value}{L:List Slot}{M:List Slt}{B i k:Nat}{s:Slt}{u:Value}{ys:List (List Value)}{cs:List Value}{w:World}(hMi:M[i]?=some s)(hE:ExtP MkE s k ys)(h:(BqA { X with M:=M.set i (s.ext u ys) } vr L).p B cs w) :
  w.ownsRow B 69 9 u (s.xs.length+k) ys.flatten∧∀ v' w' ds,isMk MkE s.n ds→w'.ownsRow B 69 9 v' (s.xs.length+k+1) (ys.flatten++ds)→w.grownBy w' u.ownBlock→(v'.ownBlock=u.ownBlock∨(v'.ownBlock=some w.heap.size∧w.grownBy w' none))→(ExElement X vr L fun M'=>∃ ys',M'=M.set i (s.ext v' ys')∧ExtP MkE s (k+1) ys').p B cs w':=by
 have hlt:=(List.getElem?_eq_some_iff.1 hMi).1
 have hi:(M.set i (s.ext u ys))[i]?=some (s.ext u ys):=List.getElem?_set_self hlt
 obtain ⟨hl,hp,hm⟩:=hE
 obtain ⟨c0,h0⟩:=hkElement h
 have hown0:w.ownsRow B 69 9 u (s.xs.length+k) ys.flatten:=by
  have:=(h0.2.2.1 _ (List.mem_of_getElem? hi)).1
  rw [show (s.ext u ys).ys.length=s.xs.length+k from hl] at this
  exact this
 refine ⟨hown0,fun v' w' ds hds hown hg hb=>⟨M.set i (s.ext v' (ys++[ds])),⟨ys++[ds],rfl,by rw [List.length_append,hl]; rfl,hp.trans (List.prefix_append _ _),mk_mem hm hds⟩,grElement h hg (zfb hown0) fun c hc=>?_⟩⟩
 have:=hk_app (v':=v') (ds:=ds) zd hc hi (by rw [show (s.ext u ys).ys.length=s.xs.length+k from hl]; exact hown) hg hb (fun _=>hp) (fun y hy=>mkp_e.len (hm y hy))
 rw [zjc] at this
 exact this
theorem puElement {X:BkRest}{vr z:Value}{L:List Slot}{M:List Slt}{B i g cap:Nat}{s:Slt}{cs:List Value}{w:World}(hi:M[i]?=some s)(hvr:X.ve=.slice (some ⟨g,0,none⟩) M.length cap)(h:(BqA { X with M:=M } vr L).p B cs w) :
  B≤g∧∃ c:Array Value,w.heap[g]?=some (Obj.cells c 100 (0,0))∧i*3+1<c.size∧(BqA { X with M:=M.set i { s with z:=z } } vr L).p B cs (w.setRow g (c.setIfInBounds (i*3+1) z)):=by
 obtain ⟨c0,h0⟩:=hkElement h
 obtain ⟨h2,c,h3,h4,h5⟩:=zsc zd z h0 hi hvr
 refine ⟨h2,c,h3,h4,wrElement h h3 (.inl rfl) h2 fun c1 h6=>?_⟩
 obtain ⟨_,c',h7,_,h8⟩:=zsc zd z h6 hi hvr
 rw [h3] at h7
 injection h7 with h7
 injection h7 with h7
 subst h7
 exact h8
theorem knElement {X:BkRest}{vr:Value}{L:List Slot}{M:List Slt}{B N:Nat}{w0:Bs}{Γ:List (Nat × VA)}{Λ:List Lc}{a:Act}{w:World}{s:Nat}{T:TypeId}{H:Hd}(h:St B w0 N Γ Λ a w)(k:Nat)(hm:Λ[k]?=some ⟨s,T,H,BqA { X with M:=M } vr L⟩):RowV X.ve M.length∧∀ t∈M,RowV t.u t.ys.length∧RowV t.v t.xs.length:=by
 obtain ⟨g,cs,_,_,_,hp⟩:=h.locs _ (List.mem_of_getElem? hm)
 obtain ⟨c,h1,h2,h3,_⟩:=hkElement hp
 exact ⟨(zcv h2).2,fun t ht=>⟨(zcv (h3 t ht).1).2,(h3 t ht).2.1⟩⟩
theorem kpElement {X:BkRest}{vr:Value}{L:List Slot}{B N:Nat}{w0:Bs}{Γ:List (Nat × VA)}{Λ:List Lc}{a:Act}{w:World}{s:Nat}{T:TypeId}(h:St B w0 N Γ Λ a w)(k:Nat)(hm:Γ[k]?=some (s,ElP T (BqA X vr L))):∀ t∈X.M,RowV t.u t.ys.length∧RowV t.v t.xs.length:=by
 obtain ⟨b,o,cs,_,_,_,hp,_⟩:=h.vals _ (List.mem_of_getElem? hm)
 obtain ⟨c,h1,h2,h3,_⟩:=hkElement (M:=X.M) hp
 exact fun t ht=>⟨(zcv (h3 t ht).1).2,(h3 t ht).2.1⟩
section
open Rg
variable {P:Program} {Q:Exit→Act→World→Prop} {R:Rg} {B i:Nat} {w0:Bs}
theorem svElement {X:BkRest}{x y:Operand}{vr:Value}{L:List Slot}{t:Slt}{T:TypeId}(hx:Has R B w0 i x (EqS t.v).va)(hl:Has R B w0 i y (ElP T (BqA X vr L)))(ht:t∈X.M)(hd:t.done MkE):Has R B w0 i x (SlA 69 [] (List.replicate t.xs.length (MkE t.n))).va:=fun a w av=>by
 obtain ⟨b,o,cs,_,_,_,h,_⟩:=hl a w av
 obtain ⟨c,h⟩:=hkElement (M:=X.M) h
 rw [zhy (hx a w av)]
 exact zmg mkp_e (h.2.2.1 t ht).2 hd.xm
theorem suElement {X:BkRest}{x y:Operand}{vr:Value}{L:List Slot}{t:Slt}{T:TypeId}(hx:Has R B w0 i x (EqS t.z).va)(hl:Has R B w0 i y (ElP T (BqA X vr L)))(ht:t∈X.M)(hd:t.done MkE):Has R B w0 i x (SlA 69 [] (List.replicate t.ys.length (MkE t.n))).va:=fun a w av=>by
 obtain ⟨b,o,cs,_,_,_,h,_⟩:=hl a w av
 obtain ⟨c,h⟩:=hkElement (M:=X.M) h
 rw [zhy (hx a w av),hd.zu]
 exact zmg mkp_e (zmo (fun y hy=>mkp_e.len (hd.ym y hy)) (h.2.2.1 t ht).1) hd.ym
end
theorem znr (X:BkRest)(vr:Value)(L:List Slot)(hnew:∀ s∈X.M,s.new)(hl:X.M.length≤1000000):CK Tryz.prog 47 59 [59,100,69] (BqA X vr L) (ExElement X vr L (allFull MkE X.M)) [] (Tu []):=by
 refine CK.intro Tryz.func47 rfl zk nq zk (fun B g w0 a hrm O=>?_)
 have O:=zn [(0,EqV ((ptrH).f g)),] [⟨0,59,ptrH,BqA X vr L⟩] O
 refine wp_seq<|zg [none] [] [.v 2 _] [.g 0,.o 0] O (zv rfl (za2 za3) o0) (zz [(0,_),(2,_)] [⟨0,59,ptrH,_⟩] fun a w O=>?_)
 refine za0<|wp_block ?_
 have O:=St.sel O [0,1]
 refine wp_loop_ghost (fun n a w=>∃ (i:Nat) (M:List Slt),(n+i=X.M.length∧FiK MkE X.M M i 0)∧St B w0 35 [(0,EqV (ptrH.f g)),(2,In (i:Nat))] [⟨0,59,ptrH,BqA { X with M:=M } vr L⟩] a w) (X.M.length) ?_ ?_
 ·exact ⟨0,X.M,⟨by omega,fik_0 hnew⟩,O⟩
 intro n a w hI
 obtain ⟨i,M,⟨hn,hF⟩,O⟩:=hI
 have h1M:=zyo hF hnew
 refine wp_seq<|wp_seq<|zg [none] [] [.v 5 _,.adr 6 0 (.some 0) True,.adr 7 0 (.some 0) True,.adr 8 0 (.some (0+9)) True,.v 9 _,.v 10 _,.v 11 _] [.g 0,.g 1,.o 6] O (zv rfl (za1 (gq 1 rfl)) (oc (ob_a rfl rfl (zef (lz0 0 rfl))) (oc (ob_a rfl rfl (zee 1 rfl zk (lz0 0 rfl))) (oc (ob_a rfl rfl (zda 2 rfl zk trivial (lz0 0 rfl) zdp)) (zv rfl (za4 3 rfl zk trivial (lz0 0 rfl) (Sub.part 9 rfl rfl) zl1) (zv rfl (zbk Tryz.underlying50 (has_wk' (vq 4 rfl) (zir h1M))) (zv rfl (zb1 (vq 0 rfl) (vq 5 rfl)) o0))))))) (zz [(0,_),(2,_),(11,_)] [⟨0,59,ptrH,_⟩] fun a w O=>?_)
 refine za0<|za8 O (zm 2 rfl) (fun hb0=>?_) (fun hb0=>?_)
 ·have hi:i<X.M.length:=by have:=hF.1; simpa [this] using hb0
  obtain ⟨s,hs⟩:∃ s,X.M[i]?=some s:=⟨_,List.getElem?_eq_getElem hi⟩
  have hwf:=hnew s (List.mem_of_getElem? hs)
  obtain ⟨t,ht,hf⟩:=zsr hF hs
  have hvi:=zqw ht hf
  refine wp_skip<|zt<|wp_block<|wp_seq<|zbs (sp:=[.adr 14 0 (.some 0) True,.adr 15 0 (.some 0) True,.adr 16 0 (.some (0+9)) True,.v 17 _,.v 18 _,.v 19 _,.v 20 _,.v 3 VT,.sto 0]) 7 2 0 8 OneC [.g 0,.g 1,.o 6] O (oc (ob_a rfl rfl (zef (lz0 0 rfl))) (oc (ob_a rfl rfl (zee 0 rfl zk (lz0 0 rfl))) (oc (ob_a rfl rfl (zda 1 rfl zk trivial (lz0 0 rfl) zdp)) (zv rfl (za4 2 rfl zk trivial (lz0 0 rfl) (Sub.part 9 rfl rfl) zl1) (zv rfl (za1 (gq 1 rfl)) (zv rfl (zd0 (m:=3) ⟨Tryz.underlying50,by kernel_rfl⟩ zi9 (has_wk' (vq 3 rfl) (zir h1M)) (vq 4 rfl) hvi) (zv rfl (zad (vq 5 rfl) zli) o0))))))) rfl zd zk zk (zz [(0,_),(2,_),(20,_)] [⟨0,59,ptrH,_⟩] fun a w O=>?_)
  rw [show List.range' 7 2=[7,8] from rfl]
  refine zfd (A:=s.view) 2 [0,1] rfl rfl O (Str.zero zdh) rfl zli rfl zd rfl zk zk (fun a w O=>?_)
  refine zbi ?_
  have O:=zn [(0,_),(2,_)] [⟨0,59,ptrH,_⟩,⟨3,100,ptrH,_⟩] O
  refine zt<|zg [none,none] [] [.v 4 _] [.g 0,.g 1,.o 0] O (zv rfl (za2 za3) o0) (zz [(0,_),(2,_),(4,_)] [⟨0,59,ptrH,_⟩,⟨3,100,ptrH,_⟩] fun a w O=>?_)
  refine za0<|wp_block ?_
  have O:=St.sel O [0,1,2]
  refine wp_loop_ghost (fun n a w=>∃ (k:Nat) (M:List Slt),(n+k=s.xs.length∧FiK MkE X.M M i k)∧St B w0 35 [(0,EqV (ptrH.f g)),(2,In (i:Nat)),(4,In (k:Nat))] [⟨0,59,ptrH,BqA { X with M:=M } vr L⟩,⟨3,100,ptrH,s.view⟩] a w) (s.xs.length) ?_ ?_
  ·exact ⟨0,M,⟨by omega,hF⟩,O⟩
  intro n a w hI
  obtain ⟨k,M,⟨hn2,hF⟩,O⟩:=hI
  obtain ⟨t,ht,hf⟩:=zsr hF hs
  refine wp_seq<|wp_seq<|zg [none,none] [] [.v 21 _,.adr 22 3 (.some 0) True,.v 23 _,.v 24 _,.v 25 _] [.g 0,.g 1,.g 2,.o 4] O (zv rfl (za1 (gq 2 rfl)) (oc (ob_a rfl rfl (za9 (lz0 1 rfl) zf0)) (zv rfl (za4 1 rfl zk trivial (lz0 1 rfl) (Sub.part 0 rfl rfl) zl5) (zv rfl (zgt Tryz.underlying22 hwf.rv (vq 2 rfl)) (zv rfl (zb1 (vq 0 rfl) (vq 3 rfl)) o0))))) (zz [(0,_),(2,_),(4,_),(25,_)] [⟨0,59,ptrH,_⟩,⟨3,100,ptrH,_⟩] fun a w O=>?_)
  refine za0<|za8 O (zm 3 rfl) (fun hb1=>?_) (fun hb1=>?_)
  ·have hk:k<s.xs.length:=by simpa using hb1
   refine wp_skip<|zt<|wp_block<|zng (sp:=[.adr 28 3 (.some 0) True,.v 29 _,.v 30 _,.adr 31 3 (.some 2) True,.v 32 _,.v 33 _,.v 34 VT,.sto 0]) [[],[0],[],[],[3],[3,4],[0,1,2,3,4,5],[0,1,2,3,4,5,6]] 6 2 0 7 OneC [.g 0,.g 1,.g 2,.o 1,.o 2,.o 5] za6 O (oc (ob_a rfl rfl (za9 (lz0 1 rfl) zf0)) (zv rfl (za4 0 rfl zk trivial (lz0 1 rfl) (Sub.part 0 rfl rfl) zl5) (zv rfl (za1 (gq 2 rfl)) (oc (ob_a rfl rfl (za9 (lz0 1 rfl) zhw)) (zv rfl (za4 3 rfl zk trivial (lz0 1 rfl) (Sub.part 2 rfl rfl) ty_3) (zv rfl (za5 (xs:=[.tmp 32]) (zhl _) (.cons (vq 4 rfl) .nil)) o0)))))) rfl zd zd zk (zix zk) zk zk (zz [(0,_),(2,_),(4,_),(29,_),(30,_),(33,_)] [⟨0,59,ptrH,_⟩,⟨3,100,ptrH,_⟩] fun a w O=>?_)
   rw [show List.range' 6 2=[6,7] from rfl]
   obtain ⟨g1,cap1,hv1⟩:=hwf.rv.row hk
   have O:=St.wkG O 3 rfl (show Wk (EqS s.v).va (EqV (.slice (some ⟨g1,0,none⟩) s.xs.length cap1)) from hv1▸zjt)
   obtain ⟨vm,ds,hmk,hvc,hone,O⟩:=St.pinV O 5 rfl
   have hds:=mkp_e.len ⟨_,_,hmk⟩
   rw [wpOps_cons]
   refine zik (m:=9) (k:=k) 3 4 rfl O ⟨Tryz.underlying22,by kernel_rfl⟩ zd rfl rfl hk zd zk zk (fun a O=>?_)
   rw [wpOps_cons]
   refine zwu (A1:=BqA { X with M:=M.set i { t with xs:=t.xs.set k ds,ys:=t.xs.set k ds } } vr L) [1,2,3] 0 6 0 rfl O rfl rfl hone hvc hds zeg rfl zd (hrm _ zk) zk zk (fun cs hp=>fiElement ht (hf.u.trans hf.v.symm) hf.yx (by rw [hf.v,hf.l]; exact hv1) (by rw [hf.l]; exact hk) hds hp) (fun w O=>?_)
   refine zcq ?_
   have O:=zn [(0,_),(2,_),(4,_)] [⟨0,59,ptrH,BqA { X with M:=M.set i { t with xs:=t.xs.set k ds,ys:=t.xs.set k ds } } vr L⟩,⟨3,100,ptrH,_⟩] O
   refine zae ?_
   refine za0<|zg [none,none] [] [.v 26 _,.v 27 _,.v 4 _] [.g 0,.g 1,.o 2] O (zv rfl (za1 (gq 2 rfl)) (zv rfl (zb5 (vq 0 rfl) za3 (zb3 (by have:=hwf.lx; omega))) (zv rfl (za2 (vq 1 rfl)) o0))) (zz [(0,_),(2,_),(4,_)] [⟨0,59,ptrH,_⟩,⟨3,100,ptrH,_⟩] fun a w O=>?_)
   refine za0 ?_
   have O:=St.sel O [0,1,2]
   exact ⟨n-1,by omega,k+1,_,⟨by omega,zsp hF hs ht ⟨_,_,hmk⟩⟩,O⟩
  ·have hk:k=s.xs.length:=by simp at hb1; omega
   subst hk
   refine wp_exit<|za7<|za7<|zap<|zae ?_
   refine za0<|zg [none,none] [] [.v 12 _,.v 13 _,.v 2 _] [.g 0,.o 2] O (zv rfl (za1 (gq 1 rfl)) (zv rfl (zb5 (vq 0 rfl) za3 (zb3 (by have:=hwf.lx; omega))) (zv rfl (za2 (vq 1 rfl)) o0))) (zz [(0,_),(2,_)] [⟨0,59,ptrH,_⟩,⟨3,100,ptrH,_⟩] fun a w O=>?_)
   refine za0 ?_
   have O:=St.sel O [0,1]
   have O:=St.selL O [0]
   exact ⟨X.M.length-(i+1),by omega,i+1,M,⟨by omega,zsq hF hs⟩,O⟩
 ·have hi:X.M.length≤i:=by have:=hF.1; simp [this] at hb0; omega
  have O:=St.wkL (A':=ExElement X vr L (allFull MkE X.M)) O 0 rfl (exElement (zyr hF hi hnew))
  refine wp_exit<|za7<|za7<|zap<|zc9<|zen O (zm 0 rfl) (zm 0 rfl) ?_
  exact zb6 (rs:=[]) rfl O .nil zd
theorem znd (X:BkRest)(vr:Value)(L:List Slot)(hfull:∀ s∈X.M,s.full MkE)(hl:X.M.length≤1000000):CK Tryz.prog 63 59 [59,100,69] (BqA X vr L) (ExElement X vr L (allDone MkE X.M)) [] (Tu []):=by
 obtain ⟨it0,z0,hi0,hz0,hs0,hb0',hc0⟩:=zny
 refine CK.intro Tryz.func63 rfl zk nq zk (fun B g w0 a hrm O=>?_)
 have O:=zn [(0,EqV ((ptrH).f g)),] [⟨0,59,ptrH,BqA X vr L⟩] O
 refine wp_seq<|zg [none] [] [.v 2 _] [.g 0,.o 0] O (zv rfl (za2 za3) o0) (zz [(0,_),(2,_)] [⟨0,59,ptrH,_⟩] fun a w O=>?_)
 refine za0<|wp_block ?_
 have O:=St.sel O [0,1]
 refine wp_loop_ghost (fun n a w=>∃ (i:Nat) (M:List Slt),(n+i=X.M.length∧GrK MkE X.M M i)∧St B w0 42 [(0,EqV (ptrH.f g)),(2,In (i:Nat))] [⟨0,59,ptrH,BqA { X with M:=M } vr L⟩] a w) (X.M.length) ?_ ?_
 ·exact ⟨0,X.M,⟨by omega,grk_0⟩,O⟩
 intro n a w hI
 obtain ⟨i,M,⟨hn,hG⟩,O⟩:=hI
 have h1M:OneK M:=fun t ht=>by
  obtain ⟨ru,rv⟩:=(knElement O 0 rfl).2 t ht
  obtain ⟨s,hs,h1 | h1⟩:=zy5 hG ht
  ·exact ⟨rv.one,by rw [h1.z]; exact ru.one⟩
  ·subst h1; exact ⟨rv.one,(hfull t hs).z1⟩
 refine wp_seq<|wp_seq<|zg [none] [] [.v 6 _,.adr 7 0 (.some 0) True,.adr 8 0 (.some 0) True,.adr 9 0 (.some (0+9)) True,.v 10 _,.v 11 _,.v 12 _] [.g 0,.g 1,.o 6] O (zv rfl (za1 (gq 1 rfl)) (oc (ob_a rfl rfl (zef (lz0 0 rfl))) (oc (ob_a rfl rfl (zee 1 rfl zk (lz0 0 rfl))) (oc (ob_a rfl rfl (zda 2 rfl zk trivial (lz0 0 rfl) zdp)) (zv rfl (za4 3 rfl zk trivial (lz0 0 rfl) (Sub.part 9 rfl rfl) zl1) (zv rfl (zbk Tryz.underlying50 (has_wk' (vq 4 rfl) (zir h1M))) (zv rfl (zb1 (vq 0 rfl) (vq 5 rfl)) o0))))))) (zz [(0,_),(2,_),(12,_)] [⟨0,59,ptrH,_⟩] fun a w O=>?_)
 refine za0<|za8 O (zm 2 rfl) (fun hb0=>?_) (fun hb0=>?_)
 ·have hi:i<X.M.length:=by have:=hG.1; simpa [this] using hb0
  obtain ⟨s,hs⟩:∃ s,X.M[i]?=some s:=⟨_,List.getElem?_eq_getElem hi⟩
  have hf:=hfull s (List.mem_of_getElem? hs)
  have hMi:=grk_at hG hs
  have hvi:=zh9 hMi
  have hMlt:i<M.length:=by rw [hG.1]; exact hi
  refine wp_skip<|zt<|wp_block<|wp_seq<|zbs (sp:=[.adr 15 0 (.some 0) True,.adr 16 0 (.some 0) True,.adr 17 0 (.some (0+9)) True,.v 18 _,.v 19 _,.v 20 _,.v 21 _,.v 3 VT,.sto 0]) 7 2 0 8 OneC [.g 0,.g 1,.o 6] O (oc (ob_a rfl rfl (zef (lz0 0 rfl))) (oc (ob_a rfl rfl (zee 0 rfl zk (lz0 0 rfl))) (oc (ob_a rfl rfl (zda 1 rfl zk trivial (lz0 0 rfl) zdp)) (zv rfl (za4 2 rfl zk trivial (lz0 0 rfl) (Sub.part 9 rfl rfl) zl1) (zv rfl (za1 (gq 1 rfl)) (zv rfl (zd0 (m:=3) ⟨Tryz.underlying50,by kernel_rfl⟩ zi9 (has_wk' (vq 3 rfl) (zir h1M)) (vq 4 rfl) hvi) (zv rfl (zad (vq 5 rfl) zli) o0))))))) rfl zd zk zk (zz [(0,_),(2,_),(21,_)] [⟨0,59,ptrH,_⟩] fun a w O=>?_)
  rw [show List.range' 7 2=[7,8] from rfl]
  refine zfd (A:=s.view) 2 [0,1] rfl rfl O (Str.zero zdh) rfl zli rfl zd rfl zk zk (fun a w O=>?_)
  refine zbi ?_
  have O:=zn [(0,_),(2,_)] [⟨0,59,ptrH,_⟩,⟨3,100,ptrH,_⟩] O
  refine zt<|zg [none,none] [] [.adr 22 3 (.some 0) True,.v 23 _,.v 4 _] [.g 0,.g 1,.o 2] O (oc (ob_a rfl rfl (za9 (lz0 1 rfl) zf0)) (zv rfl (za4 0 rfl zk trivial (lz0 1 rfl) (Sub.part 0 rfl rfl) zl5) (zv rfl (za2 (vq 1 rfl)) o0))) (zz [(0,_),(2,_),(4,_)] [⟨0,59,ptrH,_⟩,⟨3,100,ptrH,_⟩] fun a w O=>?_)
  refine zt<|wp_seq<|zg [none,none] [] [.v 5 _] [.g 0,.g 1,.g 2,.o 0] O (zv rfl (za2 za3) o0) (zz [(0,_),(2,_),(4,_),(5,_)] [⟨0,59,ptrH,_⟩,⟨3,100,ptrH,_⟩] fun a w O=>?_)
  refine za0<|wp_block ?_
  have O:=St.sel O [0,1,2,3]
  refine wp_loop_ghost (fun n a w=>∃ (k:Nat) (u:Value) (ys:List (List Value)),(n+k=70∧ExtP MkE s k ys)∧St B w0 42 [(0,EqV (ptrH.f g)),(2,In (i:Nat)),(4,EqV u),(5,In (k:Nat))] [⟨0,59,ptrH,BqA { X with M:=M.set i (s.ext u ys) } vr L⟩,⟨3,100,ptrH,s.view⟩] a w) (70) ?_ ?_
  ·have O:=St.cvA (A':=BqA { X with M:=M.set i (s.ext s.v s.xs) } vr L) O 0 rfl (show BqA { X with M:=M } vr L=_ by rw [extK_0 hf.tonew,zof hMi]); have O:=St.wkG O 2 rfl zjt; exact ⟨0,s.v,s.xs,⟨by omega,extP_0 hf⟩,O⟩
  intro n a w hI
  obtain ⟨k,u,ys,⟨hn2,hE⟩,O⟩:=hI
  refine wp_seq<|wp_seq<|zg [none,none] [] [.v 24 _,.v 25 _] [.g 0,.g 1,.g 2,.g 3,.o 1] O (zv rfl (za1 (gq 3 rfl)) (zv rfl (zb1 (vq 0 rfl) za3) o0)) (zz [(0,_),(2,_),(4,_),(5,_),(25,_)] [⟨0,59,ptrH,_⟩,⟨3,100,ptrH,_⟩] fun a w O=>?_)
  refine za0<|za8 O (zm 4 rfl) (fun hb1=>?_) (fun hb1=>?_)
  ·have hk:k<70:=by have:=hb1; simp at this; omega
   refine wp_skip<|zt<|wp_block<|zbs (sp:=[.v 28 _,.adr 29 3 (.some 2) True,.v 30 _,.v 31 _,.v 32 _,.v 33 VT,.v 4 VT]) 5 2 99 9 OneC [.g 0,.g 1,.g 3,.o 0,.o 4] O (zv rfl (za1 (gq 2 rfl)) (oc (ob_a rfl rfl (za9 (lz0 1 rfl) zhw)) (zv rfl (za4 1 rfl zk trivial (lz0 1 rfl) (Sub.part 2 rfl rfl) ty_3) (zv rfl (za5 (xs:=[.tmp 30]) (zhl _) (.cons (vq 2 rfl) .nil)) (zv rfl (zcr (D:=[]) (l:=[MkE s.n]) (xs:=[.tmp 31]) (zeq zk) zhc zk (n_ok zk) nq nq nq (.cons (vq 3 rfl) .nil) rfl rfl) o0))))) rfl zd zk zk (zz [(0,_),(2,_),(5,_),(28,_),(32,_)] [⟨0,59,ptrH,_⟩,⟨3,100,ptrH,_⟩] fun a w O=>?_)
   rw [show List.range' 5 2=[5,6] from rfl]
   rw [wpOps_cons]
   refine zff (m:=9) (A1:=fun v'=>ExElement X vr L (fun M'=>∃ ys',M'=M.set i (s.ext v' ys')∧ExtP MkE s (k+1) ys')) (X:=MkE s.n) (F:=isMk MkE s.n) [0,1,2] 3 4 0 rfl O rfl rfl (fun ds h=>⟨_,_,h⟩) rfl rfl rfl (hrm _ zk) Tryz.underlying22 hi0 hz0 hs0 hb0' hc0 zd (n:=s.xs.length+k) (by have:=hf.lx; omega) (by have:=hf.lx; omega) zd zk zk zk zk (fun cs hp=>apElement hMi hE hp) (fun v' w O=>?_)
   rw [wpOps_cons]
   refine zq0 0 rfl O rfl zd zk zk (fun a O=>?_)
   refine zbi ?_
   obtain ⟨M',⟨ys2,hM',hE2⟩,O⟩:=stElement O 0 rfl
   subst hM'
   have O:=zn [(4,_),(33,_),(0,_),(2,_),(5,_)] [⟨0,59,ptrH,BqA { X with M:=M.set i (s.ext v' ys2) } vr L⟩,⟨3,100,ptrH,_⟩] O
   refine zae ?_
   refine za0<|zg [none,none] [] [.v 26 _,.v 27 _,.v 5 _] [.g 0,.g 2,.g 3,.o 2] O (zv rfl (za1 (gq 4 rfl)) (zv rfl (zb5 (vq 0 rfl) za3 (zb3 zo)) (zv rfl (za2 (vq 1 rfl)) o0))) (zz [(4,_),(0,_),(2,_),(5,_)] [⟨0,59,ptrH,_⟩,⟨3,100,ptrH,_⟩] fun a w O=>?_)
   refine za0 ?_
   have O:=St.sel O [1,2,0,3]
   exact ⟨n-1,by omega,k+1,v',ys2,⟨by omega,hE2⟩,O⟩
  ·have hk:k=70:=by simp at hb1; omega
   subst hk
   have hu:=((knElement O 0 rfl).2 _ (List.mem_set hMlt _)).1
   have hu1:=hu.one
   have hu2:u.cells = #[u]:=hu.cell
   refine wp_exit<|za7<|za7<|zap<|za0<|zbs (sp:=[.adr 34 0 (.some 0) True,.adr 35 0 (.some 0) True,.adr 36 0 (.some (0+9)) True,.v 37 _,.v 38 _,.v 39 _,.v 40 VT,.v 41 VT,.sto 0]) 6 3 0 8 OneC [.g 0,.g 1,.o 3,.o 4,.o 5] O (oc (ob_a rfl rfl (zef (lz0 0 rfl))) (oc (ob_a rfl rfl (zee 0 rfl zk (lz0 0 rfl))) (oc (ob_a rfl rfl (zda 1 rfl zk trivial (lz0 0 rfl) zdp)) (zv rfl (za4 2 rfl zk trivial (lz0 0 rfl) (Sub.part 9 rfl rfl) zl1) (zv rfl (za1 (gq 1 rfl)) (zv rfl (za1 (gq 2 rfl)) o0)))))) rfl zd zk zk (zz [(0,_),(2,_),(37,_),(38,_),(39,_)] [⟨0,59,ptrH,_⟩,⟨3,100,ptrH,_⟩] fun a w O=>?_)
   rw [show List.range' 6 3=[6,7,8] from rfl]
   have O:=St.selL O [0]
   have O:=St.wkG O 2 rfl zu1
   have hvr:=(knElement O 0 rfl).1
   obtain ⟨g1,cap1,hv1⟩:=hvr.row (show i<_ by rw [List.length_set,hG.1]; exact hi)
   have O:=St.cvG O 2 rfl (congrArg EqV hv1)
   rw [wpOps_cons]
   refine zik (m:=3) (k:=i) 2 3 rfl O ⟨Tryz.underlying50,by kernel_rfl⟩ zd rfl rfl (by rw [List.length_set,hG.1]; exact hi) zd zk zk (fun a O=>?_)
   rw [wpOps_cons]
   refine zfe 0 rfl O zhx rfl zd zk zk (fun a O=>?_)
   rw [wpOps_cons]
   refine zmp (A1:=BqA { X with M:=(M.set i (s.ext u ys)).set i { s.ext u ys with z:=u } } vr L) [2,3] 0 6 0 rfl O rfl rfl hu1 hu2 zl5 rfl zd (hrm _ zk) zk zk (fun cs hp=>puElement (by rw [List.getElem?_set_self hMlt]) hv1 hp) (fun w O=>?_)
   refine zcq ?_
   have O:=zn [(0,_),(2,_)] [⟨0,59,ptrH,_⟩] O
   refine zae ?_
   refine za0<|zg [none] [] [.v 13 _,.v 14 _,.v 2 _] [.g 0,.o 2] O (zv rfl (za1 (gq 1 rfl)) (zv rfl (zb5 (vq 0 rfl) za3 (zb3 zo)) (zv rfl (za2 (vq 1 rfl)) o0))) (zz [(0,_),(2,_)] [⟨0,59,ptrH,_⟩] fun a w O=>?_)
   refine za0 ?_
   have O:=St.sel O [0,1]
   exact ⟨X.M.length-(i+1),by omega,i+1,_,⟨by omega,zsf hG hs hE.1 hE.2.2⟩,(zjc (M:=M) (i:=i))▸O⟩
 ·have hi:X.M.length≤i:=by have:=hG.1; simp [this] at hb0; omega
  have O:=St.wkL (A':=ExElement X vr L (allDone MkE X.M)) O 0 rfl (exElement (zy6 hG hi hfull))
  refine wp_exit<|za7<|za7<|zap<|zc9<|zen O (zm 0 rfl) (zm 0 rfl) ?_
  exact zb6 (rs:=[]) rfl O .nil zd
theorem zn5 (X:BkRest)(vr:Value)(L:List Slot)(hdone:∀ t∈X.M,t.done MkE)(hl:X.M.length≤1000000):Cn Tryz.prog 79 [ElP 59 (BqA X vr L)] (Bo true):=by
 refine Cn.intro Tryz.func79 rfl zk nq (fun B w0 a O=>?_)
 have O:=zn [(0,ElP 59 (BqA X vr L))] [] O
 have hkp:=kpElement O 0 rfl
 have h1M:OneK X.M:=fun t ht=>⟨(hkp t ht).2.one,by rw [(hdone t ht).zu]; exact (hkp t ht).1.one⟩
 refine wp_seq<|zh [.v 2 _] [.g 0,.o 0] O (zv rfl (za2 zav) o0) (zz [(0,_),(2,_)] [] fun a w O=>?_)
 refine zt<|wp_seq<|zh [.v 3 _] [.g 0,.g 1,.o 0] O (zv rfl (za2 za3) o0) (zz [(0,_),(2,_),(3,_)] [] fun a w O=>?_)
 refine za0<|wp_block ?_
 have O:=St.sel O [0,2]
 refine wp_loop_ghost (fun n a w=>∃ (i:Nat),n+i=X.M.length∧St B w0 64 [(0,ElP 59 (BqA X vr L)),(3,In (i:Nat))] [] a w) (X.M.length) ?_ ?_
 ·exact ⟨0,by omega,O⟩
 intro n a w hI
 obtain ⟨i,hn,O⟩:=hI
 refine wp_seq<|wp_seq<|zh [.v 6 _,.v 7 _,.v 8 _,.v 9 _,.v 10 _,.v 11 _,.v 12 _] [.g 0,.g 1,.o 6] O (zv rfl (za1 (gq 1 rfl)) (zv rfl (za1 (gq 0 rfl)) (zv rfl (zbu (vq 1 rfl)) (zv rfl (zay (vq 2 rfl) zdp (Sub.part 9 rfl rfl)) (zv rfl (zad (vq 3 rfl) zl1) (zv rfl (zbk Tryz.underlying50 (has_wk' (vq 4 rfl) (zir h1M))) (zv rfl (zb1 (vq 0 rfl) (vq 5 rfl)) o0))))))) (zz [(0,_),(3,_),(12,_)] [] fun a w O=>?_)
 refine za0<|za8 O (zm 2 rfl) (fun hb0=>?_) (fun hb0=>?_)
 ·have hi:i<X.M.length:=by have:=hb0; simp at this; omega
  obtain ⟨t,ht⟩:∃ t,X.M[i]?=some t:=⟨_,List.getElem?_eq_getElem hi⟩
  have hmem:=List.mem_of_getElem? ht
  have hd:=hdone t hmem
  have hzr:RowV t.z t.ys.length:=by rw [hd.zu]; exact (hkp t hmem).1
  refine wp_skip<|zt<|wp_block<|wp_seq<|znh (sp:=[.v 15 _,.v 16 _,.v 17 _,.v 18 _,.v 19 _,.v 20 _,.v 21 _,.alc 0,.sto 0]) 7 2 4 [.g 0,.g 1,.o 6] O (zv rfl (za1 (gq 0 rfl)) (zv rfl (zbu (vq 0 rfl)) (zv rfl (zay (vq 1 rfl) zdp (Sub.part 9 rfl rfl)) (zv rfl (zad (vq 2 rfl) zl1) (zv rfl (za1 (gq 1 rfl)) (zv rfl (zd0 (m:=3) ⟨Tryz.underlying50,by kernel_rfl⟩ zi9 (has_wk' (vq 3 rfl) (zir h1M)) (vq 4 rfl) (zh9 ht)) (zv rfl (zad (vq 5 rfl) zli) o0))))))) rfl zk zk (zz [(0,_),(3,_),(21,_)] [] fun a w O=>?_)
  rw [show List.range' 7 2=[7,8] from rfl]
  refine zfd (A:=t.view) 2 [0,1] rfl rfl O (Str.zero zdh) rfl zli rfl zd rfl zk zk (fun a w O=>?_)
  refine zbi ?_
  have O:=zn [(0,_),(3,_)] [⟨4,100,ptrH,_⟩] O
  refine zt<|wp_seq<|zg [none] [] [.adr 22 4 (.some 1) True,.v 23 _,.v 24 _,.adr 25 4 (.some 0) True,.v 26 _,.v 27 _,.v 28 _,.v 29 _] [.g 0,.g 1,.o 7] O (oc (ob_a rfl rfl (za9 (lz0 0 rfl) zhx)) (zv rfl (za4 0 rfl zk trivial (lz0 0 rfl) (Sub.part 1 rfl rfl) zl5) (zv rfl (zgt Tryz.underlying22 hzr (vq 1 rfl)) (oc (ob_a rfl rfl (za9 (lz0 0 rfl) zf0)) (zv rfl (za4 3 rfl zk trivial (lz0 0 rfl) (Sub.part 0 rfl rfl) zl5) (zv rfl (zgt Tryz.underlying22 hd.rv (vq 4 rfl)) (zv rfl (zb5 (vq 5 rfl) za3 (wk_70 (by have:=hd.lx; omega))) (zv rfl (zdw (vq 2 rfl) (vq 6 rfl)) o0)))))))) (zz [(0,_),(3,_),(29,_)] [⟨4,100,ptrH,_⟩] fun a w O=>?_)
  refine za0<|za8 O (zm 2 rfl) (fun hb1=>?_) (fun hb1=>?_)
  ·exact absurd hb1 (by rw [hd.yl]; simp)
  ·refine wp_skip<|zt<|zg [none] [] [.v 5 _] [.g 0,.g 1,.o 0] O (zv rfl (za2 za3) o0) (zz [(0,_),(3,_),(5,_)] [⟨4,100,ptrH,_⟩] fun a w O=>?_)
   refine za0<|wp_block ?_
   have O:=St.sel O [0,1,2]
   refine wp_loop_ghost (fun n a w=>∃ (k:Nat),n+k=t.ys.length∧St B w0 64 [(0,ElP 59 (BqA X vr L)),(3,In (i:Nat)),(5,In (k:Nat))] [⟨4,100,ptrH,t.view⟩] a w) (t.ys.length) ?_ ?_
   ·exact ⟨0,by omega,O⟩
   intro n a w hI
   obtain ⟨k,hn2,O⟩:=hI
   refine wp_seq<|wp_seq<|zg [none] [] [.v 30 _,.adr 31 4 (.some 1) True,.v 32 _,.v 33 _,.v 34 _] [.g 0,.g 1,.g 2,.o 4] O (zv rfl (za1 (gq 2 rfl)) (oc (ob_a rfl rfl (za9 (lz0 0 rfl) zhx)) (zv rfl (za4 1 rfl zk trivial (lz0 0 rfl) (Sub.part 1 rfl rfl) zl5) (zv rfl (zgt Tryz.underlying22 hzr (vq 2 rfl)) (zv rfl (zb1 (vq 0 rfl) (vq 3 rfl)) o0))))) (zz [(0,_),(3,_),(5,_),(34,_)] [⟨4,100,ptrH,_⟩] fun a w O=>?_)
   refine za0<|za8 O (zm 3 rfl) (fun hb2=>?_) (fun hb2=>?_)
   ·have hk:k<t.ys.length:=by have:=hb2; simp at this; omega
    refine wp_skip<|zt<|wp_block<|wp_seq<|zis (anc:=[[],[0],[],[0,1,2],[0,1,2,3],[],[5],[0,1,2,3,4,5,6],[0,1,2,3,4,5,6,7],[0,1,2,3,4,5,6,7,8],[0,1,2,3,4,5,6,7,8,9],[0,1,2,3,4,5,6,7,8,9],[0,1,2,3,4,5,6,7,8,9,11],[0,1,2,3,4,5,6,7,8,9,11,12],[0,1,2,3,4,5,6,7,8,9,10,11,12,13],[0,1,2,3,4,5,6,7,8,9,10,11,12,13,14],[0,1,2,3,4,5,6,7,8,9,10,11,12,13,14,15],[0,1,2,3,4,5,6,7,8,9,10,11,12,13,14,15,16],[0,1,2,3,4,5,6,7,8,9,10,11,12,13,14,15],[0,1,2,3,4,5,6,7,8,9,10,11,12,13,14,15,16,17,18],[0,1,2,3,4,5,6,7,8,9,10,11,12,13,14,15,16,17,18,19],[0,1,2,3,4,5,6,7,8,9,10,11,12,13,14,15],[0,1,2,3,4,5,6,7,8,9,10,11,12,13,14,15,21],[0,1,2,3,4,5,6,7,8,9,10,11,12,13,14,15,16,17,18,19,20,21,22],[0,1,2,3,4,5,6,7,8,9,10,11,12,13,14,15,16,17,18,19,20,21,22,23],[0,1,2,3,4,5,6,7,8,9,10,11,12,13,14,15,16,17,18,19,20,21,22,23,24],[0,1,2,3,4,5,6,7,8,9,10,11,12,13,14,15,16,17,18,19,20,21,22,23,24,25]]) (sts:=[none]) (news:=[]) (sp:=((.adr 37 4 (.some 1) True:Sp)::(.v 38 _)::(.v 39 _)::(.v 40 _)::(.v 41 _)::(.adr 42 4 (.some 2) True)::(.v 43 _)::(.v 44 _)::(.v 45 _)::(.v 46 _)::(.v 47 (Wh (_=false) _))::(.adr 48 4 (.some 0) (_=false))::(.v 49 (Wh (_=false) _))::(.v 50 (Wh (_=false) _))::(.v 51 (Wh (_=false) _))::(.v 52 (Wh (_=false) _))::(.adr 53 4 (.some 0) ((_=false)∧_=true))::(.v 54 (Wh ((_=false)∧_=true) _))::(.v 55 (Wh ((_=false)∧_=true) _))::(.v 56 (Wh ((_=false)∧_=true) _))::(.v 57 (Wh ((_=false)∧_=true) _))::(.adr 58 4 (.some 2) ((_=false)∧_=true))::(.v 59 (Wh ((_=false)∧_=true) _))::(.v 60 (Wh ((_=false)∧_=true) _))::(.v 61 (Wh ((_=false)∧_=true) _))::(.v 62 (Wh (_=false) _))::(.v 63 _)::[])) [.g 0,.g 1,.g 2,.o 26] za6 O (oc (ob_a rfl rfl (za9 (lz0 0 rfl) zhx)) (zv rfl (za4 0 rfl zk trivial (lz0 0 rfl) (Sub.part 1 rfl rfl) zl5) (zv rfl (za1 (gq 2 rfl)) (zv rfl (zd0 (m:=9) ⟨Tryz.underlying22,by kernel_rfl⟩ (zri rfl) (suElement (vq 1 rfl) (gq 0 rfl) hmem hd) (vq 2 rfl) (zmf hk)) (zv rfl (zad (vq 3 rfl) zeg) (oc (ob_a rfl rfl (za9 (lz0 0 rfl) zhw)) (zv rfl (za4 5 rfl zk trivial (lz0 0 rfl) (Sub.part 2 rfl rfl) ty_3) (zv rfl (za5 (xs:=[.tmp 41,.tmp 43]) (zkc _) (.cons (vq 4 rfl) (.cons (vq 6 rfl) .nil))) (zv rfl (zeh (vq 7 rfl)) (zv rfl (za1 (vq 8 rfl)) (oc (zan rfl rfl rfl (vq 9 rfl) nq (fun hg=>za1 (gq 2 rfl))) (oc (zce rfl rfl rfl (vq 9 rfl) nq (fun hg=>za9 (lz0 0 rfl) zf0)) (oc (zan rfl rfl rfl (vq 9 rfl) nq (fun hg=>za4 11 rfl zk hg (lz0 0 rfl) (Sub.part 0 rfl rfl) zl5)) (oc (zan rfl rfl rfl (vq 9 rfl) nq (fun hg=>zgt Tryz.underlying22 hd.rv (zab (vq 12 rfl) hg))) (oc (zan rfl rfl rfl (vq 9 rfl) nq (fun hg=>zb1 (zab (vq 10 rfl) hg) (zab (vq 13 rfl) hg))) (oc (zan rfl rfl rfl (vq 9 rfl) nq (fun hg=>za1 (zab (vq 14 rfl) hg))) (oc (zfr rfl rfl rfl (vq 15 rfl) nq (fun hg=>za9 (lz0 0 rfl) zf0)) (oc (zc5 rfl rfl rfl (vq 15 rfl) nq (fun hg=>za4 16 rfl zk hg (lz0 0 rfl) (Sub.part 0 rfl rfl) zl5)) (oc (zc5 rfl rfl rfl (vq 15 rfl) nq (fun hg=>za1 (gq 2 rfl))) (oc (zc5 rfl rfl rfl (vq 15 rfl) nq (fun hg=>zd0 (m:=9) ⟨Tryz.underlying22,by kernel_rfl⟩ (zri rfl) (svElement (zab (vq 17 rfl) hg) (gq 0 rfl) hmem hd) (zab (vq 18 rfl) hg) (zmf (by have:=hg; simp at this; omega)))) (oc (zc5 rfl rfl rfl (vq 15 rfl) nq (fun hg=>zad (zab (vq 19 rfl) hg) zeg)) (oc (zfr rfl rfl rfl (vq 15 rfl) nq (fun hg=>za9 (lz0 0 rfl) zhw)) (oc (zc5 rfl rfl rfl (vq 15 rfl) nq (fun hg=>za4 21 rfl zk hg (lz0 0 rfl) (Sub.part 2 rfl rfl) ty_3)) (oc (zc5 rfl rfl rfl (vq 15 rfl) nq (fun hg=>za5 (xs:=[.tmp 57,.tmp 59]) (zkc _) (.cons (zab (vq 20 rfl) hg) (.cons (zab (vq 22 rfl) hg) .nil)))) (oc (zc5 rfl rfl rfl (vq 15 rfl) nq (fun hg=>zeh (zab (vq 23 rfl) hg))) (oc (zan rfl rfl rfl (vq 9 rfl) nq (fun hg=>zcc (zab (vq 15 rfl) hg) (zh4 (vq 24 rfl) hg))) (zv rfl (r_or (vq 9 rfl) (vq 25 rfl)) o0))))))))))))))))))))))))))) zk zk zk zk (zz [(0,_),(3,_),(5,_),(63,_)] [⟨4,100,ptrH,_⟩] fun a w O=>?_)
    refine za0<|za8 O (zm 3 rfl) (fun hb3=>?_) (fun hb3=>?_)
    ·exact absurd hb3 (by simp)
    ·refine wp_skip<|zae ?_
     refine za0<|zg [none] [] [.v 35 _,.v 36 _,.v 5 _] [.g 0,.g 1,.o 2] O (zv rfl (za1 (gq 2 rfl)) (zv rfl (zb5 (vq 0 rfl) za3 (zb3 (by have:=hd.lx; have:=hd.yl; omega))) (zv rfl (za2 (vq 1 rfl)) o0))) (zz [(0,_),(3,_),(5,_)] [⟨4,100,ptrH,_⟩] fun a w O=>?_)
     refine za0 ?_
     have O:=St.sel O [0,1,2]
     exact ⟨n-1,by omega,k+1,by omega,O⟩
   ·have hk:k=t.ys.length:=by have:=hb2; simp at this; omega
    refine wp_exit<|za7<|za7<|zap<|zae ?_
    refine za0<|zg [none] [] [.v 13 _,.v 14 _,.v 3 _] [.g 0,.o 2] O (zv rfl (za1 (gq 1 rfl)) (zv rfl (zb5 (vq 0 rfl) za3 (zb3 zo)) (zv rfl (za2 (vq 1 rfl)) o0))) (zz [(0,_),(3,_)] [⟨4,100,ptrH,_⟩] fun a w O=>?_)
    refine za0 ?_
    have O:=St.sel O [0,1]
    have O:=St.selL O []
    exact ⟨X.M.length-(i+1),by omega,i+1,by omega,O⟩
 ·have hi:i=X.M.length:=by have:=hb0; simp at this; omega
  refine wp_exit<|za7<|za7<|zap<|zt<|zh [.v 2 _] [.g 0,.o 0] O (zv rfl (za2 zav) o0) (zz [(0,_),(2,_)] [] fun a w O=>?_)
  exact za0<|wp_ret<|zaf rfl O (zm 1 rfl)
theorem zf8:Str Tryz.prog 103 [EqS (.slice none 0 0),EqS (.slice none 0 0),NumA .i64 0] :=
 Str.of (z:=.agg #[.slice none 0 0,.slice none 0 0,.int .i64 0]) zk Tryz.underlying103 zk fun B w=>⟨[[.slice none 0 0],[.slice none 0 0],[.int .i64 0]],rfl,.cons ⟨rfl,rfl⟩ (.cons ⟨rfl,rfl⟩ (.cons rfl .nil))⟩
theorem zzk:∃ it z,Tryz.prog.info? 29=some it∧it.zero=some z∧it.size=8∧it.bytes=128∧z.cells.size=8:=by
 have h:((Tryz.prog.info? 29).bind fun it=>it.zero.map fun z=>(it.size,it.bytes,z.cells.size))=some (8,128,8):=by kernel_rfl
 cases hi:Tryz.prog.info? 29 with
 | none=>rw [hi] at h; simp at h
 | some it =>
  rw [hi] at h
  cases hz:it.zero with
  | none=>simp [hz] at h
  | some z =>
   simp [hz] at h
   exact ⟨it,z,rfl,hz,h.1,h.2.1,h.2.2⟩
theorem wrRay {X:BkRest}{vr:Value}{L:List Slot}{M M':List Slt}{B g T:Nat}{c c':Array Value}{cs:List Value}{w:World}(h:(BqA { X with R:=M } vr L).p B cs w)(hgc:w.heap[g]?=some (.cells c T (0,0)))(hT:T=103∨T=29)(hB:B≤g)(f:∀ c0,(HkA 103 29 8 X.vy M).p B c0 w→(HkA 103 29 8 X.vy M').p B c0 (w.setRow g c')):(BqA { X with R:=M' } vr L).p B cs (w.setRow g c'):=by
 rcases hT with rfl | rfl
 ·exact zj6 h rfl (fun c0 hp=>As.kwr hp hgc (show 103 ∉ [105,U32] by decide) hB) (fun c0 hp=>As.kwr hp hgc (show 103 ∉ [109,3] by decide) hB) f (fun c0 hp=>As.kwr hp hgc (show 103 ∉ [100,69] by decide) hB)
 ·exact zj6 h rfl (fun c0 hp=>As.kwr hp hgc (show 29 ∉ [105,U32] by decide) hB) (fun c0 hp=>As.kwr hp hgc (show 29 ∉ [109,3] by decide) hB) f (fun c0 hp=>As.kwr hp hgc (show 29 ∉ [100,69] by decide) hB)
theorem grRay {X:BkRest}{vr:Value}{L:List Slot}{M M':List Slt}{B:Nat}{row:Option Nat}{cs:List Value}{w w':World}(h:(BqA { X with R:=M } vr L).p B cs w)(hg:w.grownBy w' row)(hr:RowOk w B 29 row)(f:∀ c0,(HkA 103 29 8 X.vy M).p B c0 w→(HkA 103 29 8 X.vy M').p B c0 w'):(BqA { X with R:=M' } vr L).p B cs w' :=
 zj6 h rfl (fun c0 hp=>As.grown hp hg hr (Nat.le_refl _) (show 29 ∉ [105,U32] by decide)) (fun c0 hp=>As.grown hp hg hr (Nat.le_refl _) (show 29 ∉ [109,3] by decide)) f (fun c0 hp=>As.grown hp hg hr (Nat.le_refl _) (show 29 ∉ [100,69] by decide))
theorem hkRay {X:BkRest}{vr:Value}{L:List Slot}{M:List Slt}{B:Nat}{cs:List Value}{w:World}(h:(BqA { X with R:=M } vr L).p B cs w):∃ c,(HkA 103 29 8 X.vy M).p B c w:=(zcz h).2.2.1
theorem fiRay {X:BkRest}{vr:Value}{L:List Slot}{M:List Slt}{B i k g cap:Nat}{t:Slt}{cs ds:List Value}{w:World}(hi:M[i]?=some t)(hu:t.u=t.v)(hy:t.ys=t.xs)(hv:t.v=.slice (some ⟨g,0,none⟩) t.xs.length cap)(hk:k<t.xs.length)(hd:ds.length=8)(h:(BqA { X with R:=M } vr L).p B cs w) :
  B≤g∧∃ c:Array Value,w.heap[g]?=some (Obj.cells c 29 (0,0))∧k*8+8≤c.size∧(BqA { X with R:=M.set i { t with xs:=t.xs.set k ds,ys:=t.xs.set k ds } } vr L).p B cs (w.setRow g (c.toList.take (k*8)++ds++c.toList.drop (k*8+8)).toArray):=by
 obtain ⟨c0,h0⟩:=hkRay h
 obtain ⟨h2,c,h3,h4,h5⟩:=zna zd h0 hi hu hy hv hk hd
 refine ⟨h2,c,h3,h4,wrRay h h3 (.inr rfl) h2 fun c1 h6=>?_⟩
 obtain ⟨_,c',h7,_,h8⟩:=zna zd h6 hi hu hy hv hk hd
 rw [h3] at h7
 injection h7 with h7
 injection h7 with h7
 subst h7
 exact h8
def ExRay (X:BkRest)(vr:Value)(L:List Slot)(p:List Slt→Prop):As where
 n:=17
 ag:=true
 p B cs w:=∃ M,p M∧(BqA { X with R:=M } vr L).p B cs w
 deps:=(BqA X vr L).deps
 len:=fun B cs w ⟨M,_,h⟩=>(BqA { X with R:=M } vr L).len B cs w h
 one:=fun B cs w ⟨M,_,h⟩=>(BqA { X with R:=M } vr L).one B cs w h
 ag1:=fun h=>by cases h
 cg:=fun B cs w w' hg ⟨M,h1,h⟩=>⟨M,h1,(BqA { X with R:=M } vr L).cg B cs w w' hg h⟩
 wr:=fun B cs w w' g c T fz h1 h2 h3 h4 ⟨M,h5,h⟩=>⟨M,h5,(BqA { X with R:=M } vr L).wr B cs w w' g c T fz h1 h2 h3 h4 h⟩
theorem exRay {X:BkRest}{vr:Value}{L:List Slot}{M:List Slt}{p:List Slt→Prop}(hp:p M):WkA (BqA { X with R:=M } vr L) (ExRay X vr L p):=⟨rfl,rfl,fun B cs w h=>⟨M,hp,h⟩⟩
theorem stRay {X:BkRest}{vr:Value}{L:List Slot}{p:List Slt→Prop}{B N:Nat}{w0:Bs}{Γ:List (Nat × VA)}{Λ:List Lc}{a:Act}{w:World}{s:Nat}{T:TypeId}{H:Hd}(h:St B w0 N Γ Λ a w)(k:Nat)(hm:Λ[k]?=some ⟨s,T,H,ExRay X vr L p⟩):∃ M,p M∧St B w0 N Γ (Λ.set k ⟨s,T,H,BqA { X with R:=M } vr L⟩) a w:=by
 obtain ⟨g,cs,q1,q2,q3,M,hG,q4⟩:=h.locs _ (List.mem_of_getElem? hm)
 have hs:∀ m∈Λ.set k ⟨s,T,H,BqA { X with R:=M } vr L⟩,∃ m0∈Λ,m0.s=m.s:=fun m hm'=>by
  rcases List.mem_or_eq_of_mem_set hm' with hm' | rfl
  ·exact ⟨m,hm',rfl⟩
  ·exact ⟨_,List.mem_of_getElem? hm,rfl⟩
 refine ⟨M,hG,h.lo,h.defers,h.size,h.base,h.vals,fun l hl=>?_,fun m1 hm1 m2 hm2 hne=>?_⟩
 ·rcases List.mem_or_eq_of_mem_set hl with hl | rfl
  ·exact h.locs l hl
  ·exact ⟨g,cs,q1,q2,q3,q4⟩
 ·obtain ⟨m3,r1,r2⟩:=hs m1 hm1
  obtain ⟨m4,r3,r4⟩:=hs m2 hm2
  rw [← r2,← r4] at hne ⊢
  exact h.dis m3 r1 m4 r3 hne
theorem apRay {X:BkRest}{vr:Value}{L:List Slot}{M:List Slt}{B i k:Nat}{s:Slt}{u:Value}{ys:List (List Value)}{cs:List Value}{w:World}(hMi:M[i]?=some s)(hE:ExtP MkR s k ys)(h:(BqA { X with R:=M.set i (s.ext u ys) } vr L).p B cs w) :
  w.ownsRow B 29 8 u (s.xs.length+k) ys.flatten∧∀ v' w' ds,isMk MkR s.n ds→w'.ownsRow B 29 8 v' (s.xs.length+k+1) (ys.flatten++ds)→w.grownBy w' u.ownBlock→(v'.ownBlock=u.ownBlock∨(v'.ownBlock=some w.heap.size∧w.grownBy w' none))→(ExRay X vr L fun M'=>∃ ys',M'=M.set i (s.ext v' ys')∧ExtP MkR s (k+1) ys').p B cs w':=by
 have hlt:=(List.getElem?_eq_some_iff.1 hMi).1
 have hi:(M.set i (s.ext u ys))[i]?=some (s.ext u ys):=List.getElem?_set_self hlt
 obtain ⟨hl,hp,hm⟩:=hE
 obtain ⟨c0,h0⟩:=hkRay h
 have hown0:w.ownsRow B 29 8 u (s.xs.length+k) ys.flatten:=by
  have:=(h0.2.2.1 _ (List.mem_of_getElem? hi)).1
  rw [show (s.ext u ys).ys.length=s.xs.length+k from hl] at this
  exact this
 refine ⟨hown0,fun v' w' ds hds hown hg hb=>⟨M.set i (s.ext v' (ys++[ds])),⟨ys++[ds],rfl,by rw [List.length_append,hl]; rfl,hp.trans (List.prefix_append _ _),mk_mem hm hds⟩,grRay h hg (zfb hown0) fun c hc=>?_⟩⟩
 have:=hk_app (v':=v') (ds:=ds) zd hc hi (by rw [show (s.ext u ys).ys.length=s.xs.length+k from hl]; exact hown) hg hb (fun _=>hp) (fun y hy=>mkp_r.len (hm y hy))
 rw [zjc] at this
 exact this
theorem puRay {X:BkRest}{vr z:Value}{L:List Slot}{M:List Slt}{B i g cap:Nat}{s:Slt}{cs:List Value}{w:World}(hi:M[i]?=some s)(hvr:X.vy=.slice (some ⟨g,0,none⟩) M.length cap)(h:(BqA { X with R:=M } vr L).p B cs w) :
  B≤g∧∃ c:Array Value,w.heap[g]?=some (Obj.cells c 103 (0,0))∧i*3+1<c.size∧(BqA { X with R:=M.set i { s with z:=z } } vr L).p B cs (w.setRow g (c.setIfInBounds (i*3+1) z)):=by
 obtain ⟨c0,h0⟩:=hkRay h
 obtain ⟨h2,c,h3,h4,h5⟩:=zsc zd z h0 hi hvr
 refine ⟨h2,c,h3,h4,wrRay h h3 (.inl rfl) h2 fun c1 h6=>?_⟩
 obtain ⟨_,c',h7,_,h8⟩:=zsc zd z h6 hi hvr
 rw [h3] at h7
 injection h7 with h7
 injection h7 with h7
 subst h7
 exact h8
theorem knRay {X:BkRest}{vr:Value}{L:List Slot}{M:List Slt}{B N:Nat}{w0:Bs}{Γ:List (Nat × VA)}{Λ:List Lc}{a:Act}{w:World}{s:Nat}{T:TypeId}{H:Hd}(h:St B w0 N Γ Λ a w)(k:Nat)(hm:Λ[k]?=some ⟨s,T,H,BqA { X with R:=M } vr L⟩):RowV X.vy M.length∧∀ t∈M,RowV t.u t.ys.length∧RowV t.v t.xs.length:=by
 obtain ⟨g,cs,_,_,_,hp⟩:=h.locs _ (List.mem_of_getElem? hm)
 obtain ⟨c,h1,h2,h3,_⟩:=hkRay hp
 exact ⟨(zcv h2).2,fun t ht=>⟨(zcv (h3 t ht).1).2,(h3 t ht).2.1⟩⟩
theorem kpRay {X:BkRest}{vr:Value}{L:List Slot}{B N:Nat}{w0:Bs}{Γ:List (Nat × VA)}{Λ:List Lc}{a:Act}{w:World}{s:Nat}{T:TypeId}(h:St B w0 N Γ Λ a w)(k:Nat)(hm:Γ[k]?=some (s,ElP T (BqA X vr L))):∀ t∈X.R,RowV t.u t.ys.length∧RowV t.v t.xs.length:=by
 obtain ⟨b,o,cs,_,_,_,hp,_⟩:=h.vals _ (List.mem_of_getElem? hm)
 obtain ⟨c,h1,h2,h3,_⟩:=hkRay (M:=X.R) hp
 exact fun t ht=>⟨(zcv (h3 t ht).1).2,(h3 t ht).2.1⟩
section
open Rg
variable {P:Program} {Q:Exit→Act→World→Prop} {R:Rg} {B i:Nat} {w0:Bs}
theorem svRay {X:BkRest}{x y:Operand}{vr:Value}{L:List Slot}{t:Slt}{T:TypeId}(hx:Has R B w0 i x (EqS t.v).va)(hl:Has R B w0 i y (ElP T (BqA X vr L)))(ht:t∈X.R)(hd:t.done MkR):Has R B w0 i x (SlA 29 [] (List.replicate t.xs.length (MkR t.n))).va:=fun a w av=>by
 obtain ⟨b,o,cs,_,_,_,h,_⟩:=hl a w av
 obtain ⟨c,h⟩:=hkRay (M:=X.R) h
 rw [zhy (hx a w av)]
 exact zmg mkp_r (h.2.2.1 t ht).2 hd.xm
theorem suRay {X:BkRest}{x y:Operand}{vr:Value}{L:List Slot}{t:Slt}{T:TypeId}(hx:Has R B w0 i x (EqS t.z).va)(hl:Has R B w0 i y (ElP T (BqA X vr L)))(ht:t∈X.R)(hd:t.done MkR):Has R B w0 i x (SlA 29 [] (List.replicate t.ys.length (MkR t.n))).va:=fun a w av=>by
 obtain ⟨b,o,cs,_,_,_,h,_⟩:=hl a w av
 obtain ⟨c,h⟩:=hkRay (M:=X.R) h
 rw [zhy (hx a w av),hd.zu]
 exact zmg mkp_r (zmo (fun y hy=>mkp_r.len (hd.ym y hy)) (h.2.2.1 t ht).1) hd.ym
end
theorem zyj (X:BkRest)(vr:Value)(L:List Slot)(hnew:∀ s∈X.R,s.new)(hl:X.R.length≤1000000):CK Tryz.prog 46 59 [59,103,29] (BqA X vr L) (ExRay X vr L (allFull MkR X.R)) [] (Tu []):=by
 refine CK.intro Tryz.func46 rfl zk nq zk (fun B g w0 a hrm O=>?_)
 have O:=zn [(0,EqV ((ptrH).f g)),] [⟨0,59,ptrH,BqA X vr L⟩] O
 refine wp_seq<|zg [none] [] [.v 2 _] [.g 0,.o 0] O (zv rfl (za2 za3) o0) (zz [(0,_),(2,_)] [⟨0,59,ptrH,_⟩] fun a w O=>?_)
 refine za0<|wp_block ?_
 have O:=St.sel O [0,1]
 refine wp_loop_ghost (fun n a w=>∃ (i:Nat) (M:List Slt),(n+i=X.R.length∧FiK MkR X.R M i 0)∧St B w0 35 [(0,EqV (ptrH.f g)),(2,In (i:Nat))] [⟨0,59,ptrH,BqA { X with R:=M } vr L⟩] a w) (X.R.length) ?_ ?_
 ·exact ⟨0,X.R,⟨by omega,fik_0 hnew⟩,O⟩
 intro n a w hI
 obtain ⟨i,M,⟨hn,hF⟩,O⟩:=hI
 have h1M:=zyo hF hnew
 refine wp_seq<|wp_seq<|zg [none] [] [.v 5 _,.adr 6 0 (.some 0) True,.adr 7 0 (.some 0) True,.adr 8 0 (.some (0+8)) True,.v 9 _,.v 10 _,.v 11 _] [.g 0,.g 1,.o 6] O (zv rfl (za1 (gq 1 rfl)) (oc (ob_a rfl rfl (zef (lz0 0 rfl))) (oc (ob_a rfl rfl (zee 1 rfl zk (lz0 0 rfl))) (oc (ob_a rfl rfl (zda 2 rfl zk trivial (lz0 0 rfl) zdq)) (zv rfl (za4 3 rfl zk trivial (lz0 0 rfl) (Sub.part 8 rfl rfl) zl2) (zv rfl (zbk Tryz.underlying49 (has_wk' (vq 4 rfl) (zir h1M))) (zv rfl (zb1 (vq 0 rfl) (vq 5 rfl)) o0))))))) (zz [(0,_),(2,_),(11,_)] [⟨0,59,ptrH,_⟩] fun a w O=>?_)
 refine za0<|za8 O (zm 2 rfl) (fun hb0=>?_) (fun hb0=>?_)
 ·have hi:i<X.R.length:=by have:=hF.1; simpa [this] using hb0
  obtain ⟨s,hs⟩:∃ s,X.R[i]?=some s:=⟨_,List.getElem?_eq_getElem hi⟩
  have hwf:=hnew s (List.mem_of_getElem? hs)
  obtain ⟨t,ht,hf⟩:=zsr hF hs
  have hvi:=zqw ht hf
  refine wp_skip<|zt<|wp_block<|wp_seq<|zbs (sp:=[.adr 14 0 (.some 0) True,.adr 15 0 (.some 0) True,.adr 16 0 (.some (0+8)) True,.v 17 _,.v 18 _,.v 19 _,.v 20 _,.v 3 VT,.sto 0]) 7 2 0 8 OneC [.g 0,.g 1,.o 6] O (oc (ob_a rfl rfl (zef (lz0 0 rfl))) (oc (ob_a rfl rfl (zee 0 rfl zk (lz0 0 rfl))) (oc (ob_a rfl rfl (zda 1 rfl zk trivial (lz0 0 rfl) zdq)) (zv rfl (za4 2 rfl zk trivial (lz0 0 rfl) (Sub.part 8 rfl rfl) zl2) (zv rfl (za1 (gq 1 rfl)) (zv rfl (zd0 (m:=3) ⟨Tryz.underlying49,by kernel_rfl⟩ zi9 (has_wk' (vq 3 rfl) (zir h1M)) (vq 4 rfl) hvi) (zv rfl (zad (vq 5 rfl) zlh) o0))))))) rfl zd zk zk (zz [(0,_),(2,_),(20,_)] [⟨0,59,ptrH,_⟩] fun a w O=>?_)
  rw [show List.range' 7 2=[7,8] from rfl]
  refine zfd (A:=s.view) 2 [0,1] rfl rfl O (Str.zero zf8) rfl zlh rfl zd rfl zk zk (fun a w O=>?_)
  refine zbi ?_
  have O:=zn [(0,_),(2,_)] [⟨0,59,ptrH,_⟩,⟨3,103,ptrH,_⟩] O
  refine zt<|zg [none,none] [] [.v 4 _] [.g 0,.g 1,.o 0] O (zv rfl (za2 za3) o0) (zz [(0,_),(2,_),(4,_)] [⟨0,59,ptrH,_⟩,⟨3,103,ptrH,_⟩] fun a w O=>?_)
  refine za0<|wp_block ?_
  have O:=St.sel O [0,1,2]
  refine wp_loop_ghost (fun n a w=>∃ (k:Nat) (M:List Slt),(n+k=s.xs.length∧FiK MkR X.R M i k)∧St B w0 35 [(0,EqV (ptrH.f g)),(2,In (i:Nat)),(4,In (k:Nat))] [⟨0,59,ptrH,BqA { X with R:=M } vr L⟩,⟨3,103,ptrH,s.view⟩] a w) (s.xs.length) ?_ ?_
  ·exact ⟨0,M,⟨by omega,hF⟩,O⟩
  intro n a w hI
  obtain ⟨k,M,⟨hn2,hF⟩,O⟩:=hI
  obtain ⟨t,ht,hf⟩:=zsr hF hs
  refine wp_seq<|wp_seq<|zg [none,none] [] [.v 21 _,.adr 22 3 (.some 0) True,.v 23 _,.v 24 _,.v 25 _] [.g 0,.g 1,.g 2,.o 4] O (zv rfl (za1 (gq 2 rfl)) (oc (ob_a rfl rfl (za9 (lz0 1 rfl) zez)) (zv rfl (za4 1 rfl zk trivial (lz0 1 rfl) (Sub.part 0 rfl rfl) zl4) (zv rfl (zgt Tryz.underlying35 hwf.rv (vq 2 rfl)) (zv rfl (zb1 (vq 0 rfl) (vq 3 rfl)) o0))))) (zz [(0,_),(2,_),(4,_),(25,_)] [⟨0,59,ptrH,_⟩,⟨3,103,ptrH,_⟩] fun a w O=>?_)
  refine za0<|za8 O (zm 3 rfl) (fun hb1=>?_) (fun hb1=>?_)
  ·have hk:k<s.xs.length:=by simpa using hb1
   refine wp_skip<|zt<|wp_block<|zng (sp:=[.adr 28 3 (.some 0) True,.v 29 _,.v 30 _,.adr 31 3 (.some 2) True,.v 32 _,.v 33 _,.v 34 VT,.sto 0]) [[],[0],[],[],[3],[3,4],[0,1,2,3,4,5],[0,1,2,3,4,5,6]] 6 2 0 7 OneC [.g 0,.g 1,.g 2,.o 1,.o 2,.o 5] za6 O (oc (ob_a rfl rfl (za9 (lz0 1 rfl) zez)) (zv rfl (za4 0 rfl zk trivial (lz0 1 rfl) (Sub.part 0 rfl rfl) zl4) (zv rfl (za1 (gq 2 rfl)) (oc (ob_a rfl rfl (za9 (lz0 1 rfl) zhu)) (zv rfl (za4 3 rfl zk trivial (lz0 1 rfl) (Sub.part 2 rfl rfl) ty_3) (zv rfl (za5 (xs:=[.tmp 32]) (zor _) (.cons (vq 4 rfl) .nil)) o0)))))) rfl zd zd zk (zix zk) zk zk (zz [(0,_),(2,_),(4,_),(29,_),(30,_),(33,_)] [⟨0,59,ptrH,_⟩,⟨3,103,ptrH,_⟩] fun a w O=>?_)
   rw [show List.range' 6 2=[6,7] from rfl]
   obtain ⟨g1,cap1,hv1⟩:=hwf.rv.row hk
   have O:=St.wkG O 3 rfl (show Wk (EqS s.v).va (EqV (.slice (some ⟨g1,0,none⟩) s.xs.length cap1)) from hv1▸zjt)
   obtain ⟨vm,ds,hmk,hvc,hone,O⟩:=St.pinV O 5 rfl
   have hds:=mkp_r.len ⟨_,_,hmk⟩
   rw [wpOps_cons]
   refine zik (m:=8) (k:=k) 3 4 rfl O ⟨Tryz.underlying35,by kernel_rfl⟩ zd rfl rfl hk zd zk zk (fun a O=>?_)
   rw [wpOps_cons]
   refine zwu (A1:=BqA { X with R:=M.set i { t with xs:=t.xs.set k ds,ys:=t.xs.set k ds } } vr L) [1,2,3] 0 6 0 rfl O rfl rfl hone hvc hds zdg rfl zd (hrm _ zk) zk zk (fun cs hp=>fiRay ht (hf.u.trans hf.v.symm) hf.yx (by rw [hf.v,hf.l]; exact hv1) (by rw [hf.l]; exact hk) hds hp) (fun w O=>?_)
   refine zcq ?_
   have O:=zn [(0,_),(2,_),(4,_)] [⟨0,59,ptrH,BqA { X with R:=M.set i { t with xs:=t.xs.set k ds,ys:=t.xs.set k ds } } vr L⟩,⟨3,103,ptrH,_⟩] O
   refine zae ?_
   refine za0<|zg [none,none] [] [.v 26 _,.v 27 _,.v 4 _] [.g 0,.g 1,.o 2] O (zv rfl (za1 (gq 2 rfl)) (zv rfl (zb5 (vq 0 rfl) za3 (zb3 (by have:=hwf.lx; omega))) (zv rfl (za2 (vq 1 rfl)) o0))) (zz [(0,_),(2,_),(4,_)] [⟨0,59,ptrH,_⟩,⟨3,103,ptrH,_⟩] fun a w O=>?_)
   refine za0 ?_
   have O:=St.sel O [0,1,2]
   exact ⟨n-1,by omega,k+1,_,⟨by omega,zsp hF hs ht ⟨_,_,hmk⟩⟩,O⟩
  ·have hk:k=s.xs.length:=by simp at hb1; omega
   subst hk
   refine wp_exit<|za7<|za7<|zap<|zae ?_
   refine za0<|zg [none,none] [] [.v 12 _,.v 13 _,.v 2 _] [.g 0,.o 2] O (zv rfl (za1 (gq 1 rfl)) (zv rfl (zb5 (vq 0 rfl) za3 (zb3 (by have:=hwf.lx; omega))) (zv rfl (za2 (vq 1 rfl)) o0))) (zz [(0,_),(2,_)] [⟨0,59,ptrH,_⟩,⟨3,103,ptrH,_⟩] fun a w O=>?_)
   refine za0 ?_
   have O:=St.sel O [0,1]
   have O:=St.selL O [0]
   exact ⟨X.R.length-(i+1),by omega,i+1,M,⟨by omega,zsq hF hs⟩,O⟩
 ·have hi:X.R.length≤i:=by have:=hF.1; simp [this] at hb0; omega
  have O:=St.wkL (A':=ExRay X vr L (allFull MkR X.R)) O 0 rfl (exRay (zyr hF hi hnew))
  refine wp_exit<|za7<|za7<|zap<|zc9<|zen O (zm 0 rfl) (zm 0 rfl) ?_
  exact zb6 (rs:=[]) rfl O .nil zd
theorem zy2 (X:BkRest)(vr:Value)(L:List Slot)(hfull:∀ s∈X.R,s.full MkR)(hl:X.R.length≤1000000):CK Tryz.prog 62 59 [59,103,29] (BqA X vr L) (ExRay X vr L (allDone MkR X.R)) [] (Tu []):=by
 obtain ⟨it0,z0,hi0,hz0,hs0,hb0',hc0⟩:=zzk
 refine CK.intro Tryz.func62 rfl zk nq zk (fun B g w0 a hrm O=>?_)
 have O:=zn [(0,EqV ((ptrH).f g)),] [⟨0,59,ptrH,BqA X vr L⟩] O
 refine wp_seq<|zg [none] [] [.v 2 _] [.g 0,.o 0] O (zv rfl (za2 za3) o0) (zz [(0,_),(2,_)] [⟨0,59,ptrH,_⟩] fun a w O=>?_)
 refine za0<|wp_block ?_
 have O:=St.sel O [0,1]
 refine wp_loop_ghost (fun n a w=>∃ (i:Nat) (M:List Slt),(n+i=X.R.length∧GrK MkR X.R M i)∧St B w0 42 [(0,EqV (ptrH.f g)),(2,In (i:Nat))] [⟨0,59,ptrH,BqA { X with R:=M } vr L⟩] a w) (X.R.length) ?_ ?_
 ·exact ⟨0,X.R,⟨by omega,grk_0⟩,O⟩
 intro n a w hI
 obtain ⟨i,M,⟨hn,hG⟩,O⟩:=hI
 have h1M:OneK M:=fun t ht=>by
  obtain ⟨ru,rv⟩:=(knRay O 0 rfl).2 t ht
  obtain ⟨s,hs,h1 | h1⟩:=zy5 hG ht
  ·exact ⟨rv.one,by rw [h1.z]; exact ru.one⟩
  ·subst h1; exact ⟨rv.one,(hfull t hs).z1⟩
 refine wp_seq<|wp_seq<|zg [none] [] [.v 6 _,.adr 7 0 (.some 0) True,.adr 8 0 (.some 0) True,.adr 9 0 (.some (0+8)) True,.v 10 _,.v 11 _,.v 12 _] [.g 0,.g 1,.o 6] O (zv rfl (za1 (gq 1 rfl)) (oc (ob_a rfl rfl (zef (lz0 0 rfl))) (oc (ob_a rfl rfl (zee 1 rfl zk (lz0 0 rfl))) (oc (ob_a rfl rfl (zda 2 rfl zk trivial (lz0 0 rfl) zdq)) (zv rfl (za4 3 rfl zk trivial (lz0 0 rfl) (Sub.part 8 rfl rfl) zl2) (zv rfl (zbk Tryz.underlying49 (has_wk' (vq 4 rfl) (zir h1M))) (zv rfl (zb1 (vq 0 rfl) (vq 5 rfl)) o0))))))) (zz [(0,_),(2,_),(12,_)] [⟨0,59,ptrH,_⟩] fun a w O=>?_)
 refine za0<|za8 O (zm 2 rfl) (fun hb0=>?_) (fun hb0=>?_)
 ·have hi:i<X.R.length:=by have:=hG.1; simpa [this] using hb0
  obtain ⟨s,hs⟩:∃ s,X.R[i]?=some s:=⟨_,List.getElem?_eq_getElem hi⟩
  have hf:=hfull s (List.mem_of_getElem? hs)
  have hMi:=grk_at hG hs
  have hvi:=zh9 hMi
  have hMlt:i<M.length:=by rw [hG.1]; exact hi
  refine wp_skip<|zt<|wp_block<|wp_seq<|zbs (sp:=[.adr 15 0 (.some 0) True,.adr 16 0 (.some 0) True,.adr 17 0 (.some (0+8)) True,.v 18 _,.v 19 _,.v 20 _,.v 21 _,.v 3 VT,.sto 0]) 7 2 0 8 OneC [.g 0,.g 1,.o 6] O (oc (ob_a rfl rfl (zef (lz0 0 rfl))) (oc (ob_a rfl rfl (zee 0 rfl zk (lz0 0 rfl))) (oc (ob_a rfl rfl (zda 1 rfl zk trivial (lz0 0 rfl) zdq)) (zv rfl (za4 2 rfl zk trivial (lz0 0 rfl) (Sub.part 8 rfl rfl) zl2) (zv rfl (za1 (gq 1 rfl)) (zv rfl (zd0 (m:=3) ⟨Tryz.underlying49,by kernel_rfl⟩ zi9 (has_wk' (vq 3 rfl) (zir h1M)) (vq 4 rfl) hvi) (zv rfl (zad (vq 5 rfl) zlh) o0))))))) rfl zd zk zk (zz [(0,_),(2,_),(21,_)] [⟨0,59,ptrH,_⟩] fun a w O=>?_)
  rw [show List.range' 7 2=[7,8] from rfl]
  refine zfd (A:=s.view) 2 [0,1] rfl rfl O (Str.zero zf8) rfl zlh rfl zd rfl zk zk (fun a w O=>?_)
  refine zbi ?_
  have O:=zn [(0,_),(2,_)] [⟨0,59,ptrH,_⟩,⟨3,103,ptrH,_⟩] O
  refine zt<|zg [none,none] [] [.adr 22 3 (.some 0) True,.v 23 _,.v 4 _] [.g 0,.g 1,.o 2] O (oc (ob_a rfl rfl (za9 (lz0 1 rfl) zez)) (zv rfl (za4 0 rfl zk trivial (lz0 1 rfl) (Sub.part 0 rfl rfl) zl4) (zv rfl (za2 (vq 1 rfl)) o0))) (zz [(0,_),(2,_),(4,_)] [⟨0,59,ptrH,_⟩,⟨3,103,ptrH,_⟩] fun a w O=>?_)
  refine zt<|wp_seq<|zg [none,none] [] [.v 5 _] [.g 0,.g 1,.g 2,.o 0] O (zv rfl (za2 za3) o0) (zz [(0,_),(2,_),(4,_),(5,_)] [⟨0,59,ptrH,_⟩,⟨3,103,ptrH,_⟩] fun a w O=>?_)
  refine za0<|wp_block ?_
  have O:=St.sel O [0,1,2,3]
  refine wp_loop_ghost (fun n a w=>∃ (k:Nat) (u:Value) (ys:List (List Value)),(n+k=70∧ExtP MkR s k ys)∧St B w0 42 [(0,EqV (ptrH.f g)),(2,In (i:Nat)),(4,EqV u),(5,In (k:Nat))] [⟨0,59,ptrH,BqA { X with R:=M.set i (s.ext u ys) } vr L⟩,⟨3,103,ptrH,s.view⟩] a w) (70) ?_ ?_
  ·have O:=St.cvA (A':=BqA { X with R:=M.set i (s.ext s.v s.xs) } vr L) O 0 rfl (show BqA { X with R:=M } vr L=_ by rw [extK_0 hf.tonew,zof hMi]); have O:=St.wkG O 2 rfl zjt; exact ⟨0,s.v,s.xs,⟨by omega,extP_0 hf⟩,O⟩
  intro n a w hI
  obtain ⟨k,u,ys,⟨hn2,hE⟩,O⟩:=hI
  refine wp_seq<|wp_seq<|zg [none,none] [] [.v 24 _,.v 25 _] [.g 0,.g 1,.g 2,.g 3,.o 1] O (zv rfl (za1 (gq 3 rfl)) (zv rfl (zb1 (vq 0 rfl) za3) o0)) (zz [(0,_),(2,_),(4,_),(5,_),(25,_)] [⟨0,59,ptrH,_⟩,⟨3,103,ptrH,_⟩] fun a w O=>?_)
  refine za0<|za8 O (zm 4 rfl) (fun hb1=>?_) (fun hb1=>?_)
  ·have hk:k<70:=by have:=hb1; simp at this; omega
   refine wp_skip<|zt<|wp_block<|zbs (sp:=[.v 28 _,.adr 29 3 (.some 2) True,.v 30 _,.v 31 _,.v 32 _,.v 33 VT,.v 4 VT]) 5 2 99 9 OneC [.g 0,.g 1,.g 3,.o 0,.o 4] O (zv rfl (za1 (gq 2 rfl)) (oc (ob_a rfl rfl (za9 (lz0 1 rfl) zhu)) (zv rfl (za4 1 rfl zk trivial (lz0 1 rfl) (Sub.part 2 rfl rfl) ty_3) (zv rfl (za5 (xs:=[.tmp 30]) (zor _) (.cons (vq 2 rfl) .nil)) (zv rfl (zcr (D:=[]) (l:=[MkR s.n]) (xs:=[.tmp 31]) (zeq zk) zoe zk (n_ok zk) nq nq nq (.cons (vq 3 rfl) .nil) rfl rfl) o0))))) rfl zd zk zk (zz [(0,_),(2,_),(5,_),(28,_),(32,_)] [⟨0,59,ptrH,_⟩,⟨3,103,ptrH,_⟩] fun a w O=>?_)
   rw [show List.range' 5 2=[5,6] from rfl]
   rw [wpOps_cons]
   refine zff (m:=8) (A1:=fun v'=>ExRay X vr L (fun M'=>∃ ys',M'=M.set i (s.ext v' ys')∧ExtP MkR s (k+1) ys')) (X:=MkR s.n) (F:=isMk MkR s.n) [0,1,2] 3 4 0 rfl O rfl rfl (fun ds h=>⟨_,_,h⟩) rfl rfl rfl (hrm _ zk) Tryz.underlying35 hi0 hz0 hs0 hb0' hc0 zd (n:=s.xs.length+k) (by have:=hf.lx; omega) (by have:=hf.lx; omega) zd zk zk zk zk (fun cs hp=>apRay hMi hE hp) (fun v' w O=>?_)
   rw [wpOps_cons]
   refine zq0 0 rfl O rfl zd zk zk (fun a O=>?_)
   refine zbi ?_
   obtain ⟨M',⟨ys2,hM',hE2⟩,O⟩:=stRay O 0 rfl
   subst hM'
   have O:=zn [(4,_),(33,_),(0,_),(2,_),(5,_)] [⟨0,59,ptrH,BqA { X with R:=M.set i (s.ext v' ys2) } vr L⟩,⟨3,103,ptrH,_⟩] O
   refine zae ?_
   refine za0<|zg [none,none] [] [.v 26 _,.v 27 _,.v 5 _] [.g 0,.g 2,.g 3,.o 2] O (zv rfl (za1 (gq 4 rfl)) (zv rfl (zb5 (vq 0 rfl) za3 (zb3 zo)) (zv rfl (za2 (vq 1 rfl)) o0))) (zz [(4,_),(0,_),(2,_),(5,_)] [⟨0,59,ptrH,_⟩,⟨3,103,ptrH,_⟩] fun a w O=>?_)
   refine za0 ?_
   have O:=St.sel O [1,2,0,3]
   exact ⟨n-1,by omega,k+1,v',ys2,⟨by omega,hE2⟩,O⟩
  ·have hk:k=70:=by simp at hb1; omega
   subst hk
   have hu:=((knRay O 0 rfl).2 _ (List.mem_set hMlt _)).1
   have hu1:=hu.one
   have hu2:u.cells = #[u]:=hu.cell
   refine wp_exit<|za7<|za7<|zap<|za0<|zbs (sp:=[.adr 34 0 (.some 0) True,.adr 35 0 (.some 0) True,.adr 36 0 (.some (0+8)) True,.v 37 _,.v 38 _,.v 39 _,.v 40 VT,.v 41 VT,.sto 0]) 6 3 0 8 OneC [.g 0,.g 1,.o 3,.o 4,.o 5] O (oc (ob_a rfl rfl (zef (lz0 0 rfl))) (oc (ob_a rfl rfl (zee 0 rfl zk (lz0 0 rfl))) (oc (ob_a rfl rfl (zda 1 rfl zk trivial (lz0 0 rfl) zdq)) (zv rfl (za4 2 rfl zk trivial (lz0 0 rfl) (Sub.part 8 rfl rfl) zl2) (zv rfl (za1 (gq 1 rfl)) (zv rfl (za1 (gq 2 rfl)) o0)))))) rfl zd zk zk (zz [(0,_),(2,_),(37,_),(38,_),(39,_)] [⟨0,59,ptrH,_⟩,⟨3,103,ptrH,_⟩] fun a w O=>?_)
   rw [show List.range' 6 3=[6,7,8] from rfl]
   have O:=St.selL O [0]
   have O:=St.wkG O 2 rfl zu1
   have hvr:=(knRay O 0 rfl).1
   obtain ⟨g1,cap1,hv1⟩:=hvr.row (show i<_ by rw [List.length_set,hG.1]; exact hi)
   have O:=St.cvG O 2 rfl (congrArg EqV hv1)
   rw [wpOps_cons]
   refine zik (m:=3) (k:=i) 2 3 rfl O ⟨Tryz.underlying49,by kernel_rfl⟩ zd rfl rfl (by rw [List.length_set,hG.1]; exact hi) zd zk zk (fun a O=>?_)
   rw [wpOps_cons]
   refine zfe 0 rfl O zhv rfl zd zk zk (fun a O=>?_)
   rw [wpOps_cons]
   refine zmp (A1:=BqA { X with R:=(M.set i (s.ext u ys)).set i { s.ext u ys with z:=u } } vr L) [2,3] 0 6 0 rfl O rfl rfl hu1 hu2 zl4 rfl zd (hrm _ zk) zk zk (fun cs hp=>puRay (by rw [List.getElem?_set_self hMlt]) hv1 hp) (fun w O=>?_)
   refine zcq ?_
   have O:=zn [(0,_),(2,_)] [⟨0,59,ptrH,_⟩] O
   refine zae ?_
   refine za0<|zg [none] [] [.v 13 _,.v 14 _,.v 2 _] [.g 0,.o 2] O (zv rfl (za1 (gq 1 rfl)) (zv rfl (zb5 (vq 0 rfl) za3 (zb3 zo)) (zv rfl (za2 (vq 1 rfl)) o0))) (zz [(0,_),(2,_)] [⟨0,59,ptrH,_⟩] fun a w O=>?_)
   refine za0 ?_
   have O:=St.sel O [0,1]
   exact ⟨X.R.length-(i+1),by omega,i+1,_,⟨by omega,zsf hG hs hE.1 hE.2.2⟩,(zjc (M:=M) (i:=i))▸O⟩
 ·have hi:X.R.length≤i:=by have:=hG.1; simp [this] at hb0; omega
  have O:=St.wkL (A':=ExRay X vr L (allDone MkR X.R)) O 0 rfl (exRay (zy6 hG hi hfull))
  refine wp_exit<|za7<|za7<|zap<|zc9<|zen O (zm 0 rfl) (zm 0 rfl) ?_
  exact zb6 (rs:=[]) rfl O .nil zd
theorem zxh (X:BkRest)(vr:Value)(L:List Slot)(hdone:∀ t∈X.R,t.done MkR)(hl:X.R.length≤1000000):Cn Tryz.prog 78 [ElP 59 (BqA X vr L)] (Bo true):=by
 refine Cn.intro Tryz.func78 rfl zk nq (fun B w0 a O=>?_)
 have O:=zn [(0,ElP 59 (BqA X vr L))] [] O
 have hkp:=kpRay O 0 rfl
 have h1M:OneK X.R:=fun t ht=>⟨(hkp t ht).2.one,by rw [(hdone t ht).zu]; exact (hkp t ht).1.one⟩
 refine wp_seq<|zh [.v 2 _] [.g 0,.o 0] O (zv rfl (za2 zav) o0) (zz [(0,_),(2,_)] [] fun a w O=>?_)
 refine zt<|wp_seq<|zh [.v 3 _] [.g 0,.g 1,.o 0] O (zv rfl (za2 za3) o0) (zz [(0,_),(2,_),(3,_)] [] fun a w O=>?_)
 refine za0<|wp_block ?_
 have O:=St.sel O [0,2]
 refine wp_loop_ghost (fun n a w=>∃ (i:Nat),n+i=X.R.length∧St B w0 64 [(0,ElP 59 (BqA X vr L)),(3,In (i:Nat))] [] a w) (X.R.length) ?_ ?_
 ·exact ⟨0,by omega,O⟩
 intro n a w hI
 obtain ⟨i,hn,O⟩:=hI
 refine wp_seq<|wp_seq<|zh [.v 6 _,.v 7 _,.v 8 _,.v 9 _,.v 10 _,.v 11 _,.v 12 _] [.g 0,.g 1,.o 6] O (zv rfl (za1 (gq 1 rfl)) (zv rfl (za1 (gq 0 rfl)) (zv rfl (zbu (vq 1 rfl)) (zv rfl (zay (vq 2 rfl) zdq (Sub.part 8 rfl rfl)) (zv rfl (zad (vq 3 rfl) zl2) (zv rfl (zbk Tryz.underlying49 (has_wk' (vq 4 rfl) (zir h1M))) (zv rfl (zb1 (vq 0 rfl) (vq 5 rfl)) o0))))))) (zz [(0,_),(3,_),(12,_)] [] fun a w O=>?_)
 refine za0<|za8 O (zm 2 rfl) (fun hb0=>?_) (fun hb0=>?_)
 ·have hi:i<X.R.length:=by have:=hb0; simp at this; omega
  obtain ⟨t,ht⟩:∃ t,X.R[i]?=some t:=⟨_,List.getElem?_eq_getElem hi⟩
  have hmem:=List.mem_of_getElem? ht
  have hd:=hdone t hmem
  have hzr:RowV t.z t.ys.length:=by rw [hd.zu]; exact (hkp t hmem).1
  refine wp_skip<|zt<|wp_block<|wp_seq<|znh (sp:=[.v 15 _,.v 16 _,.v 17 _,.v 18 _,.v 19 _,.v 20 _,.v 21 _,.alc 0,.sto 0]) 7 2 4 [.g 0,.g 1,.o 6] O (zv rfl (za1 (gq 0 rfl)) (zv rfl (zbu (vq 0 rfl)) (zv rfl (zay (vq 1 rfl) zdq (Sub.part 8 rfl rfl)) (zv rfl (zad (vq 2 rfl) zl2) (zv rfl (za1 (gq 1 rfl)) (zv rfl (zd0 (m:=3) ⟨Tryz.underlying49,by kernel_rfl⟩ zi9 (has_wk' (vq 3 rfl) (zir h1M)) (vq 4 rfl) (zh9 ht)) (zv rfl (zad (vq 5 rfl) zlh) o0))))))) rfl zk zk (zz [(0,_),(3,_),(21,_)] [] fun a w O=>?_)
  rw [show List.range' 7 2=[7,8] from rfl]
  refine zfd (A:=t.view) 2 [0,1] rfl rfl O (Str.zero zf8) rfl zlh rfl zd rfl zk zk (fun a w O=>?_)
  refine zbi ?_
  have O:=zn [(0,_),(3,_)] [⟨4,103,ptrH,_⟩] O
  refine zt<|wp_seq<|zg [none] [] [.adr 22 4 (.some 1) True,.v 23 _,.v 24 _,.adr 25 4 (.some 0) True,.v 26 _,.v 27 _,.v 28 _,.v 29 _] [.g 0,.g 1,.o 7] O (oc (ob_a rfl rfl (za9 (lz0 0 rfl) zhv)) (zv rfl (za4 0 rfl zk trivial (lz0 0 rfl) (Sub.part 1 rfl rfl) zl4) (zv rfl (zgt Tryz.underlying35 hzr (vq 1 rfl)) (oc (ob_a rfl rfl (za9 (lz0 0 rfl) zez)) (zv rfl (za4 3 rfl zk trivial (lz0 0 rfl) (Sub.part 0 rfl rfl) zl4) (zv rfl (zgt Tryz.underlying35 hd.rv (vq 4 rfl)) (zv rfl (zb5 (vq 5 rfl) za3 (wk_70 (by have:=hd.lx; omega))) (zv rfl (zdw (vq 2 rfl) (vq 6 rfl)) o0)))))))) (zz [(0,_),(3,_),(29,_)] [⟨4,103,ptrH,_⟩] fun a w O=>?_)
  refine za0<|za8 O (zm 2 rfl) (fun hb1=>?_) (fun hb1=>?_)
  ·exact absurd hb1 (by rw [hd.yl]; simp)
  ·refine wp_skip<|zt<|zg [none] [] [.v 5 _] [.g 0,.g 1,.o 0] O (zv rfl (za2 za3) o0) (zz [(0,_),(3,_),(5,_)] [⟨4,103,ptrH,_⟩] fun a w O=>?_)
   refine za0<|wp_block ?_
   have O:=St.sel O [0,1,2]
   refine wp_loop_ghost (fun n a w=>∃ (k:Nat),n+k=t.ys.length∧St B w0 64 [(0,ElP 59 (BqA X vr L)),(3,In (i:Nat)),(5,In (k:Nat))] [⟨4,103,ptrH,t.view⟩] a w) (t.ys.length) ?_ ?_
   ·exact ⟨0,by omega,O⟩
   intro n a w hI
   obtain ⟨k,hn2,O⟩:=hI
   refine wp_seq<|wp_seq<|zg [none] [] [.v 30 _,.adr 31 4 (.some 1) True,.v 32 _,.v 33 _,.v 34 _] [.g 0,.g 1,.g 2,.o 4] O (zv rfl (za1 (gq 2 rfl)) (oc (ob_a rfl rfl (za9 (lz0 0 rfl) zhv)) (zv rfl (za4 1 rfl zk trivial (lz0 0 rfl) (Sub.part 1 rfl rfl) zl4) (zv rfl (zgt Tryz.underlying35 hzr (vq 2 rfl)) (zv rfl (zb1 (vq 0 rfl) (vq 3 rfl)) o0))))) (zz [(0,_),(3,_),(5,_),(34,_)] [⟨4,103,ptrH,_⟩] fun a w O=>?_)
   refine za0<|za8 O (zm 3 rfl) (fun hb2=>?_) (fun hb2=>?_)
   ·have hk:k<t.ys.length:=by have:=hb2; simp at this; omega
    refine wp_skip<|zt<|wp_block<|wp_seq<|zis (anc:=[[],[0],[],[0,1,2],[0,1,2,3],[],[5],[0,1,2,3,4,5,6],[0,1,2,3,4,5,6,7],[0,1,2,3,4,5,6,7,8],[0,1,2,3,4,5,6,7,8,9],[0,1,2,3,4,5,6,7,8,9],[0,1,2,3,4,5,6,7,8,9,11],[0,1,2,3,4,5,6,7,8,9,11,12],[0,1,2,3,4,5,6,7,8,9,10,11,12,13],[0,1,2,3,4,5,6,7,8,9,10,11,12,13,14],[0,1,2,3,4,5,6,7,8,9,10,11,12,13,14,15],[0,1,2,3,4,5,6,7,8,9,10,11,12,13,14,15,16],[0,1,2,3,4,5,6,7,8,9,10,11,12,13,14,15],[0,1,2,3,4,5,6,7,8,9,10,11,12,13,14,15,16,17,18],[0,1,2,3,4,5,6,7,8,9,10,11,12,13,14,15,16,17,18,19],[0,1,2,3,4,5,6,7,8,9,10,11,12,13,14,15],[0,1,2,3,4,5,6,7,8,9,10,11,12,13,14,15,21],[0,1,2,3,4,5,6,7,8,9,10,11,12,13,14,15,16,17,18,19,20,21,22],[0,1,2,3,4,5,6,7,8,9,10,11,12,13,14,15,16,17,18,19,20,21,22,23],[0,1,2,3,4,5,6,7,8,9,10,11,12,13,14,15,16,17,18,19,20,21,22,23,24],[0,1,2,3,4,5,6,7,8,9,10,11,12,13,14,15,16,17,18,19,20,21,22,23,24,25]]) (sts:=[none]) (news:=[]) (sp:=((.adr 37 4 (.some 1) True:Sp)::(.v 38 _)::(.v 39 _)::(.v 40 _)::(.v 41 _)::(.adr 42 4 (.some 2) True)::(.v 43 _)::(.v 44 _)::(.v 45 _)::(.v 46 _)::(.v 47 (Wh (_=false) _))::(.adr 48 4 (.some 0) (_=false))::(.v 49 (Wh (_=false) _))::(.v 50 (Wh (_=false) _))::(.v 51 (Wh (_=false) _))::(.v 52 (Wh (_=false) _))::(.adr 53 4 (.some 0) ((_=false)∧_=true))::(.v 54 (Wh ((_=false)∧_=true) _))::(.v 55 (Wh ((_=false)∧_=true) _))::(.v 56 (Wh ((_=false)∧_=true) _))::(.v 57 (Wh ((_=false)∧_=true) _))::(.adr 58 4 (.some 2) ((_=false)∧_=true))::(.v 59 (Wh ((_=false)∧_=true) _))::(.v 60 (Wh ((_=false)∧_=true) _))::(.v 61 (Wh ((_=false)∧_=true) _))::(.v 62 (Wh (_=false) _))::(.v 63 _)::[])) [.g 0,.g 1,.g 2,.o 26] za6 O (oc (ob_a rfl rfl (za9 (lz0 0 rfl) zhv)) (zv rfl (za4 0 rfl zk trivial (lz0 0 rfl) (Sub.part 1 rfl rfl) zl4) (zv rfl (za1 (gq 2 rfl)) (zv rfl (zd0 (m:=8) ⟨Tryz.underlying35,by kernel_rfl⟩ (zri rfl) (suRay (vq 1 rfl) (gq 0 rfl) hmem hd) (vq 2 rfl) (zmf hk)) (zv rfl (zad (vq 3 rfl) zdg) (oc (ob_a rfl rfl (za9 (lz0 0 rfl) zhu)) (zv rfl (za4 5 rfl zk trivial (lz0 0 rfl) (Sub.part 2 rfl rfl) ty_3) (zv rfl (za5 (xs:=[.tmp 41,.tmp 43]) (zxx _) (.cons (vq 4 rfl) (.cons (vq 6 rfl) .nil))) (zv rfl (zeh (vq 7 rfl)) (zv rfl (za1 (vq 8 rfl)) (oc (zan rfl rfl rfl (vq 9 rfl) nq (fun hg=>za1 (gq 2 rfl))) (oc (zce rfl rfl rfl (vq 9 rfl) nq (fun hg=>za9 (lz0 0 rfl) zez)) (oc (zan rfl rfl rfl (vq 9 rfl) nq (fun hg=>za4 11 rfl zk hg (lz0 0 rfl) (Sub.part 0 rfl rfl) zl4)) (oc (zan rfl rfl rfl (vq 9 rfl) nq (fun hg=>zgt Tryz.underlying35 hd.rv (zab (vq 12 rfl) hg))) (oc (zan rfl rfl rfl (vq 9 rfl) nq (fun hg=>zb1 (zab (vq 10 rfl) hg) (zab (vq 13 rfl) hg))) (oc (zan rfl rfl rfl (vq 9 rfl) nq (fun hg=>za1 (zab (vq 14 rfl) hg))) (oc (zfr rfl rfl rfl (vq 15 rfl) nq (fun hg=>za9 (lz0 0 rfl) zez)) (oc (zc5 rfl rfl rfl (vq 15 rfl) nq (fun hg=>za4 16 rfl zk hg (lz0 0 rfl) (Sub.part 0 rfl rfl) zl4)) (oc (zc5 rfl rfl rfl (vq 15 rfl) nq (fun hg=>za1 (gq 2 rfl))) (oc (zc5 rfl rfl rfl (vq 15 rfl) nq (fun hg=>zd0 (m:=8) ⟨Tryz.underlying35,by kernel_rfl⟩ (zri rfl) (svRay (zab (vq 17 rfl) hg) (gq 0 rfl) hmem hd) (zab (vq 18 rfl) hg) (zmf (by have:=hg; simp at this; omega)))) (oc (zc5 rfl rfl rfl (vq 15 rfl) nq (fun hg=>zad (zab (vq 19 rfl) hg) zdg)) (oc (zfr rfl rfl rfl (vq 15 rfl) nq (fun hg=>za9 (lz0 0 rfl) zhu)) (oc (zc5 rfl rfl rfl (vq 15 rfl) nq (fun hg=>za4 21 rfl zk hg (lz0 0 rfl) (Sub.part 2 rfl rfl) ty_3)) (oc (zc5 rfl rfl rfl (vq 15 rfl) nq (fun hg=>za5 (xs:=[.tmp 57,.tmp 59]) (zxx _) (.cons (zab (vq 20 rfl) hg) (.cons (zab (vq 22 rfl) hg) .nil)))) (oc (zc5 rfl rfl rfl (vq 15 rfl) nq (fun hg=>zeh (zab (vq 23 rfl) hg))) (oc (zan rfl rfl rfl (vq 9 rfl) nq (fun hg=>zcc (zab (vq 15 rfl) hg) (zh4 (vq 24 rfl) hg))) (zv rfl (r_or (vq 9 rfl) (vq 25 rfl)) o0))))))))))))))))))))))))))) zk zk zk zk (zz [(0,_),(3,_),(5,_),(63,_)] [⟨4,103,ptrH,_⟩] fun a w O=>?_)
    refine za0<|za8 O (zm 3 rfl) (fun hb3=>?_) (fun hb3=>?_)
    ·exact absurd hb3 (by simp)
    ·refine wp_skip<|zae ?_
     refine za0<|zg [none] [] [.v 35 _,.v 36 _,.v 5 _] [.g 0,.g 1,.o 2] O (zv rfl (za1 (gq 2 rfl)) (zv rfl (zb5 (vq 0 rfl) za3 (zb3 (by have:=hd.lx; have:=hd.yl; omega))) (zv rfl (za2 (vq 1 rfl)) o0))) (zz [(0,_),(3,_),(5,_)] [⟨4,103,ptrH,_⟩] fun a w O=>?_)
     refine za0 ?_
     have O:=St.sel O [0,1,2]
     exact ⟨n-1,by omega,k+1,by omega,O⟩
   ·have hk:k=t.ys.length:=by have:=hb2; simp at this; omega
    refine wp_exit<|za7<|za7<|zap<|zae ?_
    refine za0<|zg [none] [] [.v 13 _,.v 14 _,.v 3 _] [.g 0,.o 2] O (zv rfl (za1 (gq 1 rfl)) (zv rfl (zb5 (vq 0 rfl) za3 (zb3 zo)) (zv rfl (za2 (vq 1 rfl)) o0))) (zz [(0,_),(3,_)] [⟨4,103,ptrH,_⟩] fun a w O=>?_)
    refine za0 ?_
    have O:=St.sel O [0,1]
    have O:=St.selL O []
    exact ⟨X.R.length-(i+1),by omega,i+1,by omega,O⟩
 ·have hi:i=X.R.length:=by have:=hb0; simp at this; omega
  refine wp_exit<|za7<|za7<|zap<|zt<|zh [.v 2 _] [.g 0,.o 0] O (zv rfl (za2 zav) o0) (zz [(0,_),(2,_)] [] fun a w O=>?_)
  exact za0<|wp_ret<|zaf rfl O (zm 1 rfl)
end Go.Proofs.YthdbhckhignfcaaGreatDoor
