import Derived.Test.YtmfgafhlaeolgaaGreatDoorBtAa
import Derived.Test.YtmfgafhlaeolgaaGreatDoorBtAc
import Derived.Test.YtmfgafhlaeolgaaGreatDoorBtAm
import Derived.Test.YtmfgafhlaeolgaaGreatDoorBtAq
import Derived.Test.YtmfgafhlaeolgaaGreatDoorBtAt
set_option linter.unusedVariables false
set_option linter.unusedSimpArgs false
set_option linter.unusedSectionVars false
set_option maxRecDepth 100000
namespace Go.Proofs.YtmfgafhlaeolgaaGreatDoor
open Go Go.RowKit
def ExtP (A:Nat→As)(s:Slt)(k:Nat)(ys:List (List Value)):Prop:=ys.length=s.xs.length+k∧s.xs <+: ys∧∀ y∈ys,isMk A s.n y
theorem extP_0 {A:Nat→As}{s:Slt}(h:s.full A):ExtP A s 0 s.xs:=⟨rfl,List.prefix_refl _,h.xm⟩
theorem zzw {A:Nat→As}{s t:Slt}{c:Nat→Prop}(h:Fik A s t c):t.view=s.view:=by
 unfold Slt.view
 rw [h.v,h.z,h.n]
theorem zxh {A:Nat→As}{M:List Slt}{i:Nat}{s t:Slt}{c:Nat→Prop}(ht:M[i]?=some t)(h:Fik A s t c):(M.map Slt.view)[i]?=some s.view:=by rw [zk9 ht,zzw h]
theorem zd7:Str Tryz.prog 90 [EqS (.slice none 0 0),EqS (.slice none 0 0),NumA .i64 0] :=
 Str.of (z:=.agg #[.slice none 0 0,.slice none 0 0,.int .i64 0]) zk Tryz.underlying90 zk fun B w=>⟨[[.slice none 0 0],[.slice none 0 0],[.int .i64 0]],rfl,.cons ⟨rfl,rfl⟩ (.cons ⟨rfl,rfl⟩ (.cons rfl .nil))⟩
theorem zln:∃ it z,Tryz.prog.info? 64=some it∧it.zero=some z∧it.size=9∧it.bytes=136∧z.cells.size=9:=by
 have h:((Tryz.prog.info? 64).bind fun it=>it.zero.map fun z=>(it.size,it.bytes,z.cells.size))=some (9,136,9):=by kernel_rfl
 cases hi:Tryz.prog.info? 64 with
 | none=>rw [hi] at h; simp at h
 | some it =>
  rw [hi] at h
  cases hz:it.zero with
  | none=>simp [hz] at h
  | some z =>
   simp [hz] at h
   exact ⟨it,z,rfl,hz,h.1,h.2.1,h.2.2⟩
theorem wrElement {X:BkRest}{vr:Value}{L:List Slot}{M M':List Slt}{B g T:Nat}{c c':Array Value}{cs:List Value}{w:World}(h:(BqA { X with M:=M } vr L).p B cs w)(hgc:w.heap[g]?=some (.cells c T (0,0)))(hT:T=90∨T=64)(hB:B≤g)(f:∀ c0,(HkA 90 64 9 X.ve M).p B c0 w→(HkA 90 64 9 X.ve M').p B c0 (w.setRow g c')):(BqA { X with M:=M' } vr L).p B cs (w.setRow g c'):=by
 rcases hT with rfl | rfl
 ·exact zn8 h rfl (fun c0 hp=>As.kwr hp hgc (show 90 ∉ [93,U32] by decide) hB) (fun c0 hp=>As.kwr hp hgc (show 90 ∉ [96,3] by decide) hB) (fun c0 hp=>As.kwr hp hgc (show 90 ∉ [123,125] by decide) hB) f
 ·exact zn8 h rfl (fun c0 hp=>As.kwr hp hgc (show 64 ∉ [93,U32] by decide) hB) (fun c0 hp=>As.kwr hp hgc (show 64 ∉ [96,3] by decide) hB) (fun c0 hp=>As.kwr hp hgc (show 64 ∉ [123,125] by decide) hB) f
theorem grElement {X:BkRest}{vr:Value}{L:List Slot}{M M':List Slt}{B:Nat}{row:Option Nat}{cs:List Value}{w w':World}(h:(BqA { X with M:=M } vr L).p B cs w)(hg:w.grownBy w' row)(hr:RowOk w B 64 row)(f:∀ c0,(HkA 90 64 9 X.ve M).p B c0 w→(HkA 90 64 9 X.ve M').p B c0 w'):(BqA { X with M:=M' } vr L).p B cs w' :=
 zn8 h rfl (fun c0 hp=>As.grown hp hg hr (Nat.le_refl _) (show 64 ∉ [93,U32] by decide)) (fun c0 hp=>As.grown hp hg hr (Nat.le_refl _) (show 64 ∉ [96,3] by decide)) (fun c0 hp=>As.grown hp hg hr (Nat.le_refl _) (show 64 ∉ [123,125] by decide)) f
theorem hkElement {X:BkRest}{vr:Value}{L:List Slot}{M:List Slt}{B:Nat}{cs:List Value}{w:World}(h:(BqA { X with M:=M } vr L).p B cs w):∃ c,(HkA 90 64 9 X.ve M).p B c w:=(zcy h).2.2.2
theorem fiElement {X:BkRest}{vr:Value}{L:List Slot}{M:List Slt}{B i k g cap:Nat}{t:Slt}{cs ds:List Value}{w:World}(hi:M[i]?=some t)(hu:t.u=t.v)(hy:t.ys=t.xs)(hv:t.v=.slice (some ⟨g,0,none⟩) t.xs.length cap)(hk:k<t.xs.length)(hd:ds.length=9)(h:(BqA { X with M:=M } vr L).p B cs w) :
  B≤g∧∃ c:Array Value,w.heap[g]?=some (Obj.cells c 64 (0,0))∧k*9+9≤c.size∧(BqA { X with M:=M.set i { t with xs:=t.xs.set k ds,ys:=t.xs.set k ds } } vr L).p B cs (w.setRow g (c.toList.take (k*9)++ds++c.toList.drop (k*9+9)).toArray):=by
 obtain ⟨c0,h0⟩:=hkElement h
 obtain ⟨h2,c,h3,h4,h5⟩:=zvr zd h0 hi hu hy hv hk hd
 refine ⟨h2,c,h3,h4,wrElement h h3 (.inr rfl) h2 fun c1 h6=>?_⟩
 obtain ⟨_,c',h7,_,h8⟩:=zvr zd h6 hi hu hy hv hk hd
 rw [h3] at h7
 injection h7 with h7
 injection h7 with h7
 subst h7
 exact h8
def ExElement (X:BkRest)(vr:Value)(L:List Slot)(p:List Slt→Prop):As where
 n:=17
 ag:=true
 p B cs w:=∃ M,p M∧(BqA { X with M:=M } vr L).p B cs w
 deps:=(BqA X vr L).deps
 len:=fun B cs w ⟨M,_,h⟩=>(BqA { X with M:=M } vr L).len B cs w h
 one:=fun B cs w ⟨M,_,h⟩=>(BqA { X with M:=M } vr L).one B cs w h
 ag1:=fun h=>by cases h
 cg:=fun B cs w w' hg ⟨M,h1,h⟩=>⟨M,h1,(BqA { X with M:=M } vr L).cg B cs w w' hg h⟩
 wr:=fun B cs w w' g c T fz h1 h2 h3 h4 ⟨M,h5,h⟩=>⟨M,h5,(BqA { X with M:=M } vr L).wr B cs w w' g c T fz h1 h2 h3 h4 h⟩
theorem exElement {X:BkRest}{vr:Value}{L:List Slot}{M:List Slt}{p:List Slt→Prop}(hp:p M):WkA (BqA { X with M:=M } vr L) (ExElement X vr L p):=⟨rfl,rfl,fun B cs w h=>⟨M,hp,h⟩⟩
theorem stElement {X:BkRest}{vr:Value}{L:List Slot}{p:List Slt→Prop}{B N:Nat}{w0:Bs}{Γ:List (Nat × VA)}{Λ:List Lc}{a:Act}{w:World}{s:Nat}{T:TypeId}{H:Hd}(h:St B w0 N Γ Λ a w)(k:Nat)(hm:Λ[k]?=some ⟨s,T,H,ExElement X vr L p⟩):∃ M,p M∧St B w0 N Γ (Λ.set k ⟨s,T,H,BqA { X with M:=M } vr L⟩) a w:=by
 obtain ⟨g,cs,q1,q2,q3,M,hG,q4⟩:=h.locs _ (List.mem_of_getElem? hm)
 have hs:∀ m∈Λ.set k ⟨s,T,H,BqA { X with M:=M } vr L⟩,∃ m0∈Λ,m0.s=m.s:=fun m hm'=>by
  rcases List.mem_or_eq_of_mem_set hm' with hm' | rfl
  ·exact ⟨m,hm',rfl⟩
  ·exact ⟨_,List.mem_of_getElem? hm,rfl⟩
 refine ⟨M,hG,h.lo,h.defers,h.size,h.base,h.vals,fun l hl=>?_,fun m1 hm1 m2 hm2 hne=>?_⟩
 ·rcases List.mem_or_eq_of_mem_set hl with hl | rfl
  ·exact h.locs l hl
  ·exact ⟨g,cs,q1,q2,q3,q4⟩
 ·obtain ⟨m3,r1,r2⟩:=hs m1 hm1
  obtain ⟨m4,r3,r4⟩:=hs m2 hm2
  rw [← r2,← r4] at hne ⊢
  exact h.dis m3 r1 m4 r3 hne
theorem apElement {X:BkRest}{vr:Value}{L:List Slot}{M:List Slt}{B i k:Nat}{s:Slt}{u:Value}{ys:List (List Value)}{cs:List Value}{w:World}(hMi:M[i]?=some s)(hE:ExtP MkE s k ys)(h:(BqA { X with M:=M.set i (s.ext u ys) } vr L).p B cs w) :
  w.ownsRow B 64 9 u (s.xs.length+k) ys.flatten∧∀ v' w' ds,isMk MkE s.n ds→w'.ownsRow B 64 9 v' (s.xs.length+k+1) (ys.flatten++ds)→w.grownBy w' u.ownBlock→(v'.ownBlock=u.ownBlock∨(v'.ownBlock=some w.heap.size∧w.grownBy w' none))→(ExElement X vr L fun M'=>∃ ys',M'=M.set i (s.ext v' ys')∧ExtP MkE s (k+1) ys').p B cs w':=by
 have hlt:=(List.getElem?_eq_some_iff.1 hMi).1
 have hi:(M.set i (s.ext u ys))[i]?=some (s.ext u ys):=List.getElem?_set_self hlt
 obtain ⟨hl,hp,hm⟩:=hE
 obtain ⟨c0,h0⟩:=hkElement h
 have hown0:w.ownsRow B 64 9 u (s.xs.length+k) ys.flatten:=by
  have:=(h0.2.2.1 _ (List.mem_of_getElem? hi)).1
  rw [show (s.ext u ys).ys.length=s.xs.length+k from hl] at this
  exact this
 refine ⟨hown0,fun v' w' ds hds hown hg hb=>⟨M.set i (s.ext v' (ys++[ds])),⟨ys++[ds],rfl,by rw [List.length_append,hl]; rfl,hp.trans (List.prefix_append _ _),mk_mem hm hds⟩,grElement h hg (zg3 hown0) fun c hc=>?_⟩⟩
 have:=hk_app (v':=v') (ds:=ds) zd hc hi (by rw [show (s.ext u ys).ys.length=s.xs.length+k from hl]; exact hown) hg hb (fun _=>hp) (fun y hy=>mkp_e.len (hm y hy))
 rw [zp2] at this
 exact this
theorem puElement {X:BkRest}{vr z:Value}{L:List Slot}{M:List Slt}{B i g cap:Nat}{s:Slt}{cs:List Value}{w:World}(hi:M[i]?=some s)(hvr:X.ve=.slice (some ⟨g,0,none⟩) M.length cap)(h:(BqA { X with M:=M } vr L).p B cs w) :
  B≤g∧∃ c:Array Value,w.heap[g]?=some (Obj.cells c 90 (0,0))∧i*3+1<c.size∧(BqA { X with M:=M.set i { s with z:=z } } vr L).p B cs (w.setRow g (c.setIfInBounds (i*3+1) z)):=by
 obtain ⟨c0,h0⟩:=hkElement h
 obtain ⟨h2,c,h3,h4,h5⟩:=hk_put zd z h0 hi hvr
 refine ⟨h2,c,h3,h4,wrElement h h3 (.inl rfl) h2 fun c1 h6=>?_⟩
 obtain ⟨_,c',h7,_,h8⟩:=hk_put zd z h6 hi hvr
 rw [h3] at h7
 injection h7 with h7
 injection h7 with h7
 subst h7
 exact h8
theorem knElement {X:BkRest}{vr:Value}{L:List Slot}{M:List Slt}{B N:Nat}{w0:Bs}{Γ:List (Nat × VA)}{Λ:List Lc}{a:Act}{w:World}{s:Nat}{T:TypeId}{H:Hd}(h:St B w0 N Γ Λ a w)(k:Nat)(hm:Λ[k]?=some ⟨s,T,H,BqA { X with M:=M } vr L⟩):RowV X.ve M.length∧∀ t∈M,RowV t.u t.ys.length∧RowV t.v t.xs.length:=by
 obtain ⟨g,cs,_,_,_,hp⟩:=h.locs _ (List.mem_of_getElem? hm)
 obtain ⟨c,h1,h2,h3,_⟩:=hkElement hp
 exact ⟨(zda h2).2,fun t ht=>⟨(zda (h3 t ht).1).2,(h3 t ht).2.1⟩⟩
theorem kpElement {X:BkRest}{vr:Value}{L:List Slot}{B N:Nat}{w0:Bs}{Γ:List (Nat × VA)}{Λ:List Lc}{a:Act}{w:World}{s:Nat}{T:TypeId}(h:St B w0 N Γ Λ a w)(k:Nat)(hm:Γ[k]?=some (s,ElP T (BqA X vr L))):∀ t∈X.M,RowV t.u t.ys.length∧RowV t.v t.xs.length:=by
 obtain ⟨b,o,cs,_,_,_,hp,_⟩:=h.vals _ (List.mem_of_getElem? hm)
 obtain ⟨c,h1,h2,h3,_⟩:=hkElement (M:=X.M) hp
 exact fun t ht=>⟨(zda (h3 t ht).1).2,(h3 t ht).2.1⟩
section
open Rg
variable {P:Program} {Q:Exit→Act→World→Prop} {R:Rg} {B i:Nat} {w0:Bs}
theorem svElement {X:BkRest}{x y:Operand}{vr:Value}{L:List Slot}{t:Slt}{T:TypeId}(hx:Has R B w0 i x (EqS t.v).va)(hl:Has R B w0 i y (ElP T (BqA X vr L)))(ht:t∈X.M)(hd:t.done MkE):Has R B w0 i x (SlA 64 [] (List.replicate t.xs.length (MkE t.n))).va:=fun a w av=>by
 obtain ⟨b,o,cs,_,_,_,h,_⟩:=hl a w av
 obtain ⟨c,h⟩:=hkElement (M:=X.M) h
 rw [zis (hx a w av)]
 exact zu2 mkp_e (h.2.2.1 t ht).2 hd.xm
theorem suElement {X:BkRest}{x y:Operand}{vr:Value}{L:List Slot}{t:Slt}{T:TypeId}(hx:Has R B w0 i x (EqS t.z).va)(hl:Has R B w0 i y (ElP T (BqA X vr L)))(ht:t∈X.M)(hd:t.done MkE):Has R B w0 i x (SlA 64 [] (List.replicate t.ys.length (MkE t.n))).va:=fun a w av=>by
 obtain ⟨b,o,cs,_,_,_,h,_⟩:=hl a w av
 obtain ⟨c,h⟩:=hkElement (M:=X.M) h
 rw [zis (hx a w av),hd.zu]
 exact zu2 mkp_e (zpe (fun y hy=>mkp_e.len (hd.ym y hy)) (h.2.2.1 t ht).1) hd.ym
end
theorem zlh (X:BkRest)(vr:Value)(L:List Slot)(hnew:∀ s∈X.M,s.new)(hl:X.M.length≤1000000):CK Tryz.prog 44 55 [55,90,64] (BqA X vr L) (ExElement X vr L (allFull MkE X.M)) [] (Tu []):=by
 refine CK.intro Tryz.func44 rfl zk nq zk (fun B g w0 a hrm O=>?_)
 have O:=zn [(0,EqV ((ptrH).f g)),] [⟨0,55,ptrH,BqA X vr L⟩] O
 refine wp_seq<|zg [none] [] [.v 2 _] [.g 0,.o 0] O (zv rfl (za2 za3) o0) (zz [(0,_),(2,_)] [⟨0,55,ptrH,_⟩] fun a w O=>?_)
 refine za0<|wp_block ?_
 have O:=St.sel O [0,1]
 refine wp_loop_ghost (fun n a w=>∃ (i:Nat) (M:List Slt),(n+i=X.M.length∧FiK MkE X.M M i 0)∧St B w0 35 [(0,EqV (ptrH.f g)),(2,In (i:Nat))] [⟨0,55,ptrH,BqA { X with M:=M } vr L⟩] a w) (X.M.length) ?_ ?_
 ·exact ⟨0,X.M,⟨by omega,fik_0 hnew⟩,O⟩
 intro n a w hI
 obtain ⟨i,M,⟨hn,hF⟩,O⟩:=hI
 have h1M:=fik_one hF hnew
 refine wp_seq<|wp_seq<|zg [none] [] [.v 5 _,.adr 6 0 (.some 0) True,.adr 7 0 (.some 0) True,.adr 8 0 (.some (0+9)) True,.v 9 _,.v 10 _,.v 11 _] [.g 0,.g 1,.o 6] O (zv rfl (za1 (gq 1 rfl)) (oc (ob_a rfl rfl (zg0 (lz0 0 rfl))) (oc (ob_a rfl rfl (zfz 1 rfl zk (lz0 0 rfl))) (oc (ob_a rfl rfl (zej 2 rfl zk trivial (lz0 0 rfl) zdl)) (zv rfl (za4 3 rfl zk trivial (lz0 0 rfl) (Sub.part 9 rfl rfl) zj9) (zv rfl (zbf Tryz.underlying46 (has_wk' (vq 4 rfl) (zo5 h1M))) (zv rfl (zaz (vq 0 rfl) (vq 5 rfl)) o0))))))) (zz [(0,_),(2,_),(11,_)] [⟨0,55,ptrH,_⟩] fun a w O=>?_)
 refine za0<|za8 O (zm 2 rfl) (fun hb0=>?_) (fun hb0=>?_)
 ·have hi:i<X.M.length:=by have:=hF.1; simpa [this] using hb0
  obtain ⟨s,hs⟩:∃ s,X.M[i]?=some s:=⟨_,List.getElem?_eq_getElem hi⟩
  have hwf:=hnew s (List.mem_of_getElem? hs)
  obtain ⟨t,ht,hf⟩:=fik_at hF hs
  have hvi:=zxh ht hf
  refine wp_skip<|zt<|wp_block<|wp_seq<|zc2 (sp:=[.adr 14 0 (.some 0) True,.adr 15 0 (.some 0) True,.adr 16 0 (.some (0+9)) True,.v 17 _,.v 18 _,.v 19 _,.v 20 _,.v 3 VT,.sto 0]) 7 2 0 8 OneC [.g 0,.g 1,.o 6] O (oc (ob_a rfl rfl (zg0 (lz0 0 rfl))) (oc (ob_a rfl rfl (zfz 0 rfl zk (lz0 0 rfl))) (oc (ob_a rfl rfl (zej 1 rfl zk trivial (lz0 0 rfl) zdl)) (zv rfl (za4 2 rfl zk trivial (lz0 0 rfl) (Sub.part 9 rfl rfl) zj9) (zv rfl (za1 (gq 1 rfl)) (zv rfl (zcv (m:=3) ⟨Tryz.underlying46,by kernel_rfl⟩ znb (has_wk' (vq 3 rfl) (zo5 h1M)) (vq 4 rfl) hvi) (zv rfl (zad (vq 5 rfl) zr2) o0))))))) rfl zd zk zk (zz [(0,_),(2,_),(20,_)] [⟨0,55,ptrH,_⟩] fun a w O=>?_)
  rw [show List.range' 7 2=[7,8] from rfl]
  refine zh2 (A:=s.view) 2 [0,1] rfl rfl O (Str.zero zd7) rfl zr2 rfl zd rfl zk zk (fun a w O=>?_)
  refine zby ?_
  have O:=zn [(0,_),(2,_)] [⟨0,55,ptrH,_⟩,⟨3,90,ptrH,_⟩] O
  refine zt<|zg [none,none] [] [.v 4 _] [.g 0,.g 1,.o 0] O (zv rfl (za2 za3) o0) (zz [(0,_),(2,_),(4,_)] [⟨0,55,ptrH,_⟩,⟨3,90,ptrH,_⟩] fun a w O=>?_)
  refine za0<|wp_block ?_
  have O:=St.sel O [0,1,2]
  refine wp_loop_ghost (fun n a w=>∃ (k:Nat) (M:List Slt),(n+k=s.xs.length∧FiK MkE X.M M i k)∧St B w0 35 [(0,EqV (ptrH.f g)),(2,In (i:Nat)),(4,In (k:Nat))] [⟨0,55,ptrH,BqA { X with M:=M } vr L⟩,⟨3,90,ptrH,s.view⟩] a w) (s.xs.length) ?_ ?_
  ·exact ⟨0,M,⟨by omega,hF⟩,O⟩
  intro n a w hI
  obtain ⟨k,M,⟨hn2,hF⟩,O⟩:=hI
  obtain ⟨t,ht,hf⟩:=fik_at hF hs
  refine wp_seq<|wp_seq<|zg [none,none] [] [.v 21 _,.adr 22 3 (.some 0) True,.v 23 _,.v 24 _,.v 25 _] [.g 0,.g 1,.g 2,.o 4] O (zv rfl (za1 (gq 2 rfl)) (oc (ob_a rfl rfl (zae (lz0 1 rfl) zfn)) (zv rfl (za4 1 rfl zk trivial (lz0 1 rfl) (Sub.part 0 rfl rfl) zg1) (zv rfl (zm8 Tryz.underlying22 hwf.rv (vq 2 rfl)) (zv rfl (zaz (vq 0 rfl) (vq 3 rfl)) o0))))) (zz [(0,_),(2,_),(4,_),(25,_)] [⟨0,55,ptrH,_⟩,⟨3,90,ptrH,_⟩] fun a w O=>?_)
  refine za0<|za8 O (zm 3 rfl) (fun hb1=>?_) (fun hb1=>?_)
  ·have hk:k<s.xs.length:=by simpa using hb1
   refine wp_skip<|zt<|wp_block<|zpz (sp:=[.adr 28 3 (.some 0) True,.v 29 _,.v 30 _,.adr 31 3 (.some 2) True,.v 32 _,.v 33 _,.v 34 VT,.sto 0]) [[],[0],[],[],[3],[3,4],[0,1,2,3,4,5],[0,1,2,3,4,5,6]] 6 2 0 7 OneC [.g 0,.g 1,.g 2,.o 1,.o 2,.o 5] za9 O (oc (ob_a rfl rfl (zae (lz0 1 rfl) zfn)) (zv rfl (za4 0 rfl zk trivial (lz0 1 rfl) (Sub.part 0 rfl rfl) zg1) (zv rfl (za1 (gq 2 rfl)) (oc (ob_a rfl rfl (zae (lz0 1 rfl) zhw)) (zv rfl (za4 3 rfl zk trivial (lz0 1 rfl) (Sub.part 2 rfl rfl) ty_3) (zv rfl (za5 (xs:=[.tmp 32]) (zgf _) (.cons (vq 4 rfl) .nil)) o0)))))) rfl zd zd zk (zj5 zk) zk zk (zz [(0,_),(2,_),(4,_),(29,_),(30,_),(33,_)] [⟨0,55,ptrH,_⟩,⟨3,90,ptrH,_⟩] fun a w O=>?_)
   rw [show List.range' 6 2=[6,7] from rfl]
   obtain ⟨g1,cap1,hv1⟩:=hwf.rv.row hk
   have O:=St.wkG O 3 rfl (show Wk (EqS s.v).va (EqV (.slice (some ⟨g1,0,none⟩) s.xs.length cap1)) from hv1▸zlp)
   obtain ⟨vm,ds,hmk,hvc,hone,O⟩:=St.pinV O 5 rfl
   have hds:=mkp_e.len ⟨_,_,hmk⟩
   rw [wpOps_cons]
   refine zkn (m:=9) (k:=k) 3 4 rfl O ⟨Tryz.underlying22,by kernel_rfl⟩ zd rfl rfl hk zd zk zk (fun a O=>?_)
   rw [wpOps_cons]
   refine op_stoV (A1:=BqA { X with M:=M.set i { t with xs:=t.xs.set k ds,ys:=t.xs.set k ds } } vr L) [1,2,3] 0 6 0 rfl O rfl rfl hone hvc hds zd5 rfl zd (hrm _ zk) zk zk (fun cs hp=>fiElement ht (hf.u.trans hf.v.symm) hf.yx (by rw [hf.v,hf.l]; exact hv1) (by rw [hf.l]; exact hk) hds hp) (fun w O=>?_)
   refine zdi ?_
   have O:=zn [(0,_),(2,_),(4,_)] [⟨0,55,ptrH,BqA { X with M:=M.set i { t with xs:=t.xs.set k ds,ys:=t.xs.set k ds } } vr L⟩,⟨3,90,ptrH,_⟩] O
   refine zab ?_
   refine za0<|zg [none,none] [] [.v 26 _,.v 27 _,.v 4 _] [.g 0,.g 1,.o 2] O (zv rfl (za1 (gq 2 rfl)) (zv rfl (zb2 (vq 0 rfl) za3 (zb3 (by have:=hwf.lx; omega))) (zv rfl (za2 (vq 1 rfl)) o0))) (zz [(0,_),(2,_),(4,_)] [⟨0,55,ptrH,_⟩,⟨3,90,ptrH,_⟩] fun a w O=>?_)
   refine za0 ?_
   have O:=St.sel O [0,1,2]
   exact ⟨n-1,by omega,k+1,_,⟨by omega,zzx hF hs ht ⟨_,_,hmk⟩⟩,O⟩
  ·have hk:k=s.xs.length:=by simp at hb1; omega
   subst hk
   refine wp_exit<|za7<|za7<|zam<|zab ?_
   refine za0<|zg [none,none] [] [.v 12 _,.v 13 _,.v 2 _] [.g 0,.o 2] O (zv rfl (za1 (gq 1 rfl)) (zv rfl (zb2 (vq 0 rfl) za3 (zb3 (by have:=hwf.lx; omega))) (zv rfl (za2 (vq 1 rfl)) o0))) (zz [(0,_),(2,_)] [⟨0,55,ptrH,_⟩,⟨3,90,ptrH,_⟩] fun a w O=>?_)
   refine za0 ?_
   have O:=St.sel O [0,1]
   have O:=St.selL O [0]
   exact ⟨X.M.length-(i+1),by omega,i+1,M,⟨by omega,fik_next hF hs⟩,O⟩
 ·have hi:X.M.length≤i:=by have:=hF.1; simp [this] at hb0; omega
  have O:=St.wkL (A':=ExElement X vr L (allFull MkE X.M)) O 0 rfl (exElement (fik_end hF hi hnew))
  refine wp_exit<|za7<|za7<|zam<|zdb<|zgb O (zm 0 rfl) (zm 0 rfl) ?_
  exact zb9 (rs:=[]) rfl O .nil zd
theorem zl8 (X:BkRest)(vr:Value)(L:List Slot)(hfull:∀ s∈X.M,s.full MkE)(hl:X.M.length≤1000000):CK Tryz.prog 60 55 [55,90,64] (BqA X vr L) (ExElement X vr L (allDone MkE X.M)) [] (Tu []):=by
 obtain ⟨it0,z0,hi0,hz0,hs0,hb0',hc0⟩:=zln
 refine CK.intro Tryz.func60 rfl zk nq zk (fun B g w0 a hrm O=>?_)
 have O:=zn [(0,EqV ((ptrH).f g)),] [⟨0,55,ptrH,BqA X vr L⟩] O
 refine wp_seq<|zg [none] [] [.v 2 _] [.g 0,.o 0] O (zv rfl (za2 za3) o0) (zz [(0,_),(2,_)] [⟨0,55,ptrH,_⟩] fun a w O=>?_)
 refine za0<|wp_block ?_
 have O:=St.sel O [0,1]
 refine wp_loop_ghost (fun n a w=>∃ (i:Nat) (M:List Slt),(n+i=X.M.length∧GrK MkE X.M M i)∧St B w0 42 [(0,EqV (ptrH.f g)),(2,In (i:Nat))] [⟨0,55,ptrH,BqA { X with M:=M } vr L⟩] a w) (X.M.length) ?_ ?_
 ·exact ⟨0,X.M,⟨by omega,grk_0⟩,O⟩
 intro n a w hI
 obtain ⟨i,M,⟨hn,hG⟩,O⟩:=hI
 have h1M:OneK M:=fun t ht=>by
  obtain ⟨ru,rv⟩:=(knElement O 0 rfl).2 t ht
  obtain ⟨s,hs,h1 | h1⟩:=grk_mem hG ht
  ·exact ⟨rv.one,by rw [h1.z]; exact ru.one⟩
  ·subst h1; exact ⟨rv.one,(hfull t hs).z1⟩
 refine wp_seq<|wp_seq<|zg [none] [] [.v 6 _,.adr 7 0 (.some 0) True,.adr 8 0 (.some 0) True,.adr 9 0 (.some (0+9)) True,.v 10 _,.v 11 _,.v 12 _] [.g 0,.g 1,.o 6] O (zv rfl (za1 (gq 1 rfl)) (oc (ob_a rfl rfl (zg0 (lz0 0 rfl))) (oc (ob_a rfl rfl (zfz 1 rfl zk (lz0 0 rfl))) (oc (ob_a rfl rfl (zej 2 rfl zk trivial (lz0 0 rfl) zdl)) (zv rfl (za4 3 rfl zk trivial (lz0 0 rfl) (Sub.part 9 rfl rfl) zj9) (zv rfl (zbf Tryz.underlying46 (has_wk' (vq 4 rfl) (zo5 h1M))) (zv rfl (zaz (vq 0 rfl) (vq 5 rfl)) o0))))))) (zz [(0,_),(2,_),(12,_)] [⟨0,55,ptrH,_⟩] fun a w O=>?_)
 refine za0<|za8 O (zm 2 rfl) (fun hb0=>?_) (fun hb0=>?_)
 ·have hi:i<X.M.length:=by have:=hG.1; simpa [this] using hb0
  obtain ⟨s,hs⟩:∃ s,X.M[i]?=some s:=⟨_,List.getElem?_eq_getElem hi⟩
  have hf:=hfull s (List.mem_of_getElem? hs)
  have hMi:=grk_at hG hs
  have hvi:=zk9 hMi
  have hMlt:i<M.length:=by rw [hG.1]; exact hi
  refine wp_skip<|zt<|wp_block<|wp_seq<|zc2 (sp:=[.adr 15 0 (.some 0) True,.adr 16 0 (.some 0) True,.adr 17 0 (.some (0+9)) True,.v 18 _,.v 19 _,.v 20 _,.v 21 _,.v 3 VT,.sto 0]) 7 2 0 8 OneC [.g 0,.g 1,.o 6] O (oc (ob_a rfl rfl (zg0 (lz0 0 rfl))) (oc (ob_a rfl rfl (zfz 0 rfl zk (lz0 0 rfl))) (oc (ob_a rfl rfl (zej 1 rfl zk trivial (lz0 0 rfl) zdl)) (zv rfl (za4 2 rfl zk trivial (lz0 0 rfl) (Sub.part 9 rfl rfl) zj9) (zv rfl (za1 (gq 1 rfl)) (zv rfl (zcv (m:=3) ⟨Tryz.underlying46,by kernel_rfl⟩ znb (has_wk' (vq 3 rfl) (zo5 h1M)) (vq 4 rfl) hvi) (zv rfl (zad (vq 5 rfl) zr2) o0))))))) rfl zd zk zk (zz [(0,_),(2,_),(21,_)] [⟨0,55,ptrH,_⟩] fun a w O=>?_)
  rw [show List.range' 7 2=[7,8] from rfl]
  refine zh2 (A:=s.view) 2 [0,1] rfl rfl O (Str.zero zd7) rfl zr2 rfl zd rfl zk zk (fun a w O=>?_)
  refine zby ?_
  have O:=zn [(0,_),(2,_)] [⟨0,55,ptrH,_⟩,⟨3,90,ptrH,_⟩] O
  refine zt<|zg [none,none] [] [.adr 22 3 (.some 0) True,.v 23 _,.v 4 _] [.g 0,.g 1,.o 2] O (oc (ob_a rfl rfl (zae (lz0 1 rfl) zfn)) (zv rfl (za4 0 rfl zk trivial (lz0 1 rfl) (Sub.part 0 rfl rfl) zg1) (zv rfl (za2 (vq 1 rfl)) o0))) (zz [(0,_),(2,_),(4,_)] [⟨0,55,ptrH,_⟩,⟨3,90,ptrH,_⟩] fun a w O=>?_)
  refine zt<|wp_seq<|zg [none,none] [] [.v 5 _] [.g 0,.g 1,.g 2,.o 0] O (zv rfl (za2 za3) o0) (zz [(0,_),(2,_),(4,_),(5,_)] [⟨0,55,ptrH,_⟩,⟨3,90,ptrH,_⟩] fun a w O=>?_)
  refine za0<|wp_block ?_
  have O:=St.sel O [0,1,2,3]
  refine wp_loop_ghost (fun n a w=>∃ (k:Nat) (u:Value) (ys:List (List Value)),(n+k=70∧ExtP MkE s k ys)∧St B w0 42 [(0,EqV (ptrH.f g)),(2,In (i:Nat)),(4,EqV u),(5,In (k:Nat))] [⟨0,55,ptrH,BqA { X with M:=M.set i (s.ext u ys) } vr L⟩,⟨3,90,ptrH,s.view⟩] a w) (70) ?_ ?_
  ·have O:=St.cvA (A':=BqA { X with M:=M.set i (s.ext s.v s.xs) } vr L) O 0 rfl (show BqA { X with M:=M } vr L=_ by rw [extK_0 hf.tonew,zth hMi]); have O:=St.wkG O 2 rfl zlp; exact ⟨0,s.v,s.xs,⟨by omega,extP_0 hf⟩,O⟩
  intro n a w hI
  obtain ⟨k,u,ys,⟨hn2,hE⟩,O⟩:=hI
  refine wp_seq<|wp_seq<|zg [none,none] [] [.v 24 _,.v 25 _] [.g 0,.g 1,.g 2,.g 3,.o 1] O (zv rfl (za1 (gq 3 rfl)) (zv rfl (zaz (vq 0 rfl) za3) o0)) (zz [(0,_),(2,_),(4,_),(5,_),(25,_)] [⟨0,55,ptrH,_⟩,⟨3,90,ptrH,_⟩] fun a w O=>?_)
  refine za0<|za8 O (zm 4 rfl) (fun hb1=>?_) (fun hb1=>?_)
  ·have hk:k<70:=by have:=hb1; simp at this; omega
   refine wp_skip<|zt<|wp_block<|zc2 (sp:=[.v 28 _,.adr 29 3 (.some 2) True,.v 30 _,.v 31 _,.v 32 _,.v 33 VT,.v 4 VT]) 5 2 99 9 OneC [.g 0,.g 1,.g 3,.o 0,.o 4] O (zv rfl (za1 (gq 2 rfl)) (oc (ob_a rfl rfl (zae (lz0 1 rfl) zhw)) (zv rfl (za4 1 rfl zk trivial (lz0 1 rfl) (Sub.part 2 rfl rfl) ty_3) (zv rfl (za5 (xs:=[.tmp 30]) (zgf _) (.cons (vq 2 rfl) .nil)) (zv rfl (zd0 (D:=[]) (l:=[MkE s.n]) (xs:=[.tmp 31]) (zfv zk) ze3 zk (n_ok zk) nq nq nq (.cons (vq 3 rfl) .nil) rfl rfl) o0))))) rfl zd zk zk (zz [(0,_),(2,_),(5,_),(28,_),(32,_)] [⟨0,55,ptrH,_⟩,⟨3,90,ptrH,_⟩] fun a w O=>?_)
   rw [show List.range' 5 2=[5,6] from rfl]
   rw [wpOps_cons]
   refine zh4 (m:=9) (A1:=fun v'=>ExElement X vr L (fun M'=>∃ ys',M'=M.set i (s.ext v' ys')∧ExtP MkE s (k+1) ys')) (X:=MkE s.n) (F:=isMk MkE s.n) [0,1,2] 3 4 0 rfl O rfl rfl (fun ds h=>⟨_,_,h⟩) rfl rfl rfl (hrm _ zk) Tryz.underlying22 hi0 hz0 hs0 hb0' hc0 zd (n:=s.xs.length+k) (by have:=hf.lx; omega) (by have:=hf.lx; omega) zd zk zk zk zk (fun cs hp=>apElement hMi hE hp) (fun v' w O=>?_)
   rw [wpOps_cons]
   refine zum 0 rfl O rfl zd zk zk (fun a O=>?_)
   refine zby ?_
   obtain ⟨M',⟨ys2,hM',hE2⟩,O⟩:=stElement O 0 rfl
   subst hM'
   have O:=zn [(4,_),(33,_),(0,_),(2,_),(5,_)] [⟨0,55,ptrH,BqA { X with M:=M.set i (s.ext v' ys2) } vr L⟩,⟨3,90,ptrH,_⟩] O
   refine zab ?_
   refine za0<|zg [none,none] [] [.v 26 _,.v 27 _,.v 5 _] [.g 0,.g 2,.g 3,.o 2] O (zv rfl (za1 (gq 4 rfl)) (zv rfl (zb2 (vq 0 rfl) za3 (zb3 zo)) (zv rfl (za2 (vq 1 rfl)) o0))) (zz [(4,_),(0,_),(2,_),(5,_)] [⟨0,55,ptrH,_⟩,⟨3,90,ptrH,_⟩] fun a w O=>?_)
   refine za0 ?_
   have O:=St.sel O [1,2,0,3]
   exact ⟨n-1,by omega,k+1,v',ys2,⟨by omega,hE2⟩,O⟩
  ·have hk:k=70:=by simp at hb1; omega
   subst hk
   have hu:=((knElement O 0 rfl).2 _ (List.mem_set hMlt _)).1
   have hu1:=hu.one
   have hu2:u.cells = #[u]:=hu.cell
   refine wp_exit<|za7<|za7<|zam<|za0<|zc2 (sp:=[.adr 34 0 (.some 0) True,.adr 35 0 (.some 0) True,.adr 36 0 (.some (0+9)) True,.v 37 _,.v 38 _,.v 39 _,.v 40 VT,.v 41 VT,.sto 0]) 6 3 0 8 OneC [.g 0,.g 1,.o 3,.o 4,.o 5] O (oc (ob_a rfl rfl (zg0 (lz0 0 rfl))) (oc (ob_a rfl rfl (zfz 0 rfl zk (lz0 0 rfl))) (oc (ob_a rfl rfl (zej 1 rfl zk trivial (lz0 0 rfl) zdl)) (zv rfl (za4 2 rfl zk trivial (lz0 0 rfl) (Sub.part 9 rfl rfl) zj9) (zv rfl (za1 (gq 1 rfl)) (zv rfl (za1 (gq 2 rfl)) o0)))))) rfl zd zk zk (zz [(0,_),(2,_),(37,_),(38,_),(39,_)] [⟨0,55,ptrH,_⟩,⟨3,90,ptrH,_⟩] fun a w O=>?_)
   rw [show List.range' 6 3=[6,7,8] from rfl]
   have O:=St.selL O [0]
   have O:=St.wkG O 2 rfl hk_eq
   have hvr:=(knElement O 0 rfl).1
   obtain ⟨g1,cap1,hv1⟩:=hvr.row (show i<_ by rw [List.length_set,hG.1]; exact hi)
   have O:=St.cvG O 2 rfl (congrArg EqV hv1)
   rw [wpOps_cons]
   refine zkn (m:=3) (k:=i) 2 3 rfl O ⟨Tryz.underlying46,by kernel_rfl⟩ zd rfl rfl (by rw [List.length_set,hG.1]; exact hi) zd zk zk (fun a O=>?_)
   rw [wpOps_cons]
   refine zh3 0 rfl O zhx rfl zd zk zk (fun a O=>?_)
   rw [wpOps_cons]
   refine znr (A1:=BqA { X with M:=(M.set i (s.ext u ys)).set i { s.ext u ys with z:=u } } vr L) [2,3] 0 6 0 rfl O rfl rfl hu1 hu2 zg1 rfl zd (hrm _ zk) zk zk (fun cs hp=>puElement (by rw [List.getElem?_set_self hMlt]) hv1 hp) (fun w O=>?_)
   refine zdi ?_
   have O:=zn [(0,_),(2,_)] [⟨0,55,ptrH,_⟩] O
   refine zab ?_
   refine za0<|zg [none] [] [.v 13 _,.v 14 _,.v 2 _] [.g 0,.o 2] O (zv rfl (za1 (gq 1 rfl)) (zv rfl (zb2 (vq 0 rfl) za3 (zb3 zo)) (zv rfl (za2 (vq 1 rfl)) o0))) (zz [(0,_),(2,_)] [⟨0,55,ptrH,_⟩] fun a w O=>?_)
   refine za0 ?_
   have O:=St.sel O [0,1]
   exact ⟨X.M.length-(i+1),by omega,i+1,_,⟨by omega,zzd hG hs hE.1 hE.2.2⟩,(zp2 (M:=M) (i:=i))▸O⟩
 ·have hi:X.M.length≤i:=by have:=hG.1; simp [this] at hb0; omega
  have O:=St.wkL (A':=ExElement X vr L (allDone MkE X.M)) O 0 rfl (exElement (grk_end hG hi hfull))
  refine wp_exit<|za7<|za7<|zam<|zdb<|zgb O (zm 0 rfl) (zm 0 rfl) ?_
  exact zb9 (rs:=[]) rfl O .nil zd
theorem zkz (X:BkRest)(vr:Value)(L:List Slot)(hdone:∀ t∈X.M,t.done MkE)(hl:X.M.length≤1000000):Cn Tryz.prog 76 [ElP 55 (BqA X vr L)] (Bo true):=by
 refine Cn.intro Tryz.func76 rfl zk nq (fun B w0 a O=>?_)
 have O:=zn [(0,ElP 55 (BqA X vr L))] [] O
 have hkp:=kpElement O 0 rfl
 have h1M:OneK X.M:=fun t ht=>⟨(hkp t ht).2.one,by rw [(hdone t ht).zu]; exact (hkp t ht).1.one⟩
 refine wp_seq<|zh [.v 2 _] [.g 0,.o 0] O (zv rfl (za2 zat) o0) (zz [(0,_),(2,_)] [] fun a w O=>?_)
 refine zt<|wp_seq<|zh [.v 3 _] [.g 0,.g 1,.o 0] O (zv rfl (za2 za3) o0) (zz [(0,_),(2,_),(3,_)] [] fun a w O=>?_)
 refine za0<|wp_block ?_
 have O:=St.sel O [0,2]
 refine wp_loop_ghost (fun n a w=>∃ (i:Nat),n+i=X.M.length∧St B w0 64 [(0,ElP 55 (BqA X vr L)),(3,In (i:Nat))] [] a w) (X.M.length) ?_ ?_
 ·exact ⟨0,by omega,O⟩
 intro n a w hI
 obtain ⟨i,hn,O⟩:=hI
 refine wp_seq<|wp_seq<|zh [.v 6 _,.v 7 _,.v 8 _,.v 9 _,.v 10 _,.v 11 _,.v 12 _] [.g 0,.g 1,.o 6] O (zv rfl (za1 (gq 1 rfl)) (zv rfl (za1 (gq 0 rfl)) (zv rfl (zbm (vq 1 rfl)) (zv rfl (zax (vq 2 rfl) zdl (Sub.part 9 rfl rfl)) (zv rfl (zad (vq 3 rfl) zj9) (zv rfl (zbf Tryz.underlying46 (has_wk' (vq 4 rfl) (zo5 h1M))) (zv rfl (zaz (vq 0 rfl) (vq 5 rfl)) o0))))))) (zz [(0,_),(3,_),(12,_)] [] fun a w O=>?_)
 refine za0<|za8 O (zm 2 rfl) (fun hb0=>?_) (fun hb0=>?_)
 ·have hi:i<X.M.length:=by have:=hb0; simp at this; omega
  obtain ⟨t,ht⟩:∃ t,X.M[i]?=some t:=⟨_,List.getElem?_eq_getElem hi⟩
  have hmem:=List.mem_of_getElem? ht
  have hd:=hdone t hmem
  have hzr:RowV t.z t.ys.length:=by rw [hd.zu]; exact (hkp t hmem).1
  refine wp_skip<|zt<|wp_block<|wp_seq<|zq0 (sp:=[.v 15 _,.v 16 _,.v 17 _,.v 18 _,.v 19 _,.v 20 _,.v 21 _,.alc 0,.sto 0]) 7 2 4 [.g 0,.g 1,.o 6] O (zv rfl (za1 (gq 0 rfl)) (zv rfl (zbm (vq 0 rfl)) (zv rfl (zax (vq 1 rfl) zdl (Sub.part 9 rfl rfl)) (zv rfl (zad (vq 2 rfl) zj9) (zv rfl (za1 (gq 1 rfl)) (zv rfl (zcv (m:=3) ⟨Tryz.underlying46,by kernel_rfl⟩ znb (has_wk' (vq 3 rfl) (zo5 h1M)) (vq 4 rfl) (zk9 ht)) (zv rfl (zad (vq 5 rfl) zr2) o0))))))) rfl zk zk (zz [(0,_),(3,_),(21,_)] [] fun a w O=>?_)
  rw [show List.range' 7 2=[7,8] from rfl]
  refine zh2 (A:=t.view) 2 [0,1] rfl rfl O (Str.zero zd7) rfl zr2 rfl zd rfl zk zk (fun a w O=>?_)
  refine zby ?_
  have O:=zn [(0,_),(3,_)] [⟨4,90,ptrH,_⟩] O
  refine zt<|wp_seq<|zg [none] [] [.adr 22 4 (.some 1) True,.v 23 _,.v 24 _,.adr 25 4 (.some 0) True,.v 26 _,.v 27 _,.v 28 _,.v 29 _] [.g 0,.g 1,.o 7] O (oc (ob_a rfl rfl (zae (lz0 0 rfl) zhx)) (zv rfl (za4 0 rfl zk trivial (lz0 0 rfl) (Sub.part 1 rfl rfl) zg1) (zv rfl (zm8 Tryz.underlying22 hzr (vq 1 rfl)) (oc (ob_a rfl rfl (zae (lz0 0 rfl) zfn)) (zv rfl (za4 3 rfl zk trivial (lz0 0 rfl) (Sub.part 0 rfl rfl) zg1) (zv rfl (zm8 Tryz.underlying22 hd.rv (vq 4 rfl)) (zv rfl (zb2 (vq 5 rfl) za3 (wk_70 (by have:=hd.lx; omega))) (zv rfl (zdp (vq 2 rfl) (vq 6 rfl)) o0)))))))) (zz [(0,_),(3,_),(29,_)] [⟨4,90,ptrH,_⟩] fun a w O=>?_)
  refine za0<|za8 O (zm 2 rfl) (fun hb1=>?_) (fun hb1=>?_)
  ·exact absurd hb1 (by rw [hd.yl]; simp)
  ·refine wp_skip<|zt<|zg [none] [] [.v 5 _] [.g 0,.g 1,.o 0] O (zv rfl (za2 za3) o0) (zz [(0,_),(3,_),(5,_)] [⟨4,90,ptrH,_⟩] fun a w O=>?_)
   refine za0<|wp_block ?_
   have O:=St.sel O [0,1,2]
   refine wp_loop_ghost (fun n a w=>∃ (k:Nat),n+k=t.ys.length∧St B w0 64 [(0,ElP 55 (BqA X vr L)),(3,In (i:Nat)),(5,In (k:Nat))] [⟨4,90,ptrH,t.view⟩] a w) (t.ys.length) ?_ ?_
   ·exact ⟨0,by omega,O⟩
   intro n a w hI
   obtain ⟨k,hn2,O⟩:=hI
   refine wp_seq<|wp_seq<|zg [none] [] [.v 30 _,.adr 31 4 (.some 1) True,.v 32 _,.v 33 _,.v 34 _] [.g 0,.g 1,.g 2,.o 4] O (zv rfl (za1 (gq 2 rfl)) (oc (ob_a rfl rfl (zae (lz0 0 rfl) zhx)) (zv rfl (za4 1 rfl zk trivial (lz0 0 rfl) (Sub.part 1 rfl rfl) zg1) (zv rfl (zm8 Tryz.underlying22 hzr (vq 2 rfl)) (zv rfl (zaz (vq 0 rfl) (vq 3 rfl)) o0))))) (zz [(0,_),(3,_),(5,_),(34,_)] [⟨4,90,ptrH,_⟩] fun a w O=>?_)
   refine za0<|za8 O (zm 3 rfl) (fun hb2=>?_) (fun hb2=>?_)
   ·have hk:k<t.ys.length:=by have:=hb2; simp at this; omega
    refine wp_skip<|zt<|wp_block<|wp_seq<|zih (anc:=[[],[0],[],[0,1,2],[0,1,2,3],[],[5],[0,1,2,3,4,5,6],[0,1,2,3,4,5,6,7],[0,1,2,3,4,5,6,7,8],[0,1,2,3,4,5,6,7,8,9],[0,1,2,3,4,5,6,7,8,9],[0,1,2,3,4,5,6,7,8,9,11],[0,1,2,3,4,5,6,7,8,9,11,12],[0,1,2,3,4,5,6,7,8,9,10,11,12,13],[0,1,2,3,4,5,6,7,8,9,10,11,12,13,14],[0,1,2,3,4,5,6,7,8,9,10,11,12,13,14,15],[0,1,2,3,4,5,6,7,8,9,10,11,12,13,14,15,16],[0,1,2,3,4,5,6,7,8,9,10,11,12,13,14,15],[0,1,2,3,4,5,6,7,8,9,10,11,12,13,14,15,16,17,18],[0,1,2,3,4,5,6,7,8,9,10,11,12,13,14,15,16,17,18,19],[0,1,2,3,4,5,6,7,8,9,10,11,12,13,14,15],[0,1,2,3,4,5,6,7,8,9,10,11,12,13,14,15,21],[0,1,2,3,4,5,6,7,8,9,10,11,12,13,14,15,16,17,18,19,20,21,22],[0,1,2,3,4,5,6,7,8,9,10,11,12,13,14,15,16,17,18,19,20,21,22,23],[0,1,2,3,4,5,6,7,8,9,10,11,12,13,14,15,16,17,18,19,20,21,22,23,24],[0,1,2,3,4,5,6,7,8,9,10,11,12,13,14,15,16,17,18,19,20,21,22,23,24,25]]) (sts:=[none]) (news:=[]) (sp:=((.adr 37 4 (.some 1) True:Sp)::(.v 38 _)::(.v 39 _)::(.v 40 _)::(.v 41 _)::(.adr 42 4 (.some 2) True)::(.v 43 _)::(.v 44 _)::(.v 45 _)::(.v 46 _)::(.v 47 (Wh (_=false) _))::(.adr 48 4 (.some 0) (_=false))::(.v 49 (Wh (_=false) _))::(.v 50 (Wh (_=false) _))::(.v 51 (Wh (_=false) _))::(.v 52 (Wh (_=false) _))::(.adr 53 4 (.some 0) ((_=false)∧_=true))::(.v 54 (Wh ((_=false)∧_=true) _))::(.v 55 (Wh ((_=false)∧_=true) _))::(.v 56 (Wh ((_=false)∧_=true) _))::(.v 57 (Wh ((_=false)∧_=true) _))::(.adr 58 4 (.some 2) ((_=false)∧_=true))::(.v 59 (Wh ((_=false)∧_=true) _))::(.v 60 (Wh ((_=false)∧_=true) _))::(.v 61 (Wh ((_=false)∧_=true) _))::(.v 62 (Wh (_=false) _))::(.v 63 _)::[])) [.g 0,.g 1,.g 2,.o 26] za9 O (oc (ob_a rfl rfl (zae (lz0 0 rfl) zhx)) (zv rfl (za4 0 rfl zk trivial (lz0 0 rfl) (Sub.part 1 rfl rfl) zg1) (zv rfl (za1 (gq 2 rfl)) (zv rfl (zcv (m:=9) ⟨Tryz.underlying22,by kernel_rfl⟩ (repK_n rfl) (suElement (vq 1 rfl) (gq 0 rfl) hmem hd) (vq 2 rfl) (zu0 hk)) (zv rfl (zad (vq 3 rfl) zd5) (oc (ob_a rfl rfl (zae (lz0 0 rfl) zhw)) (zv rfl (za4 5 rfl zk trivial (lz0 0 rfl) (Sub.part 2 rfl rfl) ty_3) (zv rfl (za5 (xs:=[.tmp 41,.tmp 43]) (zig _) (.cons (vq 4 rfl) (.cons (vq 6 rfl) .nil))) (zv rfl (zf7 (vq 7 rfl)) (zv rfl (za1 (vq 8 rfl)) (oc (zai rfl rfl rfl (vq 9 rfl) nq (fun hg=>za1 (gq 2 rfl))) (oc (zcf rfl rfl rfl (vq 9 rfl) nq (fun hg=>zae (lz0 0 rfl) zfn)) (oc (zai rfl rfl rfl (vq 9 rfl) nq (fun hg=>za4 11 rfl zk hg (lz0 0 rfl) (Sub.part 0 rfl rfl) zg1)) (oc (zai rfl rfl rfl (vq 9 rfl) nq (fun hg=>zm8 Tryz.underlying22 hd.rv (zaa (vq 12 rfl) hg))) (oc (zai rfl rfl rfl (vq 9 rfl) nq (fun hg=>zaz (zaa (vq 10 rfl) hg) (zaa (vq 13 rfl) hg))) (oc (zai rfl rfl rfl (vq 9 rfl) nq (fun hg=>za1 (zaa (vq 14 rfl) hg))) (oc (zfy rfl rfl rfl (vq 15 rfl) nq (fun hg=>zae (lz0 0 rfl) zfn)) (oc (zc5 rfl rfl rfl (vq 15 rfl) nq (fun hg=>za4 16 rfl zk hg (lz0 0 rfl) (Sub.part 0 rfl rfl) zg1)) (oc (zc5 rfl rfl rfl (vq 15 rfl) nq (fun hg=>za1 (gq 2 rfl))) (oc (zc5 rfl rfl rfl (vq 15 rfl) nq (fun hg=>zcv (m:=9) ⟨Tryz.underlying22,by kernel_rfl⟩ (repK_n rfl) (svElement (zaa (vq 17 rfl) hg) (gq 0 rfl) hmem hd) (zaa (vq 18 rfl) hg) (zu0 (by have:=hg; simp at this; omega)))) (oc (zc5 rfl rfl rfl (vq 15 rfl) nq (fun hg=>zad (zaa (vq 19 rfl) hg) zd5)) (oc (zfy rfl rfl rfl (vq 15 rfl) nq (fun hg=>zae (lz0 0 rfl) zhw)) (oc (zc5 rfl rfl rfl (vq 15 rfl) nq (fun hg=>za4 21 rfl zk hg (lz0 0 rfl) (Sub.part 2 rfl rfl) ty_3)) (oc (zc5 rfl rfl rfl (vq 15 rfl) nq (fun hg=>za5 (xs:=[.tmp 57,.tmp 59]) (zig _) (.cons (zaa (vq 20 rfl) hg) (.cons (zaa (vq 22 rfl) hg) .nil)))) (oc (zc5 rfl rfl rfl (vq 15 rfl) nq (fun hg=>zf7 (zaa (vq 23 rfl) hg))) (oc (zai rfl rfl rfl (vq 9 rfl) nq (fun hg=>zca (zaa (vq 15 rfl) hg) (zh6 (vq 24 rfl) hg))) (zv rfl (r_or (vq 9 rfl) (vq 25 rfl)) o0))))))))))))))))))))))))))) zk zk zk zk (zz [(0,_),(3,_),(5,_),(63,_)] [⟨4,90,ptrH,_⟩] fun a w O=>?_)
    refine za0<|za8 O (zm 3 rfl) (fun hb3=>?_) (fun hb3=>?_)
    ·exact absurd hb3 (by simp)
    ·refine wp_skip<|zab ?_
     refine za0<|zg [none] [] [.v 35 _,.v 36 _,.v 5 _] [.g 0,.g 1,.o 2] O (zv rfl (za1 (gq 2 rfl)) (zv rfl (zb2 (vq 0 rfl) za3 (zb3 (by have:=hd.lx; have:=hd.yl; omega))) (zv rfl (za2 (vq 1 rfl)) o0))) (zz [(0,_),(3,_),(5,_)] [⟨4,90,ptrH,_⟩] fun a w O=>?_)
     refine za0 ?_
     have O:=St.sel O [0,1,2]
     exact ⟨n-1,by omega,k+1,by omega,O⟩
   ·have hk:k=t.ys.length:=by have:=hb2; simp at this; omega
    refine wp_exit<|za7<|za7<|zam<|zab ?_
    refine za0<|zg [none] [] [.v 13 _,.v 14 _,.v 3 _] [.g 0,.o 2] O (zv rfl (za1 (gq 1 rfl)) (zv rfl (zb2 (vq 0 rfl) za3 (zb3 zo)) (zv rfl (za2 (vq 1 rfl)) o0))) (zz [(0,_),(3,_)] [⟨4,90,ptrH,_⟩] fun a w O=>?_)
    refine za0 ?_
    have O:=St.sel O [0,1]
    have O:=St.selL O []
    exact ⟨X.M.length-(i+1),by omega,i+1,by omega,O⟩
 ·have hi:i=X.M.length:=by have:=hb0; simp at this; omega
  refine wp_exit<|za7<|za7<|zam<|zt<|zh [.v 2 _] [.g 0,.o 0] O (zv rfl (za2 zat) o0) (zz [(0,_),(2,_)] [] fun a w O=>?_)
  exact za0<|wp_ret<|zac rfl O (zm 1 rfl)
section
open Rg
variable {P:Program} {Q:Exit→Act→World→Prop} {R:Rg} {B i:Nat} {w0:Bs}
end
end Go.Proofs.YtmfgafhlaeolgaaGreatDoor
namespace Go.Proofs.YtmfgafhlaeolgaaGreatDoor
open Go Go.RowKit
abbrev KL:=List (Value × List Nat)
def SepL:List Slot→KL→Prop
 | _,[]=>True
 | L,p::l=>(∀ t∈L,∀ g,t.has g→p.1.ownBlock≠some g)∧SepL (L++[newS p.1 p.2 (L.length+1)]) l
def kbl (l:KL):List Nat:=l.filterMap fun p=>p.1.ownBlock
def JkA:As where
 n:=17
 ag:=true
 p _ cs _:=cs.length=17∧∀ c∈cs,c.oneCell'=true
 deps:=[]
 len:=fun _ _ _ h=>h.1
 one:=fun _ _ _ h=>h.2
 ag1:=fun h=>by cases h
 cg:=fun _ _ _ _ _ h=>h
 wr:=fun _ _ _ _ _ _ _ _ _ _ _ _ h=>h
def IntP (x:RI)(m:Value):As:=cat [BoA x.neg,PinA m (MgN x.mag)]
def FracP (x:RF)(m1 m2:Value):As:=cat [IntP x.num m1,IntP x.den m2]
abbrev kf (x:RF)(m1 m2:Value):KL:=[(m1,x.num.mag),(m2,x.den.mag)]
abbrev kg (x:RG)(m:Nat→Value):KL:=kf x.re (m 0) (m 1)++kf x.im (m 2) (m 3)
end Go.Proofs.YtmfgafhlaeolgaaGreatDoor
