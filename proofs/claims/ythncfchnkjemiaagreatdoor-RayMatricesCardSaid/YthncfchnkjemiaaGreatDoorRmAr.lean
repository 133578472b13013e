import Derived.Test.YthncfchnkjemiaaGreatDoorRmAa
import Derived.Test.YthncfchnkjemiaaGreatDoorRmAc
import Derived.Test.YthncfchnkjemiaaGreatDoorRmAq
set_option linter.unusedVariables false
set_option linter.unusedSimpArgs false
set_option linter.unusedSectionVars false
set_option maxRecDepth 100000
namespace Go.Proofs.YthncfchnkjemiaaGreatDoor
open Go Go.RowKit
theorem app_u32S:∃ it z,Tryz.prog.info? 168=some it∧it.zero=some z∧it.size=1∧it.bytes=4∧z.cells.size=1:=by
 have h:((Tryz.prog.info? 168).bind fun it=>it.zero.map fun z=>(it.size,it.bytes,z.cells.size))=some (1,4,1):=by kernel_rfl
 cases hi:Tryz.prog.info? 168 with
 | none=>rw [hi] at h; simp at h
 | some it =>
  rw [hi] at h
  cases hz:it.zero with
  | none=>simp [hz] at h
  | some z =>
   simp [hz] at h
   exact ⟨it,z,rfl,hz,h.1,h.2.1,h.2.2⟩
def Slot.ext (s:Slot)(u:Value)(k:Nat):Slot:={ s with u:=u,ys:=List.replicate (s.xs.length+k) (mkN s.n) }
structure Slot.full (s:Slot):Prop extends s.wf where
 uv:s.u=s.v
 yx:s.ys=s.xs
 xm:s.xs=List.replicate s.xs.length (mkN s.n)
theorem ext_0 {s:Slot}(h:s.full):s.ext s.v 0=s:=by
 have h1:=h.uv
 have h2:=h.yx
 have h3:=h.xm
 obtain ⟨v,xs,u,ys,z,n⟩:=s
 simp only at h1 h2 h3
 subst h1 h2
 show Slot.mk u ys u (List.replicate (ys.length+0) (mkN n)) z n=_
 rw [Nat.add_zero,← h3]
structure Grew (s t:Slot):Prop where
 v:t.v=s.v
 xs:t.xs=s.xs
 n:t.n=s.n
 z:t.z=t.u
 ys:t.ys=List.replicate (s.xs.length+70) (mkN s.n)
def Gr (L M:List Slot)(i:Nat):Prop:=M.length=L.length∧∀ (j:Nat) s,L[j]?=some s→∃ t,M[j]?=some t∧(j<i→Grew s t)∧(i≤j→t=s)
theorem gr_0 {L:List Slot}:Gr L L 0:=⟨rfl,fun j s h=>⟨s,h,fun h=>absurd h (Nat.not_lt_zero _),fun _=>rfl⟩⟩
theorem gr_at {L M:List Slot}{i:Nat}{s:Slot}(h:Gr L M i)(hs:L[i]?=some s):M[i]?=some s:=by
 obtain ⟨t,h1,_,h2⟩:=h.2 i s hs
 rw [h1,h2 (Nat.le_refl _)]
theorem gr_next {L M:List Slot}{i:Nat}{s:Slot}{u:Value}(h:Gr L M i)(hs:L[i]?=some s):Gr L (M.set i { s.ext u 70 with z:=u }) (i+1):=by
 refine ⟨by rw [List.length_set]; exact h.1,fun j s' hj=>?_⟩
 by_cases e:j=i
 ·subst e
  rw [hs] at hj
  injection hj with hj
  subst hj
  refine ⟨_,List.getElem?_set_self (by rw [h.1]; exact (List.getElem?_eq_some_iff.1 hs).1),fun _=>⟨rfl,rfl,rfl,rfl,rfl⟩,fun h=>by omega⟩
 ·obtain ⟨t,h1,h2,h3⟩:=h.2 j s' hj
  exact ⟨t,by rw [List.getElem?_set_ne (fun e2=>e e2.symm)]; exact h1,fun h=>h2 zo,fun h=>h3 zo⟩
theorem gr_mem {L M:List Slot}{i:Nat}(h:Gr L M i){t:Slot}(ht:t∈M):∃ s∈L,Grew s t∨t=s:=by
 obtain ⟨j,hj⟩:=List.getElem?_of_mem ht
 have hlt:=(List.getElem?_eq_some_iff.1 hj).1
 rw [h.1] at hlt
 obtain ⟨t',h1,h2,h3⟩:=h.2 j _ (List.getElem?_eq_getElem hlt)
 rw [hj] at h1
 injection h1 with h1
 subst h1
 refine ⟨_,List.getElem_mem hlt,?_⟩
 by_cases e:j<i
 ·exact .inl (h2 e)
 ·exact .inr (h3 zo)
def One1 (M:List Slot):Prop:=∀ s∈M,s.v.oneCell'=true∧s.z.oneCell'=true
theorem zo4 {B:Nat}{w:World}:∀ {L:List Slot},One1 L→(cat (L.map Slot.view)).p B (L.flatMap Slot.cells) w
 | [],_=>⟨[],rfl,.nil⟩
 | s::L,h=>by
  obtain ⟨ps,e,hp⟩:=zo4 (B:=B) (w:=w) (L:=L) fun t ht=>h t (by simp [ht])
  refine ⟨s.cells::ps,by rw [List.flatMap_cons,e]; rfl,.cons ?_ hp⟩
  exact ⟨[[s.v],[s.z],[.int .i64 s.n]],rfl,.cons ⟨rfl,(h s (by simp)).1⟩ (.cons ⟨rfl,(h s (by simp)).2⟩ (.cons rfl .nil))⟩
theorem zql {vr:Value}{L:List Slot}(h:One1 L):Wk (HbA vr L).va (SlA 171 [] (L.map Slot.view)).va:=fun B v w ⟨cs,⟨e,h2,_⟩,hv⟩=>by
 subst e
 have hv':v=vr:=hv
 subst hv'
 refine zq7 (b:=B) (m:=3) B v w ⟨fun A hA=>?_,fun A hA T hT=>?_,L.flatMap Slot.cells,zo4 h,?_⟩
 ·obtain ⟨s,_,rfl⟩:=List.mem_map.1 hA; rfl
 ·obtain ⟨s,_,rfl⟩:=List.mem_map.1 hA; cases (show T∈([]:List TypeId) from hT)
 ·rw [List.length_map]; exact h2
theorem hb_eq {vr:Value}{L:List Slot}:Wk (HbA vr L).va (EqV vr):=fun B v w ⟨cs,⟨e,_⟩,hv⟩=>by
 subst e
 exact hv
theorem zgj {E m n B:Nat}{v:Value}{xs:List Value}{w:World}(h:w.ownsRow B E m v n xs):v.oneCell'=true∧RowV v n:=by
 rcases h.2 with ⟨rfl,e⟩ | ⟨g,cap,cur,rfl,_,_,h3,h4,_⟩
 ·exact ⟨rfl,.inl ⟨rfl,e⟩⟩
 ·exact ⟨rfl,.inr ⟨g,cap,rfl,h3,h4⟩⟩
theorem zpi {vr:Value}{M:List Slot}{B N:Nat}{w0:Bs}{Γ:List (Nat × VA)}{Λ:List Lc}{a:Act}{w:World}{s:Nat}{T:TypeId}{H:Hd}(h:St B w0 N Γ Λ a w)(k:Nat)(hm:Λ[k]?=some ⟨s,T,H,BkA vr M⟩):RowV vr M.length∧∀ t∈M,RowV t.u t.ys.length∧RowV t.v t.xs.length:=by
 obtain ⟨g,cs,_,_,_,hp⟩:=h.locs _ (List.mem_of_getElem? hm)
 obtain ⟨c,h1,h2,h3,_⟩:=zml hp
 exact ⟨(zgj h2).2,fun t ht=>⟨(zgj (h3 t ht).1).2,(h3 t ht).2.1⟩⟩
theorem bk_one {vr:Value}{M:List Slot}{B N:Nat}{w0:Bs}{Γ:List (Nat × VA)}{Λ:List Lc}{a:Act}{w:World}{s:Nat}{T:TypeId}{H:Hd}(h:St B w0 N Γ Λ a w)(k:Nat)(hm:Λ[k]?=some ⟨s,T,H,BkA vr M⟩)(hz:∀ t∈M,t.z.oneCell'=true∨t.z=t.u):One1 M:=fun t ht=>by
 obtain ⟨h1,h2⟩:=(zpi h k hm).2 t ht
 refine ⟨h2.one,?_⟩
 rcases hz t ht with e | e
 ·exact e
 ·rw [e]; exact h1.one
theorem gr_z {L M:List Slot}{i:Nat}(h:Gr L M i)(hf:∀ s∈L,s.full):∀ t∈M,t.z.oneCell'=true∨t.z=t.u:=fun t ht=>by
 obtain ⟨s,hs,h1 | h1⟩:=gr_mem h ht
 ·exact .inr h1.z
 ·subst h1; exact .inl (hf t hs).z1
theorem bk_app {vr v':Value}{M:List Slot}{B i k:Nat}{s:Slot}{u:Value}{cs:List Value}{w:World}(hf:s.full)(hi:M[i]?=some (s.ext u k))(h:(BkA vr M).p B cs w) :
  w.ownsRow B U32 1 u (s.xs.length+k) ((List.replicate (s.xs.length+k) (mkN s.n)).map lv)∧∀ v' w' ds,ds=[lv (mkN s.n)]→w'.ownsRow B U32 1 v' (s.xs.length+k+1) ((List.replicate (s.xs.length+k) (mkN s.n)).map lv++ds)→w.grownBy w' u.ownBlock→(v'.ownBlock=u.ownBlock∨(v'.ownBlock=some w.heap.size∧w.grownBy w' none))→(BkA vr (M.set i (s.ext v' (k+1)))).p B cs w':=by
 have hlen:(List.replicate (s.xs.length+k) (mkN s.n)).length=s.xs.length+k:=List.length_replicate
 obtain ⟨c0,h0⟩:=zml h
 refine ⟨?_,fun v' w' ds hds hown hg hb=>?_⟩
 ·have:=(h0.2.2.1 _ (List.mem_of_getElem? hi)).1
  have e:(s.ext u k).ys.length=s.xs.length+k:=hlen
  rw [e] at this
  exact this
 ·subst hds
  refine zx8 h (fun c hc=>?_) (by rw [List.length_set])
  have:=hb_app (v':=v') (m:=mkN s.n) hc hi (by show World.ownsRow w' B U32 1 v' ((List.replicate (s.xs.length+k) (mkN s.n)).length+1) _; rw [hlen]; exact hown) hg hb fun _=>by
   show s.xs <+: List.replicate (s.xs.length+k) (mkN s.n)
   rw [hf.xm,List.length_replicate]
   exact ⟨List.replicate k (mkN s.n),List.replicate_append_replicate⟩
  have e:({ s.ext u k with u:=v',ys:=(s.ext u k).ys++[mkN s.n] }:Slot)=s.ext v' (k+1):=by
   show Slot.mk s.v s.xs v' (List.replicate (s.xs.length+k) (mkN s.n)++[mkN s.n]) s.z s.n=Slot.mk s.v s.xs v' (List.replicate (s.xs.length+(k+1)) (mkN s.n)) s.z s.n
   rw [← List.replicate_succ',Nat.add_assoc]
  rw [e] at this
  exact this
theorem bk_put {vr z:Value}{M:List Slot}{B i g cap:Nat}{s:Slot}{cs:List Value}{w:World}(hi:M[i]?=some s)(hvr:vr=.slice (some ⟨g,0,none⟩) M.length cap)(h:(BkA vr M).p B cs w) :
  B≤g∧∃ c:Array Value,w.heap[g]?=some (Obj.cells c 171 (0,0))∧i*3+1<c.size∧(BkA vr (M.set i { s with z:=z })).p B cs (w.setRow g (c.setIfInBounds (i*3+1) z)):=by
 obtain ⟨c0,h0⟩:=zml h
 obtain ⟨h2,c,h3,h4,h5⟩:=hb_put z h0 hi hvr
 refine ⟨h2,c,h3,h4,zx8 h (fun c1 h6=>?_) (by rw [List.length_set])⟩
 obtain ⟨_,c',h7,_,h8⟩:=hb_put z h6 hi hvr
 rw [h3] at h7
 injection h7 with h7
 injection h7 with h7
 subst h7
 exact h8
theorem RowV.cell {v:Value}{n:Nat}(h:RowV v n):v.cells = #[v]:=by
 rcases h with ⟨rfl,_⟩ | ⟨g,cap,rfl,_⟩ <;> rfl
def GkA (vr:Value)(L:List Slot):As where
 n:=17
 ag:=true
 p B cs w:=∃ M,Gr L M L.length∧(BkA vr M).p B cs w
 deps:=[171,U32]
 len:=fun B cs w ⟨M,_,h⟩=>(BkA vr M).len B cs w h
 one:=fun B cs w ⟨M,_,h⟩=>(BkA vr M).one B cs w h
 ag1:=fun h=>by cases h
 cg:=fun B cs w w' hg ⟨M,h1,h⟩=>⟨M,h1,(BkA vr M).cg B cs w w' hg h⟩
 wr:=fun B cs w w' g c T fz h1 h2 h3 h4 ⟨M,h5,h⟩=>⟨M,h5,(BkA vr M).wr B cs w w' g c T fz h1 h2 h3 h4 h⟩
theorem gk_of {vr:Value}{L M:List Slot}(h:Gr L M L.length):WkA (BkA vr M) (GkA vr L):=⟨rfl,rfl,fun B cs w hp=>⟨M,h,hp⟩⟩
theorem okm {n:Nat}(h:n≤1000000):okL [mkN n]:=fun y hy=>by
 have:y=mkN n:=by simpa using hy
 subst this
 unfold mkN
 omega
theorem wk_mag {l:List Nat}:Wk (MgA l).va (SlA U32 [] (l.map fun (x:Nat)=>NumA .u32 (x:Int))).va:=fun _ _ _ h=>(zev h).2
theorem zu1 {M:List Slot}{i:Nat}{x y:Slot}:(M.set i x).set i y=M.set i y:=by simp
theorem zy2 {M:List Slot}{i:Nat}{x:Slot}(h:M[i]?=some x):M.set i x=M:=by
 obtain ⟨h1,h2⟩:=List.getElem?_eq_some_iff.1 h
 subst h2
 simp
theorem grow_c (vr:Value)(L:List Slot)(hfull:∀ s∈L,s.full)(hl:L.length≤1000000):CK Tryz.prog 123 59 [59,171,168] (BkA vr L) (GkA vr L) [] (Tu []):=by
 obtain ⟨it0,z0,hi0,hz0,hs0,hb0',hc0⟩:=app_u32S
 refine CK.intro Tryz.func123 rfl zk nq zk (fun B g w0 a hrm hst=>?_)
 have hst:St B w0 42 [(0,EqV ((ptrH).f g)),] [⟨0,59,ptrH,BkA vr L⟩] a w0.w:=hst
 refine wp_seq ?_
 refine gl (sts:=[none]) (news:=[]) (sp:=[.val 2 _]) [.g 0,.o 0] hst (zv rfl (za1 za3) o0) (fun a w hst=>?_)
 have hst:St B w0 42 [(0,_),(2,_)] [⟨0,59,ptrH,_⟩] a w:=hst
 refine za0 ?_
 refine wp_block ?_
 have hst:=St.sel hst [0,1]
 refine wp_loop_ghost (fun n a w=>∃ (i:Nat) (M:List Slot),(n+i=L.length∧Gr L M i)∧St B w0 42 [(0,EqV (ptrH.f g)),(2,In (i:Nat))] [⟨0,59,ptrH,BkA vr M⟩] a w) (L.length) ?_ ?_
 ·exact ⟨0,L,⟨by omega,gr_0⟩,hst⟩
 intro n a w hI
 obtain ⟨i,M,⟨hn,hG⟩,hst⟩:=hI
 have h1M:=bk_one hst 0 rfl (gr_z hG hfull)
 refine wp_seq ?_
 refine wp_seq ?_
 refine gl (sts:=[none]) (news:=[]) (sp:=[.val 6 _,.adr 7 0 (.some 0) True,.adr 8 0 (.some 0) True,.adr 9 0 (.some (0+1)) True,.val 10 _,.val 11 _,.val 12 _]) [.g 0,.g 1,.o 6] hst (zv rfl (za2 (gq 1 rfl)) (oc (ob_a rfl rfl (zcq (lz0 0 rfl))) (oc (ob_a rfl rfl (zek 1 rfl zk (lz0 0 rfl))) (oc (ob_a rfl rfl (zel 2 rfl zk trivial (lz0 0 rfl) ze6)) (zv rfl (za4 3 rfl zk trivial (lz0 0 rfl) (Sub.part 1 rfl rfl) zka) (zv rfl (zc7 Tryz.underlying42 (has_wk' (vq 4 rfl) (zql h1M))) (zv rfl (zba (vq 0 rfl) (vq 5 rfl)) o0))))))) (fun a w hst=>?_)
 have hst:St B w0 42 [(0,_),(2,_),(12,_)] [⟨0,59,ptrH,_⟩] a w:=hst
 refine za0 ?_
 refine za8 hst (zm 2 rfl) (fun hb0=>?_) (fun hb0=>?_)
 ·have hi:i<L.length:=by have:=hG.1; simpa [this] using hb0
  obtain ⟨s,hs⟩:∃ s,L[i]?=some s:=⟨_,List.getElem?_eq_getElem hi⟩
  have hf:=hfull s (List.mem_of_getElem? hs)
  have hn1:=hf.n1
  have hMi:=gr_at hG hs
  have hMlt:i<M.length:=by rw [hG.1]; exact hi
  refine wp_skip ?_
  refine zt ?_
  refine wp_block ?_
  refine wp_seq ?_
  refine zch (sp:=[.adr 15 0 (.some 0) True,.adr 16 0 (.some 0) True,.adr 17 0 (.some (0+1)) True,.val 18 _,.val 19 _,.val 20 _,.val 21 _,.val 3 VT,.sto 0]) 7 2 0 8 OneC [.g 0,.g 1,.o 6] hst (oc (ob_a rfl rfl (zcq (lz0 0 rfl))) (oc (ob_a rfl rfl (zek 0 rfl zk (lz0 0 rfl))) (oc (ob_a rfl rfl (zel 1 rfl zk trivial (lz0 0 rfl) ze6)) (zv rfl (za4 2 rfl zk trivial (lz0 0 rfl) (Sub.part 1 rfl rfl) zka) (zv rfl (za2 (gq 1 rfl)) (zv rfl (zhb (m:=3) ⟨Tryz.underlying42,by kernel_rfl⟩ zt2 (has_wk' (vq 3 rfl) (zql h1M)) (vq 4 rfl) (zo9 hMi)) (zv rfl (zae (vq 5 rfl) zkh) o0))))))) rfl zd zk zk (fun a w hst=>?_)
  have hst:St B w0 42 [(0,_),(2,_),(21,_)] [⟨0,59,ptrH,_⟩] a w:=hst
  rw [show List.range' 7 2=[7,8] from rfl]
  refine zor (A:=s.view) 2 [0,1] rfl rfl hst (Str.zero ziu) rfl zkh rfl zd rfl zk zk (fun a w hst=>?_)
  refine zc5 ?_
  have hst:St B w0 42 [(0,_),(2,_)] [⟨0,59,ptrH,_⟩,⟨3,171,ptrH,_⟩] a w:=hst
  refine zt<|gl (sts:=[none,none]) (news:=[]) (sp:=[.adr 22 3 (.some 0) True,.val 23 _,.val 4 _]) [.g 0,.g 1,.o 2] hst (oc (ob_a rfl rfl (zaa (lz0 1 rfl) zf6)) (zv rfl (za4 0 rfl zk trivial (lz0 1 rfl) (Sub.part 0 rfl rfl) zbg) (zv rfl (za1 (vq 1 rfl)) o0))) (fun a w hst=>?_)
  have hst:St B w0 42 [(0,_),(2,_),(4,_)] [⟨0,59,ptrH,_⟩,⟨3,171,ptrH,_⟩] a w:=hst
  refine zt ?_
  refine wp_seq ?_
  refine gl (sts:=[none,none]) (news:=[]) (sp:=[.val 5 _]) [.g 0,.g 1,.g 2,.o 0] hst (zv rfl (za1 za3) o0) (fun a w hst=>?_)
  have hst:St B w0 42 [(0,_),(2,_),(4,_),(5,_)] [⟨0,59,ptrH,_⟩,⟨3,171,ptrH,_⟩] a w:=hst
  refine za0 ?_
  refine wp_block ?_
  have hst:=St.sel hst [0,1,2,3]
  refine wp_loop_ghost (fun n a w=>∃ (k:Nat) (u:Value),n+k=70∧St B w0 42 [(0,EqV (ptrH.f g)),(2,In (i:Nat)),(4,EqV u),(5,In (k:Nat))] [⟨0,59,ptrH,BkA vr (M.set i (s.ext u k))⟩,⟨3,171,ptrH,s.view⟩] a w) (70) ?_ ?_
  ·have hst:=St.cvA (A':=BkA vr (M.set i (s.ext s.v 0))) hst 0 rfl (show BkA vr M=_ by rw [ext_0 hf,zy2 hMi]); have hst:=St.wkG hst 2 rfl zsz; exact ⟨0,s.v,by omega,hst⟩
  intro n a w hI
  obtain ⟨k,u,hn2,hst⟩:=hI
  refine wp_seq ?_
  refine wp_seq ?_
  refine gl (sts:=[none,none]) (news:=[]) (sp:=[.val 24 _,.val 25 _]) [.g 0,.g 1,.g 2,.g 3,.o 1] hst (zv rfl (za2 (gq 3 rfl)) (zv rfl (zba (vq 0 rfl) za3) o0)) (fun a w hst=>?_)
  have hst:St B w0 42 [(0,_),(2,_),(4,_),(5,_),(25,_)] [⟨0,59,ptrH,_⟩,⟨3,171,ptrH,_⟩] a w:=hst
  refine za0 ?_
  refine za8 hst (zm 4 rfl) (fun hb1=>?_) (fun hb1=>?_)
  ·have hk:k<70:=by have:=hb1; simp at this; omega
   refine wp_skip ?_
   refine zt ?_
   refine wp_block ?_
   refine zch (sp:=[.val 28 _,.adr 29 3 (.some 2) True,.val 30 _,.val 31 _,.val 32 _,.val 33 VT,.val 4 VT]) 5 2 99 9 OneC [.g 0,.g 1,.g 3,.o 0,.o 4] hst (zv rfl (za2 (gq 2 rfl)) (oc (ob_a rfl rfl (zaa (lz0 1 rfl) zhq)) (zv rfl (za4 1 rfl zk trivial (lz0 1 rfl) (Sub.part 2 rfl rfl) ty_3) (zv rfl (za5 (xs:=[.tmp 30]) (mark_c _ hn1) (.cons (vq 2 rfl) .nil)) (zv rfl (ze5 (l:=[_]) (xs:=[.tmp 31]) zbi zk nq nq (okm hn1) (.cons (vq 3 rfl) .nil) rfl rfl) o0))))) rfl zd zk zk (fun a w hst=>?_)
   have hst:St B w0 42 [(0,_),(2,_),(5,_),(28,_),(32,_)] [⟨0,59,ptrH,_⟩,⟨3,171,ptrH,_⟩] a w:=hst
   rw [show List.range' 5 2=[5,6] from rfl]
   have hst:=St.wkG hst 4 rfl wk_mag
   rw [wpOps_cons]
   refine zot (A1:=fun v'=>BkA vr (M.set i (s.ext v' (k+1)))) (X:=NumA .u32 (mkN s.n:Nat)) (F:=fun ds=>ds=[lv (mkN s.n)]) [0,1,2] 3 4 0 rfl hst rfl rfl (fun ds h=>h) rfl rfl rfl (hrm _ zk) Tryz.underlying22 hi0 hz0 hs0 hb0' hc0 Nat.one_pos (n:=s.xs.length+k) (by have:=hf.lx; omega) (by have:=hf.lx; omega) zd zk zk zk zk (fun cs hp=>by have h:=bk_app (v':=undef) hf (by rw [List.getElem?_set_self hMlt]) hp; simp only [zu1] at h; exact h) (fun v' w hst=>?_)
   rw [wpOps_cons]
   refine op_asgS 0 rfl hst rfl zd zk zk (fun a hst=>?_)
   refine zc5 ?_
   have hst:St B w0 42 [(4,_),(33,_),(0,_),(2,_),(5,_)] [⟨0,59,ptrH,BkA vr (M.set i (s.ext v' (k+1)))⟩,⟨3,171,ptrH,_⟩] a w:=hst
   refine zat ?_
   refine za0 ?_
   refine gl (sts:=[none,none]) (news:=[]) (sp:=[.val 26 _,.val 27 _,.val 5 _]) [.g 0,.g 2,.g 3,.o 2] hst (zv rfl (za2 (gq 4 rfl)) (zv rfl (zbl (vq 0 rfl) za3 (zbo zo)) (zv rfl (za1 (vq 1 rfl)) o0))) (fun a w hst=>?_)
   have hst:St B w0 42 [(4,_),(0,_),(2,_),(5,_)] [⟨0,59,ptrH,_⟩,⟨3,171,ptrH,_⟩] a w:=hst
   refine za0 ?_
   have hst:=St.sel hst [1,2,0,3]
   exact ⟨n-1,by omega,k+1,v',by omega,hst⟩
  ·have hk:k=70:=by simp at hb1; omega
   subst hk
   have hu:=((zpi hst 0 rfl).2 _ (List.mem_set hMlt _)).1
   have hu1:=hu.one
   have hu2:u.cells = #[u]:=hu.cell
   refine wp_exit ?_
   refine za6 ?_
   refine za6 ?_
   refine zaj ?_
   refine za0 ?_
   refine zch (sp:=[.adr 34 0 (.some 0) True,.adr 35 0 (.some 0) True,.adr 36 0 (.some (0+1)) True,.val 37 _,.val 38 _,.val 39 _,.val 40 VT,.val 41 VT,.sto 0]) 6 3 0 8 OneC [.g 0,.g 1,.o 3,.o 4,.o 5] hst (oc (ob_a rfl rfl (zcq (lz0 0 rfl))) (oc (ob_a rfl rfl (zek 0 rfl zk (lz0 0 rfl))) (oc (ob_a rfl rfl (zel 1 rfl zk trivial (lz0 0 rfl) ze6)) (zv rfl (za4 2 rfl zk trivial (lz0 0 rfl) (Sub.part 1 rfl rfl) zka) (zv rfl (za2 (gq 1 rfl)) (zv rfl (za2 (gq 2 rfl)) o0)))))) rfl zd zk zk (fun a w hst=>?_)
   have hst:St B w0 42 [(0,_),(2,_),(37,_),(38,_),(39,_)] [⟨0,59,ptrH,_⟩,⟨3,171,ptrH,_⟩] a w:=hst
   rw [show List.range' 6 3=[6,7,8] from rfl]
   have hst:=St.selL hst [0]
   have hst:=St.wkG hst 2 rfl hb_eq
   have hvr:=(zpi hst 0 rfl).1
   obtain ⟨g1,cap1,hv1⟩:=hvr.row (show i<_ by rw [List.length_set,hG.1]; exact hi)
   have hst:=St.cvG hst 2 rfl (congrArg EqV hv1)
   rw [wpOps_cons]
   refine zvb (m:=3) (k:=i) 2 3 rfl hst ⟨Tryz.underlying42,by kernel_rfl⟩ zd rfl rfl (by rw [List.length_set,hG.1]; exact hi) zd zk zk (fun a hst=>?_)
   rw [wpOps_cons]
   refine zos 0 rfl hst zhr rfl zd zk zk (fun a hst=>?_)
   rw [wpOps_cons]
   refine zv9 (A1:=BkA vr ((M.set i (s.ext u 70)).set i { s.ext u 70 with z:=u })) [2,3] 0 6 0 rfl hst rfl rfl hu1 hu2 zbg rfl zd (hrm _ zk) zk zk (fun cs hp=>bk_put (by rw [List.getElem?_set_self hMlt]) hv1 hp) (fun w hst=>?_)
   refine zh2 ?_
   have hst:St B w0 42 [(0,_),(2,_)] [⟨0,59,ptrH,_⟩] a w:=hst
   refine zat ?_
   refine za0 ?_
   refine gl (sts:=[none]) (news:=[]) (sp:=[.val 13 _,.val 14 _,.val 2 _]) [.g 0,.o 2] hst (zv rfl (za2 (gq 1 rfl)) (zv rfl (zbl (vq 0 rfl) za3 (zbo zo)) (zv rfl (za1 (vq 1 rfl)) o0))) (fun a w hst=>?_)
   have hst:St B w0 42 [(0,_),(2,_)] [⟨0,59,ptrH,_⟩] a w:=hst
   refine za0 ?_
   have hst:=St.sel hst [0,1]
   exact ⟨L.length-(i+1),by omega,i+1,_,⟨by omega,gr_next hG hs⟩,(zu1 (M:=M) (i:=i))▸hst⟩
 ·have hi:i=L.length:=by have:=hG.1; simp [this] at hb0; omega
  subst hi
  have hst:=St.wkL (A':=GkA vr L) hst 0 rfl (gk_of hG)
  refine wp_exit ?_
  refine za6 ?_
  refine za6 ?_
  refine zaj ?_
  refine zbm ?_
  refine zf3 hst (zm 0 rfl) (zm 0 rfl) ?_
  exact zaq (rs:=[]) rfl hst .nil zd
end Go.Proofs.YthncfchnkjemiaaGreatDoor
namespace Go.Proofs.YthncfchnkjemiaaGreatDoor
open Go Go.RowKit
structure Slot.done (t:Slot):Prop where
 zu:t.z=t.u
 xm:t.xs=List.replicate t.xs.length (mkN t.n)
 ym:t.ys=List.replicate (t.xs.length+70) (mkN t.n)
 n1:t.n≤1000000
 lx:t.xs.length≤2000000000000
theorem gr_done {L M:List Slot}(h:Gr L M L.length)(hf:∀ s∈L,s.full):∀ t∈M,t.done:=fun t ht=>by
 obtain ⟨j,hj⟩:=List.getElem?_of_mem ht
 have hlt:=(List.getElem?_eq_some_iff.1 hj).1
 rw [h.1] at hlt
 obtain ⟨t',h1,h2,_⟩:=h.2 j _ (List.getElem?_eq_getElem hlt)
 rw [hj] at h1
 injection h1 with h1
 subst h1
 have hG:=h2 hlt
 have hs:=hf _ (List.getElem_mem hlt)
 refine ⟨hG.z,?_,?_,?_,?_⟩
 ·rw [hG.xs,hG.n]; exact hs.xm
 ·rw [hG.xs,hG.n]; exact hG.ys
 ·rw [hG.n]; exact hs.n1
 ·rw [hG.xs]; exact hs.lx
theorem zmg {t:Slot}(h:t.done):t.ys.length=t.xs.length+70:=by rw [h.ym,List.length_replicate]
theorem zws {t:Slot}(h:t.done):okL t.xs:=h.xm▸mk_ok h.n1
theorem zwr {t:Slot}(h:t.done):okL t.ys:=h.ym▸mk_ok h.n1
theorem done_xk {t:Slot}(h:t.done){k:Nat}(hk:k<t.xs.length):t.xs[k]=mkN t.n:=by
 have h1:=h.xm
 have h2:t.xs[k]?=(List.replicate t.xs.length (mkN t.n))[k]?:=congrArg (fun l=>l[k]?) h1
 rw [List.getElem?_eq_getElem hk,List.getElem?_replicate,if_pos hk] at h2
 injection h2
theorem done_yk {t:Slot}(h:t.done){k:Nat}(hk:k<t.ys.length):t.ys[k]=mkN t.n:=by
 have h2:t.ys[k]?=(List.replicate (t.xs.length+70) (mkN t.n))[k]?:=congrArg (fun l=>l[k]?) h.ym
 rw [List.getElem?_eq_getElem hk,List.getElem?_replicate,if_pos (by rw [← zmg h]; exact hk)] at h2
 injection h2
theorem look_no {t:Slot}(h:t.done){k:Nat}(hk:k<t.ys.length):((!(((t.ys[k]:Nat):Int)==((mkN t.n:Nat):Int))) || (decide ((k:Int)<(t.xs.length:Int))&&(!(((t.xs.getD k 0:Nat):Int)==((mkN t.n:Nat):Int)))))=false:=by
 rw [done_yk h hk,beq_self_eq_true,Bool.not_true,Bool.false_or]
 by_cases h2:k<t.xs.length
 ·rw [List.getD_eq_getElem?_getD,List.getElem?_eq_getElem h2,Option.getD_some,done_xk h h2,beq_self_eq_true,Bool.not_true,Bool.and_false]
 ·rw [decide_eq_false zo,Bool.false_and]
theorem bk_oneE {vr:Value}{M:List Slot}{B N:Nat}{w0:Bs}{Γ:List (Nat × VA)}{Λ:List Lc}{a:Act}{w:World}{s:Nat}{T:TypeId}(h:St B w0 N Γ Λ a w)(k:Nat)(hm:Γ[k]?=some (s,ElP T (BkA vr M)))(hz:∀ t∈M,t.z=t.u):One1 M:=fun t ht=>by
 obtain ⟨b,o,cs,_,_,_,hp,_⟩:=h.vals _ (List.mem_of_getElem? hm)
 obtain ⟨c,h1,h2,h3,_⟩:=zml hp
 refine ⟨(h3 t ht).2.1.one,?_⟩
 rw [hz t ht]
 exact (zgj (h3 t ht).1).1
section
open Rg
variable {P:Program} {Q:Exit→Act→World→Prop} {B N:Nat} {w0:Bs} {Γ:List (Nat × VA)} {Λ:List Lc} {a:Act} {w:World}
def lesA (Λ:List Lc)(d n:Nat):List Le:=(Λ.map fun l=>⟨l.s,l.T,l.H,none,l.A,none⟩)++[⟨d,999999,ptrH,some n,OneC,some (n+1,OneC)⟩]
theorem go_headA {id:Nat}{ops:Array Oper}{sp:List Sp}(n m d:Nat)(src:List Src)
  (h:St B w0 N Γ Λ a w) (hob:Obs P Q ⟨ops,N,Γ,lesA Λ d n,sp,fun i=>List.range i⟩ B w0 0 n) (hsz:ops.size=n+m) (hk:Rg.chk ⟨ops,N,Γ,lesA Λ d n,sp,fun i=>List.range i⟩=true)
  (hsrc:src.all (fun s=>match s with | .g k=>(match Γ[k]? with | some x=>Rg.outG ⟨ops,N,Γ,lesA Λ d n,sp,fun i=>List.range i⟩ x.1 | none=>false) | .o i=>decide (i<n))=true)
  (hQ:∀ a' w',St B w0 N (src.filterMap (takeS ⟨ops,N,Γ,lesA Λ d n,sp,fun i=>List.range i⟩)) Λ a' w'→wpOps P ops Q (List.range' n m) a' w'):(Code.region id ops false).wp P Q a w:=by
 refine Rg.linK (R:=⟨ops,N,Γ,lesA Λ d n,sp,fun i=>List.range i⟩) (m:=m) hsz rfl hk h (fun y hy hcr=>?_) (fun i hi=>hob.all i zo zo) fun a1 w1 hinv=>?_
 ·rcases List.mem_append.1 hy with hy | hy
  ·obtain ⟨l,hl,rfl⟩:=List.mem_map.1 hy
   exact hl
  ·obtain rfl:=List.mem_singleton.1 hy
   cases hcr
 ·exact hQ a1 w1 (zlz (fun l' hl'=>⟨none,List.mem_append.2 (.inl (List.mem_map.2 ⟨l',hl',rfl⟩))⟩) (fun y hy i A' h1=>by
   rcases List.mem_append.1 hy with hy | hy
   ·obtain ⟨l,hl,rfl⟩:=List.mem_map.1 hy
    cases h1
   ·obtain rfl:=List.mem_singleton.1 hy
    injection h1 with h1
    injection h1 with h1 _
    omega) hinv src hsrc)
end
section
open Rg
variable {P:Program} {Q:Exit→Act→World→Prop} {R:Rg} {B i:Nat} {w0:Bs}
theorem zp0 {x y:Operand}{vr:Value}{L:List Slot}{s:Slot}{T:TypeId}(hx:Has R B w0 i x (EqS s.v).va)(hl:Has R B w0 i y (ElP T (BkA vr L)))(hs:s∈L)(ok:okL s.xs):Has R B w0 i x (MgA s.xs).va:=fun a w av=>by
 obtain ⟨b,o,cs,_,_,_,h,_⟩:=hl a w av
 obtain ⟨c,h⟩:=zml h
 rw [zqw (hx a w av)]
 exact zug (h.2.2.1 s hs).2 ok
theorem zp1 {x y:Operand}{vr:Value}{L:List Slot}{s:Slot}{T:TypeId}(hx:Has R B w0 i x (EqS s.z).va)(hz:s.z=s.u)(hl:Has R B w0 i y (ElP T (BkA vr L)))(hs:s∈L)(ok:okL s.ys):Has R B w0 i x (MgA s.ys).va:=fun a w av=>by
 obtain ⟨b,o,cs,_,_,_,h,_⟩:=hl a w av
 obtain ⟨c,h⟩:=zml h
 rw [zqw (hx a w av),hz]
 exact zug (zv4 (h.2.2.1 s hs).1) ok
theorem zbu {x:Operand}{E:TypeId}{A:As}(hx:Has R B w0 i x (ElP E A)):Wv P Q R B w0 i (.nilCheck x) (ElP E A) :=
 zbx fun d T ps af gd a w av=>by
  have h:=hx a w av
  obtain ⟨b,o,cs,hv,_⟩:=h
  exact ⟨a.eval x,w,by simp [execOp,hv],Grow.refl w,hx a w av⟩
end
theorem wk_70 {n:Nat}(h:n≤2000000000000):IntKind.i64.wrap ((n:Int)+70)=((n+70:Nat):Int):=by rw [wi64 zo zo]; rfl
theorem look_c (vr:Value)(M:List Slot)(hdone:∀ t∈M,t.done)(hl:M.length≤1000000):Cn Tryz.prog 139 [ElP 59 (BkA vr M)] (Bo true):=by
 refine Cn.intro Tryz.func139 rfl zk nq (fun B w0 a hst=>?_)
 have hst:St B w0 64 [(0,ElP 59 (BkA vr M))] [] a w0.w:=hst
 have h1M:=bk_oneE hst 0 rfl (fun t ht=>(hdone t ht).zu)
 refine wp_seq ?_
 refine gl (sts:=[]) (news:=[]) (sp:=[.val 2 _]) [.g 0,.o 0] hst (zv rfl (za1 zb7) o0) (fun a w hst=>?_)
 have hst:St B w0 64 [(0,_),(2,_)] [] a w:=hst
 refine zt ?_
 refine wp_seq ?_
 refine gl (sts:=[]) (news:=[]) (sp:=[.val 3 _]) [.g 0,.g 1,.o 0] hst (zv rfl (za1 za3) o0) (fun a w hst=>?_)
 have hst:St B w0 64 [(0,_),(2,_),(3,_)] [] a w:=hst
 refine za0 ?_
 refine wp_block ?_
 have hst:=St.sel hst [0,2]
 refine wp_loop_ghost (fun n a w=>∃ (i:Nat),n+i=M.length∧St B w0 64 [(0,ElP 59 (BkA vr M)),(3,In (i:Nat))] [] a w) (M.length) ?_ ?_
 ·exact ⟨0,by omega,hst⟩
 intro n a w hI
 obtain ⟨i,hn,hst⟩:=hI
 refine wp_seq ?_
 refine wp_seq ?_
 refine gl (sts:=[]) (news:=[]) (sp:=[.val 6 _,.val 7 _,.val 8 _,.val 9 _,.val 10 _,.val 11 _,.val 12 _]) [.g 0,.g 1,.o 6] hst (zv rfl (za2 (gq 1 rfl)) (zv rfl (za2 (gq 0 rfl)) (zv rfl (zbu (vq 1 rfl)) (zv rfl (zau (vq 2 rfl) ze6 (Sub.part 1 rfl rfl)) (zv rfl (zae (vq 3 rfl) zka) (zv rfl (zc7 Tryz.underlying42 (has_wk' (vq 4 rfl) (zql h1M))) (zv rfl (zba (vq 0 rfl) (vq 5 rfl)) o0))))))) (fun a w hst=>?_)
 have hst:St B w0 64 [(0,_),(3,_),(12,_)] [] a w:=hst
 refine za0 ?_
 refine za8 hst (zm 2 rfl) (fun hb0=>?_) (fun hb0=>?_)
 ·have hi:i<M.length:=by have:=hb0; simp at this; omega
  obtain ⟨t,ht⟩:∃ t,M[i]?=some t:=⟨_,List.getElem?_eq_getElem hi⟩
  have hmem:=List.mem_of_getElem? ht
  have hd:=hdone t hmem
  refine wp_skip ?_
  refine zt ?_
  refine wp_block ?_
  refine wp_seq ?_
  refine go_headA (sp:=[.val 15 _,.val 16 _,.val 17 _,.val 18 _,.val 19 _,.val 20 _,.val 21 _,.alc 0,.sto 0]) 7 2 4 [.g 0,.g 1,.o 6] hst (zv rfl (za2 (gq 0 rfl)) (zv rfl (zbu (vq 0 rfl)) (zv rfl (zau (vq 1 rfl) ze6 (Sub.part 1 rfl rfl)) (zv rfl (zae (vq 2 rfl) zka) (zv rfl (za2 (gq 1 rfl)) (zv rfl (zhb (m:=3) ⟨Tryz.underlying42,by kernel_rfl⟩ zt2 (has_wk' (vq 3 rfl) (zql h1M)) (vq 4 rfl) (zo9 ht)) (zv rfl (zae (vq 5 rfl) zkh) o0))))))) rfl zk zk (fun a w hst=>?_)
  have hst:St B w0 64 [(0,_),(3,_),(21,_)] [] a w:=hst
  rw [show List.range' 7 2=[7,8] from rfl]
  refine zor (A:=t.view) 2 [0,1] rfl rfl hst (Str.zero ziu) rfl zkh rfl zd rfl zk zk (fun a w hst=>?_)
  refine zc5 ?_
  have hst:St B w0 64 [(0,_),(3,_)] [⟨4,171,ptrH,_⟩] a w:=hst
  refine zt ?_
  refine wp_seq ?_
  refine gl (sts:=[none]) (news:=[]) (sp:=[.adr 22 4 (.some 1) True,.val 23 _,.val 24 _,.adr 25 4 (.some 0) True,.val 26 _,.val 27 _,.val 28 _,.val 29 _]) [.g 0,.g 1,.o 7] hst (oc (ob_a rfl rfl (zaa (lz0 0 rfl) zhr)) (zv rfl (za4 0 rfl zk trivial (lz0 0 rfl) (Sub.part 1 rfl rfl) zbg) (zv rfl (zaz Tryz.underlying22 (zp1 (vq 1 rfl) hd.zu (gq 0 rfl) hmem (zwr hd))) (oc (ob_a rfl rfl (zaa (lz0 0 rfl) zf6)) (zv rfl (za4 3 rfl zk trivial (lz0 0 rfl) (Sub.part 0 rfl rfl) zbg) (zv rfl (zaz Tryz.underlying22 (zp0 (vq 4 rfl) (gq 0 rfl) hmem (zws hd))) (zv rfl (zbl (vq 5 rfl) za3 (wk_70 hd.lx)) (zv rfl (zd8 (vq 2 rfl) (vq 6 rfl)) o0)))))))) (fun a w hst=>?_)
  have hst:St B w0 64 [(0,_),(3,_),(29,_)] [⟨4,171,ptrH,_⟩] a w:=hst
  refine za0 ?_
  refine za8 hst (zm 2 rfl) (fun hb1=>?_) (fun hb1=>?_)
  ·exact absurd hb1 (by rw [zmg hd]; simp)
  ·refine wp_skip ?_
   refine zt<|gl (sts:=[none]) (news:=[]) (sp:=[.val 5 _]) [.g 0,.g 1,.o 0] hst (zv rfl (za1 za3) o0) (fun a w hst=>?_)
   have hst:St B w0 64 [(0,_),(3,_),(5,_)] [⟨4,171,ptrH,_⟩] a w:=hst
   refine za0 ?_
   refine wp_block ?_
   have hst:=St.sel hst [0,1,2]
   refine wp_loop_ghost (fun n a w=>∃ (k:Nat),n+k=t.ys.length∧St B w0 64 [(0,ElP 59 (BkA vr M)),(3,In (i:Nat)),(5,In (k:Nat))] [⟨4,171,ptrH,t.view⟩] a w) (t.ys.length) ?_ ?_
   ·exact ⟨0,by omega,hst⟩
   intro n a w hI
   obtain ⟨k,hn2,hst⟩:=hI
   refine wp_seq ?_
   refine wp_seq ?_
   refine gl (sts:=[none]) (news:=[]) (sp:=[.val 30 _,.adr 31 4 (.some 1) True,.val 32 _,.val 33 _,.val 34 _]) [.g 0,.g 1,.g 2,.o 4] hst (zv rfl (za2 (gq 2 rfl)) (oc (ob_a rfl rfl (zaa (lz0 0 rfl) zhr)) (zv rfl (za4 1 rfl zk trivial (lz0 0 rfl) (Sub.part 1 rfl rfl) zbg) (zv rfl (zaz Tryz.underlying22 (zp1 (vq 2 rfl) hd.zu (gq 0 rfl) hmem (zwr hd))) (zv rfl (zba (vq 0 rfl) (vq 3 rfl)) o0))))) (fun a w hst=>?_)
   have hst:St B w0 64 [(0,_),(3,_),(5,_),(34,_)] [⟨4,171,ptrH,_⟩] a w:=hst
   refine za0 ?_
   refine za8 hst (zm 3 rfl) (fun hb2=>?_) (fun hb2=>?_)
   ·have hk:k<t.ys.length:=by have:=hb2; simp at this; omega
    refine wp_skip ?_
    refine zt ?_
    refine wp_block ?_
    refine wp_seq ?_
    refine zay (anc:=[[],[0],[],[0,1,2],[0,1,2,3],[],[5],[0,1,2,3,4,5,6],[0,1,2,3,4,5,6,7],[0,1,2,3,4,5,6,7,8],[0,1,2,3,4,5,6,7,8,9],[0,1,2,3,4,5,6,7,8,9],[0,1,2,3,4,5,6,7,8,9,11],[0,1,2,3,4,5,6,7,8,9,11,12],[0,1,2,3,4,5,6,7,8,9,10,11,12,13],[0,1,2,3,4,5,6,7,8,9,10,11,12,13,14],[0,1,2,3,4,5,6,7,8,9,10,11,12,13,14,15],[0,1,2,3,4,5,6,7,8,9,10,11,12,13,14,15,16],[0,1,2,3,4,5,6,7,8,9,10,11,12,13,14,15],[0,1,2,3,4,5,6,7,8,9,10,11,12,13,14,15,16,17,18],[0,1,2,3,4,5,6,7,8,9,10,11,12,13,14,15,16,17,18,19],[0,1,2,3,4,5,6,7,8,9,10,11,12,13,14,15],[0,1,2,3,4,5,6,7,8,9,10,11,12,13,14,15,21],[0,1,2,3,4,5,6,7,8,9,10,11,12,13,14,15,16,17,18,19,20,21,22],[0,1,2,3,4,5,6,7,8,9,10,11,12,13,14,15,16,17,18,19,20,21,22,23],[0,1,2,3,4,5,6,7,8,9,10,11,12,13,14,15,16,17,18,19,20,21,22,23,24],[0,1,2,3,4,5,6,7,8,9,10,11,12,13,14,15,16,17,18,19,20,21,22,23,24,25]]) (sts:=[none]) (news:=[]) (sp:=((.adr 37 4 (.some 1) True:Sp)::(.val 38 _)::(.val 39 _)::(.val 40 _)::(.val 41 _)::(.adr 42 4 (.some 2) True)::(.val 43 _)::(.val 44 _)::(.val 45 _)::(.val 46 _)::(.val 47 (Wh (_=false) _))::(.adr 48 4 (.some 0) (_=false))::(.val 49 (Wh (_=false) _))::(.val 50 (Wh (_=false) _))::(.val 51 (Wh (_=false) _))::(.val 52 (Wh (_=false) _))::(.adr 53 4 (.some 0) ((_=false)∧_=true))::(.val 54 (Wh ((_=false)∧_=true) _))::(.val 55 (Wh ((_=false)∧_=true) _))::(.val 56 (Wh ((_=false)∧_=true) _))::(.val 57 (Wh ((_=false)∧_=true) _))::(.adr 58 4 (.some 2) ((_=false)∧_=true))::(.val 59 (Wh ((_=false)∧_=true) _))::(.val 60 (Wh ((_=false)∧_=true) _))::(.val 61 (Wh ((_=false)∧_=true) _))::(.val 62 (Wh (_=false) _))::(.val 63 _)::[])) [.g 0,.g 1,.g 2,.o 26] za7 hst (oc (ob_a rfl rfl (zaa (lz0 0 rfl) zhr)) (zv rfl (za4 0 rfl zk trivial (lz0 0 rfl) (Sub.part 1 rfl rfl) zbg) (zv rfl (za2 (gq 2 rfl)) (zv rfl (zcb ⟨Tryz.underlying22,by kernel_rfl⟩ (zp1 (vq 1 rfl) hd.zu (gq 0 rfl) hmem (zwr hd)) (vq 2 rfl) hk) (zv rfl (zae (vq 3 rfl) zb3) (oc (ob_a rfl rfl (zaa (lz0 0 rfl) zhq)) (zv rfl (za4 5 rfl zk trivial (lz0 0 rfl) (Sub.part 2 rfl rfl) ty_3) (zv rfl (za5 (xs:=[.tmp 41,.tmp 43]) (zqj _ _ hd.n1) (.cons (vq 4 rfl) (.cons (vq 6 rfl) .nil))) (zv rfl (zem (vq 7 rfl)) (zv rfl (za2 (vq 8 rfl)) (oc (zad rfl rfl rfl (vq 9 rfl) nq (fun hg=>za2 (gq 2 rfl))) (oc (zci rfl rfl rfl (vq 9 rfl) nq (fun hg=>zaa (lz0 0 rfl) zf6)) (oc (zad rfl rfl rfl (vq 9 rfl) nq (fun hg=>za4 11 rfl zk hg (lz0 0 rfl) (Sub.part 0 rfl rfl) zbg)) (oc (zad rfl rfl rfl (vq 9 rfl) nq (fun hg=>zaz Tryz.underlying22 (zp0 (za9 (vq 12 rfl) hg) (gq 0 rfl) hmem (zws hd)))) (oc (zad rfl rfl rfl (vq 9 rfl) nq (fun hg=>zba (za9 (vq 10 rfl) hg) (za9 (vq 13 rfl) hg))) (oc (zad rfl rfl rfl (vq 9 rfl) nq (fun hg=>za2 (za9 (vq 14 rfl) hg))) (oc (zil rfl rfl rfl (vq 15 rfl) nq (fun hg=>zaa (lz0 0 rfl) zf6)) (oc (zd5 rfl rfl rfl (vq 15 rfl) nq (fun hg=>za4 16 rfl zk hg (lz0 0 rfl) (Sub.part 0 rfl rfl) zbg)) (oc (zd5 rfl rfl rfl (vq 15 rfl) nq (fun hg=>za2 (gq 2 rfl))) (oc (zd5 rfl rfl rfl (vq 15 rfl) nq (fun hg=>zli ⟨Tryz.underlying22,by kernel_rfl⟩ (zp0 (za9 (vq 17 rfl) hg) (gq 0 rfl) hmem (zws hd)) (za9 (vq 18 rfl) hg) (by have:=hg; simp at this; omega))) (oc (zd5 rfl rfl rfl (vq 15 rfl) nq (fun hg=>zae (za9 (vq 19 rfl) hg) zb3)) (oc (zil rfl rfl rfl (vq 15 rfl) nq (fun hg=>zaa (lz0 0 rfl) zhq)) (oc (zd5 rfl rfl rfl (vq 15 rfl) nq (fun hg=>za4 21 rfl zk hg (lz0 0 rfl) (Sub.part 2 rfl rfl) ty_3)) (oc (zd5 rfl rfl rfl (vq 15 rfl) nq (fun hg=>za5 (xs:=[.tmp 57,.tmp 59]) (zqj _ _ hd.n1) (.cons (za9 (vq 20 rfl) hg) (.cons (za9 (vq 22 rfl) hg) .nil)))) (oc (zd5 rfl rfl rfl (vq 15 rfl) nq (fun hg=>zem (za9 (vq 23 rfl) hg))) (oc (zad rfl rfl rfl (vq 9 rfl) nq (fun hg=>zcm (za9 (vq 15 rfl) hg) (zjp (vq 24 rfl) hg))) (zv rfl (r_or (vq 9 rfl) (vq 25 rfl)) o0))))))))))))))))))))))))))) zk zk zk zk (fun a w hst=>?_)
    have hst:St B w0 64 [(0,_),(3,_),(5,_),(63,_)] [⟨4,171,ptrH,_⟩] a w:=hst
    refine za0 ?_
    refine za8 hst (zm 3 rfl) (fun hb3=>?_) (fun hb3=>?_)
    ·exact absurd (hb3.symm.trans (look_no hd hk)) zd
    ·refine wp_skip ?_
     refine zat ?_
     refine za0 ?_
     refine gl (sts:=[none]) (news:=[]) (sp:=[.val 35 _,.val 36 _,.val 5 _]) [.g 0,.g 1,.o 2] hst (zv rfl (za2 (gq 2 rfl)) (zv rfl (zbl (vq 0 rfl) za3 (zbo (by have:=hd.lx; have:=zmg hd; omega))) (zv rfl (za1 (vq 1 rfl)) o0))) (fun a w hst=>?_)
     have hst:St B w0 64 [(0,_),(3,_),(5,_)] [⟨4,171,ptrH,_⟩] a w:=hst
     refine za0 ?_
     have hst:=St.sel hst [0,1,2]
     exact ⟨n-1,by omega,k+1,by omega,hst⟩
   ·have hk:k=t.ys.length:=by have:=hb2; simp at this; omega
    refine wp_exit ?_
    refine za6 ?_
    refine za6 ?_
    refine zaj ?_
    refine zat ?_
    refine za0 ?_
    refine gl (sts:=[none]) (news:=[]) (sp:=[.val 13 _,.val 14 _,.val 3 _]) [.g 0,.o 2] hst (zv rfl (za2 (gq 1 rfl)) (zv rfl (zbl (vq 0 rfl) za3 (zbo zo)) (zv rfl (za1 (vq 1 rfl)) o0))) (fun a w hst=>?_)
    have hst:St B w0 64 [(0,_),(3,_)] [⟨4,171,ptrH,_⟩] a w:=hst
    refine za0 ?_
    have hst:=St.sel hst [0,1]
    have hst:=St.selL hst []
    exact ⟨M.length-(i+1),by omega,i+1,by omega,hst⟩
 ·have hi:i=M.length:=by have:=hb0; simp at this; omega
  refine wp_exit ?_
  refine za6 ?_
  refine za6 ?_
  refine zaj ?_
  refine zt<|gl (sts:=[]) (news:=[]) (sp:=[.val 2 _]) [.g 0,.o 0] hst (zv rfl (za1 zb7) o0) (fun a w hst=>?_)
  have hst:St B w0 64 [(0,_),(2,_)] [] a w:=hst
  refine za0 ?_
  refine wp_ret ?_
  exact zai rfl hst (zm 1 rfl)
end Go.Proofs.YthncfchnkjemiaaGreatDoor
