import Derived.Test.YtmfgafhlaeolgaaGreatDoorBtAa
import Derived.Test.YtmfgafhlaeolgaaGreatDoorBtAc
import Derived.Test.YtmfgafhlaeolgaaGreatDoorBtAm
import Derived.Test.YtmfgafhlaeolgaaGreatDoorBtAn
import Derived.Test.YtmfgafhlaeolgaaGreatDoorBtAw
import Derived.Test.YtmfgafhlaeolgaaGreatDoorBtAy
import Derived.Test.YtmfgafhlaeolgaaGreatDoorBtBa
import Derived.Laws.AppendOwn
import Derived.Laws.OwnMore
import Derived.Orders
set_option linter.unusedVariables false
set_option linter.unusedSimpArgs false
set_option linter.unusedSectionVars false
set_option maxRecDepth 100000
namespace Go.Proofs.YtmfgafhlaeolgaaGreatDoor
open Go Go.RowKit
def NewIt (f:FuncId)(T:TypeId)(v:Value):VA where
 p B u w:=∃ g,u=.func (.func f) #[] #[ptr g]∧B≤g∧w.heap[g]?=some (.cells #[v] T (0,0))
 deps:=[T]
 cg:=fun B u w w' hg ⟨g,e,h1,h2⟩=>⟨g,e,h1,hg.heap h2⟩
 wr:=by
  rintro B u w w' g c T' fz hc hT hB hW ⟨g',e,h1,h2⟩
  refine ⟨g',e,h1,?_⟩
  rw [hW.block g' (fun e=>by subst e; rw [hc] at h2; injection h2 with h2; injection h2 with _ h2 _; exact hT (by simp [h2]))]
  exact h2
def ItN (f:FuncId)(caps:List (TypeId × As))(ns:List Nat):VA where
 p B v w:=∃ gs,(ItV f caps gs).p B v w∧∀ n∈ns,n ∉ gs
 deps:=caps.map Prod.fst++caps.flatMap (·.2.deps)
 cg:=fun B v w w' hg ⟨gs,h1,h2⟩=>⟨gs,(ItV f caps gs).cg B v w w' hg h1,h2⟩
 wr:=fun B v w w' g c T fz h1 hT h3 h4 ⟨gs,h5,h6⟩=>⟨gs,(ItV f caps gs).wr B v w w' g c T fz h1 hT h3 h4 h5,h6⟩
def Nmd (Γ:List (Nat × VA)):List (Nat × Nat)→List Nat→Prop
 | [],[]=>True
 | p::ps,k::ks=>Γ[k]?=some (p.1,EqV (ptr p.2))∧Nmd Γ ps ks
 | _,_=>False
theorem St.itn {B N:Nat}{w0:Bs}{Γ:List (Nat × VA)}{Λ:List Lc}{a:Act}{w:World}{s:Nat}{f:FuncId}{caps:List (TypeId × As)}{ps:List (Nat × Nat)}(k:Nat)(ks:List Nat)(h:St B w0 N Γ Λ a w)(hm:Γ[k]?=some (s,ItN f caps (ps.map Prod.snd)))(hn:Nmd Γ ps ks) :
  ∃ gb,St B w0 N (Γ.set k (s,ItV f caps gb)) Λ a w∧∀ t∈ps.map Prod.fst,∀ g,blk (a.eval (.tmp t))=some g→g ∉ gb:=by
 obtain ⟨gb,h1,h2⟩:=h.vals _ (List.mem_of_getElem? hm)
 refine ⟨gb,⟨h.lo,h.defers,h.size,h.base,fun x hx=>?_,h.locs,h.dis⟩,fun t ht g hg=>?_⟩
 ·rcases List.mem_or_eq_of_mem_set hx with hx | rfl
  ·exact h.vals x hx
  ·exact h1
 ·have key:∀ (ps:List (Nat × Nat)) (ks:List Nat),Nmd Γ ps ks→∀ p∈ps,a.eval (.tmp p.1)=ptr p.2:=by
   intro ps
   induction ps with
   | nil=>intro _ _ p hp; cases hp
   | cons q ps ih =>
    intro ks hk p hp
    cases ks with
    | nil=>exact hk.elim
    | cons k ks =>
     obtain ⟨e1,e2⟩:=hk
     rcases List.mem_cons.1 hp with rfl | hp
     ·exact h.vals _ (List.mem_of_getElem? e1)
     ·exact ih ks e2 p hp
  obtain ⟨p,hp,rfl⟩:=List.mem_map.1 ht
  rw [key ps ks hn p hp] at hg
  have:p.2=g:=by injection hg
  rw [← this]
  exact h2 p.2 (List.mem_map.2 ⟨p,hp,rfl⟩)
section
variable {P:Program} {R:Rg} {Q:Exit→Act→World→Prop} {B i:Nat} {w0:Bs}
inductive Nmo (R:Rg) (B:Nat) (w0:Bs) (i:Nat):List (Nat × Nat)→Prop
 | nil:Nmo R B w0 i []
 | cons {s g T:Nat} {A:As} {l:List (Nat × Nat)}:Has R B w0 i (.tmp s) (EqV (ptr g))→Loc R i s T A→Nmo R B w0 i l→Nmo R B w0 i ((s,g)::l)
theorem Nmo.lt {l:List (Nat × Nat)}(h:Nmo R B w0 i l){a:Act}{w:World}(av:R.Av B w0 i a w):∀ p∈l,p.2<w.heap.size:=by
 induction h with
 | nil=>intro p hp; cases hp
 | cons h1 h2 _ ih =>
  intro p hp
  rcases List.mem_cons.1 hp with rfl | hp
  ·obtain ⟨g,cs,e1,_,e3,_⟩:=h2.ok av
   have e2:=h1 a w av
   have e2':a.eval (.tmp _)=ptr _:=e2
   rw [e2'] at e1
   have:ptr _=ptr g:=e1
   injection this with this
   injection this with this
   injection this with this
   rw [this]
   exact (Array.getElem?_eq_some_iff.1 e3).1
  ·exact ih p hp
theorem has_eqA {x:Operand}{v:Value}(h:v.oneCell'=true)(h1:Has R B w0 i x (EqV v)):Has R B w0 i x (EqA v).va:=fun a w av=>by
 have e:a.eval x=v:=h1 a w av
 rw [e]
 exact va_eqA h
theorem r_mkIt {f:FuncId}{T:TypeId}{v:Value}{s:Nat}(h1:Loc R i s T (EqA v)):Wv P Q R B w0 i (.makeFunc (.func f) #[] #[.tmp s]) (NewIt f T v) :=
 zbl fun _ _ _ _ _ a w av=>by
  obtain ⟨g,c,e1,m1,h3,h4⟩:=h1.ok av
  obtain rfl:=h4.1
  have e1':a.eval (.tmp s)=ptr g:=e1
  exact ⟨.func (.func f) #[] (#[Operand.tmp s].map a.eval),w,by simp [execOp,Instr.makeFunc],Grow.refl w,g,by simp [e1'],av.lo _ m1,h3⟩
theorem zyj {f f':FuncId}{T:TypeId}{x:Operand}{A:As}{at_:Array TypeId}(ns:List (Nat × Nat))(hA:A.ag=false)(hc:∀ v,v.oneCell'=true→Cn P f' [EqV v] (NewIt f T v))(hx:Has R B w0 i x A.va)(hns:Nmo R B w0 i ns) :
  Wv P Q R B w0 i (.call ⟨.value (.func f'),#[x],at_⟩) (ItN f [(T,A)] (ns.map Prod.snd)):=by
 intro d T' ps af gd a w av K hK
 have hone:(a.eval x).oneCell'=true:=by
  obtain ⟨cs,hp,hv⟩:=hx a w av
  have hl:=A.len _ _ _ hp
  rw [A.ag1 hA] at hl
  match cs,hl,hp,hv with
  | [c],_,hp,hv =>
   have:a.eval x=c:=by rw [hv]; simp [shape,hA]
   rw [this]
   exact A.one _ _ _ hp c (by simp)
 obtain ⟨⟨fn,hf,hn,hb⟩,hcall⟩:=hc (a.eval x) hone
 have hrun:(execOp a.eval ⟨some d,.call ⟨.value (.func f'),#[x],at_⟩,T',ps,af,gd⟩).run P w=.ok (.enter f' #[a.eval x]) w:=by
  have e1:a.eval (.func f')=.func (.func f') #[] #[]:=rfl
  simp only [execOp,resolve,e1,Deferred.ofValue,Sem.run_bind,Sem.run_pure,Result.andThen_ok,invoke,zbj hf hn hb]
  simp
 unfold Oper.wp
 rw [hrun]
 refine (hcall w.heap.size w [a.eval x] (Nat.le_refl _) (.cons rfl .nil)).mono fun e w' ⟨v,he,⟨g,h1,h2,h3⟩,hg⟩=>?_
 subst he
 obtain ⟨cs,hp,hv⟩:=hx a w av
 have hcs:cs=[a.eval x]:=by
  have hl:=A.len _ _ _ hp
  rw [A.ag1 hA] at hl
  match cs,hl with
  | [c],_ =>
   rw [hv]
   simp [shape,hA]
 refine hK v w' hg ⟨[g],⟨h1,by simp,.cons ⟨Nat.le_trans (Av.bw av) h2,_,h3,?_⟩ .nil⟩,fun n hn' hm=>?_⟩
 ·rw [← hcs]
  exact A.grow _ _ _ _ hg hp
 ·obtain rfl:=List.mem_singleton.1 hm
  obtain ⟨p,hp',rfl⟩:=List.mem_map.1 hn'
  have:=hns.lt av p hp'
  omega
end
end Go.Proofs.YtmfgafhlaeolgaaGreatDoor
namespace Go.Proofs.YtmfgafhlaeolgaaGreatDoor
open Go Go.RowKit
theorem bw_at {xs:List RE}{k:Nat}(h:k<xs.length):(xs.map REA)[xs.length-1-k]?=some (REA (xs.reverse.getD k re0)):=by
 rw [List.getElem?_map,List.getElem?_eq_getElem zo,List.getD_eq_getElem?_getD,List.getElem?_reverse h,List.getElem?_eq_getElem zo]
 rfl
theorem zxf:Zero Tryz.prog 22 (OwnC 64 9 [U32] []):=zxe zk
theorem bw_it (xs:List RE):ItC Tryz.prog 87 [(22,SlO 64 [U32] (xs.map REA) True)] (fun k=>[In (((xs.length-1-k:Nat)):Int),(REA (xs.reverse.getD k re0)).va]) false (xs.length) [U32]:=by
 intro gs
 refine ItCg.intro Tryz.func87 rfl zk nq (fun l B Db J Jx w0 a hgl hoff hIt hG O=>?_)
 have O:=zn [(0,EqV (.func (.yield l) #[] #[])),(1,EqV (ptr (gs.getD 0 0)))] [⟨1,22,ptrH,SlO 64 [U32] (xs.map REA) True⟩] O
 have hl:xs.length≤9223372036854775807:=by
  obtain ⟨g,cs,_,_,_,hp⟩:=O.locs _ List.mem_cons_self
  have:=zt6 (l:=xs.map REA) (p:=True) (E:=64) (D:=[U32]) (B:=B) (w:=w0.w) ⟨cs,hp,rfl⟩
  rwa [List.length_map] at this
 refine wpIn_seq ?_
 refine zoa (sts:=[none]) (news:=[]) (sp:=[.v 4 _,.v 5 _,.v 6 _,.v 3 _]) [.g 0,.g 1,.o 3] zk (zjx fun _ _ h=>h) O (zv rfl (zay (lz0 0 rfl) zg1) (zv rfl (zbf Tryz.underlying22 (zcm (zar (E:=64) (vq 0 rfl)))) (zv rfl (zcj (vq 1 rfl) za3 ((wi64 (by rw [List.length_map]; omega) (by rw [List.length_map]; omega)))) (zv rfl (za2 (vq 2 rfl)) o0)))) zk zk zk (zz [(0,_),(1,_),(3,_)] [⟨1,22,ptrH,_⟩] fun a w O=>?_)
 refine za0<|wpIn_block ?_
 have O:=St.sel O [0,1,2]
 refine wpIn_loop_ghost (fun n a w=>∃ (k:Nat) (z1:Int) (w0:Bs),(n+k=xs.length∧z1=(n:Int)-1∧ItG B gs [22] J k w0)∧St B w0 19 [(0,EqV (.func (.yield l) #[] #[])),(1,EqV (ptr (gs.getD 0 0))),(3,In z1)] [⟨1,22,ptrH,SlO 64 [U32] (xs.map REA) True⟩] a w) (xs.length) ?_ ?_
 ·rw [List.length_map] at O
  exact ⟨0,_,w0,⟨rfl,rfl,hG⟩,O⟩
 intro n a w hI
 obtain ⟨k,z1,w0,⟨hn,hz,hG⟩,O⟩:=hI
 refine wpIn_seq ?_
 refine wpIn_seq ?_
 refine zoa (sts:=[none]) (news:=[]) (sp:=[.v 7 _,.v 8 _]) [.g 0,.g 1,.g 2,.o 1] zk (zjx fun _ _ h=>h) O (zv rfl (za1 (gq 2 rfl)) (zv rfl (zeo (vq 0 rfl) za3) o0)) zk zk zk (zz [(0,_),(1,_),(3,_),(8,_)] [⟨1,22,ptrH,_⟩] fun a w O=>?_)
 refine za0<|zll O (zm 3 rfl) (fun hb0=>?_) (fun hb0=>?_)
 ·have hz0:z1≥0:=of_decide_eq_true hb0
  have hj:k<xs.length:=by omega
  obtain rfl:z1=(((xs.length-1-k:Nat)):Int):=by omega
  refine wpIn_skip ?_
  refine za0<|wpIn_seq ?_
  refine wpIn_block ?_
  refine wpIn_seq ?_
  refine zvx (sp:=[.v 11 _,.v 12 _,.v 13 _,.v 14 _,.v 15 _,.v 16 _,.v 17 VT,.v 18 VT]) 6 [0,1,2] [(1,0)] (fun b => !b) O (zv rfl (za1 (gq 0 rfl)) (zv rfl (za1 (gq 2 rfl)) (zv rfl (zay (lz0 0 rfl) zg1) (zv rfl (za1 (gq 2 rfl)) (zv rfl (zcv ze3 (zf3 fun _=>rfl) (zcm (zar (E:=64) (vq 2 rfl))) (vq 3 rfl) (bw_at hj)) (zv rfl (zad (vq 4 rfl) zd5) o0)))))) rfl zk zk rfl rfl not_op nq zd (vq 0 rfl) (.cons (vq 1 rfl) (.cons (vq 5 rfl) .nil)) hoff hIt hG hj ⟨rfl,⟨_,rfl⟩,trivial⟩ hgl zk zk zk zk (zjx fun _ _ h=>h) nq (fun w0 a w hG O hw0=>?_) (fun w0 a w hw0 hJx O=>?_)
  ·have O:=zn [(18,Bo false),(0,_),(1,_),(3,_)] [⟨1,22,ptrH,_⟩] O
   refine za0<|zll O (zm 0 rfl) (fun hb1=>?_) (fun hb1=>?_)
   ·cases hb1
   ·refine wpIn_skip ?_
    refine zab ?_
    refine za0<|zoa (sts:=[none]) (news:=[]) (sp:=[.v 9 _,.v 10 _,.v 3 _]) [.g 1,.g 2,.o 2] zk (zjx fun _ _ h=>h) O (zv rfl (za1 (gq 3 rfl)) (zv rfl (zcj (vq 0 rfl) za3 ((wi64 zo zo).trans (by omega:(_:Int)=((n-1:Nat):Int)-1))) (zv rfl (za2 (vq 1 rfl)) o0))) zk zk zk (zz [(0,_),(1,_),(3,_)] [⟨1,22,ptrH,_⟩] fun a w O=>?_)
    refine za0 ?_
    have O:=St.sel O [0,1,2]
    exact ⟨n-1,by omega,k+1,_,w0,⟨by omega,rfl,hG⟩,O⟩
  ·have O:=zn [(18,Bo true)] [] O
   refine za0<|zll O (zm 0 rfl) (fun hb2=>?_) (fun hb2=>?_)
   ·refine wpIn_ret ?_
    refine zb8 ?_
    refine zaf ?_
    refine zaf ?_
    refine zb8 ?_
    exact it_stop rfl O hw0 hIt hJx
   ·cases hb2
 ·have hz0:¬ z1≥0:=of_decide_eq_false hb0
  obtain rfl:k=xs.length:=by omega
  refine wpIn_exit ?_
  exact za7<|za7<|zam<|zdb<|it_done (gs:=gs) (ix:=[(1,0)]) rfl O (Tc:=[22]) ⟨rfl,⟨_,rfl⟩,trivial⟩ hgl hIt hG
def revF (xs:List RE):List RE × Int:=if chF xs=0 then (xs.reverse,0) else ([],chF xs)
theorem zmw {xs:List RE}(h:chF xs=0):xs.length≤4096∧∀ x∈xs,elF x=true:=by
 unfold chF at h
 split at h
 ·cases h
 ·split at h
  ·rename_i h1 h2; exact ⟨by omega,List.all_eq_true.1 h2⟩
  ·cases h
theorem elF_x {x:RE}(h:elF x=true):[x.p,x.q].all okX=true:=by
 cases h1:([x.p,x.q].all okX) with
 | true=>rfl
 | false=>simp [elF,h1] at h
theorem rev_ok {xs:List RE}{k:Nat}(h:chF xs=0)(hk:k<xs.length):[(xs.reverse.getD k re0).p,(xs.reverse.getD k re0).q].all okX=true:=by
 refine elF_x ((zmw h).2 _ ?_)
 rw [List.getD_eq_getElem?_getD,List.getElem?_eq_getElem (by simpa using hk)]
 exact List.mem_reverse.1 (List.getElem_mem _)
theorem ztx (xs:List RE):xs.reverse.take xs.length=xs.reverse:=by rw [List.take_of_length_le (by simp)]
theorem bw_c {v:Value}(hv:v.oneCell'=true):Cn Tryz.prog 20 [EqV v] (NewIt 87 22 v):=by
 refine Cn.intro Tryz.func20 rfl zk nq (fun B w0 a O=>?_)
 have O:=zn [(0,EqV v)] [] O
 refine wp_seq<|zg [] [⟨1,22,ptrH,some 0,_,none⟩] [.alc 0,.v 2 _] [.o 1] O (oc (zav rfl rfl rfl (has_eqA hv (gq 0 rfl))) (zv rfl (za2 zbb) o0)) (zz [(2,_)] [⟨1,22,ptrH,_⟩] fun a w O=>?_)
 refine zt<|zg [none] [] [.v 3 _,.v 2 _] [.o 1] O (zv rfl (r_mkIt (lz0 0 rfl)) (zv rfl (za2 (vq 0 rfl)) o0)) (zz [(2,_)] [⟨1,22,ptrH,_⟩] fun a w O=>?_)
 refine za0<|wp_ret<|zal ?_ (zac rfl O (zm 0 rfl))
 exact zbv
theorem re_eq {x y:RE}:((((x.k==y.k)&&decide (x.p=y.p)))&&decide (x.q=y.q))=decide (x=y):=by
 cases x; cases y
 simp [RE.mk.injEq,Bool.and_assoc]
 rfl
theorem se_no {xs ys:List RE}{j:Nat}(hx:j<xs.length)(hy:j<ys.length)(h:decide (xs[j]=ys[j])=false):decide (xs=ys)=false:=by
 simp only [decide_eq_false_iff_not] at h ⊢
 rintro rfl
 exact h rfl
theorem se_nx {xs ys:List RE}{j:Nat}(hx:j<xs.length)(hy:j<ys.length)(hp:xs.take j=ys.take j)(h:decide (xs[j]=ys[j])=true):xs.take (j+1)=ys.take (j+1):=by
 rw [List.take_succ_eq_append_getElem hx,List.take_succ_eq_append_getElem hy,hp,of_decide_eq_true h]
theorem zy7 (x y:RE):Cn Tryz.prog 30 [(REA x).va,(REA y).va] (Bo (decide (x=y))):=by
 refine Cn.intro Tryz.func30 rfl zk nq (fun B w0 a O=>?_)
 have O:=zn [(0,(REA x).va),(1,(REA y).va)] [] O
 refine wp_seq<|zg [] [⟨2,64,ptrH,some 0,_,none⟩,⟨3,64,ptrH,some 1,_,none⟩] [.alc 0,.alc 1,.v 4 _] [.o 2] O (oc (zav rfl rfl rfl (gq 0 rfl)) (oc (zav rfl rfl rfl (gq 1 rfl)) (zv rfl (za2 zat) o0))) (zz [(4,_)] [⟨2,64,ptrH,_⟩,⟨3,64,ptrH,_⟩] fun a w O=>?_)
 refine zt<|zg [none,none] [] [.adr 5 2 (.some 0) True,.v 6 _,.adr 7 3 (.some 0) True,.v 8 _,.v 9 _,.v 10 _,.adr 11 2 (.some 1) (_=true),.v 12 (Wh (_=true) _),.adr 13 3 (.some 1) (_=true),.v 14 (Wh (_=true) _),.v 15 (Wh (_=true) _),.v 16 _,.v 17 _,.adr 18 2 (.some 5) (_=true),.v 19 (Wh (_=true) _),.adr 20 3 (.some 5) (_=true),.v 21 (Wh (_=true) _),.v 22 (Wh (_=true) _),.v 23 _,.v 4 _] [.o 19] O (oc (ob_a rfl rfl (zae (lz0 0 rfl) zcc)) (zv rfl (za4 0 rfl zk trivial (lz0 0 rfl) (Sub.part 0 rfl rfl) zfu) (oc (ob_a rfl rfl (zae (lz0 1 rfl) zcc)) (zv rfl (za4 2 rfl zk trivial (lz0 1 rfl) (Sub.part 0 rfl rfl) zfu) (zv rfl (zc3 (vq 1 rfl) (vq 3 rfl)) (zv rfl (za1 (vq 4 rfl)) (oc (zcf rfl rfl rfl (vq 5 rfl) nq (fun hg=>zae (lz0 0 rfl) zc4)) (oc (zai rfl rfl rfl (vq 5 rfl) nq (fun hg=>za4 6 rfl zk hg (lz0 0 rfl) (Sub.part 1 rfl rfl) zb5)) (oc (zcf rfl rfl rfl (vq 5 rfl) nq (fun hg=>zae (lz0 1 rfl) zc4)) (oc (zai rfl rfl rfl (vq 5 rfl) nq (fun hg=>za4 8 rfl zk hg (lz0 1 rfl) (Sub.part 1 rfl rfl) zb5)) (oc (zai rfl rfl rfl (vq 5 rfl) nq (fun hg=>za5 (xs:=[.tmp 12,.tmp 14]) (zgy _ _) (.cons (zaa (vq 7 rfl) hg) (.cons (zaa (vq 9 rfl) hg) .nil)))) (zv rfl (zca (vq 5 rfl) (vq 10 rfl)) (zv rfl (za1 (vq 11 rfl)) (oc (zcf rfl rfl rfl (vq 12 rfl) nq (fun hg=>zae (lz0 0 rfl) zc7)) (oc (zai rfl rfl rfl (vq 12 rfl) nq (fun hg=>za4 13 rfl zk hg (lz0 0 rfl) (Sub.part 2 rfl rfl) zb5)) (oc (zcf rfl rfl rfl (vq 12 rfl) nq (fun hg=>zae (lz0 1 rfl) zc7)) (oc (zai rfl rfl rfl (vq 12 rfl) nq (fun hg=>za4 15 rfl zk hg (lz0 1 rfl) (Sub.part 2 rfl rfl) zb5)) (oc (zai rfl rfl rfl (vq 12 rfl) nq (fun hg=>za5 (xs:=[.tmp 19,.tmp 21]) (zgy _ _) (.cons (zaa (vq 14 rfl) hg) (.cons (zaa (vq 16 rfl) hg) .nil)))) (zv rfl (zca (vq 12 rfl) (vq 17 rfl)) (zv rfl (za2 (vq 18 rfl)) o0)))))))))))))))))))) (zz [(4,_)] [⟨2,64,ptrH,_⟩,⟨3,64,ptrH,_⟩] fun a w O=>?_)
 refine za0<|wp_ret<|zal ?_ (zac rfl O (zm 0 rfl))
 exact zbw (congrArg Bo re_eq)
theorem zti (xs ys:List RE):Cn Tryz.prog 11 [(SlA 64 [U32] (xs.map REA)).va,(SlA 64 [U32] (ys.map REA)).va] (Bo (decide (xs=ys))):=by
 refine Cn.intro Tryz.func11 rfl zk nq (fun B w0 a O=>?_)
 have O:=zn [(0,(SlA 64 [U32] (xs.map REA)).va),(1,(SlA 64 [U32] (ys.map REA)).va)] [] O
 have hl:=zkd (O.vals (0,(SlA 64 [U32] (xs.map REA)).va) (zm 0 rfl))
 refine wp_seq<|zh [.v 4 _] [.g 0,.g 1,.o 0] O (zv rfl (za2 zat) o0) (zz [(0,_),(1,_),(4,_)] [] fun a w O=>?_)
 refine zt<|wp_seq<|zh [.v 6 _,.v 7 _,.v 8 _,.v 9 _,.v 10 _] [.g 0,.g 1,.g 2,.o 4] O (zv rfl (za1 (gq 0 rfl)) (zv rfl (zbf Tryz.underlying22 (vq 0 rfl)) (zv rfl (za1 (gq 1 rfl)) (zv rfl (zbf Tryz.underlying22 (vq 2 rfl)) (zv rfl (zdp (vq 1 rfl) (vq 3 rfl)) o0))))) (zz [(0,_),(1,_),(4,_),(10,_)] [] fun a w O=>?_)
 refine za0<|za8 O (zm 3 rfl) (fun hb0=>?_) (fun hb0=>?_)
 ·have hne:decide (xs=ys)=false:=by
   simp only [List.length_map] at hb0
   simp only [decide_eq_false_iff_not]
   rintro rfl
   simp at hb0
  refine wp_seq<|zh [.v 4 _] [.g 0,.g 1,.o 0] O (zv rfl (za2 zat) o0) (zz [(0,_),(1,_),(4,_)] [] fun a w O=>?_)
  refine za0<|wp_ret<|zaf ?_
  refine zal ?_ (zac rfl O (zm 2 rfl))
  exact zbw (congrArg Bo hne.symm)
 ·have hee:xs.length=ys.length:=by
   simp only [List.length_map] at hb0; have:(xs.length:Int)=(ys.length:Int):=by simpa using hb0
   omega
  refine wp_skip<|zt<|wp_seq<|zh [.v 5 _] [.g 0,.g 1,.g 2,.o 0] O (zv rfl (za2 za3) o0) (zz [(0,_),(1,_),(4,_),(5,_)] [] fun a w O=>?_)
  refine za0<|wp_block ?_
  have O:=St.sel O [0,1,3]
  refine wp_loop_ghost (fun n a w=>∃ (j:Nat),(n+j=xs.length∧xs.take j=ys.take j)∧St B w0 27 [(0,(SlA 64 [U32] (xs.map REA)).va),(1,(SlA 64 [U32] (ys.map REA)).va),(5,In (j:Nat))] [] a w) (xs.length) ?_ ?_
  ·exact ⟨0,⟨by omega,rfl⟩,O⟩
  intro n a w hI
  obtain ⟨j,⟨hn,hp⟩,O⟩:=hI
  refine wp_seq<|wp_seq<|zh [.v 11 _,.v 12 _,.v 13 _,.v 14 _] [.g 0,.g 1,.g 2,.o 3] O (zv rfl (za1 (gq 2 rfl)) (zv rfl (za1 (gq 0 rfl)) (zv rfl (zbf Tryz.underlying22 (vq 1 rfl)) (zv rfl (zaz (vq 0 rfl) (vq 2 rfl)) o0)))) (zz [(0,_),(1,_),(5,_),(14,_)] [] fun a w O=>?_)
  refine za0<|za8 O (zm 3 rfl) (fun hb1=>?_) (fun hb1=>?_)
  ·have hj:j<xs.length:=by rw [List.length_map] at hb1; have:=of_decide_eq_true hb1; omega
   have hj2:j<ys.length:=by omega
   refine wp_skip<|zt<|wp_block<|wp_seq<|zgd [[],[],[0,1],[0,1,2],[],[],[4,5],[4,5,6],[0,1,2,3,4,5,6,7],[0,1,2,3,4,5,6,7,8]] [] [] [.v 17 _,.v 18 _,.v 19 _,.v 20 _,.v 21 _,.v 22 _,.v 23 _,.v 24 _,.v 25 _,.v 26 _] [.g 0,.g 1,.g 2,.o 9] za9 O (zv rfl (za1 (gq 0 rfl)) (zv rfl (za1 (gq 2 rfl)) (zv rfl (zcv ze3 (zf3 fun _=>rfl) (vq 0 rfl) (vq 1 rfl) (zdt hj)) (zv rfl (zad (vq 2 rfl) zd5) (zv rfl (za1 (gq 1 rfl)) (zv rfl (za1 (gq 2 rfl)) (zv rfl (zcv ze3 (zf3 fun _=>rfl) (vq 4 rfl) (vq 5 rfl) (zdt hj2)) (zv rfl (zad (vq 6 rfl) zd5) (zv rfl (za5 (xs:=[.tmp 20,.tmp 24]) (zy7 _ _) (.cons (vq 3 rfl) (.cons (vq 7 rfl) .nil))) (zv rfl (zf7 (vq 8 rfl)) o0)))))))))) zk zk zk zk (zz [(0,_),(1,_),(5,_),(26,_)] [] fun a w O=>?_)
   refine za0<|za8 O (zm 3 rfl) (fun hb2=>?_) (fun hb2=>?_)
   ·refine wp_seq<|zh [.v 4 _] [.g 0,.g 1,.g 2,.o 0] O (zv rfl (za2 zat) o0) (zz [(0,_),(1,_),(5,_),(4,_)] [] fun a w O=>?_)
    refine za0<|wp_ret<|zb8 ?_
    refine zaf ?_
    refine zaf ?_
    refine zb8 ?_
    refine zaf ?_
    refine zal ?_ (zac rfl O (zm 3 rfl))
    exact zbw (congrArg Bo (se_no hj hj2 (by simpa using hb2)).symm)
   ·refine wp_skip<|zab ?_
    refine za0<|zh [.v 15 _,.v 16 _,.v 5 _] [.g 0,.g 1,.o 2] O (zv rfl (za1 (gq 2 rfl)) (zv rfl (zb2 (vq 0 rfl) za3 ((wi64 zo zo).trans (by omega:(_:Int)=((j+1:Nat):Int)))) (zv rfl (za2 (vq 1 rfl)) o0))) (zz [(0,_),(1,_),(5,_)] [] fun a w O=>?_)
    refine za0 ?_
    have O:=St.sel O [0,1,2]
    exact ⟨n-1,by omega,j+1,⟨by omega,se_nx hj hj2 hp (by simpa using hb2)⟩,O⟩
  ·have hj:j=xs.length:=by rw [List.length_map] at hb1; have:=of_decide_eq_false hb1; omega
   refine wp_exit<|za7<|za7<|zam<|zt<|zh [.v 4 _] [.o 0] O (zv rfl (za2 zat) o0) (zz [(4,_)] [] fun a w O=>?_)
   refine za0<|wp_ret<|zal ?_ (zac rfl O (zm 0 rfl))
   exact zbw (congrArg Bo (decide_eq_true (by rw [hj,List.take_length,hee,List.take_length] at hp; exact hp)).symm)
end Go.Proofs.YtmfgafhlaeolgaaGreatDoor
namespace Go.Proofs.YtmfgafhlaeolgaaGreatDoor
open Go Go.RowKit
abbrev RED (x:RE):As:=DisA (REN x)
theorem zuw {x:RE}:NewA (RED x):=ziu zku
theorem zzq {x:RE}:FreeA (RED x) (RED x):=zgl zhs
theorem zyg {u v:Value}{x:RE}(h:[x.p,x.q].all okX=true):WkA (cat [NumA .u8 x.k,PinA u ((QD 2048 (toQ x.p)).and (SepAll [] u)),PinA v ((QD 2048 (toQ x.q)).and (SepAll [u] v))]) (RED x):=by
 simp only [List.all_cons,List.all_nil,Bool.and_true,Bool.and_eq_true] at h
 have hp:WkA (QD 2048 (toQ x.p)) (RFN x.p):=qd_rfn.trans (zi1 (congrArg RFN (zuo h.1).1.symm))
 have hq:WkA (QD 2048 (toQ x.q)) (RFN x.q):=qd_rfn.trans (zi1 (congrArg RFN (zuo h.2).1.symm))
 exact (zqk (fun _ _ _ h=>zol h) (zhy (l:=[(u,QD 2048 (toQ x.p)),(v,QD 2048 (toQ x.q))]) (fun y hy=>by
  simp at hy
  rcases hy with rfl | rfl <;> exact nod_qd))).trans (zfp (zch (.cons (.refl _) (.cons hp (.cons hq .nil)))))
theorem rev_nxD {xs:List RE}{k:Nat}(hk:k<xs.length):(xs.reverse.take k).map RED++[RED (xs.reverse.getD k re0)]=(xs.reverse.take (k+1)).map RED:=by
 rw [List.getD_eq_getElem?_getD,List.getElem?_eq_getElem (by simpa using hk),List.take_succ_eq_append_getElem (by simpa using hk),List.map_append]
 rfl
theorem zyt {l:List RE}:Wk (OwIC 64 9 [U32] (l.map RED)).va (LsN 64 9 [U32] (l.map REN)):=zcx owic_ls (zv7 (zgg fun _=>dis_wk) (zcs fun _=>zfl zk))
theorem zty {l:List RE}{k:Int}:Free (Tu [LsN 64 9 [U32] (l.map REN),In k]) (Tu [LsN 64 9 [U32] (l.map REN),In k]):=zw2 (.cons (zob (zcs fun _=>zhs)) (.cons (ze6 _ _).va .nil))
theorem zwu (x:RE)(hx:[x.p,x.q].all okX=true):Cn Tryz.prog 21 [(REA x).va] ((RED x).va):=by
 refine Cn.intro Tryz.func21 rfl zk nq (fun B w0 a O=>?_)
 have O:=zn [(0,(REA x).va)] [] O
 refine wp_seq<|zg [] [⟨1,64,ptrH,some 0,_,none⟩,⟨2,64,ptrH,some 1,_,none⟩] [.alc 0,.alc 1] [] O (oc (zav rfl rfl rfl (gq 0 rfl)) (oc (zb0 rfl rfl rfl (Str.zero zd8)) o0)) (zz [] [⟨1,64,ptrH,_⟩,⟨2,64,ptrH,_⟩] fun a w O=>?_)
 refine zt ?_
 have O:=St.wkL O 0 rfl (el_q hx)
 refine go_drawV' [[],[0],[],[2],[2,3],[],[5],[2,3,4,5,6],[0,1,2,3,4,5,6,7],[0,1,2,3,4,5,6,7,8]] (sts:=[none,some (9,fun ν=>_)]) (news:=[]) (sp:=[(fun ν=>.adr 3 1 (.some 0) True),(fun ν=>.v 4 _),(fun ν=>.adr 5 1 (.some 1) True),(fun ν=>.v 6 _),(fun ν=>.v 7 (PinA (ν 4) ((QD 2048 (toQ x.p)).and (SepAll [] (ν 4)))).va),(fun ν=>.adr 8 1 (.some 5) True),(fun ν=>.v 9 _),(fun ν=>.v 10 (PinA (ν 7) ((QD 2048 (toQ x.q)).and (SepAll [ν 4] (ν 7)))).va),(fun ν=>.v 11 _),(fun ν=>.sto 1)]) [] za9 O ⟨of_u fun ν=>ob_a rfl rfl (zae (lz0 0 rfl) zcc),⟨of_u fun ν=>ob_v rfl rfl (za4 0 rfl zk trivial (lz0 0 rfl) (Sub.part 0 rfl rfl) zfu),⟨of_u fun ν=>ob_a rfl rfl (zae (lz0 0 rfl) zc4),⟨of_u fun ν=>ob_v rfl rfl (za4 2 rfl zk trivial (lz0 0 rfl) (Sub.part 1 rfl rfl) zb5),⟨zdr (us:=fun ν=>[]) (xs:=[.tmp 6]) rfl rfl (zwt zd) zux zw5 (.cons upA_qa.va .nil) (fun ν=>(.cons (vq 3 rfl) .nil)) (fun _ _=>rfl) (fun ν=>zcp),⟨of_u fun ν=>ob_a rfl rfl (zae (lz0 0 rfl) zc7),⟨of_u fun ν=>ob_v rfl rfl (za4 5 rfl zk trivial (lz0 0 rfl) (Sub.part 2 rfl rfl) zb5),⟨zdr (us:=fun ν=>[ν 4]) (xs:=[.tmp 9]) rfl rfl (zwt zd) zux zw5 (.cons upA_qa.va .nil) (fun ν=>(.cons (vq 6 rfl) .nil)) (fun _ _=>rfl) (fun ν=>(zef (zeq zux) (vq 4 rfl) zcp)),⟨of_u fun ν=>ob_v rfl rfl (zbn (xs:=[(0,.tmp 4),(1,.tmp 7),(2,.tmp 10)]) (qs:=[(0,_),(1,_),(2,_)]) zd8 (.cons ⟨rfl,(vq 1 rfl),rfl⟩ (.cons ⟨rfl,(vq 4 rfl),rfl⟩ (.cons ⟨rfl,(vq 7 rfl),rfl⟩ .nil)))),⟨of_u fun ν=>zan rfl rfl rfl (vq 8 rfl) zd5 (Eq.trans (b:=9) rfl rfl),trivial⟩⟩⟩⟩⟩⟩⟩⟩⟩⟩ ⟨(fun ν ν' h=>rfl),⟨(fun ν ν' h=>rfl),⟨(fun ν ν' h=>rfl),⟨(fun ν ν' h=>rfl),⟨(fun ν ν' h=>by first | rfl | simp only [h 4 rfl]),⟨(fun ν ν' h=>rfl),⟨(fun ν ν' h=>rfl),⟨(fun ν ν' h=>by first | rfl | simp only [h 4 rfl,h 7 rfl]),⟨(fun ν ν' h=>by first | rfl | simp only [h 4 rfl,h 7 rfl]),⟨(fun ν ν' h=>by first | rfl | simp only [h 4 rfl,h 7 rfl]),trivial⟩⟩⟩⟩⟩⟩⟩⟩⟩⟩ ⟨trivial,⟨(fun ν ν' h=>by first | rfl | simp only [h 4 rfl,h 7 rfl]),trivial⟩⟩ zk zk (fun ν=>by kernel_rfl) (fun ν=>by kernel_rfl) (fun ν1 a w O=>?_)
 have O:=zn [] [⟨1,64,ptrH,_⟩,⟨2,64,ptrH,_⟩] O
 refine za0<|wp_ret<|zal ?_ (zaw rfl O (zm 1 rfl) zd5)
 exact (zyg hx).va
theorem zr9 (xs:List RE):Cn Tryz.prog 7 [(SlA 64 [U32] (xs.map REA)).va] (Tu [LsN 64 9 [U32] ((revF xs).1.map REN),In (revF xs).2]):=by
 obtain ⟨it,z,e1,e2,e3,e4,e5⟩:=zqw
 refine Cn.introR Tryz.func7 rfl zk nq (.cons (zlv (fun A hA=>by obtain ⟨x,_,rfl⟩:=List.mem_map.1 hA; exact zha x)).va .nil) zty (fun B w0 a hB0 hN0 O=>?_)
 have O:=zn [(0,(SlO 64 [U32] (xs.map REA) True).va)] [] O
 refine wp_seq<|zh [.v 2 _,.v 3 _] [.g 0,.o 0,.o 1] O (zv rfl (za2 zbb) (zv rfl (za2 za3) o0)) (zz [(0,_),(2,_),(3,_)] [] fun a w O=>?_)
 refine zt<|wp_seq<|zh [.v 8 _,.v 9 _,.v 4 _] [.g 0,.g 1,.g 2,.o 2] O (zv rfl (za1 (gq 0 rfl)) (zv rfl (za5 (xs:=[.tmp 8]) ((zk6 xs).wk (.cons slx .nil)) (.cons (vq 0 rfl) .nil)) (zv rfl (za2 (vq 1 rfl)) o0))) (zz [(0,_),(2,_),(3,_),(4,_)] [] fun a w O=>?_)
 refine zt<|zh [.v 10 _,.v 11 _] [.g 0,.g 1,.g 2,.g 3,.o 1] O (zv rfl (za1 (gq 3 rfl)) (zv rfl (zdp (vq 0 rfl) za3) o0)) (zz [(0,_),(2,_),(3,_),(4,_),(11,_)] [] fun a w O=>?_)
 refine za0<|za8 O (zm 4 rfl) (fun hb0=>?_) (fun hb0=>?_)
 ·have hc:¬ chF xs=0:=by simpa using hb0
  refine wp_seq<|zh [.v 12 _,.v 2 _,.v 3 _] [.g 0,.o 1,.o 2] O (zv rfl (za1 (gq 3 rfl)) (zv rfl (za2 zbb) (zv rfl (za2 (vq 0 rfl)) o0))) (zz [(0,_),(2,_),(3,_)] [] fun a w O=>?_)
  refine za0<|wp_ret<|zaf ?_
  refine zal ?_ (zb9 (rs:=[.tmp 2,.tmp 3]) rfl O (.tmp (zm 1 rfl) (.tmp (zm 2 rfl) .nil)) zd)
  rw [revF,if_neg hc]; exact tu2w nil_ls zbv
 ·have hc:chF xs=0:=by simpa using hb0
  have hl4:=(zmw hc).1
  refine wp_skip<|zt<|zg [] [⟨5,22,ptrH,some 0,_,none⟩] [.alc 0] [.g 0,.g 1,.g 2] O (oc (zb0 rfl rfl rfl zxf) o0) (zz [(0,_),(2,_),(3,_)] [⟨5,22,ptrH,_⟩] fun a w O=>?_)
  refine zt<|wp_seq ?_
  have O:=St.wkL (A':=OwIC 64 9 [U32] ((xs.reverse.take 0).map RED)) O 0 rfl zyu
  obtain ⟨q5,O⟩:=St.nm O 0 rfl
  refine zg [none] [] [.v 13 _,.v 14 _] [.g 0,.g 2,.g 3,.o 1] O (zv rfl (za1 (gq 1 rfl)) (zv rfl (zyj [(5,q5)] rfl (fun v hv=>bw_c hv) (vq 0 rfl) (.cons (gq 0 rfl) (lz0 0 rfl) .nil)) o0)) (zz [(5,_),(2,_),(3,_),(14,_)] [⟨5,22,ptrH,_⟩] fun a w O=>?_)
  obtain ⟨gb,O,hds⟩:=St.itn (ps:=[(5,q5)]) 3 [0] O rfl ⟨rfl,trivial⟩
  have hdis:∀ s∈[5],∀ g,blk (a.eval (.tmp s))=some g→g ∉ gb:=hds
  refine za0<|wp_block ?_
  have O:=St.selL O [0]
  refine zzf (k0:=3) (gb:=gb) (Dd:=[U32]) (Db:=[22,64]) (fun k=>[⟨5,22,ptrH,OwIC 64 9 [U32] ((xs.reverse.take k).map RED)⟩]) none (fun _=>none) O hB0 hN0 rfl (bw_it xs gb) (M:=xs.length) (Y:=fun k=>[In (((xs.length-1-k:Nat)):Int),(REA (xs.reverse.getD k re0)).va]) (fun h=>by cases h) zk [] zk (fun _=>by kernel_rfl) [5] (fun _=>by kernel_rfl) hdis (fun L hL=>by cases hL) (fun _ L hL=>by cases hL) (fun _=>rfl) zd zk (fun l k a1 Ws hk hBs hct O=>?_) (fun a w O=>?_) (fun L hL=>by cases hL) (fun _ L hL=>by cases hL)
  ·have O:St B (rndB B [22,64] gb Ws Ws) 23 [(15,_),(16,_),(5,_)] [⟨5,22,ptrH,OwIC 64 9 [U32] ((xs.reverse.take k).map RED)⟩] a1 Ws:=O
   refine zzg 1 [0,1,2] O rfl rfl rfl zk (zjx fun _ _ h=>h) (Str.zero zd8) rfl zd5 rfl zd rfl zk zk (fun a w O=>?_)
   have O:St B (rndB B [22,64] gb Ws Ws) 23 [(15,_),(16,_),(5,_)] [⟨5,22,ptrH,_⟩,⟨7,64,ptrH,_⟩] a w:=O
   refine za0<|⟨O.base,fun W3 hbg=>?_⟩
   have hrm:=zyd (E:=64) O.base hbg hct rfl rfl
   have O:=St.begin O (Nat.le_refl _) hBs hbg
   refine wpIn_block ?_
   obtain ⟨I,top,i1,i2,i3,O⟩:=St.openIC O 0 rfl
   have O:=St.addSz O 9999
   obtain ⟨h1,eh1⟩:∃ h,W3.heap.size=h:=⟨_,rfl⟩
   rw [eh1] at O i3
   have O:St B (rndB B [22,64] gb Ws W3) 23 [(15,_),(16,_),(5,_),(9999,_)] [⟨5,22,ptrH,_⟩,⟨7,64,ptrH,_⟩] a W3:=O
   refine zw0 (sp:=[.v 17 _,.v 18 _,.v 19 _,.v 20 _,.v 21 VT,.sto 0]) [[],[],[1],[1,2],[0,1,2,3],[0,1,2,3,4]] 4 [0,1,2,3] 0 3 0 [0] 0 za9 zk (zjx fun _ _ h=>h) O (zv rfl (zay (lz0 0 rfl) zg1) (zv rfl (zay (lz0 1 rfl) zd5) (zv rfl (zp9 (h:=h1) (s:=9999) (xs:=[.tmp 18]) (zwu _ (rev_ok hc hk)) zuw zit zzq (.cons (zha _).va .nil) (.cons (vq 1 rfl) .nil) (gq 3 rfl)) (zv rfl (zd0 (D:=[U32]) (l:=[_]) (xs:=[.tmp 19]) (zfv zk) ze3 zk (n_ok zk) nq nq nq (.cons (vq 2 rfl) .nil) rfl rfl) o0)))) rfl zk (zj5 zk) zk rfl rfl zd rfl zd rfl (fun _ _ h _=>h) rfl rfl zk hrm zg1 Tryz.underlying22 e1 e2 e3 e4 e5 zd (by rw [zl4 i1]; simp only [List.length_map,List.length_take,List.length_reverse,List.length_singleton]; omega) zd (fun T hT=>hT) zd (fun A hA=>by obtain rfl:=List.mem_singleton.1 hA; rfl) nq zk zk (fun a w O=>?_)
   have O:St B (rndB B [22,64] gb Ws W3) 23 [(15,_),(16,_),(5,_),(9999,_)] [⟨5,22,ptrH,_⟩] a w:=O
   refine zab ?_
   have O:=St.closeIC zuw i1 i2 i3 O 0 3 rfl rfl
   rw [rev_nxD hk] at O
   have O:=St.selL O [0]
   exact ⟨(fun h=>by cases h),rend_of [2] O ⟨rfl,trivial⟩⟩
  ·have O:=zn [] [⟨5,22,ptrH,_⟩] O
   rw [ztx] at O
   refine zab ?_
   refine zt<|zg [none] [] [.v 22 _,.v 2 _,.v 3 _] [.o 1,.o 2] O (zv rfl (zay (lz0 0 rfl) zg1) (zv rfl (za2 (vq 0 rfl)) (zv rfl (za2 za3) o0))) (zz [(2,_),(3,_)] [⟨5,22,ptrH,_⟩] fun a w O=>?_)
   refine za0<|wp_ret<|zal ?_ (zb9 (rs:=[.tmp 2,.tmp 3]) rfl O (.tmp (zm 0 rfl) (.tmp (zm 1 rfl) .nil)) zd)
   rw [revF,if_pos hc]; exact tu2w zyt zbv
theorem nilI_zn:WkA NilI (ZN 2 0):=⟨rfl,rfl,fun B cs w h=>by
 have e0:riOf 0=⟨false,[]⟩:=by kernel_rfl
 refine ⟨by have h0:lz 0=0:=zk; omega,?_⟩
 rw [e0]
 obtain ⟨ps,rfl,hp⟩:=h
 cases hp with
 | @cons _ c1 _ _ h1 hp=>cases hp with
  | @cons _ c2 _ _ h2 hp =>
   cases hp
   exact ⟨[c1,c2],rfl,.cons h1 (.cons ⟨zd1,.inl ⟨rfl,h2⟩⟩ .nil)⟩⟩
theorem zz0 {B:Nat}{cs:List Value}{w:World}(h:NilI.p B cs w):cbl cs=[]:=by
 obtain ⟨ps,rfl,hp⟩:=h
 cases hp with
 | @cons _ c1 _ _ h1 hp=>cases hp with
  | @cons _ c2 _ _ h2 hp =>
   cases hp
   have e1:c1=[.bool false]:=h1
   have e2:c2=[.slice none 0 0]:=h2
   subst e1; subst e2; rfl
theorem qd_nought:WkA (cat [NilI,ZN 2 1]) (QD 2 0):=⟨rfl,rfl,fun B cs w h=>by
 refine ⟨(zch (.cons nilI_zn (.cons (WkA.refl _) .nil))).2.2 _ _ _ h,?_⟩
 obtain ⟨ps,rfl,hp⟩:=h
 cases hp with
 | @cons _ c1 _ _ h1 hp=>cases hp with
  | @cons _ c2 _ _ h2 hp =>
   cases hp
   have e:([c1,c2]:List (List Value)).flatten=c1++c2:=by simp
   rw [e,ze1,zz0 h1]
   exact nod_zn _ _ _ h2⟩
theorem zus  : Cn Tryz.prog 22 [] ((QD 2 0).va):=by
 refine Cn.intro Tryz.func22 rfl zk nq (fun B w0 a O=>?_)
 have O:=zn [] [] O
 refine wp_seq<|zg [] [⟨0,33,ptrH,some 0,_,none⟩] [.alc 0] [] O (oc (zb0 rfl rfl rfl (Str.zero zec)) o0) (zz [] [⟨0,33,ptrH,_⟩] fun a w O=>?_)
 refine zt<|zg [some (2,_)] [] [.v 1 _,.v 2 _,.sto 0] [] O (zv rfl (za5 (xs:=[.const (.int .i64 (1))]) (of_zn zd zd) (.cons za3 .nil)) (zv rfl (zbn (xs:=[(1,.tmp 1)]) (qs:=[(1,_)]) zec (.cons ⟨rfl,(vq 0 rfl),rfl⟩ .nil)) (oc (zan rfl rfl rfl (vq 1 rfl) zb5 (Eq.trans (b:=4) rfl rfl)) o0))) (zz [] [⟨0,33,ptrH,_⟩] fun a w O=>?_)
 refine za0<|wp_ret<|zal ?_ (zaw rfl O (zm 0 rfl) zb5)
 exact qd_nought.va
theorem qa_dp {k:Nat}{q:Rat}:∀ T∈(QA k q).deps,T∈[U32]:=fun T hT=>by
 have h:(QA k q).deps=[U32,U32]:=by kernel_rfl
 rw [h] at hT
 simpa using hT
def lenQ (xs:List RE):Rat:=xs.foldl (fun n x=>if (x.k==1) || (x.k==3) then n+toQ x.p else n) 0
theorem zpo {xs:List RE}{j:Nat}(hj:j<xs.length):lenQ (xs.take (j+1))=if (xs[j].k==1) || (xs[j].k==3) then lenQ (xs.take j)+toQ xs[j].p else lenQ (xs.take j):=by
 unfold lenQ
 rw [List.take_succ_eq_append_getElem hj,List.foldl_append]
 rfl
def lenF (xs:List RE):RF × Int:=if chF xs=0 then ansF (lenQ xs) else (rf0,chF xs)
theorem bd_len (xs:List RE):bdF (lenF xs).1:=by
 unfold lenF
 split
 ·exact bd_ans _
 ·exact bd_rf0
theorem qa1_dp {k:Nat}{q:Rat}:∀ A∈[QA k q],∀ T∈A.deps,T∈[U32]:=fun A hA=>by
 simp at hA
 subst hA
 exact qa_dp
theorem zxp {c:Nat}(q:Rat):Cn Tryz.prog 24 [(QD c q).va,(SlA 33 [U32] [QA c q]).va] (FrD (ansF q)):=by
 refine Cn.intro Tryz.func24 rfl zk nq (fun B w0 a O=>?_)
 have O:=zn [(0,(QD c q).va),(1,(SlA 33 [U32] [QA c q]).va)] [] O
 refine wp_seq<|zg [] [⟨2,33,ptrH,some 0,_,none⟩,⟨4,33,ptrH,some 1,_,none⟩] [.alc 0,.alc 1,.v 5 _] [.g 1,.o 2] O (oc (zav rfl rfl rfl (gq 0 rfl)) (oc (zb0 rfl rfl rfl (Str.zero zec)) (zv rfl (za2 za3) o0))) (zz [(1,_),(5,_)] [⟨2,33,ptrH,_⟩,⟨4,33,ptrH,_⟩] fun a w O=>?_)
 refine zt<|wp_seq<|zg [none,none] [] [.v 6 _,.v 7 _] [.g 1,.o 1] O (zv rfl (za1 (gq 0 rfl)) (zv rfl (za5 (xs:=[.tmp 6]) (long_q [q] (.cons ⟨_,rfl⟩ .nil) nq) (.cons (vq 0 rfl) .nil)) o0)) (zz [(5,_),(7,_)] [⟨2,33,ptrH,_⟩,⟨4,33,ptrH,_⟩] fun a w O=>?_)
 refine za0<|za8 O (zm 1 rfl) (fun hb0=>?_) (fun hb0=>?_)
 ·rw [zhq] at hb0
  refine wp_seq<|zg [none,some (1,_)] [] [.v 8 _,.sto 1,.v 5 _] [.o 2] O (zv rfl (zay (lz0 1 rfl) zb5) (oc (zan rfl rfl rfl (vq 0 rfl) zb5 (Eq.trans (b:=4) rfl rfl)) (zv rfl (za2 za3) o0))) (zz [(5,_)] [⟨2,33,ptrH,_⟩,⟨4,33,ptrH,_⟩] fun a w O=>?_)
  refine za0<|wp_ret<|zaf ?_
  refine zal ?_ (zb9 (rs:=[.cell 4 33,.tmp 5]) rfl O (.cell (zm 1 rfl) zb5 (.tmp (zm 0 rfl) .nil)) zd)
  rw [ansF,if_pos hb0]; exact tu2w zf_rfd.va zbv
 ·rw [zhq] at hb0
  refine wp_skip<|zt<|zg [none,some (1,_)] [] [.v 9 _,.sto 1,.v 5 _] [.o 2] O (zv rfl (zay (lz0 0 rfl) zb5) (oc (zan rfl rfl rfl (vq 0 rfl) zb5 (Eq.trans (b:=4) rfl rfl)) (zv rfl (za2 za3) o0))) (zz [(5,_)] [⟨2,33,ptrH,_⟩,⟨4,33,ptrH,_⟩] fun a w O=>?_)
  refine za0<|wp_ret<|zal ?_ (zb9 (rs:=[.cell 4 33,.tmp 5]) rfl O (.cell (zm 1 rfl) zb5 (.tmp (zm 0 rfl) .nil)) zd)
  rw [ansF,if_neg (by rw [hb0]; decide)]; exact tu2w qd_rfd.va zbv
theorem zxo {c:Nat}(q:Rat):Cn Tryz.prog 24 [(QD c q).va,(SlA 33 [U32] [QD c q]).va] (FrD (ansF q)) :=
 (zxp q).wk (.cons zbv (.cons (zt4 (.cons qd_qa .nil) qa1_dp).va .nil))
set_option maxHeartbeats 2000000 in
theorem zvl (xs:List RE):Cn Tryz.prog 8 [(SlA 64 [U32] (xs.map REA)).va] (FrD (lenF xs)):=by
 refine Cn.introF Tryz.func8 rfl zk nq (fun B w0 a hF O=>?_)
 have O:=zn [(0,(SlA 64 [U32] (xs.map REA)).va)] [] O
 obtain ⟨v0,hv0,O⟩:=St.eqv O 0 rfl
 refine wp_seq<|zg [] [⟨2,33,ptrH,some 0,_,none⟩] [.alc 0,.v 3 _] [.g 0,.o 1] O (oc (zb0 rfl rfl rfl (Str.zero zec)) (zv rfl (za2 za3) o0)) (zz [(0,_),(3,_)] [⟨2,33,ptrH,_⟩] fun a w O=>?_)
 refine zt<|wp_seq<|zg [none] [] [.v 8 _,.v 9 _,.v 4 _] [.g 0,.g 1,.o 2] O (zv rfl (za1 (gq 0 rfl)) (zv rfl (za5 (xs:=[.tmp 8]) (zk6 xs) (.cons (zbe hF hv0 (vq 0 rfl)) .nil)) (zv rfl (za2 (vq 1 rfl)) o0))) (zz [(0,_),(3,_),(4,_)] [⟨2,33,ptrH,_⟩] fun a w O=>?_)
 refine zt<|zg [none] [] [.v 10 _,.v 11 _] [.g 0,.g 1,.g 2,.o 1] O (zv rfl (za1 (gq 2 rfl)) (zv rfl (zdp (vq 0 rfl) za3) o0)) (zz [(0,_),(3,_),(4,_),(11,_)] [⟨2,33,ptrH,_⟩] fun a w O=>?_)
 refine za0<|za8 O (zm 3 rfl) (fun hb0=>?_) (fun hb0=>?_)
 ·have hc:¬ chF xs=0:=by simpa using hb0
  refine wp_seq<|zg [some (2,_)] [] [.v 12 _,.v 13 _,.sto 0,.v 3 _] [.g 0,.o 3] O (zv rfl (zbn (xs:=[]) (qs:=[]) zec .nil) (zv rfl (za1 (gq 2 rfl)) (oc (zan rfl rfl rfl (vq 0 rfl) zb5 (Eq.trans (b:=4) rfl rfl)) (zv rfl (za2 (vq 1 rfl)) o0)))) (zz [(0,_),(3,_)] [⟨2,33,ptrH,_⟩] fun a w O=>?_)
  refine za0<|wp_ret<|zaf ?_
  refine zal ?_ (zb9 (rs:=[.cell 2 33,.tmp 3]) rfl O (.cell (zm 0 rfl) zb5 (.tmp (zm 1 rfl) .nil)) zd)
  rw [lenF,if_neg hc]; exact tu2w zf_rfd.va zbv
 ·have hc:chF xs=0:=by simpa using hb0
  have hl4:=(zmw hc).1
  refine wp_skip<|zt<|zg [none] [⟨5,33,ptrH,some 1,_,some (2,_)⟩] [.v 14 _,.alc 1,.sto 1] [.g 0,.g 1] O (zv rfl (za5 (xs:=[]) zus .nil) (oc (zb0 rfl rfl rfl (Str.zero zec)) (oc (zan rfl rfl rfl (vq 0 rfl) zb5 (Eq.trans (b:=4) rfl rfl)) o0))) (zz [(0,_),(3,_)] [⟨2,33,ptrH,_⟩,⟨5,33,ptrH,_⟩] fun a w O=>?_)
  refine zt<|wp_seq<|zg [none,none] [] [.v 15 _,.v 16 _,.v 17 _] [.g 1,.o 0,.o 1,.o 2] O (zv rfl (za1 (gq 0 rfl)) (zv rfl (zbf Tryz.underlying22 (zbe hF hv0 (vq 0 rfl))) (zv rfl (za1 za3) o0))) (zz [(3,_),(15,_),(16,_),(17,_)] [⟨2,33,ptrH,_⟩,⟨5,33,ptrH,_⟩] fun a w O=>?_)
  refine za0<|wp_block ?_
  have O:=St.sel O [1,2,3]
  refine wp_loop_ghost (fun n a w=>∃ j:Nat,n+j=xs.length∧St B w0 40 [(15,EqV v0),(16,In (xs.length:Nat)),(17,In (j:Nat))] [⟨2,33,ptrH,cat [NilI,NilI]⟩,⟨5,33,ptrH,QD (2+2049*j) (lenQ (xs.take j))⟩] a w) (xs.length) ?_ ?_
  ·rw [List.length_map] at O
   exact ⟨0,by omega,St.wkL (A':=QD (2+2049*0) (lenQ (xs.take 0))) O 1 rfl (WkA.refl _)⟩
  intro n a w hI
  obtain ⟨j,hn,O⟩:=hI
  refine wp_seq<|zg [none,none] [] [.v 18 _] [.g 0,.g 1,.g 2,.o 0] O (zv rfl (zaz (gq 2 rfl) (gq 1 rfl)) o0) (zz [(15,_),(16,_),(17,_),(18,_)] [⟨2,33,ptrH,_⟩,⟨5,33,ptrH,_⟩] fun a w O=>?_)
  refine zt<|za8 O (zm 3 rfl) (fun hb1=>?_) (fun hb1=>?_)
  ·have hj:j<xs.length:=by simp at hb1; omega
   refine wp_skip<|zt<|wp_block<|wp_seq<|zg [none,none] [⟨7,64,ptrH,some 2,_,some (3,_)⟩] [.v 19 _,.v 20 _,.alc 2,.sto 2] [.g 0,.g 1,.g 2] O (zv rfl (zcv ze3 (zf3 fun _=>rfl) (zbe hF hv0 (gq 0 rfl)) (gq 2 rfl) (zdt hj)) (zv rfl (zad (vq 0 rfl) zd5) (oc (zb0 rfl rfl rfl (Str.zero zd8)) (oc (zan rfl rfl rfl (vq 1 rfl) zd5 (Eq.trans (b:=9) rfl rfl)) o0)))) (zz [(15,_),(16,_),(17,_)] [⟨2,33,ptrH,_⟩,⟨5,33,ptrH,_⟩,⟨7,64,ptrH,_⟩] fun a w O=>?_)
   refine zt ?_
   have O:=St.wkL O 2 rfl (el_q (elF_x ((zmw hc).2 _ (List.getElem_mem hj))))
   refine zg [none,none,none] [] [.adr 21 7 (.some 0) True,.v 22 _,.v 23 _,.v 24 _,.adr 25 7 (.some 0) (_=false),.v 26 (Wh (_=false) _),.v 27 (Wh (_=false) _),.v 28 _] [.g 0,.g 1,.g 2,.o 7] O (oc (ob_a rfl rfl (zae (lz0 2 rfl) zcc)) (zv rfl (za4 0 rfl zk trivial (lz0 2 rfl) (Sub.part 0 rfl rfl) zfu) (zv rfl (zc3 (vq 1 rfl) za3) (zv rfl (za1 (vq 2 rfl)) (oc (zcf rfl rfl rfl (vq 3 rfl) nq (fun hg=>zae (lz0 2 rfl) zcc)) (oc (zai rfl rfl rfl (vq 3 rfl) nq (fun hg=>za4 4 rfl zk hg (lz0 2 rfl) (Sub.part 0 rfl rfl) zfu)) (oc (zai rfl rfl rfl (vq 3 rfl) nq (fun hg=>zc3 (zaa (vq 5 rfl) hg) za3)) (zv rfl (r_or (vq 3 rfl) (vq 6 rfl)) o0)))))))) (zz [(15,_),(16,_),(17,_),(28,_)] [⟨2,33,ptrH,_⟩,⟨5,33,ptrH,_⟩,⟨7,64,ptrH,_⟩] fun a w O=>?_)
   refine za0<|zc8 (fun a w =>  St B w0 40 [(15,EqV v0),(16,In (xs.length:Nat)),(17,In (j:Nat))] [⟨2,33,ptrH,cat [NilI,NilI]⟩,⟨5,33,ptrH,QD (2+2049*(j+1)) (lenQ (xs.take (j+1)))⟩,⟨7,64,ptrH,QEA 2048 xs[j].k (toQ xs[j].p) (toQ xs[j].q)⟩] a w) O (zm 3 rfl) (fun hb2=>?_) (fun hb2=>?_) (fun a w O=>?_)
   ·refine zg [none,some (4,_),none] [] [.v 29 _,.adr 30 7 (.some 1) True,.v 31 _,.v 32 _,.sto 1] [.g 0,.g 1,.g 2] O (zv rfl (zay (lz0 1 rfl) zb5) (oc (ob_a rfl rfl (zae (lz0 2 rfl) zc4)) (zv rfl (za4 1 rfl zk trivial (lz0 2 rfl) (Sub.part 1 rfl rfl) zb5) (zv rfl (za5 (xs:=[.tmp 29,.tmp 31]) ((plusD_q (c:=2+2049*j) (d:=2048) zo).wk (.cons qd_qa.va (.cons zbv .nil))) (.cons (vq 0 rfl) (.cons (vq 2 rfl) .nil))) (oc (zan rfl rfl rfl (vq 3 rfl) zb5 (Eq.trans (b:=4) rfl rfl)) o0))))) (zz [(15,_),(16,_),(17,_)] [⟨2,33,ptrH,_⟩,⟨5,33,ptrH,_⟩,⟨7,64,ptrH,_⟩] fun a w O=>?_)
    refine za0 ?_
    have O:=St.sel O [0,1,2]
    have O:=St.wkL (A':=QD (2+2049*(j+1)) (lenQ (xs.take (j+1)))) O 1 rfl (by rw [zpo hj,if_pos (by simpa using hb2)]; exact znm zo)
    exact O
   ·refine wp_skip<|za0 ?_
    have O:=St.sel O [0,1,2]
    have O:=St.wkL (A':=QD (2+2049*(j+1)) (lenQ (xs.take (j+1)))) O 1 rfl (by rw [zpo hj,if_neg (by simpa using hb2)]; exact znm zo)
    exact O
   refine zab ?_
   refine za0<|zg [none,none,none] [] [.v 33 _,.v 17 _] [.g 0,.g 1,.o 1] O (zv rfl (zb2 (gq 2 rfl) za3 ((wi64 zo zo).trans (by omega:(_:Int)=((j+1:Nat):Int)))) (zv rfl (za1 (vq 0 rfl)) o0)) (zz [(15,_),(16,_),(17,_)] [⟨2,33,ptrH,_⟩,⟨5,33,ptrH,_⟩,⟨7,64,ptrH,_⟩] fun a w O=>?_)
   refine za0 ?_
   have O:=St.sel O [0,1,2]
   have O:=St.selL O [0,1]
   exact ⟨n-1,by omega,j+1,by omega,O⟩
  ·obtain rfl:j=xs.length:=by simp at hb1; omega
   rw [List.take_length] at O
   refine wp_exit<|za7<|za7<|zam<|zt<|zg [some (6,_),none] [] [.v 34 _,.v 35 _,.v 36 _,.v 37 _,.v 38 _,.v 39 _,.sto 0,.v 3 _] [.o 7] O (zv rfl (zay (lz0 1 rfl) zb5) (zv rfl (zay (lz0 1 rfl) zb5) (zv rfl (zd0 (D:=[U32]) (l:=[_]) (xs:=[.tmp 35]) (zfv zk) zkc zk (n_ok zk) nq nq nq (.cons (vq 1 rfl) .nil) rfl rfl) (zv rfl (za5 (xs:=[.tmp 34,.tmp 36]) (zxo (lenQ xs)) (.cons (vq 0 rfl) (.cons (vq 2 rfl) .nil))) (zv rfl (zu8 (vq 3 rfl)) (zv rfl (zu7 (vq 3 rfl)) (oc (zan rfl rfl rfl (vq 4 rfl) zb5 (Eq.trans (b:=4) rfl rfl)) (zv rfl (za2 (vq 5 rfl)) o0)))))))) (zz [(3,_)] [⟨2,33,ptrH,_⟩,⟨5,33,ptrH,_⟩] fun a w O=>?_)
   refine za0<|wp_ret<|zal ?_ (zb9 (rs:=[.cell 2 33,.tmp 3]) rfl O (.cell (zm 0 rfl) zb5 (.tmp (zm 0 rfl) .nil)) zd)
   rw [lenF,if_pos hc]; exact zbv
end Go.Proofs.YtmfgafhlaeolgaaGreatDoor
