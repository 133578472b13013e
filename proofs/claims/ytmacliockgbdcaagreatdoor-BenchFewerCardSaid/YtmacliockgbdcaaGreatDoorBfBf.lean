import Derived.Test.YtmacliockgbdcaaGreatDoorBfAa
import Derived.Test.YtmacliockgbdcaaGreatDoorBfAc
import Derived.Test.YtmacliockgbdcaaGreatDoorBfBe
import Derived.ArgAppend
import Derived.Laws.AppendOwn
import Derived.Laws.OwnMore
import Derived.Orders
set_option linter.unusedVariables false
set_option linter.unusedSimpArgs false
set_option linter.unusedSectionVars false
set_option maxRecDepth 100000
namespace Go.Proofs.YtmacliockgbdcaaGreatDoor
open Go Go.RowKit
def OwL (b h E m:Nat)(D:List TypeId)(l:List As):VA where
 p B v w:=(OwnR b E m D l).p B v w∧∀ g,v.ownBlock=some g→g<h
 deps:=E::D
 cg:=fun B v w w' hg ⟨h1,h2⟩=>⟨(OwnR b E m D l).cg _ _ _ _ hg h1,h2⟩
 wr:=fun B v w w' g c T fz h1 h2 h3 h4 ⟨h5,h6⟩=>⟨(OwnR b E m D l).wr _ _ _ _ _ _ _ _ h1 h2 h3 h4 h5,h6⟩
def OwN (b h E m:Nat)(D:List TypeId)(v:Value)(l:List As):VA where
 p B x w:=x=v∧(OwL b h E m D l).p B v w
 deps:=E::D
 cg:=fun B v w w' hg ⟨h1,h2⟩=>⟨h1,(OwL b h E m D l).cg _ _ _ _ hg h2⟩
 wr:=fun B v w w' g c T fz h1 h2 h3 h4 ⟨h5,h6⟩=>⟨h5,(OwL b h E m D l).wr _ _ _ _ _ _ _ _ h1 h2 h3 h4 h6⟩
section
variable {b h E m:Nat} {D:List TypeId} {l:List As} {v:Value}
theorem t7:Wk (OwL b h E m D l) (OwnR b E m D l):=fun _ _ _ h=>h.1
theorem yg:Wk (OwL b h E m D l) (SlA E D l).va:=fun _ _ _ h=>eP _ _ _ h.1
theorem AV:Wk (OwN b h E m D v l) (OwnR b E m D l):=fun _ _ _ h=>h.1▸h.2.1
theorem sV:Wk (OwN b h E m D v l) (SlA E D l).va:=fun _ _ _ h=>eP _ _ _ (h.1▸h.2.1)
theorem AW:Wk (OwN b h E m D v l) (EqV v):=fun _ _ _ h=>h.1
end
theorem own_lo {b E m:Nat}{D:List TypeId}{l:List As}{B:Nat}{v:Value}{w:World}(hp:(OwnR b E m D l).p B v w):(OwL b w.heap.size E m D l).p B v w:=by
 obtain ⟨_,_,ds,_,q⟩:=id hp
 exact ⟨hp,fun g hg=>by
  obtain ⟨_,c,fz,q2⟩:=dT q g hg
  exact (Array.getElem?_eq_some_iff.1 q2).1⟩
section
variable {B N:Nat} {w0:Bs} {Γ:List (Nat × VA)} {Λ:List Lc} {a:Act} {w:World}
theorem St.nameN (hs:St B w0 N Γ Λ a w){s b h E m:Nat}{D:List TypeId}{l:List As}(k:Nat)(hm:Γ[k]?=some (s,OwL b h E m D l)):∃ v,St B w0 N (Γ.set k (s,OwN b h E m D v l)) Λ a w:=⟨a.eval (.tmp s),hs.setG k hm fun h=>⟨rfl,h⟩⟩
theorem St.destN (hs:St B w0 N Γ Λ a w){s b h E m:Nat}{D:List TypeId}{l:List As}{v:Value}(k:Nat)(hm:Γ[k]?=some (s,OwN b h E m D v l))(h0:0<l.length):∃ gr cap,v=.slice (some ⟨gr,0,none⟩) l.length cap:=p7 (hs.getG k hm).2.1 h0
end
section
open Rg
variable {P:Program} {Q:Exit→Act→World→Prop} {B N:Nat} {w0:Bs} {Γ:List (Nat × VA)} {Λ:List Lc} {a:Act} {w:World}
theorem B3 {ops:Array Oper}{i d x sg h1:Nat}{T ty T1 T2:TypeId}{A0 A:As}{ps1 ps2:String}{af1 af2:Array Edge}{rest:List Nat}(kx kg:Nat)(src:List Nat)
  (ho1:ops[i]?=some ⟨some d,.alloc T,T1,ps1,af1,none⟩) (ho2:ops[i+1]?=some ⟨none,.store ty (.tmp d) (.tmp x),T2,ps2,af2,none⟩)
  (h:St B w0 N Γ Λ a w) (hz:Zero P T A0) (hx:Γ[kx]?=some (x,A.va)) (hG:Γ[kg]?=some (sg,SzV h1)) (ht:Ty P ty A.n A.ag) (hn:A0.n=A.n) (hd:d<N) (hdx:(d != x)=true)
  (hsrc:src.all (fun k=>match Γ[k]? with | some y=>y.1 != d | none=>false)=true) (hΛ:Λ.all (fun l=>l.s != d)=true)
  (hK:∀ a' w',St B w0 N ((d,PtrGe h1)::src.filterMap fun k=>Γ[k]?) (Λ++[⟨d,T,ptrH,A⟩]) a' w'→wpOps P ops Q rest a' w'):wpOps P ops Q (i::(i+1)::rest) a w:=by
 obtain ⟨it,z,z1,z2,z3⟩:=hz
 obtain ⟨cs,hp,hv⟩:=h.vals _ (List.mem_of_getElem? hx)
 have hv':a.eval (.tmp x)=shape A.ag cs:=hv
 have l1:=A.len _ _ _ hp
 have l0:=A0.len _ _ _ (z3 B w)
 have hds:d<a.tmps.size:=by rw [h.size]; exact hd
 have hdx':x≠d:=fun e=>by subst e; simp at hdx
 have hΛ':∀ l∈Λ,l.s≠d:=fun l hl=>by
  have:=List.all_eq_true.1 hΛ l hl
  simpa using this
 obtain ⟨W1,hW1⟩:∃ W1,w.alloc (.cells z.cells T)=W1:=⟨_,rfl⟩
 have hg1:Grow w W1:=by rw [← hW1]; exact Grow.alloc _ _
 have hnew:W1.heap[w.heap.size]?=some (.cells z.cells T (0,0)):=by rw [← hW1]; exact heap_alloc_new w _
 rw [wpOps_cons]
 refine (bv (R:=⟨ops,N,Γ,[],[],fun _=>[]⟩) ho1 G (ba (w':=W1) (v:=ptr w.heap.size) ?_ ?_))
 ·rw [← hW1]; simp [execOp,Instr.alloc,zeroValue,typeInfo,z1,z2,newVar,newRow,ptr]
 obtain ⟨a1,ha1⟩:∃ a1,a.put (some d) (ptr w.heap.size)=a1:=⟨_,rfl⟩
 have ed:a1.eval (.tmp d)=ptr w.heap.size:=by rw [← ha1]; exact aM _ _ _ hds
 have eo:∀ t,t≠d→a1.eval (.tmp t)=a.eval (.tmp t):=fun t ht=>by rw [← ha1]; exact aj _ _ _ _ ht
 have ef:a1.defers=a.defers:=by rw [← ha1]; rfl
 have es:a1.tmps.size=N:=by rw [← ha1,bu]; exact h.size
 rw [ha1]
 have l2:z.cells.size=A0.n:=by simpa using l0
 have hrun:=bL ht W1 w.heap.size 0 T z.cells _ cs (A.cells_shape hp) l1 zo (A.one _ _ _ hp) hnew
 rw [List.drop_of_length_le (by simp; omega)] at hrun
 simp only [List.take_zero,List.nil_append,List.append_nil] at hrun
 have hW:=Wr.setRow W1 w.heap.size cs.toArray
 have hcell:(W1.setRow w.heap.size cs.toArray).heap[w.heap.size]?=some (.cells cs.toArray T (0,0)):=setRow_heap W1 _ _ _ _ _ hnew
 have hgr:Grow w (W1.setRow w.heap.size cs.toArray):=Kept.grow0 ((hg1.kept).wr hW (.inl (Nat.le_refl _)))
 rw [wpOps_cons]
 have U:wpOps P ops Q rest a1 (W1.setRow w.heap.size cs.toArray):=by
  refine hK _ _ ⟨h.lo,?_,es,h.base.grow hgr,fun y hy=>?_,fun m hm=>?_,fun m hm m' hm' hne=>?_⟩
  ·exact h.defers.grow hgr ef
  ·rcases List.mem_cons.1 hy with rfl | hy
   ·exact ⟨w.heap.size,ed,h.vals _ (List.mem_of_getElem? hG)⟩
   obtain ⟨k,hk1,hk2⟩:=List.mem_filterMap.1 hy
   have:=List.all_eq_true.1 hsrc k hk1
   rw [hk2] at this
   rw [eo _ (by simpa using this)]
   exact y.2.grow _ _ _ _ hgr (h.vals y (List.mem_of_getElem? hk2))
  ·rcases List.mem_append.1 hm with hm | hm
   ·obtain ⟨g,c,q1,q2,q3,q4⟩:=h.locs m hm
    exact ⟨g,c,by rw [eo _ (hΛ' m hm)]; exact q1,q2,hgr.heap q3,m.A.grow _ _ _ _ hgr q4⟩
   ·obtain rfl:=List.mem_singleton.1 hm
    exact ⟨w.heap.size,cs,ed,.inl h.base.size,hcell,A.grow _ _ _ _ hgr hp⟩
  ·have hnm:∀ m∈Λ,∃ g,blk (a1.eval (.tmp m.s))=some g∧g<w.heap.size:=fun m hm=>by
    obtain ⟨g,c,q1,q2,q3,q4⟩:=h.locs m hm
    exact ⟨g,by rw [eo _ (hΛ' m hm),q1]; exact m.H.ok g,(Array.getElem?_eq_some_iff.1 q3).1⟩
   have hd0:blk (a1.eval (.tmp d))=some w.heap.size:=by rw [ed]; rfl
   rcases List.mem_append.1 hm with hm | hm <;> rcases List.mem_append.1 hm' with hm' | hm'
   ·rw [eo _ (hΛ' m hm),eo _ (hΛ' m' hm')]
    exact h.dis m hm m' hm' hne
   ·obtain rfl:=List.mem_singleton.1 hm'
    obtain ⟨g,q1,q2⟩:=hnm m hm
    rw [q1,hd0]
    intro e
    injection e with e
    omega
   ·obtain rfl:=List.mem_singleton.1 hm
    obtain ⟨g,q1,q2⟩:=hnm m' hm'
    rw [q1,hd0]
    intro e
    injection e with e
    omega
   ·obtain rfl:=List.mem_singleton.1 hm
    obtain rfl:=List.mem_singleton.1 hm'
    exact absurd G hne
 unfold wpOp
 rw [ho2]
 have hwant:Region.wanted (⟨none,.store ty (.tmp d) (.tmp x),T2,ps2,af2,none⟩:Oper) (yielded ops a1.tmps)=true:=rfl
 simp only [hwant,if_true]
 refine .inl (wp_skip' (w':=W1.setRow w.heap.size cs.toArray) ?_ U)
 have e2:a1.eval (.tmp x)=shape A.ag cs:=by rw [eo _ hdx']; exact hv'
 have e1:a1.eval (.tmp d)=.pointer (some ⟨w.heap.size,0,none⟩):=ed
 simp [execOp,e1,e2,Instr.storeAt,Instr.sureAddr,hrun]
end
section
open Rg
variable {P:Program} {Q:Exit→Act→World→Prop} {B N:Nat} {w0:Bs} {Γ:List (Nat × VA)} {Λ:List Lc} {a:Act} {w:World} {ops:Array Oper} {i:Nat} {K:Act→World→Prop} {T E Tp:TypeId} {m:Nat} {D:List TypeId} {g:Nat} {v:Value} {l:List As}
theorem B1 {p d s s7 h1 b gr c o:Nat}{ty T':TypeId}{ps:String}{af:Array Edge}{A X X':As}(src:List Nat)(kp kd ks k7:Nat)(ho:ops[i]?=some ⟨none,.store ty (.tmp p) (.tmp d),T',ps,af,none⟩)(h:St B w0 N Γ Λ a w)
  (hp:Γ[kp]?=some (p,EqV (.pointer (some ⟨gr,l.length*m+o,none⟩)))) (hd:Γ[kd]?=some (d,A.va)) (ht:Ty P ty A.n A.ag) (hs:Γ[ks]?=some (s,OwN b h1 E m D (.slice (some ⟨gr,0,none⟩) (l++[X]).length c) (l++[X]))) (h7:Γ[k7]?=some (s7,PtrGe h1))
  (hput:Put X o A X') (hX:X'.n=X.n) (hXD:X'.deps.all (fun t=>D.contains t)=true) (hED:D.contains E=false) (hb:w0.w.heap.size≤b)
  (hsrc:src.all (fun k=>match Γ[k]? with | some y => !y.2.deps.contains E | none=>false)=true) (hΛ:Λ.all (fun x=>(x.T != E || x.s==s7) && !x.A.deps.contains E)=true)
  (hK:∀ w',St B w0 N ((s,OwN b h1 E m D (.slice (some ⟨gr,0,none⟩) (l++[X]).length c) (l++[X']))::src.filterMap fun k=>Γ[k]?) Λ a w'→K (a.put none undef) w'):wpOp P ops Q i K a w:=by
 have e1:a.eval (.tmp p)=.pointer (some ⟨gr,l.length*m+o,none⟩):=h.vals _ (List.mem_of_getElem? hp)
 obtain ⟨cs',hpA,hv⟩:=h.vals _ (List.mem_of_getElem? hd)
 obtain ⟨ev,⟨q7,q8,ds,q9,hln,q10⟩,hlt⟩:=h.vals _ (List.mem_of_getElem? hs)
 obtain ⟨g7,e7,h7⟩:=h.vals _ (List.mem_of_getElem? h7)
 have hED':E ∉ D:=by simpa using hED
 have hBb:B≤b:=Nat.le_trans (h.lo _ (.inl (Nat.le_refl _))) hb
 rcases q10 with ⟨h5,_⟩ | ⟨g',cap,cur,f1,f2,f3,f4,f5,f6,f7⟩
 ·cases h5
 ·injection f1 with f1 f1n f1c
  injection f1 with f1
  injection f1 with f1
  subst f1 f1c
  obtain ⟨d0,dx,rfl,h6,h7⟩:=gT q9
  have hm0:∀ A∈l,A.n=m:=fun A hA=>q7 A (List.mem_append.2 (.inl hA))
  have hXm:X.n=m:=q7 X (by simp)
  have l0:d0.length=l.length*m:=by rw [(cat l).len _ _ _ h6,fP hm0]
  have lx:dx.length=m:=by rw [X.len _ _ _ h7,hXm]
  obtain ⟨hoA,hX'⟩:=hput B dx cs' w h7 hpA
  have lA:=A.len _ _ _ hpA
  have hll:(l++[X]).length=l.length+1:=by simp
  rw [hll,Nat.succ_mul] at f7
  have hcur:cur.toList=d0++dx++cur.toList.drop (l.length*m+m):=by rw [← f7,List.take_append_drop]
  have hsz:l.length*m+m≤cur.size:=by
   rw [f6,← Nat.succ_mul]
   exact Nat.mul_le_mul_right _ (by rw [hll] at f4; exact f4)
  have hrun:=bL ht w gr (l.length*m+o) E cur _ cs' (A.cells_shape hpA) lA zo (A.one _ _ _ hpA) f3
  have e3:cur.toList.take (l.length*m+o)++cs'++cur.toList.drop (l.length*m+o+A.n)=d0++splice dx o cs'++cur.toList.drop (l.length*m+m):=by
   have t1:cur.toList.take (l.length*m+o)=d0++dx.take o:=by
    rw [hcur,List.append_assoc,List.take_append,List.take_of_length_le zo,List.take_append_of_le_length zo,l0,Nat.add_sub_cancel_left]
   have t2:cur.toList.drop (l.length*m+o+A.n)=dx.drop (o+cs'.length)++cur.toList.drop (l.length*m+m):=by
    conv=>lhs; rw [hcur]
    rw [List.append_assoc,List.drop_append,List.drop_of_length_le zo,List.nil_append,List.drop_append_of_le_length zo,l0,lA]
    congr 2
    omega
   rw [t1,t2]
   simp [splice,List.append_assoc]
  have hnew:=setRow_heap w gr _ (d0++splice dx o cs'++cur.toList.drop (l.length*m+m)).toArray _ _ f3
  have hW:=Wr.setRow w gr (d0++splice dx o cs'++cur.toList.drop (l.length*m+m)).toArray
  have lsp:(splice dx o cs').length=m:=by rw [X'.len _ _ _ hX',hX,hXm]
  have U:=h.turn0 (b:=b) src hBb (ga (w:=w) (g:=gr) (cs:=(d0++splice dx o cs'++cur.toList.drop (l.length*m+m)).toArray)) (fun g'' e=>by
   injection e with e
   subst e
   exact ⟨f2,_,_,f3⟩) (fun g'' e=>by
   injection e with e
   subst e
   exact .inl (Nat.le_trans hb f2)) hsrc (fun l' hl'=>by
   have hc:=List.all_eq_true.1 hΛ l' hl'
   simp only [Bool.and_eq_true,Bool.or_eq_true,bne_iff_ne,beq_iff_eq,Bool.not_eq_true',List.contains_eq_mem,decide_eq_false_iff_not] at hc
   refine ⟨hc.1.imp id fun e hh=>?_,hc.2⟩
   have:=hlt gr rfl
   rw [e,show a.eval (.tmp s7)=ptr g7 from e7] at hh
   have hh:some g7=some gr:=hh
   injection hh with hh
   omega)
  unfold wpOp
  simp only [ho,Region.wanted,if_true]
  refine .inl (wp_skip' (w':=w.setRow gr (d0++splice dx o cs'++cur.toList.drop (l.length*m+m)).toArray) ?_ (hK _ ⟨U.lo,U.defers,U.size,U.base,fun x hx=>?_,U.locs,U.dis⟩))
  ·have hv':a.eval (.tmp d)=shape A.ag cs':=hv
   rw [e3] at hrun
   simp [execOp,e1,hv',Instr.storeAt,Instr.sureAddr,hrun]
  ·rcases List.mem_cons.1 hx with rfl | hx
   ·refine ⟨ev,⟨fun A hA=>?_,fun A hA=>?_,d0++splice dx o cs',?_,?_,.inr ⟨gr,c,_,by rw [hll]; simp,f2,hnew,by rw [hll] at f4; simpa using f4,f5,?_,?_⟩⟩,hlt⟩
    ·rcases List.mem_append.1 hA with hA | hA
     ·exact hm0 A hA
     ·obtain rfl:=List.mem_singleton.1 hA
      omega
    ·rcases List.mem_append.1 hA with hA | hA
     ·exact q8 A (List.mem_append.2 (.inl hA))
     ·obtain rfl:=List.mem_singleton.1 hA
      exact fun t ht=>by simpa using List.all_eq_true.1 hXD t ht
    ·refine jq ((cat l).wr _ _ _ _ _ _ _ _ f3 (fc (fun A hA=>q8 A (List.mem_append.2 (.inl hA))) hED') (Nat.le_trans hBb f2) hW h6) ?_
     refine ⟨[splice dx o cs'],by simp,.cons (X'.wr _ _ _ _ _ _ _ _ f3 (fun hh=>hED' (by simpa using List.all_eq_true.1 hXD _ hh)) (Nat.le_trans hBb f2) hW hX') .nil⟩
    ·rw [List.length_append,l0,lsp]
     simp [Nat.succ_mul]
    ·have:=congrArg List.length e3
     have hc2:=congrArg List.length hcur
     simp at this hc2
     simp [f6.symm]
     omega
    ·rw [show (d0++splice dx o cs'++cur.toList.drop (l.length*m+m)).toArray.toList=d0++splice dx o cs'++cur.toList.drop (l.length*m+m) from rfl,List.take_append_of_le_length (by simp [l0,lsp,Nat.succ_mul]),List.take_of_length_le (by simp [l0,lsp,Nat.succ_mul])]
   ·exact U.vals x hx
end
section
variable {P:Program} {R:Rg} {Q:Exit→Act→World→Prop} {B i:Nat} {w0:Bs} {T E Tp:TypeId} {m:Nat} {D:List TypeId} {g:Nat} {v u:Value} {l:List As}
theorem r_cutN {b h1:Nat}{x y:Operand}{S:TypeId}{gr n c:Nat}{kd:IntKind}{X:As}(hS:Sl P S E m)(hx:Has R B w0 i x (OwN b h1 E m D (.slice (some ⟨gr,0,none⟩) n c) (l++[X])))(hy:Has R B w0 i y (NumA kd l.length).va)(hk:l.length<n) :
  Wv P Q R B w0 i (.slice S x none (some y) none) (OwnR b E m D l) :=
 bb fun _ _ _ _ _ a w av=>by
  have hx0:=hx a w av
  obtain ⟨hv,⟨_,_,ds,_,hln,h5⟩,_⟩:=hx a w av
  have e:=bj (hy a w av)
  obtain ⟨hs1,hs2⟩:=hS
  have hE:P.elem S=E:=by simp [Program.elem,hs1]
  have hs1':P.underlying S=some (.slice (P.elem S)):=by rw [hE]; exact hs1
  have hcn:n≤c:=by
   rcases h5 with ⟨h5,_⟩ | ⟨g',cap,cur,e1,e2,e3,e4,e5,e6,e7⟩
   ·cases h5
   ·injection e1 with e1 e1n e1c
    omega
  have hr:=run_slice_h (P:=P) w S (some ⟨gr,0,none⟩) n c hs1' kd (l.length:Int) zo zo
  have hsz:(sizeOf (P.elem S)).run P w=.ok m w:=by
   rw [hE]
   cases hi:P.info? E with
   | none=>rw [hi] at hs2; simp at hs2
   | some it=>rw [hi] at hs2; simp [sizeOf,typeInfo,hi]; simpa using hs2
  rw [hsz] at hr
  refine ⟨.slice (some ⟨gr,0,none⟩) l.length c,w,?_,Grow.refl w,t5 hx0.2.1⟩
  simp only [execOp,hv,e,Option.map_some,Option.map_none,run_sliceAt_slice _ _ _ _ _ _ hs1',Sem.run_bind,Sem.run_pure]
  erw [hr]
  have hc0:¬ c=0:=by omega
  simp [sliced,hc0,jH]
end
theorem el_q00 {x:RE}(h:elF x=true)(h3:(x.k==3)=false)(h4:(x.k==4)=false):toQ x.q=0:=by
 have z:∀ {q:Rat},(q.num.sign==0)=true→q=0:=fun {q} h=>by rw [qn] at h; exact of_decide_eq_true h
 obtain ⟨_,hk⟩:=iz h
 rw [elF,Bool.and_eq_true] at h
 have h2:=h.2
 simp only [beq_eq_false_iff_ne] at h3 h4
 rcases hk with hk | hk | ⟨hk,_⟩ | hk | hk
 ·rw [hk,kd1 rfl,Bool.and_eq_true] at h2
  exact z h2.2
 ·rw [hk,kd2 rfl rfl] at h2
  exact z h2
 ·exact absurd hk h3
 ·exact absurd hk h4
 ·rw [hk,kd5 rfl rfl rfl rfl,Bool.and_eq_true] at h2
  exact z h2.2
theorem kC {xs:List RE}{j:Nat}{L L':List EQ}{k:Int}{p:Rat}(hj:j<xs.length)(hL:simQ (xs.take j)=L)(hk:sE xs[j]=(k,p))(hp:putQ L k p=L'):simQ (xs.take (j+1))=L':=by
 rw [xY hj,hk,hL]
 exact hp
theorem wI {k:Nat}{L:List EQ}(h:decide (((L.map (ER k)).length:Int)-1<0)=false):In (((L.map (ER k)).length:Int)-1)=In ((L.length-1:Nat):Int):=by
 have:=tR (k:=k) (L:=L) (by rw [List.length_map] at h ⊢; exact h)
 rw [List.length_map] at this ⊢
 exact this
theorem wJ {k:Nat}{L:List EQ}(h:decide (((L.map (ER k)).length:Int)-1<0)=false):(L.map (ER k))[L.length-1]?=some (ER k (lastE L)):=by
 have h0:=of_decide_eq_false h
 rw [List.length_map] at h0
 have h1:L.length-1<L.length:=by omega
 rw [List.getElem?_map,lastE,List.getLast?_eq_getElem?,List.getElem?_eq_getElem h1]
 rfl
theorem nI {k:Int}{p q:Rat}:Cn Tryz.prog 119 [(QEA 2048 k p q).va] ((cat [NumA .u8 k,QA 2051 p,QA 2051 q]).va):=by
 refine Cn.intro Tryz.func119 G zk nq (fun B w0 a U=>?_)
 have U:=zn [(0,(QEA 2048 k p q).va)] [] U
 refine wp_seq<|zg [] [⟨1,67,ptrH,some 0,_,none⟩,⟨2,67,ptrH,some 1,_,none⟩] [.alc 0,.alc 1] [] U (oc (ay G G G (gq 0 G)) (oc (aJ G G G (Str.zero cu)) o0)) (zz [] [O 1 67 _,O 2 67 _] fun a w U=>?_)
 refine zt<|zgd [[],[0],[],[2],[2,3],[],[5],[2,3,4,5,6],[0,1,2,3,4,5,6,7],[0,1,2,3,4,5,6,7,8]] [none,some (9,_)] [] [.adr 3 1 (.some 0) True,.v 4 _,.adr 5 1 (.some 1) True,.v 6 _,.v 7 _,.adr 8 1 (.some 5) True,.v 9 _,.v 10 _,.v 11 _,.sto 1] [] ab U (oc (ob_a G G (ac (lz0 0 G) bP)) (zL 0 0 0 G er (oc (ob_a G G (ac (lz0 0 G) bg)) (zL 2 0 1 G ax (zv G (aa (xs:=[.tmp 6]) (ik zo) (.cons (vq 3 G) .nil)) (oc (ob_a G G (ac (lz0 0 G) bK)) (zL 5 0 2 G ax (zv G (aa (xs:=[.tmp 9]) (ik zo) (.cons (vq 6 G) .nil)) (zv G (bi (xs:=[(0,.tmp 4),(1,.tmp 7),(2,.tmp 10)]) (qs:=[(0,_),(1,_),(2,_)]) cu (.cons ⟨rfl,(vq 1 G),rfl⟩ (.cons ⟨rfl,(vq 4 G),rfl⟩ (.cons ⟨rfl,(vq 7 G),rfl⟩ .nil)))) (oc (aA G G G (vq 8 G) cb (Eq.trans (b:=9) G G)) o0)))))))))) zk zk zk zk (zz [] [O 1 67 _,O 2 67 _] fun a w U=>?_)
 refine a7<|wp_ret<|ar ?_ (az G U (zm 1 G) cb)
 exact bh
theorem qA {x:RE}{k:Int}{p:Rat}(h:elF x=true)(he:sE x=(k,p)):Cn Tryz.prog 36 [(REA x).va] ((ER 4099 (k,p)).va):=by
 obtain ⟨hx,hkk⟩:=iz h
 refine Cn.intro Tryz.func36 G zk nq (fun B w0 a U=>?_)
 have U:=zn [(0,(REA x).va)] [] U
 refine wp_seq<|zg [] [⟨1,67,ptrH,some 0,_,none⟩,⟨2,67,ptrH,some 1,_,none⟩] [.alc 0,.alc 1] [] U (oc (ay G G G (gq 0 G)) (oc (aJ G G G (Str.zero cu)) o0)) (zz [] [O 1 67 _,O 2 67 _] fun a w U=>?_)
 have U:=St.wkL U 0 rfl (el_q hx)
 refine zt<|wp_seq<|zg [none,none] [] [.adr 3 1 (.some 0) True,.v 4 _] [.o 1] U (oc (ob_a G G (ac (lz0 0 G) bP)) (zL 0 0 0 G er o0)) (zz [(4,_)] [O 1 67 _,O 2 67 _] fun a w U=>?_)
 refine a7<|wp_block<|wp_seq<|zg [none,none] [] [.v 6 _,.v 5 _] [.g 0,.o 1] U (zv G (bD (gq 0 G) a8) (zA 0 G o0)) (zz [(4,_),(5,_)] [O 1 67 _,O 2 67 _] fun a w U=>?_)
 refine a7<|ah U (zm 1 G) (fun hb0=>?_) (fun hb0=>?_)
 ·refine wp_seq<|zg [none,some (6,_)] [] [.adr 7 1 (.some 1) True,.v 8 _,.adr 9 1 (.some 5) True,.v 10 _,.v 11 _,.v 12 _,.sto 1] [] U (oc (ob_a G G (ac (lz0 0 G) bg)) (zL 0 0 1 G ax (oc (ob_a G G (ac (lz0 0 G) bK)) (zL 2 0 2 G ax (zv G (aa (xs:=[.tmp 8,.tmp 10]) (kO zo (el_q0 h hb0)) (.cons (vq 1 G) (.cons (vq 3 G) .nil))) (zv G (aa (xs:=[.const (.int .u8 (1)),.tmp 11]) (cO 1 _ (c:=2048+2048) (k:=4099) zd zd) (.cons a8 (.cons (vq 4 G) .nil))) (oc (aA G G G (vq 5 G) cb (Eq.trans (b:=9) G G)) o0))))))) (zz [] [O 1 67 _,O 2 67 _] fun a w U=>?_)
  refine a7<|wp_ret<|aV ?_
  refine ap ?_
  refine ar ?_ (az G U (zm 1 G) cb)
  rw [← he,sE_3 hb0]; exact bh
 ·refine wp_seq<|zg [none,none] [] [.v 14 _,.v 13 _] [.o 1] U (zv G (bD (gq 0 G) a8) (zA 0 G o0)) (zz [(13,_)] [O 1 67 _,O 2 67 _] fun a w U=>?_)
  refine a7<|ah U (zm 0 G) (fun hb1=>?_) (fun hb1=>?_)
  ·refine wp_seq<|zg [none,some (6,_)] [] [.adr 15 1 (.some 1) True,.v 16 _,.adr 17 1 (.some 5) True,.v 18 _,.v 19 _,.v 20 _,.sto 1] [] U (oc (ob_a G G (ac (lz0 0 G) bg)) (zL 0 0 1 G ax (oc (ob_a G G (ac (lz0 0 G) bK)) (zL 2 0 2 G ax (zv G (aa (xs:=[.tmp 16,.tmp 18]) (iR zo) (.cons (vq 1 G) (.cons (vq 3 G) .nil))) (zv G (aa (xs:=[.const (.int .u8 (2)),.tmp 19]) (cO 2 _ (c:=2048+2048) (k:=4099) zd zd) (.cons a8 (.cons (vq 4 G) .nil))) (oc (aA G G G (vq 5 G) cb (Eq.trans (b:=9) G G)) o0))))))) (zz [] [O 1 67 _,O 2 67 _] fun a w U=>?_)
   refine a7<|wp_ret<|aV ?_
   refine ap ?_
   refine ar ?_ (az G U (zm 1 G) cb)
   rw [← he,sE_4 hb0 hb1]; exact bh
  ·refine wp_skip<|ao ?_
   refine zt<|zg [none,some (2,_)] [] [.v 21 _,.v 22 _,.sto 1] [] U (zl 0 G cb (zv G (aa (xs:=[.tmp 21]) nI (.cons (vq 0 G) .nil)) (oc (aA G G G (vq 1 G) cb (Eq.trans (b:=9) G G)) o0))) (zz [] [O 1 67 _,O 2 67 _] fun a w U=>?_)
   refine a7<|wp_ret<|ar ?_ (az G U (zm 1 G) cb)
   rw [← he,sE_o hb0 hb1]; exact (bz (.cons (.refl _) (.cons (bT zd) (.cons ((jJ (congrArg (QA 2051) (el_q00 h hb0 hb1))).trans (bT zd)) .nil)))).va
theorem qC {k:Int}{p:Rat}{c:Nat}:Cn Tryz.prog 37 [(ER c (k,p)).va] (Bo (k != 5&&p.num.sign==0)):=by
 refine Cn.intro Tryz.func37 G zk nq (fun B w0 a U=>?_)
 have U:=zn [(0,(ER c (k,p)).va)] [] U
 refine wp_seq<|zg [] [⟨1,67,ptrH,some 0,_,none⟩] [.alc 0,.v 2 _] [.o 1] U (oc (ay G G G (gq 0 G)) (zv G (a9 aK) o0)) (zz [(2,_)] [O 1 67 _] fun a w U=>?_)
 refine zt<|zg [none] [] [.adr 3 1 (.some 0) True,.v 4 _,.v 5 _,.v 6 _,.adr 7 1 (.some 1) (_=true),.v 8 (Wh (_=true) _),.v 9 (Wh (_=true) _),.v 10 _,.v 2 _] [.o 8] U (oc (ob_a G G (ac (lz0 0 G) bP)) (zL 0 0 0 G er (zv G (cI (vq 1 G) a8) (zv G (ae (vq 2 G)) (oc (bM G G G (vq 3 G) nq (fun hg=>ac (lz0 0 G) bg)) (oc (an G G G (vq 3 G) nq (fun hg=>aD 4 G zk hg (lz0 0 G) (Sub.part 1 G G) ax)) (oc (an G G G (vq 3 G) nq (fun hg=>aa (xs:=[.tmp 8]) dC (.cons (ai (vq 5 G) hg) .nil))) (zv G (bJ (vq 3 G) (vq 6 G)) (zA 7 G o0))))))))) (zz [(2,_)] [O 1 67 _] fun a w U=>?_)
 refine a7<|wp_ret<|ar ?_ (am G U (zm 0 G))
 exact bh
theorem put_er {k k':Nat}{e:Int}{p q:Rat}(h:k≤k'):Put (ER k (e,p)) 1 (QA k' q) (ER k' (e,q)):=by
 have hp:Put (ER k' (e,p)) 1 (QA k' q) (ER k' (e,q)):=Put.part 1 rfl rfl rfl
 exact fun B cs c w h1 h2=>hp B cs c w ((jf h).2.2 _ _ _ h1) h2
set_option maxHeartbeats 4000000 in
theorem nJ (xs:List RE):Cn Tryz.prog 11 [(SlA 67 [U32] (xs.map REA)).va] (Tu [SlR 16793600 (simF xs).1,In (simF xs).2]):=by
 obtain ⟨it,z,e1,e2,e3,e4,e5⟩:=iD
 refine Cn.introF Tryz.func11 G zk nq (fun B w0 a hF U=>?_)
 have U:=zn [(0,(SlA 67 [U32] (xs.map REA)).va)] [] U
 obtain ⟨v0,hv0,U⟩:=St.eqv U 0 rfl
 refine wp_seq<|zh [.v 2 _,.v 3 _] [.g 0,.o 0,.o 1] U (zv G (a9 aP) (zv G (a9 a8) o0)) (zz [(0,_),(2,_),(3,_)] [] fun a w U=>?_)
 refine zt<|zh [.v 9 _,.v 10 _,.v 4 _] [.g 0,.g 1,.g 2,.o 2] U (zM 0 G (zv G (aa (xs:=[.tmp 9]) (qD xs) (.cons (bE hF hv0 (vq 0 G)) .nil)) (zA 1 G o0))) (zz [(0,_),(2,_),(3,_),(4,_)] [] fun a w U=>?_)
 refine zt<|wp_seq<|zh [.v 11 _,.v 12 _] [.g 0,.g 1,.g 2,.g 3,.o 1] U (zM 3 G (zv G (cI (vq 0 G) a8) o0)) (zz [(0,_),(2,_),(3,_),(4,_),(12,_)] [] fun a w U=>?_)
 refine a7<|ah U (zm 4 G) (fun hb0=>?_) (fun hb0=>?_)
 ·have hc:¬ chF xs=0:=by simpa using hb0
  refine wp_seq<|zh [.v 13 _,.v 2 _,.v 3 _] [.g 0,.o 1,.o 2] U (zM 3 G (zv G (a9 aP) (zA 0 G o0))) (zz [(0,_),(2,_),(3,_)] [] fun a w U=>?_)
  refine a7<|wp_ret<|ap ?_
  refine ar ?_ (aS (rs:=[.tmp 2,.tmp 3]) G U (.tmp (zm 1 G) (.tmp (zm 2 G) .nil)) zd)
  rw [simF,if_neg hc]; exact tu2w pf bh
 ·have hc:chF xs=0:=by simpa using hb0
  obtain ⟨hl4,hal⟩:=CA hc
  refine wp_skip<|zt<|zh [.v 5 _] [.g 0,.g 1,.g 2,.o 0] U (zv G (a9 aP) o0) (zz [(0,_),(2,_),(3,_),(5,_)] [] fun a w U=>?_)
  refine zt<|wp_seq<|zh [.v 6 _] [.g 0,.g 1,.g 2,.g 3,.o 0] U (zv G (a9 a8) o0) (zz [(0,_),(2,_),(3,_),(5,_),(6,_)] [] fun a w U=>?_)
  refine a7<|wp_block ?_
  have U:=St.sel U [0,3,4]
  refine wp_loop_ghost (fun n a w=>∃ (j:Nat) (L:List EQ),(n+j=xs.length∧simQ (xs.take j)=L)∧St B w0 76 [(0,EqV v0),(5,OwE w0.w.heap.size (4100*j) L),(6,In (j:Nat))] [] a w) (xs.length) ?_ ?_
  ·have U:=St.wkG (A':=OwE w0.w.heap.size (4100*0) []) U 1 rfl fH
   exact ⟨0,[],⟨by omega,rfl⟩,U⟩
  intro n a w hI
  obtain ⟨j,L,⟨hn,hL⟩,U⟩:=hI
  refine wp_seq<|wp_seq<|zh [.v 14 _,.v 15 _,.v 16 _,.v 17 _] [.g 0,.g 1,.g 2,.o 3] U (zM 2 G (zM 0 G (zv G (be Tryz.underlying22 (bE hF hv0 (vq 1 G))) (zv G (aN (vq 0 G) (vq 2 G)) o0)))) (zz [(0,_),(5,_),(6,_),(17,_)] [] fun a w U=>?_)
  refine a7<|ah U (zm 3 G) (fun hb1=>?_) (fun hb1=>?_)
  ·have hj:j<xs.length:=by rw [List.length_map] at hb1; have:=of_decide_eq_true hb1; omega
   have hx:=List.all_eq_true.1 hal _ (List.getElem_mem hj)
   obtain ⟨k,p,hk⟩:∃ k p,sE xs[j]=(k,p):=⟨_,_,rfl⟩
   refine wp_skip<|zt<|wp_block<|wp_seq ?_
   have U:=St.addSz U 9999
   obtain ⟨h1,eh1⟩:∃ h,w.heap.size=h:=⟨_,rfl⟩
   rw [eh1] at U
   have U:=St.setG (A':=OwL w0.w.heap.size h1 67 9 [U32] (L.map (ER (4100*j)))) U 1 rfl (fun h=>eh1▸own_lo h)
   have U:=zn [(0,_),(5,_),(6,_),(17,_),(9999,_)] [] U
   refine iw (sp:=[.v 20 _,.v 21 _,.v 22 _,.v 23 _,.v 24 _,.alc 0,.sto 0]) 5 2 7 [.g 0,.g 1,.g 2,.g 4,.o 4] U (zM 0 G (zM 2 G (zv G (cB cC (fM fun _=>rfl) (bE hF hv0 (vq 0 G)) (vq 1 G) (dD hj)) (zv G (aq (vq 2 G) cb) (zv G (aa (xs:=[.tmp 23]) (qA hx hk) (.cons (vq 3 G) .nil)) o0))))) G zk zk (zz [(0,_),(5,_),(6,_),(9999,_),(24,_)] [] fun a w U=>?_)
   rw [show List.range' 5 2=[5,6] from rfl]
   refine B3 (A:=ER 4099 (k,p)) 4 3 [0,1,2,3] G G U (Str.zero cu) G G cb G zd G zk zk (fun a w U=>?_)
   refine bI ?_
   have U:=zn [(7,_),(0,_),(5,_),(6,_),(9999,_)] [O 7 67 _] U
   refine zt<|wp_seq<|zg [none] [] [.v 25 _,.v 26 _] [.g 0,.g 1,.g 2,.g 3,.g 4,.o 1] U (zl 0 G cb (zv G (aa (xs:=[.tmp 25]) qC (.cons (vq 0 G) .nil)) o0)) (zz [(7,_),(0,_),(5,_),(6,_),(9999,_),(26,_)] [O 7 67 _] fun a w U=>?_)
   refine a7<|ah U (zm 5 G) (fun hb2=>?_) (fun hb2=>?_)
   ·have hput:=oZ (L:=L) hb2
    have U:=St.wkG U 2 rfl t7
    refine wp_exit<|ak<|aC<|a7<|zg [none] [] [.v 18 _,.v 19 _,.v 6 _] [.g 1,.g 2,.g 4,.o 2] U (zM 3 G (zv G (aR (vq 0 G) a8 ((wi64 zo zo).trans (by omega:(_:Int)=((j+1:Nat):Int)))) (zA 1 G o0))) (zz [(0,_),(5,_),(9999,_),(6,_)] [O 7 67 _] fun a w U=>?_)
    refine a7 ?_
    have U:=St.sel U [0,1,3]
    have U:=St.selL U []
    have U:=St.wkG U 1 rfl (p8 (k':=4100*(j+1)) zo)
    exact ⟨n-1,by omega,j+1,_,⟨by omega,kC hj hL hk hput⟩,U⟩
   ·have hgo:=yc (L:=L) hb2
    refine wp_skip<|zt<|zg [none] [] [.v 27 _,.v 28 _,.v 29 _,.v 8 _] [.g 0,.g 1,.g 2,.g 3,.g 4,.o 3] U (zM 2 G (zv G (be Tryz.underlying22 (has_wk' (vq 0 G) yg)) (zv G (ck (vq 1 G) a8 ((wi64 (by have:=gE (xs.take j); rw [hL,List.length_take] at this; rw [List.length_map]; omega) (by have:=gE (xs.take j); rw [hL,List.length_take] at this; rw [List.length_map]; omega)))) (zA 2 G o0)))) (zz [(7,_),(0,_),(5,_),(6,_),(9999,_),(8,_)] [O 7 67 _] fun a w U=>?_)
    refine zt<|wp_seq<|zgd [[],[0],[0,1],[0,1,2],[0,1,2],[0,1,2,3,4],[0,1,2,3,4,5],[0,1,2,3,4,5,6],[0,1,2],[0,1,2,8],[0,1,2,3,4,5,6,7,8,9],[0,1,2,3,4,5,6,7,8,9,10]] [none] [] [.v 30 _,.v 31 _,.v 32 _,.v 33 (Wh (_=false) _),.v 34 (Wh (_=false) _),.v 35 (Wh (_=false) _),.v 36 (Wh (_=false) _),.v 37 (Wh (_=false) _),.adr 38 7 (.some 0) (_=false),.v 39 (Wh (_=false) _),.v 40 (Wh (_=false) _),.v 41 _] [.g 0,.g 1,.g 2,.g 3,.g 4,.g 5,.o 11] ab U (zM 5 G (zv G (aN (vq 0 G) a8) (zv G (ae (vq 1 G)) (oc (an G G G (vq 2 G) nq (fun hg=>ae (gq 2 G))) (oc (an G G G (vq 2 G) nq (fun hg=>ae (gq 5 G))) (oc (an G G G (vq 2 G) nq (fun hg=>cB cC er_n (has_wk' (ai (vq 3 G) hg) yg) (has_wk' (ai (vq 4 G) hg) (bc (wI hg))) (wJ hg))) (oc (an G G G (vq 2 G) nq (fun hg=>aH (ai (vq 5 G) hg) bP (Sub.part 0 G G))) (oc (an G G G (vq 2 G) nq (fun hg=>aq (ai (vq 6 G) hg) er)) (oc (bM G G G (vq 2 G) nq (fun hg=>ac (lz0 0 G) bP)) (oc (an G G G (vq 2 G) nq (fun hg=>aD 8 G zk hg (lz0 0 G) (Sub.part 0 G G) er)) (oc (an G G G (vq 2 G) nq (fun hg=>cI (ai (vq 7 G) hg) (ai (vq 9 G) hg))) (zv G (r_or (vq 2 G) (vq 10 G)) o0)))))))))))) zk zk zk zk (zz [(7,_),(0,_),(5,_),(6,_),(9999,_),(8,_),(41,_)] [O 7 67 _] fun a w U=>?_)
    refine a7<|ah U (zm 6 G) (fun hb3=>?_) (fun hb3=>?_)
    ·have hput:=sL (k0:=0) hgo (by rw [List.length_map] at hb3 ⊢; exact hb3)
     refine wp_seq ?_
     have U:=St.wkG U 2 rfl t7
     have U:=zn [(7,_),(0,_),(5,_),(6,_),(9999,_),(8,_),(41,_)] [O 7 67 _] U
     refine bf (sp:=[.v 42 _,.v 43 _,.v 44 _,.v 45 VT,.v 5 VT]) 3 2 99 3 OneC [.g 0,.g 1,.g 3,.g 4,.g 5,.o 0,.o 2] U (zM 2 G (zl 0 G cb (zv G (cz (D:=[U32]) (l:=[_]) (xs:=[.tmp 43]) (dK zk) cC zk (n_ok zk) nq nq nq (.cons (vq 1 G) .nil) G G) o0))) G zd zk zk (zz [(7,_),(0,_),(6,_),(9999,_),(8,_),(42,_),(44,_)] [O 7 67 _] fun a w U=>?_)
     rw [show List.range' 3 2=[3,4] from rfl]
     have U:=St.selL U []
     rw [wpOps_cons]
     refine gP (Xs:=[ER 4099 (k,p)]) [0,1,2,3,4] 5 6 G U G G Nat.zero_lt_one (U.lo _ (.inl (Nat.le_refl _))) U.base.size j0 zk zk (mC G) Tryz.underlying22 e1 e2 e3 e4 e5 zd (by have:=gE (xs.take j); rw [hL,List.length_take] at this; simp only [List.length_map,List.length_singleton]; omega) (by have:=gE (xs.take j); rw [hL,List.length_take] at this; simp only [List.length_map,List.length_singleton]; omega) zd zk zk zk zk (fun a w U=>?_)
     rw [wpOps_cons]
     refine dh 0 G U G zd zk zk (fun a U=>?_)
     refine bI ?_
     have U:=St.sel U [0,2,3,4,5,6]
     have U:=zn [(5,_),(7,_),(0,_),(6,_),(9999,_),(8,_)] [] U
     refine a7<|wp_exit<|ak<|aC<|a7<|zh [.v 18 _,.v 19 _,.v 6 _] [.g 0,.g 2,.g 4,.o 2] U (zM 3 G (zv G (aR (vq 0 G) a8 ((wi64 zo zo).trans (by omega:(_:Int)=((j+1:Nat):Int)))) (zA 1 G o0))) (zz [(5,_),(0,_),(9999,_),(6,_)] [] fun a w U=>?_)
     refine a7 ?_
     have U:=St.sel U [1,0,3]
     have U:=St.wkG U 1 rfl (ol (k':=4100*(j+1)) zo zo)
     exact ⟨n-1,by omega,j+1,_,⟨by omega,kC hj hL hk hput⟩,U⟩
    ·obtain ⟨M,q,rfl⟩:=sK (k0:=0) (L:=L) (k:=k) (by rw [List.length_map] at hb3 ⊢; exact hb3)
     refine wp_skip<|zt ?_
     have U:=St.cvG (A':=OwL w0.w.heap.size h1 67 9 [U32] ((M.map (ER (4100*j)))++[ER (4100*j) (k,q)])) U 2 rfl (by rw [List.map_append]; rfl)
     obtain ⟨v5,U⟩:=St.nameN U 2 rfl
     obtain ⟨gr,cap,rfl⟩:=St.destN U 2 rfl (by simp)
     have U:=St.wkG (A':=In ((M.map (ER (4100*j))).length:Nat)) U 5 rfl (bc (congrArg In (by simp)))
     have hlA:((M.map (ER (4100*j)))++[ER (4100*j) (k,q)])[((M.map (ER (4100*j)))).length]?=some (ER (4100*j) (k,q)):=by simp
     have hlA2:((M.map (ER (4100*j)))++[ER (4100*j+4099+1) (k,q+p)])[((M.map (ER (4100*j)))).length]?=some (ER (4100*j+4099+1) (k,q+p)):=by simp
     have hn1:∀ A∈(M.map (ER (4100*j)))++[ER (4100*j) (k,q)],A.n=9:=fun A hA=>by rcases List.mem_append.1 hA with hA | hA; exact er_n A hA; obtain rfl:=List.mem_singleton.1 hA; rfl
     have hn2:∀ A∈(M.map (ER (4100*j)))++[ER (4100*j+4099+1) (k,q+p)],A.n=9:=fun A hA=>by rcases List.mem_append.1 hA with hA | hA; exact er_n A hA; obtain rfl:=List.mem_singleton.1 hA; rfl
     have U:=zn [(7,_),(0,_),(5,_),(6,_),(9999,_),(8,_),(41,_)] [O 7 67 _] U
     refine cw (sp:=[.v 46 _,.v 47 _,.v 48 _,.v 49 _,.v 50 _,.v 51 _,.v 52 _,.adr 53 7 (.some 1) True,.v 54 _,.v 55 _,.v 56 VT,.v 57 VT,.sto 0]) [[],[],[],[],[2,3],[2,3,4],[2,3,4,5],[],[7],[2,3,4,5,6,7,8],[0,1,2,3,4,5,6,7,8,9],[0,1,2,3,4,5,6,7,8,9,10],[0,1,2,3,4,5,6,7,8,9,10,11]] 10 3 0 12 OneC [.g 0,.g 1,.g 2,.g 3,.g 4,.g 5,.o 0,.o 1,.o 9] ab U (zv G (ae (has_wk' (gq 2 G) AW)) (zM 5 G (zv G (ae (has_wk' (gq 2 G) sV)) (zM 5 G (zv G (cB cC hn1 (vq 2 G) (vq 3 G) hlA) (zv G (aH (vq 4 G) bg (Sub.part 1 G G)) (zv G (aq (vq 5 G) ax) (oc (ob_a G G (ac (lz0 0 G) bg)) (zL 7 0 1 G ax (zv G (aa (xs:=[.tmp 52,.tmp 54]) (kN (c:=4100*j) (d:=4099) zo) (.cons (vq 6 G) (.cons (vq 8 G) .nil))) o0)))))))))) G zd zd zk (cp zk) zk zk (zz [(7,_),(0,_),(5,_),(6,_),(9999,_),(8,_),(46,_),(47,_),(55,_)] [O 7 67 _] fun a w U=>?_)
     rw [show List.range' 10 3=[10,11,12] from rfl]
     rw [wpOps_cons]
     refine iY 6 7 G U cC zd G G (by simp) zd zk zk (fun a U=>?_)
     rw [wpOps_cons]
     refine eu 0 G U bg G zd zk zk (fun a U=>?_)
     rw [wpOps_cons]
     refine B1 (l:=(M.map (ER (4100*j)))) (X:=ER (4100*j) (k,q)) (X':=ER (4100*j+4099+1) (k,q+p)) (A:=QA (4100*j+4099+1) (q+p)) [2,3,5,6,7] 0 10 4 2 G U G G ax G G (put_er zo) G zk zk (Nat.le_refl _) zk zk (fun w U=>?_)
     refine ff ?_
     have U:St B w0 76 [(5,_),(7,_),(0,_),(6,_),(9999,_),(8,_)] [O 7 67 _] _ w:=U
     refine zt<|zg [none] [] [.adr 58 7 (.some 0) True,.v 59 _,.v 60 _,.v 61 _,.v 62 (Wh (_=false) _),.v 63 (Wh (_=false) _),.v 64 (Wh (_=false) _),.v 65 (Wh (_=false) _),.v 66 (Wh (_=false) _),.v 67 (Wh (_=false) _),.v 68 _] [.g 0,.g 2,.g 3,.g 4,.g 5,.o 10] U (oc (ob_a G G (ac (lz0 0 G) bP)) (zL 0 0 0 G er (zv G (bD (vq 1 G) a8) (zv G (ae (vq 2 G)) (oc (an G G G (vq 3 G) nq (fun hg=>ae (gq 0 G))) (oc (an G G G (vq 3 G) nq (fun hg=>ae (gq 5 G))) (oc (an G G G (vq 3 G) nq (fun hg=>cB cC hn2 (has_wk' (ai (vq 4 G) hg) sV) (ai (vq 5 G) hg) hlA2)) (oc (an G G G (vq 3 G) nq (fun hg=>aH (ai (vq 6 G) hg) bg (Sub.part 1 G G))) (oc (an G G G (vq 3 G) nq (fun hg=>aq (ai (vq 7 G) hg) ax)) (oc (an G G G (vq 3 G) nq (fun hg=>aa (xs:=[.tmp 66]) dC (.cons (ai (vq 8 G) hg) .nil))) (zv G (r_or (vq 3 G) (vq 9 G)) o0))))))))))) (zz [(5,_),(0,_),(6,_),(9999,_),(8,_),(68,_)] [O 7 67 _] fun a w U=>?_)
     refine a7<|ah U (zm 5 G) (fun hb4=>?_) (fun hb4=>?_)
     ·have hput:=sM (M:=M) hgo hb4
      refine zg [none] [] [.v 69 _,.v 70 _,.v 71 _,.v 5 _] [.g 1,.g 2,.g 3,.o 3] U (zM 0 G (zM 4 G (zv G (r_cutN (l:=(M.map (ER (4100*j)))) cC (vq 0 G) (vq 1 G) (by simp)) (zA 2 G o0)))) (zz [(0,_),(6,_),(9999,_),(5,_)] [O 7 67 _] fun a w U=>?_)
      refine ao ?_
      refine a7<|zg [none] [] [.v 18 _,.v 19 _,.v 6 _] [.g 0,.g 2,.g 3,.o 2] U (zM 1 G (zv G (aR (vq 0 G) a8 ((wi64 zo zo).trans (by omega:(_:Int)=((j+1:Nat):Int)))) (zA 1 G o0))) (zz [(0,_),(9999,_),(5,_),(6,_)] [O 7 67 _] fun a w U=>?_)
      refine a7 ?_
      have U:=St.sel U [0,2,3]
      have U:=St.selL U []
      have U:=St.wkG U 1 rfl (p8 (k':=4100*(j+1)) zo)
      exact ⟨n-1,by omega,j+1,_,⟨by omega,kC hj hL hk hput⟩,U⟩
     ·have hput:=sN (M:=M) hgo hb4
      refine wp_skip<|ao ?_
      refine a7<|zg [none] [] [.v 18 _,.v 19 _,.v 6 _] [.g 0,.g 1,.g 3,.o 2] U (zM 2 G (zv G (aR (vq 0 G) a8 ((wi64 zo zo).trans (by omega:(_:Int)=((j+1:Nat):Int)))) (zA 1 G o0))) (zz [(5,_),(0,_),(9999,_),(6,_)] [O 7 67 _] fun a w U=>?_)
      refine a7 ?_
      have U:=St.sel U [1,0,3]
      have U:=St.selL U []
      have U:=St.wkG U 1 rfl (br AV (ol (k':=4100*(j+1)) zo zo))
      exact ⟨n-1,by omega,j+1,_,⟨by omega,kC hj hL hk hput⟩,U⟩
  ·obtain rfl:j=xs.length:=by rw [List.length_map] at hb1; have:=of_decide_eq_false hb1; omega
   rw [List.take_length] at hL
   subst hL
   refine wp_exit<|ak<|ak<|aC<|zt<|zh [.v 72 _,.v 73 _,.v 74 _,.v 75 _,.v 2 _,.v 3 _] [.o 4,.o 5] U (zM 1 G (zv G (aa (xs:=[.tmp 72]) ((iV (simQ xs)).wk (.cons (br iX (vF (k:=4100*xs.length) (k':=16793600) zo)) .nil)) (.cons (vq 0 G) .nil)) (zv G (kK (vq 1 G)) (zv G (kJ (vq 1 G)) (zA 2 G (zA 3 G o0)))))) (zz [(2,_),(3,_)] [] fun a w U=>?_)
   refine a7<|wp_ret<|ar ?_ (aS (rs:=[.tmp 2,.tmp 3]) G U (.tmp (zm 0 G) (.tmp (zm 1 G) .nil)) zd)
   rw [simF,if_pos hc]; exact bh
end Go.Proofs.YtmacliockgbdcaaGreatDoor
