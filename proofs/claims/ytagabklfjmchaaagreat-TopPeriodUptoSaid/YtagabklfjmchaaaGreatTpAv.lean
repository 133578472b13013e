import Derived.Test.YtagabklfjmchaaaGreatTpAa
import Derived.Test.YtagabklfjmchaaaGreatTpAc
import Derived.Test.YtagabklfjmchaaaGreatTpAn
import Derived.Test.YtagabklfjmchaaaGreatTpAq
import Derived.Test.YtagabklfjmchaaaGreatTpAu
import Derived.Maps.AppendAt
import Derived.Deep.DeepAppendRoom
set_option linter.unusedVariables false
set_option linter.unusedSimpArgs false
set_option linter.unusedSectionVars false
set_option maxRecDepth 100000
namespace Go.Proofs.YtagabklfjmchaaaGreat
open Go Go.RowKit
section
open Rg
variable {P:Program} {Q:Exit→Act→World→Prop} {B N:Nat} {w0:Bs} {Γ:List (Nat × VA)} {Λ:List Lc} {a:Act} {w:World}
theorem inv_stS {R:Rg}{n:Nat}(hles:∀ l'∈Λ,∃ st,(⟨l'.s,l'.T,l'.H,none,l'.A,st⟩:Le)∈R.les)(hles2:∀ y∈R.les,∀ i A,y.st=some (i,A)→n≤i)(hinv:R.Inv B w0 (fun k=>decide (k<n)) a w)(src:List Src)
  (hsrc:src.all (fun s=>match s with | .g k=>(match R.Γ[k]? with | some x=>Rg.outG R x.1 | none=>false) | .o i=>decide (i<n))=true):St B w0 R.N (src.filterMap (takeS R)) Λ a w:=by
 have hcl:∀ deps,Rg.clash R (fun k=>decide (k<n)) deps=false:=fun deps=>by
  unfold Rg.clash
  rw [List.any_eq_false]
  intro y hy
  cases hst:y.st with
  | none=>simp
  | some x =>
   obtain ⟨i,B'⟩:=x
   have:=hles2 y hy i B' hst
   have hno:¬ i<n:=by omega
   simp [hno]
 have hcur:∀ y∈R.les,y.cr=none→Rg.cur (fun k=>decide (k<n)) y=some y.A0:=fun y hy h0=>by
  unfold Rg.cur
  rw [h0]
  simp only [Rg.crOk,if_true]
  cases hst:y.st with
  | none=>rfl
  | some x =>
   obtain ⟨i,B'⟩:=x
   have:=hles2 y hy i B' hst
   have hno:¬ i<n:=by omega
   simp [hno]
 refine ⟨hinv.lo,hinv.defers,hinv.size,hinv.base,fun x hx=>?_,fun l' hl'=>?_,fun l1 h1 l2 h2 hne=>?_⟩
 rotate_left
 ·obtain ⟨st,hy⟩:=hles l' hl'
  exact hinv.c _ hy l'.A (hcur _ hy rfl)
 ·obtain ⟨s1,hy1⟩:=hles l1 h1
  obtain ⟨s2,hy2⟩:=hles l2 h2
  exact hinv.x _ hy1 _ hy2 hne (by rw [hcur _ hy1 rfl]; rfl) (by rw [hcur _ hy2 rfl]; rfl)
 obtain ⟨s,hs1,hs2⟩:=List.mem_filterMap.1 hx
 have ho:=List.all_eq_true.1 hsrc s hs1
 cases s with
 | g k =>
  simp only [takeS] at hs2
  simp only [hs2] at ho
  refine hinv.g x (List.mem_of_getElem? hs2) (fun q hq hdq=>?_) (hcl _)
  cases h2:R.ops[q]? with
  | none=>unfold Rg.dst at hdq; rw [h2] at hdq; cases hdq
  | some v =>
   have:=List.all_eq_true.1 ho q (by simpa using (Array.getElem?_eq_some_iff.1 h2).1)
   exact absurd hdq (by simpa using this)
 | o i =>
  simp only [takeS] at hs2
  cases hy:R.sp[i]? with
  | none=>rw [hy] at hs2; cases hs2
  | some y =>
   rw [hy] at hs2
   exact hinv.v i y x.1 x.2 hy hs2 ho (hcl _)
theorem go_headD {id:Nat}{ops:Array Oper}{sp:List Sp}(anc:List (List Nat))(n m e j:Nat)(A:As)(src:List Src)(hmx:P.follows .mixedOrders=true)
  (h:St B w0 N Γ Λ a w) (hob:Obs P Q ⟨ops,N,Γ,lesS Λ e j A,sp,fun i=>anc.getD i []⟩ B w0 0 n) (hsz:ops.size=n+m) (hm:0<m) (hj:n≤j) (hanc:Rg.ancOk ⟨ops,N,Γ,lesS Λ e j A,sp,fun i=>anc.getD i []⟩=true) (hall:∀ i,n≤i→i<n+m→∀ j,j<i→(anc.getD i []).contains j=true) (hk:Rg.chk ⟨ops,N,Γ,lesS Λ e j A,sp,fun i=>anc.getD i []⟩=true)
  (hsrc:src.all (fun s=>match s with | .g k=>(match Γ[k]? with | some x=>Rg.outG ⟨ops,N,Γ,lesS Λ e j A,sp,fun i=>anc.getD i []⟩ x.1 | none=>false) | .o i=>decide (i<n))=true)
  (hQ:∀ a' w',St B w0 N (src.filterMap (takeS ⟨ops,N,Γ,lesS Λ e j A,sp,fun i=>anc.getD i []⟩)) Λ a' w'→wpOps P ops Q (List.range' n m) a' w'):(Code.region id ops true).wp P Q a w:=by
 refine Rg.drawK (R:=⟨ops,N,Γ,lesS Λ e j A,sp,fun i=>anc.getD i []⟩) (m:=m) hsz hm hmx hanc hk h (fun y hy _=>?_) (fun i hi=>hob.all i zo zo) (fun i h1 h2 j hj=>hall i h1 h2 j hj) fun a1 w1 hinv=>?_
 ·exact (zds y hy).2.1
 ·exact hQ a1 w1 (inv_stS (fun l' hl'=>by
   obtain ⟨j',hj'⟩:=List.getElem?_of_mem hl'
   exact ⟨_,List.mem_map.2 ⟨(l',j'),List.mem_zipIdx_iff_getElem?.2 hj',rfl⟩⟩) (fun y hy i B' h1=>by have:=(zds y hy).2.2 i B' h1; omega) hinv src hsrc)
theorem go_head {id:Nat}{ops:Array Oper}{sp:List Sp}(n m e j:Nat)(A:As)(src:List Src)
  (h:St B w0 N Γ Λ a w) (hob:Obs P Q ⟨ops,N,Γ,lesS Λ e j A,sp,fun i=>List.range i⟩ B w0 0 n) (hsz:ops.size=n+m) (hj:n≤j) (hk:Rg.chk ⟨ops,N,Γ,lesS Λ e j A,sp,fun i=>List.range i⟩=true)
  (hsrc:src.all (fun s=>match s with | .g k=>(match Γ[k]? with | some x=>Rg.outG ⟨ops,N,Γ,lesS Λ e j A,sp,fun i=>List.range i⟩ x.1 | none=>false) | .o i=>decide (i<n))=true)
  (hQ:∀ a' w',St B w0 N (src.filterMap (takeS ⟨ops,N,Γ,lesS Λ e j A,sp,fun i=>List.range i⟩)) Λ a' w'→wpOps P ops Q (List.range' n m) a' w'):(Code.region id ops false).wp P Q a w:=by
 refine Rg.linK (R:=⟨ops,N,Γ,lesS Λ e j A,sp,fun i=>List.range i⟩) (m:=m) hsz rfl hk h (fun y hy _=>?_) (fun i hi=>hob.all i zo zo) fun a1 w1 hinv=>?_
 ·exact (zds y hy).2.1
 ·exact hQ a1 w1 (inv_stS (fun l' hl'=>by
   obtain ⟨j',hj'⟩:=List.getElem?_of_mem hl'
   exact ⟨_,List.mem_map.2 ⟨(l',j'),List.mem_zipIdx_iff_getElem?.2 hj',rfl⟩⟩) (fun y hy i B' h1=>by have:=(zds y hy).2.2 i B' h1; omega) hinv src hsrc)
theorem St.addV {d:Nat}{v:Value}{A:VA}(h:St B w0 N Γ Λ a w)(hd:d<N)(hΓ:Γ.all (fun x=>x.1 != d)=true)(hΛ:Λ.all (fun l=>l.s != d)=true)(hA:A.p B v w):St B w0 N ((d,A)::Γ) Λ (a.put (some d) v) w:=by
 have hdsz:d<a.tmps.size:=by rw [h.size]; exact hd
 have hl:∀ l∈Λ,l.s≠d:=fun l hl=>by simpa using List.all_eq_true.1 hΛ l hl
 refine ⟨h.lo,h.defers.keep rfl fun _ hD=>hD,by rw [zbv]; exact h.size,h.base,fun x hx=>?_,fun l hl'=>?_,fun l1 h1 l2 h2 hne=>?_⟩
 ·rcases List.mem_cons.1 hx with rfl | hx
  ·show A.p B ((a.put (some d) v).eval (.tmp d)) w
   rw [zaz _ _ _ hdsz]
   exact hA
  ·have:x.1≠d:=by simpa using List.all_eq_true.1 hΓ x hx
   rw [za8 _ _ _ _ this]
   exact h.vals x hx
 ·exact (h.locs l hl').eval (za8 _ _ _ _ (hl l hl'))
 ·rw [za8 _ _ _ _ (hl l1 h1),za8 _ _ _ _ (hl l2 h2)]
  exact h.dis l1 h1 l2 h2 hne
variable {ops:Array Oper} {i:Nat} {K:Act→World→Prop}
theorem op_vS {d:Nat}{op:Op}{T':TypeId}{ps:String}{af:Array Edge}{v:Value}{A:VA}(ho:ops[i]?=some ⟨some d,op,T',ps,af,none⟩)(h:St B w0 N Γ Λ a w)(hd:d<N)(hΓ:Γ.all (fun x=>x.1 != d)=true)(hΛ:Λ.all (fun l=>l.s != d)=true)
  (hr:(execOp a.eval ⟨some d,op,T',ps,af,none⟩).run P w=.ok (.value v) w) (hA:A.p B v w) (hK:St B w0 N ((d,A)::Γ) Λ (a.put (some d) v) w→K (a.put (some d) v) w):wpOp P ops Q i K a w:=by
 unfold wpOp
 simp only [ho,Region.wanted,if_true]
 exact .inl (zbn hr (hK (h.addV hd hΓ hΛ hA)))
theorem op_nilS {d u:Nat}{T':TypeId}{ps:String}{af:Array Edge}{g o:Nat}(ku:Nat)(ho:ops[i]?=some ⟨some d,.nilCheck (.tmp u),T',ps,af,none⟩)(h:St B w0 N Γ Λ a w)
  (hu:Γ[ku]?=some (u,EqV (.pointer (some ⟨g,o,none⟩)))) (hd:d<N) (hΓ:Γ.all (fun x=>x.1 != d)=true) (hΛ:Λ.all (fun l=>l.s != d)=true)
  (hK:∀ a',St B w0 N ((d,EqV (.pointer (some ⟨g,o,none⟩)))::Γ) Λ a' w→K a' w):wpOp P ops Q i K a w:=by
 have h3:a.eval (.tmp u)=.pointer (some ⟨g,o,none⟩):=h.vals _ (List.mem_of_getElem? hu)
 exact op_vS (A:=EqV (.pointer (some ⟨g,o,none⟩))) ho h hd hΓ hΛ (by simp [execOp,h3]) rfl (hK _)
theorem op_fldS {d u f k n:Nat}{T T':TypeId}{ps:String}{af:Array Edge}{g o:Nat}(ku:Nat)(ho:ops[i]?=some ⟨some d,.fieldAddr T (.tmp u) f,T',ps,af,none⟩)(h:St B w0 N Γ Λ a w)(hf:Fld P T f k n)
  (hu:Γ[ku]?=some (u,EqV (.pointer (some ⟨g,o,none⟩)))) (hd:d<N) (hΓ:Γ.all (fun x=>x.1 != d)=true) (hΛ:Λ.all (fun l=>l.s != d)=true)
  (hK:∀ a',St B w0 N ((d,EqV (.pointer (some ⟨g,o+k,none⟩)))::Γ) Λ a' w→K a' w):wpOp P ops Q i K a w:=by
 have h3:a.eval (.tmp u)=.pointer (some ⟨g,o,none⟩):=h.vals _ (List.mem_of_getElem? hu)
 exact op_vS (A:=EqV (.pointer (some ⟨g,o+k,none⟩))) ho h hd hΓ hΛ (by simp [execOp,h3,zdm hf]) rfl (hK _)
theorem op_asgS {d u:Nat}{T':TypeId}{ps:String}{af:Array Edge}{A:VA}(ku:Nat)(ho:ops[i]?=some ⟨some d,.assign (.tmp u),T',ps,af,none⟩)(h:St B w0 N Γ Λ a w)
  (hu:Γ[ku]?=some (u,A)) (hd:d<N) (hΓ:Γ.all (fun x=>x.1 != d)=true) (hΛ:Λ.all (fun l=>l.s != d)=true)
  (hK:∀ a',St B w0 N ((d,A)::Γ) Λ a' w→K a' w):wpOp P ops Q i K a w :=
 op_vS (A:=A) (v:=a.eval (.tmp u)) ho h hd hΓ hΛ (by simp [execOp]) (h.vals _ (List.mem_of_getElem? hu)) (hK _)
end
section
open Rg
variable {P:Program} {Q:Exit→Act→World→Prop} {B N:Nat} {w0:Bs} {Γ:List (Nat × VA)} {Λ:List Lc} {a:Act} {w:World}
end
end Go.Proofs.YtagabklfjmchaaaGreat
namespace Go.Proofs.YtagabklfjmchaaaGreat
open Go Go.RowKit
def TyIn (w:World)(k:Nat)(Ts:List TypeId):Prop:=∃ c T fz,w.heap[k]?=some (.cells c T fz)∧T∈Ts
abbrev Wid (B:Nat)(w:World)(Ts:List TypeId):Bs:=⟨w,fun k=>B≤k∧TyIn w k Ts,false⟩
open Classical in
theorem zl1 {p:World→Prop}{B:Nat}{Ts:List TypeId}(hcg:∀ w w',Grow w w'→p w→p w')(hwr:∀ w w' g c T fz,w.heap[g]?=some (.cells c T fz)→T∈Ts→B≤g→Wr g w w'→p w→p w')
  {w w':World} (hk:Kept (Wid B w Ts) w') (hp:p w):p w':=by
 let W:Nat→World:=fun m=>{ w with heap:=w.heap.mapIdx fun k o=>if k<m∧(Wid B w Ts).F k then (w'.heap[k]?).getD o else o }
 have hW:∀ m k,(W m).heap[k]?=if k<m∧(Wid B w Ts).F k∧k<w.heap.size then w'.heap[k]? else w.heap[k]?:=fun m k=>by
  show (w.heap.mapIdx _)[k]?=_
  rw [Array.getElem?_mapIdx]
  by_cases hlt:k<w.heap.size
  ·rw [Array.getElem?_eq_getElem hlt]
   have hlt':k<w'.heap.size:=Nat.lt_of_lt_of_le hlt hk.size
   rw [Array.getElem?_eq_getElem hlt']
   by_cases hc:k<m∧(Wid B w Ts).F k
   ·rw [if_pos ⟨hc.1,hc.2,hlt⟩,Option.map_some,if_pos hc]
    rfl
   ·rw [if_neg (fun h=>hc ⟨h.1,h.2.1⟩),Option.map_some,if_neg hc]
  ·have h0:w.heap[k]?=none:=Array.getElem?_eq_none zo
   rw [if_neg (fun h=>hlt h.2.2),h0]
   rfl
 have hs:∀ m,(W m).heap.size=w.heap.size:=fun m=>by simp [W]
 have key:∀ m,p (W m):=fun m=>by
  induction m with
  | zero=>exact hcg w (W 0) ⟨rfl,rfl,rfl,by rw [hs]; exact Nat.le_refl _,fun k hk=>by rw [hW,if_neg (fun h=>by omega)]⟩ hp
  | succ m ih =>
   by_cases hF:(Wid B w Ts).F m
   ·obtain ⟨hB,c,T,fz,hc,hT⟩:=hF
    refine hwr (W m) (W (m+1)) m c T fz ?_ hT hB ⟨rfl,rfl,rfl,by rw [hs,hs],fun k hk=>?_⟩ ih
    ·rw [hW,if_neg (fun h=>by omega)]; exact hc
    ·rw [hW,hW]
     by_cases h1:k<m
     ·simp [h1,Nat.lt_succ_of_lt h1]
     ·have:¬ k<m+1:=by omega
      simp [h1,this]
   ·refine hcg (W m) (W (m+1)) ⟨rfl,rfl,rfl,by rw [hs,hs]; exact Nat.le_refl _,fun k hk=>?_⟩ ih
    rw [hW,hW]
    by_cases h1:k<m
    ·simp [h1,Nat.lt_succ_of_lt h1]
    ·by_cases h2:k=m
     ·subst h2
      rw [if_neg (fun h=>hF h.2.1),if_neg (fun h=>by omega)]
     ·have:¬ k<m+1:=by omega
      simp [h1,this]
 refine hcg (W w.heap.size) w' ⟨hk.os,hk.tape,hk.output,by rw [hs]; exact hk.size,fun k hlt=>?_⟩ (key _)
 rw [hs] at hlt
 rw [hW]
 by_cases hF:(Wid B w Ts).F k
 ·rw [if_pos ⟨hlt,hF,hlt⟩]
 ·rw [if_neg (fun h=>hF h.2.1)]
  exact hk.block k hlt hF
theorem VA.kept {A:VA}{B:Nat}{v:Value}{w w':World}{Ts:List TypeId}(hp:A.p B v w)(hk:Kept (Wid B w Ts) w')(hd:∀ T∈Ts,T ∉ A.deps):A.p B v w' :=
 zl1 (p:=fun w=>A.p B v w) (fun w w' hg h=>A.grow _ _ _ _ hg h) (fun w w' g c T fz hc hT hB hW h=>A.wr _ _ _ _ _ _ _ _ hc (hd T hT) hB hW h) hk hp
theorem As.kept {A:As}{B:Nat}{cs:List Value}{w w':World}{Ts:List TypeId}(hp:A.p B cs w)(hk:Kept (Wid B w Ts) w')(hd:∀ T∈Ts,T ∉ A.deps):A.p B cs w' :=
 zl1 (p:=fun w=>A.p B cs w) (fun w w' hg h=>A.grow _ _ _ _ hg h) (fun w w' g c T fz hc hT hB hW h=>A.wr _ _ _ _ _ _ _ _ hc (hd T hT) hB hW h) hk hp
theorem op_ownP {P:Program}{Q:Exit→Act→World→Prop}{B N:Nat}{w0:Bs}{Γ:List (Nat × VA)}{Λ:List Lc}{a:Act}{w:World}{ops:Array Oper}{i:Nat}{K:Act→World→Prop}{p d g k sx:Nat}{ty T T':TypeId}{H:Hd}{A0 A A1:As}{ps:String}{af:Array Edge}(src:List Nat)(kp kd ks e:Nat)(ho:ops[i]?=some ⟨none,.store ty (.tmp p) (.tmp d),T',ps,af,none⟩)(h:St B w0 N Γ Λ a w)
  (hp:Γ[kp]?=some (p,EqV (.pointer (some ⟨g,k,none⟩)))) (hd:Γ[kd]?=some (d,A.va)) (hs:Γ[ks]?=some (sx,EqV (H.f g))) (ht:Ty P ty A.n A.ag) (hl:Λ[e]?=some ⟨sx,T,H,A0⟩)
  (hput:Put A0 k A A1) (hsrc:src.all (fun k=>match Γ[k]? with | some y => !y.2.deps.contains T | none=>false)=true) (hΛ:Λ.zipIdx.all (fun x=>x.2==e || (x.1.s != sx && !x.1.A.deps.contains T))=true) (hT:A1.deps.contains T=false)
  (hK:∀ w',St B w0 N (src.filterMap fun k=>Γ[k]?) (Λ.set e ⟨sx,T,H,A1⟩) a w'→K (a.put none undef) w'):wpOp P ops Q i K a w:=by
 have e1:a.eval (.tmp p)=.pointer (some ⟨g,k,none⟩):=h.vals _ (List.mem_of_getElem? hp)
 obtain ⟨cs',hpA,e2⟩:=h.vals _ (List.mem_of_getElem? hd)
 have e2:a.eval (.tmp d)=shape A.ag cs':=e2
 have e0:a.eval (.tmp sx)=H.f g:=h.vals _ (List.mem_of_getElem? hs)
 obtain ⟨g0,cs,q1,q2,q3,q4⟩:=h.locs _ (List.mem_of_getElem? hl)
 have:g0=g:=by
  have:=congrArg blk (q1.symm.trans e0)
  rw [H.ok,H.ok] at this
  injection this
 subst this
 obtain ⟨hkc,hp1⟩:=hput B cs cs' w q4 hpA
 have lA:=A.len _ _ _ hpA
 have hrun:=zby ht w g0 k T cs.toArray _ cs' (A.cells_shape hpA) lA (by simpa using hkc) (A.one _ _ _ hpA) q3
 have e3:cs.toArray.toList.take k++cs'++cs.toArray.toList.drop (k+A.n)=splice cs k cs':=by simp [splice,lA]
 rw [e3] at hrun
 have hW:=Wr.setRow w g0 (splice cs k cs').toArray
 have hB:B≤g0:=h.lo g0 q2
 have hTn:T ∉ A1.deps:=by simpa using hT
 unfold wpOp
 simp only [ho,Region.wanted,if_true]
 refine .inl (wp_skip' (w':=w.setRow g0 (splice cs k cs').toArray) ?_ (hK _ ⟨h.lo,h.defers.keep rfl fun D hD=>(hW.block D (fun e=>by subst e; rw [q3] at hD; cases hD)).trans hD,h.size,h.base.wr hW q2,fun x hx=>?_,fun m hm=>?_,fun m1 hm1 m2 hm2 hne=>?_⟩))
 ·simp [execOp,e1,e2,Instr.storeAt,Instr.sureAddr,hrun]
 ·obtain ⟨k',hk1,hk2⟩:=List.mem_filterMap.1 hx
  have:=List.all_eq_true.1 hsrc k' hk1
  simp only [hk2,Bool.not_eq_true',List.contains_eq_mem,decide_eq_false_iff_not] at this
  exact x.2.wr _ _ _ _ _ _ _ _ q3 this hB hW (h.vals x (List.mem_of_getElem? hk2))
 ·obtain ⟨j,hj⟩:=List.getElem?_of_mem hm
  by_cases e5:j=e
  ·subst e5
   have:m=⟨sx,T,H,A1⟩:=by
    rw [List.getElem?_set_self (List.getElem?_eq_some_iff.1 hl).1] at hj
    injection hj with hj
    exact hj.symm
   subst this
   exact ⟨g0,splice cs k cs',q1,q2,setRow_heap w g0 _ _ _ _ q3,A1.wr _ _ _ _ _ _ _ _ q3 hTn hB hW hp1⟩
  ·rw [List.getElem?_set_ne (fun e2=>e5 e2.symm)] at hj
   have hc:=List.all_eq_true.1 hΛ (m,j) (List.mem_zipIdx_iff_getElem?.2 hj)
   simp only [Bool.or_eq_true,beq_iff_eq,Bool.and_eq_true,bne_iff_ne,Bool.not_eq_true',List.contains_eq_mem,decide_eq_false_iff_not] at hc
   have hc':=hc.resolve_left e5
   obtain ⟨g',cs2,p1,p2,p3,p4⟩:=h.locs m (List.mem_of_getElem? hj)
   have hne:g'≠g0:=fun hh=>h.dis m (List.mem_of_getElem? hj) _ (List.mem_of_getElem? hl) hc'.1 (by rw [p1,q1,hh,m.H.ok,Hd.ok])
   exact ⟨g',cs2,p1,p2,(hW.block g' hne).trans p3,m.A.wr _ _ _ _ _ _ _ _ q3 hc'.2 hB hW p4⟩
 ·have hs:∀ m∈Λ.set e ⟨sx,T,H,A1⟩,∃ m0∈Λ,m0.s=m.s:=fun m hm=>by
   rcases List.mem_or_eq_of_mem_set hm with hm | rfl
   ·exact ⟨m,hm,rfl⟩
   ·exact ⟨_,List.mem_of_getElem? hl,rfl⟩
  obtain ⟨m3,r1,r2⟩:=hs m1 hm1
  obtain ⟨m4,r3,r4⟩:=hs m2 hm2
  rw [← r2,← r4] at hne ⊢
  exact h.dis m3 r1 m4 r3 hne
def lamT (Λ:List Lc)(e:Nat)(A:As):List Lc:=Λ.zipIdx.map fun x=>⟨x.1.s,x.1.T,x.1.H,if x.2=e then A else x.1.A⟩
section
open Rg
variable {P:Program} {Q:Exit→Act→World→Prop} {B N:Nat} {w0:Bs} {Γ:List (Nat × VA)} {Λ:List Lc} {a:Act} {w:World}
theorem inv_stT {R:Rg}{n:Nat}{Λ':List Lc}(hles:∀ l'∈Λ',∃ y∈R.les,y.s=l'.s∧y.T=l'.T∧y.H=l'.H∧y.cr=none∧Rg.cur (fun k=>decide (k<n)) y=some l'.A)(hinv:R.Inv B w0 (fun k=>decide (k<n)) a w)(src:List Src)
  (hsrc:src.all (fun s=>match s with | .g k=>(match R.Γ[k]? with | some x=>Rg.outG R x.1 && !Rg.clash R (fun k=>decide (k<n)) x.2.deps | none=>false) | .o i=>decide (i<n)&&(match R.sp[i]? with | some y=>(match y.vl with | some z => !Rg.clash R (fun k=>decide (k<n)) z.2.deps | none=>true) | none=>true))=true):St B w0 R.N (src.filterMap (takeS R)) Λ' a w:=by
 refine ⟨hinv.lo,hinv.defers,hinv.size,hinv.base,fun x hx=>?_,fun l' hl'=>?_,fun l1 h1 l2 h2 hne=>?_⟩
 rotate_left
 ·obtain ⟨y,hy,e1,e2,e3,_,e4⟩:=hles l' hl'
  have:=hinv.c _ hy l'.A e4
  rw [e1,e2,e3] at this
  exact this
 ·obtain ⟨y1,hy1,e1,_,_,_,f1⟩:=hles l1 h1
  obtain ⟨y2,hy2,e2,_,_,_,f2⟩:=hles l2 h2
  rw [← e1,← e2] at hne ⊢
  exact hinv.x _ hy1 _ hy2 hne (by rw [f1]; rfl) (by rw [f2]; rfl)
 obtain ⟨s,hs1,hs2⟩:=List.mem_filterMap.1 hx
 have ho:=List.all_eq_true.1 hsrc s hs1
 cases s with
 | g k =>
  simp only [takeS] at hs2
  simp only [hs2,Bool.and_eq_true,Bool.not_eq_true'] at ho
  refine hinv.g x (List.mem_of_getElem? hs2) (fun q hq hdq=>?_) ho.2
  cases h2:R.ops[q]? with
  | none=>unfold Rg.dst at hdq; rw [h2] at hdq; cases hdq
  | some v =>
   have:=List.all_eq_true.1 ho.1 q (by simpa using (Array.getElem?_eq_some_iff.1 h2).1)
   exact absurd hdq (by simpa using this)
 | o i =>
  simp only [takeS] at hs2
  cases hy:R.sp[i]? with
  | none=>rw [hy] at hs2; cases hs2
  | some y =>
   rw [hy] at hs2
   have hs3:y.vl=some x:=hs2
   simp only [hy,hs3,Bool.and_eq_true,Bool.not_eq_true'] at ho
   exact hinv.v i y x.1 x.2 hy hs3 ho.1 ho.2
theorem go_headT {id:Nat}{ops:Array Oper}{sp:List Sp}(anc:List (List Nat))(n m e j:Nat)(A1:As)(src:List Src)(hmx:P.follows .mixedOrders=true)
  (h:St B w0 N Γ Λ a w) (hob:Obs P Q ⟨ops,N,Γ,lesS Λ e j A1,sp,fun i=>anc.getD i []⟩ B w0 0 n) (hsz:ops.size=n+m) (hm:0<m) (hj:j<n) (hanc:Rg.ancOk ⟨ops,N,Γ,lesS Λ e j A1,sp,fun i=>anc.getD i []⟩=true) (hall:∀ i,n≤i→i<n+m→∀ j,j<i→(anc.getD i []).contains j=true) (hk:Rg.chk ⟨ops,N,Γ,lesS Λ e j A1,sp,fun i=>anc.getD i []⟩=true)
  (hsrc:src.all (fun s=>match s with | .g k=>(match Γ[k]? with | some x=>Rg.outG ⟨ops,N,Γ,lesS Λ e j A1,sp,fun i=>anc.getD i []⟩ x.1 && !Rg.clash ⟨ops,N,Γ,lesS Λ e j A1,sp,fun i=>anc.getD i []⟩ (fun k=>decide (k<n)) x.2.deps | none=>false) | .o i=>decide (i<n)&&(match sp[i]? with | some y=>(match y.vl with | some z => !Rg.clash ⟨ops,N,Γ,lesS Λ e j A1,sp,fun i=>anc.getD i []⟩ (fun k=>decide (k<n)) z.2.deps | none=>true) | none=>true))=true)
  (hQ:∀ a' w',St B w0 N (src.filterMap (takeS ⟨ops,N,Γ,lesS Λ e j A1,sp,fun i=>anc.getD i []⟩)) (lamT Λ e A1) a' w'→wpOps P ops Q (List.range' n m) a' w'):(Code.region id ops true).wp P Q a w:=by
 refine Rg.drawK (R:=⟨ops,N,Γ,lesS Λ e j A1,sp,fun i=>anc.getD i []⟩) (m:=m) hsz hm hmx hanc hk h (fun y hy _=>?_) (fun i hi=>hob.all i zo zo) (fun i h1 h2 j hj=>hall i h1 h2 j hj) fun a1 w1 hinv=>?_
 ·exact (zds y hy).2.1
 ·refine hQ a1 w1 (inv_stT (fun l' hl'=>?_) hinv src hsrc)
  obtain ⟨x,hx,rfl⟩:=List.mem_map.1 hl'
  refine ⟨⟨x.1.s,x.1.T,x.1.H,none,x.1.A,if x.2=e then some (j,A1) else none⟩,List.mem_map.2 ⟨x,hx,rfl⟩,?_⟩
  by_cases h1:x.2=e
  ·simp only [h1,if_true]
   exact ⟨by trivial,by trivial,by trivial,by trivial,by simp [Rg.cur,Rg.crOk,hj]⟩
  ·simp only [h1,if_false]
   exact ⟨by trivial,by trivial,by trivial,by trivial,by simp [Rg.cur,Rg.crOk]⟩
end
theorem bQ_of {k:Nat}{x:Rat}{p q:Int}(hq:q≠0)(h:x*(q:Rat)=(p:Rat))(hp:lz p≤k)(hq2:lz q≤k):bQ k x:=by
 have hqr:(q:Rat)≠0:=fun e=>hq (by exact_mod_cast e)
 have e:x=Rat.divInt p q:=by
  rw [Rat.divInt_eq_div,← h]
  exact (Rat.mul_div_cancel hqr).symm
 obtain ⟨h1,h2⟩:=zdp (p:=p) hq
 rw [e]
 exact ⟨by omega,by omega⟩
def uI (p q:Int):Nat→Int
 | 0=>0
 | 1=>q
 | n+2=>p*uI p q (n+1)-q*q*uI p q n
theorem chP_2 (t:Rat)(n:Nat):(chP t (n+2)).2=t*(chP t (n+1)).2-(chP t n).2:=rfl
theorem uI_ch {t:Rat}{p q:Int}(h:t*(q:Rat)=(p:Rat)):∀ n,(chP t n).2*((q^n:Int):Rat)=((uI p q n:Int):Rat) :=
 zg9 (by show (0:Rat)*_=((0:Int):Rat); rw [Rat.zero_mul]; rfl) (by show (t*0-(-1:Rat))*((q^1:Int):Rat)=((q:Int):Rat); rw [Int.pow_one]; grind) fun n h1 h2=>by
  rw [chP_2]
  show _=((p*uI p q (n+1)-q*q*uI p q n:Int):Rat)
  rw [Rat.intCast_sub,Rat.intCast_mul,Rat.intCast_mul,Rat.intCast_mul,← h1,← h2,← h]
  have e1:((q^(n+2):Int):Rat)=(q:Rat)*(q:Rat)*((q^n:Int):Rat):=by rw [← Rat.intCast_mul,← Rat.intCast_mul,Int.pow_succ,Int.pow_succ]; congr 1; grind
  have e2:((q^(n+1):Int):Rat)=(q:Rat)*((q^n:Int):Rat):=by rw [← Rat.intCast_mul,Int.pow_succ]; congr 1; grind
  rw [e1,e2]
  generalize ((q^n:Int):Rat)=z
  generalize (q:Rat)=y
  generalize (chP t (n+1)).2=u
  generalize (chP t n).2=v
  grind
theorem uI_lz {p q:Int}(hp:lz p≤4097)(hq:lz q≤4097):∀ n,lz (uI p q n)≤4100*n+4100 :=
 zg9 (by show lz 0≤_; rw [lz_0]; omega) (by show lz q≤_; omega) fun n h1 h2=>by
  show lz (p*uI p q (n+1)-q*q*uI p q n)≤_
  have a1:=lz_sub (p*uI p q (n+1)) (q*q*uI p q n)
  have a2:=zcl p (uI p q (n+1))
  have a3:=zcl (q*q) (uI p q n)
  have a4:=zcl q q
  omega
theorem pow_lz {q:Int}(hq:lz q≤4097):∀ n,lz (q^n)≤4100*n+4100
 | 0=>by rw [Int.pow_zero]; have:=zfx; omega
 | n+1=>by
  rw [Int.pow_succ]
  have h1:=pow_lz hq n
  have h2:=zcl (q^n) q
  omega
theorem ch_bQ {t:Rat}(h:bQ 4097 t)(n:Nat):bQ (4100*n+4100) (chP t n).2:=by
 have hd:t*((t.den:Int):Rat)=(t.num:Rat):=zdy t
 have h0:(t.den:Int)≠0:=by have:=t.den_pos; omega
 exact bQ_of (Int.pow_ne_zero h0) (uI_ch hd n) (uI_lz h.1 h.2 n) (pow_lz h.2 n)
theorem ch_bQ1 {t:Rat}(h:bQ 4097 t):∀ n,bQ (4100*n+4100) (chP t n).1
 | 0=>by
  show bQ _ (-1:Rat)
  exact ⟨by show lz (-1)≤_; have:lz (-1)≤1:=Nat.le_of_ble_eq_true zk; omega,by show lz 1≤_; have:=zfx; omega⟩
 | n+1=>by
  obtain ⟨h1,h2⟩:=ch_bQ h n
  exact ⟨Nat.le_trans h1 zo,Nat.le_trans h2 zo⟩
def RwA (t:Rat)(n:Nat):As:=cat [QA (4100*n+4100) (chP t n).1,QA (4100*n+4100) (chP t n).2,QA 4097 t]
theorem rw_nx {t:Rat}{n:Nat}{c1 c2:Nat}(h:bQ 4097 t):WkA (cat [QA c1 (chP t n).2,QA c2 (t*(chP t n).2-(chP t n).1),QA 4097 t]) (RwA t (n+1)) :=
 zc3 (.cons (qa_bQ (ch_bQ1 h (n+1))) (.cons (qa_bQ (ch_bQ h (n+1))) (.cons (WkA.refl _) .nil)))
theorem zhj {P:Program}{ops:Array Oper}{Q:Exit→Act→World→Prop}{a:Act}{w:World}(h:Q .normal a w):wpOps P ops Q [] a w:=h
theorem wpOps_sP {P:Program}{ops:Array Oper}{Q:Exit→Act→World→Prop}{a:Act}{w:World}(h:Q .normal a w):wpOps P ops Q [] (a.put none undef) w:=h
theorem on_c {t:Rat}{k:Nat}(ht:bQ 4097 t)(hk:k≤4096):Cm Tryz.prog 40 77 (RwA t k) (RwA t (k+1)) [.w (ptrH),] (Tu []):=by
 refine Cm.intro Tryz.func40 rfl zk nq (fun B g w0 a hst=>?_)
 have hst:St B w0 26 [(0,EqV ((ptrH).f g)),] [⟨0,77,ptrH,RwA t k⟩] a w0.w:=hst
 refine go_headT (sp:=((.adr 2 0 (.some 0) True:Sp)::(.val 3 _)::(.adr 4 0 (.some 0) True)::(.adr 5 0 (.some 0) True)::(.adr 6 0 (.some (0+4)) True)::(.val 7 _)::(.adr 8 0 (.some 0) True)::(.adr 9 0 (.some 0) True)::(.adr 10 0 (.some (0+8)) True)::(.val 11 _)::(.adr 12 0 (.some 0) True)::(.adr 13 0 (.some 0) True)::(.adr 14 0 (.some (0+4)) True)::(.val 15 _)::(.val 16 _)::(.adr 17 0 (.some 0) True)::(.adr 18 0 (.some 0) True)::(.adr 19 0 (.some (0+0)) True)::(.val 20 _)::(.val 21 _)::(.adr 22 0 (.some 0) True)::(.adr 23 0 (.some (0+0)) True)::(.sto 0)::(.skp)::(.skp)::(.skp)::[])) [[],[],[],[2],[2,3],[2,3,4],[],[6],[6,7],[6,7,8],[],[10],[10,11],[10,11,12],[6,7,8,9,10,11,12,13],[],[15],[15,16],[15,16,17],[6,7,8,9,10,11,12,13,14,15,16,17,18],[0,2,3,4,5,6,7,8,9,10,11,12,13,14,15,16,17,18,19],[0,2,3,4,5,6,7,8,9,10,11,12,13,14,15,16,17,18,19,20],[0,2,3,4,5,6,7,8,9,10,11,12,13,14,15,16,17,18,19,20,21],[0,1,2,3,4,5,6,7,8,9,10,11,12,13,14,15,16,17,18,19,20,21,22],[0,1,2,3,4,5,6,7,8,9,10,11,12,13,14,15,16,17,18,19,20,21,22,23],[0,1,2,3,4,5,6,7,8,9,10,11,12,13,14,15,16,17,18,19,20,21,22,23,24]] 23 3 0 22 (cat [QA (4100*k+4100) (chP t k).2,QA (4100*k+4100) (chP t k).2,QA 4097 t]) [.g 0,.o 1,.o 19] za6 hst (oc (ob_a rfl rfl (zh1 (lz0 0 rfl))) (zv rfl (za2 (gq 0 rfl)) (oc (ob_a rfl rfl (zh1 (lz0 0 rfl))) (oc (ob_a rfl rfl (zh0 2 rfl zk (lz0 0 rfl))) (oc (ob_a rfl rfl (zd9 3 rfl zk trivial (lz0 0 rfl) zga)) (zv rfl (za4 4 rfl zk trivial (lz0 0 rfl) (Sub.part 1 rfl rfl) za9) (oc (ob_a rfl rfl (zh1 (lz0 0 rfl))) (oc (ob_a rfl rfl (zh0 6 rfl zk (lz0 0 rfl))) (oc (ob_a rfl rfl (zd9 7 rfl zk trivial (lz0 0 rfl) fld_77_2)) (zv rfl (za4 8 rfl zk trivial (lz0 0 rfl) (Sub.part 2 rfl rfl) za9) (oc (ob_a rfl rfl (zh1 (lz0 0 rfl))) (oc (ob_a rfl rfl (zh0 10 rfl zk (lz0 0 rfl))) (oc (ob_a rfl rfl (zd9 11 rfl zk trivial (lz0 0 rfl) zga)) (zv rfl (za4 12 rfl zk trivial (lz0 0 rfl) (Sub.part 1 rfl rfl) za9) (zv rfl (za5 (xs:=[.tmp 11,.tmp 15]) (zci zo) (.cons (vq 9 rfl) (.cons (vq 13 rfl) .nil))) (oc (ob_a rfl rfl (zh1 (lz0 0 rfl))) (oc (ob_a rfl rfl (zh0 15 rfl zk (lz0 0 rfl))) (oc (ob_a rfl rfl (zd9 16 rfl zk trivial (lz0 0 rfl) zi4)) (zv rfl (za4 17 rfl zk trivial (lz0 0 rfl) (Sub.part 0 rfl rfl) za9) (zv rfl (za5 (xs:=[.tmp 16,.tmp 20]) (zfw zo) (.cons (vq 14 rfl) (.cons (vq 18 rfl) .nil))) (oc (ob_a rfl rfl (zh0 0 rfl zk (lz0 0 rfl))) (oc (ob_a rfl rfl (zd9 20 rfl zk trivial (lz0 0 rfl) zi4)) (oc (zfu 21 rfl rfl rfl rfl zk (vq 5 rfl) za9 (Put.part 0 rfl rfl rfl)) o0))))))))))))))))))))))) rfl zd zd zk (zib zk) zk zk (fun a w hst=>?_)
 have hst:St B w0 26 [(0,_),(3,_),(21,_)] [⟨0,77,ptrH,_⟩] a w:=hst
 rw [show List.range' 23 3=[23,24,25] from rfl]
 rw [wpOps_cons]
 refine op_nilS 1 rfl hst rfl zd zk zk (fun a hst=>?_)
 rw [wpOps_cons]
 refine op_fldS 0 rfl hst zga rfl zd zk zk (fun a hst=>?_)
 rw [wpOps_cons]
 refine op_ownP (A:=QA (4097+(4100*k+4100)+(4100*k+4100)+1) (t*(chP t k).2-(chP t k).1)) (A1:=cat [QA (4100*k+4100) (chP t k).2,QA (4097+(4100*k+4100)+(4100*k+4100)+1) (t*(chP t k).2-(chP t k).1),QA 4097 t]) [2] 0 4 2 0 rfl hst rfl rfl rfl za9 rfl (Put.part 1 rfl rfl rfl) zk zk zk (fun w hst=>?_)
 refine wpOps_sP ?_
 have hst:=St.wkL hst 0 rfl (rw_nx (n:=k) ht)
 have hst:St B w0 26 [(0,_)] [⟨0,77,ptrH,RwA t (k+1)⟩] _ w:=hst
 refine ze7 ?_
 refine ret_m hst (zm 0 rfl) (zm 0 rfl) ?_
 exact zaq (rs:=[]) rfl hst .nil zd
abbrev fnOn (f g:Nat):Value:=.func (.func f) #[ptr g] #[]
def FsV (T1:TypeId)(f g:Nat):VA where
 p B v w:=∃ q,v=.slice (some ⟨q,0,none⟩) 1 1∧B≤q∧w.heap[q]?=some (.cells #[fnOn f g] T1 (0,0))
 deps:=[T1]
 cg:=fun B v w w' hg ⟨q,e,h1,h2⟩=>⟨q,e,h1,hg.heap h2⟩
 wr:=by
  rintro B v w w' k c T' fz hc hT hB hW ⟨q,e,h1,h2⟩
  refine ⟨q,e,h1,?_⟩
  rw [hW.block q (fun e=>by subst e; rw [hc] at h2; injection h2 with h2; injection h2 with _ h2 _; exact hT (by simp [h2]))]
  exact h2
theorem fs_sl {T1:TypeId}{f g:Nat}:Wk (FsV T1 f g) (SlA T1 [] [EqA (fnOn f g)]).va:=fun B v w ⟨q,e,h1,h2⟩=>by
 subst e
 refine ⟨[.slice (some ⟨q,0,none⟩) 1 1],⟨fun A hA T hT=>?_,_,1,[fnOn f g],rfl,Nat.le_refl _,by unfold maxLen; omega,⟨[[fnOn f g]],rfl,.cons ⟨rfl,rfl⟩ .nil⟩,fun _=>⟨q,0,rfl,(Array.getElem?_eq_some_iff.1 h2).1,.inr ⟨_,_,h2⟩,fun j u hu=>?_⟩⟩,rfl⟩
 ·obtain rfl:=List.mem_singleton.1 hA
  cases hT
 ·rw [cell_of_row w q (0+j) #[fnOn f g] T1 _ h2,Nat.zero_add]
  simpa using hu
def ManA (TR f g:Nat)(A:As):As where
 n:=1
 ag:=false
 p B cs w:=cs=[fnOn f g]∧B≤g∧∃ ds,w.heap[g]?=some (.cells (List.toArray ds) TR (0,0))∧A.p B ds w
 deps:=TR::A.deps
 len:=by rintro B cs w ⟨rfl,_⟩; rfl
 one:=by
  rintro B cs w ⟨rfl,_⟩ c hc
  obtain rfl:=List.mem_singleton.1 hc
  rfl
 ag1:=fun _=>rfl
 cg:=fun B cs w w' hg ⟨h1,h2,ds,h3,h4⟩=>⟨h1,h2,ds,hg.heap h3,A.cg _ _ _ _ hg h4⟩
 wr:=by
  rintro B cs w w' k c T' fz hk hT hB hW ⟨h1,h2,ds,h3,h4⟩
  simp only [List.mem_cons,not_or] at hT
  have n1:g≠k:=by
   rintro rfl
   rw [hk] at h3
   injection h3 with h3
   injection h3 with _ h3 _
   exact hT.1 h3
  exact ⟨h1,h2,ds,(hW.block g n1).trans h3,A.wr _ _ _ _ _ _ _ _ hk hT.2 hB hW h4⟩
def CG (P:Program)(fm f:FuncId)(T1 TR:TypeId)(A0 A1:As)(pre:VA):Prop :=
 (∃ fn, P.funcs[fm]? = some fn ∧ (fn.name == "runtime.NumGoroutine") = false ∧ fn.body.isNone = false) ∧
 ∀ (B:Nat) (w:World) (g:Nat) (cs:List Value) (x v:Value),B≤g→w.heap[g]?=some (.cells cs.toArray TR (0,0))→A0.p B cs w→pre.p B x w→(FsV T1 f g).p B v w →
  Calls P fm #[x,v] w fun e w'=>∃ u cs',e=.returned u∧(Tu []).p B u w'∧But g w w'∧w'.heap[g]?=some (.cells (List.toArray cs') TR (0,0))∧A1.p B cs' w'
def RQg (B:Nat)(w0:Bs)(q f g:Nat)(T1 TR:TypeId)(A1:As):Ending→World→Prop:=fun e w'=>∃ u cs',e=.returned u∧(Tu []).p B u w'∧Kept w0 w'∧w'.heap[q]?=some (.cells #[fnOn f g] T1 (0,0))∧w'.heap[g]?=some (.cells (List.toArray cs') TR (0,0))∧A1.p B cs' w'
theorem CG.intro {P : Program} {fm f : FuncId} {fn : Func} {cd : Code} {T1 TR : TypeId} {A0 A1 : As} {pre : VA} (hf : P.funcs[fm]? = some fn) (hb : fn.body = some cd) (hn : (fn.name == "runtime.NumGoroutine") = false) (hsz : 2 ≤ fn.ntmps)
  (h:∀ (B q g:Nat) (w0:Bs) (a:Act),w0.may g→St B w0 fn.ntmps (argΓ [pre,EqV (.slice (some ⟨q,0,none⟩) 1 1)]) [⟨1,T1,slH 1 1,ManA TR f g A0⟩] a w0.w→cd.wp P (bPost P fn (RQg B w0 q f g T1 TR A1)) a w0.w):CG P fm f T1 TR A0 A1 pre:=by
 refine ⟨⟨fn,hf,hn,by rw [hb]; rfl⟩,fun B w g cs x v hBg hg hp hx hv=>?_⟩
 obtain ⟨q,rfl,hBq,hq⟩:=hv
 have hlq:=(Array.getElem?_eq_some_iff.1 hq).1
 have ha':All2 (fun (A:VA) v=>A.p B v w) [pre,EqV (.slice (some ⟨q,0,none⟩) 1 1)] [x,.slice (some ⟨q,0,none⟩) 1 1]:=.cons hx (.cons rfl .nil)
 have hlg:=(Array.getElem?_eq_some_iff.1 hg).1
 refine (zbw hf hb (h B q g ⟨w,fun k=>k=q∨k=g,false⟩ _ (.inr (.inr rfl)) ?_)).mono fun _ w' ⟨u,cs',he,hu,hk,h1,h2,h3⟩=>⟨u,cs',he,hu,?_,h2,h3⟩
 ·refine ⟨fun k hk=>?_,DefOk.nil rfl,?_,Kept.refl _,All2.args ha',fun l' hl'=>?_,fun l' hl' m' hm' hne=>?_⟩
  ·rcases hk with hk | hk | hk
   ·exact Nat.le_trans hBq (Nat.le_trans (Nat.le_of_lt hlq) hk)
   ·exact hk▸hBq
   ·exact hk▸hBg
  ·simp only [Array.size_append,Array.size_replicate,List.size_toArray,List.length_cons,List.length_nil]
   show 2+(fn.ntmps-2)=_
   omega
  ·simp at hl'
   subst hl'
   have h0:=All2.args (N:=fn.ntmps-2) ha' (1,EqV (.slice (some ⟨q,0,none⟩) 1 1)) (by simp [argΓ])
   exact ⟨q,[fnOn f g],h0,.inr (.inl rfl),hq,rfl,hBg,cs,hg,hp⟩
  ·simp at hl' hm'
   subst hl' hm'
   exact absurd rfl hne
 ·refine ⟨hk.os,hk.tape,hk.output,hk.size,fun k hk1 hk2=>?_⟩
  by_cases hkc:k=q
  ·subst hkc
   exact h1.trans hq.symm
  ·exact hk.block k hk1 fun hh=>hh.elim hkc hk2
theorem ret_g {P:Program}{fn:Func}{B N q f g:Nat}{w0:Bs}{Γ:List (Nat × VA)}{Λ:List Lc}{a:Act}{w:World}{T1 TR:TypeId}{A1:As}(h:St B w0 N Γ Λ a w)(hm:(1,EqV (.slice (some ⟨q,0,none⟩) 1 1))∈Γ)(hl:(⟨1,T1,slH 1 1,ManA TR f g A1⟩:Lc)∈Λ)
  (hb:bPost P fn (RQ B w0 (Tu [])) .ret a w):bPost P fn (RQg B w0 q f g T1 TR A1) .ret a w:=by
 refine zfl h hb fun v w h ⟨v',e1,e2,e3⟩=>?_
 obtain ⟨q',cs,f1,_,f3,rfl,_,ds,f4,f5⟩:=h.locs _ hl
 replace f1:a.eval (.tmp 1)=(slH 1 1).f q':=f1
 have f0:a.eval (.tmp 1)=(slH 1 1).f q:=h.vals _ hm
 have:q'=q:=Rg.Hd.inj (H:=slH 1 1) (H':=slH 1 1) (by rw [← f1,← f0])
 subst this
 exact ⟨v',ds,e1,e2,e3,f3,f4,f5⟩
section
open Rg
variable {P:Program} {Q:Exit→Act→World→Prop} {R:Rg} {B i:Nat} {w0:Bs}
theorem has_fs {x:Operand}{T1 TR f g q:Nat}{A:As}(hx:Has R B w0 i x (EqV (.slice (some ⟨q,0,none⟩) 1 1)))(h1:Has R B w0 i (.tmp 1) (EqV (.slice (some ⟨q,0,none⟩) 1 1)))(hl:LocH R i 1 T1 (slH 1 1) (ManA TR f g A)):Has R B w0 i x (FsV T1 f g):=fun a w av=>by
 obtain ⟨q',cs,f1,hm,f3,rfl,_⟩:=hl.ok av
 have f0:a.eval (.tmp 1)=(slH 1 1).f q:=h1 a w av
 have:q'=q:=Rg.Hd.inj (H:=slH 1 1) (H':=slH 1 1) (by rw [← f1,← f0])
 subst this
 exact ⟨q',hx a w av,av.lo _ hm,f3⟩
theorem r_mkOn {f g:Nat}{x:Operand}(hx:Has R B w0 i x (EqV (ptr g))):Wv P Q R B w0 i (.makeFunc (.func f) #[x] #[]) (EqA (fnOn f g)).va :=
 zbe fun _ _ _ _ _ a w av=>by
  have e:a.eval x=ptr g:=hx a w av
  exact ⟨fnOn f g,w,by simp [execOp,Instr.makeFunc,e],Grow.refl w,[fnOn f g],⟨rfl,rfl⟩,rfl⟩
end
section
open Rg
variable {P:Program} {Q:Exit→Act→World→Prop} {B N:Nat} {w0:Bs} {Γ:List (Nat × VA)} {Λ:List Lc} {a:Act} {w:World} {ops:Array Oper} {i:Nat} {K:Act→World→Prop}
theorem St.kept {w':World}{Ts:List TypeId}{d:Nat}{v:Value}{post:VA}{sx:Nat}{T:TypeId}{H:Hd}{A0 A1:As}(src:List Nat)(e:Nat)(h:St B w0 N Γ Λ a w)(hk:Kept (Wid B w Ts) w')(hv:post.p B v w')(hl:Λ[e]?=some ⟨sx,T,H,A0⟩)(h1:LcOk B w0.may sx T H A1 a w')
  (hbase:Kept w0 w') (hd:d<N) (hΓ:Γ.all (fun x=>x.1 != d)=true) (hΛd:Λ.all (fun l=>l.s != d)=true)
  (hsrc:src.all (fun k=>match Γ[k]? with | some y=>Ts.all (fun E => !y.2.deps.contains E) | none=>false)=true) (hΛ:Λ.zipIdx.all (fun x=>x.2==e || (!Ts.contains x.1.T&&Ts.all (fun E => !x.1.A.deps.contains E)))=true):St B w0 N ((d,post)::src.filterMap fun k=>Γ[k]?) (Λ.set e ⟨sx,T,H,A1⟩) (a.put (some d) v) w':=by
 have hdsz:d<a.tmps.size:=by rw [h.size]; exact hd
 have hls:∀ l∈Λ,l.s≠d:=fun l hl=>by simpa using List.all_eq_true.1 hΛd l hl
 have hrow:∀ {g:Nat} {c:Array Value} {T':TypeId} {fz:Nat × Nat},w.heap[g]?=some (.cells c T' fz)→T' ∉ Ts→w'.heap[g]?=some (.cells c T' fz):=fun {g c T' fz} hg1 hne =>
  (hk.block g (Array.getElem?_eq_some_iff.1 hg1).1 (fun ⟨_,c',T2,fz',e5,e6⟩=>by
   rw [hg1] at e5
   injection e5 with e5
   injection e5 with _ e5 _
   subst e5
   exact hne e6)).trans hg1
 have hset:∀ m∈Λ.set e ⟨sx,T,H,A1⟩,∃ m0∈Λ,m0.s=m.s:=fun m hm=>by
  rcases List.mem_or_eq_of_mem_set hm with hm | rfl
  ·exact ⟨m,hm,rfl⟩
  ·exact ⟨_,List.mem_of_getElem? hl,rfl⟩
 refine ⟨h.lo,h.defers.keep rfl fun D hD=>(hk.block D (Array.getElem?_eq_some_iff.1 hD).1 (fun ⟨_,c,T2,fz,e5,_⟩=>by rw [hD] at e5; cases e5)).trans hD,by rw [zbv]; exact h.size,hbase,fun y hy=>?_,fun m hm=>?_,fun m1 hm1 m2 hm2 hne=>?_⟩
 ·rcases List.mem_cons.1 hy with rfl | hy
  ·show post.p B ((a.put (some d) v).eval (.tmp d)) w'
   rw [zaz _ _ _ hdsz]
   exact hv
  ·obtain ⟨k,hk1,hk2⟩:=List.mem_filterMap.1 hy
   have hs:=List.all_eq_true.1 hsrc k hk1
   simp only [hk2,List.all_eq_true,Bool.not_eq_true',List.contains_eq_mem,decide_eq_false_iff_not] at hs
   have hyd:y.1≠d:=by simpa using List.all_eq_true.1 hΓ y (List.mem_of_getElem? hk2)
   rw [za8 _ _ _ _ hyd]
   exact VA.kept (h.vals y (List.mem_of_getElem? hk2)) hk hs
 ·obtain ⟨j,hj⟩:=List.getElem?_of_mem hm
  by_cases e1:j=e
  ·subst e1
   have:m=⟨sx,T,H,A1⟩:=by
    rw [List.getElem?_set_self (List.getElem?_eq_some_iff.1 hl).1] at hj
    injection hj with hj
    exact hj.symm
   subst this
   exact h1.eval (za8 _ _ _ _ (hls _ (List.mem_of_getElem? hl)))
  ·rw [List.getElem?_set_ne (fun e2=>e1 e2.symm)] at hj
   have hc:=List.all_eq_true.1 hΛ (m,j) (List.mem_zipIdx_iff_getElem?.2 hj)
   simp only [Bool.or_eq_true,beq_iff_eq,Bool.and_eq_true,Bool.not_eq_true',List.contains_eq_mem,decide_eq_false_iff_not,List.all_eq_true] at hc
   have hc':=hc.resolve_left e1
   obtain ⟨g',cs2,p1,p2,p3,p4⟩:=h.locs m (List.mem_of_getElem? hj)
   exact ⟨g',cs2,by rw [za8 _ _ _ _ (hls _ (List.mem_of_getElem? hj))]; exact p1,p2,hrow p3 hc'.1,As.kept p4 hk hc'.2⟩
 ·obtain ⟨m3,r1,r2⟩:=hset m1 hm1
  obtain ⟨m4,r3,r4⟩:=hset m2 hm2
  rw [← r2,← r4] at hne ⊢
  rw [za8 _ _ _ _ (hls _ r1),za8 _ _ _ _ (hls _ r3)]
  exact h.dis m3 r1 m4 r3 hne
theorem but_wid {g B:Nat}{w w':World}{cs:Array Value}{T:TypeId}{fz:Nat × Nat}(h:But g w w')(hB:B≤g)(hc:w.heap[g]?=some (.cells cs T fz)):Kept (Wid B w [T]) w' :=
 ⟨h.os,h.tape,h.output,h.size,fun k h1 h2=>h.block k h1 fun e=>h2 (by have e':k=g:=e; subst e'; exact ⟨hB,cs,T,fz,hc,by simp⟩)⟩
theorem op_callOn {d t f g sx:Nat}{T1 TR T2:TypeId}{H:Hd}{A0 A1:As}{at_:Array TypeId}{ps:String}{af:Array Edge}(src:List Nat)(kt e:Nat)(ho:ops[i]?=some ⟨some d,.call ⟨.value (.tmp t),#[],at_⟩,T2,ps,af,none⟩)(h:St B w0 N Γ Λ a w)
  (hc:Cm P f TR A0 A1 [.w ptrH] (Tu [])) (ht:Γ[kt]?=some (t,(EqA (fnOn f g)).va)) (hl:Λ[e]?=some ⟨sx,T1,H,ManA TR f g A0⟩) (hT:(T1 != TR)=true)
  (hmay:w0.may g) (hd:d<N) (hΓ:Γ.all (fun x=>x.1 != d)=true) (hΛd:Λ.all (fun l=>l.s != d)=true)
  (hsrc:src.all (fun k=>match Γ[k]? with | some y=>[TR].all (fun E => !y.2.deps.contains E) | none=>false)=true) (hΛ:Λ.zipIdx.all (fun x=>x.2==e || (![TR].contains x.1.T&&[TR].all (fun E => !x.1.A.deps.contains E)))=true)
  (hK:∀ a' w',St B w0 N ((d,Tu [])::src.filterMap fun k=>Γ[k]?) (Λ.set e ⟨sx,T1,H,ManA TR f g A1⟩) a' w'→K a' w'):wpOp P ops Q i K a w:=by
 obtain ⟨q,cs,f1,f2,f3,rfl,hB,ds,f4,f5⟩:=h.locs _ (List.mem_of_getElem? hl)
 have ef:a.eval (.tmp t)=fnOn f g:=by
  obtain ⟨c,⟨e1,_⟩,e2⟩:=h.vals _ (List.mem_of_getElem? ht)
  subst e1
  exact e2
 obtain ⟨⟨fn,hf,hn,hb⟩,hcall⟩:=hc
 have hrun:(execOp a.eval ⟨some d,.call ⟨.value (.tmp t),#[],at_⟩,T2,ps,af,none⟩).run P w=.ok (.enter f [ptr g].toArray) w:=by
  simp only [execOp,resolve,ef,Deferred.ofValue,Sem.run_bind,Sem.run_pure,Result.andThen_ok,invoke,zbj hf hn hb]
  simp
 unfold wpOp
 simp only [ho,Region.wanted,if_true]
 refine .inl ?_
 unfold Oper.wp
 rw [hrun]
 refine (hcall B w g ds _ hB f4 f5 (.cons rfl .nil)).mono ?_
 rintro e0 w' ⟨v,cs',rfl,hv,hbt,h1,h2⟩
 have hk:=but_wid hbt hB f4
 refine hK _ _ (h.kept src e hk hv hl ⟨q,[fnOn f g],f1,f2,?_,rfl,hB,cs',h1,h2⟩ (h.base.but hbt hmay) hd hΓ hΛd hsrc hΛ)
 have hne:q≠g:=fun e=>by
  subst e
  rw [f3] at f4
  injection f4 with f4
  injection f4 with _ f4 _
  have:T1≠TR:=by simpa using hT
  exact this f4
 exact (hbt.block q (Array.getElem?_eq_some_iff.1 f3).1 hne).trans f3
theorem op_callG {d x t f fm g sx:Nat}{T1 TR T2:TypeId}{A0 A1:As}{pre:VA}{at_:Array TypeId}{ps:String}{af:Array Edge}(src:List Nat)(kx kt kg e:Nat)(ho:ops[i]?=some ⟨some d,.call ⟨.value (.func fm),#[.tmp x,.tmp t],at_⟩,T2,ps,af,none⟩)(h:St B w0 N Γ Λ a w)
  (hc:CG P fm f T1 TR A0 A1 pre) (hx:Γ[kx]?=some (x,pre)) (ht:Γ[kt]?=some (t,NewR w0.w.heap.size T1 [EqA (fnOn f g)])) (hg:Γ[kg]?=some (sx,EqV (ptr g))) (hl:Λ[e]?=some ⟨sx,TR,ptrH,A0⟩)
  (hd:d<N) (hΓ:Γ.all (fun x=>x.1 != d)=true) (hΛd:Λ.all (fun l=>l.s != d)=true)
  (hsrc:src.all (fun k=>match Γ[k]? with | some y=>[TR].all (fun E => !y.2.deps.contains E) | none=>false)=true) (hΛ:Λ.zipIdx.all (fun x=>x.2==e || (![TR].contains x.1.T&&[TR].all (fun E => !x.1.A.deps.contains E)))=true)
  (hK:∀ a' w',St B w0 N ((d,Tu [])::src.filterMap fun k=>Γ[k]?) (Λ.set e ⟨sx,TR,ptrH,A1⟩) a' w'→K a' w'):wpOp P ops Q i K a w:=by
 obtain ⟨g1,cs,q1,q2,q3,q4⟩:=h.locs _ (List.mem_of_getElem? hl)
 have q0:a.eval (.tmp sx)=ptr g:=h.vals _ (List.mem_of_getElem? hg)
 have:g1=g:=Rg.Hd.inj (H:=ptrH) (H':=ptrH) (show blk (ptr g1)=blk (ptr g) by rw [← show _=ptr g1 from q1,← q0])
 subst this
 have hfs:(FsV T1 f g1).p B (a.eval (.tmp t)) w:=by
  obtain ⟨q,ds,e1,e2,e3,ps,e4,hps⟩:=h.vals _ (List.mem_of_getElem? ht)
  cases hps with
  | cons h1 h2 =>
   cases h2
   obtain ⟨h1,_⟩:=h1
   subst h1 e4
   exact ⟨q,e1,h.lo _ (.inl e2),e3⟩
 obtain ⟨⟨fn,hf,hn,hb⟩,hcall⟩:=hc
 have hrun:(execOp a.eval ⟨some d,.call ⟨.value (.func fm),#[.tmp x,.tmp t],at_⟩,T2,ps,af,none⟩).run P w=.ok (.enter fm #[a.eval (.tmp x),a.eval (.tmp t)]) w:=by
  simp only [execOp,resolve,Act.eval,Deferred.ofValue,Sem.run_bind,Sem.run_pure,Result.andThen_ok,invoke,zbj hf hn hb]
  simp [Act.eval]
 unfold wpOp
 simp only [ho,Region.wanted,if_true]
 refine .inl ?_
 unfold Oper.wp
 rw [hrun]
 refine (hcall B w g1 cs _ _ (h.lo g1 q2) q3 q4 (h.vals _ (List.mem_of_getElem? hx)) hfs).mono ?_
 rintro e0 w' ⟨v,cs',rfl,hv,hbt,h1,h2⟩
 have hk:=but_wid hbt (h.lo g1 q2) q3
 exact hK _ _ (h.kept src e hk hv hl ⟨g1,cs',q1,q2,h1,h2⟩ (h.base.but hbt q2) hd hΓ hΛd hsrc hΛ)
theorem op_boxS {d x:Nat}{T T':TypeId}{A:As}{ps:String}{af:Array Edge}(kx:Nat)(src:List Nat)(ho:ops[i]?=some ⟨some d,.box T (.tmp x),T',ps,af,none⟩)(h:St B w0 N Γ Λ a w)(hx:Γ[kx]?=some (x,A.va))(hd:d<N)
  (hsrc:src.all (fun k=>match Γ[k]? with | some y=>y.1 != d | none=>false)=true) (hΛ:Λ.all (fun l=>l.s != d)=true)
  (hK:∀ a' w' g,St B w0 N ((d,EqV (ptr g))::src.filterMap fun k=>Γ[k]?) (Λ++[⟨d,T,ptrH,A⟩]) a' w'→K a' w'):wpOp P ops Q i K a w:=by
 obtain ⟨cs,hp,hv⟩:=h.vals _ (List.mem_of_getElem? hx)
 have hv':a.eval (.tmp x)=shape A.ag cs:=hv
 have hds:d<a.tmps.size:=by rw [h.size]; exact hd
 have hΛ':∀ l∈Λ,l.s≠d:=fun l hl=>by simpa using List.all_eq_true.1 hΛ l hl
 obtain ⟨W1,hW1⟩:∃ W1,w.alloc (.cells cs.toArray T)=W1:=⟨_,rfl⟩
 have hg1:Grow w W1:=by rw [← hW1]; exact Grow.alloc _ _
 have hnew:W1.heap[w.heap.size]?=some (.cells cs.toArray T (0,0)):=by rw [← hW1]; exact heap_alloc_new w _
 have eo:∀ t,t≠d→(a.put (some d) (ptr w.heap.size)).eval (.tmp t)=a.eval (.tmp t):=fun t ht=>za8 _ _ _ _ ht
 have ed:(a.put (some d) (ptr w.heap.size)).eval (.tmp d)=ptr w.heap.size:=zaz _ _ _ hds
 unfold wpOp
 simp only [ho,Region.wanted,if_true]
 refine .inl (zbn (w':=W1) (v:=ptr w.heap.size) ?_ (hK _ _ w.heap.size ⟨h.lo,h.defers.grow hg1 rfl,by rw [zbv]; exact h.size,h.base.grow hg1,fun y hy=>?_,fun m hm=>?_,fun m hm m' hm' hne=>?_⟩))
 ·rw [← hW1]; simp [execOp,hv',Instr.box,newVar,newRow,ptr,A.cells_shape hp]
 ·rcases List.mem_cons.1 hy with rfl | hy
  ·exact ed
  ·obtain ⟨k,hk1,hk2⟩:=List.mem_filterMap.1 hy
   have:=List.all_eq_true.1 hsrc k hk1
   rw [hk2] at this
   rw [eo _ (by simpa using this)]
   exact y.2.grow _ _ _ _ hg1 (h.vals y (List.mem_of_getElem? hk2))
 ·rcases List.mem_append.1 hm with hm | hm
  ·obtain ⟨g,c,q1,q2,q3,q4⟩:=h.locs m hm
   exact ⟨g,c,by rw [eo _ (hΛ' m hm)]; exact q1,q2,hg1.heap q3,m.A.grow _ _ _ _ hg1 q4⟩
  ·obtain rfl:=List.mem_singleton.1 hm
   exact ⟨w.heap.size,cs,ed,.inl h.base.size,hnew,A.grow _ _ _ _ hg1 hp⟩
 ·have hnm:∀ m∈Λ,∃ g,blk ((a.put (some d) (ptr w.heap.size)).eval (.tmp m.s))=some g∧g<w.heap.size:=fun m hm=>by
   obtain ⟨g,c,q1,q2,q3,q4⟩:=h.locs m hm
   exact ⟨g,by rw [eo _ (hΛ' m hm),q1]; exact m.H.ok g,(Array.getElem?_eq_some_iff.1 q3).1⟩
  have hd0:blk ((a.put (some d) (ptr w.heap.size)).eval (.tmp d))=some w.heap.size:=by rw [ed]; rfl
  rcases List.mem_append.1 hm with hm | hm <;> rcases List.mem_append.1 hm' with hm' | hm'
  ·rw [eo _ (hΛ' m hm),eo _ (hΛ' m' hm')]
   exact h.dis m hm m' hm' hne
  ·obtain rfl:=List.mem_singleton.1 hm'
   obtain ⟨g,q1,q2⟩:=hnm m hm
   rw [q1,hd0]
   intro e
   injection e with e
   omega
  ·obtain rfl:=List.mem_singleton.1 hm
   obtain ⟨g,q1,q2⟩:=hnm m' hm'
   rw [q1,hd0]
   intro e
   injection e with e
   omega
  ·obtain rfl:=List.mem_singleton.1 hm
   obtain rfl:=List.mem_singleton.1 hm'
   exact absurd rfl hne
theorem St.ren {s t g:Nat}{T:TypeId}{A:As}(h:St B w0 N Γ Λ a w)(e ks kt:Nat)(hl:Λ[e]?=some ⟨s,T,ptrH,A⟩)(hs:Γ[ks]?=some (s,EqV (ptr g)))(ht:Γ[kt]?=some (t,EqV (ptr g)))(hone:Λ.all (fun l=>l.s != t)=true)(hone2:Λ.zipIdx.all (fun x=>x.2==e || x.1.s != s)=true):St B w0 N Γ (Λ.set e ⟨t,T,ptrH,A⟩) a w:=by
 have e1:a.eval (.tmp s)=ptr g:=h.vals _ (List.mem_of_getElem? hs)
 have e2:a.eval (.tmp t)=ptr g:=h.vals _ (List.mem_of_getElem? ht)
 have key:∀ m∈Λ.set e ⟨t,T,ptrH,A⟩,(m=⟨t,T,ptrH,A⟩)∨(m∈Λ∧m.s≠s):=fun m hm=>by
  obtain ⟨j,hj⟩:=List.getElem?_of_mem hm
  by_cases h1:j=e
  ·subst h1
   rw [List.getElem?_set_self (List.getElem?_eq_some_iff.1 hl).1] at hj
   injection hj with hj
   exact .inl hj.symm
  ·rw [List.getElem?_set_ne (fun e2=>h1 e2.symm)] at hj
   have:=List.all_eq_true.1 hone2 (m,j) (List.mem_zipIdx_iff_getElem?.2 hj)
   simp only [Bool.or_eq_true,beq_iff_eq,bne_iff_ne] at this
   exact .inr ⟨List.mem_of_getElem? hj,this.resolve_left h1⟩
 have hml:=List.mem_of_getElem? hl
 refine ⟨h.lo,h.defers,h.size,h.base,h.vals,fun m hm=>?_,fun m1 h1 m2 h2 hne=>?_⟩
 ·rcases key m hm with rfl | ⟨hm,_⟩
  ·obtain ⟨g',cs,q1,q2,q3,q4⟩:=h.locs _ hml
   exact ⟨g',cs,(e2.trans e1.symm).trans q1,q2,q3,q4⟩
  ·exact h.locs m hm
 ·rcases key m1 h1 with rfl | ⟨k1,n1⟩ <;> rcases key m2 h2 with rfl | ⟨k2,n2⟩
  ·exact absurd rfl hne
  ·show blk (a.eval (.tmp t))≠_
   rw [e2,← e1]
   exact h.dis _ hml m2 k2 (fun e=>n2 e.symm)
  ·show _≠blk (a.eval (.tmp t))
   rw [e2,← e1]
   exact h.dis m1 k1 _ hml n1
  ·exact h.dis m1 k1 m2 k2 hne
end
end Go.Proofs.YtagabklfjmchaaaGreat
