import Derived.Test.YthdbhckhignfcaaGreatDoorBxAa
import Derived.Test.YthdbhckhignfcaaGreatDoorBxAc
import Derived.Test.YthdbhckhignfcaaGreatDoorBxAn
import Derived.Test.YthdbhckhignfcaaGreatDoorBxBa
import Derived.Test.YthdbhckhignfcaaGreatDoorBxBb
import Derived.Test.YthdbhckhignfcaaGreatDoorBxBd
import Derived.Laws.AppendOwn
import Derived.Laws.OwnMore
import Derived.Orders
import Derived.Great.BuildSlice
set_option linter.unusedVariables false
set_option linter.unusedSimpArgs false
set_option linter.unusedSectionVars false
set_option maxRecDepth 100000
namespace Go.Proofs.YthdbhckhignfcaaGreatDoor
open Go Go.RowKit
theorem As.many {A:As}{B:Nat}{cs:List Value}{w':World}:∀ (gs:List Nat) {w:World},A.p B cs w→w'.os=w.os→w'.tape=w.tape→w'.output=w.output→w.heap.size≤w'.heap.size→(∀ k c T fz,w.heap[k]?=some (.cells c T fz)→k ∉ gs→w'.heap[k]?=w.heap[k]?)→(∀ g∈gs,B≤g∧∃ c T fz,w.heap[g]?=some (.cells c T fz)∧T ∉ A.deps)→A.p B cs w'
 | [],w,hp,h1,h2,h3,h4,h5,_=>A.cg _ _ _ _ ⟨h4,fun g c T fz hg=>(h5 g c T fz hg (by simp)).trans hg⟩ hp
 | g::gs,w,hp,h1,h2,h3,h4,h5,h6=>by
  by_cases hg:g∈gs
  ·exact As.many gs hp h1 h2 h3 h4 (fun k c T fz hk hn=>h5 k c T fz hk (by simp only [List.mem_cons,not_or]; exact ⟨fun e=>hn (by rw [e]; exact hg),hn⟩)) (fun g' hg'=>h6 g' (List.mem_cons_of_mem _ hg'))
  ·obtain ⟨hB,c,T,fz,hc,hT⟩:=h6 g List.mem_cons_self
   have hlt:g<w.heap.size:=(Array.getElem?_eq_some_iff.1 hc).1
   have hx:w'.heap[g]?=some (w'.heap[g]'zo):=Array.getElem?_eq_getElem _
   generalize w'.heap[g]'zo=x at hx
   have hwr:Wr g w { w with heap:=w.heap.setIfInBounds g x }:=⟨rfl,rfl,rfl,by simp,fun k hk=>by
    show (w.heap.setIfInBounds g x)[k]?=_
    rw [Array.getElem?_setIfInBounds_ne (fun e=>hk e.symm)]⟩
   have hsz:(w.heap.setIfInBounds g x).size=w.heap.size:=by simp
   refine As.many gs (w:={ w with heap:=w.heap.setIfInBounds g x }) (A.wr _ _ _ _ _ _ _ _ hc hT hB hwr hp) h1 h2 h3 (by rw [hsz]; exact h4) (fun k c' T' fz' hk hn=>?_) (fun g' hg'=>?_)
   ·show _=(w.heap.setIfInBounds g x)[k]?
    replace hk:(w.heap.setIfInBounds g x)[k]?=some (.cells c' T' fz'):=hk
    by_cases e:k=g
    ·subst e
     rw [Array.getElem?_setIfInBounds_self_of_lt hlt]
     exact hx
    ·rw [Array.getElem?_setIfInBounds_ne (fun e'=>e e'.symm)] at hk ⊢
     exact h5 k c' T' fz' hk (by simp only [List.mem_cons,not_or]; exact ⟨e,hn⟩)
   ·obtain ⟨hB',c',T',fz',hc',hT'⟩:=h6 g' (List.mem_cons_of_mem _ hg')
    refine ⟨hB',c',T',fz',?_,hT'⟩
    show (w.heap.setIfInBounds g x)[g']?=_
    rw [Array.getElem?_setIfInBounds_ne (show g≠g' from fun e=>hg (by rw [e]; exact hg'))]
    exact hc'
def locF (Λ:List Lc)(a:Act)(k:Nat):Prop:=∃ l∈Λ,blk (a.eval (.tmp l.s))=some k
def defF (w0:Bs)(w:World)(k:Nat):Prop:=w0.may k∧w.heap[k]?=some (.deferred (some []))
theorem St.frame {B N:Nat}{w0:Bs}{Γ:List (Nat × VA)}{Λ:List Lc}{a:Act}{w:World}(h:St B w0 N Γ Λ a w):∃ w1:Bs,St B w1 N Γ Λ a w∧∀ {N':Nat} {Γ':List (Nat × VA)} {Λ':List Lc} {a':Act} {w':World},St B w1 N' Γ' Λ' a' w' →
  St B w0 N' Γ' Λ' a' w'∧∀ {b s3:Nat} {E:TypeId} {m:Nat} {D:List TypeId} {l:List As} {v:Value},(OwnB b E m D l).p B v w→(PtrLt b).p B (a.eval (.tmp s3)) w→Λ.all (fun l => !D.contains l.T&&(l.T != E || l.s==s3))=true→(OwnB b E m D l).p B v w':=by
 have hloc:∀ k,locF Λ a k→w0.may k∧∃ l∈Λ,blk (a.eval (.tmp l.s))=some k∧∃ cs,w.heap[k]?=some (.cells cs l.T (0,0)):=fun k ⟨l,hl,hb⟩=>by
  obtain ⟨g,cs,e1,e2,e3,_⟩:=h.locs l hl
  have:g=k:=by rw [e1,l.H.ok] at hb; injection hb
  subst this
  exact ⟨e2,l,hl,hb,_,e3⟩
 have hmay:∀ k,(⟨w,fun k=>locF Λ a k∨defF w0 w k,w0.nd⟩:Bs).may k→w0.may k:=fun k hk=>by
  rcases hk with hk | hk | hk
  ·exact .inl (Nat.le_trans h.base.size hk)
  ·exact (hloc k hk).1
  ·exact hk.1
 refine ⟨⟨w,fun k=>locF Λ a k∨defF w0 w k,w0.nd⟩,⟨?_,⟨fun d hd=>?_,h.defers.nodup,h.defers.none⟩,h.size,Kept.refl _,h.vals,fun l hl=>?_,h.dis⟩,fun {N' Γ' Λ' a' w'} h'=>⟨⟨h.lo,⟨fun d hd=>?_,h'.defers.nodup,h'.defers.none⟩,h'.size,?_,h'.vals,fun l hl=>?_,h'.dis⟩,?_⟩⟩
 ·exact fun g hg=>h.lo g (hmay g hg)
 ·obtain ⟨D,e1,e2,e3⟩:=h.defers.all d hd
  exact ⟨D,e1,.inr (.inr ⟨e2,e3⟩),e3⟩
 ·obtain ⟨g,cs,e1,e2,e3,e4⟩:=h.locs l hl
  exact ⟨g,cs,e1,.inr (.inl ⟨l,hl,by rw [e1]; exact l.H.ok g⟩),e3,e4⟩
 ·obtain ⟨D,e1,e2,e3⟩:=h'.defers.all d hd
  exact ⟨D,e1,hmay D e2,e3⟩
 ·refine ⟨h'.base.os.trans h.base.os,h'.base.tape.trans h.base.tape,h'.base.output.trans h.base.output,Nat.le_trans h.base.size h'.base.size,fun k hk hf=>?_⟩
  refine (h'.base.block k (Nat.lt_of_lt_of_le hk h.base.size) (fun hF=>?_)).trans (h.base.block k hk hf)
  rcases hmay k (.inr hF) with h1 | h1
  ·omega
  ·exact hf h1
 ·obtain ⟨g,cs,e1,e2,e3,e4⟩:=h'.locs l hl
  exact ⟨g,cs,e1,hmay g e2,e3,e4⟩
 ·rintro b s3 E m D l v ⟨hb1,hb2,hd1,hd2,ds,hp,how⟩ ⟨g3,hg3,hlt⟩ hch
  have hck:∀ l'∈Λ,l'.T ∉ D∧(l'.T≠E∨l'.s=s3):=fun l' hl'=>by
   have:=List.all_eq_true.1 hch l' hl'
   simp only [Bool.and_eq_true,Bool.or_eq_true,beq_iff_eq,bne_iff_ne,Bool.not_eq_true',List.contains_eq_mem,decide_eq_false_iff_not] at this
   exact this
  refine ⟨Nat.le_trans hb1 h'.base.size,hb2,hd1,hd2,ds,?_,how.1,?_⟩
  ·refine As.many (Λ.filterMap fun l'=>blk (a.eval (.tmp l'.s))) hp h'.base.os h'.base.tape h'.base.output h'.base.size (fun k c T fz hk hn=>h'.base.block k (Array.getElem?_eq_some_iff.1 hk).1 fun hF=>by
    rcases hF with ⟨l',hl',hb'⟩ | hF
    ·exact hn (List.mem_filterMap.2 ⟨l',hl',hb'⟩)
    ·rw [hF.2] at hk; cases hk) (fun g hg=>?_)
   obtain ⟨l',hl',hb'⟩:=List.mem_filterMap.1 hg
   obtain ⟨hm,l2,hl2,hb2',cs,hcs⟩:=hloc g ⟨l',hl',hb'⟩
   exact ⟨h.lo _ hm,_,_,_,hcs,fun hT=>by
    obtain ⟨A',hA',hT'⟩:∃ A'∈l,l2.T∈A'.deps:=by simpa [cat] using hT
    exact (hck l2 hl2).1 (hd2 A' hA' _ hT')⟩
  ·rcases how.2 with h1 | ⟨g0,cap,cur,e1,e2,e3,e4⟩
   ·exact .inl h1
   ·refine .inr ⟨g0,cap,cur,e1,e2,?_,e4⟩
    rw [h'.base.block g0 (Array.getElem?_eq_some_iff.1 e3).1 fun hF=>?_]
    ·exact e3
    ·replace hF:locF Λ a g0:=hF.resolve_right fun hF=>by rw [hF.2] at e3; cases e3
     obtain ⟨_,l',hl',hb',cs,hcs⟩:=hloc g0 hF
     rcases (hck l' hl').2 with h1 | h1
     ·rw [hcs] at e3
      injection e3 with e3
      injection e3 with _ e3 _
      exact h1 e3
     ·rw [← h1,hb'] at hg3
      injection hg3 with hg3
      omega
theorem St.eqvw {B N:Nat}{w0:Bs}{Γ:List (Nat × VA)}{Λ:List Lc}{a:Act}{w:World}(h:St B w0 N Γ Λ a w){s:Nat}{A:VA}(k:Nat)(hm:Γ[k]?=some (s,A)):∃ v,A.p B v w∧St B w0 N (Γ.set k (s,EqV v)) Λ a w :=
 ⟨a.eval (.tmp s),h.vals _ (List.mem_of_getElem? hm),h.lo,h.defers,h.size,h.base,fun x hx=>by
  rcases List.mem_or_eq_of_mem_set hx with hx | rfl
  ·exact h.vals x hx
  ·exact rfl,h.locs,h.dis⟩
theorem St.putG {B N:Nat}{w0:Bs}{Γ:List (Nat × VA)}{Λ:List Lc}{a:Act}{w:World}(h:St B w0 N Γ Λ a w){s:Nat}{A:VA}{v:Value}(k:Nat)(hm:Γ[k]?=some (s,EqV v))(hp:A.p B v w):St B w0 N (Γ.set k (s,A)) Λ a w :=
 ⟨h.lo,h.defers,h.size,h.base,fun x hx=>by
  rcases List.mem_or_eq_of_mem_set hx with hx | rfl
  ·exact h.vals x hx
  ·have e:a.eval (.tmp s)=v:=h.vals _ (List.mem_of_getElem? hm)
   show A.p B (a.eval (.tmp s)) w
   rw [e]
   exact hp,h.locs,h.dis⟩
theorem St.up {B N:Nat}{w0:Bs}{Γ:List (Nat × VA)}{Λ:List Lc}{a:Act}{w:World}(hF:NoF w0)(h:St B w0 N Γ Λ a w){A:VA}{v:Value}(hv:A.p B v w0.w):A.p B v w:=A.cg _ _ _ _ (hF.cg h.base) hv
theorem zzj:∃ it z,Tryz.prog.info? 29=some it∧it.zero=some z∧it.size=8∧it.bytes=128∧z.cells.size=8:=by
 have h:((Tryz.prog.info? 29).bind fun it=>it.zero.map fun z=>(it.size,it.bytes,z.cells.size))=some (8,128,8):=by kernel_rfl
 cases hi:Tryz.prog.info? 29 with
 | none=>rw [hi] at h; simp at h
 | some it =>
  rw [hi] at h
  cases hz:it.zero with
  | none=>simp [hz] at h
  | some z =>
   simp [hz] at h
   exact ⟨it,z,rfl,hz,h.1,h.2.1,h.2.2⟩
theorem app_fra4:∃ it z,Tryz.prog.info? 27=some it∧it.zero=some z∧it.size=4∧it.bytes=64∧z.cells.size=4:=by
 have h:((Tryz.prog.info? 27).bind fun it=>it.zero.map fun z=>(it.size,it.bytes,z.cells.size))=some (4,64,4):=by kernel_rfl
 cases hi:Tryz.prog.info? 27 with
 | none=>rw [hi] at h; simp at h
 | some it =>
  rw [hi] at h
  cases hz:it.zero with
  | none=>simp [hz] at h
  | some z =>
   simp [hz] at h
   exact ⟨it,z,rfl,hz,h.1,h.2.1,h.2.2⟩
def rayQ (xs:List RE)(q:YQ)(j:Nat):YQ:=goQ (prodQ (xs.take j)) q
def raysL (xs:List RE)(q:YQ)(n:Nat):List YQ:=(List.range n).map fun i=>rayQ xs q (i+1)
def frsL (xs:List RE)(q:YQ)(n:Nat):List Rat:=(raysL xs q n).flatMap fun y=>[y.y,y.u]
def traF (xs:List RE)(r:RR):List RR × Int:=if chF xs=0 then (if [r.y,r.u].all okX=true then (if (frsL xs (toY r) xs.length).any longQ then ([],4) else ((raysL xs (toY r) xs.length).map rrOf,0)) else ([],1)) else ([],chF xs)
abbrev TrR (r:List RR × Int):VA:=Tu [(SlA 29 [U32] (r.1.map RRA)).va,In r.2]
theorem zps {xs:List RE}{q:YQ}{j:Nat}:raysL xs q (j+1)=raysL xs q j++[rayQ xs q (j+1)]:=by
 unfold raysL
 rw [List.range_succ,List.map_append]
 rfl
theorem ze3 {xs:List RE}{q:YQ}{j:Nat}:(raysL xs q j).length=j:=by unfold raysL; rw [List.length_map,List.length_range]
def fqA (y:YQ):List As:=[QA 33566723 y.y,QA 33566723 y.u]
theorem rays_b {xs:List RE}{q:YQ}{j:Nat}:(raysL xs q j).flatMap fqA++[QA 33566723 (rayQ xs q (j+1)).y,QA 33566723 (rayQ xs q (j+1)).u]=(raysL xs q (j+1)).flatMap fqA:=by rw [zps,List.flatMap_append]; rfl
theorem fla_len {xs:List RE}{q:YQ}{j:Nat}:((raysL xs q j).flatMap fqA).length=2*j:=by
 have key:∀ l:List YQ,(l.flatMap fqA).length=2*l.length:=by
  intro l
  induction l with
  | nil=>rfl
  | cons y l ih=>simp only [List.flatMap_cons,List.length_append,ih]; show 2+2*l.length=2*(l.length+1); omega
 rw [key,ze3]
theorem frs_len {xs:List RE}{q:YQ}{j:Nat}:(frsL xs q j).length=2*j:=by
 have key:∀ l:List YQ,(l.flatMap fun y=>[y.y,y.u]).length=2*l.length:=by
  intro l
  induction l with
  | nil=>rfl
  | cons y l ih=>simp only [List.flatMap_cons,List.length_append,ih]; show 2+2*l.length=2*(l.length+1); omega
 unfold frsL
 rw [key,ze3]
theorem isq_fl (l:List YQ):All2 IsQ (l.flatMap fqA) (l.flatMap fun y=>[y.y,y.u]):=by
 induction l with
 | nil=>exact .nil
 | cons y l ih=>rw [List.flatMap_cons,List.flatMap_cons]; exact .cons ⟨_,rfl⟩ (.cons ⟨_,rfl⟩ ih)
theorem two_n4 {k:Nat}{x y:Rat}:∀ A∈[QA k x,QA k y],A.n=4:=fun A hA=>by
 rcases List.mem_cons.1 hA with rfl | hA
 ·rfl
 ·cases List.mem_singleton.1 hA
  rfl
theorem qr_bQ {k k':Nat}{q:YQ}(h:bQ k' q.y∧bQ k' q.u):WkA (QRA k q) (QRA k' q):=zc1 (.cons (qa_bQ h.1) (.cons (qa_bQ h.2) .nil))
theorem ray_b {xs:List RE}(h4:xs.length≤4096)(hx:xs.all elF=true){q:YQ}(hq:bQ 2048 q.y∧bQ 2048 q.u){j:Nat}(hj:j≤xs.length):bQ 33566723 (rayQ xs q j).y∧bQ 33566723 (rayQ xs q j).u:=by
 obtain ⟨h1,h2,h3,h5⟩:=rep_bQ (zrn hx j hj)
 obtain ⟨a1,a2⟩:=bQ_add (zph h1 hq.1) (zph h2 hq.2)
 obtain ⟨b1,b2⟩:=bQ_add (zph h3 hq.1) (zph h5 hq.2)
 have hb:1+4097*j+2048+(1+4097*j+2048)+1≤33566723:=by omega
 exact ⟨⟨Nat.le_trans a1 hb,Nat.le_trans a2 hb⟩,⟨Nat.le_trans b1 hb,Nat.le_trans b2 hb⟩⟩
theorem ray_0 (xs:List RE)(q:YQ):rayQ xs q 0=q:=by
 unfold rayQ goQ
 show (⟨1*q.y+0*q.u,0*q.y+1*q.u⟩:YQ)=q
 cases q
 simp only [YQ.mk.injEq]
 exact ⟨by grind,by grind⟩
theorem ray_nx {xs:List RE}{q:YQ}{j:Nat}(h:j<xs.length):goQ (elM xs[j]) (rayQ xs q j)=rayQ xs q (j+1):=by
 unfold rayQ
 rw [go_go,zwj h]
theorem ray_q {r:RR}(h:[r.y,r.u].all okX=true):bQ 2048 (toY r).y∧bQ 2048 (toY r).u:=by
 simp only [List.all_cons,List.all_nil,Bool.and_true,Bool.and_eq_true] at h
 exact ⟨zrp h.1,zrp h.2⟩
theorem ray_0w {xs:List RE}{r:RR}(h:[r.y,r.u].all okX=true):WkA (RRA r) (QRA 33566723 (rayQ xs (toY r) 0)):=by
 rw [ray_0]
 exact (qr_x h).trans (zc1 (.cons (zbp zd) (.cons (zbp zd) .nil)))
theorem take_nx2 {α:Type}{xs ys:List α}{j:Nat}(h1:j<xs.length)(h2:j<ys.length)(h:xs.take j=ys.take j)(e:xs[j]=ys[j]):xs.take (j+1)=ys.take (j+1):=by
 rw [List.take_succ_eq_append_getElem h1,List.take_succ_eq_append_getElem h2,h,e]
theorem take_ne2 {α:Type}{xs ys:List α}{j:Nat}(h1:j<xs.length)(h2:j<ys.length)(e:¬ xs[j]=ys[j]):¬ xs=ys:=fun h=>e (by subst h; rfl)
theorem zti (xs ys:List RR):Cn Tryz.prog 11 [(SlA 29 [U32] (xs.map RRA)).va,(SlA 29 [U32] (ys.map RRA)).va] (Bo (decide (xs=ys))):=by
 refine Cn.intro Tryz.func11 rfl zk nq (fun B w0 a O=>?_)
 have O:=zn [(0,(SlA 29 [U32] (xs.map RRA)).va),(1,(SlA 29 [U32] (ys.map RRA)).va)] [] O
 have hl:=zm8 (O.vals (0,(SlA 29 [U32] (xs.map RRA)).va) (zm 0 rfl))
 refine wp_seq<|zh [.v 4 _] [.g 0,.g 1,.o 0] O (zv rfl (za2 zav) o0) (zz [(0,_),(1,_),(4,_)] [] fun a w O=>?_)
 refine zt<|wp_seq<|zh [.v 6 _,.v 7 _,.v 8 _,.v 9 _,.v 10 _] [.g 0,.g 1,.g 2,.o 4] O (zv rfl (za1 (gq 0 rfl)) (zv rfl (zbk Tryz.underlying35 (vq 0 rfl)) (zv rfl (za1 (gq 1 rfl)) (zv rfl (zbk Tryz.underlying35 (vq 2 rfl)) (zv rfl (zdw (vq 1 rfl) (vq 3 rfl)) o0))))) (zz [(0,_),(1,_),(4,_),(10,_)] [] fun a w O=>?_)
 refine za0<|za8 O (zm 3 rfl) (fun hb0=>?_) (fun hb0=>?_)
 ·have hne:¬ xs.length=ys.length:=by rw [List.length_map,List.length_map] at hb0; simp at hb0; omega
  refine wp_seq<|zh [.v 4 _] [.g 0,.g 1,.o 0] O (zv rfl (za2 zav) o0) (zz [(0,_),(1,_),(4,_)] [] fun a w O=>?_)
  refine za0<|wp_ret<|zag ?_
  refine zai ?_ (zaf rfl O (zm 2 rfl))
  exact zbt (congrArg Bo (decide_eq_false fun h=>hne (congrArg List.length h)).symm)
 ·have hlen:xs.length=ys.length:=by rw [List.length_map,List.length_map] at hb0; simp at hb0; omega
  refine wp_skip<|zt<|wp_seq<|zh [.v 5 _] [.g 0,.g 1,.g 2,.o 0] O (zv rfl (za2 za3) o0) (zz [(0,_),(1,_),(4,_),(5,_)] [] fun a w O=>?_)
  refine za0<|wp_block ?_
  have O:=St.sel O [0,1,3]
  refine wp_loop_ghost (fun n a w=>∃ j:Nat,(n+j=xs.length∧xs.take j=ys.take j)∧St B w0 27 [(0,(SlA 29 [U32] (xs.map RRA)).va),(1,(SlA 29 [U32] (ys.map RRA)).va),(5,In (j:Nat))] [] a w) (xs.length) ?_ ?_
  ·exact ⟨0,⟨by omega,rfl⟩,O⟩
  intro n a w hI
  obtain ⟨j,⟨hn,hm⟩,O⟩:=hI
  refine wp_seq<|wp_seq<|zh [.v 11 _,.v 12 _,.v 13 _,.v 14 _] [.g 0,.g 1,.g 2,.o 3] O (zv rfl (za1 (gq 2 rfl)) (zv rfl (za1 (gq 0 rfl)) (zv rfl (zbk Tryz.underlying35 (vq 1 rfl)) (zv rfl (zb1 (vq 0 rfl) (vq 2 rfl)) o0)))) (zz [(0,_),(1,_),(5,_),(14,_)] [] fun a w O=>?_)
  refine za0<|za8 O (zm 3 rfl) (fun hb1=>?_) (fun hb1=>?_)
  ·have hj:j<xs.length:=by rw [List.length_map] at hb1; have:=of_decide_eq_true hb1; omega
   have hj2:j<ys.length:=by omega
   refine wp_skip<|zt<|wp_block<|wp_seq<|zgd [[],[],[0,1],[0,1,2],[],[],[4,5],[4,5,6],[0,1,2,3,4,5,6,7],[0,1,2,3,4,5,6,7,8]] [] [] [.v 17 _,.v 18 _,.v 19 _,.v 20 _,.v 21 _,.v 22 _,.v 23 _,.v 24 _,.v 25 _,.v 26 _] [.g 0,.g 1,.g 2,.o 9] za6 O (zv rfl (za1 (gq 0 rfl)) (zv rfl (za1 (gq 2 rfl)) (zv rfl (zd0 zoe (zgp fun _=>rfl) (vq 0 rfl) (vq 1 rfl) (ze1 hj)) (zv rfl (zad (vq 2 rfl) zdg) (zv rfl (za1 (gq 1 rfl)) (zv rfl (za1 (gq 2 rfl)) (zv rfl (zd0 zoe (zgp fun _=>rfl) (vq 4 rfl) (vq 5 rfl) (ze1 hj2)) (zv rfl (zad (vq 6 rfl) zdg) (zv rfl (za5 (xs:=[.tmp 20,.tmp 24]) (zvq _ _) (.cons (vq 3 rfl) (.cons (vq 7 rfl) .nil))) (zv rfl (zeh (vq 8 rfl)) o0)))))))))) zk zk zk zk (zz [(0,_),(1,_),(5,_),(26,_)] [] fun a w O=>?_)
   refine za0<|za8 O (zm 3 rfl) (fun hb2=>?_) (fun hb2=>?_)
   ·have hd:¬ xs[j]=ys[j]:=by simpa using hb2
    refine wp_seq<|zh [.v 4 _] [.g 0,.g 1,.g 2,.o 0] O (zv rfl (za2 zav) o0) (zz [(0,_),(1,_),(5,_),(4,_)] [] fun a w O=>?_)
    refine za0<|wp_ret<|zba ?_
    refine zag ?_
    refine zag ?_
    refine zba ?_
    refine zag ?_
    refine zai ?_ (zaf rfl O (zm 3 rfl))
    exact zbt (congrArg Bo (decide_eq_false (take_ne2 hj hj2 hd)).symm)
   ·refine wp_skip<|zae ?_
    refine za0<|zh [.v 15 _,.v 16 _,.v 5 _] [.g 0,.g 1,.o 2] O (zv rfl (za1 (gq 2 rfl)) (zv rfl (zb5 (vq 0 rfl) za3 ((wi64 zo zo).trans (by omega:(_:Int)=((j+1:Nat):Int)))) (zv rfl (za2 (vq 1 rfl)) o0))) (zz [(0,_),(1,_),(5,_)] [] fun a w O=>?_)
    refine za0 ?_
    have O:=St.sel O [0,1,2]
    exact ⟨n-1,by omega,j+1,⟨by omega,take_nx2 hj hj2 hm (by simpa using hb2)⟩,O⟩
  ·obtain rfl:j=xs.length:=by rw [List.length_map] at hb1; have:=of_decide_eq_false hb1; omega
   refine wp_exit<|za7<|za7<|zap<|zt<|zh [.v 4 _] [.o 0] O (zv rfl (za2 zav) o0) (zz [(4,_)] [] fun a w O=>?_)
   refine za0<|wp_ret<|zai ?_ (zaf rfl O (zm 0 rfl))
   rw [List.take_length,List.take_of_length_le zo] at hm; exact zbt (congrArg Bo (decide_eq_true hm).symm)
end Go.Proofs.YthdbhckhignfcaaGreatDoor
namespace Go.Proofs.YthdbhckhignfcaaGreatDoor
open Go Go.RowKit
abbrev Q2D (k1 k2:Nat)(x y:Rat):As:=DisA (cat [QD k1 x,QD k2 y])
abbrev QRD (k:Nat)(r:YQ):As:=Q2D k k r.y r.u
theorem q2_pins {u v:Value}{k1 k2:Nat}{x y:Rat}:WkA (cat [PinA u ((QD k1 x).and (SepAll [] u)),PinA v ((QD k2 y).and (SepAll [u] v))]) (Q2D k1 k2 x y) :=
 zhz (l:=[(u,QD k1 x),(v,QD k2 y)]) (fun y hy=>by
  simp at hy
  rcases hy with rfl | rfl <;> exact nod_qd)
theorem new_q2 {k1 k2:Nat}{x y:Rat}:NewA (Q2D k1 k2 x y):=ziv (zep fun A hA=>by
 simp at hA
 rcases hA with rfl | rfl <;> exact zrw)
theorem free_q2 {k1 k2:Nat}{x y:Rat}:FreeA (Q2D k1 k2 x y) (Q2D k1 k2 x y):=zi0 (zcj (.cons zni (.cons zni .nil)))
theorem zn_bzT {k k':Nat}{z:Int}(h:lz z≤k'):WkA (ZN k z) (ZN k' z):=⟨rfl,rfl,fun _ _ _ hp=>⟨h,hp.2⟩⟩
theorem qd_bQT {k k':Nat}{x:Rat}(h:bQ k' x):WkA (QD k x) (QD k' x):=zel (zc1 (.cons (zn_bzT h.1) (.cons (zn_bzT h.2) .nil)))
theorem qrd_bQ {k k':Nat}{q:YQ}(h:bQ k' q.y∧bQ k' q.u):WkA (QRD k q) (QRD k' q):=zel (zc1 (.cons (qd_bQT h.1) (.cons (qd_bQT h.2) .nil)))
theorem qrd_qra {k:Nat}{q:YQ}:WkA (QRD k q) (QRA k q):=dis_wk.trans (zc1 (.cons qd_qa (.cons qd_qa .nil)))
theorem qrd_rrd {k:Nat}{q:YQ}:WkA (QRD k q) (RRD (rrOf q)):=zel (zc1 (.cons qd_rfn (.cons qd_rfn .nil)))
theorem new_rrdT {x:RR}:NewA (RRD x):=ziv zq1
theorem own_upB {b E m h:Nat}{D:List TypeId}{l:List As}{X:As}(hX:NewA X){B:Nat}{v:Value}{w:World}(hp:(OwnB b E m D (l++[GeA h X])).p B v w):(OwnB b E m D (l++[IvA h w.heap.size X])).p B v w:=⟨hp.1,hp.2.1,own_up hX hp.2.2⟩
theorem ownB_ls {b E m:Nat}{D:List TypeId}{I:List (Nat × Nat)}{Xs:List As}{top:Nat}(hl:I.length=Xs.length)(hs:Srt I top):Wk (OwnB b E m D (ivZ I Xs)) (LsN E m D Xs):=fun B v w h=>zwr hl hs h.2.1 h.2.2
def raysD (xs:List RE)(q:YQ)(j:Nat):List As:=((raysL xs q j).map rrOf).map RRD
theorem zhg {xs:List RE}{q:YQ}{j:Nat}:(raysD xs q j).length=j:=by unfold raysD; rw [List.length_map,List.length_map,ze3]
theorem raysD_nx {xs:List RE}{q:YQ}{j:Nat}:raysD xs q j++[RRD (rrOf (rayQ xs q (j+1)))]=raysD xs q (j+1):=by unfold raysD; rw [zps,List.map_append,List.map_append]; rfl
theorem raysD_n {xs:List RE}{q:YQ}{j:Nat}:Wk (LsN 29 8 [U32] (raysD xs q j)) (LsN 29 8 [U32] (((raysL xs q j).map rrOf).map RRN)):=zxb (zgf fun _=>dis_wk) (zd6 fun _=>zfi zk)
abbrev TrD (r:List RR × Int):VA:=Tu [LsN 29 8 [U32] (r.1.map RRN),In r.2]
theorem zlp {c d e f:Nat}{x y z u:Rat}(hk:c+d+e+f≤137438953472):Cn Tryz.prog 92 [Qs c x,Qs d y,Qs e z,Qs f u] ((QD (c+d+(e+f)+1) (x*y+z*u)).va):=by
 refine Cn.intro Tryz.func92 rfl zk nq (fun B w0 a O=>?_)
 have O:=zn [(0,Qs c x),(1,Qs d y),(2,Qs e z),(3,Qs f u)] [] O
 refine wp_seq<|zg [] [⟨4,27,ptrH,some 0,_,none⟩,⟨5,27,ptrH,some 1,_,none⟩,⟨6,27,ptrH,some 2,_,none⟩,⟨7,27,ptrH,some 3,_,none⟩,⟨8,27,ptrH,some 4,_,none⟩] [.alc 0,.alc 1,.alc 2,.alc 3,.alc 4] [] O (oc (zam rfl rfl rfl (gq 0 rfl)) (oc (zam rfl rfl rfl (gq 1 rfl)) (oc (zam rfl rfl rfl (gq 2 rfl)) (oc (zam rfl rfl rfl (gq 3 rfl)) (oc (zas rfl rfl rfl (Str.zero zbe)) o0))))) (zz [] [⟨4,27,ptrH,_⟩,⟨5,27,ptrH,_⟩,⟨6,27,ptrH,_⟩,⟨7,27,ptrH,_⟩,⟨8,27,ptrH,_⟩] fun a w O=>?_)
 refine zt<|zgd [[],[],[0,1],[],[],[0,1,2,3,4],[0,1,2,3,4,5],[0,1,2,3,4,5,6]] [none,none,none,none,some (7,_)] [] [.v 9 _,.v 10 _,.v 11 _,.v 12 _,.v 13 _,.v 14 _,.v 15 _,.sto 4] [] za6 O (zv rfl (zaq (lz0 0 rfl) zar) (zv rfl (zaq (lz0 1 rfl) zar) (zv rfl (za5 (xs:=[.tmp 9,.tmp 10]) (zpm zo) (.cons (vq 0 rfl) (.cons (vq 1 rfl) .nil))) (zv rfl (zaq (lz0 2 rfl) zar) (zv rfl (zaq (lz0 3 rfl) zar) (zv rfl (za5 (xs:=[.tmp 12,.tmp 13]) (zpm zo) (.cons (vq 3 rfl) (.cons (vq 4 rfl) .nil))) (zv rfl (za5 (xs:=[.tmp 11,.tmp 14]) (plusD_q zo) (.cons (vq 2 rfl) (.cons (vq 5 rfl) .nil))) (oc (zak rfl rfl rfl (vq 6 rfl) zar (Eq.trans (b:=4) rfl rfl)) o0)))))))) zk zk zk zk (zz [] [⟨4,27,ptrH,_⟩,⟨5,27,ptrH,_⟩,⟨6,27,ptrH,_⟩,⟨7,27,ptrH,_⟩,⟨8,27,ptrH,_⟩] fun a w O=>?_)
 refine za0<|wp_ret<|zai ?_ (zaj rfl O (zm 4 rfl) zar)
 exact zbn
theorem zmb {c d:Nat}{m:MQ}{r:YQ}(hk:c+d≤68719476736):Cn Tryz.prog 24 [(QMA c m).va,(QRA d r).va] ((QRD (c+d+(c+d)+1) (goQ m r)).va):=by
 refine Cn.intro Tryz.func24 rfl zk nq (fun B w0 a O=>?_)
 have O:=zn [(0,(QMA c m).va),(1,(QRA d r).va)] [] O
 refine wp_seq<|zg [] [⟨2,78,ptrH,some 0,_,none⟩,⟨3,29,ptrH,some 1,_,none⟩,⟨4,29,ptrH,some 2,_,none⟩] [.alc 0,.alc 1,.alc 2] [] O (oc (zam rfl rfl rfl (gq 0 rfl)) (oc (zam rfl rfl rfl (gq 1 rfl)) (oc (zas rfl rfl rfl (Str.zero zgy)) o0))) (zz [] [⟨2,78,ptrH,_⟩,⟨3,29,ptrH,_⟩,⟨4,29,ptrH,_⟩] fun a w O=>?_)
 refine zt<|go_drawV' [[],[0],[],[2],[],[4],[],[6],[0,1,2,3,4,5,6,7],[],[9],[],[11],[],[13],[],[15],[0,1,2,3,4,5,6,7,8,9,10,11,12,13,14,15,16],[0,1,2,3,4,5,6,7,8,9,10,11,12,13,14,15,16,17],[0,1,2,3,4,5,6,7,8,9,10,11,12,13,14,15,16,17,18]] (sts:=[none,none,some (19,fun ν=>_)]) (news:=[]) (sp:=[(fun ν=>.adr 5 2 (.some 0) True),(fun ν=>.v 6 _),(fun ν=>.adr 7 3 (.some 0) True),(fun ν=>.v 8 _),(fun ν=>.adr 9 2 (.some 4) True),(fun ν=>.v 10 _),(fun ν=>.adr 11 3 (.some 4) True),(fun ν=>.v 12 _),(fun ν=>.v 13 (PinA (ν 8) ((QD (c+d+(c+d)+1) (m.a*r.y+m.b*r.u)).and (SepAll [] (ν 8)))).va),(fun ν=>.adr 14 2 (.some 8) True),(fun ν=>.v 15 _),(fun ν=>.adr 16 3 (.some 0) True),(fun ν=>.v 17 _),(fun ν=>.adr 18 2 (.some 12) True),(fun ν=>.v 19 _),(fun ν=>.adr 20 3 (.some 4) True),(fun ν=>.v 21 _),(fun ν=>.v 22 (PinA (ν 17) ((QD (c+d+(c+d)+1) (m.c*r.y+m.d*r.u)).and (SepAll [ν 8] (ν 17)))).va),(fun ν=>.v 23 _),(fun ν=>.sto 2)]) [] za6 O ⟨of_u fun ν=>ob_a rfl rfl (za9 (lz0 0 rfl) zjq),⟨of_u fun ν=>ob_v rfl rfl (za4 0 rfl zk trivial (lz0 0 rfl) (Sub.part 0 rfl rfl) zar),⟨of_u fun ν=>ob_a rfl rfl (za9 (lz0 1 rfl) zci),⟨of_u fun ν=>ob_v rfl rfl (za4 2 rfl zk trivial (lz0 1 rfl) (Sub.part 0 rfl rfl) zar),⟨of_u fun ν=>ob_a rfl rfl (za9 (lz0 0 rfl) zgl),⟨of_u fun ν=>ob_v rfl rfl (za4 4 rfl zk trivial (lz0 0 rfl) (Sub.part 1 rfl rfl) zar),⟨of_u fun ν=>ob_a rfl rfl (za9 (lz0 1 rfl) zch),⟨of_u fun ν=>ob_v rfl rfl (za4 6 rfl zk trivial (lz0 1 rfl) (Sub.part 1 rfl rfl) zar),⟨zdy (us:=fun ν=>[]) (xs:=[.tmp 6,.tmp 8,.tmp 10,.tmp 12]) rfl rfl (zlp zo) zrw zni (.cons upA_qa.va (.cons upA_qa.va (.cons upA_qa.va (.cons upA_qa.va .nil)))) (fun ν=>(.cons (vq 1 rfl) (.cons (vq 3 rfl) (.cons (vq 5 rfl) (.cons (vq 7 rfl) .nil))))) (fun _ _=>rfl) (fun ν=>zcx),⟨of_u fun ν=>ob_a rfl rfl (za9 (lz0 0 rfl) zgk),⟨of_u fun ν=>ob_v rfl rfl (za4 9 rfl zk trivial (lz0 0 rfl) (Sub.part 2 rfl rfl) zar),⟨of_u fun ν=>ob_a rfl rfl (za9 (lz0 1 rfl) zci),⟨of_u fun ν=>ob_v rfl rfl (za4 11 rfl zk trivial (lz0 1 rfl) (Sub.part 0 rfl rfl) zar),⟨of_u fun ν=>ob_a rfl rfl (za9 (lz0 0 rfl) zjp),⟨of_u fun ν=>ob_v rfl rfl (za4 13 rfl zk trivial (lz0 0 rfl) (Sub.part 3 rfl rfl) zar),⟨of_u fun ν=>ob_a rfl rfl (za9 (lz0 1 rfl) zch),⟨of_u fun ν=>ob_v rfl rfl (za4 15 rfl zk trivial (lz0 1 rfl) (Sub.part 1 rfl rfl) zar),⟨zdy (us:=fun ν=>[ν 8]) (xs:=[.tmp 15,.tmp 17,.tmp 19,.tmp 21]) rfl rfl (zlp zo) zrw zni (.cons upA_qa.va (.cons upA_qa.va (.cons upA_qa.va (.cons upA_qa.va .nil)))) (fun ν=>(.cons (vq 10 rfl) (.cons (vq 12 rfl) (.cons (vq 14 rfl) (.cons (vq 16 rfl) .nil))))) (fun _ _=>rfl) (fun ν=>(zex (zfh zrw) (vq 8 rfl) zcx)),⟨of_u fun ν=>ob_v rfl rfl (zbg (xs:=[(0,.tmp 13),(1,.tmp 22)]) (qs:=[(0,_),(1,_)]) zgy (.cons ⟨rfl,(vq 8 rfl),rfl⟩ (.cons ⟨rfl,(vq 17 rfl),rfl⟩ .nil))),⟨of_u fun ν=>zak rfl rfl rfl (vq 18 rfl) zdg (Eq.trans (b:=8) rfl rfl),trivial⟩⟩⟩⟩⟩⟩⟩⟩⟩⟩⟩⟩⟩⟩⟩⟩⟩⟩⟩⟩ ⟨(fun ν ν' h=>rfl),⟨(fun ν ν' h=>rfl),⟨(fun ν ν' h=>rfl),⟨(fun ν ν' h=>rfl),⟨(fun ν ν' h=>rfl),⟨(fun ν ν' h=>rfl),⟨(fun ν ν' h=>rfl),⟨(fun ν ν' h=>rfl),⟨(fun ν ν' h=>by first | rfl | simp only [h 8 rfl]),⟨(fun ν ν' h=>rfl),⟨(fun ν ν' h=>rfl),⟨(fun ν ν' h=>rfl),⟨(fun ν ν' h=>rfl),⟨(fun ν ν' h=>rfl),⟨(fun ν ν' h=>rfl),⟨(fun ν ν' h=>rfl),⟨(fun ν ν' h=>rfl),⟨(fun ν ν' h=>by first | rfl | simp only [h 8 rfl,h 17 rfl]),⟨(fun ν ν' h=>by first | rfl | simp only [h 8 rfl,h 17 rfl]),⟨(fun ν ν' h=>by first | rfl | simp only [h 8 rfl,h 17 rfl]),trivial⟩⟩⟩⟩⟩⟩⟩⟩⟩⟩⟩⟩⟩⟩⟩⟩⟩⟩⟩⟩ ⟨trivial,⟨trivial,⟨(fun ν ν' h=>by first | rfl | simp only [h 8 rfl,h 17 rfl]),trivial⟩⟩⟩ zk zk (fun ν=>by kernel_rfl) (fun ν=>by kernel_rfl) (fun ν1 a w O=>?_)
 have O:=zn [] [⟨2,78,ptrH,_⟩,⟨3,29,ptrH,_⟩,⟨4,29,ptrH,_⟩] O
 refine za0<|wp_ret<|zai ?_ (zaj rfl O (zm 2 rfl) zdg)
 exact q2_pins.va
theorem toldRD_q {L:List As}(l:List RR)(qs:List Rat)(hL:All2 IsQ L qs)(hl:qs.length≤1099511627776):Cn Tryz.prog 26 [LsN 29 8 [U32] (l.map RRN),(SlA 27 [U32] L).va] (TrD (if qs.any longQ then ([],4) else (l,0))):=by
 refine Cn.intro Tryz.func26 rfl zk nq (fun B w0 a O=>?_)
 have O:=zn [(0,LsN 29 8 [U32] (l.map RRN)),(1,(SlA 27 [U32] L).va)] [] O
 refine wp_seq<|zh [.v 4 _,.v 5 _] [.g 0,.g 1,.o 0,.o 1] O (zv rfl (za2 zb8) (zv rfl (za2 za3) o0)) (zz [(0,_),(1,_),(4,_),(5,_)] [] fun a w O=>?_)
 refine zt<|wp_seq<|zh [.v 6 _,.v 7 _] [.g 0,.g 2,.g 3,.o 1] O (zv rfl (za1 (gq 1 rfl)) (zv rfl (za5 (xs:=[.tmp 6]) (long_q qs hL hl) (.cons (vq 0 rfl) .nil)) o0)) (zz [(0,_),(4,_),(5,_),(7,_)] [] fun a w O=>?_)
 refine za0<|za8 O (zm 3 rfl) (fun hb0=>?_) (fun hb0=>?_)
 ·refine wp_seq<|zh [.v 8 _,.v 4 _,.v 5 _] [.g 0,.o 1,.o 2] O (zv rfl (za1 (gq 1 rfl)) (zv rfl (za2 (vq 0 rfl)) (zv rfl (za2 za3) o0))) (zz [(0,_),(4,_),(5,_)] [] fun a w O=>?_)
  refine za0<|wp_ret<|zag ?_
  refine zai ?_ (zb6 (rs:=[.tmp 4,.tmp 5]) rfl O (.tmp (zm 1 rfl) (.tmp (zm 2 rfl) .nil)) zd)
  rw [if_pos hb0]; exact tu2w zwz zbn
 ·refine wp_skip<|zt<|zh [.v 9 _,.v 4 _,.v 5 _] [.o 1,.o 2] O (zv rfl (za1 (gq 0 rfl)) (zv rfl (za2 (vq 0 rfl)) (zv rfl (za2 za3) o0))) (zz [(4,_),(5,_)] [] fun a w O=>?_)
  refine za0<|wp_ret<|zai ?_ (zb6 (rs:=[.tmp 4,.tmp 5]) rfl O (.tmp (zm 0 rfl) (.tmp (zm 1 rfl) .nil)) zd)
  rw [if_neg (by rw [hb0]; decide)]; exact zbn
set_option maxHeartbeats 2000000 in
theorem ztf (xs:List RE)(r:RR):Cn Tryz.prog 9 [(SlA 69 [U32] (xs.map REA)).va,(RRA r).va] (TrD (traF xs r)):=by
 obtain ⟨it,z,e1,e2,e3,e4,e5⟩:=zzj
 obtain ⟨it1,z1,f1,f2,f3,f4,f5⟩:=app_fra4
 refine Cn.introF Tryz.func9 rfl zk nq (fun B w0 a hF O=>?_)
 have O:=zn [(0,(SlA 69 [U32] (xs.map REA)).va),(1,(RRA r).va)] [] O
 obtain ⟨v0,hv0,O⟩:=St.eqv O 0 rfl
 refine wp_seq<|zg [] [⟨3,29,ptrH,some 0,_,none⟩] [.alc 0,.v 4 _,.v 5 _] [.g 0,.o 1,.o 2] O (oc (zam rfl rfl rfl (gq 1 rfl)) (zv rfl (za2 zb8) (zv rfl (za2 za3) o0))) (zz [(0,_),(4,_),(5,_)] [⟨3,29,ptrH,_⟩] fun a w O=>?_)
 refine zt<|wp_seq<|zg [none] [] [.v 11 _,.v 12 _,.v 6 _] [.g 0,.g 1,.g 2,.o 2] O (zv rfl (za1 (gq 0 rfl)) (zv rfl (za5 (xs:=[.tmp 11]) (zuo xs) (.cons (zc0 hF hv0 (vq 0 rfl)) .nil)) (zv rfl (za2 (vq 1 rfl)) o0))) (zz [(0,_),(4,_),(5,_),(6,_)] [⟨3,29,ptrH,_⟩] fun a w O=>?_)
 refine zt<|zg [none] [] [.v 13 _,.v 14 _] [.g 0,.g 1,.g 2,.g 3,.o 1] O (zv rfl (za1 (gq 3 rfl)) (zv rfl (zdw (vq 0 rfl) za3) o0)) (zz [(0,_),(4,_),(5,_),(6,_),(14,_)] [⟨3,29,ptrH,_⟩] fun a w O=>?_)
 refine za0<|za8 O (zm 4 rfl) (fun hb0=>?_) (fun hb0=>?_)
 ·have hc:¬ chF xs=0:=by simpa using hb0
  refine wp_seq<|zg [none] [] [.v 15 _,.v 4 _,.v 5 _] [.g 0,.o 1,.o 2] O (zv rfl (za1 (gq 3 rfl)) (zv rfl (za2 zb8) (zv rfl (za2 (vq 0 rfl)) o0))) (zz [(0,_),(4,_),(5,_)] [⟨3,29,ptrH,_⟩] fun a w O=>?_)
  refine za0<|wp_ret<|zag ?_
  refine zai ?_ (zb6 (rs:=[.tmp 4,.tmp 5]) rfl O (.tmp (zm 1 rfl) (.tmp (zm 2 rfl) .nil)) zd)
  rw [traF,if_neg hc]; exact tu2w zwz zbn
 ·have hc:chF xs=0:=by simpa using hb0
  have hk:=ch_ok hc
  refine wp_skip<|zt<|wp_seq<|zg [none] [] [.adr 16 3 (.some 0) True,.v 17 _,.adr 18 3 (.some 4) True,.v 19 _,.v 20 _,.v 21 _,.v 22 _] [.g 0,.g 1,.g 2,.o 6] O (oc (ob_a rfl rfl (za9 (lz0 0 rfl) zci)) (zv rfl (za4 0 rfl zk trivial (lz0 0 rfl) (Sub.part 0 rfl rfl) zar) (oc (ob_a rfl rfl (za9 (lz0 0 rfl) zch)) (zv rfl (za4 2 rfl zk trivial (lz0 0 rfl) (Sub.part 1 rfl rfl) zar) (zv rfl (zcr (D:=[U32]) (l:=[_,_]) (xs:=[.tmp 17,.tmp 19]) (zeq zk) zk1 zk (n_ok zk) nq nq nq (.cons (vq 1 rfl) (.cons (vq 3 rfl) .nil)) rfl rfl) (zv rfl (za5 (xs:=[.tmp 20]) (zt5 [r.y,r.u] nq) (.cons (vq 4 rfl) .nil)) (zv rfl (zeh (vq 5 rfl)) o0))))))) (zz [(0,_),(4,_),(5,_),(22,_)] [⟨3,29,ptrH,_⟩] fun a w O=>?_)
  refine za0<|za8 O (zm 3 rfl) (fun hb1=>?_) (fun hb1=>?_)
  ·have hno:¬ [r.y,r.u].all okX=true:=fun h=>by rw [h] at hb1; exact absurd hb1 zd
   refine wp_seq<|zg [none] [] [.v 4 _,.v 5 _] [.g 0,.o 0,.o 1] O (zv rfl (za2 zb8) (zv rfl (za2 za3) o0)) (zz [(0,_),(4,_),(5,_)] [⟨3,29,ptrH,_⟩] fun a w O=>?_)
   refine za0<|wp_ret<|zag ?_
   refine zai ?_ (zb6 (rs:=[.tmp 4,.tmp 5]) rfl O (.tmp (zm 1 rfl) (.tmp (zm 2 rfl) .nil)) zd)
   rw [traF,if_pos hc,if_neg hno]; exact tu2w zwz zbn
  ·have hok:[r.y,r.u].all okX=true:=by rw [Bool.not_eq_false'] at hb1; exact hb1
   have hq:=ray_q hok
   have O:=St.wkL O 0 rfl (ray_0w (xs:=xs) hok)
   refine wp_skip<|zt<|zg [none] [] [.v 7 _] [.g 0,.g 1,.g 2,.o 0] O (zv rfl (za2 zb8) o0) (zz [(0,_),(4,_),(5,_),(7,_)] [⟨3,29,ptrH,_⟩] fun a w O=>?_)
   obtain ⟨b,hwb,O⟩:=St.ownB (E:=29) (m:=8) (D:=[U32]) O 3 0 rfl rfl
   have O:=St.addSz O 9999
   obtain ⟨top0,et0⟩:∃ t,w.heap.size=t:=⟨_,rfl⟩
   rw [et0] at O
   have O:=zn [(0,_),(4,_),(5,_),(7,_),(3,_),(9999,_)] [⟨3,29,ptrH,_⟩] O
   refine zt<|zg [none] [] [.v 8 _] [.g 0,.g 1,.g 2,.g 3,.g 4,.g 5,.o 0] O (zv rfl (za2 zb8) o0) (zz [(0,_),(4,_),(5,_),(7,_),(3,_),(9999,_),(8,_)] [⟨3,29,ptrH,_⟩] fun a w O=>?_)
   have O:=St.wkG (A':=OwnR w0.w.heap.size 27 4 [U32] ([]:List As)) O 6 rfl zk8
   refine zt<|wp_seq<|zg [none] [] [.v 23 _,.v 24 _,.v 25 _] [.g 1,.g 2,.g 3,.g 4,.g 5,.g 6,.o 0,.o 1,.o 2] O (zv rfl (za1 (gq 0 rfl)) (zv rfl (zbk Tryz.underlying22 (zc0 hF hv0 (vq 0 rfl))) (zv rfl (za1 za3) o0))) (zz [(4,_),(5,_),(7,_),(3,_),(9999,_),(8,_),(23,_),(24,_),(25,_)] [⟨3,29,ptrH,_⟩] fun a w O=>?_)
   refine za0<|wp_block ?_
   have O:=St.sel O [2,5,6,7,8,3,4]
   refine wp_loop_ghost (fun n a w=>∃ (j:Nat) (I:List (Nat × Nat)) (top:Nat),(n+j=xs.length∧I.length=j∧Srt I top)∧St B w0 50 [(7,OwnB b 29 8 [U32] (ivZ I (raysD xs (toY r) j))),(8,OwnR w0.w.heap.size 27 4 [U32] ((raysL xs (toY r) j).flatMap fqA)),(23,EqV v0),(24,In (xs.length:Nat)),(25,In (j:Nat)),(3,PtrLt b),(9999,SzV top)] [⟨3,29,ptrH,QRA 33566723 (rayQ xs (toY r) j)⟩] a w) (xs.length) ?_ ?_
   ·rw [List.length_map] at O
    exact ⟨0,[],top0,⟨by omega,rfl,zve⟩,O⟩
   intro n a w hI
   obtain ⟨j,I,top,⟨hn,hIl,hS⟩,O⟩:=hI
   refine wp_seq<|zg [none] [] [.v 26 _] [.g 0,.g 1,.g 2,.g 3,.g 4,.g 5,.g 6,.o 0] O (zv rfl (zb1 (gq 4 rfl) (gq 3 rfl)) o0) (zz [(7,_),(8,_),(23,_),(24,_),(25,_),(3,_),(9999,_),(26,_)] [⟨3,29,ptrH,_⟩] fun a w O=>?_)
   refine zt<|za8 O (zm 7 rfl) (fun hb2=>?_) (fun hb2=>?_)
   ·have hj:j<xs.length:=by simp at hb2; omega
    refine wp_skip<|zt<|wp_block<|wp_seq<|zg [none] [⟨10,69,ptrH,some 2,_,some (3,_)⟩] [.v 27 _,.v 28 _,.alc 1,.sto 1] [.g 0,.g 1,.g 2,.g 3,.g 4,.g 5,.g 6] O (zv rfl (zd0 zhc (zgp fun _=>rfl) (zc0 hF hv0 (gq 2 rfl)) (gq 4 rfl) (ze1 hj)) (zv rfl (zad (vq 0 rfl) zeg) (oc (zas rfl rfl rfl (Str.zero zgb)) (oc (zak rfl rfl rfl (vq 1 rfl) zeg (Eq.trans (b:=9) rfl rfl)) o0)))) (zz [(7,_),(8,_),(23,_),(24,_),(25,_),(3,_),(9999,_)] [⟨3,29,ptrH,_⟩,⟨10,69,ptrH,_⟩] fun a w O=>?_)
    refine zt ?_
    obtain ⟨ht0,O⟩:=St.newSz O 6 rfl
    obtain ⟨h1,eh1⟩:∃ h1,w.heap.size=h1:=⟨_,rfl⟩
    rw [eh1] at O ht0
    obtain ⟨v7,hv7,O⟩:=St.eqvw O 0 rfl
    have hp3:(PtrLt b).p B (a.eval (.tmp 3)) w:=O.vals _ (zm 5 rfl)
    obtain ⟨w1,O,hback⟩:=St.frame O
    have O:St B w1 50 [(7,_),(8,_),(23,_),(24,_),(25,_),(3,_),(9999,_)] [⟨3,29,ptrH,_⟩,⟨10,69,ptrH,_⟩] a w:=O
    refine zgd [[],[0],[],[0,1,2],[0,1,2,3]] [some (4,_),none] [] [.v 29 _,.v 30 _,.v 31 _,.v 32 _,.sto 0] [.g 0,.g 1,.g 2,.g 3,.g 4,.g 5,.g 6] za6 O (zv rfl (zaq (lz0 1 rfl) zeg) (zv rfl (za5 (xs:=[.tmp 29]) (rowOf_c (List.all_eq_true.1 hk.2 _ (List.getElem_mem hj))) (.cons (vq 0 rfl) .nil)) (zv rfl (zaq (lz0 0 rfl) zdg) (zv rfl (zmk (h:=h1) (s:=9999) (xs:=[.tmp 30,.tmp 31]) (zmb (c:=4099) (d:=33566723) (m:=elM xs[j]) (r:=rayQ xs (toY r) j) zd) new_q2 ziu free_q2 (.cons (zi3 (.cons upA_qa (.cons upA_qa (.cons upA_qa (.cons upA_qa .nil))))).va (.cons (zi3 (.cons upA_qa (.cons upA_qa .nil))).va .nil)) (.cons (vq 1 rfl) (.cons (vq 2 rfl) .nil)) (gq 6 rfl)) (oc (zak rfl rfl rfl (vq 3 rfl) zdg (Eq.trans (b:=8) rfl rfl)) o0))))) zk zk zk zk (fun a w O=>?_)
    have O:St B w1 50 [(7,_),(8,_),(23,_),(24,_),(25,_),(3,_),(9999,_)] [⟨3,29,ptrH,_⟩,⟨10,69,ptrH,_⟩] a w:=O
    obtain ⟨O,hown⟩:=hback O
    have O:=St.putG O 0 rfl (hown hv7 hp3 zk)
    have O:=zn [(7,_),(8,_),(23,_),(24,_),(25,_),(3,_),(9999,_)] [⟨3,29,ptrH,_⟩,⟨10,69,ptrH,_⟩] O
    have O:=St.wkL (A':=GeA h1 (QRD 33566723 (rayQ xs (toY r) (j+1)))) O 0 rfl (zy9 ((zju (congrArg (QRD _) (ray_nx hj))).trans (qrd_bQ (ray_b hk.1 hk.2 hq zo))))
    refine zt<|zqd (sp:=[.v 33 _,.v 34 _,.v 35 _,.v 36 VT,.v 7 VT]) 3 [1,2,3,4,5,6] 0 2 5 O (zv rfl (za1 (gq 0 rfl)) (zv rfl (zaq (lz0 0 rfl) zdg) (zv rfl (zcr (D:=[U32]) (l:=[_]) (xs:=[.tmp 34]) (zeq zk) zoe zk (n_ok zk) nq nq nq (.cons (vq 1 rfl) .nil) rfl rfl) o0))) rfl zk rfl rfl zd rfl zd rfl rfl zk hwb (fun _ _ h _=>(zth (.cons (zy9 qrd_rrd) .nil) (zeq zk)).va _ _ _ h) Tryz.underlying35 e1 e2 e3 e4 e5 zd (by rw [zn8 (by rw [zhg]; exact hIl),zhg]; show j+1≤100000000000; omega) zd (fun T hT=>hT) zd (fun A hA=>by cases List.mem_singleton.1 hA; rfl) zk nq nq zk zk (zz [(7,_),(8,_),(23,_),(24,_),(25,_),(3,_),(9999,_)] [⟨3,29,ptrH,_⟩,⟨10,69,ptrH,_⟩] fun a w O=>?_)
    have O:=St.setG (A':=OwnB b 29 8 [U32] (ivZ I (raysD xs (toY r) j)++[IvA h1 w.heap.size (RRD (rrOf (rayQ xs (toY r) (j+1))))])) O 0 rfl (own_upB new_rrdT)
    obtain ⟨hq2,O⟩:=St.newSz O 6 rfl
    obtain ⟨h2,eh2⟩:∃ h2,w.heap.size=h2:=⟨_,rfl⟩
    rw [eh2] at O hq2
    have O:=St.wkL (A':=QRA 33566723 (rayQ xs (toY r) (j+1))) O 0 rfl (ge_wk.trans qrd_qra)
    have O:=zn [(7,_),(8,_),(23,_),(24,_),(25,_),(3,_),(9999,_)] [⟨3,29,ptrH,_⟩,⟨10,69,ptrH,_⟩] O
    refine za0<|zkf (sp:=[.v 37 _,.adr 38 3 (.some 0) True,.v 39 _,.adr 40 3 (.some 4) True,.v 41 _,.v 42 _,.v 43 VT,.v 8 VT]) 6 [0,2,3,4,5,6] 0 5 O (zv rfl (za1 (gq 1 rfl)) (oc (ob_a rfl rfl (za9 (lz0 0 rfl) zci)) (zv rfl (za4 1 rfl zk trivial (lz0 0 rfl) (Sub.part 0 rfl rfl) zar) (oc (ob_a rfl rfl (za9 (lz0 0 rfl) zch)) (zv rfl (za4 3 rfl zk trivial (lz0 0 rfl) (Sub.part 1 rfl rfl) zar) (zv rfl (zcr (D:=[U32]) (l:=[_,_]) (xs:=[.tmp 39,.tmp 41]) (zeq zk) zk1 zk (n_ok zk) nq nq nq (.cons (vq 2 rfl) (.cons (vq 4 rfl) .nil)) rfl rfl) o0)))))) rfl zk rfl rfl zd rfl zd rfl (fun _ _ h _=>h) Tryz.underlying75 f1 f2 f3 f4 f5 zd (by rw [fla_len]; show 2*j+2≤100000000000; omega) zd (fun T hT=>hT) zd two_n4 zk nq nq zk zk (zz [(8,_),(7,_),(23,_),(24,_),(25,_),(3,_),(9999,_)] [⟨3,29,ptrH,_⟩,⟨10,69,ptrH,_⟩] fun a w O=>?_)
    refine zae ?_
    refine za0<|zg [none,none] [] [.v 44 _,.v 25 _] [.g 0,.g 1,.g 2,.g 3,.g 5,.g 6,.o 1] O (zv rfl (zb5 (gq 4 rfl) za3 ((wi64 zo zo).trans (by omega:(_:Int)=((j+1:Nat):Int)))) (zv rfl (za1 (vq 0 rfl)) o0)) (zz [(8,_),(7,_),(23,_),(24,_),(3,_),(9999,_),(25,_)] [⟨3,29,ptrH,_⟩,⟨10,69,ptrH,_⟩] fun a w O=>?_)
    refine za0 ?_
    have O:=St.sel O [1,0,2,3,6,4,5]
    have O:=St.selL O [0]
    rw [rays_b] at O
    have O:=St.wkG (A':=OwnB b 29 8 [U32] (ivZ (I++[(h1,h2)]) (raysD xs (toY r) (j+1)))) O 0 rfl (zbt (congrArg (OwnB b 29 8 [U32]) ((zxw (by rw [zhg]; exact hIl)).trans (congrArg (ivZ _) raysD_nx))))
    exact ⟨n-1,by omega,j+1,I++[(h1,h2)],h2,⟨by omega,by rw [List.length_append,hIl]; rfl,zvf hS ht0 hq2⟩,O⟩
   ·obtain rfl:j=xs.length:=by simp at hb2; omega
    have O:=St.wkG O 0 rfl (zc6 (ownB_ls (by rw [zhg]; exact hIl) hS) raysD_n)
    have O:=St.wkG O 1 rfl zhj
    refine wp_exit<|za7<|za7<|zap<|zt<|zg [none] [] [.v 45 _,.v 46 _,.v 47 _,.v 48 _,.v 49 _,.v 4 _,.v 5 _] [.g 6,.o 5,.o 6] O (zv rfl (za1 (gq 0 rfl)) (zv rfl (za1 (gq 1 rfl)) (zv rfl (za5 (xs:=[.tmp 45,.tmp 46]) (toldRD_q ((raysL xs (toY r) xs.length).map rrOf) (frsL xs (toY r) xs.length) (isq_fl _) (by rw [frs_len]; omega)) (.cons (vq 0 rfl) (.cons (vq 1 rfl) .nil))) (zv rfl (r_ex0 (vq 2 rfl)) (zv rfl (r_ex1 (vq 2 rfl)) (zv rfl (za2 (vq 3 rfl)) (zv rfl (za2 (vq 4 rfl)) o0))))))) (zz [(9999,_),(4,_),(5,_)] [⟨3,29,ptrH,_⟩] fun a w O=>?_)
    refine za0<|wp_ret<|zai ?_ (zb6 (rs:=[.tmp 4,.tmp 5]) rfl O (.tmp (zm 1 rfl) (.tmp (zm 2 rfl) .nil)) zd)
    rw [traF,if_pos hc,if_pos hok]; exact zbn
end Go.Proofs.YthdbhckhignfcaaGreatDoor
