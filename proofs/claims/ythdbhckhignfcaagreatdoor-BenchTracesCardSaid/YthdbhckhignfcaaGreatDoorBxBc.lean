import Derived.Test.YthdbhckhignfcaaGreatDoorBxAa
import Derived.Test.YthdbhckhignfcaaGreatDoorBxAc
import Derived.Test.YthdbhckhignfcaaGreatDoorBxAn
import Derived.Test.YthdbhckhignfcaaGreatDoorBxAu
import Derived.Test.YthdbhckhignfcaaGreatDoorBxBa
import Derived.Test.YthdbhckhignfcaaGreatDoorBxBb
import Derived.ProofKit
import Derived.OpenShut
import Derived.ChangeOld
import Derived.Below
import Derived.Deep.Slices
import Derived.SizedLaws
set_option linter.unusedVariables false
set_option linter.unusedSimpArgs false
set_option linter.unusedSectionVars false
set_option maxRecDepth 100000
namespace Go.Proofs.YthdbhckhignfcaaGreatDoor
open Go Go.RowKit
def TwK (g c:Nat)(E:TypeId)(m:Nat)(D:List TypeId)(l:List As)(x:As):VA where
 p B v w:=v=.slice (some ⟨g,0,none⟩) l.length c∧B≤g∧(OwnR 0 E m D (l++[x])).p B (.slice (some ⟨g,0,none⟩) (l.length+1) c) w
 deps:=E::D
 cg:=fun B v w w' hg h=>⟨h.1,h.2.1,(OwnR 0 E m D (l++[x])).cg _ _ _ _ hg h.2.2⟩
 wr:=fun B v w w' g c T fz h1 h2 h3 h4 h=>⟨h.1,h.2.1,(OwnR 0 E m D (l++[x])).wr _ _ _ _ _ _ _ _ h1 h2 h3 h4 h.2.2⟩
def TwS (E:TypeId)(m:Nat)(D:List TypeId)(l:List As)(x:As):VA where
 p B v w:=∃ g c,(TwK g c E m D l x).p B v w
 deps:=E::D
 cg:=fun B v w w' hg ⟨g,c,h⟩=>⟨g,c,(TwK g c E m D l x).cg _ _ _ _ hg h⟩
 wr:=fun B v w w' g c T fz h1 h2 h3 h4 ⟨g',c',h⟩=>⟨g',c',(TwK g' c' E m D l x).wr _ _ _ _ _ _ _ _ h1 h2 h3 h4 h⟩
theorem zsm {l:List As}{B B':Nat}{w:World}(hB:B'≤B)(hl:∀ A∈l,FreeA A A){ds:List Value}(h:(cat l).p B ds w):(cat l).p B' ds w:=by
 obtain ⟨ps,rfl,h⟩:=h
 refine ⟨ps,rfl,?_⟩
 induction h with
 | nil=>exact .nil
 | cons h _ ih=>exact .cons ((hl _ (by simp)).2.2 _ _ _ _ hB h) (ih fun A hA=>hl A (by simp [hA]))
theorem free_twS {E:TypeId}{m:Nat}{D:List TypeId}{l:List As}{x:As}(hl:∀ A∈l++[x],FreeA A A):Free (TwS E m D l x) (TwS E m D l x):=fun B B' v w hB ⟨g,c,h1,h2,h3,h4,ds,h5,h6⟩=>⟨g,c,h1,Nat.le_trans hB h2,h3,h4,ds,zsm hB hl h5,h6⟩
theorem St.exK {B N:Nat}{w0:Bs}{Γ:List (Nat × VA)}{Λ:List Lc}{a:Act}{w:World}(h:St B w0 N Γ Λ a w){s:Nat}{E:TypeId}{m:Nat}{D:List TypeId}{l:List As}{x:As}(k:Nat)(hm:Γ[k]?=some (s,TwS E m D l x)):∃ g c,St B w0 N (Γ.set k (s,TwK g c E m D l x)) Λ a w:=by
 obtain ⟨g,c,hv⟩:=h.vals _ (List.mem_of_getElem? hm)
 exact ⟨g,c,h.lo,h.defers,h.size,h.base,fun y hy=>by
  rcases List.mem_or_eq_of_mem_set hy with hy | rfl
  ·exact h.vals y hy
  ·exact hv,h.locs,h.dis⟩
theorem zv2 {g c:Nat}{E:TypeId}{m:Nat}{D:List TypeId}{l:List As}{x:As}{B:Nat}{v:Value}{w:World}(h:(TwK g c E m D l x).p B v w):l.length+1≤c∧c≤maxLen:=by
 obtain ⟨_,_,_,_,ds,_,_,h6⟩:=h
 rcases h6 with ⟨h6,_⟩ | ⟨g',cap,cur,e1,e2,e3,e4,e5,e6,e7⟩
 ·cases h6
 ·injection e1 with _ _ e1
  rw [List.length_append] at e4
  exact ⟨by rw [e1]; exact e4,by rw [e1]; exact e5⟩
theorem own_w {b:Nat}{E:TypeId}{m:Nat}{D:List TypeId}{l:List As}{B:Nat}{v:Value}{w:World}(h:(OwnR b E m D l).p B v w):(SlA E D l).va.p B v w:=zhj _ _ _ h
theorem zv1 {g c:Nat}{E:TypeId}{m:Nat}{D:List TypeId}{l:List As}{x:As}:Wk (TwK g c E m D l x) (SlA E D l).va:=fun B v w h=>by
 obtain ⟨h1,h2,h3,h4,ds,h5,h6,h7⟩:=h
 rcases h7 with ⟨h7,_⟩ | ⟨g',cap,cur,e1,e2,e3,e4,e5,e6,e7⟩
 ·cases h7
 ·injection e1 with eg _ e1
  injection eg with eg
  injection eg with eg
  subst eg e1 h1
  have hs:=(zpe h3 h5 l.length).1
  rw [List.take_left] at hs
  refine ⟨[.slice (some ⟨g,0,none⟩) l.length c],⟨fun A hA=>h4 A (by simp [hA]),_,c,ds.take (l.length*m),rfl,by rw [List.length_append] at e4; exact Nat.le_of_lt e4,e5,hs,fun _=>⟨g,0,rfl,(Array.getElem?_eq_some_iff.1 e3).1,.inr ⟨_,_,e3⟩,fun j u hu=>?_⟩⟩,rfl⟩
  rw [cell_of_row w g (0+j) cur E _ e3,Nat.zero_add]
  rw [List.getElem?_take] at hu
  split at hu
  ·rw [← e7,List.getElem?_take] at hu
   split at hu
   ·simpa using hu
   ·cases hu
  ·cases hu
theorem twS_sl {E:TypeId}{m:Nat}{D:List TypeId}{l:List As}{x:As}:Wk (TwS E m D l x) (SlA E D l).va:=fun B v w ⟨g,c,h⟩=>zv1 _ _ _ h
section
variable {P:Program} {R:Rg} {Q:Exit→Act→World→Prop} {B i:Nat} {w0:Bs}
theorem r_capK {x:Operand}{S E E':TypeId}{g c m:Nat}{D:List TypeId}{l:List As}{z:As}(hS:P.underlying S=some (.slice E'))(hx:Has R B w0 i x (TwK g c E m D l z)):Wv P Q R B w0 i (.call ⟨.builtin .cap,#[x],#[S]⟩) (In (c:Int)) :=
 zbr fun d T ps af gd a w av=>by
  have hv:=(hx a w av).1
  refine ⟨.int .i64 (c:Int),w,?_,Grow.refl w,zct _ _ _ _⟩
  simp [execOp,resolve,invoke,builtin,hv,Builtin.cap_,run_underlying hS,goInt]
theorem r_reslK {x y:Operand}{S E:TypeId}{g c m:Nat}{D:List TypeId}{l:List As}{z:As}(hS:Sl P S E m)(hx:Has R B w0 i x (TwK g c E m D l z))(hy:Has R B w0 i y (In ((l.length+1:Nat):Int))):Wv P Q R B w0 i (.slice S x none (some y) none) (SlA E D (l++[z])).va :=
 zbr fun d T ps af gd a w av=>by
  have hk:=hx a w av
  have hc:=zv2 hk
  obtain ⟨hs1,hs2⟩:=hS
  have e1:=hk.1
  have e3:=zbq (hy a w av)
  have hE:P.elem S=E:=by simp [Program.elem,hs1]
  have hs1':P.underlying S=some (.slice (P.elem S)):=by rw [hE]; exact hs1
  have hsz:∀ w,(sizeOf E).run P w=.ok m w:=fun w=>by
   cases hi:P.info? E with
   | none=>rw [hi] at hs2; simp at hs2
   | some it=>rw [hi] at hs2; simp [sizeOf,typeInfo,hi]; simpa using hs2
  refine ⟨.slice (some ⟨g,0,none⟩) (l.length+1) c,w,?_,Grow.refl w,own_w hk.2.2⟩
  have hr:=run_slice_h (P:=P) w S (some ⟨g,0,none⟩) l.length c hs1' .i64 ((l.length+1:Nat):Int) zo zo
  rw [hE,hsz] at hr
  have hne:¬ c=0:=by omega
  simp only [Result.andThen_ok,sliced,Int.toNat_natCast,hne,if_false,Nat.zero_mul,Option.map_some,Nat.sub_zero] at hr
  simp only [execOp,e1,e3,Option.map_some,run_sliceAt_slice _ _ _ _ _ _ hs1',Sem.run_bind,Sem.run_pure]
  erw [hr]
  simp [Addr.add]
theorem r_makeR {S E:TypeId}{m bytes n:Nat}{D:List TypeId}{x y:Operand}{it:TypeInfo}{z:Value}(hS:P.underlying S=some (.slice E))(hi:P.info? E=some it)(hz:it.zero=some z)(hsz:it.size=m)(hby:it.bytes=bytes)(hzs:z.cells.size=m)(hm0:0<m)(hb6:bytes≤1000)(hB:B≤w0.w.heap.size)(hx:Has R B w0 i x (In 0))(hy:Has R B w0 i y (In n))(hn:n≤17592186044):Wv P Q R B w0 i (.makeSlice S x y) (OwnR w0.w.heap.size E m D []) :=
 zbr fun d T ps af gd a w av=>by
  have hbn:bytes*n≤1000*n:=Nat.mul_le_mul_right _ hb6
  have hm:=run_make (P:=P) w S E it z hS hi hz .i64 .i64 0 n zo zo (by
   have h6:((it.bytes*n:Nat):Int)≤281474976710656:=by rw [hby]; omega
   rwa [Int.natCast_mul] at h6) zo
  have e1:=zbq (hx a w av)
  have e2:=zbq (hy a w av)
  refine ⟨.slice (some ⟨w.heap.size,0,none⟩) 0 n,w.alloc (.cells (madeCells z.cells (n*it.size)) E),?_,Grow.alloc _ _,(fun A hA=>by cases hA),(fun A hA=>by cases hA),[],⟨[],rfl,.nil⟩,by simp,.inr ⟨w.heap.size,n,madeCells z.cells (n*it.size),rfl,av.base.size,by simpa using heap_alloc_new w _,Nat.zero_le _,by unfold maxLen; omega,?_,by simp⟩⟩
  ·simp only [Int.toNat_natCast] at hm
   simp [execOp,e1,e2,hm]
  ·rw [hsz]
   simp [madeCells]
end
open Rg in
theorem go_appSl {P:Program}{Q:Exit→Act→World→Prop}{B N:Nat}{w0:Bs}{Γ:List (Nat × VA)}{Λ:List Lc}{a:Act}{w:World}{id:Nat}{ops:Array Oper}{sp:List Sp}(n:Nat)(src:List Nat)(i1 i2:Nat){S E T1 T2 T3 T4 T5:TypeId}{s u d e f c0 c1 c2 m bytes:Nat}{ps1 ps2 ps3 ps4 ps5:String}{af1 af2 af3 af4 af5:Array Edge}{D D':List TypeId}{l:List As}{x:As}{A2 X:VA}{it:TypeInfo}{z:Value}
  (h:St B w0 N Γ Λ a w) (hob:Obs P Q ⟨ops,N,Γ,lesN Λ,sp,fun i=>List.range i⟩ B w0 0 n) (hn2:ops.size=n+5) (hk:Rg.chk ⟨ops,N,Γ,lesN Λ,sp,fun i=>List.range i⟩=true)
  (ho1:ops[n]?=some ⟨some d,.call ⟨.builtin .append,#[.tmp s,.tmp u],#[S,S]⟩,T1,ps1,af1,none⟩) (ho2:ops[n+1]?=some ⟨some c1,.move (.tmp c0),T2,ps2,af2,none⟩)
  (ho3:ops[n+2]?=some ⟨some c2,.call ⟨.builtin .len,#[.tmp c1],#[S]⟩,T3,ps3,af3,none⟩) (ho4:ops[n+3]?=some ⟨some f,.slice S (.tmp d) none (some (.tmp c2)) none,T4,ps4,af4,none⟩) (ho5:ops[n+4]?=some ⟨some e,.assign (.tmp f),T5,ps5,af5,none⟩)
  (kx:Nat) (hkx:Γ[kx]?=some (c0,X)) (hX:∀ B u w,X.p B u w→∃ A c,u=.slice A l.length c) (hXo:Rg.outG ⟨ops,N,Γ,lesN Λ,sp,fun i=>List.range i⟩ c0=true)
  (hi1:i1<n) (h1:sp[i1]?=some (.v s (OwnR w0.w.heap.size E m D l))) (hi2:i2<n) (h2:sp[i2]?=some (.v u A2)) (hA2:∀ w u,A2.p B u w→Kept w0 w→(SlA E D' [x]).va.p B u w)
  (hS:P.underlying S=some (.slice E)) (hi:P.info? E=some it) (hz:it.zero=some z) (hsz:it.size=m) (hby:it.bytes=bytes) (hzs:z.cells.size=m) (hm0:0<m) (hl:l.length+1≤100000000000) (hb6:bytes≤1000)
  (hD':∀ T∈D',T∈D) (hED:E ∉ D) (hxm:x.n=m) (hnd:decide ([d,c1,c2,f,e,c0].Nodup)=true) (hd:d<N) (he:e<N) (hc1:c1<N) (hc2:c2<N) (hf:f<N)
  (hsrc:src.all (fun k=>match Γ[k]? with | some y => !y.2.deps.contains E&&Rg.outG ⟨ops,N,Γ,lesN Λ,sp,fun i=>List.range i⟩ y.1 | none=>false)=true)
  (hΛ:Λ.all (fun l=>l.T != E && !l.A.deps.contains E&&l.s != d&&l.s != e&&l.s != c1&&l.s != c2&&l.s != f)=true)
  (hQ:∀ a w,St B w0 N ((e,TwS E m D l x)::src.filterMap (fun k=>Γ[k]?)) Λ a w→Q .normal a w):(Code.region id ops false).wp P Q a w:=by
 have hles0:∀ y∈lesN Λ,y.cr=none∧y.st=none∧(⟨y.s,y.T,y.H,y.A0⟩:Lc)∈Λ:=fun y hy=>by
  obtain ⟨l',hl',rfl⟩:=List.mem_map.1 hy
  exact ⟨rfl,rfl,hl'⟩
 refine Rg.linK (R:=⟨ops,N,Γ,lesN Λ,sp,fun i=>List.range i⟩) (m:=5) hn2 rfl hk h (fun y hy _=>(hles0 y hy).2.2) (fun i hi=>hob.all i zo zo) fun a1 w1 hinv=>?_
 have hcl:∀ deps,Rg.clash ⟨ops,N,Γ,lesN Λ,sp,fun i=>List.range i⟩ (fun k=>decide (k<n)) deps=false:=fun deps=>by
  unfold Rg.clash
  rw [List.any_eq_false]
  intro y hy
  rw [(hles0 y hy).2.1]
  simp
 have hv:=hinv.v i1 _ s _ h1 rfl (decide_eq_true hi1) (hcl _)
 have hu:=hA2 _ _ (hinv.v i2 _ u _ h2 rfl (decide_eq_true hi2) (hcl _)) hinv.base
 have hB:B≤w0.w.heap.size:=hinv.lo _ (.inl (Nat.le_refl _))
 obtain ⟨v',w',hr,r1,r2,r3⟩:=zjd (xs:=[x]) (T1:=T1) hS hi hz hsz hby hzs hm0 (by simpa using hl) hb6 hv hu hD' hED (fun y hy=>by simp at hy; subst hy; exact hxm) hinv.base.size hB
 have hnd':=of_decide_eq_true hnd
 simp only [List.nodup_cons,List.mem_cons,List.not_mem_nil,or_false,not_or,List.nodup_nil,and_true,not_false_iff] at hnd'
 obtain ⟨⟨n1,n2,n3,n4,n5⟩,⟨n6,n7,n8,n9⟩,⟨n10,n11,n12⟩,⟨n13,n14⟩,n15⟩:=hnd'
 have hgc:∀ q,q<ops.size→Rg.dst ⟨ops,N,Γ,lesN Λ,sp,fun i=>List.range i⟩ q≠some c0:=fun q hq=>by
  have:=List.all_eq_true.1 hXo q (by simpa using hq)
  simpa using this
 obtain ⟨Ax,cx,ex⟩:=hX _ _ _ (hinv.g (c0,X) (List.mem_of_getElem? hkx) (fun q hq hdq=>absurd hdq (hgc q hq)) (hcl _))
 obtain ⟨q1,q2,ds,q3,q4,q5⟩:=r1
 rcases q5 with ⟨_,q5⟩ | ⟨g,cap,cur,e1,e2,e3,e4,e5,e6,e7⟩
 ·simp at q5
 rw [List.length_append,List.length_singleton] at e1 e4
 subst e1
 have hsza:a1.tmps.size=N:=hinv.size
 obtain ⟨a2,ha2⟩:∃ a2,a2=a1.put (some d) (.slice (some ⟨g,0,none⟩) (l.length+1) cap):=⟨_,rfl⟩
 obtain ⟨a3,ha3⟩:∃ a3,a3=a2.put (some c1) (.slice Ax l.length cx):=⟨_,rfl⟩
 obtain ⟨a4,ha4⟩:∃ a4,a4=a3.put (some c2) (.int .i64 (l.length:Int)):=⟨_,rfl⟩
 obtain ⟨a5,ha5⟩:∃ a5,a5=a4.put (some f) (.slice (some ⟨g,0,none⟩) l.length cap):=⟨_,rfl⟩
 obtain ⟨a6,ha6⟩:∃ a6,a6=a5.put (some e) (.slice (some ⟨g,0,none⟩) l.length cap):=⟨_,rfl⟩
 have s2:a2.tmps.size=N:=by rw [ha2,zc3]; exact hsza
 have s3:a3.tmps.size=N:=by rw [ha3,zc3]; exact s2
 have s4:a4.tmps.size=N:=by rw [ha4,zc3]; exact s3
 have s5:a5.tmps.size=N:=by rw [ha5,zc3]; exact s4
 have s6:a6.tmps.size=N:=by rw [ha6,zc3]; exact s5
 have hE:P.elem S=E:=by simp [Program.elem,hS]
 have hs1':P.underlying S=some (.slice (P.elem S)):=by rw [hE]; exact hS
 have hszo:∀ w,(sizeOf E).run P w=.ok m w:=fun w=>by simp [sizeOf,typeInfo,hi,hsz]
 rw [List.range'_succ,wpOps_cons]
 refine zbw (R:=⟨ops,N,Γ,lesN Λ,sp,fun i=>List.range i⟩) ho1 rfl (zbh (w':=w') (v:=.slice (some ⟨g,0,none⟩) (l.length+1) cap) (by simp [execOp,resolve,invoke,builtin,hr,Result.andThen]) ?_)
 show wpOps P ops Q _ (a1.put (some d) _) w'
 rw [← ha2]
 rw [List.range'_succ,wpOps_cons]
 refine zbw (R:=⟨ops,N,Γ,lesN Λ,sp,fun i=>List.range i⟩) ho2 rfl (zbh (w':=w') (v:=.slice Ax l.length cx) (by
  have:a2.eval (.tmp c0)=.slice Ax l.length cx:=by rw [ha2,zaa _ _ _ _ (fun h=>n5 h.symm)]; exact ex
  simp [execOp,this]) ?_)
 show wpOps P ops Q _ (a2.put (some c1) _) w'
 rw [← ha3]
 rw [List.range'_succ,wpOps_cons]
 refine zbw (R:=⟨ops,N,Γ,lesN Λ,sp,fun i=>List.range i⟩) ho3 rfl (zbh (w':=w') (v:=.int .i64 (l.length:Int)) (by
  have:a3.eval (.tmp c1)=.slice Ax l.length cx:=by rw [ha3]; exact zb2 _ _ _ (by rw [s2]; exact hc1)
  simp [execOp,resolve,invoke,builtin,this,Builtin.len_,run_underlying hS,goInt]) ?_)
 show wpOps P ops Q _ (a3.put (some c2) _) w'
 rw [← ha4]
 have d4:a4.eval (.tmp d)=.slice (some ⟨g,0,none⟩) (l.length+1) cap:=by rw [ha4,zaa _ _ _ _ n2,ha3,zaa _ _ _ _ n1,ha2]; exact zb2 _ _ _ (by rw [hsza]; exact hd)
 have c4:a4.eval (.tmp c2)=.int .i64 (l.length:Int):=by rw [ha4]; exact zb2 _ _ _ (by rw [s3]; exact hc2)
 rw [List.range'_succ,wpOps_cons]
 refine zbw (R:=⟨ops,N,Γ,lesN Λ,sp,fun i=>List.range i⟩) ho4 rfl (zbh (w':=w') (v:=.slice (some ⟨g,0,none⟩) l.length cap) (by
  have hr2:=run_slice_h (P:=P) w' S (some ⟨g,0,none⟩) (l.length+1) cap hs1' .i64 (l.length:Int) zo zo
  rw [hE,hszo] at hr2
  have hne:¬ cap=0:=by omega
  simp only [Result.andThen_ok,sliced,Int.toNat_natCast,hne,if_false,Nat.zero_mul,Option.map_some,Nat.sub_zero] at hr2
  simp only [execOp,d4,c4,Option.map_some,run_sliceAt_slice _ _ _ _ _ _ hs1',Sem.run_bind,Sem.run_pure]
  erw [hr2]
  simp [Addr.add]) ?_)
 show wpOps P ops Q _ (a4.put (some f) _) w'
 rw [← ha5]
 rw [List.range'_succ,wpOps_cons]
 refine zbw (R:=⟨ops,N,Γ,lesN Λ,sp,fun i=>List.range i⟩) ho5 rfl (zbh (w':=w') (v:=.slice (some ⟨g,0,none⟩) l.length cap) ?_ ?_)
 ·have:a5.eval (.tmp f)=.slice (some ⟨g,0,none⟩) l.length cap:=by rw [ha5]; exact zb2 _ _ _ (by rw [s4]; exact hf)
  simp [execOp,this]
 show wpOps P ops Q _ (a5.put (some e) _) w'
 rw [← ha6]
 refine hQ _ _ ?_
 have hother:∀ t,t≠d→t≠c1→t≠c2→t≠f→t≠e→a6.eval (.tmp t)=a1.eval (.tmp t):=fun t h1 h2 h3 h4 h5=>by
  rw [ha6,zaa _ _ _ _ h5,ha5,zaa _ _ _ _ h4,ha4,zaa _ _ _ _ h3,ha3,zaa _ _ _ _ h2,ha2,zaa _ _ _ _ h1]
 have hdf:a6.defers=a1.defers:=by rw [ha6,ha5,ha4,ha3,ha2]; rfl
 have hlc:∀ l'∈Λ,l'.T≠E∧E ∉ l'.A.deps∧a6.eval (.tmp l'.s)=a1.eval (.tmp l'.s):=fun l' hl'=>by
  have:=List.all_eq_true.1 hΛ l' hl'
  simp only [Bool.and_eq_true,bne_iff_ne,Bool.not_eq_true',List.contains_eq_mem,decide_eq_false_iff_not] at this
  exact ⟨this.1.1.1.1.1.1,this.1.1.1.1.1.2,hother _ this.1.1.1.1.2 this.1.1.2 this.1.2 this.2 this.1.1.1.2⟩
 have hcur:∀ l'∈Λ,(⟨l'.s,l'.T,l'.H,none,l'.A,none⟩:Le)∈lesN Λ:=fun l' hl'=>List.mem_map.2 ⟨l',hl',rfl⟩
 refine ⟨hinv.lo,hinv.defers.grown r2 r3 hdf,s6,?_,?_,?_,?_⟩
 ·exact ⟨r2.os.trans hinv.base.os,r2.tape.trans hinv.base.tape,r2.output.trans hinv.base.output,Nat.le_trans hinv.base.size r2.size,fun k hk hf =>
   (r2.block k (Nat.lt_of_lt_of_le hk hinv.base.size) (fun e=>by have:=(r3 k e.symm).1; omega)).trans (hinv.base.block k hk hf)⟩
 ·intro y hy
  rcases List.mem_cons.1 hy with rfl | hy
  ·show (TwS E m D l x).p B (a6.eval (.tmp e)) w'
   rw [ha6,zb2 _ _ _ (by rw [s5]; exact he)]
   exact ⟨g,cap,rfl,Nat.le_trans hB e2,q1,q2,ds,q3,q4,.inr ⟨g,cap,cur,by rw [List.length_append]; rfl,Nat.zero_le _,e3,by rw [List.length_append]; exact e4,e5,e6,e7⟩⟩
  ·obtain ⟨k,hk1,hk2⟩:=List.mem_filterMap.1 hy
   have hs:=List.all_eq_true.1 hsrc k hk1
   simp only [hk2,Bool.and_eq_true,Bool.not_eq_true',List.contains_eq_mem,decide_eq_false_iff_not] at hs
   have hout:∀ q,q<ops.size→Rg.dst ⟨ops,N,Γ,lesN Λ,sp,fun i=>List.range i⟩ q≠some y.1:=fun q hq=>by
    have:=List.all_eq_true.1 hs.2 q (by simpa using hq)
    simpa using this
   rw [hother _ (fun e1=>hout n zo (by unfold Rg.dst; rw [ho1,e1]; rfl)) (fun e1=>hout (n+1) zo (by unfold Rg.dst; rw [ho2,e1]; rfl)) (fun e1=>hout (n+2) zo (by unfold Rg.dst; rw [ho3,e1]; rfl)) (fun e1=>hout (n+3) zo (by unfold Rg.dst; rw [ho4,e1]; rfl)) (fun e1=>hout (n+4) zo (by unfold Rg.dst; rw [ho5,e1]; rfl))]
   exact VA.grown (hinv.g y (List.mem_of_getElem? hk2) (fun q hq hdq=>absurd hdq (hout q hq)) (hcl _)) r2 r3 hB hs.1
 ·intro l' hl'
  obtain ⟨g1,g2,g3⟩:=hlc l' hl'
  obtain ⟨g,cs,e1,e2,e3,e4⟩:=hinv.c _ (hcur l' hl') l'.A rfl
  refine ⟨g,cs,by rw [g3]; exact e1,e2,?_,As.grown e4 r2 r3 hB g2⟩
  rw [r2.block g (Array.getElem?_eq_some_iff.1 e3).1 (fun e5=>by
   obtain ⟨_,c,fz,e6⟩:=r3 g e5.symm
   rw [e3] at e6
   injection e6 with e6
   injection e6 with _ e6 _
   exact g1 e6)]
  exact e3
 ·intro l1 hl1 l2 hl2 hne'
  rw [(hlc l1 hl1).2.2,(hlc l2 hl2).2.2]
  exact hinv.x _ (hcur l1 hl1) _ (hcur l2 hl2) hne' rfl rfl
theorem row_nx {α:Type}{f:α→As}{xs:List α}{j:Nat}(h:j<xs.length):(xs.take j).map f++[f xs[j]]=(xs.take (j+1)).map f:=by
 rw [List.take_succ_eq_append_getElem h,List.map_append]
 rfl
theorem zsj (x:RF):FreeA (RFT x) (RFT x):=zcj (.cons (zfm _) (.cons (zfm _) .nil))
theorem zrx {p:As→Prop}{l:List As}{z:As}(h1:∀ A∈l,p A)(h2:p z):∀ A∈l++[z],p A:=fun A hA=>by
 rcases List.mem_append.1 hA with hA | hA
 ·exact h1 A hA
 ·obtain rfl:=List.mem_singleton.1 hA
  exact h2
theorem zd6 {α:Type}{p:As→Prop}{f:α→As}{xs:List α}(h:∀ x,p (f x)):∀ A∈xs.map f,p A:=fun A hA=>by
 obtain ⟨x,_,rfl⟩:=List.mem_map.1 hA
 exact h x
theorem zgf {α:Type}{f k:α→As}(h:∀ x,WkA (f x) (k x)):∀ {xs:List α},All2 WkA (xs.map f) (xs.map k)
 | []=>.nil
 | x::xs=>.cons (h x) (zgf h)
theorem zsl:FreeA (MgA []) (MgA []):=⟨rfl,rfl,fun B B' cs w hB ⟨ok,hD,A,c,ds,h0,h1,h2,⟨ps,h3,h4⟩,h5⟩=>⟨ok,hD,A,c,ds,h0,h1,h2,by cases h4; exact ⟨[],h3,.nil⟩,fun h=>absurd h zd⟩⟩
theorem wi_lm {α β:Type}{f:α→β}{xs:List α}(h:xs.length<4611686018427387903):IntKind.i64.wrap (((xs.map f).length:Int)+1)=((xs.length+1:Nat):Int):=by rw [List.length_map]; exact zb3 zo
theorem sl_len {E:TypeId}{D:List TypeId}{l:List As}{p:Prop}:∀ B u w,(SlO E D l p).va.p B u w→∃ A c,u=.slice A l.length c:=fun B u w ⟨cs,⟨_,_,A,c,ds,h0,_⟩,hv⟩=>by
 subst h0
 exact ⟨A,c,hv⟩
theorem lens_eq {α β:Type}{f:α→As}{k:β→As}{xs:List α}{ys:List β}{c:Nat}(h:(((((xs.map f).length:Nat):Int) != (((ys.map k).length:Nat):Int)) || decide ((c:Int)≤(((ys.map k).length:Nat):Int)))=false):xs.length=ys.length:=by
 simp only [Bool.or_eq_false_iff,List.length_map,bne_eq_false_iff_eq] at h
 have:=h.1
 omega
theorem lens_ne {α:Type}[DecidableEq α]{f k:α→As}{xs ys:List α}{c:Nat}(hc:xs.length+1≤c)(h:(((((xs.map f).length:Nat):Int) != (((ys.map k).length:Nat):Int)) || decide ((c:Int)≤(((ys.map k).length:Nat):Int)))=true):false=decide (xs=ys):=by
 symm
 apply decide_eq_false
 rintro rfl
 simp at h
 omega
theorem take_eqA {α:Type}[DecidableEq α]{xs ys:List α}{j:Nat}(h2:j<ys.length)(h1:j<xs.length)(ht:xs.take j=ys.take j)(h:(!decide (xs[j]=ys[j]))=false):xs.take (j+1)=ys.take (j+1):=by
 rw [List.take_succ_eq_append_getElem h1,List.take_succ_eq_append_getElem h2,ht]
 simp at h
 rw [h]
theorem take_neA {α:Type}[DecidableEq α]{xs ys:List α}{j:Nat}(h2:j<ys.length)(h1:j<xs.length)(h:(!decide (xs[j]=ys[j]))=true):false=decide (xs=ys):=by
 symm
 apply decide_eq_false
 rintro rfl
 simp at h
end Go.Proofs.YthdbhckhignfcaaGreatDoor
namespace Go.Proofs.YthdbhckhignfcaaGreatDoor
open Go Go.RowKit
open Go.ChangeShapes Go.WideShapes Go.ChangeAt
theorem zfi {A:As}{D:List TypeId}(h:(A.deps.all fun T=>D.contains T)=true):∀ T∈A.deps,T∈D:=fun T hT=>by
 have:=List.all_eq_true.1 h T hT
 simpa using this
def wdI (x:RI):Prop:=x.mag.length≤140737488355328
def wdF (x:RF):Prop:=wdI x.num∧wdI x.den
def wdR (x:RR):Prop:=wdF x.y∧wdF x.u
abbrev Wt {H:Type}(P:Program)(t:TypeId)(d:DataW H):Prop:=∀ n∈d.weights P t,n≤reachBytes
section
variable {H:Type} {enc:TypeId × Value→H} {w:World} {base:Nat} {spare:Nat→Bool} {held:Bool} {fuel:Nat} {cs:List Value} {x:DataW H × List MemPlace}
theorem rb_mg (h:DataW.trod enc Tryz.prog w base spare held fuel 23 cs=some x)(hw:Wt Tryz.prog 23 x.1):∃ l,(MgA l).p w.heap.size cs w∧l.length≤140737488355328:=by
 obtain ⟨l,hl⟩:=rd_mg h
 refine ⟨l,hl,?_⟩
 rcases open_ints Tryz.underlying23 Tryz.underlying106 zk h with ⟨hcs,_⟩ | ⟨a,len,cap,zs,rfl,_,h1,hm,hz,hx,hcell,hwz⟩
 ·subst hcs
  obtain ⟨_,_,A,c,ds,e,_⟩:=hl
  rw [List.length_map] at e
  simp only [List.cons.injEq,Value.slice.injEq,and_true] at e
  omega
 ·obtain ⟨_,_,A,c,ds,e,_⟩:=hl
  rw [List.length_map] at e
  simp only [List.cons.injEq,Value.slice.injEq,and_true] at e
  have h4:Tryz.prog.bytesOf 106=4:=by kernel_rfl
  have:=hw (((lits .u32 (zs.take len):List (DataW H)).length+(lits .u32 (zs.drop len):List (DataW H)).length)*Tryz.prog.bytesOf 106) (by rw [hx]; simp [DataW.weights,Tryz.underlying23,lits])
  rw [h4] at this
  simp only [lits,List.length_map,List.length_take,List.length_drop] at this
  have hlen:len≤zs.length:=by rw [hz]; split <;> omega
  unfold reachBytes at this
  omega
theorem zfa {P:Program}{t:TypeId}{fs:Array Field}(ht:P.underlying t=some (.struct fs))(h:DataW.trod enc P w base spare held fuel t cs=some x)(hw:Wt P t x.1)(j:Nat){f:Field}(hf:fs[j]?=some f) :
  ∃ n y,DataW.trod enc P w base spare held n f.type ((cs.drop f.offset).take (P.cellsOf f.type))=some y∧Wt P f.type y.1:=by
 obtain ⟨xs,n,_,hx,_,hlen,hel⟩:=DataW.trod_struct ht h
 have hj:j<fs.size:=(Array.getElem?_eq_some_iff.1 hf).1
 have h1:=hel j f hf
 rw [List.getElem?_eq_getElem zo] at h1
 refine ⟨n,_,h1,fun k hk=>hw k ?_⟩
 rw [hx]
 simp only [DataW.weights,ht]
 exact DataW.weights_mem_each (j:=j) (by rw [List.getElem?_map]; show (fs.toList[j]?).map _=_; rw [Array.getElem?_toList,hf]; rfl) (by rw [List.getElem?_map,List.getElem?_eq_getElem zo]; rfl) k hk
theorem rb_ri (h:DataW.trod enc Tryz.prog w base spare held fuel 25 cs=some x)(hw:Wt Tryz.prog 25 x.1):∃ y,(RIA y).p w.heap.size cs w∧wdI y:=by
 have hl:cs.length=2:=by
  obtain ⟨_,_,_,_,hl,_,_⟩:=DataW.trod_struct Tryz.underlying25 h
  exact hl.trans zk
 obtain ⟨n0,y0,h0,w0⟩:=zfa Tryz.underlying25 h hw 0 rfl
 have c0:Tryz.prog.cellsOf 4=1:=by kernel_rfl
 have h0:DataW.trod enc Tryz.prog w base spare held n0 4 ((cs.drop 0).take (Tryz.prog.cellsOf 4))=some y0:=h0
 rw [c0] at h0
 obtain ⟨a0,q0⟩:=rd_bo h0
 obtain ⟨n1,y1,h1,w1⟩:=zfa Tryz.underlying25 h hw 1 rfl
 have c1:Tryz.prog.cellsOf 23=1:=by kernel_rfl
 have h1:DataW.trod enc Tryz.prog w base spare held n1 23 ((cs.drop 1).take (Tryz.prog.cellsOf 23))=some y1:=h1
 rw [c1] at h1
 obtain ⟨a1,q1,b1⟩:=rb_mg h1 w1
 exact ⟨⟨a0,a1⟩,zqm q0 q1 hl,b1⟩
theorem rb_rf (h:DataW.trod enc Tryz.prog w base spare held fuel 27 cs=some x)(hw:Wt Tryz.prog 27 x.1):∃ y,(RFA y).p w.heap.size cs w∧wdF y:=by
 have hl:cs.length=4:=by
  obtain ⟨_,_,_,_,hl,_,_⟩:=DataW.trod_struct Tryz.underlying27 h
  exact hl.trans zk
 obtain ⟨n0,y0,h0,w0⟩:=zfa Tryz.underlying27 h hw 0 rfl
 have c0:Tryz.prog.cellsOf 25=2:=by kernel_rfl
 have h0:DataW.trod enc Tryz.prog w base spare held n0 25 ((cs.drop 0).take (Tryz.prog.cellsOf 25))=some y0:=h0
 rw [c0] at h0
 obtain ⟨a0,q0,b0⟩:=rb_ri h0 w0
 obtain ⟨n1,y1,h1,w1⟩:=zfa Tryz.underlying27 h hw 1 rfl
 have c1:Tryz.prog.cellsOf 25=2:=by kernel_rfl
 have h1:DataW.trod enc Tryz.prog w base spare held n1 25 ((cs.drop 2).take (Tryz.prog.cellsOf 25))=some y1:=h1
 rw [c1] at h1
 obtain ⟨a1,q1,b1⟩:=rb_ri h1 w1
 exact ⟨⟨a0,a1⟩,zqm q0 q1 hl,⟨b0,b1⟩⟩
theorem rb_rr (h:DataW.trod enc Tryz.prog w base spare held fuel 29 cs=some x)(hw:Wt Tryz.prog 29 x.1):∃ y,(RRA y).p w.heap.size cs w∧wdR y:=by
 have hl:cs.length=8:=by
  obtain ⟨_,_,_,_,hl,_,_⟩:=DataW.trod_struct Tryz.underlying29 h
  exact hl.trans zk
 obtain ⟨n0,y0,h0,w0⟩:=zfa Tryz.underlying29 h hw 0 rfl
 have c0:Tryz.prog.cellsOf 27=4:=by kernel_rfl
 have h0:DataW.trod enc Tryz.prog w base spare held n0 27 ((cs.drop 0).take (Tryz.prog.cellsOf 27))=some y0:=h0
 rw [c0] at h0
 obtain ⟨a0,q0,b0⟩:=rb_rf h0 w0
 obtain ⟨n1,y1,h1,w1⟩:=zfa Tryz.underlying29 h hw 1 rfl
 have c1:Tryz.prog.cellsOf 27=4:=by kernel_rfl
 have h1:DataW.trod enc Tryz.prog w base spare held n1 27 ((cs.drop 4).take (Tryz.prog.cellsOf 27))=some y1:=h1
 rw [c1] at h1
 obtain ⟨a1,q1,b1⟩:=rb_rf h1 w1
 exact ⟨⟨a0,a1⟩,zqm q0 q1 hl,⟨b0,b1⟩⟩
theorem arg_ofB {P:Program}{α:Type}{A:α→As}{bd:α→Prop}{t:TypeId}{fs:Array Field}{r:Reach}{b0:Nat}{v:Value}{d:DataW H}{p:List MemPlace}(hag:∀ y,(A y).ag=true)(ht:P.underlying t=some (.struct fs))
  (rd:∀ {fuel:Nat} {cs:List Value} {x:DataW H × List MemPlace},DataW.trod enc P w base spare held fuel t cs=some x→Wt P t x.1→∃ y,(A y).p w.heap.size cs w∧bd y)
  (hv:Value.okWide P w r b0 t v) (h:DataW.Trod enc P w base spare held t v d p) (hw:Wt P t d):∃ y,(A y).va.p w.heap.size v w∧bd y:=by
 obtain ⟨cs,hcs,_⟩:=okWide_struct ht hv
 subst hcs
 obtain ⟨fuel,hf⟩:=h
 obtain ⟨y,hy,hb⟩:=rd hf hw
 refine ⟨y,⟨cs.toList,hy,?_⟩,hb⟩
 unfold shape
 rw [hag y,if_pos rfl]
theorem wt_of {P:Program}{ts:List TypeId}{ds:List (DataW H)}(h:(DataW.weightsEach P ts ds).all (· ≤ reachBytes)=true)(j:Nat){t:TypeId}{d:DataW H}(ht:ts[j]?=some t)(hd:ds[j]?=some d):Wt P t d:=fun n hn=>by
 have:=List.all_eq_true.1 h n (DataW.weights_mem_each ht hd n hn)
 simpa using this
theorem zgq {P:Program}{e:TypeId}:∀ {l:List (DataW H)} {d:DataW H},d∈l→∀ n∈d.weights P e,n∈DataW.weightsAll P e l
 | [],_,h,_,_=>by cases h
 | x::l,d,h,n,hn=>by
  simp only [DataW.weightsAll,List.mem_append]
  rcases List.mem_cons.1 h with rfl | h
  ·exact .inl hn
  ·exact .inr (zgq h n hn)
theorem rb_sl {P:Program}{α:Type}{A:α→As}{bd:α→Prop}{t e:TypeId}{m:Nat}{D:List TypeId}(ht:P.underlying t=some (.slice e))(hc:P.cellsOf e=m)(hm0:0<m)(hby:0<P.bytesOf e)(hD:∀ y,∀ T∈(A y).deps,T∈D)
  (rd:∀ {fuel:Nat} {cs:List Value} {x:DataW H × List MemPlace},DataW.trod enc P w base spare held fuel e cs=some x→Wt P e x.1→∃ y,(A y).p w.heap.size cs w∧bd y)
  (h:DataW.trod enc P w base spare held fuel t cs=some x) (hw:Wt P t x.1):∃ l:List α,(SlA e D (l.map A)).p w.heap.size cs w∧(∀ y∈l,bd y)∧l.length≤140737488355328:=by
 rcases Go.Deep.open_slice ht h with ⟨rfl,_⟩ | ⟨a,len,cap,m',n,Df,Pl,rfl,hb,hl,hmx,hm',hxx,hel⟩
 ·exact ⟨[],⟨fun A hA=>by simp at hA,none,0,[],rfl,Nat.le_refl _,Nat.zero_le _,⟨[],rfl,.nil⟩,fun h=>absurd h (by simp)⟩,fun y hy=>(by cases hy),by simp⟩
 ·rw [hc] at hel
  have hle:len≤m':=by rw [hm']; split <;> omega
  have hwt:∀ k,k<len→Wt P e (Df k):=fun k hk n hn=>hw n (by
   rw [hxx]
   simp only [DataW.weights,ht]
   exact List.mem_cons_of_mem _ (List.mem_append_left _ (zgq (List.mem_map.2 ⟨k,List.mem_range.2 hk,rfl⟩) n hn)))
  have hlw:len≤140737488355328:=by
   have:=hw ((((List.range len).map Df).length+((List.range (m'-len)).map fun j=>Df (len+j)).length)*P.bytesOf e) (by rw [hxx]; simp [DataW.weights,ht])
   simp only [List.length_map,List.length_range] at this
   unfold reachBytes at this
   have h1:(len+(m'-len))*1≤(len+(m'-len))*P.bytesOf e:=Nat.mul_le_mul_left _ hby
   omega
  have key:∀ k,k≤len→∃ (l:List α) (ds:List Value),l.length=k∧ds.length=k*m∧(cat (l.map A)).p w.heap.size ds w∧(∀ y∈l,bd y)∧∀ (j:Nat) v,ds[j]?=some v→w.cell? (a.add j)=some v:=by
   intro k
   induction k with
   | zero=>exact fun _=>⟨[],[],rfl,by simp,⟨[],rfl,.nil⟩,fun y hy=>(by cases hy),fun j v hv=>by simp at hv⟩
   | succ k ih =>
    intro hk
    obtain ⟨l,ds,h1,h2,h3,hbd,h4⟩:=ih zo
    obtain ⟨cs',q1,q2⟩:=hel k zo
    obtain ⟨y,hy,hyb⟩:=rd q2 (hwt k zo)
    obtain ⟨_,q3,q4⟩:=World.cells?_some q1
    refine ⟨l++[y],ds++cs',by simp [h1],by rw [List.length_append,h2,q3,Nat.add_mul,Nat.one_mul],?_,fun z hz=>by
     rcases List.mem_append.1 hz with hz | hz
     ·exact hbd z hz
     ·obtain rfl:=List.mem_singleton.1 hz; exact hyb,fun j v hv=>?_⟩
    ·rw [List.map_append]
     exact cat_apx h3 (cat_onex hy)
    ·by_cases hj:j<ds.length
     ·rw [List.getElem?_append_left hj] at hv
      exact h4 j v hv
     ·rw [List.getElem?_append_right zo] at hv
      have hlt:j-ds.length<cs'.length:=(List.getElem?_eq_some_iff.1 hv).1
      have:=q4 (j-ds.length) zo
      rw [Go.Deep.add_add,show k*m+(j-ds.length)=j by omega] at this
      rw [this,hv]
  obtain ⟨l,ds,h1,h2,h3,hbd,h4⟩:=key len (Nat.le_refl _)
  refine ⟨l,⟨fun A' hA=>?_,some a,cap,ds,by rw [List.length_map,h1],by rw [List.length_map,h1]; exact hl,hmx,h3,fun hpos=>?_⟩,hbd,by omega⟩
  ·obtain ⟨y,_,rfl⟩:=List.mem_map.1 hA
   exact hD y
  ·rw [List.length_map,h1] at hpos
   have hds:0<ds.length:=by rw [h2]; exact Nat.mul_pos hpos hm0
   obtain ⟨b,off,spot⟩:=a
   have h0:=h4 0 (ds[0]) (List.getElem?_eq_getElem hds)
   have hspot:spot=none:=by simpa [Addr.add] using World.cell?_spot h0
   subst hspot
   have hblk:b<w.heap.size:=World.block_lt_of_cell? w _ (by rw [Go.WideShapes.add_plain] at h0; exact h0)
   exact ⟨b,off,rfl,hblk,.inl hblk,fun j v hv=>by rw [← Go.WideShapes.add_plain]; exact h4 j v hv⟩
theorem arg_slB {P:Program}{α:Type}{A:α→As}{bd:α→Prop}{t e:TypeId}{m:Nat}{D:List TypeId}{r:Reach}{b0:Nat}{v:Value}{d:DataW H}{p:List MemPlace}(ht:P.underlying t=some (.slice e))(hc:P.cellsOf e=m)(hm0:0<m)(hby:0<P.bytesOf e)(hD:∀ y,∀ T∈(A y).deps,T∈D)
  (rd:∀ {fuel:Nat} {cs:List Value} {x:DataW H × List MemPlace},DataW.trod enc P w base spare held fuel e cs=some x→Wt P e x.1→∃ y,(A y).p w.heap.size cs w∧bd y)
  (hv:Value.okWide P w r b0 t v) (h:DataW.Trod enc P w base spare held t v d p) (hw:Wt P t d):∃ l:List α,(SlA e D (l.map A)).va.p w.heap.size v w∧(∀ y∈l,bd y)∧l.length≤140737488355328:=by
 obtain ⟨a,len,cap,rfl⟩:=okWide_slice ht hv
 obtain ⟨fuel,hf⟩:=h
 obtain ⟨l,hl,h2⟩:=rb_sl ht hc hm0 hby hD rd hf hw
 exact ⟨l,⟨_,hl,rfl⟩,h2⟩
end
theorem zhq {x:RF}(h:wdF x):∃ c:Nat,fracCostF x=(c:Int)∧x.num.mag.length+x.den.mag.length+2≤c∧c≤4503599627370496:=by
 obtain ⟨h1,h2⟩:=h
 unfold wdI at h1 h2
 have e1:intSizeF x.num=((1+x.num.mag.length:Nat):Int):=by unfold intSizeF; rw [wi64 zo zo]; omega
 have e2:intSizeF x.den=((1+x.den.mag.length:Nat):Int):=by unfold intSizeF; rw [wi64 zo zo]; omega
 have e3:fracSizeF x=((2+x.num.mag.length+x.den.mag.length:Nat):Int):=by unfold fracSizeF; rw [e1,e2,wi64 zo zo]; omega
 obtain ⟨u,hu⟩:∃ u:Nat,u=min x.num.mag.length 1048576:=⟨_,rfl⟩
 obtain ⟨v,hv⟩:∃ v:Nat,v=min x.den.mag.length 1048576:=⟨_,rfl⟩
 have hu':min (x.num.mag.length:Int) 1048576=(u:Int):=by omega
 have hv':min (x.den.mag.length:Int) 1048576=(v:Int):=by omega
 have huv:u*v≤1048576*1048576:=Nat.mul_le_mul zo zo
 have h16:u*v/16≤68719476736:=Nat.le_trans (Nat.div_le_div_right huv) zd
 have e4:lowCostF x.num x.den=((u*v/16*1024:Nat):Int):=by
  unfold lowCostF
  have t1:IntKind.i64.wrap (((u*v:Nat):Int))=((u*v:Nat):Int):=wi64 zo zo
  have t2:(((u*v:Nat):Int)).tdiv 16=((u*v/16:Nat):Int):=by rw [show (16:Int)=((16:Nat):Int) from rfl,Int.tdiv_eq_ediv_of_nonneg zo,← Int.natCast_ediv]
  have t3:IntKind.i64.wrap (((u*v/16:Nat):Int))=((u*v/16:Nat):Int):=wi64 zo zo
  rw [hu',hv',← Int.natCast_mul,t1,t2,t3,wi64 zo zo]
  omega
 refine ⟨2+x.num.mag.length+x.den.mag.length+u*v/16*1024,?_,by omega,by omega⟩
 unfold fracCostF
 rw [e3,e4,wi64 zo zo]
 omega
theorem ray_cost {x:RR}(h:wdR x):∃ a b:Nat,rayCostF x=((a+b:Nat):Int)∧(x.y.num.mag.length+x.y.den.mag.length≤a∧x.u.num.mag.length+x.u.den.mag.length≤b)∧a+b≤9007199254740992:=by
 obtain ⟨h1,h2⟩:=h
 obtain ⟨a,ea,la,ma⟩:=zhq h1
 obtain ⟨b,eb,lb,mb⟩:=zhq h2
 refine ⟨a,b,?_,⟨by omega,by omega⟩,by omega⟩
 unfold rayCostF
 rw [ea,eb,wi64 zo zo]
 omega
theorem byd_sum {n:Nat}{l:List Nat}(hn:n+l.sum≤9223372036854775807)(h:bydF (n:Int) (l.map fun (x:Nat)=>(x:Int))=false):n≤1048576∨l=[]→n+l.sum≤1048576∨l=[]:=by
 induction l generalizing n with
 | nil=>exact fun _=>.inr rfl
 | cons x l ih =>
  intro _
  simp only [List.sum_cons] at hn
  simp only [List.map_cons,bydF] at h
  rw [wi64 zo zo] at h
  split at h
  ·cases h
  ·rename_i h1
   have h2:n+x≤1048576:=by
    rw [decide_eq_true_eq] at h1
    omega
   rw [show ((n:Int)+(x:Int))=((n+x:Nat):Int) from rfl] at h
   rcases ih (n:=n+x) zo h (.inl h2) with h3 | h3
   ·left; simp only [List.sum_cons]; omega
   ·subst h3; left; simp; omega
theorem byd_0 {l:List Nat}(hn:l.sum≤9223372036854775807)(h:bydF 0 (l.map fun (x:Nat)=>(x:Int))=false):l.sum≤1048576:=by
 rcases byd_sum (n:=0) zo h (.inl zd) with h | h
 ·omega
 ·subst h; decide
end Go.Proofs.YthdbhckhignfcaaGreatDoor
namespace Go.Proofs.YthdbhckhignfcaaGreatDoor
open Go Go.RowKit
def RET (x:RE):As:=cat [NumA .u8 x.k,RFT x.p,RFT x.q]
theorem wkA_ret {x:RE}:WkA (RET x) (REA x):=zc1 (.cons (.refl _) (.cons zm5 (.cons zm5 .nil)))
theorem zsk (x:RE):FreeA (RET x) (RET x):=zcj (.cons (zgh _ _) (.cons (zsj _) (.cons (zsj _) .nil)))
theorem zp1:FreeA (RFA rf0) (RFA rf0):=zcj (.cons (zcj (.cons (zes _) (.cons zsl .nil))) (.cons (zcj (.cons (zes _) (.cons zsl .nil))) .nil))
theorem zyc:FreeA (REA ⟨77,rf0,rf0⟩) (REA ⟨77,rf0,rf0⟩):=zcj (.cons (zgh _ _) (.cons zp1 (.cons zp1 .nil)))
theorem reT_eq {x y:RE}:(((x.k==y.k)&&decide (x.p=y.p))&&decide (x.q=y.q))=decide (x=y):=by
 obtain ⟨a,b,c⟩:=x
 obtain ⟨d,e,f⟩:=y
 by_cases h1:a=d <;> by_cases h2:b=e <;> by_cases h3:c=f <;> simp [h1,h2,h3]
theorem zn7 (x y:RE)(hx:bdF x.p∧bdF x.q):Cn Tryz.prog 33 [(RET x).va,(REA y).va] (Bo (decide (x=y))):=by
 refine Cn.intro Tryz.func33 rfl zk nq (fun B w0 a O=>?_)
 have O:=zn [(0,(RET x).va),(1,(REA y).va)] [] O
 refine wp_seq<|zg [] [⟨2,69,ptrH,some 0,_,none⟩,⟨3,69,ptrH,some 1,_,none⟩] [.alc 0,.alc 1,.v 4 _] [.o 2] O (oc (zam rfl rfl rfl (gq 0 rfl)) (oc (zam rfl rfl rfl (gq 1 rfl)) (zv rfl (za2 zav) o0))) (zz [(4,_)] [⟨2,69,ptrH,_⟩,⟨3,69,ptrH,_⟩] fun a w O=>?_)
 refine zt<|zg [none,none] [] [.adr 5 2 (.some 0) True,.v 6 _,.adr 7 3 (.some 0) True,.v 8 _,.v 9 _,.v 10 _,.adr 11 2 (.some 1) (_=true),.v 12 (Wh (_=true) _),.adr 13 3 (.some 1) (_=true),.v 14 (Wh (_=true) _),.v 15 (Wh (_=true) _),.v 16 _,.v 17 _,.adr 18 2 (.some 5) (_=true),.v 19 (Wh (_=true) _),.adr 20 3 (.some 5) (_=true),.v 21 (Wh (_=true) _),.v 22 (Wh (_=true) _),.v 23 _,.v 4 _] [.o 19] O (oc (ob_a rfl rfl (za9 (lz0 0 rfl) zcy)) (zv rfl (za4 0 rfl zk trivial (lz0 0 rfl) (Sub.part 0 rfl rfl) zha) (oc (ob_a rfl rfl (za9 (lz0 1 rfl) zcy)) (zv rfl (za4 2 rfl zk trivial (lz0 1 rfl) (Sub.part 0 rfl rfl) zha) (zv rfl (zca (vq 1 rfl) (vq 3 rfl)) (zv rfl (za1 (vq 4 rfl)) (oc (zce rfl rfl rfl (vq 5 rfl) nq (fun hg=>za9 (lz0 0 rfl) zc8)) (oc (zan rfl rfl rfl (vq 5 rfl) nq (fun hg=>za4 6 rfl zk hg (lz0 0 rfl) (Sub.part 1 rfl rfl) zar)) (oc (zce rfl rfl rfl (vq 5 rfl) nq (fun hg=>za9 (lz0 1 rfl) zc8)) (oc (zan rfl rfl rfl (vq 5 rfl) nq (fun hg=>za4 8 rfl zk hg (lz0 1 rfl) (Sub.part 1 rfl rfl) zar)) (oc (zan rfl rfl rfl (vq 5 rfl) nq (fun hg=>za5 (xs:=[.tmp 12,.tmp 14]) (zgg _ _ hx.1) (.cons (zab (vq 7 rfl) hg) (.cons (zab (vq 9 rfl) hg) .nil)))) (zv rfl (zcc (vq 5 rfl) (vq 10 rfl)) (zv rfl (za1 (vq 11 rfl)) (oc (zce rfl rfl rfl (vq 12 rfl) nq (fun hg=>za9 (lz0 0 rfl) zcf)) (oc (zan rfl rfl rfl (vq 12 rfl) nq (fun hg=>za4 13 rfl zk hg (lz0 0 rfl) (Sub.part 2 rfl rfl) zar)) (oc (zce rfl rfl rfl (vq 12 rfl) nq (fun hg=>za9 (lz0 1 rfl) zcf)) (oc (zan rfl rfl rfl (vq 12 rfl) nq (fun hg=>za4 15 rfl zk hg (lz0 1 rfl) (Sub.part 2 rfl rfl) zar)) (oc (zan rfl rfl rfl (vq 12 rfl) nq (fun hg=>za5 (xs:=[.tmp 19,.tmp 21]) (zgg _ _ hx.2) (.cons (zab (vq 14 rfl) hg) (.cons (zab (vq 16 rfl) hg) .nil)))) (zv rfl (zcc (vq 12 rfl) (vq 17 rfl)) (zv rfl (za2 (vq 18 rfl)) o0)))))))))))))))))))) (zz [(4,_)] [⟨2,69,ptrH,_⟩,⟨3,69,ptrH,_⟩] fun a w O=>?_)
 refine za0<|wp_ret<|zai ?_ (zaf rfl O (zm 0 rfl))
 exact zbt (congrArg Bo reT_eq)
theorem zlc:∃ it z,Tryz.prog.info? 69=some it∧it.zero=some z∧it.size=9∧it.bytes=136∧z.cells.size=9:=by
 have h:((Tryz.prog.info? 69).bind fun it=>it.zero.map fun z=>(it.size,it.bytes,z.cells.size))=some (9,136,9):=by kernel_rfl
 cases hi:Tryz.prog.info? 69 with
 | none=>rw [hi] at h; simp at h
 | some it =>
  rw [hi] at h
  cases hz:it.zero with
  | none=>simp [hz] at h
  | some z =>
   simp [hz] at h
   exact ⟨it,z,rfl,hz,h.1,h.2.1,h.2.2⟩
abbrev bdLElements (xs:List RE):Prop:=∀ x∈xs,bdF x.p∧bdF x.q
theorem zlb (xs ys:List RE)(hl:ys.length≤10000000)(hx:bdLElements xs):Cn Tryz.prog 12 [TwS 69 9 [U32] (xs.map RET) (REA ⟨77,rf0,rf0⟩),(SlA 69 [U32] (ys.map REA)).va] (Bo (decide (xs=ys))):=by
 refine Cn.intro Tryz.func12 rfl zk nq (fun B w0 a O=>?_)
 have O:=zn [(0,TwS 69 9 [U32] (xs.map RET) (REA ⟨77,rf0,rf0⟩)),(1,(SlA 69 [U32] (ys.map REA)).va)] [] O
 obtain ⟨g,c,O⟩:=St.exK O 0 rfl
 have hcap:=zv2 (O.vals (0,_) (zm 0 rfl))
 rw [List.length_map] at hcap
 refine wp_seq<|zh [.v 4 _] [.g 0,.g 1,.o 0] O (zv rfl (za2 zav) o0) (zz [(0,_),(1,_),(4,_)] [] fun a w O=>?_)
 refine zt<|wp_seq<|zh [.v 7 _,.v 8 _,.v 9 _,.v 10 _,.v 11 _,.v 12 _,.v 13 (Wh (_=false) _),.v 14 (Wh (_=false) _),.v 15 (Wh (_=false) _),.v 16 (Wh (_=false) _),.v 17 (Wh (_=false) _),.v 18 _] [.g 0,.g 1,.g 2,.o 11] O (zv rfl (za1 (gq 0 rfl)) (zv rfl (zbk Tryz.underlying22 (has_wk' (vq 0 rfl) zv1)) (zv rfl (za1 (gq 1 rfl)) (zv rfl (zbk Tryz.underlying22 (vq 2 rfl)) (zv rfl (zdw (vq 1 rfl) (vq 3 rfl)) (zv rfl (za1 (vq 4 rfl)) (oc (zan rfl rfl rfl (vq 5 rfl) nq (fun hg=>za1 (gq 0 rfl))) (oc (zan rfl rfl rfl (vq 5 rfl) nq (fun hg=>r_capK Tryz.underlying22 (zab (vq 6 rfl) hg))) (oc (zan rfl rfl rfl (vq 5 rfl) nq (fun hg=>za1 (gq 1 rfl))) (oc (zan rfl rfl rfl (vq 5 rfl) nq (fun hg=>zbk Tryz.underlying22 (zab (vq 8 rfl) hg))) (oc (zan rfl rfl rfl (vq 5 rfl) nq (fun hg=>ztn (zab (vq 7 rfl) hg) (zab (vq 9 rfl) hg))) (zv rfl (r_or (vq 5 rfl) (vq 10 rfl)) o0)))))))))))) (zz [(0,_),(1,_),(4,_),(18,_)] [] fun a w O=>?_)
 refine za0<|za8 O (zm 3 rfl) (fun hb0=>?_) (fun hb0=>?_)
 ·refine wp_seq<|zh [.v 4 _] [.g 0,.g 1,.o 0] O (zv rfl (za2 zav) o0) (zz [(0,_),(1,_),(4,_)] [] fun a w O=>?_)
  refine za0<|wp_ret<|zag ?_
  refine zai ?_ (zaf rfl O (zm 2 rfl))
  exact zbt (congrArg Bo (lens_ne hcap.1 hb0))
 ·have hlen:=lens_eq hb0
  refine wp_skip<|zt<|wp_seq<|zh [.v 5 _] [.g 0,.g 1,.g 2,.o 0] O (zv rfl (za2 za3) o0) (zz [(0,_),(1,_),(4,_),(5,_)] [] fun a w O=>?_)
  refine za0<|wp_block ?_
  have O:=St.sel O [0,1,3]
  refine wp_loop_ghost (fun n a w=>∃ j:Nat,(n+j=ys.length∧xs.take j=ys.take j)∧St B w0 47 [(0,TwK g c 69 9 [U32] (xs.map RET) (REA ⟨77,rf0,rf0⟩)),(1,(SlA 69 [U32] (ys.map REA)).va),(5,In (j:Nat))] [] a w) (ys.length) ?_ ?_
  ·exact ⟨0,⟨by omega,rfl⟩,O⟩
  intro n a w hI
  obtain ⟨j,⟨hn,ht⟩,O⟩:=hI
  refine wp_seq<|wp_seq<|zh [.v 19 _,.v 20 _,.v 21 _,.v 22 _] [.g 0,.g 1,.g 2,.o 3] O (zv rfl (za1 (gq 2 rfl)) (zv rfl (za1 (gq 1 rfl)) (zv rfl (zbk Tryz.underlying22 (vq 1 rfl)) (zv rfl (zb1 (vq 0 rfl) (vq 2 rfl)) o0)))) (zz [(0,_),(1,_),(5,_),(22,_)] [] fun a w O=>?_)
  refine za0<|za8 O (zm 3 rfl) (fun hb1=>?_) (fun hb1=>?_)
  ·have hj2:j<ys.length:=by rw [List.length_map] at hb1; simp at hb1; omega
   have hj:j<xs.length:=by omega
   refine wp_skip<|zt<|wp_block<|wp_seq<|zgd [[],[],[0,1],[0,1,2],[],[],[4,5],[4,5,6],[0,1,2,3,4,5,6,7],[0,1,2,3,4,5,6,7,8]] [] [] [.v 25 _,.v 26 _,.v 27 _,.v 28 _,.v 29 _,.v 30 _,.v 31 _,.v 32 _,.v 33 _,.v 34 _] [.g 0,.g 1,.g 2,.o 9] za6 O (zv rfl (za1 (gq 0 rfl)) (zv rfl (za1 (gq 2 rfl)) (zv rfl (zd0 zhc (zgp fun _=>rfl) (has_wk' (vq 0 rfl) zv1) (vq 1 rfl) (ze1 hj)) (zv rfl (zad (vq 2 rfl) zeg) (zv rfl (za1 (gq 1 rfl)) (zv rfl (za1 (gq 2 rfl)) (zv rfl (zd0 zhc (zgp fun _=>rfl) (vq 4 rfl) (vq 5 rfl) (ze1 hj2)) (zv rfl (zad (vq 6 rfl) zeg) (zv rfl (za5 (xs:=[.tmp 28,.tmp 32]) (zn7 xs[j] ys[j] (hx _ (List.getElem_mem hj))) (.cons (vq 3 rfl) (.cons (vq 7 rfl) .nil))) (zv rfl (zeh (vq 8 rfl)) o0)))))))))) zk zk zk zk (zz [(0,_),(1,_),(5,_),(34,_)] [] fun a w O=>?_)
   refine za0<|za8 O (zm 3 rfl) (fun hb2=>?_) (fun hb2=>?_)
   ·refine wp_seq<|zh [.v 4 _] [.g 0,.g 1,.g 2,.o 0] O (zv rfl (za2 zav) o0) (zz [(0,_),(1,_),(5,_),(4,_)] [] fun a w O=>?_)
    refine za0<|wp_ret<|zba ?_
    refine zag ?_
    refine zag ?_
    refine zba ?_
    refine zag ?_
    refine zai ?_ (zaf rfl O (zm 3 rfl))
    exact zbt (congrArg Bo (take_neA hj2 hj hb2))
   ·refine wp_skip<|zae ?_
    refine za0<|zh [.v 23 _,.v 24 _,.v 5 _] [.g 0,.g 1,.o 2] O (zv rfl (za1 (gq 2 rfl)) (zv rfl (zb5 (vq 0 rfl) za3 (zb3 zo)) (zv rfl (za2 (vq 1 rfl)) o0))) (zz [(0,_),(1,_),(5,_)] [] fun a w O=>?_)
    refine za0 ?_
    have O:=St.sel O [0,1,2]
    exact ⟨n-1,by omega,j+1,⟨by omega,take_eqA hj2 hj ht hb2⟩,O⟩
  ·obtain rfl:j=ys.length:=by rw [List.length_map] at hb1; simp at hb1; omega
   refine wp_exit<|za7<|za7<|zap<|zt<|zg [] [⟨6,69,ptrH,some 9,_,some (10,_)⟩] [.v 35 _,.v 36 _,.v 37 _,.v 38 _,.v 39 _,.v 40 _,.v 41 _,.v 42 _,.v 43 _,.alc 0,.sto 0] [] O (zv rfl (za1 (gq 0 rfl)) (zv rfl (za1 (gq 1 rfl)) (zv rfl (zbk Tryz.underlying22 (vq 1 rfl)) (zv rfl (zb5 (vq 2 rfl) za3 (wi_lm zo)) (zv rfl (r_reslK zhc (vq 0 rfl) (has_wk' (vq 3 rfl) (zbt (congrArg (fun k:Nat=>In ((k+1:Nat):Int)) (hlen.symm.trans (List.length_map ..).symm))))) (zv rfl (za1 (gq 1 rfl)) (zv rfl (zbk Tryz.underlying22 (vq 5 rfl)) (zv rfl (zd0 zhc (zrx (zd6 fun _=>rfl) rfl) (vq 4 rfl) (has_wk' (vq 6 rfl) (zbt (congrArg (fun k:Nat=>In (k:Int)) (List.length_map ..)))) (k:=ys.length) (by rw [List.getElem?_append_right (by rw [List.length_map]; omega),List.length_map,hlen,Nat.sub_self]; rfl)) (zv rfl (zad (vq 7 rfl) zeg) (oc (zas rfl rfl rfl (Str.zero zgb)) (oc (zak rfl rfl rfl (vq 8 rfl) zeg (Eq.trans (b:=9) rfl rfl)) o0))))))))))) (zz [] [⟨6,69,ptrH,_⟩] fun a w O=>?_)
   refine zt<|zg [none] [] [.adr 44 6 (.some 0) True,.v 45 _,.v 46 _,.v 4 _] [.o 3] O (oc (ob_a rfl rfl (za9 (lz0 0 rfl) zcy)) (zv rfl (za4 0 rfl zk trivial (lz0 0 rfl) (Sub.part 0 rfl rfl) zha) (zv rfl (zca (vq 1 rfl) za3) (zv rfl (za2 (vq 2 rfl)) o0)))) (zz [(4,_)] [⟨6,69,ptrH,_⟩] fun a w O=>?_)
   refine za0<|wp_ret<|zai ?_ (zaf rfl O (zm 0 rfl))
   have e:xs=ys:=by rw [List.take_of_length_le zo,List.take_length] at ht; exact ht
   refine zbt (congrArg Bo ?_); rw [decide_eq_true e]; rfl
end Go.Proofs.YthdbhckhignfcaaGreatDoor
namespace Go.Proofs.YthdbhckhignfcaaGreatDoor
open Go Go.RowKit
theorem new_twn {l:List Nat}:NewA (TwN l):=fun B cs w ⟨ok,g,e,h1,h2,h3⟩ g' hg=>by
 subst e
 have:g'=g:=by simpa [cbl,blk] using hg
 subst this
 exact ⟨h1,(Array.getElem?_eq_some_iff.1 h3).1⟩
theorem zmw {x:RI}:NewA (RIT x):=zep fun A hA=>by
 simp at hA
 rcases hA with rfl | rfl
 ·exact new_bo _
 ·exact new_twn
theorem nod_rit {x:RI}:NodA (RIT x):=fun B cs w h=>zwy x B cs w (rit_rin.2.2 _ _ _ h)
def TFD (x:RF):As:=DisA (RFT x)
theorem zmx {x:RF}:NewA (RFT x):=zep fun A hA=>by
 simp at hA
 rcases hA with rfl | rfl <;> exact zmw
theorem zkh {x:RF}:FreeA (RFT x) (RFT x):=zcj (.cons (zfm _) (.cons (zfm _) .nil))
theorem zin {x:RF}:NewA (TFD x):=ziv zmx
theorem zjn {x:RF}:FreeA (TFD x) (TFD x):=zi0 zkh
theorem tfd_pins {u v:Value}{x:RF}:WkA (cat [PinA u ((RIT x.num).and (SepAll [] u)),PinA v ((RIT x.den).and (SepAll [u] v))]) (TFD x) :=
 zhz (l:=[(u,RIT x.num),(v,RIT x.den)]) (fun y hy=>by
  simp at hy
  rcases hy with rfl | rfl <;> exact nod_rit)
def TRD (x:RR):As:=DisA (RRT x)
theorem tr_pins {u v:Value}{x:RR}:WkA (cat [PinA u ((TFD x.y).and (SepAll [] u)),PinA v ((TFD x.u).and (SepAll [u] v))]) (TRD x) :=
 (zhz (l:=[(u,TFD x.y),(v,TFD x.u)]) (fun y hy=>by
  simp at hy
  rcases hy with rfl | rfl <;> exact ziu)).trans (zel (zc1 (.cons dis_wk (.cons dis_wk .nil))))
theorem zx0 {x:RR}:NewA (TRD x):=ziv (zep fun A hA=>by
 simp at hA
 rcases hA with rfl | rfl <;> exact zmx)
theorem free_trd {x:RR}:FreeA (TRD x) (TRD x):=zi0 (zcj (.cons zkh (.cons zkh .nil)))
theorem zf6 (x:RF)(hx:bdF x):Cn Tryz.prog 21 [(RFA x).va] ((TFD x).va):=by
 refine Cn.intro Tryz.func21 rfl zk nq (fun B w0 a O=>?_)
 have O:=zn [(0,(RFA x).va)] [] O
 refine wp_seq<|zg [] [⟨1,27,ptrH,some 0,_,none⟩,⟨2,27,ptrH,some 1,_,none⟩] [.alc 0,.alc 1] [] O (oc (zam rfl rfl rfl (gq 0 rfl)) (oc (zas rfl rfl rfl (Str.zero zbe)) o0)) (zz [] [⟨1,27,ptrH,_⟩,⟨2,27,ptrH,_⟩] fun a w O=>?_)
 refine zt<|go_drawV' [[],[0],[0,1],[],[3],[0,1,2,3,4],[0,1,2,3,4,5],[0,1,2,3,4,5,6]] (sts:=[none,some (7,fun ν=>_)]) (news:=[]) (sp:=[(fun ν=>.adr 3 1 (.some 0) True),(fun ν=>.v 4 _),(fun ν=>.v 5 (PinA (ν 2) ((RIT x.num).and (SepAll [] (ν 2)))).va),(fun ν=>.adr 6 1 (.some 2) True),(fun ν=>.v 7 _),(fun ν=>.v 8 (PinA (ν 5) ((RIT x.den).and (SepAll [ν 2] (ν 5)))).va),(fun ν=>.v 9 _),(fun ν=>.sto 1)]) [] za6 O ⟨of_u fun ν=>ob_a rfl rfl (za9 (lz0 0 rfl) zbf),⟨of_u fun ν=>ob_v rfl rfl (za4 0 rfl zk trivial (lz0 0 rfl) (Sub.part 0 rfl rfl) zac),⟨zdy (us:=fun ν=>[]) (xs:=[.tmp 4]) rfl rfl (zo7 _ hx.1) zmw (zfm _) (.cons (zo5 _).va .nil) (fun ν=>(.cons (vq 1 rfl) .nil)) (fun _ _=>rfl) (fun ν=>zcx),⟨of_u fun ν=>ob_a rfl rfl (za9 (lz0 0 rfl) zbb),⟨of_u fun ν=>ob_v rfl rfl (za4 3 rfl zk trivial (lz0 0 rfl) (Sub.part 1 rfl rfl) zac),⟨zdy (us:=fun ν=>[ν 2]) (xs:=[.tmp 7]) rfl rfl (zo7 _ hx.2) zmw (zfm _) (.cons (zo5 _).va .nil) (fun ν=>(.cons (vq 4 rfl) .nil)) (fun _ _=>rfl) (fun ν=>(zex (zfh zmw) (vq 2 rfl) zcx)),⟨of_u fun ν=>ob_v rfl rfl (zbg (xs:=[(0,.tmp 5),(1,.tmp 8)]) (qs:=[(0,_),(1,_)]) zbe (.cons ⟨rfl,(vq 2 rfl),rfl⟩ (.cons ⟨rfl,(vq 5 rfl),rfl⟩ .nil))),⟨of_u fun ν=>zak rfl rfl rfl (vq 6 rfl) zar (Eq.trans (b:=4) rfl rfl),trivial⟩⟩⟩⟩⟩⟩⟩⟩ ⟨(fun ν ν' h=>rfl),⟨(fun ν ν' h=>rfl),⟨(fun ν ν' h=>by first | rfl | simp only [h 2 rfl]),⟨(fun ν ν' h=>rfl),⟨(fun ν ν' h=>rfl),⟨(fun ν ν' h=>by first | rfl | simp only [h 2 rfl,h 5 rfl]),⟨(fun ν ν' h=>by first | rfl | simp only [h 2 rfl,h 5 rfl]),⟨(fun ν ν' h=>by first | rfl | simp only [h 2 rfl,h 5 rfl]),trivial⟩⟩⟩⟩⟩⟩⟩⟩ ⟨trivial,⟨(fun ν ν' h=>by first | rfl | simp only [h 2 rfl,h 5 rfl]),trivial⟩⟩ zk zk (fun ν=>by kernel_rfl) (fun ν=>by kernel_rfl) (fun ν1 a w O=>?_)
 have O:=zn [] [⟨1,27,ptrH,_⟩,⟨2,27,ptrH,_⟩] O
 refine za0<|wp_ret<|zai ?_ (zaj rfl O (zm 1 rfl) zar)
 exact tfd_pins.va
theorem zte (x:RR)(hx:bdF x.y∧bdF x.u):Cn Tryz.prog 8 [(RRA x).va] ((TRD x).va):=by
 refine Cn.intro Tryz.func8 rfl zk nq (fun B w0 a O=>?_)
 have O:=zn [(0,(RRA x).va)] [] O
 refine wp_seq<|zg [] [⟨1,29,ptrH,some 0,_,none⟩,⟨2,29,ptrH,some 1,_,none⟩] [.alc 0,.alc 1] [] O (oc (zam rfl rfl rfl (gq 0 rfl)) (oc (zas rfl rfl rfl (Str.zero zgy)) o0)) (zz [] [⟨1,29,ptrH,_⟩,⟨2,29,ptrH,_⟩] fun a w O=>?_)
 refine zt<|go_drawV' [[],[0],[0,1],[],[3],[0,1,2,3,4],[0,1,2,3,4,5],[0,1,2,3,4,5,6]] (sts:=[none,some (7,fun ν=>_)]) (news:=[]) (sp:=[(fun ν=>.adr 3 1 (.some 0) True),(fun ν=>.v 4 _),(fun ν=>.v 5 (PinA (ν 2) ((TFD x.y).and (SepAll [] (ν 2)))).va),(fun ν=>.adr 6 1 (.some 4) True),(fun ν=>.v 7 _),(fun ν=>.v 8 (PinA (ν 5) ((TFD x.u).and (SepAll [ν 2] (ν 5)))).va),(fun ν=>.v 9 _),(fun ν=>.sto 1)]) [] za6 O ⟨of_u fun ν=>ob_a rfl rfl (za9 (lz0 0 rfl) zci),⟨of_u fun ν=>ob_v rfl rfl (za4 0 rfl zk trivial (lz0 0 rfl) (Sub.part 0 rfl rfl) zar),⟨zdy (us:=fun ν=>[]) (xs:=[.tmp 4]) rfl rfl (zf6 _ hx.1) zin zjn (.cons (zgr _).va .nil) (fun ν=>(.cons (vq 1 rfl) .nil)) (fun _ _=>rfl) (fun ν=>zcx),⟨of_u fun ν=>ob_a rfl rfl (za9 (lz0 0 rfl) zch),⟨of_u fun ν=>ob_v rfl rfl (za4 3 rfl zk trivial (lz0 0 rfl) (Sub.part 1 rfl rfl) zar),⟨zdy (us:=fun ν=>[ν 2]) (xs:=[.tmp 7]) rfl rfl (zf6 _ hx.2) zin zjn (.cons (zgr _).va .nil) (fun ν=>(.cons (vq 4 rfl) .nil)) (fun _ _=>rfl) (fun ν=>(zex (zfh zin) (vq 2 rfl) zcx)),⟨of_u fun ν=>ob_v rfl rfl (zbg (xs:=[(0,.tmp 5),(1,.tmp 8)]) (qs:=[(0,_),(1,_)]) zgy (.cons ⟨rfl,(vq 2 rfl),rfl⟩ (.cons ⟨rfl,(vq 5 rfl),rfl⟩ .nil))),⟨of_u fun ν=>zak rfl rfl rfl (vq 6 rfl) zdg (Eq.trans (b:=8) rfl rfl),trivial⟩⟩⟩⟩⟩⟩⟩⟩ ⟨(fun ν ν' h=>rfl),⟨(fun ν ν' h=>rfl),⟨(fun ν ν' h=>by first | rfl | simp only [h 2 rfl]),⟨(fun ν ν' h=>rfl),⟨(fun ν ν' h=>rfl),⟨(fun ν ν' h=>by first | rfl | simp only [h 2 rfl,h 5 rfl]),⟨(fun ν ν' h=>by first | rfl | simp only [h 2 rfl,h 5 rfl]),⟨(fun ν ν' h=>by first | rfl | simp only [h 2 rfl,h 5 rfl]),trivial⟩⟩⟩⟩⟩⟩⟩⟩ ⟨trivial,⟨(fun ν ν' h=>by first | rfl | simp only [h 2 rfl,h 5 rfl]),trivial⟩⟩ zk zk (fun ν=>by kernel_rfl) (fun ν=>by kernel_rfl) (fun ν1 a w O=>?_)
 have O:=zn [] [⟨1,29,ptrH,_⟩,⟨2,29,ptrH,_⟩] O
 refine za0<|wp_ret<|zai ?_ (zaj rfl O (zm 1 rfl) zdg)
 exact tr_pins.va
end Go.Proofs.YthdbhckhignfcaaGreatDoor
