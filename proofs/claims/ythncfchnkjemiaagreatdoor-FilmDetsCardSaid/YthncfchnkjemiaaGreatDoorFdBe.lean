import Derived.Test.YthncfchnkjemiaaGreatDoorFdAa
import Derived.Test.YthncfchnkjemiaaGreatDoorFdAc
import Derived.Test.YthncfchnkjemiaaGreatDoorFdBd
import Derived.ProofKit
import Derived.OpenShut
import Derived.ChangeOld
import Derived.Below
import Derived.Deep.Slices
import Derived.SizedLaws
set_option linter.unusedVariables false
set_option linter.unusedSimpArgs false
set_option linter.unusedSectionVars false
set_option maxRecDepth 100000
namespace Go.Proofs.YthncfchnkjemiaaGreatDoor
open Go Go.RowKit
open Go.ChangeShapes Go.WideShapes Go.ChangeAt
def wdI (x:RI):Prop:=x.mag.length≤140737488355328
def wdF (x:RF):Prop:=wdI x.num∧wdI x.den
abbrev Wt {H:Type} (P:Program) (t:TypeId) (d:DataW H):Prop:=∀ n∈d.weights P t,n≤reachBytes
section
variable {H:Type} {enc:TypeId × Value→H} {w:World} {base:Nat} {spare:Nat→Bool} {held:Bool} {fuel:Nat} {cs:List Value} {x:DataW H × List MemPlace}
theorem rb_mg (h:DataW.trod enc Tryz.prog w base spare held fuel 22 cs=some x) (hw:Wt Tryz.prog 22 x.1):∃ l,(MgA l).p w.heap.size cs w∧l.length≤140737488355328:=by
 obtain ⟨l,hl⟩:=rd_mg h
 refine ⟨l,hl,?_⟩
 rcases open_ints Tryz.underlying22 Tryz.underlying168 zk h with ⟨hcs,_⟩ | ⟨a,len,cap,zs,rfl,_,h1,hm,hz,hx,hcell,hwz⟩
 ·subst hcs
  obtain ⟨_,_,A,c,ds,e,_⟩:=hl
  rw [List.length_map] at e
  simp only [List.cons.injEq,Value.slice.injEq,and_true] at e
  omega
 ·obtain ⟨_,_,A,c,ds,e,_⟩:=hl
  rw [List.length_map] at e
  simp only [List.cons.injEq,Value.slice.injEq,and_true] at e
  have h4:Tryz.prog.bytesOf 168=4:=by kernel_rfl
  have:=hw (((lits .u32 (zs.take len):List (DataW H)).length+(lits .u32 (zs.drop len):List (DataW H)).length)*Tryz.prog.bytesOf 168) (by rw [hx]; simp [DataW.weights,Tryz.underlying22,lits])
  rw [h4] at this
  simp only [lits,List.length_map,List.length_take,List.length_drop] at this
  have hlen:len≤zs.length:=by rw [hz]; split <;> omega
  unfold reachBytes at this
  omega
theorem zek {P:Program} {t:TypeId} {fs:Array Field} (ht:P.underlying t=some (.struct fs)) (h:DataW.trod enc P w base spare held fuel t cs=some x) (hw:Wt P t x.1) (j:Nat) {f:Field} (hf:fs[j]?=some f) :
  ∃ n y,DataW.trod enc P w base spare held n f.type ((cs.drop f.offset).take (P.cellsOf f.type))=some y∧Wt P f.type y.1:=by
 obtain ⟨xs,n,_,hx,_,hlen,hel⟩:=DataW.trod_struct ht h
 have hj:j<fs.size:=(Array.getElem?_eq_some_iff.1 hf).1
 have h1:=hel j f hf
 rw [List.getElem?_eq_getElem zo] at h1
 refine ⟨n,_,h1,fun k hk=>hw k ?_⟩
 rw [hx]
 simp only [DataW.weights,ht]
 exact DataW.weights_mem_each (j:=j) (by rw [List.getElem?_map]; show (fs.toList[j]?).map _=_; rw [Array.getElem?_toList,hf]; rfl) (by rw [List.getElem?_map,List.getElem?_eq_getElem zo]; rfl) k hk
theorem rb_ri (h:DataW.trod enc Tryz.prog w base spare held fuel 24 cs=some x) (hw:Wt Tryz.prog 24 x.1):∃ y,(RIA y).p w.heap.size cs w∧wdI y:=by
 have hl:cs.length=2:=by
  obtain ⟨_,_,_,_,hl,_,_⟩:=DataW.trod_struct Tryz.underlying24 h
  exact hl.trans zk
 obtain ⟨n0,y0,h0,w0⟩:=zek Tryz.underlying24 h hw 0 rfl
 have c0:Tryz.prog.cellsOf 4=1:=by kernel_rfl
 have h0:DataW.trod enc Tryz.prog w base spare held n0 4 ((cs.drop 0).take (Tryz.prog.cellsOf 4))=some y0:=h0
 rw [c0] at h0
 obtain ⟨a0,q0⟩:=rd_bo h0
 obtain ⟨n1,y1,h1,w1⟩:=zek Tryz.underlying24 h hw 1 rfl
 have c1:Tryz.prog.cellsOf 22=1:=by kernel_rfl
 have h1:DataW.trod enc Tryz.prog w base spare held n1 22 ((cs.drop 1).take (Tryz.prog.cellsOf 22))=some y1:=h1
 rw [c1] at h1
 obtain ⟨a1,q1,b1⟩:=rb_mg h1 w1
 exact ⟨⟨a0,a1⟩,cat_two q0 q1 hl,b1⟩
theorem rb_rf (h:DataW.trod enc Tryz.prog w base spare held fuel 26 cs=some x) (hw:Wt Tryz.prog 26 x.1):∃ y,(RFA y).p w.heap.size cs w∧wdF y:=by
 have hl:cs.length=4:=by
  obtain ⟨_,_,_,_,hl,_,_⟩:=DataW.trod_struct Tryz.underlying26 h
  exact hl.trans zk
 obtain ⟨n0,y0,h0,w0⟩:=zek Tryz.underlying26 h hw 0 rfl
 have c0:Tryz.prog.cellsOf 24=2:=by kernel_rfl
 have h0:DataW.trod enc Tryz.prog w base spare held n0 24 ((cs.drop 0).take (Tryz.prog.cellsOf 24))=some y0:=h0
 rw [c0] at h0
 obtain ⟨a0,q0,b0⟩:=rb_ri h0 w0
 obtain ⟨n1,y1,h1,w1⟩:=zek Tryz.underlying26 h hw 1 rfl
 have c1:Tryz.prog.cellsOf 24=2:=by kernel_rfl
 have h1:DataW.trod enc Tryz.prog w base spare held n1 24 ((cs.drop 2).take (Tryz.prog.cellsOf 24))=some y1:=h1
 rw [c1] at h1
 obtain ⟨a1,q1,b1⟩:=rb_ri h1 w1
 exact ⟨⟨a0,a1⟩,cat_two q0 q1 hl,⟨b0,b1⟩⟩
def wdG (x:RG):Prop:=wdF x.re∧wdF x.im
theorem rb_rg (h:DataW.trod enc Tryz.prog w base spare held fuel 73 cs=some x) (hw:Wt Tryz.prog 73 x.1):∃ y,(RGA y).p w.heap.size cs w∧wdG y:=by
 have hl:cs.length=8:=by
  obtain ⟨_,_,_,_,hl,_,_⟩:=DataW.trod_struct Tryz.underlying73 h
  exact hl.trans zk
 obtain ⟨n0,y0,h0,w0⟩:=zek Tryz.underlying73 h hw 0 rfl
 have c0:Tryz.prog.cellsOf 26=4:=by kernel_rfl
 have h0:DataW.trod enc Tryz.prog w base spare held n0 26 ((cs.drop 0).take (Tryz.prog.cellsOf 26))=some y0:=h0
 rw [c0] at h0
 obtain ⟨a0,q0,b0⟩:=rb_rf h0 w0
 obtain ⟨n1,y1,h1,w1⟩:=zek Tryz.underlying73 h hw 1 rfl
 have c1:Tryz.prog.cellsOf 26=4:=by kernel_rfl
 have h1:DataW.trod enc Tryz.prog w base spare held n1 26 ((cs.drop 4).take (Tryz.prog.cellsOf 26))=some y1:=h1
 rw [c1] at h1
 obtain ⟨a1,q1,b1⟩:=rb_rf h1 w1
 exact ⟨⟨a0,a1⟩,cat_two q0 q1 hl,⟨b0,b1⟩⟩
theorem arg_ofB {P:Program} {α:Type} {A:α→As} {bd:α→Prop} {t:TypeId} {fs:Array Field} {r:Reach} {b0:Nat} {v:Value} {d:DataW H} {p:List MemPlace} (hag:∀ y,(A y).ag=true) (ht:P.underlying t=some (.struct fs))
  (rd:∀ {fuel:Nat} {cs:List Value} {x:DataW H × List MemPlace},DataW.trod enc P w base spare held fuel t cs=some x→Wt P t x.1→∃ y,(A y).p w.heap.size cs w∧bd y)
  (hv:Value.okWide P w r b0 t v) (h:DataW.Trod enc P w base spare held t v d p) (hw:Wt P t d):∃ y,(A y).va.p w.heap.size v w∧bd y:=by
 obtain ⟨cs,hcs,_⟩:=okWide_struct ht hv
 subst hcs
 obtain ⟨fuel,hf⟩:=h
 obtain ⟨y,hy,hb⟩:=rd hf hw
 refine ⟨y,⟨cs.toList,hy,?_⟩,hb⟩
 unfold shape
 rw [hag y,if_pos rfl]
theorem wt_of {P:Program} {ts:List TypeId} {ds:List (DataW H)} (h:(DataW.weightsEach P ts ds).all (· ≤ reachBytes)=true) (j:Nat) {t:TypeId} {d:DataW H} (ht:ts[j]?=some t) (hd:ds[j]?=some d):Wt P t d:=fun n hn=>by
 have:=List.all_eq_true.1 h n (DataW.weights_mem_each ht hd n hn)
 simpa using this
end
theorem frac_cost {x:RF} (h:wdF x):∃ c:Nat,fracCostF x=(c:Int)∧x.num.mag.length+x.den.mag.length+2≤c∧c≤4503599627370496:=by
 obtain ⟨h1,h2⟩:=h
 unfold wdI at h1 h2
 have e1:intSizeF x.num=((1+x.num.mag.length:Nat):Int):=by unfold intSizeF; rw [wi64 zo zo]; omega
 have e2:intSizeF x.den=((1+x.den.mag.length:Nat):Int):=by unfold intSizeF; rw [wi64 zo zo]; omega
 have e3:fracSizeF x=((2+x.num.mag.length+x.den.mag.length:Nat):Int):=by unfold fracSizeF; rw [e1,e2,wi64 zo zo]; omega
 obtain ⟨u,hu⟩:∃ u:Nat,u=min x.num.mag.length 1048576:=⟨_,rfl⟩
 obtain ⟨v,hv⟩:∃ v:Nat,v=min x.den.mag.length 1048576:=⟨_,rfl⟩
 have hu':min (x.num.mag.length:Int) 1048576=(u:Int):=by omega
 have hv':min (x.den.mag.length:Int) 1048576=(v:Int):=by omega
 have huv:u*v≤1048576*1048576:=Nat.mul_le_mul zo zo
 have h16:u*v / 16≤68719476736:=Nat.le_trans (Nat.div_le_div_right huv) zd
 have e4:lowCostF x.num x.den=((u*v / 16*1024:Nat):Int):=by
  unfold lowCostF
  have t1:IntKind.i64.wrap (((u*v:Nat):Int))=((u*v:Nat):Int):=wi64 zo zo
  have t2:(((u*v:Nat):Int)).tdiv 16=((u*v / 16:Nat):Int):=by rw [show (16:Int)=((16:Nat):Int) from rfl,Int.tdiv_eq_ediv_of_nonneg zo,← Int.natCast_ediv]
  have t3:IntKind.i64.wrap (((u*v / 16:Nat):Int))=((u*v / 16:Nat):Int):=wi64 zo zo
  rw [hu',hv',← Int.natCast_mul,t1,t2,t3,wi64 zo zo]
  omega
 refine ⟨2+x.num.mag.length+x.den.mag.length+u*v / 16*1024,?_,by omega,by omega⟩
 unfold fracCostF
 rw [e3,e4,wi64 zo zo]
 omega
theorem byd_sum {n:Nat} {l:List Nat} (hn:n+l.sum≤9223372036854775807) (h:bydF (n:Int) (l.map fun (x:Nat)=>(x:Int))=false):n≤1048576∨l=[]→n+l.sum≤1048576∨l=[]:=by
 induction l generalizing n with
 | nil=>exact fun _=>.inr rfl
 | cons x l ih =>
  intro _
  simp only [List.sum_cons] at hn
  simp only [List.map_cons,bydF] at h
  rw [wi64 zo zo] at h
  split at h
  ·cases h
  ·rename_i h1
   have h2:n+x≤1048576:=by
    rw [decide_eq_true_eq] at h1
    omega
   rw [show ((n:Int)+(x:Int))=((n+x:Nat):Int) from rfl] at h
   rcases ih (n:=n+x) zo h (.inl h2) with h3 | h3
   ·left; simp only [List.sum_cons]; omega
   ·subst h3; left; simp; omega
theorem byd_0 {l:List Nat} (hn:l.sum≤9223372036854775807) (h:bydF 0 (l.map fun (x:Nat)=>(x:Int))=false):l.sum≤1048576:=by
 rcases byd_sum (n:=0) zo h (.inl zd) with h | h
 ·omega
 ·subst h; decide
theorem zg0 {x:RG} (h:wdG x):∃ a b:Nat,gaussCostF x=((a+b:Nat):Int)∧(x.re.num.mag.length+x.re.den.mag.length≤a∧x.im.num.mag.length+x.im.den.mag.length≤b)∧a+b≤9007199254740992:=by
 obtain ⟨h1,h2⟩:=h
 obtain ⟨a,ea,la,ma⟩:=frac_cost h1
 obtain ⟨b,eb,lb,mb⟩:=frac_cost h2
 refine ⟨a,b,?_,⟨by omega,by omega⟩,by omega⟩
 unfold gaussCostF
 rw [ea,eb,wi64 zo zo]
 omega
end Go.Proofs.YthncfchnkjemiaaGreatDoor
