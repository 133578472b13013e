import Derived.Test.YtagabklfjmchaaaGreatTpAa
import Derived.Test.YtagabklfjmchaaaGreatTpAc
import Derived.Test.YtagabklfjmchaaaGreatTpAl
import Derived.ProofKit
import Derived.OpenShut
import Derived.ChangeOld
import Derived.Below
import Derived.WalkKit
import Derived.Laws.AppendOwn
import Derived.Orders
import Derived.Laws.OwnMore
set_option linter.unusedVariables false
set_option linter.unusedSimpArgs false
set_option linter.unusedSectionVars false
set_option maxRecDepth 100000
namespace Go.Proofs.YtagabklfjmchaaaGreat
open Go Go.RowKit
open Go.ChangeShapes Go.WideShapes Go.ChangeAt
theorem cat_of {B:Nat}{w:World}:∀ {l:List As} {cs:List Value},cs.length=(l.map (·.n)).sum→(∀ (k:Nat) (A:As),l[k]?=some A→A.p B ((cs.drop (offs l k)).take A.n) w)→(cat l).p B cs w
 | [],cs,hl,_=>by
  have:cs=[]:=List.length_eq_zero_iff.1 (by simpa using hl)
  subst this
  exact ⟨[],rfl,.nil⟩
 | A::l,cs,hl,h=>by
  simp only [List.map_cons,List.sum_cons] at hl
  have h0:=h 0 A rfl
  simp only [offs,List.take_zero,List.map_nil,List.sum_nil,List.drop_zero] at h0
  obtain ⟨ps,e,hps⟩:=cat_of (l:=l) (cs:=cs.drop A.n) (B:=B) (w:=w) (by simp; omega) fun k A' hk=>by
   have:=h (k+1) A' (by simpa using hk)
   simp only [offs,List.take_succ_cons,List.map_cons,List.sum_cons] at this
   rw [List.drop_drop]
   exact this
  exact ⟨cs.take A.n::ps,by rw [List.flatten_cons,← e,List.take_append_drop],.cons h0 hps⟩
section
variable {H:Type} {enc:TypeId × Value→H} {w:World} {base:Nat} {spare:Nat→Bool} {held:Bool} {fuel:Nat} {cs:List Value} {x:DataW H × List MemPlace}
theorem rd_mg (h:DataW.trod enc Tryz.prog w base spare held fuel 23 cs=some x):∃ l,(MgA l).p w.heap.size cs w:=by
 rcases open_ints Tryz.underlying23 Tryz.underlying120 zk h with ⟨hcs,_⟩ | ⟨a,len,cap,zs,rfl,_,hl,hm,hz,_,hcell,hwz⟩
 ·subst hcs
  exact ⟨[],zgp _ _⟩
 ·have hzl:len≤zs.length:=by rw [hz]; split <;> omega
  have hnn:∀ n∈zs,0≤n∧n<4294967296:=fun n hn=>by
   have:=hwz n hn
   simp [Lit.wf,IntKind.min,IntKind.max,IntKind.signed,IntKind.bits] at this
   omega
  have hlen:((zs.take len).map Int.toNat).length=len:=by simp; omega
  refine ⟨(zs.take len).map Int.toNat,?_⟩
  have hM:Mag w.heap.size w (some a) cap ((zs.take len).map Int.toNat):=by
   refine ⟨fun y hy=>?_,by omega,hm,fun hn=>?_⟩
   ·obtain ⟨n,hn,rfl⟩:=List.mem_map.1 hy
    have:=hnn n (List.mem_of_mem_take hn)
    omega
   ·obtain ⟨b,off,rfl,hc⟩:=ints_at hcell zo
    have hb:b<w.heap.size:=World.block_lt_of_cell? w _ (hc 0 zo)
    refine ⟨b,off,rfl,hb,.inl hb,fun j hj=>?_⟩
    rw [hc j zo]
    have hjz:j<zs.length:=by omega
    have:=hnn _ (List.getElem_mem hjz)
    congr 2
    simp only [List.getElem_map,List.getElem_take]
    rw [Int.toNat_of_nonneg this.1]
    simp [List.getD_eq_getElem?_getD,List.getElem?_eq_getElem hjz]
  obtain ⟨ds,hp,hv⟩:=zgn hM hlen.symm
  have hd:=(MgA ((zs.take len).map Int.toNat)).len _ _ _ hp
  match ds,hd with
  | [d],_ =>
   have:d=.slice (some a) len cap:=hv.symm
   subst this
   exact hp
theorem zk2 {B:Nat}{A0 A1:As}(h0:A0.p B ((cs.drop 0).take A0.n) w)(h1:A1.p B ((cs.drop A0.n).take A1.n) w)(hl:cs.length=A0.n+A1.n):(cat [A0,A1]).p B cs w :=
 cat_of (by simpa using hl) fun k A hk=>by
  match k,hk with
  | 0,hk=>simp at hk; subst hk; exact h0
  | 1,hk=>simp at hk; subst hk; simpa [offs] using h1
theorem rd_bo (h:DataW.trod enc Tryz.prog w base spare held fuel 4 cs=some x):∃ b,(BoA b).p w.heap.size cs w:=by
 obtain ⟨b,hb,_⟩:=DataW.trod_bool Tryz.underlying4 h
 exact ⟨b,hb⟩
theorem rd_ri (h:DataW.trod enc Tryz.prog w base spare held fuel 25 cs=some x):∃ y,(RIA y).p w.heap.size cs w:=by
 obtain ⟨y0,y1,n,_,hl,h0,h1⟩:=trod_struct2 Tryz.underlying25 h
 have hl':cs.length=2:=hl.trans zk
 have c0:Tryz.prog.cellsOf 4=1:=by kernel_rfl
 have c1:Tryz.prog.cellsOf 23=1:=by kernel_rfl
 simp only [c0,c1] at h0 h1
 obtain ⟨a,ha⟩:=rd_bo h0
 obtain ⟨b,hb⟩:=rd_mg h1
 exact ⟨⟨a,b⟩,zk2 ha hb hl'⟩
theorem rd_rf (h:DataW.trod enc Tryz.prog w base spare held fuel 27 cs=some x):∃ y,(RFA y).p w.heap.size cs w:=by
 obtain ⟨y0,y1,n,_,hl,h0,h1⟩:=trod_struct2 Tryz.underlying27 h
 have hl':cs.length=4:=hl.trans zk
 have c0:Tryz.prog.cellsOf 25=2:=by kernel_rfl
 simp only [c0] at h0 h1
 obtain ⟨a,ha⟩:=rd_ri h0
 obtain ⟨b,hb⟩:=rd_ri h1
 exact ⟨⟨a,b⟩,zk2 ha hb hl'⟩
theorem rd_rr (h:DataW.trod enc Tryz.prog w base spare held fuel 29 cs=some x):∃ y,(RRA y).p w.heap.size cs w:=by
 obtain ⟨y0,y1,n,_,hl,h0,h1⟩:=trod_struct2 Tryz.underlying29 h
 have hl':cs.length=8:=hl.trans zk
 have c0:Tryz.prog.cellsOf 27=4:=by kernel_rfl
 simp only [c0] at h0 h1
 obtain ⟨a,ha⟩:=rd_rf h0
 obtain ⟨b,hb⟩:=rd_rf h1
 exact ⟨⟨a,b⟩,zk2 ha hb hl'⟩
theorem arg_of {P:Program}{α:Type}{A:α→As}{t:TypeId}{fs:Array Field}{r:Reach}{b0:Nat}{v:Value}{d:DataW H}{p:List MemPlace}(hag:∀ y,(A y).ag=true)(ht:P.underlying t=some (.struct fs))
  (rd:∀ {fuel:Nat} {cs:List Value} {x:DataW H × List MemPlace},DataW.trod enc P w base spare held fuel t cs=some x→∃ y,(A y).p w.heap.size cs w)
  (hv:Value.okWide P w r b0 t v) (h:DataW.Trod enc P w base spare held t v d p):∃ y,(A y).va.p w.heap.size v w:=by
 obtain ⟨cs,hcs,_⟩:=okWide_struct ht hv
 subst hcs
 obtain ⟨fuel,hf⟩:=h
 obtain ⟨y,hy⟩:=rd hf
 refine ⟨y,cs.toList,hy,?_⟩
 unfold shape
 rw [hag y,if_pos rfl]
end
end Go.Proofs.YtagabklfjmchaaaGreat
namespace Go.Proofs.YtagabklfjmchaaaGreat
open Go Go.RowKit
end Go.Proofs.YtagabklfjmchaaaGreat
namespace Go.Proofs.YtagabklfjmchaaaGreat
open Go Go.RowKit
theorem div_pos {x y:Rat}(h:0<x)(h':0<y):0<x/y:=Rat.mul_pos h (Rat.inv_pos.2 h')
theorem toM_of (m:MQ):toM (rmOf m)=m:=by show (⟨toQ (rfOf m.a),toQ (rfOf m.b),toQ (rfOf m.c),toQ (rfOf m.d)⟩:MQ)=m; rw [zil,zil,zil,zil]
theorem okM_of {m:MQ}(ha:longQ m.a=false)(hb:longQ m.b=false)(hc:longQ m.c=false)(hd:longQ m.d=false)(h:detM m=1):okM (rmOf m)=true:=by
 unfold okM
 rw [toM_of,decide_eq_true h]
 show ([rfOf m.a,rfOf m.b,rfOf m.c,rfOf m.d].all okX&&true)=true
 simp [okX_of,ha,hb,hc,hd]
end Go.Proofs.YtagabklfjmchaaaGreat
namespace Go.Proofs.YtagabklfjmchaaaGreat
open Go Go.RowKit
section
variable {P:Program} {R:Rg} {Q:Exit→Act→World→Prop} {B i:Nat} {w0:Bs}
theorem zkn {g:Nat}:offP (ptrH.f g) (.some 0)=ptrH.f g:=by simp [ptrH,ptr,offP,add0]
theorem zh1 {b T':Nat}{A:As}(hl:Loc R i b T' A):Ad P Q R B w0 i (.move (.tmp b)) b (.some 0):=by
 intro d ty ps af gd a w av K hK
 obtain ⟨g,cs,h1,_⟩:=hl.ok av
 rw [h1,zkn] at hK
 exact zbn (w':=w) (v:=a.eval (.tmp b)) rfl (by rw [h1]; exact hK)
theorem zh0 {b t T':Nat}{A:As}(j:Nat)(hj:R.sp[j]?=some (.adr t b (.some 0) True))(hji:(R.anc i).contains j=true)(hl:Loc R i b T' A):Ad P Q R B w0 i (.nilCheck (.tmp t)) b (.some 0):=by
 intro d ty ps af gd a w av K hK
 obtain ⟨g,cs,h1,_⟩:=hl.ok av
 have h2:=av.d j t b (.some 0) True hji hj trivial
 rw [h1,zkn] at h2 hK
 have h2':a.eval (.tmp t)=.pointer (some ⟨g,0,none⟩):=h2
 exact zbn (w':=w) (v:=.pointer (some ⟨g,0,none⟩)) (by simp [execOp,h2']) hK
theorem ze7 {fn:Func}{RQ':Ending→World→Prop}{a:Act}{w:World}(h:bPost P fn RQ' .ret a w):bPost P fn RQ' .normal a w:=h
theorem r_arrp {x:Operand}{S E E':TypeId}{D:List TypeId}{l:List As}{n:Nat}(hS:P.underlying S=some (.array n E'))(hx:Has R B w0 i x (SlA E D l).va)(hn:l.length=n)(h0:0<l.length):Wv P Q R B w0 i (.sliceToArrayPointer S x) (ElP E (cat l)) :=
 zbe fun d T ps af gd a w av=>by
  subst hn
  obtain ⟨cs,⟨_,Ad,c,ds,rfl,h1,h2,h3,h4⟩,hv⟩:=hx a w av
  obtain ⟨b,o,rfl,h6,h7,h8⟩:=h4 h0
  have hv':a.eval x=.slice (some ⟨b,o,none⟩) l.length c:=hv
  refine ⟨.pointer (some ⟨b,o,none⟩),w,?_,Grow.refl w,b,o,ds,rfl,h6,h7,h3,h8⟩
  simp [execOp,hv',Instr.arrayAt,run_underlying hS]
theorem zfc {b k m:Nat}{T E:TypeId}{l:List As}{y:Operand}{A:As}{kd:IntKind}(hl:Loc R i b T (cat l))(hS:P.underlying T=some (.array l.length E))(hsz:(P.info? E).map (·.size)=some m)(hm:∀ A∈l,A.n=m)(hy:Has R B w0 i y (NumA kd k).va)(hk:l[k]?=some A) :
  Wv P Q R B w0 i (.indexAddr T (.tmp b) y) (ElP T A) :=
 zbe fun d T' ps af gd a w av=>by
  obtain ⟨g,cs,h1,hmay,h3,h4⟩:=hl.ok av
  have h1':a.eval (.tmp b)=.pointer (some ⟨g,0,none⟩):=h1
  have hlt:k<l.length:=(List.getElem?_eq_some_iff.1 hk).1
  obtain ⟨p1,l1⟩:=zge h4 hk
  have ho:=zhx hm (k:=k) zo
  unfold offs at ho
  rw [ho] at p1 l1
  refine ⟨.pointer (some ⟨g,k*m,none⟩),w,?_,Grow.refl w,g,k*m,_,rfl,(Array.getElem?_eq_some_iff.1 h3).1,.inr ⟨_,_,h3⟩,p1,fun j u hu=>?_⟩
  ·cases hi:P.info? E with
   | none=>rw [hi] at hsz; simp at hsz
   | some it =>
    rw [hi] at hsz
    have hs2:it.size=m:=by simpa using hsz
    have e:=zbl (hy a w av)
    simp [execOp,h1',e,Instr.indexAt,asIntOf,run_underlying hS,sizeOf,typeInfo,hi,hs2,add_k,hlt,Instr.sureAddr]
  ·rw [List.getElem?_take] at hu
   split at hu
   ·rw [List.getElem?_drop] at hu
    rw [cell_of_row w g (k*m+j) cs.toArray T _ h3]
    simpa using hu
   ·cases hu
theorem zhg {f g:Nat→Option (Nat × Nat)}:∀ (ps:List (Nat × Value)) (cells:Array Value),(∀ p∈ps,f p.1=g p.1)→Instr.fill f cells ps=Instr.fill g cells ps
 | [],_,_=>rfl
 | (k,v)::ps,cells,h=>by
  have h1:=h (k,v) (by simp)
  have h2:=fun c=>zhg ps c fun p hp=>h p (by simp [hp])
  simp only [Instr.fill]
  simp only at h1
  rw [h1]
  cases g k with
  | none=>rfl
  | some x=>simp only [h2]
def Arr (P:Program)(T:TypeId)(Z:List As):Prop :=
 ∃ it z n E ie,P.info? T=some it∧it.zero=some z∧P.underlying T=some (.array n E)∧P.info? E=some ie∧(∀ f,f<Z.length→some (f*ie.size,ie.size)=(placesOf Z)[f]?)∧∀ B w,(cat Z).p B z.cells.toList w
theorem Arr.zero {T:TypeId}{Z:List As}(h:Arr P T Z):Zero P T (cat Z):=by
 obtain ⟨it,z,_,_,_,h1,h2,_,_,_,h3⟩:=h
 exact ⟨it,z,h1,h2,h3⟩
theorem all2_right {α β:Type}{R':α→β→Prop}{qs:List α}{ps:List β}(h:All2 R' qs ps){p:β}(hp:p∈ps):∃ q,R' q p:=by
 induction h with
 | nil=>cases hp
 | cons hh _ ih =>
  rcases List.mem_cons.1 hp with rfl | hp'
  ·exact ⟨_,hh⟩
  ·exact ih hp'
theorem zek {T:TypeId}{Z:List As}{xs:List (Nat × Operand)}{qs:List (Nat × As)}(hT:Arr P T Z)(hx:All2 (fun (q:Nat × As) (x:Nat × Operand)=>x.1=q.1∧Has R B w0 i x.2 q.2.va∧(Z[q.1]?).map (·.n)=some q.2.n) qs xs) :
  Wv P Q R B w0 i (.build T xs.toArray) (cat (setAll Z qs)).va :=
 zbe fun d T' ps af gd a w av=>by
  obtain ⟨it,z,n,E,ie,h1,h2,h3,h4,h6,h5⟩:=hT
  have hps:All2 (fun (q:Nat × As) (p:Nat × Value)=>p.1=q.1∧q.2.va.p B p.2 w∧(Z[q.1]?).map (·.n)=some q.2.n) qs (xs.map fun x=>(x.1,a.eval x.2)):=by
   induction hx with
   | nil=>exact .nil
   | cons h _ ih=>exact .cons ⟨h.1,h.2.1 a w av,h.2.2⟩ ih
  obtain ⟨cells',e1,e2⟩:=zi7 (places:=placesOf Z) rfl (xs.map fun x=>(x.1,a.eval x.2)) qs Z z.cells rfl (h5 B w) hps
  refine ⟨.agg cells',w,?_,Grow.refl w,cells'.toList,e2,by simp [shape,cat]⟩
  have hin:∀ p∈(xs.map fun x=>(x.1,a.eval x.2)),some (p.1*ie.size,ie.size)=((placesOf Z).toArray[p.1]?:Option (Nat × Nat)):=by
   intro p hp
   have:p.1<Z.length:=by
    obtain ⟨q,hh⟩:=all2_right hps hp
    rw [hh.1]
    cases hz:Z[q.1]? with
    | none=>rw [hz] at hh; simp at hh
    | some y=>exact (List.getElem?_eq_some_iff.1 hz).1
   simpa using h6 p.1 this
  have hb:P.built T (xs.map fun x=>(x.1,a.eval x.2))=some cells':=by
   unfold Program.built
   simp only [h1,h3,h2,h4]
   rw [← e1]
   exact zhg _ _ hin
  have:=run_build (P:=P) w T ((xs.map fun x=>(x.1,a.eval x.2)).toArray) cells' (by simpa using hb)
  simp [execOp,this]
end
end Go.Proofs.YtagabklfjmchaaaGreat
namespace Go.Proofs.YtagabklfjmchaaaGreat
open Go Go.RowKit
theorem info_frac:∃ ie,Tryz.prog.info? 27=some ie∧ie.size=4:=by
 have h:(Tryz.prog.info? 27).map (·.size)=some 4:=by kernel_rfl
 cases hi:Tryz.prog.info? 27 with
 | none=>rw [hi] at h; simp at h
 | some ie=>rw [hi] at h; exact ⟨ie,rfl,by simpa using h⟩
theorem arr_four:Arr Tryz.prog 83 [RFA rf0,RFA rf0,RFA rf0,RFA rf0]:=by
 have hz:((Tryz.prog.info? 83).bind (·.zero))=some (.agg #[.bool false,.slice none 0 0,.bool false,.slice none 0 0,.bool false,.slice none 0 0,.bool false,.slice none 0 0,.bool false,.slice none 0 0,.bool false,.slice none 0 0,.bool false,.slice none 0 0,.bool false,.slice none 0 0]):=by kernel_rfl
 obtain ⟨it,e1,e2⟩:=Option.bind_eq_some_iff.1 hz
 obtain ⟨ie,h1,h2⟩:=info_frac
 refine ⟨it,_,4,27,ie,e1,e2,Tryz.underlying83,h1,?_,fun B w=>⟨[[.bool false,.slice none 0 0,.bool false,.slice none 0 0],[.bool false,.slice none 0 0,.bool false,.slice none 0 0],[.bool false,.slice none 0 0,.bool false,.slice none 0 0],[.bool false,.slice none 0 0,.bool false,.slice none 0 0]],rfl,(.cons (zew B w) (.cons (zew B w) (.cons (zew B w) (.cons (zew B w) .nil))))⟩⟩
 rw [h2]
 intro f hf
 match f,hf with
 | 0,_=>rfl
 | 1,_=>rfl
 | 2,_=>rfl
 | 3,_=>rfl
def asM (e:Int)(m:MQ):RM × Int:=if e=0 then (if [m.a,m.b,m.c,m.d].any longQ then (rm0,4) else (rmOf m,0)) else (rm0,e)
abbrev MR (r:RM × Int):VA:=Tu [(RMA r.1).va,In r.2]
theorem fourMat_c {k:Nat}(m:MQ):Cn Tryz.prog 47 [(QMA k m).va] ((QMA k m).va):=by
 refine Cn.intro Tryz.func47 rfl zk nq (fun B w0 a hst=>?_)
 have hst:St B w0 12 [(0,(QMA k m).va)] [] a w0.w:=hst
 refine wp_seq ?_
 refine gl (sts:=[]) (news:=[⟨1,83,ptrH,some 0,_,none⟩,⟨2,38,ptrH,some 1,_,none⟩]) (sp:=[.alc 0,.alc 1]) [] hst (oc (zam rfl rfl rfl (gq 0 rfl)) (oc (zao rfl rfl rfl (Str.zero zai)) o0)) (fun a w hst=>?_)
 have hst:St B w0 12 [] [⟨1,83,ptrH,_⟩,⟨2,38,ptrH,_⟩] a w:=hst
 refine zt<|gl (sts:=[none,some (9,_)]) (news:=[]) (sp:=[.val 3 _,.val 4 _,.val 5 _,.val 6 _,.val 7 _,.val 8 _,.val 9 _,.val 10 _,.val 11 _,.sto 1]) [] hst (zv rfl (zfc (m:=4) (lz0 0 rfl) Tryz.underlying83 zk (n_ok zk) (zb0 0 rfl) rfl) (zv rfl (zas (vq 0 rfl) za9) (zv rfl (zfc (m:=4) (lz0 0 rfl) Tryz.underlying83 zk (n_ok zk) (zb0 1 rfl) rfl) (zv rfl (zas (vq 2 rfl) za9) (zv rfl (zfc (m:=4) (lz0 0 rfl) Tryz.underlying83 zk (n_ok zk) (zb0 2 rfl) rfl) (zv rfl (zas (vq 4 rfl) za9) (zv rfl (zfc (m:=4) (lz0 0 rfl) Tryz.underlying83 zk (n_ok zk) (zb0 3 rfl) rfl) (zv rfl (zas (vq 6 rfl) za9) (zv rfl (zbd (xs:=[(0,.tmp 4),(1,.tmp 6),(2,.tmp 8),(3,.tmp 10)]) (qs:=[(0,_),(1,_),(2,_),(3,_)]) zai (.cons ⟨rfl,(vq 1 rfl),rfl⟩ (.cons ⟨rfl,(vq 3 rfl),rfl⟩ (.cons ⟨rfl,(vq 5 rfl),rfl⟩ (.cons ⟨rfl,(vq 7 rfl),rfl⟩ .nil))))) (oc (zad rfl rfl rfl (vq 8 rfl) zat (Eq.trans (b:=16) rfl rfl)) o0)))))))))) (fun a w hst=>?_)
 have hst:St B w0 12 [] [⟨1,83,ptrH,_⟩,⟨2,38,ptrH,_⟩] a w:=hst
 refine za0 ?_
 refine wp_ret ?_
 refine zag ?_ (zau rfl hst (zm 1 rfl) zat)
 exact zb2
theorem one09_q  : Cn Tryz.prog 17 [] ((QMA 2 ⟨1,0,0,1⟩).va):=by
 refine Cn.intro Tryz.func17 rfl zk nq (fun B w0 a hst=>?_)
 have hst:St B w0 7 [] [] a w0.w:=hst
 refine wp_seq ?_
 refine gl (sts:=[]) (news:=[⟨0,38,ptrH,some 0,_,none⟩]) (sp:=[.alc 0]) [] hst (oc (zao rfl rfl rfl (Str.zero zai)) o0) (fun a w hst=>?_)
 have hst:St B w0 7 [] [⟨0,38,ptrH,_⟩] a w:=hst
 refine zt<|gl (sts:=[some (6,_)]) (news:=[]) (sp:=[.val 1 _,.val 2 _,.val 3 _,.val 4 _,.val 5 _,.val 6 _,.sto 0]) [] hst (zv rfl (za5 (xs:=[]) ziz .nil) (zv rfl (za5 (xs:=[]) zel .nil) (zv rfl (za5 (xs:=[]) zel .nil) (zv rfl (za5 (xs:=[]) ziz .nil) (zv rfl (zek (xs:=[(0,.tmp 1),(1,.tmp 2),(2,.tmp 3),(3,.tmp 4)]) (qs:=[(0,_),(1,_),(2,_),(3,_)]) arr_four (.cons ⟨rfl,(vq 0 rfl),rfl⟩ (.cons ⟨rfl,(vq 1 rfl),rfl⟩ (.cons ⟨rfl,(vq 2 rfl),rfl⟩ (.cons ⟨rfl,(vq 3 rfl),rfl⟩ .nil))))) (zv rfl (za5 (xs:=[.tmp 5]) (fourMat_c ⟨_,_,_,_⟩) (.cons (vq 4 rfl) .nil)) (oc (zad rfl rfl rfl (vq 5 rfl) zat (Eq.trans (b:=16) rfl rfl)) o0))))))) (fun a w hst=>?_)
 have hst:St B w0 7 [] [⟨0,38,ptrH,_⟩] a w:=hst
 refine za0 ?_
 refine wp_ret ?_
 refine zag ?_ (zau rfl hst (zm 0 rfl) zat)
 exact zb2
end Go.Proofs.YtagabklfjmchaaaGreat
namespace Go.Proofs.YtagabklfjmchaaaGreat
open Go Go.RowKit
section
variable {P:Program} {R:Rg} {Q:Exit→Act→World→Prop} {B:Nat} {w0:Bs} {a:Act} {w:World}
end
end Go.Proofs.YtagabklfjmchaaaGreat
namespace Go.Proofs.YtagabklfjmchaaaGreat
open Go Go.RowKit
def cutW (w w':World):World:={ w' with heap:=w'.heap.extract 0 w.heap.size }
theorem cut_at {w w':World}(hs:w.heap.size≤w'.heap.size){k:Nat}(hk:k<w.heap.size):(cutW w w').heap[k]?=w'.heap[k]?:=by
 show (w'.heap.extract 0 w.heap.size)[k]?=_
 rw [Array.getElem?_extract]
 simp
 omega
theorem zgd {w w':World}(hs:w.heap.size≤w'.heap.size):(cutW w w').heap.size=w.heap.size:=by
 show (w'.heap.extract 0 w.heap.size).size=_
 simp
 omega
theorem cut_wr {w w':World}{g:Nat}(h:w.grownBy w' (some g)):Wr g w (cutW w w') :=
 ⟨h.os,h.tape,h.output,zgd h.size,fun k hk=>by
  by_cases hlt:k<w.heap.size
  ·rw [cut_at h.size hlt]
   exact h.block k hlt (fun e=>hk (by injection e))
  ·rw [Array.getElem?_eq_none (by rw [zgd h.size]; omega),Array.getElem?_eq_none zo]⟩
theorem cut_grow {w w':World}{row:Option Nat}(h:w.grownBy w' row):Grow (cutW w w') w' :=
 ⟨rfl,rfl,rfl,by rw [zgd h.size]; exact h.size,fun k hk=>by
  rw [zgd h.size] at hk
  rw [cut_at h.size hk]⟩
theorem zj0 {w w':World}(h:w.grownBy w' none):Grow w w':=⟨h.os,h.tape,h.output,h.size,fun k hk=>h.block k hk (by simp)⟩
def RowOk (w:World)(b:Nat)(E:TypeId)(row:Option Nat):Prop:=∀ g,row=some g→b≤g∧∃ c fz,w.heap[g]?=some (.cells c E fz)
theorem DefOk.grown {w0:Bs}{a a':Act}{w w':World}{b:Nat}{E:TypeId}{row:Option Nat}(h:DefOk w0 a w)(hg:w.grownBy w' row)(hr:RowOk w b E row)(e:a'.defers=a.defers):DefOk w0 a' w' :=
 h.keep e fun D hD=>(hg.block D (Array.getElem?_eq_some_iff.1 hD).1 (fun e=>by
  obtain ⟨_,c,fz,hc⟩:=hr D e.symm
  rw [hc] at hD
  cases hD)).trans hD
theorem VA.grown {A:VA}{B b:Nat}{v:Value}{w w':World}{E:TypeId}{row:Option Nat}(hp:A.p B v w)(hg:w.grownBy w' row)(hr:RowOk w b E row)(hb:B≤b)(hE:E ∉ A.deps):A.p B v w':=by
 cases row with
 | none=>exact A.grow _ _ _ _ (zj0 hg) hp
 | some g =>
  obtain ⟨h1,c,fz,h2⟩:=hr g rfl
  exact A.grow _ _ _ _ (cut_grow hg) (A.wr _ _ _ _ _ _ _ _ h2 hE (Nat.le_trans hb h1) (cut_wr hg) hp)
theorem As.grown {A:As}{B b:Nat}{cs:List Value}{w w':World}{E:TypeId}{row:Option Nat}(hp:A.p B cs w)(hg:w.grownBy w' row)(hr:RowOk w b E row)(hb:B≤b)(hE:E ∉ A.deps):A.p B cs w':=by
 cases row with
 | none=>exact A.grow _ _ _ _ (zj0 hg) hp
 | some g =>
  obtain ⟨h1,c,fz,h2⟩:=hr g rfl
  exact A.grow _ _ _ _ (cut_grow hg) (A.wr _ _ _ _ _ _ _ _ h2 hE (Nat.le_trans hb h1) (cut_wr hg) hp)
def OwnR (b:Nat)(E:TypeId)(m:Nat)(D:List TypeId)(l:List As):VA where
 p B v w:=(∀ A∈l,A.n=m)∧(∀ A∈l,∀ T∈A.deps,T∈D)∧∃ ds,(cat l).p B ds w∧w.ownsRow b E m v l.length ds
 deps:=E::D
 cg:=by
  rintro B v w w' hg ⟨h1,h2,ds,h3,h4,h5⟩
  refine ⟨h1,h2,ds,(cat l).cg _ _ _ _ hg h3,h4,?_⟩
  rcases h5 with h5 | ⟨g,cap,cur,e1,e2,e3,e4⟩
  ·exact .inl h5
  ·exact .inr ⟨g,cap,cur,e1,e2,hg.heap e3,e4⟩
 wr:=by
  rintro B v w w' g c T fz hgc hT hB hW ⟨h1,h2,ds,h3,h4,h5⟩
  simp only [List.mem_cons,not_or] at hT
  refine ⟨h1,h2,ds,(cat l).wr _ _ _ _ _ _ _ _ hgc (zgx h2 hT.2) hB hW h3,h4,?_⟩
  rcases h5 with h5 | ⟨g0,cap,cur,e1,e2,e3,e4⟩
  ·exact .inl h5
  ·refine .inr ⟨g0,cap,cur,e1,e2,?_,e4⟩
   have hne:g0≠g:=by
    rintro rfl
    rw [hgc] at e3
    injection e3 with e3
    injection e3 with _ e3 _
    exact hT.1 e3
   rw [hW.block g0 hne]
   exact e3
theorem own_nil {b:Nat}{E:TypeId}{m:Nat}{D:List TypeId}:Wk (EqV (.slice none 0 0)) (OwnR b E m D []):=fun _ v w h=>by
 have e:v=.slice none 0 0:=h
 subst e
 exact ⟨(fun A hA=>by cases hA),(fun A hA=>by cases hA),[],⟨[],rfl,.nil⟩,World.ownsRow_nil w b E m⟩
theorem own_sl {b:Nat}{E:TypeId}{m:Nat}{D:List TypeId}{l:List As}:Wk (OwnR b E m D l) (SlA E D l).va:=fun B v w ⟨_,h2,ds,h3,h4,h5⟩=>by
 rcases h5 with ⟨rfl,h5⟩ | ⟨g,cap,cur,rfl,e2,e3,e4,e5,e6,e7⟩
 ·refine ⟨[.slice none 0 0],⟨h2,none,0,ds,by rw [h5],by omega,Nat.zero_le _,h3,fun h=>by omega⟩,rfl⟩
 ·refine ⟨[.slice (some ⟨g,0,none⟩) l.length cap],⟨h2,_,cap,ds,rfl,e4,e5,h3,fun _=>⟨g,0,rfl,(Array.getElem?_eq_some_iff.1 e3).1,.inr ⟨_,_,e3⟩,fun j u hu=>?_⟩⟩,rfl⟩
  rw [cell_of_row w g (0+j) cur E _ e3,Nat.zero_add]
  rw [← e7,List.getElem?_take] at hu
  split at hu
  ·simpa using hu
  ·cases hu
theorem own_row {b:Nat}{E:TypeId}{m:Nat}{v:Value}{n:Nat}{ds:List Value}{w:World}(h:w.ownsRow b E m v n ds):RowOk w b E v.ownBlock:=by
 intro g hg
 obtain ⟨_,⟨rfl,_⟩ | ⟨g',cap,cur,rfl,e2,e3,_⟩⟩:=h
 ·cases hg
 ·have:g'=g:=by injection hg
  subst this
  exact ⟨e2,_,_,e3⟩
theorem all2_app {α β:Type}{R':α→β→Prop}{l1 l2:List α}{m1 m2:List β}(h:All2 R' l1 m1)(h':All2 R' l2 m2):All2 R' (l1++l2) (m1++m2):=by
 induction h with
 | nil=>exact h'
 | cons h1 _ ih=>exact .cons h1 ih
theorem cat_app {l l':List As}{B:Nat}{ds ds':List Value}{w:World}(h:(cat l).p B ds w)(h':(cat l').p B ds' w):(cat (l++l')).p B (ds++ds') w:=by
 obtain ⟨ps,rfl,h1⟩:=h
 obtain ⟨ps',rfl,h2⟩:=h'
 exact ⟨ps++ps',by simp,all2_app h1 h2⟩
end Go.Proofs.YtagabklfjmchaaaGreat
namespace Go.Proofs.YtagabklfjmchaaaGreat
open Go Go.RowKit
def VT:VA:=⟨fun _ _ _=>True,[],fun _ _ _ _ _ _=>trivial,fun _ _ _ _ _ _ _ _ _ _ _ _ _=>trivial⟩
theorem St.wkG {B N:Nat}{w0:Bs}{Γ:List (Nat × VA)}{Λ:List Lc}{a:Act}{w:World}(h:St B w0 N Γ Λ a w){s:Nat}{A A':VA}(k:Nat)(hm:Γ[k]?=some (s,A))(hw:Wk A A'):St B w0 N (Γ.set k (s,A')) Λ a w :=
 ⟨h.lo,h.defers,h.size,h.base,fun x hx=>by
  rcases List.mem_or_eq_of_mem_set hx with hx | rfl
  ·exact h.vals x hx
  ·exact hw _ _ _ (h.vals _ (List.mem_of_getElem? hm)),h.locs,h.dis⟩
def lesN (Λ:List Lc):List Le:=Λ.map fun l=>⟨l.s,l.T,l.H,none,l.A,none⟩
section
variable {P:Program} {Q:Exit→Act→World→Prop} {B N:Nat} {w0:Bs} {Γ:List (Nat × VA)} {Λ:List Lc} {a:Act} {w:World}
end
theorem ziu {P:Program}{w:World}(base:Nat)(t ty e:TypeId)(i:TypeInfo)(size:Nat)(ht:P.underlying t=some (.slice e))(hi:P.info? e=some i)
  (v:Value) (n c:Nat) (xs:List Value) (hown:w.ownsRow base e size v n xs):(Builtin.append_ #[t,t] ty #[v,.slice none 0 c]).run P w=.ok v w:=by
 rcases hown.2 with ⟨rfl,rfl⟩ | ⟨g,cap,cur,rfl,_,_,hnc,_⟩
 ·simp [Builtin.append_,run_underlying ht,sizeOf,typeInfo,hi,Builtin.lenOf,Builtin.firstCells]
 ·simp [Builtin.append_,run_underlying ht,sizeOf,typeInfo,hi,Builtin.lenOf,Builtin.firstCells,hnc,storeCells]
theorem cat_len {l:List As}{m:Nat}(hm:∀ A∈l,A.n=m):(cat l).n=l.length*m:=by
 induction l with
 | nil=>simp [cat]
 | cons A l ih =>
  have:=ih fun A' h=>hm A' (List.mem_cons_of_mem _ h)
  simp only [cat,List.map_cons,List.sum_cons,List.length_cons] at this ⊢
  rw [this,hm A (by simp),Nat.add_mul,Nat.one_mul,Nat.add_comm]
theorem run_ownM {P:Program}{S E T1:TypeId}{m bytes b B:Nat}{D D':List TypeId}{l xs:List As}{w:World}{v u:Value}{it:TypeInfo}{z:Value}
  (hS:P.underlying S=some (.slice E)) (hi:P.info? E=some it) (hz:it.zero=some z) (hsz:it.size=m) (hby:it.bytes=bytes) (hzs:z.cells.size=m) (hm0:0<m) (hl:l.length+xs.length≤100000000000) (hb6:bytes≤1000)
  (hv:(OwnR b E m D l).p B v w) (hu:(SlA E D' xs).va.p B u w) (hD':∀ T∈D',T∈D) (hED:E ∉ D) (hxm:∀ x∈xs,x.n=m) (hbw:b≤w.heap.size) (hB:B≤b) :
  ∃ v' w',(Builtin.append_ #[S,S] T1 #[v,u]).run P w=.ok v' w'∧(OwnR b E m D (l++xs)).p B v' w'∧w.grownBy w' v.ownBlock∧RowOk w b E v.ownBlock:=by
 obtain ⟨h1,h2,ds,h3,h4⟩:=hv
 obtain ⟨cs,⟨hD,Ad,c,ds1,rfl,_,_,h5,h6⟩,hu'⟩:=hu
 have hu2:u=.slice Ad xs.length c:=hu'
 subst hu2
 have hl1:ds1.length=xs.length*m:=by rw [(cat xs).len _ _ _ h5,cat_len hxm]
 have hro:=own_row h4
 have hmx:l.length+xs.length≤maxLen:=by unfold maxLen; omega
 have hbt:(l.length+xs.length)*bytes≤140737488355328:=Nat.le_trans (Nat.mul_le_mul hl hb6) zd
 have fin:∀ v' w',w'.ownsRow b E m v' (l.length+xs.length) (ds++ds1)→w.grownBy w' v.ownBlock→(OwnR b E m D (l++xs)).p B v' w':=fun v' w' r1 r2=>by
  refine ⟨fun A hA=>?_,fun A hA=>?_,ds++ds1,cat_app (As.grown h3 r2 hro hB (zgx h2 hED)) (As.grown h5 r2 hro hB (zgx (fun A hA T hT=>hD' T (hD A hA T hT)) hED)),by rw [List.length_append]; exact r1⟩
  ·rcases List.mem_append.1 hA with hA | hA
   ·exact h1 A hA
   ·exact hxm A hA
  ·rcases List.mem_append.1 hA with hA | hA
   ·exact h2 A hA
   ·exact fun T hT=>hD' T (hD A hA T hT)
 have some_case:∀ a:Addr,Ad=some a→(∀ (j:Nat) u,ds1[j]?=some u→w.cell? (a.add j)=some u)→∃ v' w',(Builtin.append_ #[S,S] T1 #[v,.slice Ad xs.length c]).run P w=.ok v' w'∧(OwnR b E m D (l++xs)).p B v' w'∧w.grownBy w' v.ownBlock∧RowOk w b E v.ownBlock:=fun a ha hc=>by
  subst ha
  obtain ⟨v',w',hr,r1,r2,_⟩:=run_append_own (P:=P) w b S T1 E it z m bytes hS hi hz hsz hby hzs hm0 v l.length ds h4 a xs.length c ds1 hl1 hc ((cat xs).one _ _ _ h5) hmx hbt hbw
  exact ⟨v',w',hr,fin v' w' r1 r2,r2,hro⟩
 by_cases hx:0<xs.length
 ·obtain ⟨g1,o1,rfl,_,_,h8⟩:=h6 hx
  exact some_case _ rfl fun j u hj=>by rw [add_k]; exact h8 j u hj
 ·have h0:xs.length=0:=by omega
  have hds0:ds1=[]:=List.length_eq_zero_iff.1 (by rw [hl1,h0,Nat.zero_mul])
  cases Ad with
  | some a=>exact some_case a rfl fun j u hj=>by rw [hds0] at hj; simp at hj
  | none =>
   rw [h0]
   refine ⟨v,w,ziu b S T1 E it m hS hi v l.length c ds h4,fin v w ?_ ⟨rfl,rfl,rfl,Nat.le_refl _,fun _ _ _=>rfl⟩,⟨rfl,rfl,rfl,Nat.le_refl _,fun _ _ _=>rfl⟩,hro⟩
   rw [h0,hds0,List.append_nil]
   exact h4
section
variable {P:Program} {R:Rg} {Q:Exit→Act→World→Prop} {B:Nat} {w0:Bs} {a:Act} {w:World}
open Rg in
theorem Rg.linK {id:Nat}{Λ:List Lc}{n m:Nat}(hsz:R.ops.size=n+m)(hanc:R.anc=fun i=>List.range i)(hk:R.chk=true)(h:St B w0 R.N R.Γ Λ a w)(hles:∀ e∈R.les,e.cr=none→(⟨e.s,e.T,e.H,e.A0⟩:Lc)∈Λ)
  (hob:∀ i,i<n→R.Ob P Q B w0 i) (hQ:∀ a w,R.Inv B w0 (fun k=>decide (k<n)) a w→wpOps P R.ops Q (List.range' n m) a w):(Code.region id R.ops false).wp P Q a w:=by
 refine wp_region ?_
 have key:∀ q k,k+q=n→∀ a w,R.Inv B w0 (fun j=>decide (j<k)) a w→wpOps P R.ops Q (List.range' k (q+m)) a w:=by
  intro q
  induction q with
  | zero =>
   intro k hkm a w hi
   have:k=n:=by omega
   subst this
   rw [Nat.zero_add]
   exact hQ a w hi
  | succ q ih =>
   intro k hkm a w hi
   rw [show q+1+m=(q+m)+1 by omega,List.range'_succ,wpOps_cons]
   refine step hk (hob k zo) hi ?_ (by simp) ?_ _ fun a' w' hi'=>ih (k+1) zo a' w' (hi'.congr fun j=>?_)
   ·intro i hi j hj
    rw [hanc] at hj
    simp at hi hj ⊢
    omega
   ·intro j hj
    rw [hanc] at hj
    simpa using hj
   ·unfold upd
    by_cases h1:j=k
    ·subst h1; simp
    ·have h2:(j==k)=false:=by simpa using h1
     rw [h2,Bool.false_or,decide_eq_decide]
     omega
 rw [List.range_eq_range',hsz]
 exact key n 0 zo a w ((start h hles).congr fun j=>by simp)
end
section
variable {P:Program} {Q:Exit→Act→World→Prop} {B N:Nat} {w0:Bs} {Γ:List (Nat × VA)} {Λ:List Lc} {a:Act} {w:World}
end
def OwnB (b:Nat)(E:TypeId)(m:Nat)(D:List TypeId)(l:List As):VA where
 p B v w:=b≤w.heap.size∧B≤b∧(OwnR b E m D l).p B v w
 deps:=E::D
 cg:=fun B v w w' hg ⟨h1,h2,h3⟩=>⟨Nat.le_trans h1 hg.size,h2,(OwnR b E m D l).cg B v w w' hg h3⟩
 wr:=fun B v w w' g c T fz hgc hT hB hW ⟨h1,h2,h3⟩=>⟨by rw [hW.size]; exact h1,h2,(OwnR b E m D l).wr B v w w' g c T fz hgc hT hB hW h3⟩
def PtrLt (b:Nat):VA where
 p _ v _:=∃ g,blk v=some g∧g<b
 deps:=[]
 cg:=fun _ _ _ _ _ h=>h
 wr:=fun _ _ _ _ _ _ _ _ _ _ _ _ h=>h
theorem ownB_R {b:Nat}{E:TypeId}{m:Nat}{D:List TypeId}{l:List As}:Wk (OwnB b E m D l) (OwnR b E m D l):=fun _ _ _ h=>h.2.2
theorem St.ownB {B N:Nat}{w0:Bs}{Γ:List (Nat × VA)}{Λ:List Lc}{a:Act}{w:World}(h:St B w0 N Γ Λ a w){s s3:Nat}{T:TypeId}{H:Hd}{A:As}{E:TypeId}{m:Nat}{D:List TypeId}(k e:Nat)(hm:Γ[k]?=some (s,EqV (.slice none 0 0)))(he:Λ[e]?=some ⟨s3,T,H,A⟩) :
  ∃ b,w0.w.heap.size≤b∧St B w0 N (Γ.set k (s,OwnB b E m D [])++[(s3,PtrLt b)]) Λ a w:=by
 refine ⟨w.heap.size,h.base.size,h.lo,h.defers,h.size,h.base,fun x hx=>?_,h.locs,h.dis⟩
 rcases List.mem_append.1 hx with hx | hx
 ·rcases List.mem_or_eq_of_mem_set hx with hx | rfl
  ·exact h.vals x hx
  ·exact ⟨Nat.le_refl _,Nat.le_trans (h.lo _ (.inl (Nat.le_refl _))) h.base.size,own_nil _ _ _ (h.vals _ (List.mem_of_getElem? hm))⟩
 ·obtain rfl:=List.mem_singleton.1 hx
  obtain ⟨g,cs,e1,_,e3,_⟩:=h.locs _ (List.mem_of_getElem? he)
  exact ⟨g,by rw [e1]; exact H.ok g,(Array.getElem?_eq_some_iff.1 e3).1⟩
theorem Cn.introF {P : Program} {f : FuncId} {fn : Func} {c : Code} {pre : List VA} {post : VA} (hf : P.funcs[f]? = some fn) (hb : fn.body = some c) (hn : (fn.name == "runtime.NumGoroutine") = false) (hsz : pre.length ≤ fn.ntmps)
  (h:∀ (B:Nat) (w0:Bs) (a:Act),NoF w0→St B w0 fn.ntmps (argΓ pre) [] a w0.w→c.wp P (bPost P fn (RQ B w0 post)) a w0.w):Cn P f pre post:=by
 refine ⟨⟨fn,hf,hn,by rw [hb]; rfl⟩,fun B w args hB ha=>(zbw hf hb (h B ⟨w,fun _=>False,false⟩ _ (fun _ h=>h.elim) ?_)).mono fun _ _ ⟨v,he,hv,hk⟩=>⟨v,he,hv,hk.grow0⟩⟩
 have hl:=ha.length
 refine ⟨fun g hg=>Nat.le_trans hB (hg.resolve_right fun h=>h),DefOk.nil rfl,?_,Kept.refl _,All2.args ha,(fun l hl=>by cases hl),(fun l hl=>by cases hl)⟩
 simp only [Array.size_append,List.size_toArray,Array.size_replicate]
 omega
theorem zdi {R:Rg}{B i:Nat}{w0:Bs}{x:Operand}{v:Value}{A:VA}(hF:NoF w0)(hv:A.p B v w0.w)(h:Has R B w0 i x (EqV v)):Has R B w0 i x A:=fun a w av=>by
 have e:a.eval x=v:=h a w av
 rw [e]
 exact A.cg _ _ _ _ (hF.cg av.base) hv
theorem St.eqv {B N:Nat}{w0:Bs}{Γ:List (Nat × VA)}{Λ:List Lc}{a:Act}(h:St B w0 N Γ Λ a w0.w){s:Nat}{A:VA}(k:Nat)(hm:Γ[k]?=some (s,A)):∃ v,A.p B v w0.w∧St B w0 N (Γ.set k (s,EqV v)) Λ a w0.w :=
 ⟨a.eval (.tmp s),h.vals _ (List.mem_of_getElem? hm),h.lo,h.defers,h.size,h.base,fun x hx=>by
  rcases List.mem_or_eq_of_mem_set hx with hx | rfl
  ·exact h.vals x hx
  ·exact rfl,h.locs,h.dis⟩
theorem free_all {l l':List VA}(h:All2 Free l l'){B B':Nat}{w:World}(hB:B'≤B):∀ {vs:List Value},All2 (fun (A:VA) x=>A.p B x w) l vs→All2 (fun (A:VA) x=>A.p B' x w) l' vs:=by
 induction h with
 | nil=>intro vs hv; cases hv; exact .nil
 | cons h _ ih=>intro vs hv; cases hv with | cons h1 h2=>exact .cons (h _ _ _ _ hB h1) (ih h2)
theorem free_tu {l l':List VA}(h:All2 Free l l'):Free (Tu l) (Tu l'):=fun _ _ _ _ hB ⟨vs,e,hv⟩=>⟨vs,e,free_all h hB hv⟩
def CnI (P:Program)(f:FuncId)(pre:List VA)(mk:Nat→VA):Prop :=
 (∃ fn, P.funcs[f]? = some fn ∧ (fn.name == "runtime.NumGoroutine") = false ∧ fn.body.isNone = false) ∧
 ∀ (B:Nat) (w:World) (args:List Value),B≤w.heap.size→All2 (fun A v=>A.p B v w) pre args →
  Calls P f args.toArray w fun e w'=>∃ v,e=.returned v∧(mk w.heap.size).p B v w'∧Grow w w'
theorem CnI.introF {P : Program} {f : FuncId} {fn : Func} {c : Code} {pre : List VA} {mk : Nat → VA} (hf : P.funcs[f]? = some fn) (hb : fn.body = some c) (hn : (fn.name == "runtime.NumGoroutine") = false) (hsz : pre.length ≤ fn.ntmps)
  (h:∀ (B:Nat) (w0:Bs) (a:Act),(∀ g,¬ w0.F g)→NoF w0→St B w0 fn.ntmps (argΓ pre) [] a w0.w→c.wp P (bPost P fn (RQ B w0 (mk w0.w.heap.size))) a w0.w):CnI P f pre mk:=by
 refine ⟨⟨fn,hf,hn,by rw [hb]; rfl⟩,fun B w args hB ha=>(zbw hf hb (h B ⟨w,fun _=>False,false⟩ _ (fun _ h=>h) (fun _ h=>h.elim) ?_)).mono fun _ _ ⟨v,he,hv,hk⟩=>⟨v,he,hv,hk.grow0⟩⟩
 have hl:=ha.length
 refine ⟨fun g hg=>Nat.le_trans hB (hg.resolve_right fun h=>h),DefOk.nil rfl,?_,Kept.refl _,All2.args ha,(fun l hl=>by cases hl),(fun l hl=>by cases hl)⟩
 simp only [Array.size_append,List.size_toArray,Array.size_replicate]
 omega
end Go.Proofs.YtagabklfjmchaaaGreat
