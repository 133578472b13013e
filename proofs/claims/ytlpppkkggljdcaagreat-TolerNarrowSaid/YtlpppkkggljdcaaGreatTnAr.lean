import Derived.Test.YtlpppkkggljdcaaGreatTnAa
import Derived.Test.YtlpppkkggljdcaaGreatTnAc
import Derived.Test.YtlpppkkggljdcaaGreatTnAk
import Derived.Test.YtlpppkkggljdcaaGreatTnAm
import Derived.Test.YtlpppkkggljdcaaGreatTnAn
import Derived.Test.YtlpppkkggljdcaaGreatTnAo
import Derived.Test.YtlpppkkggljdcaaGreatTnAq
import Derived.Laws.AppendOwn
import Derived.Laws.OwnMore
import Derived.Orders
set_option linter.unusedVariables false
set_option linter.unusedSimpArgs false
set_option linter.unusedSectionVars false
set_option maxRecDepth 100000
namespace Go.Proofs.YtlpppkkggljdcaaGreat
open Go Go.RowKit
open Go.ChangeShapes Go.WideShapes Go.ChangeAt
structure RGp where
 lo:RF
 hi:RF
 deriving DecidableEq
structure RLo where
 k:Int
 p:RGp
 q:RGp
 deriving DecidableEq
def GpA (x:RGp):As:=cat [RFA x.lo,RFA x.hi]
def LoA (x:RLo):As:=cat [NumA .u8 x.k,GpA x.p,GpA x.q]
abbrev gp0:RGp:=⟨rf0,rf0⟩
abbrev lo0:RLo:=⟨0,gp0,gp0⟩
theorem gp0_p (B:Nat)(w:World):(GpA gp0).p B [.bool false,.slice none 0 0,.bool false,.slice none 0 0,.bool false,.slice none 0 0,.bool false,.slice none 0 0] w:=⟨[[.bool false,.slice none 0 0,.bool false,.slice none 0 0],[.bool false,.slice none 0 0,.bool false,.slice none 0 0]],rfl,.cons (zgv B w) (.cons (zgv B w) .nil)⟩
theorem zc3:Str Tryz.prog 39 [RFA rf0,RFA rf0] :=
 Str.of (z:=.agg #[.bool false,.slice none 0 0,.bool false,.slice none 0 0,.bool false,.slice none 0 0,.bool false,.slice none 0 0]) zk Tryz.underlying39 zk fun B w=>⟨[[.bool false,.slice none 0 0,.bool false,.slice none 0 0],[.bool false,.slice none 0 0,.bool false,.slice none 0 0]],rfl,.cons (zgv B w) (.cons (zgv B w) .nil)⟩
theorem zdo:Str Tryz.prog 41 [NumA .u8 0,GpA gp0,GpA gp0] :=
 Str.of (z:=.agg #[.int .u8 0,.bool false,.slice none 0 0,.bool false,.slice none 0 0,.bool false,.slice none 0 0,.bool false,.slice none 0 0,.bool false,.slice none 0 0,.bool false,.slice none 0 0,.bool false,.slice none 0 0,.bool false,.slice none 0 0]) zk Tryz.underlying41 zk fun B w=>⟨[[.int .u8 0],[.bool false,.slice none 0 0,.bool false,.slice none 0 0,.bool false,.slice none 0 0,.bool false,.slice none 0 0],[.bool false,.slice none 0 0,.bool false,.slice none 0 0,.bool false,.slice none 0 0,.bool false,.slice none 0 0]],rfl,.cons rfl (.cons (gp0_p B w) (.cons (gp0_p B w) .nil))⟩
theorem arr_gaps:Arr Tryz.prog 73 [GpA gp0,GpA gp0]:=by
 have hz:((Tryz.prog.info? 73).bind (·.zero))=some (.agg #[.bool false,.slice none 0 0,.bool false,.slice none 0 0,.bool false,.slice none 0 0,.bool false,.slice none 0 0,.bool false,.slice none 0 0,.bool false,.slice none 0 0,.bool false,.slice none 0 0,.bool false,.slice none 0 0]):=by kernel_rfl
 obtain ⟨it,e1,e2⟩:=Option.bind_eq_some_iff.1 hz
 have h:(Tryz.prog.info? 39).map (·.size)=some 8:=by kernel_rfl
 obtain ⟨ie,h1,h2⟩:∃ ie,Tryz.prog.info? 39=some ie∧ie.size=8:=by
  cases hi:Tryz.prog.info? 39 with
  | none=>rw [hi] at h; simp at h
  | some ie=>rw [hi] at h; exact ⟨ie,rfl,by simpa using h⟩
 refine ⟨it,_,2,39,ie,e1,e2,Tryz.underlying73,h1,?_,fun B w=>⟨[[.bool false,.slice none 0 0,.bool false,.slice none 0 0,.bool false,.slice none 0 0,.bool false,.slice none 0 0],[.bool false,.slice none 0 0,.bool false,.slice none 0 0,.bool false,.slice none 0 0,.bool false,.slice none 0 0]],rfl,.cons (gp0_p B w) (.cons (gp0_p B w) .nil)⟩⟩
 rw [h2]
 intro f hf
 match f,hf with
 | 0,_=>rfl
 | 1,_=>rfl
theorem upA_gp (x:RGp):UpA (GpA x) (GpA x):=zgb (.cons (zj8 _) (.cons (zj8 _) .nil))
theorem upA_lo (x:RLo):UpA (LoA x) (LoA x):=zgb (.cons (up_num _ _) (.cons (upA_gp _) (.cons (upA_gp _) .nil)))
section
variable {H:Type} {enc:TypeId × Value→H} {w:World} {base:Nat} {spare:Nat→Bool} {held:Bool} {fuel:Nat} {cs:List Value} {x:DataW H × List MemPlace}
theorem cat_two' {B:Nat}{cs:List Value}{w:World}{A0 A1:As}(h0:A0.p B ((cs.drop 0).take A0.n) w)(h1:A1.p B ((cs.drop A0.n).take A1.n) w)(hl:cs.length=A0.n+A1.n):(cat [A0,A1]).p B cs w :=
 cat_of (by simpa using hl) fun k A hk=>by
  match k,hk with
  | 0,hk=>simp at hk; subst hk; exact h0
  | 1,hk=>simp at hk; subst hk; simpa [offs] using h1
theorem rd_gp (h:DataW.trod enc Tryz.prog w base spare held fuel 39 cs=some x):∃ y,(GpA y).p w.heap.size cs w:=by
 obtain ⟨xs,n,_,_,hl,hlen,hf⟩:=DataW.trod_struct Tryz.underlying39 h
 have hl':cs.length=8:=hl.trans zk
 have c0:Tryz.prog.cellsOf 37=4:=by kernel_rfl
 match xs,hlen with
 | [y0,y1],_ =>
  have h0:DataW.trod enc Tryz.prog w base spare held n 37 ((cs.drop 0).take (Tryz.prog.cellsOf 37))=some y0:=hf 0 _ rfl
  have h1:DataW.trod enc Tryz.prog w base spare held n 37 ((cs.drop 4).take (Tryz.prog.cellsOf 37))=some y1:=hf 1 _ rfl
  rw [c0] at h0 h1
  obtain ⟨a,ha⟩:=rd_rf h0
  obtain ⟨b,hb⟩:=rd_rf h1
  exact ⟨⟨a,b⟩,cat_two' ha hb hl'⟩
theorem rd_lo (h:DataW.trod enc Tryz.prog w base spare held fuel 41 cs=some x):∃ y,(LoA y).p w.heap.size cs w:=by
 obtain ⟨xs,n,_,_,hl,hlen,hf⟩:=DataW.trod_struct Tryz.underlying41 h
 have hl':cs.length=17:=hl.trans zk
 have c0:Tryz.prog.cellsOf 39=8:=by kernel_rfl
 have c1:Tryz.prog.cellsOf 32=1:=by kernel_rfl
 match xs,hlen with
 | [y0,y1,y2],_ =>
  have h0:DataW.trod enc Tryz.prog w base spare held n 32 ((cs.drop 0).take (Tryz.prog.cellsOf 32))=some y0:=hf 0 _ rfl
  have h1:DataW.trod enc Tryz.prog w base spare held n 39 ((cs.drop 1).take (Tryz.prog.cellsOf 39))=some y1:=hf 1 _ rfl
  have h2:DataW.trod enc Tryz.prog w base spare held n 39 ((cs.drop 9).take (Tryz.prog.cellsOf 39))=some y2:=hf 2 _ rfl
  rw [c1] at h0
  rw [c0] at h1 h2
  obtain ⟨a,ha,_⟩:=DataW.trod_int Tryz.underlying32 h0
  obtain ⟨b,hb⟩:=rd_gp h1
  obtain ⟨c,hc⟩:=rd_gp h2
  exact ⟨⟨a,b,c⟩,cat_three (A0:=NumA .u8 a) ha hb hc hl'⟩
end
def mayG (x:RGp):Bool:=[x.lo,x.hi].all okX&&decide (cmQ (toQ x.lo) (toQ x.hi)≤0)
def ptF (x:RGp):Bool:=cmQ (toQ x.lo) (toQ x.hi)==0
def loF (x:RLo):Bool:=(mayG x.p&&mayG x.q)&&(chF [⟨x.k,x.p.lo,x.q.lo⟩,⟨x.k,x.p.hi,x.q.hi⟩]==0)
def gpL (g:RGp):Nat:=if ptF g then 0 else 1
def lsI (x:RLo)(i:Nat):Nat:=if i=0 then 0 else if i=1 then gpL x.p else gpL x.p+gpL x.q
def gAt (x:RLo)(i:Nat):RGp:=if i=0 then x.p else x.q
def manyF (xs:List RLo):Nat:=(xs.map fun x=>gpL x.p+gpL x.q).sum
def tchF (xs:List RLo):Int:=if xs.length>4096 then 4 else if xs.all loF then (if manyF xs>12 then 4 else 0) else 1
theorem cmp_x {x y:RF}(h:[x,y].all okX=true):Cn Tryz.prog 50 [(RFA x).va,(RFA y).va] (In (cmQ (toQ x) (toQ y))):=by
 simp only [List.all_cons,List.all_nil,Bool.and_true,Bool.and_eq_true] at h
 exact (cmp_q (c:=2048) (d:=2048) zd).wk (.cons (qa_x h.1 (Nat.le_refl _)).va (.cons (qa_x h.2 (Nat.le_refl _)).va .nil))
theorem zh4 {g:RGp}(h:mayG g=true):[g.lo,g.hi].all okX=true:=by unfold mayG at h; rw [Bool.and_eq_true] at h; exact h.1
theorem lo_may {x:RLo}{i:Nat}(h:loF x=true):mayG (gAt x i)=true:=by
 unfold loF at h
 rw [Bool.and_eq_true,Bool.and_eq_true] at h
 unfold gAt
 split
 ·exact h.1.1
 ·exact h.1.2
theorem gs_at {x:RLo}{i:Nat}(h:i<2):[GpA x.p,GpA x.q][i]?=some (GpA (gAt x i)) :=
 match i,h with
 | 0,_=>rfl
 | 1,_=>rfl
theorem lsI_1 {x:RLo}{i:Nat}(hi:i<2)(h:(!ptF (gAt x i))=true):lsI x (i+1)=lsI x i+1:=by
 have h':ptF (gAt x i)=false:=by simpa using h
 match i,hi with
 | 0,_ => 
  have h0:ptF x.p=false:=h'
  simp [lsI,gpL,h0]
 | 1,_ =>
  have h0:ptF x.q=false:=h'
  simp [lsI,gpL,h0]
theorem lsI_0 {x:RLo}{i:Nat}(hi:i<2)(h:(!ptF (gAt x i))=false):lsI x (i+1)=lsI x i:=by
 have h':ptF (gAt x i)=true:=by simpa using h
 match i,hi with
 | 0,_ => 
  have h0:ptF x.p=true:=h'
  simp [lsI,gpL,h0]
 | 1,_ =>
  have h0:ptF x.q=true:=h'
  simp [lsI,gpL,h0]
theorem zjv (g:RGp):gpL g≤1:=by unfold gpL; split <;> omega
theorem zhw (x:RLo)(i:Nat):lsI x i≤2:=by
 have h1:=zjv x.p
 have h2:=zjv x.q
 unfold lsI
 split
 ·omega
 ·split <;> omega
theorem many_le (xs:List RLo):manyF xs≤2*xs.length:=by
 induction xs with
 | nil=>exact Nat.le_refl _
 | cons x xs ih =>
  have h1:=zjv x.p
  have h2:=zjv x.q
  have e:manyF (x::xs)=gpL x.p+gpL x.q+manyF xs:=by simp [manyF]
  rw [e,List.length_cons]
  omega
theorem many_nx {xs:List RLo}{j:Nat}(h:j<xs.length):manyF (xs.take (j+1))=manyF (xs.take j)+lsI xs[j] 2:=by
 rw [List.take_succ_eq_append_getElem h]
 unfold manyF
 rw [List.map_append,List.sum_append]
 simp [lsI]
theorem zdq (xs:List RLo)(j:Nat):manyF (xs.take j)≤2*xs.length:=Nat.le_trans (many_le _) (by rw [List.length_take]; omega)
theorem tch_bad {xs:List RLo}{j:Nat}(h4:¬ xs.length>4096)(hj:j<xs.length)(h:loF xs[j]=false):tchF xs=1:=by
 unfold tchF
 rw [if_neg h4,if_neg]
 intro hh
 rw [List.all_eq_true.1 hh _ (List.getElem_mem hj)] at h
 cases h
theorem lo_no1 {x:RLo}(h:((!mayG x.p) || (!mayG x.q))=true):loF x=false:=by
 unfold loF
 cases h1:mayG x.p <;> cases h2:mayG x.q <;> simp_all
theorem lo_no2 {x:RLo}(h:(chF [⟨x.k,x.p.lo,x.q.lo⟩,⟨x.k,x.p.hi,x.q.hi⟩] != 0)=true):loF x=false:=by
 unfold loF
 rw [show (chF [⟨x.k,x.p.lo,x.q.lo⟩,⟨x.k,x.p.hi,x.q.hi⟩]==0)=false from by simpa using h,Bool.and_false]
theorem lo_yes {x:RLo}(h1:((!mayG x.p) || (!mayG x.q))=false)(h2:(chF [⟨x.k,x.p.lo,x.q.lo⟩,⟨x.k,x.p.hi,x.q.hi⟩] != 0)=false):loF x=true:=by
 unfold loF
 simp only [Bool.or_eq_false_iff,Bool.not_eq_false'] at h1
 rw [h1.1,h1.2,show (chF [⟨x.k,x.p.lo,x.q.lo⟩,⟨x.k,x.p.hi,x.q.hi⟩]==0)=true from by simpa using h2]
 rfl
section
variable {P:Program} {R:Rg} {Q:Exit→Act→World→Prop} {B i:Nat} {w0:Bs}
theorem r_idxv {x y:Operand}{T E:TypeId}{k:Nat}{kd:IntKind}{l:List As}{A':As}(hx:Has R B w0 i x (cat l).va)(hA':A'.ag=true)(hS:P.underlying T=some (.array l.length E))(ht:Ty P E A'.n A'.ag)(hm:∀ A∈l,A.n=A'.n)(hy:Has R B w0 i y (NumA kd k).va)(hk:l[k]?=some A'):Wv P Q R B w0 i (.index T x y) A'.va :=
 zba fun d T' ps af gd a w av=>by
  obtain ⟨cs,h1,hv⟩:=hx a w av
  obtain ⟨p1,l1⟩:=zgl h1 hk
  have hlt:k<l.length:=(List.getElem?_eq_some_iff.1 hk).1
  have ho:=zij hm (k:=k) zo
  unfold offs at ho
  rw [ho] at p1 l1
  have hv':a.eval x=.agg cs.toArray:=hv
  have e:=zbc (hy a w av)
  have ha:(isAgg E).run P w=.ok true w:=by
   have:=ht.2
   rw [hA'] at this
   cases hu:P.underlying E with
   | none=>rw [hu] at this; simp at this
   | some u =>
    rw [hu] at this
    unfold isAgg
    simp only [Sem.run_bind,run_underlying hu,Result.andThen_ok]
    cases u <;> simp_all
  have hz:(sizeOf E).run P w=.ok A'.n w:=by
   have:=ht.1
   cases hi:P.info? E with
   | none=>rw [hi] at this; simp at this
   | some it=>rw [hi] at this; simp [sizeOf,typeInfo,hi]; simpa using this
  refine ⟨.agg (cs.toArray.extract (k*A'.n) (k*A'.n+A'.n)),w,?_,Grow.refl w,_,p1,?_⟩
  ·simp [execOp,hv',e,Instr.index,asIntOf,run_underlying hS,hlt,part,ha,hz]
  ·unfold shape
   rw [hA',if_pos rfl]
   congr 1
   apply Array.ext'
   simp
end
theorem zkm {g:RGp}(h:[g.lo,g.hi].all okX=true):Cn Tryz.prog 36 [(GpA g).va] (Bo (ptF g)):=by
 refine Cn.intro Tryz.func36 rfl zk nq (fun B w0 a hst=>?_)
 have hst:St B w0 9 [(0,(GpA g).va)] [] a w0.w:=hst
 refine wp_seq ?_
 refine gl (sts:=[]) (news:=[⟨1,39,ptrH,some 0,_,none⟩]) (sp:=[.alc 0,.val 2 _]) [.o 1] hst (oc (zal rfl rfl rfl (gq 0 rfl)) (zv rfl (za2 zbm) o0)) (fun a w hst=>?_)
 have hst:St B w0 9 [(2,_)] [⟨1,39,ptrH,_⟩] a w:=hst
 refine zt<|gl (sts:=[none]) (news:=[]) (sp:=[.adr 3 1 (.some 0) True,.val 4 _,.adr 5 1 (.some 4) True,.val 6 _,.val 7 _,.val 8 _,.val 2 _]) [.o 6] hst (oc (ob_a rfl rfl (za8 (lz0 0 rfl) zbj)) (zv rfl (za4 0 rfl zk trivial (lz0 0 rfl) (Sub.part 0 rfl rfl) zaa) (oc (ob_a rfl rfl (za8 (lz0 0 rfl) zbq)) (zv rfl (za4 2 rfl zk trivial (lz0 0 rfl) (Sub.part 1 rfl rfl) zaa) (zv rfl (za5 (xs:=[.tmp 4,.tmp 6]) (cmp_x h) (.cons (vq 1 rfl) (.cons (vq 3 rfl) .nil))) (zv rfl (zcu (vq 4 rfl) za3) (zv rfl (za2 (vq 5 rfl)) o0))))))) (fun a w hst=>?_)
 have hst:St B w0 9 [(2,_)] [⟨1,39,ptrH,_⟩] a w:=hst
 refine za0 ?_
 refine wp_ret ?_
 refine zah ?_ (zaj rfl hst (zm 0 rfl))
 exact zb1
theorem tmay_c (g:RGp):Cn Tryz.prog 35 [(GpA g).va] (Bo (mayG g)):=by
 refine Cn.intro Tryz.func35 rfl zk nq (fun B w0 a hst=>?_)
 have hst:St B w0 17 [(0,(GpA g).va)] [] a w0.w:=hst
 refine wp_seq ?_
 refine gl (sts:=[]) (news:=[⟨1,39,ptrH,some 0,_,none⟩]) (sp:=[.alc 0,.val 2 _]) [.o 1] hst (oc (zal rfl rfl rfl (gq 0 rfl)) (zv rfl (za2 zbm) o0)) (fun a w hst=>?_)
 have hst:St B w0 17 [(2,_)] [⟨1,39,ptrH,_⟩] a w:=hst
 refine zt<|gl (sts:=[none]) (news:=[]) (sp:=[.adr 3 1 (.some 0) True,.val 4 _,.adr 5 1 (.some 4) True,.val 6 _,.val 7 _,.val 8 _,.val 9 _,.adr 10 1 (.some 0) (_=true),.val 11 (Wh (_=true) _),.adr 12 1 (.some 4) (_=true),.val 13 (Wh (_=true) _),.val 14 (Wh (_=true) _),.val 15 (Wh (_=true) _),.val 16 _,.val 2 _]) [.o 14] hst (oc (ob_a rfl rfl (za8 (lz0 0 rfl) zbj)) (zv rfl (za4 0 rfl zk trivial (lz0 0 rfl) (Sub.part 0 rfl rfl) zaa) (oc (ob_a rfl rfl (za8 (lz0 0 rfl) zbq)) (zv rfl (za4 2 rfl zk trivial (lz0 0 rfl) (Sub.part 1 rfl rfl) zaa) (zv rfl (zcl (D:=[U32]) (l:=[_,_]) (xs:=[.tmp 4,.tmp 6]) (zf5 zk) zf7 zk (n_ok zk) nq nq nq (.cons (vq 1 rfl) (.cons (vq 3 rfl) .nil)) rfl rfl) (zv rfl (za5 (xs:=[.tmp 7]) (zez [g.lo,g.hi] nq) (.cons (vq 4 rfl) .nil)) (zv rfl (za1 (vq 5 rfl)) (oc (zd9 rfl rfl rfl (vq 6 rfl) nq (fun hg=>za8 (lz0 0 rfl) zbj)) (oc (zam rfl rfl rfl (vq 6 rfl) nq (fun hg=>za4 7 rfl zk hg (lz0 0 rfl) (Sub.part 0 rfl rfl) zaa)) (oc (zd9 rfl rfl rfl (vq 6 rfl) nq (fun hg=>za8 (lz0 0 rfl) zbq)) (oc (zam rfl rfl rfl (vq 6 rfl) nq (fun hg=>za4 9 rfl zk hg (lz0 0 rfl) (Sub.part 1 rfl rfl) zaa)) (oc (zam rfl rfl rfl (vq 6 rfl) nq (fun hg=>za5 (xs:=[.tmp 11,.tmp 13]) (cmp_x hg) (.cons (zag (vq 8 rfl) hg) (.cons (zag (vq 10 rfl) hg) .nil)))) (oc (zam rfl rfl rfl (vq 6 rfl) nq (fun hg=>zhk (zag (vq 11 rfl) hg) za3)) (zv rfl (zcm (vq 6 rfl) (vq 12 rfl)) (zv rfl (za2 (vq 13 rfl)) o0))))))))))))))) (fun a w hst=>?_)
 have hst:St B w0 17 [(2,_)] [⟨1,39,ptrH,_⟩] a w:=hst
 refine za0 ?_
 refine wp_ret ?_
 refine zah ?_ (zaj rfl hst (zm 0 rfl))
 exact zb1
set_option maxHeartbeats 1000000 in
theorem zem (xs:List RLo):Cn Tryz.prog 10 [(SlA 41 [U32] (xs.map LoA)).va] (In (tchF xs)):=by
 refine Cn.introW Tryz.func10 rfl zk nq (.cons (zke (fun A hA=>by obtain ⟨x,_,rfl⟩:=List.mem_map.1 hA; exact upA_lo x)).va .nil) (zfo _ _).va (fun B w0 a hB0 hst=>?_)
 have hst:St B w0 67 [(0,(SlO 41 [U32] (xs.map LoA) True).va)] [] a w0.w:=hst
 have hl:=slO_len (hst.vals (0,(SlO 41 [U32] (xs.map LoA) True).va) (zm 0 rfl))
 rw [List.length_map] at hl
 refine wp_seq ?_
 refine gl (sts:=[]) (news:=[]) (sp:=[.val 2 _]) [.g 0,.o 0] hst (zv rfl (za2 za3) o0) (fun a w hst=>?_)
 have hst:St B w0 67 [(0,_),(2,_)] [] a w:=hst
 refine zt ?_
 refine wp_seq ?_
 refine gl (sts:=[]) (news:=[]) (sp:=[.val 9 _,.val 10 _,.val 11 _]) [.g 0,.g 1,.o 2] hst (zv rfl (za1 (gq 0 rfl)) (zv rfl (zeb Tryz.underlying22 (zc9 (zas (vq 0 rfl)))) (zv rfl (zg0 (vq 1 rfl) za3) o0))) (fun a w hst=>?_)
 have hst:St B w0 67 [(0,_),(2,_),(11,_)] [] a w:=hst
 refine za0 ?_
 refine zab hst (zm 2 rfl) (fun hb0=>?_) (fun hb0=>?_)
 ·have hbig:xs.length>4096:=by rw [List.length_map] at hb0; have:=of_decide_eq_true hb0; omega
  refine wp_seq ?_
  refine gl (sts:=[]) (news:=[]) (sp:=[.val 2 _]) [.g 0,.o 0] hst (zv rfl (za2 za3) o0) (fun a w hst=>?_)
  have hst:St B w0 67 [(0,_),(2,_)] [] a w:=hst
  refine za0 ?_
  refine wp_ret ?_
  refine zak ?_
  refine zah ?_ (zaj rfl hst (zm 1 rfl))
  rw [tchF,if_pos hbig]; exact zb1
 ·have hbig:¬ xs.length>4096:=by rw [List.length_map] at hb0; have:=of_decide_eq_false hb0; omega
  refine wp_skip ?_
  refine zt<|gl (sts:=[]) (news:=[]) (sp:=[.val 3 _]) [.g 0,.g 1,.o 0] hst (zv rfl (za2 za3) o0) (fun a w hst=>?_)
  have hst:St B w0 67 [(0,_),(2,_),(3,_)] [] a w:=hst
  refine zt ?_
  refine wp_seq ?_
  refine gl (sts:=[]) (news:=[]) (sp:=[.val 12 _,.val 13 _,.val 14 _]) [.g 1,.g 2,.o 0,.o 1,.o 2] hst (zv rfl (za1 (gq 0 rfl)) (zv rfl (zeb Tryz.underlying22 (zc9 (zas (vq 0 rfl)))) (zv rfl (za1 za3) o0))) (fun a w hst=>?_)
  have hst:St B w0 67 [(2,_),(3,_),(12,_),(13,_),(14,_)] [] a w:=hst
  refine za0 ?_
  refine wp_block ?_
  have hst:=St.sel hst [1,2,3,4]
  refine wp_loop_ghost (fun n a w=>∃ j:Nat,(n+j=xs.length∧(xs.take j).all loF=true)∧St B w0 67 [(3,In ((manyF (xs.take j):Nat):Int)),(12,(SlO 41 [U32] (xs.map LoA) True).va),(13,In (xs.length:Nat)),(14,In (j:Nat))] [] a w) (xs.length) ?_ ?_
  ·exact ⟨0,⟨by omega,rfl⟩,by rw [List.length_map] at hst; exact hst⟩
  intro n a w hI
  obtain ⟨j,⟨hn,hno⟩,hst⟩:=hI; obtain ⟨n1,hn1⟩:∃ n1,n1=n:=⟨n,rfl⟩
  refine wp_seq ?_
  refine gl (sts:=[]) (news:=[]) (sp:=[.val 15 _]) [.g 0,.g 1,.g 2,.g 3,.o 0] hst (zv rfl (zc0 (gq 3 rfl) (gq 2 rfl)) o0) (fun a w hst=>?_)
  have hst:St B w0 67 [(3,_),(12,_),(13,_),(14,_),(15,_)] [] a w:=hst
  refine zt ?_
  refine zab hst (zm 4 rfl) (fun hb1=>?_) (fun hb1=>?_)
  ·have hj:j<xs.length:=by have:=of_decide_eq_true hb1; omega
   refine wp_skip ?_
   refine zt ?_
   refine wp_block ?_
   refine wp_seq ?_
   refine gl (sts:=[]) (news:=[⟨5,41,ptrH,some 2,_,some (3,_)⟩]) (sp:=[.val 16 _,.val 17 _,.alc 0,.sto 0]) [.g 0,.g 1,.g 2,.g 3] hst (zv rfl (zdt zf4 (zed fun _=>rfl) (zc9 (zas (gq 1 rfl))) (gq 3 rfl) (zd2 hj)) (zv rfl (zat (vq 0 rfl) ty_41) (oc (zaf rfl rfl rfl (Str.zero zdo)) (oc (za7 rfl rfl rfl (vq 1 rfl) ty_41 (Eq.trans (b:=17) rfl rfl)) o0)))) (fun a w hst=>?_)
   have hst:St B w0 67 [(3,_),(12,_),(13,_),(14,_)] [⟨5,41,ptrH,_⟩] a w:=hst
   refine zt ?_
   refine wp_seq ?_
   refine gl (sts:=[none]) (news:=[]) (sp:=[.adr 18 5 (.some 1) True,.val 19 _,.val 20 _,.val 21 _,.val 22 _,.adr 23 5 (.some 9) (_=false),.val 24 (Wh (_=false) _),.val 25 (Wh (_=false) _),.val 26 (Wh (_=false) _),.val 27 _]) [.g 0,.g 1,.g 2,.g 3,.o 9] hst (oc (ob_a rfl rfl (za8 (lz0 0 rfl) zcf)) (zv rfl (za4 0 rfl zk trivial (lz0 0 rfl) (Sub.part 1 rfl rfl) zbl) (zv rfl (za5 (xs:=[.tmp 19]) (tmay_c _) (.cons (vq 1 rfl) .nil)) (zv rfl (zdp (vq 2 rfl)) (zv rfl (za1 (vq 3 rfl)) (oc (zd9 rfl rfl rfl (vq 4 rfl) nq (fun hg=>za8 (lz0 0 rfl) zcx)) (oc (zam rfl rfl rfl (vq 4 rfl) nq (fun hg=>za4 5 rfl zk hg (lz0 0 rfl) (Sub.part 2 rfl rfl) zbl)) (oc (zam rfl rfl rfl (vq 4 rfl) nq (fun hg=>za5 (xs:=[.tmp 24]) (tmay_c _) (.cons (zag (vq 6 rfl) hg) .nil))) (oc (zam rfl rfl rfl (vq 4 rfl) nq (fun hg=>zdp (zag (vq 7 rfl) hg))) (zv rfl (r_or (vq 4 rfl) (vq 8 rfl)) o0)))))))))) (fun a w hst=>?_)
   have hst:St B w0 67 [(3,_),(12,_),(13,_),(14,_),(27,_)] [⟨5,41,ptrH,_⟩] a w:=hst
   refine za0 ?_
   refine zab hst (zm 4 rfl) (fun hb2=>?_) (fun hb2=>?_)
   ·refine wp_seq ?_
    refine gl (sts:=[none]) (news:=[]) (sp:=[.val 2 _]) [.g 0,.g 1,.g 2,.g 3,.o 0] hst (zv rfl (za2 za3) o0) (fun a w hst=>?_)
    have hst:St B w0 67 [(3,_),(12,_),(13,_),(14,_),(2,_)] [⟨5,41,ptrH,_⟩] a w:=hst
    refine za0 ?_
    refine wp_ret ?_
    refine zak ?_
    refine zbd ?_
    refine zak ?_
    refine zak ?_
    refine zbd ?_
    refine zak ?_
    refine zah ?_ (zaj rfl hst (zm 4 rfl))
    rw [tch_bad hbig hj (lo_no1 hb2)]; exact zb1
   ·refine wp_skip ?_
    refine zt<|gl (sts:=[none]) (news:=[]) (sp:=[.adr 28 5 (.some 0) True,.val 29 _,.adr 30 5 (.some 1) True,.adr 31 5 (.some (1+0)) True,.val 32 _,.adr 33 5 (.some 9) True,.adr 34 5 (.some (9+0)) True,.val 35 _,.val 36 _,.adr 37 5 (.some 0) True,.val 38 _,.adr 39 5 (.some 1) True,.adr 40 5 (.some (1+4)) True,.val 41 _,.adr 42 5 (.some 9) True,.adr 43 5 (.some (9+4)) True,.val 44 _,.val 45 _,.val 46 _,.val 6 _]) [.g 0,.g 1,.g 2,.g 3,.o 19] hst (oc (ob_a rfl rfl (za8 (lz0 0 rfl) zgi)) (zv rfl (za4 0 rfl zk trivial (lz0 0 rfl) (Sub.part 0 rfl rfl) zgo) (oc (ob_a rfl rfl (za8 (lz0 0 rfl) zcf)) (oc (ob_a rfl rfl (a_fld2 2 rfl zk trivial (lz0 0 rfl) zbj)) (zv rfl (za4 3 rfl zk trivial (lz0 0 rfl) (Sub.trans (Sub.part 1 rfl rfl) (Sub.part 0 rfl rfl) rfl) zaa) (oc (ob_a rfl rfl (za8 (lz0 0 rfl) zcx)) (oc (ob_a rfl rfl (a_fld2 5 rfl zk trivial (lz0 0 rfl) zbj)) (zv rfl (za4 6 rfl zk trivial (lz0 0 rfl) (Sub.trans (Sub.part 2 rfl rfl) (Sub.part 0 rfl rfl) rfl) zaa) (zv rfl (zb7 (xs:=[(0,.tmp 29),(1,.tmp 32),(2,.tmp 35)]) (qs:=[(0,_),(1,_),(2,_)]) zeo (.cons ⟨rfl,(vq 1 rfl),rfl⟩ (.cons ⟨rfl,(vq 4 rfl),rfl⟩ (.cons ⟨rfl,(vq 7 rfl),rfl⟩ .nil)))) (oc (ob_a rfl rfl (za8 (lz0 0 rfl) zgi)) (zv rfl (za4 9 rfl zk trivial (lz0 0 rfl) (Sub.part 0 rfl rfl) zgo) (oc (ob_a rfl rfl (za8 (lz0 0 rfl) zcf)) (oc (ob_a rfl rfl (a_fld2 11 rfl zk trivial (lz0 0 rfl) zbq)) (zv rfl (za4 12 rfl zk trivial (lz0 0 rfl) (Sub.trans (Sub.part 1 rfl rfl) (Sub.part 1 rfl rfl) rfl) zaa) (oc (ob_a rfl rfl (za8 (lz0 0 rfl) zcx)) (oc (ob_a rfl rfl (a_fld2 14 rfl zk trivial (lz0 0 rfl) zbq)) (zv rfl (za4 15 rfl zk trivial (lz0 0 rfl) (Sub.trans (Sub.part 2 rfl rfl) (Sub.part 1 rfl rfl) rfl) zaa) (zv rfl (zb7 (xs:=[(0,.tmp 38),(1,.tmp 41),(2,.tmp 44)]) (qs:=[(0,_),(1,_),(2,_)]) zeo (.cons ⟨rfl,(vq 10 rfl),rfl⟩ (.cons ⟨rfl,(vq 13 rfl),rfl⟩ (.cons ⟨rfl,(vq 16 rfl),rfl⟩ .nil)))) (zv rfl (zcl (D:=[U32]) (l:=[_,_]) (xs:=[.tmp 36,.tmp 45]) (zf5 zk) sl_51 zk (n_ok zk) nq nq nq (.cons (vq 8 rfl) (.cons (vq 17 rfl) .nil)) rfl rfl) (zv rfl (za2 (vq 18 rfl)) o0)))))))))))))))))))) (fun a w hst=>?_)
    have hst:St B w0 67 [(3,_),(12,_),(13,_),(14,_),(6,_)] [⟨5,41,ptrH,_⟩] a w:=hst
    refine zt ?_
    refine wp_seq ?_
    refine gl (sts:=[none]) (news:=[]) (sp:=[.val 47 _,.val 48 _,.val 49 _]) [.g 0,.g 1,.g 2,.g 3,.o 2] hst (zv rfl (za1 (gq 4 rfl)) (zv rfl (za5 (xs:=[.tmp 47]) (benCheck_c [⟨_,_,_⟩,⟨_,_,_⟩]) (.cons (vq 0 rfl) .nil)) (zv rfl (zd5 (vq 1 rfl) za3) o0))) (fun a w hst=>?_)
    have hst:St B w0 67 [(3,_),(12,_),(13,_),(14,_),(49,_)] [⟨5,41,ptrH,_⟩] a w:=hst
    refine za0 ?_
    refine zab hst (zm 4 rfl) (fun hb3=>?_) (fun hb3=>?_)
    ·refine wp_seq ?_
     refine gl (sts:=[none]) (news:=[]) (sp:=[.val 2 _]) [.g 0,.g 1,.g 2,.g 3,.o 0] hst (zv rfl (za2 za3) o0) (fun a w hst=>?_)
     have hst:St B w0 67 [(3,_),(12,_),(13,_),(14,_),(2,_)] [⟨5,41,ptrH,_⟩] a w:=hst
     refine za0 ?_
     refine wp_ret ?_
     refine zak ?_
     refine zbd ?_
     refine zak ?_
     refine zak ?_
     refine zbd ?_
     refine zak ?_
     refine zah ?_ (zaj rfl hst (zm 4 rfl))
     rw [tch_bad hbig hj (lo_no2 hb3)]; exact zb1
    ·have hlo:loF xs[j]=true:=lo_yes hb2 hb3
     refine wp_skip ?_
     refine zt<|gl (sts:=[none]) (news:=[]) (sp:=[.adr 50 5 (.some 1) True,.val 51 _,.adr 52 5 (.some 9) True,.val 53 _,.val 54 _,.val 55 _]) [.g 0,.g 1,.g 2,.g 3,.o 4,.o 5] hst (oc (ob_a rfl rfl (za8 (lz0 0 rfl) zcf)) (zv rfl (za4 0 rfl zk trivial (lz0 0 rfl) (Sub.part 1 rfl rfl) zbl) (oc (ob_a rfl rfl (za8 (lz0 0 rfl) zcx)) (zv rfl (za4 2 rfl zk trivial (lz0 0 rfl) (Sub.part 2 rfl rfl) zbl) (zv rfl (zdu (xs:=[(0,.tmp 51),(1,.tmp 53)]) (qs:=[(0,_),(1,_)]) arr_gaps (.cons ⟨rfl,(vq 1 rfl),rfl⟩ (.cons ⟨rfl,(vq 3 rfl),rfl⟩ .nil))) (zv rfl (za1 za3) o0)))))) (fun a w hst=>?_)
     have hst:St B w0 67 [(3,_),(12,_),(13,_),(14,_),(54,_),(55,_)] [⟨5,41,ptrH,_⟩] a w:=hst
     refine za0 ?_
     refine wp_block ?_
     have hst:=St.sel hst [0,1,2,3,4,5]
     have hst:=St.selL hst []
     refine wp_loop_ghost (fun n a w=>∃ i:Nat,(n+i=2)∧St B w0 67 [(3,In ((manyF (xs.take j)+lsI xs[j] i:Nat):Int)),(12,(SlO 41 [U32] (xs.map LoA) True).va),(13,In (xs.length:Nat)),(14,In (j:Nat)),(54,(cat [GpA xs[j].p,GpA xs[j].q]).va),(55,In (i:Nat))] [] a w) (2) ?_ ?_
     ·exact ⟨0,rfl,hst⟩
     intro n a w hI
     obtain ⟨i,hn2,hst⟩:=hI
     refine wp_seq ?_
     refine gl (sts:=[]) (news:=[]) (sp:=[.val 56 _]) [.g 0,.g 1,.g 2,.g 3,.g 4,.g 5,.o 0] hst (zv rfl (zc0 (gq 5 rfl) za3) o0) (fun a w hst=>?_)
     have hst:St B w0 67 [(3,_),(12,_),(13,_),(14,_),(54,_),(55,_),(56,_)] [] a w:=hst
     refine zt ?_
     refine zab hst (zm 6 rfl) (fun hb4=>?_) (fun hb4=>?_)
     ·have hi:i<2:=by have:=of_decide_eq_true hb4; omega
      refine wp_skip ?_
      refine zt ?_
      refine wp_block ?_
      refine wp_seq ?_
      refine gl (sts:=[]) (news:=[⟨8,39,ptrH,some 1,_,some (2,_)⟩]) (sp:=[.val 57 _,.alc 0,.sto 0]) [.g 0,.g 1,.g 2,.g 3,.g 4,.g 5] hst (zv rfl (r_idxv (gq 4 rfl) rfl Tryz.underlying73 zbl (n_ok zk) (gq 5 rfl) (gs_at hi)) (oc (zaf rfl rfl rfl (Str.zero zc3)) (oc (za7 rfl rfl rfl (vq 0 rfl) zbl (Eq.trans (b:=8) rfl rfl)) o0))) (fun a w hst=>?_)
      have hst:St B w0 67 [(3,_),(12,_),(13,_),(14,_),(54,_),(55,_)] [⟨8,39,ptrH,_⟩] a w:=hst
      refine zt<|gl (sts:=[none]) (news:=[]) (sp:=[.val 58 _,.val 59 _,.val 60 _]) [.g 0,.g 1,.g 2,.g 3,.g 4,.g 5,.o 2] hst (zv rfl (zac (lz0 0 rfl) zbl) (zv rfl (za5 (xs:=[.tmp 58]) (zkm (zh4 (lo_may hlo))) (.cons (vq 0 rfl) .nil)) (zv rfl (zdp (vq 1 rfl)) o0))) (fun a w hst=>?_)
      have hst:St B w0 67 [(3,_),(12,_),(13,_),(14,_),(54,_),(55,_),(60,_)] [⟨8,39,ptrH,_⟩] a w:=hst
      refine za0 ?_
      refine zc6 (fun a w =>  St B w0 67 [(3,In ((manyF (xs.take j)+lsI xs[j] (i+1):Nat):Int)),(12,(SlO 41 [U32] (xs.map LoA) True).va),(13,In (xs.length:Nat)),(14,In (j:Nat)),(54,(cat [GpA xs[j].p,GpA xs[j].q]).va),(55,In (i:Nat))] [⟨8,39,ptrH,GpA (gAt xs[j] i)⟩] a w) hst (zm 6 rfl) (fun hb5=>?_) (fun hb5=>?_) (fun a w hst=>?_)
      ·refine gl (sts:=[none]) (news:=[]) (sp:=[.val 61 _,.val 62 _,.val 3 _]) [.g 1,.g 2,.g 3,.g 4,.g 5,.o 2] hst (zv rfl (za1 (gq 0 rfl)) (zv rfl (zb9 (vq 0 rfl) za3 ((wi64 (by have:=zdq xs j; have:=zhw xs[j] i; omega) (by have:=zdq xs j; have:=zhw xs[j] i; omega)).trans (by omega:(_:Int)=((manyF (xs.take j)+(lsI xs[j] i+1):Nat):Int)))) (zv rfl (za2 (vq 1 rfl)) o0))) (fun a w hst=>?_)
       have hst:St B w0 67 [(12,_),(13,_),(14,_),(54,_),(55,_),(3,_)] [⟨8,39,ptrH,_⟩] a w:=hst
       refine za0 ?_
       have hst:=St.sel hst [5,0,1,2,3,4]
       have hm:=zdq xs j
       have hle:=zhw xs[j] i
       rw [lsI_1 hi hb5]
       exact hst
      ·refine wp_skip ?_
       refine za0 ?_
       have hst:=St.sel hst [0,1,2,3,4,5]
       rw [lsI_0 hi hb5]
       exact hst
      refine zan ?_
      refine za0 ?_
      refine gl (sts:=[none]) (news:=[]) (sp:=[.val 63 _,.val 55 _]) [.g 0,.g 1,.g 2,.g 3,.g 4,.o 1] hst (zv rfl (zb9 (gq 5 rfl) za3 ((wi64 zo zo).trans (by omega:(_:Int)=((i+1:Nat):Int)))) (zv rfl (za1 (vq 0 rfl)) o0)) (fun a w hst=>?_)
      have hst:St B w0 67 [(3,_),(12,_),(13,_),(14,_),(54,_),(55,_)] [⟨8,39,ptrH,_⟩] a w:=hst
      refine za0 ?_
      have hst:=St.sel hst [0,1,2,3,4,5]
      have hst:=St.selL hst []
      exact ⟨n-1,by omega,i+1,by omega,hst⟩
     ·obtain rfl:i=2:=by have:=of_decide_eq_false hb4; omega
      refine wp_exit ?_
      refine zai ?_
      refine zai ?_
      refine zb0 ?_
      refine zan ?_
      refine za0 ?_
      refine gl (sts:=[]) (news:=[]) (sp:=[.val 64 _,.val 14 _]) [.g 0,.g 1,.g 2,.o 1] hst (zv rfl (zb9 (gq 3 rfl) za3 ((wi64 zo zo).trans (by omega:(_:Int)=((j+1:Nat):Int)))) (zv rfl (za1 (vq 0 rfl)) o0)) (fun a w hst=>?_)
      have hst:St B w0 67 [(3,_),(12,_),(13,_),(14,_)] [] a w:=hst
      refine za0 ?_
      have hst:=St.sel hst [0,1,2,3]
      rw [← many_nx hj] at hst
      exact ⟨n1-1,by omega,j+1,⟨by omega,all_nx hj hno hlo⟩,hst⟩
  ·obtain rfl:j=xs.length:=by have:=of_decide_eq_false hb1; omega
   refine wp_exit ?_
   refine zai ?_
   refine zai ?_
   refine zb0 ?_
   refine zt ?_
   refine wp_seq ?_
   refine gl (sts:=[]) (news:=[]) (sp:=[.val 65 _,.val 66 _]) [.o 1] hst (zv rfl (za1 (gq 0 rfl)) (zv rfl (zg0 (vq 0 rfl) za3) o0)) (fun a w hst=>?_)
   have hst:St B w0 67 [(66,_)] [] a w:=hst
   refine za0 ?_
   refine zab hst (zm 0 rfl) (fun hb6=>?_) (fun hb6=>?_)
   ·have hm:manyF xs>12:=by rw [List.take_length] at hb6; have:=of_decide_eq_true hb6; omega
    refine wp_seq ?_
    refine gl (sts:=[]) (news:=[]) (sp:=[.val 2 _]) [.o 0] hst (zv rfl (za2 za3) o0) (fun a w hst=>?_)
    have hst:St B w0 67 [(2,_)] [] a w:=hst
    refine za0 ?_
    refine wp_ret ?_
    refine zak ?_
    refine zah ?_ (zaj rfl hst (zm 0 rfl))
    rw [List.take_length] at hno; rw [tchF,if_neg hbig,if_pos hno,if_pos hm]; exact zb1
   ·have hm:¬ manyF xs>12:=by rw [List.take_length] at hb6; have:=of_decide_eq_false hb6; omega
    refine wp_skip ?_
    refine zt<|gl (sts:=[]) (news:=[]) (sp:=[.val 2 _]) [.o 0] hst (zv rfl (za2 za3) o0) (fun a w hst=>?_)
    have hst:St B w0 67 [(2,_)] [] a w:=hst
    refine za0 ?_
    refine wp_ret ?_
    refine zah ?_ (zaj rfl hst (zm 0 rfl))
    rw [List.take_length] at hno; rw [tchF,if_neg hbig,if_pos hno,if_neg hm]; exact zb1
end Go.Proofs.YtlpppkkggljdcaaGreat
namespace Go.Proofs.YtlpppkkggljdcaaGreat
open Go Go.RowKit
end Go.Proofs.YtlpppkkggljdcaaGreat
namespace Go.Proofs.YtlpppkkggljdcaaGreat
open Go Go.RowKit
end Go.Proofs.YtlpppkkggljdcaaGreat
namespace Go.Proofs.YtlpppkkggljdcaaGreat
open Go Go.RowKit
def addN (l m:List Nat):Nat:=if val l+val m<4294967296^max l.length m.length then max l.length m.length else max l.length m.length+1
theorem sum_end {l m:List Nat}{i:Nat}(h:max l.length m.length≤i):sumTo l m i=val l+val m:=by
 unfold sumTo
 rw [List.take_of_length_le zo,List.take_of_length_le zo]
structure AddI (l m:List Nat) (i:Nat):Prop where
 le:i≤max l.length m.length+1
 top:i=max l.length m.length+1→4294967296^max l.length m.length≤val l+val m
theorem AddI.fin {l m:List Nat}{i:Nat}(h:AddI l m i)(hl:okL l)(hm:okL m)(hb:((decide ((i:Int)<(l.length:Int)) || decide ((i:Int)<(m.length:Int))) || decide (((sumTo l m i/4294967296^i:Nat):Int)>((0:Nat):Int)))=false):digs i (sumTo l m i)=digs (addN l m) (val l+val m):=by
 simp only [Bool.or_eq_false_iff,decide_eq_false_iff_not] at hb
 have h0:=h.le
 have h1:max l.length m.length≤i:=by omega
 rw [sum_end h1]
 rw [sum_end h1] at hb
 congr 1
 unfold addN
 by_cases e:i=max l.length m.length+1
 ·have:=h.top e
  rw [if_neg zo,e]
 ·have e':i=max l.length m.length:=by omega
  rw [if_pos,e']
  rw [← e']
  have hp:0<4294967296^i:=Nat.pow_pos zd
  refine (Nat.div_eq_zero_iff_lt hp).1 ?_
  generalize (val l+val m)/4294967296^i=z at *
  omega
end Go.Proofs.YtlpppkkggljdcaaGreat
namespace Go.Proofs.YtlpppkkggljdcaaGreat
open Go Go.RowKit
end Go.Proofs.YtlpppkkggljdcaaGreat
namespace Go.Proofs.YtlpppkkggljdcaaGreat
open Go Go.RowKit
section
variable {P:Program} {R:Rg} {Q:Exit→Act→World→Prop} {B i:Nat} {w0:Bs}
end
section
variable {P:Program} {R:Rg} {Q:Exit→Act→World→Prop} {B i:Nat} {w0:Bs}
end
end Go.Proofs.YtlpppkkggljdcaaGreat
namespace Go.Proofs.YtlpppkkggljdcaaGreat
open Go Go.RowKit
end Go.Proofs.YtlpppkkggljdcaaGreat
namespace Go.Proofs.YtlpppkkggljdcaaGreat
open Go Go.RowKit
section
variable {P:Program} {R:Rg} {Q:Exit→Act→World→Prop} {B i:Nat} {w0:Bs}
end
end Go.Proofs.YtlpppkkggljdcaaGreat
namespace Go.Proofs.YtlpppkkggljdcaaGreat
open Go Go.RowKit
theorem free_cat {l:List As}{B B':Nat}{w:World}(hB:B'≤B)(hl:∀ A∈l,FreeA A A){ds:List Value}(h:(cat l).p B ds w):(cat l).p B' ds w:=by
 obtain ⟨ps,rfl,h⟩:=h
 refine ⟨ps,rfl,?_⟩
 induction h with
 | nil=>exact .nil
 | cons h _ ih=>exact .cons ((hl _ (by simp)).2.2 _ _ _ _ hB h) (ih fun A hA=>hl A (by simp [hA]))
section
variable {P:Program} {R:Rg} {Q:Exit→Act→World→Prop} {B i:Nat} {w0:Bs}
theorem r_makeR {S E:TypeId}{m bytes n:Nat}{D:List TypeId}{x y:Operand}{it:TypeInfo}{z:Value}(hS:P.underlying S=some (.slice E))(hi:P.info? E=some it)(hz:it.zero=some z)(hsz:it.size=m)(hby:it.bytes=bytes)(hzs:z.cells.size=m)(hm0:0<m)(hb6:bytes≤1000)(hB:B≤w0.w.heap.size)(hx:Has R B w0 i x (In 0))(hy:Has R B w0 i y (In n))(hn:n≤17592186044):Wv P Q R B w0 i (.makeSlice S x y) (OwnR w0.w.heap.size E m D []) :=
 zba fun d T ps af gd a w av=>by
  have hbn:bytes*n≤1000*n:=Nat.mul_le_mul_right _ hb6
  have hm:=run_make (P:=P) w S E it z hS hi hz .i64 .i64 0 n zo zo (by
   have h6:((it.bytes*n:Nat):Int)≤281474976710656:=by rw [hby]; omega
   rwa [Int.natCast_mul] at h6) zo
  have e1:=zbc (hx a w av)
  have e2:=zbc (hy a w av)
  refine ⟨.slice (some ⟨w.heap.size,0,none⟩) 0 n,w.alloc (.cells (madeCells z.cells (n*it.size)) E),?_,Grow.alloc _ _,(fun A hA=>by cases hA),(fun A hA=>by cases hA),[],⟨[],rfl,.nil⟩,by simp,.inr ⟨w.heap.size,n,madeCells z.cells (n*it.size),rfl,av.base.size,by simpa using heap_alloc_new w _,Nat.zero_le _,by unfold maxLen; omega,?_,by simp⟩⟩
  ·simp only [Int.toNat_natCast] at hm
   simp [execOp,e1,e2,hm]
  ·rw [hsz]
   simp [madeCells]
end
end Go.Proofs.YtlpppkkggljdcaaGreat
