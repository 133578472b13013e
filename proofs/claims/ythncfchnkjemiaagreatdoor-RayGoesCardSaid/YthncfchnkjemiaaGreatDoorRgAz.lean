import Derived.Test.YthncfchnkjemiaaGreatDoorRgAa
import Derived.Test.YthncfchnkjemiaaGreatDoorRgAc
import Derived.Test.YthncfchnkjemiaaGreatDoorRgAv
import Derived.Test.YthncfchnkjemiaaGreatDoorRgAx
import Derived.Test.YthncfchnkjemiaaGreatDoorRgAy
set_option linter.unusedVariables false
set_option linter.unusedSimpArgs false
set_option linter.unusedSectionVars false
set_option maxRecDepth 100000
namespace Go.Proofs.YthncfchnkjemiaaGreatDoor
open Go Go.RowKit
def AllG (a:Act) (w:World):List (Nat × VA)→Prop
 | []=>True
 | x::l=>x.2.p w.heap.size (a.eval (.tmp x.1)) w∧AllG a w l
theorem AllG.mem {a:Act} {w:World}:∀ {l:List (Nat × VA)},AllG a w l→∀ x∈l,x.2.p w.heap.size (a.eval (.tmp x.1)) w
 | y::l,h,x,hx=>by
  rcases List.mem_cons.1 hx with rfl | hx
  ·exact h.1
  ·exact AllG.mem h.2 x hx
section
variable {P:Program} {B N:Nat} {w0:Bs} {Γ:List (Nat × VA)} {Λ:List Lc} {a:Act} {w:World}
theorem St.bw (h:St B w0 N Γ Λ a w):B≤w.heap.size:=Nat.le_trans (h.lo _ (.inl (Nat.le_refl _))) h.base.size
end
section
variable {P:Program} {Q:Exit→Act→World→Prop} {B N:Nat} {w0:Bs} {Γ:List (Nat × VA)} {Λ:List Lc} {a:Act} {w:World} {ops:Array Oper}
theorem go_first {id m:Nat} (hsz:ops.size=m+1) (h:wpOp P ops Q 0 (wpOps P ops Q (List.range' 1 m)) a w):(Code.region id ops false).wp P Q a w:=by
 refine wp_region ?_
 rw [List.range_eq_range',hsz,List.range'_succ,wpOps_cons]
 exact h
theorem go_restM {sp:List Sp} {d0 m:Nat} {A0:VA} (src:List Src) (h:St B w0 N ((d0,A0)::Γ) Λ a w) (h0:sp[0]?=some (.val d0 A0)) (hsz:ops.size=m+1)
  (hob:Obs P Q ⟨ops,N,Γ,les0 Λ,sp,fun i=>List.range i⟩ B w0 1 m) (hk:Rg.chk ⟨ops,N,Γ,les0 Λ,sp,fun i=>List.range i⟩=true) (hsrc:src.all (okS ⟨ops,N,Γ,les0 Λ,sp,fun i=>List.range i⟩)=true)
  (hQ:∀ a w,St B w0 N (src.filterMap (takeS ⟨ops,N,Γ,les0 Λ,sp,fun i=>List.range i⟩)) Λ a w→Q .normal a w):wpOps P ops Q (List.range' 1 m) a w:=by
 have e:m=ops.size - 1:=by omega
 subst e
 exact go_rest src h h0 zo hob hk hsrc hQ
end
theorem zfu {B:Nat} {w1:Bs} {Ts:List TypeId} (hB:B=w1.w.heap.size):∀ E,Ts.contains E=true→RowMay w1 B E:=fun E _ w g c fz _ h _=>.inl (hB▸h)
theorem nf_frd {x:RF} {n:Int}:∀ A∈[RFD x,NumA .i64 n],NewA A∧FreeA A A:=fun A hA=>by
 simp at hA
 rcases hA with rfl | rfl
 ·exact ⟨new_rfd,free_rfd⟩
 ·exact ⟨new_num _ _,free_num _ _⟩
theorem upA_rm (x:RM):UpA (RMA x) (RMA x):=zes (.cons (zel _) (.cons (zel _) (.cons (zel _) (.cons (zel _) .nil))))
theorem upA_rr (x:RR):UpA (RRA x) (RRA x):=zes (.cons (zel _) (.cons (zel _) .nil))
def ZBk:List As:=[NumA .i64 0,EqS (.slice none 0 0),EqS (.slice none 0 0),EqS (.slice none 0 0),EqS (.slice none 0 0),EqS (.slice none 0 0),EqS (.slice none 0 0),EqS (.slice none 0 0),EqS (.slice none 0 0),EqS (.slice none 0 0),EqS (.slice none 0 0),EqS (.slice none 0 0),EqS (.slice none 0 0),EqS (.slice none 0 0),EqS (.slice none 0 0),EqS (.slice none 0 0),EqS (.slice none 0 0)]
theorem str_book:Str Tryz.prog 59 ZBk :=
 Str.of (z:=.agg ([Value.int .i64 0]++List.replicate 16 (Value.slice none 0 0)).toArray) zk Tryz.underlying59 zk fun B w=>⟨[Value.int .i64 0]::List.replicate 16 [Value.slice none 0 0],rfl,.cons rfl (.cons ⟨rfl,rfl⟩ (.cons ⟨rfl,rfl⟩ (.cons ⟨rfl,rfl⟩ (.cons ⟨rfl,rfl⟩ (.cons ⟨rfl,rfl⟩ (.cons ⟨rfl,rfl⟩ (.cons ⟨rfl,rfl⟩ (.cons ⟨rfl,rfl⟩ (.cons ⟨rfl,rfl⟩ (.cons ⟨rfl,rfl⟩ (.cons ⟨rfl,rfl⟩ (.cons ⟨rfl,rfl⟩ (.cons ⟨rfl,rfl⟩ (.cons ⟨rfl,rfl⟩ (.cons ⟨rfl,rfl⟩ (.cons ⟨rfl,rfl⟩ .nil))))))))))))))))⟩
theorem zbk_bke:WkA (cat ZBk) (BkE []):=⟨rfl,rfl,fun B cs w ⟨ps,e,hp⟩=>by
 cases hp with
 | @cons _ c1 _ _ h1 hp=>cases hp with
  | @cons _ c2 _ _ h2 hp =>
   have h2':c2=[.slice none 0 0]:=h2.1
   subst h2'
   exact ⟨.slice none 0 0,_,e,.cons h1 (.cons ⟨rfl,World.ownsRow_nil ..,(fun s hs=>by cases hs),fun i j s t h=>by cases h⟩ hp)⟩⟩
section
open Rg
variable {P:Program} {Q:Exit→Act→World→Prop} {R:Rg} {B i:Nat} {w0:Bs}
theorem r_extT {t k:Nat} {v:Value} {l:List As} {us:List Value} {A:As} (hx:Has R B w0 i (.tmp t) (PinT v l us)) (hk:l[k]?=some A):Wv P Q R B w0 i (.extract (.tmp t) k) A.va:=by
 intro d T ps af gd a w av K hK
 obtain ⟨e1,vs,e2,h⟩:=hx a w av
 obtain ⟨y,hy,hp,_⟩:=h.get hk
 have e3:a.eval (.tmp t)=.tuple vs.toArray:=e1.trans e2
 exact zbl (w':=w) (v:=y) (by simp [execOp,e3,Instr.extract,hy]) (hK y w (Grow.refl w) hp)
end
def TwL (l:List Nat):As where
 n:=1
 ag:=false
 p B cs w:=okL l∧∃ g,cs=[.slice (some ⟨g,0,none⟩) l.length (l.length+1)]∧l.length+1≤maxLen∧w.heap[g]?=some (.cells ((l++[7777]).map fun (x:Nat)=>Value.int .u32 x).toArray U32 (0,0))
 deps:=[U32]
 len:=by rintro B cs w ⟨_,g,rfl,_⟩; rfl
 one:=by rintro B cs w ⟨_,g,rfl,_⟩ x hx; simp at hx; subst hx; rfl
 ag1:=fun _=>rfl
 cg:=by
  rintro B cs w w' hg ⟨h0,g,rfl,h2,h3⟩
  exact ⟨h0,g,rfl,h2,hg.heap h3⟩
 wr:=by
  rintro B cs w w' g c T fz hg hT hB hW ⟨h0,g',rfl,h2,h3⟩
  refine ⟨h0,g',rfl,h2,?_⟩
  rw [hW.block g' fun hh=>?_]
  ·exact h3
  ·subst hh
   rw [hg] at h3
   simp only [Option.some.injEq,Obj.cells.injEq] at h3
   exact hT (by simp [h3.2.1])
theorem twn_twr {l:List Nat}:WkA (TwN l) (TwL l):=⟨rfl,rfl,fun B cs w ⟨ok,g,e,h1,h2,h3⟩=>⟨ok,g,e,h2,h3⟩⟩
theorem twR_A {l:List Nat}:Wk (TwL l).va (MgA l).va:=fun B v w ⟨cs,⟨ok,g,e,h2,h3⟩,hv⟩=>by
 subst e
 have e2:v=.slice (some ⟨g,0,none⟩) l.length (l.length+1):=hv
 subst e2
 have:=zex ((twN_full (B:=B) ok h2 h3).take l.length) (n:=l.length) (by simp)
 rwa [List.take_left] at this
theorem wkA_twR {l:List Nat}:WkA (TwL l) (MgA l):=⟨rfl,rfl,fun B cs w h=>by
 obtain ⟨cs',h1,h2⟩:=twR_A B (shape false cs) w ⟨cs,h,rfl⟩
 have l1:=(TwL l).len _ _ _ h
 have l2:=(MgA l).len _ _ _ h1
 match cs,cs',l1,l2 with
 | [c],[c'],_,_ =>
  have e:c=c':=h2
  subst e
  exact h1⟩
section
variable {P:Program} {R:Rg} {Q:Exit→Act→World→Prop} {B i:Nat} {w0:Bs}
theorem twR_va {l:List Nat} {B:Nat} {v:Value} {w:World} (h:(TwL l).va.p B v w):okL l∧∃ g,v=.slice (some ⟨g,0,none⟩) l.length (l.length+1)∧l.length+1≤maxLen∧w.heap[g]?=some (.cells ((l++[7777]).map fun (x:Nat)=>Value.int .u32 x).toArray U32 (0,0)):=by
 obtain ⟨cs,⟨ok,g,e,h2,h3⟩,hv⟩:=h
 subst e
 exact ⟨ok,g,hv,h2,h3⟩
theorem r_capR {x:Operand} {S E':TypeId} {l:List Nat} (hS:P.underlying S=some (.slice E')) (hx:Has R B w0 i x (TwL l).va):Wv P Q R B w0 i (.call ⟨.builtin .cap,#[x],#[S]⟩) (In ((l.length+1:Nat):Int)) :=
 zbq fun d T ps af gd a w av=>by
  obtain ⟨_,g,hv,_,_⟩:=twR_va (hx a w av)
  refine ⟨.int .i64 ((l.length+1:Nat):Int),w,?_,Grow.refl w,zdk _ _ _ _⟩
  simp [execOp,resolve,invoke,builtin,hv,Builtin.cap_,run_underlying hS,goInt]
theorem r_reslR {x z:Operand} {S:TypeId} {l:List Nat} (hS:Sl P S U32 1) (hx:Has R B w0 i x (TwL l).va) (hz:Has R B w0 i z (In ((l.length+1:Nat):Int))):Wv P Q R B w0 i (.slice S x none (some z) none) (MgA (l++[7777])).va :=
 zbq fun d T ps af gd a w av=>by
  obtain ⟨hs1,hs2⟩:=hS
  obtain ⟨ok,g,e1,hm,hh⟩:=twR_va (hx a w av)
  have e3:=zbw (hz a w av)
  have hE:P.elem S=U32:=by simp [Program.elem,hs1]
  have hs1':P.underlying S=some (.slice (P.elem S)):=by rw [hE]; exact hs1
  have hsz:∀ w,(sizeOf U32).run P w=.ok 1 w:=fun w=>by
   cases hi:P.info? U32 with
   | none=>rw [hi] at hs2; simp at hs2
   | some it=>rw [hi] at hs2; simp [sizeOf,typeInfo,hi]; simpa using hs2
  refine ⟨.slice (some ⟨g,0,none⟩) (l.length+1) (l.length+1),w,?_,Grow.refl w,zex (twN_full ok hm hh) (by simp)⟩
  have hr:=run_slice_h (P:=P) w S (some ⟨g,0,none⟩) l.length (l.length+1) hs1' .i64 ((l.length+1:Nat):Int) zo zo
  rw [hE,hsz] at hr
  have hne:¬ l.length+1=0:=by omega
  simp only [Result.andThen_ok,sliced,Int.toNat_natCast,hne,if_false,Nat.mul_one,Option.map_some,Nat.sub_zero] at hr
  simp only [execOp,e1,e3,Option.map_some,run_sliceAt_slice _ _ _ _ _ _ hs1',Sem.run_bind,Sem.run_pure]
  erw [hr]
  simp [Addr.add]
end
def RIR (x:RI):As:=cat [BoA x.neg,TwL x.mag]
def RFR (x:RF):As:=cat [RIR x.num,RIR x.den]
def RMR (x:RM):As:=cat [RFR x.a,RFR x.b,RFR x.c,RFR x.d]
def RRR (x:RR):As:=cat [RFR x.y,RFR x.u]
theorem wkA_rir {x:RI}:WkA (RIR x) (RIA x):=zc0 (.cons (.refl _) (.cons wkA_twR .nil))
theorem zhi {x:RF}:WkA (RFR x) (RFA x):=zc0 (.cons wkA_rir (.cons wkA_rir .nil))
theorem wkA_rmr {x:RM}:WkA (RMR x) (RMA x):=zc0 (.cons zhi (.cons zhi (.cons zhi (.cons zhi .nil))))
theorem wkA_rrr {x:RR}:WkA (RRR x) (RRA x):=zc0 (.cons zhi (.cons zhi .nil))
def OF (x:RF):As:=cat [RIO x.num,RIO x.den]
def OM (x:RM):As:=cat [OF x.a,OF x.b,OF x.c,OF x.d]
def OR (x:RR):As:=cat [OF x.y,OF x.u]
theorem up_of {x:RF}:UpA (RFA x) (OF x):=zes (.cons (up_ri _) (.cons (up_ri _) .nil))
theorem up_om {x:RM}:UpA (RMA x) (OM x):=zes (.cons up_of (.cons up_of (.cons up_of (.cons up_of .nil))))
theorem up_orr {x:RR}:UpA (RRA x) (OR x):=zes (.cons up_of (.cons up_of .nil))
theorem wkA_riO {x:RI}:WkA (RIO x) (RIA x):=⟨rfl,rfl,fun B cs w h=>by
 obtain ⟨ps,e,h⟩:=h
 subst e
 cases h with
 | cons h1 h=>cases h with
  | @cons _ c _ _ h2 h =>
   cases h
   refine ⟨_,rfl,.cons h1 (.cons ?_ .nil)⟩
   obtain ⟨cs',q1,q2⟩:=zgs B (shape false c) w ⟨c,h2,rfl⟩
   have l1:=(MgO x.mag).len _ _ _ h2
   have l2:=(MgA x.mag).len _ _ _ q1
   match c,cs',l1,l2 with
   | [c],[c'],_,_ =>
    have e:c=c':=q2
    subst e
    exact q1⟩
theorem zki {x:RF}:WkA (OF x) (RFA x):=zc0 (.cons wkA_riO (.cons wkA_riO .nil))
theorem om_rma {x:RM}:WkA (OM x) (RMA x):=zc0 (.cons zki (.cons zki (.cons zki (.cons zki .nil))))
theorem or_rra {x:RR}:WkA (OR x) (RRA x):=zc0 (.cons zki (.cons zki .nil))
theorem upA_twR {l:List Nat}:UpA (TwL l) (TwL l):=⟨rfl,rfl,fun _ _ _ _ h=>h⟩
theorem upA_rir {x:RI}:UpA (RIR x) (RIR x):=zes (.cons (up_bo _) (.cons upA_twR .nil))
theorem zhk {x:RF}:UpA (RFR x) (RFR x):=zes (.cons upA_rir (.cons upA_rir .nil))
theorem upA_rmr {x:RM}:UpA (RMR x) (RMR x):=zes (.cons zhk (.cons zhk (.cons zhk (.cons zhk .nil))))
theorem upA_rrr {x:RR}:UpA (RRR x) (RRR x):=zes (.cons zhk (.cons zhk .nil))
theorem rit_rir {x:RI}:WkA (RIT x) (RIR x):=zc0 (.cons (.refl _) (.cons twn_twr .nil))
theorem zhq {x:RF}:WkA (RFT x) (RFR x):=zc0 (.cons rit_rir (.cons rit_rir .nil))
theorem zl0 {x:RM}:WkA (RMT x) (RMR x):=zc0 (.cons zhq (.cons zhq (.cons zhq (.cons zhq .nil))))
theorem zgj {x:RR}:WkA (RRT x) (RRR x):=zc0 (.cons zhq (.cons zhq .nil))
set_option maxHeartbeats 1000000 in
theorem zkl (x y:RI) (hx:x.mag.length≤1000000000000):Cn Tryz.prog 171 [(RIR x).va,(RIA y).va] (Bo (decide (x=y))):=by
 refine Cn.intro Tryz.func171 rfl zk nq (fun B w0 a hst=>?_)
 have hst:St B w0 32 [(0,(RIR x).va),(1,(RIA y).va)] [] a w0.w:=hst
 refine wp_seq ?_
 refine gl (sts:=[]) (news:=[⟨2,24,ptrH,some 0,_,none⟩,⟨3,24,ptrH,some 1,_,none⟩]) (sp:=[.alc 0,.alc 1,.val 4 _]) [.o 2] hst (oc (zai rfl rfl rfl (gq 0 rfl)) (oc (zai rfl rfl rfl (gq 1 rfl)) (zv rfl rfl (za1 zb2) o0))) (fun a w hst=>?_)
 have hst:St B w0 32 [(4,_)] [⟨2,24,ptrH,_⟩,⟨3,24,ptrH,_⟩] a w:=hst
 refine zt ?_
 refine zaw (anc:=[[],[],[0,1],[0,1,2],[0,1,2,3],[0,1,2,3,4],[0,1,2,3,4,5],[0,1,2,3],[0,1,2,3,7],[0,1,2,3,7,8],[0,1,2,3,4,5,6,7,8,9],[0,1,2,3,4,5,6,7,8,9,10],[0,1,2,3,4,5,6,7,8,9,10,11],[0,1,2,3,4,5,6,7,8,9,10,11,12],[0,1,2,3,4,5,6,7,8,9,10,11,12,13],[0,1,2,3,4,5,6,7,8,9,10,11,12],[0,1,2,3,4,5,6,7,8,9,10,11,12,15],[0,1,2,3,4,5,6,7,8,9,10,11,12,15,16],[0,1,2,3,4,5,6,7,8,9,10,11,12,15,16,17],[0,1,2,3,4,5,6,7,8,9,10,11,12,13,14,15,16,17,18],[0,1,2,3,4,5,6,7,8,9,10,11,12],[0,1,2,3,4,5,6,7,8,9,10,11,12,20],[0,1,2,3,4,5,6,7,8,9,10,11,12,20,21],[0,1,2,3,4,5,6,7,8,9,10,11,12,13,14,15,16,17,18,19,20,21,22],[0,1,2,3,4,5,6,7,8,9,10,11,12,13,14,15,16,17,18,19,20,21,22,23],[0,1,2,3,4,5,6,7,8,9,10,11,12,13,14,15,16,17,18,19,20,21,22,23,24],[0,1,2,3,4,5,6,7,8,9,10,11,12,13,14,15,16,17,18,19,20,21,22,23,24,25],[0,1,2,3,4,5,6,7,8,9,10,11,12,13,14,15,16,17,18,19,20,21,22,23,24,25,26]]) (sts:=[none,none]) (news:=[]) (sp:=((.val 5 _:Sp)::(.val 6 _)::(.val 7 _)::(.val 8 _)::(.adr 9 2 (.some 1) (_=true))::(.val 10 (Wh (_=true) _))::(.val 11 (Wh (_=true) _))::(.adr 12 2 (.some 1) (_=true))::(.val 13 (Wh (_=true) _))::(.val 14 (Wh (_=true) _))::(.val 15 (Wh (_=true) _))::(.val 16 _)::(.val 17 _)::(.adr 18 2 (.some 1) (_=true))::(.val 19 (Wh (_=true) _))::(.adr 20 2 (.some 1) (_=true))::(.val 21 (Wh (_=true) _))::(.val 22 (Wh (_=true) _))::(.val 23 (Wh (_=true) _))::(.val 24 (Wh (_=true) _))::(.adr 25 2 (.some 1) (_=true))::(.val 26 (Wh (_=true) _))::(.val 27 (Wh (_=true) _))::(.val 28 (Wh (_=true) _))::(.val 29 (Wh (_=true) _))::(.val 30 (Wh (_=true) _))::(.val 31 _)::(.val 4 _)::[])) [.o 27] za7 hst (zv rfl rfl (zac (lz0 0 rfl) zab) (zv rfl rfl (zac (lz0 1 rfl) zab) (zv rfl rfl (za5 (xs:=[.tmp 5,.tmp 6]) ((zj0 x y).wk (.cons wkA_rir.va (.cons zbs .nil))) (.cons (vq 0 rfl) (.cons (vq 1 rfl) .nil))) (zv rfl rfl (za2 (vq 2 rfl)) (oc (zcc rfl rfl rfl (vq 3 rfl) nq (fun hg=>za9 (lz0 0 rfl) zal)) (oc (zah rfl rfl rfl (vq 3 rfl) nq (fun hg=>za4 4 rfl zk hg (lz0 0 rfl) (Sub.part 1 rfl rfl) zbb)) (oc (zah rfl rfl rfl (vq 3 rfl) nq (fun hg=>r_capR Tryz.underlying22 (zaa (vq 5 rfl) hg))) (oc (zcc rfl rfl rfl (vq 3 rfl) nq (fun hg=>za9 (lz0 0 rfl) zal)) (oc (zah rfl rfl rfl (vq 3 rfl) nq (fun hg=>za4 7 rfl zk hg (lz0 0 rfl) (Sub.part 1 rfl rfl) zbb)) (oc (zah rfl rfl rfl (vq 3 rfl) nq (fun hg=>zaz Tryz.underlying22 (has_wk' (zaa (vq 8 rfl) hg) twR_A))) (oc (zah rfl rfl rfl (vq 3 rfl) nq (fun hg=>zgg (zaa (vq 6 rfl) hg) (zaa (vq 9 rfl) hg))) (zv rfl rfl (zcl (vq 3 rfl) (vq 10 rfl)) (zv rfl rfl (za2 (vq 11 rfl)) (oc (zcc rfl rfl rfl (vq 12 rfl) nq (fun hg=>za9 (lz0 0 rfl) zal)) (oc (zah rfl rfl rfl (vq 12 rfl) nq (fun hg=>za4 13 rfl zk hg (lz0 0 rfl) (Sub.part 1 rfl rfl) zbb)) (oc (zcc rfl rfl rfl (vq 12 rfl) nq (fun hg=>za9 (lz0 0 rfl) zal)) (oc (zah rfl rfl rfl (vq 12 rfl) nq (fun hg=>za4 15 rfl zk hg (lz0 0 rfl) (Sub.part 1 rfl rfl) zbb)) (oc (zah rfl rfl rfl (vq 12 rfl) nq (fun hg=>zaz Tryz.underlying22 (has_wk' (zaa (vq 16 rfl) hg) twR_A))) (oc (zah rfl rfl rfl (vq 12 rfl) nq (fun hg=>zbg (zaa (vq 17 rfl) hg) za3 (zbj zo))) (oc (zah rfl rfl rfl (vq 12 rfl) nq (fun hg=>r_reslR zbc (zaa (vq 14 rfl) hg) (zaa (vq 18 rfl) hg))) (oc (zcc rfl rfl rfl (vq 12 rfl) nq (fun hg=>za9 (lz0 0 rfl) zal)) (oc (zah rfl rfl rfl (vq 12 rfl) nq (fun hg=>za4 20 rfl zk hg (lz0 0 rfl) (Sub.part 1 rfl rfl) zbb)) (oc (zah rfl rfl rfl (vq 12 rfl) nq (fun hg=>zaz Tryz.underlying22 (has_wk' (zaa (vq 21 rfl) hg) twR_A))) (oc (zah rfl rfl rfl (vq 12 rfl) nq (fun hg=>zl4 zbc (zaa (vq 19 rfl) hg) (zaa (vq 22 rfl) hg) (by simp))) (oc (zah rfl rfl rfl (vq 12 rfl) nq (fun hg=>zad (zaa (vq 23 rfl) hg) zb1)) (oc (zah rfl rfl rfl (vq 12 rfl) nq (fun hg=>zdj (zaa (vq 24 rfl) hg) (zav 7777 rfl))) (zv rfl rfl (zcl (vq 12 rfl) (vq 25 rfl)) (zv rfl rfl (za1 (vq 26 rfl)) o0)))))))))))))))))))))))))))) zk zk zk zk (fun a w hst=>?_)
 have hst:St B w0 32 [(4,_)] [⟨2,24,ptrH,_⟩,⟨3,24,ptrH,_⟩] a w:=hst
 refine za0 ?_
 refine wp_ret ?_
 refine zan ?_ (zae rfl hst (zm 0 rfl))
 refine zbv (congrArg Bo ?_); simp; omega
theorem zdz (x y:RF) (hx:bdF x):Cn Tryz.prog 35 [(RFR x).va,(RFA y).va] (Bo (decide (x=y))):=by
 refine Cn.intro Tryz.func35 rfl zk nq (fun B w0 a hst=>?_)
 have hst:St B w0 17 [(0,(RFR x).va),(1,(RFA y).va)] [] a w0.w:=hst
 refine wp_seq ?_
 refine gl (sts:=[]) (news:=[⟨2,26,ptrH,some 0,_,none⟩,⟨3,26,ptrH,some 1,_,none⟩]) (sp:=[.alc 0,.alc 1,.val 4 _]) [.o 2] hst (oc (zai rfl rfl rfl (gq 0 rfl)) (oc (zai rfl rfl rfl (gq 1 rfl)) (zv rfl rfl (za1 zb2) o0))) (fun a w hst=>?_)
 have hst:St B w0 17 [(4,_)] [⟨2,26,ptrH,_⟩,⟨3,26,ptrH,_⟩] a w:=hst
 refine zt ?_
 refine gl (sts:=[none,none]) (news:=[]) (sp:=[.adr 5 2 (.some 0) True,.val 6 _,.adr 7 3 (.some 0) True,.val 8 _,.val 9 _,.val 10 _,.adr 11 2 (.some 2) (_=true),.val 12 (Wh (_=true) _),.adr 13 3 (.some 2) (_=true),.val 14 (Wh (_=true) _),.val 15 (Wh (_=true) _),.val 16 _,.val 4 _]) [.o 12] hst (oc (ob_a rfl rfl (za9 (lz0 0 rfl) zbh)) (zv rfl rfl (za4 0 rfl zk trivial (lz0 0 rfl) (Sub.part 0 rfl rfl) zab) (oc (ob_a rfl rfl (za9 (lz0 1 rfl) zbh)) (zv rfl rfl (za4 2 rfl zk trivial (lz0 1 rfl) (Sub.part 0 rfl rfl) zab) (zv rfl rfl (za5 (xs:=[.tmp 6,.tmp 8]) (zkl _ _ hx.1) (.cons (vq 1 rfl) (.cons (vq 3 rfl) .nil))) (zv rfl rfl (za2 (vq 4 rfl)) (oc (zcc rfl rfl rfl (vq 5 rfl) nq (fun hg=>za9 (lz0 0 rfl) zb3)) (oc (zah rfl rfl rfl (vq 5 rfl) nq (fun hg=>za4 6 rfl zk hg (lz0 0 rfl) (Sub.part 1 rfl rfl) zab)) (oc (zcc rfl rfl rfl (vq 5 rfl) nq (fun hg=>za9 (lz0 1 rfl) zb3)) (oc (zah rfl rfl rfl (vq 5 rfl) nq (fun hg=>za4 8 rfl zk hg (lz0 1 rfl) (Sub.part 1 rfl rfl) zab)) (oc (zah rfl rfl rfl (vq 5 rfl) nq (fun hg=>za5 (xs:=[.tmp 12,.tmp 14]) (zkl _ _ hx.2) (.cons (zaa (vq 7 rfl) hg) (.cons (zaa (vq 9 rfl) hg) .nil)))) (zv rfl rfl (zcl (vq 5 rfl) (vq 10 rfl)) (zv rfl rfl (za1 (vq 11 rfl)) o0))))))))))))) (fun a w hst=>?_)
 have hst:St B w0 17 [(4,_)] [⟨2,26,ptrH,_⟩,⟨3,26,ptrH,_⟩] a w:=hst
 refine za0 ?_
 refine wp_ret ?_
 refine zan ?_ (zae rfl hst (zm 0 rfl))
 exact zbv (congrArg Bo rf_eq)
theorem zkk (x y:RR) (hx:bdF x.y∧bdF x.u):Cn Tryz.prog 22 [(RRR x).va,(RRA y).va] (Bo (decide (x=y))):=by
 refine Cn.intro Tryz.func22 rfl zk nq (fun B w0 a hst=>?_)
 have hst:St B w0 17 [(0,(RRR x).va),(1,(RRA y).va)] [] a w0.w:=hst
 refine wp_seq ?_
 refine gl (sts:=[]) (news:=[⟨2,30,ptrH,some 0,_,none⟩,⟨3,30,ptrH,some 1,_,none⟩]) (sp:=[.alc 0,.alc 1,.val 4 _]) [.o 2] hst (oc (zai rfl rfl rfl (gq 0 rfl)) (oc (zai rfl rfl rfl (gq 1 rfl)) (zv rfl rfl (za1 zb2) o0))) (fun a w hst=>?_)
 have hst:St B w0 17 [(4,_)] [⟨2,30,ptrH,_⟩,⟨3,30,ptrH,_⟩] a w:=hst
 refine zt ?_
 refine gl (sts:=[none,none]) (news:=[]) (sp:=[.adr 5 2 (.some 0) True,.val 6 _,.adr 7 3 (.some 0) True,.val 8 _,.val 9 _,.val 10 _,.adr 11 2 (.some 4) (_=true),.val 12 (Wh (_=true) _),.adr 13 3 (.some 4) (_=true),.val 14 (Wh (_=true) _),.val 15 (Wh (_=true) _),.val 16 _,.val 4 _]) [.o 12] hst (oc (ob_a rfl rfl (za9 (lz0 0 rfl) zc6)) (zv rfl rfl (za4 0 rfl zk trivial (lz0 0 rfl) (Sub.part 0 rfl rfl) zag) (oc (ob_a rfl rfl (za9 (lz0 1 rfl) zc6)) (zv rfl rfl (za4 2 rfl zk trivial (lz0 1 rfl) (Sub.part 0 rfl rfl) zag) (zv rfl rfl (za5 (xs:=[.tmp 6,.tmp 8]) (zdz _ _ hx.1) (.cons (vq 1 rfl) (.cons (vq 3 rfl) .nil))) (zv rfl rfl (za2 (vq 4 rfl)) (oc (zcc rfl rfl rfl (vq 5 rfl) nq (fun hg=>za9 (lz0 0 rfl) zc5)) (oc (zah rfl rfl rfl (vq 5 rfl) nq (fun hg=>za4 6 rfl zk hg (lz0 0 rfl) (Sub.part 1 rfl rfl) zag)) (oc (zcc rfl rfl rfl (vq 5 rfl) nq (fun hg=>za9 (lz0 1 rfl) zc5)) (oc (zah rfl rfl rfl (vq 5 rfl) nq (fun hg=>za4 8 rfl zk hg (lz0 1 rfl) (Sub.part 1 rfl rfl) zag)) (oc (zah rfl rfl rfl (vq 5 rfl) nq (fun hg=>za5 (xs:=[.tmp 12,.tmp 14]) (zdz _ _ hx.2) (.cons (zaa (vq 7 rfl) hg) (.cons (zaa (vq 9 rfl) hg) .nil)))) (zv rfl rfl (zcl (vq 5 rfl) (vq 10 rfl)) (zv rfl rfl (za1 (vq 11 rfl)) o0))))))))))))) (fun a w hst=>?_)
 have hst:St B w0 17 [(4,_)] [⟨2,30,ptrH,_⟩,⟨3,30,ptrH,_⟩] a w:=hst
 refine za0 ?_
 refine wp_ret ?_
 refine zan ?_ (zae rfl hst (zm 0 rfl))
 exact zbv (congrArg Bo rr_eq)
theorem leftMatrixR_c (x y:RM) (hx:bdF x.a∧bdF x.b∧bdF x.c∧bdF x.d):Cn Tryz.prog 21 [(RMR x).va,(RMA y).va] (Bo (decide (x=y))):=by
 refine Cn.intro Tryz.func21 rfl zk nq (fun B w0 a hst=>?_)
 have hst:St B w0 31 [(0,(RMR x).va),(1,(RMA y).va)] [] a w0.w:=hst
 refine wp_seq ?_
 refine gl (sts:=[]) (news:=[⟨2,28,ptrH,some 0,_,none⟩,⟨3,28,ptrH,some 1,_,none⟩]) (sp:=[.alc 0,.alc 1,.val 4 _]) [.o 2] hst (oc (zai rfl rfl rfl (gq 0 rfl)) (oc (zai rfl rfl rfl (gq 1 rfl)) (zv rfl rfl (za1 zb2) o0))) (fun a w hst=>?_)
 have hst:St B w0 31 [(4,_)] [⟨2,28,ptrH,_⟩,⟨3,28,ptrH,_⟩] a w:=hst
 refine zt ?_
 refine gl (sts:=[none,none]) (news:=[]) (sp:=((.adr 5 2 (.some 0) True:Sp)::(.val 6 _)::(.adr 7 3 (.some 0) True)::(.val 8 _)::(.val 9 _)::(.val 10 _)::(.adr 11 2 (.some 4) (_=true))::(.val 12 (Wh (_=true) _))::(.adr 13 3 (.some 4) (_=true))::(.val 14 (Wh (_=true) _))::(.val 15 (Wh (_=true) _))::(.val 16 _)::(.val 17 _)::(.adr 18 2 (.some 8) (_=true))::(.val 19 (Wh (_=true) _))::(.adr 20 3 (.some 8) (_=true))::(.val 21 (Wh (_=true) _))::(.val 22 (Wh (_=true) _))::(.val 23 _)::(.val 24 _)::(.adr 25 2 (.some 12) (_=true))::(.val 26 (Wh (_=true) _))::(.adr 27 3 (.some 12) (_=true))::(.val 28 (Wh (_=true) _))::(.val 29 (Wh (_=true) _))::(.val 30 _)::(.val 4 _)::[])) [.o 26] hst (oc (ob_a rfl rfl (za9 (lz0 0 rfl) zd6)) (zv rfl rfl (za4 0 rfl zk trivial (lz0 0 rfl) (Sub.part 0 rfl rfl) zag) (oc (ob_a rfl rfl (za9 (lz0 1 rfl) zd6)) (zv rfl rfl (za4 2 rfl zk trivial (lz0 1 rfl) (Sub.part 0 rfl rfl) zag) (zv rfl rfl (za5 (xs:=[.tmp 6,.tmp 8]) (zdz _ _ hx.1) (.cons (vq 1 rfl) (.cons (vq 3 rfl) .nil))) (zv rfl rfl (za2 (vq 4 rfl)) (oc (zcc rfl rfl rfl (vq 5 rfl) nq (fun hg=>za9 (lz0 0 rfl) zd5)) (oc (zah rfl rfl rfl (vq 5 rfl) nq (fun hg=>za4 6 rfl zk hg (lz0 0 rfl) (Sub.part 1 rfl rfl) zag)) (oc (zcc rfl rfl rfl (vq 5 rfl) nq (fun hg=>za9 (lz0 1 rfl) zd5)) (oc (zah rfl rfl rfl (vq 5 rfl) nq (fun hg=>za4 8 rfl zk hg (lz0 1 rfl) (Sub.part 1 rfl rfl) zag)) (oc (zah rfl rfl rfl (vq 5 rfl) nq (fun hg=>za5 (xs:=[.tmp 12,.tmp 14]) (zdz _ _ hx.2.1) (.cons (zaa (vq 7 rfl) hg) (.cons (zaa (vq 9 rfl) hg) .nil)))) (zv rfl rfl (zcl (vq 5 rfl) (vq 10 rfl)) (zv rfl rfl (za2 (vq 11 rfl)) (oc (zcc rfl rfl rfl (vq 12 rfl) nq (fun hg=>za9 (lz0 0 rfl) zcx)) (oc (zah rfl rfl rfl (vq 12 rfl) nq (fun hg=>za4 13 rfl zk hg (lz0 0 rfl) (Sub.part 2 rfl rfl) zag)) (oc (zcc rfl rfl rfl (vq 12 rfl) nq (fun hg=>za9 (lz0 1 rfl) zcx)) (oc (zah rfl rfl rfl (vq 12 rfl) nq (fun hg=>za4 15 rfl zk hg (lz0 1 rfl) (Sub.part 2 rfl rfl) zag)) (oc (zah rfl rfl rfl (vq 12 rfl) nq (fun hg=>za5 (xs:=[.tmp 19,.tmp 21]) (zdz _ _ hx.2.2.1) (.cons (zaa (vq 14 rfl) hg) (.cons (zaa (vq 16 rfl) hg) .nil)))) (zv rfl rfl (zcl (vq 12 rfl) (vq 17 rfl)) (zv rfl rfl (za2 (vq 18 rfl)) (oc (zcc rfl rfl rfl (vq 19 rfl) nq (fun hg=>za9 (lz0 0 rfl) zcw)) (oc (zah rfl rfl rfl (vq 19 rfl) nq (fun hg=>za4 20 rfl zk hg (lz0 0 rfl) (Sub.part 3 rfl rfl) zag)) (oc (zcc rfl rfl rfl (vq 19 rfl) nq (fun hg=>za9 (lz0 1 rfl) zcw)) (oc (zah rfl rfl rfl (vq 19 rfl) nq (fun hg=>za4 22 rfl zk hg (lz0 1 rfl) (Sub.part 3 rfl rfl) zag)) (oc (zah rfl rfl rfl (vq 19 rfl) nq (fun hg=>za5 (xs:=[.tmp 26,.tmp 28]) (zdz _ _ hx.2.2.2) (.cons (zaa (vq 21 rfl) hg) (.cons (zaa (vq 23 rfl) hg) .nil)))) (zv rfl rfl (zcl (vq 19 rfl) (vq 24 rfl)) (zv rfl rfl (za1 (vq 25 rfl)) o0))))))))))))))))))))))))))) (fun a w hst=>?_)
 have hst:St B w0 31 [(4,_)] [⟨2,28,ptrH,_⟩,⟨3,28,ptrH,_⟩] a w:=hst
 refine za0 ?_
 refine wp_ret ?_
 refine zan ?_ (zae rfl hst (zm 0 rfl))
 exact zbv (congrArg Bo rm_eq)
end Go.Proofs.YthncfchnkjemiaaGreatDoor
namespace Go.Proofs.YthncfchnkjemiaaGreatDoor
open Go Go.RowKit
def RRN (x:RR):As:=cat [RFN x.y,RFN x.u]
def RMN (x:RM):As:=cat [RFN x.a,RFN x.b,RFN x.c,RFN x.d]
def RRD (x:RR):As:=DisA (RRN x)
theorem new_rfn {x:RF}:NewA (RFN x):=zfa fun A hA=>by
 simp at hA
 rcases hA with rfl | rfl <;> exact new_riN _
theorem zi0 {x:RR}:NewA (RRD x):=zi3 (zfa fun A hA=>by
 simp at hA
 rcases hA with rfl | rfl <;> exact new_rfn)
theorem free_rfn {x:RF}:FreeA (RFN x) (RFN x):=ze4 (.cons (zff _) (.cons (zff _) .nil))
theorem free_rrd {x:RR}:FreeA (RRD x) (RRD x):=zgb (ze4 (.cons free_rfn (.cons free_rfn .nil)))
theorem rfn_rfa {x:RF}:WkA (RFN x) (RFA x):=zc0 (.cons wkA_riN (.cons wkA_riN .nil))
theorem rrd_rra {x:RR}:WkA (RRD x) (RRA x):=dis_wk.trans (zc0 (.cons rfn_rfa (.cons rfn_rfa .nil)))
theorem qd_rfn {k:Nat} {q:Rat}:WkA (QD k q) (RFN (rfOf q)):=qd_rfd.trans dis_wk
theorem twn_mgn {l:List Nat}:WkA (TwN l) (MgN l):=⟨rfl,rfl,fun B cs w ⟨ok,g,e,h1,h2,h3⟩=>⟨ok,.inr ⟨g,[7777],by rw [e]; simp,by simpa using h2,h1,h3⟩⟩⟩
theorem rit_rin {x:RI}:WkA (RIT x) (RIN x):=zc0 (.cons (.refl _) (.cons twn_mgn .nil))
theorem zhr {x:RF}:WkA (RFT x) (RFN x):=zc0 (.cons rit_rin (.cons rit_rin .nil))
theorem rrt_rrn {x:RR}:WkA (RRT x) (RRN x):=zc0 (.cons zhr (.cons zhr .nil))
theorem rmt_rmn {x:RM}:WkA (RMT x) (RMN x):=zc0 (.cons zhr (.cons zhr (.cons zhr (.cons zhr .nil))))
theorem kbl_app {l m:KL}:kbl (l++m)=kbl l++kbl m:=List.filterMap_append ..
theorem rin_ok {x:RI} {B:Nat} {cs:List Value} {w:World} (h:(RIN x).p B cs w):okL x.mag:=by
 obtain ⟨ps,rfl,hp⟩:=h
 cases hp with
 | cons h1 hp=>cases hp with
  | cons h2 hp=>exact h2.1
abbrev OkK (l:KL):Prop:=∀ p∈l,okL p.2
theorem zef {l m:KL} (h:OkK l) (k:OkK m):OkK (l++m):=fun p hp=>by
 rcases List.mem_append.1 hp with hp | hp
 ·exact h p hp
 ·exact k p hp
abbrev LnK (l:KL):Prop:=∀ p∈l,p.2.length≤2000000000000
theorem zei {l m:KL} (h:LnK l) (k:LnK m):LnK (l++m):=fun p hp=>by
 rcases List.mem_append.1 hp with hp | hp
 ·exact h p hp
 ·exact k p hp
theorem okK_f {x:RF} {m1 m2:Value} (h1:okL x.num.mag) (h2:okL x.den.mag):OkK (kf x m1 m2):=fun p hp=>by
 simp only [List.mem_cons,List.not_mem_nil,or_false] at hp
 rcases hp with rfl | rfl
 ·exact h1
 ·exact h2
theorem lnK_f {x:RF} {m1 m2:Value} (h:bdF x):LnK (kf x m1 m2):=fun p hp=>by
 simp only [List.mem_cons,List.not_mem_nil,or_false] at hp
 rcases hp with rfl | rfl
 ·exact Nat.le_trans h.1 zd
 ·exact Nat.le_trans h.2 zd
theorem okK_len {l:KL} (h:OkK l) (k:LnK l):∀ p∈l,okL p.2∧p.2.length≤2000000000000:=fun p hp=>⟨h p hp,k p hp⟩
theorem ze0 {x:RF} {B:Nat} {cs:List Value} {w:World} (h:(RFN x).p B cs w):∃ m1 m2,(FracP x m1 m2).p B cs w∧cbl cs=kbl (kf x m1 m2)∧OkK (kf x m1 m2):=by
 obtain ⟨ps,rfl,hp⟩:=h
 cases hp with
 | @cons _ c1 _ _ h1 hp=>cases hp with
  | @cons _ c2 _ _ h2 hp =>
   cases hp
   obtain ⟨m1,p1,e1⟩:=int_split h1
   obtain ⟨m2,p2,e2⟩:=int_split h2
   refine ⟨m1,m2,⟨[c1,c2],rfl,.cons p1 (.cons p2 .nil)⟩,?_,okK_f (rin_ok h1) (rin_ok h2)⟩
   have:([c1,c2]:List (List Value)).flatten=c1++c2:=by simp
   rw [this,zfi,e1,e2]
   exact kbl_app.symm
def nm4 (a b c d:Value):Nat→Value
 | 0=>a
 | 1=>b
 | 2=>c
 | _=>d
def nm8 (a b c d e f g h:Value):Nat→Value
 | 0=>a
 | 1=>b
 | 2=>c
 | 3=>d
 | 4=>e
 | 5=>f
 | 6=>g
 | _=>h
theorem fracs_names {x:RF} {B:Nat} {cs:List Value} {w:World} (h:(RFN x).p B cs w):∃ m:Nat→Value,(FracP x (m 0) (m 1)).p B cs w∧cbl cs=kbl (kf x (m 0) (m 1))∧OkK (kf x (m 0) (m 1)):=by
 obtain ⟨m1,m2,h1,h2,h3⟩:=ze0 h
 exact ⟨nm4 m1 m2 m1 m2,h1,h2,h3⟩
theorem zfr {x:RR} {B:Nat} {cs:List Value} {w:World} (h:(RRN x).p B cs w):∃ m:Nat→Value,(RayP x m).p B cs w∧cbl cs=kbl (kr x m)∧OkK (kr x m):=by
 obtain ⟨ps,rfl,hp⟩:=h
 cases hp with
 | @cons _ c1 _ _ h1 hp=>cases hp with
  | @cons _ c2 _ _ h2 hp =>
   cases hp
   obtain ⟨m1,m2,p1,e1,o1⟩:=ze0 h1
   obtain ⟨m3,m4,p2,e2,o2⟩:=ze0 h2
   refine ⟨nm4 m1 m2 m3 m4,⟨[c1,c2],rfl,.cons p1 (.cons p2 .nil)⟩,?_,zef o1 o2⟩
   have:([c1,c2]:List (List Value)).flatten=c1++c2:=by simp
   rw [this,zfi,e1,e2]
   exact kbl_app.symm
theorem mat_names {x:RM} {B:Nat} {cs:List Value} {w:World} (h:(RMN x).p B cs w):∃ m:Nat→Value,(MatP x m).p B cs w∧cbl cs=kbl (km x m)∧OkK (km x m):=by
 obtain ⟨ps,rfl,hp⟩:=h
 cases hp with
 | @cons _ c1 _ _ h1 hp=>cases hp with
  | @cons _ c2 _ _ h2 hp=>cases hp with
   | @cons _ c3 _ _ h3 hp=>cases hp with
    | @cons _ c4 _ _ h4 hp =>
     cases hp
     obtain ⟨m1,m2,p1,e1,o1⟩:=ze0 h1
     obtain ⟨m3,m4,p2,e2,o2⟩:=ze0 h2
     obtain ⟨m5,m6,p3,e3,o3⟩:=ze0 h3
     obtain ⟨m7,m8,p4,e4,o4⟩:=ze0 h4
     refine ⟨nm8 m1 m2 m3 m4 m5 m6 m7 m8,⟨[c1,c2,c3,c4],rfl,.cons p1 (.cons p2 (.cons p3 (.cons p4 .nil)))⟩,?_,zef (zef (zef o1 o2) o3) o4⟩
     have:([c1,c2,c3,c4]:List (List Value)).flatten=((c1++c2)++c3)++c4:=by simp
     rw [this,zfi,zfi,zfi,e1,e2,e3,e4]
     show _=kbl (((kf x.a m1 m2++kf x.b m3 m4)++kf x.c m5 m6)++kf x.d m7 m8)
     rw [kbl_app,kbl_app,kbl_app]
theorem St.splitN {M:Type} {B N:Nat} {w0:Bs} {Γ:List (Nat × VA)} {Λ:List Lc} {a:Act} {w:World} {s:Nat} {T:TypeId} {H:Hd} {u:Value} {A0 A:As} {c:Prop} {AP:M→As} {kl:M→KL} (hw:WkA A0 (DisA A)) (hs:∀ {B:Nat} {cs:List Value} {w:World},A.p B cs w→∃ m,(AP m).p B cs w∧cbl cs=kbl (kl m)∧OkK (kl m)) (h:St B w0 N Γ Λ a w) (k:Nat) (hm:Λ[k]?=some ⟨s,T,H,PinA u (A0.and c)⟩) :
  ∃ m,vbl u=kbl (kl m)∧(kbl (kl m)).Nodup∧OkK (kl m)∧c∧St B w0 N Γ (Λ.set k ⟨s,T,H,AP m⟩) a w:=by
 obtain ⟨g,cs,q1,q2,q3,⟨hc,hp⟩,hu⟩:=h.locs _ (List.mem_of_getElem? hm)
 obtain ⟨hA,hn⟩:=hw.2.2 _ _ _ hp
 obtain ⟨m,p1,e,ok⟩:=hs hA
 have hu':vbl u=cbl cs:=by
  have hu2:shape A0.ag cs=u:=hu
  rw [← hu2]
  exact zk3 hp
 have hse:∀ y∈Λ.set k ⟨s,T,H,AP m⟩,∃ m0∈Λ,m0.s=y.s:=fun y hm'=>by
  rcases List.mem_or_eq_of_mem_set hm' with hm' | rfl
  ·exact ⟨y,hm',rfl⟩
  ·exact ⟨_,List.mem_of_getElem? hm,rfl⟩
 refine ⟨m,hu'.trans e,e▸hn,ok,hc,h.lo,h.defers,h.size,h.base,h.vals,fun l hl=>?_,fun a1 ha1 a2 ha2 hne=>?_⟩
 ·rcases List.mem_or_eq_of_mem_set hl with hl | rfl
  ·exact h.locs l hl
  ·exact ⟨g,cs,q1,q2,q3,p1⟩
 ·obtain ⟨m3,r1,r2⟩:=hse a1 ha1
  obtain ⟨m4,r3,r4⟩:=hse a2 ha2
  rw [← r2,← r4] at hne ⊢
  exact h.dis m3 r1 m4 r3 hne
theorem zdo {u v:Value} (h:Sep u v):Sep v u:=fun g h1 h2=>h g h2 h1
def Kb (us:List Value) (l:KL):Prop:=(kbl l).Nodup∧∀ g∈kbl l,∃ u∈us,g∈vbl u
theorem kb_nil:Kb [] []:=⟨List.nodup_nil,fun g h=>by cases h⟩
theorem zjb {l m:KL} {us:List Value} {v:Value} (h:Kb us l) (hv:vbl v=kbl m) (h2:(kbl m).Nodup) (hs:SepAll us v):Kb (us++[v]) (l++m):=by
 refine ⟨?_,fun g hg=>?_⟩
 ·rw [kbl_app]
  refine List.nodup_append.2 ⟨h.1,h2,fun x hx y hy e=>?_⟩
  subst e
  obtain ⟨u,hu,hg⟩:=h.2 x hx
  exact hs u hu x hg (by rw [hv]; exact hy)
 ·rw [kbl_app,List.mem_append] at hg
  rcases hg with hg | hg
  ·obtain ⟨u,hu,h3⟩:=h.2 g hg
   exact ⟨u,by simp [hu],h3⟩
  ·exact ⟨v,by simp,by rw [hv]; exact hg⟩
theorem zja {us:List Value} {l:KL} (h:Kb us l):SepL [] l:=sepL_of h.1 fun t ht=>by cases ht
theorem zdv {v:Value}:SepAll [] v:=fun u h=>by cases h
theorem zbf {u v:Value} {us:List Value} (h:Sep u v) (k:SepAll us v):SepAll (u::us) v:=fun x hx=>by
 rcases List.mem_cons.1 hx with rfl | hx
 ·exact h
 ·exact k x hx
theorem zdb {u v:Value} {us:List Value} (h:SepAll us v) (i:Nat) (hi:us[i]?=some u):Sep u v:=h u (List.mem_of_getElem? hi)
theorem okK_nil:OkK []:=fun p h=>by cases h
theorem lnK_nil:LnK []:=fun p h=>by cases h
abbrev bdR (x:RR):Prop:=bdF x.y∧bdF x.u
abbrev bdM (x:RM):Prop:=bdF x.a∧bdF x.b∧bdF x.c∧bdF x.d
theorem lnK_r {x:RR} {m:Nat→Value} (h:bdR x):LnK (kr x m):=zei (lnK_f h.1) (lnK_f h.2)
theorem lnK_m {x:RM} {m:Nat→Value} (h:bdM x):LnK (km x m):=zei (zei (zei (lnK_f h.1) (lnK_f h.2.1)) (lnK_f h.2.2.1)) (lnK_f h.2.2.2)
theorem zkq:bdF rf0:=⟨Nat.zero_le _,Nat.zero_le _⟩
theorem bd_of {q:Rat} (h:¬ longQ q=true):bdF (rfOf q):=by
 have h':longQ q=false:=by cases hq:longQ q with
  | true=>exact absurd hq h
  | false=>rfl
 unfold longQ at h'
 simp only [List.any_cons,List.any_nil,Bool.or_false,Bool.or_eq_false_iff] at h'
 have h1:=of_decide_eq_false h'.1
 have h2:=of_decide_eq_false h'.2
 refine ⟨?_,?_⟩
 ·show (riOf q.num).mag.length≤_
  omega
 ·show (riOf (q.den:Int)).mag.length≤_
  omega
theorem bd_ans (q:Rat):bdF (ansF q).1:=by
 unfold ansF
 split
 ·exact zkq
 ·rename_i h; exact bd_of h
end Go.Proofs.YthncfchnkjemiaaGreatDoor
namespace Go.Proofs.YthncfchnkjemiaaGreatDoor
open Go Go.RowKit
theorem new_twn {l:List Nat}:NewA (TwN l):=fun B cs w ⟨ok,g,e,h1,h2,h3⟩ g' hg=>by
 subst e
 have:g'=g:=by simpa [cbl,blk] using hg
 subst this
 exact ⟨h1,(Array.getElem?_eq_some_iff.1 h3).1⟩
theorem new_rit {x:RI}:NewA (RIT x):=zfa fun A hA=>by
 simp at hA
 rcases hA with rfl | rfl
 ·exact new_bo _
 ·exact new_twn
theorem nod_rit {x:RI}:NodA (RIT x):=fun B cs w h=>nod_riN x B cs w (rit_rin.2.2 _ _ _ h)
def TFD (x:RF):As:=DisA (RFT x)
theorem new_rft {x:RF}:NewA (RFT x):=zfa fun A hA=>by
 simp at hA
 rcases hA with rfl | rfl <;> exact new_rit
theorem zfg {x:RF}:FreeA (RFT x) (RFT x):=ze4 (.cons (zh8 _) (.cons (zh8 _) .nil))
theorem zdy {x:RF}:NewA (TFD x):=zi3 new_rft
theorem zga {x:RF}:FreeA (TFD x) (TFD x):=zgb zfg
theorem tfd_pins {u v:Value} {x:RF}:WkA (cat [PinA u ((RIT x.num).and (SepAll [] u)),PinA v ((RIT x.den).and (SepAll [u] v))]) (TFD x) :=
 zhc (l:=[(u,RIT x.num),(v,RIT x.den)]) (fun y hy=>by
  simp at hy
  rcases hy with rfl | rfl <;> exact nod_rit)
def TRD (x:RR):As:=DisA (RRT x)
def TMD (x:RM):As:=DisA (RMT x)
theorem tr_pins {u v:Value} {x:RR}:WkA (cat [PinA u ((TFD x.y).and (SepAll [] u)),PinA v ((TFD x.u).and (SepAll [u] v))]) (TRD x) :=
 (zhc (l:=[(u,TFD x.y),(v,TFD x.u)]) (fun y hy=>by
  simp at hy
  rcases hy with rfl | rfl <;> exact dis_nod)).trans (zer (zc0 (.cons dis_wk (.cons dis_wk .nil))))
theorem tm_pins {u v s t:Value} {x:RM}:WkA (cat [PinA u ((TFD x.a).and (SepAll [] u)),PinA v ((TFD x.b).and (SepAll [u] v)),PinA s ((TFD x.c).and (SepAll [u,v] s)),PinA t ((TFD x.d).and (SepAll [u,v,s] t))]) (TMD x) :=
 (zhc (l:=[(u,TFD x.a),(v,TFD x.b),(s,TFD x.c),(t,TFD x.d)]) (fun y hy=>by
  simp at hy
  rcases hy with rfl | rfl | rfl | rfl <;> exact dis_nod)).trans (zer (zc0 (.cons dis_wk (.cons dis_wk (.cons dis_wk (.cons dis_wk .nil))))))
theorem zeh {x:RR}:NewA (TRD x):=zi3 (zfa fun A hA=>by
 simp at hA
 rcases hA with rfl | rfl <;> exact new_rft)
theorem zgl {x:RM}:NewA (TMD x):=zi3 (zfa fun A hA=>by
 simp at hA
 rcases hA with rfl | rfl | rfl | rfl <;> exact new_rft)
theorem free_trd {x:RR}:FreeA (TRD x) (TRD x):=zgb (ze4 (.cons zfg (.cons zfg .nil)))
theorem free_tmd {x:RM}:FreeA (TMD x) (TMD x):=zgb (ze4 (.cons zfg (.cons zfg (.cons zfg (.cons zfg .nil)))))
theorem trd_rrn {x:RR}:WkA (TRD x) (DisA (RRN x)):=zer rrt_rrn
theorem tmd_rmn {x:RM}:WkA (TMD x) (DisA (RMN x)):=zer rmt_rmn
theorem zdu (x:RF) (hx:bdF x):Cn Tryz.prog 30 [(RFA x).va] ((TFD x).va):=by
 refine Cn.intro Tryz.func30 rfl zk nq (fun B w0 a hst=>?_)
 have hst:St B w0 10 [(0,(RFA x).va)] [] a w0.w:=hst
 refine wp_seq ?_
 refine gl (sts:=[]) (news:=[⟨1,26,ptrH,some 0,_,none⟩,⟨2,26,ptrH,some 1,_,none⟩]) (sp:=[.alc 0,.alc 1]) [] hst (oc (zai rfl rfl rfl (gq 0 rfl)) (oc (zau rfl rfl rfl (Str.zero zb5)) o0)) (fun a w hst=>?_)
 have hst:St B w0 10 [] [⟨1,26,ptrH,_⟩,⟨2,26,ptrH,_⟩] a w:=hst
 refine zt ?_
 refine go_drawV' [[],[0],[0,1],[],[3],[0,1,2,3,4],[0,1,2,3,4,5],[0,1,2,3,4,5,6]] (sts:=[none,some (7,fun ν=>_)]) (news:=[]) (sp:=[(fun ν=>.adr 3 1 (.some 0) True),(fun ν=>.val 4 _),(fun ν=>.val 5 (PinA (ν 2) ((RIT x.num).and (SepAll [] (ν 2)))).va),(fun ν=>.adr 6 1 (.some 2) True),(fun ν=>.val 7 _),(fun ν=>.val 8 (PinA (ν 5) ((RIT x.den).and (SepAll [ν 2] (ν 5)))).va),(fun ν=>.val 9 _),(fun ν=>.sto 1)]) [] za7 hst ⟨of_u fun ν=>ob_a rfl rfl (za9 (lz0 0 rfl) zbh),⟨of_u fun ν=>ob_v rfl rfl (za4 0 rfl zk trivial (lz0 0 rfl) (Sub.part 0 rfl rfl) zab),⟨zcq (us:=fun ν=>[]) (xs:=[.tmp 4]) rfl rfl (twinInt_c _ hx.1) new_rit (zh8 _) (.cons (upA_ri _).va .nil) (fun ν=>(.cons (vq 1 rfl) .nil)) (fun _ _=>rfl) (fun ν=>zbp),⟨of_u fun ν=>ob_a rfl rfl (za9 (lz0 0 rfl) zb3),⟨of_u fun ν=>ob_v rfl rfl (za4 3 rfl zk trivial (lz0 0 rfl) (Sub.part 1 rfl rfl) zab),⟨zcq (us:=fun ν=>[ν 2]) (xs:=[.tmp 7]) rfl rfl (twinInt_c _ hx.2) new_rit (zh8 _) (.cons (upA_ri _).va .nil) (fun ν=>(.cons (vq 4 rfl) .nil)) (fun _ _=>rfl) (fun ν=>(zcd (zbn new_rit) (vq 2 rfl) zbp)),⟨of_u fun ν=>ob_v rfl rfl (zbd (xs:=[(0,.tmp 5),(1,.tmp 8)]) (qs:=[(0,_),(1,_)]) zb5 (.cons ⟨rfl,(vq 2 rfl),rfl⟩ (.cons ⟨rfl,(vq 5 rfl),rfl⟩ .nil))),⟨of_u fun ν=>zak rfl rfl rfl (vq 6 rfl) zag (Eq.trans (b:=4) rfl rfl),trivial⟩⟩⟩⟩⟩⟩⟩⟩ ⟨(fun ν ν' h=>rfl),⟨(fun ν ν' h=>rfl),⟨(fun ν ν' h=>by first | rfl | simp only [h 2 rfl]),⟨(fun ν ν' h=>rfl),⟨(fun ν ν' h=>rfl),⟨(fun ν ν' h=>by first | rfl | simp only [h 2 rfl,h 5 rfl]),⟨(fun ν ν' h=>by first | rfl | simp only [h 2 rfl,h 5 rfl]),⟨(fun ν ν' h=>by first | rfl | simp only [h 2 rfl,h 5 rfl]),trivial⟩⟩⟩⟩⟩⟩⟩⟩ ⟨trivial,⟨(fun ν ν' h=>by first | rfl | simp only [h 2 rfl,h 5 rfl]),trivial⟩⟩ zk zk (fun ν=>by kernel_rfl) (fun ν=>by kernel_rfl) (fun ν1 a w hst=>?_)
 have hst:St B w0 10 [] [⟨1,26,ptrH,_⟩,⟨2,26,ptrH,_⟩] a w:=hst
 refine za0 ?_
 refine wp_ret ?_
 refine zan ?_ (zar rfl hst (zm 1 rfl) zag)
 exact tfd_pins.va
theorem zk6 (x:RR) (hx:bdF x.y∧bdF x.u):Cn Tryz.prog 13 [(RRA x).va] ((TRD x).va):=by
 refine Cn.intro Tryz.func13 rfl zk nq (fun B w0 a hst=>?_)
 have hst:St B w0 10 [(0,(RRA x).va)] [] a w0.w:=hst
 refine wp_seq ?_
 refine gl (sts:=[]) (news:=[⟨1,30,ptrH,some 0,_,none⟩,⟨2,30,ptrH,some 1,_,none⟩]) (sp:=[.alc 0,.alc 1]) [] hst (oc (zai rfl rfl rfl (gq 0 rfl)) (oc (zau rfl rfl rfl (Str.zero zcn)) o0)) (fun a w hst=>?_)
 have hst:St B w0 10 [] [⟨1,30,ptrH,_⟩,⟨2,30,ptrH,_⟩] a w:=hst
 refine zt ?_
 refine go_drawV' [[],[0],[0,1],[],[3],[0,1,2,3,4],[0,1,2,3,4,5],[0,1,2,3,4,5,6]] (sts:=[none,some (7,fun ν=>_)]) (news:=[]) (sp:=[(fun ν=>.adr 3 1 (.some 0) True),(fun ν=>.val 4 _),(fun ν=>.val 5 (PinA (ν 2) ((TFD x.y).and (SepAll [] (ν 2)))).va),(fun ν=>.adr 6 1 (.some 4) True),(fun ν=>.val 7 _),(fun ν=>.val 8 (PinA (ν 5) ((TFD x.u).and (SepAll [ν 2] (ν 5)))).va),(fun ν=>.val 9 _),(fun ν=>.sto 1)]) [] za7 hst ⟨of_u fun ν=>ob_a rfl rfl (za9 (lz0 0 rfl) zc6),⟨of_u fun ν=>ob_v rfl rfl (za4 0 rfl zk trivial (lz0 0 rfl) (Sub.part 0 rfl rfl) zag),⟨zcq (us:=fun ν=>[]) (xs:=[.tmp 4]) rfl rfl (zdu _ hx.1) zdy zga (.cons (zel _).va .nil) (fun ν=>(.cons (vq 1 rfl) .nil)) (fun _ _=>rfl) (fun ν=>zbp),⟨of_u fun ν=>ob_a rfl rfl (za9 (lz0 0 rfl) zc5),⟨of_u fun ν=>ob_v rfl rfl (za4 3 rfl zk trivial (lz0 0 rfl) (Sub.part 1 rfl rfl) zag),⟨zcq (us:=fun ν=>[ν 2]) (xs:=[.tmp 7]) rfl rfl (zdu _ hx.2) zdy zga (.cons (zel _).va .nil) (fun ν=>(.cons (vq 4 rfl) .nil)) (fun _ _=>rfl) (fun ν=>(zcd (zbn zdy) (vq 2 rfl) zbp)),⟨of_u fun ν=>ob_v rfl rfl (zbd (xs:=[(0,.tmp 5),(1,.tmp 8)]) (qs:=[(0,_),(1,_)]) zcn (.cons ⟨rfl,(vq 2 rfl),rfl⟩ (.cons ⟨rfl,(vq 5 rfl),rfl⟩ .nil))),⟨of_u fun ν=>zak rfl rfl rfl (vq 6 rfl) zbu (Eq.trans (b:=8) rfl rfl),trivial⟩⟩⟩⟩⟩⟩⟩⟩ ⟨(fun ν ν' h=>rfl),⟨(fun ν ν' h=>rfl),⟨(fun ν ν' h=>by first | rfl | simp only [h 2 rfl]),⟨(fun ν ν' h=>rfl),⟨(fun ν ν' h=>rfl),⟨(fun ν ν' h=>by first | rfl | simp only [h 2 rfl,h 5 rfl]),⟨(fun ν ν' h=>by first | rfl | simp only [h 2 rfl,h 5 rfl]),⟨(fun ν ν' h=>by first | rfl | simp only [h 2 rfl,h 5 rfl]),trivial⟩⟩⟩⟩⟩⟩⟩⟩ ⟨trivial,⟨(fun ν ν' h=>by first | rfl | simp only [h 2 rfl,h 5 rfl]),trivial⟩⟩ zk zk (fun ν=>by kernel_rfl) (fun ν=>by kernel_rfl) (fun ν1 a w hst=>?_)
 have hst:St B w0 10 [] [⟨1,30,ptrH,_⟩,⟨2,30,ptrH,_⟩] a w:=hst
 refine za0 ?_
 refine wp_ret ?_
 refine zan ?_ (zar rfl hst (zm 1 rfl) zbu)
 exact tr_pins.va
theorem zkt (x:RM) (hx:bdF x.a∧bdF x.b∧bdF x.c∧bdF x.d):Cn Tryz.prog 12 [(RMA x).va] ((TMD x).va):=by
 refine Cn.intro Tryz.func12 rfl zk nq (fun B w0 a hst=>?_)
 have hst:St B w0 16 [(0,(RMA x).va)] [] a w0.w:=hst
 refine wp_seq ?_
 refine gl (sts:=[]) (news:=[⟨1,28,ptrH,some 0,_,none⟩,⟨2,28,ptrH,some 1,_,none⟩]) (sp:=[.alc 0,.alc 1]) [] hst (oc (zai rfl rfl rfl (gq 0 rfl)) (oc (zau rfl rfl rfl (Str.zero zch)) o0)) (fun a w hst=>?_)
 have hst:St B w0 16 [] [⟨1,28,ptrH,_⟩,⟨2,28,ptrH,_⟩] a w:=hst
 refine zt ?_
 refine go_drawV' [[],[0],[0,1],[],[3],[0,1,2,3,4],[],[6],[0,1,2,3,4,5,6,7],[],[9],[0,1,2,3,4,5,6,7,8,9,10],[0,1,2,3,4,5,6,7,8,9,10,11],[0,1,2,3,4,5,6,7,8,9,10,11,12]] (sts:=[none,some (13,fun ν=>_)]) (news:=[]) (sp:=[(fun ν=>.adr 3 1 (.some 0) True),(fun ν=>.val 4 _),(fun ν=>.val 5 (PinA (ν 2) ((TFD x.a).and (SepAll [] (ν 2)))).va),(fun ν=>.adr 6 1 (.some 4) True),(fun ν=>.val 7 _),(fun ν=>.val 8 (PinA (ν 5) ((TFD x.b).and (SepAll [ν 2] (ν 5)))).va),(fun ν=>.adr 9 1 (.some 8) True),(fun ν=>.val 10 _),(fun ν=>.val 11 (PinA (ν 8) ((TFD x.c).and (SepAll [ν 2,ν 5] (ν 8)))).va),(fun ν=>.adr 12 1 (.some 12) True),(fun ν=>.val 13 _),(fun ν=>.val 14 (PinA (ν 11) ((TFD x.d).and (SepAll [ν 2,ν 5,ν 8] (ν 11)))).va),(fun ν=>.val 15 _),(fun ν=>.sto 1)]) [] za7 hst ⟨of_u fun ν=>ob_a rfl rfl (za9 (lz0 0 rfl) zd6),⟨of_u fun ν=>ob_v rfl rfl (za4 0 rfl zk trivial (lz0 0 rfl) (Sub.part 0 rfl rfl) zag),⟨zcq (us:=fun ν=>[]) (xs:=[.tmp 4]) rfl rfl (zdu _ hx.1) zdy zga (.cons (zel _).va .nil) (fun ν=>(.cons (vq 1 rfl) .nil)) (fun _ _=>rfl) (fun ν=>zbp),⟨of_u fun ν=>ob_a rfl rfl (za9 (lz0 0 rfl) zd5),⟨of_u fun ν=>ob_v rfl rfl (za4 3 rfl zk trivial (lz0 0 rfl) (Sub.part 1 rfl rfl) zag),⟨zcq (us:=fun ν=>[ν 2]) (xs:=[.tmp 7]) rfl rfl (zdu _ hx.2.1) zdy zga (.cons (zel _).va .nil) (fun ν=>(.cons (vq 4 rfl) .nil)) (fun _ _=>rfl) (fun ν=>(zcd (zbn zdy) (vq 2 rfl) zbp)),⟨of_u fun ν=>ob_a rfl rfl (za9 (lz0 0 rfl) zcx),⟨of_u fun ν=>ob_v rfl rfl (za4 6 rfl zk trivial (lz0 0 rfl) (Sub.part 2 rfl rfl) zag),⟨zcq (us:=fun ν=>[ν 2,ν 5]) (xs:=[.tmp 10]) rfl rfl (zdu _ hx.2.2.1) zdy zga (.cons (zel _).va .nil) (fun ν=>(.cons (vq 7 rfl) .nil)) (fun _ _=>rfl) (fun ν=>(zcd (zbn zdy) (vq 2 rfl) (zcd (zbn zdy) (vq 5 rfl) zbp))),⟨of_u fun ν=>ob_a rfl rfl (za9 (lz0 0 rfl) zcw),⟨of_u fun ν=>ob_v rfl rfl (za4 9 rfl zk trivial (lz0 0 rfl) (Sub.part 3 rfl rfl) zag),⟨zcq (us:=fun ν=>[ν 2,ν 5,ν 8]) (xs:=[.tmp 13]) rfl rfl (zdu _ hx.2.2.2) zdy zga (.cons (zel _).va .nil) (fun ν=>(.cons (vq 10 rfl) .nil)) (fun _ _=>rfl) (fun ν=>(zcd (zbn zdy) (vq 2 rfl) (zcd (zbn zdy) (vq 5 rfl) (zcd (zbn zdy) (vq 8 rfl) zbp)))),⟨of_u fun ν=>ob_v rfl rfl (zbd (xs:=[(0,.tmp 5),(1,.tmp 8),(2,.tmp 11),(3,.tmp 14)]) (qs:=[(0,_),(1,_),(2,_),(3,_)]) zch (.cons ⟨rfl,(vq 2 rfl),rfl⟩ (.cons ⟨rfl,(vq 5 rfl),rfl⟩ (.cons ⟨rfl,(vq 8 rfl),rfl⟩ (.cons ⟨rfl,(vq 11 rfl),rfl⟩ .nil))))),⟨of_u fun ν=>zak rfl rfl rfl (vq 12 rfl) zd9 (Eq.trans (b:=16) rfl rfl),trivial⟩⟩⟩⟩⟩⟩⟩⟩⟩⟩⟩⟩⟩⟩ ⟨(fun ν ν' h=>rfl),⟨(fun ν ν' h=>rfl),⟨(fun ν ν' h=>by first | rfl | simp only [h 2 rfl]),⟨(fun ν ν' h=>rfl),⟨(fun ν ν' h=>rfl),⟨(fun ν ν' h=>by first | rfl | simp only [h 2 rfl,h 5 rfl]),⟨(fun ν ν' h=>rfl),⟨(fun ν ν' h=>rfl),⟨(fun ν ν' h=>by first | rfl | simp only [h 2 rfl,h 5 rfl,h 8 rfl]),⟨(fun ν ν' h=>rfl),⟨(fun ν ν' h=>rfl),⟨(fun ν ν' h=>by first | rfl | simp only [h 2 rfl,h 5 rfl,h 8 rfl,h 11 rfl]),⟨(fun ν ν' h=>by first | rfl | simp only [h 2 rfl,h 5 rfl,h 8 rfl,h 11 rfl]),⟨(fun ν ν' h=>by first | rfl | simp only [h 2 rfl,h 5 rfl,h 8 rfl,h 11 rfl]),trivial⟩⟩⟩⟩⟩⟩⟩⟩⟩⟩⟩⟩⟩⟩ ⟨trivial,⟨(fun ν ν' h=>by first | rfl | simp only [h 2 rfl,h 5 rfl,h 8 rfl,h 11 rfl]),trivial⟩⟩ zk zk (fun ν=>by kernel_rfl) (fun ν=>by kernel_rfl) (fun ν1 a w hst=>?_)
 have hst:St B w0 16 [] [⟨1,28,ptrH,_⟩,⟨2,28,ptrH,_⟩] a w:=hst
 refine za0 ?_
 refine wp_ret ?_
 refine zan ?_ (zar rfl hst (zm 1 rfl) zd9)
 exact tm_pins.va
end Go.Proofs.YthncfchnkjemiaaGreatDoor
