import Derived.Test.YthncfchnkjemiaaGreatDoorRmAa
import Derived.Test.YthncfchnkjemiaaGreatDoorRmAc
import Derived.Test.YthncfchnkjemiaaGreatDoorRmAo
import Derived.Test.YthncfchnkjemiaaGreatDoorRmAu
import Derived.Test.YthncfchnkjemiaaGreatDoorRmAw
import Derived.Test.YthncfchnkjemiaaGreatDoorRmAx
import Derived.ProofKit
import Derived.OpenShut
import Derived.ChangeOld
import Derived.Below
set_option linter.unusedVariables false
set_option linter.unusedSimpArgs false
set_option linter.unusedSectionVars false
set_option maxRecDepth 100000
namespace Go.Proofs.YthncfchnkjemiaaGreatDoor
open Go Go.RowKit
def AllG (a:Act)(w:World):List (Nat × VA)→Prop
 | []=>True
 | x::l=>x.2.p w.heap.size (a.eval (.tmp x.1)) w∧AllG a w l
theorem AllG.mem {a:Act}{w:World}:∀ {l:List (Nat × VA)},AllG a w l→∀ x∈l,x.2.p w.heap.size (a.eval (.tmp x.1)) w
 | y::l,h,x,hx=>by
  rcases List.mem_cons.1 hx with rfl | hx
  ·exact h.1
  ·exact AllG.mem h.2 x hx
section
variable {P:Program} {B N:Nat} {w0:Bs} {Γ:List (Nat × VA)} {Λ:List Lc} {a:Act} {w:World}
theorem St.bw (h:St B w0 N Γ Λ a w):B≤w.heap.size:=Nat.le_trans (h.lo _ (.inl (Nat.le_refl _))) h.base.size
end
section
variable {P:Program} {Q:Exit→Act→World→Prop} {B N:Nat} {w0:Bs} {Γ:List (Nat × VA)} {Λ:List Lc} {a:Act} {w:World} {ops:Array Oper}
end
theorem zeg {B:Nat}{w1:Bs}{Ts:List TypeId}(hB:B=w1.w.heap.size):∀ E,Ts.contains E=true→RowMay w1 B E:=fun E _ w g c fz _ h _=>.inl (hB▸h)
theorem nf_frd {x:RF}{n:Int}:∀ A∈[RFD x,NumA .i64 n],NewA A∧FreeA A A:=fun A hA=>by
 simp at hA
 rcases hA with rfl | rfl
 ·exact ⟨zvi,free_rfd⟩
 ·exact ⟨zvj _ _,zm3 _ _⟩
theorem upA_rm (x:RM):UpA (RMA x) (RMA x):=zg9 (.cons (zgs _) (.cons (zgs _) (.cons (zgs _) (.cons (zgs _) .nil))))
def ZBk:List As:=[NumA .i64 0,EqS (.slice none 0 0),EqS (.slice none 0 0),EqS (.slice none 0 0),EqS (.slice none 0 0),EqS (.slice none 0 0),EqS (.slice none 0 0),EqS (.slice none 0 0),EqS (.slice none 0 0),EqS (.slice none 0 0),EqS (.slice none 0 0),EqS (.slice none 0 0),EqS (.slice none 0 0),EqS (.slice none 0 0),EqS (.slice none 0 0),EqS (.slice none 0 0),EqS (.slice none 0 0)]
theorem zxt:Str Tryz.prog 59 ZBk :=
 Str.of (z:=.agg ([Value.int .i64 0]++List.replicate 16 (Value.slice none 0 0)).toArray) zk Tryz.underlying59 zk fun B w=>⟨[Value.int .i64 0]::List.replicate 16 [Value.slice none 0 0],rfl,.cons rfl (.cons ⟨rfl,rfl⟩ (.cons ⟨rfl,rfl⟩ (.cons ⟨rfl,rfl⟩ (.cons ⟨rfl,rfl⟩ (.cons ⟨rfl,rfl⟩ (.cons ⟨rfl,rfl⟩ (.cons ⟨rfl,rfl⟩ (.cons ⟨rfl,rfl⟩ (.cons ⟨rfl,rfl⟩ (.cons ⟨rfl,rfl⟩ (.cons ⟨rfl,rfl⟩ (.cons ⟨rfl,rfl⟩ (.cons ⟨rfl,rfl⟩ (.cons ⟨rfl,rfl⟩ (.cons ⟨rfl,rfl⟩ (.cons ⟨rfl,rfl⟩ .nil))))))))))))))))⟩
theorem zbk_bke:WkA (cat ZBk) (BkE []):=⟨rfl,rfl,fun B cs w ⟨ps,e,hp⟩=>by
 cases hp with
 | @cons _ c1 _ _ h1 hp=>cases hp with
  | @cons _ c2 _ _ h2 hp =>
   have h2':c2=[.slice none 0 0]:=h2.1
   subst h2'
   exact ⟨.slice none 0 0,_,e,.cons h1 (.cons ⟨rfl,World.ownsRow_nil ..,(fun s hs=>by cases hs),fun i j s t h=>by cases h⟩ hp)⟩⟩
section
open Rg
variable {P:Program} {Q:Exit→Act→World→Prop} {R:Rg} {B i:Nat} {w0:Bs}
theorem zkq {t k:Nat}{v:Value}{l:List As}{us:List Value}{A:As}(hx:Has R B w0 i (.tmp t) (PinT v l us))(hk:l[k]?=some A):Wv P Q R B w0 i (.extract (.tmp t) k) A.va:=by
 intro d T ps af gd a w av K hK
 obtain ⟨e1,vs,e2,h⟩:=hx a w av
 obtain ⟨y,hy,hp,_⟩:=h.get hk
 have e3:a.eval (.tmp t)=.tuple vs.toArray:=e1.trans e2
 exact zbr (w':=w) (v:=y) (by simp [execOp,e3,Instr.extract,hy]) (hK y w (Grow.refl w) hp)
end
def TwL (l:List Nat):As where
 n:=1
 ag:=false
 p B cs w:=okL l∧∃ g,cs=[.slice (some ⟨g,0,none⟩) l.length (l.length+1)]∧l.length+1≤maxLen∧w.heap[g]?=some (.cells ((l++[7777]).map fun (x:Nat)=>Value.int .u32 x).toArray U32 (0,0))
 deps:=[U32]
 len:=by rintro B cs w ⟨_,g,rfl,_⟩; rfl
 one:=by rintro B cs w ⟨_,g,rfl,_⟩ x hx; simp at hx; subst hx; rfl
 ag1:=fun _=>rfl
 cg:=by
  rintro B cs w w' hg ⟨h0,g,rfl,h2,h3⟩
  exact ⟨h0,g,rfl,h2,hg.heap h3⟩
 wr:=by
  rintro B cs w w' g c T fz hg hT hB hW ⟨h0,g',rfl,h2,h3⟩
  refine ⟨h0,g',rfl,h2,?_⟩
  rw [hW.block g' fun hh=>?_]
  ·exact h3
  ·subst hh
   rw [hg] at h3
   simp only [Option.some.injEq,Obj.cells.injEq] at h3
   exact hT (by simp [h3.2.1])
theorem twn_twr {l:List Nat}:WkA (TwN l) (TwL l):=⟨rfl,rfl,fun B cs w ⟨ok,g,e,h1,h2,h3⟩=>⟨ok,g,e,h2,h3⟩⟩
theorem zxl {l:List Nat}:Wk (TwL l).va (MgA l).va:=fun B v w ⟨cs,⟨ok,g,e,h2,h3⟩,hv⟩=>by
 subst e
 have e2:v=.slice (some ⟨g,0,none⟩) l.length (l.length+1):=hv
 subst e2
 have:=zez ((zpm (B:=B) ok h2 h3).take l.length) (n:=l.length) (by simp)
 rwa [List.take_left] at this
theorem wkA_twR {l:List Nat}:WkA (TwL l) (MgA l):=⟨rfl,rfl,fun B cs w h=>by
 obtain ⟨cs',h1,h2⟩:=zxl B (shape false cs) w ⟨cs,h,rfl⟩
 have l1:=(TwL l).len _ _ _ h
 have l2:=(MgA l).len _ _ _ h1
 match cs,cs',l1,l2 with
 | [c],[c'],_,_ =>
  have e:c=c':=h2
  subst e
  exact h1⟩
section
variable {P:Program} {R:Rg} {Q:Exit→Act→World→Prop} {B i:Nat} {w0:Bs}
theorem twR_va {l:List Nat}{B:Nat}{v:Value}{w:World}(h:(TwL l).va.p B v w):okL l∧∃ g,v=.slice (some ⟨g,0,none⟩) l.length (l.length+1)∧l.length+1≤maxLen∧w.heap[g]?=some (.cells ((l++[7777]).map fun (x:Nat)=>Value.int .u32 x).toArray U32 (0,0)):=by
 obtain ⟨cs,⟨ok,g,e,h2,h3⟩,hv⟩:=h
 subst e
 exact ⟨ok,g,hv,h2,h3⟩
theorem r_capR {x:Operand}{S E':TypeId}{l:List Nat}(hS:P.underlying S=some (.slice E'))(hx:Has R B w0 i x (TwL l).va):Wv P Q R B w0 i (.call ⟨.builtin .cap,#[x],#[S]⟩) (In ((l.length+1:Nat):Int)) :=
 zbx fun d T ps af gd a w av=>by
  obtain ⟨_,g,hv,_,_⟩:=twR_va (hx a w av)
  refine ⟨.int .i64 ((l.length+1:Nat):Int),w,?_,Grow.refl w,zdr _ _ _ _⟩
  simp [execOp,resolve,invoke,builtin,hv,Builtin.cap_,run_underlying hS,goInt]
theorem r_reslR {x z:Operand}{S:TypeId}{l:List Nat}(hS:Sl P S U32 1)(hx:Has R B w0 i x (TwL l).va)(hz:Has R B w0 i z (In ((l.length+1:Nat):Int))):Wv P Q R B w0 i (.slice S x none (some z) none) (MgA (l++[7777])).va :=
 zbx fun d T ps af gd a w av=>by
  obtain ⟨hs1,hs2⟩:=hS
  obtain ⟨ok,g,e1,hm,hh⟩:=twR_va (hx a w av)
  have e3:=zc2 (hz a w av)
  have hE:P.elem S=U32:=by simp [Program.elem,hs1]
  have hs1':P.underlying S=some (.slice (P.elem S)):=by rw [hE]; exact hs1
  have hsz:∀ w,(sizeOf U32).run P w=.ok 1 w:=fun w=>by
   cases hi:P.info? U32 with
   | none=>rw [hi] at hs2; simp at hs2
   | some it=>rw [hi] at hs2; simp [sizeOf,typeInfo,hi]; simpa using hs2
  refine ⟨.slice (some ⟨g,0,none⟩) (l.length+1) (l.length+1),w,?_,Grow.refl w,zez (zpm ok hm hh) (by simp)⟩
  have hr:=run_slice_h (P:=P) w S (some ⟨g,0,none⟩) l.length (l.length+1) hs1' .i64 ((l.length+1:Nat):Int) zo zo
  rw [hE,hsz] at hr
  have hne:¬ l.length+1=0:=by omega
  simp only [Result.andThen_ok,sliced,Int.toNat_natCast,hne,if_false,Nat.mul_one,Option.map_some,Nat.sub_zero] at hr
  simp only [execOp,e1,e3,Option.map_some,run_sliceAt_slice _ _ _ _ _ _ hs1',Sem.run_bind,Sem.run_pure]
  erw [hr]
  simp [Addr.add]
end
def RIR (x:RI):As:=cat [BoA x.neg,TwL x.mag]
def RFR (x:RF):As:=cat [RIR x.num,RIR x.den]
def RMR (x:RM):As:=cat [RFR x.a,RFR x.b,RFR x.c,RFR x.d]
theorem wkA_rir {x:RI}:WkA (RIR x) (RIA x):=zc8 (.cons (.refl _) (.cons wkA_twR .nil))
theorem zl2 {x:RF}:WkA (RFR x) (RFA x):=zc8 (.cons wkA_rir (.cons wkA_rir .nil))
theorem wkA_rmr {x:RM}:WkA (RMR x) (RMA x):=zc8 (.cons zl2 (.cons zl2 (.cons zl2 (.cons zl2 .nil))))
def OF (x:RF):As:=cat [RIO x.num,RIO x.den]
def OM (x:RM):As:=cat [OF x.a,OF x.b,OF x.c,OF x.d]
theorem zxi {x:RF}:UpA (RFA x) (OF x):=zg9 (.cons (zmu _) (.cons (zmu _) .nil))
theorem up_om {x:RM}:UpA (RMA x) (OM x):=zg9 (.cons zxi (.cons zxi (.cons zxi (.cons zxi .nil))))
theorem zt0 {x:RI}:WkA (RIO x) (RIA x):=⟨rfl,rfl,fun B cs w h=>by
 obtain ⟨ps,e,h⟩:=h
 subst e
 cases h with
 | cons h1 h=>cases h with
  | @cons _ c _ _ h2 h =>
   cases h
   refine ⟨_,rfl,.cons h1 (.cons ?_ .nil)⟩
   obtain ⟨cs',q1,q2⟩:=zh3 B (shape false c) w ⟨c,h2,rfl⟩
   have l1:=(MgO x.mag).len _ _ _ h2
   have l2:=(MgA x.mag).len _ _ _ q1
   match c,cs',l1,l2 with
   | [c],[c'],_,_ =>
    have e:c=c':=q2
    subst e
    exact q1⟩
theorem zqa {x:RF}:WkA (OF x) (RFA x):=zc8 (.cons zt0 (.cons zt0 .nil))
theorem om_rma {x:RM}:WkA (OM x) (RMA x):=zc8 (.cons zqa (.cons zqa (.cons zqa (.cons zqa .nil))))
theorem upA_twR {l:List Nat}:UpA (TwL l) (TwL l):=⟨rfl,rfl,fun _ _ _ _ h=>h⟩
theorem zt8 {x:RI}:UpA (RIR x) (RIR x):=zg9 (.cons (up_bo _) (.cons upA_twR .nil))
theorem zl3 {x:RF}:UpA (RFR x) (RFR x):=zg9 (.cons zt8 (.cons zt8 .nil))
theorem upA_rmr {x:RM}:UpA (RMR x) (RMR x):=zg9 (.cons zl3 (.cons zl3 (.cons zl3 (.cons zl3 .nil))))
theorem zue {x:RI}:WkA (RIT x) (RIR x):=zc8 (.cons (.refl _) (.cons twn_twr .nil))
theorem zld {x:RF}:WkA (RFT x) (RFR x):=zc8 (.cons zue (.cons zue .nil))
theorem ze0 {x:RM}:WkA (RMT x) (RMR x):=zc8 (.cons zld (.cons zld (.cons zld (.cons zld .nil))))
set_option maxHeartbeats 1000000 in
theorem zkv (x y:RI)(hx:x.mag.length≤1000000000000):Cn Tryz.prog 171 [(RIR x).va,(RIA y).va] (Bo (decide (x=y))):=by
 refine Cn.intro Tryz.func171 rfl zk nq (fun B w0 a hst=>?_)
 have hst:St B w0 32 [(0,(RIR x).va),(1,(RIA y).va)] [] a w0.w:=hst
 refine wp_seq ?_
 refine gl (sts:=[]) (news:=[⟨2,24,ptrH,some 0,_,none⟩,⟨3,24,ptrH,some 1,_,none⟩]) (sp:=[.alc 0,.alc 1,.val 4 _]) [.o 2] hst (oc (zak rfl rfl rfl (gq 0 rfl)) (oc (zak rfl rfl rfl (gq 1 rfl)) (zv rfl (za1 zb7) o0))) (fun a w hst=>?_)
 have hst:St B w0 32 [(4,_)] [⟨2,24,ptrH,_⟩,⟨3,24,ptrH,_⟩] a w:=hst
 refine zt<|zay (anc:=[[],[],[0,1],[0,1,2],[0,1,2,3],[0,1,2,3,4],[0,1,2,3,4,5],[0,1,2,3],[0,1,2,3,7],[0,1,2,3,7,8],[0,1,2,3,4,5,6,7,8,9],[0,1,2,3,4,5,6,7,8,9,10],[0,1,2,3,4,5,6,7,8,9,10,11],[0,1,2,3,4,5,6,7,8,9,10,11,12],[0,1,2,3,4,5,6,7,8,9,10,11,12,13],[0,1,2,3,4,5,6,7,8,9,10,11,12],[0,1,2,3,4,5,6,7,8,9,10,11,12,15],[0,1,2,3,4,5,6,7,8,9,10,11,12,15,16],[0,1,2,3,4,5,6,7,8,9,10,11,12,15,16,17],[0,1,2,3,4,5,6,7,8,9,10,11,12,13,14,15,16,17,18],[0,1,2,3,4,5,6,7,8,9,10,11,12],[0,1,2,3,4,5,6,7,8,9,10,11,12,20],[0,1,2,3,4,5,6,7,8,9,10,11,12,20,21],[0,1,2,3,4,5,6,7,8,9,10,11,12,13,14,15,16,17,18,19,20,21,22],[0,1,2,3,4,5,6,7,8,9,10,11,12,13,14,15,16,17,18,19,20,21,22,23],[0,1,2,3,4,5,6,7,8,9,10,11,12,13,14,15,16,17,18,19,20,21,22,23,24],[0,1,2,3,4,5,6,7,8,9,10,11,12,13,14,15,16,17,18,19,20,21,22,23,24,25],[0,1,2,3,4,5,6,7,8,9,10,11,12,13,14,15,16,17,18,19,20,21,22,23,24,25,26]]) (sts:=[none,none]) (news:=[]) (sp:=((.val 5 _:Sp)::(.val 6 _)::(.val 7 _)::(.val 8 _)::(.adr 9 2 (.some 1) (_=true))::(.val 10 (Wh (_=true) _))::(.val 11 (Wh (_=true) _))::(.adr 12 2 (.some 1) (_=true))::(.val 13 (Wh (_=true) _))::(.val 14 (Wh (_=true) _))::(.val 15 (Wh (_=true) _))::(.val 16 _)::(.val 17 _)::(.adr 18 2 (.some 1) (_=true))::(.val 19 (Wh (_=true) _))::(.adr 20 2 (.some 1) (_=true))::(.val 21 (Wh (_=true) _))::(.val 22 (Wh (_=true) _))::(.val 23 (Wh (_=true) _))::(.val 24 (Wh (_=true) _))::(.adr 25 2 (.some 1) (_=true))::(.val 26 (Wh (_=true) _))::(.val 27 (Wh (_=true) _))::(.val 28 (Wh (_=true) _))::(.val 29 (Wh (_=true) _))::(.val 30 (Wh (_=true) _))::(.val 31 _)::(.val 4 _)::[])) [.o 27] za7 hst (zv rfl (zab (lz0 0 rfl) zac) (zv rfl (zab (lz0 1 rfl) zac) (zv rfl (za5 (xs:=[.tmp 5,.tmp 6]) ((zjg x y).wk (.cons wkA_rir.va (.cons zbt .nil))) (.cons (vq 0 rfl) (.cons (vq 1 rfl) .nil))) (zv rfl (za2 (vq 2 rfl)) (oc (zci rfl rfl rfl (vq 3 rfl) nq (fun hg=>zaa (lz0 0 rfl) zal)) (oc (zad rfl rfl rfl (vq 3 rfl) nq (fun hg=>za4 4 rfl zk hg (lz0 0 rfl) (Sub.part 1 rfl rfl) zbg)) (oc (zad rfl rfl rfl (vq 3 rfl) nq (fun hg=>r_capR Tryz.underlying22 (za9 (vq 5 rfl) hg))) (oc (zci rfl rfl rfl (vq 3 rfl) nq (fun hg=>zaa (lz0 0 rfl) zal)) (oc (zad rfl rfl rfl (vq 3 rfl) nq (fun hg=>za4 7 rfl zk hg (lz0 0 rfl) (Sub.part 1 rfl rfl) zbg)) (oc (zad rfl rfl rfl (vq 3 rfl) nq (fun hg=>zaz Tryz.underlying22 (has_wk' (za9 (vq 8 rfl) hg) zxl))) (oc (zad rfl rfl rfl (vq 3 rfl) nq (fun hg=>zgq (za9 (vq 6 rfl) hg) (za9 (vq 9 rfl) hg))) (zv rfl (zcm (vq 3 rfl) (vq 10 rfl)) (zv rfl (za2 (vq 11 rfl)) (oc (zci rfl rfl rfl (vq 12 rfl) nq (fun hg=>zaa (lz0 0 rfl) zal)) (oc (zad rfl rfl rfl (vq 12 rfl) nq (fun hg=>za4 13 rfl zk hg (lz0 0 rfl) (Sub.part 1 rfl rfl) zbg)) (oc (zci rfl rfl rfl (vq 12 rfl) nq (fun hg=>zaa (lz0 0 rfl) zal)) (oc (zad rfl rfl rfl (vq 12 rfl) nq (fun hg=>za4 15 rfl zk hg (lz0 0 rfl) (Sub.part 1 rfl rfl) zbg)) (oc (zad rfl rfl rfl (vq 12 rfl) nq (fun hg=>zaz Tryz.underlying22 (has_wk' (za9 (vq 16 rfl) hg) zxl))) (oc (zad rfl rfl rfl (vq 12 rfl) nq (fun hg=>zbl (za9 (vq 17 rfl) hg) za3 (zbo zo))) (oc (zad rfl rfl rfl (vq 12 rfl) nq (fun hg=>r_reslR zbi (za9 (vq 14 rfl) hg) (za9 (vq 18 rfl) hg))) (oc (zci rfl rfl rfl (vq 12 rfl) nq (fun hg=>zaa (lz0 0 rfl) zal)) (oc (zad rfl rfl rfl (vq 12 rfl) nq (fun hg=>za4 20 rfl zk hg (lz0 0 rfl) (Sub.part 1 rfl rfl) zbg)) (oc (zad rfl rfl rfl (vq 12 rfl) nq (fun hg=>zaz Tryz.underlying22 (has_wk' (za9 (vq 21 rfl) hg) zxl))) (oc (zad rfl rfl rfl (vq 12 rfl) nq (fun hg=>zli zbi (za9 (vq 19 rfl) hg) (za9 (vq 22 rfl) hg) (by simp))) (oc (zad rfl rfl rfl (vq 12 rfl) nq (fun hg=>zae (za9 (vq 23 rfl) hg) zb3)) (oc (zad rfl rfl rfl (vq 12 rfl) nq (fun hg=>zdq (za9 (vq 24 rfl) hg) (zav 7777 rfl))) (zv rfl (zcm (vq 12 rfl) (vq 25 rfl)) (zv rfl (za1 (vq 26 rfl)) o0)))))))))))))))))))))))))))) zk zk zk zk (fun a w hst=>?_)
 have hst:St B w0 32 [(4,_)] [⟨2,24,ptrH,_⟩,⟨3,24,ptrH,_⟩] a w:=hst
 refine za0 ?_
 refine wp_ret ?_
 refine zan ?_ (zai rfl hst (zm 0 rfl))
 refine zbz (congrArg Bo ?_); simp; omega
theorem zfj (x y:RF)(hx:bdF x):Cn Tryz.prog 35 [(RFR x).va,(RFA y).va] (Bo (decide (x=y))):=by
 refine Cn.intro Tryz.func35 rfl zk nq (fun B w0 a hst=>?_)
 have hst:St B w0 17 [(0,(RFR x).va),(1,(RFA y).va)] [] a w0.w:=hst
 refine wp_seq ?_
 refine gl (sts:=[]) (news:=[⟨2,26,ptrH,some 0,_,none⟩,⟨3,26,ptrH,some 1,_,none⟩]) (sp:=[.alc 0,.alc 1,.val 4 _]) [.o 2] hst (oc (zak rfl rfl rfl (gq 0 rfl)) (oc (zak rfl rfl rfl (gq 1 rfl)) (zv rfl (za1 zb7) o0))) (fun a w hst=>?_)
 have hst:St B w0 17 [(4,_)] [⟨2,26,ptrH,_⟩,⟨3,26,ptrH,_⟩] a w:=hst
 refine zt<|gl (sts:=[none,none]) (news:=[]) (sp:=[.adr 5 2 (.some 0) True,.val 6 _,.adr 7 3 (.some 0) True,.val 8 _,.val 9 _,.val 10 _,.adr 11 2 (.some 2) (_=true),.val 12 (Wh (_=true) _),.adr 13 3 (.some 2) (_=true),.val 14 (Wh (_=true) _),.val 15 (Wh (_=true) _),.val 16 _,.val 4 _]) [.o 12] hst (oc (ob_a rfl rfl (zaa (lz0 0 rfl) zbn)) (zv rfl (za4 0 rfl zk trivial (lz0 0 rfl) (Sub.part 0 rfl rfl) zac) (oc (ob_a rfl rfl (zaa (lz0 1 rfl) zbn)) (zv rfl (za4 2 rfl zk trivial (lz0 1 rfl) (Sub.part 0 rfl rfl) zac) (zv rfl (za5 (xs:=[.tmp 6,.tmp 8]) (zkv _ _ hx.1) (.cons (vq 1 rfl) (.cons (vq 3 rfl) .nil))) (zv rfl (za2 (vq 4 rfl)) (oc (zci rfl rfl rfl (vq 5 rfl) nq (fun hg=>zaa (lz0 0 rfl) zbf)) (oc (zad rfl rfl rfl (vq 5 rfl) nq (fun hg=>za4 6 rfl zk hg (lz0 0 rfl) (Sub.part 1 rfl rfl) zac)) (oc (zci rfl rfl rfl (vq 5 rfl) nq (fun hg=>zaa (lz0 1 rfl) zbf)) (oc (zad rfl rfl rfl (vq 5 rfl) nq (fun hg=>za4 8 rfl zk hg (lz0 1 rfl) (Sub.part 1 rfl rfl) zac)) (oc (zad rfl rfl rfl (vq 5 rfl) nq (fun hg=>za5 (xs:=[.tmp 12,.tmp 14]) (zkv _ _ hx.2) (.cons (za9 (vq 7 rfl) hg) (.cons (za9 (vq 9 rfl) hg) .nil)))) (zv rfl (zcm (vq 5 rfl) (vq 10 rfl)) (zv rfl (za1 (vq 11 rfl)) o0))))))))))))) (fun a w hst=>?_)
 have hst:St B w0 17 [(4,_)] [⟨2,26,ptrH,_⟩,⟨3,26,ptrH,_⟩] a w:=hst
 refine za0 ?_
 refine wp_ret ?_
 refine zan ?_ (zai rfl hst (zm 0 rfl))
 exact zbz (congrArg Bo rf_eq)
theorem zhi (x y:RM)(hx:bdF x.a∧bdF x.b∧bdF x.c∧bdF x.d):Cn Tryz.prog 21 [(RMR x).va,(RMA y).va] (Bo (decide (x=y))):=by
 refine Cn.intro Tryz.func21 rfl zk nq (fun B w0 a hst=>?_)
 have hst:St B w0 31 [(0,(RMR x).va),(1,(RMA y).va)] [] a w0.w:=hst
 refine wp_seq ?_
 refine gl (sts:=[]) (news:=[⟨2,28,ptrH,some 0,_,none⟩,⟨3,28,ptrH,some 1,_,none⟩]) (sp:=[.alc 0,.alc 1,.val 4 _]) [.o 2] hst (oc (zak rfl rfl rfl (gq 0 rfl)) (oc (zak rfl rfl rfl (gq 1 rfl)) (zv rfl (za1 zb7) o0))) (fun a w hst=>?_)
 have hst:St B w0 31 [(4,_)] [⟨2,28,ptrH,_⟩,⟨3,28,ptrH,_⟩] a w:=hst
 refine zt<|gl (sts:=[none,none]) (news:=[]) (sp:=((.adr 5 2 (.some 0) True:Sp)::(.val 6 _)::(.adr 7 3 (.some 0) True)::(.val 8 _)::(.val 9 _)::(.val 10 _)::(.adr 11 2 (.some 4) (_=true))::(.val 12 (Wh (_=true) _))::(.adr 13 3 (.some 4) (_=true))::(.val 14 (Wh (_=true) _))::(.val 15 (Wh (_=true) _))::(.val 16 _)::(.val 17 _)::(.adr 18 2 (.some 8) (_=true))::(.val 19 (Wh (_=true) _))::(.adr 20 3 (.some 8) (_=true))::(.val 21 (Wh (_=true) _))::(.val 22 (Wh (_=true) _))::(.val 23 _)::(.val 24 _)::(.adr 25 2 (.some 12) (_=true))::(.val 26 (Wh (_=true) _))::(.adr 27 3 (.some 12) (_=true))::(.val 28 (Wh (_=true) _))::(.val 29 (Wh (_=true) _))::(.val 30 _)::(.val 4 _)::[])) [.o 26] hst (oc (ob_a rfl rfl (zaa (lz0 0 rfl) zc4)) (zv rfl (za4 0 rfl zk trivial (lz0 0 rfl) (Sub.part 0 rfl rfl) zaf) (oc (ob_a rfl rfl (zaa (lz0 1 rfl) zc4)) (zv rfl (za4 2 rfl zk trivial (lz0 1 rfl) (Sub.part 0 rfl rfl) zaf) (zv rfl (za5 (xs:=[.tmp 6,.tmp 8]) (zfj _ _ hx.1) (.cons (vq 1 rfl) (.cons (vq 3 rfl) .nil))) (zv rfl (za2 (vq 4 rfl)) (oc (zci rfl rfl rfl (vq 5 rfl) nq (fun hg=>zaa (lz0 0 rfl) zca)) (oc (zad rfl rfl rfl (vq 5 rfl) nq (fun hg=>za4 6 rfl zk hg (lz0 0 rfl) (Sub.part 1 rfl rfl) zaf)) (oc (zci rfl rfl rfl (vq 5 rfl) nq (fun hg=>zaa (lz0 1 rfl) zca)) (oc (zad rfl rfl rfl (vq 5 rfl) nq (fun hg=>za4 8 rfl zk hg (lz0 1 rfl) (Sub.part 1 rfl rfl) zaf)) (oc (zad rfl rfl rfl (vq 5 rfl) nq (fun hg=>za5 (xs:=[.tmp 12,.tmp 14]) (zfj _ _ hx.2.1) (.cons (za9 (vq 7 rfl) hg) (.cons (za9 (vq 9 rfl) hg) .nil)))) (zv rfl (zcm (vq 5 rfl) (vq 10 rfl)) (zv rfl (za2 (vq 11 rfl)) (oc (zci rfl rfl rfl (vq 12 rfl) nq (fun hg=>zaa (lz0 0 rfl) zc6)) (oc (zad rfl rfl rfl (vq 12 rfl) nq (fun hg=>za4 13 rfl zk hg (lz0 0 rfl) (Sub.part 2 rfl rfl) zaf)) (oc (zci rfl rfl rfl (vq 12 rfl) nq (fun hg=>zaa (lz0 1 rfl) zc6)) (oc (zad rfl rfl rfl (vq 12 rfl) nq (fun hg=>za4 15 rfl zk hg (lz0 1 rfl) (Sub.part 2 rfl rfl) zaf)) (oc (zad rfl rfl rfl (vq 12 rfl) nq (fun hg=>za5 (xs:=[.tmp 19,.tmp 21]) (zfj _ _ hx.2.2.1) (.cons (za9 (vq 14 rfl) hg) (.cons (za9 (vq 16 rfl) hg) .nil)))) (zv rfl (zcm (vq 12 rfl) (vq 17 rfl)) (zv rfl (za2 (vq 18 rfl)) (oc (zci rfl rfl rfl (vq 19 rfl) nq (fun hg=>zaa (lz0 0 rfl) zc1)) (oc (zad rfl rfl rfl (vq 19 rfl) nq (fun hg=>za4 20 rfl zk hg (lz0 0 rfl) (Sub.part 3 rfl rfl) zaf)) (oc (zci rfl rfl rfl (vq 19 rfl) nq (fun hg=>zaa (lz0 1 rfl) zc1)) (oc (zad rfl rfl rfl (vq 19 rfl) nq (fun hg=>za4 22 rfl zk hg (lz0 1 rfl) (Sub.part 3 rfl rfl) zaf)) (oc (zad rfl rfl rfl (vq 19 rfl) nq (fun hg=>za5 (xs:=[.tmp 26,.tmp 28]) (zfj _ _ hx.2.2.2) (.cons (za9 (vq 21 rfl) hg) (.cons (za9 (vq 23 rfl) hg) .nil)))) (zv rfl (zcm (vq 19 rfl) (vq 24 rfl)) (zv rfl (za1 (vq 25 rfl)) o0))))))))))))))))))))))))))) (fun a w hst=>?_)
 have hst:St B w0 31 [(4,_)] [⟨2,28,ptrH,_⟩,⟨3,28,ptrH,_⟩] a w:=hst
 refine za0 ?_
 refine wp_ret ?_
 refine zan ?_ (zai rfl hst (zm 0 rfl))
 exact zbz (congrArg Bo rm_eq)
end Go.Proofs.YthncfchnkjemiaaGreatDoor
namespace Go.Proofs.YthncfchnkjemiaaGreatDoor
open Go Go.RowKit
def RRN (x:RR):As:=cat [RFN x.y,RFN x.u]
def RMN (x:RM):As:=cat [RFN x.a,RFN x.b,RFN x.c,RFN x.d]
def RRD (x:RR):As:=DisA (RRN x)
def RMD (x:RM):As:=DisA (RMN x)
theorem new_rfn {x:RF}:NewA (RFN x):=zfy fun A hA=>by
 simp at hA
 rcases hA with rfl | rfl <;> exact zov _
theorem zd6 {x:RM}:NewA (RMD x):=zk1 (zfy fun A hA=>by
 simp at hA
 rcases hA with rfl | rfl | rfl | rfl <;> exact new_rfn)
theorem zj3 {x:RF}:FreeA (RFN x) (RFN x):=zec (.cons (zfl _) (.cons (zfl _) .nil))
theorem zm2 {x:RM}:FreeA (RMD x) (RMD x):=zht (zec (.cons zj3 (.cons zj3 (.cons zj3 (.cons zj3 .nil)))))
theorem zi5 {x:RF}:WkA (RFN x) (RFA x):=zc8 (.cons wkA_riN (.cons wkA_riN .nil))
theorem rrd_rra {x:RR}:WkA (RRD x) (RRA x):=dis_wk.trans (zc8 (.cons zi5 (.cons zi5 .nil)))
theorem rmd_rma {x:RM}:WkA (RMD x) (RMA x):=dis_wk.trans (zc8 (.cons zi5 (.cons zi5 (.cons zi5 (.cons zi5 .nil)))))
theorem zks {k:Nat}{q:Rat}:WkA (QD k q) (RFN (rfOf q)):=qd_rfd.trans dis_wk
theorem twn_mgn {l:List Nat}:WkA (TwN l) (MgN l):=⟨rfl,rfl,fun B cs w ⟨ok,g,e,h1,h2,h3⟩=>⟨ok,.inr ⟨g,[7777],by rw [e]; simp,by simpa using h2,h1,h3⟩⟩⟩
theorem rit_rin {x:RI}:WkA (RIT x) (RIN x):=zc8 (.cons (.refl _) (.cons twn_mgn .nil))
theorem zle {x:RF}:WkA (RFT x) (RFN x):=zc8 (.cons rit_rin (.cons rit_rin .nil))
theorem rmt_rmn {x:RM}:WkA (RMT x) (RMN x):=zc8 (.cons zle (.cons zle (.cons zle (.cons zle .nil))))
theorem kbl_app {l m:KL}:kbl (l++m)=kbl l++kbl m:=List.filterMap_append ..
theorem rin_ok {x:RI}{B:Nat}{cs:List Value}{w:World}(h:(RIN x).p B cs w):okL x.mag:=by
 obtain ⟨ps,rfl,hp⟩:=h
 cases hp with
 | cons h1 hp=>cases hp with
  | cons h2 hp=>exact h2.1
abbrev OkK (l:KL):Prop:=∀ p∈l,okL p.2
theorem ze1 {l m:KL}(h:OkK l)(k:OkK m):OkK (l++m):=fun p hp=>by
 rcases List.mem_append.1 hp with hp | hp
 ·exact h p hp
 ·exact k p hp
abbrev LnK (l:KL):Prop:=∀ p∈l,p.2.length≤2000000000000
theorem ze2 {l m:KL}(h:LnK l)(k:LnK m):LnK (l++m):=fun p hp=>by
 rcases List.mem_append.1 hp with hp | hp
 ·exact h p hp
 ·exact k p hp
theorem okK_f {x:RF}{m1 m2:Value}(h1:okL x.num.mag)(h2:okL x.den.mag):OkK (kf x m1 m2):=fun p hp=>by
 simp only [List.mem_cons,List.not_mem_nil,or_false] at hp
 rcases hp with rfl | rfl
 ·exact h1
 ·exact h2
theorem zw1 {x:RF}{m1 m2:Value}(h:bdF x):LnK (kf x m1 m2):=fun p hp=>by
 simp only [List.mem_cons,List.not_mem_nil,or_false] at hp
 rcases hp with rfl | rfl
 ·exact Nat.le_trans h.1 zd
 ·exact Nat.le_trans h.2 zd
theorem okK_len {l:KL}(h:OkK l)(k:LnK l):∀ p∈l,okL p.2∧p.2.length≤2000000000000:=fun p hp=>⟨h p hp,k p hp⟩
theorem zf5 {x:RF}{B:Nat}{cs:List Value}{w:World}(h:(RFN x).p B cs w):∃ m1 m2,(FracP x m1 m2).p B cs w∧cbl cs=kbl (kf x m1 m2)∧OkK (kf x m1 m2):=by
 obtain ⟨ps,rfl,hp⟩:=h
 cases hp with
 | @cons _ c1 _ _ h1 hp=>cases hp with
  | @cons _ c2 _ _ h2 hp =>
   cases hp
   obtain ⟨m1,p1,e1⟩:=znq h1
   obtain ⟨m2,p2,e2⟩:=znq h2
   refine ⟨m1,m2,⟨[c1,c2],rfl,.cons p1 (.cons p2 .nil)⟩,?_,okK_f (rin_ok h1) (rin_ok h2)⟩
   have:([c1,c2]:List (List Value)).flatten=c1++c2:=by simp
   rw [this,zfn,e1,e2]
   exact kbl_app.symm
def nm4 (a b c d:Value):Nat→Value
 | 0=>a
 | 1=>b
 | 2=>c
 | _=>d
def nm8 (a b c d e f g h:Value):Nat→Value
 | 0=>a
 | 1=>b
 | 2=>c
 | 3=>d
 | 4=>e
 | 5=>f
 | 6=>g
 | _=>h
theorem zp6 {x:RF}{B:Nat}{cs:List Value}{w:World}(h:(RFN x).p B cs w):∃ m:Nat→Value,(FracP x (m 0) (m 1)).p B cs w∧cbl cs=kbl (kf x (m 0) (m 1))∧OkK (kf x (m 0) (m 1)):=by
 obtain ⟨m1,m2,h1,h2,h3⟩:=zf5 h
 exact ⟨nm4 m1 m2 m1 m2,h1,h2,h3⟩
theorem zdx {x:RM}{B:Nat}{cs:List Value}{w:World}(h:(RMN x).p B cs w):∃ m:Nat→Value,(MatP x m).p B cs w∧cbl cs=kbl (km x m)∧OkK (km x m):=by
 obtain ⟨ps,rfl,hp⟩:=h
 cases hp with
 | @cons _ c1 _ _ h1 hp=>cases hp with
  | @cons _ c2 _ _ h2 hp=>cases hp with
   | @cons _ c3 _ _ h3 hp=>cases hp with
    | @cons _ c4 _ _ h4 hp =>
     cases hp
     obtain ⟨m1,m2,p1,e1,o1⟩:=zf5 h1
     obtain ⟨m3,m4,p2,e2,o2⟩:=zf5 h2
     obtain ⟨m5,m6,p3,e3,o3⟩:=zf5 h3
     obtain ⟨m7,m8,p4,e4,o4⟩:=zf5 h4
     refine ⟨nm8 m1 m2 m3 m4 m5 m6 m7 m8,⟨[c1,c2,c3,c4],rfl,.cons p1 (.cons p2 (.cons p3 (.cons p4 .nil)))⟩,?_,ze1 (ze1 (ze1 o1 o2) o3) o4⟩
     have:([c1,c2,c3,c4]:List (List Value)).flatten=((c1++c2)++c3)++c4:=by simp
     rw [this,zfn,zfn,zfn,e1,e2,e3,e4]
     show _=kbl (((kf x.a m1 m2++kf x.b m3 m4)++kf x.c m5 m6)++kf x.d m7 m8)
     rw [kbl_app,kbl_app,kbl_app]
theorem St.splitN {M:Type}{B N:Nat}{w0:Bs}{Γ:List (Nat × VA)}{Λ:List Lc}{a:Act}{w:World}{s:Nat}{T:TypeId}{H:Hd}{u:Value}{A0 A:As}{c:Prop}{AP:M→As}{kl:M→KL}(hw:WkA A0 (DisA A))(hs:∀ {B:Nat} {cs:List Value} {w:World},A.p B cs w→∃ m,(AP m).p B cs w∧cbl cs=kbl (kl m)∧OkK (kl m))(h:St B w0 N Γ Λ a w)(k:Nat)(hm:Λ[k]?=some ⟨s,T,H,PinA u (A0.and c)⟩) :
  ∃ m,vbl u=kbl (kl m)∧(kbl (kl m)).Nodup∧OkK (kl m)∧c∧St B w0 N Γ (Λ.set k ⟨s,T,H,AP m⟩) a w:=by
 obtain ⟨g,cs,q1,q2,q3,⟨hc,hp⟩,hu⟩:=h.locs _ (List.mem_of_getElem? hm)
 obtain ⟨hA,hn⟩:=hw.2.2 _ _ _ hp
 obtain ⟨m,p1,e,ok⟩:=hs hA
 have hu':vbl u=cbl cs:=by
  have hu2:shape A0.ag cs=u:=hu
  rw [← hu2]
  exact zh5 hp
 have hse:∀ y∈Λ.set k ⟨s,T,H,AP m⟩,∃ m0∈Λ,m0.s=y.s:=fun y hm'=>by
  rcases List.mem_or_eq_of_mem_set hm' with hm' | rfl
  ·exact ⟨y,hm',rfl⟩
  ·exact ⟨_,List.mem_of_getElem? hm,rfl⟩
 refine ⟨m,hu'.trans e,e▸hn,ok,hc,h.lo,h.defers,h.size,h.base,h.vals,fun l hl=>?_,fun a1 ha1 a2 ha2 hne=>?_⟩
 ·rcases List.mem_or_eq_of_mem_set hl with hl | rfl
  ·exact h.locs l hl
  ·exact ⟨g,cs,q1,q2,q3,p1⟩
 ·obtain ⟨m3,r1,r2⟩:=hse a1 ha1
  obtain ⟨m4,r3,r4⟩:=hse a2 ha2
  rw [← r2,← r4] at hne ⊢
  exact h.dis m3 r1 m4 r3 hne
theorem zd9 {u v:Value}(h:Sep u v):Sep v u:=fun g h1 h2=>h g h2 h1
def Kb (us:List Value)(l:KL):Prop:=(kbl l).Nodup∧∀ g∈kbl l,∃ u∈us,g∈vbl u
theorem kb_nil:Kb [] []:=⟨List.nodup_nil,fun g h=>by cases h⟩
theorem zgx {l m:KL}{us:List Value}{v:Value}(h:Kb us l)(hv:vbl v=kbl m)(h2:(kbl m).Nodup)(hs:SepAll us v):Kb (us++[v]) (l++m):=by
 refine ⟨?_,fun g hg=>?_⟩
 ·rw [kbl_app]
  refine List.nodup_append.2 ⟨h.1,h2,fun x hx y hy e=>?_⟩
  subst e
  obtain ⟨u,hu,hg⟩:=h.2 x hx
  exact hs u hu x hg (by rw [hv]; exact hy)
 ·rw [kbl_app,List.mem_append] at hg
  rcases hg with hg | hg
  ·obtain ⟨u,hu,h3⟩:=h.2 g hg
   exact ⟨u,by simp [hu],h3⟩
  ·exact ⟨v,by simp,by rw [hv]; exact hg⟩
theorem zgw {us:List Value}{l:KL}(h:Kb us l):SepL [] l:=zu2 h.1 fun t ht=>by cases ht
theorem zdn {v:Value}:SepAll [] v:=fun u h=>by cases h
theorem zb8 {u v:Value}{us:List Value}(h:Sep u v)(k:SepAll us v):SepAll (u::us) v:=fun x hx=>by
 rcases List.mem_cons.1 hx with rfl | hx
 ·exact h
 ·exact k x hx
theorem zcr {u v:Value}{us:List Value}(h:SepAll us v)(i:Nat)(hi:us[i]?=some u):Sep u v:=h u (List.mem_of_getElem? hi)
theorem okK_nil:OkK []:=fun p h=>by cases h
theorem lnK_nil:LnK []:=fun p h=>by cases h
abbrev bdM (x:RM):Prop:=bdF x.a∧bdF x.b∧bdF x.c∧bdF x.d
theorem zly {x:RM}{m:Nat→Value}(h:bdM x):LnK (km x m):=ze2 (ze2 (ze2 (zw1 h.1) (zw1 h.2.1)) (zw1 h.2.2.1)) (zw1 h.2.2.2)
theorem zgy:bdF rf0:=⟨Nat.zero_le _,Nat.zero_le _⟩
theorem zmm {q:Rat}(h:¬ longQ q=true):bdF (rfOf q):=by
 have h':longQ q=false:=by cases hq:longQ q with
  | true=>exact absurd hq h
  | false=>rfl
 unfold longQ at h'
 simp only [List.any_cons,List.any_nil,Bool.or_false,Bool.or_eq_false_iff] at h'
 have h1:=of_decide_eq_false h'.1
 have h2:=of_decide_eq_false h'.2
 refine ⟨?_,?_⟩
 ·show (riOf q.num).mag.length≤_
  omega
 ·show (riOf (q.den:Int)).mag.length≤_
  omega
theorem bd_ans (q:Rat):bdF (ansF q).1:=by
 unfold ansF
 split
 ·exact zgy
 ·rename_i h; exact zmm h
end Go.Proofs.YthncfchnkjemiaaGreatDoor
namespace Go.Proofs.YthncfchnkjemiaaGreatDoor
open Go Go.RowKit
theorem new_twn {l:List Nat}:NewA (TwN l):=fun B cs w ⟨ok,g,e,h1,h2,h3⟩ g' hg=>by
 subst e
 have:g'=g:=by simpa [cbl,blk] using hg
 subst this
 exact ⟨h1,(Array.getElem?_eq_some_iff.1 h3).1⟩
theorem zls {x:RI}:NewA (RIT x):=zfy fun A hA=>by
 simp at hA
 rcases hA with rfl | rfl
 ·exact new_bo _
 ·exact new_twn
theorem nod_rit {x:RI}:NodA (RIT x):=fun B cs w h=>zvf x B cs w (rit_rin.2.2 _ _ _ h)
def TFD (x:RF):As:=DisA (RFT x)
theorem zvh {x:RF}:NewA (RFT x):=zfy fun A hA=>by
 simp at hA
 rcases hA with rfl | rfl <;> exact zls
theorem zhn {x:RF}:FreeA (RFT x) (RFT x):=zec (.cons (zhm _) (.cons (zhm _) .nil))
theorem zey {x:RF}:NewA (TFD x):=zk1 zvh
theorem zj2 {x:RF}:FreeA (TFD x) (TFD x):=zht zhn
theorem tfd_pins {u v:Value}{x:RF}:WkA (cat [PinA u ((RIT x.num).and (SepAll [] u)),PinA v ((RIT x.den).and (SepAll [u] v))]) (TFD x) :=
 zhs (l:=[(u,RIT x.num),(v,RIT x.den)]) (fun y hy=>by
  simp at hy
  rcases hy with rfl | rfl <;> exact nod_rit)
def TMD (x:RM):As:=DisA (RMT x)
theorem tm_pins {u v s t:Value}{x:RM}:WkA (cat [PinA u ((TFD x.a).and (SepAll [] u)),PinA v ((TFD x.b).and (SepAll [u] v)),PinA s ((TFD x.c).and (SepAll [u,v] s)),PinA t ((TFD x.d).and (SepAll [u,v,s] t))]) (TMD x) :=
 (zhs (l:=[(u,TFD x.a),(v,TFD x.b),(s,TFD x.c),(t,TFD x.d)]) (fun y hy=>by
  simp at hy
  rcases hy with rfl | rfl | rfl | rfl <;> exact zwv)).trans (zeu (zc8 (.cons dis_wk (.cons dis_wk (.cons dis_wk (.cons dis_wk .nil))))))
theorem zdi {x:RM}:NewA (TMD x):=zk1 (zfy fun A hA=>by
 simp at hA
 rcases hA with rfl | rfl | rfl | rfl <;> exact zvh)
theorem zqo {x:RM}:FreeA (TMD x) (TMD x):=zht (zec (.cons zhn (.cons zhn (.cons zhn (.cons zhn .nil)))))
theorem ztj {x:RM}:WkA (TMD x) (DisA (RMN x)):=zeu rmt_rmn
theorem zfc (x:RF)(hx:bdF x):Cn Tryz.prog 30 [(RFA x).va] ((TFD x).va):=by
 refine Cn.intro Tryz.func30 rfl zk nq (fun B w0 a hst=>?_)
 have hst:St B w0 10 [(0,(RFA x).va)] [] a w0.w:=hst
 refine wp_seq ?_
 refine gl (sts:=[]) (news:=[⟨1,26,ptrH,some 0,_,none⟩,⟨2,26,ptrH,some 1,_,none⟩]) (sp:=[.alc 0,.alc 1]) [] hst (oc (zak rfl rfl rfl (gq 0 rfl)) (oc (zas rfl rfl rfl (Str.zero zb0)) o0)) (fun a w hst=>?_)
 have hst:St B w0 10 [] [⟨1,26,ptrH,_⟩,⟨2,26,ptrH,_⟩] a w:=hst
 refine zt ?_
 refine go_drawV' [[],[0],[0,1],[],[3],[0,1,2,3,4],[0,1,2,3,4,5],[0,1,2,3,4,5,6]] (sts:=[none,some (7,fun ν=>_)]) (news:=[]) (sp:=[(fun ν=>.adr 3 1 (.some 0) True),(fun ν=>.val 4 _),(fun ν=>.val 5 (PinA (ν 2) ((RIT x.num).and (SepAll [] (ν 2)))).va),(fun ν=>.adr 6 1 (.some 2) True),(fun ν=>.val 7 _),(fun ν=>.val 8 (PinA (ν 5) ((RIT x.den).and (SepAll [ν 2] (ν 5)))).va),(fun ν=>.val 9 _),(fun ν=>.sto 1)]) [] za7 hst ⟨of_u fun ν=>ob_a rfl rfl (zaa (lz0 0 rfl) zbn),⟨of_u fun ν=>ob_v rfl rfl (za4 0 rfl zk trivial (lz0 0 rfl) (Sub.part 0 rfl rfl) zac),⟨zbw (us:=fun ν=>[]) (xs:=[.tmp 4]) rfl rfl (zmx _ hx.1) zls (zhm _) (.cons (zmv _).va .nil) (fun ν=>(.cons (vq 1 rfl) .nil)) (fun _ _=>rfl) (fun ν=>zb9),⟨of_u fun ν=>ob_a rfl rfl (zaa (lz0 0 rfl) zbf),⟨of_u fun ν=>ob_v rfl rfl (za4 3 rfl zk trivial (lz0 0 rfl) (Sub.part 1 rfl rfl) zac),⟨zbw (us:=fun ν=>[ν 2]) (xs:=[.tmp 7]) rfl rfl (zmx _ hx.2) zls (zhm _) (.cons (zmv _).va .nil) (fun ν=>(.cons (vq 4 rfl) .nil)) (fun _ _=>rfl) (fun ν=>(zbh (zb1 zls) (vq 2 rfl) zb9)),⟨of_u fun ν=>ob_v rfl rfl (zbb (xs:=[(0,.tmp 5),(1,.tmp 8)]) (qs:=[(0,_),(1,_)]) zb0 (.cons ⟨rfl,(vq 2 rfl),rfl⟩ (.cons ⟨rfl,(vq 5 rfl),rfl⟩ .nil))),⟨of_u fun ν=>zag rfl rfl rfl (vq 6 rfl) zaf (Eq.trans (b:=4) rfl rfl),trivial⟩⟩⟩⟩⟩⟩⟩⟩ ⟨(fun ν ν' h=>rfl),⟨(fun ν ν' h=>rfl),⟨(fun ν ν' h=>by first | rfl | simp only [h 2 rfl]),⟨(fun ν ν' h=>rfl),⟨(fun ν ν' h=>rfl),⟨(fun ν ν' h=>by first | rfl | simp only [h 2 rfl,h 5 rfl]),⟨(fun ν ν' h=>by first | rfl | simp only [h 2 rfl,h 5 rfl]),⟨(fun ν ν' h=>by first | rfl | simp only [h 2 rfl,h 5 rfl]),trivial⟩⟩⟩⟩⟩⟩⟩⟩ ⟨trivial,⟨(fun ν ν' h=>by first | rfl | simp only [h 2 rfl,h 5 rfl]),trivial⟩⟩ zk zk (fun ν=>by kernel_rfl) (fun ν=>by kernel_rfl) (fun ν1 a w hst=>?_)
 have hst:St B w0 10 [] [⟨1,26,ptrH,_⟩,⟨2,26,ptrH,_⟩] a w:=hst
 refine za0 ?_
 refine wp_ret ?_
 refine zan ?_ (zao rfl hst (zm 1 rfl) zaf)
 exact tfd_pins.va
theorem zh6 (x:RM)(hx:bdF x.a∧bdF x.b∧bdF x.c∧bdF x.d):Cn Tryz.prog 12 [(RMA x).va] ((TMD x).va):=by
 refine Cn.intro Tryz.func12 rfl zk nq (fun B w0 a hst=>?_)
 have hst:St B w0 16 [(0,(RMA x).va)] [] a w0.w:=hst
 refine wp_seq ?_
 refine gl (sts:=[]) (news:=[⟨1,28,ptrH,some 0,_,none⟩,⟨2,28,ptrH,some 1,_,none⟩]) (sp:=[.alc 0,.alc 1]) [] hst (oc (zak rfl rfl rfl (gq 0 rfl)) (oc (zas rfl rfl rfl (Str.zero zb5)) o0)) (fun a w hst=>?_)
 have hst:St B w0 16 [] [⟨1,28,ptrH,_⟩,⟨2,28,ptrH,_⟩] a w:=hst
 refine zt ?_
 refine go_drawV' [[],[0],[0,1],[],[3],[0,1,2,3,4],[],[6],[0,1,2,3,4,5,6,7],[],[9],[0,1,2,3,4,5,6,7,8,9,10],[0,1,2,3,4,5,6,7,8,9,10,11],[0,1,2,3,4,5,6,7,8,9,10,11,12]] (sts:=[none,some (13,fun ν=>_)]) (news:=[]) (sp:=[(fun ν=>.adr 3 1 (.some 0) True),(fun ν=>.val 4 _),(fun ν=>.val 5 (PinA (ν 2) ((TFD x.a).and (SepAll [] (ν 2)))).va),(fun ν=>.adr 6 1 (.some 4) True),(fun ν=>.val 7 _),(fun ν=>.val 8 (PinA (ν 5) ((TFD x.b).and (SepAll [ν 2] (ν 5)))).va),(fun ν=>.adr 9 1 (.some 8) True),(fun ν=>.val 10 _),(fun ν=>.val 11 (PinA (ν 8) ((TFD x.c).and (SepAll [ν 2,ν 5] (ν 8)))).va),(fun ν=>.adr 12 1 (.some 12) True),(fun ν=>.val 13 _),(fun ν=>.val 14 (PinA (ν 11) ((TFD x.d).and (SepAll [ν 2,ν 5,ν 8] (ν 11)))).va),(fun ν=>.val 15 _),(fun ν=>.sto 1)]) [] za7 hst ⟨of_u fun ν=>ob_a rfl rfl (zaa (lz0 0 rfl) zc4),⟨of_u fun ν=>ob_v rfl rfl (za4 0 rfl zk trivial (lz0 0 rfl) (Sub.part 0 rfl rfl) zaf),⟨zbw (us:=fun ν=>[]) (xs:=[.tmp 4]) rfl rfl (zfc _ hx.1) zey zj2 (.cons (zgs _).va .nil) (fun ν=>(.cons (vq 1 rfl) .nil)) (fun _ _=>rfl) (fun ν=>zb9),⟨of_u fun ν=>ob_a rfl rfl (zaa (lz0 0 rfl) zca),⟨of_u fun ν=>ob_v rfl rfl (za4 3 rfl zk trivial (lz0 0 rfl) (Sub.part 1 rfl rfl) zaf),⟨zbw (us:=fun ν=>[ν 2]) (xs:=[.tmp 7]) rfl rfl (zfc _ hx.2.1) zey zj2 (.cons (zgs _).va .nil) (fun ν=>(.cons (vq 4 rfl) .nil)) (fun _ _=>rfl) (fun ν=>(zbh (zb1 zey) (vq 2 rfl) zb9)),⟨of_u fun ν=>ob_a rfl rfl (zaa (lz0 0 rfl) zc6),⟨of_u fun ν=>ob_v rfl rfl (za4 6 rfl zk trivial (lz0 0 rfl) (Sub.part 2 rfl rfl) zaf),⟨zbw (us:=fun ν=>[ν 2,ν 5]) (xs:=[.tmp 10]) rfl rfl (zfc _ hx.2.2.1) zey zj2 (.cons (zgs _).va .nil) (fun ν=>(.cons (vq 7 rfl) .nil)) (fun _ _=>rfl) (fun ν=>(zbh (zb1 zey) (vq 2 rfl) (zbh (zb1 zey) (vq 5 rfl) zb9))),⟨of_u fun ν=>ob_a rfl rfl (zaa (lz0 0 rfl) zc1),⟨of_u fun ν=>ob_v rfl rfl (za4 9 rfl zk trivial (lz0 0 rfl) (Sub.part 3 rfl rfl) zaf),⟨zbw (us:=fun ν=>[ν 2,ν 5,ν 8]) (xs:=[.tmp 13]) rfl rfl (zfc _ hx.2.2.2) zey zj2 (.cons (zgs _).va .nil) (fun ν=>(.cons (vq 10 rfl) .nil)) (fun _ _=>rfl) (fun ν=>(zbh (zb1 zey) (vq 2 rfl) (zbh (zb1 zey) (vq 5 rfl) (zbh (zb1 zey) (vq 8 rfl) zb9)))),⟨of_u fun ν=>ob_v rfl rfl (zbb (xs:=[(0,.tmp 5),(1,.tmp 8),(2,.tmp 11),(3,.tmp 14)]) (qs:=[(0,_),(1,_),(2,_),(3,_)]) zb5 (.cons ⟨rfl,(vq 2 rfl),rfl⟩ (.cons ⟨rfl,(vq 5 rfl),rfl⟩ (.cons ⟨rfl,(vq 8 rfl),rfl⟩ (.cons ⟨rfl,(vq 11 rfl),rfl⟩ .nil))))),⟨of_u fun ν=>zag rfl rfl rfl (vq 12 rfl) zb4 (Eq.trans (b:=16) rfl rfl),trivial⟩⟩⟩⟩⟩⟩⟩⟩⟩⟩⟩⟩⟩⟩ ⟨(fun ν ν' h=>rfl),⟨(fun ν ν' h=>rfl),⟨(fun ν ν' h=>by first | rfl | simp only [h 2 rfl]),⟨(fun ν ν' h=>rfl),⟨(fun ν ν' h=>rfl),⟨(fun ν ν' h=>by first | rfl | simp only [h 2 rfl,h 5 rfl]),⟨(fun ν ν' h=>rfl),⟨(fun ν ν' h=>rfl),⟨(fun ν ν' h=>by first | rfl | simp only [h 2 rfl,h 5 rfl,h 8 rfl]),⟨(fun ν ν' h=>rfl),⟨(fun ν ν' h=>rfl),⟨(fun ν ν' h=>by first | rfl | simp only [h 2 rfl,h 5 rfl,h 8 rfl,h 11 rfl]),⟨(fun ν ν' h=>by first | rfl | simp only [h 2 rfl,h 5 rfl,h 8 rfl,h 11 rfl]),⟨(fun ν ν' h=>by first | rfl | simp only [h 2 rfl,h 5 rfl,h 8 rfl,h 11 rfl]),trivial⟩⟩⟩⟩⟩⟩⟩⟩⟩⟩⟩⟩⟩⟩ ⟨trivial,⟨(fun ν ν' h=>by first | rfl | simp only [h 2 rfl,h 5 rfl,h 8 rfl,h 11 rfl]),trivial⟩⟩ zk zk (fun ν=>by kernel_rfl) (fun ν=>by kernel_rfl) (fun ν1 a w hst=>?_)
 have hst:St B w0 16 [] [⟨1,28,ptrH,_⟩,⟨2,28,ptrH,_⟩] a w:=hst
 refine za0 ?_
 refine wp_ret ?_
 refine zan ?_ (zao rfl hst (zm 1 rfl) zb4)
 exact tm_pins.va
end Go.Proofs.YthncfchnkjemiaaGreatDoor
namespace Go.Proofs.YthncfchnkjemiaaGreatDoor
open Go Go.RowKit
def p4 (m:MQ)(j:Nat):Rat:=[m.a,m.b,m.c,m.d].getD j 0
def mE (m q:MQ)(j:Nat):Rat:=p4 m (j/2*2)*p4 q (j%2)+p4 m (j/2*2+1)*p4 q (j%2+2)
def mulQ (m q:MQ):MQ:=⟨m.a*q.a+m.b*q.c,m.a*q.b+m.b*q.d,m.c*q.a+m.d*q.c,m.c*q.b+m.d*q.d⟩
theorem zrc {k:Nat}{m:MQ}{j:Nat}(h:j<4):[QA k m.a,QA k m.b,QA k m.c,QA k m.d][j]?=some (QA k (p4 m j)) :=
 match j,h with
 | 0,_=>rfl
 | 1,_=>rfl
 | 2,_=>rfl
 | 3,_=>rfl
theorem ar_quo {i:Nat}(h:i<4):IntKind.i64.wrap (Int.tdiv (i:Int) 2)=((i/2:Nat):Int) :=
 match i,h with
 | 0,_=>by decide
 | 1,_=>by decide
 | 2,_=>by decide
 | 3,_=>by decide
theorem ar_rem {i:Nat}(h:i<4):Int.tmod (i:Int) 2=((i%2:Nat):Int) :=
 match i,h with
 | 0,_=>by decide
 | 1,_=>by decide
 | 2,_=>by decide
 | 3,_=>by decide
theorem ar_mul {i:Nat}(h:i<4):IntKind.i64.wrap (((i/2:Nat):Int)*2)=((i/2*2:Nat):Int) :=
 match i,h with
 | 0,_=>by decide
 | 1,_=>by decide
 | 2,_=>by decide
 | 3,_=>by decide
theorem ar_one {i:Nat}(h:i<4):IntKind.i64.wrap (((i/2*2:Nat):Int)+1)=((i/2*2+1:Nat):Int) :=
 match i,h with
 | 0,_=>by decide
 | 1,_=>by decide
 | 2,_=>by decide
 | 3,_=>by decide
theorem ar_two {i:Nat}(h:i<4):IntKind.i64.wrap (((i%2:Nat):Int)+2)=((i%2+2:Nat):Int) :=
 match i,h with
 | 0,_=>by decide
 | 1,_=>by decide
 | 2,_=>by decide
 | 3,_=>by decide
theorem ar_nxt {i:Nat}(h:i<4):IntKind.i64.wrap ((i:Int)+1)=((i+1:Nat):Int) :=
 match i,h with
 | 0,_=>by decide
 | 1,_=>by decide
 | 2,_=>by decide
 | 3,_=>by decide
theorem app_frac:∃ it z,Tryz.prog.info? 26=some it∧it.zero=some z∧it.size=4∧it.bytes=64∧z.cells.size=4:=by
 have h:((Tryz.prog.info? 26).bind fun it=>it.zero.map fun z=>(it.size,it.bytes,z.cells.size))=some (4,64,4):=by kernel_rfl
 cases hi:Tryz.prog.info? 26 with
 | none=>rw [hi] at h; simp at h
 | some it =>
  rw [hi] at h
  cases hz:it.zero with
  | none=>simp [hz] at h
  | some z =>
   simp [hz] at h
   exact ⟨it,z,rfl,hz,h.1,h.2.1,h.2.2⟩
theorem zqq {k:Nat}(m:MQ):Cn Tryz.prog 216 [(QMA k m).va] ((QMA k m).va):=by
 refine Cn.intro Tryz.func216 rfl zk nq (fun B w0 a hst=>?_)
 have hst:St B w0 12 [(0,(QMA k m).va)] [] a w0.w:=hst
 refine wp_seq ?_
 refine gl (sts:=[]) (news:=[⟨1,28,ptrH,some 0,_,none⟩,⟨2,151,ptrH,some 1,_,none⟩]) (sp:=[.alc 0,.alc 1]) [] hst (oc (zak rfl rfl rfl (gq 0 rfl)) (oc (zas rfl rfl rfl (Arr.zero zhw)) o0)) (fun a w hst=>?_)
 have hst:St B w0 12 [] [⟨1,28,ptrH,_⟩,⟨2,151,ptrH,_⟩] a w:=hst
 refine zt<|gl (sts:=[none,some (9,_)]) (news:=[]) (sp:=[.adr 3 1 (.some 0) True,.val 4 _,.adr 5 1 (.some 4) True,.val 6 _,.adr 7 1 (.some 8) True,.val 8 _,.adr 9 1 (.some 12) True,.val 10 _,.val 11 _,.sto 1]) [] hst (oc (ob_a rfl rfl (zaa (lz0 0 rfl) zc4)) (zv rfl (za4 0 rfl zk trivial (lz0 0 rfl) (Sub.part 0 rfl rfl) zaf) (oc (ob_a rfl rfl (zaa (lz0 0 rfl) zca)) (zv rfl (za4 2 rfl zk trivial (lz0 0 rfl) (Sub.part 1 rfl rfl) zaf) (oc (ob_a rfl rfl (zaa (lz0 0 rfl) zc6)) (zv rfl (za4 4 rfl zk trivial (lz0 0 rfl) (Sub.part 2 rfl rfl) zaf) (oc (ob_a rfl rfl (zaa (lz0 0 rfl) zc1)) (zv rfl (za4 6 rfl zk trivial (lz0 0 rfl) (Sub.part 3 rfl rfl) zaf) (zv rfl (zq3 (xs:=[(0,.tmp 4),(1,.tmp 6),(2,.tmp 8),(3,.tmp 10)]) (qs:=[(0,_),(1,_),(2,_),(3,_)]) zhw (.cons ⟨rfl,(vq 1 rfl),rfl⟩ (.cons ⟨rfl,(vq 3 rfl),rfl⟩ (.cons ⟨rfl,(vq 5 rfl),rfl⟩ (.cons ⟨rfl,(vq 7 rfl),rfl⟩ .nil))))) (oc (zag rfl rfl rfl (vq 8 rfl) zmw (Eq.trans (b:=16) rfl rfl)) o0)))))))))) (fun a w hst=>?_)
 have hst:St B w0 12 [] [⟨1,28,ptrH,_⟩,⟨2,151,ptrH,_⟩] a w:=hst
 refine za0 ?_
 refine wp_ret ?_
 refine zan ?_ (zao rfl hst (zm 1 rfl) zmw)
 exact zbt
def mulM (m q:RM):RM × Int:=asM (kM (kM 0 m) q) (mulQ (toM m) (toM q))
end Go.Proofs.YthncfchnkjemiaaGreatDoor
namespace Go.Proofs.YthncfchnkjemiaaGreatDoor
open Go Go.RowKit
end Go.Proofs.YthncfchnkjemiaaGreatDoor
namespace Go.Proofs.YthncfchnkjemiaaGreatDoor
open Go Go.RowKit
theorem sub_self {A:As}:Sub A 0 A:=fun B cs w h=>by
 have hl:=A.len B cs w h
 refine ⟨?_,by omega⟩
 rw [List.drop_zero,List.take_of_length_le zo]
 exact h
end Go.Proofs.YthncfchnkjemiaaGreatDoor
namespace Go.Proofs.YthncfchnkjemiaaGreatDoor
open Go Go.RowKit
end Go.Proofs.YthncfchnkjemiaaGreatDoor
namespace Go.Proofs.YthncfchnkjemiaaGreatDoor
open Go Go.RowKit
end Go.Proofs.YthncfchnkjemiaaGreatDoor
namespace Go.Proofs.YthncfchnkjemiaaGreatDoor
open Go Go.RowKit
section
variable {P:Program} {R:Rg} {Q:Exit→Act→World→Prop} {B i:Nat} {w0:Bs}
end
end Go.Proofs.YthncfchnkjemiaaGreatDoor
namespace Go.Proofs.YthncfchnkjemiaaGreatDoor
open Go Go.RowKit
end Go.Proofs.YthncfchnkjemiaaGreatDoor
namespace Go.Proofs.YthncfchnkjemiaaGreatDoor
open Go Go.RowKit
theorem as_no {c:Prop}[Decidable c](h:((if c then (4:Int) else 0) != 0)=false):¬ c:=fun hc=>by rw [if_pos hc] at h; simp at h
theorem as_yes {c:Prop}[Decidable c](h:((if c then (4:Int) else 0) != 0)=true):c:=Decidable.byContradiction fun hc=>by rw [if_neg hc] at h; simp at h
end Go.Proofs.YthncfchnkjemiaaGreatDoor
namespace Go.Proofs.YthncfchnkjemiaaGreatDoor
open Go Go.RowKit
theorem zgk {B:Nat}{w:World}:(cat [NilI,NilI]).p B ([.bool false,.slice none 0 0,.bool false,.slice none 0 0]:List Value) w:=⟨[[.bool false,.slice none 0 0],[.bool false,.slice none 0 0]],rfl,.cons ⟨[[.bool false],[.slice none 0 0]],rfl,.cons rfl (.cons rfl .nil)⟩ (.cons ⟨[[.bool false],[.slice none 0 0]],rfl,.cons rfl (.cons rfl .nil)⟩ .nil)⟩
abbrev NilF:As:=cat [NilI,NilI]
theorem zen:Str Tryz.prog 28 [NilF,NilF,NilF,NilF] :=
 Str.of (z:=.agg (([.bool false,.slice none 0 0,.bool false,.slice none 0 0]:List Value)++([.bool false,.slice none 0 0,.bool false,.slice none 0 0]:List Value)++([.bool false,.slice none 0 0,.bool false,.slice none 0 0]:List Value)++([.bool false,.slice none 0 0,.bool false,.slice none 0 0]:List Value)).toArray) zk Tryz.underlying28 zk fun B w=>⟨[([.bool false,.slice none 0 0,.bool false,.slice none 0 0]:List Value),([.bool false,.slice none 0 0,.bool false,.slice none 0 0]:List Value),([.bool false,.slice none 0 0,.bool false,.slice none 0 0]:List Value),([.bool false,.slice none 0 0,.bool false,.slice none 0 0]:List Value)],rfl,.cons zgk (.cons zgk (.cons zgk (.cons zgk .nil)))⟩
theorem zgl:WkA NilF (RFN rf0):=⟨rfl,rfl,fun B cs w h=>(zf_rfd.2.2 _ _ _ h).1⟩
theorem zyy {B:Nat}{cs:List Value}{w:World}(h:NilF.p B cs w):cbl cs=[]:=by rw [zng h]; rfl
theorem zmj {B:Nat}{w:World}:∀ {l:List As} {ps:List (List Value)},(∀ A∈l,A=NilF)→All2 (fun (A:As) c=>A.p B c w) l ps→cbl ps.flatten=[]
 | [],_,_,h=>by cases h; rfl
 | A::l,_,hn,h=>by
  cases h with
  | cons h1 h2 =>
   rw [hn A (by simp)] at h1
   rw [List.flatten_cons,zfn,zyy h1,zmj (fun A' hA=>hn A' (by simp [hA])) h2]
   rfl
theorem zm_rmd:WkA (cat [NilF,NilF,NilF,NilF]) (RMD rm0):=⟨rfl,rfl,fun B cs w h=>by
 have h1:=(zc8 (.cons zgl (.cons zgl (.cons zgl (.cons zgl .nil))))).2.2 _ _ _ h
 obtain ⟨ps,e,hp⟩:=h
 refine ⟨h1,?_⟩
 rw [e,zmj (fun A hA=>by simp at hA; exact hA) hp]
 exact List.nodup_nil⟩
abbrev MRD (r:RM × Int):VA:=Tu [(RMD r.1).va,In r.2]
theorem md_pins {u v s t:Value}{k1 k2 k3 k4:Nat}{m:MQ}:WkA (cat [PinA u ((QD k1 m.a).and (SepAll [] u)),PinA v ((QD k2 m.b).and (SepAll [u] v)),PinA s ((QD k3 m.c).and (SepAll [u,v] s)),PinA t ((QD k4 m.d).and (SepAll [u,v,s] t))]) (RMD (rmOf m)) :=
 (zhs (l:=[(u,QD k1 m.a),(v,QD k2 m.b),(s,QD k3 m.c),(t,QD k4 m.d)]) (fun y hy=>by
  simp at hy
  rcases hy with rfl | rfl | rfl | rfl <;> exact nod_qd)).trans (zeu (zc8 (.cons zks (.cons zks (.cons zks (.cons zks .nil))))))
end Go.Proofs.YthncfchnkjemiaaGreatDoor
