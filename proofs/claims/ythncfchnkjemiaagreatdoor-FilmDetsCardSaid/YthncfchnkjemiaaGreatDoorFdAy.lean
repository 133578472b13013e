import Derived.Test.YthncfchnkjemiaaGreatDoorFdAa
import Derived.Test.YthncfchnkjemiaaGreatDoorFdAc
import Derived.Test.YthncfchnkjemiaaGreatDoorFdAo
import Derived.Test.YthncfchnkjemiaaGreatDoorFdAu
import Derived.Test.YthncfchnkjemiaaGreatDoorFdAw
import Derived.Test.YthncfchnkjemiaaGreatDoorFdAx
import Derived.ProofKit
import Derived.OpenShut
import Derived.ChangeOld
import Derived.Below
import Derived.ArgAppend
import Derived.Laws.AppendOwn
import Derived.Great.BuildSlice
set_option linter.unusedVariables false
set_option linter.unusedSimpArgs false
set_option linter.unusedSectionVars false
set_option maxRecDepth 100000
namespace Go.Proofs.YthncfchnkjemiaaGreatDoor
open Go Go.RowKit
def AllG (a:Act) (w:World):List (Nat × VA)→Prop
 | []=>True
 | x::l=>x.2.p w.heap.size (a.eval (.tmp x.1)) w∧AllG a w l
theorem AllG.mem {a:Act} {w:World}:∀ {l:List (Nat × VA)},AllG a w l→∀ x∈l,x.2.p w.heap.size (a.eval (.tmp x.1)) w
 | y::l,h,x,hx=>by
  rcases List.mem_cons.1 hx with rfl | hx
  ·exact h.1
  ·exact AllG.mem h.2 x hx
section
variable {P:Program} {B N:Nat} {w0:Bs} {Γ:List (Nat × VA)} {Λ:List Lc} {a:Act} {w:World}
theorem St.bw (h:St B w0 N Γ Λ a w):B≤w.heap.size:=Nat.le_trans (h.lo _ (.inl (Nat.le_refl _))) h.base.size
end
section
variable {P:Program} {Q:Exit→Act→World→Prop} {B N:Nat} {w0:Bs} {Γ:List (Nat × VA)} {Λ:List Lc} {a:Act} {w:World} {ops:Array Oper}
theorem go_first {id m:Nat} (hsz:ops.size=m+1) (h:wpOp P ops Q 0 (wpOps P ops Q (List.range' 1 m)) a w):(Code.region id ops false).wp P Q a w:=by
 refine wp_region ?_
 rw [List.range_eq_range',hsz,List.range'_succ,wpOps_cons]
 exact h
theorem go_restM {sp:List Sp} {d0 m:Nat} {A0:VA} (src:List Src) (h:St B w0 N ((d0,A0)::Γ) Λ a w) (h0:sp[0]?=some (.val d0 A0)) (hsz:ops.size=m+1)
  (hob:Obs P Q ⟨ops,N,Γ,les0 Λ,sp,fun i=>List.range i⟩ B w0 1 m) (hk:Rg.chk ⟨ops,N,Γ,les0 Λ,sp,fun i=>List.range i⟩=true) (hsrc:src.all (okS ⟨ops,N,Γ,les0 Λ,sp,fun i=>List.range i⟩)=true)
  (hQ:∀ a w,St B w0 N (src.filterMap (takeS ⟨ops,N,Γ,les0 Λ,sp,fun i=>List.range i⟩)) Λ a w→Q .normal a w):wpOps P ops Q (List.range' 1 m) a w:=by
 have e:m=ops.size - 1:=by omega
 subst e
 exact go_rest src h h0 zo hob hk hsrc hQ
end
theorem may_all {B:Nat} {w1:Bs} {Ts:List TypeId} (hB:B=w1.w.heap.size):∀ E,Ts.contains E=true→RowMay w1 B E:=fun E _ w g c fz _ h _=>.inl (hB▸h)
def ZBk:List As:=[NumA .i64 0,EqS (.slice none 0 0),EqS (.slice none 0 0),EqS (.slice none 0 0),EqS (.slice none 0 0),EqS (.slice none 0 0),EqS (.slice none 0 0),EqS (.slice none 0 0),EqS (.slice none 0 0),EqS (.slice none 0 0),EqS (.slice none 0 0),EqS (.slice none 0 0),EqS (.slice none 0 0),EqS (.slice none 0 0),EqS (.slice none 0 0),EqS (.slice none 0 0),EqS (.slice none 0 0)]
theorem str_book:Str Tryz.prog 59 ZBk :=
 Str.of (z:=.agg ([Value.int .i64 0]++List.replicate 16 (Value.slice none 0 0)).toArray) zk Tryz.underlying59 zk fun B w=>⟨[Value.int .i64 0]::List.replicate 16 [Value.slice none 0 0],rfl,.cons rfl (.cons ⟨rfl,rfl⟩ (.cons ⟨rfl,rfl⟩ (.cons ⟨rfl,rfl⟩ (.cons ⟨rfl,rfl⟩ (.cons ⟨rfl,rfl⟩ (.cons ⟨rfl,rfl⟩ (.cons ⟨rfl,rfl⟩ (.cons ⟨rfl,rfl⟩ (.cons ⟨rfl,rfl⟩ (.cons ⟨rfl,rfl⟩ (.cons ⟨rfl,rfl⟩ (.cons ⟨rfl,rfl⟩ (.cons ⟨rfl,rfl⟩ (.cons ⟨rfl,rfl⟩ (.cons ⟨rfl,rfl⟩ (.cons ⟨rfl,rfl⟩ .nil))))))))))))))))⟩
theorem zbk_bke:WkA (cat ZBk) (BkE []):=⟨rfl,rfl,fun B cs w ⟨ps,e,hp⟩=>by
 cases hp with
 | @cons _ c1 _ _ h1 hp=>cases hp with
  | @cons _ c2 _ _ h2 hp =>
   have h2':c2=[.slice none 0 0]:=h2.1
   subst h2'
   exact ⟨.slice none 0 0,_,e,.cons h1 (.cons ⟨rfl,World.ownsRow_nil ..,(fun s hs=>by cases hs),fun i j s t h=>by cases h⟩ hp)⟩⟩
section
open Rg
variable {P:Program} {Q:Exit→Act→World→Prop} {R:Rg} {B i:Nat} {w0:Bs}
theorem r_extT {t k:Nat} {v:Value} {l:List As} {us:List Value} {A:As} (hx:Has R B w0 i (.tmp t) (PinT v l us)) (hk:l[k]?=some A):Wv P Q R B w0 i (.extract (.tmp t) k) A.va:=by
 intro d T ps af gd a w av K hK
 obtain ⟨e1,vs,e2,h⟩:=hx a w av
 obtain ⟨y,hy,hp,_⟩:=h.get hk
 have e3:a.eval (.tmp t)=.tuple vs.toArray:=e1.trans e2
 exact zbp (w':=w) (v:=y) (by simp [execOp,e3,Instr.extract,hy]) (hK y w (Grow.refl w) hp)
end
def TwL (l:List Nat):As where
 n:=1
 ag:=false
 p B cs w:=okL l∧∃ g,cs=[.slice (some ⟨g,0,none⟩) l.length (l.length+1)]∧l.length+1≤maxLen∧w.heap[g]?=some (.cells ((l++[7777]).map fun (x:Nat)=>Value.int .u32 x).toArray U32 (0,0))
 deps:=[U32]
 len:=by rintro B cs w ⟨_,g,rfl,_⟩; rfl
 one:=by rintro B cs w ⟨_,g,rfl,_⟩ x hx; simp at hx; subst hx; rfl
 ag1:=fun _=>rfl
 cg:=by
  rintro B cs w w' hg ⟨h0,g,rfl,h2,h3⟩
  exact ⟨h0,g,rfl,h2,hg.heap h3⟩
 wr:=by
  rintro B cs w w' g c T fz hg hT hB hW ⟨h0,g',rfl,h2,h3⟩
  refine ⟨h0,g',rfl,h2,?_⟩
  rw [hW.block g' fun hh=>?_]
  ·exact h3
  ·subst hh
   rw [hg] at h3
   simp only [Option.some.injEq,Obj.cells.injEq] at h3
   exact hT (by simp [h3.2.1])
theorem twn_twr {l:List Nat}:WkA (TwN l) (TwL l):=⟨rfl,rfl,fun B cs w ⟨ok,g,e,h1,h2,h3⟩=>⟨ok,g,e,h2,h3⟩⟩
theorem twR_A {l:List Nat}:Wk (TwL l).va (MgA l).va:=fun B v w ⟨cs,⟨ok,g,e,h2,h3⟩,hv⟩=>by
 subst e
 have e2:v=.slice (some ⟨g,0,none⟩) l.length (l.length+1):=hv
 subst e2
 have:=zen ((twN_full (B:=B) ok h2 h3).take l.length) (n:=l.length) (by simp)
 rwa [List.take_left] at this
theorem wkA_twR {l:List Nat}:WkA (TwL l) (MgA l):=⟨rfl,rfl,fun B cs w h=>by
 obtain ⟨cs',h1,h2⟩:=twR_A B (shape false cs) w ⟨cs,h,rfl⟩
 have l1:=(TwL l).len _ _ _ h
 have l2:=(MgA l).len _ _ _ h1
 match cs,cs',l1,l2 with
 | [c],[c'],_,_ =>
  have e:c=c':=h2
  subst e
  exact h1⟩
section
variable {P:Program} {R:Rg} {Q:Exit→Act→World→Prop} {B i:Nat} {w0:Bs}
theorem twR_va {l:List Nat} {B:Nat} {v:Value} {w:World} (h:(TwL l).va.p B v w):okL l∧∃ g,v=.slice (some ⟨g,0,none⟩) l.length (l.length+1)∧l.length+1≤maxLen∧w.heap[g]?=some (.cells ((l++[7777]).map fun (x:Nat)=>Value.int .u32 x).toArray U32 (0,0)):=by
 obtain ⟨cs,⟨ok,g,e,h2,h3⟩,hv⟩:=h
 subst e
 exact ⟨ok,g,hv,h2,h3⟩
theorem r_capR {x:Operand} {S E':TypeId} {l:List Nat} (hS:P.underlying S=some (.slice E')) (hx:Has R B w0 i x (TwL l).va):Wv P Q R B w0 i (.call ⟨.builtin .cap,#[x],#[S]⟩) (In ((l.length+1:Nat):Int)) :=
 zbv fun d T ps af gd a w av=>by
  obtain ⟨_,g,hv,_,_⟩:=twR_va (hx a w av)
  refine ⟨.int .i64 ((l.length+1:Nat):Int),w,?_,Grow.refl w,zcz _ _ _ _⟩
  simp [execOp,resolve,invoke,builtin,hv,Builtin.cap_,run_underlying hS,goInt]
theorem r_reslR {x z:Operand} {S:TypeId} {l:List Nat} (hS:Sl P S U32 1) (hx:Has R B w0 i x (TwL l).va) (hz:Has R B w0 i z (In ((l.length+1:Nat):Int))):Wv P Q R B w0 i (.slice S x none (some z) none) (MgA (l++[7777])).va :=
 zbv fun d T ps af gd a w av=>by
  obtain ⟨hs1,hs2⟩:=hS
  obtain ⟨ok,g,e1,hm,hh⟩:=twR_va (hx a w av)
  have e3:=zbz (hz a w av)
  have hE:P.elem S=U32:=by simp [Program.elem,hs1]
  have hs1':P.underlying S=some (.slice (P.elem S)):=by rw [hE]; exact hs1
  have hsz:∀ w,(sizeOf U32).run P w=.ok 1 w:=fun w=>by
   cases hi:P.info? U32 with
   | none=>rw [hi] at hs2; simp at hs2
   | some it=>rw [hi] at hs2; simp [sizeOf,typeInfo,hi]; simpa using hs2
  refine ⟨.slice (some ⟨g,0,none⟩) (l.length+1) (l.length+1),w,?_,Grow.refl w,zen (twN_full ok hm hh) (by simp)⟩
  have hr:=run_slice_h (P:=P) w S (some ⟨g,0,none⟩) l.length (l.length+1) hs1' .i64 ((l.length+1:Nat):Int) zo zo
  rw [hE,hsz] at hr
  have hne:¬ l.length+1=0:=by omega
  simp only [Result.andThen_ok,sliced,Int.toNat_natCast,hne,if_false,Nat.mul_one,Option.map_some,Nat.sub_zero] at hr
  simp only [execOp,e1,e3,Option.map_some,run_sliceAt_slice _ _ _ _ _ _ hs1',Sem.run_bind,Sem.run_pure]
  erw [hr]
  simp [Addr.add]
end
def RIR (x:RI):As:=cat [BoA x.neg,TwL x.mag]
def RFR (x:RF):As:=cat [RIR x.num,RIR x.den]
def RGR (x:RG):As:=cat [RFR x.re,RFR x.im]
theorem wkA_rir {x:RI}:WkA (RIR x) (RIA x):=zbg (.cons (.refl _) (.cons wkA_twR .nil))
theorem wkA_rfr {x:RF}:WkA (RFR x) (RFA x):=zbg (.cons wkA_rir (.cons wkA_rir .nil))
theorem zkj {x:RG}:WkA (RGR x) (RGA x):=zbg (.cons wkA_rfr (.cons wkA_rfr .nil))
def OF (x:RF):As:=cat [RIO x.num,RIO x.den]
def OG (x:RG):As:=cat [OF x.re,OF x.im]
theorem up_of {x:RF}:UpA (RFA x) (OF x):=ze9 (.cons (up_ri _) (.cons (up_ri _) .nil))
theorem up_og {x:RG}:UpA (RGA x) (OG x):=ze9 (.cons up_of (.cons up_of .nil))
theorem wkA_riO {x:RI}:WkA (RIO x) (RIA x):=⟨rfl,rfl,fun B cs w h=>by
 obtain ⟨ps,e,h⟩:=h
 subst e
 cases h with
 | cons h1 h=>cases h with
  | @cons _ c _ _ h2 h =>
   cases h
   refine ⟨_,rfl,.cons h1 (.cons ?_ .nil)⟩
   obtain ⟨cs',q1,q2⟩:=zgi B (shape false c) w ⟨c,h2,rfl⟩
   have l1:=(MgO x.mag).len _ _ _ h2
   have l2:=(MgA x.mag).len _ _ _ q1
   match c,cs',l1,l2 with
   | [c],[c'],_,_ =>
    have e:c=c':=q2
    subst e
    exact q1⟩
theorem of_rfa {x:RF}:WkA (OF x) (RFA x):=zbg (.cons wkA_riO (.cons wkA_riO .nil))
theorem og_rga {x:RG}:WkA (OG x) (RGA x):=zbg (.cons of_rfa (.cons of_rfa .nil))
theorem upA_twR {l:List Nat}:UpA (TwL l) (TwL l):=⟨rfl,rfl,fun _ _ _ _ h=>h⟩
theorem upA_rir {x:RI}:UpA (RIR x) (RIR x):=ze9 (.cons (up_bo _) (.cons upA_twR .nil))
theorem upA_rfr {x:RF}:UpA (RFR x) (RFR x):=ze9 (.cons upA_rir (.cons upA_rir .nil))
theorem zkk {x:RG}:UpA (RGR x) (RGR x):=ze9 (.cons upA_rfr (.cons upA_rfr .nil))
theorem rit_rir {x:RI}:WkA (RIT x) (RIR x):=zbg (.cons (.refl _) (.cons twn_twr .nil))
theorem rft_rfr {x:RF}:WkA (RFT x) (RFR x):=zbg (.cons rit_rir (.cons rit_rir .nil))
theorem zkr {x:RG}:WkA (RGT x) (RGR x):=zbg (.cons rft_rfr (.cons rft_rfr .nil))
set_option maxHeartbeats 1000000 in
theorem zkb (x y:RI) (hx:x.mag.length≤1000000000000):Cn Tryz.prog 171 [(RIR x).va,(RIA y).va] (Bo (decide (x=y))):=by
 refine Cn.intro Tryz.func171 rfl zk nq (fun B w0 a hst=>?_)
 have hst:St B w0 32 [(0,(RIR x).va),(1,(RIA y).va)] [] a w0.w:=hst
 refine wp_seq ?_
 refine gl (sts:=[]) (news:=[⟨2,24,ptrH,some 0,_,none⟩,⟨3,24,ptrH,some 1,_,none⟩]) (sp:=[.alc 0,.alc 1,.val 4 _]) [.o 2] hst (oc (zai rfl rfl rfl (gq 0 rfl)) (oc (zai rfl rfl rfl (gq 1 rfl)) (zv rfl rfl (za2 zb7) o0))) (fun a w hst=>?_)
 have hst:St B w0 32 [(4,_)] [⟨2,24,ptrH,_⟩,⟨3,24,ptrH,_⟩] a w:=hst
 refine zt ?_
 refine zau (anc:=[[],[],[0,1],[0,1,2],[0,1,2,3],[0,1,2,3,4],[0,1,2,3,4,5],[0,1,2,3],[0,1,2,3,7],[0,1,2,3,7,8],[0,1,2,3,4,5,6,7,8,9],[0,1,2,3,4,5,6,7,8,9,10],[0,1,2,3,4,5,6,7,8,9,10,11],[0,1,2,3,4,5,6,7,8,9,10,11,12],[0,1,2,3,4,5,6,7,8,9,10,11,12,13],[0,1,2,3,4,5,6,7,8,9,10,11,12],[0,1,2,3,4,5,6,7,8,9,10,11,12,15],[0,1,2,3,4,5,6,7,8,9,10,11,12,15,16],[0,1,2,3,4,5,6,7,8,9,10,11,12,15,16,17],[0,1,2,3,4,5,6,7,8,9,10,11,12,13,14,15,16,17,18],[0,1,2,3,4,5,6,7,8,9,10,11,12],[0,1,2,3,4,5,6,7,8,9,10,11,12,20],[0,1,2,3,4,5,6,7,8,9,10,11,12,20,21],[0,1,2,3,4,5,6,7,8,9,10,11,12,13,14,15,16,17,18,19,20,21,22],[0,1,2,3,4,5,6,7,8,9,10,11,12,13,14,15,16,17,18,19,20,21,22,23],[0,1,2,3,4,5,6,7,8,9,10,11,12,13,14,15,16,17,18,19,20,21,22,23,24],[0,1,2,3,4,5,6,7,8,9,10,11,12,13,14,15,16,17,18,19,20,21,22,23,24,25],[0,1,2,3,4,5,6,7,8,9,10,11,12,13,14,15,16,17,18,19,20,21,22,23,24,25,26]]) (sts:=[none,none]) (news:=[]) (sp:=((.val 5 _:Sp)::(.val 6 _)::(.val 7 _)::(.val 8 _)::(.adr 9 2 (.some 1) (_=true))::(.val 10 (Wh (_=true) _))::(.val 11 (Wh (_=true) _))::(.adr 12 2 (.some 1) (_=true))::(.val 13 (Wh (_=true) _))::(.val 14 (Wh (_=true) _))::(.val 15 (Wh (_=true) _))::(.val 16 _)::(.val 17 _)::(.adr 18 2 (.some 1) (_=true))::(.val 19 (Wh (_=true) _))::(.adr 20 2 (.some 1) (_=true))::(.val 21 (Wh (_=true) _))::(.val 22 (Wh (_=true) _))::(.val 23 (Wh (_=true) _))::(.val 24 (Wh (_=true) _))::(.adr 25 2 (.some 1) (_=true))::(.val 26 (Wh (_=true) _))::(.val 27 (Wh (_=true) _))::(.val 28 (Wh (_=true) _))::(.val 29 (Wh (_=true) _))::(.val 30 (Wh (_=true) _))::(.val 31 _)::(.val 4 _)::[])) [.o 27] za6 hst (zv rfl rfl (zad (lz0 0 rfl) zab) (zv rfl rfl (zad (lz0 1 rfl) zab) (zv rfl rfl (za5 (xs:=[.tmp 5,.tmp 6]) ((zir x y).wk (.cons wkA_rir.va (.cons zbt .nil))) (.cons (vq 0 rfl) (.cons (vq 1 rfl) .nil))) (zv rfl rfl (za1 (vq 2 rfl)) (oc (zcc rfl rfl rfl (vq 3 rfl) nq (fun hg=>za9 (lz0 0 rfl) zaj)) (oc (zam rfl rfl rfl (vq 3 rfl) nq (fun hg=>za4 4 rfl zk hg (lz0 0 rfl) (Sub.part 1 rfl rfl) zbb)) (oc (zam rfl rfl rfl (vq 3 rfl) nq (fun hg=>r_capR Tryz.underlying22 (zac (vq 5 rfl) hg))) (oc (zcc rfl rfl rfl (vq 3 rfl) nq (fun hg=>za9 (lz0 0 rfl) zaj)) (oc (zam rfl rfl rfl (vq 3 rfl) nq (fun hg=>za4 7 rfl zk hg (lz0 0 rfl) (Sub.part 1 rfl rfl) zbb)) (oc (zam rfl rfl rfl (vq 3 rfl) nq (fun hg=>zb0 Tryz.underlying22 (has_wk' (zac (vq 8 rfl) hg) twR_A))) (oc (zam rfl rfl rfl (vq 3 rfl) nq (fun hg=>zfg (zac (vq 6 rfl) hg) (zac (vq 9 rfl) hg))) (zv rfl rfl (zch (vq 3 rfl) (vq 10 rfl)) (zv rfl rfl (za1 (vq 11 rfl)) (oc (zcc rfl rfl rfl (vq 12 rfl) nq (fun hg=>za9 (lz0 0 rfl) zaj)) (oc (zam rfl rfl rfl (vq 12 rfl) nq (fun hg=>za4 13 rfl zk hg (lz0 0 rfl) (Sub.part 1 rfl rfl) zbb)) (oc (zcc rfl rfl rfl (vq 12 rfl) nq (fun hg=>za9 (lz0 0 rfl) zaj)) (oc (zam rfl rfl rfl (vq 12 rfl) nq (fun hg=>za4 15 rfl zk hg (lz0 0 rfl) (Sub.part 1 rfl rfl) zbb)) (oc (zam rfl rfl rfl (vq 12 rfl) nq (fun hg=>zb0 Tryz.underlying22 (has_wk' (zac (vq 16 rfl) hg) twR_A))) (oc (zam rfl rfl rfl (vq 12 rfl) nq (fun hg=>zbh (zac (vq 17 rfl) hg) za3 (zbl zo))) (oc (zam rfl rfl rfl (vq 12 rfl) nq (fun hg=>r_reslR zbd (zac (vq 14 rfl) hg) (zac (vq 18 rfl) hg))) (oc (zcc rfl rfl rfl (vq 12 rfl) nq (fun hg=>za9 (lz0 0 rfl) zaj)) (oc (zam rfl rfl rfl (vq 12 rfl) nq (fun hg=>za4 20 rfl zk hg (lz0 0 rfl) (Sub.part 1 rfl rfl) zbb)) (oc (zam rfl rfl rfl (vq 12 rfl) nq (fun hg=>zb0 Tryz.underlying22 (has_wk' (zac (vq 21 rfl) hg) twR_A))) (oc (zam rfl rfl rfl (vq 12 rfl) nq (fun hg=>zkw zbd (zac (vq 19 rfl) hg) (zac (vq 22 rfl) hg) (by simp))) (oc (zam rfl rfl rfl (vq 12 rfl) nq (fun hg=>zap (zac (vq 23 rfl) hg) zb5)) (oc (zam rfl rfl rfl (vq 12 rfl) nq (fun hg=>zd8 (zac (vq 24 rfl) hg) (zax 7777 rfl))) (zv rfl rfl (zch (vq 12 rfl) (vq 25 rfl)) (zv rfl rfl (za2 (vq 26 rfl)) o0)))))))))))))))))))))))))))) zk zk zk zk (fun a w hst=>?_)
 have hst:St B w0 32 [(4,_)] [⟨2,24,ptrH,_⟩,⟨3,24,ptrH,_⟩] a w:=hst
 refine za0 ?_
 refine wp_ret ?_
 refine zaq ?_ (zah rfl hst (zm 0 rfl))
 refine zc3 (congrArg Bo ?_); simp; omega
theorem zj2 (x y:RF) (hx:bdF x):Cn Tryz.prog 35 [(RFR x).va,(RFA y).va] (Bo (decide (x=y))):=by
 refine Cn.intro Tryz.func35 rfl zk nq (fun B w0 a hst=>?_)
 have hst:St B w0 17 [(0,(RFR x).va),(1,(RFA y).va)] [] a w0.w:=hst
 refine wp_seq ?_
 refine gl (sts:=[]) (news:=[⟨2,26,ptrH,some 0,_,none⟩,⟨3,26,ptrH,some 1,_,none⟩]) (sp:=[.alc 0,.alc 1,.val 4 _]) [.o 2] hst (oc (zai rfl rfl rfl (gq 0 rfl)) (oc (zai rfl rfl rfl (gq 1 rfl)) (zv rfl rfl (za2 zb7) o0))) (fun a w hst=>?_)
 have hst:St B w0 17 [(4,_)] [⟨2,26,ptrH,_⟩,⟨3,26,ptrH,_⟩] a w:=hst
 refine zt ?_
 refine gl (sts:=[none,none]) (news:=[]) (sp:=[.adr 5 2 (.some 0) True,.val 6 _,.adr 7 3 (.some 0) True,.val 8 _,.val 9 _,.val 10 _,.adr 11 2 (.some 2) (_=true),.val 12 (Wh (_=true) _),.adr 13 3 (.some 2) (_=true),.val 14 (Wh (_=true) _),.val 15 (Wh (_=true) _),.val 16 _,.val 4 _]) [.o 12] hst (oc (ob_a rfl rfl (za9 (lz0 0 rfl) zbi)) (zv rfl rfl (za4 0 rfl zk trivial (lz0 0 rfl) (Sub.part 0 rfl rfl) zab) (oc (ob_a rfl rfl (za9 (lz0 1 rfl) zbi)) (zv rfl rfl (za4 2 rfl zk trivial (lz0 1 rfl) (Sub.part 0 rfl rfl) zab) (zv rfl rfl (za5 (xs:=[.tmp 6,.tmp 8]) (zkb _ _ hx.1) (.cons (vq 1 rfl) (.cons (vq 3 rfl) .nil))) (zv rfl rfl (za1 (vq 4 rfl)) (oc (zcc rfl rfl rfl (vq 5 rfl) nq (fun hg=>za9 (lz0 0 rfl) zb8)) (oc (zam rfl rfl rfl (vq 5 rfl) nq (fun hg=>za4 6 rfl zk hg (lz0 0 rfl) (Sub.part 1 rfl rfl) zab)) (oc (zcc rfl rfl rfl (vq 5 rfl) nq (fun hg=>za9 (lz0 1 rfl) zb8)) (oc (zam rfl rfl rfl (vq 5 rfl) nq (fun hg=>za4 8 rfl zk hg (lz0 1 rfl) (Sub.part 1 rfl rfl) zab)) (oc (zam rfl rfl rfl (vq 5 rfl) nq (fun hg=>za5 (xs:=[.tmp 12,.tmp 14]) (zkb _ _ hx.2) (.cons (zac (vq 7 rfl) hg) (.cons (zac (vq 9 rfl) hg) .nil)))) (zv rfl rfl (zch (vq 5 rfl) (vq 10 rfl)) (zv rfl rfl (za2 (vq 11 rfl)) o0))))))))))))) (fun a w hst=>?_)
 have hst:St B w0 17 [(4,_)] [⟨2,26,ptrH,_⟩,⟨3,26,ptrH,_⟩] a w:=hst
 refine za0 ?_
 refine wp_ret ?_
 refine zaq ?_ (zah rfl hst (zm 0 rfl))
 exact zc3 (congrArg Bo rf_eq)
theorem zef (x y:RG) (hx:bdF x.re∧bdF x.im):Cn Tryz.prog 45 [(RGR x).va,(RGA y).va] (Bo (decide (x=y))):=by
 refine Cn.intro Tryz.func45 rfl zk nq (fun B w0 a hst=>?_)
 have hst:St B w0 17 [(0,(RGR x).va),(1,(RGA y).va)] [] a w0.w:=hst
 refine wp_seq ?_
 refine gl (sts:=[]) (news:=[⟨2,73,ptrH,some 0,_,none⟩,⟨3,73,ptrH,some 1,_,none⟩]) (sp:=[.alc 0,.alc 1,.val 4 _]) [.o 2] hst (oc (zai rfl rfl rfl (gq 0 rfl)) (oc (zai rfl rfl rfl (gq 1 rfl)) (zv rfl rfl (za2 zb7) o0))) (fun a w hst=>?_)
 have hst:St B w0 17 [(4,_)] [⟨2,73,ptrH,_⟩,⟨3,73,ptrH,_⟩] a w:=hst
 refine zt ?_
 refine gl (sts:=[none,none]) (news:=[]) (sp:=[.adr 5 2 (.some 0) True,.val 6 _,.adr 7 3 (.some 0) True,.val 8 _,.val 9 _,.val 10 _,.adr 11 2 (.some 4) (_=true),.val 12 (Wh (_=true) _),.adr 13 3 (.some 4) (_=true),.val 14 (Wh (_=true) _),.val 15 (Wh (_=true) _),.val 16 _,.val 4 _]) [.o 12] hst (oc (ob_a rfl rfl (za9 (lz0 0 rfl) zbk)) (zv rfl rfl (za4 0 rfl zk trivial (lz0 0 rfl) (Sub.part 0 rfl rfl) zae) (oc (ob_a rfl rfl (za9 (lz0 1 rfl) zbk)) (zv rfl rfl (za4 2 rfl zk trivial (lz0 1 rfl) (Sub.part 0 rfl rfl) zae) (zv rfl rfl (za5 (xs:=[.tmp 6,.tmp 8]) (zj2 _ _ hx.1) (.cons (vq 1 rfl) (.cons (vq 3 rfl) .nil))) (zv rfl rfl (za1 (vq 4 rfl)) (oc (zcc rfl rfl rfl (vq 5 rfl) nq (fun hg=>za9 (lz0 0 rfl) zbj)) (oc (zam rfl rfl rfl (vq 5 rfl) nq (fun hg=>za4 6 rfl zk hg (lz0 0 rfl) (Sub.part 1 rfl rfl) zae)) (oc (zcc rfl rfl rfl (vq 5 rfl) nq (fun hg=>za9 (lz0 1 rfl) zbj)) (oc (zam rfl rfl rfl (vq 5 rfl) nq (fun hg=>za4 8 rfl zk hg (lz0 1 rfl) (Sub.part 1 rfl rfl) zae)) (oc (zam rfl rfl rfl (vq 5 rfl) nq (fun hg=>za5 (xs:=[.tmp 12,.tmp 14]) (zj2 _ _ hx.2) (.cons (zac (vq 7 rfl) hg) (.cons (zac (vq 9 rfl) hg) .nil)))) (zv rfl rfl (zch (vq 5 rfl) (vq 10 rfl)) (zv rfl rfl (za2 (vq 11 rfl)) o0))))))))))))) (fun a w hst=>?_)
 have hst:St B w0 17 [(4,_)] [⟨2,73,ptrH,_⟩,⟨3,73,ptrH,_⟩] a w:=hst
 refine za0 ?_
 refine wp_ret ?_
 refine zaq ?_ (zah rfl hst (zm 0 rfl))
 exact zc3 (congrArg Bo rg_eq)
end Go.Proofs.YthncfchnkjemiaaGreatDoor
namespace Go.Proofs.YthncfchnkjemiaaGreatDoor
open Go Go.RowKit
def RGN (x:RG):As:=cat [RFN x.re,RFN x.im]
def RGD (x:RG):As:=DisA (RGN x)
theorem new_rfn {x:RF}:NewA (RFN x):=zez fun A hA=>by
 simp at hA
 rcases hA with rfl | rfl <;> exact new_riN _
theorem new_rgd {x:RG}:NewA (RGD x):=zjg (zez fun A hA=>by
 simp at hA
 rcases hA with rfl | rfl <;> exact new_rfn)
theorem free_rfn {x:RF}:FreeA (RFN x) (RFN x):=zdk (.cons (zge _) (.cons (zge _) .nil))
theorem free_rgd {x:RG}:FreeA (RGD x) (RGD x):=zh9 (zdk (.cons free_rfn (.cons free_rfn .nil)))
theorem rfn_rfa {x:RF}:WkA (RFN x) (RFA x):=zbg (.cons wkA_riN (.cons wkA_riN .nil))
theorem rgd_rga {x:RG}:WkA (RGD x) (RGA x):=dis_wk.trans (zbg (.cons rfn_rfa (.cons rfn_rfa .nil)))
theorem qd_rfn {k:Nat} {q:Rat}:WkA (QD k q) (RFN (rfOf q)):=qd_rfd.trans dis_wk
theorem twn_mgn {l:List Nat}:WkA (TwN l) (MgN l):=⟨rfl,rfl,fun B cs w ⟨ok,g,e,h1,h2,h3⟩=>⟨ok,.inr ⟨g,[7777],by rw [e]; simp,by simpa using h2,h1,h3⟩⟩⟩
theorem rit_rin {x:RI}:WkA (RIT x) (RIN x):=zbg (.cons (.refl _) (.cons twn_mgn .nil))
theorem rft_rfn {x:RF}:WkA (RFT x) (RFN x):=zbg (.cons rit_rin (.cons rit_rin .nil))
theorem zks {x:RG}:WkA (RGT x) (RGN x):=zbg (.cons rft_rfn (.cons rft_rfn .nil))
theorem kbl_app {l m:KL}:kbl (l++m)=kbl l++kbl m:=List.filterMap_append ..
theorem rin_ok {x:RI} {B:Nat} {cs:List Value} {w:World} (h:(RIN x).p B cs w):okL x.mag:=by
 obtain ⟨ps,rfl,hp⟩:=h
 cases hp with
 | cons h1 hp=>cases hp with
  | cons h2 hp=>exact h2.1
abbrev OkK (l:KL):Prop:=∀ p∈l,okL p.2
theorem zg9 {l m:KL} (h:OkK l) (k:OkK m):OkK (l++m):=fun p hp=>by
 rcases List.mem_append.1 hp with hp | hp
 ·exact h p hp
 ·exact k p hp
abbrev LnK (l:KL):Prop:=∀ p∈l,p.2.length≤2000000000000
theorem zgc {l m:KL} (h:LnK l) (k:LnK m):LnK (l++m):=fun p hp=>by
 rcases List.mem_append.1 hp with hp | hp
 ·exact h p hp
 ·exact k p hp
theorem okK_f {x:RF} {m1 m2:Value} (h1:okL x.num.mag) (h2:okL x.den.mag):OkK (kf x m1 m2):=fun p hp=>by
 simp only [List.mem_cons,List.not_mem_nil,or_false] at hp
 rcases hp with rfl | rfl
 ·exact h1
 ·exact h2
theorem lnK_f {x:RF} {m1 m2:Value} (h:bdF x):LnK (kf x m1 m2):=fun p hp=>by
 simp only [List.mem_cons,List.not_mem_nil,or_false] at hp
 rcases hp with rfl | rfl
 ·exact Nat.le_trans h.1 zd
 ·exact Nat.le_trans h.2 zd
theorem okK_len {l:KL} (h:OkK l) (k:LnK l):∀ p∈l,okL p.2∧p.2.length≤2000000000000:=fun p hp=>⟨h p hp,k p hp⟩
theorem zkc {x:RF} {B:Nat} {cs:List Value} {w:World} (h:(RFN x).p B cs w):∃ m1 m2,(FracP x m1 m2).p B cs w∧cbl cs=kbl (kf x m1 m2)∧OkK (kf x m1 m2):=by
 obtain ⟨ps,rfl,hp⟩:=h
 cases hp with
 | @cons _ c1 _ _ h1 hp=>cases hp with
  | @cons _ c2 _ _ h2 hp =>
   cases hp
   obtain ⟨m1,p1,e1⟩:=int_split h1
   obtain ⟨m2,p2,e2⟩:=int_split h2
   refine ⟨m1,m2,⟨[c1,c2],rfl,.cons p1 (.cons p2 .nil)⟩,?_,okK_f (rin_ok h1) (rin_ok h2)⟩
   have:([c1,c2]:List (List Value)).flatten=c1++c2:=by simp
   rw [this,zf6,e1,e2]
   exact kbl_app.symm
def nm4 (a b c d:Value):Nat→Value
 | 0=>a
 | 1=>b
 | 2=>c
 | _=>d
theorem zeo {x:RG} {B:Nat} {cs:List Value} {w:World} (h:(RGN x).p B cs w):∃ m:Nat→Value,(GauP x m).p B cs w∧cbl cs=kbl (kg x m)∧OkK (kg x m):=by
 obtain ⟨ps,rfl,hp⟩:=h
 cases hp with
 | @cons _ c1 _ _ h1 hp=>cases hp with
  | @cons _ c2 _ _ h2 hp =>
   cases hp
   obtain ⟨m1,m2,p1,e1,o1⟩:=zkc h1
   obtain ⟨m3,m4,p2,e2,o2⟩:=zkc h2
   refine ⟨nm4 m1 m2 m3 m4,⟨[c1,c2],rfl,.cons p1 (.cons p2 .nil)⟩,?_,zg9 o1 o2⟩
   have:([c1,c2]:List (List Value)).flatten=c1++c2:=by simp
   rw [this,zf6,e1,e2]
   exact kbl_app.symm
theorem St.splitN {M:Type} {B N:Nat} {w0:Bs} {Γ:List (Nat × VA)} {Λ:List Lc} {a:Act} {w:World} {s:Nat} {T:TypeId} {H:Hd} {u:Value} {A0 A:As} {c:Prop} {AP:M→As} {kl:M→KL} (hw:WkA A0 (DisA A)) (hs:∀ {B:Nat} {cs:List Value} {w:World},A.p B cs w→∃ m,(AP m).p B cs w∧cbl cs=kbl (kl m)∧OkK (kl m)) (h:St B w0 N Γ Λ a w) (k:Nat) (hm:Λ[k]?=some ⟨s,T,H,PinA u (A0.and c)⟩) :
  ∃ m,vbl u=kbl (kl m)∧(kbl (kl m)).Nodup∧OkK (kl m)∧c∧St B w0 N Γ (Λ.set k ⟨s,T,H,AP m⟩) a w:=by
 obtain ⟨g,cs,q1,q2,q3,⟨hc,hp⟩,hu⟩:=h.locs _ (List.mem_of_getElem? hm)
 obtain ⟨hA,hn⟩:=hw.2.2 _ _ _ hp
 obtain ⟨m,p1,e,ok⟩:=hs hA
 have hu':vbl u=cbl cs:=by
  have hu2:shape A0.ag cs=u:=hu
  rw [← hu2]
  exact zij hp
 have hse:∀ y∈Λ.set k ⟨s,T,H,AP m⟩,∃ m0∈Λ,m0.s=y.s:=fun y hm'=>by
  rcases List.mem_or_eq_of_mem_set hm' with hm' | rfl
  ·exact ⟨y,hm',rfl⟩
  ·exact ⟨_,List.mem_of_getElem? hm,rfl⟩
 refine ⟨m,hu'.trans e,e▸hn,ok,hc,h.lo,h.defers,h.size,h.base,h.vals,fun l hl=>?_,fun a1 ha1 a2 ha2 hne=>?_⟩
 ·rcases List.mem_or_eq_of_mem_set hl with hl | rfl
  ·exact h.locs l hl
  ·exact ⟨g,cs,q1,q2,q3,p1⟩
 ·obtain ⟨m3,r1,r2⟩:=hse a1 ha1
  obtain ⟨m4,r3,r4⟩:=hse a2 ha2
  rw [← r2,← r4] at hne ⊢
  exact h.dis m3 r1 m4 r3 hne
theorem sep_sym {u v:Value} (h:Sep u v):Sep v u:=fun g h1 h2=>h g h2 h1
def Kb (us:List Value) (l:KL):Prop:=(kbl l).Nodup∧∀ g∈kbl l,∃ u∈us,g∈vbl u
theorem kb_nil:Kb [] []:=⟨List.nodup_nil,fun g h=>by cases h⟩
theorem kb_add {l m:KL} {us:List Value} {v:Value} (h:Kb us l) (hv:vbl v=kbl m) (h2:(kbl m).Nodup) (hs:SepAll us v):Kb (us++[v]) (l++m):=by
 refine ⟨?_,fun g hg=>?_⟩
 ·rw [kbl_app]
  refine List.nodup_append.2 ⟨h.1,h2,fun x hx y hy e=>?_⟩
  subst e
  obtain ⟨u,hu,hg⟩:=h.2 x hx
  exact hs u hu x hg (by rw [hv]; exact hy)
 ·rw [kbl_app,List.mem_append] at hg
  rcases hg with hg | hg
  ·obtain ⟨u,hu,h3⟩:=h.2 g hg
   exact ⟨u,by simp [hu],h3⟩
  ·exact ⟨v,by simp,by rw [hv]; exact hg⟩
theorem kb_sep {us:List Value} {l:KL} (h:Kb us l):SepL [] l:=sepL_of h.1 fun t ht=>by cases ht
theorem zhk {v:Value}:SepAll [] v:=fun u h=>by cases h
theorem zg8 {u v:Value} {us:List Value} (h:Sep u v) (k:SepAll us v):SepAll (u::us) v:=fun x hx=>by
 rcases List.mem_cons.1 hx with rfl | hx
 ·exact h
 ·exact k x hx
theorem sep_of {u v:Value} {us:List Value} (h:SepAll us v) (i:Nat) (hi:us[i]?=some u):Sep u v:=h u (List.mem_of_getElem? hi)
theorem okK_nil:OkK []:=fun p h=>by cases h
theorem lnK_nil:LnK []:=fun p h=>by cases h
abbrev bdG (x:RG):Prop:=bdF x.re∧bdF x.im
theorem lnK_g {x:RG} {m:Nat→Value} (h:bdG x):LnK (kg x m):=zgc (lnK_f h.1) (lnK_f h.2)
theorem bd_rf0:bdF rf0:=⟨Nat.zero_le _,Nat.zero_le _⟩
theorem bd_of {q:Rat} (h:¬ longQ q=true):bdF (rfOf q):=by
 have h':longQ q=false:=by cases hq:longQ q with
  | true=>exact absurd hq h
  | false=>rfl
 unfold longQ at h'
 simp only [List.any_cons,List.any_nil,Bool.or_false,Bool.or_eq_false_iff] at h'
 have h1:=of_decide_eq_false h'.1
 have h2:=of_decide_eq_false h'.2
 refine ⟨?_,?_⟩
 ·show (riOf q.num).mag.length≤_
  omega
 ·show (riOf (q.den:Int)).mag.length≤_
  omega
end Go.Proofs.YthncfchnkjemiaaGreatDoor
namespace Go.Proofs.YthncfchnkjemiaaGreatDoor
open Go Go.RowKit
theorem new_twn {l:List Nat}:NewA (TwN l):=fun B cs w ⟨ok,g,e,h1,h2,h3⟩ g' hg=>by
 subst e
 have:g'=g:=by simpa [cbl,blk] using hg
 subst this
 exact ⟨h1,(Array.getElem?_eq_some_iff.1 h3).1⟩
theorem new_rit {x:RI}:NewA (RIT x):=zez fun A hA=>by
 simp at hA
 rcases hA with rfl | rfl
 ·exact new_bo _
 ·exact new_twn
theorem nod_rit {x:RI}:NodA (RIT x):=fun B cs w h=>nod_riN x B cs w (rit_rin.2.2 _ _ _ h)
def TFD (x:RF):As:=DisA (RFT x)
theorem new_rft {x:RF}:NewA (RFT x):=zez fun A hA=>by
 simp at hA
 rcases hA with rfl | rfl <;> exact new_rit
theorem zh1 {x:RF}:FreeA (RFT x) (RFT x):=zdk (.cons (zh0 _) (.cons (zh0 _) .nil))
theorem new_tfd {x:RF}:NewA (TFD x):=zjg new_rft
theorem free_tfd {x:RF}:FreeA (TFD x) (TFD x):=zh9 zh1
theorem tfd_pins {u v:Value} {x:RF}:WkA (cat [PinA u ((RIT x.num).and (SepAll [] u)),PinA v ((RIT x.den).and (SepAll [u] v))]) (TFD x) :=
 zh8 (l:=[(u,RIT x.num),(v,RIT x.den)]) (fun y hy=>by
  simp at hy
  rcases hy with rfl | rfl <;> exact nod_rit)
def TGD (x:RG):As:=DisA (RGT x)
theorem tg_pins {u v:Value} {x:RG}:WkA (cat [PinA u ((TFD x.re).and (SepAll [] u)),PinA v ((TFD x.im).and (SepAll [u] v))]) (TGD x) :=
 (zh8 (l:=[(u,TFD x.re),(v,TFD x.im)]) (fun y hy=>by
  simp at hy
  rcases hy with rfl | rfl <;> exact dis_nod)).trans (zf4 (zbg (.cons dis_wk (.cons dis_wk .nil))))
theorem zem {x:RG}:NewA (TGD x):=zjg (zez fun A hA=>by
 simp at hA
 rcases hA with rfl | rfl <;> exact new_rft)
theorem zid {x:RG}:FreeA (TGD x) (TGD x):=zh9 (zdk (.cons zh1 (.cons zh1 .nil)))
theorem zil (x:RF) (hx:bdF x):Cn Tryz.prog 30 [(RFA x).va] ((TFD x).va):=by
 refine Cn.intro Tryz.func30 rfl zk nq (fun B w0 a hst=>?_)
 have hst:St B w0 10 [(0,(RFA x).va)] [] a w0.w:=hst
 refine wp_seq ?_
 refine gl (sts:=[]) (news:=[⟨1,26,ptrH,some 0,_,none⟩,⟨2,26,ptrH,some 1,_,none⟩]) (sp:=[.alc 0,.alc 1]) [] hst (oc (zai rfl rfl rfl (gq 0 rfl)) (oc (zan rfl rfl rfl (Str.zero zav)) o0)) (fun a w hst=>?_)
 have hst:St B w0 10 [] [⟨1,26,ptrH,_⟩,⟨2,26,ptrH,_⟩] a w:=hst
 refine zt ?_
 refine go_drawV' [[],[0],[0,1],[],[3],[0,1,2,3,4],[0,1,2,3,4,5],[0,1,2,3,4,5,6]] (sts:=[none,some (7,fun ν=>_)]) (news:=[]) (sp:=[(fun ν=>.adr 3 1 (.some 0) True),(fun ν=>.val 4 _),(fun ν=>.val 5 (PinA (ν 2) ((RIT x.num).and (SepAll [] (ν 2)))).va),(fun ν=>.adr 6 1 (.some 2) True),(fun ν=>.val 7 _),(fun ν=>.val 8 (PinA (ν 5) ((RIT x.den).and (SepAll [ν 2] (ν 5)))).va),(fun ν=>.val 9 _),(fun ν=>.sto 1)]) [] za6 hst ⟨of_u fun ν=>ob_a rfl rfl (za9 (lz0 0 rfl) zbi),⟨of_u fun ν=>ob_v rfl rfl (za4 0 rfl zk trivial (lz0 0 rfl) (Sub.part 0 rfl rfl) zab),⟨zdd (us:=fun ν=>[]) (xs:=[.tmp 4]) rfl rfl (twinInt_c _ hx.1) new_rit (zh0 _) (.cons (upA_ri _).va .nil) (fun ν=>(.cons (vq 1 rfl) .nil)) (fun _ _=>rfl) (fun ν=>zc8),⟨of_u fun ν=>ob_a rfl rfl (za9 (lz0 0 rfl) zb8),⟨of_u fun ν=>ob_v rfl rfl (za4 3 rfl zk trivial (lz0 0 rfl) (Sub.part 1 rfl rfl) zab),⟨zdd (us:=fun ν=>[ν 2]) (xs:=[.tmp 7]) rfl rfl (twinInt_c _ hx.2) new_rit (zh0 _) (.cons (upA_ri _).va .nil) (fun ν=>(.cons (vq 4 rfl) .nil)) (fun _ _=>rfl) (fun ν=>(zcs (zcr new_rit) (vq 2 rfl) zc8)),⟨of_u fun ν=>ob_v rfl rfl (zb3 (xs:=[(0,.tmp 5),(1,.tmp 8)]) (qs:=[(0,_),(1,_)]) zav (.cons ⟨rfl,(vq 2 rfl),rfl⟩ (.cons ⟨rfl,(vq 5 rfl),rfl⟩ .nil))),⟨of_u fun ν=>zaa rfl rfl rfl (vq 6 rfl) zae (Eq.trans (b:=4) rfl rfl),trivial⟩⟩⟩⟩⟩⟩⟩⟩ ⟨(fun ν ν' h=>rfl),⟨(fun ν ν' h=>rfl),⟨(fun ν ν' h=>by first | rfl | simp only [h 2 rfl]),⟨(fun ν ν' h=>rfl),⟨(fun ν ν' h=>rfl),⟨(fun ν ν' h=>by first | rfl | simp only [h 2 rfl,h 5 rfl]),⟨(fun ν ν' h=>by first | rfl | simp only [h 2 rfl,h 5 rfl]),⟨(fun ν ν' h=>by first | rfl | simp only [h 2 rfl,h 5 rfl]),trivial⟩⟩⟩⟩⟩⟩⟩⟩ ⟨trivial,⟨(fun ν ν' h=>by first | rfl | simp only [h 2 rfl,h 5 rfl]),trivial⟩⟩ zk zk (fun ν=>by kernel_rfl) (fun ν=>by kernel_rfl) (fun ν1 a w hst=>?_)
 have hst:St B w0 10 [] [⟨1,26,ptrH,_⟩,⟨2,26,ptrH,_⟩] a w:=hst
 refine za0 ?_
 refine wp_ret ?_
 refine zaq ?_ (zal rfl hst (zm 1 rfl) zae)
 exact tfd_pins.va
theorem zeb (x:RG) (hx:bdF x.re∧bdF x.im):Cn Tryz.prog 38 [(RGA x).va] ((TGD x).va):=by
 refine Cn.intro Tryz.func38 rfl zk nq (fun B w0 a hst=>?_)
 have hst:St B w0 10 [(0,(RGA x).va)] [] a w0.w:=hst
 refine wp_seq ?_
 refine gl (sts:=[]) (news:=[⟨1,73,ptrH,some 0,_,none⟩,⟨2,73,ptrH,some 1,_,none⟩]) (sp:=[.alc 0,.alc 1]) [] hst (oc (zai rfl rfl rfl (gq 0 rfl)) (oc (zan rfl rfl rfl (Str.zero zaz)) o0)) (fun a w hst=>?_)
 have hst:St B w0 10 [] [⟨1,73,ptrH,_⟩,⟨2,73,ptrH,_⟩] a w:=hst
 refine zt ?_
 refine go_drawV' [[],[0],[0,1],[],[3],[0,1,2,3,4],[0,1,2,3,4,5],[0,1,2,3,4,5,6]] (sts:=[none,some (7,fun ν=>_)]) (news:=[]) (sp:=[(fun ν=>.adr 3 1 (.some 0) True),(fun ν=>.val 4 _),(fun ν=>.val 5 (PinA (ν 2) ((TFD x.re).and (SepAll [] (ν 2)))).va),(fun ν=>.adr 6 1 (.some 4) True),(fun ν=>.val 7 _),(fun ν=>.val 8 (PinA (ν 5) ((TFD x.im).and (SepAll [ν 2] (ν 5)))).va),(fun ν=>.val 9 _),(fun ν=>.sto 1)]) [] za6 hst ⟨of_u fun ν=>ob_a rfl rfl (za9 (lz0 0 rfl) zbk),⟨of_u fun ν=>ob_v rfl rfl (za4 0 rfl zk trivial (lz0 0 rfl) (Sub.part 0 rfl rfl) zae),⟨zdd (us:=fun ν=>[]) (xs:=[.tmp 4]) rfl rfl (zil _ hx.1) new_tfd free_tfd (.cons (zjx _).va .nil) (fun ν=>(.cons (vq 1 rfl) .nil)) (fun _ _=>rfl) (fun ν=>zc8),⟨of_u fun ν=>ob_a rfl rfl (za9 (lz0 0 rfl) zbj),⟨of_u fun ν=>ob_v rfl rfl (za4 3 rfl zk trivial (lz0 0 rfl) (Sub.part 1 rfl rfl) zae),⟨zdd (us:=fun ν=>[ν 2]) (xs:=[.tmp 7]) rfl rfl (zil _ hx.2) new_tfd free_tfd (.cons (zjx _).va .nil) (fun ν=>(.cons (vq 4 rfl) .nil)) (fun _ _=>rfl) (fun ν=>(zcs (zcr new_tfd) (vq 2 rfl) zc8)),⟨of_u fun ν=>ob_v rfl rfl (zb3 (xs:=[(0,.tmp 5),(1,.tmp 8)]) (qs:=[(0,_),(1,_)]) zaz (.cons ⟨rfl,(vq 2 rfl),rfl⟩ (.cons ⟨rfl,(vq 5 rfl),rfl⟩ .nil))),⟨of_u fun ν=>zaa rfl rfl rfl (vq 6 rfl) zb1 (Eq.trans (b:=8) rfl rfl),trivial⟩⟩⟩⟩⟩⟩⟩⟩ ⟨(fun ν ν' h=>rfl),⟨(fun ν ν' h=>rfl),⟨(fun ν ν' h=>by first | rfl | simp only [h 2 rfl]),⟨(fun ν ν' h=>rfl),⟨(fun ν ν' h=>rfl),⟨(fun ν ν' h=>by first | rfl | simp only [h 2 rfl,h 5 rfl]),⟨(fun ν ν' h=>by first | rfl | simp only [h 2 rfl,h 5 rfl]),⟨(fun ν ν' h=>by first | rfl | simp only [h 2 rfl,h 5 rfl]),trivial⟩⟩⟩⟩⟩⟩⟩⟩ ⟨trivial,⟨(fun ν ν' h=>by first | rfl | simp only [h 2 rfl,h 5 rfl]),trivial⟩⟩ zk zk (fun ν=>by kernel_rfl) (fun ν=>by kernel_rfl) (fun ν1 a w hst=>?_)
 have hst:St B w0 10 [] [⟨1,73,ptrH,_⟩,⟨2,73,ptrH,_⟩] a w:=hst
 refine za0 ?_
 refine wp_ret ?_
 refine zaq ?_ (zal rfl hst (zm 1 rfl) zb1)
 exact tg_pins.va
end Go.Proofs.YthncfchnkjemiaaGreatDoor
namespace Go.Proofs.YthncfchnkjemiaaGreatDoor
open Go Go.RowKit
def p4 (m:MQ) (j:Nat):Rat:=[m.a,m.b,m.c,m.d].getD j 0
def mulQ (m q:MQ):MQ:=⟨m.a*q.a+m.b*q.c,m.a*q.b+m.b*q.d,m.c*q.a+m.d*q.c,m.c*q.b+m.d*q.d⟩
end Go.Proofs.YthncfchnkjemiaaGreatDoor
namespace Go.Proofs.YthncfchnkjemiaaGreatDoor
open Go Go.RowKit
theorem det_mul (m q:MQ):detM (mulQ m q)=detM m*detM q:=by unfold detM mulQ; grind
end Go.Proofs.YthncfchnkjemiaaGreatDoor
namespace Go.Proofs.YthncfchnkjemiaaGreatDoor
open Go Go.RowKit
theorem sub_self {A:As}:Sub A 0 A:=fun B cs w h=>by
 have hl:=A.len B cs w h
 refine ⟨?_,by omega⟩
 rw [List.drop_zero,List.take_of_length_le zo]
 exact h
end Go.Proofs.YthncfchnkjemiaaGreatDoor
namespace Go.Proofs.YthncfchnkjemiaaGreatDoor
open Go Go.RowKit
def bQ (k:Nat) (r:Rat):Prop:=lz r.num≤k∧lz (r.den:Int)≤k
def szQ (r:Rat):Nat:=lz r.num+lz (r.den:Int)
end Go.Proofs.YthncfchnkjemiaaGreatDoor
namespace Go.Proofs.YthncfchnkjemiaaGreatDoor
open Go Go.RowKit
theorem nd_eq (x:Rat):x=(x.num:Rat) / ((x.den:Int):Rat):=by rw [← Rat.divInt_eq_div]; exact (Rat.num_divInt_den x).symm
theorem den_ne (x:Rat):((x.den:Int):Rat)≠0:=by
 have:=x.den_nz
 intro h
 exact this (by exact_mod_cast h)
end Go.Proofs.YthncfchnkjemiaaGreatDoor
namespace Go.Proofs.YthncfchnkjemiaaGreatDoor
open Go Go.RowKit
section
variable {P:Program} {R:Rg} {Q:Exit→Act→World→Prop} {B i:Nat} {w0:Bs}
end
end Go.Proofs.YthncfchnkjemiaaGreatDoor
namespace Go.Proofs.YthncfchnkjemiaaGreatDoor
open Go Go.RowKit
end Go.Proofs.YthncfchnkjemiaaGreatDoor
namespace Go.Proofs.YthncfchnkjemiaaGreatDoor
open Go Go.RowKit
end Go.Proofs.YthncfchnkjemiaaGreatDoor
namespace Go.Proofs.YthncfchnkjemiaaGreatDoor
open Go Go.RowKit
theorem nil_frac {B:Nat} {w:World}:(cat [NilI,NilI]).p B ([.bool false,.slice none 0 0,.bool false,.slice none 0 0]:List Value) w:=⟨[[.bool false,.slice none 0 0],[.bool false,.slice none 0 0]],rfl,.cons ⟨[[.bool false],[.slice none 0 0]],rfl,.cons rfl (.cons rfl .nil)⟩ (.cons ⟨[[.bool false],[.slice none 0 0]],rfl,.cons rfl (.cons rfl .nil)⟩ .nil)⟩
abbrev NilF:As:=cat [NilI,NilI]
theorem nilF_rfn:WkA NilF (RFN rf0):=⟨rfl,rfl,fun B cs w h=>(zf_rfd.2.2 _ _ _ h).1⟩
theorem nilF_cbl {B:Nat} {cs:List Value} {w:World} (h:NilF.p B cs w):cbl cs=[]:=by rw [nil_cells h]; rfl
theorem cbl_nils {B:Nat} {w:World}:∀ {l:List As} {ps:List (List Value)},(∀ A∈l,A=NilF)→All2 (fun (A:As) c=>A.p B c w) l ps→cbl ps.flatten=[]
 | [],_,_,h=>by cases h; rfl
 | A::l,_,hn,h=>by
  cases h with
  | cons h1 h2 =>
   rw [hn A (by simp)] at h1
   rw [List.flatten_cons,zf6,nilF_cbl h1,cbl_nils (fun A' hA=>hn A' (by simp [hA])) h2]
   rfl
end Go.Proofs.YthncfchnkjemiaaGreatDoor
namespace Go.Proofs.YthncfchnkjemiaaGreatDoor
open Go Go.RowKit
def EqA (v:Value):As where
 n:=1
 ag:=false
 p _ cs _:=cs=[v]∧v.oneCell'=true
 deps:=[]
 len:=by rintro B cs w ⟨rfl,_⟩; rfl
 one:=by rintro B cs w ⟨rfl,h⟩ c hc; simp at hc; subst hc; exact h
 ag1:=fun _=>rfl
 cg:=fun _ _ _ _ _ h=>h
 wr:=fun _ _ _ _ _ _ _ _ _ _ _ _ h=>h
theorem va_eqA {v:Value} (h:v.oneCell'=true) {B:Nat} {w:World}:(EqA v).va.p B v w:=⟨[v],⟨rfl,h⟩,rfl⟩
theorem eqA_va {v u:Value} {B:Nat} {w:World} (h:(EqA v).va.p B u w):u=v:=by
 obtain ⟨cs,⟨rfl,_⟩,h2⟩:=h
 exact h2
theorem St.nm {B N:Nat} {w0:Bs} {Γ:List (Nat × VA)} {Λ:List Lc} {a:Act} {w:World} (h:St B w0 N Γ Λ a w) {s T:Nat} {A:As} (k:Nat) (hm:Λ[k]?=some ⟨s,T,ptrH,A⟩):∃ g,St B w0 N ((s,EqV (ptr g))::Γ) Λ a w:=by
 obtain ⟨g,cs,e,_⟩:=h.locs _ (List.mem_of_getElem? hm)
 refine ⟨g,h.lo,h.defers,h.size,h.base,fun x hx=>?_,h.locs,h.dis⟩
 rcases List.mem_cons.1 hx with rfl | hx
 ·exact e
 ·exact h.vals x hx
section
variable {P:Program} {R:Rg} {Q:Exit→Act→World→Prop} {B i:Nat} {w0:Bs}
theorem has_fnE {f:FuncId}:Has R B w0 i (.func f) (EqA (.func (.func f) #[] #[])).va:=fun _ _ _=>va_eqA rfl
end
section
variable {P:Program} {R:Rg} {Q:Exit→Act→World→Prop} {B i:Nat} {w0:Bs}
theorem zky {x:Operand} {f:FuncId} {xs:List Operand} {As':List VA} {A:VA} {at_:Array TypeId} (hc:Cn P f As' A) (hv:Has R B w0 i x (EqA (.func (.func f) #[] #[])).va) (hx:HasL R B w0 i xs As'):Wv P Q R B w0 i (.call ⟨.value x,xs.toArray,at_⟩) A:=by
 intro d T ps af gd a w av K hK
 obtain ⟨⟨fn,hf,hn,hb⟩,hcall⟩:=hc
 have ev:a.eval x=.func (.func f) #[] #[]:=eqA_va (hv a w av)
 have hrun:(execOp a.eval ⟨some d,.call ⟨.value x,xs.toArray,at_⟩,T,ps,af,gd⟩).run P w=.ok (.enter f (xs.map a.eval).toArray) w:=by
  simp only [execOp,resolve,ev,Deferred.ofValue,Sem.run_bind,Sem.run_pure,Result.andThen_ok,invoke,zc2 hf hn hb]
  simp
 unfold Oper.wp
 rw [hrun]
 exact (hcall B w _ (Av.bw av) (hx.all av)).mono fun e w' ⟨v,he,hv,hg⟩=>by subst he; exact hK v w' hg hv
theorem r_lenL {b n c T:Nat} {S E':TypeId} {A:As} (hl:LocH R i b T (slH n c) A) (hS:P.underlying S=some (.slice E')):Wv P Q R B w0 i (.call ⟨.builtin .len,#[.tmp b],#[S]⟩) (In n) :=
 zbv fun d T' ps af gd a w av=>by
  obtain ⟨g,cs,h1,_⟩:=hl.ok av
  have h3:a.eval (.tmp b)=.slice (some ⟨g,0,none⟩) n c:=h1
  refine ⟨.int .i64 n,w,?_,Grow.refl w,zcz _ _ _ _⟩
  simp [execOp,resolve,invoke,builtin,h3,Builtin.len_,run_underlying hS,goInt]
theorem r_rowv {b k m n c:Nat} {S T E:TypeId} {l:List As} {y:Operand} {A:As} {kd:IntKind} (hl:LocH R i b T (slH n c) (cat l)) (hS:Sl P S E m) (hm:∀ A∈l,A.n=m) (hy:Has R B w0 i y (NumA kd k).va) (hk:l[k]?=some A) (hn:n=l.length) :
  Wv P Q R B w0 i (.indexAddr S (.tmp b) y) (ElP T A) :=
 zbv fun d T' ps af gd a w av=>by
  subst hn
  obtain ⟨g,cs,h1,hmay,h3,h4⟩:=hl.ok av
  have h1':a.eval (.tmp b)=.slice (some ⟨g,0,none⟩) l.length c:=h1
  have hlt:k<l.length:=(List.getElem?_eq_some_iff.1 hk).1
  obtain ⟨p1,l1⟩:=cat_part h4 hk
  have ho:=offs_all hm (k:=k) zo
  unfold offs at ho
  rw [ho] at p1 l1
  refine ⟨.pointer (some ⟨g,k*m,none⟩),w,?_,Grow.refl w,g,k*m,_,rfl,(Array.getElem?_eq_some_iff.1 h3).1,.inr ⟨_,_,h3⟩,p1,fun j u hu=>?_⟩
  ·obtain ⟨hs1,hs2⟩:=hS
   cases hi:P.info? E with
   | none=>rw [hi] at hs2; simp at hs2
   | some it =>
    rw [hi] at hs2
    have hsz:it.size=m:=by simpa using hs2
    have e:=zbz (hy a w av)
    have hk2:¬ l.length≤k:=by omega
    simp [execOp,h1',e,Instr.indexAt,asIntOf,run_underlying hs1,hk2,sizeOf,typeInfo,hi,hsz,add_k]
  ·rw [List.getElem?_take] at hu
   split at hu
   ·rw [List.getElem?_drop] at hu
    rw [cell_of_row w g (k*m+j) cs.toArray T _ h3]
    simpa using hu
   ·cases hu
end
end Go.Proofs.YthncfchnkjemiaaGreatDoor
