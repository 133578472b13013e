import Derived.Test.YthncfchnkjemiaaGreatDoorIlAa
import Derived.Test.YthncfchnkjemiaaGreatDoorIlAc
import Derived.Test.YthncfchnkjemiaaGreatDoorIlAx
import Derived.Test.YthncfchnkjemiaaGreatDoorIlAz
import Derived.Test.YthncfchnkjemiaaGreatDoorIlBa
set_option linter.unusedVariables false
set_option linter.unusedSimpArgs false
set_option linter.unusedSectionVars false
set_option maxRecDepth 100000
namespace Go.Proofs.YthncfchnkjemiaaGreatDoor
open Go Go.RowKit
def ElO (T:TypeId) (A:As):VA where
 p B v w:=∃ b cs,v=ptr b∧b<B∧w.heap[b]?=some (.cells (List.toArray cs) T (0,0))∧A.p B cs w
 deps:=A.deps
 cg:=fun B v w w' hg ⟨b,cs,h1,h2,h3,h4⟩=>⟨b,cs,h1,h2,hg.heap h3,A.cg _ _ _ _ hg h4⟩
 wr:=fun B v w w' g c T' fz q1 q2 q3 q4 ⟨b,cs,h1,h2,h3,h4⟩=>⟨b,cs,h1,h2,by rw [q4.block b zo]; exact h3,A.wr _ _ _ _ _ _ _ _ q1 q2 q3 q4 h4⟩
theorem elo_p {T:TypeId} {A:As}:Wk (ElO T A) (ElP T A):=fun B v w ⟨b,cs,h1,h2,h3,h4⟩ =>
 ⟨b,0,cs,h1,(Array.getElem?_eq_some_iff.1 h3).1,.inl h2,h4,fun j u hu=>by
  have:=cells_at (k:=0) h3 cs.length j u (by rw [List.drop_zero,List.take_length]; exact hu)
  exact this⟩
def AllG (a:Act) (w:World):List (Nat × VA)→Prop
 | []=>True
 | x::l=>x.2.p w.heap.size (a.eval (.tmp x.1)) w∧AllG a w l
theorem AllG.mem {a:Act} {w:World}:∀ {l:List (Nat × VA)},AllG a w l→∀ x∈l,x.2.p w.heap.size (a.eval (.tmp x.1)) w
 | y::l,h,x,hx=>by
  rcases List.mem_cons.1 hx with rfl | hx
  ·exact h.1
  ·exact AllG.mem h.2 x hx
section
variable {P:Program} {B N:Nat} {w0:Bs} {Γ:List (Nat × VA)} {Λ:List Lc} {a:Act} {w:World}
theorem St.bw (h:St B w0 N Γ Λ a w):B≤w.heap.size:=Nat.le_trans (h.lo _ (.inl (Nat.le_refl _))) h.base.size
theorem reb_l {s:Nat} {T:TypeId} {A A':As} (h:St B w0 N Γ Λ a w) (k:Nat) (hm:Λ[k]?=some ⟨s,T,ptrH,A⟩) (hu:UpA A A'):(ElO T A').p w.heap.size (a.eval (.tmp s)) w:=by
 obtain ⟨g,cs,q1,q2,q3,q4⟩:=h.locs _ (List.mem_of_getElem? hm)
 exact ⟨g,cs,q1,(Array.getElem?_eq_some_iff.1 q3).1,q3,hu.2.2 _ _ _ h.bw q4⟩
theorem bPost_mono {fn:Func} {R R':Ending→World→Prop} {e:Exit} (h:bPost P fn R e a w) (k:∀ v w',R (.returned v) w'→R' (.returned v) w'):bPost P fn R' e a w:=by
 cases e with
 | normal =>
  obtain ⟨Ds,e,nd,hD,hr⟩:=h
  exact ⟨Ds,e,nd,hD,fun w' hs=>by obtain ⟨v,h1,h2⟩:=hr w' hs; exact ⟨v,h1,k v w' h2⟩⟩
 | ret =>
  obtain ⟨Ds,e,nd,hD,hr⟩:=h
  exact ⟨Ds,e,nd,hD,fun w' hs=>by obtain ⟨v,h1,h2⟩:=hr w' hs; exact ⟨v,h1,k v w' h2⟩⟩
 | _=>exact h.elim
theorem ground {fn:Func} {c:Code} {b:Bool} (Γ':List (Nat × VA)) (h:St B w0 N Γ Λ a w) (hnd:w0.nd=true) (hΓ:AllG a w Γ')
  (k:∀ (B:Nat) (w1:Bs) (w:World),w1.nd=true→(∀ g,¬ w1.F g)→B=w1.w.heap.size→St B w1 N Γ' [] a w→Exit.then (fun a w=>c.wp P (bPost P fn (RQ B w1 (Bo b))) a w) (bPost P fn (RQ B w1 (Bo b))) .normal a w) :
  Exit.then (fun a w=>c.wp P (bPost P fn (RQ B w0 (Bo b))) a w) (bPost P fn (RQ B w0 (Bo b))) .normal a w:=by
 have h1:=k w.heap.size ⟨w,fun _=>False,true⟩ w rfl (fun _ h=>h) rfl ⟨fun g hg=>hg.resolve_right fun h=>h,DefOk.nil (h.defers.none hnd),h.size,Kept.refl _,hΓ.mem,(fun l hl=>by cases hl),(fun l hl=>by cases hl)⟩
 refine wp_mono (c:=c) (show c.wp P _ a w from h1) fun e a' w' hp=>bPost_mono hp ?_
 rintro v w2 ⟨u,hu,hp,hk⟩
 exact ⟨u,hu,hp,h.base.grow ⟨hk.os,hk.tape,hk.output,hk.size,fun k hlt=>hk.block k hlt (fun h=>h)⟩⟩
end
section
variable {P:Program} {Q:Exit→Act→World→Prop} {B N:Nat} {w0:Bs} {Γ:List (Nat × VA)} {Λ:List Lc} {a:Act} {w:World} {ops:Array Oper}
theorem go_first {id m:Nat} (hsz:ops.size=m+1) (h:wpOp P ops Q 0 (wpOps P ops Q (List.range' 1 m)) a w):(Code.region id ops false).wp P Q a w:=by
 refine wp_region ?_
 rw [List.range_eq_range',hsz,List.range'_succ,wpOps_cons]
 exact h
theorem go_restM {sp:List Sp} {d0 m:Nat} {A0:VA} (src:List Src) (h:St B w0 N ((d0,A0)::Γ) Λ a w) (h0:sp[0]?=some (.val d0 A0)) (hsz:ops.size=m+1)
  (hob:Obs P Q ⟨ops,N,Γ,les0 Λ,sp,fun i=>List.range i⟩ B w0 1 m) (hk:Rg.chk ⟨ops,N,Γ,les0 Λ,sp,fun i=>List.range i⟩=true) (hsrc:src.all (okS ⟨ops,N,Γ,les0 Λ,sp,fun i=>List.range i⟩)=true)
  (hQ:∀ a w,St B w0 N (src.filterMap (takeS ⟨ops,N,Γ,les0 Λ,sp,fun i=>List.range i⟩)) Λ a w→Q .normal a w):wpOps P ops Q (List.range' 1 m) a w:=by
 have e:m=ops.size - 1:=by omega
 subst e
 exact go_rest src h h0 zo hob hk hsrc hQ
end
theorem may_all {B:Nat} {w1:Bs} {Ts:List TypeId} (hB:B=w1.w.heap.size):∀ E,Ts.contains E=true→RowMay w1 B E:=fun E _ w g c fz _ h _=>.inl (hB▸h)
theorem nf_frd {x:RF} {n:Int}:∀ A∈[RFD x,NumA .i64 n],NewA A∧FreeA A A:=fun A hA=>by
 simp at hA
 rcases hA with rfl | rfl
 ·exact ⟨new_rfd,free_rfd⟩
 ·exact ⟨new_num _ _,free_num _ _⟩
section
open Rg
variable {P:Program} {Q:Exit→Act→World→Prop} {R:Rg} {B i:Nat} {w0:Bs}
theorem r_extT {t k:Nat} {v:Value} {l:List As} {us:List Value} {A:As} (hx:Has R B w0 i (.tmp t) (PinT v l us)) (hk:l[k]?=some A):Wv P Q R B w0 i (.extract (.tmp t) k) A.va:=by
 intro d T ps af gd a w av K hK
 obtain ⟨e1,vs,e2,h⟩:=hx a w av
 obtain ⟨y,hy,hp,_⟩:=h.get hk
 have e3:a.eval (.tmp t)=.tuple vs.toArray:=e1.trans e2
 exact wp_value (w':=w) (v:=y) (by simp [execOp,e3,Instr.extract,hy]) (hK y w (Grow.refl w) hp)
end
def TwL (l:List Nat):As where
 n:=1
 ag:=false
 p B cs w:=okL l∧∃ g,cs=[.slice (some ⟨g,0,none⟩) l.length (l.length+1)]∧l.length+1≤maxLen∧w.heap[g]?=some (.cells ((l++[7777]).map fun (x:Nat)=>Value.int .u32 x).toArray U32 (0,0))
 deps:=[U32]
 len:=by rintro B cs w ⟨_,g,rfl,_⟩; rfl
 one:=by rintro B cs w ⟨_,g,rfl,_⟩ x hx; simp at hx; subst hx; rfl
 ag1:=fun _=>rfl
 cg:=by
  rintro B cs w w' hg ⟨h0,g,rfl,h2,h3⟩
  exact ⟨h0,g,rfl,h2,hg.heap h3⟩
 wr:=by
  rintro B cs w w' g c T fz hg hT hB hW ⟨h0,g',rfl,h2,h3⟩
  refine ⟨h0,g',rfl,h2,?_⟩
  rw [hW.block g' fun hh=>?_]
  ·exact h3
  ·subst hh
   rw [hg] at h3
   simp only [Option.some.injEq,Obj.cells.injEq] at h3
   exact hT (by simp [h3.2.1])
def TwO (l:List Nat):As where
 n:=1
 ag:=false
 p B cs w:=okL l∧∃ g,cs=[.slice (some ⟨g,0,none⟩) l.length (l.length+1)]∧g<B∧l.length+1≤maxLen∧w.heap[g]?=some (.cells ((l++[7777]).map fun (x:Nat)=>Value.int .u32 x).toArray U32 (0,0))
 deps:=[]
 len:=by rintro B cs w ⟨_,g,rfl,_⟩; rfl
 one:=by rintro B cs w ⟨_,g,rfl,_⟩ x hx; simp at hx; subst hx; rfl
 ag1:=fun _=>rfl
 cg:=by
  rintro B cs w w' hg ⟨h0,g,rfl,h1,h2,h3⟩
  exact ⟨h0,g,rfl,h1,h2,hg.heap h3⟩
 wr:=by
  rintro B cs w w' g c T fz hg hT hB hW ⟨h0,g',rfl,h1,h2,h3⟩
  exact ⟨h0,g',rfl,h1,h2,by rw [hW.block g' zo]; exact h3⟩
theorem up_tw {l:List Nat}:UpA (TwN l) (TwO l):=⟨rfl,rfl,fun B cs w _ ⟨ok,g,e,h1,h2,h3⟩=>⟨ok,g,e,(Array.getElem?_eq_some_iff.1 h3).1,h2,h3⟩⟩
theorem two_twr {l:List Nat}:WkA (TwO l) (TwL l):=⟨rfl,rfl,fun B cs w ⟨ok,g,e,h1,h2,h3⟩=>⟨ok,g,e,h2,h3⟩⟩
theorem twR_A {l:List Nat}:Wk (TwL l).va (MgA l).va:=fun B v w ⟨cs,⟨ok,g,e,h2,h3⟩,hv⟩=>by
 subst e
 have e2:v=.slice (some ⟨g,0,none⟩) l.length (l.length+1):=hv
 subst e2
 have:=mg_shut ((twN_full (B:=B) ok h2 h3).take l.length) (n:=l.length) (by simp)
 rwa [List.take_left] at this
theorem wkA_twR {l:List Nat}:WkA (TwL l) (MgA l):=⟨rfl,rfl,fun B cs w h=>by
 obtain ⟨cs',h1,h2⟩:=twR_A B (shape false cs) w ⟨cs,h,rfl⟩
 have l1:=(TwL l).len _ _ _ h
 have l2:=(MgA l).len _ _ _ h1
 match cs,cs',l1,l2 with
 | [c],[c'],_,_ =>
  have e:c=c':=h2
  subst e
  exact h1⟩
section
variable {P:Program} {R:Rg} {Q:Exit→Act→World→Prop} {B i:Nat} {w0:Bs}
theorem twR_va {l:List Nat} {B:Nat} {v:Value} {w:World} (h:(TwL l).va.p B v w):okL l∧∃ g,v=.slice (some ⟨g,0,none⟩) l.length (l.length+1)∧l.length+1≤maxLen∧w.heap[g]?=some (.cells ((l++[7777]).map fun (x:Nat)=>Value.int .u32 x).toArray U32 (0,0)):=by
 obtain ⟨cs,⟨ok,g,e,h2,h3⟩,hv⟩:=h
 subst e
 exact ⟨ok,g,hv,h2,h3⟩
theorem r_capR {x:Operand} {S E':TypeId} {l:List Nat} (hS:P.underlying S=some (.slice E')) (hx:Has R B w0 i x (TwL l).va):Wv P Q R B w0 i (.call ⟨.builtin .cap,#[x],#[S]⟩) (In ((l.length+1:Nat):Int)) :=
 wv_run fun d T ps af gd a w av=>by
  obtain ⟨_,g,hv,_,_⟩:=twR_va (hx a w av)
  refine ⟨.int .i64 ((l.length+1:Nat):Int),w,?_,Grow.refl w,val_num _ _ _ _⟩
  simp [execOp,resolve,invoke,builtin,hv,Builtin.cap_,run_underlying hS,goInt]
theorem r_reslR {x z:Operand} {S:TypeId} {l:List Nat} (hS:Sl P S U32 1) (hx:Has R B w0 i x (TwL l).va) (hz:Has R B w0 i z (In ((l.length+1:Nat):Int))):Wv P Q R B w0 i (.slice S x none (some z) none) (MgA (l++[7777])).va :=
 wv_run fun d T ps af gd a w av=>by
  obtain ⟨hs1,hs2⟩:=hS
  obtain ⟨ok,g,e1,hm,hh⟩:=twR_va (hx a w av)
  have e3:=num_val (hz a w av)
  have hE:P.elem S=U32:=by simp [Program.elem,hs1]
  have hs1':P.underlying S=some (.slice (P.elem S)):=by rw [hE]; exact hs1
  have hsz:∀ w,(sizeOf U32).run P w=.ok 1 w:=fun w=>by
   cases hi:P.info? U32 with
   | none=>rw [hi] at hs2; simp at hs2
   | some it=>rw [hi] at hs2; simp [sizeOf,typeInfo,hi]; simpa using hs2
  refine ⟨.slice (some ⟨g,0,none⟩) (l.length+1) (l.length+1),w,?_,Grow.refl w,mg_shut (twN_full ok hm hh) (by simp)⟩
  have hr:=run_slice_h (P:=P) w S (some ⟨g,0,none⟩) l.length (l.length+1) hs1' .i64 ((l.length+1:Nat):Int) zo zo
  rw [hE,hsz] at hr
  have hne:¬ l.length+1=0:=by omega
  simp only [Result.andThen_ok,sliced,Int.toNat_natCast,hne,if_false,Nat.mul_one,Option.map_some,Nat.sub_zero] at hr
  simp only [execOp,e1,e3,Option.map_some,run_sliceAt_slice _ _ _ _ _ _ hs1',Sem.run_bind,Sem.run_pure]
  erw [hr]
  simp [Addr.add]
end
def RIR (x:RI):As:=cat [BoA x.neg,TwL x.mag]
def RFR (x:RF):As:=cat [RIR x.num,RIR x.den]
def RMR (x:RM):As:=cat [RFR x.a,RFR x.b,RFR x.c,RFR x.d]
def ROI (x:RI):As:=cat [BoA x.neg,TwO x.mag]
def ROF (x:RF):As:=cat [ROI x.num,ROI x.den]
def ROM (x:RM):As:=cat [ROF x.a,ROF x.b,ROF x.c,ROF x.d]
theorem wkA_rir {x:RI}:WkA (RIR x) (RIA x):=cat_wk (.cons (.refl _) (.cons wkA_twR .nil))
theorem wkA_rfr {x:RF}:WkA (RFR x) (RFA x):=cat_wk (.cons wkA_rir (.cons wkA_rir .nil))
theorem wkA_rmr {x:RM}:WkA (RMR x) (RMA x):=cat_wk (.cons wkA_rfr (.cons wkA_rfr (.cons wkA_rfr (.cons wkA_rfr .nil))))
theorem up_rit {x:RI}:UpA (RIT x) (ROI x):=cat_up (.cons (up_bo _) (.cons up_tw .nil))
theorem up_rft {x:RF}:UpA (RFT x) (ROF x):=cat_up (.cons up_rit (.cons up_rit .nil))
theorem up_rmt {x:RM}:UpA (RMT x) (ROM x):=cat_up (.cons up_rft (.cons up_rft (.cons up_rft (.cons up_rft .nil))))
theorem roi_rir {x:RI}:WkA (ROI x) (RIR x):=cat_wk (.cons (.refl _) (.cons two_twr .nil))
theorem rof_rfr {x:RF}:WkA (ROF x) (RFR x):=cat_wk (.cons roi_rir (.cons roi_rir .nil))
theorem rom_rmr {x:RM}:WkA (ROM x) (RMR x):=cat_wk (.cons rof_rfr (.cons rof_rfr (.cons rof_rfr (.cons rof_rfr .nil))))
def OF (x:RF):As:=cat [RIO x.num,RIO x.den]
def OM (x:RM):As:=cat [OF x.a,OF x.b,OF x.c,OF x.d]
theorem up_of {x:RF}:UpA (RFA x) (OF x):=cat_up (.cons (up_ri _) (.cons (up_ri _) .nil))
theorem up_om {x:RM}:UpA (RMA x) (OM x):=cat_up (.cons up_of (.cons up_of (.cons up_of (.cons up_of .nil))))
theorem wkA_riO {x:RI}:WkA (RIO x) (RIA x):=⟨rfl,rfl,fun B cs w h=>by
 obtain ⟨ps,e,h⟩:=h
 subst e
 cases h with
 | cons h1 h=>cases h with
  | @cons _ c _ _ h2 h =>
   cases h
   refine ⟨_,rfl,.cons h1 (.cons ?_ .nil)⟩
   obtain ⟨cs',q1,q2⟩:=wk_mgO B (shape false c) w ⟨c,h2,rfl⟩
   have l1:=(MgO x.mag).len _ _ _ h2
   have l2:=(MgA x.mag).len _ _ _ q1
   match c,cs',l1,l2 with
   | [c],[c'],_,_ =>
    have e:c=c':=q2
    subst e
    exact q1⟩
theorem of_rfa {x:RF}:WkA (OF x) (RFA x):=cat_wk (.cons wkA_riO (.cons wkA_riO .nil))
theorem om_rma {x:RM}:WkA (OM x) (RMA x):=cat_wk (.cons of_rfa (.cons of_rfa (.cons of_rfa (.cons of_rfa .nil))))
theorem upA_twR {l:List Nat}:UpA (TwL l) (TwL l):=⟨rfl,rfl,fun _ _ _ _ h=>h⟩
theorem upA_rir {x:RI}:UpA (RIR x) (RIR x):=cat_up (.cons (up_bo _) (.cons upA_twR .nil))
theorem upA_rfr {x:RF}:UpA (RFR x) (RFR x):=cat_up (.cons upA_rir (.cons upA_rir .nil))
theorem upA_rmr {x:RM}:UpA (RMR x) (RMR x):=cat_up (.cons upA_rfr (.cons upA_rfr (.cons upA_rfr (.cons upA_rfr .nil))))
set_option maxHeartbeats 1000000 in
theorem leftIntR_c (x y:RI) (hx:x.mag.length≤1000000000000):Cn Tryz.prog 171 [(RIR x).va,(RIA y).va] (Bo (decide (x=y))):=by
 refine Cn.intro Tryz.func171 rfl zk nq (fun B w0 a hst=>?_)
 have hst:St B w0 32 [(0,(RIR x).va),(1,(RIA y).va)] [] a w0.w:=hst
 refine wp_seq ?_
 refine gl (sts:=[]) (news:=[⟨2,24,ptrH,some 0,_,none⟩,⟨3,24,ptrH,some 1,_,none⟩]) (sp:=[.alc 0,.alc 1,.val 4 _]) [.o 2] hst (oc (ob_box rfl rfl rfl (gq 0 rfl)) (oc (ob_box rfl rfl rfl (gq 1 rfl)) (zv rfl rfl (r_assign has_bo) o0))) (fun a w hst=>?_)
 have hst:St B w0 32 [(4,_)] [⟨2,24,ptrH,_⟩,⟨3,24,ptrH,_⟩] a w:=hst
 refine zt ?_
 refine go_draw (anc:=[[],[],[0,1],[0,1,2],[0,1,2,3],[0,1,2,3,4],[0,1,2,3,4,5],[0,1,2,3],[0,1,2,3,7],[0,1,2,3,7,8],[0,1,2,3,4,5,6,7,8,9],[0,1,2,3,4,5,6,7,8,9,10],[0,1,2,3,4,5,6,7,8,9,10,11],[0,1,2,3,4,5,6,7,8,9,10,11,12],[0,1,2,3,4,5,6,7,8,9,10,11,12,13],[0,1,2,3,4,5,6,7,8,9,10,11,12],[0,1,2,3,4,5,6,7,8,9,10,11,12,15],[0,1,2,3,4,5,6,7,8,9,10,11,12,15,16],[0,1,2,3,4,5,6,7,8,9,10,11,12,15,16,17],[0,1,2,3,4,5,6,7,8,9,10,11,12,13,14,15,16,17,18],[0,1,2,3,4,5,6,7,8,9,10,11,12],[0,1,2,3,4,5,6,7,8,9,10,11,12,20],[0,1,2,3,4,5,6,7,8,9,10,11,12,20,21],[0,1,2,3,4,5,6,7,8,9,10,11,12,13,14,15,16,17,18,19,20,21,22],[0,1,2,3,4,5,6,7,8,9,10,11,12,13,14,15,16,17,18,19,20,21,22,23],[0,1,2,3,4,5,6,7,8,9,10,11,12,13,14,15,16,17,18,19,20,21,22,23,24],[0,1,2,3,4,5,6,7,8,9,10,11,12,13,14,15,16,17,18,19,20,21,22,23,24,25],[0,1,2,3,4,5,6,7,8,9,10,11,12,13,14,15,16,17,18,19,20,21,22,23,24,25,26]]) (sts:=[none,none]) (news:=[]) (sp:=((.val 5 _:Sp)::(.val 6 _)::(.val 7 _)::(.val 8 _)::(.adr 9 2 (.some 1) (_=true))::(.val 10 (Wh (_=true) _))::(.val 11 (Wh (_=true) _))::(.adr 12 2 (.some 1) (_=true))::(.val 13 (Wh (_=true) _))::(.val 14 (Wh (_=true) _))::(.val 15 (Wh (_=true) _))::(.val 16 _)::(.val 17 _)::(.adr 18 2 (.some 1) (_=true))::(.val 19 (Wh (_=true) _))::(.adr 20 2 (.some 1) (_=true))::(.val 21 (Wh (_=true) _))::(.val 22 (Wh (_=true) _))::(.val 23 (Wh (_=true) _))::(.val 24 (Wh (_=true) _))::(.adr 25 2 (.some 1) (_=true))::(.val 26 (Wh (_=true) _))::(.val 27 (Wh (_=true) _))::(.val 28 (Wh (_=true) _))::(.val 29 (Wh (_=true) _))::(.val 30 (Wh (_=true) _))::(.val 31 _)::(.val 4 _)::[])) [.o 27] follows_mixed hst (zv rfl rfl (r_load (lz0 0 rfl) ty_24) (zv rfl rfl (r_load (lz0 1 rfl) ty_24) (zv rfl rfl (r_call (xs:=[.tmp 5,.tmp 6]) ((sameInt_c x y).wk (.cons wkA_rir.va (.cons wk_id .nil))) (.cons (vq 0 rfl) (.cons (vq 1 rfl) .nil))) (zv rfl rfl (r_move (vq 2 rfl)) (oc (ob_ag rfl rfl rfl (vq 3 rfl) nq (fun hg=>a_fld (lz0 0 rfl) fld_24_1)) (oc (ob_gd rfl rfl rfl (vq 3 rfl) nq (fun hg=>r_loadf 4 rfl zk hg (lz0 0 rfl) (Sub.part 1 rfl rfl) ty_22)) (oc (ob_gd rfl rfl rfl (vq 3 rfl) nq (fun hg=>r_capR Tryz.underlying22 (has_wh (vq 5 rfl) hg))) (oc (ob_ag rfl rfl rfl (vq 3 rfl) nq (fun hg=>a_fld (lz0 0 rfl) fld_24_1)) (oc (ob_gd rfl rfl rfl (vq 3 rfl) nq (fun hg=>r_loadf 7 rfl zk hg (lz0 0 rfl) (Sub.part 1 rfl rfl) ty_22)) (oc (ob_gd rfl rfl rfl (vq 3 rfl) nq (fun hg=>r_lenm Tryz.underlying22 (has_wk' (has_wh (vq 8 rfl) hg) twR_A))) (oc (ob_gd rfl rfl rfl (vq 3 rfl) nq (fun hg=>r_gtr (has_wh (vq 6 rfl) hg) (has_wh (vq 9 rfl) hg))) (zv rfl rfl (r_and (vq 3 rfl) (vq 10 rfl)) (zv rfl rfl (r_move (vq 11 rfl)) (oc (ob_ag rfl rfl rfl (vq 12 rfl) nq (fun hg=>a_fld (lz0 0 rfl) fld_24_1)) (oc (ob_gd rfl rfl rfl (vq 12 rfl) nq (fun hg=>r_loadf 13 rfl zk hg (lz0 0 rfl) (Sub.part 1 rfl rfl) ty_22)) (oc (ob_ag rfl rfl rfl (vq 12 rfl) nq (fun hg=>a_fld (lz0 0 rfl) fld_24_1)) (oc (ob_gd rfl rfl rfl (vq 12 rfl) nq (fun hg=>r_loadf 15 rfl zk hg (lz0 0 rfl) (Sub.part 1 rfl rfl) ty_22)) (oc (ob_gd rfl rfl rfl (vq 12 rfl) nq (fun hg=>r_lenm Tryz.underlying22 (has_wk' (has_wh (vq 16 rfl) hg) twR_A))) (oc (ob_gd rfl rfl rfl (vq 12 rfl) nq (fun hg=>r_add (has_wh (vq 17 rfl) hg) has_num (wi_succ zo))) (oc (ob_gd rfl rfl rfl (vq 12 rfl) nq (fun hg=>r_reslR sl_22 (has_wh (vq 14 rfl) hg) (has_wh (vq 18 rfl) hg))) (oc (ob_ag rfl rfl rfl (vq 12 rfl) nq (fun hg=>a_fld (lz0 0 rfl) fld_24_1)) (oc (ob_gd rfl rfl rfl (vq 12 rfl) nq (fun hg=>r_loadf 20 rfl zk hg (lz0 0 rfl) (Sub.part 1 rfl rfl) ty_22)) (oc (ob_gd rfl rfl rfl (vq 12 rfl) nq (fun hg=>r_lenm Tryz.underlying22 (has_wk' (has_wh (vq 21 rfl) hg) twR_A))) (oc (ob_gd rfl rfl rfl (vq 12 rfl) nq (fun hg=>r_idxmd sl_22 (has_wh (vq 19 rfl) hg) (has_wh (vq 22 rfl) hg) (by simp))) (oc (ob_gd rfl rfl rfl (vq 12 rfl) nq (fun hg=>r_loade (has_wh (vq 23 rfl) hg) ty_168)) (oc (ob_gd rfl rfl rfl (vq 12 rfl) nq (fun hg=>r_eql (has_wh (vq 24 rfl) hg) (has_nat 7777 rfl))) (zv rfl rfl (r_and (vq 12 rfl) (vq 25 rfl)) (zv rfl rfl (r_assign (vq 26 rfl)) o0)))))))))))))))))))))))))))) zk zk zk zk (fun a w hst=>?_)
 have hst:St B w0 32 [(4,_)] [⟨2,24,ptrH,_⟩,⟨3,24,ptrH,_⟩] a w:=hst
 refine thn_normal ?_
 refine wp_ret ?_
 refine ret_wk ?_ (ret_tmp rfl hst (zm 0 rfl))
 refine wk_eq (congrArg Bo ?_); simp; omega
theorem leftFracR_c (x y:RF) (hx:bdF x):Cn Tryz.prog 35 [(RFR x).va,(RFA y).va] (Bo (decide (x=y))):=by
 refine Cn.intro Tryz.func35 rfl zk nq (fun B w0 a hst=>?_)
 have hst:St B w0 17 [(0,(RFR x).va),(1,(RFA y).va)] [] a w0.w:=hst
 refine wp_seq ?_
 refine gl (sts:=[]) (news:=[⟨2,26,ptrH,some 0,_,none⟩,⟨3,26,ptrH,some 1,_,none⟩]) (sp:=[.alc 0,.alc 1,.val 4 _]) [.o 2] hst (oc (ob_box rfl rfl rfl (gq 0 rfl)) (oc (ob_box rfl rfl rfl (gq 1 rfl)) (zv rfl rfl (r_assign has_bo) o0))) (fun a w hst=>?_)
 have hst:St B w0 17 [(4,_)] [⟨2,26,ptrH,_⟩,⟨3,26,ptrH,_⟩] a w:=hst
 refine zt ?_
 refine gl (sts:=[none,none]) (news:=[]) (sp:=[.adr 5 2 (.some 0) True,.val 6 _,.adr 7 3 (.some 0) True,.val 8 _,.val 9 _,.val 10 _,.adr 11 2 (.some 2) (_=true),.val 12 (Wh (_=true) _),.adr 13 3 (.some 2) (_=true),.val 14 (Wh (_=true) _),.val 15 (Wh (_=true) _),.val 16 _,.val 4 _]) [.o 12] hst (oc (ob_a rfl rfl (a_fld (lz0 0 rfl) fld_26_0)) (zv rfl rfl (r_loadf 0 rfl zk trivial (lz0 0 rfl) (Sub.part 0 rfl rfl) ty_24) (oc (ob_a rfl rfl (a_fld (lz0 1 rfl) fld_26_0)) (zv rfl rfl (r_loadf 2 rfl zk trivial (lz0 1 rfl) (Sub.part 0 rfl rfl) ty_24) (zv rfl rfl (r_call (xs:=[.tmp 6,.tmp 8]) (leftIntR_c _ _ hx.1) (.cons (vq 1 rfl) (.cons (vq 3 rfl) .nil))) (zv rfl rfl (r_move (vq 4 rfl)) (oc (ob_ag rfl rfl rfl (vq 5 rfl) nq (fun hg=>a_fld (lz0 0 rfl) fld_26_1)) (oc (ob_gd rfl rfl rfl (vq 5 rfl) nq (fun hg=>r_loadf 6 rfl zk hg (lz0 0 rfl) (Sub.part 1 rfl rfl) ty_24)) (oc (ob_ag rfl rfl rfl (vq 5 rfl) nq (fun hg=>a_fld (lz0 1 rfl) fld_26_1)) (oc (ob_gd rfl rfl rfl (vq 5 rfl) nq (fun hg=>r_loadf 8 rfl zk hg (lz0 1 rfl) (Sub.part 1 rfl rfl) ty_24)) (oc (ob_gd rfl rfl rfl (vq 5 rfl) nq (fun hg=>r_call (xs:=[.tmp 12,.tmp 14]) (leftIntR_c _ _ hx.2) (.cons (has_wh (vq 7 rfl) hg) (.cons (has_wh (vq 9 rfl) hg) .nil)))) (zv rfl rfl (r_and (vq 5 rfl) (vq 10 rfl)) (zv rfl rfl (r_assign (vq 11 rfl)) o0))))))))))))) (fun a w hst=>?_)
 have hst:St B w0 17 [(4,_)] [⟨2,26,ptrH,_⟩,⟨3,26,ptrH,_⟩] a w:=hst
 refine thn_normal ?_
 refine wp_ret ?_
 refine ret_wk ?_ (ret_tmp rfl hst (zm 0 rfl))
 exact wk_eq (congrArg Bo rf_eq)
theorem leftMatrixR_c (x y:RM) (hx:bdF x.a∧bdF x.b∧bdF x.c∧bdF x.d):Cn Tryz.prog 21 [(RMR x).va,(RMA y).va] (Bo (decide (x=y))):=by
 refine Cn.intro Tryz.func21 rfl zk nq (fun B w0 a hst=>?_)
 have hst:St B w0 31 [(0,(RMR x).va),(1,(RMA y).va)] [] a w0.w:=hst
 refine wp_seq ?_
 refine gl (sts:=[]) (news:=[⟨2,28,ptrH,some 0,_,none⟩,⟨3,28,ptrH,some 1,_,none⟩]) (sp:=[.alc 0,.alc 1,.val 4 _]) [.o 2] hst (oc (ob_box rfl rfl rfl (gq 0 rfl)) (oc (ob_box rfl rfl rfl (gq 1 rfl)) (zv rfl rfl (r_assign has_bo) o0))) (fun a w hst=>?_)
 have hst:St B w0 31 [(4,_)] [⟨2,28,ptrH,_⟩,⟨3,28,ptrH,_⟩] a w:=hst
 refine zt ?_
 refine gl (sts:=[none,none]) (news:=[]) (sp:=((.adr 5 2 (.some 0) True:Sp)::(.val 6 _)::(.adr 7 3 (.some 0) True)::(.val 8 _)::(.val 9 _)::(.val 10 _)::(.adr 11 2 (.some 4) (_=true))::(.val 12 (Wh (_=true) _))::(.adr 13 3 (.some 4) (_=true))::(.val 14 (Wh (_=true) _))::(.val 15 (Wh (_=true) _))::(.val 16 _)::(.val 17 _)::(.adr 18 2 (.some 8) (_=true))::(.val 19 (Wh (_=true) _))::(.adr 20 3 (.some 8) (_=true))::(.val 21 (Wh (_=true) _))::(.val 22 (Wh (_=true) _))::(.val 23 _)::(.val 24 _)::(.adr 25 2 (.some 12) (_=true))::(.val 26 (Wh (_=true) _))::(.adr 27 3 (.some 12) (_=true))::(.val 28 (Wh (_=true) _))::(.val 29 (Wh (_=true) _))::(.val 30 _)::(.val 4 _)::[])) [.o 26] hst (oc (ob_a rfl rfl (a_fld (lz0 0 rfl) fld_28_0)) (zv rfl rfl (r_loadf 0 rfl zk trivial (lz0 0 rfl) (Sub.part 0 rfl rfl) ty_26) (oc (ob_a rfl rfl (a_fld (lz0 1 rfl) fld_28_0)) (zv rfl rfl (r_loadf 2 rfl zk trivial (lz0 1 rfl) (Sub.part 0 rfl rfl) ty_26) (zv rfl rfl (r_call (xs:=[.tmp 6,.tmp 8]) (leftFracR_c _ _ hx.1) (.cons (vq 1 rfl) (.cons (vq 3 rfl) .nil))) (zv rfl rfl (r_move (vq 4 rfl)) (oc (ob_ag rfl rfl rfl (vq 5 rfl) nq (fun hg=>a_fld (lz0 0 rfl) fld_28_1)) (oc (ob_gd rfl rfl rfl (vq 5 rfl) nq (fun hg=>r_loadf 6 rfl zk hg (lz0 0 rfl) (Sub.part 1 rfl rfl) ty_26)) (oc (ob_ag rfl rfl rfl (vq 5 rfl) nq (fun hg=>a_fld (lz0 1 rfl) fld_28_1)) (oc (ob_gd rfl rfl rfl (vq 5 rfl) nq (fun hg=>r_loadf 8 rfl zk hg (lz0 1 rfl) (Sub.part 1 rfl rfl) ty_26)) (oc (ob_gd rfl rfl rfl (vq 5 rfl) nq (fun hg=>r_call (xs:=[.tmp 12,.tmp 14]) (leftFracR_c _ _ hx.2.1) (.cons (has_wh (vq 7 rfl) hg) (.cons (has_wh (vq 9 rfl) hg) .nil)))) (zv rfl rfl (r_and (vq 5 rfl) (vq 10 rfl)) (zv rfl rfl (r_move (vq 11 rfl)) (oc (ob_ag rfl rfl rfl (vq 12 rfl) nq (fun hg=>a_fld (lz0 0 rfl) fld_28_2)) (oc (ob_gd rfl rfl rfl (vq 12 rfl) nq (fun hg=>r_loadf 13 rfl zk hg (lz0 0 rfl) (Sub.part 2 rfl rfl) ty_26)) (oc (ob_ag rfl rfl rfl (vq 12 rfl) nq (fun hg=>a_fld (lz0 1 rfl) fld_28_2)) (oc (ob_gd rfl rfl rfl (vq 12 rfl) nq (fun hg=>r_loadf 15 rfl zk hg (lz0 1 rfl) (Sub.part 2 rfl rfl) ty_26)) (oc (ob_gd rfl rfl rfl (vq 12 rfl) nq (fun hg=>r_call (xs:=[.tmp 19,.tmp 21]) (leftFracR_c _ _ hx.2.2.1) (.cons (has_wh (vq 14 rfl) hg) (.cons (has_wh (vq 16 rfl) hg) .nil)))) (zv rfl rfl (r_and (vq 12 rfl) (vq 17 rfl)) (zv rfl rfl (r_move (vq 18 rfl)) (oc (ob_ag rfl rfl rfl (vq 19 rfl) nq (fun hg=>a_fld (lz0 0 rfl) fld_28_3)) (oc (ob_gd rfl rfl rfl (vq 19 rfl) nq (fun hg=>r_loadf 20 rfl zk hg (lz0 0 rfl) (Sub.part 3 rfl rfl) ty_26)) (oc (ob_ag rfl rfl rfl (vq 19 rfl) nq (fun hg=>a_fld (lz0 1 rfl) fld_28_3)) (oc (ob_gd rfl rfl rfl (vq 19 rfl) nq (fun hg=>r_loadf 22 rfl zk hg (lz0 1 rfl) (Sub.part 3 rfl rfl) ty_26)) (oc (ob_gd rfl rfl rfl (vq 19 rfl) nq (fun hg=>r_call (xs:=[.tmp 26,.tmp 28]) (leftFracR_c _ _ hx.2.2.2) (.cons (has_wh (vq 21 rfl) hg) (.cons (has_wh (vq 23 rfl) hg) .nil)))) (zv rfl rfl (r_and (vq 19 rfl) (vq 24 rfl)) (zv rfl rfl (r_assign (vq 25 rfl)) o0))))))))))))))))))))))))))) (fun a w hst=>?_)
 have hst:St B w0 31 [(4,_)] [⟨2,28,ptrH,_⟩,⟨3,28,ptrH,_⟩] a w:=hst
 refine thn_normal ?_
 refine wp_ret ?_
 refine ret_wk ?_ (ret_tmp rfl hst (zm 0 rfl))
 exact wk_eq (congrArg Bo rm_eq)
end Go.Proofs.YthncfchnkjemiaaGreatDoor
namespace Go.Proofs.YthncfchnkjemiaaGreatDoor
open Go Go.RowKit
theorem kbl_app {l m:KL}:kbl (l++m)=kbl l++kbl m:=List.filterMap_append ..
theorem rin_ok {x:RI} {B:Nat} {cs:List Value} {w:World} (h:(RIN x).p B cs w):okL x.mag:=by
 obtain ⟨ps,rfl,hp⟩:=h
 cases hp with
 | cons h1 hp=>cases hp with
  | cons h2 hp=>exact h2.1
abbrev OkK (l:KL):Prop:=∀ p∈l,okL p.2
theorem okK_app {l m:KL} (h:OkK l) (k:OkK m):OkK (l++m):=fun p hp=>by
 rcases List.mem_append.1 hp with hp | hp
 ·exact h p hp
 ·exact k p hp
abbrev LnK (l:KL):Prop:=∀ p∈l,p.2.length≤2000000000000
theorem lnK_app {l m:KL} (h:LnK l) (k:LnK m):LnK (l++m):=fun p hp=>by
 rcases List.mem_append.1 hp with hp | hp
 ·exact h p hp
 ·exact k p hp
theorem okK_f {x:RF} {m1 m2:Value} (h1:okL x.num.mag) (h2:okL x.den.mag):OkK (kf x m1 m2):=fun p hp=>by
 simp only [List.mem_cons,List.not_mem_nil,or_false] at hp
 rcases hp with rfl | rfl
 ·exact h1
 ·exact h2
theorem lnK_f {x:RF} {m1 m2:Value} (h:bdF x):LnK (kf x m1 m2):=fun p hp=>by
 simp only [List.mem_cons,List.not_mem_nil,or_false] at hp
 rcases hp with rfl | rfl
 ·exact Nat.le_trans h.1 zd
 ·exact Nat.le_trans h.2 zd
theorem okK_len {l:KL} (h:OkK l) (k:LnK l):∀ p∈l,okL p.2∧p.2.length≤2000000000000:=fun p hp=>⟨h p hp,k p hp⟩
theorem frac_names {x:RF} {B:Nat} {cs:List Value} {w:World} (h:(RFN x).p B cs w):∃ m1 m2,(FracP x m1 m2).p B cs w∧cbl cs=kbl (kf x m1 m2)∧OkK (kf x m1 m2):=by
 obtain ⟨ps,rfl,hp⟩:=h
 cases hp with
 | @cons _ c1 _ _ h1 hp=>cases hp with
  | @cons _ c2 _ _ h2 hp =>
   cases hp
   obtain ⟨m1,p1,e1⟩:=int_split h1
   obtain ⟨m2,p2,e2⟩:=int_split h2
   refine ⟨m1,m2,⟨[c1,c2],rfl,.cons p1 (.cons p2 .nil)⟩,?_,okK_f (rin_ok h1) (rin_ok h2)⟩
   have:([c1,c2]:List (List Value)).flatten=c1++c2:=by simp
   rw [this,cbl_app,e1,e2]
   exact kbl_app.symm
def nm4 (a b c d:Value):Nat→Value
 | 0=>a
 | 1=>b
 | 2=>c
 | _=>d
theorem fracs_names {x:RF} {B:Nat} {cs:List Value} {w:World} (h:(RFN x).p B cs w):∃ m:Nat→Value,(FracP x (m 0) (m 1)).p B cs w∧cbl cs=kbl (kf x (m 0) (m 1))∧OkK (kf x (m 0) (m 1)):=by
 obtain ⟨m1,m2,h1,h2,h3⟩:=frac_names h
 exact ⟨nm4 m1 m2 m1 m2,h1,h2,h3⟩
theorem St.splitN {M:Type} {B N:Nat} {w0:Bs} {Γ:List (Nat × VA)} {Λ:List Lc} {a:Act} {w:World} {s:Nat} {T:TypeId} {H:Hd} {u:Value} {A0 A:As} {c:Prop} {AP:M→As} {kl:M→KL} (hw:WkA A0 (DisA A)) (hs:∀ {B:Nat} {cs:List Value} {w:World},A.p B cs w→∃ m,(AP m).p B cs w∧cbl cs=kbl (kl m)∧OkK (kl m)) (h:St B w0 N Γ Λ a w) (k:Nat) (hm:Λ[k]?=some ⟨s,T,H,PinA u (A0.and c)⟩) :
  ∃ m,vbl u=kbl (kl m)∧(kbl (kl m)).Nodup∧OkK (kl m)∧c∧St B w0 N Γ (Λ.set k ⟨s,T,H,AP m⟩) a w:=by
 obtain ⟨g,cs,q1,q2,q3,⟨hc,hp⟩,hu⟩:=h.locs _ (List.mem_of_getElem? hm)
 obtain ⟨hA,hn⟩:=hw.2.2 _ _ _ hp
 obtain ⟨m,p1,e,ok⟩:=hs hA
 have hu':vbl u=cbl cs:=by
  have hu2:shape A0.ag cs=u:=hu
  rw [← hu2]
  exact vbl_of hp
 have hse:∀ y∈Λ.set k ⟨s,T,H,AP m⟩,∃ m0∈Λ,m0.s=y.s:=fun y hm'=>by
  rcases List.mem_or_eq_of_mem_set hm' with hm' | rfl
  ·exact ⟨y,hm',rfl⟩
  ·exact ⟨_,List.mem_of_getElem? hm,rfl⟩
 refine ⟨m,hu'.trans e,e▸hn,ok,hc,h.lo,h.defers,h.size,h.base,h.vals,fun l hl=>?_,fun a1 ha1 a2 ha2 hne=>?_⟩
 ·rcases List.mem_or_eq_of_mem_set hl with hl | rfl
  ·exact h.locs l hl
  ·exact ⟨g,cs,q1,q2,q3,p1⟩
 ·obtain ⟨m3,r1,r2⟩:=hse a1 ha1
  obtain ⟨m4,r3,r4⟩:=hse a2 ha2
  rw [← r2,← r4] at hne ⊢
  exact h.dis m3 r1 m4 r3 hne
def Kb (us:List Value) (l:KL):Prop:=(kbl l).Nodup∧∀ g∈kbl l,∃ u∈us,g∈vbl u
theorem kb_nil:Kb [] []:=⟨List.nodup_nil,fun g h=>by cases h⟩
theorem kb_add {l m:KL} {us:List Value} {v:Value} (h:Kb us l) (hv:vbl v=kbl m) (h2:(kbl m).Nodup) (hs:SepAll us v):Kb (us++[v]) (l++m):=by
 refine ⟨?_,fun g hg=>?_⟩
 ·rw [kbl_app]
  refine List.nodup_append.2 ⟨h.1,h2,fun x hx y hy e=>?_⟩
  subst e
  obtain ⟨u,hu,hg⟩:=h.2 x hx
  exact hs u hu x hg (by rw [hv]; exact hy)
 ·rw [kbl_app,List.mem_append] at hg
  rcases hg with hg | hg
  ·obtain ⟨u,hu,h3⟩:=h.2 g hg
   exact ⟨u,by simp [hu],h3⟩
  ·exact ⟨v,by simp,by rw [hv]; exact hg⟩
theorem kb_sep {us:List Value} {l:KL} (h:Kb us l):SepL [] l:=sepL_of h.1 fun t ht=>by cases ht
theorem sepAll_nil {v:Value}:SepAll [] v:=fun u h=>by cases h
theorem sepAll_cons {u v:Value} {us:List Value} (h:Sep u v) (k:SepAll us v):SepAll (u::us) v:=fun x hx=>by
 rcases List.mem_cons.1 hx with rfl | hx
 ·exact h
 ·exact k x hx
theorem sep_of {u v:Value} {us:List Value} (h:SepAll us v) (i:Nat) (hi:us[i]?=some u):Sep u v:=h u (List.mem_of_getElem? hi)
theorem okK_nil:OkK []:=fun p h=>by cases h
theorem lnK_nil:LnK []:=fun p h=>by cases h
theorem bd_rf0:bdF rf0:=⟨Nat.zero_le _,Nat.zero_le _⟩
theorem bd_of {q:Rat} (h:¬ longQ q=true):bdF (rfOf q):=by
 have h':longQ q=false:=by cases hq:longQ q with
  | true=>exact absurd hq h
  | false=>rfl
 unfold longQ at h'
 simp only [List.any_cons,List.any_nil,Bool.or_false,Bool.or_eq_false_iff] at h'
 have h1:=of_decide_eq_false h'.1
 have h2:=of_decide_eq_false h'.2
 refine ⟨?_,?_⟩
 ·show (riOf q.num).mag.length≤_
  omega
 ·show (riOf (q.den:Int)).mag.length≤_
  omega
theorem bd_ans (q:Rat):bdF (ansF q).1:=by
 unfold ansF
 split
 ·exact bd_rf0
 ·rename_i h; exact bd_of h
theorem bd_tw1 (x y:Rat):bdF (twF x y).1:=by
 unfold twF
 split
 ·exact bd_rf0
 ·rename_i h; exact bd_of fun e=>h (by simp [e])
theorem bd_tw2 (x y:Rat):bdF (twF x y).2.1:=by
 unfold twF
 split
 ·exact bd_rf0
 ·rename_i h; exact bd_of fun e=>h (by simp [e])
end Go.Proofs.YthncfchnkjemiaaGreatDoor
