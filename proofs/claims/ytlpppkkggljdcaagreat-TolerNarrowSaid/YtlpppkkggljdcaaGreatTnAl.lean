import Derived.Test.YtlpppkkggljdcaaGreatTnAa
import Derived.Test.YtlpppkkggljdcaaGreatTnAc
import Derived.Test.YtlpppkkggljdcaaGreatTnAk
set_option linter.unusedVariables false
set_option linter.unusedSimpArgs false
set_option linter.unusedSectionVars false
set_option maxRecDepth 100000
namespace Go.Proofs.YtlpppkkggljdcaaGreat
open Go Go.RowKit
def okLb (l:List Nat):Bool:=l.all fun x=>decide (x<4294967296)
theorem okLb_iff {l:List Nat}:okLb l=true↔okL l:=by simp [okLb,okL]
def okX (x:RF):Bool:=okLb x.num.mag&&okLb x.den.mag&&okF x
def zI (x:RI):Int:=if x.neg then -(val x.mag:Nat) else (val x.mag:Nat)
def toQ (x:RF):Rat:=Rat.divInt (zI x.num) (zI x.den)
theorem zI_ri (z:Int):zI (riOf z)=z:=by
 unfold zI
 rw [zbr]
 by_cases h:z<0 <;> simp [riOf,h] <;> omega
theorem zcy (r:Rat):toQ (rfOf r)=r:=by
 show Rat.divInt (zI (riOf r.num)) (zI (riOf (r.den:Int)))=r
 rw [zI_ri,zI_ri]
 exact Rat.num_divInt_den r
theorem okX_know {x:RF}(h:okL x.num.mag∧okL x.den.mag):okX x=okF x:=by rw [okX,okLb_iff.2 h.1,okLb_iff.2 h.2]; rfl
theorem zgz {x:RF}(h:okX x=true):x=rfOf (toQ x)∧lz (toQ x).num≤2048∧lz ((toQ x).den:Int)≤2048:=by
 simp only [okX,Bool.and_eq_true] at h
 obtain ⟨r,rfl,h1⟩:=okF_q ⟨okLb_iff.1 h.1.1,okLb_iff.1 h.1.2⟩ h.2
 rw [zcy]
 exact ⟨rfl,h1⟩
theorem zh0 (r:Rat):okX (rfOf r) = !longQ r:=by
 rw [okX_know ⟨ok_ri _,ok_ri _⟩,okF_of]
theorem okX_r {x:RF}(h:okX x=true):∃ r,x=rfOf r∧lz r.num≤2048∧lz (r.den:Int)≤2048:=⟨_,zgz h⟩
abbrev rf0:RF:=⟨⟨false,[]⟩,⟨false,[]⟩⟩
theorem ex_check : ∃ fn, Tryz.prog.funcs[91]? = some fn ∧ (fn.name == "runtime.NumGoroutine") = false ∧ fn.body.isNone = false := ⟨_, Tryz.func91, by kernel_rfl, by kernel_rfl⟩
theorem check_x (x:RF):Cn Tryz.prog 91 [(RFA x).va] (In (if okX x then 0 else 1)) :=
 Cn.know (c:=okL x.num.mag∧okL x.den.mag) ex_check (fun B w args ha=>by cases ha with | cons h1 _=>exact rf_know h1) fun h=>(checkF_c x.num x.den).post (by rw [okX_know h])
theorem ok_no {l:List RF}{j:Nat}(h:j<l.length)(h2:((if okX l[j] then (0:Int) else 1) != 0)=true):false=l.all okX:=by
 have h3:okX l[j]=false:=by cases hh:okX l[j] <;> simp [hh] at h2 ⊢
 exact (List.all_eq_false.2 ⟨_,List.getElem_mem h,by simp [h3]⟩).symm
theorem ok_yes {l:List RF}{j:Nat}(h:j<l.length)(h1:(l.take j).all okX=true)(h2:((if okX l[j] then (0:Int) else 1) != 0)=false):(l.take (j+1)).all okX=true:=by
 rw [List.take_succ_eq_append_getElem h,List.all_append,h1]
 simp [ok1 h2]
theorem zez (xs:List RF)(hl:xs.length≤1099511627776):Cn Tryz.prog 52 [(SlA 37 [U32] (xs.map RFA)).va] (Bo (xs.all okX)):=by
 refine Cn.introW Tryz.func52 rfl zk nq (.cons (zke (fun A hA=>by obtain ⟨x,_,rfl⟩:=List.mem_map.1 hA; exact zj8 x)).va .nil) (zh9 _).va (fun B w0 a hB0 hst=>?_)
 have hst:St B w0 15 [(0,(SlO 37 [U32] (xs.map RFA) True).va)] [] a w0.w:=hst
 refine wp_seq ?_
 refine gl (sts:=[]) (news:=[]) (sp:=[.val 2 _]) [.g 0,.o 0] hst (zv rfl (za2 zbm) o0) (fun a w hst=>?_)
 have hst:St B w0 15 [(0,_),(2,_)] [] a w:=hst
 refine zt ?_
 refine wp_seq ?_
 refine gl (sts:=[]) (news:=[]) (sp:=[.val 5 _,.val 6 _,.val 7 _]) [.g 1,.o 0,.o 1,.o 2] hst (zv rfl (za1 (gq 0 rfl)) (zv rfl (zeb Tryz.underlying101 (zc9 (zas (vq 0 rfl)))) (zv rfl (za1 za3) o0))) (fun a w hst=>?_)
 have hst:St B w0 15 [(2,_),(5,_),(6,_),(7,_)] [] a w:=hst
 refine za0 ?_
 refine wp_block ?_
 have hst:=St.sel hst [1,2,3]
 refine wp_loop_ghost (fun n a w=>∃ j:Nat,(n+j=xs.length∧(xs.take j).all okX=true)∧St B w0 15 [(5,(SlO 37 [U32] (xs.map RFA) True).va),(6,In (xs.length:Nat)),(7,In (j:Nat))] [] a w) (xs.length) ?_ ?_
 ·exact ⟨0,⟨by omega,rfl⟩,by rw [List.length_map] at hst; exact hst⟩
 intro n a w hI
 obtain ⟨j,⟨hn,hno⟩,hst⟩:=hI
 refine wp_seq ?_
 refine gl (sts:=[]) (news:=[]) (sp:=[.val 8 _]) [.g 0,.g 1,.g 2,.o 0] hst (zv rfl (zc0 (gq 2 rfl) (gq 1 rfl)) o0) (fun a w hst=>?_)
 have hst:St B w0 15 [(5,_),(6,_),(7,_),(8,_)] [] a w:=hst
 refine zt ?_
 refine zab hst (zm 3 rfl) (fun hb0=>?_) (fun hb0=>?_)
 ·have hj:j<xs.length:=by simp at hb0; omega
  refine wp_skip ?_
  refine zt ?_
  refine wp_block ?_
  refine wp_seq ?_
  refine gl (sts:=[]) (news:=[⟨4,37,ptrH,some 2,_,some (3,_)⟩]) (sp:=[.val 9 _,.val 10 _,.alc 0,.sto 0]) [.g 0,.g 1,.g 2] hst (zv rfl (zdt zf7 (zed fun _=>rfl) (zc9 (zas (gq 0 rfl))) (gq 2 rfl) (zd2 hj)) (zv rfl (zat (vq 0 rfl) zaa) (oc (zaf rfl rfl rfl (Str.zero zaq)) (oc (za7 rfl rfl rfl (vq 1 rfl) zaa (Eq.trans (b:=4) rfl rfl)) o0)))) (fun a w hst=>?_)
  have hst:St B w0 15 [(5,_),(6,_),(7,_)] [⟨4,37,ptrH,_⟩] a w:=hst
  refine zt<|gl (sts:=[none]) (news:=[]) (sp:=[.val 11 _,.val 12 _,.val 13 _]) [.g 0,.g 1,.g 2,.o 2] hst (zv rfl (zac (lz0 0 rfl) zaa) (zv rfl (za5 (xs:=[.tmp 11]) (check_x _) (.cons (vq 0 rfl) .nil)) (zv rfl (zd5 (vq 1 rfl) za3) o0))) (fun a w hst=>?_)
  have hst:St B w0 15 [(5,_),(6,_),(7,_),(13,_)] [⟨4,37,ptrH,_⟩] a w:=hst
  refine za0 ?_
  refine zab hst (zm 3 rfl) (fun hb1=>?_) (fun hb1=>?_)
  ·refine wp_seq ?_
   refine gl (sts:=[none]) (news:=[]) (sp:=[.val 2 _]) [.g 0,.g 1,.g 2,.o 0] hst (zv rfl (za2 zbm) o0) (fun a w hst=>?_)
   have hst:St B w0 15 [(5,_),(6,_),(7,_),(2,_)] [⟨4,37,ptrH,_⟩] a w:=hst
   refine za0 ?_
   refine wp_ret ?_
   refine zbd ?_
   refine zak ?_
   refine zak ?_
   refine zbd ?_
   refine zak ?_
   refine zap ?_ (zaj rfl hst (zm 3 rfl))
   rw [← ok_no hj hb1]
  ·refine wp_skip ?_
   refine zan ?_
   refine za0 ?_
   refine gl (sts:=[none]) (news:=[]) (sp:=[.val 14 _,.val 7 _]) [.g 0,.g 1,.o 1] hst (zv rfl (zb9 (gq 2 rfl) za3 (zbu zo)) (zv rfl (za1 (vq 0 rfl)) o0)) (fun a w hst=>?_)
   have hst:St B w0 15 [(5,_),(6,_),(7,_)] [⟨4,37,ptrH,_⟩] a w:=hst
   refine za0 ?_
   have hst:=St.sel hst [0,1,2]
   have hst:=St.selL hst []
   exact ⟨n-1,by omega,j+1,⟨by omega,ok_yes hj hno hb1⟩,hst⟩
 ·obtain rfl:j=xs.length:=by simp at hb0; omega
  refine wp_exit ?_
  refine zai ?_
  refine zai ?_
  refine zb0 ?_
  refine zt<|gl (sts:=[]) (news:=[]) (sp:=[.val 2 _]) [.o 0] hst (zv rfl (za2 zbm) o0) (fun a w hst=>?_)
  have hst:St B w0 15 [(2,_)] [] a w:=hst
  refine za0 ?_
  refine wp_ret ?_
  refine zap ?_ (zaj rfl hst (zm 0 rfl))
  rw [List.take_length] at hno; rw [hno]
def ansF (q:Rat):RF × Int:=if longQ q then (rf0,4) else (rfOf q,0)
abbrev FrR (r:RF × Int):VA:=Tu [(RFA r.1).va,In r.2]
theorem rq_wk {k:Nat}{r:Rat}:Wk (Qs k r) (RFA (rfOf r)).va:=qaA.va
theorem tu2w {a b c d:VA}(h:Wk a c)(h':Wk b d):Wk (Tu [a,b]) (Tu [c,d]):=tu_wk (.cons h (.cons h' .nil))
theorem zig {q:Rat}:[q].any longQ=longQ q:=by simp
theorem ne0 {b:Bool}:((if b then (4:Int) else 0) != 0)=b:=by cases b <;> rfl
def FnA (A:VA)(h:∀ B v w,A.p B v w→v.oneCell'=true):As where
 n:=1
 ag:=false
 p B cs w:=∃ v,cs=[v]∧A.p B v w
 deps:=A.deps
 len:=by rintro B cs w ⟨v,rfl,_⟩; rfl
 one:=by rintro B cs w ⟨v,rfl,hp⟩ c hc; simp at hc; subst hc; exact h B c w hp
 ag1:=fun _=>rfl
 cg:=fun B _ w w' hg ⟨v,e,hp⟩=>⟨v,e,A.cg B v w w' hg hp⟩
 wr:=fun B _ w w' g c T fz h1 h2 h3 h4 ⟨v,e,hp⟩=>⟨v,e,A.wr B v w w' g c T fz h1 h2 h3 h4 hp⟩
theorem fna_wk {A:VA}{h:∀ B v w,A.p B v w→v.oneCell'=true}:Wk (FnA A h).va A:=fun _ v _ ⟨cs,⟨u,e,hp⟩,hv⟩=>by subst e; have:v=u:=hv; subst this; exact hp
theorem wk_fna {A:VA}{h:∀ B v w,A.p B v w→v.oneCell'=true}:Wk A (FnA A h).va:=fun _ v _ hp=>⟨[v],⟨v,rfl,hp⟩,rfl⟩
theorem zkt {P:Program}{D:List TypeId}{ι:Type}{pre:ι→List VA}{post:ι→VA}:∀ (B:Nat) (v:Value) (w:World),(FnV P D pre post).p B v w→v.oneCell'=true:=fun _ v _ h=>by
 obtain ⟨f,fs,cs,F,C,rfl,_⟩:=h
 rfl
theorem nd_va {l:List VA}{D:List TypeId}(h:(l.all fun A=>A.deps.all fun T=>D.contains T)=true):∀ A∈l,∀ T∈A.deps,T∈D:=fun A hA T hT=>by
 have:=List.all_eq_true.1 (List.all_eq_true.1 h A hA) T hT
 simpa using this
theorem hasl_wk {R:Rg}{B:Nat}{w0:Bs}{i:Nat}{xs:List Operand}{l l':List VA}(h:HasL R B w0 i xs l)(hw:All2 Wk l l'):HasL R B w0 i xs l':=by
 induction h generalizing l' with
 | nil=>cases hw; exact .nil
 | cons h1 _ ih=>cases hw with | cons h2 h3=>exact .cons (fun a w av=>h2 _ _ _ (h1 a w av)) (ih h3)
theorem has_wk' {R:Rg}{B:Nat}{w0:Bs}{i:Nat}{x:Operand}{A A':VA}(h:Has R B w0 i x A)(hw:Wk A A'):Has R B w0 i x A':=fun a w av=>hw _ _ _ (h a w av)
theorem zi3 {c:Nat}{x:Rat}(hc:c≤549755813888):Cn Tryz.prog 136 [Qs c x] (FrR (ansF x)):=by
 refine Cn.intro Tryz.func136 rfl zk nq (fun B w0 a hst=>?_)
 have hst:St B w0 14 [(0,Qs c x)] [] a w0.w:=hst
 refine wp_seq ?_
 refine gl (sts:=[]) (news:=[⟨1,37,ptrH,some 0,_,none⟩,⟨2,37,ptrH,some 1,_,none⟩]) (sp:=[.alc 0,.alc 1,.val 3 _]) [.o 2] hst (oc (zal rfl rfl rfl (gq 0 rfl)) (oc (zaf rfl rfl rfl (Str.zero zaq)) (zv rfl (za2 za3) o0))) (fun a w hst=>?_)
 have hst:St B w0 14 [(3,_)] [⟨1,37,ptrH,_⟩,⟨2,37,ptrH,_⟩] a w:=hst
 refine zt ?_
 refine wp_seq ?_
 refine gl (sts:=[none,none]) (news:=[]) (sp:=[.val 5 _,.val 6 _,.val 7 _,.val 4 _]) [.g 0,.o 3] hst (zv rfl (zac (lz0 0 rfl) zaa) (zv rfl (zcl (D:=[U32]) (l:=[_]) (xs:=[.tmp 5]) (zf5 zk) zf7 zk (n_ok zk) nq nq nq (.cons (vq 0 rfl) .nil) rfl rfl) (zv rfl (za5 (xs:=[.tmp 6]) ((answer_q [x] (.cons ⟨_,rfl⟩ .nil) nq)) (.cons (vq 1 rfl) .nil)) (zv rfl (za2 (vq 2 rfl)) o0)))) (fun a w hst=>?_)
 have hst:St B w0 14 [(3,_),(4,_)] [⟨1,37,ptrH,_⟩,⟨2,37,ptrH,_⟩] a w:=hst
 refine zt<|gl (sts:=[none,none]) (news:=[]) (sp:=[.val 8 _,.val 9 _]) [.g 0,.g 1,.o 1] hst (zv rfl (za1 (gq 1 rfl)) (zv rfl (zd5 (vq 0 rfl) za3) o0)) (fun a w hst=>?_)
 have hst:St B w0 14 [(3,_),(4,_),(9,_)] [⟨1,37,ptrH,_⟩,⟨2,37,ptrH,_⟩] a w:=hst
 refine za0 ?_
 refine zab hst (zm 2 rfl) (fun hb0=>?_) (fun hb0=>?_)
 ·rw [zig,ne0] at hb0
  refine wp_seq ?_
  refine gl (sts:=[none,some (2,_)]) (news:=[]) (sp:=[.val 10 _,.val 11 _,.sto 1,.val 3 _]) [.o 3] hst (zv rfl (zb7 (xs:=[]) (qs:=[]) zaq .nil) (zv rfl (za1 (gq 1 rfl)) (oc (za7 rfl rfl rfl (vq 0 rfl) zaa (Eq.trans (b:=4) rfl rfl)) (zv rfl (za2 (vq 1 rfl)) o0)))) (fun a w hst=>?_)
  have hst:St B w0 14 [(3,_)] [⟨1,37,ptrH,_⟩,⟨2,37,ptrH,_⟩] a w:=hst
  refine za0 ?_
  refine wp_ret ?_
  refine zak ?_
  refine zah ?_ (zaz (rs:=[.cell 2 37,.tmp 3]) rfl hst (.cell (zm 1 rfl) zaa (.tmp (zm 0 rfl) .nil)) zd)
  rw [ansF,if_pos hb0]; exact tu2w zb1 (zd4 (by rw [zig,hb0]; rfl))
 ·rw [zig,ne0] at hb0
  refine wp_skip ?_
  refine zt<|gl (sts:=[none,some (2,_)]) (news:=[]) (sp:=[.val 12 _,.val 13 _,.sto 1,.val 3 _]) [.o 3] hst (zv rfl (zac (lz0 0 rfl) zaa) (zv rfl (za5 (xs:=[.tmp 12]) (copy_q zo) (.cons (vq 0 rfl) .nil)) (oc (za7 rfl rfl rfl (vq 1 rfl) zaa (Eq.trans (b:=4) rfl rfl)) (zv rfl (za2 za3) o0)))) (fun a w hst=>?_)
  have hst:St B w0 14 [(3,_)] [⟨1,37,ptrH,_⟩,⟨2,37,ptrH,_⟩] a w:=hst
  refine za0 ?_
  refine wp_ret ?_
  refine zah ?_ (zaz (rs:=[.cell 2 37,.tmp 3]) rfl hst (.cell (zm 1 rfl) zaa (.tmp (zm 0 rfl) .nil)) zd)
  rw [ansF,if_neg (by rw [hb0]; decide)]; exact tu2w rq_wk zb1
def opA (k:Nat):Option Rat→As
 | some z=>QA k z
 | none=>RFA rf0
abbrev opV (k:Nat)(o:Option Rat):VA:=Tu [(opA k o).va,Bo o.isSome]
abbrev FnO (k:Nat)(op:Rat→Rat→Option Rat):VA:=FnV Tryz.prog [86] (fun i:Rat × Rat=>[Qs 2048 i.1,Qs 2048 i.2]) (fun i=>opV k (op i.1 i.2))
abbrev FnT (k:Nat)(op:Rat→Rat→Rat):VA:=FnV Tryz.prog [] (fun i:Rat × Rat=>[Qs 2048 i.1,Qs 2048 i.2]) (fun i=>Qs k (op i.1 i.2))
def doF (op:Rat→Rat→Option Rat)(x y:RF):RF × Int:=if okX x&&okX y then (match op (toQ x) (toQ y) with | some z=>ansF z | none=>(rf0,3)) else (rf0,1)
theorem zjb {x y:RF}:[x,y].all okX=(okX x&&okX y):=by simp
theorem do_no {k:Nat}{op:Rat→Rat→Option Rat}{x y:RF}(h:(okX x&&okX y)=false):Cn Tryz.prog 100 [FnO k op,(RFA x).va,(RFA y).va] (FrR (rf0,1)):=by
 refine Cn.intro Tryz.func100 rfl zk nq (fun B w0 a hst=>?_)
 have hst:St B w0 30 [(0,FnO k op),(1,(RFA x).va),(2,(RFA y).va)] [] a w0.w:=hst
 refine wp_seq ?_
 refine gl (sts:=[]) (news:=[⟨4,37,ptrH,some 0,_,none⟩,⟨5,37,ptrH,some 1,_,none⟩,⟨6,37,ptrH,some 2,_,none⟩]) (sp:=[.alc 0,.alc 1,.alc 2,.val 7 _]) [.g 0,.o 3] hst (oc (zal rfl rfl rfl (gq 1 rfl)) (oc (zal rfl rfl rfl (gq 2 rfl)) (oc (zaf rfl rfl rfl (Str.zero zaq)) (zv rfl (za2 za3) o0)))) (fun a w hst=>?_)
 have hst:St B w0 30 [(0,_),(7,_)] [⟨4,37,ptrH,_⟩,⟨5,37,ptrH,_⟩,⟨6,37,ptrH,_⟩] a w:=hst
 refine zt ?_
 refine wp_seq ?_
 refine gl (sts:=[none,none,none]) (news:=[]) (sp:=[.val 10 _,.val 11 _,.val 12 _,.val 13 _,.val 14 _]) [.g 0,.g 1,.o 4] hst (zv rfl (zac (lz0 0 rfl) zaa) (zv rfl (zac (lz0 1 rfl) zaa) (zv rfl (zcl (D:=[U32]) (l:=[_,_]) (xs:=[.tmp 10,.tmp 11]) (zf5 zk) zf7 zk (n_ok zk) nq nq nq (.cons (vq 0 rfl) (.cons (vq 1 rfl) .nil)) rfl rfl) (zv rfl (za5 (xs:=[.tmp 12]) (zez [x,y] nq) (.cons (vq 2 rfl) .nil)) (zv rfl (zdp (vq 3 rfl)) o0))))) (fun a w hst=>?_)
 have hst:St B w0 30 [(0,_),(7,_),(14,_)] [⟨4,37,ptrH,_⟩,⟨5,37,ptrH,_⟩,⟨6,37,ptrH,_⟩] a w:=hst
 refine za0 ?_
 refine zab hst (zm 2 rfl) (fun hb0=>?_) (fun hb0=>?_)
 ·refine wp_seq ?_
  refine gl (sts:=[none,none,some (1,_)]) (news:=[]) (sp:=[.val 15 _,.sto 2,.val 7 _]) [.g 0,.o 2] hst (zv rfl (zb7 (xs:=[]) (qs:=[]) zaq .nil) (oc (za7 rfl rfl rfl (vq 0 rfl) zaa (Eq.trans (b:=4) rfl rfl)) (zv rfl (za2 za3) o0))) (fun a w hst=>?_)
  have hst:St B w0 30 [(0,_),(7,_)] [⟨4,37,ptrH,_⟩,⟨5,37,ptrH,_⟩,⟨6,37,ptrH,_⟩] a w:=hst
  refine za0 ?_
  refine wp_ret ?_
  refine zak ?_
  refine zah ?_ (zaz (rs:=[.cell 6 37,.tmp 7]) rfl hst (.cell (zm 2 rfl) zaa (.tmp (zm 1 rfl) .nil)) zd)
  exact zb1
 ·exact absurd hb0 (by rw [zjb,h]; decide)
theorem do_none {k:Nat}{op:Rat→Rat→Option Rat}{r s:Rat}(hr:lz r.num≤2048∧lz (r.den:Int)≤2048)(hs:lz s.num≤2048∧lz (s.den:Int)≤2048)(ho:op r s=none):Cn Tryz.prog 100 [FnO k op,(RFA (rfOf r)).va,(RFA (rfOf s)).va] (FrR (rf0,3)):=by
 have hwk:Wk (opV k (op (r,s).1 (r,s).2)) (opV k none):=by rw [ho]; exact zb1
 refine Cn.intro Tryz.func100 rfl zk nq (fun B w0 a hst=>?_)
 have hst:St B w0 30 [(0,FnO k op),(1,(RFA (rfOf r)).va),(2,(RFA (rfOf s)).va)] [] a w0.w:=hst
 refine wp_seq ?_
 refine gl (sts:=[]) (news:=[⟨4,37,ptrH,some 0,_,none⟩,⟨5,37,ptrH,some 1,_,none⟩,⟨6,37,ptrH,some 2,_,none⟩]) (sp:=[.alc 0,.alc 1,.alc 2,.val 7 _]) [.g 0,.o 3] hst (oc (zal rfl rfl rfl (gq 1 rfl)) (oc (zal rfl rfl rfl (gq 2 rfl)) (oc (zaf rfl rfl rfl (Str.zero zaq)) (zv rfl (za2 za3) o0)))) (fun a w hst=>?_)
 have hst:St B w0 30 [(0,_),(7,_)] [⟨4,37,ptrH,_⟩,⟨5,37,ptrH,_⟩,⟨6,37,ptrH,_⟩] a w:=hst
 refine zt ?_
 refine wp_seq ?_
 refine gl (sts:=[none,none,none]) (news:=[]) (sp:=[.val 10 _,.val 11 _,.val 12 _,.val 13 _,.val 14 _]) [.g 0,.g 1,.o 4] hst (zv rfl (zac (lz0 0 rfl) zaa) (zv rfl (zac (lz0 1 rfl) zaa) (zv rfl (zcl (D:=[U32]) (l:=[_,_]) (xs:=[.tmp 10,.tmp 11]) (zf5 zk) zf7 zk (n_ok zk) nq nq nq (.cons (vq 0 rfl) (.cons (vq 1 rfl) .nil)) rfl rfl) (zv rfl (za5 (xs:=[.tmp 12]) (zez [rfOf r,rfOf s] nq) (.cons (vq 2 rfl) .nil)) (zv rfl (zdp (vq 3 rfl)) o0))))) (fun a w hst=>?_)
 have hst:St B w0 30 [(0,_),(7,_),(14,_)] [⟨4,37,ptrH,_⟩,⟨5,37,ptrH,_⟩,⟨6,37,ptrH,_⟩] a w:=hst
 refine za0 ?_
 refine zab hst (zm 2 rfl) (fun hb0=>?_) (fun hb0=>?_)
 ·exact absurd hb0 (by rw [zjb,zh0,zh0,zfl hr (Nat.le_refl _),zfl hs (Nat.le_refl _)]; decide)
 ·refine wp_skip ?_
  refine zt<|gl (sts:=[none,none,none]) (news:=[⟨8,37,ptrH,some 7,_,some (8,_)⟩]) (sp:=[.val 17 _,.val 18 _,.val 19 _,.val 20 _,.val 16 _,.val 21 _,.val 22 _,.alc 3,.sto 3,.val 9 _]) [.g 1,.o 9] hst (zv rfl (za1 (gq 0 rfl)) (zv rfl (zac (lz0 0 rfl) zaa) (zv rfl (zac (lz0 1 rfl) zaa) (zv rfl ((zid (xs:=[.tmp 18,.tmp 19]) (r,s) (vq 0 rfl) (hasl_wk (.cons (vq 1 rfl) (.cons (vq 2 rfl) .nil)) (.cons (zgd hr.1 hr.2).va (.cons (zgd hs.1 hs.2).va .nil)))).wk hwk) (zv rfl (za1 (vq 3 rfl)) (zv rfl (zd8 (vq 4 rfl)) (zv rfl (zd7 (vq 4 rfl)) (oc (zaf rfl rfl rfl (Str.zero zaq)) (oc (za7 rfl rfl rfl (vq 5 rfl) zaa (Eq.trans (b:=4) rfl rfl)) (zv rfl (za2 (vq 6 rfl)) o0)))))))))) (fun a w hst=>?_)
  have hst:St B w0 30 [(7,_),(9,_)] [⟨4,37,ptrH,_⟩,⟨5,37,ptrH,_⟩,⟨6,37,ptrH,_⟩,⟨8,37,ptrH,_⟩] a w:=hst
  refine zt ?_
  refine wp_seq ?_
  refine gl (sts:=[none,none,none,none]) (news:=[]) (sp:=[.val 23 _,.val 24 _]) [.g 0,.o 1] hst (zv rfl (za1 (gq 1 rfl)) (zv rfl (zdp (vq 0 rfl)) o0)) (fun a w hst=>?_)
  have hst:St B w0 30 [(7,_),(24,_)] [⟨4,37,ptrH,_⟩,⟨5,37,ptrH,_⟩,⟨6,37,ptrH,_⟩,⟨8,37,ptrH,_⟩] a w:=hst
  refine za0 ?_
  refine zab hst (zm 1 rfl) (fun hb1=>?_) (fun hb1=>?_)
  ·refine wp_seq ?_
   refine gl (sts:=[none,none,some (1,_),none]) (news:=[]) (sp:=[.val 25 _,.sto 2,.val 7 _]) [.o 2] hst (zv rfl (zb7 (xs:=[]) (qs:=[]) zaq .nil) (oc (za7 rfl rfl rfl (vq 0 rfl) zaa (Eq.trans (b:=4) rfl rfl)) (zv rfl (za2 za3) o0))) (fun a w hst=>?_)
   have hst:St B w0 30 [(7,_)] [⟨4,37,ptrH,_⟩,⟨5,37,ptrH,_⟩,⟨6,37,ptrH,_⟩,⟨8,37,ptrH,_⟩] a w:=hst
   refine za0 ?_
   refine wp_ret ?_
   refine zak ?_
   refine zah ?_ (zaz (rs:=[.cell 6 37,.tmp 7]) rfl hst (.cell (zm 2 rfl) zaa (.tmp (zm 0 rfl) .nil)) zd)
   exact zb1
  ·exact absurd hb1 zd
theorem do_some {k:Nat}{op:Rat→Rat→Option Rat}{r s:Rat}{z:Rat}(hk:k≤549755813888)(hr:lz r.num≤2048∧lz (r.den:Int)≤2048)(hs:lz s.num≤2048∧lz (s.den:Int)≤2048)(ho:op r s=(some z)):Cn Tryz.prog 100 [FnO k op,(RFA (rfOf r)).va,(RFA (rfOf s)).va] (FrR (ansF z)):=by
 have hwk:Wk (opV k (op (r,s).1 (r,s).2)) (opV k (some z)):=by rw [ho]; exact zb1
 refine Cn.intro Tryz.func100 rfl zk nq (fun B w0 a hst=>?_)
 have hst:St B w0 30 [(0,FnO k op),(1,(RFA (rfOf r)).va),(2,(RFA (rfOf s)).va)] [] a w0.w:=hst
 refine wp_seq ?_
 refine gl (sts:=[]) (news:=[⟨4,37,ptrH,some 0,_,none⟩,⟨5,37,ptrH,some 1,_,none⟩,⟨6,37,ptrH,some 2,_,none⟩]) (sp:=[.alc 0,.alc 1,.alc 2,.val 7 _]) [.g 0,.o 3] hst (oc (zal rfl rfl rfl (gq 1 rfl)) (oc (zal rfl rfl rfl (gq 2 rfl)) (oc (zaf rfl rfl rfl (Str.zero zaq)) (zv rfl (za2 za3) o0)))) (fun a w hst=>?_)
 have hst:St B w0 30 [(0,_),(7,_)] [⟨4,37,ptrH,_⟩,⟨5,37,ptrH,_⟩,⟨6,37,ptrH,_⟩] a w:=hst
 refine zt ?_
 refine wp_seq ?_
 refine gl (sts:=[none,none,none]) (news:=[]) (sp:=[.val 10 _,.val 11 _,.val 12 _,.val 13 _,.val 14 _]) [.g 0,.g 1,.o 4] hst (zv rfl (zac (lz0 0 rfl) zaa) (zv rfl (zac (lz0 1 rfl) zaa) (zv rfl (zcl (D:=[U32]) (l:=[_,_]) (xs:=[.tmp 10,.tmp 11]) (zf5 zk) zf7 zk (n_ok zk) nq nq nq (.cons (vq 0 rfl) (.cons (vq 1 rfl) .nil)) rfl rfl) (zv rfl (za5 (xs:=[.tmp 12]) (zez [rfOf r,rfOf s] nq) (.cons (vq 2 rfl) .nil)) (zv rfl (zdp (vq 3 rfl)) o0))))) (fun a w hst=>?_)
 have hst:St B w0 30 [(0,_),(7,_),(14,_)] [⟨4,37,ptrH,_⟩,⟨5,37,ptrH,_⟩,⟨6,37,ptrH,_⟩] a w:=hst
 refine za0 ?_
 refine zab hst (zm 2 rfl) (fun hb0=>?_) (fun hb0=>?_)
 ·exact absurd hb0 (by rw [zjb,zh0,zh0,zfl hr (Nat.le_refl _),zfl hs (Nat.le_refl _)]; decide)
 ·refine wp_skip ?_
  refine zt<|gl (sts:=[none,none,none]) (news:=[⟨8,37,ptrH,some 7,_,some (8,QA k z)⟩]) (sp:=[.val 17 _,.val 18 _,.val 19 _,.val 20 _,.val 16 _,.val 21 _,.val 22 _,.alc 3,.sto 3,.val 9 _]) [.g 1,.o 9] hst (zv rfl (za1 (gq 0 rfl)) (zv rfl (zac (lz0 0 rfl) zaa) (zv rfl (zac (lz0 1 rfl) zaa) (zv rfl ((zid (xs:=[.tmp 18,.tmp 19]) (r,s) (vq 0 rfl) (hasl_wk (.cons (vq 1 rfl) (.cons (vq 2 rfl) .nil)) (.cons (zgd hr.1 hr.2).va (.cons (zgd hs.1 hs.2).va .nil)))).wk hwk) (zv rfl (za1 (vq 3 rfl)) (zv rfl (zd8 (vq 4 rfl)) (zv rfl (zd7 (vq 4 rfl)) (oc (zaf rfl rfl rfl (Str.zero zaq)) (oc (za7 rfl rfl rfl (vq 5 rfl) zaa (Eq.trans (b:=4) rfl rfl)) (zv rfl (za2 (vq 6 rfl)) o0)))))))))) (fun a w hst=>?_)
  have hst:St B w0 30 [(7,_),(9,_)] [⟨4,37,ptrH,_⟩,⟨5,37,ptrH,_⟩,⟨6,37,ptrH,_⟩,⟨8,37,ptrH,_⟩] a w:=hst
  refine zt ?_
  refine wp_seq ?_
  refine gl (sts:=[none,none,none,none]) (news:=[]) (sp:=[.val 23 _,.val 24 _]) [.g 0,.o 1] hst (zv rfl (za1 (gq 1 rfl)) (zv rfl (zdp (vq 0 rfl)) o0)) (fun a w hst=>?_)
  have hst:St B w0 30 [(7,_),(24,_)] [⟨4,37,ptrH,_⟩,⟨5,37,ptrH,_⟩,⟨6,37,ptrH,_⟩,⟨8,37,ptrH,_⟩] a w:=hst
  refine za0 ?_
  refine zab hst (zm 1 rfl) (fun hb1=>?_) (fun hb1=>?_)
  ·exact absurd hb1 (by simp)
  ·refine wp_skip ?_
   refine zt<|gl (sts:=[none,none,some (4,_),none]) (news:=[]) (sp:=[.val 26 _,.val 27 _,.val 28 _,.val 29 _,.sto 2,.val 7 _]) [.o 5] hst (zv rfl (zac (lz0 3 rfl) zaa) (zv rfl (za5 (xs:=[.tmp 26]) (zi3 hk) (.cons (vq 0 rfl) .nil)) (zv rfl (zd8 (vq 1 rfl)) (zv rfl (zd7 (vq 1 rfl)) (oc (za7 rfl rfl rfl (vq 2 rfl) zaa (Eq.trans (b:=4) rfl rfl)) (zv rfl (za2 (vq 3 rfl)) o0)))))) (fun a w hst=>?_)
   have hst:St B w0 30 [(7,_)] [⟨4,37,ptrH,_⟩,⟨5,37,ptrH,_⟩,⟨6,37,ptrH,_⟩,⟨8,37,ptrH,_⟩] a w:=hst
   refine za0 ?_
   refine wp_ret ?_
   refine zah ?_ (zaz (rs:=[.cell 6 37,.tmp 7]) rfl hst (.cell (zm 2 rfl) zaa (.tmp (zm 0 rfl) .nil)) zd)
   exact zb1
theorem do_c {k:Nat}{op:Rat→Rat→Option Rat}(hk:k≤549755813888)(x y:RF):Cn Tryz.prog 100 [FnO k op,(RFA x).va,(RFA y).va] (FrR (doF op x y)):=by
 unfold doF
 cases h:okX x&&okX y with
 | false=>exact do_no h
 | true =>
  rw [if_pos rfl]
  rw [Bool.and_eq_true] at h
  obtain ⟨r,rfl,hr⟩:=okX_r h.1
  obtain ⟨s,rfl,hs⟩:=okX_r h.2
  rw [zcy,zcy]
  cases ho:op r s with
  | none=>exact do_none hr hs ho
  | some z=>exact do_some hk hr hs ho
theorem always1_c {k:Nat}{op:Rat→Rat→Rat}(i:Rat × Rat):Cn Tryz.prog 134 [Qs 2048 i.1,Qs 2048 i.2,(ElP 86 (FnA (FnT k op) zkt))] (opV k (some (op i.1 i.2))):=by
 refine Cn.intro Tryz.func134 rfl zk nq (fun B w0 a hst=>?_)
 have hst:St B w0 11 [(0,Qs 2048 i.1),(1,Qs 2048 i.2),(2,(ElP 86 (FnA (FnT k op) zkt)))] [] a w0.w:=hst
 refine wp_seq ?_
 refine gl (sts:=[]) (news:=[⟨3,37,ptrH,some 0,_,none⟩,⟨4,37,ptrH,some 1,_,none⟩,⟨5,37,ptrH,some 2,_,none⟩]) (sp:=[.alc 0,.alc 1,.alc 2,.val 6 _]) [.g 2,.o 3] hst (oc (zal rfl rfl rfl (gq 0 rfl)) (oc (zal rfl rfl rfl (gq 1 rfl)) (oc (zaf rfl rfl rfl (Str.zero zaq)) (zv rfl (za2 zbm) o0)))) (fun a w hst=>?_)
 have hst:St B w0 11 [(2,_),(6,_)] [⟨3,37,ptrH,_⟩,⟨4,37,ptrH,_⟩,⟨5,37,ptrH,_⟩] a w:=hst
 refine zt<|gl (sts:=[none,none,some (4,QA k (op i.1 i.2))]) (news:=[]) (sp:=[.val 7 _,.val 8 _,.val 9 _,.val 10 _,.sto 2,.val 6 _]) [.o 5] hst (zv rfl ((zat (gq 0 rfl) ty_86).wk fna_wk) (zv rfl (zac (lz0 0 rfl) zaa) (zv rfl (zac (lz0 1 rfl) zaa) (zv rfl (zid (xs:=[.tmp 8,.tmp 9]) i (vq 0 rfl) (.cons (vq 1 rfl) (.cons (vq 2 rfl) .nil))) (oc (za7 rfl rfl rfl (vq 3 rfl) zaa (Eq.trans (b:=4) rfl rfl)) (zv rfl (za2 zbm) o0)))))) (fun a w hst=>?_)
 have hst:St B w0 11 [(6,_)] [⟨3,37,ptrH,_⟩,⟨4,37,ptrH,_⟩,⟨5,37,ptrH,_⟩] a w:=hst
 refine za0 ?_
 refine wp_ret ?_
 refine zah ?_ (zaz (rs:=[.cell 5 37,.tmp 6]) rfl hst (.cell (zm 2 rfl) zaa (.tmp (zm 0 rfl) .nil)) zd)
 exact zb1
theorem ziz {k:Nat}{op:Rat→Rat→Rat}:Cn Tryz.prog 98 [FnT k op] (FnO k (fun x y=>some (op x y))):=by
 refine Cn.intro Tryz.func98 rfl zk nq (fun B w0 a hst=>?_)
 have hst:St B w0 4 [(0,FnT k op)] [] a w0.w:=hst
 refine wp_seq ?_
 refine gl (sts:=[]) (news:=[⟨1,86,ptrH,some 0,_,none⟩]) (sp:=[.alc 0,.val 2 _]) [.o 1] hst (oc (zal rfl rfl rfl (has_wk' (gq 0 rfl) (wk_fna (h:=zkt)))) (zv rfl (za2 zby) o0)) (fun a w hst=>?_)
 have hst:St B w0 4 [(2,_)] [⟨1,86,ptrH,_⟩] a w:=hst
 refine zt<|gl (sts:=[none]) (news:=[]) (sp:=[.val 3 _,.val 2 _]) [.o 1] hst (zv rfl (r_mkfunc (xs:=[.tmp 1]) (D:=[86]) (pre:=fun i:Rat × Rat=>[Qs 2048 i.1,Qs 2048 i.2]) (post:=fun i=>opV k (some (op i.1 i.2))) (fun i=>always1_c i) (nd_va rfl) (.cons (zh7 (lz0 0 rfl)) .nil)) (zv rfl (za2 (vq 0 rfl)) o0)) (fun a w hst=>?_)
 have hst:St B w0 4 [(2,_)] [⟨1,86,ptrH,_⟩] a w:=hst
 refine za0 ?_
 refine wp_ret ?_
 refine zah ?_ (zaj rfl hst (zm 0 rfl))
 exact zb1
end Go.Proofs.YtlpppkkggljdcaaGreat
namespace Go.Proofs.YtlpppkkggljdcaaGreat
open Go Go.RowKit
def addF (x y:RF):RF × Int:=doF (fun a b=>some (a+b)) x y
theorem add_fn (i:Rat × Rat):Cn Tryz.prog 60 [Qs 2048 i.1,Qs 2048 i.2] (Qs 4097 (i.1+i.2)):=plus_q zd
theorem addF_c (x y:RF):Cn Tryz.prog 78 [(RFA x).va,(RFA y).va] (FrR (addF x y)):=by
 refine Cn.intro Tryz.func78 rfl zk nq (fun B w0 a hst=>?_)
 have hst:St B w0 12 [(0,(RFA x).va),(1,(RFA y).va)] [] a w0.w:=hst
 refine wp_seq ?_
 refine gl (sts:=[]) (news:=[⟨2,37,ptrH,some 0,_,none⟩,⟨3,37,ptrH,some 1,_,none⟩,⟨4,37,ptrH,some 2,_,none⟩]) (sp:=[.alc 0,.alc 1,.alc 2,.val 5 _]) [.o 3] hst (oc (zal rfl rfl rfl (gq 0 rfl)) (oc (zal rfl rfl rfl (gq 1 rfl)) (oc (zaf rfl rfl rfl (Str.zero zaq)) (zv rfl (za2 za3) o0)))) (fun a w hst=>?_)
 have hst:St B w0 12 [(5,_)] [⟨2,37,ptrH,_⟩,⟨3,37,ptrH,_⟩,⟨4,37,ptrH,_⟩] a w:=hst
 refine zt<|zav (anc:=[[],[],[],[0,1,2],[0,1,2,3],[0,1,2,3],[0,1,2,3,4,5],[0,1,2,3,4,5,6]]) (sts:=[none,none,some (6,_)]) (news:=[]) (sp:=[.val 6 _,.val 7 _,.val 8 _,.val 9 _,.val 10 _,.val 11 _,.sto 2,.val 5 _]) [.o 7] za6 hst (zv rfl (za5 (xs:=[.func 60]) (ziz (k:=4097) (op:=fun a b=>a+b)) (.cons (zgg add_fn) .nil)) (zv rfl (zac (lz0 0 rfl) zaa) (zv rfl (zac (lz0 1 rfl) zaa) (zv rfl (za5 (xs:=[.tmp 6,.tmp 7,.tmp 8]) (do_c zd x y) (.cons (vq 0 rfl) (.cons (vq 1 rfl) (.cons (vq 2 rfl) .nil)))) (zv rfl (zd8 (vq 3 rfl)) (zv rfl (zd7 (vq 3 rfl)) (oc (za7 rfl rfl rfl (vq 4 rfl) zaa (Eq.trans (b:=4) rfl rfl)) (zv rfl (za2 (vq 5 rfl)) o0)))))))) zk zk zk zk (fun a w hst=>?_)
 have hst:St B w0 12 [(5,_)] [⟨2,37,ptrH,_⟩,⟨3,37,ptrH,_⟩,⟨4,37,ptrH,_⟩] a w:=hst
 refine za0 ?_
 refine wp_ret ?_
 refine zah ?_ (zaz (rs:=[.cell 4 37,.tmp 5]) rfl hst (.cell (zm 2 rfl) zaa (.tmp (zm 0 rfl) .nil)) zd)
 exact zb1
def subF (x y:RF):RF × Int:=doF (fun a b=>some (a-b)) x y
theorem sub_fn (i:Rat × Rat):Cn Tryz.prog 99 [Qs 2048 i.1,Qs 2048 i.2] (Qs 4097 (i.1-i.2)):=minus_q zd
theorem subF_c (x y:RF):Cn Tryz.prog 62 [(RFA x).va,(RFA y).va] (FrR (subF x y)):=by
 refine Cn.intro Tryz.func62 rfl zk nq (fun B w0 a hst=>?_)
 have hst:St B w0 12 [(0,(RFA x).va),(1,(RFA y).va)] [] a w0.w:=hst
 refine wp_seq ?_
 refine gl (sts:=[]) (news:=[⟨2,37,ptrH,some 0,_,none⟩,⟨3,37,ptrH,some 1,_,none⟩,⟨4,37,ptrH,some 2,_,none⟩]) (sp:=[.alc 0,.alc 1,.alc 2,.val 5 _]) [.o 3] hst (oc (zal rfl rfl rfl (gq 0 rfl)) (oc (zal rfl rfl rfl (gq 1 rfl)) (oc (zaf rfl rfl rfl (Str.zero zaq)) (zv rfl (za2 za3) o0)))) (fun a w hst=>?_)
 have hst:St B w0 12 [(5,_)] [⟨2,37,ptrH,_⟩,⟨3,37,ptrH,_⟩,⟨4,37,ptrH,_⟩] a w:=hst
 refine zt<|zav (anc:=[[],[],[],[0,1,2],[0,1,2,3],[0,1,2,3],[0,1,2,3,4,5],[0,1,2,3,4,5,6]]) (sts:=[none,none,some (6,_)]) (news:=[]) (sp:=[.val 6 _,.val 7 _,.val 8 _,.val 9 _,.val 10 _,.val 11 _,.sto 2,.val 5 _]) [.o 7] za6 hst (zv rfl (za5 (xs:=[.func 99]) (ziz (k:=4097) (op:=fun a b=>a-b)) (.cons (zgg sub_fn) .nil)) (zv rfl (zac (lz0 0 rfl) zaa) (zv rfl (zac (lz0 1 rfl) zaa) (zv rfl (za5 (xs:=[.tmp 6,.tmp 7,.tmp 8]) (do_c zd x y) (.cons (vq 0 rfl) (.cons (vq 1 rfl) (.cons (vq 2 rfl) .nil)))) (zv rfl (zd8 (vq 3 rfl)) (zv rfl (zd7 (vq 3 rfl)) (oc (za7 rfl rfl rfl (vq 4 rfl) zaa (Eq.trans (b:=4) rfl rfl)) (zv rfl (za2 (vq 5 rfl)) o0)))))))) zk zk zk zk (fun a w hst=>?_)
 have hst:St B w0 12 [(5,_)] [⟨2,37,ptrH,_⟩,⟨3,37,ptrH,_⟩,⟨4,37,ptrH,_⟩] a w:=hst
 refine za0 ?_
 refine wp_ret ?_
 refine zah ?_ (zaz (rs:=[.cell 4 37,.tmp 5]) rfl hst (.cell (zm 2 rfl) zaa (.tmp (zm 0 rfl) .nil)) zd)
 exact zb1
def mulF (x y:RF):RF × Int:=doF (fun a b=>some (a*b)) x y
theorem mul_fn (i:Rat × Rat):Cn Tryz.prog 51 [Qs 2048 i.1,Qs 2048 i.2] (Qs 4096 (i.1*i.2)):=zgr zd
theorem mul_c (x y:RF):Cn Tryz.prog 77 [(RFA x).va,(RFA y).va] (FrR (mulF x y)):=by
 refine Cn.intro Tryz.func77 rfl zk nq (fun B w0 a hst=>?_)
 have hst:St B w0 12 [(0,(RFA x).va),(1,(RFA y).va)] [] a w0.w:=hst
 refine wp_seq ?_
 refine gl (sts:=[]) (news:=[⟨2,37,ptrH,some 0,_,none⟩,⟨3,37,ptrH,some 1,_,none⟩,⟨4,37,ptrH,some 2,_,none⟩]) (sp:=[.alc 0,.alc 1,.alc 2,.val 5 _]) [.o 3] hst (oc (zal rfl rfl rfl (gq 0 rfl)) (oc (zal rfl rfl rfl (gq 1 rfl)) (oc (zaf rfl rfl rfl (Str.zero zaq)) (zv rfl (za2 za3) o0)))) (fun a w hst=>?_)
 have hst:St B w0 12 [(5,_)] [⟨2,37,ptrH,_⟩,⟨3,37,ptrH,_⟩,⟨4,37,ptrH,_⟩] a w:=hst
 refine zt<|zav (anc:=[[],[],[],[0,1,2],[0,1,2,3],[0,1,2,3],[0,1,2,3,4,5],[0,1,2,3,4,5,6]]) (sts:=[none,none,some (6,_)]) (news:=[]) (sp:=[.val 6 _,.val 7 _,.val 8 _,.val 9 _,.val 10 _,.val 11 _,.sto 2,.val 5 _]) [.o 7] za6 hst (zv rfl (za5 (xs:=[.func 51]) (ziz (k:=4096) (op:=fun a b=>a*b)) (.cons (zgg mul_fn) .nil)) (zv rfl (zac (lz0 0 rfl) zaa) (zv rfl (zac (lz0 1 rfl) zaa) (zv rfl (za5 (xs:=[.tmp 6,.tmp 7,.tmp 8]) (do_c zd x y) (.cons (vq 0 rfl) (.cons (vq 1 rfl) (.cons (vq 2 rfl) .nil)))) (zv rfl (zd8 (vq 3 rfl)) (zv rfl (zd7 (vq 3 rfl)) (oc (za7 rfl rfl rfl (vq 4 rfl) zaa (Eq.trans (b:=4) rfl rfl)) (zv rfl (za2 (vq 5 rfl)) o0)))))))) zk zk zk zk (fun a w hst=>?_)
 have hst:St B w0 12 [(5,_)] [⟨2,37,ptrH,_⟩,⟨3,37,ptrH,_⟩,⟨4,37,ptrH,_⟩] a w:=hst
 refine za0 ?_
 refine wp_ret ?_
 refine zah ?_ (zaz (rs:=[.cell 4 37,.tmp 5]) rfl hst (.cell (zm 2 rfl) zaa (.tmp (zm 0 rfl) .nil)) zd)
 exact zb1
def cmF (x y:RF):Int:=if okX x&&okX y then cmQ (toQ x) (toQ y) else 0
theorem ex_checkI : ∃ fn, Tryz.prog.funcs[131]? = some fn ∧ (fn.name == "runtime.NumGoroutine") = false ∧ fn.body.isNone = false := ⟨_, Tryz.func131, by kernel_rfl, by kernel_rfl⟩
theorem check_z {c:Nat}{p:Int}(hc:c≤2048):Cn Tryz.prog 131 [Zs c p] (In 0):=zs1 ex_checkI fun h=>(zl1 (riOf p)).post (by rw [zkn,decide_eq_true (by omega:lz p≤2048)]; rfl)
theorem lz_i64 {p:Int}(h0 : -9223372036854775808≤p)(h1:p<9223372036854775808):lz p≤2:=lz_le zo
theorem ansF_ok {q:Rat}(h:lz q.num≤2048∧lz (q.den:Int)≤2048):ansF q=(rfOf q,0):=by rw [ansF,longQ_false.2 h]; rfl
theorem ansF_low {p q:Int}(hq:q≠0)(hp:lz p≤2)(h2:lz q≤2):ansF (Rat.divInt p q)=(rfOf (Rat.divInt p q),0):=by
 have:=zdw (p:=p) hq
 exact ansF_ok zo
theorem make_q {p q:Int}(hq:q≠0):Cn Tryz.prog 113 [Zs 2 p,Zs 2 q] (FrR (ansF (Rat.divInt p q))):=by
 refine Cn.intro Tryz.func113 rfl zk nq (fun B w0 a hst=>?_)
 have hst:St B w0 25 [(0,Zs 2 p),(1,Zs 2 q)] [] a w0.w:=hst
 refine wp_seq ?_
 refine gl (sts:=[]) (news:=[⟨2,35,ptrH,some 0,_,none⟩,⟨3,35,ptrH,some 1,_,none⟩,⟨4,37,ptrH,some 2,_,none⟩]) (sp:=[.alc 0,.alc 1,.alc 2,.val 5 _]) [.o 3] hst (oc (zal rfl rfl rfl (gq 0 rfl)) (oc (zal rfl rfl rfl (gq 1 rfl)) (oc (zaf rfl rfl rfl (Str.zero zaq)) (zv rfl (za2 za3) o0)))) (fun a w hst=>?_)
 have hst:St B w0 25 [(5,_)] [⟨2,35,ptrH,_⟩,⟨3,35,ptrH,_⟩,⟨4,37,ptrH,_⟩] a w:=hst
 refine zt ?_
 refine wp_seq ?_
 refine gl (sts:=[none,none,none]) (news:=[]) (sp:=[.val 6 _,.val 7 _,.val 8 _,.val 9 _,.val 10 (Wh (_=false) _),.val 11 (Wh (_=false) _),.val 12 (Wh (_=false) _),.val 13 _]) [.g 0,.o 7] hst (zv rfl (zac (lz0 0 rfl) zae) (zv rfl (za5 (xs:=[.tmp 6]) (check_z zd) (.cons (vq 0 rfl) .nil)) (zv rfl (zd5 (vq 1 rfl) za3) (zv rfl (za1 (vq 2 rfl)) (oc (zam rfl rfl rfl (vq 3 rfl) nq (fun hg=>zac (lz0 1 rfl) zae)) (oc (zam rfl rfl rfl (vq 3 rfl) nq (fun hg=>za5 (xs:=[.tmp 10]) (check_z zd) (.cons (zag (vq 4 rfl) hg) .nil))) (oc (zam rfl rfl rfl (vq 3 rfl) nq (fun hg=>zd5 (zag (vq 5 rfl) hg) za3)) (zv rfl (r_or (vq 3 rfl) (vq 6 rfl)) o0)))))))) (fun a w hst=>?_)
 have hst:St B w0 25 [(5,_),(13,_)] [⟨2,35,ptrH,_⟩,⟨3,35,ptrH,_⟩,⟨4,37,ptrH,_⟩] a w:=hst
 refine za0 ?_
 refine zab hst (zm 1 rfl) (fun hb0=>?_) (fun hb0=>?_)
 ·exact absurd hb0 zd
 ·refine wp_skip ?_
  refine zt ?_
  refine wp_seq ?_
  refine gl (sts:=[none,none,none]) (news:=[]) (sp:=[.val 15 _,.val 16 _,.val 17 _]) [.g 0,.o 2] hst (zv rfl (zac (lz0 1 rfl) zae) (zv rfl (za5 (xs:=[.tmp 15]) sign_z (.cons (vq 0 rfl) .nil)) (zv rfl (zcu (vq 1 rfl) za3) o0))) (fun a w hst=>?_)
  have hst:St B w0 25 [(5,_),(17,_)] [⟨2,35,ptrH,_⟩,⟨3,35,ptrH,_⟩,⟨4,37,ptrH,_⟩] a w:=hst
  refine za0 ?_
  refine zab hst (zm 1 rfl) (fun hb1=>?_) (fun hb1=>?_)
  ·exact absurd hb1 (by simpa using hq)
  ·refine wp_skip ?_
   refine zt<|gl (sts:=[none,none,some (6,_)]) (news:=[]) (sp:=[.val 19 _,.val 20 _,.val 21 _,.val 22 _,.val 23 _,.val 24 _,.sto 2,.val 5 _]) [.o 7] hst (zv rfl (zac (lz0 0 rfl) zae) (zv rfl (zac (lz0 1 rfl) zae) (zv rfl (za5 (xs:=[.tmp 19,.tmp 20]) (zer zd zd hq) (.cons (vq 0 rfl) (.cons (vq 1 rfl) .nil))) (zv rfl (za5 (xs:=[.tmp 21]) (zi3 zd) (.cons (vq 2 rfl) .nil)) (zv rfl (zd8 (vq 3 rfl)) (zv rfl (zd7 (vq 3 rfl)) (oc (za7 rfl rfl rfl (vq 4 rfl) zaa (Eq.trans (b:=4) rfl rfl)) (zv rfl (za2 (vq 5 rfl)) o0)))))))) (fun a w hst=>?_)
   have hst:St B w0 25 [(5,_)] [⟨2,35,ptrH,_⟩,⟨3,35,ptrH,_⟩,⟨4,37,ptrH,_⟩] a w:=hst
   refine za0 ?_
   refine wp_ret ?_
   refine zah ?_ (zaz (rs:=[.cell 4 37,.tmp 5]) rfl hst (.cell (zm 2 rfl) zaa (.tmp (zm 0 rfl) .nil)) zd)
   exact zb1
theorem ofQ_c {p q:Int}(hp : -9223372036854775808≤p)(hp1:p<9223372036854775808)(hq0 : -9223372036854775808≤q)(hq1:q<9223372036854775808)(hq:q≠0):Cn Tryz.prog 75 [In p,In q] (FrR (rfOf (Rat.divInt p q),0)):=by
 refine Cn.intro Tryz.func75 rfl zk nq (fun B w0 a hst=>?_)
 have hst:St B w0 13 [(0,In p),(1,In q)] [] a w0.w:=hst
 refine wp_seq ?_
 refine gl (sts:=[]) (news:=[⟨4,37,ptrH,some 0,_,none⟩]) (sp:=[.alc 0,.val 5 _]) [.g 0,.g 1,.o 1] hst (oc (zaf rfl rfl rfl (Str.zero zaq)) (zv rfl (za2 za3) o0)) (fun a w hst=>?_)
 have hst:St B w0 13 [(0,_),(1,_),(5,_)] [⟨4,37,ptrH,_⟩] a w:=hst
 refine zt<|gl (sts:=[some (7,_)]) (news:=[]) (sp:=[.val 6 _,.val 7 _,.val 8 _,.val 9 _,.val 10 _,.val 11 _,.val 12 _,.sto 0,.val 5 _]) [.o 8] hst (zv rfl (za1 (gq 0 rfl)) (zv rfl (za5 (xs:=[.tmp 6]) (of_z hp hp1) (.cons (vq 0 rfl) .nil)) (zv rfl (za1 (gq 1 rfl)) (zv rfl (za5 (xs:=[.tmp 8]) (of_z hq0 hq1) (.cons (vq 2 rfl) .nil)) (zv rfl (za5 (xs:=[.tmp 7,.tmp 9]) (make_q hq) (.cons (vq 1 rfl) (.cons (vq 3 rfl) .nil))) (zv rfl (zd8 (vq 4 rfl)) (zv rfl (zd7 (vq 4 rfl)) (oc (za7 rfl rfl rfl (vq 5 rfl) zaa (Eq.trans (b:=4) rfl rfl)) (zv rfl (za2 (vq 6 rfl)) o0))))))))) (fun a w hst=>?_)
 have hst:St B w0 13 [(5,_)] [⟨4,37,ptrH,_⟩] a w:=hst
 refine za0 ?_
 refine wp_ret ?_
 refine zah ?_ (zaz (rs:=[.cell 4 37,.tmp 5]) rfl hst (.cell (zm 0 rfl) zaa (.tmp (zm 0 rfl) .nil)) zd)
 rw [← ansF_low hq (lz_i64 hp hp1) (lz_i64 hq0 hq1)]; exact zb1
theorem zha (x y:RF):Cn Tryz.prog 21 [(RFA x).va,(RFA y).va] (In (cmF x y)):=by
 refine Cn.intro Tryz.func21 rfl zk nq (fun B w0 a hst=>?_)
 have hst:St B w0 13 [(0,(RFA x).va),(1,(RFA y).va)] [] a w0.w:=hst
 refine wp_seq ?_
 refine gl (sts:=[]) (news:=[⟨2,37,ptrH,some 0,_,none⟩,⟨3,37,ptrH,some 1,_,none⟩]) (sp:=[.alc 0,.alc 1,.val 4 _]) [.o 2] hst (oc (zal rfl rfl rfl (gq 0 rfl)) (oc (zal rfl rfl rfl (gq 1 rfl)) (zv rfl (za2 za3) o0))) (fun a w hst=>?_)
 have hst:St B w0 13 [(4,_)] [⟨2,37,ptrH,_⟩,⟨3,37,ptrH,_⟩] a w:=hst
 refine zt ?_
 refine wp_seq ?_
 refine gl (sts:=[none,none]) (news:=[]) (sp:=[.val 5 _,.val 6 _,.val 7 _,.val 8 _,.val 9 _]) [.g 0,.o 4] hst (zv rfl (zac (lz0 0 rfl) zaa) (zv rfl (zac (lz0 1 rfl) zaa) (zv rfl (zcl (D:=[U32]) (l:=[_,_]) (xs:=[.tmp 5,.tmp 6]) (zf5 zk) zf7 zk (n_ok zk) nq nq nq (.cons (vq 0 rfl) (.cons (vq 1 rfl) .nil)) rfl rfl) (zv rfl (za5 (xs:=[.tmp 7]) (zez [x,y] nq) (.cons (vq 2 rfl) .nil)) (zv rfl (zdp (vq 3 rfl)) o0))))) (fun a w hst=>?_)
 have hst:St B w0 13 [(4,_),(9,_)] [⟨2,37,ptrH,_⟩,⟨3,37,ptrH,_⟩] a w:=hst
 refine za0 ?_
 refine zab hst (zm 1 rfl) (fun hb0=>?_) (fun hb0=>?_)
 ·rw [zjb] at hb0
  refine wp_seq ?_
  refine gl (sts:=[none,none]) (news:=[]) (sp:=[.val 4 _]) [.o 0] hst (zv rfl (za2 za3) o0) (fun a w hst=>?_)
  have hst:St B w0 13 [(4,_)] [⟨2,37,ptrH,_⟩,⟨3,37,ptrH,_⟩] a w:=hst
  refine za0 ?_
  refine wp_ret ?_
  refine zak ?_
  refine zah ?_ (zaj rfl hst (zm 0 rfl))
  exact zd4 (by rw [cmF,if_neg (by intro hh; rw [hh] at hb0; exact absurd hb0 zd)])
 ·rw [zjb,Bool.not_eq_false',Bool.and_eq_true] at hb0
  have hx:=zgz hb0.1
  have hy:=zgz hb0.2
  refine wp_skip ?_
  refine zt<|gl (sts:=[none,none]) (news:=[]) (sp:=[.val 10 _,.val 11 _,.val 12 _,.val 4 _]) [.o 3] hst (zv rfl (zac (lz0 0 rfl) zaa) (zv rfl (zac (lz0 1 rfl) zaa) (zv rfl (za5 (xs:=[.tmp 10,.tmp 11]) ((cmp_q zd).wk (.cons (zc4 (zd4 (congrArg (fun y=>(RFA y).va) hx.1)) (zgd hx.2.1 hx.2.2).va) (.cons (zc4 (zd4 (congrArg (fun y=>(RFA y).va) hy.1)) (zgd hy.2.1 hy.2.2).va) .nil))) (.cons (vq 0 rfl) (.cons (vq 1 rfl) .nil))) (zv rfl (za2 (vq 2 rfl)) o0)))) (fun a w hst=>?_)
  have hst:St B w0 13 [(4,_)] [⟨2,37,ptrH,_⟩,⟨3,37,ptrH,_⟩] a w:=hst
  refine za0 ?_
  refine wp_ret ?_
  refine zah ?_ (zaj rfl hst (zm 0 rfl))
  exact zd4 (by rw [cmF,if_pos (by rw [hb0.1,hb0.2]; rfl)])
end Go.Proofs.YtlpppkkggljdcaaGreat
namespace Go.Proofs.YtlpppkkggljdcaaGreat
open Go Go.RowKit
structure RG where
 re:RF
 im:RF
 deriving DecidableEq
structure RM where
 a:RF
 b:RF
 c:RF
 d:RF
 deriving DecidableEq
structure RR where
 y:RF
 u:RF
 deriving DecidableEq
structure GQ where
 re:Rat
 im:Rat
 deriving DecidableEq
structure MQ where
 a:Rat
 b:Rat
 c:Rat
 d:Rat
 deriving DecidableEq
structure YQ where
 y:Rat
 u:Rat
 deriving DecidableEq
def RMA (x:RM):As:=cat [RFA x.a,RFA x.b,RFA x.c,RFA x.d]
def QMA (k:Nat)(x:MQ):As:=cat [QA k x.a,QA k x.b,QA k x.c,QA k x.d]
abbrev rm0:RM:=⟨rf0,rf0,rf0,rf0⟩
theorem qa_x {k:Nat}{x:RF}(h:okX x=true)(hk:2048≤k):WkA (RFA x) (QA k (toQ x)):=by
 obtain ⟨h1,h2,h3⟩:=zgz h
 exact (zj1 (congrArg RFA h1)).trans (zgd (Nat.le_trans h2 hk) (Nat.le_trans h3 hk))
theorem cm_ne {x y:Rat}:(cmQ x y != 0) = !decide (x=y):=by
 unfold cmQ
 by_cases h:x<y
 ·rw [if_pos h]; simp [Rat.ne_of_lt h]
 ·rw [if_neg h]
  by_cases h2:y<x
  ·rw [if_pos h2]; simp [Rat.ne_of_gt h2]
  ·rw [if_neg h2]
   have:x=y:=Rat.le_antisymm (Rat.not_lt.1 h2) (Rat.not_lt.1 h)
   simp [this]
theorem cm_eq {x y:Rat}:(cmQ x y==0)=decide (x=y):=by
 have:=cm_ne (x:=x) (y:=y)
 simp only [bne] at this
 cases h:cmQ x y==0 <;> cases h2:decide (x=y) <;> simp_all
theorem zb6:Str Tryz.prog 56 [RFA rf0,RFA rf0,RFA rf0,RFA rf0] :=
 Str.of (z:=.agg #[.bool false,.slice none 0 0,.bool false,.slice none 0 0,.bool false,.slice none 0 0,.bool false,.slice none 0 0,.bool false,.slice none 0 0,.bool false,.slice none 0 0,.bool false,.slice none 0 0,.bool false,.slice none 0 0]) zk Tryz.underlying56 zk fun B w=>⟨[[.bool false,.slice none 0 0,.bool false,.slice none 0 0],[.bool false,.slice none 0 0,.bool false,.slice none 0 0],[.bool false,.slice none 0 0,.bool false,.slice none 0 0],[.bool false,.slice none 0 0,.bool false,.slice none 0 0]],rfl,(.cons (zgv B w) (.cons (zgv B w) (.cons (zgv B w) (.cons (zgv B w) .nil))))⟩
end Go.Proofs.YtlpppkkggljdcaaGreat
namespace Go.Proofs.YtlpppkkggljdcaaGreat
open Go Go.RowKit
end Go.Proofs.YtlpppkkggljdcaaGreat
