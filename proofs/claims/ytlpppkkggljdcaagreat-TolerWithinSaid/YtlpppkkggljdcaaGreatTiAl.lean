import Derived.Test.YtlpppkkggljdcaaGreatTiAa
import Derived.Test.YtlpppkkggljdcaaGreatTiAc
import Derived.Test.YtlpppkkggljdcaaGreatTiAk
set_option linter.unusedVariables false
set_option linter.unusedSimpArgs false
set_option linter.unusedSectionVars false
set_option maxRecDepth 100000
namespace Go.Proofs.YtlpppkkggljdcaaGreat
open Go Go.RowKit
def okLb (l:List Nat):Bool:=l.all fun x=>decide (x<4294967296)
theorem okLb_iff {l:List Nat}:okLb l=true↔okL l:=by simp [okLb,okL]
def okX (x:RF):Bool:=okLb x.num.mag&&okLb x.den.mag&&okF x
def zI (x:RI):Int:=if x.neg then -(val x.mag:Nat) else (val x.mag:Nat)
def toQ (x:RF):Rat:=Rat.divInt (zI x.num) (zI x.den)
theorem zI_ri (z:Int):zI (riOf z)=z:=by
 unfold zI
 rw [zbq]
 by_cases h:z<0 <;> simp [riOf,h] <;> omega
theorem zd8 (r:Rat):toQ (rfOf r)=r:=by
 show Rat.divInt (zI (riOf r.num)) (zI (riOf (r.den:Int)))=r
 rw [zI_ri,zI_ri]
 exact Rat.num_divInt_den r
theorem okX_know {x:RF}(h:okL x.num.mag∧okL x.den.mag):okX x=okF x:=by rw [okX,okLb_iff.2 h.1,okLb_iff.2 h.2]; rfl
theorem zh9 {x:RF}(h:okX x=true):x=rfOf (toQ x)∧lz (toQ x).num≤2048∧lz ((toQ x).den:Int)≤2048:=by
 simp only [okX,Bool.and_eq_true] at h
 obtain ⟨r,rfl,h1⟩:=okF_q ⟨okLb_iff.1 h.1.1,okLb_iff.1 h.1.2⟩ h.2
 rw [zd8]
 exact ⟨rfl,h1⟩
theorem zgj (r:Rat):okX (rfOf r) = !longQ r:=by
 rw [okX_know ⟨ok_ri _,ok_ri _⟩,okF_of]
theorem okX_r {x:RF}(h:okX x=true):∃ r,x=rfOf r∧lz r.num≤2048∧lz (r.den:Int)≤2048:=⟨_,zh9 h⟩
abbrev rf0:RF:=⟨⟨false,[]⟩,⟨false,[]⟩⟩
theorem ex_check : ∃ fn, Tryz.prog.funcs[91]? = some fn ∧ (fn.name == "runtime.NumGoroutine") = false ∧ fn.body.isNone = false := ⟨_, Tryz.func91, by kernel_rfl, by kernel_rfl⟩
theorem check_x (x:RF):Cn Tryz.prog 91 [(RFA x).va] (In (if okX x then 0 else 1)) :=
 Cn.know (c:=okL x.num.mag∧okL x.den.mag) ex_check (fun B w args ha=>by cases ha with | cons h1 _=>exact rf_know h1) fun h=>(checkF_c x.num x.den).post (by rw [okX_know h])
theorem ok_no {l:List RF}{j:Nat}(h:j<l.length)(h2:((if okX l[j] then (0:Int) else 1) != 0)=true):false=l.all okX:=by
 have h3:okX l[j]=false:=by cases hh:okX l[j] <;> simp [hh] at h2 ⊢
 exact (List.all_eq_false.2 ⟨_,List.getElem_mem h,by simp [h3]⟩).symm
theorem ok_yes {l:List RF}{j:Nat}(h:j<l.length)(h1:(l.take j).all okX=true)(h2:((if okX l[j] then (0:Int) else 1) != 0)=false):(l.take (j+1)).all okX=true:=by
 rw [List.take_succ_eq_append_getElem h,List.all_append,h1]
 simp [ok1 h2]
theorem zdr (xs:List RF)(hl:xs.length≤1099511627776):Cn Tryz.prog 52 [(SlA 37 [U32] (xs.map RFA)).va] (Bo (xs.all okX)):=by
 refine Cn.introW Tryz.func52 rfl zk nq (.cons (zkq (fun A hA=>by obtain ⟨x,_,rfl⟩:=List.mem_map.1 hA; exact zjm x)).va .nil) (zfj _).va (fun B w0 a hB0 hst=>?_)
 have hst:St B w0 15 [(0,(SlO 37 [U32] (xs.map RFA) True).va)] [] a w0.w:=hst
 refine wp_seq ?_
 refine gl (sts:=[]) (news:=[]) (sp:=[.val 2 _]) [.g 0,.o 0] hst (zv rfl (za1 zbk) o0) (fun a w hst=>?_)
 have hst:St B w0 15 [(0,_),(2,_)] [] a w:=hst
 refine zt ?_
 refine wp_seq ?_
 refine gl (sts:=[]) (news:=[]) (sp:=[.val 5 _,.val 6 _,.val 7 _]) [.g 1,.o 0,.o 1,.o 2] hst (zv rfl (za2 (gq 0 rfl)) (zv rfl (ze2 Tryz.underlying101 (zcg (zau (vq 0 rfl)))) (zv rfl (za2 za3) o0))) (fun a w hst=>?_)
 have hst:St B w0 15 [(2,_),(5,_),(6,_),(7,_)] [] a w:=hst
 refine za0 ?_
 refine wp_block ?_
 have hst:=St.sel hst [1,2,3]
 refine wp_loop_ghost (fun n a w=>∃ j:Nat,(n+j=xs.length∧(xs.take j).all okX=true)∧St B w0 15 [(5,(SlO 37 [U32] (xs.map RFA) True).va),(6,In (xs.length:Nat)),(7,In (j:Nat))] [] a w) (xs.length) ?_ ?_
 ·exact ⟨0,⟨by omega,rfl⟩,by rw [List.length_map] at hst; exact hst⟩
 intro n a w hI
 obtain ⟨j,⟨hn,hno⟩,hst⟩:=hI
 refine wp_seq ?_
 refine gl (sts:=[]) (news:=[]) (sp:=[.val 8 _]) [.g 0,.g 1,.g 2,.o 0] hst (zv rfl (zc2 (gq 2 rfl) (gq 1 rfl)) o0) (fun a w hst=>?_)
 have hst:St B w0 15 [(5,_),(6,_),(7,_),(8,_)] [] a w:=hst
 refine zt ?_
 refine zaa hst (zm 3 rfl) (fun hb0=>?_) (fun hb0=>?_)
 ·have hj:j<xs.length:=by simp at hb0; omega
  refine wp_skip ?_
  refine zt ?_
  refine wp_block ?_
  refine wp_seq ?_
  refine gl (sts:=[]) (news:=[⟨4,37,ptrH,some 2,_,some (3,_)⟩]) (sp:=[.val 9 _,.val 10 _,.alc 0,.sto 0]) [.g 0,.g 1,.g 2] hst (zv rfl (zdx zdf (zen fun _=>rfl) (zcg (zau (gq 0 rfl))) (gq 2 rfl) (zdc hj)) (zv rfl (zat (vq 0 rfl) za7) (oc (zag rfl rfl rfl (Str.zero zam)) (oc (za9 rfl rfl rfl (vq 1 rfl) za7 (Eq.trans (b:=4) rfl rfl)) o0)))) (fun a w hst=>?_)
  have hst:St B w0 15 [(5,_),(6,_),(7,_)] [⟨4,37,ptrH,_⟩] a w:=hst
  refine zt<|gl (sts:=[none]) (news:=[]) (sp:=[.val 11 _,.val 12 _,.val 13 _]) [.g 0,.g 1,.g 2,.o 2] hst (zv rfl (zac (lz0 0 rfl) za7) (zv rfl (za5 (xs:=[.tmp 11]) (check_x _) (.cons (vq 0 rfl) .nil)) (zv rfl (zcf (vq 1 rfl) za3) o0))) (fun a w hst=>?_)
  have hst:St B w0 15 [(5,_),(6,_),(7,_),(13,_)] [⟨4,37,ptrH,_⟩] a w:=hst
  refine za0 ?_
  refine zaa hst (zm 3 rfl) (fun hb1=>?_) (fun hb1=>?_)
  ·refine wp_seq ?_
   refine gl (sts:=[none]) (news:=[]) (sp:=[.val 2 _]) [.g 0,.g 1,.g 2,.o 0] hst (zv rfl (za1 zbk) o0) (fun a w hst=>?_)
   have hst:St B w0 15 [(5,_),(6,_),(7,_),(2,_)] [⟨4,37,ptrH,_⟩] a w:=hst
   refine za0 ?_
   refine wp_ret ?_
   refine zb4 ?_
   refine zaf ?_
   refine zaf ?_
   refine zb4 ?_
   refine zaf ?_
   refine zaq ?_ (zaj rfl hst (zm 3 rfl))
   rw [← ok_no hj hb1]
  ·refine wp_skip ?_
   refine zap ?_
   refine za0 ?_
   refine gl (sts:=[none]) (news:=[]) (sp:=[.val 14 _,.val 7 _]) [.g 0,.g 1,.o 1] hst (zv rfl (zbd (gq 2 rfl) za3 (zbw zo)) (zv rfl (za2 (vq 0 rfl)) o0)) (fun a w hst=>?_)
   have hst:St B w0 15 [(5,_),(6,_),(7,_)] [⟨4,37,ptrH,_⟩] a w:=hst
   refine za0 ?_
   have hst:=St.sel hst [0,1,2]
   have hst:=St.selL hst []
   exact ⟨n-1,by omega,j+1,⟨by omega,ok_yes hj hno hb1⟩,hst⟩
 ·obtain rfl:j=xs.length:=by simp at hb0; omega
  refine wp_exit ?_
  refine zae ?_
  refine zae ?_
  refine zaz ?_
  refine zt<|gl (sts:=[]) (news:=[]) (sp:=[.val 2 _]) [.o 0] hst (zv rfl (za1 zbk) o0) (fun a w hst=>?_)
  have hst:St B w0 15 [(2,_)] [] a w:=hst
  refine za0 ?_
  refine wp_ret ?_
  refine zaq ?_ (zaj rfl hst (zm 0 rfl))
  rw [List.take_length] at hno; rw [hno]
def ansF (q:Rat):RF × Int:=if longQ q then (rf0,4) else (rfOf q,0)
abbrev FrR (r:RF × Int):VA:=Tu [(RFA r.1).va,In r.2]
theorem rq_wk {k:Nat}{r:Rat}:Wk (Qs k r) (RFA (rfOf r)).va:=qaA.va
theorem tu2w {a b c d:VA}(h:Wk a c)(h':Wk b d):Wk (Tu [a,b]) (Tu [c,d]):=tu_wk (.cons h (.cons h' .nil))
theorem zdp {q:Rat}:[q].any longQ=longQ q:=by simp
theorem ne0 {b:Bool}:((if b then (4:Int) else 0) != 0)=b:=by cases b <;> rfl
def FnA (A:VA)(h:∀ B v w,A.p B v w→v.oneCell'=true):As where
 n:=1
 ag:=false
 p B cs w:=∃ v,cs=[v]∧A.p B v w
 deps:=A.deps
 len:=by rintro B cs w ⟨v,rfl,_⟩; rfl
 one:=by rintro B cs w ⟨v,rfl,hp⟩ c hc; simp at hc; subst hc; exact h B c w hp
 ag1:=fun _=>rfl
 cg:=fun B _ w w' hg ⟨v,e,hp⟩=>⟨v,e,A.cg B v w w' hg hp⟩
 wr:=fun B _ w w' g c T fz h1 h2 h3 h4 ⟨v,e,hp⟩=>⟨v,e,A.wr B v w w' g c T fz h1 h2 h3 h4 hp⟩
theorem fna_wk {A:VA}{h:∀ B v w,A.p B v w→v.oneCell'=true}:Wk (FnA A h).va A:=fun _ v _ ⟨cs,⟨u,e,hp⟩,hv⟩=>by subst e; have:v=u:=hv; subst this; exact hp
theorem wk_fna {A:VA}{h:∀ B v w,A.p B v w→v.oneCell'=true}:Wk A (FnA A h).va:=fun _ v _ hp=>⟨[v],⟨v,rfl,hp⟩,rfl⟩
theorem fnv_one {P:Program}{D:List TypeId}{ι:Type}{pre:ι→List VA}{post:ι→VA}:∀ (B:Nat) (v:Value) (w:World),(FnV P D pre post).p B v w→v.oneCell'=true:=fun _ v _ h=>by
 obtain ⟨f,fs,cs,F,C,rfl,_⟩:=h
 rfl
theorem nd_va {l:List VA}{D:List TypeId}(h:(l.all fun A=>A.deps.all fun T=>D.contains T)=true):∀ A∈l,∀ T∈A.deps,T∈D:=fun A hA T hT=>by
 have:=List.all_eq_true.1 (List.all_eq_true.1 h A hA) T hT
 simpa using this
theorem hasl_wk {R:Rg}{B:Nat}{w0:Bs}{i:Nat}{xs:List Operand}{l l':List VA}(h:HasL R B w0 i xs l)(hw:All2 Wk l l'):HasL R B w0 i xs l':=by
 induction h generalizing l' with
 | nil=>cases hw; exact .nil
 | cons h1 _ ih=>cases hw with | cons h2 h3=>exact .cons (fun a w av=>h2 _ _ _ (h1 a w av)) (ih h3)
theorem has_wk' {R:Rg}{B:Nat}{w0:Bs}{i:Nat}{x:Operand}{A A':VA}(h:Has R B w0 i x A)(hw:Wk A A'):Has R B w0 i x A':=fun a w av=>hw _ _ _ (h a w av)
theorem zic {c:Nat}{x:Rat}(hc:c≤549755813888):Cn Tryz.prog 136 [Qs c x] (FrR (ansF x)):=by
 refine Cn.intro Tryz.func136 rfl zk nq (fun B w0 a hst=>?_)
 have hst:St B w0 14 [(0,Qs c x)] [] a w0.w:=hst
 refine wp_seq ?_
 refine gl (sts:=[]) (news:=[⟨1,37,ptrH,some 0,_,none⟩,⟨2,37,ptrH,some 1,_,none⟩]) (sp:=[.alc 0,.alc 1,.val 3 _]) [.o 2] hst (oc (zak rfl rfl rfl (gq 0 rfl)) (oc (zag rfl rfl rfl (Str.zero zam)) (zv rfl (za1 za3) o0))) (fun a w hst=>?_)
 have hst:St B w0 14 [(3,_)] [⟨1,37,ptrH,_⟩,⟨2,37,ptrH,_⟩] a w:=hst
 refine zt ?_
 refine wp_seq ?_
 refine gl (sts:=[none,none]) (news:=[]) (sp:=[.val 5 _,.val 6 _,.val 7 _,.val 4 _]) [.g 0,.o 3] hst (zv rfl (zac (lz0 0 rfl) za7) (zv rfl (zc5 (D:=[U32]) (l:=[_]) (xs:=[.tmp 5]) (zdt zk) zdf zk (n_ok zk) nq nq nq (.cons (vq 0 rfl) .nil) rfl rfl) (zv rfl (za5 (xs:=[.tmp 6]) ((zg0 [x] (.cons ⟨_,rfl⟩ .nil) nq)) (.cons (vq 1 rfl) .nil)) (zv rfl (za1 (vq 2 rfl)) o0)))) (fun a w hst=>?_)
 have hst:St B w0 14 [(3,_),(4,_)] [⟨1,37,ptrH,_⟩,⟨2,37,ptrH,_⟩] a w:=hst
 refine zt<|gl (sts:=[none,none]) (news:=[]) (sp:=[.val 8 _,.val 9 _]) [.g 0,.g 1,.o 1] hst (zv rfl (za2 (gq 1 rfl)) (zv rfl (zcf (vq 0 rfl) za3) o0)) (fun a w hst=>?_)
 have hst:St B w0 14 [(3,_),(4,_),(9,_)] [⟨1,37,ptrH,_⟩,⟨2,37,ptrH,_⟩] a w:=hst
 refine za0 ?_
 refine zaa hst (zm 2 rfl) (fun hb0=>?_) (fun hb0=>?_)
 ·rw [zdp,ne0] at hb0
  refine wp_seq ?_
  refine gl (sts:=[none,some (2,_)]) (news:=[]) (sp:=[.val 10 _,.val 11 _,.sto 1,.val 3 _]) [.o 3] hst (zv rfl (zb0 (xs:=[]) (qs:=[]) zam .nil) (zv rfl (za2 (gq 1 rfl)) (oc (za9 rfl rfl rfl (vq 0 rfl) za7 (Eq.trans (b:=4) rfl rfl)) (zv rfl (za1 (vq 1 rfl)) o0)))) (fun a w hst=>?_)
  have hst:St B w0 14 [(3,_)] [⟨1,37,ptrH,_⟩,⟨2,37,ptrH,_⟩] a w:=hst
  refine za0 ?_
  refine wp_ret ?_
  refine zaf ?_
  refine zad ?_ (zar (rs:=[.cell 2 37,.tmp 3]) rfl hst (.cell (zm 1 rfl) za7 (.tmp (zm 0 rfl) .nil)) zd)
  rw [ansF,if_pos hb0]; exact tu2w zay (zcp (by rw [zdp,hb0]; rfl))
 ·rw [zdp,ne0] at hb0
  refine wp_skip ?_
  refine zt<|gl (sts:=[none,some (2,_)]) (news:=[]) (sp:=[.val 12 _,.val 13 _,.sto 1,.val 3 _]) [.o 3] hst (zv rfl (zac (lz0 0 rfl) za7) (zv rfl (za5 (xs:=[.tmp 12]) (zfy zo) (.cons (vq 0 rfl) .nil)) (oc (za9 rfl rfl rfl (vq 1 rfl) za7 (Eq.trans (b:=4) rfl rfl)) (zv rfl (za1 za3) o0)))) (fun a w hst=>?_)
  have hst:St B w0 14 [(3,_)] [⟨1,37,ptrH,_⟩,⟨2,37,ptrH,_⟩] a w:=hst
  refine za0 ?_
  refine wp_ret ?_
  refine zad ?_ (zar (rs:=[.cell 2 37,.tmp 3]) rfl hst (.cell (zm 1 rfl) za7 (.tmp (zm 0 rfl) .nil)) zd)
  rw [ansF,if_neg (by rw [hb0]; decide)]; exact tu2w rq_wk zay
def opA (k:Nat):Option Rat→As
 | some z=>QA k z
 | none=>RFA rf0
abbrev opV (k:Nat)(o:Option Rat):VA:=Tu [(opA k o).va,Bo o.isSome]
abbrev FnO (k:Nat)(op:Rat→Rat→Option Rat):VA:=FnV Tryz.prog [86] (fun i:Rat × Rat=>[Qs 2048 i.1,Qs 2048 i.2]) (fun i=>opV k (op i.1 i.2))
abbrev FnT (k:Nat)(op:Rat→Rat→Rat):VA:=FnV Tryz.prog [] (fun i:Rat × Rat=>[Qs 2048 i.1,Qs 2048 i.2]) (fun i=>Qs k (op i.1 i.2))
def doF (op:Rat→Rat→Option Rat)(x y:RF):RF × Int:=if okX x&&okX y then (match op (toQ x) (toQ y) with | some z=>ansF z | none=>(rf0,3)) else (rf0,1)
theorem zjp {x y:RF}:[x,y].all okX=(okX x&&okX y):=by simp
theorem do_no {k:Nat}{op:Rat→Rat→Option Rat}{x y:RF}(h:(okX x&&okX y)=false):Cn Tryz.prog 100 [FnO k op,(RFA x).va,(RFA y).va] (FrR (rf0,1)):=by
 refine Cn.intro Tryz.func100 rfl zk nq (fun B w0 a hst=>?_)
 have hst:St B w0 30 [(0,FnO k op),(1,(RFA x).va),(2,(RFA y).va)] [] a w0.w:=hst
 refine wp_seq ?_
 refine gl (sts:=[]) (news:=[⟨4,37,ptrH,some 0,_,none⟩,⟨5,37,ptrH,some 1,_,none⟩,⟨6,37,ptrH,some 2,_,none⟩]) (sp:=[.alc 0,.alc 1,.alc 2,.val 7 _]) [.g 0,.o 3] hst (oc (zak rfl rfl rfl (gq 1 rfl)) (oc (zak rfl rfl rfl (gq 2 rfl)) (oc (zag rfl rfl rfl (Str.zero zam)) (zv rfl (za1 za3) o0)))) (fun a w hst=>?_)
 have hst:St B w0 30 [(0,_),(7,_)] [⟨4,37,ptrH,_⟩,⟨5,37,ptrH,_⟩,⟨6,37,ptrH,_⟩] a w:=hst
 refine zt ?_
 refine wp_seq ?_
 refine gl (sts:=[none,none,none]) (news:=[]) (sp:=[.val 10 _,.val 11 _,.val 12 _,.val 13 _,.val 14 _]) [.g 0,.g 1,.o 4] hst (zv rfl (zac (lz0 0 rfl) za7) (zv rfl (zac (lz0 1 rfl) za7) (zv rfl (zc5 (D:=[U32]) (l:=[_,_]) (xs:=[.tmp 10,.tmp 11]) (zdt zk) zdf zk (n_ok zk) nq nq nq (.cons (vq 0 rfl) (.cons (vq 1 rfl) .nil)) rfl rfl) (zv rfl (za5 (xs:=[.tmp 12]) (zdr [x,y] nq) (.cons (vq 2 rfl) .nil)) (zv rfl (zdl (vq 3 rfl)) o0))))) (fun a w hst=>?_)
 have hst:St B w0 30 [(0,_),(7,_),(14,_)] [⟨4,37,ptrH,_⟩,⟨5,37,ptrH,_⟩,⟨6,37,ptrH,_⟩] a w:=hst
 refine za0 ?_
 refine zaa hst (zm 2 rfl) (fun hb0=>?_) (fun hb0=>?_)
 ·refine wp_seq ?_
  refine gl (sts:=[none,none,some (1,_)]) (news:=[]) (sp:=[.val 15 _,.sto 2,.val 7 _]) [.g 0,.o 2] hst (zv rfl (zb0 (xs:=[]) (qs:=[]) zam .nil) (oc (za9 rfl rfl rfl (vq 0 rfl) za7 (Eq.trans (b:=4) rfl rfl)) (zv rfl (za1 za3) o0))) (fun a w hst=>?_)
  have hst:St B w0 30 [(0,_),(7,_)] [⟨4,37,ptrH,_⟩,⟨5,37,ptrH,_⟩,⟨6,37,ptrH,_⟩] a w:=hst
  refine za0 ?_
  refine wp_ret ?_
  refine zaf ?_
  refine zad ?_ (zar (rs:=[.cell 6 37,.tmp 7]) rfl hst (.cell (zm 2 rfl) za7 (.tmp (zm 1 rfl) .nil)) zd)
  exact zay
 ·exact absurd hb0 (by rw [zjp,h]; decide)
theorem do_none {k:Nat}{op:Rat→Rat→Option Rat}{r s:Rat}(hr:lz r.num≤2048∧lz (r.den:Int)≤2048)(hs:lz s.num≤2048∧lz (s.den:Int)≤2048)(ho:op r s=none):Cn Tryz.prog 100 [FnO k op,(RFA (rfOf r)).va,(RFA (rfOf s)).va] (FrR (rf0,3)):=by
 have hwk:Wk (opV k (op (r,s).1 (r,s).2)) (opV k none):=by rw [ho]; exact zay
 refine Cn.intro Tryz.func100 rfl zk nq (fun B w0 a hst=>?_)
 have hst:St B w0 30 [(0,FnO k op),(1,(RFA (rfOf r)).va),(2,(RFA (rfOf s)).va)] [] a w0.w:=hst
 refine wp_seq ?_
 refine gl (sts:=[]) (news:=[⟨4,37,ptrH,some 0,_,none⟩,⟨5,37,ptrH,some 1,_,none⟩,⟨6,37,ptrH,some 2,_,none⟩]) (sp:=[.alc 0,.alc 1,.alc 2,.val 7 _]) [.g 0,.o 3] hst (oc (zak rfl rfl rfl (gq 1 rfl)) (oc (zak rfl rfl rfl (gq 2 rfl)) (oc (zag rfl rfl rfl (Str.zero zam)) (zv rfl (za1 za3) o0)))) (fun a w hst=>?_)
 have hst:St B w0 30 [(0,_),(7,_)] [⟨4,37,ptrH,_⟩,⟨5,37,ptrH,_⟩,⟨6,37,ptrH,_⟩] a w:=hst
 refine zt ?_
 refine wp_seq ?_
 refine gl (sts:=[none,none,none]) (news:=[]) (sp:=[.val 10 _,.val 11 _,.val 12 _,.val 13 _,.val 14 _]) [.g 0,.g 1,.o 4] hst (zv rfl (zac (lz0 0 rfl) za7) (zv rfl (zac (lz0 1 rfl) za7) (zv rfl (zc5 (D:=[U32]) (l:=[_,_]) (xs:=[.tmp 10,.tmp 11]) (zdt zk) zdf zk (n_ok zk) nq nq nq (.cons (vq 0 rfl) (.cons (vq 1 rfl) .nil)) rfl rfl) (zv rfl (za5 (xs:=[.tmp 12]) (zdr [rfOf r,rfOf s] nq) (.cons (vq 2 rfl) .nil)) (zv rfl (zdl (vq 3 rfl)) o0))))) (fun a w hst=>?_)
 have hst:St B w0 30 [(0,_),(7,_),(14,_)] [⟨4,37,ptrH,_⟩,⟨5,37,ptrH,_⟩,⟨6,37,ptrH,_⟩] a w:=hst
 refine za0 ?_
 refine zaa hst (zm 2 rfl) (fun hb0=>?_) (fun hb0=>?_)
 ·exact absurd hb0 (by rw [zjp,zgj,zgj,zfq hr (Nat.le_refl _),zfq hs (Nat.le_refl _)]; decide)
 ·refine wp_skip ?_
  refine zt<|gl (sts:=[none,none,none]) (news:=[⟨8,37,ptrH,some 7,_,some (8,_)⟩]) (sp:=[.val 17 _,.val 18 _,.val 19 _,.val 20 _,.val 16 _,.val 21 _,.val 22 _,.alc 3,.sto 3,.val 9 _]) [.g 1,.o 9] hst (zv rfl (za2 (gq 0 rfl)) (zv rfl (zac (lz0 0 rfl) za7) (zv rfl (zac (lz0 1 rfl) za7) (zv rfl ((zh7 (xs:=[.tmp 18,.tmp 19]) (r,s) (vq 0 rfl) (hasl_wk (.cons (vq 1 rfl) (.cons (vq 2 rfl) .nil)) (.cons (zga hr.1 hr.2).va (.cons (zga hs.1 hs.2).va .nil)))).wk hwk) (zv rfl (za2 (vq 3 rfl)) (zv rfl (zcy (vq 4 rfl)) (zv rfl (zcx (vq 4 rfl)) (oc (zag rfl rfl rfl (Str.zero zam)) (oc (za9 rfl rfl rfl (vq 5 rfl) za7 (Eq.trans (b:=4) rfl rfl)) (zv rfl (za1 (vq 6 rfl)) o0)))))))))) (fun a w hst=>?_)
  have hst:St B w0 30 [(7,_),(9,_)] [⟨4,37,ptrH,_⟩,⟨5,37,ptrH,_⟩,⟨6,37,ptrH,_⟩,⟨8,37,ptrH,_⟩] a w:=hst
  refine zt ?_
  refine wp_seq ?_
  refine gl (sts:=[none,none,none,none]) (news:=[]) (sp:=[.val 23 _,.val 24 _]) [.g 0,.o 1] hst (zv rfl (za2 (gq 1 rfl)) (zv rfl (zdl (vq 0 rfl)) o0)) (fun a w hst=>?_)
  have hst:St B w0 30 [(7,_),(24,_)] [⟨4,37,ptrH,_⟩,⟨5,37,ptrH,_⟩,⟨6,37,ptrH,_⟩,⟨8,37,ptrH,_⟩] a w:=hst
  refine za0 ?_
  refine zaa hst (zm 1 rfl) (fun hb1=>?_) (fun hb1=>?_)
  ·refine wp_seq ?_
   refine gl (sts:=[none,none,some (1,_),none]) (news:=[]) (sp:=[.val 25 _,.sto 2,.val 7 _]) [.o 2] hst (zv rfl (zb0 (xs:=[]) (qs:=[]) zam .nil) (oc (za9 rfl rfl rfl (vq 0 rfl) za7 (Eq.trans (b:=4) rfl rfl)) (zv rfl (za1 za3) o0))) (fun a w hst=>?_)
   have hst:St B w0 30 [(7,_)] [⟨4,37,ptrH,_⟩,⟨5,37,ptrH,_⟩,⟨6,37,ptrH,_⟩,⟨8,37,ptrH,_⟩] a w:=hst
   refine za0 ?_
   refine wp_ret ?_
   refine zaf ?_
   refine zad ?_ (zar (rs:=[.cell 6 37,.tmp 7]) rfl hst (.cell (zm 2 rfl) za7 (.tmp (zm 0 rfl) .nil)) zd)
   exact zay
  ·exact absurd hb1 zd
theorem do_some {k:Nat}{op:Rat→Rat→Option Rat}{r s:Rat}{z:Rat}(hk:k≤549755813888)(hr:lz r.num≤2048∧lz (r.den:Int)≤2048)(hs:lz s.num≤2048∧lz (s.den:Int)≤2048)(ho:op r s=(some z)):Cn Tryz.prog 100 [FnO k op,(RFA (rfOf r)).va,(RFA (rfOf s)).va] (FrR (ansF z)):=by
 have hwk:Wk (opV k (op (r,s).1 (r,s).2)) (opV k (some z)):=by rw [ho]; exact zay
 refine Cn.intro Tryz.func100 rfl zk nq (fun B w0 a hst=>?_)
 have hst:St B w0 30 [(0,FnO k op),(1,(RFA (rfOf r)).va),(2,(RFA (rfOf s)).va)] [] a w0.w:=hst
 refine wp_seq ?_
 refine gl (sts:=[]) (news:=[⟨4,37,ptrH,some 0,_,none⟩,⟨5,37,ptrH,some 1,_,none⟩,⟨6,37,ptrH,some 2,_,none⟩]) (sp:=[.alc 0,.alc 1,.alc 2,.val 7 _]) [.g 0,.o 3] hst (oc (zak rfl rfl rfl (gq 1 rfl)) (oc (zak rfl rfl rfl (gq 2 rfl)) (oc (zag rfl rfl rfl (Str.zero zam)) (zv rfl (za1 za3) o0)))) (fun a w hst=>?_)
 have hst:St B w0 30 [(0,_),(7,_)] [⟨4,37,ptrH,_⟩,⟨5,37,ptrH,_⟩,⟨6,37,ptrH,_⟩] a w:=hst
 refine zt ?_
 refine wp_seq ?_
 refine gl (sts:=[none,none,none]) (news:=[]) (sp:=[.val 10 _,.val 11 _,.val 12 _,.val 13 _,.val 14 _]) [.g 0,.g 1,.o 4] hst (zv rfl (zac (lz0 0 rfl) za7) (zv rfl (zac (lz0 1 rfl) za7) (zv rfl (zc5 (D:=[U32]) (l:=[_,_]) (xs:=[.tmp 10,.tmp 11]) (zdt zk) zdf zk (n_ok zk) nq nq nq (.cons (vq 0 rfl) (.cons (vq 1 rfl) .nil)) rfl rfl) (zv rfl (za5 (xs:=[.tmp 12]) (zdr [rfOf r,rfOf s] nq) (.cons (vq 2 rfl) .nil)) (zv rfl (zdl (vq 3 rfl)) o0))))) (fun a w hst=>?_)
 have hst:St B w0 30 [(0,_),(7,_),(14,_)] [⟨4,37,ptrH,_⟩,⟨5,37,ptrH,_⟩,⟨6,37,ptrH,_⟩] a w:=hst
 refine za0 ?_
 refine zaa hst (zm 2 rfl) (fun hb0=>?_) (fun hb0=>?_)
 ·exact absurd hb0 (by rw [zjp,zgj,zgj,zfq hr (Nat.le_refl _),zfq hs (Nat.le_refl _)]; decide)
 ·refine wp_skip ?_
  refine zt<|gl (sts:=[none,none,none]) (news:=[⟨8,37,ptrH,some 7,_,some (8,QA k z)⟩]) (sp:=[.val 17 _,.val 18 _,.val 19 _,.val 20 _,.val 16 _,.val 21 _,.val 22 _,.alc 3,.sto 3,.val 9 _]) [.g 1,.o 9] hst (zv rfl (za2 (gq 0 rfl)) (zv rfl (zac (lz0 0 rfl) za7) (zv rfl (zac (lz0 1 rfl) za7) (zv rfl ((zh7 (xs:=[.tmp 18,.tmp 19]) (r,s) (vq 0 rfl) (hasl_wk (.cons (vq 1 rfl) (.cons (vq 2 rfl) .nil)) (.cons (zga hr.1 hr.2).va (.cons (zga hs.1 hs.2).va .nil)))).wk hwk) (zv rfl (za2 (vq 3 rfl)) (zv rfl (zcy (vq 4 rfl)) (zv rfl (zcx (vq 4 rfl)) (oc (zag rfl rfl rfl (Str.zero zam)) (oc (za9 rfl rfl rfl (vq 5 rfl) za7 (Eq.trans (b:=4) rfl rfl)) (zv rfl (za1 (vq 6 rfl)) o0)))))))))) (fun a w hst=>?_)
  have hst:St B w0 30 [(7,_),(9,_)] [⟨4,37,ptrH,_⟩,⟨5,37,ptrH,_⟩,⟨6,37,ptrH,_⟩,⟨8,37,ptrH,_⟩] a w:=hst
  refine zt ?_
  refine wp_seq ?_
  refine gl (sts:=[none,none,none,none]) (news:=[]) (sp:=[.val 23 _,.val 24 _]) [.g 0,.o 1] hst (zv rfl (za2 (gq 1 rfl)) (zv rfl (zdl (vq 0 rfl)) o0)) (fun a w hst=>?_)
  have hst:St B w0 30 [(7,_),(24,_)] [⟨4,37,ptrH,_⟩,⟨5,37,ptrH,_⟩,⟨6,37,ptrH,_⟩,⟨8,37,ptrH,_⟩] a w:=hst
  refine za0 ?_
  refine zaa hst (zm 1 rfl) (fun hb1=>?_) (fun hb1=>?_)
  ·exact absurd hb1 (by simp)
  ·refine wp_skip ?_
   refine zt<|gl (sts:=[none,none,some (4,_),none]) (news:=[]) (sp:=[.val 26 _,.val 27 _,.val 28 _,.val 29 _,.sto 2,.val 7 _]) [.o 5] hst (zv rfl (zac (lz0 3 rfl) za7) (zv rfl (za5 (xs:=[.tmp 26]) (zic hk) (.cons (vq 0 rfl) .nil)) (zv rfl (zcy (vq 1 rfl)) (zv rfl (zcx (vq 1 rfl)) (oc (za9 rfl rfl rfl (vq 2 rfl) za7 (Eq.trans (b:=4) rfl rfl)) (zv rfl (za1 (vq 3 rfl)) o0)))))) (fun a w hst=>?_)
   have hst:St B w0 30 [(7,_)] [⟨4,37,ptrH,_⟩,⟨5,37,ptrH,_⟩,⟨6,37,ptrH,_⟩,⟨8,37,ptrH,_⟩] a w:=hst
   refine za0 ?_
   refine wp_ret ?_
   refine zad ?_ (zar (rs:=[.cell 6 37,.tmp 7]) rfl hst (.cell (zm 2 rfl) za7 (.tmp (zm 0 rfl) .nil)) zd)
   exact zay
theorem do_c {k:Nat}{op:Rat→Rat→Option Rat}(hk:k≤549755813888)(x y:RF):Cn Tryz.prog 100 [FnO k op,(RFA x).va,(RFA y).va] (FrR (doF op x y)):=by
 unfold doF
 cases h:okX x&&okX y with
 | false=>exact do_no h
 | true =>
  rw [if_pos rfl]
  rw [Bool.and_eq_true] at h
  obtain ⟨r,rfl,hr⟩:=okX_r h.1
  obtain ⟨s,rfl,hs⟩:=okX_r h.2
  rw [zd8,zd8]
  cases ho:op r s with
  | none=>exact do_none hr hs ho
  | some z=>exact do_some hk hr hs ho
theorem always1_c {k:Nat}{op:Rat→Rat→Rat}(i:Rat × Rat):Cn Tryz.prog 134 [Qs 2048 i.1,Qs 2048 i.2,(ElP 86 (FnA (FnT k op) fnv_one))] (opV k (some (op i.1 i.2))):=by
 refine Cn.intro Tryz.func134 rfl zk nq (fun B w0 a hst=>?_)
 have hst:St B w0 11 [(0,Qs 2048 i.1),(1,Qs 2048 i.2),(2,(ElP 86 (FnA (FnT k op) fnv_one)))] [] a w0.w:=hst
 refine wp_seq ?_
 refine gl (sts:=[]) (news:=[⟨3,37,ptrH,some 0,_,none⟩,⟨4,37,ptrH,some 1,_,none⟩,⟨5,37,ptrH,some 2,_,none⟩]) (sp:=[.alc 0,.alc 1,.alc 2,.val 6 _]) [.g 2,.o 3] hst (oc (zak rfl rfl rfl (gq 0 rfl)) (oc (zak rfl rfl rfl (gq 1 rfl)) (oc (zag rfl rfl rfl (Str.zero zam)) (zv rfl (za1 zbk) o0)))) (fun a w hst=>?_)
 have hst:St B w0 11 [(2,_),(6,_)] [⟨3,37,ptrH,_⟩,⟨4,37,ptrH,_⟩,⟨5,37,ptrH,_⟩] a w:=hst
 refine zt<|gl (sts:=[none,none,some (4,QA k (op i.1 i.2))]) (news:=[]) (sp:=[.val 7 _,.val 8 _,.val 9 _,.val 10 _,.sto 2,.val 6 _]) [.o 5] hst (zv rfl ((zat (gq 0 rfl) ty_86).wk fna_wk) (zv rfl (zac (lz0 0 rfl) za7) (zv rfl (zac (lz0 1 rfl) za7) (zv rfl (zh7 (xs:=[.tmp 8,.tmp 9]) i (vq 0 rfl) (.cons (vq 1 rfl) (.cons (vq 2 rfl) .nil))) (oc (za9 rfl rfl rfl (vq 3 rfl) za7 (Eq.trans (b:=4) rfl rfl)) (zv rfl (za1 zbk) o0)))))) (fun a w hst=>?_)
 have hst:St B w0 11 [(6,_)] [⟨3,37,ptrH,_⟩,⟨4,37,ptrH,_⟩,⟨5,37,ptrH,_⟩] a w:=hst
 refine za0 ?_
 refine wp_ret ?_
 refine zad ?_ (zar (rs:=[.cell 5 37,.tmp 6]) rfl hst (.cell (zm 2 rfl) za7 (.tmp (zm 0 rfl) .nil)) zd)
 exact zay
theorem zje {k:Nat}{op:Rat→Rat→Rat}:Cn Tryz.prog 98 [FnT k op] (FnO k (fun x y=>some (op x y))):=by
 refine Cn.intro Tryz.func98 rfl zk nq (fun B w0 a hst=>?_)
 have hst:St B w0 4 [(0,FnT k op)] [] a w0.w:=hst
 refine wp_seq ?_
 refine gl (sts:=[]) (news:=[⟨1,86,ptrH,some 0,_,none⟩]) (sp:=[.alc 0,.val 2 _]) [.o 1] hst (oc (zak rfl rfl rfl (has_wk' (gq 0 rfl) (wk_fna (h:=fnv_one)))) (zv rfl (za1 zbh) o0)) (fun a w hst=>?_)
 have hst:St B w0 4 [(2,_)] [⟨1,86,ptrH,_⟩] a w:=hst
 refine zt<|gl (sts:=[none]) (news:=[]) (sp:=[.val 3 _,.val 2 _]) [.o 1] hst (zv rfl (r_mkfunc (xs:=[.tmp 1]) (D:=[86]) (pre:=fun i:Rat × Rat=>[Qs 2048 i.1,Qs 2048 i.2]) (post:=fun i=>opV k (some (op i.1 i.2))) (fun i=>always1_c i) (nd_va rfl) (.cons (zgf (lz0 0 rfl)) .nil)) (zv rfl (za1 (vq 0 rfl)) o0)) (fun a w hst=>?_)
 have hst:St B w0 4 [(2,_)] [⟨1,86,ptrH,_⟩] a w:=hst
 refine za0 ?_
 refine wp_ret ?_
 refine zad ?_ (zaj rfl hst (zm 0 rfl))
 exact zay
end Go.Proofs.YtlpppkkggljdcaaGreat
namespace Go.Proofs.YtlpppkkggljdcaaGreat
open Go Go.RowKit
def addF (x y:RF):RF × Int:=doF (fun a b=>some (a+b)) x y
theorem add_fn (i:Rat × Rat):Cn Tryz.prog 60 [Qs 2048 i.1,Qs 2048 i.2] (Qs 4097 (i.1+i.2)):=plus_q zd
theorem addF_c (x y:RF):Cn Tryz.prog 78 [(RFA x).va,(RFA y).va] (FrR (addF x y)):=by
 refine Cn.intro Tryz.func78 rfl zk nq (fun B w0 a hst=>?_)
 have hst:St B w0 12 [(0,(RFA x).va),(1,(RFA y).va)] [] a w0.w:=hst
 refine wp_seq ?_
 refine gl (sts:=[]) (news:=[⟨2,37,ptrH,some 0,_,none⟩,⟨3,37,ptrH,some 1,_,none⟩,⟨4,37,ptrH,some 2,_,none⟩]) (sp:=[.alc 0,.alc 1,.alc 2,.val 5 _]) [.o 3] hst (oc (zak rfl rfl rfl (gq 0 rfl)) (oc (zak rfl rfl rfl (gq 1 rfl)) (oc (zag rfl rfl rfl (Str.zero zam)) (zv rfl (za1 za3) o0)))) (fun a w hst=>?_)
 have hst:St B w0 12 [(5,_)] [⟨2,37,ptrH,_⟩,⟨3,37,ptrH,_⟩,⟨4,37,ptrH,_⟩] a w:=hst
 refine zt<|zav (anc:=[[],[],[],[0,1,2],[0,1,2,3],[0,1,2,3],[0,1,2,3,4,5],[0,1,2,3,4,5,6]]) (sts:=[none,none,some (6,_)]) (news:=[]) (sp:=[.val 6 _,.val 7 _,.val 8 _,.val 9 _,.val 10 _,.val 11 _,.sto 2,.val 5 _]) [.o 7] za6 hst (zv rfl (za5 (xs:=[.func 60]) (zje (k:=4097) (op:=fun a b=>a+b)) (.cons (zgq add_fn) .nil)) (zv rfl (zac (lz0 0 rfl) za7) (zv rfl (zac (lz0 1 rfl) za7) (zv rfl (za5 (xs:=[.tmp 6,.tmp 7,.tmp 8]) (do_c zd x y) (.cons (vq 0 rfl) (.cons (vq 1 rfl) (.cons (vq 2 rfl) .nil)))) (zv rfl (zcy (vq 3 rfl)) (zv rfl (zcx (vq 3 rfl)) (oc (za9 rfl rfl rfl (vq 4 rfl) za7 (Eq.trans (b:=4) rfl rfl)) (zv rfl (za1 (vq 5 rfl)) o0)))))))) zk zk zk zk (fun a w hst=>?_)
 have hst:St B w0 12 [(5,_)] [⟨2,37,ptrH,_⟩,⟨3,37,ptrH,_⟩,⟨4,37,ptrH,_⟩] a w:=hst
 refine za0 ?_
 refine wp_ret ?_
 refine zad ?_ (zar (rs:=[.cell 4 37,.tmp 5]) rfl hst (.cell (zm 2 rfl) za7 (.tmp (zm 0 rfl) .nil)) zd)
 exact zay
def subF (x y:RF):RF × Int:=doF (fun a b=>some (a-b)) x y
theorem sub_fn (i:Rat × Rat):Cn Tryz.prog 99 [Qs 2048 i.1,Qs 2048 i.2] (Qs 4097 (i.1-i.2)):=zj3 zd
theorem subF_c (x y:RF):Cn Tryz.prog 62 [(RFA x).va,(RFA y).va] (FrR (subF x y)):=by
 refine Cn.intro Tryz.func62 rfl zk nq (fun B w0 a hst=>?_)
 have hst:St B w0 12 [(0,(RFA x).va),(1,(RFA y).va)] [] a w0.w:=hst
 refine wp_seq ?_
 refine gl (sts:=[]) (news:=[⟨2,37,ptrH,some 0,_,none⟩,⟨3,37,ptrH,some 1,_,none⟩,⟨4,37,ptrH,some 2,_,none⟩]) (sp:=[.alc 0,.alc 1,.alc 2,.val 5 _]) [.o 3] hst (oc (zak rfl rfl rfl (gq 0 rfl)) (oc (zak rfl rfl rfl (gq 1 rfl)) (oc (zag rfl rfl rfl (Str.zero zam)) (zv rfl (za1 za3) o0)))) (fun a w hst=>?_)
 have hst:St B w0 12 [(5,_)] [⟨2,37,ptrH,_⟩,⟨3,37,ptrH,_⟩,⟨4,37,ptrH,_⟩] a w:=hst
 refine zt<|zav (anc:=[[],[],[],[0,1,2],[0,1,2,3],[0,1,2,3],[0,1,2,3,4,5],[0,1,2,3,4,5,6]]) (sts:=[none,none,some (6,_)]) (news:=[]) (sp:=[.val 6 _,.val 7 _,.val 8 _,.val 9 _,.val 10 _,.val 11 _,.sto 2,.val 5 _]) [.o 7] za6 hst (zv rfl (za5 (xs:=[.func 99]) (zje (k:=4097) (op:=fun a b=>a-b)) (.cons (zgq sub_fn) .nil)) (zv rfl (zac (lz0 0 rfl) za7) (zv rfl (zac (lz0 1 rfl) za7) (zv rfl (za5 (xs:=[.tmp 6,.tmp 7,.tmp 8]) (do_c zd x y) (.cons (vq 0 rfl) (.cons (vq 1 rfl) (.cons (vq 2 rfl) .nil)))) (zv rfl (zcy (vq 3 rfl)) (zv rfl (zcx (vq 3 rfl)) (oc (za9 rfl rfl rfl (vq 4 rfl) za7 (Eq.trans (b:=4) rfl rfl)) (zv rfl (za1 (vq 5 rfl)) o0)))))))) zk zk zk zk (fun a w hst=>?_)
 have hst:St B w0 12 [(5,_)] [⟨2,37,ptrH,_⟩,⟨3,37,ptrH,_⟩,⟨4,37,ptrH,_⟩] a w:=hst
 refine za0 ?_
 refine wp_ret ?_
 refine zad ?_ (zar (rs:=[.cell 4 37,.tmp 5]) rfl hst (.cell (zm 2 rfl) za7 (.tmp (zm 0 rfl) .nil)) zd)
 exact zay
def mulF (x y:RF):RF × Int:=doF (fun a b=>some (a*b)) x y
theorem mul_fn (i:Rat × Rat):Cn Tryz.prog 51 [Qs 2048 i.1,Qs 2048 i.2] (Qs 4096 (i.1*i.2)):=zds zd
theorem mul_c (x y:RF):Cn Tryz.prog 77 [(RFA x).va,(RFA y).va] (FrR (mulF x y)):=by
 refine Cn.intro Tryz.func77 rfl zk nq (fun B w0 a hst=>?_)
 have hst:St B w0 12 [(0,(RFA x).va),(1,(RFA y).va)] [] a w0.w:=hst
 refine wp_seq ?_
 refine gl (sts:=[]) (news:=[⟨2,37,ptrH,some 0,_,none⟩,⟨3,37,ptrH,some 1,_,none⟩,⟨4,37,ptrH,some 2,_,none⟩]) (sp:=[.alc 0,.alc 1,.alc 2,.val 5 _]) [.o 3] hst (oc (zak rfl rfl rfl (gq 0 rfl)) (oc (zak rfl rfl rfl (gq 1 rfl)) (oc (zag rfl rfl rfl (Str.zero zam)) (zv rfl (za1 za3) o0)))) (fun a w hst=>?_)
 have hst:St B w0 12 [(5,_)] [⟨2,37,ptrH,_⟩,⟨3,37,ptrH,_⟩,⟨4,37,ptrH,_⟩] a w:=hst
 refine zt<|zav (anc:=[[],[],[],[0,1,2],[0,1,2,3],[0,1,2,3],[0,1,2,3,4,5],[0,1,2,3,4,5,6]]) (sts:=[none,none,some (6,_)]) (news:=[]) (sp:=[.val 6 _,.val 7 _,.val 8 _,.val 9 _,.val 10 _,.val 11 _,.sto 2,.val 5 _]) [.o 7] za6 hst (zv rfl (za5 (xs:=[.func 51]) (zje (k:=4096) (op:=fun a b=>a*b)) (.cons (zgq mul_fn) .nil)) (zv rfl (zac (lz0 0 rfl) za7) (zv rfl (zac (lz0 1 rfl) za7) (zv rfl (za5 (xs:=[.tmp 6,.tmp 7,.tmp 8]) (do_c zd x y) (.cons (vq 0 rfl) (.cons (vq 1 rfl) (.cons (vq 2 rfl) .nil)))) (zv rfl (zcy (vq 3 rfl)) (zv rfl (zcx (vq 3 rfl)) (oc (za9 rfl rfl rfl (vq 4 rfl) za7 (Eq.trans (b:=4) rfl rfl)) (zv rfl (za1 (vq 5 rfl)) o0)))))))) zk zk zk zk (fun a w hst=>?_)
 have hst:St B w0 12 [(5,_)] [⟨2,37,ptrH,_⟩,⟨3,37,ptrH,_⟩,⟨4,37,ptrH,_⟩] a w:=hst
 refine za0 ?_
 refine wp_ret ?_
 refine zad ?_ (zar (rs:=[.cell 4 37,.tmp 5]) rfl hst (.cell (zm 2 rfl) za7 (.tmp (zm 0 rfl) .nil)) zd)
 exact zay
def cmF (x y:RF):Int:=if okX x&&okX y then cmQ (toQ x) (toQ y) else 0
theorem ex_checkI : ∃ fn, Tryz.prog.funcs[131]? = some fn ∧ (fn.name == "runtime.NumGoroutine") = false ∧ fn.body.isNone = false := ⟨_, Tryz.func131, by kernel_rfl, by kernel_rfl⟩
theorem check_z {c:Nat}{p:Int}(hc:c≤2048):Cn Tryz.prog 131 [Zs c p] (In 0):=zs1 ex_checkI fun h=>(check_c (riOf p)).post (by rw [zl0,decide_eq_true (by omega:lz p≤2048)]; rfl)
theorem lz_i64 {p:Int}(h0 : -9223372036854775808≤p)(h1:p<9223372036854775808):lz p≤2:=lz_le zo
theorem zjd {q:Rat}(h:lz q.num≤2048∧lz (q.den:Int)≤2048):ansF q=(rfOf q,0):=by rw [ansF,longQ_false.2 h]; rfl
theorem ansF_low {p q:Int}(hq:q≠0)(hp:lz p≤2)(h2:lz q≤2):ansF (Rat.divInt p q)=(rfOf (Rat.divInt p q),0):=by
 have:=ze6 (p:=p) hq
 exact zjd zo
theorem make_q {p q:Int}(hq:q≠0):Cn Tryz.prog 113 [Zs 2 p,Zs 2 q] (FrR (ansF (Rat.divInt p q))):=by
 refine Cn.intro Tryz.func113 rfl zk nq (fun B w0 a hst=>?_)
 have hst:St B w0 25 [(0,Zs 2 p),(1,Zs 2 q)] [] a w0.w:=hst
 refine wp_seq ?_
 refine gl (sts:=[]) (news:=[⟨2,35,ptrH,some 0,_,none⟩,⟨3,35,ptrH,some 1,_,none⟩,⟨4,37,ptrH,some 2,_,none⟩]) (sp:=[.alc 0,.alc 1,.alc 2,.val 5 _]) [.o 3] hst (oc (zak rfl rfl rfl (gq 0 rfl)) (oc (zak rfl rfl rfl (gq 1 rfl)) (oc (zag rfl rfl rfl (Str.zero zam)) (zv rfl (za1 za3) o0)))) (fun a w hst=>?_)
 have hst:St B w0 25 [(5,_)] [⟨2,35,ptrH,_⟩,⟨3,35,ptrH,_⟩,⟨4,37,ptrH,_⟩] a w:=hst
 refine zt ?_
 refine wp_seq ?_
 refine gl (sts:=[none,none,none]) (news:=[]) (sp:=[.val 6 _,.val 7 _,.val 8 _,.val 9 _,.val 10 (Wh (_=false) _),.val 11 (Wh (_=false) _),.val 12 (Wh (_=false) _),.val 13 _]) [.g 0,.o 7] hst (zv rfl (zac (lz0 0 rfl) zal) (zv rfl (za5 (xs:=[.tmp 6]) (check_z zd) (.cons (vq 0 rfl) .nil)) (zv rfl (zcf (vq 1 rfl) za3) (zv rfl (za2 (vq 2 rfl)) (oc (zan rfl rfl rfl (vq 3 rfl) nq (fun hg=>zac (lz0 1 rfl) zal)) (oc (zan rfl rfl rfl (vq 3 rfl) nq (fun hg=>za5 (xs:=[.tmp 10]) (check_z zd) (.cons (zah (vq 4 rfl) hg) .nil))) (oc (zan rfl rfl rfl (vq 3 rfl) nq (fun hg=>zcf (zah (vq 5 rfl) hg) za3)) (zv rfl (r_or (vq 3 rfl) (vq 6 rfl)) o0)))))))) (fun a w hst=>?_)
 have hst:St B w0 25 [(5,_),(13,_)] [⟨2,35,ptrH,_⟩,⟨3,35,ptrH,_⟩,⟨4,37,ptrH,_⟩] a w:=hst
 refine za0 ?_
 refine zaa hst (zm 1 rfl) (fun hb0=>?_) (fun hb0=>?_)
 ·exact absurd hb0 zd
 ·refine wp_skip ?_
  refine zt ?_
  refine wp_seq ?_
  refine gl (sts:=[none,none,none]) (news:=[]) (sp:=[.val 15 _,.val 16 _,.val 17 _]) [.g 0,.o 2] hst (zv rfl (zac (lz0 1 rfl) zal) (zv rfl (za5 (xs:=[.tmp 15]) sign_z (.cons (vq 0 rfl) .nil)) (zv rfl (zcc (vq 1 rfl) za3) o0))) (fun a w hst=>?_)
  have hst:St B w0 25 [(5,_),(17,_)] [⟨2,35,ptrH,_⟩,⟨3,35,ptrH,_⟩,⟨4,37,ptrH,_⟩] a w:=hst
  refine za0 ?_
  refine zaa hst (zm 1 rfl) (fun hb1=>?_) (fun hb1=>?_)
  ·exact absurd hb1 (by simpa using hq)
  ·refine wp_skip ?_
   refine zt<|gl (sts:=[none,none,some (6,_)]) (news:=[]) (sp:=[.val 19 _,.val 20 _,.val 21 _,.val 22 _,.val 23 _,.val 24 _,.sto 2,.val 5 _]) [.o 7] hst (zv rfl (zac (lz0 0 rfl) zal) (zv rfl (zac (lz0 1 rfl) zal) (zv rfl (za5 (xs:=[.tmp 19,.tmp 20]) (zf1 zd zd hq) (.cons (vq 0 rfl) (.cons (vq 1 rfl) .nil))) (zv rfl (za5 (xs:=[.tmp 21]) (zic zd) (.cons (vq 2 rfl) .nil)) (zv rfl (zcy (vq 3 rfl)) (zv rfl (zcx (vq 3 rfl)) (oc (za9 rfl rfl rfl (vq 4 rfl) za7 (Eq.trans (b:=4) rfl rfl)) (zv rfl (za1 (vq 5 rfl)) o0)))))))) (fun a w hst=>?_)
   have hst:St B w0 25 [(5,_)] [⟨2,35,ptrH,_⟩,⟨3,35,ptrH,_⟩,⟨4,37,ptrH,_⟩] a w:=hst
   refine za0 ?_
   refine wp_ret ?_
   refine zad ?_ (zar (rs:=[.cell 4 37,.tmp 5]) rfl hst (.cell (zm 2 rfl) za7 (.tmp (zm 0 rfl) .nil)) zd)
   exact zay
theorem ofQ_c {p q:Int}(hp : -9223372036854775808≤p)(hp1:p<9223372036854775808)(hq0 : -9223372036854775808≤q)(hq1:q<9223372036854775808)(hq:q≠0):Cn Tryz.prog 75 [In p,In q] (FrR (rfOf (Rat.divInt p q),0)):=by
 refine Cn.intro Tryz.func75 rfl zk nq (fun B w0 a hst=>?_)
 have hst:St B w0 13 [(0,In p),(1,In q)] [] a w0.w:=hst
 refine wp_seq ?_
 refine gl (sts:=[]) (news:=[⟨4,37,ptrH,some 0,_,none⟩]) (sp:=[.alc 0,.val 5 _]) [.g 0,.g 1,.o 1] hst (oc (zag rfl rfl rfl (Str.zero zam)) (zv rfl (za1 za3) o0)) (fun a w hst=>?_)
 have hst:St B w0 13 [(0,_),(1,_),(5,_)] [⟨4,37,ptrH,_⟩] a w:=hst
 refine zt<|gl (sts:=[some (7,_)]) (news:=[]) (sp:=[.val 6 _,.val 7 _,.val 8 _,.val 9 _,.val 10 _,.val 11 _,.val 12 _,.sto 0,.val 5 _]) [.o 8] hst (zv rfl (za2 (gq 0 rfl)) (zv rfl (za5 (xs:=[.tmp 6]) (of_z hp hp1) (.cons (vq 0 rfl) .nil)) (zv rfl (za2 (gq 1 rfl)) (zv rfl (za5 (xs:=[.tmp 8]) (of_z hq0 hq1) (.cons (vq 2 rfl) .nil)) (zv rfl (za5 (xs:=[.tmp 7,.tmp 9]) (make_q hq) (.cons (vq 1 rfl) (.cons (vq 3 rfl) .nil))) (zv rfl (zcy (vq 4 rfl)) (zv rfl (zcx (vq 4 rfl)) (oc (za9 rfl rfl rfl (vq 5 rfl) za7 (Eq.trans (b:=4) rfl rfl)) (zv rfl (za1 (vq 6 rfl)) o0))))))))) (fun a w hst=>?_)
 have hst:St B w0 13 [(5,_)] [⟨4,37,ptrH,_⟩] a w:=hst
 refine za0 ?_
 refine wp_ret ?_
 refine zad ?_ (zar (rs:=[.cell 4 37,.tmp 5]) rfl hst (.cell (zm 0 rfl) za7 (.tmp (zm 0 rfl) .nil)) zd)
 rw [← ansF_low hq (lz_i64 hp hp1) (lz_i64 hq0 hq1)]; exact zay
theorem zka (x y:RF):Cn Tryz.prog 21 [(RFA x).va,(RFA y).va] (In (cmF x y)):=by
 refine Cn.intro Tryz.func21 rfl zk nq (fun B w0 a hst=>?_)
 have hst:St B w0 13 [(0,(RFA x).va),(1,(RFA y).va)] [] a w0.w:=hst
 refine wp_seq ?_
 refine gl (sts:=[]) (news:=[⟨2,37,ptrH,some 0,_,none⟩,⟨3,37,ptrH,some 1,_,none⟩]) (sp:=[.alc 0,.alc 1,.val 4 _]) [.o 2] hst (oc (zak rfl rfl rfl (gq 0 rfl)) (oc (zak rfl rfl rfl (gq 1 rfl)) (zv rfl (za1 za3) o0))) (fun a w hst=>?_)
 have hst:St B w0 13 [(4,_)] [⟨2,37,ptrH,_⟩,⟨3,37,ptrH,_⟩] a w:=hst
 refine zt ?_
 refine wp_seq ?_
 refine gl (sts:=[none,none]) (news:=[]) (sp:=[.val 5 _,.val 6 _,.val 7 _,.val 8 _,.val 9 _]) [.g 0,.o 4] hst (zv rfl (zac (lz0 0 rfl) za7) (zv rfl (zac (lz0 1 rfl) za7) (zv rfl (zc5 (D:=[U32]) (l:=[_,_]) (xs:=[.tmp 5,.tmp 6]) (zdt zk) zdf zk (n_ok zk) nq nq nq (.cons (vq 0 rfl) (.cons (vq 1 rfl) .nil)) rfl rfl) (zv rfl (za5 (xs:=[.tmp 7]) (zdr [x,y] nq) (.cons (vq 2 rfl) .nil)) (zv rfl (zdl (vq 3 rfl)) o0))))) (fun a w hst=>?_)
 have hst:St B w0 13 [(4,_),(9,_)] [⟨2,37,ptrH,_⟩,⟨3,37,ptrH,_⟩] a w:=hst
 refine za0 ?_
 refine zaa hst (zm 1 rfl) (fun hb0=>?_) (fun hb0=>?_)
 ·rw [zjp] at hb0
  refine wp_seq ?_
  refine gl (sts:=[none,none]) (news:=[]) (sp:=[.val 4 _]) [.o 0] hst (zv rfl (za1 za3) o0) (fun a w hst=>?_)
  have hst:St B w0 13 [(4,_)] [⟨2,37,ptrH,_⟩,⟨3,37,ptrH,_⟩] a w:=hst
  refine za0 ?_
  refine wp_ret ?_
  refine zaf ?_
  refine zad ?_ (zaj rfl hst (zm 0 rfl))
  exact zcp (by rw [cmF,if_neg (by intro hh; rw [hh] at hb0; exact absurd hb0 zd)])
 ·rw [zjp,Bool.not_eq_false',Bool.and_eq_true] at hb0
  have hx:=zh9 hb0.1
  have hy:=zh9 hb0.2
  refine wp_skip ?_
  refine zt<|gl (sts:=[none,none]) (news:=[]) (sp:=[.val 10 _,.val 11 _,.val 12 _,.val 4 _]) [.o 3] hst (zv rfl (zac (lz0 0 rfl) za7) (zv rfl (zac (lz0 1 rfl) za7) (zv rfl (za5 (xs:=[.tmp 10,.tmp 11]) ((zhr zd).wk (.cons (zca (zcp (congrArg (fun y=>(RFA y).va) hx.1)) (zga hx.2.1 hx.2.2).va) (.cons (zca (zcp (congrArg (fun y=>(RFA y).va) hy.1)) (zga hy.2.1 hy.2.2).va) .nil))) (.cons (vq 0 rfl) (.cons (vq 1 rfl) .nil))) (zv rfl (za1 (vq 2 rfl)) o0)))) (fun a w hst=>?_)
  have hst:St B w0 13 [(4,_)] [⟨2,37,ptrH,_⟩,⟨3,37,ptrH,_⟩] a w:=hst
  refine za0 ?_
  refine wp_ret ?_
  refine zad ?_ (zaj rfl hst (zm 0 rfl))
  exact zcp (by rw [cmF,if_pos (by rw [hb0.1,hb0.2]; rfl)])
end Go.Proofs.YtlpppkkggljdcaaGreat
