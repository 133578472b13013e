import Derived.Test.YtlpppkkggljdcaaGreatTcAa
import Derived.Test.YtlpppkkggljdcaaGreatTcAc
import Derived.Test.YtlpppkkggljdcaaGreatTcAp
import Derived.ArgAppend
import Derived.Laws.AppendOwn
import Derived.Great.BuildSlice
set_option linter.unusedVariables false
set_option linter.unusedSimpArgs false
set_option linter.unusedSectionVars false
set_option maxRecDepth 100000
namespace Go.Proofs.YtlpppkkggljdcaaGreat
open Go Go.RowKit
def elK (k ps qs:Int):Bool:=if k==1 then decide (ps≥0)&&(qs==0) else if k==2 then (qs==0) else if k==3 then decide (ps≥0)&&decide (qs>0) else if k==4 then true else ((k==5)&&(ps==0))&&(qs==0)
def elF (x:RE):Bool:=[x.p,x.q].all okX&&elK x.k (toQ x.p).num.sign (toQ x.q).num.sign
def elQ (k:Int)(p q:Rat):MQ:=if k=1 then ⟨1,p,0,1⟩ else if k=2 then ⟨1,0,0-p,1⟩ else if k=3 then ⟨1,p/q,0,1⟩ else if k=4 then ⟨1,0,0-p*q,1⟩ else ⟨0-1,0-0,0-0,0-1⟩
def elM (x:RE):MQ:=elQ x.k (toQ x.p) (toQ x.q)
def prodQ (xs:List RE):MQ:=xs.foldl (fun m x=>mulQ (elM x) m) ⟨1,0,0,1⟩
def chF (xs:List RE):Int:=if xs.length>4096 then 4 else if xs.all elF then 0 else 1
theorem elF_no {x:RE}(h:(![x.p,x.q].all okX)=true):elF x=false:=by rw [Bool.not_eq_true'] at h; rw [elF,h]; rfl
theorem elF_ok {x:RE}(h:(![x.p,x.q].all okX)=false):[x.p,x.q].all okX=true∧elF x=elK x.k (toQ x.p).num.sign (toQ x.q).num.sign:=by rw [Bool.not_eq_false'] at h; exact ⟨h,by rw [elF,h]; rfl⟩
theorem el_q {x:RE}(h:[x.p,x.q].all okX=true):WkA (REA x) (QEA 2048 x.k (toQ x.p) (toQ x.q)):=by
 simp only [List.all_cons,List.all_nil,Bool.and_true,Bool.and_eq_true] at h
 exact zci (.cons (WkA.refl _) (.cons (qa_x h.1 (Nat.le_refl _)) (.cons (qa_x h.2 (Nat.le_refl _)) .nil)))
theorem upA_re (x:RE):UpA (REA x) (REA x):=zh9 (.cons (zii _ _) (.cons (zij _) (.cons (zij _) .nil)))
theorem kd1 {k ps qs:Int}(h:(k==1)=true):elK k ps qs=(decide (ps≥0)&&(qs==0)):=by rw [elK,h]; rfl
theorem kd2 {k ps qs:Int}(h1:(k==1)=false)(h:(k==2)=true):elK k ps qs=(qs==0):=by rw [elK,h1,h]; rfl
theorem kd3 {k ps qs:Int}(h1:(k==1)=false)(h2:(k==2)=false)(h:(k==3)=true):elK k ps qs=(decide (ps≥0)&&decide (qs>0)):=by rw [elK,h1,h2,h]; rfl
theorem kd4 {k ps qs:Int}(h1:(k==1)=false)(h2:(k==2)=false)(h3:(k==3)=false)(h:(k==4)=true):elK k ps qs=true:=by rw [elK,h1,h2,h3,h]; rfl
theorem kd5 {k ps qs:Int}(h1:(k==1)=false)(h2:(k==2)=false)(h3:(k==3)=false)(h4:(k==4)=false):elK k ps qs=(((k==5)&&(ps==0))&&(qs==0)):=by rw [elK,h1,h2,h3,h4]; rfl
theorem elMay_c (x:RE):Cn Tryz.prog 54 [(REA x).va] (Bo (elF x)):=by
 refine Cn.intro Tryz.func54 rfl zk nq (fun B w0 a hst=>?_)
 have hst:St B w0 53 [(0,(REA x).va)] [] a w0.w:=hst
 refine wp_seq ?_
 refine gl (sts:=[]) (news:=[⟨1,62,ptrH,some 0,_,none⟩]) (sp:=[.alc 0,.val 2 _]) [.o 1] hst (oc (zan rfl rfl rfl (gq 0 rfl)) (zv rfl (za1 zba) o0)) (fun a w hst=>?_)
 have hst:St B w0 53 [(2,_)] [⟨1,62,ptrH,_⟩] a w:=hst
 refine zt ?_
 refine wp_seq ?_
 refine gl (sts:=[none]) (news:=[]) (sp:=[.adr 5 1 (.some 1) True,.val 6 _,.adr 7 1 (.some 5) True,.val 8 _,.val 9 _,.val 10 _,.val 11 _]) [.g 0,.o 6] hst (oc (ob_a rfl rfl (za7 (lz0 0 rfl) zdb)) (zv rfl (za4 0 rfl zk trivial (lz0 0 rfl) (Sub.part 1 rfl rfl) zao) (oc (ob_a rfl rfl (za7 (lz0 0 rfl) zda)) (zv rfl (za4 2 rfl zk trivial (lz0 0 rfl) (Sub.part 2 rfl rfl) zao) (zv rfl (zcx (D:=[U32]) (l:=[_,_]) (xs:=[.tmp 6,.tmp 8]) (zfq zk) zg4 zk (n_ok zk) nq nq nq (.cons (vq 1 rfl) (.cons (vq 3 rfl) .nil)) rfl rfl) (zv rfl (za5 (xs:=[.tmp 9]) (checks_c [x.p,x.q] nq) (.cons (vq 4 rfl) .nil)) (zv rfl (zev (vq 5 rfl)) o0))))))) (fun a w hst=>?_)
 have hst:St B w0 53 [(2,_),(11,_)] [⟨1,62,ptrH,_⟩] a w:=hst
 refine za0 ?_
 refine za8 hst (zm 1 rfl) (fun hb0=>?_) (fun hb0=>?_)
 ·refine wp_seq ?_
  refine gl (sts:=[none]) (news:=[]) (sp:=[.val 2 _]) [.o 0] hst (zv rfl (za1 zba) o0) (fun a w hst=>?_)
  have hst:St B w0 53 [(2,_)] [⟨1,62,ptrH,_⟩] a w:=hst
  refine za0 ?_
  refine wp_ret ?_
  refine zad ?_
  refine zai ?_ (zaa rfl hst (zm 0 rfl))
  rw [elF_no hb0]; exact zb6
 ·obtain ⟨hx,he⟩:=elF_ok hb0
  have hst:=St.wkL hst 0 rfl (el_q hx)
  refine wp_skip ?_
  refine zt<|zaz (anc:=[[],[0],[0,1],[],[3],[0,1,2,3,4],[0,1,2,3,4,5],[0,1,2,3,4,5,6]]) (sts:=[none]) (news:=[]) (sp:=[.adr 12 1 (.some 1) True,.val 13 _,.val 14 _,.adr 15 1 (.some 5) True,.val 16 _,.val 17 _,.val 3 _,.val 4 _]) [.g 0,.o 6,.o 7] za6 hst (oc (ob_a rfl rfl (za7 (lz0 0 rfl) zdb)) (zv rfl (za4 0 rfl zk trivial (lz0 0 rfl) (Sub.part 1 rfl rfl) zao) (zv rfl (za5 (xs:=[.tmp 13]) sign_q (.cons (vq 1 rfl) .nil)) (oc (ob_a rfl rfl (za7 (lz0 0 rfl) zda)) (zv rfl (za4 3 rfl zk trivial (lz0 0 rfl) (Sub.part 2 rfl rfl) zao) (zv rfl (za5 (xs:=[.tmp 16]) sign_q (.cons (vq 4 rfl) .nil)) (zv rfl (za1 (vq 2 rfl)) (zv rfl (za1 (vq 5 rfl)) o0)))))))) zk zk zk zk (fun a w hst=>?_)
  have hst:St B w0 53 [(2,_),(3,_),(4,_)] [⟨1,62,ptrH,_⟩] a w:=hst
  refine zt ?_
  refine wp_seq ?_
  refine gl (sts:=[none]) (news:=[]) (sp:=[.adr 18 1 (.some 0) True,.val 19 _]) [.g 0,.g 1,.g 2,.o 1] hst (oc (ob_a rfl rfl (za7 (lz0 0 rfl) ze0)) (zv rfl (za4 0 rfl zk trivial (lz0 0 rfl) (Sub.part 0 rfl rfl) zeb) o0)) (fun a w hst=>?_)
  have hst:St B w0 53 [(2,_),(3,_),(4,_),(19,_)] [⟨1,62,ptrH,_⟩] a w:=hst
  refine za0 ?_
  refine wp_block ?_
  refine wp_seq ?_
  refine gl (sts:=[none]) (news:=[]) (sp:=[.val 21 _,.val 20 _]) [.g 0,.g 1,.g 2,.g 3,.o 1] hst (zv rfl (zc2 (gq 3 rfl) za3) (zv rfl (za1 (vq 0 rfl)) o0)) (fun a w hst=>?_)
  have hst:St B w0 53 [(2,_),(3,_),(4,_),(19,_),(20,_)] [⟨1,62,ptrH,_⟩] a w:=hst
  refine za0 ?_
  refine za8 hst (zm 4 rfl) (fun hb1=>?_) (fun hb1=>?_)
  ·refine wp_seq ?_
   refine gl (sts:=[none]) (news:=[]) (sp:=[.val 22 _,.val 23 _,.val 24 _,.val 25 (Wh (_=true) _),.val 26 (Wh (_=true) _),.val 27 _,.val 2 _]) [.g 1,.g 2,.o 6] hst (zv rfl (za2 (gq 1 rfl)) (zv rfl (zee (vq 0 rfl) za3) (zv rfl (za2 (vq 1 rfl)) (oc (zal rfl rfl rfl (vq 2 rfl) nq (fun hg=>za2 (gq 2 rfl))) (oc (zal rfl rfl rfl (vq 2 rfl) nq (fun hg=>zc2 (zae (vq 3 rfl) hg) za3)) (zv rfl (zcj (vq 2 rfl) (vq 4 rfl)) (zv rfl (za1 (vq 5 rfl)) o0))))))) (fun a w hst=>?_)
   have hst:St B w0 53 [(3,_),(4,_),(2,_)] [⟨1,62,ptrH,_⟩] a w:=hst
   refine za0 ?_
   refine wp_ret ?_
   refine zb3 ?_
   refine zad ?_
   refine zai ?_ (zaa rfl hst (zm 2 rfl))
   rw [he,kd1 hb1]; exact zb6
  ·refine wp_seq ?_
   refine gl (sts:=[none]) (news:=[]) (sp:=[.val 29 _,.val 28 _]) [.g 0,.g 1,.g 2,.g 3,.o 1] hst (zv rfl (zc2 (gq 3 rfl) za3) (zv rfl (za1 (vq 0 rfl)) o0)) (fun a w hst=>?_)
   have hst:St B w0 53 [(2,_),(3,_),(4,_),(19,_),(28,_)] [⟨1,62,ptrH,_⟩] a w:=hst
   refine za0 ?_
   refine za8 hst (zm 4 rfl) (fun hb2=>?_) (fun hb2=>?_)
   ·refine wp_seq ?_
    refine gl (sts:=[none]) (news:=[]) (sp:=[.val 30 _,.val 31 _,.val 2 _]) [.g 1,.g 2,.o 2] hst (zv rfl (za2 (gq 2 rfl)) (zv rfl (zc2 (vq 0 rfl) za3) (zv rfl (za1 (vq 1 rfl)) o0))) (fun a w hst=>?_)
    have hst:St B w0 53 [(3,_),(4,_),(2,_)] [⟨1,62,ptrH,_⟩] a w:=hst
    refine za0 ?_
    refine wp_ret ?_
    refine zb3 ?_
    refine zad ?_
    refine zai ?_ (zaa rfl hst (zm 2 rfl))
    rw [he,kd2 hb1 hb2]; exact zb6
   ·refine wp_seq ?_
    refine gl (sts:=[none]) (news:=[]) (sp:=[.val 33 _,.val 32 _]) [.g 0,.g 1,.g 2,.g 3,.o 1] hst (zv rfl (zc2 (gq 3 rfl) za3) (zv rfl (za1 (vq 0 rfl)) o0)) (fun a w hst=>?_)
    have hst:St B w0 53 [(2,_),(3,_),(4,_),(19,_),(32,_)] [⟨1,62,ptrH,_⟩] a w:=hst
    refine za0 ?_
    refine za8 hst (zm 4 rfl) (fun hb3=>?_) (fun hb3=>?_)
    ·refine wp_seq ?_
     refine gl (sts:=[none]) (news:=[]) (sp:=[.val 34 _,.val 35 _,.val 36 _,.val 37 (Wh (_=true) _),.val 38 (Wh (_=true) _),.val 39 _,.val 2 _]) [.g 1,.g 2,.o 6] hst (zv rfl (za2 (gq 1 rfl)) (zv rfl (zee (vq 0 rfl) za3) (zv rfl (za2 (vq 1 rfl)) (oc (zal rfl rfl rfl (vq 2 rfl) nq (fun hg=>za2 (gq 2 rfl))) (oc (zal rfl rfl rfl (vq 2 rfl) nq (fun hg=>zdo (zae (vq 3 rfl) hg) za3)) (zv rfl (zcj (vq 2 rfl) (vq 4 rfl)) (zv rfl (za1 (vq 5 rfl)) o0))))))) (fun a w hst=>?_)
     have hst:St B w0 53 [(3,_),(4,_),(2,_)] [⟨1,62,ptrH,_⟩] a w:=hst
     refine za0 ?_
     refine wp_ret ?_
     refine zb3 ?_
     refine zad ?_
     refine zai ?_ (zaa rfl hst (zm 2 rfl))
     rw [he,kd3 hb1 hb2 hb3]; exact zb6
    ·refine wp_seq ?_
     refine gl (sts:=[none]) (news:=[]) (sp:=[.val 41 _,.val 40 _]) [.g 0,.g 1,.g 2,.o 1] hst (zv rfl (zc2 (gq 3 rfl) za3) (zv rfl (za1 (vq 0 rfl)) o0)) (fun a w hst=>?_)
     have hst:St B w0 53 [(2,_),(3,_),(4,_),(40,_)] [⟨1,62,ptrH,_⟩] a w:=hst
     refine za0 ?_
     refine za8 hst (zm 3 rfl) (fun hb4=>?_) (fun hb4=>?_)
     ·refine wp_seq ?_
      refine gl (sts:=[none]) (news:=[]) (sp:=[.val 2 _]) [.g 1,.g 2,.o 0] hst (zv rfl (za1 zba) o0) (fun a w hst=>?_)
      have hst:St B w0 53 [(3,_),(4,_),(2,_)] [⟨1,62,ptrH,_⟩] a w:=hst
      refine za0 ?_
      refine wp_ret ?_
      refine zb3 ?_
      refine zad ?_
      refine zai ?_ (zaa rfl hst (zm 2 rfl))
      rw [he,kd4 hb1 hb2 hb3 hb4]; exact zb6
     ·refine wp_skip ?_
      refine zaj ?_
      refine zt<|gl (sts:=[none]) (news:=[]) (sp:=[.adr 42 1 (.some 0) True,.val 43 _,.val 44 _,.val 45 _,.val 46 (Wh (_=true) _),.val 47 (Wh (_=true) _),.val 48 _,.val 49 _,.val 50 (Wh (_=true) _),.val 51 (Wh (_=true) _),.val 52 _,.val 2 _]) [.o 11] hst (oc (ob_a rfl rfl (za7 (lz0 0 rfl) ze0)) (zv rfl (za4 0 rfl zk trivial (lz0 0 rfl) (Sub.part 0 rfl rfl) zeb) (zv rfl (zc2 (vq 1 rfl) za3) (zv rfl (za2 (vq 2 rfl)) (oc (zal rfl rfl rfl (vq 3 rfl) nq (fun hg=>za2 (gq 1 rfl))) (oc (zal rfl rfl rfl (vq 3 rfl) nq (fun hg=>zc2 (zae (vq 4 rfl) hg) za3)) (zv rfl (zcj (vq 3 rfl) (vq 5 rfl)) (zv rfl (za2 (vq 6 rfl)) (oc (zal rfl rfl rfl (vq 7 rfl) nq (fun hg=>za2 (gq 2 rfl))) (oc (zal rfl rfl rfl (vq 7 rfl) nq (fun hg=>zc2 (zae (vq 8 rfl) hg) za3)) (zv rfl (zcj (vq 7 rfl) (vq 9 rfl)) (zv rfl (za1 (vq 10 rfl)) o0)))))))))))) (fun a w hst=>?_)
      have hst:St B w0 53 [(2,_)] [⟨1,62,ptrH,_⟩] a w:=hst
      refine za0 ?_
      refine wp_ret ?_
      refine zai ?_ (zaa rfl hst (zm 0 rfl))
      rw [he,kd5 hb1 hb2 hb3 hb4]; exact zb6
theorem all_so {α:Type}{p:α→Bool}{l:List α}{j:Nat}(h:j<l.length)(h2:p l[j]=false):l.all p=false:=List.all_eq_false.2 ⟨_,List.getElem_mem h,by simp [h2]⟩
theorem all_nx {α:Type}{p:α→Bool}{l:List α}{j:Nat}(h:j<l.length)(h1:(l.take j).all p=true)(h2:p l[j]=true):(l.take (j+1)).all p=true:=by
 rw [List.take_succ_eq_append_getElem h,List.all_append,h1]
 simp [h2]
theorem slx {E:TypeId}{D:List TypeId}{l:List As}:Wk (SlO E D l True).va (SlA E D l).va:=zcn wk_old fun _ _ _ h=>(zds h).2
theorem benCheck_c (xs:List RE):Cn Tryz.prog 23 [(SlA 62 [U32] (xs.map REA)).va] (In (chF xs)):=by
 refine Cn.introW Tryz.func23 rfl zk nq (.cons (zjb (fun A hA=>by obtain ⟨x,_,rfl⟩:=List.mem_map.1 hA; exact upA_re x)).va .nil) (zdy _ _).va (fun B w0 a hB0 hst=>?_)
 have hst:St B w0 18 [(0,(SlO 62 [U32] (xs.map REA) True).va)] [] a w0.w:=hst
 have hl:=slO_len (hst.vals (0,(SlO 62 [U32] (xs.map REA) True).va) (zm 0 rfl))
 rw [List.length_map] at hl
 refine wp_seq ?_
 refine gl (sts:=[]) (news:=[]) (sp:=[.val 2 _]) [.g 0,.o 0] hst (zv rfl (za1 za3) o0) (fun a w hst=>?_)
 have hst:St B w0 18 [(0,_),(2,_)] [] a w:=hst
 refine zt ?_
 refine wp_seq ?_
 refine gl (sts:=[]) (news:=[]) (sp:=[.val 5 _,.val 6 _,.val 7 _]) [.g 0,.g 1,.o 2] hst (zv rfl (za2 (gq 0 rfl)) (zv rfl (zd4 Tryz.underlying51 (zca (zas (vq 0 rfl)))) (zv rfl (zdo (vq 1 rfl) za3) o0))) (fun a w hst=>?_)
 have hst:St B w0 18 [(0,_),(2,_),(7,_)] [] a w:=hst
 refine za0 ?_
 refine za8 hst (zm 2 rfl) (fun hb0=>?_) (fun hb0=>?_)
 ·have hbig:xs.length>4096:=by rw [List.length_map] at hb0; have:=of_decide_eq_true hb0; omega
  refine wp_seq ?_
  refine gl (sts:=[]) (news:=[]) (sp:=[.val 2 _]) [.g 0,.o 0] hst (zv rfl (za1 za3) o0) (fun a w hst=>?_)
  have hst:St B w0 18 [(0,_),(2,_)] [] a w:=hst
  refine za0 ?_
  refine wp_ret ?_
  refine zad ?_
  refine zai ?_ (zaa rfl hst (zm 1 rfl))
  rw [chF,if_pos hbig]; exact zb6
 ·have hbig:¬ xs.length>4096:=by rw [List.length_map] at hb0; have:=of_decide_eq_false hb0; omega
  refine wp_skip ?_
  refine zt ?_
  refine wp_seq ?_
  refine gl (sts:=[]) (news:=[]) (sp:=[.val 8 _,.val 9 _,.val 10 _]) [.g 1,.o 0,.o 1,.o 2] hst (zv rfl (za2 (gq 0 rfl)) (zv rfl (zd4 Tryz.underlying51 (zca (zas (vq 0 rfl)))) (zv rfl (za2 za3) o0))) (fun a w hst=>?_)
  have hst:St B w0 18 [(2,_),(8,_),(9,_),(10,_)] [] a w:=hst
  refine za0 ?_
  refine wp_block ?_
  have hst:=St.sel hst [1,2,3]
  refine wp_loop_ghost (fun n a w=>∃ j:Nat,(n+j=xs.length∧(xs.take j).all elF=true)∧St B w0 18 [(8,(SlO 62 [U32] (xs.map REA) True).va),(9,In (xs.length:Nat)),(10,In (j:Nat))] [] a w) (xs.length) ?_ ?_
  ·exact ⟨0,⟨by omega,rfl⟩,by rw [List.length_map] at hst; exact hst⟩
  intro n a w hI
  obtain ⟨j,⟨hn,hno⟩,hst⟩:=hI
  refine wp_seq ?_
  refine gl (sts:=[]) (news:=[]) (sp:=[.val 11 _]) [.g 0,.g 1,.g 2,.o 0] hst (zv rfl (zbt (gq 2 rfl) (gq 1 rfl)) o0) (fun a w hst=>?_)
  have hst:St B w0 18 [(8,_),(9,_),(10,_),(11,_)] [] a w:=hst
  refine zt ?_
  refine za8 hst (zm 3 rfl) (fun hb1=>?_) (fun hb1=>?_)
  ·have hj:j<xs.length:=by simp at hb1; omega
   refine wp_skip ?_
   refine zt ?_
   refine wp_block ?_
   refine wp_seq ?_
   refine gl (sts:=[]) (news:=[⟨4,62,ptrH,some 2,_,some (3,_)⟩]) (sp:=[.val 12 _,.val 13 _,.alc 0,.sto 0]) [.g 0,.g 1,.g 2] hst (zv rfl (ze5 sl_51 (zf1 fun _=>rfl) (zca (zas (gq 0 rfl))) (gq 2 rfl) (zdg hj)) (zv rfl (zav (vq 0 rfl) zkf) (oc (zap rfl rfl rfl (Str.zero zd8)) (oc (zaf rfl rfl rfl (vq 1 rfl) zkf (Eq.trans (b:=9) rfl rfl)) o0)))) (fun a w hst=>?_)
   have hst:St B w0 18 [(8,_),(9,_),(10,_)] [⟨4,62,ptrH,_⟩] a w:=hst
   refine zt<|gl (sts:=[none]) (news:=[]) (sp:=[.val 14 _,.val 15 _,.val 16 _]) [.g 0,.g 1,.g 2,.o 2] hst (zv rfl (zaq (lz0 0 rfl) zkf) (zv rfl (za5 (xs:=[.tmp 14]) (elMay_c _) (.cons (vq 0 rfl) .nil)) (zv rfl (zev (vq 1 rfl)) o0))) (fun a w hst=>?_)
   have hst:St B w0 18 [(8,_),(9,_),(10,_),(16,_)] [⟨4,62,ptrH,_⟩] a w:=hst
   refine za0 ?_
   refine za8 hst (zm 3 rfl) (fun hb2=>?_) (fun hb2=>?_)
   ·refine wp_seq ?_
    refine gl (sts:=[none]) (news:=[]) (sp:=[.val 2 _]) [.g 0,.g 1,.g 2,.o 0] hst (zv rfl (za1 za3) o0) (fun a w hst=>?_)
    have hst:St B w0 18 [(8,_),(9,_),(10,_),(2,_)] [⟨4,62,ptrH,_⟩] a w:=hst
    refine za0 ?_
    refine wp_ret ?_
    refine zb3 ?_
    refine zad ?_
    refine zad ?_
    refine zb3 ?_
    refine zad ?_
    refine zai ?_ (zaa rfl hst (zm 3 rfl))
    rw [chF,if_neg hbig,all_so hj (by simpa using hb2)]; exact zb6
   ·refine wp_skip ?_
    refine zaj ?_
    refine za0 ?_
    refine gl (sts:=[none]) (news:=[]) (sp:=[.val 17 _,.val 10 _]) [.g 0,.g 1,.o 1] hst (zv rfl (zb7 (gq 2 rfl) za3 ((wi64 zo zo).trans (by omega:(_:Int)=((j+1:Nat):Int)))) (zv rfl (za2 (vq 0 rfl)) o0)) (fun a w hst=>?_)
    have hst:St B w0 18 [(8,_),(9,_),(10,_)] [⟨4,62,ptrH,_⟩] a w:=hst
    refine za0 ?_
    have hst:=St.sel hst [0,1,2]
    have hst:=St.selL hst []
    exact ⟨n-1,by omega,j+1,⟨by omega,all_nx hj hno (by simpa using hb2)⟩,hst⟩
  ·obtain rfl:j=xs.length:=by simp at hb1; omega
   refine wp_exit ?_
   refine zac ?_
   refine zac ?_
   refine zay ?_
   refine zt<|gl (sts:=[]) (news:=[]) (sp:=[.val 2 _]) [.o 0] hst (zv rfl (za1 za3) o0) (fun a w hst=>?_)
   have hst:St B w0 18 [(2,_)] [] a w:=hst
   refine za0 ?_
   refine wp_ret ?_
   refine zai ?_ (zaa rfl hst (zm 0 rfl))
   rw [List.take_length] at hno; rw [chF,if_neg hbig,hno]; exact zb6
def RepM (b:Nat)(m:MQ):Prop:=∃ n1 n2 n3 n4 D:Int,D≠0∧m.a=(n1:Rat)/(D:Rat)∧m.b=(n2:Rat)/(D:Rat)∧m.c=(n3:Rat)/(D:Rat)∧m.d=(n4:Rat)/(D:Rat)∧lz n1≤b∧lz n2≤b∧lz n3≤b∧lz n4≤b∧lz D≤b
theorem rep_bQ {b:Nat}{m:MQ}(h:RepM b m):bQ b m.a∧bQ b m.b∧bQ b m.c∧bQ b m.d:=by
 obtain ⟨n1,n2,n3,n4,D,hD,e1,e2,e3,e4,h1,h2,h3,h4,h5⟩:=h
 rw [e1,e2,e3,e4,← Rat.divInt_eq_div,← Rat.divInt_eq_div,← Rat.divInt_eq_div,← Rat.divInt_eq_div]
 obtain ⟨a1,a2⟩:=zf4 (p:=n1) hD
 obtain ⟨b1,b2⟩:=zf4 (p:=n2) hD
 obtain ⟨c1,c2⟩:=zf4 (p:=n3) hD
 obtain ⟨d1,d2⟩:=zf4 (p:=n4) hD
 exact ⟨⟨by omega,by omega⟩,⟨by omega,by omega⟩,⟨by omega,by omega⟩,⟨by omega,by omega⟩⟩
theorem zjt {a b c d D E:Rat}(hD:D≠0)(hE:E≠0):a/D*(c/E)+b/D*(d/E)=(a*c+b*d)/(D*E):=by grind
theorem lz_two {c d:Nat}{a b x y:Int}(ha:lz a≤c)(hb:lz b≤c)(hx:lz x≤d)(hy:lz y≤d):lz (a*x+b*y)≤c+d+1:=by
 have h1:=zky (a*x) (b*y)
 have h2:=ze6 a x
 have h3:=ze6 b y
 omega
theorem rep_mul {c d:Nat}{m q:MQ}(hm:RepM c m)(hq:RepM d q):RepM (c+d+1) (mulQ m q):=by
 obtain ⟨n1,n2,n3,n4,D,hD,e1,e2,e3,e4,h1,h2,h3,h4,h5⟩:=hm
 obtain ⟨k1,k2,k3,k4,E,hE,f1,f2,f3,f4,g1,g2,g3,g4,g5⟩:=hq
 have hDr:(D:Rat)≠0:=fun e=>hD (by exact_mod_cast e)
 have hEr:(E:Rat)≠0:=fun e=>hE (by exact_mod_cast e)
 refine ⟨n1*k1+n2*k3,n1*k2+n2*k4,n3*k1+n4*k3,n3*k2+n4*k4,D*E,Int.mul_ne_zero hD hE,?_,?_,?_,?_,lz_two h1 h2 g1 g3,lz_two h1 h2 g2 g4,lz_two h3 h4 g1 g3,lz_two h3 h4 g2 g4,?_⟩
 ·simp only [mulQ,e1,e2,f1,f3,Rat.intCast_add,Rat.intCast_mul]
  exact zjt hDr hEr
 ·simp only [mulQ,e1,e2,f2,f4,Rat.intCast_add,Rat.intCast_mul]
  exact zjt hDr hEr
 ·simp only [mulQ,e3,e4,f1,f3,Rat.intCast_add,Rat.intCast_mul]
  exact zjt hDr hEr
 ·simp only [mulQ,e3,e4,f2,f4,Rat.intCast_add,Rat.intCast_mul]
  exact zjt hDr hEr
 ·have:=ze6 D E
  omega
theorem rep_of {b:Nat}{m:MQ}(n1 n2 n3 n4 D:Int)(hD:D≠0)(e1:m.a*(D:Rat)=(n1:Rat))(e2:m.b*(D:Rat)=(n2:Rat))(e3:m.c*(D:Rat)=(n3:Rat))(e4:m.d*(D:Rat)=(n4:Rat))(h1:lz n1≤b)(h2:lz n2≤b)(h3:lz n3≤b)(h4:lz n4≤b)(h5:lz D≤b):RepM b m:=by
 have hDr:(D:Rat)≠0:=fun e=>hD (by exact_mod_cast e)
 have key:∀ {x:Rat} {n:Int},x*(D:Rat)=(n:Rat)→x=(n:Rat)/(D:Rat):=fun h=>by rw [← h]; exact (Rat.mul_div_cancel hDr).symm
 exact ⟨n1,n2,n3,n4,D,hD,key e1,key e2,key e3,key e4,h1,h2,h3,h4,h5⟩
theorem den_mul (x:Rat):x*((x.den:Int):Rat)=(x.num:Rat):=by
 have:=nd_eq x
 have hd:=den_ne x
 generalize ((x.den:Int):Rat)=d at *
 generalize (x.num:Rat)=n at *
 grind
theorem lz_0:lz 0=0:=by kernel_rfl
theorem zjy:lz 1≤1:=Nat.le_of_ble_eq_true zk
theorem rep_b {k:Nat}{x:Rat}(h:bQ k x):RepM k ⟨1,x,0,1⟩:=rep_of (x.den:Int) x.num 0 (x.den:Int) (x.den:Int) (by have:=x.den_pos; omega) (Rat.one_mul _) (den_mul x) (Rat.zero_mul _) (Rat.one_mul _) h.2 h.1 (by rw [lz_0]; omega) h.2 h.2
theorem rep_c {k:Nat}{x:Rat}(h:bQ k x):RepM k ⟨1,0,x,1⟩:=rep_of (x.den:Int) 0 x.num (x.den:Int) (x.den:Int) (by have:=x.den_pos; omega) (Rat.one_mul _) (Rat.zero_mul _) (den_mul x) (Rat.one_mul _) h.2 (by rw [lz_0]; omega) h.1 h.2 h.2
theorem rep_1:RepM 1 ⟨1,0,0,1⟩:=rep_of 1 0 0 1 1 zd (by grind) (by grind) (by grind) (by grind) zjy (by rw [lz_0]; omega) (by rw [lz_0]; omega) zjy zjy
theorem rep_f:RepM 1 ⟨0-1,0-0,0-0,0-1⟩:=rep_of (-1) 0 0 (-1) 1 zd (by grind) (by grind) (by grind) (by grind) nq (by rw [lz_0]; omega) (by rw [lz_0]; omega) nq zjy
theorem zg9 {b c:Nat}{m:MQ}(h:RepM b m)(hc:b≤c):RepM c m:=by
 obtain ⟨n1,n2,n3,n4,D,hD,e1,e2,e3,e4,h1,h2,h3,h4,h5⟩:=h
 exact ⟨n1,n2,n3,n4,D,hD,e1,e2,e3,e4,by omega,by omega,by omega,by omega,by omega⟩
theorem bQ_min {k:Nat}{x:Rat}(h:bQ k x):bQ k (0-x):=by
 have e:0-x = -x:=by grind
 rw [e]
 exact ⟨by rw [Rat.neg_num,zh6]; exact h.1,by rw [Rat.neg_den]; exact h.2⟩
theorem bQ_div {c d:Nat}{x y:Rat}(hx:bQ c x)(hy:bQ d y)(h0:y≠0):bQ (c+d) (x/y):=by
 rw [← rat_div]
 obtain ⟨h1,h2⟩:=zf4 (p:=x.num*(y.den:Int)) (num_nz x h0)
 have h3:=ze6 x.num (y.den:Int)
 have h4:=ze6 (x.den:Int) y.num
 obtain ⟨x1,x2⟩:=hx
 obtain ⟨y1,y2⟩:=hy
 exact ⟨by omega,by omega⟩
theorem okX_bQ {x:RF}(h:okX x=true):bQ 2048 (toQ x):=(okX_q h).2
theorem el_kinds {x:RE}(h:elF x=true):[x.p,x.q].all okX=true∧(x.k=1∨x.k=2∨(x.k=3∧toQ x.q≠0)∨x.k=4∨x.k=5):=by
 unfold elF at h
 rw [Bool.and_eq_true] at h
 refine ⟨h.1,?_⟩
 have h2:=h.2
 by_cases h1:x.k=1
 ·exact .inl h1
 ·by_cases h3:x.k=2
  ·exact .inr (.inl h3)
  ·by_cases h4:x.k=3
   ·rw [kd3 (by simpa using h1) (by simpa using h3) (by simpa using h4),Bool.and_eq_true] at h2
    refine .inr (.inr (.inl ⟨h4,fun e=>?_⟩))
    rw [e] at h2
    have:=of_decide_eq_true h2.2
    exact absurd this zd
   ·by_cases h5:x.k=4
    ·exact .inr (.inr (.inr (.inl h5)))
    ·rw [kd5 (by simpa using h1) (by simpa using h3) (by simpa using h4) (by simpa using h5)] at h2
     simp only [Bool.and_eq_true,beq_iff_eq] at h2
     exact .inr (.inr (.inr (.inr h2.1.1)))
theorem el_rep {x:RE}(h:elF x=true):RepM 4096 (elM x):=by
 obtain ⟨hx,hk⟩:=el_kinds h
 simp only [List.all_cons,List.all_nil,Bool.and_true,Bool.and_eq_true] at hx
 have bp:=okX_bQ hx.1
 have bq:=okX_bQ hx.2
 unfold elM
 rcases hk with hk | hk | ⟨hk,h0⟩ | hk | hk <;> rw [hk]
 ·exact zg9 (rep_b bp) zd
 ·exact zg9 (rep_c (bQ_min bp)) zd
 ·exact rep_b (bQ_div bp bq h0)
 ·exact rep_c (bQ_min (bQ_mul bp bq))
 ·exact zg9 rep_f zd
theorem prod_nx {xs:List RE}{j:Nat}(h:j<xs.length):prodQ (xs.take (j+1))=mulQ (elM xs[j]) (prodQ (xs.take j)):=by
 rw [List.take_succ_eq_append_getElem h]
 unfold prodQ
 rw [List.foldl_append]
 rfl
theorem zjk {xs:List RE}(h:xs.all elF=true):∀ j,j≤xs.length→RepM (1+4097*j) (prodQ (xs.take j))
 | 0,_=>rep_1
 | j+1,hj=>by
  rw [prod_nx zo]
  exact zg9 (rep_mul (el_rep (List.all_eq_true.1 h _ (List.getElem_mem zo))) (zjk h j zo)) zo
theorem qa_bQ {k k':Nat}{x:Rat}(h:bQ k' x):WkA (QA k x) (QA k' x):=qaA.trans (qa_of h.1 h.2)
theorem qm_rep {k k':Nat}{m:MQ}(h:RepM k' m):WkA (QMA k m) (QMA k' m):=by
 obtain ⟨h1,h2,h3,h4⟩:=rep_bQ h
 exact zci (.cons (qa_bQ h1) (.cons (qa_bQ h2) (.cons (qa_bQ h3) (.cons (qa_bQ h4) .nil))))
theorem re_k {x:RE}{k:Int}(h:x.k=k)(hx:[x.p,x.q].all okX=true):Wk (REA x).va (QEA 2048 k (toQ x.p) (toQ x.q)).va:=by subst h; exact (el_q hx).va
theorem rowOf_c {x:RE}(h:elF x=true):Cn Tryz.prog 88 [(REA x).va] (QMA 4099 (elM x)).va:=by
 obtain ⟨hx,hk⟩:=el_kinds h
 unfold elM
 rcases hk with hk | hk | ⟨hk,h0⟩ | hk | hk <;> rw [hk]
 ·exact rowOfK1.wk (.cons (re_k hk hx) .nil)
 ·exact rowOfK2.wk (.cons (re_k hk hx) .nil)
 ·exact (rowOfK3 h0).wk (.cons (re_k hk hx) .nil)
 ·exact rowOfK4.wk (.cons (re_k hk hx) .nil)
 ·exact rowOfK5.wk (.cons (re_k hk hx) .nil)
theorem ch_ok {xs:List RE}(h:chF xs=0):xs.length≤4096∧xs.all elF=true:=by
 unfold chF at h
 by_cases h1:xs.length>4096
 ·rw [if_pos h1] at h; exact absurd h zd
 ·rw [if_neg h1] at h
  cases h2:xs.all elF with
  | true=>exact ⟨by omega,rfl⟩
  | false=>rw [h2] at h; exact absurd h zd
set_option maxHeartbeats 2000000 in
theorem rowMatrix_c {xs:List RE}(h4:xs.length≤4096)(hx:xs.all elF=true):Cn Tryz.prog 49 [(SlA 62 [U32] (xs.map REA)).va] ((QMA 16781313 (prodQ xs)).va):=by
 refine Cn.introF Tryz.func49 rfl zk nq (fun B w0 a hF hst=>?_)
 have hst:St B w0 19 [(0,(SlA 62 [U32] (xs.map REA)).va)] [] a w0.w:=hst
 obtain ⟨v0,hv0,hst⟩:=St.eqv hst 0 rfl
 have hr:=zjk hx
 refine wp_seq ?_
 refine gl (sts:=[]) (news:=[⟨2,56,ptrH,some 0,_,none⟩]) (sp:=[.alc 0]) [.g 0] hst (oc (zap rfl rfl rfl (Str.zero zbn)) o0) (fun a w hst=>?_)
 have hst:St B w0 19 [(0,_)] [⟨2,56,ptrH,_⟩] a w:=hst
 refine zt<|gl (sts:=[none]) (news:=[⟨3,56,ptrH,some 1,_,some (2,_)⟩]) (sp:=[.val 6 _,.alc 1,.sto 1]) [.g 0] hst (zv rfl (za5 (xs:=[]) zfg .nil) (oc (zap rfl rfl rfl (Str.zero zbn)) (oc (zaf rfl rfl rfl (vq 0 rfl) zco (Eq.trans (b:=16) rfl rfl)) o0))) (fun a w hst=>?_)
 have hst:St B w0 19 [(0,_)] [⟨2,56,ptrH,_⟩,⟨3,56,ptrH,_⟩] a w:=hst
 refine zt ?_
 refine wp_seq ?_
 refine gl (sts:=[none,none]) (news:=[]) (sp:=[.val 7 _,.val 8 _,.val 9 _]) [.o 0,.o 1,.o 2] hst (zv rfl (za2 (gq 0 rfl)) (zv rfl (zd4 Tryz.underlying51 (zbq hF hv0 (vq 0 rfl))) (zv rfl (za2 za3) o0))) (fun a w hst=>?_)
 have hst:St B w0 19 [(7,_),(8,_),(9,_)] [⟨2,56,ptrH,_⟩,⟨3,56,ptrH,_⟩] a w:=hst
 refine za0 ?_
 refine wp_block ?_
 have hst:=St.sel hst [0,1,2]
 refine wp_loop_ghost (fun n a w=>∃ j:Nat,n+j=xs.length∧St B w0 19 [(7,EqV v0),(8,In (xs.length:Nat)),(9,In (j:Nat))] [⟨2,56,ptrH,RMA rm0⟩,⟨3,56,ptrH,QMA (1+4097*j) (prodQ (xs.take j))⟩] a w) (xs.length) ?_ ?_
 ·rw [List.length_map] at hst
  exact ⟨0,by omega,St.wkL hst 1 rfl (qm_rep rep_1)⟩
 intro n a w hI
 obtain ⟨j,hn,hst⟩:=hI
 refine wp_seq ?_
 refine gl (sts:=[none,none]) (news:=[]) (sp:=[.val 10 _]) [.g 0,.g 1,.g 2,.o 0] hst (zv rfl (zbt (gq 2 rfl) (gq 1 rfl)) o0) (fun a w hst=>?_)
 have hst:St B w0 19 [(7,_),(8,_),(9,_),(10,_)] [⟨2,56,ptrH,_⟩,⟨3,56,ptrH,_⟩] a w:=hst
 refine zt ?_
 refine za8 hst (zm 3 rfl) (fun hb0=>?_) (fun hb0=>?_)
 ·have hj:j<xs.length:=by simp at hb0; omega
  refine wp_skip ?_
  refine zt ?_
  refine wp_block ?_
  refine wp_seq ?_
  refine gl (sts:=[none,none]) (news:=[⟨5,62,ptrH,some 2,_,some (3,_)⟩]) (sp:=[.val 11 _,.val 12 _,.alc 2,.sto 2]) [.g 0,.g 1,.g 2] hst (zv rfl (ze5 sl_51 (zf1 fun _=>rfl) (zbq hF hv0 (gq 0 rfl)) (gq 2 rfl) (zdg hj)) (zv rfl (zav (vq 0 rfl) zkf) (oc (zap rfl rfl rfl (Str.zero zd8)) (oc (zaf rfl rfl rfl (vq 1 rfl) zkf (Eq.trans (b:=9) rfl rfl)) o0)))) (fun a w hst=>?_)
  have hst:St B w0 19 [(7,_),(8,_),(9,_)] [⟨2,56,ptrH,_⟩,⟨3,56,ptrH,_⟩,⟨5,62,ptrH,_⟩] a w:=hst
  refine za0 ?_
  refine zaz (anc:=[[],[0],[],[0,1,2],[0,1,2,3]]) (sts:=[none,some (4,_),none]) (news:=[]) (sp:=[.val 13 _,.val 14 _,.val 15 _,.val 16 _,.sto 1]) [.g 0,.g 1,.g 2] za6 hst (zv rfl (zaq (lz0 2 rfl) zkf) (zv rfl (za5 (xs:=[.tmp 13]) (rowOf_c (List.all_eq_true.1 hx _ (List.getElem_mem hj))) (.cons (vq 0 rfl) .nil)) (zv rfl (zaq (lz0 1 rfl) zco) (zv rfl (za5 (xs:=[.tmp 14,.tmp 15]) (rowTimes_q (c:=4099) (d:=1+4097*j) (m:=elM xs[j]) (q:=prodQ (xs.take j)) zo) (.cons (vq 1 rfl) (.cons (vq 2 rfl) .nil))) (oc (zaf rfl rfl rfl (vq 3 rfl) zco (Eq.trans (b:=16) rfl rfl)) o0))))) zk zk zk zk (fun a w hst=>?_)
  have hst:St B w0 19 [(7,_),(8,_),(9,_)] [⟨2,56,ptrH,_⟩,⟨3,56,ptrH,_⟩,⟨5,62,ptrH,_⟩] a w:=hst
  refine zaj ?_
  refine za0 ?_
  refine gl (sts:=[none,none,none]) (news:=[]) (sp:=[.val 17 _,.val 9 _]) [.g 0,.g 1,.o 1] hst (zv rfl (zb7 (gq 2 rfl) za3 ((wi64 zo zo).trans (by omega:(_:Int)=((j+1:Nat):Int)))) (zv rfl (za2 (vq 0 rfl)) o0)) (fun a w hst=>?_)
  have hst:St B w0 19 [(7,_),(8,_),(9,_)] [⟨2,56,ptrH,_⟩,⟨3,56,ptrH,_⟩,⟨5,62,ptrH,_⟩] a w:=hst
  refine za0 ?_
  have hst:=St.sel hst [0,1,2]
  have hst:=St.selL hst [0,1]
  have hst:=St.wkL (A':=QMA (1+4097*(j+1)) (prodQ (xs.take (j+1)))) hst 1 rfl ((zig (congrArg (QMA _) (prod_nx hj).symm)).trans (qm_rep (hr (j+1) zo)))
  exact ⟨n-1,by omega,j+1,by omega,hst⟩
 ·obtain rfl:j=xs.length:=by simp at hb0; omega
  refine wp_exit ?_
  refine zac ?_
  refine zac ?_
  refine zay ?_
  refine zt<|gl (sts:=[some (1,_),none]) (news:=[]) (sp:=[.val 18 _,.sto 0]) [] hst (zv rfl (zaq (lz0 1 rfl) zco) (oc (zaf rfl rfl rfl (vq 0 rfl) zco (Eq.trans (b:=16) rfl rfl)) o0)) (fun a w hst=>?_)
  have hst:St B w0 19 [] [⟨2,56,ptrH,_⟩,⟨3,56,ptrH,_⟩] a w:=hst
  refine za0 ?_
  refine wp_ret ?_
  refine zai ?_ (zam rfl hst (zm 0 rfl) zco)
  rw [List.take_length]; exact (zci (.cons (zbx zo) (.cons (zbx zo) (.cons (zbx zo) (.cons (zbx zo) .nil))))).va
end Go.Proofs.YtlpppkkggljdcaaGreat
namespace Go.Proofs.YtlpppkkggljdcaaGreat
open Go Go.RowKit
def NewR (b:Nat)(E:TypeId)(l:List As):VA where
 p B v w:=∃ g ds,v=.slice (some ⟨g,0,none⟩) l.length l.length∧b≤g∧w.heap[g]?=some (.cells (List.toArray ds) E (0,0))∧(cat l).p B ds w
 deps:=E::(cat l).deps
 cg:=by
  rintro B v w w' hg ⟨g,ds,e,h1,h2,h3⟩
  exact ⟨g,ds,e,h1,hg.heap h2,(cat l).cg _ _ _ _ hg h3⟩
 wr:=by
  rintro B v w w' g c T fz hgc hT hB hW ⟨g0,ds,e,h1,h2,h3⟩
  simp only [List.mem_cons,not_or] at hT
  have n1:g0≠g:=by
   rintro rfl
   rw [hgc] at h2
   injection h2 with h2
   injection h2 with _ h2 _
   exact hT.1 h2
  exact ⟨g0,ds,e,h1,by rw [hW.block g0 n1]; exact h2,(cat l).wr _ _ _ _ _ _ _ _ hgc hT.2 hB hW h3⟩
theorem St.toLoc {B N:Nat}{w0:Bs}{Γ:List (Nat × VA)}{Λ:List Lc}{a:Act}{w:World}(h:St B w0 N Γ Λ a w){s:Nat}{E:TypeId}{l:List As}(k:Nat)(hm:Γ[k]?=some (s,NewR w0.w.heap.size E l))(hT:Λ.all (fun l'=>l'.T != E)=true) :
  St B w0 N (Γ.eraseIdx k) (Λ++[⟨s,E,slH l.length l.length,cat l⟩]) a w:=by
 obtain ⟨g,ds,e,h1,h2,h3⟩:=h.vals _ (List.mem_of_getElem? hm)
 have hblk:blk (a.eval (.tmp s))=some g:=by
  have e':a.eval (.tmp s)=.slice (some ⟨g,0,none⟩) l.length l.length:=e
  rw [e']; rfl
 have hdiff:∀ l'∈Λ,blk (a.eval (.tmp l'.s))≠some g:=fun l' hl' hb=>by
  obtain ⟨g',cs,f1,f2,f3,f4⟩:=h.locs l' hl'
  have:g'=g:=by rw [f1,l'.H.ok] at hb; injection hb
  subst this
  rw [h2] at f3
  injection f3 with f3
  injection f3 with _ f3 _
  have:=List.all_eq_true.1 hT l' hl'
  simp only [bne_iff_ne] at this
  exact this f3.symm
 refine ⟨h.lo,h.defers,h.size,h.base,fun x hx=>h.vals x (List.mem_of_mem_eraseIdx hx),fun l' hl'=>?_,fun l' hl' m' hm' hne=>?_⟩
 ·rcases List.mem_append.1 hl' with hl' | hl'
  ·exact h.locs l' hl'
  ·obtain rfl:=List.mem_singleton.1 hl'
   exact ⟨g,ds,e,.inl h1,h2,h3⟩
 ·rcases List.mem_append.1 hl' with hl' | hl' <;> rcases List.mem_append.1 hm' with hm' | hm'
  ·exact h.dis l' hl' m' hm' hne
  ·obtain rfl:=List.mem_singleton.1 hm'
   show blk (a.eval (.tmp l'.s))≠blk (a.eval (.tmp s))
   rw [hblk]
   exact hdiff l' hl'
  ·obtain rfl:=List.mem_singleton.1 hl'
   show blk (a.eval (.tmp s))≠blk (a.eval (.tmp m'.s))
   rw [hblk]
   exact fun e=>hdiff m' hm' e.symm
  ·obtain rfl:=List.mem_singleton.1 hl'
   obtain rfl:=List.mem_singleton.1 hm'
   exact absurd rfl hne
theorem cat_split {l:List As}{m B:Nat}{ds:List Value}{w:World}(hm:∀ A∈l,A.n=m)(h:(cat l).p B ds w):∀ k,(cat (l.take k)).p B (ds.take (k*m)) w∧(cat (l.drop k)).p B (ds.drop (k*m)) w:=by
 obtain ⟨ps,rfl,h⟩:=h
 induction h with
 | nil=>intro k; simp only [List.take_nil,List.drop_nil,List.flatten_nil]; exact ⟨⟨[],rfl,.nil⟩,⟨[],rfl,.nil⟩⟩
 | @cons A c ls bs h1 h2 ih =>
  intro k
  cases k with
  | zero =>
   simp only [List.take_zero,Nat.zero_mul,List.drop_zero]
   exact ⟨⟨[],rfl,.nil⟩,⟨c::bs,rfl,.cons h1 h2⟩⟩
  | succ k =>
   obtain ⟨i1,i2⟩:=ih (fun A' hA=>hm A' (List.mem_cons_of_mem _ hA)) k
   have hl:c.length=m:=(A.len _ _ _ h1).trans (hm A (by simp))
   have e1:(c::bs).flatten.take ((k+1)*m)=c++bs.flatten.take (k*m):=by
    rw [List.flatten_cons,List.take_append,List.take_of_length_le (by rw [hl,Nat.add_mul]; omega),hl]
    congr 2
    rw [Nat.add_mul]
    omega
   have e2:(c::bs).flatten.drop ((k+1)*m)=bs.flatten.drop (k*m):=by
    rw [List.flatten_cons,List.drop_append,List.drop_of_length_le (by rw [hl,Nat.add_mul]; omega),List.nil_append,hl]
    congr 1
    rw [Nat.add_mul]
    omega
   rw [e1,e2,List.take_succ_cons,List.drop_succ_cons]
   refine ⟨?_,i2⟩
   obtain ⟨qs,e,hq⟩:=i1
   exact ⟨c::qs,by rw [List.flatten_cons,← e],.cons h1 hq⟩
section
variable {P:Program} {R:Rg} {Q:Exit→Act→World→Prop} {B i:Nat} {w0:Bs}
theorem r_sliceN {S E:TypeId}{l:List As}{m:Nat}{xs:List Operand}(hS:Sl P S E m)(hz:((P.info? E).bind (·.zero)).isSome=true)(hm:∀ A∈l,A.n=m)(hm0:0<m)(hl0:0<l.length)(hsmall:l.length*m≤16777216)
  (hx:All2 (fun (A:As) x=>Has R B w0 i x A.va) l xs) {ps':Array (Nat × Operand)} (hps:ps'.toList=(xs.zipIdx 0).map fun x=>(x.2,x.1)) {n:Nat} (hn:n=l.length):Wv P Q R B w0 i (.buildSlice S n ps') (NewR w0.w.heap.size E l) :=
 zbk fun d T ps af gd a w av=>by
  subst hn
  obtain ⟨hs1,hs2⟩:=hS
  cases hi:P.info? E with
  | none=>rw [hi] at hs2; simp at hs2
  | some it =>
   rw [hi] at hs2 hz
   have hsz:it.size=m:=by simpa using hs2
   obtain ⟨z,hzz⟩:=Option.isSome_iff_exists.1 hz
   simp only [Option.bind_some] at hzz
   have hvs:All2 (fun (A:As) v=>A.va.p B v w) l (xs.map a.eval):=by
    clear hps hm hl0 hsmall
    induction hx with
    | nil=>exact .nil
    | cons h _ ih=>exact .cons (h a w av) ih
   have hlen:=hvs.length
   have hvn:∀ v∈xs.map a.eval,v.cells.size=m:=by
    intro v hv
    obtain ⟨k,hk⟩:=List.getElem?_of_mem hv
    have hkl:k<l.length:=by rw [hlen]; exact (List.getElem?_eq_some_iff.1 hk).1
    obtain ⟨v',hv',cs,hp,he⟩:=hvs.get (List.getElem?_eq_getElem hkl)
    rw [hk] at hv'
    injection hv' with hv'
    subst hv'
    rw [he,As.cells_shape _ hp]
    have:=As.len _ _ _ _ hp
    simp [this]
    exact hm _ (by simp)
   have hf:=Great.fill_whole hm0 (xs.map a.eval) ((Array.range (l.length*m)).map (z.cells[· % z.cells.size]!)) hvn (by simp [hlen])
   have hrun:=run_buildSlice (P:=P) w S E l.length (ps'.map fun x=>(x.1,a.eval x.2)) ((xs.map a.eval).flatMap fun v=>v.cells.toList).toArray it z hs1 hi hzz (by rw [hsz]; omega) (by rw [hsz]; exact Nat.ne_of_gt (Nat.mul_pos hl0 hm0)) (by
    rw [hsz,← hf]
    congr 1
    rw [Array.toList_map,hps]
    simp [List.zipIdx_map,List.map_map,Function.comp_def])
   refine ⟨.slice (some ⟨w.heap.size,0,none⟩) l.length l.length,w.alloc (.cells ((xs.map a.eval).flatMap fun v=>v.cells.toList).toArray E),?_,Grow.alloc _ _,w.heap.size,_,rfl,av.base.size,heap_alloc_new w _,(cat l).grow _ _ _ _ (Grow.alloc _ _) (zj4 hvs)⟩
   simp [execOp,hrun]
theorem r_callE {x:Operand}{f:FuncId}{xs:List Operand}{As':List VA}{A:VA}{at_:Array TypeId}(hc:Cn P f As' A)(hv:Has R B w0 i x (EqA (.func (.func f) #[] #[])).va)(hx:HasL R B w0 i xs As'):Wv P Q R B w0 i (.call ⟨.value x,xs.toArray,at_⟩) A:=by
 intro d T ps af gd a w av K hK
 obtain ⟨⟨fn,hf,hn,hb⟩,hcall⟩:=hc
 have ev:a.eval x=.func (.func f) #[] #[]:=eqA_va (hv a w av)
 have hrun:(execOp a.eval ⟨some d,.call ⟨.value x,xs.toArray,at_⟩,T,ps,af,gd⟩).run P w=.ok (.enter f (xs.map a.eval).toArray) w:=by
  simp only [execOp,resolve,ev,Deferred.ofValue,Sem.run_bind,Sem.run_pure,Result.andThen_ok,invoke,zbm hf hn hb]
  simp
 unfold Oper.wp
 rw [hrun]
 exact (hcall B w _ (Av.bw av) (hx.all av)).mono fun e w' ⟨v,he,hv,hg⟩=>by subst he; exact hK v w' hg hv
end
end Go.Proofs.YtlpppkkggljdcaaGreat
