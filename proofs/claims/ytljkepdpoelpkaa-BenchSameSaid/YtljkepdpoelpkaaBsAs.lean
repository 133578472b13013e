import Derived.Test.YtljkepdpoelpkaaBsAa
import Derived.Test.YtljkepdpoelpkaaBsAc
import Derived.Test.YtljkepdpoelpkaaBsAr
import Derived.Laws.AppendOwn
import Derived.Laws.OwnMore
set_option linter.unusedVariables false
set_option linter.unusedSimpArgs false
set_option linter.unusedSectionVars false
set_option maxRecDepth 100000
namespace Go.Proofs.Ytljkepdpoelpkaa
open Go Go.RowKit
def elK (k ps qs:Int):Bool:=if k==1 then decide (ps≥0)&&(qs==0) else if k==2 then (qs==0) else if k==3 then decide (ps≥0)&&decide (qs>0) else if k==4 then true else ((k==5)&&(ps==0))&&(qs==0)
def elF (x:RE):Bool:=[x.p,x.q].all okX&&elK x.k (toQ x.p).num.sign (toQ x.q).num.sign
def elQ (k:Int)(p q:Rat):MQ:=if k=1 then ⟨1,p,0,1⟩ else if k=2 then ⟨1,0,0-p,1⟩ else if k=3 then ⟨1,p/q,0,1⟩ else if k=4 then ⟨1,0,0-p*q,1⟩ else ⟨0-1,0-0,0-0,0-1⟩
def elM (x:RE):MQ:=elQ x.k (toQ x.p) (toQ x.q)
def prodQ (xs:List RE):MQ:=xs.foldl (fun m x=>mulQ (elM x) m) ⟨1,0,0,1⟩
def chF (xs:List RE):Int:=if xs.length>4096 then 4 else if xs.all elF then 0 else 1
def benF (xs:List RE):RM × Int:=if chF xs=0 then asM 0 (prodQ xs) else (rm0,chF xs)
theorem elF_no {x:RE}(h:(![x.p,x.q].all okX)=true):elF x=false:=by rw [Bool.not_eq_true'] at h; rw [elF,h]; rfl
theorem elF_ok {x:RE}(h:(![x.p,x.q].all okX)=false):[x.p,x.q].all okX=true∧elF x=elK x.k (toQ x.p).num.sign (toQ x.q).num.sign:=by rw [Bool.not_eq_false'] at h; exact ⟨h,by rw [elF,h]; rfl⟩
theorem el_q {x:RE}(h:[x.p,x.q].all okX=true):WkA (REA x) (QEA 2048 x.k (toQ x.p) (toQ x.q)):=by
 simp only [List.all_cons,List.all_nil,Bool.and_true,Bool.and_eq_true] at h
 exact zbv (.cons (WkA.refl _) (.cons (qa_x h.1 (Nat.le_refl _)) (.cons (qa_x h.2 (Nat.le_refl _)) .nil)))
theorem upA_re (x:RE):UpA (REA x) (REA x):=cat_up (.cons (up_num _ _) (.cons (upA_rf _) (.cons (upA_rf _) .nil)))
theorem kd1 {k ps qs:Int}(h:(k==1)=true):elK k ps qs=(decide (ps≥0)&&(qs==0)):=by rw [elK,h]; rfl
theorem kd2 {k ps qs:Int}(h1:(k==1)=false)(h:(k==2)=true):elK k ps qs=(qs==0):=by rw [elK,h1,h]; rfl
theorem kd3 {k ps qs:Int}(h1:(k==1)=false)(h2:(k==2)=false)(h:(k==3)=true):elK k ps qs=(decide (ps≥0)&&decide (qs>0)):=by rw [elK,h1,h2,h]; rfl
theorem kd4 {k ps qs:Int}(h1:(k==1)=false)(h2:(k==2)=false)(h3:(k==3)=false)(h:(k==4)=true):elK k ps qs=true:=by rw [elK,h1,h2,h3,h]; rfl
theorem kd5 {k ps qs:Int}(h1:(k==1)=false)(h2:(k==2)=false)(h3:(k==3)=false)(h4:(k==4)=false):elK k ps qs=(((k==5)&&(ps==0))&&(qs==0)):=by rw [elK,h1,h2,h3,h4]; rfl
theorem elMay_c (x:RE):Cn Try.prog 26 [(REA x).va] (Bo (elF x)):=by
 refine Cn.intro Try.func26 rfl zk nq (fun B w0 a hst=>?_)
 have hst:St B w0 53 [(0,(REA x).va)] [] a w0.w:=hst
 refine wp_seq ?_
 refine gl (sts:=[]) (news:=[⟨1,49,ptrH,some 0,_,none⟩]) (sp:=[.alc 0,.val 2 _]) [.o 1] hst (oc (zaq rfl rfl rfl (gq 0 rfl)) (zv rfl (za2 zbg) o0)) (fun a w hst=>?_)
 have hst:St B w0 53 [(2,_)] [⟨1,49,ptrH,_⟩] a w:=hst
 refine zt ?_
 refine wp_seq ?_
 refine gl (sts:=[none]) (news:=[]) (sp:=[.adr 5 1 (.some 1) True,.val 6 _,.adr 7 1 (.some 5) True,.val 8 _,.val 9 _,.val 10 _,.val 11 _]) [.g 0,.o 6] hst (oc (ob_a rfl rfl (za9 (lz0 0 rfl) zbp)) (zv rfl (za4 0 rfl zk trivial (lz0 0 rfl) (Sub.part 1 rfl rfl) zam) (oc (ob_a rfl rfl (za9 (lz0 0 rfl) fld_49_2)) (zv rfl (za4 2 rfl zk trivial (lz0 0 rfl) (Sub.part 2 rfl rfl) zam) (zv rfl (r_slice (D:=[U32]) (l:=[_,_]) (xs:=[.tmp 6,.tmp 8]) (nd_ok zk) sl_80 zk (n_ok zk) nq nq nq (.cons (vq 1 rfl) (.cons (vq 3 rfl) .nil)) rfl rfl) (zv rfl (za5 (xs:=[.tmp 9]) (checks_c [x.p,x.q] nq) (.cons (vq 4 rfl) .nil)) (zv rfl (r_not (vq 5 rfl)) o0))))))) (fun a w hst=>?_)
 have hst:St B w0 53 [(2,_),(11,_)] [⟨1,49,ptrH,_⟩] a w:=hst
 refine za0 ?_
 refine zaa hst (zm 1 rfl) (fun hb0=>?_) (fun hb0=>?_)
 ·refine wp_seq ?_
  refine gl (sts:=[none]) (news:=[]) (sp:=[.val 2 _]) [.o 0] hst (zv rfl (za2 zbg) o0) (fun a w hst=>?_)
  have hst:St B w0 53 [(2,_)] [⟨1,49,ptrH,_⟩] a w:=hst
  refine za0 ?_
  refine wp_ret ?_
  refine zag ?_
  refine zak ?_ (zaf rfl hst (zm 0 rfl))
  rw [elF_no hb0]; exact zbl
 ·obtain ⟨hx,he⟩:=elF_ok hb0
  have hst:=St.wkL hst 0 rfl (el_q hx)
  refine wp_skip ?_
  refine zt<|zaw (anc:=[[],[0],[0,1],[],[3],[0,1,2,3,4],[0,1,2,3,4,5],[0,1,2,3,4,5,6]]) (sts:=[none]) (news:=[]) (sp:=[.adr 12 1 (.some 1) True,.val 13 _,.val 14 _,.adr 15 1 (.some 5) True,.val 16 _,.val 17 _,.val 3 _,.val 4 _]) [.g 0,.o 6,.o 7] za6 hst (oc (ob_a rfl rfl (za9 (lz0 0 rfl) zbp)) (zv rfl (za4 0 rfl zk trivial (lz0 0 rfl) (Sub.part 1 rfl rfl) zam) (zv rfl (za5 (xs:=[.tmp 13]) sign_q (.cons (vq 1 rfl) .nil)) (oc (ob_a rfl rfl (za9 (lz0 0 rfl) fld_49_2)) (zv rfl (za4 3 rfl zk trivial (lz0 0 rfl) (Sub.part 2 rfl rfl) zam) (zv rfl (za5 (xs:=[.tmp 16]) sign_q (.cons (vq 4 rfl) .nil)) (zv rfl (za2 (vq 2 rfl)) (zv rfl (za2 (vq 5 rfl)) o0)))))))) zk zk zk zk (fun a w hst=>?_)
  have hst:St B w0 53 [(2,_),(3,_),(4,_)] [⟨1,49,ptrH,_⟩] a w:=hst
  refine zt ?_
  refine wp_seq ?_
  refine gl (sts:=[none]) (news:=[]) (sp:=[.adr 18 1 (.some 0) True,.val 19 _]) [.g 0,.g 1,.g 2,.o 1] hst (oc (ob_a rfl rfl (za9 (lz0 0 rfl) zbz)) (zv rfl (za4 0 rfl zk trivial (lz0 0 rfl) (Sub.part 0 rfl rfl) ty_46) o0)) (fun a w hst=>?_)
  have hst:St B w0 53 [(2,_),(3,_),(4,_),(19,_)] [⟨1,49,ptrH,_⟩] a w:=hst
  refine za0 ?_
  refine wp_block ?_
  refine wp_seq ?_
  refine gl (sts:=[none]) (news:=[]) (sp:=[.val 21 _,.val 20 _]) [.g 0,.g 1,.g 2,.g 3,.o 1] hst (zv rfl (zc5 (gq 3 rfl) za3) (zv rfl (za2 (vq 0 rfl)) o0)) (fun a w hst=>?_)
  have hst:St B w0 53 [(2,_),(3,_),(4,_),(19,_),(20,_)] [⟨1,49,ptrH,_⟩] a w:=hst
  refine za0 ?_
  refine zaa hst (zm 4 rfl) (fun hb1=>?_) (fun hb1=>?_)
  ·refine wp_seq ?_
   refine gl (sts:=[none]) (news:=[]) (sp:=[.val 22 _,.val 23 _,.val 24 _,.val 25 (Wh (_=true) _),.val 26 (Wh (_=true) _),.val 27 _,.val 2 _]) [.g 1,.g 2,.o 6] hst (zv rfl (za1 (gq 1 rfl)) (zv rfl (r_geq (vq 0 rfl) za3) (zv rfl (za1 (vq 1 rfl)) (oc (zac rfl rfl rfl (vq 2 rfl) nq (fun hg=>za1 (gq 2 rfl))) (oc (zac rfl rfl rfl (vq 2 rfl) nq (fun hg=>zc5 (za7 (vq 3 rfl) hg) za3)) (zv rfl (zci (vq 2 rfl) (vq 4 rfl)) (zv rfl (za2 (vq 5 rfl)) o0))))))) (fun a w hst=>?_)
   have hst:St B w0 53 [(3,_),(4,_),(2,_)] [⟨1,49,ptrH,_⟩] a w:=hst
   refine za0 ?_
   refine wp_ret ?_
   refine zbd ?_
   refine zag ?_
   refine zak ?_ (zaf rfl hst (zm 2 rfl))
   rw [he,kd1 hb1]; exact zbl
  ·refine wp_seq ?_
   refine gl (sts:=[none]) (news:=[]) (sp:=[.val 29 _,.val 28 _]) [.g 0,.g 1,.g 2,.g 3,.o 1] hst (zv rfl (zc5 (gq 3 rfl) za3) (zv rfl (za2 (vq 0 rfl)) o0)) (fun a w hst=>?_)
   have hst:St B w0 53 [(2,_),(3,_),(4,_),(19,_),(28,_)] [⟨1,49,ptrH,_⟩] a w:=hst
   refine za0 ?_
   refine zaa hst (zm 4 rfl) (fun hb2=>?_) (fun hb2=>?_)
   ·refine wp_seq ?_
    refine gl (sts:=[none]) (news:=[]) (sp:=[.val 30 _,.val 31 _,.val 2 _]) [.g 1,.g 2,.o 2] hst (zv rfl (za1 (gq 2 rfl)) (zv rfl (zc5 (vq 0 rfl) za3) (zv rfl (za2 (vq 1 rfl)) o0))) (fun a w hst=>?_)
    have hst:St B w0 53 [(3,_),(4,_),(2,_)] [⟨1,49,ptrH,_⟩] a w:=hst
    refine za0 ?_
    refine wp_ret ?_
    refine zbd ?_
    refine zag ?_
    refine zak ?_ (zaf rfl hst (zm 2 rfl))
    rw [he,kd2 hb1 hb2]; exact zbl
   ·refine wp_seq ?_
    refine gl (sts:=[none]) (news:=[]) (sp:=[.val 33 _,.val 32 _]) [.g 0,.g 1,.g 2,.g 3,.o 1] hst (zv rfl (zc5 (gq 3 rfl) za3) (zv rfl (za2 (vq 0 rfl)) o0)) (fun a w hst=>?_)
    have hst:St B w0 53 [(2,_),(3,_),(4,_),(19,_),(32,_)] [⟨1,49,ptrH,_⟩] a w:=hst
    refine za0 ?_
    refine zaa hst (zm 4 rfl) (fun hb3=>?_) (fun hb3=>?_)
    ·refine wp_seq ?_
     refine gl (sts:=[none]) (news:=[]) (sp:=[.val 34 _,.val 35 _,.val 36 _,.val 37 (Wh (_=true) _),.val 38 (Wh (_=true) _),.val 39 _,.val 2 _]) [.g 1,.g 2,.o 6] hst (zv rfl (za1 (gq 1 rfl)) (zv rfl (r_geq (vq 0 rfl) za3) (zv rfl (za1 (vq 1 rfl)) (oc (zac rfl rfl rfl (vq 2 rfl) nq (fun hg=>za1 (gq 2 rfl))) (oc (zac rfl rfl rfl (vq 2 rfl) nq (fun hg=>r_gtr (za7 (vq 3 rfl) hg) za3)) (zv rfl (zci (vq 2 rfl) (vq 4 rfl)) (zv rfl (za2 (vq 5 rfl)) o0))))))) (fun a w hst=>?_)
     have hst:St B w0 53 [(3,_),(4,_),(2,_)] [⟨1,49,ptrH,_⟩] a w:=hst
     refine za0 ?_
     refine wp_ret ?_
     refine zbd ?_
     refine zag ?_
     refine zak ?_ (zaf rfl hst (zm 2 rfl))
     rw [he,kd3 hb1 hb2 hb3]; exact zbl
    ·refine wp_seq ?_
     refine gl (sts:=[none]) (news:=[]) (sp:=[.val 41 _,.val 40 _]) [.g 0,.g 1,.g 2,.o 1] hst (zv rfl (zc5 (gq 3 rfl) za3) (zv rfl (za2 (vq 0 rfl)) o0)) (fun a w hst=>?_)
     have hst:St B w0 53 [(2,_),(3,_),(4,_),(40,_)] [⟨1,49,ptrH,_⟩] a w:=hst
     refine za0 ?_
     refine zaa hst (zm 3 rfl) (fun hb4=>?_) (fun hb4=>?_)
     ·refine wp_seq ?_
      refine gl (sts:=[none]) (news:=[]) (sp:=[.val 2 _]) [.g 1,.g 2,.o 0] hst (zv rfl (za2 zbg) o0) (fun a w hst=>?_)
      have hst:St B w0 53 [(3,_),(4,_),(2,_)] [⟨1,49,ptrH,_⟩] a w:=hst
      refine za0 ?_
      refine wp_ret ?_
      refine zbd ?_
      refine zag ?_
      refine zak ?_ (zaf rfl hst (zm 2 rfl))
      rw [he,kd4 hb1 hb2 hb3 hb4]; exact zbl
     ·refine wp_skip ?_
      refine zaj ?_
      refine zt<|gl (sts:=[none]) (news:=[]) (sp:=[.adr 42 1 (.some 0) True,.val 43 _,.val 44 _,.val 45 _,.val 46 (Wh (_=true) _),.val 47 (Wh (_=true) _),.val 48 _,.val 49 _,.val 50 (Wh (_=true) _),.val 51 (Wh (_=true) _),.val 52 _,.val 2 _]) [.o 11] hst (oc (ob_a rfl rfl (za9 (lz0 0 rfl) zbz)) (zv rfl (za4 0 rfl zk trivial (lz0 0 rfl) (Sub.part 0 rfl rfl) ty_46) (zv rfl (zc5 (vq 1 rfl) za3) (zv rfl (za1 (vq 2 rfl)) (oc (zac rfl rfl rfl (vq 3 rfl) nq (fun hg=>za1 (gq 1 rfl))) (oc (zac rfl rfl rfl (vq 3 rfl) nq (fun hg=>zc5 (za7 (vq 4 rfl) hg) za3)) (zv rfl (zci (vq 3 rfl) (vq 5 rfl)) (zv rfl (za1 (vq 6 rfl)) (oc (zac rfl rfl rfl (vq 7 rfl) nq (fun hg=>za1 (gq 2 rfl))) (oc (zac rfl rfl rfl (vq 7 rfl) nq (fun hg=>zc5 (za7 (vq 8 rfl) hg) za3)) (zv rfl (zci (vq 7 rfl) (vq 9 rfl)) (zv rfl (za2 (vq 10 rfl)) o0)))))))))))) (fun a w hst=>?_)
      have hst:St B w0 53 [(2,_)] [⟨1,49,ptrH,_⟩] a w:=hst
      refine za0 ?_
      refine wp_ret ?_
      refine zak ?_ (zaf rfl hst (zm 0 rfl))
      rw [he,kd5 hb1 hb2 hb3 hb4]; exact zbl
theorem all_so {α:Type}{p:α→Bool}{l:List α}{j:Nat}(h:j<l.length)(h2:p l[j]=false):l.all p=false:=List.all_eq_false.2 ⟨_,List.getElem_mem h,by simp [h2]⟩
theorem all_nx {α:Type}{p:α→Bool}{l:List α}{j:Nat}(h:j<l.length)(h1:(l.take j).all p=true)(h2:p l[j]=true):(l.take (j+1)).all p=true:=by
 rw [List.take_succ_eq_append_getElem h,List.all_append,h1]
 simp [h2]
theorem slx {E:TypeId}{D:List TypeId}{l:List As}:Wk (SlO E D l True).va (SlA E D l).va:=zc4 wk_old fun _ _ _ h=>(and_va h).2
theorem benCheck_c (xs:List RE):Cn Try.prog 9 [(SlA 49 [U32] (xs.map REA)).va] (In (chF xs)):=by
 refine Cn.introW Try.func9 rfl zk nq (.cons (up_sl (fun A hA=>by obtain ⟨x,_,rfl⟩:=List.mem_map.1 hA; exact upA_re x)).va .nil) (free_num _ _).va (fun B w0 a hB0 hst=>?_)
 have hst:St B w0 18 [(0,(SlO 49 [U32] (xs.map REA) True).va)] [] a w0.w:=hst
 have hl:=slO_len (hst.vals (0,(SlO 49 [U32] (xs.map REA) True).va) (zm 0 rfl))
 rw [List.length_map] at hl
 refine wp_seq ?_
 refine gl (sts:=[]) (news:=[]) (sp:=[.val 2 _]) [.g 0,.o 0] hst (zv rfl (za2 za3) o0) (fun a w hst=>?_)
 have hst:St B w0 18 [(0,_),(2,_)] [] a w:=hst
 refine zt ?_
 refine wp_seq ?_
 refine gl (sts:=[]) (news:=[]) (sp:=[.val 5 _,.val 6 _,.val 7 _]) [.g 0,.g 1,.o 2] hst (zv rfl (za1 (gq 0 rfl)) (zv rfl (r_len Try.underlying22 (has_and (zau (vq 0 rfl)))) (zv rfl (r_gtr (vq 1 rfl) za3) o0))) (fun a w hst=>?_)
 have hst:St B w0 18 [(0,_),(2,_),(7,_)] [] a w:=hst
 refine za0 ?_
 refine zaa hst (zm 2 rfl) (fun hb0=>?_) (fun hb0=>?_)
 ·have hbig:xs.length>4096:=by rw [List.length_map] at hb0; have:=of_decide_eq_true hb0; omega
  refine wp_seq ?_
  refine gl (sts:=[]) (news:=[]) (sp:=[.val 2 _]) [.g 0,.o 0] hst (zv rfl (za2 za3) o0) (fun a w hst=>?_)
  have hst:St B w0 18 [(0,_),(2,_)] [] a w:=hst
  refine za0 ?_
  refine wp_ret ?_
  refine zag ?_
  refine zak ?_ (zaf rfl hst (zm 1 rfl))
  rw [chF,if_pos hbig]; exact zbl
 ·have hbig:¬ xs.length>4096:=by rw [List.length_map] at hb0; have:=of_decide_eq_false hb0; omega
  refine wp_skip ?_
  refine zt ?_
  refine wp_seq ?_
  refine gl (sts:=[]) (news:=[]) (sp:=[.val 8 _,.val 9 _,.val 10 _]) [.g 1,.o 0,.o 1,.o 2] hst (zv rfl (za1 (gq 0 rfl)) (zv rfl (r_len Try.underlying22 (has_and (zau (vq 0 rfl)))) (zv rfl (za1 za3) o0))) (fun a w hst=>?_)
  have hst:St B w0 18 [(2,_),(8,_),(9,_),(10,_)] [] a w:=hst
  refine za0 ?_
  refine wp_block ?_
  have hst:=St.sel hst [1,2,3]
  refine wp_loop_ghost (fun n a w=>∃ j:Nat,(n+j=xs.length∧(xs.take j).all elF=true)∧St B w0 18 [(8,(SlO 49 [U32] (xs.map REA) True).va),(9,In (xs.length:Nat)),(10,In (j:Nat))] [] a w) (xs.length) ?_ ?_
  ·exact ⟨0,⟨by omega,rfl⟩,by rw [List.length_map] at hst; exact hst⟩
  intro n a w hI
  obtain ⟨j,⟨hn,hno⟩,hst⟩:=hI
  refine wp_seq ?_
  refine gl (sts:=[]) (news:=[]) (sp:=[.val 11 _]) [.g 0,.g 1,.g 2,.o 0] hst (zv rfl (zc0 (gq 2 rfl) (gq 1 rfl)) o0) (fun a w hst=>?_)
  have hst:St B w0 18 [(8,_),(9,_),(10,_),(11,_)] [] a w:=hst
  refine zt ?_
  refine zaa hst (zm 3 rfl) (fun hb1=>?_) (fun hb1=>?_)
  ·have hj:j<xs.length:=by simp at hb1; omega
   refine wp_skip ?_
   refine zt ?_
   refine wp_block ?_
   refine wp_seq ?_
   refine gl (sts:=[]) (news:=[⟨4,49,ptrH,some 2,_,some (3,_)⟩]) (sp:=[.val 12 _,.val 13 _,.alc 0,.sto 0]) [.g 0,.g 1,.g 2] hst (zv rfl (r_idx sl_22 (map_n fun _=>rfl) (has_and (zau (gq 0 rfl))) (gq 2 rfl) (map_at hj)) (zv rfl (zas (vq 0 rfl) ty_49) (oc (zao rfl rfl rfl (Str.zero str_elem)) (oc (zae rfl rfl rfl (vq 1 rfl) ty_49 (Eq.trans (b:=9) rfl rfl)) o0)))) (fun a w hst=>?_)
   have hst:St B w0 18 [(8,_),(9,_),(10,_)] [⟨4,49,ptrH,_⟩] a w:=hst
   refine zt<|gl (sts:=[none]) (news:=[]) (sp:=[.val 14 _,.val 15 _,.val 16 _]) [.g 0,.g 1,.g 2,.o 2] hst (zv rfl (zap (lz0 0 rfl) ty_49) (zv rfl (za5 (xs:=[.tmp 14]) (elMay_c _) (.cons (vq 0 rfl) .nil)) (zv rfl (r_not (vq 1 rfl)) o0))) (fun a w hst=>?_)
   have hst:St B w0 18 [(8,_),(9,_),(10,_),(16,_)] [⟨4,49,ptrH,_⟩] a w:=hst
   refine za0 ?_
   refine zaa hst (zm 3 rfl) (fun hb2=>?_) (fun hb2=>?_)
   ·refine wp_seq ?_
    refine gl (sts:=[none]) (news:=[]) (sp:=[.val 2 _]) [.g 0,.g 1,.g 2,.o 0] hst (zv rfl (za2 za3) o0) (fun a w hst=>?_)
    have hst:St B w0 18 [(8,_),(9,_),(10,_),(2,_)] [⟨4,49,ptrH,_⟩] a w:=hst
    refine za0 ?_
    refine wp_ret ?_
    refine zbd ?_
    refine zag ?_
    refine zag ?_
    refine zbd ?_
    refine zag ?_
    refine zak ?_ (zaf rfl hst (zm 3 rfl))
    rw [chF,if_neg hbig,all_so hj (by simpa using hb2)]; exact zbl
   ·refine wp_skip ?_
    refine zaj ?_
    refine za0 ?_
    refine gl (sts:=[none]) (news:=[]) (sp:=[.val 17 _,.val 10 _]) [.g 0,.g 1,.o 1] hst (zv rfl (zba (gq 2 rfl) za3 ((wi64 zo zo).trans (by omega:(_:Int)=((j+1:Nat):Int)))) (zv rfl (za1 (vq 0 rfl)) o0)) (fun a w hst=>?_)
    have hst:St B w0 18 [(8,_),(9,_),(10,_)] [⟨4,49,ptrH,_⟩] a w:=hst
    refine za0 ?_
    have hst:=St.sel hst [0,1,2]
    have hst:=St.selL hst []
    exact ⟨n-1,by omega,j+1,⟨by omega,all_nx hj hno (by simpa using hb2)⟩,hst⟩
  ·obtain rfl:j=xs.length:=by simp at hb1; omega
   refine wp_exit ?_
   refine zah ?_
   refine zah ?_
   refine zaz ?_
   refine zt<|gl (sts:=[]) (news:=[]) (sp:=[.val 2 _]) [.o 0] hst (zv rfl (za2 za3) o0) (fun a w hst=>?_)
   have hst:St B w0 18 [(2,_)] [] a w:=hst
   refine za0 ?_
   refine wp_ret ?_
   refine zak ?_ (zaf rfl hst (zm 0 rfl))
   rw [List.take_length] at hno; rw [chF,if_neg hbig,hno]; exact zbl
def RepM (b:Nat)(m:MQ):Prop:=∃ n1 n2 n3 n4 D:Int,D≠0∧m.a=(n1:Rat)/(D:Rat)∧m.b=(n2:Rat)/(D:Rat)∧m.c=(n3:Rat)/(D:Rat)∧m.d=(n4:Rat)/(D:Rat)∧lz n1≤b∧lz n2≤b∧lz n3≤b∧lz n4≤b∧lz D≤b
theorem rep_bQ {b:Nat}{m:MQ}(h:RepM b m):bQ b m.a∧bQ b m.b∧bQ b m.c∧bQ b m.d:=by
 obtain ⟨n1,n2,n3,n4,D,hD,e1,e2,e3,e4,h1,h2,h3,h4,h5⟩:=h
 rw [e1,e2,e3,e4,← Rat.divInt_eq_div,← Rat.divInt_eq_div,← Rat.divInt_eq_div,← Rat.divInt_eq_div]
 obtain ⟨a1,a2⟩:=lz_low2 (p:=n1) hD
 obtain ⟨b1,b2⟩:=lz_low2 (p:=n2) hD
 obtain ⟨c1,c2⟩:=lz_low2 (p:=n3) hD
 obtain ⟨d1,d2⟩:=lz_low2 (p:=n4) hD
 exact ⟨⟨by omega,by omega⟩,⟨by omega,by omega⟩,⟨by omega,by omega⟩,⟨by omega,by omega⟩⟩
theorem mul_div {a b c d D E:Rat}(hD:D≠0)(hE:E≠0):a/D*(c/E)+b/D*(d/E)=(a*c+b*d)/(D*E):=by grind
theorem lz_two {c d:Nat}{a b x y:Int}(ha:lz a≤c)(hb:lz b≤c)(hx:lz x≤d)(hy:lz y≤d):lz (a*x+b*y)≤c+d+1:=by
 have h1:=lz_add (a*x) (b*y)
 have h2:=lz_mul a x
 have h3:=lz_mul b y
 omega
theorem rep_mul {c d:Nat}{m q:MQ}(hm:RepM c m)(hq:RepM d q):RepM (c+d+1) (mulQ m q):=by
 obtain ⟨n1,n2,n3,n4,D,hD,e1,e2,e3,e4,h1,h2,h3,h4,h5⟩:=hm
 obtain ⟨k1,k2,k3,k4,E,hE,f1,f2,f3,f4,g1,g2,g3,g4,g5⟩:=hq
 have hDr:(D:Rat)≠0:=fun e=>hD (by exact_mod_cast e)
 have hEr:(E:Rat)≠0:=fun e=>hE (by exact_mod_cast e)
 refine ⟨n1*k1+n2*k3,n1*k2+n2*k4,n3*k1+n4*k3,n3*k2+n4*k4,D*E,Int.mul_ne_zero hD hE,?_,?_,?_,?_,lz_two h1 h2 g1 g3,lz_two h1 h2 g2 g4,lz_two h3 h4 g1 g3,lz_two h3 h4 g2 g4,?_⟩
 ·simp only [mulQ,e1,e2,f1,f3,Rat.intCast_add,Rat.intCast_mul]
  exact mul_div hDr hEr
 ·simp only [mulQ,e1,e2,f2,f4,Rat.intCast_add,Rat.intCast_mul]
  exact mul_div hDr hEr
 ·simp only [mulQ,e3,e4,f1,f3,Rat.intCast_add,Rat.intCast_mul]
  exact mul_div hDr hEr
 ·simp only [mulQ,e3,e4,f2,f4,Rat.intCast_add,Rat.intCast_mul]
  exact mul_div hDr hEr
 ·have:=lz_mul D E
  omega
theorem rep_of {b:Nat}{m:MQ}(n1 n2 n3 n4 D:Int)(hD:D≠0)(e1:m.a*(D:Rat)=(n1:Rat))(e2:m.b*(D:Rat)=(n2:Rat))(e3:m.c*(D:Rat)=(n3:Rat))(e4:m.d*(D:Rat)=(n4:Rat))(h1:lz n1≤b)(h2:lz n2≤b)(h3:lz n3≤b)(h4:lz n4≤b)(h5:lz D≤b):RepM b m:=by
 have hDr:(D:Rat)≠0:=fun e=>hD (by exact_mod_cast e)
 have key:∀ {x:Rat} {n:Int},x*(D:Rat)=(n:Rat)→x=(n:Rat)/(D:Rat):=fun h=>by rw [← h]; exact (Rat.mul_div_cancel hDr).symm
 exact ⟨n1,n2,n3,n4,D,hD,key e1,key e2,key e3,key e4,h1,h2,h3,h4,h5⟩
theorem den_mul (x:Rat):x*((x.den:Int):Rat)=(x.num:Rat):=by
 have:=nd_eq x
 have hd:=den_ne x
 generalize ((x.den:Int):Rat)=d at *
 generalize (x.num:Rat)=n at *
 grind
theorem lz_0:lz 0=0:=by kernel_rfl
theorem lz_one1:lz 1≤1:=Nat.le_of_ble_eq_true zk
theorem rep_b {k:Nat}{x:Rat}(h:bQ k x):RepM k ⟨1,x,0,1⟩:=rep_of (x.den:Int) x.num 0 (x.den:Int) (x.den:Int) (by have:=x.den_pos; omega) (Rat.one_mul _) (den_mul x) (Rat.zero_mul _) (Rat.one_mul _) h.2 h.1 (by rw [lz_0]; omega) h.2 h.2
theorem rep_c {k:Nat}{x:Rat}(h:bQ k x):RepM k ⟨1,0,x,1⟩:=rep_of (x.den:Int) 0 x.num (x.den:Int) (x.den:Int) (by have:=x.den_pos; omega) (Rat.one_mul _) (Rat.zero_mul _) (den_mul x) (Rat.one_mul _) h.2 (by rw [lz_0]; omega) h.1 h.2 h.2
theorem rep_1:RepM 1 ⟨1,0,0,1⟩:=rep_of 1 0 0 1 1 zd (by grind) (by grind) (by grind) (by grind) lz_one1 (by rw [lz_0]; omega) (by rw [lz_0]; omega) lz_one1 lz_one1
theorem rep_f:RepM 1 ⟨0-1,0-0,0-0,0-1⟩:=rep_of (-1) 0 0 (-1) 1 zd (by grind) (by grind) (by grind) (by grind) nq (by rw [lz_0]; omega) (by rw [lz_0]; omega) nq lz_one1
theorem rep_mono {b c:Nat}{m:MQ}(h:RepM b m)(hc:b≤c):RepM c m:=by
 obtain ⟨n1,n2,n3,n4,D,hD,e1,e2,e3,e4,h1,h2,h3,h4,h5⟩:=h
 exact ⟨n1,n2,n3,n4,D,hD,e1,e2,e3,e4,by omega,by omega,by omega,by omega,by omega⟩
theorem bQ_min {k:Nat}{x:Rat}(h:bQ k x):bQ k (0-x):=by
 have e:0-x = -x:=by grind
 rw [e]
 exact ⟨by rw [Rat.neg_num,lz_neg]; exact h.1,by rw [Rat.neg_den]; exact h.2⟩
theorem bQ_div {c d:Nat}{x y:Rat}(hx:bQ c x)(hy:bQ d y)(h0:y≠0):bQ (c+d) (x/y):=by
 rw [← rat_div]
 obtain ⟨h1,h2⟩:=lz_low2 (p:=x.num*(y.den:Int)) (num_nz x h0)
 have h3:=lz_mul x.num (y.den:Int)
 have h4:=lz_mul (x.den:Int) y.num
 obtain ⟨x1,x2⟩:=hx
 obtain ⟨y1,y2⟩:=hy
 exact ⟨by omega,by omega⟩
theorem okX_bQ {x:RF}(h:okX x=true):bQ 2048 (toQ x):=(okX_q h).2
theorem el_kinds {x:RE}(h:elF x=true):[x.p,x.q].all okX=true∧(x.k=1∨x.k=2∨(x.k=3∧toQ x.q≠0)∨x.k=4∨x.k=5):=by
 unfold elF at h
 rw [Bool.and_eq_true] at h
 refine ⟨h.1,?_⟩
 have h2:=h.2
 by_cases h1:x.k=1
 ·exact .inl h1
 ·by_cases h3:x.k=2
  ·exact .inr (.inl h3)
  ·by_cases h4:x.k=3
   ·rw [kd3 (by simpa using h1) (by simpa using h3) (by simpa using h4),Bool.and_eq_true] at h2
    refine .inr (.inr (.inl ⟨h4,fun e=>?_⟩))
    rw [e] at h2
    have:=of_decide_eq_true h2.2
    exact absurd this zd
   ·by_cases h5:x.k=4
    ·exact .inr (.inr (.inr (.inl h5)))
    ·rw [kd5 (by simpa using h1) (by simpa using h3) (by simpa using h4) (by simpa using h5)] at h2
     simp only [Bool.and_eq_true,beq_iff_eq] at h2
     exact .inr (.inr (.inr (.inr h2.1.1)))
theorem el_rep {x:RE}(h:elF x=true):RepM 4096 (elM x):=by
 obtain ⟨hx,hk⟩:=el_kinds h
 simp only [List.all_cons,List.all_nil,Bool.and_true,Bool.and_eq_true] at hx
 have bp:=okX_bQ hx.1
 have bq:=okX_bQ hx.2
 unfold elM
 rcases hk with hk | hk | ⟨hk,h0⟩ | hk | hk <;> rw [hk]
 ·exact rep_mono (rep_b bp) zd
 ·exact rep_mono (rep_c (bQ_min bp)) zd
 ·exact rep_b (bQ_div bp bq h0)
 ·exact rep_c (bQ_min (bQ_mul bp bq))
 ·exact rep_mono rep_f zd
theorem prod_nx {xs:List RE}{j:Nat}(h:j<xs.length):prodQ (xs.take (j+1))=mulQ (elM xs[j]) (prodQ (xs.take j)):=by
 rw [List.take_succ_eq_append_getElem h]
 unfold prodQ
 rw [List.foldl_append]
 rfl
theorem prod_rep {xs:List RE}(h:xs.all elF=true):∀ j,j≤xs.length→RepM (1+4097*j) (prodQ (xs.take j))
 | 0,_=>rep_1
 | j+1,hj=>by
  rw [prod_nx zo]
  exact rep_mono (rep_mul (el_rep (List.all_eq_true.1 h _ (List.getElem_mem zo))) (prod_rep h j zo)) zo
theorem qa_bQ {k k':Nat}{x:Rat}(h:bQ k' x):WkA (QA k x) (QA k' x):=qaA.trans (qa_of h.1 h.2)
theorem qm_rep {k k':Nat}{m:MQ}(h:RepM k' m):WkA (QMA k m) (QMA k' m):=by
 obtain ⟨h1,h2,h3,h4⟩:=rep_bQ h
 exact zbv (.cons (qa_bQ h1) (.cons (qa_bQ h2) (.cons (qa_bQ h3) (.cons (qa_bQ h4) .nil))))
theorem re_k {x:RE}{k:Int}(h:x.k=k)(hx:[x.p,x.q].all okX=true):Wk (REA x).va (QEA 2048 k (toQ x.p) (toQ x.q)).va:=by subst h; exact (el_q hx).va
theorem rowOf_c {x:RE}(h:elF x=true):Cn Try.prog 52 [(REA x).va] (QMA 4099 (elM x)).va:=by
 obtain ⟨hx,hk⟩:=el_kinds h
 unfold elM
 rcases hk with hk | hk | ⟨hk,h0⟩ | hk | hk <;> rw [hk]
 ·exact rowOfK1.wk (.cons (re_k hk hx) .nil)
 ·exact rowOfK2.wk (.cons (re_k hk hx) .nil)
 ·exact (rowOfK3 h0).wk (.cons (re_k hk hx) .nil)
 ·exact rowOfK4.wk (.cons (re_k hk hx) .nil)
 ·exact rowOfK5.wk (.cons (re_k hk hx) .nil)
theorem ch_ok {xs:List RE}(h:chF xs=0):xs.length≤4096∧xs.all elF=true:=by
 unfold chF at h
 by_cases h1:xs.length>4096
 ·rw [if_pos h1] at h; exact absurd h zd
 ·rw [if_neg h1] at h
  cases h2:xs.all elF with
  | true=>exact ⟨by omega,rfl⟩
  | false=>rw [h2] at h; exact absurd h zd
theorem ch_mk {xs:List RE}(h1:xs.length≤4096)(h2:xs.all elF=true):chF xs=0:=by unfold chF; rw [if_neg zo,h2]; rfl
set_option maxHeartbeats 2000000 in
theorem rowMatrix_c {xs:List RE}(h4:xs.length≤4096)(hx:xs.all elF=true):Cn Try.prog 28 [(SlA 49 [U32] (xs.map REA)).va] ((QMA 16781313 (prodQ xs)).va):=by
 refine Cn.introF Try.func28 rfl zk nq (fun B w0 a hF hst=>?_)
 have hst:St B w0 19 [(0,(SlA 49 [U32] (xs.map REA)).va)] [] a w0.w:=hst
 obtain ⟨v0,hv0,hst⟩:=St.eqv hst 0 rfl
 have hr:=prod_rep hx
 refine wp_seq ?_
 refine gl (sts:=[]) (news:=[⟨2,37,ptrH,some 0,_,none⟩]) (sp:=[.alc 0]) [.g 0] hst (oc (zao rfl rfl rfl (Str.zero zar)) o0) (fun a w hst=>?_)
 have hst:St B w0 19 [(0,_)] [⟨2,37,ptrH,_⟩] a w:=hst
 refine zt<|gl (sts:=[none]) (news:=[⟨3,37,ptrH,some 1,_,some (2,_)⟩]) (sp:=[.val 6 _,.alc 1,.sto 1]) [.g 0] hst (zv rfl (za5 (xs:=[]) rowOne_q .nil) (oc (zao rfl rfl rfl (Str.zero zar)) (oc (zae rfl rfl rfl (vq 0 rfl) zb9 (Eq.trans (b:=16) rfl rfl)) o0))) (fun a w hst=>?_)
 have hst:St B w0 19 [(0,_)] [⟨2,37,ptrH,_⟩,⟨3,37,ptrH,_⟩] a w:=hst
 refine zt ?_
 refine wp_seq ?_
 refine gl (sts:=[none,none]) (news:=[]) (sp:=[.val 7 _,.val 8 _,.val 9 _]) [.o 0,.o 1,.o 2] hst (zv rfl (za1 (gq 0 rfl)) (zv rfl (r_len Try.underlying22 (has_again hF hv0 (vq 0 rfl))) (zv rfl (za1 za3) o0))) (fun a w hst=>?_)
 have hst:St B w0 19 [(7,_),(8,_),(9,_)] [⟨2,37,ptrH,_⟩,⟨3,37,ptrH,_⟩] a w:=hst
 refine za0 ?_
 refine wp_block ?_
 have hst:=St.sel hst [0,1,2]
 refine wp_loop_ghost (fun n a w=>∃ j:Nat,n+j=xs.length∧St B w0 19 [(7,EqV v0),(8,In (xs.length:Nat)),(9,In (j:Nat))] [⟨2,37,ptrH,RMA rm0⟩,⟨3,37,ptrH,QMA (1+4097*j) (prodQ (xs.take j))⟩] a w) (xs.length) ?_ ?_
 ·rw [List.length_map] at hst
  exact ⟨0,by omega,St.wkL hst 1 rfl (qm_rep rep_1)⟩
 intro n a w hI
 obtain ⟨j,hn,hst⟩:=hI
 refine wp_seq ?_
 refine gl (sts:=[none,none]) (news:=[]) (sp:=[.val 10 _]) [.g 0,.g 1,.g 2,.o 0] hst (zv rfl (zc0 (gq 2 rfl) (gq 1 rfl)) o0) (fun a w hst=>?_)
 have hst:St B w0 19 [(7,_),(8,_),(9,_),(10,_)] [⟨2,37,ptrH,_⟩,⟨3,37,ptrH,_⟩] a w:=hst
 refine zt ?_
 refine zaa hst (zm 3 rfl) (fun hb0=>?_) (fun hb0=>?_)
 ·have hj:j<xs.length:=by simp at hb0; omega
  refine wp_skip ?_
  refine zt ?_
  refine wp_block ?_
  refine wp_seq ?_
  refine gl (sts:=[none,none]) (news:=[⟨5,49,ptrH,some 2,_,some (3,_)⟩]) (sp:=[.val 11 _,.val 12 _,.alc 2,.sto 2]) [.g 0,.g 1,.g 2] hst (zv rfl (r_idx sl_22 (map_n fun _=>rfl) (has_again hF hv0 (gq 0 rfl)) (gq 2 rfl) (map_at hj)) (zv rfl (zas (vq 0 rfl) ty_49) (oc (zao rfl rfl rfl (Str.zero str_elem)) (oc (zae rfl rfl rfl (vq 1 rfl) ty_49 (Eq.trans (b:=9) rfl rfl)) o0)))) (fun a w hst=>?_)
  have hst:St B w0 19 [(7,_),(8,_),(9,_)] [⟨2,37,ptrH,_⟩,⟨3,37,ptrH,_⟩,⟨5,49,ptrH,_⟩] a w:=hst
  refine za0 ?_
  refine zaw (anc:=[[],[0],[],[0,1,2],[0,1,2,3]]) (sts:=[none,some (4,_),none]) (news:=[]) (sp:=[.val 13 _,.val 14 _,.val 15 _,.val 16 _,.sto 1]) [.g 0,.g 1,.g 2] za6 hst (zv rfl (zap (lz0 2 rfl) ty_49) (zv rfl (za5 (xs:=[.tmp 13]) (rowOf_c (List.all_eq_true.1 hx _ (List.getElem_mem hj))) (.cons (vq 0 rfl) .nil)) (zv rfl (zap (lz0 1 rfl) zb9) (zv rfl (za5 (xs:=[.tmp 14,.tmp 15]) (rowTimes_q (c:=4099) (d:=1+4097*j) (m:=elM xs[j]) (q:=prodQ (xs.take j)) zo) (.cons (vq 1 rfl) (.cons (vq 2 rfl) .nil))) (oc (zae rfl rfl rfl (vq 3 rfl) zb9 (Eq.trans (b:=16) rfl rfl)) o0))))) zk zk zk zk (fun a w hst=>?_)
  have hst:St B w0 19 [(7,_),(8,_),(9,_)] [⟨2,37,ptrH,_⟩,⟨3,37,ptrH,_⟩,⟨5,49,ptrH,_⟩] a w:=hst
  refine zaj ?_
  refine za0 ?_
  refine gl (sts:=[none,none,none]) (news:=[]) (sp:=[.val 17 _,.val 9 _]) [.g 0,.g 1,.o 1] hst (zv rfl (zba (gq 2 rfl) za3 ((wi64 zo zo).trans (by omega:(_:Int)=((j+1:Nat):Int)))) (zv rfl (za1 (vq 0 rfl)) o0)) (fun a w hst=>?_)
  have hst:St B w0 19 [(7,_),(8,_),(9,_)] [⟨2,37,ptrH,_⟩,⟨3,37,ptrH,_⟩,⟨5,49,ptrH,_⟩] a w:=hst
  refine za0 ?_
  have hst:=St.sel hst [0,1,2]
  have hst:=St.selL hst [0,1]
  have hst:=St.wkL (A':=QMA (1+4097*(j+1)) (prodQ (xs.take (j+1)))) hst 1 rfl ((wkA_eq (congrArg (QMA _) (prod_nx hj).symm)).trans (qm_rep (hr (j+1) zo)))
  exact ⟨n-1,by omega,j+1,by omega,hst⟩
 ·obtain rfl:j=xs.length:=by simp at hb0; omega
  refine wp_exit ?_
  refine zah ?_
  refine zah ?_
  refine zaz ?_
  refine zt<|gl (sts:=[some (1,_),none]) (news:=[]) (sp:=[.val 18 _,.sto 0]) [] hst (zv rfl (zap (lz0 1 rfl) zb9) (oc (zae rfl rfl rfl (vq 0 rfl) zb9 (Eq.trans (b:=16) rfl rfl)) o0)) (fun a w hst=>?_)
  have hst:St B w0 19 [] [⟨2,37,ptrH,_⟩,⟨3,37,ptrH,_⟩] a w:=hst
  refine za0 ?_
  refine wp_ret ?_
  refine zak ?_ (zan rfl hst (zm 0 rfl) zb9)
  rw [List.take_length]; exact (zbv (.cons (zbb zo) (.cons (zbb zo) (.cons (zbb zo) (.cons (zbb zo) .nil))))).va
end Go.Proofs.Ytljkepdpoelpkaa
namespace Go.Proofs.Ytljkepdpoelpkaa
open Go Go.RowKit
theorem as_any {m:MQ}(h:[m.a,m.b,m.c,m.d].any longQ=true):asM 0 m=(rm0,4):=by rw [asM,if_pos rfl,if_pos h]
theorem as_none {m:MQ}(h:[m.a,m.b,m.c,m.d].any longQ=false):asM 0 m=(rmOf m,0):=by rw [asM,if_pos rfl,if_neg (by rw [h]; decide)]
theorem toldM_q {c:Nat}(m:MQ):Cn Try.prog 29 [(QMA c m).va,(SlA 35 [U32] [QA c m.a,QA c m.b,QA c m.c,QA c m.d]).va] (MR (asM 0 m)):=by
 refine Cn.intro Try.func29 rfl zk nq (fun B w0 a hst=>?_)
 have hst:St B w0 10 [(0,(QMA c m).va),(1,(SlA 35 [U32] [QA c m.a,QA c m.b,QA c m.c,QA c m.d]).va)] [] a w0.w:=hst
 refine wp_seq ?_
 refine gl (sts:=[]) (news:=[⟨2,37,ptrH,some 0,_,none⟩,⟨4,37,ptrH,some 1,_,none⟩]) (sp:=[.alc 0,.alc 1,.val 5 _]) [.g 1,.o 2] hst (oc (zaq rfl rfl rfl (gq 0 rfl)) (oc (zao rfl rfl rfl (Str.zero zar)) (zv rfl (za2 za3) o0))) (fun a w hst=>?_)
 have hst:St B w0 10 [(1,_),(5,_)] [⟨2,37,ptrH,_⟩,⟨4,37,ptrH,_⟩] a w:=hst
 refine zt ?_
 refine wp_seq ?_
 refine gl (sts:=[none,none]) (news:=[]) (sp:=[.val 6 _,.val 7 _]) [.g 1,.o 1] hst (zv rfl (za1 (gq 0 rfl)) (zv rfl (za5 (xs:=[.tmp 6]) (long_q [m.a,m.b,m.c,m.d] (.cons ⟨_,rfl⟩ (.cons ⟨_,rfl⟩ (.cons ⟨_,rfl⟩ (.cons ⟨_,rfl⟩ .nil)))) nq) (.cons (vq 0 rfl) .nil)) o0)) (fun a w hst=>?_)
 have hst:St B w0 10 [(5,_),(7,_)] [⟨2,37,ptrH,_⟩,⟨4,37,ptrH,_⟩] a w:=hst
 refine za0 ?_
 refine zaa hst (zm 1 rfl) (fun hb0=>?_) (fun hb0=>?_)
 ·refine wp_seq ?_
  refine gl (sts:=[none,some (1,_)]) (news:=[]) (sp:=[.val 8 _,.sto 1,.val 5 _]) [.o 2] hst (zv rfl (zap (lz0 1 rfl) zb9) (oc (zae rfl rfl rfl (vq 0 rfl) zb9 (Eq.trans (b:=16) rfl rfl)) (zv rfl (za2 za3) o0))) (fun a w hst=>?_)
  have hst:St B w0 10 [(5,_)] [⟨2,37,ptrH,_⟩,⟨4,37,ptrH,_⟩] a w:=hst
  refine za0 ?_
  refine wp_ret ?_
  refine zag ?_
  refine zak ?_ (zay (rs:=[.cell 4 37,.tmp 5]) rfl hst (.cell (zm 1 rfl) zb9 (.tmp (zm 0 rfl) .nil)) zd)
  rw [as_any hb0]; exact zbl
 ·refine wp_skip ?_
  refine zt<|gl (sts:=[none,some (1,_)]) (news:=[]) (sp:=[.val 9 _,.sto 1,.val 5 _]) [.o 2] hst (zv rfl (zap (lz0 0 rfl) zb9) (oc (zae rfl rfl rfl (vq 0 rfl) zb9 (Eq.trans (b:=16) rfl rfl)) (zv rfl (za2 za3) o0))) (fun a w hst=>?_)
  have hst:St B w0 10 [(5,_)] [⟨2,37,ptrH,_⟩,⟨4,37,ptrH,_⟩] a w:=hst
  refine za0 ?_
  refine wp_ret ?_
  refine zak ?_ (zay (rs:=[.cell 4 37,.tmp 5]) rfl hst (.cell (zm 1 rfl) zb9 (.tmp (zm 0 rfl) .nil)) zd)
  rw [as_none hb0]; exact tu2w qmA.va zbl
theorem benMatrix_c (xs:List RE):Cn Try.prog 12 [(SlA 49 [U32] (xs.map REA)).va] (MR (benF xs)):=by
 refine Cn.intro Try.func12 rfl zk nq (fun B w0 a hst=>?_)
 have hst:St B w0 27 [(0,(SlA 49 [U32] (xs.map REA)).va)] [] a w0.w:=hst
 refine wp_seq ?_
 refine gl (sts:=[]) (news:=[⟨2,37,ptrH,some 0,_,none⟩]) (sp:=[.alc 0,.val 3 _]) [.g 0,.o 1] hst (oc (zao rfl rfl rfl (Str.zero zar)) (zv rfl (za2 za3) o0)) (fun a w hst=>?_)
 have hst:St B w0 27 [(0,_),(3,_)] [⟨2,37,ptrH,_⟩] a w:=hst
 refine zt ?_
 refine wp_seq ?_
 refine gl (sts:=[none]) (news:=[]) (sp:=[.val 6 _,.val 7 _,.val 4 _]) [.g 0,.g 1,.o 2] hst (zv rfl (za1 (gq 0 rfl)) (zv rfl (za5 (xs:=[.tmp 6]) (benCheck_c xs) (.cons (vq 0 rfl) .nil)) (zv rfl (za2 (vq 1 rfl)) o0))) (fun a w hst=>?_)
 have hst:St B w0 27 [(0,_),(3,_),(4,_)] [⟨2,37,ptrH,_⟩] a w:=hst
 refine zt<|gl (sts:=[none]) (news:=[]) (sp:=[.val 8 _,.val 9 _]) [.g 0,.g 1,.g 2,.o 1] hst (zv rfl (za1 (gq 2 rfl)) (zv rfl (zch (vq 0 rfl) za3) o0)) (fun a w hst=>?_)
 have hst:St B w0 27 [(0,_),(3,_),(4,_),(9,_)] [⟨2,37,ptrH,_⟩] a w:=hst
 refine za0 ?_
 refine zaa hst (zm 3 rfl) (fun hb0=>?_) (fun hb0=>?_)
 ·have hc:¬ chF xs=0:=by simpa using hb0
  refine wp_seq ?_
  refine gl (sts:=[some (2,_)]) (news:=[]) (sp:=[.val 10 _,.val 11 _,.sto 0,.val 3 _]) [.g 0,.o 3] hst (zv rfl (zbi (xs:=[]) (qs:=[]) zar .nil) (zv rfl (za1 (gq 2 rfl)) (oc (zae rfl rfl rfl (vq 0 rfl) zb9 (Eq.trans (b:=16) rfl rfl)) (zv rfl (za2 (vq 1 rfl)) o0)))) (fun a w hst=>?_)
  have hst:St B w0 27 [(0,_),(3,_)] [⟨2,37,ptrH,_⟩] a w:=hst
  refine za0 ?_
  refine wp_ret ?_
  refine zag ?_
  refine zak ?_ (zay (rs:=[.cell 2 37,.tmp 3]) rfl hst (.cell (zm 0 rfl) zb9 (.tmp (zm 1 rfl) .nil)) zd)
  rw [benF,if_neg hc]; exact zbl
 ·have hc:chF xs=0:=by simpa using hb0
  have hk:=ch_ok hc
  refine wp_skip ?_
  refine zt<|gl (sts:=[none]) (news:=[⟨5,37,ptrH,some 2,_,some (3,_)⟩]) (sp:=[.val 12 _,.val 13 _,.alc 1,.sto 1]) [.g 1] hst (zv rfl (za1 (gq 0 rfl)) (zv rfl (za5 (xs:=[.tmp 12]) (rowMatrix_c hk.1 hk.2) (.cons (vq 0 rfl) .nil)) (oc (zao rfl rfl rfl (Str.zero zar)) (oc (zae rfl rfl rfl (vq 1 rfl) zb9 (Eq.trans (b:=16) rfl rfl)) o0)))) (fun a w hst=>?_)
  have hst:St B w0 27 [(3,_)] [⟨2,37,ptrH,_⟩,⟨5,37,ptrH,_⟩] a w:=hst
  refine zt<|gl (sts:=[some (13,_),none]) (news:=[]) (sp:=[.val 14 _,.adr 15 5 (.some 0) True,.val 16 _,.adr 17 5 (.some 4) True,.val 18 _,.adr 19 5 (.some 8) True,.val 20 _,.adr 21 5 (.some 12) True,.val 22 _,.val 23 _,.val 24 _,.val 25 _,.val 26 _,.sto 0,.val 3 _]) [.o 14] hst (zv rfl (zap (lz0 1 rfl) zb9) (oc (ob_a rfl rfl (za9 (lz0 1 rfl) fld_37_0)) (zv rfl (za4 1 rfl zk trivial (lz0 1 rfl) (Sub.part 0 rfl rfl) zam) (oc (ob_a rfl rfl (za9 (lz0 1 rfl) zcp)) (zv rfl (za4 3 rfl zk trivial (lz0 1 rfl) (Sub.part 1 rfl rfl) zam) (oc (ob_a rfl rfl (za9 (lz0 1 rfl) zco)) (zv rfl (za4 5 rfl zk trivial (lz0 1 rfl) (Sub.part 2 rfl rfl) zam) (oc (ob_a rfl rfl (za9 (lz0 1 rfl) fld_37_3)) (zv rfl (za4 7 rfl zk trivial (lz0 1 rfl) (Sub.part 3 rfl rfl) zam) (zv rfl (r_slice (D:=[U32]) (l:=[_,_,_,_]) (xs:=[.tmp 16,.tmp 18,.tmp 20,.tmp 22]) (nd_ok zk) sl_80 zk (n_ok zk) nq nq nq (.cons (vq 2 rfl) (.cons (vq 4 rfl) (.cons (vq 6 rfl) (.cons (vq 8 rfl) .nil)))) rfl rfl) (zv rfl (za5 (xs:=[.tmp 14,.tmp 23]) (toldM_q (prodQ xs)) (.cons (vq 0 rfl) (.cons (vq 9 rfl) .nil))) (zv rfl (r_ex0 (vq 10 rfl)) (zv rfl (r_ex1 (vq 10 rfl)) (oc (zae rfl rfl rfl (vq 11 rfl) zb9 (Eq.trans (b:=16) rfl rfl)) (zv rfl (za2 (vq 12 rfl)) o0))))))))))))))) (fun a w hst=>?_)
  have hst:St B w0 27 [(3,_)] [⟨2,37,ptrH,_⟩,⟨5,37,ptrH,_⟩] a w:=hst
  refine za0 ?_
  refine wp_ret ?_
  refine zak ?_ (zay (rs:=[.cell 2 37,.tmp 3]) rfl hst (.cell (zm 0 rfl) zb9 (.tmp (zm 0 rfl) .nil)) zd)
  rw [benF,if_pos hc]; exact zbl
def elCostF (x:RE):Int:=IntKind.i64.wrap (fracCostF x.p+fracCostF x.q)
def elsF (n:Int):List RE→Int
 | []=>n
 | x::xs=>if decide (n≤1048576) then elsF (IntKind.i64.wrap (n+elCostF x)) xs else n
theorem els_go {n:Int}{l:List RE}{j:Nat}(h:j<l.length)(h2:n≤1048576):elsF n (l.drop j)=elsF (IntKind.i64.wrap (n+elCostF l[j])) (l.drop (j+1)):=by
 rw [List.drop_eq_getElem_cons h,elsF,if_pos (decide_eq_true h2)]
theorem els_end {n:Int}{l:List RE}{j:Nat}(h:¬ (j<l.length∧n≤1048576)):elsF n (l.drop j)=n:=by
 by_cases hj:j<l.length
 ·rw [List.drop_eq_getElem_cons hj,elsF,if_neg (by simpa using fun hh=>h ⟨hj,hh⟩)]
 ·rw [List.drop_of_length_le zo]; rfl
theorem elCost_c (x:RE):Cn Try.prog 43 [(REA x).va] (In (elCostF x)):=by
 refine Cn.intro Try.func43 rfl zk nq (fun B w0 a hst=>?_)
 have hst:St B w0 10 [(0,(REA x).va)] [] a w0.w:=hst
 refine wp_seq ?_
 refine gl (sts:=[]) (news:=[⟨1,49,ptrH,some 0,_,none⟩]) (sp:=[.alc 0,.val 2 _]) [.o 1] hst (oc (zaq rfl rfl rfl (gq 0 rfl)) (zv rfl (za2 za3) o0)) (fun a w hst=>?_)
 have hst:St B w0 10 [(2,_)] [⟨1,49,ptrH,_⟩] a w:=hst
 refine zt<|zaw (anc:=[[],[0],[0,1],[],[3],[0,1,2,3,4],[0,1,2,3,4,5],[0,1,2,3,4,5,6]]) (sts:=[none]) (news:=[]) (sp:=[.adr 3 1 (.some 1) True,.val 4 _,.val 5 _,.adr 6 1 (.some 5) True,.val 7 _,.val 8 _,.val 9 _,.val 2 _]) [.o 7] za6 hst (oc (ob_a rfl rfl (za9 (lz0 0 rfl) zbp)) (zv rfl (za4 0 rfl zk trivial (lz0 0 rfl) (Sub.part 1 rfl rfl) zam) (zv rfl (za5 (xs:=[.tmp 4]) (fracCost_c _) (.cons (vq 1 rfl) .nil)) (oc (ob_a rfl rfl (za9 (lz0 0 rfl) fld_49_2)) (zv rfl (za4 3 rfl zk trivial (lz0 0 rfl) (Sub.part 2 rfl rfl) zam) (zv rfl (za5 (xs:=[.tmp 7]) (fracCost_c _) (.cons (vq 4 rfl) .nil)) (zv rfl (zba (vq 2 rfl) (vq 5 rfl) (rfl)) (zv rfl (za2 (vq 6 rfl)) o0)))))))) zk zk zk zk (fun a w hst=>?_)
 have hst:St B w0 10 [(2,_)] [⟨1,49,ptrH,_⟩] a w:=hst
 refine za0 ?_
 refine wp_ret ?_
 refine zak ?_ (zaf rfl hst (zm 0 rfl))
 exact zbl
theorem elsCost_c (xs:List RE):Cn Try.prog 20 [(SlA 49 [U32] (xs.map REA)).va] (In (elsF (xs.length:Nat) xs)):=by
 refine Cn.intro Try.func20 rfl zk nq (fun B w0 a hst=>?_)
 have hst:St B w0 25 [(0,(SlA 49 [U32] (xs.map REA)).va)] [] a w0.w:=hst
 have hl:=slA_lenm (hst.vals (0,(SlA 49 [U32] (xs.map REA)).va) (zm 0 rfl))
 refine wp_seq ?_
 refine gl (sts:=[]) (news:=[]) (sp:=[.val 2 _]) [.g 0,.o 0] hst (zv rfl (za2 za3) o0) (fun a w hst=>?_)
 have hst:St B w0 25 [(0,_),(2,_)] [] a w:=hst
 refine zt<|gl (sts:=[]) (news:=[]) (sp:=[.val 5 _,.val 6 _,.val 3 _]) [.g 0,.g 1,.o 2] hst (zv rfl (za1 (gq 0 rfl)) (zv rfl (r_len Try.underlying22 (vq 0 rfl)) (zv rfl (za2 (vq 1 rfl)) o0))) (fun a w hst=>?_)
 have hst:St B w0 25 [(0,_),(2,_),(3,_)] [] a w:=hst
 refine zt ?_
 refine wp_seq ?_
 refine gl (sts:=[]) (news:=[]) (sp:=[.val 4 _]) [.g 0,.g 1,.g 2,.o 0] hst (zv rfl (za2 za3) o0) (fun a w hst=>?_)
 have hst:St B w0 25 [(0,_),(2,_),(3,_),(4,_)] [] a w:=hst
 refine za0 ?_
 refine wp_block ?_
 have hst:=St.sel hst [0,2,3]
 refine wp_loop_ghost (fun n a w=>∃ (j:Nat) (m:Int),(n+j=xs.length∧elsF (xs.length:Nat) xs=elsF m (xs.drop j))∧St B w0 25 [(0,(SlA 49 [U32] (xs.map REA)).va),(3,In m),(4,In (j:Nat))] [] a w) (xs.length) ?_ ?_
 ·exact ⟨0,(xs.length:Nat),⟨by omega,rfl⟩,by rw [List.length_map] at hst; exact hst⟩
 intro n a w hI
 obtain ⟨j,m,⟨hn,hm⟩,hst⟩:=hI
 refine wp_seq ?_
 refine wp_seq ?_
 refine gl (sts:=[]) (news:=[]) (sp:=[.val 7 _,.val 8 _,.val 9 _,.val 10 _,.val 11 _,.val 12 (Wh (_=true) _),.val 13 (Wh (_=true) _),.val 14 _]) [.g 0,.g 1,.g 2,.o 7] hst (zv rfl (za1 (gq 2 rfl)) (zv rfl (za1 (gq 0 rfl)) (zv rfl (r_len Try.underlying22 (vq 1 rfl)) (zv rfl (zc0 (vq 0 rfl) (vq 2 rfl)) (zv rfl (za1 (vq 3 rfl)) (oc (zac rfl rfl rfl (vq 4 rfl) nq (fun hg=>za1 (gq 1 rfl))) (oc (zac rfl rfl rfl (vq 4 rfl) nq (fun hg=>r_leq (za7 (vq 5 rfl) hg) za3)) (zv rfl (zci (vq 4 rfl) (vq 6 rfl)) o0)))))))) (fun a w hst=>?_)
 have hst:St B w0 25 [(0,_),(3,_),(4,_),(14,_)] [] a w:=hst
 refine za0 ?_
 refine zaa hst (zm 3 rfl) (fun hb0=>?_) (fun hb0=>?_)
 ·rw [Bool.and_eq_true,decide_eq_true_eq,decide_eq_true_eq,List.length_map] at hb0
  have hj:j<xs.length:=by omega
  have hm0:=hb0.2
  refine wp_skip ?_
  refine zt ?_
  refine wp_block ?_
  refine gl (sts:=[]) (news:=[]) (sp:=[.val 17 _,.val 18 _,.val 19 _,.val 20 _,.val 21 _,.val 22 _,.val 23 _,.val 3 _]) [.g 0,.g 2,.o 7] hst (zv rfl (za1 (gq 1 rfl)) (zv rfl (za1 (gq 0 rfl)) (zv rfl (za1 (gq 2 rfl)) (zv rfl (r_idx sl_22 (map_n fun _=>rfl) (vq 1 rfl) (vq 2 rfl) (map_at hj)) (zv rfl (zas (vq 3 rfl) ty_49) (zv rfl (za5 (xs:=[.tmp 21]) (elCost_c _) (.cons (vq 4 rfl) .nil)) (zv rfl (zba (vq 0 rfl) (vq 5 rfl) (rfl)) (zv rfl (za2 (vq 6 rfl)) o0)))))))) (fun a w hst=>?_)
  have hst:St B w0 25 [(0,_),(4,_),(3,_)] [] a w:=hst
  refine zaj ?_
  refine za0 ?_
  refine gl (sts:=[]) (news:=[]) (sp:=[.val 15 _,.val 16 _,.val 4 _]) [.g 0,.g 2,.o 2] hst (zv rfl (za1 (gq 1 rfl)) (zv rfl (zba (vq 0 rfl) za3 (wi_nx hj hl)) (zv rfl (za2 (vq 1 rfl)) o0))) (fun a w hst=>?_)
  have hst:St B w0 25 [(0,_),(3,_),(4,_)] [] a w:=hst
  refine za0 ?_
  have hst:=St.sel hst [0,1,2]
  exact ⟨n-1,by omega,j+1,_,⟨by omega,hm.trans (els_go hj hm0)⟩,hst⟩
 ·have hnj:¬ (j<xs.length∧m≤1048576):=by rintro ⟨h1,h2⟩; rw [List.length_map,decide_eq_true (by omega:(j:Int)<(xs.length:Int)),decide_eq_true h2] at hb0; exact absurd hb0 zd
  refine wp_exit ?_
  refine zah ?_
  refine zah ?_
  refine zaz ?_
  refine zt<|gl (sts:=[]) (news:=[]) (sp:=[.val 24 _,.val 2 _]) [.o 1] hst (zv rfl (za1 (gq 1 rfl)) (zv rfl (za2 (vq 0 rfl)) o0)) (fun a w hst=>?_)
  have hst:St B w0 25 [(2,_)] [] a w:=hst
  refine za0 ?_
  refine wp_ret ?_
  refine zak ?_ (zaf rfl hst (zm 0 rfl))
  exact zc9 (congrArg In (hm.trans (els_end hnj)).symm)
end Go.Proofs.Ytljkepdpoelpkaa
