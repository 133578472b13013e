import Derived.Test.YthdbhckhignfcaaGreatDoorBxAa
import Derived.Test.YthdbhckhignfcaaGreatDoorBxAc
import Derived.Test.YthdbhckhignfcaaGreatDoorBxAl
import Derived.Test.YthdbhckhignfcaaGreatDoorBxAy
import Derived.Test.YthdbhckhignfcaaGreatDoorBxBa
import Derived.Laws.AppendOwn
import Derived.Laws.OwnMore
import Derived.Orders
import Derived.ProofKit
import Derived.OpenShut
import Derived.ChangeOld
import Derived.Below
import Derived.Deep.Slices
import Derived.ArgAppend
import Derived.Great.BuildSlice
set_option linter.unusedVariables false
set_option linter.unusedSimpArgs false
set_option linter.unusedSectionVars false
set_option maxRecDepth 100000
namespace Go.Proofs.YthdbhckhignfcaaGreatDoor
open Go Go.RowKit
def elK (k ps qs:Int):Bool:=if k==1 then decide (ps≥0)&&(qs==0) else if k==2 then (qs==0) else if k==3 then decide (ps≥0)&&decide (qs>0) else if k==4 then true else ((k==5)&&(ps==0))&&(qs==0)
def elF (x:RE):Bool:=[x.p,x.q].all okX&&elK x.k (toQ x.p).num.sign (toQ x.q).num.sign
def elQ (k:Int)(p q:Rat):MQ:=if k=1 then ⟨1,p,0,1⟩ else if k=2 then ⟨1,0,0-p,1⟩ else if k=3 then ⟨1,p/q,0,1⟩ else if k=4 then ⟨1,0,0-p*q,1⟩ else ⟨0-1,0-0,0-0,0-1⟩
def elM (x:RE):MQ:=elQ x.k (toQ x.p) (toQ x.q)
def prodQ (xs:List RE):MQ:=xs.foldl (fun m x=>mulQ (elM x) m) ⟨1,0,0,1⟩
def chF (xs:List RE):Int:=if xs.length>4096 then 4 else if xs.all elF then 0 else 1
theorem elF_no {x:RE}(h:(![x.p,x.q].all okX)=true):elF x=false:=by rw [Bool.not_eq_true'] at h; rw [elF,h]; rfl
theorem elF_ok {x:RE}(h:(![x.p,x.q].all okX)=false):[x.p,x.q].all okX=true∧elF x=elK x.k (toQ x.p).num.sign (toQ x.q).num.sign:=by rw [Bool.not_eq_false'] at h; exact ⟨h,by rw [elF,h]; rfl⟩
theorem el_q {x:RE}(h:[x.p,x.q].all okX=true):WkA (REA x) (QEA 2048 x.k (toQ x.p) (toQ x.q)):=by
 simp only [List.all_cons,List.all_nil,Bool.and_true,Bool.and_eq_true] at h
 exact zc1 (.cons (WkA.refl _) (.cons (qa_x h.1 (Nat.le_refl _)) (.cons (qa_x h.2 (Nat.le_refl _)) .nil)))
theorem zo6 (x:RE):UpA (REA x) (REA x):=zi3 (.cons (zqx _ _) (.cons (zgr _) (.cons (zgr _) .nil)))
theorem kd1 {k ps qs:Int}(h:(k==1)=true):elK k ps qs=(decide (ps≥0)&&(qs==0)):=by rw [elK,h]; rfl
theorem kd2 {k ps qs:Int}(h1:(k==1)=false)(h:(k==2)=true):elK k ps qs=(qs==0):=by rw [elK,h1,h]; rfl
theorem kd3 {k ps qs:Int}(h1:(k==1)=false)(h2:(k==2)=false)(h:(k==3)=true):elK k ps qs=(decide (ps≥0)&&decide (qs>0)):=by rw [elK,h1,h2,h]; rfl
theorem kd4 {k ps qs:Int}(h1:(k==1)=false)(h2:(k==2)=false)(h3:(k==3)=false)(h:(k==4)=true):elK k ps qs=true:=by rw [elK,h1,h2,h3,h]; rfl
theorem kd5 {k ps qs:Int}(h1:(k==1)=false)(h2:(k==2)=false)(h3:(k==3)=false)(h4:(k==4)=false):elK k ps qs=(((k==5)&&(ps==0))&&(qs==0)):=by rw [elK,h1,h2,h3,h4]; rfl
theorem elMay_c (x:RE):Cn Tryz.prog 90 [(REA x).va] (Bo (elF x)):=by
 refine Cn.intro Tryz.func90 rfl zk nq (fun B w0 a O=>?_)
 have O:=zn [(0,(REA x).va)] [] O
 refine wp_seq<|zg [] [⟨1,69,ptrH,some 0,_,none⟩] [.alc 0,.v 2 _] [.o 1] O (oc (zam rfl rfl rfl (gq 0 rfl)) (zv rfl (za2 zav) o0)) (zz [(2,_)] [⟨1,69,ptrH,_⟩] fun a w O=>?_)
 refine zt<|wp_seq<|zg [none] [] [.adr 5 1 (.some 1) True,.v 6 _,.adr 7 1 (.some 5) True,.v 8 _,.v 9 _,.v 10 _,.v 11 _] [.g 0,.o 6] O (oc (ob_a rfl rfl (za9 (lz0 0 rfl) zc8)) (zv rfl (za4 0 rfl zk trivial (lz0 0 rfl) (Sub.part 1 rfl rfl) zar) (oc (ob_a rfl rfl (za9 (lz0 0 rfl) zcf)) (zv rfl (za4 2 rfl zk trivial (lz0 0 rfl) (Sub.part 2 rfl rfl) zar) (zv rfl (zcr (D:=[U32]) (l:=[_,_]) (xs:=[.tmp 6,.tmp 8]) (zeq zk) zk1 zk (n_ok zk) nq nq nq (.cons (vq 1 rfl) (.cons (vq 3 rfl) .nil)) rfl rfl) (zv rfl (za5 (xs:=[.tmp 9]) (zt5 [x.p,x.q] nq) (.cons (vq 4 rfl) .nil)) (zv rfl (zeh (vq 5 rfl)) o0))))))) (zz [(2,_),(11,_)] [⟨1,69,ptrH,_⟩] fun a w O=>?_)
 refine za0<|za8 O (zm 1 rfl) (fun hb0=>?_) (fun hb0=>?_)
 ·refine wp_seq<|zg [none] [] [.v 2 _] [.o 0] O (zv rfl (za2 zav) o0) (zz [(2,_)] [⟨1,69,ptrH,_⟩] fun a w O=>?_)
  refine za0<|wp_ret<|zag ?_
  refine zai ?_ (zaf rfl O (zm 0 rfl))
  rw [elF_no hb0]; exact zbn
 ·obtain ⟨hx,he⟩:=elF_ok hb0
  have O:=St.wkL O 0 rfl (el_q hx)
  refine wp_skip<|zt<|zgd [[],[0],[0,1],[],[3],[0,1,2,3,4],[0,1,2,3,4,5],[0,1,2,3,4,5,6]] [none] [] [.adr 12 1 (.some 1) True,.v 13 _,.v 14 _,.adr 15 1 (.some 5) True,.v 16 _,.v 17 _,.v 3 _,.v 4 _] [.g 0,.o 6,.o 7] za6 O (oc (ob_a rfl rfl (za9 (lz0 0 rfl) zc8)) (zv rfl (za4 0 rfl zk trivial (lz0 0 rfl) (Sub.part 1 rfl rfl) zar) (zv rfl (za5 (xs:=[.tmp 13]) sign_q (.cons (vq 1 rfl) .nil)) (oc (ob_a rfl rfl (za9 (lz0 0 rfl) zcf)) (zv rfl (za4 3 rfl zk trivial (lz0 0 rfl) (Sub.part 2 rfl rfl) zar) (zv rfl (za5 (xs:=[.tmp 16]) sign_q (.cons (vq 4 rfl) .nil)) (zv rfl (za2 (vq 2 rfl)) (zv rfl (za2 (vq 5 rfl)) o0)))))))) zk zk zk zk (zz [(2,_),(3,_),(4,_)] [⟨1,69,ptrH,_⟩] fun a w O=>?_)
  refine zt<|wp_seq<|zg [none] [] [.adr 18 1 (.some 0) True,.v 19 _] [.g 0,.g 1,.g 2,.o 1] O (oc (ob_a rfl rfl (za9 (lz0 0 rfl) zcy)) (zv rfl (za4 0 rfl zk trivial (lz0 0 rfl) (Sub.part 0 rfl rfl) zha) o0)) (zz [(2,_),(3,_),(4,_),(19,_)] [⟨1,69,ptrH,_⟩] fun a w O=>?_)
  refine za0<|wp_block<|wp_seq<|zg [none] [] [.v 21 _,.v 20 _] [.g 0,.g 1,.g 2,.g 3,.o 1] O (zv rfl (zca (gq 3 rfl) za3) (zv rfl (za2 (vq 0 rfl)) o0)) (zz [(2,_),(3,_),(4,_),(19,_),(20,_)] [⟨1,69,ptrH,_⟩] fun a w O=>?_)
  refine za0<|za8 O (zm 4 rfl) (fun hb1=>?_) (fun hb1=>?_)
  ·refine wp_seq<|zg [none] [] [.v 22 _,.v 23 _,.v 24 _,.v 25 (Wh (_=true) _),.v 26 (Wh (_=true) _),.v 27 _,.v 2 _] [.g 1,.g 2,.o 6] O (zv rfl (za1 (gq 1 rfl)) (zv rfl (zfu (vq 0 rfl) za3) (zv rfl (za1 (vq 1 rfl)) (oc (zan rfl rfl rfl (vq 2 rfl) nq (fun hg=>za1 (gq 2 rfl))) (oc (zan rfl rfl rfl (vq 2 rfl) nq (fun hg=>zca (zab (vq 3 rfl) hg) za3)) (zv rfl (zcc (vq 2 rfl) (vq 4 rfl)) (zv rfl (za2 (vq 5 rfl)) o0))))))) (zz [(3,_),(4,_),(2,_)] [⟨1,69,ptrH,_⟩] fun a w O=>?_)
   refine za0<|wp_ret<|zba ?_
   refine zag ?_
   refine zai ?_ (zaf rfl O (zm 2 rfl))
   rw [he,kd1 hb1]; exact zbn
  ·refine wp_seq<|zg [none] [] [.v 29 _,.v 28 _] [.g 0,.g 1,.g 2,.g 3,.o 1] O (zv rfl (zca (gq 3 rfl) za3) (zv rfl (za2 (vq 0 rfl)) o0)) (zz [(2,_),(3,_),(4,_),(19,_),(28,_)] [⟨1,69,ptrH,_⟩] fun a w O=>?_)
   refine za0<|za8 O (zm 4 rfl) (fun hb2=>?_) (fun hb2=>?_)
   ·refine wp_seq<|zg [none] [] [.v 30 _,.v 31 _,.v 2 _] [.g 1,.g 2,.o 2] O (zv rfl (za1 (gq 2 rfl)) (zv rfl (zca (vq 0 rfl) za3) (zv rfl (za2 (vq 1 rfl)) o0))) (zz [(3,_),(4,_),(2,_)] [⟨1,69,ptrH,_⟩] fun a w O=>?_)
    refine za0<|wp_ret<|zba ?_
    refine zag ?_
    refine zai ?_ (zaf rfl O (zm 2 rfl))
    rw [he,kd2 hb1 hb2]; exact zbn
   ·refine wp_seq<|zg [none] [] [.v 33 _,.v 32 _] [.g 0,.g 1,.g 2,.g 3,.o 1] O (zv rfl (zca (gq 3 rfl) za3) (zv rfl (za2 (vq 0 rfl)) o0)) (zz [(2,_),(3,_),(4,_),(19,_),(32,_)] [⟨1,69,ptrH,_⟩] fun a w O=>?_)
    refine za0<|za8 O (zm 4 rfl) (fun hb3=>?_) (fun hb3=>?_)
    ·refine wp_seq<|zg [none] [] [.v 34 _,.v 35 _,.v 36 _,.v 37 (Wh (_=true) _),.v 38 (Wh (_=true) _),.v 39 _,.v 2 _] [.g 1,.g 2,.o 6] O (zv rfl (za1 (gq 1 rfl)) (zv rfl (zfu (vq 0 rfl) za3) (zv rfl (za1 (vq 1 rfl)) (oc (zan rfl rfl rfl (vq 2 rfl) nq (fun hg=>za1 (gq 2 rfl))) (oc (zan rfl rfl rfl (vq 2 rfl) nq (fun hg=>zev (zab (vq 3 rfl) hg) za3)) (zv rfl (zcc (vq 2 rfl) (vq 4 rfl)) (zv rfl (za2 (vq 5 rfl)) o0))))))) (zz [(3,_),(4,_),(2,_)] [⟨1,69,ptrH,_⟩] fun a w O=>?_)
     refine za0<|wp_ret<|zba ?_
     refine zag ?_
     refine zai ?_ (zaf rfl O (zm 2 rfl))
     rw [he,kd3 hb1 hb2 hb3]; exact zbn
    ·refine wp_seq<|zg [none] [] [.v 41 _,.v 40 _] [.g 0,.g 1,.g 2,.o 1] O (zv rfl (zca (gq 3 rfl) za3) (zv rfl (za2 (vq 0 rfl)) o0)) (zz [(2,_),(3,_),(4,_),(40,_)] [⟨1,69,ptrH,_⟩] fun a w O=>?_)
     refine za0<|za8 O (zm 3 rfl) (fun hb4=>?_) (fun hb4=>?_)
     ·refine wp_seq<|zg [none] [] [.v 2 _] [.g 1,.g 2,.o 0] O (zv rfl (za2 zav) o0) (zz [(3,_),(4,_),(2,_)] [⟨1,69,ptrH,_⟩] fun a w O=>?_)
      refine za0<|wp_ret<|zba ?_
      refine zag ?_
      refine zai ?_ (zaf rfl O (zm 2 rfl))
      rw [he,kd4 hb1 hb2 hb3 hb4]; exact zbn
     ·refine wp_skip<|zae ?_
      refine zt<|zg [none] [] [.adr 42 1 (.some 0) True,.v 43 _,.v 44 _,.v 45 _,.v 46 (Wh (_=true) _),.v 47 (Wh (_=true) _),.v 48 _,.v 49 _,.v 50 (Wh (_=true) _),.v 51 (Wh (_=true) _),.v 52 _,.v 2 _] [.o 11] O (oc (ob_a rfl rfl (za9 (lz0 0 rfl) zcy)) (zv rfl (za4 0 rfl zk trivial (lz0 0 rfl) (Sub.part 0 rfl rfl) zha) (zv rfl (zca (vq 1 rfl) za3) (zv rfl (za1 (vq 2 rfl)) (oc (zan rfl rfl rfl (vq 3 rfl) nq (fun hg=>za1 (gq 1 rfl))) (oc (zan rfl rfl rfl (vq 3 rfl) nq (fun hg=>zca (zab (vq 4 rfl) hg) za3)) (zv rfl (zcc (vq 3 rfl) (vq 5 rfl)) (zv rfl (za1 (vq 6 rfl)) (oc (zan rfl rfl rfl (vq 7 rfl) nq (fun hg=>za1 (gq 2 rfl))) (oc (zan rfl rfl rfl (vq 7 rfl) nq (fun hg=>zca (zab (vq 8 rfl) hg) za3)) (zv rfl (zcc (vq 7 rfl) (vq 9 rfl)) (zv rfl (za2 (vq 10 rfl)) o0)))))))))))) (zz [(2,_)] [⟨1,69,ptrH,_⟩] fun a w O=>?_)
      refine za0<|wp_ret<|zai ?_ (zaf rfl O (zm 0 rfl))
      rw [he,kd5 hb1 hb2 hb3 hb4]; exact zbn
theorem all_so {α:Type}{p:α→Bool}{l:List α}{j:Nat}(h:j<l.length)(h2:p l[j]=false):l.all p=false:=List.all_eq_false.2 ⟨_,List.getElem_mem h,by simp [h2]⟩
theorem all_nx {α:Type}{p:α→Bool}{l:List α}{j:Nat}(h:j<l.length)(h1:(l.take j).all p=true)(h2:p l[j]=true):(l.take (j+1)).all p=true:=by
 rw [List.take_succ_eq_append_getElem h,List.all_append,h1]
 simp [h2]
theorem slx {E:TypeId}{D:List TypeId}{l:List As}:Wk (SlO E D l True).va (SlA E D l).va:=zc6 wk_old fun _ _ _ h=>(zed h).2
theorem zuo (xs:List RE):Cn Tryz.prog 22 [(SlA 69 [U32] (xs.map REA)).va] (In (chF xs)):=by
 refine Cn.introW Tryz.func22 rfl zk nq (.cons (zpl (fun A hA=>by obtain ⟨x,_,rfl⟩:=List.mem_map.1 hA; exact zo6 x)).va .nil) (zgh _ _).va (fun B w0 a hB0 O=>?_)
 have O:=zn [(0,(SlO 69 [U32] (xs.map REA) True).va)] [] O
 have hl:=slO_len (O.vals (0,(SlO 69 [U32] (xs.map REA) True).va) (zm 0 rfl))
 rw [List.length_map] at hl
 refine wp_seq<|zh [.v 2 _] [.g 0,.o 0] O (zv rfl (za2 za3) o0) (zz [(0,_),(2,_)] [] fun a w O=>?_)
 refine zt<|wp_seq<|zh [.v 5 _,.v 6 _,.v 7 _] [.g 0,.g 1,.o 2] O (zv rfl (za1 (gq 0 rfl)) (zv rfl (zbk Tryz.underlying22 (zd7 (zaz (vq 0 rfl)))) (zv rfl (zev (vq 1 rfl) za3) o0))) (zz [(0,_),(2,_),(7,_)] [] fun a w O=>?_)
 refine za0<|za8 O (zm 2 rfl) (fun hb0=>?_) (fun hb0=>?_)
 ·have hbig:xs.length>4096:=by rw [List.length_map] at hb0; have:=of_decide_eq_true hb0; omega
  refine wp_seq<|zh [.v 2 _] [.g 0,.o 0] O (zv rfl (za2 za3) o0) (zz [(0,_),(2,_)] [] fun a w O=>?_)
  refine za0<|wp_ret<|zag ?_
  refine zai ?_ (zaf rfl O (zm 1 rfl))
  rw [chF,if_pos hbig]; exact zbn
 ·have hbig:¬ xs.length>4096:=by rw [List.length_map] at hb0; have:=of_decide_eq_false hb0; omega
  refine wp_skip<|zt<|wp_seq<|zh [.v 8 _,.v 9 _,.v 10 _] [.g 1,.o 0,.o 1,.o 2] O (zv rfl (za1 (gq 0 rfl)) (zv rfl (zbk Tryz.underlying22 (zd7 (zaz (vq 0 rfl)))) (zv rfl (za1 za3) o0))) (zz [(2,_),(8,_),(9,_),(10,_)] [] fun a w O=>?_)
  refine za0<|wp_block ?_
  have O:=St.sel O [1,2,3]
  refine wp_loop_ghost (fun n a w=>∃ j:Nat,(n+j=xs.length∧(xs.take j).all elF=true)∧St B w0 18 [(8,(SlO 69 [U32] (xs.map REA) True).va),(9,In (xs.length:Nat)),(10,In (j:Nat))] [] a w) (xs.length) ?_ ?_
  ·exact ⟨0,⟨by omega,rfl⟩,by rw [List.length_map] at O; exact O⟩
  intro n a w hI
  obtain ⟨j,⟨hn,hno⟩,O⟩:=hI
  refine wp_seq<|zh [.v 11 _] [.g 0,.g 1,.g 2,.o 0] O (zv rfl (zb1 (gq 2 rfl) (gq 1 rfl)) o0) (zz [(8,_),(9,_),(10,_),(11,_)] [] fun a w O=>?_)
  refine zt<|za8 O (zm 3 rfl) (fun hb1=>?_) (fun hb1=>?_)
  ·have hj:j<xs.length:=by simp at hb1; omega
   refine wp_skip<|zt<|wp_block<|wp_seq<|zg [] [⟨4,69,ptrH,some 2,_,some (3,_)⟩] [.v 12 _,.v 13 _,.alc 0,.sto 0] [.g 0,.g 1,.g 2] O (zv rfl (zd0 zhc (zgp fun _=>rfl) (zd7 (zaz (gq 0 rfl))) (gq 2 rfl) (ze1 hj)) (zv rfl (zad (vq 0 rfl) zeg) (oc (zas rfl rfl rfl (Str.zero zgb)) (oc (zak rfl rfl rfl (vq 1 rfl) zeg (Eq.trans (b:=9) rfl rfl)) o0)))) (zz [(8,_),(9,_),(10,_)] [⟨4,69,ptrH,_⟩] fun a w O=>?_)
   refine zt<|zg [none] [] [.v 14 _,.v 15 _,.v 16 _] [.g 0,.g 1,.g 2,.o 2] O (zv rfl (zaq (lz0 0 rfl) zeg) (zv rfl (za5 (xs:=[.tmp 14]) (elMay_c _) (.cons (vq 0 rfl) .nil)) (zv rfl (zeh (vq 1 rfl)) o0))) (zz [(8,_),(9,_),(10,_),(16,_)] [⟨4,69,ptrH,_⟩] fun a w O=>?_)
   refine za0<|za8 O (zm 3 rfl) (fun hb2=>?_) (fun hb2=>?_)
   ·refine wp_seq<|zg [none] [] [.v 2 _] [.g 0,.g 1,.g 2,.o 0] O (zv rfl (za2 za3) o0) (zz [(8,_),(9,_),(10,_),(2,_)] [⟨4,69,ptrH,_⟩] fun a w O=>?_)
    refine za0<|wp_ret<|zba ?_
    refine zag ?_
    refine zag ?_
    refine zba ?_
    refine zag ?_
    refine zai ?_ (zaf rfl O (zm 3 rfl))
    rw [chF,if_neg hbig,all_so hj (by simpa using hb2)]; exact zbn
   ·refine wp_skip<|zae ?_
    refine za0<|zg [none] [] [.v 17 _,.v 10 _] [.g 0,.g 1,.o 1] O (zv rfl (zb5 (gq 2 rfl) za3 ((wi64 zo zo).trans (by omega:(_:Int)=((j+1:Nat):Int)))) (zv rfl (za1 (vq 0 rfl)) o0)) (zz [(8,_),(9,_),(10,_)] [⟨4,69,ptrH,_⟩] fun a w O=>?_)
    refine za0 ?_
    have O:=St.sel O [0,1,2]
    have O:=St.selL O []
    exact ⟨n-1,by omega,j+1,⟨by omega,all_nx hj hno (by simpa using hb2)⟩,O⟩
  ·obtain rfl:j=xs.length:=by simp at hb1; omega
   refine wp_exit<|za7<|za7<|zap<|zt<|zh [.v 2 _] [.o 0] O (zv rfl (za2 za3) o0) (zz [(2,_)] [] fun a w O=>?_)
   refine za0<|wp_ret<|zai ?_ (zaf rfl O (zm 0 rfl))
   rw [List.take_length] at hno; rw [chF,if_neg hbig,hno]; exact zbn
def RepM (b:Nat)(m:MQ):Prop:=∃ n1 n2 n3 n4 D:Int,D≠0∧m.a=(n1:Rat)/(D:Rat)∧m.b=(n2:Rat)/(D:Rat)∧m.c=(n3:Rat)/(D:Rat)∧m.d=(n4:Rat)/(D:Rat)∧lz n1≤b∧lz n2≤b∧lz n3≤b∧lz n4≤b∧lz D≤b
theorem rep_bQ {b:Nat}{m:MQ}(h:RepM b m):bQ b m.a∧bQ b m.b∧bQ b m.c∧bQ b m.d:=by
 obtain ⟨n1,n2,n3,n4,D,hD,e1,e2,e3,e4,h1,h2,h3,h4,h5⟩:=h
 rw [e1,e2,e3,e4,← Rat.divInt_eq_div,← Rat.divInt_eq_div,← Rat.divInt_eq_div,← Rat.divInt_eq_div]
 obtain ⟨a1,a2⟩:=zh1 (p:=n1) hD
 obtain ⟨b1,b2⟩:=zh1 (p:=n2) hD
 obtain ⟨c1,c2⟩:=zh1 (p:=n3) hD
 obtain ⟨d1,d2⟩:=zh1 (p:=n4) hD
 exact ⟨⟨by omega,by omega⟩,⟨by omega,by omega⟩,⟨by omega,by omega⟩,⟨by omega,by omega⟩⟩
theorem zmz {a b c d D E:Rat}(hD:D≠0)(hE:E≠0):a/D*(c/E)+b/D*(d/E)=(a*c+b*d)/(D*E):=by grind
theorem zry {c d:Nat}{a b x y:Int}(ha:lz a≤c)(hb:lz b≤c)(hx:lz x≤d)(hy:lz y≤d):lz (a*x+b*y)≤c+d+1:=by
 have h1:=zlx (a*x) (b*y)
 have h2:=zew a x
 have h3:=zew b y
 omega
theorem rep_mul {c d:Nat}{m q:MQ}(hm:RepM c m)(hq:RepM d q):RepM (c+d+1) (mulQ m q):=by
 obtain ⟨n1,n2,n3,n4,D,hD,e1,e2,e3,e4,h1,h2,h3,h4,h5⟩:=hm
 obtain ⟨k1,k2,k3,k4,E,hE,f1,f2,f3,f4,g1,g2,g3,g4,g5⟩:=hq
 have hDr:(D:Rat)≠0:=fun e=>hD (by exact_mod_cast e)
 have hEr:(E:Rat)≠0:=fun e=>hE (by exact_mod_cast e)
 refine ⟨n1*k1+n2*k3,n1*k2+n2*k4,n3*k1+n4*k3,n3*k2+n4*k4,D*E,Int.mul_ne_zero hD hE,?_,?_,?_,?_,zry h1 h2 g1 g3,zry h1 h2 g2 g4,zry h3 h4 g1 g3,zry h3 h4 g2 g4,?_⟩
 ·simp only [mulQ,e1,e2,f1,f3,Rat.intCast_add,Rat.intCast_mul]
  exact zmz hDr hEr
 ·simp only [mulQ,e1,e2,f2,f4,Rat.intCast_add,Rat.intCast_mul]
  exact zmz hDr hEr
 ·simp only [mulQ,e3,e4,f1,f3,Rat.intCast_add,Rat.intCast_mul]
  exact zmz hDr hEr
 ·simp only [mulQ,e3,e4,f2,f4,Rat.intCast_add,Rat.intCast_mul]
  exact zmz hDr hEr
 ·have:=zew D E
  omega
theorem zrh {b:Nat}{m:MQ}(n1 n2 n3 n4 D:Int)(hD:D≠0)(e1:m.a*(D:Rat)=(n1:Rat))(e2:m.b*(D:Rat)=(n2:Rat))(e3:m.c*(D:Rat)=(n3:Rat))(e4:m.d*(D:Rat)=(n4:Rat))(h1:lz n1≤b)(h2:lz n2≤b)(h3:lz n3≤b)(h4:lz n4≤b)(h5:lz D≤b):RepM b m:=by
 have hDr:(D:Rat)≠0:=fun e=>hD (by exact_mod_cast e)
 have key:∀ {x:Rat} {n:Int},x*(D:Rat)=(n:Rat)→x=(n:Rat)/(D:Rat):=fun h=>by rw [← h]; exact (Rat.mul_div_cancel hDr).symm
 exact ⟨n1,n2,n3,n4,D,hD,key e1,key e2,key e3,key e4,h1,h2,h3,h4,h5⟩
theorem zz6 (x:Rat):x*((x.den:Int):Rat)=(x.num:Rat):=by
 have:=nd_eq x
 have hd:=den_ne x
 generalize ((x.den:Int):Rat)=d at *
 generalize (x.num:Rat)=n at *
 grind
theorem lz_0:lz 0=0:=by kernel_rfl
theorem zn2:lz 1≤1:=Nat.le_of_ble_eq_true zk
theorem rep_b {k:Nat}{x:Rat}(h:bQ k x):RepM k ⟨1,x,0,1⟩:=zrh (x.den:Int) x.num 0 (x.den:Int) (x.den:Int) (by have:=x.den_pos; omega) (Rat.one_mul _) (zz6 x) (Rat.zero_mul _) (Rat.one_mul _) h.2 h.1 (by rw [lz_0]; omega) h.2 h.2
theorem rep_c {k:Nat}{x:Rat}(h:bQ k x):RepM k ⟨1,0,x,1⟩:=zrh (x.den:Int) 0 x.num (x.den:Int) (x.den:Int) (by have:=x.den_pos; omega) (Rat.one_mul _) (Rat.zero_mul _) (zz6 x) (Rat.one_mul _) h.2 (by rw [lz_0]; omega) h.1 h.2 h.2
theorem rep_1:RepM 1 ⟨1,0,0,1⟩:=zrh 1 0 0 1 1 zd (by grind) (by grind) (by grind) (by grind) zn2 (by rw [lz_0]; omega) (by rw [lz_0]; omega) zn2 zn2
theorem rep_f:RepM 1 ⟨0-1,0-0,0-0,0-1⟩:=zrh (-1) 0 0 (-1) 1 zd (by grind) (by grind) (by grind) (by grind) nq (by rw [lz_0]; omega) (by rw [lz_0]; omega) nq zn2
theorem zjg {b c:Nat}{m:MQ}(h:RepM b m)(hc:b≤c):RepM c m:=by
 obtain ⟨n1,n2,n3,n4,D,hD,e1,e2,e3,e4,h1,h2,h3,h4,h5⟩:=h
 exact ⟨n1,n2,n3,n4,D,hD,e1,e2,e3,e4,by omega,by omega,by omega,by omega,by omega⟩
theorem bQ_min {k:Nat}{x:Rat}(h:bQ k x):bQ k (0-x):=by
 have e:0-x = -x:=by grind
 rw [e]
 exact ⟨by rw [Rat.neg_num,zhm]; exact h.1,by rw [Rat.neg_den]; exact h.2⟩
theorem bQ_div {c d:Nat}{x y:Rat}(hx:bQ c x)(hy:bQ d y)(h0:y≠0):bQ (c+d) (x/y):=by
 rw [← zpu]
 obtain ⟨h1,h2⟩:=zh1 (p:=x.num*(y.den:Int)) (zwx x h0)
 have h3:=zew x.num (y.den:Int)
 have h4:=zew (x.den:Int) y.num
 obtain ⟨x1,x2⟩:=hx
 obtain ⟨y1,y2⟩:=hy
 exact ⟨by omega,by omega⟩
theorem zrp {x:RF}(h:okX x=true):bQ 2048 (toQ x):=(okX_q h).2
theorem znt {x:RE}(h:elF x=true):[x.p,x.q].all okX=true∧(x.k=1∨x.k=2∨(x.k=3∧toQ x.q≠0)∨x.k=4∨x.k=5):=by
 unfold elF at h
 rw [Bool.and_eq_true] at h
 refine ⟨h.1,?_⟩
 have h2:=h.2
 by_cases h1:x.k=1
 ·exact .inl h1
 ·by_cases h3:x.k=2
  ·exact .inr (.inl h3)
  ·by_cases h4:x.k=3
   ·rw [kd3 (by simpa using h1) (by simpa using h3) (by simpa using h4),Bool.and_eq_true] at h2
    refine .inr (.inr (.inl ⟨h4,fun e=>?_⟩))
    rw [e] at h2
    have:=of_decide_eq_true h2.2
    exact absurd this zd
   ·by_cases h5:x.k=4
    ·exact .inr (.inr (.inr (.inl h5)))
    ·rw [kd5 (by simpa using h1) (by simpa using h3) (by simpa using h4) (by simpa using h5)] at h2
     simp only [Bool.and_eq_true,beq_iff_eq] at h2
     exact .inr (.inr (.inr (.inr h2.1.1)))
theorem el_rep {x:RE}(h:elF x=true):RepM 4096 (elM x):=by
 obtain ⟨hx,hk⟩:=znt h
 simp only [List.all_cons,List.all_nil,Bool.and_true,Bool.and_eq_true] at hx
 have bp:=zrp hx.1
 have bq:=zrp hx.2
 unfold elM
 rcases hk with hk | hk | ⟨hk,h0⟩ | hk | hk <;> rw [hk]
 ·exact zjg (rep_b bp) zd
 ·exact zjg (rep_c (bQ_min bp)) zd
 ·exact rep_b (bQ_div bp bq h0)
 ·exact rep_c (bQ_min (zph bp bq))
 ·exact zjg rep_f zd
theorem zwj {xs:List RE}{j:Nat}(h:j<xs.length):prodQ (xs.take (j+1))=mulQ (elM xs[j]) (prodQ (xs.take j)):=by
 rw [List.take_succ_eq_append_getElem h]
 unfold prodQ
 rw [List.foldl_append]
 rfl
theorem zrn {xs:List RE}(h:xs.all elF=true):∀ j,j≤xs.length→RepM (1+4097*j) (prodQ (xs.take j))
 | 0,_=>rep_1
 | j+1,hj=>by
  rw [zwj zo]
  exact zjg (rep_mul (el_rep (List.all_eq_true.1 h _ (List.getElem_mem zo))) (zrn h j zo)) zo
theorem qa_bQ {k k':Nat}{x:Rat}(h:bQ k' x):WkA (QA k x) (QA k' x):=qaA.trans (qa_of h.1 h.2)
theorem re_k {x:RE}{k:Int}(h:x.k=k)(hx:[x.p,x.q].all okX=true):Wk (REA x).va (QEA 2048 k (toQ x.p) (toQ x.q)).va:=by subst h; exact (el_q hx).va
theorem rowOf_c {x:RE}(h:elF x=true):Cn Tryz.prog 25 [(REA x).va] (QMA 4099 (elM x)).va:=by
 obtain ⟨hx,hk⟩:=znt h
 unfold elM
 rcases hk with hk | hk | ⟨hk,h0⟩ | hk | hk <;> rw [hk]
 ·exact rowOfK1.wk (.cons (re_k hk hx) .nil)
 ·exact rowOfK2.wk (.cons (re_k hk hx) .nil)
 ·exact (rowOfK3 h0).wk (.cons (re_k hk hx) .nil)
 ·exact rowOfK4.wk (.cons (re_k hk hx) .nil)
 ·exact rowOfK5.wk (.cons (re_k hk hx) .nil)
theorem ch_ok {xs:List RE}(h:chF xs=0):xs.length≤4096∧xs.all elF=true:=by
 unfold chF at h
 by_cases h1:xs.length>4096
 ·rw [if_pos h1] at h; exact absurd h zd
 ·rw [if_neg h1] at h
  cases h2:xs.all elF with
  | true=>exact ⟨by omega,rfl⟩
  | false=>rw [h2] at h; exact absurd h zd
end Go.Proofs.YthdbhckhignfcaaGreatDoor
namespace Go.Proofs.YthdbhckhignfcaaGreatDoor
open Go Go.RowKit
end Go.Proofs.YthdbhckhignfcaaGreatDoor
namespace Go.Proofs.YthdbhckhignfcaaGreatDoor
open Go Go.RowKit
open Go.ChangeShapes Go.WideShapes Go.ChangeAt
theorem all2_apx {α β:Type}{R':α→β→Prop}{l1 l2:List α}{m1 m2:List β}(h:All2 R' l1 m1)(h':All2 R' l2 m2):All2 R' (l1++l2) (m1++m2):=by
 induction h with
 | nil=>exact h'
 | cons h1 _ ih=>exact .cons h1 ih
theorem cat_apx {l l':List As}{B:Nat}{ds ds':List Value}{w:World}(h:(cat l).p B ds w)(h':(cat l').p B ds' w):(cat (l++l')).p B (ds++ds') w:=by
 obtain ⟨ps,rfl,h1⟩:=h
 obtain ⟨ps',rfl,h2⟩:=h'
 exact ⟨ps++ps',by simp,all2_apx h1 h2⟩
theorem cat_onex {A:As}{B:Nat}{ds:List Value}{w:World}(h:A.p B ds w):(cat [A]).p B ds w:=⟨[ds],by simp,.cons h .nil⟩
section
variable {H:Type} {enc:TypeId × Value→H} {w:World} {base:Nat} {spare:Nat→Bool} {held:Bool} {fuel:Nat} {cs:List Value} {x:DataW H × List MemPlace}
end
end Go.Proofs.YthdbhckhignfcaaGreatDoor
namespace Go.Proofs.YthdbhckhignfcaaGreatDoor
open Go Go.RowKit
open Go.ChangeShapes Go.WideShapes Go.ChangeAt
theorem zzb {B:Nat}{cs:List Value}{w:World}{A0 A1 A2:As}(h0:A0.p B ((cs.drop 0).take A0.n) w)(h1:A1.p B ((cs.drop A0.n).take A1.n) w)(h2:A2.p B ((cs.drop (A0.n+A1.n)).take A2.n) w)(hl:cs.length=A0.n+(A1.n+A2.n)):(cat [A0,A1,A2]).p B cs w :=
 zzd (by simpa using hl) fun k A hk=>by
  match k,hk with
  | 0,hk=>simp at hk; subst hk; exact h0
  | 1,hk=>simp at hk; subst hk; simpa [offs] using h1
  | 2,hk=>simp at hk; subst hk; simpa [offs] using h2
section
variable {H:Type} {enc:TypeId × Value→H} {w:World} {base:Nat} {spare:Nat→Bool} {held:Bool} {fuel:Nat} {cs:List Value} {x:DataW H × List MemPlace}
end
end Go.Proofs.YthdbhckhignfcaaGreatDoor
namespace Go.Proofs.YthdbhckhignfcaaGreatDoor
open Go Go.RowKit
abbrev VL:=List (Value × Nat)
def FrK (n:Nat)(M:List Slt)(Es:VL):Prop:=M.map (fun s=>(s.v,s.xs.length))=Es∧∀ s∈M,s.u=s.v∧s.ys=s.xs∧s.z=.slice none 0 0∧s.n≤n
def FrL (n:Nat)(L:List Slot)(K:KL):Prop:=L.map (fun s=>(s.v,s.xs))=K∧∀ s∈L,s.u=s.v∧s.ys=s.xs∧s.z=.slice none 0 0∧s.n≤n
def KsP (K:KL)(Rs Es:VL)(X:BkRest)(L:List Slot):Prop:=X.n=K.length+Rs.length+Es.length∧X.N=[]∧FrL X.n L K∧FrK X.n X.R Rs∧FrK X.n X.M Es
def BkF (K:KL)(Rs Es:VL):As:=BqE (KsP K Rs Es)
theorem zhr {n m:Nat}{M:List Slt}{Es:VL}(h:FrK n M Es)(hn:n≤m):FrK m M Es:=⟨h.1,fun s hs=>⟨(h.2 s hs).1,(h.2 s hs).2.1,(h.2 s hs).2.2.1,Nat.le_trans (h.2 s hs).2.2.2 hn⟩⟩
theorem znj {n m:Nat}{M:List Slot}{Es:KL}(h:FrL n M Es)(hn:n≤m):FrL m M Es:=⟨h.1,fun s hs=>⟨(h.2 s hs).1,(h.2 s hs).2.1,(h.2 s hs).2.2.1,Nat.le_trans (h.2 s hs).2.2.2 hn⟩⟩
theorem zyf {n m a:Nat}{M:List Slt}{Es:VL}{v:Value}{ds:List Value}(h:FrK n M Es):FrK (n+1) (M++[newK m v a ds (n+1)]) (Es++[(v,a)]):=by
 refine ⟨?_,fun s hs=>?_⟩
 ·rw [List.map_append,h.1]
  show Es++[(v,(chunks m a ds).length)]=_
  rw [zlz]
 ·rcases List.mem_append.1 hs with hs | hs
  ·exact (zhr h (Nat.le_succ n)).2 s hs
  ·obtain rfl:=List.mem_singleton.1 hs
   exact ⟨rfl,rfl,rfl,Nat.le_refl _⟩
theorem frL_add {n:Nat}{L:List Slot}{K:KL}{v:Value}{xs:List Nat}(h:FrL n L K):FrL (n+1) (L++[newS v xs (n+1)]) (K++[(v,xs)]):=by
 refine ⟨by rw [List.map_append,h.1]; rfl,fun s hs=>?_⟩
 rcases List.mem_append.1 hs with hs | hs
 ·exact (znj h (Nat.le_succ n)).2 s hs
 ·obtain rfl:=List.mem_singleton.1 hs
  exact ⟨rfl,rfl,rfl,Nat.le_refl _⟩
theorem CK.exT {P : Program} {α : Type} {f : FuncId} {T : TypeId} {Ts : List TypeId} {A0 A1 : As} {A : α → As} {c : α → Prop} {pre : List VA} {post : VA} (hex : ∃ fn, P.funcs[f]? = some fn ∧ (fn.name == "runtime.NumGoroutine") = false ∧ fn.body.isNone = false) (h : ∀ x, c x → CK P f T Ts (A x) A1 pre post) (hp : ∀ B cs w, A0.p B cs w → ∃ x, c x ∧ (A x).p B cs w) : CK P f T Ts A0 A1 pre post :=
 ⟨hex,fun B w g cs args hB hg hp0 ha=>by
  obtain ⟨x,hc,hx⟩:=hp B cs w hp0
  exact (h x hc).2 B w g cs args hB hg hx ha⟩
theorem ziq {α β:Type}{f:α→β}{l:List α}{m:List β}(h:l.map f=m):l.length=m.length:=by rw [← h,List.length_map]
theorem sep_l {n:Nat}{L:List Slot}{K:KL}{v:Value}(h:FrL n L K)(hs:∀ p∈K,∀ g,p.1.ownBlock=some g→v.ownBlock≠some g):∀ t∈L,∀ g,t.has g→v.ownBlock≠some g:=fun t ht g hg=>by
 obtain ⟨e1,_,_,_⟩:=h.2 t ht
 have hv:t.v.ownBlock=some g:=by
  rcases hg with hg | hg
  ·exact hg
  ·rwa [e1] at hg
 exact hs (t.v,t.xs) (by rw [← h.1]; exact List.mem_map.2 ⟨t,ht,rfl⟩) g hv
theorem sep_k {n:Nat}{L:List Slt}{K:VL}{v:Value}(h:FrK n L K)(hs:∀ p∈K,∀ g,p.1.ownBlock=some g→v.ownBlock≠some g):∀ t∈L,∀ g,t.has g→v.ownBlock≠some g:=fun t ht g hg=>by
 obtain ⟨e1,_,_,_⟩:=h.2 t ht
 have hv:t.v.ownBlock=some g:=by
  rcases hg with hg | hg
  ·exact hg
  ·rwa [e1] at hg
 exact hs (t.v,t.xs.length) (by rw [← h.1]; exact List.mem_map.2 ⟨t,ht,rfl⟩) g hv
theorem keepLF_c (K:KL)(Rs Es:VL)(v:Value)(xs:List Nat)(hsep:∀ p∈K,∀ g,p.1.ownBlock=some g→v.ownBlock≠some g)(hl:K.length+Rs.length+Es.length≤1000000):CK Tryz.prog 178 59 [59,105] (BkF K Rs Es) (BkF (K++[(v,xs)]) Rs Es) [(PinA v (MgN xs)).va] (Tu []) :=
 CK.exT (c:=fun x:BkRest × Value × List Slot=>KsP K Rs Es x.1 x.2.2) (A:=fun x=>BqA x.1 x.2.1 x.2.2) (zxr ⟨0,undef,[],undef,[],undef,[]⟩ undef v xs [] (fun t ht=>by cases ht) zd zd).1
  (fun x hx=>(zxr x.1 x.2.1 v xs x.2.2 (sep_l hx.2.2.1 hsep) (by have:=ziq hx.2.2.1.1; omega) (by have:=hx.1; omega)).wk fun B cs w ⟨X,vr,L,hp,h⟩=>by
   obtain ⟨h1,h2,h3,h4,h5⟩:=hp
   obtain ⟨k1,k2,k3,k4,k5⟩:=hx
   refine ⟨X,vr,L,⟨by rw [h1,k1,List.length_append]; simp; omega,h2.trans k2,?_,?_,?_⟩,h⟩
   ·rw [h1,h5]; exact frL_add k3
   ·rw [h1,h3]; exact zhr k4 (Nat.le_succ _)
   ·rw [h1,h4]; exact zhr k5 (Nat.le_succ _)) fun B cs w ⟨X,vr,L,hp,h⟩=>⟨(X,vr,L),hp,h⟩
theorem keepEF_c (K:KL)(Rs Es:VL)(v:Value)(na:Nat)(hsep:∀ p∈Es,∀ g,p.1.ownBlock=some g→v.ownBlock≠some g)(hl:K.length+Rs.length+Es.length≤1000000):CK Tryz.prog 36 59 [59,100] (BkF K Rs Es) (BkF K Rs (Es++[(v,na)])) [OwV 69 9 v na] (Tu []) :=
 CK.exT (c:=fun x:BkRest × Value × List Slot=>KsP K Rs Es x.1 x.2.2) (A:=fun x=>BqA x.1 x.2.1 x.2.2) (zxt ⟨0,undef,[],undef,[],undef,[]⟩ undef v na [] (fun t ht=>by cases ht) zd zd).1
  (fun x hx=>(zxt x.1 x.2.1 v na x.2.2 (sep_k hx.2.2.2.2 hsep) (by have:=ziq hx.2.2.2.2.1; omega) (by have:=hx.1; omega)).wk fun B cs w ⟨X,vr,L,hp,h⟩=>by
   obtain ⟨h1,h2,h3,h4,es,_,h5⟩:=hp
   obtain ⟨k1,k2,k3,k4,k5⟩:=hx
   refine ⟨X,vr,L,⟨by rw [h1,k1,List.length_append]; simp; omega,h2.trans k2,?_,?_,?_⟩,h⟩
   ·rw [h1,h4]; exact znj k3 (Nat.le_succ _)
   ·rw [h1,h3]; exact zhr k4 (Nat.le_succ _)
   ·rw [h1,h5]; exact zyf k5) fun B cs w ⟨X,vr,L,hp,h⟩=>⟨(X,vr,L),hp,h⟩
theorem new_l {n:Nat}{L:List Slot}{K:KL}{B:Nat}{w:World}{vr:Value}{c:List Value}(h:FrL n L K)(hn:n≤1000000)(hp:(HbA vr L).p B c w)(hok:∀ p∈K,okL p.2∧p.2.length≤2000000000000):∀ s∈L,s.new:=fun s hs=>by
 obtain ⟨e1,e2,e3,e4⟩:=h.2 s hs
 have hm:(s.v,s.xs)∈K:=by rw [← h.1]; exact List.mem_map.2 ⟨s,hs,rfl⟩
 obtain ⟨o1,o2⟩:=hok _ hm
 exact { rv:=(hp.2.2.1 s hs).2.1,ox:=o1,oy:=by rw [e2]; exact o1,z1:=by rw [e3]; rfl,n1:=by omega,lx:=o2,uv:=e1,yx:=e2 }
theorem new_k {H E m n:Nat}{L:List Slt}{K:VL}{B:Nat}{w:World}{vr:Value}{c:List Value}(h:FrK n L K)(hn:n≤1000000)(hp:(HkA H E m vr L).p B c w)(hok:∀ p∈K,p.2≤2000000000):∀ s∈L,s.new:=fun s hs=>by
 obtain ⟨e1,e2,e3,e4⟩:=h.2 s hs
 have hm:(s.v,s.xs.length)∈K:=by rw [← h.1]; exact List.mem_map.2 ⟨s,hs,rfl⟩
 exact { rv:=(hp.2.2.1 s hs).2.1,z1:=by rw [e3]; rfl,n1:=by omega,lx:=hok _ hm,uv:=e1,yx:=e2 }
theorem apartF_c (K:KL)(Rs Es:VL)(hK:∀ p∈K,okL p.2∧p.2.length≤2000000000000)(hR:∀ p∈Rs,p.2≤2000000000)(hE:∀ p∈Es,p.2≤2000000000)(hl:K.length+Rs.length+Es.length≤1000000):CK Tryz.prog 17 59 [59,105,106,103,29,100,69] (BkF K Rs Es) JkA [] (Bo true) :=
 CK.exT (c:=fun x:BkRest × Value × List Slot=>KsP K Rs Es x.1 x.2.2∧(∀ s∈x.2.2,s.new)∧(∀ s∈x.1.R,s.new)∧(∀ s∈x.1.M,s.new)) (A:=fun x=>BqA x.1 x.2.1 x.2.2)
  (zzl ⟨0,undef,[],undef,[],undef,[]⟩ undef [] (fun s hs=>by cases hs) zd rfl (fun s hs=>by cases hs) zd (fun s hs=>by cases hs) zd).1
  (fun x hx=>zzl x.1 x.2.1 x.2.2 hx.2.1 (by have:=ziq hx.1.2.2.1.1; omega) hx.1.2.1 hx.2.2.1 (by have:=ziq hx.1.2.2.2.1.1; omega) hx.2.2.2 (by have:=ziq hx.1.2.2.2.2.1; omega))
  fun B cs w ⟨X,vr,L,hp,h⟩=>by
   obtain ⟨⟨c1,h1⟩,_,⟨c3,h3⟩,⟨c4,h4⟩⟩:=zcz h
   have hn:X.n≤1000000:=by have:=hp.1; omega
   exact ⟨(X,vr,L),⟨hp,new_l hp.2.2.1 hn h1 hK,new_k hp.2.2.2.1 hn h3 hR,new_k hp.2.2.2.2 hn h4 hE⟩,h⟩
theorem nd_sep {K:KL}{v:Value}{xs:List Nat}(h:(kbl (K++[(v,xs)])).Nodup):∀ p∈K,∀ g,p.1.ownBlock=some g→v.ownBlock≠some g:=fun p hp g hg hv=>by
 rw [kbl_app] at h
 have h2:=(List.nodup_append.1 h).2.2
 have m1:g∈kbl K:=List.mem_filterMap.2 ⟨p,hp,hg⟩
 have m2:g∈kbl [(v,xs)]:=List.mem_filterMap.2 ⟨(v,xs),by simp,hv⟩
 exact h2 g m1 g m2 rfl
theorem zoo {K l:KL}(h:(kbl (K++l)).Nodup):(kbl K).Nodup:=by
 rw [kbl_app] at h
 exact (List.nodup_append.1 h).1
def EleP (x:RE)(m:Nat→Value):As:=cat [NumA .u8 x.k,FracP x.p (m 0) (m 1),FracP x.q (m 2) (m 3)]
abbrev ke (x:RE)(m:Nat→Value):KL:=kf x.p (m 0) (m 1)++kf x.q (m 2) (m 3)
theorem zxo (K:KL)(Rs Es:VL)(v:Value)(na:Nat)(hsep:∀ p∈Rs,∀ g,p.1.ownBlock=some g→v.ownBlock≠some g)(hl:K.length+Rs.length+Es.length≤1000000):CK Tryz.prog 38 59 [59,103] (BkF K Rs Es) (BkF K (Rs++[(v,na)]) Es) [OwV 29 8 v na] (Tu []) :=
 CK.exT (c:=fun x:BkRest × Value × List Slot=>KsP K Rs Es x.1 x.2.2) (A:=fun x=>BqA x.1 x.2.1 x.2.2) (zxq ⟨0,undef,[],undef,[],undef,[]⟩ undef v na [] (fun t ht=>by cases ht) zd zd).1
  (fun x hx=>(zxq x.1 x.2.1 v na x.2.2 (sep_k hx.2.2.2.1 hsep) (by have:=ziq hx.2.2.2.1.1; omega) (by have:=hx.1; omega)).wk fun B cs w ⟨X,vr,L,hp,h⟩=>by
   obtain ⟨h1,h2,h3,h4,es,_,h5⟩:=hp
   obtain ⟨k1,k2,k3,k4,k5⟩:=hx
   refine ⟨X,vr,L,⟨by rw [h1,k1,List.length_append]; simp; omega,h2.trans k2,?_,?_,?_⟩,h⟩
   ·rw [h1,h4]; exact znj k3 (Nat.le_succ _)
   ·rw [h1,h5]; exact zyf k4
   ·rw [h1,h3]; exact zhr k5 (Nat.le_succ _)) fun B cs w ⟨X,vr,L,hp,h⟩=>⟨(X,vr,L),hp,h⟩
theorem zs8 (x:RI)(m:Value)(K:KL)(Rs Es:VL)(hs:(kbl (K++[(m,x.mag)])).Nodup)(hl:K.length+Rs.length+Es.length≤999999):CK Tryz.prog 118 59 [59,105] (BkF (K) Rs Es) (BkF (K++([(m,x.mag)])) Rs Es) [(IntP x m).va] (Tu []):=by
 refine CK.intro Tryz.func118 rfl zk nq zk (fun B g w0 a hrm O=>?_)
 have O:=zn [(0,EqV ((ptrH).f g)),(1,(IntP x m).va)] [⟨0,59,ptrH,BkF (K) Rs Es⟩] O
 refine wp_seq<|zg [none] [⟨3,25,ptrH,some 0,_,none⟩] [.alc 1] [.g 0] O (oc (zam rfl rfl rfl (gq 1 rfl)) o0) (zz [(0,_)] [⟨0,59,ptrH,_⟩,⟨3,25,ptrH,_⟩] fun a w O=>?_)
 refine za0<|zbs (sp:=[.v 4 _,.adr 5 3 (.some 1) True,.v 6 _,.v 7 VT]) 3 1 99 3 OneC [.g 0,.o 0,.o 2] O (zv rfl (za1 (gq 0 rfl)) (oc (ob_a rfl rfl (za9 (lz0 1 rfl) zah)) (zv rfl (za4 1 rfl zk trivial (lz0 1 rfl) (Sub.part 1 rfl rfl) zb9) o0))) rfl zd zk zk (zz [(0,_),(4,_),(6,_)] [⟨0,59,ptrH,_⟩,⟨3,25,ptrH,_⟩] fun a w O=>?_)
 rw [show List.range' 3 1=[3] from rfl]
 rw [wpOps_cons]
 refine zd8 (A1:=BkF (K++[(m,x.mag)]) Rs Es) (xs:=[.tmp 6]) [0] [2] 0 rfl O (keepLF_c K Rs Es m x.mag (nd_sep hs) zo) rfl (Eq.trans (b:=ptr g) (O.vals _ (zm 1 rfl)) (Eq.symm (O.vals _ (zm 0 rfl)))) (.cons ⟨_,rfl,rfl⟩ .nil) rfl hrm zd zk zk zk zk (fun a w O=>?_)
 refine zbi ?_
 have O:=St.cvA (A':=BkF (K++([(m,x.mag)])) Rs Es) O 0 rfl (congrArg (fun k=>BkF k Rs Es) (by simp [List.append_assoc]))
 have O:=zn [(7,_),(0,_)] [⟨0,59,ptrH,BkF (K++([(m,x.mag)])) Rs Es⟩,⟨3,25,ptrH,_⟩] O
 refine zc9<|zen O (zm 1 rfl) (zm 0 rfl) ?_
 exact zb6 (rs:=[]) rfl O .nil zd
theorem zjl (x:RF)(m1 m2:Value)(K:KL)(Rs Es:VL)(hs:(kbl (K++([(m1,x.num.mag)]++[(m2,x.den.mag)]))).Nodup)(hl:K.length+Rs.length+Es.length≤999990):CK Tryz.prog 37 59 [59,105] (BkF (K) Rs Es) (BkF (K++([(m1,x.num.mag)]++[(m2,x.den.mag)])) Rs Es) [(FracP x m1 m2).va] (Tu []):=by
 have g1:(kbl ((K++[(m1,x.num.mag)])++[(m2,x.den.mag)])).Nodup:=by simpa [List.append_assoc] using hs
 have g0:=zoo g1
 refine CK.intro Tryz.func37 rfl zk nq zk (fun B g w0 a hrm O=>?_)
 have O:=zn [(0,EqV ((ptrH).f g)),(1,(FracP x m1 m2).va)] [⟨0,59,ptrH,BkF (K) Rs Es⟩] O
 refine wp_seq<|zg [none] [⟨3,27,ptrH,some 0,_,none⟩] [.alc 1] [.g 0] O (oc (zam rfl rfl rfl (gq 1 rfl)) o0) (zz [(0,_)] [⟨0,59,ptrH,_⟩,⟨3,27,ptrH,_⟩] fun a w O=>?_)
 refine zt<|zbs (sp:=[.v 4 _,.adr 5 3 (.some 0) True,.v 6 _,.v 7 VT]) 3 1 99 3 OneC [.g 0,.o 0,.o 2] O (zv rfl (za1 (gq 0 rfl)) (oc (ob_a rfl rfl (za9 (lz0 1 rfl) zbf)) (zv rfl (za4 1 rfl zk trivial (lz0 1 rfl) (Sub.part 0 rfl rfl) zac) o0))) rfl zd zk zk (zz [(0,_),(4,_),(6,_)] [⟨0,59,ptrH,_⟩,⟨3,27,ptrH,_⟩] fun a w O=>?_)
 rw [show List.range' 3 1=[3] from rfl]
 rw [wpOps_cons]
 refine zd8 (A1:=BkF (K++[(m1,x.num.mag)]) Rs Es) (xs:=[.tmp 6]) [0] [2] 0 rfl O (zs8 x.num m1 K Rs Es g0 (by (try simp only [List.length_append,List.length_cons,List.length_nil]); omega)) rfl (Eq.trans (b:=ptr g) (O.vals _ (zm 1 rfl)) (Eq.symm (O.vals _ (zm 0 rfl)))) (.cons ⟨_,rfl,rfl⟩ .nil) rfl hrm zd zk zk zk zk (fun a w O=>?_)
 refine zbi ?_
 have O:=zn [(7,_),(0,_)] [⟨0,59,ptrH,BkF (K++[(m1,x.num.mag)]) Rs Es⟩,⟨3,27,ptrH,_⟩] O
 refine za0<|zbs (sp:=[.v 8 _,.adr 9 3 (.some 2) True,.v 10 _,.v 11 VT]) 3 1 99 3 OneC [.g 1,.o 0,.o 2] O (zv rfl (za1 (gq 1 rfl)) (oc (ob_a rfl rfl (za9 (lz0 1 rfl) zbb)) (zv rfl (za4 1 rfl zk trivial (lz0 1 rfl) (Sub.part 1 rfl rfl) zac) o0))) rfl zd zk zk (zz [(0,_),(8,_),(10,_)] [⟨0,59,ptrH,_⟩,⟨3,27,ptrH,_⟩] fun a w O=>?_)
 rw [show List.range' 3 1=[3] from rfl]
 rw [wpOps_cons]
 refine zd8 (A1:=BkF ((K++[(m1,x.num.mag)])++[(m2,x.den.mag)]) Rs Es) (xs:=[.tmp 10]) [0] [2] 0 rfl O (zs8 x.den m2 (K++[(m1,x.num.mag)]) Rs Es g1 (by (try simp only [List.length_append,List.length_cons,List.length_nil]); omega)) rfl (Eq.trans (b:=ptr g) (O.vals _ (zm 1 rfl)) (Eq.symm (O.vals _ (zm 0 rfl)))) (.cons ⟨_,rfl,rfl⟩ .nil) rfl hrm zd zk zk zk zk (fun a w O=>?_)
 refine zbi ?_
 have O:=St.cvA (A':=BkF (K++([(m1,x.num.mag)]++[(m2,x.den.mag)])) Rs Es) O 0 rfl (congrArg (fun k=>BkF k Rs Es) (by simp [List.append_assoc]))
 have O:=zn [(11,_),(0,_)] [⟨0,59,ptrH,BkF (K++([(m1,x.num.mag)]++[(m2,x.den.mag)])) Rs Es⟩,⟨3,27,ptrH,_⟩] O
 refine zc9<|zen O (zm 1 rfl) (zm 0 rfl) ?_
 exact zb6 (rs:=[]) rfl O .nil zd
theorem zs6 (x:RR)(m:Nat→Value)(K:KL)(Rs Es:VL)(hs:(kbl (K++kr x m)).Nodup)(hl:K.length+Rs.length+Es.length≤999982):CK Tryz.prog 15 59 [59,105] (BkF (K) Rs Es) (BkF (K++(kr x m)) Rs Es) [(RayP x m).va] (Tu []):=by
 have g1:(kbl ((K++(kf x.y (m 0) (m 1)))++(kf x.u (m 2) (m 3)))).Nodup:=by simpa [List.append_assoc] using hs
 have g0:=zoo g1
 refine CK.intro Tryz.func15 rfl zk nq zk (fun B g w0 a hrm O=>?_)
 have O:=zn [(0,EqV ((ptrH).f g)),(1,(RayP x m).va)] [⟨0,59,ptrH,BkF (K) Rs Es⟩] O
 refine wp_seq<|zg [none] [⟨3,29,ptrH,some 0,_,none⟩] [.alc 1] [.g 0] O (oc (zam rfl rfl rfl (gq 1 rfl)) o0) (zz [(0,_)] [⟨0,59,ptrH,_⟩,⟨3,29,ptrH,_⟩] fun a w O=>?_)
 refine zt<|zbs (sp:=[.v 4 _,.adr 5 3 (.some 0) True,.v 6 _,.v 7 VT]) 3 1 99 3 OneC [.g 0,.o 0,.o 2] O (zv rfl (za1 (gq 0 rfl)) (oc (ob_a rfl rfl (za9 (lz0 1 rfl) zci)) (zv rfl (za4 1 rfl zk trivial (lz0 1 rfl) (Sub.part 0 rfl rfl) zar) o0))) rfl zd zk zk (zz [(0,_),(4,_),(6,_)] [⟨0,59,ptrH,_⟩,⟨3,29,ptrH,_⟩] fun a w O=>?_)
 rw [show List.range' 3 1=[3] from rfl]
 rw [wpOps_cons]
 refine zd8 (A1:=BkF (K++(kf x.y (m 0) (m 1))) Rs Es) (xs:=[.tmp 6]) [0] [2] 0 rfl O (zjl x.y (m 0) (m 1) K Rs Es g0 (by (try simp only [List.length_append,List.length_cons,List.length_nil]); omega)) rfl (Eq.trans (b:=ptr g) (O.vals _ (zm 1 rfl)) (Eq.symm (O.vals _ (zm 0 rfl)))) (.cons ⟨_,rfl,rfl⟩ .nil) rfl hrm zd zk zk zk zk (fun a w O=>?_)
 refine zbi ?_
 have O:=zn [(7,_),(0,_)] [⟨0,59,ptrH,BkF (K++(kf x.y (m 0) (m 1))) Rs Es⟩,⟨3,29,ptrH,_⟩] O
 refine za0<|zbs (sp:=[.v 8 _,.adr 9 3 (.some 4) True,.v 10 _,.v 11 VT]) 3 1 99 3 OneC [.g 1,.o 0,.o 2] O (zv rfl (za1 (gq 1 rfl)) (oc (ob_a rfl rfl (za9 (lz0 1 rfl) zch)) (zv rfl (za4 1 rfl zk trivial (lz0 1 rfl) (Sub.part 1 rfl rfl) zar) o0))) rfl zd zk zk (zz [(0,_),(8,_),(10,_)] [⟨0,59,ptrH,_⟩,⟨3,29,ptrH,_⟩] fun a w O=>?_)
 rw [show List.range' 3 1=[3] from rfl]
 rw [wpOps_cons]
 refine zd8 (A1:=BkF ((K++(kf x.y (m 0) (m 1)))++(kf x.u (m 2) (m 3))) Rs Es) (xs:=[.tmp 10]) [0] [2] 0 rfl O (zjl x.u (m 2) (m 3) (K++(kf x.y (m 0) (m 1))) Rs Es g1 (by (try simp only [List.length_append,List.length_cons,List.length_nil]); omega)) rfl (Eq.trans (b:=ptr g) (O.vals _ (zm 1 rfl)) (Eq.symm (O.vals _ (zm 0 rfl)))) (.cons ⟨_,rfl,rfl⟩ .nil) rfl hrm zd zk zk zk zk (fun a w O=>?_)
 refine zbi ?_
 have O:=St.cvA (A':=BkF (K++(kr x m)) Rs Es) O 0 rfl (congrArg (fun k=>BkF k Rs Es) (by simp [List.append_assoc]))
 have O:=zn [(11,_),(0,_)] [⟨0,59,ptrH,BkF (K++(kr x m)) Rs Es⟩,⟨3,29,ptrH,_⟩] O
 refine zc9<|zen O (zm 1 rfl) (zm 0 rfl) ?_
 exact zb6 (rs:=[]) rfl O .nil zd
theorem zxu (x:RE)(m:Nat→Value)(K:KL)(Rs Es:VL)(hs:(kbl (K++ke x m)).Nodup)(hl:K.length+Rs.length+Es.length≤999982):CK Tryz.prog 35 59 [59,105] (BkF (K) Rs Es) (BkF (K++(ke x m)) Rs Es) [(EleP x m).va] (Tu []):=by
 have g1:(kbl ((K++(kf x.p (m 0) (m 1)))++(kf x.q (m 2) (m 3)))).Nodup:=by simpa [List.append_assoc] using hs
 have g0:=zoo g1
 refine CK.intro Tryz.func35 rfl zk nq zk (fun B g w0 a hrm O=>?_)
 have O:=zn [(0,EqV ((ptrH).f g)),(1,(EleP x m).va)] [⟨0,59,ptrH,BkF (K) Rs Es⟩] O
 refine wp_seq<|zg [none] [⟨3,69,ptrH,some 0,_,none⟩] [.alc 1] [.g 0] O (oc (zam rfl rfl rfl (gq 1 rfl)) o0) (zz [(0,_)] [⟨0,59,ptrH,_⟩,⟨3,69,ptrH,_⟩] fun a w O=>?_)
 refine zt<|zbs (sp:=[.v 4 _,.adr 5 3 (.some 1) True,.v 6 _,.v 7 VT]) 3 1 99 3 OneC [.g 0,.o 0,.o 2] O (zv rfl (za1 (gq 0 rfl)) (oc (ob_a rfl rfl (za9 (lz0 1 rfl) zc8)) (zv rfl (za4 1 rfl zk trivial (lz0 1 rfl) (Sub.part 1 rfl rfl) zar) o0))) rfl zd zk zk (zz [(0,_),(4,_),(6,_)] [⟨0,59,ptrH,_⟩,⟨3,69,ptrH,_⟩] fun a w O=>?_)
 rw [show List.range' 3 1=[3] from rfl]
 rw [wpOps_cons]
 refine zd8 (A1:=BkF (K++(kf x.p (m 0) (m 1))) Rs Es) (xs:=[.tmp 6]) [0] [2] 0 rfl O (zjl x.p (m 0) (m 1) K Rs Es g0 (by (try simp only [List.length_append,List.length_cons,List.length_nil]); omega)) rfl (Eq.trans (b:=ptr g) (O.vals _ (zm 1 rfl)) (Eq.symm (O.vals _ (zm 0 rfl)))) (.cons ⟨_,rfl,rfl⟩ .nil) rfl hrm zd zk zk zk zk (fun a w O=>?_)
 refine zbi ?_
 have O:=zn [(7,_),(0,_)] [⟨0,59,ptrH,BkF (K++(kf x.p (m 0) (m 1))) Rs Es⟩,⟨3,69,ptrH,_⟩] O
 refine za0<|zbs (sp:=[.v 8 _,.adr 9 3 (.some 5) True,.v 10 _,.v 11 VT]) 3 1 99 3 OneC [.g 1,.o 0,.o 2] O (zv rfl (za1 (gq 1 rfl)) (oc (ob_a rfl rfl (za9 (lz0 1 rfl) zcf)) (zv rfl (za4 1 rfl zk trivial (lz0 1 rfl) (Sub.part 2 rfl rfl) zar) o0))) rfl zd zk zk (zz [(0,_),(8,_),(10,_)] [⟨0,59,ptrH,_⟩,⟨3,69,ptrH,_⟩] fun a w O=>?_)
 rw [show List.range' 3 1=[3] from rfl]
 rw [wpOps_cons]
 refine zd8 (A1:=BkF ((K++(kf x.p (m 0) (m 1)))++(kf x.q (m 2) (m 3))) Rs Es) (xs:=[.tmp 10]) [0] [2] 0 rfl O (zjl x.q (m 2) (m 3) (K++(kf x.p (m 0) (m 1))) Rs Es g1 (by (try simp only [List.length_append,List.length_cons,List.length_nil]); omega)) rfl (Eq.trans (b:=ptr g) (O.vals _ (zm 1 rfl)) (Eq.symm (O.vals _ (zm 0 rfl)))) (.cons ⟨_,rfl,rfl⟩ .nil) rfl hrm zd zk zk zk zk (fun a w O=>?_)
 refine zbi ?_
 have O:=St.cvA (A':=BkF (K++(ke x m)) Rs Es) O 0 rfl (congrArg (fun k=>BkF k Rs Es) (by simp [List.append_assoc]))
 have O:=zn [(11,_),(0,_)] [⟨0,59,ptrH,BkF (K++(ke x m)) Rs Es⟩,⟨3,69,ptrH,_⟩] O
 refine zc9<|zen O (zm 1 rfl) (zm 0 rfl) ?_
 exact zb6 (rs:=[]) rfl O .nil zd
end Go.Proofs.YthdbhckhignfcaaGreatDoor
namespace Go.Proofs.YthdbhckhignfcaaGreatDoor
open Go Go.RowKit
def SzV (h:Nat):VA where
 p _ _ w:=h≤w.heap.size
 deps:=[]
 cg:=fun _ _ _ _ hg hh=>Nat.le_trans hh hg.le
 wr:=fun _ _ _ _ _ _ _ _ _ _ _ hW hh=>by rw [hW.size]; exact hh
def GeA (h:Nat)(A:As):As where
 n:=A.n
 ag:=A.ag
 p B cs w:=A.p B cs w∧(cbl cs).Nodup∧∀ g∈cbl cs,h≤g
 deps:=A.deps
 len:=fun B cs w hp=>A.len B cs w hp.1
 one:=fun B cs w hp=>A.one B cs w hp.1
 ag1:=A.ag1
 cg:=fun B cs w w' hg hp=>⟨A.cg B cs w w' hg hp.1,hp.2⟩
 wr:=fun B cs w w' g c T fz h1 h2 h3 h4 hp=>⟨A.wr B cs w w' g c T fz h1 h2 h3 h4 hp.1,hp.2⟩
def IvA (lo hi:Nat)(A:As):As where
 n:=A.n
 ag:=A.ag
 p B cs w:=A.p B cs w∧(cbl cs).Nodup∧∀ g∈cbl cs,lo≤g∧g<hi
 deps:=A.deps
 len:=fun B cs w hp=>A.len B cs w hp.1
 one:=fun B cs w hp=>A.one B cs w hp.1
 ag1:=A.ag1
 cg:=fun B cs w w' hg hp=>⟨A.cg B cs w w' hg hp.1,hp.2⟩
 wr:=fun B cs w w' g c T fz h1 h2 h3 h4 hp=>⟨A.wr B cs w w' g c T fz h1 h2 h3 h4 hp.1,hp.2⟩
theorem ge_wk {h:Nat}{A:As}:WkA (GeA h A) A:=⟨rfl,rfl,fun _ _ _ hp=>hp.1⟩
theorem iv_wk {lo hi:Nat}{A:As}:WkA (IvA lo hi A) A:=⟨rfl,rfl,fun _ _ _ hp=>hp.1⟩
theorem zy9 {h:Nat}{A A':As}(k:WkA A A'):WkA (GeA h A) (GeA h A'):=⟨k.1,k.2.1,fun _ _ _ hp=>⟨k.2.2 _ _ _ hp.1,hp.2⟩⟩
section
variable {B N:Nat} {w0:Bs} {Γ:List (Nat × VA)} {Λ:List Lc} {a:Act} {w:World}
theorem St.setG (h:St B w0 N Γ Λ a w){s:Nat}{A A':VA}(k:Nat)(hm:Γ[k]?=some (s,A))(hp:A.p B (a.eval (.tmp s)) w→A'.p B (a.eval (.tmp s)) w):St B w0 N (Γ.set k (s,A')) Λ a w :=
 ⟨h.lo,h.defers,h.size,h.base,fun x hx=>by
  rcases List.mem_or_eq_of_mem_set hx with hx | rfl
  ·exact h.vals x hx
  ·exact hp (h.vals _ (List.mem_of_getElem? hm)),h.locs,h.dis⟩
theorem St.getG (h:St B w0 N Γ Λ a w){s:Nat}{A:VA}(k:Nat)(hm:Γ[k]?=some (s,A)):A.p B (a.eval (.tmp s)) w:=h.vals _ (List.mem_of_getElem? hm)
theorem St.addSz (h:St B w0 N Γ Λ a w)(s:Nat):St B w0 N (Γ++[(s,SzV w.heap.size)]) Λ a w :=
 ⟨h.lo,h.defers,h.size,h.base,fun x hx=>by
  rcases List.mem_append.1 hx with hx | hx
  ·exact h.vals x hx
  ·obtain rfl:=List.mem_singleton.1 hx
   exact Nat.le_refl _,h.locs,h.dis⟩
theorem St.newSz (h:St B w0 N Γ Λ a w){s h0:Nat}(k:Nat)(hm:Γ[k]?=some (s,SzV h0)):h0≤w.heap.size∧St B w0 N (Γ.set k (s,SzV w.heap.size)) Λ a w:=⟨h.getG k hm,h.setG k hm fun _=>Nat.le_refl _⟩
theorem St.setL (h:St B w0 N Γ Λ a w){s:Nat}{T:TypeId}{H:Hd}{A A':As}(k:Nat)(hm:Λ[k]?=some ⟨s,T,H,A⟩)(hp:∀ cs,A.p B cs w→A'.p B cs w):St B w0 N Γ (Λ.set k ⟨s,T,H,A'⟩) a w:=by
 obtain ⟨g,cs,q1,q2,q3,q4⟩:=h.locs _ (List.mem_of_getElem? hm)
 have hs:∀ m∈Λ.set k ⟨s,T,H,A'⟩,∃ m0∈Λ,m0.s=m.s:=fun m hm'=>by
  rcases List.mem_or_eq_of_mem_set hm' with hm' | rfl
  ·exact ⟨m,hm',rfl⟩
  ·exact ⟨_,List.mem_of_getElem? hm,rfl⟩
 refine ⟨h.lo,h.defers,h.size,h.base,h.vals,fun l hl=>?_,fun m1 hm1 m2 hm2 hne=>?_⟩
 ·rcases List.mem_or_eq_of_mem_set hl with hl | rfl
  ·exact h.locs l hl
  ·exact ⟨g,cs,q1,q2,q3,hp cs q4⟩
 ·obtain ⟨m3,r1,r2⟩:=hs m1 hm1
  obtain ⟨m4,r3,r4⟩:=hs m2 hm2
  rw [← r2,← r4] at hne ⊢
  exact h.dis m3 r1 m4 r3 hne
end
section
open Rg
variable {P:Program} {Q:Exit→Act→World→Prop} {R:Rg} {B i:Nat} {w0:Bs}
theorem zzi {pre pre':List VA}{xs:List Operand}{a:Act}{w:World}(hup:All2 Up pre pre')(hx:HasL R B w0 i xs pre)(av:R.Av B w0 i a w):All2 (fun (A:VA) v=>A.p w.heap.size v w) pre' (xs.map a.eval):=by
 have hbw:=Av.bw av
 have h1:=hx.all av
 clear hx
 generalize xs.map a.eval=vs at h1
 induction hup generalizing vs with
 | nil=>cases h1; exact .nil
 | cons hu _ ih =>
  cases h1 with
  | cons h2 h3=>exact .cons (hu _ _ _ hbw h2) (ih _ h3)
theorem zmk {f h s:Nat}{A:As}{pre pre':List VA}{xs:List Operand}{at_:Array TypeId}(hc:Cn P f pre' A.va)(hnew:NewA A)(hnod:NodA A)(hfree:FreeA A A)(hup:All2 Up pre pre')(hx:HasL R B w0 i xs pre)(hs:Has R B w0 i (.tmp s) (SzV h)):Wv P Q R B w0 i (.call ⟨.value (.func f),xs.toArray,at_⟩) (GeA h A).va:=by
 intro d T ps af gd a w av K hK
 obtain ⟨⟨fn,hf,hn,hb⟩,hcall⟩:=hc
 have hrun:(execOp a.eval ⟨some d,.call ⟨.value (.func f),xs.toArray,at_⟩,T,ps,af,gd⟩).run P w=.ok (.enter f (xs.map a.eval).toArray) w:=by
  simp only [execOp,resolve,Act.eval,Deferred.ofValue,Sem.run_bind,Sem.run_pure,Result.andThen_ok,invoke,zbz hf hn hb]
  simp
 have hsz:h≤w.heap.size:=hs a w av
 unfold Oper.wp
 rw [hrun]
 refine (hcall w.heap.size w _ (Nat.le_refl _) (zzi hup hx av)).mono ?_
 rintro e w' ⟨v,rfl,⟨cs,hv,hsh⟩,hg⟩
 exact hK v w' hg ⟨cs,⟨hfree.2.2 _ _ _ _ (Av.bw av) hv,hnod _ _ _ hv,fun g hg'=>Nat.le_trans hsz (hnew _ _ _ hv g hg').1⟩,hsh⟩
end
structure IvK (k:KL) (I:List (Nat × Nat)):Prop where
 nd:(kbl k).Nodup
 iv:∀ g∈kbl k,∃ x∈I,x.1≤g∧g<x.2
theorem ivk_nil:IvK [] []:=⟨List.nodup_nil,fun g hg=>by cases hg⟩
theorem zq6 {k l:KL}{I:List (Nat × Nat)}{lo hi:Nat}(h:IvK k I)(nl:(kbl l).Nodup)(hl:∀ g∈kbl l,lo≤g∧g<hi)(hI:∀ x∈I,x.2≤lo∨hi≤x.1):IvK (k++l) (I++[(lo,hi)]):=by
 refine ⟨?_,fun g hg=>?_⟩
 ·rw [kbl_app]
  refine List.nodup_append.2 ⟨h.nd,nl,fun x hx y hy e=>?_⟩
  subst e
  obtain ⟨z,hz,q1,q2⟩:=h.iv x hx
  have q3:=hl x hy
  rcases hI z hz with q | q <;> omega
 ·rw [kbl_app] at hg
  rcases List.mem_append.1 hg with hg | hg
  ·obtain ⟨x,hx,q⟩:=h.iv g hg
   exact ⟨x,by simp [hx],q⟩
  ·exact ⟨(lo,hi),by simp,hl g hg⟩
theorem zq7 {lo hi:Nat}:∀ x∈([]:List (Nat × Nat)),x.2≤lo∨hi≤x.1:=fun x hx=>by cases hx
theorem zq8 {I:List (Nat × Nat)}{lo hi l2 h2:Nat}(h:∀ x∈I,x.2≤lo∨hi≤x.1)(k:h2≤lo∨hi≤l2):∀ x∈I++[(l2,h2)],x.2≤lo∨hi≤x.1:=fun x hx=>by
 rcases List.mem_append.1 hx with hx | hx
 ·exact h x hx
 ·obtain rfl:=List.mem_singleton.1 hx
  exact k
end Go.Proofs.YthdbhckhignfcaaGreatDoor
namespace Go.Proofs.YthdbhckhignfcaaGreatDoor
open Go Go.RowKit
theorem zpe {l:List As}{m B:Nat}{ds:List Value}{w:World}(hm:∀ A∈l,A.n=m)(h:(cat l).p B ds w):∀ k,(cat (l.take k)).p B (ds.take (k*m)) w∧(cat (l.drop k)).p B (ds.drop (k*m)) w:=by
 obtain ⟨ps,rfl,h⟩:=h
 induction h with
 | nil=>intro k; simp only [List.take_nil,List.drop_nil,List.flatten_nil]; exact ⟨⟨[],rfl,.nil⟩,⟨[],rfl,.nil⟩⟩
 | @cons A c ls bs h1 h2 ih =>
  intro k
  cases k with
  | zero =>
   simp only [List.take_zero,Nat.zero_mul,List.drop_zero]
   exact ⟨⟨[],rfl,.nil⟩,⟨c::bs,rfl,.cons h1 h2⟩⟩
  | succ k =>
   obtain ⟨i1,i2⟩:=ih (fun A' hA=>hm A' (List.mem_cons_of_mem _ hA)) k
   have hl:c.length=m:=(A.len _ _ _ h1).trans (hm A (by simp))
   have e1:(c::bs).flatten.take ((k+1)*m)=c++bs.flatten.take (k*m):=by
    rw [List.flatten_cons,List.take_append,List.take_of_length_le (by rw [hl,Nat.add_mul]; omega),hl]
    congr 2
    rw [Nat.add_mul]
    omega
   have e2:(c::bs).flatten.drop ((k+1)*m)=bs.flatten.drop (k*m):=by
    rw [List.flatten_cons,List.drop_append,List.drop_of_length_le (by rw [hl,Nat.add_mul]; omega),List.nil_append,hl]
    congr 1
    rw [Nat.add_mul]
    omega
   rw [e1,e2,List.take_succ_cons,List.drop_succ_cons]
   refine ⟨?_,i2⟩
   obtain ⟨qs,e,hq⟩:=i1
   exact ⟨c::qs,by rw [List.flatten_cons,← e],.cons h1 hq⟩
section
variable {P:Program} {R:Rg} {Q:Exit→Act→World→Prop} {B i:Nat} {w0:Bs}
end
end Go.Proofs.YthdbhckhignfcaaGreatDoor
