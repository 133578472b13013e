import Derived.Test.YtndjeibbjjpkfaaGreatDoorCtAa
import Derived.Test.YtndjeibbjjpkfaaGreatDoorCtAc
import Derived.Test.YtndjeibbjjpkfaaGreatDoorCtAl
import Derived.Test.YtndjeibbjjpkfaaGreatDoorCtAw
import Derived.Test.YtndjeibbjjpkfaaGreatDoorCtAy
import Derived.Test.YtndjeibbjjpkfaaGreatDoorCtAz
import Derived.Laws.AppendOwn
import Derived.Laws.OwnMore
import Derived.Orders
import Derived.ProofKit
import Derived.OpenShut
import Derived.ChangeOld
import Derived.Below
import Derived.Deep.Slices
set_option linter.unusedVariables false
set_option linter.unusedSimpArgs false
set_option linter.unusedSectionVars false
set_option maxRecDepth 100000
namespace Go.Proofs.YtndjeibbjjpkfaaGreatDoor
open Go Go.RowKit
def elK (k ps qs:Int):Bool:=if k==1 then decide (ps≥0)&&(qs==0) else if k==2 then (qs==0) else if k==3 then decide (ps≥0)&&decide (qs>0) else if k==4 then true else ((k==5)&&(ps==0))&&(qs==0)
def elF (x:RE):Bool:=[x.p,x.q].all okX&&elK x.k (toQ x.p).num.sign (toQ x.q).num.sign
def elQ (k:Int)(p q:Rat):MQ:=if k=1 then ⟨1,p,0,1⟩ else if k=2 then ⟨1,0,0-p,1⟩ else if k=3 then ⟨1,p/q,0,1⟩ else if k=4 then ⟨1,0,0-p*q,1⟩ else ⟨0-1,0-0,0-0,0-1⟩
def elM (x:RE):MQ:=elQ x.k (toQ x.p) (toQ x.q)
def prodQ (xs:List RE):MQ:=xs.foldl (fun m x=>mulQ (elM x) m) ⟨1,0,0,1⟩
def chF (xs:List RE):Int:=if xs.length>4096 then 4 else if xs.all elF then 0 else 1
theorem elF_no {x:RE}(h:(![x.p,x.q].all okX)=true):elF x=false:=by rw [Bool.not_eq_true'] at h; rw [elF,h]; rfl
theorem elF_ok {x:RE}(h:(![x.p,x.q].all okX)=false):[x.p,x.q].all okX=true∧elF x=elK x.k (toQ x.p).num.sign (toQ x.q).num.sign:=by rw [Bool.not_eq_false'] at h; exact ⟨h,by rw [elF,h]; rfl⟩
theorem el_q {x:RE}(h:[x.p,x.q].all okX=true):WkA (REA x) (QEA 2048 x.k (toQ x.p) (toQ x.q)):=by
 simp only [List.all_cons,List.all_nil,Bool.and_true,Bool.and_eq_true] at h
 exact zc8 (.cons (WkA.refl _) (.cons (qa_x h.1 (Nat.le_refl _)) (.cons (qa_x h.2 (Nat.le_refl _)) .nil)))
theorem zj9 (x:RE):UpA (REA x) (REA x):=zlb (.cons (zqj _ _) (.cons (zkr _) (.cons (zkr _) .nil)))
theorem kd1 {k ps qs:Int}(h:(k==1)=true):elK k ps qs=(decide (ps≥0)&&(qs==0)):=by rw [elK,h]; rfl
theorem kd2 {k ps qs:Int}(h1:(k==1)=false)(h:(k==2)=true):elK k ps qs=(qs==0):=by rw [elK,h1,h]; rfl
theorem kd3 {k ps qs:Int}(h1:(k==1)=false)(h2:(k==2)=false)(h:(k==3)=true):elK k ps qs=(decide (ps≥0)&&decide (qs>0)):=by rw [elK,h1,h2,h]; rfl
theorem kd4 {k ps qs:Int}(h1:(k==1)=false)(h2:(k==2)=false)(h3:(k==3)=false)(h:(k==4)=true):elK k ps qs=true:=by rw [elK,h1,h2,h3,h]; rfl
theorem kd5 {k ps qs:Int}(h1:(k==1)=false)(h2:(k==2)=false)(h3:(k==3)=false)(h4:(k==4)=false):elK k ps qs=(((k==5)&&(ps==0))&&(qs==0)):=by rw [elK,h1,h2,h3,h4]; rfl
theorem elMay_c (x:RE):Cn Tryz.prog 83 [(REA x).va] (Bo (elF x)):=by
 refine Cn.intro Tryz.func83 rfl zk nq (fun B w0 a O=>?_)
 have O:=zn [(0,(REA x).va)] [] O
 refine wp_seq<|zg [] [⟨1,64,ptrH,some 0,_,none⟩] [.alc 0,.val 2 _] [.o 1] O (oc (zan rfl rfl rfl (gq 0 rfl)) (zv rfl (za1 zau) o0)) (zz [(2,_)] [⟨1,64,ptrH,_⟩] fun a w O=>?_)
 refine zt<|wp_seq<|zg [none] [] [.adr 5 1 (.some 1) True,.val 6 _,.adr 7 1 (.some 5) True,.val 8 _,.val 9 _,.val 10 _,.val 11 _] [.g 0,.o 6] O (oc (ob_a rfl rfl (za7 (lz0 0 rfl) zcd)) (zv rfl (za4 0 rfl zk trivial (lz0 0 rfl) (Sub.part 1 rfl rfl) zad) (oc (ob_a rfl rfl (za7 (lz0 0 rfl) zcg)) (zv rfl (za4 2 rfl zk trivial (lz0 0 rfl) (Sub.part 2 rfl rfl) zad) (zv rfl (zcy (D:=[U32]) (l:=[_,_]) (xs:=[.tmp 6,.tmp 8]) (zff zk) zeo zk (n_ok zk) nq nq nq (.cons (vq 1 rfl) (.cons (vq 3 rfl) .nil)) rfl rfl) (zv rfl (za5 (xs:=[.tmp 9]) (zn8 [x.p,x.q] nq) (.cons (vq 4 rfl) .nil)) (zv rfl (zep (vq 5 rfl)) o0))))))) (zz [(2,_),(11,_)] [⟨1,64,ptrH,_⟩] fun a w O=>?_)
 refine za0<|za9 O (zm 1 rfl) (fun hb0=>?_) (fun hb0=>?_)
 ·refine wp_seq<|zg [none] [] [.val 2 _] [.o 0] O (zv rfl (za1 zau) o0) (zz [(2,_)] [⟨1,64,ptrH,_⟩] fun a w O=>?_)
  refine za0<|wp_ret<|zah ?_
  refine zae ?_ (zag rfl O (zm 0 rfl))
  rw [elF_no hb0]; exact zbi
 ·obtain ⟨hx,he⟩:=elF_ok hb0
  have O:=St.wkL O 0 rfl (el_q hx)
  refine wp_skip<|zt<|zgd [[],[0],[0,1],[],[3],[0,1,2,3,4],[0,1,2,3,4,5],[0,1,2,3,4,5,6]] [none] [] [.adr 12 1 (.some 1) True,.val 13 _,.val 14 _,.adr 15 1 (.some 5) True,.val 16 _,.val 17 _,.val 3 _,.val 4 _] [.g 0,.o 6,.o 7] za6 O (oc (ob_a rfl rfl (za7 (lz0 0 rfl) zcd)) (zv rfl (za4 0 rfl zk trivial (lz0 0 rfl) (Sub.part 1 rfl rfl) zad) (zv rfl (za5 (xs:=[.tmp 13]) sign_q (.cons (vq 1 rfl) .nil)) (oc (ob_a rfl rfl (za7 (lz0 0 rfl) zcg)) (zv rfl (za4 3 rfl zk trivial (lz0 0 rfl) (Sub.part 2 rfl rfl) zad) (zv rfl (za5 (xs:=[.tmp 16]) sign_q (.cons (vq 4 rfl) .nil)) (zv rfl (za1 (vq 2 rfl)) (zv rfl (za1 (vq 5 rfl)) o0)))))))) zk zk zk zk (zz [(2,_),(3,_),(4,_)] [⟨1,64,ptrH,_⟩] fun a w O=>?_)
  refine zt<|wp_seq<|zg [none] [] [.adr 18 1 (.some 0) True,.val 19 _] [.g 0,.g 1,.g 2,.o 1] O (oc (ob_a rfl rfl (za7 (lz0 0 rfl) zcw)) (zv rfl (za4 0 rfl zk trivial (lz0 0 rfl) (Sub.part 0 rfl rfl) zgu) o0)) (zz [(2,_),(3,_),(4,_),(19,_)] [⟨1,64,ptrH,_⟩] fun a w O=>?_)
  refine za0<|wp_block<|wp_seq<|zg [none] [] [.val 21 _,.val 20 _] [.g 0,.g 1,.g 2,.g 3,.o 1] O (zv rfl (zc5 (gq 3 rfl) za3) (zv rfl (za1 (vq 0 rfl)) o0)) (zz [(2,_),(3,_),(4,_),(19,_),(20,_)] [⟨1,64,ptrH,_⟩] fun a w O=>?_)
  refine za0<|za9 O (zm 4 rfl) (fun hb1=>?_) (fun hb1=>?_)
  ·refine wp_seq<|zg [none] [] [.val 22 _,.val 23 _,.val 24 _,.val 25 (Wh (_=true) _),.val 26 (Wh (_=true) _),.val 27 _,.val 2 _] [.g 1,.g 2,.o 6] O (zv rfl (za2 (gq 1 rfl)) (zv rfl (zey (vq 0 rfl) za3) (zv rfl (za2 (vq 1 rfl)) (oc (zai rfl rfl rfl (vq 2 rfl) nq (fun hg=>za2 (gq 2 rfl))) (oc (zai rfl rfl rfl (vq 2 rfl) nq (fun hg=>zc5 (zaa (vq 3 rfl) hg) za3)) (zv rfl (zc9 (vq 2 rfl) (vq 4 rfl)) (zv rfl (za1 (vq 5 rfl)) o0))))))) (zz [(3,_),(4,_),(2,_)] [⟨1,64,ptrH,_⟩] fun a w O=>?_)
   refine za0<|wp_ret<|zb7 ?_
   refine zah ?_
   refine zae ?_ (zag rfl O (zm 2 rfl))
   rw [he,kd1 hb1]; exact zbi
  ·refine wp_seq<|zg [none] [] [.val 29 _,.val 28 _] [.g 0,.g 1,.g 2,.g 3,.o 1] O (zv rfl (zc5 (gq 3 rfl) za3) (zv rfl (za1 (vq 0 rfl)) o0)) (zz [(2,_),(3,_),(4,_),(19,_),(28,_)] [⟨1,64,ptrH,_⟩] fun a w O=>?_)
   refine za0<|za9 O (zm 4 rfl) (fun hb2=>?_) (fun hb2=>?_)
   ·refine wp_seq<|zg [none] [] [.val 30 _,.val 31 _,.val 2 _] [.g 1,.g 2,.o 2] O (zv rfl (za2 (gq 2 rfl)) (zv rfl (zc5 (vq 0 rfl) za3) (zv rfl (za1 (vq 1 rfl)) o0))) (zz [(3,_),(4,_),(2,_)] [⟨1,64,ptrH,_⟩] fun a w O=>?_)
    refine za0<|wp_ret<|zb7 ?_
    refine zah ?_
    refine zae ?_ (zag rfl O (zm 2 rfl))
    rw [he,kd2 hb1 hb2]; exact zbi
   ·refine wp_seq<|zg [none] [] [.val 33 _,.val 32 _] [.g 0,.g 1,.g 2,.g 3,.o 1] O (zv rfl (zc5 (gq 3 rfl) za3) (zv rfl (za1 (vq 0 rfl)) o0)) (zz [(2,_),(3,_),(4,_),(19,_),(32,_)] [⟨1,64,ptrH,_⟩] fun a w O=>?_)
    refine za0<|za9 O (zm 4 rfl) (fun hb3=>?_) (fun hb3=>?_)
    ·refine wp_seq<|zg [none] [] [.val 34 _,.val 35 _,.val 36 _,.val 37 (Wh (_=true) _),.val 38 (Wh (_=true) _),.val 39 _,.val 2 _] [.g 1,.g 2,.o 6] O (zv rfl (za2 (gq 1 rfl)) (zv rfl (zey (vq 0 rfl) za3) (zv rfl (za2 (vq 1 rfl)) (oc (zai rfl rfl rfl (vq 2 rfl) nq (fun hg=>za2 (gq 2 rfl))) (oc (zai rfl rfl rfl (vq 2 rfl) nq (fun hg=>zex (zaa (vq 3 rfl) hg) za3)) (zv rfl (zc9 (vq 2 rfl) (vq 4 rfl)) (zv rfl (za1 (vq 5 rfl)) o0))))))) (zz [(3,_),(4,_),(2,_)] [⟨1,64,ptrH,_⟩] fun a w O=>?_)
     refine za0<|wp_ret<|zb7 ?_
     refine zah ?_
     refine zae ?_ (zag rfl O (zm 2 rfl))
     rw [he,kd3 hb1 hb2 hb3]; exact zbi
    ·refine wp_seq<|zg [none] [] [.val 41 _,.val 40 _] [.g 0,.g 1,.g 2,.o 1] O (zv rfl (zc5 (gq 3 rfl) za3) (zv rfl (za1 (vq 0 rfl)) o0)) (zz [(2,_),(3,_),(4,_),(40,_)] [⟨1,64,ptrH,_⟩] fun a w O=>?_)
     refine za0<|za9 O (zm 3 rfl) (fun hb4=>?_) (fun hb4=>?_)
     ·refine wp_seq<|zg [none] [] [.val 2 _] [.g 1,.g 2,.o 0] O (zv rfl (za1 zau) o0) (zz [(3,_),(4,_),(2,_)] [⟨1,64,ptrH,_⟩] fun a w O=>?_)
      refine za0<|wp_ret<|zb7 ?_
      refine zah ?_
      refine zae ?_ (zag rfl O (zm 2 rfl))
      rw [he,kd4 hb1 hb2 hb3 hb4]; exact zbi
     ·refine wp_skip<|zal ?_
      refine zt<|zg [none] [] [.adr 42 1 (.some 0) True,.val 43 _,.val 44 _,.val 45 _,.val 46 (Wh (_=true) _),.val 47 (Wh (_=true) _),.val 48 _,.val 49 _,.val 50 (Wh (_=true) _),.val 51 (Wh (_=true) _),.val 52 _,.val 2 _] [.o 11] O (oc (ob_a rfl rfl (za7 (lz0 0 rfl) zcw)) (zv rfl (za4 0 rfl zk trivial (lz0 0 rfl) (Sub.part 0 rfl rfl) zgu) (zv rfl (zc5 (vq 1 rfl) za3) (zv rfl (za2 (vq 2 rfl)) (oc (zai rfl rfl rfl (vq 3 rfl) nq (fun hg=>za2 (gq 1 rfl))) (oc (zai rfl rfl rfl (vq 3 rfl) nq (fun hg=>zc5 (zaa (vq 4 rfl) hg) za3)) (zv rfl (zc9 (vq 3 rfl) (vq 5 rfl)) (zv rfl (za2 (vq 6 rfl)) (oc (zai rfl rfl rfl (vq 7 rfl) nq (fun hg=>za2 (gq 2 rfl))) (oc (zai rfl rfl rfl (vq 7 rfl) nq (fun hg=>zc5 (zaa (vq 8 rfl) hg) za3)) (zv rfl (zc9 (vq 7 rfl) (vq 9 rfl)) (zv rfl (za1 (vq 10 rfl)) o0)))))))))))) (zz [(2,_)] [⟨1,64,ptrH,_⟩] fun a w O=>?_)
      refine za0<|wp_ret<|zae ?_ (zag rfl O (zm 0 rfl))
      rw [he,kd5 hb1 hb2 hb3 hb4]; exact zbi
theorem all_so {α:Type}{p:α→Bool}{l:List α}{j:Nat}(h:j<l.length)(h2:p l[j]=false):l.all p=false:=List.all_eq_false.2 ⟨_,List.getElem_mem h,by simp [h2]⟩
theorem all_nx {α:Type}{p:α→Bool}{l:List α}{j:Nat}(h:j<l.length)(h1:(l.take j).all p=true)(h2:p l[j]=true):(l.take (j+1)).all p=true:=by
 rw [List.take_succ_eq_append_getElem h,List.all_append,h1]
 simp [h2]
theorem slx {E:TypeId}{D:List TypeId}{l:List As}:Wk (SlO E D l True).va (SlA E D l).va:=zcj wk_old fun _ _ _ h=>(zec h).2
theorem zu6 (xs:List RE):Cn Tryz.prog 17 [(SlA 64 [U32] (xs.map REA)).va] (In (chF xs)):=by
 refine Cn.introW Tryz.func17 rfl zk nq (.cons (zp3 (fun A hA=>by obtain ⟨x,_,rfl⟩:=List.mem_map.1 hA; exact zj9 x)).va .nil) (zeg _ _).va (fun B w0 a hB0 O=>?_)
 have O:=zn [(0,(SlO 64 [U32] (xs.map REA) True).va)] [] O
 have hl:=slO_len (O.vals (0,(SlO 64 [U32] (xs.map REA) True).va) (zm 0 rfl))
 rw [List.length_map] at hl
 refine wp_seq<|zh [.val 2 _] [.g 0,.o 0] O (zv rfl (za1 za3) o0) (zz [(0,_),(2,_)] [] fun a w O=>?_)
 refine zt<|wp_seq<|zh [.val 5 _,.val 6 _,.val 7 _] [.g 0,.g 1,.o 2] O (zv rfl (za2 (gq 0 rfl)) (zv rfl (zbq Tryz.underlying22 (zd1 (zaz (vq 0 rfl)))) (zv rfl (zex (vq 1 rfl) za3) o0))) (zz [(0,_),(2,_),(7,_)] [] fun a w O=>?_)
 refine za0<|za9 O (zm 2 rfl) (fun hb0=>?_) (fun hb0=>?_)
 ·have hbig:xs.length>4096:=by rw [List.length_map] at hb0; have:=of_decide_eq_true hb0; omega
  refine wp_seq<|zh [.val 2 _] [.g 0,.o 0] O (zv rfl (za1 za3) o0) (zz [(0,_),(2,_)] [] fun a w O=>?_)
  refine za0<|wp_ret<|zah ?_
  refine zae ?_ (zag rfl O (zm 1 rfl))
  rw [chF,if_pos hbig]; exact zbi
 ·have hbig:¬ xs.length>4096:=by rw [List.length_map] at hb0; have:=of_decide_eq_false hb0; omega
  refine wp_skip<|zt<|wp_seq<|zh [.val 8 _,.val 9 _,.val 10 _] [.g 1,.o 0,.o 1,.o 2] O (zv rfl (za2 (gq 0 rfl)) (zv rfl (zbq Tryz.underlying22 (zd1 (zaz (vq 0 rfl)))) (zv rfl (za2 za3) o0))) (zz [(2,_),(8,_),(9,_),(10,_)] [] fun a w O=>?_)
  refine za0<|wp_block ?_
  have O:=St.sel O [1,2,3]
  refine wp_loop_ghost (fun n a w=>∃ j:Nat,(n+j=xs.length∧(xs.take j).all elF=true)∧St B w0 18 [(8,(SlO 64 [U32] (xs.map REA) True).va),(9,In (xs.length:Nat)),(10,In (j:Nat))] [] a w) (xs.length) ?_ ?_
  ·exact ⟨0,⟨by omega,rfl⟩,by rw [List.length_map] at O; exact O⟩
  intro n a w hI
  obtain ⟨j,⟨hn,hno⟩,O⟩:=hI
  refine wp_seq<|zh [.val 11 _] [.g 0,.g 1,.g 2,.o 0] O (zv rfl (zb6 (gq 2 rfl) (gq 1 rfl)) o0) (zz [(8,_),(9,_),(10,_),(11,_)] [] fun a w O=>?_)
  refine zt<|za9 O (zm 3 rfl) (fun hb1=>?_) (fun hb1=>?_)
  ·have hj:j<xs.length:=by simp at hb1; omega
   refine wp_skip<|zt<|wp_block<|wp_seq<|zg [] [⟨4,64,ptrH,some 2,_,some (3,_)⟩] [.val 12 _,.val 13 _,.alc 0,.sto 0] [.g 0,.g 1,.g 2] O (zv rfl (zdv zgw (zie fun _=>rfl) (zd1 (zaz (gq 0 rfl))) (gq 2 rfl) (zfb hj)) (zv rfl (zaj (vq 0 rfl) zed) (oc (zaq rfl rfl rfl (Str.zero zfz)) (oc (zac rfl rfl rfl (vq 1 rfl) zed (Eq.trans (b:=9) rfl rfl)) o0)))) (zz [(8,_),(9,_),(10,_)] [⟨4,64,ptrH,_⟩] fun a w O=>?_)
   refine zt<|zg [none] [] [.val 14 _,.val 15 _,.val 16 _] [.g 0,.g 1,.g 2,.o 2] O (zv rfl (zam (lz0 0 rfl) zed) (zv rfl (za5 (xs:=[.tmp 14]) (elMay_c _) (.cons (vq 0 rfl) .nil)) (zv rfl (zep (vq 1 rfl)) o0))) (zz [(8,_),(9,_),(10,_),(16,_)] [⟨4,64,ptrH,_⟩] fun a w O=>?_)
   refine za0<|za9 O (zm 3 rfl) (fun hb2=>?_) (fun hb2=>?_)
   ·refine wp_seq<|zg [none] [] [.val 2 _] [.g 0,.g 1,.g 2,.o 0] O (zv rfl (za1 za3) o0) (zz [(8,_),(9,_),(10,_),(2,_)] [⟨4,64,ptrH,_⟩] fun a w O=>?_)
    refine za0<|wp_ret<|zb7 ?_
    refine zah ?_
    refine zah ?_
    refine zb7 ?_
    refine zah ?_
    refine zae ?_ (zag rfl O (zm 3 rfl))
    rw [chF,if_neg hbig,all_so hj (by simpa using hb2)]; exact zbi
   ·refine wp_skip<|zal ?_
    refine za0<|zg [none] [] [.val 17 _,.val 10 _] [.g 0,.g 1,.o 1] O (zv rfl (zbb (gq 2 rfl) za3 ((wi64 zo zo).trans (by omega:(_:Int)=((j+1:Nat):Int)))) (zv rfl (za2 (vq 0 rfl)) o0)) (zz [(8,_),(9,_),(10,_)] [⟨4,64,ptrH,_⟩] fun a w O=>?_)
    refine za0 ?_
    have O:=St.sel O [0,1,2]
    have O:=St.selL O []
    exact ⟨n-1,by omega,j+1,⟨by omega,all_nx hj hno (by simpa using hb2)⟩,O⟩
  ·obtain rfl:j=xs.length:=by simp at hb1; omega
   refine wp_exit<|za8<|za8<|zat<|zt<|zh [.val 2 _] [.o 0] O (zv rfl (za1 za3) o0) (zz [(2,_)] [] fun a w O=>?_)
   refine za0<|wp_ret<|zae ?_ (zag rfl O (zm 0 rfl))
   rw [List.take_length] at hno; rw [chF,if_neg hbig,hno]; exact zbi
def RepM (b:Nat)(m:MQ):Prop:=∃ n1 n2 n3 n4 D:Int,D≠0∧m.a=(n1:Rat)/(D:Rat)∧m.b=(n2:Rat)/(D:Rat)∧m.c=(n3:Rat)/(D:Rat)∧m.d=(n4:Rat)/(D:Rat)∧lz n1≤b∧lz n2≤b∧lz n3≤b∧lz n4≤b∧lz D≤b
theorem rep_bQ {b:Nat}{m:MQ}(h:RepM b m):bQ b m.a∧bQ b m.b∧bQ b m.c∧bQ b m.d:=by
 obtain ⟨n1,n2,n3,n4,D,hD,e1,e2,e3,e4,h1,h2,h3,h4,h5⟩:=h
 rw [e1,e2,e3,e4,← Rat.divInt_eq_div,← Rat.divInt_eq_div,← Rat.divInt_eq_div,← Rat.divInt_eq_div]
 obtain ⟨a1,a2⟩:=zgq (p:=n1) hD
 obtain ⟨b1,b2⟩:=zgq (p:=n2) hD
 obtain ⟨c1,c2⟩:=zgq (p:=n3) hD
 obtain ⟨d1,d2⟩:=zgq (p:=n4) hD
 exact ⟨⟨by omega,by omega⟩,⟨by omega,by omega⟩,⟨by omega,by omega⟩,⟨by omega,by omega⟩⟩
theorem zm6 {a b c d D E:Rat}(hD:D≠0)(hE:E≠0):a/D*(c/E)+b/D*(d/E)=(a*c+b*d)/(D*E):=by grind
theorem zrg {c d:Nat}{a b x y:Int}(ha:lz a≤c)(hb:lz b≤c)(hx:lz x≤d)(hy:lz y≤d):lz (a*x+b*y)≤c+d+1:=by
 have h1:=zo4 (a*x) (b*y)
 have h2:=zh5 a x
 have h3:=zh5 b y
 omega
theorem rep_mul {c d:Nat}{m q:MQ}(hm:RepM c m)(hq:RepM d q):RepM (c+d+1) (mulQ m q):=by
 obtain ⟨n1,n2,n3,n4,D,hD,e1,e2,e3,e4,h1,h2,h3,h4,h5⟩:=hm
 obtain ⟨k1,k2,k3,k4,E,hE,f1,f2,f3,f4,g1,g2,g3,g4,g5⟩:=hq
 have hDr:(D:Rat)≠0:=fun e=>hD (by exact_mod_cast e)
 have hEr:(E:Rat)≠0:=fun e=>hE (by exact_mod_cast e)
 refine ⟨n1*k1+n2*k3,n1*k2+n2*k4,n3*k1+n4*k3,n3*k2+n4*k4,D*E,Int.mul_ne_zero hD hE,?_,?_,?_,?_,zrg h1 h2 g1 g3,zrg h1 h2 g2 g4,zrg h3 h4 g1 g3,zrg h3 h4 g2 g4,?_⟩
 ·simp only [mulQ,e1,e2,f1,f3,Rat.intCast_add,Rat.intCast_mul]
  exact zm6 hDr hEr
 ·simp only [mulQ,e1,e2,f2,f4,Rat.intCast_add,Rat.intCast_mul]
  exact zm6 hDr hEr
 ·simp only [mulQ,e3,e4,f1,f3,Rat.intCast_add,Rat.intCast_mul]
  exact zm6 hDr hEr
 ·simp only [mulQ,e3,e4,f2,f4,Rat.intCast_add,Rat.intCast_mul]
  exact zm6 hDr hEr
 ·have:=zh5 D E
  omega
theorem zr1 {b:Nat}{m:MQ}(n1 n2 n3 n4 D:Int)(hD:D≠0)(e1:m.a*(D:Rat)=(n1:Rat))(e2:m.b*(D:Rat)=(n2:Rat))(e3:m.c*(D:Rat)=(n3:Rat))(e4:m.d*(D:Rat)=(n4:Rat))(h1:lz n1≤b)(h2:lz n2≤b)(h3:lz n3≤b)(h4:lz n4≤b)(h5:lz D≤b):RepM b m:=by
 have hDr:(D:Rat)≠0:=fun e=>hD (by exact_mod_cast e)
 have key:∀ {x:Rat} {n:Int},x*(D:Rat)=(n:Rat)→x=(n:Rat)/(D:Rat):=fun h=>by rw [← h]; exact (Rat.mul_div_cancel hDr).symm
 exact ⟨n1,n2,n3,n4,D,hD,key e1,key e2,key e3,key e4,h1,h2,h3,h4,h5⟩
theorem zy2 (x:Rat):x*((x.den:Int):Rat)=(x.num:Rat):=by
 have:=nd_eq x
 have hd:=den_ne x
 generalize ((x.den:Int):Rat)=d at *
 generalize (x.num:Rat)=n at *
 grind
theorem lz_0:lz 0=0:=by kernel_rfl
theorem zma:lz 1≤1:=Nat.le_of_ble_eq_true zk
theorem rep_b {k:Nat}{x:Rat}(h:bQ k x):RepM k ⟨1,x,0,1⟩:=zr1 (x.den:Int) x.num 0 (x.den:Int) (x.den:Int) (by have:=x.den_pos; omega) (Rat.one_mul _) (zy2 x) (Rat.zero_mul _) (Rat.one_mul _) h.2 h.1 (by rw [lz_0]; omega) h.2 h.2
theorem rep_c {k:Nat}{x:Rat}(h:bQ k x):RepM k ⟨1,0,x,1⟩:=zr1 (x.den:Int) 0 x.num (x.den:Int) (x.den:Int) (by have:=x.den_pos; omega) (Rat.one_mul _) (Rat.zero_mul _) (zy2 x) (Rat.one_mul _) h.2 (by rw [lz_0]; omega) h.1 h.2 h.2
theorem rep_1:RepM 1 ⟨1,0,0,1⟩:=zr1 1 0 0 1 1 zd (by grind) (by grind) (by grind) (by grind) zma (by rw [lz_0]; omega) (by rw [lz_0]; omega) zma zma
theorem rep_f:RepM 1 ⟨0-1,0-0,0-0,0-1⟩:=zr1 (-1) 0 0 (-1) 1 zd (by grind) (by grind) (by grind) (by grind) nq (by rw [lz_0]; omega) (by rw [lz_0]; omega) nq zma
theorem zim {b c:Nat}{m:MQ}(h:RepM b m)(hc:b≤c):RepM c m:=by
 obtain ⟨n1,n2,n3,n4,D,hD,e1,e2,e3,e4,h1,h2,h3,h4,h5⟩:=h
 exact ⟨n1,n2,n3,n4,D,hD,e1,e2,e3,e4,by omega,by omega,by omega,by omega,by omega⟩
theorem bQ_min {k:Nat}{x:Rat}(h:bQ k x):bQ k (0-x):=by
 have e:0-x = -x:=by grind
 rw [e]
 exact ⟨by rw [Rat.neg_num,zi9]; exact h.1,by rw [Rat.neg_den]; exact h.2⟩
theorem bQ_div {c d:Nat}{x y:Rat}(hx:bQ c x)(hy:bQ d y)(h0:y≠0):bQ (c+d) (x/y):=by
 rw [← zpf]
 obtain ⟨h1,h2⟩:=zgq (p:=x.num*(y.den:Int)) (zwb x h0)
 have h3:=zh5 x.num (y.den:Int)
 have h4:=zh5 (x.den:Int) y.num
 obtain ⟨x1,x2⟩:=hx
 obtain ⟨y1,y2⟩:=hy
 exact ⟨by omega,by omega⟩
theorem okX_bQ {x:RF}(h:okX x=true):bQ 2048 (toQ x):=(okX_q h).2
theorem zn3 {x:RE}(h:elF x=true):[x.p,x.q].all okX=true∧(x.k=1∨x.k=2∨(x.k=3∧toQ x.q≠0)∨x.k=4∨x.k=5):=by
 unfold elF at h
 rw [Bool.and_eq_true] at h
 refine ⟨h.1,?_⟩
 have h2:=h.2
 by_cases h1:x.k=1
 ·exact .inl h1
 ·by_cases h3:x.k=2
  ·exact .inr (.inl h3)
  ·by_cases h4:x.k=3
   ·rw [kd3 (by simpa using h1) (by simpa using h3) (by simpa using h4),Bool.and_eq_true] at h2
    refine .inr (.inr (.inl ⟨h4,fun e=>?_⟩))
    rw [e] at h2
    have:=of_decide_eq_true h2.2
    exact absurd this zd
   ·by_cases h5:x.k=4
    ·exact .inr (.inr (.inr (.inl h5)))
    ·rw [kd5 (by simpa using h1) (by simpa using h3) (by simpa using h4) (by simpa using h5)] at h2
     simp only [Bool.and_eq_true,beq_iff_eq] at h2
     exact .inr (.inr (.inr (.inr h2.1.1)))
theorem el_rep {x:RE}(h:elF x=true):RepM 4096 (elM x):=by
 obtain ⟨hx,hk⟩:=zn3 h
 simp only [List.all_cons,List.all_nil,Bool.and_true,Bool.and_eq_true] at hx
 have bp:=okX_bQ hx.1
 have bq:=okX_bQ hx.2
 unfold elM
 rcases hk with hk | hk | ⟨hk,h0⟩ | hk | hk <;> rw [hk]
 ·exact zim (rep_b bp) zd
 ·exact zim (rep_c (bQ_min bp)) zd
 ·exact rep_b (bQ_div bp bq h0)
 ·exact rep_c (bQ_min (bQ_mul bp bq))
 ·exact zim rep_f zd
theorem zpj {xs:List RE}{j:Nat}(h:j<xs.length):prodQ (xs.take (j+1))=mulQ (elM xs[j]) (prodQ (xs.take j)):=by
 rw [List.take_succ_eq_append_getElem h]
 unfold prodQ
 rw [List.foldl_append]
 rfl
theorem zlr {xs:List RE}(h:xs.all elF=true):∀ j,j≤xs.length→RepM (1+4097*j) (prodQ (xs.take j))
 | 0,_=>rep_1
 | j+1,hj=>by
  rw [zpj zo]
  exact zim (rep_mul (el_rep (List.all_eq_true.1 h _ (List.getElem_mem zo))) (zlr h j zo)) zo
theorem qa_bQ {k k':Nat}{x:Rat}(h:bQ k' x):WkA (QA k x) (QA k' x):=qaA.trans (qa_of h.1 h.2)
theorem zr5 {k k':Nat}{m:MQ}(h:RepM k' m):WkA (QMA k m) (QMA k' m):=by
 obtain ⟨h1,h2,h3,h4⟩:=rep_bQ h
 exact zc8 (.cons (qa_bQ h1) (.cons (qa_bQ h2) (.cons (qa_bQ h3) (.cons (qa_bQ h4) .nil))))
theorem re_k {x:RE}{k:Int}(h:x.k=k)(hx:[x.p,x.q].all okX=true):Wk (REA x).va (QEA 2048 k (toQ x.p) (toQ x.q)).va:=by subst h; exact (el_q hx).va
theorem rowOf_c {x:RE}(h:elF x=true):Cn Tryz.prog 86 [(REA x).va] (QMA 4099 (elM x)).va:=by
 obtain ⟨hx,hk⟩:=zn3 h
 unfold elM
 rcases hk with hk | hk | ⟨hk,h0⟩ | hk | hk <;> rw [hk]
 ·exact rowOfK1.wk (.cons (re_k hk hx) .nil)
 ·exact rowOfK2.wk (.cons (re_k hk hx) .nil)
 ·exact (rowOfK3 h0).wk (.cons (re_k hk hx) .nil)
 ·exact rowOfK4.wk (.cons (re_k hk hx) .nil)
 ·exact rowOfK5.wk (.cons (re_k hk hx) .nil)
theorem ch_ok {xs:List RE}(h:chF xs=0):xs.length≤4096∧xs.all elF=true:=by
 unfold chF at h
 by_cases h1:xs.length>4096
 ·rw [if_pos h1] at h; exact absurd h zd
 ·rw [if_neg h1] at h
  cases h2:xs.all elF with
  | true=>exact ⟨by omega,rfl⟩
  | false=>rw [h2] at h; exact absurd h zd
set_option maxHeartbeats 2000000 in
theorem zpb {xs:List RE}(h4:xs.length≤4096)(hx:xs.all elF=true):Cn Tryz.prog 18 [(SlA 64 [U32] (xs.map REA)).va] ((QMA 16781313 (prodQ xs)).va):=by
 refine Cn.introF Tryz.func18 rfl zk nq (fun B w0 a hF O=>?_)
 have O:=zn [(0,(SlA 64 [U32] (xs.map REA)).va)] [] O
 obtain ⟨v0,hv0,O⟩:=St.eqv O 0 rfl
 have hr:=zlr hx
 refine wp_seq<|zg [] [⟨2,32,ptrH,some 0,_,none⟩] [.alc 0] [.g 0] O (oc (zaq rfl rfl rfl (Str.zero zar)) o0) (zz [(0,_)] [⟨2,32,ptrH,_⟩] fun a w O=>?_)
 refine zt<|zg [none] [⟨3,32,ptrH,some 1,_,some (2,_)⟩] [.val 6 _,.alc 1,.sto 1] [.g 0] O (zv rfl (za5 (xs:=[]) zg1 .nil) (oc (zaq rfl rfl rfl (Str.zero zar)) (oc (zac rfl rfl rfl (vq 0 rfl) zb2 (Eq.trans (b:=16) rfl rfl)) o0))) (zz [(0,_)] [⟨2,32,ptrH,_⟩,⟨3,32,ptrH,_⟩] fun a w O=>?_)
 refine zt<|wp_seq<|zg [none,none] [] [.val 7 _,.val 8 _,.val 9 _] [.o 0,.o 1,.o 2] O (zv rfl (za2 (gq 0 rfl)) (zv rfl (zbq Tryz.underlying22 (zcb hF hv0 (vq 0 rfl))) (zv rfl (za2 za3) o0))) (zz [(7,_),(8,_),(9,_)] [⟨2,32,ptrH,_⟩,⟨3,32,ptrH,_⟩] fun a w O=>?_)
 refine za0<|wp_block ?_
 have O:=St.sel O [0,1,2]
 refine wp_loop_ghost (fun n a w=>∃ j:Nat,n+j=xs.length∧St B w0 19 [(7,EqV v0),(8,In (xs.length:Nat)),(9,In (j:Nat))] [⟨2,32,ptrH,RMA rm0⟩,⟨3,32,ptrH,QMA (1+4097*j) (prodQ (xs.take j))⟩] a w) (xs.length) ?_ ?_
 ·rw [List.length_map] at O
  exact ⟨0,by omega,St.wkL O 1 rfl (zr5 rep_1)⟩
 intro n a w hI
 obtain ⟨j,hn,O⟩:=hI
 refine wp_seq<|zg [none,none] [] [.val 10 _] [.g 0,.g 1,.g 2,.o 0] O (zv rfl (zb6 (gq 2 rfl) (gq 1 rfl)) o0) (zz [(7,_),(8,_),(9,_),(10,_)] [⟨2,32,ptrH,_⟩,⟨3,32,ptrH,_⟩] fun a w O=>?_)
 refine zt<|za9 O (zm 3 rfl) (fun hb0=>?_) (fun hb0=>?_)
 ·have hj:j<xs.length:=by simp at hb0; omega
  refine wp_skip<|zt<|wp_block<|wp_seq<|zg [none,none] [⟨5,64,ptrH,some 2,_,some (3,_)⟩] [.val 11 _,.val 12 _,.alc 2,.sto 2] [.g 0,.g 1,.g 2] O (zv rfl (zdv zgw (zie fun _=>rfl) (zcb hF hv0 (gq 0 rfl)) (gq 2 rfl) (zfb hj)) (zv rfl (zaj (vq 0 rfl) zed) (oc (zaq rfl rfl rfl (Str.zero zfz)) (oc (zac rfl rfl rfl (vq 1 rfl) zed (Eq.trans (b:=9) rfl rfl)) o0)))) (zz [(7,_),(8,_),(9,_)] [⟨2,32,ptrH,_⟩,⟨3,32,ptrH,_⟩,⟨5,64,ptrH,_⟩] fun a w O=>?_)
  refine za0<|zgd [[],[0],[],[0,1,2],[0,1,2,3]] [none,some (4,_),none] [] [.val 13 _,.val 14 _,.val 15 _,.val 16 _,.sto 1] [.g 0,.g 1,.g 2] za6 O (zv rfl (zam (lz0 2 rfl) zed) (zv rfl (za5 (xs:=[.tmp 13]) (rowOf_c (List.all_eq_true.1 hx _ (List.getElem_mem hj))) (.cons (vq 0 rfl) .nil)) (zv rfl (zam (lz0 1 rfl) zb2) (zv rfl (za5 (xs:=[.tmp 14,.tmp 15]) (zhm (c:=4099) (d:=1+4097*j) (m:=elM xs[j]) (q:=prodQ (xs.take j)) zo) (.cons (vq 1 rfl) (.cons (vq 2 rfl) .nil))) (oc (zac rfl rfl rfl (vq 3 rfl) zb2 (Eq.trans (b:=16) rfl rfl)) o0))))) zk zk zk zk (zz [(7,_),(8,_),(9,_)] [⟨2,32,ptrH,_⟩,⟨3,32,ptrH,_⟩,⟨5,64,ptrH,_⟩] fun a w O=>?_)
  refine zal ?_
  refine za0<|zg [none,none,none] [] [.val 17 _,.val 9 _] [.g 0,.g 1,.o 1] O (zv rfl (zbb (gq 2 rfl) za3 ((wi64 zo zo).trans (by omega:(_:Int)=((j+1:Nat):Int)))) (zv rfl (za2 (vq 0 rfl)) o0)) (zz [(7,_),(8,_),(9,_)] [⟨2,32,ptrH,_⟩,⟨3,32,ptrH,_⟩,⟨5,64,ptrH,_⟩] fun a w O=>?_)
  refine za0 ?_
  have O:=St.sel O [0,1,2]
  have O:=St.selL O [0,1]
  have O:=St.wkL (A':=QMA (1+4097*(j+1)) (prodQ (xs.take (j+1)))) O 1 rfl ((zi4 (congrArg (QMA _) (zpj hj).symm)).trans (zr5 (hr (j+1) zo)))
  exact ⟨n-1,by omega,j+1,by omega,O⟩
 ·obtain rfl:j=xs.length:=by simp at hb0; omega
  refine wp_exit<|za8<|za8<|zat<|zt<|zg [some (1,_),none] [] [.val 18 _,.sto 0] [] O (zv rfl (zam (lz0 1 rfl) zb2) (oc (zac rfl rfl rfl (vq 0 rfl) zb2 (Eq.trans (b:=16) rfl rfl)) o0)) (zz [] [⟨2,32,ptrH,_⟩,⟨3,32,ptrH,_⟩] fun a w O=>?_)
  refine za0<|wp_ret<|zae ?_ (zak rfl O (zm 0 rfl) zb2)
  rw [List.take_length]; exact (zc8 (.cons (zbg zo) (.cons (zbg zo) (.cons (zbg zo) (.cons (zbg zo) .nil))))).va
end Go.Proofs.YtndjeibbjjpkfaaGreatDoor
namespace Go.Proofs.YtndjeibbjjpkfaaGreatDoor
open Go Go.RowKit
end Go.Proofs.YtndjeibbjjpkfaaGreatDoor
namespace Go.Proofs.YtndjeibbjjpkfaaGreatDoor
open Go Go.RowKit
open Go.ChangeShapes Go.WideShapes Go.ChangeAt
theorem all2_apx {α β:Type}{R':α→β→Prop}{l1 l2:List α}{m1 m2:List β}(h:All2 R' l1 m1)(h':All2 R' l2 m2):All2 R' (l1++l2) (m1++m2):=by
 induction h with
 | nil=>exact h'
 | cons h1 _ ih=>exact .cons h1 ih
theorem cat_apx {l l':List As}{B:Nat}{ds ds':List Value}{w:World}(h:(cat l).p B ds w)(h':(cat l').p B ds' w):(cat (l++l')).p B (ds++ds') w:=by
 obtain ⟨ps,rfl,h1⟩:=h
 obtain ⟨ps',rfl,h2⟩:=h'
 exact ⟨ps++ps',by simp,all2_apx h1 h2⟩
theorem cat_onex {A:As}{B:Nat}{ds:List Value}{w:World}(h:A.p B ds w):(cat [A]).p B ds w:=⟨[ds],by simp,.cons h .nil⟩
section
variable {H:Type} {enc:TypeId × Value→H} {w:World} {base:Nat} {spare:Nat→Bool} {held:Bool} {fuel:Nat} {cs:List Value} {x:DataW H × List MemPlace}
end
end Go.Proofs.YtndjeibbjjpkfaaGreatDoor
namespace Go.Proofs.YtndjeibbjjpkfaaGreatDoor
open Go Go.RowKit
open Go.ChangeShapes Go.WideShapes Go.ChangeAt
theorem zy8 {B:Nat}{cs:List Value}{w:World}{A0 A1 A2:As}(h0:A0.p B ((cs.drop 0).take A0.n) w)(h1:A1.p B ((cs.drop A0.n).take A1.n) w)(h2:A2.p B ((cs.drop (A0.n+A1.n)).take A2.n) w)(hl:cs.length=A0.n+(A1.n+A2.n)):(cat [A0,A1,A2]).p B cs w :=
 zya (by simpa using hl) fun k A hk=>by
  match k,hk with
  | 0,hk=>simp at hk; subst hk; exact h0
  | 1,hk=>simp at hk; subst hk; simpa [offs] using h1
  | 2,hk=>simp at hk; subst hk; simpa [offs] using h2
section
variable {H:Type} {enc:TypeId × Value→H} {w:World} {base:Nat} {spare:Nat→Bool} {held:Bool} {fuel:Nat} {cs:List Value} {x:DataW H × List MemPlace}
end
end Go.Proofs.YtndjeibbjjpkfaaGreatDoor
namespace Go.Proofs.YtndjeibbjjpkfaaGreatDoor
open Go Go.RowKit
abbrev VL:=List (Value × Nat)
def FrK (n:Nat)(M:List Slt)(Es:VL):Prop:=M.map (fun s=>(s.v,s.xs.length))=Es∧∀ s∈M,s.u=s.v∧s.ys=s.xs∧s.z=.slice none 0 0∧s.n≤n
def FrL (n:Nat)(L:List Slot)(K:KL):Prop:=L.map (fun s=>(s.v,s.xs))=K∧∀ s∈L,s.u=s.v∧s.ys=s.xs∧s.z=.slice none 0 0∧s.n≤n
def KsP (K:KL)(Rs Es:VL)(X:BkRest)(L:List Slot):Prop:=X.n=K.length+Rs.length+Es.length∧X.N=[]∧FrL X.n L K∧FrK X.n X.R Rs∧FrK X.n X.M Es
def BkF (K:KL)(Rs Es:VL):As:=BqE (KsP K Rs Es)
theorem ziy {n m:Nat}{M:List Slt}{Es:VL}(h:FrK n M Es)(hn:n≤m):FrK m M Es:=⟨h.1,fun s hs=>⟨(h.2 s hs).1,(h.2 s hs).2.1,(h.2 s hs).2.2.1,Nat.le_trans (h.2 s hs).2.2.2 hn⟩⟩
theorem zs4 {n m:Nat}{M:List Slot}{Es:KL}(h:FrL n M Es)(hn:n≤m):FrL m M Es:=⟨h.1,fun s hs=>⟨(h.2 s hs).1,(h.2 s hs).2.1,(h.2 s hs).2.2.1,Nat.le_trans (h.2 s hs).2.2.2 hn⟩⟩
theorem frK_add {n m a:Nat}{M:List Slt}{Es:VL}{v:Value}{ds:List Value}(h:FrK n M Es):FrK (n+1) (M++[newK m v a ds (n+1)]) (Es++[(v,a)]):=by
 refine ⟨?_,fun s hs=>?_⟩
 ·rw [List.map_append,h.1]
  show Es++[(v,(chunks m a ds).length)]=_
  rw [zla]
 ·rcases List.mem_append.1 hs with hs | hs
  ·exact (ziy h (Nat.le_succ n)).2 s hs
  ·obtain rfl:=List.mem_singleton.1 hs
   exact ⟨rfl,rfl,rfl,Nat.le_refl _⟩
theorem frL_add {n:Nat}{L:List Slot}{K:KL}{v:Value}{xs:List Nat}(h:FrL n L K):FrL (n+1) (L++[newS v xs (n+1)]) (K++[(v,xs)]):=by
 refine ⟨by rw [List.map_append,h.1]; rfl,fun s hs=>?_⟩
 rcases List.mem_append.1 hs with hs | hs
 ·exact (zs4 h (Nat.le_succ n)).2 s hs
 ·obtain rfl:=List.mem_singleton.1 hs
  exact ⟨rfl,rfl,rfl,Nat.le_refl _⟩
theorem CK.exT {P : Program} {α : Type} {f : FuncId} {T : TypeId} {Ts : List TypeId} {A0 A1 : As} {A : α → As} {c : α → Prop} {pre : List VA} {post : VA} (hex : ∃ fn, P.funcs[f]? = some fn ∧ (fn.name == "runtime.NumGoroutine") = false ∧ fn.body.isNone = false) (h : ∀ x, c x → CK P f T Ts (A x) A1 pre post) (hp : ∀ B cs w, A0.p B cs w → ∃ x, c x ∧ (A x).p B cs w) : CK P f T Ts A0 A1 pre post :=
 ⟨hex,fun B w g cs args hB hg hp0 ha=>by
  obtain ⟨x,hc,hx⟩:=hp B cs w hp0
  exact (h x hc).2 B w g cs args hB hg hx ha⟩
theorem zme {α β:Type}{f:α→β}{l:List α}{m:List β}(h:l.map f=m):l.length=m.length:=by rw [← h,List.length_map]
theorem sep_l {n:Nat}{L:List Slot}{K:KL}{v:Value}(h:FrL n L K)(hs:∀ p∈K,∀ g,p.1.ownBlock=some g→v.ownBlock≠some g):∀ t∈L,∀ g,t.has g→v.ownBlock≠some g:=fun t ht g hg=>by
 obtain ⟨e1,_,_,_⟩:=h.2 t ht
 have hv:t.v.ownBlock=some g:=by
  rcases hg with hg | hg
  ·exact hg
  ·rwa [e1] at hg
 exact hs (t.v,t.xs) (by rw [← h.1]; exact List.mem_map.2 ⟨t,ht,rfl⟩) g hv
theorem sep_k {n:Nat}{L:List Slt}{K:VL}{v:Value}(h:FrK n L K)(hs:∀ p∈K,∀ g,p.1.ownBlock=some g→v.ownBlock≠some g):∀ t∈L,∀ g,t.has g→v.ownBlock≠some g:=fun t ht g hg=>by
 obtain ⟨e1,_,_,_⟩:=h.2 t ht
 have hv:t.v.ownBlock=some g:=by
  rcases hg with hg | hg
  ·exact hg
  ·rwa [e1] at hg
 exact hs (t.v,t.xs.length) (by rw [← h.1]; exact List.mem_map.2 ⟨t,ht,rfl⟩) g hv
theorem keepLF_c (K:KL)(Rs Es:VL)(v:Value)(xs:List Nat)(hsep:∀ p∈K,∀ g,p.1.ownBlock=some g→v.ownBlock≠some g)(hl:K.length+Rs.length+Es.length≤1000000):CK Tryz.prog 175 55 [55,97] (BkF K Rs Es) (BkF (K++[(v,xs)]) Rs Es) [(PinA v (MgN xs)).va] (Tu []) :=
 CK.exT (c:=fun x:BkRest × Value × List Slot=>KsP K Rs Es x.1 x.2.2) (A:=fun x=>BqA x.1 x.2.1 x.2.2) (zwx ⟨0,undef,[],undef,[],undef,[]⟩ undef v xs [] (fun t ht=>by cases ht) zd zd).1
  (fun x hx=>(zwx x.1 x.2.1 v xs x.2.2 (sep_l hx.2.2.1 hsep) (by have:=zme hx.2.2.1.1; omega) (by have:=hx.1; omega)).wk fun B cs w ⟨X,vr,L,hp,h⟩=>by
   obtain ⟨h1,h2,h3,h4,h5⟩:=hp
   obtain ⟨k1,k2,k3,k4,k5⟩:=hx
   refine ⟨X,vr,L,⟨by rw [h1,k1,List.length_append]; simp; omega,h2.trans k2,?_,?_,?_⟩,h⟩
   ·rw [h1,h5]; exact frL_add k3
   ·rw [h1,h3]; exact ziy k4 (Nat.le_succ _)
   ·rw [h1,h4]; exact ziy k5 (Nat.le_succ _)) fun B cs w ⟨X,vr,L,hp,h⟩=>⟨(X,vr,L),hp,h⟩
theorem keepEF_c (K:KL)(Rs Es:VL)(v:Value)(na:Nat)(hsep:∀ p∈Es,∀ g,p.1.ownBlock=some g→v.ownBlock≠some g)(hl:K.length+Rs.length+Es.length≤1000000):CK Tryz.prog 29 55 [55,95] (BkF K Rs Es) (BkF K Rs (Es++[(v,na)])) [OwV 64 9 v na] (Tu []) :=
 CK.exT (c:=fun x:BkRest × Value × List Slot=>KsP K Rs Es x.1 x.2.2) (A:=fun x=>BqA x.1 x.2.1 x.2.2) (zwz ⟨0,undef,[],undef,[],undef,[]⟩ undef v na [] (fun t ht=>by cases ht) zd zd).1
  (fun x hx=>(zwz x.1 x.2.1 v na x.2.2 (sep_k hx.2.2.2.2 hsep) (by have:=zme hx.2.2.2.2.1; omega) (by have:=hx.1; omega)).wk fun B cs w ⟨X,vr,L,hp,h⟩=>by
   obtain ⟨h1,h2,h3,h4,es,_,h5⟩:=hp
   obtain ⟨k1,k2,k3,k4,k5⟩:=hx
   refine ⟨X,vr,L,⟨by rw [h1,k1,List.length_append]; simp; omega,h2.trans k2,?_,?_,?_⟩,h⟩
   ·rw [h1,h4]; exact zs4 k3 (Nat.le_succ _)
   ·rw [h1,h3]; exact ziy k4 (Nat.le_succ _)
   ·rw [h1,h5]; exact frK_add k5) fun B cs w ⟨X,vr,L,hp,h⟩=>⟨(X,vr,L),hp,h⟩
theorem new_l {n:Nat}{L:List Slot}{K:KL}{B:Nat}{w:World}{vr:Value}{c:List Value}(h:FrL n L K)(hn:n≤1000000)(hp:(HbA vr L).p B c w)(hok:∀ p∈K,okL p.2∧p.2.length≤2000000000000):∀ s∈L,s.new:=fun s hs=>by
 obtain ⟨e1,e2,e3,e4⟩:=h.2 s hs
 have hm:(s.v,s.xs)∈K:=by rw [← h.1]; exact List.mem_map.2 ⟨s,hs,rfl⟩
 obtain ⟨o1,o2⟩:=hok _ hm
 exact { rv:=(hp.2.2.1 s hs).2.1,ox:=o1,oy:=by rw [e2]; exact o1,z1:=by rw [e3]; rfl,n1:=by omega,lx:=o2,uv:=e1,yx:=e2 }
theorem new_k {H E m n:Nat}{L:List Slt}{K:VL}{B:Nat}{w:World}{vr:Value}{c:List Value}(h:FrK n L K)(hn:n≤1000000)(hp:(HkA H E m vr L).p B c w)(hok:∀ p∈K,p.2≤2000000000):∀ s∈L,s.new:=fun s hs=>by
 obtain ⟨e1,e2,e3,e4⟩:=h.2 s hs
 have hm:(s.v,s.xs.length)∈K:=by rw [← h.1]; exact List.mem_map.2 ⟨s,hs,rfl⟩
 exact { rv:=(hp.2.2.1 s hs).2.1,z1:=by rw [e3]; rfl,n1:=by omega,lx:=hok _ hm,uv:=e1,yx:=e2 }
theorem apartF_c (K:KL)(Rs Es:VL)(hK:∀ p∈K,okL p.2∧p.2.length≤2000000000000)(hR:∀ p∈Rs,False)(hE:∀ p∈Es,p.2≤2000000000)(hl:K.length+Rs.length+Es.length≤1000000):CK Tryz.prog 13 55 [55,97,98,129,131,95,64] (BkF K Rs Es) JkA [] (Bo true) :=
 CK.exT (c:=fun x:BkRest × Value × List Slot=>KsP K Rs Es x.1 x.2.2∧(∀ s∈x.2.2,s.new)∧x.1.R=[]∧(∀ s∈x.1.M,s.new)) (A:=fun x=>BqA x.1 x.2.1 x.2.2)
  (zyj ⟨0,undef,[],undef,[],undef,[]⟩ undef [] (fun s hs=>by cases hs) zd rfl rfl (fun s hs=>by cases hs) zd).1
  (fun x hx=>zyj x.1 x.2.1 x.2.2 hx.2.1 (by have:=zme hx.1.2.2.1.1; omega) hx.1.2.1 hx.2.2.1 hx.2.2.2 (by have:=zme hx.1.2.2.2.2.1; omega))
  fun B cs w ⟨X,vr,L,hp,h⟩=>by
   obtain ⟨⟨c1,h1⟩,_,⟨c3,h3⟩,⟨c4,h4⟩⟩:=zd3 h
   have hn:X.n≤1000000:=by have:=hp.1; omega
   exact ⟨(X,vr,L),⟨hp,new_l hp.2.2.1 hn h1 hK,List.map_eq_nil_iff.1 (hp.2.2.2.1.1.trans (List.eq_nil_iff_forall_not_mem.2 hR)),new_k hp.2.2.2.2 hn h4 hE⟩,h⟩
theorem nd_sep {K:KL}{v:Value}{xs:List Nat}(h:(kbl (K++[(v,xs)])).Nodup):∀ p∈K,∀ g,p.1.ownBlock=some g→v.ownBlock≠some g:=fun p hp g hg hv=>by
 rw [kbl_app] at h
 have h2:=(List.nodup_append.1 h).2.2
 have m1:g∈kbl K:=List.mem_filterMap.2 ⟨p,hp,hg⟩
 have m2:g∈kbl [(v,xs)]:=List.mem_filterMap.2 ⟨(v,xs),by simp,hv⟩
 exact h2 g m1 g m2 rfl
theorem zl3 {K l:KL}(h:(kbl (K++l)).Nodup):(kbl K).Nodup:=by
 rw [kbl_app] at h
 exact (List.nodup_append.1 h).1
def EleP (x:RE)(m:Nat→Value):As:=cat [NumA .u8 x.k,FracP x.p (m 0) (m 1),FracP x.q (m 2) (m 3)]
abbrev ke (x:RE)(m:Nat→Value):KL:=kf x.p (m 0) (m 1)++kf x.q (m 2) (m 3)
theorem zrk (x:RI)(m:Value)(K:KL)(Rs Es:VL)(hs:(kbl (K++[(m,x.mag)])).Nodup)(hl:K.length+Rs.length+Es.length≤999999):CK Tryz.prog 99 55 [55,97] (BkF (K) Rs Es) (BkF (K++([(m,x.mag)])) Rs Es) [(IntP x m).va] (Tu []):=by
 refine CK.intro Tryz.func99 rfl zk nq zk (fun B g w0 a hrm O=>?_)
 have O:=zn [(0,EqV ((ptrH).f g)),(1,(IntP x m).va)] [⟨0,55,ptrH,BkF (K) Rs Es⟩] O
 refine wp_seq<|zg [none] [⟨3,28,ptrH,some 0,_,none⟩] [.alc 1] [.g 0] O (oc (zan rfl rfl rfl (gq 1 rfl)) o0) (zz [(0,_)] [⟨0,55,ptrH,_⟩,⟨3,28,ptrH,_⟩] fun a w O=>?_)
 refine za0<|zc7 (sp:=[.val 4 _,.adr 5 3 (.some 1) True,.val 6 _,.val 7 VT]) 3 1 99 3 OneC [.g 0,.o 0,.o 2] O (zv rfl (za2 (gq 0 rfl)) (oc (ob_a rfl rfl (za7 (lz0 1 rfl) zao)) (zv rfl (za4 1 rfl zk trivial (lz0 1 rfl) (Sub.part 1 rfl rfl) zbd) o0))) rfl zd zk zk (zz [(0,_),(4,_),(6,_)] [⟨0,55,ptrH,_⟩,⟨3,28,ptrH,_⟩] fun a w O=>?_)
 rw [show List.range' 3 1=[3] from rfl]
 rw [wpOps_cons]
 refine zd8 (A1:=BkF (K++[(m,x.mag)]) Rs Es) (xs:=[.tmp 6]) [0] [2] 0 rfl O (keepLF_c K Rs Es m x.mag (nd_sep hs) zo) rfl (Eq.trans (b:=ptr g) (O.vals _ (zm 1 rfl)) (Eq.symm (O.vals _ (zm 0 rfl)))) (.cons ⟨_,rfl,rfl⟩ .nil) rfl hrm zd zk zk zk zk (fun a w O=>?_)
 refine zbs ?_
 have O:=St.cvA (A':=BkF (K++([(m,x.mag)])) Rs Es) O 0 rfl (congrArg (fun k=>BkF k Rs Es) (by simp [List.append_assoc]))
 have O:=zn [(7,_),(0,_)] [⟨0,55,ptrH,BkF (K++([(m,x.mag)])) Rs Es⟩,⟨3,28,ptrH,_⟩] O
 refine zcs<|zgb O (zm 1 rfl) (zm 0 rfl) ?_
 exact zb1 (rs:=[]) rfl O .nil zd
theorem zg4 (x:RF)(m1 m2:Value)(K:KL)(Rs Es:VL)(hs:(kbl (K++([(m1,x.num.mag)]++[(m2,x.den.mag)]))).Nodup)(hl:K.length+Rs.length+Es.length≤999990):CK Tryz.prog 27 55 [55,97] (BkF (K) Rs Es) (BkF (K++([(m1,x.num.mag)]++[(m2,x.den.mag)])) Rs Es) [(FracP x m1 m2).va] (Tu []):=by
 have g1:(kbl ((K++[(m1,x.num.mag)])++[(m2,x.den.mag)])).Nodup:=by simpa [List.append_assoc] using hs
 have g0:=zl3 g1
 refine CK.intro Tryz.func27 rfl zk nq zk (fun B g w0 a hrm O=>?_)
 have O:=zn [(0,EqV ((ptrH).f g)),(1,(FracP x m1 m2).va)] [⟨0,55,ptrH,BkF (K) Rs Es⟩] O
 refine wp_seq<|zg [none] [⟨3,30,ptrH,some 0,_,none⟩] [.alc 1] [.g 0] O (oc (zan rfl rfl rfl (gq 1 rfl)) o0) (zz [(0,_)] [⟨0,55,ptrH,_⟩,⟨3,30,ptrH,_⟩] fun a w O=>?_)
 refine zt<|zc7 (sp:=[.val 4 _,.adr 5 3 (.some 0) True,.val 6 _,.val 7 VT]) 3 1 99 3 OneC [.g 0,.o 0,.o 2] O (zv rfl (za2 (gq 0 rfl)) (oc (ob_a rfl rfl (za7 (lz0 1 rfl) zbf)) (zv rfl (za4 1 rfl zk trivial (lz0 1 rfl) (Sub.part 0 rfl rfl) zaf) o0))) rfl zd zk zk (zz [(0,_),(4,_),(6,_)] [⟨0,55,ptrH,_⟩,⟨3,30,ptrH,_⟩] fun a w O=>?_)
 rw [show List.range' 3 1=[3] from rfl]
 rw [wpOps_cons]
 refine zd8 (A1:=BkF (K++[(m1,x.num.mag)]) Rs Es) (xs:=[.tmp 6]) [0] [2] 0 rfl O (zrk x.num m1 K Rs Es g0 (by (try simp only [List.length_append,List.length_cons,List.length_nil]); omega)) rfl (Eq.trans (b:=ptr g) (O.vals _ (zm 1 rfl)) (Eq.symm (O.vals _ (zm 0 rfl)))) (.cons ⟨_,rfl,rfl⟩ .nil) rfl hrm zd zk zk zk zk (fun a w O=>?_)
 refine zbs ?_
 have O:=zn [(7,_),(0,_)] [⟨0,55,ptrH,BkF (K++[(m1,x.num.mag)]) Rs Es⟩,⟨3,30,ptrH,_⟩] O
 refine za0<|zc7 (sp:=[.val 8 _,.adr 9 3 (.some 2) True,.val 10 _,.val 11 VT]) 3 1 99 3 OneC [.g 1,.o 0,.o 2] O (zv rfl (za2 (gq 1 rfl)) (oc (ob_a rfl rfl (za7 (lz0 1 rfl) zb9)) (zv rfl (za4 1 rfl zk trivial (lz0 1 rfl) (Sub.part 1 rfl rfl) zaf) o0))) rfl zd zk zk (zz [(0,_),(8,_),(10,_)] [⟨0,55,ptrH,_⟩,⟨3,30,ptrH,_⟩] fun a w O=>?_)
 rw [show List.range' 3 1=[3] from rfl]
 rw [wpOps_cons]
 refine zd8 (A1:=BkF ((K++[(m1,x.num.mag)])++[(m2,x.den.mag)]) Rs Es) (xs:=[.tmp 10]) [0] [2] 0 rfl O (zrk x.den m2 (K++[(m1,x.num.mag)]) Rs Es g1 (by (try simp only [List.length_append,List.length_cons,List.length_nil]); omega)) rfl (Eq.trans (b:=ptr g) (O.vals _ (zm 1 rfl)) (Eq.symm (O.vals _ (zm 0 rfl)))) (.cons ⟨_,rfl,rfl⟩ .nil) rfl hrm zd zk zk zk zk (fun a w O=>?_)
 refine zbs ?_
 have O:=St.cvA (A':=BkF (K++([(m1,x.num.mag)]++[(m2,x.den.mag)])) Rs Es) O 0 rfl (congrArg (fun k=>BkF k Rs Es) (by simp [List.append_assoc]))
 have O:=zn [(11,_),(0,_)] [⟨0,55,ptrH,BkF (K++([(m1,x.num.mag)]++[(m2,x.den.mag)])) Rs Es⟩,⟨3,30,ptrH,_⟩] O
 refine zcs<|zgb O (zm 1 rfl) (zm 0 rfl) ?_
 exact zb1 (rs:=[]) rfl O .nil zd
theorem zmg (x:RM)(m:Nat→Value)(K:KL)(Rs Es:VL)(hs:(kbl (K++km x m)).Nodup)(hl:K.length+Rs.length+Es.length≤999974):CK Tryz.prog 11 55 [55,97] (BkF (K) Rs Es) (BkF (K++(km x m)) Rs Es) [(MatP x m).va] (Tu []):=by
 have g3:(kbl ((((K++(kf x.a (m 0) (m 1)))++(kf x.b (m 2) (m 3)))++(kf x.c (m 4) (m 5)))++(kf x.d (m 6) (m 7)))).Nodup:=by simpa [List.append_assoc] using hs
 have g2:=zl3 g3
 have g1:=zl3 g2
 have g0:=zl3 g1
 refine CK.intro Tryz.func11 rfl zk nq zk (fun B g w0 a hrm O=>?_)
 have O:=zn [(0,EqV ((ptrH).f g)),(1,(MatP x m).va)] [⟨0,55,ptrH,BkF (K) Rs Es⟩] O
 refine wp_seq<|zg [none] [⟨3,32,ptrH,some 0,_,none⟩] [.alc 1] [.g 0] O (oc (zan rfl rfl rfl (gq 1 rfl)) o0) (zz [(0,_)] [⟨0,55,ptrH,_⟩,⟨3,32,ptrH,_⟩] fun a w O=>?_)
 refine zt<|zc7 (sp:=[.val 4 _,.adr 5 3 (.some 0) True,.val 6 _,.val 7 VT]) 3 1 99 3 OneC [.g 0,.o 0,.o 2] O (zv rfl (za2 (gq 0 rfl)) (oc (ob_a rfl rfl (za7 (lz0 1 rfl) zc2)) (zv rfl (za4 1 rfl zk trivial (lz0 1 rfl) (Sub.part 0 rfl rfl) zad) o0))) rfl zd zk zk (zz [(0,_),(4,_),(6,_)] [⟨0,55,ptrH,_⟩,⟨3,32,ptrH,_⟩] fun a w O=>?_)
 rw [show List.range' 3 1=[3] from rfl]
 rw [wpOps_cons]
 refine zd8 (A1:=BkF (K++(kf x.a (m 0) (m 1))) Rs Es) (xs:=[.tmp 6]) [0] [2] 0 rfl O (zg4 x.a (m 0) (m 1) K Rs Es g0 (by (try simp only [List.length_append,List.length_cons,List.length_nil]); omega)) rfl (Eq.trans (b:=ptr g) (O.vals _ (zm 1 rfl)) (Eq.symm (O.vals _ (zm 0 rfl)))) (.cons ⟨_,rfl,rfl⟩ .nil) rfl hrm zd zk zk zk zk (fun a w O=>?_)
 refine zbs ?_
 have O:=zn [(7,_),(0,_)] [⟨0,55,ptrH,BkF (K++(kf x.a (m 0) (m 1))) Rs Es⟩,⟨3,32,ptrH,_⟩] O
 refine zt<|zc7 (sp:=[.val 8 _,.adr 9 3 (.some 4) True,.val 10 _,.val 11 VT]) 3 1 99 3 OneC [.g 1,.o 0,.o 2] O (zv rfl (za2 (gq 1 rfl)) (oc (ob_a rfl rfl (za7 (lz0 1 rfl) zc1)) (zv rfl (za4 1 rfl zk trivial (lz0 1 rfl) (Sub.part 1 rfl rfl) zad) o0))) rfl zd zk zk (zz [(0,_),(8,_),(10,_)] [⟨0,55,ptrH,_⟩,⟨3,32,ptrH,_⟩] fun a w O=>?_)
 rw [show List.range' 3 1=[3] from rfl]
 rw [wpOps_cons]
 refine zd8 (A1:=BkF ((K++(kf x.a (m 0) (m 1)))++(kf x.b (m 2) (m 3))) Rs Es) (xs:=[.tmp 10]) [0] [2] 0 rfl O (zg4 x.b (m 2) (m 3) (K++(kf x.a (m 0) (m 1))) Rs Es g1 (by (try simp only [List.length_append,List.length_cons,List.length_nil]); omega)) rfl (Eq.trans (b:=ptr g) (O.vals _ (zm 1 rfl)) (Eq.symm (O.vals _ (zm 0 rfl)))) (.cons ⟨_,rfl,rfl⟩ .nil) rfl hrm zd zk zk zk zk (fun a w O=>?_)
 refine zbs ?_
 have O:=zn [(11,_),(0,_)] [⟨0,55,ptrH,BkF ((K++(kf x.a (m 0) (m 1)))++(kf x.b (m 2) (m 3))) Rs Es⟩,⟨3,32,ptrH,_⟩] O
 refine zt<|zc7 (sp:=[.val 12 _,.adr 13 3 (.some 8) True,.val 14 _,.val 15 VT]) 3 1 99 3 OneC [.g 1,.o 0,.o 2] O (zv rfl (za2 (gq 1 rfl)) (oc (ob_a rfl rfl (za7 (lz0 1 rfl) zbw)) (zv rfl (za4 1 rfl zk trivial (lz0 1 rfl) (Sub.part 2 rfl rfl) zad) o0))) rfl zd zk zk (zz [(0,_),(12,_),(14,_)] [⟨0,55,ptrH,_⟩,⟨3,32,ptrH,_⟩] fun a w O=>?_)
 rw [show List.range' 3 1=[3] from rfl]
 rw [wpOps_cons]
 refine zd8 (A1:=BkF (((K++(kf x.a (m 0) (m 1)))++(kf x.b (m 2) (m 3)))++(kf x.c (m 4) (m 5))) Rs Es) (xs:=[.tmp 14]) [0] [2] 0 rfl O (zg4 x.c (m 4) (m 5) ((K++(kf x.a (m 0) (m 1)))++(kf x.b (m 2) (m 3))) Rs Es g2 (by (try simp only [List.length_append,List.length_cons,List.length_nil]); omega)) rfl (Eq.trans (b:=ptr g) (O.vals _ (zm 1 rfl)) (Eq.symm (O.vals _ (zm 0 rfl)))) (.cons ⟨_,rfl,rfl⟩ .nil) rfl hrm zd zk zk zk zk (fun a w O=>?_)
 refine zbs ?_
 have O:=zn [(15,_),(0,_)] [⟨0,55,ptrH,BkF (((K++(kf x.a (m 0) (m 1)))++(kf x.b (m 2) (m 3)))++(kf x.c (m 4) (m 5))) Rs Es⟩,⟨3,32,ptrH,_⟩] O
 refine za0<|zc7 (sp:=[.val 16 _,.adr 17 3 (.some 12) True,.val 18 _,.val 19 VT]) 3 1 99 3 OneC [.g 1,.o 0,.o 2] O (zv rfl (za2 (gq 1 rfl)) (oc (ob_a rfl rfl (za7 (lz0 1 rfl) zc0)) (zv rfl (za4 1 rfl zk trivial (lz0 1 rfl) (Sub.part 3 rfl rfl) zad) o0))) rfl zd zk zk (zz [(0,_),(16,_),(18,_)] [⟨0,55,ptrH,_⟩,⟨3,32,ptrH,_⟩] fun a w O=>?_)
 rw [show List.range' 3 1=[3] from rfl]
 rw [wpOps_cons]
 refine zd8 (A1:=BkF ((((K++(kf x.a (m 0) (m 1)))++(kf x.b (m 2) (m 3)))++(kf x.c (m 4) (m 5)))++(kf x.d (m 6) (m 7))) Rs Es) (xs:=[.tmp 18]) [0] [2] 0 rfl O (zg4 x.d (m 6) (m 7) (((K++(kf x.a (m 0) (m 1)))++(kf x.b (m 2) (m 3)))++(kf x.c (m 4) (m 5))) Rs Es g3 (by (try simp only [List.length_append,List.length_cons,List.length_nil]); omega)) rfl (Eq.trans (b:=ptr g) (O.vals _ (zm 1 rfl)) (Eq.symm (O.vals _ (zm 0 rfl)))) (.cons ⟨_,rfl,rfl⟩ .nil) rfl hrm zd zk zk zk zk (fun a w O=>?_)
 refine zbs ?_
 have O:=St.cvA (A':=BkF (K++(km x m)) Rs Es) O 0 rfl (congrArg (fun k=>BkF k Rs Es) (by simp [List.append_assoc]))
 have O:=zn [(19,_),(0,_)] [⟨0,55,ptrH,BkF (K++(km x m)) Rs Es⟩,⟨3,32,ptrH,_⟩] O
 refine zcs<|zgb O (zm 1 rfl) (zm 0 rfl) ?_
 exact zb1 (rs:=[]) rfl O .nil zd
theorem zx0 (x:RE)(m:Nat→Value)(K:KL)(Rs Es:VL)(hs:(kbl (K++ke x m)).Nodup)(hl:K.length+Rs.length+Es.length≤999982):CK Tryz.prog 28 55 [55,97] (BkF (K) Rs Es) (BkF (K++(ke x m)) Rs Es) [(EleP x m).va] (Tu []):=by
 have g1:(kbl ((K++(kf x.p (m 0) (m 1)))++(kf x.q (m 2) (m 3)))).Nodup:=by simpa [List.append_assoc] using hs
 have g0:=zl3 g1
 refine CK.intro Tryz.func28 rfl zk nq zk (fun B g w0 a hrm O=>?_)
 have O:=zn [(0,EqV ((ptrH).f g)),(1,(EleP x m).va)] [⟨0,55,ptrH,BkF (K) Rs Es⟩] O
 refine wp_seq<|zg [none] [⟨3,64,ptrH,some 0,_,none⟩] [.alc 1] [.g 0] O (oc (zan rfl rfl rfl (gq 1 rfl)) o0) (zz [(0,_)] [⟨0,55,ptrH,_⟩,⟨3,64,ptrH,_⟩] fun a w O=>?_)
 refine zt<|zc7 (sp:=[.val 4 _,.adr 5 3 (.some 1) True,.val 6 _,.val 7 VT]) 3 1 99 3 OneC [.g 0,.o 0,.o 2] O (zv rfl (za2 (gq 0 rfl)) (oc (ob_a rfl rfl (za7 (lz0 1 rfl) zcd)) (zv rfl (za4 1 rfl zk trivial (lz0 1 rfl) (Sub.part 1 rfl rfl) zad) o0))) rfl zd zk zk (zz [(0,_),(4,_),(6,_)] [⟨0,55,ptrH,_⟩,⟨3,64,ptrH,_⟩] fun a w O=>?_)
 rw [show List.range' 3 1=[3] from rfl]
 rw [wpOps_cons]
 refine zd8 (A1:=BkF (K++(kf x.p (m 0) (m 1))) Rs Es) (xs:=[.tmp 6]) [0] [2] 0 rfl O (zg4 x.p (m 0) (m 1) K Rs Es g0 (by (try simp only [List.length_append,List.length_cons,List.length_nil]); omega)) rfl (Eq.trans (b:=ptr g) (O.vals _ (zm 1 rfl)) (Eq.symm (O.vals _ (zm 0 rfl)))) (.cons ⟨_,rfl,rfl⟩ .nil) rfl hrm zd zk zk zk zk (fun a w O=>?_)
 refine zbs ?_
 have O:=zn [(7,_),(0,_)] [⟨0,55,ptrH,BkF (K++(kf x.p (m 0) (m 1))) Rs Es⟩,⟨3,64,ptrH,_⟩] O
 refine za0<|zc7 (sp:=[.val 8 _,.adr 9 3 (.some 5) True,.val 10 _,.val 11 VT]) 3 1 99 3 OneC [.g 1,.o 0,.o 2] O (zv rfl (za2 (gq 1 rfl)) (oc (ob_a rfl rfl (za7 (lz0 1 rfl) zcg)) (zv rfl (za4 1 rfl zk trivial (lz0 1 rfl) (Sub.part 2 rfl rfl) zad) o0))) rfl zd zk zk (zz [(0,_),(8,_),(10,_)] [⟨0,55,ptrH,_⟩,⟨3,64,ptrH,_⟩] fun a w O=>?_)
 rw [show List.range' 3 1=[3] from rfl]
 rw [wpOps_cons]
 refine zd8 (A1:=BkF ((K++(kf x.p (m 0) (m 1)))++(kf x.q (m 2) (m 3))) Rs Es) (xs:=[.tmp 10]) [0] [2] 0 rfl O (zg4 x.q (m 2) (m 3) (K++(kf x.p (m 0) (m 1))) Rs Es g1 (by (try simp only [List.length_append,List.length_cons,List.length_nil]); omega)) rfl (Eq.trans (b:=ptr g) (O.vals _ (zm 1 rfl)) (Eq.symm (O.vals _ (zm 0 rfl)))) (.cons ⟨_,rfl,rfl⟩ .nil) rfl hrm zd zk zk zk zk (fun a w O=>?_)
 refine zbs ?_
 have O:=St.cvA (A':=BkF (K++(ke x m)) Rs Es) O 0 rfl (congrArg (fun k=>BkF k Rs Es) (by simp [List.append_assoc]))
 have O:=zn [(11,_),(0,_)] [⟨0,55,ptrH,BkF (K++(ke x m)) Rs Es⟩,⟨3,64,ptrH,_⟩] O
 refine zcs<|zgb O (zm 1 rfl) (zm 0 rfl) ?_
 exact zb1 (rs:=[]) rfl O .nil zd
end Go.Proofs.YtndjeibbjjpkfaaGreatDoor
