import Derived.Test.YtpnhpldlecmbdaaGreatDoorBmAa
import Derived.Test.YtpnhpldlecmbdaaGreatDoorBmAc
import Derived.Test.YtpnhpldlecmbdaaGreatDoorBmAl
import Derived.Test.YtpnhpldlecmbdaaGreatDoorBmAx
import Derived.Test.YtpnhpldlecmbdaaGreatDoorBmAz
import Derived.Laws.AppendOwn
import Derived.Laws.OwnMore
import Derived.Orders
import Derived.ProofKit
import Derived.OpenShut
import Derived.ChangeOld
import Derived.Below
import Derived.Deep.Slices
set_option linter.unusedVariables false
set_option linter.unusedSimpArgs false
set_option linter.unusedSectionVars false
set_option maxRecDepth 100000
namespace Go.Proofs.YtpnhpldlecmbdaaGreatDoor
open Go Go.RowKit
def elK (k ps qs:Int):Bool:=if k==1 then decide (ps≥0)&&(qs==0) else if k==2 then (qs==0) else if k==3 then decide (ps≥0)&&decide (qs>0) else if k==4 then true else ((k==5)&&(ps==0))&&(qs==0)
def elF (x:RE):Bool:=[x.p,x.q].all okX&&elK x.k (toQ x.p).num.sign (toQ x.q).num.sign
def elQ (k:Int)(p q:Rat):MQ:=if k=1 then ⟨1,p,0,1⟩ else if k=2 then ⟨1,0,0-p,1⟩ else if k=3 then ⟨1,p/q,0,1⟩ else if k=4 then ⟨1,0,0-p*q,1⟩ else ⟨0-1,0-0,0-0,0-1⟩
def elM (x:RE):MQ:=elQ x.k (toQ x.p) (toQ x.q)
def prodQ (xs:List RE):MQ:=xs.foldl (fun m x=>mulQ (elM x) m) ⟨1,0,0,1⟩
def chF (xs:List RE):Int:=if xs.length>4096 then 4 else if xs.all elF then 0 else 1
def benF (xs:List RE):RM × Int:=if chF xs=0 then asM 0 (prodQ xs) else (rm0,chF xs)
def be1F (x:RE):RM × Int:=if elF x then asM 0 (elM x) else (rm0,1)
theorem elF_no {x:RE}(h:(![x.p,x.q].all okX)=true):elF x=false:=by rw [Bool.not_eq_true'] at h; rw [elF,h]; rfl
theorem elF_ok {x:RE}(h:(![x.p,x.q].all okX)=false):[x.p,x.q].all okX=true∧elF x=elK x.k (toQ x.p).num.sign (toQ x.q).num.sign:=by rw [Bool.not_eq_false'] at h; exact ⟨h,by rw [elF,h]; rfl⟩
theorem el_q {x:RE}(h:[x.p,x.q].all okX=true):WkA (REA x) (QEA 2048 x.k (toQ x.p) (toQ x.q)):=by
 simp only [List.all_cons,List.all_nil,Bool.and_true,Bool.and_eq_true] at h
 exact zby (.cons (WkA.refl _) (.cons (qa_x h.1 (Nat.le_refl _)) (.cons (qa_x h.2 (Nat.le_refl _)) .nil)))
theorem zif (x:RE):UpA (REA x) (REA x):=zll (.cons (zqr _ _) (.cons (zl1 _) (.cons (zl1 _) .nil)))
theorem kd1 {k ps qs:Int}(h:(k==1)=true):elK k ps qs=(decide (ps≥0)&&(qs==0)):=by rw [elK,h]; rfl
theorem kd2 {k ps qs:Int}(h1:(k==1)=false)(h:(k==2)=true):elK k ps qs=(qs==0):=by rw [elK,h1,h]; rfl
theorem kd3 {k ps qs:Int}(h1:(k==1)=false)(h2:(k==2)=false)(h:(k==3)=true):elK k ps qs=(decide (ps≥0)&&decide (qs>0)):=by rw [elK,h1,h2,h]; rfl
theorem kd4 {k ps qs:Int}(h1:(k==1)=false)(h2:(k==2)=false)(h3:(k==3)=false)(h:(k==4)=true):elK k ps qs=true:=by rw [elK,h1,h2,h3,h]; rfl
theorem kd5 {k ps qs:Int}(h1:(k==1)=false)(h2:(k==2)=false)(h3:(k==3)=false)(h4:(k==4)=false):elK k ps qs=(((k==5)&&(ps==0))&&(qs==0)):=by rw [elK,h1,h2,h3,h4]; rfl
theorem zyj (x:RE):Cn Tryz.prog 26 [(REA x).va] (Bo (elF x)):=by
 refine Cn.intro Tryz.func26 rfl zk nq (fun B w0 a O=>?_)
 have O:=zn [(0,(REA x).va)] [] O
 refine wp_seq<|zg [] [⟨1,30,ptrH,some 0,_,none⟩] [.alc 0,.v 2 _] [.o 1] O (oc (zal rfl rfl rfl (gq 0 rfl)) (zv rfl (za2 zb0) o0)) (zz [(2,_)] [⟨1,30,ptrH,_⟩] fun a w O=>?_)
 refine zt<|wp_seq<|zg [none] [] [.adr 5 1 (.some 1) True,.v 6 _,.adr 7 1 (.some 5) True,.v 8 _,.v 9 _,.v 10 _,.v 11 _] [.g 0,.o 6] O (oc (ob_a rfl rfl (za7 (lz0 0 rfl) zc5)) (zv rfl (za4 0 rfl zk trivial (lz0 0 rfl) (Sub.part 1 rfl rfl) zap) (oc (ob_a rfl rfl (za7 (lz0 0 rfl) zci)) (zv rfl (za4 2 rfl zk trivial (lz0 0 rfl) (Sub.part 2 rfl rfl) zap) (zv rfl (zdr (D:=[U32]) (l:=[_,_]) (xs:=[.tmp 6,.tmp 8]) (zh0 zk) zks zk (n_ok zk) nq nq nq (.cons (vq 1 rfl) (.cons (vq 3 rfl) .nil)) rfl rfl) (zv rfl (za5 (xs:=[.tmp 9]) (checks_c [x.p,x.q] nq) (.cons (vq 4 rfl) .nil)) (zv rfl (zey (vq 5 rfl)) o0))))))) (zz [(2,_),(11,_)] [⟨1,30,ptrH,_⟩] fun a w O=>?_)
 refine za0<|za8 O (zm 1 rfl) (fun hb0=>?_) (fun hb0=>?_)
 ·refine wp_seq<|zg [none] [] [.v 2 _] [.o 0] O (zv rfl (za2 zb0) o0) (zz [(2,_)] [⟨1,30,ptrH,_⟩] fun a w O=>?_)
  refine za0<|wp_ret<|zak ?_
  refine zag ?_ (zah rfl O (zm 0 rfl))
  rw [elF_no hb0]; exact zbh
 ·obtain ⟨hx,he⟩:=elF_ok hb0
  have O:=St.wkL O 0 rfl (el_q hx)
  refine wp_skip<|zt<|zgd [[],[0],[0,1],[],[3],[0,1,2,3,4],[0,1,2,3,4,5],[0,1,2,3,4,5,6]] [none] [] [.adr 12 1 (.some 1) True,.v 13 _,.v 14 _,.adr 15 1 (.some 5) True,.v 16 _,.v 17 _,.v 3 _,.v 4 _] [.g 0,.o 6,.o 7] za6 O (oc (ob_a rfl rfl (za7 (lz0 0 rfl) zc5)) (zv rfl (za4 0 rfl zk trivial (lz0 0 rfl) (Sub.part 1 rfl rfl) zap) (zv rfl (za5 (xs:=[.tmp 13]) sign_q (.cons (vq 1 rfl) .nil)) (oc (ob_a rfl rfl (za7 (lz0 0 rfl) zci)) (zv rfl (za4 3 rfl zk trivial (lz0 0 rfl) (Sub.part 2 rfl rfl) zap) (zv rfl (za5 (xs:=[.tmp 16]) sign_q (.cons (vq 4 rfl) .nil)) (zv rfl (za2 (vq 2 rfl)) (zv rfl (za2 (vq 5 rfl)) o0)))))))) zk zk zk zk (zz [(2,_),(3,_),(4,_)] [⟨1,30,ptrH,_⟩] fun a w O=>?_)
  refine zt<|wp_seq<|zg [none] [] [.adr 18 1 (.some 0) True,.v 19 _] [.g 0,.g 1,.g 2,.o 1] O (oc (ob_a rfl rfl (za7 (lz0 0 rfl) zcj)) (zv rfl (za4 0 rfl zk trivial (lz0 0 rfl) (Sub.part 0 rfl rfl) zf6) o0)) (zz [(2,_),(3,_),(4,_),(19,_)] [⟨1,30,ptrH,_⟩] fun a w O=>?_)
  refine za0<|wp_block<|wp_seq<|zg [none] [] [.v 21 _,.v 20 _] [.g 0,.g 1,.g 2,.g 3,.o 1] O (zv rfl (zck (gq 3 rfl) za3) (zv rfl (za2 (vq 0 rfl)) o0)) (zz [(2,_),(3,_),(4,_),(19,_),(20,_)] [⟨1,30,ptrH,_⟩] fun a w O=>?_)
  refine za0<|za8 O (zm 4 rfl) (fun hb1=>?_) (fun hb1=>?_)
  ·refine wp_seq<|zg [none] [] [.v 22 _,.v 23 _,.v 24 _,.v 25 (Wh (_=true) _),.v 26 (Wh (_=true) _),.v 27 _,.v 2 _] [.g 1,.g 2,.o 6] O (zv rfl (za1 (gq 1 rfl)) (zv rfl (zfp (vq 0 rfl) za3) (zv rfl (za1 (vq 1 rfl)) (oc (zao rfl rfl rfl (vq 2 rfl) nq (fun hg=>za1 (gq 2 rfl))) (oc (zao rfl rfl rfl (vq 2 rfl) nq (fun hg=>zck (zad (vq 3 rfl) hg) za3)) (zv rfl (zcn (vq 2 rfl) (vq 4 rfl)) (zv rfl (za2 (vq 5 rfl)) o0))))))) (zz [(3,_),(4,_),(2,_)] [⟨1,30,ptrH,_⟩] fun a w O=>?_)
   refine za0<|wp_ret<|zbg ?_
   refine zak ?_
   refine zag ?_ (zah rfl O (zm 2 rfl))
   rw [he,kd1 hb1]; exact zbh
  ·refine wp_seq<|zg [none] [] [.v 29 _,.v 28 _] [.g 0,.g 1,.g 2,.g 3,.o 1] O (zv rfl (zck (gq 3 rfl) za3) (zv rfl (za2 (vq 0 rfl)) o0)) (zz [(2,_),(3,_),(4,_),(19,_),(28,_)] [⟨1,30,ptrH,_⟩] fun a w O=>?_)
   refine za0<|za8 O (zm 4 rfl) (fun hb2=>?_) (fun hb2=>?_)
   ·refine wp_seq<|zg [none] [] [.v 30 _,.v 31 _,.v 2 _] [.g 1,.g 2,.o 2] O (zv rfl (za1 (gq 2 rfl)) (zv rfl (zck (vq 0 rfl) za3) (zv rfl (za2 (vq 1 rfl)) o0))) (zz [(3,_),(4,_),(2,_)] [⟨1,30,ptrH,_⟩] fun a w O=>?_)
    refine za0<|wp_ret<|zbg ?_
    refine zak ?_
    refine zag ?_ (zah rfl O (zm 2 rfl))
    rw [he,kd2 hb1 hb2]; exact zbh
   ·refine wp_seq<|zg [none] [] [.v 33 _,.v 32 _] [.g 0,.g 1,.g 2,.g 3,.o 1] O (zv rfl (zck (gq 3 rfl) za3) (zv rfl (za2 (vq 0 rfl)) o0)) (zz [(2,_),(3,_),(4,_),(19,_),(32,_)] [⟨1,30,ptrH,_⟩] fun a w O=>?_)
    refine za0<|za8 O (zm 4 rfl) (fun hb3=>?_) (fun hb3=>?_)
    ·refine wp_seq<|zg [none] [] [.v 34 _,.v 35 _,.v 36 _,.v 37 (Wh (_=true) _),.v 38 (Wh (_=true) _),.v 39 _,.v 2 _] [.g 1,.g 2,.o 6] O (zv rfl (za1 (gq 1 rfl)) (zv rfl (zfp (vq 0 rfl) za3) (zv rfl (za1 (vq 1 rfl)) (oc (zao rfl rfl rfl (vq 2 rfl) nq (fun hg=>za1 (gq 2 rfl))) (oc (zao rfl rfl rfl (vq 2 rfl) nq (fun hg=>zez (zad (vq 3 rfl) hg) za3)) (zv rfl (zcn (vq 2 rfl) (vq 4 rfl)) (zv rfl (za2 (vq 5 rfl)) o0))))))) (zz [(3,_),(4,_),(2,_)] [⟨1,30,ptrH,_⟩] fun a w O=>?_)
     refine za0<|wp_ret<|zbg ?_
     refine zak ?_
     refine zag ?_ (zah rfl O (zm 2 rfl))
     rw [he,kd3 hb1 hb2 hb3]; exact zbh
    ·refine wp_seq<|zg [none] [] [.v 41 _,.v 40 _] [.g 0,.g 1,.g 2,.o 1] O (zv rfl (zck (gq 3 rfl) za3) (zv rfl (za2 (vq 0 rfl)) o0)) (zz [(2,_),(3,_),(4,_),(40,_)] [⟨1,30,ptrH,_⟩] fun a w O=>?_)
     refine za0<|za8 O (zm 3 rfl) (fun hb4=>?_) (fun hb4=>?_)
     ·refine wp_seq<|zg [none] [] [.v 2 _] [.g 1,.g 2,.o 0] O (zv rfl (za2 zb0) o0) (zz [(3,_),(4,_),(2,_)] [⟨1,30,ptrH,_⟩] fun a w O=>?_)
      refine za0<|wp_ret<|zbg ?_
      refine zak ?_
      refine zag ?_ (zah rfl O (zm 2 rfl))
      rw [he,kd4 hb1 hb2 hb3 hb4]; exact zbh
     ·refine wp_skip<|zai ?_
      refine zt<|zg [none] [] [.adr 42 1 (.some 0) True,.v 43 _,.v 44 _,.v 45 _,.v 46 (Wh (_=true) _),.v 47 (Wh (_=true) _),.v 48 _,.v 49 _,.v 50 (Wh (_=true) _),.v 51 (Wh (_=true) _),.v 52 _,.v 2 _] [.o 11] O (oc (ob_a rfl rfl (za7 (lz0 0 rfl) zcj)) (zv rfl (za4 0 rfl zk trivial (lz0 0 rfl) (Sub.part 0 rfl rfl) zf6) (zv rfl (zck (vq 1 rfl) za3) (zv rfl (za1 (vq 2 rfl)) (oc (zao rfl rfl rfl (vq 3 rfl) nq (fun hg=>za1 (gq 1 rfl))) (oc (zao rfl rfl rfl (vq 3 rfl) nq (fun hg=>zck (zad (vq 4 rfl) hg) za3)) (zv rfl (zcn (vq 3 rfl) (vq 5 rfl)) (zv rfl (za1 (vq 6 rfl)) (oc (zao rfl rfl rfl (vq 7 rfl) nq (fun hg=>za1 (gq 2 rfl))) (oc (zao rfl rfl rfl (vq 7 rfl) nq (fun hg=>zck (zad (vq 8 rfl) hg) za3)) (zv rfl (zcn (vq 7 rfl) (vq 9 rfl)) (zv rfl (za2 (vq 10 rfl)) o0)))))))))))) (zz [(2,_)] [⟨1,30,ptrH,_⟩] fun a w O=>?_)
      refine za0<|wp_ret<|zag ?_ (zah rfl O (zm 0 rfl))
      rw [he,kd5 hb1 hb2 hb3 hb4]; exact zbh
theorem all_so {α:Type}{p:α→Bool}{l:List α}{j:Nat}(h:j<l.length)(h2:p l[j]=false):l.all p=false:=List.all_eq_false.2 ⟨_,List.getElem_mem h,by simp [h2]⟩
theorem all_nx {α:Type}{p:α→Bool}{l:List α}{j:Nat}(h:j<l.length)(h1:(l.take j).all p=true)(h2:p l[j]=true):(l.take (j+1)).all p=true:=by
 rw [List.take_succ_eq_append_getElem h,List.all_append,h1]
 simp [h2]
theorem slx {E:TypeId}{D:List TypeId}{l:List As}:Wk (SlO E D l True).va (SlA E D l).va:=zcg wk_old fun _ _ _ h=>(zel h).2
theorem zlo (xs:List RE):Cn Tryz.prog 13 [(SlA 30 [U32] (xs.map REA)).va] (In (chF xs)):=by
 refine Cn.introW Tryz.func13 rfl zk nq (.cons (zpj (fun A hA=>by obtain ⟨x,_,rfl⟩:=List.mem_map.1 hA; exact zif x)).va .nil) (zfi _ _).va (fun B w0 a hB0 O=>?_)
 have O:=zn [(0,(SlO 30 [U32] (xs.map REA) True).va)] [] O
 have hl:=slO_len (O.vals (0,(SlO 30 [U32] (xs.map REA) True).va) (zm 0 rfl))
 rw [List.length_map] at hl
 refine wp_seq<|zh [.v 2 _] [.g 0,.o 0] O (zv rfl (za2 za3) o0) (zz [(0,_),(2,_)] [] fun a w O=>?_)
 refine zt<|wp_seq<|zh [.v 5 _,.v 6 _,.v 7 _] [.g 0,.g 1,.o 2] O (zv rfl (za1 (gq 0 rfl)) (zv rfl (zbq Tryz.underlying22 (zda (zaz (vq 0 rfl)))) (zv rfl (zez (vq 1 rfl) za3) o0))) (zz [(0,_),(2,_),(7,_)] [] fun a w O=>?_)
 refine za0<|za8 O (zm 2 rfl) (fun hb0=>?_) (fun hb0=>?_)
 ·have hbig:xs.length>4096:=by rw [List.length_map] at hb0; have:=of_decide_eq_true hb0; omega
  refine wp_seq<|zh [.v 2 _] [.g 0,.o 0] O (zv rfl (za2 za3) o0) (zz [(0,_),(2,_)] [] fun a w O=>?_)
  refine za0<|wp_ret<|zak ?_
  refine zag ?_ (zah rfl O (zm 1 rfl))
  rw [chF,if_pos hbig]; exact zbh
 ·have hbig:¬ xs.length>4096:=by rw [List.length_map] at hb0; have:=of_decide_eq_false hb0; omega
  refine wp_skip<|zt<|wp_seq<|zh [.v 8 _,.v 9 _,.v 10 _] [.g 1,.o 0,.o 1,.o 2] O (zv rfl (za1 (gq 0 rfl)) (zv rfl (zbq Tryz.underlying22 (zda (zaz (vq 0 rfl)))) (zv rfl (za1 za3) o0))) (zz [(2,_),(8,_),(9,_),(10,_)] [] fun a w O=>?_)
  refine za0<|wp_block ?_
  have O:=St.sel O [1,2,3]
  refine wp_loop_ghost (fun n a w=>∃ j:Nat,(n+j=xs.length∧(xs.take j).all elF=true)∧St B w0 18 [(8,(SlO 30 [U32] (xs.map REA) True).va),(9,In (xs.length:Nat)),(10,In (j:Nat))] [] a w) (xs.length) ?_ ?_
  ·exact ⟨0,⟨by omega,rfl⟩,by rw [List.length_map] at O; exact O⟩
  intro n a w hI
  obtain ⟨j,⟨hn,hno⟩,O⟩:=hI
  refine wp_seq<|zh [.v 11 _] [.g 0,.g 1,.g 2,.o 0] O (zv rfl (zb4 (gq 2 rfl) (gq 1 rfl)) o0) (zz [(8,_),(9,_),(10,_),(11,_)] [] fun a w O=>?_)
  refine zt<|za8 O (zm 3 rfl) (fun hb1=>?_) (fun hb1=>?_)
  ·have hj:j<xs.length:=by simp at hb1; omega
   refine wp_skip<|zt<|wp_block<|wp_seq<|zg [] [⟨4,30,ptrH,some 2,_,some (3,_)⟩] [.v 12 _,.v 13 _,.alc 0,.sto 0] [.g 0,.g 1,.g 2] O (zv rfl (ze7 zh6 (ziq fun _=>rfl) (zda (zaz (gq 0 rfl))) (gq 2 rfl) (zfm hj)) (zv rfl (zae (vq 0 rfl) zd8) (oc (zam rfl rfl rfl (Str.zero zf8)) (oc (zaa rfl rfl rfl (vq 1 rfl) zd8 (Eq.trans (b:=9) rfl rfl)) o0)))) (zz [(8,_),(9,_),(10,_)] [⟨4,30,ptrH,_⟩] fun a w O=>?_)
   refine zt<|zg [none] [] [.v 14 _,.v 15 _,.v 16 _] [.g 0,.g 1,.g 2,.o 2] O (zv rfl (zaq (lz0 0 rfl) zd8) (zv rfl (za5 (xs:=[.tmp 14]) (zyj _) (.cons (vq 0 rfl) .nil)) (zv rfl (zey (vq 1 rfl)) o0))) (zz [(8,_),(9,_),(10,_),(16,_)] [⟨4,30,ptrH,_⟩] fun a w O=>?_)
   refine za0<|za8 O (zm 3 rfl) (fun hb2=>?_) (fun hb2=>?_)
   ·refine wp_seq<|zg [none] [] [.v 2 _] [.g 0,.g 1,.g 2,.o 0] O (zv rfl (za2 za3) o0) (zz [(8,_),(9,_),(10,_),(2,_)] [⟨4,30,ptrH,_⟩] fun a w O=>?_)
    refine za0<|wp_ret<|zbg ?_
    refine zak ?_
    refine zak ?_
    refine zbg ?_
    refine zak ?_
    refine zag ?_ (zah rfl O (zm 3 rfl))
    rw [chF,if_neg hbig,all_so hj (by simpa using hb2)]; exact zbh
   ·refine wp_skip<|zai ?_
    refine za0<|zg [none] [] [.v 17 _,.v 10 _] [.g 0,.g 1,.o 1] O (zv rfl (zba (gq 2 rfl) za3 ((wi64 zo zo).trans (by omega:(_:Int)=((j+1:Nat):Int)))) (zv rfl (za1 (vq 0 rfl)) o0)) (zz [(8,_),(9,_),(10,_)] [⟨4,30,ptrH,_⟩] fun a w O=>?_)
    refine za0 ?_
    have O:=St.sel O [0,1,2]
    have O:=St.selL O []
    exact ⟨n-1,by omega,j+1,⟨by omega,all_nx hj hno (by simpa using hb2)⟩,O⟩
  ·obtain rfl:j=xs.length:=by simp at hb1; omega
   refine wp_exit<|za9<|za9<|zau<|zt<|zh [.v 2 _] [.o 0] O (zv rfl (za2 za3) o0) (zz [(2,_)] [] fun a w O=>?_)
   refine za0<|wp_ret<|zag ?_ (zah rfl O (zm 0 rfl))
   rw [List.take_length] at hno; rw [chF,if_neg hbig,hno]; exact zbh
def RepM (b:Nat)(m:MQ):Prop:=∃ n1 n2 n3 n4 D:Int,D≠0∧m.a=(n1:Rat)/(D:Rat)∧m.b=(n2:Rat)/(D:Rat)∧m.c=(n3:Rat)/(D:Rat)∧m.d=(n4:Rat)/(D:Rat)∧lz n1≤b∧lz n2≤b∧lz n3≤b∧lz n4≤b∧lz D≤b
theorem rep_bQ {b:Nat}{m:MQ}(h:RepM b m):bQ b m.a∧bQ b m.b∧bQ b m.c∧bQ b m.d:=by
 obtain ⟨n1,n2,n3,n4,D,hD,e1,e2,e3,e4,h1,h2,h3,h4,h5⟩:=h
 rw [e1,e2,e3,e4,← Rat.divInt_eq_div,← Rat.divInt_eq_div,← Rat.divInt_eq_div,← Rat.divInt_eq_div]
 obtain ⟨a1,a2⟩:=zi6 (p:=n1) hD
 obtain ⟨b1,b2⟩:=zi6 (p:=n2) hD
 obtain ⟨c1,c2⟩:=zi6 (p:=n3) hD
 obtain ⟨d1,d2⟩:=zi6 (p:=n4) hD
 exact ⟨⟨by omega,by omega⟩,⟨by omega,by omega⟩,⟨by omega,by omega⟩,⟨by omega,by omega⟩⟩
theorem zmi {a b c d D E:Rat}(hD:D≠0)(hE:E≠0):a/D*(c/E)+b/D*(d/E)=(a*c+b*d)/(D*E):=by grind
theorem zrt {c d:Nat}{a b x y:Int}(ha:lz a≤c)(hb:lz b≤c)(hx:lz x≤d)(hy:lz y≤d):lz (a*x+b*y)≤c+d+1:=by
 have h1:=zoi (a*x) (b*y)
 have h2:=zgq a x
 have h3:=zgq b y
 omega
theorem rep_mul {c d:Nat}{m q:MQ}(hm:RepM c m)(hq:RepM d q):RepM (c+d+1) (mulQ m q):=by
 obtain ⟨n1,n2,n3,n4,D,hD,e1,e2,e3,e4,h1,h2,h3,h4,h5⟩:=hm
 obtain ⟨k1,k2,k3,k4,E,hE,f1,f2,f3,f4,g1,g2,g3,g4,g5⟩:=hq
 have hDr:(D:Rat)≠0:=fun e=>hD (by exact_mod_cast e)
 have hEr:(E:Rat)≠0:=fun e=>hE (by exact_mod_cast e)
 refine ⟨n1*k1+n2*k3,n1*k2+n2*k4,n3*k1+n4*k3,n3*k2+n4*k4,D*E,Int.mul_ne_zero hD hE,?_,?_,?_,?_,zrt h1 h2 g1 g3,zrt h1 h2 g2 g4,zrt h3 h4 g1 g3,zrt h3 h4 g2 g4,?_⟩
 ·simp only [mulQ,e1,e2,f1,f3,Rat.intCast_add,Rat.intCast_mul]
  exact zmi hDr hEr
 ·simp only [mulQ,e1,e2,f2,f4,Rat.intCast_add,Rat.intCast_mul]
  exact zmi hDr hEr
 ·simp only [mulQ,e3,e4,f1,f3,Rat.intCast_add,Rat.intCast_mul]
  exact zmi hDr hEr
 ·simp only [mulQ,e3,e4,f2,f4,Rat.intCast_add,Rat.intCast_mul]
  exact zmi hDr hEr
 ·have:=zgq D E
  omega
theorem zrc {b:Nat}{m:MQ}(n1 n2 n3 n4 D:Int)(hD:D≠0)(e1:m.a*(D:Rat)=(n1:Rat))(e2:m.b*(D:Rat)=(n2:Rat))(e3:m.c*(D:Rat)=(n3:Rat))(e4:m.d*(D:Rat)=(n4:Rat))(h1:lz n1≤b)(h2:lz n2≤b)(h3:lz n3≤b)(h4:lz n4≤b)(h5:lz D≤b):RepM b m:=by
 have hDr:(D:Rat)≠0:=fun e=>hD (by exact_mod_cast e)
 have key:∀ {x:Rat} {n:Int},x*(D:Rat)=(n:Rat)→x=(n:Rat)/(D:Rat):=fun h=>by rw [← h]; exact (Rat.mul_div_cancel hDr).symm
 exact ⟨n1,n2,n3,n4,D,hD,key e1,key e2,key e3,key e4,h1,h2,h3,h4,h5⟩
theorem zyr (x:Rat):x*((x.den:Int):Rat)=(x.num:Rat):=by
 have:=nd_eq x
 have hd:=den_ne x
 generalize ((x.den:Int):Rat)=d at *
 generalize (x.num:Rat)=n at *
 grind
theorem lz_0:lz 0=0:=by kernel_rfl
theorem zml:lz 1≤1:=Nat.le_of_ble_eq_true zk
theorem rep_b {k:Nat}{x:Rat}(h:bQ k x):RepM k ⟨1,x,0,1⟩:=zrc (x.den:Int) x.num 0 (x.den:Int) (x.den:Int) (by have:=x.den_pos; omega) (Rat.one_mul _) (zyr x) (Rat.zero_mul _) (Rat.one_mul _) h.2 h.1 (by rw [lz_0]; omega) h.2 h.2
theorem rep_c {k:Nat}{x:Rat}(h:bQ k x):RepM k ⟨1,0,x,1⟩:=zrc (x.den:Int) 0 x.num (x.den:Int) (x.den:Int) (by have:=x.den_pos; omega) (Rat.one_mul _) (Rat.zero_mul _) (zyr x) (Rat.one_mul _) h.2 (by rw [lz_0]; omega) h.1 h.2 h.2
theorem rep_1:RepM 1 ⟨1,0,0,1⟩:=zrc 1 0 0 1 1 zd (by grind) (by grind) (by grind) (by grind) zml (by rw [lz_0]; omega) (by rw [lz_0]; omega) zml zml
theorem rep_f:RepM 1 ⟨0-1,0-0,0-0,0-1⟩:=zrc (-1) 0 0 (-1) 1 zd (by grind) (by grind) (by grind) (by grind) nq (by rw [lz_0]; omega) (by rw [lz_0]; omega) nq zml
theorem ziz {b c:Nat}{m:MQ}(h:RepM b m)(hc:b≤c):RepM c m:=by
 obtain ⟨n1,n2,n3,n4,D,hD,e1,e2,e3,e4,h1,h2,h3,h4,h5⟩:=h
 exact ⟨n1,n2,n3,n4,D,hD,e1,e2,e3,e4,by omega,by omega,by omega,by omega,by omega⟩
theorem bQ_min {k:Nat}{x:Rat}(h:bQ k x):bQ k (0-x):=by
 have e:0-x = -x:=by grind
 rw [e]
 exact ⟨by rw [Rat.neg_num,zhd]; exact h.1,by rw [Rat.neg_den]; exact h.2⟩
theorem bQ_div {c d:Nat}{x y:Rat}(hx:bQ c x)(hy:bQ d y)(h0:y≠0):bQ (c+d) (x/y):=by
 rw [← zlz]
 obtain ⟨h1,h2⟩:=zi6 (p:=x.num*(y.den:Int)) (zrp x h0)
 have h3:=zgq x.num (y.den:Int)
 have h4:=zgq (x.den:Int) y.num
 obtain ⟨x1,x2⟩:=hx
 obtain ⟨y1,y2⟩:=hy
 exact ⟨by omega,by omega⟩
theorem okX_bQ {x:RF}(h:okX x=true):bQ 2048 (toQ x):=(okX_q h).2
theorem zje {x:RE}(h:elF x=true):[x.p,x.q].all okX=true∧(x.k=1∨x.k=2∨(x.k=3∧toQ x.q≠0)∨x.k=4∨x.k=5):=by
 unfold elF at h
 rw [Bool.and_eq_true] at h
 refine ⟨h.1,?_⟩
 have h2:=h.2
 by_cases h1:x.k=1
 ·exact .inl h1
 ·by_cases h3:x.k=2
  ·exact .inr (.inl h3)
  ·by_cases h4:x.k=3
   ·rw [kd3 (by simpa using h1) (by simpa using h3) (by simpa using h4),Bool.and_eq_true] at h2
    refine .inr (.inr (.inl ⟨h4,fun e=>?_⟩))
    rw [e] at h2
    have:=of_decide_eq_true h2.2
    exact absurd this zd
   ·by_cases h5:x.k=4
    ·exact .inr (.inr (.inr (.inl h5)))
    ·rw [kd5 (by simpa using h1) (by simpa using h3) (by simpa using h4) (by simpa using h5)] at h2
     simp only [Bool.and_eq_true,beq_iff_eq] at h2
     exact .inr (.inr (.inr (.inr h2.1.1)))
theorem el_rep {x:RE}(h:elF x=true):RepM 4096 (elM x):=by
 obtain ⟨hx,hk⟩:=zje h
 simp only [List.all_cons,List.all_nil,Bool.and_true,Bool.and_eq_true] at hx
 have bp:=okX_bQ hx.1
 have bq:=okX_bQ hx.2
 unfold elM
 rcases hk with hk | hk | ⟨hk,h0⟩ | hk | hk <;> rw [hk]
 ·exact ziz (rep_b bp) zd
 ·exact ziz (rep_c (bQ_min bp)) zd
 ·exact rep_b (bQ_div bp bq h0)
 ·exact rep_c (bQ_min (bQ_mul bp bq))
 ·exact ziz rep_f zd
theorem zpw {xs:List RE}{j:Nat}(h:j<xs.length):prodQ (xs.take (j+1))=mulQ (elM xs[j]) (prodQ (xs.take j)):=by
 rw [List.take_succ_eq_append_getElem h]
 unfold prodQ
 rw [List.foldl_append]
 rfl
theorem zm5 {xs:List RE}(h:xs.all elF=true):∀ j,j≤xs.length→RepM (1+4097*j) (prodQ (xs.take j))
 | 0,_=>rep_1
 | j+1,hj=>by
  rw [zpw zo]
  exact ziz (rep_mul (el_rep (List.all_eq_true.1 h _ (List.getElem_mem zo))) (zm5 h j zo)) zo
theorem qa_bQ {k k':Nat}{x:Rat}(h:bQ k' x):WkA (QA k x) (QA k' x):=qaA.trans (qa_of h.1 h.2)
theorem qm_rep {k k':Nat}{m:MQ}(h:RepM k' m):WkA (QMA k m) (QMA k' m):=by
 obtain ⟨h1,h2,h3,h4⟩:=rep_bQ h
 exact zby (.cons (qa_bQ h1) (.cons (qa_bQ h2) (.cons (qa_bQ h3) (.cons (qa_bQ h4) .nil))))
theorem re_k {x:RE}{k:Int}(h:x.k=k)(hx:[x.p,x.q].all okX=true):Wk (REA x).va (QEA 2048 k (toQ x.p) (toQ x.q)).va:=by subst h; exact (el_q hx).va
theorem rowOf_c {x:RE}(h:elF x=true):Cn Tryz.prog 27 [(REA x).va] (QMA 4099 (elM x)).va:=by
 obtain ⟨hx,hk⟩:=zje h
 unfold elM
 rcases hk with hk | hk | ⟨hk,h0⟩ | hk | hk <;> rw [hk]
 ·exact rowOfK1.wk (.cons (re_k hk hx) .nil)
 ·exact rowOfK2.wk (.cons (re_k hk hx) .nil)
 ·exact (rowOfK3 h0).wk (.cons (re_k hk hx) .nil)
 ·exact rowOfK4.wk (.cons (re_k hk hx) .nil)
 ·exact rowOfK5.wk (.cons (re_k hk hx) .nil)
theorem ch_ok {xs:List RE}(h:chF xs=0):xs.length≤4096∧xs.all elF=true:=by
 unfold chF at h
 by_cases h1:xs.length>4096
 ·rw [if_pos h1] at h; exact absurd h zd
 ·rw [if_neg h1] at h
  cases h2:xs.all elF with
  | true=>exact ⟨by omega,rfl⟩
  | false=>rw [h2] at h; exact absurd h zd
end Go.Proofs.YtpnhpldlecmbdaaGreatDoor
namespace Go.Proofs.YtpnhpldlecmbdaaGreatDoor
open Go Go.RowKit
theorem as_any {m:MQ}(h:[m.a,m.b,m.c,m.d].any longQ=true):asM 0 m=(rm0,4):=by rw [asM,if_pos rfl,if_pos h]
theorem as_none {m:MQ}(h:[m.a,m.b,m.c,m.d].any longQ=false):asM 0 m=(rmOf m,0):=by rw [asM,if_pos rfl,if_neg (by rw [h]; decide)]
def elCostF (x:RE):Int:=IntKind.i64.wrap (fracCostF x.p+fracCostF x.q)
def elsF (n:Int):List RE→Int
 | []=>n
 | x::xs=>if decide (n≤1048576) then elsF (IntKind.i64.wrap (n+elCostF x)) xs else n
theorem els_go {n:Int}{l:List RE}{j:Nat}(h:j<l.length)(h2:n≤1048576):elsF n (l.drop j)=elsF (IntKind.i64.wrap (n+elCostF l[j])) (l.drop (j+1)):=by
 rw [List.drop_eq_getElem_cons h,elsF,if_pos (decide_eq_true h2)]
theorem els_end {n:Int}{l:List RE}{j:Nat}(h:¬ (j<l.length∧n≤1048576)):elsF n (l.drop j)=n:=by
 by_cases hj:j<l.length
 ·rw [List.drop_eq_getElem_cons hj,elsF,if_neg (by simpa using fun hh=>h ⟨hj,hh⟩)]
 ·rw [List.drop_of_length_le zo]; rfl
theorem zst (x:RE):Cn Tryz.prog 6 [(REA x).va] (In (elCostF x)):=by
 refine Cn.intro Tryz.func6 rfl zk nq (fun B w0 a O=>?_)
 have O:=zn [(0,(REA x).va)] [] O
 refine wp_seq<|zg [] [⟨1,30,ptrH,some 0,_,none⟩] [.alc 0,.v 2 _] [.o 1] O (oc (zal rfl rfl rfl (gq 0 rfl)) (zv rfl (za2 za3) o0)) (zz [(2,_)] [⟨1,30,ptrH,_⟩] fun a w O=>?_)
 refine zt<|zgd [[],[0],[0,1],[],[3],[0,1,2,3,4],[0,1,2,3,4,5],[0,1,2,3,4,5,6]] [none] [] [.adr 3 1 (.some 1) True,.v 4 _,.v 5 _,.adr 6 1 (.some 5) True,.v 7 _,.v 8 _,.v 9 _,.v 2 _] [.o 7] za6 O (oc (ob_a rfl rfl (za7 (lz0 0 rfl) zc5)) (zv rfl (za4 0 rfl zk trivial (lz0 0 rfl) (Sub.part 1 rfl rfl) zap) (zv rfl (za5 (xs:=[.tmp 4]) (zli _) (.cons (vq 1 rfl) .nil)) (oc (ob_a rfl rfl (za7 (lz0 0 rfl) zci)) (zv rfl (za4 3 rfl zk trivial (lz0 0 rfl) (Sub.part 2 rfl rfl) zap) (zv rfl (za5 (xs:=[.tmp 7]) (zli _) (.cons (vq 4 rfl) .nil)) (zv rfl (zba (vq 2 rfl) (vq 5 rfl) (rfl)) (zv rfl (za2 (vq 6 rfl)) o0)))))))) zk zk zk zk (zz [(2,_)] [⟨1,30,ptrH,_⟩] fun a w O=>?_)
 refine za0<|wp_ret<|zag ?_ (zah rfl O (zm 0 rfl))
 exact zbh
theorem zyh (xs:List RE):Cn Tryz.prog 5 [(SlA 30 [U32] (xs.map REA)).va] (In (elsF (xs.length:Nat) xs)):=by
 refine Cn.intro Tryz.func5 rfl zk nq (fun B w0 a O=>?_)
 have O:=zn [(0,(SlA 30 [U32] (xs.map REA)).va)] [] O
 have hl:=zr2 (O.vals (0,(SlA 30 [U32] (xs.map REA)).va) (zm 0 rfl))
 refine wp_seq<|zh [.v 2 _] [.g 0,.o 0] O (zv rfl (za2 za3) o0) (zz [(0,_),(2,_)] [] fun a w O=>?_)
 refine zt<|zh [.v 5 _,.v 6 _,.v 3 _] [.g 0,.g 1,.o 2] O (zv rfl (za1 (gq 0 rfl)) (zv rfl (zbq Tryz.underlying22 (vq 0 rfl)) (zv rfl (za2 (vq 1 rfl)) o0))) (zz [(0,_),(2,_),(3,_)] [] fun a w O=>?_)
 refine zt<|wp_seq<|zh [.v 4 _] [.g 0,.g 1,.g 2,.o 0] O (zv rfl (za2 za3) o0) (zz [(0,_),(2,_),(3,_),(4,_)] [] fun a w O=>?_)
 refine za0<|wp_block ?_
 have O:=St.sel O [0,2,3]
 refine wp_loop_ghost (fun n a w=>∃ (j:Nat) (m:Int),(n+j=xs.length∧elsF (xs.length:Nat) xs=elsF m (xs.drop j))∧St B w0 25 [(0,(SlA 30 [U32] (xs.map REA)).va),(3,In m),(4,In (j:Nat))] [] a w) (xs.length) ?_ ?_
 ·exact ⟨0,(xs.length:Nat),⟨by omega,rfl⟩,by rw [List.length_map] at O; exact O⟩
 intro n a w hI
 obtain ⟨j,m,⟨hn,hm⟩,O⟩:=hI
 refine wp_seq<|wp_seq<|zh [.v 7 _,.v 8 _,.v 9 _,.v 10 _,.v 11 _,.v 12 (Wh (_=true) _),.v 13 (Wh (_=true) _),.v 14 _] [.g 0,.g 1,.g 2,.o 7] O (zv rfl (za1 (gq 2 rfl)) (zv rfl (za1 (gq 0 rfl)) (zv rfl (zbq Tryz.underlying22 (vq 1 rfl)) (zv rfl (zb4 (vq 0 rfl) (vq 2 rfl)) (zv rfl (za1 (vq 3 rfl)) (oc (zao rfl rfl rfl (vq 4 rfl) nq (fun hg=>za1 (gq 1 rfl))) (oc (zao rfl rfl rfl (vq 4 rfl) nq (fun hg=>ztm (zad (vq 5 rfl) hg) za3)) (zv rfl (zcn (vq 4 rfl) (vq 6 rfl)) o0)))))))) (zz [(0,_),(3,_),(4,_),(14,_)] [] fun a w O=>?_)
 refine za0<|za8 O (zm 3 rfl) (fun hb0=>?_) (fun hb0=>?_)
 ·rw [Bool.and_eq_true,decide_eq_true_eq,decide_eq_true_eq,List.length_map] at hb0
  have hj:j<xs.length:=by omega
  have hm0:=hb0.2
  refine wp_skip<|zt<|wp_block<|zh [.v 17 _,.v 18 _,.v 19 _,.v 20 _,.v 21 _,.v 22 _,.v 23 _,.v 3 _] [.g 0,.g 2,.o 7] O (zv rfl (za1 (gq 1 rfl)) (zv rfl (za1 (gq 0 rfl)) (zv rfl (za1 (gq 2 rfl)) (zv rfl (ze7 zh6 (ziq fun _=>rfl) (vq 1 rfl) (vq 2 rfl) (zfm hj)) (zv rfl (zae (vq 3 rfl) zd8) (zv rfl (za5 (xs:=[.tmp 21]) (zst _) (.cons (vq 4 rfl) .nil)) (zv rfl (zba (vq 0 rfl) (vq 5 rfl) (rfl)) (zv rfl (za2 (vq 6 rfl)) o0)))))))) (zz [(0,_),(4,_),(3,_)] [] fun a w O=>?_)
  refine zai ?_
  refine za0<|zh [.v 15 _,.v 16 _,.v 4 _] [.g 0,.g 2,.o 2] O (zv rfl (za1 (gq 1 rfl)) (zv rfl (zba (vq 0 rfl) za3 (wi_nx hj hl)) (zv rfl (za2 (vq 1 rfl)) o0))) (zz [(0,_),(3,_),(4,_)] [] fun a w O=>?_)
  refine za0 ?_
  have O:=St.sel O [0,1,2]
  exact ⟨n-1,by omega,j+1,_,⟨by omega,hm.trans (els_go hj hm0)⟩,O⟩
 ·have hnj:¬ (j<xs.length∧m≤1048576):=by rintro ⟨h1,h2⟩; rw [List.length_map,decide_eq_true (by omega:(j:Int)<(xs.length:Int)),decide_eq_true h2] at hb0; exact absurd hb0 zd
  refine wp_exit<|za9<|za9<|zau<|zt<|zh [.v 24 _,.v 2 _] [.o 1] O (zv rfl (za1 (gq 1 rfl)) (zv rfl (za2 (vq 0 rfl)) o0)) (zz [(2,_)] [] fun a w O=>?_)
  refine za0<|wp_ret<|zag ?_ (zah rfl O (zm 0 rfl))
  exact zbz (congrArg In (hm.trans (els_end hnj)).symm)
end Go.Proofs.YtpnhpldlecmbdaaGreatDoor
namespace Go.Proofs.YtpnhpldlecmbdaaGreatDoor
open Go Go.RowKit
end Go.Proofs.YtpnhpldlecmbdaaGreatDoor
namespace Go.Proofs.YtpnhpldlecmbdaaGreatDoor
open Go Go.RowKit
open Go.ChangeShapes Go.WideShapes Go.ChangeAt
theorem all2_apx {α β:Type}{R':α→β→Prop}{l1 l2:List α}{m1 m2:List β}(h:All2 R' l1 m1)(h':All2 R' l2 m2):All2 R' (l1++l2) (m1++m2):=by
 induction h with
 | nil=>exact h'
 | cons h1 _ ih=>exact .cons h1 ih
theorem cat_apx {l l':List As}{B:Nat}{ds ds':List Value}{w:World}(h:(cat l).p B ds w)(h':(cat l').p B ds' w):(cat (l++l')).p B (ds++ds') w:=by
 obtain ⟨ps,rfl,h1⟩:=h
 obtain ⟨ps',rfl,h2⟩:=h'
 exact ⟨ps++ps',by simp,all2_apx h1 h2⟩
theorem cat_onex {A:As}{B:Nat}{ds:List Value}{w:World}(h:A.p B ds w):(cat [A]).p B ds w:=⟨[ds],by simp,.cons h .nil⟩
section
variable {H:Type} {enc:TypeId × Value→H} {w:World} {base:Nat} {spare:Nat→Bool} {held:Bool} {fuel:Nat} {cs:List Value} {x:DataW H × List MemPlace}
end
end Go.Proofs.YtpnhpldlecmbdaaGreatDoor
namespace Go.Proofs.YtpnhpldlecmbdaaGreatDoor
open Go Go.RowKit
open Go.ChangeShapes Go.WideShapes Go.ChangeAt
theorem zyx {B:Nat}{cs:List Value}{w:World}{A0 A1 A2:As}(h0:A0.p B ((cs.drop 0).take A0.n) w)(h1:A1.p B ((cs.drop A0.n).take A1.n) w)(h2:A2.p B ((cs.drop (A0.n+A1.n)).take A2.n) w)(hl:cs.length=A0.n+(A1.n+A2.n)):(cat [A0,A1,A2]).p B cs w :=
 zyz (by simpa using hl) fun k A hk=>by
  match k,hk with
  | 0,hk=>simp at hk; subst hk; exact h0
  | 1,hk=>simp at hk; subst hk; simpa [offs] using h1
  | 2,hk=>simp at hk; subst hk; simpa [offs] using h2
section
variable {H:Type} {enc:TypeId × Value→H} {w:World} {base:Nat} {spare:Nat→Bool} {held:Bool} {fuel:Nat} {cs:List Value} {x:DataW H × List MemPlace}
end
end Go.Proofs.YtpnhpldlecmbdaaGreatDoor
namespace Go.Proofs.YtpnhpldlecmbdaaGreatDoor
open Go Go.RowKit
abbrev VL:=List (Value × Nat)
def FrK (n:Nat)(M:List Slt)(Es:VL):Prop:=M.map (fun s=>(s.v,s.xs.length))=Es∧∀ s∈M,s.u=s.v∧s.ys=s.xs∧s.z=.slice none 0 0∧s.n≤n
def FrL (n:Nat)(L:List Slot)(K:KL):Prop:=L.map (fun s=>(s.v,s.xs))=K∧∀ s∈L,s.u=s.v∧s.ys=s.xs∧s.z=.slice none 0 0∧s.n≤n
def KsP (K:KL)(Rs Es:VL)(X:BkRest)(L:List Slot):Prop:=X.n=K.length+Rs.length+Es.length∧X.N=[]∧FrL X.n L K∧FrK X.n X.R Rs∧FrK X.n X.M Es
def BkF (K:KL)(Rs Es:VL):As:=BqE (KsP K Rs Es)
theorem zj9 {n m:Nat}{M:List Slt}{Es:VL}(h:FrK n M Es)(hn:n≤m):FrK m M Es:=⟨h.1,fun s hs=>⟨(h.2 s hs).1,(h.2 s hs).2.1,(h.2 s hs).2.2.1,Nat.le_trans (h.2 s hs).2.2.2 hn⟩⟩
theorem zsl {n m:Nat}{M:List Slot}{Es:KL}(h:FrL n M Es)(hn:n≤m):FrL m M Es:=⟨h.1,fun s hs=>⟨(h.2 s hs).1,(h.2 s hs).2.1,(h.2 s hs).2.2.1,Nat.le_trans (h.2 s hs).2.2.2 hn⟩⟩
theorem frK_add {n m a:Nat}{M:List Slt}{Es:VL}{v:Value}{ds:List Value}(h:FrK n M Es):FrK (n+1) (M++[newK m v a ds (n+1)]) (Es++[(v,a)]):=by
 refine ⟨?_,fun s hs=>?_⟩
 ·rw [List.map_append,h.1]
  show Es++[(v,(chunks m a ds).length)]=_
  rw [zlk]
 ·rcases List.mem_append.1 hs with hs | hs
  ·exact (zj9 h (Nat.le_succ n)).2 s hs
  ·obtain rfl:=List.mem_singleton.1 hs
   exact ⟨rfl,rfl,rfl,Nat.le_refl _⟩
theorem frL_add {n:Nat}{L:List Slot}{K:KL}{v:Value}{xs:List Nat}(h:FrL n L K):FrL (n+1) (L++[newS v xs (n+1)]) (K++[(v,xs)]):=by
 refine ⟨by rw [List.map_append,h.1]; rfl,fun s hs=>?_⟩
 rcases List.mem_append.1 hs with hs | hs
 ·exact (zsl h (Nat.le_succ n)).2 s hs
 ·obtain rfl:=List.mem_singleton.1 hs
  exact ⟨rfl,rfl,rfl,Nat.le_refl _⟩
theorem CK.exT {P : Program} {α : Type} {f : FuncId} {T : TypeId} {Ts : List TypeId} {A0 A1 : As} {A : α → As} {c : α → Prop} {pre : List VA} {post : VA} (hex : ∃ fn, P.funcs[f]? = some fn ∧ (fn.name == "runtime.NumGoroutine") = false ∧ fn.body.isNone = false) (h : ∀ x, c x → CK P f T Ts (A x) A1 pre post) (hp : ∀ B cs w, A0.p B cs w → ∃ x, c x ∧ (A x).p B cs w) : CK P f T Ts A0 A1 pre post :=
 ⟨hex,fun B w g cs args hB hg hp0 ha=>by
  obtain ⟨x,hc,hx⟩:=hp B cs w hp0
  exact (h x hc).2 B w g cs args hB hg hx ha⟩
theorem zmr {α β:Type}{f:α→β}{l:List α}{m:List β}(h:l.map f=m):l.length=m.length:=by rw [← h,List.length_map]
theorem sep_l {n:Nat}{L:List Slot}{K:KL}{v:Value}(h:FrL n L K)(hs:∀ p∈K,∀ g,p.1.ownBlock=some g→v.ownBlock≠some g):∀ t∈L,∀ g,t.has g→v.ownBlock≠some g:=fun t ht g hg=>by
 obtain ⟨e1,_,_,_⟩:=h.2 t ht
 have hv:t.v.ownBlock=some g:=by
  rcases hg with hg | hg
  ·exact hg
  ·rwa [e1] at hg
 exact hs (t.v,t.xs) (by rw [← h.1]; exact List.mem_map.2 ⟨t,ht,rfl⟩) g hv
theorem sep_k {n:Nat}{L:List Slt}{K:VL}{v:Value}(h:FrK n L K)(hs:∀ p∈K,∀ g,p.1.ownBlock=some g→v.ownBlock≠some g):∀ t∈L,∀ g,t.has g→v.ownBlock≠some g:=fun t ht g hg=>by
 obtain ⟨e1,_,_,_⟩:=h.2 t ht
 have hv:t.v.ownBlock=some g:=by
  rcases hg with hg | hg
  ·exact hg
  ·rwa [e1] at hg
 exact hs (t.v,t.xs.length) (by rw [← h.1]; exact List.mem_map.2 ⟨t,ht,rfl⟩) g hv
theorem keepLF_c (K:KL)(Rs Es:VL)(v:Value)(xs:List Nat)(hsep:∀ p∈K,∀ g,p.1.ownBlock=some g→v.ownBlock≠some g)(hl:K.length+Rs.length+Es.length≤1000000):CK Tryz.prog 172 63 [63,97] (BkF K Rs Es) (BkF (K++[(v,xs)]) Rs Es) [(PinA v (MgN xs)).va] (Tu []) :=
 CK.exT (c:=fun x:BkRest × Value × List Slot=>KsP K Rs Es x.1 x.2.2) (A:=fun x=>BqA x.1 x.2.1 x.2.2) (zxn ⟨0,undef,[],undef,[],undef,[]⟩ undef v xs [] (fun t ht=>by cases ht) zd zd).1
  (fun x hx=>(zxn x.1 x.2.1 v xs x.2.2 (sep_l hx.2.2.1 hsep) (by have:=zmr hx.2.2.1.1; omega) (by have:=hx.1; omega)).wk fun B cs w ⟨X,vr,L,hp,h⟩=>by
   obtain ⟨h1,h2,h3,h4,h5⟩:=hp
   obtain ⟨k1,k2,k3,k4,k5⟩:=hx
   refine ⟨X,vr,L,⟨by rw [h1,k1,List.length_append]; simp; omega,h2.trans k2,?_,?_,?_⟩,h⟩
   ·rw [h1,h5]; exact frL_add k3
   ·rw [h1,h3]; exact zj9 k4 (Nat.le_succ _)
   ·rw [h1,h4]; exact zj9 k5 (Nat.le_succ _)) fun B cs w ⟨X,vr,L,hp,h⟩=>⟨(X,vr,L),hp,h⟩
theorem keepEF_c (K:KL)(Rs Es:VL)(v:Value)(na:Nat)(hsep:∀ p∈Es,∀ g,p.1.ownBlock=some g→v.ownBlock≠some g)(hl:K.length+Rs.length+Es.length≤1000000):CK Tryz.prog 34 63 [63,94] (BkF K Rs Es) (BkF K Rs (Es++[(v,na)])) [OwV 30 9 v na] (Tu []) :=
 CK.exT (c:=fun x:BkRest × Value × List Slot=>KsP K Rs Es x.1 x.2.2) (A:=fun x=>BqA x.1 x.2.1 x.2.2) (zxp ⟨0,undef,[],undef,[],undef,[]⟩ undef v na [] (fun t ht=>by cases ht) zd zd).1
  (fun x hx=>(zxp x.1 x.2.1 v na x.2.2 (sep_k hx.2.2.2.2 hsep) (by have:=zmr hx.2.2.2.2.1; omega) (by have:=hx.1; omega)).wk fun B cs w ⟨X,vr,L,hp,h⟩=>by
   obtain ⟨h1,h2,h3,h4,es,_,h5⟩:=hp
   obtain ⟨k1,k2,k3,k4,k5⟩:=hx
   refine ⟨X,vr,L,⟨by rw [h1,k1,List.length_append]; simp; omega,h2.trans k2,?_,?_,?_⟩,h⟩
   ·rw [h1,h4]; exact zsl k3 (Nat.le_succ _)
   ·rw [h1,h3]; exact zj9 k4 (Nat.le_succ _)
   ·rw [h1,h5]; exact frK_add k5) fun B cs w ⟨X,vr,L,hp,h⟩=>⟨(X,vr,L),hp,h⟩
theorem new_l {n:Nat}{L:List Slot}{K:KL}{B:Nat}{w:World}{vr:Value}{c:List Value}(h:FrL n L K)(hn:n≤1000000)(hp:(HbA vr L).p B c w)(hok:∀ p∈K,okL p.2∧p.2.length≤2000000000000):∀ s∈L,s.new:=fun s hs=>by
 obtain ⟨e1,e2,e3,e4⟩:=h.2 s hs
 have hm:(s.v,s.xs)∈K:=by rw [← h.1]; exact List.mem_map.2 ⟨s,hs,rfl⟩
 obtain ⟨o1,o2⟩:=hok _ hm
 exact { rv:=(hp.2.2.1 s hs).2.1,ox:=o1,oy:=by rw [e2]; exact o1,z1:=by rw [e3]; rfl,n1:=by omega,lx:=o2,uv:=e1,yx:=e2 }
theorem new_k {H E m n:Nat}{L:List Slt}{K:VL}{B:Nat}{w:World}{vr:Value}{c:List Value}(h:FrK n L K)(hn:n≤1000000)(hp:(HkA H E m vr L).p B c w)(hok:∀ p∈K,p.2≤2000000000):∀ s∈L,s.new:=fun s hs=>by
 obtain ⟨e1,e2,e3,e4⟩:=h.2 s hs
 have hm:(s.v,s.xs.length)∈K:=by rw [← h.1]; exact List.mem_map.2 ⟨s,hs,rfl⟩
 exact { rv:=(hp.2.2.1 s hs).2.1,z1:=by rw [e3]; rfl,n1:=by omega,lx:=hok _ hm,uv:=e1,yx:=e2 }
theorem apartF_c (K:KL)(Rs Es:VL)(hK:∀ p∈K,okL p.2∧p.2.length≤2000000000000)(hR:∀ p∈Rs,False)(hE:∀ p∈Es,p.2≤2000000000)(hl:K.length+Rs.length+Es.length≤1000000):CK Tryz.prog 21 63 [63,97,98,128,130,94,30] (BkF K Rs Es) JkA [] (Bo true) :=
 CK.exT (c:=fun x:BkRest × Value × List Slot=>KsP K Rs Es x.1 x.2.2∧(∀ s∈x.2.2,s.new)∧x.1.R=[]∧(∀ s∈x.1.M,s.new)) (A:=fun x=>BqA x.1 x.2.1 x.2.2)
  (zz8 ⟨0,undef,[],undef,[],undef,[]⟩ undef [] (fun s hs=>by cases hs) zd rfl rfl (fun s hs=>by cases hs) zd).1
  (fun x hx=>zz8 x.1 x.2.1 x.2.2 hx.2.1 (by have:=zmr hx.1.2.2.1.1; omega) hx.1.2.1 hx.2.2.1 hx.2.2.2 (by have:=zmr hx.1.2.2.2.2.1; omega))
  fun B cs w ⟨X,vr,L,hp,h⟩=>by
   obtain ⟨⟨c1,h1⟩,_,⟨c3,h3⟩,⟨c4,h4⟩⟩:=zde h
   have hn:X.n≤1000000:=by have:=hp.1; omega
   exact ⟨(X,vr,L),⟨hp,new_l hp.2.2.1 hn h1 hK,List.map_eq_nil_iff.1 (hp.2.2.2.1.1.trans (List.eq_nil_iff_forall_not_mem.2 hR)),new_k hp.2.2.2.2 hn h4 hE⟩,h⟩
theorem nd_sep {K:KL}{v:Value}{xs:List Nat}(h:(kbl (K++[(v,xs)])).Nodup):∀ p∈K,∀ g,p.1.ownBlock=some g→v.ownBlock≠some g:=fun p hp g hg hv=>by
 rw [kbl_app] at h
 have h2:=(List.nodup_append.1 h).2.2
 have m1:g∈kbl K:=List.mem_filterMap.2 ⟨p,hp,hg⟩
 have m2:g∈kbl [(v,xs)]:=List.mem_filterMap.2 ⟨(v,xs),by simp,hv⟩
 exact h2 g m1 g m2 rfl
theorem zlf {K l:KL}(h:(kbl (K++l)).Nodup):(kbl K).Nodup:=by
 rw [kbl_app] at h
 exact (List.nodup_append.1 h).1
def EleP (x:RE)(m:Nat→Value):As:=cat [NumA .u8 x.k,FracP x.p (m 0) (m 1),FracP x.q (m 2) (m 3)]
abbrev ke (x:RE)(m:Nat→Value):KL:=kf x.p (m 0) (m 1)++kf x.q (m 2) (m 3)
theorem zrz (x:RI)(m:Value)(K:KL)(Rs Es:VL)(hs:(kbl (K++[(m,x.mag)])).Nodup)(hl:K.length+Rs.length+Es.length≤999999):CK Tryz.prog 116 63 [63,97] (BkF (K) Rs Es) (BkF (K++([(m,x.mag)])) Rs Es) [(IntP x m).va] (Tu []):=by
 refine CK.intro Tryz.func116 rfl zk nq zk (fun B g w0 a hrm O=>?_)
 have O:=zn [(0,EqV ((ptrH).f g)),(1,(IntP x m).va)] [⟨0,63,ptrH,BkF (K) Rs Es⟩] O
 refine wp_seq<|zg [none] [⟨3,26,ptrH,some 0,_,none⟩] [.alc 1] [.g 0] O (oc (zal rfl rfl rfl (gq 1 rfl)) o0) (zz [(0,_)] [⟨0,63,ptrH,_⟩,⟨3,26,ptrH,_⟩] fun a w O=>?_)
 refine za0<|zc6 (sp:=[.v 4 _,.adr 5 3 (.some 1) True,.v 6 _,.v 7 VT]) 3 1 99 3 OneC [.g 0,.o 0,.o 2] O (zv rfl (za1 (gq 0 rfl)) (oc (ob_a rfl rfl (za7 (lz0 1 rfl) zaj)) (zv rfl (za4 1 rfl zk trivial (lz0 1 rfl) (Sub.part 1 rfl rfl) zbc) o0))) rfl zd zk zk (zz [(0,_),(4,_),(6,_)] [⟨0,63,ptrH,_⟩,⟨3,26,ptrH,_⟩] fun a w O=>?_)
 rw [show List.range' 3 1=[3] from rfl]
 rw [wpOps_cons]
 refine zdn (A1:=BkF (K++[(m,x.mag)]) Rs Es) (xs:=[.tmp 6]) [0] [2] 0 rfl O (keepLF_c K Rs Es m x.mag (nd_sep hs) zo) rfl (Eq.trans (b:=ptr g) (O.vals _ (zm 1 rfl)) (Eq.symm (O.vals _ (zm 0 rfl)))) (.cons ⟨_,rfl,rfl⟩ .nil) rfl hrm zd zk zk zk zk (fun a w O=>?_)
 refine zbt ?_
 have O:=St.cvA (A':=BkF (K++([(m,x.mag)])) Rs Es) O 0 rfl (congrArg (fun k=>BkF k Rs Es) (by simp [List.append_assoc]))
 have O:=zn [(7,_),(0,_)] [⟨0,63,ptrH,BkF (K++([(m,x.mag)])) Rs Es⟩,⟨3,26,ptrH,_⟩] O
 refine zch<|zfu O (zm 1 rfl) (zm 0 rfl) ?_
 exact zb2 (rs:=[]) rfl O .nil zd
theorem zgc (x:RF)(m1 m2:Value)(K:KL)(Rs Es:VL)(hs:(kbl (K++([(m1,x.num.mag)]++[(m2,x.den.mag)]))).Nodup)(hl:K.length+Rs.length+Es.length≤999990):CK Tryz.prog 35 63 [63,97] (BkF (K) Rs Es) (BkF (K++([(m1,x.num.mag)]++[(m2,x.den.mag)])) Rs Es) [(FracP x m1 m2).va] (Tu []):=by
 have g1:(kbl ((K++[(m1,x.num.mag)])++[(m2,x.den.mag)])).Nodup:=by simpa [List.append_assoc] using hs
 have g0:=zlf g1
 refine CK.intro Tryz.func35 rfl zk nq zk (fun B g w0 a hrm O=>?_)
 have O:=zn [(0,EqV ((ptrH).f g)),(1,(FracP x m1 m2).va)] [⟨0,63,ptrH,BkF (K) Rs Es⟩] O
 refine wp_seq<|zg [none] [⟨3,28,ptrH,some 0,_,none⟩] [.alc 1] [.g 0] O (oc (zal rfl rfl rfl (gq 1 rfl)) o0) (zz [(0,_)] [⟨0,63,ptrH,_⟩,⟨3,28,ptrH,_⟩] fun a w O=>?_)
 refine zt<|zc6 (sp:=[.v 4 _,.adr 5 3 (.some 0) True,.v 6 _,.v 7 VT]) 3 1 99 3 OneC [.g 0,.o 0,.o 2] O (zv rfl (za1 (gq 0 rfl)) (oc (ob_a rfl rfl (za7 (lz0 1 rfl) zbd)) (zv rfl (za4 1 rfl zk trivial (lz0 1 rfl) (Sub.part 0 rfl rfl) zab) o0))) rfl zd zk zk (zz [(0,_),(4,_),(6,_)] [⟨0,63,ptrH,_⟩,⟨3,28,ptrH,_⟩] fun a w O=>?_)
 rw [show List.range' 3 1=[3] from rfl]
 rw [wpOps_cons]
 refine zdn (A1:=BkF (K++[(m1,x.num.mag)]) Rs Es) (xs:=[.tmp 6]) [0] [2] 0 rfl O (zrz x.num m1 K Rs Es g0 (by (try simp only [List.length_append,List.length_cons,List.length_nil]); omega)) rfl (Eq.trans (b:=ptr g) (O.vals _ (zm 1 rfl)) (Eq.symm (O.vals _ (zm 0 rfl)))) (.cons ⟨_,rfl,rfl⟩ .nil) rfl hrm zd zk zk zk zk (fun a w O=>?_)
 refine zbt ?_
 have O:=zn [(7,_),(0,_)] [⟨0,63,ptrH,BkF (K++[(m1,x.num.mag)]) Rs Es⟩,⟨3,28,ptrH,_⟩] O
 refine za0<|zc6 (sp:=[.v 8 _,.adr 9 3 (.some 2) True,.v 10 _,.v 11 VT]) 3 1 99 3 OneC [.g 1,.o 0,.o 2] O (zv rfl (za1 (gq 1 rfl)) (oc (ob_a rfl rfl (za7 (lz0 1 rfl) zb6)) (zv rfl (za4 1 rfl zk trivial (lz0 1 rfl) (Sub.part 1 rfl rfl) zab) o0))) rfl zd zk zk (zz [(0,_),(8,_),(10,_)] [⟨0,63,ptrH,_⟩,⟨3,28,ptrH,_⟩] fun a w O=>?_)
 rw [show List.range' 3 1=[3] from rfl]
 rw [wpOps_cons]
 refine zdn (A1:=BkF ((K++[(m1,x.num.mag)])++[(m2,x.den.mag)]) Rs Es) (xs:=[.tmp 10]) [0] [2] 0 rfl O (zrz x.den m2 (K++[(m1,x.num.mag)]) Rs Es g1 (by (try simp only [List.length_append,List.length_cons,List.length_nil]); omega)) rfl (Eq.trans (b:=ptr g) (O.vals _ (zm 1 rfl)) (Eq.symm (O.vals _ (zm 0 rfl)))) (.cons ⟨_,rfl,rfl⟩ .nil) rfl hrm zd zk zk zk zk (fun a w O=>?_)
 refine zbt ?_
 have O:=St.cvA (A':=BkF (K++([(m1,x.num.mag)]++[(m2,x.den.mag)])) Rs Es) O 0 rfl (congrArg (fun k=>BkF k Rs Es) (by simp [List.append_assoc]))
 have O:=zn [(11,_),(0,_)] [⟨0,63,ptrH,BkF (K++([(m1,x.num.mag)]++[(m2,x.den.mag)])) Rs Es⟩,⟨3,28,ptrH,_⟩] O
 refine zch<|zfu O (zm 1 rfl) (zm 0 rfl) ?_
 exact zb2 (rs:=[]) rfl O .nil zd
theorem zrx (x:RM)(m:Nat→Value)(K:KL)(Rs Es:VL)(hs:(kbl (K++km x m)).Nodup)(hl:K.length+Rs.length+Es.length≤999974):CK Tryz.prog 20 63 [63,97] (BkF (K) Rs Es) (BkF (K++(km x m)) Rs Es) [(MatP x m).va] (Tu []):=by
 have g3:(kbl ((((K++(kf x.a (m 0) (m 1)))++(kf x.b (m 2) (m 3)))++(kf x.c (m 4) (m 5)))++(kf x.d (m 6) (m 7)))).Nodup:=by simpa [List.append_assoc] using hs
 have g2:=zlf g3
 have g1:=zlf g2
 have g0:=zlf g1
 refine CK.intro Tryz.func20 rfl zk nq zk (fun B g w0 a hrm O=>?_)
 have O:=zn [(0,EqV ((ptrH).f g)),(1,(MatP x m).va)] [⟨0,63,ptrH,BkF (K) Rs Es⟩] O
 refine wp_seq<|zg [none] [⟨3,37,ptrH,some 0,_,none⟩] [.alc 1] [.g 0] O (oc (zal rfl rfl rfl (gq 1 rfl)) o0) (zz [(0,_)] [⟨0,63,ptrH,_⟩,⟨3,37,ptrH,_⟩] fun a w O=>?_)
 refine zt<|zc6 (sp:=[.v 4 _,.adr 5 3 (.some 0) True,.v 6 _,.v 7 VT]) 3 1 99 3 OneC [.g 0,.o 0,.o 2] O (zv rfl (za1 (gq 0 rfl)) (oc (ob_a rfl rfl (za7 (lz0 1 rfl) zcp)) (zv rfl (za4 1 rfl zk trivial (lz0 1 rfl) (Sub.part 0 rfl rfl) zap) o0))) rfl zd zk zk (zz [(0,_),(4,_),(6,_)] [⟨0,63,ptrH,_⟩,⟨3,37,ptrH,_⟩] fun a w O=>?_)
 rw [show List.range' 3 1=[3] from rfl]
 rw [wpOps_cons]
 refine zdn (A1:=BkF (K++(kf x.a (m 0) (m 1))) Rs Es) (xs:=[.tmp 6]) [0] [2] 0 rfl O (zgc x.a (m 0) (m 1) K Rs Es g0 (by (try simp only [List.length_append,List.length_cons,List.length_nil]); omega)) rfl (Eq.trans (b:=ptr g) (O.vals _ (zm 1 rfl)) (Eq.symm (O.vals _ (zm 0 rfl)))) (.cons ⟨_,rfl,rfl⟩ .nil) rfl hrm zd zk zk zk zk (fun a w O=>?_)
 refine zbt ?_
 have O:=zn [(7,_),(0,_)] [⟨0,63,ptrH,BkF (K++(kf x.a (m 0) (m 1))) Rs Es⟩,⟨3,37,ptrH,_⟩] O
 refine zt<|zc6 (sp:=[.v 8 _,.adr 9 3 (.some 4) True,.v 10 _,.v 11 VT]) 3 1 99 3 OneC [.g 1,.o 0,.o 2] O (zv rfl (za1 (gq 1 rfl)) (oc (ob_a rfl rfl (za7 (lz0 1 rfl) zcc)) (zv rfl (za4 1 rfl zk trivial (lz0 1 rfl) (Sub.part 1 rfl rfl) zap) o0))) rfl zd zk zk (zz [(0,_),(8,_),(10,_)] [⟨0,63,ptrH,_⟩,⟨3,37,ptrH,_⟩] fun a w O=>?_)
 rw [show List.range' 3 1=[3] from rfl]
 rw [wpOps_cons]
 refine zdn (A1:=BkF ((K++(kf x.a (m 0) (m 1)))++(kf x.b (m 2) (m 3))) Rs Es) (xs:=[.tmp 10]) [0] [2] 0 rfl O (zgc x.b (m 2) (m 3) (K++(kf x.a (m 0) (m 1))) Rs Es g1 (by (try simp only [List.length_append,List.length_cons,List.length_nil]); omega)) rfl (Eq.trans (b:=ptr g) (O.vals _ (zm 1 rfl)) (Eq.symm (O.vals _ (zm 0 rfl)))) (.cons ⟨_,rfl,rfl⟩ .nil) rfl hrm zd zk zk zk zk (fun a w O=>?_)
 refine zbt ?_
 have O:=zn [(11,_),(0,_)] [⟨0,63,ptrH,BkF ((K++(kf x.a (m 0) (m 1)))++(kf x.b (m 2) (m 3))) Rs Es⟩,⟨3,37,ptrH,_⟩] O
 refine zt<|zc6 (sp:=[.v 12 _,.adr 13 3 (.some 8) True,.v 14 _,.v 15 VT]) 3 1 99 3 OneC [.g 1,.o 0,.o 2] O (zv rfl (za1 (gq 1 rfl)) (oc (ob_a rfl rfl (za7 (lz0 1 rfl) zcb)) (zv rfl (za4 1 rfl zk trivial (lz0 1 rfl) (Sub.part 2 rfl rfl) zap) o0))) rfl zd zk zk (zz [(0,_),(12,_),(14,_)] [⟨0,63,ptrH,_⟩,⟨3,37,ptrH,_⟩] fun a w O=>?_)
 rw [show List.range' 3 1=[3] from rfl]
 rw [wpOps_cons]
 refine zdn (A1:=BkF (((K++(kf x.a (m 0) (m 1)))++(kf x.b (m 2) (m 3)))++(kf x.c (m 4) (m 5))) Rs Es) (xs:=[.tmp 14]) [0] [2] 0 rfl O (zgc x.c (m 4) (m 5) ((K++(kf x.a (m 0) (m 1)))++(kf x.b (m 2) (m 3))) Rs Es g2 (by (try simp only [List.length_append,List.length_cons,List.length_nil]); omega)) rfl (Eq.trans (b:=ptr g) (O.vals _ (zm 1 rfl)) (Eq.symm (O.vals _ (zm 0 rfl)))) (.cons ⟨_,rfl,rfl⟩ .nil) rfl hrm zd zk zk zk zk (fun a w O=>?_)
 refine zbt ?_
 have O:=zn [(15,_),(0,_)] [⟨0,63,ptrH,BkF (((K++(kf x.a (m 0) (m 1)))++(kf x.b (m 2) (m 3)))++(kf x.c (m 4) (m 5))) Rs Es⟩,⟨3,37,ptrH,_⟩] O
 refine za0<|zc6 (sp:=[.v 16 _,.adr 17 3 (.some 12) True,.v 18 _,.v 19 VT]) 3 1 99 3 OneC [.g 1,.o 0,.o 2] O (zv rfl (za1 (gq 1 rfl)) (oc (ob_a rfl rfl (za7 (lz0 1 rfl) zco)) (zv rfl (za4 1 rfl zk trivial (lz0 1 rfl) (Sub.part 3 rfl rfl) zap) o0))) rfl zd zk zk (zz [(0,_),(16,_),(18,_)] [⟨0,63,ptrH,_⟩,⟨3,37,ptrH,_⟩] fun a w O=>?_)
 rw [show List.range' 3 1=[3] from rfl]
 rw [wpOps_cons]
 refine zdn (A1:=BkF ((((K++(kf x.a (m 0) (m 1)))++(kf x.b (m 2) (m 3)))++(kf x.c (m 4) (m 5)))++(kf x.d (m 6) (m 7))) Rs Es) (xs:=[.tmp 18]) [0] [2] 0 rfl O (zgc x.d (m 6) (m 7) (((K++(kf x.a (m 0) (m 1)))++(kf x.b (m 2) (m 3)))++(kf x.c (m 4) (m 5))) Rs Es g3 (by (try simp only [List.length_append,List.length_cons,List.length_nil]); omega)) rfl (Eq.trans (b:=ptr g) (O.vals _ (zm 1 rfl)) (Eq.symm (O.vals _ (zm 0 rfl)))) (.cons ⟨_,rfl,rfl⟩ .nil) rfl hrm zd zk zk zk zk (fun a w O=>?_)
 refine zbt ?_
 have O:=St.cvA (A':=BkF (K++(km x m)) Rs Es) O 0 rfl (congrArg (fun k=>BkF k Rs Es) (by simp [List.append_assoc]))
 have O:=zn [(19,_),(0,_)] [⟨0,63,ptrH,BkF (K++(km x m)) Rs Es⟩,⟨3,37,ptrH,_⟩] O
 refine zch<|zfu O (zm 1 rfl) (zm 0 rfl) ?_
 exact zb2 (rs:=[]) rfl O .nil zd
theorem zoo (x:RE)(m:Nat→Value)(K:KL)(Rs Es:VL)(hs:(kbl (K++ke x m)).Nodup)(hl:K.length+Rs.length+Es.length≤999982):CK Tryz.prog 19 63 [63,97] (BkF (K) Rs Es) (BkF (K++(ke x m)) Rs Es) [(EleP x m).va] (Tu []):=by
 have g1:(kbl ((K++(kf x.p (m 0) (m 1)))++(kf x.q (m 2) (m 3)))).Nodup:=by simpa [List.append_assoc] using hs
 have g0:=zlf g1
 refine CK.intro Tryz.func19 rfl zk nq zk (fun B g w0 a hrm O=>?_)
 have O:=zn [(0,EqV ((ptrH).f g)),(1,(EleP x m).va)] [⟨0,63,ptrH,BkF (K) Rs Es⟩] O
 refine wp_seq<|zg [none] [⟨3,30,ptrH,some 0,_,none⟩] [.alc 1] [.g 0] O (oc (zal rfl rfl rfl (gq 1 rfl)) o0) (zz [(0,_)] [⟨0,63,ptrH,_⟩,⟨3,30,ptrH,_⟩] fun a w O=>?_)
 refine zt<|zc6 (sp:=[.v 4 _,.adr 5 3 (.some 1) True,.v 6 _,.v 7 VT]) 3 1 99 3 OneC [.g 0,.o 0,.o 2] O (zv rfl (za1 (gq 0 rfl)) (oc (ob_a rfl rfl (za7 (lz0 1 rfl) zc5)) (zv rfl (za4 1 rfl zk trivial (lz0 1 rfl) (Sub.part 1 rfl rfl) zap) o0))) rfl zd zk zk (zz [(0,_),(4,_),(6,_)] [⟨0,63,ptrH,_⟩,⟨3,30,ptrH,_⟩] fun a w O=>?_)
 rw [show List.range' 3 1=[3] from rfl]
 rw [wpOps_cons]
 refine zdn (A1:=BkF (K++(kf x.p (m 0) (m 1))) Rs Es) (xs:=[.tmp 6]) [0] [2] 0 rfl O (zgc x.p (m 0) (m 1) K Rs Es g0 (by (try simp only [List.length_append,List.length_cons,List.length_nil]); omega)) rfl (Eq.trans (b:=ptr g) (O.vals _ (zm 1 rfl)) (Eq.symm (O.vals _ (zm 0 rfl)))) (.cons ⟨_,rfl,rfl⟩ .nil) rfl hrm zd zk zk zk zk (fun a w O=>?_)
 refine zbt ?_
 have O:=zn [(7,_),(0,_)] [⟨0,63,ptrH,BkF (K++(kf x.p (m 0) (m 1))) Rs Es⟩,⟨3,30,ptrH,_⟩] O
 refine za0<|zc6 (sp:=[.v 8 _,.adr 9 3 (.some 5) True,.v 10 _,.v 11 VT]) 3 1 99 3 OneC [.g 1,.o 0,.o 2] O (zv rfl (za1 (gq 1 rfl)) (oc (ob_a rfl rfl (za7 (lz0 1 rfl) zci)) (zv rfl (za4 1 rfl zk trivial (lz0 1 rfl) (Sub.part 2 rfl rfl) zap) o0))) rfl zd zk zk (zz [(0,_),(8,_),(10,_)] [⟨0,63,ptrH,_⟩,⟨3,30,ptrH,_⟩] fun a w O=>?_)
 rw [show List.range' 3 1=[3] from rfl]
 rw [wpOps_cons]
 refine zdn (A1:=BkF ((K++(kf x.p (m 0) (m 1)))++(kf x.q (m 2) (m 3))) Rs Es) (xs:=[.tmp 10]) [0] [2] 0 rfl O (zgc x.q (m 2) (m 3) (K++(kf x.p (m 0) (m 1))) Rs Es g1 (by (try simp only [List.length_append,List.length_cons,List.length_nil]); omega)) rfl (Eq.trans (b:=ptr g) (O.vals _ (zm 1 rfl)) (Eq.symm (O.vals _ (zm 0 rfl)))) (.cons ⟨_,rfl,rfl⟩ .nil) rfl hrm zd zk zk zk zk (fun a w O=>?_)
 refine zbt ?_
 have O:=St.cvA (A':=BkF (K++(ke x m)) Rs Es) O 0 rfl (congrArg (fun k=>BkF k Rs Es) (by simp [List.append_assoc]))
 have O:=zn [(11,_),(0,_)] [⟨0,63,ptrH,BkF (K++(ke x m)) Rs Es⟩,⟨3,30,ptrH,_⟩] O
 refine zch<|zfu O (zm 1 rfl) (zm 0 rfl) ?_
 exact zb2 (rs:=[]) rfl O .nil zd
end Go.Proofs.YtpnhpldlecmbdaaGreatDoor
