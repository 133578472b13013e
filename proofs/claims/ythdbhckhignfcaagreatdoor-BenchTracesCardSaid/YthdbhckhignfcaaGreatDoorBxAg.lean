import Derived.Test.YthdbhckhignfcaaGreatDoorBxAa
import Derived.Test.YthdbhckhignfcaaGreatDoorBxAc
import Derived.Test.YthdbhckhignfcaaGreatDoorBxAf
set_option linter.unusedVariables false
set_option linter.unusedSimpArgs false
set_option linter.unusedSectionVars false
set_option maxRecDepth 100000
namespace Go.Proofs.YthdbhckhignfcaaGreatDoor
open Go Go.RowKit
def sgI (x:RI):Int:=if x.mag.length=0 then 0 else if x.neg then -1 else 1
def cmpI (x y:RI):Int:=if sgI x≠sgI y then (if sgI x<sgI y then -1 else 1) else max (-1) (min 1 (if x.neg then -(sizeL x.mag y.mag) else sizeL x.mag y.mag))
def okRI (x:RI):Bool := !((decide ((x.mag.length:Int)>2048) || (decide ((x.mag.length:Int)>0)&&(((x.mag.getD (x.mag.length-1) 0:Nat):Int)==((0:Nat):Int)))) || (((x.mag.length:Int)==0)&&x.neg))
theorem zt7 {x:RI}(h:((decide ((x.mag.length:Int)>2048) || (decide ((x.mag.length:Int)>0)&&(((x.mag.getD (x.mag.length-1) 0:Nat):Int)==((0:Nat):Int)))) || (((x.mag.length:Int)==0)&&x.neg))=true):(1:Int)=(if okRI x then 0 else 1):=by unfold okRI; rw [h]; rfl
theorem zt6 {x:RI}(h:((decide ((x.mag.length:Int)>2048) || (decide ((x.mag.length:Int)>0)&&(((x.mag.getD (x.mag.length-1) 0:Nat):Int)==((0:Nat):Int)))) || (((x.mag.length:Int)==0)&&x.neg))=false):(0:Int)=(if okRI x then 0 else 1):=by unfold okRI; rw [h]; rfl
theorem zcg {neg:Bool}{l:List Nat}{z:Int}(ok:okL l)(hv:val l=z.natAbs)(hn:z≠0→neg=decide (z<0)):rsig neg l=riOf z:=by
 unfold rsig riOf
 rw [zdn ok,hv]
 by_cases h:z=0
 ·subst h; simp [zbv]
 ·have h1:limbs z.natAbs≠[]:=by rw [zdi zo]; simp
  have h2:(limbs z.natAbs).isEmpty=false:=by cases hh:limbs z.natAbs <;> simp_all
  rw [h2,hn h]; simp
theorem zmq (z:Int):okL (riOf z).mag:=(zbm _).1
theorem zbx (z:Int):val (riOf z).mag=z.natAbs:=zat _
theorem sizeL_bd {l m:List Nat}(hl:l.length≤1099511627776)(hm:m.length≤1099511627776) : -1099511627777≤sizeL l m∧sizeL l m≤1099511627777:=by
 unfold sizeL; split
 ·omega
 ·split
  ·omega
  ·split <;> omega
theorem zvm {x:RI}(h:((x.mag.length:Int)==0)=true):(0:Int)=sgI x:=by simp at h; simp [sgI,h]
theorem zvl {x:RI}(h:((x.mag.length:Int)==0)=false)(h2:x.neg=true):(-1:Int)=sgI x:=by simp at h; simp [sgI,h,h2]
theorem zvk {x:RI}(h:((x.mag.length:Int)==0)=false)(h2:x.neg=false):(1:Int)=sgI x:=by simp at h; simp [sgI,h,h2]
theorem cmp_e0 {x y:RI}(h:(sgI x != sgI y)=true)(h2:decide (sgI x<sgI y)=true):(-1:Int)=cmpI x y:=by simp at h h2; simp [cmpI,h,h2]
theorem cmp_e1 {x y:RI}(h:(sgI x != sgI y)=true)(h2:decide (sgI x<sgI y)=false):(1:Int)=cmpI x y:=by simp at h h2; simp [cmpI,h]; omega
theorem cmp_e2 {x y:RI}(h:(sgI x != sgI y)=false):max (-1) (min 1 (if x.neg then -(sizeL x.mag y.mag) else sizeL x.mag y.mag))=cmpI x y:=by simp at h; simp [cmpI,h]
theorem zr9 (x:RI):Cn Tryz.prog 154 [(RIA x).va] (In (sgI x)):=by
 refine Cn.intro Tryz.func154 rfl zk nq (fun B w0 a O=>?_)
 have O:=zn [(0,(RIA x).va)] [] O
 refine wp_seq<|zg [] [⟨1,25,ptrH,some 0,_,none⟩] [.alc 0,.v 2 _] [.o 1] O (oc (zam rfl rfl rfl (gq 0 rfl)) (zv rfl (za2 za3) o0)) (zz [(2,_)] [⟨1,25,ptrH,_⟩] fun a w O=>?_)
 refine zt<|wp_block<|wp_seq<|zg [none] [] [.adr 4 1 (.some 1) True,.v 5 _,.v 6 _,.v 7 _,.v 3 _] [.g 0,.o 4] O (oc (ob_a rfl rfl (za9 (lz0 0 rfl) zah)) (zv rfl (za4 0 rfl zk trivial (lz0 0 rfl) (Sub.part 1 rfl rfl) zb9) (zv rfl (zax Tryz.underlying23 (vq 1 rfl)) (zv rfl (zca (vq 2 rfl) za3) (zv rfl (za2 (vq 3 rfl)) o0))))) (zz [(2,_),(3,_)] [⟨1,25,ptrH,_⟩] fun a w O=>?_)
 refine za0<|za8 O (zm 1 rfl) (fun hb0=>?_) (fun hb0=>?_)
 ·refine wp_seq<|zg [none] [] [.v 2 _] [.o 0] O (zv rfl (za2 za3) o0) (zz [(2,_)] [⟨1,25,ptrH,_⟩] fun a w O=>?_)
  refine za0<|wp_ret<|zba ?_
  refine zag ?_
  refine zao ?_ (zaf rfl O (zm 0 rfl))
  exact nu (zvm hb0)
 ·refine wp_seq<|zg [none] [] [.adr 9 1 (.some 0) True,.v 10 _,.v 8 _] [.g 0,.o 2] O (oc (ob_a rfl rfl (za9 (lz0 0 rfl) zb7)) (zv rfl (za4 0 rfl zk trivial (lz0 0 rfl) (Sub.part 0 rfl rfl) ty_4) (zv rfl (za2 (vq 1 rfl)) o0))) (zz [(2,_),(8,_)] [⟨1,25,ptrH,_⟩] fun a w O=>?_)
  refine za0<|za8 O (zm 1 rfl) (fun hb1=>?_) (fun hb1=>?_)
  ·refine wp_seq<|zg [none] [] [.v 2 _] [.o 0] O (zv rfl (za2 za3) o0) (zz [(2,_)] [⟨1,25,ptrH,_⟩] fun a w O=>?_)
   refine za0<|wp_ret<|zba ?_
   refine zag ?_
   refine zao ?_ (zaf rfl O (zm 0 rfl))
   exact nu (zvl hb0 hb1)
  ·refine wp_skip<|zae ?_
   refine zt<|zg [none] [] [.v 2 _] [.o 0] O (zv rfl (za2 za3) o0) (zz [(2,_)] [⟨1,25,ptrH,_⟩] fun a w O=>?_)
   refine za0<|wp_ret<|zao ?_ (zaf rfl O (zm 0 rfl))
   exact nu (zvk hb0 hb1)
theorem cmpI_c (x y:RI)(hxs:x.mag.length≤1099511627776)(hys:y.mag.length≤1099511627776):Cn Tryz.prog 155 [(RIA x).va,(RIA y).va] (In (cmpI x y)):=by
 refine Cn.intro Tryz.func155 rfl zk nq (fun B w0 a O=>?_)
 have O:=zn [(0,(RIA x).va),(1,(RIA y).va)] [] O
 have hbd:=sizeL_bd hxs hys
 refine wp_seq<|zg [] [⟨2,25,ptrH,some 0,_,none⟩,⟨3,25,ptrH,some 1,_,none⟩] [.alc 0,.alc 1,.v 4 _] [.o 2] O (oc (zam rfl rfl rfl (gq 0 rfl)) (oc (zam rfl rfl rfl (gq 1 rfl)) (zv rfl (za2 za3) o0))) (zz [(4,_)] [⟨2,25,ptrH,_⟩,⟨3,25,ptrH,_⟩] fun a w O=>?_)
 refine zt<|wp_seq<|zgd [[],[0],[],[0,1,2],[0,1,2,3],[0,1,2,3,4]] [none,none] [] [.v 8 _,.v 9 _,.v 10 _,.v 11 _,.v 5 _,.v 6 _] [.g 0,.o 4,.o 5] za6 O (zv rfl (zaq (lz0 0 rfl) zac) (zv rfl (za5 (xs:=[.tmp 8]) (zr9 _) (.cons (vq 0 rfl) .nil)) (zv rfl (zaq (lz0 1 rfl) zac) (zv rfl (za5 (xs:=[.tmp 10]) (zr9 _) (.cons (vq 2 rfl) .nil)) (zv rfl (za2 (vq 1 rfl)) (zv rfl (za2 (vq 3 rfl)) o0)))))) zk zk zk zk (zz [(4,_),(5,_),(6,_)] [⟨2,25,ptrH,_⟩,⟨3,25,ptrH,_⟩] fun a w O=>?_)
 refine zt<|zg [none,none] [] [.v 12 _,.v 13 _,.v 14 _] [.g 0,.g 1,.g 2,.o 2] O (zv rfl (za1 (gq 1 rfl)) (zv rfl (za1 (gq 2 rfl)) (zv rfl (zdw (vq 0 rfl) (vq 1 rfl)) o0))) (zz [(4,_),(5,_),(6,_),(14,_)] [⟨2,25,ptrH,_⟩,⟨3,25,ptrH,_⟩] fun a w O=>?_)
 refine za0<|za8 O (zm 3 rfl) (fun hb0=>?_) (fun hb0=>?_)
 ·refine wp_seq<|wp_seq<|zg [none,none] [] [.v 15 _,.v 16 _,.v 17 _] [.g 0,.o 2] O (zv rfl (za1 (gq 1 rfl)) (zv rfl (za1 (gq 2 rfl)) (zv rfl (zb1 (vq 0 rfl) (vq 1 rfl)) o0))) (zz [(4,_),(17,_)] [⟨2,25,ptrH,_⟩,⟨3,25,ptrH,_⟩] fun a w O=>?_)
  refine za0<|za8 O (zm 1 rfl) (fun hb1=>?_) (fun hb1=>?_)
  ·refine wp_seq<|zg [none,none] [] [.v 4 _] [.o 0] O (zv rfl (za2 za3) o0) (zz [(4,_)] [⟨2,25,ptrH,_⟩,⟨3,25,ptrH,_⟩] fun a w O=>?_)
   refine za0<|wp_ret<|zag ?_
   refine zag ?_
   refine zao ?_ (zaf rfl O (zm 0 rfl))
   exact nu (cmp_e0 hb0 hb1)
  ·refine wp_skip<|zt<|zg [none,none] [] [.v 4 _] [.o 0] O (zv rfl (za2 za3) o0) (zz [(4,_)] [⟨2,25,ptrH,_⟩,⟨3,25,ptrH,_⟩] fun a w O=>?_)
   refine za0<|wp_ret<|zag ?_
   refine zao ?_ (zaf rfl O (zm 0 rfl))
   exact nu (cmp_e1 hb0 hb1)
 ·refine wp_skip<|zt<|zg [none,none] [] [.adr 18 2 (.some 1) True,.v 19 _,.adr 20 3 (.some 1) True,.v 21 _,.v 22 _,.v 7 _] [.g 0,.o 5] O (oc (ob_a rfl rfl (za9 (lz0 0 rfl) zah)) (zv rfl (za4 0 rfl zk trivial (lz0 0 rfl) (Sub.part 1 rfl rfl) zb9) (oc (ob_a rfl rfl (za9 (lz0 1 rfl) zah)) (zv rfl (za4 2 rfl zk trivial (lz0 1 rfl) (Sub.part 1 rfl rfl) zb9) (zv rfl (za5 (xs:=[.tmp 19,.tmp 21]) (zr8 _ _) (.cons (vq 1 rfl) (.cons (vq 3 rfl) .nil))) (zv rfl (za2 (vq 4 rfl)) o0)))))) (zz [(4,_),(7,_)] [⟨2,25,ptrH,_⟩,⟨3,25,ptrH,_⟩] fun a w O=>?_)
  refine zt<|wp_seq<|zg [none,none] [] [.adr 23 2 (.some 0) True,.v 24 _] [.g 0,.g 1,.o 1] O (oc (ob_a rfl rfl (za9 (lz0 0 rfl) zb7)) (zv rfl (za4 0 rfl zk trivial (lz0 0 rfl) (Sub.part 0 rfl rfl) ty_4) o0)) (zz [(4,_),(7,_),(24,_)] [⟨2,25,ptrH,_⟩,⟨3,25,ptrH,_⟩] fun a w O=>?_)
  refine za0<|zcn (fun a w =>  St B w0 30 [(7,In (if x.neg then -(sizeL x.mag y.mag) else sizeL x.mag y.mag))] [⟨2,25,ptrH,RIA x⟩,⟨3,25,ptrH,RIA y⟩] a w) O (zm 2 rfl) (fun hb2=>?_) (fun hb2=>?_) (fun a w O=>?_)
  ·refine zg [none,none] [] [.v 25 _,.v 26 _,.v 7 _] [.g 0,.o 2] O (zv rfl (za1 (gq 1 rfl)) (zv rfl (r_neg (vq 0 rfl) ((wi64 zo zo).trans (Int.zero_sub _))) (zv rfl (za2 (vq 1 rfl)) o0))) (zz [(4,_),(7,_)] [⟨2,25,ptrH,_⟩,⟨3,25,ptrH,_⟩] fun a w O=>?_)
   refine za0 ?_
   have O:=St.sel O [1]
   rw [if_pos hb2]; exact O
  ·refine wp_skip<|za0 ?_
   have O:=St.sel O [1]
   rw [if_neg (by rw [hb2]; decide)]; exact O
  refine zt<|zg [none,none] [] [.v 27 _,.v 28 _,.v 29 _,.v 4 _] [.o 3] O (zv rfl (za1 (gq 0 rfl)) (zv rfl (r_min za3 (vq 0 rfl)) (zv rfl (r_max za3 (vq 1 rfl)) (zv rfl (za2 (vq 2 rfl)) o0)))) (zz [(4,_)] [⟨2,25,ptrH,_⟩,⟨3,25,ptrH,_⟩] fun a w O=>?_)
  refine za0<|wp_ret<|zao ?_ (zaf rfl O (zm 0 rfl))
  exact nu (cmp_e2 hb0)
theorem zz9 (x:RI):Cn Tryz.prog 153 [(RIA x).va] (In (if okRI x then 0 else 1)):=by
 refine Cn.intro Tryz.func153 rfl zk nq (fun B w0 a O=>?_)
 have O:=zn [(0,(RIA x).va)] [] O
 have hk:=(zie (O.vals _ (zm 0 rfl))).2
 refine wp_seq<|zg [] [⟨1,25,ptrH,some 0,_,none⟩] [.alc 0,.v 2 _] [.o 1] O (oc (zam rfl rfl rfl (gq 0 rfl)) (zv rfl (za2 za3) o0)) (zz [(2,_)] [⟨1,25,ptrH,_⟩] fun a w O=>?_)
 refine zt<|wp_seq<|gl (sts:=[none]) (news:=[]) (sp:=((.adr 3 1 (.some 1) True:Sp)::(.v 4 _)::(.v 5 _)::(.v 6 _)::(.v 7 _)::(.adr 8 1 (.some 1) (_=false))::(.v 9 (Wh (_=false) _))::(.v 10 (Wh (_=false) _))::(.v 11 (Wh (_=false) _))::(.v 12 (Wh (_=false) _))::(.adr 13 1 (.some 1) ((_=false)∧_=true))::(.v 14 (Wh ((_=false)∧_=true) _))::(.adr 15 1 (.some 1) ((_=false)∧_=true))::(.v 16 (Wh ((_=false)∧_=true) _))::(.v 17 (Wh ((_=false)∧_=true) _))::(.v 18 (Wh ((_=false)∧_=true) _))::(.v 19 (Wh ((_=false)∧_=true) _))::(.v 20 (Wh ((_=false)∧_=true) _))::(.v 21 (Wh ((_=false)∧_=true) _))::(.v 22 (Wh (_=false) _))::(.v 23 _)::(.v 24 _)::(.adr 25 1 (.some 1) (_=false))::(.v 26 (Wh (_=false) _))::(.v 27 (Wh (_=false) _))::(.v 28 (Wh (_=false) _))::(.v 29 (Wh (_=false) _))::(.adr 30 1 (.some 0) ((_=false)∧_=true))::(.v 31 (Wh ((_=false)∧_=true) _))::(.v 32 (Wh (_=false) _))::(.v 33 _)::[])) [.g 0,.o 30] O (oc (ob_a rfl rfl (za9 (lz0 0 rfl) zah)) (zv rfl (za4 0 rfl zk trivial (lz0 0 rfl) (Sub.part 1 rfl rfl) zb9) (zv rfl (zax Tryz.underlying23 (vq 1 rfl)) (zv rfl (zev (vq 2 rfl) za3) (zv rfl (za1 (vq 3 rfl)) (oc (zce rfl rfl rfl (vq 4 rfl) nq (fun hg=>za9 (lz0 0 rfl) zah)) (oc (zan rfl rfl rfl (vq 4 rfl) nq (fun hg=>za4 5 rfl zk hg (lz0 0 rfl) (Sub.part 1 rfl rfl) zb9)) (oc (zan rfl rfl rfl (vq 4 rfl) nq (fun hg=>zax Tryz.underlying23 (zab (vq 6 rfl) hg))) (oc (zan rfl rfl rfl (vq 4 rfl) nq (fun hg=>zev (zab (vq 7 rfl) hg) za3)) (oc (zan rfl rfl rfl (vq 4 rfl) nq (fun hg=>za1 (zab (vq 8 rfl) hg))) (oc (zfr rfl rfl rfl (vq 9 rfl) nq (fun hg=>za9 (lz0 0 rfl) zah)) (oc (zc5 rfl rfl rfl (vq 9 rfl) nq (fun hg=>za4 10 rfl zk hg (lz0 0 rfl) (Sub.part 1 rfl rfl) zb9)) (oc (zfr rfl rfl rfl (vq 9 rfl) nq (fun hg=>za9 (lz0 0 rfl) zah)) (oc (zc5 rfl rfl rfl (vq 9 rfl) nq (fun hg=>za4 12 rfl zk hg (lz0 0 rfl) (Sub.part 1 rfl rfl) zb9)) (oc (zc5 rfl rfl rfl (vq 9 rfl) nq (fun hg=>zax Tryz.underlying23 (zab (vq 13 rfl) hg))) (oc (zc5 rfl rfl rfl (vq 9 rfl) nq (fun hg=>zd1 (zab (vq 14 rfl) hg) za3 (wi_pm (by have h:=hg.2; simp at h; omega) hk))) (oc (zc5 rfl rfl rfl (vq 9 rfl) nq (fun hg=>zmj zbc (zab (vq 11 rfl) hg) (zab (vq 15 rfl) hg) (by have h:=hg.2; simp at h; omega))) (oc (zc5 rfl rfl rfl (vq 9 rfl) nq (fun hg=>zad (zab (vq 16 rfl) hg) zb0)) (oc (zc5 rfl rfl rfl (vq 9 rfl) nq (fun hg=>zca (zab (vq 17 rfl) hg) (zau 0 rfl))) (oc (zan rfl rfl rfl (vq 4 rfl) nq (fun hg=>zcc (zab (vq 9 rfl) hg) (zh4 (vq 18 rfl) hg))) (zv rfl (r_or (vq 4 rfl) (vq 19 rfl)) (zv rfl (za1 (vq 20 rfl)) (oc (zce rfl rfl rfl (vq 21 rfl) nq (fun hg=>za9 (lz0 0 rfl) zah)) (oc (zan rfl rfl rfl (vq 21 rfl) nq (fun hg=>za4 22 rfl zk hg (lz0 0 rfl) (Sub.part 1 rfl rfl) zb9)) (oc (zan rfl rfl rfl (vq 21 rfl) nq (fun hg=>zax Tryz.underlying23 (zab (vq 23 rfl) hg))) (oc (zan rfl rfl rfl (vq 21 rfl) nq (fun hg=>zca (zab (vq 24 rfl) hg) za3)) (oc (zan rfl rfl rfl (vq 21 rfl) nq (fun hg=>za1 (zab (vq 25 rfl) hg))) (oc (zfr rfl rfl rfl (vq 26 rfl) nq (fun hg=>za9 (lz0 0 rfl) zb7)) (oc (zc5 rfl rfl rfl (vq 26 rfl) nq (fun hg=>za4 27 rfl zk hg (lz0 0 rfl) (Sub.part 0 rfl rfl) ty_4)) (oc (zan rfl rfl rfl (vq 21 rfl) nq (fun hg=>zcc (zab (vq 26 rfl) hg) (zh4 (vq 28 rfl) hg))) (zv rfl (r_or (vq 21 rfl) (vq 29 rfl)) o0))))))))))))))))))))))))))))))) (zz [(2,_),(33,_)] [⟨1,25,ptrH,_⟩] fun a w O=>?_)
 refine za0<|za8 O (zm 1 rfl) (fun hb0=>?_) (fun hb0=>?_)
 ·refine wp_seq<|zg [none] [] [.v 2 _] [.o 0] O (zv rfl (za2 za3) o0) (zz [(2,_)] [⟨1,25,ptrH,_⟩] fun a w O=>?_)
  refine za0<|wp_ret<|zag ?_
  refine zao ?_ (zaf rfl O (zm 0 rfl))
  exact nu (zt7 hb0)
 ·refine wp_skip<|zt<|zg [none] [] [.v 2 _] [.o 0] O (zv rfl (za2 za3) o0) (zz [(2,_)] [⟨1,25,ptrH,_⟩] fun a w O=>?_)
  refine za0<|wp_ret<|zao ?_ (zaf rfl O (zm 0 rfl))
  exact nu (zt6 hb0)
theorem of_e0 {n:Int}(h0 : -9223372036854775808≤n)(h:decide (n<0)=true):IntKind.u64.wrap (0-IntKind.u64.wrap n)=(n.natAbs:Nat):=by
 simp at h; simp [IntKind.wrap,IntKind.bits,IntKind.signed]; omega
theorem of_e1 {n:Int}(h1:n<9223372036854775808)(h:decide (n<0)=false):IntKind.u64.wrap n=(n.natAbs:Nat):=by
 simp at h; simp [IntKind.wrap,IntKind.bits,IntKind.signed]; omega
theorem of_ok {n:Int}(h0 : -9223372036854775808≤n)(h1:n<9223372036854775808):okL [n.natAbs%4294967296,n.natAbs/4294967296]:=by
 intro x hx
 simp at hx
 rcases hx with rfl | rfl <;> omega
theorem of_e2 {n:Int}(h0 : -9223372036854775808≤n)(h1:n<9223372036854775808):(RIA (rsig (decide (n<0)) [n.natAbs%4294967296,n.natAbs/4294967296])).va=Zi n:=by
 rw [zcg (of_ok h0 h1) (z:=n) (by simp [val]; omega) (fun _=>rfl)]
theorem of_c (n:Int)(h0 : -9223372036854775808≤n)(h1:n<9223372036854775808):Cn Tryz.prog 157 [In n] (Zi n):=by
 refine Cn.intro Tryz.func157 rfl zk nq (fun B w0 a O=>?_)
 have O:=zn [(0,In n)] [] O
 refine wp_seq<|zg [] [⟨2,25,ptrH,some 0,_,none⟩] [.alc 0] [.g 0] O (oc (zas rfl rfl rfl (Str.zero zbo)) o0) (zz [(0,_)] [⟨2,25,ptrH,_⟩] fun a w O=>?_)
 refine zt<|zg [none] [] [.v 4 _,.v 5 _,.v 3 _] [.g 0,.o 2] O (zv rfl (za1 (gq 0 rfl)) (zv rfl (zaw .u64 zk zk (vq 0 rfl) (rfl)) (zv rfl (za2 (vq 1 rfl)) o0))) (zz [(0,_),(3,_)] [⟨2,25,ptrH,_⟩] fun a w O=>?_)
 refine zt<|wp_seq<|zg [none] [] [.v 6 _,.v 7 _] [.g 0,.g 1,.o 1] O (zv rfl (za1 (gq 0 rfl)) (zv rfl (zb1 (vq 0 rfl) za3) o0)) (zz [(0,_),(3,_),(7,_)] [⟨2,25,ptrH,_⟩] fun a w O=>?_)
 refine za0<|zcn (fun a w =>  St B w0 19 [(0,In n),(3,(NumA .u64 (n.natAbs:Nat)).va)] [⟨2,25,ptrH,cat [BoA false,MgA []]⟩] a w) O (zm 2 rfl) (fun hb0=>?_) (fun hb0=>?_) (fun a w O=>?_)
 ·refine zg [none] [] [.v 8 _,.v 9 _,.v 3 _] [.g 0,.o 2] O (zv rfl (za1 (gq 1 rfl)) (zv rfl (r_neg (vq 0 rfl) (rfl)) (zv rfl (za2 (vq 1 rfl)) o0))) (zz [(0,_),(3,_)] [⟨2,25,ptrH,_⟩] fun a w O=>?_)
  refine za0 ?_
  have O:=St.sel O [0,1]
  rw [of_e0 h0 hb0] at O; exact O
 ·refine wp_skip<|za0 ?_
  have O:=St.sel O [0,1]
  rw [of_e1 h1 hb0] at O; exact O
 refine zt<|zg [some (9,_)] [] [.v 10 _,.v 11 _,.v 12 _,.v 13 _,.v 14 _,.v 15 _,.v 16 _,.v 17 _,.v 18 _,.sto 0] [] O (zv rfl (za1 (gq 0 rfl)) (zv rfl (zb1 (vq 0 rfl) za3) (zv rfl (za1 (gq 1 rfl)) (zv rfl (zaw .u32 zk zk (vq 2 rfl) (wu32')) (zv rfl (za1 (gq 1 rfl)) (zv rfl (zj7 (vq 4 rfl) (zau 32 rfl) zd (nshr)) (zv rfl (zaw .u32 zk zk (vq 5 rfl) (wu32 (by show n.natAbs/4294967296<_; omega))) (zv rfl (zdo (l:=[_,_]) (xs:=[.tmp 13,.tmp 16]) zbc zk nq nq (of_ok h0 h1) (.cons (vq 3 rfl) (.cons (vq 6 rfl) .nil)) rfl rfl) (zv rfl (za5 (xs:=[.tmp 11,.tmp 17]) (zhe _ _) (.cons (vq 1 rfl) (.cons (vq 7 rfl) .nil))) (oc (zak rfl rfl rfl (vq 8 rfl) zac (Eq.trans (b:=2) rfl rfl)) o0)))))))))) (zz [] [⟨2,25,ptrH,_⟩] fun a w O=>?_)
 refine za0<|wp_ret<|zao ?_ (zaj rfl O (zm 0 rfl) zac)
 exact of_e2 h0 h1
theorem zcs {m n:Nat}(h:m≤n):(limbs m).length≤(limbs n).length:=zej (Nat.lt_of_le_of_lt h (zcm (Nat.le_refl _)))
theorem ze8 {m n:Nat}:(0≤sizeL (limbs m) (limbs n)↔n≤m)∧(0<sizeL (limbs m) (limbs n)↔n<m):=by
 unfold sizeL
 rw [zat,zat]
 by_cases h:(limbs m).length=(limbs n).length
 ·rw [if_neg zo]
  split
  ·omega
  ·split <;> omega
 ·rw [if_pos zo]
  by_cases h2:m≤n
  ·have:=zcs h2
   have:m≠n:=fun e=>h (by rw [e])
   omega
  ·have:=zcs (Nat.le_of_lt (Nat.lt_of_not_le h2))
   omega
theorem zuv {a b:Nat}:val (digs (max (limbs a).length (limbs b).length+1) (a+b))=a+b:=by
 rw [ze2,Nat.mod_eq_of_lt]
 have h1:=zcm (n:=a) (k:=max (limbs a).length (limbs b).length) (Nat.le_max_left _ _)
 have h2:=zcm (n:=b) (k:=max (limbs a).length (limbs b).length) (Nat.le_max_right _ _)
 rw [Nat.pow_succ]
 omega
theorem plus_e0 {a b:Int}(h:((riOf a).neg==(riOf b).neg)=true):(RIA (rsig (riOf a).neg (digs (max (riOf a).mag.length (riOf b).mag.length+1) (val (riOf a).mag+val (riOf b).mag)))).va=Zi (a+b):=by
 have h':decide (a<0)=decide (b<0):=by simpa [riOf] using h
 rw [zbx,zbx,zcg (zc7 _ _) (z:=a+b) (by show val (digs (max (limbs a.natAbs).length (limbs b.natAbs).length+1) _)=_; rw [zuv]; simp only [decide_eq_decide] at h'; omega) (fun hz=>by show decide (a<0)=_; simp only [decide_eq_decide] at h' ⊢; omega)]
theorem zwl {a b:Int}(h:((riOf a).neg==(riOf b).neg)=false)(h2:b.natAbs≤a.natAbs):(RIA (rsig (riOf a).neg (limbs (val (riOf a).mag-val (riOf b).mag)))).va=Zi (a+b):=by
 have h':¬ decide (a<0)=decide (b<0):=by simpa [riOf] using h
 rw [zbx,zbx,zcg (zbm _).1 (z:=a+b) (by rw [zat]; simp only [decide_eq_decide] at h'; omega) (fun hz=>by show decide (a<0)=_; simp only [decide_eq_decide] at h' ⊢; omega)]
theorem zwk {a b:Int}(h:((riOf a).neg==(riOf b).neg)=false)(h2:a.natAbs≤b.natAbs):(RIA (rsig (riOf b).neg (limbs (val (riOf b).mag-val (riOf a).mag)))).va=Zi (a+b):=by
 have h':¬ decide (a<0)=decide (b<0):=by simpa [riOf] using h
 rw [zbx,zbx,zcg (zbm _).1 (z:=a+b) (by rw [zat]; simp only [decide_eq_decide] at h'; omega) (fun hz=>by show decide (b<0)=_; simp only [decide_eq_decide] at h' ⊢; omega)]
theorem zii {a b:Int}(h:decide (sizeL (riOf a).mag (riOf b).mag≥0)=true):b.natAbs≤a.natAbs:=(ze8 (m:=a.natAbs) (n:=b.natAbs)).1.1 (by simpa [riOf] using h)
theorem zih {a b:Int}(h:decide (sizeL (riOf a).mag (riOf b).mag≥0)=false):a.natAbs≤b.natAbs:=by
 have:=(ze8 (m:=a.natAbs) (n:=b.natAbs)).1
 have h':¬ 0≤sizeL (limbs a.natAbs) (limbs b.natAbs):=by simpa [riOf] using h
 omega
theorem zx5 {b:Int}:(cat (setAll [BoA false,MgA []] [(0,BoA (!(riOf b).neg&&decide (((riOf b).mag.length:Int)>0))),(1,MgA (riOf b).mag)])).va=Zi (-b):=by
 have e:(!(riOf b).neg&&decide (((riOf b).mag.length:Int)>0))=(riOf (-b)).neg:=by
  by_cases h:b=0
  ·subst h; simp [riOf,zbv]
  ·have:0<(limbs b.natAbs).length:=by rw [zdi zo]; simp
   simp [riOf,this]
   by_cases h2:b<0 <;> simp [h2] <;> omega
 rw [e]
 have e2:(riOf b).mag=(riOf (-b)).mag:=by simp [riOf]
 rw [e2]
 rfl
theorem zhm (b:Int):lz (-b)=lz b:=by simp [lz]
theorem plus_c (p q:Int)(hp:lz p≤1099511627776)(hq:lz q≤1099511627776):Cn Tryz.prog 161 [Zi p,Zi q] (Zi (p+q)):=by
 refine Cn.intro Tryz.func161 rfl zk nq (fun B w0 a O=>?_)
 have O:=zn [(0,Zi p),(1,Zi q)] [] O
 refine wp_seq<|zg [] [⟨2,25,ptrH,some 0,_,none⟩,⟨3,25,ptrH,some 1,_,none⟩,⟨4,25,ptrH,some 2,_,none⟩] [.alc 0,.alc 1,.alc 2] [] O (oc (zam rfl rfl rfl (gq 0 rfl)) (oc (zam rfl rfl rfl (gq 1 rfl)) (oc (zas rfl rfl rfl (Str.zero zbo)) o0))) (zz [] [⟨2,25,ptrH,_⟩,⟨3,25,ptrH,_⟩,⟨4,25,ptrH,_⟩] fun a w O=>?_)
 refine zt<|wp_seq<|zg [none,none,none] [] [.adr 5 2 (.some 0) True,.v 6 _,.adr 7 3 (.some 0) True,.v 8 _,.v 9 _] [.o 4] O (oc (ob_a rfl rfl (za9 (lz0 0 rfl) zb7)) (zv rfl (za4 0 rfl zk trivial (lz0 0 rfl) (Sub.part 0 rfl rfl) ty_4) (oc (ob_a rfl rfl (za9 (lz0 1 rfl) zb7)) (zv rfl (za4 2 rfl zk trivial (lz0 1 rfl) (Sub.part 0 rfl rfl) ty_4) (zv rfl (zwc zk (vq 1 rfl) (vq 3 rfl)) o0))))) (zz [(9,_)] [⟨2,25,ptrH,_⟩,⟨3,25,ptrH,_⟩,⟨4,25,ptrH,_⟩] fun a w O=>?_)
 refine za0<|za8 O (zm 0 rfl) (fun hb0=>?_) (fun hb0=>?_)
 ·refine wp_seq<|zgd [[],[0],[],[2],[],[4],[2,3,4,5],[0,1,2,3,4,5,6],[0,1,2,3,4,5,6,7]] [none,none,some (8,_)] [] [.adr 10 2 (.some 0) True,.v 11 _,.adr 12 2 (.some 1) True,.v 13 _,.adr 14 3 (.some 1) True,.v 15 _,.v 16 _,.v 17 _,.sto 2] [] za6 O (oc (ob_a rfl rfl (za9 (lz0 0 rfl) zb7)) (zv rfl (za4 0 rfl zk trivial (lz0 0 rfl) (Sub.part 0 rfl rfl) ty_4) (oc (ob_a rfl rfl (za9 (lz0 0 rfl) zah)) (zv rfl (za4 2 rfl zk trivial (lz0 0 rfl) (Sub.part 1 rfl rfl) zb9) (oc (ob_a rfl rfl (za9 (lz0 1 rfl) zah)) (zv rfl (za4 4 rfl zk trivial (lz0 1 rfl) (Sub.part 1 rfl rfl) zb9) (zv rfl (za5 (xs:=[.tmp 13,.tmp 15]) ((add_c _ _ hp hq).free (zhp _).va) (.cons (vq 3 rfl) (.cons (vq 5 rfl) .nil))) (zv rfl (za5 (xs:=[.tmp 11,.tmp 16]) (zhe _ _) (.cons (vq 1 rfl) (.cons (vq 6 rfl) .nil))) (oc (zak rfl rfl rfl (vq 7 rfl) zac (Eq.trans (b:=2) rfl rfl)) o0))))))))) zk zk zk zk (zz [] [⟨2,25,ptrH,_⟩,⟨3,25,ptrH,_⟩,⟨4,25,ptrH,_⟩] fun a w O=>?_)
  refine za0<|wp_ret<|zag ?_
  refine zao ?_ (zaj rfl O (zm 2 rfl) zac)
  exact plus_e0 hb0
 ·refine wp_skip<|zt<|wp_seq<|zg [none,none,none] [] [.adr 18 2 (.some 1) True,.v 19 _,.adr 20 3 (.some 1) True,.v 21 _,.v 22 _,.v 23 _] [.o 5] O (oc (ob_a rfl rfl (za9 (lz0 0 rfl) zah)) (zv rfl (za4 0 rfl zk trivial (lz0 0 rfl) (Sub.part 1 rfl rfl) zb9) (oc (ob_a rfl rfl (za9 (lz0 1 rfl) zah)) (zv rfl (za4 2 rfl zk trivial (lz0 1 rfl) (Sub.part 1 rfl rfl) zb9) (zv rfl (za5 (xs:=[.tmp 19,.tmp 21]) (zr8 _ _) (.cons (vq 1 rfl) (.cons (vq 3 rfl) .nil))) (zv rfl (zfu (vq 4 rfl) za3) o0)))))) (zz [(23,_)] [⟨2,25,ptrH,_⟩,⟨3,25,ptrH,_⟩,⟨4,25,ptrH,_⟩] fun a w O=>?_)
  refine za0<|za8 O (zm 0 rfl) (fun hb1=>?_) (fun hb1=>?_)
  ·refine wp_seq<|zgd [[],[0],[],[2],[],[4],[2,3,4,5],[0,1,2,3,4,5,6],[0,1,2,3,4,5,6,7]] [none,none,some (8,_)] [] [.adr 24 2 (.some 0) True,.v 25 _,.adr 26 2 (.some 1) True,.v 27 _,.adr 28 3 (.some 1) True,.v 29 _,.v 30 _,.v 31 _,.sto 2] [] za6 O (oc (ob_a rfl rfl (za9 (lz0 0 rfl) zb7)) (zv rfl (za4 0 rfl zk trivial (lz0 0 rfl) (Sub.part 0 rfl rfl) ty_4) (oc (ob_a rfl rfl (za9 (lz0 0 rfl) zah)) (zv rfl (za4 2 rfl zk trivial (lz0 0 rfl) (Sub.part 1 rfl rfl) zb9) (oc (ob_a rfl rfl (za9 (lz0 1 rfl) zah)) (zv rfl (za4 4 rfl zk trivial (lz0 1 rfl) (Sub.part 1 rfl rfl) zb9) (zv rfl (za5 (xs:=[.tmp 27,.tmp 29]) ((sub_c _ _ hp (zcs (zii hb1)) (by show val (limbs _)≤val (limbs _); rw [zat,zat]; exact zii hb1)).free (zhp _).va) (.cons (vq 3 rfl) (.cons (vq 5 rfl) .nil))) (zv rfl (za5 (xs:=[.tmp 25,.tmp 30]) (zhe _ _) (.cons (vq 1 rfl) (.cons (vq 6 rfl) .nil))) (oc (zak rfl rfl rfl (vq 7 rfl) zac (Eq.trans (b:=2) rfl rfl)) o0))))))))) zk zk zk zk (zz [] [⟨2,25,ptrH,_⟩,⟨3,25,ptrH,_⟩,⟨4,25,ptrH,_⟩] fun a w O=>?_)
   refine za0<|wp_ret<|zag ?_
   refine zao ?_ (zaj rfl O (zm 2 rfl) zac)
   exact zwl hb0 (zii hb1)
  ·refine wp_skip<|zt<|zgd [[],[0],[],[2],[],[4],[2,3,4,5],[0,1,2,3,4,5,6],[0,1,2,3,4,5,6,7]] [none,none,some (8,_)] [] [.adr 32 3 (.some 0) True,.v 33 _,.adr 34 3 (.some 1) True,.v 35 _,.adr 36 2 (.some 1) True,.v 37 _,.v 38 _,.v 39 _,.sto 2] [] za6 O (oc (ob_a rfl rfl (za9 (lz0 1 rfl) zb7)) (zv rfl (za4 0 rfl zk trivial (lz0 1 rfl) (Sub.part 0 rfl rfl) ty_4) (oc (ob_a rfl rfl (za9 (lz0 1 rfl) zah)) (zv rfl (za4 2 rfl zk trivial (lz0 1 rfl) (Sub.part 1 rfl rfl) zb9) (oc (ob_a rfl rfl (za9 (lz0 0 rfl) zah)) (zv rfl (za4 4 rfl zk trivial (lz0 0 rfl) (Sub.part 1 rfl rfl) zb9) (zv rfl (za5 (xs:=[.tmp 35,.tmp 37]) ((sub_c _ _ hq (zcs (zih hb1)) (by show val (limbs _)≤val (limbs _); rw [zat,zat]; exact zih hb1)).free (zhp _).va) (.cons (vq 3 rfl) (.cons (vq 5 rfl) .nil))) (zv rfl (za5 (xs:=[.tmp 33,.tmp 38]) (zhe _ _) (.cons (vq 1 rfl) (.cons (vq 6 rfl) .nil))) (oc (zak rfl rfl rfl (vq 7 rfl) zac (Eq.trans (b:=2) rfl rfl)) o0))))))))) zk zk zk zk (zz [] [⟨2,25,ptrH,_⟩,⟨3,25,ptrH,_⟩,⟨4,25,ptrH,_⟩] fun a w O=>?_)
   refine za0<|wp_ret<|zao ?_ (zaj rfl O (zm 2 rfl) zac)
   exact zwk hb0 (zih hb1)
theorem zx6 (p q:Int)(hp:lz p≤1099511627776)(hq:lz q≤1099511627776):Cn Tryz.prog 189 [Zi p,Zi q] (Zi (p-q)):=by
 refine Cn.intro Tryz.func189 rfl zk nq (fun B w0 a O=>?_)
 have O:=zn [(0,Zi p),(1,Zi q)] [] O
 refine wp_seq<|zg [] [⟨2,25,ptrH,some 0,_,none⟩,⟨3,25,ptrH,some 1,_,none⟩,⟨4,25,ptrH,some 2,_,none⟩] [.alc 0,.alc 1,.alc 2] [] O (oc (zam rfl rfl rfl (gq 0 rfl)) (oc (zam rfl rfl rfl (gq 1 rfl)) (oc (zas rfl rfl rfl (Str.zero zbo)) o0))) (zz [] [⟨2,25,ptrH,_⟩,⟨3,25,ptrH,_⟩,⟨4,25,ptrH,_⟩] fun a w O=>?_)
 refine zt<|zg [none,none,some (14,_)] [] [.v 5 _,.adr 6 3 (.some 0) True,.v 7 _,.v 8 _,.v 9 _,.adr 10 3 (.some 1) (_=true),.v 11 (Wh (_=true) _),.v 12 (Wh (_=true) _),.v 13 (Wh (_=true) _),.v 14 _,.adr 15 3 (.some 1) True,.v 16 _,.v 17 _,.v 18 _,.sto 2] [] O (zv rfl (zaq (lz0 0 rfl) zac) (oc (ob_a rfl rfl (za9 (lz0 1 rfl) zb7)) (zv rfl (za4 1 rfl zk trivial (lz0 1 rfl) (Sub.part 0 rfl rfl) ty_4) (zv rfl (zeh (vq 2 rfl)) (zv rfl (za1 (vq 3 rfl)) (oc (zce rfl rfl rfl (vq 4 rfl) nq (fun hg=>za9 (lz0 1 rfl) zah)) (oc (zan rfl rfl rfl (vq 4 rfl) nq (fun hg=>za4 5 rfl zk hg (lz0 1 rfl) (Sub.part 1 rfl rfl) zb9)) (oc (zan rfl rfl rfl (vq 4 rfl) nq (fun hg=>zax Tryz.underlying23 (zab (vq 6 rfl) hg))) (oc (zan rfl rfl rfl (vq 4 rfl) nq (fun hg=>zev (zab (vq 7 rfl) hg) za3)) (zv rfl (zcc (vq 4 rfl) (vq 8 rfl)) (oc (ob_a rfl rfl (za9 (lz0 1 rfl) zah)) (zv rfl (za4 10 rfl zk trivial (lz0 1 rfl) (Sub.part 1 rfl rfl) zb9) (zv rfl (zbg (xs:=[(0,.tmp 14),(1,.tmp 16)]) (qs:=[(0,_),(1,_)]) zbo (.cons ⟨rfl,(vq 9 rfl),rfl⟩ (.cons ⟨rfl,(vq 11 rfl),rfl⟩ .nil))) (zv rfl (za5 (xs:=[.tmp 5,.tmp 17]) ((plus_c p (-q) hp (by rw [zhm]; exact hq)).pre (congrArg (fun A=>[Zi p,A]) zx5)) (.cons (vq 0 rfl) (.cons (vq 12 rfl) .nil))) (oc (zak rfl rfl rfl (vq 13 rfl) zac (Eq.trans (b:=2) rfl rfl)) o0))))))))))))))) (zz [] [⟨2,25,ptrH,_⟩,⟨3,25,ptrH,_⟩,⟨4,25,ptrH,_⟩] fun a w O=>?_)
 refine za0<|wp_ret<|zao ?_ (zaj rfl O (zm 2 rfl) zac)
 exact congrArg Zi Int.sub_eq_add_neg.symm
theorem zv3 (p:Int)(hp:lz p≤1099511627776):Cn Tryz.prog 190 [Zi p] (Zi (-p)):=by
 refine Cn.intro Tryz.func190 rfl zk nq (fun B w0 a O=>?_)
 have O:=zn [(0,Zi p)] [] O
 refine wp_seq<|zg [] [⟨1,25,ptrH,some 0,_,none⟩,⟨2,25,ptrH,some 1,_,none⟩] [.alc 0,.alc 1] [] O (oc (zam rfl rfl rfl (gq 0 rfl)) (oc (zas rfl rfl rfl (Str.zero zbo)) o0)) (zz [] [⟨1,25,ptrH,_⟩,⟨2,25,ptrH,_⟩] fun a w O=>?_)
 refine zt<|zgd [[],[],[0,1],[0,1,2]] [none,some (3,_)] [] [.v 3 _,.v 4 _,.v 5 _,.sto 1] [] za6 O (zv rfl (za5 (xs:=[.const (.int .i64 (0))]) (of_c 0 zd zd) (.cons za3 .nil)) (zv rfl (zaq (lz0 0 rfl) zac) (zv rfl (za5 (xs:=[.tmp 3,.tmp 4]) (zx6 0 p (by simp [lz,zbv]) hp) (.cons (vq 0 rfl) (.cons (vq 1 rfl) .nil))) (oc (zak rfl rfl rfl (vq 2 rfl) zac (Eq.trans (b:=2) rfl rfl)) o0)))) zk zk zk zk (zz [] [⟨1,25,ptrH,_⟩,⟨2,25,ptrH,_⟩] fun a w O=>?_)
 refine za0<|wp_ret<|zao ?_ (zaj rfl O (zm 1 rfl) zac)
 exact congrArg Zi (Int.zero_sub p)
end Go.Proofs.YthdbhckhignfcaaGreatDoor
namespace Go.Proofs.YthdbhckhignfcaaGreatDoor
open Go Go.RowKit
def shSt (l ext:List Nat)(d i:Nat):List Nat:=l.take i++digs (l.length-i) (val (l.drop i)/d)++ext
theorem shSt_top (l ext:List Nat)(d:Nat):shSt l ext d l.length=l++ext:=by simp [shSt,digs]
theorem shSt_end (l ext:List Nat)(d:Nat):shSt l ext d 0=digs l.length (val l/d)++ext:=by simp [shSt]
theorem shSt_len {l ext:List Nat}{d i:Nat}(h:i≤l.length):(shSt l ext d i).length=l.length+ext.length:=by simp [shSt,zal]; omega
theorem zra {l ext:List Nat}{d i:Nat}(h:i<l.length)(h2:i<(shSt l ext d (i+1)).length):(shSt l ext d (i+1))[i]=l[i]:=by
 simp only [shSt,List.append_assoc]
 rw [List.getElem_append_left (by simp; omega),List.getElem_take]
theorem sh_eq (V x d:Nat):x+4294967296*V=d*(4294967296*(V/d))+(V%d*4294967296+x):=by
 have h:=Nat.div_add_mod V d
 have e:4294967296*V=4294967296*(d*(V/d)+V%d):=by rw [h]
 rw [Nat.mul_add,← Nat.mul_assoc,Nat.mul_comm 4294967296 d,Nat.mul_assoc] at e
 omega
theorem sh_div {V x d:Nat}(hd:0<d):(x+4294967296*V)/d=4294967296*(V/d)+(V%d*4294967296+x)/d:=by rw [sh_eq,Nat.mul_add_div hd]
theorem sh_mod {V x d:Nat}:(x+4294967296*V)%d=(V%d*4294967296+x)%d:=by rw [sh_eq,Nat.mul_add_mod]
theorem zsw {l:List Nat}{i:Nat}(h:i<l.length):val (l.drop i)=l[i]+4294967296*val (l.drop (i+1)):=by rw [List.drop_eq_getElem_cons h]; rfl
theorem zp9 (n q V:Nat)(hq:q<4294967296):digs (n+1) (4294967296*V+q)=q::digs n V:=by
 show (4294967296*V+q)%4294967296::digs n ((4294967296*V+q)/4294967296)=_
 rw [show (4294967296*V+q)%4294967296=q from by omega,show (4294967296*V+q)/4294967296=V from by omega]
theorem zvn {l ext:List Nat}{d i:Nat}(h:i<l.length)(hl:okL l)(hd:0<d):(shSt l ext d (i+1)).set i ((val (l.drop (i+1))%d*4294967296+l[i])/d)=shSt l ext d i:=by
 have hq:=zqj (h:=val (l.drop (i+1))%d) (l:=l[i]) (d:=d) (Nat.mod_lt _ hd) (hl _ (List.getElem_mem h))
 unfold shSt
 rw [zsw h,sh_div hd,show l.length-i=(l.length-(i+1))+1 from by omega,zp9 _ _ _ hq,List.take_succ_eq_append_getElem h,List.append_assoc,List.append_assoc,List.append_assoc,zfy _ _ _ _ (by simp; omega)]
 simp
theorem short_c (l ext:List Nat)(c d:Nat)(hl:okL l)(hls:l.length≤1099511627776)(hd0:0<d)(hd:d<4294967296):Cm Tryz.prog 207 106 (Nums .u32 (l++ext)) (Nums .u32 (digs l.length (val l/d)++ext)) [.w (slH l.length c),.v ((NumA .u32 (d:Nat)).va)] ((NumA .u32 (val l%d:Nat)).va):=by
 refine Cm.intro Tryz.func207 rfl zk nq (fun B g w0 a O=>?_)
 have O:=zn [(0,EqV ((slH l.length c).f g)),(1,(NumA .u32 (d:Nat)).va)] [⟨0,106,slH l.length c,Nums .u32 (l++ext)⟩] O
 refine wp_seq<|zg [none] [] [.v 4 _] [.g 0,.g 1,.o 0] O (zv rfl (za2 (zau 0 rfl)) o0) (zz [(0,_),(1,_),(4,_)] [⟨0,106,slH _ _,_⟩] fun a w O=>?_)
 refine zt<|zg [none] [] [.v 5 _] [.g 0,.g 1,.g 2,.o 0] O (zv rfl (za2 (zau 0 rfl)) o0) (zz [(0,_),(1,_),(4,_),(5,_)] [⟨0,106,slH _ _,_⟩] fun a w O=>?_)
 refine zt<|wp_seq<|zg [none] [] [.adr 7 0 .none True,.v 8 _,.v 9 _,.v 6 _] [.g 0,.g 1,.g 2,.g 3,.o 3] O (oc (ob_a rfl rfl zdd) (zv rfl (r_lenx 0 rfl zk (lz0 0 rfl) Tryz.underlying23) (zv rfl (zd1 (vq 1 rfl) za3 (wi64 zo zo)) (zv rfl (za2 (vq 2 rfl)) o0)))) (zz [(0,_),(1,_),(4,_),(5,_),(6,_)] [⟨0,106,slH _ _,_⟩] fun a w O=>?_)
 refine za0<|wp_block ?_
 have O:=St.sel O [0,1,3,4]
 refine wp_loop_ghost (fun n a w=>n≤l.length∧St B w0 28 [(0,EqV ((slH l.length c).f g)),(1,(NumA .u32 (d:Nat)).va),(5,(NumA .u32 (val (l.drop n)%d:Nat)).va),(6,In ((n:Int)-1))] [⟨0,106,slH l.length c,Nums .u32 (shSt l ext d n)⟩] a w) (l.length) ?_ ?_
 ·exact ⟨Nat.le_refl _,by rw [shSt_top,List.drop_length,show val []%d=0 from by simp [val]]; exact O⟩
 intro n a w hI
 obtain ⟨hn,O⟩:=hI; have hlen:=shSt_len (ext:=ext) (d:=d) hn
 refine wp_seq<|wp_seq<|zg [none] [] [.v 10 _,.v 11 _] [.g 0,.g 1,.g 2,.g 3,.o 1] O (zv rfl (za1 (gq 3 rfl)) (zv rfl (zfu (vq 0 rfl) za3) o0)) (zz [(0,_),(1,_),(5,_),(6,_),(11,_)] [⟨0,106,slH _ _,_⟩] fun a w O=>?_)
 refine za0<|za8 O (zm 4 rfl) (fun hb0=>?_) (fun hb0=>?_)
 ·obtain ⟨j,rfl⟩:∃ j,n=j+1:=⟨n-1,by simp at hb0; omega⟩; rw [show ((j+1:Nat):Int)-1=(j:Int) from by omega] at O
  refine wp_skip<|zt<|wp_block<|zg [some (13,_)] [] [.adr 15 0 .none True,.v 16 _,.v 17 _,.adr 18 0 .none True,.v 19 _,.adr 20 0 (.some _) True,.v 21 _,.v 22 _,.v 23 _,.v 14 _,.v 24 _,.v 25 _,.adr 26 0 (.some _) True,.sto 0,.v 5 _] [.g 0,.g 1,.g 3,.o 14] O (oc (ob_a rfl rfl zdd) (zv rfl (za1 (gq 3 rfl)) (zv rfl (za1 (gq 2 rfl)) (oc (ob_a rfl rfl zdd) (zv rfl (za1 (gq 3 rfl)) (oc (ob_a rfl rfl (zf3 3 rfl zk (lz0 0 rfl) zbc (vq 4 rfl) zo)) (zv rfl (zpw 5 rfl zk (lz0 0 rfl) (fun _=>zck _ _ _ _) (zmu zo) zb0) (zv rfl (za1 (gq 1 rfl)) (zv rfl (za5 (xs:=[.tmp 17,.tmp 21,.tmp 22]) (div32_c (Nat.mod_lt _ hd0) (by rw [zra zo zo]; exact hl _ (List.getElem_mem _)) hd) (.cons (vq 2 rfl) (.cons (vq 6 rfl) (.cons (vq 7 rfl) .nil)))) (zv rfl (za1 (vq 8 rfl)) (zv rfl (zb4 (vq 9 rfl) rfl) (zv rfl (zb4 (vq 9 rfl) rfl) (oc (ob_a rfl rfl (zf3 0 rfl zk (lz0 0 rfl) zbc (vq 1 rfl) zo)) (oc (zd2 12 rfl rfl rfl rfl zk (fun _=>zck _ _ _ _) (vq 10 rfl) zb0 (zc2 zo)) (zv rfl (za2 (vq 11 rfl)) o0))))))))))))))) (zz [(0,_),(1,_),(6,_),(5,_)] [⟨0,106,slH _ _,_⟩] fun a w O=>?_)
  refine zae ?_
  refine za0<|zg [none] [] [.v 12 _,.v 13 _,.v 6 _] [.g 0,.g 1,.g 3,.o 2] O (zv rfl (za1 (gq 2 rfl)) (zv rfl (zd1 (vq 0 rfl) za3 (wi64 zo zo)) (zv rfl (za2 (vq 1 rfl)) o0))) (zz [(0,_),(1,_),(5,_),(6,_)] [⟨0,106,slH _ _,_⟩] fun a w O=>?_)
  refine za0 ?_
  have O:=St.sel O [0,1,2,3]
  rw [zra zo zo,zvn zo hl hd0,← sh_mod,← zsw zo] at O; exact ⟨j,by omega,by omega,O⟩
 ·obtain rfl:n=0:=(by simp at hb0; omega); rw [shSt_end] at O
  refine wp_exit<|za7<|za7<|zap<|zt<|zg [none] [] [.v 27 _,.v 4 _] [.g 0,.o 1] O (zv rfl (za1 (gq 2 rfl)) (zv rfl (za2 (vq 0 rfl)) o0)) (zz [(0,_),(4,_)] [⟨0,106,slH _ _,_⟩] fun a w O=>?_)
  refine za0<|wp_ret<|zen O (zm 0 rfl) (zm 0 rfl) ?_
  exact zaf rfl O (zm 1 rfl)
end Go.Proofs.YthdbhckhignfcaaGreatDoor
namespace Go.Proofs.YthdbhckhignfcaaGreatDoor
open Go Go.RowKit
theorem wshl {u s:Nat}:IntKind.u32.wrap ((u:Int)*2^((s:Int).toNat))=((u*2^s%4294967296:Nat):Int):=by
 rw [Int.toNat_natCast,show (u:Int)*2^s=((u*2^s:Nat):Int) from by simp]; exact wu32'
theorem shl_lt {u s:Nat}(hu:u<4294967296)(hs:s<32):u*2^s<18446744073709551616:=by
 have h1:2^s≤2^31:=Nat.pow_le_pow_right zd zo
 have h2:u*2^s≤4294967295*2^31:=Nat.mul_le_mul zo h1
 omega
theorem wshl64 {u s:Nat}(hu:u<4294967296)(hs:s<32):IntKind.u64.wrap ((u:Int)*2^((s:Int).toNat))=((u*2^s:Nat):Int):=by
 rw [Int.toNat_natCast,show (u:Int)*2^s=((u*2^s:Nat):Int) from by simp]; exact wu64 (shl_lt hu hs)
theorem zuw {u s:Nat}(hs:s<32):u*2^s%4294967296=2^s*(u%2^(32-s)):=by
 rw [show (4294967296:Nat)=2^s*2^(32-s) from by rw [← Nat.pow_add,show s+(32-s)=32 from by omega],Nat.mul_comm u,Nat.mul_mod_mul_left]
theorem up_or {u s c:Nat}(hs:s<32)(hc:c<2^s):u*2^s%4294967296 ||| c=(c+u*2^s)%4294967296:=by
 rw [zuw hs,← Nat.two_pow_add_eq_or_of_lt hc]
 have h1:u%2^(32-s)<2^(32-s):=Nat.mod_lt _ (Nat.pow_pos zd)
 have h2:2^s*(u%2^(32-s)+1)≤2^s*2^(32-s):=Nat.mul_le_mul_left _ h1
 rw [← Nat.pow_add,show s+(32-s)=32 from by omega,Nat.mul_add,Nat.mul_one] at h2
 have h3:=zuw (u:=u) hs
 have h4:=Nat.div_add_mod (u*2^s) 4294967296
 omega
theorem up_div {u s c:Nat}(hs:s<32)(hc:c<2^s):u*2^s/4294967296=(c+u*2^s)/4294967296:=by
 have h1:u%2^(32-s)<2^(32-s):=Nat.mod_lt _ (Nat.pow_pos zd)
 have h2:2^s*(u%2^(32-s)+1)≤2^s*2^(32-s):=Nat.mul_le_mul_left _ h1
 rw [← Nat.pow_add,show s+(32-s)=32 from by omega,Nat.mul_add,Nat.mul_one] at h2
 have h3:=zuw (u:=u) hs
 have h4:=Nat.div_add_mod (u*2^s) 4294967296
 omega
def upSt (l:List Nat)(s i:Nat):List Nat:=digs i (val (l.take i)*2^s)++List.replicate (l.length+1-i) 0
theorem zqy {l:List Nat}{s i:Nat}(h:i≤l.length):(upSt l s i).length=l.length+1:=by simp [upSt,zal]; omega
theorem zux (l:List Nat)(s:Nat):upSt l s 0=List.replicate (l.length+1) 0:=by simp [upSt,digs]
theorem up_val {l:List Nat}{s i:Nat}(h:i<l.length):val (l.take (i+1))*2^s=val (l.take i)*2^s+4294967296^i*(l[i]*2^s):=by rw [zby h,Nat.add_mul,Nat.mul_assoc]
theorem up_cl {l:List Nat}(hl:okL l)(s i:Nat):val (l.take i)*2^s/4294967296^i<2^s:=by
 apply Nat.div_lt_of_lt_mul
 exact Nat.mul_lt_mul_of_pos_right (zdb hl i) (Nat.pow_pos zd)
theorem zuy {l:List Nat}{s i:Nat}(h:i<l.length):(upSt l s i).set i ((val (l.take i)*2^s/4294967296^i+l[i]*2^s)%4294967296)=upSt l s (i+1):=by
 unfold upSt
 rw [zfy _ _ _ _ (zal _ _),zk4 _ _ zo,up_val h,zeb]
 simp only [List.append_assoc,List.singleton_append]
 congr 3
theorem zzt {l:List Nat}{s i:Nat}(h:i<l.length):(val (l.take i)*2^s/4294967296^i+l[i]*2^s)/4294967296=val (l.take (i+1))*2^s/4294967296^(i+1):=by rw [up_val h,carry_step']
theorem zzu {l:List Nat}(hl:okL l){s:Nat}(hs:s<32):(upSt l s l.length).set l.length (val (l.take l.length)*2^s/4294967296^l.length)=digs (l.length+1) (val l*2^s):=by
 have h:=up_cl hl s l.length
 have h1:2^s≤2^31:=Nat.pow_le_pow_right zd zo
 unfold upSt
 rw [zfy _ _ _ _ (zal _ _),zk4 _ _ zo,zi1,List.take_length] at *
 rw [Nat.mod_eq_of_lt zo]
 simp
theorem up_c (l:List Nat)(s:Nat)(hls:l.length≤1099511627776)(hs:s<32):Cr Tryz.prog 226 106 (slH (l.length+1) (l.length+1)) (Nums .u32 (digs (l.length+1) (val l*2^s))) [(MgA l).va,(NumA .u64 (s:Nat)).va]:=by
 refine Cr.introW Tryz.func226 rfl zk nq (.cons (zjv _).va (.cons (zqx _ _).va .nil)) (fun _ _ _ _ h=>h) (fun B w0 a hB0 O=>?_)
 have O:=zn [(0,(MgO l).va),(1,(NumA .u64 (s:Nat)).va)] [] O
 have hl:=(O.magO 0 rfl).1
 refine wp_seq<|zh [.v 4 _] [.g 0,.g 1,.o 0] O (zv rfl (za2 zb8) o0) (zz [(0,_),(1,_),(4,_)] [] fun a w O=>?_)
 refine zt<|zdm (sts:=[]) (news:=[⟨12,106,slH _ _,some 3,_,none⟩]) (sp:=[.v 9 _,.v 10 _,.v 11 _,.alc 0,.adr 5 12 .none True]) [.g 0,.g 1,.g 2] [(5,12)] [⟨5,106,slH _ _,_⟩] O (zv rfl (za1 (gq 0 rfl)) (zv rfl (zax Tryz.underlying23 (zaz (vq 0 rfl))) (zv rfl (zb5 (vq 1 rfl) za3 (zb3 zo)) (oc (zeo rfl rfl rfl zfs (vq 2 rfl) (vq 2 rfl) zo) (oc (ob_a rfl rfl zl0) o0))))) zk zk zk ⟨⟨4,rfl⟩,trivial⟩ rfl zk (zz [(0,_),(1,_),(4,_)] [⟨5,106,slH _ _,_⟩] fun a w O=>?_)
 refine zt<|zg [none] [] [.v 6 _] [.g 0,.g 1,.g 2,.o 0] O (zv rfl (za2 (zau 0 rfl)) o0) (zz [(0,_),(1,_),(4,_),(6,_)] [⟨5,106,slH _ _,_⟩] fun a w O=>?_)
 refine zt<|wp_seq<|zg [none] [] [.v 13 _,.v 14 _,.v 15 _] [.g 0,.g 1,.g 2,.g 3,.o 0,.o 1,.o 2] O (zv rfl (za1 (gq 0 rfl)) (zv rfl (zax Tryz.underlying23 (zaz (vq 0 rfl))) (zv rfl (za1 za3) o0))) (zz [(0,_),(1,_),(4,_),(6,_),(13,_),(14,_),(15,_)] [⟨5,106,slH _ _,_⟩] fun a w O=>?_)
 refine za0<|wp_block ?_
 have O:=St.sel O [0,1,3,4,5,6]
 refine wp_loop_ghost (fun n a w=>∃ i:Nat,n+i=l.length∧St B w0 41 [(0,(MgO l).va),(1,(NumA .u64 (s:Nat)).va),(6,(NumA .u32 (val (l.take i)*2^s/4294967296^i:Nat)).va),(13,(MgO l).va),(14,In (l.length:Nat)),(15,In (i:Nat))] [⟨5,106,slH (l.length+1) (l.length+1),Nums .u32 (upSt l s i)⟩] a w) (l.length) ?_ ?_
 ·exact ⟨0,by omega,by rw [zux,show val (l.take 0)*2^s/4294967296^0=0 from by simp]; exact O⟩
 intro n a w hI
 obtain ⟨i,hn,O⟩:=hI; have hc:=up_cl hl s i; have h31:2^s≤2^31:=Nat.pow_le_pow_right zd zo
 refine wp_seq<|zg [none] [] [.v 16 _] [.g 0,.g 1,.g 2,.g 3,.g 4,.g 5,.o 0] O (zv rfl (zb1 (gq 5 rfl) (gq 4 rfl)) o0) (zz [(0,_),(1,_),(6,_),(13,_),(14,_),(15,_),(16,_)] [⟨5,106,slH _ _,_⟩] fun a w O=>?_)
 refine zt<|za8 O (zm 6 rfl) (fun hb0=>?_) (fun hb0=>?_)
 ·have hi:i<l.length:=by simp at hb0; omega
  refine wp_skip<|zt<|wp_block<|wp_seq<|zg [none] [] [.v 17 _,.v 18 _,.v 19 _,.v 7 _,.v 8 _] [.g 0,.g 1,.g 2,.g 3,.g 4,.g 5,.o 3,.o 4] O (zv rfl (za1 (gq 5 rfl)) (zv rfl (zc4 zbc (zaz (gq 3 rfl)) (gq 5 rfl) zo) (zv rfl (zad (vq 1 rfl) zb0) (zv rfl (za2 (vq 0 rfl)) (zv rfl (za2 (vq 2 rfl)) o0))))) (zz [(0,_),(1,_),(6,_),(13,_),(14,_),(15,_),(7,_),(8,_)] [⟨5,106,slH _ _,_⟩] fun a w O=>?_)
  refine zt<|zg [some (8,_)] [] [.adr 20 5 .none True,.v 21 _,.v 22 _,.v 23 _,.v 24 _,.v 25 _,.v 26 _,.adr 27 5 (.some _) True,.sto 0] [.g 0,.g 1,.g 2,.g 3,.g 4,.g 5,.g 7] O (oc (ob_a rfl rfl zdd) (zv rfl (za1 (gq 6 rfl)) (zv rfl (za1 (gq 7 rfl)) (zv rfl (za1 (gq 1 rfl)) (zv rfl (ztl (vq 2 rfl) (vq 3 rfl) (⟨by omega,by show (s:Int)≤32; omega⟩) (wshl)) (zv rfl (za1 (gq 2 rfl)) (zv rfl (zto (vq 4 rfl) (vq 5 rfl) ((bor32 (Nat.mod_lt _ zd) zo).trans (congrArg _ (up_or hs hc)))) (oc (ob_a rfl rfl (zf3 0 rfl zk (lz0 0 rfl) zbc (vq 1 rfl) zo)) (oc (zd2 7 rfl rfl rfl rfl zk (fun _=>zck _ _ _ _) (vq 6 rfl) zb0 (zc2 (by rw [zqy zo]; omega))) o0))))))))) (zz [(0,_),(1,_),(6,_),(13,_),(14,_),(15,_),(8,_)] [⟨5,106,slH _ _,_⟩] fun a w O=>?_)
  refine za0<|zg [none] [] [.v 28 _,.v 29 _,.v 30 _,.v 31 _,.v 32 _,.v 33 _,.v 6 _] [.g 0,.g 1,.g 3,.g 4,.g 5,.o 6] O (zv rfl (za1 (gq 6 rfl)) (zv rfl (zaw .u64 zk zk (vq 0 rfl) (wu64 (Nat.lt_trans (hl _ (List.getElem_mem _)) zd))) (zv rfl (za1 (gq 1 rfl)) (zv rfl (ztl (vq 1 rfl) (vq 2 rfl) (⟨by omega,by show (s:Int)≤64; omega⟩) (wshl64 (hl _ (List.getElem_mem _)) hs)) (zv rfl (zj7 (vq 3 rfl) (zau 32 rfl) zd (nshr)) (zv rfl (zaw .u32 zk zk (vq 4 rfl) ((wu32 (Nat.div_lt_of_lt_mul (shl_lt (hl _ (List.getElem_mem _)) hs))).trans (congrArg _ (up_div hs hc)))) (zv rfl (za2 (vq 5 rfl)) o0))))))) (zz [(0,_),(1,_),(13,_),(14,_),(15,_),(6,_)] [⟨5,106,slH _ _,_⟩] fun a w O=>?_)
  refine zae ?_
  refine za0<|zg [none] [] [.v 34 _,.v 15 _] [.g 0,.g 1,.g 2,.g 3,.g 5,.o 1] O (zv rfl (zb5 (gq 4 rfl) za3 (zb3 zo)) (zv rfl (za1 (vq 0 rfl)) o0)) (zz [(0,_),(1,_),(13,_),(14,_),(6,_),(15,_)] [⟨5,106,slH _ _,_⟩] fun a w O=>?_)
  refine za0 ?_
  have O:=St.sel O [0,1,4,2,3,5]
  rw [zuy hi,zzt hi] at O; exact ⟨n-1,by omega,i+1,by omega,O⟩
 ·obtain rfl:i=l.length:=by simp at hb0; omega
  refine wp_exit<|za7<|za7<|zap<|zt<|zg [some (5,_)] [] [.adr 35 5 .none True,.v 36 _,.v 37 _,.v 38 _,.adr 39 5 (.some _) True,.sto 0] [] O (oc (ob_a rfl rfl zdd) (zv rfl (za1 (gq 0 rfl)) (zv rfl (zax Tryz.underlying23 (zaz (vq 1 rfl))) (zv rfl (za1 (gq 2 rfl)) (oc (ob_a rfl rfl (zf3 0 rfl zk (lz0 0 rfl) zbc (vq 2 rfl) zo)) (oc (zd2 4 rfl rfl rfl rfl zk (fun _=>zck _ _ _ _) (vq 3 rfl) zb0 (zc2 (by rw [zqy zo]; omega))) o0)))))) (zz [] [⟨5,106,slH _ _,_⟩] fun a w O=>?_)
  refine zt<|zdm (sts:=[none]) (news:=[]) (sp:=[.adr 40 5 .none True,.adr 4 5 .none True]) [] [(4,5)] [⟨4,106,slH _ _,_⟩] O (oc (ob_a rfl rfl zdd) (oc (ob_a rfl rfl (zzq 0 rfl zk)) o0)) zk zk zk ⟨⟨1,rfl⟩,trivial⟩ rfl zk (zz [] [⟨4,106,slH _ _,_⟩] fun a w O=>?_)
  refine za0<|wp_ret ?_
  rw [zzu hl hs] at O
  exact ret_rowr rfl O hB0 (zm 0 rfl)
end Go.Proofs.YthdbhckhignfcaaGreatDoor
