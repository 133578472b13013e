import Derived.Test.YtlpppkkggljdcaaGreatTcAa
import Derived.Test.YtlpppkkggljdcaaGreatTcAc
import Derived.Test.YtlpppkkggljdcaaGreatTcAf
set_option linter.unusedVariables false
set_option linter.unusedSimpArgs false
set_option linter.unusedSectionVars false
set_option maxRecDepth 100000
namespace Go.Proofs.YtlpppkkggljdcaaGreat
open Go Go.RowKit
def sgI (x:RI):Int:=if x.mag.length=0 then 0 else if x.neg then -1 else 1
def cmpI (x y:RI):Int:=if sgI x≠sgI y then (if sgI x<sgI y then -1 else 1) else max (-1) (min 1 (if x.neg then -(sizeL x.mag y.mag) else sizeL x.mag y.mag))
def okRI (x:RI):Bool := !((decide ((x.mag.length:Int)>2048) || (decide ((x.mag.length:Int)>0)&&(((x.mag.getD (x.mag.length-1) 0:Nat):Int)==((0:Nat):Int)))) || (((x.mag.length:Int)==0)&&x.neg))
theorem check_e0 {x:RI}(h:((decide ((x.mag.length:Int)>2048) || (decide ((x.mag.length:Int)>0)&&(((x.mag.getD (x.mag.length-1) 0:Nat):Int)==((0:Nat):Int)))) || (((x.mag.length:Int)==0)&&x.neg))=true):(1:Int)=(if okRI x then 0 else 1):=by unfold okRI; rw [h]; rfl
theorem check_e1 {x:RI}(h:((decide ((x.mag.length:Int)>2048) || (decide ((x.mag.length:Int)>0)&&(((x.mag.getD (x.mag.length-1) 0:Nat):Int)==((0:Nat):Int)))) || (((x.mag.length:Int)==0)&&x.neg))=false):(0:Int)=(if okRI x then 0 else 1):=by unfold okRI; rw [h]; rfl
theorem zc9 {neg:Bool}{l:List Nat}{z:Int}(ok:okL l)(hv:val l=z.natAbs)(hn:z≠0→neg=decide (z<0)):rsig neg l=riOf z:=by
 unfold rsig riOf
 rw [zd7 ok,hv]
 by_cases h:z=0
 ·subst h; simp [zbo]
 ·have h1:limbs z.natAbs≠[]:=by rw [zcy zo]; simp
  have h2:(limbs z.natAbs).isEmpty=false:=by cases hh:limbs z.natAbs <;> simp_all
  rw [h2,hn h]; simp
theorem zjm (z:Int):okL (riOf z).mag:=(zbd _).1
theorem zbp (z:Int):val (riOf z).mag=z.natAbs:=zat _
theorem sizeL_bd {l m:List Nat}(hl:l.length≤1099511627776)(hm:m.length≤1099511627776) : -1099511627777≤sizeL l m∧sizeL l m≤1099511627777:=by
 unfold sizeL; split
 ·omega
 ·split
  ·omega
  ·split <;> omega
theorem sign_e0 {x:RI}(h:((x.mag.length:Int)==0)=true):(0:Int)=sgI x:=by simp at h; simp [sgI,h]
theorem sign_e1 {x:RI}(h:((x.mag.length:Int)==0)=false)(h2:x.neg=true):(-1:Int)=sgI x:=by simp at h; simp [sgI,h,h2]
theorem sign_e2 {x:RI}(h:((x.mag.length:Int)==0)=false)(h2:x.neg=false):(1:Int)=sgI x:=by simp at h; simp [sgI,h,h2]
theorem cmp_e0 {x y:RI}(h:(sgI x != sgI y)=true)(h2:decide (sgI x<sgI y)=true):(-1:Int)=cmpI x y:=by simp at h h2; simp [cmpI,h,h2]
theorem cmp_e1 {x y:RI}(h:(sgI x != sgI y)=true)(h2:decide (sgI x<sgI y)=false):(1:Int)=cmpI x y:=by simp at h h2; simp [cmpI,h]; omega
theorem cmp_e2 {x y:RI}(h:(sgI x != sgI y)=false):max (-1) (min 1 (if x.neg then -(sizeL x.mag y.mag) else sizeL x.mag y.mag))=cmpI x y:=by simp at h; simp [cmpI,h]
theorem sign_c (x:RI):Cn Tryz.prog 117 [(RIA x).va] (In (sgI x)):=by
 refine Cn.intro Tryz.func117 rfl zk nq (fun B w0 a hst=>?_)
 have hst:St B w0 11 [(0,(RIA x).va)] [] a w0.w:=hst
 refine wp_seq ?_
 refine gl (sts:=[]) (news:=[⟨1,35,ptrH,some 0,_,none⟩]) (sp:=[.alc 0,.val 2 _]) [.o 1] hst (oc (zan rfl rfl rfl (gq 0 rfl)) (zv rfl (za1 za3) o0)) (fun a w hst=>?_)
 have hst:St B w0 11 [(2,_)] [⟨1,35,ptrH,_⟩] a w:=hst
 refine zt ?_
 refine wp_block ?_
 refine wp_seq ?_
 refine gl (sts:=[none]) (news:=[]) (sp:=[.adr 4 1 (.some 1) True,.val 5 _,.val 6 _,.val 7 _,.val 3 _]) [.g 0,.o 4] hst (oc (ob_a rfl rfl (za7 (lz0 0 rfl) zag)) (zv rfl (za4 0 rfl zk trivial (lz0 0 rfl) (Sub.part 1 rfl rfl) zb8) (zv rfl (zaw Tryz.underlying33 (vq 1 rfl)) (zv rfl (zc2 (vq 2 rfl) za3) (zv rfl (za1 (vq 3 rfl)) o0))))) (fun a w hst=>?_)
 have hst:St B w0 11 [(2,_),(3,_)] [⟨1,35,ptrH,_⟩] a w:=hst
 refine za0 ?_
 refine za8 hst (zm 1 rfl) (fun hb0=>?_) (fun hb0=>?_)
 ·refine wp_seq ?_
  refine gl (sts:=[none]) (news:=[]) (sp:=[.val 2 _]) [.o 0] hst (zv rfl (za1 za3) o0) (fun a w hst=>?_)
  have hst:St B w0 11 [(2,_)] [⟨1,35,ptrH,_⟩] a w:=hst
  refine za0 ?_
  refine wp_ret ?_
  refine zb3 ?_
  refine zad ?_
  refine zak ?_ (zaa rfl hst (zm 0 rfl))
  exact nu (sign_e0 hb0)
 ·refine wp_seq ?_
  refine gl (sts:=[none]) (news:=[]) (sp:=[.adr 9 1 (.some 0) True,.val 10 _,.val 8 _]) [.g 0,.o 2] hst (oc (ob_a rfl rfl (za7 (lz0 0 rfl) zb2)) (zv rfl (za4 0 rfl zk trivial (lz0 0 rfl) (Sub.part 0 rfl rfl) ty_4) (zv rfl (za1 (vq 1 rfl)) o0))) (fun a w hst=>?_)
  have hst:St B w0 11 [(2,_),(8,_)] [⟨1,35,ptrH,_⟩] a w:=hst
  refine za0 ?_
  refine za8 hst (zm 1 rfl) (fun hb1=>?_) (fun hb1=>?_)
  ·refine wp_seq ?_
   refine gl (sts:=[none]) (news:=[]) (sp:=[.val 2 _]) [.o 0] hst (zv rfl (za1 za3) o0) (fun a w hst=>?_)
   have hst:St B w0 11 [(2,_)] [⟨1,35,ptrH,_⟩] a w:=hst
   refine za0 ?_
   refine wp_ret ?_
   refine zb3 ?_
   refine zad ?_
   refine zak ?_ (zaa rfl hst (zm 0 rfl))
   exact nu (sign_e1 hb0 hb1)
  ·refine wp_skip ?_
   refine zaj ?_
   refine zt<|gl (sts:=[none]) (news:=[]) (sp:=[.val 2 _]) [.o 0] hst (zv rfl (za1 za3) o0) (fun a w hst=>?_)
   have hst:St B w0 11 [(2,_)] [⟨1,35,ptrH,_⟩] a w:=hst
   refine za0 ?_
   refine wp_ret ?_
   refine zak ?_ (zaa rfl hst (zm 0 rfl))
   exact nu (sign_e2 hb0 hb1)
theorem cmpI_c (x y:RI)(hxs:x.mag.length≤1099511627776)(hys:y.mag.length≤1099511627776):Cn Tryz.prog 89 [(RIA x).va,(RIA y).va] (In (cmpI x y)):=by
 refine Cn.intro Tryz.func89 rfl zk nq (fun B w0 a hst=>?_)
 have hst:St B w0 30 [(0,(RIA x).va),(1,(RIA y).va)] [] a w0.w:=hst
 have hbd:=sizeL_bd hxs hys
 refine wp_seq ?_
 refine gl (sts:=[]) (news:=[⟨2,35,ptrH,some 0,_,none⟩,⟨3,35,ptrH,some 1,_,none⟩]) (sp:=[.alc 0,.alc 1,.val 4 _]) [.o 2] hst (oc (zan rfl rfl rfl (gq 0 rfl)) (oc (zan rfl rfl rfl (gq 1 rfl)) (zv rfl (za1 za3) o0))) (fun a w hst=>?_)
 have hst:St B w0 30 [(4,_)] [⟨2,35,ptrH,_⟩,⟨3,35,ptrH,_⟩] a w:=hst
 refine zt ?_
 refine wp_seq ?_
 refine zaz (anc:=[[],[0],[],[0,1,2],[0,1,2,3],[0,1,2,3,4]]) (sts:=[none,none]) (news:=[]) (sp:=[.val 8 _,.val 9 _,.val 10 _,.val 11 _,.val 5 _,.val 6 _]) [.g 0,.o 4,.o 5] za6 hst (zv rfl (zaq (lz0 0 rfl) zab) (zv rfl (za5 (xs:=[.tmp 8]) (sign_c _) (.cons (vq 0 rfl) .nil)) (zv rfl (zaq (lz0 1 rfl) zab) (zv rfl (za5 (xs:=[.tmp 10]) (sign_c _) (.cons (vq 2 rfl) .nil)) (zv rfl (za1 (vq 1 rfl)) (zv rfl (za1 (vq 3 rfl)) o0)))))) zk zk zk zk (fun a w hst=>?_)
 have hst:St B w0 30 [(4,_),(5,_),(6,_)] [⟨2,35,ptrH,_⟩,⟨3,35,ptrH,_⟩] a w:=hst
 refine zt<|gl (sts:=[none,none]) (news:=[]) (sp:=[.val 12 _,.val 13 _,.val 14 _]) [.g 0,.g 1,.g 2,.o 2] hst (zv rfl (za2 (gq 1 rfl)) (zv rfl (za2 (gq 2 rfl)) (zv rfl (zdh (vq 0 rfl) (vq 1 rfl)) o0))) (fun a w hst=>?_)
 have hst:St B w0 30 [(4,_),(5,_),(6,_),(14,_)] [⟨2,35,ptrH,_⟩,⟨3,35,ptrH,_⟩] a w:=hst
 refine za0 ?_
 refine za8 hst (zm 3 rfl) (fun hb0=>?_) (fun hb0=>?_)
 ·refine wp_seq ?_
  refine wp_seq ?_
  refine gl (sts:=[none,none]) (news:=[]) (sp:=[.val 15 _,.val 16 _,.val 17 _]) [.g 0,.o 2] hst (zv rfl (za2 (gq 1 rfl)) (zv rfl (za2 (gq 2 rfl)) (zv rfl (zbt (vq 0 rfl) (vq 1 rfl)) o0))) (fun a w hst=>?_)
  have hst:St B w0 30 [(4,_),(17,_)] [⟨2,35,ptrH,_⟩,⟨3,35,ptrH,_⟩] a w:=hst
  refine za0 ?_
  refine za8 hst (zm 1 rfl) (fun hb1=>?_) (fun hb1=>?_)
  ·refine wp_seq ?_
   refine gl (sts:=[none,none]) (news:=[]) (sp:=[.val 4 _]) [.o 0] hst (zv rfl (za1 za3) o0) (fun a w hst=>?_)
   have hst:St B w0 30 [(4,_)] [⟨2,35,ptrH,_⟩,⟨3,35,ptrH,_⟩] a w:=hst
   refine za0 ?_
   refine wp_ret ?_
   refine zad ?_
   refine zad ?_
   refine zak ?_ (zaa rfl hst (zm 0 rfl))
   exact nu (cmp_e0 hb0 hb1)
  ·refine wp_skip ?_
   refine zt<|gl (sts:=[none,none]) (news:=[]) (sp:=[.val 4 _]) [.o 0] hst (zv rfl (za1 za3) o0) (fun a w hst=>?_)
   have hst:St B w0 30 [(4,_)] [⟨2,35,ptrH,_⟩,⟨3,35,ptrH,_⟩] a w:=hst
   refine za0 ?_
   refine wp_ret ?_
   refine zad ?_
   refine zak ?_ (zaa rfl hst (zm 0 rfl))
   exact nu (cmp_e1 hb0 hb1)
 ·refine wp_skip ?_
  refine zt<|gl (sts:=[none,none]) (news:=[]) (sp:=[.adr 18 2 (.some 1) True,.val 19 _,.adr 20 3 (.some 1) True,.val 21 _,.val 22 _,.val 7 _]) [.g 0,.o 5] hst (oc (ob_a rfl rfl (za7 (lz0 0 rfl) zag)) (zv rfl (za4 0 rfl zk trivial (lz0 0 rfl) (Sub.part 1 rfl rfl) zb8) (oc (ob_a rfl rfl (za7 (lz0 1 rfl) zag)) (zv rfl (za4 2 rfl zk trivial (lz0 1 rfl) (Sub.part 1 rfl rfl) zb8) (zv rfl (za5 (xs:=[.tmp 19,.tmp 21]) (size_c _ _) (.cons (vq 1 rfl) (.cons (vq 3 rfl) .nil))) (zv rfl (za1 (vq 4 rfl)) o0)))))) (fun a w hst=>?_)
  have hst:St B w0 30 [(4,_),(7,_)] [⟨2,35,ptrH,_⟩,⟨3,35,ptrH,_⟩] a w:=hst
  refine zt ?_
  refine wp_seq ?_
  refine gl (sts:=[none,none]) (news:=[]) (sp:=[.adr 23 2 (.some 0) True,.val 24 _]) [.g 0,.g 1,.o 1] hst (oc (ob_a rfl rfl (za7 (lz0 0 rfl) zb2)) (zv rfl (za4 0 rfl zk trivial (lz0 0 rfl) (Sub.part 0 rfl rfl) ty_4) o0)) (fun a w hst=>?_)
  have hst:St B w0 30 [(4,_),(7,_),(24,_)] [⟨2,35,ptrH,_⟩,⟨3,35,ptrH,_⟩] a w:=hst
  refine za0 ?_
  refine zc3 (fun a w =>  St B w0 30 [(7,In (if x.neg then -(sizeL x.mag y.mag) else sizeL x.mag y.mag))] [⟨2,35,ptrH,RIA x⟩,⟨3,35,ptrH,RIA y⟩] a w) hst (zm 2 rfl) (fun hb2=>?_) (fun hb2=>?_) (fun a w hst=>?_)
  ·refine gl (sts:=[none,none]) (news:=[]) (sp:=[.val 25 _,.val 26 _,.val 7 _]) [.g 0,.o 2] hst (zv rfl (za2 (gq 1 rfl)) (zv rfl (r_neg (vq 0 rfl) ((wi64 zo zo).trans (Int.zero_sub _))) (zv rfl (za1 (vq 1 rfl)) o0))) (fun a w hst=>?_)
   have hst:St B w0 30 [(4,_),(7,_)] [⟨2,35,ptrH,_⟩,⟨3,35,ptrH,_⟩] a w:=hst
   refine za0 ?_
   have hst:=St.sel hst [1]
   rw [if_pos hb2]; exact hst
  ·refine wp_skip ?_
   refine za0 ?_
   have hst:=St.sel hst [1]
   rw [if_neg (by rw [hb2]; decide)]; exact hst
  refine zt<|gl (sts:=[none,none]) (news:=[]) (sp:=[.val 27 _,.val 28 _,.val 29 _,.val 4 _]) [.o 3] hst (zv rfl (za2 (gq 0 rfl)) (zv rfl (r_min za3 (vq 0 rfl)) (zv rfl (r_max za3 (vq 1 rfl)) (zv rfl (za1 (vq 2 rfl)) o0)))) (fun a w hst=>?_)
  have hst:St B w0 30 [(4,_)] [⟨2,35,ptrH,_⟩,⟨3,35,ptrH,_⟩] a w:=hst
  refine za0 ?_
  refine wp_ret ?_
  refine zak ?_ (zaa rfl hst (zm 0 rfl))
  exact nu (cmp_e2 hb0)
theorem check_c (x:RI):Cn Tryz.prog 131 [(RIA x).va] (In (if okRI x then 0 else 1)):=by
 refine Cn.intro Tryz.func131 rfl zk nq (fun B w0 a hst=>?_)
 have hst:St B w0 34 [(0,(RIA x).va)] [] a w0.w:=hst
 have hk:=(zgr (hst.vals _ (zm 0 rfl))).2
 refine wp_seq ?_
 refine gl (sts:=[]) (news:=[⟨1,35,ptrH,some 0,_,none⟩]) (sp:=[.alc 0,.val 2 _]) [.o 1] hst (oc (zan rfl rfl rfl (gq 0 rfl)) (zv rfl (za1 za3) o0)) (fun a w hst=>?_)
 have hst:St B w0 34 [(2,_)] [⟨1,35,ptrH,_⟩] a w:=hst
 refine zt ?_
 refine wp_seq ?_
 refine gl (sts:=[none]) (news:=[]) (sp:=((.adr 3 1 (.some 1) True:Sp)::(.val 4 _)::(.val 5 _)::(.val 6 _)::(.val 7 _)::(.adr 8 1 (.some 1) (_=false))::(.val 9 (Wh (_=false) _))::(.val 10 (Wh (_=false) _))::(.val 11 (Wh (_=false) _))::(.val 12 (Wh (_=false) _))::(.adr 13 1 (.some 1) ((_=false)∧_=true))::(.val 14 (Wh ((_=false)∧_=true) _))::(.adr 15 1 (.some 1) ((_=false)∧_=true))::(.val 16 (Wh ((_=false)∧_=true) _))::(.val 17 (Wh ((_=false)∧_=true) _))::(.val 18 (Wh ((_=false)∧_=true) _))::(.val 19 (Wh ((_=false)∧_=true) _))::(.val 20 (Wh ((_=false)∧_=true) _))::(.val 21 (Wh ((_=false)∧_=true) _))::(.val 22 (Wh (_=false) _))::(.val 23 _)::(.val 24 _)::(.adr 25 1 (.some 1) (_=false))::(.val 26 (Wh (_=false) _))::(.val 27 (Wh (_=false) _))::(.val 28 (Wh (_=false) _))::(.val 29 (Wh (_=false) _))::(.adr 30 1 (.some 0) ((_=false)∧_=true))::(.val 31 (Wh ((_=false)∧_=true) _))::(.val 32 (Wh (_=false) _))::(.val 33 _)::[])) [.g 0,.o 30] hst (oc (ob_a rfl rfl (za7 (lz0 0 rfl) zag)) (zv rfl (za4 0 rfl zk trivial (lz0 0 rfl) (Sub.part 1 rfl rfl) zb8) (zv rfl (zaw Tryz.underlying33 (vq 1 rfl)) (zv rfl (zdo (vq 2 rfl) za3) (zv rfl (za2 (vq 3 rfl)) (oc (zbz rfl rfl rfl (vq 4 rfl) nq (fun hg=>za7 (lz0 0 rfl) zag)) (oc (zal rfl rfl rfl (vq 4 rfl) nq (fun hg=>za4 5 rfl zk hg (lz0 0 rfl) (Sub.part 1 rfl rfl) zb8)) (oc (zal rfl rfl rfl (vq 4 rfl) nq (fun hg=>zaw Tryz.underlying33 (zae (vq 6 rfl) hg))) (oc (zal rfl rfl rfl (vq 4 rfl) nq (fun hg=>zdo (zae (vq 7 rfl) hg) za3)) (oc (zal rfl rfl rfl (vq 4 rfl) nq (fun hg=>za2 (zae (vq 8 rfl) hg))) (oc (zix rfl rfl rfl (vq 9 rfl) nq (fun hg=>za7 (lz0 0 rfl) zag)) (oc (zdj rfl rfl rfl (vq 9 rfl) nq (fun hg=>za4 10 rfl zk hg (lz0 0 rfl) (Sub.part 1 rfl rfl) zb8)) (oc (zix rfl rfl rfl (vq 9 rfl) nq (fun hg=>za7 (lz0 0 rfl) zag)) (oc (zdj rfl rfl rfl (vq 9 rfl) nq (fun hg=>za4 12 rfl zk hg (lz0 0 rfl) (Sub.part 1 rfl rfl) zb8)) (oc (zdj rfl rfl rfl (vq 9 rfl) nq (fun hg=>zaw Tryz.underlying33 (zae (vq 13 rfl) hg))) (oc (zdj rfl rfl rfl (vq 9 rfl) nq (fun hg=>zcl (zae (vq 14 rfl) hg) za3 (wi_pm (by have h:=hg.2; simp at h; omega) hk))) (oc (zdj rfl rfl rfl (vq 9 rfl) nq (fun hg=>r_idxmd zb4 (zae (vq 11 rfl) hg) (zae (vq 15 rfl) hg) (by have h:=hg.2; simp at h; omega))) (oc (zdj rfl rfl rfl (vq 9 rfl) nq (fun hg=>zav (zae (vq 16 rfl) hg) zb0)) (oc (zdj rfl rfl rfl (vq 9 rfl) nq (fun hg=>zc2 (zae (vq 17 rfl) hg) (zar 0 rfl))) (oc (zal rfl rfl rfl (vq 4 rfl) nq (fun hg=>zcj (zae (vq 9 rfl) hg) (zjz (vq 18 rfl) hg))) (zv rfl (r_or (vq 4 rfl) (vq 19 rfl)) (zv rfl (za2 (vq 20 rfl)) (oc (zbz rfl rfl rfl (vq 21 rfl) nq (fun hg=>za7 (lz0 0 rfl) zag)) (oc (zal rfl rfl rfl (vq 21 rfl) nq (fun hg=>za4 22 rfl zk hg (lz0 0 rfl) (Sub.part 1 rfl rfl) zb8)) (oc (zal rfl rfl rfl (vq 21 rfl) nq (fun hg=>zaw Tryz.underlying33 (zae (vq 23 rfl) hg))) (oc (zal rfl rfl rfl (vq 21 rfl) nq (fun hg=>zc2 (zae (vq 24 rfl) hg) za3)) (oc (zal rfl rfl rfl (vq 21 rfl) nq (fun hg=>za2 (zae (vq 25 rfl) hg))) (oc (zix rfl rfl rfl (vq 26 rfl) nq (fun hg=>za7 (lz0 0 rfl) zb2)) (oc (zdj rfl rfl rfl (vq 26 rfl) nq (fun hg=>za4 27 rfl zk hg (lz0 0 rfl) (Sub.part 0 rfl rfl) ty_4)) (oc (zal rfl rfl rfl (vq 21 rfl) nq (fun hg=>zcj (zae (vq 26 rfl) hg) (zjz (vq 28 rfl) hg))) (zv rfl (r_or (vq 21 rfl) (vq 29 rfl)) o0))))))))))))))))))))))))))))))) (fun a w hst=>?_)
 have hst:St B w0 34 [(2,_),(33,_)] [⟨1,35,ptrH,_⟩] a w:=hst
 refine za0 ?_
 refine za8 hst (zm 1 rfl) (fun hb0=>?_) (fun hb0=>?_)
 ·refine wp_seq ?_
  refine gl (sts:=[none]) (news:=[]) (sp:=[.val 2 _]) [.o 0] hst (zv rfl (za1 za3) o0) (fun a w hst=>?_)
  have hst:St B w0 34 [(2,_)] [⟨1,35,ptrH,_⟩] a w:=hst
  refine za0 ?_
  refine wp_ret ?_
  refine zad ?_
  refine zak ?_ (zaa rfl hst (zm 0 rfl))
  exact nu (check_e0 hb0)
 ·refine wp_skip ?_
  refine zt<|gl (sts:=[none]) (news:=[]) (sp:=[.val 2 _]) [.o 0] hst (zv rfl (za1 za3) o0) (fun a w hst=>?_)
  have hst:St B w0 34 [(2,_)] [⟨1,35,ptrH,_⟩] a w:=hst
  refine za0 ?_
  refine wp_ret ?_
  refine zak ?_ (zaa rfl hst (zm 0 rfl))
  exact nu (check_e1 hb0)
theorem of_e0 {n:Int}(h0 : -9223372036854775808≤n)(h:decide (n<0)=true):IntKind.u64.wrap (0-IntKind.u64.wrap n)=(n.natAbs:Nat):=by
 simp at h; simp [IntKind.wrap,IntKind.bits,IntKind.signed]; omega
theorem of_e1 {n:Int}(h1:n<9223372036854775808)(h:decide (n<0)=false):IntKind.u64.wrap n=(n.natAbs:Nat):=by
 simp at h; simp [IntKind.wrap,IntKind.bits,IntKind.signed]; omega
theorem of_ok {n:Int}(h0 : -9223372036854775808≤n)(h1:n<9223372036854775808):okL [n.natAbs%4294967296,n.natAbs/4294967296]:=by
 intro x hx
 simp at hx
 rcases hx with rfl | rfl <;> omega
theorem of_e2 {n:Int}(h0 : -9223372036854775808≤n)(h1:n<9223372036854775808):(RIA (rsig (decide (n<0)) [n.natAbs%4294967296,n.natAbs/4294967296])).va=Zi n:=by
 rw [zc9 (of_ok h0 h1) (z:=n) (by simp [val]; omega) (fun _=>rfl)]
theorem of_c (n:Int)(h0 : -9223372036854775808≤n)(h1:n<9223372036854775808):Cn Tryz.prog 83 [In n] (Zi n):=by
 refine Cn.intro Tryz.func83 rfl zk nq (fun B w0 a hst=>?_)
 have hst:St B w0 19 [(0,In n)] [] a w0.w:=hst
 refine wp_seq ?_
 refine gl (sts:=[]) (news:=[⟨2,35,ptrH,some 0,_,none⟩]) (sp:=[.alc 0]) [.g 0] hst (oc (zap rfl rfl rfl (Str.zero zbs)) o0) (fun a w hst=>?_)
 have hst:St B w0 19 [(0,_)] [⟨2,35,ptrH,_⟩] a w:=hst
 refine zt<|gl (sts:=[none]) (news:=[]) (sp:=[.val 4 _,.val 5 _,.val 3 _]) [.g 0,.o 2] hst (zv rfl (za2 (gq 0 rfl)) (zv rfl (zau .u64 zk zk (vq 0 rfl) (rfl)) (zv rfl (za1 (vq 1 rfl)) o0))) (fun a w hst=>?_)
 have hst:St B w0 19 [(0,_),(3,_)] [⟨2,35,ptrH,_⟩] a w:=hst
 refine zt ?_
 refine wp_seq ?_
 refine gl (sts:=[none]) (news:=[]) (sp:=[.val 6 _,.val 7 _]) [.g 0,.g 1,.o 1] hst (zv rfl (za2 (gq 0 rfl)) (zv rfl (zbt (vq 0 rfl) za3) o0)) (fun a w hst=>?_)
 have hst:St B w0 19 [(0,_),(3,_),(7,_)] [⟨2,35,ptrH,_⟩] a w:=hst
 refine za0 ?_
 refine zc3 (fun a w =>  St B w0 19 [(0,In n),(3,(NumA .u64 (n.natAbs:Nat)).va)] [⟨2,35,ptrH,cat [BoA false,MgA []]⟩] a w) hst (zm 2 rfl) (fun hb0=>?_) (fun hb0=>?_) (fun a w hst=>?_)
 ·refine gl (sts:=[none]) (news:=[]) (sp:=[.val 8 _,.val 9 _,.val 3 _]) [.g 0,.o 2] hst (zv rfl (za2 (gq 1 rfl)) (zv rfl (r_neg (vq 0 rfl) (rfl)) (zv rfl (za1 (vq 1 rfl)) o0))) (fun a w hst=>?_)
  have hst:St B w0 19 [(0,_),(3,_)] [⟨2,35,ptrH,_⟩] a w:=hst
  refine za0 ?_
  have hst:=St.sel hst [0,1]
  rw [of_e0 h0 hb0] at hst; exact hst
 ·refine wp_skip ?_
  refine za0 ?_
  have hst:=St.sel hst [0,1]
  rw [of_e1 h1 hb0] at hst; exact hst
 refine zt<|gl (sts:=[some (9,_)]) (news:=[]) (sp:=[.val 10 _,.val 11 _,.val 12 _,.val 13 _,.val 14 _,.val 15 _,.val 16 _,.val 17 _,.val 18 _,.sto 0]) [] hst (zv rfl (za2 (gq 0 rfl)) (zv rfl (zbt (vq 0 rfl) za3) (zv rfl (za2 (gq 1 rfl)) (zv rfl (zau .u32 zk zk (vq 2 rfl) (wu32')) (zv rfl (za2 (gq 1 rfl)) (zv rfl (zgs (vq 4 rfl) (zar 32 rfl) zd (nshr)) (zv rfl (zau .u32 zk zk (vq 5 rfl) (wu32 (by show n.natAbs/4294967296<_; omega))) (zv rfl (zdm (l:=[_,_]) (xs:=[.tmp 13,.tmp 16]) zb4 zk nq nq (of_ok h0 h1) (.cons (vq 3 rfl) (.cons (vq 6 rfl) .nil)) rfl rfl) (zv rfl (za5 (xs:=[.tmp 11,.tmp 17]) (zg6 _ _) (.cons (vq 1 rfl) (.cons (vq 7 rfl) .nil))) (oc (zaf rfl rfl rfl (vq 8 rfl) zab (Eq.trans (b:=2) rfl rfl)) o0)))))))))) (fun a w hst=>?_)
 have hst:St B w0 19 [] [⟨2,35,ptrH,_⟩] a w:=hst
 refine za0 ?_
 refine wp_ret ?_
 refine zak ?_ (zam rfl hst (zm 0 rfl) zab)
 exact of_e2 h0 h1
theorem zch {m n:Nat}(h:m≤n):(limbs m).length≤(limbs n).length:=zdx (Nat.lt_of_le_of_lt h (zce (Nat.le_refl _)))
theorem zdn {m n:Nat}:(0≤sizeL (limbs m) (limbs n)↔n≤m)∧(0<sizeL (limbs m) (limbs n)↔n<m):=by
 unfold sizeL
 rw [zat,zat]
 by_cases h:(limbs m).length=(limbs n).length
 ·rw [if_neg zo]
  split
  ·omega
  ·split <;> omega
 ·rw [if_pos zo]
  by_cases h2:m≤n
  ·have:=zch h2
   have:m≠n:=fun e=>h (by rw [e])
   omega
  ·have:=zch (Nat.le_of_lt (Nat.lt_of_not_le h2))
   omega
theorem val_sum {a b:Nat}:val (digs (max (limbs a).length (limbs b).length+1) (a+b))=a+b:=by
 rw [zdk,Nat.mod_eq_of_lt]
 have h1:=zce (n:=a) (k:=max (limbs a).length (limbs b).length) (Nat.le_max_left _ _)
 have h2:=zce (n:=b) (k:=max (limbs a).length (limbs b).length) (Nat.le_max_right _ _)
 rw [Nat.pow_succ]
 omega
theorem plus_e0 {a b:Int}(h:((riOf a).neg==(riOf b).neg)=true):(RIA (rsig (riOf a).neg (digs (max (riOf a).mag.length (riOf b).mag.length+1) (val (riOf a).mag+val (riOf b).mag)))).va=Zi (a+b):=by
 have h':decide (a<0)=decide (b<0):=by simpa [riOf] using h
 rw [zbp,zbp,zc9 (zc1 _ _) (z:=a+b) (by show val (digs (max (limbs a.natAbs).length (limbs b.natAbs).length+1) _)=_; rw [val_sum]; simp only [decide_eq_decide] at h'; omega) (fun hz=>by show decide (a<0)=_; simp only [decide_eq_decide] at h' ⊢; omega)]
theorem plus_e1 {a b:Int}(h:((riOf a).neg==(riOf b).neg)=false)(h2:b.natAbs≤a.natAbs):(RIA (rsig (riOf a).neg (limbs (val (riOf a).mag-val (riOf b).mag)))).va=Zi (a+b):=by
 have h':¬ decide (a<0)=decide (b<0):=by simpa [riOf] using h
 rw [zbp,zbp,zc9 (zbd _).1 (z:=a+b) (by rw [zat]; simp only [decide_eq_decide] at h'; omega) (fun hz=>by show decide (a<0)=_; simp only [decide_eq_decide] at h' ⊢; omega)]
theorem plus_e2 {a b:Int}(h:((riOf a).neg==(riOf b).neg)=false)(h2:a.natAbs≤b.natAbs):(RIA (rsig (riOf b).neg (limbs (val (riOf b).mag-val (riOf a).mag)))).va=Zi (a+b):=by
 have h':¬ decide (a<0)=decide (b<0):=by simpa [riOf] using h
 rw [zbp,zbp,zc9 (zbd _).1 (z:=a+b) (by rw [zat]; simp only [decide_eq_decide] at h'; omega) (fun hz=>by show decide (b<0)=_; simp only [decide_eq_decide] at h' ⊢; omega)]
theorem zgu {a b:Int}(h:decide (sizeL (riOf a).mag (riOf b).mag≥0)=true):b.natAbs≤a.natAbs:=(zdn (m:=a.natAbs) (n:=b.natAbs)).1.1 (by simpa [riOf] using h)
theorem zgt {a b:Int}(h:decide (sizeL (riOf a).mag (riOf b).mag≥0)=false):a.natAbs≤b.natAbs:=by
 have:=(zdn (m:=a.natAbs) (n:=b.natAbs)).1
 have h':¬ 0≤sizeL (limbs a.natAbs) (limbs b.natAbs):=by simpa [riOf] using h
 omega
theorem minus_e {b:Int}:(cat (setAll [BoA false,MgA []] [(0,BoA (!(riOf b).neg&&decide (((riOf b).mag.length:Int)>0))),(1,MgA (riOf b).mag)])).va=Zi (-b):=by
 have e:(!(riOf b).neg&&decide (((riOf b).mag.length:Int)>0))=(riOf (-b)).neg:=by
  by_cases h:b=0
  ·subst h; simp [riOf,zbo]
  ·have:0<(limbs b.natAbs).length:=by rw [zcy zo]; simp
   simp [riOf,this]
   by_cases h2:b<0 <;> simp [h2] <;> omega
 rw [e]
 have e2:(riOf b).mag=(riOf (-b)).mag:=by simp [riOf]
 rw [e2]
 rfl
theorem zh6 (b:Int):lz (-b)=lz b:=by simp [lz]
theorem plus_c (p q:Int)(hp:lz p≤1099511627776)(hq:lz q≤1099511627776):Cn Tryz.prog 97 [Zi p,Zi q] (Zi (p+q)):=by
 refine Cn.intro Tryz.func97 rfl zk nq (fun B w0 a hst=>?_)
 have hst:St B w0 40 [(0,Zi p),(1,Zi q)] [] a w0.w:=hst
 refine wp_seq ?_
 refine gl (sts:=[]) (news:=[⟨2,35,ptrH,some 0,_,none⟩,⟨3,35,ptrH,some 1,_,none⟩,⟨4,35,ptrH,some 2,_,none⟩]) (sp:=[.alc 0,.alc 1,.alc 2]) [] hst (oc (zan rfl rfl rfl (gq 0 rfl)) (oc (zan rfl rfl rfl (gq 1 rfl)) (oc (zap rfl rfl rfl (Str.zero zbs)) o0))) (fun a w hst=>?_)
 have hst:St B w0 40 [] [⟨2,35,ptrH,_⟩,⟨3,35,ptrH,_⟩,⟨4,35,ptrH,_⟩] a w:=hst
 refine zt ?_
 refine wp_seq ?_
 refine gl (sts:=[none,none,none]) (news:=[]) (sp:=[.adr 5 2 (.some 0) True,.val 6 _,.adr 7 3 (.some 0) True,.val 8 _,.val 9 _]) [.o 4] hst (oc (ob_a rfl rfl (za7 (lz0 0 rfl) zb2)) (zv rfl (za4 0 rfl zk trivial (lz0 0 rfl) (Sub.part 0 rfl rfl) ty_4) (oc (ob_a rfl rfl (za7 (lz0 1 rfl) zb2)) (zv rfl (za4 2 rfl zk trivial (lz0 1 rfl) (Sub.part 0 rfl rfl) ty_4) (zv rfl (r_eqlb zk (vq 1 rfl) (vq 3 rfl)) o0))))) (fun a w hst=>?_)
 have hst:St B w0 40 [(9,_)] [⟨2,35,ptrH,_⟩,⟨3,35,ptrH,_⟩,⟨4,35,ptrH,_⟩] a w:=hst
 refine za0 ?_
 refine za8 hst (zm 0 rfl) (fun hb0=>?_) (fun hb0=>?_)
 ·refine wp_seq ?_
  refine zaz (anc:=[[],[0],[],[2],[],[4],[2,3,4,5],[0,1,2,3,4,5,6],[0,1,2,3,4,5,6,7]]) (sts:=[none,none,some (8,_)]) (news:=[]) (sp:=[.adr 10 2 (.some 0) True,.val 11 _,.adr 12 2 (.some 1) True,.val 13 _,.adr 14 3 (.some 1) True,.val 15 _,.val 16 _,.val 17 _,.sto 2]) [] za6 hst (oc (ob_a rfl rfl (za7 (lz0 0 rfl) zb2)) (zv rfl (za4 0 rfl zk trivial (lz0 0 rfl) (Sub.part 0 rfl rfl) ty_4) (oc (ob_a rfl rfl (za7 (lz0 0 rfl) zag)) (zv rfl (za4 2 rfl zk trivial (lz0 0 rfl) (Sub.part 1 rfl rfl) zb8) (oc (ob_a rfl rfl (za7 (lz0 1 rfl) zag)) (zv rfl (za4 4 rfl zk trivial (lz0 1 rfl) (Sub.part 1 rfl rfl) zb8) (zv rfl (za5 (xs:=[.tmp 13,.tmp 15]) ((add_c _ _ hp hq).free (zgg _).va) (.cons (vq 3 rfl) (.cons (vq 5 rfl) .nil))) (zv rfl (za5 (xs:=[.tmp 11,.tmp 16]) (zg6 _ _) (.cons (vq 1 rfl) (.cons (vq 6 rfl) .nil))) (oc (zaf rfl rfl rfl (vq 7 rfl) zab (Eq.trans (b:=2) rfl rfl)) o0))))))))) zk zk zk zk (fun a w hst=>?_)
  have hst:St B w0 40 [] [⟨2,35,ptrH,_⟩,⟨3,35,ptrH,_⟩,⟨4,35,ptrH,_⟩] a w:=hst
  refine za0 ?_
  refine wp_ret ?_
  refine zad ?_
  refine zak ?_ (zam rfl hst (zm 2 rfl) zab)
  exact plus_e0 hb0
 ·refine wp_skip ?_
  refine zt ?_
  refine wp_seq ?_
  refine gl (sts:=[none,none,none]) (news:=[]) (sp:=[.adr 18 2 (.some 1) True,.val 19 _,.adr 20 3 (.some 1) True,.val 21 _,.val 22 _,.val 23 _]) [.o 5] hst (oc (ob_a rfl rfl (za7 (lz0 0 rfl) zag)) (zv rfl (za4 0 rfl zk trivial (lz0 0 rfl) (Sub.part 1 rfl rfl) zb8) (oc (ob_a rfl rfl (za7 (lz0 1 rfl) zag)) (zv rfl (za4 2 rfl zk trivial (lz0 1 rfl) (Sub.part 1 rfl rfl) zb8) (zv rfl (za5 (xs:=[.tmp 19,.tmp 21]) (size_c _ _) (.cons (vq 1 rfl) (.cons (vq 3 rfl) .nil))) (zv rfl (zee (vq 4 rfl) za3) o0)))))) (fun a w hst=>?_)
  have hst:St B w0 40 [(23,_)] [⟨2,35,ptrH,_⟩,⟨3,35,ptrH,_⟩,⟨4,35,ptrH,_⟩] a w:=hst
  refine za0 ?_
  refine za8 hst (zm 0 rfl) (fun hb1=>?_) (fun hb1=>?_)
  ·refine wp_seq ?_
   refine zaz (anc:=[[],[0],[],[2],[],[4],[2,3,4,5],[0,1,2,3,4,5,6],[0,1,2,3,4,5,6,7]]) (sts:=[none,none,some (8,_)]) (news:=[]) (sp:=[.adr 24 2 (.some 0) True,.val 25 _,.adr 26 2 (.some 1) True,.val 27 _,.adr 28 3 (.some 1) True,.val 29 _,.val 30 _,.val 31 _,.sto 2]) [] za6 hst (oc (ob_a rfl rfl (za7 (lz0 0 rfl) zb2)) (zv rfl (za4 0 rfl zk trivial (lz0 0 rfl) (Sub.part 0 rfl rfl) ty_4) (oc (ob_a rfl rfl (za7 (lz0 0 rfl) zag)) (zv rfl (za4 2 rfl zk trivial (lz0 0 rfl) (Sub.part 1 rfl rfl) zb8) (oc (ob_a rfl rfl (za7 (lz0 1 rfl) zag)) (zv rfl (za4 4 rfl zk trivial (lz0 1 rfl) (Sub.part 1 rfl rfl) zb8) (zv rfl (za5 (xs:=[.tmp 27,.tmp 29]) ((sub_c _ _ hp (zch (zgu hb1)) (by show val (limbs _)≤val (limbs _); rw [zat,zat]; exact zgu hb1)).free (zgg _).va) (.cons (vq 3 rfl) (.cons (vq 5 rfl) .nil))) (zv rfl (za5 (xs:=[.tmp 25,.tmp 30]) (zg6 _ _) (.cons (vq 1 rfl) (.cons (vq 6 rfl) .nil))) (oc (zaf rfl rfl rfl (vq 7 rfl) zab (Eq.trans (b:=2) rfl rfl)) o0))))))))) zk zk zk zk (fun a w hst=>?_)
   have hst:St B w0 40 [] [⟨2,35,ptrH,_⟩,⟨3,35,ptrH,_⟩,⟨4,35,ptrH,_⟩] a w:=hst
   refine za0 ?_
   refine wp_ret ?_
   refine zad ?_
   refine zak ?_ (zam rfl hst (zm 2 rfl) zab)
   exact plus_e1 hb0 (zgu hb1)
  ·refine wp_skip ?_
   refine zt<|zaz (anc:=[[],[0],[],[2],[],[4],[2,3,4,5],[0,1,2,3,4,5,6],[0,1,2,3,4,5,6,7]]) (sts:=[none,none,some (8,_)]) (news:=[]) (sp:=[.adr 32 3 (.some 0) True,.val 33 _,.adr 34 3 (.some 1) True,.val 35 _,.adr 36 2 (.some 1) True,.val 37 _,.val 38 _,.val 39 _,.sto 2]) [] za6 hst (oc (ob_a rfl rfl (za7 (lz0 1 rfl) zb2)) (zv rfl (za4 0 rfl zk trivial (lz0 1 rfl) (Sub.part 0 rfl rfl) ty_4) (oc (ob_a rfl rfl (za7 (lz0 1 rfl) zag)) (zv rfl (za4 2 rfl zk trivial (lz0 1 rfl) (Sub.part 1 rfl rfl) zb8) (oc (ob_a rfl rfl (za7 (lz0 0 rfl) zag)) (zv rfl (za4 4 rfl zk trivial (lz0 0 rfl) (Sub.part 1 rfl rfl) zb8) (zv rfl (za5 (xs:=[.tmp 35,.tmp 37]) ((sub_c _ _ hq (zch (zgt hb1)) (by show val (limbs _)≤val (limbs _); rw [zat,zat]; exact zgt hb1)).free (zgg _).va) (.cons (vq 3 rfl) (.cons (vq 5 rfl) .nil))) (zv rfl (za5 (xs:=[.tmp 33,.tmp 38]) (zg6 _ _) (.cons (vq 1 rfl) (.cons (vq 6 rfl) .nil))) (oc (zaf rfl rfl rfl (vq 7 rfl) zab (Eq.trans (b:=2) rfl rfl)) o0))))))))) zk zk zk zk (fun a w hst=>?_)
   have hst:St B w0 40 [] [⟨2,35,ptrH,_⟩,⟨3,35,ptrH,_⟩,⟨4,35,ptrH,_⟩] a w:=hst
   refine za0 ?_
   refine wp_ret ?_
   refine zak ?_ (zam rfl hst (zm 2 rfl) zab)
   exact plus_e2 hb0 (zgt hb1)
theorem minus_c (p q:Int)(hp:lz p≤1099511627776)(hq:lz q≤1099511627776):Cn Tryz.prog 135 [Zi p,Zi q] (Zi (p-q)):=by
 refine Cn.intro Tryz.func135 rfl zk nq (fun B w0 a hst=>?_)
 have hst:St B w0 19 [(0,Zi p),(1,Zi q)] [] a w0.w:=hst
 refine wp_seq ?_
 refine gl (sts:=[]) (news:=[⟨2,35,ptrH,some 0,_,none⟩,⟨3,35,ptrH,some 1,_,none⟩,⟨4,35,ptrH,some 2,_,none⟩]) (sp:=[.alc 0,.alc 1,.alc 2]) [] hst (oc (zan rfl rfl rfl (gq 0 rfl)) (oc (zan rfl rfl rfl (gq 1 rfl)) (oc (zap rfl rfl rfl (Str.zero zbs)) o0))) (fun a w hst=>?_)
 have hst:St B w0 19 [] [⟨2,35,ptrH,_⟩,⟨3,35,ptrH,_⟩,⟨4,35,ptrH,_⟩] a w:=hst
 refine zt<|gl (sts:=[none,none,some (14,_)]) (news:=[]) (sp:=[.val 5 _,.adr 6 3 (.some 0) True,.val 7 _,.val 8 _,.val 9 _,.adr 10 3 (.some 1) (_=true),.val 11 (Wh (_=true) _),.val 12 (Wh (_=true) _),.val 13 (Wh (_=true) _),.val 14 _,.adr 15 3 (.some 1) True,.val 16 _,.val 17 _,.val 18 _,.sto 2]) [] hst (zv rfl (zaq (lz0 0 rfl) zab) (oc (ob_a rfl rfl (za7 (lz0 1 rfl) zb2)) (zv rfl (za4 1 rfl zk trivial (lz0 1 rfl) (Sub.part 0 rfl rfl) ty_4) (zv rfl (zev (vq 2 rfl)) (zv rfl (za2 (vq 3 rfl)) (oc (zbz rfl rfl rfl (vq 4 rfl) nq (fun hg=>za7 (lz0 1 rfl) zag)) (oc (zal rfl rfl rfl (vq 4 rfl) nq (fun hg=>za4 5 rfl zk hg (lz0 1 rfl) (Sub.part 1 rfl rfl) zb8)) (oc (zal rfl rfl rfl (vq 4 rfl) nq (fun hg=>zaw Tryz.underlying33 (zae (vq 6 rfl) hg))) (oc (zal rfl rfl rfl (vq 4 rfl) nq (fun hg=>zdo (zae (vq 7 rfl) hg) za3)) (zv rfl (zcj (vq 4 rfl) (vq 8 rfl)) (oc (ob_a rfl rfl (za7 (lz0 1 rfl) zag)) (zv rfl (za4 10 rfl zk trivial (lz0 1 rfl) (Sub.part 1 rfl rfl) zb8) (zv rfl (zbb (xs:=[(0,.tmp 14),(1,.tmp 16)]) (qs:=[(0,_),(1,_)]) zbs (.cons ⟨rfl,(vq 9 rfl),rfl⟩ (.cons ⟨rfl,(vq 11 rfl),rfl⟩ .nil))) (zv rfl (za5 (xs:=[.tmp 5,.tmp 17]) ((plus_c p (-q) hp (by rw [zh6]; exact hq)).pre (congrArg (fun A=>[Zi p,A]) minus_e)) (.cons (vq 0 rfl) (.cons (vq 12 rfl) .nil))) (oc (zaf rfl rfl rfl (vq 13 rfl) zab (Eq.trans (b:=2) rfl rfl)) o0))))))))))))))) (fun a w hst=>?_)
 have hst:St B w0 19 [] [⟨2,35,ptrH,_⟩,⟨3,35,ptrH,_⟩,⟨4,35,ptrH,_⟩] a w:=hst
 refine za0 ?_
 refine wp_ret ?_
 refine zak ?_ (zam rfl hst (zm 2 rfl) zab)
 exact congrArg Zi Int.sub_eq_add_neg.symm
theorem turnedZ_c (p:Int)(hp:lz p≤1099511627776):Cn Tryz.prog 103 [Zi p] (Zi (-p)):=by
 refine Cn.intro Tryz.func103 rfl zk nq (fun B w0 a hst=>?_)
 have hst:St B w0 6 [(0,Zi p)] [] a w0.w:=hst
 refine wp_seq ?_
 refine gl (sts:=[]) (news:=[⟨1,35,ptrH,some 0,_,none⟩,⟨2,35,ptrH,some 1,_,none⟩]) (sp:=[.alc 0,.alc 1]) [] hst (oc (zan rfl rfl rfl (gq 0 rfl)) (oc (zap rfl rfl rfl (Str.zero zbs)) o0)) (fun a w hst=>?_)
 have hst:St B w0 6 [] [⟨1,35,ptrH,_⟩,⟨2,35,ptrH,_⟩] a w:=hst
 refine zt<|zaz (anc:=[[],[],[0,1],[0,1,2]]) (sts:=[none,some (3,_)]) (news:=[]) (sp:=[.val 3 _,.val 4 _,.val 5 _,.sto 1]) [] za6 hst (zv rfl (za5 (xs:=[.const (.int .i64 (0))]) (of_c 0 zd zd) (.cons za3 .nil)) (zv rfl (zaq (lz0 0 rfl) zab) (zv rfl (za5 (xs:=[.tmp 3,.tmp 4]) (minus_c 0 p (by simp [lz,zbo]) hp) (.cons (vq 0 rfl) (.cons (vq 1 rfl) .nil))) (oc (zaf rfl rfl rfl (vq 2 rfl) zab (Eq.trans (b:=2) rfl rfl)) o0)))) zk zk zk zk (fun a w hst=>?_)
 have hst:St B w0 6 [] [⟨1,35,ptrH,_⟩,⟨2,35,ptrH,_⟩] a w:=hst
 refine za0 ?_
 refine wp_ret ?_
 refine zak ?_ (zam rfl hst (zm 1 rfl) zab)
 exact congrArg Zi (Int.zero_sub p)
end Go.Proofs.YtlpppkkggljdcaaGreat
namespace Go.Proofs.YtlpppkkggljdcaaGreat
open Go Go.RowKit
def shSt (l ext:List Nat)(d i:Nat):List Nat:=l.take i++digs (l.length-i) (val (l.drop i)/d)++ext
theorem shSt_top (l ext:List Nat)(d:Nat):shSt l ext d l.length=l++ext:=by simp [shSt,digs]
theorem shSt_end (l ext:List Nat)(d:Nat):shSt l ext d 0=digs l.length (val l/d)++ext:=by simp [shSt]
theorem shSt_len {l ext:List Nat}{d i:Nat}(h:i≤l.length):(shSt l ext d i).length=l.length+ext.length:=by simp [shSt,zah]; omega
theorem shSt_get {l ext:List Nat}{d i:Nat}(h:i<l.length)(h2:i<(shSt l ext d (i+1)).length):(shSt l ext d (i+1))[i]=l[i]:=by
 simp only [shSt,List.append_assoc]
 rw [List.getElem_append_left (by simp; omega),List.getElem_take]
theorem sh_eq (V x d:Nat):x+4294967296*V=d*(4294967296*(V/d))+(V%d*4294967296+x):=by
 have h:=Nat.div_add_mod V d
 have e:4294967296*V=4294967296*(d*(V/d)+V%d):=by rw [h]
 rw [Nat.mul_add,← Nat.mul_assoc,Nat.mul_comm 4294967296 d,Nat.mul_assoc] at e
 omega
theorem sh_div {V x d:Nat}(hd:0<d):(x+4294967296*V)/d=4294967296*(V/d)+(V%d*4294967296+x)/d:=by rw [sh_eq,Nat.mul_add_div hd]
theorem sh_mod {V x d:Nat}:(x+4294967296*V)%d=(V%d*4294967296+x)%d:=by rw [sh_eq,Nat.mul_add_mod]
theorem drop_val {l:List Nat}{i:Nat}(h:i<l.length):val (l.drop i)=l[i]+4294967296*val (l.drop (i+1)):=by rw [List.drop_eq_getElem_cons h]; rfl
theorem digs_cons (n q V:Nat)(hq:q<4294967296):digs (n+1) (4294967296*V+q)=q::digs n V:=by
 show (4294967296*V+q)%4294967296::digs n ((4294967296*V+q)/4294967296)=_
 rw [show (4294967296*V+q)%4294967296=q from by omega,show (4294967296*V+q)/4294967296=V from by omega]
theorem shSt_step {l ext:List Nat}{d i:Nat}(h:i<l.length)(hl:okL l)(hd:0<d):(shSt l ext d (i+1)).set i ((val (l.drop (i+1))%d*4294967296+l[i])/d)=shSt l ext d i:=by
 have hq:=div32_q (h:=val (l.drop (i+1))%d) (l:=l[i]) (d:=d) (Nat.mod_lt _ hd) (hl _ (List.getElem_mem h))
 unfold shSt
 rw [drop_val h,sh_div hd,show l.length-i=(l.length-(i+1))+1 from by omega,digs_cons _ _ _ hq,List.take_succ_eq_append_getElem h,List.append_assoc,List.append_assoc,List.append_assoc,zey _ _ _ _ (by simp; omega)]
 simp
theorem short_c (l ext:List Nat)(c d:Nat)(hl:okL l)(hls:l.length≤1099511627776)(hd0:0<d)(hd:d<4294967296):Cm Tryz.prog 147 130 (Nums .u32 (l++ext)) (Nums .u32 (digs l.length (val l/d)++ext)) [.w (slH l.length c),.v ((NumA .u32 (d:Nat)).va)] ((NumA .u32 (val l%d:Nat)).va):=by
 refine Cm.intro Tryz.func147 rfl zk nq (fun B g w0 a hst=>?_)
 have hst:St B w0 28 [(0,EqV ((slH l.length c).f g)),(1,(NumA .u32 (d:Nat)).va)] [⟨0,130,slH l.length c,Nums .u32 (l++ext)⟩] a w0.w:=hst
 refine wp_seq ?_
 refine gl (sts:=[none]) (news:=[]) (sp:=[.val 4 _]) [.g 0,.g 1,.o 0] hst (zv rfl (za1 (zar 0 rfl)) o0) (fun a w hst=>?_)
 have hst:St B w0 28 [(0,_),(1,_),(4,_)] [⟨0,130,slH _ _,_⟩] a w:=hst
 refine zt<|gl (sts:=[none]) (news:=[]) (sp:=[.val 5 _]) [.g 0,.g 1,.g 2,.o 0] hst (zv rfl (za1 (zar 0 rfl)) o0) (fun a w hst=>?_)
 have hst:St B w0 28 [(0,_),(1,_),(4,_),(5,_)] [⟨0,130,slH _ _,_⟩] a w:=hst
 refine zt ?_
 refine wp_seq ?_
 refine gl (sts:=[none]) (news:=[]) (sp:=[.adr 7 0 .none True,.val 8 _,.val 9 _,.val 6 _]) [.g 0,.g 1,.g 2,.g 3,.o 3] hst (oc (ob_a rfl rfl zck) (zv rfl (r_lenx 0 rfl zk (lz0 0 rfl) Tryz.underlying33) (zv rfl (zcl (vq 1 rfl) za3 (wi64 zo zo)) (zv rfl (za1 (vq 2 rfl)) o0)))) (fun a w hst=>?_)
 have hst:St B w0 28 [(0,_),(1,_),(4,_),(5,_),(6,_)] [⟨0,130,slH _ _,_⟩] a w:=hst
 refine za0 ?_
 refine wp_block ?_
 have hst:=St.sel hst [0,1,3,4]
 refine wp_loop_ghost (fun n a w=>n≤l.length∧St B w0 28 [(0,EqV ((slH l.length c).f g)),(1,(NumA .u32 (d:Nat)).va),(5,(NumA .u32 (val (l.drop n)%d:Nat)).va),(6,In ((n:Int)-1))] [⟨0,130,slH l.length c,Nums .u32 (shSt l ext d n)⟩] a w) (l.length) ?_ ?_
 ·exact ⟨Nat.le_refl _,by rw [shSt_top,List.drop_length,show val []%d=0 from by simp [val]]; exact hst⟩
 intro n a w hI
 obtain ⟨hn,hst⟩:=hI; have hlen:=shSt_len (ext:=ext) (d:=d) hn
 refine wp_seq ?_
 refine wp_seq ?_
 refine gl (sts:=[none]) (news:=[]) (sp:=[.val 10 _,.val 11 _]) [.g 0,.g 1,.g 2,.g 3,.o 1] hst (zv rfl (za2 (gq 3 rfl)) (zv rfl (zee (vq 0 rfl) za3) o0)) (fun a w hst=>?_)
 have hst:St B w0 28 [(0,_),(1,_),(5,_),(6,_),(11,_)] [⟨0,130,slH _ _,_⟩] a w:=hst
 refine za0 ?_
 refine za8 hst (zm 4 rfl) (fun hb0=>?_) (fun hb0=>?_)
 ·obtain ⟨j,rfl⟩:∃ j,n=j+1:=⟨n-1,by simp at hb0; omega⟩; rw [show ((j+1:Nat):Int)-1=(j:Int) from by omega] at hst
  refine wp_skip ?_
  refine zt ?_
  refine wp_block ?_
  refine gl (sts:=[some (13,_)]) (news:=[]) (sp:=[.adr 15 0 .none True,.val 16 _,.val 17 _,.adr 18 0 .none True,.val 19 _,.adr 20 0 (.some _) True,.val 21 _,.val 22 _,.val 23 _,.val 14 _,.val 24 _,.val 25 _,.adr 26 0 (.some _) True,.sto 0,.val 5 _]) [.g 0,.g 1,.g 3,.o 14] hst (oc (ob_a rfl rfl zck) (zv rfl (za2 (gq 3 rfl)) (zv rfl (za2 (gq 2 rfl)) (oc (ob_a rfl rfl zck) (zv rfl (za2 (gq 3 rfl)) (oc (ob_a rfl rfl (ze8 3 rfl zk (lz0 0 rfl) zb4 (vq 4 rfl) zo)) (zv rfl (r_loadx 5 rfl zk (lz0 0 rfl) (fun _=>zc7 _ _ _ _) (zjr zo) zb0) (zv rfl (za2 (gq 1 rfl)) (zv rfl (za5 (xs:=[.tmp 17,.tmp 21,.tmp 22]) (div32_c (Nat.mod_lt _ hd0) (by rw [shSt_get zo zo]; exact hl _ (List.getElem_mem _)) hd) (.cons (vq 2 rfl) (.cons (vq 6 rfl) (.cons (vq 7 rfl) .nil)))) (zv rfl (za2 (vq 8 rfl)) (zv rfl (zb1 (vq 9 rfl) rfl) (zv rfl (zb1 (vq 9 rfl) rfl) (oc (ob_a rfl rfl (ze8 0 rfl zk (lz0 0 rfl) zb4 (vq 1 rfl) zo)) (oc (zcg 12 rfl rfl rfl rfl zk (fun _=>zc7 _ _ _ _) (vq 10 rfl) zb0 (zbu zo)) (zv rfl (za1 (vq 11 rfl)) o0))))))))))))))) (fun a w hst=>?_)
  have hst:St B w0 28 [(0,_),(1,_),(6,_),(5,_)] [⟨0,130,slH _ _,_⟩] a w:=hst
  refine zaj ?_
  refine za0 ?_
  refine gl (sts:=[none]) (news:=[]) (sp:=[.val 12 _,.val 13 _,.val 6 _]) [.g 0,.g 1,.g 3,.o 2] hst (zv rfl (za2 (gq 2 rfl)) (zv rfl (zcl (vq 0 rfl) za3 (wi64 zo zo)) (zv rfl (za1 (vq 1 rfl)) o0))) (fun a w hst=>?_)
  have hst:St B w0 28 [(0,_),(1,_),(5,_),(6,_)] [⟨0,130,slH _ _,_⟩] a w:=hst
  refine za0 ?_
  have hst:=St.sel hst [0,1,2,3]
  rw [shSt_get zo zo,shSt_step zo hl hd0,← sh_mod,← drop_val zo] at hst; exact ⟨j,by omega,by omega,hst⟩
 ·obtain rfl:n=0:=(by simp at hb0; omega); rw [shSt_end] at hst
  refine wp_exit ?_
  refine zac ?_
  refine zac ?_
  refine zay ?_
  refine zt<|gl (sts:=[none]) (news:=[]) (sp:=[.val 27 _,.val 4 _]) [.g 0,.o 1] hst (zv rfl (za2 (gq 2 rfl)) (zv rfl (za1 (vq 0 rfl)) o0)) (fun a w hst=>?_)
  have hst:St B w0 28 [(0,_),(4,_)] [⟨0,130,slH _ _,_⟩] a w:=hst
  refine za0 ?_
  refine wp_ret ?_
  refine ret_m hst (zm 0 rfl) (zm 0 rfl) ?_
  exact zaa rfl hst (zm 1 rfl)
end Go.Proofs.YtlpppkkggljdcaaGreat
namespace Go.Proofs.YtlpppkkggljdcaaGreat
open Go Go.RowKit
theorem wshl {u s:Nat}:IntKind.u32.wrap ((u:Int)*2^((s:Int).toNat))=((u*2^s%4294967296:Nat):Int):=by
 rw [Int.toNat_natCast,show (u:Int)*2^s=((u*2^s:Nat):Int) from by simp]; exact wu32'
theorem shl_lt {u s:Nat}(hu:u<4294967296)(hs:s<32):u*2^s<18446744073709551616:=by
 have h1:2^s≤2^31:=Nat.pow_le_pow_right zd zo
 have h2:u*2^s≤4294967295*2^31:=Nat.mul_le_mul zo h1
 omega
theorem wshl64 {u s:Nat}(hu:u<4294967296)(hs:s<32):IntKind.u64.wrap ((u:Int)*2^((s:Int).toNat))=((u*2^s:Nat):Int):=by
 rw [Int.toNat_natCast,show (u:Int)*2^s=((u*2^s:Nat):Int) from by simp]; exact wu64 (shl_lt hu hs)
theorem up_mod {u s:Nat}(hs:s<32):u*2^s%4294967296=2^s*(u%2^(32-s)):=by
 rw [show (4294967296:Nat)=2^s*2^(32-s) from by rw [← Nat.pow_add,show s+(32-s)=32 from by omega],Nat.mul_comm u,Nat.mul_mod_mul_left]
theorem up_or {u s c:Nat}(hs:s<32)(hc:c<2^s):u*2^s%4294967296 ||| c=(c+u*2^s)%4294967296:=by
 rw [up_mod hs,← Nat.two_pow_add_eq_or_of_lt hc]
 have h1:u%2^(32-s)<2^(32-s):=Nat.mod_lt _ (Nat.pow_pos zd)
 have h2:2^s*(u%2^(32-s)+1)≤2^s*2^(32-s):=Nat.mul_le_mul_left _ h1
 rw [← Nat.pow_add,show s+(32-s)=32 from by omega,Nat.mul_add,Nat.mul_one] at h2
 have h3:=up_mod (u:=u) hs
 have h4:=Nat.div_add_mod (u*2^s) 4294967296
 omega
theorem up_div {u s c:Nat}(hs:s<32)(hc:c<2^s):u*2^s/4294967296=(c+u*2^s)/4294967296:=by
 have h1:u%2^(32-s)<2^(32-s):=Nat.mod_lt _ (Nat.pow_pos zd)
 have h2:2^s*(u%2^(32-s)+1)≤2^s*2^(32-s):=Nat.mul_le_mul_left _ h1
 rw [← Nat.pow_add,show s+(32-s)=32 from by omega,Nat.mul_add,Nat.mul_one] at h2
 have h3:=up_mod (u:=u) hs
 have h4:=Nat.div_add_mod (u*2^s) 4294967296
 omega
def upSt (l:List Nat)(s i:Nat):List Nat:=digs i (val (l.take i)*2^s)++List.replicate (l.length+1-i) 0
theorem upSt_len {l:List Nat}{s i:Nat}(h:i≤l.length):(upSt l s i).length=l.length+1:=by simp [upSt,zah]; omega
theorem upSt_zero (l:List Nat)(s:Nat):upSt l s 0=List.replicate (l.length+1) 0:=by simp [upSt,digs]
theorem up_val {l:List Nat}{s i:Nat}(h:i<l.length):val (l.take (i+1))*2^s=val (l.take i)*2^s+4294967296^i*(l[i]*2^s):=by rw [zbr h,Nat.add_mul,Nat.mul_assoc]
theorem up_cl {l:List Nat}(hl:okL l)(s i:Nat):val (l.take i)*2^s/4294967296^i<2^s:=by
 apply Nat.div_lt_of_lt_mul
 exact Nat.mul_lt_mul_of_pos_right (zcq hl i) (Nat.pow_pos zd)
theorem upSt_step {l:List Nat}{s i:Nat}(h:i<l.length):(upSt l s i).set i ((val (l.take i)*2^s/4294967296^i+l[i]*2^s)%4294967296)=upSt l s (i+1):=by
 unfold upSt
 rw [zey _ _ _ _ (zah _ _),zhx _ _ zo,up_val h,zdr]
 simp only [List.append_assoc,List.singleton_append]
 congr 3
theorem up_carry {l:List Nat}{s i:Nat}(h:i<l.length):(val (l.take i)*2^s/4294967296^i+l[i]*2^s)/4294967296=val (l.take (i+1))*2^s/4294967296^(i+1):=by rw [up_val h,carry_step']
theorem upSt_end {l:List Nat}(hl:okL l){s:Nat}(hs:s<32):(upSt l s l.length).set l.length (val (l.take l.length)*2^s/4294967296^l.length)=digs (l.length+1) (val l*2^s):=by
 have h:=up_cl hl s l.length
 have h1:2^s≤2^31:=Nat.pow_le_pow_right zd zo
 unfold upSt
 rw [zey _ _ _ _ (zah _ _),zhx _ _ zo,zgi,List.take_length] at *
 rw [Nat.mod_eq_of_lt zo]
 simp
theorem up_c (l:List Nat)(s:Nat)(hls:l.length≤1099511627776)(hs:s<32):Cr Tryz.prog 164 130 (slH (l.length+1) (l.length+1)) (Nums .u32 (digs (l.length+1) (val l*2^s))) [(MgA l).va,(NumA .u64 (s:Nat)).va]:=by
 refine Cr.introW Tryz.func164 rfl zk nq (.cons (zhn _).va (.cons (zii _ _).va .nil)) (fun _ _ _ _ h=>h) (fun B w0 a hB0 hst=>?_)
 have hst:St B w0 41 [(0,(MgO l).va),(1,(NumA .u64 (s:Nat)).va)] [] a w0.w:=hst
 have hl:=(hst.magO 0 rfl).1
 refine wp_seq ?_
 refine gl (sts:=[]) (news:=[]) (sp:=[.val 4 _]) [.g 0,.g 1,.o 0] hst (zv rfl (za1 zbe) o0) (fun a w hst=>?_)
 have hst:St B w0 41 [(0,_),(1,_),(4,_)] [] a w:=hst
 refine zt<|zd6 (sts:=[]) (news:=[⟨12,130,slH _ _,some 3,_,none⟩]) (sp:=[.val 9 _,.val 10 _,.val 11 _,.alc 0,.adr 5 12 .none True]) [.g 0,.g 1,.g 2] [(5,12)] [⟨5,130,slH _ _,_⟩] hst (zv rfl (za2 (gq 0 rfl)) (zv rfl (zaw Tryz.underlying33 (zas (vq 0 rfl))) (zv rfl (zb7 (vq 1 rfl) za3 (zbh zo)) (oc (ze2 rfl rfl rfl zez (vq 2 rfl) (vq 2 rfl) zo) (oc (ob_a rfl rfl zib) o0))))) zk zk zk ⟨⟨4,rfl⟩,trivial⟩ rfl zk (fun a w hst=>?_)
 have hst:St B w0 41 [(0,_),(1,_),(4,_)] [⟨5,130,slH _ _,_⟩] a w:=hst
 refine zt<|gl (sts:=[none]) (news:=[]) (sp:=[.val 6 _]) [.g 0,.g 1,.g 2,.o 0] hst (zv rfl (za1 (zar 0 rfl)) o0) (fun a w hst=>?_)
 have hst:St B w0 41 [(0,_),(1,_),(4,_),(6,_)] [⟨5,130,slH _ _,_⟩] a w:=hst
 refine zt ?_
 refine wp_seq ?_
 refine gl (sts:=[none]) (news:=[]) (sp:=[.val 13 _,.val 14 _,.val 15 _]) [.g 0,.g 1,.g 2,.g 3,.o 0,.o 1,.o 2] hst (zv rfl (za2 (gq 0 rfl)) (zv rfl (zaw Tryz.underlying33 (zas (vq 0 rfl))) (zv rfl (za2 za3) o0))) (fun a w hst=>?_)
 have hst:St B w0 41 [(0,_),(1,_),(4,_),(6,_),(13,_),(14,_),(15,_)] [⟨5,130,slH _ _,_⟩] a w:=hst
 refine za0 ?_
 refine wp_block ?_
 have hst:=St.sel hst [0,1,3,4,5,6]
 refine wp_loop_ghost (fun n a w=>∃ i:Nat,n+i=l.length∧St B w0 41 [(0,(MgO l).va),(1,(NumA .u64 (s:Nat)).va),(6,(NumA .u32 (val (l.take i)*2^s/4294967296^i:Nat)).va),(13,(MgO l).va),(14,In (l.length:Nat)),(15,In (i:Nat))] [⟨5,130,slH (l.length+1) (l.length+1),Nums .u32 (upSt l s i)⟩] a w) (l.length) ?_ ?_
 ·exact ⟨0,by omega,by rw [upSt_zero,show val (l.take 0)*2^s/4294967296^0=0 from by simp]; exact hst⟩
 intro n a w hI
 obtain ⟨i,hn,hst⟩:=hI; have hc:=up_cl hl s i; have h31:2^s≤2^31:=Nat.pow_le_pow_right zd zo
 refine wp_seq ?_
 refine gl (sts:=[none]) (news:=[]) (sp:=[.val 16 _]) [.g 0,.g 1,.g 2,.g 3,.g 4,.g 5,.o 0] hst (zv rfl (zbt (gq 5 rfl) (gq 4 rfl)) o0) (fun a w hst=>?_)
 have hst:St B w0 41 [(0,_),(1,_),(6,_),(13,_),(14,_),(15,_),(16,_)] [⟨5,130,slH _ _,_⟩] a w:=hst
 refine zt ?_
 refine za8 hst (zm 6 rfl) (fun hb0=>?_) (fun hb0=>?_)
 ·have hi:i<l.length:=by simp at hb0; omega
  refine wp_skip ?_
  refine zt ?_
  refine wp_block ?_
  refine wp_seq ?_
  refine gl (sts:=[none]) (news:=[]) (sp:=[.val 17 _,.val 18 _,.val 19 _,.val 7 _,.val 8 _]) [.g 0,.g 1,.g 2,.g 3,.g 4,.g 5,.o 3,.o 4] hst (zv rfl (za2 (gq 5 rfl)) (zv rfl (zc0 zb4 (zas (gq 3 rfl)) (gq 5 rfl) zo) (zv rfl (zav (vq 1 rfl) zb0) (zv rfl (za1 (vq 0 rfl)) (zv rfl (za1 (vq 2 rfl)) o0))))) (fun a w hst=>?_)
  have hst:St B w0 41 [(0,_),(1,_),(6,_),(13,_),(14,_),(15,_),(7,_),(8,_)] [⟨5,130,slH _ _,_⟩] a w:=hst
  refine zt<|gl (sts:=[some (8,_)]) (news:=[]) (sp:=[.adr 20 5 .none True,.val 21 _,.val 22 _,.val 23 _,.val 24 _,.val 25 _,.val 26 _,.adr 27 5 (.some _) True,.sto 0]) [.g 0,.g 1,.g 2,.g 3,.g 4,.g 5,.g 7] hst (oc (ob_a rfl rfl zck) (zv rfl (za2 (gq 6 rfl)) (zv rfl (za2 (gq 7 rfl)) (zv rfl (za2 (gq 1 rfl)) (zv rfl (r_shl (vq 2 rfl) (vq 3 rfl) (⟨by omega,by show (s:Int)≤32; omega⟩) (wshl)) (zv rfl (za2 (gq 2 rfl)) (zv rfl (r_bor (vq 4 rfl) (vq 5 rfl) ((bor32 (Nat.mod_lt _ zd) zo).trans (congrArg _ (up_or hs hc)))) (oc (ob_a rfl rfl (ze8 0 rfl zk (lz0 0 rfl) zb4 (vq 1 rfl) zo)) (oc (zcg 7 rfl rfl rfl rfl zk (fun _=>zc7 _ _ _ _) (vq 6 rfl) zb0 (zbu (by rw [upSt_len zo]; omega))) o0))))))))) (fun a w hst=>?_)
  have hst:St B w0 41 [(0,_),(1,_),(6,_),(13,_),(14,_),(15,_),(8,_)] [⟨5,130,slH _ _,_⟩] a w:=hst
  refine za0 ?_
  refine gl (sts:=[none]) (news:=[]) (sp:=[.val 28 _,.val 29 _,.val 30 _,.val 31 _,.val 32 _,.val 33 _,.val 6 _]) [.g 0,.g 1,.g 3,.g 4,.g 5,.o 6] hst (zv rfl (za2 (gq 6 rfl)) (zv rfl (zau .u64 zk zk (vq 0 rfl) (wu64 (Nat.lt_trans (hl _ (List.getElem_mem _)) zd))) (zv rfl (za2 (gq 1 rfl)) (zv rfl (r_shl (vq 1 rfl) (vq 2 rfl) (⟨by omega,by show (s:Int)≤64; omega⟩) (wshl64 (hl _ (List.getElem_mem _)) hs)) (zv rfl (zgs (vq 3 rfl) (zar 32 rfl) zd (nshr)) (zv rfl (zau .u32 zk zk (vq 4 rfl) ((wu32 (Nat.div_lt_of_lt_mul (shl_lt (hl _ (List.getElem_mem _)) hs))).trans (congrArg _ (up_div hs hc)))) (zv rfl (za1 (vq 5 rfl)) o0))))))) (fun a w hst=>?_)
  have hst:St B w0 41 [(0,_),(1,_),(13,_),(14,_),(15,_),(6,_)] [⟨5,130,slH _ _,_⟩] a w:=hst
  refine zaj ?_
  refine za0 ?_
  refine gl (sts:=[none]) (news:=[]) (sp:=[.val 34 _,.val 15 _]) [.g 0,.g 1,.g 2,.g 3,.g 5,.o 1] hst (zv rfl (zb7 (gq 4 rfl) za3 (zbh zo)) (zv rfl (za2 (vq 0 rfl)) o0)) (fun a w hst=>?_)
  have hst:St B w0 41 [(0,_),(1,_),(13,_),(14,_),(6,_),(15,_)] [⟨5,130,slH _ _,_⟩] a w:=hst
  refine za0 ?_
  have hst:=St.sel hst [0,1,4,2,3,5]
  rw [upSt_step hi,up_carry hi] at hst; exact ⟨n-1,by omega,i+1,by omega,hst⟩
 ·obtain rfl:i=l.length:=by simp at hb0; omega
  refine wp_exit ?_
  refine zac ?_
  refine zac ?_
  refine zay ?_
  refine zt<|gl (sts:=[some (5,_)]) (news:=[]) (sp:=[.adr 35 5 .none True,.val 36 _,.val 37 _,.val 38 _,.adr 39 5 (.some _) True,.sto 0]) [] hst (oc (ob_a rfl rfl zck) (zv rfl (za2 (gq 0 rfl)) (zv rfl (zaw Tryz.underlying33 (zas (vq 1 rfl))) (zv rfl (za2 (gq 2 rfl)) (oc (ob_a rfl rfl (ze8 0 rfl zk (lz0 0 rfl) zb4 (vq 2 rfl) zo)) (oc (zcg 4 rfl rfl rfl rfl zk (fun _=>zc7 _ _ _ _) (vq 3 rfl) zb0 (zbu (by rw [upSt_len zo]; omega))) o0)))))) (fun a w hst=>?_)
  have hst:St B w0 41 [] [⟨5,130,slH _ _,_⟩] a w:=hst
  refine zt<|zd6 (sts:=[none]) (news:=[]) (sp:=[.adr 40 5 .none True,.adr 4 5 .none True]) [] [(4,5)] [⟨4,130,slH _ _,_⟩] hst (oc (ob_a rfl rfl zck) (oc (ob_a rfl rfl (a_asg2 0 rfl zk)) o0)) zk zk zk ⟨⟨1,rfl⟩,trivial⟩ rfl zk (fun a w hst=>?_)
  have hst:St B w0 41 [] [⟨4,130,slH _ _,_⟩] a w:=hst
  refine za0 ?_
  refine wp_ret ?_
  rw [upSt_end hl hs] at hst
  exact ret_rowr rfl hst hB0 (zm 0 rfl)
end Go.Proofs.YtlpppkkggljdcaaGreat
