import Derived.Test.YtmacliockgbdcaaGreatDoorBfAa
import Derived.Test.YtmacliockgbdcaaGreatDoorBfAc
import Derived.Test.YtmacliockgbdcaaGreatDoorBfBa
set_option linter.unusedVariables false
set_option linter.unusedSimpArgs false
set_option linter.unusedSectionVars false
set_option maxRecDepth 100000
namespace Go.Proofs.YtmacliockgbdcaaGreatDoor
open Go Go.RowKit
theorem mw {k k':Nat}{L:List EQ}(h:k≤k'):WkA (OwIC 67 9 [U32] (L.map (EBN k))) (OwIC 67 9 [U32] (L.map (EBN k'))):=⟨rfl,rfl,fun B cs w ⟨I,top,h1,h2,h3,h4⟩=>⟨I,top,by rw [h1,List.length_map,List.length_map],h2,h3,(AY (wN h L I) ivn ivD).2.2 _ _ _ h4⟩⟩
theorem uE {k:Nat}:∀ (L:List EQ),All2 WkA (L.map (EBN k)) ((L.map reOf).map REN)
 | []=>.nil
 | e::L=>.cons Cf (uE L)
theorem ren_D {xs:List RE}:∀ A∈xs.map REN,∀ T∈A.deps,T∈[U32]:=fun A hA=>by
 obtain ⟨x,_,rfl⟩:=List.mem_map.1 hA
 exact dK (l:=[REN x]) zk _ (by simp)
abbrev LsE (xs:List RE):VA:=LsN 67 9 [U32] (xs.map REN)
theorem yh {k:Nat}{L:List EQ}:Wk (OwIC 67 9 [U32] (L.map (EBN k))).va (LsE (L.map reOf)):=br AZ (tG (uE L) ren_D)
theorem lsE_sl {xs:List RE}:Wk (LsE xs) (SlA 67 [U32] (xs.map REA)).va:=br tE (nx (dr fun _=>so) reA_D).va
abbrev BnRD (r:List EQ × Int):VA:=Tu [LsE (r.1.map reOf),In r.2]
theorem mO {r:List EQ × Int}:Free (BnRD r) (BnRD r):=uf (.cons (od (cm fun _=>ix)) (.cons (dO _ _).va .nil))
theorem rJ {k:Nat}{L:List EQ}:Cn Tryz.prog 27 [(OwIC 67 9 [U32] (L.map (EBN k))).va] (BnRD (toldL L)) :=
 (Dl (L.map reOf) (OwIC 67 9 [U32] (L.map (EBN k))).va (LsE ((toldL L).1.map reOf)) (br yh lsE_sl) (fun h=>by rw [iJ h]; exact yh) (fun h=>by rw [iI h]; exact ti)).post (by
  rcases zU (L.map reOf) with h | h
  ·rw [iJ h,h]
  ·rw [iI h,h])
theorem oz:Zero Tryz.prog 22 (OwIC 67 9 [U32] (([]:List EQ).map (EBN 0))):=Zero.of (z:=.slice none 0 0) zk fun B w=>⟨[],0,rfl,rO,Nat.zero_le _,_,rfl,fH B _ w rfl⟩
theorem kQ {xs:List RE}{j k:Nat}{e:Int}{p:Rat}(hj:j<xs.length)(h:sE xs[j]=(e,p)):OwIC 67 9 [U32] ((putQ (simQ (xs.take j)) e p).map (EBN k))=OwIC 67 9 [U32] ((simQ (xs.take (j+1))).map (EBN k)):=by
 rw [xY hj,h]
theorem wm (m:RM):Cn Tryz.prog 10 [(RMA m).va] (BnRD (parF m)):=by
 refine Cn.introW Tryz.func10 G zk nq (.cons (zr m).va .nil) mO (fun B w0 a hB0 U=>?_)
 have U:=zn [(0,(RMA m).va)] [] U
 refine wp_seq<|zg [] [⟨1,29,ptrH,some 0,_,none⟩] [.alc 0,.v 2 _,.v 3 _] [.o 1,.o 2] U (oc (ay G G G (gq 0 G)) (zv G (a9 aP) (zv G (a9 a8) o0))) (zz [(2,_),(3,_)] [O 1 29 _] fun a w U=>?_)
 refine zt<|wp_seq<|zg [none] [] [.v 10 _,.v 11 _,.v 12 _] [.g 0,.g 1,.o 2] U (zl 0 G dg (zv G (aa (xs:=[.tmp 10]) (vZ m) (.cons (vq 0 G) .nil)) (zv G (dS (vq 1 G)) o0))) (zz [(2,_),(3,_),(12,_)] [O 1 29 _] fun a w U=>?_)
 refine a7<|ah U (zm 2 G) (fun hb0=>?_) (fun hb0=>?_)
 ·have hm:okM m=false:=by simpa using hb0
  refine wp_seq<|zg [none] [] [.v 2 _,.v 3 _] [.o 0,.o 1] U (zv G (a9 aP) (zv G (a9 a8) o0)) (zz [(2,_),(3,_)] [O 1 29 _] fun a w U=>?_)
  refine a7<|wp_ret<|ap ?_
  refine ar ?_ (aS (rs:=[.tmp 2,.tmp 3]) G U (.tmp (zm 0 G) (.tmp (zm 1 G) .nil)) zd)
  rw [parF,hm]; exact tu2w ti bh
 ·have hm:okM m=true:=by simpa using hb0
  have U:=St.wkL U 0 rfl (qm_x (tc hm).1)
  refine wp_skip<|zt<|zg [none] [⟨4,22,ptrH,some 0,_,none⟩] [.alc 1] [.g 0,.g 1] U (oc (aJ G G G oz) o0) (zz [(2,_),(3,_)] [O 1 29 _,O 4 22 _] fun a w U=>?_)
  refine zt ?_
  obtain ⟨q4,U⟩:=St.nm U 1 rfl
  refine zg [none,none] [] [.v 13 _,.v 5 _] [.g 0,.g 1,.g 2,.o 1] U (zv G (aa (xs:=[.tmp 4]) (ni q4) (.cons (gq 0 G) .nil)) (zA 0 G o0)) (zz [(4,_),(2,_),(3,_),(5,_)] [O 1 29 _,O 4 22 _] fun a w U=>?_)
  refine zt<|zg [none,none] [⟨6,27,ptrH,some 1,_,some (2,_)⟩] [.v 14 _,.alc 2,.sto 2] [.g 0,.g 1,.g 2,.g 3] U (zv G (aa (xs:=[]) one_q .nil) (oc (aJ G G G (Str.zero b4)) (oc (aA G G G (vq 0 G) ax (Eq.trans (b:=4) G G)) o0))) (zz [(4,_),(2,_),(3,_),(5,_)] [O 1 29 _,O 4 22 _,O 6 27 _] fun a w U=>?_)
  refine zt<|zgd [[],[0],[0,1],[],[3],[0,1,2,3,4],[0,1,2,3,4,5],[0,1,2,3,4,5,6]] [none,none,none] [] [.adr 15 1 (.some 4) True,.v 16 _,.v 17 _,.adr 18 1 (.some 0) True,.v 19 _,.v 20 _,.v 7 _,.v 8 _] [.g 0,.g 1,.g 2,.g 3,.o 6,.o 7] ab U (oc (ob_a G G (ac (lz0 0 G) bF)) (zL 0 0 1 G ax (zv G (aa (xs:=[.tmp 16]) jT (.cons (vq 1 G) .nil)) (oc (ob_a G G (ac (lz0 0 G) bG)) (zL 3 0 0 G ax (zv G (aa (xs:=[.tmp 19]) jT (.cons (vq 4 G) .nil)) (zA 2 G (zA 5 G o0)))))))) zk zk zk zk (zz [(4,_),(2,_),(3,_),(5,_),(7,_),(8,_)] [O 1 29 _,O 4 22 _,O 6 27 _] fun a w U=>?_)
  refine zt<|zgd [[],[],[1],[0,1,2],[],[0,1,2,3,4],[0,1,2,3,4,5],[0,1,2,3,4,5,6]] [none,none,none] [] [.v 21 _,.adr 22 1 (.some 0) True,.v 23 _,.v 24 _,.v 25 _,.v 26 _,.v 27 _,.v 9 _] [.g 0,.g 1,.g 2,.g 3,.g 4,.g 5,.o 7] ab U (zv G (aa (xs:=[]) ip .nil) (oc (ob_a G G (ac (lz0 0 G) bG)) (zL 1 0 0 G ax (zv G (aa (xs:=[.tmp 21,.tmp 23]) (eT zo) (.cons (vq 0 G) (.cons (vq 2 G) .nil))) (zl 2 G ax (zv G (aa (xs:=[.tmp 24,.tmp 25]) (Cx zo) (.cons (vq 3 G) (.cons (vq 4 G) .nil))) (zv G (bD (vq 5 G) a8) (zA 6 G o0)))))))) zk zk zk zk (zz [(4,_),(2,_),(3,_),(5,_),(7,_),(8,_),(9,_)] [O 1 29 _,O 4 22 _,O 6 27 _] fun a w U=>?_)
  refine zt<|wp_seq<|zg [none,none,none] [] [.v 28 _,.v 29 _,.v 30 _,.v 31 (Wh (_=false) _),.v 32 (Wh (_=false) _),.v 33 (Wh (_=false) _),.v 34 (Wh ((_=false)∧_=true) _),.v 35 (Wh ((_=false)∧_=true) _),.v 36 (Wh (((_=false)∧_=true)∧_=false) _),.v 37 (Wh (((_=false)∧_=true)∧_=false) _),.v 38 (Wh (((_=false)∧_=true)∧_=false) _),.adr 39 1 (.some 0) ((((_=false)∧_=true)∧_=false)∧_=true),.v 40 (Wh ((((_=false)∧_=true)∧_=false)∧_=true) _),.v 41 (Wh ((((_=false)∧_=true)∧_=false)∧_=true) _),.v 42 (Wh ((((_=false)∧_=true)∧_=false)∧_=true) _),.v 43 (Wh ((((_=false)∧_=true)∧_=false)∧_=true) _),.v 44 (Wh (((_=false)∧_=true)∧_=false) _),.v 45 (Wh ((_=false)∧_=true) _),.v 46 (Wh (_=false) _),.v 47 _] [.g 0,.g 1,.g 2,.g 3,.g 4,.g 5,.o 19] U (zM 4 G (zv G (aN (vq 0 G) a8) (zv G (ae (vq 1 G)) (oc (an G G G (vq 2 G) nq (fun hg=>ae (gq 4 G))) (oc (an G G G (vq 2 G) nq (fun hg=>bD (ai (vq 3 G) hg) a8)) (oc (an G G G (vq 2 G) nq (fun hg=>ae (ai (vq 4 G) hg))) (oc (bB G G G (vq 5 G) nq (fun hg=>ae (gq 6 G))) (oc (bB G G G (vq 5 G) nq (fun hg=>ae (ai (vq 6 G) hg))) (oc (bB G G G (vq 7 G) nq (fun hg=>ae (gq 5 G))) (oc (bB G G G (vq 7 G) nq (fun hg=>dJ (ai (vq 8 G) hg) a8)) (oc (bB G G G (vq 7 G) nq (fun hg=>ae (ai (vq 9 G) hg))) (oc (eR G G G (vq 10 G) nq (fun hg=>ac (lz0 0 G) bG)) (oc (bB G G G (vq 10 G) nq (fun hg=>aD 11 G zk hg (lz0 0 G) (Sub.part 0 G G) ax)) (oc (bB G G G (vq 10 G) nq (fun hg=>dm (lz0 2 G) ax)) (oc (bB G G G (vq 10 G) nq (fun hg=>aa (xs:=[.tmp 40,.tmp 41]) (Cx zo) (.cons (ai (vq 12 G) hg) (.cons (ai (vq 13 G) hg) .nil)))) (oc (bB G G G (vq 10 G) nq (fun hg=>cI (ai (vq 14 G) hg) a8)) (oc (bB G G G (vq 7 G) nq (fun hg=>bJ (ai (vq 10 G) hg) (eD (vq 15 G) hg))) (oc (bB G G G (vq 5 G) nq (fun hg=>r_or (ai (vq 7 G) hg) (eD (vq 16 G) hg))) (oc (an G G G (vq 2 G) nq (fun hg=>bJ (ai (vq 5 G) hg) (eD (vq 17 G) hg))) (zv G (r_or (vq 2 G) (vq 18 G)) o0)))))))))))))))))))) (zz [(4,_),(2,_),(3,_),(5,_),(7,_),(8,_),(47,_)] [O 1 29 _,O 4 22 _,O 6 27 _] fun a w U=>?_)
  refine a7<|bO (fun a w=>∃ (L1:List EQ) (M1:MQ),(partsQ (toM m)=restQ L1 M1∧L1.length≤1)∧St B w0 116 [(4,EqV (ptr q4)),(5,FnB 101 74 q4),(7,In M1.b.num.sign),(8,In M1.a.num.sign)] [⟨1,29,ptrH,QMA 2051 M1⟩,⟨4,22,ptrH,OwIC 67 9 [U32] (L1.map (EBN 3))⟩,⟨6,27,ptrH,QA 2 1⟩] a w) U (zm 6 G) (fun hb1=>?_) (fun hb1=>?_) (fun a w U=>?_)
  ·have hfl:flipQ (toM m)=true:=(yH rfl rfl rfl).symm.trans hb1
   refine wp_seq<|bf (sp:=[.v 48 _,.v 49 _,.v 50 VT]) 2 1 99 2 OneC [.g 0,.g 1,.g 2,.g 3,.g 4,.g 5,.o 0,.o 1] U (zM 3 G (zv G (aa (xs:=[]) ip .nil) o0)) G zd zk zk (zz [(4,_),(2,_),(3,_),(5,_),(7,_),(8,_),(48,_),(49,_)] [O 1 29 _,O 4 22 _,O 6 27 _] fun a w U=>?_)
   rw [show List.range' 2 1=[2] from rfl]
   rw [wpOps_cons]
   refine dq (xs:=[.const (.int .u8 5),.tmp 49]) [0,1,2,3,4,5] 6 0 1 G U (fW [] 5 0 (K:=0) (c:=2) (K1:=3) zo zo zd) G G G (.cons (.inr ⟨_,_,rfl,rfl⟩) (.cons (.inl ⟨49,7,rfl,rfl⟩) .nil)) (l3 hB0) zd zk zk zk zk (fun a w U=>?_)
   refine bI ?_
   have U:=zn [(50,_),(4,_),(2,_),(3,_),(5,_),(7,_),(8,_)] [O 1 29 _,⟨4,22,ptrH,OwIC 67 9 [U32] ((putQ [] 5 0).map (EBN 3))⟩,O 6 27 _] U
   refine zt<|zg [some (2,_),none,none] [] [.v 51 _,.v 52 _,.sto 0] [.g 1,.g 2,.g 3,.g 4,.g 5,.g 6] U (zl 0 G dg (zv G (aa (xs:=[.tmp 51]) (mi (m:=toM m) zo) (.cons (vq 0 G) .nil)) (oc (aA G G G (vq 1 G) dg (Eq.trans (b:=16) G G)) o0))) (zz [(4,_),(2,_),(3,_),(5,_),(7,_),(8,_)] [O 1 29 _,O 4 22 _,O 6 27 _] fun a w U=>?_)
   refine a7<|zg [none,none,none] [] [.v 53 _,.v 54 _,.v 55 _,.v 56 _,.v 7 _,.v 8 _] [.g 0,.g 1,.g 2,.g 3,.o 4,.o 5] U (zM 4 G (zv G (qu (vq 0 G) (rY)) (zM 5 G (zv G (qu (vq 2 G) (rY)) (zA 1 G (zA 3 G o0)))))) (zz [(4,_),(2,_),(3,_),(5,_),(7,_),(8,_)] [O 1 29 _,O 4 22 _,O 6 27 _] fun a w U=>?_)
   refine a7 ?_
   have U:=St.sel U [0,3,4,5]
   exact ⟨putQ [] 5 0,negM (toM m),⟨by rw [partsQ,if_pos hfl],gK [] 5 0⟩,U⟩
  ·have hfl:flipQ (toM m)=false:=(yH rfl rfl rfl).symm.trans hb1
   refine wp_skip<|a7 ?_
   have U:=St.sel U [0,3,4,5]
   exact ⟨[],toM m,⟨by rw [partsQ,hfl]; rfl,Nat.zero_le _⟩,St.wkL U 0 G (qmB zd)⟩
  obtain ⟨L1,M1,⟨hP1,hL1⟩,U⟩:=U
  refine zt<|wp_seq<|zg [none,none,none] [] [.v 57 _,.v 58 _,.v 59 _,.v 60 (Wh (_=true) _),.v 61 (Wh (_=true) _),.v 62 _] [.g 0,.g 1,.g 2,.o 5] U (zM 2 G (zv G (bD (vq 0 G) a8) (zv G (ae (vq 1 G)) (oc (an G G G (vq 2 G) nq (fun hg=>ae (gq 3 G))) (oc (an G G G (vq 2 G) nq (fun hg=>aN (ai (vq 3 G) hg) a8)) (zv G (bJ (vq 2 G) (vq 4 G)) o0)))))) (zz [(4,_),(5,_),(7,_),(62,_)] [O 1 29 _,O 4 22 _,O 6 27 _] fun a w U=>?_)
  refine a7<|bO (fun a w=>∃ (L2:List EQ) (M2:MQ) (z2:Int),(partsQ (toM m)=(if z2=0 then bareQ L2 M2 else tailQ L2 M2)∧(z2≠0→M2.b≠0)∧L2.length≤2)∧St B w0 116 [(4,EqV (ptr q4)),(5,FnB 101 74 q4),(7,In z2)] [⟨1,29,ptrH,QMA 4103 M2⟩,⟨4,22,ptrH,OwIC 67 9 [U32] (L2.map (EBN 6))⟩,⟨6,27,ptrH,QA 2 1⟩] a w) U (zm 3 G) (fun hb2=>?_) (fun hb2=>?_) (fun a w U=>?_)
  ·have hr:=w9 (L:=L1) hb2
   refine wp_seq<|bf (sp:=[.v 63 _,.v 64 _,.v 65 VT]) 2 1 99 2 OneC [.g 0,.g 1,.g 2,.o 0,.o 1] U (zM 1 G (zl 2 G ax o0)) G zd zk zk (zz [(4,_),(5,_),(7,_),(63,_),(64,_)] [O 1 29 _,O 4 22 _,O 6 27 _] fun a w U=>?_)
   rw [show List.range' 2 1=[2] from rfl]
   rw [wpOps_cons]
   refine dq (xs:=[.const (.int .u8 1),.tmp 64]) [0,1,2] 3 0 1 G U (fW L1 1 1 (K:=3) (c:=2) (K1:=6) zo zo zo) G G G (.cons (.inr ⟨_,_,rfl,rfl⟩) (.cons (.inl ⟨64,4,rfl,rfl⟩) .nil)) (l3 hB0) zd zk zk zk zk (fun a w U=>?_)
   refine bI ?_
   have U:=zn [(65,_),(4,_),(5,_),(7,_)] [O 1 29 _,⟨4,22,ptrH,OwIC 67 9 [U32] ((putQ L1 1 1).map (EBN 6))⟩,O 6 27 _] U
   refine zt ?_
   obtain ⟨q1,U⟩:=St.nm U 0 rfl
   refine ud (sp:=[.adr 66 1 (.some 4) True,.v 67 _,.adr 68 1 (.some 0) True,.v 69 _,.v 70 _,.adr 71 1 (.some 12) True,.v 72 _,.adr 73 1 (.some 8) True,.v 74 _,.v 75 _,.v 76 _,.sto 1,.v 77 VT,.sto 0]) [[],[0],[],[2],[0,1,2,3],[],[5],[],[7],[0,1,2,3,4,5,6,7,8],[0,1,2,3,4,5,6,7,8],[0,1,2,3,4,5,6,7,8,9,10],[0,1,2,3,4,5,6,7,8,9,10,11],[0,1,2,3,4,5,6,7,8,9,10,11,12]] 11 3 0 13 1 11 OneC [.g 0,.g 2,.g 3,.g 4,.o 4,.o 9,.o 10] ab U (oc (ob_a G G (ac (lz0 0 G) bF)) (zL 0 0 1 G ax (oc (ob_a G G (ac (lz0 0 G) bG)) (zL 2 0 0 G ax (zv G (aa (xs:=[.tmp 67,.tmp 69]) (eT zo) (.cons (vq 1 G) (.cons (vq 3 G) .nil))) (oc (ob_a G G (ac (lz0 0 G) bW)) (zL 5 0 3 G ax (oc (ob_a G G (ac (lz0 0 G) bU)) (zL 7 0 2 G ax (zv G (aa (xs:=[.tmp 72,.tmp 74]) (eT zo) (.cons (vq 6 G) (.cons (vq 8 G) .nil))) (zv G (r_fldN (gq 0 G) bF) o0))))))))))) G zd zd zd zk (cp zk) zk zk (zz [(1,_),(4,_),(5,_),(7,_),(70,_),(75,_),(76,_)] [O 1 29 _,O 4 22 _,O 6 27 _] fun a w U=>?_)
   rw [show List.range' 11 3=[11,12,13] from rfl]
   rw [wpOps_cons]
   refine t9 (A:=QA 4103 (M1.b-M1.a)) (A1:=cat [QA 2051 M1.a,QA 4103 (M1.b-M1.a),QA 2051 M1.c,QA 2051 M1.d]) [0,1,2,3,5] 6 4 0 0 G U G G G ax G (Put.part 1 G G G) zk zk zk (fun w U=>?_)
   rw [wpOps_cons]
   refine eu 0 G U bW G zd zk zk (fun a U=>?_)
   rw [wpOps_cons]
   refine t9 (A:=QA 4103 (M1.d-M1.c)) (A1:=cat [QA 2051 M1.a,QA 4103 (M1.b-M1.a),QA 2051 M1.c,QA 4103 (M1.d-M1.c)]) [1,2,3,4] 0 5 1 0 G U G G G ax G (Put.part 3 G G G) zk zk zk (fun w U=>?_)
   refine ff ?_
   have U:=St.wkL U 0 rfl (pre_wk (M:=M1))
   have U:St B w0 116 [(1,_),(4,_),(5,_),(7,_)] [⟨1,29,ptrH,QMA 4103 (preM M1)⟩,O 4 22 _,O 6 27 _] _ w:=U
   refine a7<|zg [none,none,none] [] [.v 7 _] [.g 0,.g 1,.g 2,.o 0] U (zv G (a9 a8) o0) (zz [(1,_),(4,_),(5,_),(7,_)] [O 1 29 _,O 4 22 _,O 6 27 _] fun a w U=>?_)
   refine a7 ?_
   have U:=St.sel U [1,2,3]
   exact ⟨putQ L1 1 1,preM M1,1,⟨by rw [hP1,hr.1]; rfl,fun _=>hr.2,by have:=gK L1 1 1; omega⟩,U⟩
  ·have hr:=Aw (L:=L1) hb2
   refine wp_skip<|a7 ?_
   have U:=St.sel U [0,1,2]
   exact ⟨L1,M1,M1.b.num.sign,⟨by rw [hP1,hr.1],hr.2,by omega⟩,St.wkL (St.wkL U 0 G (qmB zd)) 1 G (mw zd)⟩
  obtain ⟨L2,M2,z2,⟨hP2,hz2,hL2⟩,U⟩:=U
  refine zt<|wp_seq<|zg [none,none,none] [] [.v 78 _,.v 79 _] [.g 0,.g 1,.o 1] U (zM 2 G (zv G (bD (vq 0 G) a8) o0)) (zz [(4,_),(5,_),(79,_)] [O 1 29 _,O 4 22 _,O 6 27 _] fun a w U=>?_)
  refine a7<|ah U (zm 2 G) (fun hb3=>?_) (fun hb3=>?_)
  ·have hz:z2=0:=by simpa using hb3
   rw [if_pos hz] at hP2
   refine wp_seq<|cw (sp:=[.v 80 _,.v 81 _,.adr 82 1 (.some 8) True,.v 83 _,.v 84 _,.v 85 VT]) [[],[],[],[2],[1,2,3],[0,1,2,3,4]] 5 1 99 5 OneC [.g 0,.g 1,.o 0,.o 4] ab U (zM 1 G (zv G (aa (xs:=[]) ip .nil) (oc (ob_a G G (ac (lz0 0 G) bU)) (zL 2 0 2 G ax (zv G (aa (xs:=[.tmp 81,.tmp 83]) (eT zo) (.cons (vq 1 G) (.cons (vq 3 G) .nil))) o0))))) G zd zd zk (cp zk) zk zk (zz [(4,_),(5,_),(80,_),(84,_)] [O 1 29 _,O 4 22 _,O 6 27 _] fun a w U=>?_)
   rw [show List.range' 5 1=[5] from rfl]
   rw [wpOps_cons]
   refine dq (xs:=[.const (.int .u8 2),.tmp 84]) [0,1] 2 0 1 G U (fW L2 2 (0-M2.c) (K:=6) (c:=(2+4103+1)) (K1:=20530) zo zo zo) G G G (.cons (.inr ⟨_,_,rfl,rfl⟩) (.cons (.inl ⟨84,3,rfl,rfl⟩) .nil)) (l3 hB0) zd zk zk zk zk (fun a w U=>?_)
   refine bI ?_
   have U:=zn [(85,_),(4,_),(5,_)] [O 1 29 _,⟨4,22,ptrH,OwIC 67 9 [U32] ((putQ L2 2 (0-M2.c)).map (EBN 20530))⟩,O 6 27 _] U
   refine zt<|zg [none,none,none] [] [.v 86 _,.v 87 _,.v 88 _,.v 89 _,.v 2 _,.v 3 _] [.g 1,.g 2,.o 4,.o 5] U (zl 1 G dQ (zv G (aa (xs:=[.tmp 86]) rJ (.cons (vq 0 G) .nil)) (zv G (kK (vq 1 G)) (zv G (kJ (vq 1 G)) (zA 2 G (zA 3 G o0)))))) (zz [(4,_),(5,_),(2,_),(3,_)] [O 1 29 _,O 4 22 _,O 6 27 _] fun a w U=>?_)
   refine a7<|wp_ret<|ap ?_
   refine ar ?_ (aS (rs:=[.tmp 2,.tmp 3]) G U (.tmp (zm 2 G) (.tmp (zm 3 G) .nil)) zd)
   rw [parF,if_pos hm,hP2]; exact bh
  ·have hz:¬ z2=0:=by simpa using hb3
   rw [if_neg hz] at hP2
   replace hz2:=hz2 hz
   refine wp_skip<|zt<|cw (sp:=[.v 90 _,.v 91 _,.adr 92 1 (.some 0) True,.v 93 _,.v 94 _,.adr 95 1 (.some 4) True,.v 96 _,.v 97 _,.v 98 VT]) [[],[],[],[2],[1,2,3],[],[5],[1,2,3,4,5,6],[0,1,2,3,4,5,6,7]] 8 1 99 8 OneC [.g 0,.g 1,.o 0,.o 7] ab U (zM 1 G (zl 2 G ax (oc (ob_a G G (ac (lz0 0 G) bG)) (zL 2 0 0 G ax (zv G (aa (xs:=[.tmp 91,.tmp 93]) (eT zo) (.cons (vq 1 G) (.cons (vq 3 G) .nil))) (oc (ob_a G G (ac (lz0 0 G) bF)) (zL 5 0 1 G ax (zv G (aa (xs:=[.tmp 94,.tmp 96]) (t8 zo hz2) (.cons (vq 4 G) (.cons (vq 6 G) .nil))) o0)))))))) G zd zd zk (cp zk) zk zk (zz [(4,_),(5,_),(90,_),(97,_)] [O 1 29 _,O 4 22 _,O 6 27 _] fun a w U=>?_)
   rw [show List.range' 8 1=[8] from rfl]
   rw [wpOps_cons]
   refine dq (xs:=[.const (.int .u8 2),.tmp 97]) [0,1] 2 0 1 G U (fW L2 2 ((1-M2.a)/M2.b) (K:=6) (c:=(2+4103+1+4103)) (K1:=8216) zo zo zo) G G G (.cons (.inr ⟨_,_,rfl,rfl⟩) (.cons (.inl ⟨97,3,rfl,rfl⟩) .nil)) (l3 hB0) zd zk zk zk zk (fun a w U=>?_)
   refine bI ?_
   have U:=zn [(98,_),(4,_),(5,_)] [O 1 29 _,⟨4,22,ptrH,OwIC 67 9 [U32] ((putQ L2 2 ((1-M2.a)/M2.b)).map (EBN 8216))⟩,O 6 27 _] U
   refine zt<|bf (sp:=[.v 99 _,.adr 100 1 (.some 4) True,.v 101 _,.v 102 VT]) 3 1 99 3 OneC [.g 1,.g 2,.o 0,.o 2] U (zM 2 G (oc (ob_a G G (ac (lz0 0 G) bF)) (zL 1 0 1 G ax o0))) G zd zk zk (zz [(4,_),(5,_),(99,_),(101,_)] [O 1 29 _,O 4 22 _,O 6 27 _] fun a w U=>?_)
   rw [show List.range' 3 1=[3] from rfl]
   rw [wpOps_cons]
   refine dq (xs:=[.const (.int .u8 1),.tmp 101]) [0,1] 2 0 1 G U (fW (putQ L2 2 ((1-M2.a)/M2.b)) 1 M2.b (K:=8216) (c:=4103) (K1:=12320) zo zo (by have:=gK L2 2 ((1-M2.a)/M2.b); omega)) G G G (.cons (.inr ⟨_,_,rfl,rfl⟩) (.cons (.inl ⟨101,3,rfl,rfl⟩) .nil)) (l3 hB0) zd zk zk zk zk (fun a w U=>?_)
   refine bI ?_
   have U:=zn [(102,_),(4,_),(5,_)] [O 1 29 _,⟨4,22,ptrH,OwIC 67 9 [U32] ((putQ (putQ L2 2 ((1-M2.a)/M2.b)) 1 M2.b).map (EBN 12320))⟩,O 6 27 _] U
   refine zt<|cw (sp:=[.v 103 _,.v 104 _,.adr 105 1 (.some 12) True,.v 106 _,.v 107 _,.adr 108 1 (.some 4) True,.v 109 _,.v 110 _,.v 111 VT]) [[],[],[],[2],[1,2,3],[],[5],[1,2,3,4,5,6],[0,1,2,3,4,5,6,7]] 8 1 99 8 OneC [.g 1,.o 0,.o 7] ab U (zM 2 G (zl 2 G ax (oc (ob_a G G (ac (lz0 0 G) bW)) (zL 2 0 3 G ax (zv G (aa (xs:=[.tmp 104,.tmp 106]) (eT zo) (.cons (vq 1 G) (.cons (vq 3 G) .nil))) (oc (ob_a G G (ac (lz0 0 G) bF)) (zL 5 0 1 G ax (zv G (aa (xs:=[.tmp 107,.tmp 109]) (t8 zo hz2) (.cons (vq 4 G) (.cons (vq 6 G) .nil))) o0)))))))) G zd zd zk (cp zk) zk zk (zz [(4,_),(103,_),(110,_)] [O 1 29 _,O 4 22 _,O 6 27 _] fun a w U=>?_)
   rw [show List.range' 8 1=[8] from rfl]
   rw [wpOps_cons]
   refine dq (xs:=[.const (.int .u8 2),.tmp 110]) [0] 1 0 1 G U (fW (putQ (putQ L2 2 ((1-M2.a)/M2.b)) 1 M2.b) 2 ((1-M2.d)/M2.b) (K:=12320) (c:=(2+4103+1+4103)) (K1:=20530) zo zo (by have:=gK L2 2 ((1-M2.a)/M2.b); have:=gK (putQ L2 2 ((1-M2.a)/M2.b)) 1 M2.b; omega)) G G G (.cons (.inr ⟨_,_,rfl,rfl⟩) (.cons (.inl ⟨110,2,rfl,rfl⟩) .nil)) (l3 hB0) zd zk zk zk zk (fun a w U=>?_)
   refine bI ?_
   have U:=zn [(111,_),(4,_)] [O 1 29 _,⟨4,22,ptrH,OwIC 67 9 [U32] ((putQ (putQ (putQ L2 2 ((1-M2.a)/M2.b)) 1 M2.b) 2 ((1-M2.d)/M2.b)).map (EBN 20530))⟩,O 6 27 _] U
   refine zt<|zg [none,none,none] [] [.v 112 _,.v 113 _,.v 114 _,.v 115 _,.v 2 _,.v 3 _] [.o 4,.o 5] U (zl 1 G dQ (zv G (aa (xs:=[.tmp 112]) rJ (.cons (vq 0 G) .nil)) (zv G (kK (vq 1 G)) (zv G (kJ (vq 1 G)) (zA 2 G (zA 3 G o0)))))) (zz [(2,_),(3,_)] [O 1 29 _,O 4 22 _,O 6 27 _] fun a w U=>?_)
   refine a7<|wp_ret<|ar ?_ (aS (rs:=[.tmp 2,.tmp 3]) G U (.tmp (zm 0 G) (.tmp (zm 1 G) .nil)) zd)
   rw [parF,if_pos hm,hP2]; exact bh
set_option maxHeartbeats 2000000 in
theorem rP (xs:List RE):Cn Tryz.prog 9 [(SlA 67 [U32] (xs.map REA)).va] (BnRD (simF xs)):=by
 refine Cn.introW Tryz.func9 rfl zk nq (.cons (ns (fun A hA=>by obtain ⟨x,_,rfl⟩:=List.mem_map.1 hA; exact jN x)).va .nil) mO (fun B w0 a hB0 U=>?_)
 have U:=zn [(0,(SlO 67 [U32] (xs.map REA) True).va)] [] U
 refine wp_seq<|zh [.v 2 _,.v 3 _] [.g 0,.o 0,.o 1] U (zv G (a9 aP) (zv G (a9 a8) o0)) (zz [(0,_),(2,_),(3,_)] [] fun a w U=>?_)
 refine zt<|wp_seq<|zh [.v 9 _,.v 10 _,.v 4 _] [.g 0,.g 1,.g 2,.o 2] U (zM 0 G (zv G (aa (xs:=[.tmp 9]) ((ri xs).wk (.cons slx .nil)) (.cons (vq 0 G) .nil)) (zA 1 G o0))) (zz [(0,_),(2,_),(3,_),(4,_)] [] fun a w U=>?_)
 refine zt<|zh [.v 11 _,.v 12 _] [.g 0,.g 1,.g 2,.g 3,.o 1] U (zM 3 G (zv G (cI (vq 0 G) a8) o0)) (zz [(0,_),(2,_),(3,_),(4,_),(12,_)] [] fun a w U=>?_)
 refine a7<|ah U (zm 4 G) (fun hb0=>?_) (fun hb0=>?_)
 ·have hc:¬ chF xs=0:=by simpa using hb0
  refine wp_seq<|zh [.v 13 _,.v 2 _,.v 3 _] [.g 0,.o 1,.o 2] U (zM 3 G (zv G (a9 aP) (zA 0 G o0))) (zz [(0,_),(2,_),(3,_)] [] fun a w U=>?_)
  refine a7<|wp_ret<|ap ?_
  refine ar ?_ (aS (rs:=[.tmp 2,.tmp 3]) G U (.tmp (zm 1 G) (.tmp (zm 2 G) .nil)) zd)
  rw [simF,if_neg hc]; exact tu2w ti bh
 ·have hc:chF xs=0:=by simpa using hb0
  obtain ⟨hl4,hal⟩:=CA hc
  refine wp_skip<|zt<|zg [] [⟨5,22,ptrH,some 0,_,none⟩] [.alc 0] [.g 0,.g 1,.g 2] U (oc (aJ G G G oz) o0) (zz [(0,_),(2,_),(3,_)] [O 5 22 _] fun a w U=>?_)
  refine zt ?_
  obtain ⟨q5,U⟩:=St.nm U 0 rfl
  refine zg [none] [] [.v 14 _,.v 6 _] [.g 0,.g 1,.g 2,.g 3,.o 1] U (zv G (aa (xs:=[.tmp 5]) (ni q5) (.cons (gq 0 G) .nil)) (zA 0 G o0)) (zz [(5,_),(0,_),(2,_),(3,_),(6,_)] [O 5 22 _] fun a w U=>?_)
  refine zt<|wp_seq<|zg [none] [] [.v 15 _,.v 16 _,.v 17 _] [.g 0,.g 2,.g 3,.g 4,.o 0,.o 1,.o 2] U (zM 1 G (zv G (be Tryz.underlying22 (cE (aL (E:=67) (vq 0 G)))) (zv G (ae a8) o0))) (zz [(5,_),(2,_),(3,_),(6,_),(15,_),(16,_),(17,_)] [O 5 22 _] fun a w U=>?_)
  refine a7<|wp_block ?_
  have U:=St.sel U [0,3,4,5,6]
  refine wp_loop_ghost (fun n a w=>∃ j:Nat,n+j=xs.length∧St B w0 52 [(5,EqV (ptr q5)),(6,FnB 101 74 q5),(15,(SlO 67 [U32] (xs.map REA) True).va),(16,In (xs.length:Nat)),(17,In (j:Nat))] [⟨5,22,ptrH,OwIC 67 9 [U32] ((simQ (xs.take j)).map (EBN (4097*j)))⟩] a w) (xs.length) ?_ ?_
  ·rw [List.length_map] at U
   exact ⟨0,by omega,U⟩
  intro n a w hI
  obtain ⟨j,hn,U⟩:=hI
  refine wp_seq<|zg [none] [] [.v 18 _] [.g 0,.g 1,.g 2,.g 3,.g 4,.o 0] U (zv G (aN (gq 4 G) (gq 3 G)) o0) (zz [(5,_),(6,_),(15,_),(16,_),(17,_),(18,_)] [O 5 22 _] fun a w U=>?_)
  refine zt<|ah U (zm 5 G) (fun hb1=>?_) (fun hb1=>?_)
  ·have hj:j<xs.length:=by simp at hb1; omega
   have hx:=List.all_eq_true.1 hal _ (List.getElem_mem hj)
   have hq:=(iz hx).1
   have hsl:=gE (xs.take j)
   rw [List.length_take] at hsl
   refine wp_skip<|zt<|wp_block<|wp_seq<|iw (sp:=[.v 19 _,.v 20 _,.alc 1,.sto 1]) 2 2 8 [.g 0,.g 1,.g 2,.g 3,.g 4,.o 1] U (zv G (cB cC (fM fun _=>rfl) (cE (aL (E:=67) (gq 2 G))) (gq 4 G) (dD hj)) (zv G (aq (vq 0 G) cb) o0)) G zk zk (zz [(5,_),(6,_),(15,_),(16,_),(17,_),(20,_)] [O 5 22 _] fun a w U=>?_)
   rw [show List.range' 2 2=[2,3] from rfl]
   refine fI (A:=REA xs[j]) 5 [0,1,2,3,4] G G U (Str.zero cu) G cb G zd G zk zk (fun a w U=>?_)
   refine bI ?_
   have U:=zn [(5,_),(6,_),(15,_),(16,_),(17,_)] [O 5 22 _,⟨8,67,ptrH,REA xs[j]⟩] U
   have U:=St.wkL U 1 rfl (el_q hq)
   refine zt<|zg [none,none] [] [.adr 21 8 (.some 0) True,.v 22 _] [.g 0,.g 1,.g 2,.g 3,.g 4,.o 1] U (oc (ob_a G G (ac (lz0 1 G) bP)) (zL 0 1 0 G er o0)) (zz [(5,_),(6,_),(15,_),(16,_),(17,_),(22,_)] [O 5 22 _,O 8 67 _] fun a w U=>?_)
   refine a7<|wp_block<|wp_seq<|zg [none,none] [] [.v 30 _,.v 29 _] [.g 0,.g 1,.g 2,.g 3,.g 4,.g 5,.o 1] U (zv G (bD (gq 5 G) a8) (zA 0 G o0)) (zz [(5,_),(6,_),(15,_),(16,_),(17,_),(22,_),(29,_)] [O 5 22 _,O 8 67 _] fun a w U=>?_)
   refine a7<|ah U (zm 6 G) (fun hb2=>?_) (fun hb2=>?_)
   ·refine bf (sp:=[.v 31 _,.adr 32 8 (.some 1) True,.v 33 _,.adr 34 8 (.some 5) True,.v 35 _,.v 36 _,.v 37 VT]) 6 1 99 6 OneC [.g 0,.g 1,.g 2,.g 3,.g 4,.o 0,.o 5] U (zM 1 G (oc (ob_a G G (ac (lz0 1 G) bg)) (zL 1 1 1 G ax (oc (ob_a G G (ac (lz0 1 G) bK)) (zL 3 1 2 G ax (zv G (aa (xs:=[.tmp 33,.tmp 35]) (t8 (c:=2048) (d:=2048) zo (el_q0 hx hb2)) (.cons (vq 2 G) (.cons (vq 4 G) .nil))) o0)))))) G zd zk zk (zz [(5,_),(6,_),(15,_),(16,_),(17,_),(31,_),(36,_)] [O 5 22 _,O 8 67 _] fun a w U=>?_)
    rw [show List.range' 6 1=[6] from rfl]
    have U:=St.selL U [0]
    rw [wpOps_cons]
    refine dq (xs:=[.const (.int .u8 1),.tmp 36]) [0,1,2,3,4] 5 0 0 G U (fW (simQ (xs.take j)) 1 (toQ xs[j].p/toQ xs[j].q) (K:=(4097*j)) (c:=(2048+2048)) (K1:=(4097*(j+1))) zo zo zo) G G G (.cons (.inr ⟨_,_,rfl,rfl⟩) (.cons (.inl ⟨36,6,rfl,rfl⟩) .nil)) (l3 hB0) zd zk zk zk zk (fun a w U=>?_)
    refine bI ?_
    have U:=zn [(37,_),(5,_),(6,_),(15,_),(16,_),(17,_)] [⟨5,22,ptrH,OwIC 67 9 [U32] ((putQ (simQ (xs.take j)) 1 (toQ xs[j].p/toQ xs[j].q)).map (EBN (4097*(j+1))))⟩] U
    refine ao ?_
    refine ao ?_
    refine a7<|zg [none] [] [.v 47 _,.v 17 _] [.g 1,.g 2,.g 3,.g 4,.o 1] U (zv G (aR (gq 5 G) a8 ((wi64 zo zo).trans (by omega:(_:Int)=((j+1:Nat):Int)))) (zv G (ae (vq 0 G)) o0)) (zz [(5,_),(6,_),(15,_),(16,_),(17,_)] [O 5 22 _] fun a w U=>?_)
    refine a7 ?_
    have U:=St.sel U [0,1,2,3,4]
    have U:=St.cvA U 0 rfl (kQ hj (sE_3 hb2))
    exact ⟨n-1,by omega,j+1,by omega,U⟩
   ·refine wp_seq<|zg [none,none] [] [.v 39 _,.v 38 _] [.g 0,.g 1,.g 2,.g 3,.g 4,.o 1] U (zv G (bD (gq 5 G) a8) (zA 0 G o0)) (zz [(5,_),(6,_),(15,_),(16,_),(17,_),(38,_)] [O 5 22 _,O 8 67 _] fun a w U=>?_)
    refine a7<|ah U (zm 5 G) (fun hb3=>?_) (fun hb3=>?_)
    ·refine bf (sp:=[.v 40 _,.adr 41 8 (.some 1) True,.v 42 _,.adr 43 8 (.some 5) True,.v 44 _,.v 45 _,.v 46 VT]) 6 1 99 6 OneC [.g 0,.g 1,.g 2,.g 3,.g 4,.o 0,.o 5] U (zM 1 G (oc (ob_a G G (ac (lz0 1 G) bg)) (zL 1 1 1 G ax (oc (ob_a G G (ac (lz0 1 G) bK)) (zL 3 1 2 G ax (zv G (aa (xs:=[.tmp 42,.tmp 44]) (nv (c:=2048) (d:=2048) zo) (.cons (vq 2 G) (.cons (vq 4 G) .nil))) o0)))))) G zd zk zk (zz [(5,_),(6,_),(15,_),(16,_),(17,_),(40,_),(45,_)] [O 5 22 _,O 8 67 _] fun a w U=>?_)
     rw [show List.range' 6 1=[6] from rfl]
     have U:=St.selL U [0]
     rw [wpOps_cons]
     refine dq (xs:=[.const (.int .u8 2),.tmp 45]) [0,1,2,3,4] 5 0 0 G U (fW (simQ (xs.take j)) 2 (toQ xs[j].p*toQ xs[j].q) (K:=(4097*j)) (c:=(2048+2048)) (K1:=(4097*(j+1))) zo zo zo) G G G (.cons (.inr ⟨_,_,rfl,rfl⟩) (.cons (.inl ⟨45,6,rfl,rfl⟩) .nil)) (l3 hB0) zd zk zk zk zk (fun a w U=>?_)
     refine bI ?_
     have U:=zn [(46,_),(5,_),(6,_),(15,_),(16,_),(17,_)] [⟨5,22,ptrH,OwIC 67 9 [U32] ((putQ (simQ (xs.take j)) 2 (toQ xs[j].p*toQ xs[j].q)).map (EBN (4097*(j+1))))⟩] U
     refine ao ?_
     refine ao ?_
     refine a7<|zg [none] [] [.v 47 _,.v 17 _] [.g 1,.g 2,.g 3,.g 4,.o 1] U (zv G (aR (gq 5 G) a8 ((wi64 zo zo).trans (by omega:(_:Int)=((j+1:Nat):Int)))) (zv G (ae (vq 0 G)) o0)) (zz [(5,_),(6,_),(15,_),(16,_),(17,_)] [O 5 22 _] fun a w U=>?_)
     refine a7 ?_
     have U:=St.sel U [0,1,2,3,4]
     have U:=St.cvA U 0 rfl (kQ hj (sE_4 hb2 hb3))
     exact ⟨n-1,by omega,j+1,by omega,U⟩
    ·refine bf (sp:=[.v 23 _,.adr 24 8 (.some 0) True,.v 25 _,.adr 26 8 (.some 1) True,.v 27 _,.v 28 VT]) 5 1 99 5 OneC [.g 0,.g 1,.g 2,.g 3,.g 4,.o 0,.o 2,.o 4] U (zM 1 G (oc (ob_a G G (ac (lz0 1 G) bP)) (zL 1 1 0 G er (oc (ob_a G G (ac (lz0 1 G) bg)) (zL 3 1 1 G ax o0))))) G zd zk zk (zz [(5,_),(6,_),(15,_),(16,_),(17,_),(23,_),(25,_),(27,_)] [O 5 22 _,O 8 67 _] fun a w U=>?_)
     rw [show List.range' 5 1=[5] from rfl]
     have U:=St.selL U [0]
     rw [wpOps_cons]
     refine dq (xs:=[.tmp 25,.tmp 27]) [0,1,2,3,4] 5 0 0 G U (fW (simQ (xs.take j)) xs[j].k (toQ xs[j].p) (K:=(4097*j)) (c:=2048) (K1:=(4097*(j+1))) zo zo zo) G G G (.cons (.inl ⟨25,6,rfl,rfl⟩) (.cons (.inl ⟨27,7,rfl,rfl⟩) .nil)) (l3 hB0) zd zk zk zk zk (fun a w U=>?_)
     refine bI ?_
     have U:=zn [(28,_),(5,_),(6,_),(15,_),(16,_),(17,_)] [⟨5,22,ptrH,OwIC 67 9 [U32] ((putQ (simQ (xs.take j)) xs[j].k (toQ xs[j].p)).map (EBN (4097*(j+1))))⟩] U
     refine ao ?_
     refine ao ?_
     refine a7<|zg [none] [] [.v 47 _,.v 17 _] [.g 1,.g 2,.g 3,.g 4,.o 1] U (zv G (aR (gq 5 G) a8 ((wi64 zo zo).trans (by omega:(_:Int)=((j+1:Nat):Int)))) (zv G (ae (vq 0 G)) o0)) (zz [(5,_),(6,_),(15,_),(16,_),(17,_)] [O 5 22 _] fun a w U=>?_)
     refine a7 ?_
     have U:=St.sel U [0,1,2,3,4]
     have U:=St.cvA U 0 rfl (kQ hj (sE_o hb2 hb3))
     exact ⟨n-1,by omega,j+1,by omega,U⟩
  ·obtain rfl:j=xs.length:=by simp at hb1; omega
   refine wp_exit<|ak<|ak<|aC<|zt ?_
   rw [List.take_length] at U
   have U:=St.wkL U 0 rfl (mw (show 4097*xs.length≤16781312 by omega))
   refine zg [none] [] [.v 48 _,.v 49 _,.v 50 _,.v 51 _,.v 2 _,.v 3 _] [.o 4,.o 5] U (zl 0 G dQ (zv G (aa (xs:=[.tmp 48]) rJ (.cons (vq 0 G) .nil)) (zv G (kK (vq 1 G)) (zv G (kJ (vq 1 G)) (zA 2 G (zA 3 G o0)))))) (zz [(2,_),(3,_)] [O 5 22 _] fun a w U=>?_)
   refine a7<|wp_ret<|ar ?_ (aS (rs:=[.tmp 2,.tmp 3]) G U (.tmp (zm 0 G) (.tmp (zm 1 G) .nil)) zd)
   rw [simF,if_pos hc]; exact bh
end Go.Proofs.YtmacliockgbdcaaGreatDoor
