import Derived.Test.YtmfgafhlaeolgaaGreatDoorBtAa
import Derived.Test.YtmfgafhlaeolgaaGreatDoorBtAc
import Derived.Test.YtmfgafhlaeolgaaGreatDoorBtAm
import Derived.Test.YtmfgafhlaeolgaaGreatDoorBtAy
import Derived.Test.YtmfgafhlaeolgaaGreatDoorBtBb
import Derived.Test.YtmfgafhlaeolgaaGreatDoorBtBc
import Derived.Laws.AppendOwn
import Derived.Laws.OwnMore
import Derived.Orders
set_option linter.unusedVariables false
set_option linter.unusedSimpArgs false
set_option linter.unusedSectionVars false
set_option maxRecDepth 100000
namespace Go.Proofs.YtmfgafhlaeolgaaGreatDoor
open Go Go.RowKit
theorem rev_nxA {xs:List RE}{k:Nat}(hk:k<xs.length):(xs.reverse.take k).map REA++[REA (xs.reverse.getD k re0)]=(xs.reverse.take (k+1)).map REA:=by
 rw [List.getD_eq_getElem?_getD,List.getElem?_eq_getElem (by simpa using hk),List.take_succ_eq_append_getElem (by simpa using hk),List.map_append]
 rfl
theorem okp_at {xs:List RE}(hc:chF xs=0){j:Nat}(hj:j<xs.length):okX xs[j].p=true:=by
 have h:=elF_x ((zmw hc).2 _ (List.getElem_mem hj))
 simp only [List.all_cons,List.all_nil,Bool.and_true,Bool.and_eq_true] at h
 exact h.1
theorem rea_c {x:RE}(h:[x.p,x.q].all okX=true):WkA (cat [NumA .u8 x.k,QA 2051 (toQ x.p),QA 2051 (toQ x.q)]) (REA x):=by
 simp only [List.all_cons,List.all_nil,Bool.and_true,Bool.and_eq_true] at h
 exact zch (.cons (.refl _) (.cons (qaA.trans (zi1 (congrArg RFA (zuo h.1).1.symm))) (.cons (qaA.trans (zi1 (congrArg RFA (zuo h.2).1.symm))) .nil)))
theorem zpc {c:Nat}{x:Rat}(hc:c≤800000000):Cn Tryz.prog 95 [Qs c x] (Qs (c+2+1) x):=by
 refine Cn.intro Tryz.func95 rfl zk nq (fun B w0 a O=>?_)
 have O:=zn [(0,Qs c x)] [] O
 refine wp_seq<|zg [] [⟨1,33,ptrH,some 0,_,none⟩,⟨2,33,ptrH,some 1,_,none⟩] [.alc 0,.alc 1] [] O (oc (zav rfl rfl rfl (gq 0 rfl)) (oc (zb0 rfl rfl rfl (Str.zero zbz)) o0)) (zz [] [⟨1,33,ptrH,_⟩,⟨2,33,ptrH,_⟩] fun a w O=>?_)
 refine zt<|zgd [[],[],[0,1],[0,1,2]] [none,some (3,_)] [] [.v 3 _,.v 4 _,.v 5 _,.sto 1] [] za9 O (zv rfl (zay (lz0 0 rfl) zb5) (zv rfl (za5 (xs:=[]) zju .nil) (zv rfl (za5 (xs:=[.tmp 3,.tmp 4]) (zpa zo) (.cons (vq 0 rfl) (.cons (vq 1 rfl) .nil))) (oc (zan rfl rfl rfl (vq 2 rfl) zb5 (Eq.trans (b:=4) rfl rfl)) o0)))) zk zk zk zk (zz [] [⟨1,33,ptrH,_⟩,⟨2,33,ptrH,_⟩] fun a w O=>?_)
 refine za0<|wp_ret<|zal ?_ (zaw rfl O (zm 1 rfl) zb5)
 exact zbw (congrArg (Qs _) (Rat.add_zero x))
theorem znl (x:RE)(hx:[x.p,x.q].all okX=true):Cn Tryz.prog 26 [(REA x).va] ((REA x).va):=by
 refine Cn.intro Tryz.func26 rfl zk nq (fun B w0 a O=>?_)
 have O:=zn [(0,(REA x).va)] [] O
 refine wp_seq<|zg [] [⟨1,64,ptrH,some 0,_,none⟩,⟨2,64,ptrH,some 1,_,none⟩] [.alc 0,.alc 1] [] O (oc (zav rfl rfl rfl (gq 0 rfl)) (oc (zb0 rfl rfl rfl (Str.zero zd8)) o0)) (zz [] [⟨1,64,ptrH,_⟩,⟨2,64,ptrH,_⟩] fun a w O=>?_)
 refine zt ?_
 have O:=St.wkL O 0 rfl (el_q hx)
 refine zgd [[],[0],[],[2],[2,3],[],[5],[2,3,4,5,6],[0,1,2,3,4,5,6,7],[0,1,2,3,4,5,6,7,8]] [none,some (9,_)] [] [.adr 3 1 (.some 0) True,.v 4 _,.adr 5 1 (.some 1) True,.v 6 _,.v 7 _,.adr 8 1 (.some 5) True,.v 9 _,.v 10 _,.v 11 _,.sto 1] [] za9 O (oc (ob_a rfl rfl (zae (lz0 0 rfl) zcc)) (zv rfl (za4 0 rfl zk trivial (lz0 0 rfl) (Sub.part 0 rfl rfl) zfu) (oc (ob_a rfl rfl (zae (lz0 0 rfl) zc4)) (zv rfl (za4 2 rfl zk trivial (lz0 0 rfl) (Sub.part 1 rfl rfl) zb5) (zv rfl (za5 (xs:=[.tmp 6]) (zpc (c:=2048) zo) (.cons (vq 3 rfl) .nil)) (oc (ob_a rfl rfl (zae (lz0 0 rfl) zc7)) (zv rfl (za4 5 rfl zk trivial (lz0 0 rfl) (Sub.part 2 rfl rfl) zb5) (zv rfl (za5 (xs:=[.tmp 9]) (zpc (c:=2048) zo) (.cons (vq 6 rfl) .nil)) (zv rfl (zbn (xs:=[(0,.tmp 4),(1,.tmp 7),(2,.tmp 10)]) (qs:=[(0,_),(1,_),(2,_)]) zd8 (.cons ⟨rfl,(vq 1 rfl),rfl⟩ (.cons ⟨rfl,(vq 4 rfl),rfl⟩ (.cons ⟨rfl,(vq 7 rfl),rfl⟩ .nil)))) (oc (zan rfl rfl rfl (vq 8 rfl) zd5 (Eq.trans (b:=9) rfl rfl)) o0)))))))))) zk zk zk zk (zz [] [⟨1,64,ptrH,_⟩,⟨2,64,ptrH,_⟩] fun a w O=>?_)
 refine za0<|wp_ret<|zal ?_ (zaw rfl O (zm 1 rfl) zd5)
 exact (rea_c hx).va
theorem zm9 (xs:List RE):Cn Tryz.prog 9 [(SlA 64 [U32] (xs.map REA)).va] (Tu [(SlA 64 [U32] ((revF xs).1.map REA)).va,In (revF xs).2]):=by
 obtain ⟨it,z,e1,e2,e3,e4,e5⟩:=zqw
 refine Cn.introF Tryz.func9 rfl zk nq (fun B w0 a hF O=>?_)
 have O:=zn [(0,(SlA 64 [U32] (xs.map REA)).va)] [] O
 obtain ⟨v0,hv0,O⟩:=St.eqv O 0 rfl
 refine wp_seq<|zh [.v 2 _,.v 3 _] [.g 0,.o 0,.o 1] O (zv rfl (za2 zbb) (zv rfl (za2 za3) o0)) (zz [(0,_),(2,_),(3,_)] [] fun a w O=>?_)
 refine zt<|zh [.v 7 _,.v 8 _,.v 4 _] [.g 0,.g 1,.g 2,.o 2] O (zv rfl (za1 (gq 0 rfl)) (zv rfl (za5 (xs:=[.tmp 7]) (zjv xs) (.cons (zbe hF hv0 (vq 0 rfl)) .nil)) (zv rfl (za2 (vq 1 rfl)) o0))) (zz [(0,_),(2,_),(3,_),(4,_)] [] fun a w O=>?_)
 refine zt<|wp_seq<|zh [.v 9 _,.v 10 _] [.g 0,.g 1,.g 2,.g 3,.o 1] O (zv rfl (za1 (gq 3 rfl)) (zv rfl (zdp (vq 0 rfl) za3) o0)) (zz [(0,_),(2,_),(3,_),(4,_),(10,_)] [] fun a w O=>?_)
 refine za0<|za8 O (zm 4 rfl) (fun hb0=>?_) (fun hb0=>?_)
 ·have hc:¬ chF xs=0:=by simpa using hb0
  refine wp_seq<|zh [.v 11 _,.v 2 _,.v 3 _] [.g 0,.o 1,.o 2] O (zv rfl (za1 (gq 3 rfl)) (zv rfl (za2 zbb) (zv rfl (za2 (vq 0 rfl)) o0))) (zz [(0,_),(2,_),(3,_)] [] fun a w O=>?_)
  refine za0<|wp_ret<|zaf ?_
  refine zal ?_ (zb9 (rs:=[.tmp 2,.tmp 3]) rfl O (.tmp (zm 1 rfl) (.tmp (zm 2 rfl) .nil)) zd)
  rw [revF,if_neg hc]; exact tu2w nil_sl zbv
 ·have hc:chF xs=0:=by simpa using hb0
  have hl4:=(zmw hc).1
  refine wp_skip<|zt<|zh [.v 5 _] [.g 0,.g 1,.g 2,.o 0] O (zv rfl (za2 zbb) o0) (zz [(0,_),(2,_),(3,_),(5,_)] [] fun a w O=>?_)
  refine zt<|wp_seq<|zh [.v 12 _,.v 13 _,.v 14 _,.v 6 _] [.g 0,.g 1,.g 2,.g 3,.o 3] O (zv rfl (za1 (gq 0 rfl)) (zv rfl (zbf Tryz.underlying22 (zbe hF hv0 (vq 0 rfl))) (zv rfl (zcj (vq 1 rfl) za3 ((wi64 (by rw [List.length_map]; omega) (by rw [List.length_map]; omega)))) (zv rfl (za2 (vq 2 rfl)) o0)))) (zz [(0,_),(2,_),(3,_),(5,_),(6,_)] [] fun a w O=>?_)
  refine za0<|wp_block ?_
  have O:=St.sel O [0,3,4]
  refine wp_loop_ghost (fun n a w=>∃ (k:Nat) (z1:Int),(n+k=xs.length∧z1=(n:Int)-1)∧St B w0 28 [(0,EqV v0),(5,OwnR w0.w.heap.size 64 9 [U32] ((xs.reverse.take k).map REA)),(6,In z1)] [] a w) (xs.length) ?_ ?_
  ·rw [List.length_map] at O
   have O:=St.wkG (A':=OwnR w0.w.heap.size 64 9 [U32] ((xs.reverse.take 0).map REA)) O 1 rfl zid
   exact ⟨0,_,⟨by omega,rfl⟩,O⟩
  intro n a w hI
  obtain ⟨k,z1,⟨hn,hz⟩,O⟩:=hI
  refine wp_seq<|wp_seq<|zh [.v 15 _,.v 16 _] [.g 0,.g 1,.g 2,.o 1] O (zv rfl (za1 (gq 2 rfl)) (zv rfl (zeo (vq 0 rfl) za3) o0)) (zz [(0,_),(5,_),(6,_),(16,_)] [] fun a w O=>?_)
  refine za0<|za8 O (zm 3 rfl) (fun hb1=>?_) (fun hb1=>?_)
  ·have hz0:z1≥0:=of_decide_eq_true hb1
   have hk:k<xs.length:=by omega
   obtain rfl:z1=(((xs.length-1-k:Nat)):Int):=by omega
   refine wp_skip<|zt<|wp_block<|zii (sp:=[.v 19 _,.v 20 _,.v 21 _,.v 22 _,.v 23 _,.v 24 _,.v 25 _,.v 26 VT,.v 5 VT]) 7 [0,2] 0 6 O (zv rfl (za1 (gq 1 rfl)) (zv rfl (za1 (gq 0 rfl)) (zv rfl (za1 (gq 2 rfl)) (zv rfl (zcv ze3 (zf3 fun _=>rfl) (zbe hF hv0 (vq 1 rfl)) (vq 2 rfl) (bw_at hk)) (zv rfl (zad (vq 3 rfl) zd5) (zv rfl (za5 (xs:=[.tmp 23]) (znl _ (rev_ok hc hk)) (.cons (vq 4 rfl) .nil)) (zv rfl (zd0 (D:=[U32]) (l:=[_]) (xs:=[.tmp 24]) (zfv zk) ze3 zk (n_ok zk) nq nq nq (.cons (vq 5 rfl) .nil) rfl rfl) o0))))))) rfl zk rfl rfl zd rfl zd rfl (fun _ _ h _=>h) Tryz.underlying22 e1 e2 e3 e4 e5 zd (by simp only [List.length_map,List.length_take,List.length_reverse,List.length_singleton]; omega) zd (fun T hT=>hT) zd (fun A hA=>by obtain rfl:=List.mem_singleton.1 hA; rfl) zk nq nq zk zk (zz [(5,_),(0,_),(6,_)] [] fun a w O=>?_)
   refine zab ?_
   refine za0<|zh [.v 17 _,.v 18 _,.v 6 _] [.g 0,.g 1,.o 2] O (zv rfl (za1 (gq 2 rfl)) (zv rfl (zcj (vq 0 rfl) za3 ((wi64 zo zo).trans (by omega:(_:Int)=((n-1:Nat):Int)-1))) (zv rfl (za2 (vq 1 rfl)) o0))) (zz [(5,_),(0,_),(6,_)] [] fun a w O=>?_)
   refine za0 ?_
   have O:=St.sel O [1,0,2]
   have O:=St.wkG (A':=OwnR w0.w.heap.size 64 9 [U32] ((xs.reverse.take (k+1)).map REA)) O 1 rfl (zbw (congrArg (OwnR w0.w.heap.size 64 9 [U32]) (rev_nxA hk)))
   exact ⟨n-1,by omega,k+1,_,⟨by omega,rfl⟩,O⟩
  ·have hz0:¬ z1≥0:=of_decide_eq_false hb1
   obtain rfl:k=xs.length:=by omega
   have O:=St.wkG (A':=OwnR w0.w.heap.size 64 9 [U32] (xs.reverse.map REA)) O 1 rfl (zbw (by rw [ztx]))
   refine wp_exit<|za7<|za7<|zam<|zt<|zh [.v 27 _,.v 2 _,.v 3 _] [.o 1,.o 2] O (zv rfl (za1 (gq 1 rfl)) (zv rfl (za2 (vq 0 rfl)) (zv rfl (za2 za3) o0))) (zz [(2,_),(3,_)] [] fun a w O=>?_)
   refine za0<|wp_ret<|zal ?_ (zb9 (rs:=[.tmp 2,.tmp 3]) rfl O (.tmp (zm 0 rfl) (.tmp (zm 1 rfl) .nil)) zd)
   rw [revF,if_pos hc]; exact tu2w zhe zbv
set_option maxHeartbeats 2000000 in
theorem znk (xs:List RE):Cn Tryz.prog 10 [(SlA 64 [U32] (xs.map REA)).va] (FrR (lenF xs)):=by
 refine Cn.introF Tryz.func10 rfl zk nq (fun B w0 a hF O=>?_)
 have O:=zn [(0,(SlA 64 [U32] (xs.map REA)).va)] [] O
 obtain ⟨v0,hv0,O⟩:=St.eqv O 0 rfl
 refine wp_seq<|zg [] [⟨2,33,ptrH,some 0,_,none⟩] [.alc 0,.v 3 _] [.g 0,.o 1] O (oc (zb0 rfl rfl rfl (Str.zero zbz)) (zv rfl (za2 za3) o0)) (zz [(0,_),(3,_)] [⟨2,33,ptrH,_⟩] fun a w O=>?_)
 refine zt<|zg [none] [] [.v 7 _,.v 8 _,.v 4 _] [.g 0,.g 1,.o 2] O (zv rfl (za1 (gq 0 rfl)) (zv rfl (za5 (xs:=[.tmp 7]) (zjv xs) (.cons (zbe hF hv0 (vq 0 rfl)) .nil)) (zv rfl (za2 (vq 1 rfl)) o0))) (zz [(0,_),(3,_),(4,_)] [⟨2,33,ptrH,_⟩] fun a w O=>?_)
 refine zt<|wp_seq<|zg [none] [] [.v 9 _,.v 10 _] [.g 0,.g 1,.g 2,.o 1] O (zv rfl (za1 (gq 2 rfl)) (zv rfl (zdp (vq 0 rfl) za3) o0)) (zz [(0,_),(3,_),(4,_),(10,_)] [⟨2,33,ptrH,_⟩] fun a w O=>?_)
 refine za0<|za8 O (zm 3 rfl) (fun hb0=>?_) (fun hb0=>?_)
 ·have hc:¬ chF xs=0:=by simpa using hb0
  refine wp_seq<|zg [some (2,_)] [] [.v 11 _,.v 12 _,.sto 0,.v 3 _] [.g 0,.o 3] O (zv rfl (zbn (xs:=[]) (qs:=[]) zbz .nil) (zv rfl (za1 (gq 2 rfl)) (oc (zan rfl rfl rfl (vq 0 rfl) zb5 (Eq.trans (b:=4) rfl rfl)) (zv rfl (za2 (vq 1 rfl)) o0)))) (zz [(0,_),(3,_)] [⟨2,33,ptrH,_⟩] fun a w O=>?_)
  refine za0<|wp_ret<|zaf ?_
  refine zal ?_ (zb9 (rs:=[.cell 2 33,.tmp 3]) rfl O (.cell (zm 0 rfl) zb5 (.tmp (zm 1 rfl) .nil)) zd)
  rw [lenF,if_neg hc]; exact zbv
 ·have hc:chF xs=0:=by simpa using hb0
  have hl4:=(zmw hc).1
  refine wp_skip<|zt<|zg [none] [⟨5,33,ptrH,some 1,_,some (2,_)⟩] [.v 13 _,.alc 1,.sto 1] [.g 0,.g 1] O (zv rfl (za5 (xs:=[]) zju .nil) (oc (zb0 rfl rfl rfl (Str.zero zbz)) (oc (zan rfl rfl rfl (vq 0 rfl) zb5 (Eq.trans (b:=4) rfl rfl)) o0))) (zz [(0,_),(3,_)] [⟨2,33,ptrH,_⟩,⟨5,33,ptrH,_⟩] fun a w O=>?_)
  refine zt<|wp_seq<|zg [none,none] [] [.v 6 _] [.g 0,.g 1,.o 0] O (zv rfl (za2 za3) o0) (zz [(0,_),(3,_),(6,_)] [⟨2,33,ptrH,_⟩,⟨5,33,ptrH,_⟩] fun a w O=>?_)
  refine za0<|wp_block ?_
  have O:=St.sel O [0,2]
  refine wp_loop_ghost (fun n a w=>∃ j:Nat,n+j=xs.length∧St B w0 46 [(0,EqV v0),(6,In (j:Nat))] [⟨2,33,ptrH,RFA rf0⟩,⟨5,33,ptrH,QA (2+2049*j) (lenQ (xs.take j))⟩] a w) (xs.length) ?_ ?_
  ·exact ⟨0,by omega,St.wkL (A':=QA (2+2049*0) (lenQ (xs.take 0))) O 1 rfl (WkA.refl _)⟩
  intro n a w hI
  obtain ⟨j,hn,O⟩:=hI
  refine wp_seq<|wp_seq<|zg [none,none] [] [.v 14 _,.v 15 _,.v 16 _,.v 17 _] [.g 0,.g 1,.o 3] O (zv rfl (za1 (gq 1 rfl)) (zv rfl (za1 (gq 0 rfl)) (zv rfl (zbf Tryz.underlying22 (zbe hF hv0 (vq 1 rfl))) (zv rfl (zaz (vq 0 rfl) (vq 2 rfl)) o0)))) (zz [(0,_),(6,_),(17,_)] [⟨2,33,ptrH,_⟩,⟨5,33,ptrH,_⟩] fun a w O=>?_)
  refine za0<|za8 O (zm 2 rfl) (fun hb1=>?_) (fun hb1=>?_)
  ·have hj:j<xs.length:=by rw [List.length_map] at hb1; have:=of_decide_eq_true hb1; omega
   refine wp_skip<|zt<|wp_block<|wp_seq<|zg [none,none] [] [.v 20 _,.v 21 _,.v 22 _,.v 23 _,.v 24 _,.v 25 _,.v 26 _,.v 27 (Wh (_=false) _),.v 28 (Wh (_=false) _),.v 29 (Wh (_=false) _),.v 30 (Wh (_=false) _),.v 31 (Wh (_=false) _),.v 32 (Wh (_=false) _),.v 33 _] [.g 0,.g 1,.o 13] O (zv rfl (za1 (gq 0 rfl)) (zv rfl (za1 (gq 1 rfl)) (zv rfl (zcv ze3 (zf3 fun _=>rfl) (zbe hF hv0 (vq 0 rfl)) (vq 1 rfl) (zdt hj)) (zv rfl (zax (vq 2 rfl) zcc (Sub.part 0 rfl rfl)) (zv rfl (zad (vq 3 rfl) zfu) (zv rfl (zc3 (vq 4 rfl) za3) (zv rfl (za1 (vq 5 rfl)) (oc (zai rfl rfl rfl (vq 6 rfl) nq (fun hg=>za1 (gq 0 rfl))) (oc (zai rfl rfl rfl (vq 6 rfl) nq (fun hg=>za1 (gq 1 rfl))) (oc (zai rfl rfl rfl (vq 6 rfl) nq (fun hg=>zcv ze3 (zf3 fun _=>rfl) (zbe hF hv0 (zaa (vq 7 rfl) hg)) (zaa (vq 8 rfl) hg) (zdt hj))) (oc (zai rfl rfl rfl (vq 6 rfl) nq (fun hg=>zax (zaa (vq 9 rfl) hg) zcc (Sub.part 0 rfl rfl))) (oc (zai rfl rfl rfl (vq 6 rfl) nq (fun hg=>zad (zaa (vq 10 rfl) hg) zfu)) (oc (zai rfl rfl rfl (vq 6 rfl) nq (fun hg=>zc3 (zaa (vq 11 rfl) hg) za3)) (zv rfl (r_or (vq 6 rfl) (vq 12 rfl)) o0)))))))))))))) (zz [(0,_),(6,_),(33,_)] [⟨2,33,ptrH,_⟩,⟨5,33,ptrH,_⟩] fun a w O=>?_)
   refine za0<|zc8 (fun a w =>  St B w0 46 [(0,EqV v0),(6,In (j:Nat))] [⟨2,33,ptrH,RFA rf0⟩,⟨5,33,ptrH,QA (2+2049*(j+1)) (lenQ (xs.take (j+1)))⟩] a w) O (zm 2 rfl) (fun hb2=>?_) (fun hb2=>?_) (fun a w O=>?_)
   ·refine zgd [[],[],[],[1,2],[1,2,3],[1,2,3,4],[0,1,2,3,4,5],[0,1,2,3,4,5,6]] [none,some (7,_)] [] [.v 34 _,.v 35 _,.v 36 _,.v 37 _,.v 38 _,.v 39 _,.v 40 _,.sto 1] [.g 0,.g 1] za9 O (zv rfl (zay (lz0 1 rfl) zb5) (zv rfl (za1 (gq 0 rfl)) (zv rfl (za1 (gq 1 rfl)) (zv rfl (zcv ze3 (zf3 fun _=>rfl) (zbe hF hv0 (vq 1 rfl)) (vq 2 rfl) (zdt hj)) (zv rfl (zax (vq 3 rfl) zc4 (Sub.part 1 rfl rfl)) (zv rfl (zad (vq 4 rfl) zb5) (zv rfl (za5 (xs:=[.tmp 34,.tmp 39]) ((zpa (c:=2+2049*j) (d:=2048) zo).wk (.cons zbv (.cons (qa_x (okp_at hc hj) (Nat.le_refl _)).va .nil))) (.cons (vq 0 rfl) (.cons (vq 5 rfl) .nil))) (oc (zan rfl rfl rfl (vq 6 rfl) zb5 (Eq.trans (b:=4) rfl rfl)) o0)))))))) zk zk zk zk (zz [(0,_),(6,_)] [⟨2,33,ptrH,_⟩,⟨5,33,ptrH,_⟩] fun a w O=>?_)
    refine za0 ?_
    have O:=St.sel O [0,1]
    have O:=St.wkL (A':=QA (2+2049*(j+1)) (lenQ (xs.take (j+1)))) O 1 rfl (by rw [zpo hj,if_pos (by simpa using hb2)]; exact znn zo)
    exact O
   ·refine wp_skip<|za0 ?_
    have O:=St.sel O [0,1]
    have O:=St.wkL (A':=QA (2+2049*(j+1)) (lenQ (xs.take (j+1)))) O 1 rfl (by rw [zpo hj,if_neg (by simpa using hb2)]; exact znn zo)
    exact O
   refine zab ?_
   refine za0<|zg [none,none] [] [.v 18 _,.v 19 _,.v 6 _] [.g 0,.o 2] O (zv rfl (za1 (gq 1 rfl)) (zv rfl (zb2 (vq 0 rfl) za3 ((wi64 zo zo).trans (by omega:(_:Int)=((j+1:Nat):Int)))) (zv rfl (za2 (vq 1 rfl)) o0))) (zz [(0,_),(6,_)] [⟨2,33,ptrH,_⟩,⟨5,33,ptrH,_⟩] fun a w O=>?_)
   refine za0 ?_
   have O:=St.sel O [0,1]
   exact ⟨n-1,by omega,j+1,by omega,O⟩
  ·obtain rfl:j=xs.length:=by rw [List.length_map] at hb1; have:=of_decide_eq_false hb1; omega
   rw [List.take_length] at O
   refine wp_exit<|za7<|za7<|zam<|zt<|wp_seq<|zg [none,none] [] [.v 41 _,.v 42 _,.v 43 _] [.o 2] O (zv rfl (zay (lz0 1 rfl) zb5) (zv rfl (zd0 (D:=[U32]) (l:=[_]) (xs:=[.tmp 41]) (zfv zk) zkc zk (n_ok zk) nq nq nq (.cons (vq 0 rfl) .nil) rfl rfl) (zv rfl (za5 (xs:=[.tmp 42]) (zyk [lenQ xs] (.cons ⟨_,rfl⟩ .nil) nq) (.cons (vq 1 rfl) .nil)) o0))) (zz [(43,_)] [⟨2,33,ptrH,_⟩,⟨5,33,ptrH,_⟩] fun a w O=>?_)
   refine za0<|za8 O (zm 0 rfl) (fun hb3=>?_) (fun hb3=>?_)
   ·rw [zhq] at hb3
    refine wp_seq<|zg [some (1,_),none] [] [.v 44 _,.sto 0,.v 3 _] [.o 2] O (zv rfl (zbn (xs:=[]) (qs:=[]) zbz .nil) (oc (zan rfl rfl rfl (vq 0 rfl) zb5 (Eq.trans (b:=4) rfl rfl)) (zv rfl (za2 za3) o0))) (zz [(3,_)] [⟨2,33,ptrH,_⟩,⟨5,33,ptrH,_⟩] fun a w O=>?_)
    refine za0<|wp_ret<|zaf ?_
    refine zal ?_ (zb9 (rs:=[.cell 2 33,.tmp 3]) rfl O (.cell (zm 0 rfl) zb5 (.tmp (zm 0 rfl) .nil)) zd)
    rw [lenF,if_pos hc,ansF,if_pos hb3]; exact zbv
   ·rw [zhq] at hb3
    refine wp_skip<|zt<|zg [some (1,_),none] [] [.v 45 _,.sto 0,.v 3 _] [.o 2] O (zv rfl (zay (lz0 1 rfl) zb5) (oc (zan rfl rfl rfl (vq 0 rfl) zb5 (Eq.trans (b:=4) rfl rfl)) (zv rfl (za2 za3) o0))) (zz [(3,_)] [⟨2,33,ptrH,_⟩,⟨5,33,ptrH,_⟩] fun a w O=>?_)
    refine za0<|wp_ret<|zal ?_ (zb9 (rs:=[.cell 2 33,.tmp 3]) rfl O (.cell (zm 0 rfl) zb5 (.tmp (zm 0 rfl) .nil)) zd)
    rw [lenF,if_pos hc,ansF,if_neg (by rw [hb3]; decide)]; exact tu2w qaA.va zbv
end Go.Proofs.YtmfgafhlaeolgaaGreatDoor
