import Derived.Test.YtpnhpldlecmbdaaGreatDoorBmAa
import Derived.Test.YtpnhpldlecmbdaaGreatDoorBmAc
import Derived.Test.YtpnhpldlecmbdaaGreatDoorBmAl
import Derived.Test.YtpnhpldlecmbdaaGreatDoorBmAo
import Derived.Test.YtpnhpldlecmbdaaGreatDoorBmAz
import Derived.Test.YtpnhpldlecmbdaaGreatDoorBmBa
import Derived.Test.YtpnhpldlecmbdaaGreatDoorBmBb
import Derived.Test.YtpnhpldlecmbdaaGreatDoorBmBe
set_option linter.unusedVariables false
set_option linter.unusedSimpArgs false
set_option linter.unusedSectionVars false
set_option maxRecDepth 100000
namespace Go.Proofs.YtpnhpldlecmbdaaGreatDoor
open Go Go.RowKit
theorem big_e {x:RI}:decide ((x.mag.length:Int)>2048)=bigI x:=by unfold bigI; simp
theorem lq_e {q:Rat}:(bigI (riOf q.num) || bigI (riOf (q.den:Int)))=longQ q:=by simp [longQ]
theorem zrf (x:RI):Cn Tryz.prog 190 [(RIA x).va] (Bo (bigI x)):=by
 refine Cn.intro Tryz.func190 rfl zk nq (fun B w0 a O=>?_)
 have O:=zn [(0,(RIA x).va)] [] O
 refine wp_seq<|zg [] [⟨1,26,ptrH,some 0,_,none⟩] [.alc 0,.v 2 _] [.o 1] O (oc (zal rfl rfl rfl (gq 0 rfl)) (zv rfl (za2 zb0) o0)) (zz [(2,_)] [⟨1,26,ptrH,_⟩] fun a w O=>?_)
 refine zt<|zg [none] [] [.adr 3 1 (.some 1) True,.v 4 _,.v 5 _,.v 6 _,.v 2 _] [.o 4] O (oc (ob_a rfl rfl (za7 (lz0 0 rfl) zaj)) (zv rfl (za4 0 rfl zk trivial (lz0 0 rfl) (Sub.part 1 rfl rfl) zbc) (zv rfl (zay Tryz.underlying24 (vq 1 rfl)) (zv rfl (zez (vq 2 rfl) za3) (zv rfl (za2 (vq 3 rfl)) o0))))) (zz [(2,_)] [⟨1,26,ptrH,_⟩] fun a w O=>?_)
 refine za0<|wp_ret<|zag ?_ (zah rfl O (zm 0 rfl))
 exact zbz (congrArg Bo big_e)
theorem r2long_q {L:List As}(qs:List Rat)(hL:All2 IsQ L qs)(hl:qs.length≤1099511627776):Cn Tryz.prog 161 [(SlA 28 [U32] L).va] (Bo (qs.any longQ)):=by
 have hLl:=hL.length
 refine Cn.introW Tryz.func161 rfl zk nq (.cons (zpj (isq_up hL)).va .nil) (zev _).va (fun B w0 a hB0 O=>?_)
 have O:=zn [(0,(SlO 28 [U32] L True).va)] [] O
 refine wp_seq<|zh [.v 2 _] [.g 0,.o 0] O (zv rfl (za2 zb0) o0) (zz [(0,_),(2,_)] [] fun a w O=>?_)
 refine zt<|wp_seq<|zh [.v 3 _] [.g 0,.g 1,.o 0] O (zv rfl (za2 za3) o0) (zz [(0,_),(2,_),(3,_)] [] fun a w O=>?_)
 refine za0<|wp_block ?_
 have O:=St.sel O [0,2]
 refine wp_loop_ghost (fun n a w=>∃ j:Nat,(n+j=qs.length∧(qs.take j).any longQ=false)∧St B w0 24 [(0,(SlO 28 [U32] L True).va),(3,In (j:Nat))] [] a w) (qs.length) ?_ ?_
 ·exact ⟨0,⟨by omega,rfl⟩,O⟩
 intro n a w hI
 obtain ⟨j,⟨hn,hno⟩,O⟩:=hI
 refine wp_seq<|wp_seq<|zh [.v 4 _,.v 5 _,.v 6 _,.v 7 _] [.g 0,.g 1,.o 3] O (zv rfl (za1 (gq 1 rfl)) (zv rfl (za1 (gq 0 rfl)) (zv rfl (zbq Tryz.underlying84 (zda (zaz (vq 1 rfl)))) (zv rfl (zb4 (vq 0 rfl) (vq 2 rfl)) o0)))) (zz [(0,_),(3,_),(7,_)] [] fun a w O=>?_)
 refine za0<|za8 O (zm 2 rfl) (fun hb0=>?_) (fun hb0=>?_)
 ·have hj:j<qs.length:=by rw [hLl] at hb0; simp at hb0; omega
  obtain ⟨kj,hLj⟩:=isq_at hL hj
  refine wp_skip<|zt<|wp_block<|wp_seq<|zh [.v 10 _,.v 11 _,.v 12 _,.v 13 _,.v 14 _,.v 15 _,.v 16 _,.v 17 (Wh (_=false) _),.v 18 (Wh (_=false) _),.v 19 (Wh (_=false) _),.v 20 (Wh (_=false) _),.v 21 (Wh (_=false) _),.v 22 (Wh (_=false) _),.v 23 _] [.g 0,.g 1,.o 13] O (zv rfl (za1 (gq 0 rfl)) (zv rfl (za1 (gq 1 rfl)) (zv rfl (ze7 zks (isq_n hL) (zda (zaz (vq 0 rfl))) (vq 1 rfl) hLj) (zv rfl (zat (vq 2 rfl) zbd (Sub.part 0 rfl rfl)) (zv rfl (zae (vq 3 rfl) zab) (zv rfl (za5 (xs:=[.tmp 14]) ((zrf (riOf (qs[j]).num)).wk (.cons zaA.va .nil)) (.cons (vq 4 rfl) .nil)) (zv rfl (za1 (vq 5 rfl)) (oc (zao rfl rfl rfl (vq 6 rfl) nq (fun hg=>za1 (gq 0 rfl))) (oc (zao rfl rfl rfl (vq 6 rfl) nq (fun hg=>za1 (gq 1 rfl))) (oc (zao rfl rfl rfl (vq 6 rfl) nq (fun hg=>ze7 zks (isq_n hL) (zda (zaz (zad (vq 7 rfl) hg))) (zad (vq 8 rfl) hg) hLj)) (oc (zao rfl rfl rfl (vq 6 rfl) nq (fun hg=>zat (zad (vq 9 rfl) hg) zb6 (Sub.part 1 rfl rfl))) (oc (zao rfl rfl rfl (vq 6 rfl) nq (fun hg=>zae (zad (vq 10 rfl) hg) zab)) (oc (zao rfl rfl rfl (vq 6 rfl) nq (fun hg=>za5 (xs:=[.tmp 21]) ((zrf (riOf ((qs[j]).den:Int))).wk (.cons zaA.va .nil)) (.cons (zad (vq 11 rfl) hg) .nil))) (zv rfl (r_or (vq 6 rfl) (vq 12 rfl)) o0)))))))))))))) (zz [(0,_),(3,_),(23,_)] [] fun a w O=>?_)
  refine za0<|za8 O (zm 2 rfl) (fun hb1=>?_) (fun hb1=>?_)
  ·rw [lq_e] at hb1
   refine wp_seq<|zh [.v 2 _] [.g 0,.g 1,.o 0] O (zv rfl (za2 zb0) o0) (zz [(0,_),(3,_),(2,_)] [] fun a w O=>?_)
   refine za0<|wp_ret<|zbg ?_
   refine zak ?_
   refine zak ?_
   refine zbg ?_
   refine zak ?_
   refine zas ?_ (zah rfl O (zm 2 rfl))
   rw [← zxf hj hb1]
  ·rw [lq_e] at hb1
   refine wp_skip<|zai ?_
   refine za0<|zh [.v 8 _,.v 9 _,.v 3 _] [.g 0,.o 2] O (zv rfl (za1 (gq 1 rfl)) (zv rfl (zba (vq 0 rfl) za3 (zbb zo)) (zv rfl (za2 (vq 1 rfl)) o0))) (zz [(0,_),(3,_)] [] fun a w O=>?_)
   refine za0 ?_
   have O:=St.sel O [0,1]
   exact ⟨n-1,by omega,j+1,⟨by omega,lq_no hj hno hb1⟩,O⟩
 ·obtain rfl:j=qs.length:=by rw [hLl] at hb0; simp at hb0; omega
  refine wp_exit<|za9<|za9<|zau<|zt<|zh [.v 2 _] [.o 0] O (zv rfl (za2 zb0) o0) (zz [(2,_)] [] fun a w O=>?_)
  refine za0<|wp_ret<|zas ?_ (zah rfl O (zm 0 rfl))
  rw [List.take_length] at hno; rw [hno]
end Go.Proofs.YtpnhpldlecmbdaaGreatDoor
namespace Go.Proofs.YtpnhpldlecmbdaaGreatDoor
open Go Go.RowKit
theorem qm4 {c1 c2 c3 c4 k:Nat}{x y z u:Rat}(h1:c1≤k)(h2:c2≤k)(h3:c3≤k)(h4:c4≤k):WkA (cat [QA c1 x,QA c2 y,QA c3 z,QA c4 u]) (QMA k ⟨x,y,z,u⟩):=zby (.cons (zbw h1) (.cons (zbw h2) (.cons (zbw h3) (.cons (zbw h4) .nil))))
theorem ztt {k k':Nat}{m:MQ}(h:k≤k'):WkA (QMA k m) (QMA k' m):=zby (.cons (zbw h) (.cons (zbw h) (.cons (zbw h) (.cons (zbw h) .nil))))
theorem elM_1 {x:RE}(h:x.k=1):elM x=⟨1,toQ x.p,0,1⟩:=by unfold elM; rw [h]; rfl
theorem elM_2 {x:RE}(h:x.k=2):elM x=⟨1,0,0-toQ x.p,1⟩:=by unfold elM; rw [h]; rfl
theorem elM_3 {x:RE}(h:x.k=3):elM x=⟨1,toQ x.p/toQ x.q,0,1⟩:=by unfold elM; rw [h]; rfl
theorem elM_4 {x:RE}(h:x.k=4):elM x=⟨1,0,0-toQ x.p*toQ x.q,1⟩:=by unfold elM; rw [h]; rfl
theorem elM_5 {x:RE}(h1:¬ x.k=1)(h2:¬ x.k=2)(h3:¬ x.k=3)(h4:¬ x.k=4):elM x=⟨0-1,0-0,0-0,0-1⟩:=by unfold elM elQ; rw [if_neg h1,if_neg h2,if_neg h3,if_neg h4]
theorem q3_nz {x:RE}(hk:x.k=1∨x.k=2∨(x.k=3∧toQ x.q≠0)∨x.k=4∨x.k=5)(h:x.k=3):toQ x.q≠0:=by
 rcases hk with e | e | ⟨_,e⟩ | e | e
 ·omega
 ·omega
 ·exact e
 ·omega
 ·omega
theorem as_no {c:Prop}[Decidable c](h:((if c then (4:Int) else 0) != 0)=false):¬ c:=fun hc=>by rw [if_pos hc] at h; simp at h
theorem as_yes {c:Prop}[Decidable c](h:((if c then (4:Int) else 0) != 0)=true):c:=Decidable.byContradiction fun hc=>by rw [if_neg hc] at h; simp at h
theorem zts {L:List As}(qs:List Rat)(hL:All2 IsQ L qs)(hl:qs.length≤1099511627776):Cn Tryz.prog 103 [(SlA 28 [U32] L).va] (In (if qs.any longQ then 4 else 0)):=by
 refine Cn.intro Tryz.func103 rfl zk nq (fun B w0 a O=>?_)
 have O:=zn [(0,(SlA 28 [U32] L).va)] [] O
 refine wp_seq<|zh [.v 2 _] [.g 0,.o 0] O (zv rfl (za2 za3) o0) (zz [(0,_),(2,_)] [] fun a w O=>?_)
 refine zt<|wp_seq<|zh [.v 3 _,.v 4 _] [.g 1,.o 1] O (zv rfl (za1 (gq 0 rfl)) (zv rfl (za5 (xs:=[.tmp 3]) (r2long_q qs hL hl) (.cons (vq 0 rfl) .nil)) o0)) (zz [(2,_),(4,_)] [] fun a w O=>?_)
 refine za0<|za8 O (zm 1 rfl) (fun hb0=>?_) (fun hb0=>?_)
 ·refine wp_seq<|zh [.v 2 _] [.o 0] O (zv rfl (za2 za3) o0) (zz [(2,_)] [] fun a w O=>?_)
  refine za0<|wp_ret<|zak ?_
  refine zag ?_ (zah rfl O (zm 0 rfl))
  rw [hb0]; exact zbh
 ·refine wp_skip<|zt<|zh [.v 2 _] [.o 0] O (zv rfl (za2 za3) o0) (zz [(2,_)] [] fun a w O=>?_)
  refine za0<|wp_ret<|zag ?_ (zah rfl O (zm 0 rfl))
  rw [hb0]; exact zbh
theorem zj0 {c d e f:Nat}{x y z u:Rat}(hk:c+d+e+f≤900000000):Cn Tryz.prog 164 [Qs c x,Qs d y,Qs e z,Qs f u] (Qs (c+d+(e+f)+1) (x*y+z*u)):=by
 refine Cn.intro Tryz.func164 rfl zk nq (fun B w0 a O=>?_)
 have O:=zn [(0,Qs c x),(1,Qs d y),(2,Qs e z),(3,Qs f u)] [] O
 refine wp_seq<|zg [] [⟨4,28,ptrH,some 0,_,none⟩,⟨5,28,ptrH,some 1,_,none⟩,⟨6,28,ptrH,some 2,_,none⟩,⟨7,28,ptrH,some 3,_,none⟩,⟨8,28,ptrH,some 4,_,none⟩] [.alc 0,.alc 1,.alc 2,.alc 3,.alc 4] [] O (oc (zal rfl rfl rfl (gq 0 rfl)) (oc (zal rfl rfl rfl (gq 1 rfl)) (oc (zal rfl rfl rfl (gq 2 rfl)) (oc (zal rfl rfl rfl (gq 3 rfl)) (oc (zam rfl rfl rfl (Str.zero zb7)) o0))))) (zz [] [⟨4,28,ptrH,_⟩,⟨5,28,ptrH,_⟩,⟨6,28,ptrH,_⟩,⟨7,28,ptrH,_⟩,⟨8,28,ptrH,_⟩] fun a w O=>?_)
 refine zt<|zgd [[],[],[0,1],[],[],[0,1,2,3,4],[0,1,2,3,4,5],[0,1,2,3,4,5,6]] [none,none,none,none,some (7,_)] [] [.v 9 _,.v 10 _,.v 11 _,.v 12 _,.v 13 _,.v 14 _,.v 15 _,.sto 4] [] za6 O (zv rfl (zaq (lz0 0 rfl) zap) (zv rfl (zaq (lz0 1 rfl) zap) (zv rfl (za5 (xs:=[.tmp 9,.tmp 10]) (zju zo) (.cons (vq 0 rfl) (.cons (vq 1 rfl) .nil))) (zv rfl (zaq (lz0 2 rfl) zap) (zv rfl (zaq (lz0 3 rfl) zap) (zv rfl (za5 (xs:=[.tmp 12,.tmp 13]) (zju zo) (.cons (vq 3 rfl) (.cons (vq 4 rfl) .nil))) (zv rfl (za5 (xs:=[.tmp 11,.tmp 14]) (zm4 zo) (.cons (vq 2 rfl) (.cons (vq 5 rfl) .nil))) (oc (zaa rfl rfl rfl (vq 6 rfl) zap (Eq.trans (b:=4) rfl rfl)) o0)))))))) zk zk zk zk (zz [] [⟨4,28,ptrH,_⟩,⟨5,28,ptrH,_⟩,⟨6,28,ptrH,_⟩,⟨7,28,ptrH,_⟩,⟨8,28,ptrH,_⟩] fun a w O=>?_)
 refine za0<|wp_ret<|zag ?_ (zaf rfl O (zm 4 rfl) zap)
 exact zbh
theorem asm_lo {m:MQ}(h:[m.a,m.b,m.c,m.d].any longQ=true):asM 0 m=(rm0,4):=by rw [asM,if_pos rfl,if_pos h]
theorem asm_ok {m:MQ}(h:¬ [m.a,m.b,m.c,m.d].any longQ=true):asM 0 m=(rmOf m,0):=by rw [asM,if_pos rfl,if_neg h]
theorem zwg {c d:Nat}{m q:MQ}(hk:c+d≤200000000):Cn Tryz.prog 105 [(QMA c m).va,(QMA d q).va] ((QMA (c+d+(c+d)+1) (mulQ m q)).va):=by
 refine Cn.intro Tryz.func105 rfl zk nq (fun B w0 a O=>?_)
 have O:=zn [(0,(QMA c m).va),(1,(QMA d q).va)] [] O
 refine wp_seq<|zg [] [⟨2,37,ptrH,some 0,_,none⟩,⟨3,37,ptrH,some 1,_,none⟩,⟨4,37,ptrH,some 2,_,none⟩] [.alc 0,.alc 1,.alc 2] [] O (oc (zal rfl rfl rfl (gq 0 rfl)) (oc (zal rfl rfl rfl (gq 1 rfl)) (oc (zam rfl rfl rfl (Str.zero zar)) o0))) (zz [] [⟨2,37,ptrH,_⟩,⟨3,37,ptrH,_⟩,⟨4,37,ptrH,_⟩] fun a w O=>?_)
 refine zt<|zia (anc:=[[],[0],[],[2],[],[4],[],[6],[0,1,2,3,4,5,6,7],[],[9],[],[11],[],[13],[],[15],[0,1,2,3,4,5,6,7,8,9,10,11,12,13,14,15,16],[],[18],[],[20],[],[22],[],[24],[0,1,2,3,4,5,6,7,8,9,10,11,12,13,14,15,16,17,18,19,20,21,22,23,24,25],[],[27],[],[29],[],[31],[],[33],[0,1,2,3,4,5,6,7,8,9,10,11,12,13,14,15,16,17,18,19,20,21,22,23,24,25,26,27,28,29,30,31,32,33,34],[0,1,2,3,4,5,6,7,8,9,10,11,12,13,14,15,16,17,18,19,20,21,22,23,24,25,26,27,28,29,30,31,32,33,34,35],[0,1,2,3,4,5,6,7,8,9,10,11,12,13,14,15,16,17,18,19,20,21,22,23,24,25,26,27,28,29,30,31,32,33,34,35,36]]) (sts:=[none,none,some (37,_)]) (news:=[]) (sp:=((.adr 5 2 (.some 0) True:Sp)::(.v 6 _)::(.adr 7 3 (.some 0) True)::(.v 8 _)::(.adr 9 2 (.some 4) True)::(.v 10 _)::(.adr 11 3 (.some 8) True)::(.v 12 _)::(.v 13 _)::(.adr 14 2 (.some 0) True)::(.v 15 _)::(.adr 16 3 (.some 4) True)::(.v 17 _)::(.adr 18 2 (.some 4) True)::(.v 19 _)::(.adr 20 3 (.some 12) True)::(.v 21 _)::(.v 22 _)::(.adr 23 2 (.some 8) True)::(.v 24 _)::(.adr 25 3 (.some 0) True)::(.v 26 _)::(.adr 27 2 (.some 12) True)::(.v 28 _)::(.adr 29 3 (.some 8) True)::(.v 30 _)::(.v 31 _)::(.adr 32 2 (.some 8) True)::(.v 33 _)::(.adr 34 3 (.some 4) True)::(.v 35 _)::(.adr 36 2 (.some 12) True)::(.v 37 _)::(.adr 38 3 (.some 12) True)::(.v 39 _)::(.v 40 _)::(.v 41 _)::(.sto 2)::[])) [] za6 O (oc (ob_a rfl rfl (za7 (lz0 0 rfl) zcp)) (zv rfl (za4 0 rfl zk trivial (lz0 0 rfl) (Sub.part 0 rfl rfl) zap) (oc (ob_a rfl rfl (za7 (lz0 1 rfl) zcp)) (zv rfl (za4 2 rfl zk trivial (lz0 1 rfl) (Sub.part 0 rfl rfl) zap) (oc (ob_a rfl rfl (za7 (lz0 0 rfl) zcc)) (zv rfl (za4 4 rfl zk trivial (lz0 0 rfl) (Sub.part 1 rfl rfl) zap) (oc (ob_a rfl rfl (za7 (lz0 1 rfl) zcb)) (zv rfl (za4 6 rfl zk trivial (lz0 1 rfl) (Sub.part 2 rfl rfl) zap) (zv rfl (za5 (xs:=[.tmp 6,.tmp 8,.tmp 10,.tmp 12]) (zj0 zo) (.cons (vq 1 rfl) (.cons (vq 3 rfl) (.cons (vq 5 rfl) (.cons (vq 7 rfl) .nil))))) (oc (ob_a rfl rfl (za7 (lz0 0 rfl) zcp)) (zv rfl (za4 9 rfl zk trivial (lz0 0 rfl) (Sub.part 0 rfl rfl) zap) (oc (ob_a rfl rfl (za7 (lz0 1 rfl) zcc)) (zv rfl (za4 11 rfl zk trivial (lz0 1 rfl) (Sub.part 1 rfl rfl) zap) (oc (ob_a rfl rfl (za7 (lz0 0 rfl) zcc)) (zv rfl (za4 13 rfl zk trivial (lz0 0 rfl) (Sub.part 1 rfl rfl) zap) (oc (ob_a rfl rfl (za7 (lz0 1 rfl) zco)) (zv rfl (za4 15 rfl zk trivial (lz0 1 rfl) (Sub.part 3 rfl rfl) zap) (zv rfl (za5 (xs:=[.tmp 15,.tmp 17,.tmp 19,.tmp 21]) (zj0 zo) (.cons (vq 10 rfl) (.cons (vq 12 rfl) (.cons (vq 14 rfl) (.cons (vq 16 rfl) .nil))))) (oc (ob_a rfl rfl (za7 (lz0 0 rfl) zcb)) (zv rfl (za4 18 rfl zk trivial (lz0 0 rfl) (Sub.part 2 rfl rfl) zap) (oc (ob_a rfl rfl (za7 (lz0 1 rfl) zcp)) (zv rfl (za4 20 rfl zk trivial (lz0 1 rfl) (Sub.part 0 rfl rfl) zap) (oc (ob_a rfl rfl (za7 (lz0 0 rfl) zco)) (zv rfl (za4 22 rfl zk trivial (lz0 0 rfl) (Sub.part 3 rfl rfl) zap) (oc (ob_a rfl rfl (za7 (lz0 1 rfl) zcb)) (zv rfl (za4 24 rfl zk trivial (lz0 1 rfl) (Sub.part 2 rfl rfl) zap) (zv rfl (za5 (xs:=[.tmp 24,.tmp 26,.tmp 28,.tmp 30]) (zj0 zo) (.cons (vq 19 rfl) (.cons (vq 21 rfl) (.cons (vq 23 rfl) (.cons (vq 25 rfl) .nil))))) (oc (ob_a rfl rfl (za7 (lz0 0 rfl) zcb)) (zv rfl (za4 27 rfl zk trivial (lz0 0 rfl) (Sub.part 2 rfl rfl) zap) (oc (ob_a rfl rfl (za7 (lz0 1 rfl) zcc)) (zv rfl (za4 29 rfl zk trivial (lz0 1 rfl) (Sub.part 1 rfl rfl) zap) (oc (ob_a rfl rfl (za7 (lz0 0 rfl) zco)) (zv rfl (za4 31 rfl zk trivial (lz0 0 rfl) (Sub.part 3 rfl rfl) zap) (oc (ob_a rfl rfl (za7 (lz0 1 rfl) zco)) (zv rfl (za4 33 rfl zk trivial (lz0 1 rfl) (Sub.part 3 rfl rfl) zap) (zv rfl (za5 (xs:=[.tmp 33,.tmp 35,.tmp 37,.tmp 39]) (zj0 zo) (.cons (vq 28 rfl) (.cons (vq 30 rfl) (.cons (vq 32 rfl) (.cons (vq 34 rfl) .nil))))) (zv rfl (zbf (xs:=[(0,.tmp 13),(1,.tmp 22),(2,.tmp 31),(3,.tmp 40)]) (qs:=[(0,_),(1,_),(2,_),(3,_)]) zar (.cons ⟨rfl,(vq 8 rfl),rfl⟩ (.cons ⟨rfl,(vq 17 rfl),rfl⟩ (.cons ⟨rfl,(vq 26 rfl),rfl⟩ (.cons ⟨rfl,(vq 35 rfl),rfl⟩ .nil))))) (oc (zaa rfl rfl rfl (vq 36 rfl) zb1 (Eq.trans (b:=16) rfl rfl)) o0)))))))))))))))))))))))))))))))))))))) zk zk zk zk (zz [] [⟨2,37,ptrH,_⟩,⟨3,37,ptrH,_⟩,⟨4,37,ptrH,_⟩] fun a w O=>?_)
 refine za0<|wp_ret<|zag ?_ (zaf rfl O (zm 2 rfl) zb1)
 exact zbh
theorem zl9 {c:Nat}{m:MQ}(hc:c≤549755813888):Cn Tryz.prog 28 [(QMA c m).va] (MR (asM 0 m)):=by
 refine Cn.intro Tryz.func28 rfl zk nq (fun B w0 a O=>?_)
 have O:=zn [(0,(QMA c m).va)] [] O
 refine wp_seq<|zg [] [⟨1,37,ptrH,some 0,_,none⟩,⟨2,37,ptrH,some 1,_,none⟩] [.alc 0,.alc 1,.v 3 _] [.o 2] O (oc (zal rfl rfl rfl (gq 0 rfl)) (oc (zam rfl rfl rfl (Str.zero zar)) (zv rfl (za2 za3) o0))) (zz [(3,_)] [⟨1,37,ptrH,_⟩,⟨2,37,ptrH,_⟩] fun a w O=>?_)
 refine zt<|zg [none,none] [] [.adr 5 1 (.some 0) True,.v 6 _,.adr 7 1 (.some 4) True,.v 8 _,.adr 9 1 (.some 8) True,.v 10 _,.adr 11 1 (.some 12) True,.v 12 _,.v 13 _,.v 14 _,.v 4 _] [.g 0,.o 10] O (oc (ob_a rfl rfl (za7 (lz0 0 rfl) zcp)) (zv rfl (za4 0 rfl zk trivial (lz0 0 rfl) (Sub.part 0 rfl rfl) zap) (oc (ob_a rfl rfl (za7 (lz0 0 rfl) zcc)) (zv rfl (za4 2 rfl zk trivial (lz0 0 rfl) (Sub.part 1 rfl rfl) zap) (oc (ob_a rfl rfl (za7 (lz0 0 rfl) zcb)) (zv rfl (za4 4 rfl zk trivial (lz0 0 rfl) (Sub.part 2 rfl rfl) zap) (oc (ob_a rfl rfl (za7 (lz0 0 rfl) zco)) (zv rfl (za4 6 rfl zk trivial (lz0 0 rfl) (Sub.part 3 rfl rfl) zap) (zv rfl (zdr (D:=[U32]) (l:=[_,_,_,_]) (xs:=[.tmp 6,.tmp 8,.tmp 10,.tmp 12]) (zh0 zk) zks zk (n_ok zk) nq nq nq (.cons (vq 1 rfl) (.cons (vq 3 rfl) (.cons (vq 5 rfl) (.cons (vq 7 rfl) .nil)))) rfl rfl) (zv rfl (za5 (xs:=[.tmp 13]) (zts [m.a,m.b,m.c,m.d] (.cons ⟨_,rfl⟩ (.cons ⟨_,rfl⟩ (.cons ⟨_,rfl⟩ (.cons ⟨_,rfl⟩ .nil)))) nq) (.cons (vq 8 rfl) .nil)) (zv rfl (za2 (vq 9 rfl)) o0))))))))))) (zz [(3,_),(4,_)] [⟨1,37,ptrH,_⟩,⟨2,37,ptrH,_⟩] fun a w O=>?_)
 refine zt<|wp_seq<|zg [none,none] [] [.v 15 _,.v 16 _] [.g 0,.g 1,.o 1] O (zv rfl (za1 (gq 1 rfl)) (zv rfl (ze5 (vq 0 rfl) za3) o0)) (zz [(3,_),(4,_),(16,_)] [⟨1,37,ptrH,_⟩,⟨2,37,ptrH,_⟩] fun a w O=>?_)
 refine za0<|za8 O (zm 2 rfl) (fun hb0=>?_) (fun hb0=>?_)
 ·have hl:=as_yes hb0
  refine wp_seq<|zg [none,some (2,_)] [] [.v 17 _,.v 18 _,.sto 1,.v 3 _] [.o 3] O (zv rfl (zbf (xs:=[]) (qs:=[]) zar .nil) (zv rfl (za1 (gq 1 rfl)) (oc (zaa rfl rfl rfl (vq 0 rfl) zb1 (Eq.trans (b:=16) rfl rfl)) (zv rfl (za2 (vq 1 rfl)) o0)))) (zz [(3,_)] [⟨1,37,ptrH,_⟩,⟨2,37,ptrH,_⟩] fun a w O=>?_)
  refine za0<|wp_ret<|zak ?_
  refine zag ?_ (zb2 (rs:=[.cell 2 37,.tmp 3]) rfl O (.cell (zm 1 rfl) zb1 (.tmp (zm 0 rfl) .nil)) zd)
  rw [asm_lo hl]; exact tu2w zbh (zbz (by rw [if_pos hl]))
 ·have hl:=as_no hb0
  refine wp_skip<|zt<|zg [none,some (1,_)] [] [.v 19 _,.sto 1,.v 3 _] [.o 2] O (zv rfl (zaq (lz0 0 rfl) zb1) (oc (zaa rfl rfl rfl (vq 0 rfl) zb1 (Eq.trans (b:=16) rfl rfl)) (zv rfl (za2 za3) o0))) (zz [(3,_)] [⟨1,37,ptrH,_⟩,⟨2,37,ptrH,_⟩] fun a w O=>?_)
  refine za0<|wp_ret<|zag ?_ (zb2 (rs:=[.cell 2 37,.tmp 3]) rfl O (.cell (zm 1 rfl) zb1 (.tmp (zm 0 rfl) .nil)) zd)
  rw [asm_ok hl]; exact tu2w qmA.va zbh
theorem r10own_q {c:Nat}{x:Rat}(hc:c≤800000000):Cn Tryz.prog 168 [Qs c x] (Qs (c+2+1) x):=by
 refine Cn.intro Tryz.func168 rfl zk nq (fun B w0 a O=>?_)
 have O:=zn [(0,Qs c x)] [] O
 refine wp_seq<|zg [] [⟨1,28,ptrH,some 0,_,none⟩,⟨2,28,ptrH,some 1,_,none⟩] [.alc 0,.alc 1] [] O (oc (zal rfl rfl rfl (gq 0 rfl)) (oc (zam rfl rfl rfl (Str.zero zb7)) o0)) (zz [] [⟨1,28,ptrH,_⟩,⟨2,28,ptrH,_⟩] fun a w O=>?_)
 refine zt<|zgd [[],[],[0,1],[0,1,2]] [none,some (3,_)] [] [.v 3 _,.v 4 _,.v 5 _,.sto 1] [] za6 O (zv rfl (zaq (lz0 0 rfl) zap) (zv rfl (za5 (xs:=[]) zec .nil) (zv rfl (za5 (xs:=[.tmp 3,.tmp 4]) (zm4 zo) (.cons (vq 0 rfl) (.cons (vq 1 rfl) .nil))) (oc (zaa rfl rfl rfl (vq 2 rfl) zap (Eq.trans (b:=4) rfl rfl)) o0)))) zk zk zk zk (zz [] [⟨1,28,ptrH,_⟩,⟨2,28,ptrH,_⟩] fun a w O=>?_)
 refine za0<|wp_ret<|zag ?_ (zaf rfl O (zm 1 rfl) zap)
 exact zbz (congrArg (Qs _) (Rat.add_zero x))
theorem zfv {c:Nat}{x:Rat}(hc:c≤800000000):Cn Tryz.prog 169 [Qs c x] (Qs (2+c+1) (0-x)):=by
 refine Cn.intro Tryz.func169 rfl zk nq (fun B w0 a O=>?_)
 have O:=zn [(0,Qs c x)] [] O
 refine wp_seq<|zg [] [⟨1,28,ptrH,some 0,_,none⟩,⟨2,28,ptrH,some 1,_,none⟩] [.alc 0,.alc 1] [] O (oc (zal rfl rfl rfl (gq 0 rfl)) (oc (zam rfl rfl rfl (Str.zero zb7)) o0)) (zz [] [⟨1,28,ptrH,_⟩,⟨2,28,ptrH,_⟩] fun a w O=>?_)
 refine zt<|zgd [[],[],[0,1],[0,1,2]] [none,some (3,_)] [] [.v 3 _,.v 4 _,.v 5 _,.sto 1] [] za6 O (zv rfl (za5 (xs:=[]) zec .nil) (zv rfl (zaq (lz0 0 rfl) zap) (zv rfl (za5 (xs:=[.tmp 3,.tmp 4]) (zwj zo) (.cons (vq 0 rfl) (.cons (vq 1 rfl) .nil))) (oc (zaa rfl rfl rfl (vq 2 rfl) zap (Eq.trans (b:=4) rfl rfl)) o0)))) zk zk zk zk (zz [] [⟨1,28,ptrH,_⟩,⟨2,28,ptrH,_⟩] fun a w O=>?_)
 refine za0<|wp_ret<|zag ?_ (zaf rfl O (zm 1 rfl) zap)
 exact zbh
theorem zjw {c d e f:Nat}{x y z u:Rat}:Cn Tryz.prog 167 [Qs c x,Qs d y,Qs e z,Qs f u] ((cat [QA c x,QA d y,QA e z,QA f u]).va):=by
 refine Cn.intro Tryz.func167 rfl zk nq (fun B w0 a O=>?_)
 have O:=zn [(0,Qs c x),(1,Qs d y),(2,Qs e z),(3,Qs f u)] [] O
 refine wp_seq<|zg [] [⟨4,28,ptrH,some 0,_,none⟩,⟨5,28,ptrH,some 1,_,none⟩,⟨6,28,ptrH,some 2,_,none⟩,⟨7,28,ptrH,some 3,_,none⟩,⟨8,37,ptrH,some 4,_,none⟩] [.alc 0,.alc 1,.alc 2,.alc 3,.alc 4] [] O (oc (zal rfl rfl rfl (gq 0 rfl)) (oc (zal rfl rfl rfl (gq 1 rfl)) (oc (zal rfl rfl rfl (gq 2 rfl)) (oc (zal rfl rfl rfl (gq 3 rfl)) (oc (zam rfl rfl rfl (Str.zero zar)) o0))))) (zz [] [⟨4,28,ptrH,_⟩,⟨5,28,ptrH,_⟩,⟨6,28,ptrH,_⟩,⟨7,28,ptrH,_⟩,⟨8,37,ptrH,_⟩] fun a w O=>?_)
 refine zt<|zg [none,none,none,none,some (5,_)] [] [.v 9 _,.v 10 _,.v 11 _,.v 12 _,.v 13 _,.sto 4] [] O (zv rfl (zaq (lz0 0 rfl) zap) (zv rfl (zaq (lz0 1 rfl) zap) (zv rfl (zaq (lz0 2 rfl) zap) (zv rfl (zaq (lz0 3 rfl) zap) (zv rfl (zbf (xs:=[(0,.tmp 9),(1,.tmp 10),(2,.tmp 11),(3,.tmp 12)]) (qs:=[(0,_),(1,_),(2,_),(3,_)]) zar (.cons ⟨rfl,(vq 0 rfl),rfl⟩ (.cons ⟨rfl,(vq 1 rfl),rfl⟩ (.cons ⟨rfl,(vq 2 rfl),rfl⟩ (.cons ⟨rfl,(vq 3 rfl),rfl⟩ .nil))))) (oc (zaa rfl rfl rfl (vq 4 rfl) zb1 (Eq.trans (b:=16) rfl rfl)) o0)))))) (zz [] [⟨4,28,ptrH,_⟩,⟨5,28,ptrH,_⟩,⟨6,28,ptrH,_⟩,⟨7,28,ptrH,_⟩,⟨8,37,ptrH,_⟩] fun a w O=>?_)
 refine za0<|wp_ret<|zag ?_ (zaf rfl O (zm 4 rfl) zb1)
 exact zbh
theorem zla {c:Nat}{x:Rat}(hc:c≤800000000):Cn Tryz.prog 109 [Qs c x] ((QMA (c+3) ⟨1,x,0,1⟩).va):=by
 refine Cn.intro Tryz.func109 rfl zk nq (fun B w0 a O=>?_)
 have O:=zn [(0,Qs c x)] [] O
 refine wp_seq<|zg [] [⟨1,28,ptrH,some 0,_,none⟩,⟨2,37,ptrH,some 1,_,none⟩] [.alc 0,.alc 1] [] O (oc (zal rfl rfl rfl (gq 0 rfl)) (oc (zam rfl rfl rfl (Str.zero zar)) o0)) (zz [] [⟨1,28,ptrH,_⟩,⟨2,37,ptrH,_⟩] fun a w O=>?_)
 refine zt<|zgd [[],[],[0,1],[0,1,2],[0,1,2,3],[0,1,2,3,4],[0,1,2,3,4,5]] [none,some (6,_)] [] [.v 3 _,.v 4 _,.v 5 _,.v 6 _,.v 7 _,.v 8 _,.sto 1] [] za6 O (zv rfl (za5 (xs:=[]) zhy .nil) (zv rfl (zaq (lz0 0 rfl) zap) (zv rfl (za5 (xs:=[.tmp 4]) (r10own_q zo) (.cons (vq 1 rfl) .nil)) (zv rfl (za5 (xs:=[]) zec .nil) (zv rfl (za5 (xs:=[]) zhy .nil) (zv rfl (za5 (xs:=[.tmp 3,.tmp 5,.tmp 6,.tmp 7]) zjw (.cons (vq 0 rfl) (.cons (vq 2 rfl) (.cons (vq 3 rfl) (.cons (vq 4 rfl) .nil))))) (oc (zaa rfl rfl rfl (vq 5 rfl) zb1 (Eq.trans (b:=16) rfl rfl)) o0))))))) zk zk zk zk (zz [] [⟨1,28,ptrH,_⟩,⟨2,37,ptrH,_⟩] fun a w O=>?_)
 refine za0<|wp_ret<|zag ?_ (zaf rfl O (zm 1 rfl) zb1)
 exact (qm4 zo zo zo zo).va
theorem zo9 {c:Nat}{x:Rat}(hc:c≤800000000):Cn Tryz.prog 110 [Qs c x] ((QMA (c+3) ⟨1,0,0-x,1⟩).va):=by
 refine Cn.intro Tryz.func110 rfl zk nq (fun B w0 a O=>?_)
 have O:=zn [(0,Qs c x)] [] O
 refine wp_seq<|zg [] [⟨1,28,ptrH,some 0,_,none⟩,⟨2,37,ptrH,some 1,_,none⟩] [.alc 0,.alc 1] [] O (oc (zal rfl rfl rfl (gq 0 rfl)) (oc (zam rfl rfl rfl (Str.zero zar)) o0)) (zz [] [⟨1,28,ptrH,_⟩,⟨2,37,ptrH,_⟩] fun a w O=>?_)
 refine zt<|zgd [[],[0],[],[0,1,2],[0,1,2,3],[0,1,2,3,4],[0,1,2,3,4,5]] [none,some (6,_)] [] [.v 3 _,.v 4 _,.v 5 _,.v 6 _,.v 7 _,.v 8 _,.sto 1] [] za6 O (zv rfl (za5 (xs:=[]) zhy .nil) (zv rfl (za5 (xs:=[]) zec .nil) (zv rfl (zaq (lz0 0 rfl) zap) (zv rfl (za5 (xs:=[.tmp 5]) (zfv zo) (.cons (vq 2 rfl) .nil)) (zv rfl (za5 (xs:=[]) zhy .nil) (zv rfl (za5 (xs:=[.tmp 3,.tmp 4,.tmp 6,.tmp 7]) zjw (.cons (vq 0 rfl) (.cons (vq 1 rfl) (.cons (vq 3 rfl) (.cons (vq 4 rfl) .nil))))) (oc (zaa rfl rfl rfl (vq 5 rfl) zb1 (Eq.trans (b:=16) rfl rfl)) o0))))))) zk zk zk zk (zz [] [⟨1,28,ptrH,_⟩,⟨2,37,ptrH,_⟩] fun a w O=>?_)
 refine za0<|wp_ret<|zag ?_ (zaf rfl O (zm 1 rfl) zb1)
 exact (qm4 zo zo zo zo).va
theorem zpu {c:Nat}{m:MQ}(hc:c≤800000000):Cn Tryz.prog 113 [(QMA c m).va] ((QMA (c+3) ⟨0-m.a,0-m.b,0-m.c,0-m.d⟩).va):=by
 refine Cn.intro Tryz.func113 rfl zk nq (fun B w0 a O=>?_)
 have O:=zn [(0,(QMA c m).va)] [] O
 refine wp_seq<|zg [] [⟨1,37,ptrH,some 0,_,none⟩,⟨2,37,ptrH,some 1,_,none⟩] [.alc 0,.alc 1] [] O (oc (zal rfl rfl rfl (gq 0 rfl)) (oc (zam rfl rfl rfl (Str.zero zar)) o0)) (zz [] [⟨1,37,ptrH,_⟩,⟨2,37,ptrH,_⟩] fun a w O=>?_)
 refine zt<|zgd [[],[0],[0,1],[],[3],[0,1,2,3,4],[],[6],[0,1,2,3,4,5,6,7],[],[9],[0,1,2,3,4,5,6,7,8,9,10],[0,1,2,3,4,5,6,7,8,9,10,11],[0,1,2,3,4,5,6,7,8,9,10,11,12]] [none,some (13,_)] [] [.adr 3 1 (.some 0) True,.v 4 _,.v 5 _,.adr 6 1 (.some 4) True,.v 7 _,.v 8 _,.adr 9 1 (.some 8) True,.v 10 _,.v 11 _,.adr 12 1 (.some 12) True,.v 13 _,.v 14 _,.v 15 _,.sto 1] [] za6 O (oc (ob_a rfl rfl (za7 (lz0 0 rfl) zcp)) (zv rfl (za4 0 rfl zk trivial (lz0 0 rfl) (Sub.part 0 rfl rfl) zap) (zv rfl (za5 (xs:=[.tmp 4]) (zfv zo) (.cons (vq 1 rfl) .nil)) (oc (ob_a rfl rfl (za7 (lz0 0 rfl) zcc)) (zv rfl (za4 3 rfl zk trivial (lz0 0 rfl) (Sub.part 1 rfl rfl) zap) (zv rfl (za5 (xs:=[.tmp 7]) (zfv zo) (.cons (vq 4 rfl) .nil)) (oc (ob_a rfl rfl (za7 (lz0 0 rfl) zcb)) (zv rfl (za4 6 rfl zk trivial (lz0 0 rfl) (Sub.part 2 rfl rfl) zap) (zv rfl (za5 (xs:=[.tmp 10]) (zfv zo) (.cons (vq 7 rfl) .nil)) (oc (ob_a rfl rfl (za7 (lz0 0 rfl) zco)) (zv rfl (za4 9 rfl zk trivial (lz0 0 rfl) (Sub.part 3 rfl rfl) zap) (zv rfl (za5 (xs:=[.tmp 13]) (zfv zo) (.cons (vq 10 rfl) .nil)) (zv rfl (za5 (xs:=[.tmp 5,.tmp 8,.tmp 11,.tmp 14]) zjw (.cons (vq 2 rfl) (.cons (vq 5 rfl) (.cons (vq 8 rfl) (.cons (vq 11 rfl) .nil))))) (oc (zaa rfl rfl rfl (vq 12 rfl) zb1 (Eq.trans (b:=16) rfl rfl)) o0)))))))))))))) zk zk zk zk (zz [] [⟨1,37,ptrH,_⟩,⟨2,37,ptrH,_⟩] fun a w O=>?_)
 refine za0<|wp_ret<|zag ?_ (zaf rfl O (zm 1 rfl) zb1)
 exact (qm4 zo zo zo zo).va
theorem zwl {x:RE}(h:elF x=true):Cn Tryz.prog 31 [(REA x).va] ((QMA 4099 (elM x)).va):=by
 obtain ⟨hx,hk⟩:=zje h
 refine Cn.intro Tryz.func31 rfl zk nq (fun B w0 a O=>?_)
 have O:=zn [(0,(REA x).va)] [] O
 refine wp_seq<|zg [] [⟨1,30,ptrH,some 0,_,none⟩,⟨2,37,ptrH,some 1,_,none⟩] [.alc 0,.alc 1] [] O (oc (zal rfl rfl rfl (gq 0 rfl)) (oc (zam rfl rfl rfl (Str.zero zar)) o0)) (zz [] [⟨1,30,ptrH,_⟩,⟨2,37,ptrH,_⟩] fun a w O=>?_)
 have O:=St.wkL O 0 rfl (el_q hx)
 refine zt<|wp_seq<|zg [none,none] [] [.adr 3 1 (.some 0) True,.v 4 _] [.o 1] O (oc (ob_a rfl rfl (za7 (lz0 0 rfl) zcj)) (zv rfl (za4 0 rfl zk trivial (lz0 0 rfl) (Sub.part 0 rfl rfl) zf6) o0)) (zz [(4,_)] [⟨1,30,ptrH,_⟩,⟨2,37,ptrH,_⟩] fun a w O=>?_)
 refine za0<|wp_block<|wp_seq<|zg [none,none] [] [.v 6 _,.v 5 _] [.g 0,.o 1] O (zv rfl (zck (gq 0 rfl) za3) (zv rfl (za2 (vq 0 rfl)) o0)) (zz [(4,_),(5,_)] [⟨1,30,ptrH,_⟩,⟨2,37,ptrH,_⟩] fun a w O=>?_)
 refine za0<|za8 O (zm 1 rfl) (fun hb0=>?_) (fun hb0=>?_)
 ·have hk1:x.k=1:=by simpa using hb0
  refine wp_seq<|zg [none,some (3,_)] [] [.adr 7 1 (.some 1) True,.v 8 _,.v 9 _,.sto 1] [] O (oc (ob_a rfl rfl (za7 (lz0 0 rfl) zc5)) (zv rfl (za4 0 rfl zk trivial (lz0 0 rfl) (Sub.part 1 rfl rfl) zap) (zv rfl (za5 (xs:=[.tmp 8]) (zla zo) (.cons (vq 1 rfl) .nil)) (oc (zaa rfl rfl rfl (vq 2 rfl) zb1 (Eq.trans (b:=16) rfl rfl)) o0)))) (zz [] [⟨1,30,ptrH,_⟩,⟨2,37,ptrH,_⟩] fun a w O=>?_)
  refine za0<|wp_ret<|zbg ?_
  refine zak ?_
  refine zag ?_ (zaf rfl O (zm 1 rfl) zb1)
  rw [elM_1 hk1]; exact (ztt zd).va
 ·have hk1:¬ x.k=1:=by simpa using hb0
  refine wp_seq<|zg [none,none] [] [.v 11 _,.v 10 _] [.g 0,.o 1] O (zv rfl (zck (gq 0 rfl) za3) (zv rfl (za2 (vq 0 rfl)) o0)) (zz [(4,_),(10,_)] [⟨1,30,ptrH,_⟩,⟨2,37,ptrH,_⟩] fun a w O=>?_)
  refine za0<|za8 O (zm 1 rfl) (fun hb1=>?_) (fun hb1=>?_)
  ·have hk2:x.k=2:=by simpa using hb1
   refine wp_seq<|zg [none,some (3,_)] [] [.adr 12 1 (.some 1) True,.v 13 _,.v 14 _,.sto 1] [] O (oc (ob_a rfl rfl (za7 (lz0 0 rfl) zc5)) (zv rfl (za4 0 rfl zk trivial (lz0 0 rfl) (Sub.part 1 rfl rfl) zap) (zv rfl (za5 (xs:=[.tmp 13]) (zo9 zo) (.cons (vq 1 rfl) .nil)) (oc (zaa rfl rfl rfl (vq 2 rfl) zb1 (Eq.trans (b:=16) rfl rfl)) o0)))) (zz [] [⟨1,30,ptrH,_⟩,⟨2,37,ptrH,_⟩] fun a w O=>?_)
   refine za0<|wp_ret<|zbg ?_
   refine zak ?_
   refine zag ?_ (zaf rfl O (zm 1 rfl) zb1)
   rw [elM_2 hk2]; exact (ztt zd).va
  ·have hk2:¬ x.k=2:=by simpa using hb1
   refine wp_seq<|zg [none,none] [] [.v 16 _,.v 15 _] [.g 0,.o 1] O (zv rfl (zck (gq 0 rfl) za3) (zv rfl (za2 (vq 0 rfl)) o0)) (zz [(4,_),(15,_)] [⟨1,30,ptrH,_⟩,⟨2,37,ptrH,_⟩] fun a w O=>?_)
   refine za0<|za8 O (zm 1 rfl) (fun hb2=>?_) (fun hb2=>?_)
   ·have hk3:x.k=3:=by simpa using hb2
    refine wp_seq<|zg [none,some (6,_)] [] [.adr 17 1 (.some 1) True,.v 18 _,.adr 19 1 (.some 5) True,.v 20 _,.v 21 _,.v 22 _,.sto 1] [] O (oc (ob_a rfl rfl (za7 (lz0 0 rfl) zc5)) (zv rfl (za4 0 rfl zk trivial (lz0 0 rfl) (Sub.part 1 rfl rfl) zap) (oc (ob_a rfl rfl (za7 (lz0 0 rfl) zci)) (zv rfl (za4 2 rfl zk trivial (lz0 0 rfl) (Sub.part 2 rfl rfl) zap) (zv rfl (za5 (xs:=[.tmp 18,.tmp 20]) (r2over_q zo (q3_nz hk hk3)) (.cons (vq 1 rfl) (.cons (vq 3 rfl) .nil))) (zv rfl (za5 (xs:=[.tmp 21]) (zla zo) (.cons (vq 4 rfl) .nil)) (oc (zaa rfl rfl rfl (vq 5 rfl) zb1 (Eq.trans (b:=16) rfl rfl)) o0))))))) (zz [] [⟨1,30,ptrH,_⟩,⟨2,37,ptrH,_⟩] fun a w O=>?_)
    refine za0<|wp_ret<|zbg ?_
    refine zak ?_
    refine zag ?_ (zaf rfl O (zm 1 rfl) zb1)
    rw [elM_3 hk3]; exact (ztt zd).va
   ·have hk3:¬ x.k=3:=by simpa using hb2
    refine wp_seq<|zg [none,none] [] [.v 24 _,.v 23 _] [.o 1] O (zv rfl (zck (gq 0 rfl) za3) (zv rfl (za2 (vq 0 rfl)) o0)) (zz [(23,_)] [⟨1,30,ptrH,_⟩,⟨2,37,ptrH,_⟩] fun a w O=>?_)
    refine za0<|za8 O (zm 0 rfl) (fun hb3=>?_) (fun hb3=>?_)
    ·have hk4:x.k=4:=by simpa using hb3
     refine wp_seq<|zg [none,some (6,_)] [] [.adr 25 1 (.some 1) True,.v 26 _,.adr 27 1 (.some 5) True,.v 28 _,.v 29 _,.v 30 _,.sto 1] [] O (oc (ob_a rfl rfl (za7 (lz0 0 rfl) zc5)) (zv rfl (za4 0 rfl zk trivial (lz0 0 rfl) (Sub.part 1 rfl rfl) zap) (oc (ob_a rfl rfl (za7 (lz0 0 rfl) zci)) (zv rfl (za4 2 rfl zk trivial (lz0 0 rfl) (Sub.part 2 rfl rfl) zap) (zv rfl (za5 (xs:=[.tmp 26,.tmp 28]) (zju zo) (.cons (vq 1 rfl) (.cons (vq 3 rfl) .nil))) (zv rfl (za5 (xs:=[.tmp 29]) (zo9 zo) (.cons (vq 4 rfl) .nil)) (oc (zaa rfl rfl rfl (vq 5 rfl) zb1 (Eq.trans (b:=16) rfl rfl)) o0))))))) (zz [] [⟨1,30,ptrH,_⟩,⟨2,37,ptrH,_⟩] fun a w O=>?_)
     refine za0<|wp_ret<|zbg ?_
     refine zak ?_
     refine zag ?_ (zaf rfl O (zm 1 rfl) zb1)
     rw [elM_4 hk4]; exact (ztt zd).va
    ·have hk4:¬ x.k=4:=by simpa using hb3
     refine wp_skip<|zai ?_
     refine zt<|zg [none,some (2,_)] [] [.v 31 _,.v 32 _,.sto 1] [] O (zv rfl (za5 (xs:=[]) zwh .nil) (zv rfl (za5 (xs:=[.tmp 31]) (zpu (m:=⟨1,0,0,1⟩) zo) (.cons (vq 0 rfl) .nil)) (oc (zaa rfl rfl rfl (vq 1 rfl) zb1 (Eq.trans (b:=16) rfl rfl)) o0))) (zz [] [⟨1,30,ptrH,_⟩,⟨2,37,ptrH,_⟩] fun a w O=>?_)
     refine za0<|wp_ret<|zag ?_ (zaf rfl O (zm 1 rfl) zb1)
     rw [elM_5 hk1 hk2 hk3 hk4]; exact (ztt zd).va
set_option maxHeartbeats 1000000 in
theorem zo8 {xs:List RE}(h4:xs.length≤4096)(ha:xs.all elF=true):Cn Tryz.prog 29 [(SlA 30 [U32] (xs.map REA)).va] ((QMA 16781313 (prodQ xs)).va):=by
 refine Cn.intro Tryz.func29 rfl zk nq (fun B w0 a O=>?_)
 have O:=zn [(0,(SlA 30 [U32] (xs.map REA)).va)] [] O
 have hr:=zm5 ha
 refine wp_seq<|zg [] [⟨2,37,ptrH,some 0,_,none⟩] [.alc 0] [.g 0] O (oc (zam rfl rfl rfl (Str.zero zar)) o0) (zz [(0,_)] [⟨2,37,ptrH,_⟩] fun a w O=>?_)
 refine zt<|zg [none] [⟨3,37,ptrH,some 1,_,some (2,_)⟩] [.v 5 _,.alc 1,.sto 1] [.g 0] O (zv rfl (za5 (xs:=[]) zwh .nil) (oc (zam rfl rfl rfl (Str.zero zar)) (oc (zaa rfl rfl rfl (vq 0 rfl) zb1 (Eq.trans (b:=16) rfl rfl)) o0))) (zz [(0,_)] [⟨2,37,ptrH,_⟩,⟨3,37,ptrH,_⟩] fun a w O=>?_)
 refine zt<|wp_seq<|zg [none,none] [] [.v 4 _] [.g 0,.o 0] O (zv rfl (za2 za3) o0) (zz [(0,_),(4,_)] [⟨2,37,ptrH,_⟩,⟨3,37,ptrH,_⟩] fun a w O=>?_)
 refine za0<|wp_block ?_
 have O:=St.sel O [0,1]
 refine wp_loop_ghost (fun n a w=>∃ j:Nat,n+j=xs.length∧St B w0 20 [(0,(SlA 30 [U32] (xs.map REA)).va),(4,In (j:Nat))] [⟨2,37,ptrH,RMA rm0⟩,⟨3,37,ptrH,QMA (1+4097*j) (prodQ (xs.take j))⟩] a w) (xs.length) ?_ ?_
 ·exact ⟨0,by omega,St.wkL O 1 rfl (qm_rep rep_1)⟩
 intro n a w hI
 obtain ⟨j,hn,O⟩:=hI
 refine wp_seq<|wp_seq<|zg [none,none] [] [.v 6 _,.v 7 _,.v 8 _,.v 9 _] [.g 0,.g 1,.o 3] O (zv rfl (za1 (gq 1 rfl)) (zv rfl (za1 (gq 0 rfl)) (zv rfl (zbq Tryz.underlying22 (vq 1 rfl)) (zv rfl (zb4 (vq 0 rfl) (vq 2 rfl)) o0)))) (zz [(0,_),(4,_),(9,_)] [⟨2,37,ptrH,_⟩,⟨3,37,ptrH,_⟩] fun a w O=>?_)
 refine za0<|za8 O (zm 2 rfl) (fun hb0=>?_) (fun hb0=>?_)
 ·have hj:j<xs.length:=by rw [List.length_map] at hb0; have:=of_decide_eq_true hb0; omega
  refine wp_skip<|zt<|wp_block<|zgd [[],[],[0,1],[0,1,2],[0,1,2,3],[],[0,1,2,3,4,5],[0,1,2,3,4,5,6]] [none,some (7,_)] [] [.v 12 _,.v 13 _,.v 14 _,.v 15 _,.v 16 _,.v 17 _,.v 18 _,.sto 1] [.g 0,.g 1] za6 O (zv rfl (za1 (gq 0 rfl)) (zv rfl (za1 (gq 1 rfl)) (zv rfl (ze7 zh6 (ziq fun _=>rfl) (vq 0 rfl) (vq 1 rfl) (zfm hj)) (zv rfl (zae (vq 2 rfl) zd8) (zv rfl (za5 (xs:=[.tmp 15]) (zwl (List.all_eq_true.1 ha _ (List.getElem_mem hj))) (.cons (vq 3 rfl) .nil)) (zv rfl (zaq (lz0 1 rfl) zb1) (zv rfl (za5 (xs:=[.tmp 16,.tmp 17]) (zwg (c:=4099) (d:=1+4097*j) (m:=elM xs[j]) (q:=prodQ (xs.take j)) zo) (.cons (vq 4 rfl) (.cons (vq 5 rfl) .nil))) (oc (zaa rfl rfl rfl (vq 6 rfl) zb1 (Eq.trans (b:=16) rfl rfl)) o0)))))))) zk zk zk zk (zz [(0,_),(4,_)] [⟨2,37,ptrH,_⟩,⟨3,37,ptrH,_⟩] fun a w O=>?_)
  refine zai ?_
  refine za0<|zg [none,none] [] [.v 10 _,.v 11 _,.v 4 _] [.g 0,.o 2] O (zv rfl (za1 (gq 1 rfl)) (zv rfl (zba (vq 0 rfl) za3 ((wi64 zo zo).trans (by omega:(_:Int)=((j+1:Nat):Int)))) (zv rfl (za2 (vq 1 rfl)) o0))) (zz [(0,_),(4,_)] [⟨2,37,ptrH,_⟩,⟨3,37,ptrH,_⟩] fun a w O=>?_)
  refine za0 ?_
  have O:=St.sel O [0,1]
  have O:=St.wkL (A':=QMA (1+4097*(j+1)) (prodQ (xs.take (j+1)))) O 1 rfl ((zjj (congrArg (QMA _) (zpw hj).symm)).trans (qm_rep (hr (j+1) zo)))
  exact ⟨n-1,by omega,j+1,by omega,O⟩
 ·obtain rfl:j=xs.length:=by rw [List.length_map] at hb0; have:=of_decide_eq_false hb0; omega
  refine wp_exit<|za9<|za9<|zau<|zt<|zg [some (1,_),none] [] [.v 19 _,.sto 0] [] O (zv rfl (zaq (lz0 1 rfl) zb1) (oc (zaa rfl rfl rfl (vq 0 rfl) zb1 (Eq.trans (b:=16) rfl rfl)) o0)) (zz [] [⟨2,37,ptrH,_⟩,⟨3,37,ptrH,_⟩] fun a w O=>?_)
  refine za0<|wp_ret<|zag ?_ (zaf rfl O (zm 0 rfl) zb1)
  rw [List.take_length]; exact (ztt zo).va
end Go.Proofs.YtpnhpldlecmbdaaGreatDoor
namespace Go.Proofs.YtpnhpldlecmbdaaGreatDoor
open Go Go.RowKit
theorem r10one_c (x:RE):Cn Tryz.prog 12 [(REA x).va] (MR (be1F x)):=by
 refine Cn.intro Tryz.func12 rfl zk nq (fun B w0 a O=>?_)
 have O:=zn [(0,(REA x).va)] [] O
 refine wp_seq<|zg [] [⟨1,30,ptrH,some 0,_,none⟩,⟨2,37,ptrH,some 1,_,none⟩] [.alc 0,.alc 1,.v 3 _] [.o 2] O (oc (zal rfl rfl rfl (gq 0 rfl)) (oc (zam rfl rfl rfl (Str.zero zar)) (zv rfl (za2 za3) o0))) (zz [(3,_)] [⟨1,30,ptrH,_⟩,⟨2,37,ptrH,_⟩] fun a w O=>?_)
 refine zt<|wp_seq<|zg [none,none] [] [.v 4 _,.v 5 _,.v 6 _] [.g 0,.o 2] O (zv rfl (zaq (lz0 0 rfl) zd8) (zv rfl (za5 (xs:=[.tmp 4]) (zrg x) (.cons (vq 0 rfl) .nil)) (zv rfl (zey (vq 1 rfl)) o0))) (zz [(3,_),(6,_)] [⟨1,30,ptrH,_⟩,⟨2,37,ptrH,_⟩] fun a w O=>?_)
 refine za0<|za8 O (zm 1 rfl) (fun hb0=>?_) (fun hb0=>?_)
 ·have hk:elF x=false:=by simpa using hb0
  refine wp_seq<|zg [none,some (1,_)] [] [.v 7 _,.sto 1,.v 3 _] [.o 2] O (zv rfl (zbf (xs:=[]) (qs:=[]) zar .nil) (oc (zaa rfl rfl rfl (vq 0 rfl) zb1 (Eq.trans (b:=16) rfl rfl)) (zv rfl (za2 za3) o0))) (zz [(3,_)] [⟨1,30,ptrH,_⟩,⟨2,37,ptrH,_⟩] fun a w O=>?_)
  refine za0<|wp_ret<|zak ?_
  refine zag ?_ (zb2 (rs:=[.cell 2 37,.tmp 3]) rfl O (.cell (zm 1 rfl) zb1 (.tmp (zm 0 rfl) .nil)) zd)
  rw [be1F,hk]; exact zbh
 ·have hk:elF x=true:=by simpa using hb0
  refine wp_skip<|zt<|zg [none,some (5,_)] [] [.v 8 _,.v 9 _,.v 10 _,.v 11 _,.v 12 _,.sto 1,.v 3 _] [.o 6] O (zv rfl (zaq (lz0 0 rfl) zd8) (zv rfl (za5 (xs:=[.tmp 8]) (zwl hk) (.cons (vq 0 rfl) .nil)) (zv rfl (za5 (xs:=[.tmp 9]) (zl9 (m:=elM x) zd) (.cons (vq 1 rfl) .nil)) (zv rfl (zo6 (vq 2 rfl)) (zv rfl (zo5 (vq 2 rfl)) (oc (zaa rfl rfl rfl (vq 3 rfl) zb1 (Eq.trans (b:=16) rfl rfl)) (zv rfl (za2 (vq 4 rfl)) o0))))))) (zz [(3,_)] [⟨1,30,ptrH,_⟩,⟨2,37,ptrH,_⟩] fun a w O=>?_)
  refine za0<|wp_ret<|zag ?_ (zb2 (rs:=[.cell 2 37,.tmp 3]) rfl O (.cell (zm 1 rfl) zb1 (.tmp (zm 0 rfl) .nil)) zd)
  rw [be1F,if_pos hk]; exact zbh
theorem zpv (xs:List RE):Cn Tryz.prog 11 [(SlA 30 [U32] (xs.map REA)).va] (MR (benF xs)):=by
 refine Cn.intro Tryz.func11 rfl zk nq (fun B w0 a O=>?_)
 have O:=zn [(0,(SlA 30 [U32] (xs.map REA)).va)] [] O
 refine wp_seq<|zg [] [⟨2,37,ptrH,some 0,_,none⟩] [.alc 0,.v 3 _] [.g 0,.o 1] O (oc (zam rfl rfl rfl (Str.zero zar)) (zv rfl (za2 za3) o0)) (zz [(0,_),(3,_)] [⟨2,37,ptrH,_⟩] fun a w O=>?_)
 refine zt<|zg [none] [] [.v 5 _,.v 6 _,.v 4 _] [.g 0,.g 1,.o 2] O (zv rfl (za1 (gq 0 rfl)) (zv rfl (za5 (xs:=[.tmp 5]) (zlb xs) (.cons (vq 0 rfl) .nil)) (zv rfl (za2 (vq 1 rfl)) o0))) (zz [(0,_),(3,_),(4,_)] [⟨2,37,ptrH,_⟩] fun a w O=>?_)
 refine zt<|wp_seq<|zg [none] [] [.v 7 _,.v 8 _] [.g 0,.g 1,.g 2,.o 1] O (zv rfl (za1 (gq 2 rfl)) (zv rfl (ze5 (vq 0 rfl) za3) o0)) (zz [(0,_),(3,_),(4,_),(8,_)] [⟨2,37,ptrH,_⟩] fun a w O=>?_)
 refine za0<|za8 O (zm 3 rfl) (fun hb0=>?_) (fun hb0=>?_)
 ·have hc:¬ chF xs=0:=by simpa using hb0
  refine wp_seq<|zg [some (2,_)] [] [.v 9 _,.v 10 _,.sto 0,.v 3 _] [.g 0,.o 3] O (zv rfl (zbf (xs:=[]) (qs:=[]) zar .nil) (zv rfl (za1 (gq 2 rfl)) (oc (zaa rfl rfl rfl (vq 0 rfl) zb1 (Eq.trans (b:=16) rfl rfl)) (zv rfl (za2 (vq 1 rfl)) o0)))) (zz [(0,_),(3,_)] [⟨2,37,ptrH,_⟩] fun a w O=>?_)
  refine za0<|wp_ret<|zak ?_
  refine zag ?_ (zb2 (rs:=[.cell 2 37,.tmp 3]) rfl O (.cell (zm 0 rfl) zb1 (.tmp (zm 1 rfl) .nil)) zd)
  rw [benF,if_neg hc]; exact zbh
 ·have hc:chF xs=0:=by simpa using hb0
  have hk:=ch_ok hc
  refine wp_skip<|zt<|zg [some (5,_)] [] [.v 11 _,.v 12 _,.v 13 _,.v 14 _,.v 15 _,.sto 0,.v 3 _] [.o 6] O (zv rfl (za1 (gq 0 rfl)) (zv rfl (za5 (xs:=[.tmp 11]) (zo8 hk.1 hk.2) (.cons (vq 0 rfl) .nil)) (zv rfl (za5 (xs:=[.tmp 12]) (zl9 (m:=prodQ xs) zd) (.cons (vq 1 rfl) .nil)) (zv rfl (zo6 (vq 2 rfl)) (zv rfl (zo5 (vq 2 rfl)) (oc (zaa rfl rfl rfl (vq 3 rfl) zb1 (Eq.trans (b:=16) rfl rfl)) (zv rfl (za2 (vq 4 rfl)) o0))))))) (zz [(3,_)] [⟨2,37,ptrH,_⟩] fun a w O=>?_)
  refine za0<|wp_ret<|zag ?_ (zb2 (rs:=[.cell 2 37,.tmp 3]) rfl O (.cell (zm 0 rfl) zb1 (.tmp (zm 0 rfl) .nil)) zd)
  rw [benF,if_pos hc]; exact zbh
end Go.Proofs.YtpnhpldlecmbdaaGreatDoor
