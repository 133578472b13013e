import Derived.Test.YtndjeibbjjpkfaaGreatDoorCtAa
import Derived.Test.YtndjeibbjjpkfaaGreatDoorCtAc
import Derived.Test.YtndjeibbjjpkfaaGreatDoorCtAl
import Derived.Test.YtndjeibbjjpkfaaGreatDoorCtAn
import Derived.Test.YtndjeibbjjpkfaaGreatDoorCtAy
import Derived.Test.YtndjeibbjjpkfaaGreatDoorCtBa
import Derived.Test.YtndjeibbjjpkfaaGreatDoorCtBd
import Derived.Test.YtndjeibbjjpkfaaGreatDoorCtBe
set_option linter.unusedVariables false
set_option linter.unusedSimpArgs false
set_option linter.unusedSectionVars false
set_option maxRecDepth 100000
namespace Go.Proofs.YtndjeibbjjpkfaaGreatDoor
open Go Go.RowKit
theorem big_e {x:RI}:decide ((x.mag.length:Int)>2048)=bigI x:=by unfold bigI; simp
theorem lq_e {q:Rat}:(bigI (riOf q.num) || bigI (riOf (q.den:Int)))=longQ q:=by simp [longQ]
theorem zr4 (x:RI):Cn Tryz.prog 205 [(RIA x).va] (Bo (bigI x)):=by
 refine Cn.intro Tryz.func205 rfl zk nq (fun B w0 a O=>?_)
 have O:=zn [(0,(RIA x).va)] [] O
 refine wp_seq<|zg [] [⟨1,28,ptrH,some 0,_,none⟩] [.alc 0,.val 2 _] [.o 1] O (oc (zan rfl rfl rfl (gq 0 rfl)) (zv rfl (za1 zau) o0)) (zz [(2,_)] [⟨1,28,ptrH,_⟩] fun a w O=>?_)
 refine zt<|zg [none] [] [.adr 3 1 (.some 1) True,.val 4 _,.val 5 _,.val 6 _,.val 2 _] [.o 4] O (oc (ob_a rfl rfl (za7 (lz0 0 rfl) zao)) (zv rfl (za4 0 rfl zk trivial (lz0 0 rfl) (Sub.part 1 rfl rfl) zbd) (zv rfl (zay Tryz.underlying26 (vq 1 rfl)) (zv rfl (zex (vq 2 rfl) za3) (zv rfl (za1 (vq 3 rfl)) o0))))) (zz [(2,_)] [⟨1,28,ptrH,_⟩] fun a w O=>?_)
 refine za0<|wp_ret<|zae ?_ (zag rfl O (zm 0 rfl))
 exact zbt (congrArg Bo big_e)
theorem r2long_q {L:List As}(qs:List Rat)(hL:All2 IsQ L qs)(hl:qs.length≤1099511627776):Cn Tryz.prog 173 [(SlA 30 [U32] L).va] (Bo (qs.any longQ)):=by
 have hLl:=hL.length
 refine Cn.introW Tryz.func173 rfl zk nq (.cons (zp3 (isq_up hL)).va .nil) (zdz _).va (fun B w0 a hB0 O=>?_)
 have O:=zn [(0,(SlO 30 [U32] L True).va)] [] O
 refine wp_seq<|zh [.val 2 _] [.g 0,.o 0] O (zv rfl (za1 zau) o0) (zz [(0,_),(2,_)] [] fun a w O=>?_)
 refine zt<|wp_seq<|zh [.val 3 _] [.g 0,.g 1,.o 0] O (zv rfl (za1 za3) o0) (zz [(0,_),(2,_),(3,_)] [] fun a w O=>?_)
 refine za0<|wp_block ?_
 have O:=St.sel O [0,2]
 refine wp_loop_ghost (fun n a w=>∃ j:Nat,(n+j=qs.length∧(qs.take j).any longQ=false)∧St B w0 24 [(0,(SlO 30 [U32] L True).va),(3,In (j:Nat))] [] a w) (qs.length) ?_ ?_
 ·exact ⟨0,⟨by omega,rfl⟩,O⟩
 intro n a w hI
 obtain ⟨j,⟨hn,hno⟩,O⟩:=hI
 refine wp_seq<|wp_seq<|zh [.val 4 _,.val 5 _,.val 6 _,.val 7 _] [.g 0,.g 1,.o 3] O (zv rfl (za2 (gq 1 rfl)) (zv rfl (za2 (gq 0 rfl)) (zv rfl (zbq Tryz.underlying117 (zd1 (zaz (vq 1 rfl)))) (zv rfl (zb6 (vq 0 rfl) (vq 2 rfl)) o0)))) (zz [(0,_),(3,_),(7,_)] [] fun a w O=>?_)
 refine za0<|za9 O (zm 2 rfl) (fun hb0=>?_) (fun hb0=>?_)
 ·have hj:j<qs.length:=by rw [hLl] at hb0; simp at hb0; omega
  obtain ⟨kj,hLj⟩:=isq_at hL hj
  refine wp_skip<|zt<|wp_block<|wp_seq<|zh [.val 10 _,.val 11 _,.val 12 _,.val 13 _,.val 14 _,.val 15 _,.val 16 _,.val 17 (Wh (_=false) _),.val 18 (Wh (_=false) _),.val 19 (Wh (_=false) _),.val 20 (Wh (_=false) _),.val 21 (Wh (_=false) _),.val 22 (Wh (_=false) _),.val 23 _] [.g 0,.g 1,.o 13] O (zv rfl (za2 (gq 0 rfl)) (zv rfl (za2 (gq 1 rfl)) (zv rfl (zdv zeo (isq_n hL) (zd1 (zaz (vq 0 rfl))) (vq 1 rfl) hLj) (zv rfl (zb0 (vq 2 rfl) zbf (Sub.part 0 rfl rfl)) (zv rfl (zaj (vq 3 rfl) zaf) (zv rfl (za5 (xs:=[.tmp 14]) ((zr4 (riOf (qs[j]).num)).wk (.cons zaA.va .nil)) (.cons (vq 4 rfl) .nil)) (zv rfl (za2 (vq 5 rfl)) (oc (zai rfl rfl rfl (vq 6 rfl) nq (fun hg=>za2 (gq 0 rfl))) (oc (zai rfl rfl rfl (vq 6 rfl) nq (fun hg=>za2 (gq 1 rfl))) (oc (zai rfl rfl rfl (vq 6 rfl) nq (fun hg=>zdv zeo (isq_n hL) (zd1 (zaz (zaa (vq 7 rfl) hg))) (zaa (vq 8 rfl) hg) hLj)) (oc (zai rfl rfl rfl (vq 6 rfl) nq (fun hg=>zb0 (zaa (vq 9 rfl) hg) zb9 (Sub.part 1 rfl rfl))) (oc (zai rfl rfl rfl (vq 6 rfl) nq (fun hg=>zaj (zaa (vq 10 rfl) hg) zaf)) (oc (zai rfl rfl rfl (vq 6 rfl) nq (fun hg=>za5 (xs:=[.tmp 21]) ((zr4 (riOf ((qs[j]).den:Int))).wk (.cons zaA.va .nil)) (.cons (zaa (vq 11 rfl) hg) .nil))) (zv rfl (r_or (vq 6 rfl) (vq 12 rfl)) o0)))))))))))))) (zz [(0,_),(3,_),(23,_)] [] fun a w O=>?_)
  refine za0<|za9 O (zm 2 rfl) (fun hb1=>?_) (fun hb1=>?_)
  ·rw [lq_e] at hb1
   refine wp_seq<|zh [.val 2 _] [.g 0,.g 1,.o 0] O (zv rfl (za1 zau) o0) (zz [(0,_),(3,_),(2,_)] [] fun a w O=>?_)
   refine za0<|wp_ret<|zb7 ?_
   refine zah ?_
   refine zah ?_
   refine zb7 ?_
   refine zah ?_
   refine zas ?_ (zag rfl O (zm 2 rfl))
   rw [← zwp hj hb1]
  ·rw [lq_e] at hb1
   refine wp_skip<|zal ?_
   refine za0<|zh [.val 8 _,.val 9 _,.val 3 _] [.g 0,.o 2] O (zv rfl (za2 (gq 1 rfl)) (zv rfl (zbb (vq 0 rfl) za3 (zbc zo)) (zv rfl (za1 (vq 1 rfl)) o0))) (zz [(0,_),(3,_)] [] fun a w O=>?_)
   refine za0 ?_
   have O:=St.sel O [0,1]
   exact ⟨n-1,by omega,j+1,⟨by omega,lq_no hj hno hb1⟩,O⟩
 ·obtain rfl:j=qs.length:=by rw [hLl] at hb0; simp at hb0; omega
  refine wp_exit<|za8<|za8<|zat<|zt<|zh [.val 2 _] [.o 0] O (zv rfl (za1 zau) o0) (zz [(2,_)] [] fun a w O=>?_)
  refine za0<|wp_ret<|zas ?_ (zag rfl O (zm 0 rfl))
  rw [List.take_length] at hno; rw [hno]
end Go.Proofs.YtndjeibbjjpkfaaGreatDoor
namespace Go.Proofs.YtndjeibbjjpkfaaGreatDoor
open Go Go.RowKit
theorem qm4 {c1 c2 c3 c4 k:Nat}{x y z u:Rat}(h1:c1≤k)(h2:c2≤k)(h3:c3≤k)(h4:c4≤k):WkA (cat [QA c1 x,QA c2 y,QA c3 z,QA c4 u]) (QMA k ⟨x,y,z,u⟩):=zc8 (.cons (zbg h1) (.cons (zbg h2) (.cons (zbg h3) (.cons (zbg h4) .nil))))
theorem zlq {k k':Nat}{m:MQ}(h:k≤k'):WkA (QMA k m) (QMA k' m):=zc8 (.cons (zbg h) (.cons (zbg h) (.cons (zbg h) (.cons (zbg h) .nil))))
theorem elM_1 {x:RE}(h:x.k=1):elM x=⟨1,toQ x.p,0,1⟩:=by unfold elM; rw [h]; rfl
theorem elM_2 {x:RE}(h:x.k=2):elM x=⟨1,0,0-toQ x.p,1⟩:=by unfold elM; rw [h]; rfl
theorem elM_3 {x:RE}(h:x.k=3):elM x=⟨1,toQ x.p/toQ x.q,0,1⟩:=by unfold elM; rw [h]; rfl
theorem elM_4 {x:RE}(h:x.k=4):elM x=⟨1,0,0-toQ x.p*toQ x.q,1⟩:=by unfold elM; rw [h]; rfl
theorem elM_5 {x:RE}(h1:¬ x.k=1)(h2:¬ x.k=2)(h3:¬ x.k=3)(h4:¬ x.k=4):elM x=⟨0-1,0-0,0-0,0-1⟩:=by unfold elM elQ; rw [if_neg h1,if_neg h2,if_neg h3,if_neg h4]
theorem q3_nz {x:RE}(hk:x.k=1∨x.k=2∨(x.k=3∧toQ x.q≠0)∨x.k=4∨x.k=5)(h:x.k=3):toQ x.q≠0:=by
 rcases hk with e | e | ⟨_,e⟩ | e | e
 ·omega
 ·omega
 ·exact e
 ·omega
 ·omega
theorem zta {L:List As}(qs:List Rat)(hL:All2 IsQ L qs)(hl:qs.length≤1099511627776):Cn Tryz.prog 96 [(SlA 30 [U32] L).va] (In (if qs.any longQ then 4 else 0)):=by
 refine Cn.intro Tryz.func96 rfl zk nq (fun B w0 a O=>?_)
 have O:=zn [(0,(SlA 30 [U32] L).va)] [] O
 refine wp_seq<|zh [.val 2 _] [.g 0,.o 0] O (zv rfl (za1 za3) o0) (zz [(0,_),(2,_)] [] fun a w O=>?_)
 refine zt<|wp_seq<|zh [.val 3 _,.val 4 _] [.g 1,.o 1] O (zv rfl (za2 (gq 0 rfl)) (zv rfl (za5 (xs:=[.tmp 3]) (r2long_q qs hL hl) (.cons (vq 0 rfl) .nil)) o0)) (zz [(2,_),(4,_)] [] fun a w O=>?_)
 refine za0<|za9 O (zm 1 rfl) (fun hb0=>?_) (fun hb0=>?_)
 ·refine wp_seq<|zh [.val 2 _] [.o 0] O (zv rfl (za1 za3) o0) (zz [(2,_)] [] fun a w O=>?_)
  refine za0<|wp_ret<|zah ?_
  refine zae ?_ (zag rfl O (zm 0 rfl))
  rw [hb0]; exact zbi
 ·refine wp_skip<|zt<|zh [.val 2 _] [.o 0] O (zv rfl (za1 za3) o0) (zz [(2,_)] [] fun a w O=>?_)
  refine za0<|wp_ret<|zae ?_ (zag rfl O (zm 0 rfl))
  rw [hb0]; exact zbi
theorem zio {c d e f:Nat}{x y z u:Rat}(hk:c+d+e+f≤900000000):Cn Tryz.prog 166 [Qs c x,Qs d y,Qs e z,Qs f u] (Qs (c+d+(e+f)+1) (x*y+z*u)):=by
 refine Cn.intro Tryz.func166 rfl zk nq (fun B w0 a O=>?_)
 have O:=zn [(0,Qs c x),(1,Qs d y),(2,Qs e z),(3,Qs f u)] [] O
 refine wp_seq<|zg [] [⟨4,30,ptrH,some 0,_,none⟩,⟨5,30,ptrH,some 1,_,none⟩,⟨6,30,ptrH,some 2,_,none⟩,⟨7,30,ptrH,some 3,_,none⟩,⟨8,30,ptrH,some 4,_,none⟩] [.alc 0,.alc 1,.alc 2,.alc 3,.alc 4] [] O (oc (zan rfl rfl rfl (gq 0 rfl)) (oc (zan rfl rfl rfl (gq 1 rfl)) (oc (zan rfl rfl rfl (gq 2 rfl)) (oc (zan rfl rfl rfl (gq 3 rfl)) (oc (zaq rfl rfl rfl (Str.zero zb3)) o0))))) (zz [] [⟨4,30,ptrH,_⟩,⟨5,30,ptrH,_⟩,⟨6,30,ptrH,_⟩,⟨7,30,ptrH,_⟩,⟨8,30,ptrH,_⟩] fun a w O=>?_)
 refine zt<|zgd [[],[],[0,1],[],[],[0,1,2,3,4],[0,1,2,3,4,5],[0,1,2,3,4,5,6]] [none,none,none,none,some (7,_)] [] [.val 9 _,.val 10 _,.val 11 _,.val 12 _,.val 13 _,.val 14 _,.val 15 _,.sto 4] [] za6 O (zv rfl (zam (lz0 0 rfl) zad) (zv rfl (zam (lz0 1 rfl) zad) (zv rfl (za5 (xs:=[.tmp 9,.tmp 10]) (zjk zo) (.cons (vq 0 rfl) (.cons (vq 1 rfl) .nil))) (zv rfl (zam (lz0 2 rfl) zad) (zv rfl (zam (lz0 3 rfl) zad) (zv rfl (za5 (xs:=[.tmp 12,.tmp 13]) (zjk zo) (.cons (vq 3 rfl) (.cons (vq 4 rfl) .nil))) (zv rfl (za5 (xs:=[.tmp 11,.tmp 14]) (zir zo) (.cons (vq 2 rfl) (.cons (vq 5 rfl) .nil))) (oc (zac rfl rfl rfl (vq 6 rfl) zad (Eq.trans (b:=4) rfl rfl)) o0)))))))) zk zk zk zk (zz [] [⟨4,30,ptrH,_⟩,⟨5,30,ptrH,_⟩,⟨6,30,ptrH,_⟩,⟨7,30,ptrH,_⟩,⟨8,30,ptrH,_⟩] fun a w O=>?_)
 refine za0<|wp_ret<|zae ?_ (zak rfl O (zm 4 rfl) zad)
 exact zbi
theorem asm_lo {m:MQ}(h:[m.a,m.b,m.c,m.d].any longQ=true):asM 0 m=(rm0,4):=by rw [asM,if_pos rfl,if_pos h]
theorem asm_ok {m:MQ}(h:¬ [m.a,m.b,m.c,m.d].any longQ=true):asM 0 m=(rmOf m,0):=by rw [asM,if_pos rfl,if_neg h]
theorem znw {c d:Nat}{m q:MQ}(hk:c+d≤200000000):Cn Tryz.prog 93 [(QMA c m).va,(QMA d q).va] ((QMA (c+d+(c+d)+1) (mulQ m q)).va):=by
 refine Cn.intro Tryz.func93 rfl zk nq (fun B w0 a O=>?_)
 have O:=zn [(0,(QMA c m).va),(1,(QMA d q).va)] [] O
 refine wp_seq<|zg [] [⟨2,32,ptrH,some 0,_,none⟩,⟨3,32,ptrH,some 1,_,none⟩,⟨4,32,ptrH,some 2,_,none⟩] [.alc 0,.alc 1,.alc 2] [] O (oc (zan rfl rfl rfl (gq 0 rfl)) (oc (zan rfl rfl rfl (gq 1 rfl)) (oc (zaq rfl rfl rfl (Str.zero zar)) o0))) (zz [] [⟨2,32,ptrH,_⟩,⟨3,32,ptrH,_⟩,⟨4,32,ptrH,_⟩] fun a w O=>?_)
 refine zt<|zfp (anc:=[[],[0],[],[2],[],[4],[],[6],[0,1,2,3,4,5,6,7],[],[9],[],[11],[],[13],[],[15],[0,1,2,3,4,5,6,7,8,9,10,11,12,13,14,15,16],[],[18],[],[20],[],[22],[],[24],[0,1,2,3,4,5,6,7,8,9,10,11,12,13,14,15,16,17,18,19,20,21,22,23,24,25],[],[27],[],[29],[],[31],[],[33],[0,1,2,3,4,5,6,7,8,9,10,11,12,13,14,15,16,17,18,19,20,21,22,23,24,25,26,27,28,29,30,31,32,33,34],[0,1,2,3,4,5,6,7,8,9,10,11,12,13,14,15,16,17,18,19,20,21,22,23,24,25,26,27,28,29,30,31,32,33,34,35],[0,1,2,3,4,5,6,7,8,9,10,11,12,13,14,15,16,17,18,19,20,21,22,23,24,25,26,27,28,29,30,31,32,33,34,35,36]]) (sts:=[none,none,some (37,_)]) (news:=[]) (sp:=((.adr 5 2 (.some 0) True:Sp)::(.val 6 _)::(.adr 7 3 (.some 0) True)::(.val 8 _)::(.adr 9 2 (.some 4) True)::(.val 10 _)::(.adr 11 3 (.some 8) True)::(.val 12 _)::(.val 13 _)::(.adr 14 2 (.some 0) True)::(.val 15 _)::(.adr 16 3 (.some 4) True)::(.val 17 _)::(.adr 18 2 (.some 4) True)::(.val 19 _)::(.adr 20 3 (.some 12) True)::(.val 21 _)::(.val 22 _)::(.adr 23 2 (.some 8) True)::(.val 24 _)::(.adr 25 3 (.some 0) True)::(.val 26 _)::(.adr 27 2 (.some 12) True)::(.val 28 _)::(.adr 29 3 (.some 8) True)::(.val 30 _)::(.val 31 _)::(.adr 32 2 (.some 8) True)::(.val 33 _)::(.adr 34 3 (.some 4) True)::(.val 35 _)::(.adr 36 2 (.some 12) True)::(.val 37 _)::(.adr 38 3 (.some 12) True)::(.val 39 _)::(.val 40 _)::(.val 41 _)::(.sto 2)::[])) [] za6 O (oc (ob_a rfl rfl (za7 (lz0 0 rfl) zc2)) (zv rfl (za4 0 rfl zk trivial (lz0 0 rfl) (Sub.part 0 rfl rfl) zad) (oc (ob_a rfl rfl (za7 (lz0 1 rfl) zc2)) (zv rfl (za4 2 rfl zk trivial (lz0 1 rfl) (Sub.part 0 rfl rfl) zad) (oc (ob_a rfl rfl (za7 (lz0 0 rfl) zc1)) (zv rfl (za4 4 rfl zk trivial (lz0 0 rfl) (Sub.part 1 rfl rfl) zad) (oc (ob_a rfl rfl (za7 (lz0 1 rfl) zbw)) (zv rfl (za4 6 rfl zk trivial (lz0 1 rfl) (Sub.part 2 rfl rfl) zad) (zv rfl (za5 (xs:=[.tmp 6,.tmp 8,.tmp 10,.tmp 12]) (zio zo) (.cons (vq 1 rfl) (.cons (vq 3 rfl) (.cons (vq 5 rfl) (.cons (vq 7 rfl) .nil))))) (oc (ob_a rfl rfl (za7 (lz0 0 rfl) zc2)) (zv rfl (za4 9 rfl zk trivial (lz0 0 rfl) (Sub.part 0 rfl rfl) zad) (oc (ob_a rfl rfl (za7 (lz0 1 rfl) zc1)) (zv rfl (za4 11 rfl zk trivial (lz0 1 rfl) (Sub.part 1 rfl rfl) zad) (oc (ob_a rfl rfl (za7 (lz0 0 rfl) zc1)) (zv rfl (za4 13 rfl zk trivial (lz0 0 rfl) (Sub.part 1 rfl rfl) zad) (oc (ob_a rfl rfl (za7 (lz0 1 rfl) zc0)) (zv rfl (za4 15 rfl zk trivial (lz0 1 rfl) (Sub.part 3 rfl rfl) zad) (zv rfl (za5 (xs:=[.tmp 15,.tmp 17,.tmp 19,.tmp 21]) (zio zo) (.cons (vq 10 rfl) (.cons (vq 12 rfl) (.cons (vq 14 rfl) (.cons (vq 16 rfl) .nil))))) (oc (ob_a rfl rfl (za7 (lz0 0 rfl) zbw)) (zv rfl (za4 18 rfl zk trivial (lz0 0 rfl) (Sub.part 2 rfl rfl) zad) (oc (ob_a rfl rfl (za7 (lz0 1 rfl) zc2)) (zv rfl (za4 20 rfl zk trivial (lz0 1 rfl) (Sub.part 0 rfl rfl) zad) (oc (ob_a rfl rfl (za7 (lz0 0 rfl) zc0)) (zv rfl (za4 22 rfl zk trivial (lz0 0 rfl) (Sub.part 3 rfl rfl) zad) (oc (ob_a rfl rfl (za7 (lz0 1 rfl) zbw)) (zv rfl (za4 24 rfl zk trivial (lz0 1 rfl) (Sub.part 2 rfl rfl) zad) (zv rfl (za5 (xs:=[.tmp 24,.tmp 26,.tmp 28,.tmp 30]) (zio zo) (.cons (vq 19 rfl) (.cons (vq 21 rfl) (.cons (vq 23 rfl) (.cons (vq 25 rfl) .nil))))) (oc (ob_a rfl rfl (za7 (lz0 0 rfl) zbw)) (zv rfl (za4 27 rfl zk trivial (lz0 0 rfl) (Sub.part 2 rfl rfl) zad) (oc (ob_a rfl rfl (za7 (lz0 1 rfl) zc1)) (zv rfl (za4 29 rfl zk trivial (lz0 1 rfl) (Sub.part 1 rfl rfl) zad) (oc (ob_a rfl rfl (za7 (lz0 0 rfl) zc0)) (zv rfl (za4 31 rfl zk trivial (lz0 0 rfl) (Sub.part 3 rfl rfl) zad) (oc (ob_a rfl rfl (za7 (lz0 1 rfl) zc0)) (zv rfl (za4 33 rfl zk trivial (lz0 1 rfl) (Sub.part 3 rfl rfl) zad) (zv rfl (za5 (xs:=[.tmp 33,.tmp 35,.tmp 37,.tmp 39]) (zio zo) (.cons (vq 28 rfl) (.cons (vq 30 rfl) (.cons (vq 32 rfl) (.cons (vq 34 rfl) .nil))))) (zv rfl (zb8 (xs:=[(0,.tmp 13),(1,.tmp 22),(2,.tmp 31),(3,.tmp 40)]) (qs:=[(0,_),(1,_),(2,_),(3,_)]) zar (.cons ⟨rfl,(vq 8 rfl),rfl⟩ (.cons ⟨rfl,(vq 17 rfl),rfl⟩ (.cons ⟨rfl,(vq 26 rfl),rfl⟩ (.cons ⟨rfl,(vq 35 rfl),rfl⟩ .nil))))) (oc (zac rfl rfl rfl (vq 36 rfl) zb2 (Eq.trans (b:=16) rfl rfl)) o0)))))))))))))))))))))))))))))))))))))) zk zk zk zk (zz [] [⟨2,32,ptrH,_⟩,⟨3,32,ptrH,_⟩,⟨4,32,ptrH,_⟩] fun a w O=>?_)
 refine za0<|wp_ret<|zae ?_ (zak rfl O (zm 2 rfl) zb2)
 exact zbi
theorem zt5 {c:Nat}{m:MQ}(hc:c≤549755813888):Cn Tryz.prog 24 [(QMA c m).va] (MR (asM 0 m)):=by
 refine Cn.intro Tryz.func24 rfl zk nq (fun B w0 a O=>?_)
 have O:=zn [(0,(QMA c m).va)] [] O
 refine wp_seq<|zg [] [⟨1,32,ptrH,some 0,_,none⟩,⟨2,32,ptrH,some 1,_,none⟩] [.alc 0,.alc 1,.val 3 _] [.o 2] O (oc (zan rfl rfl rfl (gq 0 rfl)) (oc (zaq rfl rfl rfl (Str.zero zar)) (zv rfl (za1 za3) o0))) (zz [(3,_)] [⟨1,32,ptrH,_⟩,⟨2,32,ptrH,_⟩] fun a w O=>?_)
 refine zt<|zg [none,none] [] [.adr 5 1 (.some 0) True,.val 6 _,.adr 7 1 (.some 4) True,.val 8 _,.adr 9 1 (.some 8) True,.val 10 _,.adr 11 1 (.some 12) True,.val 12 _,.val 13 _,.val 14 _,.val 4 _] [.g 0,.o 10] O (oc (ob_a rfl rfl (za7 (lz0 0 rfl) zc2)) (zv rfl (za4 0 rfl zk trivial (lz0 0 rfl) (Sub.part 0 rfl rfl) zad) (oc (ob_a rfl rfl (za7 (lz0 0 rfl) zc1)) (zv rfl (za4 2 rfl zk trivial (lz0 0 rfl) (Sub.part 1 rfl rfl) zad) (oc (ob_a rfl rfl (za7 (lz0 0 rfl) zbw)) (zv rfl (za4 4 rfl zk trivial (lz0 0 rfl) (Sub.part 2 rfl rfl) zad) (oc (ob_a rfl rfl (za7 (lz0 0 rfl) zc0)) (zv rfl (za4 6 rfl zk trivial (lz0 0 rfl) (Sub.part 3 rfl rfl) zad) (zv rfl (zcy (D:=[U32]) (l:=[_,_,_,_]) (xs:=[.tmp 6,.tmp 8,.tmp 10,.tmp 12]) (zff zk) zeo zk (n_ok zk) nq nq nq (.cons (vq 1 rfl) (.cons (vq 3 rfl) (.cons (vq 5 rfl) (.cons (vq 7 rfl) .nil)))) rfl rfl) (zv rfl (za5 (xs:=[.tmp 13]) (zta [m.a,m.b,m.c,m.d] (.cons ⟨_,rfl⟩ (.cons ⟨_,rfl⟩ (.cons ⟨_,rfl⟩ (.cons ⟨_,rfl⟩ .nil)))) nq) (.cons (vq 8 rfl) .nil)) (zv rfl (za1 (vq 9 rfl)) o0))))))))))) (zz [(3,_),(4,_)] [⟨1,32,ptrH,_⟩,⟨2,32,ptrH,_⟩] fun a w O=>?_)
 refine zt<|wp_seq<|zg [none,none] [] [.val 15 _,.val 16 _] [.g 0,.g 1,.o 1] O (zv rfl (za2 (gq 1 rfl)) (zv rfl (zd9 (vq 0 rfl) za3) o0)) (zz [(3,_),(4,_),(16,_)] [⟨1,32,ptrH,_⟩,⟨2,32,ptrH,_⟩] fun a w O=>?_)
 refine za0<|za9 O (zm 2 rfl) (fun hb0=>?_) (fun hb0=>?_)
 ·have hl:=zyh hb0
  refine wp_seq<|zg [none,some (2,_)] [] [.val 17 _,.val 18 _,.sto 1,.val 3 _] [.o 3] O (zv rfl (zb8 (xs:=[]) (qs:=[]) zar .nil) (zv rfl (za2 (gq 1 rfl)) (oc (zac rfl rfl rfl (vq 0 rfl) zb2 (Eq.trans (b:=16) rfl rfl)) (zv rfl (za1 (vq 1 rfl)) o0)))) (zz [(3,_)] [⟨1,32,ptrH,_⟩,⟨2,32,ptrH,_⟩] fun a w O=>?_)
  refine za0<|wp_ret<|zah ?_
  refine zae ?_ (zb1 (rs:=[.cell 2 32,.tmp 3]) rfl O (.cell (zm 1 rfl) zb2 (.tmp (zm 0 rfl) .nil)) zd)
  rw [asm_lo hl]; exact tu2w zbi (zbt (by rw [if_pos hl]))
 ·have hl:=as_no hb0
  refine wp_skip<|zt<|zg [none,some (1,_)] [] [.val 19 _,.sto 1,.val 3 _] [.o 2] O (zv rfl (zam (lz0 0 rfl) zb2) (oc (zac rfl rfl rfl (vq 0 rfl) zb2 (Eq.trans (b:=16) rfl rfl)) (zv rfl (za1 za3) o0))) (zz [(3,_)] [⟨1,32,ptrH,_⟩,⟨2,32,ptrH,_⟩] fun a w O=>?_)
  refine za0<|wp_ret<|zae ?_ (zb1 (rs:=[.cell 2 32,.tmp 3]) rfl O (.cell (zm 1 rfl) zb2 (.tmp (zm 0 rfl) .nil)) zd)
  rw [asm_ok hl]; exact tu2w qmA.va zbi
theorem r10own_q {c:Nat}{x:Rat}(hc:c≤800000000):Cn Tryz.prog 201 [Qs c x] (Qs (c+2+1) x):=by
 refine Cn.intro Tryz.func201 rfl zk nq (fun B w0 a O=>?_)
 have O:=zn [(0,Qs c x)] [] O
 refine wp_seq<|zg [] [⟨1,30,ptrH,some 0,_,none⟩,⟨2,30,ptrH,some 1,_,none⟩] [.alc 0,.alc 1] [] O (oc (zan rfl rfl rfl (gq 0 rfl)) (oc (zaq rfl rfl rfl (Str.zero zb3)) o0)) (zz [] [⟨1,30,ptrH,_⟩,⟨2,30,ptrH,_⟩] fun a w O=>?_)
 refine zt<|zgd [[],[],[0,1],[0,1,2]] [none,some (3,_)] [] [.val 3 _,.val 4 _,.val 5 _,.sto 1] [] za6 O (zv rfl (zam (lz0 0 rfl) zad) (zv rfl (za5 (xs:=[]) zdk .nil) (zv rfl (za5 (xs:=[.tmp 3,.tmp 4]) (zir zo) (.cons (vq 0 rfl) (.cons (vq 1 rfl) .nil))) (oc (zac rfl rfl rfl (vq 2 rfl) zad (Eq.trans (b:=4) rfl rfl)) o0)))) zk zk zk zk (zz [] [⟨1,30,ptrH,_⟩,⟨2,30,ptrH,_⟩] fun a w O=>?_)
 refine za0<|wp_ret<|zae ?_ (zak rfl O (zm 1 rfl) zad)
 exact zbt (congrArg (Qs _) (Rat.add_zero x))
theorem zfl {c:Nat}{x:Rat}(hc:c≤800000000):Cn Tryz.prog 202 [Qs c x] (Qs (2+c+1) (0-x)):=by
 refine Cn.intro Tryz.func202 rfl zk nq (fun B w0 a O=>?_)
 have O:=zn [(0,Qs c x)] [] O
 refine wp_seq<|zg [] [⟨1,30,ptrH,some 0,_,none⟩,⟨2,30,ptrH,some 1,_,none⟩] [.alc 0,.alc 1] [] O (oc (zan rfl rfl rfl (gq 0 rfl)) (oc (zaq rfl rfl rfl (Str.zero zb3)) o0)) (zz [] [⟨1,30,ptrH,_⟩,⟨2,30,ptrH,_⟩] fun a w O=>?_)
 refine zt<|zgd [[],[],[0,1],[0,1,2]] [none,some (3,_)] [] [.val 3 _,.val 4 _,.val 5 _,.sto 1] [] za6 O (zv rfl (za5 (xs:=[]) zdk .nil) (zv rfl (zam (lz0 0 rfl) zad) (zv rfl (za5 (xs:=[.tmp 3,.tmp 4]) (zvv zo) (.cons (vq 0 rfl) (.cons (vq 1 rfl) .nil))) (oc (zac rfl rfl rfl (vq 2 rfl) zad (Eq.trans (b:=4) rfl rfl)) o0)))) zk zk zk zk (zz [] [⟨1,30,ptrH,_⟩,⟨2,30,ptrH,_⟩] fun a w O=>?_)
 refine za0<|wp_ret<|zae ?_ (zak rfl O (zm 1 rfl) zad)
 exact zbi
theorem zjm {c d e f:Nat}{x y z u:Rat}:Cn Tryz.prog 200 [Qs c x,Qs d y,Qs e z,Qs f u] ((cat [QA c x,QA d y,QA e z,QA f u]).va):=by
 refine Cn.intro Tryz.func200 rfl zk nq (fun B w0 a O=>?_)
 have O:=zn [(0,Qs c x),(1,Qs d y),(2,Qs e z),(3,Qs f u)] [] O
 refine wp_seq<|zg [] [⟨4,30,ptrH,some 0,_,none⟩,⟨5,30,ptrH,some 1,_,none⟩,⟨6,30,ptrH,some 2,_,none⟩,⟨7,30,ptrH,some 3,_,none⟩,⟨8,32,ptrH,some 4,_,none⟩] [.alc 0,.alc 1,.alc 2,.alc 3,.alc 4] [] O (oc (zan rfl rfl rfl (gq 0 rfl)) (oc (zan rfl rfl rfl (gq 1 rfl)) (oc (zan rfl rfl rfl (gq 2 rfl)) (oc (zan rfl rfl rfl (gq 3 rfl)) (oc (zaq rfl rfl rfl (Str.zero zar)) o0))))) (zz [] [⟨4,30,ptrH,_⟩,⟨5,30,ptrH,_⟩,⟨6,30,ptrH,_⟩,⟨7,30,ptrH,_⟩,⟨8,32,ptrH,_⟩] fun a w O=>?_)
 refine zt<|zg [none,none,none,none,some (5,_)] [] [.val 9 _,.val 10 _,.val 11 _,.val 12 _,.val 13 _,.sto 4] [] O (zv rfl (zam (lz0 0 rfl) zad) (zv rfl (zam (lz0 1 rfl) zad) (zv rfl (zam (lz0 2 rfl) zad) (zv rfl (zam (lz0 3 rfl) zad) (zv rfl (zb8 (xs:=[(0,.tmp 9),(1,.tmp 10),(2,.tmp 11),(3,.tmp 12)]) (qs:=[(0,_),(1,_),(2,_),(3,_)]) zar (.cons ⟨rfl,(vq 0 rfl),rfl⟩ (.cons ⟨rfl,(vq 1 rfl),rfl⟩ (.cons ⟨rfl,(vq 2 rfl),rfl⟩ (.cons ⟨rfl,(vq 3 rfl),rfl⟩ .nil))))) (oc (zac rfl rfl rfl (vq 4 rfl) zb2 (Eq.trans (b:=16) rfl rfl)) o0)))))) (zz [] [⟨4,30,ptrH,_⟩,⟨5,30,ptrH,_⟩,⟨6,30,ptrH,_⟩,⟨7,30,ptrH,_⟩,⟨8,32,ptrH,_⟩] fun a w O=>?_)
 refine za0<|wp_ret<|zae ?_ (zak rfl O (zm 4 rfl) zb2)
 exact zbi
theorem zkz {c:Nat}{x:Rat}(hc:c≤800000000):Cn Tryz.prog 167 [Qs c x] ((QMA (c+3) ⟨1,x,0,1⟩).va):=by
 refine Cn.intro Tryz.func167 rfl zk nq (fun B w0 a O=>?_)
 have O:=zn [(0,Qs c x)] [] O
 refine wp_seq<|zg [] [⟨1,30,ptrH,some 0,_,none⟩,⟨2,32,ptrH,some 1,_,none⟩] [.alc 0,.alc 1] [] O (oc (zan rfl rfl rfl (gq 0 rfl)) (oc (zaq rfl rfl rfl (Str.zero zar)) o0)) (zz [] [⟨1,30,ptrH,_⟩,⟨2,32,ptrH,_⟩] fun a w O=>?_)
 refine zt<|zgd [[],[],[0,1],[0,1,2],[0,1,2,3],[0,1,2,3,4],[0,1,2,3,4,5]] [none,some (6,_)] [] [.val 3 _,.val 4 _,.val 5 _,.val 6 _,.val 7 _,.val 8 _,.sto 1] [] za6 O (zv rfl (za5 (xs:=[]) zhp .nil) (zv rfl (zam (lz0 0 rfl) zad) (zv rfl (za5 (xs:=[.tmp 4]) (r10own_q zo) (.cons (vq 1 rfl) .nil)) (zv rfl (za5 (xs:=[]) zdk .nil) (zv rfl (za5 (xs:=[]) zhp .nil) (zv rfl (za5 (xs:=[.tmp 3,.tmp 5,.tmp 6,.tmp 7]) zjm (.cons (vq 0 rfl) (.cons (vq 2 rfl) (.cons (vq 3 rfl) (.cons (vq 4 rfl) .nil))))) (oc (zac rfl rfl rfl (vq 5 rfl) zb2 (Eq.trans (b:=16) rfl rfl)) o0))))))) zk zk zk zk (zz [] [⟨1,30,ptrH,_⟩,⟨2,32,ptrH,_⟩] fun a w O=>?_)
 refine za0<|wp_ret<|zae ?_ (zak rfl O (zm 1 rfl) zb2)
 exact (qm4 zo zo zo zo).va
theorem znz {c:Nat}{x:Rat}(hc:c≤800000000):Cn Tryz.prog 168 [Qs c x] ((QMA (c+3) ⟨1,0,0-x,1⟩).va):=by
 refine Cn.intro Tryz.func168 rfl zk nq (fun B w0 a O=>?_)
 have O:=zn [(0,Qs c x)] [] O
 refine wp_seq<|zg [] [⟨1,30,ptrH,some 0,_,none⟩,⟨2,32,ptrH,some 1,_,none⟩] [.alc 0,.alc 1] [] O (oc (zan rfl rfl rfl (gq 0 rfl)) (oc (zaq rfl rfl rfl (Str.zero zar)) o0)) (zz [] [⟨1,30,ptrH,_⟩,⟨2,32,ptrH,_⟩] fun a w O=>?_)
 refine zt<|zgd [[],[0],[],[0,1,2],[0,1,2,3],[0,1,2,3,4],[0,1,2,3,4,5]] [none,some (6,_)] [] [.val 3 _,.val 4 _,.val 5 _,.val 6 _,.val 7 _,.val 8 _,.sto 1] [] za6 O (zv rfl (za5 (xs:=[]) zhp .nil) (zv rfl (za5 (xs:=[]) zdk .nil) (zv rfl (zam (lz0 0 rfl) zad) (zv rfl (za5 (xs:=[.tmp 5]) (zfl zo) (.cons (vq 2 rfl) .nil)) (zv rfl (za5 (xs:=[]) zhp .nil) (zv rfl (za5 (xs:=[.tmp 3,.tmp 4,.tmp 6,.tmp 7]) zjm (.cons (vq 0 rfl) (.cons (vq 1 rfl) (.cons (vq 3 rfl) (.cons (vq 4 rfl) .nil))))) (oc (zac rfl rfl rfl (vq 5 rfl) zb2 (Eq.trans (b:=16) rfl rfl)) o0))))))) zk zk zk zk (zz [] [⟨1,30,ptrH,_⟩,⟨2,32,ptrH,_⟩] fun a w O=>?_)
 refine za0<|wp_ret<|zae ?_ (zak rfl O (zm 1 rfl) zb2)
 exact (qm4 zo zo zo zo).va
theorem zpi {c:Nat}{m:MQ}(hc:c≤800000000):Cn Tryz.prog 171 [(QMA c m).va] ((QMA (c+3) ⟨0-m.a,0-m.b,0-m.c,0-m.d⟩).va):=by
 refine Cn.intro Tryz.func171 rfl zk nq (fun B w0 a O=>?_)
 have O:=zn [(0,(QMA c m).va)] [] O
 refine wp_seq<|zg [] [⟨1,32,ptrH,some 0,_,none⟩,⟨2,32,ptrH,some 1,_,none⟩] [.alc 0,.alc 1] [] O (oc (zan rfl rfl rfl (gq 0 rfl)) (oc (zaq rfl rfl rfl (Str.zero zar)) o0)) (zz [] [⟨1,32,ptrH,_⟩,⟨2,32,ptrH,_⟩] fun a w O=>?_)
 refine zt<|zgd [[],[0],[0,1],[],[3],[0,1,2,3,4],[],[6],[0,1,2,3,4,5,6,7],[],[9],[0,1,2,3,4,5,6,7,8,9,10],[0,1,2,3,4,5,6,7,8,9,10,11],[0,1,2,3,4,5,6,7,8,9,10,11,12]] [none,some (13,_)] [] [.adr 3 1 (.some 0) True,.val 4 _,.val 5 _,.adr 6 1 (.some 4) True,.val 7 _,.val 8 _,.adr 9 1 (.some 8) True,.val 10 _,.val 11 _,.adr 12 1 (.some 12) True,.val 13 _,.val 14 _,.val 15 _,.sto 1] [] za6 O (oc (ob_a rfl rfl (za7 (lz0 0 rfl) zc2)) (zv rfl (za4 0 rfl zk trivial (lz0 0 rfl) (Sub.part 0 rfl rfl) zad) (zv rfl (za5 (xs:=[.tmp 4]) (zfl zo) (.cons (vq 1 rfl) .nil)) (oc (ob_a rfl rfl (za7 (lz0 0 rfl) zc1)) (zv rfl (za4 3 rfl zk trivial (lz0 0 rfl) (Sub.part 1 rfl rfl) zad) (zv rfl (za5 (xs:=[.tmp 7]) (zfl zo) (.cons (vq 4 rfl) .nil)) (oc (ob_a rfl rfl (za7 (lz0 0 rfl) zbw)) (zv rfl (za4 6 rfl zk trivial (lz0 0 rfl) (Sub.part 2 rfl rfl) zad) (zv rfl (za5 (xs:=[.tmp 10]) (zfl zo) (.cons (vq 7 rfl) .nil)) (oc (ob_a rfl rfl (za7 (lz0 0 rfl) zc0)) (zv rfl (za4 9 rfl zk trivial (lz0 0 rfl) (Sub.part 3 rfl rfl) zad) (zv rfl (za5 (xs:=[.tmp 13]) (zfl zo) (.cons (vq 10 rfl) .nil)) (zv rfl (za5 (xs:=[.tmp 5,.tmp 8,.tmp 11,.tmp 14]) zjm (.cons (vq 2 rfl) (.cons (vq 5 rfl) (.cons (vq 8 rfl) (.cons (vq 11 rfl) .nil))))) (oc (zac rfl rfl rfl (vq 12 rfl) zb2 (Eq.trans (b:=16) rfl rfl)) o0)))))))))))))) zk zk zk zk (zz [] [⟨1,32,ptrH,_⟩,⟨2,32,ptrH,_⟩] fun a w O=>?_)
 refine za0<|wp_ret<|zae ?_ (zak rfl O (zm 1 rfl) zb2)
 exact (qm4 zo zo zo zo).va
theorem r10of_c {x:RE}(h:elF x=true):Cn Tryz.prog 94 [(REA x).va] ((QMA 4099 (elM x)).va):=by
 obtain ⟨hx,hk⟩:=zn3 h
 refine Cn.intro Tryz.func94 rfl zk nq (fun B w0 a O=>?_)
 have O:=zn [(0,(REA x).va)] [] O
 refine wp_seq<|zg [] [⟨1,64,ptrH,some 0,_,none⟩,⟨2,32,ptrH,some 1,_,none⟩] [.alc 0,.alc 1] [] O (oc (zan rfl rfl rfl (gq 0 rfl)) (oc (zaq rfl rfl rfl (Str.zero zar)) o0)) (zz [] [⟨1,64,ptrH,_⟩,⟨2,32,ptrH,_⟩] fun a w O=>?_)
 have O:=St.wkL O 0 rfl (el_q hx)
 refine zt<|wp_seq<|zg [none,none] [] [.adr 3 1 (.some 0) True,.val 4 _] [.o 1] O (oc (ob_a rfl rfl (za7 (lz0 0 rfl) zcw)) (zv rfl (za4 0 rfl zk trivial (lz0 0 rfl) (Sub.part 0 rfl rfl) zgu) o0)) (zz [(4,_)] [⟨1,64,ptrH,_⟩,⟨2,32,ptrH,_⟩] fun a w O=>?_)
 refine za0<|wp_block<|wp_seq<|zg [none,none] [] [.val 6 _,.val 5 _] [.g 0,.o 1] O (zv rfl (zc5 (gq 0 rfl) za3) (zv rfl (za1 (vq 0 rfl)) o0)) (zz [(4,_),(5,_)] [⟨1,64,ptrH,_⟩,⟨2,32,ptrH,_⟩] fun a w O=>?_)
 refine za0<|za9 O (zm 1 rfl) (fun hb0=>?_) (fun hb0=>?_)
 ·have hk1:x.k=1:=by simpa using hb0
  refine wp_seq<|zg [none,some (3,_)] [] [.adr 7 1 (.some 1) True,.val 8 _,.val 9 _,.sto 1] [] O (oc (ob_a rfl rfl (za7 (lz0 0 rfl) zcd)) (zv rfl (za4 0 rfl zk trivial (lz0 0 rfl) (Sub.part 1 rfl rfl) zad) (zv rfl (za5 (xs:=[.tmp 8]) (zkz zo) (.cons (vq 1 rfl) .nil)) (oc (zac rfl rfl rfl (vq 2 rfl) zb2 (Eq.trans (b:=16) rfl rfl)) o0)))) (zz [] [⟨1,64,ptrH,_⟩,⟨2,32,ptrH,_⟩] fun a w O=>?_)
  refine za0<|wp_ret<|zb7 ?_
  refine zah ?_
  refine zae ?_ (zak rfl O (zm 1 rfl) zb2)
  rw [elM_1 hk1]; exact (zlq zd).va
 ·have hk1:¬ x.k=1:=by simpa using hb0
  refine wp_seq<|zg [none,none] [] [.val 11 _,.val 10 _] [.g 0,.o 1] O (zv rfl (zc5 (gq 0 rfl) za3) (zv rfl (za1 (vq 0 rfl)) o0)) (zz [(4,_),(10,_)] [⟨1,64,ptrH,_⟩,⟨2,32,ptrH,_⟩] fun a w O=>?_)
  refine za0<|za9 O (zm 1 rfl) (fun hb1=>?_) (fun hb1=>?_)
  ·have hk2:x.k=2:=by simpa using hb1
   refine wp_seq<|zg [none,some (3,_)] [] [.adr 12 1 (.some 1) True,.val 13 _,.val 14 _,.sto 1] [] O (oc (ob_a rfl rfl (za7 (lz0 0 rfl) zcd)) (zv rfl (za4 0 rfl zk trivial (lz0 0 rfl) (Sub.part 1 rfl rfl) zad) (zv rfl (za5 (xs:=[.tmp 13]) (znz zo) (.cons (vq 1 rfl) .nil)) (oc (zac rfl rfl rfl (vq 2 rfl) zb2 (Eq.trans (b:=16) rfl rfl)) o0)))) (zz [] [⟨1,64,ptrH,_⟩,⟨2,32,ptrH,_⟩] fun a w O=>?_)
   refine za0<|wp_ret<|zb7 ?_
   refine zah ?_
   refine zae ?_ (zak rfl O (zm 1 rfl) zb2)
   rw [elM_2 hk2]; exact (zlq zd).va
  ·have hk2:¬ x.k=2:=by simpa using hb1
   refine wp_seq<|zg [none,none] [] [.val 16 _,.val 15 _] [.g 0,.o 1] O (zv rfl (zc5 (gq 0 rfl) za3) (zv rfl (za1 (vq 0 rfl)) o0)) (zz [(4,_),(15,_)] [⟨1,64,ptrH,_⟩,⟨2,32,ptrH,_⟩] fun a w O=>?_)
   refine za0<|za9 O (zm 1 rfl) (fun hb2=>?_) (fun hb2=>?_)
   ·have hk3:x.k=3:=by simpa using hb2
    refine wp_seq<|zg [none,some (6,_)] [] [.adr 17 1 (.some 1) True,.val 18 _,.adr 19 1 (.some 5) True,.val 20 _,.val 21 _,.val 22 _,.sto 1] [] O (oc (ob_a rfl rfl (za7 (lz0 0 rfl) zcd)) (zv rfl (za4 0 rfl zk trivial (lz0 0 rfl) (Sub.part 1 rfl rfl) zad) (oc (ob_a rfl rfl (za7 (lz0 0 rfl) zcg)) (zv rfl (za4 2 rfl zk trivial (lz0 0 rfl) (Sub.part 2 rfl rfl) zad) (zv rfl (za5 (xs:=[.tmp 18,.tmp 20]) (r2over_q zo (q3_nz hk hk3)) (.cons (vq 1 rfl) (.cons (vq 3 rfl) .nil))) (zv rfl (za5 (xs:=[.tmp 21]) (zkz zo) (.cons (vq 4 rfl) .nil)) (oc (zac rfl rfl rfl (vq 5 rfl) zb2 (Eq.trans (b:=16) rfl rfl)) o0))))))) (zz [] [⟨1,64,ptrH,_⟩,⟨2,32,ptrH,_⟩] fun a w O=>?_)
    refine za0<|wp_ret<|zb7 ?_
    refine zah ?_
    refine zae ?_ (zak rfl O (zm 1 rfl) zb2)
    rw [elM_3 hk3]; exact (zlq zd).va
   ·have hk3:¬ x.k=3:=by simpa using hb2
    refine wp_seq<|zg [none,none] [] [.val 24 _,.val 23 _] [.o 1] O (zv rfl (zc5 (gq 0 rfl) za3) (zv rfl (za1 (vq 0 rfl)) o0)) (zz [(23,_)] [⟨1,64,ptrH,_⟩,⟨2,32,ptrH,_⟩] fun a w O=>?_)
    refine za0<|za9 O (zm 0 rfl) (fun hb3=>?_) (fun hb3=>?_)
    ·have hk4:x.k=4:=by simpa using hb3
     refine wp_seq<|zg [none,some (6,_)] [] [.adr 25 1 (.some 1) True,.val 26 _,.adr 27 1 (.some 5) True,.val 28 _,.val 29 _,.val 30 _,.sto 1] [] O (oc (ob_a rfl rfl (za7 (lz0 0 rfl) zcd)) (zv rfl (za4 0 rfl zk trivial (lz0 0 rfl) (Sub.part 1 rfl rfl) zad) (oc (ob_a rfl rfl (za7 (lz0 0 rfl) zcg)) (zv rfl (za4 2 rfl zk trivial (lz0 0 rfl) (Sub.part 2 rfl rfl) zad) (zv rfl (za5 (xs:=[.tmp 26,.tmp 28]) (zjk zo) (.cons (vq 1 rfl) (.cons (vq 3 rfl) .nil))) (zv rfl (za5 (xs:=[.tmp 29]) (znz zo) (.cons (vq 4 rfl) .nil)) (oc (zac rfl rfl rfl (vq 5 rfl) zb2 (Eq.trans (b:=16) rfl rfl)) o0))))))) (zz [] [⟨1,64,ptrH,_⟩,⟨2,32,ptrH,_⟩] fun a w O=>?_)
     refine za0<|wp_ret<|zb7 ?_
     refine zah ?_
     refine zae ?_ (zak rfl O (zm 1 rfl) zb2)
     rw [elM_4 hk4]; exact (zlq zd).va
    ·have hk4:¬ x.k=4:=by simpa using hb3
     refine wp_skip<|zal ?_
     refine zt<|zg [none,some (2,_)] [] [.val 31 _,.val 32 _,.sto 1] [] O (zv rfl (za5 (xs:=[]) zvt .nil) (zv rfl (za5 (xs:=[.tmp 31]) (zpi (m:=⟨1,0,0,1⟩) zo) (.cons (vq 0 rfl) .nil)) (oc (zac rfl rfl rfl (vq 1 rfl) zb2 (Eq.trans (b:=16) rfl rfl)) o0))) (zz [] [⟨1,64,ptrH,_⟩,⟨2,32,ptrH,_⟩] fun a w O=>?_)
     refine za0<|wp_ret<|zae ?_ (zak rfl O (zm 1 rfl) zb2)
     rw [elM_5 hk1 hk2 hk3 hk4]; exact (zlq zd).va
set_option maxHeartbeats 1000000 in
theorem zny {xs:List RE}(h4:xs.length≤4096)(ha:xs.all elF=true):Cn Tryz.prog 22 [(SlA 64 [U32] (xs.map REA)).va] ((QMA 16781313 (prodQ xs)).va):=by
 refine Cn.intro Tryz.func22 rfl zk nq (fun B w0 a O=>?_)
 have O:=zn [(0,(SlA 64 [U32] (xs.map REA)).va)] [] O
 have hr:=zlr ha
 refine wp_seq<|zg [] [⟨2,32,ptrH,some 0,_,none⟩] [.alc 0] [.g 0] O (oc (zaq rfl rfl rfl (Str.zero zar)) o0) (zz [(0,_)] [⟨2,32,ptrH,_⟩] fun a w O=>?_)
 refine zt<|zg [none] [⟨3,32,ptrH,some 1,_,some (2,_)⟩] [.val 5 _,.alc 1,.sto 1] [.g 0] O (zv rfl (za5 (xs:=[]) zvt .nil) (oc (zaq rfl rfl rfl (Str.zero zar)) (oc (zac rfl rfl rfl (vq 0 rfl) zb2 (Eq.trans (b:=16) rfl rfl)) o0))) (zz [(0,_)] [⟨2,32,ptrH,_⟩,⟨3,32,ptrH,_⟩] fun a w O=>?_)
 refine zt<|wp_seq<|zg [none,none] [] [.val 4 _] [.g 0,.o 0] O (zv rfl (za1 za3) o0) (zz [(0,_),(4,_)] [⟨2,32,ptrH,_⟩,⟨3,32,ptrH,_⟩] fun a w O=>?_)
 refine za0<|wp_block ?_
 have O:=St.sel O [0,1]
 refine wp_loop_ghost (fun n a w=>∃ j:Nat,n+j=xs.length∧St B w0 20 [(0,(SlA 64 [U32] (xs.map REA)).va),(4,In (j:Nat))] [⟨2,32,ptrH,RMA rm0⟩,⟨3,32,ptrH,QMA (1+4097*j) (prodQ (xs.take j))⟩] a w) (xs.length) ?_ ?_
 ·exact ⟨0,by omega,St.wkL O 1 rfl (zr5 rep_1)⟩
 intro n a w hI
 obtain ⟨j,hn,O⟩:=hI
 refine wp_seq<|wp_seq<|zg [none,none] [] [.val 6 _,.val 7 _,.val 8 _,.val 9 _] [.g 0,.g 1,.o 3] O (zv rfl (za2 (gq 1 rfl)) (zv rfl (za2 (gq 0 rfl)) (zv rfl (zbq Tryz.underlying22 (vq 1 rfl)) (zv rfl (zb6 (vq 0 rfl) (vq 2 rfl)) o0)))) (zz [(0,_),(4,_),(9,_)] [⟨2,32,ptrH,_⟩,⟨3,32,ptrH,_⟩] fun a w O=>?_)
 refine za0<|za9 O (zm 2 rfl) (fun hb0=>?_) (fun hb0=>?_)
 ·have hj:j<xs.length:=by rw [List.length_map] at hb0; have:=of_decide_eq_true hb0; omega
  refine wp_skip<|zt<|wp_block<|zgd [[],[],[0,1],[0,1,2],[0,1,2,3],[],[0,1,2,3,4,5],[0,1,2,3,4,5,6]] [none,some (7,_)] [] [.val 12 _,.val 13 _,.val 14 _,.val 15 _,.val 16 _,.val 17 _,.val 18 _,.sto 1] [.g 0,.g 1] za6 O (zv rfl (za2 (gq 0 rfl)) (zv rfl (za2 (gq 1 rfl)) (zv rfl (zdv zgw (zie fun _=>rfl) (vq 0 rfl) (vq 1 rfl) (zfb hj)) (zv rfl (zaj (vq 2 rfl) zed) (zv rfl (za5 (xs:=[.tmp 15]) (r10of_c (List.all_eq_true.1 ha _ (List.getElem_mem hj))) (.cons (vq 3 rfl) .nil)) (zv rfl (zam (lz0 1 rfl) zb2) (zv rfl (za5 (xs:=[.tmp 16,.tmp 17]) (znw (c:=4099) (d:=1+4097*j) (m:=elM xs[j]) (q:=prodQ (xs.take j)) zo) (.cons (vq 4 rfl) (.cons (vq 5 rfl) .nil))) (oc (zac rfl rfl rfl (vq 6 rfl) zb2 (Eq.trans (b:=16) rfl rfl)) o0)))))))) zk zk zk zk (zz [(0,_),(4,_)] [⟨2,32,ptrH,_⟩,⟨3,32,ptrH,_⟩] fun a w O=>?_)
  refine zal ?_
  refine za0<|zg [none,none] [] [.val 10 _,.val 11 _,.val 4 _] [.g 0,.o 2] O (zv rfl (za2 (gq 1 rfl)) (zv rfl (zbb (vq 0 rfl) za3 ((wi64 zo zo).trans (by omega:(_:Int)=((j+1:Nat):Int)))) (zv rfl (za1 (vq 1 rfl)) o0))) (zz [(0,_),(4,_)] [⟨2,32,ptrH,_⟩,⟨3,32,ptrH,_⟩] fun a w O=>?_)
  refine za0 ?_
  have O:=St.sel O [0,1]
  have O:=St.wkL (A':=QMA (1+4097*(j+1)) (prodQ (xs.take (j+1)))) O 1 rfl ((zi4 (congrArg (QMA _) (zpj hj).symm)).trans (zr5 (hr (j+1) zo)))
  exact ⟨n-1,by omega,j+1,by omega,O⟩
 ·obtain rfl:j=xs.length:=by rw [List.length_map] at hb0; have:=of_decide_eq_false hb0; omega
  refine wp_exit<|za8<|za8<|zat<|zt<|zg [some (1,_),none] [] [.val 19 _,.sto 0] [] O (zv rfl (zam (lz0 1 rfl) zb2) (oc (zac rfl rfl rfl (vq 0 rfl) zb2 (Eq.trans (b:=16) rfl rfl)) o0)) (zz [] [⟨2,32,ptrH,_⟩,⟨3,32,ptrH,_⟩] fun a w O=>?_)
  refine za0<|wp_ret<|zae ?_ (zak rfl O (zm 0 rfl) zb2)
  rw [List.take_length]; exact (zlq zo).va
theorem zin {c:Nat}{x:Rat}(hc:c≤800000000):Cn Tryz.prog 172 [Qs c x] (Qs (c+2+1) x):=by
 refine Cn.intro Tryz.func172 rfl zk nq (fun B w0 a O=>?_)
 have O:=zn [(0,Qs c x)] [] O
 refine wp_seq<|zg [] [⟨1,30,ptrH,some 0,_,none⟩,⟨2,30,ptrH,some 1,_,none⟩] [.alc 0,.alc 1] [] O (oc (zan rfl rfl rfl (gq 0 rfl)) (oc (zaq rfl rfl rfl (Str.zero zb3)) o0)) (zz [] [⟨1,30,ptrH,_⟩,⟨2,30,ptrH,_⟩] fun a w O=>?_)
 refine zt<|zgd [[],[],[0,1],[0,1,2]] [none,some (3,_)] [] [.val 3 _,.val 4 _,.val 5 _,.sto 1] [] za6 O (zv rfl (zam (lz0 0 rfl) zad) (zv rfl (za5 (xs:=[]) zdk .nil) (zv rfl (za5 (xs:=[.tmp 3,.tmp 4]) (zir zo) (.cons (vq 0 rfl) (.cons (vq 1 rfl) .nil))) (oc (zac rfl rfl rfl (vq 2 rfl) zad (Eq.trans (b:=4) rfl rfl)) o0)))) zk zk zk zk (zz [] [⟨1,30,ptrH,_⟩,⟨2,30,ptrH,_⟩] fun a w O=>?_)
 refine za0<|wp_ret<|zae ?_ (zak rfl O (zm 1 rfl) zad)
 exact zbt (congrArg (Qs _) (Rat.add_zero x))
theorem zlp {c:Nat}{m:MQ}(hc:c≤800000000):Cn Tryz.prog 95 [(QMA c m).va] ((QMA (c+3) (mirQ m)).va):=by
 refine Cn.intro Tryz.func95 rfl zk nq (fun B w0 a O=>?_)
 have O:=zn [(0,(QMA c m).va)] [] O
 refine wp_seq<|zg [] [⟨1,32,ptrH,some 0,_,none⟩,⟨2,32,ptrH,some 1,_,none⟩] [.alc 0,.alc 1] [] O (oc (zan rfl rfl rfl (gq 0 rfl)) (oc (zaq rfl rfl rfl (Str.zero zar)) o0)) (zz [] [⟨1,32,ptrH,_⟩,⟨2,32,ptrH,_⟩] fun a w O=>?_)
 refine zt<|zgd [[],[0],[0,1],[],[3],[0,1,2,3,4],[],[6],[0,1,2,3,4,5,6,7],[],[9],[0,1,2,3,4,5,6,7,8,9,10],[0,1,2,3,4,5,6,7,8,9,10,11],[0,1,2,3,4,5,6,7,8,9,10,11,12]] [none,some (13,_)] [] [.adr 3 1 (.some 12) True,.val 4 _,.val 5 _,.adr 6 1 (.some 4) True,.val 7 _,.val 8 _,.adr 9 1 (.some 8) True,.val 10 _,.val 11 _,.adr 12 1 (.some 0) True,.val 13 _,.val 14 _,.val 15 _,.sto 1] [] za6 O (oc (ob_a rfl rfl (za7 (lz0 0 rfl) zc0)) (zv rfl (za4 0 rfl zk trivial (lz0 0 rfl) (Sub.part 3 rfl rfl) zad) (zv rfl (za5 (xs:=[.tmp 4]) (zin zo) (.cons (vq 1 rfl) .nil)) (oc (ob_a rfl rfl (za7 (lz0 0 rfl) zc1)) (zv rfl (za4 3 rfl zk trivial (lz0 0 rfl) (Sub.part 1 rfl rfl) zad) (zv rfl (za5 (xs:=[.tmp 7]) (zin zo) (.cons (vq 4 rfl) .nil)) (oc (ob_a rfl rfl (za7 (lz0 0 rfl) zbw)) (zv rfl (za4 6 rfl zk trivial (lz0 0 rfl) (Sub.part 2 rfl rfl) zad) (zv rfl (za5 (xs:=[.tmp 10]) (zin zo) (.cons (vq 7 rfl) .nil)) (oc (ob_a rfl rfl (za7 (lz0 0 rfl) zc2)) (zv rfl (za4 9 rfl zk trivial (lz0 0 rfl) (Sub.part 0 rfl rfl) zad) (zv rfl (za5 (xs:=[.tmp 13]) (zin zo) (.cons (vq 10 rfl) .nil)) (zv rfl (zb8 (xs:=[(0,.tmp 5),(1,.tmp 8),(2,.tmp 11),(3,.tmp 14)]) (qs:=[(0,_),(1,_),(2,_),(3,_)]) zar (.cons ⟨rfl,(vq 2 rfl),rfl⟩ (.cons ⟨rfl,(vq 5 rfl),rfl⟩ (.cons ⟨rfl,(vq 8 rfl),rfl⟩ (.cons ⟨rfl,(vq 11 rfl),rfl⟩ .nil))))) (oc (zac rfl rfl rfl (vq 12 rfl) zb2 (Eq.trans (b:=16) rfl rfl)) o0)))))))))))))) zk zk zk zk (zz [] [⟨1,32,ptrH,_⟩,⟨2,32,ptrH,_⟩] fun a w O=>?_)
 refine za0<|wp_ret<|zae ?_ (zak rfl O (zm 1 rfl) zb2)
 exact (qm4 zo zo zo zo).va
theorem ztb {c:Nat}{m:MQ}(hc:c≤80000000):Cn Tryz.prog 23 [(QMA c m).va] ((QMA (4*c+7) (mulQ (mirQ m) m)).va):=by
 refine Cn.intro Tryz.func23 rfl zk nq (fun B w0 a O=>?_)
 have O:=zn [(0,(QMA c m).va)] [] O
 refine wp_seq<|zg [] [⟨1,32,ptrH,some 0,_,none⟩,⟨2,32,ptrH,some 1,_,none⟩] [.alc 0,.alc 1] [] O (oc (zan rfl rfl rfl (gq 0 rfl)) (oc (zaq rfl rfl rfl (Str.zero zar)) o0)) (zz [] [⟨1,32,ptrH,_⟩,⟨2,32,ptrH,_⟩] fun a w O=>?_)
 refine zt<|zgd [[],[0],[],[0,1,2],[0,1,2,3]] [none,some (4,_)] [] [.val 3 _,.val 4 _,.val 5 _,.val 6 _,.sto 1] [] za6 O (zv rfl (zam (lz0 0 rfl) zb2) (zv rfl (za5 (xs:=[.tmp 3]) (zlp (m:=m) zo) (.cons (vq 0 rfl) .nil)) (zv rfl (zam (lz0 0 rfl) zb2) (zv rfl (za5 (xs:=[.tmp 4,.tmp 5]) (znw (m:=mirQ m) (q:=m) zo) (.cons (vq 1 rfl) (.cons (vq 2 rfl) .nil))) (oc (zac rfl rfl rfl (vq 3 rfl) zb2 (Eq.trans (b:=16) rfl rfl)) o0))))) zk zk zk zk (zz [] [⟨1,32,ptrH,_⟩,⟨2,32,ptrH,_⟩] fun a w O=>?_)
 refine za0<|wp_ret<|zae ?_ (zak rfl O (zm 1 rfl) zb2)
 exact (zlq zo).va
theorem znx (xs:List RE)(ring:Bool):Cn Tryz.prog 8 [(SlA 64 [U32] (xs.map REA)).va,Bo ring] (MR (tripF xs ring)):=by
 refine Cn.intro Tryz.func8 rfl zk nq (fun B w0 a O=>?_)
 have O:=zn [(0,(SlA 64 [U32] (xs.map REA)).va),(1,Bo ring)] [] O
 refine wp_seq<|zg [] [⟨4,32,ptrH,some 0,_,none⟩] [.alc 0,.val 5 _] [.g 0,.g 1,.o 1] O (oc (zaq rfl rfl rfl (Str.zero zar)) (zv rfl (za1 za3) o0)) (zz [(0,_),(1,_),(5,_)] [⟨4,32,ptrH,_⟩] fun a w O=>?_)
 refine zt<|zg [none] [] [.val 8 _,.val 9 _,.val 6 _] [.g 0,.g 1,.g 2,.o 2] O (zv rfl (za2 (gq 0 rfl)) (zv rfl (za5 (xs:=[.tmp 8]) (ztc xs) (.cons (vq 0 rfl) .nil)) (zv rfl (za1 (vq 1 rfl)) o0))) (zz [(0,_),(1,_),(5,_),(6,_)] [⟨4,32,ptrH,_⟩] fun a w O=>?_)
 refine zt<|wp_seq<|zg [none] [] [.val 10 _,.val 11 _] [.g 0,.g 1,.g 2,.g 3,.o 1] O (zv rfl (za2 (gq 3 rfl)) (zv rfl (zd9 (vq 0 rfl) za3) o0)) (zz [(0,_),(1,_),(5,_),(6,_),(11,_)] [⟨4,32,ptrH,_⟩] fun a w O=>?_)
 refine za0<|za9 O (zm 4 rfl) (fun hb0=>?_) (fun hb0=>?_)
 ·have hc:¬ chF xs=0:=by simpa using hb0
  refine wp_seq<|zg [some (2,_)] [] [.val 12 _,.val 13 _,.sto 0,.val 5 _] [.g 0,.g 1,.o 3] O (zv rfl (zb8 (xs:=[]) (qs:=[]) zar .nil) (zv rfl (za2 (gq 3 rfl)) (oc (zac rfl rfl rfl (vq 0 rfl) zb2 (Eq.trans (b:=16) rfl rfl)) (zv rfl (za1 (vq 1 rfl)) o0)))) (zz [(0,_),(1,_),(5,_)] [⟨4,32,ptrH,_⟩] fun a w O=>?_)
  refine za0<|wp_ret<|zah ?_
  refine zae ?_ (zb1 (rs:=[.cell 4 32,.tmp 5]) rfl O (.cell (zm 0 rfl) zb2 (.tmp (zm 2 rfl) .nil)) zd)
  rw [tripF,if_neg hc]; exact zbi
 ·have hc:chF xs=0:=by simpa using hb0
  have hk:=ch_ok hc
  refine wp_skip<|zt<|zg [none] [⟨7,32,ptrH,some 2,_,some (3,_)⟩] [.val 14 _,.val 15 _,.alc 1,.sto 1] [.g 1,.g 2] O (zv rfl (za2 (gq 0 rfl)) (zv rfl (za5 (xs:=[.tmp 14]) (zny hk.1 hk.2) (.cons (vq 0 rfl) .nil)) (oc (zaq rfl rfl rfl (Str.zero zar)) (oc (zac rfl rfl rfl (vq 1 rfl) zb2 (Eq.trans (b:=16) rfl rfl)) o0)))) (zz [(1,_),(5,_)] [⟨4,32,ptrH,_⟩,⟨7,32,ptrH,_⟩] fun a w O=>?_)
  refine zt<|wp_seq<|zg [none,none] [] [.val 16 _,.val 17 _] [.g 1,.o 1] O (zv rfl (za2 (gq 0 rfl)) (zv rfl (zep (vq 0 rfl)) o0)) (zz [(5,_),(17,_)] [⟨4,32,ptrH,_⟩,⟨7,32,ptrH,_⟩] fun a w O=>?_)
  refine za0<|zcn (fun a w =>  St B w0 24 [] [⟨4,32,ptrH,RMA rm0⟩,⟨7,32,ptrH,QMA 67125259 (tripQ ring (prodQ xs))⟩] a w) O (zm 1 rfl) (fun hb1=>?_) (fun hb1=>?_) (fun a w O=>?_)
  ·refine zg [none,some (2,_)] [] [.val 18 _,.val 19 _,.sto 1] [.g 0] O (zv rfl (zam (lz0 1 rfl) zb2) (zv rfl (za5 (xs:=[.tmp 18]) (ztb (m:=prodQ xs) zo) (.cons (vq 0 rfl) .nil)) (oc (zac rfl rfl rfl (vq 1 rfl) zb2 (Eq.trans (b:=16) rfl rfl)) o0))) (zz [(5,_)] [⟨4,32,ptrH,_⟩,⟨7,32,ptrH,_⟩] fun a w O=>?_)
   refine za0 ?_
   have O:=St.sel O []
   have er:ring=false:=by simpa using hb1
   have O:=St.wkL (A':=QMA 67125259 (tripQ ring (prodQ xs))) O 1 rfl (by rw [er]; exact zlq (m:=mulQ (mirQ (prodQ xs)) (prodQ xs)) (Nat.le_of_ble_eq_true rfl))
   exact O
  ·refine wp_skip<|za0 ?_
   have O:=St.sel O []
   have er:ring=true:=by simpa using hb1
   subst er
   exact St.wkL O 1 rfl (zlq zo)
  refine zt<|zg [some (4,_),none] [] [.val 20 _,.val 21 _,.val 22 _,.val 23 _,.sto 0,.val 5 _] [.o 5] O (zv rfl (zam (lz0 1 rfl) zb2) (zv rfl (za5 (xs:=[.tmp 20]) (zt5 (m:=tripQ ring (prodQ xs)) zd) (.cons (vq 0 rfl) .nil)) (zv rfl (zfe (vq 1 rfl)) (zv rfl (zfd (vq 1 rfl)) (oc (zac rfl rfl rfl (vq 2 rfl) zb2 (Eq.trans (b:=16) rfl rfl)) (zv rfl (za1 (vq 3 rfl)) o0)))))) (zz [(5,_)] [⟨4,32,ptrH,_⟩,⟨7,32,ptrH,_⟩] fun a w O=>?_)
  refine za0<|wp_ret<|zae ?_ (zb1 (rs:=[.cell 4 32,.tmp 5]) rfl O (.cell (zm 0 rfl) zb2 (.tmp (zm 0 rfl) .nil)) zd)
  rw [tripF,if_pos hc]; exact zbi
end Go.Proofs.YtndjeibbjjpkfaaGreatDoor
