import Derived.Test.YthdbhckhignfcaaGreatDoorBxAa
import Derived.Test.YthdbhckhignfcaaGreatDoorBxAc
import Derived.Test.YthdbhckhignfcaaGreatDoorBxAl
import Derived.Test.YthdbhckhignfcaaGreatDoorBxAn
import Derived.Test.YthdbhckhignfcaaGreatDoorBxBa
import Derived.Test.YthdbhckhignfcaaGreatDoorBxBb
import Derived.Test.YthdbhckhignfcaaGreatDoorBxBe
import Derived.Test.YthdbhckhignfcaaGreatDoorBxBf
import Derived.Laws.AppendOwn
import Derived.Laws.OwnMore
import Derived.Orders
set_option linter.unusedVariables false
set_option linter.unusedSimpArgs false
set_option linter.unusedSectionVars false
set_option maxRecDepth 100000
namespace Go.Proofs.YthdbhckhignfcaaGreatDoor
open Go Go.RowKit
theorem big_e {x:RI}:decide ((x.mag.length:Int)>2048)=bigI x:=by unfold bigI; simp
theorem lq_e {q:Rat}:(bigI (riOf q.num) || bigI (riOf (q.den:Int)))=longQ q:=by simp [longQ]
theorem zrl (x:RI):Cn Tryz.prog 115 [(RIA x).va] (Bo (bigI x)):=by
 refine Cn.intro Tryz.func115 rfl zk nq (fun B w0 a O=>?_)
 have O:=zn [(0,(RIA x).va)] [] O
 refine wp_seq<|zg [] [⟨1,25,ptrH,some 0,_,none⟩] [.alc 0,.v 2 _] [.o 1] O (oc (zam rfl rfl rfl (gq 0 rfl)) (zv rfl (za2 zav) o0)) (zz [(2,_)] [⟨1,25,ptrH,_⟩] fun a w O=>?_)
 refine zt<|zg [none] [] [.adr 3 1 (.some 1) True,.v 4 _,.v 5 _,.v 6 _,.v 2 _] [.o 4] O (oc (ob_a rfl rfl (za9 (lz0 0 rfl) zah)) (zv rfl (za4 0 rfl zk trivial (lz0 0 rfl) (Sub.part 1 rfl rfl) zb9) (zv rfl (zax Tryz.underlying23 (vq 1 rfl)) (zv rfl (zev (vq 2 rfl) za3) (zv rfl (za2 (vq 3 rfl)) o0))))) (zz [(2,_)] [⟨1,25,ptrH,_⟩] fun a w O=>?_)
 refine za0<|wp_ret<|zai ?_ (zaf rfl O (zm 0 rfl))
 exact zbt (congrArg Bo big_e)
theorem r2long_q {L:List As}(qs:List Rat)(hL:All2 IsQ L qs)(hl:qs.length≤1099511627776):Cn Tryz.prog 31 [(SlA 27 [U32] L).va] (Bo (qs.any longQ)):=by
 have hLl:=hL.length
 refine Cn.introW Tryz.func31 rfl zk nq (.cons (zpl (isq_up hL)).va .nil) (zes _).va (fun B w0 a hB0 O=>?_)
 have O:=zn [(0,(SlO 27 [U32] L True).va)] [] O
 refine wp_seq<|zh [.v 2 _] [.g 0,.o 0] O (zv rfl (za2 zav) o0) (zz [(0,_),(2,_)] [] fun a w O=>?_)
 refine zt<|wp_seq<|zh [.v 3 _] [.g 0,.g 1,.o 0] O (zv rfl (za2 za3) o0) (zz [(0,_),(2,_),(3,_)] [] fun a w O=>?_)
 refine za0<|wp_block ?_
 have O:=St.sel O [0,2]
 refine wp_loop_ghost (fun n a w=>∃ j:Nat,(n+j=qs.length∧(qs.take j).any longQ=false)∧St B w0 24 [(0,(SlO 27 [U32] L True).va),(3,In (j:Nat))] [] a w) (qs.length) ?_ ?_
 ·exact ⟨0,⟨by omega,rfl⟩,O⟩
 intro n a w hI
 obtain ⟨j,⟨hn,hno⟩,O⟩:=hI
 refine wp_seq<|wp_seq<|zh [.v 4 _,.v 5 _,.v 6 _,.v 7 _] [.g 0,.g 1,.o 3] O (zv rfl (za1 (gq 1 rfl)) (zv rfl (za1 (gq 0 rfl)) (zv rfl (zbk Tryz.underlying75 (zd7 (zaz (vq 1 rfl)))) (zv rfl (zb1 (vq 0 rfl) (vq 2 rfl)) o0)))) (zz [(0,_),(3,_),(7,_)] [] fun a w O=>?_)
 refine za0<|za8 O (zm 2 rfl) (fun hb0=>?_) (fun hb0=>?_)
 ·have hj:j<qs.length:=by rw [hLl] at hb0; simp at hb0; omega
  obtain ⟨kj,hLj⟩:=isq_at hL hj
  refine wp_skip<|zt<|wp_block<|wp_seq<|zh [.v 10 _,.v 11 _,.v 12 _,.v 13 _,.v 14 _,.v 15 _,.v 16 _,.v 17 (Wh (_=false) _),.v 18 (Wh (_=false) _),.v 19 (Wh (_=false) _),.v 20 (Wh (_=false) _),.v 21 (Wh (_=false) _),.v 22 (Wh (_=false) _),.v 23 _] [.g 0,.g 1,.o 13] O (zv rfl (za1 (gq 0 rfl)) (zv rfl (za1 (gq 1 rfl)) (zv rfl (zd0 zk1 (isq_n hL) (zd7 (zaz (vq 0 rfl))) (vq 1 rfl) hLj) (zv rfl (zay (vq 2 rfl) zbf (Sub.part 0 rfl rfl)) (zv rfl (zad (vq 3 rfl) zac) (zv rfl (za5 (xs:=[.tmp 14]) ((zrl (riOf (qs[j]).num)).wk (.cons zaA.va .nil)) (.cons (vq 4 rfl) .nil)) (zv rfl (za1 (vq 5 rfl)) (oc (zan rfl rfl rfl (vq 6 rfl) nq (fun hg=>za1 (gq 0 rfl))) (oc (zan rfl rfl rfl (vq 6 rfl) nq (fun hg=>za1 (gq 1 rfl))) (oc (zan rfl rfl rfl (vq 6 rfl) nq (fun hg=>zd0 zk1 (isq_n hL) (zd7 (zaz (zab (vq 7 rfl) hg))) (zab (vq 8 rfl) hg) hLj)) (oc (zan rfl rfl rfl (vq 6 rfl) nq (fun hg=>zay (zab (vq 9 rfl) hg) zbb (Sub.part 1 rfl rfl))) (oc (zan rfl rfl rfl (vq 6 rfl) nq (fun hg=>zad (zab (vq 10 rfl) hg) zac)) (oc (zan rfl rfl rfl (vq 6 rfl) nq (fun hg=>za5 (xs:=[.tmp 21]) ((zrl (riOf ((qs[j]).den:Int))).wk (.cons zaA.va .nil)) (.cons (zab (vq 11 rfl) hg) .nil))) (zv rfl (r_or (vq 6 rfl) (vq 12 rfl)) o0)))))))))))))) (zz [(0,_),(3,_),(23,_)] [] fun a w O=>?_)
  refine za0<|za8 O (zm 2 rfl) (fun hb1=>?_) (fun hb1=>?_)
  ·rw [lq_e] at hb1
   refine wp_seq<|zh [.v 2 _] [.g 0,.g 1,.o 0] O (zv rfl (za2 zav) o0) (zz [(0,_),(3,_),(2,_)] [] fun a w O=>?_)
   refine za0<|wp_ret<|zba ?_
   refine zag ?_
   refine zag ?_
   refine zba ?_
   refine zag ?_
   refine zao ?_ (zaf rfl O (zm 2 rfl))
   rw [← zxe hj hb1]
  ·rw [lq_e] at hb1
   refine wp_skip<|zae ?_
   refine za0<|zh [.v 8 _,.v 9 _,.v 3 _] [.g 0,.o 2] O (zv rfl (za1 (gq 1 rfl)) (zv rfl (zb5 (vq 0 rfl) za3 (zb3 zo)) (zv rfl (za2 (vq 1 rfl)) o0))) (zz [(0,_),(3,_)] [] fun a w O=>?_)
   refine za0 ?_
   have O:=St.sel O [0,1]
   exact ⟨n-1,by omega,j+1,⟨by omega,lq_no hj hno hb1⟩,O⟩
 ·obtain rfl:j=qs.length:=by rw [hLl] at hb0; simp at hb0; omega
  refine wp_exit<|za7<|za7<|zap<|zt<|zh [.v 2 _] [.o 0] O (zv rfl (za2 zav) o0) (zz [(2,_)] [] fun a w O=>?_)
  refine za0<|wp_ret<|zao ?_ (zaf rfl O (zm 0 rfl))
  rw [List.take_length] at hno; rw [hno]
end Go.Proofs.YthdbhckhignfcaaGreatDoor
namespace Go.Proofs.YthdbhckhignfcaaGreatDoor
open Go Go.RowKit
theorem qm4 {c1 c2 c3 c4 k:Nat}{x y z u:Rat}(h1:c1≤k)(h2:c2≤k)(h3:c3≤k)(h4:c4≤k):WkA (cat [QA c1 x,QA c2 y,QA c3 z,QA c4 u]) (QMA k ⟨x,y,z,u⟩):=zc1 (.cons (zbp h1) (.cons (zbp h2) (.cons (zbp h3) (.cons (zbp h4) .nil))))
theorem zwi {k k':Nat}{m:MQ}(h:k≤k'):WkA (QMA k m) (QMA k' m):=zc1 (.cons (zbp h) (.cons (zbp h) (.cons (zbp h) (.cons (zbp h) .nil))))
theorem elM_1 {x:RE}(h:x.k=1):elM x=⟨1,toQ x.p,0,1⟩:=by unfold elM; rw [h]; rfl
theorem elM_2 {x:RE}(h:x.k=2):elM x=⟨1,0,0-toQ x.p,1⟩:=by unfold elM; rw [h]; rfl
theorem elM_3 {x:RE}(h:x.k=3):elM x=⟨1,toQ x.p/toQ x.q,0,1⟩:=by unfold elM; rw [h]; rfl
theorem elM_4 {x:RE}(h:x.k=4):elM x=⟨1,0,0-toQ x.p*toQ x.q,1⟩:=by unfold elM; rw [h]; rfl
theorem elM_5 {x:RE}(h1:¬ x.k=1)(h2:¬ x.k=2)(h3:¬ x.k=3)(h4:¬ x.k=4):elM x=⟨0-1,0-0,0-0,0-1⟩:=by unfold elM elQ; rw [if_neg h1,if_neg h2,if_neg h3,if_neg h4]
theorem q3_nz {x:RE}(hk:x.k=1∨x.k=2∨(x.k=3∧toQ x.q≠0)∨x.k=4∨x.k=5)(h:x.k=3):toQ x.q≠0:=by
 rcases hk with e | e | ⟨_,e⟩ | e | e
 ·omega
 ·omega
 ·exact e
 ·omega
 ·omega
theorem zrk {c d e f:Nat}{x y z u:Rat}(hk:c+d+e+f≤900000000):Cn Tryz.prog 108 [Qs c x,Qs d y,Qs e z,Qs f u] (Qs (c+d+(e+f)+1) (x*y+z*u)):=by
 refine Cn.intro Tryz.func108 rfl zk nq (fun B w0 a O=>?_)
 have O:=zn [(0,Qs c x),(1,Qs d y),(2,Qs e z),(3,Qs f u)] [] O
 refine wp_seq<|zg [] [⟨4,27,ptrH,some 0,_,none⟩,⟨5,27,ptrH,some 1,_,none⟩,⟨6,27,ptrH,some 2,_,none⟩,⟨7,27,ptrH,some 3,_,none⟩,⟨8,27,ptrH,some 4,_,none⟩] [.alc 0,.alc 1,.alc 2,.alc 3,.alc 4] [] O (oc (zam rfl rfl rfl (gq 0 rfl)) (oc (zam rfl rfl rfl (gq 1 rfl)) (oc (zam rfl rfl rfl (gq 2 rfl)) (oc (zam rfl rfl rfl (gq 3 rfl)) (oc (zas rfl rfl rfl (Str.zero zbe)) o0))))) (zz [] [⟨4,27,ptrH,_⟩,⟨5,27,ptrH,_⟩,⟨6,27,ptrH,_⟩,⟨7,27,ptrH,_⟩,⟨8,27,ptrH,_⟩] fun a w O=>?_)
 refine zt<|zgd [[],[],[0,1],[],[],[0,1,2,3,4],[0,1,2,3,4,5],[0,1,2,3,4,5,6]] [none,none,none,none,some (7,_)] [] [.v 9 _,.v 10 _,.v 11 _,.v 12 _,.v 13 _,.v 14 _,.v 15 _,.sto 4] [] za6 O (zv rfl (zaq (lz0 0 rfl) zar) (zv rfl (zaq (lz0 1 rfl) zar) (zv rfl (za5 (xs:=[.tmp 9,.tmp 10]) (zk5 zo) (.cons (vq 0 rfl) (.cons (vq 1 rfl) .nil))) (zv rfl (zaq (lz0 2 rfl) zar) (zv rfl (zaq (lz0 3 rfl) zar) (zv rfl (za5 (xs:=[.tmp 12,.tmp 13]) (zk5 zo) (.cons (vq 3 rfl) (.cons (vq 4 rfl) .nil))) (zv rfl (za5 (xs:=[.tmp 11,.tmp 14]) (zml zo) (.cons (vq 2 rfl) (.cons (vq 5 rfl) .nil))) (oc (zak rfl rfl rfl (vq 6 rfl) zar (Eq.trans (b:=4) rfl rfl)) o0)))))))) zk zk zk zk (zz [] [⟨4,27,ptrH,_⟩,⟨5,27,ptrH,_⟩,⟨6,27,ptrH,_⟩,⟨7,27,ptrH,_⟩,⟨8,27,ptrH,_⟩] fun a w O=>?_)
 refine za0<|wp_ret<|zai ?_ (zaj rfl O (zm 4 rfl) zar)
 exact zbn
theorem r10own_q {c:Nat}{x:Rat}(hc:c≤800000000):Cn Tryz.prog 172 [Qs c x] (Qs (c+2+1) x):=by
 refine Cn.intro Tryz.func172 rfl zk nq (fun B w0 a O=>?_)
 have O:=zn [(0,Qs c x)] [] O
 refine wp_seq<|zg [] [⟨1,27,ptrH,some 0,_,none⟩,⟨2,27,ptrH,some 1,_,none⟩] [.alc 0,.alc 1] [] O (oc (zam rfl rfl rfl (gq 0 rfl)) (oc (zas rfl rfl rfl (Str.zero zbe)) o0)) (zz [] [⟨1,27,ptrH,_⟩,⟨2,27,ptrH,_⟩] fun a w O=>?_)
 refine zt<|zgd [[],[],[0,1],[0,1,2]] [none,some (3,_)] [] [.v 3 _,.v 4 _,.v 5 _,.sto 1] [] za6 O (zv rfl (zaq (lz0 0 rfl) zar) (zv rfl (za5 (xs:=[]) ze5 .nil) (zv rfl (za5 (xs:=[.tmp 3,.tmp 4]) (zml zo) (.cons (vq 0 rfl) (.cons (vq 1 rfl) .nil))) (oc (zak rfl rfl rfl (vq 2 rfl) zar (Eq.trans (b:=4) rfl rfl)) o0)))) zk zk zk zk (zz [] [⟨1,27,ptrH,_⟩,⟨2,27,ptrH,_⟩] fun a w O=>?_)
 refine za0<|wp_ret<|zai ?_ (zaj rfl O (zm 1 rfl) zar)
 exact zbt (congrArg (Qs _) (Rat.add_zero x))
theorem zfz {c:Nat}{x:Rat}(hc:c≤800000000):Cn Tryz.prog 174 [Qs c x] (Qs (2+c+1) (0-x)):=by
 refine Cn.intro Tryz.func174 rfl zk nq (fun B w0 a O=>?_)
 have O:=zn [(0,Qs c x)] [] O
 refine wp_seq<|zg [] [⟨1,27,ptrH,some 0,_,none⟩,⟨2,27,ptrH,some 1,_,none⟩] [.alc 0,.alc 1] [] O (oc (zam rfl rfl rfl (gq 0 rfl)) (oc (zas rfl rfl rfl (Str.zero zbe)) o0)) (zz [] [⟨1,27,ptrH,_⟩,⟨2,27,ptrH,_⟩] fun a w O=>?_)
 refine zt<|zgd [[],[],[0,1],[0,1,2]] [none,some (3,_)] [] [.v 3 _,.v 4 _,.v 5 _,.sto 1] [] za6 O (zv rfl (za5 (xs:=[]) ze5 .nil) (zv rfl (zaq (lz0 0 rfl) zar) (zv rfl (za5 (xs:=[.tmp 3,.tmp 4]) (zwg zo) (.cons (vq 0 rfl) (.cons (vq 1 rfl) .nil))) (oc (zak rfl rfl rfl (vq 2 rfl) zar (Eq.trans (b:=4) rfl rfl)) o0)))) zk zk zk zk (zz [] [⟨1,27,ptrH,_⟩,⟨2,27,ptrH,_⟩] fun a w O=>?_)
 refine za0<|wp_ret<|zai ?_ (zaj rfl O (zm 1 rfl) zar)
 exact zbn
theorem zk7 {c d e f:Nat}{x y z u:Rat}:Cn Tryz.prog 170 [Qs c x,Qs d y,Qs e z,Qs f u] ((cat [QA c x,QA d y,QA e z,QA f u]).va):=by
 refine Cn.intro Tryz.func170 rfl zk nq (fun B w0 a O=>?_)
 have O:=zn [(0,Qs c x),(1,Qs d y),(2,Qs e z),(3,Qs f u)] [] O
 refine wp_seq<|zg [] [⟨4,27,ptrH,some 0,_,none⟩,⟨5,27,ptrH,some 1,_,none⟩,⟨6,27,ptrH,some 2,_,none⟩,⟨7,27,ptrH,some 3,_,none⟩,⟨8,78,ptrH,some 4,_,none⟩] [.alc 0,.alc 1,.alc 2,.alc 3,.alc 4] [] O (oc (zam rfl rfl rfl (gq 0 rfl)) (oc (zam rfl rfl rfl (gq 1 rfl)) (oc (zam rfl rfl rfl (gq 2 rfl)) (oc (zam rfl rfl rfl (gq 3 rfl)) (oc (zas rfl rfl rfl (Str.zero zbj)) o0))))) (zz [] [⟨4,27,ptrH,_⟩,⟨5,27,ptrH,_⟩,⟨6,27,ptrH,_⟩,⟨7,27,ptrH,_⟩,⟨8,78,ptrH,_⟩] fun a w O=>?_)
 refine zt<|zg [none,none,none,none,some (5,_)] [] [.v 9 _,.v 10 _,.v 11 _,.v 12 _,.v 13 _,.sto 4] [] O (zv rfl (zaq (lz0 0 rfl) zar) (zv rfl (zaq (lz0 1 rfl) zar) (zv rfl (zaq (lz0 2 rfl) zar) (zv rfl (zaq (lz0 3 rfl) zar) (zv rfl (zbg (xs:=[(0,.tmp 9),(1,.tmp 10),(2,.tmp 11),(3,.tmp 12)]) (qs:=[(0,_),(1,_),(2,_),(3,_)]) zbj (.cons ⟨rfl,(vq 0 rfl),rfl⟩ (.cons ⟨rfl,(vq 1 rfl),rfl⟩ (.cons ⟨rfl,(vq 2 rfl),rfl⟩ (.cons ⟨rfl,(vq 3 rfl),rfl⟩ .nil))))) (oc (zak rfl rfl rfl (vq 4 rfl) zcb (Eq.trans (b:=16) rfl rfl)) o0)))))) (zz [] [⟨4,27,ptrH,_⟩,⟨5,27,ptrH,_⟩,⟨6,27,ptrH,_⟩,⟨7,27,ptrH,_⟩,⟨8,78,ptrH,_⟩] fun a w O=>?_)
 refine za0<|wp_ret<|zai ?_ (zaj rfl O (zm 4 rfl) zcb)
 exact zbn
theorem zlu {c:Nat}{x:Rat}(hc:c≤800000000):Cn Tryz.prog 109 [Qs c x] ((QMA (c+3) ⟨1,x,0,1⟩).va):=by
 refine Cn.intro Tryz.func109 rfl zk nq (fun B w0 a O=>?_)
 have O:=zn [(0,Qs c x)] [] O
 refine wp_seq<|zg [] [⟨1,27,ptrH,some 0,_,none⟩,⟨2,78,ptrH,some 1,_,none⟩] [.alc 0,.alc 1] [] O (oc (zam rfl rfl rfl (gq 0 rfl)) (oc (zas rfl rfl rfl (Str.zero zbj)) o0)) (zz [] [⟨1,27,ptrH,_⟩,⟨2,78,ptrH,_⟩] fun a w O=>?_)
 refine zt<|zgd [[],[],[0,1],[0,1,2],[0,1,2,3],[0,1,2,3,4],[0,1,2,3,4,5]] [none,some (6,_)] [] [.v 3 _,.v 4 _,.v 5 _,.v 6 _,.v 7 _,.v 8 _,.sto 1] [] za6 O (zv rfl (za5 (xs:=[]) zig .nil) (zv rfl (zaq (lz0 0 rfl) zar) (zv rfl (za5 (xs:=[.tmp 4]) (r10own_q zo) (.cons (vq 1 rfl) .nil)) (zv rfl (za5 (xs:=[]) ze5 .nil) (zv rfl (za5 (xs:=[]) zig .nil) (zv rfl (za5 (xs:=[.tmp 3,.tmp 5,.tmp 6,.tmp 7]) zk7 (.cons (vq 0 rfl) (.cons (vq 2 rfl) (.cons (vq 3 rfl) (.cons (vq 4 rfl) .nil))))) (oc (zak rfl rfl rfl (vq 5 rfl) zcb (Eq.trans (b:=16) rfl rfl)) o0))))))) zk zk zk zk (zz [] [⟨1,27,ptrH,_⟩,⟨2,78,ptrH,_⟩] fun a w O=>?_)
 refine za0<|wp_ret<|zai ?_ (zaj rfl O (zm 1 rfl) zcb)
 exact (qm4 zo zo zo zo).va
theorem zom {c:Nat}{x:Rat}(hc:c≤800000000):Cn Tryz.prog 110 [Qs c x] ((QMA (c+3) ⟨1,0,0-x,1⟩).va):=by
 refine Cn.intro Tryz.func110 rfl zk nq (fun B w0 a O=>?_)
 have O:=zn [(0,Qs c x)] [] O
 refine wp_seq<|zg [] [⟨1,27,ptrH,some 0,_,none⟩,⟨2,78,ptrH,some 1,_,none⟩] [.alc 0,.alc 1] [] O (oc (zam rfl rfl rfl (gq 0 rfl)) (oc (zas rfl rfl rfl (Str.zero zbj)) o0)) (zz [] [⟨1,27,ptrH,_⟩,⟨2,78,ptrH,_⟩] fun a w O=>?_)
 refine zt<|zgd [[],[0],[],[0,1,2],[0,1,2,3],[0,1,2,3,4],[0,1,2,3,4,5]] [none,some (6,_)] [] [.v 3 _,.v 4 _,.v 5 _,.v 6 _,.v 7 _,.v 8 _,.sto 1] [] za6 O (zv rfl (za5 (xs:=[]) zig .nil) (zv rfl (za5 (xs:=[]) ze5 .nil) (zv rfl (zaq (lz0 0 rfl) zar) (zv rfl (za5 (xs:=[.tmp 5]) (zfz zo) (.cons (vq 2 rfl) .nil)) (zv rfl (za5 (xs:=[]) zig .nil) (zv rfl (za5 (xs:=[.tmp 3,.tmp 4,.tmp 6,.tmp 7]) zk7 (.cons (vq 0 rfl) (.cons (vq 1 rfl) (.cons (vq 3 rfl) (.cons (vq 4 rfl) .nil))))) (oc (zak rfl rfl rfl (vq 5 rfl) zcb (Eq.trans (b:=16) rfl rfl)) o0))))))) zk zk zk zk (zz [] [⟨1,27,ptrH,_⟩,⟨2,78,ptrH,_⟩] fun a w O=>?_)
 refine za0<|wp_ret<|zai ?_ (zaj rfl O (zm 1 rfl) zcb)
 exact (qm4 zo zo zo zo).va
theorem zpy {c:Nat}{m:MQ}(hc:c≤800000000):Cn Tryz.prog 113 [(QMA c m).va] ((QMA (c+3) ⟨0-m.a,0-m.b,0-m.c,0-m.d⟩).va):=by
 refine Cn.intro Tryz.func113 rfl zk nq (fun B w0 a O=>?_)
 have O:=zn [(0,(QMA c m).va)] [] O
 refine wp_seq<|zg [] [⟨1,78,ptrH,some 0,_,none⟩,⟨2,78,ptrH,some 1,_,none⟩] [.alc 0,.alc 1] [] O (oc (zam rfl rfl rfl (gq 0 rfl)) (oc (zas rfl rfl rfl (Str.zero zbj)) o0)) (zz [] [⟨1,78,ptrH,_⟩,⟨2,78,ptrH,_⟩] fun a w O=>?_)
 refine zt<|zgd [[],[0],[0,1],[],[3],[0,1,2,3,4],[],[6],[0,1,2,3,4,5,6,7],[],[9],[0,1,2,3,4,5,6,7,8,9,10],[0,1,2,3,4,5,6,7,8,9,10,11],[0,1,2,3,4,5,6,7,8,9,10,11,12]] [none,some (13,_)] [] [.adr 3 1 (.some 0) True,.v 4 _,.v 5 _,.adr 6 1 (.some 4) True,.v 7 _,.v 8 _,.adr 9 1 (.some 8) True,.v 10 _,.v 11 _,.adr 12 1 (.some 12) True,.v 13 _,.v 14 _,.v 15 _,.sto 1] [] za6 O (oc (ob_a rfl rfl (za9 (lz0 0 rfl) zjq)) (zv rfl (za4 0 rfl zk trivial (lz0 0 rfl) (Sub.part 0 rfl rfl) zar) (zv rfl (za5 (xs:=[.tmp 4]) (zfz zo) (.cons (vq 1 rfl) .nil)) (oc (ob_a rfl rfl (za9 (lz0 0 rfl) zgl)) (zv rfl (za4 3 rfl zk trivial (lz0 0 rfl) (Sub.part 1 rfl rfl) zar) (zv rfl (za5 (xs:=[.tmp 7]) (zfz zo) (.cons (vq 4 rfl) .nil)) (oc (ob_a rfl rfl (za9 (lz0 0 rfl) zgk)) (zv rfl (za4 6 rfl zk trivial (lz0 0 rfl) (Sub.part 2 rfl rfl) zar) (zv rfl (za5 (xs:=[.tmp 10]) (zfz zo) (.cons (vq 7 rfl) .nil)) (oc (ob_a rfl rfl (za9 (lz0 0 rfl) zjp)) (zv rfl (za4 9 rfl zk trivial (lz0 0 rfl) (Sub.part 3 rfl rfl) zar) (zv rfl (za5 (xs:=[.tmp 13]) (zfz zo) (.cons (vq 10 rfl) .nil)) (zv rfl (za5 (xs:=[.tmp 5,.tmp 8,.tmp 11,.tmp 14]) zk7 (.cons (vq 2 rfl) (.cons (vq 5 rfl) (.cons (vq 8 rfl) (.cons (vq 11 rfl) .nil))))) (oc (zak rfl rfl rfl (vq 12 rfl) zcb (Eq.trans (b:=16) rfl rfl)) o0)))))))))))))) zk zk zk zk (zz [] [⟨1,78,ptrH,_⟩,⟨2,78,ptrH,_⟩] fun a w O=>?_)
 refine za0<|wp_ret<|zai ?_ (zaj rfl O (zm 1 rfl) zcb)
 exact (qm4 zo zo zo zo).va
theorem r10of_c {x:RE}(h:elF x=true):Cn Tryz.prog 30 [(REA x).va] ((QMA 4099 (elM x)).va):=by
 obtain ⟨hx,hk⟩:=znt h
 refine Cn.intro Tryz.func30 rfl zk nq (fun B w0 a O=>?_)
 have O:=zn [(0,(REA x).va)] [] O
 refine wp_seq<|zg [] [⟨1,69,ptrH,some 0,_,none⟩,⟨2,78,ptrH,some 1,_,none⟩] [.alc 0,.alc 1] [] O (oc (zam rfl rfl rfl (gq 0 rfl)) (oc (zas rfl rfl rfl (Str.zero zbj)) o0)) (zz [] [⟨1,69,ptrH,_⟩,⟨2,78,ptrH,_⟩] fun a w O=>?_)
 have O:=St.wkL O 0 rfl (el_q hx)
 refine zt<|wp_seq<|zg [none,none] [] [.adr 3 1 (.some 0) True,.v 4 _] [.o 1] O (oc (ob_a rfl rfl (za9 (lz0 0 rfl) zcy)) (zv rfl (za4 0 rfl zk trivial (lz0 0 rfl) (Sub.part 0 rfl rfl) zha) o0)) (zz [(4,_)] [⟨1,69,ptrH,_⟩,⟨2,78,ptrH,_⟩] fun a w O=>?_)
 refine za0<|wp_block<|wp_seq<|zg [none,none] [] [.v 6 _,.v 5 _] [.g 0,.o 1] O (zv rfl (zca (gq 0 rfl) za3) (zv rfl (za2 (vq 0 rfl)) o0)) (zz [(4,_),(5,_)] [⟨1,69,ptrH,_⟩,⟨2,78,ptrH,_⟩] fun a w O=>?_)
 refine za0<|za8 O (zm 1 rfl) (fun hb0=>?_) (fun hb0=>?_)
 ·have hk1:x.k=1:=by simpa using hb0
  refine wp_seq<|zg [none,some (3,_)] [] [.adr 7 1 (.some 1) True,.v 8 _,.v 9 _,.sto 1] [] O (oc (ob_a rfl rfl (za9 (lz0 0 rfl) zc8)) (zv rfl (za4 0 rfl zk trivial (lz0 0 rfl) (Sub.part 1 rfl rfl) zar) (zv rfl (za5 (xs:=[.tmp 8]) (zlu zo) (.cons (vq 1 rfl) .nil)) (oc (zak rfl rfl rfl (vq 2 rfl) zcb (Eq.trans (b:=16) rfl rfl)) o0)))) (zz [] [⟨1,69,ptrH,_⟩,⟨2,78,ptrH,_⟩] fun a w O=>?_)
  refine za0<|wp_ret<|zba ?_
  refine zag ?_
  refine zai ?_ (zaj rfl O (zm 1 rfl) zcb)
  rw [elM_1 hk1]; exact (zwi zd).va
 ·have hk1:¬ x.k=1:=by simpa using hb0
  refine wp_seq<|zg [none,none] [] [.v 11 _,.v 10 _] [.g 0,.o 1] O (zv rfl (zca (gq 0 rfl) za3) (zv rfl (za2 (vq 0 rfl)) o0)) (zz [(4,_),(10,_)] [⟨1,69,ptrH,_⟩,⟨2,78,ptrH,_⟩] fun a w O=>?_)
  refine za0<|za8 O (zm 1 rfl) (fun hb1=>?_) (fun hb1=>?_)
  ·have hk2:x.k=2:=by simpa using hb1
   refine wp_seq<|zg [none,some (3,_)] [] [.adr 12 1 (.some 1) True,.v 13 _,.v 14 _,.sto 1] [] O (oc (ob_a rfl rfl (za9 (lz0 0 rfl) zc8)) (zv rfl (za4 0 rfl zk trivial (lz0 0 rfl) (Sub.part 1 rfl rfl) zar) (zv rfl (za5 (xs:=[.tmp 13]) (zom zo) (.cons (vq 1 rfl) .nil)) (oc (zak rfl rfl rfl (vq 2 rfl) zcb (Eq.trans (b:=16) rfl rfl)) o0)))) (zz [] [⟨1,69,ptrH,_⟩,⟨2,78,ptrH,_⟩] fun a w O=>?_)
   refine za0<|wp_ret<|zba ?_
   refine zag ?_
   refine zai ?_ (zaj rfl O (zm 1 rfl) zcb)
   rw [elM_2 hk2]; exact (zwi zd).va
  ·have hk2:¬ x.k=2:=by simpa using hb1
   refine wp_seq<|zg [none,none] [] [.v 16 _,.v 15 _] [.g 0,.o 1] O (zv rfl (zca (gq 0 rfl) za3) (zv rfl (za2 (vq 0 rfl)) o0)) (zz [(4,_),(15,_)] [⟨1,69,ptrH,_⟩,⟨2,78,ptrH,_⟩] fun a w O=>?_)
   refine za0<|za8 O (zm 1 rfl) (fun hb2=>?_) (fun hb2=>?_)
   ·have hk3:x.k=3:=by simpa using hb2
    refine wp_seq<|zg [none,some (6,_)] [] [.adr 17 1 (.some 1) True,.v 18 _,.adr 19 1 (.some 5) True,.v 20 _,.v 21 _,.v 22 _,.sto 1] [] O (oc (ob_a rfl rfl (za9 (lz0 0 rfl) zc8)) (zv rfl (za4 0 rfl zk trivial (lz0 0 rfl) (Sub.part 1 rfl rfl) zar) (oc (ob_a rfl rfl (za9 (lz0 0 rfl) zcf)) (zv rfl (za4 2 rfl zk trivial (lz0 0 rfl) (Sub.part 2 rfl rfl) zar) (zv rfl (za5 (xs:=[.tmp 18,.tmp 20]) (r2over_q zo (q3_nz hk hk3)) (.cons (vq 1 rfl) (.cons (vq 3 rfl) .nil))) (zv rfl (za5 (xs:=[.tmp 21]) (zlu zo) (.cons (vq 4 rfl) .nil)) (oc (zak rfl rfl rfl (vq 5 rfl) zcb (Eq.trans (b:=16) rfl rfl)) o0))))))) (zz [] [⟨1,69,ptrH,_⟩,⟨2,78,ptrH,_⟩] fun a w O=>?_)
    refine za0<|wp_ret<|zba ?_
    refine zag ?_
    refine zai ?_ (zaj rfl O (zm 1 rfl) zcb)
    rw [elM_3 hk3]; exact (zwi zd).va
   ·have hk3:¬ x.k=3:=by simpa using hb2
    refine wp_seq<|zg [none,none] [] [.v 24 _,.v 23 _] [.o 1] O (zv rfl (zca (gq 0 rfl) za3) (zv rfl (za2 (vq 0 rfl)) o0)) (zz [(23,_)] [⟨1,69,ptrH,_⟩,⟨2,78,ptrH,_⟩] fun a w O=>?_)
    refine za0<|za8 O (zm 0 rfl) (fun hb3=>?_) (fun hb3=>?_)
    ·have hk4:x.k=4:=by simpa using hb3
     refine wp_seq<|zg [none,some (6,_)] [] [.adr 25 1 (.some 1) True,.v 26 _,.adr 27 1 (.some 5) True,.v 28 _,.v 29 _,.v 30 _,.sto 1] [] O (oc (ob_a rfl rfl (za9 (lz0 0 rfl) zc8)) (zv rfl (za4 0 rfl zk trivial (lz0 0 rfl) (Sub.part 1 rfl rfl) zar) (oc (ob_a rfl rfl (za9 (lz0 0 rfl) zcf)) (zv rfl (za4 2 rfl zk trivial (lz0 0 rfl) (Sub.part 2 rfl rfl) zar) (zv rfl (za5 (xs:=[.tmp 26,.tmp 28]) (zk5 zo) (.cons (vq 1 rfl) (.cons (vq 3 rfl) .nil))) (zv rfl (za5 (xs:=[.tmp 29]) (zom zo) (.cons (vq 4 rfl) .nil)) (oc (zak rfl rfl rfl (vq 5 rfl) zcb (Eq.trans (b:=16) rfl rfl)) o0))))))) (zz [] [⟨1,69,ptrH,_⟩,⟨2,78,ptrH,_⟩] fun a w O=>?_)
     refine za0<|wp_ret<|zba ?_
     refine zag ?_
     refine zai ?_ (zaj rfl O (zm 1 rfl) zcb)
     rw [elM_4 hk4]; exact (zwi zd).va
    ·have hk4:¬ x.k=4:=by simpa using hb3
     refine wp_skip<|zae ?_
     refine zt<|zg [none,some (2,_)] [] [.v 31 _,.v 32 _,.sto 1] [] O (zv rfl (za5 (xs:=[]) r9one_q .nil) (zv rfl (za5 (xs:=[.tmp 31]) (zpy (m:=⟨1,0,0,1⟩) zo) (.cons (vq 0 rfl) .nil)) (oc (zak rfl rfl rfl (vq 1 rfl) zcb (Eq.trans (b:=16) rfl rfl)) o0))) (zz [] [⟨1,69,ptrH,_⟩,⟨2,78,ptrH,_⟩] fun a w O=>?_)
     refine za0<|wp_ret<|zai ?_ (zaj rfl O (zm 1 rfl) zcb)
     rw [elM_5 hk1 hk2 hk3 hk4]; exact (zwi zd).va
end Go.Proofs.YthdbhckhignfcaaGreatDoor
namespace Go.Proofs.YthdbhckhignfcaaGreatDoor
open Go Go.RowKit
theorem zwe {c d:Nat}{m:MQ}{r:YQ}(hk:c+d≤200000000):Cn Tryz.prog 29 [(QMA c m).va,(QRA d r).va] ((QRA (c+d+(c+d)+1) (goQ m r)).va):=by
 refine Cn.intro Tryz.func29 rfl zk nq (fun B w0 a O=>?_)
 have O:=zn [(0,(QMA c m).va),(1,(QRA d r).va)] [] O
 refine wp_seq<|zg [] [⟨2,78,ptrH,some 0,_,none⟩,⟨3,29,ptrH,some 1,_,none⟩,⟨4,29,ptrH,some 2,_,none⟩] [.alc 0,.alc 1,.alc 2] [] O (oc (zam rfl rfl rfl (gq 0 rfl)) (oc (zam rfl rfl rfl (gq 1 rfl)) (oc (zas rfl rfl rfl (Str.zero zgy)) o0))) (zz [] [⟨2,78,ptrH,_⟩,⟨3,29,ptrH,_⟩,⟨4,29,ptrH,_⟩] fun a w O=>?_)
 refine zt<|zgd [[],[0],[],[2],[],[4],[],[6],[0,1,2,3,4,5,6,7],[],[9],[],[11],[],[13],[],[15],[0,1,2,3,4,5,6,7,8,9,10,11,12,13,14,15,16],[0,1,2,3,4,5,6,7,8,9,10,11,12,13,14,15,16,17],[0,1,2,3,4,5,6,7,8,9,10,11,12,13,14,15,16,17,18]] [none,none,some (19,_)] [] [.adr 5 2 (.some 0) True,.v 6 _,.adr 7 3 (.some 0) True,.v 8 _,.adr 9 2 (.some 4) True,.v 10 _,.adr 11 3 (.some 4) True,.v 12 _,.v 13 _,.adr 14 2 (.some 8) True,.v 15 _,.adr 16 3 (.some 0) True,.v 17 _,.adr 18 2 (.some 12) True,.v 19 _,.adr 20 3 (.some 4) True,.v 21 _,.v 22 _,.v 23 _,.sto 2] [] za6 O (oc (ob_a rfl rfl (za9 (lz0 0 rfl) zjq)) (zv rfl (za4 0 rfl zk trivial (lz0 0 rfl) (Sub.part 0 rfl rfl) zar) (oc (ob_a rfl rfl (za9 (lz0 1 rfl) zci)) (zv rfl (za4 2 rfl zk trivial (lz0 1 rfl) (Sub.part 0 rfl rfl) zar) (oc (ob_a rfl rfl (za9 (lz0 0 rfl) zgl)) (zv rfl (za4 4 rfl zk trivial (lz0 0 rfl) (Sub.part 1 rfl rfl) zar) (oc (ob_a rfl rfl (za9 (lz0 1 rfl) zch)) (zv rfl (za4 6 rfl zk trivial (lz0 1 rfl) (Sub.part 1 rfl rfl) zar) (zv rfl (za5 (xs:=[.tmp 6,.tmp 8,.tmp 10,.tmp 12]) (zrk zo) (.cons (vq 1 rfl) (.cons (vq 3 rfl) (.cons (vq 5 rfl) (.cons (vq 7 rfl) .nil))))) (oc (ob_a rfl rfl (za9 (lz0 0 rfl) zgk)) (zv rfl (za4 9 rfl zk trivial (lz0 0 rfl) (Sub.part 2 rfl rfl) zar) (oc (ob_a rfl rfl (za9 (lz0 1 rfl) zci)) (zv rfl (za4 11 rfl zk trivial (lz0 1 rfl) (Sub.part 0 rfl rfl) zar) (oc (ob_a rfl rfl (za9 (lz0 0 rfl) zjp)) (zv rfl (za4 13 rfl zk trivial (lz0 0 rfl) (Sub.part 3 rfl rfl) zar) (oc (ob_a rfl rfl (za9 (lz0 1 rfl) zch)) (zv rfl (za4 15 rfl zk trivial (lz0 1 rfl) (Sub.part 1 rfl rfl) zar) (zv rfl (za5 (xs:=[.tmp 15,.tmp 17,.tmp 19,.tmp 21]) (zrk zo) (.cons (vq 10 rfl) (.cons (vq 12 rfl) (.cons (vq 14 rfl) (.cons (vq 16 rfl) .nil))))) (zv rfl (zbg (xs:=[(0,.tmp 13),(1,.tmp 22)]) (qs:=[(0,_),(1,_)]) zgy (.cons ⟨rfl,(vq 8 rfl),rfl⟩ (.cons ⟨rfl,(vq 17 rfl),rfl⟩ .nil))) (oc (zak rfl rfl rfl (vq 18 rfl) zdg (Eq.trans (b:=8) rfl rfl)) o0)))))))))))))))))))) zk zk zk zk (zz [] [⟨2,78,ptrH,_⟩,⟨3,29,ptrH,_⟩,⟨4,29,ptrH,_⟩] fun a w O=>?_)
 refine za0<|wp_ret<|zai ?_ (zaj rfl O (zm 2 rfl) zdg)
 exact zbn
def LnY (y:YQ):Bool:=[y.y,y.u].any longQ
theorem frs_any {xs:List RE}{q:YQ}{n:Nat}:(frsL xs q n).any longQ=(raysL xs q n).any LnY:=by
 unfold frsL
 rw [List.any_flatMap]
 rfl
theorem any_no {l:List YQ}{i:Nat}(hi:i<l.length)(h:[l[i].y,l[i].u].any longQ=true):l.any LnY=true:=List.any_eq_true.2 ⟨_,List.getElem_mem hi,h⟩
theorem any_nx {l:List YQ}{i:Nat}(hi:i<l.length)(h1:(l.take i).any LnY=false)(h2:[l[i].y,l[i].u].any longQ=false):(l.take (i+1)).any LnY=false:=by
 rw [List.take_succ_eq_append_getElem hi,List.any_append,h1]
 show (false || (LnY l[i] || false))=false
 rw [show LnY l[i]=false from h2]
 rfl
theorem rays_q {xs:List RE}{q:YQ}{j:Nat}:(raysL xs q j).map (QRA 33566723)++[QRA 33566723 (rayQ xs q (j+1))]=(raysL xs q (j+1)).map (QRA 33566723):=by rw [zps,List.map_append]; rfl
theorem rays_w {l:List YQ}:Wk (SlA 29 [U32] (l.map (QRA 33566723))).va (SlA 29 [U32] ((l.map rrOf).map RRA)).va:=by
 rw [List.map_map]
 exact (zth (zgf fun _=>qrA) (zd6 fun _=>zfi zk)).va
set_option maxHeartbeats 2000000 in
theorem ztt (xs:List RE)(r:RR):Cn Tryz.prog 10 [(SlA 69 [U32] (xs.map REA)).va,(RRA r).va] (TrR (traF xs r)):=by
 obtain ⟨it,z,e1,e2,e3,e4,e5⟩:=zzj
 refine Cn.introF Tryz.func10 rfl zk nq (fun B w0 a hF O=>?_)
 have O:=zn [(0,(SlA 69 [U32] (xs.map REA)).va),(1,(RRA r).va)] [] O
 obtain ⟨v0,hv0,O⟩:=St.eqv O 0 rfl
 refine wp_seq<|zg [] [⟨3,29,ptrH,some 0,_,none⟩] [.alc 0,.v 4 _,.v 5 _] [.g 0,.o 1,.o 2] O (oc (zam rfl rfl rfl (gq 1 rfl)) (zv rfl (za2 zb8) (zv rfl (za2 za3) o0))) (zz [(0,_),(4,_),(5,_)] [⟨3,29,ptrH,_⟩] fun a w O=>?_)
 refine zt<|zg [none] [] [.v 10 _,.v 11 _,.v 6 _] [.g 0,.g 1,.g 2,.o 2] O (zv rfl (za1 (gq 0 rfl)) (zv rfl (za5 (xs:=[.tmp 10]) (ztu xs) (.cons (zc0 hF hv0 (vq 0 rfl)) .nil)) (zv rfl (za2 (vq 1 rfl)) o0))) (zz [(0,_),(4,_),(5,_),(6,_)] [⟨3,29,ptrH,_⟩] fun a w O=>?_)
 refine zt<|wp_seq<|zg [none] [] [.v 12 _,.v 13 _] [.g 0,.g 1,.g 2,.g 3,.o 1] O (zv rfl (za1 (gq 3 rfl)) (zv rfl (zdw (vq 0 rfl) za3) o0)) (zz [(0,_),(4,_),(5,_),(6,_),(13,_)] [⟨3,29,ptrH,_⟩] fun a w O=>?_)
 refine za0<|za8 O (zm 4 rfl) (fun hb0=>?_) (fun hb0=>?_)
 ·have hc:¬ chF xs=0:=by simpa using hb0
  refine wp_seq<|zg [none] [] [.v 14 _,.v 4 _,.v 5 _] [.g 0,.o 1,.o 2] O (zv rfl (za1 (gq 3 rfl)) (zv rfl (za2 zb8) (zv rfl (za2 (vq 0 rfl)) o0))) (zz [(0,_),(4,_),(5,_)] [⟨3,29,ptrH,_⟩] fun a w O=>?_)
  refine za0<|wp_ret<|zag ?_
  refine zai ?_ (zb6 (rs:=[.tmp 4,.tmp 5]) rfl O (.tmp (zm 1 rfl) (.tmp (zm 2 rfl) .nil)) zd)
  rw [traF,if_neg hc]; exact tu2w zrv zbn
 ·have hc:chF xs=0:=by simpa using hb0
  have hk:=ch_ok hc
  refine wp_skip<|zt<|wp_seq<|zg [none] [] [.v 15 _,.v 16 _,.v 17 _] [.g 0,.g 1,.g 2,.o 2] O (zv rfl (zaq (lz0 0 rfl) zdg) (zv rfl (za5 (xs:=[.tmp 15]) (ztp r) (.cons (vq 0 rfl) .nil)) (zv rfl (zeh (vq 1 rfl)) o0))) (zz [(0,_),(4,_),(5,_),(17,_)] [⟨3,29,ptrH,_⟩] fun a w O=>?_)
  refine za0<|za8 O (zm 3 rfl) (fun hb1=>?_) (fun hb1=>?_)
  ·have hno:¬ [r.y,r.u].all okX=true:=fun h=>by rw [h] at hb1; exact absurd hb1 zd
   refine wp_seq<|zg [none] [] [.v 4 _,.v 5 _] [.g 0,.o 0,.o 1] O (zv rfl (za2 zb8) (zv rfl (za2 za3) o0)) (zz [(0,_),(4,_),(5,_)] [⟨3,29,ptrH,_⟩] fun a w O=>?_)
   refine za0<|wp_ret<|zag ?_
   refine zai ?_ (zb6 (rs:=[.tmp 4,.tmp 5]) rfl O (.tmp (zm 1 rfl) (.tmp (zm 2 rfl) .nil)) zd)
   rw [traF,if_pos hc,if_neg hno]; exact tu2w zrv zbn
  ·have hok:[r.y,r.u].all okX=true:=by rw [Bool.not_eq_false'] at hb1; exact hb1
   have hq:=ray_q hok
   have O:=St.wkL O 0 rfl (ray_0w (xs:=xs) hok)
   refine wp_skip<|zt<|zg [none] [] [.v 7 _] [.g 0,.g 1,.g 2,.o 0] O (zv rfl (za2 zb8) o0) (zz [(0,_),(4,_),(5,_),(7,_)] [⟨3,29,ptrH,_⟩] fun a w O=>?_)
   obtain ⟨b,hwb,O⟩:=St.ownB (E:=29) (m:=8) (D:=[U32]) O 3 0 rfl rfl
   have O:=zn [(0,_),(4,_),(5,_),(7,_),(3,_)] [⟨3,29,ptrH,_⟩] O
   refine zt<|wp_seq<|zg [none] [] [.v 8 _] [.g 0,.g 1,.g 2,.g 3,.g 4,.o 0] O (zv rfl (za2 za3) o0) (zz [(0,_),(4,_),(5,_),(7,_),(3,_),(8,_)] [⟨3,29,ptrH,_⟩] fun a w O=>?_)
   refine za0<|wp_block ?_
   have O:=St.sel O [0,3,5,4]
   refine wp_loop_ghost (fun n a w=>∃ j:Nat,(n+j=xs.length)∧St B w0 54 [(0,EqV v0),(7,OwnB b 29 8 [U32] ((raysL xs (toY r) j).map (QRA 33566723))),(8,In (j:Nat)),(3,PtrLt b)] [⟨3,29,ptrH,QRA 33566723 (rayQ xs (toY r) j)⟩] a w) (xs.length) ?_ ?_
   ·exact ⟨0,by omega,O⟩
   intro n a w hI
   obtain ⟨j,hn,O⟩:=hI
   refine wp_seq<|wp_seq<|zg [none] [] [.v 18 _,.v 19 _,.v 20 _,.v 21 _] [.g 0,.g 1,.g 2,.g 3,.o 3] O (zv rfl (za1 (gq 2 rfl)) (zv rfl (za1 (gq 0 rfl)) (zv rfl (zbk Tryz.underlying22 (zc0 hF hv0 (vq 1 rfl))) (zv rfl (zb1 (vq 0 rfl) (vq 2 rfl)) o0)))) (zz [(0,_),(7,_),(8,_),(3,_),(21,_)] [⟨3,29,ptrH,_⟩] fun a w O=>?_)
   refine za0<|za8 O (zm 4 rfl) (fun hb2=>?_) (fun hb2=>?_)
   ·have hj:j<xs.length:=by rw [List.length_map] at hb2; have:=of_decide_eq_true hb2; omega
    refine wp_skip<|zt<|wp_block<|wp_seq ?_
    obtain ⟨v7,hv7,O⟩:=St.eqvw O 1 rfl
    have hp3:(PtrLt b).p B (a.eval (.tmp 3)) w:=O.vals _ (zm 3 rfl)
    have O:=St.setG (A':=andV (EqV v0) (SlA 69 [U32] (xs.map REA)).va) O 0 rfl (fun h=>⟨h,again_w hF hv0 _ _ h O.base⟩)
    obtain ⟨w1,O,hback⟩:=St.frame O
    have O:St B w1 54 [(0,_),(7,_),(8,_),(3,_),(21,_)] [⟨3,29,ptrH,_⟩] a w:=O
    refine zgd [[],[],[0,1],[0,1,2],[0,1,2,3],[],[0,1,2,3,4,5],[0,1,2,3,4,5,6]] [some (7,_)] [] [.v 24 _,.v 25 _,.v 26 _,.v 27 _,.v 28 _,.v 29 _,.v 30 _,.sto 0] [.g 0,.g 1,.g 2,.g 3] za6 O (zv rfl (za1 (has_wk' (gq 0 rfl) andV_2)) (zv rfl (za1 (gq 2 rfl)) (zv rfl (zd0 zhc (zgp fun _=>rfl) (vq 0 rfl) (vq 1 rfl) (ze1 hj)) (zv rfl (zad (vq 2 rfl) zeg) (zv rfl (za5 (xs:=[.tmp 27]) (r10of_c (List.all_eq_true.1 hk.2 _ (List.getElem_mem hj))) (.cons (vq 3 rfl) .nil)) (zv rfl (zaq (lz0 0 rfl) zdg) (zv rfl (za5 (xs:=[.tmp 28,.tmp 29]) (zwe (c:=4099) (d:=33566723) (m:=elM xs[j]) (r:=rayQ xs (toY r) j) zd) (.cons (vq 4 rfl) (.cons (vq 5 rfl) .nil))) (oc (zak rfl rfl rfl (vq 6 rfl) zdg (Eq.trans (b:=8) rfl rfl)) o0)))))))) zk zk zk zk (fun a w O=>?_)
    have O:St B w1 54 [(0,_),(7,_),(8,_),(3,_)] [⟨3,29,ptrH,_⟩] a w:=O
    have O:=St.wkG O 0 rfl zzn
    obtain ⟨O,hown⟩:=hback O
    have O:=St.putG O 1 rfl (hown hv7 hp3 zk)
    have O:=zn [(0,_),(7,_),(8,_),(3,_)] [⟨3,29,ptrH,_⟩] O
    have O:=St.wkL (A':=QRA 33566723 (rayQ xs (toY r) (j+1))) O 0 rfl ((zju (congrArg (QRA _) (ray_nx hj))).trans (qr_bQ (ray_b hk.1 hk.2 hq zo)))
    refine za0<|zqd (sp:=[.v 31 _,.v 32 _,.v 33 _,.v 34 VT,.v 7 VT]) 3 [0,2,3] 0 2 3 O (zv rfl (za1 (gq 1 rfl)) (zv rfl (zaq (lz0 0 rfl) zdg) (zv rfl (zcr (D:=[U32]) (l:=[_]) (xs:=[.tmp 32]) (zeq zk) zoe zk (n_ok zk) nq nq nq (.cons (vq 1 rfl) .nil) rfl rfl) o0))) rfl zk rfl rfl zd rfl zd rfl rfl zk hwb (fun _ _ h _=>h) Tryz.underlying35 e1 e2 e3 e4 e5 zd (by rw [List.length_map,ze3]; show j+1≤100000000000; omega) zd (fun T hT=>hT) zd (fun A hA=>by cases List.mem_singleton.1 hA; rfl) zk nq nq zk zk (zz [(7,_),(0,_),(8,_),(3,_)] [⟨3,29,ptrH,_⟩] fun a w O=>?_)
    refine zae ?_
    refine za0<|zg [none] [] [.v 22 _,.v 23 _,.v 8 _] [.g 0,.g 1,.g 3,.o 2] O (zv rfl (za1 (gq 2 rfl)) (zv rfl (zb5 (vq 0 rfl) za3 ((wi64 zo zo).trans (by omega:(_:Int)=((j+1:Nat):Int)))) (zv rfl (za2 (vq 1 rfl)) o0))) (zz [(7,_),(0,_),(3,_),(8,_)] [⟨3,29,ptrH,_⟩] fun a w O=>?_)
    refine za0 ?_
    have O:=St.sel O [1,0,3,2]
    rw [rays_q] at O
    exact ⟨n-1,by omega,j+1,by omega,O⟩
   ·obtain rfl:j=xs.length:=by rw [List.length_map] at hb2; have:=of_decide_eq_false hb2; omega
    have O:=St.wkG O 1 rfl (zc6 ownB_R zhj)
    refine wp_exit<|za7<|za7<|zap<|zt<|wp_seq<|zg [none] [] [.v 9 _] [.g 1,.o 0] O (zv rfl (za2 za3) o0) (zz [(7,_),(9,_)] [⟨3,29,ptrH,_⟩] fun a w O=>?_)
    refine za0<|wp_block ?_
    have O:=St.sel O [0,1]
    refine wp_loop_ghost (fun n a w=>∃ i:Nat,(n+i=xs.length∧((raysL xs (toY r) xs.length).take i).any LnY=false)∧St B w0 54 [(7,(SlA 29 [U32] ((raysL xs (toY r) xs.length).map (QRA 33566723))).va),(9,In (i:Nat))] [⟨3,29,ptrH,QRA 33566723 (rayQ xs (toY r) xs.length)⟩] a w) (xs.length) ?_ ?_
    ·exact ⟨0,⟨by omega,rfl⟩,O⟩
    intro n a w hI
    obtain ⟨i,⟨hn2,hna⟩,O⟩:=hI
    refine wp_seq<|wp_seq<|zg [none] [] [.v 35 _,.v 36 _,.v 37 _,.v 38 _] [.g 0,.g 1,.o 3] O (zv rfl (za1 (gq 1 rfl)) (zv rfl (za1 (gq 0 rfl)) (zv rfl (zbk Tryz.underlying35 (vq 1 rfl)) (zv rfl (zb1 (vq 0 rfl) (vq 2 rfl)) o0)))) (zz [(7,_),(9,_),(38,_)] [⟨3,29,ptrH,_⟩] fun a w O=>?_)
    refine za0<|za8 O (zm 2 rfl) (fun hb3=>?_) (fun hb3=>?_)
    ·have hi:i<(raysL xs (toY r) xs.length).length:=by rw [List.length_map] at hb3; have:=of_decide_eq_true hb3; omega
     refine wp_skip<|zt<|wp_block<|wp_seq<|zgd [[],[],[0,1],[0,1,2],[0,1,2,3],[],[],[5,6],[5,6,7],[5,6,7,8],[0,1,2,3,4,5,6,7,8,9],[0,1,2,3,4,5,6,7,8,9,10]] [none] [] [.v 41 _,.v 42 _,.v 43 _,.v 44 _,.v 45 _,.v 46 _,.v 47 _,.v 48 _,.v 49 _,.v 50 _,.v 51 _,.v 52 _] [.g 0,.g 1,.o 11] za6 O (zv rfl (za1 (gq 0 rfl)) (zv rfl (za1 (gq 1 rfl)) (zv rfl (zd0 zoe (zgp fun _=>rfl) (vq 0 rfl) (vq 1 rfl) (ze1 hi)) (zv rfl (zay (vq 2 rfl) zci (Sub.part 0 rfl rfl)) (zv rfl (zad (vq 3 rfl) zar) (zv rfl (za1 (gq 0 rfl)) (zv rfl (za1 (gq 1 rfl)) (zv rfl (zd0 zoe (zgp fun _=>rfl) (vq 5 rfl) (vq 6 rfl) (ze1 hi)) (zv rfl (zay (vq 7 rfl) zch (Sub.part 1 rfl rfl)) (zv rfl (zad (vq 8 rfl) zar) (zv rfl (zcr (D:=[U32]) (l:=[_,_]) (xs:=[.tmp 45,.tmp 50]) (zeq zk) zk1 zk (n_ok zk) nq nq nq (.cons (vq 4 rfl) (.cons (vq 9 rfl) .nil)) rfl rfl) (zv rfl (za5 (xs:=[.tmp 51]) (r2long_q [(raysL xs (toY r) xs.length)[i].y,(raysL xs (toY r) xs.length)[i].u] (.cons ⟨_,rfl⟩ (.cons ⟨_,rfl⟩ .nil)) nq) (.cons (vq 10 rfl) .nil)) o0)))))))))))) zk zk zk zk (zz [(7,_),(9,_),(52,_)] [⟨3,29,ptrH,_⟩] fun a w O=>?_)
     refine za0<|za8 O (zm 2 rfl) (fun hb4=>?_) (fun hb4=>?_)
     ·refine wp_seq<|zg [none] [] [.v 4 _,.v 5 _] [.g 0,.g 1,.o 0,.o 1] O (zv rfl (za2 zb8) (zv rfl (za2 za3) o0)) (zz [(7,_),(9,_),(4,_),(5,_)] [⟨3,29,ptrH,_⟩] fun a w O=>?_)
      refine za0<|wp_ret<|zba ?_
      refine zag ?_
      refine zag ?_
      refine zba ?_
      refine zag ?_
      refine zai ?_ (zb6 (rs:=[.tmp 4,.tmp 5]) rfl O (.tmp (zm 2 rfl) (.tmp (zm 3 rfl) .nil)) zd)
      rw [traF,if_pos hc,if_pos hok,if_pos (frs_any.trans (any_no hi (by simpa using hb4)))]; exact tu2w zrv zbn
     ·refine wp_skip<|zae ?_
      refine za0<|zg [none] [] [.v 39 _,.v 40 _,.v 9 _] [.g 0,.o 2] O (zv rfl (za1 (gq 1 rfl)) (zv rfl (zb5 (vq 0 rfl) za3 ((wi64 zo (by have:=(ch_ok hc).1; rw [ze3] at hi; omega)).trans (by omega:(_:Int)=((i+1:Nat):Int)))) (zv rfl (za2 (vq 1 rfl)) o0))) (zz [(7,_),(9,_)] [⟨3,29,ptrH,_⟩] fun a w O=>?_)
      refine za0 ?_
      have O:=St.sel O [0,1]
      have hi2:=hi
      rw [ze3] at hi2
      exact ⟨n-1,by omega,i+1,⟨by omega,any_nx hi hna (by simpa using hb4)⟩,O⟩
    ·have hil:i=xs.length:=by rw [List.length_map,ze3] at hb3; have:=of_decide_eq_false hb3; omega
     rw [hil,List.take_of_length_le (by rw [ze3]; exact Nat.le_refl _)] at hna
     refine wp_exit<|za7<|za7<|zap<|zt<|zg [none] [] [.v 53 _,.v 4 _,.v 5 _] [.o 1,.o 2] O (zv rfl (za1 (gq 0 rfl)) (zv rfl (za2 (vq 0 rfl)) (zv rfl (za2 za3) o0))) (zz [(4,_),(5,_)] [⟨3,29,ptrH,_⟩] fun a w O=>?_)
     refine za0<|wp_ret<|zai ?_ (zb6 (rs:=[.tmp 4,.tmp 5]) rfl O (.tmp (zm 0 rfl) (.tmp (zm 1 rfl) .nil)) zd)
     rw [traF,if_pos hc,if_pos hok,if_neg (by rw [frs_any,hna]; decide)]; exact tu2w rays_w zbn
end Go.Proofs.YthdbhckhignfcaaGreatDoor
