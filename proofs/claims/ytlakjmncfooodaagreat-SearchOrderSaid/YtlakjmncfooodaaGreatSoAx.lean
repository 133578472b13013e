/- SearchOrder: for all tasks and picks the law of chapter 26 on the order of ways answers true. No condition. -/
import Derived.Test.YtlakjmncfooodaaGreatSoAw
import Derived.Test.YtlakjmncfooodaaGreatRows
import Derived.ShutString
set_option linter.all false
set_option maxRecDepth 100000
namespace Go.Proofs.YtlakjmncfooodaaGreat
open Go Go.RowKit
variable {w:World}{B:Nat}{a:Act}{v:Value}{T:TypeId}{w0:Bs}{Γ:List (Nat × VA)}{Λ:List Lc}{ps:String}{af:Array Edge}{vr:Value}{H:Hd}{cs:List Value}{w':World}{P:Program}{D:List TypeId}
set_option maxHeartbeats 4000000 in
theorem gI (t:RTk)(x y z:List Int):Cn Tryz.prog 5 [(TkA t).va,(SlA 3 [] (x.map InA)).va,(SlA 3 [] (y.map InA)).va,(SlA 3 [] (z.map InA)).va] (Bo true):=by
 refine Cn.introW Tryz.func5 G zk nq (.cons (iv t).va (.cons (up_si x).va (.cons (up_si y).va (.cons (up_si z).va .nil)))) (eO true).va (λ B w0 a hB0 U=>?_)
 have U:=zn [(0,(TkO t).va),(1,(SlO 3 [] (x.map InA) True).va),(2,(SlO 3 [] (y.map InA) True).va),(3,(SlO 3 [] (z.map InA) True).va)] [] U
 refine qa<|zg [] [⟨4,30,ptrH,some 0,_,none⟩] [.alc 0,.v 8 _] [.g 1,.g 2,.g 3,.o 1] U (zW 0 G (zv G (a6 aG) o0)) (zz [(1,_),(2,_),(3,_),(8,_)] [O 4 30 _] λ a w U=>?_)
 refine zt<|qa<|zg [η] [] [.v 30 _,.v 31 _,.v 32 _,.v 33 _,.v 34 _,.v 35 _,.v 36 _,.v 37 _,.v 38 _,.v 39 _] [.g 0,.g 1,.g 2,.g 3,.o 9] U (zl 0 G c4 (zQ G ((tkCost_c _).wk (.cons tko_A.va .nil)) (.o (vq 0 G)) (zM 0 G (zv G (bz Tryz.underlying31 (ba (aq (vq 2 G)))) (zM 1 G (zv G (bz Tryz.underlying31 (ba (aq (vq 4 G)))) (zM 2 G (zv G (bz Tryz.underlying31 (ba (aq (vq 6 G)))) (zv G (bt (D:=[]) (l:=[_,_,_,_]) (xs:=[.tmp 31,.tmp 33,.tmp 35,.tmp 37]) (cI zk) fq zk (n_ok zk) nq nq nq (.cons (vq 1 G) (.cons (vq 3 G) (.p (vq 5 G) (vq 7 G)))) G G) (zQ G (beyond_c [_,_,_,_]) (.o (vq 8 G)) o0)))))))))) (zz [(1,_),(2,_),(3,_),(8,_),(39,_)] [O 4 30 _] λ a w U=>?_)
 refine a4<|a9 U (zm 4 G) (λ hb0=>?_) (λ hb0=>?_)
 ·refine qa<|zg [η] [] [.v 8 _] [.g 0,.g 1,.g 2,.o 0] U (zv G (a6 aG) o0) (zz [(1,_),(2,_),(3,_),(8,_)] [O 4 30 _] λ a w U=>?_)
  refine a4<|qe<|ac ?_
  refine ai ?_ (aj G U (zm 3 G))
  exact az
 ·refine qj<|zt<|zg [η] [] [.v 41 _,.v 42 _,.v 43 _,.v 44 _,.v 40 _,.v 45 _,.v 46 _,.v 9 _,.v 10 _] [.g 0,.g 1,.g 2,.g 3,.o 7,.o 8] U (zl 0 G c4 (zM 0 G (zM 1 G (zQ G ((dK _ _ _).wk (.cons tko_A.va (.cons slo_A.va (.cons slo_A.va .nil)))) (.cons (vq 0 G) (.p (vq 1 G) (vq 2 G))) (zv G (a8 (vq 3 G)) (zv G (co (vq 4 G)) (zv G (cn (vq 4 G)) (zA 5 G (zA 6 G o0))))))))) (zz [(1,_),(2,_),(3,_),(8,_),(9,_),(10,_)] [O 4 30 _] λ a w U=>?_)
  refine zt<|zg [η] [] [.v 48 _,.v 49 _,.v 50 _,.v 51 _,.v 47 _,.v 52 _,.v 53 _,.v 11 _,.v 12 _] [.g 0,.g 1,.g 2,.g 3,.g 4,.g 5,.o 7,.o 8] U (zl 0 G c4 (zM 1 G (zM 0 G (zQ G ((dK _ _ _).wk (.cons tko_A.va (.cons slo_A.va (.cons slo_A.va .nil)))) (.cons (vq 0 G) (.p (vq 1 G) (vq 2 G))) (zv G (a8 (vq 3 G)) (zv G (co (vq 4 G)) (zv G (cn (vq 4 G)) (zA 5 G (zA 6 G o0))))))))) (zz [(1,_),(2,_),(3,_),(8,_),(9,_),(10,_),(11,_),(12,_)] [O 4 30 _] λ a w U=>?_)
  refine zt<|qa<|zg [η] [] [.v 54 _,.v 55 _,.v 56 _,.f 57 _,.f 58 _,.v 59 _] [.g 0,.g 1,.g 2,.g 3,.g 4,.g 5,.g 6,.g 7,.o 5] U (zM 5 G (zv G (bv (vq 0 G) a5) (zv G (a8 (vq 1 G)) (zB 2 G (λ hg=>a8 (gq 7 G)) (zB 2 G (λ hg=>bv (ab (vq 3 G) hg) a5) (zv G (r_or (vq 2 G) (vq 4 G)) o0)))))) (zz [(1,_),(2,_),(3,_),(8,_),(9,_),(10,_),(11,_),(12,_),(59,_)] [O 4 30 _] λ a w U=>?_)
  refine a4<|a9 U (zm 8 G) (λ hb1=>?_) (λ hb1=>?_)
  ·refine qa<|zg [η] [] [.v 60 _,.v 61 _,.v 62 _,.v 63 _,.t 64 _,.t 65 _,.v 66 _,.v 67 _,.t 68 _,.t 69 _,.v 70 _,.v 71 _,.t 72 _,.v 73 _,.v 8 _] [.g 0,.g 1,.g 2,.g 4,.g 6,.o 14] U (zM 5 G (zM 7 G (zv G (bA (vq 0 G) (vq 1 G)) (zv G (a8 (vq 2 G)) (zB 3 G (λ hg=>a8 (gq 4 G)) (zB 3 G (λ hg=>cH (ab (vq 4 G) hg)) (zv G (bC (vq 3 G) (vq 5 G)) (zv G (a8 (vq 6 G)) (zB 7 G (λ hg=>a8 (gq 6 G)) (zB 7 G (λ hg=>cH (ab (vq 8 G) hg)) (zv G (bC (vq 7 G) (vq 9 G)) (zv G (a8 (vq 10 G)) (zB 11 G (λ hg=>bk fG .nil) (zv G (bC (vq 11 G) (vq 12 G)) (zA 13 G o0))))))))))))))) (zz [(1,_),(2,_),(3,_),(9,_),(11,_),(8,_)] [O 4 30 _] λ a w U=>?_)
   refine a4<|qe<|ac ?_
   refine ai ?_ (aj G U (zm 5 G))
   exact bo_t26 (by rw [bt_err hb1]; rfl)
  ·have h0:(btF t x y).2=0:=by simp only [qG] at hb1; simpa using hb1.1
   refine qj<|zt<|qa<|zg [η] [] [.v 74 _,.v 75 _,.t 76 _,.v 77 _,.v 78 _,.f 79 _,.f 80 _,.v 81 (Wh ((_=false)∧_=false) _),.f 82 _,.f 83 _,.f 84 _,.f 85 _,.f 86 _,.v 87 _] [.g 0,.g 1,.g 2,.g 3,.g 4,.g 6,.o 13] U (zM 4 G (zv G (a8 (vq 0 G)) (zB 1 G (λ hg=>a8 (gq 6 G)) (zv G (bC (vq 1 G) (vq 2 G)) (zv G (a8 (vq 3 G)) (zB 4 G (λ hg=>a8 (gq 4 G)) (zB 4 G (λ hg=>a8 (ab (vq 5 G) hg)) (oc (cC G G G (vq 6 G) nq (λ hg=>a8 (gq 6 G))) (zB 4 G (λ hg=>r_or (ab (vq 6 G) hg) (eN (vq 7 G) hg)) (zB 4 G (λ hg=>a8 (gq 0 G)) (zB 4 G (λ hg=>a8 (gq 1 G)) (zB 4 G (λ hg=>bk ((iH _ _).wk (.cons slo_A.va (.cons slo_A.va .nil))) (.p (ab (vq 9 G) hg) (ab (vq 10 G) hg))) (zB 4 G (λ hg=>r_eqlb zk (ab (vq 8 G) hg) (ab (vq 11 G) hg)) (zv G (r_or (vq 4 G) (vq 12 G)) o0)))))))))))))) (zz [(1,_),(2,_),(3,_),(8,_),(9,_),(11,_),(87,_)] [O 4 30 _] λ a w U=>?_)
   refine a4<|a9 U (zm 6 G) (λ hb2=>?_) (λ hb2=>?_)
   ·exact absurd (hb2.symm.trans (bt_one h0)) zd
   ·refine qj<|zt<|zg [η] [] [.v 89 _,.v 90 _,.v 91 _,.v 92 _,.v 88 _,.v 93 _,.v 94 _,.v 13 _,.v 14 _] [.g 0,.g 1,.g 2,.g 3,.g 4,.g 5,.o 7,.o 8] U (zl 0 G c4 (zM 1 G (zM 2 G (zQ G ((dK _ _ _).wk (.cons tko_A.va (.cons slo_A.va (.cons slo_A.va .nil)))) (.cons (vq 0 G) (.p (vq 1 G) (vq 2 G))) (zv G (a8 (vq 3 G)) (zv G (co (vq 4 G)) (zv G (cn (vq 4 G)) (zA 5 G (zA 6 G o0))))))))) (zz [(1,_),(2,_),(3,_),(8,_),(9,_),(11,_),(13,_),(14,_)] [O 4 30 _] λ a w U=>?_)
    refine zt<|zg [η] [] [.v 96 _,.v 97 _,.v 98 _,.v 99 _,.v 95 _,.v 100 _,.v 101 _,.v 15 _,.v 16 _] [.g 0,.g 1,.g 3,.g 4,.g 5,.g 6,.g 7,.o 7,.o 8] U (zl 0 G c4 (zM 0 G (zM 2 G (zQ G ((dK _ _ _).wk (.cons tko_A.va (.cons slo_A.va (.cons slo_A.va .nil)))) (.cons (vq 0 G) (.p (vq 1 G) (vq 2 G))) (zv G (a8 (vq 3 G)) (zv G (co (vq 4 G)) (zv G (cn (vq 4 G)) (zA 5 G (zA 6 G o0))))))))) (zz [(1,_),(2,_),(8,_),(9,_),(11,_),(13,_),(14,_),(15,_),(16,_)] [O 4 30 _] λ a w U=>?_)
    refine zt<|qa<|zg [η] [] [.v 102 _,.v 103 _,.t 104 _,.v 105 _,.v 106 _,.t 107 _,.t 108 _,.v 109 _,.v 110 _,.t 111 _,.t 112 _,.t 113 _,.v 114 (Wh ((_=true)∧_=false) _),.v 115 (Wh ((_=true)∧_=false) _),.t 116 _,.v 117 _] [.g 0,.g 1,.g 2,.g 3,.g 4,.o 15] U (zM 3 G (zv G (a8 (vq 0 G)) (zB 1 G (λ hg=>a8 (gq 5 G)) (zv G (bC (vq 1 G) (vq 2 G)) (zv G (a8 (vq 3 G)) (zB 4 G (λ hg=>a8 (gq 6 G)) (zB 4 G (λ hg=>bA (ab (vq 5 G) hg) a5) (zv G (bC (vq 4 G) (vq 6 G)) (zv G (a8 (vq 7 G)) (zB 8 G (λ hg=>a8 (gq 8 G)) (zB 8 G (λ hg=>bv (ab (vq 9 G) hg) a5) (zB 8 G (λ hg=>a8 (ab (vq 10 G) hg)) (oc (cC G G G (vq 11 G) nq (λ hg=>a8 (gq 7 G))) (oc (cC G G G (vq 11 G) nq (λ hg=>cH (ab (vq 12 G) hg))) (zB 8 G (λ hg=>r_or (ab (vq 11 G) hg) (eN (vq 13 G) hg)) (zv G (bC (vq 8 G) (vq 14 G)) o0)))))))))))))))) (zz [(1,_),(2,_),(8,_),(9,_),(11,_),(117,_)] [O 4 30 _] λ a w U=>?_)
    refine a4<|a9 U (zm 5 G) (λ hb3=>?_) (λ hb3=>?_)
    ·exact (bt_tr (z:=z) h0 hb3).elim
    ·refine qj<|zt<|zg [η] [⟨17,28,ptrH,some 6,_,some (7,_)⟩] [.v 119 _,.v 120 _,.v 121 _,.v 118 _,.v 122 _,.v 123 _,.alc 1,.sto 1,.v 18 _] [.g 1,.g 2,.g 3,.g 4,.o 8] U (zl 0 G c4 (zM 0 G (zQ G ((iN (bench_c _ _)).wk (.cons tko_A.va (.cons slo_A.va .nil))) (.p (vq 0 G) (vq 1 G)) (zv G (a8 (vq 2 G)) (zv G (co (vq 3 G)) (zv G (cn (vq 3 G)) (zY G (Str.zero ap) (zS 4 G aa (zA 5 G o0))))))))) (zz [(2,_),(8,_),(9,_),(11,_),(18,_)] [O 4 30 _,O 17 28 _] λ a w U=>?_)
     refine zt<|zg [η,η] [⟨19,28,ptrH,some 6,_,some (7,_)⟩] [.v 125 _,.v 126 _,.v 127 _,.v 124 _,.v 128 _,.v 129 _,.alc 2,.sto 2,.v 20 _] [.g 1,.g 2,.g 3,.g 4,.o 8] U (zl 0 G c4 (zM 0 G (zQ G ((iN (bench_c _ _)).wk (.cons tko_A.va (.cons slo_A.va .nil))) (.p (vq 0 G) (vq 1 G)) (zv G (a8 (vq 2 G)) (zv G (co (vq 3 G)) (zv G (cn (vq 3 G)) (zY G (Str.zero ap) (zS 4 G aa (zA 5 G o0))))))))) (zz [(8,_),(9,_),(11,_),(18,_),(20,_)] [O 4 30 _,O 17 28 _,O 19 28 _] λ a w U=>?_)
     refine zt<|zg [η,η,η] [⟨21,28,ptrH,some 7,_,some (8,_)⟩] [.v 131 _,.adr 132 4 (.some 2) True,.v 133 _,.v 134 _,.v 130 _,.v 135 _,.v 136 _,.alc 3,.sto 3,.v 22 _] [.g 0,.g 1,.g 2,.g 3,.g 4,.o 9] U (zl 1 G aa (zO 0 G er (zL 1 0 2 G aa (zQ G (subF_c _ _) (.p (vq 0 G) (vq 2 G)) (zv G (a8 (vq 3 G)) (zv G (co (vq 4 G)) (zv G (cn (vq 4 G)) (zY G (Str.zero ap) (zS 5 G aa (zA 6 G o0)))))))))) (zz [(8,_),(9,_),(11,_),(18,_),(20,_),(22,_)] [O 4 30 _,O 17 28 _,O 19 28 _,O 21 28 _] λ a w U=>?_)
     refine zt<|zg [η,η,η,η] [⟨23,28,ptrH,some 7,_,some (8,_)⟩] [.v 138 _,.adr 139 4 (.some 2) True,.v 140 _,.v 141 _,.v 137 _,.v 142 _,.v 143 _,.alc 4,.sto 4,.v 24 _] [.g 0,.g 1,.g 2,.g 3,.g 4,.g 5,.o 9] U (zl 2 G aa (zO 0 G er (zL 1 0 2 G aa (zQ G (subF_c _ _) (.p (vq 0 G) (vq 2 G)) (zv G (a8 (vq 3 G)) (zv G (co (vq 4 G)) (zv G (cn (vq 4 G)) (zY G (Str.zero ap) (zS 5 G aa (zA 6 G o0)))))))))) (zz [(8,_),(9,_),(11,_),(18,_),(20,_),(22,_),(24,_)] [O 4 30 _,O 17 28 _,O 19 28 _,O 21 28 _,O 23 28 _] λ a w U=>?_)
     refine zt<|zg [η,η,η,η,η] [⟨25,28,ptrH,some 6,_,some (7,_)⟩] [.v 145 _,.v 146 _,.v 147 _,.v 144 _,.v 148 _,.v 149 _,.alc 5,.sto 5,.v 26 _] [.g 0,.g 1,.g 2,.g 3,.g 4,.g 5,.g 6,.o 8] U (zl 3 G aa (zl 3 G aa (zQ G (mul_c _ _) (.p (vq 0 G) (vq 1 G)) (zv G (a8 (vq 2 G)) (zv G (co (vq 3 G)) (zv G (cn (vq 3 G)) (zY G (Str.zero ap) (zS 4 G aa (zA 5 G o0))))))))) (zz [(8,_),(9,_),(11,_),(18,_),(20,_),(22,_),(24,_),(26,_)] [O 4 30 _,O 17 28 _,O 19 28 _,O 21 28 _,O 23 28 _,O 25 28 _] λ a w U=>?_)
     refine zt<|zg [η,η,η,η,η,η] [⟨27,28,ptrH,some 6,_,some (7,_)⟩] [.v 151 _,.v 152 _,.v 153 _,.v 150 _,.v 154 _,.v 155 _,.alc 6,.sto 6,.v 28 _] [.g 0,.g 1,.g 2,.g 3,.g 4,.g 5,.g 6,.g 7,.o 8] U (zl 4 G aa (zl 4 G aa (zQ G (mul_c _ _) (.p (vq 0 G) (vq 1 G)) (zv G (a8 (vq 2 G)) (zv G (co (vq 3 G)) (zv G (cn (vq 3 G)) (zY G (Str.zero ap) (zS 4 G aa (zA 5 G o0))))))))) (zz [(8,_),(9,_),(11,_),(18,_),(20,_),(22,_),(24,_),(26,_),(28,_)] [O 4 30 _,O 17 28 _,O 19 28 _,O 21 28 _,O 23 28 _,O 25 28 _,O 27 28 _] λ a w U=>?_)
     refine zt<|qa<|zg [η,η,η,η,η,η,η] [] [.v 156 _,.v 157 _,.t 158 _,.v 159 _,.v 160 _,.t 161 _,.t 162 _,.v 163 _,.v 164 _,.t 165 _,.t 166 _,.v 167 _,.v 168 _,.t 169 _,.t 170 _,.v 171 _,.v 172 _,.t 173 _,.t 174 _,.v 175 _] [.g 0,.g 1,.g 2,.o 19] U (zM 3 G (zv G (a8 (vq 0 G)) (zB 1 G (λ hg=>a8 (gq 4 G)) (zv G (bC (vq 1 G) (vq 2 G)) (zv G (a8 (vq 3 G)) (zB 4 G (λ hg=>a8 (gq 5 G)) (zB 4 G (λ hg=>bA (ab (vq 5 G) hg) a5) (zv G (bC (vq 4 G) (vq 6 G)) (zv G (a8 (vq 7 G)) (zB 8 G (λ hg=>a8 (gq 6 G)) (zB 8 G (λ hg=>bA (ab (vq 9 G) hg) a5) (zv G (bC (vq 8 G) (vq 10 G)) (zv G (a8 (vq 11 G)) (zB 12 G (λ hg=>a8 (gq 7 G)) (zB 12 G (λ hg=>bA (ab (vq 13 G) hg) a5) (zv G (bC (vq 12 G) (vq 14 G)) (zv G (a8 (vq 15 G)) (zB 16 G (λ hg=>a8 (gq 8 G)) (zB 16 G (λ hg=>bA (ab (vq 17 G) hg) a5) (zv G (bC (vq 16 G) (vq 18 G)) o0)))))))))))))))))))) (zz [(8,_),(9,_),(11,_),(175,_)] [O 4 30 _,O 17 28 _,O 19 28 _,O 21 28 _,O 23 28 _,O 25 28 _,O 27 28 _] λ a w U=>?_)
     refine a4<|a9 U (zm 3 G) (λ hb4=>?_) (λ hb4=>?_)
     ·skip
      refine qa<|zg [η,η,η,η,η,η,η] [] [.v 176 _,.v 177 _,.v 178 _,.v 29 _] [.g 0,.g 1,.g 2,.o 3] U (zl 5 G aa (zl 6 G aa (zQ G (fracCmp_c _ _) (.p (vq 0 G) (vq 1 G)) (zA 2 G o0)))) (zz [(8,_),(9,_),(11,_),(29,_)] [O 4 30 _,O 17 28 _,O 19 28 _,O 21 28 _,O 23 28 _,O 25 28 _,O 27 28 _] λ a w U=>?_)
      refine zt<|zg [η,η,η,η,η,η,η] [] [.v 179 _,.v 180 _,.v 181 _,.t 182 _,.t 183 _,.v 184 _,.v 185 _,.f 186 _,.f 187 _,.f 188 _,.v 189 (Wh ((_=false)∧_=true) _),.v 190 (Wh ((_=false)∧_=true) _),.f 191 _,.v 192 _] [.g 0,.o 13] U (zM 3 G (zv G (aX (vq 0 G) a5) (zv G (a8 (vq 1 G)) (zB 2 G (λ hg=>a8 (gq 1 G)) (zB 2 G (λ hg=>cH (ab (vq 3 G) hg)) (zv G (bC (vq 2 G) (vq 4 G)) (zv G (a8 (vq 5 G)) (zB 6 G (λ hg=>a8 (gq 3 G)) (zB 6 G (λ hg=>cU (ab (vq 7 G) hg) a5) (zB 6 G (λ hg=>a8 (ab (vq 8 G) hg)) (oc (cC G G G (vq 9 G) nq (λ hg=>a8 (gq 2 G))) (oc (cC G G G (vq 9 G) nq (λ hg=>cH (ab (vq 10 G) hg))) (zB 6 G (λ hg=>bC (ab (vq 9 G) hg) (eN (vq 11 G) hg)) (zv G (r_or (vq 6 G) (vq 12 G)) o0)))))))))))))) (zz [(8,_),(192,_)] [O 4 30 _,O 17 28 _,O 19 28 _,O 21 28 _,O 23 28 _,O 25 28 _,O 27 28 _] λ a w U=>?_)
      refine a4<|a9 U (zm 1 G) (λ hb5=>?_) (λ hb5=>?_)
      ·exact (bt_pw h0 hb4 hb5).elim
      ·refine qj<|zt<|zg [η,η,η,η,η,η,η] [] [.v 193 _,.v 8 _] [.o 1] U (zQ G fG .nil (zA 0 G o0)) (zz [(8,_)] [O 4 30 _,O 17 28 _,O 19 28 _,O 21 28 _,O 23 28 _,O 25 28 _,O 27 28 _] λ a w U=>?_)
       refine a4<|qe<|ai ?_ (aj G U (zm 0 G))
       exact az
     ·refine qj<|zt<|zg [η,η,η,η,η,η,η] [] [.v 193 _,.v 8 _] [.o 1] U (zQ G fG .nil (zA 0 G o0)) (zz [(8,_)] [O 4 30 _,O 17 28 _,O 19 28 _,O 21 28 _,O 23 28 _,O 25 28 _,O 27 28 _] λ a w U=>?_)
      refine a4<|qe<|ai ?_ (aj G U (zm 0 G))
      exact az
open Go.ChangeShapes Go.WideShapes Go.ChangeAt
open Go.ChangeMaps (open_string shut_string)
theorem own:ownKnob Tryz.prog.godebug=none:=by kernel_rfl
theorem laidOut:laidOutB Tryz.prog=true:=by kernel_rfl
theorem lifted (os:Os)(started:os.Started)(H:Type)(enc:TypeId × Value→H) :
  ReturnsInHanded {} Tryz.checked os 5 .any (Rows.searchOrderSpec.pre6 enc Tryz.prog Tryz.f5 Rows.searchOrderRow.domain false) (Rows.searchOrderSpec.post enc Tryz.prog Tryz.f5 false true false false):=by
 refine returnsInHanded_of_change (C:=Tryz.checked) own started zk Tryz.func5
  (ChangeSpec.witness6 (enc:=enc) (C:=Tryz.checked) false ⟨#[],#[.agg #[.slice none 0 0,.slice none 0 0,.bool false,.slice none 0 0,.bool false,.slice none 0 0],.slice none 0 0,.slice none 0 0,.slice none 0 0],[]⟩ 8 zk zk zk zk) ?_
 intro W base args ds gs before hval0 hW hcnd _
 have hval:∀ (j:Nat) t v,Tryz.f5.params[j]?=some t→args[j]?=some v→Value.okWide Tryz.prog W .any base t v:=hval0
 have hW':=hW
 obtain ⟨p,q,hA0,hV,rfl,hfz,hnd⟩:=hW
 have hA:DataW.TrodAll enc Tryz.prog W 0 (λ _=>true) true Tryz.f5.params.toList args.toList ds p:=hA0
 rw [Tryz.params5] at hA hval
 obtain ⟨v0,vs0,d0,ds0,p0,q0,hargs,rfl,rfl,h0,r0⟩:=trodAll_cons hA
 obtain ⟨v1,vs1,d1,ds1,p1,q1,rfl,rfl,rfl,h1,r1⟩:=trodAll_cons r0
 obtain ⟨v2,vs2,d2,ds2,p2,q2,rfl,rfl,rfl,h2,r2⟩:=trodAll_cons r1
 obtain ⟨v3,vs3,d3,ds3,p3,q3,rfl,rfl,rfl,h3,r3⟩:=trodAll_cons r2
 obtain ⟨rfl,rfl,rfl⟩:=trodAll_nil r3
 obtain rfl:args = #[v0,v1,v2,v3]:=by cases args; simp_all
 obtain ⟨rfl,rfl⟩:=trodVars_none hV
 have k0:=h0
 have lt0:∀ x∈p0,x.block<W.heap.size:=by obtain ⟨m,hm⟩:=k0; exact DataW.trod_lt m _ _ _ hm
 have k1:=h1
 have lt1:∀ x∈p1,x.block<W.heap.size:=by obtain ⟨m,hm⟩:=k1; exact DataW.trod_lt m _ _ _ hm
 have k2:=h2
 have lt2:∀ x∈p2,x.block<W.heap.size:=by obtain ⟨m,hm⟩:=k2; exact DataW.trod_lt m _ _ _ hm
 have k3:=h3
 have lt3:∀ x∈p3,x.block<W.heap.size:=by obtain ⟨m,hm⟩:=k3; exact DataW.trod_lt m _ _ _ hm
 obtain ⟨x0,a0⟩:=arg_of (A:=TkA) (λ _=>rfl) Tryz.underlying30 rd_tk (hval 0 30 v0 rfl rfl) h0
 obtain ⟨x1,a1⟩:=arg_sl (A:=InA) (m:=1) (D:=[]) Tryz.underlying31 zk zd (λ _=>fB zk) rd_in (hval 1 31 v1 rfl rfl) h1
 obtain ⟨x2,a2⟩:=arg_sl (A:=InA) (m:=1) (D:=[]) Tryz.underlying31 zk zd (λ _=>fB zk) rd_in (hval 2 31 v2 rfl rfl) h2
 obtain ⟨x3,a3⟩:=arg_sl (A:=InA) (m:=1) (D:=[]) Tryz.underlying31 zk zd (λ _=>fB zk) rd_in (hval 3 31 v3 rfl rfl) h3
 clear hA0 hval0
 refine ((gI x0 x1 x2 x3).2 W.heap.size W [v0,v1,v2,v3] (qg _) (.cons a0 (.cons a1 (.cons a2 (.cons a3 .nil))))).mono λ e W' ⟨v,he,hv,bel⟩=>?_
 have hv':=cu hv
 subst hv' he
 exact ⟨_,rfl,_,_,_,[],_,[],hW',trodAll_mk1 (shut_bool Tryz.underlying4 _),(trodAll_cons_mk (Below.trod laidOut zk (qp zk) k0 bel lt0) (trodAll_cons_mk (Below.trod laidOut zk (qp zk) k1 bel lt1) (trodAll_cons_mk (Below.trod laidOut zk (qp zk) k2 bel lt2) (trodAll_cons_mk (Below.trod laidOut zk (qp zk) k3 bel lt3) trodAll_mk0)))),rfl,bel.frame _,λ h=>by cases h⟩
theorem over:Rows.searchOrderRow.holds Tryz.pinned (OpenSpec.ofChange Rows.searchOrderSpec) :=
 OpenClaim.holds_of_wide 5 Tryz.f5 rfl rfl rfl rfl rfl rfl rfl ⟨rfl,rfl,rfl,rfl,rfl⟩ rfl rfl rfl rfl rfl zk Tryz.func5 zk
  (qp zk) (by unfold Func.isWrapper; rw [qk (qy zk)]; exact ⟨rfl,rfl⟩)
  (λ os started H enc _=>lifted os started H enc)
theorem provedSearchOrder:Rows.SearchOrderSaid:=over
#print axioms provedSearchOrder
end Go.Proofs.YtlakjmncfooodaaGreat
